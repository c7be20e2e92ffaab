/- hypercubelaw19.TranspSwaps returns true for every term: what is turned round the other way is as the document has it; the card with an upper bound of the input's bulk. -/
import Derived.Test.YtgajalidbabccaaGreatDoorX5
import Derived.KernelRfl
namespace Go.Proofs.YtgajalidbabccaaGreatDoor
open Go PI
set_option linter.unusedVariables false
set_option linter.unusedSimpArgs false
set_option maxRecDepth 20000
variable {S:Type} {k:Nat}
abbrev Fd (k n:Nat):Prop:=4294967296+n≤k
theorem Fd.fu {n:Nat} (h:Fd k n):Fu k:=by omega
theorem Fd.pos {n:Nat} (h:Fd k n): ∃q,k=q+1∧ ∀j,j+1≤n→Fd q j:=⟨k-1,by omega,fun j hj=>by omega⟩
theorem Fd.pos' {n:Nat} (h:Fd k n) (hn:1≤n): ∃q,k=q+1∧Fu q∧ ∀j,j+1≤n→Fd q j:=⟨k-1,by omega,by omega,fun j hj=>by omega⟩
theorem cM (t:Tm):1≤av t:=by cases t;rw [av];omega
theorem qV (t:Tm):av t=max (bt t.kids) (bU t.sys)+1:=by cases t;rfl
theorem D_ (t:Tm):aD t=1+aN t.kids+aZ t.sys:=by cases t;rfl
theorem cr {t x:Tm} (h:x∈t.kids):av x+1≤av t:=by rw [qV t];have:=Hj h;omega
theorem cL {t:Tm} {b:Br Tm} {x:Tm} (hb:b∈t.sys) (h:x∈b.kids):av x+1≤av t:=by rw [qV t];have:=Hj h;have:=XB hb;omega
theorem dW {Q:Tm→Prop} (h: ∀t,(∀x∈t.kids,Q x)→(∀b∈t.sys,∀x∈b.kids,Q x)→Q t) (t:Tm):Q t:=h9 (fun kd n nm r ks sys h1 h2=>h (.mk kd n nm r ks sys) h1 h2) t
theorem Xy {p q:Prop} [Decidable p] [Decidable q] (h:p↔q):decide p=decide q:=decide_eq_decide.2 h
theorem D7 {α:Type} (b c:Bool) (x y:α):ab (!b) y (if c then x else y)=if b&&c then x else y:=by cases b<;>cases c<;>rfl
theorem js {S:Type} (b c:Bool) (ret:Bool→Option S):ab (!b) (ret false) (ret c)=ret (b&&c):=by cases b<;>rfl
theorem aaZ {S:Type} (b c:Bool) (ret:Bool→Option S):(if b=true then ret c else ret false)=ret (b&&c):=by grind
theorem be {n:Int} (h1: -9223372036854775808≤n) (h2:n<9223372036854775808):IntKind.wrap .i64 n=n:=da h1 h2
section
variable {hd:Tm→Int→(Bool→Option S)→Option S} {c0:Int} {t:Tm} {Q:Tm→Bool}
theorem acn (hk:Fu k) (ret:Bool→Option S) (rec1:Int→Int→Option S) (hc: -9223372036854775807≤c0) (hc':c0<9223372036854775808) {v more:Int} {x:Br Tm} (hQ: ∀y∈x.kids,∀g,hd y (c0-1) g=g (Q y)) (hl:x.kids.length<1073741824):
  ∀ (r p:List Tm) (m:Nat),x.kids=p++r→r.length<m→lU hd k ret rec1 c0 t v x more m (p.length:Int)=if r.all Q then rec1 (IntKind.wrap .i64 (v+1)) more else ret false:=by
 intro r
 induction r with
 |nil=>
  grind [ak,lU,uH,ai]
 |cons y r ih=>
  intro p m h hm
  obtain ⟨m,rfl,hm'⟩:=ak hm
  obtain ⟨e1,e2,e3,e4⟩:=az h (by omega)
  have hy:=hQ y (by grind)
  simp only [lU,uH,e1,aj,e2,Option.bind_some,al hk,qR,Fq,aU,be (show-9223372036854775808≤c0-1 by omega) (by omega),hy,e3,ih (p++[y]) m e4 hm',D7]
  rfl
theorem acm (hk:Fu k) (ret:Bool→Option S) (hc: -9223372036854775807≤c0) (hc':c0<9223372036854775808) {more:Int} (hQ: ∀b∈t.sys,∀y∈b.kids,∀g,hd y (c0-1) g=g (Q y)) (hl:t.sys.length<1073741824) (hl': ∀b∈t.sys,b.kids.length<1073741824):
  ∀ (r p:List (Br Tm)) (m:Nat),t.sys=p++r→r.length<m→g6 hd k ret c0 t m (p.length:Int) more=ret (r.all fun b=>b.kids.all Q):=by
 intro r
 induction r with
 |nil=>
  grind [ak,g6,p7,ai]
 |cons x r ih=>
  intro p m h hm
  obtain ⟨m,rfl,hm'⟩:=ak hm
  obtain ⟨e1,e2,e3,e4⟩:=az h (by omega)
  have hx:x∈t.sys:=by grind
  have hlx:=hl' x hx
  have:=acn (t:=t) hk ret (g6 hd k ret c0 t m) (v:=(p.length:Int)) (more:=more) hc hc' (hQ x hx) hlx x.kids [] k rfl (by omega)
  simp only [g6,p7,e1,aj,e2,Option.bind_some,List.all_cons]
  refine Eq.trans this ?_
  rw [e3,ih (p++[x]) m e4 hm']
  cases x.kids.all Q<;>rfl
theorem acl (hk:Fu k) (ret:Bool→Option S) (hc: -9223372036854775807≤c0) (hc':c0<9223372036854775808) (hQ: ∀y∈t.kids,∀g,hd y (c0-1) g=g (Q y)) (hQ': ∀b∈t.sys,∀y∈b.kids,∀g,hd y (c0-1) g=g (Q y)) (ht:OkT t):
  ∀ (r p:List Tm) (m:Nat),t.kids=p++r→r.length<m→oj hd k ret c0 t m (p.length:Int)=ret (r.all Q&&t.sys.all fun b=>b.kids.all Q):=by
 obtain ⟨o1,o2,o3,o4,o5,o6,o7⟩:=ht.no
 intro r
 induction r with
 |nil=>
  intro p m h hm
  obtain ⟨m,rfl,hm'⟩:=ak hm
  have hs: ∀more:Int,g6 hd k ret c0 t k 0 more=_:=fun more=>acm hk ret hc hc' (more:=more) hQ' o7 (fun b hb=>(ht.bi hb).1.2.2) t.sys [] k rfl (by omega)
  simp only [oj,p6,cQ h,ai,hs]
  cases (t.kind==15)<;>rfl
 |cons y r ih=>
  intro p m h hm
  obtain ⟨m,rfl,hm'⟩:=ak hm
  obtain ⟨e1,e2,e3,e4⟩:=az h (by omega)
  have hy:=hQ y (by grind)
  simp only [oj,p6,e1,aj,e2,Option.bind_some,al hk,oP,qR,Fq,aU,be (show-9223372036854775808≤c0-1 by omega) (by omega),hy,e3,ih (p++[y]) m e4 hm',js,List.all_cons,Bool.and_assoc]
end
theorem Hh {n:Int} (hn:0≤n): ∀ {l:List Tm},(l.all fun x=>decide ((av x:Int)≤n))=decide ((bt l:Int)≤n):=by
 intro l
 induction l<;>grind [bt]
theorem Xz {n:Int} (hn:0≤n): ∀ {l:List (Br Tm)},(l.all fun b=>b.kids.all fun x=>decide ((av x:Int)≤n))=decide ((bU l:Int)≤n):=by
 intro l
 induction l with
 |nil=>rw [bU];simp [hn]
 |cons b l ih=>rw [List.all_cons,ih,Hh hn,bU,qU,Bool.eq_iff_iff];grind
theorem aha (t:Tm):OkT t→ ∀ {k:Nat} {left:Int} (ret:Bool→Option S),Fd k (av t)→ -4611686018427387904≤left→left<4611686018427387904→gV k t left ret=ret (decide ((av t:Int)≤left)):=by
 induction t using dW with
 |h t ih1 ih2=>
  intro ht k left ret hk h1 h2
  obtain ⟨q,rfl,hq,hf⟩:=hk.pos' (cM t)
  simp only [gV,QP,aH,aU,al hq]
  by_cases h0:left>0
  ·rw [if_pos h0]
   have hQ: ∀y∈t.kids,∀g:Bool→Option S,gV q y (left-1) g=g (decide ((av y:Int)≤left-1)):=fun y hy g=>ih1 y hy (ht.ki hy) g (hf _ (cr hy)) (by omega) (by omega)
   have hQ': ∀b∈t.sys,∀y∈b.kids,∀g:Bool→Option S,gV q y (left-1) g=g (decide ((av y:Int)≤left-1)):=fun b hb y hy g=>ih2 b hb y hy ((ht.bi hb).2 y hy) g (hf _ (cL hb hy)) (by omega) (by omega)
   have:=acl (Q:=fun y=>decide ((av y:Int)≤left-1)) hq ret (by omega) (by omega) hQ hQ' ht t.kids [] q rfl (by have:=ht.no.2.2.2.2.2.1;omega)
   simp only [AV,Fl]
   refine Eq.trans this ?_
   rw [Hh (by omega),Xz (by omega),qV]
   congr 1
   rw [Bool.eq_iff_iff];simp;omega
  grind [cM]
section
variable {hd:Tm→Int→(Bool×Int→Option S)→Option S} {t:Tm}
def oZ (hd:Tm→Int→(Bool×Int→Option S)→Option S) (k:Nat) (y:Tm):Prop:= ∀ (c:Int) (g:Bool×Int→Option S),0≤c→c<4611686018427387904→
 ∃v,nd hd k y c g=g (decide ((aD y:Int)≤c),v)∧((aD y:Int)≤c→v=c-aD y)
theorem ack (hk:Fu k) (ret:Bool×Int→Option S) (rec1:Int→Int→Int→Option S) {v more:Int} {x:Br Tm} (hQ: ∀y∈x.kids,oZ hd k y) (hl:x.kids.length<1073741824):
  ∀ (r p:List Tm) (m:Nat) (c:Int),0≤c→c<4611686018427387904→x.kids=p++r→r.length<m→
  ((aN r:Int)≤c→jg hd k ret rec1 t v x more m c (p.length:Int)=rec1 (c-aN r) (IntKind.wrap .i64 (v+1)) more)∧(¬ (aN r:Int)≤c→ ∃w,jg hd k ret rec1 t v x more m c (p.length:Int)=ret (false,w)):=by
 intro r
 induction r with
 |nil=>
  grind [ak,jg,uF,ai,aN]
 |cons y r ih=>
  intro p m c h0 h1 h hm
  obtain ⟨m,rfl,hm'⟩:=ak hm
  obtain ⟨e1,e2,e3,e4⟩:=az h (by omega)
  have hy:=hQ y (by grind)
  obtain ⟨w,hw,hw'⟩:=hy c (fun r1=>(fun r6:Bool×Int=>ab (!r6.1) (ret (false,r6.2)) (jg hd k ret rec1 t v x more m r6.2 (((p++[y]).length:Nat):Int))) (r1.1,r1.2)) h0 h1
  simp only [jg,uF,e1,aj,e2,Option.bind_some,al hk,qS,Fr,aU,e3,aN]
  rw [hw]
  by_cases hs:(aD y:Int)≤c
  ·grind [ai]
  grind [aj]
theorem acj (hk:Fu k) (ret:Bool×Int→Option S) {more:Int} (hQ: ∀b∈t.sys,∀y∈b.kids,oZ hd k y) (hl:t.sys.length<1073741824) (hl': ∀b∈t.sys,b.kids.length<1073741824):
  ∀ (r p:List (Br Tm)) (m:Nat) (c:Int),0≤c→c<4611686018427387904→t.sys=p++r→r.length<m→
  ((aZ r:Int)≤c→gi hd k ret t m c (p.length:Int) more=ret (true,c-aZ r))∧(¬ (aZ r:Int)≤c→ ∃w,gi hd k ret t m c (p.length:Int) more=ret (false,w)):=by
 intro r
 induction r with
 |nil=>
  grind [ak,gi,pZ,ai,aZ]
 |cons x r ih=>
  intro p m c h0 h1 h hm
  obtain ⟨m,rfl,hm'⟩:=ak hm
  obtain ⟨e1,e2,e3,e4⟩:=az h (by omega)
  have hx:x∈t.sys:=by grind
  have hlx:=hl' x hx
  have:=ack (t:=t) hk ret (gi hd k ret t m) (v:=(p.length:Int)) (more:=more) (hQ x hx) hlx x.kids [] k c h0 h1 rfl (by omega)
  simp only [gi,pZ,e1,aj,e2,Option.bind_some,aZ,td]
  obtain ⟨t1,t2⟩:=this
  rw [show (((([]:List Tm).length:Nat):Int))=0 from rfl] at t1 t2
  by_cases hs:(aN x.kids:Int)≤c
  ·obtain ⟨i1,i2⟩:=ih (p++[x]) m (c-aN x.kids) (by omega) (by omega) e4 hm'
   rw [t1 hs,e3]
   refine ⟨fun h=> ?_,fun h=>i2 (by omega)⟩
   rw [i1 (by omega),show c-(aN x.kids:Int)-(aZ r:Int)=c-((aN x.kids+aZ r:Nat):Int) by omega]
  ·exact ⟨fun h=>absurd (by omega) hs,fun _=>t2 hs⟩
theorem aci (hk:Fu k) (ret:Bool×Int→Option S) (hQ: ∀y∈t.kids,oZ hd k y) (hQ': ∀b∈t.sys,∀y∈b.kids,oZ hd k y) (ht:OkT t):
  ∀ (r p:List Tm) (m:Nat) (c:Int),0≤c→c<4611686018427387904→t.kids=p++r→r.length<m→
  ∃w,lR hd k ret t m c (p.length:Int)=ret (decide (((aN r+aZ t.sys:Nat):Int)≤c),w)∧(((aN r+aZ t.sys:Nat):Int)≤c→w=c-((aN r+aZ t.sys:Nat):Int)):=by
 obtain ⟨o1,o2,o3,o4,o5,o6,o7⟩:=ht.no
 intro r
 induction r with
 |nil=>
  intro p m c h0 h1 h hm
  obtain ⟨m,rfl,hm'⟩:=ak hm
  have hs: ∀more:Int,_:=fun more=>acj hk ret (more:=more) hQ' o7 (fun b hb=>(ht.bi hb).1.2.2) t.sys [] k c h0 h1 rfl (by omega)
  have key: ∀more:Int,∃w,gi hd k ret t k c 0 more=ret (decide (((aZ t.sys:Nat):Int)≤c),w)∧(((aZ t.sys:Nat):Int)≤c→w=c-((aZ t.sys:Nat):Int)):=fun more=>by
   by_cases hc:(aZ t.sys:Int)≤c
   ·simp_all
   ·obtain ⟨w,e⟩:=(hs more).2 hc
    grind
  have hz:aN []+aZ t.sys=aZ t.sys:=by rw [aN,Nat.zero_add]
  rw [hz]
  simp only [lR,pY,cQ h,ai]
  cases (t.kind==15) with
  |true=>exact key 1
  |false=>exact key 0
 |cons y r ih=>
  intro p m c h0 h1 h hm
  obtain ⟨m,rfl,hm'⟩:=ak hm
  obtain ⟨e1,e2,e3,e4⟩:=az h (by omega)
  have hy:=hQ y (by grind)
  obtain ⟨w,hw,hw'⟩:=hy c (fun r1=>(fun r3:Bool×Int=>ab (!r3.1) (ret (false,r3.2)) (lR hd k ret t m r3.2 (((p++[y]).length:Nat):Int))) (r1.1,r1.2)) h0 h1
  have hz:aN (y::r)+aZ t.sys=aD y+aN r+aZ t.sys:=by rw [aN]
  rw [hz]
  simp only [lR,pY,e1,aj,e2,Option.bind_some,al hk,oP,qS,Fr,aU,e3]
  rw [hw]
  by_cases hs:(aD y:Int)≤c
  ·have:=hw' hs
   subst this
   obtain ⟨u,i1,i2⟩:=ih (p++[y]) m (c-aD y) (by omega) (by omega) e4 hm'
   grind [ai]
  grind [aj,decide_eq_false]
end
theorem ags (t:Tm):OkT t→ ∀ {k:Nat} (c:Int) (ret:Bool×Int→Option S),Fd k (av t)→0≤c→c<4611686018427387904→
  ∃w,ep k t c ret=ret (decide ((aD t:Int)-1≤c),w)∧((aD t:Int)-1≤c→w=c-((aD t:Int)-1)):=by
 induction t using dW with
 |h t ih1 ih2=>
  intro ht k c ret hk h1 h2
  obtain ⟨q,rfl,hq,hf⟩:=hk.pos' (cM t)
  have cnt: ∀y,(∀ {k:Nat} (c:Int) (ret:Bool×Int→Option S),Fd k (av y)→0≤c→c<4611686018427387904→ ∃w,ep k y c ret=ret (decide ((aD y:Int)-1≤c),w)∧((aD y:Int)-1≤c→w=c-((aD y:Int)-1)))→
    Fd q (av y)→oZ (S:=S) (ep q) q y:=by
   intro y hy hfy c g h0 h1
   simp only [nd,Fs,aU,be (show-9223372036854775808≤c-1 by omega) (by omega),aH]
   have:=O2 y
   by_cases hc:c-1≥0
   ·rw [if_pos hc]
    obtain ⟨w,e,e'⟩:=hy (c-1) (fun r1=>g (r1.1,r1.2)) hfy (by omega) (by omega)
    grind
   ·rw [if_neg hc]
    exact ⟨c-1,by grind,fun h=>by omega⟩
  obtain ⟨w,e,e'⟩:=aci hq ret (fun y hy=>cnt y (fun c ret=>ih1 y hy (ht.ki hy) c ret) (hf _ (cr hy))) (fun b hb y hy=>cnt y (fun c ret=>ih2 b hb y hy ((ht.bi hb).2 y hy) c ret) (hf _ (cL hb hy))) ht t.kids [] q c h1 h2 rfl (by have:=ht.no.2.2.2.2.2.1;omega)
  grind [ep,Fj,D_]
theorem ahc {t:Tm} (ht:OkT t) (hk:Fd k (av t)) {most:Int} (h0:0<most) (h1:most<4611686018427387904) (ret:Bool→Option S):vM k t most ret=ret (decide ((aD t:Int)≤most)):=by
 simp only [vM,QR,al hk.fu,nd,Fs,aU,be (show-9223372036854775808≤most-1 by omega) (by omega),aH]
 rw [if_pos (by omega)]
 obtain ⟨w,e,_⟩:=ags t ht (most-1) (fun r1=>ret (r1.1,r1.2).1) hk (by omega) (by omega)
 grind
def VW (vars dims:Int) (n:Nat):Prop:= -9223372036854775808≤vars∧vars<9223372036854775808∧0≤dims∧dims+n<4611686018427387904
section
variable {hd:Tm→Int→Int→Bool→(Bool→Option S)→Option S} {vars dims:Int} {bd:Bool} {t:Tm}
theorem Oy (hv:VW vars dims 1) {v d:Int} (h1:0≤v∧v≤1) (h2:0≤d∧d≤1) (y:Tm) (g:Bool→Option S):qP hd k y v d vars dims bd g=hd y (IntKind.wrap .i64 (ca vars v)) (dims+d) bd g:=by
 obtain ⟨v1,v2,v3,v4⟩:=hv
 simp only [qP,QL,aU,aH,be (show-9223372036854775808≤dims+d by omega) (by omega)]
 unfold ca
 split
 ·rw [Int.add_zero]
 ·rfl
theorem ach (hk:Fu k) (ret:Bool→Option S) (rec1:Int→Int→Option S) (hv:VW vars dims 1) {v more:Int} {x:Br Tm} (hm:more=au t.kind) (hQ: ∀y∈x.kids,∀g,hd y vars (dims+more) bd g=g (aQ bd vars (dims+more) y)) (hl:x.kids.length<1073741824):
  ∀ (r p:List Tm) (m:Nat),x.kids=p++r→r.length<m→kg hd k ret rec1 vars dims bd t v x more m (p.length:Int)=if bY bd vars dims t.kind r then rec1 (IntKind.wrap .i64 (v+1)) more else ret false:=by
 subst hm
 intro r
 induction r with
 |nil=>
  intro p m h hm
  obtain ⟨m,rfl,hm'⟩:=ak hm
  simp only [kg,uG,cQ h,ai];rfl
 |cons y r ih=>
  intro p m h hm
  obtain ⟨m,rfl,hm'⟩:=ak hm
  obtain ⟨e1,e2,e3,e4⟩:=az h (by omega)
  have hy:=hQ y (by grind)
  have h0:IntKind.wrap .i64 (ca vars 0)=vars:=by rw [show ca vars 0=vars by grind [ca]];exact be hv.1 hv.2.1
  simp only [kg,uG,e1,aj,e2,Option.bind_some,al hk,aU,Oy hv (show (0:Int)≤0∧(0:Int)≤1 by omega) (d9 t.kind),h0,hy,e3,ih (p++[y]) m e4 hm',D7]
  rw [bY]
theorem acg (hk:Fu k) (ret:Bool→Option S) (hv:VW vars dims 1) {more:Int} (hm:more=au t.kind) (hQ: ∀b∈t.sys,∀y∈b.kids,∀g,hd y vars (dims+more) bd g=g (aQ bd vars (dims+more) y)) (hl:t.sys.length<1073741824) (hl': ∀b∈t.sys,b.kids.length<1073741824):
  ∀ (r p:List (Br Tm)) (m:Nat),t.sys=p++r→r.length<m→gj hd k ret vars dims bd t m (p.length:Int) more=ret (b8 bd vars dims t.kind r):=by
 intro r
 induction r with
 |nil=>
  grind [ak,gj,p5,ai,b8]
 |cons x r ih=>
  intro p m h hml
  obtain ⟨m,rfl,hm'⟩:=ak hml
  obtain ⟨e1,e2,e3,e4⟩:=az h (by omega)
  have hx:x∈t.sys:=by grind
  have hlx:=hl' x hx
  have:=ach (t:=t) (bd:=bd) hk ret (gj hd k ret vars dims bd t m) hv (v:=(p.length:Int)) hm (hQ x hx) hlx x.kids [] k rfl (by omega)
  have this:kg hd k ret (gj hd k ret vars dims bd t m) vars dims bd t (p.length:Int) x more k 0=_:=this
  simp only [gj,p5,e1,aj,e2,Option.bind_some,this,e3,ih (p++[x]) m e4 hm']
  have ea:b8 bd vars dims t.kind (x::r)=(bY bd vars dims t.kind x.kids&&b8 bd vars dims t.kind r):=by cases x;rfl
  grind
theorem acf (hk:Fu k) (ret:Bool→Option S) (hv:VW vars dims 1) (hQ: ∀y∈t.kids,∀v d,0≤v∧v≤1→0≤d∧d≤1→ ∀g,hd y (IntKind.wrap .i64 (ca vars v)) (dims+d) bd g=g (aQ bd (ca vars v) (dims+d) y)) (hQ': ∀b∈t.sys,∀y∈b.kids,∀g,hd y vars (dims+au t.kind) bd g=g (aQ bd vars (dims+au t.kind) y)) (ht:OkT t):
  ∀ (r p:List Tm) (m:Nat),t.kids=p++r→r.length<m→lS hd k ret vars dims bd t m (p.length:Int)=ret (bz bd vars dims t.kind p.length r&&b8 bd vars dims t.kind t.sys):=by
 obtain ⟨o1,o2,o3,o4,o5,o6,o7⟩:=ht.no
 intro r
 induction r with
 |nil=>
  intro p m h hm
  obtain ⟨m,rfl,hm'⟩:=ak hm
  have hs:gj hd k ret vars dims bd t k 0 (au t.kind)=_:=acg hk ret hv rfl hQ' o7 (fun b hb=>(ht.bi hb).1.2.2) t.sys [] k rfl (by omega)
  grind [lS,p4,bz,au,b7]
 |cons y r ih=>
  intro p m h hm
  obtain ⟨m,rfl,hm'⟩:=ak hm
  obtain ⟨e1,e2,e3,e4⟩:=az h (by omega)
  have b1:=qb t.kind p.length
  have b2:=iy t.kind p.length
  have hy:=hQ y (by grind) (df t.kind p.length) (bL t.kind p.length) b1 b2
  simp only [lS,p4,e1,aj,e2,Option.bind_some,al hk,oP,aU,Oy hv b1 b2,hy,e3,ih (p++[y]) m e4 hm',js]
  grind [bz]
end
theorem tw (bd:Bool) (vars dims:Int) (t:Tm):aQ bd vars dims t=(!(bd&&decide (dims>24))&&(du vars dims t&&(bz bd vars dims t.kind 0 t.kids&&b8 bd vars dims t.kind t.sys))):=by cases t;rfl
theorem Q8 {vars v:Int} (h:0≤v∧v≤1):vars≤ca vars v∧ca vars v≤vars+1:=by grind [ca]
theorem WO {bd:Bool} (t:Tm):OkT t→ ∀ {V W D:Int},W<0→9223372036854775808≤V→aQ bd W D t=aQ bd V D t:=by
 induction t using h9 with
 |h kd n nm r ks sys ih1 ih2=>
  intro ht V W D hW hV
  have ho:=ht
  rw [OkT] at ht
  obtain ⟨o1,o2,o3,o4,o5,o6,o7⟩:=ht.1
  have hk: ∀ {l:List Tm} {i:Nat},(∀x∈l,OkT x→ ∀ {V W D:Int},W<0→9223372036854775808≤V→aQ bd W D x=aQ bd V D x)→bO l→bz bd W D kd i l=bz bd V D kd i l:=by
   intro l
   induction l with
   |nil=>intro i _ _;rw [bz,bz]
   |cons t l ih=>
    intro i h hl
    rw [bO] at hl
    have hb:=qb kd i
    rw [bz,bz,ih (fun x hx=>h x (by simp [hx])) hl.2,h t (by simp) hl.1 (W:=ca W (df kd i)) (V:=ca V (df kd i)) (by unfold ca;split<;>omega) (by unfold ca;split<;>omega)]
  have hm: ∀ {l:List Tm},(∀x∈l,OkT x→ ∀ {V W D:Int},W<0→9223372036854775808≤V→aQ bd W D x=aQ bd V D x)→bO l→bY bd W D kd l=bY bd V D kd l:=by
   intro l
   induction l with
   |nil=>intro _ _;rw [bY,bY]
   |cons t l ih=>
    intro h hl
    rw [bO] at hl
    rw [bY,bY,ih (fun x hx=>h x (by simp [hx])) hl.2,h t (by simp) hl.1 hW hV]
  have hs: ∀ {l:List (Br Tm)},(∀b∈l,∀x∈b.kids,OkT x→ ∀ {V W D:Int},W<0→9223372036854775808≤V→aQ bd W D x=aQ bd V D x)→bP l→b8 bd W D kd l=b8 bd V D kd l:=by
   intro l
   induction l with
   |nil=>intro _ _;rw [b8,b8]
   |cons b l ih=>
    intro h hl
    obtain ⟨f,ks'⟩:=b
    rw [bP,kU] at hl
    rw [b8,b8,k_,k_,ih (fun b hb=>h b (by simp [hb])) hl.2,hm (l:=ks') (h ⟨f,ks'⟩ (by simp)) hl.1.2]
  have hw:du W D (.mk kd n nm r ks sys)=du V D (.mk kd n nm r ks sys):=by
   unfold du
   have:decide (W<0∨n<W)=decide (V<0∨n<V):=by
    have hn:n<9223372036854775808:=by unfold aF at o2;omega
    rw [decide_eq_true (.inl hW),decide_eq_true (.inr (by omega))]
   dsimp only
   rw [this]
  rw [aQ,aQ,hw,hk ih1 ht.2.1,hs ih2 ht.2.2]
theorem agp (t:Tm):OkT t→ ∀ {k:Nat} {vars dims:Int} {bd:Bool} (ret:Bool→Option S),Fd k (av t)→VW vars dims (av t)→fz k t vars dims bd ret=ret (aQ bd vars dims t):=by
 induction t using dW with
 |h t ih1 ih2=>
  intro ht k vars dims bd ret hk hv
  obtain ⟨q,rfl,hq,hf⟩:=hk.pos' (cM t)
  have hp:=cM t
  have hv':=hv
  unfold VW at hv'
  have hv1:VW vars dims 1:=by unfold VW;omega
  have hm:=d9 t.kind
  have hQ: ∀y∈t.kids,∀v d,0≤v∧v≤1→0≤d∧d≤1→ ∀g:Bool→Option S,fz q y (IntKind.wrap .i64 (ca vars v)) (dims+d) bd g=g (aQ bd (ca vars v) (dims+d) y):=fun y hy v d h1 h2 g=>by
   have hd:=cr hy
   have hvb:=Q8 (vars:=vars) h1
   by_cases hlt:ca vars v<9223372036854775808
   ·rw [be (by omega) hlt]
    exact ih1 y hy (ht.ki hy) g (hf _ (cr hy)) (by unfold VW;omega)
   ·have e:ca vars v=9223372036854775808:=by omega
    rw [e,show IntKind.wrap .i64 9223372036854775808= -9223372036854775808 from by decide,ih1 y hy (ht.ki hy) g (hf _ (cr hy)) (by unfold VW;omega),WO y (ht.ki hy) (by omega) (Int.le_refl _)]
  have hQ': ∀b∈t.sys,∀y∈b.kids,∀g:Bool→Option S,fz q y vars (dims+au t.kind) bd g=g (aQ bd vars (dims+au t.kind) y):=fun b hb y hy g=>ih2 b hb y hy ((ht.bi hb).2 y hy) g (hf _ (cL hb hy)) (by
   have:=cL hb hy;unfold VW;omega)
  have:=acf (bd:=bd) hq ret hv1 hQ hQ' ht t.kids [] q rfl (by have:=ht.no.2.2.2.2.2.1;omega)
  have this:lS (fz q) q ret vars dims bd t q 0=_:=this
  simp only [fz,QK,aU,al hq,agL hq ht (show 0≤dims by omega) (show dims<9223372036854775808 by omega),vJ,Fk,this]
  rw [tw]
  cases bd with
  |true=>
   rw [aj,aH,Bool.true_and]
   by_cases h24:dims>24
   ·grind
   ·rw [if_neg h24,decide_eq_false h24]
    cases du vars dims t<;>rfl
  |false=>
   rw [ai]
   cases du vars dims t<;>rfl
def VD (vars dims:Int) (n:Nat):Prop:= -4611686018427387904≤vars∧vars+n<4611686018427387904∧0≤dims∧dims+n<4611686018427387904
theorem ago (t:Tm) (ht:OkT t) {k:Nat} {vars dims:Int} {bd:Bool} (ret:Bool→Option S) (hk:Fd k (av t)) (hv:VD vars dims (av t)):fz k t vars dims bd ret=ret (aQ bd vars dims t):=
 agp t ht ret hk (by obtain ⟨v1,v2,v3,v4⟩:=hv;exact ⟨by omega,by omega,v3,v4⟩)
theorem ahb {t:Tm} (ht:OkT t) (hk:Fd k (av t)) (ret:Int→Option S):vL k t ret=ret (if av t>200 then 62 else if aD t>20000 then 221 else 0):=by
 simp only [vL,QQ,aU,aha t ht _ hk (show (-4611686018427387904:Int)≤200 by omega) (show (200:Int)<4611686018427387904 by omega),al hk.fu,ahc ht hk (show (0:Int)<20000 by omega) (show (20000:Int)<4611686018427387904 by omega)]
 by_cases h1:av t>200
 ·rw [if_pos h1,decide_eq_false (by omega)];rfl
 ·rw [if_neg h1,decide_eq_true (by omega),Bool.not_true,ai]
  by_cases h2:aD t>20000
  ·rw [if_pos h2,decide_eq_false (by omega)];rfl
  ·rw [if_neg h2,decide_eq_true (by omega)];rfl
theorem yj {t:Tm} (ht:OkT t) (hk:Fd k (av t)) (hdep:av t<1099511627776) (ret:Int→Option S):d3 k t ret=ret (dB t):=by
 simp only [d3,QH,aU,al hk.fu,ahb ht hk,ago t ht _ hk (show VD (-1) 24 (av t) by unfold VD;omega),bR]
 unfold dB
 by_cases h1:av t>200
 ·rw [if_pos h1,if_pos h1];rfl
 ·rw [if_neg h1,if_neg h1]
  by_cases h2:aD t>20000
  ·rw [if_pos h2,if_pos h2];rfl
  ·rw [if_neg h2,if_neg h2,decide_eq_true rfl,Bool.not_true,ai]
   cases aQ false (-1) 24 t<;>rfl
end Go.Proofs.YtgajalidbabccaaGreatDoor
namespace Go.Proofs.YtgajalidbabccaaGreatDoor
open Go PI
set_option linter.unusedVariables false
set_option linter.unusedSimpArgs false
set_option maxRecDepth 20000
variable {S:Type} {k:Nat}
theorem Hi: ∀ {l:List Tm},(∀x∈l,av x≤aD x)→bt l≤aN l:=by
 intro l
 induction l<;>grind [bt,aN]
theorem XA: ∀ {l:List (Br Tm)},(∀b∈l,∀x∈b.kids,av x≤aD x)→bU l≤aZ l:=by
 intro l
 induction l<;>grind [bU,aZ,qU,td,Hi]
theorem vO (t:Tm):av t≤aD t:=by
 induction t using dW<;>grind [qV,D_,Hi,XA]
section
variable {hd:Tm→(Int→Option S)→Option S} {t:Tm}
theorem adj (hk:Fu k) (ret:Int→Option S) (rec1:Int→Int→Option S) {v:Int} {x:Br Tm} (hv:ah t.sys v=some x) (hQ: ∀y∈x.kids,∀g,hd y g=g ((aD y:Nat):Int)) (hl:x.kids.length<1073741824):
  ∀ (r p:List Tm) (m a:Nat),x.kids=p++r→r.length<m→a+aN r<4611686018427387904→lP hd k ret rec1 t v m (a:Int) (p.length:Int)=rec1 ((a+aN r:Nat):Int) (IntKind.wrap .i64 (v+1)):=by
 intro r
 induction r with
 |nil=>
  grind [ak,aN,lP,ux,ai]
 |cons y r ih=>
  intro p m a h hm ha
  obtain ⟨m,rfl,hm'⟩:=ak hm
  obtain ⟨e1,e2,e3,e4⟩:=az h (by omega)
  have hy:=hQ y (by grind)
  have hz:a+aN (y::r)=(a+aD y)+aN r:=by rw [aN];omega
  rw [hz] at ha ⊢
  have hw:IntKind.wrap .i64 ((a:Int)+((aD y:Nat):Int))=((a+aD y:Nat):Int):=by grind [be]
  simp only [lP,ux,hv,e1,aj,e2,Option.bind_some,aU,hy,e3,hw,ih (p++[y]) m (a+aD y) e4 hm' ha]
theorem adi (hk:Fu k) (ret:Int→Option S) (hQ: ∀b∈t.sys,∀y∈b.kids,∀g,hd y g=g ((aD y:Nat):Int)) (hl:t.sys.length<1073741824) (hl': ∀b∈t.sys,b.kids.length<1073741824):
  ∀ (r p:List (Br Tm)) (m a:Nat),t.sys=p++r→r.length<m→a+aZ r<4611686018427387904→je hd k ret t m (a:Int) (p.length:Int)=ret ((a+aZ r:Nat):Int):=by
 intro r
 induction r with
 |nil=>
  grind [ak,aZ,je,pR,ai]
 |cons x r ih=>
  intro p m a h hm ha
  obtain ⟨m,rfl,hm'⟩:=ak hm
  obtain ⟨e1,e2,e3,e4⟩:=az h (by omega)
  have hx:x∈t.sys:=by grind
  have hlx:=hl' x hx
  have hz:a+aZ (x::r)=(a+aN x.kids)+aZ r:=by rw [aZ,td];omega
  rw [hz] at ha ⊢
  have:=adj (t:=t) hk ret (je hd k ret t m) e2 (hQ x hx) hlx x.kids [] k a rfl (by omega) (by omega)
  simp only [je,pR,e1,aj]
  refine Eq.trans this ?_
  rw [e3,ih (p++[x]) m (a+aN x.kids) e4 hm' ha]
theorem adh (hk:Fu k) (ret:Int→Option S) (hQ: ∀y∈t.kids,∀g,hd y g=g ((aD y:Nat):Int)) (hQ': ∀b∈t.sys,∀y∈b.kids,∀g,hd y g=g ((aD y:Nat):Int)) (ht:OkT t):
  ∀ (r p:List Tm) (m a:Nat),t.kids=p++r→r.length<m→a+aN r+aZ t.sys<4611686018427387904→n_ hd k ret t m (a:Int) (p.length:Int)=ret ((a+aN r+aZ t.sys:Nat):Int):=by
 obtain ⟨o1,o2,o3,o4,o5,o6,o7⟩:=ht.no
 intro r
 induction r with
 |nil=>
  intro p m a h hm ha
  obtain ⟨m,rfl,hm'⟩:=ak hm
  have hz:a+aN []=a:=by rfl
  rw [hz] at ha ⊢
  have:=adi hk ret hQ' o7 (fun b hb=>(ht.bi hb).1.2.2) t.sys [] k a rfl (by omega) ha
  grind [n_,pQ,ai]
 |cons y r ih=>
  intro p m a h hm ha
  obtain ⟨m,rfl,hm'⟩:=ak hm
  obtain ⟨e1,e2,e3,e4⟩:=az h (by omega)
  have hy:=hQ y (by grind)
  have hz:a+aN (y::r)=(a+aD y)+aN r:=by rw [aN];omega
  rw [hz] at ha ⊢
  have hw:IntKind.wrap .i64 ((a:Int)+((aD y:Nat):Int))=((a+aD y:Nat):Int):=by grind [be]
  simp only [n_,pQ,e1,aj,e2,Option.bind_some,aU,hy,e3,hw,ih (p++[y]) m (a+aD y) e4 hm' ha]
end
theorem ag4 (t:Tm):OkT t→ ∀ {k:Nat} (ret:Int→Option S),Fd k (av t)→aD t<4611686018427387904→gU k t ret=ret ((aD t:Nat):Int):=by
 induction t using dW with
 |h t ih1 ih2=>
  intro ht k ret hk hs
  obtain ⟨q,rfl,hq,hf⟩:=hk.pos' (cM t)
  have hz:=D_ t
  have:=adh hq ret (fun y hy g=>ih1 y hy (ht.ki hy) g (hf _ (cr hy)) (by have:=te hy;omega)) (fun b hb y hy g=>ih2 b hb y hy ((ht.bi hb).2 y hy) g (hf _ (cL hb hy)) (by have:=te hy;have:=O1 hb;omega)) ht t.kids [] q 1 rfl (by have:=ht.no.2.2.2.2.2.1;omega) (by omega)
  grind [gU,E_]
section
variable {hd:Tm→(Int→Option S)→Option S} {t:Tm}
theorem KL (a b:Nat) {α:Type} (f:Int→α):ab (decide (((b:Nat):Int)>(a:Int))) (f (b:Int)) (f (a:Int))=f ((max a b:Nat):Int):=by
 grind [aH]
theorem ac0 (hk:Fu k) (ret:Int→Option S) (rec1:Int→Int→Option S) {v:Int} {x:Br Tm} (hv:ah t.sys v=some x) (hQ: ∀y∈x.kids,∀g,hd y g=g ((av y:Nat):Int)) (hl:x.kids.length<1073741824):
  ∀ (r p:List Tm) (m a:Nat),x.kids=p++r→r.length<m→ke hd k ret rec1 t v m (a:Int) (p.length:Int)=rec1 ((max a (bt r):Nat):Int) (IntKind.wrap .i64 (v+1)):=by
 intro r
 induction r with
 |nil=>
  grind [ak,bt,ke,uu,ai]
 |cons y r ih=>
  intro p m a h hm
  obtain ⟨m,rfl,hm'⟩:=ak hm
  obtain ⟨e1,e2,e3,e4⟩:=az h (by omega)
  have hy:=hQ y (by grind)
  have hz:max a (bt (y::r))=max (max a (av y)) (bt r):=by rw [bt];omega
  rw [hz]
  simp only [ke,uu,hv,e1,aj,e2,Option.bind_some,aU,hy,e3]
  rw [KL a (av y) (fun z=>ke hd k ret rec1 t v m z (((p++[y]).length:Nat):Int)),ih (p++[y]) m (max a (av y)) e4 hm']
theorem acZ (hk:Fu k) (ret:Int→Option S) (hQ: ∀b∈t.sys,∀y∈b.kids,∀g,hd y g=g ((av y:Nat):Int)) (hl:t.sys.length<1073741824) (hl': ∀b∈t.sys,b.kids.length<1073741824):
  ∀ (r p:List (Br Tm)) (m a:Nat),t.sys=p++r→r.length<m→max a (bU r)<4611686018427387904→jd hd k ret t m (a:Int) (p.length:Int)=ret ((max a (bU r)+1:Nat):Int):=by
 intro r
 induction r with
 |nil=>
  intro p m a h hm ha
  obtain ⟨m,rfl,hm'⟩:=ak hm
  have hz:max a (bU [])=a:=by rw [bU];omega
  rw [hz] at ha ⊢
  have hw:IntKind.wrap .i64 ((a:Int)+1)=((a+1:Nat):Int):=by grind [be]
  grind [jd,pP,ai]
 |cons x r ih=>
  intro p m a h hm ha
  obtain ⟨m,rfl,hm'⟩:=ak hm
  obtain ⟨e1,e2,e3,e4⟩:=az h (by omega)
  have hx:x∈t.sys:=by grind
  have hlx:=hl' x hx
  have hz:max a (bU (x::r))=max (max a (bt x.kids)) (bU r):=by rw [bU,qU];omega
  rw [hz] at ha ⊢
  have:=ac0 (t:=t) hk ret (jd hd k ret t m) e2 (hQ x hx) hlx x.kids [] k a rfl (by omega)
  simp only [jd,pP,e1,aj]
  refine Eq.trans this ?_
  rw [e3,ih (p++[x]) m (max a (bt x.kids)) e4 hm' ha]
theorem acY (hk:Fu k) (ret:Int→Option S) (hQ: ∀y∈t.kids,∀g,hd y g=g ((av y:Nat):Int)) (hQ': ∀b∈t.sys,∀y∈b.kids,∀g,hd y g=g ((av y:Nat):Int)) (ht:OkT t):
  ∀ (r p:List Tm) (m a:Nat),t.kids=p++r→r.length<m→max (max a (bt r)) (bU t.sys)<4611686018427387904→lO hd k ret t m (a:Int) (p.length:Int)=ret ((max (max a (bt r)) (bU t.sys)+1:Nat):Int):=by
 obtain ⟨o1,o2,o3,o4,o5,o6,o7⟩:=ht.no
 intro r
 induction r with
 |nil=>
  intro p m a h hm ha
  obtain ⟨m,rfl,hm'⟩:=ak hm
  have hz:max a (bt [])=a:=by rw [bt];omega
  rw [hz] at ha ⊢
  have:=acZ hk ret hQ' o7 (fun b hb=>(ht.bi hb).1.2.2) t.sys [] k a rfl (by omega) ha
  grind [lO,pO,ai]
 |cons y r ih=>
  intro p m a h hm ha
  obtain ⟨m,rfl,hm'⟩:=ak hm
  obtain ⟨e1,e2,e3,e4⟩:=az h (by omega)
  have hy:=hQ y (by grind)
  have hz:max a (bt (y::r))=max (max a (av y)) (bt r):=by rw [bt];omega
  rw [hz] at ha ⊢
  simp only [lO,pO,e1,aj,e2,Option.bind_some,aU,hy,e3]
  rw [KL a (av y) (fun z=>lO hd k ret t m z (((p++[y]).length:Nat):Int)),ih (p++[y]) m (max a (av y)) e4 hm' ha]
end
theorem ag0 (t:Tm):OkT t→ ∀ {k:Nat} (ret:Int→Option S),Fd k (av t)→av t<4611686018427387904→gT k t ret=ret ((av t:Nat):Int):=by
 induction t using dW with
 |h t ih1 ih2=>
  intro ht k ret hk hs
  obtain ⟨q,rfl,hq,hf⟩:=hk.pos' (cM t)
  have hz:=qV t
  have:=acY hq ret (fun y hy g=>ih1 y hy (ht.ki hy) g (hf _ (cr hy)) (by have:=cr hy;omega)) (fun b hb y hy g=>ih2 b hb y hy ((ht.bi hb).2 y hy) g (hf _ (cL hb hy)) (by have:=cL hb hy;omega)) ht t.kids [] q 0 rfl (by have:=ht.no.2.2.2.2.2.1;omega) (by omega)
  grind [gT,E8]
section
variable {hd:Tm→Int→Int→Bool→(Bool→Option S)→Option S} {vars dims:Int} {bd:Bool} {t:Tm}
theorem acU (hk:Fu k) (ret:Bool→Option S) (rec5:Int→Option S) (hv:VD vars dims 1) {v:Int} {x:Br Tm} (hQ: ∀y∈x.kids,∀g,hd y vars (dims+au t.kind) bd g=g (aQ bd vars (dims+au t.kind) y)) (hl:x.kids.length<1073741824):
  ∀ (r p:List Tm) (m:Nat),x.kids=p++r→r.length<m→kc hd k ret rec5 x t vars v dims bd m (p.length:Int)=if bY bd vars dims t.kind r then rec5 (IntKind.wrap .i64 (v+1)) else ret false:=by
 have hmo:=d9 t.kind
 unfold VD at hv
 intro r
 induction r with
 |nil=>
  intro p m h hm
  obtain ⟨m,rfl,hm'⟩:=ak hm
  simp only [kc,up,cQ h,ai];rfl
 |cons y r ih=>
  intro p m h hm
  obtain ⟨m,rfl,hm'⟩:=ak hm
  obtain ⟨e1,e2,e3,e4⟩:=az h (by omega)
  have hy:=hQ y (by grind)
  simp only [kc,up,e1,aj,e2,Option.bind_some,al hk,aU,D6,be (n:=dims+au t.kind) (by omega) (by omega),hy,e3,ih (p++[y]) m e4 hm',D7]
  rw [bY]
theorem acT (hk:Fu k) (ret:Bool→Option S) (hv:VD vars dims 1) (hQ: ∀b∈t.sys,∀y∈b.kids,∀g,hd y vars (dims+au t.kind) bd g=g (aQ bd vars (dims+au t.kind) y)) (ht:OkT t):
  ∀ (r p:List (Br Tm)) (m:Nat),t.sys=p++r→r.length<m→gf hd k ret t vars dims bd m (p.length:Int)=ret (r.all fun b=>cE t.kind dims b&&bY bd vars dims t.kind b.kids):=by
 obtain ⟨o1,o2,o3,o4,o5,o6,o7⟩:=ht.no
 have hv':=hv
 unfold VD at hv'
 intro r
 induction r with
 |nil=>
  grind [ak,gf,pJ,ai]
 |cons x r ih=>
  intro p m h hml
  obtain ⟨m,rfl,hm'⟩:=ak hml
  obtain ⟨e1,e2,e3,e4⟩:=az h (by omega)
  have hx:x∈t.sys:=by grind
  have hb:=(ht.bi hx).1
  have:=acU (t:=t) (bd:=bd) hk ret (gf hd k ret t vars dims bd m) hv (v:=(p.length:Int)) (hQ x hx) hb.2.2 x.kids [] k rfl (by omega)
  have this:kc hd k ret (gf hd k ret t vars dims bd m) x t vars (p.length:Int) dims bd k 0=_:=this
  have hq:((x.kids.length:Int)==cj t.kind)=decide ((x.kids.length:Int)=cj t.kind):=by rfl
  simp only [gf,pJ,e1,aj,e2,Option.bind_some,al hk,OT,mr hk hb.1 (show x.face.length<2147483648 by omega),OH hk hb.1 hb.2.1,this,e3,ih (p++[x]) m e4 hm',aaZ,js,hq]
  grind [cE,decide,cG]
theorem acS (hk:Fu k) (ret:Bool→Option S) (hv:VD vars dims 1) (hQ: ∀y∈t.kids,∀v d,0≤v∧v≤1→0≤d∧d≤1→ ∀g,hd y (ca vars v) (dims+d) bd g=g (aQ bd (ca vars v) (dims+d) y)) (hQ': ∀b∈t.sys,∀y∈b.kids,∀g,hd y vars (dims+au t.kind) bd g=g (aQ bd vars (dims+au t.kind) y)) (ht:OkT t):
  ∀ (r p:List Tm) (m:Nat),t.kids=p++r→r.length<m→ja hd k ret t vars dims bd m (p.length:Int)=ret (bz bd vars dims t.kind p.length r&&t.sys.all fun b=>cE t.kind dims b&&bY bd vars dims t.kind b.kids):=by
 obtain ⟨o1,o2,o3,o4,o5,o6,o7⟩:=ht.no
 have hv':=hv
 unfold VD at hv'
 intro r
 induction r with
 |nil=>
  intro p m h hm
  obtain ⟨m,rfl,hm'⟩:=ak hm
  have hs:gf hd k ret t vars dims bd k 0=_:=acT hk ret hv hQ' ht t.sys [] k rfl (by omega)
  grind [ja,pI,ai,bz]
 |cons y r ih=>
  intro p m h hm
  obtain ⟨m,rfl,hm'⟩:=ak hm
  obtain ⟨e1,e2,e3,e4⟩:=az h (by omega)
  have b1:=qb t.kind p.length
  have b2:=iy t.kind p.length
  have hy:=hQ y (by grind) (df t.kind p.length) (bL t.kind p.length) b1 b2
  simp only [ja,pI,e1,aj,e2,Option.bind_some,al hk,D5 hk,aU,be (n:=dims+bL t.kind p.length) (by omega) (by omega),be (n:=vars+0) (by omega) (by omega),be (n:=vars+df t.kind p.length) (by omega) (by omega),e3,ih (p++[y]) m e4 hm']
  have hvb:ab (decide (vars<0)) (hd y (vars+0) (dims+bL t.kind p.length) bd fun r8=>ab (!r8) (ret false) (ret (bz bd vars dims t.kind (p++[y]).length r&&t.sys.all fun b=>cE t.kind dims b&&bY bd vars dims t.kind b.kids)))
    (hd y (vars+df t.kind p.length) (dims+bL t.kind p.length) bd fun r10=>ab (!r10) (ret false) (ret (bz bd vars dims t.kind (p++[y]).length r&&t.sys.all fun b=>cE t.kind dims b&&bY bd vars dims t.kind b.kids)))
    =hd y (ca vars (df t.kind p.length)) (dims+bL t.kind p.length) bd fun r8=>ab (!r8) (ret false) (ret (bz bd vars dims t.kind (p++[y]).length r&&t.sys.all fun b=>cE t.kind dims b&&bY bd vars dims t.kind b.kids)):=by
   grind [aH,ca]
  simp_all [js,bz,Bool.and_assoc]
end
def nK (vars:Int) (t:Tm):Bool:=if t.kind=1 then decide (0≤t.n)&&decide (vars<0∨t.n<vars) else decide (t.n=0)
def ox (t:Tm):Bool:=if t.kind=2 then lY t.name.data.toList else decide (t.name.size=0)
def rK (t:Tm):Bool:=if t.kind=13∨t.kind=21∨t.kind=26 then a8 t.r else if t.kind=14 then ck t.r else decide (t.r.length=0)
theorem Cj (d:Int) (l:List Cl) (h:l.length=0):cG l d=true:=by
 grind [cG,mem_bitsN,A2,ig]
theorem WQ {α:Type} (l:List α) (f g:α→Bool):(l.all fun x=>f x&&g x)=(l.all f&&l.all g):=by
 grind
theorem WN {bd:Bool} {vars dims kd:Int}: ∀ {l:List (Br Tm)},(l.all fun b=>bY bd vars dims kd b.kids)=b8 bd vars dims kd l:=by
 intro l
 induction l with
 |nil=>rfl
 |cons b l ih=>cases b<;>grind [b8,k_]
theorem afN (vars dims:Int) (t:Tm) (AK AS:Bool):
  (decide (d7 t.kind=t.kids.length)&&(decide (0<t.sys.length→cj t.kind≠0)&&(nK vars t&&(ox t&&(rK t&&(cG t.r dims&&(AK&&(t.sys.all (cE t.kind dims)&&AS))))))))=(du vars dims t&&(AK&&AS)):=by
 rw [K8]
 have hp:decide (0<t.sys.length→cj t.kind≠0)=decide (cj t.kind=0→t.sys.length=0):=Xy ⟨fun h h0=>by
  omega,fun h h0 h1=>by omega⟩
 rw [hp]
 cases decide (d7 t.kind=t.kids.length) with
 |false=>rfl
 |true=>
  simp only [Bool.true_and]
  by_cases hs:cj t.kind=0→t.sys.length=0
  ·rw [decide_eq_true hs]
   have nosys:cj t.kind=0→t.sys.all (cE t.kind dims)=true:=fun h=>by
    grind
   unfold nK ox rK ma
   by_cases c1:t.kind=1
   ·simp only [c1,if_true,show ((1:Int)=2)=False from by simp,show ((1:Int)=13)=False from by simp,show ((1:Int)=14)=False from by simp,show ((1:Int)=21)=False from by simp,show ((1:Int)=26)=False from by simp,or_self,if_false,true_or,decide_true,Bool.true_and,false_or]
    rw [c1] at nosys
    rw [nosys (by decide)]
    grind [Cj]
   ·by_cases c2:t.kind=2
    ·simp only [c2,if_true,show ((2:Int)=1)=False from by simp,show ((2:Int)=13)=False from by simp,show ((2:Int)=14)=False from by simp,show ((2:Int)=21)=False from by simp,show ((2:Int)=26)=False from by simp,or_self,if_false,true_or,decide_true,Bool.true_and,false_or]
     rw [c2] at nosys
     rw [nosys (by decide)]
     grind [Cj]
    ·simp only [c1,c2,if_false,false_or,Bool.true_and]
     by_cases c3:t.kind=13∨t.kind=21∨t.kind=26
     ·rw [if_pos c3,if_pos c3,nosys (by rcases c3 with h|h|h<;>rw [h]<;>decide)]
      grind
     ·rw [if_neg c3,if_neg c3]
      by_cases c4:t.kind=14
      ·rw [if_pos c4,if_pos c4,nosys (by rw [c4];decide)]
       grind
      grind [Cj]
  grind
theorem agX (t:Tm):OkT t→ ∀ {k:Nat} {vars dims:Int} {bd:Bool} (ret:Bool→Option S),Fd k (av t)→VD vars dims (av t)→cq k t vars dims bd ret=ret (aQ bd vars dims t):=by
 induction t using dW with
 |h t ih1 ih2=>
  intro ht k vars dims bd ret hk hv
  obtain ⟨q,rfl,hq,hf⟩:=hk.pos' (cM t)
  have hp:=cM t
  have hv':=hv
  unfold VD at hv'
  have hv1:VD vars dims 1:=by unfold VD;omega
  have hm:=d9 t.kind
  obtain ⟨o1,o2,o3,o4,o5,o6,o7⟩:=ht.no
  have hQ: ∀y∈t.kids,∀v d,0≤v∧v≤1→0≤d∧d≤1→ ∀g:Bool→Option S,cq q y (ca vars v) (dims+d) bd g=g (aQ bd (ca vars v) (dims+d) y):=fun y hy v d h1 h2 g=>ih1 y hy (ht.ki hy) g (hf _ (cr hy)) (by
   have:=cr hy;have:=Q8 (vars:=vars) h1;unfold VD;omega)
  have hQ': ∀b∈t.sys,∀y∈b.kids,∀g:Bool→Option S,cq q y vars (dims+au t.kind) bd g=g (aQ bd vars (dims+au t.kind) y):=fun b hb y hy g=>ih2 b hb y hy ((ht.bi hb).2 y hy) g (hf _ (cL hb hy)) (by
   have:=cL hb hy;unfold VD;omega)
  have h4:ja (cq q) q ret t vars dims bd q 0=_:=acS (bd:=bd) hq ret hv1 hQ hQ' ht t.kids [] q rfl (by omega)
  rw [WQ,WN] at h4
  have h4:ja (cq q) q ret t vars dims bd q 0=ret (bz bd vars dims t.kind 0 t.kids&&(t.sys.all (cE t.kind dims)&&b8 bd vars dims t.kind t.sys)):=h4
  generalize hAK:bz bd vars dims t.kind 0 t.kids=AK at h4
  generalize hAS:b8 bd vars dims t.kind t.sys=AS at h4
  generalize hw:(AK&&(t.sys.all (cE t.kind dims)&&AS))=W at h4
  obtain ⟨q',hq'⟩: ∃q',q=q'+1:=⟨q-1,by omega⟩
  have j3:n7 (cq q) q ret t vars dims bd q=ret (cG t.r dims&&W):=by
   simp_all [n7,uo,js,al,OH]
  have j2:n5 (cq q) q ret t vars dims bd q=ret (rK t&&(cG t.r dims&&W)):=by
   have: ∀j,j=q'+1→n5 (cq q) q ret t vars dims bd j=pH (cq q) q ret t vars dims bd (n7 (cq q) q ret t vars dims bd q):=by rintro j rfl;rfl
   rw [this q hq',j3]
   simp only [pH,al hq,fJ hq o4 (show t.r.length<2147483648 by omega),mr hq o4 (show t.r.length<2147483648 by omega),js]
   have hr0:ab (decide (((t.r.length:Nat):Int)>0)) (ret false) (ret (cG t.r dims&&W))=ret (decide (t.r.length=0)&&(cG t.r dims&&W)):=by
    grind [aH,decide_eq_false]
   grind [b7,rK]
  have j1:rA (cq q) q ret t vars dims bd q=ret (ox t&&(rK t&&(cG t.r dims&&W))):=by
   have: ∀j,j=q'+1→rA (cq q) q ret t vars dims bd j=pG (cq q) q ret t vars dims bd (n5 (cq q) q ret t vars dims bd q):=by rintro j rfl;rfl
   rw [this q hq',j2]
   simp only [pG,al hq,ag9 hq (show t.name.size<2147483648 by omega),CJ,js]
   unfold ox
   by_cases c:t.kind=2
   ·simp_all [aj,ai,js]
   grind [ai,aj]
  have j0:wM (cq q) q ret t vars dims bd q=ret (nK vars t&&(ox t&&(rK t&&(cG t.r dims&&W)))):=by
   grind [wM,um,nK,aH,decide_eq_false]
  simp only [cq,E4,aU,al hq,ag1,OT,j0]
  have hkk:(d7 t.kind==(t.kids.length:Int))=decide (d7 t.kind=t.kids.length):=by rfl
  generalize hZ:(nK vars t&&(ox t&&(rK t&&(cG t.r dims&&W))))=Z
  have hsy:ab (decide (((t.sys.length:Nat):Int)>0)) (ab (cj t.kind==0) (ret false) (ret Z)) (ret Z)=ret (decide (0<t.sys.length→cj t.kind≠0)&&Z):=by
   grind [b7]
  rw [hsy,js,hkk]
  have hfin:=afN vars dims t AK AS
  rw [hw,hZ] at hfin
  rw [hfin,tw,hAK,hAS]
  cases bd<;>grind [aH,ai]
theorem ag5 {t:Tm} (ht:OkT t) (hk:Fd k (av t)) (hs:aD t<1099511627776) (ret:Int→Option S):vC k t ret=ret (if av t>200 then 62 else if aD t>20000 then 221 else 0):=by
 grind [vO,vC,Qr,aU,aH,ag0,ag4]
theorem OQ {t:Tm} (ht:OkT t) (hk:Fd k (av t)) (hs:aD t<1099511627776) (ret:Int→Option S):qI k t ret=ret (dB t):=by
 have:=vO t
 simp only [qI,Qm,aU,al hk.fu,ag5 ht hk hs,agX t ht _ hk (show VD (-1) 24 (av t) by unfold VD;omega),bR]
 unfold dB
 by_cases h1:av t>200
 ·rw [if_pos h1,if_pos h1];rfl
 ·rw [if_neg h1,if_neg h1]
  by_cases h2:aD t>20000
  ·rw [if_pos h2,if_pos h2];rfl
  ·rw [if_neg h2,if_neg h2,decide_eq_true rfl,aj]
   cases aQ false (-1) 24 t<;>rfl
theorem adk (hk:Fu k) (ret:Bool→Option S) {l:List Cl} (hlen:l.length<2147483648):
  ∀ (r p:List Cl) (m:Nat),l=p++r→r.length<m→i_ k ret l l m (p.length:Int)=ret true:=by
 intro r
 induction r with
 |nil=>
  grind [ak,i_,mC,ai]
 |cons x r ih=>
  intro p m h hm
  obtain ⟨m,rfl,hm'⟩:=ak hm
  obtain ⟨e1,e2,e3,e4⟩:=az h (by omega)
  grind [i_,mC,aj,ai]
theorem OX (hk:Fu k) {l:List Cl} (hlen:l.length<2147483648) (ret:Bool→Option S):jJ k l l ret=ret true:=by
 simp only [jJ,yy,beq_self_eq_true,Bool.not_true,ai]
 exact adk hk ret hlen l [] k rfl (by omega)
section
variable {hd:Tm→Tm→(Bool→Option S)→Option S}
theorem acB (hk:Fu k) (ret:Bool→Option S) {l:List Tm} (hlen:l.length<2147483648) (hQ: ∀y∈l,∀g,hd y y g=g true):
  ∀ (r p:List Tm) (m:Nat),l=p++r→r.length<m→oa hd k ret l l m (p.length:Int)=ret true:=by
 intro r
 induction r with
 |nil=>
  grind [ak,oa,uy,ai]
 |cons x r ih=>
  intro p m h hm
  obtain ⟨m,rfl,hm'⟩:=ak hm
  obtain ⟨e1,e2,e3,e4⟩:=az h (by omega)
  grind [oa,uy,aj,aU,ai]
theorem OG (hk:Fu k) (ret:Bool→Option S) {l:List Tm} (hlen:l.length<2147483648) (hQ: ∀y∈l,∀g,hd y y g=g true):qK hd k l l ret=ret true:=by
 simp only [qK,Fa,beq_self_eq_true,Bool.not_true,ai]
 exact acB hk ret hlen hQ l [] k rfl (by omega)
theorem acR (hk:Fu k) (ret:Bool→Option S) {t:Tm} (ht:OkT t) (hQ: ∀b∈t.sys,∀y∈b.kids,∀g,hd y y g=g true):
  ∀ (r p:List (Br Tm)) (m:Nat),t.sys=p++r→r.length<m→n9 hd k ret t t m (p.length:Int)=ret true:=by
 obtain ⟨o1,o2,o3,o4,o5,o6,o7⟩:=ht.no
 intro r
 induction r with
 |nil=>
  grind [ak,n9,uw,ai]
 |cons x r ih=>
  intro p m h hm
  obtain ⟨m,rfl,hm'⟩:=ak hm
  obtain ⟨e1,e2,e3,e4⟩:=az h (by omega)
  have hx:x∈t.sys:=by grind
  have hb:=(ht.bi hx).1
  simp only [n9,uw,e1,aj,e2,Option.bind_some,al hk,OX hk (show x.face.length<2147483648 by omega),OG hk _ (show x.kids.length<2147483648 by omega) (hQ x hx),e3,ih (p++[x]) m e4 hm',Bool.not_true,ai]
end
theorem OV (t:Tm):OkT t→ ∀ {k:Nat} (ret:Bool→Option S),Fd k (av t)→dO k t t ret=ret true:=by
 induction t using dW with
 |h t ih1 ih2=>
  intro ht k ret hk
  obtain ⟨q,rfl,hq,hf⟩:=hk.pos' (cM t)
  obtain ⟨o1,o2,o3,o4,o5,o6,o7⟩:=ht.no
  have hQ: ∀y∈t.kids,∀g:Bool→Option S,dO q y y g=g true:=fun y hy g=>ih1 y hy (ht.ki hy) g (hf _ (cr hy))
  have hQ': ∀b∈t.sys,∀y∈b.kids,∀g:Bool→Option S,dO q y y g=g true:=fun b hb y hy g=>ih2 b hb y hy ((ht.bi hb).2 y hy) g (hf _ (cL hb hy))
  have:=acR hq ret ht hQ' t.sys [] q rfl (by omega)
  grind [dO,Gb,E9,ai,al,OX,OG]
section
variable {hd:Tm→Int→(Int→Option S)→Option S} {t:Tm}
theorem ab_ (hk:Fu k) (ret:Int→Option S) (rec1:Int→Int→Option S) {v most:Int} {x:Br Tm} (hv:ah t.sys v=some x) (hQ: ∀y∈x.kids,∀n g,∃w,hd y n g=g w) (hl:x.kids.length<1073741824):
  ∀ (r p:List Tm) (m:Nat) (a:Int),x.kids=p++r→r.length<m→ ∃w,jb hd k ret rec1 t most v m a (p.length:Int)=rec1 w (IntKind.wrap .i64 (v+1)):=by
 intro r
 induction r with
 |nil=>
  intro p m a h hm
  obtain ⟨m,rfl,hm'⟩:=ak hm
  exact ⟨a,by grind [jb,ur,ai]⟩
 |cons y r ih=>
  intro p m a h hm
  obtain ⟨m,rfl,hm'⟩:=ak hm
  obtain ⟨e1,e2,e3,e4⟩:=az h (by omega)
  simp only [jb,ur,hv,e1,aj,e2,Option.bind_some,aU,e3]
  cases decide (a≤most) with
  |false=>exact ⟨a,rfl⟩
  |true=>
   rw [aj]
   obtain ⟨w,hw⟩:=hQ y (by grind) (IntKind.wrap .i64 (most-a)) (fun r8=>jb hd k ret rec1 t most v m (IntKind.wrap .i64 (a+r8)) (((p++[y]).length:Nat):Int))
   rw [hw]
   exact ih (p++[y]) m _ e4 hm'
theorem ab9 (hk:Fu k) (ret:Int→Option S) {most:Int} (hQ: ∀b∈t.sys,∀y∈b.kids,∀n g,∃w,hd y n g=g w) (ht:OkT t):
  ∀ (r p:List (Br Tm)) (m:Nat) (a:Int),t.sys=p++r→r.length<m→ ∃w,g4 hd k ret t most m a (p.length:Int)=ret w:=by
 obtain ⟨o1,o2,o3,o4,o5,o6,o7⟩:=ht.no
 intro r
 induction r with
 |nil=>
  intro p m a h hm
  obtain ⟨m,rfl,hm'⟩:=ak hm
  exact ⟨a,by grind [g4,pL,ai]⟩
 |cons x r ih=>
  intro p m a h hm
  obtain ⟨m,rfl,hm'⟩:=ak hm
  obtain ⟨e1,e2,e3,e4⟩:=az h (by omega)
  have hx:x∈t.sys:=by grind
  have hb:=(ht.bi hx).1
  simp only [g4,pL,e1,aj,e2,Option.bind_some,e3]
  cases decide (a≤most) with
  |false=>exact ⟨a,rfl⟩
  |true=>
   rw [aj]
   cases decide (((x.face.length:Nat):Int)>most) with
   |true=>exact ⟨_,rfl⟩
   |false=>
    rw [ai]
    obtain ⟨w,hw⟩:=ab_ (t:=t) (most:=most) hk ret (g4 hd k ret t most m) e2 (hQ x hx) hb.2.2 x.kids [] k (IntKind.wrap .i64 (IntKind.wrap .i64 (a+1)+((x.face.length:Nat):Int))) rfl (by omega)
    have hw:jb hd k ret (g4 hd k ret t most m) t most (p.length:Int) k (IntKind.wrap .i64 (IntKind.wrap .i64 (a+1)+((x.face.length:Nat):Int))) 0=_:=hw
    rw [hw,e3]
    exact ih (p++[x]) m w e4 hm'
theorem ab8 (hk:Fu k) (ret:Int→Option S) {most:Int} (hQ: ∀y∈t.kids,∀n g,∃w,hd y n g=g w) (hQ': ∀b∈t.sys,∀y∈b.kids,∀n g,∃w,hd y n g=g w) (ht:OkT t):
  ∀ (r p:List Tm) (m:Nat) (a:Int),t.kids=p++r→r.length<m→ ∃w,lM hd k ret t most m a (p.length:Int)=ret w:=by
 obtain ⟨o1,o2,o3,o4,o5,o6,o7⟩:=ht.no
 intro r
 have hs:=fun a=>ab9 (most:=most) hk ret hQ' ht t.sys [] k a rfl (by omega)
 induction r with
 |nil=>
  intro p m a h hm
  obtain ⟨m,rfl,hm'⟩:=ak hm
  simp_all [lM,pK,ai]
 |cons y r ih=>
  intro p m a h hm
  obtain ⟨m,rfl,hm'⟩:=ak hm
  obtain ⟨e1,e2,e3,e4⟩:=az h (by omega)
  simp only [lM,pK,e1,aj,e2,Option.bind_some,aU,e3]
  cases decide (a≤most) with
  |false=>exact hs a
  |true=>
   rw [aj]
   obtain ⟨w,hw⟩:=hQ y (by grind) (IntKind.wrap .i64 (most-a)) (fun r2=>lM hd k ret t most m (IntKind.wrap .i64 (a+r2)) (((p++[y]).length:Nat):Int))
   rw [hw]
   exact ih (p++[y]) m _ e4 hm'
end
theorem agY (t:Tm):OkT t→ ∀ {k:Nat} (most:Int) (ret:Int→Option S),Fd k (av t)→ ∃w,fq k t most ret=ret w:=by
 induction t using dW with
 |h t ih1 ih2=>
  intro ht k most ret hk
  obtain ⟨q,rfl,hq,hf⟩:=hk.pos' (cM t)
  obtain ⟨o1,o2,o3,o4,o5,o6,o7⟩:=ht.no
  have hQ: ∀y∈t.kids,∀n (g:Int→Option S),∃w,fq q y n g=g w:=fun y hy n g=>ih1 y hy (ht.ki hy) n g (hf _ (cr hy))
  have hQ': ∀b∈t.sys,∀y∈b.kids,∀n (g:Int→Option S),∃w,fq q y n g=g w:=fun b hb y hy n g=>ih2 b hb y hy ((ht.bi hb).2 y hy) n g (hf _ (cL hb hy))
  simp only [fq,E6]
  cases decide (((t.r.length:Nat):Int)>most) with
  |true=>exact ⟨_,rfl⟩
  |false=>
   rw [ai]
   cases decide (((t.name.size:Nat):Int)>most) with
   |true=>exact ⟨_,rfl⟩
   |false=>
    rw [ai]
    exact ab8 hq ret hQ hQ' ht t.kids [] q _ rfl (by omega)
end Go.Proofs.YtgajalidbabccaaGreatDoor
namespace Go.Proofs.YtgajalidbabccaaGreatDoor
open Go PI
set_option linter.unusedVariables false
set_option linter.unusedSimpArgs false
set_option maxRecDepth 20000
variable {S:Type} {k:Nat}
def pE {α:Type}:Except Int α→Pan Int α
 | .ok a=> .ok a
 | .error e=> .pan e
def eE {α β:Type} (x:Except Int α) (f:α→β) (g:Int→β):β:=match x with
 | .ok a=>f a
 | .error e=>g e
theorem qZ {α β:Type} (x:Except Int α) (f:α→β) (g:Int→β):Pan.elim (pE x) f g=eE x f g:=by cases x<;>rfl
theorem a7 {α β γ:Type} (x:Except Int α) (f:α→Except Int β) (u:β→γ) (w:Int→γ):eE (bE x f) u w=eE x (fun a=>eE (f a) u w) w:=by cases x<;>rfl
theorem aV {α β:Type} (a:α) (f:α→β) (g:Int→β):eE (.ok a) f g=f a:=rfl
theorem afY {α:Type} (x:Except Int α) (ret:Pan Int α→Option S):ret (pE x)=eE x (fun a=>ret (.ok a)) fun e=>ret (.pan e):=by cases x<;>rfl
def aR:Tm:= .mk 0 0 ByteArray.empty [] [] []
def ce (e:Int):Tm:= .mk (-e) 0 ByteArray.empty [] [] []
def rE:Except Int Tm→Tm
 | .ok t=>t
 | .error e=>ce e
def tE:Except Int Tm→Tm×Int
 | .ok t=>(t,0)
 | .error e=>(aR,e)
theorem yc (x:Except Int Tm) (ret:Tm→Option S):ret (rE x)=eE x ret fun e=>ret (ce e):=by cases x<;>rfl
theorem cO {α β:Type} {x:Except Int α} {f f':α→β} {g g':Int→β} (h: ∀a,x= .ok a→f a=f' a) (h': ∀e,x= .error e→g e=g' e):eE x f g=eE x f' g':=by
 cases x with
 |ok a=>exact h a rfl
 |error e=>exact h' e rfl
theorem OI (hk:Fu k) {a b d:Int} {f:List Cl} (hf:ao f) (hl:f.length<1073741824) (hd:aF d) (hb:aF b) (ret:Pan Int (List Cl)→Option S):qA k a b f d ret=ret (pE (cm d b f)):=by
 simp only [qA,P0,al hk,yk hk hf hl hd hb,bR,aH,aM (show 0+f.length≤1099511627776 by omega)]
 unfold cm
 by_cases h0:b=0
 ·rw [if_pos h0,if_pos (.inl h0)];rfl
 ·rw [if_neg h0]
  by_cases h1:d≥24
  ·rw [if_pos h1,if_pos (.inr h1)];rfl
  ·rw [if_neg h1,if_neg (show ¬ (b=0∨d≥24) by omega)]
   by_cases h2:(bo f d b).2=0
   ·rw [decide_eq_true h2,kE h2];rfl
   ·rw [decide_eq_false h2,kG h2];rfl
theorem OJ (hk:Fu k) {b d:Int} {f:List Cl} (hf:RF f) (hd:0≤d∧d<9223372036854775808) (hb:0≤b∧b<9223372036854775808) (ret:List Cl×Int→Option S): ∃z:List Cl×Int,cJ z=cm d b f∧qM k f d b ret=ret z:=by
 have hl:=hf.len
 simp only [qM,Qv,al hk,D4 hk hf.2 (show f.length<1073741824 by omega) (show aF d by unfold aF;omega) (show aF b by unfold aF;omega),ot,aH]
 by_cases h0:f.length=0
 ·refine ⟨([],0), ?_,by grind⟩
  have:=List.length_eq_zero_iff.1 h0
  subst this
  rw [yg];rfl
 ·refine ⟨bo f d b, ?_,by grind⟩
  unfold cm
  split
  ·next h=>rw [adA hf hd.1 hb.1 h];rfl
  ·rfl
section
variable {hd:Int→Int→Tm→Int→Int→(Pan Int Tm→Option S)→Option S} {vb db v d:Int} {t:Tm}
theorem acA (hk:Fu k) (ret:Pan Int Tm→Option S) (rec2:List (Br Tm)→Int→Int→Option S) {r12 r2:List Cl} {b1 v90:Int} {ks:List Tm} {o:List (Br Tm)} {x:Br Tm} {more:Int} (hm:more=au t.kind)
  (hd0:0≤d∧d<4611686018427387904) (hQ: ∀y∈x.kids,∀g,hd vb db y v (d+more) g=g (pE (bp vb db v (d+more) y))) (hl:x.kids.length<1073741824) (ho:o.length<1073741824):
  ∀ (r p:List Tm) (m:Nat) (acc:List Tm),x.kids=p++r→r.length<m→acc.length=p.length→
  j6 hd k ret rec2 r12 vb db t b1 r2 ks o x more v d v90 m acc (p.length:Int)=eE (dr vb db v d t.kind r) (fun l=>rec2 (o++[⟨r12,acc++l⟩]) more (IntKind.wrap .i64 (v90+1))) fun e=>ret (.pan e):=by
 subst hm
 have hmo:=d9 t.kind
 intro r
 induction r with
 |nil=>
  grind [ak,j6,tW,ai,dr,aV,aM]
 |cons y r ih=>
  intro p m acc h hm ha
  obtain ⟨m,rfl,hm'⟩:=ak hm
  obtain ⟨e1,e2,e3,e4⟩:=az h (by omega)
  have hpl:p.length<x.kids.length:=by grind
  have hy:=hQ y (by grind)
  simp only [j6,tW,e1,aj,e2,Option.bind_some,aU,be (n:=d+au t.kind) (by omega) (by omega),hy,qZ,dr,a7,aV]
  refine cO (fun t' ht'=> ?_) fun e _=>rfl
  rw [aM (by grind),e3,ih (p++[y]) m (acc++[t']) e4 hm' (by grind)]
  simp
theorem acz (hk:Fu k) (ret:Pan Int Tm→Option S) {r2:List Cl} {b1:Int} {ks:List Tm} {more:Int} (hm:more=au t.kind) (ht:OkT t) (hdb:aF db) (hd0:0≤d∧d<4611686018427387904)
  (hQ: ∀b∈t.sys,∀y∈b.kids,∀g,hd vb db y v (d+more) g=g (pE (bp vb db v (d+more) y))):
  ∀ (r p:List (Br Tm)) (m:Nat) (o:List (Br Tm)),t.sys=p++r→r.length<m→o.length=p.length→
  gc hd k ret vb db t b1 r2 ks v d m o more (p.length:Int)=eE (dC vb db v d t.kind r) (fun l=>ret (.ok (.mk t.kind b1 t.name r2 ks (o++l)))) fun e=>ret (.pan e):=by
 obtain ⟨o1,o2,o3,o4,o5,o6,o7⟩:=ht.no
 intro r
 induction r with
 |nil=>
  grind [ak,gc,py,ai,dC,aV]
 |cons x r ih=>
  intro p m o h hml ho
  obtain ⟨m,rfl,hm'⟩:=ak hml
  obtain ⟨e1,e2,e3,e4⟩:=az h (by omega)
  have hx:x∈t.sys:=by grind
  have hpl:p.length<t.sys.length:=by grind
  have hb:=(ht.bi hx).1
  have hrow:=OI (S:=S) hk (a:=vb) hb.1 hb.2.1 (show aF d by unfold aF;omega) hdb
  have:=fun r12=>acA hk ret (gc hd k ret vb db t b1 r2 ks v d m) (r12:=r12) (r2:=r2) (b1:=b1) (v90:=(p.length:Int)) (ks:=ks) (o:=o) hm hd0 (hQ x hx) hb.2.2 (by omega) x.kids [] k [] rfl (by omega) rfl
  have this: ∀r12,j6 hd k ret (gc hd k ret vb db t b1 r2 ks v d m) r12 vb db t b1 r2 ks o x more v d (p.length:Int) k [] 0=_:=this
  have hB:rG vb db v d t.kind x=bE (cm d db x.face) fun f'=>bE (dr vb db v d t.kind x.kids) fun ks'=> .ok (.mk f' ks'):=by cases x;rfl
  simp only [gc,py,e1,aj,e2,Option.bind_some,al hk,hrow,qZ,this,dC,hB,a7,aV,List.nil_append,e3]
  refine cO (fun f' _=>cO (fun ks' _=> ?_) fun e _=>rfl) fun e _=>rfl
  rw [ih (p++[x]) m (o++[Br.mk f' ks']) e4 hm' (by grind)]
  simp
theorem acy (hk:Fu k) (ret:Pan Int Tm→Option S) {r2:List Cl} {b1:Int} (ht:OkT t) (hdb:aF db) (hd0:0≤d∧d<4611686018427387904) (hv0:0≤v∧v<4611686018427387904)
  (hQ: ∀y∈t.kids,∀a b,0≤a∧a≤1→0≤b∧b≤1→ ∀g,hd vb db y (v+a) (d+b) g=g (pE (bp vb db (v+a) (d+b) y))) (hQ': ∀b∈t.sys,∀y∈b.kids,∀g,hd vb db y v (d+au t.kind) g=g (pE (bp vb db v (d+au t.kind) y))):
  ∀ (r p:List Tm) (m:Nat) (acc:List Tm),t.kids=p++r→r.length<m→acc.length=p.length→
  iZ hd k ret vb db t b1 r2 v d m acc (p.length:Int)=eE (dR vb db v d t.kind p.length r) (fun l=>eE (dC vb db v d t.kind t.sys) (fun s=>ret (.ok (.mk t.kind b1 t.name r2 (acc++l) s))) fun e=>ret (.pan e)) fun e=>ret (.pan e):=by
 obtain ⟨o1,o2,o3,o4,o5,o6,o7⟩:=ht.no
 intro r
 induction r with
 |nil=>
  intro p m acc h hm ha
  obtain ⟨m,rfl,hm'⟩:=ak hm
  have hs:gc hd k ret vb db t b1 r2 acc v d k [] (au t.kind) 0=_:=acz hk ret rfl ht hdb hd0 hQ' t.sys [] k [] rfl (by omega) rfl
  grind [iZ,px,dR,aV,b7,au]
 |cons y r ih=>
  intro p m acc h hm ha
  obtain ⟨m,rfl,hm'⟩:=ak hm
  obtain ⟨e1,e2,e3,e4⟩:=az h (by omega)
  have hpl:p.length<t.kids.length:=by grind
  have b1':=qb t.kind p.length
  have b2':=iy t.kind p.length
  have hy:=hQ y (by grind) (df t.kind p.length) (bL t.kind p.length) b1' b2'
  simp only [iZ,px,e1,aj,e2,Option.bind_some,al hk,oP,aU,be (n:=v+df t.kind p.length) (by omega) (by omega),be (n:=d+bL t.kind p.length) (by omega) (by omega),hy,qZ,dR,a7,aV]
  refine cO (fun t' ht'=> ?_) fun e _=>rfl
  rw [aM (by grind),e3,ih (p++[y]) m (acc++[t']) e4 hm' (by grind),show (p++[y]).length=p.length+1 by simp]
  simp
end
theorem Ce (vb db v d:Int) (t:Tm):bp vb db v d t=if t.kind=1∧t.n≥v∧t.n>1000000000-vb then .error 100 else bE (cm d db t.r) fun r'=>bE (dR vb db v d t.kind 0 t.kids) fun ks'=>bE (dC vb db v d t.kind t.sys) fun sys'=> .ok (.mk t.kind (if t.kind=1∧t.n≥v then t.n+vb else t.n) t.name r' ks' sys'):=by cases t;rfl
theorem RowsT.no {t:Tm} (h:RowsT t):RF t.r∧(t.kind=1→t.r=[])∧0≤t.kind:=by cases t;rw [RowsT] at h;exact h.1
theorem RowsT.ki {t x:Tm} (h:RowsT t) (hx:x∈t.kids):RowsT x:=by cases t;rw [RowsT] at h;exact rowsK_iff.1 h.2.1 x hx
theorem RowsT.bi {t:Tm} {b:Br Tm} (h:RowsT t) (hb:b∈t.sys):RF b.face∧ ∀x∈b.kids,RowsT x:=by cases t;rw [RowsT] at h;exact rowsS_iff.1 h.2.2 b hb
def VP (v d:Int) (n:Nat):Prop:=0≤v∧v+n<4611686018427387904∧0≤d∧d+n<4611686018427387904
theorem agF {vb db:Int} (hvb:0≤vb∧vb≤1000000000) (hdb:aF db) (t:Tm):OkT t→RowsT t→ ∀ {k:Nat} {v d:Int} (ret:Pan Int Tm→Option S),Fd k (av t)→VP v d (av t)→cK k vb db t v d ret=ret (pE (bp vb db v d t)):=by
 induction t using dW with
 |h t ih1 ih2=>
  intro ht hro k v d ret hk hv
  obtain ⟨q,rfl,hq,hf⟩:=hk.pos' (cM t)
  obtain ⟨q',hq'⟩: ∃q',q=q'+1:=⟨q-1,by omega⟩
  have hp:=cM t
  unfold VP at hv
  obtain ⟨o1,o2,o3,o4,o5,o6,o7⟩:=ht.no
  have hmo:=d9 t.kind
  have hQ: ∀y∈t.kids,∀a b,0≤a∧a≤1→0≤b∧b≤1→ ∀g:Pan Int Tm→Option S,cK q vb db y (v+a) (d+b) g=g (pE (bp vb db (v+a) (d+b) y)):=fun y hy a b h1 h2 g=>
   ih1 y hy (ht.ki hy) (hro.ki hy) g (hf _ (cr hy)) (by have:=cr hy;unfold VP;omega)
  have hQ': ∀b∈t.sys,∀y∈b.kids,∀g:Pan Int Tm→Option S,cK q vb db y v (d+au t.kind) g=g (pE (bp vb db v (d+au t.kind) y)):=fun b hb y hy g=>
   ih2 b hb y hy ((ht.bi hb).2 y hy) ((hro.bi hb).2 y hy) g (hf _ (cL hb hy)) (by have:=cL hb hy;unfold VP;omega)
  have h1:=fun r2 b1=>acy (r2:=r2) (b1:=b1) hq ret ht hdb (show 0≤d∧d<4611686018427387904 by omega) (show 0≤v∧v<4611686018427387904 by omega) hQ hQ' t.kids [] q [] rfl (by omega) rfl
  have h0: ∀r2 b1,rq (cK q) q ret vb db t r2 v d q b1=iZ (cK q) q ret vb db t b1 r2 v d q [] 0:=by
   intro r2 b1
   have: ∀j,j=q'+1→rq (cK q) q ret vb db t r2 v d j b1=iZ (cK q) q ret vb db t b1 r2 v d q [] 0:=by rintro j rfl;rfl
   grind
  have h2: ∀r2 b1,rq (cK q) q ret vb db t r2 v d q b1=_:=fun r2 b1=>(h0 r2 b1).trans (h1 r2 b1)
  have hrow:=OI (S:=S) hq (a:=vb) o4 o5 (show aF d by unfold aF;omega) hdb
  simp only [cK,EG,al hq,hrow,qZ,h2,List.length_nil,List.nil_append]
  rw [afY _ ret,Ce]
  unfold aF at o2
  by_cases hc:t.kind=1
  ·have hr:=hro.no.2.1 hc
   rw [hr,yg,aV,hc,show ((1:Int)==1)=true from rfl,aj,aH]
   by_cases hn:t.n≥v
   ·rw [if_pos hn,be (n:=1000000000-vb) (by omega) (by omega),aH]
    by_cases hb:t.n>1000000000-vb
    ·rw [if_pos hb,if_pos (show (1:Int)=1∧t.n≥v∧t.n>1000000000-vb from ⟨rfl,hn,hb⟩)];rfl
    grind [a7,be,aV]
   grind [a7,aV]
  ·have hc':(t.kind==1)=false:=by grind
   rw [hc',if_neg (show ¬ (t.kind=1∧t.n≥v∧t.n>1000000000-vb) from fun h=>hc h.1)]
   simp_all [ai,a7,aV]
theorem mo {e:Int} (he:0<e∧e≤1000) (ret:Int×Int×ByteArray→Option S):eR k e ret=ret (-e,0,ByteArray.empty):=by
 grind [eR,Qs,be]
theorem wI {e:Int} (he:0<e):decide ((ce e).kind<0)=true:=decide_eq_true (show-e<0 by omega)
section
variable {hd:Tm→Int→Int→Int→Int→(Tm→Option S)→Option S} {vb db v d:Int} {t:Tm}
theorem xG {x:Except Int Tm} (hx: ∀e,x= .error e→0<e) (hx': ∀y,x= .ok y→0≤y.kind) (f:Tm→Option S) (ret:Tm→Option S):
  (fun r:Tm=>ab (decide (r.kind<0)) (ret r) (f r)) (rE x)=eE x f fun e=>ret (ce e):=by
 cases x with
 |error e=>show ab _ _ _=_;rw [show rE (.error e)=ce e from rfl,wI (hx e rfl),aj];rfl
 |ok y=>show ab _ _ _=_;rw [show rE (.ok y)=y from rfl,decide_eq_false (by grind),ai];rfl
theorem Cg {vb db v d:Int} {x y:Tm} (h:bp vb db v d x= .ok y):y.kind=x.kind:=by
 rw [Ce] at h
 split at h
 ·cases h
 ·obtain ⟨_,_,h⟩:=bA h
  obtain ⟨_,_,h⟩:=bA h
  obtain ⟨_,_,h⟩:=bA h
  injection h with h;subst h;rfl
theorem ac8 (hk:Fu k) (ret:Tm→Option S) (rec2:List (Br Tm)→Int→Option S) {r9 r2:List Cl×Int} {b1 i18:Int} {ks:List Tm} {o:List (Br Tm)} {x:Br Tm} (hi:ah t.sys i18=some x)
  (hd0:0≤d∧d<4611686018427387904) (hQ: ∀y∈x.kids,∀g,hd y v vb (d+au t.kind) db g=g (rE (bp vb db v (d+au t.kind) y))) (hkd: ∀y∈x.kids,0≤y.kind) (hl:x.kids.length<1073741824) (ho:o.length<1073741824):
  ∀ (r p:List Tm) (m:Nat) (acc:List Tm),x.kids=p++r→r.length<m→acc.length=p.length→
  g5 hd k ret rec2 t b1 r2 ks o r9 v i18 vb d db m acc (p.length:Int)=eE (dr vb db v d t.kind r) (fun l=>rec2 (o++[⟨r9.1,acc++l⟩]) (IntKind.wrap .i64 (i18+1))) fun e=>ret (ce e):=by
 have hmo:=d9 t.kind
 intro r
 induction r with
 |nil=>
  grind [ak,g5,uz,ai,dr,aV,aM]
 |cons y r ih=>
  intro p m acc h hm ha
  obtain ⟨m,rfl,hm'⟩:=ak hm
  obtain ⟨e1,e2,e3,e4⟩:=az h (by omega)
  have hpl:p.length<x.kids.length:=by grind
  have hym:y∈x.kids:=by grind
  have hy:=hQ y hym
  simp only [g5,uz,hi,e1,aj,e2,Option.bind_some,al hk,D6,aU,be (n:=d+au t.kind) (by omega) (by omega),hy]
  refine Eq.trans (xG (fun e he=>(rH y he).1) (fun z hz=>by grind [Cg]) (fun z=>Option.bind (ap 1099511627776 acc.length [z].length) fun _=>g5 hd k ret rec2 t b1 r2 ks o r9 v i18 vb d db m (acc++[z]) (IntKind.wrap .i64 ((p.length:Int)+1))) ret) ?_
  simp only [dr,a7,aV]
  refine cO (fun t' ht'=> ?_) fun e _=>rfl
  rw [aM (by grind),e3,ih (p++[y]) m (acc++[t']) e4 hm' (by grind)]
  simp
theorem tn {z:List Cl×Int} {α:Type} (f:List Cl→α) (g:Int→α):ab (!(z.2==0)) (g z.2) (f z.1)=eE (cJ z) f g:=by
 rw [bR]
 unfold cJ
 by_cases h:z.2=0
 ·rw [decide_eq_true h,if_pos h];rfl
 ·rw [decide_eq_false h,if_neg h];rfl
theorem ac7 (hk:Fu k) (ret:Tm→Option S) {r2:List Cl×Int} {b1:Int} {ks:List Tm} (ht:OkT t) (hro:RowsT t) (hdb:0≤db∧db<9223372036854775808) (hd0:0≤d∧d<4611686018427387904)
  (hQ: ∀b∈t.sys,∀y∈b.kids,∀g,hd y v vb (d+au t.kind) db g=g (rE (bp vb db v (d+au t.kind) y))):
  ∀ (r p:List (Br Tm)) (m:Nat) (o:List (Br Tm)),t.sys=p++r→r.length<m→o.length=p.length→
  d8 hd k ret t b1 r2 ks v vb d db m o (p.length:Int)=eE (dC vb db v d t.kind r) (fun l=>ret (.mk t.kind b1 t.name r2.1 ks (o++l))) fun e=>ret (ce e):=by
 obtain ⟨o1,o2,o3,o4,o5,o6,o7⟩:=ht.no
 intro r
 induction r with
 |nil=>
  grind [ak,d8,pV,ai,dC,aV]
 |cons x r ih=>
  intro p m o h hml ho
  obtain ⟨m,rfl,hm'⟩:=ak hml
  obtain ⟨e1,e2,e3,e4⟩:=az h (by omega)
  have hx:x∈t.sys:=by grind
  have hpl:p.length<t.sys.length:=by grind
  have hb:=(ht.bi hx).1
  obtain ⟨z,hz,hrow⟩:=OJ (S:=S) hk (hro.bi hx).1 (show 0≤d∧d<9223372036854775808 by omega) hdb (fun r9=>ab (!(r9.2==0)) (eR k r9.2 fun r10=>ret (Tm.mk r10.1 r10.2.1 r10.2.2 [] [] []))
   (g5 hd k ret (d8 hd k ret t b1 r2 ks v vb d db m) t b1 r2 ks o r9 v (p.length:Int) vb d db k [] 0))
  have:=ac8 (r9:=z) (r2:=r2) (b1:=b1) (ks:=ks) (o:=o) hk ret (d8 hd k ret t b1 r2 ks v vb d db m) e2 hd0 (hQ x hx) (fun y hy=>((hro.bi hx).2 y hy).no.2.2) hb.2.2 (by omega) x.kids [] k [] rfl (by omega) rfl
  have this:g5 hd k ret (d8 hd k ret t b1 r2 ks v vb d db m) t b1 r2 ks o z v (p.length:Int) vb d db k [] 0=_:=this
  have hB:rG vb db v d t.kind x=bE (cm d db x.face) fun f'=>bE (dr vb db v d t.kind x.kids) fun ks'=> .ok (.mk f' ks'):=by cases x;rfl
  simp only [d8,pV,e1,aj,e2,Option.bind_some,al hk,hrow,this,dC,hB,a7,aV,List.nil_append,e3]
  have hbad:ab (!(z.2==0)) (eR k z.2 fun r10=>ret (Tm.mk r10.1 r10.2.1 r10.2.2 [] [] [])) (eE (dr vb db v d t.kind x.kids) (fun l=>d8 hd k ret t b1 r2 ks v vb d db m (o++[Br.mk z.1 l]) (((p++[x]).length:Nat):Int)) fun e=>ret (ce e))
    =ab (!(z.2==0)) (ret (ce z.2)) (eE (dr vb db v d t.kind x.kids) (fun l=>d8 hd k ret t b1 r2 ks v vb d db m (o++[Br.mk z.1 l]) (((p++[x]).length:Nat):Int)) fun e=>ret (ce e)):=by
   by_cases h0:z.2=0
   ·rw [h0];rfl
   ·have hze:cJ z= .error z.2:=kG h0
    rw [hz] at hze
    rw [mo (yf hze)];rfl
  rw [hbad,tn (z:=z) (fun f'=>eE (dr vb db v d t.kind x.kids) (fun l=>d8 hd k ret t b1 r2 ks v vb d db m (o++[Br.mk f' l]) (((p++[x]).length:Nat):Int)) fun e=>ret (ce e)) (fun e=>ret (ce e)),hz]
  refine cO (fun f' _=>cO (fun ks' _=> ?_) fun e _=>rfl) fun e _=>rfl
  grind
theorem ac6 (hk:Fu k) (ret:Tm→Option S) {r2:List Cl×Int} {b1:Int} (ht:OkT t) (hro:RowsT t) (hdb:0≤db∧db<9223372036854775808) (hd0:0≤d∧d<4611686018427387904) (hv0:0≤v∧v<4611686018427387904)
  (hQ: ∀y∈t.kids,∀a b,0≤a∧a≤1→0≤b∧b≤1→ ∀g,hd y (v+a) vb (d+b) db g=g (rE (bp vb db (v+a) (d+b) y))) (hQ': ∀b∈t.sys,∀y∈b.kids,∀g,hd y v vb (d+au t.kind) db g=g (rE (bp vb db v (d+au t.kind) y))):
  ∀ (r p:List Tm) (m:Nat) (acc:List Tm),t.kids=p++r→r.length<m→acc.length=p.length→
  gg hd k ret t b1 r2 v vb d db m acc (p.length:Int)=eE (dR vb db v d t.kind p.length r) (fun l=>eE (dC vb db v d t.kind t.sys) (fun s=>ret (.mk t.kind b1 t.name r2.1 (acc++l) s)) fun e=>ret (ce e)) fun e=>ret (ce e):=by
 obtain ⟨o1,o2,o3,o4,o5,o6,o7⟩:=ht.no
 intro r
 induction r with
 |nil=>
  intro p m acc h hm ha
  obtain ⟨m,rfl,hm'⟩:=ak hm
  have hs:d8 hd k ret t b1 r2 acc v vb d db k [] 0=_:=ac7 hk ret ht hro hdb hd0 hQ' t.sys [] k [] rfl (by omega) rfl
  grind [gg,pU,ai,dR,aV]
 |cons y r ih=>
  intro p m acc h hm ha
  obtain ⟨m,rfl,hm'⟩:=ak hm
  obtain ⟨e1,e2,e3,e4⟩:=az h (by omega)
  have hpl:p.length<t.kids.length:=by grind
  have b1':=qb t.kind p.length
  have b2':=iy t.kind p.length
  have hym:y∈t.kids:=by grind
  have hy:=hQ y hym (df t.kind p.length) (bL t.kind p.length) b1' b2'
  simp only [gg,pU,e1,aj,e2,Option.bind_some,al hk,D5 hk,aU,be (n:=v+df t.kind p.length) (by omega) (by omega),be (n:=d+bL t.kind p.length) (by omega) (by omega),hy]
  refine Eq.trans (xG (fun e he=>(rH y he).1) (fun z hz=>by rw [Cg hz];exact (hro.ki hym).no.2.2) (fun z=>Option.bind (ap 1099511627776 acc.length [z].length) fun _=>gg hd k ret t b1 r2 v vb d db m (acc++[z]) (IntKind.wrap .i64 ((p.length:Int)+1))) ret) ?_
  simp only [dR,a7,aV]
  refine cO (fun t' ht'=> ?_) fun e _=>rfl
  rw [aM (by grind),e3,ih (p++[y]) m (acc++[t']) e4 hm' (by grind),show (p++[y]).length=p.length+1 by simp]
  simp
end
theorem ag8 {vb db:Int} (hvb:0≤vb∧vb≤1000000000) (hdb:0≤db∧db<9223372036854775808) (t:Tm):OkT t→RowsT t→ ∀ {k:Nat} {v d:Int} (ret:Tm→Option S),Fd k (av t)→VP v d (av t)→dq k t v vb d db ret=ret (rE (bp vb db v d t)):=by
 induction t using dW with
 |h t ih1 ih2=>
  intro ht hro k v d ret hk hv
  obtain ⟨q,rfl,hq,hf⟩:=hk.pos' (cM t)
  obtain ⟨q',hq'⟩: ∃q',q=q'+1:=⟨q-1,by omega⟩
  have hp:=cM t
  unfold VP at hv
  obtain ⟨o1,o2,o3,o4,o5,o6,o7⟩:=ht.no
  have hmo:=d9 t.kind
  have hQ: ∀y∈t.kids,∀a b,0≤a∧a≤1→0≤b∧b≤1→ ∀g:Tm→Option S,dq q y (v+a) vb (d+b) db g=g (rE (bp vb db (v+a) (d+b) y)):=fun y hy a b h1 h2 g=>
   ih1 y hy (ht.ki hy) (hro.ki hy) g (hf _ (cr hy)) (by have:=cr hy;unfold VP;omega)
  have hQ': ∀b∈t.sys,∀y∈b.kids,∀g:Tm→Option S,dq q y v vb (d+au t.kind) db g=g (rE (bp vb db v (d+au t.kind) y)):=fun b hb y hy g=>
   ih2 b hb y hy ((ht.bi hb).2 y hy) ((hro.bi hb).2 y hy) g (hf _ (cL hb hy)) (by have:=cL hb hy;unfold VP;omega)
  have h1:=fun r2 b1=>ac6 (r2:=r2) (b1:=b1) hq ret ht hro hdb (show 0≤d∧d<4611686018427387904 by omega) (show 0≤v∧v<4611686018427387904 by omega) hQ hQ' t.kids [] q [] rfl (by omega) rfl
  have h1: ∀r2 b1,gg (dq q) q ret t b1 r2 v vb d db q [] 0=_:=h1
  have h0: ∀b1,wP (dq q) q ret t v vb d db q b1=eE (cm d db t.r) (fun r'=>eE (dR vb db v d t.kind 0 t.kids) (fun l=>eE (dC vb db v d t.kind t.sys) (fun s=>ret (.mk t.kind b1 t.name r' l s)) fun e=>ret (ce e)) fun e=>ret (ce e)) fun e=>ret (ce e):=by
   intro b1
   have: ∀j,j=q'+1→wP (dq q) q ret t v vb d db j b1=pT (dq q) q ret t v vb d db (fun b11_1 r2 b11_4 i14=>gg (dq q) q ret t b11_1 r2 v vb d db q b11_4 i14) b1:=by rintro j rfl;rfl
   rw [this q hq']
   obtain ⟨z,hz,hrow⟩:=OJ (S:=S) hq hro.no.1 (show 0≤d∧d<9223372036854775808 by omega) hdb (fun r2=>ab (!(r2.2==0)) (eR q r2.2 fun r3=>ret (Tm.mk r3.1 r3.2.1 r3.2.2 [] [] [])) (gg (dq q) q ret t b1 r2 v vb d db q [] 0))
   simp only [pT,al hq,hrow]
   rw [h1]
   simp only [List.nil_append]
   rw [←hz]
   by_cases hz0:z.2=0
   ·rw [kE hz0,hz0];rfl
   ·have hze:cJ z= .error z.2:=kG hz0
    have hze':=hze
    rw [hz] at hze'
    rw [hze,bR,decide_eq_false hz0,Bool.not_false,aj,mo (yf hze')];rfl
  simp only [dq,Fc,al hq,h0]
  rw [yc _ ret,Ce]
  unfold aF at o2
  by_cases hc:t.kind=1
  ·rw [hc,show ((1:Int)==1)=true from rfl,aj,aH]
   by_cases hn:t.n≥v
   ·rw [if_pos hn,be (n:=1000000000-vb) (by omega) (by omega),aH]
    by_cases hb:t.n>1000000000-vb
    ·rw [if_pos hb,if_pos (show (1:Int)=1∧t.n≥v∧t.n>1000000000-vb from ⟨rfl,hn,hb⟩),mo (by omega)];rfl
    grind [be,a7,aV]
   grind [a7,aV]
  ·have hc':(t.kind==1)=false:=by grind
   rw [hc',if_neg (show ¬ (t.kind=1∧t.n≥v∧t.n>1000000000-vb) from fun h=>hc h.1)]
   simp_all [ai,a7,aV]
end Go.Proofs.YtgajalidbabccaaGreatDoor
namespace Go.Proofs.YtgajalidbabccaaGreatDoor
open Go PI
set_option linter.unusedVariables false
set_option linter.unusedSimpArgs false
set_option maxRecDepth 20000
variable {S:Type} {k:Nat}
theorem iO {t:Tm} (h:dB t=0):av t≤200∧aD t≤20000∧aQ false (-1) 24 t=true:=by
 grind [dB]
theorem H2 {t:Tm} (h1:av t≤200) (h2:aD t≤20000) (h3:aQ false (-1) 24 t=true):dB t=0:=by
 grind [dB]
def Fm (t:Tm):Prop:=OkT t∧dB t=0
theorem Fm.ok {t:Tm} (h:Fm t):OkT t:=h.1
theorem Fm.rows {t:Tm} (h:Fm t):RowsT t:=WU t h.1 (iO h.2).2.2
theorem Fm.dep {t:Tm} (h:Fm t):av t≤200:=(iO h.2).1
theorem Fm.siz {t:Tm} (h:Fm t):aD t≤20000:=(iO h.2).2.1
theorem Cf {vb db v d:Int} (hvb:0≤vb∧vb≤1000000000) {t t':Tm} (h:Fm t) (hl:bp vb db v d t= .ok t'):Fm t':=by
 obtain ⟨h1,h2,h3,h4⟩:=adK hvb.1 hvb.2 t v d t' hl
 obtain ⟨a,b,c⟩:=iO h.2
 have:=h4 h.1
 exact ⟨this.1,H2 (by omega) (by omega) (this.2.2 24 24 (by omega) (by omega) c)⟩
abbrev F3 (k:Nat):Prop:=4294968296≤k
theorem F3.fu (h:F3 k):Fu k:=by omega
theorem F3.fd (h:F3 k) {n:Nat} (hn:n≤1000):Fd k n:=by omega
theorem Fm.fd {t:Tm} (h:Fm t) (hk:F3 k):Fd k (av t):=hk.fd (by have:=h.dep;omega)
theorem Fm.vp {t:Tm} (h:Fm t) {v d:Int} (hv:0≤v∧v≤4611686018427380000) (hd:0≤d∧d≤4611686018427380000):VP v d (av t):=by have:=h.dep;unfold VP;omega
theorem s8 (x:Except Int Tm) (ret:Tm×Int→Option S):ret (tE x)=eE x (fun t=>ret (t,0)) fun e=>ret (aR,e):=by cases x<;>rfl
theorem act (hk:Fu k) (ret:Tm×Int→Option S) {c0 c2:Int} {c1:Tm} {ns:List Int} (hl:ns.length<1000) (hn: ∀x∈ns,0≤x):
  ∀ (r p:List Int) (m:Nat),ns=p++r→r.length<m→lA k ret c0 c1 c2 ns m (p.length:Int)=vl k c0 c1 c2 fun r4=>Pan.elim r4 (fun r4=>ret (r4,0)) fun e5=>ret (aR,e5):=by
 intro r
 induction r with
 |nil=>
  intro p m h hm
  obtain ⟨m,rfl,hm'⟩:=ak hm
  simp only [lA,tV,cQ h,ai,al hk,aU];rfl
 |cons x r ih=>
  intro p m h hm
  obtain ⟨m,rfl,hm'⟩:=ak hm
  obtain ⟨e1,e2,e3,e4⟩:=az h (by omega)
  have hx:=hn x (by grind)
  grind [lA,tV,aH]
theorem agE (hk:F3 k) {t:Tm} (ht:Fm t) {f b:Int} (hf:0≤f∧f≤24) (hb:0≤b∧b<9223372036854775808) (ret:Tm×Int→Option S):iE k t f b ret=ret (tE (bp 0 b 0 f t)):=by
 have hl:=act hk.fu ret (c0:=b) (c2:=f) (c1:=t) (ns:=[f,b]) (by simp) (by grind) [f,b] [] k rfl (by grind)
 have hl:lA k ret b t f [f,b] k 0=_:=hl
 simp only [iE,EF,al hk.fu,aU,vm,yw,yj ht.ok (ht.fd hk) (show av t<1099511627776 by have:=ht.dep;omega),ht.2,hl,vl,PX]
 rw [show ((0:Int)==0)=true from rfl,Bool.not_true,ai,if_neg (by omega),agF (by omega) (by unfold aF;omega) t ht.ok ht.rows _ (ht.fd hk) (ht.vp (by omega) (by omega)),qZ,s8 _ ret]
 rfl
theorem agN (hk:F3 k) {t:Tm} (ht:Fm t) {f b:Int} (hf:0≤f∧f≤24) (hb:0≤b∧b<9223372036854775808) (ret:Tm×Int→Option S):vD k t f b ret=ret (tE (bp 0 b 0 f t)):=by
 simp only [vD,Qt,al hk.fu,aU,AL,Qw,OQ ht.ok (ht.fd hk) (show aD t<1099511627776 by have:=ht.siz;omega),ht.2,aH]
 rw [show ((0:Int)==0)=true from rfl,aj,if_neg (by omega),if_neg (by omega)]
 rw [Bool.not_true,ai,if_neg (by omega),ag8 (by omega) (by omega) t ht.ok ht.rows _ (ht.fd hk) (ht.vp (by omega) (by omega))]
 simp only [vE,Qu]
 cases hx:bp 0 b 0 f t with
 |ok y=>
  rw [show rE (.ok y)=y from rfl,decide_eq_false (by have:=Cg hx;have:=ht.rows.no.2.2;omega),ai]
  simp only [aU];rfl
 |error e=>
  have he:=rH t hx
  rw [show rE (.error e)=ce e from rfl,wI he.1,aj,be (show-9223372036854775808≤0-(ce e).kind by show _≤0-(-e);omega) (by show 0-(-e)<_;omega)]
  show ret (aR,0-(-e))=ret (aR,e)
  simp
end Go.Proofs.YtgajalidbabccaaGreatDoor
namespace Go.Proofs.YtgajalidbabccaaGreatDoor
open Go PI
set_option linter.unusedVariables false
set_option linter.unusedSimpArgs false
set_option maxRecDepth 20000
variable {S:Type} {k:Nat}
section
variable {hd:Tm→(Tm→Option S)→Option S}
end
theorem aeM {v d d':Int} (h:24≤d) (h':24≤d') (t:Tm):du v d t=du v d' t:=by
 have hb: ∀kd,cE kd d=cE kd d':=fun kd=>by grind [cE,wX]
 simp_all [du,wX]
theorem WP (t:Tm): ∀ {v d d':Int},24≤d→24≤d'→aQ false v d t=aQ false v d' t:=by
 induction t using dW with
 |h t ih1 ih2=>
  intro v d d' h h'
  rw [tw,tw,aeM h h']
  have hK: ∀ (l:List Tm) (i:Nat),(∀x∈l,x∈t.kids)→bz false v d t.kind i l=bz false v d' t.kind i l:=by
   intro l
   induction l<;>grind [bz,bL]
  grind [FO,au]
end Go.Proofs.YtgajalidbabccaaGreatDoor
namespace Go.Proofs.YtgajalidbabccaaGreatDoor
open Go PI
set_option linter.unusedVariables false
set_option linter.unusedSimpArgs false
set_option maxRecDepth 20000
variable {S:Type} {k:Nat}
def aJ (i:Int) (r:List Cl) (fa:Bool):dc:=fun d f=>if bj (fZ f) (i+d) then bE (cJ (bo r 0 d)) fun s=>cJ (if fa then gr f (i+d) s else gu f (i+d) s) else .ok f
theorem AZ (f:List Cl):U32 (fZ f):=by
 have:=A0 f
 exact ⟨Int.natCast_nonneg _,by show ((eT f:Nat):Int)<_;omega⟩
theorem ae1 {f r:List Cl} {i:Int} (hr:ao r) (h:(gu f i r).2=0):RF (gu f i r).1:=by
 grind [gu,H0,La,eH,oL]
theorem CI (f g:List Cl):EN (cH f g).2:=om _
theorem BG (f g:List Cl):EN (ci f g).2:=om _
theorem adX (f g:List Cl):EN (dU f g).2:=om _
theorem KW (f:List Cl):EN (cu f).2:=wq fun h c=>CI _ _
theorem aeR (i:Int) (r:List Cl) (c:Cl):EN (dE i r c).2:=by
 grind [dE,CI,q_]
theorem aeT (i:Int) (r:List Cl) (c:Cl) (g:List Cl):EN (eb i r c g).2:=by
 grind [eb,CI,KW,q_]
theorem aeQ (i:Int) (r h:List Cl) (c:Cl):EN (dv i r h c).2:=by
 grind [dv,BG,aeT,aeR]
theorem ae0 (f:List Cl) (i:Int) (r:List Cl):EN (gu f i r).2:=by
 grind [gu,wq,aeQ,jQ]
theorem aec (f:List Cl):EN (eC f).2:=by
 unfold eC
 split
 ·exact om _
 ·exact jQ
theorem aed (f:List Cl):EN (eZ f).2:=by
 unfold eZ
 split
 ·split
  ·exact om _
  ·exact KW _
 ·exact jQ
theorem aeW {i:Int} {c:Cl} {h:List Cl} {q:List Cl×Int} (hq:EN q.2):EN (dK i c h q).2:=by
 grind [dK,BG,adX]
theorem aeX (f:List Cl) (i:Int) (r:List Cl):EN (gr f i r).2:=by
 grind [gr,wq,bZ,aeW,aec,aed,BG,jQ]
theorem oM {i:Int} {r:List Cl} {fa:Bool} {d:Int} {f g:List Cl} (hf:RF f) (h:aJ i r fa d f= .ok g):RF g:=by
 unfold aJ at h
 split at h
 ·obtain ⟨s,h1,h⟩:=bA h
  obtain ⟨h0,rfl⟩:=tp h1
  have hs:=kh h0
  obtain ⟨h2,rfl⟩:=tp h
  cases fa with
  |true=>exact (aeY hf.2 hs.2 h2).1
  |false=>exact ae1 hs.2 h2
 grind
theorem yh {i:Int} {r:List Cl} {fa:Bool} {d:Int} {f:List Cl} {e:Int} (h:aJ i r fa d f= .error e):0<e∧e≤1000:=by
 grind [aJ,cD,Fw,wV,EN,aeX,ae0]
theorem N8 {i:Int} {r:List Cl} {fa:Bool} {d:Int}:aJ i r fa d []= .ok []:=by
 grind [aJ,bj,fZ,Int.toNat_natCast,A2,ig]
def dw (i:Int) (r:List Cl) (fa:Bool) (d:Int) (f:List Cl):List Cl×Int:=if bj (fZ f) (i+d) then if (bo r 0 d).2=0 then if fa then gr f (i+d) (bo r 0 d).1 else gu f (i+d) (bo r 0 d).1 else ([],(bo r 0 d).2) else (f,0)
theorem my (i:Int) (r:List Cl) (fa:Bool) (d:Int) (f:List Cl):cJ (dw i r fa d f)=aJ i r fa d f:=by
 grind [dw,aJ,kE,aS,kG,W7]
section
variable {i d:Int} {r f:List Cl}
theorem OW (hk:Fu k) (hf:RF f) (hr:RF r) (hi:0≤i∧i<24) (hd:0≤d∧d<4611686018427387000) (ret:List Cl×Int→Option S):qj k f d i r ret=ret (dw i r true d f):=by
 have l1:=hf.len;have l2:=hr.len
 simp only [qj,Pn,al hk,be (n:=i+d) (by omega) (by omega),DY hk hf.2 (show f.length<4294967296 by omega),oQ hk (AZ f),qi,Ef,aM (show 0+f.length≤1099511627776 by omega),yk hk hr.2 (show r.length<1073741824 by omega) (show aF 0 by unfold aF;omega) (show aF d by unfold aF;omega)]
 unfold dw
 cases bj (fZ f) (i+d) with
 |false=>rfl
 |true=>
  rw [Bool.not_true,ai,bR,if_pos rfl]
  by_cases h0:(bo r 0 d).2=0
  ·have hs:=kh h0
   rw [decide_eq_true h0,Bool.not_true,ai,agz hk hf.2 hs.2 hf.lt hs.lt,if_pos h0,if_pos rfl]
  grind [aj]
theorem ag_ (hk:Fu k) (hf:RF f) (hr:RF r) (hi:0≤i∧i<24) (hd:0≤d∧d<4611686018427387000) (ret:List Cl×Int→Option S):uY k f d i r ret=ret (dw i r false d f):=by
 have l1:=hf.len;have l2:=hr.len
 simp only [uY,Pm,al hk,be (n:=i+d) (by omega) (by omega),DY hk hf.2 (show f.length<4294967296 by omega),oQ hk (AZ f),qi,Ef,aM (show 0+f.length≤1099511627776 by omega),yk hk hr.2 (show r.length<1073741824 by omega) (show aF 0 by unfold aF;omega) (show aF d by unfold aF;omega)]
 unfold dw
 cases bj (fZ f) (i+d) with
 |false=>rfl
 |true=>
  rw [Bool.not_true,ai,bR,if_pos rfl]
  by_cases h0:(bo r 0 d).2=0
  ·have hs:=kh h0
   rw [decide_eq_true h0,Bool.not_true,ai,agw hk hf.2 hs.2 hf.lt hs.lt,if_pos h0,if_neg (by decide)]
  grind [aj]
theorem OK (hk:Fu k) {fa:Bool} (hf:RF f) (hr:RF r) (hi:0≤i∧i<24) (hd:0≤d∧d<4611686018427387000) (ret:List Cl×Int→Option S):qO k f fa i r d ret=ret (dw i r fa d f):=by
 have l1:=hf.len;have l2:=hr.len
 simp only [qO,Qy,al hk,be (n:=i+d) (by omega) (by omega),OO hk hf.2 (show f.length<1073741824 by omega),gz hk (AZ f),D4 hk hr.2 (show r.length<1073741824 by omega) (show aF 0 by unfold aF;omega) (show aF d by unfold aF;omega)]
 unfold dw
 cases bj (fZ f) (i+d) with
 |false=>rfl
 |true=>
  rw [Bool.not_true,ai,bR,if_pos rfl]
  by_cases h0:(bo r 0 d).2=0
  ·have hs:=kh h0
   rw [decide_eq_true h0,Bool.not_true,ai,if_pos h0]
   cases fa with
   |true=>rw [aj,agW hk hf.2 hs.2 hf.lt hs.lt,if_pos rfl]
   |false=>rw [ai,ag3 hk hf.2 hs.2 hf.lt hs.lt,if_neg (by decide)]
  grind [aj]
end
def iz (j:Int) (c:Cl):Cl:=⟨nh c.pos j,nh c.neg j⟩
def aO (j:Int) (f:List Cl):List Cl:=(aW (f.map (iz j))).1
theorem Hl (s j:Int):0≤nh s j∧nh s j<16777216:=by
 have:=XE s.toNat j
 exact ⟨Int.natCast_nonneg _,by show ((iH s.toNat j:Nat):Int)<_;omega⟩
theorem Ak (j:Int) (c:Cl):RC (iz j c):=⟨Hl _ _,Hl _ _⟩
theorem qe (j:Int) (f:List Cl): ∀c∈f.map (iz j),RC c:=fun c hc=>by
 grind [Ak]
theorem Al {j:Int} {f:List Cl} (hf:f.length≤64):aW (f.map (iz j))=(aO j f,0):=Prod.ext rfl (I0 (qe j f) (by grind))
theorem Xw {j:Int} {f:List Cl} (hf:f.length≤64):RF (aO j f):=oq (fun c hc=>(qe j f c hc).ok) (by rw [Al hf])
theorem ad7: ∀ (n:Nat) {l:List Cl} {c:Cl},(l.filter fun d=>dl c d&& !decide (d=c)).length≤n→(∀d∈l,RC d)→c∈l→ ∃d∈l,bM l d=true:=by
 have hle: ∀ {a b:Cl},RC a→RC b→(dl a b=true↔(∀j,b.pos.toNat.testBit j=true→a.pos.toNat.testBit j=true)∧ ∀j,b.neg.toNat.testBit j=true→a.neg.toNat.testBit j=true):=by
  intro a b ha hb
  unfold dl dD
  rw [decide_eq_true_eq]
  have hor: ∀ {x y:Int},0≤x→(dJ x y=x↔ ∀j,y.toNat.testBit j=true→x.toNat.testBit j=true):=by
   intro x y hx
   unfold dJ
   constructor
   ·intro h j hj
    have:(x.toNat|||y.toNat)=x.toNat:=by omega
    grind
   ·intro h
    have:(x.toNat|||y.toNat)=x.toNat:=by
     apply Nat.eq_of_testBit_eq
     grind
    omega
  cases a with
  |mk p q=>
   have h1:0≤p:=ha.1.1
   have h2:0≤q:=ha.2.1
   grind
 have hanti: ∀ {a b:Cl},RC a→RC b→dl a b=true→dl b a=true→a=b:=by
  intro a b ha hb h1 h2
  have e1:=(hle ha hb).1 h1
  have e2:=(hle hb ha).1 h2
  have hx: ∀ {x y:Int},0≤x→0≤y→(∀j,y.toNat.testBit j=true→x.toNat.testBit j=true)→(∀j,x.toNat.testBit j=true→y.toNat.testBit j=true)→x=y:=by
   intro x y hx hy a b
   have:x.toNat=y.toNat:=by
    apply Nat.eq_of_testBit_eq
    grind
   omega
  cases a;cases b
  have p1:=hx ha.1.1 hb.1.1 e1.1 e2.1
  have p2:=hx ha.2.1 hb.2.1 e1.2 e2.2
  grind
 intro n
 induction n with
 |zero=>
  grind [bM,List.filter_eq_nil_iff]
 |succ n ih=>
  intro l c hn hl hc
  by_cases h:bM l c=true
  ·grind
  ·unfold bM at h
   rw [List.all_eq_true] at h
   have: ∃d∈l,¬ ((decide (d=c)|| !dl c d)=true):=Classical.byContradiction fun hh=>h fun d hd=>Classical.byContradiction fun h2=>hh ⟨d,hd,h2⟩
   obtain ⟨d,hd,hd'⟩:=this
   have h1:d≠c:=fun h=>hd' (by grind)
   have h2:dl c d=true:=by
    grind
   refine ih (c:=d) ?_ hl hd
   have hsub:(l.filter fun e=>dl d e&& !decide (e=d)).length<(l.filter fun e=>dl c e&& !decide (e=c)).length:=by
    have hc':=hl c hc;have hdr:=hl d hd
    have himp: ∀e∈l,(dl d e&& !decide (e=d))=true→(dl c e&& !decide (e=c))=true:=by
     grind
    have hle2: ∀ (p q:Cl→Bool) (m:List Cl),(∀e∈m,p e=true→q e=true)→(m.filter p).length≤(m.filter q).length:=by
     intro p q m
     induction m<;>grind
    have hlt: ∀ (p q:Cl→Bool) (m:List Cl),(∀e∈m,p e=true→q e=true)→d∈m→p d=false→q d=true→(m.filter p).length<(m.filter q).length:=by
     intro p q m
     induction m with
     |nil=>simp
     |cons e m im=>
      intro hm hdm hp hq
      have hrest: ∀e∈m,p e=true→q e=true:=fun e he=>hm e (by simp [he])
      have hb:=hle2 p q m hrest
      rcases List.mem_cons.1 hdm with rfl|hdm<;>grind
    exact hlt _ _ l himp hd (by simp) (by grind)
   omega
theorem Gt {j:Int} {f:List Cl} (hf:RF f):(aO j f).length=0↔f.length=0:=by
 have h:=Al (j:=j) hf.len
 have hm:=(wU h).1
 constructor
 ·intro h0
  apply Classical.byContradiction
  intro hne
  obtain ⟨c,hc⟩:=List.exists_mem_of_length_pos (l:=f.map (iz j)) (by grind)
  obtain ⟨d,hd,hn⟩:=ad7 _ (Nat.le_refl _) (qe j f) hc
  have:d∈aO j f:=by grind [mem_mins]
  grind
 ·intro h0
  have:=List.length_eq_zero_iff.1 h0
  subst this;rfl
theorem ace (hk:Fu k) (ret:List Cl×Int→Option S) {i d:Int} (hi:0≤i∧i<24) (hd:0≤d∧d<4611686018427387000) {f:List Cl} (hf:ao f) (hlen:f.length<1073741824):
  ∀ (r p:List Cl) (m:Nat) (o:List Cl),f=p++r→r.length<m→ao o→o.length=p.length→nD k ret i d f m (p.length:Int) o=ret (aW (o++r.map (iz (i+d)))):=by
 intro r
 induction r with
 |nil=>
  intro p m o h hm hok ho
  obtain ⟨m,rfl,hm'⟩:=ak hm
  grind [nD,tB,ai,al,jr]
 |cons x r ih=>
  intro p m o h hm hok ho
  obtain ⟨m,rfl,hm'⟩:=ak hm
  obtain ⟨e1,e2,e3,e4⟩:=az h (by omega)
  have hx:aG x:=hf x (by grind)
  have hpl:p.length<f.length:=by grind
  simp only [nD,tB,e1,aj,e2,Option.bind_some,al hk,be (n:=i+d) (by omega) (by omega),Ou hk hx.1,Ou hk hx.2,e3]
  rw [aM (by grind)]
  have:=ih (p++[x]) m (o++[iz (i+d) x]) e4 hm' (d_ hok fun c hc=>by simp at hc;subst hc;exact (Ak _ _).ok) (by grind)
  refine Eq.trans this ?_
  simp
theorem OC (hk:Fu k) {i d:Int} (hi:0≤i∧i<24) (hd:0≤d∧d<4611686018427387000) {f:List Cl} (hf:RF f) (ret:List Cl×Int→Option S):mN k f d i ret=ret (aO (i+d) f,0):=by
 have l1:=hf.len
 have:=ace hk ret hi hd hf.2 (by omega) f [] k [] rfl (by omega) (fun c hc=>by cases hc) rfl
 grind [mN,Ee,Al]
theorem acb (hk:Fu k) (ret:List Cl→Option S) {j:Int} {f:List Cl} (hf:ao f) (hlen:f.length<1073741824):
  ∀ (r p:List Cl) (m:Nat) (o:List Cl),f=p++r→r.length<m→ao o→o.length=p.length→oe k ret f j m o (p.length:Int)=ret (aW (o++r.map (iz j))).1:=by
 intro r
 induction r with
 |nil=>
  intro p m o h hm hok ho
  obtain ⟨m,rfl,hm'⟩:=ak hm
  grind [oe,uA,ai,al,mq]
 |cons x r ih=>
  intro p m o h hm hok ho
  obtain ⟨m,rfl,hm'⟩:=ak hm
  obtain ⟨e1,e2,e3,e4⟩:=az h (by omega)
  have hx:aG x:=hf x (by grind)
  have hpl:p.length<f.length:=by grind
  simp only [oe,uA,e1,aj,e2,Option.bind_some,al hk,OP hk hx.1,OP hk hx.2,e3]
  rw [aM (by grind)]
  have:=ih (p++[x]) m (o++[iz j x]) e4 hm' (d_ hok fun c hc=>by simp at hc;subst hc;exact (Ak _ _).ok) (by grind)
  refine Eq.trans this ?_
  simp
theorem OB (hk:Fu k) {j:Int} {f:List Cl} (hf:RF f) (ret:List Cl→Option S):qN k f j ret=ret (aO j f):=by
 have l1:=hf.len
 have:=acb hk ret (j:=j) hf.2 (by omega) f [] k [] rfl (by omega) (fun c hc=>by cases hc) rfl
 simp only [qN,Fe]
 exact this
end Go.Proofs.YtgajalidbabccaaGreatDoor
namespace Go.Proofs.YtgajalidbabccaaGreatDoor
open Go PI
set_option linter.unusedVariables false
set_option linter.unusedSimpArgs false
set_option maxRecDepth 20000
variable {S:Type} {k:Nat}
theorem yC (fo fa:dc) (d:Int) (t:Tm):aI fo fa d t=bE (if t.kind=14 then fa d t.r else fo d t.r) fun r'=>bE (a_ fo fa d t.kind 0 t.kids) fun ks'=>bE (aK fo fa d t.kind t.sys) fun sys'=> .ok (.mk t.kind t.n t.name r' ks' sys'):=by cases t;rfl
theorem FE {fo fa:dc} {d:Int} {x y:Tm} (h:aI fo fa d x= .ok y):y.kind=x.kind:=by
 rw [yC] at h
 obtain ⟨_,_,h⟩:=bA h
 obtain ⟨_,_,h⟩:=bA h
 obtain ⟨_,_,h⟩:=bA h
 injection h with h;subst h;rfl
theorem yB (fo fa:dc) (d kd:Int) (b:Br Tm):eJ fo fa d kd b=bE (fa d b.face) fun f'=>if f'.length=0 then .ok [] else bE (bg fo fa d kd b.kids) fun ks'=> .ok [.mk f' ks']:=by cases b;rfl
section
variable {fo fa:dc} (hfo: ∀d f e,fo d f= .error e→0<e∧e≤1000) (hfa: ∀d f e,fa d f= .error e→0<e∧e≤1000)
include hfo hfa
theorem ij (t:Tm): ∀ {d e},aI fo fa d t= .error e→0<e∧e≤1000:=by
 induction t using h9 with
 |h kd n nm r ks sys ih1 ih2=>
  intro d e h
  rw [aI] at h
  rcases cD h with h|⟨_,_,h⟩
  ·grind
  have hkids: ∀ {l:List Tm} {i:Nat},(∀x∈l,∀ {d e},aI fo fa d x= .error e→0<e∧e≤1000)→a_ fo fa d kd i l= .error e→0<e∧e≤1000:=by
   intro l
   induction l with
   |nil=>grind [a_]
   |cons t l ih=>
    intro i hl h
    rw [a_] at h
    rcases cD h with h|⟨_,_,h⟩
    ·exact hl t (by simp) h
    grind [cD]
  have hmore: ∀ {l:List Tm},(∀x∈l,∀ {d e},aI fo fa d x= .error e→0<e∧e≤1000)→ ∀ {e},bg fo fa d kd l= .error e→0<e∧e≤1000:=by
   intro l
   induction l with
   |nil=>grind [bg]
   |cons t l ih=>
    intro hl e h
    rw [bg] at h
    rcases cD h with h|⟨_,_,h⟩
    ·grind
    ·rcases cD h with h|⟨_,_,h⟩
     ·exact ih (fun x hx=>hl x (by simp [hx])) h
     simp_all
  have hsys: ∀ {l:List (Br Tm)},(∀b∈l,∀x∈b.kids,∀ {d e},aI fo fa d x= .error e→0<e∧e≤1000)→aK fo fa d kd l= .error e→0<e∧e≤1000:=by
   intro l
   induction l<;>grind [aK,cD,yB]
  grind [cD]
theorem Q_ {kd d:Int}: ∀ {l:List Tm} {i:Nat} {e:Int},a_ fo fa d kd i l= .error e→0<e∧e≤1000:=by
 intro l
 induction l with
 |nil=>grind [a_]
 |cons t l ih=>
  intro i e h
  rw [a_] at h
  rcases cD h with h|⟨_,_,h⟩
  ·exact ij hfo hfa t h
  grind [cD]
theorem Ra {kd d:Int}: ∀ {l:List Tm} {e:Int},bg fo fa d kd l= .error e→0<e∧e≤1000:=by
 intro l
 induction l<;>grind [bg,cD,ij]
end
theorem tj {α β:Type} (x:Except Int Tm) (hx: ∀e,x= .error e→0<e∧e≤1000) (f:Tm→α) (g:Int→α):(fun r:Tm×Int=>ab (!(r.2==0)) (g r.2) (f r.1)) (tE x)=eE x f g:=by
 cases x with
 |ok t=>rfl
 |error e=>
  have:=(hx e rfl).1
  show ab (!(e==0)) (g e) (f aR)=g e
  grind [decide_eq_false,aj]
theorem xd {α β γ:Type} (x:Except Int α) (hx: ∀e,x= .error e→0<e∧e≤1000) (z:α) (f:α→β) (g:Int→β):eE x (fun l=>(fun r:α×Int=>ab (!(r.2==0)) (g r.2) (f r.1)) (l,0)) (fun e=>(fun r:α×Int=>ab (!(r.2==0)) (g r.2) (f r.1)) (z,e))=eE x f g:=by
 cases x with
 |ok t=>rfl
 |error e=>
  have:=(hx e rfl).1
  show ab (!(e==0)) (g e) (f z)=g e
  grind [decide_eq_false,aj]
theorem km {G:Int→List Cl→List Cl}: ∀d f e,aw G d f= .error e→0<e∧e≤1000:=fun d f e h=>by cases h
theorem h8 {i:Int} {r:List Cl} {fa:Bool}: ∀d f e,aJ i r fa d f= .error e→0<e∧e≤1000:=fun d f e h=>yh h
section
variable {hd:Tm→Int→Int→List Cl→(Tm×Int→Option S)→Option S} {i d:Int} {t:Tm} {r:List Cl}
theorem ae5 (hk:Fu k) (hi:0≤i∧i<24) (hr:RF r) (hd0:0≤d∧d<4611686018427386000) (hro:RowsT t) (ret:List Cl×Int→Option S): ∃z:List Cl×Int,cJ z=(if t.kind=14 then (aJ i r true) d t.r else (aJ i r false) d t.r)∧uZ k t d i r ret=ret z:=by
 have hr0:=hro.no.1
 simp only [uZ,Pq,al hk,OW hk hr0 hr hi (show 0≤d∧d<4611686018427387000 by omega),ag_ hk hr0 hr hi (show 0≤d∧d<4611686018427387000 by omega)]
 by_cases h:t.kind=14
 ·rw [h,if_pos rfl,show ((14:Int)==14)=true from rfl,aj]
  grind [my]
 ·rw [if_neg h,show (t.kind==14)=false from by grind,ai]
  grind [my]
theorem ae2 (hk:Fu k) (ret:List Tm×Int→Option S) (hd0:0≤d∧d<4611686018427386000) (hQ: ∀y∈t.kids,∀b,0≤b∧b≤1→ ∀g,hd y (d+b) i r g=g (tE (aI (aJ i r false) (aJ i r true) (d+b) y))) (hl:t.kids.length<1073741824):
  ∀ (r' p:List Tm) (m:Nat) (acc:List Tm),t.kids=p++r'→r'.length<m→acc.length=p.length→
  jZ hd k ret i r t t.kids d m acc (p.length:Int)=eE (a_ (aJ i r false) (aJ i r true) d t.kind p.length r') (fun l=>ret (acc++l,0)) fun e=>ret ([],e):=by
 intro r'
 induction r' with
 |nil=>
  grind [ak,jZ,tG,ai,a_,aV]
 |cons y r' ih=>
  intro p m acc h hm ha
  obtain ⟨m,rfl,hm'⟩:=ak hm
  obtain ⟨e1,e2,e3,e4⟩:=az h (by omega)
  have hpl:p.length<t.kids.length:=by grind
  have b2':=iy t.kind p.length
  have hy:=hQ y (by grind) (bL t.kind p.length) b2'
  simp only [jZ,tG,e1,aj,e2,Option.bind_some,al hk,qk,Ek,oP,aU,be (n:=d+bL t.kind p.length) (by omega) (by omega),hy]
  refine Eq.trans (tj (β:=Unit) _ (fun e he=>ij h8 h8 y he) (fun z=>Option.bind (ap 1099511627776 acc.length [z].length) fun _=>jZ hd k ret i r t t.kids d m (acc++[z]) (IntKind.wrap .i64 ((p.length:Int)+1))) fun e=>ret ([],e)) ?_
  simp only [a_,a7,aV]
  refine cO (fun t' ht'=> ?_) fun e _=>rfl
  rw [aM (by grind),e3,ih (p++[y]) m (acc++[t']) e4 hm' (by grind),show (p++[y]).length=p.length+1 by simp]
  simp
theorem ae3 (hk:Fu k) (ret:List Tm×Int→Option S) {x:Br Tm} {kd:Int} (hd0:0≤d∧d<4611686018427386000) (hQ: ∀y∈x.kids,∀g,hd y (d+au kd) i r g=g (tE (aI (aJ i r false) (aJ i r true) (d+au kd) y))) (hl:x.kids.length<1073741824):
  ∀ (r' p:List Tm) (m:Nat) (acc:List Tm),x.kids=p++r'→r'.length<m→acc.length=p.length→
  jY hd k ret i r (au kd) x.kids d m acc (p.length:Int)=eE (bg (aJ i r false) (aJ i r true) d kd r') (fun l=>ret (acc++l,0)) fun e=>ret ([],e):=by
 have hmo:=d9 kd
 intro r'
 induction r' with
 |nil=>
  grind [ak,jY,tF,ai,bg,aV]
 |cons y r' ih=>
  intro p m acc h hm ha
  obtain ⟨m,rfl,hm'⟩:=ak hm
  obtain ⟨e1,e2,e3,e4⟩:=az h (by omega)
  have hpl:p.length<x.kids.length:=by grind
  have hy:=hQ y (by grind)
  simp only [jY,tF,e1,aj,e2,Option.bind_some,al hk,ql,Em,aU,be (n:=d+au kd) (by omega) (by omega),hy]
  refine Eq.trans (tj (β:=Unit) _ (fun e he=>ij h8 h8 y he) (fun z=>Option.bind (ap 1099511627776 acc.length [z].length) fun _=>jY hd k ret i r (au kd) x.kids d m (acc++[z]) (IntKind.wrap .i64 ((p.length:Int)+1))) fun e=>ret ([],e)) ?_
  simp only [bg,a7,aV]
  refine cO (fun t' ht'=> ?_) fun e _=>rfl
  rw [aM (by grind),e3,ih (p++[y]) m (acc++[t']) e4 hm' (by grind)]
  simp
theorem ae4 (hk:Fu k) (ret:Tm×Int→Option S) (hi:0≤i∧i<24) (hr:RF r) (hd0:0≤d∧d<4611686018427386000) {r1:List Cl×Int} {r2:List Tm×Int} (ht:OkT t) (hro:RowsT t) (hQ: ∀b∈t.sys,∀y∈b.kids,∀g,hd y (d+au t.kind) i r g=g (tE (aI (aJ i r false) (aJ i r true) (d+au t.kind) y))):
  ∀ (r' p:List (Br Tm)) (m:Nat) (o:List (Br Tm)),t.sys=p++r'→r'.length<m→o.length≤p.length→
  eV hd k ret i r t r1 r2 d m (au t.kind) o (p.length:Int)=eE (aK (aJ i r false) (aJ i r true) d t.kind r') (fun s=>ret (.mk t.kind t.n t.name r1.1 r2.1 (o++s),0)) fun e=>ret (aR,e):=by
 obtain ⟨o1,o2,o3,o4,o5,o6,o7⟩:=ht.no
 intro r'
 induction r' with
 |nil=>
  grind [ak,eV,tH,ai,aK,aV]
 |cons x r' ih=>
  intro p m o h hml ho
  obtain ⟨m,rfl,hm'⟩:=ak hml
  obtain ⟨e1,e2,e3,e4⟩:=az h (by omega)
  have hx:x∈t.sys:=by grind
  have hpl:p.length<t.sys.length:=by grind
  have hb:=(ht.bi hx).1
  have hr0:=(hro.bi hx).1
  have hM:=fun g:List Tm×Int→Option S=>ae3 (kd:=t.kind) hk g hd0 (hQ x hx) hb.2.2 x.kids [] k [] rfl (by omega) rfl
  have hM: ∀g:List Tm×Int→Option S,jY hd k g i r (au t.kind) x.kids d k [] 0=_:=hM
  simp only [eV,tH,e1,aj,e2,Option.bind_some,al hk,OW hk hr0 hr hi (show 0≤d∧d<4611686018427387000 by omega),Ax,Ei,hM,e3,List.nil_append]
  have hin:=fun f':List Cl=>xd (β:=Option S) (γ:=Unit) (bg (aJ i r false) (aJ i r true) d t.kind x.kids) (fun e he=>Ra h8 h8 he) [] (fun l=>Option.bind (ap 1099511627776 o.length [Br.mk f' l].length) fun _=>eV hd k ret i r t r1 r2 d m (au t.kind) (o++[Br.mk f' l]) (((p++[x]).length:Nat):Int)) fun e=>ret (aR,e)
  refine Eq.trans (tn (z:=(dw i r true d x.face)) (fun f'=>ab (((f'.length:Nat):Int)==0) (eV hd k ret i r t r1 r2 d m (au t.kind) o (((p++[x]).length:Nat):Int)) (eE (bg (aJ i r false) (aJ i r true) d t.kind x.kids) (fun l=>(fun r5:List Tm×Int=>ab (!(r5.2==0)) (ret (aR,r5.2)) (Option.bind (ap 1099511627776 o.length [Br.mk f' r5.1].length) fun _=>eV hd k ret i r t r1 r2 d m (au t.kind) (o++[Br.mk f' r5.1]) (((p++[x]).length:Nat):Int))) (l,0)) fun e=>(fun r5:List Tm×Int=>ab (!(r5.2==0)) (ret (aR,r5.2)) (Option.bind (ap 1099511627776 o.length [Br.mk f' r5.1].length) fun _=>eV hd k ret i r t r1 r2 d m (au t.kind) (o++[Br.mk f' r5.1]) (((p++[x]).length:Nat):Int))) ([],e))) fun e=>ret (aR,e)) ?_
  rw [show cJ (dw i r true d x.face)=(aJ i r true) d x.face from my _ _ _ _ _]
  rw [aK,yB,a7,a7]
  refine cO (fun f' hf'=> ?_) fun e _=>rfl
  rw [ot,aH]
  by_cases h0:f'.length=0
  ·rw [if_pos h0,if_pos h0,aV,a7,ih (p++[x]) m o e4 hm' (by grind)]
   rfl
  ·rw [if_neg h0,if_neg h0,hin f',a7]
   refine cO (fun l hl=> ?_) fun e _=>rfl
   rw [aV,a7,aM (by grind),ih (p++[x]) m (o++[Br.mk f' l]) e4 hm' (by grind)]
   grind [aV]
end
theorem ae6 {i:Int} {r:List Cl} (hi:0≤i∧i<24) (hr:RF r) (t:Tm):OkT t→RowsT t→ ∀ {k:Nat} {d:Int} (ret:Tm×Int→Option S),Fd k (av t)→0≤d→d+av t<4611686018427386000→dz k t d i r ret=ret (tE (aI (aJ i r false) (aJ i r true) d t)):=by
 induction t using dW with
 |h t ih1 ih2=>
  intro ht hro k d ret hk hv hv'
  obtain ⟨q,rfl,hq,hf⟩:=hk.pos' (cM t)
  have hp:=cM t
  have hd0:0≤d∧d<4611686018427386000:=by omega
  obtain ⟨o1,o2,o3,o4,o5,o6,o7⟩:=ht.no
  have hmo:=d9 t.kind
  have hQ: ∀y∈t.kids,∀b,0≤b∧b≤1→ ∀g:Tm×Int→Option S,dz q y (d+b) i r g=g (tE (aI (aJ i r false) (aJ i r true) (d+b) y)):=fun y hy b h2 g=>
   ih1 y hy (ht.ki hy) (hro.ki hy) g (hf _ (cr hy)) (by omega) (by have:=cr hy;omega)
  have hQ': ∀b∈t.sys,∀y∈b.kids,∀g:Tm×Int→Option S,dz q y (d+au t.kind) i r g=g (tE (aI (aJ i r false) (aJ i r true) (d+au t.kind) y)):=fun b hb y hy g=>
   ih2 b hb y hy ((ht.bi hb).2 y hy) ((hro.bi hb).2 y hy) g (hf _ (cL hb hy)) (by omega) (by have:=cL hb hy;omega)
  have hK: ∀g:List Tm×Int→Option S,jZ (dz q) q g i r t t.kids d q [] 0=_:=fun g=>ae2 hq g hd0 hQ o6 t.kids [] q [] rfl (by omega) rfl
  have hS:=fun (r1:List Cl×Int) (r2:List Tm×Int)=>ae4 (r1:=r1) (r2:=r2) hq ret hi hr hd0 ht hro hQ' t.sys [] q [] rfl (by omega) (Nat.le_refl _)
  have hS: ∀ (r1:List Cl×Int) (r2:List Tm×Int),eV (dz q) q ret i r t r1 r2 d q (au t.kind) [] 0=_:=hS
  have hcase: ∀ (r1:List Cl×Int) (r2:List Tm×Int),ab (t.kind==15) (eV (dz q) q ret i r t r1 r2 d q 1 [] 0) (eV (dz q) q ret i r t r1 r2 d q 0 [] 0)=eE (aK (aJ i r false) (aJ i r true) d t.kind t.sys) (fun s=>ret (.mk t.kind t.n t.name r1.1 r2.1 s,0)) fun e=>ret (aR,e):=by
   grind [b7,au]
  obtain ⟨z,hz,hrow⟩:=ae5 hq hi hr hd0 hro (fun r1=>ab (!(r1.2==0)) (ret (aR,r1.2)) (eE (a_ (aJ i r false) (aJ i r true) d t.kind 0 t.kids) (fun l=>(fun r2:List Tm×Int=>ab (!(r2.2==0)) (ret (aR,r2.2)) (eE (aK (aJ i r false) (aJ i r true) d t.kind t.sys) (fun s=>ret (.mk t.kind t.n t.name r1.1 r2.1 s,0)) fun e=>ret (aR,e))) (l,0)) fun e=>(fun r2:List Tm×Int=>ab (!(r2.2==0)) (ret (aR,r2.2)) (eE (aK (aJ i r false) (aJ i r true) d t.kind t.sys) (fun s=>ret (.mk t.kind t.n t.name r1.1 r2.1 s,0)) fun e=>ret (aR,e))) ([],e)))
  simp only [dz,Eo,al hq,aU,Ay,Ej,hK,hcase,List.nil_append,List.length_nil]
  refine Eq.trans hrow ?_
  rw [s8 _ ret,yC,←hz]
  refine Eq.trans (tn (z:=z) (fun r'=>eE (a_ (aJ i r false) (aJ i r true) d t.kind 0 t.kids) (fun l=>(fun r2:List Tm×Int=>ab (!(r2.2==0)) (ret (aR,r2.2)) (eE (aK (aJ i r false) (aJ i r true) d t.kind t.sys) (fun s=>ret (.mk t.kind t.n t.name r' r2.1 s,0)) fun e=>ret (aR,e))) (l,0)) fun e=>(fun r2:List Tm×Int=>ab (!(r2.2==0)) (ret (aR,r2.2)) (eE (aK (aJ i r false) (aJ i r true) d t.kind t.sys) (fun s=>ret (.mk t.kind t.n t.name r' r2.1 s,0)) fun e=>ret (aR,e))) ([],e)) fun e=>ret (aR,e)) ?_
  rw [a7]
  refine cO (fun r' _=> ?_) fun e _=>rfl
  refine Eq.trans (xd (β:=Option S) (γ:=Unit) (a_ (aJ i r false) (aJ i r true) d t.kind 0 t.kids) (fun e he=>Q_ h8 h8 he) [] (fun l=>eE (aK (aJ i r false) (aJ i r true) d t.kind t.sys) (fun s=>ret (.mk t.kind t.n t.name r' l s,0)) fun e=>ret (aR,e)) fun e=>ret (aR,e)) ?_
  simp only [a7,aV]
section
variable {hd:Tm→Int→Int→(Tm×Int→Option S)→Option S} {i d:Int} {t:Tm}
theorem XI (hk:Fu k) (hi:0≤i∧i<24) (hd0:0≤d∧d<4611686018427386000) (hro:RowsT t) (ret:List Cl×Int→Option S): ∃z:List Cl×Int,cJ z=(if t.kind=14 then (aw fun d f=>aO (i+d) f) d t.r else (aw fun d f=>aO (i+d) f) d t.r)∧u3 k t d i ret=ret z:=by
 have hr0:=hro.no.1
 simp only [u3,Pr,al hk,OC hk hi (show 0≤d∧d<4611686018427387000 by omega) hr0]
 by_cases h:t.kind=14
 ·rw [h,if_pos rfl,show ((14:Int)==14)=true from rfl,aj]
  exact ⟨_,rfl,rfl⟩
 ·rw [if_neg h,show (t.kind==14)=false from by grind,ai]
  exact ⟨_,rfl,rfl⟩
theorem XF (hk:Fu k) (ret:List Tm×Int→Option S) (hd0:0≤d∧d<4611686018427386000) (hQ: ∀y∈t.kids,∀b,0≤b∧b≤1→ ∀g,hd y (d+b) i g=g (tE (aI (aw fun d f=>aO (i+d) f) (aw fun d f=>aO (i+d) f) (d+b) y))) (hl:t.kids.length<1073741824):
  ∀ (r' p:List Tm) (m:Nat) (acc:List Tm),t.kids=p++r'→r'.length<m→acc.length=p.length→
  jX hd k ret i t t.kids d m acc (p.length:Int)=eE (a_ (aw fun d f=>aO (i+d) f) (aw fun d f=>aO (i+d) f) d t.kind p.length r') (fun l=>ret (acc++l,0)) fun e=>ret ([],e):=by
 intro r'
 induction r' with
 |nil=>
  grind [ak,jX,tD,ai,a_,aV]
 |cons y r' ih=>
  intro p m acc h hm ha
  obtain ⟨m,rfl,hm'⟩:=ak hm
  obtain ⟨e1,e2,e3,e4⟩:=az h (by omega)
  have hpl:p.length<t.kids.length:=by grind
  have b2':=iy t.kind p.length
  have hy:=hQ y (by grind) (bL t.kind p.length) b2'
  simp only [jX,tD,e1,aj,e2,Option.bind_some,al hk,qk,Ek,oP,aU,be (n:=d+bL t.kind p.length) (by omega) (by omega),hy]
  refine Eq.trans (tj (β:=Unit) _ (fun e he=>ij km km y he) (fun z=>Option.bind (ap 1099511627776 acc.length [z].length) fun _=>jX hd k ret i t t.kids d m (acc++[z]) (IntKind.wrap .i64 ((p.length:Int)+1))) fun e=>ret ([],e)) ?_
  simp only [a_,a7,aV]
  refine cO (fun t' ht'=> ?_) fun e _=>rfl
  rw [aM (by grind),e3,ih (p++[y]) m (acc++[t']) e4 hm' (by grind),show (p++[y]).length=p.length+1 by simp]
  simp
theorem XG (hk:Fu k) (ret:List Tm×Int→Option S) {x:Br Tm} {kd:Int} (hd0:0≤d∧d<4611686018427386000) (hQ: ∀y∈x.kids,∀g,hd y (d+au kd) i g=g (tE (aI (aw fun d f=>aO (i+d) f) (aw fun d f=>aO (i+d) f) (d+au kd) y))) (hl:x.kids.length<1073741824):
  ∀ (r' p:List Tm) (m:Nat) (acc:List Tm),x.kids=p++r'→r'.length<m→acc.length=p.length→
  jW hd k ret i (au kd) x.kids d m acc (p.length:Int)=eE (bg (aw fun d f=>aO (i+d) f) (aw fun d f=>aO (i+d) f) d kd r') (fun l=>ret (acc++l,0)) fun e=>ret ([],e):=by
 have hmo:=d9 kd
 intro r'
 induction r' with
 |nil=>
  grind [ak,jW,tC,ai,bg,aV]
 |cons y r' ih=>
  intro p m acc h hm ha
  obtain ⟨m,rfl,hm'⟩:=ak hm
  obtain ⟨e1,e2,e3,e4⟩:=az h (by omega)
  have hpl:p.length<x.kids.length:=by grind
  have hy:=hQ y (by grind)
  simp only [jW,tC,e1,aj,e2,Option.bind_some,al hk,ql,Em,aU,be (n:=d+au kd) (by omega) (by omega),hy]
  refine Eq.trans (tj (β:=Unit) _ (fun e he=>ij km km y he) (fun z=>Option.bind (ap 1099511627776 acc.length [z].length) fun _=>jW hd k ret i (au kd) x.kids d m (acc++[z]) (IntKind.wrap .i64 ((p.length:Int)+1))) fun e=>ret ([],e)) ?_
  simp only [bg,a7,aV]
  refine cO (fun t' ht'=> ?_) fun e _=>rfl
  rw [aM (by grind),e3,ih (p++[y]) m (acc++[t']) e4 hm' (by grind)]
  simp
theorem XH (hk:Fu k) (ret:Tm×Int→Option S) (hi:0≤i∧i<24) (hd0:0≤d∧d<4611686018427386000) {r1:List Cl×Int} {r2:List Tm×Int} (ht:OkT t) (hro:RowsT t) (hQ: ∀b∈t.sys,∀y∈b.kids,∀g,hd y (d+au t.kind) i g=g (tE (aI (aw fun d f=>aO (i+d) f) (aw fun d f=>aO (i+d) f) (d+au t.kind) y))):
  ∀ (r' p:List (Br Tm)) (m:Nat) (o:List (Br Tm)),t.sys=p++r'→r'.length<m→o.length≤p.length→
  eW hd k ret i t r1 r2 d m (au t.kind) o (p.length:Int)=eE (aK (aw fun d f=>aO (i+d) f) (aw fun d f=>aO (i+d) f) d t.kind r') (fun s=>ret (.mk t.kind t.n t.name r1.1 r2.1 (o++s),0)) fun e=>ret (aR,e):=by
 obtain ⟨o1,o2,o3,o4,o5,o6,o7⟩:=ht.no
 intro r'
 induction r' with
 |nil=>
  grind [ak,eW,tI,ai,aK,aV]
 |cons x r' ih=>
  intro p m o h hml ho
  obtain ⟨m,rfl,hm'⟩:=ak hml
  obtain ⟨e1,e2,e3,e4⟩:=az h (by omega)
  have hx:x∈t.sys:=by grind
  have hpl:p.length<t.sys.length:=by grind
  have hb:=(ht.bi hx).1
  have hr0:=(hro.bi hx).1
  have hM:=fun g:List Tm×Int→Option S=>XG (kd:=t.kind) hk g hd0 (hQ x hx) hb.2.2 x.kids [] k [] rfl (by omega) rfl
  have hM: ∀g:List Tm×Int→Option S,jW hd k g i (au t.kind) x.kids d k [] 0=_:=hM
  simp only [eW,tI,e1,aj,e2,Option.bind_some,al hk,OC hk hi (show 0≤d∧d<4611686018427387000 by omega) hr0,Av,Eg,hM,e3,List.nil_append]
  have hin:=fun f':List Cl=>xd (β:=Option S) (γ:=Unit) (bg (aw fun d f=>aO (i+d) f) (aw fun d f=>aO (i+d) f) d t.kind x.kids) (fun e he=>Ra km km he) [] (fun l=>Option.bind (ap 1099511627776 o.length [Br.mk f' l].length) fun _=>eW hd k ret i t r1 r2 d m (au t.kind) (o++[Br.mk f' l]) (((p++[x]).length:Nat):Int)) fun e=>ret (aR,e)
  refine Eq.trans (tn (z:=(aO (i+d) x.face,(0:Int))) (fun f'=>ab (((f'.length:Nat):Int)==0) (eW hd k ret i t r1 r2 d m (au t.kind) o (((p++[x]).length:Nat):Int)) (eE (bg (aw fun d f=>aO (i+d) f) (aw fun d f=>aO (i+d) f) d t.kind x.kids) (fun l=>(fun r5:List Tm×Int=>ab (!(r5.2==0)) (ret (aR,r5.2)) (Option.bind (ap 1099511627776 o.length [Br.mk f' r5.1].length) fun _=>eW hd k ret i t r1 r2 d m (au t.kind) (o++[Br.mk f' r5.1]) (((p++[x]).length:Nat):Int))) (l,0)) fun e=>(fun r5:List Tm×Int=>ab (!(r5.2==0)) (ret (aR,r5.2)) (Option.bind (ap 1099511627776 o.length [Br.mk f' r5.1].length) fun _=>eW hd k ret i t r1 r2 d m (au t.kind) (o++[Br.mk f' r5.1]) (((p++[x]).length:Nat):Int))) ([],e))) fun e=>ret (aR,e)) ?_
  rw [show cJ (aO (i+d) x.face,(0:Int))=(aw fun d f=>aO (i+d) f) d x.face from rfl]
  rw [aK,yB,a7,a7]
  refine cO (fun f' hf'=> ?_) fun e _=>rfl
  rw [ot,aH]
  by_cases h0:f'.length=0
  ·rw [if_pos h0,if_pos h0,aV,a7,ih (p++[x]) m o e4 hm' (by grind)]
   rfl
  ·rw [if_neg h0,if_neg h0,hin f',a7]
   refine cO (fun l hl=> ?_) fun e _=>rfl
   rw [aV,a7,aM (by grind),ih (p++[x]) m (o++[Br.mk f' l]) e4 hm' (by grind)]
   grind [aV]
end
theorem XJ {i:Int} (hi:0≤i∧i<24) (t:Tm):OkT t→RowsT t→ ∀ {k:Nat} {d:Int} (ret:Tm×Int→Option S),Fd k (av t)→0≤d→d+av t<4611686018427386000→dn k t d i ret=ret (tE (aI (aw fun d f=>aO (i+d) f) (aw fun d f=>aO (i+d) f) d t)):=by
 induction t using dW with
 |h t ih1 ih2=>
  intro ht hro k d ret hk hv hv'
  obtain ⟨q,rfl,hq,hf⟩:=hk.pos' (cM t)
  have hp:=cM t
  have hd0:0≤d∧d<4611686018427386000:=by omega
  obtain ⟨o1,o2,o3,o4,o5,o6,o7⟩:=ht.no
  have hmo:=d9 t.kind
  have hQ: ∀y∈t.kids,∀b,0≤b∧b≤1→ ∀g:Tm×Int→Option S,dn q y (d+b) i g=g (tE (aI (aw fun d f=>aO (i+d) f) (aw fun d f=>aO (i+d) f) (d+b) y)):=fun y hy b h2 g=>
   ih1 y hy (ht.ki hy) (hro.ki hy) g (hf _ (cr hy)) (by omega) (by have:=cr hy;omega)
  have hQ': ∀b∈t.sys,∀y∈b.kids,∀g:Tm×Int→Option S,dn q y (d+au t.kind) i g=g (tE (aI (aw fun d f=>aO (i+d) f) (aw fun d f=>aO (i+d) f) (d+au t.kind) y)):=fun b hb y hy g=>
   ih2 b hb y hy ((ht.bi hb).2 y hy) ((hro.bi hb).2 y hy) g (hf _ (cL hb hy)) (by omega) (by have:=cL hb hy;omega)
  have hK: ∀g:List Tm×Int→Option S,jX (dn q) q g i t t.kids d q [] 0=_:=fun g=>XF hq g hd0 hQ o6 t.kids [] q [] rfl (by omega) rfl
  have hS:=fun (r1:List Cl×Int) (r2:List Tm×Int)=>XH (r1:=r1) (r2:=r2) hq ret hi hd0 ht hro hQ' t.sys [] q [] rfl (by omega) (Nat.le_refl _)
  have hS: ∀ (r1:List Cl×Int) (r2:List Tm×Int),eW (dn q) q ret i t r1 r2 d q (au t.kind) [] 0=_:=hS
  have hcase: ∀ (r1:List Cl×Int) (r2:List Tm×Int),ab (t.kind==15) (eW (dn q) q ret i t r1 r2 d q 1 [] 0) (eW (dn q) q ret i t r1 r2 d q 0 [] 0)=eE (aK (aw fun d f=>aO (i+d) f) (aw fun d f=>aO (i+d) f) d t.kind t.sys) (fun s=>ret (.mk t.kind t.n t.name r1.1 r2.1 s,0)) fun e=>ret (aR,e):=by
   grind [b7,au]
  obtain ⟨z,hz,hrow⟩:=XI hq hi hd0 hro (fun r1=>ab (!(r1.2==0)) (ret (aR,r1.2)) (eE (a_ (aw fun d f=>aO (i+d) f) (aw fun d f=>aO (i+d) f) d t.kind 0 t.kids) (fun l=>(fun r2:List Tm×Int=>ab (!(r2.2==0)) (ret (aR,r2.2)) (eE (aK (aw fun d f=>aO (i+d) f) (aw fun d f=>aO (i+d) f) d t.kind t.sys) (fun s=>ret (.mk t.kind t.n t.name r1.1 r2.1 s,0)) fun e=>ret (aR,e))) (l,0)) fun e=>(fun r2:List Tm×Int=>ab (!(r2.2==0)) (ret (aR,r2.2)) (eE (aK (aw fun d f=>aO (i+d) f) (aw fun d f=>aO (i+d) f) d t.kind t.sys) (fun s=>ret (.mk t.kind t.n t.name r1.1 r2.1 s,0)) fun e=>ret (aR,e))) ([],e)))
  simp only [dn,Ep,al hq,aU,Aw,Eh,hK,hcase,List.nil_append,List.length_nil]
  refine Eq.trans hrow ?_
  rw [s8 _ ret,yC,←hz]
  refine Eq.trans (tn (z:=z) (fun r'=>eE (a_ (aw fun d f=>aO (i+d) f) (aw fun d f=>aO (i+d) f) d t.kind 0 t.kids) (fun l=>(fun r2:List Tm×Int=>ab (!(r2.2==0)) (ret (aR,r2.2)) (eE (aK (aw fun d f=>aO (i+d) f) (aw fun d f=>aO (i+d) f) d t.kind t.sys) (fun s=>ret (.mk t.kind t.n t.name r' r2.1 s,0)) fun e=>ret (aR,e))) (l,0)) fun e=>(fun r2:List Tm×Int=>ab (!(r2.2==0)) (ret (aR,r2.2)) (eE (aK (aw fun d f=>aO (i+d) f) (aw fun d f=>aO (i+d) f) d t.kind t.sys) (fun s=>ret (.mk t.kind t.n t.name r' r2.1 s,0)) fun e=>ret (aR,e))) ([],e)) fun e=>ret (aR,e)) ?_
  rw [a7]
  refine cO (fun r' _=> ?_) fun e _=>rfl
  refine Eq.trans (xd (β:=Option S) (γ:=Unit) (a_ (aw fun d f=>aO (i+d) f) (aw fun d f=>aO (i+d) f) d t.kind 0 t.kids) (fun e he=>Q_ km km he) [] (fun l=>eE (aK (aw fun d f=>aO (i+d) f) (aw fun d f=>aO (i+d) f) d t.kind t.sys) (fun s=>ret (.mk t.kind t.n t.name r' l s,0)) fun e=>ret (aR,e)) fun e=>ret (aR,e)) ?_
  simp only [a7,aV]
end Go.Proofs.YtgajalidbabccaaGreatDoor
namespace Go.Proofs.YtgajalidbabccaaGreatDoor
open Go PI
set_option linter.unusedVariables false
set_option linter.unusedSimpArgs false
set_option maxRecDepth 20000
variable {S:Type} {k:Nat}
def uP (i:Int):Int→List Cl→List Cl:=fun d f=>aO (i+d) f
def bN (i:Int) (r:List Cl) (fa:Bool):dc:=cA (aJ i r fa) (uP i)
theorem rf (i:Int) (r:List Cl) (fa:Bool) (d:Int) (f:List Cl):bN i r fa d f=bE (aJ i r fa d f) fun m=> .ok (aO (i+d) m):=rfl
theorem nu {i:Int} {r:List Cl} {fa:Bool}: ∀d f e,bN i r fa d f= .error e→0<e∧e≤1000:=fun d f e h=>by
 rw [rf] at h
 rcases cD h with h|⟨_,_,h⟩
 ·exact yh h
 simp_all
section
variable {hd:Tm→Int→List Cl→Int→Bool→(Tm→Option S)→Option S} {i d:Int} {r:List Cl} {t:Tm}
theorem adg (hk:Fu k) (ret:Tm→Option S) (rec1:List (Br Tm)→Int→Option S) {v18:Int} {r3:List Cl} {ks:List Tm} {o:List (Br Tm)} {x:Br Tm} (hi:ah t.sys v18=some x)
  (hd0:0≤d∧d<4611686018427386000) (hQ: ∀y∈x.kids,∀g,hd y i r (d+au t.kind) true g=g (rE (aI (bN i r false) (bN i r true) (d+au t.kind) y))) (hkd: ∀y∈x.kids,0≤y.kind) (hl:x.kids.length<1073741824) (ho:o.length<1073741824) {f'':List Cl}:
  ∀ (r' p:List Tm) (m:Nat) (acc:List Tm),x.kids=p++r'→r'.length<m→acc.length=p.length→
  jf hd k ret rec1 t r3 ks o i v18 r d true m f'' acc (p.length:Int)=eE (bg (bN i r false) (bN i r true) d t.kind r') (fun l=>rec1 (o++[Br.mk f'' (acc++l)]) (IntKind.wrap .i64 (v18+1))) fun e=>ret (ce e):=by
 have hmo:=d9 t.kind
 intro r'
 induction r' with
 |nil=>
  grind [ak,jf,uB,ai,bg,aV,aM]
 |cons y r' ih=>
  intro p m acc h hm ha
  obtain ⟨m,rfl,hm'⟩:=ak hm
  obtain ⟨e1,e2,e3,e4⟩:=az h (by omega)
  have hpl:p.length<x.kids.length:=by grind
  have hym:y∈x.kids:=by grind
  have hy:=hQ y hym
  simp only [jf,uB,hi,e1,aj,e2,Option.bind_some,al hk,D6,aU,be (n:=d+au t.kind) (by omega) (by omega),hy]
  refine Eq.trans (xG (fun e he=>(ij nu nu y he).1) (fun z hz=>by grind [FE]) (fun z=>Option.bind (ap 1099511627776 acc.length [z].length) fun _=>jf hd k ret rec1 t r3 ks o i v18 r d true m f'' (acc++[z]) (IntKind.wrap .i64 ((p.length:Int)+1))) ret) ?_
  simp only [bg,a7,aV]
  refine cO (fun t' ht'=> ?_) fun e _=>rfl
  rw [aM (by grind),e3,ih (p++[y]) m (acc++[t']) e4 hm' (by grind)]
  simp
theorem adf (hk:Fu k) (ret:Tm→Option S) (hi:0≤i∧i<24) (hr:RF r) {r3:List Cl} {ks:List Tm} (ht:OkT t) (hro:RowsT t) (hd0:0≤d∧d<4611686018427386000)
  (hQ: ∀b∈t.sys,∀y∈b.kids,∀g,hd y i r (d+au t.kind) true g=g (rE (aI (bN i r false) (bN i r true) (d+au t.kind) y))):
  ∀ (r' p:List (Br Tm)) (m:Nat) (o:List (Br Tm)),t.sys=p++r'→r'.length<m→o.length≤p.length→
  gh hd k ret t r3 ks i r d true m o (p.length:Int)=eE (aK (bN i r false) (bN i r true) d t.kind r') (fun l=>ret (.mk t.kind t.n t.name r3 ks (o++l))) fun e=>ret (ce e):=by
 obtain ⟨o1,o2,o3,o4,o5,o6,o7⟩:=ht.no
 intro r'
 induction r' with
 |nil=>
  grind [ak,gh,pX,ai,aK,aV]
 |cons x r' ih=>
  intro p m o h hml ho
  obtain ⟨m,rfl,hm'⟩:=ak hml
  obtain ⟨e1,e2,e3,e4⟩:=az h (by omega)
  have hx:x∈t.sys:=by grind
  have hpl:p.length<t.sys.length:=by grind
  have hb:=(ht.bi hx).1
  have hr0:=(hro.bi hx).1
  have hM:=fun f'':List Cl=>adg (f'':=f'') (r3:=r3) (ks:=ks) (o:=o) hk ret (gh hd k ret t r3 ks i r d true m) e2 hd0 (hQ x hx) (fun y hy=>((hro.bi hx).2 y hy).no.2.2) hb.2.2 (by omega) x.kids [] k [] rfl (by omega) rfl
  have hM: ∀f'':List Cl,jf hd k ret (gh hd k ret t r3 ks i r d true m) t r3 ks o i (p.length:Int) r d true k f'' [] 0=_:=hM
  simp only [gh,pX,e1,aj,e2,Option.bind_some,al hk,OK hk hr0 hr hi (show 0≤d∧d<4611686018427387000 by omega),be (n:=i+d) (by omega) (by omega),hM,e3,List.nil_append]
  rw [aK,yB,a7,a7,rf,a7,←my]
  have hz:=my i r true d x.face
  by_cases h0:(dw i r true d x.face).2=0
  ·have hrf:RF (dw i r true d x.face).1:=oM hr0 (hz.symm.trans (kE h0))
   rw [bR,decide_eq_true h0,Bool.not_true,ai,kE h0,aV,aV,ot,aH,OB hk hrf]
   have hlen:=Gt (j:=i+d) hrf
   by_cases hl:(dw i r true d x.face).1.length=0
   ·rw [if_pos hl,if_pos (hlen.2 hl),aV,a7,ih (p++[x]) m o e4 hm' (by grind)]
    rfl
   ·rw [if_neg hl,if_neg (fun h=>hl (hlen.1 h)),a7]
    refine cO (fun l _=> ?_) fun e _=>rfl
    rw [aV,a7,ih (p++[x]) m (o++[Br.mk (aO (i+d) (dw i r true d x.face).1) l]) e4 hm' (by grind)]
    grind [aV]
  ·have hze:cJ (dw i r true d x.face)= .error (dw i r true d x.face).2:=kG h0
   have hen:=yh (hz.symm.trans hze)
   rw [bR,decide_eq_false h0,Bool.not_false,aj,hze,mo hen];rfl
theorem ade (hk:Fu k) (ret:Tm→Option S) (hi:0≤i∧i<24) (hr:RF r) {r3:List Cl} (ht:OkT t) (hro:RowsT t) (hd0:0≤d∧d<4611686018427386000)
  (hQ: ∀y∈t.kids,∀b,0≤b∧b≤1→ ∀g,hd y i r (d+b) true g=g (rE (aI (bN i r false) (bN i r true) (d+b) y))) (hQ': ∀b∈t.sys,∀y∈b.kids,∀g,hd y i r (d+au t.kind) true g=g (rE (aI (bN i r false) (bN i r true) (d+au t.kind) y))):
  ∀ (r' p:List Tm) (m:Nat) (acc:List Tm),t.kids=p++r'→r'.length<m→acc.length=p.length→
  kf hd k ret t i r d true m r3 acc (p.length:Int)=eE (a_ (bN i r false) (bN i r true) d t.kind p.length r') (fun l=>eE (aK (bN i r false) (bN i r true) d t.kind t.sys) (fun s=>ret (.mk t.kind t.n t.name r3 (acc++l) s)) fun e=>ret (ce e)) fun e=>ret (ce e):=by
 obtain ⟨o1,o2,o3,o4,o5,o6,o7⟩:=ht.no
 intro r'
 induction r' with
 |nil=>
  intro p m acc h hm ha
  obtain ⟨m,rfl,hm'⟩:=ak hm
  have hs:gh hd k ret t r3 acc i r d true k [] 0=_:=adf hk ret hi hr ht hro hd0 hQ' t.sys [] k [] rfl (by omega) (Nat.le_refl _)
  grind [kf,pW,ai,a_,aV]
 |cons y r' ih=>
  intro p m acc h hm ha
  obtain ⟨m,rfl,hm'⟩:=ak hm
  obtain ⟨e1,e2,e3,e4⟩:=az h (by omega)
  have hpl:p.length<t.kids.length:=by grind
  have b2':=iy t.kind p.length
  have hym:y∈t.kids:=by grind
  have hy:=hQ y hym (bL t.kind p.length) b2'
  simp only [kf,pW,e1,aj,e2,Option.bind_some,al hk,D5 hk,aU,be (n:=d+bL t.kind p.length) (by omega) (by omega),hy]
  refine Eq.trans (xG (fun e he=>(ij nu nu y he).1) (fun z hz=>by rw [FE hz];exact (hro.ki hym).no.2.2) (fun z=>Option.bind (ap 1099511627776 acc.length [z].length) fun _=>kf hd k ret t i r d true m r3 (acc++[z]) (IntKind.wrap .i64 ((p.length:Int)+1))) ret) ?_
  simp only [a_,a7,aV]
  refine cO (fun t' ht'=> ?_) fun e _=>rfl
  rw [aM (by grind),e3,ih (p++[y]) m (acc++[t']) e4 hm' (by grind),show (p++[y]).length=p.length+1 by simp]
  simp
end
theorem agO {i:Int} {r:List Cl} (hi:0≤i∧i<24) (hr:RF r) (t:Tm):OkT t→RowsT t→ ∀ {k:Nat} {d:Int} (ret:Tm→Option S),Fd k (av t)→0≤d→d+av t<4611686018427386000→eS k t i r d true ret=ret (rE (aI (bN i r false) (bN i r true) d t)):=by
 induction t using dW with
 |h t ih1 ih2=>
  intro ht hro k d ret hk hv hv'
  obtain ⟨q,rfl,hq,hf⟩:=hk.pos' (cM t)
  have hp:=cM t
  have hd0:0≤d∧d<4611686018427386000:=by omega
  obtain ⟨o1,o2,o3,o4,o5,o6,o7⟩:=ht.no
  have hmo:=d9 t.kind
  have hr0:=hro.no.1
  have hQ: ∀y∈t.kids,∀b,0≤b∧b≤1→ ∀g:Tm→Option S,eS q y i r (d+b) true g=g (rE (aI (bN i r false) (bN i r true) (d+b) y)):=fun y hy b h2 g=>
   ih1 y hy (ht.ki hy) (hro.ki hy) g (hf _ (cr hy)) (by omega) (by have:=cr hy;omega)
  have hQ': ∀b∈t.sys,∀y∈b.kids,∀g:Tm→Option S,eS q y i r (d+au t.kind) true g=g (rE (aI (bN i r false) (bN i r true) (d+au t.kind) y)):=fun b hb y hy g=>
   ih2 b hb y hy ((ht.bi hb).2 y hy) ((hro.bi hb).2 y hy) g (hf _ (cL hb hy)) (by omega) (by have:=cL hb hy;omega)
  have h1:=fun r3:List Cl=>ade (r3:=r3) hq ret hi hr ht hro hd0 hQ hQ' t.kids [] q [] rfl (by omega) rfl
  have h1: ∀r3:List Cl,kf (eS q) q ret t i r d true q r3 [] 0=_:=h1
  simp only [eS,Ff,al hq,OK hq hr0 hr hi (show 0≤d∧d<4611686018427387000 by omega),be (n:=i+d) (by omega) (by omega),aj,h1,List.nil_append,List.length_nil]
  have hfa: ∀fa:Bool,(if t.kind=14 then bN i r true d t.r else bN i r false d t.r)=bN i r (t.kind==14) d t.r:=fun _=>by
   grind
  rw [yc _ ret,yC,hfa true,rf,a7,a7,←my]
  have hz:=my i r (t.kind==14) d t.r
  by_cases h0:(dw i r (t.kind==14) d t.r).2=0
  ·grind [oM,kE,ai,aV,OB,a7]
  ·have hze:cJ (dw i r (t.kind==14) d t.r)= .error (dw i r (t.kind==14) d t.r).2:=kG h0
   have hen:=yh (hz.symm.trans hze)
   rw [bR,decide_eq_false h0,Bool.not_false,aj,hze,mo hen];rfl
def fM (i:Int) (r:List Cl) (t:Tm):Except Int Tm:=bE (cJ (bo r i 1)) fun s=>aI (bN i s false) (bN i s true) 0 t
theorem ai0 {i:Int} {r:List Cl} {t:Tm} {e:Int} (h:fM i r t= .error e):0<e∧e≤1000:=by
 rcases cD h with h|⟨s,_,h⟩
 ·grind [Fw,wV,EN]
 ·exact ij nu nu t h
theorem ai1 {i:Int} {r:List Cl} {t y:Tm} (h:fM i r t= .ok y):y.kind=t.kind:=by
 obtain ⟨s,_,h⟩:=bA h
 exact FE h
theorem agl (hk:F3 k) {t:Tm} (ht:Fm t) {i:Int} (hi:0≤i∧i<24) {r:List Cl} (hr:RF r) (ret:Tm×Int→Option S):gL k t i r ret=ret (tE (fM i r t)):=by
 have l2:=hr.len
 have hdp:=ht.dep
 simp only [gL,Ed,al hk.fu,aU,u4,Er,yj ht.ok (ht.fd hk) (show av t<1099511627776 by omega),ht.2,agt hk.fu,oR hk.fu hr.2 hr.lt,hr.right,decide_eq_true hi,yk hk.fu hr.2 (show r.length<1073741824 by omega) (show aF i by unfold aF;omega) (show aF 1 by unfold aF;omega),Ar,Pl,As,Po,Au,Pp,Aq,Pk]
 rw [show ((0:Int)==0)=true from rfl,Bool.not_true,ai,ai,ai,ai]
 rw [s8 _ ret]
 unfold fM
 rw [a7]
 by_cases h0:(bo r i 1).2=0
 ·have hs:=kh h0
  rw [bR,decide_eq_true h0,Bool.not_true,ai,kE h0,aV,ae6 hi hs t ht.ok ht.rows _ (ht.fd hk) (by omega) (by omega)]
  refine Eq.trans (tj (α:=Option S) (β:=Unit) _ (fun e he=>ij h8 h8 t he) (fun x=>dn k x 0 i fun r6=>ret (r6.1,r6.2)) fun e=>ret (aR,e)) ?_
  have htw:=ajy (fo:=aJ i (bo r i 1).1 false) (fa:=aJ i (bo r i 1).1 true) (G:=uP i) (fun d f g hf h=>oM hf h) (fun d f hf=>Gt hf) t 0 ht.rows
  show _=eE (aI (cA (aJ i (bo r i 1).1 false) (uP i)) (cA (aJ i (bo r i 1).1 true) (uP i)) 0 t) _ _
  rw [←htw,a7]
  refine cO (fun x hx=> ?_) fun e _=>rfl
  have hw:=Rd (fun d f g hf h=>oM hf h) (fun d f g hf h=>oM hf h) (fun d=>N8) t 0 x hx
  obtain ⟨w1,w2,w3,w4⟩:=hw
  obtain ⟨hox,hrx⟩:=w4 ht.ok ht.rows
  rw [XJ hi x hox hrx _ (hk.fd (by omega)) (by omega) (by omega)]
  exact s8 _ ret
 ·rw [bR,decide_eq_false h0,Bool.not_false,aj,kG h0];rfl
theorem agb (hk:F3 k) {t:Tm} (ht:Fm t) {i:Int} (hi:0≤i∧i<24) {r:List Cl} (hr:RF r) (ret:Tm→Option S):vF k t i r ret=ret (rE (fM i r t)):=by
 have l2:=hr.len
 have hdp:=ht.dep
 simp only [vF,Qx,al hk.fu,aU,D4 hk.fu hr.2 (show r.length<1073741824 by omega) (show aF i by unfold aF;omega) (show aF 1 by unfold aF;omega)]
 rw [decide_eq_false (by have:=ht.rows.no.2.2;omega),ai,yc _ ret]
 unfold fM
 rw [a7]
 by_cases h0:(bo r i 1).2=0
 ·have hs:=kh h0
  rw [bR,decide_eq_true h0,Bool.not_true,ai,kE h0,aV,agO hi hs t ht.ok ht.rows _ (ht.fd hk) (by omega) (by omega),yc _ ret]
 ·have hze:cJ (bo r i 1)= .error (bo r i 1).2:=kG h0
  have hen:0<(bo r i 1).2∧(bo r i 1).2≤1000:=by
   grind [wV,EN]
  rw [bR,decide_eq_false h0,Bool.not_false,aj,hze,mo hen];rfl
end Go.Proofs.YtgajalidbabccaaGreatDoor
namespace Go.Proofs.YtgajalidbabccaaGreatDoor
open Go PI
set_option linter.unusedVariables false
set_option linter.unusedSimpArgs false
set_option maxRecDepth 20000
variable {S:Type} {k:Nat}
def In (k:Nat) (t:Tm):Prop:=OkT t∧Fd k (av t)∧aD t<1099511627776
theorem In.dep {t:Tm} (h:In k t):av t<1099511627776:=by have:=vO t;have:=h.2.2;omega
theorem Fm.isIn {t:Tm} (h:Fm t) (hk:F3 k):In k t:=⟨h.ok,h.fd hk,by have:=h.siz;omega⟩
theorem aas {i:Int} {r:List Cl} {fa:Bool} {d:Int} {f g:List Cl} (hf:RF f) (h:bN i r fa d f= .ok g):RF g:=by
 rw [rf] at h
 obtain ⟨m,h1,h⟩:=bA h
 injection h with h;subst h
 exact Xw (oM hf h1).len
theorem aar {i:Int} {r:List Cl} {fa:Bool} (d:Int):bN i r fa d []= .ok []:=by
 rw [rf,N8,aS];rfl
theorem ai3 {i:Int} {r:List Cl} {t y:Tm} (h:fM i r t= .ok y):Wk t y:=by
 obtain ⟨s,_,h⟩:=bA h
 grind [Rd,aas,aar]
section
variable {c:Int}
end
end Go.Proofs.YtgajalidbabccaaGreatDoor
namespace Go.Proofs.YtgajalidbabccaaGreatDoor
open Go PI
set_option linter.unusedVariables false
set_option linter.unusedSimpArgs false
set_option maxRecDepth 20000
variable {S:Type} {k:Nat}
theorem ad_:OkT aR:=by
 unfold aR
 rw [OkT,bO,bP]
 exact ⟨⟨by unfold aF;omega,by unfold aF;omega,by simp,fun c hc=>(by cases hc),by simp,by simp,by simp⟩,trivial,trivial⟩
theorem KV (hk:F3 k):In k aR:=⟨ad_,hk.fd (by grind [aR,av,bt,bU]),by grind [aR,aD,aN,aZ]⟩
end Go.Proofs.YtgajalidbabccaaGreatDoor
namespace Go.Proofs.YtgajalidbabccaaGreatDoor
open Go PI
set_option linter.unusedVariables false
set_option linter.unusedSimpArgs false
set_option maxRecDepth 20000
variable {S:Type} {k:Nat}
theorem aho (t:Tm):aD t=1+aN t.kids+aZ t.sys:=by cases t;rfl
section
variable {hd:Tm→Int→(Int→Option S)→Option S} {t:Tm}
end
end Go.Proofs.YtgajalidbabccaaGreatDoor
namespace Go.Proofs.YtgajalidbabccaaGreatDoor
open Go PI
set_option linter.unusedVariables false
set_option linter.unusedSimpArgs false
set_option maxRecDepth 20000
variable {S:Type} {k:Nat}
def Fd2 (n m:Nat) (t:Tm):Prop:=OkT t∧aQ false (-1) 24 t=true∧av t≤n∧aD t≤m
theorem Fd2.isIn {n m:Nat} {t:Tm} (h:Fd2 n m t) (hk:F3 k) (hn:n≤1000) (hm:m≤1000000):In k t:=⟨h.1,hk.fd (by have:=h.2.2.1;omega),by have:=h.2.2.2;omega⟩
theorem Fm.f2 {t:Tm} (h:Fm t):Fd2 200 20000 t:=⟨h.1,(iO h.2).2.2,(iO h.2).1,(iO h.2).2.1⟩
theorem Fd2.mono {n m n' m':Nat} {t:Tm} (h:Fd2 n m t) (hn:n≤n') (hm:m≤m'):Fd2 n' m' t:=⟨h.1,h.2.1,by have:=h.2.2.1;omega,by have:=h.2.2.2;omega⟩
end Go.Proofs.YtgajalidbabccaaGreatDoor
namespace Go.Proofs.YtgajalidbabccaaGreatDoor
open Go PI
set_option linter.unusedVariables false
set_option linter.unusedSimpArgs false
set_option maxRecDepth 20000
variable {S:Type} {k:Nat}
section
variable {n v d kd:Int} {u:Tm}
end
end Go.Proofs.YtgajalidbabccaaGreatDoor
namespace Go.Proofs.YtgajalidbabccaaGreatDoor
open Go PI
set_option linter.unusedVariables false
set_option linter.unusedSimpArgs false
set_option maxRecDepth 20000
variable {S:Type} {k:Nat}
def jR {α:Type} (t:Tm) (x:Except Int α):Except Int α:=if dB t=0 then x else .error (dB t)
def A1 (f b:Int) (t:Tm):Except Int Tm:=jR t (bp 0 b 0 f t)
def Ft (i:Int) (r:List Cl) (t:Tm):Except Int Tm:=jR t (fM i r t)
theorem mD {e:Int} (h:e≠0):(e==0)=false:=by simpa using h
theorem agd (hk:F3 k) {t:Tm} (ht:In k t) {f b:Int} (hf:0≤f∧f≤24) (hb:0≤b∧b<9223372036854775808) (ret:Tm×Int→Option S):iE k t f b ret=ret (tE (A1 f b t)):=by
 unfold A1 jR
 by_cases h:dB t=0
 ·rw [if_pos h];exact agE hk ⟨ht.1,h⟩ hf hb ret
 ·rw [if_neg h]
  simp only [iE,EF,al hk.fu,aU,vm,yw,yj ht.1 ht.2.1 ht.dep,mD h,Bool.not_false,aj];rfl
theorem agm (hk:F3 k) {t:Tm} (ht:In k t) {i:Int} (hi:0≤i∧i<24) {r:List Cl} (hr:RF r) (ret:Tm×Int→Option S):gL k t i r ret=ret (tE (Ft i r t)):=by
 unfold Ft jR
 by_cases h:dB t=0
 ·rw [if_pos h];exact agl hk ⟨ht.1,h⟩ hi hr ret
 ·rw [if_neg h]
  simp only [gL,Ed,al hk.fu,aU,u4,Er,yj ht.1 ht.2.1 ht.dep,mD h,Bool.not_false,aj];rfl
end Go.Proofs.YtgajalidbabccaaGreatDoor
namespace Go.Proofs.YtgajalidbabccaaGreatDoor
open Go PI
set_option linter.unusedVariables false
set_option linter.unusedSimpArgs false
set_option maxRecDepth 20000
end Go.Proofs.YtgajalidbabccaaGreatDoor
namespace Go.Proofs.YtgajalidbabccaaGreatDoor
open Go PI
set_option linter.unusedVariables false
set_option linter.unusedSimpArgs false
set_option maxRecDepth 20000
variable {S:Type} {k:Nat}
end Go.Proofs.YtgajalidbabccaaGreatDoor
namespace Go.Proofs.YtgajalidbabccaaGreatDoor
open Go PI
set_option linter.unusedVariables false
set_option linter.unusedSimpArgs false
set_option maxRecDepth 20000
variable {S:Type} {k:Nat}
structure Gd (x:Except Int Tm):Prop where
 en: ∀e,x= .error e→0<e∧e≤1000
 kd: ∀t,x= .ok t→0≤t.kind
end Go.Proofs.YtgajalidbabccaaGreatDoor
namespace Go.Proofs.YtgajalidbabccaaGreatDoor
open Go PI
set_option linter.unusedVariables false
set_option linter.unusedSimpArgs false
set_option maxRecDepth 20000
variable {S:Type} {k:Nat}
section
variable {hd:Tm→(Tm→Option S)→Option S} {t:Tm}
theorem acX (hk:Fu k) (ret:Tm→Option S) (rec1:List (Br Tm)→Int→Option S) {ks:List Tm} {acc:List (Br Tm)} {x:Br Tm} {i:Int} (hi:ah t.sys i=some x) (hQ: ∀y∈x.kids,∀g,hd y g=g y) (hl:x.kids.length<1073741824) (hacc:acc.length<1073741824):
  ∀ (r p:List Tm) (m:Nat),x.kids=p++r→r.length<m→lN hd k ret rec1 t ks acc x i m p (p.length:Int)=rec1 (acc++[x]) (IntKind.wrap .i64 (i+1)):=by
 intro r
 induction r with
 |nil=>
  intro p m h hm
  obtain ⟨m,rfl,hm'⟩:=ak hm
  simp only [lN,ut,hi,Option.bind_some,cQ h,ai]
  rw [aM (by grind)]
  have:p=x.kids:=by grind
  subst this
  rfl
 |cons y r ih=>
  intro p m h hm
  obtain ⟨m,rfl,hm'⟩:=ak hm
  obtain ⟨e1,e2,e3,e4⟩:=az h (by omega)
  have hlen:p.length+r.length+1=x.kids.length:=by grind
  simp only [lN,ut,hi,e1,aj,e2,Option.bind_some,aU,e3,hQ y (by grind)]
  grind [aM]
theorem acW (hk:Fu k) (ret:Tm→Option S) (ht:OkT t) (hQ: ∀b∈t.sys,∀y∈b.kids,∀g,hd y g=g y) {ks:List Tm}:
  ∀ (r p:List (Br Tm)) (m:Nat),t.sys=p++r→r.length<m→jc hd k ret t ks m p (p.length:Int)=ret (.mk t.kind t.n t.name t.r ks t.sys):=by
 obtain ⟨o1,o2,o3,o4,o5,o6,o7⟩:=ht.no
 intro r
 induction r with
 |nil=>
  grind [ak,jc,pN,ai]
 |cons y r ih=>
  intro p m h hm
  obtain ⟨m,rfl,hm'⟩:=ak hm
  obtain ⟨e1,e2,e3,e4⟩:=az h (by omega)
  have hy:y∈t.sys:=by grind
  have hb:=(ht.bi hy).1
  have hlen:p.length+r.length+1=t.sys.length:=by grind
  simp only [jc,pN,e1,aj,e2,Option.bind_some]
  rw [aM (by grind)]
  have:=acX (t:=t) hk ret (jc hd k ret t ks m) (ks:=ks) (acc:=p) e2 (hQ y hy) hb.2.2 (by omega) y.kids [] k rfl (by omega)
  grind
theorem acV (hk:Fu k) (ret:Tm→Option S) (ht:OkT t) (hQ: ∀y∈t.kids,∀g,hd y g=g y) (hQ': ∀b∈t.sys,∀y∈b.kids,∀g,hd y g=g y):
  ∀ (r p:List Tm) (m:Nat),t.kids=p++r→r.length<m→n8 hd k ret t m p (p.length:Int)=ret t:=by
 obtain ⟨o1,o2,o3,o4,o5,o6,o7⟩:=ht.no
 intro r
 induction r with
 |nil=>
  intro p m h hm
  obtain ⟨m,rfl,hm'⟩:=ak hm
  simp only [n8,pM,cQ h,ai]
  have:=acW hk ret ht hQ' (ks:=p) t.sys [] k rfl (by omega)
  refine Eq.trans this ?_
  have hp:p=t.kids:=by grind
  subst hp
  cases t;rfl
 |cons y r ih=>
  intro p m h hm
  obtain ⟨m,rfl,hm'⟩:=ak hm
  obtain ⟨e1,e2,e3,e4⟩:=az h (by omega)
  grind [n8,pM,aj,aU,aM]
end
theorem agZ (t:Tm):OkT t→ ∀ {k:Nat} (ret:Tm→Option S),Fd k (av t)→gS k t ret=ret t:=by
 induction t using dW with
 |h t ih1 ih2=>
  intro ht k ret hk
  obtain ⟨q,rfl,hq,hf⟩:=hk.pos' (cM t)
  obtain ⟨o1,o2,o3,o4,o5,o6,o7⟩:=ht.no
  simp only [gS,E7]
  rw [aM (by grind)]
  exact acV hq ret ht (fun y hy g=>ih1 y hy (ht.ki hy) g (hf _ (cr hy))) (fun b hb y hy g=>ih2 b hb y hy ((ht.bi hb).2 y hy) g (hf _ (cL hb hy))) t.kids [] q rfl (by omega)
end Go.Proofs.YtgajalidbabccaaGreatDoor
namespace Go.Proofs.YtgajalidbabccaaGreatDoor
open Go PI
set_option linter.unusedVariables false
set_option linter.unusedSimpArgs false
set_option maxRecDepth 20000
variable {S:Type} {k:Nat}
def Ip (b:Br Tm):Tm:=b.kids.headD aR
structure SyF (sys:List (Br Tm)):Prop where
 kid: ∀b∈sys,b.kids=[Ip b]∧Fm (Ip b)∧ao b.face∧b.face.length<1073741824
 len:sys.length≤20000
 siz:aZ sys≤20000
theorem ai2 {r:List Cl} {t y:Tm} (ht:Fm t) (h:fM 0 r t= .ok y):OkT y∧av y≤200∧aD y≤20000:=by
 obtain ⟨w1,w2,w3,w4⟩:=ai3 h
 have h4:=w4 ht.ok ht.rows
 have:=ht.dep;have:=ht.siz
 grind
end Go.Proofs.YtgajalidbabccaaGreatDoor
namespace Go.Proofs.YtgajalidbabccaaGreatDoor
open Go PI
set_option linter.unusedVariables false
set_option linter.unusedSimpArgs false
set_option maxRecDepth 20000
variable {S:Type} {k:Nat}
end Go.Proofs.YtgajalidbabccaaGreatDoor
namespace Go.Proofs.YtgajalidbabccaaGreatDoor
open Go PI
set_option linter.unusedVariables false
set_option linter.unusedSimpArgs false
set_option maxRecDepth 20000
variable {S:Type} {k:Nat}
end Go.Proofs.YtgajalidbabccaaGreatDoor
namespace Go.Proofs.YtgajalidbabccaaGreatDoor
open Go PI
set_option linter.unusedVariables false
set_option linter.unusedSimpArgs false
set_option maxRecDepth 20000
abbrev En:=Nat→Prop
def hp (c:Cl) (j:Nat):Prop:=c.pos.toNat.testBit j=true
def hn (c:Cl) (j:Nat):Prop:=c.neg.toNat.testBit j=true
end Go.Proofs.YtgajalidbabccaaGreatDoor
namespace Go.Proofs.YtgajalidbabccaaGreatDoor
open Go PI
set_option linter.unusedVariables false
set_option linter.unusedSimpArgs false
set_option maxRecDepth 20000
def ff (P:En) (n:Nat) (A:Prop):En:=fun j=>(j≠n∧P j)∨(j=n∧A)
end Go.Proofs.YtgajalidbabccaaGreatDoor
namespace Go.Proofs.YtgajalidbabccaaGreatDoor
open Go PI
set_option linter.unusedVariables false
set_option linter.unusedSimpArgs false
set_option maxRecDepth 20000
end Go.Proofs.YtgajalidbabccaaGreatDoor
namespace Go.Proofs.YtgajalidbabccaaGreatDoor
open Go PI
set_option linter.unusedVariables false
set_option linter.unusedSimpArgs false
set_option maxRecDepth 20000
def RX (fa:Bool) (f:List Cl):Prop:=RF f∧(fa=true→ ∀c∈f,bn c=false)
def same (n:Nat) (P P':En):Prop:= ∀j,j≠n→(P j↔P' j)
theorem same.symm {n:Nat} {P P':En} (h:same n P P'):same n P' P:=fun j hj=>(h j hj).symm
end Go.Proofs.YtgajalidbabccaaGreatDoor
namespace Go.Proofs.YtgajalidbabccaaGreatDoor
open Go PI
set_option linter.unusedVariables false
set_option linter.unusedSimpArgs false
set_option maxRecDepth 20000
end Go.Proofs.YtgajalidbabccaaGreatDoor
namespace Go.Proofs.YtgajalidbabccaaGreatDoor
open Go PI
set_option linter.unusedVariables false
set_option linter.unusedSimpArgs false
set_option maxRecDepth 20000
end Go.Proofs.YtgajalidbabccaaGreatDoor
namespace Go.Proofs.YtgajalidbabccaaGreatDoor
open Go PI
set_option linter.unusedVariables false
set_option linter.unusedSimpArgs false
set_option maxRecDepth 20000
abbrev WI:=Bool→Int→List Cl→List Cl→Prop
abbrev WH:=Int→List Cl→List Cl→Prop
mutual
def kY (pl:Bool):Tm→Prop
 | .mk kd n nm r ks sys=>RX (decide (kd=14)) r∧kX pl ks∧pk pl sys
def kX (pl:Bool):List Tm→Prop
 |[]=>True
 |t::l=>kY pl t∧kX pl l
def pk (pl:Bool):List (Br Tm)→Prop
 |[]=>True
 |b::l=>FM pl b∧pk pl l
def FM (pl:Bool):Br Tm→Prop
 | .mk f ks=>(RX true f∧(pl=true→f≠[]))∧kX pl ks
end
section
variable {pl:Bool} {c vb db kd:Int} {fo fa:dc} {Ro Ro':WI} {Rb Rb':WH}
end
end Go.Proofs.YtgajalidbabccaaGreatDoor
namespace Go.Proofs.YtgajalidbabccaaGreatDoor
open Go PI
set_option linter.unusedVariables false
set_option linter.unusedSimpArgs false
set_option maxRecDepth 20000
variable {S:Type} {k:Nat}
def CK (sys:List (Br Tm)):Bool:=sys.any fun b=>(b.face.length:Int)==0
mutual
def mb:Tm→Bool
 | .mk _ _ _ _ ks sys=> !CK sys&&(mc ks&&w_ sys)
def mc:List Tm→Bool
 |[]=>true
 |t::l=>mb t&&mc l
def w_:List (Br Tm)→Bool
 |[]=>true
 |b::l=>K9 b&&w_ l
def K9:Br Tm→Bool
 | .mk _ ks=>mc ks
end
theorem Ot {f:List Cl} (hf:ao f) (h:ck f=true):RX true f:=by
 have:=(ml hf).1 h
 exact ⟨this.1,fun _=>this.2⟩
theorem CT {vars dims kd n nm r ks sys} (hok:OkT (.mk kd n nm r ks sys)) (h:du vars dims (.mk kd n nm r ks sys)=true):RX (decide (kd=14)) r∧ ∀b∈sys,RX true b.face:=by
 obtain ⟨o1,o2,o3,o4,o5,o6,o7⟩:=hok.node
 unfold du at h
 simp only [Bool.and_eq_true,decide_eq_true_eq] at h
 obtain ⟨⟨a1,a2,a3,a4⟩,a5⟩:=h
 have r0:r.length=0→RX (decide (kd=14)) r:=fun h=>by
  have:=List.length_eq_zero_iff.1 h;subst this;exact ⟨oL,fun _ c hc=>by cases hc⟩
 have nosys:cj kd=0→ ∀b∈sys,RX true b.face:=fun h=>by
  grind
 split at a5
 ·rename_i c
  simp only [Bool.and_eq_true,decide_eq_true_eq] at a5
  exact ⟨r0 a5.1,nosys (by subst c;decide)⟩
 split at a5
 ·rename_i c
  simp only [Bool.and_eq_true,decide_eq_true_eq] at a5
  exact ⟨r0 a5.1,nosys (by subst c;decide)⟩
 split at a5
 ·rename_i c
  rw [Bool.and_eq_true] at a5
  exact ⟨⟨(eH o4).1 a5.1,fun h=>by grind⟩,nosys (by rcases c with rfl|rfl|rfl<;>decide)⟩
 split at a5
 ·rename_i c
  rw [Bool.and_eq_true] at a5
  subst c
  exact ⟨Ot o4 a5.1,nosys (by decide)⟩
 ·simp only [Bool.and_eq_true,decide_eq_true_eq] at a5
  refine ⟨r0 a5.2,fun b hb=> ?_⟩
  have:=List.all_eq_true.1 a5.1 b hb
  unfold cE at this
  simp only [Bool.and_eq_true] at this
  exact Ot (hok.br hb).1.1 this.2.1
theorem WT {bd pl:Bool} (t:Tm): ∀ {vars dims:Int},OkT t→aQ bd vars dims t=true→(pl=true→mb t=true)→kY pl t:=by
 induction t using h9 with
 |h kd n nm r ks sys ih1 ih2=>
  intro vars dims hok h hp
  rw [aQ,Bool.and_eq_true,Bool.and_eq_true,Bool.and_eq_true] at h
  obtain ⟨_,a,b,c⟩:=h
  obtain ⟨hr,hb⟩:=CT hok a
  have hok':=hok
  rw [OkT] at hok'
  obtain ⟨_,ok,os⟩:=hok'
  rw [mb] at hp
  simp only [Bool.and_eq_true,Bool.not_eq_true'] at hp
  have hk: ∀ {l:List Tm} {i:Nat},(∀x∈l,∀ {vars dims:Int},OkT x→aQ bd vars dims x=true→(pl=true→mb x=true)→kY pl x)→bO l→bz bd vars dims kd i l=true→(pl=true→mc l=true)→kX pl l:=by
   intro l
   induction l<;>grind [bz,kX,mc,bO]
  have hm: ∀ {l:List Tm},(∀x∈l,∀ {vars dims:Int},OkT x→aQ bd vars dims x=true→(pl=true→mb x=true)→kY pl x)→bO l→bY bd vars dims kd l=true→(pl=true→mc l=true)→kX pl l:=by
   intro l
   induction l<;>grind [bY,kX,mc,bO]
  have hs: ∀ {l:List (Br Tm)},(∀b∈l,∀x∈b.kids,∀ {vars dims:Int},OkT x→aQ bd vars dims x=true→(pl=true→mb x=true)→kY pl x)→bP l→(∀b∈l,RX true b.face)→b8 bd vars dims kd l=true→(pl=true→CK l=false∧w_ l=true)→pk pl l:=by
   intro l
   induction l with
   |nil=>grind [pk]
   |cons b l ih=>
    intro h1 h2 h3 h4 h5
    obtain ⟨f,ks'⟩:=b
    rw [bP] at h2
    rw [kU] at h2
    rw [b8,k_,Bool.and_eq_true] at h4
    rw [CK,List.any_cons,Bool.or_eq_false_iff,w_,K9,Bool.and_eq_true] at h5
    rw [pk,FM]
    refine ⟨⟨⟨h3 ⟨f,ks'⟩ (by simp),fun e he=> ?_⟩,hm (h1 ⟨f,ks'⟩ (by simp)) h2.1.2 h4.1 fun e=>(h5 e).2.1⟩,ih (fun b hb=>h1 b (by simp [hb])) h2.2 (fun b hb=>h3 b (by simp [hb])) h4.2 fun e=>⟨(h5 e).1.2,(h5 e).2.2⟩⟩
    grind
  grind [kY]
theorem Fm.pl {t:Tm} {pl:Bool} (h:Fm t) (hp:pl=true→mb t=true):kY pl t:=by
 have:=h.2
 unfold dB at this
 split at this
 ·simp_all
 split at this
 ·simp_all
 split at this
 ·rename_i h3;exact WT t h.1 h3 hp
 omega
end Go.Proofs.YtgajalidbabccaaGreatDoor
namespace Go.Proofs.YtgajalidbabccaaGreatDoor
open Go PI
set_option linter.unusedVariables false
set_option linter.unusedSimpArgs false
set_option maxRecDepth 20000
variable {S:Type} {k:Nat}
theorem WR {kd d:Int}: ∀ {l:List Tm} {i:Nat} {x:Tm},24≤d→bz false (-1) d kd i l=true→x∈l→aQ false (-1) 24 x=true:=by
 intro l
 induction l with
 |nil=>intro i x _ _ h;cases h
 |cons t l ih=>
  intro i x hd h hx
  rw [bz,Bool.and_eq_true] at h
  rcases List.mem_cons.1 hx with rfl|hx
  ·have:=h.1
   rw [Q9,WP x (by have:=iy kd i;omega) (Int.le_refl 24)] at this;exact this
  ·exact ih hd h.2 hx
theorem Fm.kid {t x:Tm} (h:Fm t) (hx:x∈t.kids):Fm x:=by
 obtain ⟨h1,h2,h3⟩:=iO h.2
 have hd:=cr hx
 have hs:aD x≤aD t:=by have:=aho t;have:=te hx;omega
 refine ⟨h.1.ki hx,H2 (by omega) (by omega) ?_⟩
 obtain ⟨kd,n,nm,r,ks,sys⟩:=t
 rw [aQ] at h3
 simp only [Bool.false_and,Bool.not_false,Bool.true_and,Bool.and_eq_true] at h3
 exact WR (Int.le_refl 24) h3.2.1 hx
theorem Fm.own {t:Tm} (h:Fm t):du (-1) 24 t=true:=by
 have h3:=(iO h.2).2.2
 cases t
 rw [aQ] at h3
 simp only [Bool.false_and,Bool.not_false,Bool.true_and,Bool.and_eq_true] at h3
 exact h3.1
theorem Fm.n0 {t:Tm} (h:Fm t) (hk:t.kind≠1):t.n=0:=by
 have:=h.own
 cases t
 unfold du at this
 simp only [Bool.and_eq_true,decide_eq_true_eq] at this
 exact this.1.2.1.resolve_left hk
theorem Fm.kd0 {t:Tm} (h:Fm t):0≤t.kind:=h.rows.no.2.2
theorem Fm.r14 {t:Tm} (h:Fm t) (hk:t.kind=14):RX true t.r:=by
 have:=CT (kd:=t.kind) (n:=t.n) (nm:=t.name) (r:=t.r) (ks:=t.kids) (sys:=t.sys) (by cases t;exact h.1) (by have:=h.own;cases t;exact this)
 have h1:=this.1
 rw [hk] at h1;exact h1
theorem Fm.face {t:Tm} {b:Br Tm} (h:Fm t) (hb:b∈t.sys):RX true b.face:=by
 have:=CT (kd:=t.kind) (n:=t.n) (nm:=t.name) (r:=t.r) (ks:=t.kids) (sys:=t.sys) (by cases t;exact h.1) (by have:=h.own;cases t;exact this)
 exact this.2 b hb
end Go.Proofs.YtgajalidbabccaaGreatDoor
namespace Go.Proofs.YtgajalidbabccaaGreatDoor
open Go PI
set_option linter.unusedVariables false
set_option linter.unusedSimpArgs false
set_option maxRecDepth 20000
variable {S:Type} {k:Nat}
end Go.Proofs.YtgajalidbabccaaGreatDoor
namespace Go.Proofs.YtgajalidbabccaaGreatDoor
open Go PI
set_option linter.unusedVariables false
set_option linter.unusedSimpArgs false
set_option maxRecDepth 20000
variable {S:Type} {k:Nat}
structure Sm (n:Nat) (t:Tm):Prop where
 ok:OkT t
 siz:aD t≤n
 dep:av t≤300
theorem Sm.mono {n m:Nat} {t:Tm} (h:Sm n t) (hnm:n≤m):Sm m t:=⟨h.ok,by have:=h.siz;omega,h.dep⟩
theorem Sm.isIn {n:Nat} {t:Tm} (h:Sm n t) (hk:F3 k) (hn:n<1099511627776):In k t:=⟨h.ok,hk.fd (by have:=h.dep;omega),by have:=h.siz;omega⟩
structure Bs' (n:Nat) (l:List (Br Tm)):Prop where
 ok:bP l
 siz:aZ l≤l.length*n
 dep:bU l≤301
end Go.Proofs.YtgajalidbabccaaGreatDoor
namespace Go.Proofs.YtgajalidbabccaaGreatDoor
open Go PI
set_option linter.unusedVariables false
set_option linter.unusedSimpArgs false
set_option maxRecDepth 20000
variable {S:Type} {k:Nat}
end Go.Proofs.YtgajalidbabccaaGreatDoor
namespace Go.Proofs.YtgajalidbabccaaGreatDoor
open Go PI
set_option linter.unusedVariables false
set_option linter.unusedSimpArgs false
set_option maxRecDepth 20000
variable {S:Type} {k:Nat}
theorem ahi {α:Type} (c:Bool) (a:α):ab c a a=a:=by cases c<;>rfl
end Go.Proofs.YtgajalidbabccaaGreatDoor
namespace Go.Proofs.YtgajalidbabccaaGreatDoor
open Go PI
set_option linter.unusedVariables false
set_option linter.unusedSimpArgs false
set_option maxRecDepth 100000
variable {S:Type} {k:Nat}
theorem N3:RF [⟨2,0⟩]:=gy ⟨⟨by decide,by decide⟩,by decide,by decide⟩
def ti (t:Tm):Except Int Tm:=bE (bp 0 1 0 2 t) fun y=>fM 0 [⟨2,0⟩] y
def oW (t:Tm):Except Int Tm:=jR t (ti t)
theorem ahd (hk:F3 k) {t:Tm} (ht:In k t) (ret:Tm×Int→Option S):qT k t ret=ret (tE (oW t)):=by
 simp only [qT,QU,al hk.fu,aU,agd hk ht (f:=2) (b:=1) (by decide) (by omega)]
 unfold oW A1 jR
 by_cases h0:dB t=0
 case neg=>rw [if_neg h0,if_neg h0,show (tE (.error (dB t):Except Int Tm)).2=dB t from rfl,mD h0,Bool.not_false,aj];rfl
 rw [if_pos h0,if_pos h0]
 have ft:Fm t:=⟨ht.1,h0⟩
 unfold ti
 cases hl:bp 0 1 0 2 t with
 |error e=>
  have he:=rH t hl
  rw [show (tE (.error e)).2=e from rfl,mD (show e≠0 by omega),Bool.not_false,aj];rfl
 |ok y=>
  have fy:=Cf (by omega) ft hl
  rw [show (tE (.ok y)).2=0 from rfl,show (tE (.ok y)).1=y from rfl,show (!((0:Int)==0))=false from rfl,ai,agm hk (fy.isIn hk) (i:=0) (by decide) N3,aS,show Ft 0 [⟨2,0⟩] y=fM 0 [⟨2,0⟩] y from if_pos fy.2]
theorem ag6 (hk:F3 k) {t:Tm} (ht:In k t) (ret:Tm×Int→Option S):vG k t ret=ret (tE (oW t)):=by
 simp only [vG,Qz,al hk.fu,aU,OQ ht.1 ht.2.1 ht.2.2]
 unfold oW jR
 by_cases h0:dB t=0
 case neg=>rw [mD h0,Bool.not_false,aj,if_neg h0];rfl
 rw [h0,show (!((0:Int)==0))=false from rfl,ai,if_pos rfl]
 have ft:Fm t:=⟨ht.1,h0⟩
 simp only [AM,QA,al hk.fu,aU,agN hk ft (show (0:Int)≤2∧(2:Int)≤24 by omega) (show (0:Int)≤1∧(1:Int)<9223372036854775808 by omega)]
 rw [decide_eq_false (by have:=ft.kd0;omega),ai]
 unfold ti
 cases hl:bp 0 1 0 2 t with
 |error e=>
  have he:=rH t hl
  rw [show (tE (.error e)).2=e from rfl,mD (show e≠0 by omega),Bool.not_false,aj,mo he]
  show ab (decide ((ce e).kind<0)) _ _=_
  rw [wI he.1,aj]
  show ret (aR,IntKind.wrap .i64 (0-(-e)))=ret (aR,e)
  rw [be (show-9223372036854775808≤0-(-e) by omega) (by omega)]
  simp
 |ok y=>
  have fy:=Cf (by omega) ft hl
  rw [show (tE (.ok y)).2=0 from rfl,show (tE (.ok y)).1=y from rfl,show (!((0:Int)==0))=false from rfl,ai,agb hk fy (show (0:Int)≤0∧(0:Int)<24 by omega) N3,aS]
  cases hx:fM 0 [⟨2,0⟩] y with
  |error e=>
   have he:=ai0 hx
   show ab (decide ((ce e).kind<0)) _ _=_
   rw [wI he.1,aj]
   show ret (aR,IntKind.wrap .i64 (0-(-e)))=ret (aR,e)
   rw [be (show-9223372036854775808≤0-(-e) by omega) (by omega)]
   simp
  |ok z=>
   show ab (decide (z.kind<0)) _ _=_
   rw [decide_eq_false (by rw [ai1 hx];have:=fy.kd0;omega),ai];rfl
theorem ahK (hk:F3 k) {t:Tm} (ht:In k t):In k (tE (oW t)).1:=by
 unfold oW jR
 split
 case isFalse=>exact KV hk
 rename_i h0
 have ft:Fm t:=⟨ht.1,h0⟩
 cases hx:ti t with
 |error e=>exact KV hk
 |ok z=>
  unfold ti at hx
  obtain ⟨y,h1,h2⟩:=bA hx
  have fy:=Cf (by omega) ft h1
  obtain ⟨q1,q2,q3⟩:=ai2 fy h2
  exact ⟨q1,hk.fd (by show av z≤_;omega),by show aD z<1099511627776;omega⟩
theorem ajB {S:Type} (q:Nat) (ret:Bool→Option S):qz (q+400) ret=ret true:=by kernel_rfl
theorem ahf (hk:F3 k) (ret:Bool→Option S):qz k ret=ret true:=by
 have hk:4294968296≤k:=hk
 obtain ⟨q,rfl⟩: ∃q,k=q+400:=⟨k-400,by omega⟩
 exact ajB q ret
theorem agn (hk:F3 k) {t:Tm} (ht:In k t) (ret:Bool→Option S):vj k t ret=ret true:=by
 simp only [vj,PW,al hk.fu,aU,ahf hk,agZ t ht.1 _ ht.2.1,ahd hk ht,ag6 hk ht]
 obtain ⟨w,hw⟩:=agY t ht.1 200 (fun r1=>ab (decide (r1>200)) (ret true) (ret true)) ht.2.1
 have hres:=ahK hk ht
 simp only [OV _ hres.1 _ hres.2.1,OV t ht.1 _ ht.2.1,aj,beq_self_eq_true]
 exact hw.trans (ahi _ _)
end Go.Proofs.YtgajalidbabccaaGreatDoor
namespace Go.Proofs.YtgajalidbabccaaGreatDoor
open Go PI Go.ChangeShapes Go.WideShapes Go.ChangeAt Go.RowKit
set_option linter.unusedVariables false
set_option linter.unusedSimpArgs false
set_option maxRecDepth 100000
set_option maxHeartbeats 4000000
theorem aaR {k:Nat} (hk:4296016872≤k) {H:Type} {t:Tm} {d:DataW H} (h:QT t d) (hb:Rows.uptoBulk d≤1048576):In k t:=by
 have h1:=h.1
 have h2:=vO t
 exact ⟨h.2 (by omega),by unfold Fd;omega,by omega⟩
theorem hrow (q:Nat) {a0 b0:Int} {c0:ByteArray} {d0:List Cl} {e0:List Tm} {f0:List (Br Tm)}:xP (S:=Out UU) q [.agg (dg ET.T (Tm.mk a0 b0 c0 d0 e0 f0))] [] some=aa q (vj q (Tm.mk a0 b0 c0 d0 e0 f0)) fun r=>some (Out.ret (U:=UU) (.bool r) []):=by kernel_rfl
theorem adt {j:Nat} (hF:F3 (j+1)) {t0:Tm} (h0:In (j+1) t0):xP (S:=Out UU) (j+1) [.agg (dg ET.T t0)] [] some=some (.ret (.bool true) []):=by
 obtain ⟨a0,b0,c0,d0,e0,f0⟩:=t0
 exact (hrow (j+1)).trans ((Gk (by omega) _ _).trans (agn hF h0 fun r=>some (Out.ret (U:=UU) (.bool r) [])))
theorem ads {k:Nat} (hk:4296016872≤k) {o:Obj} (ho:ad o) {t0:Tm} (h0:In k t0):
  bJ (LL o) 3 [.agg (dg ET.T t0)] [] (.ret (.bool true) []):=by
 have hF:F3 k:=by unfold F3;omega
 obtain ⟨j,rfl⟩: ∃j,k=j+1:=⟨k-1,by omega⟩
 obtain ⟨out,hout,hx⟩:=ai8 (S:=Out UU) o ho (j+1) [.agg (dg ET.T t0)] [] some (.ret (.bool true) []) (adt hF h0)
 injection hx with hx
 exact hx▸hout
theorem adr (H:Type) (enc:TypeId×Value→H) (W:World) (base:Nat) (args:Array Value) (ds gs:List (DataW H)) (before:List MemPlace)
  (hval: ∀ (j:Nat) t v,Tryz.f3.params[j]? =some t→args[j]? =some v→Value.okWide Tryz.prog W .any base t v)
  (hW:DataW.Whole enc Tryz.prog Tryz.f3.params.toList Rows.transpSwapsSpec.vars false W args.toList ds gs before) (hL:laidMetH Tryz.prog Rows.transpSwapsRow.laid W) (hb:Rows.uptoBulkAll (ds++gs)≤1048576):
  Calls Tryz.prog 3 args W fun e W'=> ∃v,e= .returned v∧Rows.transpSwapsSpec.post enc Tryz.prog Tryz.f3 false true false false W args v W':=by
 have hW':=hW
 obtain ⟨p,q,hA0,hV,rfl,hfz,hnd⟩:=hW
 have hA:DataW.TrodAll enc Tryz.prog W 0 (fun _=>true) true Tryz.f3.params.toList args.toList ds p:=hA0
 rw [Tryz.params3] at hA hval
 obtain ⟨v0,vs0,d0,ds0,p0,q0,hargs,rfl,rfl,h0,r0⟩:=trodAll_cons hA
 obtain ⟨rfl,rfl,rfl⟩:=trodAll_nil r0
 obtain rfl:args= #[v0]:=by cases args;simp_all
 obtain ⟨rfl,rfl⟩:=trodVars_none hV
 obtain ⟨o,ho,hh⟩:=aiZ hL
 simp only [List.append_nil,Rows.uptoBulkAll,Nat.add_zero] at hb
 obtain ⟨t0,e0,k0⟩:=W5 (o:=o) (g:=gB UU 0 fun _=>0) noN h0
 have hk:(4296016872:Nat)≤4296016872:=Nat.le_refl _
 generalize hkk:(4296016872:Nat)=k at hk
 have hok:=ads (k:=k) (by omega) ho (aaR (by omega) k0 (by omega))
 refine (Xk hok (aaG hh rfl rfl fun j p hj=> ?_)).mono ?_
 ·match j,hj with
  |0,hj=>cases hj;exact e0
  |j+1,hj=>simp at hj
 ·rintro e W' ⟨rfl,hkept⟩
  refine ⟨_,rfl,aeP rfl rfl (fun t ht=> ?_) rfl hW' hkept⟩
  rw [Tryz.params3] at ht
  have ht':t=26:=by simpa using ht
  rcases ht' with rfl<;>exact of_decide_eq_true (by kernel_rfl)
noncomputable def B9 (os:Os):World:=
 {World.holding Tryz.prog os ⟨#[],#[],[]⟩ with heap:=(World.holding Tryz.prog os ⟨#[],#[],[]⟩).heap.modify 0 fun
   | .cells _ t frozen=> .cells (Lib.deBruijn32tab.map fun n:Nat=>Value.int .u8 n).toArray t frozen
   |o=>o}
def ajU:Value:= .agg #[.int .i64 0,.int .i64 0,.string ByteArray.empty,.slice none 0 0,.slice none 0 0,.slice none 0 0]
def zeroArgs:Array Value:= #[ajU]
def ajS {H:Type}:DataW H:= .agg [.lit (.int .i64 0),.lit (.int .i64 0),.lit (.string []),.nil,.nil,.nil]
theorem ado (os:Os):laidMet Tryz.prog Rows.transpSwapsRow.laid ((B9 os).forCall (fun _ _=>0) ⟨#[],zeroArgs,[]⟩).memory:=
 laidMet_of_run' 8 (by kernel_rfl) (by kernel_rfl)
theorem afO (os:Os) {H:Type} (enc:TypeId×Value→H): ∃places,DataW.whole enc Tryz.prog ((B9 os).forCall (fun _ _=>0) ⟨#[],zeroArgs,[]⟩).memory Tryz.f3.params.toList Rows.transpSwapsSpec.vars false zeroArgs.toList 8=some ([ajS],[],places):=
 ⟨[],by kernel_rfl⟩
theorem adL (os:Os) (started:os.Started) (H:Type) (enc:TypeId×Value→H) (F:Stop.Interp):
  ReturnsInHanded {} Tryz.checked os 3 .any ((Rows.OpenSpec.upto Rows.transpSwapsSpec).preRow enc Tryz.prog Tryz.f3 Rows.transpSwapsUptoRow.domain false Rows.transpSwapsUptoRow.laid) (((Rows.OpenSpec.upto Rows.transpSwapsSpec).at F).post enc Tryz.prog Tryz.f3 false true false false):=by
 obtain ⟨places,hx⟩:=afO os enc
 refine returnsInHanded_of_row (C:=Tryz.checked) (s:=Rows.OpenSpec.upto Rows.transpSwapsSpec) own started (by kernel_rfl) Tryz.func3
  (witness_row_at (enc:=enc) (C:=Tryz.checked) false (B9 os) zeroArgs rfl (by kernel_rfl) (by kernel_rfl) (by kernel_rfl)
   (OpenSpec.preRow_of_cond 8 hx (by kernel_rfl) (fun k hk=>by cases hk;kernel_rfl) (by kernel_rfl) (ado os))) ?_
 intro W base args ds gs before hval hW _ hcond _ hL _ _
 exact adr H enc W base args ds gs before hval hW hL (of_decide_eq_true (hcond _ rfl))
theorem ahg:Rows.TranspSwapsUptoSaid:=
 OpenClaim.holds_of_cond 3 Tryz.f3 rfl rfl rfl rfl rfl rfl rfl ⟨rfl,rfl,rfl,rfl,rfl⟩ rfl rfl rfl rfl rfl (by as_aux_lemma=>kernel_rfl) Tryz.func3 aa1
  (of_decide_eq_true (by as_aux_lemma=>kernel_rfl)) (by unfold Func.isWrapper;first|(rw [if_pos (by decide+kernel)];kernel_rfl)|(rw [if_neg (by decide+kernel)];exact ⟨rfl,rfl⟩))
  (fun os started H enc _ F=>by rw [OpenClaim.pre_eq_preRow];exact adL os started H enc F)
theorem plain (f:FuncId) (fn:Func) (hf:Tryz.pinned.checked.prog.funcNamed "hypercube/hypercubelaw19.TranspSwaps" =some f) (hfn:Tryz.pinned.checked.prog.funcs[f]? =some fn):
  true=Tryz.pinned.checked.prog.looks []∧ ∀ (j:Nat) t,fn.params[j]? =some t→Tryz.pinned.checked.prog.wantsStandIn t=false:=by
 obtain rfl:f=3:=Option.some.inj ((show Tryz.prog.funcNamed "hypercube/hypercubelaw19.TranspSwaps" =some 3 by kernel_rfl).symm.trans hf)|>.symm
 obtain rfl:fn=Tryz.f3:=(Option.some.inj (Tryz.func3.symm.trans hfn)).symm
 refine ⟨by kernel_rfl,fun j t ht=> ?_⟩
 rw [Tryz.params3] at ht
 have ht':t=26:=by simpa using Array.mem_of_getElem? ht
 rcases ht' with rfl
 ·exact (show Tryz.prog.wantsStandIn 26=false by kernel_rfl)
theorem transpSwaps_holds:Rows.TranspSwapsUptoCardSaid:=
 Claim7.holds_tied_plain_at .later [] _ _ _ _ ahg (fun _ h=>by cases h) (by as_aux_lemma=>kernel_rfl) (fun _ h=>by cases h) transpSwapsUpto_row_tie rfl ⟨rfl,rfl⟩ (by as_aux_lemma=>kernel_rfl) rfl plain (by as_aux_lemma=>kernel_rfl)
#print axioms transpSwaps_holds
end Go.Proofs.YtgajalidbabccaaGreatDoor
