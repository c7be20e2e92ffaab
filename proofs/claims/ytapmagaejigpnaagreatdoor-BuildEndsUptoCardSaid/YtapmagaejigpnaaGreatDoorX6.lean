/- Part 6 of a proof: the sources, with their names and remarks, lie in wip/. -/
import Derived.Test.YtapmagaejigpnaaGreatDoorX5
import Derived.Test.YtapmagaejigpnaaGreatDoorCards
import Derived.Test.YtapmagaejigpnaaGreatDoorTie
import Derived.WalkKit
import Derived.ReadAgain
import Derived.Deep.DeepHandedRow
import Derived.Lib.LaidTab
namespace Go.Proofs.YtapmagaejigpnaaGreatDoor
open Go PI Go.Shelf Go.RowKit
set_option linter.unusedVariables false
set_option linter.unusedSimpArgs false
set_option maxRecDepth 100000
def ae (o:Obj):Prop:= ∃ (cur:Array Value) (e:TypeId) (fr:Nat×Nat),o= .cells cur e fr∧ ∀j,j<Lib.deBruijn32tab.length→cur[j]? =some (.int .u8 (Lib.deBruijn32tab.getD j 0))
theorem R_ {o:Obj} (ho:ae o) {w:World} (h:w.heap[0]? =some o):TabAt 0 Lib.deBruijn32tab w:=fun j hj=>by
 obtain ⟨cur,e,fr,rfl,hc⟩:=ho
 have:=hc j hj
 simp [World.cell?,h,this]
theorem Oa (s:Int) (w:World) (hT:TabAt 0 Lib.deBruijn32tab w):Calls Tryz.prog 224 #[.int .u32 s] w fun e w'=> ∃v:Value,e= .returned v∧w'.ownsRow w.heap.size 3 1 v (dx (fj s)).length ((dx (fj s)).map dS)∧Below w.heap.size w w':=
 callsIn_wide.1 (Oc Fence.wide 5 trivial trivial trivial trivial rfl (by omega) s w hT (fun W=>callsIn_wide.2 (L3 s W)) fun x hx h0 W' hT'=>callsIn_wide.2 (Tryz.tz32 x hx h0 W' hT'))
theorem Oi (s:Int):lh s=(dx (fj s)).map fun n:Nat=>(n:Int):=by
 unfold lh dx fj
 have:(List.range 24).filter ((BitVec.ofInt 32 s).toNat&&&16777215).testBit=(List.range 24).filter fun i=>(BitVec.ofInt 32 s).getLsbD i:=List.filter_congr fun i hi=>by
  have hi:i<24:=List.mem_range.1 hi
  have h24:(16777215:Nat)=2^24-1:=by decide
  rw [Nat.testBit_and,h24,Nat.testBit_two_pow_sub_one,decide_eq_true hi,Bool.and_true];rfl
 rw [this];rfl
theorem Jp {X:Link VV Tryz.prog} {w w':World} {vs:Array Value} {N0:au} {ν:Nat→Nat} {δ:Nat→Option Nat} {args:List PU} (hg:Given X w vs N0 ν δ args []) (hb:Below w.heap.size w w'):
  Back X w w' N0 ν δ 0 args.length ν (fun _=>none) [] where
 ext:=⟨hb.os,hb.tape,hb.output,hb.size,fun b hlt _=>hb.block b hlt⟩
 le:=Nat.le_refl _
 old:=fun i h=>absurd h (Nat.not_lt_zero i)
 new:=fun i _ h=>absurd h (Nat.not_lt_zero i)
 dnew:=fun j b h=>by cases h
 bnd:={
  inj:=fun i j h=>absurd h (Nat.not_lt_zero i)
  lt:=fun i h=>absurd h (Nat.not_lt_zero i)
  dlt:=fun j b h=>by cases h
  dinj:=fun i j b h=>by cases h
  dν:=fun j b h=>by cases h
  n0:=fun b o h=>⟨Nat.lt_of_lt_of_le (hg.bnd.n0 b o h).1 hb.size,fun i h=>absurd h (Nat.not_lt_zero i),fun j h=>by cases h⟩}
 boxes:=fun k b h=>by simp at h
theorem Sk {S:Type} (o:Obj) (ho:ae o) (vs:List PU) (bs:List (Box UU)) (κ:Out UU→Option S) (x:S) (h:ws vs bs κ=some x): ∃out,bQ (LL o) Lv vs bs out∧κ out=some x:=by
 unfold ws at h
 split at h
 case h_2=>cases h
 rename_i κ y
 refine ⟨_, ?_,h⟩
 refine ⟨⟨Tryz.f224,Tryz.func224,by kernel_rfl,rfl⟩,fun w vs N0 ν δ hg=> ?_⟩
 have hs:vs.size=1:=hg.size
 have h0:=hg.args 0 _ rfl
 obtain ⟨v0,hv0⟩: ∃v0,vs= #[v0]:=by
  obtain ⟨l⟩:=vs
  match l,hs with
  |[v],_=>exact ⟨v,rfl⟩
 subst hv0
 have h0:Rep (LL o) w _ _ v0 (.int .u32 y):=h0
 cases h0
 have hT:=R_ ho (hg.glob 0 o (by simp [LL])).1
 refine (Oa y w hT).mono ?_
 rintro e w' ⟨v,rfl,hrow,hb⟩
 refine ⟨ν,fun _=>none,Jp hg hb, ?_⟩
 show Rep (LL o) w' _ _ v (.sl ET.I (lh y) .none)
 rw [Oi]
 generalize dx (fj y)=ts at hrow
 obtain ⟨hl,hr⟩:=hrow
 rcases hr with ⟨rfl,hn⟩|⟨g,cap,cur,rfl,hg0,hgb,hc,hc',hsz,htk⟩
 ·have:ts=[]:=List.length_eq_zero_iff.1 hn
  subst this
  exact .sl none 0 0 _ _ _ (fun _ _=>undef) rfl (Nat.le_refl _) trivial (fun j x hx=>by cases hx) (fun j x hx=>by cases hx)
 ·have hcell: ∀j x,(ts.map fun n:Nat=>(n:Int))[j]? =some x→cur.getD j undef= .int .i64 x∧w'.cell? ⟨g,j,none⟩=some (.int .i64 x):=by
   intro j x hx
   rw [List.getElem?_map] at hx
   cases ht:ts[j]? with
   |none=>rw [ht] at hx;cases hx
   |some n=>
    rw [ht] at hx
    injection hx with hx
    have hj:j<ts.length:=(List.getElem?_eq_some_iff.1 ht).1
    have h1:(cur.toList.take (ts.length*1))[j]? =some (dS n):=by rw [htk,List.getElem?_map,ht];rfl
    rw [List.getElem?_take_of_lt (by omega)] at h1
    have h2:cur[j]? =some (.int .i64 x):=by rw [←Array.getElem?_toList,h1,←hx];rfl
    refine ⟨?_,by simp [World.cell?,hgb,h2]⟩
    rw [Array.getD_eq_getD_getElem?,h2];rfl
  refine Rep.sl (X:=LL o) (some ⟨g,0,none⟩) ts.length cap ET.I (show List Int from ts.map fun n:Nat=>(n:Int)) .none (fun j k=>cur.getD (j+k) undef) (List.length_map _) hc trivial (fun j x hx k p hp=> ?_) (fun j x hx k p hp=> ?_)
  ·match k,hp with
   |0,hp=>
    obtain ⟨h1,h2⟩:=hcell j x hx
    refine ⟨_,rfl, ?_, ?_⟩
    ·have:(⟨g,0,none⟩:Addr).add (j*(LL o).esize ET.I+0)=⟨g,j,none⟩:=by
      rw [Addr.add_lit'];show (⟨g,0+(j*1+0),none⟩:Addr)=_;congr 1;omega
     rw [this,h2];rw [Nat.add_zero,h1]
    ·rintro (hN|⟨i,hi,_⟩|⟨i,hi⟩)
     ·have:=(hg.bnd.n0 _ _ hN).1
      simp at this;omega
     ·exact absurd hi (Nat.not_lt_zero i)
     ·cases hi
   |k+1,hp=>simp [VV,cx] at hp
  ·match k,hp with
   |0,hp=>
    obtain ⟨h1,h2⟩:=hcell j x hx
    rw [Nat.add_zero,h1]
    have:p= .int .i64 x:=by simpa [VV,cx] using hp.symm
    subst this
    exact .int _ _
   |k+1,hp=>simp [VV,cx] at hp
end Go.Proofs.YtapmagaejigpnaaGreatDoor
namespace Go.Proofs.YtapmagaejigpnaaGreatDoor
open Go PI Go.Shelf Go.RowKit Go.Sort
set_option linter.unusedVariables false
set_option linter.unusedSimpArgs false
set_option maxRecDepth 100000
def jr (a b:Int):Int:=if a<b then-1 else if b<a then 1 else 0
def fN (x y:Cl):Int:=if x.pos=y.pos then jr x.neg y.neg else jr x.pos y.pos
def dq (x:Cl):List Value:=[.int .u32 x.pos,.int .u32 x.neg]
theorem uK (a:Int) (W:World):Calls Tryz.prog 223 #[.int .u32 a] W fun e w'=>e= .returned (.bool false)∧w'=W:=by
 go_enter Tryz.func223,Tryz.ntmps223
 go_wp2
 go_ret
 exact ⟨by simp,rfl⟩
set_option maxHeartbeats 1000000 in
theorem yJ (a b:Int) (W:World):Calls Tryz.prog 196 #[.int .u32 a,.int .u32 b] W fun e w'=>e= .returned (.int .i64 (jr a b))∧w'=W:=by
 unfold jr
 by_cases h1:a<b
 ·rw [if_pos h1]
  go_enter Tryz.func196,Tryz.ntmps196
  go_wp2_with (go_at_call 223;refine (uK _ _).mono ?_;rintro e w' ⟨rfl,rfl⟩)
  go_ret
  exact ⟨rfl,rfl⟩
 ·rw [if_neg h1]
  by_cases h2:b<a
  ·rw [if_pos h2]
   go_enter Tryz.func196,Tryz.ntmps196
   go_wp2_with (go_at_call 223;refine (uK _ _).mono ?_;rintro e w' ⟨rfl,rfl⟩)
   go_ret
   exact ⟨rfl,rfl⟩
  ·rw [if_neg h2]
   go_enter Tryz.func196,Tryz.ntmps196
   go_wp2_with (go_at_call 223;refine (uK _ _).mono ?_;rintro e w' ⟨rfl,rfl⟩)
   go_ret
   exact ⟨rfl,rfl⟩
set_option maxHeartbeats 1000000 in
theorem JO (x y:Cl) (W:World):Calls Tryz.prog 152 #[.agg (dq x).toArray,.agg (dq y).toArray] W fun e w'=>e= .returned (.int .i64 (fN x y))∧ ∃q os',w'=grow (W.drewN q) os':=by
 obtain ⟨a,b⟩:=x
 obtain ⟨a',b'⟩:=y
 have h1:=yJ a a'
 have h2:=yJ b b'
 unfold fN
 simp only [dq]
 generalize jr a a'=r1 at h1 ⊢
 generalize jr b b'=r2 at h2 ⊢
 by_cases h:a=a'
 ·rw [if_pos h]
  go_enter Tryz.func152,Tryz.ntmps152
  go_wp2_with (go_at_call 196;refine (h2 _).mono ?_;rintro e w' ⟨rfl,rfl⟩)
  go_ret
  exact ⟨rfl,0,_,by rw [alloc_eq_grow,alloc_eq_grow,grow_grow];rfl⟩
 ·rw [if_neg h]
  go_enter Tryz.func152,Tryz.ntmps152
  go_wp2_with (go_at_call 196;refine (h1 _).mono ?_;rintro e w' ⟨rfl,rfl⟩)
  go_ret
  exact ⟨rfl,0,_,by rw [alloc_eq_grow,alloc_eq_grow,grow_grow];rfl⟩
theorem np (x y:Cl):ltOf fN x y=(decide (x.pos<y.pos)||(decide (x.pos=y.pos)&&decide (x.neg<y.neg))):=by
 have h:fN x y<0↔(x.pos<y.pos∨x.pos=y.pos∧x.neg<y.neg):=by
  unfold fN jr
  split<;>split<;>first|omega|(split<;>omega)
 rw [Bool.eq_iff_iff]
 simp only [ltOf,decide_eq_true_eq,Bool.or_eq_true,Bool.and_eq_true]
 exact h
theorem R2:SWO (ltOf fN) where
 irrefl x:=by rw [np];simp
 trans x y z h1 h2:=by rw [np] at*;simp at*;omega
 ntrans x y z h1 h2:=by rw [np] at*;simp at*;omega
theorem Sp (x y:Cl) (h1:ltOf fN x y=false) (h2:ltOf fN y x=false):x=y:=by
 rw [np] at*;simp at*
 obtain ⟨a,b⟩:=x
 obtain ⟨a',b'⟩:=y
 simp at*
 omega
theorem LP:(fun x y:Cl=> !ltOf fN y x)=g_:=by
 funext x y
 rw [np,Bool.eq_iff_iff]
 simp [g_]
 omega
instance:Inhabited Cl:=⟨⟨0,0⟩⟩
theorem RN (b c:Nat) (d:List Cl) (w:World) (hH:HoldsK dq 2 w b 0 d.toArray) (hb:b<w.heap.size) (hsz:d.length<4611686018427387904):
  Calls Tryz.prog 151 #[.slice (some ⟨b,0,none⟩) d.length c,.func (.func 152) #[] #[]] w fun e w'=>e= .returned (.tuple #[])∧ ∃n os,w'=sortWorldK dq 2 w b 0 n (sortCl d).toArray os:=by
 have eg: ∀args w,(callFunc 152 args).run Tryz.prog w= .ok (.enter 152 args) w:=enters_of Tryz.func152 (by kernel_rfl) rfl
 have h:=AnyQ.slices_SortFunc_total Tryz.sortCl 2 Tryz.isAgg61 Tryz.sizeOf61 dq (fun _=>rfl) (fun x v hv=>by simp [dq] at hv;rcases hv with rfl|rfl<;>rfl) fN R2 152 #[] b 0 c d.toArray w eg (fun _ _ _ _ x y=>JO x y _) hH hb hsz Sp
 rw [LP] at h
 exact h
theorem RO (p:Option Addr) (c:Nat) (w:World):Calls Tryz.prog 151 #[.slice p 0 c,.func (.func 152) #[] #[]] w fun e w'=>e= .returned (.tuple #[])∧w'=w:=
 AnyF.slices_SortFunc_none Tryz.sortCl p c _ w
theorem RM {m:Nat} {d:Array Cl} {os:Array Obj} {w:World} {b k:Nat} (hk:k<w.heap.size) (hne:k≠b):(sortWorldK dq 2 w b 0 m d os).heap[k]? =w.heap[k]? :=by
 unfold sortWorldK putRowK putRow mapBlock
 rw [heap_grow_old _ _ (by simpa [ahead] using hk)]
 show (w.heap.modify b _)[k]? =_
 rw [Array.getElem?_modify,if_neg (Ne.symm hne)]
theorem RL {m:Nat} {d:Array Cl} {os:Array Obj} {w:World} {b:Nat} {cur:Array Value} {e:TypeId} {fr:Nat×Nat} (h:w.heap[b]? =some (.cells cur e fr)):
  (sortWorldK dq 2 w b 0 m d os).heap[b]? =some (.cells (putCells id 0 (flatK dq 2 d) cur) e fr):=by
 have hb:b<w.heap.size:=(Array.getElem?_eq_some_iff.1 h).1
 unfold sortWorldK putRowK putRow mapBlock
 rw [heap_grow_old _ _ (by simpa [ahead] using hb)]
 show (w.heap.modify b _)[b]? =_
 rw [Array.getElem?_modify,if_pos rfl,h];rfl
theorem JM (x:Cl) {k:Nat} {p:PU} (hp:(cx .C x)[k]? =some p):k<2∧ ∀ (X:Link VV Tryz.prog) (w:World) (N:au) (g:Gh UU),Rep X w N g (dq x)[k]! p:=by
 match k,hp with
 |0,hp=>cases hp;exact ⟨by omega,fun X w N g=> .int _ _⟩
 |1,hp=>cases hp;exact ⟨by omega,fun X w N g=> .int _ _⟩
 |k+2,hp=>simp [cx] at hp
theorem LW {w:World} {b c:Nat} {l:List Cl} {cur:Array Value} {e:TypeId} (hb:w.heap[b]? =some (.cells cur e (0,0))) (hs:cur.size=c*2) (hl:l.length≤c) (h: ∀ (j:Nat) (x:Cl),l[j]? =some x→ ∀k,k<2→w.cell? ⟨b,j*2+k,none⟩=some (dq x)[k]!):HoldsK dq 2 w b 0 l.toArray:=by
 intro t ht
 rw [size_flatK] at ht
 have ht':t<l.length*2:=by simpa using ht
 have hj:t/2<l.length:=by omega
 have hx:l[t/2]? =some l.toArray[t/2]! :=by simp [hj]
 refine ⟨?_, ?_⟩
 ·rw [get_flatK _ _ _ _ ht]
  have:=h _ _ hx (t%2) (Nat.mod_lt _ (by omega))
  rw [Nat.zero_add]
  rw [show t/2*2+t%2=t by omega] at this
  exact this
 ·simp [World.frozen?,hb]
theorem L5 {f:Nat} {ps:List PU} {l l':List Cl} (h:uH f ps l=some l'):f=151∧ps=[.func 152 [] []]∧l'=sortCl l:=by
 unfold uH at h
 split at h
 ·injection h with h
  exact ⟨rfl,rfl,h.symm⟩
 ·cases h
theorem uJ (o:Obj):g5 (LL o):=by
 intro f ps e l l' h
 have hi:zZ f ps e l=some l':=h
 clear h
 cases e with
 |T=>cases hi
 |B=>cases hi
 |I=>cases hi
 |F=>cases hi
 |C=>
 obtain ⟨rfl,rfl,rfl⟩:=L5 hi
 refine ⟨⟨Tryz.f151,Tryz.func151,by kernel_rfl,rfl⟩,fun w vs N0 δ hg hδ=> ?_⟩
 have hs:vs.size=2:=hg.size
 obtain ⟨v0,v1,rfl⟩: ∃v0 v1,vs= #[v0,v1]:=by
  obtain ⟨l⟩:=vs
  match l,hs with
  |[v,v'],_=>exact ⟨v,v',rfl⟩
 have h0:ObOK (LL o) w (NB N0 0 (fun _=>0) δ) (gB UU 0 fun _=>0) ET.C l v0 .wr (δ 0):=hg.args 0 _ rfl
 have h1:Rep (LL o) w (NB N0 0 (fun _=>0) δ) (gB UU 0 fun _=>0) v1 (.func 152 [] []):=hg.args 1 _ rfl
 cases h1 with
 |func _ _ _ xs ys ha hb _ _=>
 have ha':xs= #[]:=by simpa using ha
 have hb':ys= #[]:=by simpa using hb
 subst ha';subst hb'
 obtain ⟨A,n,c,rfl,hl,hc,hcell,hm⟩:=h0.val
 have hl: @List.length Cl l=n:=hl
 cases hD:δ 0 with
 |none=>
  rw [hD] at hm hcell
  obtain ⟨rfl,rfl,rfl⟩:=hm.1 rfl
  have:l=([]:List Cl):=List.length_eq_zero_iff.1 hl
  subst this
  refine (RO none 0 w).mono ?_
  rintro e w' ⟨rfl,rfl⟩
  refine ⟨rfl,.refl _ _, ?_⟩
  rw [hD] at h0
  have:sortCl []=[]:=by simp [sortCl]
  rw [this]
  exact h0
 |some b=>
  rw [hD] at hm hcell
  obtain ⟨hu,cur,rfl,hblk,hsz,hmax⟩:=hm
  have hbl:b<w.heap.size:=(Array.getElem?_eq_some_iff.1 hblk).1
  have hcs:cur.size=c*2:=hsz
  have hH:HoldsK dq 2 w b 0 l.toArray:=LW hblk hcs (hl▸hc) fun j x hx k hk=>by
   have hp: ∃p,(cx ET.C x)[k]? =some p∧p= .int .u32 (if k=0 then x.pos else x.neg):=by
    match k,hk with
    |0,_=>exact ⟨_,rfl,rfl⟩
    |1,_=>exact ⟨_,rfl,rfl⟩
   obtain ⟨p,hp,hpe⟩:=hp
   obtain ⟨a,v,ha,hv,hr,_⟩:=hcell j x hx k p hp
   injection ha with ha
   subst ha
   subst hpe
   have hv':w.cell? ⟨b,j*2+k,none⟩=some v:=by
    have:(⟨b,0,none⟩:Addr).add (j*(LL o).esize ET.C+k)=⟨b,j*2+k,none⟩:=by
     rw [Addr.add_lit'];show (⟨b,0+(j*2+k),none⟩:Addr)=_;congr 1;omega
    rw [this] at hv;exact hv
   rw [hv']
   cases hr
   match k,hk with
   |0,_=>rfl
   |1,_=>rfl
  have hlt: @List.length Cl l<4611686018427387904:=by
   have:n≤1099511627776:=hmax.2
   omega
  have hcall:=RN b c l w hH hbl hlt
  have he:(.slice (some ⟨b,0,none⟩) (@List.length Cl l) c:Value)= .slice (some ⟨b,0,none⟩) n c:=by rw [hl]
  rw [he] at hcall
  refine hcall.mono ?_
  rintro e w' ⟨rfl,m,os,rfl⟩
  have hlen:(sortCl l).length= @List.length Cl l:=List.length_mergeSort _
  have hH':=holdsK_sortWorldK_c dq 2 w b 0 l.toArray (sortCl l).toArray m os hH hbl hlen
  refine ⟨rfl,⟨rfl,rfl,rfl,size_sortWorldK_c dq 2 w b 0 m _ os,fun k hk hne=>RM hk fun e=>hne ?_⟩, ?_⟩
  ·subst e
   exact List.mem_append_right _ (List.mem_filterMap.2 ⟨0,by simp,hD⟩)
  ·refine ⟨_,n,c,rfl,hlen.trans hl,hc,fun j x hx k p hp=> ?_, ?_⟩
   ·obtain ⟨hk,hrep⟩:=JM x hp
    have hj:j<(sortCl l).length:=(List.getElem?_eq_some_iff.1 hx).1
    have:=(hH'.cell (i:=j) (c:=k) (by simpa using hj) hk).1
    have he:(sortCl l).toArray[j]! =x:=by
     have:=List.getElem?_eq_some_iff.1 hx
     rw [getElem!_pos _ j (by simpa using hj)];exact this.2
    rw [he] at this
    refine ⟨_,_,rfl, ?_,hrep _ _ _ _,fun h=>by cases h⟩
    have e:(⟨b,0,none⟩:Addr).add (j*(LL o).esize ET.C+k)=⟨b,0+j*2+k,none⟩:=by
     rw [Addr.add_lit'];show (⟨b,0+(j*2+k),none⟩:Addr)=_;congr 1;omega
    show World.cell? _ (Addr.add _ _)=_
    rw [e];exact this
   ·exact ⟨hu,_,rfl,RL hblk,by simp [putCells];exact hcs,hmax⟩
end Go.Proofs.YtapmagaejigpnaaGreatDoor
namespace Go.Proofs.YtapmagaejigpnaaGreatDoor
open Go PI Go.ChangeShapes Go.WideShapes Go.ChangeAt Go.RowKit
set_option linter.unusedVariables false
set_option linter.unusedSimpArgs false
set_option maxRecDepth 100000
theorem own:ownKnob Tryz.prog.godebug=none:=by kernel_rfl
theorem zM:Tryz.prog.globalNamed "math/bits.deBruijn32tab" =some 0:=by kernel_rfl
section
variable {H:Type} {enc:TypeId×Value→H}
structure Kept (W W':World):Prop where
 os:W'.os=W.os
 output:W'.output=W.output
 size:W.heap.size≤W'.heap.size
 block: ∀b,b<W.heap.size→W'.heap[b]? =W.heap[b]?
theorem Kept.sameAt {W W':World} (h:Kept W W') {p:MemPlace} (hp:p.block<W.heap.size):W.sameAt W' p:=by
 cases p with
 |cell b o=>simp only [World.sameAt,World.cell?];rw [h.block b hp]
 |map b=>exact h.block b hp
theorem Kept.kept {W W':World} (h:Kept W W') (may:MemPlace→Prop):W.keptBut W' may:=by
 refine ⟨h.os,h.output,fun i hi=> ?_⟩
 rw [h.block i hi]
 cases W.heap[i]? with
 |none=>rfl
 |some o=>cases o with
  |cells c t fr=>exact ⟨rfl,rfl,rfl,fun _ _=>rfl⟩
  |map es clock=>exact .inr ⟨rfl,rfl⟩
  |_=>rfl
theorem yg {W W':World} {sp:Nat→Bool} {held:Bool}: ∀ {ts:List TypeId} {vs:List Value} {ds:List (DataW H)} {ps:List MemPlace},
  DataW.TrodAll enc Tryz.prog W 0 sp held ts vs ds ps→(∀p∈ps,W.sameAt W' p)→DataW.TrodAll enc Tryz.prog W' 0 sp held ts vs ds ps
 |[],[],[],_,h,_=>h
 |_::_,_::_,_::_,_,⟨p,q,⟨n,h1⟩,h2,e⟩,hs=>
  ⟨p,q,⟨n,DataW.trod_carry n _ _ _ h1 fun x hx=>hs x (by rw [e];exact List.mem_append_left _ hx)⟩,yg h2 (fun x hx=>hs x (by rw [e];exact List.mem_append_right _ hx)),e⟩
theorem kids:Kids Tryz.prog (· <Tryz.prog.types.size):=kids_rows (by kernel_rfl) (by kernel_rfl)
theorem full: ∀t e,t<Tryz.prog.types.size→Tryz.prog.underlying t=some (.slice e)→0<Tryz.prog.cellsOf e:=slices_full_of Tryz.prog (by kernel_rfl)
theorem Pj {f:Func} {s:ChangeSpec} (hv:s.vars=[]) {cE fresh handsOn again:Bool} {W W':World} {args:Array Value} {ds gs:List (DataW H)} {before:List MemPlace} (hf:f.resultTypes= #[4])
  (hT: ∀t∈f.params.toList,t<Tryz.prog.types.size) (hs:s.fn H ds={results:=[.lit (.bool true)],args:=ds})
  (hW:DataW.Whole enc Tryz.prog f.params.toList s.vars cE W args.toList ds gs before) (hk:Kept W W'):s.post enc Tryz.prog f cE fresh handsOn again W args (.bool true) W':=by
 have hold: ∀p∈before,(fun b=>decide (b<W.heap.size)) p.block=true:=fun p hp=>by simpa using hW.lt p hp
 have hlt: ∀p∈before,p.block<W.heap.size:=fun p hp=>by simpa using hW.lt p hp
 have hW0:=hW
 obtain ⟨p,q,hA,hV,rfl,hz,hn⟩:=hW
 rw [hv] at hV
 obtain ⟨rfl,rfl⟩:=trodVars_none hV
 rw [List.append_nil] at hold hlt hz hn hW0
 have hs':s.fn H (ds++[])={results:=[.lit (.bool true)],args:=ds}:=by rw [List.append_nil];exact hs
 have hr:(Value.bool true).resultList f.resultTypes.size=[.bool true]:=by rw [hf];rfl
 have hres: ∀ (b:Nat) (sp:Nat→Bool) (hd:Bool),DataW.TrodAll enc Tryz.prog W' b sp hd f.resultTypes.toList ((Value.bool true).resultList f.resultTypes.size) (s.fn H (ds++[])).results []:=fun b sp hd=>by
  rw [hr,hs',hf]
  exact trodAll_cons_mk (shut_bool Tryz.underlying4 _) trodAll_mk0
 have hargs: ∀sp:Nat→Bool,(∀p'∈p,sp p'.block=true)→DataW.TrodAll enc Tryz.prog W' 0 sp true f.params.toList args.toList (s.fn H (ds++[])).args p:=fun sp hsp=>by
  rw [hs']
  exact DataW.TrodAll.respare kids full hT (yg hA fun x hx=>hk.sameAt (hlt x hx)) hsp
 have hvars: ∀sp:Nat→Bool,DataW.TrodVars enc Tryz.prog W' sp s.vars (s.fn H (ds++[])).vars []:=fun sp=>by rw [hv,hs'];rfl
 refine ⟨ds,[],p,[],p,[],hW0,hres _ _ _,hargs _ hold,hvars _,World.keptBut_mono (fun p' hp=>hp.elim) (hk.kept fun _=>False),fun _=> ?_⟩
 refine ⟨fun j t r h1 h2=> ?_,_,_,([]++p)++[],⟨[]++p,[],trodAll_append (hargs _ (fun _ _=>rfl)) (hres _ _ _),hvars _,rfl, ?_, ?_⟩, ?_⟩
 ·rw [hf] at h1
  rw [hr] at h2
  match j,h1,h2 with
  |0,h1,h2=>cases h1;cases h2;exact okWide_bool_mk Tryz.underlying4 _
  |j+1,h1,h2=>simp at h2
 ·intro b off hp
  have hp':MemPlace.cell b off∈p:=by simpa using hp
  have:=hz b off hp'
  simp only [World.frozen?] at this ⊢
  rw [hk.block b (hlt _ hp')]
  exact this
 ·intro ha
  have:=hn ha
  simpa using this
 ·intro p' hp _
  simpa using hp
variable {w:World} {spare:Nat→Bool} {held:Bool} {o:Obj} {N:au} {g:Gh UU}
theorem I8 {v:Value} {n:Nat} (h:v.cells.toList.length=n+2): ∃vs:Array Value,v= .agg vs∧vs.toList=v.cells.toList:=by
 cases v with
 |agg vs=>exact ⟨vs,rfl,rfl⟩
 |_=>simp [Value.cells] at h
theorem yl (hN: ∀b o,¬N b o) {v:Value} {d:DataW H} {ps:List MemPlace} (h:DataW.Trod enc Tryz.prog w 0 spare held 26 v d ps): ∃t:Tm,Rep (LL o) w N g v (.agg (cx ET.T t))∧QT t d:=by
 obtain ⟨n,hn⟩:=h
 obtain ⟨t,hr,hq⟩:=(Pa (o:=o) (g:=g) hN n).1 _ _ _ hn
 obtain ⟨_,_,_,_,hl,_,_⟩:=DataW.trod_struct Tryz.underlying26 hn
 have hl6:v.cells.toList.length=6:=hl.trans (by kernel_rfl)
 obtain ⟨vs,rfl,hvs⟩:=I8 (n:=4) hl6
 refine ⟨t,Rep.agg (X:=LL o) vs (cx ET.T t) (by rw [←Array.length_toList,hvs,hl6];rfl) fun j p hp=> ?_,hq⟩
 obtain ⟨v',hv',hr'⟩:=hr j p hp
 have:vs.getD j undef=v':=by
  have h2:vs[j]? =some v':=by rw [←Array.getElem?_toList,hvs];exact hv'
  rw [Array.getD_eq_getD_getElem?,h2];rfl
 rw [this];exact hr'
theorem Jk (hN: ∀b o,¬N b o) {W:World} {base:Nat} {v:Value} {d:DataW H} {ps:List MemPlace} (hv:Value.okWide Tryz.prog W .any base 22 v) (h:DataW.Trod enc Tryz.prog w 0 spare held 22 v d ps):
  ∃l:List Cl,Rep (LL o) w N g v (dw l .none)∧ai l∧l.length+1≤Rows.uptoBulk d:=by
 obtain ⟨a,len,cap,rfl⟩:=okWide_slice Tryz.underlying22 hv
 obtain ⟨n,hn⟩:=h
 obtain ⟨c,l,hc,hr,hq⟩:=vv (o:=o) (g:=g) hN hn
 obtain rfl:c= .slice a len cap:=by simpa [Value.cells] using hc.symm
 exact ⟨l,hr,hq⟩
theorem LR {o:Obj} {W:World} (h0:W.heap[0]? =some o) {vs:Array Value} {ps:List PU} (hs:vs.size=ps.length) (hp:ps.all PV.notFresh=true)
  (h: ∀ (j:Nat) p,ps[j]? =some p→Rep (LL o) W (NB (fun _ _=>False) 0 (fun _=>0) fun _=>none) (gB UU 0 fun _=>0) (vs.getD j undef) p):Given (LL o) W vs (fun _ _=>False) (fun _=>0) (fun _=>none) ps [] where
 bnd:=⟨fun i j hi=>absurd hi (Nat.not_lt_zero i),fun i hi=>absurd hi (Nat.not_lt_zero i),fun j b h=>(by cases h),fun i j b h=>(by cases h),fun j b h=>(by cases h),fun b o h=>h.elim⟩
 size:=hs
 dom:=fun j b h=>by cases h
 glob:=fun b o' hb=>by
  simp [LL] at hb
  obtain ⟨rfl,rfl⟩:=hb
  exact ⟨h0,fun i hi=>absurd hi (Nat.not_lt_zero i),fun j h=>by cases h⟩
 args:=fun j p hj=>RepG.of (h j p hj)
 boxes:=fun k b h=>by simp at h
theorem vq: ∀b o,¬NB (fun _ _=>False) 0 (fun _=>0) (fun _=>none) b o:=by
 rintro b o (h|⟨k,hk,_⟩|⟨j,h⟩)
 ·exact h
 ·exact absurd hk (Nat.not_lt_zero k)
 ·cases h
theorem JD {o:Obj} {f:FuncId} {ps:List PU} (hok:bQ (LL o) f ps [] (.ret (.bool true) [])) {W:World} {vs:Array Value} (hg:Given (LL o) W vs (fun _ _=>False) (fun _=>0) (fun _=>none) ps []):
  Calls Tryz.prog f vs W fun e W'=>e= .returned (.bool true)∧Kept W W':=by
 refine (hok.2 W vs _ _ _ hg).mono ?_
 rintro e W' he
 cases e with
 |returned rv=>
  obtain ⟨ν',δ',hb,hr⟩:=he
  have hr:Rep (LL o) W' _ _ rv (.bool true):=hr
  cases hr
  refine ⟨rfl,hb.ext.os,hb.ext.output,hb.ext.size,fun b hb'=>hb.ext.block b hb' fun hm=> ?_⟩
  simp [jS] at hm
 |panicked ch=>exact he.elim
 |outgrown=>exact he.elim
theorem Sa {H:Type}:(Rows.laid_math_bits_deBruijn32tab:DataW H)=Lib.tabData .u8 (Lib.deBruijn32tab.map fun n:Nat=>(n:Int)):=rfl
theorem Sb {W:World} (h:laidMetH Tryz.prog [("math/bits.deBruijn32tab",Rows.laid_math_bits_deBruijn32tab)] W): ∃o,ae o∧W.heap[0]? =some o:=by
 have h':laidMet Tryz.prog [("math/bits.deBruijn32tab",Rows.laid_math_bits_deBruijn32tab)] W:=h
 rw [Sa] at h'
 have ht:Lib.TabIs Tryz.prog W "math/bits.deBruijn32tab" .u8 (Lib.deBruijn32tab.map fun n:Nat=>(n:Int)):=
  Lib.tabIs_of_head (rest:=[]) zM (by kernel_rfl) Tryz.underlying205 Tryz.underlying5 (by kernel_rfl) (by kernel_rfl) h'
 have hc: ∀j,j<Lib.deBruijn32tab.length→W.cell? ⟨0,j,none⟩=some (.int .u8 (Lib.deBruijn32tab.getD j 0:Nat)):=fun j hj=>by
  rw [ht.cell zM j (by simpa using hj)]
  simp [List.getD,hj]
 have h0:=hc 0 (by decide)
 cases hh:W.heap[0]? with
 |none=>simp [World.cell?,hh] at h0
 |some o=>
  cases o with
  |cells cur e fr=>
   refine ⟨_,⟨cur,e,fr,rfl,fun j hj=> ?_⟩,rfl⟩
   have:=hc j hj
   simpa [World.cell?,hh] using this
  |_=>simp [World.cell?,hh] at h0
end
end Go.Proofs.YtapmagaejigpnaaGreatDoor
namespace Go.Proofs.YtapmagaejigpnaaGreatDoor
open Go PI
set_option linter.unusedVariables false
set_option linter.unusedSimpArgs false
set_option maxRecDepth 100000
noncomputable section
abbrev Rw (S:Type):=List PU→List (Box UU)→(Out UU→Option S)→Option S
abbrev Kn (S:Type):=(Out UU→Option S)→Option S
noncomputable def iI (n:Int):PU:= .int .i64 n
noncomputable def iU (n:Int):PU:= .int .u32 n
noncomputable def pt (i:Nat):PU:= .ptr i 0
noncomputable def aT (t:Tm):PU:= .agg [.int .i64 t.kind,.int .i64 t.n,.str t.name,dw t.r .none,gi t.kids .none,gh t.sys .none]
noncomputable def aC (c:Cl):PU:= .agg [.int .u32 c.pos,.int .u32 c.neg]
noncomputable def bT (t:Tm):Box UU:= .cells [.int .i64 t.kind,.int .i64 t.n,.str t.name,dw t.r .none,gi t.kids .none,gh t.sys .none]
noncomputable def bC (c:Cl):Box UU:= .cells [.int .u32 c.pos,.int .u32 c.neg]
noncomputable def bI (n:Int):Box UU:= .cells [.int .i64 n]
noncomputable def bb (b:Bool):Box UU:= .cells [.bool b]
noncomputable def sC (l:List Cl):PU:=dw l .none
noncomputable def sT (l:List Tm):PU:=gi l .none
noncomputable def sB (l:List (Br Tm)):PU:=gh l .none
structure Cd where
 D:Type→Type
 k:{ρ:Type}→ρ→D ρ
 dec:{ρ:Type}→D ρ→PU→Option ρ
 A:{ρ:Type}→D ρ→(PU→ρ→Prop)→Prop
 law: ∀ {ρ:Type} (f:D ρ) (v:PU) (r:ρ) (Q:PU→ρ→Prop),A f Q→dec f v=some r→Q v r
structure Cs where
 D:Type→Type
 n:Nat
 k:{ρ:Type}→ρ→D ρ
 dec:{ρ:Type}→D ρ→List PU→Option ρ
 A:{ρ:Type}→D ρ→(List PU→ρ→Prop)→Prop
 law: ∀ {ρ:Type} (f:D ρ) (v:List PU) (r:ρ) (Q:List PU→ρ→Prop),A f Q→dec f v=some r→Q v r
 len: ∀ {ρ:Type} (f:D ρ) (v:List PU) (r:ρ),dec f v=some r→v.length=n
structure Bs where
 D:Type→Type
 n:Nat
 k:{ρ:Type}→ρ→D ρ
 dec:{ρ:Type}→D ρ→List (Box UU)→Option ρ
 A:{ρ:Type}→D ρ→(List (Box UU)→ρ→Prop)→Prop
 law: ∀ {ρ:Type} (f:D ρ) (v:List (Box UU)) (r:ρ) (Q:List (Box UU)→ρ→Prop),A f Q→dec f v=some r→Q v r
 len: ∀ {ρ:Type} (f:D ρ) (v:List (Box UU)) (r:ρ),dec f v=some r→v.length=n
noncomputable def cn:Cs where
 D ρ:=ρ
 n:=0
 k r:=r
 dec f:=fun|[]=>some f|_=> .none
 A f Q:=Q [] f
 law f v r Q h e:=by split at e<;>cases e;exact h
 len f v r e:=by split at e<;>cases e;rfl
noncomputable def cc (c:Cd) (s:Cs):Cs where
 D ρ:=c.D (s.D ρ)
 n:=s.n+1
 k r:=c.k (s.k r)
 dec f:=fun|v::l=>(c.dec f v).bind fun g=>s.dec g l|[]=> .none
 A f Q:=c.A f fun v g=>s.A g fun l r=>Q (v::l) r
 law f v r Q h e:=by
  split at e
  ·obtain ⟨g,h1,h2⟩:=Option.bind_eq_some_iff.1 e
   have:=s.law g _ r _ (c.law f _ g _ h h1) h2;exact this
  ·cases e
 len f v r e:=by
  split at e
  ·obtain ⟨g,h1,h2⟩:=Option.bind_eq_some_iff.1 e
   simp [s.len g _ r h2]
  ·cases e
noncomputable def xn:Bs where
 D ρ:=ρ
 n:=0
 k r:=r
 dec f:=fun|[]=>some f|_=> .none
 A f Q:=Q [] f
 law f v r Q h e:=by split at e<;>cases e;exact h
 len f v r e:=by split at e<;>cases e;rfl
noncomputable def xc (c:Cs) (s:Bs):Bs where
 D ρ:=c.D (s.D ρ)
 n:=s.n+1
 k r:=c.k (s.k r)
 dec f:=fun| .cells v::l=>(c.dec f v).bind fun g=>s.dec g l|_=> .none
 A f Q:=c.A f fun v g=>s.A g fun l r=>Q (.cells v::l) r
 law f v r Q h e:=by
  split at e
  ·obtain ⟨g,h1,h2⟩:=Option.bind_eq_some_iff.1 e
   have:=s.law g _ r _ (c.law f _ g _ h h1) h2;exact this
  ·cases e
 len f v r e:=by
  split at e
  ·obtain ⟨g,h1,h2⟩:=Option.bind_eq_some_iff.1 e
   simp [s.len g _ r h2]
  ·cases e
noncomputable def cI:Cd where
 D ρ:=Int→ρ
 k r:=fun _=>r
 dec f:=fun| .int .i64 n=>some (f n)|_=> .none
 A f Q:= ∀n:Int,Q (iI n) (f n)
 law f v r Q h e:=by split at e<;>cases e;exact h _
noncomputable def cU:Cd where
 D ρ:=Int→ρ
 k r:=fun _=>r
 dec f:=fun| .int .u32 n=>some (f n)|_=> .none
 A f Q:= ∀n:Int,Q (iU n) (f n)
 law f v r Q h e:=by split at e<;>cases e;exact h _
noncomputable def cN (kd:IntKind):Cd where
 D ρ:=Int→ρ
 k r:=fun _=>r
 dec f:=fun| .int q n=>(match decEq q kd with| .isTrue _=>some (f n)| .isFalse _=> .none)|_=> .none
 A f Q:= ∀n:Int,Q (.int kd n) (f n)
 law f v r Q h e:=by
  split at e
  ·split at e
   ·rename_i hq _;subst hq;cases e;exact h _
   ·cases e
  ·cases e
noncomputable def cb:Cd where
 D ρ:=Bool→ρ
 k r:=fun _=>r
 dec f:=fun| .bool n=>some (f n)|_=> .none
 A f Q:= ∀n:Bool,Q (.bool n) (f n)
 law f v r Q h e:=by split at e<;>cases e;exact h _
noncomputable def cs:Cd where
 D ρ:=ByteArray→ρ
 k r:=fun _=>r
 dec f:=fun| .str n=>some (f n)|_=> .none
 A f Q:= ∀n:ByteArray,Q (.str n) (f n)
 law f v r Q h e:=by split at e<;>cases e;exact h _
noncomputable def lC:Cd where
 D ρ:=List Cl→ρ
 k r:=fun _=>r
 dec f:=fun| .sl .C n .none=>some (f n)|_=> .none
 A f Q:= ∀n:List Cl,Q (sC n) (f n)
 law f v r Q h e:=by split at e<;>cases e;exact h _
noncomputable def lT:Cd where
 D ρ:=List Tm→ρ
 k r:=fun _=>r
 dec f:=fun| .sl .T n .none=>some (f n)|_=> .none
 A f Q:= ∀n:List Tm,Q (sT n) (f n)
 law f v r Q h e:=by split at e<;>cases e;exact h _
noncomputable def lB:Cd where
 D ρ:=List (Br Tm)→ρ
 k r:=fun _=>r
 dec f:=fun| .sl .B n .none=>some (f n)|_=> .none
 A f Q:= ∀n:List (Br Tm),Q (sB n) (f n)
 law f v r Q h e:=by split at e<;>cases e;exact h _
noncomputable def lI:Cd where
 D ρ:=List Int→ρ
 k r:=fun _=>r
 dec f:=fun| .sl .I n .none=>some (f n)|_=> .none
 A f Q:= ∀n:List Int,Q (j5 n .none) (f n)
 law f v r Q h e:=by split at e<;>cases e;exact h _
noncomputable def lF:Cd where
 D ρ:=List (List Cl)→ρ
 k r:=fun _=>r
 dec f:=fun| .sl .F n .none=>some (f n)|_=> .none
 A f Q:= ∀n:List (List Cl),Q (sq n .none) (f n)
 law f v r Q h e:=by split at e<;>cases e;exact h _
noncomputable def hC:Cd where
 D ρ:=List Cl→ρ
 k r:=fun _=>r
 dec f:=fun| .fresh .C n=>some (f n)|_=> .none
 A f Q:= ∀n:List Cl,Q (uy n) (f n)
 law f v r Q h e:=by split at e<;>cases e;exact h _
noncomputable def cT:Cd where
 D ρ:=Tm→ρ
 k r:=fun _=>r
 dec f:=fun| .agg [.int .i64 a,.int .i64 b,.str c,.sl .C d .none,.sl .T e .none,.sl .B g .none]=>some (f (Tm.mk a b c d e g))|_=> .none
 A f Q:= ∀t:Tm,Q (aT t) (f t)
 law f v r Q h e:=by split at e<;>cases e;exact h (Tm.mk _ _ _ _ _ _)
noncomputable def cC:Cd where
 D ρ:=Cl→ρ
 k r:=fun _=>r
 dec f:=fun| .agg [.int .u32 a,.int .u32 b]=>some (f ⟨a,b⟩)|_=> .none
 A f Q:= ∀t:Cl,Q (aC t) (f t)
 law f v r Q h e:=by split at e<;>cases e;exact h (⟨_,_⟩)
noncomputable def xT (s:Bs):Bs where
 D ρ:=Tm→s.D ρ
 n:=s.n+1
 k r:=fun _=>s.k r
 dec f:=fun| .cells [.int .i64 a,.int .i64 b,.str c,.sl .C d .none,.sl .T e .none,.sl .B g .none]::l=>s.dec (f (Tm.mk a b c d e g)) l|_=> .none
 A f Q:= ∀t:Tm,s.A (f t) fun l r=>Q (bT t::l) r
 law f v r Q h e:=by
  split at e
  ·have:=s.law _ _ r _ (h (Tm.mk _ _ _ _ _ _)) e;exact this
  ·cases e
 len f v r e:=by
  split at e
  ·simp [s.len _ _ r e]
  ·cases e
noncomputable def xC (s:Bs):Bs where
 D ρ:=Cl→s.D ρ
 n:=s.n+1
 k r:=fun _=>s.k r
 dec f:=fun| .cells [.int .u32 a,.int .u32 b]::l=>s.dec (f ⟨a,b⟩) l|_=> .none
 A f Q:= ∀t:Cl,s.A (f t) fun l r=>Q (bC t::l) r
 law f v r Q h e:=by
  split at e
  ·have:=s.law _ _ r _ (h (⟨_,_⟩)) e;exact this
  ·cases e
 len f v r e:=by
  split at e
  ·simp [s.len _ _ r e]
  ·cases e
noncomputable def xI (s:Bs):Bs where
 D ρ:=Int→s.D ρ
 n:=s.n+1
 k r:=fun _=>s.k r
 dec f:=fun| .cells [.int .i64 a]::l=>s.dec (f a) l|_=> .none
 A f Q:= ∀t:Int,s.A (f t) fun l r=>Q (bI t::l) r
 law f v r Q h e:=by
  split at e
  ·have:=s.law _ _ r _ (h _) e;exact this
  ·cases e
 len f v r e:=by
  split at e
  ·simp [s.len _ _ r e]
  ·cases e
noncomputable def cp (i:Nat):Cd where
 D ρ:=ρ
 k r:=r
 dec f:=fun| .ptr j 0=>(match decEq j i with| .isTrue _=>some f| .isFalse _=> .none)|_=> .none
 A f Q:=Q (pt i) f
 law f v r Q h e:=by
  split at e
  ·split at e
   ·rename_i hq _;subst hq;cases e;exact h
   ·cases e
  ·cases e
noncomputable def cg (s:Cs):Cd where
 D ρ:=s.D ρ
 k r:=s.k r
 dec f:=fun| .agg l=>s.dec f l|_=> .none
 A f Q:=s.A f fun l r=>Q (.agg l) r
 law f v r Q h e:=by
  split at e
  ·have:=s.law f _ r _ h e;exact this
  ·cases e
noncomputable def cf (i:Nat) (s:Cs) (u:Cs):Cd where
 D ρ:=s.D (u.D ρ)
 k r:=s.k (u.k r)
 dec f:=fun| .func j l m=>(match decEq j i with| .isTrue _=>(s.dec f l).bind fun g=>u.dec g m| .isFalse _=> .none)|_=> .none
 A f Q:=s.A f fun l g=>u.A g fun m r=>Q (.func i l m) r
 law f v r Q h e:=by
  split at e
  ·split at e
   ·rename_i hq _
    subst hq
    obtain ⟨g,h1,h2⟩:=Option.bind_eq_some_iff.1 e
    have:=u.law g _ r _ (s.law f _ g _ h h1) h2;exact this
   ·cases e
  ·cases e
noncomputable def af {S:Type} (K:Cs) (B:Bs) (F:K.D (B.D (Kn S))):Rw S:=fun vs bs κ=>(K.dec F vs).bind fun g=>(B.dec g bs).bind fun h=>h κ
noncomputable def m_ (K:Cs) (B:Bs) (vs:List PU) (bs:List (Box UU)):Bool:=((K.dec (K.k (B.k ())) vs).bind fun g=>B.dec g bs).isSome
noncomputable def AA {S:Type} (K:Cs) (B:Bs) (F:K.D (B.D (Kn S))) (Q:List PU→List (Box UU)→Kn S→Prop):Prop:=K.A F fun vs g=>B.A g fun bs h=>Q vs bs h
theorem vn {S:Type} {K:Cs} {B:Bs} {F:K.D (B.D (Kn S))} {Q:List PU→List (Box UU)→Kn S→Prop} (hA:AA K B F Q) {vs:List PU} {bs:List (Box UU)} {κ:Out UU→Option S} {x:S} (h:af K B F vs bs κ=some x):
  ∃g,Q vs bs g∧g κ=some x∧vs.length=K.n∧bs.length=B.n:=by
 obtain ⟨g,h1,h2⟩:=Option.bind_eq_some_iff.1 h
 obtain ⟨u,h3,h4⟩:=Option.bind_eq_some_iff.1 h2
 have:=K.law F vs g _ hA h1
 have:=B.law g bs u _ this h3
 exact ⟨u,this,h4,K.len _ _ _ h1,B.len _ _ _ h3⟩
noncomputable def Tl {S:Type} (o:Obj) (f:Nat) (r:Rw S):Prop:= ∀vs bs κ x,r vs bs κ=some x→ ∃out,bQ (LL o) f vs bs out∧κ out=some x
noncomputable def nE {S:Type}:List (Nat×Rw S)→Oracle UU S
 |[],_,_,_,_=> .none
 |(g,r)::l,f,vs,bs,κ=>bif Nat.beq f g then r vs bs κ else nE l f vs bs κ
noncomputable def TA {S:Type} (o:Obj):List (Nat×Rw S)→Prop
 |[]=>True
 |(f,r)::l=>Tl o f r∧TA o l
theorem TA.tells {S:Type} {o:Obj}: ∀ {l:List (Nat×Rw S)},TA o l→(nE l).Tells (bQ (LL o))
 |[],_,f,vs,bs,κ,x,h=>by cases h
 |(g,r)::l,hl,f,vs,bs,κ,x,h=>by
  unfold nE at h
  cases hb:Nat.beq f g with
  |true=>
   rw [hb] at h
   have:=Nat.eq_of_beq_eq_true hb
   subst this
   exact hl.1 _ _ _ _ h
  |false=>
   rw [hb] at h
   exact TA.tells hl.2 _ _ _ _ _ h
noncomputable def jW {S:Type} (b:List PU→List (Box UU)→Bool) (r q:Rw S):Rw S:=fun vs bs κ=>bif b vs bs then r vs bs κ else q vs bs κ
theorem nJ {S:Type} {o:Obj} {f:Nat} {b:List PU→List (Box UU)→Bool} {r q:Rw S} (h1:Tl o f r) (h2:Tl o f q):Tl o f (jW b r q):=fun vs bs κ x h=>by
 unfold jW at h
 rcases Js h with h|h
 ·exact h1 _ _ _ _ h
 ·exact h2 _ _ _ _ h
structure Fx (S:Type) where
 sd:Side UU
 rows:List (Nat×Rw S)
 loops:List (Nat×Ann×List Bool)
 k:Nat
 fn:Func
 kp:Bool
 hn:List Bool
 nb:Nat
 cd:Option (PU→Oracle UU S)
noncomputable def yk:List (Nat×Ann×List Bool)→Nat→Option Ann
 |[],_=> .none
 |(i,a,_)::l,n=>bif Nat.beq n i then some a else yk l n
noncomputable def u6:List (Nat×Ann×List Bool)→Nat→Ann×List Bool
 |[],_=>(⟨[],[]⟩,[])
 |(i,a)::l,n=>bif Nat.beq n i then a else u6 l n
noncomputable def bq (rs:List Nat) (bs:List (Nat×Nat)):Ann:=⟨rs.map fun n=>(n,.none),bs.map fun p=>(p.1,List.replicate p.2 .none)⟩
noncomputable def aE:Nat→Nat→List Bool
 |0,_=>[]
 |n+1,b=>Nat.beq (b%2) 1::aE n (b/2)
noncomputable def fx {S:Type} (nt:Nat) (gv:Nat→List Bool) (ip:Nat→Bool) (rows:List (Nat×Rw S)) (loops:List (Nat×Ann×List Bool)) (k:Nat) (fn:Func) (kp:Bool) (hn:List Bool) (nb:Nat):Fx S:=
 ⟨⟨nt,gv,ip,.none,fun _=>false⟩,rows,loops,k,fn,kp,hn,nb,.none⟩
noncomputable def fp {S:Type} (nt:Nat) (rows:List (Nat×Rw S)) (loops:List (Nat×Ann×List Bool)) (k:Nat) (fn:Func) (nb:Nat):Fx S:=fx nt (fun _=>[]) (fun _=>false) rows loops k fn false [] nb
variable {S:Type}
noncomputable def Fx.oc (F:Fx S):Oracle UU S:=nE F.rows
noncomputable def Fx.an (F:Fx S):Nat→Option Ann:=yk F.loops
noncomputable def Fx.go (F:Fx S) (c:Code) (σ:St UU) (κ:Ex UU→St UU→Option S):Option S:=PI.run VV F.sd F.oc F.an F.k c σ κ
noncomputable def Fx.kt (F:Fx S) (κ:Out UU→Option S) (p:List Bool) (κs:List (St UU→Option S)):Ex UU→St UU→Option S:=match F.cd with
 | .none=>iz VV F.sd F.oc F.an F.k (eI F.fn) p κs F.an (kF VV F.oc F.kp F.hn F.fn F.nb κ)
 |some C=>Aq VV F.sd F.oc F.an F.k (eI F.fn) p κs F.an (kF VV F.oc F.kp F.hn F.fn F.nb κ) (kD VV F.oc C F.kp F.hn F.fn F.nb κ)
noncomputable def Fx.run (F:Fx S) (vs:List PU) (bs:List (Box UU)) (κ:Out UU→Option S):Option S:=match F.cd with
 | .none=>ww VV F.sd F.oc F.an F.k F.kp F.hn F.fn vs bs κ
 |some C=>wv VV F.sd F.oc F.an F.k C F.kp F.hn F.fn vs bs κ
noncomputable def Fx.A (F:Fx S) (i:Nat):Ann:=(u6 F.loops i).1
noncomputable def Fx.p (F:Fx S) (i:Nat):List Bool:=(u6 F.loops i).2
noncomputable def Fx.lp (F:Fx S) (κ:Out UU→Option S) (i:Nat) (κs:List (St UU→Option S)) (n:Nat) (σ:St UU):Option S:=
 nn (cQ (F.A i)) (fun σ κ=>F.go (fO (eI F.fn) (F.p i++[false])) σ κ) n σ (F.kt κ (F.p i) κs)
noncomputable def Fx.st (F:Fx S) (κ:Out UU→Option S) (i:Nat) (κs:List (St UU→Option S)) (r:St UU→Option S) (σ:St UU):Option S:=
 F.go (fO (eI F.fn) (F.p i++[false])) σ (back (cQ (F.A i)) r (F.kt κ (F.p i) κs))
noncomputable def Fx.jn (F:Fx S) (κ:Out UU→Option S) (i:Nat) (κs:List (St UU→Option S)) (n:Nat) (σ:St UU):Option S:=
 uL (fun σ κ=>F.go (fO (eI F.fn) (F.p i)) σ κ) n σ (F.kt κ (F.p i) κs)
noncomputable def Fx.sj (F:Fx S) (κ:Out UU→Option S) (i:Nat) (κs:List (St UU→Option S)) (σ:St UU):Option S:=F.go (fO (eI F.fn) (F.p i)) σ (F.kt κ (F.p i) κs)
theorem Fx.lp_succ (F:Fx S) (κ:Out UU→Option S) (i:Nat) (κs:List (St UU→Option S)) (n:Nat) (σ:St UU):F.lp κ i κs (n+1) σ=F.st κ i κs (fun τ=>F.lp κ i κs n τ) σ:=rfl
theorem Fx.jn_succ (F:Fx S) (κ:Out UU→Option S) (i:Nat) (κs:List (St UU→Option S)) (n:Nat) (σ:St UU):F.jn κ i κs (n+1) σ=F.sj κ i κs σ:=rfl
noncomputable def nF (F:Fx S) (n m:Nat):Bool:=(F.fn.name== "runtime.NumGoroutine")==false&&(F.fn.body.isNone==false&&(Nat.beq F.fn.ntmps F.sd.nt&&(Nat.ble F.sd.nt 1000000&&(Nat.ble n F.sd.nt&&Nat.ble m 1000000))))
theorem vt {F:Fx S} {n m:Nat} (h:nF F n m=true):(F.fn.name== "runtime.NumGoroutine")=false∧F.fn.body.isNone=false∧F.fn.ntmps=F.sd.nt∧F.sd.nt≤1000000∧n≤F.sd.nt∧m≤1000000:=by
 unfold nF at h
 simp only [Bool.and_eq_true,beq_iff_eq] at h
 obtain ⟨h1,h2,h3,h4,h5,h6⟩:=h
 exact ⟨h1,h2,Nat.eq_of_beq_eq_true h3,Nat.le_of_ble_eq_true h4,Nat.le_of_ble_eq_true h5,Nat.le_of_ble_eq_true h6⟩
theorem ah {o:Obj} {K:Cs} {B:Bs} {R:K.D (B.D (Kn S))} (F:Fx S) {f:FuncId} (ht:TA o F.rows) (hf:Tryz.prog.funcs[f]? =some F.fn) (hb:nF F K.n B.n=true) (run:AA K B R fun vs bs g=> ∀κ x,g κ=some x→F.run vs bs κ=some x)
  (h1:F.sd.rcv= .none:=by rfl) (h2:F.sd.pin=(fun _=>false):=by rfl) (h3:F.cd= .none:=by rfl):Tl o f (af K B R):=fun vs bs κ x h=>by
 obtain ⟨g,hg,hx,hl,hm⟩:=vn run h
 have hr:=hg κ x hx
 unfold Fx.run at hr
 rw [h3] at hr
 obtain ⟨b1,b2,b3,b4,b5,b6⟩:=vt hb
 exact sw (Ql vm (uJ o) h1 h2 ht.tells hf b1 b2 b3 b4 (by omega) hr)
theorem gZ {o:Obj} {K:Cs} {B:Bs} {R:K.D (B.D (Kn S))} {f:FuncId} (h0:AA K B R fun vs bs g=> ∀κ x,g κ=some x→False):Tl o f (af K B R):=fun vs bs κ x h=>by
 obtain ⟨g,hg,hx,_⟩:=vn h0 h
 exact (hg κ x hx).elim
noncomputable def po (nt f:Nat) (fn:Func) (k:Nat):PU→Oracle UU S:=fun v g vs bs κ=>bif Nat.beq g f&&Nat.ble vs.length nt then wx VV ⟨nt,fun _=>[],fun _=>false,.none,fun _=>false⟩ (nE []) (fun _=> .none) k true [] fn v vs bs κ else .none
theorem yA (o:Obj) {nt f:Nat} {fn:Func} {k:Nat} (hf:Tryz.prog.funcs[f]? =some fn) (hb:nF (fp nt [] [] k fn 0:Fx S) 0 0=true): ∀v u u',RcvOK v u u'→(po (S:=S) nt f fn k v).Tells (gr (LL o) (g4 Tryz.prog u u')):=by
 intro v u u' hv g vs bs κ x h
 unfold po at h
 cases hc:Nat.beq g f&&Nat.ble vs.length nt with
 |false=>rw [hc] at h;cases h
 |true=>
  rw [hc] at h
  rw [Bool.and_eq_true] at hc
  have:=Nat.eq_of_beq_eq_true hc.1
  subst this
  obtain ⟨b1,b2,b3,b4,_,_⟩:=vt hb
  exact sw (Qm vm (uJ o) rfl rfl (TA.tells (l:=[]) (o:=o) trivial) hf b1 b2 b3 b4 hv (Nat.le_of_ble_eq_true hc.2) h)
theorem FO {o:Obj} {K:Cs} {B:Bs} {R:K.D (B.D (Kn S))} (F:Fx S) {f:FuncId} {C:PU→Oracle UU S} (h3:F.cd=some C) (hC: ∀v u u',RcvOK v u u'→(C v).Tells (gr (LL o) (g4 Tryz.prog u u'))) (ht:TA o F.rows) (hf:Tryz.prog.funcs[f]? =some F.fn) (hb:nF F K.n B.n=true)
  (run:AA K B R fun vs bs g=> ∀κ x,g κ=some x→F.run vs bs κ=some x) (h1:F.sd.rcv= .none:=by rfl):Tl o f (af K B R):=fun vs bs κ x h=>by
 obtain ⟨g,hg,hx,hl,hm⟩:=vn run h
 have hr:=hg κ x hx
 unfold Fx.run at hr
 rw [h3] at hr
 obtain ⟨b1,b2,b3,b4,b5,b6⟩:=vt hb
 exact sw (Qj vm (uJ o) h1 ht.tells hC hf b1 b2 b3 b4 (by omega) (by omega) hr)
theorem Md {F:Fx S} {κ:Out UU→Option S} {i:Nat} {κs:List (St UU→Option S)} {mk:St UU} {l:Nat→Option S} (b:Option S) (h0:l 0= .none) (hs: ∀n,l (n+1)=b) (B:F.sj κ i κs mk=b): ∀ (n:Nat),F.jn κ i κs n mk=l n:=by
 intro n
 cases n with
 |zero=>intros;rw [h0];rfl
 |succ n=>intros;rw [hs,Fx.jn_succ];exact B
theorem cL {F:Fx S} {κ:Out UU→Option S} {i:Nat} {κs:List (St UU→Option S)} {α0:Type} {mk:α0→St UU} {l:Nat→α0→Option S} (b:(α0→Option S)→α0→Option S) (h0:l 0=fun x0=> .none) (hs: ∀n,l (n+1)=b (l n)) (B: ∀ (r:St UU→Option S) x0,F.st κ i κs r (mk x0)=b (fun x0=>r (mk x0)) x0): ∀ (n:Nat) x0,F.lp κ i κs n (mk x0)=l n x0:=by
 intro n
 induction n with
 |zero=>intros;rw [h0];rfl
 |succ n ih=>
  intros
  rw [hs,Fx.lp_succ,B]
  exact congrArg (fun g=>b g _) (funext fun x0=>ih x0)
theorem z_ {F:Fx S} {κ:Out UU→Option S} {i:Nat} {κs:List (St UU→Option S)} {α0:Type} {mk:α0→St UU} {l:Nat→α0→Option S} (b:α0→Option S) (h0:l 0=fun x0=> .none) (hs: ∀n,l (n+1)=b) (B: ∀x0,F.sj κ i κs (mk x0)=b x0): ∀ (n:Nat) x0,F.jn κ i κs n (mk x0)=l n x0:=by
 intro n
 cases n with
 |zero=>intros;rw [h0];rfl
 |succ n=>intros;rw [hs,Fx.jn_succ];exact B _
theorem bL {F:Fx S} {κ:Out UU→Option S} {i:Nat} {κs:List (St UU→Option S)} {α0 α1:Type} {mk:α0→α1→St UU} {l:Nat→α0→α1→Option S} (b:(α0→α1→Option S)→α0→α1→Option S) (h0:l 0=fun x0 x1=> .none) (hs: ∀n,l (n+1)=b (l n)) (B: ∀ (r:St UU→Option S) x0 x1,F.st κ i κs r (mk x0 x1)=b (fun x0 x1=>r (mk x0 x1)) x0 x1): ∀ (n:Nat) x0 x1,F.lp κ i κs n (mk x0 x1)=l n x0 x1:=by
 intro n
 induction n with
 |zero=>intros;rw [h0];rfl
 |succ n ih=>
  intros
  rw [hs,Fx.lp_succ,B]
  exact congrArg (fun g=>b g _ _) (funext fun x0=>funext fun x1=>ih x0 x1)
theorem Me {F:Fx S} {κ:Out UU→Option S} {i:Nat} {κs:List (St UU→Option S)} {α0 α1:Type} {mk:α0→α1→St UU} {l:Nat→α0→α1→Option S} (b:α0→α1→Option S) (h0:l 0=fun x0 x1=> .none) (hs: ∀n,l (n+1)=b) (B: ∀x0 x1,F.sj κ i κs (mk x0 x1)=b x0 x1): ∀ (n:Nat) x0 x1,F.jn κ i κs n (mk x0 x1)=l n x0 x1:=by
 intro n
 cases n with
 |zero=>intros;rw [h0];rfl
 |succ n=>intros;rw [hs,Fx.jn_succ];exact B _ _
theorem lg {F:Fx S} {κ:Out UU→Option S} {i:Nat} {κs:List (St UU→Option S)} {α0 α1 α2:Type} {mk:α0→α1→α2→St UU} {l:Nat→α0→α1→α2→Option S} (b:(α0→α1→α2→Option S)→α0→α1→α2→Option S) (h0:l 0=fun x0 x1 x2=> .none) (hs: ∀n,l (n+1)=b (l n)) (B: ∀ (r:St UU→Option S) x0 x1 x2,F.st κ i κs r (mk x0 x1 x2)=b (fun x0 x1 x2=>r (mk x0 x1 x2)) x0 x1 x2): ∀ (n:Nat) x0 x1 x2,F.lp κ i κs n (mk x0 x1 x2)=l n x0 x1 x2:=by
 intro n
 induction n with
 |zero=>intros;rw [h0];rfl
 |succ n ih=>
  intros
  rw [hs,Fx.lp_succ,B]
  exact congrArg (fun g=>b g _ _ _) (funext fun x0=>funext fun x1=>funext fun x2=>ih x0 x1 x2)
end
end Go.Proofs.YtapmagaejigpnaaGreatDoor
namespace Go.Proofs.YtapmagaejigpnaaGreatDoor
open Go PI
set_option linter.unusedVariables false
set_option maxRecDepth 100000
noncomputable section
noncomputable def uO:Cs:=cc cT (cc cI cn)
noncomputable def Ab:Cs:=cc cT (cc cT (cc lB cn))
noncomputable def Mh:Cs:=cc cI (cc cI cn)
noncomputable def Af:Cs:=cc cT (cc cI (cc cI (cc (cp 0) cn)))
noncomputable def eH:Bs:=xI xn
noncomputable def Mz:Cs:=cc cT (cc (cf 168 cn (cc (cp 0) cn)) cn)
noncomputable def MH:Cs:=cc cT (cc (cf 170 cn (cc (cp 0) cn)) cn)
noncomputable def Gr:Bs:=xc (cc (cf 169 cn (cc (cp 1) (cc (cp 0) cn))) cn) (xI xn)
noncomputable def MQ:Cs:=cc cT (cc (cp 0) (cc (cp 1) cn))
noncomputable def S9:Bs:=xI (xc (cc (cf 169 cn (cc (cp 0) (cc (cp 1) cn))) cn) xn)
noncomputable def uP:Cs:=cc cT cn
noncomputable def gM:Cs:=cc cI cn
noncomputable def Mg:Cs:=cc cs cn
noncomputable def uQ:Cs:=cc cU cn
noncomputable def qN:Cs:=cc cC cn
noncomputable def Ac:Cs:=cc cC (cc cC cn)
noncomputable def uR:Cs:=cc cC (cc (cp 0) cn)
noncomputable def oq:Bs:=xC xn
noncomputable def Ad:Cs:=cc lC (cc (cf 149 cn (cc (cp 0) cn)) cn)
noncomputable def S4:Bs:=xc (cc lC cn) xn
noncomputable def fT:Cs:=cc lC cn
noncomputable def jE:Cs:=cc lC (cc lC cn)
noncomputable def qO:Cs:=cc cU (cc cI cn)
noncomputable def Mi:Cs:=cc lC (cc cI cn)
noncomputable def Ae:Cs:=cc lC (cc (cf 132 cn cn) cn)
noncomputable def qP:Cs:=cc cT (cc cI (cc cI cn))
noncomputable def Mj:Cs:=cc cT (cc cI (cc cI (cc cb cn)))
noncomputable def Mk:Cs:=cc cT (cc cI (cc cI (cc (cp 0) (cc (cp 1) (cc (cp 2) cn)))))
noncomputable def Gm:Bs:=xI (xI (xc (cc cb cn) xn))
noncomputable def Ml:Cs:=cc cT (cc (cf 129 cn (cc (cp 0) (cc (cp 1) (cc (cp 2) cn)))) cn)
noncomputable def Mm:Cs:=cc (cp 0) (cc cI cn)
noncomputable def Mn:Cs:=cc lT cn
noncomputable def Mo:Cs:=cc (cp 0) cn
noncomputable def Ag:Cs:=cc lF cn
noncomputable def Mp:Cs:=cc cU (cc cI (cc cI cn))
noncomputable def Mq:Cs:=cc cC (cc cI (cc cI cn))
noncomputable def Mr:Cs:=cc hC (cc cC (cc (cp 0) (cc (cp 1) cn)))
noncomputable def sN:Bs:=xI (xI xn)
noncomputable def Ms:Cs:=cc lC (cc hC (cc (cf 98 cn (cc (cp 0) (cc (cp 1) cn))) cn))
noncomputable def Mt:Cs:=cc lC (cc cI (cc cI cn))
noncomputable def Mu:Cs:=cc (cp 0) (cc lC cn)
noncomputable def Mv:Cs:=cc (cp 0) (cc lC (cc lC cn))
noncomputable def Mw:Cs:=cc (cg (cc cI (cc cI cn))) (cc lC (cc cI cn))
noncomputable def Mx:Cs:=cc (cg (cc cI (cc cI cn))) (cc cT (cc cI (cc cI cn)))
noncomputable def Ah:Cs:=cc (cp 0) (cc (cp 1) (cc (cp 2) cn))
noncomputable def Gn:Bs:=xI (xT (xI xn))
noncomputable def My:Cs:=cc cT (cc lI (cc (cf 142 cn (cc (cp 0) (cc (cp 1) (cc (cp 2) cn)))) cn))
noncomputable def Ai:Cs:=cc cT (cc cI (cc lC cn))
noncomputable def Aj:Cs:=cc (cf 105 cn cn) (cc (cp 0) (cc (cp 1) cn))
noncomputable def ot:Bs:=xI (xc (cc lC cn) xn)
noncomputable def MA:Cs:=cc (cf 106 cn cn) (cc (cp 0) (cc (cp 1) cn))
noncomputable def MB:Cs:=cc cI (cc lC cn)
noncomputable def MC:Cs:=cc lC (cc (cf 200 cn cn) cn)
noncomputable def MD:Cs:=cc lC (cc (cf 201 cn (cc (cp 0) cn)) cn)
noncomputable def ME:Cs:=cc lC (cc cC cn)
noncomputable def MF:Cs:=cc lC (cc lC (cc (cf 197 cn cn) cn))
noncomputable def Ak:Cs:=cc lC (cc cI (cc lC cn))
noncomputable def uS:Cs:=cc lC (cc cI (cc (cp 0) (cc (cp 1) (cc (cp 2) cn))))
noncomputable def S5:Bs:=xI (xc (cc lC cn) (xc (cc (cf 106 cn cn) cn) xn))
noncomputable def MG:Cs:=cc lC (cc cC (cc (cp 0) (cc (cp 1) cn)))
noncomputable def MI:Cs:=cc lC (cc lC (cc (cf 154 cn (cc (cp 0) (cc (cp 1) cn))) cn))
noncomputable def Gp:Bs:=xI (xc (cc lC cn) (xc (cc (cf 105 cn cn) cn) xn))
noncomputable def uT:Cs:=cc (cg (cc (cf 102 cn (cc (cp 0) (cc (cp 1) (cc (cp 2) cn)))) (cc (cf 102 cn (cc (cp 0) (cc (cp 1) (cc (cp 3) cn)))) cn))) (cc cT (cc cI cn))
noncomputable def yb:Bs:=xI (xc (cc lC cn) (xc (cc (cf 105 cn cn) cn) (xc (cc (cf 106 cn cn) cn) xn)))
noncomputable def Al:Cs:=cc cI (cc (cp 0) cn)
noncomputable def S6:Bs:=xT xn
noncomputable def Am:Cs:=cc (cg (cc (cf 102 cn (cc (cp 0) (cc (cp 1) (cc (cp 2) cn)))) (cc (cf 102 cn (cc (cp 0) (cc (cp 1) (cc (cp 3) cn)))) cn))) (cc lT (cc cI (cc (cf 111 cn (cc (cp 4) cn)) cn)))
noncomputable def Gq:Bs:=xI (xc (cc lC cn) (xc (cc (cf 105 cn cn) cn) (xc (cc (cf 106 cn cn) cn) (xI xn))))
noncomputable def MJ:Cs:=cc (cg (cc (cf 102 cn (cc (cp 0) (cc (cp 1) (cc (cp 2) cn)))) (cc (cf 102 cn (cc (cp 0) (cc (cp 1) (cc (cp 3) cn)))) cn))) (cc lT (cc cI (cc (cf 109 cn (cc (cp 4) cn)) cn)))
noncomputable def S7:Bs:=xI (xc (cc lC cn) (xc (cc (cf 105 cn cn) cn) (xc (cc (cf 106 cn cn) cn) (xT xn))))
noncomputable def MK:Cs:=cc lC (cc cI (cc (cp 0) cn))
noncomputable def An:Cs:=cc (cg (cc (cf 112 cn (cc (cp 0) cn)) (cc (cf 112 cn (cc (cp 0) cn)) cn))) (cc cT (cc cI cn))
noncomputable def Ao:Cs:=cc (cg (cc (cf 112 cn (cc (cp 0) cn)) (cc (cf 112 cn (cc (cp 0) cn)) cn))) (cc lT (cc cI (cc (cf 111 cn (cc (cp 1) cn)) cn)))
noncomputable def ML:Cs:=cc (cg (cc (cf 112 cn (cc (cp 0) cn)) (cc (cf 112 cn (cc (cp 0) cn)) cn))) (cc lT (cc cI (cc (cf 109 cn (cc (cp 1) cn)) cn)))
noncomputable def S8:Bs:=xI (xT xn)
noncomputable def MM:Cs:=cc (cp 0) (cc cT (cc lC cn))
noncomputable def Gs:Bs:=xI (xI (xT xn))
noncomputable def MN:Cs:=cc cT (cc lI (cc (cf 140 cn (cc (cp 0) (cc (cp 1) (cc (cp 2) cn)))) cn))
noncomputable def MO:Cs:=cc (cp 0) (cc cT (cc cI (cc cI cn)))
noncomputable def MP:Cs:=cc cI (cc lT cn)
noncomputable def MS:Cs:=cc (cp 0) (cc cT cn)
noncomputable def MT:Cs:=cc cT (cc lC (cc cT (cc cC (cc lC cn))))
noncomputable def uU:Cs:=cc cT (cc lC (cc cT cn))
noncomputable def Ap:Cs:=cc lB cn
noncomputable def MU:Cs:=cc cT (cc cT cn)
noncomputable def MV:Cs:=cc lT (cc lT cn)
noncomputable def bw {S:Type} (κ:Out UU→Option S):Int→Option S:=fun r=>κ (.ret (iI r) [])
noncomputable def az {S:Type} (κ:Out UU→Option S):Bool→Option S:=fun r=>κ (.ret (.bool r) [])
noncomputable def PE {S:Type} (κ:Out UU→Option S):Int×Int→Option S:=fun r=>κ (.ret (.tuple [(iI r.1),(iI r.2)]) [])
noncomputable def dX {S:Type} (c0:Int) (κ:Out UU→Option S):Bool→Option S:=fun r=>κ (.ret (.bool r) [bI c0])
noncomputable def eD {S:Type} (κ:Out UU→Option S):Bool×Int→Option S:=fun r=>κ (.ret (.bool r.1) [.cells [(.func 169 [] [(pt 1),(pt 0)])],bI r.2])
noncomputable def PW {S:Type} (κ:Out UU→Option S):Bool×Int→Option S:=fun r=>κ (.ret (.bool r.1) [bI r.2,.cells [(.func 169 [] [(pt 0),(pt 1)])]])
noncomputable def P1 {S:Type} (κ:Out UU→Option S):Cl→Option S:=fun r=>κ (.ret (aC r) [])
noncomputable def BV {S:Type} (c0:Cl) (κ:Out UU→Option S):Bool→Option S:=fun r=>κ (.ret (.bool r) [bC c0])
noncomputable def rM {S:Type} (c0:Cl) (κ:Out UU→Option S):Int→Option S:=fun r=>κ (.ret (iI r) [bC c0])
noncomputable def P2 {S:Type} (c0:List Cl) (κ:Out UU→Option S):Bool→Option S:=fun r=>κ (.ret (.bool r) [.cells [(sC c0)]])
noncomputable def aN {S:Type} (κ:Out UU→Option S):List Cl×Int→Option S:=fun r=>κ (.ret (.tuple [(sC r.1),(iI r.2)]) [])
noncomputable def iV {S:Type} (κ:Out UU→Option S):Int→Option S:=fun r=>κ (.ret (iU r) [])
noncomputable def eC {S:Type} (c0 c1:Int) (c2:Bool) (κ:Out UU→Option S):Bool→Option S:=fun r=>κ (.ret (.bool r) [bI c0,bI c1,.cells [(.bool c2)]])
noncomputable def Pz {S:Type} (κ:Out UU→Option S):Int→Option S:=fun r=>κ (.ret (.tuple []) [bI r])
noncomputable def rB {S:Type} (κ:Out UU→Option S):Int→Option S:=fun r=>κ (.ret (pt 0) [bI r])
noncomputable def PA {S:Type} (κ:Out UU→Option S):List Cl→Option S:=fun r=>κ (.ret (uy r) [])
noncomputable def PB {S:Type} (κ:Out UU→Option S):Int×Int→Option S:=fun r=>κ (.ret (.tuple [(iU r.1),(iI r.2)]) [])
noncomputable def PC {S:Type} (κ:Out UU→Option S):Cl×Int→Option S:=fun r=>κ (.ret (.tuple [(aC r.1),(iI r.2)]) [])
noncomputable def PD {S:Type} (c0 c1:Int) (κ:Out UU→Option S):List Cl×Int→Option S:=fun r=>κ (.ret (.tuple [(uy r.1),(iI r.2)]) [bI c0,bI c1])
noncomputable def rC {S:Type} (c0 c1:Int) (κ:Out UU→Option S):List Cl×Int→Option S:=fun r=>κ (.ret (.tuple [(sC r.1),(iI r.2)]) [bI c0,bI c1])
noncomputable def BS {S:Type} (κ:Out UU→Option S):List Cl×Int→Option S:=fun r=>κ (.ret (sC r.1) [bI r.2])
noncomputable def PF {S:Type} (κ:Out UU→Option S):Pan Int (List Cl)→Option S:=fun r=>Pan.elim r (fun r=>κ (.ret (sC r) [])) (fun e=>κ (.panic (.iface 29 (iI e)) []))
noncomputable def dv {S:Type} (κ:Out UU→Option S):Pan Int Tm→Option S:=fun r=>Pan.elim r (fun r=>κ (.ret (aT r) [])) (fun e=>κ (.panic (.iface 29 (iI e)) []))
noncomputable def PG {S:Type} (c0:Int) (c1:Tm) (c2:Int) (κ:Out UU→Option S):Pan Int Tm→Option S:=fun r=>Pan.elim r (fun r=>κ (.ret (aT r) [bI c0,bT c1,bI c2])) (fun e=>κ (.panic (.iface 29 (iI e)) [bI c0,bT c1,bI c2]))
noncomputable def rD {S:Type} (c0:Int) (c1:Tm) (c2:Int) (κ:Out UU→Option S):Tm×Int→Option S:=fun r=>κ (.ret (.tuple [(aT r.1),(iI r.2)]) [bI c0,bT c1,bI c2])
noncomputable def f_ {S:Type} (κ:Out UU→Option S):Tm×Int→Option S:=fun r=>κ (.ret (.tuple [(aT r.1),(iI r.2)]) [])
noncomputable def PH {S:Type} (c0:Int) (c1:List Cl) (κ:Out UU→Option S):Unit→Option S:=fun r=>κ (.ret (.func 102 [] [(pt 0),(pt 1),(pt 2)]) [bI c0,.cells [(sC c1)],.cells [(.func 105 [] [])]])
noncomputable def PJ {S:Type} (c0:Int) (c1:List Cl) (κ:Out UU→Option S):Unit→Option S:=fun r=>κ (.ret (.func 102 [] [(pt 0),(pt 1),(pt 2)]) [bI c0,.cells [(sC c1)],.cells [(.func 106 [] [])]])
noncomputable def PK {S:Type} (κ:Out UU→Option S):Int×List Cl→Option S:=fun r=>κ (.ret (.agg [(.func 102 [] [(pt 0),(pt 1),(pt 2)]),(.func 102 [] [(pt 0),(pt 1),(pt 3)])]) [bI r.1,.cells [(sC r.2)],.cells [(.func 105 [] [])],.cells [(.func 106 [] [])]])
noncomputable def lr {S:Type} (κ:Out UU→Option S):List Cl→Option S:=fun r=>κ (.ret (sC r) [])
noncomputable def PL {S:Type} (κ:Out UU→Option S):Cl×Bool→Option S:=fun r=>κ (.ret (.tuple [(aC r.1),(.bool r.2)]) [])
noncomputable def PM {S:Type} (c0:Cl) (κ:Out UU→Option S):Cl×Bool→Option S:=fun r=>κ (.ret (.tuple [(aC r.1),(.bool r.2)]) [bC c0])
noncomputable def rE {S:Type} (c0:Cl) (κ:Out UU→Option S):List Cl→Option S:=fun r=>κ (.ret (sC r) [bC c0])
noncomputable def PN {S:Type} (c0:Int) (c1:List Cl) (κ:Out UU→Option S):List Cl×Int→Option S:=fun r=>κ (.ret (.tuple [(sC r.1),(iI r.2)]) [bI c0,.cells [(sC c1)],.cells [(.func 106 [] [])]])
noncomputable def nM {S:Type} (c0:Int) (c1:List Cl) (κ:Out UU→Option S):List Cl×Int→Option S:=fun r=>κ (.ret (.tuple [(sC r.1),(iI r.2)]) [bI c0,.cells [(sC c1)]])
noncomputable def PO {S:Type} (c0:Int) (c1:List Cl) (κ:Out UU→Option S):List Cl×Int→Option S:=fun r=>κ (.ret (.tuple [(sC r.1),(iI r.2)]) [bI c0,.cells [(sC c1)],.cells [(.func 105 [] [])]])
noncomputable def PP {S:Type} (c0:Int) (c1:List Cl) (κ:Out UU→Option S):List Cl×Int→Option S:=fun r=>κ (.ret (.tuple [(sC r.1),(iI r.2)]) [bI c0,.cells [(sC c1)],.cells [(.func 105 [] [])],.cells [(.func 106 [] [])]])
noncomputable def PQ {S:Type} (c0:Tm) (κ:Out UU→Option S):Int→Option S:=fun r=>κ (.ret (iI r) [bT c0])
noncomputable def PR {S:Type} (c0:Int) (κ:Out UU→Option S):Int→Option S:=fun r=>κ (.ret (iI r) [bI c0])
noncomputable def rF {S:Type} (c0:Int) (c1:List Cl) (κ:Out UU→Option S):Tm×Int→Option S:=fun r=>κ (.ret (.tuple [(aT r.1),(iI r.2)]) [bI c0,.cells [(sC c1)],.cells [(.func 105 [] [])],.cells [(.func 106 [] [])]])
noncomputable def rG {S:Type} (c0:Int) (c1:List Cl) (c4:Int) (κ:Out UU→Option S):List Tm×Int→Option S:=fun r=>κ (.ret (.tuple [(sT r.1),(iI r.2)]) [bI c0,.cells [(sC c1)],.cells [(.func 105 [] [])],.cells [(.func 106 [] [])],bI c4])
noncomputable def rH {S:Type} (c0:Int) (c1:List Cl) (c4:Tm) (κ:Out UU→Option S):List Tm×Int→Option S:=fun r=>κ (.ret (.tuple [(sT r.1),(iI r.2)]) [bI c0,.cells [(sC c1)],.cells [(.func 105 [] [])],.cells [(.func 106 [] [])],bT c4])
noncomputable def PS {S:Type} (κ:Out UU→Option S):Int→Option S:=fun r=>κ (.ret (.agg [(.func 112 [] [(pt 0)]),(.func 112 [] [(pt 0)])]) [bI r])
noncomputable def nN {S:Type} (c0:Int) (κ:Out UU→Option S):List Cl×Int→Option S:=fun r=>κ (.ret (.tuple [(sC r.1),(iI r.2)]) [bI c0])
noncomputable def rI {S:Type} (c0:Int) (κ:Out UU→Option S):Tm×Int→Option S:=fun r=>κ (.ret (.tuple [(aT r.1),(iI r.2)]) [bI c0])
noncomputable def rJ {S:Type} (c0 c1:Int) (κ:Out UU→Option S):List Tm×Int→Option S:=fun r=>κ (.ret (.tuple [(sT r.1),(iI r.2)]) [bI c0,bI c1])
noncomputable def rK {S:Type} (c0:Int) (c1:Tm) (κ:Out UU→Option S):List Tm×Int→Option S:=fun r=>κ (.ret (.tuple [(sT r.1),(iI r.2)]) [bI c0,bT c1])
noncomputable def BT {S:Type} (κ:Out UU→Option S):Tm×Int→Option S:=fun r=>κ (.ret (aT r.1) [bI r.2])
noncomputable def PT {S:Type} (c0 c1:Int) (c2:Tm) (κ:Out UU→Option S):Pan Int Tm→Option S:=fun r=>Pan.elim r (fun r=>κ (.ret (aT r) [bI c0,bI c1,bT c2])) (fun e=>κ (.panic (.iface 29 (iI e)) [bI c0,bI c1,bT c2]))
noncomputable def rL {S:Type} (c0 c1:Int) (c2:Tm) (κ:Out UU→Option S):Tm×Int→Option S:=fun r=>κ (.ret (.tuple [(aT r.1),(iI r.2)]) [bI c0,bI c1,bT c2])
noncomputable def BU {S:Type} (κ:Out UU→Option S):Int×Int×ByteArray×List Tm→Option S:=fun r=>κ (.ret (.agg [(iI r.1),(iI r.2.1),(.str r.2.2.1),(dw [] .nil),(sT r.2.2.2),(gh [] .nil)]) [])
noncomputable def PX {S:Type} (κ:Out UU→Option S):Tm×Int×Int→Option S:=fun r=>κ (.ret (.tuple [(aT r.1),(iI r.2.1)]) [bI r.2.2])
noncomputable def PY {S:Type} (κ:Out UU→Option S):Int×Int×ByteArray×List Tm×List (Br Tm)→Option S:=fun r=>κ (.ret (.agg [(iI r.1),(iI r.2.1),(.str r.2.2.1),(dw [] .nil),(sT r.2.2.2.1),(sB r.2.2.2.2)]) [])
noncomputable def PZ {S:Type} (κ:Out UU→Option S):Int×Int×ByteArray→Option S:=fun r=>κ (.ret (.agg [(iI r.1),(iI r.2.1),(.str r.2.2),(dw [] .nil),(gi [] .nil),(gh [] .nil)]) [])
noncomputable def P0 {S:Type} (κ:Out UU→Option S):Int×Int×ByteArray×List Cl×List Tm→Option S:=fun r=>κ (.ret (.agg [(iI r.1),(iI r.2.1),(.str r.2.2.1),(sC r.2.2.2.1),(sT r.2.2.2.2),(gh [] .nil)]) [])
end
end Go.Proofs.YtapmagaejigpnaaGreatDoor
namespace Go.Proofs.YtapmagaejigpnaaGreatDoor
open Go PI
set_option linter.unusedVariables false
set_option maxRecDepth 100000
noncomputable section
def vG {S:Type} (hd:eW S):Rw S:=af uO xn fun t most κ=>hd t most (bw κ)
def jd {S:Type} (hd:eW S) (k:Nat):Fx S:=fp 119 [(40,vG hd)] [(5,bq [1,2,5,6] [(2,6)],aE 6 23),(9,bq [1,2,5,7] [(2,6)],aE 7 47),(15,bq [1,2,5,7,8] [(2,6)],aE 15 14639)] k Tryz.f40 0
def va (t:Tm) (most:Int) (v5 i6:Int):St UU:=⟨[(1,(iI most)),(2,(pt 2)),(5,(iI v5)),(6,(iI i6))],[(2,bT t)],[],[]⟩
def nq (t:Tm) (most:Int) (v5' i7:Int):St UU:=⟨[(1,(iI most)),(2,(pt 2)),(5,(iI v5')),(7,(iI i7))],[(2,bT t)],[],[]⟩
def AH (t:Tm) (most i7:Int) (v5'' v8:Int):St UU:=⟨[(1,(iI most)),(2,(pt 2)),(5,(iI v5'')),(7,(iI i7)),(8,(iI v8))],[(2,bT t)],[],[]⟩
section
variable {S:Type} (hd:eW S) (k:Nat) (t:Tm) (most:Int) (κ:Out UU→Option S)
theorem H9 (i7 κ1): ∀n v5'' v8,(jd hd k).lp κ 15 [κ1] n (AH t most i7 v5'' v8)=gP hd k (bw κ) (fun v5' i7=>κ1 (nq t most v5' i7)) t most i7 n v5'' v8:=bL (pc hd k (bw κ) t most i7 (fun v5' i7=>κ1 (nq t most v5' i7))) rfl (fun _=>rfl) fun r v5'' v8=>by kernel_rfl
theorem H8: ∀n v5' i7,(jd hd k).lp κ 9 [] n (nq t most v5' i7)=fV hd k (bw κ) t most n v5' i7:=bL (fun own=>mi hd k (bw κ) t most (fun i7 v5'' v8=>gP hd k (bw κ) own t most i7 k v5'' v8) own) rfl (fun _=>rfl) fun r v5' i7=>Eq.trans (b:=mi hd k (bw κ) t most (fun i7 v5'' v8=>(jd hd k).lp κ 15 [r] k (AH t most i7 v5'' v8)) (fun v5' i7=>r (nq t most v5' i7)) v5' i7) (by kernel_rfl) (by simp only [H9])
theorem H7: ∀n v5 i6,(jd hd k).lp κ 5 [] n (va t most v5 i6)=jL hd k (bw κ) t most n v5 i6:=bL (fun own=>mh hd k (bw κ) t most (fun v5' i7=>fV hd k (bw κ) t most k v5' i7) own) rfl (fun _=>rfl) fun r v5 i6=>Eq.trans (b:=mh hd k (bw κ) t most (fun v5' i7=>(jd hd k).lp κ 9 [] k (nq t most v5' i7)) (fun v5 i6=>r (va t most v5 i6)) v5 i6) (by kernel_rfl) (by simp only [H8])
end
theorem zP {S:Type} (o:Obj) (ho:ae o): ∀k:Nat,Tl o 40 (vG (de k:eW S))
 |0=>gZ fun t most κ x h=>by cases h
 |k+1=>ah (jd (de k) k) ⟨zP o ho k,trivial⟩ Tryz.func40 (by kernel_rfl) fun t most κ x h=>Eq.trans (b:=xA (de k) k (bw κ) (fun v5 i6=>(jd (de k) k).lp κ 5 [] k (va t most v5 i6)) t most) (by kernel_rfl) (Eq.trans (by simp only [H7];rfl) h)
def BW {S:Type} (k:Nat):Rw S:=af Ab xn fun a b sys κ=>aa k (pY k a b sys) (az κ)
def Gy {S:Type} (k:Nat):Fx S:=fp 21 [(40,vG (de k))] [] k Tryz.f9 0
theorem J8 {S:Type} (o:Obj) (ho:ae o) (k:Nat):Tl o 9 (BW k:Rw S):=ah (Gy k) ⟨zP o ho k,trivial⟩ Tryz.func9 (by kernel_rfl) fun a b sys κ x h=>Eq.trans (by kernel_rfl) (aj h)
def lv {S:Type} (k:Nat):Rw S:=af Mh xn fun kind kid κ=>aa k (ic k kind kid) (PE κ)
def GZ {S:Type} (k:Nat):Fx S:=fp 26 [] [] k Tryz.f110 0
theorem m0 {S:Type} (o:Obj) (ho:ae o) (k:Nat):Tl o 110 (lv k:Rw S):=ah (GZ k) trivial Tryz.func110 (by kernel_rfl) fun kind kid κ x h=>Eq.trans (by kernel_rfl) (aj h)
def nP {S:Type} (hd:cu S):Rw S:=af uO xn fun t left κ=>hd t left (az κ)
def Cw {S:Type} (hd:cu S) (k:Nat):Rw S:=af Af eH fun a_k p p' c0 κ=>aa k (mT hd k a_k p p' c0) (dX c0 κ)
def Hg {S:Type} (hd:cu S) (k:Nat):Fx S:=fp 12 [(125,nP hd)] [] k Tryz.f168 1
theorem KF {S:Type} (o:Obj) (ho:ae o) (hd:cu S) (Hd:Tl o 125 (nP hd)) (k:Nat):Tl o 168 (Cw hd k:Rw S):=ah (Hg hd k) ⟨Hd,trivial⟩ Tryz.func168 (by kernel_rfl) fun a_k p p' c0 κ x h=>Eq.trans (by kernel_rfl) (aj h)
def CB {S:Type} (hd:cu S) (k:Nat):Rw S:=af Mz eH fun t c0 κ=>aa k (ug hd k t c0) (dX c0 κ)
def jg {S:Type} (hd:cu S) (k:Nat):Fx S:=fp 60 [(110,lv k),(168,Cw hd k)] [(2,bq [1,2,15,16,17] [(2,6),(1000000,1)],aE 4 5),(12,bq [1,9,40,41,42] [(1000000,1)],aE 7 47),(15,bq [1,9,40,41,42,47,48,49] [(1000000,1)],aE 15 13103)] k Tryz.f128 1
def vg (c0:Int) (t:Tm) (v17:Int):St UU:=⟨[(1,(.func 168 [] [(pt 1000000)])),(2,(pt 2)),(15,(sT t.kids)),(16,(.int .i64 (t.kids.length:Int))),(17,(iI v17))],[(2,bT t),(1000000,bI c0)],[],[]⟩
def ny (c0:Int) (t:Tm) (v42 more9:Int):St UU:=⟨[(1,(.func 168 [] [(pt 1000000)])),(9,(iI more9)),(40,(sB t.sys)),(41,(.int .i64 (t.sys.length:Int))),(42,(iI v42))],[(1000000,bI c0)],[],[]⟩
def A9 (c0:Int) (t:Tm) (v42:Int) (x4:(Br Tm)) (more9:Int) (v49:Int):St UU:=⟨[(1,(.func 168 [] [(pt 1000000)])),(9,(iI more9)),(40,(sB t.sys)),(41,(.int .i64 (t.sys.length:Int))),(42,(iI v42)),(47,(sT x4.kids)),(48,(.int .i64 (x4.kids.length:Int))),(49,(iI v49))],[(1000000,bI c0)],[],[]⟩
section
variable {S:Type} (hd:cu S) (k:Nat) (t:Tm) (c0:Int) (κ:Out UU→Option S)
theorem IL (v42 x4 more9 κ1): ∀n v49,(jg hd k).lp κ 15 [κ1] n (A9 c0 t v42 x4 more9 v49)=iL hd k (dX c0 κ) (fun v42 more9=>κ1 (ny c0 t v42 more9)) c0 t v42 x4 more9 n v49:=cL (pk hd k (dX c0 κ) c0 t v42 x4 more9 (fun v42 more9=>κ1 (ny c0 t v42 more9))) rfl (fun _=>rfl) fun r v49=>by kernel_rfl
theorem IK: ∀n v42 more9,(jg hd k).lp κ 12 [] n (ny c0 t v42 more9)=fh hd k (dX c0 κ) c0 t n v42 more9:=bL (fun own=>mq hd k (dX c0 κ) c0 t (fun v42 x4 more9 v49=>iL hd k (dX c0 κ) own c0 t v42 x4 more9 k v49) own) rfl (fun _=>rfl) fun r v42 more9=>Eq.trans (b:=mq hd k (dX c0 κ) c0 t (fun v42 x4 more9 v49=>(jg hd k).lp κ 15 [r] k (A9 c0 t v42 x4 more9 v49)) (fun v42 more9=>r (ny c0 t v42 more9)) v42 more9) (by kernel_rfl) (by simp only [IL])
theorem IJ: ∀n v17,(jg hd k).lp κ 2 [] n (vg c0 t v17)=lb hd k (dX c0 κ) c0 t n v17:=cL (fun own=>mo hd k (dX c0 κ) c0 t (fun v42 more9=>fh hd k (dX c0 κ) c0 t k v42 more9) own) rfl (fun _=>rfl) fun r v17=>Eq.trans (b:=mo hd k (dX c0 κ) c0 t (fun v42 more9=>(jg hd k).lp κ 12 [] k (ny c0 t v42 more9)) (fun v17=>r (vg c0 t v17)) v17) (by kernel_rfl) (by simp only [IK])
end
theorem KL {S:Type} (o:Obj) (ho:ae o) (hd:cu S) (Hd:Tl o 125 (nP hd)) (k:Nat):Tl o 128 (CB hd k:Rw S):=ah (jg hd k) ⟨m0 o ho k,KF o ho hd Hd k,trivial⟩ Tryz.func128 (by kernel_rfl) fun t c0 κ x h=>Eq.trans (b:=xK hd k (dX c0 κ) (fun v17=>(jg hd k).lp κ 2 [] k (vg c0 t v17)) t c0) (by kernel_rfl) (Eq.trans (by simp only [IJ];rfl) (aj h))
def G9 {S:Type} (hd:cu S) (k:Nat):Fx S:=fp 12 [(128,CB hd k)] [] k Tryz.f125 0
theorem zS {S:Type} (o:Obj) (ho:ae o): ∀k:Nat,Tl o 125 (nP (fQ k:cu S))
 |0=>gZ fun t left κ x h=>by cases h
 |k+1=>ah (G9 (fQ k) k) ⟨KL o ho (fQ k) (zS o ho k) k,trivial⟩ Tryz.func125 (by kernel_rfl) fun t left κ x h=>Eq.trans (by kernel_rfl) h
def rV {S:Type} (hd:ct S):Rw S:=af MH Gr fun t c1 κ=>hd t c1 (eD κ)
def vY {S:Type} (hd:ct S) (k:Nat):Rw S:=af MQ S9 fun t c0 κ=>aa k (kx hd k t c0) (PW κ)
def HG {S:Type} (hd:ct S) (k:Nat):Fx S:=fp 14 [(128,rV hd)] [] k Tryz.f169 2
theorem zm {S:Type} (o:Obj) (ho:ae o) (hd:ct S) (Hd:Tl o 128 (rV hd)) (k:Nat):Tl o 169 (vY hd k:Rw S):=ah (HG hd k) ⟨Hd,trivial⟩ Tryz.func169 (by kernel_rfl) fun t c0 κ x h=>Eq.trans (by kernel_rfl) (aj h)
def CX {S:Type} (hd:ct S) (k:Nat):Rw S:=af Af Gr fun a_k p p' c1 κ=>aa k (mV hd k a_k p p' c1) (eD κ)
def HM {S:Type} (hd:ct S) (k:Nat):Fx S:=fp 11 [(169,vY hd k)] [] k Tryz.f170 2
theorem K8 {S:Type} (o:Obj) (ho:ae o) (hd:ct S) (Hd:Tl o 128 (rV hd)) (k:Nat):Tl o 170 (CX hd k:Rw S):=ah (HM hd k) ⟨zm o ho hd Hd k,trivial⟩ Tryz.func170 (by kernel_rfl) fun a_k p p' c1 κ x h=>Eq.trans (by kernel_rfl) (aj h)
def jh {S:Type} (hd:ct S) (k:Nat):Fx S:=fp 60 [(110,lv k),(170,CX hd k)] [(2,bq [1,2,15,16,17] [(2,6),(1000000,1),(1000001,1)],aE 4 5),(12,bq [1,9,40,41,42] [(1000000,1),(1000001,1)],aE 7 47),(15,bq [1,9,40,41,42,47,48,49] [(1000000,1),(1000001,1)],aE 15 13103)] k Tryz.f128 2
def vh (t:Tm) (e1_0 v17:Int):St UU:=⟨[(1,(.func 170 [] [(pt 1000000)])),(2,(pt 2)),(15,(sT t.kids)),(16,(.int .i64 (t.kids.length:Int))),(17,(iI v17))],[(2,bT t),(1000000,.cells [(.func 169 [] [(pt 1000001),(pt 1000000)])]),(1000001,bI e1_0)],[],[]⟩
def nz (t:Tm) (e1_0' v42 more9:Int):St UU:=⟨[(1,(.func 170 [] [(pt 1000000)])),(9,(iI more9)),(40,(sB t.sys)),(41,(.int .i64 (t.sys.length:Int))),(42,(iI v42))],[(1000000,.cells [(.func 169 [] [(pt 1000001),(pt 1000000)])]),(1000001,bI e1_0')],[],[]⟩
def A_ (t:Tm) (v42:Int) (x4:(Br Tm)) (more9:Int) (e1_0'' v49:Int):St UU:=⟨[(1,(.func 170 [] [(pt 1000000)])),(9,(iI more9)),(40,(sB t.sys)),(41,(.int .i64 (t.sys.length:Int))),(42,(iI v42)),(47,(sT x4.kids)),(48,(.int .i64 (x4.kids.length:Int))),(49,(iI v49))],[(1000000,.cells [(.func 169 [] [(pt 1000001),(pt 1000000)])]),(1000001,bI e1_0'')],[],[]⟩
section
variable {S:Type} (hd:ct S) (k:Nat) (t:Tm) (c1:Int) (κ:Out UU→Option S)
theorem IP (v42 x4 more9 κ1): ∀n e1_0'' v49,(jh hd k).lp κ 15 [κ1] n (A_ t v42 x4 more9 e1_0'' v49)=ff hd k (eD κ) (fun e1_0' v42 more9=>κ1 (nz t e1_0' v42 more9)) t v42 x4 more9 n e1_0'' v49:=bL (pi hd k (eD κ) t v42 x4 more9 (fun e1_0' v42 more9=>κ1 (nz t e1_0' v42 more9))) rfl (fun _=>rfl) fun r e1_0'' v49=>by kernel_rfl
theorem IN: ∀n e1_0' v42 more9,(jh hd k).lp κ 12 [] n (nz t e1_0' v42 more9)=ej hd k (eD κ) t n e1_0' v42 more9:=lg (fun own=>ml hd k (eD κ) t (fun v42 x4 more9 e1_0'' v49=>ff hd k (eD κ) own t v42 x4 more9 k e1_0'' v49) own) rfl (fun _=>rfl) fun r e1_0' v42 more9=>Eq.trans (b:=ml hd k (eD κ) t (fun v42 x4 more9 e1_0'' v49=>(jh hd k).lp κ 15 [r] k (A_ t v42 x4 more9 e1_0'' v49)) (fun e1_0' v42 more9=>r (nz t e1_0' v42 more9)) e1_0' v42 more9) (by kernel_rfl) (by simp only [IP])
theorem IM: ∀n e1_0 v17,(jh hd k).lp κ 2 [] n (vh t e1_0 v17)=jN hd k (eD κ) t n e1_0 v17:=bL (fun own=>mj hd k (eD κ) t (fun e1_0' v42 more9=>ej hd k (eD κ) t k e1_0' v42 more9) own) rfl (fun _=>rfl) fun r e1_0 v17=>Eq.trans (b:=mj hd k (eD κ) t (fun e1_0' v42 more9=>(jh hd k).lp κ 12 [] k (nz t e1_0' v42 more9)) (fun e1_0 v17=>r (vh t e1_0 v17)) e1_0 v17) (by kernel_rfl) (by simp only [IN])
end
theorem zT {S:Type} (o:Obj) (ho:ae o): ∀k:Nat,Tl o 128 (rV (dP k:ct S))
 |0=>gZ fun t c1 κ x h=>by cases h
 |k+1=>ah (jh (dP k) k) ⟨m0 o ho k,K8 o ho (dP k) (zT o ho k) k,trivial⟩ Tryz.func128 (by kernel_rfl) fun t c1 κ x h=>Eq.trans (b:=xH (dP k) k (eD κ) (fun e1_0 v17=>(jh (dP k) k).lp κ 2 [] k (vh t e1_0 v17)) t c1) (by kernel_rfl) (Eq.trans (by simp only [IM];rfl) h)
def C6 {S:Type} (k:Nat):Rw S:=af uO xn fun t most κ=>aa k (qb k t most) (az κ)
def HU {S:Type} (k:Nat):Fx S:=fp 10 [(169,vY (dP k) k)] [] k Tryz.f126 0
theorem Lg {S:Type} (o:Obj) (ho:ae o) (k:Nat):Tl o 126 (C6 k:Rw S):=ah (HU k) ⟨zm o ho (dP k) (zT o ho k) k,trivial⟩ Tryz.func126 (by kernel_rfl) fun t most κ x h=>Eq.trans (by kernel_rfl) (aj h)
def vH {S:Type} (k:Nat):Rw S:=af uP xn fun t κ=>aa k (mU k t) (bw κ)
def Gz {S:Type} (k:Nat):Fx S:=fp 11 [(125,nP (fQ k)),(126,C6 k)] [] k Tryz.f80 0
theorem y7 {S:Type} (o:Obj) (ho:ae o) (k:Nat):Tl o 80 (vH k:Rw S):=ah (Gz k) ⟨zS o ho k,Lg o ho k,trivial⟩ Tryz.func80 (by kernel_rfl) fun t κ x h=>Eq.trans (by kernel_rfl) (aj h)
def B3 {S:Type} (k:Nat):Rw S:=af gM xn fun kind κ=>aa k (p8 k kind) (bw κ)
def GF {S:Type} (k:Nat):Fx S:=fp 38 [] [] k Tryz.f171 0
theorem Ke {S:Type} (o:Obj) (ho:ae o) (k:Nat):Tl o 171 (B3 k:Rw S):=ah (GF k) trivial Tryz.func171 (by kernel_rfl) fun kind κ x h=>Eq.trans (by kernel_rfl) (aj h)
def B7 {S:Type} (k:Nat):Rw S:=af gM xn fun kind κ=>aa k (ig k kind) (bw κ)
def GO {S:Type} (k:Nat):Fx S:=fp 10 [] [] k Tryz.f172 0
theorem Ki {S:Type} (o:Obj) (ho:ae o) (k:Nat):Tl o 172 (B7 k:Rw S):=ah (GO k) trivial Tryz.func172 (by kernel_rfl) fun kind κ x h=>Eq.trans (by kernel_rfl) (aj h)
def Ca {S:Type} (k:Nat):Rw S:=af Mg xn fun s κ=>aa k (p_ k s) (az κ)
def lS {S:Type} (k:Nat):Fx S:=fp 49 [] [(2,bq [0,7,8] [],aE 4 5),(1000006,bq [0,3,4,5,7,8] [],aE 12 3685)] k Tryz.f173 0
def nr (s:ByteArray) (v8:Int):St UU:=⟨[(0,(.str s)),(7,(.int .i64 (s.size:Int))),(8,(iI v8))],[],[],[]⟩
def AP (s:ByteArray) (v8:Int) (x1:UInt8) (letter5:Bool):St UU:=⟨[(0,(.str s)),(3,(iI v8)),(4,(.int .u8 (x1.toNat:Int))),(5,(.bool letter5)),(7,(.int .i64 (s.size:Int))),(8,(iI v8))],[],[],[]⟩
section
variable {S:Type} (k:Nat) (s:ByteArray) (κ:Out UU→Option S)
theorem Ih (v8 x1 κ0): ∀n letter5,(lS k).jn κ 1000006 [κ0] n (AP s v8 x1 letter5)=qQ k (az κ) (fun v8=>κ0 (nr s v8)) s v8 x1 n letter5:=z_ (tA k (az κ) s v8 x1 (fun v8=>κ0 (nr s v8))) rfl (fun _=>rfl) (fun letter5=>by kernel_rfl)
theorem Ig: ∀n v8,(lS k).lp κ 2 [] n (nr s v8)=jP k (az κ) s n v8:=cL (fun own=>mt k (az κ) s (fun v8 x1 letter5=>qQ k (az κ) own s v8 x1 k letter5) own) rfl (fun _=>rfl) fun r v8=>Eq.trans (b:=mt k (az κ) s (fun v8 x1 letter5=>(lS k).jn κ 1000006 [r] k (AP s v8 x1 letter5)) (fun v8=>r (nr s v8)) v8) (by kernel_rfl) (by simp only [Ih])
end
theorem Km {S:Type} (o:Obj) (ho:ae o) (k:Nat):Tl o 173 (Ca k:Rw S):=ah (lS k) trivial Tryz.func173 (by kernel_rfl) fun s κ x h=>Eq.trans (b:=xL k (az κ) (fun v8=>(lS k).lp κ 2 [] k (nr s v8)) s) (by kernel_rfl) (Eq.trans (by simp only [Ig];rfl) (aj h))
def Cb {S:Type} (k:Nat):Rw S:=af uQ xn fun s κ=>aa k (ku k s) (az κ)
def GS {S:Type} (k:Nat):Fx S:=fp 6 [] [] k Tryz.f192 0
theorem Ko {S:Type} (o:Obj) (ho:ae o) (k:Nat):Tl o 192 (Cb k:Rw S):=ah (GS k) trivial Tryz.func192 (by kernel_rfl) fun s κ x h=>Eq.trans (by kernel_rfl) (aj h)
def vQ {S:Type} (k:Nat):Rw S:=af qN xn fun c κ=>aa k (mH k c) (az κ)
def GT {S:Type} (k:Nat):Fx S:=fp 11 [(192,Cb k)] [] k Tryz.f146 0
theorem zf {S:Type} (o:Obj) (ho:ae o) (k:Nat):Tl o 146 (vQ k:Rw S):=ah (GT k) ⟨Ko o ho k,trivial⟩ Tryz.func146 (by kernel_rfl) fun c κ x h=>Eq.trans (by kernel_rfl) (aj h)
def rO {S:Type} (k:Nat):Rw S:=af Ac xn fun a b κ=>aa k (kj k a b) (P1 κ)
def GU {S:Type} (k:Nat):Fx S:=fp 16 [] [] k Tryz.f193 0
theorem uk {S:Type} (o:Obj) (ho:ae o) (k:Nat):Tl o 193 (rO k:Rw S):=ah (GU k) trivial Tryz.func193 (by kernel_rfl) fun a b κ x h=>Eq.trans (by kernel_rfl) (aj h)
def Cc {S:Type} (k:Nat):Rw S:=af Ac xn fun a b κ=>aa k (pA k a b) (az κ)
def GV {S:Type} (k:Nat):Fx S:=fp 10 [(193,rO k)] [] k Tryz.f150 0
theorem Kp {S:Type} (o:Obj) (ho:ae o) (k:Nat):Tl o 150 (Cc k:Rw S):=ah (GV k) ⟨uk o ho k,trivial⟩ Tryz.func150 (by kernel_rfl) fun a b κ x h=>Eq.trans (by kernel_rfl) (aj h)
def Ce {S:Type} (k:Nat):Rw S:=af uR oq fun d c0 κ=>aa k (pC k d c0) (BV c0 κ)
def GW {S:Type} (k:Nat):Fx S:=fp 12 [(150,Cc k)] [] k Tryz.f149 1
theorem Kq {S:Type} (o:Obj) (ho:ae o) (k:Nat):Tl o 149 (Ce k:Rw S):=ah (GW k) ⟨Kp o ho k,trivial⟩ Tryz.func149 (by kernel_rfl) fun d c0 κ x h=>Eq.trans (by kernel_rfl) (aj h)
def Cg {S:Type} (k:Nat):Rw S:=af Ad oq fun s c0 κ=>aa k (ue k s c0) (rM c0 κ)
def s8 {S:Type} (k:Nat):Fx S:=fp 19 [(149,Ce k)] [(2,bq [0,1,7,8] [(1000000,2)],aE 4 5)] k Tryz.f175 1
def AU (c0:Cl) (s:List Cl) (v8:Int):St UU:=⟨[(0,(sC s)),(1,(.func 149 [] [(pt 1000000)])),(7,(.int .i64 (s.length:Int))),(8,(iI v8))],[(1000000,bC c0)],[],[]⟩
section
variable {S:Type} (k:Nat) (s:List Cl) (c0:Cl) (κ:Out UU→Option S)
theorem Ip: ∀n v8,(s8 k).lp κ 2 [] n (AU c0 s v8)=k_ k (rM c0 κ) c0 s n v8:=cL (pg k (rM c0 κ) c0 s) rfl (fun _=>rfl) fun r v8=>by kernel_rfl
end
theorem Ks {S:Type} (o:Obj) (ho:ae o) (k:Nat):Tl o 175 (Cg k:Rw S):=ah (s8 k) ⟨Kq o ho k,trivial⟩ Tryz.func175 (by kernel_rfl) fun s c0 κ x h=>Eq.trans (b:=xF k (rM c0 κ) (fun v8=>(s8 k).lp κ 2 [] k (AU c0 s v8)) s c0) (by kernel_rfl) (Eq.trans (by simp only [Ip];rfl) (aj h))
def Ck {S:Type} (k:Nat):Rw S:=af Ad oq fun s c0 κ=>aa k (ub k s c0) (BV c0 κ)
def G2 {S:Type} (k:Nat):Fx S:=fp 9 [(175,Cg k)] [] k Tryz.f131 1
theorem Kw {S:Type} (o:Obj) (ho:ae o) (k:Nat):Tl o 131 (Ck k:Rw S):=ah (G2 k) ⟨Ks o ho k,trivial⟩ Tryz.func131 (by kernel_rfl) fun s c0 κ x h=>Eq.trans (by kernel_rfl) (aj h)
def Cm {S:Type} (k:Nat):Rw S:=af uR S4 fun c c0 κ=>aa k (pB k c c0) (P2 c0 κ)
def G3 {S:Type} (k:Nat):Fx S:=fp 7 [(131,Ck k)] [] k Tryz.f148 1
theorem Kx {S:Type} (o:Obj) (ho:ae o) (k:Nat):Tl o 148 (Cm k:Rw S):=ah (G3 k) ⟨Kw o ho k,trivial⟩ Tryz.func148 (by kernel_rfl) fun c c0 κ x h=>Eq.trans (by kernel_rfl) (aj h)
def ga {S:Type} (k:Nat):Rw S:=af fT xn fun l κ=>aa k (eL k l) (aN κ)
def lU {S:Type} (k:Nat):Fx S:=fx 55 (fun _=>[]) (fun|53=>true|_=>false) [(146,vQ k),(148,Cm k)] [(4,⟨[(4,.none),(5,.none),(13,.none),(14,.none),(15,.none)],[(5,[some (200320,true)]),(12,[])]⟩,aE 6 23),(15,⟨[(8,.none),(9,some (100009,true)),(34,.none),(35,.none),(36,.none)],[(5,[.none])]⟩,aE 9 191)] k Tryz.f100 false [] 0
def vd (l:List Cl) (b12_0:List (Cl×Bool)) (b5_0:List Cl) (v15:Int):St UU:=⟨[(4,(.mp 12)),(5,(pt 5)),(13,(sC l)),(14,(.int .i64 (l.length:Int))),(15,(iI v15))],[(5,.cells [(.own 200320 0)]),(12,.map ET.C b12_0)],[(200320,⟨0,ET.C,b5_0⟩)],[(200320,.wr)]⟩
def AV (b5_0:List Cl) (v36:Int) (kept9:List Cl):St UU:=⟨[(8,(.func 148 [] [(pt 5)])),(9,(.own 100009 0)),(34,(sC b5_0)),(35,(.int .i64 (b5_0.length:Int))),(36,(iI v36))],[(5,.cells [(sC b5_0)])],[(100009,⟨0,ET.C,kept9⟩)],[(100009,.wr)]⟩
section
variable {S:Type} (k:Nat) (l:List Cl) (κ:Out UU→Option S)
theorem Ir (b5_0): ∀n v36 kept9,(lU k).lp κ 15 [] n (AV b5_0 v36 kept9)=jF k (aN κ) b5_0 n v36 kept9:=bL (oF k (aN κ) b5_0) rfl (fun _=>rfl) fun r v36 kept9=>by kernel_rfl
theorem Iq: ∀n b12_0 b5_0 v15,(lU k).lp κ 4 [] n (vd l b12_0 b5_0 v15)=kI k (aN κ) l n b12_0 b5_0 v15:=lg (fun own=>l9 k (aN κ) l (fun b5_0 v36 kept9=>jF k (aN κ) b5_0 k v36 kept9) own) rfl (fun _=>rfl) fun r b12_0 b5_0 v15=>Eq.trans (b:=l9 k (aN κ) l (fun b5_0 v36 kept9=>(lU k).lp κ 15 [] k (AV b5_0 v36 kept9)) (fun b12_0 b5_0 v15=>r (vd l b12_0 b5_0 v15)) b12_0 b5_0 v15) (by kernel_rfl) (by simp only [Ir])
end
theorem gF {S:Type} (o:Obj) (ho:ae o) (k:Nat):Tl o 100 (ga k:Rw S):=ah (lU k) ⟨zf o ho k,Kx o ho k,trivial⟩ Tryz.func100 (by kernel_rfl) fun l κ x h=>Eq.trans (b:=wV k (aN κ) (fun b12_0 b5_0 v15=>(lU k).lp κ 4 [] k (vd l b12_0 b5_0 v15)) l) (by kernel_rfl) (Eq.trans (by simp only [Iq];rfl) (aj h))
def Cn {S:Type} (k:Nat):Rw S:=af jE xn fun s1 s2 κ=>aa k (p7 k s1 s2) (az κ)
def ta {S:Type} (k:Nat):Fx S:=fp 26 [] [(4,bq [0,1,12,13] [],aE 5 11)] k Tryz.f145 0
def AW (s1 s2:List Cl) (v13:Int):St UU:=⟨[(0,(sC s1)),(1,(sC s2)),(12,(.int .i64 (s1.length:Int))),(13,(iI v13))],[],[],[]⟩
section
variable {S:Type} (k:Nat) (s1 s2:List Cl) (κ:Out UU→Option S)
theorem Is: ∀n v13,(ta k).lp κ 4 [] n (AW s1 s2 v13)=kZ k (az κ) s1 s2 n v13:=cL (pf k (az κ) s1 s2) rfl (fun _=>rfl) fun r v13=>by kernel_rfl
end
theorem Ky {S:Type} (o:Obj) (ho:ae o) (k:Nat):Tl o 145 (Cn k:Rw S):=ah (ta k) trivial Tryz.func145 (by kernel_rfl) fun s1 s2 κ x h=>Eq.trans (b:=xE k (az κ) (fun v13=>(ta k).lp κ 4 [] k (AW s1 s2 v13)) s1 s2) (by kernel_rfl) (Eq.trans (by simp only [Is];rfl) (aj h))
def jY {S:Type} (k:Nat):Rw S:=af fT xn fun f κ=>aa k (eY k f) (az κ)
def G4 {S:Type} (k:Nat):Fx S:=fp 17 [(100,ga k),(145,Cn k)] [] k Tryz.f95 0
theorem kz {S:Type} (o:Obj) (ho:ae o) (k:Nat):Tl o 95 (jY k:Rw S):=ah (G4 k) ⟨gF o ho k,Ky o ho k,trivial⟩ Tryz.func95 (by kernel_rfl) fun f κ x h=>Eq.trans (by kernel_rfl) (aj h)
def nO {S:Type} (k:Nat):Rw S:=af gM xn fun i κ=>aa k (jx k i) (az κ)
def G5 {S:Type} (k:Nat):Fx S:=fp 9 [] [] k Tryz.f130 0
theorem qj {S:Type} (o:Obj) (ho:ae o) (k:Nat):Tl o 130 (nO k:Rw S):=ah (G5 k) trivial Tryz.func130 (by kernel_rfl) fun i κ x h=>Eq.trans (by kernel_rfl) (aj h)
def rQ {S:Type} (k:Nat):Rw S:=af qO xn fun s i κ=>aa k (gD k s i) (iV κ)
def G6 {S:Type} (k:Nat):Fx S:=fp 16 [(130,nO k)] [] k Tryz.f82 0
theorem ul {S:Type} (o:Obj) (ho:ae o) (k:Nat):Tl o 82 (rQ k:Rw S):=ah (G6 k) ⟨qj o ho k,trivial⟩ Tryz.func82 (by kernel_rfl) fun s i κ x h=>Eq.trans (by kernel_rfl) (aj h)
def rR {S:Type} (k:Nat):Rw S:=af fT xn fun f κ=>aa k (kn k f) (iV κ)
def tb {S:Type} (k:Nat):Fx S:=fp 22 [(82,rQ k)] [(3,bq [3,6,7,8] [],aE 5 11)] k Tryz.f38 0
def AX (f:List Cl) (s3 v8:Int):St UU:=⟨[(3,(iU s3)),(6,(sC f)),(7,(.int .i64 (f.length:Int))),(8,(iI v8))],[],[],[]⟩
section
variable {S:Type} (k:Nat) (f:List Cl) (κ:Out UU→Option S)
theorem It: ∀n s3 v8,(tb k).lp κ 3 [] n (AX f s3 v8)=kP k (iV κ) f n s3 v8:=bL (oS k (iV κ) f) rfl (fun _=>rfl) fun r s3 v8=>by kernel_rfl
end
theorem um {S:Type} (o:Obj) (ho:ae o) (k:Nat):Tl o 38 (rR k:Rw S):=ah (tb k) ⟨ul o ho k,trivial⟩ Tryz.func38 (by kernel_rfl) fun f κ x h=>Eq.trans (b:=xh k (iV κ) (fun s3 v8=>(tb k).lp κ 3 [] k (AX f s3 v8)) f) (by kernel_rfl) (Eq.trans (by simp only [It];rfl) (aj h))
def Co {S:Type} (k:Nat):Rw S:=af Mi xn fun f dims κ=>aa k (ij k f dims) (az κ)
def G7 {S:Type} (k:Nat):Fx S:=fp 15 [(38,rR k)] [] k Tryz.f174 0
theorem Kz {S:Type} (o:Obj) (ho:ae o) (k:Nat):Tl o 174 (Co k:Rw S):=ah (G7 k) ⟨um o ho k,trivial⟩ Tryz.func174 (by kernel_rfl) fun f dims κ x h=>Eq.trans (by kernel_rfl) (aj h)
def vS {S:Type} (k:Nat):Rw S:=af qN xn fun c κ=>aa k (mG k c) (az κ)
def G8 {S:Type} (k:Nat):Fx S:=fp 9 [] [] k Tryz.f132 0
theorem zg {S:Type} (o:Obj) (ho:ae o) (k:Nat):Tl o 132 (vS k:Rw S):=ah (G8 k) trivial Tryz.func132 (by kernel_rfl) fun c κ x h=>Eq.trans (by kernel_rfl) (aj h)
def Cp {S:Type} (k:Nat):Rw S:=af Ae xn fun s κ=>aa k (uf k s) (bw κ)
def tc {S:Type} (k:Nat):Fx S:=fp 19 [(132,vS k)] [(2,bq [0,1,7,8] [],aE 4 5)] k Tryz.f175 0
def AY (s:List Cl) (v8:Int):St UU:=⟨[(0,(sC s)),(1,(.func 132 [] [])),(7,(.int .i64 (s.length:Int))),(8,(iI v8))],[],[],[]⟩
section
variable {S:Type} (k:Nat) (s:List Cl) (κ:Out UU→Option S)
theorem Iu: ∀n v8,(tc k).lp κ 2 [] n (AY s v8)=la k (bw κ) s n v8:=cL (ph k (bw κ) s) rfl (fun _=>rfl) fun r v8=>by kernel_rfl
end
theorem KA {S:Type} (o:Obj) (ho:ae o) (k:Nat):Tl o 175 (Cp k:Rw S):=ah (tc k) ⟨zg o ho k,trivial⟩ Tryz.func175 (by kernel_rfl) fun s κ x h=>Eq.trans (b:=xG k (bw κ) (fun v8=>(tc k).lp κ 2 [] k (AY s v8)) s) (by kernel_rfl) (Eq.trans (by simp only [Iu];rfl) (aj h))
def Cr {S:Type} (k:Nat):Rw S:=af Ae xn fun s κ=>aa k (uc k s) (az κ)
def G_ {S:Type} (k:Nat):Fx S:=fp 9 [(175,Cp k)] [] k Tryz.f131 0
theorem KB {S:Type} (o:Obj) (ho:ae o) (k:Nat):Tl o 131 (Cr k:Rw S):=ah (G_ k) ⟨KA o ho k,trivial⟩ Tryz.func131 (by kernel_rfl) fun s κ x h=>Eq.trans (by kernel_rfl) (aj h)
def nQ {S:Type} (k:Nat):Rw S:=af fT xn fun f κ=>aa k (hY k f) (az κ)
def Ha {S:Type} (k:Nat):Fx S:=fp 10 [(95,jY k),(131,Cr k)] [] k Tryz.f84 0
theorem qk {S:Type} (o:Obj) (ho:ae o) (k:Nat):Tl o 84 (nQ k:Rw S):=ah (Ha k) ⟨kz o ho k,KB o ho k,trivial⟩ Tryz.func84 (by kernel_rfl) fun f κ x h=>Eq.trans (by kernel_rfl) (aj h)
def Ct {S:Type} (k:Nat):Rw S:=af qP xn fun t vars dims κ=>aa k (mS k t vars dims) (az κ)
def lV {S:Type} (k:Nat):Fx S:=fp 138 [(84,nQ k),(95,jY k),(171,B3 k),(172,B7 k),(173,Ca k),(174,Co k)] [(1000003,bq [1,2,3] [(3,6)],aE 2 3),(15,bq [2,3,107,108,109] [(3,6)],aE 6 23)] k Tryz.f127 0
def AZ (t:Tm) (vars dims:Int):St UU:=⟨[(1,(iI vars)),(2,(iI dims)),(3,(pt 3))],[(3,bT t)],[],[]⟩
def A0 (t:Tm) (dims:Int) (v109:Int):St UU:=⟨[(2,(iI dims)),(3,(pt 3)),(107,(sB t.sys)),(108,(.int .i64 (t.sys.length:Int))),(109,(iI v109))],[(3,bT t)],[],[]⟩
section
variable {S:Type} (k:Nat) (t:Tm) (vars dims:Int) (κ:Out UU→Option S)
theorem Iw: ∀n v109,(lV k).lp κ 15 [] n (A0 t dims v109)=gQ k (az κ) t dims n v109:=cL (pm k (az κ) t dims) rfl (fun _=>rfl) fun r v109=>by kernel_rfl
theorem Iv: ∀n,(lV k).jn κ 1000003 [] n (AZ t vars dims)=qR k (az κ) t vars dims n:=Md (mu k (az κ) t vars dims (fun v109=>gQ k (az κ) t dims k v109)) rfl (fun _=>rfl) (Eq.trans (b:=mu k (az κ) t vars dims (fun v109=>(lV k).lp κ 15 [] k (A0 t dims v109))) (by kernel_rfl) (by simp only [Iw]))
end
theorem KC {S:Type} (o:Obj) (ho:ae o) (k:Nat):Tl o 127 (Ct k:Rw S):=ah (lV k) ⟨qk o ho k,kz o ho k,Ke o ho k,Ki o ho k,Km o ho k,Kz o ho k,trivial⟩ Tryz.func127 (by kernel_rfl) fun t vars dims κ x h=>Eq.trans (b:=xM k (az κ) ((lV k).jn κ 1000003 [] k (AZ t vars dims)) t vars dims) (by kernel_rfl) (Eq.trans (by simp only [Iv];rfl) (aj h))
def lw {S:Type} (hd:cr S):Rw S:=af Mj xn fun t vars dims bound κ=>hd t vars dims bound (az κ)
def Cu {S:Type} (hd:cr S) (k:Nat):Rw S:=af Mk Gm fun a_k v d c0 c1 c2 κ=>aa k (mR hd k a_k v d c0 c1 c2) (eC c0 c1 c2 κ)
def Hc {S:Type} (hd:cr S) (k:Nat):Fx S:=fp 21 [(81,lw hd)] [] k Tryz.f129 3
theorem KD {S:Type} (o:Obj) (ho:ae o) (hd:cr S) (Hd:Tl o 81 (lw hd)) (k:Nat):Tl o 129 (Cu hd k:Rw S):=ah (Hc hd k) ⟨Hd,trivial⟩ Tryz.func129 (by kernel_rfl) fun a_k v d c0 c1 c2 κ x h=>Eq.trans (by kernel_rfl) (aj h)
def Cv {S:Type} (hd:cr S) (k:Nat):Rw S:=af Ml Gm fun t c0 c1 c2 κ=>aa k (p9 hd k t c0 c1 c2) (eC c0 c1 c2 κ)
def jf {S:Type} (hd:cr S) (k:Nat):Fx S:=fp 60 [(110,lv k),(129,Cu hd k)] [(2,bq [1,2,15,16,17] [(2,6),(1000000,1),(1000001,1),(1000002,1)],aE 4 5),(12,bq [1,9,40,41,42] [(1000000,1),(1000001,1),(1000002,1)],aE 7 47),(15,bq [1,9,40,41,42,47,48,49] [(1000000,1),(1000001,1),(1000002,1)],aE 15 13103)] k Tryz.f128 3
def ve (c0 c1:Int) (c2:Bool) (t:Tm) (v17:Int):St UU:=⟨[(1,(.func 129 [] [(pt 1000000),(pt 1000001),(pt 1000002)])),(2,(pt 2)),(15,(sT t.kids)),(16,(.int .i64 (t.kids.length:Int))),(17,(iI v17))],[(2,bT t),(1000000,bI c0),(1000001,bI c1),(1000002,.cells [(.bool c2)])],[],[]⟩
def nw (c0 c1:Int) (c2:Bool) (t:Tm) (v42 more9:Int):St UU:=⟨[(1,(.func 129 [] [(pt 1000000),(pt 1000001),(pt 1000002)])),(9,(iI more9)),(40,(sB t.sys)),(41,(.int .i64 (t.sys.length:Int))),(42,(iI v42))],[(1000000,bI c0),(1000001,bI c1),(1000002,.cells [(.bool c2)])],[],[]⟩
def A1 (c0 c1:Int) (c2:Bool) (t:Tm) (v42:Int) (x4:(Br Tm)) (more9:Int) (v49:Int):St UU:=⟨[(1,(.func 129 [] [(pt 1000000),(pt 1000001),(pt 1000002)])),(9,(iI more9)),(40,(sB t.sys)),(41,(.int .i64 (t.sys.length:Int))),(42,(iI v42)),(47,(sT x4.kids)),(48,(.int .i64 (x4.kids.length:Int))),(49,(iI v49))],[(1000000,bI c0),(1000001,bI c1),(1000002,.cells [(.bool c2)])],[],[]⟩
section
variable {S:Type} (hd:cr S) (k:Nat) (t:Tm) (c0 c1:Int) (c2:Bool) (κ:Out UU→Option S)
theorem Iz (v42 x4 more9 κ1): ∀n v49,(jf hd k).lp κ 15 [κ1] n (A1 c0 c1 c2 t v42 x4 more9 v49)=iJ hd k (eC c0 c1 c2 κ) (fun v42 more9=>κ1 (nw c0 c1 c2 t v42 more9)) c0 c1 c2 t v42 x4 more9 n v49:=cL (pj hd k (eC c0 c1 c2 κ) c0 c1 c2 t v42 x4 more9 (fun v42 more9=>κ1 (nw c0 c1 c2 t v42 more9))) rfl (fun _=>rfl) fun r v49=>by kernel_rfl
theorem Iy: ∀n v42 more9,(jf hd k).lp κ 12 [] n (nw c0 c1 c2 t v42 more9)=fg hd k (eC c0 c1 c2 κ) c0 c1 c2 t n v42 more9:=bL (fun own=>mn hd k (eC c0 c1 c2 κ) c0 c1 c2 t (fun v42 x4 more9 v49=>iJ hd k (eC c0 c1 c2 κ) own c0 c1 c2 t v42 x4 more9 k v49) own) rfl (fun _=>rfl) fun r v42 more9=>Eq.trans (b:=mn hd k (eC c0 c1 c2 κ) c0 c1 c2 t (fun v42 x4 more9 v49=>(jf hd k).lp κ 15 [r] k (A1 c0 c1 c2 t v42 x4 more9 v49)) (fun v42 more9=>r (nw c0 c1 c2 t v42 more9)) v42 more9) (by kernel_rfl) (by simp only [Iz])
theorem Ix: ∀n v17,(jf hd k).lp κ 2 [] n (ve c0 c1 c2 t v17)=jO hd k (eC c0 c1 c2 κ) c0 c1 c2 t n v17:=cL (fun own=>mm hd k (eC c0 c1 c2 κ) c0 c1 c2 t (fun v42 more9=>fg hd k (eC c0 c1 c2 κ) c0 c1 c2 t k v42 more9) own) rfl (fun _=>rfl) fun r v17=>Eq.trans (b:=mm hd k (eC c0 c1 c2 κ) c0 c1 c2 t (fun v42 more9=>(jf hd k).lp κ 12 [] k (nw c0 c1 c2 t v42 more9)) (fun v17=>r (ve c0 c1 c2 t v17)) v17) (by kernel_rfl) (by simp only [Iy])
end
theorem KE {S:Type} (o:Obj) (ho:ae o) (hd:cr S) (Hd:Tl o 81 (lw hd)) (k:Nat):Tl o 128 (Cv hd k:Rw S):=ah (jf hd k) ⟨m0 o ho k,KD o ho hd Hd k,trivial⟩ Tryz.func128 (by kernel_rfl) fun t c0 c1 c2 κ x h=>Eq.trans (b:=xJ hd k (eC c0 c1 c2 κ) (fun v17=>(jf hd k).lp κ 2 [] k (ve c0 c1 c2 t v17)) t c0 c1 c2) (by kernel_rfl) (Eq.trans (by simp only [Ix];rfl) (aj h))
def Hb {S:Type} (hd:cr S) (k:Nat):Fx S:=fp 24 [(127,Ct k),(128,Cv hd k)] [] k Tryz.f81 0
theorem uE {S:Type} (o:Obj) (ho:ae o): ∀k:Nat,Tl o 81 (lw (d9 k:cr S))
 |0=>gZ fun t vars dims bound κ x h=>by cases h
 |k+1=>ah (Hb (d9 k) k) ⟨KC o ho k,KE o ho (d9 k) (uE o ho k) k,trivial⟩ Tryz.func81 (by kernel_rfl) fun t vars dims bound κ x h=>Eq.trans (by kernel_rfl) h
def lx {S:Type} (k:Nat):Rw S:=af uP xn fun t κ=>aa k (ie k t) (bw κ)
def He {S:Type} (k:Nat):Fx S:=fp 12 [(80,vH k),(81,lw (d9 k))] [] k Tryz.f91 0
theorem m6 {S:Type} (o:Obj) (ho:ae o) (k:Nat):Tl o 91 (lx k:Rw S):=ah (He k) ⟨y7 o ho k,uE o ho k,trivial⟩ Tryz.func91 (by kernel_rfl) fun t κ x h=>Eq.trans (by kernel_rfl) (aj h)
def iW {S:Type} (k:Nat):Rw S:=af Mm eH fun a_e c0 κ=>aa k (eX k a_e c0) (Pz κ)
def Hf {S:Type} (k:Nat):Fx S:=fp 13 [] [] k Tryz.f85 1
theorem jy {S:Type} (o:Obj) (ho:ae o) (k:Nat):Tl o 85 (iW k:Rw S):=ah (Hf k) trivial Tryz.func85 (by kernel_rfl) fun a_e c0 κ x h=>Eq.trans (by kernel_rfl) (aj h)
def vT {S:Type} (k:Nat):Rw S:=af Mn xn fun l κ=>aa k (mF k l) (rB κ)
def td {S:Type} (k:Nat):Fx S:=fp 22 [(85,iW k),(91,lx k)] [(3,bq [3,8,9,10] [(7,1)],aE 5 11)] k Tryz.f48 0
def A2 (l:List Tm) (b7_0 v10:Int):St UU:=⟨[(3,(pt 7)),(8,(sT l)),(9,(.int .i64 (l.length:Int))),(10,(iI v10))],[(7,bI b7_0)],[],[]⟩
section
variable {S:Type} (k:Nat) (l:List Tm) (κ:Out UU→Option S)
theorem IA: ∀n b7_0 v10,(td k).lp κ 3 [] n (A2 l b7_0 v10)=kH k (rB κ) l n b7_0 v10:=bL (oE k (rB κ) l) rfl (fun _=>rfl) fun r b7_0 v10=>by kernel_rfl
end
theorem zh {S:Type} (o:Obj) (ho:ae o) (k:Nat):Tl o 48 (vT k:Rw S):=ah (td k) ⟨jy o ho k,m6 o ho k,trivial⟩ Tryz.func48 (by kernel_rfl) fun l κ x h=>Eq.trans (b:=wP k (rB κ) (fun b7_0 v10=>(td k).lp κ 3 [] k (A2 l b7_0 v10)) l) (by kernel_rfl) (Eq.trans (by simp only [IA];rfl) (aj h))
def jZ {S:Type} (k:Nat):Rw S:=af Mo eH fun c0 κ=>aa k (cG k c0) (dX c0 κ)
def Hh {S:Type} (k:Nat):Fx S:=fp 8 [] [] k Tryz.f52 1
theorem kA {S:Type} (o:Obj) (ho:ae o) (k:Nat):Tl o 52 (jZ k:Rw S):=ah (Hh k) trivial Tryz.func52 (by kernel_rfl) fun c0 κ x h=>Eq.trans (by kernel_rfl) (aj h)
def rS {S:Type} (k:Nat):Rw S:=af Ag xn fun l κ=>aa k (kq k l) (bw κ)
def te {S:Type} (k:Nat):Fx S:=fp 15 [(95,jY k)] [(2,bq [5,6,7] [],aE 4 5)] k Tryz.f96 0
def A3 (l:List (List Cl)) (v7:Int):St UU:=⟨[(5,(sq l .none)),(6,(.int .i64 (l.length:Int))),(7,(iI v7))],[],[],[]⟩
section
variable {S:Type} (k:Nat) (l:List (List Cl)) (κ:Out UU→Option S)
theorem IB: ∀n v7,(te k).lp κ 2 [] n (A3 l v7)=kU k (bw κ) l n v7:=cL (oY k (bw κ) l) rfl (fun _=>rfl) fun r v7=>by kernel_rfl
end
theorem uo {S:Type} (o:Obj) (ho:ae o) (k:Nat):Tl o 96 (rS k:Rw S):=ah (te k) ⟨kz o ho k,trivial⟩ Tryz.func96 (by kernel_rfl) fun l κ x h=>Eq.trans (b:=xt k (bw κ) (fun v7=>(te k).lp κ 2 [] k (A3 l v7)) l) (by kernel_rfl) (Eq.trans (by simp only [IB];rfl) (aj h))
def rT {S:Type} (k:Nat):Rw S:=af cn xn fun κ=>aa k (ju k) (PA κ)
def Hi {S:Type} (k:Nat):Fx S:=fx 1 (fun _=>[]) (fun _=>false) [] [] k Tryz.f21 false [true] 0
theorem up {S:Type} (o:Obj) (ho:ae o) (k:Nat):Tl o 21 (rT k:Rw S):=ah (Hi k) trivial Tryz.func21 (by kernel_rfl) fun κ x h=>Eq.trans (by kernel_rfl) (aj h)
def vU {S:Type} (k:Nat):Rw S:=af gM xn fun i κ=>aa k (kw k i) (iV κ)
def Hj {S:Type} (k:Nat):Fx S:=fp 9 [] [] k Tryz.f163 0
theorem zi {S:Type} (o:Obj) (ho:ae o) (k:Nat):Tl o 163 (vU k:Rw S):=ah (Hj k) trivial Tryz.func163 (by kernel_rfl) fun i κ x h=>Eq.trans (by kernel_rfl) (aj h)
def Cx {S:Type} (k:Nat):Rw S:=af Mp xn fun s a_from a_by κ=>aa k (h_ k s a_from a_by) (PB κ)
def Hk {S:Type} (k:Nat):Fx S:=fp 46 [(163,vU k)] [] k Tryz.f147 0
theorem KG {S:Type} (o:Obj) (ho:ae o) (k:Nat):Tl o 147 (Cx k:Rw S):=ah (Hk k) ⟨zi o ho k,trivial⟩ Tryz.func147 (by kernel_rfl) fun s a_from a_by κ x h=>Eq.trans (by kernel_rfl) (aj h)
def Cy {S:Type} (k:Nat):Rw S:=af Mq xn fun c a_from a_by κ=>aa k (pD k c a_from a_by) (PC κ)
def Hl {S:Type} (k:Nat):Fx S:=fp 42 [(146,vQ k),(147,Cx k)] [] k Tryz.f99 0
theorem KH {S:Type} (o:Obj) (ho:ae o) (k:Nat):Tl o 99 (Cy k:Rw S):=ah (Hl k) ⟨zf o ho k,KG o ho k,trivial⟩ Tryz.func99 (by kernel_rfl) fun c a_from a_by κ x h=>Eq.trans (by kernel_rfl) (aj h)
def Cz {S:Type} (k:Nat):Rw S:=af Mr sN fun a_have c c0 c1 κ=>aa k (tY k a_have c c0 c1) (PD c0 c1 κ)
def Hm {S:Type} (k:Nat):Fx S:=fx 22 (fun _=>[]) (fun _=>false) [(99,Cy k)] [] k Tryz.f98 false [true,false] 2
theorem KJ {S:Type} (o:Obj) (ho:ae o) (k:Nat):Tl o 98 (Cz k:Rw S):=ah (Hm k) ⟨KH o ho k,trivial⟩ Tryz.func98 (by kernel_rfl) fun a_have c c0 c1 κ x h=>Eq.trans (by kernel_rfl) (aj h)
end
end Go.Proofs.YtapmagaejigpnaaGreatDoor
namespace Go.Proofs.YtapmagaejigpnaaGreatDoor
open Go PI
set_option linter.unusedVariables false
set_option maxRecDepth 100000
noncomputable section
def CA {S:Type} (k:Nat):Rw S:=af Ms sN fun l a_from c0 c1 κ=>aa k (pV k l a_from c0 c1) (rC c0 c1 κ)
def tf {S:Type} (k:Nat):Fx S:=fx 33 (fun|23=>[true,false]|_=>[]) (fun _=>false) [(98,Cz k)] [(2,⟨[(1,some (100001,true)),(2,.none),(13,.none),(14,.none),(15,.none)],[(1000000,[.none]),(1000001,[.none])]⟩,aE 4 5)] k Tryz.f97 false [] 2
def A4 (c0 c1:Int) (l:List Cl) (v1:List Cl) (v15:Int):St UU:=⟨[(1,(.own 100001 0)),(2,(.func 98 [] [(pt 1000000),(pt 1000001)])),(13,(sC l)),(14,(.int .i64 (l.length:Int))),(15,(iI v15))],[(1000000,bI c0),(1000001,bI c1)],[(100001,⟨0,ET.C,v1⟩)],[(100001,.wr)]⟩
section
variable {S:Type} (k:Nat) (l a_from:List Cl) (c0 c1:Int) (κ:Out UU→Option S)
theorem IC: ∀n v1 v15,(tf k).lp κ 2 [] n (A4 c0 c1 l v1 v15)=kS k (rC c0 c1 κ) c0 c1 l n v1 v15:=bL (oV k (rC c0 c1 κ) c0 c1 l) rfl (fun _=>rfl) fun r v1 v15=>by kernel_rfl
end
theorem KK {S:Type} (o:Obj) (ho:ae o) (k:Nat):Tl o 97 (CA k:Rw S):=ah (tf k) ⟨KJ o ho k,trivial⟩ Tryz.func97 (by kernel_rfl) fun l a_from c0 c1 κ x h=>Eq.trans (b:=xm k (rC c0 c1 κ) (fun v1 v15=>(tf k).lp κ 2 [] k (A4 c0 c1 l v1 v15)) l a_from c0 c1) (by kernel_rfl) (Eq.trans (by simp only [IC];rfl) (aj h))
def ly {S:Type} (k:Nat):Rw S:=af Mt xn fun f a_from a_by κ=>aa k (hZ k f a_from a_by) (aN κ)
def Hn {S:Type} (k:Nat):Fx S:=fx 31 (fun|21=>[false,true,false]|_=>[]) (fun _=>false) [(21,rT k),(96,rS k),(97,CA k),(100,ga k)] [] k Tryz.f57 false [] 0
theorem m7 {S:Type} (o:Obj) (ho:ae o) (k:Nat):Tl o 57 (ly k:Rw S):=ah (Hn k) ⟨up o ho k,uo o ho k,KK o ho k,gF o ho k,trivial⟩ Tryz.func57 (by kernel_rfl) fun f a_from a_by κ x h=>Eq.trans (by kernel_rfl) (aj h)
def vV {S:Type} (k:Nat):Rw S:=af Mu eH fun f c0 κ=>aa k (gA k f c0) (BS κ)
def Ho {S:Type} (k:Nat):Fx S:=fp 23 [(52,jZ k),(57,ly k),(85,iW k)] [] k Tryz.f53 1
theorem zj {S:Type} (o:Obj) (ho:ae o) (k:Nat):Tl o 53 (vV k:Rw S):=ah (Ho k) ⟨kA o ho k,m7 o ho k,jy o ho k,trivial⟩ Tryz.func53 (by kernel_rfl) fun f c0 κ x h=>Eq.trans (by kernel_rfl) (aj h)
def CC {S:Type} (k:Nat):Rw S:=af Ag xn fun l κ=>aa k (pQ k l) (bw κ)
def tg {S:Type} (k:Nat):Fx S:=fp 15 [(84,nQ k)] [(2,bq [5,6,7] [],aE 4 5)] k Tryz.f176 0
def A5 (l:List (List Cl)) (v7:Int):St UU:=⟨[(5,(sq l .none)),(6,(.int .i64 (l.length:Int))),(7,(iI v7))],[],[],[]⟩
section
variable {S:Type} (k:Nat) (l:List (List Cl)) (κ:Out UU→Option S)
theorem ID: ∀n v7,(tg k).lp κ 2 [] n (A5 l v7)=kO k (bw κ) l n v7:=cL (oR k (bw κ) l) rfl (fun _=>rfl) fun r v7=>by kernel_rfl
end
theorem KM {S:Type} (o:Obj) (ho:ae o) (k:Nat):Tl o 176 (CC k:Rw S):=ah (tg k) ⟨qk o ho k,trivial⟩ Tryz.func176 (by kernel_rfl) fun l κ x h=>Eq.trans (b:=xg k (bw κ) (fun v7=>(tg k).lp κ 2 [] k (A5 l v7)) l) (by kernel_rfl) (Eq.trans (by simp only [ID];rfl) (aj h))
def vW {S:Type} (k:Nat):Rw S:=af jE xn fun f g κ=>aa k (mO k f g) (aN κ)
def Hp {S:Type} (k:Nat):Fx S:=fp 14 [(100,ga k)] [] k Tryz.f162 0
theorem zk {S:Type} (o:Obj) (ho:ae o) (k:Nat):Tl o 162 (vW k:Rw S):=ah (Hp k) ⟨gF o ho k,trivial⟩ Tryz.func162 (by kernel_rfl) fun f g κ x h=>Eq.trans (by kernel_rfl) (aj h)
def CD {S:Type} (k:Nat):Rw S:=af jE xn fun f g κ=>aa k (pJ k f g) (aN κ)
def Hq {S:Type} (k:Nat):Fx S:=fp 19 [(162,vW k),(176,CC k)] [] k Tryz.f133 0
theorem KN {S:Type} (o:Obj) (ho:ae o) (k:Nat):Tl o 133 (CD k:Rw S):=ah (Hq k) ⟨zk o ho k,KM o ho k,trivial⟩ Tryz.func133 (by kernel_rfl) fun f g κ x h=>Eq.trans (by kernel_rfl) (aj h)
def CE {S:Type} (k:Nat):Rw S:=af Mv eH fun f g c0 κ=>aa k (hU k f g c0) (BS κ)
def Hr {S:Type} (k:Nat):Fx S:=fp 26 [(52,jZ k),(85,iW k),(133,CD k)] [] k Tryz.f86 1
theorem KO {S:Type} (o:Obj) (ho:ae o) (k:Nat):Tl o 86 (CE k:Rw S):=ah (Hr k) ⟨kA o ho k,jy o ho k,KN o ho k,trivial⟩ Tryz.func86 (by kernel_rfl) fun f g c0 κ x h=>Eq.trans (by kernel_rfl) (aj h)
def CF {S:Type} (k:Nat):Rw S:=af Mw xn fun l_0 l_1 f a_from κ=>aa k (mP k l_0 l_1 f a_from) (PF κ)
def Hs {S:Type} (k:Nat):Fx S:=fp 31 [(57,ly k)] [] k Tryz.f190 0
theorem KP {S:Type} (o:Obj) (ho:ae o) (k:Nat):Tl o 190 (CF k:Rw S):=ah (Hs k) ⟨m7 o ho k,trivial⟩ Tryz.func190 (by kernel_rfl) fun l_0 l_1 f a_from κ x h=>Eq.trans (by kernel_rfl) (aj h)
def rU {S:Type} (hd:d6 S):Rw S:=af Mx xn fun l_0 l_1 t v d κ=>hd l_0 l_1 t v d (dv κ)
def gn {S:Type} (hd:d6 S) (k:Nat):Fx S:=fp 128 [(110,lv k),(141,rU hd),(190,CF k)] [(1000006,⟨[(2,.none),(3,.none),(4,.none),(5,.none),(8,.none),(9,.none)],[(4,[.none,.none]),(5,[.none,.none,.none,.none,.none,.none]),(8,[.none,.none,.none,some (200515,true),some (200516,true),some (200517,true)]),(9,[.none,.none,.none,.none,some (200580,true),some (200581,true)])]⟩,aE 3 7),(7,⟨[(2,.none),(3,.none),(4,.none),(5,.none),(8,.none),(9,.none),(55,.none),(56,.none),(57,.none)],[(4,[.none,.none]),(5,[.none,.none,.none,.none,.none,.none]),(8,[.none,.none,.none,some (200515,true),some (200516,true),some (200517,true)]),(9,[.none,.none,.none,.none,some (200580,true),some (200581,true)])]⟩,aE 6 23),(16,⟨[(2,.none),(3,.none),(4,.none),(8,.none),(9,.none),(14,.none),(88,.none),(89,.none),(90,.none)],[(4,[.none,.none]),(8,[.none,.none,.none,some (200515,true),some (200516,true),some (200517,true)]),(9,[.none,.none,.none,.none,some (200580,true),some (200581,true)])]⟩,aE 9 191),(20,⟨[(2,.none),(3,.none),(4,.none),(8,.none),(9,.none),(14,.none),(17,.none),(88,.none),(89,.none),(90,.none),(101,.none),(102,.none),(103,.none)],[(4,[.none,.none]),(8,[.none,.none,.none,some (200515,true),some (200516,true),some (200517,true)]),(9,[.none,.none,.none,.none,some (200580,true),some (200581,true)]),(17,[.none,some (201089,true)])]⟩,aE 19 183487)] k Tryz.f141 0
def A6 (l_0 l_1:Int) (t:Tm) (r2:List Cl) (v d:Int) (b9_1:Int):St UU:=⟨[(2,(iI v)),(3,(iI d)),(4,(pt 4)),(5,(pt 5)),(8,(pt 8)),(9,(pt 9))],[(4,.cells [(iI l_0),(iI l_1)]),(5,bT t),(8,.cells [(iI 0),(iI 0),(.str ByteArray.empty),(.own 200515 0),(.own 200516 0),(.own 200517 0)]),(9,.cells [(iI t.kind),(iI b9_1),(.str t.name),(sC r2),(.own 200580 0),(.own 200581 0)])],[(200581,⟨0,ET.B,([]:List (Br Tm))⟩),(200580,⟨0,ET.T,([]:List Tm)⟩),(200517,⟨0,ET.B,([]:List (Br Tm))⟩),(200516,⟨0,ET.T,([]:List Tm)⟩),(200515,⟨0,ET.C,([]:List Cl)⟩)],[(200581,.wr),(200580,.wr),(200517,.wr),(200516,.wr),(200515,.wr)]⟩
def vf (l_0 l_1:Int) (t:Tm) (b9_1:Int) (r2:List Cl) (v d:Int) (b9_4:List Tm) (v57:Int):St UU:=⟨[(2,(iI v)),(3,(iI d)),(4,(pt 4)),(5,(pt 5)),(8,(pt 8)),(9,(pt 9)),(55,(sT t.kids)),(56,(.int .i64 (t.kids.length:Int))),(57,(iI v57))],[(4,.cells [(iI l_0),(iI l_1)]),(5,bT t),(8,.cells [(iI 0),(iI 0),(.str ByteArray.empty),(.own 200515 0),(.own 200516 0),(.own 200517 0)]),(9,.cells [(iI t.kind),(iI b9_1),(.str t.name),(sC r2),(.own 200580 0),(.own 200581 0)])],[(200581,⟨0,ET.B,([]:List (Br Tm))⟩),(200580,⟨0,ET.T,b9_4⟩),(200517,⟨0,ET.B,([]:List (Br Tm))⟩),(200516,⟨0,ET.T,([]:List Tm)⟩),(200515,⟨0,ET.C,([]:List Cl)⟩)],[(200581,.wr),(200580,.wr),(200517,.wr),(200516,.wr),(200515,.wr)]⟩
def nx (l_0 l_1:Int) (t:Tm) (b9_1:Int) (r2:List Cl) (b9_4:List Tm) (v d:Int) (b9_5:List (Br Tm)) (more14 v90:Int):St UU:=⟨[(2,(iI v)),(3,(iI d)),(4,(pt 4)),(8,(pt 8)),(9,(pt 9)),(14,(iI more14)),(88,(sB t.sys)),(89,(.int .i64 (t.sys.length:Int))),(90,(iI v90))],[(4,.cells [(iI l_0),(iI l_1)]),(8,.cells [(iI 0),(iI 0),(.str ByteArray.empty),(.own 200515 0),(.own 200516 0),(.own 200517 0)]),(9,.cells [(iI t.kind),(iI b9_1),(.str t.name),(sC r2),(.own 200580 0),(.own 200581 0)])],[(200581,⟨0,ET.B,b9_5⟩),(200580,⟨0,ET.T,b9_4⟩),(200517,⟨0,ET.B,([]:List (Br Tm))⟩),(200516,⟨0,ET.T,([]:List Tm)⟩),(200515,⟨0,ET.C,([]:List Cl)⟩)],[(200581,.wr),(200580,.wr),(200517,.wr),(200516,.wr),(200515,.wr)]⟩
def A7 (r12:List Cl) (l_0 l_1:Int) (t:Tm) (b9_1:Int) (r2:List Cl) (b9_4:List Tm) (b9_5:List (Br Tm)) (x10:(Br Tm)) (more14 v d v90:Int) (b17_1:List Tm) (v103:Int):St UU:=⟨[(2,(iI v)),(3,(iI d)),(4,(pt 4)),(8,(pt 8)),(9,(pt 9)),(14,(iI more14)),(17,(pt 17)),(88,(sB t.sys)),(89,(.int .i64 (t.sys.length:Int))),(90,(iI v90)),(101,(sT x10.kids)),(102,(.int .i64 (x10.kids.length:Int))),(103,(iI v103))],[(4,.cells [(iI l_0),(iI l_1)]),(8,.cells [(iI 0),(iI 0),(.str ByteArray.empty),(.own 200515 0),(.own 200516 0),(.own 200517 0)]),(9,.cells [(iI t.kind),(iI b9_1),(.str t.name),(sC r2),(.own 200580 0),(.own 200581 0)]),(17,.cells [(sC r12),(.own 201089 0)])],[(201089,⟨0,ET.T,b17_1⟩),(200581,⟨0,ET.B,b9_5⟩),(200580,⟨0,ET.T,b9_4⟩),(200517,⟨0,ET.B,([]:List (Br Tm))⟩),(200516,⟨0,ET.T,([]:List Tm)⟩),(200515,⟨0,ET.C,([]:List Cl)⟩)],[(201089,.wr),(200581,.wr),(200580,.wr),(200517,.wr),(200516,.wr),(200515,.wr)]⟩
section
variable {S:Type} (hd:d6 S) (k:Nat) (l_0 l_1:Int) (t:Tm) (v d:Int) (κ:Out UU→Option S)
theorem IH (r12 b9_1 r2 b9_4 b9_5 x10 more14 v90 κ2): ∀n b17_1 v103,(gn hd k).lp κ 20 [κ2] n (A7 r12 l_0 l_1 t b9_1 r2 b9_4 b9_5 x10 more14 v d v90 b17_1 v103)=iH hd k (dv κ) (fun b9_5 more14 v90=>κ2 (nx l_0 l_1 t b9_1 r2 b9_4 v d b9_5 more14 v90)) r12 l_0 l_1 t b9_1 r2 b9_4 b9_5 x10 more14 v d v90 n b17_1 v103:=bL (o_ hd k (dv κ) r12 l_0 l_1 t b9_1 r2 b9_4 b9_5 x10 more14 v d v90 (fun b9_5 more14 v90=>κ2 (nx l_0 l_1 t b9_1 r2 b9_4 v d b9_5 more14 v90))) rfl (fun _=>rfl) fun r b17_1 v103=>by kernel_rfl
theorem IG (b9_1 r2 b9_4): ∀n b9_5 more14 v90,(gn hd k).lp κ 16 [] n (nx l_0 l_1 t b9_1 r2 b9_4 v d b9_5 more14 v90)=dV hd k (dv κ) l_0 l_1 t b9_1 r2 b9_4 v d n b9_5 more14 v90:=lg (fun own=>mg hd k (dv κ) l_0 l_1 t b9_1 r2 b9_4 v d (fun r12 b9_5 x10 more14 v90 b17_1 v103=>iH hd k (dv κ) own r12 l_0 l_1 t b9_1 r2 b9_4 b9_5 x10 more14 v d v90 k b17_1 v103) own) rfl (fun _=>rfl) fun r b9_5 more14 v90=>Eq.trans (b:=mg hd k (dv κ) l_0 l_1 t b9_1 r2 b9_4 v d (fun r12 b9_5 x10 more14 v90 b17_1 v103=>(gn hd k).lp κ 20 [r] k (A7 r12 l_0 l_1 t b9_1 r2 b9_4 b9_5 x10 more14 v d v90 b17_1 v103)) (fun b9_5 more14 v90=>r (nx l_0 l_1 t b9_1 r2 b9_4 v d b9_5 more14 v90)) b9_5 more14 v90) (by kernel_rfl) (by simp only [IH])
theorem IF (b9_1 r2): ∀n b9_4 v57,(gn hd k).lp κ 7 [] n (vf l_0 l_1 t b9_1 r2 v d b9_4 v57)=gO hd k (dv κ) l_0 l_1 t b9_1 r2 v d n b9_4 v57:=bL (fun own=>mf hd k (dv κ) l_0 l_1 t b9_1 r2 v d (fun b9_4 b9_5 more14 v90=>dV hd k (dv κ) l_0 l_1 t b9_1 r2 b9_4 v d k b9_5 more14 v90) own) rfl (fun _=>rfl) fun r b9_4 v57=>Eq.trans (b:=mf hd k (dv κ) l_0 l_1 t b9_1 r2 v d (fun b9_4 b9_5 more14 v90=>(gn hd k).lp κ 16 [] k (nx l_0 l_1 t b9_1 r2 b9_4 v d b9_5 more14 v90)) (fun b9_4 v57=>r (vf l_0 l_1 t b9_1 r2 v d b9_4 v57)) b9_4 v57) (by kernel_rfl) (by simp only [IG])
theorem IE (r2): ∀n b9_1,(gn hd k).jn κ 1000006 [] n (A6 l_0 l_1 t r2 v d b9_1)=nd hd k (dv κ) l_0 l_1 t r2 v d n b9_1:=z_ (tz hd k (dv κ) l_0 l_1 t r2 v d (fun b9_1 b9_4 v57=>gO hd k (dv κ) l_0 l_1 t b9_1 r2 v d k b9_4 v57)) rfl (fun _=>rfl) (fun b9_1=>Eq.trans (b:=tz hd k (dv κ) l_0 l_1 t r2 v d (fun b9_1 b9_4 v57=>(gn hd k).lp κ 7 [] k (vf l_0 l_1 t b9_1 r2 v d b9_4 v57)) b9_1) (by kernel_rfl) (by simp only [IF]))
end
theorem uF {S:Type} (o:Obj) (ho:ae o): ∀k:Nat,Tl o 141 (rU (cH k:d6 S))
 |0=>gZ fun l_0 l_1 t v d κ x h=>by cases h
 |k+1=>ah (gn (cH k) k) ⟨m0 o ho k,uF o ho k,KP o ho k,trivial⟩ Tryz.func141 (by kernel_rfl) fun l_0 l_1 t v d κ x h=>Eq.trans (b:=xx (cH k) k (dv κ) (fun r2 b9_1=>(gn (cH k) k).jn κ 1000006 [] k (A6 l_0 l_1 t r2 v d b9_1)) l_0 l_1 t v d) (by kernel_rfl) (Eq.trans (by simp only [IE];rfl) h)
def CG {S:Type} (k:Nat):Rw S:=af Ah Gn fun c0 c1 c2 κ=>aa k (p6 k c0 c1 c2) (PG c0 c1 c2 κ)
def Ht {S:Type} (k:Nat):Fx S:=fp 10 [(141,rU (cH k))] [] k Tryz.f142 3
theorem KQ {S:Type} (o:Obj) (ho:ae o) (k:Nat):Tl o 142 (CG k:Rw S):=ah (Ht k) ⟨uF o ho k,trivial⟩ Tryz.func142 (by kernel_rfl) fun c0 c1 c2 κ x h=>Eq.trans (by kernel_rfl) (aj h)
def CH {S:Type} (k:Nat):Rw S:=af My Gn fun t numbers c0 c1 c2 κ=>aa k (t_ k t numbers c0 c1 c2) (rD c0 c1 c2 κ)
def th {S:Type} (k:Nat):Fx S:=⟨⟨30,(fun _=>[]),(fun _=>false),.none,fun|6=>true|7=>true|_=>false⟩,[(91,lx k),(142,CG k)],[(5,⟨[(2,.none),(6,.none),(7,.none),(17,.none),(18,.none),(19,.none)],[(1000000,[.none]),(1000001,[.none,.none,.none,.none,.none,.none]),(1000002,[.none]),(5000006,[.none,.none,.none,some (320200387,true),some (320200388,true),some (320200389,true)]),(5000007,[.none])]⟩,aE 5 11)],k,Tryz.f139,false,[],3,some (po 16 189 Tryz.f189 k)⟩
def A8 (c0:Int) (c1:Tm) (c2:Int) (numbers:List Int) (v19:Int):St UU:=⟨[(2,(.func 142 [] [(pt 1000000),(pt 1000001),(pt 1000002)])),(6,(pt 5000006)),(7,(pt 5000007)),(17,(j5 numbers .none)),(18,(.int .i64 (numbers.length:Int))),(19,(iI v19))],[(1000000,bI c0),(1000001,bT c1),(1000002,bI c2),(5000006,.cells [(iI 0),(iI 0),(.str ByteArray.empty),(.own 320200387 0),(.own 320200388 0),(.own 320200389 0)]),(5000007,bI 0)],[(320200389,⟨0,ET.B,([]:List (Br Tm))⟩),(320200388,⟨0,ET.T,([]:List Tm)⟩),(320200387,⟨0,ET.C,([]:List Cl)⟩)],[(320200389,.wr),(320200388,.wr),(320200387,.wr)]⟩
section
variable {S:Type} (k:Nat) (t:Tm) (numbers:List Int) (c0:Int) (c1:Tm) (c2:Int) (κ:Out UU→Option S)
theorem II: ∀n v19,(th k).lp κ 5 [] n (A8 c0 c1 c2 numbers v19)=jJ k (rD c0 c1 c2 κ) c0 c1 c2 numbers n v19:=cL (o8 k (rD c0 c1 c2 κ) c0 c1 c2 numbers) rfl (fun _=>rfl) fun r v19=>by kernel_rfl
end
theorem KR {S:Type} (o:Obj) (ho:ae o) (k:Nat):Tl o 139 (CH k:Rw S):=FO (th k) rfl (yA o Tryz.func189 (by kernel_rfl)) ⟨m6 o ho k,KQ o ho k,trivial⟩ Tryz.func139 (by kernel_rfl) fun t numbers c0 c1 c2 κ x h=>Eq.trans (b:=xv k (rD c0 c1 c2 κ) (fun v19=>(th k).lp κ 5 [] k (A8 c0 c1 c2 numbers v19)) t numbers c0 c1 c2) (by kernel_rfl) (Eq.trans (by simp only [II];rfl) (aj h))
def CI {S:Type} (k:Nat):Rw S:=af qP xn fun t a_from a_by κ=>aa k (p5 k t a_from a_by) (f_ κ)
def Hu {S:Type} (k:Nat):Fx S:=fp 16 [(139,CH k)] [] k Tryz.f93 0
theorem KS {S:Type} (o:Obj) (ho:ae o) (k:Nat):Tl o 93 (CI k:Rw S):=ah (Hu k) ⟨KR o ho k,trivial⟩ Tryz.func93 (by kernel_rfl) fun t a_from a_by κ x h=>Eq.trans (by kernel_rfl) (aj h)
def nR {S:Type} (k:Nat):Rw S:=af qO xn fun s i κ=>aa k (fP k s i) (iV κ)
def Hv {S:Type} (k:Nat):Fx S:=fp 16 [(130,nO k)] [] k Tryz.f144 0
theorem ql {S:Type} (o:Obj) (ho:ae o) (k:Nat):Tl o 144 (nR k:Rw S):=ah (Hv k) ⟨qj o ho k,trivial⟩ Tryz.func144 (by kernel_rfl) fun s i κ x h=>Eq.trans (by kernel_rfl) (aj h)
def CJ {S:Type} (k:Nat):Rw S:=af uQ xn fun a_x κ=>aa k (yQ k a_x) (bw κ)
def Hw {S:Type} (k:Nat):Fx S:=fp 21 [] [] k Tryz.f191 0
theorem KT {S:Type} (o:Obj) (ho:ae o) (k:Nat):Tl o 191 (CJ k:Rw S):=ah (Hw k) trivial Tryz.func191 (by kernel_rfl) fun a_x κ x h=>Eq.trans (by kernel_rfl) (aj h)
def rW {S:Type} (k:Nat):Rw S:=af uQ xn fun s κ=>aa k (h9 k s) (bw κ)
def Hx {S:Type} (k:Nat):Fx S:=fp 6 [(191,CJ k)] [] k Tryz.f143 0
theorem uq {S:Type} (o:Obj) (ho:ae o) (k:Nat):Tl o 143 (rW k:Rw S):=ah (Hx k) ⟨KT o ho k,trivial⟩ Tryz.func143 (by kernel_rfl) fun s κ x h=>Eq.trans (by kernel_rfl) (aj h)
def CK {S:Type} (k:Nat):Rw S:=af gM xn fun i κ=>aa k (pF k i) (az κ)
def Hy {S:Type} (k:Nat):Fx S:=fp 7 [(143,rW k),(144,nR k)] [] k Tryz.f94 0
theorem KU {S:Type} (o:Obj) (ho:ae o) (k:Nat):Tl o 94 (CK k:Rw S):=ah (Hy k) ⟨uq o ho k,ql o ho k,trivial⟩ Tryz.func94 (by kernel_rfl) fun i κ x h=>Eq.trans (by kernel_rfl) (aj h)
def CL {S:Type} (k:Nat):Rw S:=af Ai xn fun t i a_r κ=>aa k (tX k t i a_r) (bw κ)
def Hz {S:Type} (k:Nat):Fx S:=fp 21 [(91,lx k),(94,CK k),(95,jY k)] [] k Tryz.f56 0
theorem KV {S:Type} (o:Obj) (ho:ae o) (k:Nat):Tl o 56 (CL k:Rw S):=ah (Hz k) ⟨m6 o ho k,KU o ho k,kz o ho k,trivial⟩ Tryz.func56 (by kernel_rfl) fun t i a_r κ x h=>Eq.trans (by kernel_rfl) (aj h)
def CM {S:Type} (k:Nat):Rw S:=af Aj ot fun c0 c1 κ=>aa k (tQ k c0 c1) (PH c0 c1 κ)
def HA {S:Type} (k:Nat):Fx S:=fp 6 [] [] k Tryz.f101 2
theorem KW {S:Type} (o:Obj) (ho:ae o) (k:Nat):Tl o 101 (CM k:Rw S):=ah (HA k) trivial Tryz.func101 (by kernel_rfl) fun c0 c1 κ x h=>Eq.trans (by kernel_rfl) (aj h)
def CN {S:Type} (k:Nat):Rw S:=af MA ot fun c0 c1 κ=>aa k (tR k c0 c1) (PJ c0 c1 κ)
def HB {S:Type} (k:Nat):Fx S:=fp 6 [] [] k Tryz.f101 2
theorem KX {S:Type} (o:Obj) (ho:ae o) (k:Nat):Tl o 101 (CN k:Rw S):=ah (HB k) trivial Tryz.func101 (by kernel_rfl) fun c0 c1 κ x h=>Eq.trans (by kernel_rfl) (aj h)
def CO {S:Type} (k:Nat):Rw S:=af MB xn fun i a_r κ=>aa k (tP k i a_r) (PK κ)
def HC {S:Type} (k:Nat):Fx S:=fp 12 [(101,jW (m_ Aj ot) (CM k) (CN k))] [] k Tryz.f58 0
theorem KY {S:Type} (o:Obj) (ho:ae o) (k:Nat):Tl o 58 (CO k:Rw S):=ah (HC k) ⟨nJ (KW o ho k) (KX o ho k),trivial⟩ Tryz.func58 (by kernel_rfl) fun i a_r κ x h=>Eq.trans (by kernel_rfl) (aj h)
def nS {S:Type} (k:Nat):Rw S:=af qO xn fun s i κ=>aa k (eZ k s i) (az κ)
def HD {S:Type} (k:Nat):Fx S:=fp 15 [(130,nO k)] [] k Tryz.f103 0
theorem qm {S:Type} (o:Obj) (ho:ae o) (k:Nat):Tl o 103 (nS k:Rw S):=ah (HD k) ⟨qj o ho k,trivial⟩ Tryz.func103 (by kernel_rfl) fun s i κ x h=>Eq.trans (by kernel_rfl) (aj h)
def vX {S:Type} (k:Nat):Rw S:=af fT xn fun f κ=>aa k (mI k f) (lr κ)
def HE {S:Type} (k:Nat):Fx S:=fp 5 [] [] k Tryz.f104 0
theorem zl {S:Type} (o:Obj) (ho:ae o) (k:Nat):Tl o 104 (vX k:Rw S):=ah (HE k) trivial Tryz.func104 (by kernel_rfl) fun f κ x h=>Eq.trans (by kernel_rfl) (aj h)
def CQ {S:Type} (k:Nat):Rw S:=af gM xn fun i κ=>aa k (pM k i) (az κ)
def HF {S:Type} (k:Nat):Fx S:=fp 7 [(143,rW k),(144,nR k)] [] k Tryz.f158 0
theorem KZ {S:Type} (o:Obj) (ho:ae o) (k:Nat):Tl o 158 (CQ k:Rw S):=ah (HF k) ⟨uq o ho k,ql o ho k,trivial⟩ Tryz.func158 (by kernel_rfl) fun i κ x h=>Eq.trans (by kernel_rfl) (aj h)
def vZ {S:Type} (k:Nat):Rw S:=af qN xn fun c κ=>aa k (mN k c) (PL κ)
def HH {S:Type} (k:Nat):Fx S:=fp 8 [(132,vS k)] [] k Tryz.f200 0
theorem zn {S:Type} (o:Obj) (ho:ae o) (k:Nat):Tl o 200 (vZ k:Rw S):=ah (HH k) ⟨zg o ho k,trivial⟩ Tryz.func200 (by kernel_rfl) fun c κ x h=>Eq.trans (by kernel_rfl) (aj h)
def CR {S:Type} (k:Nat):Rw S:=af MC xn fun l κ=>aa k (pO k l) (lr κ)
def ti {S:Type} (k:Nat):Fx S:=fp 29 [(200,vZ k)] [(3,⟨[(1,.none),(5,some (100005,true)),(10,.none),(11,.none),(12,.none)],[]⟩,aE 5 11)] k Tryz.f199 0
def Ba (l:List Cl) (v12:Int) (out5:List Cl):St UU:=⟨[(1,(.func 200 [] [])),(5,(.own 100005 0)),(10,(sC l)),(11,(.int .i64 (l.length:Int))),(12,(iI v12))],[],[(100005,⟨0,ET.C,out5⟩)],[(100005,.wr)]⟩
section
variable {S:Type} (k:Nat) (l:List Cl) (κ:Out UU→Option S)
theorem IQ: ∀n v12 out5,(ti k).lp κ 3 [] n (Ba l v12 out5)=kM k (lr κ) l n v12 out5:=bL (oP k (lr κ) l) rfl (fun _=>rfl) fun r v12 out5=>by kernel_rfl
end
theorem K0 {S:Type} (o:Obj) (ho:ae o) (k:Nat):Tl o 199 (CR k:Rw S):=ah (ti k) ⟨zn o ho k,trivial⟩ Tryz.func199 (by kernel_rfl) fun l κ x h=>Eq.trans (b:=xd k (lr κ) (fun v12 out5=>(ti k).lp κ 3 [] k (Ba l v12 out5)) l) (by kernel_rfl) (Eq.trans (by simp only [IQ];rfl) (aj h))
def v6 {S:Type} (k:Nat):Rw S:=af fT xn fun f κ=>aa k (mM k f) (aN κ)
def HI {S:Type} (k:Nat):Fx S:=fp 12 [(95,jY k),(100,ga k),(199,CR k)] [] k Tryz.f159 0
theorem zo {S:Type} (o:Obj) (ho:ae o) (k:Nat):Tl o 159 (v6 k:Rw S):=ah (HI k) ⟨kz o ho k,gF o ho k,K0 o ho k,trivial⟩ Tryz.func159 (by kernel_rfl) fun f κ x h=>Eq.trans (by kernel_rfl) (aj h)
def CS {S:Type} (k:Nat):Rw S:=af uR oq fun b c0 κ=>aa k (pP k b c0) (PM c0 κ)
def HJ {S:Type} (k:Nat):Fx S:=fp 11 [(193,rO k),(200,vZ k)] [] k Tryz.f201 1
theorem K3 {S:Type} (o:Obj) (ho:ae o) (k:Nat):Tl o 201 (CS k:Rw S):=ah (HJ k) ⟨uk o ho k,zn o ho k,trivial⟩ Tryz.func201 (by kernel_rfl) fun b c0 κ x h=>Eq.trans (by kernel_rfl) (aj h)
def CT {S:Type} (k:Nat):Rw S:=af MD oq fun l c0 κ=>aa k (pN k l c0) (rE c0 κ)
def tj {S:Type} (k:Nat):Fx S:=fp 29 [(201,CS k)] [(3,⟨[(1,.none),(5,some (100005,true)),(10,.none),(11,.none),(12,.none)],[(1000000,[.none,.none])]⟩,aE 5 11)] k Tryz.f199 1
def Bb (c0:Cl) (l:List Cl) (v12:Int) (out5:List Cl):St UU:=⟨[(1,(.func 201 [] [(pt 1000000)])),(5,(.own 100005 0)),(10,(sC l)),(11,(.int .i64 (l.length:Int))),(12,(iI v12))],[(1000000,bC c0)],[(100005,⟨0,ET.C,out5⟩)],[(100005,.wr)]⟩
section
variable {S:Type} (k:Nat) (l:List Cl) (c0:Cl) (κ:Out UU→Option S)
theorem IR: ∀n v12 out5,(tj k).lp κ 3 [] n (Bb c0 l v12 out5)=kL k (rE c0 κ) c0 l n v12 out5:=bL (oO k (rE c0 κ) c0 l) rfl (fun _=>rfl) fun r v12 out5=>by kernel_rfl
end
theorem K4 {S:Type} (o:Obj) (ho:ae o) (k:Nat):Tl o 199 (CT k:Rw S):=ah (tj k) ⟨K3 o ho k,trivial⟩ Tryz.func199 (by kernel_rfl) fun l c0 κ x h=>Eq.trans (b:=xb k (rE c0 κ) (fun v12 out5=>(tj k).lp κ 3 [] k (Bb c0 l v12 out5)) l c0) (by kernel_rfl) (Eq.trans (by simp only [IR];rfl) (aj h))
def CU {S:Type} (k:Nat):Rw S:=af jE xn fun f g κ=>aa k (km k f g) (aN κ)
def tk {S:Type} (k:Nat):Fx S:=fp 25 [(100,ga k),(199,CT k)] [(3,⟨[(1,.none),(6,some (100006,true)),(9,.none),(10,.none),(11,.none)],[]⟩,aE 5 11)] k Tryz.f160 0
def Bc (g f:List Cl) (v11:Int) (out6:List Cl):St UU:=⟨[(1,(sC g)),(6,(.own 100006 0)),(9,(sC f)),(10,(.int .i64 (f.length:Int))),(11,(iI v11))],[],[(100006,⟨0,ET.C,out6⟩)],[(100006,.wr)]⟩
section
variable {S:Type} (k:Nat) (f g:List Cl) (κ:Out UU→Option S)
theorem IS: ∀n v11 out6,(tk k).lp κ 3 [] n (Bc g f v11 out6)=kN k (aN κ) g f n v11 out6:=bL (oQ k (aN κ) g f) rfl (fun _=>rfl) fun r v11 out6=>by kernel_rfl
end
theorem K5 {S:Type} (o:Obj) (ho:ae o) (k:Nat):Tl o 160 (CU k:Rw S):=ah (tk k) ⟨gF o ho k,K4 o ho k,trivial⟩ Tryz.func160 (by kernel_rfl) fun f g κ x h=>Eq.trans (b:=xe k (aN κ) (fun v11 out6=>(tk k).lp κ 3 [] k (Bc g f v11 out6)) f g) (by kernel_rfl) (Eq.trans (by simp only [IS];rfl) (aj h))
def v_ {S:Type} (k:Nat):Rw S:=af cn xn fun κ=>aa k (h8 k) (lr κ)
def HK {S:Type} (k:Nat):Fx S:=fp 3 [] [] k Tryz.f20 0
theorem zp {S:Type} (o:Obj) (ho:ae o) (k:Nat):Tl o 20 (v_ k:Rw S):=ah (HK k) trivial Tryz.func20 (by kernel_rfl) fun κ x h=>Eq.trans (by kernel_rfl) (aj h)
def CV {S:Type} (k:Nat):Rw S:=af qN xn fun c κ=>aa k (pX k c) (aN κ)
def lW {S:Type} (k:Nat):Fx S:=fp 43 [(100,ga k),(144,nR k),(224,ws)] [(3,⟨[(1,.none),(4,some (100004,true)),(11,.none),(12,.none),(13,.none)],[(1,[.none,.none])]⟩,aE 5 11),(8,⟨[(4,some (100004,true)),(26,.none),(27,.none),(28,.none)],[]⟩,aE 6 23)] k Tryz.f198 0
def vi (c:Cl) (r1:List Int) (v13:Int) (out4:List Cl):St UU:=⟨[(1,(pt 1)),(4,(.own 100004 0)),(11,(j5 r1 .none)),(12,(.int .i64 (r1.length:Int))),(13,(iI v13))],[(1,bC c)],[(100004,⟨0,ET.C,out4⟩)],[(100004,.wr)]⟩
def Bd (r5:List Int) (v28:Int) (out4':List Cl):St UU:=⟨[(4,(.own 100004 0)),(26,(j5 r5 .none)),(27,(.int .i64 (r5.length:Int))),(28,(iI v28))],[],[(100004,⟨0,ET.C,out4'⟩)],[(100004,.wr)]⟩
section
variable {S:Type} (k:Nat) (c:Cl) (κ:Out UU→Option S)
theorem IU (r5): ∀n v28 out4',(lW k).lp κ 8 [] n (Bd r5 v28 out4')=jH k (aN κ) r5 n v28 out4':=bL (oX k (aN κ) r5) rfl (fun _=>rfl) fun r v28 out4'=>by kernel_rfl
theorem IT (r1): ∀n v13 out4,(lW k).lp κ 3 [] n (vi c r1 v13 out4)=kT k (aN κ) c r1 n v13 out4:=bL (fun own=>mc k (aN κ) c r1 (fun r5 v28 out4'=>jH k (aN κ) r5 k v28 out4') own) rfl (fun _=>rfl) fun r v13 out4=>Eq.trans (b:=mc k (aN κ) c r1 (fun r5 v28 out4'=>(lW k).lp κ 8 [] k (Bd r5 v28 out4')) (fun v13 out4=>r (vi c r1 v13 out4)) v13 out4) (by kernel_rfl) (by simp only [IU])
end
theorem K6 {S:Type} (o:Obj) (ho:ae o) (k:Nat):Tl o 198 (CV k:Rw S):=ah (lW k) ⟨gF o ho k,ql o ho k,Sk o ho,trivial⟩ Tryz.func198 (by kernel_rfl) fun c κ x h=>Eq.trans (b:=xq k (aN κ) (fun r1 v13 out4=>(lW k).lp κ 3 [] k (vi c r1 v13 out4)) c) (by kernel_rfl) (Eq.trans (by simp only [IT];rfl) (aj h))
def wa {S:Type} (k:Nat):Rw S:=af jE xn fun f g κ=>aa k (gC k f g) (aN κ)
def lX {S:Type} (k:Nat):Fx S:=fp 35 [(100,ga k),(193,rO k)] [(3,⟨[(1,.none),(6,some (100006,true)),(11,.none),(12,.none),(13,.none)],[]⟩,aE 5 11),(6,⟨[(1,.none),(6,some (100006,true)),(8,.none),(11,.none),(12,.none),(13,.none),(17,.none),(18,.none),(19,.none)],[(8,[.none,.none])]⟩,aE 13 3275)] k Tryz.f155 0
def nA (g f:List Cl) (v13:Int) (out6:List Cl):St UU:=⟨[(1,(sC g)),(6,(.own 100006 0)),(11,(sC f)),(12,(.int .i64 (f.length:Int))),(13,(iI v13))],[],[(100006,⟨0,ET.C,out6⟩)],[(100006,.wr)]⟩
def Be (x1:Cl) (g f:List Cl) (v13:Int) (v19:Int) (out6':List Cl):St UU:=⟨[(1,(sC g)),(6,(.own 100006 0)),(8,(pt 8)),(11,(sC f)),(12,(.int .i64 (f.length:Int))),(13,(iI v13)),(17,(sC g)),(18,(.int .i64 (g.length:Int))),(19,(iI v19))],[(8,bC x1)],[(100006,⟨0,ET.C,out6'⟩)],[(100006,.wr)]⟩
section
variable {S:Type} (k:Nat) (f g:List Cl) (κ:Out UU→Option S)
theorem IW (x1 v13 κ0): ∀n v19 out6',(lX k).lp κ 6 [κ0] n (Be x1 g f v13 v19 out6')=jG k (aN κ) (fun v13 out6=>κ0 (nA g f v13 out6)) x1 g f v13 n v19 out6':=bL (oW k (aN κ) x1 g f v13 (fun v13 out6=>κ0 (nA g f v13 out6))) rfl (fun _=>rfl) fun r v19 out6'=>by kernel_rfl
theorem IV: ∀n v13 out6,(lX k).lp κ 3 [] n (nA g f v13 out6)=iG k (aN κ) g f n v13 out6:=bL (fun own=>ma k (aN κ) g f (fun x1 v13 v19 out6'=>jG k (aN κ) own x1 g f v13 k v19 out6') own) rfl (fun _=>rfl) fun r v13 out6=>Eq.trans (b:=ma k (aN κ) g f (fun x1 v13 v19 out6'=>(lX k).lp κ 6 [r] k (Be x1 g f v13 v19 out6')) (fun v13 out6=>r (nA g f v13 out6)) v13 out6) (by kernel_rfl) (by simp only [IW])
end
theorem zq {S:Type} (o:Obj) (ho:ae o) (k:Nat):Tl o 155 (wa k:Rw S):=ah (lX k) ⟨gF o ho k,uk o ho k,trivial⟩ Tryz.func155 (by kernel_rfl) fun f g κ x h=>Eq.trans (b:=xo k (aN κ) (fun v13 out6=>(lX k).lp κ 3 [] k (nA g f v13 out6)) f g) (by kernel_rfl) (Eq.trans (by simp only [IV];rfl) (aj h))
def CW {S:Type} (k:Nat):Rw S:=af ME xn fun a_have c κ=>aa k (pW k a_have c) (aN κ)
def HL {S:Type} (k:Nat):Fx S:=fp 21 [(155,wa k),(198,CV k)] [] k Tryz.f197 0
theorem K7 {S:Type} (o:Obj) (ho:ae o) (k:Nat):Tl o 197 (CW k:Rw S):=ah (HL k) ⟨zq o ho k,K6 o ho k,trivial⟩ Tryz.func197 (by kernel_rfl) fun a_have c κ x h=>Eq.trans (by kernel_rfl) (aj h)
def CY {S:Type} (k:Nat):Rw S:=af MF xn fun l a_from κ=>aa k (t6 k l a_from) (aN κ)
def tl {S:Type} (k:Nat):Fx S:=fp 33 [(197,CW k)] [(2,bq [1,2,13,14,15] [],aE 4 5)] k Tryz.f97 0
def Bf (l:List Cl) (v1:List Cl) (v15:Int):St UU:=⟨[(1,(sC v1)),(2,(.func 197 [] [])),(13,(sC l)),(14,(.int .i64 (l.length:Int))),(15,(iI v15))],[],[],[]⟩
section
variable {S:Type} (k:Nat) (l a_from:List Cl) (κ:Out UU→Option S)
theorem IX: ∀n v1 v15,(tl k).lp κ 2 [] n (Bf l v1 v15)=kR k (aN κ) l n v1 v15:=bL (oU k (aN κ) l) rfl (fun _=>rfl) fun r v1 v15=>by kernel_rfl
end
theorem K9 {S:Type} (o:Obj) (ho:ae o) (k:Nat):Tl o 97 (CY k:Rw S):=ah (tl k) ⟨K7 o ho k,trivial⟩ Tryz.func97 (by kernel_rfl) fun l a_from κ x h=>Eq.trans (b:=xl k (aN κ) (fun v1 v15=>(tl k).lp κ 2 [] k (Bf l v1 v15)) l a_from) (by kernel_rfl) (Eq.trans (by simp only [IX];rfl) (aj h))
def wc {S:Type} (k:Nat):Rw S:=af fT xn fun f κ=>aa k (ko k f) (aN κ)
def HN {S:Type} (k:Nat):Fx S:=fp 9 [(20,v_ k),(97,CY k)] [] k Tryz.f156 0
theorem zr {S:Type} (o:Obj) (ho:ae o) (k:Nat):Tl o 156 (wc k:Rw S):=ah (HN k) ⟨zp o ho k,K9 o ho k,trivial⟩ Tryz.func156 (by kernel_rfl) fun f κ x h=>Eq.trans (by kernel_rfl) (aj h)
def CZ {S:Type} (k:Nat):Rw S:=af fT xn fun f κ=>aa k (pS k f) (aN κ)
def HO {S:Type} (k:Nat):Fx S:=fp 15 [(96,rS k),(156,wc k)] [] k Tryz.f202 0
theorem K_ {S:Type} (o:Obj) (ho:ae o) (k:Nat):Tl o 202 (CZ k:Rw S):=ah (HO k) ⟨uo o ho k,zr o ho k,trivial⟩ Tryz.func202 (by kernel_rfl) fun f κ x h=>Eq.trans (by kernel_rfl) (aj h)
def C0 {S:Type} (k:Nat):Rw S:=af fT xn fun f κ=>aa k (pK k f) (aN κ)
def HP {S:Type} (k:Nat):Fx S:=fp 18 [(159,v6 k),(202,CZ k)] [] k Tryz.f161 0
theorem La {S:Type} (o:Obj) (ho:ae o) (k:Nat):Tl o 161 (C0 k:Rw S):=ah (HP k) ⟨zo o ho k,K_ o ho k,trivial⟩ Tryz.func161 (by kernel_rfl) fun f κ x h=>Eq.trans (by kernel_rfl) (aj h)
def C1 {S:Type} (k:Nat):Rw S:=af Ak xn fun f i a_r κ=>aa k (pL k f i a_r) (aN κ)
def lY {S:Type} (k:Nat):Fx S:=fp 92 [(82,rQ k),(84,nQ k),(95,jY k),(103,nS k),(158,CQ k),(159,v6 k),(160,CU k),(161,C0 k),(162,vW k)] [(5,bq [1,2,8,27,28,29] [],aE 6 23),(1000018,bq [1,2,8,11,13,27,28,29] [],aE 16 63895)] k Tryz.f106 0
def nB (i:Int) (a_r f:List Cl) (v29:Int) (v8:List Cl):St UU:=⟨[(1,(iI i)),(2,(sC a_r)),(8,(sC v8)),(27,(sC f)),(28,(.int .i64 (f.length:Int))),(29,(iI v29))],[],[],[]⟩
def Bg (i:Int) (a_r f:List Cl) (v29:Int) (v8:List Cl) (g11:List Cl) (v13:Int):St UU:=⟨[(1,(iI i)),(2,(sC a_r)),(8,(sC v8)),(11,(sC g11)),(13,(iI v13)),(27,(sC f)),(28,(.int .i64 (f.length:Int))),(29,(iI v29))],[],[],[]⟩
section
variable {S:Type} (k:Nat) (f:List Cl) (i:Int) (a_r:List Cl) (κ:Out UU→Option S)
theorem IZ (v29 v8 κ0): ∀n g11 v13,(lY k).jn κ 1000018 [κ0] n (Bg i a_r f v29 v8 g11 v13)=kK k (aN κ) (fun v29 v8=>κ0 (nB i a_r f v29 v8)) i a_r f v29 v8 n g11 v13:=Me (oN k (aN κ) i a_r f v29 v8 (fun v29 v8=>κ0 (nB i a_r f v29 v8))) rfl (fun _=>rfl) (fun g11 v13=>by kernel_rfl)
theorem IY: ∀n v29 v8,(lY k).lp κ 5 [] n (nB i a_r f v29 v8)=iF k (aN κ) i a_r f n v29 v8:=bL (fun own=>l_ k (aN κ) i a_r f (fun v29 v8 g11 v13=>kK k (aN κ) own i a_r f v29 v8 k g11 v13) own) rfl (fun _=>rfl) fun r v29 v8=>Eq.trans (b:=l_ k (aN κ) i a_r f (fun v29 v8 g11 v13=>(lY k).jn κ 1000018 [r] k (Bg i a_r f v29 v8 g11 v13)) (fun v29 v8=>r (nB i a_r f v29 v8)) v29 v8) (by kernel_rfl) (by simp only [IZ])
end
theorem Lb {S:Type} (o:Obj) (ho:ae o) (k:Nat):Tl o 106 (C1 k:Rw S):=ah (lY k) ⟨ul o ho k,qk o ho k,kz o ho k,qm o ho k,KZ o ho k,zo o ho k,K5 o ho k,La o ho k,zk o ho k,trivial⟩ Tryz.func106 (by kernel_rfl) fun f i a_r κ x h=>Eq.trans (b:=xa k (aN κ) (fun v29 v8=>(lY k).lp κ 5 [] k (nB i a_r f v29 v8)) f i a_r) (by kernel_rfl) (Eq.trans (by simp only [IY];rfl) (aj h))
def wd {S:Type} (k:Nat):Rw S:=af uS S5 fun f depth c0 c1 κ=>aa k (mJ k f depth c0 c1) (PN c0 c1 κ)
def HQ {S:Type} (k:Nat):Fx S:=fp 38 [(38,rR k),(57,ly k),(103,nS k),(104,vX k),(106,C1 k)] [] k Tryz.f102 3
theorem zt {S:Type} (o:Obj) (ho:ae o) (k:Nat):Tl o 102 (wd k:Rw S):=ah (HQ k) ⟨um o ho k,m7 o ho k,qm o ho k,zl o ho k,Lb o ho k,trivial⟩ Tryz.func102 (by kernel_rfl) fun f depth c0 c1 κ x h=>Eq.trans (by kernel_rfl) (aj h)
def C2 {S:Type} (k:Nat):Rw S:=af gM xn fun i κ=>aa k (pR k i) (aN κ)
def HR {S:Type} (k:Nat):Fx S:=fp 12 [(143,rW k),(144,nR k)] [] k Tryz.f153 0
theorem Lc {S:Type} (o:Obj) (ho:ae o) (k:Nat):Tl o 153 (C2 k:Rw S):=ah (HR k) ⟨uq o ho k,ql o ho k,trivial⟩ Tryz.func153 (by kernel_rfl) fun i κ x h=>Eq.trans (by kernel_rfl) (aj h)
def C3 {S:Type} (k:Nat):Rw S:=af jE xn fun f g κ=>aa k (jv k f g) (aN κ)
def HS {S:Type} (k:Nat):Fx S:=fp 14 [(100,ga k)] [] k Tryz.f157 0
theorem Ld {S:Type} (o:Obj) (ho:ae o) (k:Nat):Tl o 157 (C3 k:Rw S):=ah (HS k) ⟨gF o ho k,trivial⟩ Tryz.func157 (by kernel_rfl) fun f g κ x h=>Eq.trans (by kernel_rfl) (aj h)
def C4 {S:Type} (k:Nat):Rw S:=af MG ot fun a_have c c0 c1 κ=>aa k (pU k a_have c c0 c1) (nM c0 c1 κ)
def HT {S:Type} (k:Nat):Fx S:=fp 63 [(82,rQ k),(103,nS k),(155,wa k),(156,wc k),(157,C3 k)] [] k Tryz.f154 2
theorem Le {S:Type} (o:Obj) (ho:ae o) (k:Nat):Tl o 154 (C4 k:Rw S):=ah (HT k) ⟨ul o ho k,qm o ho k,zq o ho k,zr o ho k,Ld o ho k,trivial⟩ Tryz.func154 (by kernel_rfl) fun a_have c c0 c1 κ x h=>Eq.trans (by kernel_rfl) (aj h)
def C5 {S:Type} (k:Nat):Rw S:=af MI ot fun l a_from c0 c1 κ=>aa k (tZ k l a_from c0 c1) (nM c0 c1 κ)
def tn {S:Type} (k:Nat):Fx S:=fp 33 [(154,C4 k)] [(2,bq [1,2,13,14,15] [(1000000,1),(1000001,1)],aE 4 5)] k Tryz.f97 2
def Bh (c0:Int) (c1 l:List Cl) (v1:List Cl) (v15:Int):St UU:=⟨[(1,(sC v1)),(2,(.func 154 [] [(pt 1000000),(pt 1000001)])),(13,(sC l)),(14,(.int .i64 (l.length:Int))),(15,(iI v15))],[(1000000,bI c0),(1000001,.cells [(sC c1)])],[],[]⟩
section
variable {S:Type} (k:Nat) (l a_from:List Cl) (c0:Int) (c1:List Cl) (κ:Out UU→Option S)
theorem I0: ∀n v1 v15,(tn k).lp κ 2 [] n (Bh c0 c1 l v1 v15)=kQ k (nM c0 c1 κ) c0 c1 l n v1 v15:=bL (oT k (nM c0 c1 κ) c0 c1 l) rfl (fun _=>rfl) fun r v1 v15=>by kernel_rfl
end
theorem Lf {S:Type} (o:Obj) (ho:ae o) (k:Nat):Tl o 97 (C5 k:Rw S):=ah (tn k) ⟨Le o ho k,trivial⟩ Tryz.func97 (by kernel_rfl) fun l a_from c0 c1 κ x h=>Eq.trans (b:=xk k (nM c0 c1 κ) (fun v1 v15=>(tn k).lp κ 2 [] k (Bh c0 c1 l v1 v15)) l a_from c0 c1) (by kernel_rfl) (Eq.trans (by simp only [I0];rfl) (aj h))
def C7 {S:Type} (k:Nat):Rw S:=af Ak xn fun f i a_r κ=>aa k (pT k f i a_r) (aN κ)
def HV {S:Type} (k:Nat):Fx S:=fp 32 [(21,rT k),(96,rS k),(97,C5 k),(153,C2 k)] [] k Tryz.f105 0
theorem Lh {S:Type} (o:Obj) (ho:ae o) (k:Nat):Tl o 105 (C7 k:Rw S):=ah (HV k) ⟨up o ho k,uo o ho k,Lf o ho k,Lc o ho k,trivial⟩ Tryz.func105 (by kernel_rfl) fun f i a_r κ x h=>Eq.trans (by kernel_rfl) (aj h)
end
end Go.Proofs.YtapmagaejigpnaaGreatDoor
