/- Part 6 of a proof: the sources, with their names and remarks, lie in wip/. -/
import Derived.Test.YtapmagaejigpnaaGreatDoorX5
import Derived.Test.YtapmagaejigpnaaGreatDoorCards
import Derived.Test.YtapmagaejigpnaaGreatDoorTie
import Derived.WalkKit
import Derived.ReadAgain
import Derived.Deep.DeepHandedRow
import Derived.Lib.LaidTab
namespace Go.Proofs.YtapmagaejigpnaaGreatDoor
open Go PI Go.Shelf Go.RowKit
set_option linter.unusedVariables false
set_option linter.unusedSimpArgs false
set_option maxRecDepth 100000
def ad (o:Obj):Prop:= ∃ (cur:Array Value) (e:TypeId) (fr:Nat×Nat),o= .cells cur e fr∧ ∀j,j<Lib.deBruijn32tab.length→cur[j]? =some (.int .u8 (Lib.deBruijn32tab.getD j 0))
theorem SM {o:Obj} (ho:ad o) {w:World} (h:w.heap[0]? =some o):TabAt 0 Lib.deBruijn32tab w:=fun j hj=>by
 obtain ⟨cur,e,fr,rfl,hc⟩:=ho
 have:=hc j hj
 simp [World.cell?,h,this]
theorem OL (s:Int) (w:World) (hT:TabAt 0 Lib.deBruijn32tab w):Calls Tryz.prog 224 #[.int .u32 s] w fun e w'=> ∃v:Value,e= .returned v∧w'.ownsRow w.heap.size 3 1 v (dE (fC s)).length ((dE (fC s)).map dX)∧Below w.heap.size w w':=
 callsIn_wide.1 (OM Fence.wide 5 trivial trivial trivial trivial rfl (by omega) s w hT (fun W=>callsIn_wide.2 (Mx s W)) fun x hx h0 W' hT'=>callsIn_wide.2 (Tryz.tz32 x hx h0 W' hT'))
theorem OS (s:Int):ln s=(dE (fC s)).map fun n:Nat=>(n:Int):=by
 unfold ln dE fC
 have:(List.range 24).filter ((BitVec.ofInt 32 s).toNat&&&16777215).testBit=(List.range 24).filter fun i=>(BitVec.ofInt 32 s).getLsbD i:=List.filter_congr fun i hi=>by
  have hi:i<24:=List.mem_range.1 hi
  have h24:(16777215:Nat)=2^24-1:=by decide
  rw [Nat.testBit_and,h24,Nat.testBit_two_pow_sub_one,decide_eq_true hi,Bool.and_true];rfl
 rw [this];rfl
theorem JM {X:Link VV Tryz.prog} {w w':World} {vs:Array Value} {N0:au} {ν:Nat→Nat} {δ:Nat→Option Nat} {args:List PU} (hg:Given X w vs N0 ν δ args []) (hb:Below w.heap.size w w'):
  Back X w w' N0 ν δ 0 args.length ν (fun _=>none) [] where
 ext:=⟨hb.os,hb.tape,hb.output,hb.size,fun b hlt _=>hb.block b hlt⟩
 le:=Nat.le_refl _
 old:=fun i h=>absurd h (Nat.not_lt_zero i)
 new:=fun i _ h=>absurd h (Nat.not_lt_zero i)
 dnew:=fun j b h=>by cases h
 bnd:={
  inj:=fun i j h=>absurd h (Nat.not_lt_zero i)
  lt:=fun i h=>absurd h (Nat.not_lt_zero i)
  dlt:=fun j b h=>by cases h
  dinj:=fun i j b h=>by cases h
  dν:=fun j b h=>by cases h
  n0:=fun b o h=>⟨Nat.lt_of_lt_of_le (hg.bnd.n0 b o h).1 hb.size,fun i h=>absurd h (Nat.not_lt_zero i),fun j h=>by cases h⟩}
 boxes:=fun k b h=>by simp at h
theorem SX {S:Type} (o:Obj) (ho:ad o) (vs:List PU) (bs:List (Box UU)) (κ:Out UU→Option S) (x:S) (h:wB vs bs κ=some x): ∃out,bS (LL o) LY vs bs out∧κ out=some x:=by
 unfold wB at h
 split at h
 case h_2=>cases h
 rename_i κ y
 refine ⟨_, ?_,h⟩
 refine ⟨⟨Tryz.f224,Tryz.func224,by kernel_rfl,rfl⟩,fun w vs N0 ν δ hg=> ?_⟩
 have hs:vs.size=1:=hg.size
 have h0:=hg.args 0 _ rfl
 obtain ⟨v0,hv0⟩: ∃v0,vs= #[v0]:=by
  obtain ⟨l⟩:=vs
  match l,hs with
  |[v],_=>exact ⟨v,rfl⟩
 subst hv0
 have h0:Rep (LL o) w _ _ v0 (.int .u32 y):=h0
 cases h0
 have hT:=SM ho (hg.glob 0 o (by simp [LL])).1
 refine (OL y w hT).mono ?_
 rintro e w' ⟨v,rfl,hrow,hb⟩
 refine ⟨ν,fun _=>none,JM hg hb, ?_⟩
 show Rep (LL o) w' _ _ v (.sl ET.I (ln y) .none)
 rw [OS]
 generalize dE (fC y)=ts at hrow
 obtain ⟨hl,hr⟩:=hrow
 rcases hr with ⟨rfl,hn⟩|⟨g,cap,cur,rfl,hg0,hgb,hc,hc',hsz,htk⟩
 ·have:ts=[]:=List.length_eq_zero_iff.1 hn
  subst this
  exact .sl none 0 0 _ _ _ (fun _ _=>undef) rfl (Nat.le_refl _) trivial (fun j x hx=>by cases hx) (fun j x hx=>by cases hx)
 ·have hcell: ∀j x,(ts.map fun n:Nat=>(n:Int))[j]? =some x→cur.getD j undef= .int .i64 x∧w'.cell? ⟨g,j,none⟩=some (.int .i64 x):=by
   intro j x hx
   rw [List.getElem?_map] at hx
   cases ht:ts[j]? with
   |none=>rw [ht] at hx;cases hx
   |some n=>
    rw [ht] at hx
    injection hx with hx
    have hj:j<ts.length:=(List.getElem?_eq_some_iff.1 ht).1
    have h1:(cur.toList.take (ts.length*1))[j]? =some (dX n):=by rw [htk,List.getElem?_map,ht];rfl
    rw [List.getElem?_take_of_lt (by omega)] at h1
    have h2:cur[j]? =some (.int .i64 x):=by rw [←Array.getElem?_toList,h1,←hx];rfl
    refine ⟨?_,by simp [World.cell?,hgb,h2]⟩
    rw [Array.getD_eq_getD_getElem?,h2];rfl
  refine Rep.sl (X:=LL o) (some ⟨g,0,none⟩) ts.length cap ET.I (show List Int from ts.map fun n:Nat=>(n:Int)) .none (fun j k=>cur.getD (j+k) undef) (List.length_map _) hc trivial (fun j x hx k p hp=> ?_) (fun j x hx k p hp=> ?_)
  ·match k,hp with
   |0,hp=>
    obtain ⟨h1,h2⟩:=hcell j x hx
    refine ⟨_,rfl, ?_, ?_⟩
    ·have:(⟨g,0,none⟩:Addr).add (j*(LL o).esize ET.I+0)=⟨g,j,none⟩:=by
      rw [Addr.add_lit'];show (⟨g,0+(j*1+0),none⟩:Addr)=_;congr 1;omega
     rw [this,h2];rw [Nat.add_zero,h1]
    ·rintro (hN|⟨i,hi,_⟩|⟨i,hi⟩)
     ·have:=(hg.bnd.n0 _ _ hN).1
      simp at this;omega
     ·exact absurd hi (Nat.not_lt_zero i)
     ·cases hi
   |k+1,hp=>simp [VV,cx] at hp
  ·match k,hp with
   |0,hp=>
    obtain ⟨h1,h2⟩:=hcell j x hx
    rw [Nat.add_zero,h1]
    have:p= .int .i64 x:=by simpa [VV,cx] using hp.symm
    subst this
    exact .int _ _
   |k+1,hp=>simp [VV,cx] at hp
end Go.Proofs.YtapmagaejigpnaaGreatDoor
namespace Go.Proofs.YtapmagaejigpnaaGreatDoor
open Go PI Go.Shelf Go.RowKit Go.Sort
set_option linter.unusedVariables false
set_option linter.unusedSimpArgs false
set_option maxRecDepth 100000
def ju (a b:Int):Int:=if a<b then-1 else if b<a then 1 else 0
def fS (x y:Cl):Int:=if x.pos=y.pos then ju x.neg y.neg else ju x.pos y.pos
def dx (x:Cl):List Value:=[.int .u32 x.pos,.int .u32 x.neg]
theorem uR (a:Int) (W:World):Calls Tryz.prog 223 #[.int .u32 a] W fun e w'=>e= .returned (.bool false)∧w'=W:=by
 go_enter Tryz.func223,Tryz.ntmps223
 go_wp2
 go_ret
 exact ⟨by simp,rfl⟩
set_option maxHeartbeats 1000000 in
theorem yV (a b:Int) (W:World):Calls Tryz.prog 196 #[.int .u32 a,.int .u32 b] W fun e w'=>e= .returned (.int .i64 (ju a b))∧w'=W:=by
 unfold ju
 by_cases h1:a<b
 ·rw [if_pos h1]
  go_enter Tryz.func196,Tryz.ntmps196
  go_wp2_with (go_at_call 223;refine (uR _ _).mono ?_;rintro e w' ⟨rfl,rfl⟩)
  go_ret
  exact ⟨rfl,rfl⟩
 ·rw [if_neg h1]
  by_cases h2:b<a
  ·rw [if_pos h2]
   go_enter Tryz.func196,Tryz.ntmps196
   go_wp2_with (go_at_call 223;refine (uR _ _).mono ?_;rintro e w' ⟨rfl,rfl⟩)
   go_ret
   exact ⟨rfl,rfl⟩
  ·rw [if_neg h2]
   go_enter Tryz.func196,Tryz.ntmps196
   go_wp2_with (go_at_call 223;refine (uR _ _).mono ?_;rintro e w' ⟨rfl,rfl⟩)
   go_ret
   exact ⟨rfl,rfl⟩
set_option maxHeartbeats 1000000 in
theorem Kd (x y:Cl) (W:World):Calls Tryz.prog 152 #[.agg (dx x).toArray,.agg (dx y).toArray] W fun e w'=>e= .returned (.int .i64 (fS x y))∧ ∃q os',w'=grow (W.drewN q) os':=by
 obtain ⟨a,b⟩:=x
 obtain ⟨a',b'⟩:=y
 have h1:=yV a a'
 have h2:=yV b b'
 unfold fS
 simp only [dx]
 generalize ju a a'=r1 at h1 ⊢
 generalize ju b b'=r2 at h2 ⊢
 by_cases h:a=a'
 ·rw [if_pos h]
  go_enter Tryz.func152,Tryz.ntmps152
  go_wp2_with (go_at_call 196;refine (h2 _).mono ?_;rintro e w' ⟨rfl,rfl⟩)
  go_ret
  exact ⟨rfl,0,_,by rw [alloc_eq_grow,alloc_eq_grow,grow_grow];rfl⟩
 ·rw [if_neg h]
  go_enter Tryz.func152,Tryz.ntmps152
  go_wp2_with (go_at_call 196;refine (h1 _).mono ?_;rintro e w' ⟨rfl,rfl⟩)
  go_ret
  exact ⟨rfl,0,_,by rw [alloc_eq_grow,alloc_eq_grow,grow_grow];rfl⟩
theorem ny (x y:Cl):ltOf fS x y=(decide (x.pos<y.pos)||(decide (x.pos=y.pos)&&decide (x.neg<y.neg))):=by
 have h:fS x y<0↔(x.pos<y.pos∨x.pos=y.pos∧x.neg<y.neg):=by
  unfold fS ju
  split<;>split<;>first|omega|(split<;>omega)
 rw [Bool.eq_iff_iff]
 simp only [ltOf,decide_eq_true_eq,Bool.or_eq_true,Bool.and_eq_true]
 exact h
theorem SB:SWO (ltOf fS) where
 irrefl x:=by rw [ny];simp
 trans x y z h1 h2:=by rw [ny] at*;simp at*;omega
 ntrans x y z h1 h2:=by rw [ny] at*;simp at*;omega
theorem S4 (x y:Cl) (h1:ltOf fS x y=false) (h2:ltOf fS y x=false):x=y:=by
 rw [ny] at*;simp at*
 obtain ⟨a,b⟩:=x
 obtain ⟨a',b'⟩:=y
 simp at*
 omega
theorem Ml:(fun x y:Cl=> !ltOf fS y x)=hZ:=by
 funext x y
 rw [ny,Bool.eq_iff_iff]
 simp [hZ]
 omega
instance:Inhabited Cl:=⟨⟨0,0⟩⟩
theorem Sm (b c:Nat) (d:List Cl) (w:World) (hH:HoldsK dx 2 w b 0 d.toArray) (hb:b<w.heap.size) (hsz:d.length<4611686018427387904):
  Calls Tryz.prog 151 #[.slice (some ⟨b,0,none⟩) d.length c,.func (.func 152) #[] #[]] w fun e w'=>e= .returned (.tuple #[])∧ ∃n os,w'=sortWorldK dx 2 w b 0 n (sortCl d).toArray os:=by
 have eg: ∀args w,(callFunc 152 args).run Tryz.prog w= .ok (.enter 152 args) w:=enters_of Tryz.func152 (by kernel_rfl) rfl
 have h:=AnyQ.slices_SortFunc_total Tryz.sortCl 2 Tryz.isAgg61 Tryz.sizeOf61 dx (fun _=>rfl) (fun x v hv=>by simp [dx] at hv;rcases hv with rfl|rfl<;>rfl) fS SB 152 #[] b 0 c d.toArray w eg (fun _ _ _ _ x y=>Kd x y _) hH hb hsz S4
 rw [Ml] at h
 exact h
theorem Sn (p:Option Addr) (c:Nat) (w:World):Calls Tryz.prog 151 #[.slice p 0 c,.func (.func 152) #[] #[]] w fun e w'=>e= .returned (.tuple #[])∧w'=w:=
 AnyF.slices_SortFunc_none Tryz.sortCl p c _ w
theorem Sl {m:Nat} {d:Array Cl} {os:Array Obj} {w:World} {b k:Nat} (hk:k<w.heap.size) (hne:k≠b):(sortWorldK dx 2 w b 0 m d os).heap[k]? =w.heap[k]? :=by
 unfold sortWorldK putRowK putRow mapBlock
 rw [heap_grow_old _ _ (by simpa [ahead] using hk)]
 show (w.heap.modify b _)[k]? =_
 rw [Array.getElem?_modify,if_neg (Ne.symm hne)]
theorem Sk {m:Nat} {d:Array Cl} {os:Array Obj} {w:World} {b:Nat} {cur:Array Value} {e:TypeId} {fr:Nat×Nat} (h:w.heap[b]? =some (.cells cur e fr)):
  (sortWorldK dx 2 w b 0 m d os).heap[b]? =some (.cells (putCells id 0 (flatK dx 2 d) cur) e fr):=by
 have hb:b<w.heap.size:=(Array.getElem?_eq_some_iff.1 h).1
 unfold sortWorldK putRowK putRow mapBlock
 rw [heap_grow_old _ _ (by simpa [ahead] using hb)]
 show (w.heap.modify b _)[b]? =_
 rw [Array.getElem?_modify,if_pos rfl,h];rfl
theorem Kc (x:Cl) {k:Nat} {p:PU} (hp:(cx .C x)[k]? =some p):k<2∧ ∀ (X:Link VV Tryz.prog) (w:World) (N:au) (g:Gh UU),Rep X w N g (dx x)[k]! p:=by
 match k,hp with
 |0,hp=>cases hp;exact ⟨by omega,fun X w N g=> .int _ _⟩
 |1,hp=>cases hp;exact ⟨by omega,fun X w N g=> .int _ _⟩
 |k+2,hp=>simp [cx] at hp
theorem Ms {w:World} {b c:Nat} {l:List Cl} {cur:Array Value} {e:TypeId} (hb:w.heap[b]? =some (.cells cur e (0,0))) (hs:cur.size=c*2) (hl:l.length≤c) (h: ∀ (j:Nat) (x:Cl),l[j]? =some x→ ∀k,k<2→w.cell? ⟨b,j*2+k,none⟩=some (dx x)[k]!):HoldsK dx 2 w b 0 l.toArray:=by
 intro t ht
 rw [size_flatK] at ht
 have ht':t<l.length*2:=by simpa using ht
 have hj:t/2<l.length:=by omega
 have hx:l[t/2]? =some l.toArray[t/2]! :=by simp [hj]
 refine ⟨?_, ?_⟩
 ·rw [get_flatK _ _ _ _ ht]
  have:=h _ _ hx (t%2) (Nat.mod_lt _ (by omega))
  rw [Nat.zero_add]
  rw [show t/2*2+t%2=t by omega] at this
  exact this
 ·simp [World.frozen?,hb]
theorem Mz {f:Nat} {ps:List PU} {l l':List Cl} (h:uO f ps l=some l'):f=151∧ps=[.func 152 [] []]∧l'=sortCl l:=by
 unfold uO at h
 split at h
 ·injection h with h
  exact ⟨rfl,rfl,h.symm⟩
 ·cases h
theorem uQ (o:Obj):g_ (LL o):=by
 intro f ps e l l' h
 have hi:Ai f ps e l=some l':=h
 clear h
 cases e with
 |T=>cases hi
 |B=>cases hi
 |I=>cases hi
 |F=>cases hi
 |C=>
 obtain ⟨rfl,rfl,rfl⟩:=Mz hi
 refine ⟨⟨Tryz.f151,Tryz.func151,by kernel_rfl,rfl⟩,fun w vs N0 δ hg hδ=> ?_⟩
 have hs:vs.size=2:=hg.size
 obtain ⟨v0,v1,rfl⟩: ∃v0 v1,vs= #[v0,v1]:=by
  obtain ⟨l⟩:=vs
  match l,hs with
  |[v,v'],_=>exact ⟨v,v',rfl⟩
 have h0:ObOK (LL o) w (NB N0 0 (fun _=>0) δ) (gB UU 0 fun _=>0) ET.C l v0 .wr (δ 0):=hg.args 0 _ rfl
 have h1:Rep (LL o) w (NB N0 0 (fun _=>0) δ) (gB UU 0 fun _=>0) v1 (.func 152 [] []):=hg.args 1 _ rfl
 cases h1 with
 |func _ _ _ xs ys ha hb _ _=>
 have ha':xs= #[]:=by simpa using ha
 have hb':ys= #[]:=by simpa using hb
 subst ha';subst hb'
 obtain ⟨A,n,c,rfl,hl,hc,hcell,hm⟩:=h0.val
 have hl: @List.length Cl l=n:=hl
 cases hD:δ 0 with
 |none=>
  rw [hD] at hm hcell
  obtain ⟨rfl,rfl,rfl⟩:=hm.1 rfl
  have:l=([]:List Cl):=List.length_eq_zero_iff.1 hl
  subst this
  refine (Sn none 0 w).mono ?_
  rintro e w' ⟨rfl,rfl⟩
  refine ⟨rfl,.refl _ _, ?_⟩
  rw [hD] at h0
  have:sortCl []=[]:=by simp [sortCl]
  rw [this]
  exact h0
 |some b=>
  rw [hD] at hm hcell
  obtain ⟨hu,cur,rfl,hblk,hsz,hmax⟩:=hm
  have hbl:b<w.heap.size:=(Array.getElem?_eq_some_iff.1 hblk).1
  have hcs:cur.size=c*2:=hsz
  have hH:HoldsK dx 2 w b 0 l.toArray:=Ms hblk hcs (hl▸hc) fun j x hx k hk=>by
   have hp: ∃p,(cx ET.C x)[k]? =some p∧p= .int .u32 (if k=0 then x.pos else x.neg):=by
    match k,hk with
    |0,_=>exact ⟨_,rfl,rfl⟩
    |1,_=>exact ⟨_,rfl,rfl⟩
   obtain ⟨p,hp,hpe⟩:=hp
   obtain ⟨a,v,ha,hv,hr,_⟩:=hcell j x hx k p hp
   injection ha with ha
   subst ha
   subst hpe
   have hv':w.cell? ⟨b,j*2+k,none⟩=some v:=by
    have:(⟨b,0,none⟩:Addr).add (j*(LL o).esize ET.C+k)=⟨b,j*2+k,none⟩:=by
     rw [Addr.add_lit'];show (⟨b,0+(j*2+k),none⟩:Addr)=_;congr 1;omega
    rw [this] at hv;exact hv
   rw [hv']
   cases hr
   match k,hk with
   |0,_=>rfl
   |1,_=>rfl
  have hlt: @List.length Cl l<4611686018427387904:=by
   have:n≤1099511627776:=hmax.2
   omega
  have hcall:=Sm b c l w hH hbl hlt
  have he:(.slice (some ⟨b,0,none⟩) (@List.length Cl l) c:Value)= .slice (some ⟨b,0,none⟩) n c:=by rw [hl]
  rw [he] at hcall
  refine hcall.mono ?_
  rintro e w' ⟨rfl,m,os,rfl⟩
  have hlen:(sortCl l).length= @List.length Cl l:=List.length_mergeSort _
  have hH':=holdsK_sortWorldK_c dx 2 w b 0 l.toArray (sortCl l).toArray m os hH hbl hlen
  refine ⟨rfl,⟨rfl,rfl,rfl,size_sortWorldK_c dx 2 w b 0 m _ os,fun k hk hne=>Sl hk fun e=>hne ?_⟩, ?_⟩
  ·subst e
   exact List.mem_append_right _ (List.mem_filterMap.2 ⟨0,by simp,hD⟩)
  ·refine ⟨_,n,c,rfl,hlen.trans hl,hc,fun j x hx k p hp=> ?_, ?_⟩
   ·obtain ⟨hk,hrep⟩:=Kc x hp
    have hj:j<(sortCl l).length:=(List.getElem?_eq_some_iff.1 hx).1
    have:=(hH'.cell (i:=j) (c:=k) (by simpa using hj) hk).1
    have he:(sortCl l).toArray[j]! =x:=by
     have:=List.getElem?_eq_some_iff.1 hx
     rw [getElem!_pos _ j (by simpa using hj)];exact this.2
    rw [he] at this
    refine ⟨_,_,rfl, ?_,hrep _ _ _ _,fun h=>by cases h⟩
    have e:(⟨b,0,none⟩:Addr).add (j*(LL o).esize ET.C+k)=⟨b,0+j*2+k,none⟩:=by
     rw [Addr.add_lit'];show (⟨b,0+(j*2+k),none⟩:Addr)=_;congr 1;omega
    show World.cell? _ (Addr.add _ _)=_
    rw [e];exact this
   ·exact ⟨hu,_,rfl,Sk hblk,by simp [putCells];exact hcs,hmax⟩
end Go.Proofs.YtapmagaejigpnaaGreatDoor
namespace Go.Proofs.YtapmagaejigpnaaGreatDoor
open Go PI Go.ChangeShapes Go.WideShapes Go.ChangeAt Go.RowKit
set_option linter.unusedVariables false
set_option linter.unusedSimpArgs false
set_option maxRecDepth 100000
theorem own:ownKnob Tryz.prog.godebug=none:=by kernel_rfl
theorem zZ:Tryz.prog.globalNamed "math/bits.deBruijn32tab" =some 0:=by kernel_rfl
section
variable {H:Type} {enc:TypeId×Value→H}
structure Kept (W W':World):Prop where
 os:W'.os=W.os
 output:W'.output=W.output
 size:W.heap.size≤W'.heap.size
 block: ∀b,b<W.heap.size→W'.heap[b]? =W.heap[b]?
theorem Kept.sameAt {W W':World} (h:Kept W W') {p:MemPlace} (hp:p.block<W.heap.size):W.sameAt W' p:=by
 cases p with
 |cell b o=>simp only [World.sameAt,World.cell?];rw [h.block b hp]
 |map b=>exact h.block b hp
theorem Kept.kept {W W':World} (h:Kept W W') (may:MemPlace→Prop):W.keptBut W' may:=by
 refine ⟨h.os,h.output,fun i hi=> ?_⟩
 rw [h.block i hi]
 cases W.heap[i]? with
 |none=>rfl
 |some o=>cases o with
  |cells c t fr=>exact ⟨rfl,rfl,rfl,fun _ _=>rfl⟩
  |map es clock=>exact .inr ⟨rfl,rfl⟩
  |_=>rfl
theorem yw {W W':World} {sp:Nat→Bool} {held:Bool}: ∀ {ts:List TypeId} {vs:List Value} {ds:List (DataW H)} {ps:List MemPlace},
  DataW.TrodAll enc Tryz.prog W 0 sp held ts vs ds ps→(∀p∈ps,W.sameAt W' p)→DataW.TrodAll enc Tryz.prog W' 0 sp held ts vs ds ps
 |[],[],[],_,h,_=>h
 |_::_,_::_,_::_,_,⟨p,q,⟨n,h1⟩,h2,e⟩,hs=>
  ⟨p,q,⟨n,DataW.trod_carry n _ _ _ h1 fun x hx=>hs x (by rw [e];exact List.mem_append_left _ hx)⟩,yw h2 (fun x hx=>hs x (by rw [e];exact List.mem_append_right _ hx)),e⟩
theorem kids:Kids Tryz.prog (· <Tryz.prog.types.size):=kids_rows (by kernel_rfl) (by kernel_rfl)
theorem full: ∀t e,t<Tryz.prog.types.size→Tryz.prog.underlying t=some (.slice e)→0<Tryz.prog.cellsOf e:=slices_full_of Tryz.prog (by kernel_rfl)
theorem PW {f:Func} {s:ChangeSpec} (hv:s.vars=[]) {cH fresh handsOn again:Bool} {W W':World} {args:Array Value} {ds gs:List (DataW H)} {before:List MemPlace} (hf:f.resultTypes= #[4])
  (hT: ∀t∈f.params.toList,t<Tryz.prog.types.size) (hs:s.fn H ds={results:=[.lit (.bool true)],args:=ds})
  (hW:DataW.Whole enc Tryz.prog f.params.toList s.vars cH W args.toList ds gs before) (hk:Kept W W'):s.post enc Tryz.prog f cH fresh handsOn again W args (.bool true) W':=by
 have hold: ∀p∈before,(fun b=>decide (b<W.heap.size)) p.block=true:=fun p hp=>by simpa using hW.lt p hp
 have hlt: ∀p∈before,p.block<W.heap.size:=fun p hp=>by simpa using hW.lt p hp
 have hW0:=hW
 obtain ⟨p,q,hA,hV,rfl,hz,hn⟩:=hW
 rw [hv] at hV
 obtain ⟨rfl,rfl⟩:=trodVars_none hV
 rw [List.append_nil] at hold hlt hz hn hW0
 have hs':s.fn H (ds++[])={results:=[.lit (.bool true)],args:=ds}:=by rw [List.append_nil];exact hs
 have hr:(Value.bool true).resultList f.resultTypes.size=[.bool true]:=by rw [hf];rfl
 have hres: ∀ (b:Nat) (sp:Nat→Bool) (hd:Bool),DataW.TrodAll enc Tryz.prog W' b sp hd f.resultTypes.toList ((Value.bool true).resultList f.resultTypes.size) (s.fn H (ds++[])).results []:=fun b sp hd=>by
  rw [hr,hs',hf]
  exact trodAll_cons_mk (shut_bool Tryz.underlying4 _) trodAll_mk0
 have hargs: ∀sp:Nat→Bool,(∀p'∈p,sp p'.block=true)→DataW.TrodAll enc Tryz.prog W' 0 sp true f.params.toList args.toList (s.fn H (ds++[])).args p:=fun sp hsp=>by
  rw [hs']
  exact DataW.TrodAll.respare kids full hT (yw hA fun x hx=>hk.sameAt (hlt x hx)) hsp
 have hvars: ∀sp:Nat→Bool,DataW.TrodVars enc Tryz.prog W' sp s.vars (s.fn H (ds++[])).vars []:=fun sp=>by rw [hv,hs'];rfl
 refine ⟨ds,[],p,[],p,[],hW0,hres _ _ _,hargs _ hold,hvars _,World.keptBut_mono (fun p' hp=>hp.elim) (hk.kept fun _=>False),fun _=> ?_⟩
 refine ⟨fun j t r h1 h2=> ?_,_,_,([]++p)++[],⟨[]++p,[],trodAll_append (hargs _ (fun _ _=>rfl)) (hres _ _ _),hvars _,rfl, ?_, ?_⟩, ?_⟩
 ·rw [hf] at h1
  rw [hr] at h2
  match j,h1,h2 with
  |0,h1,h2=>cases h1;cases h2;exact okWide_bool_mk Tryz.underlying4 _
  |j+1,h1,h2=>simp at h2
 ·intro b off hp
  have hp':MemPlace.cell b off∈p:=by simpa using hp
  have:=hz b off hp'
  simp only [World.frozen?] at this ⊢
  rw [hk.block b (hlt _ hp')]
  exact this
 ·intro ha
  have:=hn ha
  simpa using this
 ·intro p' hp _
  simpa using hp
variable {w:World} {spare:Nat→Bool} {held:Bool} {o:Obj} {N:au} {g:Gh UU}
theorem Jx {v:Value} {n:Nat} (h:v.cells.toList.length=n+2): ∃vs:Array Value,v= .agg vs∧vs.toList=v.cells.toList:=by
 cases v with
 |agg vs=>exact ⟨vs,rfl,rfl⟩
 |_=>simp [Value.cells] at h
theorem yz (hN: ∀b o,¬N b o) {v:Value} {d:DataW H} {ps:List MemPlace} (h:DataW.Trod enc Tryz.prog w 0 spare held 26 v d ps): ∃t:Tm,Rep (LL o) w N g v (.agg (cx ET.T t))∧QT t d:=by
 obtain ⟨n,hn⟩:=h
 obtain ⟨t,hr,hq⟩:=(BQ (o:=o) (g:=g) hN n).1 _ _ _ hn
 obtain ⟨_,_,_,_,hl,_,_⟩:=DataW.trod_struct Tryz.underlying26 hn
 have hl6:v.cells.toList.length=6:=hl.trans (by kernel_rfl)
 obtain ⟨vs,rfl,hvs⟩:=Jx (n:=4) hl6
 refine ⟨t,Rep.agg (X:=LL o) vs (cx ET.T t) (by rw [←Array.length_toList,hvs,hl6];rfl) fun j p hp=> ?_,hq⟩
 obtain ⟨v',hv',hr'⟩:=hr j p hp
 have:vs.getD j undef=v':=by
  have h2:vs[j]? =some v':=by rw [←Array.getElem?_toList,hvs];exact hv'
  rw [Array.getD_eq_getD_getElem?,h2];rfl
 rw [this];exact hr'
theorem JH (hN: ∀b o,¬N b o) {W:World} {base:Nat} {v:Value} {d:DataW H} {ps:List MemPlace} (hv:Value.okWide Tryz.prog W .any base 24 v) (h:DataW.Trod enc Tryz.prog w 0 spare held 24 v d ps):
  ∃l:List (Br Tm),Rep (LL o) w N g v (eL l .none)∧((aD l+1≤Rows.uptoBulk d∧l.length+1≤Rows.uptoBulk d)∧(Rows.uptoBulk d<1073741824→bh l)):=by
 obtain ⟨a,len,cap,rfl⟩:=okWide_slice Tryz.underlying24 hv
 obtain ⟨n,hn⟩:=h
 obtain ⟨c,l,hc,hr,h1,h2,h3⟩:=(BQ (o:=o) (g:=g) hN n).2.2.2 _ _ _ hn
 obtain rfl:c= .slice a len cap:=by simpa [Value.cells] using hc.symm
 exact ⟨l,hr,⟨h1,h2⟩,h3⟩
theorem yI (d:DataW H):1≤Rows.uptoBulk d:=by
 cases d with
 |lit l=>cases l<;>simp [Rows.uptoBulk]
 |_=>simp [Rows.uptoBulk]
theorem Mn {o:Obj} {W:World} (h0:W.heap[0]? =some o) {vs:Array Value} {ps:List PU} (hs:vs.size=ps.length) (hp:ps.all PV.notFresh=true)
  (h: ∀ (j:Nat) p,ps[j]? =some p→Rep (LL o) W (NB (fun _ _=>False) 0 (fun _=>0) fun _=>none) (gB UU 0 fun _=>0) (vs.getD j undef) p):Given (LL o) W vs (fun _ _=>False) (fun _=>0) (fun _=>none) ps [] where
 bnd:=⟨fun i j hi=>absurd hi (Nat.not_lt_zero i),fun i hi=>absurd hi (Nat.not_lt_zero i),fun j b h=>(by cases h),fun i j b h=>(by cases h),fun j b h=>(by cases h),fun b o h=>h.elim⟩
 size:=hs
 dom:=fun j b h=>by cases h
 glob:=fun b o' hb=>by
  simp [LL] at hb
  obtain ⟨rfl,rfl⟩:=hb
  exact ⟨h0,fun i hi=>absurd hi (Nat.not_lt_zero i),fun j h=>by cases h⟩
 args:=fun j p hj=>RepG.of (h j p hj)
 boxes:=fun k b h=>by simp at h
theorem vD: ∀b o,¬NB (fun _ _=>False) 0 (fun _=>0) (fun _=>none) b o:=by
 rintro b o (h|⟨k,hk,_⟩|⟨j,h⟩)
 ·exact h
 ·exact absurd hk (Nat.not_lt_zero k)
 ·cases h
theorem J4 {o:Obj} {f:FuncId} {ps:List PU} (hok:bS (LL o) f ps [] (.ret (.bool true) [])) {W:World} {vs:Array Value} (hg:Given (LL o) W vs (fun _ _=>False) (fun _=>0) (fun _=>none) ps []):
  Calls Tryz.prog f vs W fun e W'=>e= .returned (.bool true)∧Kept W W':=by
 refine (hok.2 W vs _ _ _ hg).mono ?_
 rintro e W' he
 cases e with
 |returned rv=>
  obtain ⟨ν',δ',hb,hr⟩:=he
  have hr:Rep (LL o) W' _ _ rv (.bool true):=hr
  cases hr
  refine ⟨rfl,hb.ext.os,hb.ext.output,hb.ext.size,fun b hb'=>hb.ext.block b hb' fun hm=> ?_⟩
  simp [j0] at hm
 |panicked ch=>exact he.elim
 |outgrown=>exact he.elim
theorem SN {H:Type}:(Rows.laid_math_bits_deBruijn32tab:DataW H)=Lib.tabData .u8 (Lib.deBruijn32tab.map fun n:Nat=>(n:Int)):=rfl
theorem SO {W:World} (h:laidMetH Tryz.prog [("math/bits.deBruijn32tab",Rows.laid_math_bits_deBruijn32tab)] W): ∃o,ad o∧W.heap[0]? =some o:=by
 have h':laidMet Tryz.prog [("math/bits.deBruijn32tab",Rows.laid_math_bits_deBruijn32tab)] W:=h
 rw [SN] at h'
 have ht:Lib.TabIs Tryz.prog W "math/bits.deBruijn32tab" .u8 (Lib.deBruijn32tab.map fun n:Nat=>(n:Int)):=
  Lib.tabIs_of_head (rest:=[]) zZ (by kernel_rfl) Tryz.underlying205 Tryz.underlying5 (by kernel_rfl) (by kernel_rfl) h'
 have hc: ∀j,j<Lib.deBruijn32tab.length→W.cell? ⟨0,j,none⟩=some (.int .u8 (Lib.deBruijn32tab.getD j 0:Nat)):=fun j hj=>by
  rw [ht.cell zZ j (by simpa using hj)]
  simp [List.getD,hj]
 have h0:=hc 0 (by decide)
 cases hh:W.heap[0]? with
 |none=>simp [World.cell?,hh] at h0
 |some o=>
  cases o with
  |cells cur e fr=>
   refine ⟨_,⟨cur,e,fr,rfl,fun j hj=> ?_⟩,rfl⟩
   have:=hc j hj
   simpa [World.cell?,hh] using this
  |_=>simp [World.cell?,hh] at h0
end
end Go.Proofs.YtapmagaejigpnaaGreatDoor
namespace Go.Proofs.YtapmagaejigpnaaGreatDoor
open Go PI
set_option linter.unusedVariables false
set_option linter.unusedSimpArgs false
set_option maxRecDepth 100000
noncomputable section
abbrev Rw (S:Type):=List PU→List (Box UU)→(Out UU→Option S)→Option S
abbrev Kn (S:Type):=(Out UU→Option S)→Option S
noncomputable def iI (n:Int):PU:= .int .i64 n
noncomputable def iU (n:Int):PU:= .int .u32 n
noncomputable def pt (i:Nat):PU:= .ptr i 0
noncomputable def aT (t:Tm):PU:= .agg [.int .i64 t.kind,.int .i64 t.n,.str t.name,dD t.r .none,fI t.kids .none,eL t.sys .none]
noncomputable def aC (c:Cl):PU:= .agg [.int .u32 c.pos,.int .u32 c.neg]
noncomputable def aB (b:Br Tm):PU:= .agg [dD b.face .none,fI b.kids .none]
noncomputable def bT (t:Tm):Box UU:= .cells [.int .i64 t.kind,.int .i64 t.n,.str t.name,dD t.r .none,fI t.kids .none,eL t.sys .none]
noncomputable def bC (c:Cl):Box UU:= .cells [.int .u32 c.pos,.int .u32 c.neg]
noncomputable def bI (n:Int):Box UU:= .cells [.int .i64 n]
noncomputable def bb (b:Bool):Box UU:= .cells [.bool b]
noncomputable def sC (l:List Cl):PU:=dD l .none
noncomputable def sT (l:List Tm):PU:=fI l .none
noncomputable def sB (l:List (Br Tm)):PU:=eL l .none
structure Cd where
 D:Type→Type
 k:{ρ:Type}→ρ→D ρ
 dec:{ρ:Type}→D ρ→PU→Option ρ
 A:{ρ:Type}→D ρ→(PU→ρ→Prop)→Prop
 law: ∀ {ρ:Type} (f:D ρ) (v:PU) (r:ρ) (Q:PU→ρ→Prop),A f Q→dec f v=some r→Q v r
structure Cs where
 D:Type→Type
 n:Nat
 k:{ρ:Type}→ρ→D ρ
 dec:{ρ:Type}→D ρ→List PU→Option ρ
 A:{ρ:Type}→D ρ→(List PU→ρ→Prop)→Prop
 law: ∀ {ρ:Type} (f:D ρ) (v:List PU) (r:ρ) (Q:List PU→ρ→Prop),A f Q→dec f v=some r→Q v r
 len: ∀ {ρ:Type} (f:D ρ) (v:List PU) (r:ρ),dec f v=some r→v.length=n
structure Bs where
 D:Type→Type
 n:Nat
 k:{ρ:Type}→ρ→D ρ
 dec:{ρ:Type}→D ρ→List (Box UU)→Option ρ
 A:{ρ:Type}→D ρ→(List (Box UU)→ρ→Prop)→Prop
 law: ∀ {ρ:Type} (f:D ρ) (v:List (Box UU)) (r:ρ) (Q:List (Box UU)→ρ→Prop),A f Q→dec f v=some r→Q v r
 len: ∀ {ρ:Type} (f:D ρ) (v:List (Box UU)) (r:ρ),dec f v=some r→v.length=n
noncomputable def cn:Cs where
 D ρ:=ρ
 n:=0
 k r:=r
 dec f:=fun|[]=>some f|_=> .none
 A f Q:=Q [] f
 law f v r Q h e:=by split at e<;>cases e;exact h
 len f v r e:=by split at e<;>cases e;rfl
noncomputable def cc (c:Cd) (s:Cs):Cs where
 D ρ:=c.D (s.D ρ)
 n:=s.n+1
 k r:=c.k (s.k r)
 dec f:=fun|v::l=>(c.dec f v).bind fun g=>s.dec g l|[]=> .none
 A f Q:=c.A f fun v g=>s.A g fun l r=>Q (v::l) r
 law f v r Q h e:=by
  split at e
  ·obtain ⟨g,h1,h2⟩:=Option.bind_eq_some_iff.1 e
   have:=s.law g _ r _ (c.law f _ g _ h h1) h2;exact this
  ·cases e
 len f v r e:=by
  split at e
  ·obtain ⟨g,h1,h2⟩:=Option.bind_eq_some_iff.1 e
   simp [s.len g _ r h2]
  ·cases e
noncomputable def xn:Bs where
 D ρ:=ρ
 n:=0
 k r:=r
 dec f:=fun|[]=>some f|_=> .none
 A f Q:=Q [] f
 law f v r Q h e:=by split at e<;>cases e;exact h
 len f v r e:=by split at e<;>cases e;rfl
noncomputable def xc (c:Cs) (s:Bs):Bs where
 D ρ:=c.D (s.D ρ)
 n:=s.n+1
 k r:=c.k (s.k r)
 dec f:=fun| .cells v::l=>(c.dec f v).bind fun g=>s.dec g l|_=> .none
 A f Q:=c.A f fun v g=>s.A g fun l r=>Q (.cells v::l) r
 law f v r Q h e:=by
  split at e
  ·obtain ⟨g,h1,h2⟩:=Option.bind_eq_some_iff.1 e
   have:=s.law g _ r _ (c.law f _ g _ h h1) h2;exact this
  ·cases e
 len f v r e:=by
  split at e
  ·obtain ⟨g,h1,h2⟩:=Option.bind_eq_some_iff.1 e
   simp [s.len g _ r h2]
  ·cases e
noncomputable def cI:Cd where
 D ρ:=Int→ρ
 k r:=fun _=>r
 dec f:=fun| .int .i64 n=>some (f n)|_=> .none
 A f Q:= ∀n:Int,Q (iI n) (f n)
 law f v r Q h e:=by split at e<;>cases e;exact h _
noncomputable def cU:Cd where
 D ρ:=Int→ρ
 k r:=fun _=>r
 dec f:=fun| .int .u32 n=>some (f n)|_=> .none
 A f Q:= ∀n:Int,Q (iU n) (f n)
 law f v r Q h e:=by split at e<;>cases e;exact h _
noncomputable def cN (kd:IntKind):Cd where
 D ρ:=Int→ρ
 k r:=fun _=>r
 dec f:=fun| .int q n=>(match decEq q kd with| .isTrue _=>some (f n)| .isFalse _=> .none)|_=> .none
 A f Q:= ∀n:Int,Q (.int kd n) (f n)
 law f v r Q h e:=by
  split at e
  ·split at e
   ·rename_i hq _;subst hq;cases e;exact h _
   ·cases e
  ·cases e
noncomputable def cb:Cd where
 D ρ:=Bool→ρ
 k r:=fun _=>r
 dec f:=fun| .bool n=>some (f n)|_=> .none
 A f Q:= ∀n:Bool,Q (.bool n) (f n)
 law f v r Q h e:=by split at e<;>cases e;exact h _
noncomputable def cs:Cd where
 D ρ:=ByteArray→ρ
 k r:=fun _=>r
 dec f:=fun| .str n=>some (f n)|_=> .none
 A f Q:= ∀n:ByteArray,Q (.str n) (f n)
 law f v r Q h e:=by split at e<;>cases e;exact h _
noncomputable def lC:Cd where
 D ρ:=List Cl→ρ
 k r:=fun _=>r
 dec f:=fun| .sl .C n .none=>some (f n)|_=> .none
 A f Q:= ∀n:List Cl,Q (sC n) (f n)
 law f v r Q h e:=by split at e<;>cases e;exact h _
noncomputable def lT:Cd where
 D ρ:=List Tm→ρ
 k r:=fun _=>r
 dec f:=fun| .sl .T n .none=>some (f n)|_=> .none
 A f Q:= ∀n:List Tm,Q (sT n) (f n)
 law f v r Q h e:=by split at e<;>cases e;exact h _
noncomputable def lB:Cd where
 D ρ:=List (Br Tm)→ρ
 k r:=fun _=>r
 dec f:=fun| .sl .B n .none=>some (f n)|_=> .none
 A f Q:= ∀n:List (Br Tm),Q (sB n) (f n)
 law f v r Q h e:=by split at e<;>cases e;exact h _
noncomputable def lI:Cd where
 D ρ:=List Int→ρ
 k r:=fun _=>r
 dec f:=fun| .sl .I n .none=>some (f n)|_=> .none
 A f Q:= ∀n:List Int,Q (kf n .none) (f n)
 law f v r Q h e:=by split at e<;>cases e;exact h _
noncomputable def lF:Cd where
 D ρ:=List (List Cl)→ρ
 k r:=fun _=>r
 dec f:=fun| .sl .F n .none=>some (f n)|_=> .none
 A f Q:= ∀n:List (List Cl),Q (sk n .none) (f n)
 law f v r Q h e:=by split at e<;>cases e;exact h _
noncomputable def hC:Cd where
 D ρ:=List Cl→ρ
 k r:=fun _=>r
 dec f:=fun| .fresh .C n=>some (f n)|_=> .none
 A f Q:= ∀n:List Cl,Q (uF n) (f n)
 law f v r Q h e:=by split at e<;>cases e;exact h _
noncomputable def cT:Cd where
 D ρ:=Tm→ρ
 k r:=fun _=>r
 dec f:=fun| .agg [.int .i64 a,.int .i64 b,.str c,.sl .C d .none,.sl .T e .none,.sl .B g .none]=>some (f (Tm.mk a b c d e g))|_=> .none
 A f Q:= ∀t:Tm,Q (aT t) (f t)
 law f v r Q h e:=by split at e<;>cases e;exact h (Tm.mk _ _ _ _ _ _)
noncomputable def cC:Cd where
 D ρ:=Cl→ρ
 k r:=fun _=>r
 dec f:=fun| .agg [.int .u32 a,.int .u32 b]=>some (f ⟨a,b⟩)|_=> .none
 A f Q:= ∀t:Cl,Q (aC t) (f t)
 law f v r Q h e:=by split at e<;>cases e;exact h (⟨_,_⟩)
noncomputable def cB:Cd where
 D ρ:=Br Tm→ρ
 k r:=fun _=>r
 dec f:=fun| .agg [.sl .C a .none,.sl .T b .none]=>some (f (Br.mk a b))|_=> .none
 A f Q:= ∀t:Br Tm,Q (aB t) (f t)
 law f v r Q h e:=by split at e<;>cases e;exact h (Br.mk _ _)
noncomputable def xT (s:Bs):Bs where
 D ρ:=Tm→s.D ρ
 n:=s.n+1
 k r:=fun _=>s.k r
 dec f:=fun| .cells [.int .i64 a,.int .i64 b,.str c,.sl .C d .none,.sl .T e .none,.sl .B g .none]::l=>s.dec (f (Tm.mk a b c d e g)) l|_=> .none
 A f Q:= ∀t:Tm,s.A (f t) fun l r=>Q (bT t::l) r
 law f v r Q h e:=by
  split at e
  ·have:=s.law _ _ r _ (h (Tm.mk _ _ _ _ _ _)) e;exact this
  ·cases e
 len f v r e:=by
  split at e
  ·simp [s.len _ _ r e]
  ·cases e
noncomputable def xC (s:Bs):Bs where
 D ρ:=Cl→s.D ρ
 n:=s.n+1
 k r:=fun _=>s.k r
 dec f:=fun| .cells [.int .u32 a,.int .u32 b]::l=>s.dec (f ⟨a,b⟩) l|_=> .none
 A f Q:= ∀t:Cl,s.A (f t) fun l r=>Q (bC t::l) r
 law f v r Q h e:=by
  split at e
  ·have:=s.law _ _ r _ (h (⟨_,_⟩)) e;exact this
  ·cases e
 len f v r e:=by
  split at e
  ·simp [s.len _ _ r e]
  ·cases e
noncomputable def xI (s:Bs):Bs where
 D ρ:=Int→s.D ρ
 n:=s.n+1
 k r:=fun _=>s.k r
 dec f:=fun| .cells [.int .i64 a]::l=>s.dec (f a) l|_=> .none
 A f Q:= ∀t:Int,s.A (f t) fun l r=>Q (bI t::l) r
 law f v r Q h e:=by
  split at e
  ·have:=s.law _ _ r _ (h _) e;exact this
  ·cases e
 len f v r e:=by
  split at e
  ·simp [s.len _ _ r e]
  ·cases e
noncomputable def cp (i:Nat):Cd where
 D ρ:=ρ
 k r:=r
 dec f:=fun| .ptr j 0=>(match decEq j i with| .isTrue _=>some f| .isFalse _=> .none)|_=> .none
 A f Q:=Q (pt i) f
 law f v r Q h e:=by
  split at e
  ·split at e
   ·rename_i hq _;subst hq;cases e;exact h
   ·cases e
  ·cases e
noncomputable def cg (s:Cs):Cd where
 D ρ:=s.D ρ
 k r:=s.k r
 dec f:=fun| .agg l=>s.dec f l|_=> .none
 A f Q:=s.A f fun l r=>Q (.agg l) r
 law f v r Q h e:=by
  split at e
  ·have:=s.law f _ r _ h e;exact this
  ·cases e
noncomputable def cf (i:Nat) (s:Cs) (u:Cs):Cd where
 D ρ:=s.D (u.D ρ)
 k r:=s.k (u.k r)
 dec f:=fun| .func j l m=>(match decEq j i with| .isTrue _=>(s.dec f l).bind fun g=>u.dec g m| .isFalse _=> .none)|_=> .none
 A f Q:=s.A f fun l g=>u.A g fun m r=>Q (.func i l m) r
 law f v r Q h e:=by
  split at e
  ·split at e
   ·rename_i hq _
    subst hq
    obtain ⟨g,h1,h2⟩:=Option.bind_eq_some_iff.1 e
    have:=u.law g _ r _ (s.law f _ g _ h h1) h2;exact this
   ·cases e
  ·cases e
noncomputable def ae {S:Type} (K:Cs) (B:Bs) (F:K.D (B.D (Kn S))):Rw S:=fun vs bs κ=>(K.dec F vs).bind fun g=>(B.dec g bs).bind fun h=>h κ
noncomputable def nf (K:Cs) (B:Bs) (vs:List PU) (bs:List (Box UU)):Bool:=((K.dec (K.k (B.k ())) vs).bind fun g=>B.dec g bs).isSome
noncomputable def AA {S:Type} (K:Cs) (B:Bs) (F:K.D (B.D (Kn S))) (Q:List PU→List (Box UU)→Kn S→Prop):Prop:=K.A F fun vs g=>B.A g fun bs h=>Q vs bs h
theorem vB {S:Type} {K:Cs} {B:Bs} {F:K.D (B.D (Kn S))} {Q:List PU→List (Box UU)→Kn S→Prop} (hA:AA K B F Q) {vs:List PU} {bs:List (Box UU)} {κ:Out UU→Option S} {x:S} (h:ae K B F vs bs κ=some x):
  ∃g,Q vs bs g∧g κ=some x∧vs.length=K.n∧bs.length=B.n:=by
 obtain ⟨g,h1,h2⟩:=Option.bind_eq_some_iff.1 h
 obtain ⟨u,h3,h4⟩:=Option.bind_eq_some_iff.1 h2
 have:=K.law F vs g _ hA h1
 have:=B.law g bs u _ this h3
 exact ⟨u,this,h4,K.len _ _ _ h1,B.len _ _ _ h3⟩
noncomputable def Tl {S:Type} (o:Obj) (f:Nat) (r:Rw S):Prop:= ∀vs bs κ x,r vs bs κ=some x→ ∃out,bS (LL o) f vs bs out∧κ out=some x
noncomputable def nK {S:Type}:List (Nat×Rw S)→Oracle UU S
 |[],_,_,_,_=> .none
 |(g,r)::l,f,vs,bs,κ=>bif Nat.beq f g then r vs bs κ else nK l f vs bs κ
noncomputable def TA {S:Type} (o:Obj):List (Nat×Rw S)→Prop
 |[]=>True
 |(f,r)::l=>Tl o f r∧TA o l
theorem TA.tells {S:Type} {o:Obj}: ∀ {l:List (Nat×Rw S)},TA o l→(nK l).Tells (bS (LL o))
 |[],_,f,vs,bs,κ,x,h=>by cases h
 |(g,r)::l,hl,f,vs,bs,κ,x,h=>by
  unfold nK at h
  cases hb:Nat.beq f g with
  |true=>
   rw [hb] at h
   have:=Nat.eq_of_beq_eq_true hb
   subst this
   exact hl.1 _ _ _ _ h
  |false=>
   rw [hb] at h
   exact TA.tells hl.2 _ _ _ _ _ h
noncomputable def j5 {S:Type} (b:List PU→List (Box UU)→Bool) (r q:Rw S):Rw S:=fun vs bs κ=>bif b vs bs then r vs bs κ else q vs bs κ
theorem nP {S:Type} {o:Obj} {f:Nat} {b:List PU→List (Box UU)→Bool} {r q:Rw S} (h1:Tl o f r) (h2:Tl o f q):Tl o f (j5 b r q):=fun vs bs κ x h=>by
 unfold j5 at h
 rcases JP h with h|h
 ·exact h1 _ _ _ _ h
 ·exact h2 _ _ _ _ h
structure Fx (S:Type) where
 sd:Side UU
 rows:List (Nat×Rw S)
 loops:List (Nat×Ann×List Bool)
 k:Nat
 fn:Func
 kp:Bool
 hn:List Bool
 nb:Nat
 cd:Option (PU→Oracle UU S)
noncomputable def yy:List (Nat×Ann×List Bool)→Nat→Option Ann
 |[],_=> .none
 |(i,a,_)::l,n=>bif Nat.beq n i then some a else yy l n
noncomputable def vh:List (Nat×Ann×List Bool)→Nat→Ann×List Bool
 |[],_=>(⟨[],[]⟩,[])
 |(i,a)::l,n=>bif Nat.beq n i then a else vh l n
noncomputable def bz (rs:List Nat) (bs:List (Nat×Nat)):Ann:=⟨rs.map fun n=>(n,.none),bs.map fun p=>(p.1,List.replicate p.2 .none)⟩
noncomputable def aH:Nat→Nat→List Bool
 |0,_=>[]
 |n+1,b=>Nat.beq (b%2) 1::aH n (b/2)
noncomputable def fx {S:Type} (nt:Nat) (gv:Nat→List Bool) (ip:Nat→Bool) (rows:List (Nat×Rw S)) (loops:List (Nat×Ann×List Bool)) (k:Nat) (fn:Func) (kp:Bool) (hn:List Bool) (nb:Nat):Fx S:=
 ⟨⟨nt,gv,ip,.none,fun _=>false⟩,rows,loops,k,fn,kp,hn,nb,.none⟩
noncomputable def fp {S:Type} (nt:Nat) (rows:List (Nat×Rw S)) (loops:List (Nat×Ann×List Bool)) (k:Nat) (fn:Func) (nb:Nat):Fx S:=fx nt (fun _=>[]) (fun _=>false) rows loops k fn false [] nb
variable {S:Type}
noncomputable def Fx.oc (F:Fx S):Oracle UU S:=nK F.rows
noncomputable def Fx.an (F:Fx S):Nat→Option Ann:=yy F.loops
noncomputable def Fx.go (F:Fx S) (c:Code) (σ:St UU) (κ:Ex UU→St UU→Option S):Option S:=PI.run VV F.sd F.oc F.an F.k c σ κ
noncomputable def Fx.kt (F:Fx S) (κ:Out UU→Option S) (p:List Bool) (κs:List (St UU→Option S)):Ex UU→St UU→Option S:=match F.cd with
 | .none=>iE VV F.sd F.oc F.an F.k (eP F.fn) p κs F.an (kF VV F.oc F.kp F.hn F.fn F.nb κ)
 |some C=>AC VV F.sd F.oc F.an F.k (eP F.fn) p κs F.an (kF VV F.oc F.kp F.hn F.fn F.nb κ) (kD VV F.oc C F.kp F.hn F.fn F.nb κ)
noncomputable def Fx.run (F:Fx S) (vs:List PU) (bs:List (Box UU)) (κ:Out UU→Option S):Option S:=match F.cd with
 | .none=>n4 VV F.sd F.oc F.an F.k F.kp F.hn F.fn vs bs κ
 |some C=>wD VV F.sd F.oc F.an F.k C F.kp F.hn F.fn vs bs κ
noncomputable def Fx.A (F:Fx S) (i:Nat):Ann:=(vh F.loops i).1
noncomputable def Fx.p (F:Fx S) (i:Nat):List Bool:=(vh F.loops i).2
noncomputable def Fx.lp (F:Fx S) (κ:Out UU→Option S) (i:Nat) (κs:List (St UU→Option S)) (n:Nat) (σ:St UU):Option S:=
 nx (cR (F.A i)) (fun σ κ=>F.go (fT (eP F.fn) (F.p i++[false])) σ κ) n σ (F.kt κ (F.p i) κs)
noncomputable def Fx.st (F:Fx S) (κ:Out UU→Option S) (i:Nat) (κs:List (St UU→Option S)) (r:St UU→Option S) (σ:St UU):Option S:=
 F.go (fT (eP F.fn) (F.p i++[false])) σ (back (cR (F.A i)) r (F.kt κ (F.p i) κs))
noncomputable def Fx.jn (F:Fx S) (κ:Out UU→Option S) (i:Nat) (κs:List (St UU→Option S)) (n:Nat) (σ:St UU):Option S:=
 uS (fun σ κ=>F.go (fT (eP F.fn) (F.p i)) σ κ) n σ (F.kt κ (F.p i) κs)
noncomputable def Fx.sj (F:Fx S) (κ:Out UU→Option S) (i:Nat) (κs:List (St UU→Option S)) (σ:St UU):Option S:=F.go (fT (eP F.fn) (F.p i)) σ (F.kt κ (F.p i) κs)
theorem Fx.lp_succ (F:Fx S) (κ:Out UU→Option S) (i:Nat) (κs:List (St UU→Option S)) (n:Nat) (σ:St UU):F.lp κ i κs (n+1) σ=F.st κ i κs (fun τ=>F.lp κ i κs n τ) σ:=rfl
theorem Fx.jn_succ (F:Fx S) (κ:Out UU→Option S) (i:Nat) (κs:List (St UU→Option S)) (n:Nat) (σ:St UU):F.jn κ i κs (n+1) σ=F.sj κ i κs σ:=rfl
noncomputable def nL (F:Fx S) (n m:Nat):Bool:=(F.fn.name== "runtime.NumGoroutine")==false&&(F.fn.body.isNone==false&&(Nat.beq F.fn.ntmps F.sd.nt&&(Nat.ble F.sd.nt 1000000&&(Nat.ble n F.sd.nt&&Nat.ble m 1000000))))
theorem vF {F:Fx S} {n m:Nat} (h:nL F n m=true):(F.fn.name== "runtime.NumGoroutine")=false∧F.fn.body.isNone=false∧F.fn.ntmps=F.sd.nt∧F.sd.nt≤1000000∧n≤F.sd.nt∧m≤1000000:=by
 unfold nL at h
 simp only [Bool.and_eq_true,beq_iff_eq] at h
 obtain ⟨h1,h2,h3,h4,h5,h6⟩:=h
 exact ⟨h1,h2,Nat.eq_of_beq_eq_true h3,Nat.le_of_ble_eq_true h4,Nat.le_of_ble_eq_true h5,Nat.le_of_ble_eq_true h6⟩
theorem ah {o:Obj} {K:Cs} {B:Bs} {R:K.D (B.D (Kn S))} (F:Fx S) {f:FuncId} (ht:TA o F.rows) (hf:Tryz.prog.funcs[f]? =some F.fn) (hb:nL F K.n B.n=true) (run:AA K B R fun vs bs g=> ∀κ x,g κ=some x→F.run vs bs κ=some x)
  (h1:F.sd.rcv= .none:=by rfl) (h2:F.sd.pin=(fun _=>false):=by rfl) (h3:F.cd= .none:=by rfl):Tl o f (ae K B R):=fun vs bs κ x h=>by
 obtain ⟨g,hg,hx,hl,hm⟩:=vB run h
 have hr:=hg κ x hx
 unfold Fx.run at hr
 rw [h3] at hr
 obtain ⟨b1,b2,b3,b4,b5,b6⟩:=vF hb
 exact sw (QX vA (uQ o) h1 h2 ht.tells hf b1 b2 b3 b4 (by omega) hr)
theorem g7 {o:Obj} {K:Cs} {B:Bs} {R:K.D (B.D (Kn S))} {f:FuncId} (h0:AA K B R fun vs bs g=> ∀κ x,g κ=some x→False):Tl o f (ae K B R):=fun vs bs κ x h=>by
 obtain ⟨g,hg,hx,_⟩:=vB h0 h
 exact (hg κ x hx).elim
noncomputable def px (nt f:Nat) (fn:Func) (k:Nat):PU→Oracle UU S:=fun v g vs bs κ=>bif Nat.beq g f&&Nat.ble vs.length nt then wE VV ⟨nt,fun _=>[],fun _=>false,.none,fun _=>false⟩ (nK []) (fun _=> .none) k true [] fn v vs bs κ else .none
theorem yN (o:Obj) {nt f:Nat} {fn:Func} {k:Nat} (hf:Tryz.prog.funcs[f]? =some fn) (hb:nL (fp nt [] [] k fn 0:Fx S) 0 0=true): ∀v u u',RcvOK v u u'→(px (S:=S) nt f fn k v).Tells (gz (LL o) (g9 Tryz.prog u u')):=by
 intro v u u' hv g vs bs κ x h
 unfold px at h
 cases hc:Nat.beq g f&&Nat.ble vs.length nt with
 |false=>rw [hc] at h;cases h
 |true=>
  rw [hc] at h
  rw [Bool.and_eq_true] at hc
  have:=Nat.eq_of_beq_eq_true hc.1
  subst this
  obtain ⟨b1,b2,b3,b4,_,_⟩:=vF hb
  exact sw (QY vA (uQ o) rfl rfl (TA.tells (l:=[]) (o:=o) trivial) hf b1 b2 b3 b4 hv (Nat.le_of_ble_eq_true hc.2) h)
theorem F9 {o:Obj} {K:Cs} {B:Bs} {R:K.D (B.D (Kn S))} (F:Fx S) {f:FuncId} {C:PU→Oracle UU S} (h3:F.cd=some C) (hC: ∀v u u',RcvOK v u u'→(C v).Tells (gz (LL o) (g9 Tryz.prog u u'))) (ht:TA o F.rows) (hf:Tryz.prog.funcs[f]? =some F.fn) (hb:nL F K.n B.n=true)
  (run:AA K B R fun vs bs g=> ∀κ x,g κ=some x→F.run vs bs κ=some x) (h1:F.sd.rcv= .none:=by rfl):Tl o f (ae K B R):=fun vs bs κ x h=>by
 obtain ⟨g,hg,hx,hl,hm⟩:=vB run h
 have hr:=hg κ x hx
 unfold Fx.run at hr
 rw [h3] at hr
 obtain ⟨b1,b2,b3,b4,b5,b6⟩:=vF hb
 exact sw (QV vA (uQ o) h1 ht.tells hC hf b1 b2 b3 b4 (by omega) (by omega) hr)
theorem MI {F:Fx S} {κ:Out UU→Option S} {i:Nat} {κs:List (St UU→Option S)} {mk:St UU} {l:Nat→Option S} (b:Option S) (h0:l 0= .none) (hs: ∀n,l (n+1)=b) (B:F.sj κ i κs mk=b): ∀ (n:Nat),F.jn κ i κs n mk=l n:=by
 intro n
 cases n with
 |zero=>intros;rw [h0];rfl
 |succ n=>intros;rw [hs,Fx.jn_succ];exact B
theorem cA {F:Fx S} {κ:Out UU→Option S} {i:Nat} {κs:List (St UU→Option S)} {α0:Type} {mk:α0→St UU} {l:Nat→α0→Option S} (b:(α0→Option S)→α0→Option S) (h0:l 0=fun x0=> .none) (hs: ∀n,l (n+1)=b (l n)) (B: ∀ (r:St UU→Option S) x0,F.st κ i κs r (mk x0)=b (fun x0=>r (mk x0)) x0): ∀ (n:Nat) x0,F.lp κ i κs n (mk x0)=l n x0:=by
 intro n
 induction n with
 |zero=>intros;rw [h0];rfl
 |succ n ih=>
  intros
  rw [hs,Fx.lp_succ,B]
  exact congrArg (fun g=>b g _) (funext fun x0=>ih x0)
theorem Am {F:Fx S} {κ:Out UU→Option S} {i:Nat} {κs:List (St UU→Option S)} {α0:Type} {mk:α0→St UU} {l:Nat→α0→Option S} (b:α0→Option S) (h0:l 0=fun x0=> .none) (hs: ∀n,l (n+1)=b) (B: ∀x0,F.sj κ i κs (mk x0)=b x0): ∀ (n:Nat) x0,F.jn κ i κs n (mk x0)=l n x0:=by
 intro n
 cases n with
 |zero=>intros;rw [h0];rfl
 |succ n=>intros;rw [hs,Fx.jn_succ];exact B _
theorem bO {F:Fx S} {κ:Out UU→Option S} {i:Nat} {κs:List (St UU→Option S)} {α0 α1:Type} {mk:α0→α1→St UU} {l:Nat→α0→α1→Option S} (b:(α0→α1→Option S)→α0→α1→Option S) (h0:l 0=fun x0 x1=> .none) (hs: ∀n,l (n+1)=b (l n)) (B: ∀ (r:St UU→Option S) x0 x1,F.st κ i κs r (mk x0 x1)=b (fun x0 x1=>r (mk x0 x1)) x0 x1): ∀ (n:Nat) x0 x1,F.lp κ i κs n (mk x0 x1)=l n x0 x1:=by
 intro n
 induction n with
 |zero=>intros;rw [h0];rfl
 |succ n ih=>
  intros
  rw [hs,Fx.lp_succ,B]
  exact congrArg (fun g=>b g _ _) (funext fun x0=>funext fun x1=>ih x0 x1)
theorem MJ {F:Fx S} {κ:Out UU→Option S} {i:Nat} {κs:List (St UU→Option S)} {α0 α1:Type} {mk:α0→α1→St UU} {l:Nat→α0→α1→Option S} (b:α0→α1→Option S) (h0:l 0=fun x0 x1=> .none) (hs: ∀n,l (n+1)=b) (B: ∀x0 x1,F.sj κ i κs (mk x0 x1)=b x0 x1): ∀ (n:Nat) x0 x1,F.jn κ i κs n (mk x0 x1)=l n x0 x1:=by
 intro n
 cases n with
 |zero=>intros;rw [h0];rfl
 |succ n=>intros;rw [hs,Fx.jn_succ];exact B _ _
theorem lm {F:Fx S} {κ:Out UU→Option S} {i:Nat} {κs:List (St UU→Option S)} {α0 α1 α2:Type} {mk:α0→α1→α2→St UU} {l:Nat→α0→α1→α2→Option S} (b:(α0→α1→α2→Option S)→α0→α1→α2→Option S) (h0:l 0=fun x0 x1 x2=> .none) (hs: ∀n,l (n+1)=b (l n)) (B: ∀ (r:St UU→Option S) x0 x1 x2,F.st κ i κs r (mk x0 x1 x2)=b (fun x0 x1 x2=>r (mk x0 x1 x2)) x0 x1 x2): ∀ (n:Nat) x0 x1 x2,F.lp κ i κs n (mk x0 x1 x2)=l n x0 x1 x2:=by
 intro n
 induction n with
 |zero=>intros;rw [h0];rfl
 |succ n ih=>
  intros
  rw [hs,Fx.lp_succ,B]
  exact congrArg (fun g=>b g _ _ _) (funext fun x0=>funext fun x1=>funext fun x2=>ih x0 x1 x2)
end
end Go.Proofs.YtapmagaejigpnaaGreatDoor
namespace Go.Proofs.YtapmagaejigpnaaGreatDoor
open Go PI
set_option linter.unusedVariables false
set_option maxRecDepth 100000
noncomputable def yu:Side UU:=⟨8,fun _=>[],fun _=>false,.none,fun _=>false⟩
noncomputable def BW {S:Type}:Oracle UU S:=fun _ _ _ _=> .none
theorem c1 {S:Type} (κ:Out UU→Option S):n4 VV yu BW (fun _=> .none) 5 false [] Tryz.f114 [.sl (U:=UU) ET.C [] .void] [] κ=κ (.ret (dD [] .none) []):=by kernel_rfl
theorem c2 {S:Type} (l:List Cl) (κ:Out UU→Option S):n4 VV yu BW (fun _=> .none) 5 false [] Tryz.f114 [.sl (U:=UU) ET.C l .sure] [] κ=Option.bind (aR 1099511627776 0 l.length) fun _=>κ (.ret (dD l .none) []):=by kernel_rfl
end Go.Proofs.YtapmagaejigpnaaGreatDoor
namespace Go.Proofs.YtapmagaejigpnaaGreatDoor
open Go PI
set_option linter.unusedVariables false
set_option maxRecDepth 100000
noncomputable section
noncomputable def uX:Cs:=cc cT (cc cI cn)
noncomputable def uY:Cs:=cc cT (cc cT (cc lB cn))
noncomputable def ML:Cs:=cc cI (cc cI cn)
noncomputable def Aq:Cs:=cc cT (cc cI (cc cI (cc (cp 0) cn)))
noncomputable def eO:Bs:=xI xn
noncomputable def M4:Cs:=cc cT (cc (cf 168 cn (cc (cp 0) cn)) cn)
noncomputable def Nb:Cs:=cc cT (cc (cf 170 cn (cc (cp 0) cn)) cn)
noncomputable def GN:Bs:=xc (cc (cf 169 cn (cc (cp 1) (cc (cp 0) cn))) cn) (xI xn)
noncomputable def Nl:Cs:=cc cT (cc (cp 0) (cc (cp 1) cn))
noncomputable def TP:Bs:=xI (xc (cc (cf 169 cn (cc (cp 0) (cc (cp 1) cn))) cn) xn)
noncomputable def uZ:Cs:=cc cT cn
noncomputable def gP:Cs:=cc cI cn
noncomputable def MK:Cs:=cc cs cn
noncomputable def u4:Cs:=cc cU cn
noncomputable def qR:Cs:=cc cC cn
noncomputable def An:Cs:=cc cC (cc cC cn)
noncomputable def u5:Cs:=cc cC (cc (cp 0) cn)
noncomputable def oz:Bs:=xC xn
noncomputable def Ao:Cs:=cc lC (cc (cf 149 cn (cc (cp 0) cn)) cn)
noncomputable def TK:Bs:=xc (cc lC cn) xn
noncomputable def f7:Cs:=cc lC cn
noncomputable def jL:Cs:=cc lC (cc lC cn)
noncomputable def qS:Cs:=cc cU (cc cI cn)
noncomputable def MM:Cs:=cc lC (cc cI cn)
noncomputable def Ap:Cs:=cc lC (cc (cf 132 cn cn) cn)
noncomputable def qT:Cs:=cc cT (cc cI (cc cI cn))
noncomputable def MN:Cs:=cc cT (cc cI (cc cI (cc cb cn)))
noncomputable def MO:Cs:=cc cT (cc cI (cc cI (cc (cp 0) (cc (cp 1) (cc (cp 2) cn)))))
noncomputable def GJ:Bs:=xI (xI (xc (cc cb cn) xn))
noncomputable def MP:Cs:=cc cT (cc (cf 129 cn (cc (cp 0) (cc (cp 1) (cc (cp 2) cn)))) cn)
noncomputable def MQ:Cs:=cc (cp 0) (cc cI cn)
noncomputable def MS:Cs:=cc lT cn
noncomputable def MT:Cs:=cc (cp 0) cn
noncomputable def Ar:Cs:=cc lF cn
noncomputable def MU:Cs:=cc cU (cc cI (cc cI cn))
noncomputable def MV:Cs:=cc cC (cc cI (cc cI cn))
noncomputable def MW:Cs:=cc hC (cc cC (cc (cp 0) (cc (cp 1) cn)))
noncomputable def sL:Bs:=xI (xI xn)
noncomputable def MX:Cs:=cc lC (cc hC (cc (cf 98 cn (cc (cp 0) (cc (cp 1) cn))) cn))
noncomputable def MY:Cs:=cc lC (cc cI (cc cI cn))
noncomputable def MZ:Cs:=cc (cp 0) (cc lC cn)
noncomputable def M0:Cs:=cc (cp 0) (cc lC (cc lC cn))
noncomputable def M1:Cs:=cc (cg (cc cI (cc cI cn))) (cc lC (cc cI cn))
noncomputable def M2:Cs:=cc (cg (cc cI (cc cI cn))) (cc cT (cc cI (cc cI cn)))
noncomputable def As:Cs:=cc (cp 0) (cc (cp 1) (cc (cp 2) cn))
noncomputable def GK:Bs:=xI (xT (xI xn))
noncomputable def M3:Cs:=cc cT (cc lI (cc (cf 142 cn (cc (cp 0) (cc (cp 1) (cc (cp 2) cn)))) cn))
noncomputable def Au:Cs:=cc cT (cc cI (cc lC cn))
noncomputable def Av:Cs:=cc (cf 105 cn cn) (cc (cp 0) (cc (cp 1) cn))
noncomputable def oA:Bs:=xI (xc (cc lC cn) xn)
noncomputable def M5:Cs:=cc (cf 106 cn cn) (cc (cp 0) (cc (cp 1) cn))
noncomputable def M6:Cs:=cc cI (cc lC cn)
noncomputable def M7:Cs:=cc lC (cc (cf 200 cn cn) cn)
noncomputable def M8:Cs:=cc lC (cc (cf 201 cn (cc (cp 0) cn)) cn)
noncomputable def M9:Cs:=cc lC (cc cC cn)
noncomputable def M_:Cs:=cc lC (cc lC (cc (cf 197 cn cn) cn))
noncomputable def Aw:Cs:=cc lC (cc cI (cc lC cn))
noncomputable def u6:Cs:=cc lC (cc cI (cc (cp 0) (cc (cp 1) (cc (cp 2) cn))))
noncomputable def TL:Bs:=xI (xc (cc lC cn) (xc (cc (cf 106 cn cn) cn) xn))
noncomputable def Na:Cs:=cc lC (cc cC (cc (cp 0) (cc (cp 1) cn)))
noncomputable def Nc:Cs:=cc lC (cc lC (cc (cf 154 cn (cc (cp 0) (cc (cp 1) cn))) cn))
noncomputable def GL:Bs:=xI (xc (cc lC cn) (xc (cc (cf 105 cn cn) cn) xn))
noncomputable def u7:Cs:=cc (cg (cc (cf 102 cn (cc (cp 0) (cc (cp 1) (cc (cp 2) cn)))) (cc (cf 102 cn (cc (cp 0) (cc (cp 1) (cc (cp 3) cn)))) cn))) (cc cT (cc cI cn))
noncomputable def yn:Bs:=xI (xc (cc lC cn) (xc (cc (cf 105 cn cn) cn) (xc (cc (cf 106 cn cn) cn) xn)))
noncomputable def Ax:Cs:=cc cI (cc (cp 0) cn)
noncomputable def TM:Bs:=xT xn
noncomputable def Ay:Cs:=cc (cg (cc (cf 102 cn (cc (cp 0) (cc (cp 1) (cc (cp 2) cn)))) (cc (cf 102 cn (cc (cp 0) (cc (cp 1) (cc (cp 3) cn)))) cn))) (cc lT (cc cI (cc (cf 111 cn (cc (cp 4) cn)) cn)))
noncomputable def GM:Bs:=xI (xc (cc lC cn) (xc (cc (cf 105 cn cn) cn) (xc (cc (cf 106 cn cn) cn) (xI xn))))
noncomputable def Nd:Cs:=cc (cg (cc (cf 102 cn (cc (cp 0) (cc (cp 1) (cc (cp 2) cn)))) (cc (cf 102 cn (cc (cp 0) (cc (cp 1) (cc (cp 3) cn)))) cn))) (cc lT (cc cI (cc (cf 109 cn (cc (cp 4) cn)) cn)))
noncomputable def TN:Bs:=xI (xc (cc lC cn) (xc (cc (cf 105 cn cn) cn) (xc (cc (cf 106 cn cn) cn) (xT xn))))
noncomputable def Nf:Cs:=cc lC (cc cI (cc (cp 0) cn))
noncomputable def Az:Cs:=cc (cg (cc (cf 112 cn (cc (cp 0) cn)) (cc (cf 112 cn (cc (cp 0) cn)) cn))) (cc cT (cc cI cn))
noncomputable def AB:Cs:=cc (cg (cc (cf 112 cn (cc (cp 0) cn)) (cc (cf 112 cn (cc (cp 0) cn)) cn))) (cc lT (cc cI (cc (cf 111 cn (cc (cp 1) cn)) cn)))
noncomputable def Ng:Cs:=cc (cg (cc (cf 112 cn (cc (cp 0) cn)) (cc (cf 112 cn (cc (cp 0) cn)) cn))) (cc lT (cc cI (cc (cf 109 cn (cc (cp 1) cn)) cn)))
noncomputable def TO:Bs:=xI (xT xn)
noncomputable def Nh:Cs:=cc (cp 0) (cc cT (cc lC cn))
noncomputable def GO:Bs:=xI (xI (xT xn))
noncomputable def Ni:Cs:=cc cT (cc lI (cc (cf 140 cn (cc (cp 0) (cc (cp 1) (cc (cp 2) cn)))) cn))
noncomputable def Nj:Cs:=cc (cp 0) (cc cT (cc cI (cc cI cn)))
noncomputable def Nk:Cs:=cc cI (cc lT cn)
noncomputable def Nm:Cs:=cc (cp 0) (cc cT cn)
noncomputable def Nn:Cs:=cc cT (cc lC (cc cT (cc cC (cc lC cn))))
noncomputable def Np:Cs:=cc cT (cc lC (cc cT cn))
noncomputable def qU:Cs:=cc lB cn
noncomputable def Nq:Cs:=cc cT (cc cT cn)
noncomputable def Nr:Cs:=cc lT (cc lT cn)
noncomputable def Ns:Cs:=cc cB cn
noncomputable def Nt:Cs:=cc lB (cc (cf 63 cn cn) cn)
noncomputable def bq {S:Type} (κ:Out UU→Option S):Int→Option S:=fun r=>κ (.ret (iI r) [])
noncomputable def aA {S:Type} (κ:Out UU→Option S):Bool→Option S:=fun r=>κ (.ret (.bool r) [])
noncomputable def Qg {S:Type} (κ:Out UU→Option S):Int×Int→Option S:=fun r=>κ (.ret (.tuple [(iI r.1),(iI r.2)]) [])
noncomputable def d6 {S:Type} (c0:Int) (κ:Out UU→Option S):Bool→Option S:=fun r=>κ (.ret (.bool r) [bI c0])
noncomputable def eK {S:Type} (κ:Out UU→Option S):Bool×Int→Option S:=fun r=>κ (.ret (.bool r.1) [.cells [(.func 169 [] [(pt 1),(pt 0)])],bI r.2])
noncomputable def Qv {S:Type} (κ:Out UU→Option S):Bool×Int→Option S:=fun r=>κ (.ret (.bool r.1) [bI r.2,.cells [(.func 169 [] [(pt 0),(pt 1)])]])
noncomputable def Qz {S:Type} (κ:Out UU→Option S):Cl→Option S:=fun r=>κ (.ret (aC r) [])
noncomputable def B8 {S:Type} (c0:Cl) (κ:Out UU→Option S):Bool→Option S:=fun r=>κ (.ret (.bool r) [bC c0])
noncomputable def rO {S:Type} (c0:Cl) (κ:Out UU→Option S):Int→Option S:=fun r=>κ (.ret (iI r) [bC c0])
noncomputable def QA {S:Type} (c0:List Cl) (κ:Out UU→Option S):Bool→Option S:=fun r=>κ (.ret (.bool r) [.cells [(sC c0)]])
noncomputable def aQ {S:Type} (κ:Out UU→Option S):List Cl×Int→Option S:=fun r=>κ (.ret (.tuple [(sC r.1),(iI r.2)]) [])
noncomputable def iZ {S:Type} (κ:Out UU→Option S):Int→Option S:=fun r=>κ (.ret (iU r) [])
noncomputable def eJ {S:Type} (c0 c1:Int) (c2:Bool) (κ:Out UU→Option S):Bool→Option S:=fun r=>κ (.ret (.bool r) [bI c0,bI c1,.cells [(.bool c2)]])
noncomputable def Qb {S:Type} (κ:Out UU→Option S):Int→Option S:=fun r=>κ (.ret (.tuple []) [bI r])
noncomputable def rD {S:Type} (κ:Out UU→Option S):Int→Option S:=fun r=>κ (.ret (pt 0) [bI r])
noncomputable def Qc {S:Type} (κ:Out UU→Option S):List Cl→Option S:=fun r=>κ (.ret (uF r) [])
noncomputable def Qd {S:Type} (κ:Out UU→Option S):Int×Int→Option S:=fun r=>κ (.ret (.tuple [(iU r.1),(iI r.2)]) [])
noncomputable def Qe {S:Type} (κ:Out UU→Option S):Cl×Int→Option S:=fun r=>κ (.ret (.tuple [(aC r.1),(iI r.2)]) [])
noncomputable def Qf {S:Type} (c0 c1:Int) (κ:Out UU→Option S):List Cl×Int→Option S:=fun r=>κ (.ret (.tuple [(uF r.1),(iI r.2)]) [bI c0,bI c1])
noncomputable def rE {S:Type} (c0 c1:Int) (κ:Out UU→Option S):List Cl×Int→Option S:=fun r=>κ (.ret (.tuple [(sC r.1),(iI r.2)]) [bI c0,bI c1])
noncomputable def B4 {S:Type} (κ:Out UU→Option S):List Cl×Int→Option S:=fun r=>κ (.ret (sC r.1) [bI r.2])
noncomputable def Qh {S:Type} (κ:Out UU→Option S):Pan Int (List Cl)→Option S:=fun r=>Pan.elim r (fun r=>κ (.ret (sC r) [])) (fun e=>κ (.panic (.iface 29 (iI e)) []))
noncomputable def dC {S:Type} (κ:Out UU→Option S):Pan Int Tm→Option S:=fun r=>Pan.elim r (fun r=>κ (.ret (aT r) [])) (fun e=>κ (.panic (.iface 29 (iI e)) []))
noncomputable def Qi {S:Type} (c0:Int) (c1:Tm) (c2:Int) (κ:Out UU→Option S):Pan Int Tm→Option S:=fun r=>Pan.elim r (fun r=>κ (.ret (aT r) [bI c0,bT c1,bI c2])) (fun e=>κ (.panic (.iface 29 (iI e)) [bI c0,bT c1,bI c2]))
noncomputable def rF {S:Type} (c0:Int) (c1:Tm) (c2:Int) (κ:Out UU→Option S):Tm×Int→Option S:=fun r=>κ (.ret (.tuple [(aT r.1),(iI r.2)]) [bI c0,bT c1,bI c2])
noncomputable def gY {S:Type} (κ:Out UU→Option S):Tm×Int→Option S:=fun r=>κ (.ret (.tuple [(aT r.1),(iI r.2)]) [])
noncomputable def Qj {S:Type} (c0:Int) (c1:List Cl) (κ:Out UU→Option S):Unit→Option S:=fun r=>κ (.ret (.func 102 [] [(pt 0),(pt 1),(pt 2)]) [bI c0,.cells [(sC c1)],.cells [(.func 105 [] [])]])
noncomputable def Qk {S:Type} (c0:Int) (c1:List Cl) (κ:Out UU→Option S):Unit→Option S:=fun r=>κ (.ret (.func 102 [] [(pt 0),(pt 1),(pt 2)]) [bI c0,.cells [(sC c1)],.cells [(.func 106 [] [])]])
noncomputable def Ql {S:Type} (κ:Out UU→Option S):Int×List Cl→Option S:=fun r=>κ (.ret (.agg [(.func 102 [] [(pt 0),(pt 1),(pt 2)]),(.func 102 [] [(pt 0),(pt 1),(pt 3)])]) [bI r.1,.cells [(sC r.2)],.cells [(.func 105 [] [])],.cells [(.func 106 [] [])]])
noncomputable def lx {S:Type} (κ:Out UU→Option S):List Cl→Option S:=fun r=>κ (.ret (sC r) [])
noncomputable def Qm {S:Type} (κ:Out UU→Option S):Cl×Bool→Option S:=fun r=>κ (.ret (.tuple [(aC r.1),(.bool r.2)]) [])
noncomputable def Qn {S:Type} (c0:Cl) (κ:Out UU→Option S):Cl×Bool→Option S:=fun r=>κ (.ret (.tuple [(aC r.1),(.bool r.2)]) [bC c0])
noncomputable def rG {S:Type} (c0:Cl) (κ:Out UU→Option S):List Cl→Option S:=fun r=>κ (.ret (sC r) [bC c0])
noncomputable def Qo {S:Type} (c0:Int) (c1:List Cl) (κ:Out UU→Option S):List Cl×Int→Option S:=fun r=>κ (.ret (.tuple [(sC r.1),(iI r.2)]) [bI c0,.cells [(sC c1)],.cells [(.func 106 [] [])]])
noncomputable def nS {S:Type} (c0:Int) (c1:List Cl) (κ:Out UU→Option S):List Cl×Int→Option S:=fun r=>κ (.ret (.tuple [(sC r.1),(iI r.2)]) [bI c0,.cells [(sC c1)]])
noncomputable def Qp {S:Type} (c0:Int) (c1:List Cl) (κ:Out UU→Option S):List Cl×Int→Option S:=fun r=>κ (.ret (.tuple [(sC r.1),(iI r.2)]) [bI c0,.cells [(sC c1)],.cells [(.func 105 [] [])]])
noncomputable def Qq {S:Type} (c0:Int) (c1:List Cl) (κ:Out UU→Option S):List Cl×Int→Option S:=fun r=>κ (.ret (.tuple [(sC r.1),(iI r.2)]) [bI c0,.cells [(sC c1)],.cells [(.func 105 [] [])],.cells [(.func 106 [] [])]])
noncomputable def Qr {S:Type} (c0:Tm) (κ:Out UU→Option S):Int→Option S:=fun r=>κ (.ret (iI r) [bT c0])
noncomputable def Qs {S:Type} (c0:Int) (κ:Out UU→Option S):Int→Option S:=fun r=>κ (.ret (iI r) [bI c0])
noncomputable def rH {S:Type} (c0:Int) (c1:List Cl) (κ:Out UU→Option S):Tm×Int→Option S:=fun r=>κ (.ret (.tuple [(aT r.1),(iI r.2)]) [bI c0,.cells [(sC c1)],.cells [(.func 105 [] [])],.cells [(.func 106 [] [])]])
noncomputable def rI {S:Type} (c0:Int) (c1:List Cl) (c4:Int) (κ:Out UU→Option S):List Tm×Int→Option S:=fun r=>κ (.ret (.tuple [(sT r.1),(iI r.2)]) [bI c0,.cells [(sC c1)],.cells [(.func 105 [] [])],.cells [(.func 106 [] [])],bI c4])
noncomputable def rJ {S:Type} (c0:Int) (c1:List Cl) (c4:Tm) (κ:Out UU→Option S):List Tm×Int→Option S:=fun r=>κ (.ret (.tuple [(sT r.1),(iI r.2)]) [bI c0,.cells [(sC c1)],.cells [(.func 105 [] [])],.cells [(.func 106 [] [])],bT c4])
noncomputable def Qt {S:Type} (κ:Out UU→Option S):Int→Option S:=fun r=>κ (.ret (.agg [(.func 112 [] [(pt 0)]),(.func 112 [] [(pt 0)])]) [bI r])
noncomputable def nT {S:Type} (c0:Int) (κ:Out UU→Option S):List Cl×Int→Option S:=fun r=>κ (.ret (.tuple [(sC r.1),(iI r.2)]) [bI c0])
noncomputable def rK {S:Type} (c0:Int) (κ:Out UU→Option S):Tm×Int→Option S:=fun r=>κ (.ret (.tuple [(aT r.1),(iI r.2)]) [bI c0])
noncomputable def rL {S:Type} (c0 c1:Int) (κ:Out UU→Option S):List Tm×Int→Option S:=fun r=>κ (.ret (.tuple [(sT r.1),(iI r.2)]) [bI c0,bI c1])
noncomputable def rM {S:Type} (c0:Int) (c1:Tm) (κ:Out UU→Option S):List Tm×Int→Option S:=fun r=>κ (.ret (.tuple [(sT r.1),(iI r.2)]) [bI c0,bT c1])
noncomputable def B5 {S:Type} (κ:Out UU→Option S):Tm×Int→Option S:=fun r=>κ (.ret (aT r.1) [bI r.2])
noncomputable def Qu {S:Type} (c0 c1:Int) (c2:Tm) (κ:Out UU→Option S):Pan Int Tm→Option S:=fun r=>Pan.elim r (fun r=>κ (.ret (aT r) [bI c0,bI c1,bT c2])) (fun e=>κ (.panic (.iface 29 (iI e)) [bI c0,bI c1,bT c2]))
noncomputable def rN {S:Type} (c0 c1:Int) (c2:Tm) (κ:Out UU→Option S):Tm×Int→Option S:=fun r=>κ (.ret (.tuple [(aT r.1),(iI r.2)]) [bI c0,bI c1,bT c2])
noncomputable def B6 {S:Type} (κ:Out UU→Option S):Int×Int×ByteArray×List Tm→Option S:=fun r=>κ (.ret (.agg [(iI r.1),(iI r.2.1),(.str r.2.2.1),(dD [] .nil),(sT r.2.2.2),(eL [] .nil)]) [])
noncomputable def Qw {S:Type} (κ:Out UU→Option S):Tm×Int×Int→Option S:=fun r=>κ (.ret (.tuple [(aT r.1),(iI r.2.1)]) [bI r.2.2])
noncomputable def B7 {S:Type} (κ:Out UU→Option S):Int×Int×ByteArray×List Tm×List (Br Tm)→Option S:=fun r=>κ (.ret (.agg [(iI r.1),(iI r.2.1),(.str r.2.2.1),(dD [] .nil),(sT r.2.2.2.1),(sB r.2.2.2.2)]) [])
noncomputable def Qx {S:Type} (κ:Out UU→Option S):Int×Int×ByteArray→Option S:=fun r=>κ (.ret (.agg [(iI r.1),(iI r.2.1),(.str r.2.2),(dD [] .nil),(fI [] .nil),(eL [] .nil)]) [])
noncomputable def Qy {S:Type} (κ:Out UU→Option S):Int×Int×ByteArray×List Cl×List Tm→Option S:=fun r=>κ (.ret (.agg [(iI r.1),(iI r.2.1),(.str r.2.2.1),(sC r.2.2.2.1),(sT r.2.2.2.2),(eL [] .nil)]) [])
end
end Go.Proofs.YtapmagaejigpnaaGreatDoor
namespace Go.Proofs.YtapmagaejigpnaaGreatDoor
open Go PI
set_option linter.unusedVariables false
set_option maxRecDepth 100000
noncomputable section
def vO {S:Type} (hd:fc S):Rw S:=ae uX xn fun t most κ=>hd t most (bq κ)
def jh {S:Type} (hd:fc S) (k:Nat):Fx S:=fp 119 [(40,vO hd)] [(5,bz [1,2,5,6] [(2,6)],aH 6 23),(9,bz [1,2,5,7] [(2,6)],aH 7 47),(15,bz [1,2,5,7,8] [(2,6)],aH 15 14639)] k Tryz.f40 0
def vl (t:Tm) (most:Int) (v5 i6:Int):St UU:=⟨[(1,(iI most)),(2,(pt 2)),(5,(iI v5)),(6,(iI i6))],[(2,bT t)],[],[]⟩
def nz (t:Tm) (most:Int) (v5' i7:Int):St UU:=⟨[(1,(iI most)),(2,(pt 2)),(5,(iI v5')),(7,(iI i7))],[(2,bT t)],[],[]⟩
def AR (t:Tm) (most i7:Int) (v5'' v8:Int):St UU:=⟨[(1,(iI most)),(2,(pt 2)),(5,(iI v5'')),(7,(iI i7)),(8,(iI v8))],[(2,bT t)],[],[]⟩
section
variable {S:Type} (hd:fc S) (k:Nat) (t:Tm) (most:Int) (κ:Out UU→Option S)
theorem Iy (i7 κ1): ∀n v5'' v8,(jh hd k).lp κ 15 [κ1] n (AR t most i7 v5'' v8)=gS hd k (bq κ) (fun v5' i7=>κ1 (nz t most v5' i7)) t most i7 n v5'' v8:=bO (ph hd k (bq κ) t most i7 (fun v5' i7=>κ1 (nz t most v5' i7))) rfl (fun _=>rfl) fun r v5'' v8=>by kernel_rfl
theorem Ix: ∀n v5' i7,(jh hd k).lp κ 9 [] n (nz t most v5' i7)=f_ hd k (bq κ) t most n v5' i7:=bO (fun own=>mo hd k (bq κ) t most (fun i7 v5'' v8=>gS hd k (bq κ) own t most i7 k v5'' v8) own) rfl (fun _=>rfl) fun r v5' i7=>Eq.trans (b:=mo hd k (bq κ) t most (fun i7 v5'' v8=>(jh hd k).lp κ 15 [r] k (AR t most i7 v5'' v8)) (fun v5' i7=>r (nz t most v5' i7)) v5' i7) (by kernel_rfl) (by simp only [Iy])
theorem Iw: ∀n v5 i6,(jh hd k).lp κ 5 [] n (vl t most v5 i6)=jS hd k (bq κ) t most n v5 i6:=bO (fun own=>mn hd k (bq κ) t most (fun v5' i7=>f_ hd k (bq κ) t most k v5' i7) own) rfl (fun _=>rfl) fun r v5 i6=>Eq.trans (b:=mn hd k (bq κ) t most (fun v5' i7=>(jh hd k).lp κ 9 [] k (nz t most v5' i7)) (fun v5 i6=>r (vl t most v5 i6)) v5 i6) (by kernel_rfl) (by simp only [Ix])
end
theorem z8 {S:Type} (o:Obj) (ho:ad o): ∀k:Nat,Tl o 40 (vO (dj k:fc S))
 |0=>g7 fun t most κ x h=>by cases h
 |k+1=>ah (jh (dj k) k) ⟨z8 o ho k,trivial⟩ Tryz.func40 (by kernel_rfl) fun t most κ x h=>Eq.trans (b:=xN (dj k) k (bq κ) (fun v5 i6=>(jh (dj k) k).lp κ 5 [] k (vl t most v5 i6)) t most) (by kernel_rfl) (Eq.trans (by simp only [Iw];rfl) h)
def B9 {S:Type} (k:Nat):Rw S:=ae uY xn fun a b sys κ=>aa k (mT k a b sys) (aA κ)
def GU {S:Type} (k:Nat):Fx S:=fp 21 [(40,vO (dj k))] [] k Tryz.f9 0
theorem Ku {S:Type} (o:Obj) (ho:ad o) (k:Nat):Tl o 9 (B9 k:Rw S):=ah (GU k) ⟨z8 o ho k,trivial⟩ Tryz.func9 (by kernel_rfl) fun a b sys κ x h=>Eq.trans (by kernel_rfl) (ai h)
def lA {S:Type} (k:Nat):Rw S:=ae ML xn fun kind kid κ=>aa k (ij k kind kid) (Qg κ)
def Hl {S:Type} (k:Nat):Fx S:=fp 26 [] [] k Tryz.f110 0
theorem m9 {S:Type} (o:Obj) (ho:ad o) (k:Nat):Tl o 110 (lA k:Rw S):=ah (Hl k) trivial Tryz.func110 (by kernel_rfl) fun kind kid κ x h=>Eq.trans (by kernel_rfl) (ai h)
def nV {S:Type} (hd:cu S):Rw S:=ae uX xn fun t left κ=>hd t left (aA κ)
def CN {S:Type} (hd:cu S) (k:Nat):Rw S:=ae Aq eO fun a_k p p' c0 κ=>aa k (mY hd k a_k p p' c0) (d6 c0 κ)
def HE {S:Type} (hd:cu S) (k:Nat):Fx S:=fp 12 [(125,nV hd)] [] k Tryz.f168 1
theorem K8 {S:Type} (o:Obj) (ho:ad o) (hd:cu S) (Hd:Tl o 125 (nV hd)) (k:Nat):Tl o 168 (CN hd k:Rw S):=ah (HE hd k) ⟨Hd,trivial⟩ Tryz.func168 (by kernel_rfl) fun a_k p p' c0 κ x h=>Eq.trans (by kernel_rfl) (ai h)
def CT {S:Type} (hd:cu S) (k:Nat):Rw S:=ae M4 eO fun t c0 κ=>aa k (uj hd k t c0) (d6 c0 κ)
def jk {S:Type} (hd:cu S) (k:Nat):Fx S:=fp 60 [(110,lA k),(168,CN hd k)] [(2,bz [1,2,15,16,17] [(2,6),(1000000,1)],aH 4 5),(12,bz [1,9,40,41,42] [(1000000,1)],aH 7 47),(15,bz [1,9,40,41,42,47,48,49] [(1000000,1)],aH 15 13103)] k Tryz.f128 1
def vr (c0:Int) (t:Tm) (v17:Int):St UU:=⟨[(1,(.func 168 [] [(pt 1000000)])),(2,(pt 2)),(15,(sT t.kids)),(16,(.int .i64 (t.kids.length:Int))),(17,(iI v17))],[(2,bT t),(1000000,bI c0)],[],[]⟩
def nE (c0:Int) (t:Tm) (v42 more9:Int):St UU:=⟨[(1,(.func 168 [] [(pt 1000000)])),(9,(iI more9)),(40,(sB t.sys)),(41,(.int .i64 (t.sys.length:Int))),(42,(iI v42))],[(1000000,bI c0)],[],[]⟩
def Bk (c0:Int) (t:Tm) (v42:Int) (x4:(Br Tm)) (more9:Int) (v49:Int):St UU:=⟨[(1,(.func 168 [] [(pt 1000000)])),(9,(iI more9)),(40,(sB t.sys)),(41,(.int .i64 (t.sys.length:Int))),(42,(iI v42)),(47,(sT x4.kids)),(48,(.int .i64 (x4.kids.length:Int))),(49,(iI v49))],[(1000000,bI c0)],[],[]⟩
section
variable {S:Type} (hd:cu S) (k:Nat) (t:Tm) (c0:Int) (κ:Out UU→Option S)
theorem Jb (v42 x4 more9 κ1): ∀n v49,(jk hd k).lp κ 15 [κ1] n (Bk c0 t v42 x4 more9 v49)=iP hd k (d6 c0 κ) (fun v42 more9=>κ1 (nE c0 t v42 more9)) c0 t v42 x4 more9 n v49:=cA (pr hd k (d6 c0 κ) c0 t v42 x4 more9 (fun v42 more9=>κ1 (nE c0 t v42 more9))) rfl (fun _=>rfl) fun r v49=>by kernel_rfl
theorem Ja: ∀n v42 more9,(jk hd k).lp κ 12 [] n (nE c0 t v42 more9)=fA hd k (d6 c0 κ) c0 t n v42 more9:=bO (fun own=>mz hd k (d6 c0 κ) c0 t (fun v42 x4 more9 v49=>iP hd k (d6 c0 κ) own c0 t v42 x4 more9 k v49) own) rfl (fun _=>rfl) fun r v42 more9=>Eq.trans (b:=mz hd k (d6 c0 κ) c0 t (fun v42 x4 more9 v49=>(jk hd k).lp κ 15 [r] k (Bk c0 t v42 x4 more9 v49)) (fun v42 more9=>r (nE c0 t v42 more9)) v42 more9) (by kernel_rfl) (by simp only [Jb])
theorem I_: ∀n v17,(jk hd k).lp κ 2 [] n (vr c0 t v17)=lh hd k (d6 c0 κ) c0 t n v17:=cA (fun own=>my hd k (d6 c0 κ) c0 t (fun v42 more9=>fA hd k (d6 c0 κ) c0 t k v42 more9) own) rfl (fun _=>rfl) fun r v17=>Eq.trans (b:=my hd k (d6 c0 κ) c0 t (fun v42 more9=>(jk hd k).lp κ 12 [] k (nE c0 t v42 more9)) (fun v17=>r (vr c0 t v17)) v17) (by kernel_rfl) (by simp only [Ja])
end
theorem Lc {S:Type} (o:Obj) (ho:ad o) (hd:cu S) (Hd:Tl o 125 (nV hd)) (k:Nat):Tl o 128 (CT hd k:Rw S):=ah (jk hd k) ⟨m9 o ho k,K8 o ho hd Hd k,trivial⟩ Tryz.func128 (by kernel_rfl) fun t c0 κ x h=>Eq.trans (b:=xX hd k (d6 c0 κ) (fun v17=>(jk hd k).lp κ 2 [] k (vr c0 t v17)) t c0) (by kernel_rfl) (Eq.trans (by simp only [I_];rfl) (ai h))
def Hx {S:Type} (hd:cu S) (k:Nat):Fx S:=fp 12 [(128,CT hd k)] [] k Tryz.f125 0
theorem Ab {S:Type} (o:Obj) (ho:ad o): ∀k:Nat,Tl o 125 (nV (fV k:cu S))
 |0=>g7 fun t left κ x h=>by cases h
 |k+1=>ah (Hx (fV k) k) ⟨Lc o ho (fV k) (Ab o ho k) k,trivial⟩ Tryz.func125 (by kernel_rfl) fun t left κ x h=>Eq.trans (by kernel_rfl) h
def rW {S:Type} (hd:ct S):Rw S:=ae Nb GN fun t c1 κ=>hd t c1 (eK κ)
def wg {S:Type} (hd:ct S) (k:Nat):Rw S:=ae Nl TP fun t c0 κ=>aa k (kG hd k t c0) (Qv κ)
def H4 {S:Type} (hd:ct S) (k:Nat):Fx S:=fp 14 [(128,rW hd)] [] k Tryz.f169 2
theorem zB {S:Type} (o:Obj) (ho:ad o) (hd:ct S) (Hd:Tl o 128 (rW hd)) (k:Nat):Tl o 169 (wg hd k:Rw S):=ah (H4 hd k) ⟨Hd,trivial⟩ Tryz.func169 (by kernel_rfl) fun t c0 κ x h=>Eq.trans (by kernel_rfl) (ai h)
def Dd {S:Type} (hd:ct S) (k:Nat):Rw S:=ae Aq GN fun a_k p p' c1 κ=>aa k (m0 hd k a_k p p' c1) (eK κ)
def H_ {S:Type} (hd:ct S) (k:Nat):Fx S:=fp 11 [(169,wg hd k)] [] k Tryz.f170 2
theorem Lx {S:Type} (o:Obj) (ho:ad o) (hd:ct S) (Hd:Tl o 128 (rW hd)) (k:Nat):Tl o 170 (Dd hd k:Rw S):=ah (H_ hd k) ⟨zB o ho hd Hd k,trivial⟩ Tryz.func170 (by kernel_rfl) fun a_k p p' c1 κ x h=>Eq.trans (by kernel_rfl) (ai h)
def jl {S:Type} (hd:ct S) (k:Nat):Fx S:=fp 60 [(110,lA k),(170,Dd hd k)] [(2,bz [1,2,15,16,17] [(2,6),(1000000,1),(1000001,1)],aH 4 5),(12,bz [1,9,40,41,42] [(1000000,1),(1000001,1)],aH 7 47),(15,bz [1,9,40,41,42,47,48,49] [(1000000,1),(1000001,1)],aH 15 13103)] k Tryz.f128 2
def vt (t:Tm) (e1_0 v17:Int):St UU:=⟨[(1,(.func 170 [] [(pt 1000000)])),(2,(pt 2)),(15,(sT t.kids)),(16,(.int .i64 (t.kids.length:Int))),(17,(iI v17))],[(2,bT t),(1000000,.cells [(.func 169 [] [(pt 1000001),(pt 1000000)])]),(1000001,bI e1_0)],[],[]⟩
def nF (t:Tm) (e1_0' v42 more9:Int):St UU:=⟨[(1,(.func 170 [] [(pt 1000000)])),(9,(iI more9)),(40,(sB t.sys)),(41,(.int .i64 (t.sys.length:Int))),(42,(iI v42))],[(1000000,.cells [(.func 169 [] [(pt 1000001),(pt 1000000)])]),(1000001,bI e1_0')],[],[]⟩
def Bm (t:Tm) (v42:Int) (x4:(Br Tm)) (more9:Int) (e1_0'' v49:Int):St UU:=⟨[(1,(.func 170 [] [(pt 1000000)])),(9,(iI more9)),(40,(sB t.sys)),(41,(.int .i64 (t.sys.length:Int))),(42,(iI v42)),(47,(sT x4.kids)),(48,(.int .i64 (x4.kids.length:Int))),(49,(iI v49))],[(1000000,.cells [(.func 169 [] [(pt 1000001),(pt 1000000)])]),(1000001,bI e1_0'')],[],[]⟩
section
variable {S:Type} (hd:ct S) (k:Nat) (t:Tm) (c1:Int) (κ:Out UU→Option S)
theorem Je (v42 x4 more9 κ1): ∀n e1_0'' v49,(jl hd k).lp κ 15 [κ1] n (Bm t v42 x4 more9 e1_0'' v49)=fy hd k (eK κ) (fun e1_0' v42 more9=>κ1 (nF t e1_0' v42 more9)) t v42 x4 more9 n e1_0'' v49:=bO (po hd k (eK κ) t v42 x4 more9 (fun e1_0' v42 more9=>κ1 (nF t e1_0' v42 more9))) rfl (fun _=>rfl) fun r e1_0'' v49=>by kernel_rfl
theorem Jd: ∀n e1_0' v42 more9,(jl hd k).lp κ 12 [] n (nF t e1_0' v42 more9)=eB hd k (eK κ) t n e1_0' v42 more9:=lm (fun own=>mt hd k (eK κ) t (fun v42 x4 more9 e1_0'' v49=>fy hd k (eK κ) own t v42 x4 more9 k e1_0'' v49) own) rfl (fun _=>rfl) fun r e1_0' v42 more9=>Eq.trans (b:=mt hd k (eK κ) t (fun v42 x4 more9 e1_0'' v49=>(jl hd k).lp κ 15 [r] k (Bm t v42 x4 more9 e1_0'' v49)) (fun e1_0' v42 more9=>r (nF t e1_0' v42 more9)) e1_0' v42 more9) (by kernel_rfl) (by simp only [Je])
theorem Jc: ∀n e1_0 v17,(jl hd k).lp κ 2 [] n (vt t e1_0 v17)=jU hd k (eK κ) t n e1_0 v17:=bO (fun own=>mq hd k (eK κ) t (fun e1_0' v42 more9=>eB hd k (eK κ) t k e1_0' v42 more9) own) rfl (fun _=>rfl) fun r e1_0 v17=>Eq.trans (b:=mq hd k (eK κ) t (fun e1_0' v42 more9=>(jl hd k).lp κ 12 [] k (nF t e1_0' v42 more9)) (fun e1_0 v17=>r (vt t e1_0 v17)) e1_0 v17) (by kernel_rfl) (by simp only [Jd])
end
theorem Ac {S:Type} (o:Obj) (ho:ad o): ∀k:Nat,Tl o 128 (rW (dU k:ct S))
 |0=>g7 fun t c1 κ x h=>by cases h
 |k+1=>ah (jl (dU k) k) ⟨m9 o ho k,Lx o ho (dU k) (Ac o ho k) k,trivial⟩ Tryz.func128 (by kernel_rfl) fun t c1 κ x h=>Eq.trans (b:=xV (dU k) k (eK κ) (fun e1_0 v17=>(jl (dU k) k).lp κ 2 [] k (vt t e1_0 v17)) t c1) (by kernel_rfl) (Eq.trans (by simp only [Jc];rfl) h)
def Dm {S:Type} (k:Nat):Rw S:=ae uX xn fun t most κ=>aa k (qj k t most) (aA κ)
def Ih {S:Type} (k:Nat):Fx S:=fp 10 [(169,wg (dU k) k)] [] k Tryz.f126 0
theorem LH {S:Type} (o:Obj) (ho:ad o) (k:Nat):Tl o 126 (Dm k:Rw S):=ah (Ih k) ⟨zB o ho (dU k) (Ac o ho k) k,trivial⟩ Tryz.func126 (by kernel_rfl) fun t most κ x h=>Eq.trans (by kernel_rfl) (ai h)
def vP {S:Type} (k:Nat):Rw S:=ae uZ xn fun t κ=>aa k (mZ k t) (bq κ)
def GV {S:Type} (k:Nat):Fx S:=fp 11 [(125,nV (fV k)),(126,Dm k)] [] k Tryz.f80 0
theorem zj {S:Type} (o:Obj) (ho:ad o) (k:Nat):Tl o 80 (vP k:Rw S):=ah (GV k) ⟨Ab o ho k,LH o ho k,trivial⟩ Tryz.func80 (by kernel_rfl) fun t κ x h=>Eq.trans (by kernel_rfl) (ai h)
def Cg {S:Type} (k:Nat):Rw S:=ae gP xn fun kind κ=>aa k (qf k kind) (bq κ)
def G3 {S:Type} (k:Nat):Fx S:=fp 38 [] [] k Tryz.f171 0
theorem KB {S:Type} (o:Obj) (ho:ad o) (k:Nat):Tl o 171 (Cg k:Rw S):=ah (G3 k) trivial Tryz.func171 (by kernel_rfl) fun kind κ x h=>Eq.trans (by kernel_rfl) (ai h)
def Cm {S:Type} (k:Nat):Rw S:=ae gP xn fun kind κ=>aa k (il k kind) (bq κ)
def Hb {S:Type} (k:Nat):Fx S:=fp 10 [] [] k Tryz.f172 0
theorem KG {S:Type} (o:Obj) (ho:ad o) (k:Nat):Tl o 172 (Cm k:Rw S):=ah (Hb k) trivial Tryz.func172 (by kernel_rfl) fun kind κ x h=>Eq.trans (by kernel_rfl) (ai h)
def Cr {S:Type} (k:Nat):Rw S:=ae MK xn fun s κ=>aa k (qi k s) (aA κ)
def lY {S:Type} (k:Nat):Fx S:=fp 49 [] [(2,bz [0,7,8] [],aH 4 5),(1000006,bz [0,3,4,5,7,8] [],aH 12 3685)] k Tryz.f173 0
def nA (s:ByteArray) (v8:Int):St UU:=⟨[(0,(.str s)),(7,(.int .i64 (s.size:Int))),(8,(iI v8))],[],[],[]⟩
def AZ (s:ByteArray) (v8:Int) (x1:UInt8) (letter5:Bool):St UU:=⟨[(0,(.str s)),(3,(iI v8)),(4,(.int .u8 (x1.toNat:Int))),(5,(.bool letter5)),(7,(.int .i64 (s.size:Int))),(8,(iI v8))],[],[],[]⟩
section
variable {S:Type} (k:Nat) (s:ByteArray) (κ:Out UU→Option S)
theorem IH (v8 x1 κ0): ∀n letter5,(lY k).jn κ 1000006 [κ0] n (AZ s v8 x1 letter5)=qV k (aA κ) (fun v8=>κ0 (nA s v8)) s v8 x1 n letter5:=Am (tz k (aA κ) s v8 x1 (fun v8=>κ0 (nA s v8))) rfl (fun _=>rfl) (fun letter5=>by kernel_rfl)
theorem IG: ∀n v8,(lY k).lp κ 2 [] n (nA s v8)=jW k (aA κ) s n v8:=cA (fun own=>mA k (aA κ) s (fun v8 x1 letter5=>qV k (aA κ) own s v8 x1 k letter5) own) rfl (fun _=>rfl) fun r v8=>Eq.trans (b:=mA k (aA κ) s (fun v8 x1 letter5=>(lY k).jn κ 1000006 [r] k (AZ s v8 x1 letter5)) (fun v8=>r (nA s v8)) v8) (by kernel_rfl) (by simp only [IH])
end
theorem KL {S:Type} (o:Obj) (ho:ad o) (k:Nat):Tl o 173 (Cr k:Rw S):=ah (lY k) trivial Tryz.func173 (by kernel_rfl) fun s κ x h=>Eq.trans (b:=xY k (aA κ) (fun v8=>(lY k).lp κ 2 [] k (nA s v8)) s) (by kernel_rfl) (Eq.trans (by simp only [IG];rfl) (ai h))
def Ct {S:Type} (k:Nat):Rw S:=ae u4 xn fun s κ=>aa k (kC k s) (aA κ)
def Hg {S:Type} (k:Nat):Fx S:=fp 6 [] [] k Tryz.f192 0
theorem KM {S:Type} (o:Obj) (ho:ad o) (k:Nat):Tl o 192 (Ct k:Rw S):=ah (Hg k) trivial Tryz.func192 (by kernel_rfl) fun s κ x h=>Eq.trans (by kernel_rfl) (ai h)
def vY {S:Type} (k:Nat):Rw S:=ae qR xn fun c κ=>aa k (mK k c) (aA κ)
def Hh {S:Type} (k:Nat):Fx S:=fp 11 [(192,Ct k)] [] k Tryz.f146 0
theorem zt {S:Type} (o:Obj) (ho:ad o) (k:Nat):Tl o 146 (vY k:Rw S):=ah (Hh k) ⟨KM o ho k,trivial⟩ Tryz.func146 (by kernel_rfl) fun c κ x h=>Eq.trans (by kernel_rfl) (ai h)
def rP {S:Type} (k:Nat):Rw S:=ae An xn fun a b κ=>aa k (ku k a b) (Qz κ)
def Hi {S:Type} (k:Nat):Fx S:=fp 16 [] [] k Tryz.f193 0
theorem up {S:Type} (o:Obj) (ho:ad o) (k:Nat):Tl o 193 (rP k:Rw S):=ah (Hi k) trivial Tryz.func193 (by kernel_rfl) fun a b κ x h=>Eq.trans (by kernel_rfl) (ai h)
def Cu {S:Type} (k:Nat):Rw S:=ae An xn fun a b κ=>aa k (pG k a b) (aA κ)
def Hj {S:Type} (k:Nat):Fx S:=fp 10 [(193,rP k)] [] k Tryz.f150 0
theorem KN {S:Type} (o:Obj) (ho:ad o) (k:Nat):Tl o 150 (Cu k:Rw S):=ah (Hj k) ⟨up o ho k,trivial⟩ Tryz.func150 (by kernel_rfl) fun a b κ x h=>Eq.trans (by kernel_rfl) (ai h)
def Cv {S:Type} (k:Nat):Rw S:=ae u5 oz fun d c0 κ=>aa k (pI k d c0) (B8 c0 κ)
def Hk {S:Type} (k:Nat):Fx S:=fp 12 [(150,Cu k)] [] k Tryz.f149 1
theorem KO {S:Type} (o:Obj) (ho:ad o) (k:Nat):Tl o 149 (Cv k:Rw S):=ah (Hk k) ⟨KN o ho k,trivial⟩ Tryz.func149 (by kernel_rfl) fun d c0 κ x h=>Eq.trans (by kernel_rfl) (ai h)
def Cw {S:Type} (k:Nat):Rw S:=ae Ao oz fun s c0 κ=>aa k (ug k s c0) (rO c0 κ)
def sY {S:Type} (k:Nat):Fx S:=fp 19 [(149,Cv k)] [(2,bz [0,1,7,8] [(1000000,2)],aH 4 5)] k Tryz.f175 1
def A2 (c0:Cl) (s:List Cl) (v8:Int):St UU:=⟨[(0,(sC s)),(1,(.func 149 [] [(pt 1000000)])),(7,(.int .i64 (s.length:Int))),(8,(iI v8))],[(1000000,bC c0)],[],[]⟩
section
variable {S:Type} (k:Nat) (s:List Cl) (c0:Cl) (κ:Out UU→Option S)
theorem IK: ∀n v8,(sY k).lp κ 2 [] n (A2 c0 s v8)=lf k (rO c0 κ) c0 s n v8:=cA (pm k (rO c0 κ) c0 s) rfl (fun _=>rfl) fun r v8=>by kernel_rfl
end
theorem KP {S:Type} (o:Obj) (ho:ad o) (k:Nat):Tl o 175 (Cw k:Rw S):=ah (sY k) ⟨KO o ho k,trivial⟩ Tryz.func175 (by kernel_rfl) fun s c0 κ x h=>Eq.trans (b:=xR k (rO c0 κ) (fun v8=>(sY k).lp κ 2 [] k (A2 c0 s v8)) s c0) (by kernel_rfl) (Eq.trans (by simp only [IK];rfl) (ai h))
def Cy {S:Type} (k:Nat):Rw S:=ae Ao oz fun s c0 κ=>aa k (ue k s c0) (B8 c0 κ)
def Hm {S:Type} (k:Nat):Fx S:=fp 9 [(175,Cw k)] [] k Tryz.f131 1
theorem KR {S:Type} (o:Obj) (ho:ad o) (k:Nat):Tl o 131 (Cy k:Rw S):=ah (Hm k) ⟨KP o ho k,trivial⟩ Tryz.func131 (by kernel_rfl) fun s c0 κ x h=>Eq.trans (by kernel_rfl) (ai h)
def CD {S:Type} (k:Nat):Rw S:=ae u5 TK fun c c0 κ=>aa k (pH k c c0) (QA c0 κ)
def Hp {S:Type} (k:Nat):Fx S:=fp 7 [(131,Cy k)] [] k Tryz.f148 1
theorem KW {S:Type} (o:Obj) (ho:ad o) (k:Nat):Tl o 148 (CD k:Rw S):=ah (Hp k) ⟨KR o ho k,trivial⟩ Tryz.func148 (by kernel_rfl) fun c c0 κ x h=>Eq.trans (by kernel_rfl) (ai h)
def gh {S:Type} (k:Nat):Rw S:=ae f7 xn fun l κ=>aa k (eR k l) (aQ κ)
def lZ {S:Type} (k:Nat):Fx S:=fx 55 (fun _=>[]) (fun|53=>true|_=>false) [(146,vY k),(148,CD k)] [(4,⟨[(4,.none),(5,.none),(13,.none),(14,.none),(15,.none)],[(5,[some (200320,true)]),(12,[])]⟩,aH 6 23),(15,⟨[(8,.none),(9,some (100009,true)),(34,.none),(35,.none),(36,.none)],[(5,[.none])]⟩,aH 9 191)] k Tryz.f100 false [] 0
def vn (l:List Cl) (b12_0:List (Cl×Bool)) (b5_0:List Cl) (v15:Int):St UU:=⟨[(4,(.mp 12)),(5,(pt 5)),(13,(sC l)),(14,(.int .i64 (l.length:Int))),(15,(iI v15))],[(5,.cells [(.own 200320 0)]),(12,.map ET.C b12_0)],[(200320,⟨0,ET.C,b5_0⟩)],[(200320,.wr)]⟩
def A6 (b5_0:List Cl) (v36:Int) (kept9:List Cl):St UU:=⟨[(8,(.func 148 [] [(pt 5)])),(9,(.own 100009 0)),(34,(sC b5_0)),(35,(.int .i64 (b5_0.length:Int))),(36,(iI v36))],[(5,.cells [(sC b5_0)])],[(100009,⟨0,ET.C,kept9⟩)],[(100009,.wr)]⟩
section
variable {S:Type} (k:Nat) (l:List Cl) (κ:Out UU→Option S)
theorem IS (b5_0): ∀n v36 kept9,(lZ k).lp κ 15 [] n (A6 b5_0 v36 kept9)=jM k (aQ κ) b5_0 n v36 kept9:=bO (oL k (aQ κ) b5_0) rfl (fun _=>rfl) fun r v36 kept9=>by kernel_rfl
theorem IR: ∀n b12_0 b5_0 v15,(lZ k).lp κ 4 [] n (vn l b12_0 b5_0 v15)=kO k (aQ κ) l n b12_0 b5_0 v15:=lm (fun own=>me k (aQ κ) l (fun b5_0 v36 kept9=>jM k (aQ κ) b5_0 k v36 kept9) own) rfl (fun _=>rfl) fun r b12_0 b5_0 v15=>Eq.trans (b:=me k (aQ κ) l (fun b5_0 v36 kept9=>(lZ k).lp κ 15 [] k (A6 b5_0 v36 kept9)) (fun b12_0 b5_0 v15=>r (vn l b12_0 b5_0 v15)) b12_0 b5_0 v15) (by kernel_rfl) (by simp only [IS])
end
theorem gJ {S:Type} (o:Obj) (ho:ad o) (k:Nat):Tl o 100 (gh k:Rw S):=ah (lZ k) ⟨zt o ho k,KW o ho k,trivial⟩ Tryz.func100 (by kernel_rfl) fun l κ x h=>Eq.trans (b:=xd k (aQ κ) (fun b12_0 b5_0 v15=>(lZ k).lp κ 4 [] k (vn l b12_0 b5_0 v15)) l) (by kernel_rfl) (Eq.trans (by simp only [IR];rfl) (ai h))
def CG {S:Type} (k:Nat):Rw S:=ae jL xn fun s1 s2 κ=>aa k (qb k s1 s2) (aA κ)
def s_ {S:Type} (k:Nat):Fx S:=fp 26 [] [(4,bz [0,1,12,13] [],aH 5 11)] k Tryz.f145 0
def A7 (s1 s2:List Cl) (v13:Int):St UU:=⟨[(0,(sC s1)),(1,(sC s2)),(12,(.int .i64 (s1.length:Int))),(13,(iI v13))],[],[],[]⟩
section
variable {S:Type} (k:Nat) (s1 s2:List Cl) (κ:Out UU→Option S)
theorem IT: ∀n v13,(s_ k).lp κ 4 [] n (A7 s1 s2 v13)=ld k (aA κ) s1 s2 n v13:=cA (pk k (aA κ) s1 s2) rfl (fun _=>rfl) fun r v13=>by kernel_rfl
end
theorem KZ {S:Type} (o:Obj) (ho:ad o) (k:Nat):Tl o 145 (CG k:Rw S):=ah (s_ k) trivial Tryz.func145 (by kernel_rfl) fun s1 s2 κ x h=>Eq.trans (b:=xQ k (aA κ) (fun v13=>(s_ k).lp κ 4 [] k (A7 s1 s2 v13)) s1 s2) (by kernel_rfl) (Eq.trans (by simp only [IT];rfl) (ai h))
def j7 {S:Type} (k:Nat):Rw S:=ae f7 xn fun f κ=>aa k (fg k f) (aA κ)
def Hs {S:Type} (k:Nat):Fx S:=fp 17 [(100,gh k),(145,CG k)] [] k Tryz.f95 0
theorem kI {S:Type} (o:Obj) (ho:ad o) (k:Nat):Tl o 95 (j7 k:Rw S):=ah (Hs k) ⟨gJ o ho k,KZ o ho k,trivial⟩ Tryz.func95 (by kernel_rfl) fun f κ x h=>Eq.trans (by kernel_rfl) (ai h)
def nU {S:Type} (k:Nat):Rw S:=ae gP xn fun i κ=>aa k (jC k i) (aA κ)
def Ht {S:Type} (k:Nat):Fx S:=fp 9 [] [] k Tryz.f130 0
theorem qu {S:Type} (o:Obj) (ho:ad o) (k:Nat):Tl o 130 (nU k:Rw S):=ah (Ht k) trivial Tryz.func130 (by kernel_rfl) fun i κ x h=>Eq.trans (by kernel_rfl) (ai h)
def rR {S:Type} (k:Nat):Rw S:=ae qS xn fun s i κ=>aa k (gG k s i) (iZ κ)
def Hu {S:Type} (k:Nat):Fx S:=fp 16 [(130,nU k)] [] k Tryz.f82 0
theorem uq {S:Type} (o:Obj) (ho:ad o) (k:Nat):Tl o 82 (rR k:Rw S):=ah (Hu k) ⟨qu o ho k,trivial⟩ Tryz.func82 (by kernel_rfl) fun s i κ x h=>Eq.trans (by kernel_rfl) (ai h)
def rS {S:Type} (k:Nat):Rw S:=ae f7 xn fun f κ=>aa k (ky k f) (iZ κ)
def ta {S:Type} (k:Nat):Fx S:=fp 22 [(82,rR k)] [(3,bz [3,6,7,8] [],aH 5 11)] k Tryz.f38 0
def A8 (f:List Cl) (s3 v8:Int):St UU:=⟨[(3,(iU s3)),(6,(sC f)),(7,(.int .i64 (f.length:Int))),(8,(iI v8))],[],[],[]⟩
section
variable {S:Type} (k:Nat) (f:List Cl) (κ:Out UU→Option S)
theorem IU: ∀n s3 v8,(ta k).lp κ 3 [] n (A8 f s3 v8)=kU k (iZ κ) f n s3 v8:=bO (oX k (iZ κ) f) rfl (fun _=>rfl) fun r s3 v8=>by kernel_rfl
end
theorem ur {S:Type} (o:Obj) (ho:ad o) (k:Nat):Tl o 38 (rS k:Rw S):=ah (ta k) ⟨uq o ho k,trivial⟩ Tryz.func38 (by kernel_rfl) fun f κ x h=>Eq.trans (b:=xx k (iZ κ) (fun s3 v8=>(ta k).lp κ 3 [] k (A8 f s3 v8)) f) (by kernel_rfl) (Eq.trans (by simp only [IU];rfl) (ai h))
def CH {S:Type} (k:Nat):Rw S:=ae MM xn fun f dims κ=>aa k (io k f dims) (aA κ)
def Hv {S:Type} (k:Nat):Fx S:=fp 15 [(38,rS k)] [] k Tryz.f174 0
theorem K0 {S:Type} (o:Obj) (ho:ad o) (k:Nat):Tl o 174 (CH k:Rw S):=ah (Hv k) ⟨ur o ho k,trivial⟩ Tryz.func174 (by kernel_rfl) fun f dims κ x h=>Eq.trans (by kernel_rfl) (ai h)
def v6 {S:Type} (k:Nat):Rw S:=ae qR xn fun c κ=>aa k (mJ k c) (aA κ)
def Hw {S:Type} (k:Nat):Fx S:=fp 9 [] [] k Tryz.f132 0
theorem zu {S:Type} (o:Obj) (ho:ad o) (k:Nat):Tl o 132 (v6 k:Rw S):=ah (Hw k) trivial Tryz.func132 (by kernel_rfl) fun c κ x h=>Eq.trans (by kernel_rfl) (ai h)
def CI {S:Type} (k:Nat):Rw S:=ae Ap xn fun s κ=>aa k (uh k s) (bq κ)
def tb {S:Type} (k:Nat):Fx S:=fp 19 [(132,v6 k)] [(2,bz [0,1,7,8] [],aH 4 5)] k Tryz.f175 0
def A9 (s:List Cl) (v8:Int):St UU:=⟨[(0,(sC s)),(1,(.func 132 [] [])),(7,(.int .i64 (s.length:Int))),(8,(iI v8))],[],[],[]⟩
section
variable {S:Type} (k:Nat) (s:List Cl) (κ:Out UU→Option S)
theorem IV: ∀n v8,(tb k).lp κ 2 [] n (A9 s v8)=lg k (bq κ) s n v8:=cA (pn k (bq κ) s) rfl (fun _=>rfl) fun r v8=>by kernel_rfl
end
theorem K3 {S:Type} (o:Obj) (ho:ad o) (k:Nat):Tl o 175 (CI k:Rw S):=ah (tb k) ⟨zu o ho k,trivial⟩ Tryz.func175 (by kernel_rfl) fun s κ x h=>Eq.trans (b:=xS k (bq κ) (fun v8=>(tb k).lp κ 2 [] k (A9 s v8)) s) (by kernel_rfl) (Eq.trans (by simp only [IV];rfl) (ai h))
def CJ {S:Type} (k:Nat):Rw S:=ae Ap xn fun s κ=>aa k (uf k s) (aA κ)
def Hy {S:Type} (k:Nat):Fx S:=fp 9 [(175,CI k)] [] k Tryz.f131 0
theorem K4 {S:Type} (o:Obj) (ho:ad o) (k:Nat):Tl o 131 (CJ k:Rw S):=ah (Hy k) ⟨K3 o ho k,trivial⟩ Tryz.func131 (by kernel_rfl) fun s κ x h=>Eq.trans (by kernel_rfl) (ai h)
def nW {S:Type} (k:Nat):Rw S:=ae f7 xn fun f κ=>aa k (h_ k f) (aA κ)
def Hz {S:Type} (k:Nat):Fx S:=fp 10 [(95,j7 k),(131,CJ k)] [] k Tryz.f84 0
theorem qv {S:Type} (o:Obj) (ho:ad o) (k:Nat):Tl o 84 (nW k:Rw S):=ah (Hz k) ⟨kI o ho k,K4 o ho k,trivial⟩ Tryz.func84 (by kernel_rfl) fun f κ x h=>Eq.trans (by kernel_rfl) (ai h)
def CK {S:Type} (k:Nat):Rw S:=ae qT xn fun t vars dims κ=>aa k (mX k t vars dims) (aA κ)
def l6 {S:Type} (k:Nat):Fx S:=fp 138 [(84,nW k),(95,j7 k),(171,Cg k),(172,Cm k),(173,Cr k),(174,CH k)] [(1000003,bz [1,2,3] [(3,6)],aH 2 3),(15,bz [2,3,107,108,109] [(3,6)],aH 6 23)] k Tryz.f127 0
def A_ (t:Tm) (vars dims:Int):St UU:=⟨[(1,(iI vars)),(2,(iI dims)),(3,(pt 3))],[(3,bT t)],[],[]⟩
def Ba (t:Tm) (dims:Int) (v109:Int):St UU:=⟨[(2,(iI dims)),(3,(pt 3)),(107,(sB t.sys)),(108,(.int .i64 (t.sys.length:Int))),(109,(iI v109))],[(3,bT t)],[],[]⟩
section
variable {S:Type} (k:Nat) (t:Tm) (vars dims:Int) (κ:Out UU→Option S)
theorem IX: ∀n v109,(l6 k).lp κ 15 [] n (Ba t dims v109)=gT k (aA κ) t dims n v109:=cA (pu k (aA κ) t dims) rfl (fun _=>rfl) fun r v109=>by kernel_rfl
theorem IW: ∀n,(l6 k).jn κ 1000003 [] n (A_ t vars dims)=qW k (aA κ) t vars dims n:=MI (mB k (aA κ) t vars dims (fun v109=>gT k (aA κ) t dims k v109)) rfl (fun _=>rfl) (Eq.trans (b:=mB k (aA κ) t vars dims (fun v109=>(l6 k).lp κ 15 [] k (Ba t dims v109))) (by kernel_rfl) (by simp only [IX]))
end
theorem K5 {S:Type} (o:Obj) (ho:ad o) (k:Nat):Tl o 127 (CK k:Rw S):=ah (l6 k) ⟨qv o ho k,kI o ho k,KB o ho k,KG o ho k,KL o ho k,K0 o ho k,trivial⟩ Tryz.func127 (by kernel_rfl) fun t vars dims κ x h=>Eq.trans (b:=xZ k (aA κ) ((l6 k).jn κ 1000003 [] k (A_ t vars dims)) t vars dims) (by kernel_rfl) (Eq.trans (by simp only [IW];rfl) (ai h))
def lD {S:Type} (hd:cr S):Rw S:=ae MN xn fun t vars dims bound κ=>hd t vars dims bound (aA κ)
def CL {S:Type} (hd:cr S) (k:Nat):Rw S:=ae MO GJ fun a_k v d c0 c1 c2 κ=>aa k (mW hd k a_k v d c0 c1 c2) (eJ c0 c1 c2 κ)
def HB {S:Type} (hd:cr S) (k:Nat):Fx S:=fp 21 [(81,lD hd)] [] k Tryz.f129 3
theorem K6 {S:Type} (o:Obj) (ho:ad o) (hd:cr S) (Hd:Tl o 81 (lD hd)) (k:Nat):Tl o 129 (CL hd k:Rw S):=ah (HB hd k) ⟨Hd,trivial⟩ Tryz.func129 (by kernel_rfl) fun a_k v d c0 c1 c2 κ x h=>Eq.trans (by kernel_rfl) (ai h)
def CM {S:Type} (hd:cr S) (k:Nat):Rw S:=ae MP GJ fun t c0 c1 c2 κ=>aa k (qh hd k t c0 c1 c2) (eJ c0 c1 c2 κ)
def jj {S:Type} (hd:cr S) (k:Nat):Fx S:=fp 60 [(110,lA k),(129,CL hd k)] [(2,bz [1,2,15,16,17] [(2,6),(1000000,1),(1000001,1),(1000002,1)],aH 4 5),(12,bz [1,9,40,41,42] [(1000000,1),(1000001,1),(1000002,1)],aH 7 47),(15,bz [1,9,40,41,42,47,48,49] [(1000000,1),(1000001,1),(1000002,1)],aH 15 13103)] k Tryz.f128 3
def vo (c0 c1:Int) (c2:Bool) (t:Tm) (v17:Int):St UU:=⟨[(1,(.func 129 [] [(pt 1000000),(pt 1000001),(pt 1000002)])),(2,(pt 2)),(15,(sT t.kids)),(16,(.int .i64 (t.kids.length:Int))),(17,(iI v17))],[(2,bT t),(1000000,bI c0),(1000001,bI c1),(1000002,.cells [(.bool c2)])],[],[]⟩
def nC (c0 c1:Int) (c2:Bool) (t:Tm) (v42 more9:Int):St UU:=⟨[(1,(.func 129 [] [(pt 1000000),(pt 1000001),(pt 1000002)])),(9,(iI more9)),(40,(sB t.sys)),(41,(.int .i64 (t.sys.length:Int))),(42,(iI v42))],[(1000000,bI c0),(1000001,bI c1),(1000002,.cells [(.bool c2)])],[],[]⟩
def Bb (c0 c1:Int) (c2:Bool) (t:Tm) (v42:Int) (x4:(Br Tm)) (more9:Int) (v49:Int):St UU:=⟨[(1,(.func 129 [] [(pt 1000000),(pt 1000001),(pt 1000002)])),(9,(iI more9)),(40,(sB t.sys)),(41,(.int .i64 (t.sys.length:Int))),(42,(iI v42)),(47,(sT x4.kids)),(48,(.int .i64 (x4.kids.length:Int))),(49,(iI v49))],[(1000000,bI c0),(1000001,bI c1),(1000002,.cells [(.bool c2)])],[],[]⟩
section
variable {S:Type} (hd:cr S) (k:Nat) (t:Tm) (c0 c1:Int) (c2:Bool) (κ:Out UU→Option S)
theorem I0 (v42 x4 more9 κ1): ∀n v49,(jj hd k).lp κ 15 [κ1] n (Bb c0 c1 c2 t v42 x4 more9 v49)=iO hd k (eJ c0 c1 c2 κ) (fun v42 more9=>κ1 (nC c0 c1 c2 t v42 more9)) c0 c1 c2 t v42 x4 more9 n v49:=cA (pq hd k (eJ c0 c1 c2 κ) c0 c1 c2 t v42 x4 more9 (fun v42 more9=>κ1 (nC c0 c1 c2 t v42 more9))) rfl (fun _=>rfl) fun r v49=>by kernel_rfl
theorem IZ: ∀n v42 more9,(jj hd k).lp κ 12 [] n (nC c0 c1 c2 t v42 more9)=fz hd k (eJ c0 c1 c2 κ) c0 c1 c2 t n v42 more9:=bO (fun own=>mw hd k (eJ c0 c1 c2 κ) c0 c1 c2 t (fun v42 x4 more9 v49=>iO hd k (eJ c0 c1 c2 κ) own c0 c1 c2 t v42 x4 more9 k v49) own) rfl (fun _=>rfl) fun r v42 more9=>Eq.trans (b:=mw hd k (eJ c0 c1 c2 κ) c0 c1 c2 t (fun v42 x4 more9 v49=>(jj hd k).lp κ 15 [r] k (Bb c0 c1 c2 t v42 x4 more9 v49)) (fun v42 more9=>r (nC c0 c1 c2 t v42 more9)) v42 more9) (by kernel_rfl) (by simp only [I0])
theorem IY: ∀n v17,(jj hd k).lp κ 2 [] n (vo c0 c1 c2 t v17)=jV hd k (eJ c0 c1 c2 κ) c0 c1 c2 t n v17:=cA (fun own=>mu hd k (eJ c0 c1 c2 κ) c0 c1 c2 t (fun v42 more9=>fz hd k (eJ c0 c1 c2 κ) c0 c1 c2 t k v42 more9) own) rfl (fun _=>rfl) fun r v17=>Eq.trans (b:=mu hd k (eJ c0 c1 c2 κ) c0 c1 c2 t (fun v42 more9=>(jj hd k).lp κ 12 [] k (nC c0 c1 c2 t v42 more9)) (fun v17=>r (vo c0 c1 c2 t v17)) v17) (by kernel_rfl) (by simp only [IZ])
end
theorem K7 {S:Type} (o:Obj) (ho:ad o) (hd:cr S) (Hd:Tl o 81 (lD hd)) (k:Nat):Tl o 128 (CM hd k:Rw S):=ah (jj hd k) ⟨m9 o ho k,K6 o ho hd Hd k,trivial⟩ Tryz.func128 (by kernel_rfl) fun t c0 c1 c2 κ x h=>Eq.trans (b:=xW hd k (eJ c0 c1 c2 κ) (fun v17=>(jj hd k).lp κ 2 [] k (vo c0 c1 c2 t v17)) t c0 c1 c2) (by kernel_rfl) (Eq.trans (by simp only [IY];rfl) (ai h))
def HA {S:Type} (hd:cr S) (k:Nat):Fx S:=fp 24 [(127,CK k),(128,CM hd k)] [] k Tryz.f81 0
theorem uL {S:Type} (o:Obj) (ho:ad o): ∀k:Nat,Tl o 81 (lD (eo k:cr S))
 |0=>g7 fun t vars dims bound κ x h=>by cases h
 |k+1=>ah (HA (eo k) k) ⟨K5 o ho k,K7 o ho (eo k) (uL o ho k) k,trivial⟩ Tryz.func81 (by kernel_rfl) fun t vars dims bound κ x h=>Eq.trans (by kernel_rfl) h
def lE {S:Type} (k:Nat):Rw S:=ae uZ xn fun t κ=>aa k (ik k t) (bq κ)
def HC {S:Type} (k:Nat):Fx S:=fp 12 [(80,vP k),(81,lD (eo k))] [] k Tryz.f91 0
theorem m_ {S:Type} (o:Obj) (ho:ad o) (k:Nat):Tl o 91 (lE k:Rw S):=ah (HC k) ⟨zj o ho k,uL o ho k,trivial⟩ Tryz.func91 (by kernel_rfl) fun t κ x h=>Eq.trans (by kernel_rfl) (ai h)
def i8 {S:Type} (k:Nat):Rw S:=ae MQ eO fun a_e c0 κ=>aa k (ff k a_e c0) (Qb κ)
def HD {S:Type} (k:Nat):Fx S:=fp 13 [] [] k Tryz.f85 1
theorem jF {S:Type} (o:Obj) (ho:ad o) (k:Nat):Tl o 85 (i8 k:Rw S):=ah (HD k) trivial Tryz.func85 (by kernel_rfl) fun a_e c0 κ x h=>Eq.trans (by kernel_rfl) (ai h)
def v_ {S:Type} (k:Nat):Rw S:=ae MS xn fun l κ=>aa k (kr k l) (rD κ)
def tc {S:Type} (k:Nat):Fx S:=fp 22 [(85,i8 k),(91,lE k)] [(3,bz [3,8,9,10] [(7,1)],aH 5 11)] k Tryz.f48 0
def Bc (l:List Tm) (b7_0 v10:Int):St UU:=⟨[(3,(pt 7)),(8,(sT l)),(9,(.int .i64 (l.length:Int))),(10,(iI v10))],[(7,bI b7_0)],[],[]⟩
section
variable {S:Type} (k:Nat) (l:List Tm) (κ:Out UU→Option S)
theorem I1: ∀n b7_0 v10,(tc k).lp κ 3 [] n (Bc l b7_0 v10)=kN k (rD κ) l n b7_0 v10:=bO (oK k (rD κ) l) rfl (fun _=>rfl) fun r b7_0 v10=>by kernel_rfl
end
theorem zw {S:Type} (o:Obj) (ho:ad o) (k:Nat):Tl o 48 (v_ k:Rw S):=ah (tc k) ⟨jF o ho k,m_ o ho k,trivial⟩ Tryz.func48 (by kernel_rfl) fun l κ x h=>Eq.trans (b:=w8 k (rD κ) (fun b7_0 v10=>(tc k).lp κ 3 [] k (Bc l b7_0 v10)) l) (by kernel_rfl) (Eq.trans (by simp only [I1];rfl) (ai h))
def j8 {S:Type} (k:Nat):Rw S:=ae MT eO fun c0 κ=>aa k (cS k c0) (d6 c0 κ)
def HF {S:Type} (k:Nat):Fx S:=fp 8 [] [] k Tryz.f52 1
theorem kJ {S:Type} (o:Obj) (ho:ad o) (k:Nat):Tl o 52 (j8 k:Rw S):=ah (HF k) trivial Tryz.func52 (by kernel_rfl) fun c0 κ x h=>Eq.trans (by kernel_rfl) (ai h)
def rT {S:Type} (k:Nat):Rw S:=ae Ar xn fun l κ=>aa k (kA k l) (bq κ)
def td {S:Type} (k:Nat):Fx S:=fp 15 [(95,j7 k)] [(2,bz [5,6,7] [],aH 4 5)] k Tryz.f96 0
def Bd (l:List (List Cl)) (v7:Int):St UU:=⟨[(5,(sk l .none)),(6,(.int .i64 (l.length:Int))),(7,(iI v7))],[],[],[]⟩
section
variable {S:Type} (k:Nat) (l:List (List Cl)) (κ:Out UU→Option S)
theorem I2: ∀n v7,(td k).lp κ 2 [] n (Bd l v7)=kZ k (bq κ) l n v7:=cA (o_ k (bq κ) l) rfl (fun _=>rfl) fun r v7=>by kernel_rfl
end
theorem uu {S:Type} (o:Obj) (ho:ad o) (k:Nat):Tl o 96 (rT k:Rw S):=ah (td k) ⟨kI o ho k,trivial⟩ Tryz.func96 (by kernel_rfl) fun l κ x h=>Eq.trans (b:=xF k (bq κ) (fun v7=>(td k).lp κ 2 [] k (Bd l v7)) l) (by kernel_rfl) (Eq.trans (by simp only [I2];rfl) (ai h))
def rU {S:Type} (k:Nat):Rw S:=ae cn xn fun κ=>aa k (jA k) (Qc κ)
def HG {S:Type} (k:Nat):Fx S:=fx 1 (fun _=>[]) (fun _=>false) [] [] k Tryz.f21 false [true] 0
theorem uw {S:Type} (o:Obj) (ho:ad o) (k:Nat):Tl o 21 (rU k:Rw S):=ah (HG k) trivial Tryz.func21 (by kernel_rfl) fun κ x h=>Eq.trans (by kernel_rfl) (ai h)
def wa {S:Type} (k:Nat):Rw S:=ae gP xn fun i κ=>aa k (kE k i) (iZ κ)
def HH {S:Type} (k:Nat):Fx S:=fp 9 [] [] k Tryz.f163 0
theorem zx {S:Type} (o:Obj) (ho:ad o) (k:Nat):Tl o 163 (wa k:Rw S):=ah (HH k) trivial Tryz.func163 (by kernel_rfl) fun i κ x h=>Eq.trans (by kernel_rfl) (ai h)
def CO {S:Type} (k:Nat):Rw S:=ae MU xn fun s a_from a_by κ=>aa k (ig k s a_from a_by) (Qd κ)
def HI {S:Type} (k:Nat):Fx S:=fp 46 [(163,wa k)] [] k Tryz.f147 0
theorem K9 {S:Type} (o:Obj) (ho:ad o) (k:Nat):Tl o 147 (CO k:Rw S):=ah (HI k) ⟨zx o ho k,trivial⟩ Tryz.func147 (by kernel_rfl) fun s a_from a_by κ x h=>Eq.trans (by kernel_rfl) (ai h)
def CQ {S:Type} (k:Nat):Rw S:=ae MV xn fun c a_from a_by κ=>aa k (pJ k c a_from a_by) (Qe κ)
def HJ {S:Type} (k:Nat):Fx S:=fp 42 [(146,vY k),(147,CO k)] [] k Tryz.f99 0
theorem K_ {S:Type} (o:Obj) (ho:ad o) (k:Nat):Tl o 99 (CQ k:Rw S):=ah (HJ k) ⟨zt o ho k,K9 o ho k,trivial⟩ Tryz.func99 (by kernel_rfl) fun c a_from a_by κ x h=>Eq.trans (by kernel_rfl) (ai h)
def CR {S:Type} (k:Nat):Rw S:=ae MW sL fun a_have c c0 c1 κ=>aa k (tY k a_have c c0 c1) (Qf c0 c1 κ)
def HK {S:Type} (k:Nat):Fx S:=fx 22 (fun _=>[]) (fun _=>false) [(99,CQ k)] [] k Tryz.f98 false [true,false] 2
theorem La {S:Type} (o:Obj) (ho:ad o) (k:Nat):Tl o 98 (CR k:Rw S):=ah (HK k) ⟨K_ o ho k,trivial⟩ Tryz.func98 (by kernel_rfl) fun a_have c c0 c1 κ x h=>Eq.trans (by kernel_rfl) (ai h)
end
end Go.Proofs.YtapmagaejigpnaaGreatDoor
namespace Go.Proofs.YtapmagaejigpnaaGreatDoor
open Go PI
set_option linter.unusedVariables false
set_option maxRecDepth 100000
noncomputable section
def CS {S:Type} (k:Nat):Rw S:=ae MX sL fun l a_from c0 c1 κ=>aa k (pY k l a_from c0 c1) (rE c0 c1 κ)
def te {S:Type} (k:Nat):Fx S:=fx 33 (fun|23=>[true,false]|_=>[]) (fun _=>false) [(98,CR k)] [(2,⟨[(1,some (100001,true)),(2,.none),(13,.none),(14,.none),(15,.none)],[(1000000,[.none]),(1000001,[.none])]⟩,aH 4 5)] k Tryz.f97 false [] 2
def Be (c0 c1:Int) (l:List Cl) (v1:List Cl) (v15:Int):St UU:=⟨[(1,(.own 100001 0)),(2,(.func 98 [] [(pt 1000000),(pt 1000001)])),(13,(sC l)),(14,(.int .i64 (l.length:Int))),(15,(iI v15))],[(1000000,bI c0),(1000001,bI c1)],[(100001,⟨0,ET.C,v1⟩)],[(100001,.wr)]⟩
section
variable {S:Type} (k:Nat) (l a_from:List Cl) (c0 c1:Int) (κ:Out UU→Option S)
theorem I3: ∀n v1 v15,(te k).lp κ 2 [] n (Be c0 c1 l v1 v15)=kX k (rE c0 c1 κ) c0 c1 l n v1 v15:=bO (o0 k (rE c0 c1 κ) c0 c1 l) rfl (fun _=>rfl) fun r v1 v15=>by kernel_rfl
end
theorem Lb {S:Type} (o:Obj) (ho:ad o) (k:Nat):Tl o 97 (CS k:Rw S):=ah (te k) ⟨La o ho k,trivial⟩ Tryz.func97 (by kernel_rfl) fun l a_from c0 c1 κ x h=>Eq.trans (b:=xB k (rE c0 c1 κ) (fun v1 v15=>(te k).lp κ 2 [] k (Be c0 c1 l v1 v15)) l a_from c0 c1) (by kernel_rfl) (Eq.trans (by simp only [I3];rfl) (ai h))
def lG {S:Type} (k:Nat):Rw S:=ae MY xn fun f a_from a_by κ=>aa k (ic k f a_from a_by) (aQ κ)
def HL {S:Type} (k:Nat):Fx S:=fx 31 (fun|21=>[false,true,false]|_=>[]) (fun _=>false) [(21,rU k),(96,rT k),(97,CS k),(100,gh k)] [] k Tryz.f57 false [] 0
theorem na {S:Type} (o:Obj) (ho:ad o) (k:Nat):Tl o 57 (lG k:Rw S):=ah (HL k) ⟨uw o ho k,uu o ho k,Lb o ho k,gJ o ho k,trivial⟩ Tryz.func57 (by kernel_rfl) fun f a_from a_by κ x h=>Eq.trans (by kernel_rfl) (ai h)
def wc {S:Type} (k:Nat):Rw S:=ae MZ eO fun f c0 κ=>aa k (jx k f c0) (B4 κ)
def HM {S:Type} (k:Nat):Fx S:=fp 23 [(52,j8 k),(57,lG k),(85,i8 k)] [] k Tryz.f53 1
theorem zy {S:Type} (o:Obj) (ho:ad o) (k:Nat):Tl o 53 (wc k:Rw S):=ah (HM k) ⟨kJ o ho k,na o ho k,jF o ho k,trivial⟩ Tryz.func53 (by kernel_rfl) fun f c0 κ x h=>Eq.trans (by kernel_rfl) (ai h)
def CU {S:Type} (k:Nat):Rw S:=ae Ar xn fun l κ=>aa k (y9 k l) (bq κ)
def tf {S:Type} (k:Nat):Fx S:=fp 15 [(84,nW k)] [(2,bz [5,6,7] [],aH 4 5)] k Tryz.f176 0
def Bf (l:List (List Cl)) (v7:Int):St UU:=⟨[(5,(sk l .none)),(6,(.int .i64 (l.length:Int))),(7,(iI v7))],[],[],[]⟩
section
variable {S:Type} (k:Nat) (l:List (List Cl)) (κ:Out UU→Option S)
theorem I4: ∀n v7,(tf k).lp κ 2 [] n (Bf l v7)=u_ k (bq κ) l n v7:=cA (yB k (bq κ) l) rfl (fun _=>rfl) fun r v7=>by kernel_rfl
end
theorem Ld {S:Type} (o:Obj) (ho:ad o) (k:Nat):Tl o 176 (CU k:Rw S):=ah (tf k) ⟨qv o ho k,trivial⟩ Tryz.func176 (by kernel_rfl) fun l κ x h=>Eq.trans (b:=Fj k (bq κ) (fun v7=>(tf k).lp κ 2 [] k (Bf l v7)) l) (by kernel_rfl) (Eq.trans (by simp only [I4];rfl) (ai h))
def wd {S:Type} (k:Nat):Rw S:=ae jL xn fun f g κ=>aa k (mR k f g) (aQ κ)
def HN {S:Type} (k:Nat):Fx S:=fp 14 [(100,gh k)] [] k Tryz.f162 0
theorem zz {S:Type} (o:Obj) (ho:ad o) (k:Nat):Tl o 162 (wd k:Rw S):=ah (HN k) ⟨gJ o ho k,trivial⟩ Tryz.func162 (by kernel_rfl) fun f g κ x h=>Eq.trans (by kernel_rfl) (ai h)
def CV {S:Type} (k:Nat):Rw S:=ae jL xn fun f g κ=>aa k (y8 k f g) (aQ κ)
def HO {S:Type} (k:Nat):Fx S:=fp 19 [(162,wd k),(176,CU k)] [] k Tryz.f133 0
theorem Le {S:Type} (o:Obj) (ho:ad o) (k:Nat):Tl o 133 (CV k:Rw S):=ah (HO k) ⟨zz o ho k,Ld o ho k,trivial⟩ Tryz.func133 (by kernel_rfl) fun f g κ x h=>Eq.trans (by kernel_rfl) (ai h)
def CW {S:Type} (k:Nat):Rw S:=ae M0 eO fun f g c0 κ=>aa k (tN k f g c0) (B4 κ)
def HP {S:Type} (k:Nat):Fx S:=fp 26 [(52,j8 k),(85,i8 k),(133,CV k)] [] k Tryz.f86 1
theorem Lf {S:Type} (o:Obj) (ho:ad o) (k:Nat):Tl o 86 (CW k:Rw S):=ah (HP k) ⟨kJ o ho k,jF o ho k,Le o ho k,trivial⟩ Tryz.func86 (by kernel_rfl) fun f g c0 κ x h=>Eq.trans (by kernel_rfl) (ai h)
def CX {S:Type} (k:Nat):Rw S:=ae M1 xn fun l_0 l_1 f a_from κ=>aa k (mU k l_0 l_1 f a_from) (Qh κ)
def HQ {S:Type} (k:Nat):Fx S:=fp 31 [(57,lG k)] [] k Tryz.f190 0
theorem Lg {S:Type} (o:Obj) (ho:ad o) (k:Nat):Tl o 190 (CX k:Rw S):=ah (HQ k) ⟨na o ho k,trivial⟩ Tryz.func190 (by kernel_rfl) fun l_0 l_1 f a_from κ x h=>Eq.trans (by kernel_rfl) (ai h)
def rV {S:Type} (hd:ee S):Rw S:=ae M2 xn fun l_0 l_1 t v d κ=>hd l_0 l_1 t v d (dC κ)
def gx {S:Type} (hd:ee S) (k:Nat):Fx S:=fp 128 [(110,lA k),(141,rV hd),(190,CX k)] [(1000006,⟨[(2,.none),(3,.none),(4,.none),(5,.none),(8,.none),(9,.none)],[(4,[.none,.none]),(5,[.none,.none,.none,.none,.none,.none]),(8,[.none,.none,.none,some (200515,true),some (200516,true),some (200517,true)]),(9,[.none,.none,.none,.none,some (200580,true),some (200581,true)])]⟩,aH 3 7),(7,⟨[(2,.none),(3,.none),(4,.none),(5,.none),(8,.none),(9,.none),(55,.none),(56,.none),(57,.none)],[(4,[.none,.none]),(5,[.none,.none,.none,.none,.none,.none]),(8,[.none,.none,.none,some (200515,true),some (200516,true),some (200517,true)]),(9,[.none,.none,.none,.none,some (200580,true),some (200581,true)])]⟩,aH 6 23),(16,⟨[(2,.none),(3,.none),(4,.none),(8,.none),(9,.none),(14,.none),(88,.none),(89,.none),(90,.none)],[(4,[.none,.none]),(8,[.none,.none,.none,some (200515,true),some (200516,true),some (200517,true)]),(9,[.none,.none,.none,.none,some (200580,true),some (200581,true)])]⟩,aH 9 191),(20,⟨[(2,.none),(3,.none),(4,.none),(8,.none),(9,.none),(14,.none),(17,.none),(88,.none),(89,.none),(90,.none),(101,.none),(102,.none),(103,.none)],[(4,[.none,.none]),(8,[.none,.none,.none,some (200515,true),some (200516,true),some (200517,true)]),(9,[.none,.none,.none,.none,some (200580,true),some (200581,true)]),(17,[.none,some (201089,true)])]⟩,aH 19 183487)] k Tryz.f141 0
def Bg (l_0 l_1:Int) (t:Tm) (r2:List Cl) (v d:Int) (b9_1:Int):St UU:=⟨[(2,(iI v)),(3,(iI d)),(4,(pt 4)),(5,(pt 5)),(8,(pt 8)),(9,(pt 9))],[(4,.cells [(iI l_0),(iI l_1)]),(5,bT t),(8,.cells [(iI 0),(iI 0),(.str ByteArray.empty),(.own 200515 0),(.own 200516 0),(.own 200517 0)]),(9,.cells [(iI t.kind),(iI b9_1),(.str t.name),(sC r2),(.own 200580 0),(.own 200581 0)])],[(200581,⟨0,ET.B,([]:List (Br Tm))⟩),(200580,⟨0,ET.T,([]:List Tm)⟩),(200517,⟨0,ET.B,([]:List (Br Tm))⟩),(200516,⟨0,ET.T,([]:List Tm)⟩),(200515,⟨0,ET.C,([]:List Cl)⟩)],[(200581,.wr),(200580,.wr),(200517,.wr),(200516,.wr),(200515,.wr)]⟩
def vq (l_0 l_1:Int) (t:Tm) (b9_1:Int) (r2:List Cl) (v d:Int) (b9_4:List Tm) (v57:Int):St UU:=⟨[(2,(iI v)),(3,(iI d)),(4,(pt 4)),(5,(pt 5)),(8,(pt 8)),(9,(pt 9)),(55,(sT t.kids)),(56,(.int .i64 (t.kids.length:Int))),(57,(iI v57))],[(4,.cells [(iI l_0),(iI l_1)]),(5,bT t),(8,.cells [(iI 0),(iI 0),(.str ByteArray.empty),(.own 200515 0),(.own 200516 0),(.own 200517 0)]),(9,.cells [(iI t.kind),(iI b9_1),(.str t.name),(sC r2),(.own 200580 0),(.own 200581 0)])],[(200581,⟨0,ET.B,([]:List (Br Tm))⟩),(200580,⟨0,ET.T,b9_4⟩),(200517,⟨0,ET.B,([]:List (Br Tm))⟩),(200516,⟨0,ET.T,([]:List Tm)⟩),(200515,⟨0,ET.C,([]:List Cl)⟩)],[(200581,.wr),(200580,.wr),(200517,.wr),(200516,.wr),(200515,.wr)]⟩
def nD (l_0 l_1:Int) (t:Tm) (b9_1:Int) (r2:List Cl) (b9_4:List Tm) (v d:Int) (b9_5:List (Br Tm)) (more14 v90:Int):St UU:=⟨[(2,(iI v)),(3,(iI d)),(4,(pt 4)),(8,(pt 8)),(9,(pt 9)),(14,(iI more14)),(88,(sB t.sys)),(89,(.int .i64 (t.sys.length:Int))),(90,(iI v90))],[(4,.cells [(iI l_0),(iI l_1)]),(8,.cells [(iI 0),(iI 0),(.str ByteArray.empty),(.own 200515 0),(.own 200516 0),(.own 200517 0)]),(9,.cells [(iI t.kind),(iI b9_1),(.str t.name),(sC r2),(.own 200580 0),(.own 200581 0)])],[(200581,⟨0,ET.B,b9_5⟩),(200580,⟨0,ET.T,b9_4⟩),(200517,⟨0,ET.B,([]:List (Br Tm))⟩),(200516,⟨0,ET.T,([]:List Tm)⟩),(200515,⟨0,ET.C,([]:List Cl)⟩)],[(200581,.wr),(200580,.wr),(200517,.wr),(200516,.wr),(200515,.wr)]⟩
def Bh (r12:List Cl) (l_0 l_1:Int) (t:Tm) (b9_1:Int) (r2:List Cl) (b9_4:List Tm) (b9_5:List (Br Tm)) (x10:(Br Tm)) (more14 v d v90:Int) (b17_1:List Tm) (v103:Int):St UU:=⟨[(2,(iI v)),(3,(iI d)),(4,(pt 4)),(8,(pt 8)),(9,(pt 9)),(14,(iI more14)),(17,(pt 17)),(88,(sB t.sys)),(89,(.int .i64 (t.sys.length:Int))),(90,(iI v90)),(101,(sT x10.kids)),(102,(.int .i64 (x10.kids.length:Int))),(103,(iI v103))],[(4,.cells [(iI l_0),(iI l_1)]),(8,.cells [(iI 0),(iI 0),(.str ByteArray.empty),(.own 200515 0),(.own 200516 0),(.own 200517 0)]),(9,.cells [(iI t.kind),(iI b9_1),(.str t.name),(sC r2),(.own 200580 0),(.own 200581 0)]),(17,.cells [(sC r12),(.own 201089 0)])],[(201089,⟨0,ET.T,b17_1⟩),(200581,⟨0,ET.B,b9_5⟩),(200580,⟨0,ET.T,b9_4⟩),(200517,⟨0,ET.B,([]:List (Br Tm))⟩),(200516,⟨0,ET.T,([]:List Tm)⟩),(200515,⟨0,ET.C,([]:List Cl)⟩)],[(201089,.wr),(200581,.wr),(200580,.wr),(200517,.wr),(200516,.wr),(200515,.wr)]⟩
section
variable {S:Type} (hd:ee S) (k:Nat) (l_0 l_1:Int) (t:Tm) (v d:Int) (κ:Out UU→Option S)
theorem I8 (r12 b9_1 r2 b9_4 b9_5 x10 more14 v90 κ2): ∀n b17_1 v103,(gx hd k).lp κ 20 [κ2] n (Bh r12 l_0 l_1 t b9_1 r2 b9_4 b9_5 x10 more14 v d v90 b17_1 v103)=iN hd k (dC κ) (fun b9_5 more14 v90=>κ2 (nD l_0 l_1 t b9_1 r2 b9_4 v d b9_5 more14 v90)) r12 l_0 l_1 t b9_1 r2 b9_4 b9_5 x10 more14 v d v90 n b17_1 v103:=bO (pf hd k (dC κ) r12 l_0 l_1 t b9_1 r2 b9_4 b9_5 x10 more14 v d v90 (fun b9_5 more14 v90=>κ2 (nD l_0 l_1 t b9_1 r2 b9_4 v d b9_5 more14 v90))) rfl (fun _=>rfl) fun r b17_1 v103=>by kernel_rfl
theorem I7 (b9_1 r2 b9_4): ∀n b9_5 more14 v90,(gx hd k).lp κ 16 [] n (nD l_0 l_1 t b9_1 r2 b9_4 v d b9_5 more14 v90)=d3 hd k (dC κ) l_0 l_1 t b9_1 r2 b9_4 v d n b9_5 more14 v90:=lm (fun own=>mm hd k (dC κ) l_0 l_1 t b9_1 r2 b9_4 v d (fun r12 b9_5 x10 more14 v90 b17_1 v103=>iN hd k (dC κ) own r12 l_0 l_1 t b9_1 r2 b9_4 b9_5 x10 more14 v d v90 k b17_1 v103) own) rfl (fun _=>rfl) fun r b9_5 more14 v90=>Eq.trans (b:=mm hd k (dC κ) l_0 l_1 t b9_1 r2 b9_4 v d (fun r12 b9_5 x10 more14 v90 b17_1 v103=>(gx hd k).lp κ 20 [r] k (Bh r12 l_0 l_1 t b9_1 r2 b9_4 b9_5 x10 more14 v d v90 b17_1 v103)) (fun b9_5 more14 v90=>r (nD l_0 l_1 t b9_1 r2 b9_4 v d b9_5 more14 v90)) b9_5 more14 v90) (by kernel_rfl) (by simp only [I8])
theorem I6 (b9_1 r2): ∀n b9_4 v57,(gx hd k).lp κ 7 [] n (vq l_0 l_1 t b9_1 r2 v d b9_4 v57)=gR hd k (dC κ) l_0 l_1 t b9_1 r2 v d n b9_4 v57:=bO (fun own=>ml hd k (dC κ) l_0 l_1 t b9_1 r2 v d (fun b9_4 b9_5 more14 v90=>d3 hd k (dC κ) l_0 l_1 t b9_1 r2 b9_4 v d k b9_5 more14 v90) own) rfl (fun _=>rfl) fun r b9_4 v57=>Eq.trans (b:=ml hd k (dC κ) l_0 l_1 t b9_1 r2 v d (fun b9_4 b9_5 more14 v90=>(gx hd k).lp κ 16 [] k (nD l_0 l_1 t b9_1 r2 b9_4 v d b9_5 more14 v90)) (fun b9_4 v57=>r (vq l_0 l_1 t b9_1 r2 v d b9_4 v57)) b9_4 v57) (by kernel_rfl) (by simp only [I7])
theorem I5 (r2): ∀n b9_1,(gx hd k).jn κ 1000006 [] n (Bg l_0 l_1 t r2 v d b9_1)=nj hd k (dC κ) l_0 l_1 t r2 v d n b9_1:=Am (tw hd k (dC κ) l_0 l_1 t r2 v d (fun b9_1 b9_4 v57=>gR hd k (dC κ) l_0 l_1 t b9_1 r2 v d k b9_4 v57)) rfl (fun _=>rfl) (fun b9_1=>Eq.trans (b:=tw hd k (dC κ) l_0 l_1 t r2 v d (fun b9_1 b9_4 v57=>(gx hd k).lp κ 7 [] k (vq l_0 l_1 t b9_1 r2 v d b9_4 v57)) b9_1) (by kernel_rfl) (by simp only [I6]))
end
theorem uM {S:Type} (o:Obj) (ho:ad o): ∀k:Nat,Tl o 141 (rV (cL k:ee S))
 |0=>g7 fun l_0 l_1 t v d κ x h=>by cases h
 |k+1=>ah (gx (cL k) k) ⟨m9 o ho k,uM o ho k,Lg o ho k,trivial⟩ Tryz.func141 (by kernel_rfl) fun l_0 l_1 t v d κ x h=>Eq.trans (b:=xK (cL k) k (dC κ) (fun r2 b9_1=>(gx (cL k) k).jn κ 1000006 [] k (Bg l_0 l_1 t r2 v d b9_1)) l_0 l_1 t v d) (by kernel_rfl) (Eq.trans (by simp only [I5];rfl) h)
def CY {S:Type} (k:Nat):Rw S:=ae As GK fun c0 c1 c2 κ=>aa k (p_ k c0 c1 c2) (Qi c0 c1 c2 κ)
def HR {S:Type} (k:Nat):Fx S:=fp 10 [(141,rV (cL k))] [] k Tryz.f142 3
theorem Lh {S:Type} (o:Obj) (ho:ad o) (k:Nat):Tl o 142 (CY k:Rw S):=ah (HR k) ⟨uM o ho k,trivial⟩ Tryz.func142 (by kernel_rfl) fun c0 c1 c2 κ x h=>Eq.trans (by kernel_rfl) (ai h)
def CZ {S:Type} (k:Nat):Rw S:=ae M3 GK fun t numbers c0 c1 c2 κ=>aa k (ub k t numbers c0 c1 c2) (rF c0 c1 c2 κ)
def tg {S:Type} (k:Nat):Fx S:=⟨⟨30,(fun _=>[]),(fun _=>false),.none,fun|6=>true|7=>true|_=>false⟩,[(91,lE k),(142,CY k)],[(5,⟨[(2,.none),(6,.none),(7,.none),(17,.none),(18,.none),(19,.none)],[(1000000,[.none]),(1000001,[.none,.none,.none,.none,.none,.none]),(1000002,[.none]),(5000006,[.none,.none,.none,some (320200387,true),some (320200388,true),some (320200389,true)]),(5000007,[.none])]⟩,aH 5 11)],k,Tryz.f139,false,[],3,some (px 16 189 Tryz.f189 k)⟩
def Bj (c0:Int) (c1:Tm) (c2:Int) (numbers:List Int) (v19:Int):St UU:=⟨[(2,(.func 142 [] [(pt 1000000),(pt 1000001),(pt 1000002)])),(6,(pt 5000006)),(7,(pt 5000007)),(17,(kf numbers .none)),(18,(.int .i64 (numbers.length:Int))),(19,(iI v19))],[(1000000,bI c0),(1000001,bT c1),(1000002,bI c2),(5000006,.cells [(iI 0),(iI 0),(.str ByteArray.empty),(.own 320200387 0),(.own 320200388 0),(.own 320200389 0)]),(5000007,bI 0)],[(320200389,⟨0,ET.B,([]:List (Br Tm))⟩),(320200388,⟨0,ET.T,([]:List Tm)⟩),(320200387,⟨0,ET.C,([]:List Cl)⟩)],[(320200389,.wr),(320200388,.wr),(320200387,.wr)]⟩
section
variable {S:Type} (k:Nat) (t:Tm) (numbers:List Int) (c0:Int) (c1:Tm) (c2:Int) (κ:Out UU→Option S)
theorem I9: ∀n v19,(tg k).lp κ 5 [] n (Bj c0 c1 c2 numbers v19)=jQ k (rF c0 c1 c2 κ) c0 c1 c2 numbers n v19:=cA (pd k (rF c0 c1 c2 κ) c0 c1 c2 numbers) rfl (fun _=>rfl) fun r v19=>by kernel_rfl
end
theorem Li {S:Type} (o:Obj) (ho:ad o) (k:Nat):Tl o 139 (CZ k:Rw S):=F9 (tg k) rfl (yN o Tryz.func189 (by kernel_rfl)) ⟨m_ o ho k,Lh o ho k,trivial⟩ Tryz.func139 (by kernel_rfl) fun t numbers c0 c1 c2 κ x h=>Eq.trans (b:=xH k (rF c0 c1 c2 κ) (fun v19=>(tg k).lp κ 5 [] k (Bj c0 c1 c2 numbers v19)) t numbers c0 c1 c2) (by kernel_rfl) (Eq.trans (by simp only [I9];rfl) (ai h))
def C0 {S:Type} (k:Nat):Rw S:=ae qT xn fun t a_from a_by κ=>aa k (p9 k t a_from a_by) (gY κ)
def HS {S:Type} (k:Nat):Fx S:=fp 16 [(139,CZ k)] [] k Tryz.f93 0
theorem Lj {S:Type} (o:Obj) (ho:ad o) (k:Nat):Tl o 93 (C0 k:Rw S):=ah (HS k) ⟨Li o ho k,trivial⟩ Tryz.func93 (by kernel_rfl) fun t a_from a_by κ x h=>Eq.trans (by kernel_rfl) (ai h)
def nX {S:Type} (k:Nat):Rw S:=ae qS xn fun s i κ=>aa k (fU k s i) (iZ κ)
def HT {S:Type} (k:Nat):Fx S:=fp 16 [(130,nU k)] [] k Tryz.f144 0
theorem qw {S:Type} (o:Obj) (ho:ad o) (k:Nat):Tl o 144 (nX k:Rw S):=ah (HT k) ⟨qu o ho k,trivial⟩ Tryz.func144 (by kernel_rfl) fun s i κ x h=>Eq.trans (by kernel_rfl) (ai h)
def C1 {S:Type} (k:Nat):Rw S:=ae u4 xn fun a_x κ=>aa k (y_ k a_x) (bq κ)
def HU {S:Type} (k:Nat):Fx S:=fp 21 [] [] k Tryz.f191 0
theorem Lk {S:Type} (o:Obj) (ho:ad o) (k:Nat):Tl o 191 (C1 k:Rw S):=ah (HU k) trivial Tryz.func191 (by kernel_rfl) fun a_x κ x h=>Eq.trans (by kernel_rfl) (ai h)
def rX {S:Type} (k:Nat):Rw S:=ae u4 xn fun s κ=>aa k (ie k s) (bq κ)
def HV {S:Type} (k:Nat):Fx S:=fp 6 [(191,C1 k)] [] k Tryz.f143 0
theorem ux {S:Type} (o:Obj) (ho:ad o) (k:Nat):Tl o 143 (rX k:Rw S):=ah (HV k) ⟨Lk o ho k,trivial⟩ Tryz.func143 (by kernel_rfl) fun s κ x h=>Eq.trans (by kernel_rfl) (ai h)
def C2 {S:Type} (k:Nat):Rw S:=ae gP xn fun i κ=>aa k (pK k i) (aA κ)
def HW {S:Type} (k:Nat):Fx S:=fp 7 [(143,rX k),(144,nX k)] [] k Tryz.f94 0
theorem Ll {S:Type} (o:Obj) (ho:ad o) (k:Nat):Tl o 94 (C2 k:Rw S):=ah (HW k) ⟨ux o ho k,qw o ho k,trivial⟩ Tryz.func94 (by kernel_rfl) fun i κ x h=>Eq.trans (by kernel_rfl) (ai h)
def C3 {S:Type} (k:Nat):Rw S:=ae Au xn fun t i a_r κ=>aa k (tX k t i a_r) (bq κ)
def HX {S:Type} (k:Nat):Fx S:=fp 21 [(91,lE k),(94,C2 k),(95,j7 k)] [] k Tryz.f56 0
theorem Lm {S:Type} (o:Obj) (ho:ad o) (k:Nat):Tl o 56 (C3 k:Rw S):=ah (HX k) ⟨m_ o ho k,Ll o ho k,kI o ho k,trivial⟩ Tryz.func56 (by kernel_rfl) fun t i a_r κ x h=>Eq.trans (by kernel_rfl) (ai h)
def C4 {S:Type} (k:Nat):Rw S:=ae Av oA fun c0 c1 κ=>aa k (tQ k c0 c1) (Qj c0 c1 κ)
def HY {S:Type} (k:Nat):Fx S:=fp 6 [] [] k Tryz.f101 2
theorem Ln {S:Type} (o:Obj) (ho:ad o) (k:Nat):Tl o 101 (C4 k:Rw S):=ah (HY k) trivial Tryz.func101 (by kernel_rfl) fun c0 c1 κ x h=>Eq.trans (by kernel_rfl) (ai h)
def C5 {S:Type} (k:Nat):Rw S:=ae M5 oA fun c0 c1 κ=>aa k (tR k c0 c1) (Qk c0 c1 κ)
def HZ {S:Type} (k:Nat):Fx S:=fp 6 [] [] k Tryz.f101 2
theorem Lo {S:Type} (o:Obj) (ho:ad o) (k:Nat):Tl o 101 (C5 k:Rw S):=ah (HZ k) trivial Tryz.func101 (by kernel_rfl) fun c0 c1 κ x h=>Eq.trans (by kernel_rfl) (ai h)
def C6 {S:Type} (k:Nat):Rw S:=ae M6 xn fun i a_r κ=>aa k (tP k i a_r) (Ql κ)
def H0 {S:Type} (k:Nat):Fx S:=fp 12 [(101,j5 (nf Av oA) (C4 k) (C5 k))] [] k Tryz.f58 0
theorem Lp {S:Type} (o:Obj) (ho:ad o) (k:Nat):Tl o 58 (C6 k:Rw S):=ah (H0 k) ⟨nP (Ln o ho k) (Lo o ho k),trivial⟩ Tryz.func58 (by kernel_rfl) fun i a_r κ x h=>Eq.trans (by kernel_rfl) (ai h)
def nY {S:Type} (k:Nat):Rw S:=ae qS xn fun s i κ=>aa k (fh k s i) (aA κ)
def H1 {S:Type} (k:Nat):Fx S:=fp 15 [(130,nU k)] [] k Tryz.f103 0
theorem qx {S:Type} (o:Obj) (ho:ad o) (k:Nat):Tl o 103 (nY k:Rw S):=ah (H1 k) ⟨qu o ho k,trivial⟩ Tryz.func103 (by kernel_rfl) fun s i κ x h=>Eq.trans (by kernel_rfl) (ai h)
def we {S:Type} (k:Nat):Rw S:=ae f7 xn fun f κ=>aa k (mL k f) (lx κ)
def H2 {S:Type} (k:Nat):Fx S:=fp 5 [] [] k Tryz.f104 0
theorem zA {S:Type} (o:Obj) (ho:ad o) (k:Nat):Tl o 104 (we k:Rw S):=ah (H2 k) trivial Tryz.func104 (by kernel_rfl) fun f κ x h=>Eq.trans (by kernel_rfl) (ai h)
def C7 {S:Type} (k:Nat):Rw S:=ae gP xn fun i κ=>aa k (pQ k i) (aA κ)
def H3 {S:Type} (k:Nat):Fx S:=fp 7 [(143,rX k),(144,nX k)] [] k Tryz.f158 0
theorem Lq {S:Type} (o:Obj) (ho:ad o) (k:Nat):Tl o 158 (C7 k:Rw S):=ah (H3 k) ⟨ux o ho k,qw o ho k,trivial⟩ Tryz.func158 (by kernel_rfl) fun i κ x h=>Eq.trans (by kernel_rfl) (ai h)
def wh {S:Type} (k:Nat):Rw S:=ae qR xn fun c κ=>aa k (mQ k c) (Qm κ)
def H5 {S:Type} (k:Nat):Fx S:=fp 8 [(132,v6 k)] [] k Tryz.f200 0
theorem zC {S:Type} (o:Obj) (ho:ad o) (k:Nat):Tl o 200 (wh k:Rw S):=ah (H5 k) ⟨zu o ho k,trivial⟩ Tryz.func200 (by kernel_rfl) fun c κ x h=>Eq.trans (by kernel_rfl) (ai h)
def C8 {S:Type} (k:Nat):Rw S:=ae M7 xn fun l κ=>aa k (pS k l) (lx κ)
def th {S:Type} (k:Nat):Fx S:=fp 29 [(200,wh k)] [(3,⟨[(1,.none),(5,some (100005,true)),(10,.none),(11,.none),(12,.none)],[]⟩,aH 5 11)] k Tryz.f199 0
def Bn (l:List Cl) (v12:Int) (out5:List Cl):St UU:=⟨[(1,(.func 200 [] [])),(5,(.own 100005 0)),(10,(sC l)),(11,(.int .i64 (l.length:Int))),(12,(iI v12))],[],[(100005,⟨0,ET.C,out5⟩)],[(100005,.wr)]⟩
section
variable {S:Type} (k:Nat) (l:List Cl) (κ:Out UU→Option S)
theorem Jf: ∀n v12 out5,(th k).lp κ 3 [] n (Bn l v12 out5)=kS k (lx κ) l n v12 out5:=bO (oV k (lx κ) l) rfl (fun _=>rfl) fun r v12 out5=>by kernel_rfl
end
theorem Lr {S:Type} (o:Obj) (ho:ad o) (k:Nat):Tl o 199 (C8 k:Rw S):=ah (th k) ⟨zC o ho k,trivial⟩ Tryz.func199 (by kernel_rfl) fun l κ x h=>Eq.trans (b:=xv k (lx κ) (fun v12 out5=>(th k).lp κ 3 [] k (Bn l v12 out5)) l) (by kernel_rfl) (Eq.trans (by simp only [Jf];rfl) (ai h))
def wi {S:Type} (k:Nat):Rw S:=ae f7 xn fun f κ=>aa k (mP k f) (aQ κ)
def H6 {S:Type} (k:Nat):Fx S:=fp 12 [(95,j7 k),(100,gh k),(199,C8 k)] [] k Tryz.f159 0
theorem zD {S:Type} (o:Obj) (ho:ad o) (k:Nat):Tl o 159 (wi k:Rw S):=ah (H6 k) ⟨kI o ho k,gJ o ho k,Lr o ho k,trivial⟩ Tryz.func159 (by kernel_rfl) fun f κ x h=>Eq.trans (by kernel_rfl) (ai h)
def C9 {S:Type} (k:Nat):Rw S:=ae u5 oz fun b c0 κ=>aa k (pT k b c0) (Qn c0 κ)
def H7 {S:Type} (k:Nat):Fx S:=fp 11 [(193,rP k),(200,wh k)] [] k Tryz.f201 1
theorem Ls {S:Type} (o:Obj) (ho:ad o) (k:Nat):Tl o 201 (C9 k:Rw S):=ah (H7 k) ⟨up o ho k,zC o ho k,trivial⟩ Tryz.func201 (by kernel_rfl) fun b c0 κ x h=>Eq.trans (by kernel_rfl) (ai h)
def C_ {S:Type} (k:Nat):Rw S:=ae M8 oz fun l c0 κ=>aa k (pR k l c0) (rG c0 κ)
def ti {S:Type} (k:Nat):Fx S:=fp 29 [(201,C9 k)] [(3,⟨[(1,.none),(5,some (100005,true)),(10,.none),(11,.none),(12,.none)],[(1000000,[.none,.none])]⟩,aH 5 11)] k Tryz.f199 1
def Bp (c0:Cl) (l:List Cl) (v12:Int) (out5:List Cl):St UU:=⟨[(1,(.func 201 [] [(pt 1000000)])),(5,(.own 100005 0)),(10,(sC l)),(11,(.int .i64 (l.length:Int))),(12,(iI v12))],[(1000000,bC c0)],[(100005,⟨0,ET.C,out5⟩)],[(100005,.wr)]⟩
section
variable {S:Type} (k:Nat) (l:List Cl) (c0:Cl) (κ:Out UU→Option S)
theorem Jg: ∀n v12 out5,(ti k).lp κ 3 [] n (Bp c0 l v12 out5)=kR k (rG c0 κ) c0 l n v12 out5:=bO (oU k (rG c0 κ) c0 l) rfl (fun _=>rfl) fun r v12 out5=>by kernel_rfl
end
theorem Lt {S:Type} (o:Obj) (ho:ad o) (k:Nat):Tl o 199 (C_ k:Rw S):=ah (ti k) ⟨Ls o ho k,trivial⟩ Tryz.func199 (by kernel_rfl) fun l c0 κ x h=>Eq.trans (b:=xu k (rG c0 κ) (fun v12 out5=>(ti k).lp κ 3 [] k (Bp c0 l v12 out5)) l c0) (by kernel_rfl) (Eq.trans (by simp only [Jg];rfl) (ai h))
def Da {S:Type} (k:Nat):Rw S:=ae jL xn fun f g κ=>aa k (kx k f g) (aQ κ)
def tj {S:Type} (k:Nat):Fx S:=fp 25 [(100,gh k),(199,C_ k)] [(3,⟨[(1,.none),(6,some (100006,true)),(9,.none),(10,.none),(11,.none)],[]⟩,aH 5 11)] k Tryz.f160 0
def Bq (g f:List Cl) (v11:Int) (out6:List Cl):St UU:=⟨[(1,(sC g)),(6,(.own 100006 0)),(9,(sC f)),(10,(.int .i64 (f.length:Int))),(11,(iI v11))],[],[(100006,⟨0,ET.C,out6⟩)],[(100006,.wr)]⟩
section
variable {S:Type} (k:Nat) (f g:List Cl) (κ:Out UU→Option S)
theorem Jh: ∀n v11 out6,(tj k).lp κ 3 [] n (Bq g f v11 out6)=kT k (aQ κ) g f n v11 out6:=bO (oW k (aQ κ) g f) rfl (fun _=>rfl) fun r v11 out6=>by kernel_rfl
end
theorem Lu {S:Type} (o:Obj) (ho:ad o) (k:Nat):Tl o 160 (Da k:Rw S):=ah (tj k) ⟨gJ o ho k,Lt o ho k,trivial⟩ Tryz.func160 (by kernel_rfl) fun f g κ x h=>Eq.trans (b:=xw k (aQ κ) (fun v11 out6=>(tj k).lp κ 3 [] k (Bq g f v11 out6)) f g) (by kernel_rfl) (Eq.trans (by simp only [Jh];rfl) (ai h))
def wj {S:Type} (k:Nat):Rw S:=ae cn xn fun κ=>aa k (mS k) (lx κ)
def H8 {S:Type} (k:Nat):Fx S:=fp 3 [] [] k Tryz.f20 0
theorem zE {S:Type} (o:Obj) (ho:ad o) (k:Nat):Tl o 20 (wj k:Rw S):=ah (H8 k) trivial Tryz.func20 (by kernel_rfl) fun κ x h=>Eq.trans (by kernel_rfl) (ai h)
def Db {S:Type} (k:Nat):Rw S:=ae qR xn fun c κ=>aa k (p5 k c) (aQ κ)
def l7 {S:Type} (k:Nat):Fx S:=fp 43 [(100,gh k),(144,nX k),(224,wB)] [(3,⟨[(1,.none),(4,some (100004,true)),(11,.none),(12,.none),(13,.none)],[(1,[.none,.none])]⟩,aH 5 11),(8,⟨[(4,some (100004,true)),(26,.none),(27,.none),(28,.none)],[]⟩,aH 6 23)] k Tryz.f198 0
def vu (c:Cl) (r1:List Int) (v13:Int) (out4:List Cl):St UU:=⟨[(1,(pt 1)),(4,(.own 100004 0)),(11,(kf r1 .none)),(12,(.int .i64 (r1.length:Int))),(13,(iI v13))],[(1,bC c)],[(100004,⟨0,ET.C,out4⟩)],[(100004,.wr)]⟩
def Bt (r5:List Int) (v28:Int) (out4':List Cl):St UU:=⟨[(4,(.own 100004 0)),(26,(kf r5 .none)),(27,(.int .i64 (r5.length:Int))),(28,(iI v28))],[],[(100004,⟨0,ET.C,out4'⟩)],[(100004,.wr)]⟩
section
variable {S:Type} (k:Nat) (c:Cl) (κ:Out UU→Option S)
theorem Jj (r5): ∀n v28 out4',(l7 k).lp κ 8 [] n (Bt r5 v28 out4')=jO k (aQ κ) r5 n v28 out4':=bO (o9 k (aQ κ) r5) rfl (fun _=>rfl) fun r v28 out4'=>by kernel_rfl
theorem Ji (r1): ∀n v13 out4,(l7 k).lp κ 3 [] n (vu c r1 v13 out4)=kY k (aQ κ) c r1 n v13 out4:=bO (fun own=>mh k (aQ κ) c r1 (fun r5 v28 out4'=>jO k (aQ κ) r5 k v28 out4') own) rfl (fun _=>rfl) fun r v13 out4=>Eq.trans (b:=mh k (aQ κ) c r1 (fun r5 v28 out4'=>(l7 k).lp κ 8 [] k (Bt r5 v28 out4')) (fun v13 out4=>r (vu c r1 v13 out4)) v13 out4) (by kernel_rfl) (by simp only [Jj])
end
theorem Lv {S:Type} (o:Obj) (ho:ad o) (k:Nat):Tl o 198 (Db k:Rw S):=ah (l7 k) ⟨gJ o ho k,qw o ho k,SX o ho,trivial⟩ Tryz.func198 (by kernel_rfl) fun c κ x h=>Eq.trans (b:=xE k (aQ κ) (fun r1 v13 out4=>(l7 k).lp κ 3 [] k (vu c r1 v13 out4)) c) (by kernel_rfl) (Eq.trans (by simp only [Ji];rfl) (ai h))
def wk {S:Type} (k:Nat):Rw S:=ae jL xn fun f g κ=>aa k (gF k f g) (aQ κ)
def l8 {S:Type} (k:Nat):Fx S:=fp 35 [(100,gh k),(193,rP k)] [(3,⟨[(1,.none),(6,some (100006,true)),(11,.none),(12,.none),(13,.none)],[]⟩,aH 5 11),(6,⟨[(1,.none),(6,some (100006,true)),(8,.none),(11,.none),(12,.none),(13,.none),(17,.none),(18,.none),(19,.none)],[(8,[.none,.none])]⟩,aH 13 3275)] k Tryz.f155 0
def nG (g f:List Cl) (v13:Int) (out6:List Cl):St UU:=⟨[(1,(sC g)),(6,(.own 100006 0)),(11,(sC f)),(12,(.int .i64 (f.length:Int))),(13,(iI v13))],[],[(100006,⟨0,ET.C,out6⟩)],[(100006,.wr)]⟩
def Bu (x1:Cl) (g f:List Cl) (v13:Int) (v19:Int) (out6':List Cl):St UU:=⟨[(1,(sC g)),(6,(.own 100006 0)),(8,(pt 8)),(11,(sC f)),(12,(.int .i64 (f.length:Int))),(13,(iI v13)),(17,(sC g)),(18,(.int .i64 (g.length:Int))),(19,(iI v19))],[(8,bC x1)],[(100006,⟨0,ET.C,out6'⟩)],[(100006,.wr)]⟩
section
variable {S:Type} (k:Nat) (f g:List Cl) (κ:Out UU→Option S)
theorem Jl (x1 v13 κ0): ∀n v19 out6',(l8 k).lp κ 6 [κ0] n (Bu x1 g f v13 v19 out6')=jN k (aQ κ) (fun v13 out6=>κ0 (nG g f v13 out6)) x1 g f v13 n v19 out6':=bO (o8 k (aQ κ) x1 g f v13 (fun v13 out6=>κ0 (nG g f v13 out6))) rfl (fun _=>rfl) fun r v19 out6'=>by kernel_rfl
theorem Jk: ∀n v13 out6,(l8 k).lp κ 3 [] n (nG g f v13 out6)=iM k (aQ κ) g f n v13 out6:=bO (fun own=>mg k (aQ κ) g f (fun x1 v13 v19 out6'=>jN k (aQ κ) own x1 g f v13 k v19 out6') own) rfl (fun _=>rfl) fun r v13 out6=>Eq.trans (b:=mg k (aQ κ) g f (fun x1 v13 v19 out6'=>(l8 k).lp κ 6 [r] k (Bu x1 g f v13 v19 out6')) (fun v13 out6=>r (nG g f v13 out6)) v13 out6) (by kernel_rfl) (by simp only [Jl])
end
theorem zF {S:Type} (o:Obj) (ho:ad o) (k:Nat):Tl o 155 (wk k:Rw S):=ah (l8 k) ⟨gJ o ho k,up o ho k,trivial⟩ Tryz.func155 (by kernel_rfl) fun f g κ x h=>Eq.trans (b:=xD k (aQ κ) (fun v13 out6=>(l8 k).lp κ 3 [] k (nG g f v13 out6)) f g) (by kernel_rfl) (Eq.trans (by simp only [Jk];rfl) (ai h))
def Dc {S:Type} (k:Nat):Rw S:=ae M9 xn fun a_have c κ=>aa k (pZ k a_have c) (aQ κ)
def H9 {S:Type} (k:Nat):Fx S:=fp 21 [(155,wk k),(198,Db k)] [] k Tryz.f197 0
theorem Lw {S:Type} (o:Obj) (ho:ad o) (k:Nat):Tl o 197 (Dc k:Rw S):=ah (H9 k) ⟨zF o ho k,Lv o ho k,trivial⟩ Tryz.func197 (by kernel_rfl) fun a_have c κ x h=>Eq.trans (by kernel_rfl) (ai h)
def De {S:Type} (k:Nat):Rw S:=ae M_ xn fun l a_from κ=>aa k (t6 k l a_from) (aQ κ)
def tk {S:Type} (k:Nat):Fx S:=fp 33 [(197,Dc k)] [(2,bz [1,2,13,14,15] [],aH 4 5)] k Tryz.f97 0
def Bv (l:List Cl) (v1:List Cl) (v15:Int):St UU:=⟨[(1,(sC v1)),(2,(.func 197 [] [])),(13,(sC l)),(14,(.int .i64 (l.length:Int))),(15,(iI v15))],[],[],[]⟩
section
variable {S:Type} (k:Nat) (l a_from:List Cl) (κ:Out UU→Option S)
theorem Jm: ∀n v1 v15,(tk k).lp κ 2 [] n (Bv l v1 v15)=kW k (aQ κ) l n v1 v15:=bO (oZ k (aQ κ) l) rfl (fun _=>rfl) fun r v1 v15=>by kernel_rfl
end
theorem Ly {S:Type} (o:Obj) (ho:ad o) (k:Nat):Tl o 97 (De k:Rw S):=ah (tk k) ⟨Lw o ho k,trivial⟩ Tryz.func97 (by kernel_rfl) fun l a_from κ x h=>Eq.trans (b:=xA k (aQ κ) (fun v1 v15=>(tk k).lp κ 2 [] k (Bv l v1 v15)) l a_from) (by kernel_rfl) (Eq.trans (by simp only [Jm];rfl) (ai h))
def wl {S:Type} (k:Nat):Rw S:=ae f7 xn fun f κ=>aa k (kz k f) (aQ κ)
def Ia {S:Type} (k:Nat):Fx S:=fp 9 [(20,wj k),(97,De k)] [] k Tryz.f156 0
theorem zG {S:Type} (o:Obj) (ho:ad o) (k:Nat):Tl o 156 (wl k:Rw S):=ah (Ia k) ⟨zE o ho k,Ly o ho k,trivial⟩ Tryz.func156 (by kernel_rfl) fun f κ x h=>Eq.trans (by kernel_rfl) (ai h)
def Df {S:Type} (k:Nat):Rw S:=ae f7 xn fun f κ=>aa k (pV k f) (aQ κ)
def Ib {S:Type} (k:Nat):Fx S:=fp 15 [(96,rT k),(156,wl k)] [] k Tryz.f202 0
theorem Lz {S:Type} (o:Obj) (ho:ad o) (k:Nat):Tl o 202 (Df k:Rw S):=ah (Ib k) ⟨uu o ho k,zG o ho k,trivial⟩ Tryz.func202 (by kernel_rfl) fun f κ x h=>Eq.trans (by kernel_rfl) (ai h)
def Dg {S:Type} (k:Nat):Rw S:=ae f7 xn fun f κ=>aa k (pO k f) (aQ κ)
def Ic {S:Type} (k:Nat):Fx S:=fp 18 [(159,wi k),(202,Df k)] [] k Tryz.f161 0
theorem LA {S:Type} (o:Obj) (ho:ad o) (k:Nat):Tl o 161 (Dg k:Rw S):=ah (Ic k) ⟨zD o ho k,Lz o ho k,trivial⟩ Tryz.func161 (by kernel_rfl) fun f κ x h=>Eq.trans (by kernel_rfl) (ai h)
def Dh {S:Type} (k:Nat):Rw S:=ae Aw xn fun f i a_r κ=>aa k (pP k f i a_r) (aQ κ)
def l9 {S:Type} (k:Nat):Fx S:=fp 92 [(82,rR k),(84,nW k),(95,j7 k),(103,nY k),(158,C7 k),(159,wi k),(160,Da k),(161,Dg k),(162,wd k)] [(5,bz [1,2,8,27,28,29] [],aH 6 23),(1000018,bz [1,2,8,11,13,27,28,29] [],aH 16 63895)] k Tryz.f106 0
def nH (i:Int) (a_r f:List Cl) (v29:Int) (v8:List Cl):St UU:=⟨[(1,(iI i)),(2,(sC a_r)),(8,(sC v8)),(27,(sC f)),(28,(.int .i64 (f.length:Int))),(29,(iI v29))],[],[],[]⟩
def Bw (i:Int) (a_r f:List Cl) (v29:Int) (v8:List Cl) (g11:List Cl) (v13:Int):St UU:=⟨[(1,(iI i)),(2,(sC a_r)),(8,(sC v8)),(11,(sC g11)),(13,(iI v13)),(27,(sC f)),(28,(.int .i64 (f.length:Int))),(29,(iI v29))],[],[],[]⟩
section
variable {S:Type} (k:Nat) (f:List Cl) (i:Int) (a_r:List Cl) (κ:Out UU→Option S)
theorem Jo (v29 v8 κ0): ∀n g11 v13,(l9 k).jn κ 1000018 [κ0] n (Bw i a_r f v29 v8 g11 v13)=kQ k (aQ κ) (fun v29 v8=>κ0 (nH i a_r f v29 v8)) i a_r f v29 v8 n g11 v13:=MJ (oT k (aQ κ) i a_r f v29 v8 (fun v29 v8=>κ0 (nH i a_r f v29 v8))) rfl (fun _=>rfl) (fun g11 v13=>by kernel_rfl)
theorem Jn: ∀n v29 v8,(l9 k).lp κ 5 [] n (nH i a_r f v29 v8)=iL k (aQ κ) i a_r f n v29 v8:=bO (fun own=>mf k (aQ κ) i a_r f (fun v29 v8 g11 v13=>kQ k (aQ κ) own i a_r f v29 v8 k g11 v13) own) rfl (fun _=>rfl) fun r v29 v8=>Eq.trans (b:=mf k (aQ κ) i a_r f (fun v29 v8 g11 v13=>(l9 k).jn κ 1000018 [r] k (Bw i a_r f v29 v8 g11 v13)) (fun v29 v8=>r (nH i a_r f v29 v8)) v29 v8) (by kernel_rfl) (by simp only [Jo])
end
theorem LB {S:Type} (o:Obj) (ho:ad o) (k:Nat):Tl o 106 (Dh k:Rw S):=ah (l9 k) ⟨uq o ho k,qv o ho k,kI o ho k,qx o ho k,Lq o ho k,zD o ho k,Lu o ho k,LA o ho k,zz o ho k,trivial⟩ Tryz.func106 (by kernel_rfl) fun f i a_r κ x h=>Eq.trans (b:=xt k (aQ κ) (fun v29 v8=>(l9 k).lp κ 5 [] k (nH i a_r f v29 v8)) f i a_r) (by kernel_rfl) (Eq.trans (by simp only [Jn];rfl) (ai h))
def wm {S:Type} (k:Nat):Rw S:=ae u6 TL fun f depth c0 c1 κ=>aa k (mM k f depth c0 c1) (Qo c0 c1 κ)
def Id {S:Type} (k:Nat):Fx S:=fp 38 [(38,rS k),(57,lG k),(103,nY k),(104,we k),(106,Dh k)] [] k Tryz.f102 3
theorem zH {S:Type} (o:Obj) (ho:ad o) (k:Nat):Tl o 102 (wm k:Rw S):=ah (Id k) ⟨ur o ho k,na o ho k,qx o ho k,zA o ho k,LB o ho k,trivial⟩ Tryz.func102 (by kernel_rfl) fun f depth c0 c1 κ x h=>Eq.trans (by kernel_rfl) (ai h)
def Di {S:Type} (k:Nat):Rw S:=ae gP xn fun i κ=>aa k (pU k i) (aQ κ)
def Ie {S:Type} (k:Nat):Fx S:=fp 12 [(143,rX k),(144,nX k)] [] k Tryz.f153 0
theorem LC {S:Type} (o:Obj) (ho:ad o) (k:Nat):Tl o 153 (Di k:Rw S):=ah (Ie k) ⟨ux o ho k,qw o ho k,trivial⟩ Tryz.func153 (by kernel_rfl) fun i κ x h=>Eq.trans (by kernel_rfl) (ai h)
def Dj {S:Type} (k:Nat):Rw S:=ae jL xn fun f g κ=>aa k (jB k f g) (aQ κ)
def If {S:Type} (k:Nat):Fx S:=fp 14 [(100,gh k)] [] k Tryz.f157 0
theorem LD {S:Type} (o:Obj) (ho:ad o) (k:Nat):Tl o 157 (Dj k:Rw S):=ah (If k) ⟨gJ o ho k,trivial⟩ Tryz.func157 (by kernel_rfl) fun f g κ x h=>Eq.trans (by kernel_rfl) (ai h)
def Dk {S:Type} (k:Nat):Rw S:=ae Na oA fun a_have c c0 c1 κ=>aa k (pX k a_have c c0 c1) (nS c0 c1 κ)
def Ig {S:Type} (k:Nat):Fx S:=fp 63 [(82,rR k),(103,nY k),(155,wk k),(156,wl k),(157,Dj k)] [] k Tryz.f154 2
theorem LF {S:Type} (o:Obj) (ho:ad o) (k:Nat):Tl o 154 (Dk k:Rw S):=ah (Ig k) ⟨uq o ho k,qx o ho k,zF o ho k,zG o ho k,LD o ho k,trivial⟩ Tryz.func154 (by kernel_rfl) fun a_have c c0 c1 κ x h=>Eq.trans (by kernel_rfl) (ai h)
def Dl {S:Type} (k:Nat):Rw S:=ae Nc oA fun l a_from c0 c1 κ=>aa k (tZ k l a_from c0 c1) (nS c0 c1 κ)
def tl {S:Type} (k:Nat):Fx S:=fp 33 [(154,Dk k)] [(2,bz [1,2,13,14,15] [(1000000,1),(1000001,1)],aH 4 5)] k Tryz.f97 2
def Bx (c0:Int) (c1 l:List Cl) (v1:List Cl) (v15:Int):St UU:=⟨[(1,(sC v1)),(2,(.func 154 [] [(pt 1000000),(pt 1000001)])),(13,(sC l)),(14,(.int .i64 (l.length:Int))),(15,(iI v15))],[(1000000,bI c0),(1000001,.cells [(sC c1)])],[],[]⟩
section
variable {S:Type} (k:Nat) (l a_from:List Cl) (c0:Int) (c1:List Cl) (κ:Out UU→Option S)
theorem Jp: ∀n v1 v15,(tl k).lp κ 2 [] n (Bx c0 c1 l v1 v15)=kV k (nS c0 c1 κ) c0 c1 l n v1 v15:=bO (oY k (nS c0 c1 κ) c0 c1 l) rfl (fun _=>rfl) fun r v1 v15=>by kernel_rfl
end
theorem LG {S:Type} (o:Obj) (ho:ad o) (k:Nat):Tl o 97 (Dl k:Rw S):=ah (tl k) ⟨LF o ho k,trivial⟩ Tryz.func97 (by kernel_rfl) fun l a_from c0 c1 κ x h=>Eq.trans (b:=xz k (nS c0 c1 κ) (fun v1 v15=>(tl k).lp κ 2 [] k (Bx c0 c1 l v1 v15)) l a_from c0 c1) (by kernel_rfl) (Eq.trans (by simp only [Jp];rfl) (ai h))
def Dp {S:Type} (k:Nat):Rw S:=ae Aw xn fun f i a_r κ=>aa k (pW k f i a_r) (aQ κ)
def Ii {S:Type} (k:Nat):Fx S:=fp 32 [(21,rU k),(96,rT k),(97,Dl k),(153,Di k)] [] k Tryz.f105 0
theorem LI {S:Type} (o:Obj) (ho:ad o) (k:Nat):Tl o 105 (Dp k:Rw S):=ah (Ii k) ⟨uw o ho k,uu o ho k,LG o ho k,LC o ho k,trivial⟩ Tryz.func105 (by kernel_rfl) fun f i a_r κ x h=>Eq.trans (by kernel_rfl) (ai h)
end
end Go.Proofs.YtapmagaejigpnaaGreatDoor
