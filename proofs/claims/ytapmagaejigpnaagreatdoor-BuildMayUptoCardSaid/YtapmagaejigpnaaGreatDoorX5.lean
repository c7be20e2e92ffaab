/- Part 5 of a proof: the sources, with their names and remarks, lie in wip/. -/
import Derived.Test.YtapmagaejigpnaaGreatDoorX4
import Derived.Shelf.SlSortCmp.NoneTotal
import Derived.Ground.SlsfProg
import Derived.Test.YtapmagaejigpnaaGreatDoorProg
import Derived.Shelf.Spec.TrailingZeros
import Derived.RangeFuncBound
import Derived.RangeFuncLeaves
import Derived.RangeFuncOwn
import Derived.OwnWalkIn
import Derived.TacticsInMore
import Derived.LoopNIn
import Derived.LoopIn
import Derived.Maps.RangeWalk
import Derived.Maps.AppendAt
import Derived.Test.YtapmagaejigpnaaGreatDoorCards
import Derived.Test.YtapmagaejigpnaaGreatDoorTie
import Derived.WalkKit
import Derived.ReadAgain
import Derived.Deep.DeepHandedRow
import Derived.Lib.LaidTab
namespace Go.Proofs
open Go.Shelf
def Tryz.sortCl_ren:Go.Shelf.Ren:=⟨fun|6=>151|15=>195|14=>194|28=>221|29=>222|20=>213|21=>214|22=>215|23=>216|24=>217|25=>218|26=>219|27=>220|46=>229|47=>230|48=>231|49=>232|50=>233|57=>242|n=>n,fun|22=>22|24=>61|25=>152|3=>3|39=>57|0=>0|53=>55|55=>168|4=>4|46=>184|45=>183|50=>188|5=>5|9=>9|66=>193|70=>197|76=>202|77=>124|n=>n,fun|n=>n⟩
theorem Tryz.sortCl:Go.Proofs.SlLaysF0.n6 Tryz.prog Tryz.sortCl_ren:={
 mixed:=by kernel_rfl
 f6:=⟨Tryz.f151.name,by decide,Tryz.func151.trans (congrArg some (by kernel_rfl))⟩
 f14:=⟨Tryz.f194.name,by decide,Tryz.func194.trans (congrArg some (by kernel_rfl))⟩
 f15:=Tryz.func195.trans (congrArg some (by kernel_rfl))
 f20:=⟨Tryz.f213.name,by decide,Tryz.func213.trans (congrArg some (by kernel_rfl))⟩
 f21:=⟨Tryz.f214.name,by decide,Tryz.func214.trans (congrArg some (by kernel_rfl))⟩
 f22:=⟨Tryz.f215.name,by decide,Tryz.func215.trans (congrArg some (by kernel_rfl))⟩
 f23:=⟨Tryz.f216.name,by decide,Tryz.func216.trans (congrArg some (by kernel_rfl))⟩
 f24:=⟨Tryz.f217.name,by decide,Tryz.func217.trans (congrArg some (by kernel_rfl))⟩
 f25:=⟨Tryz.f218.name,by decide,Tryz.func218.trans (congrArg some (by kernel_rfl))⟩
 f26:=⟨Tryz.f219.name,by decide,Tryz.func219.trans (congrArg some (by kernel_rfl))⟩
 f27:=⟨Tryz.f220.name,by decide,Tryz.func220.trans (congrArg some (by kernel_rfl))⟩
 f28:=Tryz.func221.trans (congrArg some (by kernel_rfl))
 f29:=Tryz.func222.trans (congrArg some (by kernel_rfl))
 f46:=⟨Tryz.f229.name,by decide,Tryz.func229.trans (congrArg some (by kernel_rfl))⟩
 f47:=Tryz.func230.trans (congrArg some (by kernel_rfl))
 f48:=Tryz.func231.trans (congrArg some (by kernel_rfl))
 f49:=⟨Tryz.f232.name,by decide,Tryz.func232.trans (congrArg some (by kernel_rfl))⟩
 f50:=⟨Tryz.f233.name,by decide,Tryz.func233.trans (congrArg some (by kernel_rfl))⟩
 f57:=⟨Tryz.f242.name,by decide,Tryz.func242.trans (congrArg some (by kernel_rfl))⟩
 t0:=Tryz.underlying0
 a0:=Tryz.isAgg0
 z0:=Tryz.sizeOf0
 v0:=Tryz.zeroValue0
 t3:=Tryz.underlying3
 a3:=Tryz.isAgg3
 z3:=Tryz.sizeOf3
 v3:=Tryz.zeroValue3
 t4:=Tryz.underlying4
 a4:=Tryz.isAgg4
 z4:=Tryz.sizeOf4
 v4:=Tryz.zeroValue4
 t5:=Tryz.underlying5
 a5:=Tryz.isAgg5
 z5:=Tryz.sizeOf5
 v5:=Tryz.zeroValue5
 t9:=Tryz.underlying9
 a9:=Tryz.isAgg9
 z9:=Tryz.sizeOf9
 v9:=Tryz.zeroValue9
 t22:=Tryz.underlying22
 a22:=Tryz.isAgg22
 z22:=Tryz.sizeOf22
 v22:=Tryz.zeroValue22
 t25:=Tryz.underlying152
 a25:=Tryz.isAgg152
 z25:=Tryz.sizeOf152
 v25:=Tryz.zeroValue152
 t39:=Tryz.underlying57
 a39:=Tryz.isAgg57
 z39:=Tryz.sizeOf57
 v39:=Tryz.zeroValue57
 t45:=Tryz.underlying183
 a45:=Tryz.isAgg183
 z45:=Tryz.sizeOf183
 v45:=Tryz.zeroValue183
 t46:=Tryz.underlying184
 a46:=Tryz.isAgg184
 z46:=Tryz.sizeOf184
 v46:=Tryz.zeroValue184
 t50:=Tryz.underlying188
 a50:=Tryz.isAgg188
 z50:=Tryz.sizeOf188
 v50:=Tryz.zeroValue188
 t53:=Tryz.underlying55
 a53:=Tryz.isAgg55
 z53:=Tryz.sizeOf55
 v53:=Tryz.zeroValue55
 t55:=Tryz.underlying168
 a55:=Tryz.isAgg168
 z55:=Tryz.sizeOf168
 v55:=Tryz.zeroValue168
 t66:=Tryz.underlying193
 a66:=Tryz.isAgg193
 z66:=Tryz.sizeOf193
 v66:=Tryz.zeroValue193
 t70:=Tryz.underlying197
 a70:=Tryz.isAgg197
 z70:=Tryz.sizeOf197
 v70:=Tryz.zeroValue197
 t76:=Tryz.underlying202
 a76:=Tryz.isAgg202
 z76:=Tryz.sizeOf202
 v76:=Tryz.zeroValue202
 t77:=Tryz.underlying124
 a77:=Tryz.isAgg124
 z77:=Tryz.sizeOf124
 v77:=Tryz.zeroValue124}
end Go.Proofs
namespace Go.Proofs.YtapmagaejigpnaaGreatDoor
open Go PI
set_option linter.unusedVariables false
set_option maxRecDepth 100000
noncomputable section
def NL:Nat:=224
def NM:Nat:=114
noncomputable def ye {S:Type}:List PU→List (Box UU)→(Out UU→Option S)→Option S
 |[.int .u32 y0],[],κ=>pf y0 fun r=>κ (.ret (kV r .none) [])
 |_,_,_=> .none
noncomputable def yf {S:Type}:List PU→List (Box UU)→(Out UU→Option S)→Option S
 |[.sl .C y0 .none],[],κ=>mF y0 fun r=>κ (.ret (ck r .none) [])
 |_,_,_=> .none
end
end Go.Proofs.YtapmagaejigpnaaGreatDoor
namespace Go.Proofs
open Go.Shelf Go.RowKit
set_option maxHeartbeats 1000000 in
theorem Tryz.tz32_core (x k idx:Nat) (w:World) (hx0:((x:Int)==0)=false)
  (key:bits BinOp.and IntKind.u32 (x:Int) (-(x:Int)%4294967296)*125613361%4294967296/134217728=(idx:Int))
  (hi:idx<32) (hk:k<32) (hcell:w.cell? ⟨0,idx,none⟩=some (.int .u8 k)):
  Calls Tryz.prog 244 #[.int .u32 x] w fun e w'=>e= .returned (.int .i64 k)∧w'=w:=by
 go_enter Tryz.func244,Tryz.ntmps244
 go_wp2_with (simp only [key])
 go_ret
 exact ⟨rfl,rfl⟩
theorem Tryz.tz32 (x:Nat) (hx:x<4294967296) (h0:x≠0) (w:World) (hT:TabAt 0 Lib.deBruijn32tab w):
  Calls Tryz.prog 244 #[.int .u32 x] w fun e w'=>e= .returned (.int .i64 (Lib.ctz 32 x))∧w'=w:=by
 obtain ⟨hlow,hk⟩:=Lib.lowest_bit 32 x h0 hx
 obtain ⟨hi,htab⟩:=Lib.deBruijn32_at _ hk
 have hcell:=hT _ hi
 rw [htab] at hcell
 exact Tryz.tz32_core x _ _ w (by simp;omega) (tz32_key x _ hx h0 hlow) hi hk hcell
end Go.Proofs
namespace Go.Proofs.YtapmagaejigpnaaGreatDoor
open Go Go.Shelf Go.RowKit
attribute [local go_sem] Oper.semAt_some
def dM (s:Nat):List Nat:=(List.range 24).filter s.testBit
theorem UA (s:Nat) (h0:s≠0) (h:s<16777216):dM s=Lib.ctz 32 s::dM (s&&&(s-1))∧s&&&(s-1)<s:=by
 obtain ⟨m,hm,hk⟩:=Lib.ctzFrom_spec 32 s (by omega) (by omega)
 have e:Lib.ctz 32 s=Lib.ctzFrom 32 s:=by simp [Lib.ctz,h0]
 rw [e]
 generalize Lib.ctzFrom 32 s=t at hm hk
 have hs:s=2^(t+1)*m+2^t:=by
  rw [hm,Nat.mul_add,Nat.mul_one,Nat.pow_succ,←Nat.mul_assoc]
 have hp:0<2^t:=Nat.two_pow_pos t
 have hp2:2^(t+1)=2^t*2:=Nat.pow_succ 2 t
 have hs1:s-1=2^(t+1)*m+(2^t-1):=by omega
 have b1: ∀j,s.testBit j=if j<t+1 then decide (t=j) else m.testBit (j-(t+1)):=fun j=>by
  rw [hs,Nat.testBit_two_pow_mul_add _ (by omega),Nat.testBit_two_pow]
 have b2: ∀j,(s-1).testBit j=if j<t+1 then decide (j<t) else m.testBit (j-(t+1)):=fun j=>by
  rw [hs1,Nat.testBit_two_pow_mul_add _ (by omega),Nat.testBit_two_pow_sub_one]
 have b3: ∀j,(s&&&(s-1)).testBit j=if j<t+1 then false else m.testBit (j-(t+1)):=fun j=>by
  rw [Nat.testBit_and,b1,b2]
  by_cases hj:j<t+1
  ·rw [if_pos hj,if_pos hj,if_pos hj]
   by_cases ht:t=j
   ·rw [decide_eq_true ht,decide_eq_false (by omega)];rfl
   ·rw [decide_eq_false ht];rfl
  ·rw [if_neg hj,if_neg hj,if_neg hj,Bool.and_self]
 have b4:s&&&(s-1)=2^(t+1)*m:=by
  apply Nat.eq_of_testBit_eq
  intro j
  rw [b3]
  have:2^(t+1)*m=2^(t+1)*m+0:=rfl
  rw [this,Nat.testBit_two_pow_mul_add _ (by omega),Nat.zero_testBit]
 have ht:t<24:=by
  apply Nat.lt_of_not_le
  intro hle
  have:2^24≤2^t:=Nat.pow_le_pow_right (by decide) hle
  have h24:(2:Nat)^24=16777216:=by decide
  omega
 refine ⟨?_,by omega⟩
 unfold dM
 have hr:List.range 24=List.range t++(t::(List.range (23-t)).map (fun j=>t+1+j)):=by
  apply List.ext_getElem
  ·simp;omega
  ·intro i h1 h2
   simp only [List.getElem_range]
   by_cases hi:i<t
   ·rw [List.getElem_append_left (by simpa using hi)];simp
   ·rw [List.getElem_append_right (by simpa using hi)]
    simp only [List.length_range]
    by_cases he:i=t
    ·subst he;simp
    ·obtain ⟨d,rfl⟩: ∃d,i=t+1+d:=⟨i-t-1,by omega⟩
     simp only [show t+1+d-t=d+1 by omega,List.getElem_cons_succ,List.getElem_map,List.getElem_range]
 rw [hr,List.filter_append,List.filter_append]
 have f1:(List.range t).filter s.testBit=[]:=List.filter_eq_nil_iff.2 fun j hj=>by
  have:=List.mem_range.1 hj
  rw [b1,if_pos (by omega),decide_eq_false (by omega)];decide
 have f2:(List.range t).filter (s&&&(s-1)).testBit=[]:=List.filter_eq_nil_iff.2 fun j hj=>by
  have:=List.mem_range.1 hj
  rw [b3,if_pos (by omega)];decide
 rw [f1,f2,List.nil_append,List.nil_append,List.filter_cons_of_pos (by rw [b1,if_pos (by omega)];simp),List.filter_cons_of_neg (by rw [b3,if_pos (by omega)];decide)]
 congr 1
 apply List.filter_congr
 intro j hj
 obtain ⟨d,_,rfl⟩:=List.mem_map.1 hj
 rw [b1,b3,if_neg (by omega),if_neg (by omega)]
theorem Uy:dM 0=[]:=List.filter_eq_nil_iff.2 fun j _=>by rw [Nat.zero_testBit];decide
theorem Uz (s:Nat):(dM s).length≤24:=by
 have:=List.length_filter_le s.testBit (List.range 24)
 simpa [dM] using this
theorem Ol (s:Int) (w:World):Calls Tryz.prog 234 #[.int .u32 s] w fun e w'=>e= .returned (.func (.func 243) #[] #[.pointer (some ⟨w.heap.size,0,none⟩)])∧w'=w.alloc (.cells #[.int .u32 s] 55):=by
 go_enter Tryz.func234,Tryz.ntmps234
 go_wp2
 go_ret
 exact ⟨rfl,rfl⟩
def wT:Code:=(Code.region 3 #[{dst:=some 4,op:=Op.assign (Operand.tmp 7),type:=3,pos:= "mask.go:57",after:= #[],guard:=none}] false)
def wU:Code:=(Code.block 1 (Code.region 4 #[{dst:=some 8,op:=Op.load 142 (Operand.tmp 3),type:=142,pos:= "mask.go:58",after:= #[],guard:=none},{dst:=some 9,op:=Op.move (Operand.tmp 4),type:=3,pos:= "mask.go:58",after:= #[],guard:=none},{dst:=some 10,op:=Op.buildSlice 142 1 #[(0,Operand.tmp 9)],type:=142,pos:= "mask.go:58",after:= #[{on:=1,ground:=Ground.data}],guard:=none},{dst:=some 11,op:=Op.call {callee:=Callee.builtin Builtin.append,args:= #[Operand.tmp 8,Operand.tmp 10],argTypes:= #[142,142]},type:=142,pos:= "mask.go:58",after:= #[{on:=0,ground:=Ground.data},{on:=2,ground:=Ground.data}],guard:=none},{dst:=none,op:=Op.store 142 (Operand.tmp 3) (Operand.tmp 11),type:=0,pos:= "mask.go:58",after:= #[{on:=3,ground:=Ground.data},{on:=3,ground:=Ground.chain},{on:=0,ground:=Ground.phase},{on:=1,ground:=Ground.phase},{on:=2,ground:=Ground.phase},{on:=3,ground:=Ground.phase}],guard:=none}] false))
def fU (fn:FuncId) (s0:Int) (fv:Value) (Bo D:Nat) (st:LoopState) (pend:Option Code):Loop:=
 {state:=st,pending:=pend,fn,tmps:= #[.int .u32 s0,undef,.slice none 0 0,.pointer (some ⟨Bo,0,none⟩),undef,.int .u32 s0,fv,undef,undef,undef,undef,undef,undef],params:= #[7],assign:=wT,body:=wU,defers:=D}
def eb (x:Nat):Value:= .int .i64 (x:Int)
structure LsAt (w0:World) (fn:FuncId) (s0:Int) (fv:Value) (Bo l D:Nat) (ss:List Nat) (W:World):Prop where
 box: ∃v,W.heap[Bo]? =some (.cells #[v] 142 (0,0))∧W.ownsRow w0.heap.size 3 1 v ss.length (ss.map eb)
 L:W.heap[l]? =some (.loop (fU fn s0 fv Bo D .ready none))
 K:W.heap[D]? =some (.deferred (some []))
 below:Below w0.heap.size w0 W
theorem mG (W:World) (l:Nat) (o:Obj):W.grownBy (W.putObj l o) (some l):=
 ⟨rfl,rfl,rfl,by simp,fun k _ hk=>World.putObj_heap_other (fun e=>hk (by rw [e]))⟩
theorem yz (W:World) (b:Nat) (v:Value):W.grownBy (W.setCell ⟨b,0,none⟩ v) (some b):=
 ⟨rfl,rfl,rfl,(KeepsWalks.setCell W _ v).size,fun k _ hk=>Below.heap_setCell _ _ _ k (fun e=>hk (by rw [e]))⟩
theorem jB {W:World} {base:Nat} {e:TypeId} {size:Nat} {v:Value} {k:Nat} {xs:List Value} (h:W.ownsRow base e size v k xs) {j:Nat} {o:Obj} (hj:W.heap[j]? =some o) (hno: ∀cur,o≠ .cells cur e (0,0)):
  v.ownBlock=none∨v.ownBlock≠some j:=by
 rcases h.2 with ⟨rfl,_⟩|⟨g,cap,cur,rfl,_,hgb,_⟩
 ·exact .inl rfl
 ·refine .inr fun e'=> ?_
  have:g=j:=by simpa [Value.ownBlock] using e'
  subst this;rw [hgb] at hj;cases hj;exact hno cur rfl
theorem jX {W:World} {B:Nat} {v:Value} {t:TypeId} (h:W.heap[B]? =some (.cells #[v] t (0,0))):W.cell? ⟨B,0,none⟩=some v∧W.frozen? ⟨B,0,none⟩=false:=by
 constructor<;>simp [World.cell?,World.frozen?,h]
theorem vk {W:World} {B:Nat} {v:Value} {t:TypeId} (v':Value) (h:W.heap[B]? =some (.cells #[v] t (0,0))):(W.setCell ⟨B,0,none⟩ v').heap[B]? =some (.cells #[v'] t (0,0)):=by
 obtain ⟨hlt,hk⟩:=Array.getElem?_eq_some_iff.1 h
 show (W.heap.modify B _)[B]? =_
 rw [Array.getElem?_eq_getElem (by rw [Array.size_modify];exact hlt),Array.getElem_modify_self,hk]
 rfl
theorem Om:(Tryz.prog.info? 3).map (fun i=>(i.zero,i.size,i.bytes))=some (some (.int .i64 0),1,8):=by kernel_rfl
set_option maxRecDepth 100000 in
set_option maxHeartbeats 2000000 in
theorem QM (F:Fence) (m:Nat) (w0:World) (fn:FuncId) (hfn:F.fn fn) (s0:Int) (fv:Value) (Bo Bi l D:Nat) (hBl:Bo≠l) (hDl:D≠l) (hDB:D≠Bo) (hBiBo:Bi≠Bo) (hBil:Bi≠l) (h0B:w0.heap.size≤Bo) (h0l:w0.heap.size≤l)
  (ss:List Nat) (x:Nat) (c:Value) (W:World) (h:LsAt w0 fn s0 fv Bo l D ss W) (hi0:W.heap[Bi]? =some (.cells #[c] 55 (0,0))) (hlen:ss.length<24):
  YieldAt F m Tryz.prog l #[eb x] W fun e W'=>e= .returned (.bool true)∧LsAt w0 fn s0 fv Bo l D (ss++[x]) W'∧W'.heap[Bi]? =some (.cells #[c] 55 (0,0)):=by
 obtain ⟨i0,hi,hz0,hz1,hz2⟩:=info_parts Om
 obtain ⟨v,hv,hrow⟩:=h.box
 refine ⟨fn,#[.int .u32 s0,undef,.slice none 0 0,.pointer (some ⟨Bo,0,none⟩),undef,.int .u32 s0,fv,.int .i64 (x:Int),undef,undef,undef,undef,undef],wT,wU,by simpa [fU,eb] using run_yield (P:=Tryz.prog) (args:= #[eb x]) h.L rfl,roundIn_of_wpIn hfn ?_⟩
 have hl:l<W.heap.size:=(Array.getElem?_eq_some_iff.1 h.L).1
 have hbr:=run_beginRound (P:=Tryz.prog) h.L rfl
 obtain ⟨W2,hW2⟩: ∃W2,W.putObj l (.loop {fU fn s0 fv Bo D .ready none with state:= .busy})=W2:=⟨_,rfl⟩
 rw [hW2] at hbr
 have hg2:W.grownBy W2 (some l):=by rw [←hW2];exact mG _ _ _
 have hv2:W2.heap[Bo]? =some (.cells #[v] 142 (0,0)):=by rw [←hW2];exact (World.putObj_heap_other hBl).trans hv
 have hi2:W2.heap[Bi]? =some (.cells #[c] 55 (0,0)):=by rw [←hW2];exact (World.putObj_heap_other hBil).trans hi0
 have hK2:W2.heap[D]? =some (.deferred (some [])):=by rw [←hW2];exact (World.putObj_heap_other hDl).trans h.K
 have hL2:W2.heap[l]? =some (.loop {fU fn s0 fv Bo D .ready none with state:= .busy}):=by rw [←hW2];exact World.putObj_heap_same hl
 have hrow2:W2.ownsRow w0.heap.size 3 1 v ss.length (ss.map eb):=hrow.kept hg2 (jB hrow h.L (fun cur e=>by cases e))
 have hb2:Below w0.heap.size w0 W2:=h.below.grown hg2 h.below.size (fun k e=>by cases e;exact h0l)
 obtain ⟨hc2,hf2⟩:=jX hv2
 have hBlt:Bo<W2.heap.size:=(Array.getElem?_eq_some_iff.1 hv2).1
 have hBilt:Bi<W2.heap.size:=(Array.getElem?_eq_some_iff.1 hi2).1
 have hl2:l<W2.heap.size:=(Array.getElem?_eq_some_iff.1 hL2).1
 have hDlt:D<W2.heap.size:=(Array.getElem?_eq_some_iff.1 hK2).1
 have ne_of: ∀ {j:Nat} {o:Obj},W2.heap[j]? =some o→(∀cur,o≠ .cells cur 3 (0,0))→some j≠v.ownBlock:=fun hj hno=>by
  rcases jB hrow2 hj hno with e|e
  ·rw [e];simp
  ·exact fun e'=>e e'.symm
 clear hW2
 have hml:24≤maxLen:=by unfold maxLen;omega
 unfold wT
 gi_wp2_with (rw [Oper.semAt_eq _ _ _ (fun c h=>by cases h)];go_simp;try go_bits)
 unfold wU
 gi_wp2_with (first
  |(gi_at_builtin;refine wpListIn_append_own _ rfl _ _ 142 rfl w0.heap.size 3 i0 (.int .i64 0) 1 8 Tryz.underlying142 hi hz0 hz1 hz2 rfl (by decide) _ _ _ rfl (hrow2.alloc _) ⟨W2.heap.size,0,none⟩ 1 1 [eb x] rfl rfl (cell_one_new _ _ _) (by simp [Value.oneCell',eb]) (by omega) (by omega) (by have:=hb2.size;simp;omega) ?_;intro v' w3 hown' hg3 hnil3
    have hv3:w3.heap[Bo]? =some (.cells #[v] 142 (0,0)):=(hg3.block Bo (by simp;omega) (ne_of hv2 (fun cur e=>by cases e))).trans ((Below.heap_alloc _ _ Bo hBlt).trans hv2)
    obtain ⟨hc3,hf3⟩:=jX hv3
    obtain ⟨g',cap',cur',rfl,hbase',hgb',hr1,hr2,hr3,hr4⟩: ∃g' cap' cur',v'= .slice (some ⟨g',0,none⟩) (ss.length+1) cap'∧w0.heap.size≤g'∧w3.heap[g']? =some (.cells cur' 3 (0,0))∧ss.length+1≤cap'∧cap'≤maxLen∧cur'.size=cap'*1∧cur'.toList.take ((ss.length+1)*1)=ss.map eb++[eb x]:=by
     rcases hown'.2 with ⟨_,h0⟩|h'
     ·exact absurd h0 (by omega)
     ·exact h'
    go_frame)
  |(rw [Oper.semAt_eq _ _ _ (fun c h=>by cases h)];go_simp;try go_bits))
 have hg3':(W2.alloc (.cells #[eb x] 3)).grownBy w3 v.ownBlock:=hg3
 have hL3:w3.heap[l]? =some (.loop {fU fn s0 fv Bo D .ready none with state:= .busy}):=(hg3'.block l (by simp;omega) (ne_of hL2 (fun cur e=>by cases e))).trans ((Below.heap_alloc _ _ l hl2).trans hL2)
 have hK3:w3.heap[D]? =some (.deferred (some [])):=(hg3'.block D (by simp;omega) (ne_of hK2 (fun cur e=>by cases e))).trans ((Below.heap_alloc _ _ D hDlt).trans hK2)
 have hi3:w3.heap[Bi]? =some (.cells #[c] 55 (0,0)):=(hg3'.block Bi (by simp;omega) (ne_of hi2 (fun cur e=>by cases e))).trans ((Below.heap_alloc _ _ Bi hBilt).trans hi2)
 obtain ⟨w4,hw4⟩: ∃w4,w3.setCell ⟨Bo,0,none⟩ (.slice (some ⟨g',0,none⟩) (ss.length+1) cap')=w4:=⟨_,rfl⟩
 rw [hw4]
 have hg4:w3.grownBy w4 (some Bo):=by rw [←hw4];exact yz _ _ _
 have hv4:w4.heap[Bo]? =some (.cells #[.slice (some ⟨g',0,none⟩) (ss.length+1) cap'] 142 (0,0)):=by rw [←hw4];exact vk _ hv3
 have hL4:w4.heap[l]? =some (.loop {fU fn s0 fv Bo D .ready none with state:= .busy}):=(hg4.block l (Array.getElem?_eq_some_iff.1 hL3).1 (fun e=>hBl (by cases e;rfl))).trans hL3
 have hK4:w4.heap[D]? =some (.deferred (some [])):=(hg4.block D (Array.getElem?_eq_some_iff.1 hK3).1 (fun e=>hDB (by cases e;rfl))).trans hK3
 have hi4:w4.heap[Bi]? =some (.cells #[c] 55 (0,0)):=(hg4.block Bi (Array.getElem?_eq_some_iff.1 hi3).1 (fun e=>hBiBo (by cases e;rfl))).trans hi3
 have hrow4:=hown'.kept hg4 (jB hown' hv3 (fun cur e=>by cases e))
 have hl4:l<w4.heap.size:=(Array.getElem?_eq_some_iff.1 hL4).1
 have hb3:Below w0.heap.size w0 w3:=(hb2.alloc hb2.size _).grown hg3' (by have:=hb2.size;simp;omega) (fun k e=>(hrow2.lt k e).1)
 have hb4:Below w0.heap.size w0 w4:=hb3.grown hg4 hb3.size (fun k e=>by cases e;exact h0B)
 clear hw4
 refine ⟨_,_,run_endRound none hL4,rfl,⟨⟨_,(World.putObj_heap_other hBl).trans hv4, ?_⟩,World.putObj_heap_same hl4,(World.putObj_heap_other hDl).trans hK4,hb4.grown (mG _ _ _) hb4.size (fun k e=>by cases e;exact h0l)⟩,(World.putObj_heap_other hBil).trans hi4⟩
 have:=hrow4.kept (mG w4 l (.loop {{fU fn s0 fv Bo D .ready none with state:= .busy} with state:=if (none:Option Code).isNone then .ready else .done,pending:=none})) (jB hrow4 hL4 (fun cur e=>by cases e))
 simpa using this
def wL (Bi:Nat) (w:World):Nat:=match w.cell? ⟨Bi,0,none⟩ with
 |some v=>(intOf v).toNat
 |none=>0
theorem BZ {Bi:Nat} {w:World} {n:Nat} {t:TypeId} (h:w.heap[Bi]? =some (.cells #[.int .u32 (n:Int)] t (0,0))):wL Bi w=n:=by
 unfold wL;rw [(jX h).1];simp [intOf]
theorem La {w0 W:World} (hT:TabAt 0 Lib.deBruijn32tab w0) (hb:Below w0.heap.size w0 W):TabAt 0 Lib.deBruijn32tab W:=fun j hj=>by
 have h:=hT j hj
 have h0:0<w0.heap.size:=World.block_lt_of_cell? w0 ⟨0,j,none⟩ h
 exact (hb.cell (p:=⟨0,j,none⟩) h0).trans h
theorem Lj (s:Int):bits .and .u32 s 16777215=(((BitVec.ofInt 32 s).toNat&&&16777215:Nat):Int):=by
 have hx:(BitVec.ofInt 32 s).toNat&&&16777215<2^32:=Nat.and_lt_two_pow _ (by omega)
 show IntKind.u32.wrap ((BitVec.ofInt 32 s&&&BitVec.ofInt 32 16777215).toNat:Int)=_
 rw [BitVec.toNat_and,wrap_u32',show (BitVec.ofInt 32 16777215).toNat=16777215 from by decide]
 omega
def fT (s:Int):Nat:=(BitVec.ofInt 32 s).toNat&&&16777215
theorem Lk (s:Nat) (h0:s≠0) (h:s<4294967296):bits .and .u32 (s:Int) ((s:Int)-1)=((s&&&(s-1):Nat):Int):=by
 have:(s:Int)-1=((s-1:Nat):Int):=by omega
 rw [this];exact bits_and_u32_nat s (s-1) h (by omega)
set_option maxRecDepth 100000 in
set_option maxHeartbeats 2000000 in
theorem QL (F:Fence) (n:Nat) (h243:F.fn 243) (h244:F.fn 244) (hro:F.round=none) (hn:1≤n) (w0:World) (fn:FuncId) (hfn:F.fn fn) (s0:Int) (fv:Value) (Bo Bi l D:Nat) (hBl:Bo≠l) (hDl:D≠l) (hDB:D≠Bo) (hBiBo:Bi≠Bo) (hBil:Bi≠l) (hBiD:Bi≠D)
  (h0B:w0.heap.size≤Bo) (h0l:w0.heap.size≤l) (h0i:w0.heap.size≤Bi) (hT:TabAt 0 Lib.deBruijn32tab w0) (s:Int) (W:World) (h:LsAt w0 fn s0 fv Bo l D [] W) (hi0:W.heap[Bi]? =some (.cells #[.int .u32 s] 55 (0,0)))
  (htz: ∀ (x:Nat),x<4294967296→x≠0→ ∀W',TabAt 0 Lib.deBruijn32tab W'→CallsIn F (n-1) Tryz.prog 244 #[.int .u32 x] W' fun e w'=>e= .returned (.int .i64 (Lib.ctz 32 x))∧w'=W'):
  CallsIn F n Tryz.prog 243 #[.func (.yield l) #[] #[],.pointer (some ⟨Bi,0,none⟩)] W fun e W'=>(∃v,e= .returned v)∧LsAt w0 fn s0 fv Bo l D (dM (fT s)) W':=by
 obtain ⟨hc0,hf0⟩:=jX hi0
 have ha:bits .and .u32 s 16777215=((fT s:Nat):Int):=Lj s
 have hsl:fT s<16777216:=Nat.lt_of_le_of_lt Nat.and_le_right (by decide)
 generalize fT s=q at ha hsl ⊢
 refine callsIn_of_wp Tryz.func243 rfl h243 ?_ hro
 simp only [Tryz.ntmps243,List.size_toArray,List.length_cons,List.length_nil,Nat.reduceAdd,Nat.reduceSub,Array.replicate_succ,Array.replicate_zero,List.push_toArray,List.append_toArray,List.nil_append,List.cons_append]
 gi_wp2
 have hi1:=vk (.int .u32 (q:Int)) hi0
 have hA1:LsAt w0 fn s0 fv Bo l D [] (W.setCell ⟨Bi,0,none⟩ (.int .u32 (q:Int))):=by
  obtain ⟨v,hv,hrow⟩:=h.box
  exact ⟨⟨v,(Below.heap_setCell _ _ _ Bo (fun e=>hBiBo e.symm)).trans hv,hrow.kept (yz _ _ _) (jB hrow hi0 (fun cur e=>by cases e))⟩,(Below.heap_setCell _ _ _ l (fun e=>hBil e.symm)).trans h.L,(Below.heap_setCell _ _ _ D (fun e=>hBiD e.symm)).trans h.K,h.below.setCell h0i _⟩
 gi_loopw [] (fun wr=> ∃ (pre:List Nat) (c:Nat),c<16777216∧pre++dM c=dM q∧LsAt w0 fn s0 fv Bo l D pre wr∧wr.heap[Bi]? =some (.cells #[.int .u32 (c:Int)] 55 (0,0)))
  (fun wr=>wL Bi wr)
 case atStart=>exact ⟨[],q,hsl,rfl,hA1,hi1⟩
 case round=>
  obtain ⟨pre,c,hc,hp,hA,hb⟩:=hrel
  clear hc0 hf0 ha hi1 hA1
  obtain ⟨hc1,hf1⟩:=jX hb
  by_cases hz:c=0
  ·subst hz
   rw [Uy,List.append_nil] at hp
   gi_wp2
   go_end0
   exact ⟨⟨_,rfl⟩,hp▸hA⟩
  ·have hne:((c:Int)==0)=false:=by simp;omega
   have hne': ¬ ((c:Int)=0):=by omega
   have hstep:=UA c hz hc
   have hpl:pre.length<24:=by
    have h1:=Uz q
    have h2:=congrArg List.length hp
    rw [hstep.1,List.length_append,List.length_cons] at h2
    omega
   obtain ⟨fn',tmps,assign,body,hy,hR⟩:=QM F (n-1) w0 fn hfn s0 fv Bo Bi l D hBl hDl hDB hBiBo hBil h0B h0l pre (Lib.ctz 32 c) (.int .u32 (c:Int)) wr hA hb hpl
   have hT1:=La hT hA.below
   have hap:=Lk c hz (by omega)
   unfold eb at hy
   have hyH:Hid (Lib.ctz 32 c=Lib.ctz 32 c):=rfl
   gi_wp2_with (gi_at_call 244;refine (htz c (by omega) hz _ hT1).mono ?_;rintro e w' ⟨rfl,rfl⟩)
   refine hR.mono ?_
   rintro e W3 ⟨rfl,hA3,hb3⟩
   obtain ⟨hc3,hf3⟩:=jX hb3
   clear hc1 hf1 hA hy hR hT1
   gi_wp2
   have hb4:=vk (.int .u32 ((c&&&(c-1):Nat):Int)) hb3
   have hlt:=hstep.2
   go_roundw
   case rel=>
    refine ⟨pre++[Lib.ctz 32 c],c&&&(c-1),by omega, ?_, ?_,hb4⟩
    ·rw [←hp,hstep.1,List.append_assoc];rfl
    ·obtain ⟨v,hv,hrow⟩:=hA3.box
     exact ⟨⟨v,(Below.heap_setCell _ _ _ Bo (fun e=>hBiBo e.symm)).trans hv,hrow.kept (yz _ _ _) (jB hrow hb3 (fun cur e=>by cases e))⟩,(Below.heap_setCell _ _ _ l (fun e=>hBil e.symm)).trans hA3.L,(Below.heap_setCell _ _ _ D (fun e=>hBiD e.symm)).trans hA3.K,hA3.below.setCell h0i _⟩
   case measure=>rw [BZ hb4,BZ hb];exact hlt
set_option maxRecDepth 100000 in
set_option maxHeartbeats 2000000 in
theorem Qu (F:Fence) (n:Nat) (h224:F.fn 224) (h234:F.fn 234) (h243:F.fn 243) (h244:F.fn 244) (hro:F.round=none) (hn:3≤n) (s:Int) (w:World) (hT:TabAt 0 Lib.deBruijn32tab w)
  (hin: ∀W,CallsIn F (n-1) Tryz.prog 234 #[.int .u32 s] W fun e w'=>e= .returned (.func (.func 243) #[] #[.pointer (some ⟨W.heap.size,0,none⟩)])∧w'=W.alloc (.cells #[.int .u32 s] 55))
  (htz: ∀ (x:Nat),x<4294967296→x≠0→ ∀W',TabAt 0 Lib.deBruijn32tab W'→CallsIn F (n-1-1) Tryz.prog 244 #[.int .u32 x] W' fun e w'=>e= .returned (.int .i64 (Lib.ctz 32 x))∧w'=W'):
  CallsIn F n Tryz.prog 224 #[.int .u32 s] w fun e w'=> ∃v:Value,e= .returned v∧w'.ownsRow w.heap.size 3 1 v (dM (fT s)).length ((dM (fT s)).map eb)∧Below w.heap.size w w':=by
 have h1:1≤n:=by omega
 have eg: ∀args w,(callFunc 243 args).run Tryz.prog w= .ok (.enter 243 args) w:=enters_of Tryz.func243 (by kernel_rfl) rfl
 refine callsIn_of_wp_marks Tryz.func224 rfl h224 ?_ hro
 simp only [Tryz.ntmps224,List.size_toArray,List.length_cons,List.length_nil,Nat.reduceAdd,Nat.reduceSub,Array.replicate_succ,Array.replicate_zero,List.push_toArray,List.append_toArray,List.nil_append,List.cons_append]
 gi_wp2_with (gi_at_call 234;refine (hin _).mono ?_;rintro e w' ⟨rfl,rfl⟩)
 refine wpIn_rangeFunc ?_
 intro fn hfn
 rw [hro]
 obtain ⟨fv,hfv⟩: ∃fv:Value,fv= .func (.func 243) #[] #[.pointer (some ⟨w.heap.size+1,0,none⟩)]:=⟨_,rfl⟩
 obtain ⟨W0,hW0⟩: ∃W0,(w.alloc (.cells #[.slice none 0 0] 142)).alloc (.cells #[.int .u32 s] 55)=W0:=⟨_,rfl⟩
 have hs0:W0.heap.size=w.heap.size+2:=by rw [←hW0];simp
 have hv0:W0.heap[w.heap.size]? =some (.cells #[.slice none 0 0] 142 (0,0)):=by rw [←hW0];exact (Below.heap_alloc _ _ _ (by simp)).trans (World.alloc_heap_new w _)
 have hi0:W0.heap[w.heap.size+1]? =some (.cells #[.int .u32 s] 55 (0,0)):=by
  rw [←hW0];have:=World.alloc_heap_new (w.alloc (.cells #[.slice none 0 0] 142)) (.cells #[.int .u32 s] 55);rwa [World.size_alloc] at this
 have hb0:Below w.heap.size w W0:=by rw [←hW0];exact ((Below.refl _ w).alloc (Nat.le_refl _) _).alloc (by simp) _
 rw [hW0]
 obtain ⟨W1,hW1⟩: ∃W1,(W0.alloc (.deferred (some []))).alloc (.loop (fU fn s fv w.heap.size W0.heap.size .ready none))=W1:=⟨_,rfl⟩
 have hold: ∀k,k<W0.heap.size→W1.heap[k]? =W0.heap[k]? :=fun k hk=>by
  rw [←hW1];exact (Below.heap_alloc _ _ k (by simp;omega)).trans (Below.heap_alloc _ _ k hk)
 have hb1:Below w.heap.size w W1:=by rw [←hW1];exact (hb0.alloc hb0.size _).alloc (by have:=hb0.size;simp;omega) _
 have hM:LsAt w fn s fv w.heap.size (W0.heap.size+1) W0.heap.size [] W1:=
  ⟨⟨_,(hold w.heap.size (by omega)).trans hv0,⟨rfl,.inl ⟨rfl,rfl⟩⟩⟩,
   by rw [←hW1];have:=World.alloc_heap_new (W0.alloc (.deferred (some []))) (.loop (fU fn s fv w.heap.size W0.heap.size .ready none));rwa [World.size_alloc] at this,
   by rw [←hW1];exact (Below.heap_alloc _ _ _ (by simp)).trans (World.alloc_heap_new W0 _),hb1⟩
 refine ⟨W0.heap.size+1,[{target:= .collected W0.heap.size,args:= #[]}],W1,{target:= .fn (.func 243) #[.pointer (some ⟨w.heap.size+1,0,none⟩)],args:= #[.func (.yield (W0.heap.size+1)) #[] #[]]},W1,243,
  #[.func (.yield (W0.heap.size + 1)) #[] #[]] ++ #[.pointer (some ⟨w.heap.size + 1, 0, none⟩)], W1, ?_, ?_, ?_, ?_, fun _ => h1, ?_⟩
 ·rw [←hW1,hfv];exact run_enterLoop_outer _ _ _ _ _
 ·simp [resolve,go_sem]
 ·intro f' hf';simp [Target.leads] at hf';subst hf';exact h243
 ·simp [invoke,go_sem,eg]
 ·refine (QL F (n-1) h243 h244 hro (by omega) w fn hfn s fv w.heap.size (w.heap.size+1) (W0.heap.size+1) W0.heap.size (by omega) (by omega) (by omega) (by omega) (by omega) (by omega) (Nat.le_refl _) (by omega) (by omega) hT s W1 hM ((hold _ (by omega)).trans hi0) htz).mono ?_
  rintro e W2 ⟨⟨v0,rfl⟩,h2⟩
  obtain ⟨v,hv,hrow⟩:=h2.box
  have hend:=run_endLoop (P:=Tryz.prog) h2.L (by simp [fU])
  obtain ⟨W3,hW3⟩: ∃W3,W2.putObj (W0.heap.size+1) (.loop {fU fn s fv w.heap.size W0.heap.size .ready none with state:= .exhausted})=W3:=⟨_,rfl⟩
  rw [hW3] at hend
  have hg3:W2.grownBy W3 (some (W0.heap.size+1)):=by rw [←hW3];exact mG _ _ _
  have hv3:W3.heap[w.heap.size]? =some (.cells #[v] 142 (0,0)):=by rw [←hW3];exact (World.putObj_heap_other (by omega)).trans hv
  have hK3:W3.heap[W0.heap.size]? =some (.deferred (some [])):=by rw [←hW3];exact (World.putObj_heap_other (by omega)).trans h2.K
  have hrow3:=hrow.kept hg3 (jB hrow h2.L (fun cur e=>by cases e))
  have hb3:Below w.heap.size w W3:=h2.below.grown hg3 h2.below.size (fun k e=>by cases e;omega)
  obtain ⟨hc3,hf3⟩:=jX hv3
  clear hW3
  refine ⟨none,W3,hend, ?_⟩
  clear hfv
  gi_wp2
  rw [show (w.heap.size+1+1)=W0.heap.size by omega]
  refine ⟨by simp,.inl ⟨_,_,rfl,run_takeDeferred hK3, ?_⟩⟩
  exact ⟨_,results_tmp rfl _ _ _,v,rfl,hrow3.kept (mG _ _ _) (jB hrow3 hK3 (fun cur e=>by cases e)),hb3.grown (mG _ _ _) hb3.size (fun k e=>by cases e;omega)⟩
end Go.Proofs.YtapmagaejigpnaaGreatDoor
namespace Go.Proofs.YtapmagaejigpnaaGreatDoor
open Go PI Go.Shelf Go.RowKit
set_option linter.unusedVariables false
set_option linter.unusedSimpArgs false
set_option maxRecDepth 100000
def ae (o:Obj):Prop:= ∃ (cur:Array Value) (e:TypeId) (fr:Nat×Nat),o= .cells cur e fr∧ ∀j,j<Lib.deBruijn32tab.length→cur[j]? =some (.int .u8 (Lib.deBruijn32tab.getD j 0))
theorem Ul {o:Obj} (ho:ae o) {w:World} (h:w.heap[0]? =some o):TabAt 0 Lib.deBruijn32tab w:=fun j hj=>by
 obtain ⟨cur,e,fr,rfl,hc⟩:=ho
 have:=hc j hj
 simp [World.cell?,h,this]
theorem Qt (s:Int) (w:World) (hT:TabAt 0 Lib.deBruijn32tab w):Calls Tryz.prog 224 #[.int .u32 s] w fun e w'=> ∃v:Value,e= .returned v∧w'.ownsRow w.heap.size 3 1 v (dM (fT s)).length ((dM (fT s)).map eb)∧Below w.heap.size w w':=
 callsIn_wide.1 (Qu Fence.wide 5 trivial trivial trivial trivial rfl (by omega) s w hT (fun W=>callsIn_wide.2 (Ol s W)) fun x hx h0 W' hT'=>callsIn_wide.2 (Tryz.tz32 x hx h0 W' hT'))
theorem QP (s:Int):mz s=(dM (fT s)).map fun n:Nat=>(n:Int):=by
 unfold mz dM fT
 have:(List.range 24).filter ((BitVec.ofInt 32 s).toNat&&&16777215).testBit=(List.range 24).filter fun i=>(BitVec.ofInt 32 s).getLsbD i:=List.filter_congr fun i hi=>by
  have hi:i<24:=List.mem_range.1 hi
  have h24:(16777215:Nat)=2^24-1:=by decide
  rw [Nat.testBit_and,h24,Nat.testBit_two_pow_sub_one,decide_eq_true hi,Bool.and_true];rfl
 rw [this];rfl
theorem Lr {X:Link VV Tryz.prog} {w w':World} {vs:Array Value} {N0:aw} {ν:Nat→Nat} {δ:Nat→Option Nat} {args:List PU} (hg:Given X w vs N0 ν δ args []) (hb:Below w.heap.size w w'):
  Back X w w' N0 ν δ 0 args.length ν (fun _=>none) [] where
 ext:=⟨hb.os,hb.tape,hb.output,hb.size,fun b hlt _=>hb.block b hlt⟩
 le:=Nat.le_refl _
 old:=fun i h=>absurd h (Nat.not_lt_zero i)
 new:=fun i _ h=>absurd h (Nat.not_lt_zero i)
 dnew:=fun j b h=>by cases h
 bnd:={
  inj:=fun i j h=>absurd h (Nat.not_lt_zero i)
  lt:=fun i h=>absurd h (Nat.not_lt_zero i)
  dlt:=fun j b h=>by cases h
  dinj:=fun i j b h=>by cases h
  dν:=fun j b h=>by cases h
  n0:=fun b o h=>⟨Nat.lt_of_lt_of_le (hg.bnd.n0 b o h).1 hb.size,fun i h=>absurd h (Nat.not_lt_zero i),fun j h=>by cases h⟩}
 boxes:=fun k b h=>by simp at h
theorem Uu {S:Type} (o:Obj) (ho:ae o) (vs:List PU) (bs:List (Box UU)) (κ:Out UU→Option S) (x:S) (h:ye vs bs κ=some x): ∃out,bS (LL o) NL vs bs out∧κ out=some x:=by
 unfold ye at h
 split at h
 case h_2=>cases h
 rename_i κ y
 refine ⟨_, ?_,h⟩
 refine ⟨⟨Tryz.f224,Tryz.func224,by kernel_rfl,rfl⟩,fun w vs N0 ν δ hg=> ?_⟩
 have hs:vs.size=1:=hg.size
 have h0:=hg.args 0 _ rfl
 obtain ⟨v0,hv0⟩: ∃v0,vs= #[v0]:=by
  obtain ⟨l⟩:=vs
  match l,hs with
  |[v],_=>exact ⟨v,rfl⟩
 subst hv0
 have h0:Rep (LL o) w _ _ v0 (.int .u32 y):=h0
 cases h0
 have hT:=Ul ho (hg.glob 0 o (by simp [LL])).1
 refine (Qt y w hT).mono ?_
 rintro e w' ⟨v,rfl,hrow,hb⟩
 refine ⟨ν,fun _=>none,Lr hg hb, ?_⟩
 show Rep (LL o) w' _ _ v (.sl ET.I (mz y) .none)
 rw [QP]
 generalize dM (fT y)=ts at hrow
 obtain ⟨hl,hr⟩:=hrow
 rcases hr with ⟨rfl,hn⟩|⟨g,cap,cur,rfl,hg0,hgb,hc,hc',hsz,htk⟩
 ·have:ts=[]:=List.length_eq_zero_iff.1 hn
  subst this
  exact .sl none 0 0 _ _ _ (fun _ _=>undef) rfl (Nat.le_refl _) trivial (fun j x hx=>by cases hx) (fun j x hx=>by cases hx)
 ·have hcell: ∀j x,(ts.map fun n:Nat=>(n:Int))[j]? =some x→cur.getD j undef= .int .i64 x∧w'.cell? ⟨g,j,none⟩=some (.int .i64 x):=by
   intro j x hx
   rw [List.getElem?_map] at hx
   cases ht:ts[j]? with
   |none=>rw [ht] at hx;cases hx
   |some n=>
    rw [ht] at hx
    injection hx with hx
    have hj:j<ts.length:=(List.getElem?_eq_some_iff.1 ht).1
    have h1:(cur.toList.take (ts.length*1))[j]? =some (eb n):=by rw [htk,List.getElem?_map,ht];rfl
    rw [List.getElem?_take_of_lt (by omega)] at h1
    have h2:cur[j]? =some (.int .i64 x):=by rw [←Array.getElem?_toList,h1,←hx];rfl
    refine ⟨?_,by simp [World.cell?,hgb,h2]⟩
    rw [Array.getD_eq_getD_getElem?,h2];rfl
  refine Rep.sl (X:=LL o) (some ⟨g,0,none⟩) ts.length cap ET.I (show List Int from ts.map fun n:Nat=>(n:Int)) .none (fun j k=>cur.getD (j+k) undef) (List.length_map _) hc trivial (fun j x hx k p hp=> ?_) (fun j x hx k p hp=> ?_)
  ·match k,hp with
   |0,hp=>
    obtain ⟨h1,h2⟩:=hcell j x hx
    refine ⟨_,rfl, ?_, ?_⟩
    ·have:(⟨g,0,none⟩:Addr).add (j*(LL o).esize ET.I+0)=⟨g,j,none⟩:=by
      rw [Addr.add_lit'];show (⟨g,0+(j*1+0),none⟩:Addr)=_;congr 1;omega
     rw [this,h2];rw [Nat.add_zero,h1]
    ·rintro (hN|⟨i,hi,_⟩|⟨i,hi⟩)
     ·have:=(hg.bnd.n0 _ _ hN).1
      simp at this;omega
     ·exact absurd hi (Nat.not_lt_zero i)
     ·cases hi
   |k+1,hp=>simp [VV,cQ] at hp
  ·match k,hp with
   |0,hp=>
    obtain ⟨h1,h2⟩:=hcell j x hx
    rw [Nat.add_zero,h1]
    have:p= .int .i64 x:=by simpa [VV,cQ] using hp.symm
    subst this
    exact .int _ _
   |k+1,hp=>simp [VV,cQ] at hp
end Go.Proofs.YtapmagaejigpnaaGreatDoor
namespace Go.Proofs.YtapmagaejigpnaaGreatDoor
open Go PI Go.Shelf Go.RowKit Go.Sort
set_option linter.unusedVariables false
set_option linter.unusedSimpArgs false
set_option maxRecDepth 100000
def jZ (a b:Int):Int:=if a<b then-1 else if b<a then 1 else 0
def gj (x y:Cl):Int:=if x.pos=y.pos then jZ x.neg y.neg else jZ x.pos y.pos
def dE (x:Cl):List Value:=[.int .u32 x.pos,.int .u32 x.neg]
theorem wx (a:Int) (W:World):Calls Tryz.prog 223 #[.int .u32 a] W fun e w'=>e= .returned (.bool false)∧w'=W:=by
 go_enter Tryz.func223,Tryz.ntmps223
 go_wp2
 go_ret
 exact ⟨by simp,rfl⟩
set_option maxHeartbeats 1000000 in
theorem Ao (a b:Int) (W:World):Calls Tryz.prog 196 #[.int .u32 a,.int .u32 b] W fun e w'=>e= .returned (.int .i64 (jZ a b))∧w'=W:=by
 unfold jZ
 by_cases h1:a<b
 ·rw [if_pos h1]
  go_enter Tryz.func196,Tryz.ntmps196
  go_wp2_with (go_at_call 223;refine (wx _ _).mono ?_;rintro e w' ⟨rfl,rfl⟩)
  go_ret
  exact ⟨rfl,rfl⟩
 ·rw [if_neg h1]
  by_cases h2:b<a
  ·rw [if_pos h2]
   go_enter Tryz.func196,Tryz.ntmps196
   go_wp2_with (go_at_call 223;refine (wx _ _).mono ?_;rintro e w' ⟨rfl,rfl⟩)
   go_ret
   exact ⟨rfl,rfl⟩
  ·rw [if_neg h2]
   go_enter Tryz.func196,Tryz.ntmps196
   go_wp2_with (go_at_call 223;refine (wx _ _).mono ?_;rintro e w' ⟨rfl,rfl⟩)
   go_ret
   exact ⟨rfl,rfl⟩
set_option maxHeartbeats 1000000 in
theorem LV (x y:Cl) (W:World):Calls Tryz.prog 152 #[.agg (dE x).toArray,.agg (dE y).toArray] W fun e w'=>e= .returned (.int .i64 (gj x y))∧ ∃q os',w'=grow (W.drewN q) os':=by
 obtain ⟨a,b⟩:=x
 obtain ⟨a',b'⟩:=y
 have h1:=Ao a a'
 have h2:=Ao b b'
 unfold gj
 simp only [dE]
 generalize jZ a a'=r1 at h1 ⊢
 generalize jZ b b'=r2 at h2 ⊢
 by_cases h:a=a'
 ·rw [if_pos h]
  go_enter Tryz.func152,Tryz.ntmps152
  go_wp2_with (go_at_call 196;refine (h2 _).mono ?_;rintro e w' ⟨rfl,rfl⟩)
  go_ret
  exact ⟨rfl,0,_,by rw [alloc_eq_grow,alloc_eq_grow,grow_grow];rfl⟩
 ·rw [if_neg h]
  go_enter Tryz.func152,Tryz.ntmps152
  go_wp2_with (go_at_call 196;refine (h1 _).mono ?_;rintro e w' ⟨rfl,rfl⟩)
  go_ret
  exact ⟨rfl,0,_,by rw [alloc_eq_grow,alloc_eq_grow,grow_grow];rfl⟩
theorem oP (x y:Cl):ltOf gj x y=(decide (x.pos<y.pos)||(decide (x.pos=y.pos)&&decide (x.neg<y.neg))):=by
 have h:gj x y<0↔(x.pos<y.pos∨x.pos=y.pos∧x.neg<y.neg):=by
  unfold gj jZ
  split<;>split<;>first|omega|(split<;>omega)
 rw [Bool.eq_iff_iff]
 simp only [ltOf,decide_eq_true_eq,Bool.or_eq_true,Bool.and_eq_true]
 exact h
theorem Ug:SWO (ltOf gj) where
 irrefl x:=by rw [oP];simp
 trans x y z h1 h2:=by rw [oP] at*;simp at*;omega
 ntrans x y z h1 h2:=by rw [oP] at*;simp at*;omega
theorem Ux (x y:Cl) (h1:ltOf gj x y=false) (h2:ltOf gj y x=false):x=y:=by
 rw [oP] at*;simp at*
 obtain ⟨a,b⟩:=x
 obtain ⟨a',b'⟩:=y
 simp at*
 omega
theorem N9:(fun x y:Cl=> !ltOf gj y x)=iQ:=by
 funext x y
 rw [oP,Bool.eq_iff_iff]
 simp [iQ]
 omega
instance:Inhabited Cl:=⟨⟨0,0⟩⟩
theorem T0 (b c:Nat) (d:List Cl) (w:World) (hH:HoldsK dE 2 w b 0 d.toArray) (hb:b<w.heap.size) (hsz:d.length<4611686018427387904):
  Calls Tryz.prog 151 #[.slice (some ⟨b,0,none⟩) d.length c,.func (.func 152) #[] #[]] w fun e w'=>e= .returned (.tuple #[])∧ ∃n os,w'=sortWorldK dE 2 w b 0 n (sortCl d).toArray os:=by
 have eg: ∀args w,(callFunc 152 args).run Tryz.prog w= .ok (.enter 152 args) w:=enters_of Tryz.func152 (by kernel_rfl) rfl
 have h:=AnyQ.slices_SortFunc_total Tryz.sortCl 2 Tryz.isAgg61 Tryz.sizeOf61 dE (fun _=>rfl) (fun x v hv=>by simp [dE] at hv;rcases hv with rfl|rfl<;>rfl) gj Ug 152 #[] b 0 c d.toArray w eg (fun _ _ _ _ x y=>LV x y _) hH hb hsz Ux
 rw [N9] at h
 exact h
theorem T1 (p:Option Addr) (c:Nat) (w:World):Calls Tryz.prog 151 #[.slice p 0 c,.func (.func 152) #[] #[]] w fun e w'=>e= .returned (.tuple #[])∧w'=w:=
 AnyF.slices_SortFunc_none Tryz.sortCl p c _ w
theorem TZ {m:Nat} {d:Array Cl} {os:Array Obj} {w:World} {b k:Nat} (hk:k<w.heap.size) (hne:k≠b):(sortWorldK dE 2 w b 0 m d os).heap[k]? =w.heap[k]? :=by
 unfold sortWorldK putRowK putRow mapBlock
 rw [heap_grow_old _ _ (by simpa [ahead] using hk)]
 show (w.heap.modify b _)[k]? =_
 rw [Array.getElem?_modify,if_neg (Ne.symm hne)]
theorem TY {m:Nat} {d:Array Cl} {os:Array Obj} {w:World} {b:Nat} {cur:Array Value} {e:TypeId} {fr:Nat×Nat} (h:w.heap[b]? =some (.cells cur e fr)):
  (sortWorldK dE 2 w b 0 m d os).heap[b]? =some (.cells (putCells id 0 (flatK dE 2 d) cur) e fr):=by
 have hb:b<w.heap.size:=(Array.getElem?_eq_some_iff.1 h).1
 unfold sortWorldK putRowK putRow mapBlock
 rw [heap_grow_old _ _ (by simpa [ahead] using hb)]
 show (w.heap.modify b _)[b]? =_
 rw [Array.getElem?_modify,if_pos rfl,h];rfl
theorem LS (x:Cl) {k:Nat} {p:PU} (hp:(cQ .C x)[k]? =some p):k<2∧ ∀ (X:Link VV Tryz.prog) (w:World) (N:aw) (g:Gh UU),Rep X w N g (dE x)[k]! p:=by
 match k,hp with
 |0,hp=>cases hp;exact ⟨by omega,fun X w N g=> .int _ _⟩
 |1,hp=>cases hp;exact ⟨by omega,fun X w N g=> .int _ _⟩
 |k+2,hp=>simp [cQ] at hp
theorem Of {w:World} {b c:Nat} {l:List Cl} {cur:Array Value} {e:TypeId} (hb:w.heap[b]? =some (.cells cur e (0,0))) (hs:cur.size=c*2) (hl:l.length≤c) (h: ∀ (j:Nat) (x:Cl),l[j]? =some x→ ∀k,k<2→w.cell? ⟨b,j*2+k,none⟩=some (dE x)[k]!):HoldsK dE 2 w b 0 l.toArray:=by
 intro t ht
 rw [size_flatK] at ht
 have ht':t<l.length*2:=by simpa using ht
 have hj:t/2<l.length:=by omega
 have hx:l[t/2]? =some l.toArray[t/2]! :=by simp [hj]
 refine ⟨?_, ?_⟩
 ·rw [get_flatK _ _ _ _ ht]
  have:=h _ _ hx (t%2) (Nat.mod_lt _ (by omega))
  rw [Nat.zero_add]
  rw [show t/2*2+t%2=t by omega] at this
  exact this
 ·simp [World.frozen?,hb]
theorem On {f:Nat} {ps:List PU} {l l':List Cl} (h:wv f ps l=some l'):f=151∧ps=[.func 152 [] []]∧l'=sortCl l:=by
 unfold wv at h
 split at h
 ·injection h with h
  exact ⟨rfl,rfl,h.symm⟩
 ·cases h
theorem sP (o:Obj):iG (LL o):=by
 intro f ps e l l' h
 have hi:By f ps e l=some l':=h
 clear h
 cases e with
 |T=>cases hi
 |B=>cases hi
 |I=>cases hi
 |F=>cases hi
 |C=>
 obtain ⟨rfl,rfl,rfl⟩:=On hi
 refine ⟨⟨Tryz.f151,Tryz.func151,by kernel_rfl,rfl⟩,fun w vs N0 δ hg hδ=> ?_⟩
 have hs:vs.size=2:=hg.size
 obtain ⟨v0,v1,rfl⟩: ∃v0 v1,vs= #[v0,v1]:=by
  obtain ⟨l⟩:=vs
  match l,hs with
  |[v,v'],_=>exact ⟨v,v',rfl⟩
 have h0:ObOK (LL o) w (NB N0 0 (fun _=>0) δ) (gB UU 0 fun _=>0) ET.C l v0 .wr (δ 0):=hg.args 0 _ rfl
 have h1:Rep (LL o) w (NB N0 0 (fun _=>0) δ) (gB UU 0 fun _=>0) v1 (.func 152 [] []):=hg.args 1 _ rfl
 cases h1 with
 |func _ _ _ xs ys ha hb _ _=>
 have ha':xs= #[]:=by simpa using ha
 have hb':ys= #[]:=by simpa using hb
 subst ha';subst hb'
 obtain ⟨A,n,c,rfl,hl,hc,hcell,hm⟩:=h0.val
 have hl: @List.length Cl l=n:=hl
 cases hD:δ 0 with
 |none=>
  rw [hD] at hm hcell
  obtain ⟨rfl,rfl,rfl⟩:=hm.1 rfl
  have:l=([]:List Cl):=List.length_eq_zero_iff.1 hl
  subst this
  refine (T1 none 0 w).mono ?_
  rintro e w' ⟨rfl,rfl⟩
  refine ⟨rfl,.refl _ _, ?_⟩
  rw [hD] at h0
  have:sortCl []=[]:=by simp [sortCl]
  rw [this]
  exact h0
 |some b=>
  rw [hD] at hm hcell
  obtain ⟨hu,cur,rfl,hblk,hsz,hmax⟩:=hm
  have hbl:b<w.heap.size:=(Array.getElem?_eq_some_iff.1 hblk).1
  have hcs:cur.size=c*2:=hsz
  have hH:HoldsK dE 2 w b 0 l.toArray:=Of hblk hcs (hl▸hc) fun j x hx k hk=>by
   have hp: ∃p,(cQ ET.C x)[k]? =some p∧p= .int .u32 (if k=0 then x.pos else x.neg):=by
    match k,hk with
    |0,_=>exact ⟨_,rfl,rfl⟩
    |1,_=>exact ⟨_,rfl,rfl⟩
   obtain ⟨p,hp,hpe⟩:=hp
   obtain ⟨a,v,ha,hv,hr,_⟩:=hcell j x hx k p hp
   injection ha with ha
   subst ha
   subst hpe
   have hv':w.cell? ⟨b,j*2+k,none⟩=some v:=by
    have:(⟨b,0,none⟩:Addr).add (j*(LL o).esize ET.C+k)=⟨b,j*2+k,none⟩:=by
     rw [Addr.add_lit'];show (⟨b,0+(j*2+k),none⟩:Addr)=_;congr 1;omega
    rw [this] at hv;exact hv
   rw [hv']
   cases hr
   match k,hk with
   |0,_=>rfl
   |1,_=>rfl
  have hlt: @List.length Cl l<4611686018427387904:=by
   have:n≤1099511627776:=hmax.2
   omega
  have hcall:=T0 b c l w hH hbl hlt
  have he:(.slice (some ⟨b,0,none⟩) (@List.length Cl l) c:Value)= .slice (some ⟨b,0,none⟩) n c:=by rw [hl]
  rw [he] at hcall
  refine hcall.mono ?_
  rintro e w' ⟨rfl,m,os,rfl⟩
  have hlen:(sortCl l).length= @List.length Cl l:=List.length_mergeSort _
  have hH':=holdsK_sortWorldK_c dE 2 w b 0 l.toArray (sortCl l).toArray m os hH hbl hlen
  refine ⟨rfl,⟨rfl,rfl,rfl,size_sortWorldK_c dE 2 w b 0 m _ os,fun k hk hne=>TZ hk fun e=>hne ?_⟩, ?_⟩
  ·subst e
   exact List.mem_append_right _ (List.mem_filterMap.2 ⟨0,by simp,hD⟩)
  ·refine ⟨_,n,c,rfl,hlen.trans hl,hc,fun j x hx k p hp=> ?_, ?_⟩
   ·obtain ⟨hk,hrep⟩:=LS x hp
    have hj:j<(sortCl l).length:=(List.getElem?_eq_some_iff.1 hx).1
    have:=(hH'.cell (i:=j) (c:=k) (by simpa using hj) hk).1
    have he:(sortCl l).toArray[j]! =x:=by
     have:=List.getElem?_eq_some_iff.1 hx
     rw [getElem!_pos _ j (by simpa using hj)];exact this.2
    rw [he] at this
    refine ⟨_,_,rfl, ?_,hrep _ _ _ _,fun h=>by cases h⟩
    have e:(⟨b,0,none⟩:Addr).add (j*(LL o).esize ET.C+k)=⟨b,0+j*2+k,none⟩:=by
     rw [Addr.add_lit'];show (⟨b,0+(j*2+k),none⟩:Addr)=_;congr 1;omega
    show World.cell? _ (Addr.add _ _)=_
    rw [e];exact this
   ·exact ⟨hu,_,rfl,TY hblk,by simp [putCells];exact hcs,hmax⟩
end Go.Proofs.YtapmagaejigpnaaGreatDoor
namespace Go.Proofs.YtapmagaejigpnaaGreatDoor
open Go PI Go.ChangeShapes Go.WideShapes Go.ChangeAt Go.RowKit
set_option linter.unusedVariables false
set_option linter.unusedSimpArgs false
set_option maxRecDepth 100000
theorem own:ownKnob Tryz.prog.godebug=none:=by kernel_rfl
theorem Bk:Tryz.prog.globalNamed "math/bits.deBruijn32tab" =some 0:=by kernel_rfl
section
variable {H:Type} {enc:TypeId×Value→H}
structure Kept (W W':World):Prop where
 os:W'.os=W.os
 output:W'.output=W.output
 size:W.heap.size≤W'.heap.size
 block: ∀b,b<W.heap.size→W'.heap[b]? =W.heap[b]?
theorem Kept.sameAt {W W':World} (h:Kept W W') {p:MemPlace} (hp:p.block<W.heap.size):W.sameAt W' p:=by
 cases p with
 |cell b o=>simp only [World.sameAt,World.cell?];rw [h.block b hp]
 |map b=>exact h.block b hp
theorem Kept.kept {W W':World} (h:Kept W W') (may:MemPlace→Prop):W.keptBut W' may:=by
 refine ⟨h.os,h.output,fun i hi=> ?_⟩
 rw [h.block i hi]
 cases W.heap[i]? with
 |none=>rfl
 |some o=>cases o with
  |cells c t fr=>exact ⟨rfl,rfl,rfl,fun _ _=>rfl⟩
  |map es clock=>exact .inr ⟨rfl,rfl⟩
  |_=>rfl
theorem zW {W W':World} {sp:Nat→Bool} {held:Bool}: ∀ {ts:List TypeId} {vs:List Value} {ds:List (DataW H)} {ps:List MemPlace},
  DataW.TrodAll enc Tryz.prog W 0 sp held ts vs ds ps→(∀p∈ps,W.sameAt W' p)→DataW.TrodAll enc Tryz.prog W' 0 sp held ts vs ds ps
 |[],[],[],_,h,_=>h
 |_::_,_::_,_::_,_,⟨p,q,⟨n,h1⟩,h2,e⟩,hs=>
  ⟨p,q,⟨n,DataW.trod_carry n _ _ _ h1 fun x hx=>hs x (by rw [e];exact List.mem_append_left _ hx)⟩,zW h2 (fun x hx=>hs x (by rw [e];exact List.mem_append_right _ hx)),e⟩
theorem kids:Kids Tryz.prog (· <Tryz.prog.types.size):=kids_rows (by kernel_rfl) (by kernel_rfl)
theorem full: ∀t e,t<Tryz.prog.types.size→Tryz.prog.underlying t=some (.slice e)→0<Tryz.prog.cellsOf e:=slices_full_of Tryz.prog (by kernel_rfl)
theorem RQ {f:Func} {s:ChangeSpec} (hv:s.vars=[]) {cW fresh handsOn again:Bool} {W W':World} {args:Array Value} {ds gs:List (DataW H)} {before:List MemPlace} (hf:f.resultTypes= #[4])
  (hT: ∀t∈f.params.toList,t<Tryz.prog.types.size) (hs:s.fn H ds={results:=[.lit (.bool true)],args:=ds})
  (hW:DataW.Whole enc Tryz.prog f.params.toList s.vars cW W args.toList ds gs before) (hk:Kept W W'):s.post enc Tryz.prog f cW fresh handsOn again W args (.bool true) W':=by
 have hold: ∀p∈before,(fun b=>decide (b<W.heap.size)) p.block=true:=fun p hp=>by simpa using hW.lt p hp
 have hlt: ∀p∈before,p.block<W.heap.size:=fun p hp=>by simpa using hW.lt p hp
 have hW0:=hW
 obtain ⟨p,q,hA,hV,rfl,hz,hn⟩:=hW
 rw [hv] at hV
 obtain ⟨rfl,rfl⟩:=trodVars_none hV
 rw [List.append_nil] at hold hlt hz hn hW0
 have hs':s.fn H (ds++[])={results:=[.lit (.bool true)],args:=ds}:=by rw [List.append_nil];exact hs
 have hr:(Value.bool true).resultList f.resultTypes.size=[.bool true]:=by rw [hf];rfl
 have hres: ∀ (b:Nat) (sp:Nat→Bool) (hd:Bool),DataW.TrodAll enc Tryz.prog W' b sp hd f.resultTypes.toList ((Value.bool true).resultList f.resultTypes.size) (s.fn H (ds++[])).results []:=fun b sp hd=>by
  rw [hr,hs',hf]
  exact trodAll_cons_mk (shut_bool Tryz.underlying4 _) trodAll_mk0
 have hargs: ∀sp:Nat→Bool,(∀p'∈p,sp p'.block=true)→DataW.TrodAll enc Tryz.prog W' 0 sp true f.params.toList args.toList (s.fn H (ds++[])).args p:=fun sp hsp=>by
  rw [hs']
  exact DataW.TrodAll.respare kids full hT (zW hA fun x hx=>hk.sameAt (hlt x hx)) hsp
 have hvars: ∀sp:Nat→Bool,DataW.TrodVars enc Tryz.prog W' sp s.vars (s.fn H (ds++[])).vars []:=fun sp=>by rw [hv,hs'];rfl
 refine ⟨ds,[],p,[],p,[],hW0,hres _ _ _,hargs _ hold,hvars _,World.keptBut_mono (fun p' hp=>hp.elim) (hk.kept fun _=>False),fun _=> ?_⟩
 refine ⟨fun j t r h1 h2=> ?_,_,_,([]++p)++[],⟨[]++p,[],trodAll_append (hargs _ (fun _ _=>rfl)) (hres _ _ _),hvars _,rfl, ?_, ?_⟩, ?_⟩
 ·rw [hf] at h1
  rw [hr] at h2
  match j,h1,h2 with
  |0,h1,h2=>cases h1;cases h2;exact okWide_bool_mk Tryz.underlying4 _
  |j+1,h1,h2=>simp at h2
 ·intro b off hp
  have hp':MemPlace.cell b off∈p:=by simpa using hp
  have:=hz b off hp'
  simp only [World.frozen?] at this ⊢
  rw [hk.block b (hlt _ hp')]
  exact this
 ·intro ha
  have:=hn ha
  simpa using this
 ·intro p' hp _
  simpa using hp
variable {w:World} {spare:Nat→Bool} {held:Bool} {o:Obj} {N:aw} {g:Gh UU}
theorem Lc {v:Value} {n:Nat} (h:v.cells.toList.length=n+2): ∃vs:Array Value,v= .agg vs∧vs.toList=v.cells.toList:=by
 cases v with
 |agg vs=>exact ⟨vs,rfl,rfl⟩
 |_=>simp [Value.cells] at h
theorem z_ (hN: ∀b o,¬N b o) {v:Value} {d:DataW H} {ps:List MemPlace} (h:DataW.Trod enc Tryz.prog w 0 spare held 26 v d ps): ∃t:Tm,Rep (LL o) w N g v (.agg (cQ ET.T t))∧QT t d:=by
 obtain ⟨n,hn⟩:=h
 obtain ⟨t,hr,hq⟩:=(Dh (o:=o) (g:=g) hN n).1 _ _ _ hn
 obtain ⟨_,_,_,_,hl,_,_⟩:=DataW.trod_struct Tryz.underlying26 hn
 have hl6:v.cells.toList.length=6:=hl.trans (by kernel_rfl)
 obtain ⟨vs,rfl,hvs⟩:=Lc (n:=4) hl6
 refine ⟨t,Rep.agg (X:=LL o) vs (cQ ET.T t) (by rw [←Array.length_toList,hvs,hl6];rfl) fun j p hp=> ?_,hq⟩
 obtain ⟨v',hv',hr'⟩:=hr j p hp
 have:vs.getD j undef=v':=by
  have h2:vs[j]? =some v':=by rw [←Array.getElem?_toList,hvs];exact hv'
  rw [Array.getD_eq_getD_getElem?,h2];rfl
 rw [this];exact hr'
theorem Ln (hN: ∀b o,¬N b o) {W:World} {base:Nat} {v:Value} {d:DataW H} {ps:List MemPlace} (hv:Value.okWide Tryz.prog W .any base 22 v) (h:DataW.Trod enc Tryz.prog w 0 spare held 22 v d ps):
  ∃l:List Cl,Rep (LL o) w N g v (ck l .none)∧al l∧l.length+1≤Rows.uptoBulk d:=by
 obtain ⟨a,len,cap,rfl⟩:=okWide_slice Tryz.underlying22 hv
 obtain ⟨n,hn⟩:=h
 obtain ⟨c,l,hc,hr,hq⟩:=xh (o:=o) (g:=g) hN hn
 obtain rfl:c= .slice a len cap:=by simpa [Value.cells] using hc.symm
 exact ⟨l,hr,hq⟩
theorem Lo (hN: ∀b o,¬N b o) {W:World} {base:Nat} {v:Value} {d:DataW H} {ps:List MemPlace} (hv:Value.okWide Tryz.prog W .any base 24 v) (h:DataW.Trod enc Tryz.prog w 0 spare held 24 v d ps):
  ∃l:List (Br Tm),Rep (LL o) w N g v (ez l .none)∧((ay l+1≤Rows.uptoBulk d∧l.length+1≤Rows.uptoBulk d)∧(Rows.uptoBulk d<1073741824→aX l)):=by
 obtain ⟨a,len,cap,rfl⟩:=okWide_slice Tryz.underlying24 hv
 obtain ⟨n,hn⟩:=h
 obtain ⟨c,l,hc,hr,h1,h2,h3⟩:=(Dh (o:=o) (g:=g) hN n).2.2.2 _ _ _ hn
 obtain rfl:c= .slice a len cap:=by simpa [Value.cells] using hc.symm
 exact ⟨l,hr,⟨h1,h2⟩,h3⟩
theorem nO (d:DataW H):1≤Rows.uptoBulk d:=by
 cases d with
 |lit l=>cases l<;>simp [Rows.uptoBulk]
 |_=>simp [Rows.uptoBulk]
theorem Oa {o:Obj} {W:World} (h0:W.heap[0]? =some o) {vs:Array Value} {ps:List PU} (hs:vs.size=ps.length) (hp:ps.all PV.notFresh=true)
  (h: ∀ (j:Nat) p,ps[j]? =some p→Rep (LL o) W (NB (fun _ _=>False) 0 (fun _=>0) fun _=>none) (gB UU 0 fun _=>0) (vs.getD j undef) p):Given (LL o) W vs (fun _ _=>False) (fun _=>0) (fun _=>none) ps [] where
 bnd:=⟨fun i j hi=>absurd hi (Nat.not_lt_zero i),fun i hi=>absurd hi (Nat.not_lt_zero i),fun j b h=>(by cases h),fun i j b h=>(by cases h),fun j b h=>(by cases h),fun b o h=>h.elim⟩
 size:=hs
 dom:=fun j b h=>by cases h
 glob:=fun b o' hb=>by
  simp [LL] at hb
  obtain ⟨rfl,rfl⟩:=hb
  exact ⟨h0,fun i hi=>absurd hi (Nat.not_lt_zero i),fun j h=>by cases h⟩
 args:=fun j p hj=>RepG.of (h j p hj)
 boxes:=fun k b h=>by simp at h
theorem mC: ∀b o,¬NB (fun _ _=>False) 0 (fun _=>0) (fun _=>none) b o:=by
 rintro b o (h|⟨k,hk,_⟩|⟨j,h⟩)
 ·exact h
 ·exact absurd hk (Nat.not_lt_zero k)
 ·cases h
theorem LJ {o:Obj} {f:FuncId} {ps:List PU} (hok:bS (LL o) f ps [] (.ret (.bool true) [])) {W:World} {vs:Array Value} (hg:Given (LL o) W vs (fun _ _=>False) (fun _=>0) (fun _=>none) ps []):
  Calls Tryz.prog f vs W fun e W'=>e= .returned (.bool true)∧Kept W W':=by
 refine (hok.2 W vs _ _ _ hg).mono ?_
 rintro e W' he
 cases e with
 |returned rv=>
  obtain ⟨ν',δ',hb,hr⟩:=he
  have hr:Rep (LL o) W' _ _ rv (.bool true):=hr
  cases hr
  refine ⟨rfl,hb.ext.os,hb.ext.output,hb.ext.size,fun b hb'=>hb.ext.block b hb' fun hm=> ?_⟩
  simp [kG] at hm
 |panicked ch=>exact he.elim
 |outgrown=>exact he.elim
theorem Um {H:Type}:(Rows.laid_math_bits_deBruijn32tab:DataW H)=Lib.tabData .u8 (Lib.deBruijn32tab.map fun n:Nat=>(n:Int)):=rfl
theorem Un {W:World} (h:laidMetH Tryz.prog [("math/bits.deBruijn32tab",Rows.laid_math_bits_deBruijn32tab)] W): ∃o,ae o∧W.heap[0]? =some o:=by
 have h':laidMet Tryz.prog [("math/bits.deBruijn32tab",Rows.laid_math_bits_deBruijn32tab)] W:=h
 rw [Um] at h'
 have ht:Lib.TabIs Tryz.prog W "math/bits.deBruijn32tab" .u8 (Lib.deBruijn32tab.map fun n:Nat=>(n:Int)):=
  Lib.tabIs_of_head (rest:=[]) Bk (by kernel_rfl) Tryz.underlying205 Tryz.underlying5 (by kernel_rfl) (by kernel_rfl) h'
 have hc: ∀j,j<Lib.deBruijn32tab.length→W.cell? ⟨0,j,none⟩=some (.int .u8 (Lib.deBruijn32tab.getD j 0:Nat)):=fun j hj=>by
  rw [ht.cell Bk j (by simpa using hj)]
  simp [List.getD,hj]
 have h0:=hc 0 (by decide)
 cases hh:W.heap[0]? with
 |none=>simp [World.cell?,hh] at h0
 |some o=>
  cases o with
  |cells cur e fr=>
   refine ⟨_,⟨cur,e,fr,rfl,fun j hj=> ?_⟩,rfl⟩
   have:=hc j hj
   simpa [World.cell?,hh] using this
  |_=>simp [World.cell?,hh] at h0
end
end Go.Proofs.YtapmagaejigpnaaGreatDoor
namespace Go.Proofs.YtapmagaejigpnaaGreatDoor
open Go PI
set_option linter.unusedVariables false
set_option linter.unusedSimpArgs false
set_option maxRecDepth 100000
noncomputable section
abbrev Rw (S:Type):=List PU→List (Box UU)→(Out UU→Option S)→Option S
abbrev Kn (S:Type):=(Out UU→Option S)→Option S
noncomputable def iI (n:Int):PU:= .int .i64 n
noncomputable def iU (n:Int):PU:= .int .u32 n
noncomputable def pt (i:Nat):PU:= .ptr i 0
noncomputable def aT (t:Tm):PU:= .agg [.int .i64 t.kind,.int .i64 t.n,.str t.name,ck t.r .none,gO t.kids .none,ez t.sys .none]
noncomputable def aC (c:Cl):PU:= .agg [.int .u32 c.pos,.int .u32 c.neg]
noncomputable def bT (t:Tm):Box UU:= .cells [.int .i64 t.kind,.int .i64 t.n,.str t.name,ck t.r .none,gO t.kids .none,ez t.sys .none]
noncomputable def bC (c:Cl):Box UU:= .cells [.int .u32 c.pos,.int .u32 c.neg]
noncomputable def bI (n:Int):Box UU:= .cells [.int .i64 n]
noncomputable def bb (b:Bool):Box UU:= .cells [.bool b]
noncomputable def sC (l:List Cl):PU:=ck l .none
noncomputable def sT (l:List Tm):PU:=gO l .none
noncomputable def sB (l:List (Br Tm)):PU:=ez l .none
structure Cd where
 D:Type→Type
 k:{ρ:Type}→ρ→D ρ
 dec:{ρ:Type}→D ρ→PU→Option ρ
 A:{ρ:Type}→D ρ→(PU→ρ→Prop)→Prop
 law: ∀ {ρ:Type} (f:D ρ) (v:PU) (r:ρ) (Q:PU→ρ→Prop),A f Q→dec f v=some r→Q v r
structure Cs where
 D:Type→Type
 n:Nat
 k:{ρ:Type}→ρ→D ρ
 dec:{ρ:Type}→D ρ→List PU→Option ρ
 A:{ρ:Type}→D ρ→(List PU→ρ→Prop)→Prop
 law: ∀ {ρ:Type} (f:D ρ) (v:List PU) (r:ρ) (Q:List PU→ρ→Prop),A f Q→dec f v=some r→Q v r
 len: ∀ {ρ:Type} (f:D ρ) (v:List PU) (r:ρ),dec f v=some r→v.length=n
structure Bs where
 D:Type→Type
 n:Nat
 k:{ρ:Type}→ρ→D ρ
 dec:{ρ:Type}→D ρ→List (Box UU)→Option ρ
 A:{ρ:Type}→D ρ→(List (Box UU)→ρ→Prop)→Prop
 law: ∀ {ρ:Type} (f:D ρ) (v:List (Box UU)) (r:ρ) (Q:List (Box UU)→ρ→Prop),A f Q→dec f v=some r→Q v r
 len: ∀ {ρ:Type} (f:D ρ) (v:List (Box UU)) (r:ρ),dec f v=some r→v.length=n
noncomputable def cn:Cs where
 D ρ:=ρ
 n:=0
 k r:=r
 dec f:=fun|[]=>some f|_=> .none
 A f Q:=Q [] f
 law f v r Q h e:=by split at e<;>cases e;exact h
 len f v r e:=by split at e<;>cases e;rfl
noncomputable def cc (c:Cd) (s:Cs):Cs where
 D ρ:=c.D (s.D ρ)
 n:=s.n+1
 k r:=c.k (s.k r)
 dec f:=fun|v::l=>(c.dec f v).bind fun g=>s.dec g l|[]=> .none
 A f Q:=c.A f fun v g=>s.A g fun l r=>Q (v::l) r
 law f v r Q h e:=by
  split at e
  ·obtain ⟨g,h1,h2⟩:=Option.bind_eq_some_iff.1 e
   have:=s.law g _ r _ (c.law f _ g _ h h1) h2;exact this
  ·cases e
 len f v r e:=by
  split at e
  ·obtain ⟨g,h1,h2⟩:=Option.bind_eq_some_iff.1 e
   simp [s.len g _ r h2]
  ·cases e
noncomputable def xn:Bs where
 D ρ:=ρ
 n:=0
 k r:=r
 dec f:=fun|[]=>some f|_=> .none
 A f Q:=Q [] f
 law f v r Q h e:=by split at e<;>cases e;exact h
 len f v r e:=by split at e<;>cases e;rfl
noncomputable def xc (c:Cs) (s:Bs):Bs where
 D ρ:=c.D (s.D ρ)
 n:=s.n+1
 k r:=c.k (s.k r)
 dec f:=fun| .cells v::l=>(c.dec f v).bind fun g=>s.dec g l|_=> .none
 A f Q:=c.A f fun v g=>s.A g fun l r=>Q (.cells v::l) r
 law f v r Q h e:=by
  split at e
  ·obtain ⟨g,h1,h2⟩:=Option.bind_eq_some_iff.1 e
   have:=s.law g _ r _ (c.law f _ g _ h h1) h2;exact this
  ·cases e
 len f v r e:=by
  split at e
  ·obtain ⟨g,h1,h2⟩:=Option.bind_eq_some_iff.1 e
   simp [s.len g _ r h2]
  ·cases e
noncomputable def cI:Cd where
 D ρ:=Int→ρ
 k r:=fun _=>r
 dec f:=fun| .int .i64 n=>some (f n)|_=> .none
 A f Q:= ∀n:Int,Q (iI n) (f n)
 law f v r Q h e:=by split at e<;>cases e;exact h _
noncomputable def cU:Cd where
 D ρ:=Int→ρ
 k r:=fun _=>r
 dec f:=fun| .int .u32 n=>some (f n)|_=> .none
 A f Q:= ∀n:Int,Q (iU n) (f n)
 law f v r Q h e:=by split at e<;>cases e;exact h _
noncomputable def cN (kd:IntKind):Cd where
 D ρ:=Int→ρ
 k r:=fun _=>r
 dec f:=fun| .int q n=>(match decEq q kd with| .isTrue _=>some (f n)| .isFalse _=> .none)|_=> .none
 A f Q:= ∀n:Int,Q (.int kd n) (f n)
 law f v r Q h e:=by
  split at e
  ·split at e
   ·rename_i hq _;subst hq;cases e;exact h _
   ·cases e
  ·cases e
noncomputable def cb:Cd where
 D ρ:=Bool→ρ
 k r:=fun _=>r
 dec f:=fun| .bool n=>some (f n)|_=> .none
 A f Q:= ∀n:Bool,Q (.bool n) (f n)
 law f v r Q h e:=by split at e<;>cases e;exact h _
noncomputable def cs:Cd where
 D ρ:=ByteArray→ρ
 k r:=fun _=>r
 dec f:=fun| .str n=>some (f n)|_=> .none
 A f Q:= ∀n:ByteArray,Q (.str n) (f n)
 law f v r Q h e:=by split at e<;>cases e;exact h _
noncomputable def lC:Cd where
 D ρ:=List Cl→ρ
 k r:=fun _=>r
 dec f:=fun| .sl .C n .none=>some (f n)|_=> .none
 A f Q:= ∀n:List Cl,Q (sC n) (f n)
 law f v r Q h e:=by split at e<;>cases e;exact h _
noncomputable def lT:Cd where
 D ρ:=List Tm→ρ
 k r:=fun _=>r
 dec f:=fun| .sl .T n .none=>some (f n)|_=> .none
 A f Q:= ∀n:List Tm,Q (sT n) (f n)
 law f v r Q h e:=by split at e<;>cases e;exact h _
noncomputable def lB:Cd where
 D ρ:=List (Br Tm)→ρ
 k r:=fun _=>r
 dec f:=fun| .sl .B n .none=>some (f n)|_=> .none
 A f Q:= ∀n:List (Br Tm),Q (sB n) (f n)
 law f v r Q h e:=by split at e<;>cases e;exact h _
noncomputable def lI:Cd where
 D ρ:=List Int→ρ
 k r:=fun _=>r
 dec f:=fun| .sl .I n .none=>some (f n)|_=> .none
 A f Q:= ∀n:List Int,Q (kV n .none) (f n)
 law f v r Q h e:=by split at e<;>cases e;exact h _
noncomputable def lF:Cd where
 D ρ:=List (List Cl)→ρ
 k r:=fun _=>r
 dec f:=fun| .sl .F n .none=>some (f n)|_=> .none
 A f Q:= ∀n:List (List Cl),Q (t_ n .none) (f n)
 law f v r Q h e:=by split at e<;>cases e;exact h _
noncomputable def hC:Cd where
 D ρ:=List Cl→ρ
 k r:=fun _=>r
 dec f:=fun| .fresh .C n=>some (f n)|_=> .none
 A f Q:= ∀n:List Cl,Q (wj n) (f n)
 law f v r Q h e:=by split at e<;>cases e;exact h _
noncomputable def cT:Cd where
 D ρ:=Tm→ρ
 k r:=fun _=>r
 dec f:=fun| .agg [.int .i64 a,.int .i64 b,.str c,.sl .C d .none,.sl .T e .none,.sl .B g .none]=>some (f (Tm.mk a b c d e g))|_=> .none
 A f Q:= ∀t:Tm,Q (aT t) (f t)
 law f v r Q h e:=by split at e<;>cases e;exact h (Tm.mk _ _ _ _ _ _)
noncomputable def cC:Cd where
 D ρ:=Cl→ρ
 k r:=fun _=>r
 dec f:=fun| .agg [.int .u32 a,.int .u32 b]=>some (f ⟨a,b⟩)|_=> .none
 A f Q:= ∀t:Cl,Q (aC t) (f t)
 law f v r Q h e:=by split at e<;>cases e;exact h (⟨_,_⟩)
noncomputable def xT (s:Bs):Bs where
 D ρ:=Tm→s.D ρ
 n:=s.n+1
 k r:=fun _=>s.k r
 dec f:=fun| .cells [.int .i64 a,.int .i64 b,.str c,.sl .C d .none,.sl .T e .none,.sl .B g .none]::l=>s.dec (f (Tm.mk a b c d e g)) l|_=> .none
 A f Q:= ∀t:Tm,s.A (f t) fun l r=>Q (bT t::l) r
 law f v r Q h e:=by
  split at e
  ·have:=s.law _ _ r _ (h (Tm.mk _ _ _ _ _ _)) e;exact this
  ·cases e
 len f v r e:=by
  split at e
  ·simp [s.len _ _ r e]
  ·cases e
noncomputable def xC (s:Bs):Bs where
 D ρ:=Cl→s.D ρ
 n:=s.n+1
 k r:=fun _=>s.k r
 dec f:=fun| .cells [.int .u32 a,.int .u32 b]::l=>s.dec (f ⟨a,b⟩) l|_=> .none
 A f Q:= ∀t:Cl,s.A (f t) fun l r=>Q (bC t::l) r
 law f v r Q h e:=by
  split at e
  ·have:=s.law _ _ r _ (h (⟨_,_⟩)) e;exact this
  ·cases e
 len f v r e:=by
  split at e
  ·simp [s.len _ _ r e]
  ·cases e
noncomputable def xI (s:Bs):Bs where
 D ρ:=Int→s.D ρ
 n:=s.n+1
 k r:=fun _=>s.k r
 dec f:=fun| .cells [.int .i64 a]::l=>s.dec (f a) l|_=> .none
 A f Q:= ∀t:Int,s.A (f t) fun l r=>Q (bI t::l) r
 law f v r Q h e:=by
  split at e
  ·have:=s.law _ _ r _ (h _) e;exact this
  ·cases e
 len f v r e:=by
  split at e
  ·simp [s.len _ _ r e]
  ·cases e
noncomputable def cp (i:Nat):Cd where
 D ρ:=ρ
 k r:=r
 dec f:=fun| .ptr j 0=>(match decEq j i with| .isTrue _=>some f| .isFalse _=> .none)|_=> .none
 A f Q:=Q (pt i) f
 law f v r Q h e:=by
  split at e
  ·split at e
   ·rename_i hq _;subst hq;cases e;exact h
   ·cases e
  ·cases e
noncomputable def cg (s:Cs):Cd where
 D ρ:=s.D ρ
 k r:=s.k r
 dec f:=fun| .agg l=>s.dec f l|_=> .none
 A f Q:=s.A f fun l r=>Q (.agg l) r
 law f v r Q h e:=by
  split at e
  ·have:=s.law f _ r _ h e;exact this
  ·cases e
noncomputable def cf (i:Nat) (s:Cs) (u:Cs):Cd where
 D ρ:=s.D (u.D ρ)
 k r:=s.k (u.k r)
 dec f:=fun| .func j l m=>(match decEq j i with| .isTrue _=>(s.dec f l).bind fun g=>u.dec g m| .isFalse _=> .none)|_=> .none
 A f Q:=s.A f fun l g=>u.A g fun m r=>Q (.func i l m) r
 law f v r Q h e:=by
  split at e
  ·split at e
   ·rename_i hq _
    subst hq
    obtain ⟨g,h1,h2⟩:=Option.bind_eq_some_iff.1 e
    have:=u.law g _ r _ (s.law f _ g _ h h1) h2;exact this
   ·cases e
  ·cases e
noncomputable def af {S:Type} (K:Cs) (B:Bs) (F:K.D (B.D (Kn S))):Rw S:=fun vs bs κ=>(K.dec F vs).bind fun g=>(B.dec g bs).bind fun h=>h κ
noncomputable def oD (K:Cs) (B:Bs) (vs:List PU) (bs:List (Box UU)):Bool:=((K.dec (K.k (B.k ())) vs).bind fun g=>B.dec g bs).isSome
noncomputable def AA {S:Type} (K:Cs) (B:Bs) (F:K.D (B.D (Kn S))) (Q:List PU→List (Box UU)→Kn S→Prop):Prop:=K.A F fun vs g=>B.A g fun bs h=>Q vs bs h
theorem xb {S:Type} {K:Cs} {B:Bs} {F:K.D (B.D (Kn S))} {Q:List PU→List (Box UU)→Kn S→Prop} (hA:AA K B F Q) {vs:List PU} {bs:List (Box UU)} {κ:Out UU→Option S} {x:S} (h:af K B F vs bs κ=some x):
  ∃g,Q vs bs g∧g κ=some x∧vs.length=K.n∧bs.length=B.n:=by
 obtain ⟨g,h1,h2⟩:=Option.bind_eq_some_iff.1 h
 obtain ⟨u,h3,h4⟩:=Option.bind_eq_some_iff.1 h2
 have:=K.law F vs g _ hA h1
 have:=B.law g bs u _ this h3
 exact ⟨u,this,h4,K.len _ _ _ h1,B.len _ _ _ h3⟩
noncomputable def Tl {S:Type} (o:Obj) (f:Nat) (r:Rw S):Prop:= ∀vs bs κ x,r vs bs κ=some x→ ∃out,bS (LL o) f vs bs out∧κ out=some x
noncomputable def pa {S:Type}:List (Nat×Rw S)→Oracle UU S
 |[],_,_,_,_=> .none
 |(g,r)::l,f,vs,bs,κ=>bif Nat.beq f g then r vs bs κ else pa l f vs bs κ
noncomputable def TA {S:Type} (o:Obj):List (Nat×Rw S)→Prop
 |[]=>True
 |(f,r)::l=>Tl o f r∧TA o l
theorem TA.tells {S:Type} {o:Obj}: ∀ {l:List (Nat×Rw S)},TA o l→(pa l).Tells (bS (LL o))
 |[],_,f,vs,bs,κ,x,h=>by cases h
 |(g,r)::l,hl,f,vs,bs,κ,x,h=>by
  unfold pa at h
  cases hb:Nat.beq f g with
  |true=>
   rw [hb] at h
   have:=Nat.eq_of_beq_eq_true hb
   subst this
   exact hl.1 _ _ _ _ h
  |false=>
   rw [hb] at h
   exact TA.tells hl.2 _ _ _ _ _ h
noncomputable def kL {S:Type} (b:List PU→List (Box UU)→Bool) (r q:Rw S):Rw S:=fun vs bs κ=>bif b vs bs then r vs bs κ else q vs bs κ
theorem pe {S:Type} {o:Obj} {f:Nat} {b:List PU→List (Box UU)→Bool} {r q:Rw S} (h1:Tl o f r) (h2:Tl o f q):Tl o f (kL b r q):=fun vs bs κ x h=>by
 unfold kL at h
 rcases Lz h with h|h
 ·exact h1 _ _ _ _ h
 ·exact h2 _ _ _ _ h
structure Fx (S:Type) where
 sd:Side UU
 rows:List (Nat×Rw S)
 loops:List (Nat×Ann×List Bool)
 k:Nat
 fn:Func
 kp:Bool
 hn:List Bool
 nb:Nat
 cd:Option (PU→Oracle UU S)
noncomputable def z7:List (Nat×Ann×List Bool)→Nat→Option Ann
 |[],_=> .none
 |(i,a,_)::l,n=>bif Nat.beq n i then some a else z7 l n
noncomputable def wS:List (Nat×Ann×List Bool)→Nat→Ann×List Bool
 |[],_=>(⟨[],[]⟩,[])
 |(i,a)::l,n=>bif Nat.beq n i then a else wS l n
noncomputable def bG (rs:List Nat) (bs:List (Nat×Nat)):Ann:=⟨rs.map fun n=>(n,.none),bs.map fun p=>(p.1,List.replicate p.2 .none)⟩
noncomputable def aE:Nat→Nat→List Bool
 |0,_=>[]
 |n+1,b=>Nat.beq (b%2) 1::aE n (b/2)
noncomputable def fx {S:Type} (nt:Nat) (gv:Nat→List Bool) (ip:Nat→Bool) (rows:List (Nat×Rw S)) (loops:List (Nat×Ann×List Bool)) (k:Nat) (fn:Func) (kp:Bool) (hn:List Bool) (nb:Nat):Fx S:=
 ⟨⟨nt,gv,ip,.none,fun _=>false⟩,rows,loops,k,fn,kp,hn,nb,.none⟩
noncomputable def fp {S:Type} (nt:Nat) (rows:List (Nat×Rw S)) (loops:List (Nat×Ann×List Bool)) (k:Nat) (fn:Func) (nb:Nat):Fx S:=fx nt (fun _=>[]) (fun _=>false) rows loops k fn false [] nb
variable {S:Type}
noncomputable def Fx.oc (F:Fx S):Oracle UU S:=pa F.rows
noncomputable def Fx.an (F:Fx S):Nat→Option Ann:=z7 F.loops
noncomputable def Fx.go (F:Fx S) (c:Code) (σ:St UU) (κ:Ex UU→St UU→Option S):Option S:=PI.run VV F.sd F.oc F.an F.k c σ κ
noncomputable def Fx.kt (F:Fx S) (κ:Out UU→Option S) (p:List Bool) (κs:List (St UU→Option S)):Ex UU→St UU→Option S:=match F.cd with
 | .none=>jl VV F.sd F.oc F.an F.k (e9 F.fn) p κs F.an (kF VV F.oc F.kp F.hn F.fn F.nb κ)
 |some C=>BV VV F.sd F.oc F.an F.k (e9 F.fn) p κs F.an (kF VV F.oc F.kp F.hn F.fn F.nb κ) (kD VV F.oc C F.kp F.hn F.fn F.nb κ)
noncomputable def Fx.run (F:Fx S) (vs:List PU) (bs:List (Box UU)) (κ:Out UU→Option S):Option S:=match F.cd with
 | .none=>mX VV F.sd F.oc F.an F.k F.kp F.hn F.fn vs bs κ
 |some C=>yh VV F.sd F.oc F.an F.k C F.kp F.hn F.fn vs bs κ
noncomputable def Fx.A (F:Fx S) (i:Nat):Ann:=(wS F.loops i).1
noncomputable def Fx.p (F:Fx S) (i:Nat):List Bool:=(wS F.loops i).2
noncomputable def Fx.lp (F:Fx S) (κ:Out UU→Option S) (i:Nat) (κs:List (St UU→Option S)) (n:Nat) (σ:St UU):Option S:=
 oO (dc (F.A i)) (fun σ κ=>F.go (gk (e9 F.fn) (F.p i++[false])) σ κ) n σ (F.kt κ (F.p i) κs)
noncomputable def Fx.st (F:Fx S) (κ:Out UU→Option S) (i:Nat) (κs:List (St UU→Option S)) (r:St UU→Option S) (σ:St UU):Option S:=
 F.go (gk (e9 F.fn) (F.p i++[false])) σ (back (dc (F.A i)) r (F.kt κ (F.p i) κs))
noncomputable def Fx.jn (F:Fx S) (κ:Out UU→Option S) (i:Nat) (κs:List (St UU→Option S)) (n:Nat) (σ:St UU):Option S:=
 wy (fun σ κ=>F.go (gk (e9 F.fn) (F.p i)) σ κ) n σ (F.kt κ (F.p i) κs)
noncomputable def Fx.sj (F:Fx S) (κ:Out UU→Option S) (i:Nat) (κs:List (St UU→Option S)) (σ:St UU):Option S:=F.go (gk (e9 F.fn) (F.p i)) σ (F.kt κ (F.p i) κs)
theorem Fx.lp_succ (F:Fx S) (κ:Out UU→Option S) (i:Nat) (κs:List (St UU→Option S)) (n:Nat) (σ:St UU):F.lp κ i κs (n+1) σ=F.st κ i κs (fun τ=>F.lp κ i κs n τ) σ:=rfl
theorem Fx.jn_succ (F:Fx S) (κ:Out UU→Option S) (i:Nat) (κs:List (St UU→Option S)) (n:Nat) (σ:St UU):F.jn κ i κs (n+1) σ=F.sj κ i κs σ:=rfl
noncomputable def pb (F:Fx S) (n m:Nat):Bool:=(F.fn.name== "runtime.NumGoroutine")==false&&(F.fn.body.isNone==false&&(Nat.beq F.fn.ntmps F.sd.nt&&(Nat.ble F.sd.nt 1000000&&(Nat.ble n F.sd.nt&&Nat.ble m 1000000))))
theorem xg {F:Fx S} {n m:Nat} (h:pb F n m=true):(F.fn.name== "runtime.NumGoroutine")=false∧F.fn.body.isNone=false∧F.fn.ntmps=F.sd.nt∧F.sd.nt≤1000000∧n≤F.sd.nt∧m≤1000000:=by
 unfold pb at h
 simp only [Bool.and_eq_true,beq_iff_eq] at h
 obtain ⟨h1,h2,h3,h4,h5,h6⟩:=h
 exact ⟨h1,h2,Nat.eq_of_beq_eq_true h3,Nat.le_of_ble_eq_true h4,Nat.le_of_ble_eq_true h5,Nat.le_of_ble_eq_true h6⟩
theorem ai {o:Obj} {K:Cs} {B:Bs} {R:K.D (B.D (Kn S))} (F:Fx S) {f:FuncId} (ht:TA o F.rows) (hf:Tryz.prog.funcs[f]? =some F.fn) (hb:pb F K.n B.n=true) (run:AA K B R fun vs bs g=> ∀κ x,g κ=some x→F.run vs bs κ=some x)
  (h1:F.sd.rcv= .none:=by rfl) (h2:F.sd.pin=(fun _=>false):=by rfl) (h3:F.cd= .none:=by rfl):Tl o f (af K B R):=fun vs bs κ x h=>by
 obtain ⟨g,hg,hx,hl,hm⟩:=xb run h
 have hr:=hg κ x hx
 unfold Fx.run at hr
 rw [h3] at hr
 obtain ⟨b1,b2,b3,b4,b5,b6⟩:=xg hb
 exact sw (Fe tg (sP o) h1 h2 ht.tells hf b1 b2 b3 b4 (by omega) hr)
theorem iC {o:Obj} {K:Cs} {B:Bs} {R:K.D (B.D (Kn S))} {f:FuncId} (h0:AA K B R fun vs bs g=> ∀κ x,g κ=some x→False):Tl o f (af K B R):=fun vs bs κ x h=>by
 obtain ⟨g,hg,hx,_⟩:=xb h0 h
 exact (hg κ x hx).elim
noncomputable def ra (nt f:Nat) (fn:Func) (k:Nat):PU→Oracle UU S:=fun v g vs bs κ=>bif Nat.beq g f&&Nat.ble vs.length nt then yi VV ⟨nt,fun _=>[],fun _=>false,.none,fun _=>false⟩ (pa []) (fun _=> .none) k true [] fn v vs bs κ else .none
theorem Al (o:Obj) {nt f:Nat} {fn:Func} {k:Nat} (hf:Tryz.prog.funcs[f]? =some fn) (hb:pb (fp nt [] [] k fn 0:Fx S) 0 0=true): ∀v u u',RcvOK v u u'→(ra (S:=S) nt f fn k v).Tells (gT (LL o) (iF Tryz.prog u u')):=by
 intro v u u' hv g vs bs κ x h
 unfold ra at h
 cases hc:Nat.beq g f&&Nat.ble vs.length nt with
 |false=>rw [hc] at h;cases h
 |true=>
  rw [hc] at h
  rw [Bool.and_eq_true] at hc
  have:=Nat.eq_of_beq_eq_true hc.1
  subst this
  obtain ⟨b1,b2,b3,b4,_,_⟩:=xg hb
  exact sw (SQ tg (sP o) rfl rfl (TA.tells (l:=[]) (o:=o) trivial) hf b1 b2 b3 b4 hv (Nat.le_of_ble_eq_true hc.2) h)
theorem HC {o:Obj} {K:Cs} {B:Bs} {R:K.D (B.D (Kn S))} (F:Fx S) {f:FuncId} {C:PU→Oracle UU S} (h3:F.cd=some C) (hC: ∀v u u',RcvOK v u u'→(C v).Tells (gT (LL o) (iF Tryz.prog u u'))) (ht:TA o F.rows) (hf:Tryz.prog.funcs[f]? =some F.fn) (hb:pb F K.n B.n=true)
  (run:AA K B R fun vs bs g=> ∀κ x,g κ=some x→F.run vs bs κ=some x) (h1:F.sd.rcv= .none:=by rfl):Tl o f (af K B R):=fun vs bs κ x h=>by
 obtain ⟨g,hg,hx,hl,hm⟩:=xb run h
 have hr:=hg κ x hx
 unfold Fx.run at hr
 rw [h3] at hr
 obtain ⟨b1,b2,b3,b4,b5,b6⟩:=xg hb
 exact sw (SO tg (sP o) h1 ht.tells hC hf b1 b2 b3 b4 (by omega) (by omega) hr)
theorem lR {F:Fx S} {κ:Out UU→Option S} {i:Nat} {κs:List (St UU→Option S)} {mk:St UU} {l:Nat→Option S} (b:Option S) (h0:l 0= .none) (hs: ∀n,l (n+1)=b) (B:F.sj κ i κs mk=b): ∀ (n:Nat),F.jn κ i κs n mk=l n:=by
 intro n
 cases n with
 |zero=>intros;rw [h0];rfl
 |succ n=>intros;rw [hs,Fx.jn_succ];exact B
theorem eh {F:Fx S} {κ:Out UU→Option S} {i:Nat} {κs:List (St UU→Option S)} {α0:Type} {mk:α0→St UU} {l:Nat→α0→Option S} (b:(α0→Option S)→α0→Option S) (h0:l 0=fun x0=> .none) (hs: ∀n,l (n+1)=b (l n)) (B: ∀ (r:St UU→Option S) x0,F.st κ i κs r (mk x0)=b (fun x0=>r (mk x0)) x0): ∀ (n:Nat) x0,F.lp κ i κs n (mk x0)=l n x0:=by
 intro n
 induction n with
 |zero=>intros;rw [h0];rfl
 |succ n ih=>
  intros
  rw [hs,Fx.lp_succ,B]
  exact congrArg (fun g=>b g _) (funext fun x0=>ih x0)
theorem BC {F:Fx S} {κ:Out UU→Option S} {i:Nat} {κs:List (St UU→Option S)} {α0:Type} {mk:α0→St UU} {l:Nat→α0→Option S} (b:α0→Option S) (h0:l 0=fun x0=> .none) (hs: ∀n,l (n+1)=b) (B: ∀x0,F.sj κ i κs (mk x0)=b x0): ∀ (n:Nat) x0,F.jn κ i κs n (mk x0)=l n x0:=by
 intro n
 cases n with
 |zero=>intros;rw [h0];rfl
 |succ n=>intros;rw [hs,Fx.jn_succ];exact B _
theorem bL {F:Fx S} {κ:Out UU→Option S} {i:Nat} {κs:List (St UU→Option S)} {α0 α1:Type} {mk:α0→α1→St UU} {l:Nat→α0→α1→Option S} (b:(α0→α1→Option S)→α0→α1→Option S) (h0:l 0=fun x0 x1=> .none) (hs: ∀n,l (n+1)=b (l n)) (B: ∀ (r:St UU→Option S) x0 x1,F.st κ i κs r (mk x0 x1)=b (fun x0 x1=>r (mk x0 x1)) x0 x1): ∀ (n:Nat) x0 x1,F.lp κ i κs n (mk x0 x1)=l n x0 x1:=by
 intro n
 induction n with
 |zero=>intros;rw [h0];rfl
 |succ n ih=>
  intros
  rw [hs,Fx.lp_succ,B]
  exact congrArg (fun g=>b g _ _) (funext fun x0=>funext fun x1=>ih x0 x1)
theorem Oz {F:Fx S} {κ:Out UU→Option S} {i:Nat} {κs:List (St UU→Option S)} {α0 α1:Type} {mk:α0→α1→St UU} {l:Nat→α0→α1→Option S} (b:α0→α1→Option S) (h0:l 0=fun x0 x1=> .none) (hs: ∀n,l (n+1)=b) (B: ∀x0 x1,F.sj κ i κs (mk x0 x1)=b x0 x1): ∀ (n:Nat) x0 x1,F.jn κ i κs n (mk x0 x1)=l n x0 x1:=by
 intro n
 cases n with
 |zero=>intros;rw [h0];rfl
 |succ n=>intros;rw [hs,Fx.jn_succ];exact B _ _
theorem kC {F:Fx S} {κ:Out UU→Option S} {i:Nat} {κs:List (St UU→Option S)} {α0 α1 α2:Type} {mk:α0→α1→α2→St UU} {l:Nat→α0→α1→α2→Option S} (b:(α0→α1→α2→Option S)→α0→α1→α2→Option S) (h0:l 0=fun x0 x1 x2=> .none) (hs: ∀n,l (n+1)=b (l n)) (B: ∀ (r:St UU→Option S) x0 x1 x2,F.st κ i κs r (mk x0 x1 x2)=b (fun x0 x1 x2=>r (mk x0 x1 x2)) x0 x1 x2): ∀ (n:Nat) x0 x1 x2,F.lp κ i κs n (mk x0 x1 x2)=l n x0 x1 x2:=by
 intro n
 induction n with
 |zero=>intros;rw [h0];rfl
 |succ n ih=>
  intros
  rw [hs,Fx.lp_succ,B]
  exact congrArg (fun g=>b g _ _ _) (funext fun x0=>funext fun x1=>funext fun x2=>ih x0 x1 x2)
end
end Go.Proofs.YtapmagaejigpnaaGreatDoor
namespace Go.Proofs.YtapmagaejigpnaaGreatDoor
open Go PI
set_option linter.unusedVariables false
set_option maxRecDepth 100000
noncomputable def p7:Side UU:=⟨8,fun _=>[],fun _=>false,.none,fun _=>false⟩
noncomputable def tn {S:Type}:Oracle UU S:=fun _ _ _ _=> .none
theorem c1 {S:Type} (κ:Out UU→Option S):mX VV p7 tn (fun _=> .none) 5 false [] Tryz.f114 [.sl (U:=UU) ET.C [] .void] [] κ=κ (.ret (ck [] .none) []):=by kernel_rfl
theorem c2 {S:Type} (l:List Cl) (κ:Out UU→Option S):mX VV p7 tn (fun _=> .none) 5 false [] Tryz.f114 [.sl (U:=UU) ET.C l .sure] [] κ=Option.bind (aP 1099511627776 0 l.length) fun _=>κ (.ret (ck l .none) []):=by kernel_rfl
theorem RL {S:Type} (o:Obj):(tn (S:=S)).Tells (bS (LL o)):=fun _ _ _ _ _ h=>by cases h
theorem Am (o:Obj) {args:List PU} (hl:args.length=1) {out:Out UU} (h:mX VV p7 tn (fun _=> .none) 5 false [] Tryz.f114 args [] some=some out):bS (LL o) 114 args [] out:=by
 obtain ⟨out',h1,h2⟩:=Fe tg (sP o) (S:=p7) rfl rfl (RL o) (f:=114) Tryz.func114 (by kernel_rfl) rfl rfl (by decide) (by rw [hl];decide) h
 injection h1 with h1
 exact h1▸h2
theorem Bp {X:Link VV Tryz.prog} {w:World} {vs:Array Value} {N0:aw} {ν:Nat→Nat} {δ:Nat→Option Nat} {p q:PU} (h:Given X w vs N0 ν δ [p] [])
  (hr:RepG X w (NB N0 0 ν δ) (gB UU 0 ν) (vs.getD 0 undef) (δ 0) p→RepG X w (NB N0 0 ν δ) (gB UU 0 ν) (vs.getD 0 undef) (δ 0) q):Given X w vs N0 ν δ [q] []:=
 {h with
  args:=fun j r hj=>by
   cases j with
   |zero=>
    injection hj with hj
    subst hj
    exact hr (h.args 0 p rfl)
   |succ j=>simp at hj}
theorem LU (o:Obj) (l:List Cl) {u:Unit} (hroom:aP 1099511627776 0 l.length=some u):bS (LL o) 114 [ck l .none] [] (.ret (ck l .none) []):=by
 refine ⟨⟨Tryz.f114,Tryz.func114,by kernel_rfl,rfl⟩,fun w vs N0 ν δ hg=> ?_⟩
 have h0:Rep (LL o) w (NB N0 0 ν δ) (gB UU 0 ν) (vs.getD 0 undef) (ck l .none):=hg.args 0 _ rfl
 generalize hv:vs.getD 0 undef=v at h0
 cases h0 with
 |sl A n c _ _ _ val hl hc _ h1 h2=>
 cases A with
 |none=>
  have hl0:l=[]:=by
   cases l with
   |nil=>rfl
   |cons x r=>
    obtain ⟨a,ha,_⟩:=h1 0 x rfl 0 _ rfl
    cases ha
  subst hl0
  exact (Am o (args:=[ck [] .void]) rfl (c1 some)).2 w vs N0 ν δ (Bp hg fun _=>by
   rw [hv];exact Rep.sl (X:=LL o) none n c ET.C (show List Cl from []) .void val hl hc rfl h1 h2)
 |some a=>
  refine (Am o (args:=[ck l .sure]) rfl (out:= .ret (ck l .none) []) ((c2 l some).trans (by rw [hroom];rfl))).2 w vs N0 ν δ (Bp hg fun _=> ?_)
  rw [hv]
  exact Rep.sl (X:=LL o) (some a) n c ET.C l .sure val hl hc (fun h=>by cases h) h1 h2
theorem Uv {S:Type} (o:Obj) (ho:ae o) (vs:List PU) (bs:List (Box UU)) (κ:Out UU→Option S) (x:S) (h:yf vs bs κ=some x): ∃out,bS (LL o) NM vs bs out∧κ out=some x:=by
 unfold yf at h
 split at h
 case h_2=>cases h
 rename_i κ y
 unfold mF at h
 obtain ⟨u,hr,h⟩:=Option.bind_eq_some_iff.1 h
 exact ⟨_,LU o y hr,h⟩
end Go.Proofs.YtapmagaejigpnaaGreatDoor
namespace Go.Proofs.YtapmagaejigpnaaGreatDoor
open Go PI
set_option linter.unusedVariables false
set_option maxRecDepth 100000
noncomputable section
noncomputable def wz:Cs:=cc cT (cc cI cn)
noncomputable def sU:Cs:=cc cT (cc cT (cc lB cn))
noncomputable def OD:Cs:=cc cI (cc cI cn)
noncomputable def BH:Cs:=cc cT (cc cI (cc cI (cc (cp 0) cn)))
noncomputable def dP:Bs:=xI xn
noncomputable def OU:Cs:=cc cT (cc (cf 168 cn (cc (cp 0) cn)) cn)
noncomputable def O2:Cs:=cc cT (cc (cf 170 cn (cc (cp 0) cn)) cn)
noncomputable def Ib:Bs:=xc (cc (cf 169 cn (cc (cp 1) (cc (cp 0) cn))) cn) (xI xn)
noncomputable def Pa:Cs:=cc cT (cc (cp 0) (cc (cp 1) cn))
noncomputable def U6:Bs:=xI (xc (cc (cf 169 cn (cc (cp 0) (cc (cp 1) cn))) cn) xn)
noncomputable def sV:Cs:=cc cT cn
noncomputable def hZ:Cs:=cc cI cn
noncomputable def OC:Cs:=cc cs cn
noncomputable def wA:Cs:=cc cU cn
noncomputable def sW:Cs:=cc cC cn
noncomputable def BE:Cs:=cc cC (cc cC cn)
noncomputable def wB:Cs:=cc cC (cc (cp 0) cn)
noncomputable def pW:Bs:=xC xn
noncomputable def BF:Cs:=cc lC (cc (cf 149 cn (cc (cp 0) cn)) cn)
noncomputable def U1:Bs:=xc (cc lC cn) xn
noncomputable def gA:Cs:=cc lC cn
noncomputable def kh:Cs:=cc lC (cc lC cn)
noncomputable def sX:Cs:=cc cU (cc cI cn)
noncomputable def OE:Cs:=cc lC (cc cI cn)
noncomputable def BG:Cs:=cc lC (cc (cf 132 cn cn) cn)
noncomputable def sY:Cs:=cc cT (cc cI (cc cI cn))
noncomputable def OF:Cs:=cc cT (cc cI (cc cI (cc cb cn)))
noncomputable def OG:Cs:=cc cT (cc cI (cc cI (cc (cp 0) (cc (cp 1) (cc (cp 2) cn)))))
noncomputable def H8:Bs:=xI (xI (xc (cc cb cn) xn))
noncomputable def OH:Cs:=cc cT (cc (cf 129 cn (cc (cp 0) (cc (cp 1) (cc (cp 2) cn)))) cn)
noncomputable def OI:Cs:=cc (cp 0) (cc cI cn)
noncomputable def BI:Cs:=cc lT cn
noncomputable def OJ:Cs:=cc (cp 0) cn
noncomputable def BJ:Cs:=cc lF cn
noncomputable def OK:Cs:=cc cU (cc cI (cc cI cn))
noncomputable def OL:Cs:=cc cC (cc cI (cc cI cn))
noncomputable def OM:Cs:=cc hC (cc cC (cc (cp 0) (cc (cp 1) cn)))
noncomputable def uu:Bs:=xI (xI xn)
noncomputable def ON:Cs:=cc lC (cc hC (cc (cf 98 cn (cc (cp 0) (cc (cp 1) cn))) cn))
noncomputable def OO:Cs:=cc lC (cc cI (cc cI cn))
noncomputable def OP:Cs:=cc (cp 0) (cc lC cn)
noncomputable def OQ:Cs:=cc (cp 0) (cc lC (cc lC cn))
noncomputable def OR:Cs:=cc (cg (cc cI (cc cI cn))) (cc lC (cc cI cn))
noncomputable def OS:Cs:=cc (cg (cc cI (cc cI cn))) (cc cT (cc cI (cc cI cn)))
noncomputable def BL:Cs:=cc (cp 0) (cc (cp 1) (cc (cp 2) cn))
noncomputable def H9:Bs:=xI (xT (xI xn))
noncomputable def OT:Cs:=cc cT (cc lI (cc (cf 142 cn (cc (cp 0) (cc (cp 1) (cc (cp 2) cn)))) cn))
noncomputable def BM:Cs:=cc cT (cc cI (cc lC cn))
noncomputable def BN:Cs:=cc (cf 105 cn cn) (cc (cp 0) (cc (cp 1) cn))
noncomputable def pX:Bs:=xI (xc (cc lC cn) xn)
noncomputable def OV:Cs:=cc (cf 106 cn cn) (cc (cp 0) (cc (cp 1) cn))
noncomputable def OW:Cs:=cc cI (cc lC cn)
noncomputable def OX:Cs:=cc lC (cc (cf 200 cn cn) cn)
noncomputable def OY:Cs:=cc lC (cc (cf 201 cn (cc (cp 0) cn)) cn)
noncomputable def OZ:Cs:=cc lC (cc cC cn)
noncomputable def O0:Cs:=cc lC (cc lC (cc (cf 197 cn cn) cn))
noncomputable def BO:Cs:=cc lC (cc cI (cc lC cn))
noncomputable def wC:Cs:=cc lC (cc cI (cc (cp 0) (cc (cp 1) (cc (cp 2) cn))))
noncomputable def U2:Bs:=xI (xc (cc lC cn) (xc (cc (cf 106 cn cn) cn) xn))
noncomputable def O1:Cs:=cc lC (cc cC (cc (cp 0) (cc (cp 1) cn)))
noncomputable def O3:Cs:=cc lC (cc lC (cc (cf 154 cn (cc (cp 0) (cc (cp 1) cn))) cn))
noncomputable def H_:Bs:=xI (xc (cc lC cn) (xc (cc (cf 105 cn cn) cn) xn))
noncomputable def wD:Cs:=cc (cg (cc (cf 102 cn (cc (cp 0) (cc (cp 1) (cc (cp 2) cn)))) (cc (cf 102 cn (cc (cp 0) (cc (cp 1) (cc (cp 3) cn)))) cn))) (cc cT (cc cI cn))
noncomputable def zP:Bs:=xI (xc (cc lC cn) (xc (cc (cf 105 cn cn) cn) (xc (cc (cf 106 cn cn) cn) xn)))
noncomputable def BP:Cs:=cc cI (cc (cp 0) cn)
noncomputable def U3:Bs:=xT xn
noncomputable def BQ:Cs:=cc (cg (cc (cf 102 cn (cc (cp 0) (cc (cp 1) (cc (cp 2) cn)))) (cc (cf 102 cn (cc (cp 0) (cc (cp 1) (cc (cp 3) cn)))) cn))) (cc lT (cc cI (cc (cf 111 cn (cc (cp 4) cn)) cn)))
noncomputable def Ia:Bs:=xI (xc (cc lC cn) (xc (cc (cf 105 cn cn) cn) (xc (cc (cf 106 cn cn) cn) (xI xn))))
noncomputable def O4:Cs:=cc (cg (cc (cf 102 cn (cc (cp 0) (cc (cp 1) (cc (cp 2) cn)))) (cc (cf 102 cn (cc (cp 0) (cc (cp 1) (cc (cp 3) cn)))) cn))) (cc lT (cc cI (cc (cf 109 cn (cc (cp 4) cn)) cn)))
noncomputable def U4:Bs:=xI (xc (cc lC cn) (xc (cc (cf 105 cn cn) cn) (xc (cc (cf 106 cn cn) cn) (xT xn))))
noncomputable def O5:Cs:=cc lC (cc cI (cc (cp 0) cn))
noncomputable def BR:Cs:=cc (cg (cc (cf 112 cn (cc (cp 0) cn)) (cc (cf 112 cn (cc (cp 0) cn)) cn))) (cc cT (cc cI cn))
noncomputable def BS:Cs:=cc (cg (cc (cf 112 cn (cc (cp 0) cn)) (cc (cf 112 cn (cc (cp 0) cn)) cn))) (cc lT (cc cI (cc (cf 111 cn (cc (cp 1) cn)) cn)))
noncomputable def O6:Cs:=cc (cg (cc (cf 112 cn (cc (cp 0) cn)) (cc (cf 112 cn (cc (cp 0) cn)) cn))) (cc lT (cc cI (cc (cf 109 cn (cc (cp 1) cn)) cn)))
noncomputable def U5:Bs:=xI (xT xn)
noncomputable def O7:Cs:=cc (cp 0) (cc cT (cc lC cn))
noncomputable def Ic:Bs:=xI (xI (xT xn))
noncomputable def O8:Cs:=cc cT (cc lI (cc (cf 140 cn (cc (cp 0) (cc (cp 1) (cc (cp 2) cn)))) cn))
noncomputable def O9:Cs:=cc (cp 0) (cc cT (cc cI (cc cI cn)))
noncomputable def O_:Cs:=cc cI (cc lT cn)
noncomputable def wE:Cs:=cc (cp 0) (cc cT cn)
noncomputable def Pb:Cs:=cc cT (cc lC (cc cT (cc cC (cc lC cn))))
noncomputable def BT:Cs:=cc cT (cc lC (cc cT cn))
noncomputable def BU:Cs:=cc lB cn
noncomputable def Pc:Cs:=cc cT (cc cT cn)
noncomputable def Pd:Cs:=cc (cp 0) (cc cT (cc cT (cc cT (cc cT cn))))
noncomputable def Pe:Cs:=cc cT (cc cT (cc cT (cc cT cn)))
noncomputable def Pf:Cs:=cc cT (cc cT (cc lB (cc lC (cc cI (cc cI cn)))))
noncomputable def bm {S:Type} (κ:Out UU→Option S):Int→Option S:=fun r=>κ (.ret (iI r) [])
noncomputable def aI {S:Type} (κ:Out UU→Option S):Bool→Option S:=fun r=>κ (.ret (.bool r) [])
noncomputable def Sa {S:Type} (κ:Out UU→Option S):Int×Int→Option S:=fun r=>κ (.ret (.tuple [(iI r.1),(iI r.2)]) [])
noncomputable def ep {S:Type} (c0:Int) (κ:Out UU→Option S):Bool→Option S:=fun r=>κ (.ret (.bool r) [bI c0])
noncomputable def eP {S:Type} (κ:Out UU→Option S):Bool×Int→Option S:=fun r=>κ (.ret (.bool r.1) [.cells [(.func 169 [] [(pt 1),(pt 0)])],bI r.2])
noncomputable def Sp {S:Type} (κ:Out UU→Option S):Bool×Int→Option S:=fun r=>κ (.ret (.bool r.1) [bI r.2,.cells [(.func 169 [] [(pt 0),(pt 1)])]])
noncomputable def Su {S:Type} (κ:Out UU→Option S):Cl→Option S:=fun r=>κ (.ret (aC r) [])
noncomputable def Dy {S:Type} (c0:Cl) (κ:Out UU→Option S):Bool→Option S:=fun r=>κ (.ret (.bool r) [bC c0])
noncomputable def tM {S:Type} (c0:Cl) (κ:Out UU→Option S):Int→Option S:=fun r=>κ (.ret (iI r) [bC c0])
noncomputable def Sv {S:Type} (c0:List Cl) (κ:Out UU→Option S):Bool→Option S:=fun r=>κ (.ret (.bool r) [.cells [(sC c0)]])
noncomputable def aY {S:Type} (κ:Out UU→Option S):List Cl×Int→Option S:=fun r=>κ (.ret (.tuple [(sC r.1),(iI r.2)]) [])
noncomputable def jC {S:Type} (κ:Out UU→Option S):Int→Option S:=fun r=>κ (.ret (iU r) [])
noncomputable def eO {S:Type} (c0 c1:Int) (c2:Bool) (κ:Out UU→Option S):Bool→Option S:=fun r=>κ (.ret (.bool r) [bI c0,bI c1,.cells [(.bool c2)]])
noncomputable def R6 {S:Type} (κ:Out UU→Option S):Int→Option S:=fun r=>κ (.ret (.tuple []) [bI r])
noncomputable def tw {S:Type} (κ:Out UU→Option S):Int→Option S:=fun r=>κ (.ret (pt 0) [bI r])
noncomputable def R7 {S:Type} (κ:Out UU→Option S):List Cl→Option S:=fun r=>κ (.ret (wj r) [])
noncomputable def R8 {S:Type} (κ:Out UU→Option S):Int×Int→Option S:=fun r=>κ (.ret (.tuple [(iU r.1),(iI r.2)]) [])
noncomputable def R9 {S:Type} (κ:Out UU→Option S):Cl×Int→Option S:=fun r=>κ (.ret (.tuple [(aC r.1),(iI r.2)]) [])
noncomputable def R_ {S:Type} (c0 c1:Int) (κ:Out UU→Option S):List Cl×Int→Option S:=fun r=>κ (.ret (.tuple [(wj r.1),(iI r.2)]) [bI c0,bI c1])
noncomputable def tz {S:Type} (c0 c1:Int) (κ:Out UU→Option S):List Cl×Int→Option S:=fun r=>κ (.ret (.tuple [(sC r.1),(iI r.2)]) [bI c0,bI c1])
noncomputable def Du {S:Type} (κ:Out UU→Option S):List Cl×Int→Option S:=fun r=>κ (.ret (sC r.1) [bI r.2])
noncomputable def Sb {S:Type} (κ:Out UU→Option S):Pan Int (List Cl)→Option S:=fun r=>Pan.elim r (fun r=>κ (.ret (sC r) [])) (fun e=>κ (.panic (.iface 29 (iI e)) []))
noncomputable def dJ {S:Type} (κ:Out UU→Option S):Pan Int Tm→Option S:=fun r=>Pan.elim r (fun r=>κ (.ret (aT r) [])) (fun e=>κ (.panic (.iface 29 (iI e)) []))
noncomputable def Sc {S:Type} (c0:Int) (c1:Tm) (c2:Int) (κ:Out UU→Option S):Pan Int Tm→Option S:=fun r=>Pan.elim r (fun r=>κ (.ret (aT r) [bI c0,bT c1,bI c2])) (fun e=>κ (.panic (.iface 29 (iI e)) [bI c0,bT c1,bI c2]))
noncomputable def tA {S:Type} (c0:Int) (c1:Tm) (c2:Int) (κ:Out UU→Option S):Tm×Int→Option S:=fun r=>κ (.ret (.tuple [(aT r.1),(iI r.2)]) [bI c0,bT c1,bI c2])
noncomputable def dK {S:Type} (κ:Out UU→Option S):Tm×Int→Option S:=fun r=>κ (.ret (.tuple [(aT r.1),(iI r.2)]) [])
noncomputable def Sd {S:Type} (c0:Int) (c1:List Cl) (κ:Out UU→Option S):Unit→Option S:=fun r=>κ (.ret (.func 102 [] [(pt 0),(pt 1),(pt 2)]) [bI c0,.cells [(sC c1)],.cells [(.func 105 [] [])]])
noncomputable def Se {S:Type} (c0:Int) (c1:List Cl) (κ:Out UU→Option S):Unit→Option S:=fun r=>κ (.ret (.func 102 [] [(pt 0),(pt 1),(pt 2)]) [bI c0,.cells [(sC c1)],.cells [(.func 106 [] [])]])
noncomputable def Sf {S:Type} (κ:Out UU→Option S):Int×List Cl→Option S:=fun r=>κ (.ret (.agg [(.func 102 [] [(pt 0),(pt 1),(pt 2)]),(.func 102 [] [(pt 0),(pt 1),(pt 3)])]) [bI r.1,.cells [(sC r.2)],.cells [(.func 105 [] [])],.cells [(.func 106 [] [])]])
noncomputable def mH {S:Type} (κ:Out UU→Option S):List Cl→Option S:=fun r=>κ (.ret (sC r) [])
noncomputable def Sg {S:Type} (κ:Out UU→Option S):Cl×Bool→Option S:=fun r=>κ (.ret (.tuple [(aC r.1),(.bool r.2)]) [])
noncomputable def Sh {S:Type} (c0:Cl) (κ:Out UU→Option S):Cl×Bool→Option S:=fun r=>κ (.ret (.tuple [(aC r.1),(.bool r.2)]) [bC c0])
noncomputable def tB {S:Type} (c0:Cl) (κ:Out UU→Option S):List Cl→Option S:=fun r=>κ (.ret (sC r) [bC c0])
noncomputable def Si {S:Type} (c0:Int) (c1:List Cl) (κ:Out UU→Option S):List Cl×Int→Option S:=fun r=>κ (.ret (.tuple [(sC r.1),(iI r.2)]) [bI c0,.cells [(sC c1)],.cells [(.func 106 [] [])]])
noncomputable def pi {S:Type} (c0:Int) (c1:List Cl) (κ:Out UU→Option S):List Cl×Int→Option S:=fun r=>κ (.ret (.tuple [(sC r.1),(iI r.2)]) [bI c0,.cells [(sC c1)]])
noncomputable def Sj {S:Type} (c0:Int) (c1:List Cl) (κ:Out UU→Option S):List Cl×Int→Option S:=fun r=>κ (.ret (.tuple [(sC r.1),(iI r.2)]) [bI c0,.cells [(sC c1)],.cells [(.func 105 [] [])]])
noncomputable def Sk {S:Type} (c0:Int) (c1:List Cl) (κ:Out UU→Option S):List Cl×Int→Option S:=fun r=>κ (.ret (.tuple [(sC r.1),(iI r.2)]) [bI c0,.cells [(sC c1)],.cells [(.func 105 [] [])],.cells [(.func 106 [] [])]])
noncomputable def Sl {S:Type} (c0:Tm) (κ:Out UU→Option S):Int→Option S:=fun r=>κ (.ret (iI r) [bT c0])
noncomputable def Sm {S:Type} (c0:Int) (κ:Out UU→Option S):Int→Option S:=fun r=>κ (.ret (iI r) [bI c0])
noncomputable def tC {S:Type} (c0:Int) (c1:List Cl) (κ:Out UU→Option S):Tm×Int→Option S:=fun r=>κ (.ret (.tuple [(aT r.1),(iI r.2)]) [bI c0,.cells [(sC c1)],.cells [(.func 105 [] [])],.cells [(.func 106 [] [])]])
noncomputable def tD {S:Type} (c0:Int) (c1:List Cl) (c4:Int) (κ:Out UU→Option S):List Tm×Int→Option S:=fun r=>κ (.ret (.tuple [(sT r.1),(iI r.2)]) [bI c0,.cells [(sC c1)],.cells [(.func 105 [] [])],.cells [(.func 106 [] [])],bI c4])
noncomputable def tF {S:Type} (c0:Int) (c1:List Cl) (c4:Tm) (κ:Out UU→Option S):List Tm×Int→Option S:=fun r=>κ (.ret (.tuple [(sT r.1),(iI r.2)]) [bI c0,.cells [(sC c1)],.cells [(.func 105 [] [])],.cells [(.func 106 [] [])],bT c4])
noncomputable def Sn {S:Type} (κ:Out UU→Option S):Int→Option S:=fun r=>κ (.ret (.agg [(.func 112 [] [(pt 0)]),(.func 112 [] [(pt 0)])]) [bI r])
noncomputable def pj {S:Type} (c0:Int) (κ:Out UU→Option S):List Cl×Int→Option S:=fun r=>κ (.ret (.tuple [(sC r.1),(iI r.2)]) [bI c0])
noncomputable def tG {S:Type} (c0:Int) (κ:Out UU→Option S):Tm×Int→Option S:=fun r=>κ (.ret (.tuple [(aT r.1),(iI r.2)]) [bI c0])
noncomputable def tH {S:Type} (c0 c1:Int) (κ:Out UU→Option S):List Tm×Int→Option S:=fun r=>κ (.ret (.tuple [(sT r.1),(iI r.2)]) [bI c0,bI c1])
noncomputable def tI {S:Type} (c0:Int) (c1:Tm) (κ:Out UU→Option S):List Tm×Int→Option S:=fun r=>κ (.ret (.tuple [(sT r.1),(iI r.2)]) [bI c0,bT c1])
noncomputable def xt {S:Type} (κ:Out UU→Option S):Tm×Int→Option S:=fun r=>κ (.ret (aT r.1) [bI r.2])
noncomputable def So {S:Type} (c0 c1:Int) (c2:Tm) (κ:Out UU→Option S):Pan Int Tm→Option S:=fun r=>Pan.elim r (fun r=>κ (.ret (aT r) [bI c0,bI c1,bT c2])) (fun e=>κ (.panic (.iface 29 (iI e)) [bI c0,bI c1,bT c2]))
noncomputable def tJ {S:Type} (c0 c1:Int) (c2:Tm) (κ:Out UU→Option S):Tm×Int→Option S:=fun r=>κ (.ret (.tuple [(aT r.1),(iI r.2)]) [bI c0,bI c1,bT c2])
noncomputable def Dv {S:Type} (κ:Out UU→Option S):Int×Int×ByteArray×List Tm→Option S:=fun r=>κ (.ret (.agg [(iI r.1),(iI r.2.1),(.str r.2.2.1),(ck [] .nil),(sT r.2.2.2),(ez [] .nil)]) [])
noncomputable def Sq {S:Type} (κ:Out UU→Option S):Tm×Int×Int→Option S:=fun r=>κ (.ret (.tuple [(aT r.1),(iI r.2.1)]) [bI r.2.2])
noncomputable def Dw {S:Type} (κ:Out UU→Option S):Int×Int×ByteArray×List Tm×List (Br Tm)→Option S:=fun r=>κ (.ret (.agg [(iI r.1),(iI r.2.1),(.str r.2.2.1),(ck [] .nil),(sT r.2.2.2.1),(sB r.2.2.2.2)]) [])
noncomputable def Sr {S:Type} (κ:Out UU→Option S):Int×Int×ByteArray→Option S:=fun r=>κ (.ret (.agg [(iI r.1),(iI r.2.1),(.str r.2.2),(ck [] .nil),(gO [] .nil),(ez [] .nil)]) [])
noncomputable def Ss {S:Type} (κ:Out UU→Option S):Int×Int×ByteArray×List Cl×List Tm→Option S:=fun r=>κ (.ret (.agg [(iI r.1),(iI r.2.1),(.str r.2.2.1),(sC r.2.2.2.1),(sT r.2.2.2.2),(ez [] .nil)]) [])
noncomputable def tK {S:Type} (κ:Out UU→Option S):Tm→Option S:=fun r=>κ (.ret (aT r) [])
noncomputable def tL {S:Type} (κ:Out UU→Option S):List Tm→Option S:=fun r=>κ (.ret (sT r) [])
noncomputable def Dx {S:Type} (κ:Out UU→Option S):Int×Int×ByteArray×List Tm×Int→Option S:=fun r=>κ (.ret (.agg [(iI r.1),(iI r.2.1),(.str r.2.2.1),(ck [] .nil),(sT r.2.2.2.1),(ez [] .nil)]) [bI r.2.2.2.2])
end
end Go.Proofs.YtapmagaejigpnaaGreatDoor
namespace Go.Proofs.YtapmagaejigpnaaGreatDoor
open Go PI
set_option linter.unusedVariables false
set_option maxRecDepth 100000
noncomputable section
def xu {S:Type} (hd:fF S):Rw S:=af wz xn fun t most κ=>hd t most (bm κ)
def jN {S:Type} (hd:fF S) (k:Nat):Fx S:=fp 119 [(40,xu hd)] [(5,bG [1,2,5,6] [(2,6)],aE 6 23),(9,bG [1,2,5,7] [(2,6)],aE 7 47),(15,bG [1,2,5,7,8] [(2,6)],aE 15 14639)] k Tryz.f40 0
def wW (t:Tm) (most:Int) (v5 i6:Int):St UU:=⟨[(1,(iI most)),(2,(pt 2)),(5,(iI v5)),(6,(iI i6))],[(2,bT t)],[],[]⟩
def oQ (t:Tm) (most:Int) (v5' i7:Int):St UU:=⟨[(1,(iI most)),(2,(pt 2)),(5,(iI v5')),(7,(iI i7))],[(2,bT t)],[],[]⟩
def Ce (t:Tm) (most i7:Int) (v5'' v8:Int):St UU:=⟨[(1,(iI most)),(2,(pt 2)),(5,(iI v5'')),(7,(iI i7)),(8,(iI v8))],[(2,bT t)],[],[]⟩
section
variable {S:Type} (hd:fF S) (k:Nat) (t:Tm) (most:Int) (κ:Out UU→Option S)
theorem J5 (i7 κ1): ∀n v5'' v8,(jN hd k).lp κ 15 [κ1] n (Ce t most i7 v5'' v8)=ie hd k (bm κ) (fun v5' i7=>κ1 (oQ t most v5' i7)) t most i7 n v5'' v8:=bL (qN hd k (bm κ) t most i7 (fun v5' i7=>κ1 (oQ t most v5' i7))) rfl (fun _=>rfl) fun r v5'' v8=>by kernel_rfl
theorem JZ: ∀n v5' i7,(jN hd k).lp κ 9 [] n (oQ t most v5' i7)=gC hd k (bm κ) t most n v5' i7:=bL (fun own=>nD hd k (bm κ) t most (fun i7 v5'' v8=>ie hd k (bm κ) own t most i7 k v5'' v8) own) rfl (fun _=>rfl) fun r v5' i7=>Eq.trans (b:=nD hd k (bm κ) t most (fun i7 v5'' v8=>(jN hd k).lp κ 15 [r] k (Ce t most i7 v5'' v8)) (fun v5' i7=>r (oQ t most v5' i7)) v5' i7) (by kernel_rfl) (by simp only [J5])
theorem JY: ∀n v5 i6,(jN hd k).lp κ 5 [] n (wW t most v5 i6)=kr hd k (bm κ) t most n v5 i6:=bL (fun own=>nC hd k (bm κ) t most (fun v5' i7=>gC hd k (bm κ) t most k v5' i7) own) rfl (fun _=>rfl) fun r v5 i6=>Eq.trans (b:=nC hd k (bm κ) t most (fun v5' i7=>(jN hd k).lp κ 9 [] k (oQ t most v5' i7)) (fun v5 i6=>r (wW t most v5 i6)) v5 i6) (by kernel_rfl) (by simp only [JZ])
end
theorem Bq {S:Type} (o:Obj) (ho:ae o): ∀k:Nat,Tl o 40 (xu (du k:fF S))
 |0=>iC fun t most κ x h=>by cases h
 |k+1=>ai (jN (du k) k) ⟨Bq o ho k,trivial⟩ Tryz.func40 (by kernel_rfl) fun t most κ x h=>Eq.trans (b:=zo (du k) k (bm κ) (fun v5 i6=>(jN (du k) k).lp κ 5 [] k (wW t most v5 i6)) t most) (by kernel_rfl) (Eq.trans (by simp only [JY];rfl) h)
def Dz {S:Type} (k:Nat):Rw S:=af sU xn fun a b sys κ=>aa k (n9 k a b sys) (aI κ)
def Ii {S:Type} (k:Nat):Fx S:=fp 21 [(40,xu (du k))] [] k Tryz.f9 0
theorem Mg {S:Type} (o:Obj) (ho:ae o) (k:Nat):Tl o 9 (Dz k:Rw S):=ai (Ii k) ⟨Bq o ho k,trivial⟩ Tryz.func9 (by kernel_rfl) fun a b sys κ x h=>Eq.trans (by kernel_rfl) (ak h)
def kP {S:Type} (k:Nat):Rw S:=af OD xn fun kind kid κ=>aa k (gZ k kind kid) (Sa κ)
def IK {S:Type} (k:Nat):Fx S:=fp 26 [] [] k Tryz.f110 0
theorem lJ {S:Type} (o:Obj) (ho:ae o) (k:Nat):Tl o 110 (kP k:Rw S):=ai (IK k) trivial Tryz.func110 (by kernel_rfl) fun kind kid κ x h=>Eq.trans (by kernel_rfl) (ak h)
def pn {S:Type} (hd:cM S):Rw S:=af wz xn fun t left κ=>hd t left (aI κ)
def Eb {S:Type} (hd:cM S) (k:Nat):Rw S:=af BH dP fun a_k p p' c0 κ=>aa k (oi hd k a_k p p' c0) (ep c0 κ)
def I6 {S:Type} (hd:cM S) (k:Nat):Fx S:=fp 12 [(125,pn hd)] [] k Tryz.f168 1
theorem MS {S:Type} (o:Obj) (ho:ae o) (hd:cM S) (Hd:Tl o 125 (pn hd)) (k:Nat):Tl o 168 (Eb hd k:Rw S):=ai (I6 hd k) ⟨Hd,trivial⟩ Tryz.func168 (by kernel_rfl) fun a_k p p' c0 κ x h=>Eq.trans (by kernel_rfl) (ak h)
def Eg {S:Type} (hd:cM S) (k:Nat):Rw S:=af OU dP fun t c0 κ=>aa k (vT hd k t c0) (ep c0 κ)
def jQ {S:Type} (hd:cM S) (k:Nat):Fx S:=fp 60 [(110,kP k),(168,Eb hd k)] [(2,bG [1,2,15,16,17] [(2,6),(1000000,1)],aE 4 5),(12,bG [1,9,40,41,42] [(1000000,1)],aE 7 47),(15,bG [1,9,40,41,42,47,48,49] [(1000000,1)],aE 15 13103)] k Tryz.f128 1
def w6 (c0:Int) (t:Tm) (v17:Int):St UU:=⟨[(1,(.func 168 [] [(pt 1000000)])),(2,(pt 2)),(15,(sT t.kids)),(16,(.int .i64 (t.kids.length:Int))),(17,(iI v17))],[(2,bT t),(1000000,bI c0)],[],[]⟩
def oV (c0:Int) (t:Tm) (v42 more9:Int):St UU:=⟨[(1,(.func 168 [] [(pt 1000000)])),(9,(iI more9)),(40,(sB t.sys)),(41,(.int .i64 (t.sys.length:Int))),(42,(iI v42))],[(1000000,bI c0)],[],[]⟩
def CN (c0:Int) (t:Tm) (v42:Int) (x4:(Br Tm)) (more9:Int) (v49:Int):St UU:=⟨[(1,(.func 168 [] [(pt 1000000)])),(9,(iI more9)),(40,(sB t.sys)),(41,(.int .i64 (t.sys.length:Int))),(42,(iI v42)),(47,(sT x4.kids)),(48,(.int .i64 (x4.kids.length:Int))),(49,(iI v49))],[(1000000,bI c0)],[],[]⟩
section
variable {S:Type} (hd:cM S) (k:Nat) (t:Tm) (c0:Int) (κ:Out UU→Option S)
theorem KN (v42 x4 more9 κ1): ∀n v49,(jQ hd k).lp κ 15 [κ1] n (CN c0 t v42 x4 more9 v49)=jv hd k (ep c0 κ) (fun v42 more9=>κ1 (oV c0 t v42 more9)) c0 t v42 x4 more9 n v49:=eh (qV hd k (ep c0 κ) c0 t v42 x4 more9 (fun v42 more9=>κ1 (oV c0 t v42 more9))) rfl (fun _=>rfl) fun r v49=>by kernel_rfl
theorem KM: ∀n v42 more9,(jQ hd k).lp κ 12 [] n (oV c0 t v42 more9)=fR hd k (ep c0 κ) c0 t n v42 more9:=bL (fun own=>nJ hd k (ep c0 κ) c0 t (fun v42 x4 more9 v49=>jv hd k (ep c0 κ) own c0 t v42 x4 more9 k v49) own) rfl (fun _=>rfl) fun r v42 more9=>Eq.trans (b:=nJ hd k (ep c0 κ) c0 t (fun v42 x4 more9 v49=>(jQ hd k).lp κ 15 [r] k (CN c0 t v42 x4 more9 v49)) (fun v42 more9=>r (oV c0 t v42 more9)) v42 more9) (by kernel_rfl) (by simp only [KN])
theorem KL: ∀n v17,(jQ hd k).lp κ 2 [] n (w6 c0 t v17)=mo hd k (ep c0 κ) c0 t n v17:=eh (fun own=>nI hd k (ep c0 κ) c0 t (fun v42 more9=>fR hd k (ep c0 κ) c0 t k v42 more9) own) rfl (fun _=>rfl) fun r v17=>Eq.trans (b:=nI hd k (ep c0 κ) c0 t (fun v42 more9=>(jQ hd k).lp κ 12 [] k (oV c0 t v42 more9)) (fun v17=>r (w6 c0 t v17)) v17) (by kernel_rfl) (by simp only [KM])
end
theorem MX {S:Type} (o:Obj) (ho:ae o) (hd:cM S) (Hd:Tl o 125 (pn hd)) (k:Nat):Tl o 128 (Eg hd k:Rw S):=ai (jQ hd k) ⟨lJ o ho k,MS o ho hd Hd k,trivial⟩ Tryz.func128 (by kernel_rfl) fun t c0 κ x h=>Eq.trans (b:=zy hd k (ep c0 κ) (fun v17=>(jQ hd k).lp κ 2 [] k (w6 c0 t v17)) t c0) (by kernel_rfl) (Eq.trans (by simp only [KL];rfl) (ak h))
def IZ {S:Type} (hd:cM S) (k:Nat):Fx S:=fp 12 [(128,Eg hd k)] [] k Tryz.f125 0
theorem Bu {S:Type} (o:Obj) (ho:ae o): ∀k:Nat,Tl o 125 (pn (gu k:cM S))
 |0=>iC fun t left κ x h=>by cases h
 |k+1=>ai (IZ (gu k) k) ⟨MX o ho (gu k) (Bu o ho k) k,trivial⟩ Tryz.func125 (by kernel_rfl) fun t left κ x h=>Eq.trans (by kernel_rfl) h
def tT {S:Type} (hd:cL S):Rw S:=af O2 Ib fun t c1 κ=>hd t c1 (eP κ)
def xP {S:Type} (hd:cL S) (k:Nat):Rw S:=af Pa U6 fun t c0 κ=>aa k (lA hd k t c0) (Sp κ)
def Jv {S:Type} (hd:cL S) (k:Nat):Fx S:=fp 14 [(128,tT hd)] [] k Tryz.f169 2
theorem AT {S:Type} (o:Obj) (ho:ae o) (hd:cL S) (Hd:Tl o 128 (tT hd)) (k:Nat):Tl o 169 (xP hd k:Rw S):=ai (Jv hd k) ⟨Hd,trivial⟩ Tryz.func169 (by kernel_rfl) fun t c0 κ x h=>Eq.trans (by kernel_rfl) (ak h)
def EF {S:Type} (hd:cL S) (k:Nat):Rw S:=af BH Ib fun a_k p p' c1 κ=>aa k (ol hd k a_k p p' c1) (eP κ)
def JB {S:Type} (hd:cL S) (k:Nat):Fx S:=fp 11 [(169,xP hd k)] [] k Tryz.f170 2
theorem Ni {S:Type} (o:Obj) (ho:ae o) (hd:cL S) (Hd:Tl o 128 (tT hd)) (k:Nat):Tl o 170 (EF hd k:Rw S):=ai (JB hd k) ⟨AT o ho hd Hd k,trivial⟩ Tryz.func170 (by kernel_rfl) fun a_k p p' c1 κ x h=>Eq.trans (by kernel_rfl) (ak h)
def jR {S:Type} (hd:cL S) (k:Nat):Fx S:=fp 60 [(110,kP k),(170,EF hd k)] [(2,bG [1,2,15,16,17] [(2,6),(1000000,1),(1000001,1)],aE 4 5),(12,bG [1,9,40,41,42] [(1000000,1),(1000001,1)],aE 7 47),(15,bG [1,9,40,41,42,47,48,49] [(1000000,1),(1000001,1)],aE 15 13103)] k Tryz.f128 2
def w7 (t:Tm) (e1_0 v17:Int):St UU:=⟨[(1,(.func 170 [] [(pt 1000000)])),(2,(pt 2)),(15,(sT t.kids)),(16,(.int .i64 (t.kids.length:Int))),(17,(iI v17))],[(2,bT t),(1000000,.cells [(.func 169 [] [(pt 1000001),(pt 1000000)])]),(1000001,bI e1_0)],[],[]⟩
def oW (t:Tm) (e1_0' v42 more9:Int):St UU:=⟨[(1,(.func 170 [] [(pt 1000000)])),(9,(iI more9)),(40,(sB t.sys)),(41,(.int .i64 (t.sys.length:Int))),(42,(iI v42))],[(1000000,.cells [(.func 169 [] [(pt 1000001),(pt 1000000)])]),(1000001,bI e1_0')],[],[]⟩
def CO (t:Tm) (v42:Int) (x4:(Br Tm)) (more9:Int) (e1_0'' v49:Int):St UU:=⟨[(1,(.func 170 [] [(pt 1000000)])),(9,(iI more9)),(40,(sB t.sys)),(41,(.int .i64 (t.sys.length:Int))),(42,(iI v42)),(47,(sT x4.kids)),(48,(.int .i64 (x4.kids.length:Int))),(49,(iI v49))],[(1000000,.cells [(.func 169 [] [(pt 1000001),(pt 1000000)])]),(1000001,bI e1_0'')],[],[]⟩
section
variable {S:Type} (hd:cL S) (k:Nat) (t:Tm) (c1:Int) (κ:Out UU→Option S)
theorem KQ (v42 x4 more9 κ1): ∀n e1_0'' v49,(jR hd k).lp κ 15 [κ1] n (CO t v42 x4 more9 e1_0'' v49)=fP hd k (eP κ) (fun e1_0' v42 more9=>κ1 (oW t e1_0' v42 more9)) t v42 x4 more9 n e1_0'' v49:=bL (qT hd k (eP κ) t v42 x4 more9 (fun e1_0' v42 more9=>κ1 (oW t e1_0' v42 more9))) rfl (fun _=>rfl) fun r e1_0'' v49=>by kernel_rfl
theorem KP: ∀n e1_0' v42 more9,(jR hd k).lp κ 12 [] n (oW t e1_0' v42 more9)=eJ hd k (eP κ) t n e1_0' v42 more9:=kC (fun own=>nF hd k (eP κ) t (fun v42 x4 more9 e1_0'' v49=>fP hd k (eP κ) own t v42 x4 more9 k e1_0'' v49) own) rfl (fun _=>rfl) fun r e1_0' v42 more9=>Eq.trans (b:=nF hd k (eP κ) t (fun v42 x4 more9 e1_0'' v49=>(jR hd k).lp κ 15 [r] k (CO t v42 x4 more9 e1_0'' v49)) (fun e1_0' v42 more9=>r (oW t e1_0' v42 more9)) e1_0' v42 more9) (by kernel_rfl) (by simp only [KQ])
theorem KO: ∀n e1_0 v17,(jR hd k).lp κ 2 [] n (w7 t e1_0 v17)=ku hd k (eP κ) t n e1_0 v17:=bL (fun own=>nE hd k (eP κ) t (fun e1_0' v42 more9=>eJ hd k (eP κ) t k e1_0' v42 more9) own) rfl (fun _=>rfl) fun r e1_0 v17=>Eq.trans (b:=nE hd k (eP κ) t (fun e1_0' v42 more9=>(jR hd k).lp κ 12 [] k (oW t e1_0' v42 more9)) (fun e1_0 v17=>r (w7 t e1_0 v17)) e1_0 v17) (by kernel_rfl) (by simp only [KP])
end
theorem Bv {S:Type} (o:Obj) (ho:ae o): ∀k:Nat,Tl o 128 (tT (d9 k:cL S))
 |0=>iC fun t c1 κ x h=>by cases h
 |k+1=>ai (jR (d9 k) k) ⟨lJ o ho k,Ni o ho (d9 k) (Bv o ho k) k,trivial⟩ Tryz.func128 (by kernel_rfl) fun t c1 κ x h=>Eq.trans (b:=zw (d9 k) k (eP κ) (fun e1_0 v17=>(jR (d9 k) k).lp κ 2 [] k (w7 t e1_0 v17)) t c1) (by kernel_rfl) (Eq.trans (by simp only [KO];rfl) h)
def EQ {S:Type} (k:Nat):Rw S:=af wz xn fun t most κ=>aa k (sb k t most) (aI κ)
def JJ {S:Type} (k:Nat):Fx S:=fp 10 [(169,xP (d9 k) k)] [] k Tryz.f126 0
theorem Ns {S:Type} (o:Obj) (ho:ae o) (k:Nat):Tl o 126 (EQ k:Rw S):=ai (JJ k) ⟨AT o ho (d9 k) (Bv o ho k) k,trivial⟩ Tryz.func126 (by kernel_rfl) fun t most κ x h=>Eq.trans (by kernel_rfl) (ak h)
def xv {S:Type} (k:Nat):Rw S:=af sV xn fun t κ=>aa k (oj k t) (bm κ)
def Ij {S:Type} (k:Nat):Fx S:=fp 11 [(125,pn (gu k)),(126,EQ k)] [] k Tryz.f80 0
theorem AC {S:Type} (o:Obj) (ho:ae o) (k:Nat):Tl o 80 (xv k:Rw S):=ai (Ij k) ⟨Bu o ho k,Ns o ho k,trivial⟩ Tryz.func80 (by kernel_rfl) fun t κ x h=>Eq.trans (by kernel_rfl) (ak h)
def DG {S:Type} (k:Nat):Rw S:=af hZ xn fun kind κ=>aa k (rZ k kind) (bm κ)
def Iq {S:Type} (k:Nat):Fx S:=fp 38 [] [] k Tryz.f171 0
theorem Mn {S:Type} (o:Obj) (ho:ae o) (k:Nat):Tl o 171 (DG k:Rw S):=ai (Iq k) trivial Tryz.func171 (by kernel_rfl) fun kind κ x h=>Eq.trans (by kernel_rfl) (ak h)
def DJ {S:Type} (k:Nat):Rw S:=af hZ xn fun kind κ=>aa k (i9 k kind) (bm κ)
def Iz {S:Type} (k:Nat):Fx S:=fp 10 [] [] k Tryz.f172 0
theorem Mr {S:Type} (o:Obj) (ho:ae o) (k:Nat):Tl o 172 (DJ k:Rw S):=ai (Iz k) trivial Tryz.func172 (by kernel_rfl) fun kind κ x h=>Eq.trans (by kernel_rfl) (ak h)
def DM {S:Type} (k:Nat):Rw S:=af OC xn fun s κ=>aa k (sa k s) (aI κ)
def nf {S:Type} (k:Nat):Fx S:=fp 49 [] [(2,bG [0,7,8] [],aE 4 5),(1000006,bG [0,3,4,5,7,8] [],aE 12 3685)] k Tryz.f173 0
def oR (s:ByteArray) (v8:Int):St UU:=⟨[(0,(.str s)),(7,(.int .i64 (s.size:Int))),(8,(iI v8))],[],[],[]⟩
def Cn (s:ByteArray) (v8:Int) (x1:UInt8) (letter5:Bool):St UU:=⟨[(0,(.str s)),(3,(iI v8)),(4,(.int .u8 (x1.toNat:Int))),(5,(.bool letter5)),(7,(.int .i64 (s.size:Int))),(8,(iI v8))],[],[],[]⟩
section
variable {S:Type} (k:Nat) (s:ByteArray) (κ:Out UU→Option S)
theorem Kd (v8 x1 κ0): ∀n letter5,(nf k).jn κ 1000006 [κ0] n (Cn s v8 x1 letter5)=sZ k (aI κ) (fun v8=>κ0 (oR s v8)) s v8 x1 n letter5:=BC (vf k (aI κ) s v8 x1 (fun v8=>κ0 (oR s v8))) rfl (fun _=>rfl) (fun letter5=>by kernel_rfl)
theorem Kc: ∀n v8,(nf k).lp κ 2 [] n (oR s v8)=kx k (aI κ) s n v8:=eh (fun own=>nK k (aI κ) s (fun v8 x1 letter5=>sZ k (aI κ) own s v8 x1 k letter5) own) rfl (fun _=>rfl) fun r v8=>Eq.trans (b:=nK k (aI κ) s (fun v8 x1 letter5=>(nf k).jn κ 1000006 [r] k (Cn s v8 x1 letter5)) (fun v8=>r (oR s v8)) v8) (by kernel_rfl) (by simp only [Kd])
end
theorem Mu {S:Type} (o:Obj) (ho:ae o) (k:Nat):Tl o 173 (DM k:Rw S):=ai (nf k) trivial Tryz.func173 (by kernel_rfl) fun s κ x h=>Eq.trans (b:=zz k (aI κ) (fun v8=>(nf k).lp κ 2 [] k (oR s v8)) s) (by kernel_rfl) (Eq.trans (by simp only [Kc];rfl) (ak h))
def DN {S:Type} (k:Nat):Rw S:=af wA xn fun s κ=>aa k (ly k s) (aI κ)
def ID {S:Type} (k:Nat):Fx S:=fp 6 [] [] k Tryz.f192 0
theorem Mv {S:Type} (o:Obj) (ho:ae o) (k:Nat):Tl o 192 (DN k:Rw S):=ai (ID k) trivial Tryz.func192 (by kernel_rfl) fun s κ x h=>Eq.trans (by kernel_rfl) (ak h)
def xE {S:Type} (k:Nat):Rw S:=af sW xn fun c κ=>aa k (nV k c) (aI κ)
def IE {S:Type} (k:Nat):Fx S:=fp 11 [(192,DN k)] [] k Tryz.f146 0
theorem AK {S:Type} (o:Obj) (ho:ae o) (k:Nat):Tl o 146 (xE k:Rw S):=ai (IE k) ⟨Mv o ho k,trivial⟩ Tryz.func146 (by kernel_rfl) fun c κ x h=>Eq.trans (by kernel_rfl) (ak h)
def tO {S:Type} (k:Nat):Rw S:=af BE xn fun a b κ=>aa k (lq k a b) (Su κ)
def IF {S:Type} (k:Nat):Fx S:=fp 16 [] [] k Tryz.f193 0
theorem vY {S:Type} (o:Obj) (ho:ae o) (k:Nat):Tl o 193 (tO k:Rw S):=ai (IF k) trivial Tryz.func193 (by kernel_rfl) fun a b κ x h=>Eq.trans (by kernel_rfl) (ak h)
def DO {S:Type} (k:Nat):Rw S:=af BE xn fun a b κ=>aa k (rt k a b) (aI κ)
def IG {S:Type} (k:Nat):Fx S:=fp 10 [(193,tO k)] [] k Tryz.f150 0
theorem Mw {S:Type} (o:Obj) (ho:ae o) (k:Nat):Tl o 150 (DO k:Rw S):=ai (IG k) ⟨vY o ho k,trivial⟩ Tryz.func150 (by kernel_rfl) fun a b κ x h=>Eq.trans (by kernel_rfl) (ak h)
def DP {S:Type} (k:Nat):Rw S:=af wB pW fun d c0 κ=>aa k (ry k d c0) (Dy c0 κ)
def IH {S:Type} (k:Nat):Fx S:=fp 12 [(150,DO k)] [] k Tryz.f149 1
theorem Mx {S:Type} (o:Obj) (ho:ae o) (k:Nat):Tl o 149 (DP k:Rw S):=ai (IH k) ⟨Mw o ho k,trivial⟩ Tryz.func149 (by kernel_rfl) fun d c0 κ x h=>Eq.trans (by kernel_rfl) (ak h)
def DR {S:Type} (k:Nat):Rw S:=af BF pW fun s c0 κ=>aa k (vR k s c0) (tM c0 κ)
def uH {S:Type} (k:Nat):Fx S:=fp 19 [(149,DP k)] [(2,bG [0,1,7,8] [(1000000,2)],aE 4 5)] k Tryz.f175 1
def Cr (c0:Cl) (s:List Cl) (v8:Int):St UU:=⟨[(0,(sC s)),(1,(.func 149 [] [(pt 1000000)])),(7,(.int .i64 (s.length:Int))),(8,(iI v8))],[(1000000,bC c0)],[],[]⟩
section
variable {S:Type} (k:Nat) (s:List Cl) (c0:Cl) (κ:Out UU→Option S)
theorem Kh: ∀n v8,(uH k).lp κ 2 [] n (Cr c0 s v8)=mj k (tM c0 κ) c0 s n v8:=eh (qP k (tM c0 κ) c0 s) rfl (fun _=>rfl) fun r v8=>by kernel_rfl
end
theorem Mz {S:Type} (o:Obj) (ho:ae o) (k:Nat):Tl o 175 (DR k:Rw S):=ai (uH k) ⟨Mx o ho k,trivial⟩ Tryz.func175 (by kernel_rfl) fun s c0 κ x h=>Eq.trans (b:=zq k (tM c0 κ) (fun v8=>(uH k).lp κ 2 [] k (Cr c0 s v8)) s c0) (by kernel_rfl) (Eq.trans (by simp only [Kh];rfl) (ak h))
def DV {S:Type} (k:Nat):Rw S:=af BF pW fun s c0 κ=>aa k (vP k s c0) (Dy c0 κ)
def IL {S:Type} (k:Nat):Fx S:=fp 9 [(175,DR k)] [] k Tryz.f131 1
theorem MD {S:Type} (o:Obj) (ho:ae o) (k:Nat):Tl o 131 (DV k:Rw S):=ai (IL k) ⟨Mz o ho k,trivial⟩ Tryz.func131 (by kernel_rfl) fun s c0 κ x h=>Eq.trans (by kernel_rfl) (ak h)
def DX {S:Type} (k:Nat):Rw S:=af wB U1 fun c c0 κ=>aa k (rx k c c0) (Sv c0 κ)
def IP {S:Type} (k:Nat):Fx S:=fp 7 [(131,DV k)] [] k Tryz.f148 1
theorem MF {S:Type} (o:Obj) (ho:ae o) (k:Nat):Tl o 148 (DX k:Rw S):=ai (IP k) ⟨MD o ho k,trivial⟩ Tryz.func148 (by kernel_rfl) fun c c0 κ x h=>Eq.trans (by kernel_rfl) (ak h)
def gK {S:Type} (k:Nat):Rw S:=af gA xn fun l κ=>aa k (fc k l) (aY κ)
def ng {S:Type} (k:Nat):Fx S:=fx 55 (fun _=>[]) (fun|53=>true|_=>false) [(146,xE k),(148,DX k)] [(4,⟨[(4,.none),(5,.none),(13,.none),(14,.none),(15,.none)],[(5,[some (200320,true)]),(12,[])]⟩,aE 6 23),(15,⟨[(8,.none),(9,some (100009,true)),(34,.none),(35,.none),(36,.none)],[(5,[.none])]⟩,aE 9 191)] k Tryz.f100 false [] 0
def wY (l:List Cl) (b12_0:List (Cl×Bool)) (b5_0:List Cl) (v15:Int):St UU:=⟨[(4,(.mp 12)),(5,(pt 5)),(13,(sC l)),(14,(.int .i64 (l.length:Int))),(15,(iI v15))],[(5,.cells [(.own 200320 0)]),(12,.map ET.C b12_0)],[(200320,⟨0,ET.C,b5_0⟩)],[(200320,.wr)]⟩
def Cz (b5_0:List Cl) (v36:Int) (kept9:List Cl):St UU:=⟨[(8,(.func 148 [] [(pt 5)])),(9,(.own 100009 0)),(34,(sC b5_0)),(35,(.int .i64 (b5_0.length:Int))),(36,(iI v36))],[(5,.cells [(sC b5_0)])],[(100009,⟨0,ET.C,kept9⟩)],[(100009,.wr)]⟩
section
variable {S:Type} (k:Nat) (l:List Cl) (κ:Out UU→Option S)
theorem Ks (b5_0): ∀n v36 kept9,(ng k).lp κ 15 [] n (Cz b5_0 v36 kept9)=kj k (aY κ) b5_0 n v36 kept9:=bL (qf k (aY κ) b5_0) rfl (fun _=>rfl) fun r v36 kept9=>by kernel_rfl
theorem Kr: ∀n b12_0 b5_0 v15,(ng k).lp κ 4 [] n (wY l b12_0 b5_0 v15)=lU k (aY κ) l n b12_0 b5_0 v15:=kC (fun own=>nr k (aY κ) l (fun b5_0 v36 kept9=>kj k (aY κ) b5_0 k v36 kept9) own) rfl (fun _=>rfl) fun r b12_0 b5_0 v15=>Eq.trans (b:=nr k (aY κ) l (fun b5_0 v36 kept9=>(ng k).lp κ 15 [] k (Cz b5_0 v36 kept9)) (fun b12_0 b5_0 v15=>r (wY l b12_0 b5_0 v15)) b12_0 b5_0 v15) (by kernel_rfl) (by simp only [Ks])
end
theorem g5 {S:Type} (o:Obj) (ho:ae o) (k:Nat):Tl o 100 (gK k:Rw S):=ai (ng k) ⟨AK o ho k,MF o ho k,trivial⟩ Tryz.func100 (by kernel_rfl) fun l κ x h=>Eq.trans (b:=yN k (aY κ) (fun b12_0 b5_0 v15=>(ng k).lp κ 4 [] k (wY l b12_0 b5_0 v15)) l) (by kernel_rfl) (Eq.trans (by simp only [Kr];rfl) (ak h))
def D5 {S:Type} (k:Nat):Rw S:=af kh xn fun s1 s2 κ=>aa k (rY k s1 s2) (aI κ)
def uL {S:Type} (k:Nat):Fx S:=fp 26 [] [(4,bG [0,1,12,13] [],aE 5 11)] k Tryz.f145 0
def CA (s1 s2:List Cl) (v13:Int):St UU:=⟨[(0,(sC s1)),(1,(sC s2)),(12,(.int .i64 (s1.length:Int))),(13,(iI v13))],[],[],[]⟩
section
variable {S:Type} (k:Nat) (s1 s2:List Cl) (κ:Out UU→Option S)
theorem Kt: ∀n v13,(uL k).lp κ 4 [] n (CA s1 s2 v13)=mi k (aI κ) s1 s2 n v13:=eh (qO k (aI κ) s1 s2) rfl (fun _=>rfl) fun r v13=>by kernel_rfl
end
theorem MK {S:Type} (o:Obj) (ho:ae o) (k:Nat):Tl o 145 (D5 k:Rw S):=ai (uL k) trivial Tryz.func145 (by kernel_rfl) fun s1 s2 κ x h=>Eq.trans (b:=zp k (aI κ) (fun v13=>(uL k).lp κ 4 [] k (CA s1 s2 v13)) s1 s2) (by kernel_rfl) (Eq.trans (by simp only [Kt];rfl) (ak h))
def kQ {S:Type} (k:Nat):Rw S:=af gA xn fun f κ=>aa k (fJ k f) (aI κ)
def IU {S:Type} (k:Nat):Fx S:=fp 17 [(100,gK k),(145,D5 k)] [] k Tryz.f95 0
theorem lK {S:Type} (o:Obj) (ho:ae o) (k:Nat):Tl o 95 (kQ k:Rw S):=ai (IU k) ⟨g5 o ho k,MK o ho k,trivial⟩ Tryz.func95 (by kernel_rfl) fun f κ x h=>Eq.trans (by kernel_rfl) (ak h)
def pk {S:Type} (k:Nat):Rw S:=af hZ xn fun i κ=>aa k (j8 k i) (aI κ)
def IV {S:Type} (k:Nat):Fx S:=fp 9 [] [] k Tryz.f130 0
theorem sk {S:Type} (o:Obj) (ho:ae o) (k:Nat):Tl o 130 (pk k:Rw S):=ai (IV k) trivial Tryz.func130 (by kernel_rfl) fun i κ x h=>Eq.trans (by kernel_rfl) (ak h)
def tP {S:Type} (k:Nat):Rw S:=af sX xn fun s i κ=>aa k (gY k s i) (jC κ)
def IW {S:Type} (k:Nat):Fx S:=fp 16 [(130,pk k)] [] k Tryz.f82 0
theorem vZ {S:Type} (o:Obj) (ho:ae o) (k:Nat):Tl o 82 (tP k:Rw S):=ai (IW k) ⟨sk o ho k,trivial⟩ Tryz.func82 (by kernel_rfl) fun s i κ x h=>Eq.trans (by kernel_rfl) (ak h)
def pm {S:Type} (k:Nat):Rw S:=af gA xn fun f κ=>aa k (j6 k f) (jC κ)
def uM {S:Type} (k:Nat):Fx S:=fp 22 [(82,tP k)] [(3,bG [3,6,7,8] [],aE 5 11)] k Tryz.f38 0
def CB (f:List Cl) (s3 v8:Int):St UU:=⟨[(3,(iU s3)),(6,(sC f)),(7,(.int .i64 (f.length:Int))),(8,(iI v8))],[],[],[]⟩
section
variable {S:Type} (k:Nat) (f:List Cl) (κ:Out UU→Option S)
theorem Ku: ∀n s3 v8,(uM k).lp κ 3 [] n (CB f s3 v8)=l7 k (jC κ) f n s3 v8:=bL (qy k (jC κ) f) rfl (fun _=>rfl) fun r s3 v8=>by kernel_rfl
end
theorem sm {S:Type} (o:Obj) (ho:ae o) (k:Nat):Tl o 38 (pm k:Rw S):=ai (uM k) ⟨vZ o ho k,trivial⟩ Tryz.func38 (by kernel_rfl) fun f κ x h=>Eq.trans (b:=y9 k (jC κ) (fun s3 v8=>(uM k).lp κ 3 [] k (CB f s3 v8)) f) (by kernel_rfl) (Eq.trans (by simp only [Ku];rfl) (ak h))
def D6 {S:Type} (k:Nat):Rw S:=af OE xn fun f dims κ=>aa k (i_ k f dims) (aI κ)
def IX {S:Type} (k:Nat):Fx S:=fp 15 [(38,pm k)] [] k Tryz.f174 0
theorem ML {S:Type} (o:Obj) (ho:ae o) (k:Nat):Tl o 174 (D6 k:Rw S):=ai (IX k) ⟨sm o ho k,trivial⟩ Tryz.func174 (by kernel_rfl) fun f dims κ x h=>Eq.trans (by kernel_rfl) (ak h)
def xJ {S:Type} (k:Nat):Rw S:=af sW xn fun c κ=>aa k (nU k c) (aI κ)
def IY {S:Type} (k:Nat):Fx S:=fp 9 [] [] k Tryz.f132 0
theorem AN {S:Type} (o:Obj) (ho:ae o) (k:Nat):Tl o 132 (xJ k:Rw S):=ai (IY k) trivial Tryz.func132 (by kernel_rfl) fun c κ x h=>Eq.trans (by kernel_rfl) (ak h)
def D7 {S:Type} (k:Nat):Rw S:=af BG xn fun s κ=>aa k (vS k s) (bm κ)
def uN {S:Type} (k:Nat):Fx S:=fp 19 [(132,xJ k)] [(2,bG [0,1,7,8] [],aE 4 5)] k Tryz.f175 0
def CC (s:List Cl) (v8:Int):St UU:=⟨[(0,(sC s)),(1,(.func 132 [] [])),(7,(.int .i64 (s.length:Int))),(8,(iI v8))],[],[],[]⟩
section
variable {S:Type} (k:Nat) (s:List Cl) (κ:Out UU→Option S)
theorem Kv: ∀n v8,(uN k).lp κ 2 [] n (CC s v8)=ml k (bm κ) s n v8:=eh (qQ k (bm κ) s) rfl (fun _=>rfl) fun r v8=>by kernel_rfl
end
theorem MM {S:Type} (o:Obj) (ho:ae o) (k:Nat):Tl o 175 (D7 k:Rw S):=ai (uN k) ⟨AN o ho k,trivial⟩ Tryz.func175 (by kernel_rfl) fun s κ x h=>Eq.trans (b:=zr k (bm κ) (fun v8=>(uN k).lp κ 2 [] k (CC s v8)) s) (by kernel_rfl) (Eq.trans (by simp only [Kv];rfl) (ak h))
def D8 {S:Type} (k:Nat):Rw S:=af BG xn fun s κ=>aa k (vQ k s) (aI κ)
def I0 {S:Type} (k:Nat):Fx S:=fp 9 [(175,D7 k)] [] k Tryz.f131 0
theorem MN {S:Type} (o:Obj) (ho:ae o) (k:Nat):Tl o 131 (D8 k:Rw S):=ai (I0 k) ⟨MM o ho k,trivial⟩ Tryz.func131 (by kernel_rfl) fun s κ x h=>Eq.trans (by kernel_rfl) (ak h)
def po {S:Type} (k:Nat):Rw S:=af gA xn fun f κ=>aa k (iW k f) (aI κ)
def I1 {S:Type} (k:Nat):Fx S:=fp 10 [(95,kQ k),(131,D8 k)] [] k Tryz.f84 0
theorem sn {S:Type} (o:Obj) (ho:ae o) (k:Nat):Tl o 84 (po k:Rw S):=ai (I1 k) ⟨lK o ho k,MN o ho k,trivial⟩ Tryz.func84 (by kernel_rfl) fun f κ x h=>Eq.trans (by kernel_rfl) (ak h)
def D9 {S:Type} (k:Nat):Rw S:=af sY xn fun t vars dims κ=>aa k (oh k t vars dims) (aI κ)
def nh {S:Type} (k:Nat):Fx S:=fp 138 [(84,po k),(95,kQ k),(171,DG k),(172,DJ k),(173,DM k),(174,D6 k)] [(1000003,bG [1,2,3] [(3,6)],aE 2 3),(15,bG [2,3,107,108,109] [(3,6)],aE 6 23)] k Tryz.f127 0
def CD (t:Tm) (vars dims:Int):St UU:=⟨[(1,(iI vars)),(2,(iI dims)),(3,(pt 3))],[(3,bT t)],[],[]⟩
def CE (t:Tm) (dims:Int) (v109:Int):St UU:=⟨[(2,(iI dims)),(3,(pt 3)),(107,(sB t.sys)),(108,(.int .i64 (t.sys.length:Int))),(109,(iI v109))],[(3,bT t)],[],[]⟩
section
variable {S:Type} (k:Nat) (t:Tm) (vars dims:Int) (κ:Out UU→Option S)
theorem Kx: ∀n v109,(nh k).lp κ 15 [] n (CE t dims v109)=ig k (aI κ) t dims n v109:=eh (qW k (aI κ) t dims) rfl (fun _=>rfl) fun r v109=>by kernel_rfl
theorem Kw: ∀n,(nh k).jn κ 1000003 [] n (CD t vars dims)=s8 k (aI κ) t vars dims n:=lR (nL k (aI κ) t vars dims (fun v109=>ig k (aI κ) t dims k v109)) rfl (fun _=>rfl) (Eq.trans (b:=nL k (aI κ) t vars dims (fun v109=>(nh k).lp κ 15 [] k (CE t dims v109))) (by kernel_rfl) (by simp only [Kx]))
end
theorem MO {S:Type} (o:Obj) (ho:ae o) (k:Nat):Tl o 127 (D9 k:Rw S):=ai (nh k) ⟨sn o ho k,lK o ho k,Mn o ho k,Mr o ho k,Mu o ho k,ML o ho k,trivial⟩ Tryz.func127 (by kernel_rfl) fun t vars dims κ x h=>Eq.trans (b:=zA k (aI κ) ((nh k).jn κ 1000003 [] k (CD t vars dims)) t vars dims) (by kernel_rfl) (Eq.trans (by simp only [Kw];rfl) (ak h))
def mN {S:Type} (hd:cK S):Rw S:=af OF xn fun t vars dims bound κ=>hd t vars dims bound (aI κ)
def D_ {S:Type} (hd:cK S) (k:Nat):Rw S:=af OG H8 fun a_k v d c0 c1 c2 κ=>aa k (oe hd k a_k v d c0 c1 c2) (eO c0 c1 c2 κ)
def I3 {S:Type} (hd:cK S) (k:Nat):Fx S:=fp 21 [(81,mN hd)] [] k Tryz.f129 3
theorem MP {S:Type} (o:Obj) (ho:ae o) (hd:cK S) (Hd:Tl o 81 (mN hd)) (k:Nat):Tl o 129 (D_ hd k:Rw S):=ai (I3 hd k) ⟨Hd,trivial⟩ Tryz.func129 (by kernel_rfl) fun a_k v d c0 c1 c2 κ x h=>Eq.trans (by kernel_rfl) (ak h)
def Ea {S:Type} (hd:cK S) (k:Nat):Rw S:=af OH H8 fun t c0 c1 c2 κ=>aa k (r_ hd k t c0 c1 c2) (eO c0 c1 c2 κ)
def jP {S:Type} (hd:cK S) (k:Nat):Fx S:=fp 60 [(110,kP k),(129,D_ hd k)] [(2,bG [1,2,15,16,17] [(2,6),(1000000,1),(1000001,1),(1000002,1)],aE 4 5),(12,bG [1,9,40,41,42] [(1000000,1),(1000001,1),(1000002,1)],aE 7 47),(15,bG [1,9,40,41,42,47,48,49] [(1000000,1),(1000001,1),(1000002,1)],aE 15 13103)] k Tryz.f128 3
def wZ (c0 c1:Int) (c2:Bool) (t:Tm) (v17:Int):St UU:=⟨[(1,(.func 129 [] [(pt 1000000),(pt 1000001),(pt 1000002)])),(2,(pt 2)),(15,(sT t.kids)),(16,(.int .i64 (t.kids.length:Int))),(17,(iI v17))],[(2,bT t),(1000000,bI c0),(1000001,bI c1),(1000002,.cells [(.bool c2)])],[],[]⟩
def oT (c0 c1:Int) (c2:Bool) (t:Tm) (v42 more9:Int):St UU:=⟨[(1,(.func 129 [] [(pt 1000000),(pt 1000001),(pt 1000002)])),(9,(iI more9)),(40,(sB t.sys)),(41,(.int .i64 (t.sys.length:Int))),(42,(iI v42))],[(1000000,bI c0),(1000001,bI c1),(1000002,.cells [(.bool c2)])],[],[]⟩
def CF (c0 c1:Int) (c2:Bool) (t:Tm) (v42:Int) (x4:(Br Tm)) (more9:Int) (v49:Int):St UU:=⟨[(1,(.func 129 [] [(pt 1000000),(pt 1000001),(pt 1000002)])),(9,(iI more9)),(40,(sB t.sys)),(41,(.int .i64 (t.sys.length:Int))),(42,(iI v42)),(47,(sT x4.kids)),(48,(.int .i64 (x4.kids.length:Int))),(49,(iI v49))],[(1000000,bI c0),(1000001,bI c1),(1000002,.cells [(.bool c2)])],[],[]⟩
section
variable {S:Type} (hd:cK S) (k:Nat) (t:Tm) (c0 c1:Int) (c2:Bool) (κ:Out UU→Option S)
theorem KA (v42 x4 more9 κ1): ∀n v49,(jP hd k).lp κ 15 [κ1] n (CF c0 c1 c2 t v42 x4 more9 v49)=ju hd k (eO c0 c1 c2 κ) (fun v42 more9=>κ1 (oT c0 c1 c2 t v42 more9)) c0 c1 c2 t v42 x4 more9 n v49:=eh (qU hd k (eO c0 c1 c2 κ) c0 c1 c2 t v42 x4 more9 (fun v42 more9=>κ1 (oT c0 c1 c2 t v42 more9))) rfl (fun _=>rfl) fun r v49=>by kernel_rfl
theorem Kz: ∀n v42 more9,(jP hd k).lp κ 12 [] n (oT c0 c1 c2 t v42 more9)=fQ hd k (eO c0 c1 c2 κ) c0 c1 c2 t n v42 more9:=bL (fun own=>nH hd k (eO c0 c1 c2 κ) c0 c1 c2 t (fun v42 x4 more9 v49=>ju hd k (eO c0 c1 c2 κ) own c0 c1 c2 t v42 x4 more9 k v49) own) rfl (fun _=>rfl) fun r v42 more9=>Eq.trans (b:=nH hd k (eO c0 c1 c2 κ) c0 c1 c2 t (fun v42 x4 more9 v49=>(jP hd k).lp κ 15 [r] k (CF c0 c1 c2 t v42 x4 more9 v49)) (fun v42 more9=>r (oT c0 c1 c2 t v42 more9)) v42 more9) (by kernel_rfl) (by simp only [KA])
theorem Ky: ∀n v17,(jP hd k).lp κ 2 [] n (wZ c0 c1 c2 t v17)=kw hd k (eO c0 c1 c2 κ) c0 c1 c2 t n v17:=eh (fun own=>nG hd k (eO c0 c1 c2 κ) c0 c1 c2 t (fun v42 more9=>fQ hd k (eO c0 c1 c2 κ) c0 c1 c2 t k v42 more9) own) rfl (fun _=>rfl) fun r v17=>Eq.trans (b:=nG hd k (eO c0 c1 c2 κ) c0 c1 c2 t (fun v42 more9=>(jP hd k).lp κ 12 [] k (oT c0 c1 c2 t v42 more9)) (fun v17=>r (wZ c0 c1 c2 t v17)) v17) (by kernel_rfl) (by simp only [Kz])
end
theorem MQ {S:Type} (o:Obj) (ho:ae o) (hd:cK S) (Hd:Tl o 81 (mN hd)) (k:Nat):Tl o 128 (Ea hd k:Rw S):=ai (jP hd k) ⟨lJ o ho k,MP o ho hd Hd k,trivial⟩ Tryz.func128 (by kernel_rfl) fun t c0 c1 c2 κ x h=>Eq.trans (b:=zx hd k (eO c0 c1 c2 κ) (fun v17=>(jP hd k).lp κ 2 [] k (wZ c0 c1 c2 t v17)) t c0 c1 c2) (by kernel_rfl) (Eq.trans (by simp only [Ky];rfl) (ak h))
def I2 {S:Type} (hd:cK S) (k:Nat):Fx S:=fp 24 [(127,D9 k),(128,Ea hd k)] [] k Tryz.f81 0
theorem wq {S:Type} (o:Obj) (ho:ae o): ∀k:Nat,Tl o 81 (mN (eF k:cK S))
 |0=>iC fun t vars dims bound κ x h=>by cases h
 |k+1=>ai (I2 (eF k) k) ⟨MO o ho k,MQ o ho (eF k) (wq o ho k) k,trivial⟩ Tryz.func81 (by kernel_rfl) fun t vars dims bound κ x h=>Eq.trans (by kernel_rfl) h
def mO {S:Type} (k:Nat):Rw S:=af sV xn fun t κ=>aa k (i8 k t) (bm κ)
def I4 {S:Type} (k:Nat):Fx S:=fp 12 [(80,xv k),(81,mN (eF k))] [] k Tryz.f91 0
theorem ow {S:Type} (o:Obj) (ho:ae o) (k:Nat):Tl o 91 (mO k:Rw S):=ai (I4 k) ⟨AC o ho k,wq o ho k,trivial⟩ Tryz.func91 (by kernel_rfl) fun t κ x h=>Eq.trans (by kernel_rfl) (ak h)
def io {S:Type} (k:Nat):Rw S:=af OI dP fun a_e c0 κ=>aa k (fb k a_e c0) (R6 κ)
def I5 {S:Type} (k:Nat):Fx S:=fp 13 [] [] k Tryz.f85 1
theorem jd {S:Type} (o:Obj) (ho:ae o) (k:Nat):Tl o 85 (io k:Rw S):=ai (I5 k) trivial Tryz.func85 (by kernel_rfl) fun a_e c0 κ x h=>Eq.trans (by kernel_rfl) (ak h)
def mP {S:Type} (k:Nat):Rw S:=af BI xn fun l κ=>aa k (gn k l) (tw κ)
def uO {S:Type} (k:Nat):Fx S:=fp 22 [(85,io k),(91,mO k)] [(3,bG [3,8,9,10] [(7,1)],aE 5 11)] k Tryz.f48 0
def CG (l:List Tm) (b7_0 v10:Int):St UU:=⟨[(3,(pt 7)),(8,(sT l)),(9,(.int .i64 (l.length:Int))),(10,(iI v10))],[(7,bI b7_0)],[],[]⟩
section
variable {S:Type} (k:Nat) (l:List Tm) (κ:Out UU→Option S)
theorem KB: ∀n b7_0 v10,(uO k).lp κ 3 [] n (CG l b7_0 v10)=lS k (tw κ) l n b7_0 v10:=bL (qe k (tw κ) l) rfl (fun _=>rfl) fun r b7_0 v10=>by kernel_rfl
end
theorem ox {S:Type} (o:Obj) (ho:ae o) (k:Nat):Tl o 48 (mP k:Rw S):=ai (uO k) ⟨jd o ho k,ow o ho k,trivial⟩ Tryz.func48 (by kernel_rfl) fun l κ x h=>Eq.trans (b:=yH k (tw κ) (fun b7_0 v10=>(uO k).lp κ 3 [] k (CG l b7_0 v10)) l) (by kernel_rfl) (Eq.trans (by simp only [KB];rfl) (ak h))
def iq {S:Type} (k:Nat):Rw S:=af OJ dP fun c0 κ=>aa k (ca k c0) (ep c0 κ)
def I7 {S:Type} (k:Nat):Fx S:=fp 8 [] [] k Tryz.f52 1
theorem je {S:Type} (o:Obj) (ho:ae o) (k:Nat):Tl o 52 (iq k:Rw S):=ai (I7 k) trivial Tryz.func52 (by kernel_rfl) fun c0 κ x h=>Eq.trans (by kernel_rfl) (ak h)
def tQ {S:Type} (k:Nat):Rw S:=af BJ xn fun l κ=>aa k (lw k l) (bm κ)
def uP {S:Type} (k:Nat):Fx S:=fp 15 [(95,kQ k)] [(2,bG [5,6,7] [],aE 4 5)] k Tryz.f96 0
def CH (l:List (List Cl)) (v7:Int):St UU:=⟨[(5,(t_ l .none)),(6,(.int .i64 (l.length:Int))),(7,(iI v7))],[],[],[]⟩
section
variable {S:Type} (k:Nat) (l:List (List Cl)) (κ:Out UU→Option S)
theorem KC: ∀n v7,(uP k).lp κ 2 [] n (CH l v7)=mc k (bm κ) l n v7:=eh (qE k (bm κ) l) rfl (fun _=>rfl) fun r v7=>by kernel_rfl
end
theorem v6 {S:Type} (o:Obj) (ho:ae o) (k:Nat):Tl o 96 (tQ k:Rw S):=ai (uP k) ⟨lK o ho k,trivial⟩ Tryz.func96 (by kernel_rfl) fun l κ x h=>Eq.trans (b:=zg k (bm κ) (fun v7=>(uP k).lp κ 2 [] k (CH l v7)) l) (by kernel_rfl) (Eq.trans (by simp only [KC];rfl) (ak h))
def xK {S:Type} (k:Nat):Rw S:=af cn xn fun κ=>aa k (n8 k) (R7 κ)
def I8 {S:Type} (k:Nat):Fx S:=fx 1 (fun _=>[]) (fun _=>false) [] [] k Tryz.f21 false [true] 0
theorem AO {S:Type} (o:Obj) (ho:ae o) (k:Nat):Tl o 21 (xK k:Rw S):=ai (I8 k) trivial Tryz.func21 (by kernel_rfl) fun κ x h=>Eq.trans (by kernel_rfl) (ak h)
def xL {S:Type} (k:Nat):Rw S:=af hZ xn fun i κ=>aa k (lz k i) (jC κ)
def I9 {S:Type} (k:Nat):Fx S:=fp 9 [] [] k Tryz.f163 0
theorem AP {S:Type} (o:Obj) (ho:ae o) (k:Nat):Tl o 163 (xL k:Rw S):=ai (I9 k) trivial Tryz.func163 (by kernel_rfl) fun i κ x h=>Eq.trans (by kernel_rfl) (ak h)
def Ec {S:Type} (k:Nat):Rw S:=af OK xn fun s a_from a_by κ=>aa k (iZ k s a_from a_by) (R8 κ)
def I_ {S:Type} (k:Nat):Fx S:=fp 46 [(163,xL k)] [] k Tryz.f147 0
theorem MT {S:Type} (o:Obj) (ho:ae o) (k:Nat):Tl o 147 (Ec k:Rw S):=ai (I_ k) ⟨AP o ho k,trivial⟩ Tryz.func147 (by kernel_rfl) fun s a_from a_by κ x h=>Eq.trans (by kernel_rfl) (ak h)
def Ed {S:Type} (k:Nat):Rw S:=af OL xn fun c a_from a_by κ=>aa k (rz k c a_from a_by) (R9 κ)
def Ja {S:Type} (k:Nat):Fx S:=fp 42 [(146,xE k),(147,Ec k)] [] k Tryz.f99 0
theorem MU {S:Type} (o:Obj) (ho:ae o) (k:Nat):Tl o 99 (Ed k:Rw S):=ai (Ja k) ⟨AK o ho k,MT o ho k,trivial⟩ Tryz.func99 (by kernel_rfl) fun c a_from a_by κ x h=>Eq.trans (by kernel_rfl) (ak h)
def Ee {S:Type} (k:Nat):Rw S:=af OM uu fun a_have c c0 c1 κ=>aa k (vH k a_have c c0 c1) (R_ c0 c1 κ)
def Jb {S:Type} (k:Nat):Fx S:=fx 22 (fun _=>[]) (fun _=>false) [(99,Ed k)] [] k Tryz.f98 false [true,false] 2
theorem MV {S:Type} (o:Obj) (ho:ae o) (k:Nat):Tl o 98 (Ee k:Rw S):=ai (Jb k) ⟨MU o ho k,trivial⟩ Tryz.func98 (by kernel_rfl) fun a_have c c0 c1 κ x h=>Eq.trans (by kernel_rfl) (ak h)
end
end Go.Proofs.YtapmagaejigpnaaGreatDoor
