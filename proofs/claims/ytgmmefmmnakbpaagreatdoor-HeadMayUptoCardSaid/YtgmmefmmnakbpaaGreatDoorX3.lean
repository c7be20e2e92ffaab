/- Part 3 of a proof; sources: wip/. -/
import Derived.Test.YtgmmefmmnakbpaaGreatDoorX2
import Derived.Shelf.SlSortCmp.NoneTotal
import Derived.Ground.SlsfProg
import Derived.Test.YtgmmefmmnakbpaaGreatDoorProg
import Derived.Shelf.Spec.TrailingZeros
import Derived.RangeFuncBound
import Derived.RangeFuncLeaves
import Derived.RangeFuncOwn
import Derived.OwnWalkIn
import Derived.TacticsInMore
import Derived.LoopNIn
import Derived.LoopIn
import Derived.Maps.RangeWalk
import Derived.Maps.AppendAt
import Derived.Test.YtgmmefmmnakbpaaGreatDoorCards
import Derived.Test.YtgmmefmmnakbpaaGreatDoorTie
import Derived.WalkKit
import Derived.ReadAgain
import Derived.Deep.DeepHandedRow
import Derived.Lib.LaidTab
import Derived.KernelRfl
open Array renaming getD_eq_getD_getElem?→IF,getElem?_eq_some_iff→Ii
open Bool renaming and_eq_true→qC
open ByteArray renaming empty→qw
open Eq renaming trans→qy
open Go.IntKind renaming wrap→p5
open Int renaming toNat→BT
open List renaming append_nil→zr,getElem?_eq_some_iff→E8,length_append→Is,length_cons→uL,length_eq_zero_iff→L3,mem_map→xq,nil_append→An,range→Ez
open Nat renaming beq→rK,ble→bu,le_refl→zk,zero_add→FF
open Option renaming bind→pA
set_option linter.unusedVariables false
set_option linter.unusedSimpArgs false
namespace Go.Proofs
open Go.Shelf
def Tryz.sortCl_ren:Go.Shelf.Ren:=⟨fun|6=>202|15=>227|14=>226|28=>251|29=>252|20=>243|21=>244|22=>245|23=>246|24=>247|25=>248|26=>249|27=>250|46=>261|47=>262|48=>263|49=>264|50=>265|57=>267|n=>n,fun|22=>23|24=>80|25=>186|3=>3|39=>161|0=>0|53=>78|55=>33|4=>4|46=>213|45=>212|50=>217|5=>5|9=>9|66=>221|70=>225|76=>228|77=>66|n=>n,fun|n=>n⟩
theorem Tryz.sortCl:Go.Proofs.SlLaysF0.n6 Tryz.prog Tryz.sortCl_ren:={
 mixed:=by kernel_rfl
 f6:=⟨Tryz.f202.name,by decide,Tryz.func202.trans (congrArg some (by kernel_rfl))⟩
 f14:=⟨Tryz.f226.name,by decide,Tryz.func226.trans (congrArg some (by kernel_rfl))⟩
 f15:=Tryz.func227.trans (congrArg some (by kernel_rfl))
 f20:=⟨Tryz.f243.name,by decide,Tryz.func243.trans (congrArg some (by kernel_rfl))⟩
 f21:=⟨Tryz.f244.name,by decide,Tryz.func244.trans (congrArg some (by kernel_rfl))⟩
 f22:=⟨Tryz.f245.name,by decide,Tryz.func245.trans (congrArg some (by kernel_rfl))⟩
 f23:=⟨Tryz.f246.name,by decide,Tryz.func246.trans (congrArg some (by kernel_rfl))⟩
 f24:=⟨Tryz.f247.name,by decide,Tryz.func247.trans (congrArg some (by kernel_rfl))⟩
 f25:=⟨Tryz.f248.name,by decide,Tryz.func248.trans (congrArg some (by kernel_rfl))⟩
 f26:=⟨Tryz.f249.name,by decide,Tryz.func249.trans (congrArg some (by kernel_rfl))⟩
 f27:=⟨Tryz.f250.name,by decide,Tryz.func250.trans (congrArg some (by kernel_rfl))⟩
 f28:=Tryz.func251.trans (congrArg some (by kernel_rfl))
 f29:=Tryz.func252.trans (congrArg some (by kernel_rfl))
 f46:=⟨Tryz.f261.name,by decide,Tryz.func261.trans (congrArg some (by kernel_rfl))⟩
 f47:=Tryz.func262.trans (congrArg some (by kernel_rfl))
 f48:=Tryz.func263.trans (congrArg some (by kernel_rfl))
 f49:=⟨Tryz.f264.name,by decide,Tryz.func264.trans (congrArg some (by kernel_rfl))⟩
 f50:=⟨Tryz.f265.name,by decide,Tryz.func265.trans (congrArg some (by kernel_rfl))⟩
 f57:=⟨Tryz.f267.name,by decide,Tryz.func267.trans (congrArg some (by kernel_rfl))⟩
 t0:=Tryz.underlying0
 a0:=Tryz.isAgg0
 z0:=Tryz.sizeOf0
 v0:=Tryz.zeroValue0
 t3:=Tryz.underlying3
 a3:=Tryz.isAgg3
 z3:=Tryz.sizeOf3
 v3:=Tryz.zeroValue3
 t4:=Tryz.underlying4
 a4:=Tryz.isAgg4
 z4:=Tryz.sizeOf4
 v4:=Tryz.zeroValue4
 t5:=Tryz.underlying5
 a5:=Tryz.isAgg5
 z5:=Tryz.sizeOf5
 v5:=Tryz.zeroValue5
 t9:=Tryz.underlying9
 a9:=Tryz.isAgg9
 z9:=Tryz.sizeOf9
 v9:=Tryz.zeroValue9
 t22:=Tryz.underlying23
 a22:=Tryz.isAgg23
 z22:=Tryz.sizeOf23
 v22:=Tryz.zeroValue23
 t25:=Tryz.underlying186
 a25:=Tryz.isAgg186
 z25:=Tryz.sizeOf186
 v25:=Tryz.zeroValue186
 t39:=Tryz.underlying161
 a39:=Tryz.isAgg161
 z39:=Tryz.sizeOf161
 v39:=Tryz.zeroValue161
 t45:=Tryz.underlying212
 a45:=Tryz.isAgg212
 z45:=Tryz.sizeOf212
 v45:=Tryz.zeroValue212
 t46:=Tryz.underlying213
 a46:=Tryz.isAgg213
 z46:=Tryz.sizeOf213
 v46:=Tryz.zeroValue213
 t50:=Tryz.underlying217
 a50:=Tryz.isAgg217
 z50:=Tryz.sizeOf217
 v50:=Tryz.zeroValue217
 t53:=Tryz.underlying78
 a53:=Tryz.isAgg78
 z53:=Tryz.sizeOf78
 v53:=Tryz.zeroValue78
 t55:=Tryz.underlying33
 a55:=Tryz.isAgg33
 z55:=Tryz.sizeOf33
 v55:=Tryz.zeroValue33
 t66:=Tryz.underlying221
 a66:=Tryz.isAgg221
 z66:=Tryz.sizeOf221
 v66:=Tryz.zeroValue221
 t70:=Tryz.underlying225
 a70:=Tryz.isAgg225
 z70:=Tryz.sizeOf225
 v70:=Tryz.zeroValue225
 t76:=Tryz.underlying228
 a76:=Tryz.isAgg228
 z76:=Tryz.sizeOf228
 v76:=Tryz.zeroValue228
 t77:=Tryz.underlying66
 a77:=Tryz.isAgg66
 z77:=Tryz.sizeOf66
 v77:=Tryz.zeroValue66}
end Go.Proofs
namespace Go.Proofs.YtgmmefmmnakbpaaGreatDoor
set_option maxRecDepth 100000
open Go PI
section
noncomputable section
def acN:Nat:=266
def acO:Nat:=49
noncomputable def G2 {S:Type}:List PU->List (qJ UU)->(Out UU->Option S)->Option S
 |[.sl .C h .none],[],κ=>kq h fun r=>κ (.ret (bZ r .none) [])
 |_,_,_=> .none
noncomputable def GZ {S:Type}:List PU->List (qJ UU)->(Out UU->Option S)->Option S
 |[.int .u32 h],[],κ=>vz h fun r=>κ (.ret (la r .none) [])
 |_,_,_=> .none
end
end
end Go.Proofs.YtgmmefmmnakbpaaGreatDoor
namespace Go.Proofs
open Go.Shelf Go.RowKit
set_option maxHeartbeats 1000000 in
theorem Tryz.tz32_core (x k idx:Nat) (w:World) (j:((x:Int)==0)=false)
  (key:bits BinOp.and IntKind.u32 (x:Int) (-(x:Int)%4294967296)*125613361%4294967296/134217728=(idx:Int))
  (q:idx<32) (hk:k<32) (h:w.cell? ⟨0,idx,none⟩=some (.int .u8 k)):
  Calls Tryz.prog 270 #[.int .u32 x] w fun e w'=>e= .returned (.int .i64 k)/\w'=w:=by
 go_enter Tryz.func270,Tryz.ntmps270
 go_wp2_with (simp only [key])
 go_ret
 exact ⟨rfl,rfl⟩
theorem Tryz.tz32 (x:Nat) (z:x<4294967296) (A:x≠0) (w:World) (hT:TabAt 0 Lib.deBruijn32tab w):
  Calls Tryz.prog 270 #[.int .u32 x] w fun e w'=>e= .returned (.int .i64 (Lib.ctz 32 x))/\w'=w:=by
 obtain ⟨j,hk⟩:=Lib.lowest_bit 32 x A z
 obtain ⟨B,q⟩:=Lib.deBruijn32_at _ hk
 have h:=hT _ B
 rw [q] at h
 exact Tryz.tz32_core x _ _ w (by simp;omega) (tz32_key x _ z A j) B hk h
end Go.Proofs
namespace Go.Proofs.YtgmmefmmnakbpaaGreatDoor
set_option maxRecDepth 100000
open Go PI
section
open Go Go.Shelf Go.RowKit
attribute [local go_sem] Oper.semAt_some
def KO (s:Nat):List Nat:=(Ez 24).filter s.testBit
theorem ak1 (s:Nat) (F:s≠0) (h:s<16777216):KO s=Lib.ctz 32 s::KO (s&&&(s-1))/\s&&&(s-1)<s:=by
 obtain ⟨m,B,hk⟩:=Lib.ctzFrom_spec 32 s (by omega) (by omega)
 have e:Lib.ctz 32 s=Lib.ctzFrom 32 s:=by simp [Lib.ctz,F]
 rw [e]
 generalize Lib.ctzFrom 32 s=t at B hk
 have hs:s=2^(t+1)*m+2^t:=by
  rw [B,Nat.mul_add,Nat.mul_one,Nat.pow_succ,<-Nat.mul_assoc]
 have hp:0<2^t:=Nat.two_pow_pos t
 have I:2^(t+1)=2^t*2:=Nat.pow_succ 2 t
 have z:s-1=2^(t+1)*m+(2^t-1):=by omega
 have q: ∀j,s.testBit j=if j<t+1 then decide (t=j) else m.testBit (j-(t+1)):=fun j=>by
  rw [hs,Nat.testBit_two_pow_mul_add _ (by omega),Nat.testBit_two_pow]
 have J: ∀j,(s-1).testBit j=if j<t+1 then decide (j<t) else m.testBit (j-(t+1)):=fun j=>by
  rw [z,Nat.testBit_two_pow_mul_add _ (by omega),Nat.testBit_two_pow_sub_one]
 have x: ∀j,(s&&&(s-1)).testBit j=if j<t+1 then false else m.testBit (j-(t+1)):=fun j=>by
  rw [Nat.testBit_and,q,J]
  by_cases hj:j<t+1
  ·rw [if_pos hj,if_pos hj,if_pos hj]
   by_cases A:t=j
   ·rw [decide_eq_true A,decide_eq_false (by omega)];rfl
   ·rw [decide_eq_false A];rfl
  ·rw [if_neg hj,if_neg hj,if_neg hj,Bool.and_self]
 have O:s&&&(s-1)=2^(t+1)*m:=by
  apply Nat.eq_of_testBit_eq
  intro j
  rw [x]
  have:2^(t+1)*m=2^(t+1)*m+0:=rfl
  rw [this,Nat.testBit_two_pow_mul_add _ (by omega),Nat.zero_testBit]
 have A:t<24:=by
  apply Nat.lt_of_not_le
  intro hle
  have:2^24<=2^t:=Nat.pow_le_pow_right (by decide) hle
  have L:(2:Nat)^24=16777216:=by decide
  omega
 refine ⟨?_,by omega⟩
 unfold KO
 have M:Ez 24=Ez t++(t::(Ez (23-t)).map (fun j=>t+1+j)):=by
  apply List.ext_getElem
  ·simp;omega
  ·intro i h1 h2
   simp only [List.getElem_range]
   by_cases E:i<t
   ·rw [List.getElem_append_left (by simpa using E)];simp
   ·rw [List.getElem_append_right (by simpa using E)]
    simp only [List.length_range]
    by_cases he:i=t
    ·subst he;simp
    ·obtain ⟨d,rfl⟩: ∃d,i=t+1+d:=⟨i-t-1,by omega⟩
     simp only [show t+1+d-t=d+1 by omega,List.getElem_cons_succ,List.getElem_map,List.getElem_range]
 rw [M,List.filter_append,List.filter_append]
 have f1:(Ez t).filter s.testBit=[]:=List.filter_eq_nil_iff.2 fun j hj=>by
  have:=List.mem_range.1 hj
  rw [q,if_pos (by omega),decide_eq_false (by omega)];decide
 have f2:(Ez t).filter (s&&&(s-1)).testBit=[]:=List.filter_eq_nil_iff.2 fun j hj=>by
  have:=List.mem_range.1 hj
  rw [x,if_pos (by omega)];decide
 rw [f1,f2,An,An,List.filter_cons_of_pos (by rw [q,if_pos (by omega)];simp),List.filter_cons_of_neg (by rw [x,if_pos (by omega)];decide)]
 congr 1
 apply List.filter_congr
 intro j hj
 obtain ⟨d,_,rfl⟩:=xq.1 hj
 rw [q,x,if_neg (by omega),if_neg (by omega)]
theorem akZ:KO 0=[]:=List.filter_eq_nil_iff.2 fun j _=>by rw [Nat.zero_testBit];decide
theorem ak0 (s:Nat):(KO s).length<=24:=by
 have:=List.length_filter_le s.testBit (Ez 24)
 simpa [KO] using this
theorem adi (s:Int) (w:World):Calls Tryz.prog 268 #[.int .u32 s] w fun e w'=>e= .returned (.func (.func 269) #[] #[.pointer (some ⟨w.heap.size,0,none⟩)])/\w'=w.alloc (.cells #[.int .u32 s] 78):=by
 go_enter Tryz.func268,Tryz.ntmps268
 go_wp2
 go_ret
 exact ⟨rfl,rfl⟩
def Fo:Code:=(Code.region 3 #[{dst:=some 4,op:=Op.assign (Operand.tmp 7),type:=3,pos:= "mask.go:57",after:= #[],guard:=none}] false)
def Fp:Code:=(Code.block 1 (Code.region 4 #[{dst:=some 8,op:=Op.load 147 (Operand.tmp 3),type:=147,pos:= "mask.go:58",after:= #[],guard:=none},{dst:=some 9,op:=Op.move (Operand.tmp 4),type:=3,pos:= "mask.go:58",after:= #[],guard:=none},{dst:=some 10,op:=Op.buildSlice 147 1 #[(0,Operand.tmp 9)],type:=147,pos:= "mask.go:58",after:= #[{on:=1,ground:=Ground.data}],guard:=none},{dst:=some 11,op:=Op.call {callee:=Callee.builtin Builtin.append,args:= #[Operand.tmp 8,Operand.tmp 10],argTypes:= #[147,147]},type:=147,pos:= "mask.go:58",after:= #[{on:=0,ground:=Ground.data},{on:=2,ground:=Ground.data}],guard:=none},{dst:=none,op:=Op.store 147 (Operand.tmp 3) (Operand.tmp 11),type:=0,pos:= "mask.go:58",after:= #[{on:=3,ground:=Ground.data},{on:=3,ground:=Ground.chain},{on:=0,ground:=Ground.phase},{on:=1,ground:=Ground.phase},{on:=2,ground:=Ground.phase},{on:=3,ground:=Ground.phase}],guard:=none}] false))
def Nv (fn:FuncId) (s0:Int) (fv:Value) (Bo D:Nat) (st:LoopState) (h:Option Code):Loop:=
 {state:=st,pending:=h,fn,tmps:= #[.int .u32 s0,undef,.slice none 0 0,.pointer (some ⟨Bo,0,none⟩),undef,.int .u32 s0,fv,undef,undef,undef,undef,undef,undef],params:= #[7],assign:=Fo,body:=Fp,defers:=D}
def Mn (x:Nat):Value:= .int .i64 (x:Int)
structure Ma (w0:World) (fn:FuncId) (s0:Int) (fv:Value) (Bo l D:Nat) (ss:List Nat) (W:World):Prop where
 box: ∃v,W.heap[Bo]? =some (.cells #[v] 147 (0,0))/\W.ownsRow w0.heap.size 3 1 v ss.length (ss.map Mn)
 L:W.heap[l]? =some (.loop (Nv fn s0 fv Bo D .ready none))
 K:W.heap[D]? =some (.deferred (some []))
 below:Below w0.heap.size w0 W
theorem rk (W:World) (l:Nat) (o:Obj):W.grownBy (W.putObj l o) (some l):=
 ⟨rfl,rfl,rfl,by simp,fun k _ hk=>World.putObj_heap_other (fun e=>hk (by rw [e]))⟩
theorem Hj (W:World) (b:Nat) (v:Value):W.grownBy (W.setCell ⟨b,0,none⟩ v) (some b):=
 ⟨rfl,rfl,rfl,(KeepsWalks.setCell W _ v).size,fun k _ hk=>Below.heap_setCell _ _ _ k (fun e=>hk (by rw [e]))⟩
theorem mr {W:World} {base:Nat} {e:TypeId} {size:Nat} {v:Value} {k:Nat} {xs:List Value} (h:W.ownsRow base e size v k xs) {j:Nat} {o:Obj} (hj:W.heap[j]? =some o) (q: ∀cur,o≠ .cells cur e (0,0)):
  v.ownBlock=none\/v.ownBlock≠some j:=by
 rcases h.2 with ⟨rfl,_⟩|⟨g,cap,cur,rfl,_,x,_⟩
 ·exact .inl rfl
 ·refine .inr fun e'=> ?_
  have:g=j:=by simpa [Value.ownBlock] using e'
  subst this;rw [x] at hj;cases hj;exact q cur rfl
theorem m6 {W:World} {B:Nat} {v:Value} {t:TypeId} (h:W.heap[B]? =some (.cells #[v] t (0,0))):W.cell? ⟨B,0,none⟩=some v/\W.frozen? ⟨B,0,none⟩=false:=by
 constructor<;>simp [World.cell?,World.frozen?,h]
theorem Dm {W:World} {B:Nat} {v:Value} {t:TypeId} (v':Value) (h:W.heap[B]? =some (.cells #[v] t (0,0))):(W.setCell ⟨B,0,none⟩ v').heap[B]? =some (.cells #[v'] t (0,0)):=by
 obtain ⟨j,hk⟩:=Ii.1 h
 show (W.heap.modify B _)[B]? =_
 rw [Array.getElem?_eq_getElem (by rw [Array.size_modify];exact j),Array.getElem_modify_self,hk]
 rfl
theorem adk:(Tryz.prog.info? 3).map (fun i=>(i.zero,i.size,i.bytes))=some (some (.int .i64 0),1,8):=by kernel_rfl
set_option maxRecDepth 100000 in
set_option maxHeartbeats 2000000 in
theorem agB (F:Fence) (m:Nat) (w0:World) (fn:FuncId) (hfn:F.fn fn) (s0:Int) (fv:Value) (Bo Bi l D:Nat) (hBl:Bo≠l) (hDl:D≠l) (hDB:D≠Bo) (hBiBo:Bi≠Bo) (hBil:Bi≠l) (h0B:w0.heap.size<=Bo) (h0l:w0.heap.size<=l)
  (ss:List Nat) (x:Nat) (c:Value) (W:World) (h:Ma w0 fn s0 fv Bo l D ss W) (hi0:W.heap[Bi]? =some (.cells #[c] 78 (0,0))) (hlen:ss.length<24):
  YieldAt F m Tryz.prog l #[Mn x] W fun e W'=>e= .returned (.bool true)/\Ma w0 fn s0 fv Bo l D (ss++[x]) W'/\W'.heap[Bi]? =some (.cells #[c] 78 (0,0)):=by
 obtain ⟨i0,hi,hz0,hz1,hz2⟩:=info_parts adk
 obtain ⟨v,hv,qR⟩:=h.box
 refine ⟨fn,#[.int .u32 s0,undef,.slice none 0 0,.pointer (some ⟨Bo,0,none⟩),undef,.int .u32 s0,fv,.int .i64 (x:Int),undef,undef,undef,undef,undef],Fo,Fp,by simpa [Nv,Mn] using run_yield (P:=Tryz.prog) (args:= #[Mn x]) h.L rfl,roundIn_of_wpIn hfn ?_⟩
 have hl:l<W.heap.size:=(Ii.1 h.L).1
 have hbr:=run_beginRound (P:=Tryz.prog) h.L rfl
 obtain ⟨W2,hW2⟩: ∃W2,W.putObj l (.loop {Nv fn s0 fv Bo D .ready none with state:= .busy})=W2:=⟨_,rfl⟩
 rw [hW2] at hbr
 have hg2:W.grownBy W2 (some l):=by rw [<-hW2];exact rk _ _ _
 have hv2:W2.heap[Bo]? =some (.cells #[v] 147 (0,0)):=by rw [<-hW2];exact (World.putObj_heap_other hBl).trans hv
 have hi2:W2.heap[Bi]? =some (.cells #[c] 78 (0,0)):=by rw [<-hW2];exact (World.putObj_heap_other hBil).trans hi0
 have hK2:W2.heap[D]? =some (.deferred (some [])):=by rw [<-hW2];exact (World.putObj_heap_other hDl).trans h.K
 have hL2:W2.heap[l]? =some (.loop {Nv fn s0 fv Bo D .ready none with state:= .busy}):=by rw [<-hW2];exact World.putObj_heap_same hl
 have hrow2:W2.ownsRow w0.heap.size 3 1 v ss.length (ss.map Mn):=qR.kept hg2 (mr qR h.L (fun cur e=>by cases e))
 have hb2:Below w0.heap.size w0 W2:=h.below.grown hg2 h.below.size (fun k e=>by cases e;exact h0l)
 obtain ⟨hc2,hf2⟩:=m6 hv2
 have hBlt:Bo<W2.heap.size:=(Ii.1 hv2).1
 have hBilt:Bi<W2.heap.size:=(Ii.1 hi2).1
 have hl2:l<W2.heap.size:=(Ii.1 hL2).1
 have hDlt:D<W2.heap.size:=(Ii.1 hK2).1
 have ne_of: ∀ {j:Nat} {o:Obj},W2.heap[j]? =some o->(∀cur,o≠ .cells cur 3 (0,0))->some j≠v.ownBlock:=fun hj hno=>by
  rcases mr hrow2 hj hno with e|e
  ·rw [e];simp
  ·exact fun e'=>e e'.symm
 clear hW2
 have hml:24<=maxLen:=by unfold maxLen;omega
 unfold Fo
 gi_wp2_with (rw [Oper.semAt_eq _ _ _ (fun c h=>by cases h)];go_simp;try go_bits)
 unfold Fp
 gi_wp2_with (first
  |(gi_at_builtin;refine wpListIn_append_own _ rfl _ _ 147 rfl w0.heap.size 3 i0 (.int .i64 0) 1 8 Tryz.underlying147 hi hz0 hz1 hz2 rfl (by decide) _ _ _ rfl (hrow2.alloc _) ⟨W2.heap.size,0,none⟩ 1 1 [Mn x] rfl rfl (cell_one_new _ _ _) (by simp [Value.oneCell',Mn]) (by omega) (by omega) (by have:=hb2.size;simp;omega) ?_;intro v' w3 hown' hg3 hnil3
    have hv3:w3.heap[Bo]? =some (.cells #[v] 147 (0,0)):=(hg3.block Bo (by simp;omega) (ne_of hv2 (fun cur e=>by cases e))).trans ((Below.heap_alloc _ _ Bo hBlt).trans hv2)
    obtain ⟨hc3,hf3⟩:=m6 hv3
    obtain ⟨g',cap',cur',rfl,hbase',hgb',hr1,hr2,hr3,hr4⟩: ∃g' cap' cur',v'= .slice (some ⟨g',0,none⟩) (ss.length+1) cap'/\w0.heap.size<=g'/\w3.heap[g']? =some (.cells cur' 3 (0,0))/\ss.length+1<=cap'/\cap'<=maxLen/\cur'.size=cap'*1/\cur'.toList.take ((ss.length+1)*1)=ss.map Mn++[Mn x]:=by
     rcases hown'.2 with ⟨_,h0⟩|h'
     ·exact absurd h0 (by omega)
     ·exact h'
    go_frame)
  |(rw [Oper.semAt_eq _ _ _ (fun c h=>by cases h)];go_simp;try go_bits))
 have hg3':(W2.alloc (.cells #[Mn x] 3)).grownBy w3 v.ownBlock:=hg3
 have hL3:w3.heap[l]? =some (.loop {Nv fn s0 fv Bo D .ready none with state:= .busy}):=(hg3'.block l (by simp;omega) (ne_of hL2 (fun cur e=>by cases e))).trans ((Below.heap_alloc _ _ l hl2).trans hL2)
 have hK3:w3.heap[D]? =some (.deferred (some [])):=(hg3'.block D (by simp;omega) (ne_of hK2 (fun cur e=>by cases e))).trans ((Below.heap_alloc _ _ D hDlt).trans hK2)
 have hi3:w3.heap[Bi]? =some (.cells #[c] 78 (0,0)):=(hg3'.block Bi (by simp;omega) (ne_of hi2 (fun cur e=>by cases e))).trans ((Below.heap_alloc _ _ Bi hBilt).trans hi2)
 obtain ⟨w4,hw4⟩: ∃w4,w3.setCell ⟨Bo,0,none⟩ (.slice (some ⟨g',0,none⟩) (ss.length+1) cap')=w4:=⟨_,rfl⟩
 rw [hw4]
 have hg4:w3.grownBy w4 (some Bo):=by rw [<-hw4];exact Hj _ _ _
 have hv4:w4.heap[Bo]? =some (.cells #[.slice (some ⟨g',0,none⟩) (ss.length+1) cap'] 147 (0,0)):=by rw [<-hw4];exact Dm _ hv3
 have hL4:w4.heap[l]? =some (.loop {Nv fn s0 fv Bo D .ready none with state:= .busy}):=(hg4.block l (Ii.1 hL3).1 (fun e=>hBl (by cases e;rfl))).trans hL3
 have hK4:w4.heap[D]? =some (.deferred (some [])):=(hg4.block D (Ii.1 hK3).1 (fun e=>hDB (by cases e;rfl))).trans hK3
 have hi4:w4.heap[Bi]? =some (.cells #[c] 78 (0,0)):=(hg4.block Bi (Ii.1 hi3).1 (fun e=>hBiBo (by cases e;rfl))).trans hi3
 have hrow4:=hown'.kept hg4 (mr hown' hv3 (fun cur e=>by cases e))
 have hl4:l<w4.heap.size:=(Ii.1 hL4).1
 have hb3:Below w0.heap.size w0 w3:=(hb2.alloc hb2.size _).grown hg3' (by have:=hb2.size;simp;omega) (fun k e=>(hrow2.lt k e).1)
 have hb4:Below w0.heap.size w0 w4:=hb3.grown hg4 hb3.size (fun k e=>by cases e;exact h0B)
 clear hw4
 refine ⟨_,_,run_endRound none hL4,rfl,⟨⟨_,(World.putObj_heap_other hBl).trans hv4, ?_⟩,World.putObj_heap_same hl4,(World.putObj_heap_other hDl).trans hK4,hb4.grown (rk _ _ _) hb4.size (fun k e=>by cases e;exact h0l)⟩,(World.putObj_heap_other hBil).trans hi4⟩
 have:=hrow4.kept (rk w4 l (.loop {{Nv fn s0 fv Bo D .ready none with state:= .busy} with state:=if (none:Option Code).isNone then .ready else .done,pending:=none})) (mr hrow4 hL4 (fun cur e=>by cases e))
 simpa using this
def Ff (Bi:Nat) (w:World):Nat:=match w.cell? ⟨Bi,0,none⟩ with
 |some v=>(intOf v).toNat
 |none=>0
theorem LI {Bi:Nat} {w:World} {n:Nat} {t:TypeId} (h:w.heap[Bi]? =some (.cells #[.int .u32 (n:Int)] t (0,0))):Ff Bi w=n:=by
 unfold Ff;rw [(m6 h).1];simp [intOf]
theorem Zq {w0 W:World} (hT:TabAt 0 Lib.deBruijn32tab w0) (hb:Below w0.heap.size w0 W):TabAt 0 Lib.deBruijn32tab W:=fun j hj=>by
 have h:=hT j hj
 have q:0<w0.heap.size:=World.block_lt_of_cell? w0 ⟨0,j,none⟩ h
 exact (hb.cell (p:=⟨0,j,none⟩) q).trans h
theorem ZD (s:Int):bits .and .u32 s 16777215=(((BitVec.ofInt 32 s).toNat&&&16777215:Nat):Int):=by
 have h:(BitVec.ofInt 32 s).toNat&&&16777215<2^32:=Nat.and_lt_two_pow _ (by omega)
 show IntKind.u32.wrap ((BitVec.ofInt 32 s&&&BitVec.ofInt 32 16777215).toNat:Int)=_
 rw [BitVec.toNat_and,wrap_u32',show (BitVec.ofInt 32 16777215).toNat=16777215 from by decide]
 omega
def iE (s:Int):Nat:=(BitVec.ofInt 32 s).toNat&&&16777215
theorem ZE (s:Nat) (j:s≠0) (h:s<4294967296):bits .and .u32 (s:Int) ((s:Int)-1)=((s&&&(s-1):Nat):Int):=by
 have:(s:Int)-1=((s-1:Nat):Int):=by omega
 rw [this];exact bits_and_u32_nat s (s-1) h (by omega)
set_option maxRecDepth 100000 in
set_option maxHeartbeats 2000000 in
theorem agA (F:Fence) (n:Nat) (h269:F.fn 269) (h270:F.fn 270) (hro:F.round=none) (hn:1<=n) (w0:World) (fn:FuncId) (hfn:F.fn fn) (s0:Int) (fv:Value) (Bo Bi l D:Nat) (hBl:Bo≠l) (hDl:D≠l) (hDB:D≠Bo) (hBiBo:Bi≠Bo) (hBil:Bi≠l) (hBiD:Bi≠D)
  (h0B:w0.heap.size<=Bo) (h0l:w0.heap.size<=l) (h0i:w0.heap.size<=Bi) (hT:TabAt 0 Lib.deBruijn32tab w0) (s:Int) (W:World) (h:Ma w0 fn s0 fv Bo l D [] W) (hi0:W.heap[Bi]? =some (.cells #[.int .u32 s] 78 (0,0)))
  (htz: ∀ (x:Nat),x<4294967296->x≠0-> ∀W',TabAt 0 Lib.deBruijn32tab W'->CallsIn F (n-1) Tryz.prog 270 #[.int .u32 x] W' fun e w'=>e= .returned (.int .i64 (Lib.ctz 32 x))/\w'=W'):
  CallsIn F n Tryz.prog 269 #[.func (.yield l) #[] #[],.pointer (some ⟨Bi,0,none⟩)] W fun e W'=>(∃v,e= .returned v)/\Ma w0 fn s0 fv Bo l D (KO (iE s)) W':=by
 obtain ⟨hc0,hf0⟩:=m6 hi0
 have ha:bits .and .u32 s 16777215=((iE s:Nat):Int):=ZD s
 have hsl:iE s<16777216:=Nat.lt_of_le_of_lt Nat.and_le_right (by decide)
 generalize iE s=q at ha hsl ⊢
 refine callsIn_of_wp Tryz.func269 rfl h269 ?_ hro
 simp only [Tryz.ntmps269,List.size_toArray,uL,List.length_nil,Nat.reduceAdd,Nat.reduceSub,Array.replicate_succ,Array.replicate_zero,List.push_toArray,List.append_toArray,An,List.cons_append]
 gi_wp2
 have hi1:=Dm (.int .u32 (q:Int)) hi0
 have hA1:Ma w0 fn s0 fv Bo l D [] (W.setCell ⟨Bi,0,none⟩ (.int .u32 (q:Int))):=by
  obtain ⟨v,hv,qR⟩:=h.box
  exact ⟨⟨v,(Below.heap_setCell _ _ _ Bo (fun e=>hBiBo e.symm)).trans hv,qR.kept (Hj _ _ _) (mr qR hi0 (fun cur e=>by cases e))⟩,(Below.heap_setCell _ _ _ l (fun e=>hBil e.symm)).trans h.L,(Below.heap_setCell _ _ _ D (fun e=>hBiD e.symm)).trans h.K,h.below.setCell h0i _⟩
 gi_loopw [] (fun wr=> ∃ (pre:List Nat) (c:Nat),c<16777216/\pre++KO c=KO q/\Ma w0 fn s0 fv Bo l D pre wr/\wr.heap[Bi]? =some (.cells #[.int .u32 (c:Int)] 78 (0,0)))
  (fun wr=>Ff Bi wr)
 case atStart=>exact ⟨[],q,hsl,rfl,hA1,hi1⟩
 case round=>
  obtain ⟨pre,c,hc,hp,hA,hb⟩:=hrel
  clear hc0 hf0 ha hi1 hA1
  obtain ⟨hc1,hf1⟩:=m6 hb
  by_cases hz:c=0
  ·subst hz
   rw [akZ,zr] at hp
   gi_wp2
   go_end0
   exact ⟨⟨_,rfl⟩,hp▸hA⟩
  ·have hne:((c:Int)==0)=false:=by simp;omega
   have hne': ¬ ((c:Int)=0):=by omega
   have hstep:=ak1 c hz hc
   have hpl:pre.length<24:=by
    have h1:=ak0 q
    have h2:=congrArg List.length hp
    rw [hstep.1,Is,uL] at h2
    omega
   obtain ⟨fn',tmps,assign,body,hy,hR⟩:=agB F (n-1) w0 fn hfn s0 fv Bo Bi l D hBl hDl hDB hBiBo hBil h0B h0l pre (Lib.ctz 32 c) (.int .u32 (c:Int)) wr hA hb hpl
   have hT1:=Zq hT hA.below
   have hap:=ZE c hz (by omega)
   unfold Mn at hy
   have hyH:Hid (Lib.ctz 32 c=Lib.ctz 32 c):=rfl
   gi_wp2_with (gi_at_call 270;refine (htz c (by omega) hz _ hT1).mono ?_;rintro e w' ⟨rfl,rfl⟩)
   refine hR.mono ?_
   rintro e W3 ⟨rfl,hA3,hb3⟩
   obtain ⟨hc3,hf3⟩:=m6 hb3
   clear hc1 hf1 hA hy hR hT1
   gi_wp2
   have hb4:=Dm (.int .u32 ((c&&&(c-1):Nat):Int)) hb3
   have hlt:=hstep.2
   go_roundw
   case rel=>
    refine ⟨pre++[Lib.ctz 32 c],c&&&(c-1),by omega, ?_, ?_,hb4⟩
    ·rw [<-hp,hstep.1,List.append_assoc];rfl
    ·obtain ⟨v,hv,qR⟩:=hA3.box
     exact ⟨⟨v,(Below.heap_setCell _ _ _ Bo (fun e=>hBiBo e.symm)).trans hv,qR.kept (Hj _ _ _) (mr qR hb3 (fun cur e=>by cases e))⟩,(Below.heap_setCell _ _ _ l (fun e=>hBil e.symm)).trans hA3.L,(Below.heap_setCell _ _ _ D (fun e=>hBiD e.symm)).trans hA3.K,hA3.below.setCell h0i _⟩
   case measure=>rw [LI hb4,LI hb];exact hlt
set_option maxRecDepth 100000 in
set_option maxHeartbeats 2000000 in
theorem agy (F:Fence) (n:Nat) (h266:F.fn 266) (h268:F.fn 268) (h269:F.fn 269) (h270:F.fn 270) (hro:F.round=none) (hn:3<=n) (s:Int) (w:World) (hT:TabAt 0 Lib.deBruijn32tab w)
  (hin: ∀W,CallsIn F (n-1) Tryz.prog 268 #[.int .u32 s] W fun e w'=>e= .returned (.func (.func 269) #[] #[.pointer (some ⟨W.heap.size,0,none⟩)])/\w'=W.alloc (.cells #[.int .u32 s] 78))
  (htz: ∀ (x:Nat),x<4294967296->x≠0-> ∀W',TabAt 0 Lib.deBruijn32tab W'->CallsIn F (n-1-1) Tryz.prog 270 #[.int .u32 x] W' fun e w'=>e= .returned (.int .i64 (Lib.ctz 32 x))/\w'=W'):
  CallsIn F n Tryz.prog 266 #[.int .u32 s] w fun e w'=> ∃v:Value,e= .returned v/\w'.ownsRow w.heap.size 3 1 v (KO (iE s)).length ((KO (iE s)).map Mn)/\Below w.heap.size w w':=by
 have h1:1<=n:=by omega
 have eg: ∀args w,(callFunc 269 args).run Tryz.prog w= .ok (.enter 269 args) w:=enters_of Tryz.func269 (by kernel_rfl) rfl
 refine callsIn_of_wp_marks Tryz.func266 rfl h266 ?_ hro
 simp only [Tryz.ntmps266,List.size_toArray,uL,List.length_nil,Nat.reduceAdd,Nat.reduceSub,Array.replicate_succ,Array.replicate_zero,List.push_toArray,List.append_toArray,An,List.cons_append]
 gi_wp2_with (gi_at_call 268;refine (hin _).mono ?_;rintro e w' ⟨rfl,rfl⟩)
 refine wpIn_rangeFunc ?_
 intro fn hfn
 rw [hro]
 obtain ⟨fv,hfv⟩: ∃fv:Value,fv= .func (.func 269) #[] #[.pointer (some ⟨w.heap.size+1,0,none⟩)]:=⟨_,rfl⟩
 obtain ⟨W0,hW0⟩: ∃W0,(w.alloc (.cells #[.slice none 0 0] 147)).alloc (.cells #[.int .u32 s] 78)=W0:=⟨_,rfl⟩
 have hs0:W0.heap.size=w.heap.size+2:=by rw [<-hW0];simp
 have hv0:W0.heap[w.heap.size]? =some (.cells #[.slice none 0 0] 147 (0,0)):=by rw [<-hW0];exact (Below.heap_alloc _ _ _ (by simp)).trans (World.alloc_heap_new w _)
 have hi0:W0.heap[w.heap.size+1]? =some (.cells #[.int .u32 s] 78 (0,0)):=by
  rw [<-hW0];have:=World.alloc_heap_new (w.alloc (.cells #[.slice none 0 0] 147)) (.cells #[.int .u32 s] 78);rwa [World.size_alloc] at this
 have hb0:Below w.heap.size w W0:=by rw [<-hW0];exact ((Below.refl _ w).alloc (zk _) _).alloc (by simp) _
 rw [hW0]
 obtain ⟨W1,hW1⟩: ∃W1,(W0.alloc (.deferred (some []))).alloc (.loop (Nv fn s fv w.heap.size W0.heap.size .ready none))=W1:=⟨_,rfl⟩
 have hold: ∀k,k<W0.heap.size->W1.heap[k]? =W0.heap[k]? :=fun k hk=>by
  rw [<-hW1];exact (Below.heap_alloc _ _ k (by simp;omega)).trans (Below.heap_alloc _ _ k hk)
 have hb1:Below w.heap.size w W1:=by rw [<-hW1];exact (hb0.alloc hb0.size _).alloc (by have:=hb0.size;simp;omega) _
 have hM:Ma w fn s fv w.heap.size (W0.heap.size+1) W0.heap.size [] W1:=
  ⟨⟨_,(hold w.heap.size (by omega)).trans hv0,⟨rfl,.inl ⟨rfl,rfl⟩⟩⟩,
   by rw [<-hW1];have:=World.alloc_heap_new (W0.alloc (.deferred (some []))) (.loop (Nv fn s fv w.heap.size W0.heap.size .ready none));rwa [World.size_alloc] at this,
   by rw [<-hW1];exact (Below.heap_alloc _ _ _ (by simp)).trans (World.alloc_heap_new W0 _),hb1⟩
 refine ⟨W0.heap.size+1,[{target:= .collected W0.heap.size,args:= #[]}],W1,{target:= .fn (.func 269) #[.pointer (some ⟨w.heap.size+1,0,none⟩)],args:= #[.func (.yield (W0.heap.size+1)) #[] #[]]},W1,269,
  #[.func (.yield (W0.heap.size + 1)) #[] #[]] ++ #[.pointer (some ⟨w.heap.size + 1, 0, none⟩)], W1, ?_, ?_, ?_, ?_, fun _ => h1, ?_⟩
 ·rw [<-hW1,hfv];exact run_enterLoop_outer _ _ _ _ _
 ·simp [resolve,go_sem]
 ·intro f' hf';simp [Target.leads] at hf';subst hf';exact h269
 ·simp [invoke,go_sem,eg]
 ·refine (agA F (n-1) h269 h270 hro (by omega) w fn hfn s fv w.heap.size (w.heap.size+1) (W0.heap.size+1) W0.heap.size (by omega) (by omega) (by omega) (by omega) (by omega) (by omega) (zk _) (by omega) (by omega) hT s W1 hM ((hold _ (by omega)).trans hi0) htz).mono ?_
  rintro e W2 ⟨⟨v0,rfl⟩,h2⟩
  obtain ⟨v,hv,qR⟩:=h2.box
  have hend:=run_endLoop (P:=Tryz.prog) h2.L (by simp [Nv])
  obtain ⟨W3,hW3⟩: ∃W3,W2.putObj (W0.heap.size+1) (.loop {Nv fn s fv w.heap.size W0.heap.size .ready none with state:= .exhausted})=W3:=⟨_,rfl⟩
  rw [hW3] at hend
  have hg3:W2.grownBy W3 (some (W0.heap.size+1)):=by rw [<-hW3];exact rk _ _ _
  have hv3:W3.heap[w.heap.size]? =some (.cells #[v] 147 (0,0)):=by rw [<-hW3];exact (World.putObj_heap_other (by omega)).trans hv
  have hK3:W3.heap[W0.heap.size]? =some (.deferred (some [])):=by rw [<-hW3];exact (World.putObj_heap_other (by omega)).trans h2.K
  have hrow3:=qR.kept hg3 (mr qR h2.L (fun cur e=>by cases e))
  have hb3:Below w.heap.size w W3:=h2.below.grown hg3 h2.below.size (fun k e=>by cases e;omega)
  obtain ⟨hc3,hf3⟩:=m6 hv3
  clear hW3
  refine ⟨none,W3,hend, ?_⟩
  clear hfv
  gi_wp2
  rw [show (w.heap.size+1+1)=W0.heap.size by omega]
  refine ⟨by simp,.inl ⟨_,_,rfl,run_takeDeferred hK3, ?_⟩⟩
  exact ⟨_,results_tmp rfl _ _ _,v,rfl,hrow3.kept (rk _ _ _) (mr hrow3 hK3 (fun cur e=>by cases e)),hb3.grown (rk _ _ _) hb3.size (fun k e=>by cases e;omega)⟩
end
section
open Go PI Go.Shelf Go.RowKit
def ai (o:Obj):Prop:= ∃ (cur:Array Value) (e:TypeId) (h:Nat×Nat),o= .cells cur e h/\ ∀j,j<Lib.deBruijn32tab.length->cur[j]? =some (.int .u8 (Lib.deBruijn32tab.getD j 0))
theorem akJ {o:Obj} (ho:ai o) {w:World} (h:w.heap[0]? =some o):TabAt 0 Lib.deBruijn32tab w:=fun j hj=>by
 obtain ⟨cur,e,q,rfl,hc⟩:=ho
 have:=hc j hj
 simp [World.cell?,h,this]
theorem agx (s:Int) (w:World) (hT:TabAt 0 Lib.deBruijn32tab w):Calls Tryz.prog 266 #[.int .u32 s] w fun e w'=> ∃v:Value,e= .returned v/\w'.ownsRow w.heap.size 3 1 v (KO (iE s)).length ((KO (iE s)).map Mn)/\Below w.heap.size w w':=
 callsIn_wide.1 (agy Fence.wide 5 trivial trivial trivial trivial rfl (by omega) s w hT (fun W=>callsIn_wide.2 (adi s W)) fun x j q W' h=>callsIn_wide.2 (Tryz.tz32 x j q W' h))
theorem agE (s:Int):ra s=(KO (iE s)).map fun n:Nat=>(n:Int):=by
 unfold ra KO iE
 have:(Ez 24).filter ((BitVec.ofInt 32 s).toNat&&&16777215).testBit=(Ez 24).filter fun i=>(BitVec.ofInt 32 s).getLsbD i:=List.filter_congr fun i h=>by
  have h:i<24:=List.mem_range.1 h
  have j:(16777215:Nat)=2^24-1:=by decide
  rw [Nat.testBit_and,j,Nat.testBit_two_pow_sub_one,decide_eq_true h,Bool.and_true];rfl
 rw [this];rfl
theorem ZJ {X:rE VV Tryz.prog} {w w':World} {vs:Array Value} {N0:aN} {ν:Nat->Nat} {δ:Nat->Option Nat} {ο:Nat->Array Value} {args:List PU} (x:v8 X w vs N0 ν δ ο args []) (hb:Below w.heap.size w w'):
  M3 X w w' N0 ν δ ο 0 args.length ν (fun _=>none) [] where
 ext:=⟨hb.os,hb.tape,hb.output,hb.size,fun b q _=>hb.block b q⟩
 le:=zk _
 old:=fun i h=>absurd h (Nat.not_lt_zero i)
 new:=fun i _ h=>absurd h (Nat.not_lt_zero i)
 cY:=fun j b h=>by cases h
 lA:={
  inj:=fun i j h=>absurd h (Nat.not_lt_zero i)
  lt:=fun i h=>absurd h (Nat.not_lt_zero i)
  dlt:=fun j b h=>by cases h
  fM:=fun i j b h=>by cases h
  dν:=fun j b h=>by cases h
  n0:=fun b o h=>⟨Nat.lt_of_lt_of_le (x.lA.n0 b o h).1 hb.size,fun i h=>absurd h (Nat.not_lt_zero i),fun j h=>by cases h⟩}
 boxes:=fun k b h=>by simp at h
theorem akR {S:Type} (o:Obj) (ho:ai o) (vs:List PU) (bs:List (qJ UU)) (κ:Out UU->Option S) (x:S) (h:GZ vs bs κ=some x): ∃out,ci (LL o) acN vs bs out/\κ out=some x:=by
 unfold GZ at h
 split at h
 case h_2=>cases h
 rename_i κ y
 refine ⟨_, ?_,h⟩
 refine ⟨⟨Tryz.f266,Tryz.func266,by kernel_rfl,rfl⟩,fun w vs N0 ν δ ο B=> ?_⟩
 have hs:vs.size=1:=B.size
 have F:=B.args 0 _ rfl
 obtain ⟨v0,J⟩: ∃v0,vs= #[v0]:=by
  obtain ⟨l⟩:=vs
  match l,hs with
  |[v],_=>exact ⟨v,rfl⟩
 subst J
 have F:qF (LL o) w _ _ v0 (.int .u32 y):=F
 cases F
 have hT:=akJ ho (B.hX 0 o (by simp [LL])).1
 refine (agx y w hT).mono ?_
 rintro e w' ⟨v,rfl,qR,hb⟩
 refine ⟨ν,fun _=>none,ZJ B hb, ?_⟩
 show qF (LL o) w' _ _ v (.sl ET.I (ra y) .none)
 rw [agE]
 generalize KO (iE y)=A at qR
 obtain ⟨hl,T⟩:=qR
 rcases T with ⟨rfl,hn⟩|⟨g,cap,cur,rfl,W,L,hc,Y,ad,M⟩
 ·have:A=[]:=L3.1 hn
  subst this
  exact .sl none 0 0 _ _ _ (fun _ _=>undef) rfl (zk _) trivial (fun j x q=>by cases q) (fun j x q=>by cases q)
 ·have z: ∀j x,(A.map fun n:Nat=>(n:Int))[j]? =some x->cur.getD j undef= .int .i64 x/\w'.cell? ⟨g,j,none⟩=some (.int .i64 x):=by
   intro j x q
   rw [List.getElem?_map] at q
   cases E:A[j]? with
   |none=>rw [E] at q;cases q
   |some n=>
    rw [E] at q
    injection q with q
    have hj:j<A.length:=(E8.1 E).1
    have h1:(cur.toList.take (A.length*1))[j]? =some (Mn n):=by rw [M,List.getElem?_map,E];rfl
    rw [List.getElem?_take_of_lt (by omega)] at h1
    have h2:cur[j]? =some (.int .i64 x):=by rw [<-Array.getElem?_toList,h1,<-q];rfl
    refine ⟨?_,by simp [World.cell?,L,h2]⟩
    rw [IF,h2];rfl
  refine qF.sl (X:=LL o) (some ⟨g,0,none⟩) A.length cap ET.I (show List Int from A.map fun n:Nat=>(n:Int)) .none (fun j k=>cur.getD (j+k) undef) (List.length_map _) hc trivial (fun j x q k p hp=> ?_) (fun j x q k p hp=> ?_)
  ·match k,hp with
   |0,hp=>
    obtain ⟨h1,h2⟩:=z j x q
    refine ⟨_,rfl, ?_, ?_⟩
    ·have:(⟨g,0,none⟩:Addr).add (j*(LL o).aR ET.I+0)=⟨g,j,none⟩:=by
      rw [Addr.add_lit'];show (⟨g,0+(j*1+0),none⟩:Addr)=_;congr 1;omega
     rw [this,h2];rw [Nat.add_zero,h1]
    ·rintro (hN|⟨i,O,_⟩|⟨i,O⟩)
     ·have:=(B.lA.n0 _ _ hN).1
      simp at this;omega
     ·exact absurd O (Nat.not_lt_zero i)
     ·cases O
   |k+1,hp=>simp [VV,H6] at hp
  ·match k,hp with
   |0,hp=>
    obtain ⟨h1,h2⟩:=z j x q
    rw [Nat.add_zero,h1]
    have:p= .int .i64 x:=by simpa [VV,H6] using hp.symm
    subst this
    exact .int _ _
   |k+1,hp=>simp [VV,H6] at hp
open Go.Sort
def m7 (a b:Int):Int:=if a<b then-1 else if b<a then 1 else 0
def iY (x y:Cl):Int:=if x.pos=y.pos then m7 x.neg y.neg else m7 x.pos y.pos
def KW (x:Cl):List Value:=[.int .u32 x.pos,.int .u32 x.neg]
theorem EP (a:Int) (W:World):Calls Tryz.prog 253 #[.int .u32 a] W fun e w'=>e= .returned (.bool false)/\w'=W:=by
 go_enter Tryz.func253,Tryz.ntmps253
 go_wp2
 go_ret
 exact ⟨by simp,rfl⟩
set_option maxHeartbeats 1000000 in
theorem JD (a b:Int) (W:World):Calls Tryz.prog 228 #[.int .u32 a,.int .u32 b] W fun e w'=>e= .returned (.int .i64 (m7 a b))/\w'=W:=by
 unfold m7
 by_cases h1:a<b
 ·rw [if_pos h1]
  go_enter Tryz.func228,Tryz.ntmps228
  go_wp2_with (go_at_call 253;refine (EP _ _).mono ?_;rintro e w' ⟨rfl,rfl⟩)
  go_ret
  exact ⟨rfl,rfl⟩
 ·rw [if_neg h1]
  by_cases h2:b<a
  ·rw [if_pos h2]
   go_enter Tryz.func228,Tryz.ntmps228
   go_wp2_with (go_at_call 253;refine (EP _ _).mono ?_;rintro e w' ⟨rfl,rfl⟩)
   go_ret
   exact ⟨rfl,rfl⟩
  ·rw [if_neg h2]
   go_enter Tryz.func228,Tryz.ntmps228
   go_wp2_with (go_at_call 253;refine (EP _ _).mono ?_;rintro e w' ⟨rfl,rfl⟩)
   go_ret
   exact ⟨rfl,rfl⟩
set_option maxHeartbeats 1000000 in
theorem Z6 (x y:Cl) (W:World):Calls Tryz.prog 203 #[.agg (KW x).toArray,.agg (KW y).toArray] W fun e w'=>e= .returned (.int .i64 (iY x y))/\ ∃q j,w'=grow (W.drewN q) j:=by
 obtain ⟨a,b⟩:=x
 obtain ⟨a',z⟩:=y
 have h1:=JD a a'
 have h2:=JD b z
 unfold iY
 simp only [KW]
 generalize m7 a a'=r1 at h1 ⊢
 generalize m7 b z=A at h2 ⊢
 by_cases h:a=a'
 ·rw [if_pos h]
  go_enter Tryz.func203,Tryz.ntmps203
  go_wp2_with (go_at_call 228;refine (h2 _).mono ?_;rintro e w' ⟨rfl,rfl⟩)
  go_ret
  exact ⟨rfl,0,_,by rw [alloc_eq_grow,alloc_eq_grow,grow_grow];rfl⟩
 ·rw [if_neg h]
  go_enter Tryz.func203,Tryz.ntmps203
  go_wp2_with (go_at_call 228;refine (h1 _).mono ?_;rintro e w' ⟨rfl,rfl⟩)
  go_ret
  exact ⟨rfl,0,_,by rw [alloc_eq_grow,alloc_eq_grow,grow_grow];rfl⟩
theorem uS (x y:Cl):ltOf iY x y=(decide (x.pos<y.pos)||(decide (x.pos=y.pos)&&decide (x.neg<y.neg))):=by
 have h:iY x y<0↔(x.pos<y.pos\/x.pos=y.pos/\x.neg<y.neg):=by
  unfold iY m7
  split<;>split<;>first|omega|(split<;>omega)
 rw [Bool.eq_iff_iff]
 simp only [ltOf,decide_eq_true_eq,Bool.or_eq_true,qC]
 exact h
theorem akz:SWO (ltOf iY) where
 irrefl x:=by rw [uS];simp
 trans x y z h1 h2:=by rw [uS] at*;simp at*;omega
 ntrans x y z h1 h2:=by rw [uS] at*;simp at*;omega
theorem akV (x y:Cl) (h1:ltOf iY x y=false) (h2:ltOf iY y x=false):x=y:=by
 rw [uS] at*;simp at*
 obtain ⟨a,b⟩:=x
 obtain ⟨a',h⟩:=y
 simp at*
 omega
theorem ada:(fun x y:Cl=> !ltOf iY y x)=lq:=by
 funext x y
 rw [uS,Bool.eq_iff_iff]
 simp [lq]
 omega
instance:Inhabited Cl:=⟨⟨0,0⟩⟩
theorem akg (b c:Nat) (d:List Cl) (w:World) (hH:HoldsK KW 2 w b 0 d.toArray) (hb:b<w.heap.size) (j:d.length<4611686018427387904):
  Calls Tryz.prog 202 #[.slice (some ⟨b,0,none⟩) d.length c,.func (.func 203) #[] #[]] w fun e w'=>e= .returned (.tuple #[])/\ ∃n os,w'=sortWorldK KW 2 w b 0 n (sortCl d).toArray os:=by
 have q: ∀args w,(callFunc 203 args).run Tryz.prog w= .ok (.enter 203 args) w:=enters_of Tryz.func203 (by kernel_rfl) rfl
 have h:=AnyQ.slices_SortFunc_total Tryz.sortCl 2 Tryz.isAgg80 Tryz.sizeOf80 KW (fun _=>rfl) (fun x v hv=>by simp [KW] at hv;rcases hv with rfl|rfl<;>rfl) iY akz 203 #[] b 0 c d.toArray w q (fun _ _ _ _ x y=>Z6 x y _) hH hb j akV
 rw [ada] at h
 exact h
theorem akh (p:Option Addr) (c:Nat) (w:World):Calls Tryz.prog 202 #[.slice p 0 c,.func (.func 203) #[] #[]] w fun e w'=>e= .returned (.tuple #[])/\w'=w:=
 AnyF.slices_SortFunc_none Tryz.sortCl p c _ w
theorem akf {m:Nat} {d:Array Cl} {os:Array Obj} {w:World} {b k:Nat} (hk:k<w.heap.size) (h:k≠b):(sortWorldK KW 2 w b 0 m d os).heap[k]? =w.heap[k]? :=by
 unfold sortWorldK putRowK putRow mapBlock
 rw [heap_grow_old _ _ (by simpa [ahead] using hk)]
 show (w.heap.modify b _)[k]? =_
 rw [Array.getElem?_modify,if_neg (Ne.symm h)]
theorem ake {m:Nat} {d:Array Cl} {os:Array Obj} {w:World} {b:Nat} {cur:Array Value} {e:TypeId} {j:Nat×Nat} (h:w.heap[b]? =some (.cells cur e j)):
  (sortWorldK KW 2 w b 0 m d os).heap[b]? =some (.cells (putCells id 0 (flatK KW 2 d) cur) e j):=by
 have hb:b<w.heap.size:=(Ii.1 h).1
 unfold sortWorldK putRowK putRow mapBlock
 rw [heap_grow_old _ _ (by simpa [ahead] using hb)]
 show (w.heap.modify b _)[b]? =_
 rw [Array.getElem?_modify,if_pos rfl,h];rfl
theorem Z4 (x:Cl) {k:Nat} {p:PU} (hp:(H6 .C x)[k]? =some p):k<2/\ ∀ (X:rE VV Tryz.prog) (w:World) (N:aN) (g:Gh UU),qF X w N g (KW x)[k]! p:=by
 match k,hp with
 |0,hp=>cases hp;exact ⟨by omega,fun X w N g=> .int _ _⟩
 |1,hp=>cases hp;exact ⟨by omega,fun X w N g=> .int _ _⟩
 |k+2,hp=>simp [H6] at hp
theorem adf {w:World} {b c:Nat} {l:List Cl} {cur:Array Value} {e:TypeId} (hb:w.heap[b]? =some (.cells cur e (0,0))) (hs:cur.size=c*2) (hl:l.length<=c) (h: ∀ (j:Nat) (x:Cl),l[j]? =some x-> ∀k,k<2->w.cell? ⟨b,j*2+k,none⟩=some (KW x)[k]!):HoldsK KW 2 w b 0 l.toArray:=by
 intro t q
 rw [size_flatK] at q
 have z:t<l.length*2:=by simpa using q
 have hj:t/2<l.length:=by omega
 have A:l[t/2]? =some l.toArray[t/2]! :=by simp [hj]
 refine ⟨?_, ?_⟩
 ·rw [get_flatK _ _ _ _ q]
  have:=h _ _ A (t%2) (Nat.mod_lt _ (by omega))
  rw [FF]
  rw [show t/2*2+t%2=t by omega] at this
  exact this
 ·simp [World.frozen?,hb]
theorem adl {f:Nat} {ps:List PU} {l l':List Cl} (h:EK f ps l=some l'):f=202/\ps=[.func 203 [] []]/\l'=sortCl l:=by
 unfold EK at h
 split at h
 ·injection h with h
  exact ⟨rfl,rfl,h.symm⟩
 ·cases h
theorem Ad (o:Obj):Tq (LL o):=by
 intro f ps e l l' h
 have J:K9 f ps e l=some l':=h
 clear h
 cases e with
 |T=>cases J
 |B=>cases J
 |I=>cases J
 |F=>cases J
 |D=>cases J
 |G=>cases J
 |C=>
 obtain ⟨rfl,rfl,rfl⟩:=adl J
 refine ⟨⟨Tryz.f202,Tryz.func202,by kernel_rfl,rfl⟩,fun w vs N0 δ ο hg bf=> ?_⟩
 have hs:vs.size=2:=hg.size
 obtain ⟨v0,v1,rfl⟩: ∃v0 v1,vs= #[v0,v1]:=by
  obtain ⟨l⟩:=vs
  match l,hs with
  |[v,v'],_=>exact ⟨v,v',rfl⟩
 have h0:tY (LL o) w (NB N0 0 (fun _=>0) δ) (gB UU 0 fun _=>0) ET.C l v0 .wr (δ 0):=hg.args 0 _ rfl
 have h1:qF (LL o) w (NB N0 0 (fun _=>0) δ) (gB UU 0 fun _=>0) v1 (.func 203 [] []):=hg.args 1 _ rfl
 cases h1 with
 |func _ _ _ xs ys ha hb _ _=>
 have ad:xs= #[]:=by simpa using ha
 have ao:ys= #[]:=by simpa using hb
 subst ad;subst ao
 obtain ⟨A,n,c,rfl,hl,hc,q,W⟩:=h0.val
 have hl: @List.length Cl l=n:=hl
 cases Y:δ 0 with
 |none=>
  rw [Y] at W q
  obtain ⟨rfl,rfl,rfl⟩:=W.1 rfl
  have:l=([]:List Cl):=L3.1 hl
  subst this
  refine (akh none 0 w).mono ?_
  rintro e w' ⟨rfl,rfl⟩
  refine ⟨rfl,.refl _ _, ?_⟩
  rw [Y] at h0
  have:sortCl []=[]:=by simp [sortCl]
  rw [this]
  exact h0
 |some b=>
  rw [Y] at W q
  obtain ⟨hu,cur,rfl,hblk,ax,E⟩:=W
  have L:b<w.heap.size:=(Ii.1 hblk).1
  have M:cur.size=c*2:=ax
  have hH:HoldsK KW 2 w b 0 l.toArray:=adf hblk M (hl▸hc) fun j x hx k hk=>by
   have hp: ∃p,(H6 ET.C x)[k]? =some p/\p= .int .u32 (if k=0 then x.pos else x.neg):=by
    match k,hk with
    |0,_=>exact ⟨_,rfl,rfl⟩
    |1,_=>exact ⟨_,rfl,rfl⟩
   obtain ⟨p,hp,az⟩:=hp
   obtain ⟨a,v,ha,hv,hr,_⟩:=q j x hx k p hp
   injection ha with ha
   subst ha
   subst az
   have a6:w.cell? ⟨b,j*2+k,none⟩=some v:=by
    have:(⟨b,0,none⟩:Addr).add (j*(LL o).aR ET.C+k)=⟨b,j*2+k,none⟩:=by
     rw [Addr.add_lit'];show (⟨b,0+(j*2+k),none⟩:Addr)=_;congr 1;omega
    rw [this] at hv;exact hv
   rw [a6]
   cases hr
   match k,hk with
   |0,_=>rfl
   |1,_=>rfl
  have a7: @List.length Cl l<4611686018427387904:=by
   have:n<=1099511627776:=E.2
   omega
  have z:=akg b c l w hH L a7
  have he:(.slice (some ⟨b,0,none⟩) (@List.length Cl l) c:Value)= .slice (some ⟨b,0,none⟩) n c:=by rw [hl]
  rw [he] at z
  refine z.mono ?_
  rintro e w' ⟨rfl,m,os,rfl⟩
  have hlen:(sortCl l).length= @List.length Cl l:=List.length_mergeSort _
  have a8:=holdsK_sortWorldK_c KW 2 w b 0 l.toArray (sortCl l).toArray m os hH L hlen
  refine ⟨rfl,⟨rfl,rfl,rfl,size_sortWorldK_c KW 2 w b 0 m _ os,fun k hk bc=>akf hk fun e=>bc ?_⟩, ?_⟩
  ·subst e
   exact List.mem_append_right _ (List.mem_filterMap.2 ⟨0,by simp,Y⟩)
  ·refine ⟨_,n,c,rfl,hlen.trans hl,hc,fun j x hx k p hp=> ?_, ?_⟩
   ·obtain ⟨hk,O⟩:=Z4 x hp
    have hj:j<(sortCl l).length:=(E8.1 hx).1
    have:=(a8.cell (i:=j) (c:=k) (by simpa using hj) hk).1
    have he:(sortCl l).toArray[j]! =x:=by
     have:=E8.1 hx
     rw [getElem!_pos _ j (by simpa using hj)];exact this.2
    rw [he] at this
    refine ⟨_,_,rfl, ?_,O _ _ _ _,fun h=>by cases h⟩
    have e:(⟨b,0,none⟩:Addr).add (j*(LL o).aR ET.C+k)=⟨b,0+j*2+k,none⟩:=by
     rw [Addr.add_lit'];show (⟨b,0+(j*2+k),none⟩:Addr)=_;congr 1;omega
    show World.cell? _ (Addr.add _ _)=_
    rw [e];exact this
   ·exact ⟨hu,_,rfl,ake hblk,by simp [putCells];exact M,E⟩
end
section
open Go PI Go.ChangeShapes Go.WideShapes Go.ChangeAt Go.RowKit
theorem own:ownKnob Tryz.prog.godebug=none:=by kernel_rfl
theorem KM:Tryz.prog.globalNamed "math/bits.deBruijn32tab" =some 0:=by kernel_rfl
section
variable {H:Type} {enc:TypeId×Value->H}
structure Kept (W W':World):Prop where
 os:W'.os=W.os
 output:W'.output=W.output
 size:W.heap.size<=W'.heap.size
 block: ∀b,b<W.heap.size->W'.heap[b]? =W.heap[b]?
theorem Kept.sameAt {W W':World} (h:Kept W W') {p:MemPlace} (hp:p.block<W.heap.size):W.sameAt W' p:=by
 cases p with
 |cell b o=>simp only [World.sameAt,World.cell?];rw [h.block b hp]
 |map b=>exact h.block b hp
theorem Kept.kept {W W':World} (h:Kept W W') (may:MemPlace->Prop):W.keptBut W' may:=by
 refine ⟨h.os,h.output,fun i j=> ?_⟩
 rw [h.block i j]
 cases W.heap[i]? with
 |none=>rfl
 |some o=>cases o with
  |cells c t q=>exact ⟨rfl,rfl,rfl,fun _ _=>rfl⟩
  |map es clock=>exact .inr ⟨rfl,rfl⟩
  |_=>rfl
theorem Jk {W W':World} {sp:Nat->Bool} {held:Bool}: ∀ {z:List TypeId} {vs:List Value} {ds:List (DataW H)} {ps:List MemPlace},
  DataW.TrodAll enc Tryz.prog W 0 sp held z vs ds ps->(∀p∈ps,W.sameAt W' p)->DataW.TrodAll enc Tryz.prog W' 0 sp held z vs ds ps
 |[],[],[],_,h,_=>h
 |_::_,_::_,_::_,_,⟨p,q,⟨n,h1⟩,h2,e⟩,hs=>
  ⟨p,q,⟨n,DataW.trod_carry n _ _ _ h1 fun x j=>hs x (by rw [e];exact List.mem_append_left _ j)⟩,Jk h2 (fun x j=>hs x (by rw [e];exact List.mem_append_right _ j)),e⟩
theorem kids:Kids Tryz.prog (· <Tryz.prog.types.size):=kids_rows (by kernel_rfl) (by kernel_rfl)
theorem full: ∀t e,t<Tryz.prog.types.size->Tryz.prog.underlying t=some (.slice e)->0<Tryz.prog.cellsOf e:=slices_full_of Tryz.prog (by kernel_rfl)
theorem ahF {f:Func} {s:ChangeSpec} (hv:s.vars=[]) {dD fresh handsOn again:Bool} {W W':World} {args:Array Value} {ds gs:List (DataW H)} {before:List MemPlace} (hf:f.resultTypes= #[4])
  (hT: ∀t∈f.params.toList,t<Tryz.prog.types.size) (hs:s.fn H ds={results:=[.lit (.bool true)],args:=ds})
  (J:DataW.Whole enc Tryz.prog f.params.toList s.vars dD W args.toList ds gs before) (hk:Kept W W'):s.post enc Tryz.prog f dD fresh handsOn again W args (.bool true) W':=by
 have hold: ∀p∈before,(fun b=>decide (b<W.heap.size)) p.block=true:=fun p hp=>by simpa using J.lt p hp
 have B: ∀p∈before,p.block<W.heap.size:=fun p hp=>by simpa using J.lt p hp
 have F:=J
 obtain ⟨p,q,hA,O,rfl,T,hn⟩:=J
 rw [hv] at O
 obtain ⟨rfl,rfl⟩:=trodVars_none O
 rw [zr] at hold B T hn F
 have E:s.fn H (ds++[])={results:=[.lit (.bool true)],args:=ds}:=by rw [zr];exact hs
 have Y:(Value.bool true).resultList f.resultTypes.size=[.bool true]:=by rw [hf];rfl
 have A: ∀ (b:Nat) (sp:Nat->Bool) (hd:Bool),DataW.TrodAll enc Tryz.prog W' b sp hd f.resultTypes.toList ((Value.bool true).resultList f.resultTypes.size) (s.fn H (ds++[])).results []:=fun b sp hd=>by
  rw [Y,E,hf]
  exact trodAll_cons_mk (shut_bool Tryz.underlying4 _) trodAll_mk0
 have h: ∀sp:Nat->Bool,(∀L∈p,sp L.block=true)->DataW.TrodAll enc Tryz.prog W' 0 sp true f.params.toList args.toList (s.fn H (ds++[])).args p:=fun sp M=>by
  rw [E]
  exact DataW.TrodAll.respare kids full hT (Jk hA fun x hx=>hk.sameAt (B x hx)) M
 have z: ∀sp:Nat->Bool,DataW.TrodVars enc Tryz.prog W' sp s.vars (s.fn H (ds++[])).vars []:=fun sp=>by rw [hv,E];rfl
 refine ⟨ds,[],p,[],p,[],F,A _ _ _,h _ hold,z _,World.keptBut_mono (fun L hp=>hp.elim) (hk.kept fun _=>False),fun _=> ?_⟩
 refine ⟨fun j t r h1 h2=> ?_,_,_,([]++p)++[],⟨[]++p,[],trodAll_append (h _ (fun _ _=>rfl)) (A _ _ _),z _,rfl, ?_, ?_⟩, ?_⟩
 ·rw [hf] at h1
  rw [Y] at h2
  match j,h1,h2 with
  |0,h1,h2=>cases h1;cases h2;exact okWide_bool_mk Tryz.underlying4 _
  |j+1,h1,h2=>simp at h2
 ·intro b off hp
  have I:MemPlace.cell b off∈p:=by simpa using hp
  have:=T b off I
  simp only [World.frozen?] at this ⊢
  rw [hk.block b (B _ I)]
  exact this
 ·intro ha
  have:=hn ha
  simpa using this
 ·intro L hp _
  simpa using hp
variable {w:World} {spare:Nat->Bool} {held:Bool} {o:Obj} {N:aN} {g:Gh UU}
theorem Zs {v:Value} {n:Nat} (h:v.cells.toList.length=n+2): ∃vs:Array Value,v= .agg vs/\vs.toList=v.cells.toList:=by
 cases v with
 |agg vs=>exact ⟨vs,rfl,rfl⟩
 |_=>simp [Value.cells] at h
theorem ZG (E: ∀b o,¬N b o) {v:Value} {d:DataW H} {ps:List MemPlace} (h:DataW.Trod enc Tryz.prog w 0 spare held 27 v d ps): ∃t:Tm,qF (LL o) w N g v (.agg (H6 ET.T t))/\QT t d:=by
 obtain ⟨n,hn⟩:=h
 obtain ⟨t,F,I⟩:=(ahu (o:=o) (g:=g) E n).1 _ _ _ hn
 obtain ⟨_,_,_,_,hl,_,_⟩:=DataW.trod_struct Tryz.underlying27 hn
 have q:v.cells.toList.length=6:=hl.trans (by kernel_rfl)
 obtain ⟨vs,rfl,x⟩:=Zs (n:=4) q
 refine ⟨t,qF.agg (X:=LL o) vs (H6 ET.T t) (by rw [<-Array.length_toList,x,q];rfl) fun j p hp=> ?_,I⟩
 obtain ⟨B,z,A⟩:=F j p hp
 have:vs.getD j undef=B:=by
  have h2:vs[j]? =some B:=by rw [<-Array.getElem?_toList,x];exact z
  rw [IF,h2];rfl
 rw [this];exact A
theorem adb {o:Obj} {W:World} (x:W.heap[0]? =some o) {vs:Array Value} {ps:List PU} (hs:vs.size=ps.length) (hp:ps.all PV.notFresh=true)
  (h: ∀ (j:Nat) p,ps[j]? =some p->qF (LL o) W (NB (fun _ _=>False) 0 (fun _=>0) fun _=>none) (gB UU 0 fun _=>0) (vs.getD j undef) p):v8 (LL o) W vs (fun _ _=>False) (fun _=>0) (fun _=>none) (fun _=> #[]) ps [] where
 lA:=⟨fun i j q=>absurd q (Nat.not_lt_zero i),fun i q=>absurd q (Nat.not_lt_zero i),fun j b h=>(by cases h),fun i j b h=>(by cases h),fun j b h=>(by cases h),fun b o h=>h.elim⟩
 size:=hs
 kH:=fun j b h=>by cases h
 hX:=fun b z hb=>by
  simp [LL] at hb
  obtain ⟨rfl,rfl⟩:=hb
  exact ⟨x,fun i q=>absurd q (Nat.not_lt_zero i),fun j h=>by cases h⟩
 args:=fun j p hj=>vk.of (h j p hj)
 boxes:=fun k b h=>by simp at h
 oz:=fun _ _=>rfl
theorem gT: ∀b o,¬NB (fun _ _=>False) 0 (fun _=>0) (fun _=>none) b o:=by
 rintro b o (h|⟨k,hk,_⟩|⟨j,h⟩)
 ·exact h
 ·exact absurd hk (Nat.not_lt_zero k)
 ·cases h
theorem ZW {o:Obj} {f:FuncId} {ps:List PU} (h:ci (LL o) f ps [] (.ret (.bool true) [])) {W:World} {vs:Array Value} (x:v8 (LL o) W vs (fun _ _=>False) (fun _=>0) (fun _=>none) (fun _=> #[]) ps []):
  Calls Tryz.prog f vs W fun e W'=>e= .returned (.bool true)/\Kept W W':=by
 refine (h.2 W vs _ _ _ _ x).mono ?_
 rintro e W' he
 cases e with
 |returned z=>
  obtain ⟨ν',δ',hb,j⟩:=he
  have j:qF (LL o) W' _ _ z (.bool true):=j
  cases j
  refine ⟨rfl,hb.ext.os,hb.ext.output,hb.ext.size,fun b q=>hb.ext.block b q fun A=> ?_⟩
  simp [TH] at A
 |panicked B=>exact he.elim
 |outgrown=>exact he.elim
theorem akK {H:Type}:(Rows.laid_math_bits_deBruijn32tab:DataW H)=Lib.tabData .u8 (Lib.deBruijn32tab.map fun n:Nat=>(n:Int)):=rfl
theorem akL {W:World} (h:laidMetH Tryz.prog [("math/bits.deBruijn32tab",Rows.laid_math_bits_deBruijn32tab)] W): ∃o,ai o/\W.heap[0]? =some o:=by
 have h':laidMet Tryz.prog [("math/bits.deBruijn32tab",Rows.laid_math_bits_deBruijn32tab)] W:=h
 rw [akK] at h'
 have z:Lib.TabIs Tryz.prog W "math/bits.deBruijn32tab" .u8 (Lib.deBruijn32tab.map fun n:Nat=>(n:Int)):=
  Lib.tabIs_of_head (rest:=[]) KM (by kernel_rfl) Tryz.underlying233 Tryz.underlying5 (by kernel_rfl) (by kernel_rfl) h'
 have hc: ∀j,j<Lib.deBruijn32tab.length->W.cell? ⟨0,j,none⟩=some (.int .u8 (Lib.deBruijn32tab.getD j 0:Nat)):=fun j hj=>by
  rw [z.cell KM j (by simpa using hj)]
  simp [List.getD,hj]
 have x:=hc 0 (by decide)
 cases q:W.heap[0]? with
 |none=>simp [World.cell?,q] at x
 |some o=>
  cases o with
  |cells cur e A=>
   refine ⟨_,⟨cur,e,A,rfl,fun j hj=> ?_⟩,rfl⟩
   have:=hc j hj
   simpa [World.cell?,q] using this
  |_=>simp [World.cell?,q] at x
end
end
section
noncomputable section
abbrev Rw (S:Type):=List PU->List (qJ UU)->(Out UU->Option S)->Option S
abbrev Kn (S:Type):=(Out UU->Option S)->Option S
noncomputable def iI (n:Int):PU:= .int .i64 n
noncomputable def iU (n:Int):PU:= .int .u32 n
noncomputable def pt (i:Nat):PU:= .ptr i 0
noncomputable def aT (t:Tm):PU:= .agg [.int .i64 t.k,.int .i64 t.n,.str t.name,bZ t.r .none,dO t.c .none,dN t.s .none]
noncomputable def aC (c:Cl):PU:= .agg [.int .u32 c.pos,.int .u32 c.neg]
noncomputable def aB (b:Br Tm):PU:= .agg [bZ b.f .none,dO b.c .none]
noncomputable def bT (t:Tm):qJ UU:= .cells [.int .i64 t.k,.int .i64 t.n,.str t.name,bZ t.r .none,dO t.c .none,dN t.s .none]
noncomputable def bC (c:Cl):qJ UU:= .cells [.int .u32 c.pos,.int .u32 c.neg]
noncomputable def bI (n:Int):qJ UU:= .cells [.int .i64 n]
noncomputable def bb (b:Bool):qJ UU:= .cells [.bool b]
noncomputable def sC (l:List Cl):PU:=bZ l .none
noncomputable def sT (l:List Tm):PU:=dO l .none
noncomputable def sB (l:List (Br Tm)):PU:=dN l .none
structure Cd where
 D:Type->Type
 k:{ρ:Type}->ρ->D ρ
 dec:{ρ:Type}->D ρ->PU->Option ρ
 A:{ρ:Type}->D ρ->(PU->ρ->Prop)->Prop
 law: ∀ {ρ:Type} (f:D ρ) (v:PU) (r:ρ) (Q:PU->ρ->Prop),A f Q->dec f v=some r->Q v r
structure Cs where
 D:Type->Type
 n:Nat
 k:{ρ:Type}->ρ->D ρ
 dec:{ρ:Type}->D ρ->List PU->Option ρ
 A:{ρ:Type}->D ρ->(List PU->ρ->Prop)->Prop
 law: ∀ {ρ:Type} (f:D ρ) (v:List PU) (r:ρ) (Q:List PU->ρ->Prop),A f Q->dec f v=some r->Q v r
 len: ∀ {ρ:Type} (f:D ρ) (v:List PU) (r:ρ),dec f v=some r->v.length=n
structure Bs where
 D:Type->Type
 n:Nat
 k:{ρ:Type}->ρ->D ρ
 dec:{ρ:Type}->D ρ->List (qJ UU)->Option ρ
 A:{ρ:Type}->D ρ->(List (qJ UU)->ρ->Prop)->Prop
 law: ∀ {ρ:Type} (f:D ρ) (v:List (qJ UU)) (r:ρ) (Q:List (qJ UU)->ρ->Prop),A f Q->dec f v=some r->Q v r
 len: ∀ {ρ:Type} (f:D ρ) (v:List (qJ UU)) (r:ρ),dec f v=some r->v.length=n
noncomputable def cn:Cs where
 D ρ:=ρ
 n:=0
 k r:=r
 dec f:=fun|[]=>some f|_=> .none
 A f Q:=Q [] f
 law f v r Q h e:=by split at e<;>cases e;exact h
 len f v r e:=by split at e<;>cases e;rfl
noncomputable def cc (c:Cd) (s:Cs):Cs where
 D ρ:=c.D (s.D ρ)
 n:=s.n+1
 k r:=c.k (s.k r)
 dec f:=fun|v::l=>(c.dec f v).bind fun g=>s.dec g l|[]=> .none
 A f Q:=c.A f fun v g=>s.A g fun l r=>Q (v::l) r
 law f v r Q h e:=by
  split at e
  ·obtain ⟨g,h1,h2⟩:=Option.bind_eq_some_iff.1 e
   have:=s.law g _ r _ (c.law f _ g _ h h1) h2;exact this
  ·cases e
 len f v r e:=by
  split at e
  ·obtain ⟨g,h1,h2⟩:=Option.bind_eq_some_iff.1 e
   simp [s.len g _ r h2]
  ·cases e
noncomputable def xn:Bs where
 D ρ:=ρ
 n:=0
 k r:=r
 dec f:=fun|[]=>some f|_=> .none
 A f Q:=Q [] f
 law f v r Q h e:=by split at e<;>cases e;exact h
 len f v r e:=by split at e<;>cases e;rfl
noncomputable def xc (c:Cs) (s:Bs):Bs where
 D ρ:=c.D (s.D ρ)
 n:=s.n+1
 k r:=c.k (s.k r)
 dec f:=fun| .cells v::l=>(c.dec f v).bind fun g=>s.dec g l|_=> .none
 A f Q:=c.A f fun v g=>s.A g fun l r=>Q (.cells v::l) r
 law f v r Q h e:=by
  split at e
  ·obtain ⟨g,h1,h2⟩:=Option.bind_eq_some_iff.1 e
   have:=s.law g _ r _ (c.law f _ g _ h h1) h2;exact this
  ·cases e
 len f v r e:=by
  split at e
  ·obtain ⟨g,h1,h2⟩:=Option.bind_eq_some_iff.1 e
   simp [s.len g _ r h2]
  ·cases e
noncomputable def cI:Cd where
 D ρ:=Int->ρ
 k r:=fun _=>r
 dec f:=fun| .int .i64 n=>some (f n)|_=> .none
 A f Q:= ∀n:Int,Q (iI n) (f n)
 law f v r Q h e:=by split at e<;>cases e;exact h _
noncomputable def cU:Cd where
 D ρ:=Int->ρ
 k r:=fun _=>r
 dec f:=fun| .int .u32 n=>some (f n)|_=> .none
 A f Q:= ∀n:Int,Q (iU n) (f n)
 law f v r Q h e:=by split at e<;>cases e;exact h _
noncomputable def cN (kd:IntKind):Cd where
 D ρ:=Int->ρ
 k r:=fun _=>r
 dec f:=fun| .int q n=>(match decEq q kd with| .isTrue _=>some (f n)| .isFalse _=> .none)|_=> .none
 A f Q:= ∀n:Int,Q (.int kd n) (f n)
 law f v r Q h e:=by
  split at e
  ·split at e
   ·rename_i j _;subst j;cases e;exact h _
   ·cases e
  ·cases e
noncomputable def cb:Cd where
 D ρ:=Bool->ρ
 k r:=fun _=>r
 dec f:=fun| .bool n=>some (f n)|_=> .none
 A f Q:= ∀n:Bool,Q (.bool n) (f n)
 law f v r Q h e:=by split at e<;>cases e;exact h _
noncomputable def cs:Cd where
 D ρ:=ByteArray->ρ
 k r:=fun _=>r
 dec f:=fun| .str n=>some (f n)|_=> .none
 A f Q:= ∀n:ByteArray,Q (.str n) (f n)
 law f v r Q h e:=by split at e<;>cases e;exact h _
noncomputable def lC:Cd where
 D ρ:=List Cl->ρ
 k r:=fun _=>r
 dec f:=fun| .sl .C n .none=>some (f n)|_=> .none
 A f Q:= ∀n:List Cl,Q (sC n) (f n)
 law f v r Q h e:=by split at e<;>cases e;exact h _
noncomputable def lT:Cd where
 D ρ:=List Tm->ρ
 k r:=fun _=>r
 dec f:=fun| .sl .T n .none=>some (f n)|_=> .none
 A f Q:= ∀n:List Tm,Q (sT n) (f n)
 law f v r Q h e:=by split at e<;>cases e;exact h _
noncomputable def lB:Cd where
 D ρ:=List (Br Tm)->ρ
 k r:=fun _=>r
 dec f:=fun| .sl .B n .none=>some (f n)|_=> .none
 A f Q:= ∀n:List (Br Tm),Q (sB n) (f n)
 law f v r Q h e:=by split at e<;>cases e;exact h _
noncomputable def lI:Cd where
 D ρ:=List Int->ρ
 k r:=fun _=>r
 dec f:=fun| .sl .I n .none=>some (f n)|_=> .none
 A f Q:= ∀n:List Int,Q (la n .none) (f n)
 law f v r Q h e:=by split at e<;>cases e;exact h _
noncomputable def lF:Cd where
 D ρ:=List (List Cl)->ρ
 k r:=fun _=>r
 dec f:=fun| .sl .F n .none=>some (f n)|_=> .none
 A f Q:= ∀n:List (List Cl),Q (Hm n .none) (f n)
 law f v r Q h e:=by split at e<;>cases e;exact h _
noncomputable def lD:Cd where
 D ρ:=List Df->ρ
 k r:=fun _=>r
 dec f:=fun| .sl .D n .none=>some (f n)|_=> .none
 A f Q:= ∀n:List Df,Q (Mg n .none) (f n)
 law f v r Q h e:=by split at e<;>cases e;exact h _
noncomputable def lG:Cd where
 D ρ:=List Df->ρ
 k r:=fun _=>r
 dec f:=fun| .sl .G n .none=>some (f n)|_=> .none
 A f Q:= ∀n:List Df,Q (RL n .none) (f n)
 law f v r Q h e:=by split at e<;>cases e;exact h _
noncomputable def hC:Cd where
 D ρ:=List Cl->ρ
 k r:=fun _=>r
 dec f:=fun| .fresh .C n=>some (f n)|_=> .none
 A f Q:= ∀n:List Cl,Q (Ev n) (f n)
 law f v r Q h e:=by split at e<;>cases e;exact h _
noncomputable def hT:Cd where
 D ρ:=List Tm->ρ
 k r:=fun _=>r
 dec f:=fun| .fresh .T n=>some (f n)|_=> .none
 A f Q:= ∀n:List Tm,Q (frT n) (f n)
 law f v r Q h e:=by split at e<;>cases e;exact h _
noncomputable def hB:Cd where
 D ρ:=List (Br Tm)->ρ
 k r:=fun _=>r
 dec f:=fun| .fresh .B n=>some (f n)|_=> .none
 A f Q:= ∀n:List (Br Tm),Q (Tv n) (f n)
 law f v r Q h e:=by split at e<;>cases e;exact h _
noncomputable def nB:Cd where
 D ρ:=ρ
 k r:=r
 dec f:=fun| .sl .B l .nil=>(match (l:List (Br Tm)) with|[]=>some f|_::_=> .none)|_=> .none
 A f Q:=Q (dN [] .nil) f
 law f v r Q h e:=by
  split at e
  ·split at e
   ·cases e;exact h
   ·cases e
  ·cases e
noncomputable def cT:Cd where
 D ρ:=Tm->ρ
 k r:=fun _=>r
 dec f:=fun| .agg [.int .i64 a,.int .i64 b,.str c,.sl .C d .none,.sl .T e .none,.sl .B g .none]=>some (f (Tm.mk a b c d e g))|_=> .none
 A f Q:= ∀t:Tm,Q (aT t) (f t)
 law f v r Q h e:=by split at e<;>cases e;exact h (Tm.mk _ _ _ _ _ _)
noncomputable def cC:Cd where
 D ρ:=Cl->ρ
 k r:=fun _=>r
 dec f:=fun| .agg [.int .u32 a,.int .u32 b]=>some (f ⟨a,b⟩)|_=> .none
 A f Q:= ∀t:Cl,Q (aC t) (f t)
 law f v r Q h e:=by split at e<;>cases e;exact h (⟨_,_⟩)
noncomputable def cB:Cd where
 D ρ:=Br Tm->ρ
 k r:=fun _=>r
 dec f:=fun| .agg [.sl .C a .none,.sl .T b .none]=>some (f (Br.mk a b))|_=> .none
 A f Q:= ∀t:Br Tm,Q (aB t) (f t)
 law f v r Q h e:=by split at e<;>cases e;exact h (Br.mk _ _)
noncomputable def xT (s:Bs):Bs where
 D ρ:=Tm->s.D ρ
 n:=s.n+1
 k r:=fun _=>s.k r
 dec f:=fun| .cells [.int .i64 a,.int .i64 b,.str c,.sl .C d .none,.sl .T e .none,.sl .B g .none]::l=>s.dec (f (Tm.mk a b c d e g)) l|_=> .none
 A f Q:= ∀t:Tm,s.A (f t) fun l r=>Q (bT t::l) r
 law f v r Q h e:=by
  split at e
  ·have:=s.law _ _ r _ (h (Tm.mk _ _ _ _ _ _)) e;exact this
  ·cases e
 len f v r e:=by
  split at e
  ·simp [s.len _ _ r e]
  ·cases e
noncomputable def xC (s:Bs):Bs where
 D ρ:=Cl->s.D ρ
 n:=s.n+1
 k r:=fun _=>s.k r
 dec f:=fun| .cells [.int .u32 a,.int .u32 b]::l=>s.dec (f ⟨a,b⟩) l|_=> .none
 A f Q:= ∀t:Cl,s.A (f t) fun l r=>Q (bC t::l) r
 law f v r Q h e:=by
  split at e
  ·have:=s.law _ _ r _ (h (⟨_,_⟩)) e;exact this
  ·cases e
 len f v r e:=by
  split at e
  ·simp [s.len _ _ r e]
  ·cases e
noncomputable def xI (s:Bs):Bs where
 D ρ:=Int->s.D ρ
 n:=s.n+1
 k r:=fun _=>s.k r
 dec f:=fun| .cells [.int .i64 a]::l=>s.dec (f a) l|_=> .none
 A f Q:= ∀t:Int,s.A (f t) fun l r=>Q (bI t::l) r
 law f v r Q h e:=by
  split at e
  ·have:=s.law _ _ r _ (h _) e;exact this
  ·cases e
 len f v r e:=by
  split at e
  ·simp [s.len _ _ r e]
  ·cases e
noncomputable def cp (i:Nat):Cd where
 D ρ:=ρ
 k r:=r
 dec f:=fun| .ptr j 0=>(match decEq j i with| .isTrue _=>some f| .isFalse _=> .none)|_=> .none
 A f Q:=Q (pt i) f
 law f v r Q h e:=by
  split at e
  ·split at e
   ·rename_i q _;subst q;cases e;exact h
   ·cases e
  ·cases e
noncomputable def cg (s:Cs):Cd where
 D ρ:=s.D ρ
 k r:=s.k r
 dec f:=fun| .agg l=>s.dec f l|_=> .none
 A f Q:=s.A f fun l r=>Q (.agg l) r
 law f v r Q h e:=by
  split at e
  ·have:=s.law f _ r _ h e;exact this
  ·cases e
noncomputable def cf (i:Nat) (s:Cs) (u:Cs):Cd where
 D ρ:=s.D (u.D ρ)
 k r:=s.k (u.k r)
 dec f:=fun| .func j l m=>(match decEq j i with| .isTrue _=>(s.dec f l).bind fun g=>u.dec g m| .isFalse _=> .none)|_=> .none
 A f Q:=s.A f fun l g=>u.A g fun m r=>Q (.func i l m) r
 law f v r Q h e:=by
  split at e
  ·split at e
   ·rename_i q _
    subst q
    obtain ⟨g,h1,h2⟩:=Option.bind_eq_some_iff.1 e
    have:=u.law g _ r _ (s.law f _ g _ h h1) h2;exact this
   ·cases e
  ·cases e
noncomputable def aj {S:Type} (K:Cs) (B:Bs) (F:K.D (B.D (Kn S))):Rw S:=fun vs bs κ=>(K.dec F vs).bind fun g=>(B.dec g bs).bind fun h=>h κ
noncomputable def uy (K:Cs) (B:Bs) (vs:List PU) (bs:List (qJ UU)):Bool:=((K.dec (K.k (B.k ())) vs).bind fun g=>B.dec g bs).isSome
noncomputable def AA {S:Type} (K:Cs) (B:Bs) (F:K.D (B.D (Kn S))) (Q:List PU->List (qJ UU)->Kn S->Prop):Prop:=K.A F fun vs g=>B.A g fun bs h=>Q vs bs h
theorem Ay {S:Type} {K:Cs} {B:Bs} {F:K.D (B.D (Kn S))} {Q:List PU->List (qJ UU)->Kn S->Prop} (hA:AA K B F Q) {vs:List PU} {bs:List (qJ UU)} {κ:Out UU->Option S} {x:S} (h:aj K B F vs bs κ=some x):
  ∃g,Q vs bs g/\g κ=some x/\vs.length=K.n/\bs.length=B.n:=by
 obtain ⟨g,h1,h2⟩:=Option.bind_eq_some_iff.1 h
 obtain ⟨u,j,q⟩:=Option.bind_eq_some_iff.1 h2
 have:=K.law F vs g _ hA h1
 have:=B.law g bs u _ this j
 exact ⟨u,this,q,K.len _ _ _ h1,B.len _ _ _ j⟩
noncomputable def Tl {S:Type} (o:Obj) (f:Nat) (r:Rw S):Prop:= ∀vs bs κ x,r vs bs κ=some x-> ∃out,ci (LL o) f vs bs out/\κ out=some x
noncomputable def vt {S:Type}:List (Nat×Rw S)->tQ UU S
 |[],_,_,_,_=> .none
 |(g,r)::l,f,vs,bs,κ=>bif rK f g then r vs bs κ else vt l f vs bs κ
noncomputable def TA {S:Type} (o:Obj):List (Nat×Rw S)->Prop
 |[]=>True
 |(f,r)::l=>Tl o f r/\TA o l
theorem TA.tells {S:Type} {o:Obj}: ∀ {l:List (Nat×Rw S)},TA o l->(vt l).Tells (ci (LL o))
 |[],_,f,vs,bs,κ,x,h=>by cases h
 |(g,r)::l,hl,f,vs,bs,κ,x,h=>by
  unfold vt at h
  cases hb:rK f g with
  |true=>
   rw [hb] at h
   have:=Nat.eq_of_beq_eq_true hb
   subst this
   exact hl.1 _ _ _ _ h
  |false=>
   rw [hb] at h
   exact TA.tells hl.2 _ _ _ _ _ h
noncomputable def ol {S:Type} (b:List PU->List (qJ UU)->Bool) (r q:Rw S):Rw S:=fun vs bs κ=>bif b vs bs then r vs bs κ else q vs bs κ
theorem vw {S:Type} {o:Obj} {f:Nat} {b:List PU->List (qJ UU)->Bool} {r q:Rw S} (h1:Tl o f r) (h2:Tl o f q):Tl o f (ol b r q):=fun vs bs κ x h=>by
 unfold ol at h
 rcases ZM h with h|h
 ·exact h1 _ _ _ _ h
 ·exact h2 _ _ _ _ h
structure Fx (S:Type) where
 sd:tR UU
 rows:List (Nat×Rw S)
 loops:List (Nat×EH×List Bool)
 k:Nat
 fn:Func
 kp:Bool
 hn:List Bool
 nb:Nat
 cd:Option (PU->tQ UU S)
noncomputable def Jm:List (Nat×EH×List Bool)->Nat->Option EH
 |[],_=> .none
 |(i,a,_)::l,n=>bif rK n i then some a else Jm l n
noncomputable def Fl:List (Nat×EH×List Bool)->Nat->EH×List Bool
 |[],_=>(⟨[],[]⟩,[])
 |(i,a)::l,n=>bif rK n i then a else Fl l n
noncomputable def aS (rs:List Nat) (bs:List (Nat×Nat)):EH:=⟨rs.map fun n=>(n,.none),bs.map fun p=>(p.1,List.replicate p.2 .none)⟩
noncomputable def ap:Nat->Nat->List Bool
 |0,_=>[]
 |n+1,b=>rK (b%2) 1::ap n (b/2)
noncomputable def fx {S:Type} (nt:Nat) (h:Nat->List Bool) (ip:Nat->Bool) (rows:List (Nat×Rw S)) (loops:List (Nat×EH×List Bool)) (k:Nat) (fn:Func) (kp:Bool) (hn:List Bool) (nb:Nat):Fx S:=
 ⟨⟨nt,h,ip,.none,fun _=>false⟩,rows,loops,k,fn,kp,hn,nb,.none⟩
noncomputable def fp {S:Type} (nt:Nat) (rows:List (Nat×Rw S)) (loops:List (Nat×EH×List Bool)) (k:Nat) (fn:Func) (nb:Nat):Fx S:=fx nt (fun _=>[]) (fun _=>false) rows loops k fn false [] nb
variable {S:Type}
noncomputable def Fx.oc (F:Fx S):tQ UU S:=vt F.rows
noncomputable def Fx.an (F:Fx S):Nat->Option EH:=Jm F.loops
noncomputable def Fx.go (F:Fx S) (c:Code) (σ:St UU) (κ:Ex UU->St UU->Option S):Option S:=PI.run VV F.sd F.oc F.an F.k c σ κ
noncomputable def Fx.kt (F:Fx S) (κ:Out UU->Option S) (p:List Bool) (h:List (St UU->Option S)):Ex UU->St UU->Option S:=match F.cd with
 | .none=>kn VV F.sd F.oc F.an F.k (Nb F.fn) p h F.an (kF VV F.oc F.kp F.hn F.fn F.nb κ)
 |some C=>Lz VV F.sd F.oc F.an F.k (Nb F.fn) p h F.an (kF VV F.oc F.kp F.hn F.fn F.nb κ) (kD VV F.oc C F.kp F.hn F.fn F.nb κ)
noncomputable def Fx.run (F:Fx S) (vs:List PU) (bs:List (qJ UU)) (κ:Out UU->Option S):Option S:=match F.cd with
 | .none=>rC VV F.sd F.oc F.an F.k F.kp F.hn F.fn vs bs κ
 |some C=>G4 VV F.sd F.oc F.an F.k C F.kp F.hn F.fn vs bs κ
noncomputable def Fx.A (F:Fx S) (i:Nat):EH:=(Fl F.loops i).1
noncomputable def Fx.p (F:Fx S) (i:Nat):List Bool:=(Fl F.loops i).2
noncomputable def Fx.lp (F:Fx S) (κ:Out UU->Option S) (i:Nat) (h:List (St UU->Option S)) (n:Nat) (σ:St UU):Option S:=
 uR (Ie (F.A i)) (fun σ κ=>F.go (g9 (Nb F.fn) (F.p i++[false])) σ κ) n σ (F.kt κ (F.p i) h)
noncomputable def Fx.st (F:Fx S) (κ:Out UU->Option S) (i:Nat) (h:List (St UU->Option S)) (r:St UU->Option S) (σ:St UU):Option S:=
 F.go (g9 (Nb F.fn) (F.p i++[false])) σ (back (Ie (F.A i)) r (F.kt κ (F.p i) h))
noncomputable def Fx.jn (F:Fx S) (κ:Out UU->Option S) (i:Nat) (h:List (St UU->Option S)) (n:Nat) (σ:St UU):Option S:=
 ER (fun σ κ=>F.go (g9 (Nb F.fn) (F.p i)) σ κ) n σ (F.kt κ (F.p i) h)
noncomputable def Fx.sj (F:Fx S) (κ:Out UU->Option S) (i:Nat) (h:List (St UU->Option S)) (σ:St UU):Option S:=F.go (g9 (Nb F.fn) (F.p i)) σ (F.kt κ (F.p i) h)
theorem Fx.lp_succ (F:Fx S) (κ:Out UU->Option S) (i:Nat) (h:List (St UU->Option S)) (n:Nat) (σ:St UU):F.lp κ i h (n+1) σ=F.st κ i h (fun τ=>F.lp κ i h n τ) σ:=rfl
theorem Fx.jn_succ (F:Fx S) (κ:Out UU->Option S) (i:Nat) (h:List (St UU->Option S)) (n:Nat) (σ:St UU):F.jn κ i h (n+1) σ=F.sj κ i h σ:=rfl
noncomputable def vu (F:Fx S) (n m:Nat):Bool:=(F.fn.name== "runtime.NumGoroutine")==false&&(F.fn.body.isNone==false&&(rK F.fn.ntmps F.sd.nt&&(bu F.sd.nt 1000000&&(bu n F.sd.nt&&bu m 1000000))))
theorem FV {F:Fx S} {n m:Nat} (h:vu F n m=true):(F.fn.name== "runtime.NumGoroutine")=false/\F.fn.body.isNone=false/\F.fn.ntmps=F.sd.nt/\F.sd.nt<=1000000/\n<=F.sd.nt/\m<=1000000:=by
 unfold vu at h
 simp only [qC,beq_iff_eq] at h
 obtain ⟨h1,h2,j,q,x,z⟩:=h
 exact ⟨h1,h2,Nat.eq_of_beq_eq_true j,Nat.le_of_ble_eq_true q,Nat.le_of_ble_eq_true x,Nat.le_of_ble_eq_true z⟩
theorem ak {o:Obj} {K:Cs} {B:Bs} {R:K.D (B.D (Kn S))} (F:Fx S) {f:FuncId} (q:TA o F.rows) (hf:Tryz.prog.funcs[f]? =some F.fn) (hb:vu F K.n B.n=true) (run:AA K B R fun vs bs g=> ∀κ x,g κ=some x->F.run vs bs κ=some x)
  (h1:F.sd.oI= .none:=by rfl) (h2:F.sd.oE=(fun _=>false):=by rfl) (z:F.cd= .none:=by rfl):Tl o f (aj K B R):=fun vs bs κ x h=>by
 obtain ⟨g,A,E,hl,O⟩:=Ay run h
 have j:=A κ x E
 unfold Fx.run at j
 rw [z] at j
 obtain ⟨I,J,L,M,T,W⟩:=FV hb
 exact sw (QJ Ax (Ad o) h1 h2 q.tells hf I J L M (by omega) j)
open Classical in
noncomputable def DB {S:Type} (bs:List (qJ UU)) (κ:Out UU->Option S):Out UU->Option S
 | .ret v cs=>if cs=bs then κ (.ret v []) else .none
 | .panic .. => .none
theorem tlS {S:Type} {o:Obj} {K:Cs} {B:Bs} {R:K.D (B.D (Kn S))} {f:FuncId} {r:Rw S} (h:Tl o f r) (run:AA K B R fun vs bs g=> ∀κ x,g κ=some x->r vs bs (DB bs κ)=some x):Tl o f (aj K B R):=fun vs bs κ x q=>by
 obtain ⟨g,A,q,_⟩:=Ay run q
 obtain ⟨out,z,j⟩:=h _ _ _ _ (A κ x q)
 cases out with
 |panic v cs=>cases j
 |ret v cs=>
  simp only [DB] at j
  split at j
  case isFalse=>cases j
  rename_i hc
  subst hc
  refine ⟨.ret v [], ?_,j⟩
  have e:Out.full cs (.ret v [])=Out.full cs (.ret v cs):=by
   have hb:bu cs.length cs.length=true:=by simp
   simp only [Out.full,hb,cond_true]
   cases cs<;>rfl
  unfold ci
  rw [e]
  exact z
open Classical in
noncomputable def Uv {S:Type} (n m:Nat) (bs:List (qJ UU)) (κ:Out UU->Option S):Out UU->Option S
 | .ret v cs=>match cs[n]? with
  |some (.cells a)=>if bu bs.length 1=false/\Sz bs [.cells (.int .i64 n::a.take m)]=cs then κ (.ret v [.cells (.int .i64 n::a.take m)]) else .none
  |_=> .none
 | .panic .. => .none
theorem fe {S:Type} {o:Obj} {K:Cs} {B:Bs} {R:K.D (B.D (Kn S))} {f:FuncId} {r:Rw S} {n m:Nat} (h:Tl o f r) (run:AA K B R fun vs bs g=> ∀κ x,g κ=some x->r vs bs (Uv n m bs κ)=some x):Tl o f (aj K B R):=fun vs bs κ x q=>by
 obtain ⟨g,A,q,_⟩:=Ay run q
 obtain ⟨out,z,j⟩:=h _ _ _ _ (A κ x q)
 cases out with
 |panic v cs=>cases j
 |ret v cs=>
  simp only [Uv] at j
  split at j
  case h_2=>cases j
  rename_i a ha
  split at j
  case isFalse=>cases j
  rename_i hc
  obtain ⟨hl,hc⟩:=hc
  refine ⟨.ret v _, ?_,j⟩
  have e:Out.full bs (.ret v [.cells (.int .i64 n::a.take m)])=Out.full bs (.ret v cs):=by
   have h1:Out.full bs (.ret v [.cells (.int .i64 n::a.take m)])= .ret v cs:=by
    simp only [Out.full]
    rw [show [(qJ.cells (.int .i64 n::a.take m):qJ UU)].length=1 from rfl,hl,cond_false,hc]
   have h2:cs.length=bs.length:=by
    rw [<-hc];unfold Sz;split<;>(try split)<;>simp
   have E:bu bs.length cs.length=true:=by rw [h2];simp
   rw [h1]
   simp only [Out.full,E,cond_true]
  unfold ci
  rw [e]
  exact z
theorem dz {o:Obj} {K:Cs} {B:Bs} {R:K.D (B.D (Kn S))} {f:FuncId} (j:AA K B R fun vs bs g=> ∀κ x,g κ=some x->False):Tl o f (aj K B R):=fun vs bs κ x h=>by
 obtain ⟨g,q,z,_⟩:=Ay j h
 exact (q κ x z).elim
noncomputable def Tw (nt f:Nat) (fn:Func) (k:Nat):PU->tQ UU S:=fun v g vs bs κ=>bif rK g f&&bu vs.length nt then G5 VV ⟨nt,fun _=>[],fun _=>false,.none,fun _=>false⟩ (vt []) (fun _=> .none) k true [] fn v vs bs κ else .none
theorem yn (o:Obj) {nt f:Nat} {fn:Func} {k:Nat} (hf:Tryz.prog.funcs[f]? =some fn) (hb:vu (fp nt [] [] k fn 0:Fx S) 0 0=true): ∀v u j,EG v u j->(Tw (S:=S) nt f fn k v).Tells (jS (LL o) (jM Tryz.prog u j)):=by
 intro v u j hv g vs bs κ x h
 unfold Tw at h
 cases hc:rK g f&&bu vs.length nt with
 |false=>rw [hc] at h;cases h
 |true=>
  rw [hc] at h
  rw [qC] at hc
  have:=Nat.eq_of_beq_eq_true hc.1
  subst this
  obtain ⟨q,z,A,B,_,_⟩:=FV hb
  exact sw (aiz Ax (Ad o) rfl rfl (TA.tells (l:=[]) (o:=o) trivial) hf q z A B hv (Nat.le_of_ble_eq_true hc.2) h)
theorem BZ {o:Obj} {K:Cs} {B:Bs} {R:K.D (B.D (Kn S))} (F:Fx S) {f:FuncId} {C:PU->tQ UU S} (z:F.cd=some C) (hC: ∀v u q,EG v u q->(C v).Tells (jS (LL o) (jM Tryz.prog u q))) (A:TA o F.rows) (hf:Tryz.prog.funcs[f]? =some F.fn) (hb:vu F K.n B.n=true)
  (run:AA K B R fun vs bs g=> ∀κ x,g κ=some x->F.run vs bs κ=some x) (h1:F.sd.oI= .none:=by rfl):Tl o f (aj K B R):=fun vs bs κ x h=>by
 obtain ⟨g,E,I,hl,T⟩:=Ay run h
 have j:=E κ x I
 unfold Fx.run at j
 rw [z] at j
 obtain ⟨J,L,M,O,W,Y⟩:=FV hb
 exact sw (aix Ax (Ad o) h1 A.tells hC hf J L M O (by omega) (by omega) j)
theorem qx {o:Obj} {K:Cs} {B:Bs} {R:K.D (B.D (Kn S))} (F:Fx S) {f:FuncId} (h:TA o F.rows) (hf:Tryz.prog.funcs[f]? =some F.fn) (run:AA K B R fun vs bs g=> ∀κ x,g κ=some x->F.run vs bs κ=some x) (hb:vu F K.n B.n=true:=by kernel_rfl)
  (h1:F.sd.oI= .none:=by rfl) (h2:F.sd.oE=(fun _=>false):=by rfl) (j:F.cd= .none:=by rfl):Tl o f (aj K B R):=ak F h hf hb run h1 h2 j
theorem gL {F:Fx S} {κ:Out UU->Option S} {i:Nat} {h:List (St UU->Option S)} {mk:St UU} {l:Nat->Option S} (b:Option S) (j:l 0= .none:=by rfl) (hs: ∀n,l (n+1)=b:=by intros;rfl) (B:F.sj κ i h mk=b:=by intros;kernel_rfl): ∀ (n:Nat),F.jn κ i h n mk=l n:=by
 intro n
 cases n with
 |zero=>intros;rw [j];rfl
 |succ n=>intros;rw [hs,Fx.jn_succ];exact B
theorem cF {F:Fx S} {κ:Out UU->Option S} {i:Nat} {q:List (St UU->Option S)} {j:Type} {mk:j->St UU} {l:Nat->j->Option S} (b:(j->Option S)->j->Option S) (x:l 0=fun h=> .none:=by rfl) (hs: ∀n,l (n+1)=b (l n):=by intros;rfl) (B: ∀ (r:St UU->Option S) h,F.st κ i q r (mk h)=b (fun h=>r (mk h)) h:=by intros;kernel_rfl): ∀ (n:Nat) h,F.lp κ i q n (mk h)=l n h:=by
 intro n
 induction n with
 |zero=>intros;rw [x];rfl
 |succ n z=>
  intros
  rw [hs,Fx.lp_succ,B]
  exact congrArg (fun g=>b g _) (funext fun h=>z h)
theorem nx {F:Fx S} {κ:Out UU->Option S} {i:Nat} {q:List (St UU->Option S)} {h:Type} {mk:h->St UU} {l:Nat->h->Option S} (b:h->Option S) (x:l 0=fun j=> .none:=by rfl) (hs: ∀n,l (n+1)=b:=by intros;rfl) (B: ∀j,F.sj κ i q (mk j)=b j:=by intros;kernel_rfl): ∀ (n:Nat) j,F.jn κ i q n (mk j)=l n j:=by
 intro n
 cases n with
 |zero=>intros;rw [x];rfl
 |succ n=>intros;rw [hs,Fx.jn_succ];exact B _
theorem aL {F:Fx S} {κ:Out UU->Option S} {i:Nat} {x:List (St UU->Option S)} {j q:Type} {mk:j->q->St UU} {l:Nat->j->q->Option S} (b:(j->q->Option S)->j->q->Option S) (z:l 0=fun h x1=> .none:=by rfl) (hs: ∀n,l (n+1)=b (l n):=by intros;rfl) (B: ∀ (r:St UU->Option S) h x1,F.st κ i x r (mk h x1)=b (fun h x1=>r (mk h x1)) h x1:=by intros;kernel_rfl): ∀ (n:Nat) h x1,F.lp κ i x n (mk h x1)=l n h x1:=by
 intro n
 induction n with
 |zero=>intros;rw [z];rfl
 |succ n A=>
  intros
  rw [hs,Fx.lp_succ,B]
  exact congrArg (fun g=>b g _ _) (funext fun h=>funext fun x1=>A h x1)
theorem Lb {F:Fx S} {κ:Out UU->Option S} {i:Nat} {x:List (St UU->Option S)} {h j:Type} {mk:h->j->St UU} {l:Nat->h->j->Option S} (b:h->j->Option S) (z:l 0=fun q x1=> .none:=by rfl) (hs: ∀n,l (n+1)=b:=by intros;rfl) (B: ∀q x1,F.sj κ i x (mk q x1)=b q x1:=by intros;kernel_rfl): ∀ (n:Nat) q x1,F.jn κ i x n (mk q x1)=l n q x1:=by
 intro n
 cases n with
 |zero=>intros;rw [z];rfl
 |succ n=>intros;rw [hs,Fx.jn_succ];exact B _ _
theorem p7 {F:Fx S} {κ:Out UU->Option S} {i:Nat} {z:List (St UU->Option S)} {j q x:Type} {mk:j->q->x->St UU} {l:Nat->j->q->x->Option S} (b:(j->q->x->Option S)->j->q->x->Option S) (A:l 0=fun h x1 x2=> .none:=by rfl) (hs: ∀n,l (n+1)=b (l n):=by intros;rfl) (B: ∀ (r:St UU->Option S) h x1 x2,F.st κ i z r (mk h x1 x2)=b (fun h x1 x2=>r (mk h x1 x2)) h x1 x2:=by intros;kernel_rfl): ∀ (n:Nat) h x1 x2,F.lp κ i z n (mk h x1 x2)=l n h x1 x2:=by
 intro n
 induction n with
 |zero=>intros;rw [A];rfl
 |succ n E=>
  intros
  rw [hs,Fx.lp_succ,B]
  exact congrArg (fun g=>b g _ _ _) (funext fun h=>funext fun x1=>funext fun x2=>E h x1 x2)
theorem lp9 {F:Fx S} {κ:Out UU->Option S} {i:Nat} {T:List (St UU->Option S)} {x z A E I J L M O:Type} {mk:x->z->A->E->I->J->L->M->O->St UU} {l:Nat->x->z->A->E->I->J->L->M->O->Option S} (b:(x->z->A->E->I->J->L->M->O->Option S)->x->z->A->E->I->J->L->M->O->Option S) (W:l 0=fun h x1 x2 x3 x4 x5 x6 j q=> .none:=by rfl) (hs: ∀n,l (n+1)=b (l n):=by intros;rfl) (B: ∀ (r:St UU->Option S) h x1 x2 x3 x4 x5 x6 j q,F.st κ i T r (mk h x1 x2 x3 x4 x5 x6 j q)=b (fun h x1 x2 x3 x4 x5 x6 j q=>r (mk h x1 x2 x3 x4 x5 x6 j q)) h x1 x2 x3 x4 x5 x6 j q:=by intros;kernel_rfl): ∀ (n:Nat) h x1 x2 x3 x4 x5 x6 j q,F.lp κ i T n (mk h x1 x2 x3 x4 x5 x6 j q)=l n h x1 x2 x3 x4 x5 x6 j q:=by
 intro n
 induction n with
 |zero=>intros;rw [W];rfl
 |succ n Y=>
  intros
  rw [hs,Fx.lp_succ,B]
  exact congrArg (fun g=>b g _ _ _ _ _ _ _ _ _) (funext fun h=>funext fun x1=>funext fun x2=>funext fun x3=>funext fun x4=>funext fun x5=>funext fun x6=>funext fun j=>funext fun q=>Y h x1 x2 x3 x4 x5 x6 j q)
theorem aG2 {F:Fx S} {κ:Out UU->Option S} {i:Nat} {ao:List (St UU->Option S)} {E I J L M O T W Y ad j:Type} {mk:E->I->J->L->M->O->T->W->Y->ad->j->St UU} {l:Nat->E->I->J->L->M->O->T->W->Y->ad->j->Option S} (b:(E->I->J->L->M->O->T->W->Y->ad->j->Option S)->E->I->J->L->M->O->T->W->Y->ad->j->Option S) (h0:l 0=fun q x1 x2 x3 x4 x5 x6 x z A h=> .none:=by rfl) (hs: ∀n,l (n+1)=b (l n):=by intros;rfl) (B: ∀ (r:St UU->Option S) q x1 x2 x3 x4 x5 x6 x z A h,F.st κ i ao r (mk q x1 x2 x3 x4 x5 x6 x z A h)=b (fun q x1 x2 x3 x4 x5 x6 x z A h=>r (mk q x1 x2 x3 x4 x5 x6 x z A h)) q x1 x2 x3 x4 x5 x6 x z A h:=by intros;kernel_rfl): ∀ (n:Nat) q x1 x2 x3 x4 x5 x6 x z A h,F.lp κ i ao n (mk q x1 x2 x3 x4 x5 x6 x z A h)=l n q x1 x2 x3 x4 x5 x6 x z A h:=by
 intro n
 induction n with
 |zero=>intros;rw [h0];rfl
 |succ n ih=>
  intros
  rw [hs,Fx.lp_succ,B]
  exact congrArg (fun g=>b g _ _ _ _ _ _ _ _ _ _ _) (funext fun q=>funext fun x1=>funext fun x2=>funext fun x3=>funext fun x4=>funext fun x5=>funext fun x6=>funext fun x=>funext fun z=>funext fun A=>funext fun h=>ih q x1 x2 x3 x4 x5 x6 x z A h)
end
end
section
noncomputable def wG:tR UU:=⟨8,fun _=>[],fun _=>false,.none,fun _=>false⟩
noncomputable def AE {S:Type}:tQ UU S:=fun _ _ _ _=> .none
theorem c1 {S:Type} (κ:Out UU->Option S):rC VV wG AE (fun _=> .none) 5 false [] Tryz.f49 [.sl (U:=UU) ET.C [] .void] [] κ=κ (.ret (bZ [] .none) []):=by kernel_rfl
theorem c2 {S:Type} (l:List Cl) (κ:Out UU->Option S):rC VV wG AE (fun _=> .none) 5 false [] Tryz.f49 [.sl (U:=UU) ET.C l .sure] [] κ=pA (aw 1099511627776 0 l.length) fun _=>κ (.ret (bZ l .none) []):=by kernel_rfl
theorem ahy {S:Type} (o:Obj):(AE (S:=S)).Tells (ci (LL o)):=fun _ _ _ _ _ h=>by cases h
theorem JC (o:Obj) {args:List PU} (hl:args.length=1) {out:Out UU} (h:rC VV wG AE (fun _=> .none) 5 false [] Tryz.f49 args [] some=some out):ci (LL o) 49 args [] out:=by
 obtain ⟨j,h1,h2⟩:=QJ Ax (Ad o) (S:=wG) rfl rfl (ahy o) (f:=49) Tryz.func49 (by kernel_rfl) rfl rfl (by decide) (by rw [hl];decide) h
 injection h1 with h1
 exact h1▸h2
theorem KS {X:rE VV Tryz.prog} {w:World} {vs:Array Value} {N0:aN} {ν:Nat->Nat} {δ:Nat->Option Nat} {ο:Nat->Array Value} {p q:PU} (h:v8 X w vs N0 ν δ ο [p] [])
  (x:vk X w (NB N0 0 ν δ) (gB UU 0 ν) (vs.getD 0 undef) (δ 0) p->vk X w (NB N0 0 ν δ) (gB UU 0 ν) (vs.getD 0 undef) (δ 0) q):v8 X w vs N0 ν δ ο [q] []:=
 {h with
  args:=fun j r hj=>by
   cases j with
   |zero=>
    injection hj with hj
    subst hj
    exact x (h.args 0 p rfl)
   |succ j=>simp at hj}
theorem Z5 (o:Obj) (l:List Cl) {u:Unit} (j:aw 1099511627776 0 l.length=some u):ci (LL o) 49 [bZ l .none] [] (.ret (bZ l .none) []):=by
 refine ⟨⟨Tryz.f49,Tryz.func49,by kernel_rfl,rfl⟩,fun w vs N0 ν δ ο q=> ?_⟩
 have B:qF (LL o) w (NB N0 0 ν δ) (gB UU 0 ν) (vs.getD 0 undef) (bZ l .none):=q.args 0 _ rfl
 generalize hv:vs.getD 0 undef=v at B
 cases B with
 |sl A n c _ _ _ val hl hc _ h1 h2=>
 cases A with
 |none=>
  have z:l=[]:=by
   cases l with
   |nil=>rfl
   |cons x r=>
    obtain ⟨a,ha,_⟩:=h1 0 x rfl 0 _ rfl
    cases ha
  subst z
  exact (JC o (args:=[bZ [] .void]) rfl (c1 some)).2 w vs N0 ν δ ο (KS q fun _=>by
   rw [hv];exact qF.sl (X:=LL o) none n c ET.C (show List Cl from []) .void val hl hc rfl h1 h2)
 |some a=>
  refine (JC o (args:=[bZ l .sure]) rfl (out:= .ret (bZ l .none) []) ((c2 l some).trans (by rw [j];rfl))).2 w vs N0 ν δ ο (KS q fun _=> ?_)
  rw [hv]
  exact qF.sl (X:=LL o) (some a) n c ET.C l .sure val hl hc (fun h=>by cases h) h1 h2
theorem akS {S:Type} (o:Obj) (ho:ai o) (vs:List PU) (bs:List (qJ UU)) (κ:Out UU->Option S) (x:S) (h:G2 vs bs κ=some x): ∃out,ci (LL o) acO vs bs out/\κ out=some x:=by
 unfold G2 at h
 split at h
 case h_2=>cases h
 rename_i κ y
 unfold kq at h
 obtain ⟨u,j,h⟩:=Option.bind_eq_some_iff.1 h
 exact ⟨_,Z5 o y j,h⟩
end
section
noncomputable section
variable {S:Type} (k:Nat)
noncomputable abbrev Al:Ob UU:=⟨0,ET.B,([]:List (Br Tm))⟩
noncomputable abbrev Db:Ob UU:=⟨0,ET.T,([]:List Tm)⟩
noncomputable abbrev Bx:Ob UU:=⟨0,ET.C,([]:List Cl)⟩
noncomputable abbrev Di:PV UU:= .str qw
abbrev qW (n:Nat):Option (Nat×Bool):=some (n,true)
abbrev pr {α:Type}:Option α:= .none
theorem qK {R S:Type} {k:Nat} {f:(R->Option S)->Option S} {g:R->Option S} {a:Option S} {x:S} (h:aa k f g=some x) (e:a=f g:=by kernel_rfl):a=some x:=e.trans (al h)
def pW:Cs:=cc cI (cc lT cn)
def dV:Cs:=cc cI (cc cI cn)
def Ag:Cs:=cc cT (cc cI cn)
def Lh:Cs:=cc cT (cc cI (cc cI (cc (cp 0) cn)))
def fh:Bs:=xI xn
def kX5:Cs:=cc cT (cc (cf 123 cn (cc (cp 0) cn)) cn)
def kX6:Cs:=cc cT (cc (cf 125 cn (cc (cp 0) cn)) cn)
def xX7:Bs:=xc (cc (cf 124 cn (cc (cp 1) (cc (cp 0) cn))) cn) (xI xn)
def kX8:Cs:=cc cT (cc (cp 0) (cc (cp 1) cn))
def xX9:Bs:=xI (xc (cc (cf 124 cn (cc (cp 0) (cc (cp 1) cn))) cn) xn)
def FE:Cs:=cc cT cn
def Si:Cs:=cc cI cn
def Ld:Cs:=cc cs cn
def uG:Cs:=cc cU cn
def ny:Cs:=cc cC cn
def uH:Cs:=cc cC (cc cC cn)
def EU:Cs:=cc cC (cc (cp 0) cn)
def wC:Bs:=xC xn
def Le:Cs:=cc lC (cc (cf 200 cn (cc (cp 0) cn)) cn)
def alt:Bs:=xc (cc lC cn) xn
def eo:Cs:=cc lC cn
def jk:Cs:=cc lC (cc lC cn)
def lS:Cs:=cc cU (cc cI cn)
def EV:Cs:=cc lC (cc cI cn)
def Lf:Cs:=cc lC (cc (cf 175 cn cn) cn)
def sr:Cs:=cc cT (cc cI (cc cI cn))
def Lg:Cs:=cc cT (cc cI (cc cI (cc cb cn)))
def adA:Cs:=cc cT (cc cI (cc cI (cc (cp 0) (cc (cp 1) (cc (cp 2) cn)))))
def Ut:Bs:=xI (xI (xc (cc cb cn) xn))
def adB:Cs:=cc cT (cc (cf 75 cn (cc (cp 0) (cc (cp 1) (cc (cp 2) cn)))) cn)
def EW:Cs:=cc lT cn
def EX:Cs:=cc (cp 0) cn
def adC:Cs:=cc cT (cc (cf 181 cn (cc (cp 0) cn)) cn)
def adD:Cs:=cc lF cn
def adE:Cs:=cc cU (cc cI (cc cI cn))
def Li:Cs:=cc cC (cc cI (cc cI cn))
def Lj:Cs:=cc hC (cc cC (cc (cp 0) (cc (cp 1) cn)))
def b5:Bs:=xI (xI xn)
def aGz:Cs:=cc lC (cc hC (cc (cf 192 cn (cc (cp 0) (cc (cp 1) cn))) cn))
def adG:Cs:=cc lC (cc cI (cc cI cn))
def EY:Cs:=cc (cg (cc cI (cc cI cn))) (cc lC (cc cI cn))
def adH:Cs:=cc (cg (cc cI (cc cI cn))) (cc cT (cc cI (cc cI cn)))
def adI:Cs:=cc (cp 0) (cc (cp 1) (cc (cp 2) cn))
def aDy:Bs:=xI (xI (xT xn))
def aGA:Cs:=cc cT (cc lI (cc (cf 153 cn (cc (cp 0) (cc (cp 1) (cc (cp 2) cn)))) cn))
def adJ:Cs:=cc cT (cc cI (cc cT (cc cI (cc cI cn))))
def E0:Cs:=cc cT (cc (cf 183 cn (cc (cp 0) cn)) cn)
def Ai:Cs:=cc cT (cc cI (cc cT cn))
def adK:Cs:=cc (cp 0) (cc cT (cc cI cn))
def kG:Cs:=cc (cp 0) (cc cT (cc cT cn))
def adL:Cs:=cc cB cn
def E1:Cs:=cc lB (cc (cf 177 cn cn) cn)
def Lk:Cs:=cc lB cn
def aBu:Cs:=cc cT (cc cI (cc lC cn))
def adM:Cs:=cc (cf 212 cn cn) (cc (cp 0) (cc (cp 1) cn))
def hU:Bs:=xI (xc (cc lC cn) xn)
def adO:Cs:=cc (cf 213 cn cn) (cc (cp 0) (cc (cp 1) cn))
def adP:Cs:=cc cI (cc lC cn)
def Ll:Cs:=cc lC (cc (cf 258 cn cn) cn)
def adQ:Cs:=cc lC (cc (cf 259 cn (cc (cp 0) cn)) cn)
def Aj:Cs:=cc lC (cc cC cn)
def E2:Cs:=cc lC (cc lC (cc (cf 256 cn cn) cn))
def aBv:Cs:=cc lC (cc cI (cc lC cn))
def adS:Cs:=cc lC (cc cI (cc (cp 0) (cc (cp 1) (cc (cp 2) cn))))
def aJr:Bs:=xI (xc (cc lC cn) (xc (cc (cf 213 cn cn) cn) xn))
def aGD:Cs:=cc lC (cc cC (cc (cp 0) (cc (cp 1) cn)))
def E3:Cs:=cc lC (cc lC (cc (cf 234 cn (cc (cp 0) (cc (cp 1) cn))) cn))
def Je:Bs:=xI (xc (cc lC cn) (xc (cc (cf 212 cn cn) cn) xn))
def Lm:Cs:=cc (cg (cc (cf 209 cn (cc (cp 0) (cc (cp 1) (cc (cp 2) cn)))) (cc (cf 209 cn (cc (cp 0) (cc (cp 1) (cc (cp 3) cn)))) cn))) (cc cT (cc cI cn))
def alv:Bs:=xI (xc (cc lC cn) (xc (cc (cf 212 cn cn) cn) (xc (cc (cf 213 cn cn) cn) xn)))
def Ln:Cs:=cc cI (cc (cp 0) cn)
def Uw:Bs:=xT xn
def adV:Cs:=cc (cg (cc (cf 209 cn (cc (cp 0) (cc (cp 1) (cc (cp 2) cn)))) (cc (cf 209 cn (cc (cp 0) (cc (cp 1) (cc (cp 3) cn)))) cn))) (cc lT (cc cI (cc (cf 217 cn (cc (cp 4) cn)) cn)))
def alw:Bs:=xI (xc (cc lC cn) (xc (cc (cf 212 cn cn) cn) (xc (cc (cf 213 cn cn) cn) (xI xn))))
def adW:Cs:=cc (cg (cc (cf 209 cn (cc (cp 0) (cc (cp 1) (cc (cp 2) cn)))) (cc (cf 209 cn (cc (cp 0) (cc (cp 1) (cc (cp 3) cn)))) cn))) (cc lT (cc cI (cc (cf 216 cn (cc (cp 4) cn)) cn)))
def aJs:Bs:=xI (xc (cc lC cn) (xc (cc (cf 212 cn cn) cn) (xc (cc (cf 213 cn cn) cn) (xT xn))))
def Lp:Cs:=cc lC (cc cI (cc (cp 0) cn))
def adX:Cs:=cc (cg (cc (cf 218 cn (cc (cp 0) cn)) (cc (cf 218 cn (cc (cp 0) cn)) cn))) (cc cT (cc cI cn))
def aBw:Cs:=cc (cg (cc (cf 218 cn (cc (cp 0) cn)) (cc (cf 218 cn (cc (cp 0) cn)) cn))) (cc lT (cc cI (cc (cf 217 cn (cc (cp 1) cn)) cn)))
def Lq:Cs:=cc (cg (cc (cf 218 cn (cc (cp 0) cn)) (cc (cf 218 cn (cc (cp 0) cn)) cn))) (cc lT (cc cI (cc (cf 216 cn (cc (cp 1) cn)) cn)))
def aJt:Bs:=xI (xT xn)
def Lr:Cs:=cc (cp 0) (cc cT (cc lC cn))
def Ls:Cs:=cc (cp 0) (cc cT cn)
def adY:Cs:=cc cI (cc lC (cc lT cn))
def adZ:Cs:=cc lD (cc cT cn)
def Lt:Cs:=cc (cp 0) (cc cI cn)
def ad0:Cs:=cc (cp 0) (cc cT (cc cI (cc cI cn)))
def Lu:Cs:=cc (cp 0) (cc lC cn)
def s7:Bs:=xI (xT (xI xn))
def ad2:Cs:=cc cT (cc lI (cc (cf 147 cn (cc (cp 0) (cc (cp 1) (cc (cp 2) cn)))) cn))
def aBy:Cs:=cc cT (cc cT (cc lB cn))
def ad4:Cs:=cc (cp 0) (cc cT (cc cT (cc lB cn)))
def ad5:Cs:=cc cT (cc lI (cc (cf 145 cn (cc (cp 0) (cc (cp 1) (cc (cp 2) cn)))) cn))
def ad6:Cs:=cc cT (cc cI (cc cT (cc (cp 0) (cc (cp 1) (cc (cp 2) cn)))))
def aJv:Bs:=xT (xI (xc (cc (cp 3) cn) (xI xn)))
def Lv:Cs:=cc lC (cc lT cn)
def ad8:Cs:=cc (cp 0) (cc lC (cc lC cn))
def ad9:Cs:=cc cT (cc lC (cc cT (cc cC (cc lC cn))))
def ad_:Cs:=cc cT (cc lC (cc cT cn))
def aea:Cs:=cc (cp 0) (cc cT (cc lC (cc cT cn)))
def mw:Bs:=xc (cc cI (cc lC (cc cI (cc cI (cc cs (cc lC (cc lT (cc lB cn)))))))) xn
def adv:Cs:=cc cI (cc cC (cc (cp 0) (cc (cp 1) (cc (cp 2) cn))))
def aJl:Bs:=xc (cc (cp 3) cn) (xT (xT (xc (cc cI (cc lC (cc cI (cc cI (cc cs (cc lC (cc lT (cc lB cn)))))))) xn)))
def adx:Cs:=cc (cp 0) (cc lC (cc cI cn))
def ady:Cs:=cc cI (cc lB (cc lT cn))
def adz:Cs:=cc lB (cc (cf 171 cn cn) cn)
def gi:Cs:=cc cT (cc lB cn)
def aGj:Cs:=cc lC (cc (cf 223 cn (cc (cp 0) cn)) cn)
def cZ:Cs:=cc (cp 0) (cc (cp 1) cn)
def aAw:Bs:=xc (cc (cp 2) cn) (xT (xc (cc cI (cc lC (cc cI (cc cI (cc cs (cc lC (cc lT (cc lB (cc lB (cc cI (cc cI (cc cs (cc lC (cc lT (cc lB (cc cI (cc cI (cc cs (cc lC (cc lT (cc lB cn))))))))))))))))))))) xn))
def aGk:Cs:=cc (cp 0) (cc (cf 162 cn (cc (cp 1) (cc (cp 2) cn))) cn)
def aJm:Bs:=xc (cc cI (cc lC (cc cI (cc cI (cc cs (cc lC (cc lT (cc lB (cc lB (cc cI (cc cI (cc cs (cc lC (cc lT (cc lB (cc cI (cc cI (cc cs (cc lC (cc lT (cc lB cn))))))))))))))))))))) (xc (cc (cp 0) cn) (xT xn))
def aBm:Cs:=cc cB (cc (cp 0) cn)
def kk:Bs:=xc (cc (cp 1) cn) (xc (cc cI (cc lC (cc cI (cc cI (cc cs (cc lC (cc lT (cc lB (cc lB (cc cI (cc cI (cc cs (cc lC (cc lT (cc lB (cc cI (cc cI (cc cs (cc lC (cc lT (cc lB cn))))))))))))))))))))) xn)
def aGl:Cs:=cc lB (cc (cf 163 cn (cc (cp 0) cn)) cn)
def aJn:Bs:=xc (cc cI (cc lC (cc cI (cc cI (cc cs (cc lC (cc lT (cc lB (cc nB (cc cI (cc cI (cc cs (cc lC (cc lT (cc lB (cc cI (cc cI (cc cs (cc lC (cc lT (cc lB cn))))))))))))))))))))) xn
def aBn:Cs:=cc (cp 0) (cc cT (cc cT (cc cT (cc cT cn))))
def aGm:Cs:=cc cT (cc cT (cc cT (cc cT cn)))
def fA:Bs:=xc (cc (cf 164 cn (cc (cp 1) (cc (cp 2) cn))) cn) (xc (cc (cp 3) cn) (xT (xc (cc cI (cc lC (cc cI (cc cI (cc cs (cc lC (cc lT (cc lB (cc lB (cc cI (cc cI (cc cs (cc lC (cc lT (cc lB (cc cI (cc cI (cc cs (cc lC (cc lT (cc lB cn))))))))))))))))))))) xn)))
def aGn:Cs:=cc (cp 0) (cc (cf 166 cn (cc (cp 1) (cc (cp 2) cn))) cn)
def aJo:Bs:=xc (cc cI (cc lC (cc cI (cc cI (cc cs (cc lC (cc lT (cc lB (cc lB (cc cI (cc cI (cc cs (cc lC (cc lT (cc lB (cc cI (cc cI (cc cs (cc lC (cc lT (cc lB cn))))))))))))))))))))) (xc (cc (cf 164 cn (cc (cp 2) (cc (cp 3) cn))) cn) (xc (cc (cp 0) cn) (xT xn)))
def azp:Cs:=cc cB (cc (cp 0) (cc (cp 1) cn))
def aGo:Cs:=cc lB (cc (cf 167 cn (cc (cp 0) (cc (cp 1) cn))) cn)
def aJp:Bs:=xc (cc cI (cc lC (cc cI (cc cI (cc cs (cc lC (cc lT (cc lB (cc lB (cc cI (cc cI (cc cs (cc lC (cc lT (cc lB (cc cI (cc cI (cc cs (cc lC (cc lT (cc lB cn))))))))))))))))))))) xn
def aGp:Cs:=cc lB (cc (cf 105 cn (cc (cp 0) cn)) cn)
def aGq:Cs:=cc (cp 0) (cc (cf 108 cn (cc (cp 1) cn)) cn)
def aJq:Bs:=xc (cc cI (cc lC (cc cI (cc cI (cc cs (cc lC (cc lT (cc lB (cc lB (cc cI (cc cI (cc cs (cc lC (cc lT (cc lB (cc cI (cc cI (cc cs (cc lC (cc lT (cc lB cn))))))))))))))))))))) (xc (cc (cp 0) cn) xn)
def azq:Cs:=cc cT (cc (cp 0) cn)
def aAx:Bs:=xc (cc (cp 1) cn) (xc (cc cI (cc cI (cc cI (cc cs (cc lC (cc lT (cc lB (cc lB cn)))))))) xn)
def aBo:Cs:=cc (cp 0) (cc (cf 111 cn (cc (cp 1) cn)) cn)
def dx:Bs:=xc (cc cI (cc cI (cc cI (cc cs (cc lC (cc lT (cc lB (cc lB cn)))))))) (xc (cc (cp 0) cn) xn)
def eT:Bs:=xc (cc cI (cc cI (cc cI (cc cs (cc lC (cc lT (cc lB (cc lB cn)))))))) xn
def aBp:Cs:=cc (cp 0) (cc (cf 113 cn (cc (cp 1) cn)) cn)
def aDw:Bs:=xc (cc cI (cc cI (cc cI (cc cs (cc lC (cc lT (cc lB (cc lB cn)))))))) (xI xn)
def azr:Cs:=cc cT (cc cT cn)
def aBq:Cs:=cc (cp 0) (cc (cf 114 cn (cc (cp 1) cn)) cn)
def aDx:Bs:=xc (cc (cp 2) cn) (xc (cc lB cn) (xI xn))
def aGr:Cs:=cc lB (cc (cf 119 cn (cc (cp 0) (cc (cp 1) cn))) cn)
def aGs:Cs:=cc cB (cc (cp 0) (cc (cp 1) (cc (cp 2) cn)))
def aAy:Bs:=xc (cc (cp 3) cn) (xT (xT (xI xn)))
def aBr:Cs:=cc lB (cc (cf 121 cn (cc (cp 0) (cc (cp 1) (cc (cp 2) cn)))) cn)
def hr:Bs:=xT (xT xn)
def aBs:Cs:=cc lB (cc (cf 122 cn (cc (cp 0) (cc (cp 1) cn))) cn)
def rO:Bs:=xc (cc lD (cc cI cn)) xn
def aGt:Cs:=cc lT (cc lT (cc (cf 76 cn cn) cn))
def aGu:Cs:=cc cB (cc cB cn)
def aGv:Cs:=cc lB (cc lB (cc (cf 134 cn cn) cn))
def aGw:Cs:=cc lD (cc cT (cc cI cn))
def h0:Cs:=cc lG cn
def aGx:Cs:=cc lT (cc lT cn)
def aOJ:Cs:=cc lG (cc cT (cc cI (cc cI (cc cI cn))))
def aE (κ:Out UU->Option S):Int×Int×ByteArray×List Tm->Option S:=fun r=>κ (.ret (.agg [(iI r.1),(iI r.2.1),(.str r.2.2.1),(bZ [] .nil),(sT r.2.2.2),(dN [] .nil)]) [])
def aA (κ:Out UU->Option S):Int×Int->Option S:=fun r=>κ (.ret (.tuple [(iI r.1),(iI r.2)]) [])
def F9 (κ:Out UU->Option S):Bool->Option S:=fun r=>κ (.ret (.bool r) [])
def KT (c0:Int) (κ:Out UU->Option S):Bool->Option S:=fun r=>κ (.ret (.bool r) [bI c0])
def eJ (κ:Out UU->Option S):Bool×Int->Option S:=fun r=>κ (.ret (.bool r.1) [.cells [(.func 124 [] [(pt 1),(pt 0)])],bI r.2])
def gf (κ:Out UU->Option S):Bool×Int->Option S:=fun r=>κ (.ret (.bool r.1) [bI r.2,.cells [(.func 124 [] [(pt 0),(pt 1)])]])
def da (κ:Out UU->Option S):Int->Option S:=fun r=>κ (.ret (iI r) [])
def Oa (κ:Out UU->Option S):Cl->Option S:=fun r=>κ (.ret (aC r) [])
def Oc (c0:Cl) (κ:Out UU->Option S):Bool->Option S:=fun r=>κ (.ret (.bool r) [bC c0])
def A1 (c0:Cl) (κ:Out UU->Option S):Int->Option S:=fun r=>κ (.ret (iI r) [bC c0])
def ahX (c0:List Cl) (κ:Out UU->Option S):Bool->Option S:=fun r=>κ (.ret (.bool r) [.cells [(sC c0)]])
def xk (κ:Out UU->Option S):List Cl×Int->Option S:=fun r=>κ (.ret (.tuple [(sC r.1),(iI r.2)]) [])
def b_ (κ:Out UU->Option S):Int->Option S:=fun r=>κ (.ret (iU r) [])
def gc (c0 c1:Int) (c2:Bool) (κ:Out UU->Option S):Bool->Option S:=fun r=>κ (.ret (.bool r) [bI c0,bI c1,.cells [(.bool c2)]])
def aF (κ:Out UU->Option S):Tm->Option S:=fun r=>κ (.ret (aT r) [])
def AN (κ:Out UU->Option S):List Tm->Option S:=fun r=>κ (.ret (sT r) [])
def N7 (κ:Out UU->Option S):Bool×Int->Option S:=fun r=>κ (.ret (.bool r.1) [bI r.2])
def ahY (κ:Out UU->Option S):List Cl->Option S:=fun r=>κ (.ret (Ev r) [])
def AO (κ:Out UU->Option S):Int×Int->Option S:=fun r=>κ (.ret (.tuple [(iU r.1),(iI r.2)]) [])
def ahZ (κ:Out UU->Option S):Cl×Int->Option S:=fun r=>κ (.ret (.tuple [(aC r.1),(iI r.2)]) [])
def vA (c0 c1:Int) (κ:Out UU->Option S):List Cl×Int->Option S:=fun r=>κ (.ret (.tuple [(Ev r.1),(iI r.2)]) [bI c0,bI c1])
def N8 (c0 c1:Int) (κ:Out UU->Option S):List Cl×Int->Option S:=fun r=>κ (.ret (.tuple [(sC r.1),(iI r.2)]) [bI c0,bI c1])
def ah0 (κ:Out UU->Option S):sH Int (List Cl)->Option S:=fun r=>sH.elim r (fun r=>κ (.ret (sC r) [])) (fun e=>κ (.panic (.iface 34 (iI e)) []))
def AP (κ:Out UU->Option S):sH Int Tm->Option S:=fun r=>sH.elim r (fun r=>κ (.ret (aT r) [])) (fun e=>κ (.panic (.iface 34 (iI e)) []))
def ah1 (c0 c1:Int) (c2:Tm) (κ:Out UU->Option S):sH Int Tm->Option S:=fun r=>sH.elim r (fun r=>κ (.ret (aT r) [bI c0,bI c1,bT c2])) (fun e=>κ (.panic (.iface 34 (iI e)) [bI c0,bI c1,bT c2]))
def ah (c0 c1:Int) (c2:Tm) (κ:Out UU->Option S):Tm×Int->Option S:=fun r=>κ (.ret (.tuple [(aT r.1),(iI r.2)]) [bI c0,bI c1,bT c2])
def Iu (κ:Out UU->Option S):Tm×Int->Option S:=fun r=>κ (.ret (.tuple [(aT r.1),(iI r.2)]) [])
def AQ (κ:Out UU->Option S):Tm×Int->Option S:=fun r=>κ (.ret (aT r.1) [bI r.2])
def cM (κ:Out UU->Option S):List Cl->Option S:=fun r=>κ (.ret (sC r) [])
def gR (c0:Int) (c1:List Cl) (κ:Out UU->Option S):Unit->Option S:=fun r=>κ (.ret (.func 209 [] [(pt 0),(pt 1),(pt 2)]) [bI c0,.cells [(sC c1)],.cells [(.func 212 [] [])]])
def ah3 (c0:Int) (c1:List Cl) (κ:Out UU->Option S):Unit->Option S:=fun r=>κ (.ret (.func 209 [] [(pt 0),(pt 1),(pt 2)]) [bI c0,.cells [(sC c1)],.cells [(.func 213 [] [])]])
def N9 (κ:Out UU->Option S):Int×List Cl->Option S:=fun r=>κ (.ret (.agg [(.func 209 [] [(pt 0),(pt 1),(pt 2)]),(.func 209 [] [(pt 0),(pt 1),(pt 3)])]) [bI r.1,.cells [(sC r.2)],.cells [(.func 212 [] [])],.cells [(.func 213 [] [])]])
def N_ (κ:Out UU->Option S):Cl×Bool->Option S:=fun r=>κ (.ret (.tuple [(aC r.1),(.bool r.2)]) [])
def mt (c0:Cl) (κ:Out UU->Option S):Cl×Bool->Option S:=fun r=>κ (.ret (.tuple [(aC r.1),(.bool r.2)]) [bC c0])
def tT (c0:Cl) (κ:Out UU->Option S):List Cl->Option S:=fun r=>κ (.ret (sC r) [bC c0])
def ah5 (c0:Int) (c1:List Cl) (κ:Out UU->Option S):List Cl×Int->Option S:=fun r=>κ (.ret (.tuple [(sC r.1),(iI r.2)]) [bI c0,.cells [(sC c1)],.cells [(.func 213 [] [])]])
def kr (c0:Int) (c1:List Cl) (κ:Out UU->Option S):List Cl×Int->Option S:=fun r=>κ (.ret (.tuple [(sC r.1),(iI r.2)]) [bI c0,.cells [(sC c1)]])
def aHm (c0:Int) (c1:List Cl) (κ:Out UU->Option S):List Cl×Int->Option S:=fun r=>κ (.ret (.tuple [(sC r.1),(iI r.2)]) [bI c0,.cells [(sC c1)],.cells [(.func 212 [] [])]])
def ah7 (c0:Int) (c1:List Cl) (κ:Out UU->Option S):List Cl×Int->Option S:=fun r=>κ (.ret (.tuple [(sC r.1),(iI r.2)]) [bI c0,.cells [(sC c1)],.cells [(.func 212 [] [])],.cells [(.func 213 [] [])]])
def ah8 (c0:Tm) (κ:Out UU->Option S):Int->Option S:=fun r=>κ (.ret (iI r) [bT c0])
def AR (c0:Int) (κ:Out UU->Option S):Int->Option S:=fun r=>κ (.ret (iI r) [bI c0])
def qs (c0:Int) (c1:List Cl) (κ:Out UU->Option S):Tm×Int->Option S:=fun r=>κ (.ret (.tuple [(aT r.1),(iI r.2)]) [bI c0,.cells [(sC c1)],.cells [(.func 212 [] [])],.cells [(.func 213 [] [])]])
def vB (c0:Int) (c1:List Cl) (c4:Int) (κ:Out UU->Option S):List Tm×Int->Option S:=fun r=>κ (.ret (.tuple [(sT r.1),(iI r.2)]) [bI c0,.cells [(sC c1)],.cells [(.func 212 [] [])],.cells [(.func 213 [] [])],bI c4])
def re (c0:Int) (c1:List Cl) (c4:Tm) (κ:Out UU->Option S):List Tm×Int->Option S:=fun r=>κ (.ret (.tuple [(sT r.1),(iI r.2)]) [bI c0,.cells [(sC c1)],.cells [(.func 212 [] [])],.cells [(.func 213 [] [])],bT c4])
def aia (κ:Out UU->Option S):Int->Option S:=fun r=>κ (.ret (.agg [(.func 218 [] [(pt 0)]),(.func 218 [] [(pt 0)])]) [bI r])
def o0 (c0:Int) (κ:Out UU->Option S):List Cl×Int->Option S:=fun r=>κ (.ret (.tuple [(sC r.1),(iI r.2)]) [bI c0])
def c9 (c0:Int) (κ:Out UU->Option S):Tm×Int->Option S:=fun r=>κ (.ret (.tuple [(aT r.1),(iI r.2)]) [bI c0])
def AT (c0 c1:Int) (κ:Out UU->Option S):List Tm×Int->Option S:=fun r=>κ (.ret (.tuple [(sT r.1),(iI r.2)]) [bI c0,bI c1])
def AU (c0:Int) (c1:Tm) (κ:Out UU->Option S):List Tm×Int->Option S:=fun r=>κ (.ret (.tuple [(sT r.1),(iI r.2)]) [bI c0,bT c1])
def AV (κ:Out UU->Option S):Tm×Bool×Int->Option S:=fun r=>κ (.ret (.tuple [(aT r.1),(.bool r.2.1)]) [bI r.2.2])
def WY (κ:Out UU->Option S):Tm×Bool->Option S:=fun r=>κ (.ret (.tuple [(aT r.1),(.bool r.2)]) [])
def vC (κ:Out UU->Option S):Int×Int×ByteArray×List Cl×List Tm->Option S:=fun r=>κ (.ret (.agg [(iI r.1),(iI r.2.1),(.str r.2.2.1),(sC r.2.2.2.1),(sT r.2.2.2.2),(dN [] .nil)]) [])
def AW (κ:Out UU->Option S):Tm×Bool×Int×Int->Option S:=fun r=>κ (.ret (.tuple [(aT r.1),(.bool r.2.1),(iI r.2.2.1)]) [bI r.2.2.2])
def AX (κ:Out UU->Option S):Tm×Bool×Int->Option S:=fun r=>κ (.ret (.tuple [(aT r.1),(.bool r.2.1),(iI r.2.2)]) [])
def AY (κ:Out UU->Option S):Int×Int×ByteArray×List Tm×List (Br Tm)->Option S:=fun r=>κ (.ret (.agg [(iI r.1),(iI r.2.1),(.str r.2.2.1),(bZ [] .nil),(dO r.2.2.2.1 .full),(sB r.2.2.2.2)]) [])
def cO (κ:Out UU->Option S):Int->Option S:=fun r=>κ (.ret (.tuple []) [bI r])
def AZ (κ:Out UU->Option S):Int->Option S:=fun r=>κ (.ret (pt 0) [bI r])
def aie (κ:Out UU->Option S):Tm×Int×Int->Option S:=fun r=>κ (.ret (.tuple [(aT r.1),(iI r.2.1)]) [bI r.2.2])
def CP (κ:Out UU->Option S):List Cl×Int->Option S:=fun r=>κ (.ret (sC r.1) [bI r.2])
def aCG (c0:Int) (c1:Tm) (c2:Int) (κ:Out UU->Option S):sH Int Tm->Option S:=fun r=>sH.elim r (fun r=>κ (.ret (aT r) [bI c0,bT c1,bI c2])) (fun e=>κ (.panic (.iface 34 (iI e)) [bI c0,bT c1,bI c2]))
def Th (c0:Int) (c1:Tm) (c2:Int) (κ:Out UU->Option S):Tm×Int->Option S:=fun r=>κ (.ret (.tuple [(aT r.1),(iI r.2)]) [bI c0,bT c1,bI c2])
def A0 (c0:Tm) (c1:Int) (κ:Out UU->Option S):Int×Int×ByteArray×List Tm×Int->Option S:=fun r=>κ (.ret (.agg [(iI r.1),(iI r.2.1),(.str r.2.2.1),(bZ [] .nil),(sT r.2.2.2.1),(dN [] .nil)]) [bT c0,bI c1,.cells [(pt 3)],bI r.2.2.2.2])
def aii (κ:Out UU->Option S):(Br Tm)->Option S:=fun r=>κ (.ret (aB r) [])
def aCH (κ:Out UU->Option S):Int×Int×ByteArray->Option S:=fun r=>κ (.ret (.agg [(iI r.1),(iI r.2.1),(.str r.2.2),(bZ [] .nil),(dO [] .nil),(dN [] .nil)]) [])
def aM (qB:Int) (pw:List Cl) (qm ql:Int) (qv:ByteArray) (qn:List Cl) (qu:List Tm) (py:List (Br Tm)) (κ:Out UU->Option S):Int×Int×ByteArray×List Cl×List Tm->Option S:=fun r=>κ (.ret (.agg [(iI r.1),(iI r.2.1),(.str r.2.2.1),(sC r.2.2.2.1),(sT r.2.2.2.2),(dN [] .nil)]) [.cells [(iI qB),(sC pw),(iI qm),(iI ql),(.str qv),(sC qn),(sT qu),(sB py)]])
def azN (pw:List Cl) (qm ql:Int) (qv:ByteArray) (qn:List Cl) (qu:List Tm) (py:List (Br Tm)) (κ:Out UU->Option S):Int×Int×ByteArray×List Tm×Int->Option S:=fun r=>κ (.ret (.agg [(iI r.1),(iI r.2.1),(.str r.2.2.1),(bZ [] .nil),(sT r.2.2.2.1),(dN [] .nil)]) [.cells [(iI r.2.2.2.2),(sC pw),(iI qm),(iI ql),(.str qv),(sC qn),(sT qu),(sB py)]])
def aHn (pw:List Cl) (qm ql:Int) (qv:ByteArray) (qn:List Cl) (qu:List Tm) (py:List (Br Tm)) (κ:Out UU->Option S):Tm×Int->Option S:=fun r=>κ (.ret (aT r.1) [.cells [(iI r.2),(sC pw),(iI qm),(iI ql),(.str qv),(sC qn),(sT qu),(sB py)]])
def aHo (c1 c2:Tm) (vl:List Cl) (vh vg:Int) (vf:ByteArray) (ve:List Cl) (vc:List Tm) (va:List (Br Tm)) (κ:Out UU->Option S):Int×Int×ByteArray×List Cl×List Tm×Int->Option S:=fun r=>κ (.ret (.agg [(iI r.1),(iI r.2.1),(.str r.2.2.1),(sC r.2.2.2.1),(sT r.2.2.2.2.1),(dN [] .nil)]) [.cells [(pt 3)],bT c1,bT c2,.cells [(iI r.2.2.2.2.2),(sC vl),(iI vh),(iI vg),(.str vf),(sC ve),(sT vc),(sB va)]])
def aCI (κ:Out UU->Option S):Int×Int×ByteArray×List Tm×List (Br Tm)->Option S:=fun r=>κ (.ret (.agg [(iI r.1),(iI r.2.1),(.str r.2.2.1),(bZ [] .nil),(sT r.2.2.2.1),(sB r.2.2.2.2)]) [])
def hZ (κ:Out UU->Option S):List (Br Tm)->Option S:=fun r=>κ (.ret (Tv r) [])
def aCJ (κ:Out UU->Option S):List (Br Tm)->Option S:=fun r=>κ (.ret (sB r) [])
def aHp (c0:Int) (κ:Out UU->Option S):Cl×Bool->Option S:=fun r=>κ (.ret (.tuple [(aC r.1),(.bool r.2)]) [bI c0])
def e5 (c0:Int) (κ:Out UU->Option S):List Cl->Option S:=fun r=>κ (.ret (sC r) [bI c0])
def aCK (c1:Tm) (h:List Cl) (j q:Int) (x:ByteArray) (z:List Cl) (A:List Tm) (B E:List (Br Tm)) (F I:Int) (J:ByteArray) (L:List Cl) (M:List Tm) (O:List (Br Tm)) (T W:Int) (Y:ByteArray) (ad:List Cl) (ao:List Tm) (ax:List (Br Tm)) (κ:Out UU->Option S):Tm×Int->Option S:=fun r=>κ (.ret (aT r.1) [.cells [(pt 2)],bT c1,.cells [(iI r.2),(sC h),(iI j),(iI q),(.str x),(sC z),(sT A),(sB B),(sB E),(iI F),(iI I),(.str J),(sC L),(sT M),(sB O),(iI T),(iI W),(.str Y),(sC ad),(sT ao),(sB ax)]])
def aHq (κ:Out UU->Option S):Tm×Int->Option S:=fun r=>κ (.ret (aT r.1) [.cells [.int .i64 2,(iI r.2)]])
def aHr (pw:List Cl) (qm ql:Int) (qv:ByteArray) (qn:List Cl) (qu:List Tm) (py h:List (Br Tm)) (wc wD:Int) (wv:ByteArray) (wq:List Cl) (wm:List Tm) (wi:List (Br Tm)) (uY uX:Int) (uW:ByteArray) (uV:List Cl) (uU:List Tm) (uT:List (Br Tm)) (c2:Tm) (κ:Out UU->Option S):List (Br Tm)×Int->Option S:=fun r=>κ (.ret (dN r.1 .full) [.cells [(iI r.2),(sC pw),(iI qm),(iI ql),(.str qv),(sC qn),(sT qu),(sB py),(sB h),(iI wc),(iI wD),(.str wv),(sC wq),(sT wm),(sB wi),(iI uY),(iI uX),(.str uW),(sC uV),(sT uU),(sB uT)],.cells [(pt 0)],bT c2])
def aHs (sP:List Cl) (sO sN:Int) (sM:ByteArray) (sK:List Cl) (sJ:List Tm) (sQ tt:List (Br Tm)) (s8 tc:Int) (tb:ByteArray) (ta:List Cl) (s9:List Tm) (td:List (Br Tm)) (th tg:Int) (tf:ByteArray) (te:List Cl) (tP:List Tm) (tM:List (Br Tm)) (κ:Out UU->Option S):(Br Tm)×Int->Option S:=fun r=>κ (.ret (aB r.1) [.cells [(pt 1)],.cells [(iI r.2),(sC sP),(iI sO),(iI sN),(.str sM),(sC sK),(sT sJ),(sB sQ),(sB tt),(iI s8),(iI tc),(.str tb),(sC ta),(sT s9),(sB td),(iI th),(iI tg),(.str tf),(sC te),(sT tP),(sB tM)]])
def gG (sP:List Cl) (sO sN:Int) (sM:ByteArray) (sK:List Cl) (sJ:List Tm) (sQ tt:List (Br Tm)) (s8 tc:Int) (tb:ByteArray) (ta:List Cl) (s9:List Tm) (td:List (Br Tm)) (th tg:Int) (tf:ByteArray) (te:List Cl) (tP:List Tm) (tM:List (Br Tm)) (κ:Out UU->Option S):List (Br Tm)×Int->Option S:=fun r=>κ (.ret (Tv r.1) [.cells [(pt 1)],.cells [(iI r.2),(sC sP),(iI sO),(iI sN),(.str sM),(sC sK),(sT sJ),(sB sQ),(sB tt),(iI s8),(iI tc),(.str tb),(sC ta),(sT s9),(sB td),(iI th),(iI tg),(.str tf),(sC te),(sT tP),(sB tM)]])
def J3 (pw:List Cl) (qm ql:Int) (qv:ByteArray) (qn:List Cl) (qu:List Tm) (py:List (Br Tm)) (uY uX:Int) (uW:ByteArray) (uV:List Cl) (uU:List Tm) (uT:List (Br Tm)) (κ:Out UU->Option S):Int×List (Br Tm)×Int×Int×ByteArray×List Cl×List Tm×List (Br Tm)->Option S:=fun r=>κ (.ret (.tuple []) [.cells [(iI r.1),(sC pw),(iI qm),(iI ql),(.str qv),(sC qn),(sT qu),(sB py),(sB r.2.1),(iI r.2.2.1),(iI r.2.2.2.1),(.str r.2.2.2.2.1),(sC r.2.2.2.2.2.1),(sT r.2.2.2.2.2.2.1),(sB r.2.2.2.2.2.2.2),(iI uY),(iI uX),(.str uW),(sC uV),(sT uU),(sB uT)]])
def aCL (κ:Out UU->Option S):Int×Int×ByteArray×List Tm×Int->Option S:=fun r=>κ (.ret (.agg [(iI r.1),(iI r.2.1),(.str r.2.2.1),(bZ [] .nil),(sT r.2.2.2.1),(dN [] .nil)]) [bI r.2.2.2.2])
def aHt (c1:Tm) (h:List Cl) (j q:Int) (x:ByteArray) (z:List Cl) (A:List Tm) (B E:List (Br Tm)) (F I:Int) (J:ByteArray) (L:List Cl) (M:List Tm) (O:List (Br Tm)) (T W:Int) (Y:ByteArray) (ad:List Cl) (ao:List Tm) (ax:List (Br Tm)) (κ:Out UU->Option S):Int×Int×ByteArray×List Cl×List Tm×Int->Option S:=fun r=>κ (.ret (.agg [(iI r.1),(iI r.2.1),(.str r.2.2.1),(sC r.2.2.2.1),(sT r.2.2.2.2.1),(dN [] .nil)]) [.cells [(pt 2)],bT c1,.cells [(iI r.2.2.2.2.2),(sC h),(iI j),(iI q),(.str x),(sC z),(sT A),(sB B),(sB E),(iI F),(iI I),(.str J),(sC L),(sT M),(sB O),(iI T),(iI W),(.str Y),(sC ad),(sT ao),(sB ax)]])
def aCM (c2:Tm) (vl:List Cl) (vh vg:Int) (vf:ByteArray) (ve:List Cl) (vc:List Tm) (va xu:List (Br Tm)) (xt xE:Int) (xD:ByteArray) (xB:List Cl) (aq_:List Tm) (xA:List (Br Tm)) (xz xy:Int) (xx:ByteArray) (xw:List Cl) (xv:List Tm) (arg:List (Br Tm)) (κ:Out UU->Option S):Int×Int×ByteArray×List Cl×List Tm×Int->Option S:=fun r=>κ (.ret (.agg [(iI r.1),(iI r.2.1),(.str r.2.2.1),(sC r.2.2.2.1),(sT r.2.2.2.2.1),(dN [] .nil)]) [.cells [(.func 164 [] [(pt 1),(pt 2)])],.cells [(pt 3)],bT c2,.cells [(iI r.2.2.2.2.2),(sC vl),(iI vh),(iI vg),(.str vf),(sC ve),(sT vc),(sB va),(sB xu),(iI xt),(iI xE),(.str xD),(sC xB),(sT aq_),(sB xA),(iI xz),(iI xy),(.str xx),(sC xw),(sT xv),(sB arg)]])
def aHu (κ:Out UU->Option S):Int×Int×ByteArray×List Cl×List Tm×Int->Option S:=fun r=>κ (.ret (.agg [(iI r.1),(iI r.2.1),(.str r.2.2.1),(sC r.2.2.2.1),(sT r.2.2.2.2.1),(dN [] .nil)]) [.cells [.int .i64 3,(iI r.2.2.2.2.2)]])
def aHv (pw:List Cl) (qm ql:Int) (qv:ByteArray) (qn:List Cl) (qu:List Tm) (py h:List (Br Tm)) (wc wD:Int) (wv:ByteArray) (wq:List Cl) (wm:List Tm) (wi:List (Br Tm)) (uY uX:Int) (uW:ByteArray) (uV:List Cl) (uU:List Tm) (uT:List (Br Tm)) (c3:Tm) (κ:Out UU->Option S):List (Br Tm)×Int->Option S:=fun r=>κ (.ret (dN r.1 .full) [.cells [(iI r.2),(sC pw),(iI qm),(iI ql),(.str qv),(sC qn),(sT qu),(sB py),(sB h),(iI wc),(iI wD),(.str wv),(sC wq),(sT wm),(sB wi),(iI uY),(iI uX),(.str uW),(sC uV),(sT uU),(sB uT)],.cells [(.func 164 [] [(pt 2),(pt 3)])],.cells [(pt 0)],bT c3])
def aHw (c2:Tm) (vl:List Cl) (vh vg:Int) (vf:ByteArray) (ve:List Cl) (vc:List Tm) (va xu:List (Br Tm)) (xt xE:Int) (xD:ByteArray) (xB:List Cl) (aq_:List Tm) (xA:List (Br Tm)) (xz xy:Int) (xx:ByteArray) (xw:List Cl) (xv:List Tm) (arg:List (Br Tm)) (κ:Out UU->Option S):(Br Tm)×Int->Option S:=fun r=>κ (.ret (aB r.1) [.cells [(.func 164 [] [(pt 1),(pt 2)])],.cells [(pt 3)],bT c2,.cells [(iI r.2),(sC vl),(iI vh),(iI vg),(.str vf),(sC ve),(sT vc),(sB va),(sB xu),(iI xt),(iI xE),(.str xD),(sC xB),(sT aq_),(sB xA),(iI xz),(iI xy),(.str xx),(sC xw),(sT xv),(sB arg)]])
def s4 (c2:Tm) (vl:List Cl) (vh vg:Int) (vf:ByteArray) (ve:List Cl) (vc:List Tm) (va xu:List (Br Tm)) (xt xE:Int) (xD:ByteArray) (xB:List Cl) (aq_:List Tm) (xA:List (Br Tm)) (xz xy:Int) (xx:ByteArray) (xw:List Cl) (xv:List Tm) (arg:List (Br Tm)) (κ:Out UU->Option S):List (Br Tm)×Int->Option S:=fun r=>κ (.ret (Tv r.1) [.cells [(.func 164 [] [(pt 1),(pt 2)])],.cells [(pt 3)],bT c2,.cells [(iI r.2),(sC vl),(iI vh),(iI vg),(.str vf),(sC ve),(sT vc),(sB va),(sB xu),(iI xt),(iI xE),(.str xD),(sC xB),(sT aq_),(sB xA),(iI xz),(iI xy),(.str xx),(sC xw),(sT xv),(sB arg)]])
def aHx (pw:List Cl) (qm ql:Int) (qv:ByteArray) (qn:List Cl) (qu:List Tm) (py h:List (Br Tm)) (wc wD:Int) (wv:ByteArray) (wq:List Cl) (wm:List Tm) (wi:List (Br Tm)) (uY uX:Int) (uW:ByteArray) (uV:List Cl) (uU:List Tm) (uT:List (Br Tm)) (κ:Out UU->Option S):Int×Int×ByteArray×List Tm×List (Br Tm)×Int->Option S:=fun r=>κ (.ret (.agg [(iI r.1),(iI r.2.1),(.str r.2.2.1),(bZ [] .nil),(sT r.2.2.2.1),(sB r.2.2.2.2.1)]) [.cells [(iI r.2.2.2.2.2),(sC pw),(iI qm),(iI ql),(.str qv),(sC qn),(sT qu),(sB py),(sB h),(iI wc),(iI wD),(.str wv),(sC wq),(sT wm),(sB wi),(iI uY),(iI uX),(.str uW),(sC uV),(sT uU),(sB uT)]])
def aHy (sP:List Cl) (sO sN:Int) (sM:ByteArray) (sK:List Cl) (sJ:List Tm) (sQ tt:List (Br Tm)) (s8 tc:Int) (tb:ByteArray) (ta:List Cl) (s9:List Tm) (td:List (Br Tm)) (th tg:Int) (tf:ByteArray) (te:List Cl) (tP:List Tm) (tM:List (Br Tm)) (κ:Out UU->Option S):Int×Int×ByteArray×List Tm×List (Br Tm)×Int->Option S:=fun r=>κ (.ret (.agg [(iI r.1),(iI r.2.1),(.str r.2.2.1),(bZ [] .nil),(sT r.2.2.2.1),(sB r.2.2.2.2.1)]) [.cells [(pt 1)],.cells [(iI r.2.2.2.2.2),(sC sP),(iI sO),(iI sN),(.str sM),(sC sK),(sT sJ),(sB sQ),(sB tt),(iI s8),(iI tc),(.str tb),(sC ta),(sT s9),(sB td),(iI th),(iI tg),(.str tf),(sC te),(sT tP),(sB tM)]])
def q5 (sP:List Cl) (sO sN:Int) (sM:ByteArray) (sK:List Cl) (sJ:List Tm) (sQ tt:List (Br Tm)) (s8 tc:Int) (tb:ByteArray) (ta:List Cl) (s9:List Tm) (td:List (Br Tm)) (th tg:Int) (tf:ByteArray) (te:List Cl) (tP:List Tm) (tM:List (Br Tm)) (κ:Out UU->Option S):List Tm×Int->Option S:=fun r=>κ (.ret (frT r.1) [.cells [(pt 1)],.cells [(iI r.2),(sC sP),(iI sO),(iI sN),(.str sM),(sC sK),(sT sJ),(sB sQ),(sB tt),(iI s8),(iI tc),(.str tb),(sC ta),(sT s9),(sB td),(iI th),(iI tg),(.str tf),(sC te),(sT tP),(sB tM)]])
def aCN (sP:List Cl) (sO sN:Int) (sM:ByteArray) (sK:List Cl) (sJ:List Tm) (sQ tt:List (Br Tm)) (s8 tc:Int) (tb:ByteArray) (ta:List Cl) (s9:List Tm) (td:List (Br Tm)) (th tg:Int) (tf:ByteArray) (te:List Cl) (tP:List Tm) (tM:List (Br Tm)) (κ:Out UU->Option S):Tm×Int->Option S:=fun r=>κ (.ret (aT r.1) [.cells [(pt 1)],.cells [(iI r.2),(sC sP),(iI sO),(iI sN),(.str sM),(sC sK),(sT sJ),(sB sQ),(sB tt),(iI s8),(iI tc),(.str tb),(sC ta),(sT s9),(sB td),(iI th),(iI tg),(.str tf),(sC te),(sT tP),(sB tM)]])
def aHz (κ:Out UU->Option S):Tm×Int->Option S:=fun r=>κ (.ret (aT r.1) [.cells [.int .i64 1,(iI r.2)]])
def aHA (pw:List Cl) (qm ql:Int) (qv:ByteArray) (qn:List Cl) (qu:List Tm) (py h:List (Br Tm)) (wc wD:Int) (wv:ByteArray) (wq:List Cl) (wm:List Tm) (wi:List (Br Tm)) (uY uX:Int) (uW:ByteArray) (uV:List Cl) (uU:List Tm) (uT:List (Br Tm)) (κ:Out UU->Option S):List (Br Tm)×Int->Option S:=fun r=>κ (.ret (dN r.1 .full) [.cells [(iI r.2),(sC pw),(iI qm),(iI ql),(.str qv),(sC qn),(sT qu),(sB py),(sB h),(iI wc),(iI wD),(.str wv),(sC wq),(sT wm),(sB wi),(iI uY),(iI uX),(.str uW),(sC uV),(sT uU),(sB uT)],.cells [(pt 0)]])
def aCO (sP sO:Int) (sN:ByteArray) (sM:List Cl) (sK:List Tm) (sJ sQ:List (Br Tm)) (κ:Out UU->Option S):List Tm×Int->Option S:=fun r=>κ (.ret (sT r.1) [.cells [(pt 1)],.cells [(iI r.2),(iI sP),(iI sO),(.str sN),(sC sM),(sT sK),(sB sJ),(sB sQ)]])
def Sb (pw qm:Int) (ql:ByteArray) (qv:List Cl) (qn:List Tm) (qu py:List (Br Tm)) (κ:Out UU->Option S):List (Br Tm)×Int->Option S:=fun r=>κ (.ret (sB r.1) [.cells [(iI r.2),(iI pw),(iI qm),(.str ql),(sC qv),(sT qn),(sB qu),(sB py)],.cells [(pt 0)]])
def aCP (κ:Out UU->Option S):List (Br Tm)×Int->Option S:=fun r=>κ (.ret (sB r.1) [.cells [.int .i64 0,(iI r.2)]])
def qp (pw qm:Int) (ql:ByteArray) (qv:List Cl) (qn:List Tm) (qu py:List (Br Tm)) (κ:Out UU->Option S):Int×Int×ByteArray×List Tm×Int->Option S:=fun r=>κ (.ret (.agg [(iI r.1),(iI r.2.1),(.str r.2.2.1),(bZ [] .nil),(sT r.2.2.2.1),(dN [] .nil)]) [.cells [(iI r.2.2.2.2),(iI pw),(iI qm),(.str ql),(sC qv),(sT qn),(sB qu),(sB py)]])
def aHB (c0:Int) (κ:Out UU->Option S):List Tm->Option S:=fun r=>κ (.ret (sT r) [bI c0])
def eC (qB pw qm:Int) (ql:ByteArray) (qv:List Cl) (qn:List Tm) (qu py:List (Br Tm)) (c1:Int) (κ:Out UU->Option S):List (Br Tm)->Option S:=fun r=>κ (.ret (sB r) [.cells [(iI qB),(iI pw),(iI qm),(.str ql),(sC qv),(sT qn),(sB qu),(sB py)],bI c1])
def aHC (vm sP sO:Int) (sN:ByteArray) (sM:List Cl) (sK:List Tm) (sJ sQ:List (Br Tm)) (κ:Out UU->Option S):Int×Int×ByteArray×List Tm×List (Br Tm)->Option S:=fun r=>κ (.ret (.tuple [(.agg [(iI r.1),(iI r.2.1),(.str r.2.2.1),(bZ [] .nil),(sT r.2.2.2.1),(dN [] .nil)]),(sB r.2.2.2.2)]) [.cells [(pt 1)],.cells [(iI vm),(iI sP),(iI sO),(.str sN),(sC sM),(sT sK),(sB sJ),(sB sQ)]])
def aHD (κ:Out UU->Option S):Int×Int×ByteArray×List Cl×List Tm->Option S:=fun r=>κ (.ret (.agg [(iI r.1),(iI r.2.1),(.str r.2.2.1),(sC r.2.2.2.1),(dO r.2.2.2.2 .full),(dN [] .nil)]) [])
def aHh (pw qm:Int) (ql:ByteArray) (qv:List Cl) (qn:List Tm) (qu py:List (Br Tm)) (κ:Out UU->Option S):Int×Int×ByteArray×List Tm×List (Br Tm)×Int->Option S:=fun r=>κ (.ret (.agg [(iI r.1),(iI r.2.1),(.str r.2.2.1),(bZ [] .nil),(sT r.2.2.2.1),(sB r.2.2.2.2.1)]) [.cells [(iI r.2.2.2.2.2),(iI pw),(iI qm),(.str ql),(sC qv),(sT qn),(sB qu),(sB py)]])
def aHi (c1:List (Br Tm)) (κ:Out UU->Option S):(Br Tm)×Int->Option S:=fun r=>κ (.ret (aB r.1) [.cells [(pt 2)],.cells [(sB c1)],bI r.2])
def tV (c1:List (Br Tm)) (κ:Out UU->Option S):List (Br Tm)×Int->Option S:=fun r=>κ (.ret (Tv r.1) [.cells [(pt 2)],.cells [(sB c1)],bI r.2])
def aHj (c1 c2:Tm) (κ:Out UU->Option S):(Br Tm)×Int->Option S:=fun r=>κ (.ret (aB r.1) [.cells [(pt 3)],bT c1,bT c2,bI r.2])
def q6 (c1 c2:Tm) (κ:Out UU->Option S):List (Br Tm)×Int->Option S:=fun r=>κ (.ret (Tv r.1) [.cells [(pt 3)],bT c1,bT c2,bI r.2])
def aHk (c0 c1:Tm) (κ:Out UU->Option S):(Br Tm)->Option S:=fun r=>κ (.ret (aB r) [bT c0,bT c1])
def o' (c0 c1:Tm) (κ:Out UU->Option S):List (Br Tm)->Option S:=fun r=>κ (.ret (Tv r) [bT c0,bT c1])
def Sy (qB:List Df) (κ:Out UU->Option S):sH (Int×Int) (Tm×Bool×Int)->Option S:=fun r=>sH.elim r (fun r=>κ (.ret (.tuple [(aT r.1),(.bool r.2.1)]) [.cells [(Mg qB .none),(iI r.2.2)]])) (fun e=>κ (.panic (.iface 34 (iI e.1)) [.cells [(Mg qB .none),(iI e.2)]]))
def sa (qB:List Df) (κ:Out UU->Option S):sH (Int×Int) (Tm×Int)->Option S:=fun r=>sH.elim r (fun r=>κ (.ret (aT r.1) [.cells [(Mg qB .none),(iI r.2)]])) (fun e=>κ (.panic (.iface 34 (iI e.1)) [.cells [(Mg qB .none),(iI e.2)]]))
def aHl (κ:Out UU->Option S):Tm×Int×Int->Option S:=fun r=>κ (.ret (.tuple [(aT r.1),(iI r.2.1),(iI r.2.2)]) [])
def hR (κ:Out UU->Option S):List Df->Option S:=fun r=>κ (.ret (Mg r .none) [])
end
end
section
open Go PI _root_.Go.Proofs.Tryz
noncomputable section
variable {S:Type} {o:Obj} (k:Nat)
def F_:Rw S:=aj pW xn fun kind kids Z=>aa k (Sd k kind kids) (aE Z)
def mH:Fx S:=fx 8 (fun _=>[]) (fun _=>false) [] [] k f25 true [] 0
theorem eX0 (ho:ai o):Tl o 25 (F_ k:Rw S):=qx (mH k) trivial func25 fun kind kids Z x h=>qK h
def Od:Rw S:=aj dV xn fun kind bD Z=>aa k (gI k kind bD) (aA Z)
def UA:Fx S:=fp 26 [] [] k f39 0
theorem RO (ho:ai o):Tl o 39 (Od k:Rw S):=qx (UA k) trivial func39 fun kind bD Z x h=>qK h
def Pe (hd:du S):Rw S:=aj Ag xn fun t left Z=>hd t left (F9 Z)
def jA (hd:du S) (k:Nat):Rw S:=aj Lh fh fun Fq p h c0 Z=>aa k (uk hd k Fq p h c0) (KT c0 Z)
def V3 (hd:du S) (k:Nat):Fx S:=fp 12 [(71,Pe hd)] [] k f123 1
theorem kc (o:Obj) (ho:ai o) (hd:du S) (Hd:Tl o 71 (Pe hd)) (k:Nat):Tl o 123 (jA hd k:Rw S):=qx (V3 hd k) ⟨Hd,trivial⟩ func123 fun Fq p j c0 Z x h=>qK h
def rX4 (hd:du S) (k:Nat):Rw S:=aj kX5 fh fun t c0 Z=>aa k (DX hd k t c0) (KT c0 Z)
def V_ (hd:du S) (k:Nat):Fx S:=fp 60 [(39,Od k),(123,jA hd k)] [(2,aS [1,2,15,16,17] [(2,6),(1000000,1)],ap 4 5),(12,aS [1,9,40,41,42] [(1000000,1)],ap 7 47),(15,aS [1,9,40,41,42,47,48,49] [(1000000,1)],ap 15 13103)] k f74 1
def azC (c0:Int) (t:Tm) (qG:Int):St UU:=⟨[(1,(.func 123 [] [(pt 1000000)])),(2,(pt 2)),(15,(sT t.c)),(16,(iI t.c.length)),(17,(iI qG))],[(2,bT t),(1000000,bI c0)],[],[]⟩
def l0 (c0:Int) (t:Tm) (qE h:Int):St UU:=⟨[(1,(.func 123 [] [(pt 1000000)])),(9,(iI h)),(40,(sB t.s)),(41,(iI t.s.length)),(42,(iI qE))],[(1000000,bI c0)],[],[]⟩
def aCh (c0:Int) (t:Tm) (qE:Int) (x4:(Br Tm)) (h:Int) (rO:Int):St UU:=⟨[(1,(.func 123 [] [(pt 1000000)])),(9,(iI h)),(40,(sB t.s)),(41,(iI t.s.length)),(42,(iI qE)),(47,(sT x4.c)),(48,(iI x4.c.length)),(49,(iI rO))],[(1000000,bI c0)],[],[]⟩
section
variable (hd:du S) (k:Nat) (t:Tm) (c0:Int) (Z:Out UU->Option S)
theorem aEu (qE x4 h Z1): ∀n rO,(V_ hd k).lp Z 15 [Z1] n (aCh c0 t qE x4 h rO)=WX hd k (KT c0 Z) (fun qE h=>Z1 (l0 c0 t qE h)) c0 t qE x4 h n rO:=cF (yi hd k (KT c0 Z) c0 t qE x4 h (fun qE h=>Z1 (l0 c0 t qE h)))
theorem aEt: ∀n qE h,(V_ hd k).lp Z 12 [] n (l0 c0 t qE h)=jp hd k (KT c0 Z) c0 t n qE h:=aL (fun own=>tp hd k (KT c0 Z) c0 t (fun qE x4 h rO=>WX hd k (KT c0 Z) own c0 t qE x4 h k rO) own) rfl (fun _=>rfl) fun r qE h=>qy (b:=tp hd k (KT c0 Z) c0 t (fun qE x4 h rO=>(V_ hd k).lp Z 15 [r] k (aCh c0 t qE x4 h rO)) (fun qE h=>r (l0 c0 t qE h)) qE h) (by kernel_rfl) (by simp only [aEu])
theorem aEs: ∀n qG,(V_ hd k).lp Z 2 [] n (azC c0 t qG)=qS hd k (KT c0 Z) c0 t n qG:=cF (fun own=>tn hd k (KT c0 Z) c0 t (fun qE h=>jp hd k (KT c0 Z) c0 t k qE h) own) rfl (fun _=>rfl) fun r qG=>qy (b:=tn hd k (KT c0 Z) c0 t (fun qE h=>(V_ hd k).lp Z 12 [] k (l0 c0 t qE h)) (fun qG=>r (azC c0 t qG)) qG) (by kernel_rfl) (by simp only [aEt])
end
theorem eX4 (o:Obj) (ho:ai o) (hd:du S) (Hd:Tl o 71 (Pe hd)) (k:Nat):Tl o 74 (rX4 hd k:Rw S):=qx (V_ hd k) ⟨RO k ho,kc o ho hd Hd k,trivial⟩ func74 fun t c0 Z x h=>qy (b:=IV hd k (KT c0 Z) (fun qG=>(V_ hd k).lp Z 2 [] k (azC c0 t qG)) t c0) (by kernel_rfl) (qy (by simp only [aEs];rfl) (al h))
def VF (hd:du S) (k:Nat):Fx S:=fp 12 [(74,rX4 hd k)] [] k f71 0
theorem hX2 (o:Obj) (ho:ai o): ∀k:Nat,Tl o 71 (Pe (jf k:du S))
 |0=>dz fun t left Z x h=>by cases h
 |k+1=>qx (VF (jf k) k) ⟨eX4 o ho (jf k) (hX2 o ho k) k,trivial⟩ func71 fun t left Z x h=>qy (by kernel_rfl) h
def PN (hd:Ip S):Rw S:=aj kX6 xX7 fun t c1 Z=>hd t c1 (eJ Z)
def PX (hd:Ip S) (k:Nat):Rw S:=aj kX8 xX9 fun t c0 Z=>aa k (pB hd k t c0) (gf Z)
def mT (hd:Ip S) (k:Nat):Fx S:=fp 14 [(74,PN hd)] [] k f124 2
theorem eX6 (o:Obj) (ho:ai o) (hd:Ip S) (Hd:Tl o 74 (PN hd)) (k:Nat):Tl o 124 (PX hd k:Rw S):=qx (mT hd k) ⟨Hd,trivial⟩ func124 fun t c0 Z x h=>qK h
def Bh (hd:Ip S) (k:Nat):Rw S:=aj Lh xX7 fun Fq p h c1 Z=>aa k (ul hd k Fq p h c1) (eJ Z)
def mU (hd:Ip S) (k:Nat):Fx S:=fp 11 [(124,PX hd k)] [] k f125 2
theorem eX7 (o:Obj) (ho:ai o) (hd:Ip S) (Hd:Tl o 74 (PN hd)) (k:Nat):Tl o 125 (Bh hd k:Rw S):=qx (mU hd k) ⟨eX6 o ho hd Hd k,trivial⟩ func125 fun Fq p j c1 Z x h=>qK h
def Wh (hd:Ip S) (k:Nat):Fx S:=fp 60 [(39,Od k),(125,Bh hd k)] [(2,aS [1,2,15,16,17] [(2,6),(1000000,1),(1000001,1)],ap 4 5),(12,aS [1,9,40,41,42] [(1000000,1),(1000001,1)],ap 7 47),(15,aS [1,9,40,41,42,47,48,49] [(1000000,1),(1000001,1)],ap 15 13103)] k f74 2
def J0 (t:Tm) (arm qG:Int):St UU:=⟨[(1,(.func 125 [] [(pt 1000000)])),(2,(pt 2)),(15,(sT t.c)),(16,(iI t.c.length)),(17,(iI qG))],[(2,bT t),(1000000,.cells [(.func 124 [] [(pt 1000001),(pt 1000000)])]),(1000001,bI arm)],[],[]⟩
def w6 (t:Tm) (tV qE h:Int):St UU:=⟨[(1,(.func 125 [] [(pt 1000000)])),(9,(iI h)),(40,(sB t.s)),(41,(iI t.s.length)),(42,(iI qE))],[(1000000,.cells [(.func 124 [] [(pt 1000001),(pt 1000000)])]),(1000001,bI tV)],[],[]⟩
def aCm (t:Tm) (qE:Int) (x4:(Br Tm)) (h:Int) (uC rO:Int):St UU:=⟨[(1,(.func 125 [] [(pt 1000000)])),(9,(iI h)),(40,(sB t.s)),(41,(iI t.s.length)),(42,(iI qE)),(47,(sT x4.c)),(48,(iI x4.c.length)),(49,(iI rO))],[(1000000,.cells [(.func 124 [] [(pt 1000001),(pt 1000000)])]),(1000001,bI uC)],[],[]⟩
section
variable (hd:Ip S) (k:Nat) (t:Tm) (c1:Int) (Z:Out UU->Option S)
theorem aEE (qE x4 h Z1): ∀n uC rO,(Wh hd k).lp Z 15 [Z1] n (aCm t qE x4 h uC rO)=kL hd k (eJ Z) (fun tV qE h=>Z1 (w6 t tV qE h)) t qE x4 h n uC rO:=aL (yg hd k (eJ Z) t qE x4 h (fun tV qE h=>Z1 (w6 t tV qE h)))
theorem aED: ∀n tV qE h,(Wh hd k).lp Z 12 [] n (w6 t tV qE h)=NA hd k (eJ Z) t n tV qE h:=p7 (fun own=>tj hd k (eJ Z) t (fun qE x4 h uC rO=>kL hd k (eJ Z) own t qE x4 h k uC rO) own) rfl (fun _=>rfl) fun r tV qE h=>qy (b:=tj hd k (eJ Z) t (fun qE x4 h uC rO=>(Wh hd k).lp Z 15 [r] k (aCm t qE x4 h uC rO)) (fun tV qE h=>r (w6 t tV qE h)) tV qE h) (by kernel_rfl) (by simp only [aEE])
theorem aEC: ∀n arm qG,(Wh hd k).lp Z 2 [] n (J0 t arm qG)=nY hd k (eJ Z) t n arm qG:=aL (fun own=>ti hd k (eJ Z) t (fun tV qE h=>NA hd k (eJ Z) t k tV qE h) own) rfl (fun _=>rfl) fun r arm qG=>qy (b:=ti hd k (eJ Z) t (fun tV qE h=>(Wh hd k).lp Z 12 [] k (w6 t tV qE h)) (fun arm qG=>r (J0 t arm qG)) arm qG) (by kernel_rfl) (by simp only [aED])
end
theorem hX5 (o:Obj) (ho:ai o): ∀k:Nat,Tl o 74 (PN (Mx k:Ip S))
 |0=>dz fun t c1 Z x h=>by cases h
 |k+1=>qx (Wh (Mx k) k) ⟨RO k ho,eX7 o ho (Mx k) (hX5 o ho k) k,trivial⟩ func74 fun t c1 Z x h=>qy (b:=IT (Mx k) k (eJ Z) (fun arm qG=>(Wh (Mx k) k).lp Z 2 [] k (J0 t arm qG)) t c1) (by kernel_rfl) (qy (by simp only [aEC];rfl) h)
def GR:Rw S:=aj Ag xn fun t p6 Z=>aa k (zE k t p6) (F9 Z)
def WI:Fx S:=fp 10 [(124,PX (Mx k) k)] [] k f72 0
theorem Kw (ho:ai o):Tl o 72 (GR k:Rw S):=qx (WI k) ⟨eX6 o ho (Mx k) (hX5 o ho k) k,trivial⟩ func72 fun t p6 Z x h=>qK h
def Qg:Rw S:=aj FE xn fun t Z=>aa k (zD k t) (da Z)
def WO:Fx S:=fp 11 [(71,Pe (jf k)),(72,GR k)] [] k f40 0
theorem eX9 (ho:ai o):Tl o 40 (Qg k:Rw S):=qx (WO k) ⟨hX2 o ho k,Kw k ho,trivial⟩ func40 fun t Z x h=>qK h
def Oe:Rw S:=aj Si xn fun kind Z=>aa k (zA k kind) (da Z)
def UB:Fx S:=fp 38 [] [] k f38 0
theorem aat (ho:ai o):Tl o 38 (Oe k:Rw S):=qx (UB k) trivial func38 fun kind Z x h=>qK h
def Ol:Rw S:=aj Si xn fun kind Z=>aa k (lJ k kind) (da Z)
def UI:Fx S:=fp 10 [] [] k f126 0
theorem aaA (ho:ai o):Tl o 126 (Ol k:Rw S):=qx (UI k) trivial func126 fun kind Z x h=>qK h
def Ov:Rw S:=aj Ld xn fun s Z=>aa k (zC k s) (F9 Z)
def UO:Fx S:=fp 49 [] [(2,aS [0,7,8] [],ap 4 5),(1000006,aS [0,3,4,5,7,8] [],ap 12 3685)] k f127 0
def W1 (s:ByteArray) (h:Int):St UU:=⟨[(0,(.str s)),(7,(.int .i64 (s.size:Int))),(8,(iI h))],[],[],[]⟩
def aBH (s:ByteArray) (j:Int) (x1:UInt8) (h:Bool):St UU:=⟨[(0,(.str s)),(3,(iI j)),(4,(.int .u8 (x1.toNat:Int))),(5,(.bool h)),(7,(.int .i64 (s.size:Int))),(8,(iI j))],[],[],[]⟩
section
variable (k:Nat) (s:ByteArray) (Z:Out UU->Option S)
theorem aDK (j x1 Z0): ∀n h,(UO k).jn Z 1000006 [Z0] n (aBH s j x1 h)=Aq k (F9 Z) (fun j=>Z0 (W1 s j)) s j x1 n h:=nx (Dk k (F9 Z) s j x1 (fun j=>Z0 (W1 s j)))
theorem aDJ: ∀n j,(UO k).lp Z 2 [] n (W1 s j)=n7 k (F9 Z) s n j:=cF (fun own=>tv k (F9 Z) s (fun j x1 h=>Aq k (F9 Z) own s j x1 k h) own) rfl (fun _=>rfl) fun r j=>qy (b:=tv k (F9 Z) s (fun j x1 h=>(UO k).jn Z 1000006 [r] k (aBH s j x1 h)) (fun j=>r (W1 s j)) j) (by kernel_rfl) (by simp only [aDK])
end
theorem aaH (ho:ai o):Tl o 127 (Ov k:Rw S):=qx (UO k) trivial func127 fun s Z x h=>qy (b:=IY k (F9 Z) (fun j=>(UO k).lp Z 2 [] k (W1 s j)) s) (by kernel_rfl) (qy (by simp only [aDJ];rfl) (al h))
def OC:Rw S:=aj uG xn fun s Z=>aa k (pm k s) (F9 Z)
def UX:Fx S:=fp 6 [] [] k f224 0
theorem aaO (ho:ai o):Tl o 224 (OC k:Rw S):=qx (UX k) trivial func224 fun s Z x h=>qK h
def OM:Rw S:=aj ny xn fun c Z=>aa k (tC k c) (F9 Z)
def rU:Fx S:=fp 11 [(224,OC k)] [] k f198 0
theorem aaY (ho:ai o):Tl o 198 (OM k:Rw S):=qx (rU k) ⟨aaO k ho,trivial⟩ func198 fun c Z x h=>qK h
def OU:Rw S:=aj uH xn fun a b Z=>aa k (pb k a b) (Oa Z)
def Vb:Fx S:=fp 16 [] [] k f225 0
theorem bz (ho:ai o):Tl o 225 (OU k:Rw S):=qx (Vb k) trivial func225 fun a b Z x h=>qK h
def Gn:Rw S:=aj uH xn fun a b Z=>aa k (yA k a b) (F9 Z)
def Vg:Fx S:=fp 10 [(225,OU k)] [] k f201 0
theorem J7 (ho:ai o):Tl o 201 (Gn k:Rw S):=qx (Vg k) ⟨bz k ho,trivial⟩ func201 fun a b Z x h=>qK h
def A7:Rw S:=aj EU wC fun d c0 Z=>aa k (yC k d c0) (Oc c0 Z)
def Vn:Fx S:=fp 12 [(201,Gn k)] [] k f200 1
theorem Eb (ho:ai o):Tl o 200 (A7 k:Rw S):=qx (Vn k) ⟨J7 k ho,trivial⟩ func200 fun d c0 Z x h=>qK h
def O5:Rw S:=aj Le wC fun s c0 Z=>aa k (DV k s c0) (A1 c0 Z)
def Vr:Fx S:=fp 19 [(200,A7 k)] [(2,aS [0,1,7,8] [(1000000,2)],ap 4 5)] k f205 1
def aBP (c0:Cl) (s:List Cl) (h:Int):St UU:=⟨[(0,(sC s)),(1,(.func 200 [] [(pt 1000000)])),(7,(iI s.length)),(8,(iI h))],[(1000000,bC c0)],[],[]⟩
section
variable (k:Nat) (s:List Cl) (c0:Cl) (Z:Out UU->Option S)
theorem aDS: ∀n h,(Vr k).lp Z 2 [] n (aBP c0 s h)=qO k (A1 c0 Z) c0 s n h:=cF (yc k (A1 c0 Z) c0 s)
end
theorem abg (ho:ai o):Tl o 205 (O5 k:Rw S):=qx (Vr k) ⟨Eb k ho,trivial⟩ func205 fun s c0 Z x h=>qy (b:=IM k (A1 c0 Z) (fun j=>(Vr k).lp Z 2 [] k (aBP c0 s j)) s c0) (by kernel_rfl) (qy (by simp only [aDS];rfl) (al h))
def O9:Rw S:=aj Le wC fun s c0 Z=>aa k (DT k s c0) (Oc c0 Z)
def Vx:Fx S:=fp 9 [(205,O5 k)] [] k f174 1
theorem abk (ho:ai o):Tl o 174 (O9 k:Rw S):=qx (Vx k) ⟨abg k ho,trivial⟩ func174 fun s c0 Z x h=>qK h
def Pf:Rw S:=aj EU alt fun c c0 Z=>aa k (yB k c c0) (ahX c0 Z)
def CK:Fx S:=fp 7 [(174,O9 k)] [] k f199 1
theorem abr (ho:ai o):Tl o 199 (Pf k:Rw S):=qx (CK k) ⟨abk k ho,trivial⟩ func199 fun c c0 Z x h=>qK h
def Pp:Rw S:=aj eo xn fun l Z=>aa k (gy k l) (xk Z)
def VK:Fx S:=fx 55 (fun _=>[]) (fun|53=>true|_=>false) [(198,OM k),(199,Pf k)] [(4,⟨[(4,pr),(5,pr),(13,pr),(14,pr),(15,pr)],[(5,[qW 200320]),(12,[])]⟩,ap 6 23),(15,⟨[(8,pr),(9,qW 100009),(34,pr),(35,pr),(36,pr)],[(5,[pr])]⟩,ap 9 191)] k f172 false [] 0
def o6 (l:List Cl) (j:List (Cl×Bool)) (h:List Cl) (q:Int):St UU:=⟨[(4,(.mp 12)),(5,(pt 5)),(13,(sC l)),(14,(iI l.length)),(15,(iI q))],[(5,.cells [(.own 200320 0)]),(12,.map ET.C j)],[(200320,⟨0,ET.C,h⟩)],[(200320,.wr)]⟩
def aBS (h:List Cl) (II:Int) (j:List Cl):St UU:=⟨[(8,(.func 199 [] [(pt 5)])),(9,(.own 100009 0)),(34,(sC h)),(35,(iI h.length)),(36,(iI II))],[(5,.cells [(sC h)])],[(100009,⟨0,ET.C,j⟩)],[(100009,.wr)]⟩
section
variable (k:Nat) (l:List Cl) (Z:Out UU->Option S)
theorem aDW (h): ∀n II j,(VK k).lp Z 15 [] n (aBS h II j)=nz k (xk Z) h n II j:=aL (wM k (xk Z) h)
theorem aDV: ∀n q h x,(VK k).lp Z 4 [] n (o6 l q h x)=pZ k (xk Z) l n q h x:=p7 (fun own=>sF k (xk Z) l (fun h II j=>nz k (xk Z) h k II j) own) rfl (fun _=>rfl) fun r q h x=>qy (b:=sF k (xk Z) l (fun h II j=>(VK k).lp Z 15 [] k (aBS h II j)) (fun q h x=>r (o6 l q h x)) q h x) (by kernel_rfl) (by simp only [aDW])
end
theorem Sk (ho:ai o):Tl o 172 (Pp k:Rw S):=qx (VK k) ⟨aaY k ho,abr k ho,trivial⟩ func172 fun l Z x h=>qy (b:=Hw k (xk Z) (fun q j z=>(VK k).lp Z 4 [] k (o6 l q j z)) l) (by kernel_rfl) (qy (by simp only [aDV];rfl) (al h))
def Pu:Rw S:=aj jk xn fun s1 s2 Z=>aa k (zz k s1 s2) (F9 Z)
def VS:Fx S:=fp 26 [] [(4,aS [0,1,12,13] [],ap 5 11)] k f131 0
def aBW (s1 s2:List Cl) (h:Int):St UU:=⟨[(0,(sC s1)),(1,(sC s2)),(12,(iI s1.length)),(13,(iI h))],[],[],[]⟩
section
variable (k:Nat) (s1 s2:List Cl) (Z:Out UU->Option S)
theorem aD0: ∀n h,(VS k).lp Z 4 [] n (aBW s1 s2 h)=qN k (F9 Z) s1 s2 n h:=cF (yb k (F9 Z) s1 s2)
end
theorem abG (ho:ai o):Tl o 131 (Pu k:Rw S):=qx (VS k) trivial func131 fun s1 s2 Z x h=>qy (b:=IL k (F9 Z) (fun j=>(VS k).lp Z 4 [] k (aBW s1 s2 j)) s1 s2) (by kernel_rfl) (qy (by simp only [aD0];rfl) (al h))
def jz:Rw S:=aj eo xn fun f Z=>aa k (hY k f) (F9 Z)
def anH:Fx S:=fp 17 [(131,Pu k),(172,Pp k)] [] k f128 0
theorem j_ (ho:ai o):Tl o 128 (jz k:Rw S):=qx (anH k) ⟨abG k ho,Sk k ho,trivial⟩ func128 fun f Z x h=>qK h
def PE:Rw S:=aj Si xn fun i Z=>aa k (nd k i) (F9 Z)
def CU:Fx S:=fp 9 [] [] k f229 0
theorem l2 (ho:ai o):Tl o 229 (PE k:Rw S):=qx (CU k) trivial func229 fun i Z x h=>qK h
def L2:Rw S:=aj lS xn fun s i Z=>aa k (jX k s i) (b_ Z)
def VZ:Fx S:=fp 16 [(229,PE k)] [] k f204 0
theorem pL (ho:ai o):Tl o 204 (L2 k:Rw S):=qx (VZ k) ⟨l2 k ho,trivial⟩ func204 fun s i Z x h=>qK h
def vL:Rw S:=aj eo xn fun f Z=>aa k (h8 k f) (b_ Z)
def V0:Fx S:=fp 22 [(204,L2 k)] [(3,aS [3,6,7,8] [],ap 5 11)] k f173 0
def aB8 (f:List Cl) (h j:Int):St UU:=⟨[(3,(iU h)),(6,(sC f)),(7,(iI f.length)),(8,(iI j))],[],[],[]⟩
section
variable (k:Nat) (f:List Cl) (Z:Out UU->Option S)
theorem aEc: ∀n h j,(V0 k).lp Z 3 [] n (aB8 f h j)=qb k (b_ Z) f n h j:=aL (wY k (b_ Z) f)
end
theorem zN (ho:ai o):Tl o 173 (vL k:Rw S):=qx (V0 k) ⟨pL k ho,trivial⟩ func173 fun f Z x h=>qy (b:=HL k (b_ Z) (fun j q=>(V0 k).lp Z 3 [] k (aB8 f j q)) f) (by kernel_rfl) (qy (by simp only [aEc];rfl) (al h))
def Ba:Rw S:=aj EV xn fun f px Z=>aa k (lK k f px) (F9 Z)
def V1:Fx S:=fp 15 [(173,vL k)] [] k f129 0
theorem Ef (ho:ai o):Tl o 129 (Ba k:Rw S):=qx (V1 k) ⟨zN k ho,trivial⟩ func129 fun f px Z x h=>qK h
def Bb:Rw S:=aj ny xn fun c Z=>aa k (tB k c) (F9 Z)
def CV:Fx S:=fp 9 [] [] k f175 0
theorem Eg (ho:ai o):Tl o 175 (Bb k:Rw S):=qx (CV k) trivial func175 fun c Z x h=>qK h
def PF:Rw S:=aj Lf xn fun s Z=>aa k (DW k s) (da Z)
def V2:Fx S:=fp 19 [(175,Bb k)] [(2,aS [0,1,7,8] [],ap 4 5)] k f205 0
def aB9 (s:List Cl) (h:Int):St UU:=⟨[(0,(sC s)),(1,(.func 175 [] [])),(7,(iI s.length)),(8,(iI h))],[],[],[]⟩
section
variable (k:Nat) (s:List Cl) (Z:Out UU->Option S)
theorem aEd: ∀n h,(V2 k).lp Z 2 [] n (aB9 s h)=qP k (da Z) s n h:=cF (yd k (da Z) s)
end
theorem abR (ho:ai o):Tl o 205 (PF k:Rw S):=qx (V2 k) ⟨Eg k ho,trivial⟩ func205 fun s Z x h=>qy (b:=IN k (da Z) (fun j=>(V2 k).lp Z 2 [] k (aB9 s j)) s) (by kernel_rfl) (qy (by simp only [aEd];rfl) (al h))
def GH:Rw S:=aj Lf xn fun s Z=>aa k (DU k s) (F9 Z)
def V4:Fx S:=fp 9 [(205,PF k)] [] k f174 0
theorem Kl (ho:ai o):Tl o 174 (GH k:Rw S):=qx (V4 k) ⟨abR k ho,trivial⟩ func174 fun s Z x h=>qK h
def PG:Rw S:=aj eo xn fun f Z=>aa k (pd k f) (F9 Z)
def CW:Fx S:=fp 10 [(128,jz k),(174,GH k)] [] k f130 0
theorem q9 (ho:ai o):Tl o 130 (PG k:Rw S):=qx (CW k) ⟨j_ k ho,Kl k ho,trivial⟩ func130 fun f Z x h=>qK h
def PH:Rw S:=aj sr xn fun t vars px Z=>aa k (uj k t vars px) (F9 Z)
def V5:Fx S:=fp 138 [(38,Oe k),(126,Ol k),(127,Ov k),(128,jz k),(129,Ba k),(130,PG k)] [(1000003,aS [1,2,3] [(3,6)],ap 2 3),(15,aS [2,3,107,108,109] [(3,6)],ap 6 23)] k f73 0
def aB_ (t:Tm) (vars px:Int):St UU:=⟨[(1,(iI vars)),(2,(iI px)),(3,(pt 3))],[(3,bT t)],[],[]⟩
def aCa (t:Tm) (px:Int) (v109:Int):St UU:=⟨[(2,(iI px)),(3,(pt 3)),(107,(sB t.s)),(108,(iI t.s.length)),(109,(iI v109))],[(3,bT t)],[],[]⟩
section
variable (k:Nat) (t:Tm) (vars px:Int) (Z:Out UU->Option S)
theorem aEf: ∀n v109,(V5 k).lp Z 15 [] n (aCa t px v109)=kO k (F9 Z) t px n v109:=cF (yl k (F9 Z) t px)
theorem aEe: ∀n,(V5 k).jn Z 1000003 [] n (aB_ t vars px)=Ar k (F9 Z) t vars px n:=gL (tw k (F9 Z) t vars px (fun v109=>kO k (F9 Z) t px k v109)) rfl (fun _=>rfl) (qy (b:=tw k (F9 Z) t vars px (fun v109=>(V5 k).lp Z 15 [] k (aCa t px v109))) (by kernel_rfl) (by simp only [aEf]))
end
theorem abT (ho:ai o):Tl o 73 (PH k:Rw S):=qx (V5 k) ⟨aat k ho,aaA k ho,aaH k ho,j_ k ho,Ef k ho,q9 k ho,trivial⟩ func73 fun t vars px Z x h=>qy (b:=IZ k (F9 Z) ((V5 k).jn Z 1000003 [] k (aB_ t vars px)) t vars px) (by kernel_rfl) (qy (by simp only [aEe];rfl) (al h))
def GI (hd:dr S):Rw S:=aj Lg xn fun t vars px bound Z=>hd t vars px bound (F9 Z)
def PJ (hd:dr S) (k:Nat):Rw S:=aj adA Ut fun Fq v d c0 c1 c2 Z=>aa k (uh hd k Fq v d c0 c1 c2) (gc c0 c1 c2 Z)
def aRx (hd:dr S) (k:Nat):Fx S:=fp 21 [(41,GI hd)] [] k f75 3
theorem abU (o:Obj) (ho:ai o) (hd:dr S) (Hd:Tl o 41 (GI hd)) (k:Nat):Tl o 75 (PJ hd k:Rw S):=qx (aRx hd k) ⟨Hd,trivial⟩ func75 fun Fq v d c0 c1 c2 Z x h=>qK h
def vM (hd:dr S) (k:Nat):Rw S:=aj adB Ut fun t c0 c1 c2 Z=>aa k (zB hd k t c0 c1 c2) (gc c0 c1 c2 Z)
def V7 (hd:dr S) (k:Nat):Fx S:=fp 60 [(39,Od k),(75,PJ hd k)] [(2,aS [1,2,15,16,17] [(2,6),(1000000,1),(1000001,1),(1000002,1)],ap 4 5),(12,aS [1,9,40,41,42] [(1000000,1),(1000001,1),(1000002,1)],ap 7 47),(15,aS [1,9,40,41,42,47,48,49] [(1000000,1),(1000001,1),(1000002,1)],ap 15 13103)] k f74 3
def azz (c0 c1:Int) (c2:Bool) (t:Tm) (qG:Int):St UU:=⟨[(1,(.func 75 [] [(pt 1000000),(pt 1000001),(pt 1000002)])),(2,(pt 2)),(15,(sT t.c)),(16,(iI t.c.length)),(17,(iI qG))],[(2,bT t),(1000000,bI c0),(1000001,bI c1),(1000002,.cells [(.bool c2)])],[],[]⟩
def p0 (c0 c1:Int) (c2:Bool) (t:Tm) (qE h:Int):St UU:=⟨[(1,(.func 75 [] [(pt 1000000),(pt 1000001),(pt 1000002)])),(9,(iI h)),(40,(sB t.s)),(41,(iI t.s.length)),(42,(iI qE))],[(1000000,bI c0),(1000001,bI c1),(1000002,.cells [(.bool c2)])],[],[]⟩
def aCb (c0 c1:Int) (c2:Bool) (t:Tm) (qE:Int) (x4:(Br Tm)) (h:Int) (rO:Int):St UU:=⟨[(1,(.func 75 [] [(pt 1000000),(pt 1000001),(pt 1000002)])),(9,(iI h)),(40,(sB t.s)),(41,(iI t.s.length)),(42,(iI qE)),(47,(sT x4.c)),(48,(iI x4.c.length)),(49,(iI rO))],[(1000000,bI c0),(1000001,bI c1),(1000002,.cells [(.bool c2)])],[],[]⟩
section
variable (hd:dr S) (k:Nat) (t:Tm) (c0 c1:Int) (c2:Bool) (Z:Out UU->Option S)
theorem aEi (qE x4 h Z1): ∀n rO,(V7 hd k).lp Z 15 [Z1] n (aCb c0 c1 c2 t qE x4 h rO)=mi hd k (gc c0 c1 c2 Z) (fun qE h=>Z1 (p0 c0 c1 c2 t qE h)) c0 c1 c2 t qE x4 h n rO:=cF (yh hd k (gc c0 c1 c2 Z) c0 c1 c2 t qE x4 h (fun qE h=>Z1 (p0 c0 c1 c2 t qE h)))
theorem aEh: ∀n qE h,(V7 hd k).lp Z 12 [] n (p0 c0 c1 c2 t qE h)=iC hd k (gc c0 c1 c2 Z) c0 c1 c2 t n qE h:=aL (fun own=>tl hd k (gc c0 c1 c2 Z) c0 c1 c2 t (fun qE x4 h rO=>mi hd k (gc c0 c1 c2 Z) own c0 c1 c2 t qE x4 h k rO) own) rfl (fun _=>rfl) fun r qE h=>qy (b:=tl hd k (gc c0 c1 c2 Z) c0 c1 c2 t (fun qE x4 h rO=>(V7 hd k).lp Z 15 [r] k (aCb c0 c1 c2 t qE x4 h rO)) (fun qE h=>r (p0 c0 c1 c2 t qE h)) qE h) (by kernel_rfl) (by simp only [aEi])
theorem aEg: ∀n qG,(V7 hd k).lp Z 2 [] n (azz c0 c1 c2 t qG)=nZ hd k (gc c0 c1 c2 Z) c0 c1 c2 t n qG:=cF (fun own=>tk hd k (gc c0 c1 c2 Z) c0 c1 c2 t (fun qE h=>iC hd k (gc c0 c1 c2 Z) c0 c1 c2 t k qE h) own) rfl (fun _=>rfl) fun r qG=>qy (b:=tk hd k (gc c0 c1 c2 Z) c0 c1 c2 t (fun qE h=>(V7 hd k).lp Z 12 [] k (p0 c0 c1 c2 t qE h)) (fun qG=>r (azz c0 c1 c2 t qG)) qG) (by kernel_rfl) (by simp only [aEh])
end
theorem aFF (o:Obj) (ho:ai o) (hd:dr S) (Hd:Tl o 41 (GI hd)) (k:Nat):Tl o 74 (vM hd k:Rw S):=qx (V7 hd k) ⟨RO k ho,abU o ho hd Hd k,trivial⟩ func74 fun t c0 c1 c2 Z x h=>qy (b:=IU hd k (gc c0 c1 c2 Z) (fun qG=>(V7 hd k).lp Z 2 [] k (azz c0 c1 c2 t qG)) t c0 c1 c2) (by kernel_rfl) (qy (by simp only [aEg];rfl) (al h))
def V6 (hd:dr S) (k:Nat):Fx S:=fp 24 [(73,PH k),(74,vM hd k)] [] k f41 0
theorem azl (o:Obj) (ho:ai o): ∀k:Nat,Tl o 41 (GI (ic k:dr S))
 |0=>dz fun t vars px bound Z x h=>by cases h
 |k+1=>qx (V6 (ic k) k) ⟨abT k ho,aFF o ho (ic k) (azl o ho k) k,trivial⟩ func41 fun t vars px bound Z x h=>qy (by kernel_rfl) h
def PK:Rw S:=aj FE xn fun t Z=>aa k (HN k t) (da Z)
def V8:Fx S:=fp 12 [(40,Qg k),(41,GI (ic k))] [] k f23 0
theorem Jx (ho:ai o):Tl o 23 (PK k:Rw S):=qx (V8 k) ⟨eX9 k ho,azl o ho k,trivial⟩ func23 fun t Z x h=>qK h
def PL (hd:eP S):Rw S:=aj FE xn fun t Z=>hd t (aF Z)
def iJ (hd:eP S) (k:Nat):Rw S:=aj EW xn fun l Z=>aa k (ui hd k l) (AN Z)
def V9 (hd:eP S) (k:Nat):Fx S:=fp 19 [(30,PL hd)] [(3,⟨[(3,qW 100003),(6,pr),(7,pr),(8,pr)],[]⟩,ap 5 11)] k f50 0
def aCc (l:List Tm) (h:List Tm) (j:Int):St UU:=⟨[(3,(.own 100003 0)),(6,(sT l)),(7,(iI l.length)),(8,(iI j))],[],[(100003,⟨0,ET.T,h⟩)],[(100003,.wr)]⟩
section
variable (hd:eP S) (k:Nat) (l:List Tm) (Z:Out UU->Option S)
theorem aEj: ∀n h j,(V9 hd k).lp Z 3 [] n (aCc l h j)=x9 hd k (AN Z) l n h j:=aL (yf hd k (AN Z) l)
end
theorem jh (o:Obj) (ho:ai o) (hd:eP S) (Hd:Tl o 30 (PL hd)) (k:Nat):Tl o 50 (iJ hd k:Rw S):=qx (V9 hd k) ⟨Hd,trivial⟩ func50 fun l Z x h=>qy (b:=IS hd k (AN Z) (fun j q=>(V9 hd k).lp Z 3 [] k (aCc l j q)) l) (by kernel_rfl) (qy (by simp only [aEj];rfl) (al h))
def mS (hd:eP S) (k:Nat):Fx S:=fp 40 [(49,G2),(50,iJ hd k)] [(3,⟨[(2,pr),(3,pr),(20,pr),(21,pr),(22,pr)],[(2,[pr,pr,pr,qW 200131,qW 200132,qW 200133]),(3,[pr,pr,pr,pr,pr,qW 200197])]⟩,ap 5 11)] k f30 0
def FH (t:Tm) (r1:List Cl) (r2:List Tm) (h:List (Br Tm)) (v22:Int):St UU:=⟨[(2,(pt 2)),(3,(pt 3)),(20,(sB t.s)),(21,(iI t.s.length)),(22,(iI v22))],[(2,.cells [(iI 0),(iI 0),Di,(.own 200131 0),(.own 200132 0),(.own 200133 0)]),(3,.cells [(iI t.k),(iI t.n),(.str t.name),(sC r1),(sT r2),(.own 200197 0)])],[(200197,⟨0,ET.B,h⟩),(200133,Al),(200132,Db),(200131,Bx)],[(200197,.wr),(200133,.wr),(200132,.wr),(200131,.wr)]⟩
section
variable (hd:eP S) (k:Nat) (t:Tm) (Z:Out UU->Option S)
theorem YS (r1 r2): ∀n h v22,(mS hd k).lp Z 3 [] n (FH t r1 r2 h v22)=qQ hd k (aF Z) t r1 r2 n h v22:=aL (ye hd k (aF Z) t r1 r2)
end
theorem Mv (o:Obj) (ho:ai o): ∀k:Nat,Tl o 30 (PL (dJ k:eP S))
 |0=>dz fun t Z x h=>by cases h
 |k+1=>qx (mS (dJ k) k) ⟨akS o ho,jh o ho (dJ k) (Mv o ho k) k,trivial⟩ func30 fun t Z x h=>qy (b:=IP (dJ k) k (aF Z) (fun r1 q j v22=>(mS (dJ k) k).lp Z 3 [] k (FH t r1 q j v22)) t) (by kernel_rfl) (qy (by simp only [YS];rfl) h)
def aHL:Rw S:=aj EX fh fun c0 Z=>aa k (dG k c0) (KT c0 Z)
def LQ:Rw S:=aj EX fh fun c0 Z=>aa k (dG k c0) (F9 Z)
def CX:Fx S:=fp 8 [] [] k f84 1
theorem aFG (ho:ai o):Tl o 84 (aHL k:Rw S):=qx (CX k) trivial func84 fun c0 Z x h=>qK h
theorem Mw (ho:ai o):Tl o 84 (LQ k:Rw S):=tlS (aFG k ho) fun c0 Z x h=>qy (b:=aa k (dG k c0) (KT c0 (DB _ Z))) (by kernel_rfl) (qy (congrArg (aa k (dG k c0)) (funext fun r=>if_pos rfl)) h)
def PM (hd:dq S):Rw S:=aj FE xn fun t Z=>hd t (da Z)
def jB (hd:dq S) (k:Nat):Rw S:=aj Lh fh fun Fq p h c0 Z=>aa k (ug hd k Fq p h c0) (N7 Z)
def Wa (hd:dq S) (k:Nat):Fx S:=fp 12 [(148,PM hd)] [] k f181 1
theorem ke (o:Obj) (ho:ai o) (hd:dq S) (Hd:Tl o 148 (PM hd)) (k:Nat):Tl o 181 (jB hd k:Rw S):=qx (Wa hd k) ⟨Hd,trivial⟩ func181 fun Fq p j c0 Z x h=>qK h
def Bc (hd:dq S) (k:Nat):Rw S:=aj adC fh fun t c0 Z=>aa k (DY hd k t c0) (N7 Z)
def TQ (hd:dq S) (k:Nat):Fx S:=fp 60 [(39,Od k),(181,jB hd k)] [(2,aS [1,2,15,16,17] [(2,6),(1000000,1)],ap 4 5),(12,aS [1,9,40,41,42] [(1000000,1)],ap 7 47),(15,aS [1,9,40,41,42,47,48,49] [(1000000,1)],ap 15 13103)] k f74 1
def nm (t:Tm) (h qG:Int):St UU:=⟨[(1,(.func 181 [] [(pt 1000000)])),(2,(pt 2)),(15,(sT t.c)),(16,(iI t.c.length)),(17,(iI qG))],[(2,bT t),(1000000,bI h)],[],[]⟩
def w4 (t:Tm) (re qE h:Int):St UU:=⟨[(1,(.func 181 [] [(pt 1000000)])),(9,(iI h)),(40,(sB t.s)),(41,(iI t.s.length)),(42,(iI qE))],[(1000000,bI re)],[],[]⟩
def aCd (t:Tm) (qE:Int) (x4:(Br Tm)) (h:Int) (rL rO:Int):St UU:=⟨[(1,(.func 181 [] [(pt 1000000)])),(9,(iI h)),(40,(sB t.s)),(41,(iI t.s.length)),(42,(iI qE)),(47,(sT x4.c)),(48,(iI x4.c.length)),(49,(iI rO))],[(1000000,bI rL)],[],[]⟩
section
variable (hd:dq S) (k:Nat) (t:Tm) (c0:Int) (Z:Out UU->Option S)
theorem aEm (qE x4 h Z1): ∀n rL rO,(TQ hd k).lp Z 15 [Z1] n (aCd t qE x4 h rL rO)=n4 hd k (N7 Z) (fun re qE h=>Z1 (w4 t re qE h)) t qE x4 h n rL rO:=aL (yj hd k (N7 Z) t qE x4 h (fun re qE h=>Z1 (w4 t re qE h)))
theorem aEl: ∀n re qE h,(TQ hd k).lp Z 12 [] n (w4 t re qE h)=kM hd k (N7 Z) t n re qE h:=p7 (fun own=>tr hd k (N7 Z) t (fun qE x4 h rL rO=>n4 hd k (N7 Z) own t qE x4 h k rL rO) own) rfl (fun _=>rfl) fun r re qE h=>qy (b:=tr hd k (N7 Z) t (fun qE x4 h rL rO=>(TQ hd k).lp Z 15 [r] k (aCd t qE x4 h rL rO)) (fun re qE h=>r (w4 t re qE h)) re qE h) (by kernel_rfl) (by simp only [aEm])
theorem aEk: ∀n j qG,(TQ hd k).lp Z 2 [] n (nm t j qG)=ix hd k (N7 Z) t n j qG:=aL (fun own=>tq hd k (N7 Z) t (fun re qE h=>kM hd k (N7 Z) t k re qE h) own) rfl (fun _=>rfl) fun r j qG=>qy (b:=tq hd k (N7 Z) t (fun re qE h=>(TQ hd k).lp Z 12 [] k (w4 t re qE h)) (fun j qG=>r (nm t j qG)) j qG) (by kernel_rfl) (by simp only [aEl])
end
theorem Eh (o:Obj) (ho:ai o) (hd:dq S) (Hd:Tl o 148 (PM hd)) (k:Nat):Tl o 74 (Bc hd k:Rw S):=qx (TQ hd k) ⟨RO k ho,ke o ho hd Hd k,trivial⟩ func74 fun t c0 Z x h=>qy (b:=IW hd k (N7 Z) (fun j qG=>(TQ hd k).lp Z 2 [] k (nm t j qG)) t c0) (by kernel_rfl) (qy (by simp only [aEk];rfl) (al h))
def CY (hd:dq S) (k:Nat):Fx S:=fp 8 [(74,Bc hd k)] [] k f148 0
theorem aBg (o:Obj) (ho:ai o): ∀k:Nat,Tl o 148 (PM (j6 k:dq S))
 |0=>dz fun t Z x h=>by cases h
 |k+1=>qx (CY (j6 k) k) ⟨Eh o ho (j6 k) (aBg o ho k) k,trivial⟩ func148 fun t Z x h=>qy (by kernel_rfl) h
def GJ (hd:fK S):Rw S:=aj Ag xn fun t rm Z=>hd t rm (da Z)
def Wc (hd:fK S) (k:Nat):Fx S:=fp 68 [(39,Od k),(149,GJ hd)] [(1000003,aS [1,2] [(2,6)],ap 2 3),(5,aS [1,2,5,24,25,26] [(2,6)],ap 6 23),(11,aS [1,5,47,48,49] [],ap 7 47),(14,aS [1,5,47,48,49,54,55,56] [],ap 15 13103)] k f149 0
def aCe (t:Tm) (rm:Int):St UU:=⟨[(1,(iI rm)),(2,(pt 2))],[(2,bT t)],[],[]⟩
def azB (t:Tm) (rm:Int) (HM h:Int):St UU:=⟨[(1,(iI rm)),(2,(pt 2)),(5,(iI h)),(24,(sT t.c)),(25,(iI t.c.length)),(26,(iI HM))],[(2,bT t)],[],[]⟩
def kl (rm:Int) (t:Tm) (rO h:Int):St UU:=⟨[(1,(iI rm)),(5,(iI h)),(47,(sB t.s)),(48,(iI t.s.length)),(49,(iI rO))],[],[],[]⟩
def aCf (rm:Int) (t:Tm) (rO:Int) (x4:(Br Tm)) (h j:Int):St UU:=⟨[(1,(iI rm)),(5,(iI h)),(47,(sB t.s)),(48,(iI t.s.length)),(49,(iI rO)),(54,(sT x4.c)),(55,(iI x4.c.length)),(56,(iI j))],[],[],[]⟩
section
variable (hd:fK S) (k:Nat) (t:Tm) (rm:Int) (Z:Out UU->Option S)
theorem aEq (rO x4 Z2): ∀n j q,(Wc hd k).lp Z 14 [Z2] n (aCf rm t rO x4 j q)=nG hd k (da Z) (fun rO h=>Z2 (kl rm t rO h)) rm t rO x4 n j q:=aL (xh hd k (da Z) rm t rO x4 (fun rO h=>Z2 (kl rm t rO h)))
theorem aEp: ∀n rO h,(Wc hd k).lp Z 11 [] n (kl rm t rO h)=ku hd k (da Z) rm t n rO h:=aL (fun own=>sE hd k (da Z) rm t (fun rO x4 j q=>nG hd k (da Z) own rm t rO x4 k j q) own) rfl (fun _=>rfl) fun r rO h=>qy (b:=sE hd k (da Z) rm t (fun rO x4 j q=>(Wc hd k).lp Z 14 [r] k (aCf rm t rO x4 j q)) (fun rO h=>r (kl rm t rO h)) rO h) (by kernel_rfl) (by simp only [aEq])
theorem aEo: ∀n HM h,(Wc hd k).lp Z 5 [] n (azB t rm HM h)=nF hd k (da Z) t rm n HM h:=aL (fun own=>sD hd k (da Z) t rm (fun rO j=>ku hd k (da Z) rm t k rO j) own) rfl (fun _=>rfl) fun r HM h=>qy (b:=sD hd k (da Z) t rm (fun rO j=>(Wc hd k).lp Z 11 [] k (kl rm t rO j)) (fun HM h=>r (azB t rm HM h)) HM h) (by kernel_rfl) (by simp only [aEp])
theorem aEn: ∀n,(Wc hd k).jn Z 1000003 [] n (aCe t rm)=Ak hd k (da Z) t rm n:=gL (xg hd k (da Z) t rm (fun HM h=>nF hd k (da Z) t rm k HM h)) rfl (fun _=>rfl) (qy (b:=xg hd k (da Z) t rm (fun HM h=>(Wc hd k).lp Z 5 [] k (azB t rm HM h))) (by kernel_rfl) (by simp only [aEo]))
end
theorem aBh (o:Obj) (ho:ai o): ∀k:Nat,Tl o 149 (GJ (gz k:fK S))
 |0=>dz fun t rm Z x h=>by cases h
 |k+1=>qx (Wc (gz k) k) ⟨RO k ho,aBh o ho k,trivial⟩ func149 fun t rm Z x h=>qy (b:=BU (gz k) k (da Z) ((Wc (gz k) k).jn Z 1000003 [] k (aCe t rm)) t rm) (by kernel_rfl) (qy (by simp only [aEn];rfl) h)
def r5:Rw S:=aj adD xn fun l Z=>aa k (pi k l) (da Z)
def Wd:Fx S:=fp 15 [(128,jz k)] [(2,aS [5,6,7] [],ap 4 5)] k f189 0
def aCg (l:List (List Cl)) (h:Int):St UU:=⟨[(5,(Hm l .none)),(6,(iI l.length)),(7,(iI h))],[],[],[]⟩
section
variable (k:Nat) (l:List (List Cl)) (Z:Out UU->Option S)
theorem aEr: ∀n h,(Wd k).lp Z 2 [] n (aCg l h)=qi k (da Z) l n h:=cF (w9 k (da Z) l)
end
theorem pM (ho:ai o):Tl o 189 (r5 k:Rw S):=qx (Wd k) ⟨j_ k ho,trivial⟩ func189 fun l Z x h=>qy (b:=HT k (da Z) (fun j=>(Wd k).lp Z 2 [] k (aCg l j)) l) (by kernel_rfl) (qy (by simp only [aEr];rfl) (al h))
def GK:Rw S:=aj cn xn fun Z=>aa k (tK k) (ahY Z)
def CZ:Fx S:=fx 1 (fun _=>[]) (fun _=>false) [] [] k f191 false [true] 0
theorem Kp (ho:ai o):Tl o 191 (GK k:Rw S):=qx (CZ k) trivial func191 fun Z x h=>qK h
def my:Rw S:=aj Si xn fun i Z=>aa k (pn k i) (b_ Z)
def We:Fx S:=fp 9 [] [] k f242 0
theorem nq (ho:ai o):Tl o 242 (my k:Rw S):=qx (We k) trivial func242 fun i Z x h=>qK h
def Bd:Rw S:=aj adE xn fun s qk rj Z=>aa k (lx k s qk rj) (AO Z)
def C0:Fx S:=fp 46 [(242,my k)] [] k f220 0
theorem Ei (ho:ai o):Tl o 220 (Bd k:Rw S):=qx (C0 k) ⟨nq k ho,trivial⟩ func220 fun s qk rj Z x h=>qK h
def GL:Rw S:=aj Li xn fun c qk rj Z=>aa k (yD k c qk rj) (ahZ Z)
def Wf:Fx S:=fp 42 [(198,OM k),(220,Bd k)] [] k f193 0
theorem Kq (ho:ai o):Tl o 193 (GL k:Rw S):=qx (Wf k) ⟨aaY k ho,Ei k ho,trivial⟩ func193 fun c qk rj Z x h=>qK h
def GM:Rw S:=aj Lj b5 fun tT c c0 c1 Z=>aa k (DN k tT c c0 c1) (vA c0 c1 Z)
def Wg:Fx S:=fx 22 (fun _=>[]) (fun _=>false) [(193,GL k)] [] k f192 false [true,false] 2
theorem Kr (ho:ai o):Tl o 192 (GM k:Rw S):=qx (Wg k) ⟨Kq k ho,trivial⟩ func192 fun tT c c0 c1 Z x h=>qK h
def PO:Rw S:=aj aGz b5 fun l qk c0 c1 Z=>aa k (yT k l qk c0 c1) (N8 c0 c1 Z)
def Wi:Fx S:=fx 33 (fun|23=>[true,false]|_=>[]) (fun _=>false) [(192,GM k)] [(2,⟨[(1,qW 100001),(2,pr),(13,pr),(14,pr),(15,pr)],[(1000000,[pr]),(1000001,[pr])]⟩,ap 4 5)] k f190 false [] 2
def aCi (c0 c1:Int) (l:List Cl) (v1:List Cl) (h:Int):St UU:=⟨[(1,(.own 100001 0)),(2,(.func 192 [] [(pt 1000000),(pt 1000001)])),(13,(sC l)),(14,(iI l.length)),(15,(iI h))],[(1000000,bI c0),(1000001,bI c1)],[(100001,⟨0,ET.C,v1⟩)],[(100001,.wr)]⟩
section
variable (k:Nat) (l qk:List Cl) (c0 c1:Int) (Z:Out UU->Option S)
theorem aEv: ∀n v1 h,(Wi k).lp Z 2 [] n (aCi c0 c1 l v1 h)=qf k (N8 c0 c1 Z) c0 c1 l n v1 h:=aL (p4 k (N8 c0 c1 Z) c0 c1 l)
end
theorem ab0 (ho:ai o):Tl o 190 (PO k:Rw S):=qx (Wi k) ⟨Kr k ho,trivial⟩ func190 fun l qk c0 c1 Z x h=>qy (b:=HQ k (N8 c0 c1 Z) (fun v1 j=>(Wi k).lp Z 2 [] k (aCi c0 c1 l v1 j)) l qk c0 c1) (by kernel_rfl) (qy (by simp only [aEv];rfl) (al h))
def PP:Rw S:=aj adG xn fun f qk rj Z=>aa k (jV k f qk rj) (xk Z)
def Wj:Fx S:=fx 31 (fun|21=>[false,true,false]|_=>[]) (fun _=>false) [(172,Pp k),(189,r5 k),(190,PO k),(191,GK k)] [] k f159 false [] 0
theorem ni (ho:ai o):Tl o 159 (PP k:Rw S):=qx (Wj k) ⟨Sk k ho,pM k ho,ab0 k ho,Kp k ho,trivial⟩ func159 fun f qk rj Z x h=>qK h
def PQ:Rw S:=aj EY xn fun l_0 l_1 f qk Z=>aa k (tN k l_0 l_1 f qk) (ah0 Z)
def Wl:Fx S:=fp 31 [(159,PP k)] [] k f180 0
theorem ab2 (ho:ai o):Tl o 180 (PQ k:Rw S):=qx (Wl k) ⟨ni k ho,trivial⟩ func180 fun l_0 l_1 f qk Z x h=>qK h
def PR (hd:fJ S):Rw S:=aj adH xn fun l_0 l_1 t v d Z=>hd l_0 l_1 t v d (AP Z)
def C1 (hd:fJ S) (k:Nat):Fx S:=fp 128 [(39,Od k),(146,PR hd),(180,PQ k)] [(1000006,⟨[(2,pr),(3,pr),(4,pr),(5,pr),(8,pr),(9,pr)],[(4,[pr,pr]),(5,[pr,pr,pr,pr,pr,pr]),(8,[pr,pr,pr,qW 200515,qW 200516,qW 200517]),(9,[pr,pr,pr,pr,qW 200580,qW 200581])]⟩,ap 3 7),(7,⟨[(2,pr),(3,pr),(4,pr),(5,pr),(8,pr),(9,pr),(55,pr),(56,pr),(57,pr)],[(4,[pr,pr]),(5,[pr,pr,pr,pr,pr,pr]),(8,[pr,pr,pr,qW 200515,qW 200516,qW 200517]),(9,[pr,pr,pr,pr,qW 200580,qW 200581])]⟩,ap 6 23),(16,⟨[(2,pr),(3,pr),(4,pr),(8,pr),(9,pr),(14,pr),(88,pr),(89,pr),(90,pr)],[(4,[pr,pr]),(8,[pr,pr,pr,qW 200515,qW 200516,qW 200517]),(9,[pr,pr,pr,pr,qW 200580,qW 200581])]⟩,ap 9 191),(20,⟨[(2,pr),(3,pr),(4,pr),(8,pr),(9,pr),(14,pr),(17,pr),(88,pr),(89,pr),(90,pr),(101,pr),(102,pr),(103,pr)],[(4,[pr,pr]),(8,[pr,pr,pr,qW 200515,qW 200516,qW 200517]),(9,[pr,pr,pr,pr,qW 200580,qW 200581]),(17,[pr,qW 201089])]⟩,ap 19 183487)] k f146 0
def Ng (l_0 l_1:Int) (t:Tm) (r2:List Cl) (v d:Int) (h:Int):St UU:=⟨[(2,(iI v)),(3,(iI d)),(4,(pt 4)),(5,(pt 5)),(8,(pt 8)),(9,(pt 9))],[(4,.cells [(iI l_0),(iI l_1)]),(5,bT t),(8,.cells [(iI 0),(iI 0),Di,(.own 200515 0),(.own 200516 0),(.own 200517 0)]),(9,.cells [(iI t.k),(iI h),(.str t.name),(sC r2),(.own 200580 0),(.own 200581 0)])],[(200581,Al),(200580,Db),(200517,Al),(200516,Db),(200515,Bx)],[(200581,.wr),(200580,.wr),(200517,.wr),(200516,.wr),(200515,.wr)]⟩
def h4 (l_0 l_1:Int) (t:Tm) (j:Int) (r2:List Cl) (v d:Int) (h:List Tm) (q:Int):St UU:=⟨[(2,(iI v)),(3,(iI d)),(4,(pt 4)),(5,(pt 5)),(8,(pt 8)),(9,(pt 9)),(55,(sT t.c)),(56,(iI t.c.length)),(57,(iI q))],[(4,.cells [(iI l_0),(iI l_1)]),(5,bT t),(8,.cells [(iI 0),(iI 0),Di,(.own 200515 0),(.own 200516 0),(.own 200517 0)]),(9,.cells [(iI t.k),(iI j),(.str t.name),(sC r2),(.own 200580 0),(.own 200581 0)])],[(200581,Al),(200580,⟨0,ET.T,h⟩),(200517,Al),(200516,Db),(200515,Bx)],[(200581,.wr),(200580,.wr),(200517,.wr),(200516,.wr),(200515,.wr)]⟩
def y0 (l_0 l_1:Int) (t:Tm) (x:Int) (r2:List Cl) (j:List Tm) (v d:Int) (q:List (Br Tm)) (h xM:Int):St UU:=⟨[(2,(iI v)),(3,(iI d)),(4,(pt 4)),(8,(pt 8)),(9,(pt 9)),(14,(iI h)),(88,(sB t.s)),(89,(iI t.s.length)),(90,(iI xM))],[(4,.cells [(iI l_0),(iI l_1)]),(8,.cells [(iI 0),(iI 0),Di,(.own 200515 0),(.own 200516 0),(.own 200517 0)]),(9,.cells [(iI t.k),(iI x),(.str t.name),(sC r2),(.own 200580 0),(.own 200581 0)])],[(200581,⟨0,ET.B,q⟩),(200580,⟨0,ET.T,j⟩),(200517,Al),(200516,Db),(200515,Bx)],[(200581,.wr),(200580,.wr),(200517,.wr),(200516,.wr),(200515,.wr)]⟩
def aCj (Dd:List Cl) (l_0 l_1:Int) (t:Tm) (E:Int) (r2:List Cl) (q:List Tm) (x:List (Br Tm)) (z:(Br Tm)) (h v d xM:Int) (j:List Tm) (A:Int):St UU:=⟨[(2,(iI v)),(3,(iI d)),(4,(pt 4)),(8,(pt 8)),(9,(pt 9)),(14,(iI h)),(17,(pt 17)),(88,(sB t.s)),(89,(iI t.s.length)),(90,(iI xM)),(101,(sT z.c)),(102,(iI z.c.length)),(103,(iI A))],[(4,.cells [(iI l_0),(iI l_1)]),(8,.cells [(iI 0),(iI 0),Di,(.own 200515 0),(.own 200516 0),(.own 200517 0)]),(9,.cells [(iI t.k),(iI E),(.str t.name),(sC r2),(.own 200580 0),(.own 200581 0)]),(17,.cells [(sC Dd),(.own 201089 0)])],[(201089,⟨0,ET.T,j⟩),(200581,⟨0,ET.B,x⟩),(200580,⟨0,ET.T,q⟩),(200517,Al),(200516,Db),(200515,Bx)],[(201089,.wr),(200581,.wr),(200580,.wr),(200517,.wr),(200516,.wr),(200515,.wr)]⟩
section
variable (hd:fJ S) (k:Nat) (l_0 l_1:Int) (t:Tm) (v d:Int) (Z:Out UU->Option S)
theorem aEy (Dd x r2 q j B h xM Z2): ∀n z A,(C1 hd k).lp Z 20 [Z2] n (aCj Dd l_0 l_1 t x r2 q j B h v d xM z A)=l7 hd k (AP Z) (fun j h xM=>Z2 (y0 l_0 l_1 t x r2 q v d j h xM)) Dd l_0 l_1 t x r2 q j B h v d xM n z A:=aL (xe hd k (AP Z) Dd l_0 l_1 t x r2 q j B h v d xM (fun j h xM=>Z2 (y0 l_0 l_1 t x r2 q v d j h xM)))
theorem aEx (x r2 q): ∀n j h xM,(C1 hd k).lp Z 16 [] n (y0 l_0 l_1 t x r2 q v d j h xM)=NC hd k (AP Z) l_0 l_1 t x r2 q v d n j h xM:=p7 (fun own=>sA hd k (AP Z) l_0 l_1 t x r2 q v d (fun B j E h xM z A=>l7 hd k (AP Z) own B l_0 l_1 t x r2 q j E h v d xM k z A) own) rfl (fun _=>rfl) fun r j h xM=>qy (b:=sA hd k (AP Z) l_0 l_1 t x r2 q v d (fun B j E h xM z A=>(C1 hd k).lp Z 20 [r] k (aCj B l_0 l_1 t x r2 q j E h v d xM z A)) (fun j h xM=>r (y0 l_0 l_1 t x r2 q v d j h xM)) j h xM) (by kernel_rfl) (by simp only [aEy])
theorem aEw (q r2): ∀n h x,(C1 hd k).lp Z 7 [] n (h4 l_0 l_1 t q r2 v d h x)=SA hd k (AP Z) l_0 l_1 t q r2 v d n h x:=aL (fun own=>sz hd k (AP Z) l_0 l_1 t q r2 v d (fun h z j A=>NC hd k (AP Z) l_0 l_1 t q r2 h v d k z j A) own) rfl (fun _=>rfl) fun r h x=>qy (b:=sz hd k (AP Z) l_0 l_1 t q r2 v d (fun h z j A=>(C1 hd k).lp Z 16 [] k (y0 l_0 l_1 t q r2 h v d z j A)) (fun h x=>r (h4 l_0 l_1 t q r2 v d h x)) h x) (by kernel_rfl) (by simp only [aEx])
theorem YZ (r2): ∀n h,(C1 hd k).jn Z 1000006 [] n (Ng l_0 l_1 t r2 v d h)=uJ hd k (AP Z) l_0 l_1 t r2 v d n h:=nx (Da hd k (AP Z) l_0 l_1 t r2 v d (fun h j q=>SA hd k (AP Z) l_0 l_1 t h r2 v d k j q)) rfl (fun _=>rfl) (fun h=>qy (b:=Da hd k (AP Z) l_0 l_1 t r2 v d (fun h j q=>(C1 hd k).lp Z 7 [] k (h4 l_0 l_1 t h r2 v d j q)) h) (by kernel_rfl) (by simp only [aEw]))
end
theorem su (o:Obj) (ho:ai o): ∀k:Nat,Tl o 146 (PR (dk k:fJ S))
 |0=>dz fun l_0 l_1 t v d Z x h=>by cases h
 |k+1=>qx (C1 (dk k) k) ⟨RO k ho,su o ho k,ab2 k ho,trivial⟩ func146 fun l_0 l_1 t v d Z x h=>qy (b:=HY (dk k) k (AP Z) (fun q j=>(C1 (dk k) k).jn Z 1000006 [] k (Ng l_0 l_1 t q v d j)) l_0 l_1 t v d) (by kernel_rfl) (qy (by simp only [YZ];rfl) h)
def aC2:Rw S:=aj adI aDy fun c0 c1 c2 Z=>aa k (yW k c0 c1 c2) (ah1 c0 c1 c2 Z)
def Wm:Fx S:=fp 11 [(146,PR (dk k))] [] k f153 3
theorem pN (ho:ai o):Tl o 153 (aC2 k:Rw S):=qx (Wm k) ⟨su o ho k,trivial⟩ func153 fun c0 c1 c2 Z x h=>qK h
def PS:Rw S:=aj aGA aDy fun t numbers c0 c1 c2 Z=>aa k (y7 k t numbers c0 c1 c2) (ah c0 c1 c2 Z)
def Wn:Fx S:=⟨⟨30,(fun _=>[]),(fun _=>false),pr,fun|6=>true|7=>true|_=>false⟩,[(23,PK k),(153,aC2 k)],[(5,⟨[(2,pr),(6,pr),(7,pr),(17,pr),(18,pr),(19,pr)],[(1000000,[pr]),(1000001,[pr]),(1000002,[pr,pr,pr,pr,pr,pr]),(5000006,[pr,pr,pr,qW 320200387,qW 320200388,qW 320200389]),(5000007,[pr])]⟩,ap 5 11)],k,f144,false,[],3,some (Tw 16 179 f179 k)⟩
def aCk (c0 c1:Int) (c2:Tm) (numbers:List Int) (h:Int):St UU:=⟨[(2,(.func 153 [] [(pt 1000000),(pt 1000001),(pt 1000002)])),(6,(pt 5000006)),(7,(pt 5000007)),(17,(la numbers .none)),(18,(iI numbers.length)),(19,(iI h))],[(1000000,bI c0),(1000001,bI c1),(1000002,bT c2),(5000006,.cells [(iI 0),(iI 0),Di,(.own 320200387 0),(.own 320200388 0),(.own 320200389 0)]),(5000007,bI 0)],[(320200389,Al),(320200388,Db),(320200387,Bx)],[(320200389,.wr),(320200388,.wr),(320200387,.wr)]⟩
section
variable (k:Nat) (t:Tm) (numbers:List Int) (c0 c1:Int) (c2:Tm) (Z:Out UU->Option S)
theorem aEz: ∀n h,(Wn k).lp Z 5 [] n (aCk c0 c1 c2 numbers h)=nE k (ah c0 c1 c2 Z) c0 c1 c2 numbers n h:=cF (xd k (ah c0 c1 c2 Z) c0 c1 c2 numbers)
end
theorem ab4 (ho:ai o):Tl o 144 (PS k:Rw S):=BZ (Wn k) rfl (yn o func179 (by kernel_rfl)) ⟨Jx k ho,pN k ho,trivial⟩ func144 (by kernel_rfl) fun t numbers c0 c1 c2 Z x h=>qy (b:=BS k (ah c0 c1 c2 Z) (fun j=>(Wn k).lp Z 5 [] k (aCk c0 c1 c2 numbers j)) t numbers c0 c1 c2) (by kernel_rfl) (qy (by simp only [aEz];rfl) (al h))
def vO:Rw S:=aj sr xn fun t vars px Z=>aa k (lu k t vars px) (Iu Z)
def jQ:Fx S:=fp 18 [(144,PS k)] [] k f89 0
theorem azd (ho:ai o):Tl o 89 (vO k:Rw S):=qx (jQ k) ⟨ab4 k ho,trivial⟩ func89 fun t vars px Z x h=>qK h
def PT:Rw S:=aj FE xn fun t Z=>aa k (ze k t) (da Z)
def Wo:Fx S:=fp 6 [] [] k f182 0
theorem ab5 (ho:ai o):Tl o 182 (PT k:Rw S):=qx (Wo k) trivial func182 fun t Z x h=>qK h
def PW (hd:gX S):Rw S:=aj adJ xn fun t rm u vars px Z=>hd t rm u vars px (AP Z)
def C2 (hd:gX S) (k:Nat):Fx S:=fp 137 [(39,Od k),(89,vO k),(151,PW hd),(182,PT k)] [(12,⟨[(1,pr),(3,pr),(4,pr),(5,pr),(7,pr),(10,pr),(13,pr),(66,pr),(67,pr),(68,pr)],[(5,[pr,pr,pr,pr,pr,pr]),(7,[pr,pr,pr,pr,pr,pr]),(10,[pr,pr,pr,qW 200643,qW 200644,qW 200645]),(13,[pr,pr,pr,qW 200835,qW 200836,qW 200837])]⟩,ap 6 23),(18,⟨[(1,pr),(3,pr),(4,pr),(5,pr),(7,pr),(10,pr),(13,pr),(97,pr),(98,pr),(99,pr)],[(5,[pr,pr,pr,pr,pr,pr]),(7,[pr,pr,pr,pr,pr,pr]),(10,[pr,pr,pr,qW 200643,qW 200644,qW 200645]),(13,[pr,pr,pr,qW 200835,qW 200836,qW 200837])]⟩,ap 7 47),(22,⟨[(1,pr),(3,pr),(4,pr),(5,pr),(7,pr),(10,pr),(13,pr),(20,pr),(97,pr),(98,pr),(99,pr),(108,pr),(109,pr),(110,pr)],[(5,[pr,pr,pr,pr,pr,pr]),(7,[pr,pr,pr,pr,pr,pr]),(10,[pr,pr,pr,qW 200643,qW 200644,qW 200645]),(13,[pr,pr,pr,qW 200835,qW 200836,qW 200837]),(20,[qW 201280,qW 201281])]⟩,ap 17 45871)] k f151 0
def Nj (t u:Tm) (rm vars px:Int) (h:List Tm) (H8:Int):St UU:=⟨[(1,(iI rm)),(3,(iI vars)),(4,(iI px)),(5,(pt 5)),(7,(pt 7)),(10,(pt 10)),(13,(pt 13)),(66,(sT t.c)),(67,(iI t.c.length)),(68,(iI H8))],[(5,bT t),(7,bT u),(10,.cells [(iI 0),(iI 0),Di,(.own 200643 0),(.own 200644 0),(.own 200645 0)]),(13,.cells [(iI t.k),(iI 0),(.str t.name),(.own 200835 0),(.own 200836 0),(.own 200837 0)])],[(200837,Al),(200836,⟨0,ET.T,h⟩),(200835,⟨0,ET.C,t.r⟩),(200645,Al),(200644,Db),(200643,Bx)],[(200837,.wr),(200836,.wr),(200835,.wr),(200645,.wr),(200644,.wr),(200643,.wr)]⟩
def im (t:Tm) (h:List Tm) (u:Tm) (rm vars px:Int) (j:List (Br Tm)) (q:Int):St UU:=⟨[(1,(iI rm)),(3,(iI vars)),(4,(iI px)),(5,(pt 5)),(7,(pt 7)),(10,(pt 10)),(13,(pt 13)),(97,(sB t.s)),(98,(iI t.s.length)),(99,(iI q))],[(5,bT t),(7,bT u),(10,.cells [(iI 0),(iI 0),Di,(.own 200643 0),(.own 200644 0),(.own 200645 0)]),(13,.cells [(iI t.k),(iI 0),(.str t.name),(.own 200835 0),(.own 200836 0),(.own 200837 0)])],[(200837,⟨0,ET.B,j⟩),(200836,⟨0,ET.T,h⟩),(200835,⟨0,ET.C,t.r⟩),(200645,Al),(200644,Db),(200643,Bx)],[(200837,.wr),(200836,.wr),(200835,.wr),(200645,.wr),(200644,.wr),(200643,.wr)]⟩
def aCl (t:Tm) (h:List Tm) (j:List (Br Tm)) (z:(Br Tm)) (u:Tm) (rm vars px A:Int) (q:List Tm) (x:Int):St UU:=⟨[(1,(iI rm)),(3,(iI vars)),(4,(iI px)),(5,(pt 5)),(7,(pt 7)),(10,(pt 10)),(13,(pt 13)),(20,(pt 20)),(97,(sB t.s)),(98,(iI t.s.length)),(99,(iI A)),(108,(sT z.c)),(109,(iI z.c.length)),(110,(iI x))],[(5,bT t),(7,bT u),(10,.cells [(iI 0),(iI 0),Di,(.own 200643 0),(.own 200644 0),(.own 200645 0)]),(13,.cells [(iI t.k),(iI 0),(.str t.name),(.own 200835 0),(.own 200836 0),(.own 200837 0)]),(20,.cells [(.own 201280 0),(.own 201281 0)])],[(201281,⟨0,ET.T,q⟩),(201280,⟨0,ET.C,z.f⟩),(200837,⟨0,ET.B,j⟩),(200836,⟨0,ET.T,h⟩),(200835,⟨0,ET.C,t.r⟩),(200645,Al),(200644,Db),(200643,Bx)],[(201281,.wr),(201280,.wr),(200837,.wr),(200836,.wr),(200835,.wr),(200645,.wr),(200644,.wr),(200643,.wr)]⟩
section
variable (hd:gX S) (k:Nat) (t:Tm) (rm:Int) (u:Tm) (vars px:Int) (Z:Out UU->Option S)
theorem aEB (j h A q Z1): ∀n x z,(C2 hd k).lp Z 22 [Z1] n (aCl t j h A u rm vars px q x z)=TI hd k (AP Z) (fun h q=>Z1 (im t j u rm vars px h q)) t j h A u rm vars px q n x z:=aL (xj hd k (AP Z) t j h A u rm vars px q (fun h q=>Z1 (im t j u rm vars px h q)))
theorem aEA (j): ∀n h q,(C2 hd k).lp Z 18 [] n (im t j u rm vars px h q)=kw hd k (AP Z) t j u rm vars px n h q:=aL (fun own=>sk hd k (AP Z) t j u rm vars px (fun h A q x z=>TI hd k (AP Z) own t j h A u rm vars px q k x z) own) rfl (fun _=>rfl) fun r h q=>qy (b:=sk hd k (AP Z) t j u rm vars px (fun h A q x z=>(C2 hd k).lp Z 22 [r] k (aCl t j h A u rm vars px q x z)) (fun h q=>r (im t j u rm vars px h q)) h q) (by kernel_rfl) (by simp only [aEB])
theorem Y4: ∀n h H8,(C2 hd k).lp Z 12 [] n (Nj t u rm vars px h H8)=qj hd k (AP Z) t u rm vars px n h H8:=aL (fun own=>eB hd k (AP Z) t u rm vars px (fun h j q=>kw hd k (AP Z) t h u rm vars px k j q) own) rfl (fun _=>rfl) fun r h H8=>qy (b:=eB hd k (AP Z) t u rm vars px (fun h j q=>(C2 hd k).lp Z 18 [] k (im t h u rm vars px j q)) (fun h H8=>r (Nj t u rm vars px h H8)) h H8) (by kernel_rfl) (by simp only [aEA])
end
theorem aBj (o:Obj) (ho:ai o): ∀k:Nat,Tl o 151 (PW (gA k:gX S))
 |0=>dz fun t rm u vars px Z x h=>by cases h
 |k+1=>qx (C2 (gA k) k) ⟨RO k ho,azd k ho,aBj o ho k,ab5 k ho,trivial⟩ func151 fun t rm u vars px Z x h=>qy (b:=H2 (gA k) k (AP Z) (fun j H8=>(C2 (gA k) k).lp Z 12 [] k (Nj t u rm vars px j H8)) t rm u vars px) (by kernel_rfl) (qy (by simp only [Y4];rfl) h)
def Be (hd:dp S):Rw S:=aj FE xn fun t Z=>hd t (da Z)
def PY (hd:dp S) (k:Nat):Rw S:=aj Lh fh fun Fq p h c0 Z=>aa k (iF hd k Fq p h c0) (N7 Z)
def Wq (hd:dp S) (k:Nat):Fx S:=fp 12 [(152,Be hd)] [] k f183 1
theorem ab8 (o:Obj) (ho:ai o) (hd:dp S) (Hd:Tl o 152 (Be hd)) (k:Nat):Tl o 183 (PY hd k:Rw S):=qx (Wq hd k) ⟨Hd,trivial⟩ func183 fun Fq p j c0 Z x h=>qK h
def aC3 (hd:dp S) (k:Nat):Rw S:=aj E0 fh fun t c0 Z=>aa k (DZ hd k t c0) (N7 Z)
def Wr (hd:dp S) (k:Nat):Fx S:=fp 60 [(39,Od k),(183,PY hd k)] [(2,aS [1,2,15,16,17] [(2,6),(1000000,1)],ap 4 5),(12,aS [1,9,40,41,42] [(1000000,1)],ap 7 47),(15,aS [1,9,40,41,42,47,48,49] [(1000000,1)],ap 15 13103)] k f74 1
def azF (t:Tm) (h qG:Int):St UU:=⟨[(1,(.func 183 [] [(pt 1000000)])),(2,(pt 2)),(15,(sT t.c)),(16,(iI t.c.length)),(17,(iI qG))],[(2,bT t),(1000000,bI h)],[],[]⟩
def pf (t:Tm) (re qE h:Int):St UU:=⟨[(1,(.func 183 [] [(pt 1000000)])),(9,(iI h)),(40,(sB t.s)),(41,(iI t.s.length)),(42,(iI qE))],[(1000000,bI re)],[],[]⟩
def aCn (t:Tm) (qE:Int) (x4:(Br Tm)) (h:Int) (rL rO:Int):St UU:=⟨[(1,(.func 183 [] [(pt 1000000)])),(9,(iI h)),(40,(sB t.s)),(41,(iI t.s.length)),(42,(iI qE)),(47,(sT x4.c)),(48,(iI x4.c.length)),(49,(iI rO))],[(1000000,bI rL)],[],[]⟩
section
variable (hd:dp S) (k:Nat) (t:Tm) (c0:Int) (Z:Out UU->Option S)
theorem aEH (qE x4 h Z1): ∀n rL rO,(Wr hd k).lp Z 15 [Z1] n (aCn t qE x4 h rL rO)=n5 hd k (N7 Z) (fun re qE h=>Z1 (pf t re qE h)) t qE x4 h n rL rO:=aL (yk hd k (N7 Z) t qE x4 h (fun re qE h=>Z1 (pf t re qE h)))
theorem aEG: ∀n re qE h,(Wr hd k).lp Z 12 [] n (pf t re qE h)=kN hd k (N7 Z) t n re qE h:=p7 (fun own=>tu hd k (N7 Z) t (fun qE x4 h rL rO=>n5 hd k (N7 Z) own t qE x4 h k rL rO) own) rfl (fun _=>rfl) fun r re qE h=>qy (b:=tu hd k (N7 Z) t (fun qE x4 h rL rO=>(Wr hd k).lp Z 15 [r] k (aCn t qE x4 h rL rO)) (fun re qE h=>r (pf t re qE h)) re qE h) (by kernel_rfl) (by simp only [aEH])
theorem aEF: ∀n j qG,(Wr hd k).lp Z 2 [] n (azF t j qG)=h9 hd k (N7 Z) t n j qG:=aL (fun own=>sG hd k (N7 Z) t (fun re qE h=>kN hd k (N7 Z) t k re qE h) own) rfl (fun _=>rfl) fun r j qG=>qy (b:=sG hd k (N7 Z) t (fun re qE h=>(Wr hd k).lp Z 12 [] k (pf t re qE h)) (fun j qG=>r (azF t j qG)) j qG) (by kernel_rfl) (by simp only [aEG])
end
theorem Ks (o:Obj) (ho:ai o) (hd:dp S) (Hd:Tl o 152 (Be hd)) (k:Nat):Tl o 74 (aC3 hd k:Rw S):=qx (Wr hd k) ⟨RO k ho,ab8 o ho hd Hd k,trivial⟩ func74 fun t c0 Z x h=>qy (b:=IX hd k (N7 Z) (fun j qG=>(Wr hd k).lp Z 2 [] k (azF t j qG)) t c0) (by kernel_rfl) (qy (by simp only [aEF];rfl) (al h))
def Wp (hd:dp S) (k:Nat):Fx S:=fp 9 [(74,aC3 hd k)] [] k f152 0
theorem aBk (o:Obj) (ho:ai o): ∀k:Nat,Tl o 152 (Be (j5 k:dp S))
 |0=>dz fun t Z x h=>by cases h
 |k+1=>qx (Wp (j5 k) k) ⟨Ks o ho (j5 k) (aBk o ho k) k,trivial⟩ func152 fun t Z x h=>qy (by kernel_rfl) h
def PZ:Rw S:=aj Ai xn fun t rm u Z=>aa k (zd k t rm u) (Iu Z)
def Ws:Fx S:=⟨⟨49,(fun _=>[]),(fun _=>false),pr,fun|6=>true|7=>true|_=>false⟩,[(23,PK k),(148,PM (j6 k)),(149,GJ (gz k)),(151,PW (gA k)),(152,Be (j5 k))],[],k,f88,false,[],0,some (Tw 16 150 f150 k)⟩
theorem ab9 (ho:ai o):Tl o 88 (PZ k:Rw S):=BZ (Ws k) rfl (yn o func150 (by kernel_rfl)) ⟨Jx k ho,aBg o ho k,aBh o ho k,aBj o ho k,aBk o ho k,trivial⟩ func88 (by kernel_rfl) fun t rm u Z x h=>qK h
def P0:Rw S:=aj adK fh fun t HE c0 Z=>aa k (Im k t HE c0) (AQ Z)
def Wt:Fx S:=fp 23 [] [] k f83 1
theorem MG (ho:ai o):Tl o 83 (P0 k:Rw S):=qx (Wt k) trivial func83 fun t HE c0 Z x h=>qK h
def P1:Rw S:=aj kG fh fun t u c0 Z=>aa k (za k t u c0) (AQ Z)
def C3:Fx S:=fp 18 [(83,P0 k),(84,LQ k),(88,PZ k)] [] k f55 1
theorem sW (ho:ai o):Tl o 55 (P1 k:Rw S):=qx (C3 k) ⟨MG k ho,Mw k ho,ab9 k ho,trivial⟩ func55 fun t u c0 Z x h=>qK h
def Bf:Rw S:=aj adL xn fun b Z=>aa k (cW k b) (F9 Z)
def Wu:Fx S:=fp 15 [] [] k f177 0
theorem Ek (ho:ai o):Tl o 177 (Bf k:Rw S):=qx (Wu k) trivial func177 fun b Z x h=>qK h
def vP:Rw S:=aj E1 xn fun s Z=>aa k (cP k s) (da Z)
def Wv:Fx S:=fp 19 [(177,Bf k)] [(2,aS [0,1,7,8] [],ap 4 5)] k f176 0
def aCo (s:List (Br Tm)) (h:Int):St UU:=⟨[(0,(sB s)),(1,(.func 177 [] [])),(7,(iI s.length)),(8,(iI h))],[],[],[]⟩
section
variable (k:Nat) (s:List (Br Tm)) (Z:Out UU->Option S)
theorem aEI: ∀n h,(Wv k).lp Z 2 [] n (aCo s h)=mg k (da Z) s n h:=cF (cm k (da Z) s)
end
theorem zO (ho:ai o):Tl o 176 (vP k:Rw S):=qx (Wv k) ⟨Ek k ho,trivial⟩ func176 fun s Z x h=>qy (b:=N' k (da Z) (fun j=>(Wv k).lp Z 2 [] k (aCo s j)) s) (by kernel_rfl) (qy (by simp only [aEI];rfl) (al h))
def P2:Rw S:=aj Lk xn fun l Z=>aa k (cS k l) (da Z)
def Ww:Fx S:=fp 5 [(176,vP k)] [] k f135 0
theorem acb (ho:ai o):Tl o 135 (P2 k:Rw S):=qx (Ww k) ⟨zO k ho,trivial⟩ func135 fun l Z x h=>qK h
def Bg:Rw S:=aj cn xn fun Z=>aa k (T5 k) (cM Z)
def Wx:Fx S:=fp 3 [] [] k f160 0
theorem Em (ho:ai o):Tl o 160 (Bg k:Rw S):=qx (Wx k) trivial func160 fun Z x h=>qK h
def P3:Rw S:=aj lS xn fun s i Z=>aa k (i_ k s i) (b_ Z)
def Wy:Fx S:=fp 16 [(229,PE k)] [] k f232 0
theorem zq (ho:ai o):Tl o 232 (P3 k:Rw S):=qx (Wy k) ⟨l2 k ho,trivial⟩ func232 fun s i Z x h=>qK h
def P4:Rw S:=aj uG xn fun vi Z=>aa k (JH k vi) (da Z)
def Wz:Fx S:=fp 21 [] [] k f255 0
theorem ace (ho:ai o):Tl o 255 (P4 k:Rw S):=qx (Wz k) trivial func255 fun vi Z x h=>qK h
def P5:Rw S:=aj uG xn fun s Z=>aa k (lw k s) (da Z)
def WA:Fx S:=fp 6 [(255,P4 k)] [] k f231 0
theorem acf (ho:ai o):Tl o 231 (P5 k:Rw S):=qx (WA k) ⟨ace k ho,trivial⟩ func231 fun s Z x h=>qK h
def P6:Rw S:=aj Si xn fun i Z=>aa k (yE k i) (F9 Z)
def aDC:Fx S:=fp 7 [(231,P5 k),(232,P3 k)] [] k f207 0
theorem acg (ho:ai o):Tl o 207 (P6 k:Rw S):=qx (aDC k) ⟨acf k ho,zq k ho,trivial⟩ func207 fun i Z x h=>qK h
def P7:Rw S:=aj aBu xn fun t i sV Z=>aa k (DM k t i sV) (da Z)
def WC:Fx S:=fp 21 [(23,PK k),(128,jz k),(207,P6 k)] [] k f185 0
theorem ach (ho:ai o):Tl o 185 (P7 k:Rw S):=qx (WC k) ⟨Jx k ho,j_ k ho,acg k ho,trivial⟩ func185 fun t i sV Z x h=>qK h
def vQ:Rw S:=aj adM hU fun c0 c1 Z=>aa k (DG k c0 c1) (gR c0 c1 Z)
def WD:Fx S:=fp 6 [] [] k f208 2
theorem zP (ho:ai o):Tl o 208 (vQ k:Rw S):=qx (WD k) trivial func208 fun c0 c1 Z x h=>qK h
def GO:Rw S:=aj adO hU fun c0 c1 Z=>aa k (DH k c0 c1) (ah3 c0 c1 Z)
def WE:Fx S:=fp 6 [] [] k f208 2
theorem Kt (ho:ai o):Tl o 208 (GO k:Rw S):=qx (WE k) trivial func208 fun c0 c1 Z x h=>qK h
def P8:Rw S:=aj adP xn fun i sV Z=>aa k (DF k i sV) (N9 Z)
def WF:Fx S:=fp 12 [(208,ol (uy adM hU) (vQ k) (GO k))] [] k f186 0
theorem aci (ho:ai o):Tl o 186 (P8 k:Rw S):=qx (WF k) ⟨vw (zP k ho) (Kt k ho),trivial⟩ func186 fun i sV Z x h=>qK h
def GP:Rw S:=aj lS xn fun s i Z=>aa k (Nh k s i) (F9 Z)
def WG:Fx S:=fp 15 [(229,PE k)] [] k f210 0
theorem Ku (ho:ai o):Tl o 210 (GP k:Rw S):=qx (WG k) ⟨l2 k ho,trivial⟩ func210 fun s i Z x h=>qK h
def P9:Rw S:=aj eo xn fun f Z=>aa k (tD k f) (cM Z)
def C4:Fx S:=fp 5 [] [] k f211 0
theorem acj (ho:ai o):Tl o 211 (P9 k:Rw S):=qx (C4 k) trivial func211 fun f Z x h=>qK h
def GQ:Rw S:=aj Si xn fun i Z=>aa k (yK k i) (F9 Z)
def WH:Fx S:=fp 7 [(231,P5 k),(232,P3 k)] [] k f221 0
theorem Kv (ho:ai o):Tl o 221 (GQ k:Rw S):=qx (WH k) ⟨acf k ho,zq k ho,trivial⟩ func221 fun i Z x h=>qK h
def P_:Rw S:=aj ny xn fun c Z=>aa k (tJ k c) (N_ Z)
def WJ:Fx S:=fp 8 [(175,Bb k)] [] k f258 0
theorem ack (ho:ai o):Tl o 258 (P_ k:Rw S):=qx (WJ k) ⟨Eg k ho,trivial⟩ func258 fun c Z x h=>qK h
def Qa:Rw S:=aj Ll xn fun l Z=>aa k (yN k l) (cM Z)
def C5:Fx S:=fp 29 [(258,P_ k)] [(3,⟨[(1,pr),(5,qW 100005),(10,pr),(11,pr),(12,pr)],[]⟩,ap 5 11)] k f222 0
def Np (l:List Cl) (uK:Int) (h:List Cl):St UU:=⟨[(1,(.func 258 [] [])),(5,(.own 100005 0)),(10,(sC l)),(11,(iI l.length)),(12,(iI uK))],[],[(100005,⟨0,ET.C,h⟩)],[(100005,.wr)]⟩
section
variable (k:Nat) (l:List Cl) (Z:Out UU->Option S)
theorem Zc: ∀n uK h,(C5 k).lp Z 3 [] n (Np l uK h)=qo k (cM Z) l n uK h:=aL (wW k (cM Z) l)
end
theorem acl (ho:ai o):Tl o 222 (Qa k:Rw S):=qx (C5 k) ⟨ack k ho,trivial⟩ func222 fun l Z x h=>qy (b:=HJ k (cM Z) (fun uK j=>(C5 k).lp Z 3 [] k (Np l uK j)) l) (by kernel_rfl) (qy (by simp only [Zc];rfl) (al h))
def Qb:Rw S:=aj eo xn fun f Z=>aa k (tI k f) (xk Z)
def C6:Fx S:=fp 12 [(128,jz k),(172,Pp k),(222,Qa k)] [] k f238 0
theorem acm (ho:ai o):Tl o 238 (Qb k:Rw S):=qx (C6 k) ⟨j_ k ho,Sk k ho,acl k ho,trivial⟩ func238 fun f Z x h=>qK h
def Qc:Rw S:=aj EU wC fun b c0 Z=>aa k (yO k b c0) (mt c0 Z)
def WK:Fx S:=fp 11 [(225,OU k),(258,P_ k)] [] k f259 1
theorem acn (ho:ai o):Tl o 259 (Qc k:Rw S):=qx (WK k) ⟨bz k ho,ack k ho,trivial⟩ func259 fun b c0 Z x h=>qK h
def Bj:Rw S:=aj adQ wC fun l c0 Z=>aa k (yM k l c0) (tT c0 Z)
def WL:Fx S:=fp 29 [(259,Qc k)] [(3,⟨[(1,pr),(5,qW 100005),(10,pr),(11,pr),(12,pr)],[(1000000,[pr,pr])]⟩,ap 5 11)] k f222 1
def aCp (c0:Cl) (l:List Cl) (uK:Int) (h:List Cl):St UU:=⟨[(1,(.func 259 [] [(pt 1000000)])),(5,(.own 100005 0)),(10,(sC l)),(11,(iI l.length)),(12,(iI uK))],[(1000000,bC c0)],[(100005,⟨0,ET.C,h⟩)],[(100005,.wr)]⟩
section
variable (k:Nat) (l:List Cl) (c0:Cl) (Z:Out UU->Option S)
theorem aEJ: ∀n uK h,(WL k).lp Z 3 [] n (aCp c0 l uK h)=p8 k (tT c0 Z) c0 l n uK h:=aL (wV k (tT c0 Z) c0 l)
end
theorem Eo (ho:ai o):Tl o 222 (Bj k:Rw S):=qx (WL k) ⟨acn k ho,trivial⟩ func222 fun l c0 Z x h=>qy (b:=HI k (tT c0 Z) (fun uK j=>(WL k).lp Z 3 [] k (aCp c0 l uK j)) l c0) (by kernel_rfl) (qy (by simp only [aEJ];rfl) (al h))
def Qd:Rw S:=aj jk xn fun f g Z=>aa k (pe k f g) (xk Z)
def jZ:Fx S:=fp 25 [(172,Pp k),(222,Bj k)] [(3,⟨[(1,pr),(6,qW 100006),(9,pr),(10,pr),(11,pr)],[]⟩,ap 5 11)] k f239 0
def FL (g f:List Cl) (Md:Int) (h:List Cl):St UU:=⟨[(1,(sC g)),(6,(.own 100006 0)),(9,(sC f)),(10,(iI f.length)),(11,(iI Md))],[],[(100006,⟨0,ET.C,h⟩)],[(100006,.wr)]⟩
section
variable (k:Nat) (f g:List Cl) (Z:Out UU->Option S)
theorem Ze: ∀n Md h,(jZ k).lp Z 3 [] n (FL g f Md h)=p_ k (xk Z) g f n Md h:=aL (wX k (xk Z) g f)
end
theorem aco (ho:ai o):Tl o 239 (Qd k:Rw S):=qx (jZ k) ⟨Sk k ho,Eo k ho,trivial⟩ func239 fun f g Z x h=>qy (b:=HK k (xk Z) (fun Md j=>(jZ k).lp Z 3 [] k (FL g f Md j)) f g) (by kernel_rfl) (qy (by simp only [Ze];rfl) (al h))
def GS:Rw S:=aj jk xn fun f g Z=>aa k (yL k f g) (xk Z)
def aRy:Fx S:=fp 14 [(172,Pp k)] [] k f241 0
theorem Kx (ho:ai o):Tl o 241 (GS k:Rw S):=qx (aRy k) ⟨Sk k ho,trivial⟩ func241 fun f g Z x h=>qK h
def Qe:Rw S:=aj ny xn fun c Z=>aa k (yV k c) (xk Z)
def WM:Fx S:=fp 43 [(172,Pp k),(232,P3 k),(266,GZ)] [(3,⟨[(1,pr),(4,qW 100004),(11,pr),(12,pr),(13,pr)],[(1,[pr,pr])]⟩,ap 5 11),(8,⟨[(4,qW 100004),(26,pr),(27,pr),(28,pr)],[]⟩,ap 6 23)] k f257 0
def azG (c:Cl) (r1:List Int) (j:Int) (h:List Cl):St UU:=⟨[(1,(pt 1)),(4,(.own 100004 0)),(11,(la r1 .none)),(12,(iI r1.length)),(13,(iI j))],[(1,bC c)],[(100004,⟨0,ET.C,h⟩)],[(100004,.wr)]⟩
def aCq (j:List Int) (KN:Int) (h:List Cl):St UU:=⟨[(4,(.own 100004 0)),(26,(la j .none)),(27,(iI j.length)),(28,(iI KN))],[],[(100004,⟨0,ET.C,h⟩)],[(100004,.wr)]⟩
section
variable (k:Nat) (c:Cl) (Z:Out UU->Option S)
theorem aEL (j): ∀n KN h,(WM k).lp Z 8 [] n (aCq j KN h)=TL k (xk Z) j n KN h:=aL (w8 k (xk Z) j)
theorem aEK (r1): ∀n q h,(WM k).lp Z 3 [] n (azG c r1 q h)=qh k (xk Z) c r1 n q h:=aL (fun own=>j1 k (xk Z) c r1 (fun x KN j=>TL k (xk Z) x k KN j) own) rfl (fun _=>rfl) fun r q h=>qy (b:=j1 k (xk Z) c r1 (fun x KN j=>(WM k).lp Z 8 [] k (aCq x KN j)) (fun q h=>r (azG c r1 q h)) q h) (by kernel_rfl) (by simp only [aEL])
end
theorem acp (ho:ai o):Tl o 257 (Qe k:Rw S):=qx (WM k) ⟨Sk k ho,zq k ho,akR o ho,trivial⟩ func257 fun c Z x h=>qy (b:=HS k (xk Z) (fun r1 q j=>(WM k).lp Z 3 [] k (azG c r1 q j)) c) (by kernel_rfl) (qy (by simp only [aEK];rfl) (al h))
def Qf:Rw S:=aj jk xn fun f g Z=>aa k (jW k f g) (xk Z)
def C7:Fx S:=fp 35 [(172,Pp k),(225,OU k)] [(3,⟨[(1,pr),(6,qW 100006),(11,pr),(12,pr),(13,pr)],[]⟩,ap 5 11),(6,⟨[(1,pr),(6,qW 100006),(8,pr),(11,pr),(12,pr),(13,pr),(17,pr),(18,pr),(19,pr)],[(8,[pr,pr])]⟩,ap 13 3275)] k f235 0
def Nt (g f:List Cl) (j:Int) (h:List Cl):St UU:=⟨[(1,(sC g)),(6,(.own 100006 0)),(11,(sC f)),(12,(iI f.length)),(13,(iI j))],[],[(100006,⟨0,ET.C,h⟩)],[(100006,.wr)]⟩
def aCr (x1:Cl) (g f:List Cl) (j:Int) (q:Int) (h:List Cl):St UU:=⟨[(1,(sC g)),(6,(.own 100006 0)),(8,(pt 8)),(11,(sC f)),(12,(iI f.length)),(13,(iI j)),(17,(sC g)),(18,(iI g.length)),(19,(iI q))],[(8,bC x1)],[(100006,⟨0,ET.C,h⟩)],[(100006,.wr)]⟩
section
variable (k:Nat) (f g:List Cl) (Z:Out UU->Option S)
theorem aEM (x1 h Z0): ∀n x j,(C7 k).lp Z 6 [Z0] n (aCr x1 g f h x j)=nA k (xk Z) (fun h q=>Z0 (Nt g f h q)) x1 g f h n x j:=aL (w7 k (xk Z) x1 g f h (fun h q=>Z0 (Nt g f h q)))
theorem Zi: ∀n h j,(C7 k).lp Z 3 [] n (Nt g f h j)=lZ k (xk Z) g f n h j:=aL (fun own=>uf k (xk Z) g f (fun x1 h x q=>nA k (xk Z) own x1 g f h k x q) own) rfl (fun _=>rfl) fun r h j=>qy (b:=uf k (xk Z) g f (fun x1 h x q=>(C7 k).lp Z 6 [r] k (aCr x1 g f h x q)) (fun h j=>r (Nt g f h j)) h j) (by kernel_rfl) (by simp only [aEM])
end
theorem acq (ho:ai o):Tl o 235 (Qf k:Rw S):=qx (C7 k) ⟨Sk k ho,bz k ho,trivial⟩ func235 fun f g Z x h=>qy (b:=HR k (xk Z) (fun q j=>(C7 k).lp Z 3 [] k (Nt g f q j)) f g) (by kernel_rfl) (qy (by simp only [Zi];rfl) (al h))
def GT:Rw S:=aj Aj xn fun tT c Z=>aa k (yU k tT c) (xk Z)
def WN:Fx S:=fp 21 [(235,Qf k),(257,Qe k)] [] k f256 0
theorem Ky (ho:ai o):Tl o 256 (GT k:Rw S):=qx (WN k) ⟨acq k ho,acp k ho,trivial⟩ func256 fun tT c Z x h=>qK h
def Qh:Rw S:=aj E2 xn fun l qk Z=>aa k (DP k l qk) (xk Z)
def WP:Fx S:=fp 33 [(256,GT k)] [(2,aS [1,2,13,14,15] [],ap 4 5)] k f190 0
def aCs (l:List Cl) (v1:List Cl) (h:Int):St UU:=⟨[(1,(sC v1)),(2,(.func 256 [] [])),(13,(sC l)),(14,(iI l.length)),(15,(iI h))],[],[],[]⟩
section
variable (k:Nat) (l qk:List Cl) (Z:Out UU->Option S)
theorem aEN: ∀n v1 h,(WP k).lp Z 2 [] n (aCs l v1 h)=qe k (xk Z) l n v1 h:=aL (h6 k (xk Z) l)
end
theorem acs (ho:ai o):Tl o 190 (Qh k:Rw S):=qx (WP k) ⟨Ky k ho,trivial⟩ func190 fun l qk Z x h=>qy (b:=HP k (xk Z) (fun v1 j=>(WP k).lp Z 2 [] k (aCs l v1 j)) l qk) (by kernel_rfl) (qy (by simp only [aEN];rfl) (al h))
def Qi:Rw S:=aj eo xn fun f Z=>aa k (ph k f) (xk Z)
def WQ:Fx S:=fp 9 [(160,Bg k),(190,Qh k)] [] k f236 0
theorem act (ho:ai o):Tl o 236 (Qi k:Rw S):=qx (WQ k) ⟨Em k ho,acs k ho,trivial⟩ func236 fun f Z x h=>qK h
def Qj:Rw S:=aj eo xn fun f Z=>aa k (yQ k f) (xk Z)
def aLF:Fx S:=fp 15 [(189,r5 k),(236,Qi k)] [] k f260 0
theorem acu (ho:ai o):Tl o 260 (Qj k:Rw S):=qx (aLF k) ⟨pM k ho,act k ho,trivial⟩ func260 fun f Z x h=>qK h
def GU:Rw S:=aj eo xn fun f Z=>aa k (yI k f) (xk Z)
def WR:Fx S:=fp 18 [(238,Qb k),(260,Qj k)] [] k f240 0
theorem Kz (ho:ai o):Tl o 240 (GU k:Rw S):=qx (WR k) ⟨acm k ho,acu k ho,trivial⟩ func240 fun f Z x h=>qK h
def Qk:Rw S:=aj aBv xn fun f i sV Z=>aa k (yJ k f i sV) (xk Z)
def WS:Fx S:=fp 92 [(128,jz k),(130,PG k),(204,L2 k),(210,GP k),(221,GQ k),(238,Qb k),(239,Qd k),(240,GU k),(241,GS k)] [(5,aS [1,2,8,27,28,29] [],ap 6 23),(1000018,aS [1,2,8,11,13,27,28,29] [],ap 16 63895)] k f213 0
def fR (i:Int) (sV f:List Cl) (h:Int) (j:List Cl):St UU:=⟨[(1,(iI i)),(2,(sC sV)),(8,(sC j)),(27,(sC f)),(28,(iI f.length)),(29,(iI h))],[],[],[]⟩
def aCt (i:Int) (sV f:List Cl) (h:Int) (q:List Cl) (g11:List Cl) (j:Int):St UU:=⟨[(1,(iI i)),(2,(sC sV)),(8,(sC q)),(11,(sC g11)),(13,(iI j)),(27,(sC f)),(28,(iI f.length)),(29,(iI h))],[],[],[]⟩
section
variable (k:Nat) (f:List Cl) (i:Int) (sV:List Cl) (Z:Out UU->Option S)
theorem aEP (h j Z0): ∀n g11 q,(WS k).jn Z 1000018 [Z0] n (aCt i sV f h j g11 q)=mx k (xk Z) (fun h j=>Z0 (fR i sV f h j)) i sV f h j n g11 q:=Lb (wU k (xk Z) i sV f h j (fun h j=>Z0 (fR i sV f h j)))
theorem aEO: ∀n h j,(WS k).lp Z 5 [] n (fR i sV f h j)=lY k (xk Z) i sV f n h j:=aL (fun own=>ln k (xk Z) i sV f (fun h j g11 q=>mx k (xk Z) own i sV f h j k g11 q) own) rfl (fun _=>rfl) fun r h j=>qy (b:=ln k (xk Z) i sV f (fun h j g11 q=>(WS k).jn Z 1000018 [r] k (aCt i sV f h j g11 q)) (fun h j=>r (fR i sV f h j)) h j) (by kernel_rfl) (by simp only [aEP])
end
theorem acv (ho:ai o):Tl o 213 (Qk k:Rw S):=qx (WS k) ⟨j_ k ho,q9 k ho,pL k ho,Ku k ho,Kv k ho,acm k ho,aco k ho,Kz k ho,Kx k ho,trivial⟩ func213 fun f i sV Z x h=>qy (b:=HH k (xk Z) (fun j q=>(WS k).lp Z 5 [] k (fR i sV f j q)) f i sV) (by kernel_rfl) (qy (by simp only [aEO];rfl) (al h))
def Ql:Rw S:=aj adS aJr fun f depth c0 c1 Z=>aa k (tF k f depth c0 c1) (ah5 c0 c1 Z)
def WT:Fx S:=fp 38 [(159,PP k),(173,vL k),(210,GP k),(211,P9 k),(213,Qk k)] [] k f209 3
theorem acw (ho:ai o):Tl o 209 (Ql k:Rw S):=qx (WT k) ⟨ni k ho,zN k ho,Ku k ho,acj k ho,acv k ho,trivial⟩ func209 fun f depth c0 c1 Z x h=>qK h
def Qm:Rw S:=aj Si xn fun i Z=>aa k (yP k i) (xk Z)
def WU:Fx S:=fp 12 [(231,P5 k),(232,P3 k)] [] k f233 0
theorem acx (ho:ai o):Tl o 233 (Qm k:Rw S):=qx (WU k) ⟨acf k ho,zq k ho,trivial⟩ func233 fun i Z x h=>qK h
def Qn:Rw S:=aj jk xn fun f g Z=>aa k (na k f g) (xk Z)
def C8:Fx S:=fp 14 [(172,Pp k)] [] k f237 0
theorem acy (ho:ai o):Tl o 237 (Qn k:Rw S):=qx (C8 k) ⟨Sk k ho,trivial⟩ func237 fun f g Z x h=>qK h
def Qo:Rw S:=aj aGD hU fun tT c c0 c1 Z=>aa k (yS k tT c c0 c1) (kr c0 c1 Z)
def WV:Fx S:=fp 63 [(204,L2 k),(210,GP k),(235,Qf k),(236,Qi k),(237,Qn k)] [] k f234 2
theorem acz (ho:ai o):Tl o 234 (Qo k:Rw S):=qx (WV k) ⟨pL k ho,Ku k ho,acq k ho,act k ho,acy k ho,trivial⟩ func234 fun tT c c0 c1 Z x h=>qK h
def Qp:Rw S:=aj E3 hU fun l qk c0 c1 Z=>aa k (DO k l qk c0 c1) (kr c0 c1 Z)
def WW:Fx S:=fp 33 [(234,Qo k)] [(2,aS [1,2,13,14,15] [(1000000,1),(1000001,1)],ap 4 5)] k f190 2
def aCu (c0:Int) (c1 l:List Cl) (v1:List Cl) (h:Int):St UU:=⟨[(1,(sC v1)),(2,(.func 234 [] [(pt 1000000),(pt 1000001)])),(13,(sC l)),(14,(iI l.length)),(15,(iI h))],[(1000000,bI c0),(1000001,.cells [(sC c1)])],[],[]⟩
section
variable (k:Nat) (l qk:List Cl) (c0:Int) (c1:List Cl) (Z:Out UU->Option S)
theorem aEQ: ∀n v1 h,(WW k).lp Z 2 [] n (aCu c0 c1 l v1 h)=qc k (kr c0 c1 Z) c0 c1 l n v1 h:=aL (wZ k (kr c0 c1 Z) c0 c1 l)
end
theorem acA (ho:ai o):Tl o 190 (Qp k:Rw S):=qx (WW k) ⟨acz k ho,trivial⟩ func190 fun l qk c0 c1 Z x h=>qy (b:=HO k (kr c0 c1 Z) (fun v1 j=>(WW k).lp Z 2 [] k (aCu c0 c1 l v1 j)) l qk c0 c1) (by kernel_rfl) (qy (by simp only [aEQ];rfl) (al h))
def Of:Rw S:=aj aBv xn fun f i sV Z=>aa k (yR k f i sV) (xk Z)
def UC:Fx S:=fp 32 [(189,r5 k),(190,Qp k),(191,GK k),(233,Qm k)] [] k f212 0
theorem aau (ho:ai o):Tl o 212 (Of k:Rw S):=qx (UC k) ⟨pM k ho,acA k ho,Kp k ho,acx k ho,trivial⟩ func212 fun f i sV Z x h=>qK h
def Ga:Rw S:=aj adS Je fun f depth c0 c1 Z=>aa k (yF k f depth c0 c1) (aHm c0 c1 Z)
def UD:Fx S:=fp 38 [(159,PP k),(173,vL k),(210,GP k),(211,P9 k),(212,Of k)] [] k f209 3
theorem JS (ho:ai o):Tl o 209 (Ga k:Rw S):=qx (UD k) ⟨ni k ho,zN k ho,Ku k ho,acj k ho,aau k ho,trivial⟩ func209 fun f depth c0 c1 Z x h=>qK h
def Gb:Rw S:=aj Lm alv fun t depth c0 c1 Z=>aa k (yG k t depth c0 c1) (ah7 c0 c1 Z)
def UE:Fx S:=fp 27 [(209,ol (uy adS Je) (Ga k) (Ql k))] [] k f214 4
theorem aFd (ho:ai o):Tl o 214 (Gb k:Rw S):=qx (UE k) ⟨vw (JS k ho) (acw k ho),trivial⟩ func214 fun t depth c0 c1 Z x h=>qK h
def rn:Rw S:=aj Ln Uw fun i c0 Z=>aa k (tG k i c0) (ah8 c0 Z)
def Ce:Fx S:=fp 14 [(39,Od k)] [] k f216 1
theorem aAS (ho:ai o):Tl o 216 (rn k:Rw S):=qx (Ce k) ⟨RO k ho,trivial⟩ func216 fun i c0 Z x h=>qK h
def Og:Rw S:=aj Ln fh fun p c0 Z=>aa k (tH k p c0) (AR c0 Z)
def Cf:Fx S:=fp 5 [] [] k f217 1
theorem aav (ho:ai o):Tl o 217 (Og k:Rw S):=qx (Cf k) trivial func217 fun p c0 Z x h=>qK h
def Oh (hd:c8 S):Rw S:=aj Lm alv fun t depth c0 c1 Z=>hd t depth c0 c1 (qs c0 c1 Z)
def Oi (hd:c8 S) (k:Nat):Rw S:=aj adV alw fun l depth c0 c1 c4 Z=>aa k (DK hd k l depth c0 c1 c4) (vB c0 c1 c4 Z)
def UF (hd:c8 S) (k:Nat):Fx S:=fp 42 [(187,Oh hd),(217,Og k)] [(3,⟨[(2,pr),(3,pr),(4,pr),(10,qW 100010),(15,pr),(16,pr),(17,pr)],[(4,[pr,pr]),(1000000,[pr]),(1000001,[pr]),(1000002,[pr]),(1000003,[pr]),(1000004,[pr])]⟩,ap 5 11)] k f215 5
def aBD (c0:Int) (c1:List Cl) (c4:Int) (l:List Tm) (depth:Int) (h:List Tm) (qG:Int):St UU:=⟨[(2,(iI depth)),(3,(.func 217 [] [(pt 1000004)])),(4,(pt 4)),(10,(.own 100010 0)),(15,(sT l)),(16,(iI l.length)),(17,(iI qG))],[(4,.cells [(.func 209 [] [(pt 1000000),(pt 1000001),(pt 1000002)]),(.func 209 [] [(pt 1000000),(pt 1000001),(pt 1000003)])]),(1000000,bI c0),(1000001,.cells [(sC c1)]),(1000002,.cells [(.func 212 [] [])]),(1000003,.cells [(.func 213 [] [])]),(1000004,bI c4)],[(100010,⟨0,ET.T,h⟩)],[(100010,.wr)]⟩
section
variable (hd:c8 S) (k:Nat) (l:List Tm) (depth c0:Int) (c1:List Cl) (c4:Int) (Z:Out UU->Option S)
theorem aDF: ∀n h qG,(UF hd k).lp Z 3 [] n (aBD c0 c1 c4 l depth h qG)=lW hd k (vB c0 c1 c4 Z) c0 c1 c4 l depth n h qG:=aL (wQ hd k (vB c0 c1 c4 Z) c0 c1 c4 l depth)
end
theorem aax (o:Obj) (ho:ai o) (hd:c8 S) (Hd:Tl o 187 (Oh hd)) (k:Nat):Tl o 215 (Oi hd k:Rw S):=qx (UF hd k) ⟨Hd,aav k ho,trivial⟩ func215 fun l depth c0 c1 c4 Z x h=>qy (b:=HB hd k (vB c0 c1 c4 Z) (fun j qG=>(UF hd k).lp Z 3 [] k (aBD c0 c1 c4 l depth j qG)) l depth c0 c1 c4) (by kernel_rfl) (qy (by simp only [aDF];rfl) (al h))
def Oj (hd:c8 S) (k:Nat):Rw S:=aj adW aJs fun l depth c0 c1 c4 Z=>aa k (DL hd k l depth c0 c1 c4) (re c0 c1 c4 Z)
def UG (hd:c8 S) (k:Nat):Fx S:=fp 42 [(187,Oh hd),(216,rn k)] [(3,⟨[(2,pr),(3,pr),(4,pr),(10,qW 100010),(15,pr),(16,pr),(17,pr)],[(4,[pr,pr]),(1000000,[pr]),(1000001,[pr]),(1000002,[pr]),(1000003,[pr]),(1000004,[pr,pr,pr,pr,pr,pr])]⟩,ap 5 11)] k f215 5
def aBE (c0:Int) (c1:List Cl) (c4:Tm) (l:List Tm) (depth:Int) (h:List Tm) (qG:Int):St UU:=⟨[(2,(iI depth)),(3,(.func 216 [] [(pt 1000004)])),(4,(pt 4)),(10,(.own 100010 0)),(15,(sT l)),(16,(iI l.length)),(17,(iI qG))],[(4,.cells [(.func 209 [] [(pt 1000000),(pt 1000001),(pt 1000002)]),(.func 209 [] [(pt 1000000),(pt 1000001),(pt 1000003)])]),(1000000,bI c0),(1000001,.cells [(sC c1)]),(1000002,.cells [(.func 212 [] [])]),(1000003,.cells [(.func 213 [] [])]),(1000004,bT c4)],[(100010,⟨0,ET.T,h⟩)],[(100010,.wr)]⟩
section
variable (hd:c8 S) (k:Nat) (l:List Tm) (depth c0:Int) (c1:List Cl) (c4:Tm) (Z:Out UU->Option S)
theorem aDG: ∀n h qG,(UG hd k).lp Z 3 [] n (aBE c0 c1 c4 l depth h qG)=lX hd k (re c0 c1 c4 Z) c0 c1 c4 l depth n h qG:=aL (wR hd k (re c0 c1 c4 Z) c0 c1 c4 l depth)
end
theorem aay (o:Obj) (ho:ai o) (hd:c8 S) (Hd:Tl o 187 (Oh hd)) (k:Nat):Tl o 215 (Oj hd k:Rw S):=qx (UG hd k) ⟨Hd,aAS k ho,trivial⟩ func215 fun l depth c0 c1 c4 Z x h=>qy (b:=HC hd k (re c0 c1 c4 Z) (fun j qG=>(UG hd k).lp Z 3 [] k (aBE c0 c1 c4 l depth j qG)) l depth c0 c1 c4) (by kernel_rfl) (qy (by simp only [aDG];rfl) (al h))
def Cg (hd:c8 S) (k:Nat):Fx S:=fp 98 [(209,Ql k),(214,Gb k),(215,ol (uy adV alw) (Oi hd k) (Oj hd k))] [(13,⟨[(2,pr),(3,pr),(6,pr),(8,pr),(10,pr),(53,pr),(54,pr),(55,pr)],[(3,[pr,pr]),(6,[pr,pr,pr,qW 200387,qW 200388,qW 200389]),(8,[pr,pr,pr,pr,pr,qW 200517]),(10,[pr]),(1000000,[pr]),(1000001,[pr]),(1000002,[pr]),(1000003,[pr])]⟩,ap 11 767)] k f187 4
def LU (c0:Int) (c1:List Cl) (t:Tm) (r1:List Cl×Int) (r2:List Tm×Int) (depth:Int) (j:Int) (h:List (Br Tm)) (v55:Int):St UU:=⟨[(2,(iI depth)),(3,(pt 3)),(6,(pt 6)),(8,(pt 8)),(10,(pt 10)),(53,(sB t.s)),(54,(iI t.s.length)),(55,(iI v55))],[(3,.cells [(.func 209 [] [(pt 1000000),(pt 1000001),(pt 1000002)]),(.func 209 [] [(pt 1000000),(pt 1000001),(pt 1000003)])]),(6,.cells [(iI 0),(iI 0),Di,(.own 200387 0),(.own 200388 0),(.own 200389 0)]),(8,.cells [(iI t.k),(iI t.n),(.str t.name),(sC r1.1),(sT r2.1),(.own 200517 0)]),(10,bI j),(1000000,bI c0),(1000001,.cells [(sC c1)]),(1000002,.cells [(.func 212 [] [])]),(1000003,.cells [(.func 213 [] [])])],[(200517,⟨0,ET.B,h⟩),(200389,Al),(200388,Db),(200387,Bx)],[(200517,.wr),(200389,.wr),(200388,.wr),(200387,.wr)]⟩
section
variable (hd:c8 S) (k:Nat) (t:Tm) (depth c0:Int) (c1:List Cl) (Z:Out UU->Option S)
theorem W7 (r1 r2): ∀n j h v55,(Cg hd k).lp Z 13 [] n (LU c0 c1 t r1 r2 depth j h v55)=fV hd k (qs c0 c1 Z) c0 c1 t r1 r2 depth n j h v55:=p7 (wS hd k (qs c0 c1 Z) c0 c1 t r1 r2 depth)
end
theorem azh (o:Obj) (ho:ai o): ∀k:Nat,Tl o 187 (Oh (d7 k:c8 S))
 |0=>dz fun t depth c0 c1 Z x h=>by cases h
 |k+1=>qx (Cg (d7 k) k) ⟨acw k ho,aFd k ho,vw (aax o ho (d7 k) (azh o ho k) k) (aay o ho (d7 k) (azh o ho k) k),trivial⟩ func187 fun t depth c0 c1 Z x h=>qy (b:=HF (d7 k) k (qs c0 c1 Z) (fun r1 z q j v55=>(Cg (d7 k) k).lp Z 13 [] k (LU c0 c1 t r1 z depth q j v55)) t depth c0 c1) (by kernel_rfl) (qy (by simp only [W7];rfl) h)
def Gc:Rw S:=aj Si xn fun i Z=>aa k (DE k i) (aia Z)
def Ch:Fx S:=fp 8 [] [] k f188 0
theorem JU (ho:ai o):Tl o 188 (Gc k:Rw S):=qx (Ch k) trivial func188 fun i Z x h=>qK h
def Ok:Rw S:=aj lS xn fun s i Z=>aa k (pk k s i) (b_ Z)
def UH:Fx S:=fp 24 [(229,PE k),(242,my k)] [] k f219 0
theorem aaz (ho:ai o):Tl o 219 (Ok k:Rw S):=qx (UH k) ⟨l2 k ho,nq k ho,trivial⟩ func219 fun s i Z x h=>qK h
def rp:Rw S:=aj Lp fh fun f depth c0 Z=>aa k (pc k f depth c0) (o0 c0 Z)
def Ci:Fx S:=fp 37 [(172,Pp k),(219,Ok k)] [(3,⟨[(1,pr),(2,pr),(7,qW 100007),(10,pr),(11,pr),(12,pr)],[(1000000,[pr])]⟩,ap 5 11)] k f218 1
def LW (c0 depth:Int) (f:List Cl) (uK:Int) (h:List Cl):St UU:=⟨[(1,(iI depth)),(2,(pt 1000000)),(7,(.own 100007 0)),(10,(sC f)),(11,(iI f.length)),(12,(iI uK))],[(1000000,bI c0)],[(100007,⟨0,ET.C,h⟩)],[(100007,.wr)]⟩
section
variable (k:Nat) (f:List Cl) (depth c0:Int) (Z:Out UU->Option S)
theorem W9: ∀n uK h,(Ci k).lp Z 3 [] n (LW c0 depth f uK h)=vy k (o0 c0 Z) c0 depth f n uK h:=aL (wN k (o0 c0 Z) c0 depth f)
end
theorem aAT (ho:ai o):Tl o 218 (rp k:Rw S):=qx (Ci k) ⟨Sk k ho,aaz k ho,trivial⟩ func218 fun f depth c0 Z x h=>qy (b:=Hx k (o0 c0 Z) (fun uK j=>(Ci k).lp Z 3 [] k (LW c0 depth f uK j)) f depth c0) (by kernel_rfl) (qy (by simp only [W9];rfl) (al h))
def Om:Rw S:=aj adX fh fun t depth c0 Z=>aa k (yH k t depth c0) (o0 c0 Z)
def Cj:Fx S:=fp 27 [(218,rp k)] [] k f214 1
theorem aaB (ho:ai o):Tl o 214 (Om k:Rw S):=qx (Cj k) ⟨aAT k ho,trivial⟩ func214 fun t depth c0 Z x h=>qK h
def On (hd:c_ S):Rw S:=aj adX fh fun t depth c0 Z=>hd t depth c0 (c9 c0 Z)
def A2 (hd:c_ S) (k:Nat):Rw S:=aj aBw b5 fun l depth c0 c1 Z=>aa k (DI hd k l depth c0 c1) (AT c0 c1 Z)
def UJ (hd:c_ S) (k:Nat):Fx S:=fp 42 [(187,On hd),(217,Og k)] [(3,⟨[(2,pr),(3,pr),(4,pr),(10,qW 100010),(15,pr),(16,pr),(17,pr)],[(4,[pr,pr]),(1000000,[pr]),(1000001,[pr])]⟩,ap 5 11)] k f215 2
def aBF (c0 c1:Int) (l:List Tm) (depth:Int) (h:List Tm) (qG:Int):St UU:=⟨[(2,(iI depth)),(3,(.func 217 [] [(pt 1000001)])),(4,(pt 4)),(10,(.own 100010 0)),(15,(sT l)),(16,(iI l.length)),(17,(iI qG))],[(4,.cells [(.func 218 [] [(pt 1000000)]),(.func 218 [] [(pt 1000000)])]),(1000000,bI c0),(1000001,bI c1)],[(100010,⟨0,ET.T,h⟩)],[(100010,.wr)]⟩
section
variable (hd:c_ S) (k:Nat) (l:List Tm) (depth c0 c1:Int) (Z:Out UU->Option S)
theorem aDH: ∀n h qG,(UJ hd k).lp Z 3 [] n (aBF c0 c1 l depth h qG)=lU hd k (AT c0 c1 Z) c0 c1 l depth n h qG:=aL (wO hd k (AT c0 c1 Z) c0 c1 l depth)
end
theorem D9 (o:Obj) (ho:ai o) (hd:c_ S) (Hd:Tl o 187 (On hd)) (k:Nat):Tl o 215 (A2 hd k:Rw S):=qx (UJ hd k) ⟨Hd,aav k ho,trivial⟩ func215 fun l depth c0 c1 Z x h=>qy (b:=Hz hd k (AT c0 c1 Z) (fun j qG=>(UJ hd k).lp Z 3 [] k (aBF c0 c1 l depth j qG)) l depth c0 c1) (by kernel_rfl) (qy (by simp only [aDH];rfl) (al h))
def Ge (hd:c_ S) (k:Nat):Rw S:=aj Lq aJt fun l depth c0 c1 Z=>aa k (DJ hd k l depth c0 c1) (AU c0 c1 Z)
def UK (hd:c_ S) (k:Nat):Fx S:=fp 42 [(187,On hd),(216,rn k)] [(3,⟨[(2,pr),(3,pr),(4,pr),(10,qW 100010),(15,pr),(16,pr),(17,pr)],[(4,[pr,pr]),(1000000,[pr]),(1000001,[pr,pr,pr,pr,pr,pr])]⟩,ap 5 11)] k f215 2
def aBG (c0:Int) (c1:Tm) (l:List Tm) (depth:Int) (h:List Tm) (qG:Int):St UU:=⟨[(2,(iI depth)),(3,(.func 216 [] [(pt 1000001)])),(4,(pt 4)),(10,(.own 100010 0)),(15,(sT l)),(16,(iI l.length)),(17,(iI qG))],[(4,.cells [(.func 218 [] [(pt 1000000)]),(.func 218 [] [(pt 1000000)])]),(1000000,bI c0),(1000001,bT c1)],[(100010,⟨0,ET.T,h⟩)],[(100010,.wr)]⟩
section
variable (hd:c_ S) (k:Nat) (l:List Tm) (depth c0:Int) (c1:Tm) (Z:Out UU->Option S)
theorem aDI: ∀n h qG,(UK hd k).lp Z 3 [] n (aBG c0 c1 l depth h qG)=lV hd k (AU c0 c1 Z) c0 c1 l depth n h qG:=aL (wP hd k (AU c0 c1 Z) c0 c1 l depth)
end
theorem JV (o:Obj) (ho:ai o) (hd:c_ S) (Hd:Tl o 187 (On hd)) (k:Nat):Tl o 215 (Ge hd k:Rw S):=qx (UK hd k) ⟨Hd,aAS k ho,trivial⟩ func215 fun l depth c0 c1 Z x h=>qy (b:=HA hd k (AU c0 c1 Z) (fun j qG=>(UK hd k).lp Z 3 [] k (aBG c0 c1 l depth j qG)) l depth c0 c1) (by kernel_rfl) (qy (by simp only [aDI];rfl) (al h))
def Ck (hd:c_ S) (k:Nat):Fx S:=fp 98 [(214,Om k),(215,ol (uy aBw b5) (A2 hd k) (Ge hd k)),(218,rp k)] [(13,⟨[(2,pr),(3,pr),(6,pr),(8,pr),(10,pr),(53,pr),(54,pr),(55,pr)],[(3,[pr,pr]),(6,[pr,pr,pr,qW 200387,qW 200388,qW 200389]),(8,[pr,pr,pr,pr,pr,qW 200517]),(10,[pr]),(1000000,[pr])]⟩,ap 11 767)] k f187 1
def LY (c0:Int) (t:Tm) (r1:List Cl×Int) (r2:List Tm×Int) (depth:Int) (j:Int) (h:List (Br Tm)) (v55:Int):St UU:=⟨[(2,(iI depth)),(3,(pt 3)),(6,(pt 6)),(8,(pt 8)),(10,(pt 10)),(53,(sB t.s)),(54,(iI t.s.length)),(55,(iI v55))],[(3,.cells [(.func 218 [] [(pt 1000000)]),(.func 218 [] [(pt 1000000)])]),(6,.cells [(iI 0),(iI 0),Di,(.own 200387 0),(.own 200388 0),(.own 200389 0)]),(8,.cells [(iI t.k),(iI t.n),(.str t.name),(sC r1.1),(sT r2.1),(.own 200517 0)]),(10,bI j),(1000000,bI c0)],[(200517,⟨0,ET.B,h⟩),(200389,Al),(200388,Db),(200387,Bx)],[(200517,.wr),(200389,.wr),(200388,.wr),(200387,.wr)]⟩
section
variable (hd:c_ S) (k:Nat) (t:Tm) (depth c0:Int) (Z:Out UU->Option S)
theorem Xa (r1 r2): ∀n j h v55,(Ck hd k).lp Z 13 [] n (LY c0 t r1 r2 depth j h v55)=MZ hd k (c9 c0 Z) c0 t r1 r2 depth n j h v55:=p7 (wT hd k (c9 c0 Z) c0 t r1 r2 depth)
end
theorem r2 (o:Obj) (ho:ai o): ∀k:Nat,Tl o 187 (On (dT k:c_ S))
 |0=>dz fun t depth c0 Z x h=>by cases h
 |k+1=>qx (Ck (dT k) k) ⟨aaB k ho,vw (D9 o ho (dT k) (r2 o ho k) k) (JV o ho (dT k) (r2 o ho k) k),aAT k ho,trivial⟩ func187 fun t depth c0 Z x h=>qy (b:=HG (dT k) k (c9 c0 Z) (fun r1 z q j v55=>(Ck (dT k) k).lp Z 13 [] k (LY c0 t r1 z depth q j v55)) t depth c0) (by kernel_rfl) (qy (by simp only [Xa];rfl) h)
def Oo:Rw S:=aj aBu xn fun t i sV Z=>aa k (m_ k t i sV) (Iu Z)
def Cm:Fx S:=fp 48 [(159,PP k),(185,P7 k),(186,P8 k),(187,ol (uy Lm alv) (Oh (d7 k)) (On (dT k))),(188,Gc k)] [] k f156 0
theorem iL (ho:ai o):Tl o 156 (Oo k:Rw S):=qx (Cm k) ⟨ni k ho,ach k ho,aci k ho,vw (azh o ho k) (r2 o ho k),JU k ho,trivial⟩ func156 fun t i sV Z x h=>qK h
def jx:Rw S:=aj Lr fh fun t sV c0 Z=>aa k (JL k t sV c0) (AQ Z)
def UL:Fx S:=fp 18 [(83,P0 k),(84,LQ k),(156,Oo k)] [] k f94 1
theorem j8 (ho:ai o):Tl o 94 (jx k:Rw S):=qx (UL k) ⟨MG k ho,Mw k ho,iL k ho,trivial⟩ func94 fun t sV c0 Z x h=>qK h
def Oq:Rw S:=aj Ls fh fun t c0 Z=>aa k (JI k t c0) (AQ Z)
def UM:Fx S:=fp 9 [(94,jx k),(160,Bg k)] [] k f101 1
theorem sg (ho:ai o):Tl o 101 (Oq k:Rw S):=qx (UM k) ⟨j8 k ho,Em k ho,trivial⟩ func101 fun t c0 Z x h=>qK h
def Ot:Rw S:=aj pW xn fun kind kids Z=>aa k (zc k kind kids) (aE Z)
def UN:Fx S:=fx 8 (fun _=>[]) (fun _=>false) [] [] k f58 true [] 0
theorem HD (ho:ai o):Tl o 58 (Ot k:Rw S):=qx (UN k) trivial func58 fun kind kids Z x h=>qK h
def Ou:Rw S:=aj Ls fh fun t c0 Z=>aa k (aJ k t c0) (AV Z)
def Cn:Fx S:=fp 50 [(58,Ot k),(101,Oq k),(135,P2 k)] [] k f82 1
theorem aaG (ho:ai o):Tl o 82 (Ou k:Rw S):=qx (Cn k) ⟨HD k ho,sg k ho,acb k ho,trivial⟩ func82 fun t c0 Z x h=>qK h
def Ow:Rw S:=aj eo xn fun sV Z=>aa k (aW k sV) (da Z)
def UP:Fx S:=fp 18 [] [] k f81 0
theorem e2 (ho:ai o):Tl o 81 (Ow k:Rw S):=qx (UP k) trivial func81 fun sV Z x h=>qK h
def Ox:Rw S:=aj Ls fh fun t c0 Z=>aa k (cA k t c0) (AV Z)
def UQ:Fx S:=fp 38 [(81,Ow k),(94,jx k)] [] k f77 1
theorem aaJ (ho:ai o):Tl o 77 (Ox k:Rw S):=qx (UQ k) ⟨e2 k ho,j8 k ho,trivial⟩ func77 fun t c0 Z x h=>qK h
def vD:Rw S:=aj FE xn fun t Z=>aa k (bA k t) (WY Z)
def UR:Fx S:=fp 22 [(58,Ot k),(81,Ow k)] [] k f78 0
theorem aFe (ho:ai o):Tl o 78 (vD k:Rw S):=qx (UR k) ⟨HD k ho,e2 k ho,trivial⟩ func78 fun t Z x h=>qK h
def Oy:Rw S:=aj adY xn fun kind sV kids Z=>aa k (tO k kind sV kids) (vC Z)
def US:Fx S:=fx 11 (fun _=>[]) (fun _=>false) [] [] k f97 true [] 0
theorem SM (ho:ai o):Tl o 97 (Oy k:Rw S):=qx (US k) trivial func97 fun kind sV kids Z x h=>qK h
def Oz:Rw S:=aj FE xn fun t Z=>aa k (d' k t) (WY Z)
def mI:Fx S:=fp 36 [(97,Oy k)] [] k f79 0
theorem aaL (ho:ai o):Tl o 79 (Oz k:Rw S):=qx (mI k) ⟨SM k ho,trivial⟩ func79 fun t Z x h=>qK h
def Gf:Rw S:=aj FE xn fun t Z=>aa k (D3 k t) (WY Z)
def jN:Fx S:=fp 48 [(58,Ot k),(97,Oy k)] [] k f80 0
theorem aFf (ho:ai o):Tl o 80 (Gf k:Rw S):=qx (jN k) ⟨HD k ho,SM k ho,trivial⟩ func80 fun t Z x h=>qK h
def OA:Rw S:=aj Ls fh fun t c0 Z=>aa k (cD k t c0) (AV Z)
def UT:Fx S:=fp 120 [(55,P1 k),(77,Ox k),(78,vD k),(79,Oz k),(80,Gf k),(81,Ow k),(82,Ou k)] [] k f51 1
theorem aaM (ho:ai o):Tl o 51 (OA k:Rw S):=qx (UT k) ⟨sW k ho,aaJ k ho,aFe k ho,aaL k ho,aFf k ho,e2 k ho,aaG k ho,trivial⟩ func51 fun t c0 Z x h=>qK h
def Gg:Rw S:=aj Ls fh fun t c0 Z=>aa k (ly k t c0) (AW Z)
def mJ:Fx S:=fp 20 [(23,PK k),(30,PL (dJ k)),(83,P0 k),(84,LQ k)] [] k f52 1
theorem TX (ho:ai o):Tl o 52 (Gg k:Rw S):=qx (mJ k) ⟨Jx k ho,Mv o ho k,MG k ho,Mw k ho,trivial⟩ func52 fun t c0 Z x h=>qK h
def vE:Rw S:=aj FE xn fun t Z=>aa k (u3 k t) (AX Z)
def UV:Fx S:=fp 33 [(23,PK k),(30,PL (dJ k)),(51,OA k),(52,Gg k)] [] k f33 0
theorem aFg (ho:ai o):Tl o 33 (vE k:Rw S):=qx (UV k) ⟨Jx k ho,Mv o ho k,aaM k ho,TX k ho,trivial⟩ func33 fun t Z x h=>qK h
def OB:Rw S:=aj sr xn fun t vars px Z=>aa k (xr k t vars px) (da Z)
def UW:Fx S:=fp 28 [(40,Qg k),(41,GI (ic k))] [] k f19 0
theorem aaN (ho:ai o):Tl o 19 (OB k:Rw S):=qx (UW k) ⟨eX9 k ho,azl o ho k,trivial⟩ func19 fun t vars px Z x h=>qK h
def OD:Rw S:=aj adZ xn fun defs t Z=>aa k (cR k defs t) (WY Z)
def mK:Fx S:=fp 32 [(19,OB k),(30,PL (dJ k))] [(4,⟨[(3,pr),(4,pr),(12,pr),(13,pr),(14,pr)],[(3,[pr,pr,pr,pr,pr,pr]),(4,[pr,pr,pr,qW 200259,qW 200260,qW 200261])]⟩,ap 5 11)] k f37 0
def Fv (t:Tm) (defs:List Df) (h:Int):St UU:=⟨[(3,(pt 3)),(4,(pt 4)),(12,(Mg defs .none)),(13,(iI defs.length)),(14,(iI h))],[(3,bT t),(4,.cells [(iI 0),(iI 0),Di,(.own 200259 0),(.own 200260 0),(.own 200261 0)])],[(200261,Al),(200260,Db),(200259,Bx)],[(200261,.wr),(200260,.wr),(200259,.wr)]⟩
section
variable (k:Nat) (defs:List Df) (t:Tm) (Z:Out UU->Option S)
theorem Xn: ∀n h,(mK k).lp Z 4 [] n (Fv t defs h)=bM k (WY Z) t defs n h:=cF (cr k (WY Z) t defs)
end
theorem aaP (ho:ai o):Tl o 37 (OD k:Rw S):=qx (mK k) ⟨aaN k ho,Mv o ho k,trivial⟩ func37 fun defs t Z x h=>qy (b:=aAq k (WY Z) (fun j=>(mK k).lp Z 4 [] k (Fv t defs j)) defs t) (by kernel_rfl) (qy (by simp only [Xn];rfl) (al h))
def OE:Rw S:=aj pW xn fun kind kids Z=>aa k (xH k kind kids) (aE Z)
def UY:Fx S:=fx 8 (fun _=>[]) (fun _=>false) [] [] k f138 true [] 0
theorem SL (ho:ai o):Tl o 138 (OE k:Rw S):=qx (UY k) trivial func138 fun kind kids Z x h=>qK h
def OF:Rw S:=aj Lk xn fun sys Z=>aa k (mv k sys) (AY Z)
def UZ:Fx S:=fx 8 (fun _=>[]) (fun _=>false) [(138,OE k)] [] k f137 true [] 0
theorem aaR (ho:ai o):Tl o 137 (OF k:Rw S):=qx (UZ k) ⟨SL k ho,trivial⟩ func137 fun sys Z x h=>qK h
def OG:Rw S:=aj Lt fh fun HE c0 Z=>aa k (iZ k HE c0) (cO Z)
def U0:Fx S:=fp 13 [] [] k f178 1
theorem Tj (ho:ai o):Tl o 178 (OG k:Rw S):=qx (U0 k) trivial func178 fun HE c0 Z x h=>qK h
def OH:Rw S:=aj EW xn fun l Z=>aa k (m9 k l) (AZ Z)
def U1:Fx S:=fp 22 [(23,PK k),(178,OG k)] [(3,aS [3,8,9,10] [(7,1)],ap 5 11)] k f136 0
def aBI (l:List Tm) (h qT:Int):St UU:=⟨[(3,(pt 7)),(8,(sT l)),(9,(iI l.length)),(10,(iI qT))],[(7,bI h)],[],[]⟩
section
variable (k:Nat) (l:List Tm) (Z:Out UU->Option S)
theorem aDL: ∀n h qT,(U1 k).lp Z 3 [] n (aBI l h qT)=pY k (AZ Z) l n h qT:=aL (wL k (AZ Z) l)
end
theorem W0 (ho:ai o):Tl o 136 (OH k:Rw S):=qx (U1 k) ⟨Jx k ho,Tj k ho,trivial⟩ func136 fun l Z x h=>qy (b:=Hs k (AZ Z) (fun j qT=>(U1 k).lp Z 3 [] k (aBI l j qT)) l) (by kernel_rfl) (qy (by simp only [aDL];rfl) (al h))
def OI:Rw S:=aj EX fh fun c0 Z=>aa k (de k c0) (KT c0 Z)
def Co:Fx S:=fp 8 [] [] k f140 1
theorem Ti (ho:ai o):Tl o 140 (OI k:Rw S):=qx (Co k) trivial func140 fun c0 Z x h=>qK h
def Gi:Rw S:=aj ad0 fh fun t vars px c0 Z=>aa k (Dh k t vars px c0) (AQ Z)
def U2:Fx S:=fp 30 [(89,vO k),(140,OI k),(178,OG k)] [] k f139 1
theorem JW (ho:ai o):Tl o 139 (Gi k:Rw S):=qx (U2 k) ⟨azd k ho,Ti k ho,Tj k ho,trivial⟩ func139 fun t vars px c0 Z x h=>qK h
def OJ:Rw S:=aj Ls fh fun t c0 Z=>aa k (eQ k t c0) (aie Z)
def U3:Fx S:=fp 28 [(23,PK k),(140,OI k),(178,OG k)] [] k f143 1
theorem Lo (ho:ai o):Tl o 143 (OJ k:Rw S):=qx (U3 k) ⟨Jx k ho,Ti k ho,Tj k ho,trivial⟩ func143 fun t c0 Z x h=>qK h
def OK:Rw S:=aj Lu fh fun f c0 Z=>aa k (tA k f c0) (CP Z)
def Cp:Fx S:=fp 23 [(140,OI k),(159,PP k),(178,OG k)] [] k f141 1
theorem aaW (ho:ai o):Tl o 141 (OK k:Rw S):=qx (Cp k) ⟨Ti k ho,ni k ho,Tj k ho,trivial⟩ func141 fun f c0 Z x h=>qK h
def OL:Rw S:=aj adI s7 fun c0 c1 c2 Z=>aa k (yX k c0 c1 c2) (aCG c0 c1 c2 Z)
def U4:Fx S:=fp 10 [(146,PR (dk k))] [] k f147 3
theorem aaX (ho:ai o):Tl o 147 (OL k:Rw S):=qx (U4 k) ⟨su o ho k,trivial⟩ func147 fun c0 c1 c2 Z x h=>qK h
def Gj:Rw S:=aj ad2 s7 fun t numbers c0 c1 c2 Z=>aa k (yZ k t numbers c0 c1 c2) (Th c0 c1 c2 Z)
def U5:Fx S:=⟨⟨30,(fun _=>[]),(fun _=>false),pr,fun|6=>true|7=>true|_=>false⟩,[(23,PK k),(147,OL k)],[(5,⟨[(2,pr),(6,pr),(7,pr),(17,pr),(18,pr),(19,pr)],[(1000000,[pr]),(1000001,[pr,pr,pr,pr,pr,pr]),(1000002,[pr]),(5000006,[pr,pr,pr,qW 320200387,qW 320200388,qW 320200389]),(5000007,[pr])]⟩,ap 5 11)],k,f144,false,[],3,some (Tw 16 179 f179 k)⟩
def aBJ (c0:Int) (c1:Tm) (c2:Int) (numbers:List Int) (h:Int):St UU:=⟨[(2,(.func 147 [] [(pt 1000000),(pt 1000001),(pt 1000002)])),(6,(pt 5000006)),(7,(pt 5000007)),(17,(la numbers .none)),(18,(iI numbers.length)),(19,(iI h))],[(1000000,bI c0),(1000001,bT c1),(1000002,bI c2),(5000006,.cells [(iI 0),(iI 0),Di,(.own 320200387 0),(.own 320200388 0),(.own 320200389 0)]),(5000007,bI 0)],[(320200389,Al),(320200388,Db),(320200387,Bx)],[(320200389,.wr),(320200388,.wr),(320200387,.wr)]⟩
section
variable (k:Nat) (t:Tm) (numbers:List Int) (c0:Int) (c1:Tm) (c2:Int) (Z:Out UU->Option S)
theorem aDM: ∀n h,(U5 k).lp Z 5 [] n (aBJ c0 c1 c2 numbers h)=nC k (Th c0 c1 c2 Z) c0 c1 c2 numbers n h:=cF (xa k (Th c0 c1 c2 Z) c0 c1 c2 numbers)
end
theorem JX (ho:ai o):Tl o 144 (Gj k:Rw S):=BZ (U5 k) rfl (yn o func179 (by kernel_rfl)) ⟨Jx k ho,aaX k ho,trivial⟩ func144 (by kernel_rfl) fun t numbers c0 c1 c2 Z x h=>qy (b:=BQ k (Th c0 c1 c2 Z) (fun j=>(U5 k).lp Z 5 [] k (aBJ c0 c1 c2 numbers j)) t numbers c0 c1 c2) (by kernel_rfl) (qy (by simp only [aDM];rfl) (al h))
def Gk:Rw S:=aj sr xn fun t qk rj Z=>aa k (lv k t qk rj) (Iu Z)
def rV:Fx S:=fp 16 [(144,Gj k)] [] k f87 0
theorem JY (ho:ai o):Tl o 87 (Gk k:Rw S):=qx (rV k) ⟨JX k ho,trivial⟩ func87 fun t qk rj Z x h=>qK h
def ON:Rw S:=aj Lr fh fun line sV c0 Z=>aa k (lr k line sV c0) (AQ Z)
def U6:Fx S:=fp 44 [(87,Gk k),(140,OI k),(156,Oo k),(178,OG k)] [] k f142 1
theorem aaZ (ho:ai o):Tl o 142 (ON k:Rw S):=qx (U6 k) ⟨JY k ho,Ti k ho,iL k ho,Tj k ho,trivial⟩ func142 fun line sV c0 Z x h=>qK h
def OO:Rw S:=aj aBy xn fun t a sys Z=>aa k (yy k t a sys) (Iu Z)
def U7:Fx S:=fp 76 [(136,OH k),(137,OF k),(138,OE k),(139,Gi k),(140,OI k),(141,OK k),(142,ON k),(143,OJ k)] [(4,⟨[(4,pr),(6,pr),(8,pr),(9,pr),(27,pr),(28,pr),(29,pr)],[(4,[pr,pr,pr,pr,pr,pr]),(6,[pr,pr,pr,qW 200387,qW 200388,qW 200389]),(9,[pr,pr,pr,qW 200579,pr,qW 200581]),(19000,[pr])]⟩,ap 6 23)] k f85 0
def aBK (a:Tm) (j:Int×Int×ByteArray×List Tm) (sys:List (Br Tm)) (q:Int) (h:List (Br Tm)) (x:Int):St UU:=⟨[(4,(pt 4)),(6,(pt 6)),(8,(pt 19000)),(9,(pt 9)),(27,(sB sys)),(28,(iI sys.length)),(29,(iI x))],[(4,bT a),(6,.cells [(iI 0),(iI 0),Di,(.own 200387 0),(.own 200388 0),(.own 200389 0)]),(9,.cells [(iI j.1),(iI j.2.1),(.str j.2.2.1),(.own 200579 0),(sT j.2.2.2),(.own 200581 0)]),(19000,bI q)],[(200581,⟨0,ET.B,h⟩),(200579,Bx),(200389,Al),(200388,Db),(200387,Bx)],[(200581,.wr),(200579,.wr),(200389,.wr),(200388,.wr),(200387,.wr)]⟩
section
variable (k:Nat) (t a:Tm) (sys:List (Br Tm)) (Z:Out UU->Option S)
theorem aDN (x): ∀n j h q,(U7 k).lp Z 4 [] n (aBK a x sys j h q)=gM k (Iu Z) a x sys n j h q:=p7 (oQ k (Iu Z) a x sys)
end
theorem aa0 (ho:ai o):Tl o 85 (OO k:Rw S):=qx (U7 k) ⟨W0 k ho,aaR k ho,SL k ho,JW k ho,Ti k ho,aaW k ho,aaZ k ho,Lo k ho,trivial⟩ func85 fun t a sys Z x h=>qy (b:=Hr k (Iu Z) (fun A q j z=>(U7 k).lp Z 4 [] k (aBK a A sys q j z)) t a sys) (by kernel_rfl) (qy (by simp only [aDN];rfl) (al h))
def OP:Rw S:=aj ad4 fh fun t a sys c0 Z=>aa k (y_ k t a sys c0) (AQ Z)
def U8:Fx S:=fp 21 [(83,P0 k),(84,LQ k),(85,OO k)] [] k f53 1
theorem aa1 (ho:ai o):Tl o 53 (OP k:Rw S):=qx (U8 k) ⟨MG k ho,Mw k ho,aa0 k ho,trivial⟩ func53 fun t a sys c0 Z x h=>qK h
def OQ:Rw S:=aj adI s7 fun c0 c1 c2 Z=>aa k (yY k c0 c1 c2) (aCG c0 c1 c2 Z)
def U9:Fx S:=fp 10 [(146,PR (dk k))] [] k f145 3
theorem aa2 (ho:ai o):Tl o 145 (OQ k:Rw S):=qx (U9 k) ⟨su o ho k,trivial⟩ func145 fun c0 c1 c2 Z x h=>qK h
def OR:Rw S:=aj ad5 s7 fun t numbers c0 c1 c2 Z=>aa k (K7 k t numbers c0 c1 c2) (Th c0 c1 c2 Z)
def U_:Fx S:=⟨⟨30,(fun _=>[]),(fun _=>false),pr,fun|6=>true|7=>true|_=>false⟩,[(23,PK k),(145,OQ k)],[(5,⟨[(2,pr),(6,pr),(7,pr),(17,pr),(18,pr),(19,pr)],[(1000000,[pr]),(1000001,[pr,pr,pr,pr,pr,pr]),(1000002,[pr]),(5000006,[pr,pr,pr,qW 320200387,qW 320200388,qW 320200389]),(5000007,[pr])]⟩,ap 5 11)],k,f144,false,[],3,some (Tw 16 179 f179 k)⟩
def aBL (c0:Int) (c1:Tm) (c2:Int) (numbers:List Int) (h:Int):St UU:=⟨[(2,(.func 145 [] [(pt 1000000),(pt 1000001),(pt 1000002)])),(6,(pt 5000006)),(7,(pt 5000007)),(17,(la numbers .none)),(18,(iI numbers.length)),(19,(iI h))],[(1000000,bI c0),(1000001,bT c1),(1000002,bI c2),(5000006,.cells [(iI 0),(iI 0),Di,(.own 320200387 0),(.own 320200388 0),(.own 320200389 0)]),(5000007,bI 0)],[(320200389,Al),(320200388,Db),(320200387,Bx)],[(320200389,.wr),(320200388,.wr),(320200387,.wr)]⟩
section
variable (k:Nat) (t:Tm) (numbers:List Int) (c0:Int) (c1:Tm) (c2:Int) (Z:Out UU->Option S)
theorem aDO: ∀n h,(U_ k).lp Z 5 [] n (aBL c0 c1 c2 numbers h)=nD k (Th c0 c1 c2 Z) c0 c1 c2 numbers n h:=cF (xb k (Th c0 c1 c2 Z) c0 c1 c2 numbers)
end
theorem aa3 (ho:ai o):Tl o 144 (OR k:Rw S):=BZ (U_ k) rfl (yn o func179 (by kernel_rfl)) ⟨Jx k ho,aa2 k ho,trivial⟩ func144 (by kernel_rfl) fun t numbers c0 c1 c2 Z x h=>qy (b:=BR k (Th c0 c1 c2 Z) (fun j=>(U_ k).lp Z 5 [] k (aBL c0 c1 c2 numbers j)) t numbers c0 c1 c2) (by kernel_rfl) (qy (by simp only [aDO];rfl) (al h))
def aCQ:Rw S:=aj sr xn fun t qk rj Z=>aa k (x7 k t qk rj) (Iu Z)
def Va:Fx S:=fp 18 [(144,OR k)] [] k f86 0
theorem aa4 (ho:ai o):Tl o 86 (aCQ k:Rw S):=qx (Va k) ⟨aa3 k ho,trivial⟩ func86 fun t qk rj Z x h=>qK h
def OT:Rw S:=aj ad0 fh fun t vars px c0 Z=>aa k (Tr k t vars px c0) (AQ Z)
def Cq:Fx S:=fp 32 [(83,P0 k),(84,LQ k),(86,aCQ k),(87,Gk k)] [] k f54 1
theorem aa5 (ho:ai o):Tl o 54 (OT k:Rw S):=qx (Cq k) ⟨MG k ho,Mw k ho,aa4 k ho,JY k ho,trivial⟩ func54 fun t vars px c0 Z x h=>qK h
def A3:Rw S:=aj ad0 fh fun t vars px c0 Z=>aa k (zb k t vars px c0) (AQ Z)
def Cr:Fx S:=fp 21 [(83,P0 k),(84,LQ k),(89,vO k)] [] k f57 1
theorem D_ (ho:ai o):Tl o 57 (A3 k:Rw S):=qx (Cr k) ⟨MG k ho,Mw k ho,azd k ho,trivial⟩ func57 fun t vars px c0 Z x h=>qK h
def vF:Rw S:=aj ad6 aJv fun p rj vi c0 c1 c3 Z=>aa k (nc k p rj vi c0 c1 c3) (A0 c0 c1 Z)
def Ct:Fx S:=fx 42 (fun _=>[]) (fun _=>false) [(57,A3 k),(58,Ot k)] [(3,⟨[(1,pr),(3,pr),(5,pr),(8,pr),(9,pr),(10,some (100010,false)),(18,pr),(19,pr),(20,pr)],[(8,[pr,pr,pr,pr,pr,pr]),(9,[pr,pr,pr,qW 200579,qW 200580,qW 200581]),(1000000,[pr,pr,pr,pr,pr,pr]),(1000001,[pr]),(1000002,[pr]),(1000003,[pr])]⟩,ap 5 11)] k f56 true [] 4
def Me (c0:Tm) (c1:Int) (vi:Tm) (rj:Int) (j:Int) (h:List Tm) (xU:Int):St UU:=⟨[(1,(iI rj)),(3,(pt 1000000)),(5,(pt 1000002)),(8,(pt 8)),(9,(pt 9)),(10,(.own 100010 0)),(18,(dO (List.drop (BT 1) (List.take (BT c1) c0.c)) .none)),(19,(.int .i64 ((List.drop (BT 1) (List.take (BT c1) c0.c)).length:Int))),(20,(iI xU))],[(8,bT vi),(9,.cells [(iI 0),(iI 0),Di,(.own 200579 0),(.own 200580 0),(.own 200581 0)]),(1000000,bT c0),(1000001,bI c1),(1000002,.cells [(pt 1000003)]),(1000003,bI j)],[(200581,Al),(200580,Db),(200579,Bx),(100010,⟨0,ET.T,h⟩)],[(200581,.wr),(200580,.wr),(200579,.wr),(100010,.app)]⟩
section
variable (k:Nat) (p:Tm) (rj:Int) (vi c0:Tm) (c1 c3:Int) (Z:Out UU->Option S)
theorem Xy: ∀n j h xU,(Ct k).lp Z 3 [] n (Me c0 c1 vi rj j h xU)=SB k (A0 c0 c1 Z) c0 c1 vi rj n j h xU:=p7 (mb k (A0 c0 c1 Z) c0 c1 vi rj)
end
theorem aFh (ho:ai o):Tl o 56 (vF k:Rw S):=qx (Ct k) ⟨D_ k ho,HD k ho,trivial⟩ func56 fun p rj vi c0 c1 c3 Z x h=>qy (b:=BP k (A0 c0 c1 Z) (fun q j xU=>(Ct k).lp Z 3 [] k (Me c0 c1 vi rj q j xU)) p rj vi c0 c1 c3) (by kernel_rfl) (qy (by simp only [Xy];rfl) (al h))
def OV:Rw S:=aj Lv xn fun f kids Z=>aa k (xF k f kids) (aii Z)
def Cu:Fx S:=fp 8 [] [] k f59 0
theorem IH (ho:ai o):Tl o 59 (OV k:Rw S):=qx (Cu k) trivial func59 fun f kids Z x h=>qK h
def OW:Rw S:=aj Ls fh fun line c0 Z=>aa k (yz k line c0) (AQ Z)
def Vc:Fx S:=fp 25 [(140,OI k),(156,Oo k),(160,Bg k),(178,OG k)] [] k f154 1
theorem aa8 (ho:ai o):Tl o 154 (OW k:Rw S):=qx (Vc k) ⟨Ti k ho,iL k ho,Em k ho,Tj k ho,trivial⟩ func154 fun line c0 Z x h=>qK h
def Gl:Rw S:=aj aBy xn fun line a sys Z=>aa k (yx k line a sys) (Iu Z)
def mL:Fx S:=fp 78 [(30,PL (dJ k)),(136,OH k),(137,OF k),(138,OE k),(140,OI k),(142,ON k),(143,OJ k),(154,OW k)] [(5,⟨[(3,pr),(6,pr),(8,pr),(9,pr),(36,pr),(37,pr),(38,pr)],[(3,[pr,pr,pr,pr,pr,pr]),(6,[pr,pr,pr,qW 200387,qW 200388,qW 200389]),(9,[pr,pr,pr,qW 200579,pr,qW 200581]),(19000,[pr])]⟩,ap 7 47)] k f90 0
def Fw (r3:Tm) (r9:Int×Int×ByteArray×List Tm) (r6:Tm) (j:Int) (h:List (Br Tm)) (Mc:Int):St UU:=⟨[(3,(pt 3)),(6,(pt 6)),(8,(pt 19000)),(9,(pt 9)),(36,(sB r6.s)),(37,(iI r6.s.length)),(38,(iI Mc))],[(3,bT r3),(6,.cells [(iI 0),(iI 0),Di,(.own 200387 0),(.own 200388 0),(.own 200389 0)]),(9,.cells [(iI r9.1),(iI r9.2.1),(.str r9.2.2.1),(.own 200579 0),(sT r9.2.2.2),(.own 200581 0)]),(19000,bI j)],[(200581,⟨0,ET.B,h⟩),(200579,Bx),(200389,Al),(200388,Db),(200387,Bx)],[(200581,.wr),(200579,.wr),(200389,.wr),(200388,.wr),(200387,.wr)]⟩
section
variable (k:Nat) (line a:Tm) (sys:List (Br Tm)) (Z:Out UU->Option S)
theorem XA (r3 r9 r6): ∀n j h Mc,(mL k).lp Z 5 [] n (Fw r3 r9 r6 j h Mc)=ko k (Iu Z) r3 r9 r6 n j h Mc:=p7 (oP k (Iu Z) r3 r9 r6)
end
theorem aFi (ho:ai o):Tl o 90 (Gl k:Rw S):=qx (mL k) ⟨Mv o ho k,W0 k ho,aaR k ho,SL k ho,Ti k ho,aaZ k ho,Lo k ho,aa8 k ho,trivial⟩ func90 fun line a sys Z x h=>qy (b:=Hq k (Iu Z) (fun z A B q j Mc=>(mL k).lp Z 5 [] k (Fw z A B q j Mc)) line a sys) (by kernel_rfl) (qy (by simp only [XA];rfl) (al h))
def A4:Rw S:=aj ad4 fh fun line a sys c0 Z=>aa k (y9 k line a sys c0) (AQ Z)
def mN:Fx S:=fp 21 [(83,P0 k),(84,LQ k),(90,Gl k)] [] k f60 1
theorem B0 (ho:ai o):Tl o 60 (A4 k:Rw S):=qx (mN k) ⟨MG k ho,Mw k ho,aFi k ho,trivial⟩ func60 fun line a sys c0 Z x h=>qK h
def A5:Rw S:=aj FE xn fun t Z=>aa k (tL k t) (AX Z)
def mO:Fx S:=fp 119 [(23,PK k),(30,PL (dJ k)),(52,Gg k),(53,OP k),(54,OT k),(55,P1 k),(56,vF k),(59,OV k),(60,A4 k)] [(1000007,⟨[(1,pr),(2,pr),(6,pr)],[(1,[pr,pr,pr,pr,pr,pr]),(2,[pr,pr,pr,qW 200131,qW 200132,qW 200133]),(6,[pr])]⟩,ap 4 15),(17,⟨[(2,pr),(8,pr),(10,pr),(11,pr),(12,pr),(13,pr),(14,qW 100014),(88,pr),(89,pr),(90,pr)],[(1,[pr,pr,pr,pr,pr,pr]),(2,[pr,pr,pr,qW 200131,qW 200132,qW 200133]),(6,[pr]),(8,[pr]),(10,[pr,pr,pr,pr,pr,pr]),(11,[pr,pr,pr,pr,pr,pr]),(13,[pr,pr,pr,qW 200835,pr,qW 200837]),(53,[pr])]⟩,ap 16 24575)] k f34 0
def Fz (t:Tm):St UU:=⟨[(1,(pt 1)),(2,(pt 2)),(6,(pt 6))],[(1,bT t),(2,.cells [(iI 0),(iI 0),Di,(.own 200131 0),(.own 200132 0),(.own 200133 0)]),(6,.cells [(.int .i64 (p5 .i64 ((t.c.length:Int)-1)))])],[(200133,Al),(200132,Db),(200131,Bx)],[(200133,.wr),(200132,.wr),(200131,.wr)]⟩
def anJ (r3:Tm) (r9 De:Tm×Int) (r13:Int×Int×ByteArray×List Tm×Int) (t x4:Tm) (j:Int) (h:List (Br Tm)) (xM:Int):St UU:=⟨[(2,(pt 2)),(8,(pt 8)),(10,(pt 10)),(11,(pt 11)),(12,(.func 56 [] [(pt 1),(pt 6),(pt 8)])),(13,(pt 13)),(14,(.own 100014 0)),(88,(sB x4.s)),(89,(iI x4.s.length)),(90,(iI xM))],[(1,bT r3),(2,.cells [(iI 0),(iI 0),Di,(.own 200131 0),(.own 200132 0),(.own 200133 0)]),(6,.cells [(.int .i64 (p5 .i64 ((t.c.length:Int)-1)))]),(8,.cells [(pt 53)]),(10,bT r9.1),(11,bT De.1),(13,.cells [(iI r13.1),(iI r13.2.1),(.str r13.2.2.1),(.own 200835 0),(sT r13.2.2.2.1),(.own 200837 0)]),(53,bI j)],[(200837,Al),(200835,Bx),(200133,Al),(200132,Db),(200131,Bx),(100014,⟨0,ET.B,h⟩)],[(200837,.wr),(200835,.wr),(200133,.wr),(200132,.wr),(200131,.wr),(100014,.wr)]⟩
section
variable (k:Nat) (t:Tm) (Z:Out UU->Option S)
theorem XH (r3 r9 De r13 x4): ∀n j h xM,(mO k).lp Z 17 [] n (anJ r3 r9 De r13 t x4 j h xM)=fX k (AX Z) r3 r9 De r13 t x4 n j h xM:=p7 (oR k (AX Z) r3 r9 De r13 t x4)
theorem XG: ∀n,(mO k).jn Z 1000007 [] n (Fz t)=l6 k (AX Z) t n:=gL (w_ k (AX Z) t (fun z A j r13 x4 q h x=>fX k (AX Z) z A j r13 t x4 k q h x)) rfl (fun _=>rfl) (qy (b:=w_ k (AX Z) t (fun z A j r13 x4 q h x=>(mO k).lp Z 17 [] k (anJ z A j r13 t x4 q h x))) (by kernel_rfl) (by simp only [XH]))
end
theorem aFj (ho:ai o):Tl o 34 (A5 k:Rw S):=qx (mO k) ⟨Jx k ho,Mv o ho k,TX k ho,aa1 k ho,aa5 k ho,sW k ho,aFh k ho,IH k ho,B0 k ho,trivial⟩ func34 fun t Z x h=>qy (b:=HU k (AX Z) ((mO k).jn Z 1000007 [] k (Fz t)) t) (by kernel_rfl) (qy (by simp only [XG];rfl) (al h))
def OX:Rw S:=aj Si xn fun rm Z=>aa k (TY k rm) (aCH Z)
def aOc:Fx S:=fx 5 (fun _=>[]) (fun _=>false) [] [] k f92 true [] 0
theorem hx (ho:ai o):Tl o 92 (OX k:Rw S):=qx (aOc k) trivial func92 fun rm Z x h=>qK h
def Gm:Rw S:=aj adD xn fun l Z=>aa k (r4 k l) (da Z)
def Ve:Fx S:=fp 15 [(130,PG k)] [(2,aS [5,6,7] [],ap 4 5)] k f254 0
def aBM (l:List (List Cl)) (h:Int):St UU:=⟨[(5,(Hm l .none)),(6,(iI l.length)),(7,(iI h))],[],[],[]⟩
section
variable (k:Nat) (l:List (List Cl)) (Z:Out UU->Option S)
theorem aDP: ∀n h,(Ve k).lp Z 2 [] n (aBM l h)=jm k (da Z) l n h:=cF (ek k (da Z) l)
end
theorem JZ (ho:ai o):Tl o 254 (Gm k:Rw S):=qx (Ve k) ⟨q9 k ho,trivial⟩ func254 fun l Z x h=>qy (b:=bt k (da Z) (fun j=>(Ve k).lp Z 2 [] k (aBM l j)) l) (by kernel_rfl) (qy (by simp only [aDP];rfl) (al h))
def OY:Rw S:=aj jk xn fun f g Z=>aa k (s5 k f g) (xk Z)
def Vf:Fx S:=fp 19 [(241,GS k),(254,Gm k)] [] k f230 0
theorem aa_ (ho:ai o):Tl o 230 (OY k:Rw S):=qx (Vf k) ⟨Kx k ho,JZ k ho,trivial⟩ func230 fun f g Z x h=>qK h
def OZ:Rw S:=aj ad8 fh fun f g c0 Z=>aa k (Td k f g c0) (CP Z)
def rW:Fx S:=fp 26 [(140,OI k),(178,OG k),(230,OY k)] [] k f206 1
theorem aba (ho:ai o):Tl o 206 (OZ k:Rw S):=qx (rW k) ⟨Ti k ho,Tj k ho,aa_ k ho,trivial⟩ func206 fun f g c0 Z x h=>qK h
def A6:Rw S:=aj ad9 xn fun line pz a Km sV Z=>aa k (eW k line pz a Km sV) (Iu Z)
def Cv:Fx S:=fp 49 [(130,PG k),(136,OH k),(138,OE k),(139,Gi k),(141,OK k),(142,ON k),(143,OJ k),(178,OG k),(206,OZ k)] [] k f184 0
theorem Ea (ho:ai o):Tl o 184 (A6 k:Rw S):=qx (Cv k) ⟨q9 k ho,W0 k ho,SL k ho,JW k ho,aaW k ho,aaZ k ho,Lo k ho,Tj k ho,aba k ho,trivial⟩ func184 fun line pz a Km sV Z x h=>qK h
def O0:Rw S:=aj ad_ xn fun line pz a Z=>aa k (ec k line pz a) (Iu Z)
def Vh:Fx S:=fp 18 [(184,A6 k)] [] k f155 0
theorem abb (ho:ai o):Tl o 155 (O0 k:Rw S):=qx (Vh k) ⟨Ea k ho,trivial⟩ func155 fun line pz a Z x h=>qK h
def Gp:Rw S:=aj aea fh fun line pz a c0 Z=>aa k (e0 k line pz a c0) (AQ Z)
def Vi:Fx S:=fp 21 [(83,P0 k),(84,LQ k),(155,O0 k)] [] k f91 1
theorem J8 (ho:ai o):Tl o 91 (Gp k:Rw S):=qx (Vi k) ⟨MG k ho,Mw k ho,abb k ho,trivial⟩ func91 fun line pz a c0 Z x h=>qK h
def aHE:Rw S:=aj kG mw fun line a qB pw qm ql qv qn qu py Z=>aa k (SD k line a qB pw qm ql qv qn qu py) (aM qB pw qm ql qv qn qu py Z)
def O1:Rw S:=aj kG mw fun line a qB pw qm ql qv qn qu py Z=>aa k (SD k line a qB pw qm ql qv qn qu py) (vC Z)
def Vj:Fx S:=fx 15 (fun _=>[]) (fun _=>false) [(97,Oy k)] [] k f93 true [] 1
theorem aFk (ho:ai o):Tl o 93 (aHE k:Rw S):=qx (Vj k) ⟨SM k ho,trivial⟩ func93 fun line a qB pw qm ql qv qn qu py Z x h=>qK h
theorem abc (ho:ai o):Tl o 93 (O1 k:Rw S):=tlS (aFk k ho) fun line a qB pw qm ql qv qn qu py Z x h=>qy (b:=aa k (SD k line a qB pw qm ql qv qn qu py) (aM qB pw qm ql qv qn qu py (DB _ Z))) (by kernel_rfl) (qy (congrArg (aa k (SD k line a qB pw qm ql qv qn qu py)) (funext fun r=>if_pos rfl)) h)
def O2:Rw S:=aj Ls mw fun l qB pw qm ql qv qn qu py Z=>aa k (hK k l qB pw qm ql qv qn qu py) (azN pw qm ql qv qn qu py Z)
def Cw:Fx S:=fx 59 (fun _=>[]) (fun _=>false) [(54,OT k),(55,P1 k),(57,A3 k),(58,Ot k),(91,Gp k),(92,OX k),(93,O1 k),(94,jx k)] [] k f61 true [] 1
theorem abd (ho:ai o):Tl o 61 (O2 k:Rw S):=qx (Cw k) ⟨aa5 k ho,sW k ho,D_ k ho,HD k ho,J8 k ho,hx k ho,abc k ho,j8 k ho,trivial⟩ func61 fun l qB pw qm ql qv qn qu py Z x h=>qK h
def O3:Rw S:=aj ad_ xn fun line pz a Z=>aa k (rv k line pz a) (Iu Z)
def Vk:Fx S:=fp 17 [(184,A6 k)] [] k f157 0
theorem abe (ho:ai o):Tl o 157 (O3 k:Rw S):=qx (Vk k) ⟨Ea k ho,trivial⟩ func157 fun line pz a Z x h=>qK h
def hz:Rw S:=aj aea fh fun line pz a c0 Z=>aa k (eR k line pz a c0) (AQ Z)
def mP:Fx S:=fp 21 [(83,P0 k),(84,LQ k),(157,O3 k)] [] k f95 1
theorem nn (ho:ai o):Tl o 95 (hz k:Rw S):=qx (mP k) ⟨MG k ho,Mw k ho,abe k ho,trivial⟩ func95 fun line pz a c0 Z x h=>qK h
def amL:Rw S:=aj Ls mw fun l qB pw qm ql qv qn qu py Z=>aa k (u2 k l qB pw qm ql qv qn qu py) (azN pw qm ql qv qn qu py Z)
def Vl:Fx S:=fx 52 (fun _=>[]) (fun _=>false) [(55,P1 k),(58,Ot k),(93,O1 k),(95,hz k)] [] k f62 true [] 1
theorem amQ (ho:ai o):Tl o 62 (amL k:Rw S):=qx (Vl k) ⟨sW k ho,HD k ho,abc k ho,nn k ho,trivial⟩ func62 fun l qB pw qm ql qv qn qu py Z x h=>qK h
def am_:Rw S:=aj FE xn fun t Z=>aa k (Z2 k t) (Iu Z)
def Vm:Fx S:=fp 21 [(87,Gk k),(156,Oo k)] [] k f158 0
theorem np (ho:ai o):Tl o 158 (am_ k:Rw S):=qx (Vm k) ⟨JY k ho,iL k ho,trivial⟩ func158 fun t Z x h=>qK h
def ani:Rw S:=aj Ls mw fun t qB pw qm ql qv qn qu py Z=>aa k (Z1 k t qB pw qm ql qv qn qu py) (aHn pw qm ql qv qn qu py Z)
def Cx:Fx S:=fp 25 [(158,am_ k)] [] k f98 1
theorem pJ (ho:ai o):Tl o 98 (ani k:Rw S):=qx (Cx k) ⟨np k ho,trivial⟩ func98 fun t qB pw qm ql qv qn qu py Z x h=>qK h
def Gq:Rw S:=aj adv aJl fun rj sV c1 c2 B9 vl vh vg vf ve vc va Z=>aa k (tS k rj sV c1 c2 B9 vl vh vg vf ve vc va) (aHo c1 c2 vl vh vg vf ve vc va Z)
def rX:Fx S:=fx 37 (fun _=>[]) (fun _=>false) [(57,A3 k),(97,Oy k)] [] k f96 true [] 4
theorem J9 (ho:ai o):Tl o 96 (Gq k:Rw S):=qx (rX k) ⟨D_ k ho,SM k ho,trivial⟩ func96 fun rj sV c1 c2 B9 vl vh vg vf ve vc va Z x h=>qK h
def hF:Rw S:=aj adx fh fun f rj c0 Z=>aa k (JK k f rj c0) (CP Z)
def Cy:Fx S:=fp 23 [(83,P0 k),(84,LQ k),(159,PP k)] [] k f99 1
theorem pK (ho:ai o):Tl o 99 (hF k:Rw S):=qx (Cy k) ⟨MG k ho,Mw k ho,ni k ho,trivial⟩ func99 fun f rj c0 Z x h=>qK h
def O4:Rw S:=aj adK fh fun t rj c0 Z=>aa k (JJ k t rj c0) (AQ Z)
def Vo:Fx S:=fp 18 [(83,P0 k),(84,LQ k),(87,Gk k)] [] k f100 1
theorem abf (ho:ai o):Tl o 100 (O4 k:Rw S):=qx (Vo k) ⟨MG k ho,Mw k ho,JY k ho,trivial⟩ func100 fun t rj c0 Z x h=>qK h
def anB:Rw S:=aj Ls mw fun l qB pw qm ql qv qn qu py Z=>aa k (lo k l qB pw qm ql qv qn qu py) (azN pw qm ql qv qn qu py Z)
def rY:Fx S:=fx 100 (fun _=>[]) (fun _=>false) [(58,Ot k),(59,OV k),(60,A4 k),(94,jx k),(96,Gq k),(98,ani k),(99,hF k),(100,O4 k)] [] k f63 true [] 1
theorem um (ho:ai o):Tl o 63 (anB k:Rw S):=qx (rY k) ⟨HD k ho,IH k ho,B0 k ho,j8 k ho,J9 k ho,pJ k ho,pK k ho,abf k ho,trivial⟩ func63 fun l qB pw qm ql qv qn qu py Z x h=>qK h
def Gr:Rw S:=aj ady xn fun kind l kids Z=>aa k (JM k kind l kids) (aCI Z)
def Cz:Fx S:=fx 11 (fun _=>[]) (fun _=>false) [] [] k f102 true [] 0
theorem J_ (ho:ai o):Tl o 102 (Gr k:Rw S):=qx (Cz k) trivial func102 fun kind l kids Z x h=>qK h
def vG:Rw S:=aj FE xn fun t Z=>aa k (JG k t) (AX Z)
def CA:Fx S:=fp 133 [(23,PK k),(30,PL (dJ k)),(52,Gg k),(59,OV k),(97,Oy k),(99,hF k),(100,O4 k),(101,Oq k),(102,Gr k)] [(20,⟨[(1,pr),(2,pr),(6,pr),(8,pr),(9,pr),(10,pr),(11,qW 100011),(94,pr),(95,pr),(96,pr)],[(1,[pr,pr,pr,pr,pr,pr]),(2,[pr,pr,pr,qW 200131,qW 200132,qW 200133]),(6,[pr,pr,pr,pr,pr,pr]),(9,[pr,pr,pr,pr,pr,pr]),(10,[pr,pr,pr,pr,pr,qW 200645]),(44,[pr])]⟩,ap 21 769727)] k f64 0
def Mt (r3:Tm) (h:Int×Int×ByteArray×List Cl×List Tm) (x4:Tm) (r13:Tm×Int) (x5:Tm) (q:Int) (j:List (Br Tm)) (x:Int):St UU:=⟨[(1,(pt 1)),(2,(pt 2)),(6,(pt 6)),(8,(pt 44)),(9,(pt 9)),(10,(pt 10)),(11,(.own 100011 0)),(94,(sB x5.s)),(95,(iI x5.s.length)),(96,(iI x))],[(1,bT r3),(2,.cells [(iI 0),(iI 0),Di,(.own 200131 0),(.own 200132 0),(.own 200133 0)]),(6,bT x4),(9,bT r13.1),(10,.cells [(iI h.1),(iI h.2.1),(.str h.2.2.1),(sC h.2.2.2.1),(sT h.2.2.2.2),(.own 200645 0)]),(44,bI q)],[(200645,Al),(200133,Al),(200132,Db),(200131,Bx),(100011,⟨0,ET.B,j⟩)],[(200645,.wr),(200133,.wr),(200132,.wr),(200131,.wr),(100011,.wr)]⟩
section
variable (k:Nat) (t:Tm) (Z:Out UU->Option S)
theorem XX (r3 j x4 r13 x5): ∀n q h x,(CA k).lp Z 20 [] n (Mt r3 j x4 r13 x5 q h x)=E7 k (AX Z) r3 j x4 r13 x5 n q h x:=p7 (Jp k (AX Z) r3 j x4 r13 x5)
end
theorem zI (ho:ai o):Tl o 64 (vG k:Rw S):=qx (CA k) ⟨Jx k ho,Mv o ho k,TX k ho,IH k ho,SM k ho,pK k ho,abf k ho,sg k ho,J_ k ho,trivial⟩ func64 fun t Z x h=>qy (b:=SP k (AX Z) (fun B q x4 r13 x5 z j A=>(CA k).lp Z 20 [] k (Mt B q x4 r13 x5 z j A)) t) (by kernel_rfl) (qy (by simp only [XX];rfl) (al h))
def vH:Rw S:=aj adL xn fun b Z=>aa k (hh k b) (aii Z)
def Vp:Fx S:=fp 11 [(59,OV k)] [] k f171 0
theorem zJ (ho:ai o):Tl o 171 (vH k:Rw S):=qx (Vp k) ⟨IH k ho,trivial⟩ func171 fun b Z x h=>qK h
def Gs:Rw S:=aj adz xn fun l Z=>aa k (zl k l) (hZ Z)
def eM:Fx S:=fx 22 (fun _=>[]) (fun _=>false) [(171,vH k)] [(3,⟨[(1,pr),(5,qW 100005),(8,pr),(9,pr),(10,pr)],[]⟩,ap 5 11)] k f118 false [true] 0
def Mu (l:List (Br Tm)) (qT:Int) (h:List (Br Tm)):St UU:=⟨[(1,(.func 171 [] [])),(5,(.own 100005 0)),(8,(sB l)),(9,(iI l.length)),(10,(iI qT))],[],[(100005,⟨0,ET.B,h⟩)],[(100005,.wr)]⟩
section
variable (k:Nat) (l:List (Br Tm)) (Z:Out UU->Option S)
theorem XY: ∀n qT h,(eM k).lp Z 3 [] n (Mu l qT h)=kx k (hZ Z) l n qT h:=aL (dy k (hZ Z) l)
end
theorem aFl (ho:ai o):Tl o 118 (Gs k:Rw S):=qx (eM k) ⟨zJ k ho,trivial⟩ func118 fun l Z x h=>qy (b:=fL k (hZ Z) (fun qT j=>(eM k).lp Z 3 [] k (Mu l qT j)) l) (by kernel_rfl) (qy (by simp only [XY];rfl) (al h))
def anC:Rw S:=aj FE xn fun g Z=>aa k (T4 k g) (aCJ Z)
def Vq:Fx S:=fp 6 [(118,Gs k)] [] k f117 0
theorem uo (ho:ai o):Tl o 117 (anC k:Rw S):=qx (Vq k) ⟨aFl k ho,trivial⟩ func117 fun g Z x h=>qK h
def Gt:Rw S:=aj gi xn fun a es Z=>aa k (SF k a es) (aCI Z)
def CB:Fx S:=fx 9 (fun _=>[]) (fun _=>false) [(102,Gr k)] [] k f120 true [] 0
theorem Ka (ho:ai o):Tl o 120 (Gt k:Rw S):=qx (CB k) ⟨J_ k ho,trivial⟩ func120 fun a es Z x h=>qK h
def Gu:Rw S:=aj EU fh fun c c0 Z=>aa k (ay3 k c c0) (aHp c0 Z)
def CC:Fx S:=fp 14 [(210,GP k)] [] k f223 1
theorem Kb (ho:ai o):Tl o 223 (Gu k:Rw S):=qx (CC k) ⟨Ku k ho,trivial⟩ func223 fun c c0 Z x h=>qK h
def amV:Rw S:=aj aGj fh fun l c0 Z=>aa k (ay4 k l c0) (e5 c0 Z)
def Vs:Fx S:=fp 29 [(223,Gu k)] [(3,⟨[(1,pr),(5,qW 100005),(10,pr),(11,pr),(12,pr)],[(1000000,[pr])]⟩,ap 5 11)] k f222 1
def aBN (c0:Int) (l:List Cl) (uK:Int) (h:List Cl):St UU:=⟨[(1,(.func 223 [] [(pt 1000000)])),(5,(.own 100005 0)),(10,(sC l)),(11,(iI l.length)),(12,(iI uK))],[(1000000,bI c0)],[(100005,⟨0,ET.C,h⟩)],[(100005,.wr)]⟩
section
variable (k:Nat) (l:List Cl) (c0:Int) (Z:Out UU->Option S)
theorem aDQ: ∀n uK h,(Vs k).lp Z 3 [] n (aBN c0 l uK h)=N2 k (e5 c0 Z) c0 l n uK h:=aL (KK k (e5 c0 Z) c0 l)
end
theorem am3 (ho:ai o):Tl o 222 (amV k:Rw S):=qx (Vs k) ⟨Kb k ho,trivial⟩ func222 fun l c0 Z x h=>qy (b:=az7 k (e5 c0 Z) (fun uK j=>(Vs k).lp Z 3 [] k (aBN c0 l uK j)) l c0) (by kernel_rfl) (qy (by simp only [aDQ];rfl) (al h))
def O6:Rw S:=aj EV xn fun f i Z=>aa k (cz k f i) (xk Z)
def CD:Fx S:=fp 20 [(130,PG k),(172,Pp k),(221,GQ k),(222,amV k)] [] k f194 0
theorem abh (ho:ai o):Tl o 194 (O6 k:Rw S):=qx (CD k) ⟨q9 k ho,Sk k ho,Kv k ho,am3 k ho,trivial⟩ func194 fun f i Z x h=>qK h
def O7:Rw S:=aj Lu fh fun f c0 Z=>aa k (ed k f c0) (CP Z)
def Vt:Fx S:=fp 39 [(58,Ot k),(83,P0 k),(84,LQ k),(156,Oo k),(191,GK k),(194,O6 k)] [] k f161 1
theorem abi (ho:ai o):Tl o 161 (O7 k:Rw S):=qx (Vt k) ⟨HD k ho,MG k ho,Mw k ho,iL k ho,Kp k ho,abh k ho,trivial⟩ func161 fun f c0 Z x h=>qK h
def aHF:Rw S:=aj cZ aAw fun c1 az h j q x z A B E F I J L M O T W Y ad ao ax Z=>aa k (x0 k c1 az h j q x z A B E F I J L M O T W Y ad ao ax) (aCK c1 h j q x z A B E F I J L M O T W Y ad ao ax Z)
def vI:Rw S:=aj cZ aAw fun c1 h j q x z A B E F I J L M O T W Y ad ao ax az Z=>aa k (x0 k c1 h j q x z A B E F I J L M O T W Y ad ao ax az) (aHq Z)
def CE:Fx S:=fp 8 [(57,A3 k)] [] k f162 3
theorem aFm (ho:ai o):Tl o 162 (aHF k:Rw S):=qx (CE k) ⟨D_ k ho,trivial⟩ func162 fun c1 j q z A B E F I J L M O T W Y ad ao ax az a6 a7 Z x h=>qK h
theorem zK (ho:ai o):Tl o 162 (vI k:Rw S):=fe (n:=2) (m:=1) (aFm k ho) fun c1 a7 j q z A B E F I J L M O T W Y ad ao ax az a6 Z x h=>qy (b:=aa k (x0 k c1 a7 j q z A B E F I J L M O T W Y ad ao ax az a6) (aCK c1 j q z A B E F I J L M O T W Y ad ao ax az a6 (Uv 2 1 [.cells [(pt 2)],bT c1,.cells [(iI a7),(sC j),(iI q),(iI z),(.str A),(sC B),(sT E),(sB F),(sB I),(iI J),(iI L),(.str M),(sC O),(sT T),(sB W),(iI Y),(iI ad),(.str ao),(sC ax),(sT az),(sB a6)]] Z))) (by kernel_rfl) (qy (congrArg (aa k (x0 k c1 a7 j q z A B E F I J L M O T W Y ad ao ax az a6)) (funext fun r=>if_pos ⟨rfl,rfl⟩)) h)
def O8:Rw S:=aj aGk aJm fun qB pw qm ql qv qn qu py h wc wD wv wq wm wi uY uX uW uV uU uT c2 Z=>aa k (fr k qB pw qm ql qv qn qu py h wc wD wv wq wm wi uY uX uW uV uU uT c2) (aHr pw qm ql qv qn qu py h wc wD wv wq wm wi uY uX uW uV uU uT c2 Z)
def Vu:Fx S:=fx 20 (fun _=>[]) (fun _=>false) [(59,OV k),(162,vI k)] [] k f107 true [false,true] 3
theorem abj (ho:ai o):Tl o 107 (O8 k:Rw S):=qx (Vu k) ⟨IH k ho,zK k ho,trivial⟩ func107 fun qB pw qm ql qv qn qu py j wc wD wv wq wm wi uY uX uW uV uU uT c2 Z x h=>qK h
def sR:Rw S:=aj FE xn fun HE Z=>aa k (SG k HE) (aE Z)
def jO:Fx S:=fx 6 (fun _=>[]) (fun _=>false) [(58,Ot k)] [] k f109 true [] 0
theorem Dd (ho:ai o):Tl o 109 (sR k:Rw S):=qx (jO k) ⟨HD k ho,trivial⟩ func109 fun HE Z x h=>qK h
def A8:Rw S:=aj aBm kk fun b vm sP sO sN sM sK sJ sQ tt s8 tc tb ta s9 td th tg tf te tP tM Z=>aa k (ay7 k b vm sP sO sN sM sK sJ sQ tt s8 tc tb ta s9 td th tg tf te tP tM) (aHs sP sO sN sM sK sJ sQ tt s8 tc tb ta s9 td th tg tf te tP tM Z)
def Vv:Fx S:=fp 31 [(58,Ot k),(59,OV k),(95,hz k),(109,sR k)] [] k f163 2
theorem Ec (ho:ai o):Tl o 163 (A8 k:Rw S):=qx (Vv k) ⟨HD k ho,IH k ho,nn k ho,Dd k ho,trivial⟩ func163 fun b vm sP sO sN sM sK sJ sQ tt s8 tc tb ta s9 td th tg tf te tP tM Z x h=>qK h
def Gv:Rw S:=aj aGl kk fun l vm sP sO sN sM sK sJ sQ tt s8 tc tb ta s9 td th tg tf te tP tM Z=>aa k (fg k l vm sP sO sN sM sK sJ sQ tt s8 tc tb ta s9 td th tg tf te tP tM) (gG sP sO sN sM sK sJ sQ tt s8 tc tb ta s9 td th tg tf te tP tM Z)
def CF:Fx S:=fx 22 (fun _=>[]) (fun _=>false) [(163,A8 k)] [(3,⟨[(1,pr),(5,qW 100005),(8,pr),(9,pr),(10,pr)],[(1000000,[pr]),(1000001,[pr,pr,pr,pr,pr,pr,pr,pr,pr,pr,pr,pr,pr,pr,pr,pr,pr,pr,pr,pr,pr])]⟩,ap 5 11)] k f118 false [true] 2
def MF (sP:List Cl) (tc:Int) (tb:ByteArray) (ta:List Cl) (s9:List Tm) (td:List (Br Tm)) (th tg:Int) (tf:ByteArray) (te:List Cl) (tP:List Tm) (sO:Int) (tM:List (Br Tm)) (sN:Int) (sM:ByteArray) (sK:List Cl) (sJ:List Tm) (sQ tt:List (Br Tm)) (s8:Int) (l:List (Br Tm)) (arm qT:Int) (h:List (Br Tm)):St UU:=⟨[(1,(.func 163 [] [(pt 1000000)])),(5,(.own 100005 0)),(8,(sB l)),(9,(iI l.length)),(10,(iI qT))],[(1000000,.cells [(pt 1000001)]),(1000001,.cells [(iI arm),(sC sP),(iI sO),(iI sN),(.str sM),(sC sK),(sT sJ),(sB sQ),(sB tt),(iI s8),(iI tc),(.str tb),(sC ta),(sT s9),(sB td),(iI th),(iI tg),(.str tf),(sC te),(sT tP),(sB tM)])],[(100005,⟨0,ET.B,h⟩)],[(100005,.wr)]⟩
section
variable (k:Nat) (l:List (Br Tm)) (vm:Int) (sP:List Cl) (sO sN:Int) (sM:ByteArray) (sK:List Cl) (sJ:List Tm) (sQ tt:List (Br Tm)) (s8 tc:Int) (tb:ByteArray) (ta:List Cl) (s9:List Tm) (td:List (Br Tm)) (th tg:Int) (tf:ByteArray) (te:List Cl) (tP:List Tm) (tM:List (Br Tm)) (Z:Out UU->Option S)
theorem Yc: ∀n arm qT h,(CF k).lp Z 3 [] n (MF sP tc tb ta s9 td th tg tf te tP sO tM sN sM sK sJ sQ tt s8 l arm qT h)=ll k (gG sP sO sN sM sK sJ sQ tt s8 tc tb ta s9 td th tg tf te tP tM Z) sP tc tb ta s9 td th tg tf te tP sO tM sN sM sK sJ sQ tt s8 l n arm qT h:=p7 (fB k (gG sP sO sN sM sK sJ sQ tt s8 tc tb ta s9 td th tg tf te tP tM Z) sP tc tb ta s9 td th tg tf te tP sO tM sN sM sK sJ sQ tt s8 l)
end
theorem Kc (ho:ai o):Tl o 118 (Gv k:Rw S):=qx (CF k) ⟨Ec k ho,trivial⟩ func118 fun l vm sP sO sN sM sK sJ sQ tt s8 tc tb ta s9 td th tg tf te tP tM Z x h=>qy (b:=o5 k (gG sP sO sN sM sK sJ sQ tt s8 tc tb ta s9 td th tg tf te tP tM Z) (fun arm qT j=>(CF k).lp Z 3 [] k (MF sP tc tb ta s9 td th tg tf te tP sO tM sN sM sK sJ sQ tt s8 l arm qT j)) l vm sP sO sN sM sK sJ sQ tt s8 tc tb ta s9 td th tg tf te tP tM) (by kernel_rfl) (qy (by simp only [Yc];rfl) (al h))
def Gw:Rw S:=aj Ls aJn fun g qB pw qm ql qv qn qu py wc wD wv wq wm wi uY uX uW uV uU uT Z=>aa k (sq k g qB pw qm ql qv qn qu py wc wD wv wq wm wi uY uX uW uV uU uT) (J3 pw qm ql qv qn qu py uY uX uW uV uU uT Z)
def Vw:Fx S:=fp 74 [(59,OV k),(60,A4 k),(94,jx k),(107,O8 k),(117,anC k),(118,Gv k),(120,Gt k),(161,O7 k)] [(3,⟨[(2,pr),(3,pr),(4,pr),(21,pr),(22,pr),(23,pr)],[(2,[pr]),(3,[pr,pr,pr,pr,pr,pr]),(4,[pr,pr,pr,qW 200259,pr,pr]),(1000000,[pr,pr,pr,pr,pr,pr,pr,pr,qW 64200008,pr,pr,pr,pr,pr,pr,pr,pr,pr,pr,pr,pr])]⟩,ap 5 11)] k f103 1
def aBO (pw:List Cl) (wD:Int) (wv:ByteArray) (wq:List Cl) (wm:List Tm) (wi:List (Br Tm)) (uY uX:Int) (uW:ByteArray) (uV:List Cl) (uU:List Tm) (qm:Int) (uT:List (Br Tm)) (ql:Int) (qv:ByteArray) (qn:List Cl) (qu:List Tm) (py:List (Br Tm)) (wc:Int) (g:Tm) (r3:Int×Int×ByteArray×List Tm×List (Br Tm)) (j:Int) (h:List (Br Tm)) (K7:Int):St UU:=⟨[(2,(pt 2)),(3,(pt 3)),(4,(pt 4)),(21,(sB g.s)),(22,(iI g.s.length)),(23,(iI K7))],[(2,.cells [(pt 1000000)]),(3,bT g),(4,.cells [(iI r3.1),(iI r3.2.1),(.str r3.2.2.1),(.own 200259 0),(sT r3.2.2.2.1),(sB r3.2.2.2.2)]),(1000000,.cells [(iI j),(sC pw),(iI qm),(iI ql),(.str qv),(sC qn),(sT qu),(sB py),(.own 64200008 0),(iI wc),(iI wD),(.str wv),(sC wq),(sT wm),(sB wi),(iI uY),(iI uX),(.str uW),(sC uV),(sT uU),(sB uT)])],[(64200008,⟨0,ET.B,h⟩),(200259,Bx)],[(64200008,.wr),(200259,.wr)]⟩
section
variable (k:Nat) (g:Tm) (qB:Int) (pw:List Cl) (qm ql:Int) (qv:ByteArray) (qn:List Cl) (qu:List Tm) (py:List (Br Tm)) (wc wD:Int) (wv:ByteArray) (wq:List Cl) (wm:List Tm) (wi:List (Br Tm)) (uY uX:Int) (uW:ByteArray) (uV:List Cl) (uU:List Tm) (uT:List (Br Tm)) (Z:Out UU->Option S)
theorem aDR (r3): ∀n j h K7,(Vw k).lp Z 3 [] n (aBO pw wD wv wq wm wi uY uX uW uV uU qm uT ql qv qn qu py wc g r3 j h K7)=jw k (J3 pw qm ql qv qn qu py uY uX uW uV uU uT Z) pw wD wv wq wm wi uY uX uW uV uU qm uT ql qv qn qu py wc g r3 n j h K7:=p7 (ys k (J3 pw qm ql qv qn qu py uY uX uW uV uU uT Z) pw wD wv wq wm wi uY uX uW uV uU qm uT ql qv qn qu py wc g r3)
end
theorem Kd (ho:ai o):Tl o 103 (Gw k:Rw S):=qx (Vw k) ⟨IH k ho,B0 k ho,j8 k ho,abj k ho,uo k ho,Kc k ho,Ka k ho,abi k ho,trivial⟩ func103 fun g qB pw qm ql qv qn qu py wc wD wv wq wm wi uY uX uW uV uU uT Z x h=>qy (b:=az_ k (J3 pw qm ql qv qn qu py uY uX uW uV uU uT Z) (fun z q j K7=>(Vw k).lp Z 3 [] k (aBO pw wD wv wq wm wi uY uX uW uV uU qm uT ql qv qn qu py wc g z q j K7)) g qB pw qm ql qv qn qu py wc wD wv wq wm wi uY uX uW uV uU uT) (by kernel_rfl) (qy (by simp only [aDR];rfl) (al h))
def Gx:Rw S:=aj Si xn fun rm Z=>aa k (KX k rm) (aCH Z)
def Vy:Fx S:=fx 5 (fun _=>[]) (fun _=>false) [] [] k f170 true [] 0
theorem Ke (ho:ai o):Tl o 170 (Gx k:Rw S):=qx (Vy k) trivial func170 fun rm Z x h=>qK h
def A9:Rw S:=aj aBn fh fun t a f y c0 Z=>aa k (Uu k t a f y c0) (aCL Z)
def Vz:Fx S:=fx 28 (fun _=>[]) (fun _=>false) [(138,OE k),(139,Gi k),(170,Gx k)] [] k f197 true [] 1
theorem Ed (ho:ai o):Tl o 197 (A9 k:Rw S):=qx (Vz k) ⟨SL k ho,JW k ho,Ke k ho,trivial⟩ func197 fun t a f y c0 Z x h=>qK h
def O_:Rw S:=aj aGm xn fun t a f y Z=>aa k (L1 k t a f y) (Iu Z)
def VA:Fx S:=fp 28 [(30,PL (dJ k)),(136,OH k),(143,OJ k),(197,A9 k)] [] k f195 0
theorem abl (ho:ai o):Tl o 195 (O_ k:Rw S):=qx (VA k) ⟨Mv o ho k,W0 k ho,Lo k ho,Ed k ho,trivial⟩ func195 fun t a f y Z x h=>qK h
def vJ:Rw S:=aj aBn fh fun t a f y c0 Z=>aa k (sb k t a f y c0) (AQ Z)
def CG:Fx S:=fp 24 [(83,P0 k),(84,LQ k),(195,O_ k)] [] k f165 1
theorem zL (ho:ai o):Tl o 165 (vJ k:Rw S):=qx (CG k) ⟨MG k ho,Mw k ho,abl k ho,trivial⟩ func165 fun t a f y c0 Z x h=>qK h
def vK:Rw S:=aj kX8 aAw fun vi c1 az h j q x z A B E F I J L M O T W Y ad ao ax Z=>aa k (kT k vi c1 az h j q x z A B E F I J L M O T W Y ad ao ax) (aHt c1 h j q x z A B E F I J L M O T W Y ad ao ax Z)
def CH:Fx S:=fx 43 (fun _=>[]) (fun _=>false) [(57,A3 k),(58,Ot k),(97,Oy k)] [] k f164 true [] 3
theorem zM (ho:ai o):Tl o 164 (vK k:Rw S):=qx (CH k) ⟨D_ k ho,HD k ho,SM k ho,trivial⟩ func164 fun vi c1 j q z A B E F I J L M O T W Y ad ao ax az a6 a7 Z x h=>qK h
def aHG:Rw S:=aj cZ fA fun c2 B9 vl vh vg vf ve vc va xu xt xE xD xB aq_ xA xz xy xx xw xv arg Z=>aa k (xf k c2 B9 vl vh vg vf ve vc va xu xt xE xD xB aq_ xA xz xy xx xw xv arg) (aCM c2 vl vh vg vf ve vc va xu xt xE xD xB aq_ xA xz xy xx xw xv arg Z)
def Pa:Rw S:=aj cZ fA fun c2 B9 vl vh vg vf ve vc va xu xt xE xD xB aq_ xA xz xy xx xw xv arg Z=>aa k (xf k c2 B9 vl vh vg vf ve vc va xu xt xE xD xB aq_ xA xz xy xx xw xv arg) (aHu Z)
def VB:Fx S:=fx 9 (fun _=>[]) (fun _=>false) [(164,vK k)] [] k f166 true [] 4
theorem aFn (ho:ai o):Tl o 166 (aHG k:Rw S):=qx (VB k) ⟨zM k ho,trivial⟩ func166 fun c2 B9 vl vh vg vf ve vc va xu xt xE xD xB aq_ xA xz xy xx xw xv arg Z x h=>qK h
theorem abm (ho:ai o):Tl o 166 (Pa k:Rw S):=fe (n:=3) (m:=1) (aFn k ho) fun c2 B9 vl vh vg vf ve vc va xu xt xE xD xB aq_ xA xz xy xx xw xv arg Z x h=>qy (b:=aa k (xf k c2 B9 vl vh vg vf ve vc va xu xt xE xD xB aq_ xA xz xy xx xw xv arg) (aCM c2 vl vh vg vf ve vc va xu xt xE xD xB aq_ xA xz xy xx xw xv arg (Uv 3 1 [.cells [(.func 164 [] [(pt 1),(pt 2)])],.cells [(pt 3)],bT c2,.cells [(iI B9),(sC vl),(iI vh),(iI vg),(.str vf),(sC ve),(sT vc),(sB va),(sB xu),(iI xt),(iI xE),(.str xD),(sC xB),(sT aq_),(sB xA),(iI xz),(iI xy),(.str xx),(sC xw),(sT xv),(sB arg)]] Z))) (by kernel_rfl) (qy (congrArg (aa k (xf k c2 B9 vl vh vg vf ve vc va xu xt xE xD xB aq_ xA xz xy xx xw xv arg)) (funext fun r=>if_pos ⟨rfl,rfl⟩)) h)
def Pb:Rw S:=aj aGn aJo fun qB pw qm ql qv qn qu py h wc wD wv wq wm wi uY uX uW uV uU uT c3 Z=>aa k (r7 k qB pw qm ql qv qn qu py h wc wD wv wq wm wi uY uX uW uV uU uT c3) (aHv pw qm ql qv qn qu py h wc wD wv wq wm wi uY uX uW uV uU uT c3 Z)
def CI:Fx S:=fx 20 (fun _=>[]) (fun _=>false) [(59,OV k),(166,Pa k)] [] k f107 true [false,true] 4
theorem abn (ho:ai o):Tl o 107 (Pb k:Rw S):=qx (CI k) ⟨IH k ho,abm k ho,trivial⟩ func107 fun qB pw qm ql qv qn qu py j wc wD wv wq wm wi uY uX uW uV uU uT c3 Z x h=>qK h
def Pc:Rw S:=aj azp fA fun b c2 B9 vl vh vg vf ve vc va xu xt xE xD xB aq_ xA xz xy xx xw xv arg Z=>aa k (ay8 k b c2 B9 vl vh vg vf ve vc va xu xt xE xD xB aq_ xA xz xy xx xw xv arg) (aHw c2 vl vh vg vf ve vc va xu xt xE xD xB aq_ xA xz xy xx xw xv arg Z)
def VC:Fx S:=fp 25 [(59,OV k),(97,Oy k),(164,vK k)] [] k f167 4
theorem abo (ho:ai o):Tl o 167 (Pc k:Rw S):=qx (VC k) ⟨IH k ho,SM k ho,zM k ho,trivial⟩ func167 fun b c2 B9 vl vh vg vf ve vc va xu xt xE xD xB aq_ xA xz xy xx xw xv arg Z x h=>qK h
def Pd:Rw S:=aj aGo fA fun l c2 B9 vl vh vg vf ve vc va xu xt xE xD xB aq_ xA xz xy xx xw xv arg Z=>aa k (xM k l c2 B9 vl vh vg vf ve vc va xu xt xE xD xB aq_ xA xz xy xx xw xv arg) (s4 c2 vl vh vg vf ve vc va xu xt xE xD xB aq_ xA xz xy xx xw xv arg Z)
def CJ:Fx S:=fx 22 (fun _=>[]) (fun _=>false) [(167,Pc k)] [(3,⟨[(1,pr),(5,qW 100005),(8,pr),(9,pr),(10,pr)],[(1000000,[pr]),(1000001,[pr]),(1000002,[pr,pr,pr,pr,pr,pr]),(1000003,[pr,pr,pr,pr,pr,pr,pr,pr,pr,pr,pr,pr,pr,pr,pr,pr,pr,pr,pr,pr,pr])]⟩,ap 5 11)] k f118 false [true] 4
def MJ (c2:Tm) (vl:List Cl) (xE:Int) (xD:ByteArray) (xB:List Cl) (aq_:List Tm) (xA:List (Br Tm)) (xz xy:Int) (xx:ByteArray) (xw:List Cl) (xv:List Tm) (vh:Int) (arg:List (Br Tm)) (vg:Int) (vf:ByteArray) (ve:List Cl) (vc:List Tm) (va xu:List (Br Tm)) (xt:Int) (l:List (Br Tm)) (j qT:Int) (h:List (Br Tm)):St UU:=⟨[(1,(.func 167 [] [(pt 1000000),(pt 1000001)])),(5,(.own 100005 0)),(8,(sB l)),(9,(iI l.length)),(10,(iI qT))],[(1000000,.cells [(.func 164 [] [(pt 1000001),(pt 1000002)])]),(1000001,.cells [(pt 1000003)]),(1000002,bT c2),(1000003,.cells [(iI j),(sC vl),(iI vh),(iI vg),(.str vf),(sC ve),(sT vc),(sB va),(sB xu),(iI xt),(iI xE),(.str xD),(sC xB),(sT aq_),(sB xA),(iI xz),(iI xy),(.str xx),(sC xw),(sT xv),(sB arg)])],[(100005,⟨0,ET.B,h⟩)],[(100005,.wr)]⟩
section
variable (k:Nat) (l:List (Br Tm)) (c2:Tm) (B9:Int) (vl:List Cl) (vh vg:Int) (vf:ByteArray) (ve:List Cl) (vc:List Tm) (va xu:List (Br Tm)) (xt xE:Int) (xD:ByteArray) (xB:List Cl) (aq_:List Tm) (xA:List (Br Tm)) (xz xy:Int) (xx:ByteArray) (xw:List Cl) (xv:List Tm) (arg:List (Br Tm)) (Z:Out UU->Option S)
theorem Yg: ∀n j qT h,(CJ k).lp Z 3 [] n (MJ c2 vl xE xD xB aq_ xA xz xy xx xw xv vh arg vg vf ve vc va xu xt l j qT h)=TK k (s4 c2 vl vh vg vf ve vc va xu xt xE xD xB aq_ xA xz xy xx xw xv arg Z) c2 vl xE xD xB aq_ xA xz xy xx xw xv vh arg vg vf ve vc va xu xt l n j qT h:=p7 (R' k (s4 c2 vl vh vg vf ve vc va xu xt xE xD xB aq_ xA xz xy xx xw xv arg Z) c2 vl xE xD xB aq_ xA xz xy xx xw xv vh arg vg vf ve vc va xu xt l)
end
theorem abp (ho:ai o):Tl o 118 (Pd k:Rw S):=qx (CJ k) ⟨abo k ho,trivial⟩ func118 fun l c2 B9 vl vh vg vf ve vc va xu xt xE xD xB aq_ xA xz xy xx xw xv arg Z x h=>qy (b:=l' k (s4 c2 vl vh vg vf ve vc va xu xt xE xD xB aq_ xA xz xy xx xw xv arg Z) (fun q qT j=>(CJ k).lp Z 3 [] k (MJ c2 vl xE xD xB aq_ xA xz xy xx xw xv vh arg vg vf ve vc va xu xt l q qT j)) l c2 B9 vl vh vg vf ve vc va xu xt xE xD xB aq_ xA xz xy xx xw xv arg) (by kernel_rfl) (qy (by simp only [Yg];rfl) (al h))
def Gy:Rw S:=aj kG aJp fun t HE qB pw qm ql qv qn qu py h wc wD wv wq wm wi uY uX uW uV uU uT Z=>aa k (l1 k t HE qB pw qm ql qv qn qu py h wc wD wv wq wm wi uY uX uW uV uU uT) (aHx pw qm ql qv qn qu py h wc wD wv wq wm wi uY uX uW uV uU uT Z)
def VE:Fx S:=fx 54 (fun _=>[]) (fun _=>false) [(58,Ot k),(102,Gr k),(107,Pb k),(109,sR k),(118,Pd k),(165,vJ k)] [] k f106 true [] 1
theorem Kf (ho:ai o):Tl o 106 (Gy k:Rw S):=qx (VE k) ⟨HD k ho,J_ k ho,abn k ho,Dd k ho,abp k ho,zL k ho,trivial⟩ func106 fun t HE qB pw qm ql qv qn qu py j wc wD wv wq wm wi uY uX uW uV uU uT Z x h=>qK h
def Gz:Rw S:=aj aBm kk fun b vm sP sO sN sM sK sJ sQ tt s8 tc tb ta s9 td th tg tf te tP tM Z=>aa k (b1 k b vm sP sO sN sM sK sJ sQ tt s8 tc tb ta s9 td th tg tf te tP tM) (aHy sP sO sN sM sK sJ sQ tt s8 tc tb ta s9 td th tg tf te tP tM Z)
def rZ:Fx S:=fx 14 (fun _=>[]) (fun _=>false) [(106,Gy k)] [] k f105 true [] 2
theorem Kg (ho:ai o):Tl o 105 (Gz k:Rw S):=qx (rZ k) ⟨Kf k ho,trivial⟩ func105 fun b vm sP sO sN sM sK sJ sQ tt s8 tc tb ta s9 td th tg tf te tP tM Z x h=>qK h
end
end
end Go.Proofs.YtgmmefmmnakbpaaGreatDoor
