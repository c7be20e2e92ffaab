/- Part 3 of a proof: the sources, with their names and remarks, lie in wip/. -/
import Derived.Test.YtgajalidbabccaaGreatDoorX2
namespace Go.Proofs.YtgajalidbabccaaGreatDoor
open Go PI
set_option linter.unusedVariables false
set_option maxRecDepth 100000
noncomputable section
def aiT {S:Type} (k:Nat) (ret:Int×Int×ByteArray×List Tm×Int→Option S) (l:Tm) (c0_0:Int) (c0_1:List Cl) (c0_2 c0_3:Int) (c0_4:ByteArray) (c0_5:List Cl) (c0_6:List Tm) (c0_7:List (Br Tm)):Option S:=
 Option.bind (ah l.kids 1) fun x1=>
 aa k (mX k (ac x1) ([]:List Cl) c0_0) fun r2=>
 Option.bind (ah l.kids 2) fun x3=>
 aa k (mX k (ac x3) ([]:List Cl) r2.2) fun r4=>
 Option.bind (ah l.kids 0) fun x5=>
 aa k (Hg k (ac x5) r4.2 c0_1 c0_2 c0_3 c0_4 c0_5 c0_6 c0_7) fun r6=>
 aa k (AX k 1 (Cl.mk 1 0) (ac r2.1) (ac r4.1) r6.2 c0_1 c0_2 c0_3 c0_4 c0_5 c0_6 c0_7) fun r7=>
 ab (decide (((c0_1.length:Int):Int)>0)) (
 aa k (AI k c0_1 1 r7.2.2.2.2.2) fun r8=>
 aa k (AX k 2 (Cl.mk 2 0) (ac r2.1) (ac r4.1) r8.2 c0_1 c0_2 c0_3 c0_4 c0_5 c0_6 c0_7) fun r9=>
 aa k (dN k r8.1 [(Tm.mk r9.1 r9.2.1 r9.2.2.1 r9.2.2.2.1 r9.2.2.2.2.1 [])]) fun r10=>
 Option.bind (ap 1099511627776 0 [r10].length) fun x11=>
 Option.bind (ah l.kids 1) fun x12=>
 aa k (mW k (ac x12) 1 r9.2.2.2.2.2) fun r13=>
 aa k (dN k [(Cl.mk 0 1)] [(ac r13.1)]) fun r14=>
 Option.bind (ap 1099511627776 [r10].length [r14].length) fun x15=>
 Option.bind (ah l.kids 2) fun x16=>
 aa k (mW k (ac x16) 1 r13.2) fun r17=>
 aa k (dN k [(Cl.mk 1 0)] [(ac r17.1)]) fun r18=>
 Option.bind (ap 1099511627776 ([r10]++[r14]).length [r18].length) fun x19=>
 aa k (vn k (ac r6.1) (Tm.mk r7.1 r7.2.1 r7.2.2.1 r7.2.2.2.1 r7.2.2.2.2.1 []) (([r10]++[r14])++[r18]) r17.2) fun r20=>
 aa k (co k 12 [(ac r20.1)]) fun r21=>
 ret (r21.1,r21.2.1,r21.2.2.1,r21.2.2.2,r20.2)) (
 Option.bind (ah l.kids 1) fun x22=>
 aa k (mW k (ac x22) 1 r7.2.2.2.2.2) fun r23=>
 aa k (dN k [(Cl.mk 0 1)] [(ac r23.1)]) fun r24=>
 Option.bind (ap 1099511627776 0 [r24].length) fun x25=>
 Option.bind (ah l.kids 2) fun x26=>
 aa k (mW k (ac x26) 1 r23.2) fun r27=>
 aa k (dN k [(Cl.mk 1 0)] [(ac r27.1)]) fun r28=>
 Option.bind (ap 1099511627776 [r24].length [r28].length) fun x29=>
 aa k (vn k (ac r6.1) (Tm.mk r7.1 r7.2.1 r7.2.2.1 r7.2.2.2.1 r7.2.2.2.2.1 []) ([r24]++[r28]) r27.2) fun r30=>
 aa k (co k 12 [(ac r30.1)]) fun r31=>
 ret (r31.1,r31.2.1,r31.2.2.1,r31.2.2.2,r30.2))
noncomputable def Hc {S:Type} (k:Nat) (l:Tm) (c0_0:Int) (c0_1:List Cl) (c0_2 c0_3:Int) (c0_4:ByteArray) (c0_5:List Cl) (c0_6:List Tm) (c0_7:List (Br Tm)) (ret:Int×Int×ByteArray×List Tm×Int→Option S):Option S:=aiT k ret l c0_0 c0_1 c0_2 c0_3 c0_4 c0_5 c0_6 c0_7
noncomputable def aiw {S:Type} (k:Nat) (ret:Tm×Int→Option S) (t:Tm) (c0:Int):Option S:=
 aa k (qv k) fun r1=>
 aa k (mX k (ac t) r1 c0) fun r2=>
 ret ((ac r2.1),r2.2)
noncomputable def AG {S:Type} (k:Nat) (t:Tm) (c0:Int) (ret:Tm×Int→Option S):Option S:=aiw k ret t c0
noncomputable def aiH {S:Type} (k:Nat) (ret:Int×Int×ByteArray×List Tm×List (Br Tm)→Option S) (kind:Int) (l:List (Br Tm)) (kids:List Tm):Option S:=
 ret (kind,0,ByteArray.empty,kids,l)
noncomputable def mY {S:Type} (k:Nat) (kind:Int) (l:List (Br Tm)) (kids:List Tm) (ret:Int×Int×ByteArray×List Tm×List (Br Tm)→Option S):Option S:=aiH k ret kind l kids
def F1 {S:Type} (k:Nat) (ret:Tm×Bool×Int→Option S) (r3:Tm) (r15:Int×Int×ByteArray×List Cl×List Tm) (x4:Tm) (r13:Tm×Int) (x5:Tm) (rec0:Int→(List (Br Tm))→Int→Option S) (b44_0:Int) (sys11:List (Br Tm)) (v96:Int):Option S:=
 ab (decide ((v96:Int)<(x5.sys.length:Int))) (
 Option.bind (ah x5.sys v96) fun x16=>
 aa k (AI k r3.r 1 b44_0) fun r17=>
 aa k (mW k (ac x4) 1 r17.2) fun r18=>
 Option.bind (ah x16.kids 0) fun x19=>
 aa k (gN k 14 r17.1 [(ac r18.1),(ac x19)]) fun r20=>
 aa k (dN k x16.face [(Tm.mk r20.1 r20.2.1 r20.2.2.1 r20.2.2.2.1 r20.2.2.2.2 [])]) fun r21=>
 Option.bind (ap 1099511627776 sys11.length [r21].length) fun x22=>
  rec0 r18.2 (sys11++[r21]) (IntKind.wrap .i64 (v96+1))) (
 aa k (mY k 15 sys11 [(ac r13.1),(Tm.mk r15.1 r15.2.1 r15.2.2.1 r15.2.2.2.1 r15.2.2.2.2 [])]) fun r23=>
 aa k (fY k (Tm.mk r23.1 r23.2.1 r23.2.2.1 [] r23.2.2.2.1 r23.2.2.2.2) b44_0) fun r24=>
 ret ((ac r24.1),r24.2.1,r24.2.2.1))
noncomputable def B0 {S:Type} (k:Nat) (ret:Tm×Bool×Int→Option S) (r3:Tm) (r15:Int×Int×ByteArray×List Cl×List Tm) (x4:Tm) (r13:Tm×Int) (x5:Tm):Nat→Int→(List (Br Tm))→Int→Option S
 |0=>fun _ _ _=> .none
 |m+1=>fun b44_0 sys11 v96=>F1 k ret r3 r15 x4 r13 x5 (B0 k ret r3 r15 x4 r13 x5 m) b44_0 sys11 v96
def PT {S:Type} (k:Nat) (ret:Tm×Bool×Int→Option S) (J0:Tm→(Int×Int×ByteArray×List Cl×List Tm)→Tm→(Tm×Int)→Tm→Int→(List (Br Tm))→Int→Option S) (t:Tm):Option S:=
 aa k (d3 k (ac t)) fun r1=>
 ab (!(r1==0)) (
 ret ((Tm.mk 0 0 ByteArray.empty [] [] []),false,r1)) (
 ab (!(t.kind==14)) (
  ret ((Tm.mk 0 0 ByteArray.empty [] [] []),false,0)) (
  Option.bind (ah t.kids 0) fun x2=>
  ab (!(x2.kind==23)) (
  ret ((Tm.mk 0 0 ByteArray.empty [] [] []),false,0)) (
  c5 k (ac t) fun r3=>
  Option.bind (ah r3.kids 0) fun x4=>
  Option.bind (ah r3.kids 1) fun x5=>
  ab (x5.kind==24) (
   aa k (fY k (ac x5) 0) fun r6=>
   ret ((ac r6.1),r6.2.1,r6.2.2.1)) (
   ab (x5.kind==25) (
   aa k (fY k (ac x5) 0) fun r7=>
   ret ((ac r7.1),r7.2.1,r7.2.2.1)) (
   ab (x5.kind==26) (
    Option.bind (ah x4.kids 0) fun x8=>
    Option.bind (ah x5.kids 0) fun x9=>
    aa k (gN k 14 r3.r [(ac x8),(ac x9)]) fun r10=>
    aa k (gN k 26 x5.r [(Tm.mk r10.1 r10.2.1 r10.2.2.1 r10.2.2.2.1 r10.2.2.2.2 [])]) fun r11=>
    aa k (fY k (Tm.mk r11.1 r11.2.1 r11.2.2.1 r11.2.2.2.1 r11.2.2.2.2 []) 0) fun r12=>
    ret ((ac r12.1),r12.2.1,r12.2.2.1)) (
    ab (x5.kind==15) (
    aa k (AG k (ac x4) 0) fun r13=>
    Option.bind (ah x5.kids 1) fun x14=>
    aa k (gN k 14 r3.r [(ac x4),(ac x14)]) fun r15=>
        J0 r3 r15 x4 r13 x5 r13.2 ([]:List (Br Tm)) 0) (
    ret ((Tm.mk 0 0 ByteArray.empty [] [] []),false,0))))))))
noncomputable def GV {S:Type} (k:Nat) (t:Tm) (ret:Tm×Bool×Int→Option S):Option S:=PT k ret (fun r3 r15 x4 r13 x5 b44_0 sys11 v96=>B0 k ret r3 r15 x4 r13 x5 k b44_0 sys11 v96) t
noncomputable def aii {S:Type} (k:Nat) (ret:(Br Tm)→Option S) (b:(Br Tm)):Option S:=
 Option.bind (ah b.kids 1) fun x1=>
 aa k (dN k b.face [(ac x1)]) fun r2=>
 ret r2
noncomputable def GU {S:Type} (k:Nat) (b:(Br Tm)) (ret:(Br Tm)→Option S):Option S:=aii k ret b
def FZ {S:Type} (k:Nat) (ret:List (Br Tm)→Option S) (l:List (Br Tm)) (rec0:Int→(List (Br Tm))→Option S) (v10:Int) (out5:List (Br Tm)):Option S:=
 ab (decide ((v10:Int)<(l.length:Int))) (
 Option.bind (ah l v10) fun x1=>
 aa k (GU k x1) fun r2=>
 Option.bind (ap 1099511627776 out5.length [r2].length) fun x3=>
  rec0 (IntKind.wrap .i64 (v10+1)) (out5++[r2])) (
 ret out5)
noncomputable def BY {S:Type} (k:Nat) (ret:List (Br Tm)→Option S) (l:List (Br Tm)):Nat→Int→(List (Br Tm))→Option S
 |0=>fun _ _=> .none
 |m+1=>fun v10 out5=>FZ k ret l (BY k ret l m) v10 out5
noncomputable def PR {S:Type} (k:Nat) (ret:List (Br Tm)→Option S) (J0:Int→(List (Br Tm))→Option S) (l:List (Br Tm)):Option S:=
 J0 0 ([]:List (Br Tm))
noncomputable def GQ {S:Type} (k:Nat) (l:List (Br Tm)) (ret:List (Br Tm)→Option S):Option S:=PR k ret (fun v10 out5=>BY k ret l k v10 out5) l
noncomputable def aih {S:Type} (k:Nat) (ret:List (Br Tm)→Option S) (g:Tm):Option S:=
 aa k (GQ k g.sys) fun r1=>
 ret r1
noncomputable def GT {S:Type} (k:Nat) (g:Tm) (ret:List (Br Tm)→Option S):Option S:=aih k ret g
noncomputable def aig {S:Type} (k:Nat) (ret:Int×Int×ByteArray×List Tm×List (Br Tm)→Option S) (a:Tm) (es:List (Br Tm)):Option S:=
 aa k (mY k 18 es [(ac a)]) fun r1=>
 ret (r1.1,r1.2.1,r1.2.2.1,r1.2.2.2.1,r1.2.2.2.2)
noncomputable def GS {S:Type} (k:Nat) (a:Tm) (es:List (Br Tm)) (ret:Int×Int×ByteArray×List Tm×List (Br Tm)→Option S):Option S:=aig k ret a es
noncomputable def ah3 {S:Type} (k:Nat) (ret:Cl×Bool→Option S) (c:Cl) (c0:Int):Option S:=
 aa k (fj k (aL .or .u32 c.pos c.neg) c0) fun r1=>
 ret (c,!r1)
noncomputable def GD {S:Type} (k:Nat) (c:Cl) (c0:Int) (ret:Cl×Bool→Option S):Option S:=ah3 k ret c c0
def FT {S:Type} (k:Nat) (ret:List Cl→Option S) (c0:Int) (l:List Cl) (rec0:Int→(List Cl)→Option S) (v12:Int) (out5:List Cl):Option S:=
 ab (decide ((v12:Int)<(l.length:Int))) (
 Option.bind (ah l v12) fun x1=>
 aa k (GD k x1 c0) fun r2=>
 ab (r2.2) (
  Option.bind (ap 1099511627776 out5.length [r2.1].length) fun x3=>
   rec0 (IntKind.wrap .i64 (v12+1)) (out5++[r2.1])) (
   rec0 (IntKind.wrap .i64 (v12+1)) out5)) (
 ret out5)
noncomputable def BS {S:Type} (k:Nat) (ret:List Cl→Option S) (c0:Int) (l:List Cl):Nat→Int→(List Cl)→Option S
 |0=>fun _ _=> .none
 |m+1=>fun v12 out5=>FT k ret c0 l (BS k ret c0 l m) v12 out5
noncomputable def Py {S:Type} (k:Nat) (ret:List Cl→Option S) (J0:Int→(List Cl)→Option S) (l:List Cl) (c0:Int):Option S:=
 J0 0 ([]:List Cl)
noncomputable def GF {S:Type} (k:Nat) (l:List Cl) (c0:Int) (ret:List Cl→Option S):Option S:=Py k ret (fun v12 out5=>BS k ret c0 l k v12 out5) l c0
def ah2 {S:Type} (k:Nat) (ret:List Cl×Int→Option S) (f:List Cl) (i:Int):Option S:=
 aa k (iA k f) fun r1=>
 ab (!r1) (
 ret (([]:List Cl),2)) (
 aa k (qr k i) fun r2=>
 ab (!r2) (
  ret (([]:List Cl),2)) (
  aa k (GF k f i) fun r3=>
  aa k (eP k r3) fun r4=>
  ret (r4.1,r4.2)))
noncomputable def GC {S:Type} (k:Nat) (f:List Cl) (i:Int) (ret:List Cl×Int→Option S):Option S:=ah2 k ret f i
def air {S:Type} (k:Nat) (ret:List Cl×Int→Option S) (f:List Cl) (c0:Int):Option S:=
 aa k (dA k c0) fun r1=>
 ab (!r1) (
 ret (([]:List Cl),c0)) (
 aa k (GC k f 0) fun r2=>
 aa k (d2 k (Tm.mk 0 0 ByteArray.empty [] [] []) r2.2 c0) fun r3=>
 aa k (dA k r3.2) fun r4=>
 ab (!r4) (
  ret (([]:List Cl),r3.2)) (
  aa k (co k 3 ([]:List Tm)) fun r5=>
  aa k (co k 3 ([]:List Tm)) fun r6=>
  aa k (mQ k) fun r7=>
  aa k (gL k (Tm.mk 14 0 ByteArray.empty r2.1 [(Tm.mk r5.1 r5.2.1 r5.2.2.1 [] r5.2.2.2 []),(Tm.mk r6.1 r6.2.1 r6.2.2.1 [] r6.2.2.2 [])] []) 0 r7) fun r8=>
  aa k (d2 k (Tm.mk 0 0 ByteArray.empty [] [] []) r8.2 r3.2) fun r9=>
  ret (r8.1.r,r9.2)))
noncomputable def G4 {S:Type} (k:Nat) (f:List Cl) (c0:Int) (ret:List Cl×Int→Option S):Option S:=air k ret f c0
noncomputable def ah7 {S:Type} (k:Nat) (ret:Tm×Int→Option S) (c1:Tm) (c2_0:Int) (c2_1:List Cl) (c2_2 c2_3:Int) (c2_4:ByteArray) (c2_5:List Cl) (c2_6:List Tm) (c2_7 c2_8:List (Br Tm)) (c2_9 c2_10:Int) (c2_11:ByteArray) (c2_12:List Cl) (c2_13:List Tm) (c2_14:List (Br Tm)) (c2_15 c2_16:Int) (c2_17:ByteArray) (c2_18:List Cl) (c2_19:List Tm) (c2_20:List (Br Tm)):Option S:=
 aa k (eo k (ac c1) 0 1 c2_0) fun r1=>
 ret ((ac r1.1),r1.2)
noncomputable def qx {S:Type} (k:Nat) (c1:Tm) (c2_0:Int) (c2_1:List Cl) (c2_2 c2_3:Int) (c2_4:ByteArray) (c2_5:List Cl) (c2_6:List Tm) (c2_7 c2_8:List (Br Tm)) (c2_9 c2_10:Int) (c2_11:ByteArray) (c2_12:List Cl) (c2_13:List Tm) (c2_14:List (Br Tm)) (c2_15 c2_16:Int) (c2_17:ByteArray) (c2_18:List Cl) (c2_19:List Tm) (c2_20:List (Br Tm)) (ret:Tm×Int→Option S):Option S:=ah7 k ret c1 c2_0 c2_1 c2_2 c2_3 c2_4 c2_5 c2_6 c2_7 c2_8 c2_9 c2_10 c2_11 c2_12 c2_13 c2_14 c2_15 c2_16 c2_17 c2_18 c2_19 c2_20
def aic {S:Type} (k:Nat) (ret:List (Br Tm)×Int→Option S) (c0_0:Int) (c0_1:List Cl) (c0_2 c0_3:Int) (c0_4:ByteArray) (c0_5:List Cl) (c0_6:List Tm) (c0_7 c0_8:List (Br Tm)) (c0_9 c0_10:Int) (c0_11:ByteArray) (c0_12:List Cl) (c0_13:List Tm) (c0_14:List (Br Tm)) (c0_15 c0_16:Int) (c0_17:ByteArray) (c0_18:List Cl) (c0_19:List Tm) (c0_20:List (Br Tm)) (c2:Tm):Option S:=
 ab ((c0_1.length:Int)==0) (
 ret (([]:List (Br Tm)),c0_0)) (
 aa k (qx k (ac c2) c0_0 c0_1 c0_2 c0_3 c0_4 c0_5 c0_6 c0_7 c0_8 c0_9 c0_10 c0_11 c0_12 c0_13 c0_14 c0_15 c0_16 c0_17 c0_18 c0_19 c0_20) fun r1=>
 aa k (dN k c0_1 [(ac r1.1)]) fun r2=>
 ret ([r2],r1.2))
noncomputable def GN {S:Type} (k:Nat) (c0_0:Int) (c0_1:List Cl) (c0_2 c0_3:Int) (c0_4:ByteArray) (c0_5:List Cl) (c0_6:List Tm) (c0_7 c0_8:List (Br Tm)) (c0_9 c0_10:Int) (c0_11:ByteArray) (c0_12:List Cl) (c0_13:List Tm) (c0_14:List (Br Tm)) (c0_15 c0_16:Int) (c0_17:ByteArray) (c0_18:List Cl) (c0_19:List Tm) (c0_20:List (Br Tm)) (c2:Tm) (ret:List (Br Tm)×Int→Option S):Option S:=aic k ret c0_0 c0_1 c0_2 c0_3 c0_4 c0_5 c0_6 c0_7 c0_8 c0_9 c0_10 c0_11 c0_12 c0_13 c0_14 c0_15 c0_16 c0_17 c0_18 c0_19 c0_20 c2
noncomputable def aif {S:Type} (k:Nat) (ret:Int×Int×ByteArray×List Tm→Option S) (a_e:Tm):Option S:=
 aa k (co k 9 [(ac a_e)]) fun r1=>
 ret (r1.1,r1.2.1,r1.2.2.1,r1.2.2.2)
noncomputable def vi {S:Type} (k:Nat) (a_e:Tm) (ret:Int×Int×ByteArray×List Tm→Option S):Option S:=aif k ret a_e
noncomputable def ah8 {S:Type} (k:Nat) (ret:(Br Tm)×Int→Option S) (b:(Br Tm)) (c1_0:Int) (c1_1:List Cl) (c1_2 c1_3:Int) (c1_4:ByteArray) (c1_5:List Cl) (c1_6:List Tm) (c1_7 c1_8:List (Br Tm)) (c1_9 c1_10:Int) (c1_11:ByteArray) (c1_12:List Cl) (c1_13:List Tm) (c1_14:List (Br Tm)) (c1_15 c1_16:Int) (c1_17:ByteArray) (c1_18:List Cl) (c1_19:List Tm) (c1_20:List (Br Tm)):Option S:=
 Option.bind (ah b.kids 1) fun x1=>
 aa k (vi k (ac x1)) fun r2=>
 Option.bind (ah b.kids 0) fun x3=>
 aa k (AJ k (ac x3) c1_1 (Tm.mk c1_2 c1_3 c1_4 c1_5 c1_6 c1_7) c1_0) fun r4=>
 aa k (co k 6 [(Tm.mk r2.1 r2.2.1 r2.2.2.1 [] r2.2.2.2 []),(ac r4.1)]) fun r5=>
 aa k (dN k b.face [(Tm.mk r5.1 r5.2.1 r5.2.2.1 [] r5.2.2.2 [])]) fun r6=>
 ret (r6,r4.2)
noncomputable def GJ {S:Type} (k:Nat) (b:(Br Tm)) (c1_0:Int) (c1_1:List Cl) (c1_2 c1_3:Int) (c1_4:ByteArray) (c1_5:List Cl) (c1_6:List Tm) (c1_7 c1_8:List (Br Tm)) (c1_9 c1_10:Int) (c1_11:ByteArray) (c1_12:List Cl) (c1_13:List Tm) (c1_14:List (Br Tm)) (c1_15 c1_16:Int) (c1_17:ByteArray) (c1_18:List Cl) (c1_19:List Tm) (c1_20:List (Br Tm)) (ret:(Br Tm)×Int→Option S):Option S:=ah8 k ret b c1_0 c1_1 c1_2 c1_3 c1_4 c1_5 c1_6 c1_7 c1_8 c1_9 c1_10 c1_11 c1_12 c1_13 c1_14 c1_15 c1_16 c1_17 c1_18 c1_19 c1_20
def FX {S:Type} (k:Nat) (ret:List (Br Tm)×Int→Option S) (c1_1:List Cl) (c1_10:Int) (c1_11:ByteArray) (c1_12:List Cl) (c1_13:List Tm) (c1_14:List (Br Tm)) (c1_15 c1_16:Int) (c1_17:ByteArray) (c1_18:List Cl) (c1_19:List Tm) (c1_2:Int) (c1_20:List (Br Tm)) (c1_3:Int) (c1_4:ByteArray) (c1_5:List Cl) (c1_6:List Tm) (c1_7 c1_8:List (Br Tm)) (c1_9:Int) (l:List (Br Tm)) (rec0:Int→Int→(List (Br Tm))→Option S) (e1_0 v10:Int) (out5:List (Br Tm)):Option S:=
 ab (decide ((v10:Int)<(l.length:Int))) (
 Option.bind (ah l v10) fun x1=>
 aa k (GJ k x1 e1_0 c1_1 c1_2 c1_3 c1_4 c1_5 c1_6 c1_7 c1_8 c1_9 c1_10 c1_11 c1_12 c1_13 c1_14 c1_15 c1_16 c1_17 c1_18 c1_19 c1_20) fun r2=>
 Option.bind (ap 1099511627776 out5.length [r2.1].length) fun x3=>
  rec0 r2.2 (IntKind.wrap .i64 (v10+1)) (out5++[r2.1])) (
 ret (out5,e1_0))
noncomputable def BW {S:Type} (k:Nat) (ret:List (Br Tm)×Int→Option S) (c1_1:List Cl) (c1_10:Int) (c1_11:ByteArray) (c1_12:List Cl) (c1_13:List Tm) (c1_14:List (Br Tm)) (c1_15 c1_16:Int) (c1_17:ByteArray) (c1_18:List Cl) (c1_19:List Tm) (c1_2:Int) (c1_20:List (Br Tm)) (c1_3:Int) (c1_4:ByteArray) (c1_5:List Cl) (c1_6:List Tm) (c1_7 c1_8:List (Br Tm)) (c1_9:Int) (l:List (Br Tm)):Nat→Int→Int→(List (Br Tm))→Option S
 |0=>fun _ _ _=> .none
 |m+1=>fun e1_0 v10 out5=>FX k ret c1_1 c1_10 c1_11 c1_12 c1_13 c1_14 c1_15 c1_16 c1_17 c1_18 c1_19 c1_2 c1_20 c1_3 c1_4 c1_5 c1_6 c1_7 c1_8 c1_9 l (BW k ret c1_1 c1_10 c1_11 c1_12 c1_13 c1_14 c1_15 c1_16 c1_17 c1_18 c1_19 c1_2 c1_20 c1_3 c1_4 c1_5 c1_6 c1_7 c1_8 c1_9 l m) e1_0 v10 out5
noncomputable def PP {S:Type} (k:Nat) (ret:List (Br Tm)×Int→Option S) (J0:Int→Int→(List (Br Tm))→Option S) (l:List (Br Tm)) (c1_0:Int) (c1_1:List Cl) (c1_2 c1_3:Int) (c1_4:ByteArray) (c1_5:List Cl) (c1_6:List Tm) (c1_7 c1_8:List (Br Tm)) (c1_9 c1_10:Int) (c1_11:ByteArray) (c1_12:List Cl) (c1_13:List Tm) (c1_14:List (Br Tm)) (c1_15 c1_16:Int) (c1_17:ByteArray) (c1_18:List Cl) (c1_19:List Tm) (c1_20:List (Br Tm)):Option S:=
 J0 c1_0 0 ([]:List (Br Tm))
noncomputable def GP {S:Type} (k:Nat) (l:List (Br Tm)) (c1_0:Int) (c1_1:List Cl) (c1_2 c1_3:Int) (c1_4:ByteArray) (c1_5:List Cl) (c1_6:List Tm) (c1_7 c1_8:List (Br Tm)) (c1_9 c1_10:Int) (c1_11:ByteArray) (c1_12:List Cl) (c1_13:List Tm) (c1_14:List (Br Tm)) (c1_15 c1_16:Int) (c1_17:ByteArray) (c1_18:List Cl) (c1_19:List Tm) (c1_20:List (Br Tm)) (ret:List (Br Tm)×Int→Option S):Option S:=PP k ret (fun e1_0 v10 out5=>BW k ret c1_1 c1_10 c1_11 c1_12 c1_13 c1_14 c1_15 c1_16 c1_17 c1_18 c1_19 c1_2 c1_20 c1_3 c1_4 c1_5 c1_6 c1_7 c1_8 c1_9 l k e1_0 v10 out5) l c1_0 c1_1 c1_2 c1_3 c1_4 c1_5 c1_6 c1_7 c1_8 c1_9 c1_10 c1_11 c1_12 c1_13 c1_14 c1_15 c1_16 c1_17 c1_18 c1_19 c1_20
def FW {S:Type} (k:Nat) (ret:Int×List (Br Tm)×Int×Int×ByteArray×List Cl×List Tm×List (Br Tm)→Option S) (c0_1:List Cl) (c0_10:Int) (c0_11:ByteArray) (c0_12:List Cl) (c0_13:List Tm) (c0_14:List (Br Tm)) (c0_15 c0_16:Int) (c0_17:ByteArray) (c0_18:List Cl) (c0_19:List Tm) (c0_2:Int) (c0_20:List (Br Tm)) (c0_3:Int) (c0_4:ByteArray) (c0_5:List Cl) (c0_6:List Tm) (c0_7:List (Br Tm)) (c0_9:Int) (g:Tm) (r3:Int×Int×ByteArray×List Tm×List (Br Tm)) (rec0:Int→(List (Br Tm))→Int→Option S) (e0_0:Int) (e0_8:List (Br Tm)) (v23:Int):Option S:=
 ab (decide ((v23:Int)<(g.sys.length:Int))) (
 Option.bind (ah g.sys v23) fun x4=>
 aa k (G4 k x4.face e0_0) fun r5=>
 ab (decide (((r5.1.length:Int):Int)>0)) (
  aa k (dN k r5.1 x4.kids) fun r6=>
  Option.bind (ap 1099511627776 e0_8.length [r6].length) fun x7=>
   rec0 r5.2 (e0_8++[r6]) (IntKind.wrap .i64 (v23+1))) (
   rec0 r5.2 e0_8 (IntKind.wrap .i64 (v23+1)))) (
 aa k (GN k e0_0 c0_1 c0_2 c0_3 c0_4 c0_5 c0_6 c0_7 e0_8 c0_9 c0_10 c0_11 c0_12 c0_13 c0_14 c0_15 c0_16 c0_17 c0_18 c0_19 c0_20 (Tm.mk r3.1 r3.2.1 r3.2.2.1 [] r3.2.2.2.1 r3.2.2.2.2)) fun r8=>
 aa k (GP k e0_8 r8.2 c0_1 c0_2 c0_3 c0_4 c0_5 c0_6 c0_7 e0_8 c0_9 c0_10 c0_11 c0_12 c0_13 c0_14 c0_15 c0_16 c0_17 c0_18 c0_19 c0_20) fun r9=>
 Option.bind (ap 1099511627776 r8.1.length r9.1.length) fun x10=>
 Option.bind (ah g.kids 0) fun x11=>
 aa k (vn k (ac x11) (Tm.mk r3.1 r3.2.1 r3.2.2.1 [] r3.2.2.2.1 r3.2.2.2.2) (r8.1++r9.1) r9.2) fun r12=>
 ret (r12.2,e0_8,r12.1.kind,r12.1.n,r12.1.name,r12.1.r,r12.1.kids,r12.1.sys))
noncomputable def BV {S:Type} (k:Nat) (ret:Int×List (Br Tm)×Int×Int×ByteArray×List Cl×List Tm×List (Br Tm)→Option S) (c0_1:List Cl) (c0_10:Int) (c0_11:ByteArray) (c0_12:List Cl) (c0_13:List Tm) (c0_14:List (Br Tm)) (c0_15 c0_16:Int) (c0_17:ByteArray) (c0_18:List Cl) (c0_19:List Tm) (c0_2:Int) (c0_20:List (Br Tm)) (c0_3:Int) (c0_4:ByteArray) (c0_5:List Cl) (c0_6:List Tm) (c0_7:List (Br Tm)) (c0_9:Int) (g:Tm) (r3:Int×Int×ByteArray×List Tm×List (Br Tm)):Nat→Int→(List (Br Tm))→Int→Option S
 |0=>fun _ _ _=> .none
 |m+1=>fun e0_0 e0_8 v23=>FW k ret c0_1 c0_10 c0_11 c0_12 c0_13 c0_14 c0_15 c0_16 c0_17 c0_18 c0_19 c0_2 c0_20 c0_3 c0_4 c0_5 c0_6 c0_7 c0_9 g r3 (BV k ret c0_1 c0_10 c0_11 c0_12 c0_13 c0_14 c0_15 c0_16 c0_17 c0_18 c0_19 c0_2 c0_20 c0_3 c0_4 c0_5 c0_6 c0_7 c0_9 g r3 m) e0_0 e0_8 v23
noncomputable def PO {S:Type} (k:Nat) (ret:Int×List (Br Tm)×Int×Int×ByteArray×List Cl×List Tm×List (Br Tm)→Option S) (J0:(Int×Int×ByteArray×List Tm×List (Br Tm))→Int→(List (Br Tm))→Int→Option S) (g:Tm) (c0_0:Int) (c0_1:List Cl) (c0_2 c0_3:Int) (c0_4:ByteArray) (c0_5:List Cl) (c0_6:List Tm) (c0_7:List (Br Tm)) (c0_9 c0_10:Int) (c0_11:ByteArray) (c0_12:List Cl) (c0_13:List Tm) (c0_14:List (Br Tm)) (c0_15 c0_16:Int) (c0_17:ByteArray) (c0_18:List Cl) (c0_19:List Tm) (c0_20:List (Br Tm)):Option S:=
 aa k (mX k (ac g) ([]:List Cl) c0_0) fun r1=>
 aa k (GT k (ac r1.1)) fun r2=>
 aa k (GS k (Tm.mk c0_2 c0_3 c0_4 c0_5 c0_6 c0_7) r2) fun r3=>
 J0 r3 r1.2 ([]:List (Br Tm)) 0
noncomputable def GK {S:Type} (k:Nat) (g:Tm) (c0_0:Int) (c0_1:List Cl) (c0_2 c0_3:Int) (c0_4:ByteArray) (c0_5:List Cl) (c0_6:List Tm) (c0_7:List (Br Tm)) (c0_9 c0_10:Int) (c0_11:ByteArray) (c0_12:List Cl) (c0_13:List Tm) (c0_14:List (Br Tm)) (c0_15 c0_16:Int) (c0_17:ByteArray) (c0_18:List Cl) (c0_19:List Tm) (c0_20:List (Br Tm)) (ret:Int×List (Br Tm)×Int×Int×ByteArray×List Cl×List Tm×List (Br Tm)→Option S):Option S:=PO k ret (fun r3 e0_0 e0_8 v23=>BV k ret c0_1 c0_10 c0_11 c0_12 c0_13 c0_14 c0_15 c0_16 c0_17 c0_18 c0_19 c0_2 c0_20 c0_3 c0_4 c0_5 c0_6 c0_7 c0_9 g r3 k e0_0 e0_8 v23) g c0_0 c0_1 c0_2 c0_3 c0_4 c0_5 c0_6 c0_7 c0_9 c0_10 c0_11 c0_12 c0_13 c0_14 c0_15 c0_16 c0_17 c0_18 c0_19 c0_20
noncomputable def ah0 {S:Type} (k:Nat) (ret:Int×Int×ByteArray→Option S) (a_n:Int):Option S:=
 ret (1,a_n,ByteArray.empty)
noncomputable def GB {S:Type} (k:Nat) (a_n:Int) (ret:Int×Int×ByteArray→Option S):Option S:=ah0 k ret a_n
noncomputable def ahV {S:Type} (k:Nat) (ret:Int×Int×ByteArray×List Tm×Int→Option S) (t a f y:Tm) (c0:Int):Option S:=
 aa k (mL k (ac a) 1 1 c0) fun r1=>
 aa k (mL k (ac y) 1 0 r1.2) fun r2=>
 aa k (mL k (ac f) 1 0 r2.2) fun r3=>
 aa k (GB k 0) fun r4=>
 aa k (fW k 6 [(ac r3.1),(Tm.mk r4.1 r4.2.1 r4.2.2 [] [] [])]) fun r5=>
 aa k (fW k 11 [(ac r1.1),(ac r2.1),(Tm.mk r5.1 r5.2.1 r5.2.2.1 [] r5.2.2.2 [])]) fun r6=>
 aa k (fW k 7 [(ac t),(Tm.mk r6.1 r6.2.1 r6.2.2.1 [] r6.2.2.2 [])]) fun r7=>
 ret (r7.1,r7.2.1,r7.2.2.1,r7.2.2.2,r3.2)
noncomputable def GA {S:Type} (k:Nat) (t a f y:Tm) (c0:Int) (ret:Int×Int×ByteArray×List Tm×Int→Option S):Option S:=ahV k ret t a f y c0
noncomputable def ahN {S:Type} (k:Nat) (ret:Tm×Int→Option S) (t a f y:Tm):Option S:=
 aa k (uR k [(ac t),(ac a),(ac f),(ac y)]) fun r1=>
 c5 k (ac t) fun r2=>
 aa k (GA k (ac r2) (ac a) (ac f) (ac y) r1) fun r3=>
 aa k (mK k (Tm.mk r3.1 r3.2.1 r3.2.2.1 [] r3.2.2.2.1 []) r3.2.2.2.2) fun r4=>
 ret ((ac r4.1),r4.2.1)
noncomputable def Gx {S:Type} (k:Nat) (t a f y:Tm) (ret:Tm×Int→Option S):Option S:=ahN k ret t a f y
def aix {S:Type} (k:Nat) (ret:Tm×Int→Option S) (t a f y:Tm) (c0:Int):Option S:=
 aa k (dA k c0) fun r1=>
 ab (!r1) (
 ret ((Tm.mk 0 0 ByteArray.empty [] [] []),c0)) (
 aa k (Gx k (ac t) (ac a) (ac f) (ac y)) fun r2=>
 aa k (d2 k (ac r2.1) r2.2 c0) fun r3=>
 ret ((ac r3.1),r3.2))
noncomputable def G7 {S:Type} (k:Nat) (t a f y:Tm) (c0:Int) (ret:Tm×Int→Option S):Option S:=aix k ret t a f y c0
noncomputable def ah9 {S:Type} (k:Nat) (ret:Int×Int×ByteArray×List Cl×List Tm×Int→Option S) (a_x c1:Tm) (c2_0:Int) (c2_1:List Cl) (c2_2 c2_3:Int) (c2_4:ByteArray) (c2_5:List Cl) (c2_6:List Tm) (c2_7 c2_8:List (Br Tm)) (c2_9 c2_10:Int) (c2_11:ByteArray) (c2_12:List Cl) (c2_13:List Tm) (c2_14:List (Br Tm)) (c2_15 c2_16:Int) (c2_17:ByteArray) (c2_18:List Cl) (c2_19:List Tm) (c2_20:List (Br Tm)):Option S:=
 aa k (eo k (ac c1) 0 1 c2_0) fun r1=>
 aa k (eo k (ac a_x) 0 1 r1.2) fun r2=>
 aa k (eo k (Tm.mk c2_9 c2_10 c2_11 c2_12 c2_13 c2_14) 0 2 r2.2) fun r3=>
 aa k (co k 12 [(ac r3.1)]) fun r4=>
 aa k (co k 8 [(ac r2.1),(Tm.mk r4.1 r4.2.1 r4.2.2.1 [] r4.2.2.2 [])]) fun r5=>
 aa k (co k 10 [(ac r1.1)]) fun r6=>
 aa k (co k 6 [(Tm.mk r6.1 r6.2.1 r6.2.2.1 [] r6.2.2.2 []),(Tm.mk r5.1 r5.2.1 r5.2.2.1 [] r5.2.2.2 [])]) fun r7=>
 aa k (co k 9 [(ac r1.1)]) fun r8=>
 aa k (gN k 13 [(Cl.mk 1 0)] [(Tm.mk r7.1 r7.2.1 r7.2.2.1 [] r7.2.2.2 []),(Tm.mk r8.1 r8.2.1 r8.2.2.1 [] r8.2.2.2 []),(Tm.mk r5.1 r5.2.1 r5.2.2.1 [] r5.2.2.2 [])]) fun r9=>
 ret (r9.1,r9.2.1,r9.2.2.1,r9.2.2.2.1,r9.2.2.2.2,r3.2)
noncomputable def AD {S:Type} (k:Nat) (a_x c1:Tm) (c2_0:Int) (c2_1:List Cl) (c2_2 c2_3:Int) (c2_4:ByteArray) (c2_5:List Cl) (c2_6:List Tm) (c2_7 c2_8:List (Br Tm)) (c2_9 c2_10:Int) (c2_11:ByteArray) (c2_12:List Cl) (c2_13:List Tm) (c2_14:List (Br Tm)) (c2_15 c2_16:Int) (c2_17:ByteArray) (c2_18:List Cl) (c2_19:List Tm) (c2_20:List (Br Tm)) (ret:Int×Int×ByteArray×List Cl×List Tm×Int→Option S):Option S:=ah9 k ret a_x c1 c2_0 c2_1 c2_2 c2_3 c2_4 c2_5 c2_6 c2_7 c2_8 c2_9 c2_10 c2_11 c2_12 c2_13 c2_14 c2_15 c2_16 c2_17 c2_18 c2_19 c2_20
noncomputable def ah_ {S:Type} (k:Nat) (ret:Int×Int×ByteArray×List Cl×List Tm×Int→Option S) (c2:Tm) (c3_0:Int) (c3_1:List Cl) (c3_2 c3_3:Int) (c3_4:ByteArray) (c3_5:List Cl) (c3_6:List Tm) (c3_7 c3_8:List (Br Tm)) (c3_9 c3_10:Int) (c3_11:ByteArray) (c3_12:List Cl) (c3_13:List Tm) (c3_14:List (Br Tm)) (c3_15 c3_16:Int) (c3_17:ByteArray) (c3_18:List Cl) (c3_19:List Tm) (c3_20:List (Br Tm)):Option S:=
 aa k (AD k (Tm.mk c3_2 c3_3 c3_4 c3_5 c3_6 c3_7) (ac c2) c3_0 c3_1 c3_2 c3_3 c3_4 c3_5 c3_6 c3_7 c3_8 c3_9 c3_10 c3_11 c3_12 c3_13 c3_14 c3_15 c3_16 c3_17 c3_18 c3_19 c3_20) fun r1=>
 ret (r1.1,r1.2.1,r1.2.2.1,r1.2.2.2.1,r1.2.2.2.2.1,r1.2.2.2.2.2)
noncomputable def qy {S:Type} (k:Nat) (c2:Tm) (c3_0:Int) (c3_1:List Cl) (c3_2 c3_3:Int) (c3_4:ByteArray) (c3_5:List Cl) (c3_6:List Tm) (c3_7 c3_8:List (Br Tm)) (c3_9 c3_10:Int) (c3_11:ByteArray) (c3_12:List Cl) (c3_13:List Tm) (c3_14:List (Br Tm)) (c3_15 c3_16:Int) (c3_17:ByteArray) (c3_18:List Cl) (c3_19:List Tm) (c3_20:List (Br Tm)) (ret:Int×Int×ByteArray×List Cl×List Tm×Int→Option S):Option S:=ah_ k ret c2 c3_0 c3_1 c3_2 c3_3 c3_4 c3_5 c3_6 c3_7 c3_8 c3_9 c3_10 c3_11 c3_12 c3_13 c3_14 c3_15 c3_16 c3_17 c3_18 c3_19 c3_20
def aie {S:Type} (k:Nat) (ret:List (Br Tm)×Int→Option S) (c0_0:Int) (c0_1:List Cl) (c0_2 c0_3:Int) (c0_4:ByteArray) (c0_5:List Cl) (c0_6:List Tm) (c0_7 c0_8:List (Br Tm)) (c0_9 c0_10:Int) (c0_11:ByteArray) (c0_12:List Cl) (c0_13:List Tm) (c0_14:List (Br Tm)) (c0_15 c0_16:Int) (c0_17:ByteArray) (c0_18:List Cl) (c0_19:List Tm) (c0_20:List (Br Tm)) (c3:Tm):Option S:=
 ab ((c0_1.length:Int)==0) (
 ret (([]:List (Br Tm)),c0_0)) (
 aa k (qy k (ac c3) c0_0 c0_1 c0_2 c0_3 c0_4 c0_5 c0_6 c0_7 c0_8 c0_9 c0_10 c0_11 c0_12 c0_13 c0_14 c0_15 c0_16 c0_17 c0_18 c0_19 c0_20) fun r1=>
 aa k (dN k c0_1 [(Tm.mk r1.1 r1.2.1 r1.2.2.1 r1.2.2.2.1 r1.2.2.2.2.1 [])]) fun r2=>
 ret ([r2],r1.2.2.2.2.2))
noncomputable def GO {S:Type} (k:Nat) (c0_0:Int) (c0_1:List Cl) (c0_2 c0_3:Int) (c0_4:ByteArray) (c0_5:List Cl) (c0_6:List Tm) (c0_7 c0_8:List (Br Tm)) (c0_9 c0_10:Int) (c0_11:ByteArray) (c0_12:List Cl) (c0_13:List Tm) (c0_14:List (Br Tm)) (c0_15 c0_16:Int) (c0_17:ByteArray) (c0_18:List Cl) (c0_19:List Tm) (c0_20:List (Br Tm)) (c3:Tm) (ret:List (Br Tm)×Int→Option S):Option S:=aie k ret c0_0 c0_1 c0_2 c0_3 c0_4 c0_5 c0_6 c0_7 c0_8 c0_9 c0_10 c0_11 c0_12 c0_13 c0_14 c0_15 c0_16 c0_17 c0_18 c0_19 c0_20 c3
noncomputable def aia {S:Type} (k:Nat) (ret:(Br Tm)×Int→Option S) (b:(Br Tm)) (c2:Tm) (c3_0:Int) (c3_1:List Cl) (c3_2 c3_3:Int) (c3_4:ByteArray) (c3_5:List Cl) (c3_6:List Tm) (c3_7 c3_8:List (Br Tm)) (c3_9 c3_10:Int) (c3_11:ByteArray) (c3_12:List Cl) (c3_13:List Tm) (c3_14:List (Br Tm)) (c3_15 c3_16:Int) (c3_17:ByteArray) (c3_18:List Cl) (c3_19:List Tm) (c3_20:List (Br Tm)):Option S:=
 Option.bind (ah b.kids 0) fun x1=>
 aa k (gN k 14 c3_1 [(ac x1),(Tm.mk c3_2 c3_3 c3_4 c3_5 c3_6 c3_7)]) fun r2=>
 aa k (AD k (Tm.mk r2.1 r2.2.1 r2.2.2.1 r2.2.2.2.1 r2.2.2.2.2 []) (ac c2) c3_0 c3_1 c3_2 c3_3 c3_4 c3_5 c3_6 c3_7 c3_8 c3_9 c3_10 c3_11 c3_12 c3_13 c3_14 c3_15 c3_16 c3_17 c3_18 c3_19 c3_20) fun r3=>
 aa k (dN k b.face [(Tm.mk r3.1 r3.2.1 r3.2.2.1 r3.2.2.2.1 r3.2.2.2.2.1 [])]) fun r4=>
 ret (r4,r3.2.2.2.2.2)
noncomputable def GL {S:Type} (k:Nat) (b:(Br Tm)) (c2:Tm) (c3_0:Int) (c3_1:List Cl) (c3_2 c3_3:Int) (c3_4:ByteArray) (c3_5:List Cl) (c3_6:List Tm) (c3_7 c3_8:List (Br Tm)) (c3_9 c3_10:Int) (c3_11:ByteArray) (c3_12:List Cl) (c3_13:List Tm) (c3_14:List (Br Tm)) (c3_15 c3_16:Int) (c3_17:ByteArray) (c3_18:List Cl) (c3_19:List Tm) (c3_20:List (Br Tm)) (ret:(Br Tm)×Int→Option S):Option S:=aia k ret b c2 c3_0 c3_1 c3_2 c3_3 c3_4 c3_5 c3_6 c3_7 c3_8 c3_9 c3_10 c3_11 c3_12 c3_13 c3_14 c3_15 c3_16 c3_17 c3_18 c3_19 c3_20
def F0 {S:Type} (k:Nat) (ret:List (Br Tm)×Int→Option S) (c2:Tm) (c3_1:List Cl) (c3_10:Int) (c3_11:ByteArray) (c3_12:List Cl) (c3_13:List Tm) (c3_14:List (Br Tm)) (c3_15 c3_16:Int) (c3_17:ByteArray) (c3_18:List Cl) (c3_19:List Tm) (c3_2:Int) (c3_20:List (Br Tm)) (c3_3:Int) (c3_4:ByteArray) (c3_5:List Cl) (c3_6:List Tm) (c3_7 c3_8:List (Br Tm)) (c3_9:Int) (l:List (Br Tm)) (rec0:Int→Int→(List (Br Tm))→Option S) (e3_0 v10:Int) (out5:List (Br Tm)):Option S:=
 ab (decide ((v10:Int)<(l.length:Int))) (
 Option.bind (ah l v10) fun x1=>
 aa k (GL k x1 (ac c2) e3_0 c3_1 c3_2 c3_3 c3_4 c3_5 c3_6 c3_7 c3_8 c3_9 c3_10 c3_11 c3_12 c3_13 c3_14 c3_15 c3_16 c3_17 c3_18 c3_19 c3_20) fun r2=>
 Option.bind (ap 1099511627776 out5.length [r2.1].length) fun x3=>
  rec0 r2.2 (IntKind.wrap .i64 (v10+1)) (out5++[r2.1])) (
 ret (out5,e3_0))
noncomputable def BZ {S:Type} (k:Nat) (ret:List (Br Tm)×Int→Option S) (c2:Tm) (c3_1:List Cl) (c3_10:Int) (c3_11:ByteArray) (c3_12:List Cl) (c3_13:List Tm) (c3_14:List (Br Tm)) (c3_15 c3_16:Int) (c3_17:ByteArray) (c3_18:List Cl) (c3_19:List Tm) (c3_2:Int) (c3_20:List (Br Tm)) (c3_3:Int) (c3_4:ByteArray) (c3_5:List Cl) (c3_6:List Tm) (c3_7 c3_8:List (Br Tm)) (c3_9:Int) (l:List (Br Tm)):Nat→Int→Int→(List (Br Tm))→Option S
 |0=>fun _ _ _=> .none
 |m+1=>fun e3_0 v10 out5=>F0 k ret c2 c3_1 c3_10 c3_11 c3_12 c3_13 c3_14 c3_15 c3_16 c3_17 c3_18 c3_19 c3_2 c3_20 c3_3 c3_4 c3_5 c3_6 c3_7 c3_8 c3_9 l (BZ k ret c2 c3_1 c3_10 c3_11 c3_12 c3_13 c3_14 c3_15 c3_16 c3_17 c3_18 c3_19 c3_2 c3_20 c3_3 c3_4 c3_5 c3_6 c3_7 c3_8 c3_9 l m) e3_0 v10 out5
noncomputable def PS {S:Type} (k:Nat) (ret:List (Br Tm)×Int→Option S) (J0:Int→Int→(List (Br Tm))→Option S) (l:List (Br Tm)) (c2:Tm) (c3_0:Int) (c3_1:List Cl) (c3_2 c3_3:Int) (c3_4:ByteArray) (c3_5:List Cl) (c3_6:List Tm) (c3_7 c3_8:List (Br Tm)) (c3_9 c3_10:Int) (c3_11:ByteArray) (c3_12:List Cl) (c3_13:List Tm) (c3_14:List (Br Tm)) (c3_15 c3_16:Int) (c3_17:ByteArray) (c3_18:List Cl) (c3_19:List Tm) (c3_20:List (Br Tm)):Option S:=
 J0 c3_0 0 ([]:List (Br Tm))
noncomputable def GR {S:Type} (k:Nat) (l:List (Br Tm)) (c2:Tm) (c3_0:Int) (c3_1:List Cl) (c3_2 c3_3:Int) (c3_4:ByteArray) (c3_5:List Cl) (c3_6:List Tm) (c3_7 c3_8:List (Br Tm)) (c3_9 c3_10:Int) (c3_11:ByteArray) (c3_12:List Cl) (c3_13:List Tm) (c3_14:List (Br Tm)) (c3_15 c3_16:Int) (c3_17:ByteArray) (c3_18:List Cl) (c3_19:List Tm) (c3_20:List (Br Tm)) (ret:List (Br Tm)×Int→Option S):Option S:=PS k ret (fun e3_0 v10 out5=>BZ k ret c2 c3_1 c3_10 c3_11 c3_12 c3_13 c3_14 c3_15 c3_16 c3_17 c3_18 c3_19 c3_2 c3_20 c3_3 c3_4 c3_5 c3_6 c3_7 c3_8 c3_9 l k e3_0 v10 out5) l c2 c3_0 c3_1 c3_2 c3_3 c3_4 c3_5 c3_6 c3_7 c3_8 c3_9 c3_10 c3_11 c3_12 c3_13 c3_14 c3_15 c3_16 c3_17 c3_18 c3_19 c3_20
noncomputable def aib {S:Type} (k:Nat) (ret:Int×Int×ByteArray×List Tm×List (Br Tm)×Int→Option S) (t a_e:Tm) (c0_0:Int) (c0_1:List Cl) (c0_2 c0_3:Int) (c0_4:ByteArray) (c0_5:List Cl) (c0_6:List Tm) (c0_7 c0_8:List (Br Tm)) (c0_9 c0_10:Int) (c0_11:ByteArray) (c0_12:List Cl) (c0_13:List Tm) (c0_14:List (Br Tm)) (c0_15 c0_16:Int) (c0_17:ByteArray) (c0_18:List Cl) (c0_19:List Tm) (c0_20:List (Br Tm)):Option S:=
 aa k (co k 10 [(ac a_e)]) fun r1=>
 aa k (co k 6 [(Tm.mk r1.1 r1.2.1 r1.2.2.1 [] r1.2.2.2 []),(Tm.mk c0_9 c0_10 c0_11 c0_12 c0_13 c0_14)]) fun r2=>
 aa k (vi k (ac a_e)) fun r3=>
 aa k (G7 k (ac t) (Tm.mk c0_15 c0_16 c0_17 c0_18 c0_19 c0_20) (Tm.mk r3.1 r3.2.1 r3.2.2.1 [] r3.2.2.2 []) (Tm.mk c0_9 c0_10 c0_11 c0_12 c0_13 c0_14) c0_0) fun r4=>
 aa k (GO k r4.2 c0_1 c0_2 c0_3 c0_4 c0_5 c0_6 c0_7 c0_8 c0_9 c0_10 c0_11 c0_12 c0_13 c0_14 c0_15 c0_16 c0_17 c0_18 c0_19 c0_20 (Tm.mk r2.1 r2.2.1 r2.2.2.1 [] r2.2.2.2 [])) fun r5=>
 aa k (GR k c0_8 (Tm.mk r2.1 r2.2.1 r2.2.2.1 [] r2.2.2.2 []) r5.2 c0_1 c0_2 c0_3 c0_4 c0_5 c0_6 c0_7 c0_8 c0_9 c0_10 c0_11 c0_12 c0_13 c0_14 c0_15 c0_16 c0_17 c0_18 c0_19 c0_20) fun r6=>
 Option.bind (ap 1099511627776 r5.1.length r6.1.length) fun x7=>
 aa k (co k 9 [(Tm.mk r2.1 r2.2.1 r2.2.2.1 [] r2.2.2.2 [])]) fun r8=>
 aa k (mY k 15 (r5.1++r6.1) [(ac r4.1),(Tm.mk r8.1 r8.2.1 r8.2.2.1 [] r8.2.2.2 [])]) fun r9=>
 ret (r9.1,r9.2.1,r9.2.2.1,r9.2.2.2.1,r9.2.2.2.2,r6.2)
noncomputable def GM {S:Type} (k:Nat) (t a_e:Tm) (c0_0:Int) (c0_1:List Cl) (c0_2 c0_3:Int) (c0_4:ByteArray) (c0_5:List Cl) (c0_6:List Tm) (c0_7 c0_8:List (Br Tm)) (c0_9 c0_10:Int) (c0_11:ByteArray) (c0_12:List Cl) (c0_13:List Tm) (c0_14:List (Br Tm)) (c0_15 c0_16:Int) (c0_17:ByteArray) (c0_18:List Cl) (c0_19:List Tm) (c0_20:List (Br Tm)) (ret:Int×Int×ByteArray×List Tm×List (Br Tm)×Int→Option S):Option S:=aib k ret t a_e c0_0 c0_1 c0_2 c0_3 c0_4 c0_5 c0_6 c0_7 c0_8 c0_9 c0_10 c0_11 c0_12 c0_13 c0_14 c0_15 c0_16 c0_17 c0_18 c0_19 c0_20
noncomputable def ah5 {S:Type} (k:Nat) (ret:Int×Int×ByteArray×List Tm×List (Br Tm)×Int→Option S) (b:(Br Tm)) (c1_0:Int) (c1_1:List Cl) (c1_2 c1_3:Int) (c1_4:ByteArray) (c1_5:List Cl) (c1_6:List Tm) (c1_7 c1_8:List (Br Tm)) (c1_9 c1_10:Int) (c1_11:ByteArray) (c1_12:List Cl) (c1_13:List Tm) (c1_14:List (Br Tm)) (c1_15 c1_16:Int) (c1_17:ByteArray) (c1_18:List Cl) (c1_19:List Tm) (c1_20:List (Br Tm)):Option S:=
 Option.bind (ah b.kids 0) fun x1=>
 Option.bind (ah b.kids 1) fun x2=>
 aa k (GM k (ac x1) (ac x2) c1_0 c1_1 c1_2 c1_3 c1_4 c1_5 c1_6 c1_7 c1_8 c1_9 c1_10 c1_11 c1_12 c1_13 c1_14 c1_15 c1_16 c1_17 c1_18 c1_19 c1_20) fun r3=>
 ret (r3.1,r3.2.1,r3.2.2.1,r3.2.2.2.1,r3.2.2.2.2.1,r3.2.2.2.2.2)
noncomputable def GI {S:Type} (k:Nat) (b:(Br Tm)) (c1_0:Int) (c1_1:List Cl) (c1_2 c1_3:Int) (c1_4:ByteArray) (c1_5:List Cl) (c1_6:List Tm) (c1_7 c1_8:List (Br Tm)) (c1_9 c1_10:Int) (c1_11:ByteArray) (c1_12:List Cl) (c1_13:List Tm) (c1_14:List (Br Tm)) (c1_15 c1_16:Int) (c1_17:ByteArray) (c1_18:List Cl) (c1_19:List Tm) (c1_20:List (Br Tm)) (ret:Int×Int×ByteArray×List Tm×List (Br Tm)×Int→Option S):Option S:=ah5 k ret b c1_0 c1_1 c1_2 c1_3 c1_4 c1_5 c1_6 c1_7 c1_8 c1_9 c1_10 c1_11 c1_12 c1_13 c1_14 c1_15 c1_16 c1_17 c1_18 c1_19 c1_20
def FY {S:Type} (k:Nat) (ret:List Tm×Int→Option S) (c1_1:List Cl) (c1_10:Int) (c1_11:ByteArray) (c1_12:List Cl) (c1_13:List Tm) (c1_14:List (Br Tm)) (c1_15 c1_16:Int) (c1_17:ByteArray) (c1_18:List Cl) (c1_19:List Tm) (c1_2:Int) (c1_20:List (Br Tm)) (c1_3:Int) (c1_4:ByteArray) (c1_5:List Cl) (c1_6:List Tm) (c1_7 c1_8:List (Br Tm)) (c1_9:Int) (l:List (Br Tm)) (rec0:Int→Int→(List Tm)→Option S) (e1_0 v10:Int) (out5:List Tm):Option S:=
 ab (decide ((v10:Int)<(l.length:Int))) (
 Option.bind (ah l v10) fun x1=>
 aa k (GI k x1 e1_0 c1_1 c1_2 c1_3 c1_4 c1_5 c1_6 c1_7 c1_8 c1_9 c1_10 c1_11 c1_12 c1_13 c1_14 c1_15 c1_16 c1_17 c1_18 c1_19 c1_20) fun r2=>
 Option.bind (ap 1099511627776 out5.length [(Tm.mk r2.1 r2.2.1 r2.2.2.1 [] r2.2.2.2.1 r2.2.2.2.2.1)].length) fun x3=>
  rec0 r2.2.2.2.2.2 (IntKind.wrap .i64 (v10+1)) (out5++[(Tm.mk r2.1 r2.2.1 r2.2.2.1 [] r2.2.2.2.1 r2.2.2.2.2.1)])) (
 ret (out5,e1_0))
noncomputable def BX {S:Type} (k:Nat) (ret:List Tm×Int→Option S) (c1_1:List Cl) (c1_10:Int) (c1_11:ByteArray) (c1_12:List Cl) (c1_13:List Tm) (c1_14:List (Br Tm)) (c1_15 c1_16:Int) (c1_17:ByteArray) (c1_18:List Cl) (c1_19:List Tm) (c1_2:Int) (c1_20:List (Br Tm)) (c1_3:Int) (c1_4:ByteArray) (c1_5:List Cl) (c1_6:List Tm) (c1_7 c1_8:List (Br Tm)) (c1_9:Int) (l:List (Br Tm)):Nat→Int→Int→(List Tm)→Option S
 |0=>fun _ _ _=> .none
 |m+1=>fun e1_0 v10 out5=>FY k ret c1_1 c1_10 c1_11 c1_12 c1_13 c1_14 c1_15 c1_16 c1_17 c1_18 c1_19 c1_2 c1_20 c1_3 c1_4 c1_5 c1_6 c1_7 c1_8 c1_9 l (BX k ret c1_1 c1_10 c1_11 c1_12 c1_13 c1_14 c1_15 c1_16 c1_17 c1_18 c1_19 c1_2 c1_20 c1_3 c1_4 c1_5 c1_6 c1_7 c1_8 c1_9 l m) e1_0 v10 out5
noncomputable def PQ {S:Type} (k:Nat) (ret:List Tm×Int→Option S) (J0:Int→Int→(List Tm)→Option S) (l:List (Br Tm)) (c1_0:Int) (c1_1:List Cl) (c1_2 c1_3:Int) (c1_4:ByteArray) (c1_5:List Cl) (c1_6:List Tm) (c1_7 c1_8:List (Br Tm)) (c1_9 c1_10:Int) (c1_11:ByteArray) (c1_12:List Cl) (c1_13:List Tm) (c1_14:List (Br Tm)) (c1_15 c1_16:Int) (c1_17:ByteArray) (c1_18:List Cl) (c1_19:List Tm) (c1_20:List (Br Tm)):Option S:=
 J0 c1_0 0 ([]:List Tm)
noncomputable def AF {S:Type} (k:Nat) (l:List (Br Tm)) (c1_0:Int) (c1_1:List Cl) (c1_2 c1_3:Int) (c1_4:ByteArray) (c1_5:List Cl) (c1_6:List Tm) (c1_7 c1_8:List (Br Tm)) (c1_9 c1_10:Int) (c1_11:ByteArray) (c1_12:List Cl) (c1_13:List Tm) (c1_14:List (Br Tm)) (c1_15 c1_16:Int) (c1_17:ByteArray) (c1_18:List Cl) (c1_19:List Tm) (c1_20:List (Br Tm)) (ret:List Tm×Int→Option S):Option S:=PQ k ret (fun e1_0 v10 out5=>BX k ret c1_1 c1_10 c1_11 c1_12 c1_13 c1_14 c1_15 c1_16 c1_17 c1_18 c1_19 c1_2 c1_20 c1_3 c1_4 c1_5 c1_6 c1_7 c1_8 c1_9 l k e1_0 v10 out5) l c1_0 c1_1 c1_2 c1_3 c1_4 c1_5 c1_6 c1_7 c1_8 c1_9 c1_10 c1_11 c1_12 c1_13 c1_14 c1_15 c1_16 c1_17 c1_18 c1_19 c1_20
noncomputable def ah6 {S:Type} (k:Nat) (ret:Tm×Int→Option S) (c1_0:Int) (c1_1:List Cl) (c1_2 c1_3:Int) (c1_4:ByteArray) (c1_5:List Cl) (c1_6:List Tm) (c1_7 c1_8:List (Br Tm)) (c1_9 c1_10:Int) (c1_11:ByteArray) (c1_12:List Cl) (c1_13:List Tm) (c1_14:List (Br Tm)) (c1_15 c1_16:Int) (c1_17:ByteArray) (c1_18:List Cl) (c1_19:List Tm) (c1_20:List (Br Tm)):Option S:=
 aa k (eo k (Tm.mk c1_9 c1_10 c1_11 c1_12 c1_13 c1_14) 0 1 c1_0) fun r1=>
 ret ((ac r1.1),r1.2)
noncomputable def qw {S:Type} (k:Nat) (c1_0:Int) (c1_1:List Cl) (c1_2 c1_3:Int) (c1_4:ByteArray) (c1_5:List Cl) (c1_6:List Tm) (c1_7 c1_8:List (Br Tm)) (c1_9 c1_10:Int) (c1_11:ByteArray) (c1_12:List Cl) (c1_13:List Tm) (c1_14:List (Br Tm)) (c1_15 c1_16:Int) (c1_17:ByteArray) (c1_18:List Cl) (c1_19:List Tm) (c1_20:List (Br Tm)) (ret:Tm×Int→Option S):Option S:=ah6 k ret c1_0 c1_1 c1_2 c1_3 c1_4 c1_5 c1_6 c1_7 c1_8 c1_9 c1_10 c1_11 c1_12 c1_13 c1_14 c1_15 c1_16 c1_17 c1_18 c1_19 c1_20
def aid {S:Type} (k:Nat) (ret:List (Br Tm)×Int→Option S) (c0_0:Int) (c0_1:List Cl) (c0_2 c0_3:Int) (c0_4:ByteArray) (c0_5:List Cl) (c0_6:List Tm) (c0_7 c0_8:List (Br Tm)) (c0_9 c0_10:Int) (c0_11:ByteArray) (c0_12:List Cl) (c0_13:List Tm) (c0_14:List (Br Tm)) (c0_15 c0_16:Int) (c0_17:ByteArray) (c0_18:List Cl) (c0_19:List Tm) (c0_20:List (Br Tm)):Option S:=
 ab ((c0_1.length:Int)==0) (
 ret (([]:List (Br Tm)),c0_0)) (
 aa k (qw k c0_0 c0_1 c0_2 c0_3 c0_4 c0_5 c0_6 c0_7 c0_8 c0_9 c0_10 c0_11 c0_12 c0_13 c0_14 c0_15 c0_16 c0_17 c0_18 c0_19 c0_20) fun r1=>
 aa k (dN k c0_1 [(ac r1.1)]) fun r2=>
 ret ([r2],r1.2))
noncomputable def AE {S:Type} (k:Nat) (c0_0:Int) (c0_1:List Cl) (c0_2 c0_3:Int) (c0_4:ByteArray) (c0_5:List Cl) (c0_6:List Tm) (c0_7 c0_8:List (Br Tm)) (c0_9 c0_10:Int) (c0_11:ByteArray) (c0_12:List Cl) (c0_13:List Tm) (c0_14:List (Br Tm)) (c0_15 c0_16:Int) (c0_17:ByteArray) (c0_18:List Cl) (c0_19:List Tm) (c0_20:List (Br Tm)) (ret:List (Br Tm)×Int→Option S):Option S:=aid k ret c0_0 c0_1 c0_2 c0_3 c0_4 c0_5 c0_6 c0_7 c0_8 c0_9 c0_10 c0_11 c0_12 c0_13 c0_14 c0_15 c0_16 c0_17 c0_18 c0_19 c0_20
def FV {S:Type} (k:Nat) (ret:Tm×Bool×Int→Option S) (r3:Tm) (r6:Int×List (Br Tm)×Int×Int×ByteArray×List Cl×List Tm×List (Br Tm)) (x4:Tm) (r8:Tm×Int) (rec0:Int→Int→Int→ByteArray→(List Cl)→(List Tm)→(List (Br Tm))→(List (Br Tm))→Int→(List Tm)→(List (Br Tm))→Option S) (b43_0 b43_15 b43_16:Int) (b43_17:ByteArray) (b43_18:List Cl) (b43_19:List Tm) (b43_20 parts10:List (Br Tm)) (v79:Int) (ws8:List Tm) (sys9:List (Br Tm)):Option S:=
 ab (decide ((v79:Int)<(r8.1.sys.length:Int))) (
 Option.bind (ah r8.1.sys v79) fun x12=>
 Option.bind (ah ws8 v79) fun x13=>
 Option.bind (ah ws8 v79) fun x14=>
 aa k (eo k (ac x14) 0 1 b43_0) fun r15=>
 aa k (eo k (Tm.mk r6.2.2.1 r6.2.2.2.1 r6.2.2.2.2.1 r6.2.2.2.2.2.1 r6.2.2.2.2.2.2.1 r6.2.2.2.2.2.2.2) 0 1 r15.2) fun r16=>
 Option.bind (ah x12.kids 1) fun x17=>
 aa k (eo k (ac x17) 0 1 r16.2) fun r18=>
 aa k (vi k (ac r18.1)) fun r19=>
 aa k (co k 9 [(ac r15.1)]) fun r20=>
 aa k (co k 6 [(Tm.mk r19.1 r19.2.1 r19.2.2.1 [] r19.2.2.2 []),(Tm.mk r20.1 r20.2.1 r20.2.2.1 [] r20.2.2.2 [])]) fun r21=>
 aa k (co k 10 [(ac r15.1)]) fun r22=>
 aa k (gN k 13 [(Cl.mk 1 0)] [(Tm.mk r22.1 r22.2.1 r22.2.2.1 [] r22.2.2.2 []),(ac r16.1),(Tm.mk r21.1 r21.2.1 r21.2.2.1 [] r21.2.2.2 [])]) fun r23=>
 aa k (dN k x12.face [(Tm.mk r23.1 r23.2.1 r23.2.2.1 r23.2.2.2.1 r23.2.2.2.2 [])]) fun r24=>
 Option.bind (ap 1099511627776 sys9.length [r24].length) fun x25=>
 Option.bind (ah ws8 v79) fun x26=>
 Option.bind (ah ws8 v79) fun x27=>
 aa k (co k 9 [(ac x27)]) fun r28=>
 aa k (dN k x12.face [(Tm.mk r28.1 r28.2.1 r28.2.2.1 [] r28.2.2.2 [])]) fun r29=>
 Option.bind (ap 1099511627776 parts10.length [r29].length) fun x30=>
  rec0 r18.2 b43_15 b43_16 b43_17 b43_18 b43_19 b43_20 (parts10++[r29]) (IntKind.wrap .i64 (v79+1)) ws8 (sys9++[r24])) (
 aa k (mY k 15 sys9 [(Tm.mk b43_15 b43_16 b43_17 b43_18 b43_19 b43_20),(Tm.mk r6.2.2.1 r6.2.2.2.1 r6.2.2.2.2.1 r6.2.2.2.2.2.1 r6.2.2.2.2.2.2.1 r6.2.2.2.2.2.2.2)]) fun r31=>
 aa k (mY k 17 parts10 [(Tm.mk r31.1 r31.2.1 r31.2.2.1 [] r31.2.2.2.1 r31.2.2.2.2)]) fun r32=>
 aa k (fY k (Tm.mk r32.1 r32.2.1 r32.2.2.1 [] r32.2.2.2.1 r32.2.2.2.2) b43_0) fun r33=>
 ret ((ac r33.1),r33.2.1,r33.2.2.1))
noncomputable def BU {S:Type} (k:Nat) (ret:Tm×Bool×Int→Option S) (r3:Tm) (r6:Int×List (Br Tm)×Int×Int×ByteArray×List Cl×List Tm×List (Br Tm)) (x4:Tm) (r8:Tm×Int):Nat→Int→Int→Int→ByteArray→(List Cl)→(List Tm)→(List (Br Tm))→(List (Br Tm))→Int→(List Tm)→(List (Br Tm))→Option S
 |0=>fun _ _ _ _ _ _ _ _ _ _ _=> .none
 |m+1=>fun b43_0 b43_15 b43_16 b43_17 b43_18 b43_19 b43_20 parts10 v79 ws8 sys9=>FV k ret r3 r6 x4 r8 (BU k ret r3 r6 x4 r8 m) b43_0 b43_15 b43_16 b43_17 b43_18 b43_19 b43_20 parts10 v79 ws8 sys9
def PN {S:Type} (k:Nat) (ret:Tm×Bool×Int→Option S) (J0:Tm→(Int×List (Br Tm)×Int×Int×ByteArray×List Cl×List Tm×List (Br Tm))→Tm→(Tm×Int)→Int→Int→Int→ByteArray→(List Cl)→(List Tm)→(List (Br Tm))→(List (Br Tm))→Int→(List Tm)→(List (Br Tm))→Option S) (t:Tm):Option S:=
 aa k (d3 k (ac t)) fun r1=>
 ab (!(r1==0)) (
 ret ((Tm.mk 0 0 ByteArray.empty [] [] []),false,r1)) (
 ab (!(t.kind==14)) (
  ret ((Tm.mk 0 0 ByteArray.empty [] [] []),false,0)) (
  Option.bind (ah t.kids 0) fun x2=>
  ab (!(x2.kind==16)) (
  ret ((Tm.mk 0 0 ByteArray.empty [] [] []),false,0)) (
  c5 k (ac t) fun r3=>
  Option.bind (ah r3.kids 1) fun x4=>
  Option.bind (ah r3.kids 0) fun x5=>
  aa k (GK k (ac x5) 0 r3.r x4.kind x4.n x4.name x4.r x4.kids x4.sys 0 0 ByteArray.empty [] [] [] 0 0 ByteArray.empty [] [] []) fun r6=>
  Option.bind (ah r3.kids 0) fun x7=>
  aa k (AG k (ac x7) r6.1) fun r8=>
  ab ((r8.1.kids.length:Int)==1) (
   Option.bind (ah r8.1.kids 0) fun x9=>
   aa k (AF k r8.1.sys r8.2 r3.r x4.kind x4.n x4.name x4.r x4.kids x4.sys r6.2.1 r6.2.2.1 r6.2.2.2.1 r6.2.2.2.2.1 r6.2.2.2.2.2.1 r6.2.2.2.2.2.2.1 r6.2.2.2.2.2.2.2 x9.kind x9.n x9.name x9.r x9.kids x9.sys) fun r10=>
   aa k (AE k r10.2 r3.r x4.kind x4.n x4.name x4.r x4.kids x4.sys r6.2.1 r6.2.2.1 r6.2.2.2.1 r6.2.2.2.2.1 r6.2.2.2.2.2.1 r6.2.2.2.2.2.2.1 r6.2.2.2.2.2.2.2 x9.kind x9.n x9.name x9.r x9.kids x9.sys) fun r11=>
     J0 r3 r6 x4 r8 r11.2 x9.kind x9.n x9.name x9.r x9.kids x9.sys ([]:List (Br Tm)) 0 r10.1 r11.1) (
   aa k (AF k r8.1.sys r8.2 r3.r x4.kind x4.n x4.name x4.r x4.kids x4.sys r6.2.1 r6.2.2.1 r6.2.2.2.1 r6.2.2.2.2.1 r6.2.2.2.2.2.1 r6.2.2.2.2.2.2.1 r6.2.2.2.2.2.2.2 0 0 ByteArray.empty [] [] []) fun r34=>
   aa k (AE k r34.2 r3.r x4.kind x4.n x4.name x4.r x4.kids x4.sys r6.2.1 r6.2.2.1 r6.2.2.2.1 r6.2.2.2.2.1 r6.2.2.2.2.2.1 r6.2.2.2.2.2.2.1 r6.2.2.2.2.2.2.2 0 0 ByteArray.empty [] [] []) fun r35=>
     J0 r3 r6 x4 r8 r35.2 0 0 ByteArray.empty [] [] [] ([]:List (Br Tm)) 0 r34.1 r35.1))))
noncomputable def GH {S:Type} (k:Nat) (t:Tm) (ret:Tm×Bool×Int→Option S):Option S:=PN k ret (fun r3 r6 x4 r8 b43_0 b43_15 b43_16 b43_17 b43_18 b43_19 b43_20 parts10 v79 ws8 sys9=>BU k ret r3 r6 x4 r8 k b43_0 b43_15 b43_16 b43_17 b43_18 b43_19 b43_20 parts10 v79 ws8 sys9) t
def aiQ {S:Type} (k:Nat) (ret:Tm×Bool×Int→Option S) (t:Tm):Option S:=
 aa k (d3 k (ac t)) fun r1=>
 ab (!(r1==0)) (
 ret ((Tm.mk 0 0 ByteArray.empty [] [] []),false,r1)) (
 ab (!(t.kind==14)) (
  ret ((Tm.mk 0 0 ByteArray.empty [] [] []),false,0)) (
  c5 k (ac t) fun r2=>
  Option.bind (ah r2.kids 1) fun x3=>
  Option.bind (ah r2.kids 0) fun x4=>
  ab (x4.kind==3) (
  aa k (fY k (ac x3) 0) fun r5=>
  ret ((ac r5.1),r5.2.1,r5.2.2.1)) (
  ab (x4.kind==19) (
   aa k (fY k (ac x3) 0) fun r6=>
   ret ((ac r6.1),r6.2.1,r6.2.2.1)) (
   ab (x4.kind==4) (
   aa k (He k (ac x4) 0 r2.r x3.kind x3.n x3.name x3.r x3.kids x3.sys) fun r7=>
   aa k (fY k (Tm.mk r7.1 r7.2.1 r7.2.2.1 [] r7.2.2.2.1 []) r7.2.2.2.2) fun r8=>
   ret ((ac r8.1),r8.2.1,r8.2.2.1)) (
   ab (x4.kind==7) (
    aa k (Hf k (ac x4) 0 r2.r x3.kind x3.n x3.name x3.r x3.kids x3.sys) fun r9=>
    aa k (fY k (Tm.mk r9.1 r9.2.1 r9.2.2.1 [] r9.2.2.2.1 []) r9.2.2.2.2) fun r10=>
    ret ((ac r10.1),r10.2.1,r10.2.2.1)) (
    ab (x4.kind==11) (
    aa k (Hc k (ac x4) 0 r2.r x3.kind x3.n x3.name x3.r x3.kids x3.sys) fun r11=>
    aa k (fY k (Tm.mk r11.1 r11.2.1 r11.2.2.1 [] r11.2.2.2.1 []) r11.2.2.2.2) fun r12=>
    ret ((ac r12.1),r12.2.1,r12.2.2.1)) (
    ab (x4.kind==23) (
     aa k (GV k (ac r2)) fun r13=>
     ret ((ac r13.1),r13.2.1,r13.2.2)) (
     ab (x4.kind==16) (
     aa k (GH k (ac r2)) fun r14=>
     ret ((ac r14.1),r14.2.1,r14.2.2)) (
     ret ((Tm.mk 0 0 ByteArray.empty [] [] []),false,0))))))))))
noncomputable def AW {S:Type} (k:Nat) (t:Tm) (ret:Tm×Bool×Int→Option S):Option S:=aiQ k ret t
def mC {S:Type} (k:Nat) (ret:Bool→Option S) (a b:List Cl) (rec0:Int→Option S) (i5:Int):Option S:=
 ab (decide ((i5:Int)<(a.length:Int))) (
 Option.bind (ah a i5) fun x1=>
 Option.bind (ah b i5) fun x2=>
 ab (!((x1.pos==x2.pos)&&((x1.neg==x2.neg)&&true))) (
  ret false) (
   rec0 (IntKind.wrap .i64 (i5+1)))) (
 ret true)
noncomputable def i_ {S:Type} (k:Nat) (ret:Bool→Option S) (a b:List Cl):Nat→Int→Option S
 |0=>fun _=> .none
 |m+1=>fun i5=>mC k ret a b (i_ k ret a b m) i5
def yy {S:Type} (k:Nat) (ret:Bool→Option S) (J0:Int→Option S) (a b:List Cl):Option S:=
 ab (!((a.length:Int)==(b.length:Int))) (
 ret false) (
  J0 0)
noncomputable def jJ {S:Type} (k:Nat) (a b:List Cl) (ret:Bool→Option S):Option S:=yy k ret (fun i5=>i_ k ret a b k i5) a b
abbrev dZ (S:Type):=Tm→Tm→(Bool→Option S)→Option S
def uy {S:Type} (hd:dZ S) (k:Nat) (ret:Bool→Option S) (a b:List Tm) (rec0:Int→Option S) (i5:Int):Option S:=
 ab (decide ((i5:Int)<(a.length:Int))) (
 Option.bind (ah a i5) fun x1=>
 Option.bind (ah b i5) fun x2=>
 hd (ac x1) (ac x2) fun r3=>
 ab (!r3) (
  ret false) (
   rec0 (IntKind.wrap .i64 (i5+1)))) (
 ret true)
noncomputable def oa {S:Type} (hd:dZ S) (k:Nat) (ret:Bool→Option S) (a b:List Tm):Nat→Int→Option S
 |0=>fun _=> .none
 |m+1=>fun i5=>uy hd k ret a b (oa hd k ret a b m) i5
def Fa {S:Type} (hd:dZ S) (k:Nat) (ret:Bool→Option S) (J0:Int→Option S) (a b:List Tm):Option S:=
 ab (!((a.length:Int)==(b.length:Int))) (
 ret false) (
  J0 0)
noncomputable def qK {S:Type} (hd:dZ S) (k:Nat) (a b:List Tm) (ret:Bool→Option S):Option S:=Fa hd k ret (fun i5=>oa hd k ret a b k i5) a b
def uw {S:Type} (hd:dZ S) (k:Nat) (ret:Bool→Option S) (a b:Tm) (rec0:Int→Option S) (i5:Int):Option S:=
 ab (decide ((i5:Int)<(a.sys.length:Int))) (
 Option.bind (ah a.sys i5) fun x3=>
 Option.bind (ah b.sys i5) fun x4=>
 aa k (jJ k x3.face x4.face) fun r5=>
 ab (!r5) (
  ret false) (
  Option.bind (ah a.sys i5) fun x6=>
  Option.bind (ah b.sys i5) fun x7=>
  aa k (qK hd k x6.kids x7.kids) fun r8=>
  ab (!r8) (
  ret false) (
    rec0 (IntKind.wrap .i64 (i5+1))))) (
 ret true)
noncomputable def n9 {S:Type} (hd:dZ S) (k:Nat) (ret:Bool→Option S) (a b:Tm):Nat→Int→Option S
 |0=>fun _=> .none
 |m+1=>fun i5=>uw hd k ret a b (n9 hd k ret a b m) i5
def E9 {S:Type} (hd:dZ S) (k:Nat) (ret:Bool→Option S) (J0:Int→Option S) (a b:Tm):Option S:=
 ab (!(a.kind==b.kind)) (
 ret false) (
 ab (!(a.n==b.n)) (
  ret false) (
  ab (!(a.name==b.name)) (
  ret false) (
  aa k (jJ k a.r b.r) fun r1=>
  ab (!r1) (
   ret false) (
   aa k (qK hd k a.kids b.kids) fun r2=>
   ab (!r2) (
   ret false) (
   ab (!((a.sys.length:Int)==(b.sys.length:Int))) (
    ret false) (
       J0 0))))))
noncomputable def dO {S:Type}:Nat→Tm→Tm→(Bool→Option S)→Option S
 |0=>fun _ _ _=> .none
 |k+1=>fun a b ret=>E9 (dO k) k ret (fun i5=>n9 (dO k) k ret a b k i5) a b
def aik {S:Type} (k:Nat) (ret:Bool→Option S):Option S:=
 aa k (eQ k 3 ([]:List Tm)) fun r1=>
 aa k (eQ k 1 ([]:List Tm)) fun r2=>
 aa k (eQ k 19 ([]:List Tm)) fun r3=>
 aa k (eQ k 20 ([]:List Tm)) fun r4=>
 aa k (eQ k 14 [(Tm.mk r3.1 r3.2.1 r3.2.2.1 [] r3.2.2.2 []),(Tm.mk r4.1 r4.2.1 r4.2.2.1 [] r4.2.2.2 [])]) fun r5=>
 aa k (AW k (Tm.mk r5.1 r5.2.1 r5.2.2.1 [] r5.2.2.2 [])) fun r6=>
 aa k (eQ k 7 [(Tm.mk r1.1 r1.2.1 r1.2.2.1 [] r1.2.2.2 []),(Tm.mk r1.1 r1.2.1 r1.2.2.1 [] r1.2.2.2 [])]) fun r7=>
 aa k (eQ k 14 [(Tm.mk r7.1 r7.2.1 r7.2.2.1 [] r7.2.2.2 []),(Tm.mk r2.1 r2.2.1 r2.2.2.1 [] r2.2.2.2 [])]) fun r8=>
 aa k (AW k (Tm.mk r8.1 r8.2.1 r8.2.2.1 [] r8.2.2.2 [])) fun r9=>
 aa k (eQ k 9 [(Tm.mk r2.1 r2.2.1 r2.2.2.1 [] r2.2.2.2 [])]) fun r10=>
 aa k (eQ k 14 [(Tm.mk r1.1 r1.2.1 r1.2.2.1 [] r1.2.2.2 []),(Tm.mk r10.1 r10.2.1 r10.2.2.1 [] r10.2.2.2 [])]) fun r11=>
 aa k (eQ k 10 [(Tm.mk r2.1 r2.2.1 r2.2.2.1 [] r2.2.2.2 [])]) fun r12=>
 aa k (eQ k 14 [(Tm.mk r1.1 r1.2.1 r1.2.2.1 [] r1.2.2.2 []),(Tm.mk r12.1 r12.2.1 r12.2.2.1 [] r12.2.2.2 [])]) fun r13=>
 aa k (eQ k 8 [(Tm.mk r11.1 r11.2.1 r11.2.2.1 [] r11.2.2.2 []),(Tm.mk r13.1 r13.2.1 r13.2.2.1 [] r13.2.2.2 [])]) fun r14=>
 ab (r6.2.1) (
 ab (r6.2.2==0) (
  ab (r6.1.kind==20) (
  ab (r9.2.1) (
   ab (r9.2.2==0) (
   dO k (ac r9.1) (Tm.mk r14.1 r14.2.1 r14.2.2.1 [] r14.2.2.2 []) fun r15=>
   ret r15) (
   ret false)) (
   ret false)) (
  ret false)) (
  ret false)) (
 ret false)
noncomputable def qz {S:Type} (k:Nat) (ret:Bool→Option S):Option S:=aik k ret
abbrev fP (S:Type):=Tm→(Tm→Option S)→Option S
def ut {S:Type} (hd:fP S) (k:Nat) (ret:Tm→Option S) (t:Tm) (b3_4:List Tm) (b3_5:List (Br Tm)) (x5:(Br Tm)) (i5:Int) (rec1:(List (Br Tm))→Int→Option S) (rec2:(List Tm)→Int→Option S) (b6_1:List Tm) (v7:Int):Option S:=
 Option.bind (ah t.sys i5) fun x7=>
 ab (decide ((v7:Int)<(x7.kids.length:Int))) (
 Option.bind (ah t.sys i5) fun x8=>
 Option.bind (ah x8.kids v7) fun x9=>
 hd (ac x9) fun r10=>
 Option.bind (ap 1099511627776 b6_1.length [(ac r10)].length) fun x11=>
  rec2 (b6_1++[(ac r10)]) (IntKind.wrap .i64 (v7+1))) (
 Option.bind (ap 1099511627776 b3_5.length [(Br.mk (([]:List Cl)++x5.face) b6_1)].length) fun x12=>
  rec1 (b3_5++[(Br.mk (([]:List Cl)++x5.face) b6_1)]) (IntKind.wrap .i64 (i5+1)))
noncomputable def lN {S:Type} (hd:fP S) (k:Nat) (ret:Tm→Option S) (rec1:(List (Br Tm))→Int→Option S) (t:Tm) (b3_4:List Tm) (b3_5:List (Br Tm)) (x5:(Br Tm)) (i5:Int):Nat→(List Tm)→Int→Option S
 |0=>fun _ _=> .none
 |m+1=>fun b6_1 v7=>ut hd k ret t b3_4 b3_5 x5 i5 rec1 (lN hd k ret rec1 t b3_4 b3_5 x5 i5 m) b6_1 v7
def pN {S:Type} (hd:fP S) (k:Nat) (ret:Tm→Option S) (t:Tm) (b3_4:List Tm) (J2:(List (Br Tm))→(Br Tm)→Int→(List Tm)→Int→Option S) (rec1:(List (Br Tm))→Int→Option S) (b3_5:List (Br Tm)) (i5:Int):Option S:=
 ab (decide ((i5:Int)<(t.sys.length:Int))) (
 Option.bind (ah t.sys i5) fun x5=>
 Option.bind (ap 1099511627776 ([]:List Cl).length x5.face.length) fun x6=>
  J2 b3_5 x5 i5 ([]:List Tm) 0) (
 ret (Tm.mk t.kind t.n t.name (([]:List Cl)++t.r) b3_4 b3_5))
noncomputable def jc {S:Type} (hd:fP S) (k:Nat) (ret:Tm→Option S) (t:Tm) (b3_4:List Tm):Nat→(List (Br Tm))→Int→Option S
 |0=>fun _ _=> .none
 |m+1=>fun b3_5 i5=>pN hd k ret t b3_4 (fun b3_5 x5 i5 b6_1 v7=>lN hd k ret (jc hd k ret t b3_4 m) t b3_4 b3_5 x5 i5 k b6_1 v7) (jc hd k ret t b3_4 m) b3_5 i5
def pM {S:Type} (hd:fP S) (k:Nat) (ret:Tm→Option S) (t:Tm) (J1:(List Tm)→(List (Br Tm))→Int→Option S) (rec0:(List Tm)→Int→Option S) (b3_4:List Tm) (i4:Int):Option S:=
 ab (decide ((i4:Int)<(t.kids.length:Int))) (
 Option.bind (ah t.kids i4) fun x2=>
 hd (ac x2) fun r3=>
 Option.bind (ap 1099511627776 b3_4.length [(ac r3)].length) fun x4=>
  rec0 (b3_4++[(ac r3)]) (IntKind.wrap .i64 (i4+1))) (
  J1 b3_4 ([]:List (Br Tm)) 0)
noncomputable def n8 {S:Type} (hd:fP S) (k:Nat) (ret:Tm→Option S) (t:Tm):Nat→(List Tm)→Int→Option S
 |0=>fun _ _=> .none
 |m+1=>fun b3_4 i4=>pM hd k ret t (fun b3_4 b3_5 i5=>jc hd k ret t b3_4 k b3_5 i5) (n8 hd k ret t m) b3_4 i4
noncomputable def E7 {S:Type} (hd:fP S) (k:Nat) (ret:Tm→Option S) (J0:(List Tm)→Int→Option S) (t:Tm):Option S:=
 Option.bind (ap 1099511627776 ([]:List Cl).length t.r.length) fun x1=>
 J0 ([]:List Tm) 0
noncomputable def gS {S:Type}:Nat→Tm→(Tm→Option S)→Option S
 |0=>fun _ _=> .none
 |k+1=>fun t ret=>E7 (gS k) k ret (fun b3_4 i4=>n8 (gS k) k ret t k b3_4 i4) t
abbrev fQ (S:Type):=Tm→(Int→Option S)→Option S
def uu {S:Type} (hd:fQ S) (k:Nat) (ret:Int→Option S) (t:Tm) (i6:Int) (rec1:Int→Int→Option S) (rec2:Int→Int→Option S) (most3'' v7:Int):Option S:=
 Option.bind (ah t.sys i6) fun x3=>
 ab (decide ((v7:Int)<(x3.kids.length:Int))) (
 Option.bind (ah t.sys i6) fun x4=>
 Option.bind (ah x4.kids v7) fun x5=>
 hd (ac x5) fun r6=>
 ab (decide ((r6:Int)>most3'')) (
   rec2 r6 (IntKind.wrap .i64 (v7+1))) (
   rec2 most3'' (IntKind.wrap .i64 (v7+1)))) (
  rec1 most3'' (IntKind.wrap .i64 (i6+1)))
noncomputable def ke {S:Type} (hd:fQ S) (k:Nat) (ret:Int→Option S) (rec1:Int→Int→Option S) (t:Tm) (i6:Int):Nat→Int→Int→Option S
 |0=>fun _ _=> .none
 |m+1=>fun most3'' v7=>uu hd k ret t i6 rec1 (ke hd k ret rec1 t i6 m) most3'' v7
def pP {S:Type} (hd:fQ S) (k:Nat) (ret:Int→Option S) (t:Tm) (J2:Int→Int→Int→Option S) (rec1:Int→Int→Option S) (most3' i6:Int):Option S:=
 ab (decide ((i6:Int)<(t.sys.length:Int))) (
  J2 i6 most3' 0) (
 ret (IntKind.wrap .i64 (most3'+1)))
noncomputable def jd {S:Type} (hd:fQ S) (k:Nat) (ret:Int→Option S) (t:Tm):Nat→Int→Int→Option S
 |0=>fun _ _=> .none
 |m+1=>fun most3' i6=>pP hd k ret t (fun i6 most3'' v7=>ke hd k ret (jd hd k ret t m) t i6 k most3'' v7) (jd hd k ret t m) most3' i6
def pO {S:Type} (hd:fQ S) (k:Nat) (ret:Int→Option S) (t:Tm) (J1:Int→Int→Option S) (rec0:Int→Int→Option S) (most3 i4:Int):Option S:=
 ab (decide ((i4:Int)<(t.kids.length:Int))) (
 Option.bind (ah t.kids i4) fun x1=>
 hd (ac x1) fun r2=>
 ab (decide ((r2:Int)>most3)) (
   rec0 r2 (IntKind.wrap .i64 (i4+1))) (
   rec0 most3 (IntKind.wrap .i64 (i4+1)))) (
  J1 most3 0)
noncomputable def lO {S:Type} (hd:fQ S) (k:Nat) (ret:Int→Option S) (t:Tm):Nat→Int→Int→Option S
 |0=>fun _ _=> .none
 |m+1=>fun most3 i4=>pO hd k ret t (fun most3' i6=>jd hd k ret t k most3' i6) (lO hd k ret t m) most3 i4
noncomputable def E8 {S:Type} (hd:fQ S) (k:Nat) (ret:Int→Option S) (J0:Int→Int→Option S) (t:Tm):Option S:=
 J0 0 0
noncomputable def gT {S:Type}:Nat→Tm→(Int→Option S)→Option S
 |0=>fun _ _=> .none
 |k+1=>fun t ret=>E8 (gT k) k ret (fun most3 i4=>lO (gT k) k ret t k most3 i4) t
abbrev fR (S:Type):=Tm→(Int→Option S)→Option S
def ux {S:Type} (hd:fR S) (k:Nat) (ret:Int→Option S) (t:Tm) (i5:Int) (rec1:Int→Int→Option S) (rec2:Int→Int→Option S) (v3'' v6:Int):Option S:=
 Option.bind (ah t.sys i5) fun x3=>
 ab (decide ((v6:Int)<(x3.kids.length:Int))) (
 Option.bind (ah t.sys i5) fun x4=>
 Option.bind (ah x4.kids v6) fun x5=>
 hd (ac x5) fun r6=>
  rec2 (IntKind.wrap .i64 (v3''+r6)) (IntKind.wrap .i64 (v6+1))) (
  rec1 v3'' (IntKind.wrap .i64 (i5+1)))
noncomputable def lP {S:Type} (hd:fR S) (k:Nat) (ret:Int→Option S) (rec1:Int→Int→Option S) (t:Tm) (i5:Int):Nat→Int→Int→Option S
 |0=>fun _ _=> .none
 |m+1=>fun v3'' v6=>ux hd k ret t i5 rec1 (lP hd k ret rec1 t i5 m) v3'' v6
def pR {S:Type} (hd:fR S) (k:Nat) (ret:Int→Option S) (t:Tm) (J2:Int→Int→Int→Option S) (rec1:Int→Int→Option S) (v3' i5:Int):Option S:=
 ab (decide ((i5:Int)<(t.sys.length:Int))) (
  J2 i5 v3' 0) (
 ret v3')
noncomputable def je {S:Type} (hd:fR S) (k:Nat) (ret:Int→Option S) (t:Tm):Nat→Int→Int→Option S
 |0=>fun _ _=> .none
 |m+1=>fun v3' i5=>pR hd k ret t (fun i5 v3'' v6=>lP hd k ret (je hd k ret t m) t i5 k v3'' v6) (je hd k ret t m) v3' i5
def pQ {S:Type} (hd:fR S) (k:Nat) (ret:Int→Option S) (t:Tm) (J1:Int→Int→Option S) (rec0:Int→Int→Option S) (v3 i4:Int):Option S:=
 ab (decide ((i4:Int)<(t.kids.length:Int))) (
 Option.bind (ah t.kids i4) fun x1=>
 hd (ac x1) fun r2=>
  rec0 (IntKind.wrap .i64 (v3+r2)) (IntKind.wrap .i64 (i4+1))) (
  J1 v3 0)
noncomputable def n_ {S:Type} (hd:fR S) (k:Nat) (ret:Int→Option S) (t:Tm):Nat→Int→Int→Option S
 |0=>fun _ _=> .none
 |m+1=>fun v3 i4=>pQ hd k ret t (fun v3' i5=>je hd k ret t k v3' i5) (n_ hd k ret t m) v3 i4
noncomputable def E_ {S:Type} (hd:fR S) (k:Nat) (ret:Int→Option S) (J0:Int→Int→Option S) (t:Tm):Option S:=
 J0 1 0
noncomputable def gU {S:Type}:Nat→Tm→(Int→Option S)→Option S
 |0=>fun _ _=> .none
 |k+1=>fun t ret=>E_ (gU k) k ret (fun v3 i4=>n_ (gU k) k ret t k v3 i4) t
def Qr {S:Type} (k:Nat) (ret:Int→Option S) (t:Tm):Option S:=
 gT k (ac t) fun r1=>
 ab (decide ((r1:Int)>200)) (
 ret 62) (
 gU k (ac t) fun r2=>
 ab (decide ((r2:Int)>20000)) (
  ret 221) (
  ret 0))
noncomputable def vC {S:Type} (k:Nat) (t:Tm) (ret:Int→Option S):Option S:=Qr k ret t
def Qn {S:Type} (k:Nat) (ret:Int→Option S) (kind:Int):Option S:=
 ab (decide ((kind:Int)<0)) (
 ret (-1)) (
 ab (decide ((kind:Int)>28)) (
  ret (-1)) (
  Option.bind (bv (0≤kind∧kind<(29:Int))) fun x1=>
  Option.bind (ah [(-1),0,0,0,2,1,2,2,2,1,1,3,1,3,2,2,1,1,1,0,0,0,4,1,0,0,1,5,2] kind) fun x2=>
  ret x2))
noncomputable def qJ {S:Type} (k:Nat) (kind:Int) (ret:Int→Option S):Option S:=Qn k ret kind
def Qp {S:Type} (k:Nat) (ret:Int→Option S) (kind:Int):Option S:=
 ab (kind==16) (
 ret 2) (
 ab (kind==15) (
  ret 1) (
  ab (kind==17) (
  ret 1) (
  ab (kind==18) (
   ret 1) (
   ret 0))))
noncomputable def na {S:Type} (k:Nat) (kind:Int) (ret:Int→Option S):Option S:=Qp k ret kind
def zX {S:Type} (k:Nat) (ret:Bool→Option S) (s:ByteArray) (i3:Int) (x1:UInt8) (rec0:Int→Option S):Option S:=
 ab (!((x1.toNat:Int)==95)) (
 ab (decide (((x1.toNat:Int):Int)<97)) (
  ab (decide (((x1.toNat:Int):Int)<65)) (
  ret false) (
  ab (decide (((x1.toNat:Int):Int)>90)) (
   ret false) (
     rec0 (IntKind.wrap .i64 (i3+1))))) (
  ab (decide (((x1.toNat:Int):Int)>122)) (
  ab (decide (((x1.toNat:Int):Int)<65)) (
   ret false) (
   ab (decide (((x1.toNat:Int):Int)>90)) (
   ret false) (
      rec0 (IntKind.wrap .i64 (i3+1))))) (
    rec0 (IntKind.wrap .i64 (i3+1))))) (
  rec0 (IntKind.wrap .i64 (i3+1)))
noncomputable def wO {S:Type} (k:Nat) (ret:Bool→Option S) (rec0:Int→Option S) (s:ByteArray) (i3:Int) (x1:UInt8):Nat→Option S
 |0=> .none
 |_+1=>zX k ret s i3 x1 rec0
def pS {S:Type} (k:Nat) (ret:Bool→Option S) (s:ByteArray) (J1:Int→UInt8→Option S) (rec0:Int→Option S) (i3:Int):Option S:=
 ab (decide ((i3:Int)<(s.size:Int))) (
 Option.bind (ah s.data.toList i3) fun x1=>
 ab (decide (((x1.toNat:Int):Int)≥48)) (
  ab (decide (((x1.toNat:Int):Int)≤57)) (
  ab (decide ((i3:Int)>0)) (
     rec0 (IntKind.wrap .i64 (i3+1))) (
     J1 i3 x1)) (
    J1 i3 x1)) (
   J1 i3 x1)) (
 ret (decide (((s.size:Int):Int)>0)))
noncomputable def lQ {S:Type} (k:Nat) (ret:Bool→Option S) (s:ByteArray):Nat→Int→Option S
 |0=>fun _=> .none
 |m+1=>fun i3=>pS k ret s (fun i3 x1=>wO k ret (lQ k ret s m) s i3 x1 k) (lQ k ret s m) i3
noncomputable def Fb {S:Type} (k:Nat) (ret:Bool→Option S) (J0:Int→Option S) (s:ByteArray):Option S:=
 J0 0
noncomputable def vB {S:Type} (k:Nat) (s:ByteArray) (ret:Bool→Option S):Option S:=Fb k ret (fun i3=>lQ k ret s k i3) s
def t7 {S:Type} (k:Nat) (ret:Int→Option S) (a_n:Int) (rec0:Int→Int→Option S) (p3 i4:Int):Option S:=
 ab (decide ((i4:Int)<a_n)) (
  rec0 (IntKind.wrap .i64 (p3*2)) (IntKind.wrap .i64 (i4+1))) (
 ret p3)
noncomputable def nR {S:Type} (k:Nat) (ret:Int→Option S) (a_n:Int):Nat→Int→Int→Option S
 |0=>fun _ _=> .none
 |m+1=>fun p3 i4=>t7 k ret a_n (nR k ret a_n m) p3 i4
noncomputable def EO {S:Type} (k:Nat) (ret:Int→Option S) (J0:Int→Int→Option S) (a_n:Int):Option S:=
 J0 1 0
noncomputable def m6 {S:Type} (k:Nat) (a_n:Int) (ret:Int→Option S):Option S:=EO k ret (fun p3 i4=>nR k ret a_n k p3 i4) a_n
noncomputable def Qa {S:Type} (k:Nat) (ret:Bool→Option S) (s:Int):Option S:=
 aa k (m6 k 24) fun r1=>
 ret (decide ((IntKind.wrap .i64 s:Int)<r1))
noncomputable def m0 {S:Type} (k:Nat) (s:Int) (ret:Bool→Option S):Option S:=Qa k ret s
def Qg {S:Type} (k:Nat) (ret:Bool→Option S) (c:Cl):Option S:=
 aa k (m0 k c.pos) fun r1=>
 ab (r1) (
 aa k (m0 k c.neg) fun r2=>
 ret r2) (
 ret false)
noncomputable def qE {S:Type} (k:Nat) (c:Cl) (ret:Bool→Option S):Option S:=Qg k ret c
def Qc {S:Type} (k:Nat) (ret:Bool→Option S) (a b:Cl):Option S:=
 ab ((aL .or .u32 a.pos b.pos)==a.pos) (
 ret ((aL .or .u32 a.neg b.neg)==a.neg)) (
 ret false)
noncomputable def vo {S:Type} (k:Nat) (a b:Cl) (ret:Bool→Option S):Option S:=Qc k ret a b
def ua {S:Type} (k:Nat) (ret:Bool→Option S) (c:Cl) (l:List Cl) (rec0:Int→Option S) (i5:Int):Option S:=
 ab (decide ((i5:Int)<(l.length:Int))) (
 Option.bind (ah l i5) fun x1=>
 ab (!((x1.pos==c.pos)&&((x1.neg==c.neg)&&true))) (
  Option.bind (ah l i5) fun x2=>
  aa k (vo k c x2) fun r3=>
  ab (r3) (
  ret false) (
    rec0 (IntKind.wrap .i64 (i5+1)))) (
   rec0 (IntKind.wrap .i64 (i5+1)))) (
 ret true)
noncomputable def nU {S:Type} (k:Nat) (ret:Bool→Option S) (c:Cl) (l:List Cl):Nat→Int→Option S
 |0=>fun _=> .none
 |m+1=>fun i5=>ua k ret c l (nU k ret c l m) i5
noncomputable def ER {S:Type} (k:Nat) (ret:Bool→Option S) (J0:Int→Option S) (l:List Cl) (c:Cl):Option S:=
 J0 0
noncomputable def vt {S:Type} (k:Nat) (l:List Cl) (c:Cl) (ret:Bool→Option S):Option S:=ER k ret (fun i5=>nU k ret c l k i5) l c
def Qd {S:Type} (k:Nat) (ret:Bool→Option S) (a b:Cl):Option S:=
 ab (decide ((a.pos:Int)<b.pos)) (
 ret true) (
 ab (a.pos==b.pos) (
  ret (decide ((a.neg:Int)<b.neg))) (
  ret false))
noncomputable def vq {S:Type} (k:Nat) (a b:Cl) (ret:Bool→Option S):Option S:=Qd k ret a b
def t_ {S:Type} (k:Nat) (ret:List Cl×Int→Option S) (l out5:List Cl) (i6:Int) (rec1:(List Cl)→Int→Option S) (rec2:Int→Option S) (v7:Int):Option S:=
 ab (decide ((v7:Int)<(out5.length:Int))) (
 Option.bind (ah out5 v7) fun x5=>
 Option.bind (ah out5 v7) fun x6=>
 Option.bind (ah l i6) fun x7=>
 aa k (vq k x6 x7) fun r8=>
 ab (r8) (
   rec2 (IntKind.wrap .i64 (v7+1))) (
  ab (v7==(out5.length:Int)) (
  Option.bind (bv (0≤v7∧v7≤(out5.length:Int))) fun x9=>
  Option.bind (ap 1099511627776 ([]:List Cl).length (List.take (Int.toNat v7) out5).length) fun x10=>
  Option.bind (ah l i6) fun x11=>
  Option.bind (ap 1099511627776 (([]:List Cl)++(List.take (Int.toNat v7) out5)).length [x11].length) fun x12=>
  Option.bind (bv (0≤v7∧v7≤(out5.length:Int))) fun x13=>
  Option.bind (ap 1099511627776 ((([]:List Cl)++(List.take (Int.toNat v7) out5))++[x11]).length (List.drop (Int.toNat v7) out5).length) fun x14=>
    rec1 (((([]:List Cl)++(List.take (Int.toNat v7) out5))++[x11])++(List.drop (Int.toNat v7) out5)) (IntKind.wrap .i64 (i6+1))) (
  Option.bind (ah out5 v7) fun x15=>
  Option.bind (ah out5 v7) fun x16=>
  Option.bind (ah l i6) fun x17=>
  ab (!((x16.pos==x17.pos)&&((x16.neg==x17.neg)&&true))) (
   Option.bind (bv (0≤v7∧v7≤(out5.length:Int))) fun x18=>
   Option.bind (ap 1099511627776 ([]:List Cl).length (List.take (Int.toNat v7) out5).length) fun x19=>
   Option.bind (ah l i6) fun x20=>
   Option.bind (ap 1099511627776 (([]:List Cl)++(List.take (Int.toNat v7) out5)).length [x20].length) fun x21=>
   Option.bind (bv (0≤v7∧v7≤(out5.length:Int))) fun x22=>
   Option.bind (ap 1099511627776 ((([]:List Cl)++(List.take (Int.toNat v7) out5))++[x20]).length (List.drop (Int.toNat v7) out5).length) fun x23=>
     rec1 (((([]:List Cl)++(List.take (Int.toNat v7) out5))++[x20])++(List.drop (Int.toNat v7) out5)) (IntKind.wrap .i64 (i6+1))) (
     rec1 out5 (IntKind.wrap .i64 (i6+1)))))) (
 ab (v7==(out5.length:Int)) (
  Option.bind (bv (0≤v7∧v7≤(out5.length:Int))) fun x24=>
  Option.bind (ap 1099511627776 ([]:List Cl).length (List.take (Int.toNat v7) out5).length) fun x25=>
  Option.bind (ah l i6) fun x26=>
  Option.bind (ap 1099511627776 (([]:List Cl)++(List.take (Int.toNat v7) out5)).length [x26].length) fun x27=>
  Option.bind (bv (0≤v7∧v7≤(out5.length:Int))) fun x28=>
  Option.bind (ap 1099511627776 ((([]:List Cl)++(List.take (Int.toNat v7) out5))++[x26]).length (List.drop (Int.toNat v7) out5).length) fun x29=>
   rec1 (((([]:List Cl)++(List.take (Int.toNat v7) out5))++[x26])++(List.drop (Int.toNat v7) out5)) (IntKind.wrap .i64 (i6+1))) (
  Option.bind (ah out5 v7) fun x30=>
  Option.bind (ah out5 v7) fun x31=>
  Option.bind (ah l i6) fun x32=>
  ab (!((x31.pos==x32.pos)&&((x31.neg==x32.neg)&&true))) (
  Option.bind (bv (0≤v7∧v7≤(out5.length:Int))) fun x33=>
  Option.bind (ap 1099511627776 ([]:List Cl).length (List.take (Int.toNat v7) out5).length) fun x34=>
  Option.bind (ah l i6) fun x35=>
  Option.bind (ap 1099511627776 (([]:List Cl)++(List.take (Int.toNat v7) out5)).length [x35].length) fun x36=>
  Option.bind (bv (0≤v7∧v7≤(out5.length:Int))) fun x37=>
  Option.bind (ap 1099511627776 ((([]:List Cl)++(List.take (Int.toNat v7) out5))++[x35]).length (List.drop (Int.toNat v7) out5).length) fun x38=>
    rec1 (((([]:List Cl)++(List.take (Int.toNat v7) out5))++[x35])++(List.drop (Int.toNat v7) out5)) (IntKind.wrap .i64 (i6+1))) (
    rec1 out5 (IntKind.wrap .i64 (i6+1)))))
noncomputable def lG {S:Type} (k:Nat) (ret:List Cl×Int→Option S) (rec1:(List Cl)→Int→Option S) (l out5:List Cl) (i6:Int):Nat→Int→Option S
 |0=>fun _=> .none
 |m+1=>fun v7=>t_ k ret l out5 i6 rec1 (lG k ret rec1 l out5 i6 m) v7
def pA {S:Type} (k:Nat) (ret:List Cl×Int→Option S) (l:List Cl) (J2:(List Cl)→Int→Int→Option S) (rec1:(List Cl)→Int→Option S) (out5:List Cl) (i6:Int):Option S:=
 ab (decide ((i6:Int)<(l.length:Int))) (
 Option.bind (ah l i6) fun x3=>
 aa k (vt k l x3) fun r4=>
 ab (!r4) (
   rec1 out5 (IntKind.wrap .i64 (i6+1))) (
   J2 out5 i6 0)) (
 ab (decide (((out5.length:Int):Int)>64)) (
  ret (([]:List Cl),3)) (
  ret (out5,0)))
noncomputable def i8 {S:Type} (k:Nat) (ret:List Cl×Int→Option S) (l:List Cl):Nat→(List Cl)→Int→Option S
 |0=>fun _ _=> .none
 |m+1=>fun out5 i6=>pA k ret l (fun out5 i6 v7=>lG k ret (i8 k ret l m) l out5 i6 k v7) (i8 k ret l m) out5 i6
def pz {S:Type} (k:Nat) (ret:List Cl×Int→Option S) (l:List Cl) (J1:(List Cl)→Int→Option S) (rec0:Int→Option S) (i4:Int):Option S:=
 ab (decide ((i4:Int)<(l.length:Int))) (
 Option.bind (ah l i4) fun x1=>
 aa k (qE k x1) fun r2=>
 ab (!r2) (
  ret (([]:List Cl),2)) (
   rec0 (IntKind.wrap .i64 (i4+1)))) (
  J1 ([]:List Cl) 0)
noncomputable def nT {S:Type} (k:Nat) (ret:List Cl×Int→Option S) (l:List Cl):Nat→Int→Option S
 |0=>fun _=> .none
 |m+1=>fun i4=>pz k ret l (fun out5 i6=>i8 k ret l k out5 i6) (nT k ret l m) i4
noncomputable def EQ {S:Type} (k:Nat) (ret:List Cl×Int→Option S) (J0:Int→Option S) (l:List Cl):Option S:=
 J0 0
noncomputable def gQ {S:Type} (k:Nat) (l:List Cl) (ret:List Cl×Int→Option S):Option S:=EQ k ret (fun i4=>nT k ret l k i4) l
def Qi {S:Type} (k:Nat) (ret:Bool→Option S) (f:List Cl):Option S:=
 aa k (gQ k f) fun r1=>
 ab (r1.2==0) (
 aa k (jJ k r1.1 f) fun r2=>
 ret r2) (
 ret false)
noncomputable def dH {S:Type} (k:Nat) (f:List Cl) (ret:Bool→Option S):Option S:=Qi k ret f
def P_ {S:Type} (k:Nat) (ret:Bool→Option S) (s i:Int):Option S:=
 ab (decide ((i:Int)≥0)) (
 ab (decide ((i:Int)<24)) (
  aa k (m6 k i) fun r1=>
  Option.bind (bv (r1≠0)) fun x2=>
  ret ((Int.tmod (IntKind.wrap .i64 (Int.tdiv (IntKind.wrap .i64 s) r1)) 2)==1)) (
  ret false)) (
 ret false)
noncomputable def dp {S:Type} (k:Nat) (s i:Int) (ret:Bool→Option S):Option S:=P_ k ret s i
def tZ {S:Type} (k:Nat) (ret:Int→Option S) (l:List Int) (rec0:Int→Int→Option S) (v3 i4:Int):Option S:=
 ab (decide ((i4:Int)<(l.length:Int))) (
 Option.bind (ah l i4) fun x1=>
 aa k (m6 k x1) fun r2=>
  rec0 (IntKind.wrap .i64 (v3+r2)) (IntKind.wrap .i64 (i4+1))) (
 ret (IntKind.wrap .u32 v3))
noncomputable def nP {S:Type} (k:Nat) (ret:Int→Option S) (l:List Int):Nat→Int→Int→Option S
 |0=>fun _ _=> .none
 |m+1=>fun v3 i4=>tZ k ret l (nP k ret l m) v3 i4
noncomputable def EK {S:Type} (k:Nat) (ret:Int→Option S) (J0:Int→Int→Option S) (l:List Int):Option S:=
 J0 0 0
noncomputable def gP {S:Type} (k:Nat) (l:List Int) (ret:Int→Option S):Option S:=EK k ret (fun v3 i4=>nP k ret l k v3 i4) l
def uc {S:Type} (k:Nat) (ret:Int→Option S) (f:List Cl) (l3:List Int) (i4:Int) (rec0:(List Int)→Int→Option S) (rec1:Bool→Int→Option S) (v5:Bool) (v6:Int):Option S:=
 ab (decide ((v6:Int)<(f.length:Int))) (
 ab (v5) (
   rec1 true (IntKind.wrap .i64 (v6+1))) (
  Option.bind (ah f v6) fun x1=>
  aa k (dp k x1.pos i4) fun r2=>
  ab (r2) (
    rec1 true (IntKind.wrap .i64 (v6+1))) (
  Option.bind (ah f v6) fun x3=>
  aa k (dp k x3.neg i4) fun r4=>
    rec1 r4 (IntKind.wrap .i64 (v6+1))))) (
 ab (v5) (
  Option.bind (ap 1099511627776 l3.length [i4].length) fun x5=>
   rec0 (l3++[i4]) (IntKind.wrap .i64 (i4+1))) (
   rec0 l3 (IntKind.wrap .i64 (i4+1))))
noncomputable def lH {S:Type} (k:Nat) (ret:Int→Option S) (rec0:(List Int)→Int→Option S) (f:List Cl) (l3:List Int) (i4:Int):Nat→Bool→Int→Option S
 |0=>fun _ _=> .none
 |m+1=>fun v5 v6=>uc k ret f l3 i4 rec0 (lH k ret rec0 f l3 i4 m) v5 v6
def pB {S:Type} (k:Nat) (ret:Int→Option S) (f:List Cl) (J1:(List Int)→Int→Bool→Int→Option S) (rec0:(List Int)→Int→Option S) (l3:List Int) (i4:Int):Option S:=
 ab (decide ((i4:Int)<24)) (
  J1 l3 i4 false 0) (
 aa k (gP k l3) fun r6=>
 ret r6)
noncomputable def j7 {S:Type} (k:Nat) (ret:Int→Option S) (f:List Cl):Nat→(List Int)→Int→Option S
 |0=>fun _ _=> .none
 |m+1=>fun l3 i4=>pB k ret f (fun l3 i4 v5 v6=>lH k ret (j7 k ret f m) f l3 i4 k v5 v6) (j7 k ret f m) l3 i4
noncomputable def EU {S:Type} (k:Nat) (ret:Int→Option S) (J0:(List Int)→Int→Option S) (f:List Cl):Option S:=
 J0 ([]:List Int) 0
noncomputable def qG {S:Type} (k:Nat) (f:List Cl) (ret:Int→Option S):Option S:=EU k ret (fun l3 i4=>j7 k ret f k l3 i4) f
def zU {S:Type} (k:Nat) (ret:List Int→Option S) (s:Int) (rec0:(List Int)→Int→Option S) (out3:List Int) (i4:Int):Option S:=
 ab (decide ((i4:Int)<24)) (
 aa k (dp k s i4) fun r1=>
 ab (r1) (
  Option.bind (ap 1099511627776 out3.length [i4].length) fun x2=>
   rec0 (out3++[i4]) (IntKind.wrap .i64 (i4+1))) (
   rec0 out3 (IntKind.wrap .i64 (i4+1)))) (
 ret out3)
noncomputable def rz {S:Type} (k:Nat) (ret:List Int→Option S) (s:Int):Nat→(List Int)→Int→Option S
 |0=>fun _ _=> .none
 |m+1=>fun out3 i4=>zU k ret s (rz k ret s m) out3 i4
noncomputable def EJ {S:Type} (k:Nat) (ret:List Int→Option S) (J0:(List Int)→Int→Option S) (s:Int):Option S:=
 J0 ([]:List Int) 0
noncomputable def gO {S:Type} (k:Nat) (s:Int) (ret:List Int→Option S):Option S:=EJ k ret (fun out3 i4=>rz k ret s k out3 i4) s
def Qq {S:Type} (k:Nat) (ret:Bool→Option S) (f:List Cl) (dims:Int):Option S:=
 aa k (qG k f) fun r1=>
 aa k (gO k r1) fun r2=>
 ab ((r2.length:Int)==0) (
 ret true) (
 Option.bind (ah r2 (IntKind.wrap .i64 ((r2.length:Int)-1))) fun x3=>
 Option.bind (ah r2 (IntKind.wrap .i64 ((r2.length:Int)-1))) fun x4=>
 ret (decide ((x4:Int)<dims)))
noncomputable def qL {S:Type} (k:Nat) (f:List Cl) (dims:Int) (ret:Bool→Option S):Option S:=Qq k ret f dims
def zW {S:Type} (k:Nat) (ret:Int×Int→Option S) (kind kid:Int):Option S:=
 ab (kid==0) (
 ab (kind==11) (
  ret (0,1)) (
  ab (kind==12) (
  ret (0,1)) (
  ab (kind==14) (
   ret (0,1)) (
   ret (0,0))))) (
 ret (0,0))
noncomputable def wN {S:Type} (k:Nat) (ret:Int×Int→Option S) (kind kid:Int):Nat→Option S
 |0=> .none
 |_+1=>zW k ret kind kid
def uq {S:Type} (k:Nat) (ret:Int×Int→Option S) (kind kid:Int) (J1:Option S):Option S:=
 ab (kid==0) (
 ab (kind==5) (
  ret (1,0)) (
  ab (kind==22) (
  ret (1,0)) (
  ab (kind==27) (
   ret (1,0)) (
     J1)))) (
  J1)
noncomputable def B4 {S:Type} (k:Nat) (ret:Int×Int→Option S) (kind kid:Int):Nat→Option S
 |0=> .none
 |_+1=>uq k ret kind kid (wN k ret kind kid k)
def E5 {S:Type} (k:Nat) (ret:Int×Int→Option S) (J0:Option S) (kind kid:Int):Option S:=
 ab (kid==1) (
 ab (kind==4) (
  ret (1,0)) (
  ab (kind==7) (
  ret (1,0)) (
    J0))) (
  J0)
noncomputable def m9 {S:Type} (k:Nat) (kind kid:Int) (ret:Int×Int→Option S):Option S:=E5 k ret (B4 k ret kind kid k) kind kid
def t8 {S:Type} (k:Nat) (ret:Bool→Option S) (c:Cl) (rec0:Int→Option S) (i3:Int):Option S:=
 ab (decide ((i3:Int)<24)) (
 aa k (dp k c.pos i3) fun r1=>
 ab (r1) (
  aa k (dp k c.neg i3) fun r2=>
  ab (r2) (
  ret true) (
    rec0 (IntKind.wrap .i64 (i3+1)))) (
   rec0 (IntKind.wrap .i64 (i3+1)))) (
 ret false)
noncomputable def nS {S:Type} (k:Nat) (ret:Bool→Option S) (c:Cl):Nat→Int→Option S
 |0=>fun _=> .none
 |m+1=>fun i3=>t8 k ret c (nS k ret c m) i3
noncomputable def EP {S:Type} (k:Nat) (ret:Bool→Option S) (J0:Int→Option S) (c:Cl):Option S:=
 J0 0
noncomputable def qC {S:Type} (k:Nat) (c:Cl) (ret:Bool→Option S):Option S:=EP k ret (fun i3=>nS k ret c k i3) c
def uk {S:Type} (k:Nat) (ret:Bool→Option S) (f:List Cl) (rec0:Int→Option S) (i3:Int):Option S:=
 ab (decide ((i3:Int)<(f.length:Int))) (
 Option.bind (ah f i3) fun x2=>
 aa k (qC k x2) fun r3=>
 ab (r3) (
  ret false) (
   rec0 (IntKind.wrap .i64 (i3+1)))) (
 ret true)
noncomputable def n1 {S:Type} (k:Nat) (ret:Bool→Option S) (f:List Cl):Nat→Int→Option S
 |0=>fun _=> .none
 |m+1=>fun i3=>uk k ret f (n1 k ret f m) i3
def E2 {S:Type} (k:Nat) (ret:Bool→Option S) (J0:Int→Option S) (f:List Cl):Option S:=
 aa k (dH k f) fun r1=>
 ab (!r1) (
 ret false) (
  J0 0)
noncomputable def gR {S:Type} (k:Nat) (f:List Cl) (ret:Bool→Option S):Option S:=E2 k ret (fun i3=>n1 k ret f k i3) f
def Qo {S:Type} (k:Nat) (ret:Int→Option S) (kind:Int):Option S:=
 ab (kind==15) (
 ret 1) (
 ret 0)
noncomputable def m_ {S:Type} (k:Nat) (kind:Int) (ret:Int→Option S):Option S:=Qo k ret kind
abbrev dj (S:Type):=Tm→Int→Int→Bool→(Bool→Option S)→Option S
def up {S:Type} (hd:dj S) (k:Nat) (ret:Bool→Option S) (x11:(Br Tm)) (t:Tm) (vars i12 dims:Int) (bound:Bool) (rec5:Int→Option S) (rec6:Int→Option S) (v14:Int):Option S:=
 ab (decide ((v14:Int)<(x11.kids.length:Int))) (
 Option.bind (ah x11.kids v14) fun x15=>
 aa k (m_ k t.kind) fun r16=>
 hd (ac x15) vars (IntKind.wrap .i64 (dims+r16)) bound fun r17=>
 ab (!r17) (
  ret false) (
   rec6 (IntKind.wrap .i64 (v14+1)))) (
  rec5 (IntKind.wrap .i64 (i12+1)))
noncomputable def kc {S:Type} (hd:dj S) (k:Nat) (ret:Bool→Option S) (rec5:Int→Option S) (x11:(Br Tm)) (t:Tm) (vars i12 dims:Int) (bound:Bool):Nat→Int→Option S
 |0=>fun _=> .none
 |m+1=>fun v14=>up hd k ret x11 t vars i12 dims bound rec5 (kc hd k ret rec5 x11 t vars i12 dims bound m) v14
def pJ {S:Type} (hd:dj S) (k:Nat) (ret:Bool→Option S) (t:Tm) (vars dims:Int) (bound:Bool) (J6:(Br Tm)→Int→Int→Option S) (rec5:Int→Option S) (i12:Int):Option S:=
 ab (decide ((i12:Int)<(t.sys.length:Int))) (
 Option.bind (ah t.sys i12) fun x11=>
 aa k (na k t.kind) fun r12=>
 ab (!((x11.kids.length:Int)==r12)) (
  ret false) (
  aa k (gR k x11.face) fun r13=>
  ab (!r13) (
  ret false) (
  aa k (qL k x11.face dims) fun r14=>
  ab (!r14) (
   ret false) (
     J6 x11 i12 0)))) (
 ret true)
noncomputable def gf {S:Type} (hd:dj S) (k:Nat) (ret:Bool→Option S) (t:Tm) (vars dims:Int) (bound:Bool):Nat→Int→Option S
 |0=>fun _=> .none
 |m+1=>fun i12=>pJ hd k ret t vars dims bound (fun x11 i12 v14=>kc hd k ret (gf hd k ret t vars dims bound m) x11 t vars i12 dims bound k v14) (gf hd k ret t vars dims bound m) i12
def pI {S:Type} (hd:dj S) (k:Nat) (ret:Bool→Option S) (t:Tm) (vars dims:Int) (bound:Bool) (J5:Int→Option S) (rec4:Int→Option S) (i9:Int):Option S:=
 ab (decide ((i9:Int)<(t.kids.length:Int))) (
 aa k (m9 k t.kind i9) fun r6=>
 ab (decide ((vars:Int)<0)) (
  Option.bind (ah t.kids i9) fun x7=>
  hd (ac x7) (IntKind.wrap .i64 (vars+0)) (IntKind.wrap .i64 (dims+r6.2)) bound fun r8=>
  ab (!r8) (
  ret false) (
    rec4 (IntKind.wrap .i64 (i9+1)))) (
  Option.bind (ah t.kids i9) fun x9=>
  hd (ac x9) (IntKind.wrap .i64 (vars+r6.1)) (IntKind.wrap .i64 (dims+r6.2)) bound fun r10=>
  ab (!r10) (
  ret false) (
    rec4 (IntKind.wrap .i64 (i9+1))))) (
  J5 0)
noncomputable def ja {S:Type} (hd:dj S) (k:Nat) (ret:Bool→Option S) (t:Tm) (vars dims:Int) (bound:Bool):Nat→Int→Option S
 |0=>fun _=> .none
 |m+1=>fun i9=>pI hd k ret t vars dims bound (fun i12=>gf hd k ret t vars dims bound k i12) (ja hd k ret t vars dims bound m) i9
def uo {S:Type} (hd:dj S) (k:Nat) (ret:Bool→Option S) (t:Tm) (vars dims:Int) (bound:Bool) (J4:Int→Option S):Option S:=
 aa k (qL k t.r dims) fun r5=>
 ab (!r5) (
 ret false) (
  J4 0)
noncomputable def n7 {S:Type} (hd:dj S) (k:Nat) (ret:Bool→Option S) (t:Tm) (vars dims:Int) (bound:Bool):Nat→Option S
 |0=> .none
 |_+1=>uo hd k ret t vars dims bound (fun i9=>ja hd k ret t vars dims bound k i9)
def pH {S:Type} (hd:dj S) (k:Nat) (ret:Bool→Option S) (t:Tm) (vars dims:Int) (bound:Bool) (J3:Option S):Option S:=
 ab (t.kind==13) (
 aa k (dH k t.r) fun r4=>
 ab (!r4) (
  ret false) (
   J3)) (
 ab (t.kind==21) (
  aa k (dH k t.r) fun r18=>
  ab (!r18) (
  ret false) (
    J3)) (
  ab (t.kind==26) (
  aa k (dH k t.r) fun r19=>
  ab (!r19) (
   ret false) (
     J3)) (
  ab (t.kind==14) (
   aa k (gR k t.r) fun r20=>
   ab (!r20) (
   ret false) (
      J3)) (
   ab (decide (((t.r.length:Int):Int)>0)) (
   ret false) (
      J3)))))
noncomputable def n5 {S:Type} (hd:dj S) (k:Nat) (ret:Bool→Option S) (t:Tm) (vars dims:Int) (bound:Bool):Nat→Option S
 |0=> .none
 |_+1=>pH hd k ret t vars dims bound (n7 hd k ret t vars dims bound k)
def pG {S:Type} (hd:dj S) (k:Nat) (ret:Bool→Option S) (t:Tm) (vars dims:Int) (bound:Bool) (J2:Option S):Option S:=
 ab (t.kind==2) (
 aa k (vB k t.name) fun r3=>
 ab (!r3) (
  ret false) (
  ab (!(t.kind==2)) (
  ab (!(t.name==ByteArray.empty)) (
   ret false) (
     J2)) (
    J2))) (
 ab (!(t.kind==2)) (
  ab (!(t.name==ByteArray.empty)) (
  ret false) (
    J2)) (
   J2))
noncomputable def rA {S:Type} (hd:dj S) (k:Nat) (ret:Bool→Option S) (t:Tm) (vars dims:Int) (bound:Bool):Nat→Option S
 |0=> .none
 |_+1=>pG hd k ret t vars dims bound (n5 hd k ret t vars dims bound k)
def um {S:Type} (hd:dj S) (k:Nat) (ret:Bool→Option S) (t:Tm) (vars dims:Int) (bound:Bool) (J1:Option S):Option S:=
 ab (t.kind==1) (
 ab (decide ((t.n:Int)<0)) (
  ret false) (
  ab (decide ((vars:Int)≥0)) (
  ab (decide ((t.n:Int)≥vars)) (
   ret false) (
     J1)) (
    J1))) (
 ab (!(t.n==0)) (
  ret false) (
   J1))
noncomputable def wM {S:Type} (hd:dj S) (k:Nat) (ret:Bool→Option S) (t:Tm) (vars dims:Int) (bound:Bool):Nat→Option S
 |0=> .none
 |_+1=>um hd k ret t vars dims bound (rA hd k ret t vars dims bound k)
def E4 {S:Type} (hd:dj S) (k:Nat) (ret:Bool→Option S) (J0:Option S) (t:Tm) (vars dims:Int) (bound:Bool):Option S:=
 ab (bound) (
 ab (decide ((dims:Int)>24)) (
  ret false) (
  aa k (qJ k t.kind) fun r1=>
  ab (!(r1==(t.kids.length:Int))) (
  ret false) (
  ab (decide (((t.sys.length:Int):Int)>0)) (
   aa k (na k t.kind) fun r2=>
   ab (r2==0) (
   ret false) (
      J0)) (
     J0)))) (
 aa k (qJ k t.kind) fun r21=>
 ab (!(r21==(t.kids.length:Int))) (
  ret false) (
  ab (decide (((t.sys.length:Int):Int)>0)) (
  aa k (na k t.kind) fun r22=>
  ab (r22==0) (
   ret false) (
     J0)) (
    J0)))
noncomputable def cq {S:Type}:Nat→Tm→Int→Int→Bool→(Bool→Option S)→Option S
 |0=>fun _ _ _ _ _=> .none
 |k+1=>fun t vars dims bound ret=>E4 (cq k) k ret (wM (cq k) k ret t vars dims bound k) t vars dims bound
def Qm {S:Type} (k:Nat) (ret:Int→Option S) (t:Tm):Option S:=
 aa k (vC k (ac t)) fun r1=>
 ab (r1==0) (
 cq k (ac t) (-1) 24 false fun r2=>
 ab (!r2) (
  ret 100) (
  ret r1)) (
 ret r1)
noncomputable def qI {S:Type} (k:Nat) (t:Tm) (ret:Int→Option S):Option S:=Qm k ret t
def Qw {S:Type} (k:Nat) (ret:Int→Option S) (t:Tm) (a b:Int):Option S:=
 aa k (qI k (ac t)) fun r1=>
 ab (r1==0) (
 ab (decide ((a:Int)<0)) (
  ret 2) (
  ab (decide ((b:Int)<0)) (
  ret 2) (
  ret r1))) (
 ret r1)
noncomputable def AL {S:Type} (k:Nat) (t:Tm) (a b:Int) (ret:Int→Option S):Option S:=Qw k ret t a b
noncomputable def Qs {S:Type} (k:Nat) (ret:Int×Int×ByteArray→Option S) (a_e:Int):Option S:=
 ret (IntKind.wrap .i64 (0-a_e),0,ByteArray.empty)
noncomputable def eR {S:Type} (k:Nat) (a_e:Int) (ret:Int×Int×ByteArray→Option S):Option S:=Qs k ret a_e
def tY {S:Type} (k:Nat) (ret:Int×Int→Option S) (a_from a_by:Int) (rec0:(List Int)→Int→Option S) (l8:List Int) (v9:Int):Option S:=
 ab (decide ((v9:Int)<(l8.length:Int))) (
 Option.bind (ah l8 v9) fun x2=>
 Option.bind (ah l8 v9) fun x3=>
 ab (decide ((x3:Int)<a_from)) (
   rec0 l8 (IntKind.wrap .i64 (v9+1))) (
  Option.bind (ah l8 v9) fun x4=>
  Option.bind (ah l8 v9) fun x5=>
  ab (decide ((a_by:Int)≥(IntKind.wrap .i64 (24-x5)))) (
  ret (0,10)) (
  Option.bind (ah l8 v9) fun x6=>
  Option.bind (ah l8 v9) fun x7=>
  Option.bind (ah l8 v9) fun x8=>
  Option.bind (ah l8 v9) fun x9=>
    rec0 (l8.set (Int.toNat v9) (IntKind.wrap .i64 (x7+a_by))) (IntKind.wrap .i64 (v9+1))))) (
 aa k (gP k l8) fun r10=>
 ret (r10,0))
noncomputable def lE {S:Type} (k:Nat) (ret:Int×Int→Option S) (a_from a_by:Int):Nat→(List Int)→Int→Option S
 |0=>fun _ _=> .none
 |m+1=>fun l8 v9=>tY k ret a_from a_by (lE k ret a_from a_by m) l8 v9
def tk {S:Type} (k:Nat) (ret:Int×Int→Option S) (J0:(List Int)→Int→Option S) (s a_from a_by:Int):Option S:=
 ab (decide ((a_from:Int)<0)) (
 ret (0,2)) (
 ab (decide ((a_by:Int)<0)) (
  ret (0,2)) (
  aa k (gO k s) fun r1=>
   J0 r1 0))
noncomputable def jI {S:Type} (k:Nat) (s a_from a_by:Int) (ret:Int×Int→Option S):Option S:=tk k ret (fun l8 v9=>lE k ret a_from a_by k l8 v9) s a_from a_by
def Qe {S:Type} (k:Nat) (ret:Cl×Int→Option S) (c:Cl) (a_from a_by:Int):Option S:=
 aa k (qE k c) fun r1=>
 ab (!r1) (
 ret ((Cl.mk 0 0),2)) (
 aa k (jI k c.pos a_from a_by) fun r2=>
 ab (!(r2.2==0)) (
  ret ((Cl.mk 0 0),r2.2)) (
  aa k (jI k c.neg a_from a_by) fun r3=>
  ab (!(r3.2==0)) (
  ret ((Cl.mk 0 0),r3.2)) (
  ret ((Cl.mk r2.1 r3.1),0))))
noncomputable def vr {S:Type} (k:Nat) (c:Cl) (a_from a_by:Int) (ret:Cl×Int→Option S):Option S:=Qe k ret c a_from a_by
def ue {S:Type} (k:Nat) (ret:List Cl×Int→Option S) (f:List Cl) (a_from a_by:Int) (rec0:(List Cl)→Int→Option S) (out8:List Cl) (i9:Int):Option S:=
 ab (decide ((i9:Int)<(f.length:Int))) (
 Option.bind (ah f i9) fun x2=>
 aa k (vr k x2 a_from a_by) fun r3=>
 ab (!(r3.2==0)) (
  ret (([]:List Cl),r3.2)) (
  Option.bind (ap 1099511627776 out8.length [r3.1].length) fun x4=>
   rec0 (out8++[r3.1]) (IntKind.wrap .i64 (i9+1)))) (
 aa k (gQ k out8) fun r5=>
 ret (r5.1,r5.2))
noncomputable def nW {S:Type} (k:Nat) (ret:List Cl×Int→Option S) (f:List Cl) (a_from a_by:Int):Nat→(List Cl)→Int→Option S
 |0=>fun _ _=> .none
 |m+1=>fun out8 i9=>ue k ret f a_from a_by (nW k ret f a_from a_by m) out8 i9
def EV {S:Type} (k:Nat) (ret:List Cl×Int→Option S) (J0:(List Cl)→Int→Option S) (f:List Cl) (a_from a_by:Int):Option S:=
 aa k (dH k f) fun r1=>
 ab (!r1) (
 ret (([]:List Cl),2)) (
  J0 ([]:List Cl) 0)
noncomputable def m7 {S:Type} (k:Nat) (f:List Cl) (a_from a_by:Int) (ret:List Cl×Int→Option S):Option S:=EV k ret (fun out8 i9=>nW k ret f a_from a_by k out8 i9) f a_from a_by
def Qv {S:Type} (k:Nat) (ret:List Cl×Int→Option S) (f:List Cl) (a_from a_by:Int):Option S:=
 ab ((f.length:Int)==0) (
 ret (([]:List Cl),0)) (
 aa k (m7 k f a_from a_by) fun r1=>
 ret (r1.1,r1.2))
noncomputable def qM {S:Type} (k:Nat) (f:List Cl) (a_from a_by:Int) (ret:List Cl×Int→Option S):Option S:=Qv k ret f a_from a_by
abbrev eM (S:Type):=Tm→Int→Int→Int→Int→(Tm→Option S)→Option S
def uz {S:Type} (hd:eM S) (k:Nat) (ret:Tm→Option S) (t:Tm) (b11_1:Int) (r2:List Cl×Int) (b11_4:List Tm) (b11_5:List (Br Tm)) (r9:List Cl×Int) (v i18 vby d dby:Int) (rec2:(List (Br Tm))→Int→Option S) (rec3:(List Tm)→Int→Option S) (b21_1:List Tm) (v22:Int):Option S:=
 Option.bind (ah t.sys i18) fun x11=>
 ab (decide ((v22:Int)<(x11.kids.length:Int))) (
 Option.bind (ah t.sys i18) fun x12=>
 Option.bind (ah x12.kids v22) fun x13=>
 aa k (m_ k t.kind) fun r14=>
 hd (ac x13) v vby (IntKind.wrap .i64 (d+r14)) dby fun r15=>
 ab (decide ((r15.kind:Int)<0)) (
  ret (ac r15)) (
  Option.bind (ap 1099511627776 b21_1.length [(ac r15)].length) fun x16=>
   rec3 (b21_1++[(ac r15)]) (IntKind.wrap .i64 (v22+1)))) (
 Option.bind (ap 1099511627776 b11_5.length [(Br.mk r9.1 b21_1)].length) fun x17=>
  rec2 (b11_5++[(Br.mk r9.1 b21_1)]) (IntKind.wrap .i64 (i18+1)))
noncomputable def g5 {S:Type} (hd:eM S) (k:Nat) (ret:Tm→Option S) (rec2:(List (Br Tm))→Int→Option S) (t:Tm) (b11_1:Int) (r2:List Cl×Int) (b11_4:List Tm) (b11_5:List (Br Tm)) (r9:List Cl×Int) (v i18 vby d dby:Int):Nat→(List Tm)→Int→Option S
 |0=>fun _ _=> .none
 |m+1=>fun b21_1 v22=>uz hd k ret t b11_1 r2 b11_4 b11_5 r9 v i18 vby d dby rec2 (g5 hd k ret rec2 t b11_1 r2 b11_4 b11_5 r9 v i18 vby d dby m) b21_1 v22
def pV {S:Type} (hd:eM S) (k:Nat) (ret:Tm→Option S) (t:Tm) (b11_1:Int) (r2:List Cl×Int) (b11_4:List Tm) (v vby d dby:Int) (J3:(List (Br Tm))→(List Cl×Int)→Int→(List Tm)→Int→Option S) (rec2:(List (Br Tm))→Int→Option S) (b11_5:List (Br Tm)) (i18:Int):Option S:=
 ab (decide ((i18:Int)<(t.sys.length:Int))) (
 Option.bind (ah t.sys i18) fun x8=>
 aa k (qM k x8.face d dby) fun r9=>
 ab (!(r9.2==0)) (
  aa k (eR k r9.2) fun r10=>
  ret (Tm.mk r10.1 r10.2.1 r10.2.2 [] [] [])) (
   J3 b11_5 r9 i18 ([]:List Tm) 0)) (
 ret (Tm.mk t.kind b11_1 t.name r2.1 b11_4 b11_5))
noncomputable def d8 {S:Type} (hd:eM S) (k:Nat) (ret:Tm→Option S) (t:Tm) (b11_1:Int) (r2:List Cl×Int) (b11_4:List Tm) (v vby d dby:Int):Nat→(List (Br Tm))→Int→Option S
 |0=>fun _ _=> .none
 |m+1=>fun b11_5 i18=>pV hd k ret t b11_1 r2 b11_4 v vby d dby (fun b11_5 r9 i18 b21_1 v22=>g5 hd k ret (d8 hd k ret t b11_1 r2 b11_4 v vby d dby m) t b11_1 r2 b11_4 b11_5 r9 v i18 vby d dby k b21_1 v22) (d8 hd k ret t b11_1 r2 b11_4 v vby d dby m) b11_5 i18
def pU {S:Type} (hd:eM S) (k:Nat) (ret:Tm→Option S) (t:Tm) (b11_1:Int) (r2:List Cl×Int) (v vby d dby:Int) (J2:(List Tm)→(List (Br Tm))→Int→Option S) (rec1:(List Tm)→Int→Option S) (b11_4:List Tm) (i14:Int):Option S:=
 ab (decide ((i14:Int)<(t.kids.length:Int))) (
 aa k (m9 k t.kind i14) fun r4=>
 Option.bind (ah t.kids i14) fun x5=>
 hd (ac x5) (IntKind.wrap .i64 (v+r4.1)) vby (IntKind.wrap .i64 (d+r4.2)) dby fun r6=>
 ab (decide ((r6.kind:Int)<0)) (
  ret (ac r6)) (
  Option.bind (ap 1099511627776 b11_4.length [(ac r6)].length) fun x7=>
   rec1 (b11_4++[(ac r6)]) (IntKind.wrap .i64 (i14+1)))) (
  J2 b11_4 ([]:List (Br Tm)) 0)
noncomputable def gg {S:Type} (hd:eM S) (k:Nat) (ret:Tm→Option S) (t:Tm) (b11_1:Int) (r2:List Cl×Int) (v vby d dby:Int):Nat→(List Tm)→Int→Option S
 |0=>fun _ _=> .none
 |m+1=>fun b11_4 i14=>pU hd k ret t b11_1 r2 v vby d dby (fun b11_4 b11_5 i18=>d8 hd k ret t b11_1 r2 b11_4 v vby d dby k b11_5 i18) (gg hd k ret t b11_1 r2 v vby d dby m) b11_4 i14
def pT {S:Type} (hd:eM S) (k:Nat) (ret:Tm→Option S) (t:Tm) (v vby d dby:Int) (J1:Int→(List Cl×Int)→(List Tm)→Int→Option S) (b11_1:Int):Option S:=
 aa k (qM k t.r d dby) fun r2=>
 ab (!(r2.2==0)) (
 aa k (eR k r2.2) fun r3=>
 ret (Tm.mk r3.1 r3.2.1 r3.2.2 [] [] [])) (
  J1 b11_1 r2 ([]:List Tm) 0)
noncomputable def wP {S:Type} (hd:eM S) (k:Nat) (ret:Tm→Option S) (t:Tm) (v vby d dby:Int):Nat→Int→Option S
 |0=>fun _=> .none
 |_+1=>fun b11_1=>pT hd k ret t v vby d dby (fun b11_1 r2 b11_4 i14=>gg hd k ret t b11_1 r2 v vby d dby k b11_4 i14) b11_1
def Fc {S:Type} (hd:eM S) (k:Nat) (ret:Tm→Option S) (J0:Int→Option S) (t:Tm) (v vby d dby:Int):Option S:=
 ab (t.kind==1) (
 ab (decide ((t.n:Int)≥v)) (
  ab (decide ((t.n:Int)>(IntKind.wrap .i64 (1000000000-vby)))) (
  aa k (eR k 100) fun r1=>
  ret (Tm.mk r1.1 r1.2.1 r1.2.2 [] [] [])) (
    J0 (IntKind.wrap .i64 (t.n+vby)))) (
   J0 t.n)) (
  J0 t.n)
noncomputable def dq {S:Type}:Nat→Tm→Int→Int→Int→Int→(Tm→Option S)→Option S
 |0=>fun _ _ _ _ _ _=> .none
 |k+1=>fun t v vby d dby ret=>Fc (dq k) k ret (fun b11_1=>wP (dq k) k ret t v vby d dby k b11_1) t v vby d dby
def Qu {S:Type} (k:Nat) (ret:Tm×Int→Option S) (t:Tm):Option S:=
 ab (decide ((t.kind:Int)<0)) (
 ret ((Tm.mk 0 0 ByteArray.empty [] [] []),IntKind.wrap .i64 (0-t.kind))) (
 ret ((ac t),0))
noncomputable def vE {S:Type} (k:Nat) (t:Tm) (ret:Tm×Int→Option S):Option S:=Qu k ret t
def Qt {S:Type} (k:Nat) (ret:Tm×Int→Option S) (t:Tm) (a_from a_by:Int):Option S:=
 aa k (AL k (ac t) a_from a_by) fun r1=>
 ab (!(r1==0)) (
 ret ((Tm.mk 0 0 ByteArray.empty [] [] []),r1)) (
 ab (decide ((a_from:Int)>1000000000)) (
  dq k (ac t) 0 0 1000000000 a_by fun r2=>
  aa k (vE k (ac r2)) fun r3=>
  ret ((ac r3.1),r3.2)) (
  dq k (ac t) 0 0 a_from a_by fun r4=>
  aa k (vE k (ac r4)) fun r5=>
  ret ((ac r5.1),r5.2)))
noncomputable def vD {S:Type} (k:Nat) (t:Tm) (a_from a_by:Int) (ret:Tm×Int→Option S):Option S:=Qt k ret t a_from a_by
def t6 {S:Type} (k:Nat) (ret:Int→Option S) (i:Int) (r1:List Int) (rec0:(List Int)→Int→Option S) (out6:List Int) (v7:Int):Option S:=
 ab (decide ((v7:Int)<(r1.length:Int))) (
 Option.bind (ah r1 v7) fun x2=>
 Option.bind (ah r1 v7) fun x3=>
 ab (!(x3==i)) (
  Option.bind (ah r1 v7) fun x4=>
  Option.bind (ah r1 v7) fun x5=>
  Option.bind (ap 1099511627776 out6.length [x5].length) fun x6=>
   rec0 (out6++[x5]) (IntKind.wrap .i64 (v7+1))) (
   rec0 out6 (IntKind.wrap .i64 (v7+1)))) (
 aa k (gP k out6) fun r7=>
 ret r7)
noncomputable def nQ {S:Type} (k:Nat) (ret:Int→Option S) (i:Int) (r1:List Int):Nat→(List Int)→Int→Option S
 |0=>fun _ _=> .none
 |m+1=>fun out6 v7=>t6 k ret i r1 (nQ k ret i r1 m) out6 v7
noncomputable def EM {S:Type} (k:Nat) (ret:Int→Option S) (J0:(List Int)→(List Int)→Int→Option S) (s i:Int):Option S:=
 aa k (gO k s) fun r1=>
 J0 r1 ([]:List Int) 0
noncomputable def fl {S:Type} (k:Nat) (s i:Int) (ret:Int→Option S):Option S:=EM k ret (fun r1 out6 v7=>nQ k ret i r1 k out6 v7) s i
def ul {S:Type} (k:Nat) (ret:List Cl×Int→Option S) (l:List Cl) (rec0:(List Cl)→Int→Option S) (out4:List Cl) (i5:Int):Option S:=
 ab (decide ((i5:Int)<(l.length:Int))) (
 Option.bind (ah l i5) fun x1=>
 aa k (qC k x1) fun r2=>
 ab (!r2) (
  Option.bind (ah l i5) fun x3=>
  Option.bind (ap 1099511627776 out4.length [x3].length) fun x4=>
   rec0 (out4++[x3]) (IntKind.wrap .i64 (i5+1))) (
   rec0 out4 (IntKind.wrap .i64 (i5+1)))) (
 aa k (gQ k out4) fun r5=>
 ret (r5.1,r5.2))
noncomputable def n4 {S:Type} (k:Nat) (ret:List Cl×Int→Option S) (l:List Cl):Nat→(List Cl)→Int→Option S
 |0=>fun _ _=> .none
 |m+1=>fun out4 i5=>ul k ret l (n4 k ret l m) out4 i5
noncomputable def E3 {S:Type} (k:Nat) (ret:List Cl×Int→Option S) (J0:(List Cl)→Int→Option S) (l:List Cl):Option S:=
 J0 ([]:List Cl) 0
noncomputable def lg {S:Type} (k:Nat) (l:List Cl) (ret:List Cl×Int→Option S):Option S:=E3 k ret (fun out4 i5=>n4 k ret l k out4 i5) l
def Qk {S:Type} (k:Nat) (ret:List Cl×Int→Option S) (f:List Cl):Option S:=
 aa k (dH k f) fun r1=>
 ab (!r1) (
 ret (([]:List Cl),2)) (
 aa k (lg k f) fun r2=>
 ret (r2.1,r2.2))
noncomputable def vz {S:Type} (k:Nat) (f:List Cl) (ret:List Cl×Int→Option S):Option S:=Qk k ret f
def uh {S:Type} (k:Nat) (ret:List Cl→Option S) (c:Cl) (rec0:(List Cl)→Int→Option S) (out3:List Cl) (i4:Int):Option S:=
 ab (decide ((i4:Int)<24)) (
 aa k (gP k [i4]) fun r1=>
 aa k (dp k c.pos i4) fun r2=>
 ab (r2) (
  Option.bind (ap 1099511627776 out3.length [(Cl.mk 0 r1)].length) fun x3=>
  aa k (dp k c.neg i4) fun r4=>
  ab (r4) (
  Option.bind (ap 1099511627776 (out3++[(Cl.mk 0 r1)]).length [(Cl.mk r1 0)].length) fun x5=>
    rec0 ((out3++[(Cl.mk 0 r1)])++[(Cl.mk r1 0)]) (IntKind.wrap .i64 (i4+1))) (
    rec0 (out3++[(Cl.mk 0 r1)]) (IntKind.wrap .i64 (i4+1)))) (
  aa k (dp k c.neg i4) fun r6=>
  ab (r6) (
  Option.bind (ap 1099511627776 out3.length [(Cl.mk r1 0)].length) fun x7=>
    rec0 (out3++[(Cl.mk r1 0)]) (IntKind.wrap .i64 (i4+1))) (
    rec0 out3 (IntKind.wrap .i64 (i4+1))))) (
 aa k (gQ k out3) fun r8=>
 ret r8.1)
noncomputable def nZ {S:Type} (k:Nat) (ret:List Cl→Option S) (c:Cl):Nat→(List Cl)→Int→Option S
 |0=>fun _ _=> .none
 |m+1=>fun out3 i4=>uh k ret c (nZ k ret c m) out3 i4
noncomputable def EZ {S:Type} (k:Nat) (ret:List Cl→Option S) (J0:(List Cl)→Int→Option S) (c:Cl):Option S:=
 J0 ([]:List Cl) 0
noncomputable def vw {S:Type} (k:Nat) (c:Cl) (ret:List Cl→Option S):Option S:=EZ k ret (fun out3 i4=>nZ k ret c k out3 i4) c
def Qb {S:Type} (k:Nat) (ret:Int→Option S) (s i:Int):Option S:=
 ab (decide ((i:Int)<0)) (
 aa k (fl k s (-1)) fun r1=>
 ret r1) (
 ab (decide ((i:Int)≥24)) (
  aa k (fl k s (-1)) fun r2=>
  ret r2) (
  aa k (fl k s i) fun r3=>
  aa k (gO k r3) fun r4=>
  Option.bind (ap 1099511627776 r4.length [i].length) fun x5=>
  aa k (gP k (r4++[i])) fun r6=>
  ret r6))
noncomputable def qB {S:Type} (k:Nat) (s i:Int) (ret:Int→Option S):Option S:=Qb k ret s i
def ub {S:Type} (k:Nat) (ret:Int→Option S) (r1:List Int) (rec0:Int→Int→Option S) (a0 i6:Int):Option S:=
 ab (decide ((i6:Int)<(r1.length:Int))) (
 Option.bind (ah r1 i6) fun x2=>
 Option.bind (ah r1 i6) fun x3=>
 aa k (qB k a0 x3) fun r4=>
  rec0 r4 (IntKind.wrap .i64 (i6+1))) (
 ret a0)
noncomputable def nV {S:Type} (k:Nat) (ret:Int→Option S) (r1:List Int):Nat→Int→Int→Option S
 |0=>fun _ _=> .none
 |m+1=>fun a0 i6=>ub k ret r1 (nV k ret r1 m) a0 i6
noncomputable def ES {S:Type} (k:Nat) (ret:Int→Option S) (J0:(List Int)→Int→Int→Option S) (a b:Int):Option S:=
 aa k (gO k b) fun r1=>
 J0 r1 a 0
noncomputable def qF {S:Type} (k:Nat) (a b:Int) (ret:Int→Option S):Option S:=ES k ret (fun r1 a0 i6=>nV k ret r1 k a0 i6) a b
noncomputable def Qf {S:Type} (k:Nat) (ret:Cl→Option S) (a b:Cl):Option S:=
 aa k (qF k a.pos b.pos) fun r1=>
 aa k (qF k a.neg b.neg) fun r2=>
 ret (Cl.mk r1 r2)
noncomputable def qD {S:Type} (k:Nat) (a b:Cl) (ret:Cl→Option S):Option S:=Qf k ret a b
def uf {S:Type} (k:Nat) (ret:List Cl×Int→Option S) (f g:List Cl) (i7:Int) (rec0:(List Cl)→Int→Option S) (rec1:(List Cl)→Int→Option S) (out6':List Cl) (v8:Int):Option S:=
 ab (decide ((v8:Int)<(g.length:Int))) (
 Option.bind (ah f i7) fun x3=>
 Option.bind (ah g v8) fun x4=>
 aa k (qD k x3 x4) fun r5=>
 Option.bind (ap 1099511627776 out6'.length [r5].length) fun x6=>
  rec1 (out6'++[r5]) (IntKind.wrap .i64 (v8+1))) (
  rec0 out6' (IntKind.wrap .i64 (i7+1)))
noncomputable def lJ {S:Type} (k:Nat) (ret:List Cl×Int→Option S) (rec0:(List Cl)→Int→Option S) (f g:List Cl) (i7:Int):Nat→(List Cl)→Int→Option S
 |0=>fun _ _=> .none
 |m+1=>fun out6' v8=>uf k ret f g i7 rec0 (lJ k ret rec0 f g i7 m) out6' v8
def pC {S:Type} (k:Nat) (ret:List Cl×Int→Option S) (f g:List Cl) (J1:Int→(List Cl)→Int→Option S) (rec0:(List Cl)→Int→Option S) (out6:List Cl) (i7:Int):Option S:=
 ab (decide ((i7:Int)<(f.length:Int))) (
  J1 i7 out6 0) (
 aa k (gQ k out6) fun r7=>
 ret (r7.1,r7.2))
noncomputable def j8 {S:Type} (k:Nat) (ret:List Cl×Int→Option S) (f g:List Cl):Nat→(List Cl)→Int→Option S
 |0=>fun _ _=> .none
 |m+1=>fun out6 i7=>pC k ret f g (fun i7 out6' v8=>lJ k ret (j8 k ret f g m) f g i7 k out6' v8) (j8 k ret f g m) out6 i7
def EW {S:Type} (k:Nat) (ret:List Cl×Int→Option S) (J0:(List Cl)→Int→Option S) (f g:List Cl):Option S:=
 aa k (dH k f) fun r1=>
 ab (!r1) (
 ret (([]:List Cl),2)) (
 aa k (dH k g) fun r2=>
 ab (!r2) (
  ret (([]:List Cl),2)) (
   J0 ([]:List Cl) 0))
noncomputable def iG {S:Type} (k:Nat) (f g:List Cl) (ret:List Cl×Int→Option S):Option S:=EW k ret (fun out6 i7=>j8 k ret f g k out6 i7) f g
def ug {S:Type} (k:Nat) (ret:List Cl×Int→Option S) (f:List Cl) (rec0:(List Cl)→Int→Int→Option S) (v4:List Cl) (v5 i6:Int):Option S:=
 ab (decide ((i6:Int)<(f.length:Int))) (
 ab (v5==0) (
  Option.bind (ah f i6) fun x2=>
  aa k (vw k x2) fun r3=>
  aa k (iG k v4 r3) fun r4=>
   rec0 r4.1 r4.2 (IntKind.wrap .i64 (i6+1))) (
  ret (v4,v5))) (
 ret (v4,v5))
noncomputable def nX {S:Type} (k:Nat) (ret:List Cl×Int→Option S) (f:List Cl):Nat→(List Cl)→Int→Int→Option S
 |0=>fun _ _ _=> .none
 |m+1=>fun v4 v5 i6=>ug k ret f (nX k ret f m) v4 v5 i6
def EX {S:Type} (k:Nat) (ret:List Cl×Int→Option S) (J0:(List Cl)→Int→Int→Option S) (f:List Cl):Option S:=
 aa k (dH k f) fun r1=>
 ab (!r1) (
 ret (([]:List Cl),2)) (
  J0 [(Cl.mk 0 0)] 0 0)
noncomputable def m8 {S:Type} (k:Nat) (f:List Cl) (ret:List Cl×Int→Option S):Option S:=EX k ret (fun v4 v5 i6=>nX k ret f k v4 v5 i6) f
def Ql {S:Type} (k:Nat) (ret:List Cl×Int→Option S) (f:List Cl):Option S:=
 aa k (m8 k f) fun r1=>
 ab (!(r1.2==0)) (
 ret (([]:List Cl),r1.2)) (
 aa k (lg k r1.1) fun r2=>
 ret (r2.1,r2.2))
noncomputable def qH {S:Type} (k:Nat) (f:List Cl) (ret:List Cl×Int→Option S):Option S:=Ql k ret f
def ui {S:Type} (k:Nat) (ret:List Cl×Int→Option S) (f g:List Cl) (i7:Int) (rec0:(List Cl)→Int→Option S) (rec1:(List Cl)→Int→Option S) (out6':List Cl) (v8:Int):Option S:=
 ab (decide ((v8:Int)<(g.length:Int))) (
 Option.bind (ah f i7) fun x3=>
 Option.bind (ah g v8) fun x4=>
 aa k (qD k x3 x4) fun r5=>
 Option.bind (ap 1099511627776 out6'.length [r5].length) fun x6=>
  rec1 (out6'++[r5]) (IntKind.wrap .i64 (v8+1))) (
  rec0 out6' (IntKind.wrap .i64 (i7+1)))
noncomputable def lK {S:Type} (k:Nat) (ret:List Cl×Int→Option S) (rec0:(List Cl)→Int→Option S) (f g:List Cl) (i7:Int):Nat→(List Cl)→Int→Option S
 |0=>fun _ _=> .none
 |m+1=>fun out6' v8=>ui k ret f g i7 rec0 (lK k ret rec0 f g i7 m) out6' v8
def pF {S:Type} (k:Nat) (ret:List Cl×Int→Option S) (f g:List Cl) (J1:Int→(List Cl)→Int→Option S) (rec0:(List Cl)→Int→Option S) (out6:List Cl) (i7:Int):Option S:=
 ab (decide ((i7:Int)<(f.length:Int))) (
  J1 i7 out6 0) (
 aa k (lg k out6) fun r7=>
 ret (r7.1,r7.2))
noncomputable def j_ {S:Type} (k:Nat) (ret:List Cl×Int→Option S) (f g:List Cl):Nat→(List Cl)→Int→Option S
 |0=>fun _ _=> .none
 |m+1=>fun out6 i7=>pF k ret f g (fun i7 out6' v8=>lK k ret (j_ k ret f g m) f g i7 k out6' v8) (j_ k ret f g m) out6 i7
def E0 {S:Type} (k:Nat) (ret:List Cl×Int→Option S) (J0:(List Cl)→Int→Option S) (f g:List Cl):Option S:=
 aa k (gR k f) fun r1=>
 ab (!r1) (
 ret (([]:List Cl),2)) (
 aa k (gR k g) fun r2=>
 ab (!r2) (
  ret (([]:List Cl),2)) (
   J0 ([]:List Cl) 0))
noncomputable def jK {S:Type} (k:Nat) (f g:List Cl) (ret:List Cl×Int→Option S):Option S:=E0 k ret (fun out6 i7=>j_ k ret f g k out6 i7) f g
def Qj {S:Type} (k:Nat) (ret:List Cl×Int→Option S) (f g:List Cl):Option S:=
 aa k (gR k f) fun r1=>
 ab (!r1) (
 ret (([]:List Cl),2)) (
 aa k (gR k g) fun r2=>
 ab (!r2) (
  ret (([]:List Cl),2)) (
  Option.bind (ap 1099511627776 ([]:List Cl).length f.length) fun x3=>
  Option.bind (ap 1099511627776 (([]:List Cl)++f).length g.length) fun x4=>
  aa k (lg k ((([]:List Cl)++f)++g)) fun r5=>
  ret (r5.1,r5.2)))
noncomputable def fm {S:Type} (k:Nat) (f g:List Cl) (ret:List Cl×Int→Option S):Option S:=Qj k ret f g
def uj {S:Type} (k:Nat) (ret:List Cl×Int→Option S) (f:List Cl) (i:Int) (a_r:List Cl) (rec0:(List Cl)→Int→Option S) (v8:List Cl) (v9:Int):Option S:=
 ab (decide ((v9:Int)<(f.length:Int))) (
 Option.bind (ah f v9) fun x3=>
 aa k (fl k x3.pos i) fun r4=>
 aa k (fl k x3.neg i) fun r5=>
 aa k (dp k x3.pos i) fun r6=>
 ab (r6) (
  aa k (vz k a_r) fun r7=>
  aa k (dp k x3.neg i) fun r8=>
  ab (r8) (
  aa k (qH k a_r) fun r9=>
  ab (r9.2==0) (
   aa k (jK k [(Cl.mk r4 r5)] r9.1) fun r10=>
   ab (r10.2==0) (
   aa k (fm k v8 r10.1) fun r11=>
   ab (!(r11.2==0)) (
    ret (([]:List Cl),r11.2)) (
       rec0 r11.1 (IntKind.wrap .i64 (v9+1)))) (
   ab (!(r10.2==0)) (
    ret (([]:List Cl),r10.2)) (
       rec0 v8 (IntKind.wrap .i64 (v9+1))))) (
   ab (r9.2==0) (
   aa k (fm k v8 [(Cl.mk r4 r5)]) fun r12=>
   ab (!(r12.2==0)) (
    ret (([]:List Cl),r12.2)) (
       rec0 r12.1 (IntKind.wrap .i64 (v9+1)))) (
   ab (!(r9.2==0)) (
    ret (([]:List Cl),r9.2)) (
       rec0 v8 (IntKind.wrap .i64 (v9+1)))))) (
  ab (r7.2==0) (
   aa k (jK k [(Cl.mk r4 r5)] r7.1) fun r13=>
   ab (r13.2==0) (
   aa k (fm k v8 r13.1) fun r14=>
   ab (!(r14.2==0)) (
    ret (([]:List Cl),r14.2)) (
       rec0 r14.1 (IntKind.wrap .i64 (v9+1)))) (
   ab (!(r13.2==0)) (
    ret (([]:List Cl),r13.2)) (
       rec0 v8 (IntKind.wrap .i64 (v9+1))))) (
   ab (r7.2==0) (
   aa k (fm k v8 [(Cl.mk r4 r5)]) fun r15=>
   ab (!(r15.2==0)) (
    ret (([]:List Cl),r15.2)) (
       rec0 r15.1 (IntKind.wrap .i64 (v9+1)))) (
   ab (!(r7.2==0)) (
    ret (([]:List Cl),r7.2)) (
       rec0 v8 (IntKind.wrap .i64 (v9+1))))))) (
  aa k (dp k x3.neg i) fun r16=>
  ab (r16) (
  aa k (qH k a_r) fun r17=>
  ab (r17.2==0) (
   aa k (jK k [(Cl.mk r4 r5)] r17.1) fun r18=>
   ab (r18.2==0) (
   aa k (fm k v8 r18.1) fun r19=>
   ab (!(r19.2==0)) (
    ret (([]:List Cl),r19.2)) (
       rec0 r19.1 (IntKind.wrap .i64 (v9+1)))) (
   ab (!(r18.2==0)) (
    ret (([]:List Cl),r18.2)) (
       rec0 v8 (IntKind.wrap .i64 (v9+1))))) (
   ab (r17.2==0) (
   aa k (fm k v8 [(Cl.mk r4 r5)]) fun r20=>
   ab (!(r20.2==0)) (
    ret (([]:List Cl),r20.2)) (
       rec0 r20.1 (IntKind.wrap .i64 (v9+1)))) (
   ab (!(r17.2==0)) (
    ret (([]:List Cl),r17.2)) (
       rec0 v8 (IntKind.wrap .i64 (v9+1)))))) (
  aa k (jK k [(Cl.mk r4 r5)] [(Cl.mk 0 0)]) fun r21=>
  ab (r21.2==0) (
   aa k (fm k v8 r21.1) fun r22=>
   ab (!(r22.2==0)) (
   ret (([]:List Cl),r22.2)) (
      rec0 r22.1 (IntKind.wrap .i64 (v9+1)))) (
   ab (!(r21.2==0)) (
   ret (([]:List Cl),r21.2)) (
      rec0 v8 (IntKind.wrap .i64 (v9+1))))))) (
 ret (v8,0))
noncomputable def lL {S:Type} (k:Nat) (ret:List Cl×Int→Option S) (f:List Cl) (i:Int) (a_r:List Cl):Nat→(List Cl)→Int→Option S
 |0=>fun _ _=> .none
 |m+1=>fun v8 v9=>uj k ret f i a_r (lL k ret f i a_r m) v8 v9
def E1 {S:Type} (k:Nat) (ret:List Cl×Int→Option S) (J0:(List Cl)→Int→Option S) (f:List Cl) (i:Int) (a_r:List Cl):Option S:=
 aa k (gR k f) fun r1=>
 ab (!r1) (
 ret (([]:List Cl),2)) (
 ab (decide ((i:Int)<0)) (
  ret (([]:List Cl),2)) (
  ab (decide ((i:Int)≥24)) (
  ret (([]:List Cl),2)) (
  aa k (dH k a_r) fun r2=>
  ab (!r2) (
   ret (([]:List Cl),2)) (
     J0 [] 0))))
noncomputable def vA {S:Type} (k:Nat) (f:List Cl) (i:Int) (a_r:List Cl) (ret:List Cl×Int→Option S):Option S:=E1 k ret (fun v8 v9=>lL k ret f i a_r k v8 v9) f i a_r
def Qh {S:Type} (k:Nat) (ret:List Cl×Int→Option S) (f g:List Cl):Option S:=
 aa k (dH k f) fun r1=>
 ab (!r1) (
 ret (([]:List Cl),2)) (
 aa k (dH k g) fun r2=>
 ab (!r2) (
  ret (([]:List Cl),2)) (
  Option.bind (ap 1099511627776 ([]:List Cl).length f.length) fun x3=>
  Option.bind (ap 1099511627776 (([]:List Cl)++f).length g.length) fun x4=>
  aa k (gQ k ((([]:List Cl)++f)++g)) fun r5=>
  ret (r5.1,r5.2)))
noncomputable def vu {S:Type} (k:Nat) (f g:List Cl) (ret:List Cl×Int→Option S):Option S:=Qh k ret f g
def zV {S:Type} (k:Nat) (ret:List Cl×Int→Option S) (f:List Cl) (i:Int) (a_r v8:List Cl) (v9:Int) (rec0:(List Cl)→Int→Option S) (g11:List Cl) (v12:Int):Option S:=
 ab (v12==0) (
 aa k (vu k v8 g11) fun r11=>
 ab (!(r11.2==0)) (
  ret (([]:List Cl),r11.2)) (
   rec0 r11.1 (IntKind.wrap .i64 (v9+1)))) (
 ab (!(v12==0)) (
  ret (([]:List Cl),v12)) (
   rec0 v8 (IntKind.wrap .i64 (v9+1))))
noncomputable def nY {S:Type} (k:Nat) (ret:List Cl×Int→Option S) (rec0:(List Cl)→Int→Option S) (f:List Cl) (i:Int) (a_r v8:List Cl) (v9:Int):Nat→(List Cl)→Int→Option S
 |0=>fun _ _=> .none
 |_+1=>fun g11 v12=>zV k ret f i a_r v8 v9 rec0 g11 v12
def pD {S:Type} (k:Nat) (ret:List Cl×Int→Option S) (f:List Cl) (i:Int) (a_r:List Cl) (J1:(List Cl)→Int→(List Cl)→Int→Option S) (rec0:(List Cl)→Int→Option S) (v8:List Cl) (v9:Int):Option S:=
 ab (decide ((v9:Int)<(f.length:Int))) (
 Option.bind (ah f v9) fun x3=>
 aa k (fl k x3.pos i) fun r4=>
 aa k (fl k x3.neg i) fun r5=>
 aa k (dp k x3.pos i) fun r6=>
 ab (r6) (
  aa k (iG k [(Cl.mk r4 r5)] a_r) fun r7=>
  ab (r7.2==0) (
  aa k (dp k x3.neg i) fun r8=>
  ab (r8) (
   aa k (m8 k a_r) fun r9=>
   ab (r9.2==0) (
   aa k (iG k r7.1 r9.1) fun r10=>
      J1 v8 v9 r10.1 r10.2) (
      J1 v8 v9 r7.1 r9.2)) (
     J1 v8 v9 r7.1 r7.2)) (
    J1 v8 v9 r7.1 r7.2)) (
  aa k (dp k x3.neg i) fun r12=>
  ab (r12) (
  aa k (m8 k a_r) fun r13=>
  ab (r13.2==0) (
   aa k (iG k [(Cl.mk r4 r5)] r13.1) fun r14=>
     J1 v8 v9 r14.1 r14.2) (
     J1 v8 v9 [(Cl.mk r4 r5)] r13.2)) (
    J1 v8 v9 [(Cl.mk r4 r5)] 0))) (
 ret (v8,0))
noncomputable def j9 {S:Type} (k:Nat) (ret:List Cl×Int→Option S) (f:List Cl) (i:Int) (a_r:List Cl):Nat→(List Cl)→Int→Option S
 |0=>fun _ _=> .none
 |m+1=>fun v8 v9=>pD k ret f i a_r (fun v8 v9 g11 v12=>nY k ret (j9 k ret f i a_r m) f i a_r v8 v9 k g11 v12) (j9 k ret f i a_r m) v8 v9
def EY {S:Type} (k:Nat) (ret:List Cl×Int→Option S) (J0:(List Cl)→Int→Option S) (f:List Cl) (i:Int) (a_r:List Cl):Option S:=
 aa k (dH k f) fun r1=>
 ab (!r1) (
 ret (([]:List Cl),2)) (
 aa k (dH k a_r) fun r2=>
 ab (!r2) (
  ret (([]:List Cl),2)) (
  ab (decide ((i:Int)<0)) (
  ret (([]:List Cl),2)) (
  ab (decide ((i:Int)≥24)) (
   ret (([]:List Cl),2)) (
     J0 [] 0))))
noncomputable def vv {S:Type} (k:Nat) (f:List Cl) (i:Int) (a_r:List Cl) (ret:List Cl×Int→Option S):Option S:=EY k ret (fun v8 v9=>j9 k ret f i a_r k v8 v9) f i a_r
def Qy {S:Type} (k:Nat) (ret:List Cl×Int→Option S) (f:List Cl) (isFace:Bool) (i:Int) (a_r:List Cl) (depth:Int):Option S:=
 aa k (qG k f) fun r1=>
 aa k (dp k r1 (IntKind.wrap .i64 (i+depth))) fun r2=>
 ab (!r2) (
 ret (f,0)) (
 aa k (m7 k a_r 0 depth) fun r3=>
 ab (!(r3.2==0)) (
  ret (([]:List Cl),r3.2)) (
  ab (isFace) (
  aa k (vA k f (IntKind.wrap .i64 (i+depth)) r3.1) fun r4=>
  ret (r4.1,r4.2)) (
  aa k (vv k f (IntKind.wrap .i64 (i+depth)) r3.1) fun r5=>
  ret (r5.1,r5.2))))
noncomputable def qO {S:Type} (k:Nat) (f:List Cl) (isFace:Bool) (i:Int) (a_r:List Cl) (depth:Int) (ret:List Cl×Int→Option S):Option S:=Qy k ret f isFace i a_r depth
def tX {S:Type} (k:Nat) (ret:Int→Option S) (i:Int) (rec0:(List Int)→Int→Option S) (l5:List Int) (v6:Int):Option S:=
 ab (decide ((v6:Int)<(l5.length:Int))) (
 ab (decide ((i:Int)≥0)) (
  Option.bind (ah l5 v6) fun x3=>
  Option.bind (ah l5 v6) fun x4=>
  ab (decide ((x4:Int)>i)) (
  Option.bind (ah l5 v6) fun x5=>
  Option.bind (ah l5 v6) fun x6=>
  Option.bind (ah l5 v6) fun x7=>
  Option.bind (ah l5 v6) fun x8=>
    rec0 (l5.set (Int.toNat v6) (IntKind.wrap .i64 (x6-1))) (IntKind.wrap .i64 (v6+1))) (
    rec0 l5 (IntKind.wrap .i64 (v6+1)))) (
   rec0 l5 (IntKind.wrap .i64 (v6+1)))) (
 aa k (gP k l5) fun r9=>
 ret r9)
noncomputable def lD {S:Type} (k:Nat) (ret:Int→Option S) (i:Int):Nat→(List Int)→Int→Option S
 |0=>fun _ _=> .none
 |m+1=>fun l5 v6=>tX k ret i (lD k ret i m) l5 v6
noncomputable def EI {S:Type} (k:Nat) (ret:Int→Option S) (J0:(List Int)→Int→Option S) (s i:Int):Option S:=
 aa k (fl k s i) fun r1=>
 aa k (gO k r1) fun r2=>
 J0 r2 0
noncomputable def mZ {S:Type} (k:Nat) (s i:Int) (ret:Int→Option S):Option S:=EI k ret (fun l5 v6=>lD k ret i k l5 v6) s i
def uA {S:Type} (k:Nat) (ret:List Cl→Option S) (f:List Cl) (i:Int) (rec0:(List Cl)→Int→Option S) (out5:List Cl) (v6:Int):Option S:=
 ab (decide ((v6:Int)<(f.length:Int))) (
 Option.bind (ah f v6) fun x1=>
 aa k (mZ k x1.pos i) fun r2=>
 Option.bind (ah f v6) fun x3=>
 aa k (mZ k x3.neg i) fun r4=>
 Option.bind (ap 1099511627776 out5.length [(Cl.mk r2 r4)].length) fun x5=>
  rec0 (out5++[(Cl.mk r2 r4)]) (IntKind.wrap .i64 (v6+1))) (
 aa k (gQ k out5) fun r6=>
 ret r6.1)
noncomputable def oe {S:Type} (k:Nat) (ret:List Cl→Option S) (f:List Cl) (i:Int):Nat→(List Cl)→Int→Option S
 |0=>fun _ _=> .none
 |m+1=>fun out5 v6=>uA k ret f i (oe k ret f i m) out5 v6
noncomputable def Fe {S:Type} (k:Nat) (ret:List Cl→Option S) (J0:(List Cl)→Int→Option S) (f:List Cl) (i:Int):Option S:=
 J0 ([]:List Cl) 0
noncomputable def qN {S:Type} (k:Nat) (f:List Cl) (i:Int) (ret:List Cl→Option S):Option S:=Fe k ret (fun out5 v6=>oe k ret f i k out5 v6) f i
abbrev fS (S:Type):=Tm→Int→(List Cl)→Int→Bool→(Tm→Option S)→Option S
def uB {S:Type} (hd:fS S) (k:Nat) (ret:Tm→Option S) (t:Tm) (b11_3:List Cl) (b11_4:List Tm) (b11_5:List (Br Tm)) (i v18:Int) (a_r:List Cl) (depth:Int) (drop:Bool) (rec1:(List (Br Tm))→Int→Option S) (rec2:(List Cl)→(List Tm)→Int→Option S) (b21_0:List Cl) (b21_1:List Tm) (v22:Int):Option S:=
 Option.bind (ah t.sys v18) fun x12=>
 ab (decide ((v22:Int)<(x12.kids.length:Int))) (
 Option.bind (ah t.sys v18) fun x13=>
 Option.bind (ah x13.kids v22) fun x14=>
 aa k (m_ k t.kind) fun r15=>
 hd (ac x14) i a_r (IntKind.wrap .i64 (depth+r15)) drop fun r16=>
 ab (decide ((r16.kind:Int)<0)) (
  ret (ac r16)) (
  Option.bind (ap 1099511627776 b21_1.length [(ac r16)].length) fun x17=>
   rec2 b21_0 (b21_1++[(ac r16)]) (IntKind.wrap .i64 (v22+1)))) (
 Option.bind (ap 1099511627776 b11_5.length [(Br.mk b21_0 b21_1)].length) fun x18=>
  rec1 (b11_5++[(Br.mk b21_0 b21_1)]) (IntKind.wrap .i64 (v18+1)))
noncomputable def jf {S:Type} (hd:fS S) (k:Nat) (ret:Tm→Option S) (rec1:(List (Br Tm))→Int→Option S) (t:Tm) (b11_3:List Cl) (b11_4:List Tm) (b11_5:List (Br Tm)) (i v18:Int) (a_r:List Cl) (depth:Int) (drop:Bool):Nat→(List Cl)→(List Tm)→Int→Option S
 |0=>fun _ _ _=> .none
 |m+1=>fun b21_0 b21_1 v22=>uB hd k ret t b11_3 b11_4 b11_5 i v18 a_r depth drop rec1 (jf hd k ret rec1 t b11_3 b11_4 b11_5 i v18 a_r depth drop m) b21_0 b21_1 v22
def pX {S:Type} (hd:fS S) (k:Nat) (ret:Tm→Option S) (t:Tm) (b11_3:List Cl) (b11_4:List Tm) (i:Int) (a_r:List Cl) (depth:Int) (drop:Bool) (J2:(List (Br Tm))→Int→(List Cl)→(List Tm)→Int→Option S) (rec1:(List (Br Tm))→Int→Option S) (b11_5:List (Br Tm)) (v18:Int):Option S:=
 ab (decide ((v18:Int)<(t.sys.length:Int))) (
 Option.bind (ah t.sys v18) fun x8=>
 aa k (qO k x8.face true i a_r depth) fun r9=>
 ab (!(r9.2==0)) (
  aa k (eR k r9.2) fun r10=>
  ret (Tm.mk r10.1 r10.2.1 r10.2.2 [] [] [])) (
  ab ((r9.1.length:Int)==0) (
    rec1 b11_5 (IntKind.wrap .i64 (v18+1))) (
  ab (drop) (
   aa k (qN k r9.1 (IntKind.wrap .i64 (i+depth))) fun r11=>
     J2 b11_5 v18 r11 ([]:List Tm) 0) (
     J2 b11_5 v18 r9.1 ([]:List Tm) 0)))) (
 ret (Tm.mk t.kind t.n t.name b11_3 b11_4 b11_5))
noncomputable def gh {S:Type} (hd:fS S) (k:Nat) (ret:Tm→Option S) (t:Tm) (b11_3:List Cl) (b11_4:List Tm) (i:Int) (a_r:List Cl) (depth:Int) (drop:Bool):Nat→(List (Br Tm))→Int→Option S
 |0=>fun _ _=> .none
 |m+1=>fun b11_5 v18=>pX hd k ret t b11_3 b11_4 i a_r depth drop (fun b11_5 v18 b21_0 b21_1 v22=>jf hd k ret (gh hd k ret t b11_3 b11_4 i a_r depth drop m) t b11_3 b11_4 b11_5 i v18 a_r depth drop k b21_0 b21_1 v22) (gh hd k ret t b11_3 b11_4 i a_r depth drop m) b11_5 v18
def pW {S:Type} (hd:fS S) (k:Nat) (ret:Tm→Option S) (t:Tm) (i:Int) (a_r:List Cl) (depth:Int) (drop:Bool) (J1:(List Cl)→(List Tm)→(List (Br Tm))→Int→Option S) (rec0:(List Cl)→(List Tm)→Int→Option S) (b11_3:List Cl) (b11_4:List Tm) (v14:Int):Option S:=
 ab (decide ((v14:Int)<(t.kids.length:Int))) (
 aa k (m9 k t.kind v14) fun r4=>
 Option.bind (ah t.kids v14) fun x5=>
 hd (ac x5) i a_r (IntKind.wrap .i64 (depth+r4.2)) drop fun r6=>
 ab (decide ((r6.kind:Int)<0)) (
  ret (ac r6)) (
  Option.bind (ap 1099511627776 b11_4.length [(ac r6)].length) fun x7=>
   rec0 b11_3 (b11_4++[(ac r6)]) (IntKind.wrap .i64 (v14+1)))) (
  J1 b11_3 b11_4 ([]:List (Br Tm)) 0)
noncomputable def kf {S:Type} (hd:fS S) (k:Nat) (ret:Tm→Option S) (t:Tm) (i:Int) (a_r:List Cl) (depth:Int) (drop:Bool):Nat→(List Cl)→(List Tm)→Int→Option S
 |0=>fun _ _ _=> .none
 |m+1=>fun b11_3 b11_4 v14=>pW hd k ret t i a_r depth drop (fun b11_3 b11_4 b11_5 v18=>gh hd k ret t b11_3 b11_4 i a_r depth drop k b11_5 v18) (kf hd k ret t i a_r depth drop m) b11_3 b11_4 v14
def Ff {S:Type} (hd:fS S) (k:Nat) (ret:Tm→Option S) (J0:(List Cl)→(List Tm)→Int→Option S) (t:Tm) (i:Int) (a_r:List Cl) (depth:Int) (drop:Bool):Option S:=
 aa k (qO k t.r (t.kind==14) i a_r depth) fun r1=>
 ab (!(r1.2==0)) (
 aa k (eR k r1.2) fun r2=>
 ret (Tm.mk r2.1 r2.2.1 r2.2.2 [] [] [])) (
 ab (drop) (
  aa k (qN k r1.1 (IntKind.wrap .i64 (i+depth))) fun r3=>
   J0 r3 ([]:List Tm) 0) (
   J0 r1.1 ([]:List Tm) 0))
noncomputable def eS {S:Type}:Nat→Tm→Int→(List Cl)→Int→Bool→(Tm→Option S)→Option S
 |0=>fun _ _ _ _ _ _=> .none
 |k+1=>fun t i a_r depth drop ret=>Ff (eS k) k ret (fun b11_3 b11_4 v14=>kf (eS k) k ret t i a_r depth drop k b11_3 b11_4 v14) t i a_r depth drop
def Qx {S:Type} (k:Nat) (ret:Tm→Option S) (t:Tm) (i:Int) (a_r:List Cl):Option S:=
 ab (decide ((t.kind:Int)<0)) (
 ret (ac t)) (
 aa k (m7 k a_r i 1) fun r1=>
 ab (!(r1.2==0)) (
  aa k (eR k r1.2) fun r2=>
  ret (Tm.mk r2.1 r2.2.1 r2.2.2 [] [] [])) (
  eS k (ac t) i r1.1 0 true fun r3=>
  ret (ac r3)))
noncomputable def vF {S:Type} (k:Nat) (t:Tm) (i:Int) (a_r:List Cl) (ret:Tm→Option S):Option S:=Qx k ret t i a_r
def QA {S:Type} (k:Nat) (ret:Tm→Option S) (t:Tm):Option S:=
 ab (decide ((t.kind:Int)<0)) (
 ret (ac t)) (
 aa k (vD k (ac t) 2 1) fun r1=>
 ab (!(r1.2==0)) (
  aa k (eR k r1.2) fun r2=>
  ret (Tm.mk r2.1 r2.2.1 r2.2.2 [] [] [])) (
  aa k (vF k (ac r1.1) 0 [(Cl.mk 2 0)]) fun r3=>
  ret (ac r3)))
noncomputable def AM {S:Type} (k:Nat) (t:Tm) (ret:Tm→Option S):Option S:=QA k ret t
def Qz {S:Type} (k:Nat) (ret:Tm×Int→Option S) (t:Tm):Option S:=
 aa k (qI k (ac t)) fun r1=>
 ab (!(r1==0)) (
 ret ((Tm.mk 0 0 ByteArray.empty [] [] []),r1)) (
 aa k (AM k (ac t)) fun r2=>
 ab (decide ((r2.kind:Int)<0)) (
  ret ((Tm.mk 0 0 ByteArray.empty [] [] []),IntKind.wrap .i64 (0-r2.kind))) (
  ret ((ac r2),0)))
noncomputable def vG {S:Type} (k:Nat) (t:Tm) (ret:Tm×Int→Option S):Option S:=Qz k ret t
def PW {S:Type} (k:Nat) (ret:Bool→Option S) (t:Tm):Option S:=
 fq k (ac t) 200 fun r1=>
 ab (decide ((r1:Int)>200)) (
 aa k (qz k) fun r2=>
 ret r2) (
 gS k (ac t) fun r3=>
 aa k (qT k (ac r3)) fun r4=>
 aa k (vG k (ac t)) fun r5=>
 dO k (ac r4.1) (ac r5.1) fun r6=>
 ab (r6) (
  ab (r4.2==r5.2) (
  dO k (ac r3) (ac t) fun r7=>
  ab (r7) (
   aa k (qz k) fun r8=>
   ret r8) (
   ret false)) (
  ret false)) (
  ret false))
noncomputable def vj {S:Type} (k:Nat) (t:Tm) (ret:Bool→Option S):Option S:=PW k ret t
end
end Go.Proofs.YtgajalidbabccaaGreatDoor
namespace Go.Proofs.YtgajalidbabccaaGreatDoor
open Go PI
set_option linter.unusedVariables false
set_option maxRecDepth 100000
noncomputable section
abbrev Ur (S:Type):=Tm→Int→(Int→Option S)→Option S
abbrev Us (S:Type):=Tm→Int→Tm→Int→Int→(Tm→Option S)→Option S
abbrev Uq (S:Type):=Tm→(Int→Option S)→Option S
abbrev Un (S:Type):=Tm→(Int→Option S)→Option S
abbrev Uo (S:Type):=Tm→(Int→Option S)→Option S
end
end Go.Proofs.YtgajalidbabccaaGreatDoor
namespace Go.Proofs.YtgajalidbabccaaGreatDoor
open Go PI
set_option linter.unusedVariables false
set_option linter.unusedSimpArgs false
abbrev M24:Nat:=16777215
theorem K_ {n:Nat} (h:n<24):2^n<4294967296:=Nat.lt_of_lt_of_le (Nat.pow_lt_pow_right (by decide) h) (by decide)
theorem Af (n:Nat):(2:Int)^n=((2^n:Nat):Int):=by simp
theorem Bn (m n:Nat):Int.fdiv (m:Int) ((2:Int)^n)=((m/2^n:Nat):Int):=by
 grind
variable {S:Type} {k:Nat}
theorem yu (hk:Fu k) (i:Int) (ret:Bool→Option S):lf k i ret=ret (decide (0≤i∧i<24)):=by
 grind [lf,P7,aH]
theorem ahx (hk:Fu k) {m:Nat} (hm:m<4294967296) (ret:Bool→Option S):mU k (m:Int) ret=ret (decide (m<16777216)):=by
 simp only [mU,P3]
 rw [show (16777215:Int)=((16777215:Nat):Int) from rfl,zN hm (by decide)]
 congr 1
 rw [Bool.eq_iff_iff]
 simp only [beq_iff_eq,decide_eq_true_eq]
 have key:di m 16777215=0↔m<16777216:=by
  constructor
  ·intro h
   apply Nat.lt_pow_two_of_testBit (n:=24)
   intro i hi
   have h2:=kj m 16777215 i
   rw [h,Nat.zero_testBit] at h2
   have:(16777215:Nat).testBit i=false:=Nat.testBit_lt_two_pow (Nat.lt_of_lt_of_le (by decide:16777215<2^24) (Nat.pow_le_pow_right (by decide) hi))
   grind
  ·intro h
   apply Nat.eq_of_testBit_eq
   intro i
   rw [kj,Nat.zero_testBit]
   by_cases hi:i<24
   ·have:(16777215:Nat).testBit i=true:=by
     rw [show (16777215:Nat)=2^24-1 from rfl,Nat.testBit_two_pow_sub_one];grind
    grind
   ·have h2:(2:Nat)^24≤2^i:=Nat.pow_le_pow_right (by decide) (by omega)
    grind [Nat.testBit_lt_two_pow]
 omega
theorem ahv (hk:Fu k) {m:Nat} (hm:m<4294967296) (i:Int) (ret:Bool→Option S):fj k (m:Int) i ret=ret (decide (0≤i∧i<24)&&m.testBit i.toNat):=by
 simp only [fj,P2,yu hk,al hk]
 by_cases h:0≤i∧i<24
 ·obtain ⟨n,rfl⟩: ∃n:Nat,i=n:=⟨i.toNat,by omega⟩
  have hn:n<24:=by omega
  rw [decide_eq_true h,aj,Bool.true_and,gC n (by omega),gE _ (by omega)]
  congr 1
  rw [Int.toNat_natCast,Nat.min_eq_left (by omega),Bn,show (1:Int)=((1:Nat):Int) from rfl,jz (Nat.lt_of_le_of_lt (Nat.div_le_self _ _) hm) (by decide)]
  grind
 grind [ai]
theorem ahy (hk:Fu k) {m:Nat} (hm:m<4294967296) (i:Int) (ret:Int→Option S):gM k (m:Int) i ret=ret (if 0≤i∧i<24 then (((m&&&M24)|||2^i.toNat:Nat):Int) else ((m&&&M24:Nat):Int)):=by
 simp only [gM,P4,yu hk,al hk]
 have hand:aL .and .u32 (m:Int) 16777215=((m&&&M24:Nat):Int):=jz hm (by decide:(16777215:Nat)<4294967296)
 have hlt:m&&&M24<4294967296:=pm (n:=32) hm
 rw [hand]
 by_cases h:0≤i∧i<24
 ·obtain ⟨n,rfl⟩: ∃n:Nat,i=n:=⟨i.toNat,by omega⟩
  grind [gC,ai,gE,Int.toNat_natCast,jv,K_,tz]
 ·rw [decide_eq_false h,if_neg h];rfl
theorem ahz (hk:Fu k) {m:Nat} (hm:m<4294967296) (i:Int) (ret:Int→Option S):iF k (m:Int) i ret=ret (if 0≤i∧i<24 then ((di (m&&&M24) (2^i.toNat):Nat):Int) else ((m&&&M24:Nat):Int)):=by
 simp only [iF,P5,yu hk,al hk]
 have hand:aL .and .u32 (m:Int) 16777215=((m&&&M24:Nat):Int):=jz hm (by decide:(16777215:Nat)<4294967296)
 have hlt:m&&&M24<4294967296:=pm (n:=32) hm
 rw [hand]
 by_cases h:0≤i∧i<24
 ·grind [gC,ai,gE,Int.toNat_natCast,jv,K_,zN]
 ·rw [decide_eq_false h,if_neg h];rfl
theorem O5 (hk:Fu k) (n:Nat) (hn:n<18446744073709551616) (ret:Int→Option S):mV k (n:Int) ret=ret ((2^min n 24-1:Nat):Int):=by
 simp only [mV,P6]
 have e:(if (24:Int)<(n:Int) then (24:Int) else (n:Int))=((min n 24:Nat):Int):=by
  omega
 rw [e,gC _ (by omega),gE _ (by omega),Int.toNat_natCast]
 congr 1
 generalize hq:min n 24=q
 have hq24:q≤24:=by omega
 rw [Nat.min_eq_left (by omega),Int.one_mul,Af]
 have h1:2^q≤2^24:=Nat.pow_le_pow_right (by decide) hq24
 grind [gC,jv]
def fG (m n:Nat):Nat:=(m&&&M24)&&&(2^min n 24-1)
def cP (m n:Nat):Nat:=di (m&&&M24) (2^min n 24-1)
def dS (m n b:Nat):Nat×Nat:=
 if cP m n=0 then (fG m n,0) else if 24≤b then (0,10) else if cP m n*2^b>16777215 then (0,10) else (fG m n|||(cP m n*2^b),0)
theorem ahw (hk:Fu k) {m:Nat} (hm:m<4294967296) (n b:Nat) (hn:n<9223372036854775808) (hb:b<9223372036854775808) (ret:Int×Int→Option S):
  jF k (m:Int) (n:Int) (b:Int) ret=ret (((dS m n b).1:Int),((dS m n b).2:Int)):=by
 have hand:aL .and .u32 (m:Int) 16777215=((m&&&M24:Nat):Int):=jz hm (by decide:(16777215:Nat)<4294967296)
 have hlt:m&&&M24<16777216:=Nat.lt_of_le_of_lt Nat.and_le_right (by decide)
 have hbl:2^min n 24-1<4294967296:=by
  have:2^min n 24≤2^24:=Nat.pow_le_pow_right (by decide) (by omega)
  omega
 have hhi:cP m n<16777216:=sr (n:=24) hlt
 have hlow:aL .and .u32 ((m&&&M24:Nat):Int) ((2^min n 24-1:Nat):Int)=((fG m n:Nat):Int):=jz (by omega) hbl
 have hhigh:aL .andNot .u32 ((m&&&M24:Nat):Int) ((2^min n 24-1:Nat):Int)=((cP m n:Nat):Int):=zN (by omega) hbl
 simp only [jF,yx]
 rw [aH,aH,if_neg (by omega),if_neg (by omega)]
 simp only [O5 hk n (by omega),al hk,hand,hlow,hhigh]
 rw [gC _ (by omega)]
 unfold dS
 by_cases h0:cP m n=0
 ·grind [aj]
 ·rw [if_neg h0]
  have hb0:(((cP m n:Nat):Int)==0)=false:=by
   grind
  simp only [hb0,ai,aH]
  by_cases h24:24≤b
  ·grind
  ·rw [if_neg (by omega),if_neg h24,gC b (by omega),gE _ (by omega),Int.toNat_natCast,Nat.min_eq_left (by omega),Af]
   have hp:2^b≤2^23:=Nat.pow_le_pow_right (by decide) (by omega)
   have h23:(2:Nat)^23=8388608:=by decide
   have hmul:cP m n*2^b<18446744073709551616:=by
    have:=Nat.mul_le_mul (Nat.le_of_lt hhi) hp
    omega
   have ec:((cP m n:Nat):Int)*((2^b:Nat):Int)=((cP m n*2^b:Nat):Int):=by simp
   rw [ec,gC _ hmul]
   by_cases hg:cP m n*2^b>16777215
   ·grind
   ·rw [if_neg (by omega),if_neg hg]
    rw [jv _ (by omega),gE _ (by omega),tz (by grind [fG,Nat.and_le_left]) (by omega)]
    rfl
end Go.Proofs.YtgajalidbabccaaGreatDoor
namespace Go.Proofs.YtgajalidbabccaaGreatDoor
open Go PI
set_option linter.unusedVariables false
set_option linter.unusedSimpArgs false
set_option maxRecDepth 20000
variable {S:Type} {k:Nat}
def bW (l:List Nat):Nat:=(l.map (2^ ·)).sum
theorem WK {x a:Nat} (h:x.testBit a=false):x+2^a=x|||2^a:=by
 have h1:x=2^(a+1)*(x/2^(a+1))+x%2^(a+1):=(Nat.div_add_mod _ _).symm
 have hlt:x%2^(a+1)<2^a:=by
  have hb:(x%2^(a+1)).testBit a=false:=by grind
  grind [Nat.lt_pow_two_of_testBit,Nat.testBit_lt_two_pow]
 generalize x/2^(a+1)=q at h1
 generalize x%2^(a+1)=r at h1 hlt
 have hp:(2:Nat)^(a+1)=2^a*2:=Nat.pow_succ 2 a
 have e1:2^a+r=2^a|||r:=by
  have:=Nat.two_pow_add_eq_or_of_lt hlt 1
  grind
 have e2:x=2^(a+1)*q|||r:=by grind [Nat.two_pow_add_eq_or_of_lt]
 grind [Nat.two_pow_add_eq_or_of_lt]
theorem mt: ∀ (l:List Nat),l.Nodup→ ∀j,(bW l).testBit j=decide (j∈l):=by
 intro l
 induction l with
 |nil=>grind [bW]
 |cons a l ih=>
  intro hn j
  have hn':=List.nodup_cons.1 hn
  have ha:(bW l).testBit a=false:=by grind
  have e:bW (a::l)=bW l|||2^a:=by
   grind [WK,bW]
  grind
theorem ahl: ∀ (l:List Nat),(∀x∈l,x<24)→bW l≤l.length*8388608:=by
 intro l
 induction l with
 |nil=>intro _;simp [bW]
 |cons a l ih=>
  intro h
  have h1:=ih fun x hx=>h x (by simp [hx])
  have h2:2^a≤2^23:=Nat.pow_le_pow_right (by decide) (by have:=h a (by simp);omega)
  grind [bW]
def bu (m:Nat):List Nat:=(List.range 24).filter m.testBit
theorem mF (m:Nat):(bu m).Nodup:=List.nodup_range.filter _
theorem mem_bitsN {m j:Nat}:j∈bu m↔j<24∧m.testBit j=true:=by simp [bu]
theorem fg (m:Nat):(bu m).length≤24:=by
 grind [bu]
theorem fT (j:Nat):M24.testBit j=decide (j<24):=by
 rw [show M24=2^24-1 from rfl,Nat.testBit_two_pow_sub_one]
theorem D9 (m:Nat):bW (bu m)=m&&&M24:=by
 apply Nat.eq_of_testBit_eq
 grind [mt,mF,fT,mem_bitsN]
theorem acL (ret:Int→Option S) (n:Nat) (hn:n≤30): ∀ (d i m:Nat),i+d=n→d<m→nR k ret (n:Int) m ((2^i:Nat):Int) (i:Int)=ret ((2^n:Nat):Int):=by
 intro d
 induction d with
 |zero=>
  intro i m h hm
  obtain ⟨m,rfl⟩: ∃q,m=q+1:=⟨m-1,by omega⟩
  grind [nR,t7,aH]
 |succ d ih=>
  intro i m h hm
  obtain ⟨m,rfl⟩: ∃q,m=q+1:=⟨m-1,by omega⟩
  simp only [nR,t7,aH]
  have hp:2^i≤2^30:=Nat.pow_le_pow_right (by decide) (by omega)
  have h30:(2:Nat)^30=1073741824:=by decide
  have hc:(0:Int)≤((2^i:Nat):Int):=Int.natCast_nonneg _
  rw [if_pos (by omega),da (by omega) (by omega),da (by omega) (by omega)]
  have e1:((2^i:Nat):Int)*2=((2^(i+1):Nat):Int):=by rfl
  grind
theorem Ea (hk:Fu k) (n:Nat) (hn:n≤30) (ret:Int→Option S):m6 k (n:Int) ret=ret ((2^n:Nat):Int):=by
 simp only [m6,EO]
 have:=acL (k:=k) ret n hn n 0 k (by omega) (by omega)
 omega
theorem ahC (hk:Fu k) {m:Nat} (hm:m<4294967296) (ret:Bool→Option S):m0 k (m:Int) ret=ret (decide (m<16777216)):=by
 simp only [m0,Qa,al hk]
 rw [show (24:Int)=((24:Nat):Int) from rfl,Ea hk 24 (by omega),da (by omega) (by omega)]
 grind [decide]
theorem O6 (hk:Fu k) {m:Nat} (hm:m<4294967296) (i:Int) (ret:Bool→Option S):dp k (m:Int) i ret=ret (decide (0≤i∧i<24)&&m.testBit i.toNat):=by
 simp only [dp,P_,aH,al hk]
 by_cases h0:i≥0
 ·rw [if_pos h0]
  by_cases h1:i<24
  ·rw [if_pos h1]
   obtain ⟨n,rfl⟩: ∃n:Nat,i=n:=⟨i.toNat,by omega⟩
   have hp:0<2^n:=Nat.two_pow_pos n
   rw [Ea hk n (by omega),gE _ (by omega)]
   rw [da (n:=(m:Int)) (by omega) (by omega)]
   have e1:Int.tdiv (m:Int) ((2^n:Nat):Int)=((m/2^n:Nat):Int):=(Int.ofNat_tdiv m (2^n)).symm
   rw [e1]
   have hd:m/2^n≤m:=Nat.div_le_self _ _
   have hc:(0:Int)≤((m/2^n:Nat):Int):=Int.natCast_nonneg _
   rw [da (by omega) (by omega)]
   have e2:Int.tmod ((m/2^n:Nat):Int) 2=((m/2^n%2:Nat):Int):=(Int.ofNat_tmod (m/2^n) 2).symm
   rw [e2,decide_eq_true (by omega),Bool.true_and,Int.toNat_natCast]
   congr 1
   grind
  grind
 grind
def ints (l:List Nat):List Int:=l.map Int.ofNat
theorem BB (l:List Nat) (i:Nat):(ints l)[i]? =(l[i]?).map Int.ofNat:=by simp [ints]
theorem dQ (l:List Nat):(ints l).length=l.length:=by simp [ints]
theorem ab6 (hk:Fu k) (ret:Int→Option S) (l:List Nat) (hl:l.length≤64) (h24: ∀x∈l,x<24): ∀ (d i m:Nat),i+d=l.length→d<m→nP k ret (ints l) m ((bW (l.take i):Nat):Int) (i:Int)=ret ((bW l:Nat):Int):=by
 have hbound: ∀i,bW (l.take i)≤64*8388608:=by
  grind [ahl]
 intro d
 induction d with
 |zero=>
  intro i m h hm
  obtain ⟨m,rfl⟩: ∃q,m=q+1:=⟨m-1,by omega⟩
  grind [nP,tZ,aH,dQ,jv]
 |succ d ih=>
  intro i m h hm
  obtain ⟨m,rfl⟩: ∃q,m=q+1:=⟨m-1,by omega⟩
  simp only [nP,tZ,aH,dQ,al hk]
  have hi:i<l.length:=by omega
  rw [if_pos (by omega),ww,BB,List.getElem?_eq_getElem hi]
  simp only [Option.map_some,Option.bind_some]
  have hx:=h24 _ (List.getElem_mem hi)
  have hb:=hbound i
  rw [show Int.ofNat l[i]=((l[i]:Nat):Int) from rfl,Ea hk _ (by omega)]
  have hp:2^l[i]≤2^24:=Nat.pow_le_pow_right (by decide) (by omega)
  have h24:(2:Nat)^24=16777216:=by decide
  have hc:(0:Int)≤((2^l[i]:Nat):Int):=Int.natCast_nonneg _
  rw [da (by omega) (by omega),da (by omega) (by omega)]
  have e1:((bW (l.take i):Nat):Int)+((2^l[i]:Nat):Int)=((bW (l.take (i+1)):Nat):Int):=by
   grind [List.take_add_one,bW]
  grind
theorem oU (hk:Fu k) (l:List Nat) (hl:l.length≤64) (h24: ∀x∈l,x<24) (ret:Int→Option S):gP k (ints l) ret=ret ((bW l:Nat):Int):=by
 simp only [gP,EK]
 have:=ab6 hk ret l hl h24 l.length 0 k (by omega) (by omega)
 grind [bW]
theorem ab4 (hk:Fu k) (ret:List Int→Option S) {q:Nat} (hq:q<4294967296): ∀ (d i m:Nat),i+d=24→d<m→rz k ret (q:Int) m (ints ((List.range i).filter q.testBit)) (i:Int)=ret (ints (bu q)):=by
 intro d
 induction d with
 |zero=>
  intro i m h hm
  obtain ⟨m,rfl⟩: ∃q,m=q+1:=⟨m-1,by omega⟩
  have:i=24:=by omega
  subst this
  rfl
 |succ d ih=>
  intro i m h hm
  obtain ⟨m,rfl⟩: ∃q,m=q+1:=⟨m-1,by omega⟩
  simp only [rz,zU,aH,al hk]
  rw [if_pos (by omega),O6 hk hq,decide_eq_true (by omega),Bool.true_and,Int.toNat_natCast,da (by omega) (by omega)]
  have e2:(i:Int)+1=((i+1:Nat):Int):=by simp
  have hlen:(ints ((List.range i).filter q.testBit)).length≤24:=by
   grind [dQ]
  rw [e2]
  cases hb:q.testBit i with
  |true=>
   rw [aj,aM (by grind)]
   have:ints ((List.range i).filter q.testBit)++[(i:Int)]=ints ((List.range (i+1)).filter q.testBit):=by
    grind [List.range_succ,ints]
   grind
  |false=>
   rw [ai]
   have:ints ((List.range i).filter q.testBit)=ints ((List.range (i+1)).filter q.testBit):=by
    grind [List.range_succ]
   grind
theorem oT (hk:Fu k) {q:Nat} (hq:q<4294967296) (ret:List Int→Option S):gO k (q:Int) ret=ret (ints (bu q)):=by
 simp only [gO,EJ]
 have:=ab4 hk ret hq 24 0 k (by omega) (by omega)
 grind [ints]
theorem ab7 (hk:Fu k) (ret:Int→Option S) (n:Int) (l:List Nat) (hl:l.length≤64) (h24: ∀x∈l,x<24): ∀ (d i m:Nat),i+d=l.length→d<m→
  nQ k ret n (ints l) m (ints ((l.take i).filter fun x:Nat=> !((x:Int)==n))) (i:Int)=ret ((bW (l.filter fun x:Nat=> !((x:Int)==n)):Nat):Int):=by
 intro d
 induction d with
 |zero=>
  intro i m h hm
  obtain ⟨m,rfl⟩: ∃q,m=q+1:=⟨m-1,by omega⟩
  grind [nQ,t6,aH,dQ,al,oU]
 |succ d ih=>
  intro i m h hm
  obtain ⟨m,rfl⟩: ∃q,m=q+1:=⟨m-1,by omega⟩
  simp only [nQ,t6,aH,dQ,al hk]
  have hi:i<l.length:=by omega
  rw [if_pos (by omega),ww,BB,List.getElem?_eq_getElem hi]
  simp only [Option.map_some,Option.bind_some]
  rw [da (n:=(i:Int)+1) (by omega) (by omega)]
  have e2:(i:Int)+1=((i+1:Nat):Int):=by simp
  rw [e2,show Int.ofNat l[i]=((l[i]:Nat):Int) from rfl]
  have et:(l.take (i+1)).filter (fun x:Nat=> !((x:Int)==n))=(l.take i).filter (fun x:Nat=> !((x:Int)==n))++(if !((l[i]:Int)==n) then [l[i]] else []):=by
   grind [List.take_add_one]
  grind [aj,aM,ints,ai]
theorem tf (hk:Fu k) {q:Nat} (hq:q<4294967296) (i:Int) (ret:Int→Option S):fl k (q:Int) i ret=ret (if 0≤i∧i<24 then ((di (q&&&M24) (2^i.toNat):Nat):Int) else ((q&&&M24:Nat):Int)):=by
 simp only [fl,EM,al hk,oT hk hq]
 have:=ab7 hk ret i (bu q) (by have:=fg q;omega) (fun x hx=>(mem_bitsN.1 hx).1) (bu q).length 0 k (by omega) (by have:=fg q;omega)
 simp only [List.take_zero,List.filter_nil] at this
 have h0:(ints []:List Int)=[]:=rfl
 rw [h0] at this
 refine Eq.trans this ?_
 congr 1
 have hnd:((bu q).filter fun x:Nat=> !((x:Int)==i)).Nodup:=(mF q).filter _
 by_cases h:0≤i∧i<24
 ·rw [if_pos h]
  congr 1
  apply Nat.eq_of_testBit_eq
  grind [mt,kj,fT,mem_bitsN]
 grind [D9,List.filter_eq_self,mem_bitsN]
theorem ahD (hk:Fu k) {q:Nat} (hq:q<4294967296) (i:Int) (ret:Int→Option S):qB k (q:Int) i ret=ret (if 0≤i∧i<24 then (((q&&&M24)|||2^i.toNat:Nat):Int) else ((q&&&M24:Nat):Int)):=by
 simp only [qB,Qb,aH,al hk]
 have hq24:q&&&M24<4294967296:=pm (n:=32) hq
 by_cases h0:i<0
 ·grind [tf]
 ·rw [if_neg h0]
  by_cases h1:i≥24
  ·grind [tf]
  ·rw [if_neg h1,tf hk hq,if_pos (by omega),if_pos (by omega)]
   obtain ⟨n,rfl⟩: ∃n:Nat,i=n:=⟨i.toNat,by omega⟩
   have hw:di (q&&&M24) (2^n)<4294967296:=sr (n:=32) hq24
   rw [Int.toNat_natCast,oT hk hw,aM (by grind [dQ,fg])]
   have e:ints (bu (di (q&&&M24) (2^n)))++[(n:Int)]=ints (bu (di (q&&&M24) (2^n))++[n]):=by simp [ints]
   rw [e,oU hk _ (by grind [fg]) (fun x hx=>by
    grind [mem_bitsN])]
   congr 2
   apply Nat.eq_of_testBit_eq
   intro j
   rw [mt]
   all_goals grind [fT,mem_bitsN,kj,mF]
end Go.Proofs.YtgajalidbabccaaGreatDoor
namespace Go.Proofs.YtgajalidbabccaaGreatDoor
open Go PI
set_option linter.unusedVariables false
set_option linter.unusedSimpArgs false
set_option maxRecDepth 20000
variable {S:Type} {k:Nat}
theorem ri {α:Type} (p r:List α) (x:α):ah (p++x::r) (p.length:Int)=some x:=by simp [ah]
theorem ahm {α:Type} (p r:List α) (x y:α):(p++x::r).set p.length y=(p++[y])++r:=by simp
theorem mG {m:Nat} (h:m<16777216) {j:Nat} (hj:m.testBit j=true):j<24:=by
 apply Classical.byContradiction
 intro hn
 have:m<2^j:=Nat.lt_of_lt_of_le h (Nat.pow_le_pow_right (n:=2) (i:=24) (j:=j) (by decide) (by omega))
 grind [Nat.testBit_lt_two_pow]
theorem I5 (m:Nat):m<16777216↔ ∀j,m.testBit j=true→j<24:=by
 constructor
 ·intro h j hj;exact mG h hj
 ·intro h
  apply Nat.lt_pow_two_of_testBit (n:=24)
  grind
def dy (n b x:Nat):Nat:=if x<n then x else x+b
theorem ab3 (hk:Fu k) (ret:Int×Int→Option S) (n b:Nat) (hn:n<9223372036854775808) (hb:b<9223372036854775808):
  ∀ (r p:List Nat) (m:Nat),(p++r).length≤24→(∀x∈r,x<24)→r.length<m→(∀x∈p,x<24)→
  lE k ret (n:Int) (b:Int) m (ints (p++r)) (p.length:Int)=
   if (∃x∈r,n≤x∧24≤x+b) then ret (0,10) else ret (((bW (p++r.map (dy n b)):Nat):Int),0):=by
 intro r
 induction r with
 |nil=>
  intro p m hl h24 hm hp
  obtain ⟨m,rfl,hm⟩:=ak hm
  grind [lE,tY,aH,dQ,al,oU]
 |cons x r ih=>
  intro p m hl h24 hm hp
  obtain ⟨m,rfl,hm⟩:=ak hm
  have hx:=h24 x (by simp)
  have hl':p.length+(r.length+1)≤24:=by grind
  have e0:ints (p++x::r)=ints p++(x:Int)::ints r:=by simp [ints]
  have el:(p.length:Int)=((ints p).length:Int):=by rw [dQ]
  simp only [lE,tY,aH,al hk]
  rw [if_pos (by grind),e0,el,ri]
  simp only [Option.bind_some]
  have ew:IntKind.wrap .i64 (((ints p).length:Int)+1)=(((p++[x]).length:Nat):Int):=by
   grind [da]
  have key: ∀y:Nat,y<24→lE k ret (n:Int) (b:Int) m (ints p++(y:Int)::ints r) (((p++[x]).length:Nat):Int)=if (∃x∈r,n≤x∧24≤x+b) then ret (0,10) else ret (((bW ((p++[y])++r.map (dy n b)):Nat):Int),0):=by
   intro y hy
   have:=ih (p++[y]) m (by grind) (fun z hz=>h24 z (by simp [hz])) (by grind) (by
    grind)
   grind [ints]
  rw [ew]
  by_cases hxn:x<n
  ·rw [if_pos (by omega),key x hx]
   have e1:dy n b x=x:=by grind [dy]
   have e2:(∃z∈x::r,n≤z∧24≤z+b)↔(∃z∈r,n≤z∧24≤z+b):=by
    grind
   simp only [e2,List.map_cons,e1,List.append_assoc,List.singleton_append]
  ·rw [if_neg (by omega),da (n:=24-(x:Int)) (by omega) (by omega)]
   by_cases hby:24≤x+b
   ·rw [if_pos (by omega),if_pos ⟨x,by simp,by omega,hby⟩]
   ·rw [if_neg (by omega),da (n:=(x:Int)+(b:Int)) (by omega) (by omega),Int.toNat_natCast]
    have e3:(x:Int)+(b:Int)=((x+b:Nat):Int):=by simp
    rw [e3,ahm,List.append_assoc,List.singleton_append,key (x+b) (by omega)]
    have e1:dy n b x=x+b:=by grind [dy]
    have e2:(∃z∈x::r,n≤z∧24≤z+b)↔(∃z∈r,n≤z∧24≤z+b):=by
     grind
    simp only [e2,List.map_cons,e1,List.append_assoc,List.singleton_append]
theorem z_ (m n j:Nat):(fG m n).testBit j=(m.testBit j&&decide (j<n∧j<24)):=by
 grind [fG,fT]
theorem Gf (m n j:Nat):(cP m n).testBit j=(m.testBit j&&decide (n≤j∧j<24)):=by
 grind [cP,kj,fT]
theorem Cc (m n b:Nat):dS m n b=if (∃x∈bu m,n≤x∧24≤x+b) then (0,10) else (bW ((bu m).map (dy n b)),0):=by
 have hnd:((bu m).map (dy n b)).Nodup:=by
  grind [dy,mF]
 have hset: ∀j,(bW ((bu m).map (dy n b))).testBit j=((fG m n).testBit j||(decide (b≤j)&&(cP m n).testBit (j-b))):=by
  intro j
  rw [mt _ hnd,z_,Gf,Bool.eq_iff_iff]
  simp only [decide_eq_true_eq,List.mem_map,mem_bitsN,Bool.or_eq_true,Bool.and_eq_true]
  grind [dy]
 have hhigh: ∀j,(cP m n).testBit j=true↔(j∈bu m∧n≤j):=by
  grind [Gf,mem_bitsN]
 unfold dS
 by_cases h0:cP m n=0
 ·rw [if_pos h0,if_neg]
  ·congr 1
   apply Nat.eq_of_testBit_eq
   grind
  grind
 ·rw [if_neg h0]
  have hex: ∃j,(cP m n).testBit j=true:=by
   apply Classical.byContradiction
   intro hne
   apply h0
   apply Nat.eq_of_testBit_eq
   grind
  have hmul: ∀j,(cP m n*2^b).testBit j=(decide (b≤j)&&(cP m n).testBit (j-b)):=by
   grind
  by_cases h24:24≤b
  ·rw [if_pos h24]
   obtain ⟨j,hj⟩:=hex
   have:=(hhigh j).1 hj
   rw [if_pos ⟨j,this.1,this.2,by omega⟩]
  ·rw [if_neg h24]
   have hlt:=I5 (cP m n*2^b)
   by_cases hg:cP m n*2^b>16777215
   ·rw [if_pos hg,if_pos]
    grind
   ·rw [if_neg hg,if_neg]
    ·congr 1
     apply Nat.eq_of_testBit_eq
     grind
    ·rintro ⟨x,h1,h2,h3⟩
     have hx:(cP m n*2^b).testBit (x+b)=true:=by
      simp_all
     grind
theorem ahB (hk:Fu k) {m:Nat} (hm:m<4294967296) (n b:Nat) (hn:n<9223372036854775808) (hb:b<9223372036854775808) (ret:Int×Int→Option S):
  jI k (m:Int) (n:Int) (b:Int) ret=ret (((dS m n b).1:Int),((dS m n b).2:Int)):=by
 simp only [jI,tk,aH,al hk]
 rw [if_neg (by omega),if_neg (by omega),oT hk hm]
 have:=ab3 hk ret n b hn hb (bu m) [] k (by grind [fg]) (fun x hx=>(mem_bitsN.1 hx).1) (by grind [fg]) (by simp)
 simp only [List.nil_append] at this
 refine Eq.trans this ?_
 rw [Cc]
 split<;>rfl
def iH (m:Nat) (i:Int):Nat:=if 0≤i∧i<24 then fG m i.toNat|||((m&&&M24)/2^(i.toNat+1)*2^i.toNat) else m&&&M24
theorem ahu (hk:Fu k) {m:Nat} (hm:m<4294967296) (i:Int) (ret:Int→Option S):mT k (m:Int) i ret=ret ((iH m i:Nat):Int):=by
 simp only [mT,P1,yu hk,al hk]
 have hand:aL .and .u32 (m:Int) 16777215=((m&&&M24:Nat):Int):=jz hm (by decide:(16777215:Nat)<4294967296)
 have hlt:m&&&M24<16777216:=Nat.lt_of_le_of_lt Nat.and_le_right (by decide)
 rw [hand]
 unfold iH
 by_cases h:0≤i∧i<24
 ·obtain ⟨n,rfl⟩: ∃n:Nat,i=n:=⟨i.toNat,by omega⟩
  have hn:n<24:=by omega
  rw [decide_eq_true h,if_pos h,Bool.not_true,ai,O5 hk n (by omega)]
  have e1:(n:Int)+1=((n+1:Nat):Int):=by simp
  rw [da (by omega) (by omega),e1,gC _ (by omega),gC _ (by omega),gE _ (by omega),gE _ (by omega)]
  rw [Int.toNat_natCast,Int.toNat_natCast,Nat.min_eq_left (show n+1≤32 by omega),Nat.min_eq_left (show n≤32 by omega),Bn,Af]
  have hb:2^min n 24-1<4294967296:=by
   have:2^min n 24≤2^24:=Nat.pow_le_pow_right (by decide) (by omega)
   omega
  have hq:(m&&&M24)/2^(n+1)*2^n≤m&&&M24:=by
   have h1:(m&&&M24)/2^(n+1)*2^(n+1)≤m&&&M24:=Nat.div_mul_le_self _ _
   have h2:2^n≤2^(n+1):=Nat.pow_le_pow_right (by decide) (by omega)
   exact Nat.le_trans (Nat.mul_le_mul_left _ h2) h1
  have ec:((((m&&&M24)/2^(n+1):Nat):Int))*((2^n:Nat):Int)=(((m&&&M24)/2^(n+1)*2^n:Nat):Int):=by simp
  rw [ec,jv _ (by omega),jz (by omega) hb]
  have hlow:fG m n<4294967296:=by grind [fG,Nat.and_le_left]
  show ret (aL .or .u32 ((fG m n:Nat):Int) _)=_
  rw [tz hlow (by omega)]
 ·rw [decide_eq_false h,if_neg h];rfl
def gW (i:Int) (x:Nat):Nat:=if 0≤i∧i<(x:Int) then x-1 else x
theorem ab1 (hk:Fu k) (ret:Int→Option S) (i:Int):
  ∀ (r p:List Nat) (m:Nat),(p++r).length≤24→(∀x∈r,x<24)→r.length<m→(∀x∈p,x<24)→
  lD k ret i m (ints (p++r)) (p.length:Int)=ret ((bW (p++r.map (gW i)):Nat):Int):=by
 intro r
 induction r with
 |nil=>
  intro p m hl h24 hm hp
  obtain ⟨m,rfl,hm⟩:=ak hm
  simp only [lD,tX,aH,dQ,al hk]
  grind [oU]
 |cons x r ih=>
  intro p m hl h24 hm hp
  obtain ⟨m,rfl,hm⟩:=ak hm
  have hx:=h24 x (by simp)
  have hl':p.length+(r.length+1)≤24:=by grind
  have e0:ints (p++x::r)=ints p++(x:Int)::ints r:=by simp [ints]
  have el:(p.length:Int)=((ints p).length:Int):=by rw [dQ]
  simp only [lD,tX,aH,al hk]
  rw [if_pos (by grind),e0,el,ri]
  simp only [Option.bind_some]
  have ew:IntKind.wrap .i64 (((ints p).length:Int)+1)=(((p++[x]).length:Nat):Int):=by
   grind [da]
  have key: ∀y:Nat,y<24→lD k ret i m (ints p++(y:Int)::ints r) (((p++[x]).length:Nat):Int)=ret ((bW ((p++[y])++r.map (gW i)):Nat):Int):=by
   intro y hy
   have:=ih (p++[y]) m (by grind) (fun z hz=>h24 z (by simp [hz])) (by grind) (by
    grind)
   grind [ints]
  rw [ew]
  by_cases hi:i≥0
  ·rw [if_pos hi]
   by_cases hxi:(x:Int)>i<;>grind [da,Int.toNat_natCast,gW]
  grind [gW]
theorem XD (m:Nat) (i:Int):iH m i=bW ((bu (if 0≤i∧i<24 then di (m&&&M24) (2^i.toNat) else m&&&M24)).map (gW i)):=by
 unfold iH
 by_cases h:0≤i∧i<24
 ·rw [if_pos h,if_pos h]
  obtain ⟨n,rfl⟩: ∃n:Nat,i=n:=⟨i.toNat,by omega⟩
  have hn:n<24:=by omega
  rw [Int.toNat_natCast]
  have hmem: ∀j,j∈bu (di (m&&&M24) (2^n))↔(j<24∧m.testBit j=true∧j≠n):=by
   grind [mem_bitsN,kj,fT]
  have hnd:((bu (di (m&&&M24) (2^n))).map (gW n)).Nodup:=by
   grind [List.Pairwise.imp_of_mem,mF,gW]
  apply Nat.eq_of_testBit_eq
  intro j
  rw [mt _ hnd,Nat.testBit_or,z_,Nat.testBit_mul_two_pow,Nat.testBit_div_two_pow,Nat.testBit_and,fT,Bool.eq_iff_iff]
  grind [gW]
 ·rw [if_neg h,if_neg h]
  have e:(bu (m&&&M24)).map (gW i)=bu (m&&&M24):=by
   conv=>rhs;rw [←List.map_id (bu (m&&&M24))]
   grind [List.map_congr_left,mem_bitsN,gW]
  grind [D9]
theorem ahA (hk:Fu k) {m:Nat} (hm:m<4294967296) (i:Int) (ret:Int→Option S):mZ k (m:Int) i ret=ret ((iH m i:Nat):Int):=by
 simp only [mZ,EI,al hk,tf hk hm]
 have hlt:m&&&M24<4294967296:=Nat.lt_of_le_of_lt Nat.and_le_right (by decide)
 have e:(if 0≤i∧i<24 then ((di (m&&&M24) (2^i.toNat):Nat):Int) else ((m&&&M24:Nat):Int))=(((if 0≤i∧i<24 then di (m&&&M24) (2^i.toNat) else m&&&M24):Nat):Int):=by grind
 have hq:(if 0≤i∧i<24 then di (m&&&M24) (2^i.toNat) else m&&&M24)<4294967296:=by
  split
  ·exact sr (n:=32) hlt
  omega
 rw [e,oT hk hq,XD]
 generalize (if 0≤i∧i<24 then di (m&&&M24) (2^i.toNat) else m&&&M24)=q at hq ⊢
 have:=ab1 hk ret i (bu q) [] k (by grind [fg]) (fun x hx=>(mem_bitsN.1 hx).1) (by grind [fg]) (by simp)
 simp_all
end Go.Proofs.YtgajalidbabccaaGreatDoor
namespace Go.Proofs.YtgajalidbabccaaGreatDoor
open Go PI
set_option linter.unusedVariables false
set_option linter.unusedSimpArgs false
set_option maxRecDepth 20000
variable {S:Type} {k:Nat}
def aF (n:Int):Prop:= -9223372036854775808≤n∧n<9223372036854775808
def mm (s:Int):Bool:=decide (s<16777216)
def bj (s i:Int):Bool:=decide (0≤i∧i<24)&&s.toNat.testBit i.toNat
def ei (s i:Int):Int:=if 0≤i∧i<24 then (((s.toNat&&&M24)|||2^i.toNat:Nat):Int) else ((s.toNat&&&M24:Nat):Int)
def c_ (s i:Int):Int:=if 0≤i∧i<24 then ((di (s.toNat&&&M24) (2^i.toNat):Nat):Int) else ((s.toNat&&&M24:Nat):Int)
def eX (s:Int):List Int:=ints (bu s.toNat)
def ct (s i b:Int):Int×Int:=if i<0∨b<0 then (0,2) else (((dS s.toNat i.toNat b.toNat).1:Int),((dS s.toNat i.toNat b.toNat).2:Int))
def nh (s i:Int):Int:=((iH s.toNat i:Nat):Int)
theorem N4 (m:Nat):mm (m:Int)=decide (m<16777216):=by
 grind [mm]
theorem Ox (hk:Fu k) {s:Int} (h:U32 s) (ret:Bool→Option S):mU k s ret=ret (mm s):=by
 obtain ⟨m,hm,rfl⟩:=h.nat
 rw [ahx hk hm,N4]
theorem OU (hk:Fu k) {s:Int} (h:U32 s) (ret:Bool→Option S):m0 k s ret=ret (mm s):=by
 obtain ⟨m,hm,rfl⟩:=h.nat
 rw [ahC hk hm,N4]
theorem oQ (hk:Fu k) {s:Int} (h:U32 s) (i:Int) (ret:Bool→Option S):fj k s i ret=ret (bj s i):=by
 obtain ⟨m,hm,rfl⟩:=h.nat
 rw [ahv hk hm];rfl
theorem gz (hk:Fu k) {s:Int} (h:U32 s) (i:Int) (ret:Bool→Option S):dp k s i ret=ret (bj s i):=by
 obtain ⟨m,hm,rfl⟩:=h.nat
 rw [O6 hk hm];rfl
theorem ta (hk:Fu k) {s:Int} (h:U32 s) (i:Int) (ret:Int→Option S):gM k s i ret=ret (ei s i):=by
 obtain ⟨m,hm,rfl⟩:=h.nat
 rw [ahy hk hm];rfl
theorem ag7 (hk:Fu k) {s:Int} (h:U32 s) (i:Int) (ret:Int→Option S):qB k s i ret=ret (ei s i):=by
 obtain ⟨m,hm,rfl⟩:=h.nat
 rw [ahD hk hm];rfl
theorem tb (hk:Fu k) {s:Int} (h:U32 s) (i:Int) (ret:Int→Option S):iF k s i ret=ret (c_ s i):=by
 obtain ⟨m,hm,rfl⟩:=h.nat
 rw [ahz hk hm];rfl
theorem yo (hk:Fu k) {s:Int} (h:U32 s) (i:Int) (ret:Int→Option S):fl k s i ret=ret (c_ s i):=by
 obtain ⟨m,hm,rfl⟩:=h.nat
 rw [tf hk hm];rfl
theorem ag2 (hk:Fu k) {s:Int} (h:U32 s) (ret:List Int→Option S):gO k s ret=ret (eX s):=by
 obtain ⟨m,hm,rfl⟩:=h.nat
 rw [oT hk hm];rfl
theorem KJ {s:Int} (h:U32 s):ov s=eX s:=by
 obtain ⟨m,hm,rfl⟩:=h.nat
 have: ∀i:Nat,(BitVec.ofInt 32 (m:Int)).getLsbD i=m.testBit i:=by
  grind
 simp_all [ov,eX,ints,bu]
theorem Ov (hk:Fu k) {s i b:Int} (h:U32 s) (hi:aF i) (hb:aF b) (ret:Int×Int→Option S):jF k s i b ret=ret (ct s i b):=by
 obtain ⟨m,hm,rfl⟩:=h.nat
 by_cases h1:i<0
 ·grind [jF,yx,aH,ct]
 by_cases h2:b<0
 ·grind [jF,yx,aH,ct]
 obtain ⟨n,rfl⟩: ∃n:Nat,i=n:=⟨i.toNat,by omega⟩
 obtain ⟨c,rfl⟩: ∃n:Nat,b=n:=⟨b.toNat,by omega⟩
 have:=hi.2;have:=hb.2
 grind [ahw,ct]
theorem OR (hk:Fu k) {s i b:Int} (h:U32 s) (hi:aF i) (hb:aF b) (ret:Int×Int→Option S):jI k s i b ret=ret (ct s i b):=by
 obtain ⟨m,hm,rfl⟩:=h.nat
 by_cases h1:i<0
 ·grind [jI,tk,aH,ct]
 by_cases h2:b<0
 ·grind [jI,tk,aH,ct]
 obtain ⟨n,rfl⟩: ∃n:Nat,i=n:=⟨i.toNat,by omega⟩
 obtain ⟨c,rfl⟩: ∃n:Nat,b=n:=⟨b.toNat,by omega⟩
 have:=hi.2;have:=hb.2
 grind [ahB,ct]
theorem Ou (hk:Fu k) {s:Int} (h:U32 s) (i:Int) (ret:Int→Option S):mT k s i ret=ret (nh s i):=by
 obtain ⟨m,hm,rfl⟩:=h.nat
 rw [ahu hk hm];rfl
theorem OP (hk:Fu k) {s:Int} (h:U32 s) (i:Int) (ret:Int→Option S):mZ k s i ret=ret (nh s i):=by
 obtain ⟨m,hm,rfl⟩:=h.nat
 rw [ahA hk hm];rfl
theorem Ai (hk:Fu k) (ret:Int→Option S):jE k 0 ret=ret 0:=by
 simp only [jE,EH,al hk];rfl
theorem Aj (hk:Fu k) (ret:Int→Option S): ∀n:Nat,n<24→jE k ((2^n:Nat):Int) ret=ret 1:=by
 simp only [jE,EH,al hk]
 intro n hn
 match n,hn with
 |0,_|1,_|2,_|3,_|4,_|5,_|6,_|7,_|8,_|9,_|10,_|11,_|12,_|13,_|14,_|15,_|16,_|17,_|18,_|19,_|20,_|21,_|22,_|23,_=>rfl
 |n+24,h=>omega
theorem yF (i:Int):ei 0 i=if 0≤i∧i<24 then ((2^i.toNat:Nat):Int) else 0:=by
 grind [ei]
theorem agt (hk:Fu k) (i:Int) (ret:Bool→Option S):uX k i ret=ret (decide (0≤i∧i<24)):=by
 simp only [uX,Pj,al hk,ta hk (s:=0) ⟨by omega,by omega⟩,yF]
 grind [Aj,Ai]
theorem agu (hk:Fu k) (i:Int) (ret:Bool→Option S):qr k i ret=ret (decide (0≤i∧i<24)):=by
 simp only [qr,Pw,al hk,ta hk (s:=0) ⟨by omega,by omega⟩,yF]
 grind [Aj,Ai]
theorem U32.of {n:Nat} (h:n<4294967296):U32 (n:Int):=⟨by omega,by omega⟩
theorem withS_lt {s i:Int}:0≤ei s i∧ei s i<16777216:=by
 have h1:s.toNat&&&M24<16777216:=Nat.lt_of_le_of_lt Nat.and_le_right (by decide)
 unfold ei
 split
 ·next h=>
  have hp:2^i.toNat<2^24:=Nat.pow_lt_pow_right (by decide) (by omega)
  have:=Nat.or_lt_two_pow (n:=24) h1 hp
  omega
 ·omega
theorem FG {s i:Int}:0≤c_ s i∧c_ s i<16777216:=by
 have h1:s.toNat&&&M24<16777216:=Nat.lt_of_le_of_lt Nat.and_le_right (by decide)
 unfold c_
 split
 ·have:=sr (n:=24) (b:=2^i.toNat) h1
  omega
 ·omega
theorem XE (m:Nat) (i:Int):iH m i<16777216:=by
 have h1:m&&&M24<16777216:=Nat.lt_of_le_of_lt Nat.and_le_right (by decide)
 unfold iH
 split
 ·rw [I5]
  grind [z_,fT]
 omega
deriving instance DecidableEq for Cl
theorem Cl.ext' {a b:Cl} (h1:a.pos=b.pos) (h2:a.neg=b.neg):a=b:=by cases a<;>simp_all
theorem jA (a b:Cl):((a.pos==b.pos)&&((a.neg==b.neg)&&true))=decide (a=b):=by
 grind [Cl.ext']
def aG (c:Cl):Prop:=U32 c.pos∧U32 c.neg
def ao (f:List Cl):Prop:= ∀c∈f,aG c
def eG (c:Cl):Bool:=mm c.pos&&mm c.neg
def RC (c:Cl):Prop:=(0≤c.pos∧c.pos<16777216)∧(0≤c.neg∧c.neg<16777216)
theorem RC.ok {c:Cl} (h:RC c):aG c:=⟨⟨h.1.1,by have:=h.1.2;omega⟩,⟨h.2.1,by have:=h.2.2;omega⟩⟩
theorem ye {c:Cl} (h:aG c):eG c=true↔RC c:=by
 unfold eG mm RC
 simp only [Bool.and_eq_true,decide_eq_true_eq]
 have h1:=h.1.1;have h2:=h.2.1
 omega
def dJ (a b:Int):Int:=((a.toNat|||b.toNat:Nat):Int)
theorem oA {a b:Int} (ha:U32 a) (hb:U32 b):aL .or .u32 a b=dJ a b:=by
 obtain ⟨m,hm,rfl⟩:=ha.nat;obtain ⟨n,hn,rfl⟩:=hb.nat
 rw [tz hm hn];rfl
def dD (a b:Cl):Cl:=⟨dJ a.pos b.pos,dJ a.neg b.neg⟩
def dl (a b:Cl):Bool:=decide (dD a b=a)
def bn (c:Cl):Bool:= !decide (c.pos.toNat&&&c.neg.toNat=0)
theorem CS {a b:Int} (ha:U32 a) (hb:U32 b):U32 (dJ a b):=by
 obtain ⟨m,hm,rfl⟩:=ha.nat;obtain ⟨n,hn,rfl⟩:=hb.nat
 exact U32.of (Nat.or_lt_two_pow (n:=32) hm hn)
theorem K7 {a b:Int} (ha:0≤a∧a<16777216) (hb:0≤b∧b<16777216):0≤dJ a b∧dJ a b<16777216:=by
 unfold dJ
 have:=Nat.or_lt_two_pow (n:=24) (x:=a.toNat) (y:=b.toNat) (by omega) (by omega)
 omega
theorem wY {a b:Cl} (ha:aG a) (hb:aG b):aG (dD a b):=⟨CS ha.1 hb.1,CS ha.2 hb.2⟩
theorem KM {a b:Cl} (ha:RC a) (hb:RC b):RC (dD a b):=⟨K7 ha.1 hb.1,K7 ha.2 hb.2⟩
theorem OA (hk:Fu k) {c:Cl} (h:aG c) (ret:Bool→Option S):qh k c ret=ret (eG c):=by
 simp only [qh,Pi,al hk,Ox hk h.1,Ox hk h.2,eG,b7]
 grind
theorem ON (hk:Fu k) {c:Cl} (h:aG c) (ret:Bool→Option S):qE k c ret=ret (eG c):=by
 simp only [qE,Qg,al hk,OU hk h.1,OU hk h.2,eG,b7]
 grind
theorem DX (hk:Fu k) {a b:Cl} (ha:aG a) (hb:aG b) (ret:Cl→Option S):mM k a b ret=ret (dD a b):=by
 simp only [mM,Ph,oA ha.1 hb.1,oA ha.2 hb.2];rfl
theorem agq (hk:Fu k) {a b:Cl} (ha:aG a) (hb:aG b) (ret:Bool→Option S):uT k a b ret=ret (dl a b):=by
 simp only [uT,Pc,al hk,DX hk ha hb,jA];rfl
theorem agP (hk:Fu k) {a b:Cl} (ha:aG a) (hb:aG b) (ret:Bool→Option S):vo k a b ret=ret (dl a b):=by
 have e:dl a b=((dJ a.pos b.pos==a.pos)&&((dJ a.neg b.neg==a.neg)&&true)):=(jA (dD a b) a).symm
 simp only [vo,Qc,oA ha.1 hb.1,oA ha.2 hb.2,b7,e]
 grind
theorem Oz (hk:Fu k) {c:Cl} (h:aG c) (ret:Bool→Option S):qf k c ret=ret (bn c):=by
 obtain ⟨p,n⟩:=c
 obtain ⟨m,hm,rfl⟩:=h.1.nat;obtain ⟨n,hn,rfl⟩:=h.2.nat
 simp only [qf,Pd,jz hm hn,bn,Int.toNat_natCast]
 congr 2
 grind
open Classical in
theorem ab0 (hk:Fu k) {c:Cl} (h:aG c) (ret:Bool→Option S): ∀ (d i m:Nat),i+d=24→d<m→
  nS k ret c m (i:Int)=ret (decide (∃j,i≤j∧j<24∧c.pos.toNat.testBit j=true∧c.neg.toNat.testBit j=true)):=by
 intro d
 induction d with
 |zero=>
  intro i m e hm
  obtain ⟨m,rfl,hm⟩:=ak hm
  simp only [nS,t8,aH]
  rw [if_neg (by omega),decide_eq_false]
  rintro ⟨j,h1,h2,_⟩;omega
 |succ d ih=>
  intro i m e hm
  obtain ⟨m,rfl,hm⟩:=ak hm
  have e2:(i:Int)+1=((i+1:Nat):Int):=by simp
  simp only [nS,t8,al hk,gz hk h.1,gz hk h.2,b7,decide_eq_true_eq]
  rw [if_pos (by omega),da (by omega) (by omega),e2,ih (i+1) m (by omega) (by omega)]
  have hp:bj c.pos (i:Int)=c.pos.toNat.testBit i:=by unfold bj;rw [decide_eq_true (by omega),Bool.true_and];rfl
  have hn:bj c.neg (i:Int)=c.neg.toNat.testBit i:=by unfold bj;rw [decide_eq_true (by omega),Bool.true_and];rfl
  rw [hp,hn]
  have step: ¬(c.pos.toNat.testBit i=true∧c.neg.toNat.testBit i=true)→((∃j,i+1≤j∧j<24∧c.pos.toNat.testBit j=true∧c.neg.toNat.testBit j=true)↔(∃j,i≤j∧j<24∧c.pos.toNat.testBit j=true∧c.neg.toNat.testBit j=true)):=by
   intro hne
   constructor
   ·rintro ⟨j,a,b⟩;exact ⟨j,by omega,b⟩
   ·rintro ⟨j,a,b⟩
    refine ⟨j, ?_,b⟩
    have:j≠i:=by rintro rfl;exact hne b.2
    omega
  by_cases h1:c.pos.toNat.testBit i=true
  ·by_cases h2:c.neg.toNat.testBit i=true
   ·rw [if_pos h1,if_pos h2,decide_eq_true]
    exact ⟨i,by omega,by omega,h1,h2⟩
   ·rw [if_pos h1,if_neg h2];simp only [step (fun h=>h2 h.2)]
  ·rw [if_neg h1];simp only [step (fun h=>h1 h.1)]
theorem OL (hk:Fu k) {c:Cl} (h:RC c) (ret:Bool→Option S):qC k c ret=ret (bn c):=by
 simp only [qC,EP]
 have:=ab0 hk h.ok ret 24 0 k (by omega) (by omega)
 refine Eq.trans this ?_
 congr 1
 rw [bn,Bool.eq_iff_iff]
 simp only [decide_eq_true_eq,Bool.not_eq_true',decide_eq_false_iff_not]
 constructor
 ·rintro ⟨j,_,_,h1,h2⟩ h0
  have:(c.pos.toNat&&&c.neg.toNat).testBit j=true:=by grind
  grind
 ·intro h0
  apply Classical.byContradiction
  intro hne
  apply h0
  apply Nat.eq_of_testBit_eq
  intro j
  rw [Nat.zero_testBit,Nat.testBit_and]
  cases h1:c.pos.toNat.testBit j with
  |false=>rfl
  |true=>
   cases h2:c.neg.toNat.testBit j with
   |false=>rfl
   |true=>
    have hlt:c.pos.toNat<16777216:=by have:=h.1;omega
    exact absurd ⟨j,by omega,mG hlt h1,h1,h2⟩ hne
theorem ajA (s:Int) (x:Nat) (hx:x<24) (j:Nat):(ei s (x:Int)).toNat.testBit j=((s.toNat.testBit j&&decide (j<24))||decide (j=x)):=by
 unfold ei
 rw [if_pos (by omega),Int.toNat_natCast,Int.toNat_natCast,Nat.testBit_or,Nat.testBit_and,fT,Nat.testBit_two_pow,Bool.eq_iff_iff]
 grind
theorem adn (hk:Fu k) (ret:Int→Option S): ∀ (r p:List Nat) (m:Nat) (a:Int),(p++r).length≤24→(∀x∈r,x<24)→r.length<m→U32 a→
  ∃v:Int,U32 v∧(∀j,v.toNat.testBit j=((a.toNat.testBit j&&(decide (r=[])||decide (j<24)))||decide (j∈r)))∧nV k ret (ints (p++r)) m a (p.length:Int)=ret v:=by
 intro r
 induction r with
 |nil=>
  grind [ak,nV,ub,aH,dQ]
 |cons x r ih=>
  intro p m a hl h24 hm ha
  obtain ⟨m,rfl,hm⟩:=ak hm
  have hx:=h24 x (by simp)
  have hl':p.length+(r.length+1)≤24:=by grind
  have hu:U32 (ei a (x:Int)):=⟨withS_lt.1,by have:=(withS_lt (s:=a) (i:=(x:Int))).2;omega⟩
  obtain ⟨v,hv,hb,hr⟩:=ih (p++[x]) m (ei a (x:Int)) (by grind) (fun z hz=>h24 z (by simp [hz])) (by grind) hu
  refine ⟨v,hv,fun j=> ?_, ?_⟩
  ·grind [ajA]
  ·have e0:ints (p++x::r)=ints p++(x:Int)::ints r:=by simp [ints]
   have el:(p.length:Int)=((ints p).length:Int):=by rw [dQ]
   simp only [nV,ub,aH,al hk]
   rw [if_pos (by grind),e0,el,ri]
   simp only [Option.bind_some,ag7 hk ha]
   have ew:IntKind.wrap .i64 (((ints p).length:Int)+1)=(((p++[x]).length:Nat):Int):=by
    rw [dQ,da (by omega) (by omega)];simp
   grind
theorem OY (hk:Fu k) {a b:Int} (ha:0≤a∧a<16777216) (hb:0≤b∧b<16777216) (ret:Int→Option S):qF k a b ret=ret (dJ a b):=by
 have ha':U32 a:=⟨ha.1,by omega⟩
 have hb':U32 b:=⟨hb.1,by omega⟩
 simp only [qF,ES,al hk,ag2 hk hb',eX]
 obtain ⟨v,hv,hbit,hr⟩:=adn hk ret (bu b.toNat) [] k a (by grind [fg]) (fun x hx=>(mem_bitsN.1 hx).1) (by grind [fg]) ha'
 refine Eq.trans hr ?_
 congr 1
 have:v.toNat=a.toNat|||b.toNat:=by
  apply Nat.eq_of_testBit_eq
  intro j
  rw [hbit,Nat.testBit_or,Bool.eq_iff_iff]
  simp only [Bool.or_eq_true,Bool.and_eq_true,decide_eq_true_eq,mem_bitsN]
  constructor
  ·grind
  ·rintro (h|h)
   ·exact .inl ⟨h,.inr (mG (m:=a.toNat) (by omega) h)⟩
   ·exact .inr ⟨mG (m:=b.toNat) (by omega) h,h⟩
 have hv0:=hv.1
 unfold dJ
 omega
theorem OM (hk:Fu k) {a b:Cl} (ha:RC a) (hb:RC b) (ret:Cl→Option S):qD k a b ret=ret (dD a b):=by
 simp only [qD,Qf,al hk,OY hk ha.1 hb.1,OY hk ha.2 hb.2];rfl
def c7 (c:Cl) (i b:Int):Cl×Int:=
 if eG c then
  if (ct c.pos i b).2=0 then if (ct c.neg i b).2=0 then (⟨(ct c.pos i b).1,(ct c.neg i b).1⟩,0) else (⟨0,0⟩,(ct c.neg i b).2)
  else (⟨0,0⟩,(ct c.pos i b).2)
 else (⟨0,0⟩,2)
theorem agr (hk:Fu k) {c:Cl} {i b:Int} (h:aG c) (hi:aF i) (hb:aF b) (ret:Cl×Int→Option S):uW k c i b ret=ret (c7 c i b):=by
 simp only [uW,Pg,al hk,OA hk h,Ov hk h.1 hi hb,Ov hk h.2 hi hb,b7,c7,Bool.not_eq_true',beq_eq_false_iff_ne]
 grind
theorem agQ (hk:Fu k) {c:Cl} {i b:Int} (h:aG c) (hi:aF i) (hb:aF b) (ret:Cl×Int→Option S):vr k c i b ret=ret (c7 c i b):=by
 simp only [vr,Qe,al hk,ON hk h,OR hk h.1 hi hb,OR hk h.2 hi hb,b7,c7,Bool.not_eq_true',beq_eq_false_iff_ne]
 grind
end Go.Proofs.YtgajalidbabccaaGreatDoor
namespace Go.Proofs.YtgajalidbabccaaGreatDoor
open Go PI
set_option linter.unusedVariables false
set_option linter.unusedSimpArgs false
set_option maxRecDepth 20000
variable {S:Type} {k:Nat}
def fH (a b:Cl):Prop:=a.pos<b.pos∨(a.pos=b.pos∧a.neg<b.neg)
def ou (a b:Cl):Bool:=decide (a.pos<b.pos)||(a.pos==b.pos&&decide (a.neg<b.neg))
theorem adw {a b:Cl}:ou a b=true↔fH a b:=by unfold ou fH;simp
theorem I7 {a b c:Cl} (h:fH a b) (h':fH b c):fH a c:=by grind [fH]
theorem I6 {a:Cl} (h:fH a a):False:=by grind [fH]
theorem adU (a b:Cl):fH a b∨a=b∨fH b a:=by
 grind [Cl.ext',fH]
abbrev jy (l:List Cl):Prop:=l.Pairwise fH
theorem yr: ∀ {a b:List Cl},jy a→jy b→(∀c,c∈a↔c∈b)→a=b:=by
 intro a
 induction a with
 |nil=>
  intro b _ _ h
  cases b with
  |nil=>rfl
  |cons y b=>exact absurd ((h y).2 (by simp)) (by simp)
 |cons x a ih=>
  intro b ha hb h
  cases b with
  |nil=>grind
  |cons y b=>
   have ha':=List.pairwise_cons.1 ha;have hb':=List.pairwise_cons.1 hb
   have hxy:x=y:=by
    rcases List.mem_cons.1 ((h x).1 (by simp)) with h1|h1
    ·exact h1
    ·rcases List.mem_cons.1 ((h y).2 (by simp)) with h2|h2<;>grind [I7,I6]
   grind [I6]
def eA (x:Cl):List Cl→List Cl
 |[]=>[x]
 |y::r=>if ou y x then y::eA x r else if y=x then y::r else x::y::r
theorem KO {x c:Cl}: ∀ {l:List Cl},c∈eA x l↔c=x∨c∈l:=by
 intro l
 induction l<;>grind [eA]
theorem aaX {x:Cl}: ∀ {l:List Cl},jy l→jy (eA x l):=by
 intro l
 induction l<;>grind [eA,List.pairwise_cons,KO,adw,adU,I7]
theorem Is {x:Cl}: ∀ {l:List Cl},(eA x l).length≤l.length+1:=by
 intro l
 induction l<;>grind [eA]
def bM (l:List Cl) (c:Cl):Bool:=l.all fun d=>decide (d=c)|| !dl c d
def iV (o l:List Cl):List Cl:=l.foldl (fun o c=>eA c o) o
def c8 (l:List Cl):List Cl:=iV [] (l.filter (bM l))
theorem ad2 {c:Cl}: ∀ {l o:List Cl},c∈iV o l↔c∈l∨c∈o:=by
 intro l
 induction l with
 |nil=>grind [iV]
 |cons x l ih=>
  intro o
  show c∈iV (eA x o) l↔_
  grind [KO]
theorem aaW: ∀ {l o:List Cl},jy o→jy (iV o l):=by
 intro l
 induction l with
 |nil=>intro o h;exact h
 |cons x l ih=>intro o h;exact ih (aaX h)
theorem aaV: ∀ {l o:List Cl},(iV o l).length≤o.length+l.length:=by
 intro l
 induction l<;>grind [iV,Is]
theorem ow (l:List Cl):jy (c8 l):=aaW List.Pairwise.nil
theorem mem_mins {l:List Cl} {c:Cl}:c∈c8 l↔c∈l∧bM l c=true:=by
 grind [c8,ad2]
theorem ad5 (l:List Cl):(c8 l).length≤l.length:=by
 grind [aaV,c8]
theorem KS {l l':List Cl} (h: ∀c,c∈l↔c∈l') (c:Cl):bM l c=bM l' c:=by
 grind [bM]
theorem ad4 {l l':List Cl} (h: ∀c,c∈l↔c∈l'):c8 l=c8 l':=
 yr (ow l) (ow l') fun c=>by grind [mem_mins,KS]
def aW (l:List Cl):List Cl×Int:=if l.all eG then if (c8 l).length>64 then ([],3) else (c8 l,0) else ([],2)
theorem adu {l l':List Cl} (h: ∀c,c∈l↔c∈l'):aW l=aW l':=by
 grind [aW,ad4]
theorem agi (hk:Fu k) (a b:Cl) (ret:Bool→Option S):vq k a b ret=ret (ou a b):=by
 grind [vq,Qd,b7,ou]
theorem acF (hk:Fu k) (ret:Bool→Option S) {c:Cl} (hc:aG c) {l:List Cl} (hl:ao l) (hlen:l.length<4294967296):
  ∀ (r p:List Cl) (m:Nat),l=p++r→r.length<m→nU k ret c l m (p.length:Int)=ret (bM r c):=by
 intro r
 induction r with
 |nil=>
  intro p m h hm
  obtain ⟨m,rfl,hm'⟩:=ak hm
  simp only [nU,ua,cQ h,ai];rfl
 |cons x r ih=>
  intro p m h hm
  obtain ⟨m,rfl,hm'⟩:=ak hm
  obtain ⟨e1,e2,e3,e4⟩:=az h (by omega)
  have hx:aG x:=hl x (by grind)
  grind [nU,ua,jA,b7,bM,al,agP]
theorem agH (hk:Fu k) {c:Cl} (hc:aG c) {l:List Cl} (hl:ao l) (hlen:l.length<4294967296) (ret:Bool→Option S):vt k l c ret=ret (bM l c):=by
 simp only [vt,ER]
 exact acF hk ret hc hl hlen l [] k rfl (by omega)
theorem uO {S:Type} {p:Prop} [Decidable p] (h:p) (f:Unit→Option S):Option.bind (bv p) f=f ():=gE p h f
theorem acK (hk:Fu k) (ret:List Cl×Int→Option S) (rec1:List Cl→Int→Option S) {l:List Cl} {x:Cl} {i:Int} (hx:ah l i=some x) {out:List Cl} (hout:out.length<4294967296):
  ∀ (r p:List Cl) (m:Nat),out=p++r→r.length<m→lG k ret rec1 l out i m (p.length:Int)=rec1 (p++eA x r) (IntKind.wrap .i64 (i+1)):=by
 intro r
 induction r with
 |nil=>
  intro p m h hm
  obtain ⟨m,rfl,hm'⟩:=ak hm
  have hp:out=p:=by grind
  subst hp
  have e:(((out.length:Int))==((out.length:Int)))=true:=by simp
  simp only [lG,t_,cQ h,ai,e,aj]
  grind [uO,aM,eA]
 |cons y r ih=>
  intro p m h hm
  obtain ⟨m,rfl,hm'⟩:=ak hm
  obtain ⟨e1,e2,e3,e4⟩:=az h (by omega)
  have hpl:p.length<out.length:=by grind
  have e:(((p.length:Int))==((out.length:Int)))=false:=by
   grind
  have:=ih (p++[y]) m e4 hm'
  simp only [lG,t_,e1,aj,e2,hx,Option.bind_some,al hk,agi hk,e,ai,jA]
  rw [e3,this]
  cases hb:ou y x with
  |true=>grind [aj,eA]
  |false=>
   rw [ai,eA,if_neg (by grind)]
   by_cases hyx:y=x<;>grind [ai,aj,uO,aM]
theorem acJ (hk:Fu k) (ret:List Cl×Int→Option S) {l:List Cl} (hl:ao l) (hlen:l.length<2147483648):
  ∀ (r p:List Cl) (m:Nat) (o:List Cl),l=p++r→r.length<m→o.length≤p.length→
  i8 k ret l m o (p.length:Int)=ret (if (iV o (r.filter (bM l))).length>64 then ([],3) else (iV o (r.filter (bM l)),0)):=by
 intro r
 induction r with
 |nil=>
  intro p m o h hm ho
  obtain ⟨m,rfl,hm'⟩:=ak hm
  simp only [i8,pA,cQ h,ai,aH]
  show _=ret (if o.length>64 then _ else (o,0))
  grind
 |cons x r ih=>
  intro p m o h hm ho
  obtain ⟨m,rfl,hm'⟩:=ak hm
  obtain ⟨e1,e2,e3,e4⟩:=az h (by omega)
  have hx:aG x:=hl x (by grind)
  have hk':4294967296≤k:=hk
  have hpl:p.length<l.length:=by grind
  simp only [i8,pA,e1,aj,e2,Option.bind_some,al hk,agH hk hx hl (by omega)]
  have hplace:=acK hk ret (i8 k ret l m) e2 (out:=o) (by omega) o [] k rfl (by omega)
  simp only [List.length_nil,List.nil_append] at hplace
  rw [show (0:Int)=((0:Nat):Int) from rfl,hplace,e3]
  cases hn:bM l x with
  |true=>
   rw [Bool.not_true,ai,List.filter_cons_of_pos hn]
   exact ih (p++[x]) m (eA x o) e4 hm' (by grind [Is])
  |false=>
   rw [Bool.not_false,aj,List.filter_cons_of_neg (by grind)]
   grind
theorem ac3 (hk:Fu k) (ret:List Cl×Int→Option S) {l:List Cl} (hl:ao l) (hlen:l.length<2147483648):
  ∀ (r p:List Cl) (m:Nat),l=p++r→r.length<m→
  nT k ret l m (p.length:Int)=ret (if r.all eG then if (c8 l).length>64 then ([],3) else (c8 l,0) else ([],2)):=by
 intro r
 induction r with
 |nil=>
  intro p m h hm
  obtain ⟨m,rfl,hm'⟩:=ak hm
  simp only [nT,pz,cQ h,ai,List.all_nil,if_true]
  have hk':4294967296≤k:=hk
  exact acJ hk ret hl hlen l [] k [] rfl (by omega) (by simp)
 |cons x r ih=>
  intro p m h hm
  obtain ⟨m,rfl,hm'⟩:=ak hm
  obtain ⟨e1,e2,e3,e4⟩:=az h (by omega)
  have hx:aG x:=hl x (by grind)
  grind [nT,pz,aj,al,ON,ai]
theorem mq (hk:Fu k) {l:List Cl} (hl:ao l) (hlen:l.length<2147483648) (ret:List Cl×Int→Option S):gQ k l ret=ret (aW l):=by
 simp only [gQ,EQ]
 exact ac3 hk ret hl hlen l [] k rfl (by omega)
theorem agh (hk:Fu k) {d c:Cl} (hd:aG d) (hc:aG c) (ret:Bool→Option S):uV k d c ret=ret (!(decide (d=c)|| !dl c d)):=by
 grind [uV,Pf,jA,b7,al,agq,dl]
end Go.Proofs.YtgajalidbabccaaGreatDoor
namespace Go.Proofs.YtgajalidbabccaaGreatDoor
open Go PI
set_option linter.unusedVariables false
set_option linter.unusedSimpArgs false
set_option maxRecDepth 20000
variable {S:Type} {k:Nat}
theorem acu (hk:Fu k) (ret:Int→Option S) {c:Cl} (hc:aG c) {l:List Cl} (hl:ao l) (hlen:l.length<2147483648):
  ∀ (r p:List Cl) (m:Nat),l=p++r→r.length<m→ ∃v:Int,decide (v≥0)= !bM r c∧oh k ret c l m (p.length:Int)=ret v:=by
 intro r
 induction r with
 |nil=>
  intro p m h hm
  obtain ⟨m,rfl,hm'⟩:=ak hm
  exact ⟨-1,rfl,by grind [oh,uD,ai]⟩
 |cons x r ih=>
  intro p m h hm
  obtain ⟨m,rfl,hm'⟩:=ak hm
  obtain ⟨e1,e2,e3,e4⟩:=az h (by omega)
  have hx:aG x:=hl x (by grind)
  obtain ⟨v,hv,hr⟩:=ih (p++[x]) m e4 hm'
  have e0:bM (x::r) c=((decide (x=c)|| !dl c x)&&bM r c):=by rfl
  grind [oh,uD,aj,al,agh,decide,dl,ai]
theorem agI (hk:Fu k) {c:Cl} (hc:aG c) {l:List Cl} (hl:ao l) (hlen:l.length<2147483648) (ret:Bool→Option S):uU k c l ret=ret (!bM l c):=by
 obtain ⟨v,hv,hr⟩:=acu hk (fun r1:Int=>ret (decide (r1≥0))) hc hl hlen l [] k rfl (by omega)
 grind [uU,Pe,AN,QD,AP,Fh,al]
theorem acx (hk:Fu k) (ret:List Cl×Int→Option S) {l:List Cl} (hl:ao l) (hlen:l.length<2147483648):
  ∀ (r p:List Cl) (m:Nat) (q:List Cl),l=p++r→r.length<m→q.length≤p.length→
  lx k ret l m (p.length:Int) q=ret (if (q++r.filter (bM l)).length>64 then ([],3) else (sortCl (q++r.filter (bM l)),0)):=by
 intro r
 induction r with
 |nil=>
  grind [ak,lx,tA,aH]
 |cons x r ih=>
  intro p m q h hm hq
  obtain ⟨m,rfl,hm'⟩:=ak hm
  obtain ⟨e1,e2,e3,e4⟩:=az h (by omega)
  have hx:aG x:=hl x (by grind)
  have hpl:p.length<l.length:=by grind
  simp only [lx,tA,e1,aj,e2,Option.bind_some,al hk,agI hk hx hl hlen,Bool.not_not]
  rw [e3]
  cases hn:bM l x with
  |true=>
   rw [aj,aM (by grind),List.filter_cons_of_pos hn,ih (p++[x]) m (q++[x]) e4 hm' (by grind)]
   simp
  |false=>
   rw [ai,List.filter_cons_of_neg (by grind)]
   grind
theorem wd (a b:Cl):d4 VV ET.C a b=decide (a=b):=by
 have e:d4 VV ET.C a b=((a.pos==b.pos)&&((a.neg==b.neg)&&true)):=by
  rfl
 rw [e,jA]
theorem ad3 (l:List (Cl×Bool)) (x y:Cl):dt VV ET.C (eB VV ET.C l x true) y=if x=y then some true else dt VV ET.C l y:=by
 induction l with
 |nil=>
  show (bif d4 VV ET.C x y then some true else .none)=_
  simp_all [wd,dt]
 |cons a r ih=>
  obtain ⟨z,b⟩:=a
  show dt VV ET.C (bif d4 VV ET.C z x then (z,true)::r else (z,b)::eB VV ET.C r x true) y=_
  rw [wd]
  by_cases h:z=x
  ·subst h
   rw [decide_eq_true rfl,cond_true]
   show (bif d4 VV ET.C z y then some true else dt VV ET.C r y)=if z=y then some true else (bif d4 VV ET.C z y then some b else dt VV ET.C r y)
   grind [wd]
  ·rw [decide_eq_false h,cond_false]
   show (bif d4 VV ET.C z y then some b else dt VV ET.C (eB VV ET.C r x true) y)=if x=y then some true else (bif d4 VV ET.C z y then some b else dt VV ET.C r y)
   grind [wd]
theorem ahp {l o:List Cl} (hn:o.Nodup) (h: ∀c,c∈o↔c∈l):sortCl (o.filter (bM o))=c8 l∧(o.filter (bM o)).length=(c8 l).length:=by
 have hp:(sortCl (o.filter (bM o))).Perm (o.filter (bM o)):=List.mergeSort_perm _ _
 have hs:(sortCl (o.filter (bM o))).Pairwise (fun a b=>jC a b=true):=
  List.pairwise_mergeSort (le:=jC) (fun a b c h1 h2=>by
   grind [jC]) (fun a b=>by
   grind [jC]) _
 have hnd:(sortCl (o.filter (bM o))).Nodup:=hp.nodup_iff.2 (hn.filter _)
 have hsorted:jy (sortCl (o.filter (bM o))):=by
  refine (hs.and hnd).imp fun {a b} h=> ?_
  have h1:=h.1
  unfold jC at h1
  simp only [Bool.or_eq_true,Bool.and_eq_true,decide_eq_true_eq,beq_iff_eq] at h1
  rcases h1 with h1|h1
  ·exact .inl h1
  ·refine .inr ⟨h1.1, ?_⟩
   grind [Cl.ext']
 have he:sortCl (o.filter (bM o))=c8 l:=yr hsorted (ow l) fun c=>by
  grind [mem_mins,KS]
 exact ⟨he,by rw [←he,hp.length_eq]⟩
theorem adl (hk:Fu k) (ret:List Cl×Int→Option S) {l:List Cl} (hl:ao l) (hlen:l.length<2147483648):
  ∀ (r p:List Cl) (m:Nat) (q:List (Cl×Bool)) (o:List Cl),l=p++r→r.length<m→o.length≤p.length→o.Nodup→(∀c:Cl,(dt VV ET.C q c).getD false=decide (c∈o))→(∀c,c∈o↔c∈p)→
  nC k ret l m q o (p.length:Int)=ret (if r.all eG then if (c8 l).length>64 then ([],3) else (c8 l,0) else ([],2)):=by
 intro r
 induction r with
 |nil=>
  intro p m q o h hm ho hnd hq hmem
  obtain ⟨m,rfl,hm'⟩:=ak hm
  have hp:l=p:=by grind
  subst hp
  have hol:ao o:=fun c hc=>hl c ((hmem c).1 hc)
  have hk':4294967296≤k:=hk
  simp only [nC,pq,cQ h,ai,List.all_nil,if_true]
  have:=acx hk ret hol (by omega) o [] k [] rfl (by omega) (by simp)
  grind [ahp]
 |cons x r ih=>
  intro p m q o h hm ho hnd hq hmem
  obtain ⟨m,rfl,hm'⟩:=ak hm
  obtain ⟨e1,e2,e3,e4⟩:=az h (by omega)
  have hx:aG x:=hl x (by grind)
  have hpl:p.length<l.length:=by grind
  simp only [nC,pq,e1,aj,e2,Option.bind_some,al hk,OA hk hx]
  rw [hq,e3]
  by_cases hr:eG x=true
  ·have:(x::r).all eG=r.all eG:=by grind
   rw [hr,Bool.not_true,ai,this]
   by_cases hxo:x∈o
   ·grind [ai]
   ·rw [decide_eq_false hxo,Bool.not_false,aj,aM (by grind)]
    refine ih (p++[x]) m _ (o++[x]) e4 hm' (by grind) (List.nodup_append.2 ⟨hnd,by simp,fun a ha b hb=>by grind⟩) (fun c=> ?_) fun c=> ?_
    all_goals grind [ad3]
  grind [aj]
theorem jr (hk:Fu k) {l:List Cl} (hl:ao l) (hlen:l.length<2147483648) (ret:List Cl×Int→Option S):eP k l ret=ret (aW l):=by
 simp only [eP,Ec]
 exact adl hk ret hl hlen l [] k [] [] rfl (by omega) (by simp) List.nodup_nil (fun c=>by rfl) (fun c=>Iff.rfl)
theorem ab2 (hk:Fu k) (ret:Bool→Option S) {a b:List Cl} (hlen:a.length<4294967296):
  ∀ (r s p q:List Cl) (m:Nat),a=p++r→b=q++s→p.length=q.length→r.length=s.length→r.length<m→og k ret a b m (p.length:Int)=ret (decide (r=s)):=by
 intro r
 induction r with
 |nil=>
  grind [ak,og,uC,ai]
 |cons x r ih=>
  intro s p q m h h' hpq hrs hm
  obtain ⟨m,rfl,hm'⟩:=ak hm
  cases s with
  |nil=>cases hrs
  |cons y s=>
   obtain ⟨e1,e2,e3,e4⟩:=az h (by omega)
   have e2':ah b (p.length:Int)=some y:=by grind [ri]
   simp only [og,uC,e1,aj,e2,e2',Option.bind_some,jA,e3]
   rw [ih s (p++[x]) (q++[y]) m e4 (by grind) (by simp_all) (by grind) hm']
   by_cases hxy:x=y<;>simp_all [ai,aj]
theorem age (hk:Fu k) {a b:List Cl} (hlen:a.length<4294967296) (ret:Bool→Option S):vH k a b ret=ret (decide (a=b)):=by
 simp only [vH,Fg]
 by_cases h:a.length=b.length
 ·have e:((a.length:Int)==(b.length:Int))=true:=by simp [h]
  rw [e,Bool.not_true,ai]
  exact ab2 hk ret hlen a b [] [] k rfl rfl rfl h (by omega)
 ·have e:((a.length:Int)==(b.length:Int))=false:=by grind
  rw [e,Bool.not_false,aj,decide_eq_false]
  grind
theorem ab5 (hk:Fu k) (ret:Bool→Option S) {a b:List Cl} (hlen:a.length<4294967296):
  ∀ (r s p q:List Cl) (m:Nat),a=p++r→b=q++s→p.length=q.length→r.length=s.length→r.length<m→i_ k ret a b m (p.length:Int)=ret (decide (r=s)):=by
 intro r
 induction r with
 |nil=>
  grind [ak,i_,mC,ai]
 |cons x r ih=>
  intro s p q m h h' hpq hrs hm
  obtain ⟨m,rfl,hm'⟩:=ak hm
  cases s with
  |nil=>cases hrs
  |cons y s=>
   obtain ⟨e1,e2,e3,e4⟩:=az h (by omega)
   have e2':ah b (p.length:Int)=some y:=by grind [ri]
   simp only [i_,mC,e1,aj,e2,e2',Option.bind_some,jA,e3]
   rw [ih s (p++[x]) (q++[y]) m e4 (by simp_all) (by simp_all) (by grind) hm']
   by_cases hxy:x=y<;>simp_all [ai,aj]
theorem agk (hk:Fu k) {a b:List Cl} (hlen:a.length<4294967296) (ret:Bool→Option S):jJ k a b ret=ret (decide (a=b)):=by
 simp only [jJ,yy]
 by_cases h:a.length=b.length
 ·have e:((a.length:Int)==(b.length:Int))=true:=by simp [h]
  rw [e,Bool.not_true,ai]
  exact ab5 hk ret hlen a b [] [] k rfl rfl rfl h (by omega)
 ·have e:((a.length:Int)==(b.length:Int))=false:=by grind
  rw [e,Bool.not_false,aj,decide_eq_false]
  grind
theorem IY (l:List Cl):(aW l).1.length≤64:=by
 grind [aW]
def a8 (f:List Cl):Bool:=decide (aW f=(f,0))
theorem oR (hk:Fu k) {f:List Cl} (hf:ao f) (hlen:f.length<2147483648) (ret:Bool→Option S):fX k f ret=ret (a8 f):=by
 have:=IY f
 simp only [fX,PJ,al hk,jr hk hf hlen,age hk (show (aW f).1.length<4294967296 by omega),b7,a8,beq_iff_eq]
 by_cases h:(aW f).2=0
 all_goals simp_all [Prod.ext_iff]
theorem fJ (hk:Fu k) {f:List Cl} (hf:ao f) (hlen:f.length<2147483648) (ret:Bool→Option S):dH k f ret=ret (a8 f):=by
 have:=IY f
 simp only [dH,Qi,al hk,mq hk hf hlen,agk hk (show (aW f).1.length<4294967296 by omega),b7,a8,beq_iff_eq]
 by_cases h:(aW f).2=0
 all_goals simp_all [Prod.ext_iff]
end Go.Proofs.YtgajalidbabccaaGreatDoor
namespace Go.Proofs.YtgajalidbabccaaGreatDoor
open Go PI
set_option linter.unusedVariables false
set_option linter.unusedSimpArgs false
set_option maxRecDepth 20000
variable {S:Type} {k:Nat}
def RF (f:List Cl):Prop:=aW f=(f,0)∧ao f
theorem eH {f:List Cl} (h:ao f):a8 f=true↔RF f:=by grind [a8,RF]
theorem RF.right {f:List Cl} (h:RF f):a8 f=true:=by unfold a8;simp [h.1]
theorem wU {l o:List Cl} (h:aW l=(o,0)):o=c8 l∧l.all eG=true∧o.length≤64:=by
 grind [aW]
theorem RF.len {f:List Cl} (h:RF f):f.length≤64:=(wU h.1).2.2
theorem RF.rc {f:List Cl} (h:RF f) {c:Cl} (hc:c∈f):RC c:=(ye (h.2 c hc)).1 (List.all_eq_true.1 (wU h.1).2.1 c hc)
theorem ad6 (l:List Cl):c8 (c8 l)=c8 l:=yr (ow _) (ow _) fun c=>by
 grind [mem_mins,bM]
theorem oq {l:List Cl} (hl:ao l) (h:(aW l).2=0):RF (aW l).1:=by
 have h':aW l=((aW l).1,0):=Prod.ext rfl h
 obtain ⟨h1,h2,h3⟩:=wU h'
 have hok:ao (aW l).1:=fun c hc=>hl c ((mem_mins.1 (h1▸hc)).1)
 refine ⟨?_,hok⟩
 grind [aW,mem_mins,ad6]
theorem adv {l:List Cl} (h:(aW l).2≠0):(aW l).1=[]:=by
 grind [aW]
theorem oL:RF []:=⟨rfl,fun c hc=>by cases hc⟩
theorem gy {c:Cl} (h:RC c):RF [c]:=by
 have hok:ao [c]:=fun d hd=>by simp at hd;subst hd;exact h.ok
 refine ⟨?_,hok⟩
 have hm:c8 [c]=[c]:=yr (ow _) (by simp) fun d=>by
  grind [mem_mins,bM]
 unfold aW
 rw [hm,if_pos (by simp [(ye h.ok).2 h]),if_neg (by simp)]
theorem mj:RC ⟨0,0⟩:=⟨⟨by decide,by decide⟩,by decide,by decide⟩
theorem d_ {f g:List Cl} (hf:ao f) (hg:ao g):ao (f++g):=fun c hc=>by
 rcases List.mem_append.1 hc with h|h
 ·exact hf c h
 ·exact hg c h
theorem ac4 (hk:Fu k) (ret:Int→Option S) {l:List (List Cl)} (hl: ∀f∈l,ao f∧f.length<2147483648) (hlen:l.length<4294967296):
  ∀ (r p:List (List Cl)) (m:Nat),l=p++r→r.length<m→nO k ret l m (p.length:Int)=ret (if r.all a8 then 0 else 2):=by
 intro r
 induction r with
 |nil=>
  grind [ak,nO,tU,ai]
 |cons x r ih=>
  intro p m h hm
  obtain ⟨m,rfl,hm'⟩:=ak hm
  obtain ⟨e1,e2,e3,e4⟩:=az h (by omega)
  have hx:=hl x (by grind)
  grind [nO,tU,aj,al,oR,ai]
theorem D0 (hk:Fu k) {l:List (List Cl)} (hl: ∀f∈l,ao f∧f.length<2147483648) (hlen:l.length<4294967296) (ret:Int→Option S):mS k l ret=ret (if l.all a8 then 0 else 2):=by
 simp only [mS,EE]
 exact ac4 hk ret hl hlen l [] k rfl (by omega)
def ci (f g:List Cl):List Cl×Int:=aW (f++g)
def meets (f g:List Cl):List Cl:=f.flatMap fun a=>g.map (dD a)
def cH (f g:List Cl):List Cl×Int:=aW (meets f g)
theorem KN {f g:List Cl} (hf:ao f) (hg:ao g):ao (meets f g):=fun c hc=>by
 obtain ⟨a,ha,hc⟩:=List.mem_flatMap.1 hc
 obtain ⟨b,hb,rfl⟩:=List.mem_map.1 hc
 exact wY (hf a ha) (hg b hb)
theorem jj {f g:List Cl} (hf:ao f) (hg:ao g) (h:(cH f g).2=0):RF (cH f g).1:=oq (KN hf hg) h
theorem Iv {f g:List Cl} (hf:ao f) (hg:ao g) (h:(ci f g).2=0):RF (ci f g).1:=oq (d_ hf hg) h
theorem yl (hk:Fu k) {f g:List Cl} (hf:ao f) (hg:ao g) (h1:f.length<1073741824) (h2:g.length<1073741824) (ret:List Cl×Int→Option S):ld k f g ret=ret (ci f g):=by
 simp only [ld,PK,al hk,List.nil_append]
 rw [aM (by grind),aM (by omega),jr hk (d_ hf hg) (by grind)]
 rfl
theorem acD (hk:Fu k) (ret:List Cl×Int→Option S) (rec0:Int→List Cl→Option S) {x:Cl} (hx:aG x) {g f:List Cl} {v:Int} (hg:ao g) (hlen:g.length<65536):
  ∀ (r p:List Cl) (m:Nat) (o:List Cl),g=p++r→r.length<m→o.length+r.length<1099511627776→ly k ret rec0 x g f v m (p.length:Int) o=rec0 (IntKind.wrap .i64 (v+1)) (o++r.map (dD x)):=by
 intro r
 induction r with
 |nil=>
  intro p m o h hm ho
  obtain ⟨m,rfl,hm'⟩:=ak hm
  grind [ly,tR,ai]
 |cons y r ih=>
  intro p m o h hm ho
  obtain ⟨m,rfl,hm'⟩:=ak hm
  obtain ⟨e1,e2,e3,e4⟩:=az h (by omega)
  have hy:aG y:=hg y (by grind)
  simp only [List.length_cons] at ho
  simp only [ly,tR,e1,aj,e2,Option.bind_some,al hk,DX hk hx hy,e3]
  grind [aM]
theorem acC (hk:Fu k) (ret:List Cl×Int→Option S) {g f:List Cl} (hf:ao f) (hg:ao g) (hlf:f.length<32768) (hlg:g.length<32768):
  ∀ (r p:List Cl) (m:Nat) (o:List Cl),f=p++r→r.length<m→ao o→o.length+r.length*g.length<1073741825→j5 k ret g f m (p.length:Int) o=ret (aW (o++meets r g)):=by
 intro r
 induction r with
 |nil=>
  grind [ak,j5,pu,ai,al,jr,meets]
 |cons x r ih=>
  intro p m o h hm hok ho
  obtain ⟨m,rfl,hm'⟩:=ak hm
  obtain ⟨e1,e2,e3,e4⟩:=az h (by omega)
  have hx:aG x:=hf x (by grind)
  have hmul:(x::r).length*g.length=r.length*g.length+g.length:=by grind
  rw [hmul] at ho
  have hk':4294967296≤k:=hk
  simp only [j5,pu,e1,aj,e2,Option.bind_some]
  have:=acD hk ret (j5 k ret g f m) (f:=f) (v:=(p.length:Int)) hx hg (by omega) g [] k o rfl (by omega) (by omega)
  simp only [List.length_nil] at this
  rw [show (0:Int)=((0:Nat):Int) from rfl,this,e3,ih (p++[x]) m _ e4 hm' (d_ hok fun c hc=>by
   obtain ⟨b,hb,rfl⟩:=List.mem_map.1 hc
   exact wY hx (hg b hb)) (by grind)]
  simp [meets]
theorem tc (hk:Fu k) {f g:List Cl} (hf:ao f) (hg:ao g) (h1:f.length<32768) (h2:g.length<32768) (ret:List Cl×Int→Option S):iD k f g ret=ret (cH f g):=by
 simp only [iD,EC]
 have hb:f.length*g.length<1073741824:=Nat.lt_of_le_of_lt (Nat.mul_le_mul (Nat.le_of_lt_succ h1) (Nat.le_of_lt_succ h2)) (by decide)
 have:=acC hk ret hf hg h1 h2 f [] k [] rfl (by omega) (fun c hc=>by cases hc) (by grind)
 grind [cH]
theorem ac_ (hk:Fu k) (ret:List Cl×Int→Option S) (rec0:List Cl→Int→Option S) {x:Cl} (hx:RC x) {g f:List Cl} {v:Int} (hfx:ah f v=some x) (hg: ∀c∈g,RC c) (hlen:g.length<65536):
  ∀ (r p:List Cl) (m:Nat) (o:List Cl),g=p++r→r.length<m→o.length+r.length<1099511627776→lJ k ret rec0 f g v m o (p.length:Int)=rec0 (o++r.map (dD x)) (IntKind.wrap .i64 (v+1)):=by
 intro r
 induction r with
 |nil=>
  intro p m o h hm ho
  obtain ⟨m,rfl,hm'⟩:=ak hm
  grind [lJ,uf,ai]
 |cons y r ih=>
  intro p m o h hm ho
  obtain ⟨m,rfl,hm'⟩:=ak hm
  obtain ⟨e1,e2,e3,e4⟩:=az h (by omega)
  have hy:RC y:=hg y (by grind)
  simp only [List.length_cons] at ho
  simp only [lJ,uf,e1,aj,e2,hfx,Option.bind_some,al hk,OM hk hx hy,e3]
  grind [aM]
theorem ac9 (hk:Fu k) (ret:List Cl×Int→Option S) {g f:List Cl} (hf: ∀c∈f,RC c) (hg: ∀c∈g,RC c) (hlf:f.length<32768) (hlg:g.length<32768):
  ∀ (r p:List Cl) (m:Nat) (o:List Cl),f=p++r→r.length<m→ao o→o.length+r.length*g.length<1073741825→j8 k ret f g m o (p.length:Int)=ret (aW (o++meets r g)):=by
 intro r
 induction r with
 |nil=>
  grind [ak,j8,pC,ai,al,mq,meets]
 |cons x r ih=>
  intro p m o h hm hok ho
  obtain ⟨m,rfl,hm'⟩:=ak hm
  obtain ⟨e1,e2,e3,e4⟩:=az h (by omega)
  have hx:RC x:=hf x (by grind)
  have hmul:(x::r).length*g.length=r.length*g.length+g.length:=by grind
  rw [hmul] at ho
  have hk':4294967296≤k:=hk
  simp only [j8,pC,e1,aj]
  have:=ac_ hk ret (j8 k ret f g m) hx e2 hg (by omega) g [] k o rfl (by omega) (by omega)
  simp only [List.length_nil] at this
  rw [show (0:Int)=((0:Nat):Int) from rfl,this,e3,ih (p++[x]) m _ e4 hm' (d_ hok fun c hc=>by
   obtain ⟨b,hb,rfl⟩:=List.mem_map.1 hc
   exact (KM hx (hg b hb)).ok) (by grind)]
  simp [meets]
theorem RF.lt {f:List Cl} (h:RF f):f.length<2147483648:=by have:=h.len;omega
theorem ym (hk:Fu k) {f g:List Cl} (hf:RF f) (hg:RF g) (ret:List Cl×Int→Option S):iG k f g ret=ret (cH f g):=by
 have l1:=hf.len;have l2:=hg.len
 simp only [iG,EW,al hk,fJ hk hf.2 hf.lt,fJ hk hg.2 hg.lt,hf.right,hg.right,Bool.not_true,ai]
 have hb:f.length*g.length≤64*64:=Nat.mul_le_mul l1 l2
 have:=ac9 hk ret (fun c hc=>hf.rc hc) (fun c hc=>hg.rc hc) (by omega) (by omega) f [] k [] rfl (by omega) (fun c hc=>by cases hc) (by grind)
 grind [cH]
theorem agR (hk:Fu k) {f g:List Cl} (hf:RF f) (hg:RF g) (ret:List Cl×Int→Option S):vu k f g ret=ret (ci f g):=by
 have l1:=hf.len;have l2:=hg.len
 simp only [vu,Qh,al hk,fJ hk hf.2 hf.lt,fJ hk hg.2 hg.lt,hf.right,hg.right,Bool.not_true,ai,List.nil_append]
 rw [aM (by grind),aM (by omega),mq hk (d_ hf.2 hg.2) (by grind)]
 rfl
end Go.Proofs.YtgajalidbabccaaGreatDoor
namespace Go.Proofs.YtgajalidbabccaaGreatDoor
open Go PI
set_option linter.unusedVariables false
set_option linter.unusedSimpArgs false
set_option maxRecDepth 20000
variable {S:Type} {k:Nat}
theorem u0:U32 0:=⟨by decide,by decide⟩
def nl (i:Int):Cl:=⟨0,ei 0 i⟩
def pl (i:Int):Cl:=⟨ei 0 i,0⟩
theorem CL (i:Int):RC (nl i):=⟨⟨by show (0:Int)≤0;decide,by show (0:Int)<16777216;decide⟩,withS_lt⟩
theorem CW (i:Int):RC (pl i):=⟨withS_lt,⟨by show (0:Int)≤0;decide,by show (0:Int)<16777216;decide⟩⟩
def oy (c:Cl):List Cl:=(eX c.pos).map nl++(eX c.neg).map pl
def l9 (c:Cl):List Cl×Int:=aW (oy c)
theorem Ch (s:Int):(eX s).length≤24:=by grind [eX,dQ,fg]
theorem K5 {c d:Cl} (h:d∈oy c):RC d:=by
 rcases List.mem_append.1 h with h|h<;>grind [CL,CW]
theorem aeJ (c:Cl):(oy c).length≤48:=by
 grind [Ch,oy]
theorem I0 {l:List Cl} (h: ∀c∈l,RC c) (hl:l.length≤64):(aW l).2=0:=by
 have:=ad5 l
 unfold aW
 rw [if_pos (List.all_eq_true.2 fun c hc=>(ye (h c hc).ok).2 (h c hc)),if_neg (by omega)]
theorem K6 (c:Cl):(l9 c).2=0:=I0 (fun d hd=>K5 hd) (by have:=aeJ c;omega)
theorem w6 (c:Cl):RF (l9 c).1:=oq (fun d hd=>(K5 hd).ok) (K6 c)
theorem acH (hk:Fu k) (ret:List Cl×Int→Option S) {l:List Int} (hlen:l.length≤64):
  ∀ (r p:List Int) (m:Nat) (o:List Cl),l=p++r→r.length<m→ao o→o.length+r.length<1073741824→lz k ret l m (p.length:Int) o=ret (aW (o++r.map pl)):=by
 intro r
 induction r with
 |nil=>
  grind [ak,lz,tT,ai,al,jr]
 |cons x r ih=>
  intro p m o h hm hok ho
  obtain ⟨m,rfl,hm'⟩:=ak hm
  obtain ⟨e1,e2,e3,e4⟩:=az h (by omega)
  simp only [List.length_cons] at ho
  simp only [lz,tT,e1,aj,e2,Option.bind_some,al hk,ta hk u0,e3]
  rw [aM (by grind),ih (p++[x]) m _ e4 hm' (d_ hok fun c hc=>by simp at hc;subst hc;exact (CW x).ok) (by grind)]
  simp [pl]
theorem acG (hk:Fu k) (ret:List Cl×Int→Option S) {c:Cl} (hc:aG c) {l:List Int} (hlen:l.length≤64):
  ∀ (r p:List Int) (m:Nat) (o:List Cl),l=p++r→r.length<m→ao o→o.length+r.length<1000000→nN k ret c l m (p.length:Int) o=ret (aW (o++r.map nl++(eX c.neg).map pl)):=by
 intro r
 induction r with
 |nil=>
  intro p m o h hm hok ho
  obtain ⟨m,rfl,hm'⟩:=ak hm
  simp only [List.length_nil] at ho
  have hl:=Ch c.neg
  have hk':4294967296≤k:=hk
  simp only [nN,pw,cQ h,ai,sE,KJ hc.2,List.map_nil,List.append_nil]
  grind [acH]
 |cons x r ih=>
  intro p m o h hm hok ho
  obtain ⟨m,rfl,hm'⟩:=ak hm
  obtain ⟨e1,e2,e3,e4⟩:=az h (by omega)
  simp only [List.length_cons] at ho
  simp only [nN,pw,e1,aj,e2,Option.bind_some,al hk,ta hk u0,e3]
  rw [aM (by grind),ih (p++[x]) m _ e4 hm' (d_ hok fun c hc=>by simp at hc;subst hc;exact (CL x).ok) (by grind)]
  simp [nl]
theorem agK (hk:Fu k) {c:Cl} (hc:aG c) (ret:List Cl×Int→Option S):vh k c ret=ret (l9 c):=by
 have hl:=Ch c.pos
 simp only [vh,ED,sE,KJ hc.1]
 have:=acG hk ret hc (l:=eX c.pos) (by omega) (eX c.pos) [] k [] rfl (by omega) (fun c hc=>by cases hc) (by grind)
 grind [l9,oy]
def ic (c:Cl) (i:Nat):List Cl:=(if bj c.pos i then [nl i] else [])++(if bj c.neg i then [pl i] else [])
def ie (c:Cl) (n:Nat):List Cl:=(List.range n).flatMap (ic c)
theorem ajc (c:Cl) (i:Nat):(ic c i).length≤2:=by grind [ic]
theorem ajd {c d:Cl} {i:Nat} (h:d∈ic c i):RC d:=by
 grind [ic,CL,CW]
theorem QZ (c:Cl) (n:Nat):ie c (n+1)=ie c n++ic c n:=by simp [ie,List.range_succ]
theorem QY (c:Cl) (n:Nat):(ie c n).length≤2*n:=by
 induction n<;>grind [ie,QZ,ajc]
theorem aje {c d:Cl} {n:Nat} (h:d∈ie c n):RC d:=by
 obtain ⟨i,_,hi⟩:=List.mem_flatMap.1 h;exact ajd hi
theorem ahn (hk:Fu k) (i:Nat) (hi:i<24) (ret:Int→Option S):gP k [(i:Int)] ret=ret (ei 0 i):=by
 have:=oU hk [i] (by simp) (by grind) ret
 grind [ints,yF,bW]
theorem adm (hk:Fu k) (ret:List Cl→Option S) {c:Cl} (hc:aG c): ∀ (d i m:Nat),i+d=24→d<m→nZ k ret c m (ie c i) (i:Int)=ret (aW (ie c 24)).1:=by
 intro d
 induction d with
 |zero=>
  intro i m e hm
  obtain ⟨m,rfl,hm'⟩:=ak hm
  have:i=24:=by omega
  subst this
  have hlen:=QY c 24
  simp only [nZ,uh,aH,al hk,mq hk (show ao (ie c 24) from fun d hd=>(aje hd).ok) (by omega)]
  rfl
 |succ d ih=>
  intro i m e hm
  obtain ⟨m,rfl,hm'⟩:=ak hm
  have e2:(i:Int)+1=((i+1:Nat):Int):=by simp
  have hlen:=QY c i
  simp only [nZ,uh,al hk,gz hk hc.1,gz hk hc.2,b7,decide_eq_true_eq,ahn hk i (by omega)]
  rw [if_pos (by omega),da (by omega) (by omega),e2]
  have hi:=ih (i+1) m (by omega) (by omega)
  rw [QZ] at hi
  cases hp:bj c.pos (i:Int)<;>cases hn:bj c.neg (i:Int)<;>simp only [ic,hp,hn,if_true,Bool.false_eq_true,if_false,List.append_nil,List.nil_append,List.append_assoc,List.singleton_append] at hi ⊢
  ·exact hi
  ·rw [aM (by grind)];exact hi
  ·rw [aM (by grind)];exact hi
  ·rw [aM (by grind),aM (by grind)];exact hi
theorem ahe (hk:Fu k) {c:Cl} (hc:aG c) (ret:List Cl→Option S):vw k c ret=ret (l9 c).1:=by
 simp only [vw,EZ]
 have:=adm hk ret hc 24 0 k (by omega) (by omega)
 refine Eq.trans this ?_
 congr 2
 refine adu fun d=> ?_
 unfold ie oy
 rw [List.mem_flatMap,List.mem_append,List.mem_map,List.mem_map]
 have hs: ∀ (s:Int) (x:Int),x∈eX s↔ ∃i:Nat,i<24∧s.toNat.testBit i=true∧x=i:=by
  grind [eX,ints,mem_bitsN]
 have hh: ∀ (s:Int) (i:Nat),i<24→bj s (i:Int)=s.toNat.testBit i:=by
  grind [bj]
 constructor
 ·grind [ic]
 ·rintro (⟨x,hx,rfl⟩|⟨x,hx,rfl⟩)
  ·obtain ⟨i,h1,h2,rfl⟩:=(hs _ _).1 hx
   refine ⟨i,by grind, ?_⟩
   grind [ic]
  ·obtain ⟨i,h1,h2,rfl⟩:=(hs _ _).1 hx
   refine ⟨i,by grind, ?_⟩
   grind [ic]
def aY (step:List Cl→Cl→List Cl×Int):List Cl→List Cl→List Cl×Int
 |h,[]=>(h,0)
 |h,c::r=>if (step h c).2=0 then aY step (step h c).1 r else ([],(step h c).2)
def kl (h:List Cl) (c:Cl):List Cl×Int:=cH h (l9 c).1
def cu (f:List Cl):List Cl×Int:=aY kl [⟨0,0⟩] f
theorem adZ {f g:List Cl} (h:(cH f g).2≠0):(cH f g).1=[]:=adv h
theorem H0 {step:List Cl→Cl→List Cl×Int} (hs: ∀h c,RF h→(step h c).2=0→RF (step h c).1): ∀ {r h:List Cl},RF h→(aY step h r).2=0→RF (aY step h r).1:=by
 intro r
 induction r<;>grind [aY]
theorem CM (h:List Cl) (c:Cl) (hh:RF h) (h0:(kl h c).2=0):RF (kl h c).1:=jj hh.2 (w6 c).2 h0
theorem g9 {f:List Cl} (h:(cu f).2=0):RF (cu f).1:=H0 CM (gy mj) h
theorem bR (n:Int):(n==0)=decide (n=0):=by rfl
theorem agJ (hk:Fu k) {h:List Cl} {c:Cl} (hh:RF h) (hc:aG c) (ret:List Cl×Int→Option S):vg k h c ret=ret (kl h c):=by
 have:=hh.len;have:=(w6 c).len
 simp only [vg,PM,al hk,agK hk hc,K6,tc hk hh.2 (w6 c).2 (show h.length<32768 by omega) (show (l9 c).1.length<32768 by omega)]
 rfl
theorem acr (hk:Fu k) (ret:List Cl×Int→Option S) {l:List Cl} (hl:ao l) (hlen:l.length<2147483648):
  ∀ (r p:List Cl) (m:Nat) (h:List Cl),l=p++r→r.length<m→RF h→nL k ret l m h (p.length:Int)=ret (aY kl h r):=by
 intro r
 induction r with
 |nil=>
  intro p m h e hm hh
  obtain ⟨m,rfl,hm'⟩:=ak hm
  simp only [nL,tP,cQ e,ai];rfl
 |cons x r ih=>
  intro p m h e hm hh
  obtain ⟨m,rfl,hm'⟩:=ak hm
  obtain ⟨e1,e2,e3,e4⟩:=az e (by omega)
  have hx:aG x:=hl x (by grind)
  simp only [nL,tP,e1,aj,e2,Option.bind_some,al hk,agJ hk hh hx,bR,e3]
  grind [ai,CM,aY,aj]
theorem OF (hk:Fu k) {f:List Cl} (hf:ao f) (hlen:f.length<2147483648) (ret:List Cl×Int→Option S):mR k f ret=ret (cu f):=by
 simp only [mR,PL,al hk,qv,PF,AC,EA]
 exact acr hk ret hf hlen f [] k _ rfl (by omega) (gy mj)
theorem agv (hk:Fu k) {f:List Cl} (hf:ao f) (hlen:f.length<2147483648) (ret:List Cl×Int→Option S):vc k f ret=ret (if a8 f then cu f else ([],2)):=by
 simp only [vc,PE,al hk,D0 hk (l:=[f]) (by grind) (by simp),OF hk hf hlen]
 have:[f].all a8=a8 f:=by simp
 rw [this]
 by_cases h:a8 f=true
 ·rw [if_pos h,if_pos h];rfl
 ·rw [if_neg h,if_neg h];rfl
theorem adb (hk:Fu k) (ret:List Cl×Int→Option S) {l:List Cl} (hl:ao l) (hlen:l.length<2147483648):
  ∀ (r p:List Cl) (m:Nat) (h:List Cl) (e:Int),l=p++r→r.length<m→(e=0→RF h)→(e≠0→h=[])→nX k ret l m h e (p.length:Int)=ret (if e=0 then aY kl h r else ([],e)):=by
 intro r
 induction r with
 |nil=>
  intro p m h e el hm h1 h2
  obtain ⟨m,rfl,hm'⟩:=ak hm
  simp only [nX,ug,cQ el,ai]
  by_cases h0:e=0
  ·rw [if_pos h0,h0];rfl
  grind
 |cons x r ih=>
  intro p m h e el hm h1 h2
  obtain ⟨m,rfl,hm'⟩:=ak hm
  obtain ⟨e1,e2,e3,e4⟩:=az el (by omega)
  have hx:aG x:=hl x (by grind)
  simp only [nX,ug,e1,aj,bR,e3,e2,Option.bind_some,al hk,ahe hk hx]
  by_cases h0:e=0
  ·have hh:=h1 h0
   rw [decide_eq_true h0,aj,ym hk hh (w6 x),if_pos h0]
   have:=ih (p++[x]) m (kl h x).1 (kl h x).2 e4 hm' (fun h0=>CM h x hh h0) (fun h0=>adZ h0)
   exact this
  grind [ai]
theorem OS (hk:Fu k) {f:List Cl} (hf:ao f) (hlen:f.length<2147483648) (ret:List Cl×Int→Option S):m8 k f ret=ret (if a8 f then cu f else ([],2)):=by
 simp only [m8,EX,al hk,fJ hk hf hlen]
 by_cases h:a8 f=true
 ·rw [h,Bool.not_true,ai,if_pos rfl]
  have:=adb hk ret hf hlen f [] k [⟨0,0⟩] 0 rfl (by omega) (fun _=>gy mj) (fun h=>absurd rfl h)
  rw [if_pos rfl] at this
  exact this
 grind [aj]
end Go.Proofs.YtgajalidbabccaaGreatDoor
namespace Go.Proofs.YtgajalidbabccaaGreatDoor
open Go PI
set_option linter.unusedVariables false
set_option linter.unusedSimpArgs false
set_option maxRecDepth 20000
variable {S:Type} {k:Nat}
def bQ (i:Int) (c:Cl):Cl:=⟨c_ c.pos i,c_ c.neg i⟩
theorem iP (i:Int) (c:Cl):RC (bQ i c):=⟨FG,FG⟩
def dE (i:Int) (r:List Cl) (c:Cl):List Cl×Int:=if bj c.pos i then cH [bQ i c] r else ([bQ i c],0)
def eb (i:Int) (r:List Cl) (c:Cl) (g:List Cl):List Cl×Int:=if bj c.neg i then if (cu r).2=0 then cH g (cu r).1 else ([],(cu r).2) else (g,0)
def dv (i:Int) (r h:List Cl) (c:Cl):List Cl×Int:=
 if (dE i r c).2=0 then if (eb i r c (dE i r c).1).2=0 then ci h (eb i r c (dE i r c).1).1 else ([],(eb i r c (dE i r c).1).2) else ([],(dE i r c).2)
def jN (i:Int):Bool:=decide (0≤i∧i<24)
def gu (f:List Cl) (i:Int) (r:List Cl):List Cl×Int:=if a8 f&&a8 r&&jN i then aY (dv i r) [] f else ([],2)
theorem aeS {i:Int} {r:List Cl} {c:Cl} (hr:RF r) (h:(dE i r c).2=0):RF (dE i r c).1:=by
 unfold dE at h ⊢
 split
 ·next hh=>rw [if_pos hh] at h;exact jj (gy (iP i c)).2 hr.2 h
 simp_all [gy,iP]
theorem aeU {i:Int} {r g:List Cl} {c:Cl} (hg:RF g) (h:(eb i r c g).2=0):RF (eb i r c g).1:=by
 unfold eb at h ⊢
 split
 ·next hh=>
  rw [if_pos hh] at h
  split
  ·next hn=>rw [if_pos hn] at h;exact jj hg.2 (g9 hn).2 h
  grind
 omega
theorem La {i:Int} {r:List Cl} (hr:RF r) (h:List Cl) (c:Cl) (hh:RF h) (h0:(dv i r h c).2=0):RF (dv i r h c).1:=by
 unfold dv at h0 ⊢
 split
 ·next ha=>
  rw [if_pos ha] at h0
  have hA:=aeS hr ha
  split
  ·next hb=>rw [if_pos hb] at h0;exact Iv hh.2 (aeU hA hb).2 h0
  grind
 grind
theorem agj (hk:Fu k) {i:Int} {r h:List Cl} {c:Cl} (hr:RF r) (hh:RF h) (hc:aG c) (ret:List Cl×Int→Option S):ve k h c i r ret=ret (dv i r h c):=by
 have l1:=hr.len;have l2:=hh.len
 have hg:=gy (iP i c)
 simp only [ve,PH,al hk,tb hk hc.1,tb hk hc.2,oQ hk hc.1,oQ hk hc.2,tc hk hg.2 hr.2 (show [bQ i c].length<32768 by simp) (show r.length<32768 by omega),OF hk hr.2 hr.lt,bR,b7,decide_eq_true_eq,Bool.not_eq_true',decide_eq_false_iff_not]
 have e: ∀ (f:List Cl×Int→Option S),iD k [Cl.mk (c_ c.pos i) (c_ c.neg i)] r f=f (cH [bQ i c] r):=fun f=>tc hk hg.2 hr.2 (by simp) (by omega) f
 simp only [e]
 unfold dv dE eb
 by_cases hp:bj c.pos i=true
 ·simp only [hp,if_true]
  by_cases h1:(cH [bQ i c] r).2=0
  ·have hA:RF (cH [bQ i c] r).1:=jj hg.2 hr.2 h1
   have l3:=hA.len
   simp only [h1,not_true,if_false,if_true]
   by_cases hn:bj c.neg i=true
   ·simp only [hn,if_true]
    by_cases h2:(cu r).2=0
    ·have hN:=g9 h2
     have l4:=hN.len
     simp only [h2,not_true,if_false,if_true]
     rw [tc hk hA.2 hN.2 (by omega) (by omega)]
     by_cases h3:(cH (cH [bQ i c] r).1 (cu r).1).2=0
     ·have hB:=jj hA.2 hN.2 h3
      have l5:=hB.len
      simp only [h3,not_true,if_false,if_true]
      rw [yl hk hh.2 hB.2 (by omega) (by omega)]
     grind
    grind
   ·simp only [hn,Bool.false_eq_true,if_false,if_true]
    rw [yl hk hh.2 hA.2 (by omega) (by omega)]
  grind
 ·simp only [hp,Bool.false_eq_true,if_false,if_true]
  by_cases hn:bj c.neg i=true
  ·simp only [hn,if_true]
   by_cases h2:(cu r).2=0
   ·have hN:=g9 h2
    have l4:=hN.len
    simp only [h2,not_true,if_false,if_true]
    have e2: ∀ (f:List Cl×Int→Option S),iD k [Cl.mk (c_ c.pos i) (c_ c.neg i)] (cu r).1 f=f (cH [bQ i c] (cu r).1):=fun f=>tc hk hg.2 hN.2 (by simp) (by omega) f
    rw [e2]
    by_cases h3:(cH [bQ i c] (cu r).1).2=0
    ·have hB:=jj hg.2 hN.2 h3
     have l5:=hB.len
     simp only [h3,not_true,if_false,if_true]
     rw [yl hk hh.2 hB.2 (by omega) (by omega)]
    grind
   grind
  ·simp only [hn,Bool.false_eq_true,if_false,if_true]
   have:=yl hk hh.2 hg.2 (by omega) (by simp) ret
   exact this
theorem acs (hk:Fu k) (ret:List Cl×Int→Option S) {i:Int} {q:List Cl} (hq:RF q) {l:List Cl} (hl:ao l) (hlen:l.length<2147483648):
  ∀ (r p:List Cl) (m:Nat) (h:List Cl),l=p++r→r.length<m→RF h→nJ k ret i q l m h (p.length:Int)=ret (aY (dv i q) h r):=by
 intro r
 induction r with
 |nil=>
  intro p m h e hm hh
  obtain ⟨m,rfl,hm'⟩:=ak hm
  simp only [nJ,tO,cQ e,ai];rfl
 |cons x r ih=>
  intro p m h e hm hh
  obtain ⟨m,rfl,hm'⟩:=ak hm
  obtain ⟨e1,e2,e3,e4⟩:=az e (by omega)
  have hx:aG x:=hl x (by grind)
  simp only [nJ,tO,e1,aj,e2,Option.bind_some,al hk,agj hk hq hh hx,bR,e3]
  grind [ai,La,aY,aj]
theorem agc (hk:Fu k) (i:Int) (ret:List Cl×Int→Option S):va k i ret=ret (if jN i then ([⟨ei 0 i,0⟩],0) else ([],2)):=by
 simp only [va,PB,al hk,ta hk u0]
 grind [jN,yF,Aj,ai,Ai,aj]
theorem agw (hk:Fu k) {f r:List Cl} {i:Int} (hf:ao f) (hr:ao r) (h1:f.length<2147483648) (h2:r.length<2147483648) (ret:List Cl×Int→Option S):vd k f i r ret=ret (gu f i r):=by
 simp only [vd,PG,al hk,D0 hk (l:=[f,r]) (by grind) (by simp),agc hk]
 have e:[f,r].all a8=(a8 f&&a8 r):=by simp
 unfold gu
 by_cases ha:(a8 f&&a8 r)=true
 ·rw [e,if_pos ha,ha,Bool.true_and]
  rw [show ((0:Int)==0)=true from rfl,Bool.not_true,ai]
  cases hd:jN i with
  |true=>
   rw [if_pos rfl,if_pos rfl]
   rw [show ((0:Int)==0)=true from rfl,Bool.not_true,ai]
   simp only [mQ,Ey,AB,Ez]
   have hr':=(eH hr).1 (by grind)
   exact acs hk ret hr' hf h1 f [] k [] rfl (by omega) oL
  |false=>
   rfl
 simp_all [if_neg,aj]
theorem aeZ (hk:Fu k) (ret:List Cl×Int→Option S) (rec0:List Cl→Int→Option S) (f:List Cl) (i:Int) (r:List Cl) {h:List Cl} {v:Int} {g:List Cl} {e:Int} (hh:RF h) (hg:e=0→RF g):
  nY k ret rec0 f i r h v k g e=if e=0 then if (ci h g).2=0 then rec0 (ci h g).1 (IntKind.wrap .i64 (v+1)) else ret ([],(ci h g).2) else ret ([],e):=by
 obtain ⟨q,hq⟩: ∃q,k=q+1:=⟨k-1,by omega⟩
 grind [nY,zV,aj,al,agR,ai]
theorem adc (hk:Fu k) (ret:List Cl×Int→Option S) {i:Int} {q:List Cl} (hq:RF q) {l:List Cl} (hl:ao l) (hlen:l.length<2147483648):
  ∀ (r p:List Cl) (m:Nat) (h:List Cl),l=p++r→r.length<m→RF h→j9 k ret l i q m h (p.length:Int)=ret (aY (dv i q) h r):=by
 intro r
 induction r with
 |nil=>
  intro p m h e hm hh
  obtain ⟨m,rfl,hm'⟩:=ak hm
  simp only [j9,pD,cQ e,ai];rfl
 |cons x r ih=>
  intro p m h e hm hh
  obtain ⟨m,rfl,hm'⟩:=ak hm
  obtain ⟨e1,e2,e3,e4⟩:=az e (by omega)
  have hx:aG x:=hl x (by grind)
  have hg:=gy (iP i x)
  have key: ∀ (g:List Cl) (e:Int),(e=0→RF g)→(dv i q h x=if e=0 then ci h g else ([],e))→nY k ret (j9 k ret l i q m) l i q h (p.length:Int) k g e=ret (aY (dv i q) h (x::r)):=by
   intro g e hge hput
   rw [aeZ hk _ _ _ _ _ hh hge,aY,hput]
   by_cases h0:e=0
   ·rw [if_pos h0,if_pos h0]
    by_cases h1:(ci h g).2=0
    ·rw [if_pos h1,if_pos h1,e3]
     exact ih (p++[x]) m _ e4 hm' (Iv hh.2 (hge h0).2 h1)
    grind
   grind
  have em: ∀ (f:List Cl×Int→Option S),iG k [Cl.mk (c_ x.pos i) (c_ x.neg i)] q f=f (cH [bQ i x] q):=fun f=>ym hk hg hq f
  simp only [j9,pD,e1,aj,e2,Option.bind_some,al hk,yo hk hx.1,yo hk hx.2,gz hk hx.1,gz hk hx.2,em,OS hk hq.2 hq.lt,hq.right,if_true,bR]
  cases hp:bj x.pos i with
  |true=>
   rw [aj]
   by_cases h1:(cH [bQ i x] q).2=0
   ·have hA:RF (cH [bQ i x] q).1:=jj hg.2 hq.2 h1
    rw [decide_eq_true h1,aj]
    cases hn:bj x.neg i with
    |true=>
     rw [aj]
     by_cases h2:(cu q).2=0
     ·rw [decide_eq_true h2,aj,ym hk hA (g9 h2)]
      exact key _ _ (fun h0=>jj hA.2 (g9 h2).2 h0) (by grind [dv,dE,eb])
     grind [ai,dv,dE,eb]
    |false=>
     grind [ai,dv,dE,eb]
   grind [ai,dv,dE]
  |false=>
   rw [ai]
   cases hn:bj x.neg i with
   |true=>
    rw [aj]
    by_cases h2:(cu q).2=0
    ·have em2: ∀ (f:List Cl×Int→Option S),iG k [Cl.mk (c_ x.pos i) (c_ x.neg i)] (cu q).1 f=f (cH [bQ i x] (cu q).1):=fun f=>ym hk hg (g9 h2) f
     rw [decide_eq_true h2,aj,em2]
     exact key _ _ (fun h0=>jj hg.2 (g9 h2).2 h0) (by grind [dv,dE,eb])
    grind [ai,dv,dE,eb]
   |false=>
    grind [ai,bQ,dv,dE,eb]
theorem ag3 (hk:Fu k) {f r:List Cl} {i:Int} (hf:ao f) (hr:ao r) (h1:f.length<2147483648) (h2:r.length<2147483648) (ret:List Cl×Int→Option S):vv k f i r ret=ret (gu f i r):=by
 simp only [vv,EY,al hk,fJ hk hf h1,fJ hk hr h2,aH]
 unfold gu jN
 cases ha:a8 f with
 |false=>rfl
 |true=>
  rw [Bool.not_true,ai]
  cases hb:a8 r with
  |false=>rfl
  |true=>
   rw [Bool.not_true,ai]
   by_cases h3:i<0
   ·grind
   ·by_cases h4:i≥24
    ·grind
    ·rw [if_neg h3,if_neg h4,decide_eq_true (by omega)]
     exact adc hk ret ((eH hr).1 hb) hf h1 f [] k [] rfl (by omega) oL
theorem adF {m n b:Nat}:(dS m n b).1<16777216:=by
 have h1:m&&&M24<16777216:=Nat.lt_of_le_of_lt Nat.and_le_right (by decide)
 have h2:fG m n≤m&&&M24:=Nat.and_le_left
 unfold dS
 split
 ·omega
 ·split
  ·simp
  ·split
   ·simp
   ·exact Nat.or_lt_two_pow (n:=24) (by omega) (by omega)
theorem I3 (s i b:Int):0≤(ct s i b).1∧(ct s i b).1<16777216:=by
 grind [ct,adF]
theorem I2 (c:Cl) (i b:Int):RC (c7 c i b).1:=by
 unfold c7
 split
 ·split
  ·split
   ·exact ⟨I3 _ _ _,I3 _ _ _⟩
   ·exact mj
  ·exact mj
 ·exact mj
def dh (i b:Int) (h:List Cl) (c:Cl):List Cl×Int:=(h++[(c7 c i b).1],(c7 c i b).2)
def bo (f:List Cl) (i b:Int):List Cl×Int:=if a8 f then if (aY (dh i b) [] f).2=0 then aW (aY (dh i b) [] f).1 else ([],(aY (dh i b) [] f).2) else ([],2)
theorem H1 {i b:Int}: ∀ {r h:List Cl},ao h→ao (aY (dh i b) h r).1∧(aY (dh i b) h r).1.length≤h.length+r.length:=by
 intro r
 induction r with
 |nil=>intro h hh;exact ⟨hh,by show h.length≤_;omega⟩
 |cons c r ih=>
  intro h hh
  unfold aY
  split
  ·have:=ih (h:=(dh i b h c).1) (d_ hh fun d hd=>by simp at hd;subst hd;exact (I2 c i b).ok)
   grind [dh]
  ·exact ⟨fun d hd=>(by cases hd),by simp⟩
theorem acq (hk:Fu k) (ret:List Cl×Int→Option S) {i b:Int} (hi:aF i) (hb:aF b) {l:List Cl} (hl:ao l) (hlen:l.length<2147483648):
  ∀ (r p:List Cl) (m:Nat) (h:List Cl),l=p++r→r.length<m→h.length+r.length<4294967296→nM k ret i b l m h (p.length:Int)=ret (aY (dh i b) h r):=by
 intro r
 induction r with
 |nil=>
  intro p m h e hm hh
  obtain ⟨m,rfl,hm'⟩:=ak hm
  simp only [nM,tQ,cQ e,ai];rfl
 |cons x r ih=>
  intro p m h e hm hh
  obtain ⟨m,rfl,hm'⟩:=ak hm
  obtain ⟨e1,e2,e3,e4⟩:=az e (by omega)
  have hx:aG x:=hl x (by grind)
  simp only [List.length_cons] at hh
  simp only [nM,tQ,e1,aj,e2,Option.bind_some,al hk,Az,PD,agr hk hx hi hb,bR,e3]
  grind [aM,ai,aY,dh,aj]
theorem yk (hk:Fu k) {f:List Cl} {i b:Int} (hf:ao f) (hlen:f.length<1073741824) (hi:aF i) (hb:aF b) (ret:List Cl×Int→Option S):iC k f i b ret=ret (bo f i b):=by
 have hlo:=H1 (i:=i) (b:=b) (r:=f) (h:=[]) (fun d hd=>by cases hd)
 simp only [List.length_nil] at hlo
 have hfold: ∀ (g:List Cl×Int→Option S),vf k f [] i b g=g (aY (dh i b) [] f):=fun g=>by
  simp only [vf,EB]
  exact acq hk g hi hb hf (by omega) f [] k [] rfl (by omega) (by grind)
 simp only [iC,PC,al hk,D0 hk (l:=[f]) (by grind) (by simp),mQ,Ey,hfold,jr hk hlo.1 (show _<2147483648 by omega)]
 grind [bo,ai,decide_eq_false,aj]
theorem ac5 (hk:Fu k) (ret:List Cl×Int→Option S) {i b:Int} (hi:aF i) (hb:aF b) {l:List Cl} (hl:ao l) (hlen:l.length<1073741824):
  ∀ (r p:List Cl) (m:Nat) (h:List Cl),l=p++r→r.length<m→ao h→h.length+r.length<2147483648→nW k ret l i b m h (p.length:Int)=ret (if (aY (dh i b) h r).2=0 then aW (aY (dh i b) h r).1 else ([],(aY (dh i b) h r).2)):=by
 intro r
 induction r with
 |nil=>
  grind [ak,nW,ue,ai,al,mq,aY]
 |cons x r ih=>
  intro p m h e hm hok hh
  obtain ⟨m,rfl,hm'⟩:=ak hm
  obtain ⟨e1,e2,e3,e4⟩:=az e (by omega)
  have hx:aG x:=hl x (by grind)
  simp only [List.length_cons] at hh
  simp only [nW,ue,e1,aj,e2,Option.bind_some,al hk,agQ hk hx hi hb,bR,e3]
  by_cases h0:(c7 x i b).2=0
  ·rw [decide_eq_true h0,Bool.not_true,ai,aM (by grind),ih (p++[x]) m _ e4 hm' (d_ hok fun d hd=>by simp at hd;subst hd;exact (I2 x i b).ok) (by grind),aY,if_pos (show (dh i b h x).2=0 from h0)];rfl
  grind [aj,aY,dh]
theorem D4 (hk:Fu k) {f:List Cl} {i b:Int} (hf:ao f) (hlen:f.length<1073741824) (hi:aF i) (hb:aF b) (ret:List Cl×Int→Option S):m7 k f i b ret=ret (bo f i b):=by
 simp only [m7,EV,al hk,fJ hk hf (show f.length<2147483648 by omega)]
 unfold bo
 cases hr:a8 f with
 |true=>
  rw [Bool.not_true,ai,if_pos rfl]
  exact ac5 hk ret hi hb hf hlen f [] k [] rfl (by omega) (fun d hd=>by cases hd) (by grind)
 |false=>
  rfl
theorem kh {f:List Cl} {i b:Int} (h:(bo f i b).2=0):RF (bo f i b).1:=by
 unfold bo at h ⊢
 split
 ·next hr=>
  rw [if_pos hr] at h
  split
  ·next h0=>
   rw [if_pos h0] at h
   exact oq (H1 fun d hd=>by cases hd).1 h
  grind
 grind
end Go.Proofs.YtgajalidbabccaaGreatDoor
namespace Go.Proofs.YtgajalidbabccaaGreatDoor
open Go PI
set_option linter.unusedVariables false
set_option linter.unusedSimpArgs false
set_option maxRecDepth 20000
variable {S:Type} {k:Nat}
def w7 (s:Nat) (f:List Cl):Nat:=f.foldl (fun s c=>s|||(c.pos.toNat|||c.neg.toNat)) s
def eT (f:List Cl):Nat:=w7 0 f&&&M24
def fZ (f:List Cl):Int:=((eT f:Nat):Int)
def ig (f:List Cl) (i:Nat):Bool:=f.any fun c=>c.pos.toNat.testBit i||c.neg.toNat.testBit i
theorem aeK (i:Nat): ∀ {f:List Cl} {s:Nat},(w7 s f).testBit i=(s.testBit i||ig f i):=by
 intro f
 induction f<;>simp_all [w7,ig,Bool.or_assoc]
theorem A2 (f:List Cl) (i:Nat):(eT f).testBit i=(ig f i&&decide (i<24)):=by
 grind [eT,fT,aeK]
theorem A0 (f:List Cl):eT f<16777216:=Nat.lt_of_le_of_lt Nat.and_le_right (by decide)
theorem acd (hk:Fu k) (ret:Int→Option S) {l:List Cl} (hl:ao l) (hlen:l.length<4294967296):
  ∀ (r p:List Cl) (m:Nat) (s:Nat),l=p++r→r.length<m→s<4294967296→nI k ret l m (s:Int) (p.length:Int)=ret (((w7 s r&&&M24:Nat):Int)):=by
 intro r
 induction r with
 |nil=>
  intro p m s e hm hs
  obtain ⟨m,rfl,hm'⟩:=ak hm
  simp only [nI,tN,cQ e,ai,al hk,tb hk (U32.of hs)]
  rfl
 |cons x r ih=>
  intro p m s e hm hs
  obtain ⟨m,rfl,hm'⟩:=ak hm
  obtain ⟨e1,e2,e3,e4⟩:=az e (by omega)
  have hx:aG x:=hl x (by grind)
  have ho:U32 (dJ x.pos x.neg):=CS hx.1 hx.2
  have hq:s|||(x.pos.toNat|||x.neg.toNat)<4294967296:=by
   have h1:=hx.1.1;have h2:=hx.1.2;have h3:=hx.2.1;have h4:=hx.2.2
   have h32:(2:Nat)^32=4294967296:=by decide
   exact Nat.or_lt_two_pow (n:=32) hs (Nat.or_lt_two_pow (n:=32) (by omega) (by omega))
  have es:dJ (s:Int) (dJ x.pos x.neg)=((s|||(x.pos.toNat|||x.neg.toNat):Nat):Int):=by rfl
  simp only [nI,tN,e1,aj,e2,Option.bind_some,oA hx.1 hx.2,oA (U32.of hs) ho,e3,es]
  exact ih (p++[x]) m _ e4 hm' hq
theorem DY (hk:Fu k) {f:List Cl} (hf:ao f) (hlen:f.length<4294967296) (ret:Int→Option S):mP k f ret=ret (fZ f):=by
 simp only [mP,Ew]
 exact acd hk ret hf hlen f [] k 0 rfl (by omega) (by decide)
theorem aaJ (s:Int) (i:Nat) (hi:i<24):bj s (i:Int)=s.toNat.testBit i:=by
 grind [bj]
theorem ac2 (hk:Fu k) (ret:Int→Option S) (rec0:List Int→Int→Option S) {l:List Cl} (hl:ao l) (hlen:l.length<4294967296) (o:List Int) (ho:o.length≤64) (i:Nat) (hi:i<24):
  ∀ (r p:List Cl) (m:Nat) (b:Bool),l=p++r→r.length<m→lH k ret rec0 l o (i:Int) m b (p.length:Int)=rec0 (if b||ig r i then o++[(i:Int)] else o) ((i+1:Nat):Int):=by
 intro r
 induction r with
 |nil=>
  grind [ak,lH,uc,ai,ig,da,aj,aM]
 |cons x r ih=>
  intro p m b e hm
  obtain ⟨m,rfl,hm'⟩:=ak hm
  obtain ⟨e1,e2,e3,e4⟩:=az e (by omega)
  have hx:aG x:=hl x (by grind)
  have eu:ig (x::r) i=((x.pos.toNat.testBit i||x.neg.toNat.testBit i)||ig r i):=by rfl
  simp only [lH,uc,e1,aj,e2,Option.bind_some,al hk,gz hk hx.1,gz hk hx.2,aaJ _ _ hi,e3,eu]
  cases b<;>grind [aj,ai]
def lk (f:List Cl) (n:Nat):List Nat:=(List.range n).filter (ig f)
theorem ac1 (hk:Fu k) (ret:Int→Option S) {f:List Cl} (hf:ao f) (hlen:f.length<1073741824): ∀ (d i m:Nat),i+d=24→d<m→j7 k ret f m (ints (lk f i)) (i:Int)=ret ((bW (lk f 24):Nat):Int):=by
 have hl: ∀n,n≤24→(lk f n).length≤24:=fun n hn=>by
  grind [lk]
 intro d
 induction d with
 |zero=>
  intro i m e hm
  obtain ⟨m,rfl,hm'⟩:=ak hm
  have:i=24:=by omega
  subst this
  simp only [j7,pB,aH,al hk]
  rw [if_neg (by omega),oU hk _ (by grind) fun x hx=>by
   have:=(List.mem_filter.1 hx).1;grind]
 |succ d ih=>
  intro i m e hm
  obtain ⟨m,rfl,hm'⟩:=ak hm
  have hk':4294967296≤k:=hk
  have hli:=hl i (by omega)
  simp only [j7,pB,aH]
  rw [if_pos (by omega)]
  have:=ac2 hk ret (j7 k ret f m) hf (by omega) (ints (lk f i)) (by rw [dQ];omega) i (by omega) f [] k false rfl (by omega)
  simp only [List.length_nil] at this
  rw [show (0:Int)=((0:Nat):Int) from rfl,this,Bool.false_or,←ih (i+1) m (by omega) (by omega)]
  grind [lk,List.range_succ,ints]
theorem OO (hk:Fu k) {f:List Cl} (hf:ao f) (hlen:f.length<1073741824) (ret:Int→Option S):qG k f ret=ret (fZ f):=by
 simp only [qG,EU]
 have:=ac1 hk ret hf hlen 24 0 k (by omega) (by omega)
 refine Eq.trans this ?_
 congr 2
 apply Nat.eq_of_testBit_eq
 grind [mt,lk,List.nodup_range,A2]
def cG (f:List Cl) (d:Int):Bool:=decide (∀i∈bu (eT f),(i:Int)<d)
theorem OZ (hk:Fu k) {f:List Cl} {d:Int} (hf:ao f) (hlen:f.length<4294967296) (hd:0≤d) (hd':d<9223372036854775808) (ret:Bool→Option S):jM k f d ret=ret (cG f d):=by
 simp only [jM,QS,aH,al hk,DY hk hf hlen]
 by_cases h:d≥24
 ·grind [cG,mem_bitsN]
 ·rw [if_neg h]
  obtain ⟨n,rfl⟩: ∃n:Nat,d=n:=⟨d.toNat,by omega⟩
  rw [gC n (by omega),uO (by omega),Int.toNat_natCast,Nat.min_eq_left (by omega)]
  congr 1
  rw [fZ,Bn,cG,Bool.eq_iff_iff]
  simp only [beq_iff_eq,decide_eq_true_eq]
  have hdiv:(eT f/2^n=0)↔eT f<2^n:=Nat.div_eq_zero_iff_lt (Nat.two_pow_pos n)
  constructor
  ·grind [mem_bitsN,Nat.lt_of_lt_of_le,Nat.pow_le_pow_right,Nat.testBit_lt_two_pow]
  ·intro h0
   have:eT f<2^n:=by
    apply Nat.lt_pow_two_of_testBit
    grind [mem_bitsN,mG,A0]
   omega
theorem Xf (m:Nat):(bu m).Pairwise (· < ·):=List.Pairwise.filter _ List.pairwise_lt_range
theorem OH (hk:Fu k) {f:List Cl} {d:Int} (hf:ao f) (hlen:f.length<1073741824) (ret:Bool→Option S):qL k f d ret=ret (cG f d):=by
 have hlt:=A0 f
 simp only [qL,Qq,al hk,OO hk hf hlen,fZ,oT hk (show eT f<4294967296 by omega),dQ]
 have hs:=Xf (eT f)
 have hl:=fg (eT f)
 unfold cG
 generalize bu (eT f)=l at hs hl
 by_cases h0:l=[]
 ·simp_all [aj]
 ·have hpos:0<l.length:=List.length_pos_iff.2 h0
  have hb:((l.length:Int)==0)=false:=by grind
  have e1:(l.length:Int)-1=((l.length-1:Nat):Int):=by omega
  rw [hb,ai,da (by omega) (by omega),e1,ww,BB,List.getElem?_eq_getElem (by omega)]
  simp only [Option.map_some,Option.bind_some]
  congr 1
  rw [Bool.eq_iff_iff,decide_eq_true_eq,decide_eq_true_eq]
  constructor
  ·intro h i hi
   obtain ⟨j,hj,rfl⟩:=List.getElem_of_mem hi
   have:l[j]≤l[l.length-1]:=by
    grind [List.pairwise_iff_getElem]
   grind
  grind
end Go.Proofs.YtgajalidbabccaaGreatDoor
