/- Part 3 of a proof: the sources, with their names and remarks, lie in wip/. -/
import Derived.Test.YtgajalidbabccaaGreatDoorX2
import Derived.Test.YtgajalidbabccaaGreatDoorRows
import Derived.ProofKit
import Derived.OpenShut
import Derived.ChangeArms
import Derived.Deep.Slices
import Derived.Shelf.SlSortCmp.NoneTotal
import Derived.Ground.SlsfProg
import Derived.Test.YtgajalidbabccaaGreatDoorProg
import Derived.Shelf.Spec.TrailingZeros
import Derived.RangeFuncBound
import Derived.RangeFuncLeaves
import Derived.RangeFuncOwn
import Derived.OwnWalkIn
import Derived.TacticsInMore
import Derived.LoopNIn
import Derived.LoopIn
import Derived.Maps.RangeWalk
import Derived.Maps.AppendAt
import Derived.Test.YtgajalidbabccaaGreatDoorCards
import Derived.Test.YtgajalidbabccaaGreatDoorTie
import Derived.WalkKit
import Derived.ReadAgain
import Derived.Deep.DeepHandedRow
import Derived.Lib.LaidTab
import Derived.KernelRfl
open Array renaming getD_eq_getD_getElem?→jc,getElem?_eq_some_iff→iF
open Bool renaming and_eq_true→af,not_eq_true'→jd,not_false→ef,not_true→dL
open ByteArray renaming empty→aw
open Go.IntKind renaming wrap→aj
open Int renaming toNat_natCast→gQ
open List renaming all_eq_true→dU,append_nil→eN,getElem?_eq_getElem→fc,getElem?_eq_some_iff→gR,length_cons→er,map_cons→iG,mem_append→eu,mem_cons→eh,mem_map→dA,nil_append→eF,range→fz
open Nat renaming beq→ay,ble→dI,le_refl→ee,le_trans→fC
open Option renaming bind→ag,bind_some→bD
set_option linter.unusedVariables false
set_option linter.unusedSimpArgs false
namespace Go.Proofs.YtgajalidbabccaaGreatDoor
open Go PI
set_option maxRecDepth 100000
noncomputable section
variable {S:Type}
def rk (k:Nat) (J:Tm×Int->OS S) (a:Tm) (r5:Int×Int×BA×LT) (sys:LB) (rec0:Int->(LB)->Int->OS S) (d_:Int) (b9_5:LB) (v29:Int):OS S:=ac (decide ((v29:Int)<(sys.length:Int))) (ag (ar sys v29) fun x6=>aa k (ew k d_) fun r7=>ac (!r7) (aa k (gV k (ae a) 0 2 d_) fun r8=>ag (bH 1099511627776 b9_5.length [(Br.mk [(Cl.mk 0 1)] [(ae r8.1)])].length) fun x9=>aa k (fV k (Tm.mk r5.1 r5.2.1 r5.2.2.1 [] r5.2.2.2 (b9_5++[(Br.mk [(Cl.mk 0 1)] [(ae r8.1)])])) r8.2) fun r10=>J ((ae r10.1),r10.2.1)) (aa k (mg k x6.face d_) fun r11=>ag (ar x6.kids 0) fun x12=>aa k (ls k (ae x12) [(Cl.mk 3 0)] r11.2) fun r13=>ag (bH 1099511627776 b9_5.length [(Br.mk r11.1 [(ae r13.1)])].length) fun x14=>rec0 r13.2 (b9_5++[(Br.mk r11.1 [(ae r13.1)])]) (aj .i64 (v29+1)))) (aa k (gV k (ae a) 0 2 d_) fun r15=>ag (bH 1099511627776 b9_5.length [(Br.mk [(Cl.mk 0 1)] [(ae r15.1)])].length) fun x16=>aa k (fV k (Tm.mk r5.1 r5.2.1 r5.2.2.1 [] r5.2.2.2 (b9_5++[(Br.mk [(Cl.mk 0 1)] [(ae r15.1)])])) r15.2) fun r17=>J ((ae r17.1),r17.2.1))
def kS (k:Nat) (J:Tm×Int->OS S) (a:Tm) (r5:Int×Int×BA×LT) (sys:LB):Nat->Int->(LB)->Int->OS S
 |0=>fun _ _ _=> .none
 |m+1=>fun d_ b9_5 v29=>rk k J a r5 sys (kS k J a r5 sys m) d_ b9_5 v29
def GU (k:Nat) (J:Tm×Int->OS S) (J0:(Int×Int×BA×LT)->Int->(LB)->Int->OS S) (t a:Tm) (sys:LB):OS S:=aa k (rz k sys) fun r1=>aa k (m6 k [(ae t),(ae a),(Tm.mk r1.1 r1.2.1 r1.2.2.1 [] r1.2.2.2.1 r1.2.2.2.2)]) fun r2=>aa k (gV k (ae t) 0 1 r2) fun r3=>aa k (gV k (ae a) 0 1 r3.2) fun r4=>aa k (eJ k 15 [(ae r3.1),(ae r4.1)]) fun r5=>J0 r5 r4.2 ([]:LB) 0
def yN (k:Nat) (t a:Tm) (sys:LB) (J:Tm×Int->OS S):OS S:=GU k J (fun r5 d_ b9_5 v29=>kS k J a r5 sys k d_ b9_5 v29) t a sys
def zH (k:Nat) (t a:Tm) (sys:LB) (c0:Int) (J:Tm×Int->OS S):OS S:=aa k (fE k c0) fun r1=>ac (!r1) (J ((Tm.mk 0 0 aw [] [] []),c0)) (aa k (yN k (ae t) (ae a) sys) fun r2=>aa k (kN k (ae r2.1) r2.2 c0) fun r3=>J ((ae r3.1),r3.2))
def zn (k:Nat) (a_x:(Br Tm)) (c1:LB) (c2:Int) (J:(Br Tm)×Int->OS S):OS S:=aa k (eK k 3 ([]:LT)) fun r1=>aa k (na k (Tm.mk r1.1 r1.2.1 r1.2.2.1 [] r1.2.2.2 []) c1) fun r2=>aa k (j_ k (Tm.mk r2.1 r2.2.1 r2.2.2.1 [] r2.2.2.2.1 r2.2.2.2.2) 0 1 c2) fun r3=>ag (ar a_x.kids 0) fun x4=>aa k (eX k a_x.face [(Tm.mk r3.1.kind r3.1.n r3.1.name r3.1.r [(ae x4)] r3.1.sys)]) fun r5=>J (r5,r3.2)
def xZ (k:Nat) (J:LB×Int->OS S) (c1 l:LB) (rec0:Int->Int->(LB)->OS S) (ke v10:Int) (out5:LB):OS S:=ac (decide ((v10:Int)<(l.length:Int))) (ag (ar l v10) fun x1=>aa k (zn k x1 c1 ke) fun r2=>ag (bH 1099511627776 out5.length [r2.1].length) fun x3=>rec0 r2.2 (aj .i64 (v10+1)) (out5++[r2.1])) (J (out5,ke))
def sS (k:Nat) (J:LB×Int->OS S) (c1 l:LB):Nat->Int->Int->(LB)->OS S
 |0=>fun _ _ _=> .none
 |m+1=>fun ke v10 out5=>xZ k J c1 l (sS k J c1 l m) ke v10 out5
def PJ (k:Nat) (J:LB×Int->OS S) (J0:Int->Int->(LB)->OS S) (l c1:LB) (c2:Int):OS S:=J0 c2 0 ([]:LB)
def IM (k:Nat) (l c1:LB) (c2:Int) (J:LB×Int->OS S):OS S:=PJ k J (fun ke v10 out5=>sS k J c1 l k ke v10 out5) l c1 c2
def zo (k:Nat) (a_x:(Br Tm)) (c1 c2:Tm) (c3:Int) (J:(Br Tm)×Int->OS S):OS S:=ag (ar a_x.kids 1) fun x1=>aa k (j_ k (ae x1) 0 1 c3) fun r2=>aa k (m_ k (ae r2.1)) fun r3=>ag (ar a_x.kids 0) fun x4=>aa k (zH k (ae x4) (ae c1) c2.sys r2.2) fun r5=>aa k (eK k 6 [(Tm.mk r3.1 r3.2.1 r3.2.2.1 [] r3.2.2.2 []),(ae r5.1)]) fun r6=>aa k (eX k a_x.face [(Tm.mk r6.1 r6.2.1 r6.2.2.1 [] r6.2.2.2 [])]) fun r7=>J (r7,r5.2)
def xY (k:Nat) (J:LB×Int->OS S) (c1 c2:Tm) (l:LB) (rec0:Int->Int->(LB)->OS S) (ez v10:Int) (out5:LB):OS S:=ac (decide ((v10:Int)<(l.length:Int))) (ag (ar l v10) fun x1=>aa k (zo k x1 (ae c1) (ae c2) ez) fun r2=>ag (bH 1099511627776 out5.length [r2.1].length) fun x3=>rec0 r2.2 (aj .i64 (v10+1)) (out5++[r2.1])) (J (out5,ez))
def sR (k:Nat) (J:LB×Int->OS S) (c1 c2:Tm) (l:LB):Nat->Int->Int->(LB)->OS S
 |0=>fun _ _ _=> .none
 |m+1=>fun ez v10 out5=>xY k J c1 c2 l (sR k J c1 c2 l m) ez v10 out5
def PH (k:Nat) (J:LB×Int->OS S) (J0:Int->Int->(LB)->OS S) (l:LB) (c1 c2:Tm) (c3:Int):OS S:=J0 c3 0 ([]:LB)
def DN (k:Nat) (l:LB) (c1 c2:Tm) (c3:Int) (J:LB×Int->OS S):OS S:=PH k J (fun ez v10 out5=>sR k J c1 c2 l k ez v10 out5) l c1 c2 c3
def DK (k:Nat) (a_x:(Br Tm)) (c0 c1:Tm) (J:(Br Tm)->OS S):OS S:=ag (ar a_x.kids 0) fun x1=>aa k (h_ k 15 c0.sys [(ae x1),(ae c1)]) fun r2=>aa k (eX k a_x.face [(Tm.mk r2.1 r2.2.1 r2.2.2.1 [] r2.2.2.2.1 r2.2.2.2.2)]) fun r3=>J r3
def xX (k:Nat) (J:LB->OS S) (c0 c1:Tm) (l:LB) (rec0:Int->(LB)->OS S) (v10:Int) (out5:LB):OS S:=ac (decide ((v10:Int)<(l.length:Int))) (ag (ar l v10) fun x1=>aa k (DK k x1 (ae c0) (ae c1)) fun r2=>ag (bH 1099511627776 out5.length [r2].length) fun x3=>rec0 (aj .i64 (v10+1)) (out5++[r2])) (J out5)
def sQ (k:Nat) (J:LB->OS S) (c0 c1:Tm) (l:LB):Nat->Int->(LB)->OS S
 |0=>fun _ _=> .none
 |m+1=>fun v10 out5=>xX k J c0 c1 l (sQ k J c0 c1 l m) v10 out5
def Hm (k:Nat) (J:LB->OS S) (J0:Int->(LB)->OS S) (l:LB) (c0 c1:Tm):OS S:=J0 0 ([]:LB)
def va (k:Nat) (l:LB) (c0 c1:Tm) (J:LB->OS S):OS S:=Hm k J (fun v10 out5=>sQ k J c0 c1 l k v10 out5) l c0 c1
def u5 (k:Nat) (t:Tm) (J:Tm×Bool×Int->OS S):OS S:=aa k (lw k (ae t)) fun r1=>ac (!(r1==0)) (J ((Tm.mk 0 0 aw [] [] []),false,r1)) (ac (!(t.kind==15)) (J ((Tm.mk 0 0 aw [] [] []),false,0)) (ag (ar t.kids 0) fun x2=>ac (!(x2.kind==16)) (J ((Tm.mk 0 0 aw [] [] []),false,0)) (fF k (ae t) fun r3=>ag (ar r3.kids 0) fun x4=>ag (ar r3.kids 1) fun x5=>ag (ar r3.kids 0) fun x6=>aa k (pP k (ae x6)) fun r7=>aa k (IM k r3.sys r7 0) fun r8=>aa k (DN k x4.sys (ae x5) (ae r3) r8.2) fun r9=>ag (bH 1099511627776 r8.1.length r9.1.length) fun x10=>ag (ar x4.kids 0) fun x11=>aa k (na k (ae x5) r7) fun r12=>aa k (h_ k 15 (r8.1++r9.1) [(ae x11),(Tm.mk r12.1 r12.2.1 r12.2.2.1 [] r12.2.2.2.1 r12.2.2.2.2)]) fun r13=>aa k (va k x4.sys (ae r3) (ae x5)) fun r14=>aa k (h_ k 17 r14 [(Tm.mk r13.1 r13.2.1 r13.2.2.1 [] r13.2.2.2.1 r13.2.2.2.2)]) fun r15=>aa k (mi k (Tm.mk r15.1 r15.2.1 r15.2.2.1 [] r15.2.2.2.1 r15.2.2.2.2) r9.2) fun r16=>J ((ae r16.1),r16.2.1,r16.2.2.1))))
abbrev S2 (S:Type):=Tm->Int->(Int->OS S)->OS S
abbrev S3 (S:Type):=Tm->Int->Tm->Int->Int->(Tm->OS S)->OS S
abbrev SU (S:Type):=Tm->(Int->OS S)->OS S
def rP (k:Nat) (t:Tm) (vars dims:Int) (J:Int->OS S):OS S:=ac (decide ((vars:Int)<0)) (J 2) (ac (decide ((dims:Int)<0)) (J 2) (ac (decide ((dims:Int)>24)) (J 2) (aa k (vk k (ae t)) fun r1=>ac (!(r1==0)) (J r1) (jD k (ae t) vars dims true fun r2=>ac (!r2) (J 100) (J 0)))))
def zy (k:Nat) (t:Tm) (J:Bool->OS S):OS S:=kO k (ae t) 100 fun r1=>J (decide ((r1:Int)>100))
def jC (k:Nat) (kind:Int) (kids:LT) (J:Int×Int×BA×LT->OS S):OS S:=J (kind,0,aw,kids)
def zz (k:Nat) (J:Bool->OS S):OS S:=aa k (jC k 19 ([]:LT)) fun r1=>aa k (jC k 20 ([]:LT)) fun r2=>aa k (jC k 16 [(Tm.mk r1.1 r1.2.1 r1.2.2.1 [] r1.2.2.2 [])]) fun r3=>aa k (jC k 15 [(Tm.mk r3.1 r3.2.1 r3.2.2.1 [] r3.2.2.2 []),(Tm.mk r2.1 r2.2.1 r2.2.2.1 [] r2.2.2.2 [])]) fun r4=>aa k (u5 k (Tm.mk r4.1 r4.2.1 r4.2.2.1 [] r4.2.2.2 [])) fun r5=>aa k (jC k 16 [(Tm.mk r1.1 r1.2.1 r1.2.2.1 [] r1.2.2.2 [])]) fun r6=>aa k (jC k 14 [(Tm.mk r6.1 r6.2.1 r6.2.2.1 [] r6.2.2.2 []),(Tm.mk r2.1 r2.2.1 r2.2.2.1 [] r2.2.2.2 [])]) fun r7=>aa k (u4 k (Tm.mk r7.1 r7.2.1 r7.2.2.1 [] r7.2.2.2 [])) fun r8=>aa k (jC k 18 [(Tm.mk r2.1 r2.2.1 r2.2.2.1 [] r2.2.2.2 [])]) fun r9=>aa k (jC k 14 [(Tm.mk r1.1 r1.2.1 r1.2.2.1 [] r1.2.2.2 []),(Tm.mk r9.1 r9.2.1 r9.2.2.1 [] r9.2.2.2 [])]) fun r10=>aa k (jC k 15 [(Tm.mk r1.1 r1.2.1 r1.2.2.1 [] r1.2.2.2 []),(Tm.mk r10.1 r10.2.1 r10.2.2.1 [] r10.2.2.2 [])]) fun r11=>ac (r5.2.1) (ac (r5.2.2==0) (aa k (jC k 15 [(Tm.mk r1.1 r1.2.1 r1.2.2.1 [] r1.2.2.2 []),(Tm.mk r9.1 r9.2.1 r9.2.2.1 [] r9.2.2.2 [])]) fun r12=>aa k (jC k 17 [(Tm.mk r12.1 r12.2.1 r12.2.2.1 [] r12.2.2.2 [])]) fun r13=>gH k (ae r5.1) (Tm.mk r13.1 r13.2.1 r13.2.2.1 [] r13.2.2.2 []) fun r14=>ac (r14) (ac (r8.2.1) (ac (r8.2.2==0) (aa k (jC k 15 [(Tm.mk r1.1 r1.2.1 r1.2.2.1 [] r1.2.2.2 []),(Tm.mk r11.1 r11.2.1 r11.2.2.1 [] r11.2.2.2 [])]) fun r15=>aa k (jC k 17 [(Tm.mk r15.1 r15.2.1 r15.2.2.1 [] r15.2.2.2 [])]) fun r16=>gH k (ae r8.1) (Tm.mk r16.1 r16.2.1 r16.2.2.1 [] r16.2.2.2 []) fun r17=>J r17) (J false)) (J false)) (J false)) (J false)) (J false)
abbrev li (S:Type):=Tm->(Int->OS S)->OS S
def yd (hd:li S) (k:Nat) (J:Int->OS S) (t:Tm) (v37:Int) (x4:(Br Tm)) (rec1:Int->Int->OS S) (rec2:Int->Int->OS S) (sum3'' v44:Int):OS S:=ac (decide ((v44:Int)<(x4.kids.length:Int))) (ag (ar x4.kids v44) fun x5=>hd (ae x5) fun r6=>rec2 (aj .i64 (sum3''+(aj .i64 (1+r6)))) (aj .i64 (v44+1))) (rec1 sum3'' (aj .i64 (v37+1)))
def qf (hd:li S) (k:Nat) (J:Int->OS S) (rec1:Int->Int->OS S) (t:Tm) (v37:Int) (x4:(Br Tm)):Nat->Int->Int->OS S
 |0=>fun _ _=> .none
 |m+1=>fun sum3'' v44=>yd hd k J t v37 x4 rec1 (qf hd k J rec1 t v37 x4 m) sum3'' v44
def ux (hd:li S) (k:Nat) (J:Int->OS S) (t:Tm) (J2:Int->(Br Tm)->Int->Int->OS S) (rec1:Int->Int->OS S) (sum3' v37:Int):OS S:=ac (decide ((v37:Int)<(t.sys.length:Int))) (ag (ar t.sys v37) fun x4=>J2 v37 x4 sum3' 0) (J sum3')
def nx (hd:li S) (k:Nat) (J:Int->OS S) (t:Tm):Nat->Int->Int->OS S
 |0=>fun _ _=> .none
 |m+1=>fun sum3' v37=>ux hd k J t (fun v37 x4 sum3'' v44=>qf hd k J (nx hd k J t m) t v37 x4 k sum3'' v44) (nx hd k J t m) sum3' v37
def uw (hd:li S) (k:Nat) (J:Int->OS S) (t:Tm) (J1:Int->Int->OS S) (rec0:Int->Int->OS S) (v15 sum3:Int):OS S:=ac (decide ((v15:Int)<(t.kids.length:Int))) (ag (ar t.kids v15) fun x1=>aa k (nd k t.kind v15) fun r2=>hd (ae x1) fun r3=>rec0 (aj .i64 (v15+1)) (aj .i64 (sum3+(aj .i64 (r2.2+r3))))) (J1 sum3 0)
def sX (hd:li S) (k:Nat) (J:Int->OS S) (t:Tm):Nat->Int->Int->OS S
 |0=>fun _ _=> .none
 |m+1=>fun v15 sum3=>uw hd k J t (fun sum3' v37=>nx hd k J t k sum3' v37) (sX hd k J t m) v15 sum3
def Hq (hd:li S) (k:Nat) (J:Int->OS S) (J0:Int->Int->OS S) (t:Tm):OS S:=J0 0 0
def kL:Nat->Tm->(Int->OS S)->OS S
 |0=>fun _ _=> .none
 |k+1=>fun t J=>Hq (kL k) k J (fun v15 sum3=>sX (kL k) k J t k v15 sum3) t
def yc (k:Nat) (J:Bool->OS S) (b13 b14:Tm) (rec3:Int->OS S) (v134:Int):OS S:=ac (decide ((v134:Int)<(b13.sys.length:Int))) (ag (ar b14.sys v134) fun x14=>ag (ar b13.sys v134) fun x15=>aa k (rO k x14.face x15.face) fun r16=>ac (!r16) (J false) (rec3 (aj .i64 (v134+1)))) (J true)
def oM (k:Nat) (J:Bool->OS S) (b13 b14:Tm):Nat->Int->OS S
 |0=>fun _=> .none
 |m+1=>fun v134=>yc k J b13 b14 (oM k J b13 b14 m) v134
def C3 (k:Nat) (J:Bool->OS S) (J3:Tm->Tm->Int->OS S) (b13 b14:Tm):OS S:=J3 b13 b14 0
def qe (k:Nat) (J:Bool->OS S):Nat->Tm->Tm->OS S
 |0=>fun _ _=> .none
 |_+1=>fun b13 b14=>C3 k J (fun b13 b14 v134=>oM k J b13 b14 k v134) b13 b14
def pG (k:Nat) (J:Bool->OS S) (r6:Tm×Bool×Int) (t:Tm) (r5:Tm×Bool×Int) (vars many:Int) (J2:Tm->Tm->OS S):OS S:=ag (ar t.kids 0) fun x9=>ac (r6.2.1) (aa k (m8 k) fun r10=>aa k (lu k (ae x9) 0 r10) fun r11=>ac (!(r11.2==0)) (J false) (ac (!(r6.1.kind==17)) (J false) (ac (!((r6.1.kids.length:Int)==1)) (J false) (ag (ar r6.1.kids 0) fun x12=>ac (!(x12.kind==15)) (J false) (ac (!((r6.1.sys.length:Int)==(r11.1.sys.length:Int))) (J false) (aa k (rP k (ae r6.1) vars many) fun r13=>ac (!(r13==0)) (J false) (J2 (ae r11.1) (ae r6.1)))))))) (ac (!(r5.1.kind==17)) (J false) (ac (!((r5.1.kids.length:Int)==1)) (J false) (ag (ar r5.1.kids 0) fun x17=>ac (!(x17.kind==15)) (J false) (ac (!((r5.1.sys.length:Int)==(x9.sys.length:Int))) (J false) (aa k (rP k (ae r5.1) vars many) fun r18=>ac (!(r18==0)) (J false) (J2 (ae x9) (ae r5.1)))))))
def sW (k:Nat) (J:Bool->OS S) (r6:Tm×Bool×Int) (t:Tm) (r5:Tm×Bool×Int) (vars many:Int):Nat->OS S
 |0=> .none
 |_+1=>pG k J r6 t r5 vars many (fun b13 b14=>qe k J k b13 b14)
def rl (k:Nat) (J:Bool->OS S) (r6:Tm×Bool×Int) (t:Tm) (r5:Tm×Bool×Int) (vars many:Int) (J1:OS S):OS S:=ac (!r5.2.1) (ac (!r6.2.1) (gH k (ae r5.1) (Tm.mk 0 0 aw [] [] []) fun r7=>ac (r7) (gH k (ae r6.1) (Tm.mk 0 0 aw [] [] []) fun r8=>J r8) (J false)) (J1)) (J1)
def jK (k:Nat) (J:Bool->OS S) (r6:Tm×Bool×Int) (t:Tm) (r5:Tm×Bool×Int) (vars many:Int):Nat->OS S
 |0=> .none
 |_+1=>rl k J r6 t r5 vars many (sW k J r6 t r5 vars many k)
def Hp (k:Nat) (J:Bool->OS S) (J0:(Tm×Bool×Int)->(Tm×Bool×Int)->OS S) (t:Tm) (vars many:Int):OS S:=aa k (zz k) fun r1=>ac (!r1) (J false) (aa k (zy k (ae t)) fun r2=>ac (r2) (J true) (ac (decide ((many:Int)>6)) (J true) (kL k (ae t) fun r3=>ac (decide ((r3:Int)>4)) (J true) (aa k (rP k (ae t) vars many) fun r4=>ac (!(r4==0)) (J true) (aa k (u5 k (ae t)) fun r5=>aa k (u4 k (ae t)) fun r6=>ac (r5.2.1) (ac (!(r5.2.2==0)) (J false) (ac (r6.2.1) (ac (!(r6.2.2==0)) (J false) (ac (r5.2.1) (ac (r6.2.1) (J false) (J0 r6 r5)) (J0 r6 r5))) (ac (r5.2.1) (ac (r6.2.1) (J false) (J0 r6 r5)) (J0 r6 r5)))) (ac (r6.2.1) (ac (!(r6.2.2==0)) (J false) (ac (r5.2.1) (ac (r6.2.1) (J false) (J0 r6 r5)) (J0 r6 r5))) (ac (r5.2.1) (ac (r6.2.1) (J false) (J0 r6 r5)) (J0 r6 r5))))))))
def zx (k:Nat) (t:Tm) (vars many:Int) (J:Bool->OS S):OS S:=Hp k J (fun r6 r5=>jK k J r6 t r5 vars many k) t vars many
abbrev ST (S:Type):=Tm->(Int->OS S)->OS S
end
end Go.Proofs.YtgajalidbabccaaGreatDoor
namespace Go.Proofs.YtgajalidbabccaaGreatDoor
open Go PI
abbrev M24:Nat:=16777215
theorem Mn {n:Nat} (h:n<24):2^n<4294967296:=Nat.lt_of_lt_of_le (Nat.pow_lt_pow_right (by decide) h) (by decide)
theorem Dj (n:Nat):(2:Int)^n=((2^n:Nat):Int):=by simp
theorem Ee (m n:Nat):Int.fdiv (m:Int) ((2:Int)^n)=((m/2^n:Nat):Int):=by
 grind
variable {S:Type} {k:Nat}
theorem BY (hk:Fu k) (i:Int) (J:Bool->OS S):pR k i J=J (decide (0<=i/\i<24)):=by
 grind [pR,eC]
theorem afX (hk:Fu k) {m:Nat} (hm:m<4294967296) (J:Bool->OS S):rM k (m:Int) J=J (decide (m<16777216)):=by
 simp only [rM]
 rw [show (16777215:Int)=((16777215:Nat):Int) from rfl,C2 hm (by decide)]
 congr 1
 rw [Bool.eq_iff_iff]
 simp only [beq_iff_eq,decide_eq_true_eq]
 have key:nF m 16777215=0↔m<16777216:=by
  constructor
  ·intro h
   apply Nat.lt_pow_two_of_testBit (n:=24)
   intro i hi
   have h2:=tp m 16777215 i
   rw [h,Nat.zero_testBit] at h2
   have:(16777215:Nat).testBit i=false:=Nat.testBit_lt_two_pow (Nat.lt_of_lt_of_le (by decide:16777215<2^24) (Nat.pow_le_pow_right (by decide) hi))
   grind
  ·intro h
   apply Nat.eq_of_testBit_eq
   intro i
   rw [tp,Nat.zero_testBit]
   by_cases hi:i<24
   ·have:(16777215:Nat).testBit i=true:=by
     rw [show (16777215:Nat)=2^24-1 from rfl,Nat.testBit_two_pow_sub_one];grind
    grind
   ·have h2:(2:Nat)^24<=2^i:=Nat.pow_le_pow_right (by decide) (by omega)
    grind [Nat.testBit_lt_two_pow]
 omega
theorem afV (hk:Fu k) {m:Nat} (hm:m<4294967296) (i:Int) (J:Bool->OS S):kM k (m:Int) i J=J (decide (0<=i/\i<24)&&m.testBit i.toNat):=by
 simp only [kM,BY hk,ao hk]
 by_cases h:0<=i/\i<24
 ·obtain ⟨n,rfl⟩: ∃n:Nat,i=n:=⟨i.toNat,by omega⟩
  have hn:n<24:=by omega
  rw [decide_eq_true h,au,Bool.true_and,l_ n (by omega),mY _ (by omega)]
  congr 1
  rw [gQ,Nat.min_eq_left (by omega),Ee,show (1:Int)=((1:Nat):Int) from rfl,nV (Nat.lt_of_le_of_lt (Nat.div_le_self _ _) hm) (by decide)]
  grind
 grind [ak]
theorem afY (hk:Fu k) {m:Nat} (hm:m<4294967296) (i:Int) (J:Int->OS S):mh k (m:Int) i J=J (if 0<=i/\i<24 then (((m&&&M24)|||2^i.toNat:Nat):Int) else ((m&&&M24:Nat):Int)):=by
 simp only [mh,BY hk,ao hk]
 have hand:cF .and .u32 (m:Int) 16777215=((m&&&M24:Nat):Int):=nV hm (by decide:(16777215:Nat)<4294967296)
 have hlt:m&&&M24<4294967296:=xq (n:=32) hm
 rw [hand]
 by_cases h:0<=i/\i<24
 ·obtain ⟨n,rfl⟩: ∃n:Nat,i=n:=⟨i.toNat,by omega⟩
  grind [l_,ak,mY,gQ,po,Mn,xu]
 ·rw [decide_eq_false h,if_neg h];rfl
theorem afZ (hk:Fu k) {m:Nat} (hm:m<4294967296) (i:Int) (J:Int->OS S):nc k (m:Int) i J=J (if 0<=i/\i<24 then ((nF (m&&&M24) (2^i.toNat):Nat):Int) else ((m&&&M24:Nat):Int)):=by
 simp only [nc,BY hk,ao hk]
 have hand:cF .and .u32 (m:Int) 16777215=((m&&&M24:Nat):Int):=nV hm (by decide:(16777215:Nat)<4294967296)
 have hlt:m&&&M24<4294967296:=xq (n:=32) hm
 rw [hand]
 by_cases h:0<=i/\i<24
 ·grind [l_,ak,mY,gQ,po,Mn,C2]
 ·rw [decide_eq_false h,if_neg h];rfl
theorem PA (hk:Fu k) (n:Nat) (hn:n<18446744073709551616) (J:Int->OS S):rN k (n:Int) J=J ((2^min n 24-1:Nat):Int):=by
 simp only [rN]
 have e:(if (24:Int)<(n:Int) then (24:Int) else (n:Int))=((min n 24:Nat):Int):=by
  omega
 rw [e,l_ _ (by omega),mY _ (by omega),gQ]
 congr 1
 generalize hq:min n 24=q
 have hq24:q<=24:=by omega
 rw [Nat.min_eq_left (by omega),Int.one_mul,Dj]
 have h1:2^q<=2^24:=Nat.pow_le_pow_right (by decide) hq24
 grind [l_,po]
def kV (m n:Nat):Nat:=(m&&&M24)&&&(2^min n 24-1)
def fI (m n:Nat):Nat:=nF (m&&&M24) (2^min n 24-1)
def kn (m n b:Nat):Nat×Nat:=
 if fI m n=0 then (kV m n,0) else if 24<=b then (0,10) else if fI m n*2^b>16777215 then (0,10) else (kV m n|||(fI m n*2^b),0)
theorem afW (hk:Fu k) {m:Nat} (hm:m<4294967296) (n b:Nat) (hn:n<9223372036854775808) (hb:b<9223372036854775808) (J:Int×Int->OS S):
  n5 k (m:Int) (n:Int) (b:Int) J=J (((kn m n b).1:Int),((kn m n b).2:Int)):=by
 have hand:cF .and .u32 (m:Int) 16777215=((m&&&M24:Nat):Int):=nV hm (by decide:(16777215:Nat)<4294967296)
 have hlt:m&&&M24<16777216:=Nat.lt_of_le_of_lt Nat.and_le_right (by decide)
 have hbl:2^min n 24-1<4294967296:=by
  have:2^min n 24<=2^24:=Nat.pow_le_pow_right (by decide) (by omega)
  omega
 have hhi:fI m n<16777216:=Fo (n:=24) hlt
 have hlow:cF .and .u32 ((m&&&M24:Nat):Int) ((2^min n 24-1:Nat):Int)=((kV m n:Nat):Int):=nV (by omega) hbl
 have hhigh:cF .andNot .u32 ((m&&&M24:Nat):Int) ((2^min n 24-1:Nat):Int)=((fI m n:Nat):Int):=C2 (by omega) hbl
 simp only [n5]
 rw [eC,eC,if_neg (by omega),if_neg (by omega)]
 simp only [PA hk n (by omega),ao hk,hand,hlow,hhigh]
 rw [l_ _ (by omega)]
 unfold kn
 by_cases h0:fI m n=0
 ·grind [au]
 ·rw [if_neg h0]
  have hb0:(((fI m n:Nat):Int)==0)=false:=by
   grind
  simp only [hb0,ak,eC]
  by_cases h24:24<=b
  ·grind
  ·rw [if_neg (by omega),if_neg h24,l_ b (by omega),mY _ (by omega),gQ,Nat.min_eq_left (by omega),Dj]
   have hp:2^b<=2^23:=Nat.pow_le_pow_right (by decide) (by omega)
   have h23:(2:Nat)^23=8388608:=by decide
   have hmul:fI m n*2^b<18446744073709551616:=by
    have:=Nat.mul_le_mul (Nat.le_of_lt hhi) hp
    omega
   have ec:((fI m n:Nat):Int)*((2^b:Nat):Int)=((fI m n*2^b:Nat):Int):=by simp
   rw [ec,l_ _ hmul]
   by_cases hg:fI m n*2^b>16777215
   ·grind
   ·rw [if_neg (by omega),if_neg hg]
    rw [po _ (by omega),mY _ (by omega),xu (by grind [kV,Nat.and_le_left]) (by omega)]
    rfl
set_option maxRecDepth 20000
variable {S:Type} {k:Nat}
def o_ (l:List Nat):Nat:=(l.map (2^ ·)).sum
theorem Ur {x a:Nat} (h:x.testBit a=false):x+2^a=x|||2^a:=by
 have h1:x=2^(a+1)*(x/2^(a+1))+x%2^(a+1):=(Nat.div_add_mod _ _).symm
 have hlt:x%2^(a+1)<2^a:=by
  have hb:(x%2^(a+1)).testBit a=false:=by grind
  grind [Nat.lt_pow_two_of_testBit,Nat.testBit_lt_two_pow]
 generalize x/2^(a+1)=q at h1
 generalize x%2^(a+1)=r at h1 hlt
 have hp:(2:Nat)^(a+1)=2^a*2:=Nat.pow_succ 2 a
 have e1:2^a+r=2^a|||r:=by
  have:=Nat.two_pow_add_eq_or_of_lt hlt 1
  grind
 have e2:x=2^(a+1)*q|||r:=by grind [Nat.two_pow_add_eq_or_of_lt]
 grind [Nat.two_pow_add_eq_or_of_lt]
theorem GM: ∀ (l:List Nat),l.Nodup-> ∀j,(o_ l).testBit j=decide (j∈l):=by
 intro l
 induction l with
 |nil=>grind [o_]
 |cons a l ih=>
  intro hn j
  have hn':=List.nodup_cons.1 hn
  have ha:(o_ l).testBit a=false:=by grind
  have e:o_ (a::l)=o_ l|||2^a:=by
   grind [Ur,o_]
  grind
def jB (m:Nat):List Nat:=(fz 24).filter m.testBit
theorem Db (m:Nat):(jB m).Nodup:=List.nodup_range.filter _
theorem mem_bitsN {m j:Nat}:j∈jB m↔j<24/\m.testBit j=true:=by simp [jB]
theorem U9 (m:Nat):(jB m).length<=24:=by
 grind [jB]
theorem nW (j:Nat):M24.testBit j=decide (j<24):=by
 rw [show M24=2^24-1 from rfl,Nat.testBit_two_pow_sub_one]
def ints (l:List Nat):List Int:=l.map Int.ofNat
theorem YY (l:List Nat):(ints l).length=l.length:=by simp [ints]
theorem Ys {α:Type} (p r:List α) (x:α):ar (p++x::r) (p.length:Int)=some x:=by simp [ar]
theorem pI {m:Nat} (h:m<16777216) {j:Nat} (hj:m.testBit j=true):j<24:=by
 apply Classical.byContradiction
 intro hn
 have:m<2^j:=Nat.lt_of_lt_of_le h (Nat.pow_le_pow_right (n:=2) (i:=24) (j:=j) (by decide) (by omega))
 grind [Nat.testBit_lt_two_pow]
theorem KG (m:Nat):m<16777216↔ ∀j,m.testBit j=true->j<24:=by
 constructor
 ·intro h j hj;exact pI h hj
 ·intro h
  apply Nat.lt_pow_two_of_testBit (n:=24)
  grind
def il (n b x:Nat):Nat:=if x<n then x else x+b
theorem C_ (m n j:Nat):(kV m n).testBit j=(m.testBit j&&decide (j<n/\j<24)):=by
 grind [kV,nW]
theorem Iq (m n j:Nat):(fI m n).testBit j=(m.testBit j&&decide (n<=j/\j<24)):=by
 grind [fI,tp,nW]
theorem Kz (m n b:Nat):kn m n b=if (∃x∈jB m,n<=x/\24<=x+b) then (0,10) else (o_ ((jB m).map (il n b)),0):=by
 have hnd:((jB m).map (il n b)).Nodup:=by
  grind [il,Db]
 have hset: ∀j,(o_ ((jB m).map (il n b))).testBit j=((kV m n).testBit j||(decide (b<=j)&&(fI m n).testBit (j-b))):=by
  intro j
  rw [GM _ hnd,C_,Iq,Bool.eq_iff_iff]
  simp only [decide_eq_true_eq,dA,mem_bitsN,Bool.or_eq_true,af]
  grind [il]
 have hhigh: ∀j,(fI m n).testBit j=true↔(j∈jB m/\n<=j):=by
  grind [Iq,mem_bitsN]
 unfold kn
 by_cases h0:fI m n=0
 ·rw [if_pos h0,if_neg]
  ·congr 1
   apply Nat.eq_of_testBit_eq
   grind
  grind
 ·rw [if_neg h0]
  have hex: ∃j,(fI m n).testBit j=true:=by
   apply Classical.byContradiction
   intro hne
   apply h0
   apply Nat.eq_of_testBit_eq
   grind
  have hmul: ∀j,(fI m n*2^b).testBit j=(decide (b<=j)&&(fI m n).testBit (j-b)):=by
   grind
  by_cases h24:24<=b
  ·rw [if_pos h24]
   obtain ⟨j,hj⟩:=hex
   have:=(hhigh j).1 hj
   rw [if_pos ⟨j,this.1,this.2,by omega⟩]
  ·rw [if_neg h24]
   have hlt:=KG (fI m n*2^b)
   by_cases hg:fI m n*2^b>16777215
   ·rw [if_pos hg,if_pos]
    grind
   ·rw [if_neg hg,if_neg]
    ·congr 1
     apply Nat.eq_of_testBit_eq
     grind
    ·rintro ⟨x,h1,h2,h3⟩
     have hx:(fI m n*2^b).testBit (x+b)=true:=by
      simp_all
     grind
def n_ (m:Nat) (i:Int):Nat:=if 0<=i/\i<24 then kV m i.toNat|||((m&&&M24)/2^(i.toNat+1)*2^i.toNat) else m&&&M24
theorem afU (hk:Fu k) {m:Nat} (hm:m<4294967296) (i:Int) (J:Int->OS S):rL k (m:Int) i J=J ((n_ m i:Nat):Int):=by
 simp only [rL,BY hk,ao hk]
 have hand:cF .and .u32 (m:Int) 16777215=((m&&&M24:Nat):Int):=nV hm (by decide:(16777215:Nat)<4294967296)
 have hlt:m&&&M24<16777216:=Nat.lt_of_le_of_lt Nat.and_le_right (by decide)
 rw [hand]
 unfold n_
 by_cases h:0<=i/\i<24
 ·obtain ⟨n,rfl⟩: ∃n:Nat,i=n:=⟨i.toNat,by omega⟩
  have hn:n<24:=by omega
  rw [decide_eq_true h,if_pos h,dL,ak,PA hk n (by omega)]
  have e1:(n:Int)+1=((n+1:Nat):Int):=by simp
  rw [Qu (by omega) (by omega),e1,l_ _ (by omega),l_ _ (by omega),mY _ (by omega),mY _ (by omega)]
  rw [gQ,gQ,Nat.min_eq_left (show n+1<=32 by omega),Nat.min_eq_left (show n<=32 by omega),Ee,Dj]
  have hb:2^min n 24-1<4294967296:=by
   have:2^min n 24<=2^24:=Nat.pow_le_pow_right (by decide) (by omega)
   omega
  have hq:(m&&&M24)/2^(n+1)*2^n<=m&&&M24:=by
   have h1:(m&&&M24)/2^(n+1)*2^(n+1)<=m&&&M24:=Nat.div_mul_le_self _ _
   have h2:2^n<=2^(n+1):=Nat.pow_le_pow_right (by decide) (by omega)
   exact fC (Nat.mul_le_mul_left _ h2) h1
  have ec:((((m&&&M24)/2^(n+1):Nat):Int))*((2^n:Nat):Int)=(((m&&&M24)/2^(n+1)*2^n:Nat):Int):=by simp
  rw [ec,po _ (by omega),nV (by omega) hb]
  have hlow:kV m n<4294967296:=by grind [kV,Nat.and_le_left]
  show J (cF .or .u32 ((kV m n:Nat):Int) _)=_
  rw [xu hlow (by omega)]
 ·rw [decide_eq_false h,if_neg h];rfl
def aI (n:Int):Prop:= -9223372036854775808<=n/\n<9223372036854775808
def tO (s:Int):Bool:=decide (s<16777216)
def ie (s i:Int):Bool:=decide (0<=i/\i<24)&&s.toNat.testBit i.toNat
def l9 (s i:Int):Int:=if 0<=i/\i<24 then (((s.toNat&&&M24)|||2^i.toNat:Nat):Int) else ((s.toNat&&&M24:Nat):Int)
def i_ (s i:Int):Int:=if 0<=i/\i<24 then ((nF (s.toNat&&&M24) (2^i.toNat):Nat):Int) else ((s.toNat&&&M24:Nat):Int)
def lL (s:Int):List Int:=ints (jB s.toNat)
def eP (s i b:Int):Int×Int:=if i<0\/b<0 then (0,2) else (((kn s.toNat i.toNat b.toNat).1:Int),((kn s.toNat i.toNat b.toNat).2:Int))
def oa (s i:Int):Int:=((n_ s.toNat i:Nat):Int)
theorem ad2 (m:Nat):tO (m:Int)=decide (m<16777216):=by
 grind [tO]
theorem O1 (hk:Fu k) {s:Int} (h:U32 s) (J:Bool->OS S):rM k s J=J (tO s):=by
 obtain ⟨m,hm,rfl⟩:=h.nat
 rw [afX hk hm,ad2]
theorem qO (hk:Fu k) {s:Int} (h:U32 s) (i:Int) (J:Bool->OS S):kM k s i J=J (ie s i):=by
 obtain ⟨m,hm,rfl⟩:=h.nat
 rw [afV hk hm];rfl
theorem wP (hk:Fu k) {s:Int} (h:U32 s) (i:Int) (J:Int->OS S):mh k s i J=J (l9 s i):=by
 obtain ⟨m,hm,rfl⟩:=h.nat
 rw [afY hk hm];rfl
theorem wQ (hk:Fu k) {s:Int} (h:U32 s) (i:Int) (J:Int->OS S):nc k s i J=J (i_ s i):=by
 obtain ⟨m,hm,rfl⟩:=h.nat
 rw [afZ hk hm];rfl
theorem LM {s:Int} (h:U32 s):tj s=lL s:=by
 obtain ⟨m,hm,rfl⟩:=h.nat
 have: ∀i:Nat,(BitVec.ofInt 32 (m:Int)).getLsbD i=m.testBit i:=by
  grind
 simp_all [tj,lL,ints,jB]
theorem OZ (hk:Fu k) {s i b:Int} (h:U32 s) (hi:aI i) (hb:aI b) (J:Int×Int->OS S):n5 k s i b J=J (eP s i b):=by
 obtain ⟨m,hm,rfl⟩:=h.nat
 by_cases h1:i<0
 ·grind [n5,eC,eP]
 by_cases h2:b<0
 ·grind [n5,eC,eP]
 obtain ⟨n,rfl⟩: ∃n:Nat,i=n:=⟨i.toNat,by omega⟩
 obtain ⟨c,rfl⟩: ∃n:Nat,b=n:=⟨b.toNat,by omega⟩
 have:=hi.2;have:=hb.2
 grind [afW,eP]
theorem OY (hk:Fu k) {s:Int} (h:U32 s) (i:Int) (J:Int->OS S):rL k s i J=J (oa s i):=by
 obtain ⟨m,hm,rfl⟩:=h.nat
 rw [afU hk hm];rfl
theorem Dr (hk:Fu k) (J:Int->OS S):n4 k 0 J=J 0:=by
 simp only [n4,ao hk];rfl
theorem Ds (hk:Fu k) (J:Int->OS S): ∀n:Nat,n<24->n4 k ((2^n:Nat):Int) J=J 1:=by
 simp only [n4,ao hk]
 intro n hn
 match n,hn with
 |0,_|1,_|2,_|3,_|4,_|5,_|6,_|7,_|8,_|9,_|10,_|11,_|12,_|13,_|14,_|15,_|16,_|17,_|18,_|19,_|20,_|21,_|22,_|23,_=>rfl
 |n+24,h=>omega
theorem H0 (i:Int):l9 0 i=if 0<=i/\i<24 then ((2^i.toNat:Nat):Int) else 0:=by
 grind [l9]
theorem aeA (hk:Fu k) (i:Int) (J:Bool->OS S):yW k i J=J (decide (0<=i/\i<24)):=by
 simp only [yW,ao hk,wP hk (s:=0) ⟨by omega,by omega⟩,H0]
 grind [Ds,Dr]
theorem O8 (hk:Fu k) (i:Int) (J:Bool->OS S):uY k i J=J (decide (0<=i/\i<24)):=by
 simp only [uY,ao hk,wP hk (s:=0) ⟨by omega,by omega⟩,H0]
 grind [Ds,Dr]
theorem U32.of {n:Nat} (h:n<4294967296):U32 (n:Int):=⟨by omega,by omega⟩
theorem Qc {s i:Int}:0<=l9 s i/\l9 s i<16777216:=by
 have h1:s.toNat&&&M24<16777216:=Nat.lt_of_le_of_lt Nat.and_le_right (by decide)
 unfold l9
 split
 ·next h=>
  have hp:2^i.toNat<2^24:=Nat.pow_lt_pow_right (by decide) (by omega)
  have:=Nat.or_lt_two_pow (n:=24) h1 hp
  omega
 ·omega
theorem Qe {s i:Int}:0<=i_ s i/\i_ s i<16777216:=by
 have h1:s.toNat&&&M24<16777216:=Nat.lt_of_le_of_lt Nat.and_le_right (by decide)
 unfold i_
 split
 ·have:=Fo (n:=24) (b:=2^i.toNat) h1
  omega
 ·omega
theorem VJ (m:Nat) (i:Int):n_ m i<16777216:=by
 have h1:m&&&M24<16777216:=Nat.lt_of_le_of_lt Nat.and_le_right (by decide)
 unfold n_
 split
 ·rw [KG]
  grind [C_,nW]
 omega
deriving instance DecidableEq for Cl
theorem Cl.ext' {a b:Cl} (h1:a.pos=b.pos) (h2:a.neg=b.neg):a=b:=by cases a<;>simp_all
theorem yy (a b:Cl):((a.pos==b.pos)&&((a.neg==b.neg)&&true))=decide (a=b):=by
 grind [Cl.ext']
def cH (c:Cl):Prop:=U32 c.pos/\U32 c.neg
def av (f:LC):Prop:= ∀c∈f,cH c
def lW (c:Cl):Bool:=tO c.pos&&tO c.neg
def RC (c:Cl):Prop:=(0<=c.pos/\c.pos<16777216)/\(0<=c.neg/\c.neg<16777216)
theorem RC.ok {c:Cl} (h:RC c):cH c:=⟨⟨h.1.1,by have:=h.1.2;omega⟩,⟨h.2.1,by have:=h.2.2;omega⟩⟩
theorem Gk {c:Cl} (h:cH c):lW c=true↔RC c:=by
 unfold lW tO RC
 simp only [af,decide_eq_true_eq]
 have h1:=h.1.1;have h2:=h.2.1
 omega
def ku (a b:Int):Int:=((a.toNat|||b.toNat:Nat):Int)
theorem wq {a b:Int} (ha:U32 a) (hb:U32 b):cF .or .u32 a b=ku a b:=by
 obtain ⟨m,hm,rfl⟩:=ha.nat;obtain ⟨n,hn,rfl⟩:=hb.nat
 rw [xu hm hn];rfl
def iR (a b:Cl):Cl:=⟨ku a.pos b.pos,ku a.neg b.neg⟩
def io (a b:Cl):Bool:=decide (iR a b=a)
def eW (c:Cl):Bool:= !decide (c.pos.toNat&&&c.neg.toNat=0)
theorem AR {a b:Int} (ha:U32 a) (hb:U32 b):U32 (ku a b):=by
 obtain ⟨m,hm,rfl⟩:=ha.nat;obtain ⟨n,hn,rfl⟩:=hb.nat
 exact U32.of (Nat.or_lt_two_pow (n:=32) hm hn)
theorem AK {a b:Cl} (ha:cH a) (hb:cH b):cH (iR a b):=⟨AR ha.1 hb.1,AR ha.2 hb.2⟩
theorem O5 (hk:Fu k) {c:Cl} (h:cH c) (J:Bool->OS S):uR k c J=J (lW c):=by
 simp only [uR,ao hk,O1 hk h.1,O1 hk h.2,lW,jR]
 grind
theorem GC (hk:Fu k) {a b:Cl} (ha:cH a) (hb:cH b) (J:Cl->OS S):rA k a b J=J (iR a b):=by
 simp only [rA,wq ha.1 hb.1,wq ha.2 hb.2];rfl
theorem aex (hk:Fu k) {a b:Cl} (ha:cH a) (hb:cH b) (J:Bool->OS S):yS k a b J=J (io a b):=by
 simp only [yS,ao hk,GC hk ha hb,yy];rfl
theorem O4 (hk:Fu k) {c:Cl} (h:cH c) (J:Bool->OS S):uQ k c J=J (eW c):=by
 obtain ⟨p,n⟩:=c
 obtain ⟨m,hm,rfl⟩:=h.1.nat;obtain ⟨n,hn,rfl⟩:=h.2.nat
 simp only [uQ,nV hm hn,eW,gQ]
 congr 2
 grind
theorem Qb (s:Int) (x:Nat) (hx:x<24) (j:Nat):(l9 s (x:Int)).toNat.testBit j=((s.toNat.testBit j&&decide (j<24))||decide (j=x)):=by
 unfold l9
 rw [if_pos (by omega),gQ,gQ,Nat.testBit_or,Nat.testBit_and,nW,Nat.testBit_two_pow,Bool.eq_iff_iff]
 grind
def gK (c:Cl) (i b:Int):Cl×Int:=
 if lW c then
  if (eP c.pos i b).2=0 then if (eP c.neg i b).2=0 then (⟨(eP c.pos i b).1,(eP c.neg i b).1⟩,0) else (⟨0,0⟩,(eP c.neg i b).2)
  else (⟨0,0⟩,(eP c.pos i b).2)
 else (⟨0,0⟩,2)
theorem aey (hk:Fu k) {c:Cl} {i b:Int} (h:cH c) (hi:aI i) (hb:aI b) (J:Cl×Int->OS S):yV k c i b J=J (gK c i b):=by
 simp only [yV,ao hk,O5 hk h,OZ hk h.1 hi hb,OZ hk h.2 hi hb,jR,gK,jd,beq_eq_false_iff_ne]
 grind
def kW (a b:Cl):Prop:=a.pos<b.pos\/(a.pos=b.pos/\a.neg<b.neg)
def EW (a b:Cl):Bool:=decide (a.pos<b.pos)||(a.pos==b.pos&&decide (a.neg<b.neg))
theorem aa6 {a b:Cl}:EW a b=true↔kW a b:=by unfold EW kW;simp
theorem KJ {a b c:Cl} (h:kW a b) (h':kW b c):kW a c:=by grind [kW]
theorem KH {a:Cl} (h:kW a a):False:=by grind [kW]
theorem abD (a b:Cl):kW a b\/a=b\/kW b a:=by
 grind [Cl.ext',kW]
abbrev nU (l:LC):Prop:=l.Pairwise kW
theorem GQ: ∀ {a b:LC},nU a->nU b->(∀c,c∈a↔c∈b)->a=b:=by
 intro a
 induction a with
 |nil=>
  intro b _ _ h
  cases b with
  |nil=>rfl
  |cons y b=>exact absurd ((h y).2 (by simp)) (by simp)
 |cons x a ih=>
  intro b ha hb h
  cases b with
  |nil=>grind
  |cons y b=>
   have ha':=List.pairwise_cons.1 ha;have hb':=List.pairwise_cons.1 hb
   have hxy:x=y:=by
    rcases eh.1 ((h x).1 (by simp)) with h1|h1
    ·exact h1
    ·rcases eh.1 ((h y).2 (by simp)) with h2|h2<;>grind [KJ,KH]
   grind [KH]
def nn (x:Cl):LC->LC
 |[]=>[x]
 |y::r=>if EW y x then y::nn x r else if y=x then y::r else x::y::r
theorem LP {x c:Cl}: ∀ {l:LC},c∈nn x l↔c=x\/c∈l:=by
 intro l
 induction l<;>grind [nn]
theorem YW {x:Cl}: ∀ {l:LC},nU l->nU (nn x l):=by
 intro l
 induction l<;>grind [nn,List.pairwise_cons,LP,aa6,abD,KJ]
theorem YV {x:Cl}: ∀ {l:LC},(nn x l).length<=l.length+1:=by
 intro l
 induction l<;>grind [nn]
def eM (l:LC) (c:Cl):Bool:=l.all fun d=>decide (d=c)|| !io c d
def p7 (o l:LC):LC:=l.foldl (fun o c=>nn c o) o
def iC (l:LC):LC:=p7 [] (l.filter (eM l))
theorem abJ {c:Cl}: ∀ {l o:LC},c∈p7 o l↔c∈l\/c∈o:=by
 intro l
 induction l with
 |nil=>grind [p7]
 |cons x l ih=>
  intro o
  show c∈p7 (nn x o) l↔_
  grind [LP]
theorem YU: ∀ {l o:LC},nU o->nU (p7 o l):=by
 intro l
 induction l with
 |nil=>intro o h;exact h
 |cons x l ih=>intro o h;exact ih (YW h)
theorem YT: ∀ {l o:LC},(p7 o l).length<=o.length+l.length:=by
 intro l
 induction l<;>grind [p7,YV]
theorem AN (l:LC):nU (iC l):=YU List.Pairwise.nil
theorem mem_mins {l:LC} {c:Cl}:c∈iC l↔c∈l/\eM l c=true:=by
 grind [iC,abJ]
theorem abM (l:LC):(iC l).length<=l.length:=by
 grind [YT,iC]
theorem abR {l l':LC} (h: ∀c,c∈l↔c∈l') (c:Cl):eM l c=eM l' c:=by
 grind [eM]
def dE (l:LC):LC×Int:=if l.all lW then if (iC l).length>64 then ([],3) else (iC l,0) else ([],2)
theorem Vr {S:Type} {p:Prop} [Decidable p] (h:p) (f:Unit->OS S):ag (eV p) f=f ():=mY p h f
theorem aep (hk:Fu k) {d c:Cl} (hd:cH d) (hc:cH c) (J:Bool->OS S):yU k d c J=J (!(decide (d=c)|| !io c d)):=by
 grind [yU,yy,jR,ao,aex,io]
theorem aaF (hk:Fu k) (J:Int->OS S) {c:Cl} (hc:cH c) {l:LC} (hl:av l) (hlen:l.length<2147483648):
  ∀ (r p:LC) (m:Nat),l=p++r->r.length<m-> ∃v:Int,decide (v>=0)= !eM r c/\s_ k J c l m (p.length:Int)=J v:=by
 intro r
 induction r with
 |nil=>
  intro p m h hm
  obtain ⟨m,rfl,hm'⟩:=ax hm
  exact ⟨-1,rfl,by grind [s_,ym,ak]⟩
 |cons x r ih=>
  intro p m h hm
  obtain ⟨m,rfl,hm'⟩:=ax hm
  obtain ⟨e1,e2,e3,e4⟩:=bL h (by omega)
  have hx:cH x:=hl x (by grind)
  obtain ⟨v,hv,hr⟩:=ih (p++[x]) m e4 hm'
  have e0:eM (x::r) c=((decide (x=c)|| !io c x)&&eM r c):=by rfl
  grind [s_,ym,au,ao,aep,decide,io,ak]
theorem ae4 (hk:Fu k) {c:Cl} (hc:cH c) {l:LC} (hl:av l) (hlen:l.length<2147483648) (J:Bool->OS S):yT k c l J=J (!eM l c):=by
 obtain ⟨v,hv,hr⟩:=aaF hk (fun r1:Int=>J (decide (r1>=0))) hc hl hlen l [] k rfl (by omega)
 grind [yT,DQ,DS,Hy,ao]
theorem aaI (hk:Fu k) (J:LC×Int->OS S) {l:LC} (hl:av l) (hlen:l.length<2147483648):
  ∀ (r p:LC) (m:Nat) (q:LC),l=p++r->r.length<m->q.length<=p.length->
  p9 k J l m (p.length:Int) q=J (if (q++r.filter (eM l)).length>64 then ([],3) else (sortCl (q++r.filter (eM l)),0)):=by
 intro r
 induction r with
 |nil=>
  grind [ax,p9,xw,eC]
 |cons x r ih=>
  intro p m q h hm hq
  obtain ⟨m,rfl,hm'⟩:=ax hm
  obtain ⟨e1,e2,e3,e4⟩:=bL h (by omega)
  have hx:cH x:=hl x (by grind)
  have hpl:p.length<l.length:=by grind
  simp only [p9,xw,e1,au,e2,bD,ao hk,ae4 hk hx hl hlen,Bool.not_not]
  rw [e3]
  cases hn:eM l x with
  |true=>
   rw [au,dm (by grind),List.filter_cons_of_pos hn,ih (p++[x]) m (q++[x]) e4 hm' (by grind)]
   simp
  |false=>
   rw [ak,List.filter_cons_of_neg (by grind)]
   grind
theorem Ab (a b:Cl):jl VV ET.C a b=decide (a=b):=by
 have e:jl VV ET.C a b=((a.pos==b.pos)&&((a.neg==b.neg)&&true)):=by
  rfl
 rw [e,yy]
theorem abL (l:List (Cl×Bool)) (x y:Cl):g4 VV ET.C (jN VV ET.C l x true) y=if x=y then some true else g4 VV ET.C l y:=by
 induction l with
 |nil=>
  show (bif jl VV ET.C x y then some true else .none)=_
  simp_all [Ab,g4]
 |cons a r ih=>
  obtain ⟨z,b⟩:=a
  show g4 VV ET.C (bif jl VV ET.C z x then (z,true)::r else (z,b)::jN VV ET.C r x true) y=_
  rw [Ab]
  by_cases h:z=x
  ·subst h
   rw [decide_eq_true rfl,cond_true]
   show (bif jl VV ET.C z y then some true else g4 VV ET.C r y)=if z=y then some true else (bif jl VV ET.C z y then some b else g4 VV ET.C r y)
   grind [Ab]
  ·rw [decide_eq_false h,cond_false]
   show (bif jl VV ET.C z y then some b else g4 VV ET.C (jN VV ET.C r x true) y)=if x=y then some true else (bif jl VV ET.C z y then some b else g4 VV ET.C r y)
   grind [Ab]
theorem afO {l o:LC} (hn:o.Nodup) (h: ∀c,c∈o↔c∈l):sortCl (o.filter (eM o))=iC l/\(o.filter (eM o)).length=(iC l).length:=by
 have hp:(sortCl (o.filter (eM o))).Perm (o.filter (eM o)):=List.mergeSort_perm _ _
 have hs:(sortCl (o.filter (eM o))).Pairwise (fun a b=>nX a b=true):=
  List.pairwise_mergeSort (le:=nX) (fun a b c h1 h2=>by
   grind [nX]) (fun a b=>by
   grind [nX]) _
 have hnd:(sortCl (o.filter (eM o))).Nodup:=hp.nodup_iff.2 (hn.filter _)
 have hsorted:nU (sortCl (o.filter (eM o))):=by
  refine (hs.and hnd).imp fun {a b} h=> ?_
  have h1:=h.1
  unfold nX at h1
  simp only [Bool.or_eq_true,af,decide_eq_true_eq,beq_iff_eq] at h1
  rcases h1 with h1|h1
  ·exact .inl h1
  ·refine .inr ⟨h1.1, ?_⟩
   grind [Cl.ext']
 have he:sortCl (o.filter (eM o))=iC l:=GQ hsorted (AN l) fun c=>by
  grind [mem_mins,abR]
 exact ⟨he,by rw [<-he,hp.length_eq]⟩
theorem aaW (hk:Fu k) (J:LC×Int->OS S) {l:LC} (hl:av l) (hlen:l.length<2147483648):
  ∀ (r p:LC) (m:Nat) (q:List (Cl×Bool)) (o:LC),l=p++r->r.length<m->o.length<=p.length->o.Nodup->(∀c:Cl,(g4 VV ET.C q c).getD false=decide (c∈o))->(∀c,c∈o↔c∈p)->
  sr k J l m q o (p.length:Int)=J (if r.all lW then if (iC l).length>64 then ([],3) else (iC l,0) else ([],2)):=by
 intro r
 induction r with
 |nil=>
  intro p m q o h hm ho hnd hq hmem
  obtain ⟨m,rfl,hm'⟩:=ax hm
  have hp:l=p:=by grind
  subst hp
  have hol:av o:=fun c hc=>hl c ((hmem c).1 hc)
  have hk':4294967296<=k:=hk
  simp only [sr,uo,eL h,ak,List.all_nil,if_true]
  have:=aaI hk J hol (by omega) o [] k [] rfl (by omega) (by simp)
  grind [afO]
 |cons x r ih=>
  intro p m q o h hm ho hnd hq hmem
  obtain ⟨m,rfl,hm'⟩:=ax hm
  obtain ⟨e1,e2,e3,e4⟩:=bL h (by omega)
  have hx:cH x:=hl x (by grind)
  have hpl:p.length<l.length:=by grind
  simp only [sr,uo,e1,au,e2,bD,ao hk,O5 hk hx]
  rw [hq,e3]
  by_cases hr:lW x=true
  ·have:(x::r).all lW=r.all lW:=by grind
   rw [hr,dL,ak,this]
   by_cases hxo:x∈o
   ·grind [ak]
   ·rw [decide_eq_false hxo,ef,au,dm (by grind)]
    refine ih (p++[x]) m _ (o++[x]) e4 hm' (by grind) (List.nodup_append.2 ⟨hnd,by simp,fun a ha b hb=>by grind⟩) (fun c=> ?_) fun c=> ?_
    all_goals grind [abL]
  grind [au]
theorem mH (hk:Fu k) {l:LC} (hl:av l) (hlen:l.length<2147483648) (J:LC×Int->OS S):j9 k l J=J (dE l):=by
 simp only [j9,GW]
 exact aaW hk J hl hlen l [] k [] [] rfl (by omega) (by simp) List.nodup_nil (fun c=>by rfl) (fun c=>Iff.rfl)
theorem Z3 (hk:Fu k) (J:Bool->OS S) {a b:LC} (hlen:a.length<4294967296):
  ∀ (r s p q:LC) (m:Nat),a=p++r->b=q++s->p.length=q.length->r.length=s.length->r.length<m->s9 k J a b m (p.length:Int)=J (decide (r=s)):=by
 intro r
 induction r with
 |nil=>
  grind [ax,s9,yl,ak]
 |cons x r ih=>
  intro s p q m h h' hpq hrs hm
  obtain ⟨m,rfl,hm'⟩:=ax hm
  cases s with
  |nil=>cases hrs
  |cons y s=>
   obtain ⟨e1,e2,e3,e4⟩:=bL h (by omega)
   have e2':ar b (p.length:Int)=some y:=by grind [Ys]
   simp only [s9,yl,e1,au,e2,e2',bD,yy,e3]
   rw [ih s (p++[x]) (q++[y]) m e4 (by grind) (by simp_all) (by grind) hm']
   by_cases hxy:x=y<;>simp_all [ak,au]
theorem aek (hk:Fu k) {a b:LC} (hlen:a.length<4294967296) (J:Bool->OS S):zJ k a b J=J (decide (a=b)):=by
 simp only [zJ,Hx]
 by_cases h:a.length=b.length
 ·have e:((a.length:Int)==(b.length:Int))=true:=by simp [h]
  rw [e,dL,ak]
  exact Z3 hk J hlen a b [] [] k rfl rfl rfl h (by omega)
 ·have e:((a.length:Int)==(b.length:Int))=false:=by grind
  rw [e,ef,au,decide_eq_false]
  grind
theorem aa3 (l:LC):(dE l).1.length<=64:=by
 grind [dE]
def dT (f:LC):Bool:=decide (dE f=(f,0))
theorem tR (hk:Fu k) {f:LC} (hf:av f) (hlen:f.length<2147483648) (J:Bool->OS S):lv k f J=J (dT f):=by
 have:=aa3 f
 simp only [lv,ao hk,mH hk hf hlen,aek hk (show (dE f).1.length<4294967296 by omega),jR,dT,beq_iff_eq]
 by_cases h:(dE f).2=0
 all_goals simp_all [Prod.ext_iff]
def RF (f:LC):Prop:=dE f=(f,0)/\av f
theorem lX {f:LC} (h:av f):dT f=true↔RF f:=by grind [dT,RF]
theorem RF.right {f:LC} (h:RF f):dT f=true:=by unfold dT;simp [h.1]
theorem vP {l o:LC} (h:dE l=(o,0)):o=iC l/\l.all lW=true/\o.length<=64:=by
 grind [dE]
theorem RF.len {f:LC} (h:RF f):f.length<=64:=(vP h.1).2.2
theorem RF.rc {f:LC} (h:RF f) {c:Cl} (hc:c∈f):RC c:=(Gk (h.2 c hc)).1 (dU.1 (vP h.1).2.1 c hc)
theorem abN (l:LC):iC (iC l)=iC l:=GQ (AN _) (AN _) fun c=>by
 grind [mem_mins,eM]
theorem th {l:LC} (hl:av l) (h:(dE l).2=0):RF (dE l).1:=by
 have h':dE l=((dE l).1,0):=Prod.ext rfl h
 obtain ⟨h1,h2,h3⟩:=vP h'
 have hok:av (dE l).1:=fun c hc=>hl c ((mem_mins.1 (h1▸hc)).1)
 refine ⟨?_,hok⟩
 grind [dE,mem_mins,abN]
theorem jq:RF []:=⟨rfl,fun c hc=>by cases hc⟩
theorem la {c:Cl} (h:RC c):RF [c]:=by
 have hok:av [c]:=fun d hd=>by simp at hd;subst hd;exact h.ok
 refine ⟨?_,hok⟩
 have hm:iC [c]=[c]:=GQ (AN _) (by simp) fun d=>by
  grind [mem_mins,eM]
 unfold dE
 rw [hm,if_pos (by simp [(Gk h.ok).2 h]),if_neg (by simp)]
theorem wI:RC ⟨0,0⟩:=⟨⟨by decide,by decide⟩,by decide,by decide⟩
theorem mB {f g:LC} (hf:av f) (hg:av g):av (f++g):=fun c hc=>by
 rcases eu.1 hc with h|h
 ·exact hf c h
 ·exact hg c h
theorem aaU (hk:Fu k) (J:Int->OS S) {l:List (LC)} (hl: ∀f∈l,av f/\f.length<2147483648) (hlen:l.length<4294967296):
  ∀ (r p:List (LC)) (m:Nat),l=p++r->r.length<m->sN k J l m (p.length:Int)=J (if r.all dT then 0 else 2):=by
 intro r
 induction r with
 |nil=>
  grind [ax,sN,xS,ak]
 |cons x r ih=>
  intro p m h hm
  obtain ⟨m,rfl,hm'⟩:=ax hm
  obtain ⟨e1,e2,e3,e4⟩:=bL h (by omega)
  have hx:=hl x (by grind)
  grind [sN,xS,au,ao,tR,ak]
theorem GF (hk:Fu k) {l:List (LC)} (hl: ∀f∈l,av f/\f.length<2147483648) (hlen:l.length<4294967296) (J:Int->OS S):rF k l J=J (if l.all dT then 0 else 2):=by
 simp only [rF,Hi]
 exact aaU hk J hl hlen l [] k rfl (by omega)
def iO (f g:LC):LC×Int:=dE (f++g)
def meets (f g:LC):LC:=f.flatMap fun a=>g.map (iR a)
def iV (f g:LC):LC×Int:=dE (meets f g)
theorem LO {f g:LC} (hf:av f) (hg:av g):av (meets f g):=fun c hc=>by
 obtain ⟨a,ha,hc⟩:=List.mem_flatMap.1 hc
 obtain ⟨b,hb,rfl⟩:=dA.1 hc
 exact AK (hf a ha) (hg b hb)
theorem tk {f g:LC} (hf:av f) (hg:av g) (h:(iV f g).2=0):RF (iV f g).1:=th (LO hf hg) h
theorem Y1 {f g:LC} (hf:av f) (hg:av g) (h:(iO f g).2=0):RF (iO f g).1:=th (mB hf hg) h
theorem BN (hk:Fu k) {f g:LC} (hf:av f) (hg:av g) (h1:f.length<1073741824) (h2:g.length<1073741824) (J:LC×Int->OS S):pO k f g J=J (iO f g):=by
 simp only [pO,ao hk,eF]
 rw [dm (by grind),dm (by omega),mH hk (mB hf hg) (by grind)]
 rfl
theorem aaO (hk:Fu k) (J:LC×Int->OS S) (rec0:Int->LC->OS S) {x:Cl} (hx:cH x) {g f:LC} {v:Int} (hg:av g) (hlen:g.length<65536):
  ∀ (r p:LC) (m:Nat) (o:LC),g=p++r->r.length<m->o.length+r.length<1099511627776->p_ k J rec0 x g f v m (p.length:Int) o=rec0 (aj .i64 (v+1)) (o++r.map (iR x)):=by
 intro r
 induction r with
 |nil=>
  intro p m o h hm ho
  obtain ⟨m,rfl,hm'⟩:=ax hm
  grind [p_,xQ,ak]
 |cons y r ih=>
  intro p m o h hm ho
  obtain ⟨m,rfl,hm'⟩:=ax hm
  obtain ⟨e1,e2,e3,e4⟩:=bL h (by omega)
  have hy:cH y:=hg y (by grind)
  simp only [er] at ho
  simp only [p_,xQ,e1,au,e2,bD,ao hk,GC hk hx hy,e3]
  grind [dm]
theorem aaN (hk:Fu k) (J:LC×Int->OS S) {g f:LC} (hf:av f) (hg:av g) (hlf:f.length<32768) (hlg:g.length<32768):
  ∀ (r p:LC) (m:Nat) (o:LC),f=p++r->r.length<m->av o->o.length+r.length*g.length<1073741825->oK k J g f m (p.length:Int) o=J (dE (o++meets r g)):=by
 intro r
 induction r with
 |nil=>
  grind [ax,oK,ur,ak,ao,mH,meets]
 |cons x r ih=>
  intro p m o h hm hok ho
  obtain ⟨m,rfl,hm'⟩:=ax hm
  obtain ⟨e1,e2,e3,e4⟩:=bL h (by omega)
  have hx:cH x:=hf x (by grind)
  have hmul:(x::r).length*g.length=r.length*g.length+g.length:=by grind
  rw [hmul] at ho
  have hk':4294967296<=k:=hk
  simp only [oK,ur,e1,au,e2,bD]
  have:=aaO hk J (oK k J g f m) (f:=f) (v:=(p.length:Int)) hx hg (by omega) g [] k o rfl (by omega) (by omega)
  simp only [List.length_nil] at this
  rw [show (0:Int)=((0:Nat):Int) from rfl,this,e3,ih (p++[x]) m _ e4 hm' (mB hok fun c hc=>by
   obtain ⟨b,hb,rfl⟩:=dA.1 hc
   exact AK hx (hg b hb)) (by grind)]
  simp [meets]
theorem wS (hk:Fu k) {f g:LC} (hf:av f) (hg:av g) (h1:f.length<32768) (h2:g.length<32768) (J:LC×Int->OS S):m9 k f g J=J (iV f g):=by
 simp only [m9,Hg]
 have hb:f.length*g.length<1073741824:=Nat.lt_of_le_of_lt (Nat.mul_le_mul (Nat.le_of_lt_succ h1) (Nat.le_of_lt_succ h2)) (by decide)
 have:=aaN hk J hf hg h1 h2 f [] k [] rfl (by omega) (fun c hc=>by cases hc) (by grind)
 grind [iV]
theorem RF.lt {f:LC} (h:RF f):f.length<2147483648:=by have:=h.len;omega
theorem u0:U32 0:=⟨by decide,by decide⟩
def nl (i:Int):Cl:=⟨0,l9 0 i⟩
def pl (i:Int):Cl:=⟨l9 0 i,0⟩
theorem LW (i:Int):RC (nl i):=⟨⟨by show (0:Int)<=0;decide,by show (0:Int)<16777216;decide⟩,Qc⟩
theorem Mj (i:Int):RC (pl i):=⟨Qc,⟨by show (0:Int)<=0;decide,by show (0:Int)<16777216;decide⟩⟩
def tr (c:Cl):LC:=(lL c.pos).map nl++(lL c.neg).map pl
def qE (c:Cl):LC×Int:=dE (tr c)
theorem EY (s:Int):(lL s).length<=24:=by grind [lL,YY,U9]
theorem Me {c d:Cl} (h:d∈tr c):RC d:=by
 rcases eu.1 h with h|h<;>grind [LW,Mj]
theorem acx (c:Cl):(tr c).length<=48:=by
 grind [EY,tr]
theorem ES {l:LC} (h: ∀c∈l,RC c) (hl:l.length<=64):(dE l).2=0:=by
 have:=abM l
 unfold dE
 rw [if_pos (dU.2 fun c hc=>(Gk (h c hc).ok).2 (h c hc)),if_neg (by omega)]
theorem Mf (c:Cl):(qE c).2=0:=ES (fun d hd=>Me hd) (by have:=acx c;omega)
theorem Fy (c:Cl):RF (qE c).1:=th (fun d hd=>(Me hd).ok) (Mf c)
theorem aaR (hk:Fu k) (J:LC×Int->OS S) {l:List Int} (hlen:l.length<=64):
  ∀ (r p:List Int) (m:Nat) (o:LC),l=p++r->r.length<m->av o->o.length+r.length<1073741824->qb k J l m (p.length:Int) o=J (dE (o++r.map pl)):=by
 intro r
 induction r with
 |nil=>
  grind [ax,qb,xR,ak,ao,mH]
 |cons x r ih=>
  intro p m o h hm hok ho
  obtain ⟨m,rfl,hm'⟩:=ax hm
  obtain ⟨e1,e2,e3,e4⟩:=bL h (by omega)
  simp only [er] at ho
  simp only [qb,xR,e1,au,e2,bD,ao hk,wP hk u0,e3]
  rw [dm (by grind),ih (p++[x]) m _ e4 hm' (mB hok fun c hc=>by simp at hc;subst hc;exact (Mj x).ok) (by grind)]
  simp [pl]
theorem aaQ (hk:Fu k) (J:LC×Int->OS S) {c:Cl} (hc:cH c) {l:List Int} (hlen:l.length<=64):
  ∀ (r p:List Int) (m:Nat) (o:LC),l=p++r->r.length<m->av o->o.length+r.length<1000000->sM k J c l m (p.length:Int) o=J (dE (o++r.map nl++(lL c.neg).map pl)):=by
 intro r
 induction r with
 |nil=>
  intro p m o h hm hok ho
  obtain ⟨m,rfl,hm'⟩:=ax hm
  simp only [List.length_nil] at ho
  have hl:=EY c.neg
  have hk':4294967296<=k:=hk
  simp only [sM,ut,eL h,ak,wt,LM hc.2,List.map_nil,eN]
  grind [aaR]
 |cons x r ih=>
  intro p m o h hm hok ho
  obtain ⟨m,rfl,hm'⟩:=ax hm
  obtain ⟨e1,e2,e3,e4⟩:=bL h (by omega)
  simp only [er] at ho
  simp only [sM,ut,e1,au,e2,bD,ao hk,wP hk u0,e3]
  rw [dm (by grind),ih (p++[x]) m _ e4 hm' (mB hok fun c hc=>by simp at hc;subst hc;exact (LW x).ok) (by grind)]
  simp [nl]
theorem ae6 (hk:Fu k) {c:Cl} (hc:cH c) (J:LC×Int->OS S):zm k c J=J (qE c):=by
 have hl:=EY c.pos
 simp only [zm,Hh,wt,LM hc.1]
 have:=aaQ hk J hc (l:=lL c.pos) (by omega) (lL c.pos) [] k [] rfl (by omega) (fun c hc=>by cases hc) (by grind)
 grind [qE,tr]
def dO (step:LC->Cl->LC×Int):LC->LC->LC×Int
 |h,[]=>(h,0)
 |h,c::r=>if (step h c).2=0 then dO step (step h c).1 r else ([],(step h c).2)
def wk (h:LC) (c:Cl):LC×Int:=iV h (qE c).1
def gL (f:LC):LC×Int:=dO wk [⟨0,0⟩] f
theorem JD {step:LC->Cl->LC×Int} (hs: ∀h c,RF h->(step h c).2=0->RF (step h c).1): ∀ {r h:LC},RF h->(dO step h r).2=0->RF (dO step h r).1:=by
 intro r
 induction r<;>grind [dO]
theorem LZ (h:LC) (c:Cl) (hh:RF h) (h0:(wk h c).2=0):RF (wk h c).1:=tk hh.2 (Fy c).2 h0
theorem wl {f:LC} (h:(gL f).2=0):RF (gL f).1:=JD LZ (la wI) h
theorem eI (n:Int):(n==0)=decide (n=0):=by rfl
theorem ae5 (hk:Fu k) {h:LC} {c:Cl} (hh:RF h) (hc:cH c) (J:LC×Int->OS S):zk k h c J=J (wk h c):=by
 have:=hh.len;have:=(Fy c).len
 simp only [zk,ao hk,ae6 hk hc,Mf,wS hk hh.2 (Fy c).2 (show h.length<32768 by omega) (show (qE c).1.length<32768 by omega)]
 rfl
theorem aax (hk:Fu k) (J:LC×Int->OS S) {l:LC} (hl:av l) (hlen:l.length<2147483648):
  ∀ (r p:LC) (m:Nat) (h:LC),l=p++r->r.length<m->RF h->sK k J l m h (p.length:Int)=J (dO wk h r):=by
 intro r
 induction r with
 |nil=>
  intro p m h e hm hh
  obtain ⟨m,rfl,hm'⟩:=ax hm
  simp only [sK,xO,eL e,ak];rfl
 |cons x r ih=>
  intro p m h e hm hh
  obtain ⟨m,rfl,hm'⟩:=ax hm
  obtain ⟨e1,e2,e3,e4⟩:=bL e (by omega)
  have hx:cH x:=hl x (by grind)
  simp only [sK,xO,e1,au,e2,bD,ao hk,ae5 hk hh hx,eI,e3]
  grind [ak,LZ,dO,au]
theorem Pe (hk:Fu k) {f:LC} (hf:av f) (hlen:f.length<2147483648) (J:LC×Int->OS S):rE k f J=J (gL f):=by
 simp only [rE,ao hk,m8,DI,He]
 exact aax hk J hf hlen f [] k _ rfl (by omega) (la wI)
theorem aeC (hk:Fu k) {f:LC} (hf:av f) (hlen:f.length<2147483648) (J:LC×Int->OS S):zg k f J=J (if dT f then gL f else ([],2)):=by
 simp only [zg,ao hk,GF hk (l:=[f]) (by grind) (by simp),Pe hk hf hlen]
 have:[f].all dT=dT f:=by simp
 rw [this]
 by_cases h:dT f=true
 ·rw [if_pos h,if_pos h];rfl
 ·rw [if_neg h,if_neg h];rfl
def fW (i:Int) (c:Cl):Cl:=⟨i_ c.pos i,i_ c.neg i⟩
theorem rY (i:Int) (c:Cl):RC (fW i c):=⟨Qe,Qe⟩
def jO (i:Int) (r:LC) (c:Cl):LC×Int:=if ie c.pos i then iV [fW i c] r else ([fW i c],0)
def lR (i:Int) (r:LC) (c:Cl) (g:LC):LC×Int:=if ie c.neg i then if (gL r).2=0 then iV g (gL r).1 else ([],(gL r).2) else (g,0)
def mD (i:Int) (r h:LC) (c:Cl):LC×Int:=
 if (jO i r c).2=0 then if (lR i r c (jO i r c).1).2=0 then iO h (lR i r c (jO i r c).1).1 else ([],(lR i r c (jO i r c).1).2) else ([],(jO i r c).2)
def rS (i:Int):Bool:=decide (0<=i/\i<24)
def kZ (f:LC) (i:Int) (r:LC):LC×Int:=if dT f&&dT r&&rS i then dO (mD i r) [] f else ([],2)
theorem acL {i:Int} {r:LC} {c:Cl} (hr:RF r) (h:(jO i r c).2=0):RF (jO i r c).1:=by
 unfold jO at h ⊢
 split
 ·next hh=>rw [if_pos hh] at h;exact tk (la (rY i c)).2 hr.2 h
 simp_all [la,rY]
theorem acN {i:Int} {r g:LC} {c:Cl} (hg:RF g) (h:(lR i r c g).2=0):RF (lR i r c g).1:=by
 unfold lR at h ⊢
 split
 ·next hh=>
  rw [if_pos hh] at h
  split
  ·next hn=>rw [if_pos hn] at h;exact tk hg.2 (wl hn).2 h
  grind
 omega
theorem Mp {i:Int} {r:LC} (hr:RF r) (h:LC) (c:Cl) (hh:RF h) (h0:(mD i r h c).2=0):RF (mD i r h c).1:=by
 unfold mD at h0 ⊢
 split
 ·next ha=>
  rw [if_pos ha] at h0
  have hA:=acL hr ha
  split
  ·next hb=>rw [if_pos hb] at h0;exact Y1 hh.2 (acN hA hb).2 h0
  grind
 grind
theorem aeq (hk:Fu k) {i:Int} {r h:LC} {c:Cl} (hr:RF r) (hh:RF h) (hc:cH c) (J:LC×Int->OS S):zi k h c i r J=J (mD i r h c):=by
 have l1:=hr.len;have l2:=hh.len
 have hg:=la (rY i c)
 simp only [zi,ao hk,wQ hk hc.1,wQ hk hc.2,qO hk hc.1,qO hk hc.2,wS hk hg.2 hr.2 (show [fW i c].length<32768 by simp) (show r.length<32768 by omega),Pe hk hr.2 hr.lt,eI,jR,decide_eq_true_eq,jd,decide_eq_false_iff_not]
 have e: ∀ (f:LC×Int->OS S),m9 k [Cl.mk (i_ c.pos i) (i_ c.neg i)] r f=f (iV [fW i c] r):=fun f=>wS hk hg.2 hr.2 (by simp) (by omega) f
 simp only [e]
 unfold mD jO lR
 by_cases hp:ie c.pos i=true
 ·simp only [hp,if_true]
  by_cases h1:(iV [fW i c] r).2=0
  ·have hA:RF (iV [fW i c] r).1:=tk hg.2 hr.2 h1
   have l3:=hA.len
   simp only [h1,not_true,if_false,if_true]
   by_cases hn:ie c.neg i=true
   ·simp only [hn,if_true]
    by_cases h2:(gL r).2=0
    ·have hN:=wl h2
     have l4:=hN.len
     simp only [h2,not_true,if_false,if_true]
     rw [wS hk hA.2 hN.2 (by omega) (by omega)]
     by_cases h3:(iV (iV [fW i c] r).1 (gL r).1).2=0
     ·have hB:=tk hA.2 hN.2 h3
      have l5:=hB.len
      simp only [h3,not_true,if_false,if_true]
      rw [BN hk hh.2 hB.2 (by omega) (by omega)]
     grind
    grind
   ·simp only [hn,Bool.false_eq_true,if_false,if_true]
    rw [BN hk hh.2 hA.2 (by omega) (by omega)]
  grind
 ·simp only [hp,Bool.false_eq_true,if_false,if_true]
  by_cases hn:ie c.neg i=true
  ·simp only [hn,if_true]
   by_cases h2:(gL r).2=0
   ·have hN:=wl h2
    have l4:=hN.len
    simp only [h2,not_true,if_false,if_true]
    have e2: ∀ (f:LC×Int->OS S),m9 k [Cl.mk (i_ c.pos i) (i_ c.neg i)] (gL r).1 f=f (iV [fW i c] (gL r).1):=fun f=>wS hk hg.2 hN.2 (by simp) (by omega) f
    rw [e2]
    by_cases h3:(iV [fW i c] (gL r).1).2=0
    ·have hB:=tk hg.2 hN.2 h3
     have l5:=hB.len
     simp only [h3,not_true,if_false,if_true]
     rw [BN hk hh.2 hB.2 (by omega) (by omega)]
    grind
   grind
  ·simp only [hn,Bool.false_eq_true,if_false,if_true]
   have:=BN hk hh.2 hg.2 (by omega) (by simp) J
   exact this
theorem aay (hk:Fu k) (J:LC×Int->OS S) {i:Int} {q:LC} (hq:RF q) {l:LC} (hl:av l) (hlen:l.length<2147483648):
  ∀ (r p:LC) (m:Nat) (h:LC),l=p++r->r.length<m->RF h->sJ k J i q l m h (p.length:Int)=J (dO (mD i q) h r):=by
 intro r
 induction r with
 |nil=>
  intro p m h e hm hh
  obtain ⟨m,rfl,hm'⟩:=ax hm
  simp only [sJ,xN,eL e,ak];rfl
 |cons x r ih=>
  intro p m h e hm hh
  obtain ⟨m,rfl,hm'⟩:=ax hm
  obtain ⟨e1,e2,e3,e4⟩:=bL e (by omega)
  have hx:cH x:=hl x (by grind)
  simp only [sJ,xN,e1,au,e2,bD,ao hk,aeq hk hq hh hx,eI,e3]
  grind [ak,Mp,dO,au]
theorem aej (hk:Fu k) (i:Int) (J:LC×Int->OS S):zf k i J=J (if rS i then ([⟨l9 0 i,0⟩],0) else ([],2)):=by
 simp only [zf,ao hk,wP hk u0]
 grind [rS,H0,Ds,ak,Dr,au]
theorem aeD (hk:Fu k) {f r:LC} {i:Int} (hf:av f) (hr:av r) (h1:f.length<2147483648) (h2:r.length<2147483648) (J:LC×Int->OS S):zh k f i r J=J (kZ f i r):=by
 simp only [zh,ao hk,GF hk (l:=[f,r]) (by grind) (by simp),aej hk]
 have e:[f,r].all dT=(dT f&&dT r):=by simp
 unfold kZ
 by_cases ha:(dT f&&dT r)=true
 ·rw [e,if_pos ha,ha,Bool.true_and]
  rw [show ((0:Int)==0)=true from rfl,dL,ak]
  cases hd:rS i with
  |true=>
   rw [if_pos rfl,if_pos rfl]
   rw [show ((0:Int)==0)=true from rfl,dL,ak]
   simp only [pN,DH,Hc]
   have hr':=(lX hr).1 (by grind)
   exact aay hk J hr' hf h1 f [] k [] rfl (by omega) jq
  |false=>
   rfl
 simp_all [if_neg,au]
theorem abd {m n b:Nat}:(kn m n b).1<16777216:=by
 have h1:m&&&M24<16777216:=Nat.lt_of_le_of_lt Nat.and_le_right (by decide)
 have h2:kV m n<=m&&&M24:=Nat.and_le_left
 unfold kn
 split
 ·omega
 ·split
  ·simp
  ·split
   ·simp
   ·exact Nat.or_lt_two_pow (n:=24) (by omega) (by omega)
theorem KA (s i b:Int):0<=(eP s i b).1/\(eP s i b).1<16777216:=by
 grind [eP,abd]
theorem aa_ (c:Cl) (i b:Int):RC (gK c i b).1:=by
 unfold gK
 split
 ·split
  ·split
   ·exact ⟨KA _ _ _,KA _ _ _⟩
   ·exact wI
  ·exact wI
 ·exact wI
def iP (i b:Int) (h:LC) (c:Cl):LC×Int:=(h++[(gK c i b).1],(gK c i b).2)
def du (f:LC) (i b:Int):LC×Int:=if dT f then if (dO (iP i b) [] f).2=0 then dE (dO (iP i b) [] f).1 else ([],(dO (iP i b) [] f).2) else ([],2)
theorem JE {i b:Int}: ∀ {r h:LC},av h->av (dO (iP i b) h r).1/\(dO (iP i b) h r).1.length<=h.length+r.length:=by
 intro r
 induction r with
 |nil=>intro h hh;exact ⟨hh,by show h.length<=_;omega⟩
 |cons c r ih=>
  intro h hh
  unfold dO
  split
  ·have:=ih (h:=(iP i b h c).1) (mB hh fun d hd=>by simp at hd;subst hd;exact (aa_ c i b).ok)
   grind [iP]
  ·exact ⟨fun d hd=>(by cases hd),by simp⟩
theorem aaw (hk:Fu k) (J:LC×Int->OS S) {i b:Int} (hi:aI i) (hb:aI b) {l:LC} (hl:av l) (hlen:l.length<2147483648):
  ∀ (r p:LC) (m:Nat) (h:LC),l=p++r->r.length<m->h.length+r.length<4294967296->sL k J i b l m h (p.length:Int)=J (dO (iP i b) h r):=by
 intro r
 induction r with
 |nil=>
  intro p m h e hm hh
  obtain ⟨m,rfl,hm'⟩:=ax hm
  simp only [sL,xP,eL e,ak];rfl
 |cons x r ih=>
  intro p m h e hm hh
  obtain ⟨m,rfl,hm'⟩:=ax hm
  obtain ⟨e1,e2,e3,e4⟩:=bL e (by omega)
  have hx:cH x:=hl x (by grind)
  simp only [er] at hh
  simp only [sL,xP,e1,au,e2,bD,ao hk,DG,aey hk hx hi hb,eI,e3]
  grind [dm,ak,dO,iP,au]
theorem wR (hk:Fu k) {f:LC} {i b:Int} (hf:av f) (hlen:f.length<1073741824) (hi:aI i) (hb:aI b) (J:LC×Int->OS S):n3 k f i b J=J (du f i b):=by
 have hlo:=JE (i:=i) (b:=b) (r:=f) (h:=[]) (fun d hd=>by cases hd)
 simp only [List.length_nil] at hlo
 have hfold: ∀ (g:LC×Int->OS S),zj k f [] i b g=g (dO (iP i b) [] f):=fun g=>by
  simp only [zj,Hf]
  exact aaw hk g hi hb hf (by omega) f [] k [] rfl (by omega) (by grind)
 simp only [n3,ao hk,GF hk (l:=[f]) (by grind) (by simp),pN,hfold,mH hk hlo.1 (show _<2147483648 by omega)]
 grind [du,ak,decide_eq_false,au]
theorem km {f:LC} {i b:Int} (h:(du f i b).2=0):RF (du f i b).1:=by
 unfold du at h ⊢
 split
 ·next hr=>
  rw [if_pos hr] at h
  split
  ·next h0=>
   rw [if_pos h0] at h
   exact th (JE fun d hd=>by cases hd).1 h
  grind
 grind
def AQ (s:Nat) (f:LC):Nat:=f.foldl (fun s c=>s|||(c.pos.toNat|||c.neg.toNat)) s
def mm (f:LC):Nat:=AQ 0 f&&&M24
def ml (f:LC):Int:=((mm f:Nat):Int)
def pi (f:LC) (i:Nat):Bool:=f.any fun c=>c.pos.toNat.testBit i||c.neg.toNat.testBit i
theorem acy (i:Nat): ∀ {f:LC} {s:Nat},(AQ s f).testBit i=(s.testBit i||pi f i):=by
 intro f
 induction f<;>simp_all [AQ,pi,Bool.or_assoc]
theorem zQ (f:LC) (i:Nat):(mm f).testBit i=(pi f i&&decide (i<24)):=by
 grind [mm,nW,acy]
theorem IV (f:LC):mm f<16777216:=Nat.lt_of_le_of_lt Nat.and_le_right (by decide)
theorem aaf (hk:Fu k) (J:Int->OS S) {l:LC} (hl:av l) (hlen:l.length<4294967296):
  ∀ (r p:LC) (m:Nat) (s:Nat),l=p++r->r.length<m->s<4294967296->sI k J l m (s:Int) (p.length:Int)=J (((AQ s r&&&M24:Nat):Int)):=by
 intro r
 induction r with
 |nil=>
  intro p m s e hm hs
  obtain ⟨m,rfl,hm'⟩:=ax hm
  simp only [sI,xM,eL e,ak,ao hk,wQ hk (U32.of hs)]
  rfl
 |cons x r ih=>
  intro p m s e hm hs
  obtain ⟨m,rfl,hm'⟩:=ax hm
  obtain ⟨e1,e2,e3,e4⟩:=bL e (by omega)
  have hx:cH x:=hl x (by grind)
  have ho:U32 (ku x.pos x.neg):=AR hx.1 hx.2
  have hq:s|||(x.pos.toNat|||x.neg.toNat)<4294967296:=by
   have h1:=hx.1.1;have h2:=hx.1.2;have h3:=hx.2.1;have h4:=hx.2.2
   have h32:(2:Nat)^32=4294967296:=by decide
   exact Nat.or_lt_two_pow (n:=32) hs (Nat.or_lt_two_pow (n:=32) (by omega) (by omega))
  have es:ku (s:Int) (ku x.pos x.neg)=((s|||(x.pos.toNat|||x.neg.toNat):Nat):Int):=by rfl
  simp only [sI,xM,e1,au,e2,bD,wq hx.1 hx.2,wq (U32.of hs) ho,e3,es]
  exact ih (p++[x]) m _ e4 hm' hq
theorem GE (hk:Fu k) {f:LC} (hf:av f) (hlen:f.length<4294967296) (J:Int->OS S):rD k f J=J (ml f):=by
 simp only [rD,Hb]
 exact aaf hk J hf hlen f [] k 0 rfl (by omega) (by decide)
def bM (f:LC) (d:Int):Bool:=decide (∀i∈jB (mm f),(i:Int)<d)
theorem Pp (hk:Fu k) {f:LC} {d:Int} (hf:av f) (hlen:f.length<4294967296) (hd:0<=d) (hd':d<9223372036854775808) (J:Bool->OS S):n8 k f d J=J (bM f d):=by
 simp only [n8,eC,ao hk,GE hk hf hlen]
 by_cases h:d>=24
 ·grind [bM,mem_bitsN]
 ·rw [if_neg h]
  obtain ⟨n,rfl⟩: ∃n:Nat,d=n:=⟨d.toNat,by omega⟩
  rw [l_ n (by omega),Vr (by omega),gQ,Nat.min_eq_left (by omega)]
  congr 1
  rw [ml,Ee,bM,Bool.eq_iff_iff]
  simp only [beq_iff_eq,decide_eq_true_eq]
  have hdiv:(mm f/2^n=0)↔mm f<2^n:=Nat.div_eq_zero_iff_lt (Nat.two_pow_pos n)
  constructor
  ·grind [mem_bitsN,Nat.lt_of_lt_of_le,Nat.pow_le_pow_right,Nat.testBit_lt_two_pow]
  ·intro h0
   have:mm f<2^n:=by
    apply Nat.lt_pow_two_of_testBit
    grind [mem_bitsN,pI,IV]
   omega
def uN (c:Cl):Bool:= !eW c
def iJ (l:LC):LC:=l.filter uN
def cm (f:LC):Bool:=dT f&&f.all fun c=> !eW c
def RFa (f:LC):Prop:=RF f/\ ∀c∈f,eW c=false
theorem kB {f:LC} (h:av f):cm f=true↔RFa f:=by
 grind [cm,RFa,lX]
theorem RFa.right {f:LC} (h:RFa f):cm f=true:=(kB h.1.2).2 h
theorem yE {l:LC} {c:Cl} (h:c∈iJ l):c∈l/\eW c=false:=by
 have:=List.mem_filter.1 h
 grind [uN]
theorem Iy {l:LC} (h:av l):av (iJ l):=fun c hc=>h c (yE hc).1
theorem ER {l:LC} (hl:av l) (hc: ∀c∈l,eW c=false) (h:(dE l).2=0):RFa (dE l).1:=by
 refine ⟨th hl h,fun c hcm=> ?_⟩
 grind [dE,mem_mins]
theorem Oz:RFa []:=⟨jq,fun c hc=>by cases hc⟩
theorem OA {c:Cl} (h:RC c) (h':eW c=false):RFa [c]:=⟨la h,fun d hd=>by grind⟩
theorem Ix (l:LC):(iJ l).length<=l.length:=List.length_filter_le _ _
theorem aab (hk:Fu k) (J:Int->OS S) {l:LC} (hl:av l) (hlen:l.length<2147483648):
  ∀ (r p:LC) (m:Nat),l=p++r->r.length<m-> ∃v:Int,decide (v>=0)=r.any eW/\ta k J l m (p.length:Int)=J v:=by
 intro r
 induction r with
 |nil=>
  intro p m h hm
  obtain ⟨m,rfl,hm'⟩:=ax hm
  exact ⟨-1,rfl,by grind [ta,yn,ak]⟩
 |cons x r ih=>
  intro p m h hm
  obtain ⟨m,rfl,hm'⟩:=ax hm
  obtain ⟨e1,e2,e3,e4⟩:=bL h (by omega)
  have hx:cH x:=hl x (by grind)
  obtain ⟨v,hv,hr⟩:=ih (p++[x]) m e4 hm'
  grind [ta,yn,au,ao,O4,ak]
theorem tT (hk:Fu k) {f:LC} (hf:av f) (hlen:f.length<2147483648) (J:Bool->OS S):m7 k f J=J (cm f):=by
 obtain ⟨v,hv,hr⟩:=aab hk (fun r1:Int=>(fun r2:Bool=>J (!r2)) (decide (r1>=0))) hf hlen f [] k rfl (by omega)
 simp only [m7,ao hk,tR hk hf hlen,DR,DT,Hz]
 grind [cm,dT,au,ak]
theorem aat (hk:Fu k) (J:Int->OS S) {l:List (LC)} (hl: ∀f∈l,av f/\f.length<2147483648) (hlen:l.length<4294967296):
  ∀ (r p:List (LC)) (m:Nat),l=p++r->r.length<m->sH k J l m (p.length:Int)=J (if r.all cm then 0 else 2):=by
 intro r
 induction r with
 |nil=>
  grind [ax,sH,xL,ak]
 |cons x r ih=>
  intro p m h hm
  obtain ⟨m,rfl,hm'⟩:=ax hm
  obtain ⟨e1,e2,e3,e4⟩:=bL h (by omega)
  have hx:=hl x (by grind)
  grind [sH,xL,au,ao,tT,ak]
theorem aeK (hk:Fu k) {l:List (LC)} (hl: ∀f∈l,av f/\f.length<2147483648) (hlen:l.length<4294967296) (J:Int->OS S):ze k l J=J (if l.all cm then 0 else 2):=by
 simp only [ze,Ha]
 exact aat hk J hl hlen l [] k rfl (by omega)
def qr (l:LC):LC×Int:=dE (iJ l)
def lQ (f:LC):LC×Int:=if dT f then qr f else ([],2)
def mA (f:LC):LC×Int:=if dT f then if (gL f).2=0 then qr (gL f).1 else ([],(gL f).2) else ([],2)
theorem EQ {l:LC} (hl:av l) (h:(qr l).2=0):RFa (qr l).1:=ER (Iy hl) (fun c hc=>(yE hc).2) h
theorem L6 {f:LC} (h:(lQ f).2=0) (hf:av f):RFa (lQ f).1:=by
 grind [lQ,EQ]
theorem L7 {f:LC} (h:(mA f).2=0) (hf:av f):RFa (mA f).1:=by
 unfold mA at h ⊢
 split
 ·next hr=>
  rw [if_pos hr] at h
  split
  ·next h0=>rw [if_pos h0] at h;exact EQ (wl h0).2 h
  grind
 grind
theorem Pa (hk:Fu k) {c:Cl} (hc:cH c) (J:Cl×Bool->OS S):uX k c J=J (c,uN c):=by
 simp only [uX,ao hk,O4 hk hc];rfl
theorem aaG (hk:Fu k) (J:LC->OS S) {l:LC} (hl:av l) (hlen:l.length<2147483648):
  ∀ (r p:LC) (m:Nat) (o:LC),l=p++r->r.length<m->o.length+r.length<4294967296->sD k J l m (p.length:Int) o=J (o++iJ r):=by
 intro r
 induction r with
 |nil=>
  grind [ax,sD,xH,ak,iJ]
 |cons x r ih=>
  intro p m o h hm ho
  obtain ⟨m,rfl,hm'⟩:=ax hm
  obtain ⟨e1,e2,e3,e4⟩:=bL h (by omega)
  have hx:cH x:=hl x (by grind)
  simp only [er] at ho
  simp only [sD,xH,e1,au,e2,bD,ao hk,Pa hk hx,e3]
  grind [au,dm,iJ,ak]
theorem aeT (hk:Fu k) {l:LC} (hl:av l) (hlen:l.length<2147483648) (J:LC->OS S):zc k l J=J (iJ l):=by
 simp only [zc,G8]
 have:=aaG hk J hl hlen l [] k [] rfl (by omega) (by grind)
 grind
theorem Pb (hk:Fu k) {f:LC} (hf:av f) (hlen:f.length<2147483648) (J:LC×Int->OS S):uW k f J=J (lQ f):=by
 have:=Ix f
 simp only [uW,ao hk,tR hk hf hlen,aeT hk hf hlen,mH hk (Iy hf) (show (iJ f).length<2147483648 by omega)]
 unfold lQ
 cases dT f with
 |true=>rfl
 |false=>rfl
theorem aeH (hk:Fu k) {f:LC} (hf:av f) (hlen:f.length<2147483648) (J:LC×Int->OS S):y_ k f J=J (mA f):=by
 simp only [y_,ao hk,aeC hk hf hlen,eI]
 unfold mA
 cases dT f with
 |true=>
  rw [if_pos rfl,if_pos rfl]
  by_cases h0:(gL f).2=0
  ·have hr:=wl h0
   rw [decide_eq_true h0,dL,ak,if_pos h0,Pb hk hr.2 hr.lt]
   unfold lQ
   rw [if_pos hr.right]
  grind [au]
 |false=>
  rfl
def nE (f g:LC):LC×Int:=qr (meets f g)
def iN (f g:LC):LC×Int:=if cm f&&cm g then iO f g else ([],2)
theorem Pd (hk:Fu k) {f g:LC} (hf:av f) (hg:av g) (h1:f.length<1073741824) (h2:g.length<1073741824) (J:LC×Int->OS S):uZ k f g J=J (iO f g):=by
 simp only [uZ,ao hk,eF]
 rw [dm (by grind),dm (by omega),mH hk (mB hf hg) (by grind)]
 rfl
theorem aeF (hk:Fu k) {f g:LC} (hf:av f) (hg:av g) (h1:f.length<1073741824) (h2:g.length<1073741824) (J:LC×Int->OS S):y9 k f g J=J (iN f g):=by
 simp only [y9,ao hk,aeK hk (l:=[f,g]) (by grind) (by simp),Pd hk hf hg h1 h2]
 have e:[f,g].all cm=(cm f&&cm g):=by simp
 unfold iN
 rw [e]
 cases (cm f&&cm g)<;>grind [ak,au]
theorem Aw {f g:LC} (hf:RFa f) (hg:RFa g) (h:(iO f g).2=0):RFa (iO f g).1:=
 ER (mB hf.1.2 hg.1.2) (fun c hc=>by
  rcases eu.1 hc with h|h
  ·exact hf.2 c h
  ·exact hg.2 c h) h
theorem aeG (hk:Fu k) {b c:Cl} (hb:cH b) (hc:cH c) (J:Cl×Bool->OS S):zd k b c J=J (iR c b,uN (iR c b)):=by
 simp_all [zd,ao,GC,Pa,AK]
theorem aaH (hk:Fu k) (J:LC->OS S) {c:Cl} (hc:cH c) {l:LC} (hl:av l) (hlen:l.length<2147483648):
  ∀ (r p:LC) (m:Nat) (o:LC),l=p++r->r.length<m->o.length+r.length<4294967296->sA k J c l m (p.length:Int) o=J (o++iJ (r.map (iR c))):=by
 intro r
 induction r with
 |nil=>
  intro p m o h hm ho
  obtain ⟨m,rfl,hm'⟩:=ax hm
  grind [sA,xG,ak,iJ]
 |cons x r ih=>
  intro p m o h hm ho
  obtain ⟨m,rfl,hm'⟩:=ax hm
  obtain ⟨e1,e2,e3,e4⟩:=bL h (by omega)
  have hx:cH x:=hl x (by grind)
  simp only [er] at ho
  simp only [sA,xG,e1,au,e2,bD,ao hk,aeG hk hx hc,e3]
  cases hb:uN (iR c x)<;>grind [au,dm,iJ,ak]
theorem aeU (hk:Fu k) {c:Cl} (hc:cH c) {l:LC} (hl:av l) (hlen:l.length<2147483648) (J:LC->OS S):zb k l c J=J (iJ (l.map (iR c))):=by
 simp only [zb,G7]
 have:=aaH hk J hc hl hlen l [] k [] rfl (by omega) (by grind)
 grind
theorem aar (hk:Fu k) (J:LC×Int->OS S) {g f:LC} (hf:av f) (hg:av g) (hlf:f.length<32768) (hlg:g.length<32768):
  ∀ (r p:LC) (m:Nat) (o:LC),f=p++r->r.length<m->av o->o.length+r.length*g.length<1073741825->sF k J g f m (p.length:Int) o=J (dE (o++iJ (meets r g))):=by
 intro r
 induction r with
 |nil=>
  intro p m o h hm hok ho
  obtain ⟨m,rfl,hm'⟩:=ax hm
  grind [sF,xK,ak,ao,mH,meets,iJ]
 |cons x r ih=>
  intro p m o h hm hok ho
  obtain ⟨m,rfl,hm'⟩:=ax hm
  obtain ⟨e1,e2,e3,e4⟩:=bL h (by omega)
  have hx:cH x:=hf x (by grind)
  have hmul:(x::r).length*g.length=r.length*g.length+g.length:=by grind
  rw [hmul] at ho
  have hcl:=Ix (g.map (iR x))
  rw [List.length_map] at hcl
  simp only [sF,xK,e1,au,e2,bD,ao hk,aeU hk hx hg (show g.length<2147483648 by omega),e3]
  rw [dm (by omega),ih (p++[x]) m _ e4 hm' (mB hok fun c hc=>by
   obtain ⟨b,hb,rfl⟩:=dA.1 (yE hc).1
   exact AK hx (hg b hb)) (by grind)]
  grind [iJ,meets]
theorem aeJ (hk:Fu k) {f g:LC} (hf:av f) (hg:av g) (h1:f.length<32768) (h2:g.length<32768) (J:LC×Int->OS S):rC k f g J=J (nE f g):=by
 simp only [rC,G_]
 have hb:f.length*g.length<1073741824:=Nat.lt_of_le_of_lt (Nat.mul_le_mul (Nat.le_of_lt_succ h1) (Nat.le_of_lt_succ h2)) (by decide)
 have:=aar hk J hf hg h1 h2 f [] k [] rfl (by omega) (fun c hc=>by cases hc) (by grind)
 grind [nE,qr]
theorem Fk {f g:LC} (hf:av f) (hg:av g) (h:(nE f g).2=0):RFa (nE f g).1:=EQ (LO hf hg) h
theorem Qf {s i:Int} {j:Nat} (h:(i_ s i).toNat.testBit j=true):s.toNat.testBit j=true:=by
 grind [i_,gQ,tp]
theorem calm_bits {c:Cl}:eW c=false↔ ∀j,¬ (c.pos.toNat.testBit j=true/\c.neg.toNat.testBit j=true):=by
 unfold eW
 rw [Bool.not_eq_false',decide_eq_true_eq]
 constructor
 ·intro h j ⟨h1,h2⟩
  have:(c.pos.toNat&&&c.neg.toNat).testBit j=true:=by grind
  grind
 ·intro h
  apply Nat.eq_of_testBit_eq
  grind
theorem JL {c:Cl} {i:Int} (h:eW c=false):eW (fW i c)=false:=by
 rw [calm_bits] at h ⊢
 exact fun j ⟨h1,h2⟩=>h j ⟨Qf h1,Qf h2⟩
def kw (i:Int) (c:Cl) (h:LC) (q:LC×Int):LC×Int:=
 if q.2=0 then if (nE [fW i c] q.1).2=0 then iO h (nE [fW i c] q.1).1 else ([],(nE [fW i c] q.1).2) else ([],q.2)
def iW (i:Int) (r h:LC) (c:Cl):LC×Int:=
 if ie c.pos i then kw i c h (lQ r) else if ie c.neg i then kw i c h (mA r) else iO h [fW i c]
def kY (f:LC) (i:Int) (r:LC):LC×Int:=if cm f&&dT r&&rS i then dO (iW i r) [] f else ([],2)
theorem Mq {i:Int} {c:Cl} {h:LC} {q:LC×Int} (hh:RFa h) (hq:q.2=0->RFa q.1) (h0:(kw i c h q).2=0):RFa (kw i c h q).1:=by
 unfold kw at h0 ⊢
 split
 ·next h1=>
  rw [if_pos h1] at h0
  split
  ·next h2=>rw [if_pos h2] at h0;exact Aw hh (Fk (la (rY i c)).2 (hq h1).1.2 h2) h0
  grind
 grind
theorem acO {i:Int} {r h:LC} {c:Cl} (hr:RF r) (hh:RFa h) (hc:eW c=false) (h0:(iW i r h c).2=0):RFa (iW i r h c).1:=by
 unfold iW at h0 ⊢
 split
 ·next h1=>rw [if_pos h1] at h0;exact Mq hh (fun h=>L6 h hr.2) h0
 ·next h1=>
  rw [if_neg h1] at h0
  split
  ·next h2=>rw [if_pos h2] at h0;exact Mq hh (fun h=>L7 h hr.2) h0
  grind [Aw,OA,rY,JL]
theorem Yc {i:Int} {r:LC} (hr:RF r): ∀ {l h:LC},(∀c∈l,eW c=false)->RFa h->(dO (iW i r) h l).2=0->RFa (dO (iW i r) h l).1:=by
 intro l
 induction l<;>grind [dO,acO]
theorem Mr {f r:LC} {i:Int} (hf:av f) (hr:av r) (h:(kY f i r).2=0):RFa (kY f i r).1:=by
 unfold kY at h ⊢
 split
 ·next hc=>
  rw [if_pos hc] at h
  simp only [af] at hc
  exact Yc ((lX hr).1 hc.1.2) ((kB hf).1 hc.1.1).2 Oz h
 grind
theorem XU (hk:Fu k) (J:LC×Int->OS S) (rec0:Int->LC->OS S) (i:Int) (r f:LC) {h:LC} {v:Int} {g:LC} {e:Int} (hh:RF h) (hg:e=0->RF g):
  sz k J rec0 i r f v h k g e=if e=0 then if (iO h g).2=0 then rec0 (aj .i64 (v+1)) (iO h g).1 else J ([],(iO h g).2) else J ([],e):=by
 obtain ⟨q,hq⟩: ∃q,k=q+1:=⟨k-1,by omega⟩
 have: ∀j,j=q+1->sz k J rec0 i r f v h j g e=xF k J i r f v h rec0 g e:=by rintro j rfl;rfl
 rw [this k hq]
 simp only [xF,eI]
 by_cases h0:e=0
 ·have l1:=hh.len;have l2:=(hg h0).len
  rw [decide_eq_true h0,au,if_pos h0,ao hk,Pd hk hh.2 (hg h0).2 (by omega) (by omega)]
  grind [ak,au]
 grind [ak,au]
theorem aas (hk:Fu k) (J:LC×Int->OS S) {i:Int} {q:LC} (hq:RF q) {l:LC} (hl:av l) (hc: ∀c∈l,eW c=false) (hlen:l.length<2147483648):
  ∀ (r p:LC) (m:Nat) (h:LC),l=p++r->r.length<m->RFa h->oJ k J i q l m (p.length:Int) h=J (dO (iW i q) h r):=by
 intro r
 induction r with
 |nil=>
  intro p m h e hm hh
  obtain ⟨m,rfl,hm'⟩:=ax hm
  simp only [oJ,uq,eL e,ak];rfl
 |cons x r ih=>
  intro p m h e hm hh
  obtain ⟨m,rfl,hm'⟩:=ax hm
  obtain ⟨e1,e2,e3,e4⟩:=bL e (by omega)
  have hx:cH x:=hl x (by grind)
  have hxc:eW x=false:=hc x (by grind)
  have hg:=OA (rY i x) (JL hxc)
  have key: ∀ (g:LC) (e:Int),(e=0->RFa g)->(iW i q h x=if e=0 then iO h g else ([],e))->sz k J (oJ k J i q l m) i q l (p.length:Int) h k g e=J (dO (iW i q) h (x::r)):=by
   intro g e hge hput
   rw [XU hk _ _ _ _ _ hh.1 (fun h=>(hge h).1),dO,hput]
   grind [Aw]
  have em: ∀ (s:LC),RF s-> ∀ (f:LC×Int->OS S),rC k [Cl.mk (i_ x.pos i) (i_ x.neg i)] s f=f (nE [fW i x] s):=fun s hs f=>aeJ hk hg.1.2 hs.2 (by simp) (by have:=hs.len;omega) f
  simp only [oJ,uq,e1,au,e2,bD,ao hk,wQ hk hx.1,wQ hk hx.2,qO hk hx.1,qO hk hx.2,Pb hk hq.2 hq.lt,aeH hk hq.2 hq.lt,eI]
  cases hp:ie x.pos i with
  |true=>
   rw [au]
   by_cases h1:(lQ q).2=0
   ·have ho:=L6 h1 hq.2
    rw [decide_eq_true h1,au,em _ ho.1]
    exact key _ _ (fun h0=>Fk hg.1.2 ho.1.2 h0) (by grind [iW,kw])
   grind [ak,iW,kw]
  |false=>
   rw [ak]
   cases hn:ie x.neg i with
   |true=>
    rw [au]
    by_cases h1:(mA q).2=0
    ·have ho:=L7 h1 hq.2
     rw [decide_eq_true h1,au,em _ ho.1]
     exact key _ _ (fun h0=>Fk hg.1.2 ho.1.2 h0) (by grind [iW,kw])
    grind [ak,iW,kw]
   |false=>
    grind [ak,fW,iW]
theorem aeI (hk:Fu k) {f r:LC} {i:Int} (hf:av f) (hr:av r) (h1:f.length<2147483648) (h2:r.length<2147483648) (J:LC×Int->OS S):za k f i r J=J (kY f i r):=by
 simp only [za,G6,ao hk,tT hk hf h1,O8 hk,tR hk hr h2]
 unfold kY rS
 cases ha:cm f with
 |false=>rfl
 |true=>
  rw [dL,ak]
  by_cases hd:0<=i/\i<24
  ·rw [decide_eq_true hd,dL,ak]
   cases hb:dT r with
   |false=>rfl
   |true=>
    rw [dL,ak]
    exact aas hk J ((lX hr).1 hb) hf ((kB hf).1 ha).2 h1 f [] k [] rfl (by omega) Oz
  grind [au]
end Go.Proofs.YtgajalidbabccaaGreatDoor
namespace Go.Proofs.YtgajalidbabccaaGreatDoor
open Go PI
mutual
def aG:Tm->Nat
 | .mk _ _ _ _ ks sys=>1+aD ks+aJ sys
def aD:LT->Nat
 |[]=>0
 |t::l=>aG t+aD l
def aJ:LB->Nat
 |[]=>0
 |b::l=>js b+aJ l
def js:Br Tm->Nat
 | .mk _ ks=>aD ks
end
mutual
def ap:Tm->Nat
 | .mk _ _ _ _ ks sys=>max (bj ks) (bB sys)+1
def bj:LT->Nat
 |[]=>0
 |t::l=>max (ap t) (bj l)
def bB:LB->Nat
 |[]=>0
 |b::l=>max (lx b) (bB l)
def lx:Br Tm->Nat
 | .mk _ ks=>bj ks
end
theorem qS (b:Br Tm):js b=aD b.kids:=by cases b;rw [js]
theorem zO (b:Br Tm):lx b=bj b.kids:=by cases b;rw [lx]
theorem pb (t:Tm):1<=aG t:=by cases t;rw [aG];omega
theorem qT: ∀ {l:LT} {x:Tm},x∈l->aG x<=aD l:=by
 intro l
 induction l<;>grind [aD]
theorem BS: ∀ {l:LB} {b:Br Tm},b∈l->aD b.kids<=aJ l:=by
 intro l
 induction l<;>grind [aJ,qS]
theorem DV: ∀ {l:LT} {x:Tm},x∈l->ap x<=bj l:=by
 intro l
 induction l<;>grind [bj]
theorem IR: ∀ {l:LB} {b:Br Tm},b∈l->bj b.kids<=bB l:=by
 intro l
 induction l<;>grind [bB,zO]
theorem ik {Q:Tm->Prop} (h: ∀kd n nm r ks sys,(∀x∈ks,Q x)->(∀b∈sys,∀x∈b.kids,Q x)->Q (.mk kd n nm r ks sys)) (t:Tm):Q t:=by
 have: ∀m t,aG t<=m->Q t:=by
  intro m
  induction m with
  |zero=>grind [pb]
  |succ m ih=>
   intro t ht
   cases t with
   |mk kd n nm r ks sys=>
    rw [aG] at ht
    refine h _ _ _ _ _ _ (fun x hx=>ih x ?_) fun b hb x hx=>ih x ?_
    ·have:=qT hx;omega
    ·have:=BS hb;have:=qT hx;omega
 exact this _ t (ee _)
def kidsT:List Int:=[-1,0,0,0,2,1,2,2,2,1,1,3,1,3,2,2,1,1,1,0,0,0,4,1,0,0,1,5,2]
def jJ (kd:Int):Int:=if kd<0\/kd>28 then-1 else kidsT.getD kd.toNat 0
def cY (kd i:Int):Int:=if (i=1/\(kd=4\/kd=7))\/(i=0/\(kd=5\/kd=22\/kd=27)) then 1 else 0
def bJ (kd i:Int):Int:=if i=0/\(kd=11\/kd=12\/kd=14) then 1 else 0
def fJ (kd:Int):Int:=if kd=16 then 2 else if kd=15\/kd=17\/kd=18 then 1 else 0
def aN (kd:Int):Int:=if kd=15 then 1 else 0
theorem yz (kd i:Int):0<=cY kd i/\cY kd i<=1:=by grind [cY]
theorem jA (kd i:Int):0<=bJ kd i/\bJ kd i<=1:=by grind [bJ]
theorem jM (kd:Int):0<=aN kd/\aN kd<=1:=by grind [aN]
def qu (c:UInt8):Bool:=(decide (97<=c.toNat)&&decide (c.toNat<=122))||(decide (65<=c.toNat)&&decide (c.toNat<=90))||decide (c.toNat=95)
def vm (c:UInt8):Bool:=decide (48<=c.toNat)&&decide (c.toNat<=57)
def wi:List UInt8->Bool
 |[]=>false
 |c::l=>qu c&&l.all fun d=>qu d||vm d
def aR (kd dims:Int) (b:Br Tm):Bool:=decide ((b.kids.length:Int)=fJ kd)&&(cm b.face&&bM b.face dims)
def dS (vars dims:Int):Tm->Bool
 | .mk kd n nm r ks sys=>
  (decide (jJ kd=ks.length)&&(decide (kd=1\/n=0)&&(decide (kd=2\/nm.size=0)&&decide (fJ kd=0->sys.length=0))))&&
  (if kd=1 then decide (r.length=0)&&(decide (0<=n)&&decide (vars<0\/n<vars))
   else if kd=2 then decide (r.length=0)&&wi nm.data.toList
   else if kd=13\/kd=21\/kd=26 then dT r&&bM r dims
   else if kd=14 then cm r&&bM r dims
   else sys.all (aR kd dims)&&decide (r.length=0))
def cL (vars v:Int):Int:=if vars<0 then vars else vars+v
mutual
def aE (bd:Bool) (vars dims:Int):Tm->Bool
 | .mk kd n nm r ks sys=> !(bd&&decide (dims>24))&&(dS vars dims (.mk kd n nm r ks sys)&&(bK bd vars dims kd 0 ks&&aL bd vars dims kd sys))
def bK (bd:Bool) (vars dims kd:Int) (i:Nat):LT->Bool
 |[]=>true
 |t::l=>aE bd (cL vars (cY kd i)) (dims+bJ kd i) t&&bK bd vars dims kd (i+1) l
def aL (bd:Bool) (vars dims kd:Int):LB->Bool
 |[]=>true
 |b::l=>g8 bd vars dims kd b&&aL bd vars dims kd l
def g8 (bd:Bool) (vars dims kd:Int):Br Tm->Bool
 | .mk _ ks=>dn bd vars dims kd ks
def dn (bd:Bool) (vars dims kd:Int):LT->Bool
 |[]=>true
 |t::l=>aE bd vars (dims+aN kd) t&&dn bd vars dims kd l
end
def dl (t:Tm):Int:=if ap t>200 then 62 else if aG t>20000 then 221 else if aE false (-1) 24 t then 0 else 100
mutual
def OkT:Tm->Prop
 | .mk kd n nm r ks sys=>(aI kd/\aI n/\nm.size<1073741824/\av r/\r.length<1073741824/\ks.length<1073741824/\sys.length<1073741824)/\aK ks/\bk sys
def aK:LT->Prop
 |[]=>True
 |t::l=>OkT t/\aK l
def bk:LB->Prop
 |[]=>True
 |b::l=>g7 b/\bk l
def g7:Br Tm->Prop
 | .mk f ks=>(av f/\f.length<1073741824/\ks.length<1073741824)/\aK ks
end
theorem okK_iff: ∀ {l:LT},aK l↔ ∀t∈l,OkT t:=by
 intro l
 induction l<;>grind [aK]
theorem qB {b:Br Tm}:g7 b↔(av b.face/\b.face.length<1073741824/\b.kids.length<1073741824)/\ ∀t∈b.kids,OkT t:=by
 cases b;rw [g7,okK_iff]
theorem L8: ∀ {l:LB},bk l↔ ∀b∈l,(av b.face/\b.face.length<1073741824/\b.kids.length<1073741824)/\ ∀t∈b.kids,OkT t:=by
 intro l
 induction l<;>grind [bk,qB]
theorem OkT.node {kd n nm r ks sys} (h:OkT (.mk kd n nm r ks sys)):aI kd/\aI n/\nm.size<1073741824/\av r/\r.length<1073741824/\ks.length<1073741824/\sys.length<1073741824:=by grind [OkT]
theorem OkT.kid {kd n nm r ks sys x} (h:OkT (.mk kd n nm r ks sys)) (hx:x∈ks):OkT x:=by grind [OkT,okK_iff]
theorem OkT.br {kd n nm r ks sys b} (h:OkT (.mk kd n nm r ks sys)) (hb:b∈sys):(av b.face/\b.face.length<1073741824/\b.kids.length<1073741824)/\ ∀t∈b.kids,OkT t:=by grind [OkT,L8]
theorem Ut {bd:Bool} {vars dims kd:Int}: ∀ {l:LT},dn bd vars dims kd l=l.all (aE bd vars (dims+aN kd)):=by
 intro l
 induction l<;>grind [dn]
theorem lk {bd:Bool} {vars dims kd:Int}: ∀ {l:LB},aL bd vars dims kd l=l.all fun b=>b.kids.all (aE bd vars (dims+aN kd)):=by
 intro l
 induction l with
 |nil=>rfl
 |cons b l ih=>cases b;simp_all [aL,g8,Ut]
set_option maxRecDepth 100000
section
variable {H:Type} {enc:TypeId×Value->H} {w:World} {base:Nat} {spare:Nat->Bool} {held:Bool} {o:Obj} {N:aQ} {g:Gh UU}
noncomputable abbrev mL (enc:TypeId×Value->H) (w:World) (base:Nat) (spare:Nat->Bool) (held:Bool):=DataW.trod enc Tryz.prog w base spare held
def qZ (o:Obj) (w:World) (N:aQ) (g:Gh UU) (e:ET) (x:EL e) (cs:List Value):Prop:= ∀ (k:Nat) (p:PU),(gE e x)[k]? =some p-> ∃v,cs[k]? =some v/\Rep (LL o) w N g v p
theorem Di {l:List (DataW H)}:l.length<=Rows.uptoBulkAll l:=by
 induction l with
 |nil=>simp [Rows.uptoBulkAll]
 |cons x r ih=>
  have:1<=Rows.uptoBulk x:=by
   cases x with
   |lit l=>cases l<;>simp [Rows.uptoBulk]
   |_=>simp [Rows.uptoBulk]
  simp only [Rows.uptoBulkAll,er];omega
theorem build {α β:Type} {R:Nat->β->α->Prop}: ∀ (elems:List β) (s:Nat),(∀i d,elems[i]? =some d-> ∃x,R (s+i) d x)-> ∃l:List α,l.length=elems.length/\ ∀i d,elems[i]? =some d-> ∃x,l[i]? =some x/\R (s+i) d x:=by
 intro elems
 induction elems with
 |nil=>intro s h;exact ⟨[],rfl,fun i d h=>by simp at h⟩
 |cons d r ih=>
  intro s h
  obtain ⟨x,hx⟩:=h 0 d rfl
  obtain ⟨l,hl,hr⟩:=ih (s+1) fun i d' hd=>by
   obtain ⟨x,hx⟩:=h (i+1) d' (by simpa using hd)
   exact ⟨x,by rw [show s+1+i=s+(i+1) by omega];exact hx⟩
  refine ⟨x::l,by simp [hl],fun i d' hd=> ?_⟩
  cases i with
  |zero=>injection hd with hd;subst hd;exact ⟨x,rfl,hx⟩
  |succ i=>
   obtain ⟨y,hy,hr⟩:=hr i d' (by simpa using hd)
   exact ⟨y,by simpa using hy,by rw [show s+(i+1)=s+1+i by omega];exact hr⟩
theorem Fw (hN: ∀b o,¬N b o) {e:ET} {tS tE:TypeId} (ht:Tryz.prog.underlying tS=some (.slice tE)) (hc:Tryz.prog.cellsOf tE=rW e) {Q:EL e->DataW H->Prop} {n:Nat} {cs:List Value} {d:DataW H} {pl:List MemPlace}
  (hel: ∀ (cs:List Value) (d:DataW H) (pl:List MemPlace),mL enc w base spare held n tE cs=some (d,pl)-> ∃x:EL e,qZ o w N g e x cs/\Q x d) (h:mL enc w base spare held (n+1) tS cs=some (d,pl)):
  ∃ (v:Value) (l:List (EL e)) (ds:List (DataW H)),cs=[v]/\Rep (LL o) w N g v (.sl (U:=UU) e l .none)/\l.length=ds.length/\(∀ (i:Nat) (x:EL e) (y:DataW H),l[i]? =some x->ds[i]? =some y->Q x y)/\Rows.uptoBulkAll ds+1<=Rows.uptoBulk d:=by
 rcases DataW.trod_slice ht h with ⟨rfl,hx⟩|⟨a,len,cap,elems,rest,m,hm,rfl,hx,hb,hl,hcp,hlen,hee,_,_⟩
 ·injection hx with hx _
  subst hx
  exact ⟨_,[],[],rfl,Rep.sl (X:=LL o) (N:=N) (g:=g) none 0 0 e (show List (EL e) from []) .none (fun _ _=>undef) rfl (ee _) trivial (fun j x hx=>by cases hx) (fun j x hx=>by cases hx),rfl,fun i x y h=>by simp at h,by simp [Rows.uptoBulkAll,Rows.uptoBulk]⟩
 ·obtain rfl:n=m:=by omega
  injection hx with hx _
  subst hx
  obtain ⟨l,hll,hlr⟩:=build (R:=fun i (y:DataW H×List MemPlace) (x:EL e)=> ∃cs',w.cells? base (a.add (i*Tryz.prog.cellsOf tE)) (Tryz.prog.cellsOf tE)=some cs'/\qZ o w N g e x cs'/\Q x y.1) elems 0 fun i y hy=>by
   have hi:i<len:=by rw [<-hlen];exact (gR.1 hy).1
   have:=hee i hi
   rw [hy] at this
   obtain ⟨cs',h1,h2⟩:=Option.bind_eq_some_iff.1 this
   obtain ⟨x,hx1,hx2⟩:=hel cs' y.1 y.2 h2
   exact ⟨x,cs',by simpa using h1,hx1,hx2⟩
  have hget: ∀ (j:Nat) (x:EL e),l[j]? =some x-> ∃ (y:DataW H×List MemPlace) (cs':List Value),elems[j]? =some y/\w.cells? base (a.add (j*Tryz.prog.cellsOf tE)) (Tryz.prog.cellsOf tE)=some cs'/\qZ o w N g e x cs'/\Q x y.1:=fun j x hx=>by
   have hj:j<elems.length:=by rw [<-hll];exact (gR.1 hx).1
   obtain ⟨x',hx',cs',h1,h2,h3⟩:=hlr j _ (fc hj)
   rw [hx] at hx'
   injection hx' with hx'
   subst hx'
   exact ⟨_,cs',fc hj,by simpa using h1,h2,h3⟩
  have hcell: ∀ (j:Nat) (x:EL e),l[j]? =some x-> ∀ (k:Nat) (p:PU),(gE e x)[k]? =some p-> ∃v,w.cell? (a.add (j*(LL o).esize e+k))=some v/\Rep (LL o) w N g v p:=fun j x hx k p hp=>by
   obtain ⟨y,cs',_,h1,h2,_⟩:=hget j x hx
   obtain ⟨v,hv,hr⟩:=h2 k p hp
   obtain ⟨_,hl',hcs⟩:=World.cells?_some h1
   have hk:k<Tryz.prog.cellsOf tE:=by rw [<-hl'];exact (gR.1 hv).1
   have:=hcs k hk
   rw [hv,Go.Deep.add_add,hc] at this
   exact ⟨v,this,hr⟩
  refine ⟨_,l,elems.map (·.1),rfl,Rep.sl (X:=LL o) (some a) len cap e l .none (fun j k=>(w.cell? (a.add (j*(LL o).esize e+k))).getD undef) (by rw [<-hlen];exact hll) hl trivial (fun j x hx k p hp=> ?_) (fun j x hx k p hp=> ?_),by simpa using hll,fun i x y hx hy=> ?_,by simp [Rows.uptoBulk]⟩
  ·obtain ⟨v,hv,_⟩:=hcell j x hx k p hp
   exact ⟨a,rfl,by simp [hv],hN _ _⟩
  ·obtain ⟨v,hv,hr⟩:=hcell j x hx k p hp
   simp only [hv];exact hr
  ·obtain ⟨y',cs',h1,_,_,h3⟩:=hget i x hx
   have:y=y'.1:=by
    rw [List.getElem?_map,h1] at hy
    injection hy with hy;exact hy.symm
   subst this
   exact h3
theorem Fv {n:Nat} {cs:List Value} {d:DataW H} {pl:List MemPlace} (h:mL enc w base spare held n 3 cs=some (d,pl)): ∃z,cs=[.int .i64 z]/\aI z:=by
 obtain ⟨z,rfl,_,hw⟩:=DataW.trod_int Tryz.underlying3 h
 refine ⟨z,rfl, ?_⟩
 simp [Lit.wf,IntKind.has] at hw
 have h1:IntKind.i64.min= -9223372036854775808:=rfl
 have h2:IntKind.i64.max=9223372036854775807:=rfl
 unfold aI
 omega
theorem Md {n:Nat} {cs:List Value} {d:DataW H} {pl:List MemPlace} (h:mL enc w base spare held n 51 cs=some (d,pl)): ∃z,cs=[.int .u32 z]/\U32 z:=by
 obtain ⟨z,rfl,_,hw⟩:=DataW.trod_int Tryz.underlying51 h
 refine ⟨z,rfl, ?_⟩
 simp [Lit.wf,IntKind.has] at hw
 have h1:IntKind.u32.min=0:=rfl
 have h2:IntKind.u32.max=4294967295:=rfl
 unfold U32
 omega
def QC (c:Cl) (d:DataW H):Prop:=cH c
def QT (t:Tm) (d:DataW H):Prop:=aG t<=Rows.uptoBulk d/\(Rows.uptoBulk d<1073741824->OkT t)
def QB (b:Br Tm) (d:DataW H):Prop:=js b<=Rows.uptoBulk d/\(Rows.uptoBulk d<1073741824->(av b.face/\b.face.length<1073741824/\b.kids.length<1073741824)/\ ∀t∈b.kids,OkT t)
theorem acw {n:Nat} {cs:List Value} {d:DataW H} {pl:List MemPlace} (h:mL enc w base spare held n 53 cs=some (d,pl)): ∃x:EL ET.C,qZ o w N g ET.C x cs/\QC (show Cl from x) d:=by
 obtain ⟨xs,m,rfl,_,hl,hlen,hf⟩:=DataW.trod_struct Tryz.underlying53 h
 have hl2:cs.length=2:=hl.trans (by kernel_rfl)
 match cs,hl2,xs,hlen with
 |[a,b],_,[y0,y1],_=>
 have h0:=hf 0 _ rfl
 have h1:=hf 1 _ rfl
 have c51:Tryz.prog.cellsOf 51=1:=by kernel_rfl
 simp [c51] at h0 h1
 obtain ⟨z0,e0,k0⟩:=Md h0
 obtain ⟨z1,e1,k1⟩:=Md h1
 obtain rfl:a= .int .u32 z0:=by simpa using e0
 obtain rfl:b= .int .u32 z1:=by simpa using e1
 refine ⟨(⟨z0,z1⟩:Cl),fun k p hp=> ?_,⟨k0,k1⟩⟩
 match k,hp with
 |0,hp=>cases hp;exact ⟨_,rfl,.int _ _⟩
 |1,hp=>cases hp;exact ⟨_,rfl,.int _ _⟩
 |k+2,hp=>simp [gE] at hp
theorem af7 {l:List Tm} {ds:List (DataW H)} (hl:l.length=ds.length) (h: ∀ (i:Nat) (x:Tm) (y:DataW H),l[i]? =some x->ds[i]? =some y->QT x y):aD l<=Rows.uptoBulkAll ds/\(Rows.uptoBulkAll ds<1073741824-> ∀t∈l,OkT t):=by
 induction l generalizing ds with
 |nil=>rw [aD];exact ⟨Nat.zero_le _,fun _ t ht=>by cases ht⟩
 |cons t l ih=>
  cases ds with
  |nil=>cases hl
  |cons d ds=>
   obtain ⟨h1,h2⟩:=h 0 t d rfl rfl
   obtain ⟨i1,i2⟩:=ih (ds:=ds) (by simpa using hl) fun i x y hx hy=>h (i+1) x y (by simpa using hx) (by simpa using hy)
   rw [aD,Rows.uptoBulkAll]
   refine ⟨by omega,fun hb u hu=> ?_⟩
   rcases eh.1 hu with rfl|hu
   ·exact h2 (by omega)
   ·exact i2 (by omega) u hu
theorem af8 {l:List (Br Tm)} {ds:List (DataW H)} (hl:l.length=ds.length) (h: ∀ (i:Nat) (x:Br Tm) (y:DataW H),l[i]? =some x->ds[i]? =some y->QB x y):aJ l<=Rows.uptoBulkAll ds/\(Rows.uptoBulkAll ds<1073741824->bk l):=by
 induction l generalizing ds with
 |nil=>rw [aJ,bk];exact ⟨Nat.zero_le _,fun _=>trivial⟩
 |cons t l ih=>
  cases ds with
  |nil=>cases hl
  |cons d ds=>
   obtain ⟨h1,h2⟩:=h 0 t d rfl rfl
   obtain ⟨i1,i2⟩:=ih (ds:=ds) (by simpa using hl) fun i x y hx hy=>h (i+1) x y (by simpa using hx) (by simpa using hy)
   rw [aJ,Rows.uptoBulkAll,bk,qB]
   exact ⟨by omega,fun hb=>⟨h2 (by omega),i2 (by omega)⟩⟩
theorem Mc (hN: ∀b o,¬N b o) {n:Nat} {cs:List Value} {d:DataW H} {pl:List MemPlace} (h:mL enc w base spare held n 22 cs=some (d,pl)):
  ∃ (v:Value) (l:List Cl),cs=[v]/\Rep (LL o) w N g v (dW l .none)/\av l/\l.length+1<=Rows.uptoBulk d:=by
 cases n with
 |zero=>cases h
 |succ n=>
  obtain ⟨v,l,ds,rfl,hr,hl,hq,hb⟩:=Fw (e:=ET.C) (Q:=fun x d=>QC (show Cl from x) d) hN Tryz.underlying22 (by kernel_rfl) (fun cs d pl h=>acw h) h
  refine ⟨v,l,rfl,hr,fun c hc=> ?_, ?_⟩
  ·obtain ⟨i,hi⟩:=List.getElem?_of_mem hc
   have hlt:i<ds.length:=by rw [<-hl];exact (gR.1 hi).1
   exact hq i c _ hi (fc hlt)
  ·have:=Di (l:=ds)
   have hl': @List.length Cl l=ds.length:=hl
   omega
theorem acv (hN: ∀b o,¬N b o): ∀ (n:Nat),
  (∀ (cs:List Value) (d:DataW H) (pl:List MemPlace),mL enc w base spare held n 26 cs=some (d,pl)-> ∃x:EL ET.T,qZ o w N g ET.T x cs/\QT (show Tm from x) d)/\
  (∀ (cs:List Value) (d:DataW H) (pl:List MemPlace),mL enc w base spare held n 48 cs=some (d,pl)-> ∃x:EL ET.B,qZ o w N g ET.B x cs/\QB (show Br Tm from x) d)/\
  (∀ (cs:List Value) (d:DataW H) (pl:List MemPlace),mL enc w base spare held n 23 cs=some (d,pl)-> ∃ (v:Value) (l:List Tm),cs=[v]/\Rep (LL o) w N g v (iD l .none)/\aD l+1<=Rows.uptoBulk d/\l.length+1<=Rows.uptoBulk d/\(Rows.uptoBulk d<1073741824-> ∀t∈l,OkT t))/\
  (∀ (cs:List Value) (d:DataW H) (pl:List MemPlace),mL enc w base spare held n 24 cs=some (d,pl)-> ∃ (v:Value) (l:List (Br Tm)),cs=[v]/\Rep (LL o) w N g v (eR l .none)/\aJ l+1<=Rows.uptoBulk d/\l.length+1<=Rows.uptoBulk d/\(Rows.uptoBulk d<1073741824->bk l)):=by
 intro n
 induction n with
 |zero=>exact ⟨fun cs d pl h=>(by cases h),fun cs d pl h=>(by cases h),fun cs d pl h=>(by cases h),fun cs d pl h=>(by cases h)⟩
 |succ n ih=>
 obtain ⟨iT,iB,iK,iS⟩:=ih
 have c3:Tryz.prog.cellsOf 3=1:=by kernel_rfl
 have c9:Tryz.prog.cellsOf 9=1:=by kernel_rfl
 have c22:Tryz.prog.cellsOf 22=1:=by kernel_rfl
 have c23:Tryz.prog.cellsOf 23=1:=by kernel_rfl
 have c24:Tryz.prog.cellsOf 24=1:=by kernel_rfl
 refine ⟨fun cs d pl h=> ?_,fun cs d pl h=> ?_,fun cs d pl h=> ?_,fun cs d pl h=> ?_⟩
 ·obtain ⟨xs,m,hm,hx,hl,hlen,hf⟩:=DataW.trod_struct Tryz.underlying26 h
  obtain rfl:n=m:=by omega
  injection hx with hx _
  subst hx
  have hl6:cs.length=6:=hl.trans (by kernel_rfl)
  match cs,hl6,xs,hlen with
  |[a0,a1,a2,a3,a4,a5],_,[y0,y1,y2,y3,y4,y5],_=>
  have h0:=hf 0 _ rfl
  have h1:=hf 1 _ rfl
  have h2:=hf 2 _ rfl
  have h3:=hf 3 _ rfl
  have h4:=hf 4 _ rfl
  have h5:=hf 5 _ rfl
  simp [c3,c9,c22,c23,c24] at h0 h1 h2 h3 h4 h5
  obtain ⟨z0,e0,k0⟩:=Fv h0
  obtain ⟨z1,e1,k1⟩:=Fv h1
  obtain ⟨s,e2,k2,_⟩:=DataW.trod_string Tryz.underlying9 h2
  obtain ⟨v3,l3,e3,r3,k3,m3⟩:=Mc (o:=o) (g:=g) hN h3
  obtain ⟨v4,l4,e4,r4,k4,m4,q4⟩:=iK _ _ _ h4
  obtain ⟨v5,l5,e5,r5,k5,m5,q5⟩:=iS _ _ _ h5
  obtain rfl:a0= .int .i64 z0:=by simpa using e0
  obtain rfl:a1= .int .i64 z1:=by simpa using e1
  obtain rfl:a2= .string s:=by simpa using e2
  obtain rfl:a3=v3:=by simpa using e3
  obtain rfl:a4=v4:=by simpa using e4
  obtain rfl:a5=v5:=by simpa using e5
  have hs:s.size<Rows.uptoBulk y2.1:=by
   rw [k2]
   simp [Rows.uptoBulk]
  refine ⟨Tm.mk z0 z1 s l3 l4 l5,fun k p hp=> ?_, ?_,fun hb=> ?_⟩
  ·match k,hp with
   |0,hp=>cases hp;exact ⟨_,rfl,.int _ _⟩
   |1,hp=>cases hp;exact ⟨_,rfl,.int _ _⟩
   |2,hp=>cases hp;exact ⟨_,rfl,.str _⟩
   |3,hp=>cases hp;exact ⟨_,rfl,r3⟩
   |4,hp=>cases hp;exact ⟨_,rfl,r4⟩
   |5,hp=>cases hp;exact ⟨_,rfl,r5⟩
   |k+6,hp=>simp [gE] at hp
  ·show aG _<=_
   rw [aG]
   simp only [iG,List.map_nil,Rows.uptoBulk,Rows.uptoBulkAll]
   omega
  ·simp only [iG,List.map_nil,Rows.uptoBulk,Rows.uptoBulkAll] at hb
   show OkT _
   rw [OkT,okK_iff]
   exact ⟨⟨k0,k1,by omega,k3,by omega,by omega,by omega⟩,q4 (by omega),q5 (by omega)⟩
 ·obtain ⟨xs,m,hm,hx,hl,hlen,hf⟩:=DataW.trod_struct Tryz.underlying48 h
  obtain rfl:n=m:=by omega
  injection hx with hx _
  subst hx
  have hl2:cs.length=2:=hl.trans (by kernel_rfl)
  match cs,hl2,xs,hlen with
  |[a0,a1],_,[y0,y1],_=>
  have h0:=hf 0 _ rfl
  have h1:=hf 1 _ rfl
  simp [c22,c23] at h0 h1
  obtain ⟨v3,l3,e3,r3,k3,m3⟩:=Mc (o:=o) (g:=g) hN h0
  obtain ⟨v4,l4,e4,r4,k4,m4,q4⟩:=iK _ _ _ h1
  obtain rfl:a0=v3:=by simpa using e3
  obtain rfl:a1=v4:=by simpa using e4
  refine ⟨Br.mk l3 l4,fun k p hp=> ?_, ?_,fun hb=> ?_⟩
  ·match k,hp with
   |0,hp=>cases hp;exact ⟨_,rfl,r3⟩
   |1,hp=>cases hp;exact ⟨_,rfl,r4⟩
   |k+2,hp=>simp [gE] at hp
  ·show js _<=_
   rw [js]
   simp only [iG,List.map_nil,Rows.uptoBulk,Rows.uptoBulkAll]
   omega
  ·simp only [iG,List.map_nil,Rows.uptoBulk,Rows.uptoBulkAll] at hb
   exact ⟨⟨k3,by show l3.length<_;omega,by show l4.length<_;omega⟩,q4 (by omega)⟩
 ·obtain ⟨v,l,ds,rfl,hr,hl,hq,hb⟩:=Fw (e:=ET.T) (Q:=fun x d=>QT (show Tm from x) d) hN Tryz.underlying23 (by kernel_rfl) iT h
  obtain ⟨s1,s2⟩:=af7 (l:=l) hl hq
  have:=Di (l:=ds)
  have hl': @List.length Tm l=ds.length:=hl
  exact ⟨v,l,rfl,hr,by omega,by omega,fun hd=>s2 (by omega)⟩
 ·obtain ⟨v,l,ds,rfl,hr,hl,hq,hb⟩:=Fw (e:=ET.B) (Q:=fun x d=>QB (show Br Tm from x) d) hN Tryz.underlying24 (by kernel_rfl) iB h
  obtain ⟨s1,s2⟩:=af8 (l:=l) hl hq
  have:=Di (l:=ds)
  have hl': @List.length (Br Tm) l=ds.length:=hl
  exact ⟨v,l,rfl,hr,by omega,by omega,fun hd=>s2 (by omega)⟩
end
end Go.Proofs.YtgajalidbabccaaGreatDoor
namespace Go.Proofs
open Go.Shelf
def Tryz.sortCl_ren:Go.Shelf.Ren:=⟨fun|6=>230|15=>280|14=>279|28=>311|29=>312|20=>303|21=>304|22=>305|23=>306|24=>307|25=>308|26=>309|27=>310|46=>328|47=>329|48=>330|49=>331|50=>332|57=>338|n=>n,fun|22=>22|24=>53|25=>177|3=>3|39=>178|0=>0|53=>51|55=>197|4=>4|46=>213|45=>212|50=>217|5=>5|9=>9|66=>221|70=>225|76=>231|77=>63|n=>n,fun|n=>n⟩
theorem Tryz.sortCl:Go.Proofs.SlLaysF0.n6 Tryz.prog Tryz.sortCl_ren:={
 mixed:=by kernel_rfl
 f6:=⟨Tryz.f230.name,by decide,Tryz.func230.trans (congrArg some (by kernel_rfl))⟩
 f14:=⟨Tryz.f279.name,by decide,Tryz.func279.trans (congrArg some (by kernel_rfl))⟩
 f15:=Tryz.func280.trans (congrArg some (by kernel_rfl))
 f20:=⟨Tryz.f303.name,by decide,Tryz.func303.trans (congrArg some (by kernel_rfl))⟩
 f21:=⟨Tryz.f304.name,by decide,Tryz.func304.trans (congrArg some (by kernel_rfl))⟩
 f22:=⟨Tryz.f305.name,by decide,Tryz.func305.trans (congrArg some (by kernel_rfl))⟩
 f23:=⟨Tryz.f306.name,by decide,Tryz.func306.trans (congrArg some (by kernel_rfl))⟩
 f24:=⟨Tryz.f307.name,by decide,Tryz.func307.trans (congrArg some (by kernel_rfl))⟩
 f25:=⟨Tryz.f308.name,by decide,Tryz.func308.trans (congrArg some (by kernel_rfl))⟩
 f26:=⟨Tryz.f309.name,by decide,Tryz.func309.trans (congrArg some (by kernel_rfl))⟩
 f27:=⟨Tryz.f310.name,by decide,Tryz.func310.trans (congrArg some (by kernel_rfl))⟩
 f28:=Tryz.func311.trans (congrArg some (by kernel_rfl))
 f29:=Tryz.func312.trans (congrArg some (by kernel_rfl))
 f46:=⟨Tryz.f328.name,by decide,Tryz.func328.trans (congrArg some (by kernel_rfl))⟩
 f47:=Tryz.func329.trans (congrArg some (by kernel_rfl))
 f48:=Tryz.func330.trans (congrArg some (by kernel_rfl))
 f49:=⟨Tryz.f331.name,by decide,Tryz.func331.trans (congrArg some (by kernel_rfl))⟩
 f50:=⟨Tryz.f332.name,by decide,Tryz.func332.trans (congrArg some (by kernel_rfl))⟩
 f57:=⟨Tryz.f338.name,by decide,Tryz.func338.trans (congrArg some (by kernel_rfl))⟩
 t0:=Tryz.underlying0
 a0:=Tryz.isAgg0
 z0:=Tryz.sizeOf0
 v0:=Tryz.zeroValue0
 t3:=Tryz.underlying3
 a3:=Tryz.isAgg3
 z3:=Tryz.sizeOf3
 v3:=Tryz.zeroValue3
 t4:=Tryz.underlying4
 a4:=Tryz.isAgg4
 z4:=Tryz.sizeOf4
 v4:=Tryz.zeroValue4
 t5:=Tryz.underlying5
 a5:=Tryz.isAgg5
 z5:=Tryz.sizeOf5
 v5:=Tryz.zeroValue5
 t9:=Tryz.underlying9
 a9:=Tryz.isAgg9
 z9:=Tryz.sizeOf9
 v9:=Tryz.zeroValue9
 t22:=Tryz.underlying22
 a22:=Tryz.isAgg22
 z22:=Tryz.sizeOf22
 v22:=Tryz.zeroValue22
 t25:=Tryz.underlying177
 a25:=Tryz.isAgg177
 z25:=Tryz.sizeOf177
 v25:=Tryz.zeroValue177
 t39:=Tryz.underlying178
 a39:=Tryz.isAgg178
 z39:=Tryz.sizeOf178
 v39:=Tryz.zeroValue178
 t45:=Tryz.underlying212
 a45:=Tryz.isAgg212
 z45:=Tryz.sizeOf212
 v45:=Tryz.zeroValue212
 t46:=Tryz.underlying213
 a46:=Tryz.isAgg213
 z46:=Tryz.sizeOf213
 v46:=Tryz.zeroValue213
 t50:=Tryz.underlying217
 a50:=Tryz.isAgg217
 z50:=Tryz.sizeOf217
 v50:=Tryz.zeroValue217
 t53:=Tryz.underlying51
 a53:=Tryz.isAgg51
 z53:=Tryz.sizeOf51
 v53:=Tryz.zeroValue51
 t55:=Tryz.underlying197
 a55:=Tryz.isAgg197
 z55:=Tryz.sizeOf197
 v55:=Tryz.zeroValue197
 t66:=Tryz.underlying221
 a66:=Tryz.isAgg221
 z66:=Tryz.sizeOf221
 v66:=Tryz.zeroValue221
 t70:=Tryz.underlying225
 a70:=Tryz.isAgg225
 z70:=Tryz.sizeOf225
 v70:=Tryz.zeroValue225
 t76:=Tryz.underlying231
 a76:=Tryz.isAgg231
 z76:=Tryz.sizeOf231
 v76:=Tryz.zeroValue231
 t77:=Tryz.underlying63
 a77:=Tryz.isAgg63
 z77:=Tryz.sizeOf63
 v77:=Tryz.zeroValue63}
end Go.Proofs
namespace Go.Proofs.YtgajalidbabccaaGreatDoor
open Go PI
set_option maxRecDepth 100000
noncomputable section
def XZ:Nat:=314
def X0:Nat:=91
noncomputable def Gq {S:Type}:List PU->List (Box UU)->(Out UU->Option S)->Option S
 |[.sl .C y0 .none],[],κ=>tv y0 fun r=>κ (.ret (dW r .none) [])
 |_,_,_=> .none
noncomputable def Gp {S:Type}:List PU->List (Box UU)->(Out UU->Option S)->Option S
 |[.int .u32 y0],[],κ=>wt y0 fun r=>κ (.ret (qU r .none) [])
 |_,_,_=> .none
end
end Go.Proofs.YtgajalidbabccaaGreatDoor
namespace Go.Proofs
open Go.Shelf Go.RowKit
set_option maxHeartbeats 1000000 in
theorem Tryz.tz32_core (x k idx:Nat) (w:World) (hx0:((x:Int)==0)=false)
  (key:bits BinOp.and IntKind.u32 (x:Int) (-(x:Int)%4294967296)*125613361%4294967296/134217728=(idx:Int))
  (hi:idx<32) (hk:k<32) (hcell:w.cell? ⟨0,idx,none⟩=some (.int .u8 k)):
  Calls Tryz.prog 340 #[.int .u32 x] w fun e w'=>e= .returned (.int .i64 k)/\w'=w:=by
 go_enter Tryz.func340,Tryz.ntmps340
 go_wp2_with (simp only [key])
 go_ret
 exact ⟨rfl,rfl⟩
theorem Tryz.tz32 (x:Nat) (hx:x<4294967296) (h0:x≠0) (w:World) (hT:TabAt 0 Lib.deBruijn32tab w):
  Calls Tryz.prog 340 #[.int .u32 x] w fun e w'=>e= .returned (.int .i64 (Lib.ctz 32 x))/\w'=w:=by
 obtain ⟨hlow,hk⟩:=Lib.lowest_bit 32 x h0 hx
 obtain ⟨hi,htab⟩:=Lib.deBruijn32_at _ hk
 have hcell:=hT _ hi
 rw [htab] at hcell
 exact Tryz.tz32_core x _ _ w (by simp;omega) (tz32_key x _ hx h0 hlow) hi hk hcell
end Go.Proofs
namespace Go.Proofs.YtgajalidbabccaaGreatDoor
open Go Go.Shelf Go.RowKit
attribute [local go_sem] Oper.semAt_some
def iZ (s:Nat):List Nat:=(fz 24).filter s.testBit
theorem agy (s:Nat) (h0:s≠0) (h:s<16777216):iZ s=Lib.ctz 32 s::iZ (s&&&(s-1))/\s&&&(s-1)<s:=by
 obtain ⟨m,hm,hk⟩:=Lib.ctzFrom_spec 32 s (by omega) (by omega)
 have e:Lib.ctz 32 s=Lib.ctzFrom 32 s:=by simp [Lib.ctz,h0]
 rw [e]
 generalize Lib.ctzFrom 32 s=t at hm hk
 have hs:s=2^(t+1)*m+2^t:=by
  rw [hm,Nat.mul_add,Nat.mul_one,Nat.pow_succ,<-Nat.mul_assoc]
 have hp:0<2^t:=Nat.two_pow_pos t
 have hp2:2^(t+1)=2^t*2:=Nat.pow_succ 2 t
 have hs1:s-1=2^(t+1)*m+(2^t-1):=by omega
 have b1: ∀j,s.testBit j=if j<t+1 then decide (t=j) else m.testBit (j-(t+1)):=fun j=>by
  rw [hs,Nat.testBit_two_pow_mul_add _ (by omega),Nat.testBit_two_pow]
 have b2: ∀j,(s-1).testBit j=if j<t+1 then decide (j<t) else m.testBit (j-(t+1)):=fun j=>by
  rw [hs1,Nat.testBit_two_pow_mul_add _ (by omega),Nat.testBit_two_pow_sub_one]
 have b3: ∀j,(s&&&(s-1)).testBit j=if j<t+1 then false else m.testBit (j-(t+1)):=fun j=>by
  rw [Nat.testBit_and,b1,b2]
  by_cases hj:j<t+1
  ·rw [if_pos hj,if_pos hj,if_pos hj]
   by_cases ht:t=j
   ·rw [decide_eq_true ht,decide_eq_false (by omega)];rfl
   ·rw [decide_eq_false ht];rfl
  ·rw [if_neg hj,if_neg hj,if_neg hj,Bool.and_self]
 have b4:s&&&(s-1)=2^(t+1)*m:=by
  apply Nat.eq_of_testBit_eq
  intro j
  rw [b3]
  have:2^(t+1)*m=2^(t+1)*m+0:=rfl
  rw [this,Nat.testBit_two_pow_mul_add _ (by omega),Nat.zero_testBit]
 have ht:t<24:=by
  apply Nat.lt_of_not_le
  intro hle
  have:2^24<=2^t:=Nat.pow_le_pow_right (by decide) hle
  have h24:(2:Nat)^24=16777216:=by decide
  omega
 refine ⟨?_,by omega⟩
 unfold iZ
 have hr:fz 24=fz t++(t::(fz (23-t)).map (fun j=>t+1+j)):=by
  apply List.ext_getElem
  ·simp;omega
  ·intro i h1 h2
   simp only [List.getElem_range]
   by_cases hi:i<t
   ·rw [List.getElem_append_left (by simpa using hi)];simp
   ·rw [List.getElem_append_right (by simpa using hi)]
    simp only [List.length_range]
    by_cases he:i=t
    ·subst he;simp
    ·obtain ⟨d,rfl⟩: ∃d,i=t+1+d:=⟨i-t-1,by omega⟩
     simp only [show t+1+d-t=d+1 by omega,List.getElem_cons_succ,List.getElem_map,List.getElem_range]
 rw [hr,List.filter_append,List.filter_append]
 have f1:(fz t).filter s.testBit=[]:=List.filter_eq_nil_iff.2 fun j hj=>by
  have:=List.mem_range.1 hj
  rw [b1,if_pos (by omega),decide_eq_false (by omega)];decide
 have f2:(fz t).filter (s&&&(s-1)).testBit=[]:=List.filter_eq_nil_iff.2 fun j hj=>by
  have:=List.mem_range.1 hj
  rw [b3,if_pos (by omega)];decide
 rw [f1,f2,eF,eF,List.filter_cons_of_pos (by rw [b1,if_pos (by omega)];simp),List.filter_cons_of_neg (by rw [b3,if_pos (by omega)];decide)]
 congr 1
 apply List.filter_congr
 intro j hj
 obtain ⟨d,_,rfl⟩:=dA.1 hj
 rw [b1,b3,if_neg (by omega),if_neg (by omega)]
theorem agw:iZ 0=[]:=List.filter_eq_nil_iff.2 fun j _=>by rw [Nat.zero_testBit];decide
theorem agx (s:Nat):(iZ s).length<=24:=by
 have:=List.length_filter_le s.testBit (fz 24)
 simpa [iZ] using this
theorem YN (s:Int) (w:World):Calls Tryz.prog 333 #[.int .u32 s] w fun e w'=>e= .returned (.func (.func 339) #[] #[.pointer (some ⟨w.heap.size,0,none⟩)])/\w'=w.alloc (.cells #[.int .u32 s] 51):=by
 go_enter Tryz.func333,Tryz.ntmps333
 go_wp2
 go_ret
 exact ⟨rfl,rfl⟩
def E8:Code:=(Code.region 3 #[{dst:=some 4,op:=Op.assign (Operand.tmp 7),type:=3,pos:= "mask.go:57",after:= #[],guard:=none}] false)
def E9:Code:=(Code.block 1 (Code.region 4 #[{dst:=some 8,op:=Op.load 98 (Operand.tmp 3),type:=98,pos:= "mask.go:58",after:= #[],guard:=none},{dst:=some 9,op:=Op.move (Operand.tmp 4),type:=3,pos:= "mask.go:58",after:= #[],guard:=none},{dst:=some 10,op:=Op.buildSlice 98 1 #[(0,Operand.tmp 9)],type:=98,pos:= "mask.go:58",after:= #[{on:=1,ground:=Ground.data}],guard:=none},{dst:=some 11,op:=Op.call {callee:=Callee.builtin Builtin.append,args:= #[Operand.tmp 8,Operand.tmp 10],argTypes:= #[98,98]},type:=98,pos:= "mask.go:58",after:= #[{on:=0,ground:=Ground.data},{on:=2,ground:=Ground.data}],guard:=none},{dst:=none,op:=Op.store 98 (Operand.tmp 3) (Operand.tmp 11),type:=0,pos:= "mask.go:58",after:= #[{on:=3,ground:=Ground.data},{on:=3,ground:=Ground.chain},{on:=0,ground:=Ground.phase},{on:=1,ground:=Ground.phase},{on:=2,ground:=Ground.phase},{on:=3,ground:=Ground.phase}],guard:=none}] false))
def lO (fn:FuncId) (s0:Int) (fv:Value) (Bo D:Nat) (st:LoopState) (pend:Option Code):Loop:=
 {state:=st,pending:=pend,fn,tmps:= #[.int .u32 s0,undef,.slice none 0 0,.pointer (some ⟨Bo,0,none⟩),undef,.int .u32 s0,fv,undef,undef,undef,undef,undef,undef],params:= #[7],assign:=E8,body:=E9,defers:=D}
def jG (x:Nat):Value:= .int .i64 (x:Int)
structure LsAt (w0:World) (fn:FuncId) (s0:Int) (fv:Value) (Bo l D:Nat) (ss:List Nat) (W:World):Prop where
 box: ∃v,W.heap[Bo]? =some (.cells #[v] 98 (0,0))/\W.ownsRow w0.heap.size 3 1 v ss.length (ss.map jG)
 L:W.heap[l]? =some (.loop (lO fn s0 fv Bo D .ready none))
 K:W.heap[D]? =some (.deferred (some []))
 below:Below w0.heap.size w0 W
theorem tw (W:World) (l:Nat) (o:Obj):W.grownBy (W.putObj l o) (some l):=
 ⟨rfl,rfl,rfl,by simp,fun k _ hk=>World.putObj_heap_other (fun e=>hk (by rw [e]))⟩
theorem GL (W:World) (b:Nat) (v:Value):W.grownBy (W.setCell ⟨b,0,none⟩ v) (some b):=
 ⟨rfl,rfl,rfl,(KeepsWalks.setCell W _ v).size,fun k _ hk=>Below.heap_setCell _ _ _ k (fun e=>hk (by rw [e]))⟩
theorem oT {W:World} {base:Nat} {e:TypeId} {size:Nat} {v:Value} {k:Nat} {xs:List Value} (h:W.ownsRow base e size v k xs) {j:Nat} {o:Obj} (hj:W.heap[j]? =some o) (hno: ∀cur,o≠ .cells cur e (0,0)):
  v.ownBlock=none\/v.ownBlock≠some j:=by
 rcases h.2 with ⟨rfl,_⟩|⟨g,cap,cur,rfl,_,hgb,_⟩
 ·exact .inl rfl
 ·refine .inr fun e'=> ?_
  have:g=j:=by simpa [Value.ownBlock] using e'
  subst this;rw [hgb] at hj;cases hj;exact hno cur rfl
theorem pJ {W:World} {B:Nat} {v:Value} {t:TypeId} (h:W.heap[B]? =some (.cells #[v] t (0,0))):W.cell? ⟨B,0,none⟩=some v/\W.frozen? ⟨B,0,none⟩=false:=by
 constructor<;>simp [World.cell?,World.frozen?,h]
theorem Df {W:World} {B:Nat} {v:Value} {t:TypeId} (v':Value) (h:W.heap[B]? =some (.cells #[v] t (0,0))):(W.setCell ⟨B,0,none⟩ v').heap[B]? =some (.cells #[v'] t (0,0)):=by
 obtain ⟨hlt,hk⟩:=iF.1 h
 show (W.heap.modify B _)[B]? =_
 rw [Array.getElem?_eq_getElem (by rw [Array.size_modify];exact hlt),Array.getElem_modify_self,hk]
 rfl
theorem YP:(Tryz.prog.info? 3).map (fun i=>(i.zero,i.size,i.bytes))=some (some (.int .i64 0),1,8):=by kernel_rfl
set_option maxRecDepth 100000 in
set_option maxHeartbeats 2000000 in
theorem abC (F:Fence) (m:Nat) (w0:World) (fn:FuncId) (hfn:F.fn fn) (s0:Int) (fv:Value) (Bo Bi l D:Nat) (hBl:Bo≠l) (hDl:D≠l) (hDB:D≠Bo) (hBiBo:Bi≠Bo) (hBil:Bi≠l) (h0B:w0.heap.size<=Bo) (h0l:w0.heap.size<=l)
  (ss:List Nat) (x:Nat) (c:Value) (W:World) (h:LsAt w0 fn s0 fv Bo l D ss W) (hi0:W.heap[Bi]? =some (.cells #[c] 51 (0,0))) (hlen:ss.length<24):
  YieldAt F m Tryz.prog l #[jG x] W fun e W'=>e= .returned (.bool true)/\LsAt w0 fn s0 fv Bo l D (ss++[x]) W'/\W'.heap[Bi]? =some (.cells #[c] 51 (0,0)):=by
 obtain ⟨i0,hi,hz0,hz1,hz2⟩:=info_parts YP
 obtain ⟨v,hv,hrow⟩:=h.box
 refine ⟨fn,#[.int .u32 s0,undef,.slice none 0 0,.pointer (some ⟨Bo,0,none⟩),undef,.int .u32 s0,fv,.int .i64 (x:Int),undef,undef,undef,undef,undef],E8,E9,by simpa [lO,jG] using run_yield (P:=Tryz.prog) (args:= #[jG x]) h.L rfl,roundIn_of_wpIn hfn ?_⟩
 have hl:l<W.heap.size:=(iF.1 h.L).1
 have hbr:=run_beginRound (P:=Tryz.prog) h.L rfl
 obtain ⟨W2,hW2⟩: ∃W2,W.putObj l (.loop {lO fn s0 fv Bo D .ready none with state:= .busy})=W2:=⟨_,rfl⟩
 rw [hW2] at hbr
 have hg2:W.grownBy W2 (some l):=by rw [<-hW2];exact tw _ _ _
 have hv2:W2.heap[Bo]? =some (.cells #[v] 98 (0,0)):=by rw [<-hW2];exact (World.putObj_heap_other hBl).trans hv
 have hi2:W2.heap[Bi]? =some (.cells #[c] 51 (0,0)):=by rw [<-hW2];exact (World.putObj_heap_other hBil).trans hi0
 have hK2:W2.heap[D]? =some (.deferred (some [])):=by rw [<-hW2];exact (World.putObj_heap_other hDl).trans h.K
 have hL2:W2.heap[l]? =some (.loop {lO fn s0 fv Bo D .ready none with state:= .busy}):=by rw [<-hW2];exact World.putObj_heap_same hl
 have hrow2:W2.ownsRow w0.heap.size 3 1 v ss.length (ss.map jG):=hrow.kept hg2 (oT hrow h.L (fun cur e=>by cases e))
 have hb2:Below w0.heap.size w0 W2:=h.below.grown hg2 h.below.size (fun k e=>by cases e;exact h0l)
 obtain ⟨hc2,hf2⟩:=pJ hv2
 have hBlt:Bo<W2.heap.size:=(iF.1 hv2).1
 have hBilt:Bi<W2.heap.size:=(iF.1 hi2).1
 have hl2:l<W2.heap.size:=(iF.1 hL2).1
 have hDlt:D<W2.heap.size:=(iF.1 hK2).1
 have ne_of: ∀ {j:Nat} {o:Obj},W2.heap[j]? =some o->(∀cur,o≠ .cells cur 3 (0,0))->some j≠v.ownBlock:=fun hj hno=>by
  rcases oT hrow2 hj hno with e|e
  ·rw [e];simp
  ·exact fun e'=>e e'.symm
 clear hW2
 have hml:24<=maxLen:=by unfold maxLen;omega
 unfold E8
 gi_wp2_with (rw [Oper.semAt_eq _ _ _ (fun c h=>by cases h)];go_simp;try go_bits)
 unfold E9
 gi_wp2_with (first
  |(gi_at_builtin;refine wpListIn_append_own _ rfl _ _ 98 rfl w0.heap.size 3 i0 (.int .i64 0) 1 8 Tryz.underlying98 hi hz0 hz1 hz2 rfl (by decide) _ _ _ rfl (hrow2.alloc _) ⟨W2.heap.size,0,none⟩ 1 1 [jG x] rfl rfl (cell_one_new _ _ _) (by simp [Value.oneCell',jG]) (by omega) (by omega) (by have:=hb2.size;simp;omega) ?_;intro v' w3 hown' hg3 hnil3
    have hv3:w3.heap[Bo]? =some (.cells #[v] 98 (0,0)):=(hg3.block Bo (by simp;omega) (ne_of hv2 (fun cur e=>by cases e))).trans ((Below.heap_alloc _ _ Bo hBlt).trans hv2)
    obtain ⟨hc3,hf3⟩:=pJ hv3
    obtain ⟨g',cap',cur',rfl,hbase',hgb',hr1,hr2,hr3,hr4⟩: ∃g' cap' cur',v'= .slice (some ⟨g',0,none⟩) (ss.length+1) cap'/\w0.heap.size<=g'/\w3.heap[g']? =some (.cells cur' 3 (0,0))/\ss.length+1<=cap'/\cap'<=maxLen/\cur'.size=cap'*1/\cur'.toList.take ((ss.length+1)*1)=ss.map jG++[jG x]:=by
     rcases hown'.2 with ⟨_,h0⟩|h'
     ·exact absurd h0 (by omega)
     ·exact h'
    go_frame)
  |(rw [Oper.semAt_eq _ _ _ (fun c h=>by cases h)];go_simp;try go_bits))
 have hg3':(W2.alloc (.cells #[jG x] 3)).grownBy w3 v.ownBlock:=hg3
 have hL3:w3.heap[l]? =some (.loop {lO fn s0 fv Bo D .ready none with state:= .busy}):=(hg3'.block l (by simp;omega) (ne_of hL2 (fun cur e=>by cases e))).trans ((Below.heap_alloc _ _ l hl2).trans hL2)
 have hK3:w3.heap[D]? =some (.deferred (some [])):=(hg3'.block D (by simp;omega) (ne_of hK2 (fun cur e=>by cases e))).trans ((Below.heap_alloc _ _ D hDlt).trans hK2)
 have hi3:w3.heap[Bi]? =some (.cells #[c] 51 (0,0)):=(hg3'.block Bi (by simp;omega) (ne_of hi2 (fun cur e=>by cases e))).trans ((Below.heap_alloc _ _ Bi hBilt).trans hi2)
 obtain ⟨w4,hw4⟩: ∃w4,w3.setCell ⟨Bo,0,none⟩ (.slice (some ⟨g',0,none⟩) (ss.length+1) cap')=w4:=⟨_,rfl⟩
 rw [hw4]
 have hg4:w3.grownBy w4 (some Bo):=by rw [<-hw4];exact GL _ _ _
 have hv4:w4.heap[Bo]? =some (.cells #[.slice (some ⟨g',0,none⟩) (ss.length+1) cap'] 98 (0,0)):=by rw [<-hw4];exact Df _ hv3
 have hL4:w4.heap[l]? =some (.loop {lO fn s0 fv Bo D .ready none with state:= .busy}):=(hg4.block l (iF.1 hL3).1 (fun e=>hBl (by cases e;rfl))).trans hL3
 have hK4:w4.heap[D]? =some (.deferred (some [])):=(hg4.block D (iF.1 hK3).1 (fun e=>hDB (by cases e;rfl))).trans hK3
 have hi4:w4.heap[Bi]? =some (.cells #[c] 51 (0,0)):=(hg4.block Bi (iF.1 hi3).1 (fun e=>hBiBo (by cases e;rfl))).trans hi3
 have hrow4:=hown'.kept hg4 (oT hown' hv3 (fun cur e=>by cases e))
 have hl4:l<w4.heap.size:=(iF.1 hL4).1
 have hb3:Below w0.heap.size w0 w3:=(hb2.alloc hb2.size _).grown hg3' (by have:=hb2.size;simp;omega) (fun k e=>(hrow2.lt k e).1)
 have hb4:Below w0.heap.size w0 w4:=hb3.grown hg4 hb3.size (fun k e=>by cases e;exact h0B)
 clear hw4
 refine ⟨_,_,run_endRound none hL4,rfl,⟨⟨_,(World.putObj_heap_other hBl).trans hv4, ?_⟩,World.putObj_heap_same hl4,(World.putObj_heap_other hDl).trans hK4,hb4.grown (tw _ _ _) hb4.size (fun k e=>by cases e;exact h0l)⟩,(World.putObj_heap_other hBil).trans hi4⟩
 have:=hrow4.kept (tw w4 l (.loop {{lO fn s0 fv Bo D .ready none with state:= .busy} with state:=if (none:Option Code).isNone then .ready else .done,pending:=none})) (oT hrow4 hL4 (fun cur e=>by cases e))
 simpa using this
def EV (Bi:Nat) (w:World):Nat:=match w.cell? ⟨Bi,0,none⟩ with
 |some v=>(intOf v).toNat
 |none=>0
theorem Kx {Bi:Nat} {w:World} {n:Nat} {t:TypeId} (h:w.heap[Bi]? =some (.cells #[.int .u32 (n:Int)] t (0,0))):EV Bi w=n:=by
 unfold EV;rw [(pJ h).1];simp [intOf]
theorem Uq {w0 W:World} (hT:TabAt 0 Lib.deBruijn32tab w0) (hb:Below w0.heap.size w0 W):TabAt 0 Lib.deBruijn32tab W:=fun j hj=>by
 have h:=hT j hj
 have h0:0<w0.heap.size:=World.block_lt_of_cell? w0 ⟨0,j,none⟩ h
 exact (hb.cell (p:=⟨0,j,none⟩) h0).trans h
theorem UG (s:Int):bits .and .u32 s 16777215=(((BitVec.ofInt 32 s).toNat&&&16777215:Nat):Int):=by
 have hx:(BitVec.ofInt 32 s).toNat&&&16777215<2^32:=Nat.and_lt_two_pow _ (by omega)
 show IntKind.u32.wrap ((BitVec.ofInt 32 s&&&BitVec.ofInt 32 16777215).toNat:Int)=_
 rw [BitVec.toNat_and,wrap_u32',show (BitVec.ofInt 32 16777215).toNat=16777215 from by decide]
 omega
def lN (s:Int):Nat:=(BitVec.ofInt 32 s).toNat&&&16777215
theorem UH (s:Nat) (h0:s≠0) (h:s<4294967296):bits .and .u32 (s:Int) ((s:Int)-1)=((s&&&(s-1):Nat):Int):=by
 have:(s:Int)-1=((s-1:Nat):Int):=by omega
 rw [this];exact bits_and_u32_nat s (s-1) h (by omega)
set_option maxRecDepth 100000 in
set_option maxHeartbeats 2000000 in
theorem abB (F:Fence) (n:Nat) (h339:F.fn 339) (h340:F.fn 340) (hro:F.round=none) (hn:1<=n) (w0:World) (fn:FuncId) (hfn:F.fn fn) (s0:Int) (fv:Value) (Bo Bi l D:Nat) (hBl:Bo≠l) (hDl:D≠l) (hDB:D≠Bo) (hBiBo:Bi≠Bo) (hBil:Bi≠l) (hBiD:Bi≠D)
  (h0B:w0.heap.size<=Bo) (h0l:w0.heap.size<=l) (h0i:w0.heap.size<=Bi) (hT:TabAt 0 Lib.deBruijn32tab w0) (s:Int) (W:World) (h:LsAt w0 fn s0 fv Bo l D [] W) (hi0:W.heap[Bi]? =some (.cells #[.int .u32 s] 51 (0,0)))
  (htz: ∀ (x:Nat),x<4294967296->x≠0-> ∀W',TabAt 0 Lib.deBruijn32tab W'->CallsIn F (n-1) Tryz.prog 340 #[.int .u32 x] W' fun e w'=>e= .returned (.int .i64 (Lib.ctz 32 x))/\w'=W'):
  CallsIn F n Tryz.prog 339 #[.func (.yield l) #[] #[],.pointer (some ⟨Bi,0,none⟩)] W fun e W'=>(∃v,e= .returned v)/\LsAt w0 fn s0 fv Bo l D (iZ (lN s)) W':=by
 obtain ⟨hc0,hf0⟩:=pJ hi0
 have ha:bits .and .u32 s 16777215=((lN s:Nat):Int):=UG s
 have hsl:lN s<16777216:=Nat.lt_of_le_of_lt Nat.and_le_right (by decide)
 generalize lN s=q at ha hsl ⊢
 refine callsIn_of_wp Tryz.func339 rfl h339 ?_ hro
 simp only [Tryz.ntmps339,List.size_toArray,er,List.length_nil,Nat.reduceAdd,Nat.reduceSub,Array.replicate_succ,Array.replicate_zero,List.push_toArray,List.append_toArray,eF,List.cons_append]
 gi_wp2
 have hi1:=Df (.int .u32 (q:Int)) hi0
 have hA1:LsAt w0 fn s0 fv Bo l D [] (W.setCell ⟨Bi,0,none⟩ (.int .u32 (q:Int))):=by
  obtain ⟨v,hv,hrow⟩:=h.box
  exact ⟨⟨v,(Below.heap_setCell _ _ _ Bo (fun e=>hBiBo e.symm)).trans hv,hrow.kept (GL _ _ _) (oT hrow hi0 (fun cur e=>by cases e))⟩,(Below.heap_setCell _ _ _ l (fun e=>hBil e.symm)).trans h.L,(Below.heap_setCell _ _ _ D (fun e=>hBiD e.symm)).trans h.K,h.below.setCell h0i _⟩
 gi_loopw [] (fun wr=> ∃ (pre:List Nat) (c:Nat),c<16777216/\pre++iZ c=iZ q/\LsAt w0 fn s0 fv Bo l D pre wr/\wr.heap[Bi]? =some (.cells #[.int .u32 (c:Int)] 51 (0,0)))
  (fun wr=>EV Bi wr)
 case atStart=>exact ⟨[],q,hsl,rfl,hA1,hi1⟩
 case round=>
  obtain ⟨pre,c,hc,hp,hA,hb⟩:=hrel
  clear hc0 hf0 ha hi1 hA1
  obtain ⟨hc1,hf1⟩:=pJ hb
  by_cases hz:c=0
  ·subst hz
   rw [agw,eN] at hp
   gi_wp2
   go_end0
   exact ⟨⟨_,rfl⟩,hp▸hA⟩
  ·have hne:((c:Int)==0)=false:=by simp;omega
   have hne': ¬ ((c:Int)=0):=by omega
   have hstep:=agy c hz hc
   have hpl:pre.length<24:=by
    have h1:=agx q
    have h2:=congrArg List.length hp
    rw [hstep.1,List.length_append,er] at h2
    omega
   obtain ⟨fn',tmps,assign,body,hy,hR⟩:=abC F (n-1) w0 fn hfn s0 fv Bo Bi l D hBl hDl hDB hBiBo hBil h0B h0l pre (Lib.ctz 32 c) (.int .u32 (c:Int)) wr hA hb hpl
   have hT1:=Uq hT hA.below
   have hap:=UH c hz (by omega)
   unfold jG at hy
   have hyH:Hid (Lib.ctz 32 c=Lib.ctz 32 c):=rfl
   gi_wp2_with (gi_at_call 340;refine (htz c (by omega) hz _ hT1).mono ?_;rintro e w' ⟨rfl,rfl⟩)
   refine hR.mono ?_
   rintro e W3 ⟨rfl,hA3,hb3⟩
   obtain ⟨hc3,hf3⟩:=pJ hb3
   clear hc1 hf1 hA hy hR hT1
   gi_wp2
   have hb4:=Df (.int .u32 ((c&&&(c-1):Nat):Int)) hb3
   have hlt:=hstep.2
   go_roundw
   case rel=>
    refine ⟨pre++[Lib.ctz 32 c],c&&&(c-1),by omega, ?_, ?_,hb4⟩
    ·rw [<-hp,hstep.1,List.append_assoc];rfl
    ·obtain ⟨v,hv,hrow⟩:=hA3.box
     exact ⟨⟨v,(Below.heap_setCell _ _ _ Bo (fun e=>hBiBo e.symm)).trans hv,hrow.kept (GL _ _ _) (oT hrow hb3 (fun cur e=>by cases e))⟩,(Below.heap_setCell _ _ _ l (fun e=>hBil e.symm)).trans hA3.L,(Below.heap_setCell _ _ _ D (fun e=>hBiD e.symm)).trans hA3.K,hA3.below.setCell h0i _⟩
   case measure=>rw [Kx hb4,Kx hb];exact hlt
set_option maxRecDepth 100000 in
set_option maxHeartbeats 2000000 in
theorem abn (F:Fence) (n:Nat) (h314:F.fn 314) (h333:F.fn 333) (h339:F.fn 339) (h340:F.fn 340) (hro:F.round=none) (hn:3<=n) (s:Int) (w:World) (hT:TabAt 0 Lib.deBruijn32tab w)
  (hin: ∀W,CallsIn F (n-1) Tryz.prog 333 #[.int .u32 s] W fun e w'=>e= .returned (.func (.func 339) #[] #[.pointer (some ⟨W.heap.size,0,none⟩)])/\w'=W.alloc (.cells #[.int .u32 s] 51))
  (htz: ∀ (x:Nat),x<4294967296->x≠0-> ∀W',TabAt 0 Lib.deBruijn32tab W'->CallsIn F (n-1-1) Tryz.prog 340 #[.int .u32 x] W' fun e w'=>e= .returned (.int .i64 (Lib.ctz 32 x))/\w'=W'):
  CallsIn F n Tryz.prog 314 #[.int .u32 s] w fun e w'=> ∃v:Value,e= .returned v/\w'.ownsRow w.heap.size 3 1 v (iZ (lN s)).length ((iZ (lN s)).map jG)/\Below w.heap.size w w':=by
 have h1:1<=n:=by omega
 have eg: ∀args w,(callFunc 339 args).run Tryz.prog w= .ok (.enter 339 args) w:=enters_of Tryz.func339 (by kernel_rfl) rfl
 refine callsIn_of_wp_marks Tryz.func314 rfl h314 ?_ hro
 simp only [Tryz.ntmps314,List.size_toArray,er,List.length_nil,Nat.reduceAdd,Nat.reduceSub,Array.replicate_succ,Array.replicate_zero,List.push_toArray,List.append_toArray,eF,List.cons_append]
 gi_wp2_with (gi_at_call 333;refine (hin _).mono ?_;rintro e w' ⟨rfl,rfl⟩)
 refine wpIn_rangeFunc ?_
 intro fn hfn
 rw [hro]
 obtain ⟨fv,hfv⟩: ∃fv:Value,fv= .func (.func 339) #[] #[.pointer (some ⟨w.heap.size+1,0,none⟩)]:=⟨_,rfl⟩
 obtain ⟨W0,hW0⟩: ∃W0,(w.alloc (.cells #[.slice none 0 0] 98)).alloc (.cells #[.int .u32 s] 51)=W0:=⟨_,rfl⟩
 have hs0:W0.heap.size=w.heap.size+2:=by rw [<-hW0];simp
 have hv0:W0.heap[w.heap.size]? =some (.cells #[.slice none 0 0] 98 (0,0)):=by rw [<-hW0];exact (Below.heap_alloc _ _ _ (by simp)).trans (World.alloc_heap_new w _)
 have hi0:W0.heap[w.heap.size+1]? =some (.cells #[.int .u32 s] 51 (0,0)):=by
  rw [<-hW0];have:=World.alloc_heap_new (w.alloc (.cells #[.slice none 0 0] 98)) (.cells #[.int .u32 s] 51);rwa [World.size_alloc] at this
 have hb0:Below w.heap.size w W0:=by rw [<-hW0];exact ((Below.refl _ w).alloc (ee _) _).alloc (by simp) _
 rw [hW0]
 obtain ⟨W1,hW1⟩: ∃W1,(W0.alloc (.deferred (some []))).alloc (.loop (lO fn s fv w.heap.size W0.heap.size .ready none))=W1:=⟨_,rfl⟩
 have hold: ∀k,k<W0.heap.size->W1.heap[k]? =W0.heap[k]? :=fun k hk=>by
  rw [<-hW1];exact (Below.heap_alloc _ _ k (by simp;omega)).trans (Below.heap_alloc _ _ k hk)
 have hb1:Below w.heap.size w W1:=by rw [<-hW1];exact (hb0.alloc hb0.size _).alloc (by have:=hb0.size;simp;omega) _
 have hM:LsAt w fn s fv w.heap.size (W0.heap.size+1) W0.heap.size [] W1:=
  ⟨⟨_,(hold w.heap.size (by omega)).trans hv0,⟨rfl,.inl ⟨rfl,rfl⟩⟩⟩,
   by rw [<-hW1];have:=World.alloc_heap_new (W0.alloc (.deferred (some []))) (.loop (lO fn s fv w.heap.size W0.heap.size .ready none));rwa [World.size_alloc] at this,
   by rw [<-hW1];exact (Below.heap_alloc _ _ _ (by simp)).trans (World.alloc_heap_new W0 _),hb1⟩
 refine ⟨W0.heap.size+1,[{target:= .collected W0.heap.size,args:= #[]}],W1,{target:= .fn (.func 339) #[.pointer (some ⟨w.heap.size+1,0,none⟩)],args:= #[.func (.yield (W0.heap.size+1)) #[] #[]]},W1,339,
  #[.func (.yield (W0.heap.size + 1)) #[] #[]] ++ #[.pointer (some ⟨w.heap.size + 1, 0, none⟩)], W1, ?_, ?_, ?_, ?_, fun _ => h1, ?_⟩
 ·rw [<-hW1,hfv];exact run_enterLoop_outer _ _ _ _ _
 ·simp [resolve,go_sem]
 ·intro f' hf';simp [Target.leads] at hf';subst hf';exact h339
 ·simp [invoke,go_sem,eg]
 ·refine (abB F (n-1) h339 h340 hro (by omega) w fn hfn s fv w.heap.size (w.heap.size+1) (W0.heap.size+1) W0.heap.size (by omega) (by omega) (by omega) (by omega) (by omega) (by omega) (ee _) (by omega) (by omega) hT s W1 hM ((hold _ (by omega)).trans hi0) htz).mono ?_
  rintro e W2 ⟨⟨v0,rfl⟩,h2⟩
  obtain ⟨v,hv,hrow⟩:=h2.box
  have hend:=run_endLoop (P:=Tryz.prog) h2.L (by simp [lO])
  obtain ⟨W3,hW3⟩: ∃W3,W2.putObj (W0.heap.size+1) (.loop {lO fn s fv w.heap.size W0.heap.size .ready none with state:= .exhausted})=W3:=⟨_,rfl⟩
  rw [hW3] at hend
  have hg3:W2.grownBy W3 (some (W0.heap.size+1)):=by rw [<-hW3];exact tw _ _ _
  have hv3:W3.heap[w.heap.size]? =some (.cells #[v] 98 (0,0)):=by rw [<-hW3];exact (World.putObj_heap_other (by omega)).trans hv
  have hK3:W3.heap[W0.heap.size]? =some (.deferred (some [])):=by rw [<-hW3];exact (World.putObj_heap_other (by omega)).trans h2.K
  have hrow3:=hrow.kept hg3 (oT hrow h2.L (fun cur e=>by cases e))
  have hb3:Below w.heap.size w W3:=h2.below.grown hg3 h2.below.size (fun k e=>by cases e;omega)
  obtain ⟨hc3,hf3⟩:=pJ hv3
  clear hW3
  refine ⟨none,W3,hend, ?_⟩
  clear hfv
  gi_wp2
  rw [show (w.heap.size+1+1)=W0.heap.size by omega]
  refine ⟨by simp,.inl ⟨_,_,rfl,run_takeDeferred hK3, ?_⟩⟩
  exact ⟨_,results_tmp rfl _ _ _,v,rfl,hrow3.kept (tw _ _ _) (oT hrow3 hK3 (fun cur e=>by cases e)),hb3.grown (tw _ _ _) hb3.size (fun k e=>by cases e;omega)⟩
end Go.Proofs.YtgajalidbabccaaGreatDoor
namespace Go.Proofs.YtgajalidbabccaaGreatDoor
open Go PI Go.Shelf Go.RowKit
set_option maxRecDepth 100000
def ai (o:Obj):Prop:= ∃ (cur:Array Value) (e:TypeId) (fr:Nat×Nat),o= .cells cur e fr/\ ∀j,j<Lib.deBruijn32tab.length->cur[j]? =some (.int .u8 (Lib.deBruijn32tab.getD j 0))
theorem agd {o:Obj} (ho:ai o) {w:World} (h:w.heap[0]? =some o):TabAt 0 Lib.deBruijn32tab w:=fun j hj=>by
 obtain ⟨cur,e,fr,rfl,hc⟩:=ho
 have:=hc j hj
 simp [World.cell?,h,this]
theorem abm (s:Int) (w:World) (hT:TabAt 0 Lib.deBruijn32tab w):Calls Tryz.prog 314 #[.int .u32 s] w fun e w'=> ∃v:Value,e= .returned v/\w'.ownsRow w.heap.size 3 1 v (iZ (lN s)).length ((iZ (lN s)).map jG)/\Below w.heap.size w w':=
 callsIn_wide.1 (abn Fence.wide 5 trivial trivial trivial trivial rfl (by omega) s w hT (fun W=>callsIn_wide.2 (YN s W)) fun x hx h0 W' hT'=>callsIn_wide.2 (Tryz.tz32 x hx h0 W' hT'))
theorem abF (s:Int):tj s=(iZ (lN s)).map fun n:Nat=>(n:Int):=by
 unfold tj iZ lN
 have:(fz 24).filter ((BitVec.ofInt 32 s).toNat&&&16777215).testBit=(fz 24).filter fun i=>(BitVec.ofInt 32 s).getLsbD i:=List.filter_congr fun i hi=>by
  have hi:i<24:=List.mem_range.1 hi
  have h24:(16777215:Nat)=2^24-1:=by decide
  rw [Nat.testBit_and,h24,Nat.testBit_two_pow_sub_one,decide_eq_true hi,Bool.and_true];rfl
 rw [this];rfl
theorem UM {X:Link VV Tryz.prog} {w w':World} {vs:Array Value} {N0:aQ} {ν:Nat->Nat} {δ:Nat->Option Nat} {ο:Nat->Array Value} {args:List PU} (hg:Given X w vs N0 ν δ ο args []) (hb:Below w.heap.size w w'):
  Back X w w' N0 ν δ ο 0 args.length ν (fun _=>none) [] where
 ext:=⟨hb.os,hb.tape,hb.output,hb.size,fun b hlt _=>hb.block b hlt⟩
 le:=ee _
 old:=fun i h=>absurd h (Nat.not_lt_zero i)
 new:=fun i _ h=>absurd h (Nat.not_lt_zero i)
 dnew:=fun j b h=>by cases h
 bnd:={
  inj:=fun i j h=>absurd h (Nat.not_lt_zero i)
  lt:=fun i h=>absurd h (Nat.not_lt_zero i)
  dlt:=fun j b h=>by cases h
  dinj:=fun i j b h=>by cases h
  dν:=fun j b h=>by cases h
  n0:=fun b o h=>⟨Nat.lt_of_lt_of_le (hg.bnd.n0 b o h).1 hb.size,fun i h=>absurd h (Nat.not_lt_zero i),fun j h=>by cases h⟩}
 boxes:=fun k b h=>by simp at h
theorem agp {S:Type} (o:Obj) (ho:ai o) (vs:List PU) (bs:List (Box UU)) (κ:Out UU->Option S) (x:S) (h:Gp vs bs κ=some x): ∃out,d5 (LL o) XZ vs bs out/\κ out=some x:=by
 unfold Gp at h
 split at h
 case h_2=>cases h
 rename_i κ y
 refine ⟨_, ?_,h⟩
 refine ⟨⟨Tryz.f314,Tryz.func314,by kernel_rfl,rfl⟩,fun w vs N0 ν δ ο hg=> ?_⟩
 have hs:vs.size=1:=hg.size
 have h0:=hg.args 0 _ rfl
 obtain ⟨v0,hv0⟩: ∃v0,vs= #[v0]:=by
  obtain ⟨l⟩:=vs
  match l,hs with
  |[v],_=>exact ⟨v,rfl⟩
 subst hv0
 have h0:Rep (LL o) w _ _ v0 (.int .u32 y):=h0
 cases h0
 have hT:=agd ho (hg.glob 0 o (by simp [LL])).1
 refine (abm y w hT).mono ?_
 rintro e w' ⟨v,rfl,hrow,hb⟩
 refine ⟨ν,fun _=>none,UM hg hb, ?_⟩
 show Rep (LL o) w' _ _ v (.sl ET.I (tj y) .none)
 rw [abF]
 generalize iZ (lN y)=ts at hrow
 obtain ⟨hl,hr⟩:=hrow
 rcases hr with ⟨rfl,hn⟩|⟨g,cap,cur,rfl,hg0,hgb,hc,hc',hsz,htk⟩
 ·have:ts=[]:=List.length_eq_zero_iff.1 hn
  subst this
  exact .sl none 0 0 _ _ _ (fun _ _=>undef) rfl (ee _) trivial (fun j x hx=>by cases hx) (fun j x hx=>by cases hx)
 ·have hcell: ∀j x,(ts.map fun n:Nat=>(n:Int))[j]? =some x->cur.getD j undef= .int .i64 x/\w'.cell? ⟨g,j,none⟩=some (.int .i64 x):=by
   intro j x hx
   rw [List.getElem?_map] at hx
   cases ht:ts[j]? with
   |none=>rw [ht] at hx;cases hx
   |some n=>
    rw [ht] at hx
    injection hx with hx
    have hj:j<ts.length:=(gR.1 ht).1
    have h1:(cur.toList.take (ts.length*1))[j]? =some (jG n):=by rw [htk,List.getElem?_map,ht];rfl
    rw [List.getElem?_take_of_lt (by omega)] at h1
    have h2:cur[j]? =some (.int .i64 x):=by rw [<-Array.getElem?_toList,h1,<-hx];rfl
    refine ⟨?_,by simp [World.cell?,hgb,h2]⟩
    rw [jc,h2];rfl
  refine Rep.sl (X:=LL o) (some ⟨g,0,none⟩) ts.length cap ET.I (show List Int from ts.map fun n:Nat=>(n:Int)) .none (fun j k=>cur.getD (j+k) undef) (List.length_map _) hc trivial (fun j x hx k p hp=> ?_) (fun j x hx k p hp=> ?_)
  ·match k,hp with
   |0,hp=>
    obtain ⟨h1,h2⟩:=hcell j x hx
    refine ⟨_,rfl, ?_, ?_⟩
    ·have:(⟨g,0,none⟩:Addr).add (j*(LL o).esize ET.I+0)=⟨g,j,none⟩:=by
      rw [Addr.add_lit'];show (⟨g,0+(j*1+0),none⟩:Addr)=_;congr 1;omega
     rw [this,h2];rw [Nat.add_zero,h1]
    ·rintro (hN|⟨i,hi,_⟩|⟨i,hi⟩)
     ·have:=(hg.bnd.n0 _ _ hN).1
      simp at this;omega
     ·exact absurd hi (Nat.not_lt_zero i)
     ·cases hi
   |k+1,hp=>simp [VV,gE] at hp
  ·match k,hp with
   |0,hp=>
    obtain ⟨h1,h2⟩:=hcell j x hx
    rw [Nat.add_zero,h1]
    have:p= .int .i64 x:=by simpa [VV,gE] using hp.symm
    subst this
    exact .int _ _
   |k+1,hp=>simp [VV,gE] at hp
open Go.Sort
def pL (a b:Int):Int:=if a<b then-1 else if b<a then 1 else 0
def me (x y:Cl):Int:=if x.pos=y.pos then pL x.neg y.neg else pL x.pos y.pos
def iM (x:Cl):List Value:=[.int .u32 x.pos,.int .u32 x.neg]
theorem EB (a:Int) (W:World):Calls Tryz.prog 313 #[.int .u32 a] W fun e w'=>e= .returned (.bool false)/\w'=W:=by
 go_enter Tryz.func313,Tryz.ntmps313
 go_wp2
 go_ret
 exact ⟨by simp,rfl⟩
set_option maxHeartbeats 1000000 in
theorem IG (a b:Int) (W:World):Calls Tryz.prog 281 #[.int .u32 a,.int .u32 b] W fun e w'=>e= .returned (.int .i64 (pL a b))/\w'=W:=by
 unfold pL
 by_cases h1:a<b
 ·rw [if_pos h1]
  go_enter Tryz.func281,Tryz.ntmps281
  go_wp2_with (go_at_call 313;refine (EB _ _).mono ?_;rintro e w' ⟨rfl,rfl⟩)
  go_ret
  exact ⟨rfl,rfl⟩
 ·rw [if_neg h1]
  by_cases h2:b<a
  ·rw [if_pos h2]
   go_enter Tryz.func281,Tryz.ntmps281
   go_wp2_with (go_at_call 313;refine (EB _ _).mono ?_;rintro e w' ⟨rfl,rfl⟩)
   go_ret
   exact ⟨rfl,rfl⟩
  ·rw [if_neg h2]
   go_enter Tryz.func281,Tryz.ntmps281
   go_wp2_with (go_at_call 313;refine (EB _ _).mono ?_;rintro e w' ⟨rfl,rfl⟩)
   go_ret
   exact ⟨rfl,rfl⟩
set_option maxHeartbeats 1000000 in
theorem Vu (x y:Cl) (W:World):Calls Tryz.prog 231 #[.agg (iM x).toArray,.agg (iM y).toArray] W fun e w'=>e= .returned (.int .i64 (me x y))/\ ∃q os',w'=grow (W.drewN q) os':=by
 obtain ⟨a,b⟩:=x
 obtain ⟨a',b'⟩:=y
 have h1:=IG a a'
 have h2:=IG b b'
 unfold me
 simp only [iM]
 generalize pL a a'=r1 at h1 ⊢
 generalize pL b b'=r2 at h2 ⊢
 by_cases h:a=a'
 ·rw [if_pos h]
  go_enter Tryz.func231,Tryz.ntmps231
  go_wp2_with (go_at_call 281;refine (h2 _).mono ?_;rintro e w' ⟨rfl,rfl⟩)
  go_ret
  exact ⟨rfl,0,_,by rw [alloc_eq_grow,alloc_eq_grow,grow_grow];rfl⟩
 ·rw [if_neg h]
  go_enter Tryz.func231,Tryz.ntmps231
  go_wp2_with (go_at_call 281;refine (h1 _).mono ?_;rintro e w' ⟨rfl,rfl⟩)
  go_ret
  exact ⟨rfl,0,_,by rw [alloc_eq_grow,alloc_eq_grow,grow_grow];rfl⟩
theorem vU (x y:Cl):ltOf me x y=(decide (x.pos<y.pos)||(decide (x.pos=y.pos)&&decide (x.neg<y.neg))):=by
 have h:me x y<0↔(x.pos<y.pos\/x.pos=y.pos/\x.neg<y.neg):=by
  unfold me pL
  split<;>split<;>first|omega|(split<;>omega)
 rw [Bool.eq_iff_iff]
 simp only [ltOf,decide_eq_true_eq,Bool.or_eq_true,af]
 exact h
theorem agb:SWO (ltOf me) where
 irrefl x:=by rw [vU];simp
 trans x y z h1 h2:=by rw [vU] at*;simp at*;omega
 ntrans x y z h1 h2:=by rw [vU] at*;simp at*;omega
theorem agt (x y:Cl) (h1:ltOf me x y=false) (h2:ltOf me y x=false):x=y:=by
 rw [vU] at*;simp at*
 obtain ⟨a,b⟩:=x
 obtain ⟨a',b'⟩:=y
 simp at*
 omega
theorem Yr:(fun x y:Cl=> !ltOf me y x)=nX:=by
 funext x y
 rw [vU,Bool.eq_iff_iff]
 simp [nX]
 omega
instance:Inhabited Cl:=⟨⟨0,0⟩⟩
theorem afR (b c:Nat) (d:List Cl) (w:World) (hH:HoldsK iM 2 w b 0 d.toArray) (hb:b<w.heap.size) (hsz:d.length<4611686018427387904):
  Calls Tryz.prog 230 #[.slice (some ⟨b,0,none⟩) d.length c,.func (.func 231) #[] #[]] w fun e w'=>e= .returned (.tuple #[])/\ ∃n os,w'=sortWorldK iM 2 w b 0 n (sortCl d).toArray os:=by
 have eg: ∀args w,(callFunc 231 args).run Tryz.prog w= .ok (.enter 231 args) w:=enters_of Tryz.func231 (by kernel_rfl) rfl
 have h:=AnyQ.slices_SortFunc_total Tryz.sortCl 2 Tryz.isAgg53 Tryz.sizeOf53 iM (fun _=>rfl) (fun x v hv=>by simp [iM] at hv;rcases hv with rfl|rfl<;>rfl) me agb 231 #[] b 0 c d.toArray w eg (fun _ _ _ _ x y=>Vu x y _) hH hb hsz agt
 rw [Yr] at h
 exact h
theorem afS (p:Option Addr) (c:Nat) (w:World):Calls Tryz.prog 230 #[.slice p 0 c,.func (.func 231) #[] #[]] w fun e w'=>e= .returned (.tuple #[])/\w'=w:=
 AnyF.slices_SortFunc_none Tryz.sortCl p c _ w
theorem afQ {m:Nat} {d:Array Cl} {os:Array Obj} {w:World} {b k:Nat} (hk:k<w.heap.size) (hne:k≠b):(sortWorldK iM 2 w b 0 m d os).heap[k]? =w.heap[k]? :=by
 unfold sortWorldK putRowK putRow mapBlock
 rw [heap_grow_old _ _ (by simpa [ahead] using hk)]
 show (w.heap.modify b _)[k]? =_
 rw [Array.getElem?_modify,if_neg (Ne.symm hne)]
theorem afP {m:Nat} {d:Array Cl} {os:Array Obj} {w:World} {b:Nat} {cur:Array Value} {e:TypeId} {fr:Nat×Nat} (h:w.heap[b]? =some (.cells cur e fr)):
  (sortWorldK iM 2 w b 0 m d os).heap[b]? =some (.cells (putCells id 0 (flatK iM 2 d) cur) e fr):=by
 have hb:b<w.heap.size:=(iF.1 h).1
 unfold sortWorldK putRowK putRow mapBlock
 rw [heap_grow_old _ _ (by simpa [ahead] using hb)]
 show (w.heap.modify b _)[b]? =_
 rw [Array.getElem?_modify,if_pos rfl,h];rfl
theorem Vs (x:Cl) {k:Nat} {p:PU} (hp:(gE .C x)[k]? =some p):k<2/\ ∀ (X:Link VV Tryz.prog) (w:World) (N:aQ) (g:Gh UU),Rep X w N g (iM x)[k]! p:=by
 match k,hp with
 |0,hp=>cases hp;exact ⟨by omega,fun X w N g=> .int _ _⟩
 |1,hp=>cases hp;exact ⟨by omega,fun X w N g=> .int _ _⟩
 |k+2,hp=>simp [gE] at hp
theorem YC {w:World} {b c:Nat} {l:List Cl} {cur:Array Value} {e:TypeId} (hb:w.heap[b]? =some (.cells cur e (0,0))) (hs:cur.size=c*2) (hl:l.length<=c) (h: ∀ (j:Nat) (x:Cl),l[j]? =some x-> ∀k,k<2->w.cell? ⟨b,j*2+k,none⟩=some (iM x)[k]!):HoldsK iM 2 w b 0 l.toArray:=by
 intro t ht
 rw [size_flatK] at ht
 have ht':t<l.length*2:=by simpa using ht
 have hj:t/2<l.length:=by omega
 have hx:l[t/2]? =some l.toArray[t/2]! :=by simp [hj]
 refine ⟨?_, ?_⟩
 ·rw [get_flatK _ _ _ _ ht]
  have:=h _ _ hx (t%2) (Nat.mod_lt _ (by omega))
  rw [Nat.zero_add]
  rw [show t/2*2+t%2=t by omega] at this
  exact this
 ·simp [World.frozen?,hb]
theorem YQ {f:Nat} {ps:List PU} {l l':List Cl} (h:Ez f ps l=some l'):f=230/\ps=[.func 231 [] []]/\l'=sortCl l:=by
 unfold Ez at h
 split at h
 ·injection h with h
  exact ⟨rfl,rfl,h.symm⟩
 ·cases h
theorem As (o:Obj):nT (LL o):=by
 intro f ps e l l' h
 have hi:JV f ps e l=some l':=h
 clear h
 cases e with
 |T=>cases hi
 |B=>cases hi
 |I=>cases hi
 |F=>cases hi
 |C=>
 obtain ⟨rfl,rfl,rfl⟩:=YQ hi
 refine ⟨⟨Tryz.f230,Tryz.func230,by kernel_rfl,rfl⟩,fun w vs N0 δ ο hg hδ=> ?_⟩
 have hs:vs.size=2:=hg.size
 obtain ⟨v0,v1,rfl⟩: ∃v0 v1,vs= #[v0,v1]:=by
  obtain ⟨l⟩:=vs
  match l,hs with
  |[v,v'],_=>exact ⟨v,v',rfl⟩
 have h0:ObOK (LL o) w (NB N0 0 (fun _=>0) δ) (gB UU 0 fun _=>0) ET.C l v0 .wr (δ 0):=hg.args 0 _ rfl
 have h1:Rep (LL o) w (NB N0 0 (fun _=>0) δ) (gB UU 0 fun _=>0) v1 (.func 231 [] []):=hg.args 1 _ rfl
 cases h1 with
 |func _ _ _ xs ys ha hb _ _=>
 have ha':xs= #[]:=by simpa using ha
 have hb':ys= #[]:=by simpa using hb
 subst ha';subst hb'
 obtain ⟨A,n,c,rfl,hl,hc,hcell,hm⟩:=h0.val
 have hl: @List.length Cl l=n:=hl
 cases hD:δ 0 with
 |none=>
  rw [hD] at hm hcell
  obtain ⟨rfl,rfl,rfl⟩:=hm.1 rfl
  have:l=([]:List Cl):=List.length_eq_zero_iff.1 hl
  subst this
  refine (afS none 0 w).mono ?_
  rintro e w' ⟨rfl,rfl⟩
  refine ⟨rfl,.refl _ _, ?_⟩
  rw [hD] at h0
  have:sortCl []=[]:=by simp [sortCl]
  rw [this]
  exact h0
 |some b=>
  rw [hD] at hm hcell
  obtain ⟨hu,cur,rfl,hblk,hsz,hmax⟩:=hm
  have hbl:b<w.heap.size:=(iF.1 hblk).1
  have hcs:cur.size=c*2:=hsz
  have hH:HoldsK iM 2 w b 0 l.toArray:=YC hblk hcs (hl▸hc) fun j x hx k hk=>by
   have hp: ∃p,(gE ET.C x)[k]? =some p/\p= .int .u32 (if k=0 then x.pos else x.neg):=by
    match k,hk with
    |0,_=>exact ⟨_,rfl,rfl⟩
    |1,_=>exact ⟨_,rfl,rfl⟩
   obtain ⟨p,hp,hpe⟩:=hp
   obtain ⟨a,v,ha,hv,hr,_⟩:=hcell j x hx k p hp
   injection ha with ha
   subst ha
   subst hpe
   have hv':w.cell? ⟨b,j*2+k,none⟩=some v:=by
    have:(⟨b,0,none⟩:Addr).add (j*(LL o).esize ET.C+k)=⟨b,j*2+k,none⟩:=by
     rw [Addr.add_lit'];show (⟨b,0+(j*2+k),none⟩:Addr)=_;congr 1;omega
    rw [this] at hv;exact hv
   rw [hv']
   cases hr
   match k,hk with
   |0,_=>rfl
   |1,_=>rfl
  have hlt: @List.length Cl l<4611686018427387904:=by
   have:n<=1099511627776:=hmax.2
   omega
  have hcall:=afR b c l w hH hbl hlt
  have he:(.slice (some ⟨b,0,none⟩) (@List.length Cl l) c:Value)= .slice (some ⟨b,0,none⟩) n c:=by rw [hl]
  rw [he] at hcall
  refine hcall.mono ?_
  rintro e w' ⟨rfl,m,os,rfl⟩
  have hlen:(sortCl l).length= @List.length Cl l:=List.length_mergeSort _
  have hH':=holdsK_sortWorldK_c iM 2 w b 0 l.toArray (sortCl l).toArray m os hH hbl hlen
  refine ⟨rfl,⟨rfl,rfl,rfl,size_sortWorldK_c iM 2 w b 0 m _ os,fun k hk hne=>afQ hk fun e=>hne ?_⟩, ?_⟩
  ·subst e
   exact List.mem_append_right _ (List.mem_filterMap.2 ⟨0,by simp,hD⟩)
  ·refine ⟨_,n,c,rfl,hlen.trans hl,hc,fun j x hx k p hp=> ?_, ?_⟩
   ·obtain ⟨hk,hrep⟩:=Vs x hp
    have hj:j<(sortCl l).length:=(gR.1 hx).1
    have:=(hH'.cell (i:=j) (c:=k) (by simpa using hj) hk).1
    have he:(sortCl l).toArray[j]! =x:=by
     have:=gR.1 hx
     rw [getElem!_pos _ j (by simpa using hj)];exact this.2
    rw [he] at this
    refine ⟨_,_,rfl, ?_,hrep _ _ _ _,fun h=>by cases h⟩
    have e:(⟨b,0,none⟩:Addr).add (j*(LL o).esize ET.C+k)=⟨b,0+j*2+k,none⟩:=by
     rw [Addr.add_lit'];show (⟨b,0+(j*2+k),none⟩:Addr)=_;congr 1;omega
    show World.cell? _ (Addr.add _ _)=_
    rw [e];exact this
   ·exact ⟨hu,_,rfl,afP hblk,by simp [putCells];exact hcs,hmax⟩
end Go.Proofs.YtgajalidbabccaaGreatDoor
namespace Go.Proofs.YtgajalidbabccaaGreatDoor
open Go PI Go.ChangeShapes Go.WideShapes Go.ChangeAt Go.RowKit
set_option maxRecDepth 100000
theorem own:ownKnob Tryz.prog.godebug=none:=by kernel_rfl
theorem JK:Tryz.prog.globalNamed "math/bits.deBruijn32tab" =some 0:=by kernel_rfl
section
variable {H:Type} {enc:TypeId×Value->H}
structure Kept (W W':World):Prop where
 os:W'.os=W.os
 output:W'.output=W.output
 size:W.heap.size<=W'.heap.size
 block: ∀b,b<W.heap.size->W'.heap[b]? =W.heap[b]?
theorem Kept.sameAt {W W':World} (h:Kept W W') {p:MemPlace} (hp:p.block<W.heap.size):W.sameAt W' p:=by
 cases p with
 |cell b o=>simp only [World.sameAt,World.cell?];rw [h.block b hp]
 |map b=>exact h.block b hp
theorem Kept.kept {W W':World} (h:Kept W W') (may:MemPlace->Prop):W.keptBut W' may:=by
 refine ⟨h.os,h.output,fun i hi=> ?_⟩
 rw [h.block i hi]
 cases W.heap[i]? with
 |none=>rfl
 |some o=>cases o with
  |cells c t fr=>exact ⟨rfl,rfl,rfl,fun _ _=>rfl⟩
  |map es clock=>exact .inr ⟨rfl,rfl⟩
  |_=>rfl
theorem If {W W':World} {sp:Nat->Bool} {held:Bool}: ∀ {ts:List TypeId} {vs:List Value} {ds:List (DataW H)} {ps:List MemPlace},
  DataW.TrodAll enc Tryz.prog W 0 sp held ts vs ds ps->(∀p∈ps,W.sameAt W' p)->DataW.TrodAll enc Tryz.prog W' 0 sp held ts vs ds ps
 |[],[],[],_,h,_=>h
 |_::_,_::_,_::_,_,⟨p,q,⟨n,h1⟩,h2,e⟩,hs=>
  ⟨p,q,⟨n,DataW.trod_carry n _ _ _ h1 fun x hx=>hs x (by rw [e];exact List.mem_append_left _ hx)⟩,If h2 (fun x hx=>hs x (by rw [e];exact List.mem_append_right _ hx)),e⟩
theorem kids:Kids Tryz.prog (· <Tryz.prog.types.size):=kids_rows (by kernel_rfl) (by kernel_rfl)
theorem full: ∀t e,t<Tryz.prog.types.size->Tryz.prog.underlying t=some (.slice e)->0<Tryz.prog.cellsOf e:=slices_full_of Tryz.prog (by kernel_rfl)
theorem acI {f:Func} {s:ChangeSpec} (hv:s.vars=[]) {fL fresh handsOn again:Bool} {W W':World} {args:Array Value} {ds gs:List (DataW H)} {before:List MemPlace} (hf:f.resultTypes= #[4])
  (hT: ∀t∈f.params.toList,t<Tryz.prog.types.size) (hs:s.fn H ds={results:=[.lit (.bool true)],args:=ds})
  (hW:DataW.Whole enc Tryz.prog f.params.toList s.vars fL W args.toList ds gs before) (hk:Kept W W'):s.post enc Tryz.prog f fL fresh handsOn again W args (.bool true) W':=by
 have hold: ∀p∈before,(fun b=>decide (b<W.heap.size)) p.block=true:=fun p hp=>by simpa using hW.lt p hp
 have hlt: ∀p∈before,p.block<W.heap.size:=fun p hp=>by simpa using hW.lt p hp
 have hW0:=hW
 obtain ⟨p,q,hA,hV,rfl,hz,hn⟩:=hW
 rw [hv] at hV
 obtain ⟨rfl,rfl⟩:=trodVars_none hV
 rw [eN] at hold hlt hz hn hW0
 have hs':s.fn H (ds++[])={results:=[.lit (.bool true)],args:=ds}:=by rw [eN];exact hs
 have hr:(Value.bool true).resultList f.resultTypes.size=[.bool true]:=by rw [hf];rfl
 have hres: ∀ (b:Nat) (sp:Nat->Bool) (hd:Bool),DataW.TrodAll enc Tryz.prog W' b sp hd f.resultTypes.toList ((Value.bool true).resultList f.resultTypes.size) (s.fn H (ds++[])).results []:=fun b sp hd=>by
  rw [hr,hs',hf]
  exact trodAll_cons_mk (shut_bool Tryz.underlying4 _) trodAll_mk0
 have hargs: ∀sp:Nat->Bool,(∀p'∈p,sp p'.block=true)->DataW.TrodAll enc Tryz.prog W' 0 sp true f.params.toList args.toList (s.fn H (ds++[])).args p:=fun sp hsp=>by
  rw [hs']
  exact DataW.TrodAll.respare kids full hT (If hA fun x hx=>hk.sameAt (hlt x hx)) hsp
 have hvars: ∀sp:Nat->Bool,DataW.TrodVars enc Tryz.prog W' sp s.vars (s.fn H (ds++[])).vars []:=fun sp=>by rw [hv,hs'];rfl
 refine ⟨ds,[],p,[],p,[],hW0,hres _ _ _,hargs _ hold,hvars _,World.keptBut_mono (fun p' hp=>hp.elim) (hk.kept fun _=>False),fun _=> ?_⟩
 refine ⟨fun j t r h1 h2=> ?_,_,_,([]++p)++[],⟨[]++p,[],trodAll_append (hargs _ (fun _ _=>rfl)) (hres _ _ _),hvars _,rfl, ?_, ?_⟩, ?_⟩
 ·rw [hf] at h1
  rw [hr] at h2
  match j,h1,h2 with
  |0,h1,h2=>cases h1;cases h2;exact okWide_bool_mk Tryz.underlying4 _
  |j+1,h1,h2=>simp at h2
 ·intro b off hp
  have hp':MemPlace.cell b off∈p:=by simpa using hp
  have:=hz b off hp'
  simp only [World.frozen?] at this ⊢
  rw [hk.block b (hlt _ hp')]
  exact this
 ·intro ha
  have:=hn ha
  simpa using this
 ·intro p' hp _
  simpa using hp
variable {w:World} {spare:Nat->Bool} {held:Bool} {o:Obj} {N:aQ} {g:Gh UU}
theorem Us {v:Value} {n:Nat} (h:v.cells.toList.length=n+2): ∃vs:Array Value,v= .agg vs/\vs.toList=v.cells.toList:=by
 cases v with
 |agg vs=>exact ⟨vs,rfl,rfl⟩
 |_=>simp [Value.cells] at h
theorem UK (hN: ∀b o,¬N b o) {v:Value} {d:DataW H} {ps:List MemPlace} (h:DataW.Trod enc Tryz.prog w 0 spare held 26 v d ps): ∃t:Tm,Rep (LL o) w N g v (.agg (gE ET.T t))/\QT t d:=by
 obtain ⟨n,hn⟩:=h
 obtain ⟨t,hr,hq⟩:=(acv (o:=o) (g:=g) hN n).1 _ _ _ hn
 obtain ⟨_,_,_,_,hl,_,_⟩:=DataW.trod_struct Tryz.underlying26 hn
 have hl6:v.cells.toList.length=6:=hl.trans (by kernel_rfl)
 obtain ⟨vs,rfl,hvs⟩:=Us (n:=4) hl6
 refine ⟨t,Rep.agg (X:=LL o) vs (gE ET.T t) (by rw [<-Array.length_toList,hvs,hl6];rfl) fun j p hp=> ?_,hq⟩
 obtain ⟨v',hv',hr'⟩:=hr j p hp
 have:vs.getD j undef=v':=by
  have h2:vs[j]? =some v':=by rw [<-Array.getElem?_toList,hvs];exact hv'
  rw [jc,h2];rfl
 rw [this];exact hr'
theorem Yu {o:Obj} {W:World} (h0:W.heap[0]? =some o) {vs:Array Value} {ps:List PU} (hs:vs.size=ps.length) (hp:ps.all PV.notFresh=true)
  (h: ∀ (j:Nat) p,ps[j]? =some p->Rep (LL o) W (NB (fun _ _=>False) 0 (fun _=>0) fun _=>none) (gB UU 0 fun _=>0) (vs.getD j undef) p):Given (LL o) W vs (fun _ _=>False) (fun _=>0) (fun _=>none) (fun _=> #[]) ps [] where
 bnd:=⟨fun i j hi=>absurd hi (Nat.not_lt_zero i),fun i hi=>absurd hi (Nat.not_lt_zero i),fun j b h=>(by cases h),fun i j b h=>(by cases h),fun j b h=>(by cases h),fun b o h=>h.elim⟩
 size:=hs
 dom:=fun j b h=>by cases h
 glob:=fun b o' hb=>by
  simp [LL] at hb
  obtain ⟨rfl,rfl⟩:=hb
  exact ⟨h0,fun i hi=>absurd hi (Nat.not_lt_zero i),fun j h=>by cases h⟩
 args:=fun j p hj=>RepG.of (h j p hj)
 boxes:=fun k b h=>by simp at h
 oz:=fun _ _=>rfl
theorem Fq: ∀b o,¬NB (fun _ _=>False) 0 (fun _=>0) (fun _=>none) b o:=by
 rintro b o (h|⟨k,hk,_⟩|⟨j,h⟩)
 ·exact h
 ·exact absurd hk (Nat.not_lt_zero k)
 ·cases h
theorem Vk {o:Obj} {f:FuncId} {ps:List PU} (hok:d5 (LL o) f ps [] (.ret (.bool true) [])) {W:World} {vs:Array Value} (hg:Given (LL o) W vs (fun _ _=>False) (fun _=>0) (fun _=>none) (fun _=> #[]) ps []):
  Calls Tryz.prog f vs W fun e W'=>e= .returned (.bool true)/\Kept W W':=by
 refine (hok.2 W vs _ _ _ _ hg).mono ?_
 rintro e W' he
 cases e with
 |returned rv=>
  obtain ⟨ν',δ',hb,hr⟩:=he
  have hr:Rep (LL o) W' _ _ rv (.bool true):=hr
  cases hr
  refine ⟨rfl,hb.ext.os,hb.ext.output,hb.ext.size,fun b hb'=>hb.ext.block b hb' fun hm=> ?_⟩
  simp [qz] at hm
 |panicked ch=>exact he.elim
 |outgrown=>exact he.elim
theorem age {H:Type}:(Rows.laid_math_bits_deBruijn32tab:DataW H)=Lib.tabData .u8 (Lib.deBruijn32tab.map fun n:Nat=>(n:Int)):=rfl
theorem agf {W:World} (h:laidMetH Tryz.prog [("math/bits.deBruijn32tab",Rows.laid_math_bits_deBruijn32tab)] W): ∃o,ai o/\W.heap[0]? =some o:=by
 have h':laidMet Tryz.prog [("math/bits.deBruijn32tab",Rows.laid_math_bits_deBruijn32tab)] W:=h
 rw [age] at h'
 have ht:Lib.TabIs Tryz.prog W "math/bits.deBruijn32tab" .u8 (Lib.deBruijn32tab.map fun n:Nat=>(n:Int)):=
  Lib.tabIs_of_head (rest:=[]) JK (by kernel_rfl) Tryz.underlying234 Tryz.underlying5 (by kernel_rfl) (by kernel_rfl) h'
 have hc: ∀j,j<Lib.deBruijn32tab.length->W.cell? ⟨0,j,none⟩=some (.int .u8 (Lib.deBruijn32tab.getD j 0:Nat)):=fun j hj=>by
  rw [ht.cell JK j (by simpa using hj)]
  simp [List.getD,hj]
 have h0:=hc 0 (by decide)
 cases hh:W.heap[0]? with
 |none=>simp [World.cell?,hh] at h0
 |some o=>
  cases o with
  |cells cur e fr=>
   refine ⟨_,⟨cur,e,fr,rfl,fun j hj=> ?_⟩,rfl⟩
   have:=hc j hj
   simpa [World.cell?,hh] using this
  |_=>simp [World.cell?,hh] at h0
end
end Go.Proofs.YtgajalidbabccaaGreatDoor
namespace Go.Proofs.YtgajalidbabccaaGreatDoor
open Go PI
set_option maxRecDepth 100000
noncomputable section
abbrev Rw (S:Type):=List PU->List (Box UU)->(Out UU->Option S)->Option S
abbrev Kn (S:Type):=(Out UU->Option S)->Option S
noncomputable def iI (n:Int):PU:= .int .i64 n
noncomputable def iU (n:Int):PU:= .int .u32 n
noncomputable def pt (i:Nat):PU:= .ptr i 0
noncomputable def aT (t:Tm):PU:= .agg [.int .i64 t.kind,.int .i64 t.n,.str t.name,dW t.r .none,iD t.kids .none,eR t.sys .none]
noncomputable def aC (c:Cl):PU:= .agg [.int .u32 c.pos,.int .u32 c.neg]
noncomputable def aB (b:Br Tm):PU:= .agg [dW b.face .none,iD b.kids .none]
noncomputable def bT (t:Tm):Box UU:= .cells [.int .i64 t.kind,.int .i64 t.n,.str t.name,dW t.r .none,iD t.kids .none,eR t.sys .none]
noncomputable def bC (c:Cl):Box UU:= .cells [.int .u32 c.pos,.int .u32 c.neg]
noncomputable def bI (n:Int):Box UU:= .cells [.int .i64 n]
noncomputable def bb (b:Bool):Box UU:= .cells [.bool b]
noncomputable def sC (l:List Cl):PU:=dW l .none
noncomputable def sT (l:List Tm):PU:=iD l .none
noncomputable def sB (l:List (Br Tm)):PU:=eR l .none
structure Cd where
 D:Type->Type
 k:{ρ:Type}->ρ->D ρ
 dec:{ρ:Type}->D ρ->PU->Option ρ
 A:{ρ:Type}->D ρ->(PU->ρ->Prop)->Prop
 law: ∀ {ρ:Type} (f:D ρ) (v:PU) (r:ρ) (Q:PU->ρ->Prop),A f Q->dec f v=some r->Q v r
structure Cs where
 D:Type->Type
 n:Nat
 k:{ρ:Type}->ρ->D ρ
 dec:{ρ:Type}->D ρ->List PU->Option ρ
 A:{ρ:Type}->D ρ->(List PU->ρ->Prop)->Prop
 law: ∀ {ρ:Type} (f:D ρ) (v:List PU) (r:ρ) (Q:List PU->ρ->Prop),A f Q->dec f v=some r->Q v r
 len: ∀ {ρ:Type} (f:D ρ) (v:List PU) (r:ρ),dec f v=some r->v.length=n
structure Bs where
 D:Type->Type
 n:Nat
 k:{ρ:Type}->ρ->D ρ
 dec:{ρ:Type}->D ρ->List (Box UU)->Option ρ
 A:{ρ:Type}->D ρ->(List (Box UU)->ρ->Prop)->Prop
 law: ∀ {ρ:Type} (f:D ρ) (v:List (Box UU)) (r:ρ) (Q:List (Box UU)->ρ->Prop),A f Q->dec f v=some r->Q v r
 len: ∀ {ρ:Type} (f:D ρ) (v:List (Box UU)) (r:ρ),dec f v=some r->v.length=n
noncomputable def cn:Cs where
 D ρ:=ρ
 n:=0
 k r:=r
 dec f:=fun|[]=>some f|_=> .none
 A f Q:=Q [] f
 law f v r Q h e:=by split at e<;>cases e;exact h
 len f v r e:=by split at e<;>cases e;rfl
noncomputable def cc (c:Cd) (s:Cs):Cs where
 D ρ:=c.D (s.D ρ)
 n:=s.n+1
 k r:=c.k (s.k r)
 dec f:=fun|v::l=>(c.dec f v).bind fun g=>s.dec g l|[]=> .none
 A f Q:=c.A f fun v g=>s.A g fun l r=>Q (v::l) r
 law f v r Q h e:=by
  split at e
  ·obtain ⟨g,h1,h2⟩:=Option.bind_eq_some_iff.1 e
   have:=s.law g _ r _ (c.law f _ g _ h h1) h2;exact this
  ·cases e
 len f v r e:=by
  split at e
  ·obtain ⟨g,h1,h2⟩:=Option.bind_eq_some_iff.1 e
   simp [s.len g _ r h2]
  ·cases e
noncomputable def xn:Bs where
 D ρ:=ρ
 n:=0
 k r:=r
 dec f:=fun|[]=>some f|_=> .none
 A f Q:=Q [] f
 law f v r Q h e:=by split at e<;>cases e;exact h
 len f v r e:=by split at e<;>cases e;rfl
noncomputable def xc (c:Cs) (s:Bs):Bs where
 D ρ:=c.D (s.D ρ)
 n:=s.n+1
 k r:=c.k (s.k r)
 dec f:=fun| .cells v::l=>(c.dec f v).bind fun g=>s.dec g l|_=> .none
 A f Q:=c.A f fun v g=>s.A g fun l r=>Q (.cells v::l) r
 law f v r Q h e:=by
  split at e
  ·obtain ⟨g,h1,h2⟩:=Option.bind_eq_some_iff.1 e
   have:=s.law g _ r _ (c.law f _ g _ h h1) h2;exact this
  ·cases e
 len f v r e:=by
  split at e
  ·obtain ⟨g,h1,h2⟩:=Option.bind_eq_some_iff.1 e
   simp [s.len g _ r h2]
  ·cases e
noncomputable def cI:Cd where
 D ρ:=Int->ρ
 k r:=fun _=>r
 dec f:=fun| .int .i64 n=>some (f n)|_=> .none
 A f Q:= ∀n:Int,Q (iI n) (f n)
 law f v r Q h e:=by split at e<;>cases e;exact h _
noncomputable def cU:Cd where
 D ρ:=Int->ρ
 k r:=fun _=>r
 dec f:=fun| .int .u32 n=>some (f n)|_=> .none
 A f Q:= ∀n:Int,Q (iU n) (f n)
 law f v r Q h e:=by split at e<;>cases e;exact h _
noncomputable def cN (kd:IntKind):Cd where
 D ρ:=Int->ρ
 k r:=fun _=>r
 dec f:=fun| .int q n=>(match decEq q kd with| .isTrue _=>some (f n)| .isFalse _=> .none)|_=> .none
 A f Q:= ∀n:Int,Q (.int kd n) (f n)
 law f v r Q h e:=by
  split at e
  ·split at e
   ·rename_i hq _;subst hq;cases e;exact h _
   ·cases e
  ·cases e
noncomputable def cb:Cd where
 D ρ:=Bool->ρ
 k r:=fun _=>r
 dec f:=fun| .bool n=>some (f n)|_=> .none
 A f Q:= ∀n:Bool,Q (.bool n) (f n)
 law f v r Q h e:=by split at e<;>cases e;exact h _
noncomputable def cs:Cd where
 D ρ:=ByteArray->ρ
 k r:=fun _=>r
 dec f:=fun| .str n=>some (f n)|_=> .none
 A f Q:= ∀n:ByteArray,Q (.str n) (f n)
 law f v r Q h e:=by split at e<;>cases e;exact h _
noncomputable def lC:Cd where
 D ρ:=List Cl->ρ
 k r:=fun _=>r
 dec f:=fun| .sl .C n .none=>some (f n)|_=> .none
 A f Q:= ∀n:List Cl,Q (sC n) (f n)
 law f v r Q h e:=by split at e<;>cases e;exact h _
noncomputable def lT:Cd where
 D ρ:=List Tm->ρ
 k r:=fun _=>r
 dec f:=fun| .sl .T n .none=>some (f n)|_=> .none
 A f Q:= ∀n:List Tm,Q (sT n) (f n)
 law f v r Q h e:=by split at e<;>cases e;exact h _
noncomputable def lB:Cd where
 D ρ:=List (Br Tm)->ρ
 k r:=fun _=>r
 dec f:=fun| .sl .B n .none=>some (f n)|_=> .none
 A f Q:= ∀n:List (Br Tm),Q (sB n) (f n)
 law f v r Q h e:=by split at e<;>cases e;exact h _
noncomputable def lI:Cd where
 D ρ:=List Int->ρ
 k r:=fun _=>r
 dec f:=fun| .sl .I n .none=>some (f n)|_=> .none
 A f Q:= ∀n:List Int,Q (qU n .none) (f n)
 law f v r Q h e:=by split at e<;>cases e;exact h _
noncomputable def lF:Cd where
 D ρ:=List (List Cl)->ρ
 k r:=fun _=>r
 dec f:=fun| .sl .F n .none=>some (f n)|_=> .none
 A f Q:= ∀n:List (List Cl),Q (BT n .none) (f n)
 law f v r Q h e:=by split at e<;>cases e;exact h _
noncomputable def hC:Cd where
 D ρ:=List Cl->ρ
 k r:=fun _=>r
 dec f:=fun| .fresh .C n=>some (f n)|_=> .none
 A f Q:= ∀n:List Cl,Q (Em n) (f n)
 law f v r Q h e:=by split at e<;>cases e;exact h _
noncomputable def hT:Cd where
 D ρ:=List Tm->ρ
 k r:=fun _=>r
 dec f:=fun| .fresh .T n=>some (f n)|_=> .none
 A f Q:= ∀n:List Tm,Q (JF n) (f n)
 law f v r Q h e:=by split at e<;>cases e;exact h _
noncomputable def hB:Cd where
 D ρ:=List (Br Tm)->ρ
 k r:=fun _=>r
 dec f:=fun| .fresh .B n=>some (f n)|_=> .none
 A f Q:= ∀n:List (Br Tm),Q (pY n) (f n)
 law f v r Q h e:=by split at e<;>cases e;exact h _
noncomputable def nB:Cd where
 D ρ:=ρ
 k r:=r
 dec f:=fun| .sl .B l .nil=>(match (l:List (Br Tm)) with|[]=>some f|_::_=> .none)|_=> .none
 A f Q:=Q (eR [] .nil) f
 law f v r Q h e:=by
  split at e
  ·split at e
   ·cases e;exact h
   ·cases e
  ·cases e
noncomputable def cT:Cd where
 D ρ:=Tm->ρ
 k r:=fun _=>r
 dec f:=fun| .agg [.int .i64 a,.int .i64 b,.str c,.sl .C d .none,.sl .T e .none,.sl .B g .none]=>some (f (Tm.mk a b c d e g))|_=> .none
 A f Q:= ∀t:Tm,Q (aT t) (f t)
 law f v r Q h e:=by split at e<;>cases e;exact h (Tm.mk _ _ _ _ _ _)
noncomputable def cC:Cd where
 D ρ:=Cl->ρ
 k r:=fun _=>r
 dec f:=fun| .agg [.int .u32 a,.int .u32 b]=>some (f ⟨a,b⟩)|_=> .none
 A f Q:= ∀t:Cl,Q (aC t) (f t)
 law f v r Q h e:=by split at e<;>cases e;exact h (⟨_,_⟩)
noncomputable def cB:Cd where
 D ρ:=Br Tm->ρ
 k r:=fun _=>r
 dec f:=fun| .agg [.sl .C a .none,.sl .T b .none]=>some (f (Br.mk a b))|_=> .none
 A f Q:= ∀t:Br Tm,Q (aB t) (f t)
 law f v r Q h e:=by split at e<;>cases e;exact h (Br.mk _ _)
noncomputable def xT (s:Bs):Bs where
 D ρ:=Tm->s.D ρ
 n:=s.n+1
 k r:=fun _=>s.k r
 dec f:=fun| .cells [.int .i64 a,.int .i64 b,.str c,.sl .C d .none,.sl .T e .none,.sl .B g .none]::l=>s.dec (f (Tm.mk a b c d e g)) l|_=> .none
 A f Q:= ∀t:Tm,s.A (f t) fun l r=>Q (bT t::l) r
 law f v r Q h e:=by
  split at e
  ·have:=s.law _ _ r _ (h (Tm.mk _ _ _ _ _ _)) e;exact this
  ·cases e
 len f v r e:=by
  split at e
  ·simp [s.len _ _ r e]
  ·cases e
noncomputable def xC (s:Bs):Bs where
 D ρ:=Cl->s.D ρ
 n:=s.n+1
 k r:=fun _=>s.k r
 dec f:=fun| .cells [.int .u32 a,.int .u32 b]::l=>s.dec (f ⟨a,b⟩) l|_=> .none
 A f Q:= ∀t:Cl,s.A (f t) fun l r=>Q (bC t::l) r
 law f v r Q h e:=by
  split at e
  ·have:=s.law _ _ r _ (h (⟨_,_⟩)) e;exact this
  ·cases e
 len f v r e:=by
  split at e
  ·simp [s.len _ _ r e]
  ·cases e
noncomputable def xI (s:Bs):Bs where
 D ρ:=Int->s.D ρ
 n:=s.n+1
 k r:=fun _=>s.k r
 dec f:=fun| .cells [.int .i64 a]::l=>s.dec (f a) l|_=> .none
 A f Q:= ∀t:Int,s.A (f t) fun l r=>Q (bI t::l) r
 law f v r Q h e:=by
  split at e
  ·have:=s.law _ _ r _ (h _) e;exact this
  ·cases e
 len f v r e:=by
  split at e
  ·simp [s.len _ _ r e]
  ·cases e
noncomputable def cp (i:Nat):Cd where
 D ρ:=ρ
 k r:=r
 dec f:=fun| .ptr j 0=>(match decEq j i with| .isTrue _=>some f| .isFalse _=> .none)|_=> .none
 A f Q:=Q (pt i) f
 law f v r Q h e:=by
  split at e
  ·split at e
   ·rename_i hq _;subst hq;cases e;exact h
   ·cases e
  ·cases e
noncomputable def cg (s:Cs):Cd where
 D ρ:=s.D ρ
 k r:=s.k r
 dec f:=fun| .agg l=>s.dec f l|_=> .none
 A f Q:=s.A f fun l r=>Q (.agg l) r
 law f v r Q h e:=by
  split at e
  ·have:=s.law f _ r _ h e;exact this
  ·cases e
noncomputable def cf (i:Nat) (s:Cs) (u:Cs):Cd where
 D ρ:=s.D (u.D ρ)
 k r:=s.k (u.k r)
 dec f:=fun| .func j l m=>(match decEq j i with| .isTrue _=>(s.dec f l).bind fun g=>u.dec g m| .isFalse _=> .none)|_=> .none
 A f Q:=s.A f fun l g=>u.A g fun m r=>Q (.func i l m) r
 law f v r Q h e:=by
  split at e
  ·split at e
   ·rename_i hq _
    subst hq
    obtain ⟨g,h1,h2⟩:=Option.bind_eq_some_iff.1 e
    have:=u.law g _ r _ (s.law f _ g _ h h1) h2;exact this
   ·cases e
  ·cases e
noncomputable def ah {S:Type} (K:Cs) (B:Bs) (F:K.D (B.D (Kn S))):Rw S:=fun vs bs κ=>(K.dec F vs).bind fun g=>(B.dec g bs).bind fun h=>h κ
noncomputable def pW (K:Cs) (B:Bs) (vs:List PU) (bs:List (Box UU)):Bool:=((K.dec (K.k (B.k ())) vs).bind fun g=>B.dec g bs).isSome
noncomputable def AA {S:Type} (K:Cs) (B:Bs) (F:K.D (B.D (Kn S))) (Q:List PU->List (Box UU)->Kn S->Prop):Prop:=K.A F fun vs g=>B.A g fun bs h=>Q vs bs h
theorem wg {S:Type} {K:Cs} {B:Bs} {F:K.D (B.D (Kn S))} {Q:List PU->List (Box UU)->Kn S->Prop} (hA:AA K B F Q) {vs:List PU} {bs:List (Box UU)} {κ:Out UU->Option S} {x:S} (h:ah K B F vs bs κ=some x):
  ∃g,Q vs bs g/\g κ=some x/\vs.length=K.n/\bs.length=B.n:=by
 obtain ⟨g,h1,h2⟩:=Option.bind_eq_some_iff.1 h
 obtain ⟨u,h3,h4⟩:=Option.bind_eq_some_iff.1 h2
 have:=K.law F vs g _ hA h1
 have:=B.law g bs u _ this h3
 exact ⟨u,this,h4,K.len _ _ _ h1,B.len _ _ _ h3⟩
noncomputable def Tl {S:Type} (o:Obj) (f:Nat) (r:Rw S):Prop:= ∀vs bs κ x,r vs bs κ=some x-> ∃out,d5 (LL o) f vs bs out/\κ out=some x
noncomputable def wm {S:Type}:List (Nat×Rw S)->Oracle UU S
 |[],_,_,_,_=> .none
 |(g,r)::l,f,vs,bs,κ=>bif ay f g then r vs bs κ else wm l f vs bs κ
noncomputable def TA {S:Type} (o:Obj):List (Nat×Rw S)->Prop
 |[]=>True
 |(f,r)::l=>Tl o f r/\TA o l
theorem TA.tells {S:Type} {o:Obj}: ∀ {l:List (Nat×Rw S)},TA o l->(wm l).Tells (d5 (LL o))
 |[],_,f,vs,bs,κ,x,h=>by cases h
 |(g,r)::l,hl,f,vs,bs,κ,x,h=>by
  unfold wm at h
  cases hb:ay f g with
  |true=>
   rw [hb] at h
   have:=Nat.eq_of_beq_eq_true hb
   subst this
   exact hl.1 _ _ _ _ h
  |false=>
   rw [hb] at h
   exact TA.tells hl.2 _ _ _ _ _ h
noncomputable def nG {S:Type} (b:List PU->List (Box UU)->Bool) (r q:Rw S):Rw S:=fun vs bs κ=>bif b vs bs then r vs bs κ else q vs bs κ
theorem qF {S:Type} {o:Obj} {f:Nat} {b:List PU->List (Box UU)->Bool} {r q:Rw S} (h1:Tl o f r) (h2:Tl o f q):Tl o f (nG b r q):=fun vs bs κ x h=>by
 unfold nG at h
 rcases U4 h with h|h
 ·exact h1 _ _ _ _ h
 ·exact h2 _ _ _ _ h
structure Fx (S:Type) where
 sd:Side UU
 rows:List (Nat×Rw S)
 loops:List (Nat×Ann×List Bool)
 k:Nat
 fn:Func
 kp:Bool
 hn:List Bool
 nb:Nat
 cd:Option (PU->Oracle UU S)
noncomputable def Ii:List (Nat×Ann×List Bool)->Nat->Option Ann
 |[],_=> .none
 |(i,a,_)::l,n=>bif ay n i then some a else Ii l n
noncomputable def E7:List (Nat×Ann×List Bool)->Nat->Ann×List Bool
 |[],_=>(⟨[],[]⟩,[])
 |(i,a)::l,n=>bif ay n i then a else E7 l n
noncomputable def dJ (rs:List Nat) (bs:List (Nat×Nat)):Ann:=⟨rs.map fun n=>(n,.none),bs.map fun p=>(p.1,List.replicate p.2 .none)⟩
noncomputable def bG:Nat->Nat->List Bool
 |0,_=>[]
 |n+1,b=>ay (b%2) 1::bG n (b/2)
noncomputable def fx {S:Type} (nt:Nat) (gv:Nat->List Bool) (ip:Nat->Bool) (rows:List (Nat×Rw S)) (loops:List (Nat×Ann×List Bool)) (k:Nat) (fn:Func) (kp:Bool) (hn:List Bool) (nb:Nat):Fx S:=
 ⟨⟨nt,gv,ip,.none,fun _=>false⟩,rows,loops,k,fn,kp,hn,nb,.none⟩
noncomputable def fp {S:Type} (nt:Nat) (rows:List (Nat×Rw S)) (loops:List (Nat×Ann×List Bool)) (k:Nat) (fn:Func) (nb:Nat):Fx S:=fx nt (fun _=>[]) (fun _=>false) rows loops k fn false [] nb
variable {S:Type}
noncomputable def Fx.oc (F:Fx S):Oracle UU S:=wm F.rows
noncomputable def Fx.an (F:Fx S):Nat->Option Ann:=Ii F.loops
noncomputable def Fx.go (F:Fx S) (c:Code) (σ:St UU) (κ:Ex UU->St UU->Option S):Option S:=PI.run VV F.sd F.oc F.an F.k c σ κ
noncomputable def Fx.kt (F:Fx S) (κ:Out UU->Option S) (p:List Bool) (κs:List (St UU->Option S)):Ex UU->St UU->Option S:=match F.cd with
 | .none=>nu VV F.sd F.oc F.an F.k (kI F.fn) p κs F.an (kF VV F.oc F.kp F.hn F.fn F.nb κ)
 |some C=>Kv VV F.sd F.oc F.an F.k (kI F.fn) p κs F.an (kF VV F.oc F.kp F.hn F.fn F.nb κ) (kD VV F.oc C F.kp F.hn F.fn F.nb κ)
noncomputable def Fx.run (F:Fx S) (vs:List PU) (bs:List (Box UU)) (κ:Out UU->Option S):Option S:=match F.cd with
 | .none=>tP VV F.sd F.oc F.an F.k F.kp F.hn F.fn vs bs κ
 |some C=>Gs VV F.sd F.oc F.an F.k C F.kp F.hn F.fn vs bs κ
noncomputable def Fx.A (F:Fx S) (i:Nat):Ann:=(E7 F.loops i).1
noncomputable def Fx.p (F:Fx S) (i:Nat):List Bool:=(E7 F.loops i).2
noncomputable def Fx.lp (F:Fx S) (κ:Out UU->Option S) (i:Nat) (κs:List (St UU->Option S)) (n:Nat) (σ:St UU):Option S:=
 vS (gU (F.A i)) (fun σ κ=>F.go (lq (kI F.fn) (F.p i++[false])) σ κ) n σ (F.kt κ (F.p i) κs)
noncomputable def Fx.st (F:Fx S) (κ:Out UU->Option S) (i:Nat) (κs:List (St UU->Option S)) (r:St UU->Option S) (σ:St UU):Option S:=
 F.go (lq (kI F.fn) (F.p i++[false])) σ (back (gU (F.A i)) r (F.kt κ (F.p i) κs))
noncomputable def Fx.jn (F:Fx S) (κ:Out UU->Option S) (i:Nat) (κs:List (St UU->Option S)) (n:Nat) (σ:St UU):Option S:=
 ED (fun σ κ=>F.go (lq (kI F.fn) (F.p i)) σ κ) n σ (F.kt κ (F.p i) κs)
noncomputable def Fx.sj (F:Fx S) (κ:Out UU->Option S) (i:Nat) (κs:List (St UU->Option S)) (σ:St UU):Option S:=F.go (lq (kI F.fn) (F.p i)) σ (F.kt κ (F.p i) κs)
theorem Fx.lp_succ (F:Fx S) (κ:Out UU->Option S) (i:Nat) (κs:List (St UU->Option S)) (n:Nat) (σ:St UU):F.lp κ i κs (n+1) σ=F.st κ i κs (fun τ=>F.lp κ i κs n τ) σ:=rfl
theorem Fx.jn_succ (F:Fx S) (κ:Out UU->Option S) (i:Nat) (κs:List (St UU->Option S)) (n:Nat) (σ:St UU):F.jn κ i κs (n+1) σ=F.sj κ i κs σ:=rfl
noncomputable def tq (F:Fx S) (n m:Nat):Bool:=(F.fn.name== "runtime.NumGoroutine")==false&&(F.fn.body.isNone==false&&(ay F.fn.ntmps F.sd.nt&&(dI F.sd.nt 1000000&&(dI n F.sd.nt&&dI m 1000000))))
theorem Fs {F:Fx S} {n m:Nat} (h:tq F n m=true):(F.fn.name== "runtime.NumGoroutine")=false/\F.fn.body.isNone=false/\F.fn.ntmps=F.sd.nt/\F.sd.nt<=1000000/\n<=F.sd.nt/\m<=1000000:=by
 unfold tq at h
 simp only [af,beq_iff_eq] at h
 obtain ⟨h1,h2,h3,h4,h5,h6⟩:=h
 exact ⟨h1,h2,Nat.eq_of_beq_eq_true h3,Nat.le_of_ble_eq_true h4,Nat.le_of_ble_eq_true h5,Nat.le_of_ble_eq_true h6⟩
theorem tlG {o:Obj} {K:Cs} {B:Bs} {R:K.D (B.D (Kn S))} (F:Fx S) {f:FuncId} (ht:TA o F.rows) (hf:Tryz.prog.funcs[f]? =some F.fn) (hb:tq F K.n B.n=true) (run:AA K B R fun vs bs g=> ∀κ x,g κ=some x->F.run vs bs κ=some x)
  (h1:F.sd.rcv= .none:=by rfl) (h2:F.sd.pin=(fun _=>false):=by rfl) (h3:F.cd= .none:=by rfl):Tl o f (ah K B R):=fun vs bs κ x h=>by
 obtain ⟨g,hg,hx,hl,hm⟩:=wg run h
 have hr:=hg κ x hx
 unfold Fx.run at hr
 rw [h3] at hr
 obtain ⟨b1,b2,b3,b4,b5,b6⟩:=Fs hb
 exact sw (OH AO (As o) h1 h2 ht.tells hf b1 b2 b3 b4 (by omega) hr)
open Classical in
noncomputable def Dt {S:Type} (bs:List (Box UU)) (κ:Out UU->Option S):Out UU->Option S
 | .ret v cs=>if cs=bs then κ (.ret v []) else .none
 | .panic .. => .none
theorem tlS {S:Type} {o:Obj} {K:Cs} {B:Bs} {R:K.D (B.D (Kn S))} {f:FuncId} {r:Rw S} (h:Tl o f r) (run:AA K B R fun vs bs g=> ∀κ x,g κ=some x->r vs bs (Dt bs κ)=some x):Tl o f (ah K B R):=fun vs bs κ x hx=>by
 obtain ⟨g,hg,hx,_⟩:=wg run hx
 obtain ⟨out,hok,hκ⟩:=h _ _ _ _ (hg κ x hx)
 cases out with
 |panic v cs=>cases hκ
 |ret v cs=>
  simp only [Dt] at hκ
  split at hκ
  case isFalse=>cases hκ
  rename_i hc
  subst hc
  refine ⟨.ret v [], ?_,hκ⟩
  have e:Out.full cs (.ret v [])=Out.full cs (.ret v cs):=by
   have hb:dI cs.length cs.length=true:=by simp
   simp only [Out.full,hb,cond_true]
   cases cs<;>rfl
  unfold d5
  rw [e]
  exact hok
open Classical in
noncomputable def uO {S:Type} (n m:Nat) (bs:List (Box UU)) (κ:Out UU->Option S):Out UU->Option S
 | .ret v cs=>match cs[n]? with
  |some (.cells a)=>if dI bs.length 1=false/\nH bs [.cells (.int .i64 n::a.take m)]=cs then κ (.ret v [.cells (.int .i64 n::a.take m)]) else .none
  |_=> .none
 | .panic .. => .none
theorem HK {S:Type} {o:Obj} {K:Cs} {B:Bs} {R:K.D (B.D (Kn S))} {f:FuncId} {r:Rw S} {n m:Nat} (h:Tl o f r) (run:AA K B R fun vs bs g=> ∀κ x,g κ=some x->r vs bs (uO n m bs κ)=some x):Tl o f (ah K B R):=fun vs bs κ x hx=>by
 obtain ⟨g,hg,hx,_⟩:=wg run hx
 obtain ⟨out,hok,hκ⟩:=h _ _ _ _ (hg κ x hx)
 cases out with
 |panic v cs=>cases hκ
 |ret v cs=>
  simp only [uO] at hκ
  split at hκ
  case h_2=>cases hκ
  rename_i a ha
  split at hκ
  case isFalse=>cases hκ
  rename_i hc
  obtain ⟨hl,hc⟩:=hc
  refine ⟨.ret v _, ?_,hκ⟩
  have e:Out.full bs (.ret v [.cells (.int .i64 n::a.take m)])=Out.full bs (.ret v cs):=by
   have h1:Out.full bs (.ret v [.cells (.int .i64 n::a.take m)])= .ret v cs:=by
    simp only [Out.full]
    rw [show [(Box.cells (.int .i64 n::a.take m):Box UU)].length=1 from rfl,hl,cond_false,hc]
   have h2:cs.length=bs.length:=by
    rw [<-hc];unfold nH;split<;>(try split)<;>simp
   have h3:dI bs.length cs.length=true:=by rw [h2];simp
   rw [h1]
   simp only [Out.full,h3,cond_true]
  unfold d5
  rw [e]
  exact hok
theorem mJ {o:Obj} {K:Cs} {B:Bs} {R:K.D (B.D (Kn S))} {f:FuncId} (h0:AA K B R fun vs bs g=> ∀κ x,g κ=some x->False):Tl o f (ah K B R):=fun vs bs κ x h=>by
 obtain ⟨g,hg,hx,_⟩:=wg h0 h
 exact (hg κ x hx).elim
noncomputable def yG (nt f:Nat) (fn:Func) (k:Nat):PU->Oracle UU S:=fun v g vs bs κ=>bif ay g f&&dI vs.length nt then Gt VV ⟨nt,fun _=>[],fun _=>false,.none,fun _=>false⟩ (wm []) (fun _=> .none) k true [] fn v vs bs κ else .none
theorem IA (o:Obj) {nt f:Nat} {fn:Func} {k:Nat} (hf:Tryz.prog.funcs[f]? =some fn) (hb:tq (fp nt [] [] k fn 0:Fx S) 0 0=true): ∀v u u',RcvOK v u u'->(yG (S:=S) nt f fn k v).Tells (ma (LL o) (mR Tryz.prog u u')):=by
 intro v u u' hv g vs bs κ x h
 unfold yG at h
 cases hc:ay g f&&dI vs.length nt with
 |false=>rw [hc] at h;cases h
 |true=>
  rw [hc] at h
  rw [af] at hc
  have:=Nat.eq_of_beq_eq_true hc.1
  subst this
  obtain ⟨b1,b2,b3,b4,_,_⟩:=Fs hb
  exact sw (ad6 AO (As o) rfl rfl (TA.tells (l:=[]) (o:=o) trivial) hf b1 b2 b3 b4 hv (Nat.le_of_ble_eq_true hc.2) h)
theorem PP {o:Obj} {K:Cs} {B:Bs} {R:K.D (B.D (Kn S))} (F:Fx S) {f:FuncId} {C:PU->Oracle UU S} (h3:F.cd=some C) (hC: ∀v u u',RcvOK v u u'->(C v).Tells (ma (LL o) (mR Tryz.prog u u'))) (ht:TA o F.rows) (hf:Tryz.prog.funcs[f]? =some F.fn) (hb:tq F K.n B.n=true)
  (run:AA K B R fun vs bs g=> ∀κ x,g κ=some x->F.run vs bs κ=some x) (h1:F.sd.rcv= .none:=by rfl):Tl o f (ah K B R):=fun vs bs κ x h=>by
 obtain ⟨g,hg,hx,hl,hm⟩:=wg run h
 have hr:=hg κ x hx
 unfold Fx.run at hr
 rw [h3] at hr
 obtain ⟨b1,b2,b3,b4,b5,b6⟩:=Fs hb
 exact sw (ad4 AO (As o) h1 ht.tells hC hf b1 b2 b3 b4 (by omega) (by omega) hr)
theorem al {o:Obj} {K:Cs} {B:Bs} {R:K.D (B.D (Kn S))} (F:Fx S) {f:FuncId} (ht:TA o F.rows) (hf:Tryz.prog.funcs[f]? =some F.fn) (run:AA K B R fun vs bs g=> ∀κ x,g κ=some x->F.run vs bs κ=some x) (hb:tq F K.n B.n=true:=by kernel_rfl)
  (h1:F.sd.rcv= .none:=by rfl) (h2:F.sd.pin=(fun _=>false):=by rfl) (h3:F.cd= .none:=by rfl):Tl o f (ah K B R):=tlG F ht hf hb run h1 h2 h3
theorem EC {F:Fx S} {κ:Out UU->Option S} {i:Nat} {κs:List (St UU->Option S)} {mk:St UU} {l:Nat->Option S} (b:Option S) (h0:l 0= .none:=by rfl) (hs: ∀n,l (n+1)=b:=by intros;rfl) (B:F.sj κ i κs mk=b:=by intros;kernel_rfl): ∀ (n:Nat),F.jn κ i κs n mk=l n:=by
 intro n
 cases n with
 |zero=>intros;rw [h0];rfl
 |succ n=>intros;rw [hs,Fx.jn_succ];exact B
theorem iA {F:Fx S} {κ:Out UU->Option S} {i:Nat} {κs:List (St UU->Option S)} {α0:Type} {mk:α0->St UU} {l:Nat->α0->Option S} (b:(α0->Option S)->α0->Option S) (h0:l 0=fun x0=> .none:=by rfl) (hs: ∀n,l (n+1)=b (l n):=by intros;rfl) (B: ∀ (r:St UU->Option S) x0,F.st κ i κs r (mk x0)=b (fun x0=>r (mk x0)) x0:=by intros;kernel_rfl): ∀ (n:Nat) x0,F.lp κ i κs n (mk x0)=l n x0:=by
 intro n
 induction n with
 |zero=>intros;rw [h0];rfl
 |succ n ih=>
  intros
  rw [hs,Fx.lp_succ,B]
  exact congrArg (fun g=>b g _) (funext fun x0=>ih x0)
theorem JY {F:Fx S} {κ:Out UU->Option S} {i:Nat} {κs:List (St UU->Option S)} {α0:Type} {mk:α0->St UU} {l:Nat->α0->Option S} (b:α0->Option S) (h0:l 0=fun x0=> .none:=by rfl) (hs: ∀n,l (n+1)=b:=by intros;rfl) (B: ∀x0,F.sj κ i κs (mk x0)=b x0:=by intros;kernel_rfl): ∀ (n:Nat) x0,F.jn κ i κs n (mk x0)=l n x0:=by
 intro n
 cases n with
 |zero=>intros;rw [h0];rfl
 |succ n=>intros;rw [hs,Fx.jn_succ];exact B _
theorem dQ {F:Fx S} {κ:Out UU->Option S} {i:Nat} {κs:List (St UU->Option S)} {α0 α1:Type} {mk:α0->α1->St UU} {l:Nat->α0->α1->Option S} (b:(α0->α1->Option S)->α0->α1->Option S) (h0:l 0=fun x0 x1=> .none:=by rfl) (hs: ∀n,l (n+1)=b (l n):=by intros;rfl) (B: ∀ (r:St UU->Option S) x0 x1,F.st κ i κs r (mk x0 x1)=b (fun x0 x1=>r (mk x0 x1)) x0 x1:=by intros;kernel_rfl): ∀ (n:Nat) x0 x1,F.lp κ i κs n (mk x0 x1)=l n x0 x1:=by
 intro n
 induction n with
 |zero=>intros;rw [h0];rfl
 |succ n ih=>
  intros
  rw [hs,Fx.lp_succ,B]
  exact congrArg (fun g=>b g _ _) (funext fun x0=>funext fun x1=>ih x0 x1)
theorem JZ {F:Fx S} {κ:Out UU->Option S} {i:Nat} {κs:List (St UU->Option S)} {α0 α1:Type} {mk:α0->α1->St UU} {l:Nat->α0->α1->Option S} (b:α0->α1->Option S) (h0:l 0=fun x0 x1=> .none:=by rfl) (hs: ∀n,l (n+1)=b:=by intros;rfl) (B: ∀x0 x1,F.sj κ i κs (mk x0 x1)=b x0 x1:=by intros;kernel_rfl): ∀ (n:Nat) x0 x1,F.jn κ i κs n (mk x0 x1)=l n x0 x1:=by
 intro n
 cases n with
 |zero=>intros;rw [h0];rfl
 |succ n=>intros;rw [hs,Fx.jn_succ];exact B _ _
theorem ko {F:Fx S} {κ:Out UU->Option S} {i:Nat} {κs:List (St UU->Option S)} {α0 α1 α2:Type} {mk:α0->α1->α2->St UU} {l:Nat->α0->α1->α2->Option S} (b:(α0->α1->α2->Option S)->α0->α1->α2->Option S) (h0:l 0=fun x0 x1 x2=> .none:=by rfl) (hs: ∀n,l (n+1)=b (l n):=by intros;rfl) (B: ∀ (r:St UU->Option S) x0 x1 x2,F.st κ i κs r (mk x0 x1 x2)=b (fun x0 x1 x2=>r (mk x0 x1 x2)) x0 x1 x2:=by intros;kernel_rfl): ∀ (n:Nat) x0 x1 x2,F.lp κ i κs n (mk x0 x1 x2)=l n x0 x1 x2:=by
 intro n
 induction n with
 |zero=>intros;rw [h0];rfl
 |succ n ih=>
  intros
  rw [hs,Fx.lp_succ,B]
  exact congrArg (fun g=>b g _ _ _) (funext fun x0=>funext fun x1=>funext fun x2=>ih x0 x1 x2)
theorem abA {F:Fx S} {κ:Out UU->Option S} {i:Nat} {κs:List (St UU->Option S)} {α0 α1 α2 α3 α4 α5 α6 α7 α8 α9 α10:Type} {mk:α0->α1->α2->α3->α4->α5->α6->α7->α8->α9->α10->St UU} {l:Nat->α0->α1->α2->α3->α4->α5->α6->α7->α8->α9->α10->Option S} (b:(α0->α1->α2->α3->α4->α5->α6->α7->α8->α9->α10->Option S)->α0->α1->α2->α3->α4->α5->α6->α7->α8->α9->α10->Option S) (h0:l 0=fun x0 x1 x2 x3 x4 x5 x6 x7 x8 x9 x10=> .none:=by rfl) (hs: ∀n,l (n+1)=b (l n):=by intros;rfl) (B: ∀ (r:St UU->Option S) x0 x1 x2 x3 x4 x5 x6 x7 x8 x9 x10,F.st κ i κs r (mk x0 x1 x2 x3 x4 x5 x6 x7 x8 x9 x10)=b (fun x0 x1 x2 x3 x4 x5 x6 x7 x8 x9 x10=>r (mk x0 x1 x2 x3 x4 x5 x6 x7 x8 x9 x10)) x0 x1 x2 x3 x4 x5 x6 x7 x8 x9 x10:=by intros;kernel_rfl): ∀ (n:Nat) x0 x1 x2 x3 x4 x5 x6 x7 x8 x9 x10,F.lp κ i κs n (mk x0 x1 x2 x3 x4 x5 x6 x7 x8 x9 x10)=l n x0 x1 x2 x3 x4 x5 x6 x7 x8 x9 x10:=by
 intro n
 induction n with
 |zero=>intros;rw [h0];rfl
 |succ n ih=>
  intros
  rw [hs,Fx.lp_succ,B]
  exact congrArg (fun g=>b g _ _ _ _ _ _ _ _ _ _ _) (funext fun x0=>funext fun x1=>funext fun x2=>funext fun x3=>funext fun x4=>funext fun x5=>funext fun x6=>funext fun x7=>funext fun x8=>funext fun x9=>funext fun x10=>ih x0 x1 x2 x3 x4 x5 x6 x7 x8 x9 x10)
end
end Go.Proofs.YtgajalidbabccaaGreatDoor
namespace Go.Proofs.YtgajalidbabccaaGreatDoor
open Go PI
set_option maxRecDepth 100000
noncomputable def xk:Side UU:=⟨8,fun _=>[],fun _=>false,.none,fun _=>false⟩
noncomputable def AS {S:Type}:Oracle UU S:=fun _ _ _ _=> .none
theorem c1 {S:Type} (κ:Out UU->Option S):tP VV xk AS (fun _=> .none) 5 false [] Tryz.f91 [.sl (U:=UU) ET.C [] .void] [] κ=κ (.ret (dW [] .none) []):=by kernel_rfl
theorem c2 {S:Type} (l:List Cl) (κ:Out UU->Option S):tP VV xk AS (fun _=> .none) 5 false [] Tryz.f91 [.sl (U:=UU) ET.C l .sure] [] κ=ag (bH 1099511627776 0 l.length) fun _=>κ (.ret (dW l .none) []):=by kernel_rfl
theorem acz {S:Type} (o:Obj):(AS (S:=S)).Tells (d5 (LL o)):=fun _ _ _ _ _ h=>by cases h
theorem IB (o:Obj) {args:List PU} (hl:args.length=1) {out:Out UU} (h:tP VV xk AS (fun _=> .none) 5 false [] Tryz.f91 args [] some=some out):d5 (LL o) 91 args [] out:=by
 obtain ⟨out',h1,h2⟩:=OH AO (As o) (S:=xk) rfl rfl (acz o) (f:=91) Tryz.func91 (by kernel_rfl) rfl rfl (by decide) (by rw [hl];decide) h
 injection h1 with h1
 exact h1▸h2
theorem JP {X:Link VV Tryz.prog} {w:World} {vs:Array Value} {N0:aQ} {ν:Nat->Nat} {δ:Nat->Option Nat} {ο:Nat->Array Value} {p q:PU} (h:Given X w vs N0 ν δ ο [p] [])
  (hr:RepG X w (NB N0 0 ν δ) (gB UU 0 ν) (vs.getD 0 undef) (δ 0) p->RepG X w (NB N0 0 ν δ) (gB UU 0 ν) (vs.getD 0 undef) (δ 0) q):Given X w vs N0 ν δ ο [q] []:=
 {h with
  args:=fun j r hj=>by
   cases j with
   |zero=>
    injection hj with hj
    subst hj
    exact hr (h.args 0 p rfl)
   |succ j=>simp at hj}
theorem Vt (o:Obj) (l:List Cl) {u:Unit} (hroom:bH 1099511627776 0 l.length=some u):d5 (LL o) 91 [dW l .none] [] (.ret (dW l .none) []):=by
 refine ⟨⟨Tryz.f91,Tryz.func91,by kernel_rfl,rfl⟩,fun w vs N0 ν δ ο hg=> ?_⟩
 have h0:Rep (LL o) w (NB N0 0 ν δ) (gB UU 0 ν) (vs.getD 0 undef) (dW l .none):=hg.args 0 _ rfl
 generalize hv:vs.getD 0 undef=v at h0
 cases h0 with
 |sl A n c _ _ _ val hl hc _ h1 h2=>
 cases A with
 |none=>
  have hl0:l=[]:=by
   cases l with
   |nil=>rfl
   |cons x r=>
    obtain ⟨a,ha,_⟩:=h1 0 x rfl 0 _ rfl
    cases ha
  subst hl0
  exact (IB o (args:=[dW [] .void]) rfl (c1 some)).2 w vs N0 ν δ ο (JP hg fun _=>by
   rw [hv];exact Rep.sl (X:=LL o) none n c ET.C (show List Cl from []) .void val hl hc rfl h1 h2)
 |some a=>
  refine (IB o (args:=[dW l .sure]) rfl (out:= .ret (dW l .none) []) ((c2 l some).trans (by rw [hroom];rfl))).2 w vs N0 ν δ ο (JP hg fun _=> ?_)
  rw [hv]
  exact Rep.sl (X:=LL o) (some a) n c ET.C l .sure val hl hc (fun h=>by cases h) h1 h2
theorem agq {S:Type} (o:Obj) (ho:ai o) (vs:List PU) (bs:List (Box UU)) (κ:Out UU->Option S) (x:S) (h:Gq vs bs κ=some x): ∃out,d5 (LL o) X0 vs bs out/\κ out=some x:=by
 unfold Gq at h
 split at h
 case h_2=>cases h
 rename_i κ y
 unfold tv at h
 obtain ⟨u,hr,h⟩:=Option.bind_eq_some_iff.1 h
 exact ⟨_,Vt o y hr,h⟩
end Go.Proofs.YtgajalidbabccaaGreatDoor
namespace Go.Proofs.YtgajalidbabccaaGreatDoor
open Go PI
set_option maxRecDepth 100000
noncomputable section
variable {S:Type}
noncomputable abbrev jF:Ob UU:=⟨0,ET.B,([]:List (Br Tm))⟩
noncomputable abbrev kf:Ob UU:=⟨0,ET.T,([]:List Tm)⟩
noncomputable abbrev jk:Ob UU:=⟨0,ET.C,([]:List Cl)⟩
noncomputable abbrev lb:PV UU:= .str aw
abbrev bA (n:Nat):Option (Nat×Bool):=some (n,true)
abbrev ab {α:Type}:Option α:= .none
theorem aA {R S:Type} {k:Nat} {f:(R->Option S)->Option S} {g:R->Option S} {a:Option S} {x:S} (h:aa k f g=some x) (e:a=f g:=by kernel_rfl):a=some x:=e.trans (dq h)
def EE:Cs:=cc cT (cc cI cn)
def EF:Cs:=cc cI (cc lT cn)
def Zi:Cs:=cc cI (cc cI cn)
def Kc:Cs:=cc cT (cc cI (cc cI (cc (cp 0) cn)))
def eo:Bs:=xI xn
def Zx:Cs:=cc cT (cc (cf 198 cn (cc (cp 0) cn)) cn)
def ZE:Cs:=cc cT (cc (cf 200 cn (cc (cp 0) cn)) cn)
def QA:Bs:=xc (cc (cf 199 cn (cc (cp 1) (cc (cp 0) cn))) cn) (xI xn)
def Kq:Cs:=cc cT (cc (cp 0) (cc (cp 1) cn))
def xX9:Bs:=xI (xc (cc (cf 199 cn (cc (cp 0) (cc (cp 1) cn))) cn) xn)
def np:Cs:=cc cT cn
def nq:Cs:=cc cI cn
def Zb:Cs:=cc cs cn
def EH:Cs:=cc cU cn
def Ay:Cs:=cc cC cn
def J9:Cs:=cc cC (cc cC cn)
def Az:Cs:=cc cC (cc (cp 0) cn)
def xe:Bs:=xC xn
def J_:Cs:=cc lC (cc (cf 228 cn (cc (cp 0) cn)) cn)
def aho:Bs:=xc (cc lC cn) xn
def nr:Cs:=cc lC cn
def p8:Cs:=cc lC (cc lC cn)
def AB:Cs:=cc cU (cc cI cn)
def Ka:Cs:=cc lC (cc cI cn)
def Kb:Cs:=cc lC (cc (cf 269 cn cn) cn)
def vH:Cs:=cc cT (cc cI (cc cI cn))
def Zj:Cs:=cc cT (cc cI (cc cI (cc cb cn)))
def Zk:Cs:=cc cT (cc cI (cc cI (cc (cp 0) (cc (cp 1) (cc (cp 2) cn)))))
def Qw:Bs:=xI (xI (xc (cc cb cn) xn))
def Zl:Cs:=cc cT (cc (cf 117 cn (cc (cp 0) (cc (cp 1) (cc (cp 2) cn)))) cn)
def Kd:Cs:=cc lT cn
def Zm:Cs:=cc (cp 0) (cc cT (cc cI cn))
def vI:Cs:=cc (cp 0) cn
def vJ:Cs:=cc (cp 0) (cc cT cn)
def Ke:Cs:=cc lF cn
def Zn:Cs:=cc cU (cc cI (cc cI cn))
def Zo:Cs:=cc cC (cc cI (cc cI cn))
def Zp:Cs:=cc hC (cc cC (cc (cp 0) (cc (cp 1) cn)))
def Cc:Bs:=xI (xI xn)
def Zq:Cs:=cc lC (cc hC (cc (cf 144 cn (cc (cp 0) (cc (cp 1) cn))) cn))
def Zr:Cs:=cc lC (cc cI (cc cI cn))
def Zs:Cs:=cc (cg (cc cI (cc cI cn))) (cc lC (cc cI cn))
def Zt:Cs:=cc (cg (cc cI (cc cI cn))) (cc cT (cc cI (cc cI cn)))
def Kf:Cs:=cc (cp 0) (cc (cp 1) (cc (cp 2) cn))
def Qx:Bs:=xI (xI (xT xn))
def Zu:Cs:=cc cT (cc lI (cc (cf 206 cn (cc (cp 0) (cc (cp 1) (cc (cp 2) cn)))) cn))
def Kg:Cs:=cc (cp 0) (cc cT (cc cI (cc cI cn)))
def Zv:Cs:=cc (cp 0) (cc cI cn)
def Kh:Cs:=cc (cp 0) (cc lC cn)
def Zw:Cs:=cc (cp 0) (cc lC (cc lC cn))
def Qy:Bs:=xI (xT (xI xn))
def Zy:Cs:=cc cT (cc lI (cc (cf 84 cn (cc (cp 0) (cc (cp 1) (cc (cp 2) cn)))) cn))
def Ki:Cs:=cc cT (cc cI (cc lC cn))
def Kj:Cs:=cc (cf 152 cn cn) (cc (cp 0) (cc (cp 1) cn))
def xg:Bs:=xI (xc (cc lC cn) xn)
def Zz:Cs:=cc (cf 153 cn cn) (cc (cp 0) (cc (cp 1) cn))
def ZA:Cs:=cc cI (cc lC cn)
def ZB:Cs:=cc lC (cc (cf 284 cn cn) cn)
def ZC:Cs:=cc lC (cc (cf 285 cn (cc (cp 0) cn)) cn)
def ZD:Cs:=cc lC (cc cC cn)
def ZF:Cs:=cc lC (cc lC (cc (cf 282 cn cn) cn))
def Kk:Cs:=cc lC (cc cI (cc lC cn))
def EI:Cs:=cc lC (cc cI (cc (cp 0) (cc (cp 1) (cc (cp 2) cn))))
def ahp:Bs:=xI (xc (cc lC cn) (xc (cc (cf 153 cn cn) cn) xn))
def ZG:Cs:=cc lC (cc cC (cc (cp 0) (cc (cp 1) cn)))
def ZH:Cs:=cc lC (cc lC (cc (cf 235 cn (cc (cp 0) (cc (cp 1) cn))) cn))
def Qz:Bs:=xI (xc (cc lC cn) (xc (cc (cf 152 cn cn) cn) xn))
def EJ:Cs:=cc (cg (cc (cf 148 cn (cc (cp 0) (cc (cp 1) (cc (cp 2) cn)))) (cc (cf 148 cn (cc (cp 0) (cc (cp 1) (cc (cp 3) cn)))) cn))) (cc cT (cc cI cn))
def H8:Bs:=xI (xc (cc lC cn) (xc (cc (cf 152 cn cn) cn) (xc (cc (cf 153 cn cn) cn) xn)))
def Kl:Cs:=cc cI (cc (cp 0) cn)
def ahq:Bs:=xT xn
def Km:Cs:=cc (cg (cc (cf 148 cn (cc (cp 0) (cc (cp 1) (cc (cp 2) cn)))) (cc (cf 148 cn (cc (cp 0) (cc (cp 1) (cc (cp 3) cn)))) cn))) (cc lT (cc cI (cc (cf 157 cn (cc (cp 4) cn)) cn)))
def QD:Bs:=xI (xc (cc lC cn) (xc (cc (cf 152 cn cn) cn) (xc (cc (cf 153 cn cn) cn) (xI xn))))
def ZI:Cs:=cc (cg (cc (cf 148 cn (cc (cp 0) (cc (cp 1) (cc (cp 2) cn)))) (cc (cf 148 cn (cc (cp 0) (cc (cp 1) (cc (cp 3) cn)))) cn))) (cc lT (cc cI (cc (cf 156 cn (cc (cp 4) cn)) cn)))
def ahr:Bs:=xI (xc (cc lC cn) (xc (cc (cf 152 cn cn) cn) (xc (cc (cf 153 cn cn) cn) (xT xn))))
def ZJ:Cs:=cc lC (cc cI (cc (cp 0) cn))
def Ko:Cs:=cc (cg (cc (cf 158 cn (cc (cp 0) cn)) (cc (cf 158 cn (cc (cp 0) cn)) cn))) (cc cT (cc cI cn))
def Kp:Cs:=cc (cg (cc (cf 158 cn (cc (cp 0) cn)) (cc (cf 158 cn (cc (cp 0) cn)) cn))) (cc lT (cc cI (cc (cf 157 cn (cc (cp 1) cn)) cn)))
def ZK:Cs:=cc (cg (cc (cf 158 cn (cc (cp 0) cn)) (cc (cf 158 cn (cc (cp 0) cn)) cn))) (cc lT (cc cI (cc (cf 156 cn (cc (cp 1) cn)) cn)))
def ahs:Bs:=xI (xT xn)
def Kr:Cs:=cc (cp 0) (cc cT (cc lC cn))
def ZL:Cs:=cc cT (cc lC (cc cT (cc cC (cc lC cn))))
def ZM:Cs:=cc cT (cc lC (cc cT cn))
def ZN:Cs:=cc (cp 0) (cc cT (cc lC (cc cT cn)))
def ZO:Cs:=cc (cp 0) (cc cT (cc cT cn))
def ZP:Cs:=cc cI (cc lC (cc lT cn))
def ZQ:Cs:=cc lC (cc lT cn)
def ZR:Cs:=cc lB cn
def Ks:Cs:=cc cT (cc cT (cc lB cn))
def Kt:Cs:=cc (cp 0) (cc cT (cc cT (cc lB cn)))
def ZS:Cs:=cc cI (cc lB (cc lT cn))
def Y3:Cs:=cc cB cn
def Y4:Cs:=cc lB (cc (cf 118 cn cn) cn)
def Y5:Cs:=cc cT (cc lB cn)
def Y6:Cs:=cc lC (cc (cf 273 cn (cc (cp 0) cn)) cn)
def Ax:Cs:=cc (cp 0) (cc (cp 1) cn)
def H5:Bs:=xc (cc (cp 2) cn) (xT (xc (cc cI (cc lC (cc cI (cc cI (cc cs (cc lC (cc lT (cc lB (cc lB (cc cI (cc cI (cc cs (cc lC (cc lT (cc lB (cc cI (cc cI (cc cs (cc lC (cc lT (cc lB cn))))))))))))))))))))) xn))
def Y7:Cs:=cc (cp 0) (cc (cf 132 cn (cc (cp 1) (cc (cp 2) cn))) cn)
def ahj:Bs:=xc (cc cI (cc lC (cc cI (cc cI (cc cs (cc lC (cc lT (cc lB (cc lB (cc cI (cc cI (cc cs (cc lC (cc lT (cc lB (cc cI (cc cI (cc cs (cc lC (cc lT (cc lB cn))))))))))))))))))))) (xc (cc (cp 0) cn) (xT xn))
def J5:Cs:=cc cB (cc (cp 0) cn)
def t_:Bs:=xc (cc (cp 1) cn) (xc (cc cI (cc lC (cc cI (cc cI (cc cs (cc lC (cc lT (cc lB (cc lB (cc cI (cc cI (cc cs (cc lC (cc lT (cc lB (cc cI (cc cI (cc cs (cc lC (cc lT (cc lB cn))))))))))))))))))))) xn)
def Y8:Cs:=cc lB (cc (cf 133 cn (cc (cp 0) cn)) cn)
def ahk:Bs:=xc (cc cI (cc lC (cc cI (cc cI (cc cs (cc lC (cc lT (cc lB (cc nB (cc cI (cc cI (cc cs (cc lC (cc lT (cc lB (cc cI (cc cI (cc cs (cc lC (cc lT (cc lB cn))))))))))))))))))))) xn
def J6:Cs:=cc (cp 0) (cc cT (cc cT (cc cT (cc cT cn))))
def Y9:Cs:=cc cT (cc cT (cc cT (cc cT cn)))
def Cb:Bs:=xc (cc (cf 135 cn (cc (cp 1) (cc (cp 2) cn))) cn) (xc (cc (cp 3) cn) (xT (xc (cc cI (cc lC (cc cI (cc cI (cc cs (cc lC (cc lT (cc lB (cc lB (cc cI (cc cI (cc cs (cc lC (cc lT (cc lB (cc cI (cc cI (cc cs (cc lC (cc lT (cc lB cn))))))))))))))))))))) xn)))
def Y_:Cs:=cc (cp 0) (cc (cf 137 cn (cc (cp 1) (cc (cp 2) cn))) cn)
def ahl:Bs:=xc (cc cI (cc lC (cc cI (cc cI (cc cs (cc lC (cc lT (cc lB (cc lB (cc cI (cc cI (cc cs (cc lC (cc lT (cc lB (cc cI (cc cI (cc cs (cc lC (cc lT (cc lB cn))))))))))))))))))))) (xc (cc (cf 135 cn (cc (cp 2) (cc (cp 3) cn))) cn) (xc (cc (cp 0) cn) (xT xn)))
def EG:Cs:=cc cB (cc (cp 0) (cc (cp 1) cn))
def Za:Cs:=cc lB (cc (cf 138 cn (cc (cp 0) (cc (cp 1) cn))) cn)
def ahm:Bs:=xc (cc cI (cc lC (cc cI (cc cI (cc cs (cc lC (cc lT (cc lB (cc lB (cc cI (cc cI (cc cs (cc lC (cc lT (cc lB (cc cI (cc cI (cc cs (cc lC (cc lT (cc lB cn))))))))))))))))))))) xn
def Zc:Cs:=cc lB (cc (cf 69 cn (cc (cp 0) cn)) cn)
def Zd:Cs:=cc (cp 0) (cc (cf 72 cn (cc (cp 1) cn)) cn)
def ahn:Bs:=xc (cc cI (cc lC (cc cI (cc cI (cc cs (cc lC (cc lT (cc lB (cc lB (cc cI (cc cI (cc cs (cc lC (cc lT (cc lB (cc cI (cc cI (cc cs (cc lC (cc lT (cc lB cn))))))))))))))))))))) (xc (cc (cp 0) cn) xn)
def Ze:Cs:=cc cT (cc cT cn)
def Zf:Cs:=cc lT (cc lT cn)
def Qv:Bs:=xc (cc (cp 2) cn) (xc (cc lB cn) (xI xn))
def Zg:Cs:=cc lB (cc (cf 55 cn (cc (cp 0) (cc (cp 1) cn))) cn)
def Zh:Cs:=cc cB (cc (cp 0) (cc (cp 1) (cc (cp 2) cn)))
def H6:Bs:=xc (cc (cp 3) cn) (xT (xT (xI xn)))
def J7:Cs:=cc lB (cc (cf 60 cn (cc (cp 0) (cc (cp 1) (cc (cp 2) cn)))) cn)
def H7:Bs:=xT (xT xn)
def J8:Cs:=cc lB (cc (cf 64 cn (cc (cp 0) (cc (cp 1) cn))) cn)
def dt (κ:Out UU->Option S):Int->Option S:=fun r=>κ (.ret (iI r) [])
def AZ (κ:Out UU->Option S):Int×Int×ByteArray×List Tm->Option S:=fun r=>κ (.ret (.agg [(iI r.1),(iI r.2.1),(.str r.2.2.1),(dW [] .nil),(sT r.2.2.2),(eR [] .nil)]) [])
def qX2 (κ:Out UU->Option S):Int×Int->Option S:=fun r=>κ (.ret (.tuple [(iI r.1),(iI r.2)]) [])
def bN (κ:Out UU->Option S):Bool->Option S:=fun r=>κ (.ret (.bool r) [])
def iY (c0:Int) (κ:Out UU->Option S):Bool->Option S:=fun r=>κ (.ret (.bool r) [bI c0])
def kz (κ:Out UU->Option S):Bool×Int->Option S:=fun r=>κ (.ret (.bool r.1) [.cells [(.func 199 [] [(pt 1),(pt 0)])],bI r.2])
def qX6 (κ:Out UU->Option S):Bool×Int->Option S:=fun r=>κ (.ret (.bool r.1) [bI r.2,.cells [(.func 199 [] [(pt 0),(pt 1)])]])
def qX7 (κ:Out UU->Option S):Cl->Option S:=fun r=>κ (.ret (aC r) [])
def My (c0:Cl) (κ:Out UU->Option S):Bool->Option S:=fun r=>κ (.ret (.bool r) [bC c0])
def Bn (c0:Cl) (κ:Out UU->Option S):Int->Option S:=fun r=>κ (.ret (iI r) [bC c0])
def acZ (c0:List Cl) (κ:Out UU->Option S):Bool->Option S:=fun r=>κ (.ret (.bool r) [.cells [(sC c0)]])
def cK (κ:Out UU->Option S):List Cl×Int->Option S:=fun r=>κ (.ret (.tuple [(sC r.1),(iI r.2)]) [])
def oU (κ:Out UU->Option S):Int->Option S:=fun r=>κ (.ret (iU r) [])
def kx (c0 c1:Int) (c2:Bool) (κ:Out UU->Option S):Bool->Option S:=fun r=>κ (.ret (.bool r) [bI c0,bI c1,.cells [(.bool c2)]])
def A3 (κ:Out UU->Option S):Tm->Option S:=fun r=>κ (.ret (aT r) [])
def A4 (κ:Out UU->Option S):List Tm->Option S:=fun r=>κ (.ret (sT r) [])
def lS (κ:Out UU->Option S):Tm×Int->Option S:=fun r=>κ (.ret (aT r.1) [bI r.2])
def ac2 (κ:Out UU->Option S):Tm×Bool×Int×Int->Option S:=fun r=>κ (.ret (.tuple [(aT r.1),(.bool r.2.1),(iI r.2.2.1)]) [bI r.2.2.2])
def ac3 (κ:Out UU->Option S):List Cl->Option S:=fun r=>κ (.ret (Em r) [])
def ac4 (κ:Out UU->Option S):Int×Int->Option S:=fun r=>κ (.ret (.tuple [(iU r.1),(iI r.2)]) [])
def ac6 (κ:Out UU->Option S):Cl×Int->Option S:=fun r=>κ (.ret (.tuple [(aC r.1),(iI r.2)]) [])
def ac7 (c0 c1:Int) (κ:Out UU->Option S):List Cl×Int->Option S:=fun r=>κ (.ret (.tuple [(Em r.1),(iI r.2)]) [bI c0,bI c1])
def A5 (c0 c1:Int) (κ:Out UU->Option S):List Cl×Int->Option S:=fun r=>κ (.ret (.tuple [(sC r.1),(iI r.2)]) [bI c0,bI c1])
def ac8 (κ:Out UU->Option S):Pan Int (List Cl)->Option S:=fun r=>Pan.elim r (fun r=>κ (.ret (sC r) [])) (fun e=>κ (.panic (.iface 30 (iI e)) []))
def iX (κ:Out UU->Option S):Pan Int Tm->Option S:=fun r=>Pan.elim r (fun r=>κ (.ret (aT r) [])) (fun e=>κ (.panic (.iface 30 (iI e)) []))
def ac9 (c0 c1:Int) (c2:Tm) (κ:Out UU->Option S):Pan Int Tm->Option S:=fun r=>Pan.elim r (fun r=>κ (.ret (aT r) [bI c0,bI c1,bT c2])) (fun e=>κ (.panic (.iface 30 (iI e)) [bI c0,bI c1,bT c2]))
def A6 (c0 c1:Int) (c2:Tm) (κ:Out UU->Option S):Tm×Int->Option S:=fun r=>κ (.ret (.tuple [(aT r.1),(iI r.2)]) [bI c0,bI c1,bT c2])
def jP (κ:Out UU->Option S):Tm×Int->Option S:=fun r=>κ (.ret (.tuple [(aT r.1),(iI r.2)]) [])
def ac_ (κ:Out UU->Option S):Int×Int×ByteArray->Option S:=fun r=>κ (.ret (.agg [(iI r.1),(iI r.2.1),(.str r.2.2),(dW [] .nil),(iD [] .nil),(eR [] .nil)]) [])
def ada (κ:Out UU->Option S):Int->Option S:=fun r=>κ (.ret (.tuple []) [bI r])
def A7 (κ:Out UU->Option S):Int->Option S:=fun r=>κ (.ret (pt 0) [bI r])
def FH (κ:Out UU->Option S):List Cl×Int->Option S:=fun r=>κ (.ret (sC r.1) [bI r.2])
def adb (c0:Int) (c1:Tm) (c2:Int) (κ:Out UU->Option S):Pan Int Tm->Option S:=fun r=>Pan.elim r (fun r=>κ (.ret (aT r) [bI c0,bT c1,bI c2])) (fun e=>κ (.panic (.iface 30 (iI e)) [bI c0,bT c1,bI c2]))
def A8 (c0:Int) (c1:Tm) (c2:Int) (κ:Out UU->Option S):Tm×Int->Option S:=fun r=>κ (.ret (.tuple [(aT r.1),(iI r.2)]) [bI c0,bT c1,bI c2])
def adc (c0:Int) (c1:List Cl) (κ:Out UU->Option S):Unit->Option S:=fun r=>κ (.ret (.func 148 [] [(pt 0),(pt 1),(pt 2)]) [bI c0,.cells [(sC c1)],.cells [(.func 152 [] [])]])
def ade (c0:Int) (c1:List Cl) (κ:Out UU->Option S):Unit->Option S:=fun r=>κ (.ret (.func 148 [] [(pt 0),(pt 1),(pt 2)]) [bI c0,.cells [(sC c1)],.cells [(.func 153 [] [])]])
def adf (κ:Out UU->Option S):Int×List Cl->Option S:=fun r=>κ (.ret (.agg [(.func 148 [] [(pt 0),(pt 1),(pt 2)]),(.func 148 [] [(pt 0),(pt 1),(pt 3)])]) [bI r.1,.cells [(sC r.2)],.cells [(.func 152 [] [])],.cells [(.func 153 [] [])]])
def tz (κ:Out UU->Option S):List Cl->Option S:=fun r=>κ (.ret (sC r) [])
def adg (κ:Out UU->Option S):Cl×Bool->Option S:=fun r=>κ (.ret (.tuple [(aC r.1),(.bool r.2)]) [])
def adh (c0:Cl) (κ:Out UU->Option S):Cl×Bool->Option S:=fun r=>κ (.ret (.tuple [(aC r.1),(.bool r.2)]) [bC c0])
def A9 (c0:Cl) (κ:Out UU->Option S):List Cl->Option S:=fun r=>κ (.ret (sC r) [bC c0])
def adi (c0:Int) (c1:List Cl) (κ:Out UU->Option S):List Cl×Int->Option S:=fun r=>κ (.ret (.tuple [(sC r.1),(iI r.2)]) [bI c0,.cells [(sC c1)],.cells [(.func 153 [] [])]])
def ww (c0:Int) (c1:List Cl) (κ:Out UU->Option S):List Cl×Int->Option S:=fun r=>κ (.ret (.tuple [(sC r.1),(iI r.2)]) [bI c0,.cells [(sC c1)]])
def adj (c0:Int) (c1:List Cl) (κ:Out UU->Option S):List Cl×Int->Option S:=fun r=>κ (.ret (.tuple [(sC r.1),(iI r.2)]) [bI c0,.cells [(sC c1)],.cells [(.func 152 [] [])]])
def adk (c0:Int) (c1:List Cl) (κ:Out UU->Option S):List Cl×Int->Option S:=fun r=>κ (.ret (.tuple [(sC r.1),(iI r.2)]) [bI c0,.cells [(sC c1)],.cells [(.func 152 [] [])],.cells [(.func 153 [] [])]])
def adl (c0:Tm) (κ:Out UU->Option S):Int->Option S:=fun r=>κ (.ret (iI r) [bT c0])
def adm (c0:Int) (κ:Out UU->Option S):Int->Option S:=fun r=>κ (.ret (iI r) [bI c0])
def A_ (c0:Int) (c1:List Cl) (κ:Out UU->Option S):Tm×Int->Option S:=fun r=>κ (.ret (.tuple [(aT r.1),(iI r.2)]) [bI c0,.cells [(sC c1)],.cells [(.func 152 [] [])],.cells [(.func 153 [] [])]])
def Ba (c0:Int) (c1:List Cl) (c4:Int) (κ:Out UU->Option S):List Tm×Int->Option S:=fun r=>κ (.ret (.tuple [(sT r.1),(iI r.2)]) [bI c0,.cells [(sC c1)],.cells [(.func 152 [] [])],.cells [(.func 153 [] [])],bI c4])
def Bb (c0:Int) (c1:List Cl) (c4:Tm) (κ:Out UU->Option S):List Tm×Int->Option S:=fun r=>κ (.ret (.tuple [(sT r.1),(iI r.2)]) [bI c0,.cells [(sC c1)],.cells [(.func 152 [] [])],.cells [(.func 153 [] [])],bT c4])
def adn (κ:Out UU->Option S):Int->Option S:=fun r=>κ (.ret (.agg [(.func 158 [] [(pt 0)]),(.func 158 [] [(pt 0)])]) [bI r])
def wx (c0:Int) (κ:Out UU->Option S):List Cl×Int->Option S:=fun r=>κ (.ret (.tuple [(sC r.1),(iI r.2)]) [bI c0])
def Bc (c0:Int) (κ:Out UU->Option S):Tm×Int->Option S:=fun r=>κ (.ret (.tuple [(aT r.1),(iI r.2)]) [bI c0])
def Bd (c0 c1:Int) (κ:Out UU->Option S):List Tm×Int->Option S:=fun r=>κ (.ret (.tuple [(sT r.1),(iI r.2)]) [bI c0,bI c1])
def Be (c0:Int) (c1:Tm) (κ:Out UU->Option S):List Tm×Int->Option S:=fun r=>κ (.ret (.tuple [(sT r.1),(iI r.2)]) [bI c0,bT c1])
def ado (κ:Out UU->Option S):Tm×Int×Int->Option S:=fun r=>κ (.ret (.tuple [(aT r.1),(iI r.2.1)]) [bI r.2.2])
def adp (κ:Out UU->Option S):Int×Int×ByteArray×List Cl×List Tm->Option S:=fun r=>κ (.ret (.agg [(iI r.1),(iI r.2.1),(.str r.2.2.1),(sC r.2.2.2.1),(sT r.2.2.2.2),(eR [] .nil)]) [])
def Mu (κ:Out UU->Option S):(Br Tm)->Option S:=fun r=>κ (.ret (aB r) [])
def adr (κ:Out UU->Option S):Int×Int×ByteArray×List Tm×List (Br Tm)->Option S:=fun r=>κ (.ret (.agg [(iI r.1),(iI r.2.1),(.str r.2.2.1),(dW [] .nil),(iD r.2.2.2.1 .full),(sB r.2.2.2.2)]) [])
def Mv (κ:Out UU->Option S):Int×Int×ByteArray×List Tm×List (Br Tm)->Option S:=fun r=>κ (.ret (.agg [(iI r.1),(iI r.2.1),(.str r.2.2.1),(dW [] .nil),(sT r.2.2.2.1),(sB r.2.2.2.2)]) [])
def wy (κ:Out UU->Option S):Tm×Bool×Int->Option S:=fun r=>κ (.ret (.tuple [(aT r.1),(.bool r.2.1),(iI r.2.2)]) [])
def Bf (κ:Out UU->Option S):List (Br Tm)->Option S:=fun r=>κ (.ret (pY r) [])
def ads (κ:Out UU->Option S):List (Br Tm)->Option S:=fun r=>κ (.ret (sB r) [])
def adt (c0:Int) (κ:Out UU->Option S):Cl×Bool->Option S:=fun r=>κ (.ret (.tuple [(aC r.1),(.bool r.2)]) [bI c0])
def Bg (c0:Int) (κ:Out UU->Option S):List Cl->Option S:=fun r=>κ (.ret (sC r) [bI c0])
def Mw (c1:Tm) (gf:List Cl) (gn gr:Int) (gu:ByteArray) (gy:List Cl) (gA:List Tm) (gC gD:List (Br Tm)) (fS fN:Int) (fO:ByteArray) (fP:List Cl) (fQ:List Tm) (fR:List (Br Tm)) (gg gh:Int) (gi:ByteArray) (gj:List Cl) (gm:List Tm) (gq:List (Br Tm)) (κ:Out UU->Option S):Tm×Int->Option S:=fun r=>κ (.ret (aT r.1) [.cells [(pt 2)],bT c1,.cells [(iI r.2),(sC gf),(iI gn),(iI gr),(.str gu),(sC gy),(sT gA),(sB gC),(sB gD),(iI fS),(iI fN),(.str fO),(sC fP),(sT fQ),(sB fR),(iI gg),(iI gh),(.str gi),(sC gj),(sT gm),(sB gq)]])
def adv (κ:Out UU->Option S):Tm×Int->Option S:=fun r=>κ (.ret (aT r.1) [.cells [.int .i64 2,(iI r.2)]])
def adw (c0_1:List Cl) (bQ bR:Int) (bS:ByteArray) (bU:List Cl) (bV:List Tm) (bW dZ:List (Br Tm)) (cA ct:Int) (cu:ByteArray) (cv:List Cl) (cx:List Tm) (cz:List (Br Tm)) (b8 b9:Int) (b_:ByteArray) (ca:List Cl) (ce:List Tm) (ci:List (Br Tm)) (c2:Tm) (κ:Out UU->Option S):List (Br Tm)×Int->Option S:=fun r=>κ (.ret (eR r.1 .full) [.cells [(iI r.2),(sC c0_1),(iI bQ),(iI bR),(.str bS),(sC bU),(sT bV),(sB bW),(sB dZ),(iI cA),(iI ct),(.str cu),(sC cv),(sT cx),(sB cz),(iI b8),(iI b9),(.str b_),(sC ca),(sT ce),(sB ci)],.cells [(pt 0)],bT c2])
def adx (aS:List Cl) (aZ a7:Int) (a8:ByteArray) (a_:List Cl) (ba:List Tm) (be bw:List (Br Tm)) (bh aU:Int) (aV:ByteArray) (aW:List Cl) (aX:List Tm) (aY:List (Br Tm)) (bm bn:Int) (bo:ByteArray) (bp:List Cl) (bq:List Tm) (bv:List (Br Tm)) (κ:Out UU->Option S):(Br Tm)×Int->Option S:=fun r=>κ (.ret (aB r.1) [.cells [(pt 1)],.cells [(iI r.2),(sC aS),(iI aZ),(iI a7),(.str a8),(sC a_),(sT ba),(sB be),(sB bw),(iI bh),(iI aU),(.str aV),(sC aW),(sT aX),(sB aY),(iI bm),(iI bn),(.str bo),(sC bp),(sT bq),(sB bv)]])
def Bh (aS:List Cl) (aZ a7:Int) (a8:ByteArray) (a_:List Cl) (ba:List Tm) (be bw:List (Br Tm)) (bh aU:Int) (aV:ByteArray) (aW:List Cl) (aX:List Tm) (aY:List (Br Tm)) (bm bn:Int) (bo:ByteArray) (bp:List Cl) (bq:List Tm) (bv:List (Br Tm)) (κ:Out UU->Option S):List (Br Tm)×Int->Option S:=fun r=>κ (.ret (pY r.1) [.cells [(pt 1)],.cells [(iI r.2),(sC aS),(iI aZ),(iI a7),(.str a8),(sC a_),(sT ba),(sB be),(sB bw),(iI bh),(iI aU),(.str aV),(sC aW),(sT aX),(sB aY),(iI bm),(iI bn),(.str bo),(sC bp),(sT bq),(sB bv)]])
def Bj (c0_1:List Cl) (bQ bR:Int) (bS:ByteArray) (bU:List Cl) (bV:List Tm) (bW:List (Br Tm)) (b8 b9:Int) (b_:ByteArray) (ca:List Cl) (ce:List Tm) (ci:List (Br Tm)) (κ:Out UU->Option S):Int×List (Br Tm)×Int×Int×ByteArray×List Cl×List Tm×List (Br Tm)->Option S:=fun r=>κ (.ret (.tuple []) [.cells [(iI r.1),(sC c0_1),(iI bQ),(iI bR),(.str bS),(sC bU),(sT bV),(sB bW),(sB r.2.1),(iI r.2.2.1),(iI r.2.2.2.1),(.str r.2.2.2.2.1),(sC r.2.2.2.2.2.1),(sT r.2.2.2.2.2.2.1),(sB r.2.2.2.2.2.2.2),(iI b8),(iI b9),(.str b_),(sC ca),(sT ce),(sB ci)]])
def ady (κ:Out UU->Option S):Int×Int×ByteArray×List Tm×Int->Option S:=fun r=>κ (.ret (.agg [(iI r.1),(iI r.2.1),(.str r.2.2.1),(dW [] .nil),(sT r.2.2.2.1),(eR [] .nil)]) [bI r.2.2.2.2])
def adz (c1:Tm) (gf:List Cl) (gn gr:Int) (gu:ByteArray) (gy:List Cl) (gA:List Tm) (gC gD:List (Br Tm)) (fS fN:Int) (fO:ByteArray) (fP:List Cl) (fQ:List Tm) (fR:List (Br Tm)) (gg gh:Int) (gi:ByteArray) (gj:List Cl) (gm:List Tm) (gq:List (Br Tm)) (κ:Out UU->Option S):Int×Int×ByteArray×List Cl×List Tm×Int->Option S:=fun r=>κ (.ret (.agg [(iI r.1),(iI r.2.1),(.str r.2.2.1),(sC r.2.2.2.1),(sT r.2.2.2.2.1),(eR [] .nil)]) [.cells [(pt 2)],bT c1,.cells [(iI r.2.2.2.2.2),(sC gf),(iI gn),(iI gr),(.str gu),(sC gy),(sT gA),(sB gC),(sB gD),(iI fS),(iI fN),(.str fO),(sC fP),(sT fQ),(sB fR),(iI gg),(iI gh),(.str gi),(sC gj),(sT gm),(sB gq)]])
def Mx (c2:Tm) (cV:List Cl) (cM cO:Int) (cP:ByteArray) (cQ:List Cl) (cR:List Tm) (cS dh:List (Br Tm)) (di cZ:Int) (c5:ByteArray) (c6:List Cl) (c7:List Tm) (c8:List (Br Tm)) (c_ da:Int) (dc:ByteArray) (de:List Cl) (df:List Tm) (dg:List (Br Tm)) (κ:Out UU->Option S):Int×Int×ByteArray×List Cl×List Tm×Int->Option S:=fun r=>κ (.ret (.agg [(iI r.1),(iI r.2.1),(.str r.2.2.1),(sC r.2.2.2.1),(sT r.2.2.2.2.1),(eR [] .nil)]) [.cells [(.func 135 [] [(pt 1),(pt 2)])],.cells [(pt 3)],bT c2,.cells [(iI r.2.2.2.2.2),(sC cV),(iI cM),(iI cO),(.str cP),(sC cQ),(sT cR),(sB cS),(sB dh),(iI di),(iI cZ),(.str c5),(sC c6),(sT c7),(sB c8),(iI c_),(iI da),(.str dc),(sC de),(sT df),(sB dg)]])
def adA (κ:Out UU->Option S):Int×Int×ByteArray×List Cl×List Tm×Int->Option S:=fun r=>κ (.ret (.agg [(iI r.1),(iI r.2.1),(.str r.2.2.1),(sC r.2.2.2.1),(sT r.2.2.2.2.1),(eR [] .nil)]) [.cells [.int .i64 3,(iI r.2.2.2.2.2)]])
def adB (c0_1:List Cl) (bQ bR:Int) (bS:ByteArray) (bU:List Cl) (bV:List Tm) (bW dZ:List (Br Tm)) (cA ct:Int) (cu:ByteArray) (cv:List Cl) (cx:List Tm) (cz:List (Br Tm)) (b8 b9:Int) (b_:ByteArray) (ca:List Cl) (ce:List Tm) (ci:List (Br Tm)) (c3:Tm) (κ:Out UU->Option S):List (Br Tm)×Int->Option S:=fun r=>κ (.ret (eR r.1 .full) [.cells [(iI r.2),(sC c0_1),(iI bQ),(iI bR),(.str bS),(sC bU),(sT bV),(sB bW),(sB dZ),(iI cA),(iI ct),(.str cu),(sC cv),(sT cx),(sB cz),(iI b8),(iI b9),(.str b_),(sC ca),(sT ce),(sB ci)],.cells [(.func 135 [] [(pt 2),(pt 3)])],.cells [(pt 0)],bT c3])
def adC (c2:Tm) (cV:List Cl) (cM cO:Int) (cP:ByteArray) (cQ:List Cl) (cR:List Tm) (cS dh:List (Br Tm)) (di cZ:Int) (c5:ByteArray) (c6:List Cl) (c7:List Tm) (c8:List (Br Tm)) (c_ da:Int) (dc:ByteArray) (de:List Cl) (df:List Tm) (dg:List (Br Tm)) (κ:Out UU->Option S):(Br Tm)×Int->Option S:=fun r=>κ (.ret (aB r.1) [.cells [(.func 135 [] [(pt 1),(pt 2)])],.cells [(pt 3)],bT c2,.cells [(iI r.2),(sC cV),(iI cM),(iI cO),(.str cP),(sC cQ),(sT cR),(sB cS),(sB dh),(iI di),(iI cZ),(.str c5),(sC c6),(sT c7),(sB c8),(iI c_),(iI da),(.str dc),(sC de),(sT df),(sB dg)]])
def Bk (c2:Tm) (cV:List Cl) (cM cO:Int) (cP:ByteArray) (cQ:List Cl) (cR:List Tm) (cS dh:List (Br Tm)) (di cZ:Int) (c5:ByteArray) (c6:List Cl) (c7:List Tm) (c8:List (Br Tm)) (c_ da:Int) (dc:ByteArray) (de:List Cl) (df:List Tm) (dg:List (Br Tm)) (κ:Out UU->Option S):List (Br Tm)×Int->Option S:=fun r=>κ (.ret (pY r.1) [.cells [(.func 135 [] [(pt 1),(pt 2)])],.cells [(pt 3)],bT c2,.cells [(iI r.2),(sC cV),(iI cM),(iI cO),(.str cP),(sC cQ),(sT cR),(sB cS),(sB dh),(iI di),(iI cZ),(.str c5),(sC c6),(sT c7),(sB c8),(iI c_),(iI da),(.str dc),(sC de),(sT df),(sB dg)]])
def adD (c0_1:List Cl) (bQ bR:Int) (bS:ByteArray) (bU:List Cl) (bV:List Tm) (bW dZ:List (Br Tm)) (cA ct:Int) (cu:ByteArray) (cv:List Cl) (cx:List Tm) (cz:List (Br Tm)) (b8 b9:Int) (b_:ByteArray) (ca:List Cl) (ce:List Tm) (ci:List (Br Tm)) (κ:Out UU->Option S):Int×Int×ByteArray×List Tm×List (Br Tm)×Int->Option S:=fun r=>κ (.ret (.agg [(iI r.1),(iI r.2.1),(.str r.2.2.1),(dW [] .nil),(sT r.2.2.2.1),(sB r.2.2.2.2.1)]) [.cells [(iI r.2.2.2.2.2),(sC c0_1),(iI bQ),(iI bR),(.str bS),(sC bU),(sT bV),(sB bW),(sB dZ),(iI cA),(iI ct),(.str cu),(sC cv),(sT cx),(sB cz),(iI b8),(iI b9),(.str b_),(sC ca),(sT ce),(sB ci)]])
def adE (aS:List Cl) (aZ a7:Int) (a8:ByteArray) (a_:List Cl) (ba:List Tm) (be bw:List (Br Tm)) (bh aU:Int) (aV:ByteArray) (aW:List Cl) (aX:List Tm) (aY:List (Br Tm)) (bm bn:Int) (bo:ByteArray) (bp:List Cl) (bq:List Tm) (bv:List (Br Tm)) (κ:Out UU->Option S):Int×Int×ByteArray×List Tm×List (Br Tm)×Int->Option S:=fun r=>κ (.ret (.agg [(iI r.1),(iI r.2.1),(.str r.2.2.1),(dW [] .nil),(sT r.2.2.2.1),(sB r.2.2.2.2.1)]) [.cells [(pt 1)],.cells [(iI r.2.2.2.2.2),(sC aS),(iI aZ),(iI a7),(.str a8),(sC a_),(sT ba),(sB be),(sB bw),(iI bh),(iI aU),(.str aV),(sC aW),(sT aX),(sB aY),(iI bm),(iI bn),(.str bo),(sC bp),(sT bq),(sB bv)]])
def Bm (aS:List Cl) (aZ a7:Int) (a8:ByteArray) (a_:List Cl) (ba:List Tm) (be bw:List (Br Tm)) (bh aU:Int) (aV:ByteArray) (aW:List Cl) (aX:List Tm) (aY:List (Br Tm)) (bm bn:Int) (bo:ByteArray) (bp:List Cl) (bq:List Tm) (bv:List (Br Tm)) (κ:Out UU->Option S):List Tm×Int->Option S:=fun r=>κ (.ret (JF r.1) [.cells [(pt 1)],.cells [(iI r.2),(sC aS),(iI aZ),(iI a7),(.str a8),(sC a_),(sT ba),(sB be),(sB bw),(iI bh),(iI aU),(.str aV),(sC aW),(sT aX),(sB aY),(iI bm),(iI bn),(.str bo),(sC bp),(sT bq),(sB bv)]])
def Mz (aS:List Cl) (aZ a7:Int) (a8:ByteArray) (a_:List Cl) (ba:List Tm) (be bw:List (Br Tm)) (bh aU:Int) (aV:ByteArray) (aW:List Cl) (aX:List Tm) (aY:List (Br Tm)) (bm bn:Int) (bo:ByteArray) (bp:List Cl) (bq:List Tm) (bv:List (Br Tm)) (κ:Out UU->Option S):Tm×Int->Option S:=fun r=>κ (.ret (aT r.1) [.cells [(pt 1)],.cells [(iI r.2),(sC aS),(iI aZ),(iI a7),(.str a8),(sC a_),(sT ba),(sB be),(sB bw),(iI bh),(iI aU),(.str aV),(sC aW),(sT aX),(sB aY),(iI bm),(iI bn),(.str bo),(sC bp),(sT bq),(sB bv)]])
def adF (κ:Out UU->Option S):Tm×Int->Option S:=fun r=>κ (.ret (aT r.1) [.cells [.int .i64 1,(iI r.2)]])
def adG (c0_1:List Cl) (bQ bR:Int) (bS:ByteArray) (bU:List Cl) (bV:List Tm) (bW dZ:List (Br Tm)) (cA ct:Int) (cu:ByteArray) (cv:List Cl) (cx:List Tm) (cz:List (Br Tm)) (b8 b9:Int) (b_:ByteArray) (ca:List Cl) (ce:List Tm) (ci:List (Br Tm)) (κ:Out UU->Option S):List (Br Tm)×Int->Option S:=fun r=>κ (.ret (eR r.1 .full) [.cells [(iI r.2),(sC c0_1),(iI bQ),(iI bR),(.str bS),(sC bU),(sT bV),(sB bW),(sB dZ),(iI cA),(iI ct),(.str cu),(sC cv),(sT cx),(sB cz),(iI b8),(iI b9),(.str b_),(sC ca),(sT ce),(sB ci)],.cells [(pt 0)]])
def adH (c1:List (Br Tm)) (κ:Out UU->Option S):(Br Tm)×Int->Option S:=fun r=>κ (.ret (aB r.1) [.cells [(pt 2)],.cells [(sB c1)],bI r.2])
def A0 (c1:List (Br Tm)) (κ:Out UU->Option S):List (Br Tm)×Int->Option S:=fun r=>κ (.ret (pY r.1) [.cells [(pt 2)],.cells [(sB c1)],bI r.2])
def ac0 (c1 c2:Tm) (κ:Out UU->Option S):(Br Tm)×Int->Option S:=fun r=>κ (.ret (aB r.1) [.cells [(pt 3)],bT c1,bT c2,bI r.2])
def A1 (c1 c2:Tm) (κ:Out UU->Option S):List (Br Tm)×Int->Option S:=fun r=>κ (.ret (pY r.1) [.cells [(pt 3)],bT c1,bT c2,bI r.2])
def ac1 (c0 c1:Tm) (κ:Out UU->Option S):(Br Tm)->Option S:=fun r=>κ (.ret (aB r) [bT c0,bT c1])
def A2 (c0 c1:Tm) (κ:Out UU->Option S):List (Br Tm)->Option S:=fun r=>κ (.ret (pY r) [bT c0,bT c1])
end
end Go.Proofs.YtgajalidbabccaaGreatDoor
