/- Part 4 of a proof: the sources, with their names and remarks, lie in wip/. -/
import Derived.Test.YtapmagaejigpnaaGreatDoorX3
namespace Go.Proofs.YtapmagaejigpnaaGreatDoor
open Go PI
set_option linter.unusedVariables false
set_option maxRecDepth 100000
noncomputable section
def v_ {S:Type} (hd:dN S) (k:Nat) (ret:Bool→Option S) (x11:(Br Tm)) (t:Tm) (vars i12 dims:Int) (bound:Bool) (rec5:Int→Option S) (rec6:Int→Option S) (v14:Int):Option S:=
 ab (decide ((v14:Int)<(x11.kids.length:Int))) (
 Option.bind (al x11.kids v14) fun x15=>
 aa k (oC k t.kind) fun r16=>
 hd (ac x15) vars (IntKind.wrap .i64 (dims+r16)) bound fun r17=>
 ab (!r17) (
  ret false) (
   rec6 (IntKind.wrap .i64 (v14+1)))) (
  rec5 (IntKind.wrap .i64 (i12+1)))
noncomputable def lK {S:Type} (hd:dN S) (k:Nat) (ret:Bool→Option S) (rec5:Int→Option S) (x11:(Br Tm)) (t:Tm) (vars i12 dims:Int) (bound:Bool):Nat→Int→Option S
 |0=>fun _=> .none
 |m+1=>fun v14=>v_ hd k ret x11 t vars i12 dims bound rec5 (lK hd k ret rec5 x11 t vars i12 dims bound m) v14
def rB {S:Type} (hd:dN S) (k:Nat) (ret:Bool→Option S) (t:Tm) (vars dims:Int) (bound:Bool) (J6:(Br Tm)→Int→Int→Option S) (rec5:Int→Option S) (i12:Int):Option S:=
 ab (decide ((i12:Int)<(t.sys.length:Int))) (
 Option.bind (al t.sys i12) fun x11=>
 aa k (oD k t.kind) fun r12=>
 ab (!((x11.kids.length:Int)==r12)) (
  ret false) (
  aa k (gi k x11.face) fun r13=>
  ab (!r13) (
  ret false) (
  aa k (sL k x11.face dims) fun r14=>
  ab (!r14) (
   ret false) (
     J6 x11 i12 0)))) (
 ret true)
noncomputable def g7 {S:Type} (hd:dN S) (k:Nat) (ret:Bool→Option S) (t:Tm) (vars dims:Int) (bound:Bool):Nat→Int→Option S
 |0=>fun _=> .none
 |m+1=>fun i12=>rB hd k ret t vars dims bound (fun x11 i12 v14=>lK hd k ret (g7 hd k ret t vars dims bound m) x11 t vars i12 dims bound k v14) (g7 hd k ret t vars dims bound m) i12
def rA {S:Type} (hd:dN S) (k:Nat) (ret:Bool→Option S) (t:Tm) (vars dims:Int) (bound:Bool) (J5:Int→Option S) (rec4:Int→Option S) (i9:Int):Option S:=
 ab (decide ((i9:Int)<(t.kids.length:Int))) (
 aa k (oz k t.kind i9) fun r6=>
 ab (decide ((vars:Int)<0)) (
  Option.bind (al t.kids i9) fun x7=>
  hd (ac x7) (IntKind.wrap .i64 (vars+0)) (IntKind.wrap .i64 (dims+r6.2)) bound fun r8=>
  ab (!r8) (
  ret false) (
    rec4 (IntKind.wrap .i64 (i9+1)))) (
  Option.bind (al t.kids i9) fun x9=>
  hd (ac x9) (IntKind.wrap .i64 (vars+r6.1)) (IntKind.wrap .i64 (dims+r6.2)) bound fun r10=>
  ab (!r10) (
  ret false) (
    rec4 (IntKind.wrap .i64 (i9+1))))) (
  J5 0)
noncomputable def jf {S:Type} (hd:dN S) (k:Nat) (ret:Bool→Option S) (t:Tm) (vars dims:Int) (bound:Bool):Nat→Int→Option S
 |0=>fun _=> .none
 |m+1=>fun i9=>rA hd k ret t vars dims bound (fun i12=>g7 hd k ret t vars dims bound k i12) (jf hd k ret t vars dims bound m) i9
def rz {S:Type} (hd:dN S) (k:Nat) (ret:Bool→Option S) (t:Tm) (vars dims:Int) (bound:Bool) (J4:Int→Option S):Option S:=
 aa k (sL k t.r dims) fun r5=>
 ab (!r5) (
 ret false) (
  J4 0)
noncomputable def pB {S:Type} (hd:dN S) (k:Nat) (ret:Bool→Option S) (t:Tm) (vars dims:Int) (bound:Bool):Nat→Option S
 |0=> .none
 |_+1=>rz hd k ret t vars dims bound (fun i9=>jf hd k ret t vars dims bound k i9)
def ry {S:Type} (hd:dN S) (k:Nat) (ret:Bool→Option S) (t:Tm) (vars dims:Int) (bound:Bool) (J3:Option S):Option S:=
 ab (t.kind==13) (
 aa k (d9 k t.r) fun r4=>
 ab (!r4) (
  ret false) (
   J3)) (
 ab (t.kind==21) (
  aa k (d9 k t.r) fun r18=>
  ab (!r18) (
  ret false) (
    J3)) (
  ab (t.kind==26) (
  aa k (d9 k t.r) fun r19=>
  ab (!r19) (
   ret false) (
     J3)) (
  ab (t.kind==14) (
   aa k (gi k t.r) fun r20=>
   ab (!r20) (
   ret false) (
      J3)) (
   ab (decide (((t.r.length:Int):Int)>0)) (
   ret false) (
      J3)))))
noncomputable def pA {S:Type} (hd:dN S) (k:Nat) (ret:Bool→Option S) (t:Tm) (vars dims:Int) (bound:Bool):Nat→Option S
 |0=> .none
 |_+1=>ry hd k ret t vars dims bound (pB hd k ret t vars dims bound k)
def rx {S:Type} (hd:dN S) (k:Nat) (ret:Bool→Option S) (t:Tm) (vars dims:Int) (bound:Bool) (J2:Option S):Option S:=
 ab (t.kind==2) (
 aa k (xx k t.name) fun r3=>
 ab (!r3) (
  ret false) (
  ab (!(t.kind==2)) (
  ab (!(t.name==ByteArray.empty)) (
   ret false) (
     J2)) (
    J2))) (
 ab (!(t.kind==2)) (
  ab (!(t.name==ByteArray.empty)) (
  ret false) (
    J2)) (
   J2))
noncomputable def pz {S:Type} (hd:dN S) (k:Nat) (ret:Bool→Option S) (t:Tm) (vars dims:Int) (bound:Bool):Nat→Option S
 |0=> .none
 |_+1=>rx hd k ret t vars dims bound (pA hd k ret t vars dims bound k)
def rt {S:Type} (hd:dN S) (k:Nat) (ret:Bool→Option S) (t:Tm) (vars dims:Int) (bound:Bool) (J1:Option S):Option S:=
 ab (t.kind==1) (
 ab (decide ((t.n:Int)<0)) (
  ret false) (
  ab (decide ((vars:Int)≥0)) (
  ab (decide ((t.n:Int)≥vars)) (
   ret false) (
     J1)) (
    J1))) (
 ab (!(t.n==0)) (
  ret false) (
   J1))
noncomputable def yy {S:Type} (hd:dN S) (k:Nat) (ret:Bool→Option S) (t:Tm) (vars dims:Int) (bound:Bool):Nat→Option S
 |0=> .none
 |_+1=>rt hd k ret t vars dims bound (pz hd k ret t vars dims bound k)
def Gu {S:Type} (hd:dN S) (k:Nat) (ret:Bool→Option S) (J0:Option S) (t:Tm) (vars dims:Int) (bound:Bool):Option S:=
 ab (bound) (
 ab (decide ((dims:Int)>24)) (
  ret false) (
  aa k (oB k t.kind) fun r1=>
  ab (!(r1==(t.kids.length:Int))) (
  ret false) (
  ab (decide (((t.sys.length:Int):Int)>0)) (
   aa k (oD k t.kind) fun r2=>
   ab (r2==0) (
   ret false) (
      J0)) (
     J0)))) (
 aa k (oB k t.kind) fun r21=>
 ab (!(r21==(t.kids.length:Int))) (
  ret false) (
  ab (decide (((t.sys.length:Int):Int)>0)) (
  aa k (oD k t.kind) fun r22=>
  ab (r22==0) (
   ret false) (
     J0)) (
    J0)))
noncomputable def cj {S:Type}:Nat→Tm→Int→Int→Bool→(Bool→Option S)→Option S
 |0=>fun _ _ _ _ _=> .none
 |k+1=>fun t vars dims bound ret=>Gu (cj k) k ret (yy (cj k) k ret t vars dims bound k) t vars dims bound
def Qr {S:Type} (k:Nat) (ret:Int→Option S) (t:Tm):Option S:=
 aa k (xy k (ac t)) fun r1=>
 ab (r1==0) (
 cj k (ac t) (-1) 24 false fun r2=>
 ab (!r2) (
  ret 100) (
  ret r1)) (
 ret r1)
noncomputable def oA {S:Type} (k:Nat) (t:Tm) (ret:Int→Option S):Option S:=Qr k ret t
def wm {S:Type} (k:Nat) (ret:Int→Option S) (l:List Tm) (rec0:Int→Option S) (i3:Int):Option S:=
 ab (decide ((i3:Int)<(l.length:Int))) (
 Option.bind (al l i3) fun x1=>
 aa k (oA k (ac x1)) fun r2=>
 ab (!(r2==0)) (
  ret r2) (
   rec0 (IntKind.wrap .i64 (i3+1)))) (
 ret 0)
noncomputable def pJ {S:Type} (k:Nat) (ret:Int→Option S) (l:List Tm):Nat→Int→Option S
 |0=>fun _=> .none
 |m+1=>fun i3=>wm k ret l (pJ k ret l m) i3
noncomputable def GM {S:Type} (k:Nat) (ret:Int→Option S) (J0:Int→Option S) (l:List Tm):Option S:=
 J0 0
noncomputable def gV {S:Type} (k:Nat) (l:List Tm) (ret:Int→Option S):Option S:=GM k ret (fun i3=>pJ k ret l k i3) l
def vG {S:Type} (k:Nat) (ret:Int×Int→Option S) (a_from a_by:Int) (rec0:(List Int)→Int→Option S) (l8:List Int) (v9:Int):Option S:=
 ab (decide ((v9:Int)<(l8.length:Int))) (
 Option.bind (al l8 v9) fun x2=>
 Option.bind (al l8 v9) fun x3=>
 ab (decide ((x3:Int)<a_from)) (
   rec0 l8 (IntKind.wrap .i64 (v9+1))) (
  Option.bind (al l8 v9) fun x4=>
  Option.bind (al l8 v9) fun x5=>
  ab (decide ((a_by:Int)≥(IntKind.wrap .i64 (24-x5)))) (
  ret (0,10)) (
  Option.bind (al l8 v9) fun x6=>
  Option.bind (al l8 v9) fun x7=>
  Option.bind (al l8 v9) fun x8=>
  Option.bind (al l8 v9) fun x9=>
    rec0 (l8.set (Int.toNat v9) (IntKind.wrap .i64 (x7+a_by))) (IntKind.wrap .i64 (v9+1))))) (
 aa k (iR k l8) fun r10=>
 ret (r10,0))
noncomputable def m7 {S:Type} (k:Nat) (ret:Int×Int→Option S) (a_from a_by:Int):Nat→(List Int)→Int→Option S
 |0=>fun _ _=> .none
 |m+1=>fun l8 v9=>vG k ret a_from a_by (m7 k ret a_from a_by m) l8 v9
def uT {S:Type} (k:Nat) (ret:Int×Int→Option S) (J0:(List Int)→Int→Option S) (s a_from a_by:Int):Option S:=
 ab (decide ((a_from:Int)<0)) (
 ret (0,2)) (
 ab (decide ((a_by:Int)<0)) (
  ret (0,2)) (
  aa k (iQ k s) fun r1=>
   J0 r1 0))
noncomputable def kR {S:Type} (k:Nat) (s a_from a_by:Int) (ret:Int×Int→Option S):Option S:=uT k ret (fun l8 v9=>m7 k ret a_from a_by k l8 v9) s a_from a_by
def Qj {S:Type} (k:Nat) (ret:Cl×Int→Option S) (c:Cl) (a_from a_by:Int):Option S:=
 aa k (sG k c) fun r1=>
 ab (!r1) (
 ret ((Cl.mk 0 0),2)) (
 aa k (kR k c.pos a_from a_by) fun r2=>
 ab (!(r2.2==0)) (
  ret ((Cl.mk 0 0),r2.2)) (
  aa k (kR k c.neg a_from a_by) fun r3=>
  ab (!(r3.2==0)) (
  ret ((Cl.mk 0 0),r3.2)) (
  ret ((Cl.mk r2.1 r3.1),0))))
noncomputable def xo {S:Type} (k:Nat) (c:Cl) (a_from a_by:Int) (ret:Cl×Int→Option S):Option S:=Qj k ret c a_from a_by
def vR {S:Type} (k:Nat) (ret:List Cl×Int→Option S) (f:List Cl) (a_from a_by:Int) (rec0:(List Cl)→Int→Option S) (out8:List Cl) (i9:Int):Option S:=
 ab (decide ((i9:Int)<(f.length:Int))) (
 Option.bind (al f i9) fun x2=>
 aa k (xo k x2 a_from a_by) fun r3=>
 ab (!(r3.2==0)) (
  ret (([]:List Cl),r3.2)) (
  Option.bind (ay 1099511627776 out8.length [r3.1].length) fun x4=>
   rec0 (out8++[r3.1]) (IntKind.wrap .i64 (i9+1)))) (
 aa k (iV k out8) fun r5=>
 ret (r5.1,r5.2))
noncomputable def pq {S:Type} (k:Nat) (ret:List Cl×Int→Option S) (f:List Cl) (a_from a_by:Int):Nat→(List Cl)→Int→Option S
 |0=>fun _ _=> .none
 |m+1=>fun out8 i9=>vR k ret f a_from a_by (pq k ret f a_from a_by m) out8 i9
def Gk {S:Type} (k:Nat) (ret:List Cl×Int→Option S) (J0:(List Cl)→Int→Option S) (f:List Cl) (a_from a_by:Int):Option S:=
 aa k (d9 k f) fun r1=>
 ab (!r1) (
 ret (([]:List Cl),2)) (
  J0 ([]:List Cl) 0)
noncomputable def jM {S:Type} (k:Nat) (f:List Cl) (a_from a_by:Int) (ret:List Cl×Int→Option S):Option S:=Gk k ret (fun out8 i9=>pq k ret f a_from a_by k out8 i9) f a_from a_by
def vZ {S:Type} (k:Nat) (ret:List Cl×Int→Option S) (l:List Cl) (rec0:(List Cl)→Int→Option S) (out4:List Cl) (i5:Int):Option S:=
 ab (decide ((i5:Int)<(l.length:Int))) (
 Option.bind (al l i5) fun x1=>
 aa k (sE k x1) fun r2=>
 ab (!r2) (
  Option.bind (al l i5) fun x3=>
  Option.bind (ay 1099511627776 out4.length [x3].length) fun x4=>
   rec0 (out4++[x3]) (IntKind.wrap .i64 (i5+1))) (
   rec0 out4 (IntKind.wrap .i64 (i5+1)))) (
 aa k (iV k out4) fun r5=>
 ret (r5.1,r5.2))
noncomputable def py {S:Type} (k:Nat) (ret:List Cl×Int→Option S) (l:List Cl):Nat→(List Cl)→Int→Option S
 |0=>fun _ _=> .none
 |m+1=>fun out4 i5=>vZ k ret l (py k ret l m) out4 i5
noncomputable def Gt {S:Type} (k:Nat) (ret:List Cl×Int→Option S) (J0:(List Cl)→Int→Option S) (l:List Cl):Option S:=
 J0 ([]:List Cl) 0
noncomputable def mH {S:Type} (k:Nat) (l:List Cl) (ret:List Cl×Int→Option S):Option S:=Gt k ret (fun out4 i5=>py k ret l k out4 i5) l
def Qo {S:Type} (k:Nat) (ret:List Cl×Int→Option S) (f g:List Cl):Option S:=
 aa k (gi k f) fun r1=>
 ab (!r1) (
 ret (([]:List Cl),2)) (
 aa k (gi k g) fun r2=>
 ab (!r2) (
  ret (([]:List Cl),2)) (
  Option.bind (ay 1099511627776 ([]:List Cl).length f.length) fun x3=>
  Option.bind (ay 1099511627776 (([]:List Cl)++f).length g.length) fun x4=>
  aa k (mH k ((([]:List Cl)++f)++g)) fun r5=>
  ret (r5.1,r5.2)))
noncomputable def fG {S:Type} (k:Nat) (f g:List Cl) (ret:List Cl×Int→Option S):Option S:=Qo k ret f g
noncomputable def Qx {S:Type} (k:Nat) (ret:Int×Int×ByteArray→Option S) (a_e:Int):Option S:=
 ret (IntKind.wrap .i64 (0-a_e),0,ByteArray.empty)
noncomputable def d_ {S:Type} (k:Nat) (a_e:Int) (ret:Int×Int×ByteArray→Option S):Option S:=Qx k ret a_e
def QD {S:Type} (k:Nat) (ret:Int→Option S) (t:Tm) (a b:Int):Option S:=
 aa k (oA k (ac t)) fun r1=>
 ab (r1==0) (
 ab (decide ((a:Int)<0)) (
  ret 2) (
  ab (decide ((b:Int)<0)) (
  ret 2) (
  ret r1))) (
 ret r1)
noncomputable def BZ {S:Type} (k:Nat) (t:Tm) (a b:Int) (ret:Int→Option S):Option S:=QD k ret t a b
def QA {S:Type} (k:Nat) (ret:List Cl×Int→Option S) (f:List Cl) (a_from a_by:Int):Option S:=
 ab ((f.length:Int)==0) (
 ret (([]:List Cl),0)) (
 aa k (jM k f a_from a_by) fun r1=>
 ret (r1.1,r1.2))
noncomputable def sM {S:Type} (k:Nat) (f:List Cl) (a_from a_by:Int) (ret:List Cl×Int→Option S):Option S:=QA k ret f a_from a_by
abbrev fC (S:Type):=Tm→Int→Int→Int→Int→(Tm→Option S)→Option S
def wi {S:Type} (hd:fC S) (k:Nat) (ret:Tm→Option S) (t:Tm) (b11_1:Int) (r2:List Cl×Int) (b11_4:List Tm) (b11_5:List (Br Tm)) (r9:List Cl×Int) (v i18 vby d dby:Int) (rec2:(List (Br Tm))→Int→Option S) (rec3:(List Tm)→Int→Option S) (b21_1:List Tm) (v22:Int):Option S:=
 Option.bind (al t.sys i18) fun x11=>
 ab (decide ((v22:Int)<(x11.kids.length:Int))) (
 Option.bind (al t.sys i18) fun x12=>
 Option.bind (al x12.kids v22) fun x13=>
 aa k (oC k t.kind) fun r14=>
 hd (ac x13) v vby (IntKind.wrap .i64 (d+r14)) dby fun r15=>
 ab (decide ((r15.kind:Int)<0)) (
  ret (ac r15)) (
  Option.bind (ay 1099511627776 b21_1.length [(ac r15)].length) fun x16=>
   rec3 (b21_1++[(ac r15)]) (IntKind.wrap .i64 (v22+1)))) (
 Option.bind (ay 1099511627776 b11_5.length [(Br.mk r9.1 b21_1)].length) fun x17=>
  rec2 (b11_5++[(Br.mk r9.1 b21_1)]) (IntKind.wrap .i64 (i18+1)))
noncomputable def jh {S:Type} (hd:fC S) (k:Nat) (ret:Tm→Option S) (rec2:(List (Br Tm))→Int→Option S) (t:Tm) (b11_1:Int) (r2:List Cl×Int) (b11_4:List Tm) (b11_5:List (Br Tm)) (r9:List Cl×Int) (v i18 vby d dby:Int):Nat→(List Tm)→Int→Option S
 |0=>fun _ _=> .none
 |m+1=>fun b21_1 v22=>wi hd k ret t b11_1 r2 b11_4 b11_5 r9 v i18 vby d dby rec2 (jh hd k ret rec2 t b11_1 r2 b11_4 b11_5 r9 v i18 vby d dby m) b21_1 v22
def rN {S:Type} (hd:fC S) (k:Nat) (ret:Tm→Option S) (t:Tm) (b11_1:Int) (r2:List Cl×Int) (b11_4:List Tm) (v vby d dby:Int) (J3:(List (Br Tm))→(List Cl×Int)→Int→(List Tm)→Int→Option S) (rec2:(List (Br Tm))→Int→Option S) (b11_5:List (Br Tm)) (i18:Int):Option S:=
 ab (decide ((i18:Int)<(t.sys.length:Int))) (
 Option.bind (al t.sys i18) fun x8=>
 aa k (sM k x8.face d dby) fun r9=>
 ab (!(r9.2==0)) (
  aa k (d_ k r9.2) fun r10=>
  ret (Tm.mk r10.1 r10.2.1 r10.2.2 [] [] [])) (
   J3 b11_5 r9 i18 ([]:List Tm) 0)) (
 ret (Tm.mk t.kind b11_1 t.name r2.1 b11_4 b11_5))
noncomputable def eX {S:Type} (hd:fC S) (k:Nat) (ret:Tm→Option S) (t:Tm) (b11_1:Int) (r2:List Cl×Int) (b11_4:List Tm) (v vby d dby:Int):Nat→(List (Br Tm))→Int→Option S
 |0=>fun _ _=> .none
 |m+1=>fun b11_5 i18=>rN hd k ret t b11_1 r2 b11_4 v vby d dby (fun b11_5 r9 i18 b21_1 v22=>jh hd k ret (eX hd k ret t b11_1 r2 b11_4 v vby d dby m) t b11_1 r2 b11_4 b11_5 r9 v i18 vby d dby k b21_1 v22) (eX hd k ret t b11_1 r2 b11_4 v vby d dby m) b11_5 i18
def rM {S:Type} (hd:fC S) (k:Nat) (ret:Tm→Option S) (t:Tm) (b11_1:Int) (r2:List Cl×Int) (v vby d dby:Int) (J2:(List Tm)→(List (Br Tm))→Int→Option S) (rec1:(List Tm)→Int→Option S) (b11_4:List Tm) (i14:Int):Option S:=
 ab (decide ((i14:Int)<(t.kids.length:Int))) (
 aa k (oz k t.kind i14) fun r4=>
 Option.bind (al t.kids i14) fun x5=>
 hd (ac x5) (IntKind.wrap .i64 (v+r4.1)) vby (IntKind.wrap .i64 (d+r4.2)) dby fun r6=>
 ab (decide ((r6.kind:Int)<0)) (
  ret (ac r6)) (
  Option.bind (ay 1099511627776 b11_4.length [(ac r6)].length) fun x7=>
   rec1 (b11_4++[(ac r6)]) (IntKind.wrap .i64 (i14+1)))) (
  J2 b11_4 ([]:List (Br Tm)) 0)
noncomputable def hJ {S:Type} (hd:fC S) (k:Nat) (ret:Tm→Option S) (t:Tm) (b11_1:Int) (r2:List Cl×Int) (v vby d dby:Int):Nat→(List Tm)→Int→Option S
 |0=>fun _ _=> .none
 |m+1=>fun b11_4 i14=>rM hd k ret t b11_1 r2 v vby d dby (fun b11_4 b11_5 i18=>eX hd k ret t b11_1 r2 b11_4 v vby d dby k b11_5 i18) (hJ hd k ret t b11_1 r2 v vby d dby m) b11_4 i14
def rL {S:Type} (hd:fC S) (k:Nat) (ret:Tm→Option S) (t:Tm) (v vby d dby:Int) (J1:Int→(List Cl×Int)→(List Tm)→Int→Option S) (b11_1:Int):Option S:=
 aa k (sM k t.r d dby) fun r2=>
 ab (!(r2.2==0)) (
 aa k (d_ k r2.2) fun r3=>
 ret (Tm.mk r3.1 r3.2.1 r3.2.2 [] [] [])) (
  J1 b11_1 r2 ([]:List Tm) 0)
noncomputable def yB {S:Type} (hd:fC S) (k:Nat) (ret:Tm→Option S) (t:Tm) (v vby d dby:Int):Nat→Int→Option S
 |0=>fun _=> .none
 |_+1=>fun b11_1=>rL hd k ret t v vby d dby (fun b11_1 r2 b11_4 i14=>hJ hd k ret t b11_1 r2 v vby d dby k b11_4 i14) b11_1
def GD {S:Type} (hd:fC S) (k:Nat) (ret:Tm→Option S) (J0:Int→Option S) (t:Tm) (v vby d dby:Int):Option S:=
 ab (t.kind==1) (
 ab (decide ((t.n:Int)≥v)) (
  ab (decide ((t.n:Int)>(IntKind.wrap .i64 (1000000000-vby)))) (
  aa k (d_ k 100) fun r1=>
  ret (Tm.mk r1.1 r1.2.1 r1.2.2 [] [] [])) (
    J0 (IntKind.wrap .i64 (t.n+vby)))) (
   J0 t.n)) (
  J0 t.n)
noncomputable def dh {S:Type}:Nat→Tm→Int→Int→Int→Int→(Tm→Option S)→Option S
 |0=>fun _ _ _ _ _ _=> .none
 |k+1=>fun t v vby d dby ret=>GD (dh k) k ret (fun b11_1=>yB (dh k) k ret t v vby d dby k b11_1) t v vby d dby
def Qz {S:Type} (k:Nat) (ret:Tm×Int→Option S) (t:Tm):Option S:=
 ab (decide ((t.kind:Int)<0)) (
 ret ((Tm.mk 0 0 ByteArray.empty [] [] []),IntKind.wrap .i64 (0-t.kind))) (
 ret ((ac t),0))
noncomputable def xA {S:Type} (k:Nat) (t:Tm) (ret:Tm×Int→Option S):Option S:=Qz k ret t
def Qy {S:Type} (k:Nat) (ret:Tm×Int→Option S) (t:Tm) (a_from a_by:Int):Option S:=
 aa k (BZ k (ac t) a_from a_by) fun r1=>
 ab (!(r1==0)) (
 ret ((Tm.mk 0 0 ByteArray.empty [] [] []),r1)) (
 ab (decide ((a_from:Int)>1000000000)) (
  dh k (ac t) 0 0 1000000000 a_by fun r2=>
  aa k (xA k (ac r2)) fun r3=>
  ret ((ac r3.1),r3.2)) (
  dh k (ac t) 0 0 a_from a_by fun r4=>
  aa k (xA k (ac r4)) fun r5=>
  ret ((ac r5.1),r5.2)))
noncomputable def xz {S:Type} (k:Nat) (t:Tm) (a_from a_by:Int) (ret:Tm×Int→Option S):Option S:=Qy k ret t a_from a_by
def vJ {S:Type} (k:Nat) (ret:Int→Option S) (i:Int) (r1:List Int) (rec0:(List Int)→Int→Option S) (out6:List Int) (v7:Int):Option S:=
 ab (decide ((v7:Int)<(r1.length:Int))) (
 Option.bind (al r1 v7) fun x2=>
 Option.bind (al r1 v7) fun x3=>
 ab (!(x3==i)) (
  Option.bind (al r1 v7) fun x4=>
  Option.bind (al r1 v7) fun x5=>
  Option.bind (ay 1099511627776 out6.length [x5].length) fun x6=>
   rec0 (out6++[x5]) (IntKind.wrap .i64 (v7+1))) (
   rec0 out6 (IntKind.wrap .i64 (v7+1)))) (
 aa k (iR k out6) fun r7=>
 ret r7)
noncomputable def pi {S:Type} (k:Nat) (ret:Int→Option S) (i:Int) (r1:List Int):Nat→(List Int)→Int→Option S
 |0=>fun _ _=> .none
 |m+1=>fun out6 v7=>vJ k ret i r1 (pi k ret i r1 m) out6 v7
noncomputable def Gb {S:Type} (k:Nat) (ret:Int→Option S) (J0:(List Int)→(List Int)→Int→Option S) (s i:Int):Option S:=
 aa k (iQ k s) fun r1=>
 J0 r1 ([]:List Int) 0
noncomputable def gh {S:Type} (k:Nat) (s i:Int) (ret:Int→Option S):Option S:=Gb k ret (fun r1 out6 v7=>pi k ret i r1 k out6 v7) s i
def Qp {S:Type} (k:Nat) (ret:List Cl×Int→Option S) (f:List Cl):Option S:=
 aa k (d9 k f) fun r1=>
 ab (!r1) (
 ret (([]:List Cl),2)) (
 aa k (mH k f) fun r2=>
 ret (r2.1,r2.2))
noncomputable def xv {S:Type} (k:Nat) (f:List Cl) (ret:List Cl×Int→Option S):Option S:=Qp k ret f
def vV {S:Type} (k:Nat) (ret:List Cl→Option S) (c:Cl) (rec0:(List Cl)→Int→Option S) (out3:List Cl) (i4:Int):Option S:=
 ab (decide ((i4:Int)<24)) (
 aa k (iR k [i4]) fun r1=>
 aa k (dS k c.pos i4) fun r2=>
 ab (r2) (
  Option.bind (ay 1099511627776 out3.length [(Cl.mk 0 r1)].length) fun x3=>
  aa k (dS k c.neg i4) fun r4=>
  ab (r4) (
  Option.bind (ay 1099511627776 (out3++[(Cl.mk 0 r1)]).length [(Cl.mk r1 0)].length) fun x5=>
    rec0 ((out3++[(Cl.mk 0 r1)])++[(Cl.mk r1 0)]) (IntKind.wrap .i64 (i4+1))) (
    rec0 (out3++[(Cl.mk 0 r1)]) (IntKind.wrap .i64 (i4+1)))) (
  aa k (dS k c.neg i4) fun r6=>
  ab (r6) (
  Option.bind (ay 1099511627776 out3.length [(Cl.mk r1 0)].length) fun x7=>
    rec0 (out3++[(Cl.mk r1 0)]) (IntKind.wrap .i64 (i4+1))) (
    rec0 out3 (IntKind.wrap .i64 (i4+1))))) (
 aa k (iV k out3) fun r8=>
 ret r8.1)
noncomputable def pw {S:Type} (k:Nat) (ret:List Cl→Option S) (c:Cl):Nat→(List Cl)→Int→Option S
 |0=>fun _ _=> .none
 |m+1=>fun out3 i4=>vV k ret c (pw k ret c m) out3 i4
noncomputable def Gp {S:Type} (k:Nat) (ret:List Cl→Option S) (J0:(List Cl)→Int→Option S) (c:Cl):Option S:=
 J0 ([]:List Cl) 0
noncomputable def xu {S:Type} (k:Nat) (c:Cl) (ret:List Cl→Option S):Option S:=Gp k ret (fun out3 i4=>pw k ret c k out3 i4) c
def Qg {S:Type} (k:Nat) (ret:Int→Option S) (s i:Int):Option S:=
 ab (decide ((i:Int)<0)) (
 aa k (gh k s (-1)) fun r1=>
 ret r1) (
 ab (decide ((i:Int)≥24)) (
  aa k (gh k s (-1)) fun r2=>
  ret r2) (
  aa k (gh k s i) fun r3=>
  aa k (iQ k r3) fun r4=>
  Option.bind (ay 1099511627776 r4.length [i].length) fun x5=>
  aa k (iR k (r4++[i])) fun r6=>
  ret r6))
noncomputable def sD {S:Type} (k:Nat) (s i:Int) (ret:Int→Option S):Option S:=Qg k ret s i
def vP {S:Type} (k:Nat) (ret:Int→Option S) (r1:List Int) (rec0:Int→Int→Option S) (a0 i6:Int):Option S:=
 ab (decide ((i6:Int)<(r1.length:Int))) (
 Option.bind (al r1 i6) fun x2=>
 Option.bind (al r1 i6) fun x3=>
 aa k (sD k a0 x3) fun r4=>
  rec0 r4 (IntKind.wrap .i64 (i6+1))) (
 ret a0)
noncomputable def po {S:Type} (k:Nat) (ret:Int→Option S) (r1:List Int):Nat→Int→Int→Option S
 |0=>fun _ _=> .none
 |m+1=>fun a0 i6=>vP k ret r1 (po k ret r1 m) a0 i6
noncomputable def Gi {S:Type} (k:Nat) (ret:Int→Option S) (J0:(List Int)→Int→Int→Option S) (a b:Int):Option S:=
 aa k (iQ k b) fun r1=>
 J0 r1 a 0
noncomputable def sH {S:Type} (k:Nat) (a b:Int) (ret:Int→Option S):Option S:=Gi k ret (fun r1 a0 i6=>po k ret r1 k a0 i6) a b
noncomputable def Qk {S:Type} (k:Nat) (ret:Cl→Option S) (a b:Cl):Option S:=
 aa k (sH k a.pos b.pos) fun r1=>
 aa k (sH k a.neg b.neg) fun r2=>
 ret (Cl.mk r1 r2)
noncomputable def sF {S:Type} (k:Nat) (a b:Cl) (ret:Cl→Option S):Option S:=Qk k ret a b
def vS {S:Type} (k:Nat) (ret:List Cl×Int→Option S) (f g:List Cl) (i7:Int) (rec0:(List Cl)→Int→Option S) (rec1:(List Cl)→Int→Option S) (out6':List Cl) (v8:Int):Option S:=
 ab (decide ((v8:Int)<(g.length:Int))) (
 Option.bind (al f i7) fun x3=>
 Option.bind (al g v8) fun x4=>
 aa k (sF k x3 x4) fun r5=>
 Option.bind (ay 1099511627776 out6'.length [r5].length) fun x6=>
  rec1 (out6'++[r5]) (IntKind.wrap .i64 (v8+1))) (
  rec0 out6' (IntKind.wrap .i64 (i7+1)))
noncomputable def m_ {S:Type} (k:Nat) (ret:List Cl×Int→Option S) (rec0:(List Cl)→Int→Option S) (f g:List Cl) (i7:Int):Nat→(List Cl)→Int→Option S
 |0=>fun _ _=> .none
 |m+1=>fun out6' v8=>vS k ret f g i7 rec0 (m_ k ret rec0 f g i7 m) out6' v8
def rn {S:Type} (k:Nat) (ret:List Cl×Int→Option S) (f g:List Cl) (J1:Int→(List Cl)→Int→Option S) (rec0:(List Cl)→Int→Option S) (out6:List Cl) (i7:Int):Option S:=
 ab (decide ((i7:Int)<(f.length:Int))) (
  J1 i7 out6 0) (
 aa k (iV k out6) fun r7=>
 ret (r7.1,r7.2))
noncomputable def lG {S:Type} (k:Nat) (ret:List Cl×Int→Option S) (f g:List Cl):Nat→(List Cl)→Int→Option S
 |0=>fun _ _=> .none
 |m+1=>fun out6 i7=>rn k ret f g (fun i7 out6' v8=>m_ k ret (lG k ret f g m) f g i7 k out6' v8) (lG k ret f g m) out6 i7
def Gl {S:Type} (k:Nat) (ret:List Cl×Int→Option S) (J0:(List Cl)→Int→Option S) (f g:List Cl):Option S:=
 aa k (d9 k f) fun r1=>
 ab (!r1) (
 ret (([]:List Cl),2)) (
 aa k (d9 k g) fun r2=>
 ab (!r2) (
  ret (([]:List Cl),2)) (
   J0 ([]:List Cl) 0))
noncomputable def jN {S:Type} (k:Nat) (f g:List Cl) (ret:List Cl×Int→Option S):Option S:=Gl k ret (fun out6 i7=>lG k ret f g k out6 i7) f g
def vT {S:Type} (k:Nat) (ret:List Cl×Int→Option S) (f:List Cl) (rec0:(List Cl)→Int→Int→Option S) (v4:List Cl) (v5 i6:Int):Option S:=
 ab (decide ((i6:Int)<(f.length:Int))) (
 ab (v5==0) (
  Option.bind (al f i6) fun x2=>
  aa k (xu k x2) fun r3=>
  aa k (jN k v4 r3) fun r4=>
   rec0 r4.1 r4.2 (IntKind.wrap .i64 (i6+1))) (
  ret (v4,v5))) (
 ret (v4,v5))
noncomputable def pr {S:Type} (k:Nat) (ret:List Cl×Int→Option S) (f:List Cl):Nat→(List Cl)→Int→Int→Option S
 |0=>fun _ _ _=> .none
 |m+1=>fun v4 v5 i6=>vT k ret f (pr k ret f m) v4 v5 i6
def Gm {S:Type} (k:Nat) (ret:List Cl×Int→Option S) (J0:(List Cl)→Int→Int→Option S) (f:List Cl):Option S:=
 aa k (d9 k f) fun r1=>
 ab (!r1) (
 ret (([]:List Cl),2)) (
  J0 [(Cl.mk 0 0)] 0 0)
noncomputable def oy {S:Type} (k:Nat) (f:List Cl) (ret:List Cl×Int→Option S):Option S:=Gm k ret (fun v4 v5 i6=>pr k ret f k v4 v5 i6) f
def Qq {S:Type} (k:Nat) (ret:List Cl×Int→Option S) (f:List Cl):Option S:=
 aa k (oy k f) fun r1=>
 ab (!(r1.2==0)) (
 ret (([]:List Cl),r1.2)) (
 aa k (mH k r1.1) fun r2=>
 ret (r2.1,r2.2))
noncomputable def sJ {S:Type} (k:Nat) (f:List Cl) (ret:List Cl×Int→Option S):Option S:=Qq k ret f
def vW {S:Type} (k:Nat) (ret:List Cl×Int→Option S) (f g:List Cl) (i7:Int) (rec0:(List Cl)→Int→Option S) (rec1:(List Cl)→Int→Option S) (out6':List Cl) (v8:Int):Option S:=
 ab (decide ((v8:Int)<(g.length:Int))) (
 Option.bind (al f i7) fun x3=>
 Option.bind (al g v8) fun x4=>
 aa k (sF k x3 x4) fun r5=>
 Option.bind (ay 1099511627776 out6'.length [r5].length) fun x6=>
  rec1 (out6'++[r5]) (IntKind.wrap .i64 (v8+1))) (
  rec0 out6' (IntKind.wrap .i64 (i7+1)))
noncomputable def na {S:Type} (k:Nat) (ret:List Cl×Int→Option S) (rec0:(List Cl)→Int→Option S) (f g:List Cl) (i7:Int):Nat→(List Cl)→Int→Option S
 |0=>fun _ _=> .none
 |m+1=>fun out6' v8=>vW k ret f g i7 rec0 (na k ret rec0 f g i7 m) out6' v8
def rq {S:Type} (k:Nat) (ret:List Cl×Int→Option S) (f g:List Cl) (J1:Int→(List Cl)→Int→Option S) (rec0:(List Cl)→Int→Option S) (out6:List Cl) (i7:Int):Option S:=
 ab (decide ((i7:Int)<(f.length:Int))) (
  J1 i7 out6 0) (
 aa k (mH k out6) fun r7=>
 ret (r7.1,r7.2))
noncomputable def lJ {S:Type} (k:Nat) (ret:List Cl×Int→Option S) (f g:List Cl):Nat→(List Cl)→Int→Option S
 |0=>fun _ _=> .none
 |m+1=>fun out6 i7=>rq k ret f g (fun i7 out6' v8=>na k ret (lJ k ret f g m) f g i7 k out6' v8) (lJ k ret f g m) out6 i7
def Gq {S:Type} (k:Nat) (ret:List Cl×Int→Option S) (J0:(List Cl)→Int→Option S) (f g:List Cl):Option S:=
 aa k (gi k f) fun r1=>
 ab (!r1) (
 ret (([]:List Cl),2)) (
 aa k (gi k g) fun r2=>
 ab (!r2) (
  ret (([]:List Cl),2)) (
   J0 ([]:List Cl) 0))
noncomputable def kS {S:Type} (k:Nat) (f g:List Cl) (ret:List Cl×Int→Option S):Option S:=Gq k ret (fun out6 i7=>lJ k ret f g k out6 i7) f g
def vX {S:Type} (k:Nat) (ret:List Cl×Int→Option S) (f:List Cl) (i:Int) (a_r:List Cl) (rec0:(List Cl)→Int→Option S) (v8:List Cl) (v9:Int):Option S:=
 ab (decide ((v9:Int)<(f.length:Int))) (
 Option.bind (al f v9) fun x3=>
 aa k (gh k x3.pos i) fun r4=>
 aa k (gh k x3.neg i) fun r5=>
 aa k (dS k x3.pos i) fun r6=>
 ab (r6) (
  aa k (xv k a_r) fun r7=>
  aa k (dS k x3.neg i) fun r8=>
  ab (r8) (
  aa k (sJ k a_r) fun r9=>
  ab (r9.2==0) (
   aa k (kS k [(Cl.mk r4 r5)] r9.1) fun r10=>
   ab (r10.2==0) (
   aa k (fG k v8 r10.1) fun r11=>
   ab (!(r11.2==0)) (
    ret (([]:List Cl),r11.2)) (
       rec0 r11.1 (IntKind.wrap .i64 (v9+1)))) (
   ab (!(r10.2==0)) (
    ret (([]:List Cl),r10.2)) (
       rec0 v8 (IntKind.wrap .i64 (v9+1))))) (
   ab (r9.2==0) (
   aa k (fG k v8 [(Cl.mk r4 r5)]) fun r12=>
   ab (!(r12.2==0)) (
    ret (([]:List Cl),r12.2)) (
       rec0 r12.1 (IntKind.wrap .i64 (v9+1)))) (
   ab (!(r9.2==0)) (
    ret (([]:List Cl),r9.2)) (
       rec0 v8 (IntKind.wrap .i64 (v9+1)))))) (
  ab (r7.2==0) (
   aa k (kS k [(Cl.mk r4 r5)] r7.1) fun r13=>
   ab (r13.2==0) (
   aa k (fG k v8 r13.1) fun r14=>
   ab (!(r14.2==0)) (
    ret (([]:List Cl),r14.2)) (
       rec0 r14.1 (IntKind.wrap .i64 (v9+1)))) (
   ab (!(r13.2==0)) (
    ret (([]:List Cl),r13.2)) (
       rec0 v8 (IntKind.wrap .i64 (v9+1))))) (
   ab (r7.2==0) (
   aa k (fG k v8 [(Cl.mk r4 r5)]) fun r15=>
   ab (!(r15.2==0)) (
    ret (([]:List Cl),r15.2)) (
       rec0 r15.1 (IntKind.wrap .i64 (v9+1)))) (
   ab (!(r7.2==0)) (
    ret (([]:List Cl),r7.2)) (
       rec0 v8 (IntKind.wrap .i64 (v9+1))))))) (
  aa k (dS k x3.neg i) fun r16=>
  ab (r16) (
  aa k (sJ k a_r) fun r17=>
  ab (r17.2==0) (
   aa k (kS k [(Cl.mk r4 r5)] r17.1) fun r18=>
   ab (r18.2==0) (
   aa k (fG k v8 r18.1) fun r19=>
   ab (!(r19.2==0)) (
    ret (([]:List Cl),r19.2)) (
       rec0 r19.1 (IntKind.wrap .i64 (v9+1)))) (
   ab (!(r18.2==0)) (
    ret (([]:List Cl),r18.2)) (
       rec0 v8 (IntKind.wrap .i64 (v9+1))))) (
   ab (r17.2==0) (
   aa k (fG k v8 [(Cl.mk r4 r5)]) fun r20=>
   ab (!(r20.2==0)) (
    ret (([]:List Cl),r20.2)) (
       rec0 r20.1 (IntKind.wrap .i64 (v9+1)))) (
   ab (!(r17.2==0)) (
    ret (([]:List Cl),r17.2)) (
       rec0 v8 (IntKind.wrap .i64 (v9+1)))))) (
  aa k (kS k [(Cl.mk r4 r5)] [(Cl.mk 0 0)]) fun r21=>
  ab (r21.2==0) (
   aa k (fG k v8 r21.1) fun r22=>
   ab (!(r22.2==0)) (
   ret (([]:List Cl),r22.2)) (
      rec0 r22.1 (IntKind.wrap .i64 (v9+1)))) (
   ab (!(r21.2==0)) (
   ret (([]:List Cl),r21.2)) (
      rec0 v8 (IntKind.wrap .i64 (v9+1))))))) (
 ret (v8,0))
noncomputable def nc {S:Type} (k:Nat) (ret:List Cl×Int→Option S) (f:List Cl) (i:Int) (a_r:List Cl):Nat→(List Cl)→Int→Option S
 |0=>fun _ _=> .none
 |m+1=>fun v8 v9=>vX k ret f i a_r (nc k ret f i a_r m) v8 v9
def Gr {S:Type} (k:Nat) (ret:List Cl×Int→Option S) (J0:(List Cl)→Int→Option S) (f:List Cl) (i:Int) (a_r:List Cl):Option S:=
 aa k (gi k f) fun r1=>
 ab (!r1) (
 ret (([]:List Cl),2)) (
 ab (decide ((i:Int)<0)) (
  ret (([]:List Cl),2)) (
  ab (decide ((i:Int)≥24)) (
  ret (([]:List Cl),2)) (
  aa k (d9 k a_r) fun r2=>
  ab (!r2) (
   ret (([]:List Cl),2)) (
     J0 [] 0))))
noncomputable def xw {S:Type} (k:Nat) (f:List Cl) (i:Int) (a_r:List Cl) (ret:List Cl×Int→Option S):Option S:=Gr k ret (fun v8 v9=>nc k ret f i a_r k v8 v9) f i a_r
def Qm {S:Type} (k:Nat) (ret:List Cl×Int→Option S) (f g:List Cl):Option S:=
 aa k (d9 k f) fun r1=>
 ab (!r1) (
 ret (([]:List Cl),2)) (
 aa k (d9 k g) fun r2=>
 ab (!r2) (
  ret (([]:List Cl),2)) (
  Option.bind (ay 1099511627776 ([]:List Cl).length f.length) fun x3=>
  Option.bind (ay 1099511627776 (([]:List Cl)++f).length g.length) fun x4=>
  aa k (iV k ((([]:List Cl)++f)++g)) fun r5=>
  ret (r5.1,r5.2)))
noncomputable def xq {S:Type} (k:Nat) (f g:List Cl) (ret:List Cl×Int→Option S):Option S:=Qm k ret f g
def vU {S:Type} (k:Nat) (ret:List Cl×Int→Option S) (f:List Cl) (i:Int) (a_r v8:List Cl) (v9:Int) (rec0:(List Cl)→Int→Option S) (g11:List Cl) (v12:Int):Option S:=
 ab (v12==0) (
 aa k (xq k v8 g11) fun r11=>
 ab (!(r11.2==0)) (
  ret (([]:List Cl),r11.2)) (
   rec0 r11.1 (IntKind.wrap .i64 (v9+1)))) (
 ab (!(v12==0)) (
  ret (([]:List Cl),v12)) (
   rec0 v8 (IntKind.wrap .i64 (v9+1))))
noncomputable def pu {S:Type} (k:Nat) (ret:List Cl×Int→Option S) (rec0:(List Cl)→Int→Option S) (f:List Cl) (i:Int) (a_r v8:List Cl) (v9:Int):Nat→(List Cl)→Int→Option S
 |0=>fun _ _=> .none
 |_+1=>fun g11 v12=>vU k ret f i a_r v8 v9 rec0 g11 v12
def rp {S:Type} (k:Nat) (ret:List Cl×Int→Option S) (f:List Cl) (i:Int) (a_r:List Cl) (J1:(List Cl)→Int→(List Cl)→Int→Option S) (rec0:(List Cl)→Int→Option S) (v8:List Cl) (v9:Int):Option S:=
 ab (decide ((v9:Int)<(f.length:Int))) (
 Option.bind (al f v9) fun x3=>
 aa k (gh k x3.pos i) fun r4=>
 aa k (gh k x3.neg i) fun r5=>
 aa k (dS k x3.pos i) fun r6=>
 ab (r6) (
  aa k (jN k [(Cl.mk r4 r5)] a_r) fun r7=>
  ab (r7.2==0) (
  aa k (dS k x3.neg i) fun r8=>
  ab (r8) (
   aa k (oy k a_r) fun r9=>
   ab (r9.2==0) (
   aa k (jN k r7.1 r9.1) fun r10=>
      J1 v8 v9 r10.1 r10.2) (
      J1 v8 v9 r7.1 r9.2)) (
     J1 v8 v9 r7.1 r7.2)) (
    J1 v8 v9 r7.1 r7.2)) (
  aa k (dS k x3.neg i) fun r12=>
  ab (r12) (
  aa k (oy k a_r) fun r13=>
  ab (r13.2==0) (
   aa k (jN k [(Cl.mk r4 r5)] r13.1) fun r14=>
     J1 v8 v9 r14.1 r14.2) (
     J1 v8 v9 [(Cl.mk r4 r5)] r13.2)) (
    J1 v8 v9 [(Cl.mk r4 r5)] 0))) (
 ret (v8,0))
noncomputable def lH {S:Type} (k:Nat) (ret:List Cl×Int→Option S) (f:List Cl) (i:Int) (a_r:List Cl):Nat→(List Cl)→Int→Option S
 |0=>fun _ _=> .none
 |m+1=>fun v8 v9=>rp k ret f i a_r (fun v8 v9 g11 v12=>pu k ret (lH k ret f i a_r m) f i a_r v8 v9 k g11 v12) (lH k ret f i a_r m) v8 v9
def Gn {S:Type} (k:Nat) (ret:List Cl×Int→Option S) (J0:(List Cl)→Int→Option S) (f:List Cl) (i:Int) (a_r:List Cl):Option S:=
 aa k (d9 k f) fun r1=>
 ab (!r1) (
 ret (([]:List Cl),2)) (
 aa k (d9 k a_r) fun r2=>
 ab (!r2) (
  ret (([]:List Cl),2)) (
  ab (decide ((i:Int)<0)) (
  ret (([]:List Cl),2)) (
  ab (decide ((i:Int)≥24)) (
   ret (([]:List Cl),2)) (
     J0 [] 0))))
noncomputable def xt {S:Type} (k:Nat) (f:List Cl) (i:Int) (a_r:List Cl) (ret:List Cl×Int→Option S):Option S:=Gn k ret (fun v8 v9=>lH k ret f i a_r k v8 v9) f i a_r
def QF {S:Type} (k:Nat) (ret:List Cl×Int→Option S) (f:List Cl) (isFace:Bool) (i:Int) (a_r:List Cl) (depth:Int):Option S:=
 aa k (sI k f) fun r1=>
 aa k (dS k r1 (IntKind.wrap .i64 (i+depth))) fun r2=>
 ab (!r2) (
 ret (f,0)) (
 aa k (jM k a_r 0 depth) fun r3=>
 ab (!(r3.2==0)) (
  ret (([]:List Cl),r3.2)) (
  ab (isFace) (
  aa k (xw k f (IntKind.wrap .i64 (i+depth)) r3.1) fun r4=>
  ret (r4.1,r4.2)) (
  aa k (xt k f (IntKind.wrap .i64 (i+depth)) r3.1) fun r5=>
  ret (r5.1,r5.2))))
noncomputable def sO {S:Type} (k:Nat) (f:List Cl) (isFace:Bool) (i:Int) (a_r:List Cl) (depth:Int) (ret:List Cl×Int→Option S):Option S:=QF k ret f isFace i a_r depth
def vF {S:Type} (k:Nat) (ret:Int→Option S) (i:Int) (rec0:(List Int)→Int→Option S) (l5:List Int) (v6:Int):Option S:=
 ab (decide ((v6:Int)<(l5.length:Int))) (
 ab (decide ((i:Int)≥0)) (
  Option.bind (al l5 v6) fun x3=>
  Option.bind (al l5 v6) fun x4=>
  ab (decide ((x4:Int)>i)) (
  Option.bind (al l5 v6) fun x5=>
  Option.bind (al l5 v6) fun x6=>
  Option.bind (al l5 v6) fun x7=>
  Option.bind (al l5 v6) fun x8=>
    rec0 (l5.set (Int.toNat v6) (IntKind.wrap .i64 (x6-1))) (IntKind.wrap .i64 (v6+1))) (
    rec0 l5 (IntKind.wrap .i64 (v6+1)))) (
   rec0 l5 (IntKind.wrap .i64 (v6+1)))) (
 aa k (iR k l5) fun r9=>
 ret r9)
noncomputable def m6 {S:Type} (k:Nat) (ret:Int→Option S) (i:Int):Nat→(List Int)→Int→Option S
 |0=>fun _ _=> .none
 |m+1=>fun l5 v6=>vF k ret i (m6 k ret i m) l5 v6
noncomputable def F9 {S:Type} (k:Nat) (ret:Int→Option S) (J0:(List Int)→Int→Option S) (s i:Int):Option S:=
 aa k (gh k s i) fun r1=>
 aa k (iQ k r1) fun r2=>
 J0 r2 0
noncomputable def ov {S:Type} (k:Nat) (s i:Int) (ret:Int→Option S):Option S:=F9 k ret (fun l5 v6=>m6 k ret i k l5 v6) s i
def wj {S:Type} (k:Nat) (ret:List Cl→Option S) (f:List Cl) (i:Int) (rec0:(List Cl)→Int→Option S) (out5:List Cl) (v6:Int):Option S:=
 ab (decide ((v6:Int)<(f.length:Int))) (
 Option.bind (al f v6) fun x1=>
 aa k (ov k x1.pos i) fun r2=>
 Option.bind (al f v6) fun x3=>
 aa k (ov k x3.neg i) fun r4=>
 Option.bind (ay 1099511627776 out5.length [(Cl.mk r2 r4)].length) fun x5=>
  rec0 (out5++[(Cl.mk r2 r4)]) (IntKind.wrap .i64 (v6+1))) (
 aa k (iV k out5) fun r6=>
 ret r6.1)
noncomputable def pG {S:Type} (k:Nat) (ret:List Cl→Option S) (f:List Cl) (i:Int):Nat→(List Cl)→Int→Option S
 |0=>fun _ _=> .none
 |m+1=>fun out5 v6=>wj k ret f i (pG k ret f i m) out5 v6
noncomputable def GE {S:Type} (k:Nat) (ret:List Cl→Option S) (J0:(List Cl)→Int→Option S) (f:List Cl) (i:Int):Option S:=
 J0 ([]:List Cl) 0
noncomputable def sN {S:Type} (k:Nat) (f:List Cl) (i:Int) (ret:List Cl→Option S):Option S:=GE k ret (fun out5 v6=>pG k ret f i k out5 v6) f i
abbrev gN (S:Type):=Tm→Int→(List Cl)→Int→Bool→(Tm→Option S)→Option S
def wk {S:Type} (hd:gN S) (k:Nat) (ret:Tm→Option S) (t:Tm) (b11_3:List Cl) (b11_4:List Tm) (b11_5:List (Br Tm)) (i v18:Int) (a_r:List Cl) (depth:Int) (drop:Bool) (rec1:(List (Br Tm))→Int→Option S) (rec2:(List Cl)→(List Tm)→Int→Option S) (b21_0:List Cl) (b21_1:List Tm) (v22:Int):Option S:=
 Option.bind (al t.sys v18) fun x12=>
 ab (decide ((v22:Int)<(x12.kids.length:Int))) (
 Option.bind (al t.sys v18) fun x13=>
 Option.bind (al x13.kids v22) fun x14=>
 aa k (oC k t.kind) fun r15=>
 hd (ac x14) i a_r (IntKind.wrap .i64 (depth+r15)) drop fun r16=>
 ab (decide ((r16.kind:Int)<0)) (
  ret (ac r16)) (
  Option.bind (ay 1099511627776 b21_1.length [(ac r16)].length) fun x17=>
   rec2 b21_0 (b21_1++[(ac r16)]) (IntKind.wrap .i64 (v22+1)))) (
 Option.bind (ay 1099511627776 b11_5.length [(Br.mk b21_0 b21_1)].length) fun x18=>
  rec1 (b11_5++[(Br.mk b21_0 b21_1)]) (IntKind.wrap .i64 (v18+1)))
noncomputable def kc {S:Type} (hd:gN S) (k:Nat) (ret:Tm→Option S) (rec1:(List (Br Tm))→Int→Option S) (t:Tm) (b11_3:List Cl) (b11_4:List Tm) (b11_5:List (Br Tm)) (i v18:Int) (a_r:List Cl) (depth:Int) (drop:Bool):Nat→(List Cl)→(List Tm)→Int→Option S
 |0=>fun _ _ _=> .none
 |m+1=>fun b21_0 b21_1 v22=>wk hd k ret t b11_3 b11_4 b11_5 i v18 a_r depth drop rec1 (kc hd k ret rec1 t b11_3 b11_4 b11_5 i v18 a_r depth drop m) b21_0 b21_1 v22
def rP {S:Type} (hd:gN S) (k:Nat) (ret:Tm→Option S) (t:Tm) (b11_3:List Cl) (b11_4:List Tm) (i:Int) (a_r:List Cl) (depth:Int) (drop:Bool) (J2:(List (Br Tm))→Int→(List Cl)→(List Tm)→Int→Option S) (rec1:(List (Br Tm))→Int→Option S) (b11_5:List (Br Tm)) (v18:Int):Option S:=
 ab (decide ((v18:Int)<(t.sys.length:Int))) (
 Option.bind (al t.sys v18) fun x8=>
 aa k (sO k x8.face true i a_r depth) fun r9=>
 ab (!(r9.2==0)) (
  aa k (d_ k r9.2) fun r10=>
  ret (Tm.mk r10.1 r10.2.1 r10.2.2 [] [] [])) (
  ab ((r9.1.length:Int)==0) (
    rec1 b11_5 (IntKind.wrap .i64 (v18+1))) (
  ab (drop) (
   aa k (sN k r9.1 (IntKind.wrap .i64 (i+depth))) fun r11=>
     J2 b11_5 v18 r11 ([]:List Tm) 0) (
     J2 b11_5 v18 r9.1 ([]:List Tm) 0)))) (
 ret (Tm.mk t.kind t.n t.name b11_3 b11_4 b11_5))
noncomputable def hU {S:Type} (hd:gN S) (k:Nat) (ret:Tm→Option S) (t:Tm) (b11_3:List Cl) (b11_4:List Tm) (i:Int) (a_r:List Cl) (depth:Int) (drop:Bool):Nat→(List (Br Tm))→Int→Option S
 |0=>fun _ _=> .none
 |m+1=>fun b11_5 v18=>rP hd k ret t b11_3 b11_4 i a_r depth drop (fun b11_5 v18 b21_0 b21_1 v22=>kc hd k ret (hU hd k ret t b11_3 b11_4 i a_r depth drop m) t b11_3 b11_4 b11_5 i v18 a_r depth drop k b21_0 b21_1 v22) (hU hd k ret t b11_3 b11_4 i a_r depth drop m) b11_5 v18
def rO {S:Type} (hd:gN S) (k:Nat) (ret:Tm→Option S) (t:Tm) (i:Int) (a_r:List Cl) (depth:Int) (drop:Bool) (J1:(List Cl)→(List Tm)→(List (Br Tm))→Int→Option S) (rec0:(List Cl)→(List Tm)→Int→Option S) (b11_3:List Cl) (b11_4:List Tm) (v14:Int):Option S:=
 ab (decide ((v14:Int)<(t.kids.length:Int))) (
 aa k (oz k t.kind v14) fun r4=>
 Option.bind (al t.kids v14) fun x5=>
 hd (ac x5) i a_r (IntKind.wrap .i64 (depth+r4.2)) drop fun r6=>
 ab (decide ((r6.kind:Int)<0)) (
  ret (ac r6)) (
  Option.bind (ay 1099511627776 b11_4.length [(ac r6)].length) fun x7=>
   rec0 b11_3 (b11_4++[(ac r6)]) (IntKind.wrap .i64 (v14+1)))) (
  J1 b11_3 b11_4 ([]:List (Br Tm)) 0)
noncomputable def lN {S:Type} (hd:gN S) (k:Nat) (ret:Tm→Option S) (t:Tm) (i:Int) (a_r:List Cl) (depth:Int) (drop:Bool):Nat→(List Cl)→(List Tm)→Int→Option S
 |0=>fun _ _ _=> .none
 |m+1=>fun b11_3 b11_4 v14=>rO hd k ret t i a_r depth drop (fun b11_3 b11_4 b11_5 v18=>hU hd k ret t b11_3 b11_4 i a_r depth drop k b11_5 v18) (lN hd k ret t i a_r depth drop m) b11_3 b11_4 v14
def GF {S:Type} (hd:gN S) (k:Nat) (ret:Tm→Option S) (J0:(List Cl)→(List Tm)→Int→Option S) (t:Tm) (i:Int) (a_r:List Cl) (depth:Int) (drop:Bool):Option S:=
 aa k (sO k t.r (t.kind==14) i a_r depth) fun r1=>
 ab (!(r1.2==0)) (
 aa k (d_ k r1.2) fun r2=>
 ret (Tm.mk r2.1 r2.2.1 r2.2.2 [] [] [])) (
 ab (drop) (
  aa k (sN k r1.1 (IntKind.wrap .i64 (i+depth))) fun r3=>
   J0 r3 ([]:List Tm) 0) (
   J0 r1.1 ([]:List Tm) 0))
noncomputable def fH {S:Type}:Nat→Tm→Int→(List Cl)→Int→Bool→(Tm→Option S)→Option S
 |0=>fun _ _ _ _ _ _=> .none
 |k+1=>fun t i a_r depth drop ret=>GF (fH k) k ret (fun b11_3 b11_4 v14=>lN (fH k) k ret t i a_r depth drop k b11_3 b11_4 v14) t i a_r depth drop
def QE {S:Type} (k:Nat) (ret:Tm→Option S) (t:Tm) (i:Int) (a_r:List Cl):Option S:=
 ab (decide ((t.kind:Int)<0)) (
 ret (ac t)) (
 aa k (jM k a_r i 1) fun r1=>
 ab (!(r1.2==0)) (
  aa k (d_ k r1.2) fun r2=>
  ret (Tm.mk r2.1 r2.2.1 r2.2.2 [] [] [])) (
  fH k (ac t) i r1.1 0 true fun r3=>
  ret (ac r3)))
noncomputable def oE {S:Type} (k:Nat) (t:Tm) (i:Int) (a_r:List Cl) (ret:Tm→Option S):Option S:=QE k ret t i a_r
def QO {S:Type} (k:Nat) (ret:Tm→Option S) (line:Tm) (a_r:List Cl):Option S:=
 ab (decide ((line.kind:Int)<0)) (
 ret (ac line)) (
 aa k (xz k (ac line) 1 2) fun r1=>
 ab (!(r1.2==0)) (
  aa k (d_ k r1.2) fun r2=>
  ret (Tm.mk r2.1 r2.2.1 r2.2.2 [] [] [])) (
  aa k (oE k (ac r1.1) 0 a_r) fun r3=>
  ret (ac r3)))
noncomputable def jO {S:Type} (k:Nat) (line:Tm) (a_r:List Cl) (ret:Tm→Option S):Option S:=QO k ret line a_r
def GC {S:Type} (k:Nat) (ret:Tm→Option S) (t:Tm) (vars dims:Int):Option S:=
 ab (decide ((t.kind:Int)<0)) (
 ret (ac t)) (
 dh k (ac t) 0 vars 0 0 fun r1=>
 ab (decide ((r1.kind:Int)<0)) (
  ret (ac r1)) (
  dh k (ac r1) 0 0 0 dims fun r2=>
  ret (ac r2)))
noncomputable def dl {S:Type} (k:Nat) (t:Tm) (vars dims:Int) (ret:Tm→Option S):Option S:=GC k ret t vars dims
def wl {S:Type} (k:Nat) (ret:Tm→Option S) (kind:Int) (kids:List Tm) (rec0:Int→Option S) (i5:Int):Option S:=
 ab (decide ((i5:Int)<(kids.length:Int))) (
 Option.bind (al kids i5) fun x1=>
 ab (decide ((x1.kind:Int)<0)) (
  Option.bind (al kids i5) fun x2=>
  ret (ac x2)) (
   rec0 (IntKind.wrap .i64 (i5+1)))) (
 ret (Tm.mk kind 0 ByteArray.empty [] kids []))
noncomputable def pI {S:Type} (k:Nat) (ret:Tm→Option S) (kind:Int) (kids:List Tm):Nat→Int→Option S
 |0=>fun _=> .none
 |m+1=>fun i5=>wl k ret kind kids (pI k ret kind kids m) i5
noncomputable def zZ {S:Type} (k:Nat) (ret:Tm→Option S) (J0:Int→Option S) (kind:Int) (kids:List Tm):Option S:=
 J0 0
noncomputable def oF {S:Type} (k:Nat) (kind:Int) (kids:List Tm) (ret:Tm→Option S):Option S:=zZ k ret (fun i5=>pI k ret kind kids k i5) kind kids
noncomputable def QV {S:Type} (k:Nat) (ret:Tm→Option S) (kind:Int) (a b:Tm):Option S:=
 aa k (oF k kind [(ac a),(ac b)]) fun r1=>
 ret (ac r1)
noncomputable def bV {S:Type} (k:Nat) (kind:Int) (a b:Tm) (ret:Tm→Option S):Option S:=QV k ret kind a b
def QG {S:Type} (k:Nat) (ret:Tm→Option S) (line:Tm) (phi:List Cl) (a:Tm) (a_end:Cl) (a_r:List Cl):Option S:=
 aa k (jM k phi 0 1) fun r1=>
 ab (r1.2==0) (
 aa k (fG k r1.1 [a_end]) fun r2=>
 ab (!(r2.2==0)) (
  aa k (d_ k r2.2) fun r3=>
  ret (Tm.mk r3.1 r3.2.1 r3.2.2 [] [] [])) (
  aa k (jO k (ac line) a_r) fun r4=>
  aa k (dl k (ac a) 0 1) fun r5=>
  aa k (bV k 14 (ac r4) (ac r5)) fun r6=>
  ab (decide ((r6.kind:Int)≥0)) (
  ret (Tm.mk r6.kind r6.n r6.name r2.1 r6.kids r6.sys)) (
  ret (ac r6)))) (
 ab (!(r1.2==0)) (
  aa k (d_ k r1.2) fun r7=>
  ret (Tm.mk r7.1 r7.2.1 r7.2.2 [] [] [])) (
  aa k (jO k (ac line) a_r) fun r8=>
  aa k (dl k (ac a) 0 1) fun r9=>
  aa k (bV k 14 (ac r8) (ac r9)) fun r10=>
  ab (decide ((r10.kind:Int)≥0)) (
  ret (Tm.mk r10.kind r10.n r10.name r1.1 r10.kids r10.sys)) (
  ret (ac r10))))
noncomputable def sQ {S:Type} (k:Nat) (line:Tm) (phi:List Cl) (a:Tm) (a_end:Cl) (a_r:List Cl) (ret:Tm→Option S):Option S:=QG k ret line phi a a_end a_r
noncomputable def QS {S:Type} (k:Nat) (ret:Tm→Option S) (line:Tm) (phi:List Cl) (a:Tm):Option S:=
 aa k (sQ k (ac line) phi (ac a) (Cl.mk 0 1) [(Cl.mk 3 0)]) fun r1=>
 ret (ac r1)
noncomputable def B1 {S:Type} (k:Nat) (line:Tm) (phi:List Cl) (a:Tm) (ret:Tm→Option S):Option S:=QS k ret line phi a
def QL {S:Type} (k:Nat) (ret:Tm×Int→Option S) (t:Tm):Option S:=
 ab (decide ((t.kind:Int)<0)) (
 ret ((Tm.mk 0 0 ByteArray.empty [] [] []),IntKind.wrap .i64 (0-t.kind))) (
 aa k (oA k (ac t)) fun r1=>
 ab (!(r1==0)) (
  ret ((Tm.mk 0 0 ByteArray.empty [] [] []),r1)) (
  ret ((ac t),0)))
noncomputable def gU {S:Type} (k:Nat) (t:Tm) (ret:Tm×Int→Option S):Option S:=QL k ret t
def rR {S:Type} (k:Nat) (ret:Tm×Int→Option S) (line a:Tm) (phi:List Cl) (v8:Int):Option S:=
 ab (!(v8==0)) (
 ret ((Tm.mk 0 0 ByteArray.empty [] [] []),v8)) (
 aa k (B1 k (ac line) phi (ac a)) fun r3=>
 aa k (gU k (ac r3)) fun r4=>
 ret ((ac r4.1),r4.2))
noncomputable def yD {S:Type} (k:Nat) (ret:Tm×Int→Option S) (line a:Tm) (phi:List Cl):Nat→Int→Option S
 |0=>fun _=> .none
 |_+1=>fun v8=>rR k ret line a phi v8
def GL {S:Type} (k:Nat) (ret:Tm×Int→Option S) (J0:Int→Option S) (line:Tm) (phi:List Cl) (a:Tm):Option S:=
 aa k (gV k [(ac line),(ac a)]) fun r1=>
 ab (r1==0) (
 aa k (gi k phi) fun r2=>
 ab (!r2) (
   J0 2) (
   J0 r1)) (
  J0 r1)
noncomputable def xL {S:Type} (k:Nat) (line:Tm) (phi:List Cl) (a:Tm) (ret:Tm×Int→Option S):Option S:=GL k ret (fun v8=>yD k ret line a phi k v8) line phi a
noncomputable def Pb {S:Type} (k:Nat) (ret:Tm×Int→Option S) (line:Tm) (phi:List Cl) (a:Tm):Option S:=
 aa k (sg k (ac line) phi (ac a) (Cl.mk 1 0) [(Cl.mk 0 1),(Cl.mk 2 0)]) fun r1=>
 ret ((ac r1.1),r1.2)
noncomputable def wG {S:Type} (k:Nat) (line:Tm) (phi:List Cl) (a:Tm) (ret:Tm×Int→Option S):Option S:=Pb k ret line phi a
noncomputable def QH {S:Type} (k:Nat) (ret:Tm→Option S) (line:Tm) (phi:List Cl) (a:Tm):Option S:=
 aa k (sQ k (ac line) phi (ac a) (Cl.mk 1 0) [(Cl.mk 0 1),(Cl.mk 2 0)]) fun r1=>
 ret (ac r1)
noncomputable def B0 {S:Type} (k:Nat) (line:Tm) (phi:List Cl) (a:Tm) (ret:Tm→Option S):Option S:=QH k ret line phi a
def rQ {S:Type} (k:Nat) (ret:Tm×Int→Option S) (line a:Tm) (phi:List Cl) (v8:Int):Option S:=
 ab (!(v8==0)) (
 ret ((Tm.mk 0 0 ByteArray.empty [] [] []),v8)) (
 aa k (B0 k (ac line) phi (ac a)) fun r3=>
 aa k (gU k (ac r3)) fun r4=>
 ret ((ac r4.1),r4.2))
noncomputable def yC {S:Type} (k:Nat) (ret:Tm×Int→Option S) (line a:Tm) (phi:List Cl):Nat→Int→Option S
 |0=>fun _=> .none
 |_+1=>fun v8=>rQ k ret line a phi v8
def GI {S:Type} (k:Nat) (ret:Tm×Int→Option S) (J0:Int→Option S) (line:Tm) (phi:List Cl) (a:Tm):Option S:=
 aa k (gV k [(ac line),(ac a)]) fun r1=>
 ab (r1==0) (
 aa k (gi k phi) fun r2=>
 ab (!r2) (
   J0 2) (
   J0 r1)) (
  J0 r1)
noncomputable def xD {S:Type} (k:Nat) (line:Tm) (phi:List Cl) (a:Tm) (ret:Tm×Int→Option S):Option S:=GI k ret (fun v8=>yC k ret line a phi k v8) line phi a
abbrev eP (S:Type):=Tm→Tm→(Bool→Option S)→Option S
def wh {S:Type} (hd:eP S) (k:Nat) (ret:Bool→Option S) (a b:List Tm) (rec0:Int→Option S) (i5:Int):Option S:=
 ab (decide ((i5:Int)<(a.length:Int))) (
 Option.bind (al a i5) fun x1=>
 Option.bind (al b i5) fun x2=>
 hd (ac x1) (ac x2) fun r3=>
 ab (!r3) (
  ret false) (
   rec0 (IntKind.wrap .i64 (i5+1)))) (
 ret true)
noncomputable def pF {S:Type} (hd:eP S) (k:Nat) (ret:Bool→Option S) (a b:List Tm):Nat→Int→Option S
 |0=>fun _=> .none
 |m+1=>fun i5=>wh hd k ret a b (pF hd k ret a b m) i5
def GA {S:Type} (hd:eP S) (k:Nat) (ret:Bool→Option S) (J0:Int→Option S) (a b:List Tm):Option S:=
 ab (!((a.length:Int)==(b.length:Int))) (
 ret false) (
  J0 0)
noncomputable def sK {S:Type} (hd:eP S) (k:Nat) (a b:List Tm) (ret:Bool→Option S):Option S:=GA hd k ret (fun i5=>pF hd k ret a b k i5) a b
def we {S:Type} (hd:eP S) (k:Nat) (ret:Bool→Option S) (a b:Tm) (rec0:Int→Option S) (i5:Int):Option S:=
 ab (decide ((i5:Int)<(a.sys.length:Int))) (
 Option.bind (al a.sys i5) fun x3=>
 Option.bind (al b.sys i5) fun x4=>
 aa k (iW k x3.face x4.face) fun r5=>
 ab (!r5) (
  ret false) (
  Option.bind (al a.sys i5) fun x6=>
  Option.bind (al b.sys i5) fun x7=>
  aa k (sK hd k x6.kids x7.kids) fun r8=>
  ab (!r8) (
  ret false) (
    rec0 (IntKind.wrap .i64 (i5+1))))) (
 ret true)
noncomputable def nf {S:Type} (hd:eP S) (k:Nat) (ret:Bool→Option S) (a b:Tm):Nat→Int→Option S
 |0=>fun _=> .none
 |m+1=>fun i5=>we hd k ret a b (nf hd k ret a b m) i5
def Gy {S:Type} (hd:eP S) (k:Nat) (ret:Bool→Option S) (J0:Int→Option S) (a b:Tm):Option S:=
 ab (!(a.kind==b.kind)) (
 ret false) (
 ab (!(a.n==b.n)) (
  ret false) (
  ab (!(a.name==b.name)) (
  ret false) (
  aa k (iW k a.r b.r) fun r1=>
  ab (!r1) (
   ret false) (
   aa k (sK hd k a.kids b.kids) fun r2=>
   ab (!r2) (
   ret false) (
   ab (!((a.sys.length:Int)==(b.sys.length:Int))) (
    ret false) (
       J0 0))))))
noncomputable def dz {S:Type}:Nat→Tm→Tm→(Bool→Option S)→Option S
 |0=>fun _ _ _=> .none
 |k+1=>fun a b ret=>Gy (dz k) k ret (fun i5=>nf (dz k) k ret a b k i5) a b
def P2 {S:Type} (k:Nat) (ret:Bool→Option S) (a:Tm) (a_e:Int) (b:Tm) (a_bad:Int):Option S:=
 dz k (ac a) (ac b) fun r1=>
 ab (r1) (
 ret (a_e==a_bad)) (
 ret false)
noncomputable def gg {S:Type} (k:Nat) (a:Tm) (a_e:Int) (b:Tm) (a_bad:Int) (ret:Bool→Option S):Option S:=P2 k ret a a_e b a_bad
def P0 {S:Type} (k:Nat) (ret:Bool→Option S) (line:Tm) (phi:List Cl) (t:Tm):Option S:=
 aa k (jK k (ac line) (ac t) ([]:List (Br Tm))) fun r1=>
 ab (r1) (
 aa k (fF k) fun r2=>
 ret r2) (
 ab (decide (((phi.length:Int):Int)>24)) (
  aa k (fF k) fun r3=>
  ret r3) (
  aa k (sf k (ac line) phi (ac t)) fun r4=>
  aa k (xL k (ac line) phi (ac t)) fun r5=>
  aa k (wG k (ac line) phi (ac t)) fun r6=>
  aa k (xD k (ac line) phi (ac t)) fun r7=>
  aa k (gg k (ac r4.1) r4.2 (ac r5.1) r5.2) fun r8=>
  ab (r8) (
  aa k (gg k (ac r6.1) r6.2 (ac r7.1) r7.2) fun r9=>
  ab (r9) (
   aa k (fF k) fun r10=>
   ret r10) (
   ret false)) (
  ret false)))
noncomputable def BV {S:Type} (k:Nat) (line:Tm) (phi:List Cl) (t:Tm) (ret:Bool→Option S):Option S:=P0 k ret line phi t
abbrev eQ (S:Type):=Tm→(Tm→Option S)→Option S
def wv {S:Type} (hd:eQ S) (k:Nat) (ret:List Tm→Option S) (l:List Tm) (rec0:(List Tm)→Int→Option S) (out3:List Tm) (v8:Int):Option S:=
 ab (decide ((v8:Int)<(l.length:Int))) (
 Option.bind (al l v8) fun x1=>
 hd (ac x1) fun r2=>
 Option.bind (ay 1099511627776 out3.length [(ac r2)].length) fun x3=>
  rec0 (out3++[(ac r2)]) (IntKind.wrap .i64 (v8+1))) (
 ret out3)
noncomputable def pO {S:Type} (hd:eQ S) (k:Nat) (ret:List Tm→Option S) (l:List Tm):Nat→(List Tm)→Int→Option S
 |0=>fun _ _=> .none
 |m+1=>fun out3 v8=>wv hd k ret l (pO hd k ret l m) out3 v8
noncomputable def GR {S:Type} (hd:eQ S) (k:Nat) (ret:List Tm→Option S) (J0:(List Tm)→Int→Option S) (l:List Tm):Option S:=
 J0 ([]:List Tm) 0
noncomputable def sW {S:Type} (hd:eQ S) (k:Nat) (l:List Tm) (ret:List Tm→Option S):Option S:=GR hd k ret (fun out3 v8=>pO hd k ret l k out3 v8) l
def wt {S:Type} (hd:eQ S) (k:Nat) (ret:Tm→Option S) (t:Tm) (r1:List Cl) (r2:List Tm) (rec0:(List (Br Tm))→Int→Option S) (b3_5:List (Br Tm)) (v22:Int):Option S:=
 ab (decide ((v22:Int)<(t.sys.length:Int))) (
 Option.bind (al t.sys v22) fun x3=>
 p_ x3.face fun r4=>
 aa k (sW hd k x3.kids) fun r5=>
 Option.bind (ay 1099511627776 b3_5.length [(Br.mk r4 r5)].length) fun x6=>
  rec0 (b3_5++[(Br.mk r4 r5)]) (IntKind.wrap .i64 (v22+1))) (
 ret (Tm.mk t.kind t.n t.name r1 r2 b3_5))
noncomputable def pN {S:Type} (hd:eQ S) (k:Nat) (ret:Tm→Option S) (t:Tm) (r1:List Cl) (r2:List Tm):Nat→(List (Br Tm))→Int→Option S
 |0=>fun _ _=> .none
 |m+1=>fun b3_5 v22=>wt hd k ret t r1 r2 (pN hd k ret t r1 r2 m) b3_5 v22
noncomputable def GQ {S:Type} (hd:eQ S) (k:Nat) (ret:Tm→Option S) (J0:(List Cl)→(List Tm)→(List (Br Tm))→Int→Option S) (t:Tm):Option S:=
 p_ t.r fun r1=>
 aa k (sW hd k t.kids) fun r2=>
 J0 r1 r2 ([]:List (Br Tm)) 0
noncomputable def dF {S:Type}:Nat→Tm→(Tm→Option S)→Option S
 |0=>fun _ _=> .none
 |k+1=>fun t ret=>GQ (dF k) k ret (fun r1 r2 b3_5 v22=>pN (dF k) k ret t r1 r2 k b3_5 v22) t
noncomputable def Pk {S:Type} (k:Nat) (ret:Int×Int×ByteArray×List Tm×Int→Option S) (t a f y:Tm) (c0:Int):Option S:=
 aa k (co k (ac a) 1 1 c0) fun r1=>
 aa k (co k (ac y) 1 0 r1.2) fun r2=>
 aa k (co k (ac f) 1 0 r2.2) fun r3=>
 aa k (eR k 0) fun r4=>
 aa k (bt k 6 [(ac r3.1),(Tm.mk r4.1 r4.2.1 r4.2.2 [] [] [])]) fun r5=>
 aa k (bt k 11 [(ac r1.1),(ac r2.1),(Tm.mk r5.1 r5.2.1 r5.2.2.1 [] r5.2.2.2 [])]) fun r6=>
 aa k (bt k 7 [(ac t),(Tm.mk r6.1 r6.2.1 r6.2.2.1 [] r6.2.2.2 [])]) fun r7=>
 ret (r7.1,r7.2.1,r7.2.2.1,r7.2.2.2,r3.2)
noncomputable def n_ {S:Type} (k:Nat) (t a f y:Tm) (c0:Int) (ret:Int×Int×ByteArray×List Tm×Int→Option S):Option S:=Pk k ret t a f y c0
noncomputable def Pe {S:Type} (k:Nat) (ret:Tm×Int→Option S) (t a f y:Tm):Option S:=
 aa k (gQ k [(ac t),(ac a),(ac f),(ac y)]) fun r1=>
 dF k (ac t) fun r2=>
 aa k (n_ k (ac r2) (ac a) (ac f) (ac y) r1) fun r3=>
 aa k (cO k (Tm.mk r3.1 r3.2.1 r3.2.2.1 [] r3.2.2.2.1 []) r3.2.2.2.2) fun r4=>
 ret ((ac r4.1),r4.2.1)
noncomputable def wK {S:Type} (k:Nat) (t a f y:Tm) (ret:Tm×Int→Option S):Option S:=Pe k ret t a f y
noncomputable def z6 {S:Type} (k:Nat) (ret:Int×Int×ByteArray→Option S) (a_n:Int):Option S:=
 ret (1,a_n,ByteArray.empty)
noncomputable def eS {S:Type} (k:Nat) (a_n:Int) (ret:Int×Int×ByteArray→Option S):Option S:=z6 k ret a_n
noncomputable def QU {S:Type} (k:Nat) (ret:Tm→Option S) (kind:Int) (a b c:Tm):Option S:=
 aa k (oF k kind [(ac a),(ac b),(ac c)]) fun r1=>
 ret (ac r1)
noncomputable def kT {S:Type} (k:Nat) (kind:Int) (a b c:Tm) (ret:Tm→Option S):Option S:=QU k ret kind a b c
noncomputable def QQ {S:Type} (k:Nat) (ret:Tm→Option S) (t a f y:Tm):Option S:=
 aa k (dl k (ac a) 1 1) fun r1=>
 aa k (dl k (ac y) 1 0) fun r2=>
 aa k (dl k (ac f) 1 0) fun r3=>
 aa k (eS k 0) fun r4=>
 aa k (bV k 6 (ac r3) (Tm.mk r4.1 r4.2.1 r4.2.2 [] [] [])) fun r5=>
 aa k (kT k 11 (ac r1) (ac r2) (ac r5)) fun r6=>
 aa k (bV k 7 (ac t) (ac r6)) fun r7=>
 ret (ac r7)
noncomputable def mJ {S:Type} (k:Nat) (t a f y:Tm) (ret:Tm→Option S):Option S:=QQ k ret t a f y
def QP {S:Type} (k:Nat) (ret:Tm×Int→Option S) (t a f y:Tm):Option S:=
 aa k (gV k [(ac t),(ac a),(ac f),(ac y)]) fun r1=>
 ab (!(r1==0)) (
 ret ((Tm.mk 0 0 ByteArray.empty [] [] []),r1)) (
 aa k (mJ k (ac t) (ac a) (ac f) (ac y)) fun r2=>
 aa k (gU k (ac r2)) fun r3=>
 ret ((ac r3.1),r3.2))
noncomputable def xH {S:Type} (k:Nat) (t a f y:Tm) (ret:Tm×Int→Option S):Option S:=QP k ret t a f y
noncomputable def Pi {S:Type} (k:Nat) (ret:Int×Int×ByteArray×List Tm×Int→Option S) (t:Tm) (c0:Int):Option S:=
 aa k (co k (ac t) 1 0 c0) fun r1=>
 aa k (co k (ac t) 2 1 r1.2) fun r2=>
 aa k (eR k 1) fun r3=>
 aa k (eR k 0) fun r4=>
 aa k (bt k 11 [(ac r2.1),(Tm.mk r3.1 r3.2.1 r3.2.2 [] [] []),(Tm.mk r4.1 r4.2.1 r4.2.2 [] [] [])]) fun r5=>
 aa k (bt k 4 [(ac r1.1),(Tm.mk r5.1 r5.2.1 r5.2.2.1 [] r5.2.2.2 [])]) fun r6=>
 aa k (bt k 7 [(ac t),(Tm.mk r6.1 r6.2.1 r6.2.2.1 [] r6.2.2.2 [])]) fun r7=>
 ret (r7.1,r7.2.1,r7.2.2.1,r7.2.2.2,r2.2)
noncomputable def n9 {S:Type} (k:Nat) (t:Tm) (c0:Int) (ret:Int×Int×ByteArray×List Tm×Int→Option S):Option S:=Pi k ret t c0
noncomputable def Pc {S:Type} (k:Nat) (ret:Tm×Int→Option S) (t:Tm):Option S:=
 aa k (gQ k [(ac t)]) fun r1=>
 dF k (ac t) fun r2=>
 aa k (n9 k (ac r2) r1) fun r3=>
 aa k (cO k (Tm.mk r3.1 r3.2.1 r3.2.2.1 [] r3.2.2.2.1 []) r3.2.2.2.2) fun r4=>
 ret ((ac r4.1),r4.2.1)
noncomputable def wI {S:Type} (k:Nat) (t:Tm) (ret:Tm×Int→Option S):Option S:=Pc k ret t
noncomputable def QK {S:Type} (k:Nat) (ret:Tm→Option S) (t:Tm):Option S:=
 aa k (dl k (ac t) 1 0) fun r1=>
 aa k (dl k (ac t) 2 1) fun r2=>
 aa k (eS k 1) fun r3=>
 aa k (eS k 0) fun r4=>
 aa k (kT k 11 (ac r2) (Tm.mk r3.1 r3.2.1 r3.2.2 [] [] []) (Tm.mk r4.1 r4.2.1 r4.2.2 [] [] [])) fun r5=>
 aa k (bV k 4 (ac r1) (ac r5)) fun r6=>
 aa k (bV k 7 (ac t) (ac r6)) fun r7=>
 ret (ac r7)
noncomputable def mI {S:Type} (k:Nat) (t:Tm) (ret:Tm→Option S):Option S:=QK k ret t
def QJ {S:Type} (k:Nat) (ret:Tm×Int→Option S) (t:Tm):Option S:=
 aa k (gV k [(ac t)]) fun r1=>
 ab (!(r1==0)) (
 ret ((Tm.mk 0 0 ByteArray.empty [] [] []),r1)) (
 aa k (mI k (ac t)) fun r2=>
 aa k (gU k (ac r2)) fun r3=>
 ret ((ac r3.1),r3.2))
noncomputable def xF {S:Type} (k:Nat) (t:Tm) (ret:Tm×Int→Option S):Option S:=QJ k ret t
noncomputable def Pd {S:Type} (k:Nat) (ret:Tm×Int→Option S) (t a:Tm):Option S:=
 aa k (gQ k [(ac t),(ac a)]) fun r1=>
 dF k (ac t) fun r2=>
 aa k (co k (ac a) 1 0 r1) fun r3=>
 aa k (bt k 4 [(ac r2),(ac r3.1)]) fun r4=>
 aa k (co k (ac a) 1 0 r3.2) fun r5=>
 aa k (co k (ac t) 2 0 r5.2) fun r6=>
 aa k (co k (ac a) 2 0 r6.2) fun r7=>
 aa k (eR k 1) fun r8=>
 aa k (eR k 0) fun r9=>
 aa k (n_ k (ac r6.1) (ac r7.1) (Tm.mk r8.1 r8.2.1 r8.2.2 [] [] []) (Tm.mk r9.1 r9.2.1 r9.2.2 [] [] []) r7.2) fun r10=>
 aa k (n9 k (Tm.mk r10.1 r10.2.1 r10.2.2.1 [] r10.2.2.2.1 []) r10.2.2.2.2) fun r11=>
 aa k (bt k 4 [(ac r5.1),(Tm.mk r11.1 r11.2.1 r11.2.2.1 [] r11.2.2.2.1 [])]) fun r12=>
 aa k (bt k 7 [(Tm.mk r4.1 r4.2.1 r4.2.2.1 [] r4.2.2.2 []),(Tm.mk r12.1 r12.2.1 r12.2.2.1 [] r12.2.2.2 [])]) fun r13=>
 aa k (cO k (Tm.mk r13.1 r13.2.1 r13.2.2.1 [] r13.2.2.2 []) r11.2.2.2.2) fun r14=>
 ret ((ac r14.1),r14.2.1)
noncomputable def wJ {S:Type} (k:Nat) (t a:Tm) (ret:Tm×Int→Option S):Option S:=Pd k ret t a
noncomputable def QN {S:Type} (k:Nat) (ret:Tm→Option S) (t a:Tm):Option S:=
 aa k (dl k (ac a) 1 0) fun r1=>
 aa k (bV k 4 (ac t) (ac r1)) fun r2=>
 aa k (dl k (ac a) 1 0) fun r3=>
 aa k (dl k (ac t) 2 0) fun r4=>
 aa k (dl k (ac a) 2 0) fun r5=>
 aa k (eS k 1) fun r6=>
 aa k (eS k 0) fun r7=>
 aa k (mJ k (ac r4) (ac r5) (Tm.mk r6.1 r6.2.1 r6.2.2 [] [] []) (Tm.mk r7.1 r7.2.1 r7.2.2 [] [] [])) fun r8=>
 aa k (mI k (ac r8)) fun r9=>
 aa k (bV k 4 (ac r3) (ac r9)) fun r10=>
 aa k (bV k 7 (ac r2) (ac r10)) fun r11=>
 ret (ac r11)
noncomputable def sS {S:Type} (k:Nat) (t a:Tm) (ret:Tm→Option S):Option S:=QN k ret t a
def QM {S:Type} (k:Nat) (ret:Tm×Int→Option S) (t a:Tm):Option S:=
 aa k (gV k [(ac t),(ac a)]) fun r1=>
 ab (!(r1==0)) (
 ret ((Tm.mk 0 0 ByteArray.empty [] [] []),r1)) (
 aa k (sS k (ac t) (ac a)) fun r2=>
 aa k (gU k (ac r2)) fun r3=>
 ret ((ac r3.1),r3.2))
noncomputable def xG {S:Type} (k:Nat) (t a:Tm) (ret:Tm×Int→Option S):Option S:=QM k ret t a
noncomputable def af7 {S:Type} (k:Nat) (ret:Tm→Option S) (kind:Int) (a:Tm):Option S:=
 aa k (oF k kind [(ac a)]) fun r1=>
 ret (ac r1)
noncomputable def jP {S:Type} (k:Nat) (kind:Int) (a:Tm) (ret:Tm→Option S):Option S:=af7 k ret kind a
noncomputable def af8 {S:Type} (k:Nat) (ret:Tm→Option S) (a_r:List Cl):Option S:=
 aa k (eS k 0) fun r1=>
 aa k (jP k 10 (Tm.mk r1.1 r1.2.1 r1.2.2 [] [] [])) fun r2=>
 aa k (eS k 1) fun r3=>
 aa k (eS k 0) fun r4=>
 aa k (jP k 9 (Tm.mk r4.1 r4.2.1 r4.2.2 [] [] [])) fun r5=>
 aa k (kT k 13 (ac r2) (Tm.mk r3.1 r3.2.1 r3.2.2 [] [] []) (ac r5)) fun r6=>
 ret (Tm.mk r6.kind r6.n r6.name a_r r6.kids r6.sys)
noncomputable def B2 {S:Type} (k:Nat) (a_r:List Cl) (ret:Tm→Option S):Option S:=af8 k ret a_r
noncomputable def af6 {S:Type} (k:Nat) (ret:Tm→Option S):Option S:=
 aa k (B2 k [(Cl.mk 1 0)]) fun r1=>
 aa k (B2 k [(Cl.mk 3 0)]) fun r2=>
 aa k (jP k 12 (ac r2)) fun r3=>
 aa k (bV k 8 (ac r1) (ac r3)) fun r4=>
 aa k (eS k 0) fun r5=>
 aa k (eS k 0) fun r6=>
 aa k (jP k 12 (Tm.mk r6.1 r6.2.1 r6.2.2 [] [] [])) fun r7=>
 aa k (bV k 8 (Tm.mk r5.1 r5.2.1 r5.2.2 [] [] []) (ac r7)) fun r8=>
 aa k (eS k 0) fun r9=>
 aa k (jP k 5 (Tm.mk r9.1 r9.2.1 r9.2.2 [] [] [])) fun r10=>
 aa k (jP k 12 (ac r4)) fun r11=>
 aa k (jP k 5 (ac r11)) fun r12=>
 aa k (bV k 8 (ac r8) (ac r12)) fun r13=>
 aa k (jP k 5 (ac r13)) fun r14=>
 aa k (bV k 8 (ac r10) (ac r14)) fun r15=>
 ret (ac r15)
noncomputable def xK {S:Type} (k:Nat) (ret:Tm→Option S):Option S:=af6 k ret
def P1 {S:Type} (k:Nat) (ret:Bool→Option S) (t u f y:Tm):Option S:=
 aa k (jK k (ac t) (ac u) ([]:List (Br Tm))) fun r1=>
 ab (r1) (
 aa k (fF k) fun r2=>
 ret r2) (
 aa k (jK k (ac f) (ac y) ([]:List (Br Tm))) fun r3=>
 ab (r3) (
  aa k (fF k) fun r4=>
  ret r4) (
  aa k (wK k (ac t) (ac u) (ac f) (ac y)) fun r5=>
  aa k (xH k (ac t) (ac u) (ac f) (ac y)) fun r6=>
  aa k (gg k (ac r5.1) r5.2 (ac r6.1) r6.2) fun r7=>
  ab (!r7) (
  ret false) (
  aa k (wI k (ac t)) fun r8=>
  aa k (xF k (ac t)) fun r9=>
  aa k (gg k (ac r8.1) r8.2 (ac r9.1) r9.2) fun r10=>
  ab (!r10) (
   ret false) (
   aa k (wJ k (ac t) (ac u)) fun r11=>
   aa k (xG k (ac t) (ac u)) fun r12=>
   aa k (gg k (ac r11.1) r11.2 (ac r12.1) r12.2) fun r13=>
   ab (r13) (
   aa k (sc k) fun r14=>
   aa k (xK k) fun r15=>
   dz k (Tm.mk r14.1 r14.2.1 r14.2.2.1 [] r14.2.2.2 []) (ac r15) fun r16=>
   ab (r16) (
    aa k (fF k) fun r17=>
    ret r17) (
    ret false)) (
   ret false)))))
noncomputable def BW {S:Type} (k:Nat) (t u f y:Tm) (ret:Bool→Option S):Option S:=P1 k ret t u f y
abbrev gK (S:Type):=Tm→(Tm→Option S)→Option S
def wc {S:Type} (hd:gK S) (k:Nat) (ret:Tm→Option S) (t:Tm) (b3_4:List Tm) (b3_5:List (Br Tm)) (x5:(Br Tm)) (i5:Int) (rec1:(List (Br Tm))→Int→Option S) (rec2:(List Tm)→Int→Option S) (b6_1:List Tm) (v7:Int):Option S:=
 Option.bind (al t.sys i5) fun x7=>
 ab (decide ((v7:Int)<(x7.kids.length:Int))) (
 Option.bind (al t.sys i5) fun x8=>
 Option.bind (al x8.kids v7) fun x9=>
 hd (ac x9) fun r10=>
 Option.bind (ay 1099511627776 b6_1.length [(ac r10)].length) fun x11=>
  rec2 (b6_1++[(ac r10)]) (IntKind.wrap .i64 (v7+1))) (
 Option.bind (ay 1099511627776 b3_5.length [(Br.mk (([]:List Cl)++x5.face) b6_1)].length) fun x12=>
  rec1 (b3_5++[(Br.mk (([]:List Cl)++x5.face) b6_1)]) (IntKind.wrap .i64 (i5+1)))
noncomputable def lL {S:Type} (hd:gK S) (k:Nat) (ret:Tm→Option S) (rec1:(List (Br Tm))→Int→Option S) (t:Tm) (b3_4:List Tm) (b3_5:List (Br Tm)) (x5:(Br Tm)) (i5:Int):Nat→(List Tm)→Int→Option S
 |0=>fun _ _=> .none
 |m+1=>fun b6_1 v7=>wc hd k ret t b3_4 b3_5 x5 i5 rec1 (lL hd k ret rec1 t b3_4 b3_5 x5 i5 m) b6_1 v7
def rD {S:Type} (hd:gK S) (k:Nat) (ret:Tm→Option S) (t:Tm) (b3_4:List Tm) (J2:(List (Br Tm))→(Br Tm)→Int→(List Tm)→Int→Option S) (rec1:(List (Br Tm))→Int→Option S) (b3_5:List (Br Tm)) (i5:Int):Option S:=
 ab (decide ((i5:Int)<(t.sys.length:Int))) (
 Option.bind (al t.sys i5) fun x5=>
 Option.bind (ay 1099511627776 ([]:List Cl).length x5.face.length) fun x6=>
  J2 b3_5 x5 i5 ([]:List Tm) 0) (
 ret (Tm.mk t.kind t.n t.name (([]:List Cl)++t.r) b3_4 b3_5))
noncomputable def jg {S:Type} (hd:gK S) (k:Nat) (ret:Tm→Option S) (t:Tm) (b3_4:List Tm):Nat→(List (Br Tm))→Int→Option S
 |0=>fun _ _=> .none
 |m+1=>fun b3_5 i5=>rD hd k ret t b3_4 (fun b3_5 x5 i5 b6_1 v7=>lL hd k ret (jg hd k ret t b3_4 m) t b3_4 b3_5 x5 i5 k b6_1 v7) (jg hd k ret t b3_4 m) b3_5 i5
def rC {S:Type} (hd:gK S) (k:Nat) (ret:Tm→Option S) (t:Tm) (J1:(List Tm)→(List (Br Tm))→Int→Option S) (rec0:(List Tm)→Int→Option S) (b3_4:List Tm) (i4:Int):Option S:=
 ab (decide ((i4:Int)<(t.kids.length:Int))) (
 Option.bind (al t.kids i4) fun x2=>
 hd (ac x2) fun r3=>
 Option.bind (ay 1099511627776 b3_4.length [(ac r3)].length) fun x4=>
  rec0 (b3_4++[(ac r3)]) (IntKind.wrap .i64 (i4+1))) (
  J1 b3_4 ([]:List (Br Tm)) 0)
noncomputable def pC {S:Type} (hd:gK S) (k:Nat) (ret:Tm→Option S) (t:Tm):Nat→(List Tm)→Int→Option S
 |0=>fun _ _=> .none
 |m+1=>fun b3_4 i4=>rC hd k ret t (fun b3_4 b3_5 i5=>jg hd k ret t b3_4 k b3_5 i5) (pC hd k ret t m) b3_4 i4
noncomputable def Gw {S:Type} (hd:gK S) (k:Nat) (ret:Tm→Option S) (J0:(List Tm)→Int→Option S) (t:Tm):Option S:=
 Option.bind (ay 1099511627776 ([]:List Cl).length t.r.length) fun x1=>
 J0 ([]:List Tm) 0
noncomputable def gj {S:Type}:Nat→Tm→(Tm→Option S)→Option S
 |0=>fun _ _=> .none
 |k+1=>fun t ret=>Gw (gj k) k ret (fun b3_4 i4=>pC (gj k) k ret t k b3_4 i4) t
def Pj {S:Type} (k:Nat) (ret:Tm×Int→Option S) (line:Tm) (c0:Int):Option S:=
 aa k (cr k c0) fun r1=>
 ab (!r1) (
 ret ((Tm.mk 0 0 ByteArray.empty [] [] []),c0)) (
 aa k (sx k) fun r2=>
 aa k (og k (ac line) 0 r2) fun r3=>
 aa k (gc k r3.2 c0) fun r4=>
 ret ((ac r3.1),r4))
noncomputable def wL {S:Type} (k:Nat) (line:Tm) (c0:Int) (ret:Tm×Int→Option S):Option S:=Pj k ret line c0
def nT {S:Type} (k:Nat) (ret:Tm×Int→Option S) (r3:Tm) (r9:Int×Int×ByteArray×List Tm) (r6:Tm) (rec0:Int→(List (Br Tm))→Int→Option S) (b19000_0:Int) (b9_5:List (Br Tm)) (v38:Int):Option S:=
 ab (decide ((v38:Int)<(r6.sys.length:Int))) (
 Option.bind (al r6.sys v38) fun x10=>
 aa k (cr k b19000_0) fun r11=>
 ab (!r11) (
  aa k (cO k (Tm.mk r9.1 r9.2.1 r9.2.2.1 [] r9.2.2.2 b9_5) b19000_0) fun r12=>
  ret ((ac r12.1),r12.2.1)) (
  aa k (gR k (ac r3) [(Cl.mk 1 0),(Cl.mk 2 0)] b19000_0) fun r13=>
  Option.bind (al x10.kids 0) fun x14=>
  aa k (bt k 14 [(ac r13.1),(ac x14)]) fun r15=>
  Option.bind (ay 1099511627776 b9_5.length [(Br.mk x10.face [(Tm.mk r15.1 r15.2.1 r15.2.2.1 [(Cl.mk 1 0)] r15.2.2.2 [])])].length) fun x16=>
   rec0 r13.2 (b9_5++[(Br.mk x10.face [(Tm.mk r15.1 r15.2.1 r15.2.2.1 [(Cl.mk 1 0)] r15.2.2.2 [])])]) (IntKind.wrap .i64 (v38+1)))) (
 aa k (cO k (Tm.mk r9.1 r9.2.1 r9.2.2.1 [] r9.2.2.2 b9_5) b19000_0) fun r17=>
 ret ((ac r17.1),r17.2.1))
noncomputable def j6 {S:Type} (k:Nat) (ret:Tm×Int→Option S) (r3:Tm) (r9:Int×Int×ByteArray×List Tm) (r6:Tm):Nat→Int→(List (Br Tm))→Int→Option S
 |0=>fun _ _ _=> .none
 |m+1=>fun b19000_0 b9_5 v38=>nT k ret r3 r9 r6 (j6 k ret r3 r9 r6 m) b19000_0 b9_5 v38
noncomputable def Ft {S:Type} (k:Nat) (ret:Tm×Int→Option S) (J0:Tm→(Int×Int×ByteArray×List Tm)→Tm→Int→(List (Br Tm))→Int→Option S) (line a:Tm) (sys:List (Br Tm)):Option S:=
 aa k (oa k sys) fun r1=>
 aa k (gQ k [(ac line),(ac a),(Tm.mk r1.1 r1.2.1 r1.2.2.1 [] r1.2.2.2.1 r1.2.2.2.2)]) fun r2=>
 dF k (ac line) fun r3=>
 dF k (ac a) fun r4=>
 aa k (oa k sys) fun r5=>
 dF k (Tm.mk r5.1 r5.2.1 r5.2.2.1 [] r5.2.2.2.1 r5.2.2.2.2) fun r6=>
 aa k (wL k (ac r3) r2) fun r7=>
 aa k (bt k 14 [(ac r3),(ac r4)]) fun r8=>
 aa k (bt k 15 [(ac r7.1),(Tm.mk r8.1 r8.2.1 r8.2.2.1 [] r8.2.2.2 [])]) fun r9=>
 J0 r3 r9 r6 r7.2 ([]:List (Br Tm)) 0
noncomputable def wH {S:Type} (k:Nat) (line a:Tm) (sys:List (Br Tm)) (ret:Tm×Int→Option S):Option S:=Ft k ret (fun r3 r9 r6 b19000_0 b9_5 v38=>j6 k ret r3 r9 r6 k b19000_0 b9_5 v38) line a sys
def Bm {S:Type} (k:Nat) (ret:Tm→Option S) (kind:Int) (l:List (Br Tm)) (rec0:(List Tm)→Int→Option S) (b5_4:List Tm) (i6:Int):Option S:=
 aa k (oB k kind) fun r1=>
 ab (decide ((i6:Int)<r1)) (
 Option.bind (ay 1099511627776 b5_4.length [(Tm.mk 3 0 ByteArray.empty [] [] [])].length) fun x2=>
  rec0 (b5_4++[(Tm.mk 3 0 ByteArray.empty [] [] [])]) (IntKind.wrap .i64 (i6+1))) (
 ret (Tm.mk kind 0 ByteArray.empty [] b5_4 l))
noncomputable def pH {S:Type} (k:Nat) (ret:Tm→Option S) (kind:Int) (l:List (Br Tm)):Nat→(List Tm)→Int→Option S
 |0=>fun _ _=> .none
 |m+1=>fun b5_4 i6=>Bm k ret kind l (pH k ret kind l m) b5_4 i6
noncomputable def GG {S:Type} (k:Nat) (ret:Tm→Option S) (J0:(List Tm)→Int→Option S) (kind:Int) (l:List (Br Tm)):Option S:=
 J0 ([]:List Tm) 0
noncomputable def sP {S:Type} (k:Nat) (kind:Int) (l:List (Br Tm)) (ret:Tm→Option S):Option S:=GG k ret (fun b5_4 i6=>pH k ret kind l k b5_4 i6) kind l
def GH {S:Type} (k:Nat) (ret:Tm→Option S) (t:Tm) (f:List Cl) (kid:Tm):Option S:=
 ab (decide ((t.kind:Int)<0)) (
 ret (ac t)) (
 ab (decide ((kid.kind:Int)<0)) (
  ret (ac kid)) (
  Option.bind (ay 1099511627776 ([]:List (Br Tm)).length t.sys.length) fun x1=>
  Option.bind (ay 1099511627776 (([]:List (Br Tm))++t.sys).length [(Br.mk f [(ac kid)])].length) fun x2=>
  ret (Tm.mk t.kind t.n t.name t.r t.kids ((([]:List (Br Tm))++t.sys)++[(Br.mk f [(ac kid)])]))))
noncomputable def gk {S:Type} (k:Nat) (t:Tm) (f:List Cl) (kid:Tm) (ret:Tm→Option S):Option S:=GH k ret t f kid
def nX {S:Type} (k:Nat) (ret:Tm→Option S) (line:Tm) (sys:List (Br Tm)) (rec0:Tm→Int→Option S) (b7:Tm) (i8:Int):Option S:=
 ab (decide ((i8:Int)<(sys.length:Int))) (
 ab (decide ((b7.kind:Int)≥0)) (
  aa k (jO k (ac line) [(Cl.mk 1 0),(Cl.mk 2 0)]) fun r4=>
  Option.bind (al sys i8) fun x5=>
  Option.bind (al x5.kids 0) fun x6=>
  aa k (bV k 14 (ac r4) (ac x6)) fun r7=>
  ab (decide ((r7.kind:Int)≥0)) (
  Option.bind (al sys i8) fun x8=>
  aa k (gk k (ac b7) x8.face (Tm.mk r7.kind r7.n r7.name [(Cl.mk 1 0)] r7.kids r7.sys)) fun r9=>
    rec0 (ac r9) (IntKind.wrap .i64 (i8+1))) (
  Option.bind (al sys i8) fun x10=>
  aa k (gk k (ac b7) x10.face (ac r7)) fun r11=>
    rec0 (ac r11) (IntKind.wrap .i64 (i8+1)))) (
  ret (ac b7))) (
 ret (ac b7))
noncomputable def hY {S:Type} (k:Nat) (ret:Tm→Option S) (line:Tm) (sys:List (Br Tm)):Nat→Tm→Int→Option S
 |0=>fun _ _=> .none
 |m+1=>fun b7 i8=>nX k ret line sys (hY k ret line sys m) b7 i8
def GJ {S:Type} (k:Nat) (ret:Tm→Option S) (J0:Tm→Int→Option S) (line a:Tm) (sys:List (Br Tm)):Option S:=
 ab (decide ((line.kind:Int)<0)) (
 ret (ac line)) (
 aa k (oE k (ac line) 0 [(Cl.mk 0 0)]) fun r1=>
 aa k (bV k 14 (ac line) (ac a)) fun r2=>
 aa k (bV k 15 (ac r1) (ac r2)) fun r3=>
  J0 (ac r3) 0)
noncomputable def sR {S:Type} (k:Nat) (line a:Tm) (sys:List (Br Tm)) (ret:Tm→Option S):Option S:=GJ k ret (fun b7 i8=>hY k ret line sys k b7 i8) line a sys
def QI {S:Type} (k:Nat) (ret:Tm×Int→Option S) (line a:Tm) (sys:List (Br Tm)):Option S:=
 aa k (sP k 15 sys) fun r1=>
 aa k (gV k [(ac line),(ac a),(ac r1)]) fun r2=>
 ab (!(r2==0)) (
 ret ((Tm.mk 0 0 ByteArray.empty [] [] []),r2)) (
 aa k (sR k (ac line) (ac a) sys) fun r3=>
 aa k (gU k (ac r3)) fun r4=>
 ret ((ac r4.1),r4.2))
noncomputable def xE {S:Type} (k:Nat) (line a:Tm) (sys:List (Br Tm)) (ret:Tm×Int→Option S):Option S:=QI k ret line a sys
def nY {S:Type} (k:Nat) (ret:Tm→Option S) (a:Tm) (sys:List (Br Tm)) (rec0:Tm→Int→Option S) (b7:Tm) (i8:Int):Option S:=
 ab (decide ((i8:Int)<(sys.length:Int))) (
 ab (decide ((b7.kind:Int)≥0)) (
  Option.bind (al sys i8) fun x4=>
  aa k (jM k x4.face 0 1) fun r5=>
  ab (!(r5.2==0)) (
  aa k (d_ k r5.2) fun r6=>
  ret (Tm.mk r6.1 r6.2.1 r6.2.2 [] [] [])) (
  Option.bind (al sys i8) fun x7=>
  Option.bind (al x7.kids 0) fun x8=>
  aa k (jO k (ac x8) [(Cl.mk 3 0)]) fun r9=>
  aa k (gk k (ac b7) r5.1 (ac r9)) fun r10=>
    rec0 (ac r10) (IntKind.wrap .i64 (i8+1)))) (
  aa k (dl k (ac a) 0 2) fun r11=>
  aa k (gk k (ac b7) [(Cl.mk 0 1)] (ac r11)) fun r12=>
  ret (ac r12))) (
 aa k (dl k (ac a) 0 2) fun r13=>
 aa k (gk k (ac b7) [(Cl.mk 0 1)] (ac r13)) fun r14=>
 ret (ac r14))
noncomputable def ke {S:Type} (k:Nat) (ret:Tm→Option S) (a:Tm) (sys:List (Br Tm)):Nat→Tm→Int→Option S
 |0=>fun _ _=> .none
 |m+1=>fun b7 i8=>nY k ret a sys (ke k ret a sys m) b7 i8
noncomputable def GK {S:Type} (k:Nat) (ret:Tm→Option S) (J0:Tm→Int→Option S) (t a:Tm) (sys:List (Br Tm)):Option S:=
 aa k (dl k (ac t) 0 1) fun r1=>
 aa k (dl k (ac a) 0 1) fun r2=>
 aa k (bV k 15 (ac r1) (ac r2)) fun r3=>
 J0 (ac r3) 0
noncomputable def sU {S:Type} (k:Nat) (t a:Tm) (sys:List (Br Tm)) (ret:Tm→Option S):Option S:=GK k ret (fun b7 i8=>ke k ret a sys k b7 i8) t a sys
def QR {S:Type} (k:Nat) (ret:Tm×Int→Option S) (t a:Tm) (sys:List (Br Tm)):Option S:=
 aa k (sP k 15 sys) fun r1=>
 aa k (gV k [(ac t),(ac a),(ac r1)]) fun r2=>
 ab (!(r2==0)) (
 ret ((Tm.mk 0 0 ByteArray.empty [] [] []),r2)) (
 aa k (sU k (ac t) (ac a) sys) fun r3=>
 aa k (gU k (ac r3)) fun r4=>
 ret ((ac r4.1),r4.2))
noncomputable def xJ {S:Type} (k:Nat) (t a:Tm) (sys:List (Br Tm)) (ret:Tm×Int→Option S):Option S:=QR k ret t a sys
def PZ {S:Type} (k:Nat) (ret:Bool→Option S) (line t:Tm) (sys:List (Br Tm)):Option S:=
 aa k (jK k (ac line) (ac t) sys) fun r1=>
 ab (r1) (
 aa k (fF k) fun r2=>
 ret r2) (
 gj k (ac line) fun r3=>
 gj k (ac t) fun r4=>
 gj k (Tm.mk 0 0 ByteArray.empty [] [] sys) fun r5=>
 aa k (wH k (ac r3) (ac r4) r5.sys) fun r6=>
 aa k (xE k (ac line) (ac t) sys) fun r7=>
 aa k (sb k (ac r3) (ac r4) r5.sys) fun r8=>
 aa k (xJ k (ac line) (ac t) sys) fun r9=>
 aa k (gg k (ac r6.1) r6.2 (ac r7.1) r7.2) fun r10=>
 ab (r10) (
  aa k (gg k (ac r8.1) r8.2 (ac r9.1) r9.2) fun r11=>
  ab (r11) (
  dz k (ac r3) (ac line) fun r12=>
  ab (r12) (
   dz k (ac r4) (ac t) fun r13=>
   ab (r13) (
   dz k (ac r5) (Tm.mk 0 0 ByteArray.empty [] [] sys) fun r14=>
   ab (r14) (
    aa k (fF k) fun r15=>
    ret r15) (
    ret false)) (
   ret false)) (
   ret false)) (
  ret false)) (
  ret false))
noncomputable def BU {S:Type} (k:Nat) (line t:Tm) (sys:List (Br Tm)) (ret:Bool→Option S):Option S:=PZ k ret line t sys
end
end Go.Proofs.YtapmagaejigpnaaGreatDoor
namespace Go.Proofs.YtapmagaejigpnaaGreatDoor
open Go PI
set_option linter.unusedVariables false
set_option linter.unusedSimpArgs false
abbrev M24:Nat:=16777215
theorem yR {n:Nat} (h:n<24):2^n<4294967296:=Nat.lt_of_lt_of_le (Nat.pow_lt_pow_right (by decide) h) (by decide)
theorem n7 (n:Nat):(2:Int)^n=((2^n:Nat):Int):=by simp
theorem CA (m n:Nat):Int.fdiv (m:Int) ((2:Int)^n)=((m/2^n:Nat):Int):=by
 rw [n7,Int.fdiv_eq_ediv_of_nonneg _ (Int.natCast_nonneg _),Int.natCast_ediv]
variable {S:Type} {k:Nat}
theorem zS (hk:Fu k) (i:Int) (ret:Bool→Option S):mG k i ret=ret (decide (0≤i∧i<24)):=by
 simp only [mG,Qd,aS]
 by_cases h:i≥0
 ·rw [if_pos h];congr 1;simp;omega
 ·rw [if_neg h];congr 1;simp;omega
theorem afO (hk:Fu k) {m:Nat} (hm:m<4294967296) (ret:Bool→Option S):ot k (m:Int) ret=ret (decide (m<16777216)):=by
 simp only [ot,P_]
 rw [show (16777215:Int)=((16777215:Nat):Int) from rfl,Bg hm (by decide)]
 congr 1
 rw [Bool.eq_iff_iff]
 simp only [beq_iff_eq,decide_eq_true_eq]
 have key:dp m 16777215=0↔m<16777216:=by
  constructor
  ·intro h
   apply Nat.lt_pow_two_of_testBit (n:=24)
   intro i hi
   have h2:=kl m 16777215 i
   rw [h,Nat.zero_testBit] at h2
   have:(16777215:Nat).testBit i=false:=Nat.testBit_lt_two_pow (Nat.lt_of_lt_of_le (by decide:16777215<2^24) (Nat.pow_le_pow_right (by decide) hi))
   rw [this] at h2
   simpa using h2.symm
  ·intro h
   apply Nat.eq_of_testBit_eq
   intro i
   rw [kl,Nat.zero_testBit]
   by_cases hi:i<24
   ·have:(16777215:Nat).testBit i=true:=by
     rw [show (16777215:Nat)=2^24-1 from rfl,Nat.testBit_two_pow_sub_one];simpa using hi
    rw [this];simp
   ·have h2:(2:Nat)^24≤2^i:=Nat.pow_le_pow_right (by decide) (by omega)
    have:m.testBit i=false:=Nat.testBit_lt_two_pow (Nat.lt_of_lt_of_le h h2)
    rw [this];rfl
 omega
theorem afM (hk:Fu k) {m:Nat} (hm:m<4294967296) (i:Int) (ret:Bool→Option S):gT k (m:Int) i ret=ret (decide (0≤i∧i<24)&&m.testBit i.toNat):=by
 simp only [gT,P9,zS hk,af hk]
 by_cases h:0≤i∧i<24
 ·obtain ⟨n,rfl⟩: ∃n:Nat,i=n:=⟨i.toNat,by omega⟩
  have hn:n<24:=by omega
  rw [decide_eq_true h,ae,Bool.true_and,gI n (by omega),iF _ (by omega)]
  congr 1
  rw [Int.toNat_natCast,Nat.min_eq_left (by omega),CA,show (1:Int)=((1:Nat):Int) from rfl,kK (Nat.lt_of_le_of_lt (Nat.div_le_self _ _) hm) (by decide)]
  rw [Nat.testBit_eq_decide_div_mod_eq,Nat.and_one_is_mod,Bool.eq_iff_iff]
  simp only [beq_iff_eq,decide_eq_true_eq]
  omega
 ·rw [decide_eq_false h,ad,Bool.false_and]
theorem afP (hk:Fu k) {m:Nat} (hm:m<4294967296) (i:Int) (ret:Int→Option S):iP k (m:Int) i ret=ret (if 0≤i∧i<24 then (((m&&&M24)|||2^i.toNat:Nat):Int) else ((m&&&M24:Nat):Int)):=by
 simp only [iP,Qa,zS hk,af hk]
 have hand:be .and .u32 (m:Int) 16777215=((m&&&M24:Nat):Int):=kK hm (by decide:(16777215:Nat)<4294967296)
 have hlt:m&&&M24<4294967296:=q_ (n:=32) hm
 rw [hand]
 by_cases h:0≤i∧i<24
 ·obtain ⟨n,rfl⟩: ∃n:Nat,i=n:=⟨i.toNat,by omega⟩
  have hn:n<24:=by omega
  rw [decide_eq_true h,if_pos h,gI n (by omega)]
  simp only [Bool.not_true,ad]
  rw [iF _ (by omega),Int.toNat_natCast,Nat.min_eq_left (by omega),Int.one_mul,n7,kC _ (yR hn),vc hlt (yR hn)]
 ·rw [decide_eq_false h,if_neg h];rfl
theorem afQ (hk:Fu k) {m:Nat} (hm:m<4294967296) (i:Int) (ret:Int→Option S):jL k (m:Int) i ret=ret (if 0≤i∧i<24 then ((dp (m&&&M24) (2^i.toNat):Nat):Int) else ((m&&&M24:Nat):Int)):=by
 simp only [jL,Qb,zS hk,af hk]
 have hand:be .and .u32 (m:Int) 16777215=((m&&&M24:Nat):Int):=kK hm (by decide:(16777215:Nat)<4294967296)
 have hlt:m&&&M24<4294967296:=q_ (n:=32) hm
 rw [hand]
 by_cases h:0≤i∧i<24
 ·obtain ⟨n,rfl⟩: ∃n:Nat,i=n:=⟨i.toNat,by omega⟩
  have hn:n<24:=by omega
  rw [decide_eq_true h,if_pos h,gI n (by omega)]
  simp only [Bool.not_true,ad]
  rw [iF _ (by omega),Int.toNat_natCast,Nat.min_eq_left (by omega),Int.one_mul,n7,kC _ (yR hn),Bg hlt (yR hn)]
 ·rw [decide_eq_false h,if_neg h];rfl
theorem O6 (hk:Fu k) (n:Nat) (hn:n<18446744073709551616) (ret:Int→Option S):ou k (n:Int) ret=ret ((2^min n 24-1:Nat):Int):=by
 simp only [ou,Qc]
 have e:(if (24:Int)<(n:Int) then (24:Int) else (n:Int))=((min n 24:Nat):Int):=by
  by_cases h:24<n
  ·rw [if_pos (by omega),Nat.min_eq_right (by omega)];rfl
  ·rw [if_neg (by omega),Nat.min_eq_left (by omega)]
 rw [e,gI _ (by omega),iF _ (by omega),Int.toNat_natCast]
 congr 1
 generalize hq:min n 24=q
 have hq24:q≤24:=by omega
 rw [Nat.min_eq_left (by omega),Int.one_mul,n7]
 have h1:2^q≤2^24:=Nat.pow_le_pow_right (by decide) hq24
 have h0:0<2^q:=Nat.pos_of_ne_zero (by simp)
 have h24:(2:Nat)^24=16777216:=by decide
 rw [gI _ (by omega)]
 have e2:((2^q:Nat):Int)-1=((2^q-1:Nat):Int):=by omega
 rw [e2,gI _ (by omega),kC _ (by omega)]
def fO (m n:Nat):Nat:=(m&&&M24)&&&(2^min n 24-1)
def cW (m n:Nat):Nat:=dp (m&&&M24) (2^min n 24-1)
def dY (m n b:Nat):Nat×Nat:=
 if cW m n=0 then (fO m n,0) else if 24≤b then (0,10) else if cW m n*2^b>16777215 then (0,10) else (fO m n|||(cW m n*2^b),0)
theorem afN (hk:Fu k) {m:Nat} (hm:m<4294967296) (n b:Nat) (hn:n<9223372036854775808) (hb:b<9223372036854775808) (ret:Int×Int→Option S):
  kQ k (m:Int) (n:Int) (b:Int) ret=ret (((dY m n b).1:Int),((dY m n b).2:Int)):=by
 have hand:be .and .u32 (m:Int) 16777215=((m&&&M24:Nat):Int):=kK hm (by decide:(16777215:Nat)<4294967296)
 have hlt:m&&&M24<16777216:=Nat.lt_of_le_of_lt Nat.and_le_right (by decide)
 have hbl:2^min n 24-1<4294967296:=by
  have:2^min n 24≤2^24:=Nat.pow_le_pow_right (by decide) (by omega)
  have h24:(2:Nat)^24=16777216:=by decide
  omega
 have hhi:cW m n<16777216:=t_ (n:=24) hlt
 have hlow:be .and .u32 ((m&&&M24:Nat):Int) ((2^min n 24-1:Nat):Int)=((fO m n:Nat):Int):=kK (by omega) hbl
 have hhigh:be .andNot .u32 ((m&&&M24:Nat):Int) ((2^min n 24-1:Nat):Int)=((cW m n:Nat):Int):=Bg (by omega) hbl
 simp only [kQ,zW]
 rw [aS,aS,if_neg (by omega),if_neg (by omega)]
 simp only [O6 hk n (by omega),af hk,hand,hlow,hhigh]
 rw [gI _ (by omega)]
 unfold dY
 by_cases h0:cW m n=0
 ·rw [if_pos h0]
  simp [h0,ae]
 ·rw [if_neg h0]
  have hb0:(((cW m n:Nat):Int)==0)=false:=by
   rw [Bool.eq_false_iff];intro h;exact h0 (by have:=eq_of_beq h;omega)
  simp only [hb0,ad,aS]
  by_cases h24:24≤b
  ·rw [if_pos (by omega),if_pos h24];rfl
  ·rw [if_neg (by omega),if_neg h24,gI b (by omega),iF _ (by omega),Int.toNat_natCast,Nat.min_eq_left (by omega),n7]
   have hp:2^b≤2^23:=Nat.pow_le_pow_right (by decide) (by omega)
   have h23:(2:Nat)^23=8388608:=by decide
   have hmul:cW m n*2^b<18446744073709551616:=by
    have:=Nat.mul_le_mul (Nat.le_of_lt hhi) hp
    omega
   have ec:((cW m n:Nat):Int)*((2^b:Nat):Int)=((cW m n*2^b:Nat):Int):=by simp
   rw [ec,gI _ hmul]
   by_cases hg:cW m n*2^b>16777215
   ·rw [if_pos (by omega),if_pos hg];rfl
   ·rw [if_neg (by omega),if_neg hg]
    rw [kC _ (by omega),iF _ (by omega),vc (by have:fO m n≤m&&&M24:=Nat.and_le_left;omega) (by omega)]
    rfl
end Go.Proofs.YtapmagaejigpnaaGreatDoor
namespace Go.Proofs.YtapmagaejigpnaaGreatDoor
open Go PI
set_option linter.unusedVariables false
set_option linter.unusedSimpArgs false
set_option maxRecDepth 20000
variable {S:Type} {k:Nat}
def cm (l:List Nat):Nat:=(l.map (2^ ·)).sum
theorem Wf {x a:Nat} (h:x.testBit a=false):x+2^a=x|||2^a:=by
 have h1:x=2^(a+1)*(x/2^(a+1))+x%2^(a+1):=(Nat.div_add_mod _ _).symm
 have hlt:x%2^(a+1)<2^a:=by
  have hb:(x%2^(a+1)).testBit a=false:=by rw [Nat.testBit_mod_two_pow,h];simp
  have hm:x%2^(a+1)<2^(a+1):=Nat.mod_lt _ (Nat.two_pow_pos _)
  apply Nat.lt_pow_two_of_testBit
  intro i hi
  by_cases hia:i=a
  ·rw [hia];exact hb
  ·exact Nat.testBit_lt_two_pow (Nat.lt_of_lt_of_le hm (Nat.pow_le_pow_right (by decide) (by omega)))
 generalize x/2^(a+1)=q at h1
 generalize x%2^(a+1)=r at h1 hlt
 have hp:(2:Nat)^(a+1)=2^a*2:=Nat.pow_succ 2 a
 have e1:2^a+r=2^a|||r:=by
  have:=Nat.two_pow_add_eq_or_of_lt hlt 1
  simpa using this
 have e2:x=2^(a+1)*q|||r:=by rw [h1];exact Nat.two_pow_add_eq_or_of_lt (by omega) q
 have e3:x+2^a=2^(a+1)*q|||(2^a+r):=by
  rw [←Nat.two_pow_add_eq_or_of_lt (by omega:2^a+r<2^(a+1)) q,h1];omega
 rw [e3,e1,e2,Nat.or_comm (2^a) r,←Nat.or_assoc]
theorem nO: ∀ (l:List Nat),l.Nodup→ ∀j,(cm l).testBit j=decide (j∈l):=by
 intro l
 induction l with
 |nil=>intro _ j;simp [cm]
 |cons a l ih=>
  intro hn j
  have hn':=List.nodup_cons.1 hn
  have ha:(cm l).testBit a=false:=by rw [ih hn'.2];simpa using hn'.1
  have e:cm (a::l)=cm l|||2^a:=by
   rw [←Wf ha];simp [cm];omega
  rw [e,Nat.testBit_or,ih hn'.2,Nat.testBit_two_pow]
  by_cases h:a=j
  ·subst h;simp
  ·have:j≠a:=Ne.symm h
   simp [h,this]
theorem afC: ∀ (l:List Nat),(∀x∈l,x<24)→cm l≤l.length*8388608:=by
 intro l
 induction l with
 |nil=>intro _;simp [cm]
 |cons a l ih=>
  intro h
  have h1:=ih fun x hx=>h x (by simp [hx])
  have h2:2^a≤2^23:=Nat.pow_le_pow_right (by decide) (by have:=h a (by simp);omega)
  have h23:(2:Nat)^23=8388608:=by decide
  have e:cm (a::l)=2^a+cm l:=by simp [cm]
  rw [e,List.length_cons];omega
def bR (m:Nat):List Nat:=(List.range 24).filter m.testBit
theorem n1 (m:Nat):(bR m).Nodup:=List.nodup_range.filter _
theorem mem_bitsN {m j:Nat}:j∈bR m↔j<24∧m.testBit j=true:=by simp [bR]
theorem f8 (m:Nat):(bR m).length≤24:=by
 have:=List.length_filter_le m.testBit (List.range 24)
 simpa [bR] using this
theorem f0 (j:Nat):M24.testBit j=decide (j<24):=by
 rw [show M24=2^24-1 from rfl,Nat.testBit_two_pow_sub_one]
theorem Fk (m:Nat):cm (bR m)=m&&&M24:=by
 apply Nat.eq_of_testBit_eq
 intro j
 rw [nO _ (n1 m),Nat.testBit_and,f0,Bool.eq_iff_iff]
 simp [mem_bitsN]
 constructor<;>(rintro ⟨a,b⟩;exact ⟨b,a⟩)
theorem abo (ret:Int→Option S) (n:Nat) (hn:n≤30): ∀ (d i m:Nat),i+d=n→d<m→pj k ret (n:Int) m ((2^i:Nat):Int) (i:Int)=ret ((2^n:Nat):Int):=by
 intro d
 induction d with
 |zero=>
  intro i m h hm
  obtain ⟨m,rfl⟩: ∃q,m=q+1:=⟨m-1,by omega⟩
  have:i=n:=by omega
  subst this
  simp only [pj,vK,aS]
  rw [if_neg (by omega)]
 |succ d ih=>
  intro i m h hm
  obtain ⟨m,rfl⟩: ∃q,m=q+1:=⟨m-1,by omega⟩
  simp only [pj,vK,aS]
  have hp:2^i≤2^30:=Nat.pow_le_pow_right (by decide) (by omega)
  have h30:(2:Nat)^30=1073741824:=by decide
  have hc:(0:Int)≤((2^i:Nat):Int):=Int.natCast_nonneg _
  rw [if_pos (by omega),dB (by omega) (by omega),dB (by omega) (by omega)]
  have e1:((2^i:Nat):Int)*2=((2^(i+1):Nat):Int):=by rw [Nat.pow_succ];simp
  have e2:(i:Int)+1=((i+1:Nat):Int):=by simp
  rw [e1,e2]
  exact ih (i+1) m (by omega) (by omega)
theorem Fr (hk:Fu k) (n:Nat) (hn:n≤30) (ret:Int→Option S):ox k (n:Int) ret=ret ((2^n:Nat):Int):=by
 simp only [ox,Gc]
 have:=abo (k:=k) ret n hn n 0 k (by omega) (by omega)
 simpa using this
theorem afT (hk:Fu k) {m:Nat} (hm:m<4294967296) (ret:Bool→Option S):ow k (m:Int) ret=ret (decide (m<16777216)):=by
 simp only [ow,Qf,af hk]
 rw [show (24:Int)=((24:Nat):Int) from rfl,Fr hk 24 (by omega),dB (by omega) (by omega)]
 have h24:((2^24:Nat):Int)=16777216:=by decide
 rw [h24]
 have e:decide ((m:Int)<16777216)=decide (m<16777216):=by rw [Bool.eq_iff_iff];simp only [decide_eq_true_eq];omega
 rw [e]
theorem O7 (hk:Fu k) {m:Nat} (hm:m<4294967296) (i:Int) (ret:Bool→Option S):dS k (m:Int) i ret=ret (decide (0≤i∧i<24)&&m.testBit i.toNat):=by
 simp only [dS,Qe,aS,af hk]
 by_cases h0:i≥0
 ·rw [if_pos h0]
  by_cases h1:i<24
  ·rw [if_pos h1]
   obtain ⟨n,rfl⟩: ∃n:Nat,i=n:=⟨i.toNat,by omega⟩
   have hp:0<2^n:=Nat.two_pow_pos n
   rw [Fr hk n (by omega),iF _ (by omega)]
   rw [dB (n:=(m:Int)) (by omega) (by omega)]
   have e1:Int.tdiv (m:Int) ((2^n:Nat):Int)=((m/2^n:Nat):Int):=(Int.ofNat_tdiv m (2^n)).symm
   rw [e1]
   have hd:m/2^n≤m:=Nat.div_le_self _ _
   have hc:(0:Int)≤((m/2^n:Nat):Int):=Int.natCast_nonneg _
   rw [dB (by omega) (by omega)]
   have e2:Int.tmod ((m/2^n:Nat):Int) 2=((m/2^n%2:Nat):Int):=(Int.ofNat_tmod (m/2^n) 2).symm
   rw [e2,decide_eq_true (by omega),Bool.true_and,Int.toNat_natCast]
   congr 1
   rw [Nat.testBit_eq_decide_div_mod_eq,Bool.eq_iff_iff]
   simp only [beq_iff_eq,decide_eq_true_eq]
   omega
  ·rw [if_neg h1,decide_eq_false (by omega)];rfl
 ·rw [if_neg h0,decide_eq_false (by omega)];rfl
def ints (l:List Nat):List Int:=l.map Int.ofNat
theorem CR (l:List Nat) (i:Nat):(ints l)[i]? =(l[i]?).map Int.ofNat:=by simp [ints]
theorem dm (l:List Nat):(ints l).length=l.length:=by simp [ints]
theorem aaA (hk:Fu k) (ret:Int→Option S) (l:List Nat) (hl:l.length≤64) (h24: ∀x∈l,x<24): ∀ (d i m:Nat),i+d=l.length→d<m→ph k ret (ints l) m ((cm (l.take i):Nat):Int) (i:Int)=ret ((cm l:Nat):Int):=by
 have hbound: ∀i,cm (l.take i)≤64*8388608:=by
  intro i
  have h1:=afC (l.take i) fun x hx=>h24 x (List.mem_of_mem_take hx)
  have h2:(l.take i).length≤64:=by rw [List.length_take];omega
  exact Nat.le_trans h1 (Nat.mul_le_mul_right _ h2)
 intro d
 induction d with
 |zero=>
  intro i m h hm
  obtain ⟨m,rfl⟩: ∃q,m=q+1:=⟨m-1,by omega⟩
  simp only [ph,vI,aS,dm,af hk]
  have hb:=hbound i
  have h64:64*8388608=536870912:=by decide
  rw [if_neg (by omega),kC _ (by omega),List.take_of_length_le (by omega)]
 |succ d ih=>
  intro i m h hm
  obtain ⟨m,rfl⟩: ∃q,m=q+1:=⟨m-1,by omega⟩
  simp only [ph,vI,aS,dm,af hk]
  have hi:i<l.length:=by omega
  rw [if_pos (by omega),yn,CR,List.getElem?_eq_getElem hi]
  simp only [Option.map_some,Option.bind_some]
  have hx:=h24 _ (List.getElem_mem hi)
  have hb:=hbound i
  rw [show Int.ofNat l[i]=((l[i]:Nat):Int) from rfl,Fr hk _ (by omega)]
  have hp:2^l[i]≤2^24:=Nat.pow_le_pow_right (by decide) (by omega)
  have h24:(2:Nat)^24=16777216:=by decide
  have hc:(0:Int)≤((2^l[i]:Nat):Int):=Int.natCast_nonneg _
  rw [dB (by omega) (by omega),dB (by omega) (by omega)]
  have e1:((cm (l.take i):Nat):Int)+((2^l[i]:Nat):Int)=((cm (l.take (i+1)):Nat):Int):=by
   rw [List.take_add_one,List.getElem?_eq_getElem hi]
   simp only [cm,List.map_append,Option.toList_some,List.map_cons,List.map_nil,List.sum_append,List.sum_cons,List.sum_nil]
   omega
  have e2:(i:Int)+1=((i+1:Nat):Int):=by simp
  rw [e1,e2]
  exact ih (i+1) m (by omega) (by omega)
theorem qG (hk:Fu k) (l:List Nat) (hl:l.length≤64) (h24: ∀x∈l,x<24) (ret:Int→Option S):iR k (ints l) ret=ret ((cm l:Nat):Int):=by
 simp only [iR,Ga]
 have:=aaA hk ret l hl h24 l.length 0 k (by omega) (by omega)
 simpa [cm] using this
theorem aay (hk:Fu k) (ret:List Int→Option S) {q:Nat} (hq:q<4294967296): ∀ (d i m:Nat),i+d=24→d<m→pg k ret (q:Int) m (ints ((List.range i).filter q.testBit)) (i:Int)=ret (ints (bR q)):=by
 intro d
 induction d with
 |zero=>
  intro i m h hm
  obtain ⟨m,rfl⟩: ∃q,m=q+1:=⟨m-1,by omega⟩
  have:i=24:=by omega
  subst this
  simp only [pg,vH,aS,af hk]
  rw [if_neg (by omega)]
  rfl
 |succ d ih=>
  intro i m h hm
  obtain ⟨m,rfl⟩: ∃q,m=q+1:=⟨m-1,by omega⟩
  simp only [pg,vH,aS,af hk]
  rw [if_pos (by omega),O7 hk hq,decide_eq_true (by omega),Bool.true_and,Int.toNat_natCast,dB (by omega) (by omega)]
  have e2:(i:Int)+1=((i+1:Nat):Int):=by simp
  have hlen:(ints ((List.range i).filter q.testBit)).length≤24:=by
   rw [dm]
   have:=List.length_filter_le q.testBit (List.range i)
   rw [List.length_range] at this;omega
  rw [e2]
  cases hb:q.testBit i with
  |true=>
   rw [ae,aO (by simp;omega)]
   have:ints ((List.range i).filter q.testBit)++[(i:Int)]=ints ((List.range (i+1)).filter q.testBit):=by
    rw [List.range_succ,List.filter_append];simp [ints,hb]
   rw [this]
   exact ih (i+1) m (by omega) (by omega)
  |false=>
   rw [ad]
   have:ints ((List.range i).filter q.testBit)=ints ((List.range (i+1)).filter q.testBit):=by
    rw [List.range_succ,List.filter_append];simp [ints,hb]
   rw [this]
   exact ih (i+1) m (by omega) (by omega)
theorem qF (hk:Fu k) {q:Nat} (hq:q<4294967296) (ret:List Int→Option S):iQ k (q:Int) ret=ret (ints (bR q)):=by
 simp only [iQ,F_]
 have:=aay hk ret hq 24 0 k (by omega) (by omega)
 simpa [ints] using this
theorem aaB (hk:Fu k) (ret:Int→Option S) (n:Int) (l:List Nat) (hl:l.length≤64) (h24: ∀x∈l,x<24): ∀ (d i m:Nat),i+d=l.length→d<m→
  pi k ret n (ints l) m (ints ((l.take i).filter fun x:Nat=> !((x:Int)==n))) (i:Int)=ret ((cm (l.filter fun x:Nat=> !((x:Int)==n)):Nat):Int):=by
 intro d
 induction d with
 |zero=>
  intro i m h hm
  obtain ⟨m,rfl⟩: ∃q,m=q+1:=⟨m-1,by omega⟩
  simp only [pi,vJ,aS,dm,af hk]
  rw [if_neg (by omega),List.take_of_length_le (by omega),qG hk _ (Nat.le_trans (List.length_filter_le _ _) hl) fun x hx=>h24 x (List.mem_filter.1 hx).1]
 |succ d ih=>
  intro i m h hm
  obtain ⟨m,rfl⟩: ∃q,m=q+1:=⟨m-1,by omega⟩
  simp only [pi,vJ,aS,dm,af hk]
  have hi:i<l.length:=by omega
  rw [if_pos (by omega),yn,CR,List.getElem?_eq_getElem hi]
  simp only [Option.map_some,Option.bind_some]
  rw [dB (n:=(i:Int)+1) (by omega) (by omega)]
  have e2:(i:Int)+1=((i+1:Nat):Int):=by simp
  rw [e2,show Int.ofNat l[i]=((l[i]:Nat):Int) from rfl]
  have et:(l.take (i+1)).filter (fun x:Nat=> !((x:Int)==n))=(l.take i).filter (fun x:Nat=> !((x:Int)==n))++(if !((l[i]:Int)==n) then [l[i]] else []):=by
   rw [List.take_add_one,List.getElem?_eq_getElem hi,List.filter_append]
   simp only [Option.toList_some,List.filter_cons,List.filter_nil]
  cases hb: !((l[i]:Int)==n) with
  |true=>
   rw [hb] at et
   rw [ae,aO]
   ·have:ints ((l.take i).filter fun x:Nat=> !((x:Int)==n))++[((l[i]:Nat):Int)]=ints ((l.take (i+1)).filter fun x:Nat=> !((x:Int)==n)):=by
     rw [et];simp [ints]
    rw [this]
    exact ih (i+1) m (by omega) (by omega)
   ·have h1:=List.length_filter_le (fun x:Nat=> !((x:Int)==n)) (l.take i)
    have h2:(l.take i).length≤64:=by rw [List.length_take];omega
    simp only [dm,List.length_cons,List.length_nil];omega
  |false=>
   rw [hb] at et
   rw [ad]
   have:ints ((l.take i).filter fun x:Nat=> !((x:Int)==n))=ints ((l.take (i+1)).filter fun x:Nat=> !((x:Int)==n)):=by
    rw [et];simp
   rw [this]
   exact ih (i+1) m (by omega) (by omega)
theorem uP (hk:Fu k) {q:Nat} (hq:q<4294967296) (i:Int) (ret:Int→Option S):gh k (q:Int) i ret=ret (if 0≤i∧i<24 then ((dp (q&&&M24) (2^i.toNat):Nat):Int) else ((q&&&M24:Nat):Int)):=by
 simp only [gh,Gb,af hk,qF hk hq]
 have:=aaB hk ret i (bR q) (by have:=f8 q;omega) (fun x hx=>(mem_bitsN.1 hx).1) (bR q).length 0 k (by omega) (by have:=f8 q;omega)
 simp only [List.take_zero,List.filter_nil] at this
 have h0:(ints []:List Int)=[]:=rfl
 rw [h0] at this
 refine Eq.trans this ?_
 congr 1
 have hnd:((bR q).filter fun x:Nat=> !((x:Int)==i)).Nodup:=(n1 q).filter _
 by_cases h:0≤i∧i<24
 ·rw [if_pos h]
  congr 1
  apply Nat.eq_of_testBit_eq
  intro j
  rw [nO _ hnd,kl,Nat.testBit_and,f0,Nat.testBit_two_pow,Bool.eq_iff_iff]
  simp only [decide_eq_true_eq,List.mem_filter,mem_bitsN,Bool.and_eq_true,Bool.not_eq_true',decide_eq_false_iff_not,beq_eq_false_iff_ne]
  constructor
  ·rintro ⟨⟨a,b⟩,c⟩;exact ⟨⟨b,a⟩,by omega⟩
  ·rintro ⟨⟨a,b⟩,c⟩;exact ⟨⟨b,a⟩,by omega⟩
 ·rw [if_neg h,←Fk]
  congr 2
  rw [List.filter_eq_self]
  intro x hx
  have:=(mem_bitsN.1 hx).1
  simp only [Bool.not_eq_true',beq_eq_false_iff_ne]
  omega
theorem afU (hk:Fu k) {q:Nat} (hq:q<4294967296) (i:Int) (ret:Int→Option S):sD k (q:Int) i ret=ret (if 0≤i∧i<24 then (((q&&&M24)|||2^i.toNat:Nat):Int) else ((q&&&M24:Nat):Int)):=by
 simp only [sD,Qg,aS,af hk]
 have hq24:q&&&M24<4294967296:=q_ (n:=32) hq
 by_cases h0:i<0
 ·rw [if_pos h0,uP hk hq,if_neg (by omega),if_neg (by omega)]
 ·rw [if_neg h0]
  by_cases h1:i≥24
  ·rw [if_pos h1,uP hk hq,if_neg (by omega),if_neg (by omega)]
  ·rw [if_neg h1,uP hk hq,if_pos (by omega),if_pos (by omega)]
   obtain ⟨n,rfl⟩: ∃n:Nat,i=n:=⟨i.toNat,by omega⟩
   have hw:dp (q&&&M24) (2^n)<4294967296:=t_ (n:=32) hq24
   rw [Int.toNat_natCast,qF hk hw,aO (by rw [dm];have:=f8 (dp (q&&&M24) (2^n));simp;omega)]
   have e:ints (bR (dp (q&&&M24) (2^n)))++[(n:Int)]=ints (bR (dp (q&&&M24) (2^n))++[n]):=by simp [ints]
   rw [e,qG hk _ (by have:=f8 (dp (q&&&M24) (2^n));simp;omega) (fun x hx=>by
    rcases List.mem_append.1 hx with hx|hx
    ·exact (mem_bitsN.1 hx).1
    ·simp at hx;omega)]
   congr 2
   apply Nat.eq_of_testBit_eq
   intro j
   rw [nO]
   ·rw [Nat.testBit_or,Nat.testBit_and,f0,Nat.testBit_two_pow,Bool.eq_iff_iff]
    simp only [decide_eq_true_eq,List.mem_append,List.mem_singleton,mem_bitsN,kl,Nat.testBit_and,f0,Nat.testBit_two_pow,Bool.and_eq_true,Bool.or_eq_true,Bool.not_eq_true',decide_eq_false_iff_not]
    constructor
    ·rintro (⟨a,⟨b,c⟩,d⟩|a)
     ·exact .inl ⟨b,c⟩
     ·exact .inr a.symm
    ·rintro (⟨a,b⟩|a)
     ·by_cases hj:n=j
      ·exact .inr hj.symm
      ·exact .inl ⟨b,⟨a,b⟩,hj⟩
     ·exact .inr a.symm
   ·rw [List.nodup_append]
    refine ⟨n1 _,by simp,fun a ha b hb=> ?_⟩
    simp at hb
    subst hb
    rintro rfl
    have:=(mem_bitsN.1 ha).2
    rw [kl,Nat.testBit_two_pow] at this
    simp at this
end Go.Proofs.YtapmagaejigpnaaGreatDoor
namespace Go.Proofs.YtapmagaejigpnaaGreatDoor
open Go PI
set_option linter.unusedVariables false
set_option linter.unusedSimpArgs false
set_option maxRecDepth 20000
variable {S:Type} {k:Nat}
theorem tp {α:Type} (p r:List α) (x:α):al (p++x::r) (p.length:Int)=some x:=by simp [al]
theorem O3 {α:Type} (p r:List α) (x y:α):(p++x::r).set p.length y=(p++[y])++r:=by simp
theorem ahd (p r:List Nat):ints (p++r)=ints p++ints r:=by simp [ints]
theorem n4 {m:Nat} (h:m<16777216) {j:Nat} (hj:m.testBit j=true):j<24:=by
 apply Classical.byContradiction
 intro hn
 have:m<2^j:=Nat.lt_of_lt_of_le h (Nat.pow_le_pow_right (n:=2) (i:=24) (j:=j) (by decide) (by omega))
 rw [Nat.testBit_lt_two_pow this] at hj;cases hj
theorem Jx (m:Nat):m<16777216↔ ∀j,m.testBit j=true→j<24:=by
 constructor
 ·intro h j hj;exact n4 h hj
 ·intro h
  apply Nat.lt_pow_two_of_testBit (n:=24)
  intro i hi
  cases hb:m.testBit i with
  |false=>rfl
  |true=>have:=h i hb;omega
def c8 (n b x:Nat):Nat:=if x<n then x else x+b
theorem aax (hk:Fu k) (ret:Int×Int→Option S) (n b:Nat) (hn:n<9223372036854775808) (hb:b<9223372036854775808):
  ∀ (r p:List Nat) (m:Nat),(p++r).length≤24→(∀x∈r,x<24)→r.length<m→(∀x∈p,x<24)→
  m7 k ret (n:Int) (b:Int) m (ints (p++r)) (p.length:Int)=
   if (∃x∈r,n≤x∧24≤x+b) then ret (0,10) else ret (((cm (p++r.map (c8 n b)):Nat):Int),0):=by
 intro r
 induction r with
 |nil=>
  intro p m hl h24 hm hp
  obtain ⟨m,rfl,hm⟩:=ak hm
  simp only [m7,vG,aS,dm,af hk]
  rw [List.append_nil,if_neg (by omega),if_neg (by simp),List.map_nil,List.append_nil]
  rw [List.append_nil] at hl
  exact qG hk p (by omega) hp _
 |cons x r ih=>
  intro p m hl h24 hm hp
  obtain ⟨m,rfl,hm⟩:=ak hm
  have hx:=h24 x (by simp)
  have hl':p.length+(r.length+1)≤24:=by simpa using hl
  have e0:ints (p++x::r)=ints p++(x:Int)::ints r:=by simp [ints]
  have el:(p.length:Int)=((ints p).length:Int):=by rw [dm]
  simp only [m7,vG,aS,af hk]
  rw [if_pos (by rw [dm,List.length_append,List.length_cons];omega),e0,el,tp]
  simp only [Option.bind_some]
  have ew:IntKind.wrap .i64 (((ints p).length:Int)+1)=(((p++[x]).length:Nat):Int):=by
   rw [dm,dB (by omega) (by omega)];simp
  have key: ∀y:Nat,y<24→m7 k ret (n:Int) (b:Int) m (ints p++(y:Int)::ints r) (((p++[x]).length:Nat):Int)=if (∃x∈r,n≤x∧24≤x+b) then ret (0,10) else ret (((cm ((p++[y])++r.map (c8 n b)):Nat):Int),0):=by
   intro y hy
   have:=ih (p++[y]) m (by simpa using hl') (fun z hz=>h24 z (by simp [hz])) (by simpa using hm) (by
    intro z hz
    rcases List.mem_append.1 hz with hz|hz
    ·exact hp z hz
    ·simp at hz;omega)
   rw [←this]
   congr 1
   ·simp [ints]
   ·simp
  rw [ew]
  by_cases hxn:x<n
  ·rw [if_pos (by omega),key x hx]
   have e1:c8 n b x=x:=by unfold c8;rw [if_pos hxn]
   have e2:(∃z∈x::r,n≤z∧24≤z+b)↔(∃z∈r,n≤z∧24≤z+b):=by
    constructor
    ·rintro ⟨z,hz,h1,h2⟩
     rcases List.mem_cons.1 hz with rfl|hz
     ·omega
     ·exact ⟨z,hz,h1,h2⟩
    ·rintro ⟨z,hz,h⟩;exact ⟨z,by simp [hz],h⟩
   simp only [e2,List.map_cons,e1,List.append_assoc,List.singleton_append]
  ·rw [if_neg (by omega),dB (n:=24-(x:Int)) (by omega) (by omega)]
   by_cases hby:24≤x+b
   ·rw [if_pos (by omega),if_pos ⟨x,by simp,by omega,hby⟩]
   ·rw [if_neg (by omega),dB (n:=(x:Int)+(b:Int)) (by omega) (by omega),Int.toNat_natCast]
    have e3:(x:Int)+(b:Int)=((x+b:Nat):Int):=by simp
    rw [e3,O3,List.append_assoc,List.singleton_append,key (x+b) (by omega)]
    have e1:c8 n b x=x+b:=by unfold c8;rw [if_neg hxn]
    have e2:(∃z∈x::r,n≤z∧24≤z+b)↔(∃z∈r,n≤z∧24≤z+b):=by
     constructor
     ·rintro ⟨z,hz,h1,h2⟩
      rcases List.mem_cons.1 hz with rfl|hz
      ·omega
      ·exact ⟨z,hz,h1,h2⟩
     ·rintro ⟨z,hz,h⟩;exact ⟨z,by simp [hz],h⟩
    simp only [e2,List.map_cons,e1,List.append_assoc,List.singleton_append]
theorem Hn (n j:Nat):(2^min n 24-1).testBit j=decide (j<n∧j<24):=by
 rw [Nat.testBit_two_pow_sub_one,Bool.eq_iff_iff];simp;omega
theorem Bp (m n j:Nat):(fO m n).testBit j=(m.testBit j&&decide (j<n∧j<24)):=by
 rw [fO,Nat.testBit_and,Nat.testBit_and,f0,Hn,Bool.eq_iff_iff]
 simp only [Bool.and_eq_true,decide_eq_true_eq]
 constructor
 ·rintro ⟨⟨a,b⟩,c,d⟩;exact ⟨a,c,d⟩
 ·rintro ⟨a,c,d⟩;exact ⟨⟨a,d⟩,c,d⟩
theorem Ho (m n j:Nat):(cW m n).testBit j=(m.testBit j&&decide (n≤j∧j<24)):=by
 rw [cW,kl,Nat.testBit_and,f0,Hn,Bool.eq_iff_iff]
 simp only [Bool.and_eq_true,Bool.not_eq_true',decide_eq_true_eq,decide_eq_false_iff_not]
 constructor
 ·rintro ⟨⟨a,b⟩,c⟩;exact ⟨a,by omega,b⟩
 ·rintro ⟨a,b,c⟩;exact ⟨⟨a,c⟩,by omega⟩
theorem Dc (m n b:Nat):dY m n b=if (∃x∈bR m,n≤x∧24≤x+b) then (0,10) else (cm ((bR m).map (c8 n b)),0):=by
 have hnd:((bR m).map (c8 n b)).Nodup:=by
  have: ∀x y,c8 n b x=c8 n b y→x=y:=by
   intro x y h;unfold c8 at h;split at h<;>split at h<;>omega
  exact List.Pairwise.map (S:=fun a b=>a≠b) (R:=fun a b=>a≠b) _ (fun x y hxy h=>hxy (this x y h)) (n1 m)
 have hset: ∀j,(cm ((bR m).map (c8 n b))).testBit j=((fO m n).testBit j||(decide (b≤j)&&(cW m n).testBit (j-b))):=by
  intro j
  rw [nO _ hnd,Bp,Ho,Bool.eq_iff_iff]
  simp only [decide_eq_true_eq,List.mem_map,mem_bitsN,Bool.or_eq_true,Bool.and_eq_true]
  constructor
  ·rintro ⟨x,⟨h1,h2⟩,rfl⟩
   unfold c8
   split
   ·exact .inl ⟨h2,by omega,h1⟩
   ·refine .inr ⟨by omega, ?_,by omega,by omega⟩
    rw [show x+b-b=x by omega];exact h2
  ·rintro (⟨h1,h2,h3⟩|⟨h1,h2,h3,h4⟩)
   ·exact ⟨j,⟨h3,h1⟩,by unfold c8;rw [if_pos h2]⟩
   ·exact ⟨j-b,⟨h4,h2⟩,by unfold c8;rw [if_neg (by omega)];omega⟩
 have hhigh: ∀j,(cW m n).testBit j=true↔(j∈bR m∧n≤j):=by
  intro j
  rw [Ho,mem_bitsN];simp;constructor
  ·rintro ⟨a,b,c⟩;exact ⟨⟨c,a⟩,b⟩
  ·rintro ⟨⟨a,b⟩,c⟩;exact ⟨b,c,a⟩
 unfold dY
 by_cases h0:cW m n=0
 ·rw [if_pos h0,if_neg]
  ·congr 1
   apply Nat.eq_of_testBit_eq
   intro j
   rw [hset,h0,Nat.zero_testBit,Bool.and_false,Bool.or_false]
  ·rintro ⟨x,h1,h2,h3⟩
   have:=(hhigh x).2 ⟨h1,h2⟩
   rw [h0,Nat.zero_testBit] at this;cases this
 ·rw [if_neg h0]
  have hex: ∃j,(cW m n).testBit j=true:=by
   apply Classical.byContradiction
   intro hne
   apply h0
   apply Nat.eq_of_testBit_eq
   intro j
   rw [Nat.zero_testBit]
   cases hb:(cW m n).testBit j with
   |false=>rfl
   |true=>exact absurd ⟨j,hb⟩ hne
  have hmul: ∀j,(cW m n*2^b).testBit j=(decide (b≤j)&&(cW m n).testBit (j-b)):=by
   intro j;rw [Nat.testBit_mul_two_pow]
  by_cases h24:24≤b
  ·rw [if_pos h24]
   obtain ⟨j,hj⟩:=hex
   have:=(hhigh j).1 hj
   rw [if_pos ⟨j,this.1,this.2,by omega⟩]
  ·rw [if_neg h24]
   have hlt:=Jx (cW m n*2^b)
   by_cases hg:cW m n*2^b>16777215
   ·rw [if_pos hg,if_pos]
    apply Classical.byContradiction
    intro hne
    have:cW m n*2^b<16777216:=hlt.2 fun j hj=>by
     rw [hmul] at hj
     simp only [Bool.and_eq_true,decide_eq_true_eq] at hj
     have h1:=(hhigh _).1 hj.2
     apply Classical.byContradiction
     intro h2
     exact hne ⟨j-b,h1.1,h1.2,by omega⟩
    omega
   ·rw [if_neg hg,if_neg]
    ·congr 1
     apply Nat.eq_of_testBit_eq
     intro j
     rw [hset,Nat.testBit_or,hmul]
    ·rintro ⟨x,h1,h2,h3⟩
     have hx:(cW m n*2^b).testBit (x+b)=true:=by
      rw [hmul,decide_eq_true (by omega),Bool.true_and,show x+b-b=x by omega]
      exact (hhigh x).2 ⟨h1,h2⟩
     have:=hlt.1 (by omega) _ hx
     omega
theorem afS (hk:Fu k) {m:Nat} (hm:m<4294967296) (n b:Nat) (hn:n<9223372036854775808) (hb:b<9223372036854775808) (ret:Int×Int→Option S):
  kR k (m:Int) (n:Int) (b:Int) ret=ret (((dY m n b).1:Int),((dY m n b).2:Int)):=by
 simp only [kR,uT,aS,af hk]
 rw [if_neg (by omega),if_neg (by omega),qF hk hm]
 have:=aax hk ret n b hn hb (bR m) [] k (by have:=f8 m;simpa using this) (fun x hx=>(mem_bitsN.1 hx).1) (by have:=f8 m;have:4294967296≤k:=hk;omega) (by simp)
 simp only [List.nil_append] at this
 refine Eq.trans this ?_
 rw [Dc]
 split<;>rfl
def jQ (m:Nat) (i:Int):Nat:=if 0≤i∧i<24 then fO m i.toNat|||((m&&&M24)/2^(i.toNat+1)*2^i.toNat) else m&&&M24
theorem afL (hk:Fu k) {m:Nat} (hm:m<4294967296) (i:Int) (ret:Int→Option S):oq k (m:Int) i ret=ret ((jQ m i:Nat):Int):=by
 simp only [oq,P8,zS hk,af hk]
 have hand:be .and .u32 (m:Int) 16777215=((m&&&M24:Nat):Int):=kK hm (by decide:(16777215:Nat)<4294967296)
 have hlt:m&&&M24<16777216:=Nat.lt_of_le_of_lt Nat.and_le_right (by decide)
 rw [hand]
 unfold jQ
 by_cases h:0≤i∧i<24
 ·obtain ⟨n,rfl⟩: ∃n:Nat,i=n:=⟨i.toNat,by omega⟩
  have hn:n<24:=by omega
  rw [decide_eq_true h,if_pos h,Bool.not_true,ad,O6 hk n (by omega)]
  have e1:(n:Int)+1=((n+1:Nat):Int):=by simp
  rw [dB (by omega) (by omega),e1,gI _ (by omega),gI _ (by omega),iF _ (by omega),iF _ (by omega)]
  rw [Int.toNat_natCast,Int.toNat_natCast,Nat.min_eq_left (show n+1≤32 by omega),Nat.min_eq_left (show n≤32 by omega),CA,n7]
  have hb:2^min n 24-1<4294967296:=by
   have:2^min n 24≤2^24:=Nat.pow_le_pow_right (by decide) (by omega)
   have h24:(2:Nat)^24=16777216:=by decide
   omega
  have hq:(m&&&M24)/2^(n+1)*2^n≤m&&&M24:=by
   have h1:(m&&&M24)/2^(n+1)*2^(n+1)≤m&&&M24:=Nat.div_mul_le_self _ _
   have h2:2^n≤2^(n+1):=Nat.pow_le_pow_right (by decide) (by omega)
   exact Nat.le_trans (Nat.mul_le_mul_left _ h2) h1
  have ec:((((m&&&M24)/2^(n+1):Nat):Int))*((2^n:Nat):Int)=(((m&&&M24)/2^(n+1)*2^n:Nat):Int):=by simp
  rw [ec,kC _ (by omega),kK (by omega) hb]
  have hlow:fO m n<4294967296:=by have:fO m n≤m&&&M24:=Nat.and_le_left;omega
  show ret (be .or .u32 ((fO m n:Nat):Int) _)=_
  rw [vc hlow (by omega)]
 ·rw [decide_eq_false h,if_neg h];rfl
def eC (i:Int) (x:Nat):Nat:=if 0≤i∧i<(x:Int) then x-1 else x
theorem aav (hk:Fu k) (ret:Int→Option S) (i:Int):
  ∀ (r p:List Nat) (m:Nat),(p++r).length≤24→(∀x∈r,x<24)→r.length<m→(∀x∈p,x<24)→
  m6 k ret i m (ints (p++r)) (p.length:Int)=ret ((cm (p++r.map (eC i)):Nat):Int):=by
 intro r
 induction r with
 |nil=>
  intro p m hl h24 hm hp
  obtain ⟨m,rfl,hm⟩:=ak hm
  simp only [m6,vF,aS,dm,af hk]
  rw [List.append_nil,if_neg (by omega),List.map_nil,List.append_nil]
  rw [List.append_nil] at hl
  exact qG hk p (by omega) hp _
 |cons x r ih=>
  intro p m hl h24 hm hp
  obtain ⟨m,rfl,hm⟩:=ak hm
  have hx:=h24 x (by simp)
  have hl':p.length+(r.length+1)≤24:=by simpa using hl
  have e0:ints (p++x::r)=ints p++(x:Int)::ints r:=by simp [ints]
  have el:(p.length:Int)=((ints p).length:Int):=by rw [dm]
  simp only [m6,vF,aS,af hk]
  rw [if_pos (by rw [dm,List.length_append,List.length_cons];omega),e0,el,tp]
  simp only [Option.bind_some]
  have ew:IntKind.wrap .i64 (((ints p).length:Int)+1)=(((p++[x]).length:Nat):Int):=by
   rw [dm,dB (by omega) (by omega)];simp
  have key: ∀y:Nat,y<24→m6 k ret i m (ints p++(y:Int)::ints r) (((p++[x]).length:Nat):Int)=ret ((cm ((p++[y])++r.map (eC i)):Nat):Int):=by
   intro y hy
   have:=ih (p++[y]) m (by simpa using hl') (fun z hz=>h24 z (by simp [hz])) (by simpa using hm) (by
    intro z hz
    rcases List.mem_append.1 hz with hz|hz
    ·exact hp z hz
    ·simp at hz;omega)
   rw [←this]
   congr 1
   ·simp [ints]
   ·simp
  rw [ew]
  by_cases hi:i≥0
  ·rw [if_pos hi]
   by_cases hxi:(x:Int)>i
   ·rw [if_pos hxi,dB (n:=(x:Int)-1) (by omega) (by omega),Int.toNat_natCast]
    have e3:(x:Int)-1=((x-1:Nat):Int):=by omega
    have e1:eC i x=x-1:=by unfold eC;rw [if_pos ⟨hi,hxi⟩]
    rw [e3,O3,List.append_assoc,List.singleton_append,key (x-1) (by omega),List.map_cons,e1,List.append_assoc,List.singleton_append]
   ·have e1:eC i x=x:=by unfold eC;rw [if_neg (by omega)]
    rw [if_neg hxi,key x hx,List.map_cons,e1,List.append_assoc,List.singleton_append]
  ·have e1:eC i x=x:=by unfold eC;rw [if_neg (by omega)]
   rw [if_neg hi,key x hx,List.map_cons,e1,List.append_assoc,List.singleton_append]
theorem WZ (m:Nat) (i:Int):jQ m i=cm ((bR (if 0≤i∧i<24 then dp (m&&&M24) (2^i.toNat) else m&&&M24)).map (eC i)):=by
 unfold jQ
 by_cases h:0≤i∧i<24
 ·rw [if_pos h,if_pos h]
  obtain ⟨n,rfl⟩: ∃n:Nat,i=n:=⟨i.toNat,by omega⟩
  have hn:n<24:=by omega
  rw [Int.toNat_natCast]
  have hmem: ∀j,j∈bR (dp (m&&&M24) (2^n))↔(j<24∧m.testBit j=true∧j≠n):=by
   intro j
   rw [mem_bitsN,kl,Nat.testBit_and,f0,Nat.testBit_two_pow]
   simp only [Bool.and_eq_true,Bool.not_eq_true',decide_eq_true_eq,decide_eq_false_iff_not]
   constructor
   ·rintro ⟨a,⟨b,c⟩,d⟩;exact ⟨a,b,fun e=>d e.symm⟩
   ·rintro ⟨a,b,c⟩;exact ⟨a,⟨b,a⟩,fun e=>c e.symm⟩
  have hnd:((bR (dp (m&&&M24) (2^n))).map (eC n)).Nodup:=by
   rw [List.nodup_iff_pairwise_ne,List.pairwise_map]
   refine List.Pairwise.imp_of_mem (fun {x y} hx hy hxy h=>hxy ?_) (n1 _)
   have h1:=(hmem x).1 hx;have h2:=(hmem y).1 hy
   have h3:=h1.2.2;have h4:=h2.2.2
   unfold eC at h;split at h<;>split at h<;>omega
  apply Nat.eq_of_testBit_eq
  intro j
  rw [nO _ hnd,Nat.testBit_or,Bp,Nat.testBit_mul_two_pow,Nat.testBit_div_two_pow,Nat.testBit_and,f0,Bool.eq_iff_iff]
  simp only [Bool.or_eq_true,Bool.and_eq_true,decide_eq_true_eq,List.mem_map,hmem]
  constructor
  ·rintro (⟨a,b,c⟩|⟨a,b,c⟩)
   ·exact ⟨j,⟨c,a,by omega⟩,by unfold eC;rw [if_neg (by omega)]⟩
   ·refine ⟨j+1,⟨by omega, ?_,by omega⟩,by unfold eC;rw [if_pos (by omega)];omega⟩
    rw [show j+1=j-n+(n+1) by omega];exact b
  ·rintro ⟨x,⟨a,b,c⟩,rfl⟩
   unfold eC
   split
   ·refine .inr ⟨by omega, ?_,by omega⟩
    rw [show x-1-n+(n+1)=x by omega];exact b
   ·exact .inl ⟨b,by omega,a⟩
 ·rw [if_neg h,if_neg h]
  have e:(bR (m&&&M24)).map (eC i)=bR (m&&&M24):=by
   conv=>rhs;rw [←List.map_id (bR (m&&&M24))]
   apply List.map_congr_left
   intro x hx
   have:=(mem_bitsN.1 hx).1
   unfold eC
   rw [if_neg (by omega)];rfl
  rw [e,Fk,Nat.and_assoc,Nat.and_self]
theorem afR (hk:Fu k) {m:Nat} (hm:m<4294967296) (i:Int) (ret:Int→Option S):ov k (m:Int) i ret=ret ((jQ m i:Nat):Int):=by
 simp only [ov,F9,af hk,uP hk hm]
 have hlt:m&&&M24<4294967296:=Nat.lt_of_le_of_lt Nat.and_le_right (by decide)
 have e:(if 0≤i∧i<24 then ((dp (m&&&M24) (2^i.toNat):Nat):Int) else ((m&&&M24:Nat):Int))=(((if 0≤i∧i<24 then dp (m&&&M24) (2^i.toNat) else m&&&M24):Nat):Int):=by split<;>rfl
 have hq:(if 0≤i∧i<24 then dp (m&&&M24) (2^i.toNat) else m&&&M24)<4294967296:=by
  split
  ·exact t_ (n:=32) hlt
  ·exact hlt
 rw [e,qF hk hq,WZ]
 generalize (if 0≤i∧i<24 then dp (m&&&M24) (2^i.toNat) else m&&&M24)=q at hq ⊢
 have:=aav hk ret i (bR q) [] k (by have:=f8 q;simpa using this) (fun x hx=>(mem_bitsN.1 hx).1) (by have:=f8 q;have:4294967296≤k:=hk;omega) (by simp)
 simpa using this
end Go.Proofs.YtapmagaejigpnaaGreatDoor
namespace Go.Proofs.YtapmagaejigpnaaGreatDoor
open Go PI
set_option linter.unusedVariables false
set_option linter.unusedSimpArgs false
set_option maxRecDepth 20000
variable {S:Type} {k:Nat}
def aF (n:Int):Prop:= -9223372036854775808≤n∧n<9223372036854775808
def kw (s:Int):Bool:=decide (s<16777216)
def bN (s i:Int):Bool:=decide (0≤i∧i<24)&&s.toNat.testBit i.toNat
def ez (s i:Int):Int:=if 0≤i∧i<24 then (((s.toNat&&&M24)|||2^i.toNat:Nat):Int) else ((s.toNat&&&M24:Nat):Int)
def dr (s i:Int):Int:=if 0≤i∧i<24 then ((dp (s.toNat&&&M24) (2^i.toNat):Nat):Int) else ((s.toNat&&&M24:Nat):Int)
def fi (s:Int):List Int:=ints (bR s.toNat)
def cq (s i b:Int):Int×Int:=if i<0∨b<0 then (0,2) else (((dY s.toNat i.toNat b.toNat).1:Int),((dY s.toNat i.toNat b.toNat).2:Int))
def oJ (s i:Int):Int:=((jQ s.toNat i:Nat):Int)
theorem NL (m:Nat):kw (m:Int)=decide (m<16777216):=by
 unfold kw;rw [Bool.eq_iff_iff,decide_eq_true_iff,decide_eq_true_iff];omega
theorem Oi (hk:Fu k) {s:Int} (h:U32 s) (ret:Bool→Option S):ot k s ret=ret (kw s):=by
 obtain ⟨m,hm,rfl⟩:=h.nat
 rw [afO hk hm,NL]
theorem OU (hk:Fu k) {s:Int} (h:U32 s) (ret:Bool→Option S):ow k s ret=ret (kw s):=by
 obtain ⟨m,hm,rfl⟩:=h.nat
 rw [afT hk hm,NL]
theorem qC (hk:Fu k) {s:Int} (h:U32 s) (i:Int) (ret:Bool→Option S):gT k s i ret=ret (bN s i):=by
 obtain ⟨m,hm,rfl⟩:=h.nat
 rw [afM hk hm];rfl
theorem iy (hk:Fu k) {s:Int} (h:U32 s) (i:Int) (ret:Bool→Option S):dS k s i ret=ret (bN s i):=by
 obtain ⟨m,hm,rfl⟩:=h.nat
 rw [O7 hk hm];rfl
theorem uE (hk:Fu k) {s:Int} (h:U32 s) (i:Int) (ret:Int→Option S):iP k s i ret=ret (ez s i):=by
 obtain ⟨m,hm,rfl⟩:=h.nat
 rw [afP hk hm];rfl
theorem afr (hk:Fu k) {s:Int} (h:U32 s) (i:Int) (ret:Int→Option S):sD k s i ret=ret (ez s i):=by
 obtain ⟨m,hm,rfl⟩:=h.nat
 rw [afU hk hm];rfl
theorem uF (hk:Fu k) {s:Int} (h:U32 s) (i:Int) (ret:Int→Option S):jL k s i ret=ret (dr s i):=by
 obtain ⟨m,hm,rfl⟩:=h.nat
 rw [afQ hk hm];rfl
theorem zO (hk:Fu k) {s:Int} (h:U32 s) (i:Int) (ret:Int→Option S):gh k s i ret=ret (dr s i):=by
 obtain ⟨m,hm,rfl⟩:=h.nat
 rw [uP hk hm];rfl
theorem afm (hk:Fu k) {s:Int} (h:U32 s) (ret:List Int→Option S):iQ k s ret=ret (fi s):=by
 obtain ⟨m,hm,rfl⟩:=h.nat
 rw [qF hk hm];rfl
theorem K7 {s:Int} (h:U32 s):pW s=fi s:=by
 obtain ⟨m,hm,rfl⟩:=h.nat
 have: ∀i:Nat,(BitVec.ofInt 32 (m:Int)).getLsbD i=m.testBit i:=by
  intro i;rw [BitVec.getLsbD,mB hm]
 unfold pW fi ints bR
 simp only [this];rfl
theorem Of (hk:Fu k) {s i b:Int} (h:U32 s) (hi:aF i) (hb:aF b) (ret:Int×Int→Option S):kQ k s i b ret=ret (cq s i b):=by
 obtain ⟨m,hm,rfl⟩:=h.nat
 by_cases h1:i<0
 ·simp only [kQ,zW,aS,cq];rw [if_pos h1,if_pos (.inl h1)]
 by_cases h2:b<0
 ·simp only [kQ,zW,aS,cq];rw [if_neg h1,if_pos h2,if_pos (.inr h2)]
 obtain ⟨n,rfl⟩: ∃n:Nat,i=n:=⟨i.toNat,by omega⟩
 obtain ⟨c,rfl⟩: ∃n:Nat,b=n:=⟨b.toNat,by omega⟩
 have:=hi.2;have:=hb.2
 rw [afN hk hm n c (by omega) (by omega),cq,if_neg (by omega)];rfl
theorem OR (hk:Fu k) {s i b:Int} (h:U32 s) (hi:aF i) (hb:aF b) (ret:Int×Int→Option S):kR k s i b ret=ret (cq s i b):=by
 obtain ⟨m,hm,rfl⟩:=h.nat
 by_cases h1:i<0
 ·simp only [kR,uT,aS,cq];rw [if_pos h1,if_pos (.inl h1)]
 by_cases h2:b<0
 ·simp only [kR,uT,aS,cq];rw [if_neg h1,if_pos h2,if_pos (.inr h2)]
 obtain ⟨n,rfl⟩: ∃n:Nat,i=n:=⟨i.toNat,by omega⟩
 obtain ⟨c,rfl⟩: ∃n:Nat,b=n:=⟨b.toNat,by omega⟩
 have:=hi.2;have:=hb.2
 rw [afS hk hm n c (by omega) (by omega),cq,if_neg (by omega)];rfl
theorem Od (hk:Fu k) {s:Int} (h:U32 s) (i:Int) (ret:Int→Option S):oq k s i ret=ret (oJ s i):=by
 obtain ⟨m,hm,rfl⟩:=h.nat
 rw [afL hk hm];rfl
theorem OP (hk:Fu k) {s:Int} (h:U32 s) (i:Int) (ret:Int→Option S):ov k s i ret=ret (oJ s i):=by
 obtain ⟨m,hm,rfl⟩:=h.nat
 rw [afR hk hm];rfl
theorem BB (hk:Fu k) (ret:Int→Option S):kP k 0 ret=ret 0:=by
 simp only [kP,F8,af hk];rfl
theorem BC (hk:Fu k) (ret:Int→Option S): ∀n:Nat,n<24→kP k ((2^n:Nat):Int) ret=ret 1:=by
 simp only [kP,F8,af hk]
 intro n hn
 match n,hn with
 |0,_|1,_|2,_|3,_|4,_|5,_|6,_|7,_|8,_|9,_|10,_|11,_|12,_|13,_|14,_|15,_|16,_|17,_|18,_|19,_|20,_|21,_|22,_|23,_=>rfl
 |n+24,h=>omega
theorem uZ (i:Int):ez 0 i=if 0≤i∧i<24 then ((2^i.toNat:Nat):Int) else 0:=by
 unfold ez
 split
 ·simp
 ·rfl
theorem aeI (hk:Fu k) (i:Int) (ret:Bool→Option S):wQ k i ret=ret (decide (0≤i∧i<24)):=by
 simp only [wQ,Pu,af hk,uE hk (s:=0) ⟨by omega,by omega⟩,uZ]
 split
 ·next h=>rw [BC hk _ _ (by omega),decide_eq_true h];rfl
 ·next h=>rw [BB hk,decide_eq_false h];rfl
theorem aeJ (hk:Fu k) (i:Int) (ret:Bool→Option S):wX k i ret=ret (decide (0≤i∧i<24)):=by
 simp only [wX,PK,af hk,uE hk (s:=0) ⟨by omega,by omega⟩,uZ]
 split
 ·next h=>rw [BC hk _ _ (by omega),decide_eq_true h];rfl
 ·next h=>rw [BB hk,decide_eq_false h];rfl
theorem U32.of {n:Nat} (h:n<4294967296):U32 (n:Int):=⟨by omega,by omega⟩
theorem withS_lt {s i:Int}:0≤ez s i∧ez s i<16777216:=by
 have h1:s.toNat&&&M24<16777216:=Nat.lt_of_le_of_lt Nat.and_le_right (by decide)
 unfold ez
 split
 ·next h=>
  have hp:2^i.toNat<2^24:=Nat.pow_lt_pow_right (by decide) (by omega)
  have:=Nat.or_lt_two_pow (n:=24) h1 hp
  have h24:(2:Nat)^24=16777216:=by decide
  omega
 ·omega
theorem withoutS_lt {s i:Int}:0≤dr s i∧dr s i<16777216:=by
 have h1:s.toNat&&&M24<16777216:=Nat.lt_of_le_of_lt Nat.and_le_right (by decide)
 unfold dr
 split
 ·have:=t_ (n:=24) (b:=2^i.toNat) h1
  have h24:(2:Nat)^24=16777216:=by decide
  omega
 ·omega
theorem W4 (m:Nat) (i:Int):jQ m i<16777216:=by
 have h1:m&&&M24<16777216:=Nat.lt_of_le_of_lt Nat.and_le_right (by decide)
 unfold jQ
 split
 ·rw [Jx]
  intro j hj
  rw [Nat.testBit_or,Bp,Nat.testBit_mul_two_pow,Nat.testBit_div_two_pow,Nat.testBit_and,f0] at hj
  simp only [Bool.or_eq_true,Bool.and_eq_true,decide_eq_true_eq] at hj
  omega
 ·exact h1
deriving instance DecidableEq for Cl
theorem Cl.ext' {a b:Cl} (h1:a.pos=b.pos) (h2:a.neg=b.neg):a=b:=by cases a;cases b;cases h1;cases h2;rfl
theorem jG (a b:Cl):((a.pos==b.pos)&&((a.neg==b.neg)&&true))=decide (a=b):=by
 rw [Bool.eq_iff_iff]
 simp only [Bool.and_true,Bool.and_eq_true,beq_iff_eq,decide_eq_true_eq]
 exact ⟨fun h=>Cl.ext' h.1 h.2,fun h=>h▸⟨rfl,rfl⟩⟩
def aU (c:Cl):Prop:=U32 c.pos∧U32 c.neg
def am (f:List Cl):Prop:= ∀c∈f,aU c
def c7 (c:Cl):Bool:=kw c.pos&&kw c.neg
def RC (c:Cl):Prop:=(0≤c.pos∧c.pos<16777216)∧(0≤c.neg∧c.neg<16777216)
theorem RC.ok {c:Cl} (h:RC c):aU c:=⟨⟨h.1.1,by have:=h.1.2;omega⟩,⟨h.2.1,by have:=h.2.2;omega⟩⟩
theorem zD {c:Cl} (h:aU c):c7 c=true↔RC c:=by
 unfold c7 kw RC
 simp only [Bool.and_eq_true,decide_eq_true_eq]
 have h1:=h.1.1;have h2:=h.2.1
 constructor
 ·rintro ⟨a,b⟩;exact ⟨⟨h1,a⟩,h2,b⟩
 ·rintro ⟨a,b⟩;exact ⟨a.2,b.2⟩
def dK (a b:Int):Int:=((a.toNat|||b.toNat:Nat):Int)
theorem p9 {a b:Int} (ha:U32 a) (hb:U32 b):be .or .u32 a b=dK a b:=by
 obtain ⟨m,hm,rfl⟩:=ha.nat;obtain ⟨n,hn,rfl⟩:=hb.nat
 rw [vc hm hn];rfl
def cL (a b:Cl):Cl:=⟨dK a.pos b.pos,dK a.neg b.neg⟩
def dg (a b:Cl):Bool:=decide (cL a b=a)
def bK (c:Cl):Bool:= !decide (c.pos.toNat&&&c.neg.toNat=0)
theorem DM {a b:Int} (ha:U32 a) (hb:U32 b):U32 (dK a b):=by
 obtain ⟨m,hm,rfl⟩:=ha.nat;obtain ⟨n,hn,rfl⟩:=hb.nat
 exact U32.of (Nat.or_lt_two_pow (n:=32) hm hn)
theorem Lp {a b:Int} (ha:0≤a∧a<16777216) (hb:0≤b∧b<16777216):0≤dK a b∧dK a b<16777216:=by
 unfold dK
 have:=Nat.or_lt_two_pow (n:=24) (x:=a.toNat) (y:=b.toNat) (by omega) (by omega)
 omega
theorem yI {a b:Cl} (ha:aU a) (hb:aU b):aU (cL a b):=⟨DM ha.1 hb.1,DM ha.2 hb.2⟩
theorem K_ {a b:Cl} (ha:RC a) (hb:RC b):RC (cL a b):=⟨Lp ha.1 hb.1,Lp ha.2 hb.2⟩
theorem Oq (hk:Fu k) {c:Cl} (h:aU c) (ret:Bool→Option S):si k c ret=ret (c7 c):=by
 simp only [si,Ps,af hk,Oi hk h.1,Oi hk h.2,c7,cx]
 cases kw c.pos<;>rfl
theorem OM (hk:Fu k) {c:Cl} (h:aU c) (ret:Bool→Option S):sG k c ret=ret (c7 c):=by
 simp only [sG,Ql,af hk,OU hk h.1,OU hk h.2,c7,cx]
 cases kw c.pos<;>rfl
theorem E3 (hk:Fu k) {a b:Cl} (ha:aU a) (hb:aU b) (ret:Cl→Option S):oe k a b ret=ret (cL a b):=by
 simp only [oe,Pr,p9 ha.1 hb.1,p9 ha.2 hb.2];rfl
theorem aeF (hk:Fu k) {a b:Cl} (ha:aU a) (hb:aU b) (ret:Bool→Option S):wM k a b ret=ret (dg a b):=by
 simp only [wM,Pm,af hk,E3 hk ha hb,jG];rfl
theorem ae8 (hk:Fu k) {a b:Cl} (ha:aU a) (hb:aU b) (ret:Bool→Option S):xk k a b ret=ret (dg a b):=by
 have e:dg a b=((dK a.pos b.pos==a.pos)&&((dK a.neg b.neg==a.neg)&&true)):=(jG (cL a b) a).symm
 simp only [xk,Qh,p9 ha.1 hb.1,p9 ha.2 hb.2,cx,e]
 cases dK a.pos b.pos==a.pos<;>cases dK a.neg b.neg==a.neg<;>rfl
theorem Oo (hk:Fu k) {c:Cl} (h:aU c) (ret:Bool→Option S):sh k c ret=ret (bK c):=by
 obtain ⟨p,n⟩:=c
 obtain ⟨m,hm,rfl⟩:=h.1.nat;obtain ⟨n,hn,rfl⟩:=h.2.nat
 simp only [sh,Pn,kK hm hn,bK,Int.toNat_natCast]
 congr 2
 rw [Bool.eq_iff_iff];simp only [beq_iff_eq,decide_eq_true_eq];omega
open Classical in
theorem aau (hk:Fu k) {c:Cl} (h:aU c) (ret:Bool→Option S): ∀ (d i m:Nat),i+d=24→d<m→
  pk k ret c m (i:Int)=ret (decide (∃j,i≤j∧j<24∧c.pos.toNat.testBit j=true∧c.neg.toNat.testBit j=true)):=by
 intro d
 induction d with
 |zero=>
  intro i m e hm
  obtain ⟨m,rfl,hm⟩:=ak hm
  simp only [pk,vL,aS]
  rw [if_neg (by omega),decide_eq_false]
  rintro ⟨j,h1,h2,_⟩;omega
 |succ d ih=>
  intro i m e hm
  obtain ⟨m,rfl,hm⟩:=ak hm
  have e2:(i:Int)+1=((i+1:Nat):Int):=by simp
  simp only [pk,vL,af hk,iy hk h.1,iy hk h.2,cx,decide_eq_true_eq]
  rw [if_pos (by omega),dB (by omega) (by omega),e2,ih (i+1) m (by omega) (by omega)]
  have hp:bN c.pos (i:Int)=c.pos.toNat.testBit i:=by unfold bN;rw [decide_eq_true (by omega),Bool.true_and];rfl
  have hn:bN c.neg (i:Int)=c.neg.toNat.testBit i:=by unfold bN;rw [decide_eq_true (by omega),Bool.true_and];rfl
  rw [hp,hn]
  have step: ¬(c.pos.toNat.testBit i=true∧c.neg.toNat.testBit i=true)→((∃j,i+1≤j∧j<24∧c.pos.toNat.testBit j=true∧c.neg.toNat.testBit j=true)↔(∃j,i≤j∧j<24∧c.pos.toNat.testBit j=true∧c.neg.toNat.testBit j=true)):=by
   intro hne
   constructor
   ·rintro ⟨j,a,b⟩;exact ⟨j,by omega,b⟩
   ·rintro ⟨j,a,b⟩
    refine ⟨j, ?_,b⟩
    have:j≠i:=by rintro rfl;exact hne b.2
    omega
  by_cases h1:c.pos.toNat.testBit i=true
  ·by_cases h2:c.neg.toNat.testBit i=true
   ·rw [if_pos h1,if_pos h2,decide_eq_true]
    exact ⟨i,by omega,by omega,h1,h2⟩
   ·rw [if_pos h1,if_neg h2];simp only [step (fun h=>h2 h.2)]
  ·rw [if_neg h1];simp only [step (fun h=>h1 h.1)]
theorem OK (hk:Fu k) {c:Cl} (h:RC c) (ret:Bool→Option S):sE k c ret=ret (bK c):=by
 simp only [sE,Ge]
 have:=aau hk h.ok ret 24 0 k (by omega) (by have:4294967296≤k:=hk;omega)
 refine Eq.trans this ?_
 congr 1
 rw [bK,Bool.eq_iff_iff]
 simp only [decide_eq_true_eq,Bool.not_eq_true',decide_eq_false_iff_not]
 constructor
 ·rintro ⟨j,_,_,h1,h2⟩ h0
  have:(c.pos.toNat&&&c.neg.toNat).testBit j=true:=by rw [Nat.testBit_and,h1,h2];rfl
  rw [h0,Nat.zero_testBit] at this;cases this
 ·intro h0
  apply Classical.byContradiction
  intro hne
  apply h0
  apply Nat.eq_of_testBit_eq
  intro j
  rw [Nat.zero_testBit,Nat.testBit_and]
  cases h1:c.pos.toNat.testBit j with
  |false=>rfl
  |true=>
   cases h2:c.neg.toNat.testBit j with
   |false=>rfl
   |true=>
    have hlt:c.pos.toNat<16777216:=by have:=h.1;omega
    exact absurd ⟨j,by omega,n4 hlt h1,h1,h2⟩ hne
theorem agK (s:Int) (x:Nat) (hx:x<24) (j:Nat):(ez s (x:Int)).toNat.testBit j=((s.toNat.testBit j&&decide (j<24))||decide (j=x)):=by
 unfold ez
 rw [if_pos (by omega),Int.toNat_natCast,Int.toNat_natCast,Nat.testBit_or,Nat.testBit_and,f0,Nat.testBit_two_pow,Bool.eq_iff_iff]
 simp only [Bool.or_eq_true,Bool.and_eq_true,decide_eq_true_eq]
 constructor<;>(rintro (h|h);exact .inl h;exact .inr h.symm)
theorem ab4 (hk:Fu k) (ret:Int→Option S): ∀ (r p:List Nat) (m:Nat) (a:Int),(p++r).length≤24→(∀x∈r,x<24)→r.length<m→U32 a→
  ∃v:Int,U32 v∧(∀j,v.toNat.testBit j=((a.toNat.testBit j&&(decide (r=[])||decide (j<24)))||decide (j∈r)))∧po k ret (ints (p++r)) m a (p.length:Int)=ret v:=by
 intro r
 induction r with
 |nil=>
  intro p m a hl h24 hm ha
  obtain ⟨m,rfl,hm⟩:=ak hm
  refine ⟨a,ha,fun j=>by simp, ?_⟩
  simp only [po,vP,aS,dm]
  rw [List.append_nil,if_neg (by omega)]
 |cons x r ih=>
  intro p m a hl h24 hm ha
  obtain ⟨m,rfl,hm⟩:=ak hm
  have hx:=h24 x (by simp)
  have hl':p.length+(r.length+1)≤24:=by simpa using hl
  have hu:U32 (ez a (x:Int)):=⟨withS_lt.1,by have:=(withS_lt (s:=a) (i:=(x:Int))).2;omega⟩
  obtain ⟨v,hv,hb,hr⟩:=ih (p++[x]) m (ez a (x:Int)) (by simpa using hl') (fun z hz=>h24 z (by simp [hz])) (by simpa using hm) hu
  refine ⟨v,hv,fun j=> ?_, ?_⟩
  ·rw [hb,agK _ _ hx,Bool.eq_iff_iff]
   simp only [Bool.or_eq_true,Bool.and_eq_true,decide_eq_true_eq,List.mem_cons,reduceCtorEq,decide_false,Bool.false_or]
   constructor
   ·rintro (⟨h|h,_⟩|h)
    ·exact .inl h
    ·exact .inr (.inl h)
    ·exact .inr (.inr h)
   ·rintro (h|h|h)
    ·exact .inl ⟨.inl h,.inr h.2⟩
    ·exact .inl ⟨.inr h,.inr (by omega)⟩
    ·exact .inr h
  ·have e0:ints (p++x::r)=ints p++(x:Int)::ints r:=by simp [ints]
   have el:(p.length:Int)=((ints p).length:Int):=by rw [dm]
   simp only [po,vP,aS,af hk]
   rw [if_pos (by rw [dm,List.length_append,List.length_cons];omega),e0,el,tp]
   simp only [Option.bind_some,afr hk ha]
   have ew:IntKind.wrap .i64 (((ints p).length:Int)+1)=(((p++[x]).length:Nat):Int):=by
    rw [dm,dB (by omega) (by omega)];simp
   rw [ew,←hr]
   congr 1
   simp [ints]
theorem OY (hk:Fu k) {a b:Int} (ha:0≤a∧a<16777216) (hb:0≤b∧b<16777216) (ret:Int→Option S):sH k a b ret=ret (dK a b):=by
 have ha':U32 a:=⟨ha.1,by omega⟩
 have hb':U32 b:=⟨hb.1,by omega⟩
 simp only [sH,Gi,af hk,afm hk hb',fi]
 obtain ⟨v,hv,hbit,hr⟩:=ab4 hk ret (bR b.toNat) [] k a (by have:=f8 b.toNat;simpa using this) (fun x hx=>(mem_bitsN.1 hx).1) (by have:=f8 b.toNat;have:4294967296≤k:=hk;omega) ha'
 refine Eq.trans hr ?_
 congr 1
 have:v.toNat=a.toNat|||b.toNat:=by
  apply Nat.eq_of_testBit_eq
  intro j
  rw [hbit,Nat.testBit_or,Bool.eq_iff_iff]
  simp only [Bool.or_eq_true,Bool.and_eq_true,decide_eq_true_eq,mem_bitsN]
  constructor
  ·rintro (h|h)
   ·exact .inl h.1
   ·exact .inr h.2
  ·rintro (h|h)
   ·exact .inl ⟨h,.inr (n4 (m:=a.toNat) (by omega) h)⟩
   ·exact .inr ⟨n4 (m:=b.toNat) (by omega) h,h⟩
 have hv0:=hv.1
 unfold dK
 omega
theorem OL (hk:Fu k) {a b:Cl} (ha:RC a) (hb:RC b) (ret:Cl→Option S):sF k a b ret=ret (cL a b):=by
 simp only [sF,Qk,af hk,OY hk ha.1 hb.1,OY hk ha.2 hb.2];rfl
def cX (c:Cl) (i b:Int):Cl×Int:=
 if c7 c then
  if (cq c.pos i b).2=0 then if (cq c.neg i b).2=0 then (⟨(cq c.pos i b).1,(cq c.neg i b).1⟩,0) else (⟨0,0⟩,(cq c.neg i b).2)
  else (⟨0,0⟩,(cq c.pos i b).2)
 else (⟨0,0⟩,2)
theorem aeG (hk:Fu k) {c:Cl} {i b:Int} (h:aU c) (hi:aF i) (hb:aF b) (ret:Cl×Int→Option S):wP k c i b ret=ret (cX c i b):=by
 simp only [wP,Pq,af hk,Oq hk h,Of hk h.1 hi hb,Of hk h.2 hi hb,cx,cX,Bool.not_eq_true',beq_eq_false_iff_ne]
 cases c7 c<;>simp only [reduceIte,Bool.false_eq_true,Bool.true_eq_false]
 by_cases h1:(cq c.pos i b).2=0
 ·by_cases h2:(cq c.neg i b).2=0<;>simp [h1,h2]
 ·simp [h1]
theorem ae9 (hk:Fu k) {c:Cl} {i b:Int} (h:aU c) (hi:aF i) (hb:aF b) (ret:Cl×Int→Option S):xo k c i b ret=ret (cX c i b):=by
 simp only [xo,Qj,af hk,OM hk h,OR hk h.1 hi hb,OR hk h.2 hi hb,cx,cX,Bool.not_eq_true',beq_eq_false_iff_ne]
 cases c7 c<;>simp only [reduceIte,Bool.false_eq_true,Bool.true_eq_false]
 by_cases h1:(cq c.pos i b).2=0
 ·by_cases h2:(cq c.neg i b).2=0<;>simp [h1,h2]
 ·simp [h1]
end Go.Proofs.YtapmagaejigpnaaGreatDoor
namespace Go.Proofs.YtapmagaejigpnaaGreatDoor
open Go PI
set_option linter.unusedVariables false
set_option linter.unusedSimpArgs false
set_option maxRecDepth 20000
variable {S:Type} {k:Nat}
def fP (a b:Cl):Prop:=a.pos<b.pos∨(a.pos=b.pos∧a.neg<b.neg)
def pV (a b:Cl):Bool:=decide (a.pos<b.pos)||(a.pos==b.pos&&decide (a.neg<b.neg))
theorem lessB_iff {a b:Cl}:pV a b=true↔fP a b:=by unfold pV fP;simp
theorem Jy {a b c:Cl} (h:fP a b) (h':fP b c):fP a c:=by unfold fP at*;omega
theorem Dk {a:Cl} (h:fP a a):False:=by unfold fP at h;omega
theorem acs (a b:Cl):fP a b∨a=b∨fP b a:=by
 by_cases h:a=b
 ·exact .inr (.inl h)
 ·have: ¬(a.pos=b.pos∧a.neg=b.neg):=fun h'=>h (Cl.ext' h'.1 h'.2)
  unfold fP;omega
abbrev kJ (l:List Cl):Prop:=l.Pairwise fP
theorem zR: ∀ {a b:List Cl},kJ a→kJ b→(∀c,c∈a↔c∈b)→a=b:=by
 intro a
 induction a with
 |nil=>
  intro b _ _ h
  cases b with
  |nil=>rfl
  |cons y b=>exact absurd ((h y).2 (by simp)) (by simp)
 |cons x a ih=>
  intro b ha hb h
  cases b with
  |nil=>exact absurd ((h x).1 (by simp)) (by simp)
  |cons y b=>
   have ha':=List.pairwise_cons.1 ha;have hb':=List.pairwise_cons.1 hb
   have hxy:x=y:=by
    rcases List.mem_cons.1 ((h x).1 (by simp)) with h1|h1
    ·exact h1
    ·rcases List.mem_cons.1 ((h y).2 (by simp)) with h2|h2
     ·exact h2.symm
     ·exact absurd (Jy (ha'.1 y h2) (hb'.1 x h1)) Dk
   subst hxy
   congr 1
   refine ih ha'.2 hb'.2 fun c=>⟨fun hc=> ?_,fun hc=> ?_⟩
   ·rcases List.mem_cons.1 ((h c).1 (by simp [hc])) with rfl|h1
    ·exact absurd (ha'.1 _ hc) Dk
    ·exact h1
   ·rcases List.mem_cons.1 ((h c).2 (by simp [hc])) with rfl|h1
    ·exact absurd (hb'.1 _ hc) Dk
    ·exact h1
def dH (x:Cl):List Cl→List Cl
 |[]=>[x]
 |y::r=>if pV y x then y::dH x r else if y=x then y::r else x::y::r
theorem mem_insC {x c:Cl}: ∀ {l:List Cl},c∈dH x l↔c=x∨c∈l:=by
 intro l
 induction l with
 |nil=>simp [dH]
 |cons y r ih=>
  unfold dH
  split
  ·rw [List.mem_cons,ih,List.mem_cons];exact ⟨fun h=>by rcases h with h|h|h<;>simp [h],fun h=>by rcases h with h|h|h<;>simp [h]⟩
  ·split
   ·next h=>subst h;rw [List.mem_cons];exact ⟨fun h=> .inr h,fun h=>by rcases h with h|h;exact .inl h;exact h⟩
   ·rw [List.mem_cons]
theorem ZI {x:Cl}: ∀ {l:List Cl},kJ l→kJ (dH x l):=by
 intro l
 induction l with
 |nil=>intro _;simp [dH]
 |cons y r ih=>
  intro h
  have h':=List.pairwise_cons.1 h
  unfold dH
  split
  ·next hl=>
   refine List.pairwise_cons.2 ⟨fun c hc=> ?_,ih h'.2⟩
   rcases mem_insC.1 hc with rfl|hc
   ·exact lessB_iff.1 hl
   ·exact h'.1 c hc
  ·next hl=>
   split
   ·exact h
   ·next hne=>
    have hxy:fP x y:=by
     rcases acs y x with h1|h1|h1
     ·exact absurd (lessB_iff.2 h1) hl
     ·exact absurd h1 hne
     ·exact h1
    refine List.pairwise_cons.2 ⟨fun c hc=> ?_,h⟩
    rcases List.mem_cons.1 hc with rfl|hc
    ·exact hxy
    ·exact Jy hxy (h'.1 c hc)
theorem IX {x:Cl}: ∀ {l:List Cl},(dH x l).length≤l.length+1:=by
 intro l
 induction l with
 |nil=>simp [dH]
 |cons y r ih=>
  unfold dH
  split
  ·simp only [List.length_cons];omega
  ·split<;>simp
def bP (l:List Cl) (c:Cl):Bool:=l.all fun d=>decide (d=c)|| !dg c d
def g4 (o l:List Cl):List Cl:=l.foldl (fun o c=>dH c o) o
def dn (l:List Cl):List Cl:=g4 [] (l.filter (bP l))
theorem acz {c:Cl}: ∀ {l o:List Cl},c∈g4 o l↔c∈l∨c∈o:=by
 intro l
 induction l with
 |nil=>intro o;simp [g4]
 |cons x l ih=>
  intro o
  show c∈g4 (dH x o) l↔_
  rw [ih,mem_insC,List.mem_cons]
  constructor
  ·rintro (h|h|h)
   ·exact .inl (.inr h)
   ·exact .inl (.inl h)
   ·exact .inr h
  ·rintro ((h|h)|h)
   ·exact .inr (.inl h)
   ·exact .inl h
   ·exact .inr (.inr h)
theorem ZH: ∀ {l o:List Cl},kJ o→kJ (g4 o l):=by
 intro l
 induction l with
 |nil=>intro o h;exact h
 |cons x l ih=>intro o h;exact ih (ZI h)
theorem ZG: ∀ {l o:List Cl},(g4 o l).length≤o.length+l.length:=by
 intro l
 induction l with
 |nil=>intro o;simp [g4]
 |cons x l ih=>
  intro o
  have h1:(g4 (dH x o) l).length≤(dH x o).length+l.length:=ih
  have h2:= @IX x o
  show (g4 (dH x o) l).length≤_
  rw [List.length_cons];omega
theorem pX (l:List Cl):kJ (dn l):=ZH List.Pairwise.nil
theorem mem_mins {l:List Cl} {c:Cl}:c∈dn l↔c∈l∧bP l c=true:=by
 rw [dn,acz,List.mem_filter];simp
theorem acC (l:List Cl):(dn l).length≤l.length:=by
 have h1:= @ZG (l.filter (bP l)) []
 have h2:=List.length_filter_le (bP l) l
 simp only [List.length_nil] at h1
 unfold dn;omega
theorem Le {l l':List Cl} (h: ∀c,c∈l↔c∈l') (c:Cl):bP l c=bP l' c:=by
 rw [Bool.eq_iff_iff];simp only [bP,List.all_eq_true]
 exact ⟨fun f d hd=>f d ((h d).2 hd),fun f d hd=>f d ((h d).1 hd)⟩
theorem acB {l l':List Cl} (h: ∀c,c∈l↔c∈l'):dn l=dn l':=
 zR (pX l) (pX l') fun c=>by rw [mem_mins,mem_mins,h,Le h]
def bk (l:List Cl):List Cl×Int:=if l.all c7 then if (dn l).length>64 then ([],3) else (dn l,0) else ([],2)
theorem ab_ {l l':List Cl} (h: ∀c,c∈l↔c∈l'):bk l=bk l':=by
 have:l.all c7=l'.all c7:=by
  rw [Bool.eq_iff_iff];simp only [List.all_eq_true]
  exact ⟨fun f d hd=>f d ((h d).2 hd),fun f d hd=>f d ((h d).1 hd)⟩
 unfold bk;rw [this,acB h]
theorem aeA (hk:Fu k) (a b:Cl) (ret:Bool→Option S):xl k a b ret=ret (pV a b):=by
 simp only [xl,Qi,cx,pV]
 cases decide (a.pos<b.pos)<;>cases a.pos==b.pos<;>rfl
theorem abi (hk:Fu k) (ret:Bool→Option S) {c:Cl} (hc:aU c) {l:List Cl} (hl:am l) (hlen:l.length<4294967296):
  ∀ (r p:List Cl) (m:Nat),l=p++r→r.length<m→pn k ret c l m (p.length:Int)=ret (bP r c):=by
 intro r
 induction r with
 |nil=>
  intro p m h hm
  obtain ⟨m,rfl,hm'⟩:=ak hm
  simp only [pn,vO,aA h,ad];rfl
 |cons x r ih=>
  intro p m h hm
  obtain ⟨m,rfl,hm'⟩:=ak hm
  obtain ⟨e1,e2,e3,e4⟩:=az h (by omega)
  have hx:aU x:=hl x (by rw [h];simp)
  have:=ih (p++[x]) m e4 hm'
  simp only [pn,vO,e1,ae,e2,Option.bind_some,jG,af hk,ae8 hk hc hx,e3,this,cx,bP,List.all_cons]
  cases decide (x=c)<;>cases dg c x<;>rfl
theorem aeZ (hk:Fu k) {c:Cl} (hc:aU c) {l:List Cl} (hl:am l) (hlen:l.length<4294967296) (ret:Bool→Option S):xp k l c ret=ret (bP l c):=by
 simp only [xp,Gg]
 exact abi hk ret hc hl hlen l [] k rfl (by have:4294967296≤k:=hk;omega)
theorem n8 {S:Type} {p:Prop} [Decidable p] (h:p) (f:Unit→Option S):Option.bind (bS p) f=f ():=iF p h f
theorem abn (hk:Fu k) (ret:List Cl×Int→Option S) (rec1:List Cl→Int→Option S) {l:List Cl} {x:Cl} {i:Int} (hx:al l i=some x) {out:List Cl} (hout:out.length<4294967296):
  ∀ (r p:List Cl) (m:Nat),out=p++r→r.length<m→m8 k ret rec1 l out i m (p.length:Int)=rec1 (p++dH x r) (IntKind.wrap .i64 (i+1)):=by
 intro r
 induction r with
 |nil=>
  intro p m h hm
  obtain ⟨m,rfl,hm'⟩:=ak hm
  have hp:out=p:=by rw [h,List.append_nil]
  subst hp
  have e:(((out.length:Int))==((out.length:Int)))=true:=by simp
  simp only [m8,vM,aA h,ad,e,ae]
  rw [n8 (by omega),aO (by simp;omega),hx]
  simp only [Option.bind_some]
  rw [aO (by simp;omega),n8 (by omega),aO (by simp;omega)]
  simp [dH]
 |cons y r ih=>
  intro p m h hm
  obtain ⟨m,rfl,hm'⟩:=ak hm
  obtain ⟨e1,e2,e3,e4⟩:=az h (by omega)
  have hpl:p.length<out.length:=by rw [h];simp
  have e:(((p.length:Int))==((out.length:Int)))=false:=by
   rw [beq_eq_false_iff_ne];omega
  have:=ih (p++[y]) m e4 hm'
  simp only [m8,vM,e1,ae,e2,hx,Option.bind_some,af hk,aeA hk,e,ad,jG]
  rw [e3,this]
  cases hb:pV y x with
  |true=>rw [ae,dH,if_pos hb,List.append_assoc,List.singleton_append]
  |false=>
   rw [ad,dH,if_neg (by rw [hb];decide)]
   by_cases hyx:y=x
   ·rw [if_pos hyx,decide_eq_true hyx,Bool.not_true,ad,←h]
   ·rw [if_neg hyx,decide_eq_false hyx,Bool.not_false,ae]
    have ht:List.take p.length out=p:=by rw [h];simp
    have hd:List.drop p.length out=y::r:=by rw [h];simp
    rw [n8 (by omega),Int.toNat_natCast,ht,hd,aO (by simp;omega),aO (by simp;omega),n8 (by omega),aO (by rw [h] at hout;simp at hout ⊢;omega)]
    simp
theorem abm (hk:Fu k) (ret:List Cl×Int→Option S) {l:List Cl} (hl:am l) (hlen:l.length<2147483648):
  ∀ (r p:List Cl) (m:Nat) (o:List Cl),l=p++r→r.length<m→o.length≤p.length→
  j8 k ret l m o (p.length:Int)=ret (if (g4 o (r.filter (bP l))).length>64 then ([],3) else (g4 o (r.filter (bP l)),0)):=by
 intro r
 induction r with
 |nil=>
  intro p m o h hm ho
  obtain ⟨m,rfl,hm'⟩:=ak hm
  simp only [j8,rl,aA h,ad,aS]
  show _=ret (if o.length>64 then _ else (o,0))
  by_cases h64:o.length>64
  ·rw [if_pos (by omega),if_pos h64]
  ·rw [if_neg (by omega),if_neg h64]
 |cons x r ih=>
  intro p m o h hm ho
  obtain ⟨m,rfl,hm'⟩:=ak hm
  obtain ⟨e1,e2,e3,e4⟩:=az h (by omega)
  have hx:aU x:=hl x (by rw [h];simp)
  have hk':4294967296≤k:=hk
  have hpl:p.length<l.length:=by rw [h];simp
  simp only [j8,rl,e1,ae,e2,Option.bind_some,af hk,aeZ hk hx hl (by omega)]
  have hplace:=abn hk ret (j8 k ret l m) e2 (out:=o) (by omega) o [] k rfl (by omega)
  simp only [List.length_nil,List.nil_append] at hplace
  rw [show (0:Int)=((0:Nat):Int) from rfl,hplace,e3]
  cases hn:bP l x with
  |true=>
   rw [Bool.not_true,ad,List.filter_cons_of_pos hn]
   exact ih (p++[x]) m (dH x o) e4 hm' (by have:= @IX x o;simp;omega)
  |false=>
   rw [Bool.not_false,ae,List.filter_cons_of_neg (by rw [hn];decide)]
   exact ih (p++[x]) m o e4 hm' (by simp;omega)
theorem abJ (hk:Fu k) (ret:List Cl×Int→Option S) {l:List Cl} (hl:am l) (hlen:l.length<2147483648):
  ∀ (r p:List Cl) (m:Nat),l=p++r→r.length<m→
  pm k ret l m (p.length:Int)=ret (if r.all c7 then if (dn l).length>64 then ([],3) else (dn l,0) else ([],2)):=by
 intro r
 induction r with
 |nil=>
  intro p m h hm
  obtain ⟨m,rfl,hm'⟩:=ak hm
  simp only [pm,rk,aA h,ad,List.all_nil,if_true]
  have hk':4294967296≤k:=hk
  exact abm hk ret hl hlen l [] k [] rfl (by omega) (by simp)
 |cons x r ih=>
  intro p m h hm
  obtain ⟨m,rfl,hm'⟩:=ak hm
  obtain ⟨e1,e2,e3,e4⟩:=az h (by omega)
  have hx:aU x:=hl x (by rw [h];simp)
  simp only [pm,rk,e1,ae,e2,Option.bind_some,af hk,OM hk hx,e3,ih (p++[x]) m e4 hm']
  by_cases hr:c7 x=true
  ·have:(x::r).all c7=r.all c7:=by rw [List.all_cons,hr,Bool.true_and]
   rw [hr,Bool.not_true,ad,this]
  ·rw [Bool.not_eq_true] at hr
   have:(x::r).all c7=false:=by rw [List.all_cons,hr,Bool.false_and]
   rw [hr,Bool.not_false,ae,this,if_neg (by decide)]
theorem nM (hk:Fu k) {l:List Cl} (hl:am l) (hlen:l.length<2147483648) (ret:List Cl×Int→Option S):iV k l ret=ret (bk l):=by
 simp only [iV,Gf]
 exact abJ hk ret hl hlen l [] k rfl (by have:4294967296≤k:=hk;omega)
theorem aez (hk:Fu k) {d c:Cl} (hd:aU d) (hc:aU c) (ret:Bool→Option S):wO k d c ret=ret (!(decide (d=c)|| !dg c d)):=by
 simp only [wO,Pp,jG,af hk,aeF hk hc hd,cx]
 have:decide (c=d)=decide (d=c):=by rw [Bool.eq_iff_iff];simp [eq_comm]
 rw [this]
 cases decide (d=c)<;>cases dg c d<;>rfl
end Go.Proofs.YtapmagaejigpnaaGreatDoor
namespace Go.Proofs.YtapmagaejigpnaaGreatDoor
open Go PI
set_option linter.unusedVariables false
set_option linter.unusedSimpArgs false
set_option maxRecDepth 20000
variable {S:Type} {k:Nat}
theorem aa8 (hk:Fu k) (ret:Int→Option S) {c:Cl} (hc:aU c) {l:List Cl} (hl:am l) (hlen:l.length<2147483648):
  ∀ (r p:List Cl) (m:Nat),l=p++r→r.length<m→ ∃v:Int,decide (v≥0)= !bP r c∧pL k ret c l m (p.length:Int)=ret v:=by
 intro r
 induction r with
 |nil=>
  intro p m h hm
  obtain ⟨m,rfl,hm'⟩:=ak hm
  exact ⟨-1,rfl,by simp only [pL,wq,aA h,ad]⟩
 |cons x r ih=>
  intro p m h hm
  obtain ⟨m,rfl,hm'⟩:=ak hm
  obtain ⟨e1,e2,e3,e4⟩:=az h (by omega)
  have hx:aU x:=hl x (by rw [h];simp)
  obtain ⟨v,hv,hr⟩:=ih (p++[x]) m e4 hm'
  have e0:bP (x::r) c=((decide (x=c)|| !dg c x)&&bP r c):=by simp [bP]
  simp only [pL,wq,e1,ae,e2,Option.bind_some,af hk,aez hk hx hc,e3,hr]
  cases hb:(decide (x=c)|| !dg c x) with
  |true=>exact ⟨v,by rw [e0,hb,Bool.true_and,hv],by rw [Bool.not_true,ad]⟩
  |false=>exact ⟨(p.length:Int),by rw [e0,hb,Bool.false_and];simp,by rw [Bool.not_false,ae]⟩
theorem ae0 (hk:Fu k) {c:Cl} (hc:aU c) {l:List Cl} (hl:am l) (hlen:l.length<2147483648) (ret:Bool→Option S):wN k c l ret=ret (!bP l c):=by
 obtain ⟨v,hv,hr⟩:=aa8 hk (fun r1:Int=>ret (decide (r1≥0))) hc hl hlen l [] k rfl (by have:4294967296≤k:=hk;omega)
 simp only [wN,Po,af hk,B3,QW,B5,GO]
 exact hr.trans (by rw [hv])
theorem aba (hk:Fu k) (ret:List Cl×Int→Option S) {l:List Cl} (hl:am l) (hlen:l.length<2147483648):
  ∀ (r p:List Cl) (m:Nat) (q:List Cl),l=p++r→r.length<m→q.length≤p.length→
  mW k ret l m (p.length:Int) q=ret (if (q++r.filter (bP l)).length>64 then ([],3) else (sortCl (q++r.filter (bP l)),0)):=by
 intro r
 induction r with
 |nil=>
  intro p m q h hm hq
  obtain ⟨m,rfl,hm'⟩:=ak hm
  simp only [mW,ve,aA h,ad,aS,List.filter_nil,List.append_nil]
  by_cases h64:q.length>64
  ·rw [if_pos (by omega),if_pos h64]
  ·rw [if_neg (by omega),if_neg h64]
 |cons x r ih=>
  intro p m q h hm hq
  obtain ⟨m,rfl,hm'⟩:=ak hm
  obtain ⟨e1,e2,e3,e4⟩:=az h (by omega)
  have hx:aU x:=hl x (by rw [h];simp)
  have hpl:p.length<l.length:=by rw [h];simp
  simp only [mW,ve,e1,ae,e2,Option.bind_some,af hk,ae0 hk hx hl hlen,Bool.not_not]
  rw [e3]
  cases hn:bP l x with
  |true=>
   rw [ae,aO (by simp;omega),List.filter_cons_of_pos hn,ih (p++[x]) m (q++[x]) e4 hm' (by simp;omega)]
   simp
  |false=>
   rw [ad,List.filter_cons_of_neg (by rw [hn];decide)]
   exact ih (p++[x]) m q e4 hm' (by simp;omega)
theorem yb (a b:Cl):eb VV ET.C a b=decide (a=b):=by
 have e:eb VV ET.C a b=((a.pos==b.pos)&&((a.neg==b.neg)&&true)):=by
  obtain ⟨p,n⟩:=a;obtain ⟨p',n'⟩:=b
  show eb VV ET.C _ _=((p==p')&&((n==n')&&true))
  unfold eb
  simp [VV,dy,PV.eqvI]
 rw [e,jG]
theorem acA (l:List (Cl×Bool)) (x y:Cl):dJ VV ET.C (fj VV ET.C l x true) y=if x=y then some true else dJ VV ET.C l y:=by
 induction l with
 |nil=>
  show (bif eb VV ET.C x y then some true else .none)=_
  rw [yb];by_cases h:x=y<;>simp [h,dJ]
 |cons a r ih=>
  obtain ⟨z,b⟩:=a
  show dJ VV ET.C (bif eb VV ET.C z x then (z,true)::r else (z,b)::fj VV ET.C r x true) y=_
  rw [yb]
  by_cases h:z=x
  ·subst h
   rw [decide_eq_true rfl,cond_true]
   show (bif eb VV ET.C z y then some true else dJ VV ET.C r y)=if z=y then some true else (bif eb VV ET.C z y then some b else dJ VV ET.C r y)
   rw [yb];by_cases h':z=y<;>simp [h']
  ·rw [decide_eq_false h,cond_false]
   show (bif eb VV ET.C z y then some b else dJ VV ET.C (fj VV ET.C r x true) y)=if x=y then some true else (bif eb VV ET.C z y then some b else dJ VV ET.C r y)
   rw [yb,ih]
   by_cases h':z=y
   ·have hxy: ¬x=y:=fun e=>h (h'.trans e.symm)
    simp [h',hxy]
   ·simp [h']
def i_ (o:List Cl):List Cl→List Cl
 |[]=>o
 |x::r=>if x∈o then i_ o r else i_ (o++[x]) r
theorem ahx {c:Cl}: ∀ {r o:List Cl},c∈i_ o r↔c∈o∨c∈r:=by
 intro r
 induction r with
 |nil=>intro o;simp [i_]
 |cons x r ih=>
  intro o
  unfold i_
  split
  ·next h=>
   rw [ih,List.mem_cons]
   constructor
   ·rintro (h'|h');exact .inl h';exact .inr (.inr h')
   ·rintro (h'|h'|h');exact .inl h';exact .inl (h'▸h);exact .inr h'
  ·rw [ih,List.mem_append,List.mem_singleton,List.mem_cons,or_assoc]
theorem ag1: ∀ {r o:List Cl},o.Nodup→(i_ o r).Nodup:=by
 intro r
 induction r with
 |nil=>intro o h;exact h
 |cons x r ih=>
  intro o h
  unfold i_
  split
  ·exact ih h
  ·next hx=>exact ih (List.nodup_append.2 ⟨h,by simp,fun a ha b hb=>by simp at hb;subst hb;rintro rfl;exact hx ha⟩)
theorem ag0: ∀ {r o:List Cl},(i_ o r).length≤o.length+r.length:=by
 intro r
 induction r with
 |nil=>intro o;simp [i_]
 |cons x r ih=>
  intro o
  unfold i_
  split
  ·have:= @ih o;simp only [List.length_cons];omega
  ·have:= @ih (o++[x]);simp only [List.length_cons,List.length_append,List.length_nil] at this ⊢;omega
theorem afG {l o:List Cl} (hn:o.Nodup) (h: ∀c,c∈o↔c∈l):sortCl (o.filter (bP o))=dn l∧(o.filter (bP o)).length=(dn l).length:=by
 have hp:(sortCl (o.filter (bP o))).Perm (o.filter (bP o)):=List.mergeSort_perm _ _
 have hs:(sortCl (o.filter (bP o))).Pairwise (fun a b=>kL a b=true):=
  List.pairwise_mergeSort (le:=kL) (fun a b c h1 h2=>by
   unfold kL at*
   simp only [Bool.or_eq_true,Bool.and_eq_true,decide_eq_true_eq,beq_iff_eq] at*;omega) (fun a b=>by
   unfold kL
   simp only [Bool.or_eq_true,Bool.and_eq_true,decide_eq_true_eq,beq_iff_eq];omega) _
 have hnd:(sortCl (o.filter (bP o))).Nodup:=hp.nodup_iff.2 (hn.filter _)
 have hsorted:kJ (sortCl (o.filter (bP o))):=by
  refine (hs.and hnd).imp fun {a b} h=> ?_
  have h1:=h.1
  unfold kL at h1
  simp only [Bool.or_eq_true,Bool.and_eq_true,decide_eq_true_eq,beq_iff_eq] at h1
  rcases h1 with h1|h1
  ·exact .inl h1
  ·refine .inr ⟨h1.1, ?_⟩
   have:a.neg≠b.neg:=fun e=>h.2 (Cl.ext' h1.1 e)
   omega
 have he:sortCl (o.filter (bP o))=dn l:=zR hsorted (pX l) fun c=>by
  rw [hp.mem_iff,List.mem_filter,mem_mins,h,Le h]
 exact ⟨he,by rw [←he,hp.length_eq]⟩
theorem ab1 (hk:Fu k) (ret:List Cl×Int→Option S) {l:List Cl} (hl:am l) (hlen:l.length<2147483648):
  ∀ (r p:List Cl) (m:Nat) (q:List (Cl×Bool)) (o:List Cl),l=p++r→r.length<m→o.length≤p.length→o.Nodup→(∀c:Cl,(dJ VV ET.C q c).getD false=decide (c∈o))→(∀c,c∈o↔c∈p)→
  oX k ret l m q o (p.length:Int)=ret (if r.all c7 then if (dn l).length>64 then ([],3) else (dn l,0) else ([],2)):=by
 intro r
 induction r with
 |nil=>
  intro p m q o h hm ho hnd hq hmem
  obtain ⟨m,rfl,hm'⟩:=ak hm
  have hp:l=p:=by rw [h,List.append_nil]
  subst hp
  have hol:am o:=fun c hc=>hl c ((hmem c).1 hc)
  have hk':4294967296≤k:=hk
  simp only [oX,re,aA h,ad,List.all_nil,if_true]
  have:=aba hk ret hol (by omega) o [] k [] rfl (by omega) (by simp)
  simp only [List.nil_append] at this
  refine Eq.trans this ?_
  have hsm:=afG hnd hmem
  rw [hsm.1,hsm.2]
 |cons x r ih=>
  intro p m q o h hm ho hnd hq hmem
  obtain ⟨m,rfl,hm'⟩:=ak hm
  obtain ⟨e1,e2,e3,e4⟩:=az h (by omega)
  have hx:aU x:=hl x (by rw [h];simp)
  have hpl:p.length<l.length:=by rw [h];simp
  simp only [oX,re,e1,ae,e2,Option.bind_some,af hk,Oq hk hx]
  rw [hq,e3]
  by_cases hr:c7 x=true
  ·have:(x::r).all c7=r.all c7:=by rw [List.all_cons,hr,Bool.true_and]
   rw [hr,Bool.not_true,ad,this]
   by_cases hxo:x∈o
   ·rw [decide_eq_true hxo,Bool.not_true,ad]
    exact ih (p++[x]) m q o e4 hm' (by simp;omega) hnd hq fun c=>by
     rw [hmem c,List.mem_append,List.mem_singleton]
     exact ⟨.inl,fun h'=>by rcases h' with h'|rfl;exact h';exact (hmem _).1 hxo⟩
   ·rw [decide_eq_false hxo,Bool.not_false,ae,aO (by simp;omega)]
    refine ih (p++[x]) m _ (o++[x]) e4 hm' (by simp;omega) (List.nodup_append.2 ⟨hnd,by simp,fun a ha b hb=>by simp at hb;subst hb;rintro rfl;exact hxo ha⟩) (fun c=> ?_) fun c=> ?_
    ·rw [acA]
     by_cases hc:x=c
     ·subst hc;simp
     ·rw [if_neg hc,hq,Bool.eq_iff_iff];simp [Ne.symm hc]
    ·rw [List.mem_append,hmem,List.mem_append]
  ·rw [Bool.not_eq_true] at hr
   have:(x::r).all c7=false:=by rw [List.all_cons,hr,Bool.false_and]
   rw [hr,Bool.not_false,ae,this,if_neg (by decide)]
theorem kx (hk:Fu k) {l:List Cl} (hl:am l) (hlen:l.length<2147483648) (ret:List Cl×Int→Option S):gf k l ret=ret (bk l):=by
 simp only [gf,FD]
 exact ab1 hk ret hl hlen l [] k [] [] rfl (by have:4294967296≤k:=hk;omega) (by simp) List.nodup_nil (fun c=>by simp [dJ]) (fun c=>Iff.rfl)
theorem aaw (hk:Fu k) (ret:Bool→Option S) {a b:List Cl} (hlen:a.length<4294967296):
  ∀ (r s p q:List Cl) (m:Nat),a=p++r→b=q++s→p.length=q.length→r.length=s.length→r.length<m→pK k ret a b m (p.length:Int)=ret (decide (r=s)):=by
 intro r
 induction r with
 |nil=>
  intro s p q m h h' hpq hrs hm
  obtain ⟨m,rfl,hm'⟩:=ak hm
  cases s with
  |nil=>simp only [pK,wn,aA h,ad];rfl
  |cons=>cases hrs
 |cons x r ih=>
  intro s p q m h h' hpq hrs hm
  obtain ⟨m,rfl,hm'⟩:=ak hm
  cases s with
  |nil=>cases hrs
  |cons y s=>
   obtain ⟨e1,e2,e3,e4⟩:=az h (by omega)
   have e2':al b (p.length:Int)=some y:=by rw [h',hpq];exact tp q s y
   simp only [pK,wn,e1,ae,e2,e2',Option.bind_some,jG,e3]
   rw [ih s (p++[x]) (q++[y]) m e4 (by rw [h'];simp) (by simp [hpq]) (by simpa using hrs) hm']
   by_cases hxy:x=y
   ·subst hxy;rw [decide_eq_true rfl,Bool.not_true,ad];simp
   ·rw [decide_eq_false hxy,Bool.not_false,ae];simp [hxy]
theorem aes (hk:Fu k) {a b:List Cl} (hlen:a.length<4294967296) (ret:Bool→Option S):xM k a b ret=ret (decide (a=b)):=by
 simp only [xM,GN]
 by_cases h:a.length=b.length
 ·have e:((a.length:Int)==(b.length:Int))=true:=by simp [h]
  rw [e,Bool.not_true,ad]
  exact aaw hk ret hlen a b [] [] k rfl rfl rfl h (by have:4294967296≤k:=hk;omega)
 ·have e:((a.length:Int)==(b.length:Int))=false:=by rw [beq_eq_false_iff_ne];omega
  rw [e,Bool.not_false,ae,decide_eq_false]
  rintro rfl;exact h rfl
theorem aaz (hk:Fu k) (ret:Bool→Option S) {a b:List Cl} (hlen:a.length<4294967296):
  ∀ (r s p q:List Cl) (m:Nat),a=p++r→b=q++s→p.length=q.length→r.length=s.length→r.length<m→j9 k ret a b m (p.length:Int)=ret (decide (r=s)):=by
 intro r
 induction r with
 |nil=>
  intro s p q m h h' hpq hrs hm
  obtain ⟨m,rfl,hm'⟩:=ak hm
  cases s with
  |nil=>simp only [j9,nV,aA h,ad];rfl
  |cons=>cases hrs
 |cons x r ih=>
  intro s p q m h h' hpq hrs hm
  obtain ⟨m,rfl,hm'⟩:=ak hm
  cases s with
  |nil=>cases hrs
  |cons y s=>
   obtain ⟨e1,e2,e3,e4⟩:=az h (by omega)
   have e2':al b (p.length:Int)=some y:=by rw [h',hpq];exact tp q s y
   simp only [j9,nV,e1,ae,e2,e2',Option.bind_some,jG,e3]
   rw [ih s (p++[x]) (q++[y]) m e4 (by rw [h'];simp) (by simp [hpq]) (by simpa using hrs) hm']
   by_cases hxy:x=y
   ·subst hxy;rw [decide_eq_true rfl,Bool.not_true,ad];simp
   ·rw [decide_eq_false hxy,Bool.not_false,ae];simp [hxy]
theorem aeD (hk:Fu k) {a b:List Cl} (hlen:a.length<4294967296) (ret:Bool→Option S):iW k a b ret=ret (decide (a=b)):=by
 simp only [iW,zX]
 by_cases h:a.length=b.length
 ·have e:((a.length:Int)==(b.length:Int))=true:=by simp [h]
  rw [e,Bool.not_true,ad]
  exact aaz hk ret hlen a b [] [] k rfl rfl rfl h (by have:4294967296≤k:=hk;omega)
 ·have e:((a.length:Int)==(b.length:Int))=false:=by rw [beq_eq_false_iff_ne];omega
  rw [e,Bool.not_false,ae,decide_eq_false]
  rintro rfl;exact h rfl
theorem Jo (l:List Cl):(bk l).1.length≤64:=by
 unfold bk;split
 ·split
  ·simp
  ·next h=>show (dn l).length≤64;omega
 ·simp
def bn (f:List Cl):Bool:=decide (bk f=(f,0))
theorem qE (hk:Fu k) {f:List Cl} (hf:am f) (hlen:f.length<2147483648) (ret:Bool→Option S):gS k f ret=ret (bn f):=by
 have:=Jo f
 simp only [gS,PT,af hk,kx hk hf hlen,aes hk (show (bk f).1.length<4294967296 by omega),cx,bn,beq_iff_eq]
 by_cases h:(bk f).2=0
 ·rw [if_pos h];congr 1;rw [Bool.eq_iff_iff];simp [Prod.ext_iff,h]
 ·rw [if_neg h,decide_eq_false];intro e;rw [e] at h;exact h rfl
theorem gD (hk:Fu k) {f:List Cl} (hf:am f) (hlen:f.length<2147483648) (ret:Bool→Option S):d9 k f ret=ret (bn f):=by
 have:=Jo f
 simp only [d9,Qn,af hk,nM hk hf hlen,aeD hk (show (bk f).1.length<4294967296 by omega),cx,bn,beq_iff_eq]
 by_cases h:(bk f).2=0
 ·rw [if_pos h];congr 1;rw [Bool.eq_iff_iff];simp [Prod.ext_iff,h]
 ·rw [if_neg h,decide_eq_false];intro e;rw [e] at h;exact h rfl
end Go.Proofs.YtapmagaejigpnaaGreatDoor
