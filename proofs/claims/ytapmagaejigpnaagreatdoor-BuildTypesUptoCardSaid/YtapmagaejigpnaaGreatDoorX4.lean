/- Part 4 of a proof: the sources, with their names and remarks, lie in wip/. -/
import Derived.Test.YtapmagaejigpnaaGreatDoorX3
namespace Go.Proofs.YtapmagaejigpnaaGreatDoor
open Go PI
set_option linter.unusedVariables false
set_option maxRecDepth 100000
noncomputable section
def uY {S:Type} (hd:dC S) (k:Nat) (ret:Bool→Option S) (x11:(Br Tm)) (t:Tm) (vars i12 dims:Int) (bound:Bool) (rec5:Int→Option S) (rec6:Int→Option S) (v14:Int):Option S:=
 ab (decide ((v14:Int)<(x11.kids.length:Int))) (
 Option.bind (al x11.kids v14) fun x15=>
 aa k (nC k t.kind) fun r16=>
 hd (ac x15) vars (IntKind.wrap .i64 (dims+r16)) bound fun r17=>
 ab (!r17) (
  ret false) (
   rec6 (IntKind.wrap .i64 (v14+1)))) (
  rec5 (IntKind.wrap .i64 (i12+1)))
noncomputable def kR {S:Type} (hd:dC S) (k:Nat) (ret:Bool→Option S) (rec5:Int→Option S) (x11:(Br Tm)) (t:Tm) (vars i12 dims:Int) (bound:Bool):Nat→Int→Option S
 |0=>fun _=> .none
 |m+1=>fun v14=>uY hd k ret x11 t vars i12 dims bound rec5 (kR hd k ret rec5 x11 t vars i12 dims bound m) v14
def qx {S:Type} (hd:dC S) (k:Nat) (ret:Bool→Option S) (t:Tm) (vars dims:Int) (bound:Bool) (J6:(Br Tm)→Int→Int→Option S) (rec5:Int→Option S) (i12:Int):Option S:=
 ab (decide ((i12:Int)<(t.sys.length:Int))) (
 Option.bind (al t.sys i12) fun x11=>
 aa k (nD k t.kind) fun r12=>
 ab (!((x11.kids.length:Int)==r12)) (
  ret false) (
  aa k (fS k x11.face) fun r13=>
  ab (!r13) (
  ret false) (
  aa k (rz k x11.face dims) fun r14=>
  ab (!r14) (
   ret false) (
     J6 x11 i12 0)))) (
 ret true)
noncomputable def gx {S:Type} (hd:dC S) (k:Nat) (ret:Bool→Option S) (t:Tm) (vars dims:Int) (bound:Bool):Nat→Int→Option S
 |0=>fun _=> .none
 |m+1=>fun i12=>qx hd k ret t vars dims bound (fun x11 i12 v14=>kR hd k ret (gx hd k ret t vars dims bound m) x11 t vars i12 dims bound k v14) (gx hd k ret t vars dims bound m) i12
def qw {S:Type} (hd:dC S) (k:Nat) (ret:Bool→Option S) (t:Tm) (vars dims:Int) (bound:Bool) (J5:Int→Option S) (rec4:Int→Option S) (i9:Int):Option S:=
 ab (decide ((i9:Int)<(t.kids.length:Int))) (
 aa k (nA k t.kind i9) fun r6=>
 ab (decide ((vars:Int)<0)) (
  Option.bind (al t.kids i9) fun x7=>
  hd (ac x7) (IntKind.wrap .i64 (vars+0)) (IntKind.wrap .i64 (dims+r6.2)) bound fun r8=>
  ab (!r8) (
  ret false) (
    rec4 (IntKind.wrap .i64 (i9+1)))) (
  Option.bind (al t.kids i9) fun x9=>
  hd (ac x9) (IntKind.wrap .i64 (vars+r6.1)) (IntKind.wrap .i64 (dims+r6.2)) bound fun r10=>
  ab (!r10) (
  ret false) (
    rec4 (IntKind.wrap .i64 (i9+1))))) (
  J5 0)
noncomputable def iq {S:Type} (hd:dC S) (k:Nat) (ret:Bool→Option S) (t:Tm) (vars dims:Int) (bound:Bool):Nat→Int→Option S
 |0=>fun _=> .none
 |m+1=>fun i9=>qw hd k ret t vars dims bound (fun i12=>gx hd k ret t vars dims bound k i12) (iq hd k ret t vars dims bound m) i9
def qv {S:Type} (hd:dC S) (k:Nat) (ret:Bool→Option S) (t:Tm) (vars dims:Int) (bound:Bool) (J4:Int→Option S):Option S:=
 aa k (rz k t.r dims) fun r5=>
 ab (!r5) (
 ret false) (
  J4 0)
noncomputable def oB {S:Type} (hd:dC S) (k:Nat) (ret:Bool→Option S) (t:Tm) (vars dims:Int) (bound:Bool):Nat→Option S
 |0=> .none
 |_+1=>qv hd k ret t vars dims bound (fun i9=>iq hd k ret t vars dims bound k i9)
def qu {S:Type} (hd:dC S) (k:Nat) (ret:Bool→Option S) (t:Tm) (vars dims:Int) (bound:Bool) (J3:Option S):Option S:=
 ab (t.kind==13) (
 aa k (dU k t.r) fun r4=>
 ab (!r4) (
  ret false) (
   J3)) (
 ab (t.kind==21) (
  aa k (dU k t.r) fun r18=>
  ab (!r18) (
  ret false) (
    J3)) (
  ab (t.kind==26) (
  aa k (dU k t.r) fun r19=>
  ab (!r19) (
   ret false) (
     J3)) (
  ab (t.kind==14) (
   aa k (fS k t.r) fun r20=>
   ab (!r20) (
   ret false) (
      J3)) (
   ab (decide (((t.r.length:Int):Int)>0)) (
   ret false) (
      J3)))))
noncomputable def oA {S:Type} (hd:dC S) (k:Nat) (ret:Bool→Option S) (t:Tm) (vars dims:Int) (bound:Bool):Nat→Option S
 |0=> .none
 |_+1=>qu hd k ret t vars dims bound (oB hd k ret t vars dims bound k)
def qr {S:Type} (hd:dC S) (k:Nat) (ret:Bool→Option S) (t:Tm) (vars dims:Int) (bound:Bool) (J2:Option S):Option S:=
 ab (t.kind==2) (
 aa k (wn k t.name) fun r3=>
 ab (!r3) (
  ret false) (
  ab (!(t.kind==2)) (
  ab (!(t.name==ByteArray.empty)) (
   ret false) (
     J2)) (
    J2))) (
 ab (!(t.kind==2)) (
  ab (!(t.name==ByteArray.empty)) (
  ret false) (
    J2)) (
   J2))
noncomputable def oz {S:Type} (hd:dC S) (k:Nat) (ret:Bool→Option S) (t:Tm) (vars dims:Int) (bound:Bool):Nat→Option S
 |0=> .none
 |_+1=>qr hd k ret t vars dims bound (oA hd k ret t vars dims bound k)
def qn {S:Type} (hd:dC S) (k:Nat) (ret:Bool→Option S) (t:Tm) (vars dims:Int) (bound:Bool) (J1:Option S):Option S:=
 ab (t.kind==1) (
 ab (decide ((t.n:Int)<0)) (
  ret false) (
  ab (decide ((vars:Int)≥0)) (
  ab (decide ((t.n:Int)≥vars)) (
   ret false) (
     J1)) (
    J1))) (
 ab (!(t.n==0)) (
  ret false) (
   J1))
noncomputable def xl {S:Type} (hd:dC S) (k:Nat) (ret:Bool→Option S) (t:Tm) (vars dims:Int) (bound:Bool):Nat→Option S
 |0=> .none
 |_+1=>qn hd k ret t vars dims bound (oz hd k ret t vars dims bound k)
def EX {S:Type} (hd:dC S) (k:Nat) (ret:Bool→Option S) (J0:Option S) (t:Tm) (vars dims:Int) (bound:Bool):Option S:=
 ab (bound) (
 ab (decide ((dims:Int)>24)) (
  ret false) (
  aa k (rx k t.kind) fun r1=>
  ab (!(r1==(t.kids.length:Int))) (
  ret false) (
  ab (decide (((t.sys.length:Int):Int)>0)) (
   aa k (nD k t.kind) fun r2=>
   ab (r2==0) (
   ret false) (
      J0)) (
     J0)))) (
 aa k (rx k t.kind) fun r21=>
 ab (!(r21==(t.kids.length:Int))) (
  ret false) (
  ab (decide (((t.sys.length:Int):Int)>0)) (
  aa k (nD k t.kind) fun r22=>
  ab (r22==0) (
   ret false) (
     J0)) (
    J0)))
noncomputable def b7 {S:Type}:Nat→Tm→Int→Int→Bool→(Bool→Option S)→Option S
 |0=>fun _ _ _ _ _=> .none
 |k+1=>fun t vars dims bound ret=>EX (b7 k) k ret (xl (b7 k) k ret t vars dims bound k) t vars dims bound
def ON {S:Type} (k:Nat) (ret:Int→Option S) (t:Tm):Option S:=
 aa k (wq k (ac t)) fun r1=>
 ab (r1==0) (
 b7 k (ac t) (-1) 24 false fun r2=>
 ab (!r2) (
  ret 100) (
  ret r1)) (
 ret r1)
noncomputable def nB {S:Type} (k:Nat) (t:Tm) (ret:Int→Option S):Option S:=ON k ret t
def vd {S:Type} (k:Nat) (ret:Int→Option S) (l:List Tm) (rec0:Int→Option S) (i3:Int):Option S:=
 ab (decide ((i3:Int)<(l.length:Int))) (
 Option.bind (al l i3) fun x1=>
 aa k (nB k (ac x1)) fun r2=>
 ab (!(r2==0)) (
  ret r2) (
   rec0 (IntKind.wrap .i64 (i3+1)))) (
 ret 0)
noncomputable def oG {S:Type} (k:Nat) (ret:Int→Option S) (l:List Tm):Nat→Int→Option S
 |0=>fun _=> .none
 |m+1=>fun i3=>vd k ret l (oG k ret l m) i3
noncomputable def E_ {S:Type} (k:Nat) (ret:Int→Option S) (J0:Int→Option S) (l:List Tm):Option S:=
 J0 0
noncomputable def jf {S:Type} (k:Nat) (l:List Tm) (ret:Int→Option S):Option S:=E_ k ret (fun i3=>oG k ret l k i3) l
def uF {S:Type} (k:Nat) (ret:Int×Int→Option S) (a_from a_by:Int) (rec0:(List Int)→Int→Option S) (l8:List Int) (v9:Int):Option S:=
 ab (decide ((v9:Int)<(l8.length:Int))) (
 Option.bind (al l8 v9) fun x2=>
 Option.bind (al l8 v9) fun x3=>
 ab (decide ((x3:Int)<a_from)) (
   rec0 l8 (IntKind.wrap .i64 (v9+1))) (
  Option.bind (al l8 v9) fun x4=>
  Option.bind (al l8 v9) fun x5=>
  ab (decide ((a_by:Int)≥(IntKind.wrap .i64 (24-x5)))) (
  ret (0,10)) (
  Option.bind (al l8 v9) fun x6=>
  Option.bind (al l8 v9) fun x7=>
  Option.bind (al l8 v9) fun x8=>
  Option.bind (al l8 v9) fun x9=>
    rec0 (l8.set (Int.toNat v9) (IntKind.wrap .i64 (x7+a_by))) (IntKind.wrap .i64 (v9+1))))) (
 aa k (g_ k l8) fun r10=>
 ret (r10,0))
noncomputable def mh {S:Type} (k:Nat) (ret:Int×Int→Option S) (a_from a_by:Int):Nat→(List Int)→Int→Option S
 |0=>fun _ _=> .none
 |m+1=>fun l8 v9=>uF k ret a_from a_by (mh k ret a_from a_by m) l8 v9
def tP {S:Type} (k:Nat) (ret:Int×Int→Option S) (J0:(List Int)→Int→Option S) (s a_from a_by:Int):Option S:=
 ab (decide ((a_from:Int)<0)) (
 ret (0,2)) (
 ab (decide ((a_by:Int)<0)) (
  ret (0,2)) (
  aa k (g9 k s) fun r1=>
   J0 r1 0))
noncomputable def j_ {S:Type} (k:Nat) (s a_from a_by:Int) (ret:Int×Int→Option S):Option S:=tP k ret (fun l8 v9=>mh k ret a_from a_by k l8 v9) s a_from a_by
def OF {S:Type} (k:Nat) (ret:Cl×Int→Option S) (c:Cl) (a_from a_by:Int):Option S:=
 aa k (rn k c) fun r1=>
 ab (!r1) (
 ret ((Cl.mk 0 0),2)) (
 aa k (j_ k c.pos a_from a_by) fun r2=>
 ab (!(r2.2==0)) (
  ret ((Cl.mk 0 0),r2.2)) (
  aa k (j_ k c.neg a_from a_by) fun r3=>
  ab (!(r3.2==0)) (
  ret ((Cl.mk 0 0),r3.2)) (
  ret ((Cl.mk r2.1 r3.1),0))))
noncomputable def wg {S:Type} (k:Nat) (c:Cl) (a_from a_by:Int) (ret:Cl×Int→Option S):Option S:=OF k ret c a_from a_by
def uP {S:Type} (k:Nat) (ret:List Cl×Int→Option S) (f:List Cl) (a_from a_by:Int) (rec0:(List Cl)→Int→Option S) (out8:List Cl) (i9:Int):Option S:=
 ab (decide ((i9:Int)<(f.length:Int))) (
 Option.bind (al f i9) fun x2=>
 aa k (wg k x2 a_from a_by) fun r3=>
 ab (!(r3.2==0)) (
  ret (([]:List Cl),r3.2)) (
  Option.bind (ax 1099511627776 out8.length [r3.1].length) fun x4=>
   rec0 (out8++[r3.1]) (IntKind.wrap .i64 (i9+1)))) (
 aa k (hJ k out8) fun r5=>
 ret (r5.1,r5.2))
noncomputable def ot {S:Type} (k:Nat) (ret:List Cl×Int→Option S) (f:List Cl) (a_from a_by:Int):Nat→(List Cl)→Int→Option S
 |0=>fun _ _=> .none
 |m+1=>fun out8 i9=>uP k ret f a_from a_by (ot k ret f a_from a_by m) out8 i9
def EM {S:Type} (k:Nat) (ret:List Cl×Int→Option S) (J0:(List Cl)→Int→Option S) (f:List Cl) (a_from a_by:Int):Option S:=
 aa k (dU k f) fun r1=>
 ab (!r1) (
 ret (([]:List Cl),2)) (
  J0 ([]:List Cl) 0)
noncomputable def lP {S:Type} (k:Nat) (f:List Cl) (a_from a_by:Int) (ret:List Cl×Int→Option S):Option S:=EM k ret (fun out8 i9=>ot k ret f a_from a_by k out8 i9) f a_from a_by
def uX {S:Type} (k:Nat) (ret:List Cl×Int→Option S) (l:List Cl) (rec0:(List Cl)→Int→Option S) (out4:List Cl) (i5:Int):Option S:=
 ab (decide ((i5:Int)<(l.length:Int))) (
 Option.bind (al l i5) fun x1=>
 aa k (rl k x1) fun r2=>
 ab (!r2) (
  Option.bind (al l i5) fun x3=>
  Option.bind (ax 1099511627776 out4.length [x3].length) fun x4=>
   rec0 (out4++[x3]) (IntKind.wrap .i64 (i5+1))) (
   rec0 out4 (IntKind.wrap .i64 (i5+1)))) (
 aa k (hJ k out4) fun r5=>
 ret (r5.1,r5.2))
noncomputable def oy {S:Type} (k:Nat) (ret:List Cl×Int→Option S) (l:List Cl):Nat→(List Cl)→Int→Option S
 |0=>fun _ _=> .none
 |m+1=>fun out4 i5=>uX k ret l (oy k ret l m) out4 i5
noncomputable def EW {S:Type} (k:Nat) (ret:List Cl×Int→Option S) (J0:(List Cl)→Int→Option S) (l:List Cl):Option S:=
 J0 ([]:List Cl) 0
noncomputable def lQ {S:Type} (k:Nat) (l:List Cl) (ret:List Cl×Int→Option S):Option S:=EW k ret (fun out4 i5=>oy k ret l k out4 i5) l
def OK {S:Type} (k:Nat) (ret:List Cl×Int→Option S) (f g:List Cl):Option S:=
 aa k (fS k f) fun r1=>
 ab (!r1) (
 ret (([]:List Cl),2)) (
 aa k (fS k g) fun r2=>
 ab (!r2) (
  ret (([]:List Cl),2)) (
  Option.bind (ax 1099511627776 ([]:List Cl).length f.length) fun x3=>
  Option.bind (ax 1099511627776 (([]:List Cl)++f).length g.length) fun x4=>
  aa k (lQ k ((([]:List Cl)++f)++g)) fun r5=>
  ret (r5.1,r5.2)))
noncomputable def fi {S:Type} (k:Nat) (f g:List Cl) (ret:List Cl×Int→Option S):Option S:=OK k ret f g
noncomputable def OT {S:Type} (k:Nat) (ret:Int×Int×ByteArray→Option S) (a_e:Int):Option S:=
 ret (IntKind.wrap .i64 (0-a_e),0,ByteArray.empty)
noncomputable def d9 {S:Type} (k:Nat) (a_e:Int) (ret:Int×Int×ByteArray→Option S):Option S:=OT k ret a_e
def OX {S:Type} (k:Nat) (ret:Int→Option S) (t:Tm) (a b:Int):Option S:=
 aa k (nB k (ac t)) fun r1=>
 ab (r1==0) (
 ab (decide ((a:Int)<0)) (
  ret 2) (
  ab (decide ((b:Int)<0)) (
  ret 2) (
  ret r1))) (
 ret r1)
noncomputable def AR {S:Type} (k:Nat) (t:Tm) (a b:Int) (ret:Int→Option S):Option S:=OX k ret t a b
def OW {S:Type} (k:Nat) (ret:List Cl×Int→Option S) (f:List Cl) (a_from a_by:Int):Option S:=
 ab ((f.length:Int)==0) (
 ret (([]:List Cl),0)) (
 aa k (lP k f a_from a_by) fun r1=>
 ret (r1.1,r1.2))
noncomputable def rA {S:Type} (k:Nat) (f:List Cl) (a_from a_by:Int) (ret:List Cl×Int→Option S):Option S:=OW k ret f a_from a_by
abbrev ff (S:Type):=Tm→Int→Int→Int→Int→(Tm→Option S)→Option S
def u9 {S:Type} (hd:ff S) (k:Nat) (ret:Tm→Option S) (t:Tm) (b11_1:Int) (r2:List Cl×Int) (b11_4:List Tm) (b11_5:List (Br Tm)) (r9:List Cl×Int) (v i18 vby d dby:Int) (rec2:(List (Br Tm))→Int→Option S) (rec3:(List Tm)→Int→Option S) (b21_1:List Tm) (v22:Int):Option S:=
 Option.bind (al t.sys i18) fun x11=>
 ab (decide ((v22:Int)<(x11.kids.length:Int))) (
 Option.bind (al t.sys i18) fun x12=>
 Option.bind (al x12.kids v22) fun x13=>
 aa k (nC k t.kind) fun r14=>
 hd (ac x13) v vby (IntKind.wrap .i64 (d+r14)) dby fun r15=>
 ab (decide ((r15.kind:Int)<0)) (
  ret (ac r15)) (
  Option.bind (ax 1099511627776 b21_1.length [(ac r15)].length) fun x16=>
   rec3 (b21_1++[(ac r15)]) (IntKind.wrap .i64 (v22+1)))) (
 Option.bind (ax 1099511627776 b11_5.length [(Br.mk r9.1 b21_1)].length) fun x17=>
  rec2 (b11_5++[(Br.mk r9.1 b21_1)]) (IntKind.wrap .i64 (i18+1)))
noncomputable def ir {S:Type} (hd:ff S) (k:Nat) (ret:Tm→Option S) (rec2:(List (Br Tm))→Int→Option S) (t:Tm) (b11_1:Int) (r2:List Cl×Int) (b11_4:List Tm) (b11_5:List (Br Tm)) (r9:List Cl×Int) (v i18 vby d dby:Int):Nat→(List Tm)→Int→Option S
 |0=>fun _ _=> .none
 |m+1=>fun b21_1 v22=>u9 hd k ret t b11_1 r2 b11_4 b11_5 r9 v i18 vby d dby rec2 (ir hd k ret rec2 t b11_1 r2 b11_4 b11_5 r9 v i18 vby d dby m) b21_1 v22
def qF {S:Type} (hd:ff S) (k:Nat) (ret:Tm→Option S) (t:Tm) (b11_1:Int) (r2:List Cl×Int) (b11_4:List Tm) (v vby d dby:Int) (J3:(List (Br Tm))→(List Cl×Int)→Int→(List Tm)→Int→Option S) (rec2:(List (Br Tm))→Int→Option S) (b11_5:List (Br Tm)) (i18:Int):Option S:=
 ab (decide ((i18:Int)<(t.sys.length:Int))) (
 Option.bind (al t.sys i18) fun x8=>
 aa k (rA k x8.face d dby) fun r9=>
 ab (!(r9.2==0)) (
  aa k (d9 k r9.2) fun r10=>
  ret (Tm.mk r10.1 r10.2.1 r10.2.2 [] [] [])) (
   J3 b11_5 r9 i18 ([]:List Tm) 0)) (
 ret (Tm.mk t.kind b11_1 t.name r2.1 b11_4 b11_5))
noncomputable def eL {S:Type} (hd:ff S) (k:Nat) (ret:Tm→Option S) (t:Tm) (b11_1:Int) (r2:List Cl×Int) (b11_4:List Tm) (v vby d dby:Int):Nat→(List (Br Tm))→Int→Option S
 |0=>fun _ _=> .none
 |m+1=>fun b11_5 i18=>qF hd k ret t b11_1 r2 b11_4 v vby d dby (fun b11_5 r9 i18 b21_1 v22=>ir hd k ret (eL hd k ret t b11_1 r2 b11_4 v vby d dby m) t b11_1 r2 b11_4 b11_5 r9 v i18 vby d dby k b21_1 v22) (eL hd k ret t b11_1 r2 b11_4 v vby d dby m) b11_5 i18
def qE {S:Type} (hd:ff S) (k:Nat) (ret:Tm→Option S) (t:Tm) (b11_1:Int) (r2:List Cl×Int) (v vby d dby:Int) (J2:(List Tm)→(List (Br Tm))→Int→Option S) (rec1:(List Tm)→Int→Option S) (b11_4:List Tm) (i14:Int):Option S:=
 ab (decide ((i14:Int)<(t.kids.length:Int))) (
 aa k (nA k t.kind i14) fun r4=>
 Option.bind (al t.kids i14) fun x5=>
 hd (ac x5) (IntKind.wrap .i64 (v+r4.1)) vby (IntKind.wrap .i64 (d+r4.2)) dby fun r6=>
 ab (decide ((r6.kind:Int)<0)) (
  ret (ac r6)) (
  Option.bind (ax 1099511627776 b11_4.length [(ac r6)].length) fun x7=>
   rec1 (b11_4++[(ac r6)]) (IntKind.wrap .i64 (i14+1)))) (
  J2 b11_4 ([]:List (Br Tm)) 0)
noncomputable def gD {S:Type} (hd:ff S) (k:Nat) (ret:Tm→Option S) (t:Tm) (b11_1:Int) (r2:List Cl×Int) (v vby d dby:Int):Nat→(List Tm)→Int→Option S
 |0=>fun _ _=> .none
 |m+1=>fun b11_4 i14=>qE hd k ret t b11_1 r2 v vby d dby (fun b11_4 b11_5 i18=>eL hd k ret t b11_1 r2 b11_4 v vby d dby k b11_5 i18) (gD hd k ret t b11_1 r2 v vby d dby m) b11_4 i14
def qD {S:Type} (hd:ff S) (k:Nat) (ret:Tm→Option S) (t:Tm) (v vby d dby:Int) (J1:Int→(List Cl×Int)→(List Tm)→Int→Option S) (b11_1:Int):Option S:=
 aa k (rA k t.r d dby) fun r2=>
 ab (!(r2.2==0)) (
 aa k (d9 k r2.2) fun r3=>
 ret (Tm.mk r3.1 r3.2.1 r3.2.2 [] [] [])) (
  J1 b11_1 r2 ([]:List Tm) 0)
noncomputable def xq {S:Type} (hd:ff S) (k:Nat) (ret:Tm→Option S) (t:Tm) (v vby d dby:Int):Nat→Int→Option S
 |0=>fun _=> .none
 |_+1=>fun b11_1=>qD hd k ret t v vby d dby (fun b11_1 r2 b11_4 i14=>gD hd k ret t b11_1 r2 v vby d dby k b11_4 i14) b11_1
def E5 {S:Type} (hd:ff S) (k:Nat) (ret:Tm→Option S) (J0:Int→Option S) (t:Tm) (v vby d dby:Int):Option S:=
 ab (t.kind==1) (
 ab (decide ((t.n:Int)≥v)) (
  ab (decide ((t.n:Int)>(IntKind.wrap .i64 (1000000000-vby)))) (
  aa k (d9 k 100) fun r1=>
  ret (Tm.mk r1.1 r1.2.1 r1.2.2 [] [] [])) (
    J0 (IntKind.wrap .i64 (t.n+vby)))) (
   J0 t.n)) (
  J0 t.n)
noncomputable def cY {S:Type}:Nat→Tm→Int→Int→Int→Int→(Tm→Option S)→Option S
 |0=>fun _ _ _ _ _ _=> .none
 |k+1=>fun t v vby d dby ret=>E5 (cY k) k ret (fun b11_1=>xq (cY k) k ret t v vby d dby k b11_1) t v vby d dby
def OV {S:Type} (k:Nat) (ret:Tm×Int→Option S) (t:Tm):Option S:=
 ab (decide ((t.kind:Int)<0)) (
 ret ((Tm.mk 0 0 ByteArray.empty [] [] []),IntKind.wrap .i64 (0-t.kind))) (
 ret ((ac t),0))
noncomputable def wt {S:Type} (k:Nat) (t:Tm) (ret:Tm×Int→Option S):Option S:=OV k ret t
def OU {S:Type} (k:Nat) (ret:Tm×Int→Option S) (t:Tm) (a_from a_by:Int):Option S:=
 aa k (AR k (ac t) a_from a_by) fun r1=>
 ab (!(r1==0)) (
 ret ((Tm.mk 0 0 ByteArray.empty [] [] []),r1)) (
 ab (decide ((a_from:Int)>1000000000)) (
  cY k (ac t) 0 0 1000000000 a_by fun r2=>
  aa k (wt k (ac r2)) fun r3=>
  ret ((ac r3.1),r3.2)) (
  cY k (ac t) 0 0 a_from a_by fun r4=>
  aa k (wt k (ac r4)) fun r5=>
  ret ((ac r5.1),r5.2)))
noncomputable def ws {S:Type} (k:Nat) (t:Tm) (a_from a_by:Int) (ret:Tm×Int→Option S):Option S:=OU k ret t a_from a_by
def uI {S:Type} (k:Nat) (ret:Int→Option S) (i:Int) (r1:List Int) (rec0:(List Int)→Int→Option S) (out6:List Int) (v7:Int):Option S:=
 ab (decide ((v7:Int)<(r1.length:Int))) (
 Option.bind (al r1 v7) fun x2=>
 Option.bind (al r1 v7) fun x3=>
 ab (!(x3==i)) (
  Option.bind (al r1 v7) fun x4=>
  Option.bind (al r1 v7) fun x5=>
  Option.bind (ax 1099511627776 out6.length [x5].length) fun x6=>
   rec0 (out6++[x5]) (IntKind.wrap .i64 (v7+1))) (
   rec0 out6 (IntKind.wrap .i64 (v7+1)))) (
 aa k (g_ k out6) fun r7=>
 ret r7)
noncomputable def oh {S:Type} (k:Nat) (ret:Int→Option S) (i:Int) (r1:List Int):Nat→(List Int)→Int→Option S
 |0=>fun _ _=> .none
 |m+1=>fun out6 v7=>uI k ret i r1 (oh k ret i r1 m) out6 v7
noncomputable def EE {S:Type} (k:Nat) (ret:Int→Option S) (J0:(List Int)→(List Int)→Int→Option S) (s i:Int):Option S:=
 aa k (g9 k s) fun r1=>
 J0 r1 ([]:List Int) 0
noncomputable def fR {S:Type} (k:Nat) (s i:Int) (ret:Int→Option S):Option S:=EE k ret (fun r1 out6 v7=>oh k ret i r1 k out6 v7) s i
def OL {S:Type} (k:Nat) (ret:List Cl×Int→Option S) (f:List Cl):Option S:=
 aa k (dU k f) fun r1=>
 ab (!r1) (
 ret (([]:List Cl),2)) (
 aa k (lQ k f) fun r2=>
 ret (r2.1,r2.2))
noncomputable def wl {S:Type} (k:Nat) (f:List Cl) (ret:List Cl×Int→Option S):Option S:=OL k ret f
def uT {S:Type} (k:Nat) (ret:List Cl→Option S) (c:Cl) (rec0:(List Cl)→Int→Option S) (out3:List Cl) (i4:Int):Option S:=
 ab (decide ((i4:Int)<24)) (
 aa k (g_ k [i4]) fun r1=>
 aa k (dH k c.pos i4) fun r2=>
 ab (r2) (
  Option.bind (ax 1099511627776 out3.length [(Cl.mk 0 r1)].length) fun x3=>
  aa k (dH k c.neg i4) fun r4=>
  ab (r4) (
  Option.bind (ax 1099511627776 (out3++[(Cl.mk 0 r1)]).length [(Cl.mk r1 0)].length) fun x5=>
    rec0 ((out3++[(Cl.mk 0 r1)])++[(Cl.mk r1 0)]) (IntKind.wrap .i64 (i4+1))) (
    rec0 (out3++[(Cl.mk 0 r1)]) (IntKind.wrap .i64 (i4+1)))) (
  aa k (dH k c.neg i4) fun r6=>
  ab (r6) (
  Option.bind (ax 1099511627776 out3.length [(Cl.mk r1 0)].length) fun x7=>
    rec0 (out3++[(Cl.mk r1 0)]) (IntKind.wrap .i64 (i4+1))) (
    rec0 out3 (IntKind.wrap .i64 (i4+1))))) (
 aa k (hJ k out3) fun r8=>
 ret r8.1)
noncomputable def ow {S:Type} (k:Nat) (ret:List Cl→Option S) (c:Cl):Nat→(List Cl)→Int→Option S
 |0=>fun _ _=> .none
 |m+1=>fun out3 i4=>uT k ret c (ow k ret c m) out3 i4
noncomputable def ER {S:Type} (k:Nat) (ret:List Cl→Option S) (J0:(List Cl)→Int→Option S) (c:Cl):Option S:=
 J0 ([]:List Cl) 0
noncomputable def wk {S:Type} (k:Nat) (c:Cl) (ret:List Cl→Option S):Option S:=ER k ret (fun out3 i4=>ow k ret c k out3 i4) c
def OC {S:Type} (k:Nat) (ret:Int→Option S) (s i:Int):Option S:=
 ab (decide ((i:Int)<0)) (
 aa k (fR k s (-1)) fun r1=>
 ret r1) (
 ab (decide ((i:Int)≥24)) (
  aa k (fR k s (-1)) fun r2=>
  ret r2) (
  aa k (fR k s i) fun r3=>
  aa k (g9 k r3) fun r4=>
  Option.bind (ax 1099511627776 r4.length [i].length) fun x5=>
  aa k (g_ k (r4++[i])) fun r6=>
  ret r6))
noncomputable def rk {S:Type} (k:Nat) (s i:Int) (ret:Int→Option S):Option S:=OC k ret s i
def uN {S:Type} (k:Nat) (ret:Int→Option S) (r1:List Int) (rec0:Int→Int→Option S) (a0 i6:Int):Option S:=
 ab (decide ((i6:Int)<(r1.length:Int))) (
 Option.bind (al r1 i6) fun x2=>
 Option.bind (al r1 i6) fun x3=>
 aa k (rk k a0 x3) fun r4=>
  rec0 r4 (IntKind.wrap .i64 (i6+1))) (
 ret a0)
noncomputable def oq {S:Type} (k:Nat) (ret:Int→Option S) (r1:List Int):Nat→Int→Int→Option S
 |0=>fun _ _=> .none
 |m+1=>fun a0 i6=>uN k ret r1 (oq k ret r1 m) a0 i6
noncomputable def EJ {S:Type} (k:Nat) (ret:Int→Option S) (J0:(List Int)→Int→Int→Option S) (a b:Int):Option S:=
 aa k (g9 k b) fun r1=>
 J0 r1 a 0
noncomputable def rp {S:Type} (k:Nat) (a b:Int) (ret:Int→Option S):Option S:=EJ k ret (fun r1 a0 i6=>oq k ret r1 k a0 i6) a b
noncomputable def OG {S:Type} (k:Nat) (ret:Cl→Option S) (a b:Cl):Option S:=
 aa k (rp k a.pos b.pos) fun r1=>
 aa k (rp k a.neg b.neg) fun r2=>
 ret (Cl.mk r1 r2)
noncomputable def rm {S:Type} (k:Nat) (a b:Cl) (ret:Cl→Option S):Option S:=OG k ret a b
def uQ {S:Type} (k:Nat) (ret:List Cl×Int→Option S) (f g:List Cl) (i7:Int) (rec0:(List Cl)→Int→Option S) (rec1:(List Cl)→Int→Option S) (out6':List Cl) (v8:Int):Option S:=
 ab (decide ((v8:Int)<(g.length:Int))) (
 Option.bind (al f i7) fun x3=>
 Option.bind (al g v8) fun x4=>
 aa k (rm k x3 x4) fun r5=>
 Option.bind (ax 1099511627776 out6'.length [r5].length) fun x6=>
  rec1 (out6'++[r5]) (IntKind.wrap .i64 (v8+1))) (
  rec0 out6' (IntKind.wrap .i64 (i7+1)))
noncomputable def ml {S:Type} (k:Nat) (ret:List Cl×Int→Option S) (rec0:(List Cl)→Int→Option S) (f g:List Cl) (i7:Int):Nat→(List Cl)→Int→Option S
 |0=>fun _ _=> .none
 |m+1=>fun out6' v8=>uQ k ret f g i7 rec0 (ml k ret rec0 f g i7 m) out6' v8
def qk {S:Type} (k:Nat) (ret:List Cl×Int→Option S) (f g:List Cl) (J1:Int→(List Cl)→Int→Option S) (rec0:(List Cl)→Int→Option S) (out6:List Cl) (i7:Int):Option S:=
 ab (decide ((i7:Int)<(f.length:Int))) (
  J1 i7 out6 0) (
 aa k (hJ k out6) fun r7=>
 ret (r7.1,r7.2))
noncomputable def kO {S:Type} (k:Nat) (ret:List Cl×Int→Option S) (f g:List Cl):Nat→(List Cl)→Int→Option S
 |0=>fun _ _=> .none
 |m+1=>fun out6 i7=>qk k ret f g (fun i7 out6' v8=>ml k ret (kO k ret f g m) f g i7 k out6' v8) (kO k ret f g m) out6 i7
def EO {S:Type} (k:Nat) (ret:List Cl×Int→Option S) (J0:(List Cl)→Int→Option S) (f g:List Cl):Option S:=
 aa k (dU k f) fun r1=>
 ab (!r1) (
 ret (([]:List Cl),2)) (
 aa k (dU k g) fun r2=>
 ab (!r2) (
  ret (([]:List Cl),2)) (
   J0 ([]:List Cl) 0))
noncomputable def jc {S:Type} (k:Nat) (f g:List Cl) (ret:List Cl×Int→Option S):Option S:=EO k ret (fun out6 i7=>kO k ret f g k out6 i7) f g
def uR {S:Type} (k:Nat) (ret:List Cl×Int→Option S) (f:List Cl) (rec0:(List Cl)→Int→Int→Option S) (v4:List Cl) (v5 i6:Int):Option S:=
 ab (decide ((i6:Int)<(f.length:Int))) (
 ab (v5==0) (
  Option.bind (al f i6) fun x2=>
  aa k (wk k x2) fun r3=>
  aa k (jc k v4 r3) fun r4=>
   rec0 r4.1 r4.2 (IntKind.wrap .i64 (i6+1))) (
  ret (v4,v5))) (
 ret (v4,v5))
noncomputable def ou {S:Type} (k:Nat) (ret:List Cl×Int→Option S) (f:List Cl):Nat→(List Cl)→Int→Int→Option S
 |0=>fun _ _ _=> .none
 |m+1=>fun v4 v5 i6=>uR k ret f (ou k ret f m) v4 v5 i6
def EP {S:Type} (k:Nat) (ret:List Cl×Int→Option S) (J0:(List Cl)→Int→Int→Option S) (f:List Cl):Option S:=
 aa k (dU k f) fun r1=>
 ab (!r1) (
 ret (([]:List Cl),2)) (
  J0 [(Cl.mk 0 0)] 0 0)
noncomputable def nz {S:Type} (k:Nat) (f:List Cl) (ret:List Cl×Int→Option S):Option S:=EP k ret (fun v4 v5 i6=>ou k ret f k v4 v5 i6) f
def OM {S:Type} (k:Nat) (ret:List Cl×Int→Option S) (f:List Cl):Option S:=
 aa k (nz k f) fun r1=>
 ab (!(r1.2==0)) (
 ret (([]:List Cl),r1.2)) (
 aa k (lQ k r1.1) fun r2=>
 ret (r2.1,r2.2))
noncomputable def rt {S:Type} (k:Nat) (f:List Cl) (ret:List Cl×Int→Option S):Option S:=OM k ret f
def uU {S:Type} (k:Nat) (ret:List Cl×Int→Option S) (f g:List Cl) (i7:Int) (rec0:(List Cl)→Int→Option S) (rec1:(List Cl)→Int→Option S) (out6':List Cl) (v8:Int):Option S:=
 ab (decide ((v8:Int)<(g.length:Int))) (
 Option.bind (al f i7) fun x3=>
 Option.bind (al g v8) fun x4=>
 aa k (rm k x3 x4) fun r5=>
 Option.bind (ax 1099511627776 out6'.length [r5].length) fun x6=>
  rec1 (out6'++[r5]) (IntKind.wrap .i64 (v8+1))) (
  rec0 out6' (IntKind.wrap .i64 (i7+1)))
noncomputable def mm {S:Type} (k:Nat) (ret:List Cl×Int→Option S) (rec0:(List Cl)→Int→Option S) (f g:List Cl) (i7:Int):Nat→(List Cl)→Int→Option S
 |0=>fun _ _=> .none
 |m+1=>fun out6' v8=>uU k ret f g i7 rec0 (mm k ret rec0 f g i7 m) out6' v8
def qm {S:Type} (k:Nat) (ret:List Cl×Int→Option S) (f g:List Cl) (J1:Int→(List Cl)→Int→Option S) (rec0:(List Cl)→Int→Option S) (out6:List Cl) (i7:Int):Option S:=
 ab (decide ((i7:Int)<(f.length:Int))) (
  J1 i7 out6 0) (
 aa k (lQ k out6) fun r7=>
 ret (r7.1,r7.2))
noncomputable def kQ {S:Type} (k:Nat) (ret:List Cl×Int→Option S) (f g:List Cl):Nat→(List Cl)→Int→Option S
 |0=>fun _ _=> .none
 |m+1=>fun out6 i7=>qm k ret f g (fun i7 out6' v8=>mm k ret (kQ k ret f g m) f g i7 k out6' v8) (kQ k ret f g m) out6 i7
def ES {S:Type} (k:Nat) (ret:List Cl×Int→Option S) (J0:(List Cl)→Int→Option S) (f g:List Cl):Option S:=
 aa k (fS k f) fun r1=>
 ab (!r1) (
 ret (([]:List Cl),2)) (
 aa k (fS k g) fun r2=>
 ab (!r2) (
  ret (([]:List Cl),2)) (
   J0 ([]:List Cl) 0))
noncomputable def kc {S:Type} (k:Nat) (f g:List Cl) (ret:List Cl×Int→Option S):Option S:=ES k ret (fun out6 i7=>kQ k ret f g k out6 i7) f g
def uV {S:Type} (k:Nat) (ret:List Cl×Int→Option S) (f:List Cl) (i:Int) (a_r:List Cl) (rec0:(List Cl)→Int→Option S) (v8:List Cl) (v9:Int):Option S:=
 ab (decide ((v9:Int)<(f.length:Int))) (
 Option.bind (al f v9) fun x3=>
 aa k (fR k x3.pos i) fun r4=>
 aa k (fR k x3.neg i) fun r5=>
 aa k (dH k x3.pos i) fun r6=>
 ab (r6) (
  aa k (wl k a_r) fun r7=>
  aa k (dH k x3.neg i) fun r8=>
  ab (r8) (
  aa k (rt k a_r) fun r9=>
  ab (r9.2==0) (
   aa k (kc k [(Cl.mk r4 r5)] r9.1) fun r10=>
   ab (r10.2==0) (
   aa k (fi k v8 r10.1) fun r11=>
   ab (!(r11.2==0)) (
    ret (([]:List Cl),r11.2)) (
       rec0 r11.1 (IntKind.wrap .i64 (v9+1)))) (
   ab (!(r10.2==0)) (
    ret (([]:List Cl),r10.2)) (
       rec0 v8 (IntKind.wrap .i64 (v9+1))))) (
   ab (r9.2==0) (
   aa k (fi k v8 [(Cl.mk r4 r5)]) fun r12=>
   ab (!(r12.2==0)) (
    ret (([]:List Cl),r12.2)) (
       rec0 r12.1 (IntKind.wrap .i64 (v9+1)))) (
   ab (!(r9.2==0)) (
    ret (([]:List Cl),r9.2)) (
       rec0 v8 (IntKind.wrap .i64 (v9+1)))))) (
  ab (r7.2==0) (
   aa k (kc k [(Cl.mk r4 r5)] r7.1) fun r13=>
   ab (r13.2==0) (
   aa k (fi k v8 r13.1) fun r14=>
   ab (!(r14.2==0)) (
    ret (([]:List Cl),r14.2)) (
       rec0 r14.1 (IntKind.wrap .i64 (v9+1)))) (
   ab (!(r13.2==0)) (
    ret (([]:List Cl),r13.2)) (
       rec0 v8 (IntKind.wrap .i64 (v9+1))))) (
   ab (r7.2==0) (
   aa k (fi k v8 [(Cl.mk r4 r5)]) fun r15=>
   ab (!(r15.2==0)) (
    ret (([]:List Cl),r15.2)) (
       rec0 r15.1 (IntKind.wrap .i64 (v9+1)))) (
   ab (!(r7.2==0)) (
    ret (([]:List Cl),r7.2)) (
       rec0 v8 (IntKind.wrap .i64 (v9+1))))))) (
  aa k (dH k x3.neg i) fun r16=>
  ab (r16) (
  aa k (rt k a_r) fun r17=>
  ab (r17.2==0) (
   aa k (kc k [(Cl.mk r4 r5)] r17.1) fun r18=>
   ab (r18.2==0) (
   aa k (fi k v8 r18.1) fun r19=>
   ab (!(r19.2==0)) (
    ret (([]:List Cl),r19.2)) (
       rec0 r19.1 (IntKind.wrap .i64 (v9+1)))) (
   ab (!(r18.2==0)) (
    ret (([]:List Cl),r18.2)) (
       rec0 v8 (IntKind.wrap .i64 (v9+1))))) (
   ab (r17.2==0) (
   aa k (fi k v8 [(Cl.mk r4 r5)]) fun r20=>
   ab (!(r20.2==0)) (
    ret (([]:List Cl),r20.2)) (
       rec0 r20.1 (IntKind.wrap .i64 (v9+1)))) (
   ab (!(r17.2==0)) (
    ret (([]:List Cl),r17.2)) (
       rec0 v8 (IntKind.wrap .i64 (v9+1)))))) (
  aa k (kc k [(Cl.mk r4 r5)] [(Cl.mk 0 0)]) fun r21=>
  ab (r21.2==0) (
   aa k (fi k v8 r21.1) fun r22=>
   ab (!(r22.2==0)) (
   ret (([]:List Cl),r22.2)) (
      rec0 r22.1 (IntKind.wrap .i64 (v9+1)))) (
   ab (!(r21.2==0)) (
   ret (([]:List Cl),r21.2)) (
      rec0 v8 (IntKind.wrap .i64 (v9+1))))))) (
 ret (v8,0))
noncomputable def mn {S:Type} (k:Nat) (ret:List Cl×Int→Option S) (f:List Cl) (i:Int) (a_r:List Cl):Nat→(List Cl)→Int→Option S
 |0=>fun _ _=> .none
 |m+1=>fun v8 v9=>uV k ret f i a_r (mn k ret f i a_r m) v8 v9
def EU {S:Type} (k:Nat) (ret:List Cl×Int→Option S) (J0:(List Cl)→Int→Option S) (f:List Cl) (i:Int) (a_r:List Cl):Option S:=
 aa k (fS k f) fun r1=>
 ab (!r1) (
 ret (([]:List Cl),2)) (
 ab (decide ((i:Int)<0)) (
  ret (([]:List Cl),2)) (
  ab (decide ((i:Int)≥24)) (
  ret (([]:List Cl),2)) (
  aa k (dU k a_r) fun r2=>
  ab (!r2) (
   ret (([]:List Cl),2)) (
     J0 [] 0))))
noncomputable def wm {S:Type} (k:Nat) (f:List Cl) (i:Int) (a_r:List Cl) (ret:List Cl×Int→Option S):Option S:=EU k ret (fun v8 v9=>mn k ret f i a_r k v8 v9) f i a_r
def OI {S:Type} (k:Nat) (ret:List Cl×Int→Option S) (f g:List Cl):Option S:=
 aa k (dU k f) fun r1=>
 ab (!r1) (
 ret (([]:List Cl),2)) (
 aa k (dU k g) fun r2=>
 ab (!r2) (
  ret (([]:List Cl),2)) (
  Option.bind (ax 1099511627776 ([]:List Cl).length f.length) fun x3=>
  Option.bind (ax 1099511627776 (([]:List Cl)++f).length g.length) fun x4=>
  aa k (hJ k ((([]:List Cl)++f)++g)) fun r5=>
  ret (r5.1,r5.2)))
noncomputable def wi {S:Type} (k:Nat) (f g:List Cl) (ret:List Cl×Int→Option S):Option S:=OI k ret f g
def uS {S:Type} (k:Nat) (ret:List Cl×Int→Option S) (f:List Cl) (i:Int) (a_r v8:List Cl) (v9:Int) (rec0:(List Cl)→Int→Option S) (g11:List Cl) (v12:Int):Option S:=
 ab (v12==0) (
 aa k (wi k v8 g11) fun r11=>
 ab (!(r11.2==0)) (
  ret (([]:List Cl),r11.2)) (
   rec0 r11.1 (IntKind.wrap .i64 (v9+1)))) (
 ab (!(v12==0)) (
  ret (([]:List Cl),v12)) (
   rec0 v8 (IntKind.wrap .i64 (v9+1))))
noncomputable def ov {S:Type} (k:Nat) (ret:List Cl×Int→Option S) (rec0:(List Cl)→Int→Option S) (f:List Cl) (i:Int) (a_r v8:List Cl) (v9:Int):Nat→(List Cl)→Int→Option S
 |0=>fun _ _=> .none
 |_+1=>fun g11 v12=>uS k ret f i a_r v8 v9 rec0 g11 v12
def ql {S:Type} (k:Nat) (ret:List Cl×Int→Option S) (f:List Cl) (i:Int) (a_r:List Cl) (J1:(List Cl)→Int→(List Cl)→Int→Option S) (rec0:(List Cl)→Int→Option S) (v8:List Cl) (v9:Int):Option S:=
 ab (decide ((v9:Int)<(f.length:Int))) (
 Option.bind (al f v9) fun x3=>
 aa k (fR k x3.pos i) fun r4=>
 aa k (fR k x3.neg i) fun r5=>
 aa k (dH k x3.pos i) fun r6=>
 ab (r6) (
  aa k (jc k [(Cl.mk r4 r5)] a_r) fun r7=>
  ab (r7.2==0) (
  aa k (dH k x3.neg i) fun r8=>
  ab (r8) (
   aa k (nz k a_r) fun r9=>
   ab (r9.2==0) (
   aa k (jc k r7.1 r9.1) fun r10=>
      J1 v8 v9 r10.1 r10.2) (
      J1 v8 v9 r7.1 r9.2)) (
     J1 v8 v9 r7.1 r7.2)) (
    J1 v8 v9 r7.1 r7.2)) (
  aa k (dH k x3.neg i) fun r12=>
  ab (r12) (
  aa k (nz k a_r) fun r13=>
  ab (r13.2==0) (
   aa k (jc k [(Cl.mk r4 r5)] r13.1) fun r14=>
     J1 v8 v9 r14.1 r14.2) (
     J1 v8 v9 [(Cl.mk r4 r5)] r13.2)) (
    J1 v8 v9 [(Cl.mk r4 r5)] 0))) (
 ret (v8,0))
noncomputable def kP {S:Type} (k:Nat) (ret:List Cl×Int→Option S) (f:List Cl) (i:Int) (a_r:List Cl):Nat→(List Cl)→Int→Option S
 |0=>fun _ _=> .none
 |m+1=>fun v8 v9=>ql k ret f i a_r (fun v8 v9 g11 v12=>ov k ret (kP k ret f i a_r m) f i a_r v8 v9 k g11 v12) (kP k ret f i a_r m) v8 v9
def EQ {S:Type} (k:Nat) (ret:List Cl×Int→Option S) (J0:(List Cl)→Int→Option S) (f:List Cl) (i:Int) (a_r:List Cl):Option S:=
 aa k (dU k f) fun r1=>
 ab (!r1) (
 ret (([]:List Cl),2)) (
 aa k (dU k a_r) fun r2=>
 ab (!r2) (
  ret (([]:List Cl),2)) (
  ab (decide ((i:Int)<0)) (
  ret (([]:List Cl),2)) (
  ab (decide ((i:Int)≥24)) (
   ret (([]:List Cl),2)) (
     J0 [] 0))))
noncomputable def wj {S:Type} (k:Nat) (f:List Cl) (i:Int) (a_r:List Cl) (ret:List Cl×Int→Option S):Option S:=EQ k ret (fun v8 v9=>kP k ret f i a_r k v8 v9) f i a_r
def OZ {S:Type} (k:Nat) (ret:List Cl×Int→Option S) (f:List Cl) (isFace:Bool) (i:Int) (a_r:List Cl) (depth:Int):Option S:=
 aa k (rq k f) fun r1=>
 aa k (dH k r1 (IntKind.wrap .i64 (i+depth))) fun r2=>
 ab (!r2) (
 ret (f,0)) (
 aa k (lP k a_r 0 depth) fun r3=>
 ab (!(r3.2==0)) (
  ret (([]:List Cl),r3.2)) (
  ab (isFace) (
  aa k (wm k f (IntKind.wrap .i64 (i+depth)) r3.1) fun r4=>
  ret (r4.1,r4.2)) (
  aa k (wj k f (IntKind.wrap .i64 (i+depth)) r3.1) fun r5=>
  ret (r5.1,r5.2))))
noncomputable def rD {S:Type} (k:Nat) (f:List Cl) (isFace:Bool) (i:Int) (a_r:List Cl) (depth:Int) (ret:List Cl×Int→Option S):Option S:=OZ k ret f isFace i a_r depth
def uE {S:Type} (k:Nat) (ret:Int→Option S) (i:Int) (rec0:(List Int)→Int→Option S) (l5:List Int) (v6:Int):Option S:=
 ab (decide ((v6:Int)<(l5.length:Int))) (
 ab (decide ((i:Int)≥0)) (
  Option.bind (al l5 v6) fun x3=>
  Option.bind (al l5 v6) fun x4=>
  ab (decide ((x4:Int)>i)) (
  Option.bind (al l5 v6) fun x5=>
  Option.bind (al l5 v6) fun x6=>
  Option.bind (al l5 v6) fun x7=>
  Option.bind (al l5 v6) fun x8=>
    rec0 (l5.set (Int.toNat v6) (IntKind.wrap .i64 (x6-1))) (IntKind.wrap .i64 (v6+1))) (
    rec0 l5 (IntKind.wrap .i64 (v6+1)))) (
   rec0 l5 (IntKind.wrap .i64 (v6+1)))) (
 aa k (g_ k l5) fun r9=>
 ret r9)
noncomputable def mg {S:Type} (k:Nat) (ret:Int→Option S) (i:Int):Nat→(List Int)→Int→Option S
 |0=>fun _ _=> .none
 |m+1=>fun l5 v6=>uE k ret i (mg k ret i m) l5 v6
noncomputable def EB {S:Type} (k:Nat) (ret:Int→Option S) (J0:(List Int)→Int→Option S) (s i:Int):Option S:=
 aa k (fR k s i) fun r1=>
 aa k (g9 k r1) fun r2=>
 J0 r2 0
noncomputable def nw {S:Type} (k:Nat) (s i:Int) (ret:Int→Option S):Option S:=EB k ret (fun l5 v6=>mg k ret i k l5 v6) s i
def u_ {S:Type} (k:Nat) (ret:List Cl→Option S) (f:List Cl) (i:Int) (rec0:(List Cl)→Int→Option S) (out5:List Cl) (v6:Int):Option S:=
 ab (decide ((v6:Int)<(f.length:Int))) (
 Option.bind (al f v6) fun x1=>
 aa k (nw k x1.pos i) fun r2=>
 Option.bind (al f v6) fun x3=>
 aa k (nw k x3.neg i) fun r4=>
 Option.bind (ax 1099511627776 out5.length [(Cl.mk r2 r4)].length) fun x5=>
  rec0 (out5++[(Cl.mk r2 r4)]) (IntKind.wrap .i64 (v6+1))) (
 aa k (hJ k out5) fun r6=>
 ret r6.1)
noncomputable def oE {S:Type} (k:Nat) (ret:List Cl→Option S) (f:List Cl) (i:Int):Nat→(List Cl)→Int→Option S
 |0=>fun _ _=> .none
 |m+1=>fun out5 v6=>u_ k ret f i (oE k ret f i m) out5 v6
noncomputable def E6 {S:Type} (k:Nat) (ret:List Cl→Option S) (J0:(List Cl)→Int→Option S) (f:List Cl) (i:Int):Option S:=
 J0 ([]:List Cl) 0
noncomputable def rC {S:Type} (k:Nat) (f:List Cl) (i:Int) (ret:List Cl→Option S):Option S:=E6 k ret (fun out5 v6=>oE k ret f i k out5 v6) f i
abbrev gg (S:Type):=Tm→Int→(List Cl)→Int→Bool→(Tm→Option S)→Option S
def va {S:Type} (hd:gg S) (k:Nat) (ret:Tm→Option S) (t:Tm) (b11_3:List Cl) (b11_4:List Tm) (b11_5:List (Br Tm)) (i v18:Int) (a_r:List Cl) (depth:Int) (drop:Bool) (rec1:(List (Br Tm))→Int→Option S) (rec2:(List Cl)→(List Tm)→Int→Option S) (b21_0:List Cl) (b21_1:List Tm) (v22:Int):Option S:=
 Option.bind (al t.sys v18) fun x12=>
 ab (decide ((v22:Int)<(x12.kids.length:Int))) (
 Option.bind (al t.sys v18) fun x13=>
 Option.bind (al x13.kids v22) fun x14=>
 aa k (nC k t.kind) fun r15=>
 hd (ac x14) i a_r (IntKind.wrap .i64 (depth+r15)) drop fun r16=>
 ab (decide ((r16.kind:Int)<0)) (
  ret (ac r16)) (
  Option.bind (ax 1099511627776 b21_1.length [(ac r16)].length) fun x17=>
   rec2 b21_0 (b21_1++[(ac r16)]) (IntKind.wrap .i64 (v22+1)))) (
 Option.bind (ax 1099511627776 b11_5.length [(Br.mk b21_0 b21_1)].length) fun x18=>
  rec1 (b11_5++[(Br.mk b21_0 b21_1)]) (IntKind.wrap .i64 (v18+1)))
noncomputable def jx {S:Type} (hd:gg S) (k:Nat) (ret:Tm→Option S) (rec1:(List (Br Tm))→Int→Option S) (t:Tm) (b11_3:List Cl) (b11_4:List Tm) (b11_5:List (Br Tm)) (i v18:Int) (a_r:List Cl) (depth:Int) (drop:Bool):Nat→(List Cl)→(List Tm)→Int→Option S
 |0=>fun _ _ _=> .none
 |m+1=>fun b21_0 b21_1 v22=>va hd k ret t b11_3 b11_4 b11_5 i v18 a_r depth drop rec1 (jx hd k ret rec1 t b11_3 b11_4 b11_5 i v18 a_r depth drop m) b21_0 b21_1 v22
def qH {S:Type} (hd:gg S) (k:Nat) (ret:Tm→Option S) (t:Tm) (b11_3:List Cl) (b11_4:List Tm) (i:Int) (a_r:List Cl) (depth:Int) (drop:Bool) (J2:(List (Br Tm))→Int→(List Cl)→(List Tm)→Int→Option S) (rec1:(List (Br Tm))→Int→Option S) (b11_5:List (Br Tm)) (v18:Int):Option S:=
 ab (decide ((v18:Int)<(t.sys.length:Int))) (
 Option.bind (al t.sys v18) fun x8=>
 aa k (rD k x8.face true i a_r depth) fun r9=>
 ab (!(r9.2==0)) (
  aa k (d9 k r9.2) fun r10=>
  ret (Tm.mk r10.1 r10.2.1 r10.2.2 [] [] [])) (
  ab ((r9.1.length:Int)==0) (
    rec1 b11_5 (IntKind.wrap .i64 (v18+1))) (
  ab (drop) (
   aa k (rC k r9.1 (IntKind.wrap .i64 (i+depth))) fun r11=>
     J2 b11_5 v18 r11 ([]:List Tm) 0) (
     J2 b11_5 v18 r9.1 ([]:List Tm) 0)))) (
 ret (Tm.mk t.kind t.n t.name b11_3 b11_4 b11_5))
noncomputable def gE {S:Type} (hd:gg S) (k:Nat) (ret:Tm→Option S) (t:Tm) (b11_3:List Cl) (b11_4:List Tm) (i:Int) (a_r:List Cl) (depth:Int) (drop:Bool):Nat→(List (Br Tm))→Int→Option S
 |0=>fun _ _=> .none
 |m+1=>fun b11_5 v18=>qH hd k ret t b11_3 b11_4 i a_r depth drop (fun b11_5 v18 b21_0 b21_1 v22=>jx hd k ret (gE hd k ret t b11_3 b11_4 i a_r depth drop m) t b11_3 b11_4 b11_5 i v18 a_r depth drop k b21_0 b21_1 v22) (gE hd k ret t b11_3 b11_4 i a_r depth drop m) b11_5 v18
def qG {S:Type} (hd:gg S) (k:Nat) (ret:Tm→Option S) (t:Tm) (i:Int) (a_r:List Cl) (depth:Int) (drop:Bool) (J1:(List Cl)→(List Tm)→(List (Br Tm))→Int→Option S) (rec0:(List Cl)→(List Tm)→Int→Option S) (b11_3:List Cl) (b11_4:List Tm) (v14:Int):Option S:=
 ab (decide ((v14:Int)<(t.kids.length:Int))) (
 aa k (nA k t.kind v14) fun r4=>
 Option.bind (al t.kids v14) fun x5=>
 hd (ac x5) i a_r (IntKind.wrap .i64 (depth+r4.2)) drop fun r6=>
 ab (decide ((r6.kind:Int)<0)) (
  ret (ac r6)) (
  Option.bind (ax 1099511627776 b11_4.length [(ac r6)].length) fun x7=>
   rec0 b11_3 (b11_4++[(ac r6)]) (IntKind.wrap .i64 (v14+1)))) (
  J1 b11_3 b11_4 ([]:List (Br Tm)) 0)
noncomputable def kT {S:Type} (hd:gg S) (k:Nat) (ret:Tm→Option S) (t:Tm) (i:Int) (a_r:List Cl) (depth:Int) (drop:Bool):Nat→(List Cl)→(List Tm)→Int→Option S
 |0=>fun _ _ _=> .none
 |m+1=>fun b11_3 b11_4 v14=>qG hd k ret t i a_r depth drop (fun b11_3 b11_4 b11_5 v18=>gE hd k ret t b11_3 b11_4 i a_r depth drop k b11_5 v18) (kT hd k ret t i a_r depth drop m) b11_3 b11_4 v14
def E7 {S:Type} (hd:gg S) (k:Nat) (ret:Tm→Option S) (J0:(List Cl)→(List Tm)→Int→Option S) (t:Tm) (i:Int) (a_r:List Cl) (depth:Int) (drop:Bool):Option S:=
 aa k (rD k t.r (t.kind==14) i a_r depth) fun r1=>
 ab (!(r1.2==0)) (
 aa k (d9 k r1.2) fun r2=>
 ret (Tm.mk r2.1 r2.2.1 r2.2.2 [] [] [])) (
 ab (drop) (
  aa k (rC k r1.1 (IntKind.wrap .i64 (i+depth))) fun r3=>
   J0 r3 ([]:List Tm) 0) (
   J0 r1.1 ([]:List Tm) 0))
noncomputable def fj {S:Type}:Nat→Tm→Int→(List Cl)→Int→Bool→(Tm→Option S)→Option S
 |0=>fun _ _ _ _ _ _=> .none
 |k+1=>fun t i a_r depth drop ret=>E7 (fj k) k ret (fun b11_3 b11_4 v14=>kT (fj k) k ret t i a_r depth drop k b11_3 b11_4 v14) t i a_r depth drop
def OY {S:Type} (k:Nat) (ret:Tm→Option S) (t:Tm) (i:Int) (a_r:List Cl):Option S:=
 ab (decide ((t.kind:Int)<0)) (
 ret (ac t)) (
 aa k (lP k a_r i 1) fun r1=>
 ab (!(r1.2==0)) (
  aa k (d9 k r1.2) fun r2=>
  ret (Tm.mk r2.1 r2.2.1 r2.2.2 [] [] [])) (
  fj k (ac t) i r1.1 0 true fun r3=>
  ret (ac r3)))
noncomputable def rB {S:Type} (k:Nat) (t:Tm) (i:Int) (a_r:List Cl) (ret:Tm→Option S):Option S:=OY k ret t i a_r
def O7 {S:Type} (k:Nat) (ret:Tm→Option S) (line:Tm) (a_r:List Cl):Option S:=
 ab (decide ((line.kind:Int)<0)) (
 ret (ac line)) (
 aa k (ws k (ac line) 1 2) fun r1=>
 ab (!(r1.2==0)) (
  aa k (d9 k r1.2) fun r2=>
  ret (Tm.mk r2.1 r2.2.1 r2.2.2 [] [] [])) (
  aa k (rB k (ac r1.1) 0 a_r) fun r3=>
  ret (ac r3)))
noncomputable def rH {S:Type} (k:Nat) (line:Tm) (a_r:List Cl) (ret:Tm→Option S):Option S:=O7 k ret line a_r
def E4 {S:Type} (k:Nat) (ret:Tm→Option S) (t:Tm) (vars dims:Int):Option S:=
 ab (decide ((t.kind:Int)<0)) (
 ret (ac t)) (
 cY k (ac t) 0 vars 0 0 fun r1=>
 ab (decide ((r1.kind:Int)<0)) (
  ret (ac r1)) (
  cY k (ac r1) 0 0 0 dims fun r2=>
  ret (ac r2)))
noncomputable def d_ {S:Type} (k:Nat) (t:Tm) (vars dims:Int) (ret:Tm→Option S):Option S:=E4 k ret t vars dims
def vc {S:Type} (k:Nat) (ret:Tm→Option S) (kind:Int) (kids:List Tm) (rec0:Int→Option S) (i5:Int):Option S:=
 ab (decide ((i5:Int)<(kids.length:Int))) (
 Option.bind (al kids i5) fun x1=>
 ab (decide ((x1.kind:Int)<0)) (
  Option.bind (al kids i5) fun x2=>
  ret (ac x2)) (
   rec0 (IntKind.wrap .i64 (i5+1)))) (
 ret (Tm.mk kind 0 ByteArray.empty [] kids []))
noncomputable def oF {S:Type} (k:Nat) (ret:Tm→Option S) (kind:Int) (kids:List Tm):Nat→Int→Option S
 |0=>fun _=> .none
 |m+1=>fun i5=>vc k ret kind kids (oF k ret kind kids m) i5
noncomputable def yV {S:Type} (k:Nat) (ret:Tm→Option S) (J0:Int→Option S) (kind:Int) (kids:List Tm):Option S:=
 J0 0
noncomputable def nE {S:Type} (k:Nat) (kind:Int) (kids:List Tm) (ret:Tm→Option S):Option S:=yV k ret (fun i5=>oF k ret kind kids k i5) kind kids
noncomputable def Pb {S:Type} (k:Nat) (ret:Tm→Option S) (kind:Int) (a b:Tm):Option S:=
 aa k (nE k kind [(ac a),(ac b)]) fun r1=>
 ret (ac r1)
noncomputable def cv {S:Type} (k:Nat) (kind:Int) (a b:Tm) (ret:Tm→Option S):Option S:=Pb k ret kind a b
def O0 {S:Type} (k:Nat) (ret:Tm→Option S) (line:Tm) (phi:List Cl) (a:Tm) (a_end:Cl) (a_r:List Cl):Option S:=
 aa k (lP k phi 0 1) fun r1=>
 ab (r1.2==0) (
 aa k (fi k r1.1 [a_end]) fun r2=>
 ab (!(r2.2==0)) (
  aa k (d9 k r2.2) fun r3=>
  ret (Tm.mk r3.1 r3.2.1 r3.2.2 [] [] [])) (
  aa k (rH k (ac line) a_r) fun r4=>
  aa k (d_ k (ac a) 0 1) fun r5=>
  aa k (cv k 14 (ac r4) (ac r5)) fun r6=>
  ab (decide ((r6.kind:Int)≥0)) (
  ret (Tm.mk r6.kind r6.n r6.name r2.1 r6.kids r6.sys)) (
  ret (ac r6)))) (
 ab (!(r1.2==0)) (
  aa k (d9 k r1.2) fun r7=>
  ret (Tm.mk r7.1 r7.2.1 r7.2.2 [] [] [])) (
  aa k (rH k (ac line) a_r) fun r8=>
  aa k (d_ k (ac a) 0 1) fun r9=>
  aa k (cv k 14 (ac r8) (ac r9)) fun r10=>
  ab (decide ((r10.kind:Int)≥0)) (
  ret (Tm.mk r10.kind r10.n r10.name r1.1 r10.kids r10.sys)) (
  ret (ac r10))))
noncomputable def rF {S:Type} (k:Nat) (line:Tm) (phi:List Cl) (a:Tm) (a_end:Cl) (a_r:List Cl) (ret:Tm→Option S):Option S:=O0 k ret line phi a a_end a_r
noncomputable def O_ {S:Type} (k:Nat) (ret:Tm→Option S) (line:Tm) (phi:List Cl) (a:Tm):Option S:=
 aa k (rF k (ac line) phi (ac a) (Cl.mk 0 1) [(Cl.mk 3 0)]) fun r1=>
 ret (ac r1)
noncomputable def AU {S:Type} (k:Nat) (line:Tm) (phi:List Cl) (a:Tm) (ret:Tm→Option S):Option S:=O_ k ret line phi a
def O4 {S:Type} (k:Nat) (ret:Tm×Int→Option S) (t:Tm):Option S:=
 ab (decide ((t.kind:Int)<0)) (
 ret ((Tm.mk 0 0 ByteArray.empty [] [] []),IntKind.wrap .i64 (0-t.kind))) (
 aa k (nB k (ac t)) fun r1=>
 ab (!(r1==0)) (
  ret ((Tm.mk 0 0 ByteArray.empty [] [] []),r1)) (
  ret ((ac t),0)))
noncomputable def jd {S:Type} (k:Nat) (t:Tm) (ret:Tm×Int→Option S):Option S:=O4 k ret t
def qJ {S:Type} (k:Nat) (ret:Tm×Int→Option S) (line a:Tm) (phi:List Cl) (v8:Int):Option S:=
 ab (!(v8==0)) (
 ret ((Tm.mk 0 0 ByteArray.empty [] [] []),v8)) (
 aa k (AU k (ac line) phi (ac a)) fun r3=>
 aa k (jd k (ac r3)) fun r4=>
 ret ((ac r4.1),r4.2))
noncomputable def xu {S:Type} (k:Nat) (ret:Tm×Int→Option S) (line a:Tm) (phi:List Cl):Nat→Int→Option S
 |0=>fun _=> .none
 |_+1=>fun v8=>qJ k ret line a phi v8
def E9 {S:Type} (k:Nat) (ret:Tm×Int→Option S) (J0:Int→Option S) (line:Tm) (phi:List Cl) (a:Tm):Option S:=
 aa k (jf k [(ac line),(ac a)]) fun r1=>
 ab (r1==0) (
 aa k (fS k phi) fun r2=>
 ab (!r2) (
   J0 2) (
   J0 r1)) (
  J0 r1)
noncomputable def wA {S:Type} (k:Nat) (line:Tm) (phi:List Cl) (a:Tm) (ret:Tm×Int→Option S):Option S:=E9 k ret (fun v8=>xu k ret line a phi k v8) line phi a
noncomputable def Nt {S:Type} (k:Nat) (ret:Tm×Int→Option S) (line:Tm) (phi:List Cl) (a:Tm):Option S:=
 aa k (qW k (ac line) phi (ac a) (Cl.mk 1 0) [(Cl.mk 0 1),(Cl.mk 2 0)]) fun r1=>
 ret ((ac r1.1),r1.2)
noncomputable def vv {S:Type} (k:Nat) (line:Tm) (phi:List Cl) (a:Tm) (ret:Tm×Int→Option S):Option S:=Nt k ret line phi a
noncomputable def O1 {S:Type} (k:Nat) (ret:Tm→Option S) (line:Tm) (phi:List Cl) (a:Tm):Option S:=
 aa k (rF k (ac line) phi (ac a) (Cl.mk 1 0) [(Cl.mk 0 1),(Cl.mk 2 0)]) fun r1=>
 ret (ac r1)
noncomputable def AT {S:Type} (k:Nat) (line:Tm) (phi:List Cl) (a:Tm) (ret:Tm→Option S):Option S:=O1 k ret line phi a
def qI {S:Type} (k:Nat) (ret:Tm×Int→Option S) (line a:Tm) (phi:List Cl) (v8:Int):Option S:=
 ab (!(v8==0)) (
 ret ((Tm.mk 0 0 ByteArray.empty [] [] []),v8)) (
 aa k (AT k (ac line) phi (ac a)) fun r3=>
 aa k (jd k (ac r3)) fun r4=>
 ret ((ac r4.1),r4.2))
noncomputable def xt {S:Type} (k:Nat) (ret:Tm×Int→Option S) (line a:Tm) (phi:List Cl):Nat→Int→Option S
 |0=>fun _=> .none
 |_+1=>fun v8=>qI k ret line a phi v8
def E8 {S:Type} (k:Nat) (ret:Tm×Int→Option S) (J0:Int→Option S) (line:Tm) (phi:List Cl) (a:Tm):Option S:=
 aa k (jf k [(ac line),(ac a)]) fun r1=>
 ab (r1==0) (
 aa k (fS k phi) fun r2=>
 ab (!r2) (
   J0 2) (
   J0 r1)) (
  J0 r1)
noncomputable def wv {S:Type} (k:Nat) (line:Tm) (phi:List Cl) (a:Tm) (ret:Tm×Int→Option S):Option S:=E8 k ret (fun v8=>xt k ret line a phi k v8) line phi a
abbrev eB (S:Type):=Tm→Tm→(Bool→Option S)→Option S
def u7 {S:Type} (hd:eB S) (k:Nat) (ret:Bool→Option S) (a b:List Tm) (rec0:Int→Option S) (i5:Int):Option S:=
 ab (decide ((i5:Int)<(a.length:Int))) (
 Option.bind (al a i5) fun x1=>
 Option.bind (al b i5) fun x2=>
 hd (ac x1) (ac x2) fun r3=>
 ab (!r3) (
  ret false) (
   rec0 (IntKind.wrap .i64 (i5+1)))) (
 ret true)
noncomputable def oD {S:Type} (hd:eB S) (k:Nat) (ret:Bool→Option S) (a b:List Tm):Nat→Int→Option S
 |0=>fun _=> .none
 |m+1=>fun i5=>u7 hd k ret a b (oD hd k ret a b m) i5
def E2 {S:Type} (hd:eB S) (k:Nat) (ret:Bool→Option S) (J0:Int→Option S) (a b:List Tm):Option S:=
 ab (!((a.length:Int)==(b.length:Int))) (
 ret false) (
  J0 0)
noncomputable def ry {S:Type} (hd:eB S) (k:Nat) (a b:List Tm) (ret:Bool→Option S):Option S:=E2 hd k ret (fun i5=>oD hd k ret a b k i5) a b
def u5 {S:Type} (hd:eB S) (k:Nat) (ret:Bool→Option S) (a b:Tm) (rec0:Int→Option S) (i5:Int):Option S:=
 ab (decide ((i5:Int)<(a.sys.length:Int))) (
 Option.bind (al a.sys i5) fun x3=>
 Option.bind (al b.sys i5) fun x4=>
 aa k (hU k x3.face x4.face) fun r5=>
 ab (!r5) (
  ret false) (
  Option.bind (al a.sys i5) fun x6=>
  Option.bind (al b.sys i5) fun x7=>
  aa k (ry hd k x6.kids x7.kids) fun r8=>
  ab (!r8) (
  ret false) (
    rec0 (IntKind.wrap .i64 (i5+1))))) (
 ret true)
noncomputable def mq {S:Type} (hd:eB S) (k:Nat) (ret:Bool→Option S) (a b:Tm):Nat→Int→Option S
 |0=>fun _=> .none
 |m+1=>fun i5=>u5 hd k ret a b (mq hd k ret a b m) i5
def E0 {S:Type} (hd:eB S) (k:Nat) (ret:Bool→Option S) (J0:Int→Option S) (a b:Tm):Option S:=
 ab (!(a.kind==b.kind)) (
 ret false) (
 ab (!(a.n==b.n)) (
  ret false) (
  ab (!(a.name==b.name)) (
  ret false) (
  aa k (hU k a.r b.r) fun r1=>
  ab (!r1) (
   ret false) (
   aa k (ry hd k a.kids b.kids) fun r2=>
   ab (!r2) (
   ret false) (
   ab (!((a.sys.length:Int)==(b.sys.length:Int))) (
    ret false) (
       J0 0))))))
noncomputable def d8 {S:Type}:Nat→Tm→Tm→(Bool→Option S)→Option S
 |0=>fun _ _ _=> .none
 |k+1=>fun a b ret=>E0 (d8 k) k ret (fun i5=>mq (d8 k) k ret a b k i5) a b
def Ok {S:Type} (k:Nat) (ret:Bool→Option S) (a:Tm) (a_e:Int) (b:Tm) (a_bad:Int):Option S:=
 d8 k (ac a) (ac b) fun r1=>
 ab (r1) (
 ret (a_e==a_bad)) (
 ret false)
noncomputable def ja {S:Type} (k:Nat) (a:Tm) (a_e:Int) (b:Tm) (a_bad:Int) (ret:Bool→Option S):Option S:=Ok k ret a a_e b a_bad
def Oi {S:Type} (k:Nat) (ret:Bool→Option S) (line:Tm) (phi:List Cl) (t:Tm):Option S:=
 aa k (j7 k (ac line) (ac t) ([]:List (Br Tm))) fun r1=>
 ab (r1) (
 aa k (g7 k) fun r2=>
 ret r2) (
 ab (decide (((phi.length:Int):Int)>24)) (
  aa k (g7 k) fun r3=>
  ret r3) (
  aa k (qV k (ac line) phi (ac t)) fun r4=>
  aa k (wA k (ac line) phi (ac t)) fun r5=>
  aa k (vv k (ac line) phi (ac t)) fun r6=>
  aa k (wv k (ac line) phi (ac t)) fun r7=>
  aa k (ja k (ac r4.1) r4.2 (ac r5.1) r5.2) fun r8=>
  ab (r8) (
  aa k (ja k (ac r6.1) r6.2 (ac r7.1) r7.2) fun r9=>
  ab (r9) (
   aa k (g7 k) fun r10=>
   ret r10) (
   ret false)) (
  ret false)))
noncomputable def AN {S:Type} (k:Nat) (line:Tm) (phi:List Cl) (t:Tm) (ret:Bool→Option S):Option S:=Oi k ret line phi t
abbrev eC (S:Type):=Tm→(Tm→Option S)→Option S
def vi {S:Type} (hd:eC S) (k:Nat) (ret:List Tm→Option S) (l:List Tm) (rec0:(List Tm)→Int→Option S) (out3:List Tm) (v8:Int):Option S:=
 ab (decide ((v8:Int)<(l.length:Int))) (
 Option.bind (al l v8) fun x1=>
 hd (ac x1) fun r2=>
 Option.bind (ax 1099511627776 out3.length [(ac r2)].length) fun x3=>
  rec0 (out3++[(ac r2)]) (IntKind.wrap .i64 (v8+1))) (
 ret out3)
noncomputable def oL {S:Type} (hd:eC S) (k:Nat) (ret:List Tm→Option S) (l:List Tm):Nat→(List Tm)→Int→Option S
 |0=>fun _ _=> .none
 |m+1=>fun out3 v8=>vi hd k ret l (oL hd k ret l m) out3 v8
noncomputable def Ff {S:Type} (hd:eC S) (k:Nat) (ret:List Tm→Option S) (J0:(List Tm)→Int→Option S) (l:List Tm):Option S:=
 J0 ([]:List Tm) 0
noncomputable def rJ {S:Type} (hd:eC S) (k:Nat) (l:List Tm) (ret:List Tm→Option S):Option S:=Ff hd k ret (fun out3 v8=>oL hd k ret l k out3 v8) l
def vh {S:Type} (hd:eC S) (k:Nat) (ret:Tm→Option S) (t:Tm) (r1:List Cl) (r2:List Tm) (rec0:(List (Br Tm))→Int→Option S) (b3_5:List (Br Tm)) (v22:Int):Option S:=
 ab (decide ((v22:Int)<(t.sys.length:Int))) (
 Option.bind (al t.sys v22) fun x3=>
 o9 x3.face fun r4=>
 aa k (rJ hd k x3.kids) fun r5=>
 Option.bind (ax 1099511627776 b3_5.length [(Br.mk r4 r5)].length) fun x6=>
  rec0 (b3_5++[(Br.mk r4 r5)]) (IntKind.wrap .i64 (v22+1))) (
 ret (Tm.mk t.kind t.n t.name r1 r2 b3_5))
noncomputable def oK {S:Type} (hd:eC S) (k:Nat) (ret:Tm→Option S) (t:Tm) (r1:List Cl) (r2:List Tm):Nat→(List (Br Tm))→Int→Option S
 |0=>fun _ _=> .none
 |m+1=>fun b3_5 v22=>vh hd k ret t r1 r2 (oK hd k ret t r1 r2 m) b3_5 v22
noncomputable def Fe {S:Type} (hd:eC S) (k:Nat) (ret:Tm→Option S) (J0:(List Cl)→(List Tm)→(List (Br Tm))→Int→Option S) (t:Tm):Option S:=
 o9 t.r fun r1=>
 aa k (rJ hd k t.kids) fun r2=>
 J0 r1 r2 ([]:List (Br Tm)) 0
noncomputable def eG {S:Type}:Nat→Tm→(Tm→Option S)→Option S
 |0=>fun _ _=> .none
 |k+1=>fun t ret=>Fe (eG k) k ret (fun r1 r2 b3_5 v22=>oK (eG k) k ret t r1 r2 k b3_5 v22) t
noncomputable def ND {S:Type} (k:Nat) (ret:Int×Int×ByteArray×List Tm×Int→Option S) (t a f y:Tm) (c0:Int):Option S:=
 aa k (b_ k (ac a) 1 1 c0) fun r1=>
 aa k (b_ k (ac y) 1 0 r1.2) fun r2=>
 aa k (b_ k (ac f) 1 0 r2.2) fun r3=>
 aa k (eD k 0) fun r4=>
 aa k (bz k 6 [(ac r3.1),(Tm.mk r4.1 r4.2.1 r4.2.2 [] [] [])]) fun r5=>
 aa k (bz k 11 [(ac r1.1),(ac r2.1),(Tm.mk r5.1 r5.2.1 r5.2.2.1 [] r5.2.2.2 [])]) fun r6=>
 aa k (bz k 7 [(ac t),(Tm.mk r6.1 r6.2.1 r6.2.2.1 [] r6.2.2.2 [])]) fun r7=>
 ret (r7.1,r7.2.1,r7.2.2.1,r7.2.2.2,r3.2)
noncomputable def ng {S:Type} (k:Nat) (t a f y:Tm) (c0:Int) (ret:Int×Int×ByteArray×List Tm×Int→Option S):Option S:=ND k ret t a f y c0
noncomputable def Nw {S:Type} (k:Nat) (ret:Tm×Int→Option S) (t a f y:Tm):Option S:=
 aa k (jZ k [(ac t),(ac a),(ac f),(ac y)]) fun r1=>
 eG k (ac t) fun r2=>
 aa k (ng k (ac r2) (ac a) (ac f) (ac y) r1) fun r3=>
 aa k (dT k (Tm.mk r3.1 r3.2.1 r3.2.2.1 [] r3.2.2.2.1 []) r3.2.2.2.2) fun r4=>
 ret ((ac r4.1),r4.2.1)
noncomputable def vA {S:Type} (k:Nat) (t a f y:Tm) (ret:Tm×Int→Option S):Option S:=Nw k ret t a f y
noncomputable def yW {S:Type} (k:Nat) (ret:Int×Int×ByteArray→Option S) (a_n:Int):Option S:=
 ret (1,a_n,ByteArray.empty)
noncomputable def eF {S:Type} (k:Nat) (a_n:Int) (ret:Int×Int×ByteArray→Option S):Option S:=yW k ret a_n
noncomputable def Pa {S:Type} (k:Nat) (ret:Tm→Option S) (kind:Int) (a b c:Tm):Option S:=
 aa k (nE k kind [(ac a),(ac b),(ac c)]) fun r1=>
 ret (ac r1)
noncomputable def ke {S:Type} (k:Nat) (kind:Int) (a b c:Tm) (ret:Tm→Option S):Option S:=Pa k ret kind a b c
noncomputable def O9 {S:Type} (k:Nat) (ret:Tm→Option S) (t a f y:Tm):Option S:=
 aa k (d_ k (ac a) 1 1) fun r1=>
 aa k (d_ k (ac y) 1 0) fun r2=>
 aa k (d_ k (ac f) 1 0) fun r3=>
 aa k (eF k 0) fun r4=>
 aa k (cv k 6 (ac r3) (Tm.mk r4.1 r4.2.1 r4.2.2 [] [] [])) fun r5=>
 aa k (ke k 11 (ac r1) (ac r2) (ac r5)) fun r6=>
 aa k (cv k 7 (ac t) (ac r6)) fun r7=>
 ret (ac r7)
noncomputable def lS {S:Type} (k:Nat) (t a f y:Tm) (ret:Tm→Option S):Option S:=O9 k ret t a f y
def O8 {S:Type} (k:Nat) (ret:Tm×Int→Option S) (t a f y:Tm):Option S:=
 aa k (jf k [(ac t),(ac a),(ac f),(ac y)]) fun r1=>
 ab (!(r1==0)) (
 ret ((Tm.mk 0 0 ByteArray.empty [] [] []),r1)) (
 aa k (lS k (ac t) (ac a) (ac f) (ac y)) fun r2=>
 aa k (jd k (ac r2)) fun r3=>
 ret ((ac r3.1),r3.2))
noncomputable def wy {S:Type} (k:Nat) (t a f y:Tm) (ret:Tm×Int→Option S):Option S:=O8 k ret t a f y
noncomputable def NC {S:Type} (k:Nat) (ret:Int×Int×ByteArray×List Tm×Int→Option S) (t:Tm) (c0:Int):Option S:=
 aa k (b_ k (ac t) 1 0 c0) fun r1=>
 aa k (b_ k (ac t) 2 1 r1.2) fun r2=>
 aa k (eD k 1) fun r3=>
 aa k (eD k 0) fun r4=>
 aa k (bz k 11 [(ac r2.1),(Tm.mk r3.1 r3.2.1 r3.2.2 [] [] []),(Tm.mk r4.1 r4.2.1 r4.2.2 [] [] [])]) fun r5=>
 aa k (bz k 4 [(ac r1.1),(Tm.mk r5.1 r5.2.1 r5.2.2.1 [] r5.2.2.2 [])]) fun r6=>
 aa k (bz k 7 [(ac t),(Tm.mk r6.1 r6.2.1 r6.2.2.1 [] r6.2.2.2 [])]) fun r7=>
 ret (r7.1,r7.2.1,r7.2.2.1,r7.2.2.2,r2.2)
noncomputable def nf {S:Type} (k:Nat) (t:Tm) (c0:Int) (ret:Int×Int×ByteArray×List Tm×Int→Option S):Option S:=NC k ret t c0
noncomputable def Nu {S:Type} (k:Nat) (ret:Tm×Int→Option S) (t:Tm):Option S:=
 aa k (jZ k [(ac t)]) fun r1=>
 eG k (ac t) fun r2=>
 aa k (nf k (ac r2) r1) fun r3=>
 aa k (dT k (Tm.mk r3.1 r3.2.1 r3.2.2.1 [] r3.2.2.2.1 []) r3.2.2.2.2) fun r4=>
 ret ((ac r4.1),r4.2.1)
noncomputable def vw {S:Type} (k:Nat) (t:Tm) (ret:Tm×Int→Option S):Option S:=Nu k ret t
noncomputable def O3 {S:Type} (k:Nat) (ret:Tm→Option S) (t:Tm):Option S:=
 aa k (d_ k (ac t) 1 0) fun r1=>
 aa k (d_ k (ac t) 2 1) fun r2=>
 aa k (eF k 1) fun r3=>
 aa k (eF k 0) fun r4=>
 aa k (ke k 11 (ac r2) (Tm.mk r3.1 r3.2.1 r3.2.2 [] [] []) (Tm.mk r4.1 r4.2.1 r4.2.2 [] [] [])) fun r5=>
 aa k (cv k 4 (ac r1) (ac r5)) fun r6=>
 aa k (cv k 7 (ac t) (ac r6)) fun r7=>
 ret (ac r7)
noncomputable def lR {S:Type} (k:Nat) (t:Tm) (ret:Tm→Option S):Option S:=O3 k ret t
def O2 {S:Type} (k:Nat) (ret:Tm×Int→Option S) (t:Tm):Option S:=
 aa k (jf k [(ac t)]) fun r1=>
 ab (!(r1==0)) (
 ret ((Tm.mk 0 0 ByteArray.empty [] [] []),r1)) (
 aa k (lR k (ac t)) fun r2=>
 aa k (jd k (ac r2)) fun r3=>
 ret ((ac r3.1),r3.2))
noncomputable def ww {S:Type} (k:Nat) (t:Tm) (ret:Tm×Int→Option S):Option S:=O2 k ret t
noncomputable def Nv {S:Type} (k:Nat) (ret:Tm×Int→Option S) (t a:Tm):Option S:=
 aa k (jZ k [(ac t),(ac a)]) fun r1=>
 eG k (ac t) fun r2=>
 aa k (b_ k (ac a) 1 0 r1) fun r3=>
 aa k (bz k 4 [(ac r2),(ac r3.1)]) fun r4=>
 aa k (b_ k (ac a) 1 0 r3.2) fun r5=>
 aa k (b_ k (ac t) 2 0 r5.2) fun r6=>
 aa k (b_ k (ac a) 2 0 r6.2) fun r7=>
 aa k (eD k 1) fun r8=>
 aa k (eD k 0) fun r9=>
 aa k (ng k (ac r6.1) (ac r7.1) (Tm.mk r8.1 r8.2.1 r8.2.2 [] [] []) (Tm.mk r9.1 r9.2.1 r9.2.2 [] [] []) r7.2) fun r10=>
 aa k (nf k (Tm.mk r10.1 r10.2.1 r10.2.2.1 [] r10.2.2.2.1 []) r10.2.2.2.2) fun r11=>
 aa k (bz k 4 [(ac r5.1),(Tm.mk r11.1 r11.2.1 r11.2.2.1 [] r11.2.2.2.1 [])]) fun r12=>
 aa k (bz k 7 [(Tm.mk r4.1 r4.2.1 r4.2.2.1 [] r4.2.2.2 []),(Tm.mk r12.1 r12.2.1 r12.2.2.1 [] r12.2.2.2 [])]) fun r13=>
 aa k (dT k (Tm.mk r13.1 r13.2.1 r13.2.2.1 [] r13.2.2.2 []) r11.2.2.2.2) fun r14=>
 ret ((ac r14.1),r14.2.1)
noncomputable def vz {S:Type} (k:Nat) (t a:Tm) (ret:Tm×Int→Option S):Option S:=Nv k ret t a
noncomputable def O6 {S:Type} (k:Nat) (ret:Tm→Option S) (t a:Tm):Option S:=
 aa k (d_ k (ac a) 1 0) fun r1=>
 aa k (cv k 4 (ac t) (ac r1)) fun r2=>
 aa k (d_ k (ac a) 1 0) fun r3=>
 aa k (d_ k (ac t) 2 0) fun r4=>
 aa k (d_ k (ac a) 2 0) fun r5=>
 aa k (eF k 1) fun r6=>
 aa k (eF k 0) fun r7=>
 aa k (lS k (ac r4) (ac r5) (Tm.mk r6.1 r6.2.1 r6.2.2 [] [] []) (Tm.mk r7.1 r7.2.1 r7.2.2 [] [] [])) fun r8=>
 aa k (lR k (ac r8)) fun r9=>
 aa k (cv k 4 (ac r3) (ac r9)) fun r10=>
 aa k (cv k 7 (ac r2) (ac r10)) fun r11=>
 ret (ac r11)
noncomputable def rG {S:Type} (k:Nat) (t a:Tm) (ret:Tm→Option S):Option S:=O6 k ret t a
def O5 {S:Type} (k:Nat) (ret:Tm×Int→Option S) (t a:Tm):Option S:=
 aa k (jf k [(ac t),(ac a)]) fun r1=>
 ab (!(r1==0)) (
 ret ((Tm.mk 0 0 ByteArray.empty [] [] []),r1)) (
 aa k (rG k (ac t) (ac a)) fun r2=>
 aa k (jd k (ac r2)) fun r3=>
 ret ((ac r3.1),r3.2))
noncomputable def wx {S:Type} (k:Nat) (t a:Tm) (ret:Tm×Int→Option S):Option S:=O5 k ret t a
noncomputable def adX {S:Type} (k:Nat) (ret:Tm→Option S) (kind:Int) (a:Tm):Option S:=
 aa k (nE k kind [(ac a)]) fun r1=>
 ret (ac r1)
noncomputable def je {S:Type} (k:Nat) (kind:Int) (a:Tm) (ret:Tm→Option S):Option S:=adX k ret kind a
noncomputable def adY {S:Type} (k:Nat) (ret:Tm→Option S) (a_r:List Cl):Option S:=
 aa k (eF k 0) fun r1=>
 aa k (je k 10 (Tm.mk r1.1 r1.2.1 r1.2.2 [] [] [])) fun r2=>
 aa k (eF k 1) fun r3=>
 aa k (eF k 0) fun r4=>
 aa k (je k 9 (Tm.mk r4.1 r4.2.1 r4.2.2 [] [] [])) fun r5=>
 aa k (ke k 13 (ac r2) (Tm.mk r3.1 r3.2.1 r3.2.2 [] [] []) (ac r5)) fun r6=>
 ret (Tm.mk r6.kind r6.n r6.name a_r r6.kids r6.sys)
noncomputable def AV {S:Type} (k:Nat) (a_r:List Cl) (ret:Tm→Option S):Option S:=adY k ret a_r
noncomputable def adW {S:Type} (k:Nat) (ret:Tm→Option S):Option S:=
 aa k (AV k [(Cl.mk 1 0)]) fun r1=>
 aa k (AV k [(Cl.mk 3 0)]) fun r2=>
 aa k (je k 12 (ac r2)) fun r3=>
 aa k (cv k 8 (ac r1) (ac r3)) fun r4=>
 aa k (eF k 0) fun r5=>
 aa k (eF k 0) fun r6=>
 aa k (je k 12 (Tm.mk r6.1 r6.2.1 r6.2.2 [] [] [])) fun r7=>
 aa k (cv k 8 (Tm.mk r5.1 r5.2.1 r5.2.2 [] [] []) (ac r7)) fun r8=>
 aa k (eF k 0) fun r9=>
 aa k (je k 5 (Tm.mk r9.1 r9.2.1 r9.2.2 [] [] [])) fun r10=>
 aa k (je k 12 (ac r4)) fun r11=>
 aa k (je k 5 (ac r11)) fun r12=>
 aa k (cv k 8 (ac r8) (ac r12)) fun r13=>
 aa k (je k 5 (ac r13)) fun r14=>
 aa k (cv k 8 (ac r10) (ac r14)) fun r15=>
 ret (ac r15)
noncomputable def wz {S:Type} (k:Nat) (ret:Tm→Option S):Option S:=adW k ret
def Oj {S:Type} (k:Nat) (ret:Bool→Option S) (t u f y:Tm):Option S:=
 aa k (j7 k (ac t) (ac u) ([]:List (Br Tm))) fun r1=>
 ab (r1) (
 aa k (g7 k) fun r2=>
 ret r2) (
 aa k (j7 k (ac f) (ac y) ([]:List (Br Tm))) fun r3=>
 ab (r3) (
  aa k (g7 k) fun r4=>
  ret r4) (
  aa k (vA k (ac t) (ac u) (ac f) (ac y)) fun r5=>
  aa k (wy k (ac t) (ac u) (ac f) (ac y)) fun r6=>
  aa k (ja k (ac r5.1) r5.2 (ac r6.1) r6.2) fun r7=>
  ab (!r7) (
  ret false) (
  aa k (vw k (ac t)) fun r8=>
  aa k (ww k (ac t)) fun r9=>
  aa k (ja k (ac r8.1) r8.2 (ac r9.1) r9.2) fun r10=>
  ab (!r10) (
   ret false) (
   aa k (vz k (ac t) (ac u)) fun r11=>
   aa k (wx k (ac t) (ac u)) fun r12=>
   aa k (ja k (ac r11.1) r11.2 (ac r12.1) r12.2) fun r13=>
   ab (r13) (
   aa k (qU k) fun r14=>
   aa k (wz k) fun r15=>
   d8 k (Tm.mk r14.1 r14.2.1 r14.2.2.1 [] r14.2.2.2 []) (ac r15) fun r16=>
   ab (r16) (
    aa k (g7 k) fun r17=>
    ret r17) (
    ret false)) (
   ret false)))))
noncomputable def AO {S:Type} (k:Nat) (t u f y:Tm) (ret:Bool→Option S):Option S:=Oj k ret t u f y
end
end Go.Proofs.YtapmagaejigpnaaGreatDoor
namespace Go.Proofs.YtapmagaejigpnaaGreatDoor
open Go PI
set_option linter.unusedVariables false
set_option linter.unusedSimpArgs false
abbrev M24:Nat:=16777215
theorem xO {n:Nat} (h:n<24):2^n<4294967296:=Nat.lt_of_lt_of_le (Nat.pow_lt_pow_right (by decide) h) (by decide)
theorem nc (n:Nat):(2:Int)^n=((2^n:Nat):Int):=by simp
theorem Bm (m n:Nat):Int.fdiv (m:Int) ((2:Int)^n)=((m/2^n:Nat):Int):=by
 rw [nc,Int.fdiv_eq_ediv_of_nonneg _ (Int.natCast_nonneg _),Int.natCast_ediv]
variable {S:Type} {k:Nat}
theorem yO (hk:Fu k) (i:Int) (ret:Bool→Option S):lO k i ret=ret (decide (0≤i∧i<24)):=by
 simp only [lO,Oz,aK]
 by_cases h:i≥0
 ·rw [if_pos h];congr 1;simp;omega
 ·rw [if_neg h];congr 1;simp;omega
theorem adD (hk:Fu k) {m:Nat} (hm:m<4294967296) (ret:Bool→Option S):nr k (m:Int) ret=ret (decide (m<16777216)):=by
 simp only [nr,Ov]
 rw [show (16777215:Int)=((16777215:Nat):Int) from rfl,Ad hm (by decide)]
 congr 1
 rw [Bool.eq_iff_iff]
 simp only [beq_iff_eq,decide_eq_true_eq]
 have key:dh m 16777215=0↔m<16777216:=by
  constructor
  ·intro h
   apply Nat.lt_pow_two_of_testBit (n:=24)
   intro i hi
   have h2:=jD m 16777215 i
   rw [h,Nat.zero_testBit] at h2
   have:(16777215:Nat).testBit i=false:=Nat.testBit_lt_two_pow (Nat.lt_of_lt_of_le (by decide:16777215<2^24) (Nat.pow_le_pow_right (by decide) hi))
   rw [this] at h2
   simpa using h2.symm
  ·intro h
   apply Nat.eq_of_testBit_eq
   intro i
   rw [jD,Nat.zero_testBit]
   by_cases hi:i<24
   ·have:(16777215:Nat).testBit i=true:=by
     rw [show (16777215:Nat)=2^24-1 from rfl,Nat.testBit_two_pow_sub_one];simpa using hi
    rw [this];simp
   ·have h2:(2:Nat)^24≤2^i:=Nat.pow_le_pow_right (by decide) (by omega)
    have:m.testBit i=false:=Nat.testBit_lt_two_pow (Nat.lt_of_lt_of_le h h2)
    rw [this];rfl
 omega
theorem adB (hk:Fu k) {m:Nat} (hm:m<4294967296) (i:Int) (ret:Bool→Option S):gm k (m:Int) i ret=ret (decide (0≤i∧i<24)&&m.testBit i.toNat):=by
 simp only [gm,Ou,yO hk,ah hk]
 by_cases h:0≤i∧i<24
 ·obtain ⟨n,rfl⟩: ∃n:Nat,i=n:=⟨i.toNat,by omega⟩
  have hn:n<24:=by omega
  rw [decide_eq_true h,ae,Bool.true_and,ga n (by omega),gY _ (by omega)]
  congr 1
  rw [Int.toNat_natCast,Nat.min_eq_left (by omega),Bm,show (1:Int)=((1:Nat):Int) from rfl,jX (Nat.lt_of_le_of_lt (Nat.div_le_self _ _) hm) (by decide)]
  rw [Nat.testBit_eq_decide_div_mod_eq,Nat.and_one_is_mod,Bool.eq_iff_iff]
  simp only [beq_iff_eq,decide_eq_true_eq]
  omega
 ·rw [decide_eq_false h,ad,Bool.false_and]
theorem adE (hk:Fu k) {m:Nat} (hm:m<4294967296) (i:Int) (ret:Int→Option S):g8 k (m:Int) i ret=ret (if 0≤i∧i<24 then (((m&&&M24)|||2^i.toNat:Nat):Int) else ((m&&&M24:Nat):Int)):=by
 simp only [g8,Ow,yO hk,ah hk]
 have hand:aY .and .u32 (m:Int) 16777215=((m&&&M24:Nat):Int):=jX hm (by decide:(16777215:Nat)<4294967296)
 have hlt:m&&&M24<4294967296:=pZ (n:=32) hm
 rw [hand]
 by_cases h:0≤i∧i<24
 ·obtain ⟨n,rfl⟩: ∃n:Nat,i=n:=⟨i.toNat,by omega⟩
  have hn:n<24:=by omega
  rw [decide_eq_true h,if_pos h,ga n (by omega)]
  simp only [Bool.not_true,ad]
  rw [gY _ (by omega),Int.toNat_natCast,Nat.min_eq_left (by omega),Int.one_mul,nc,jS _ (xO hn),ua hlt (xO hn)]
 ·rw [decide_eq_false h,if_neg h];rfl
theorem adF (hk:Fu k) {m:Nat} (hm:m<4294967296) (i:Int) (ret:Int→Option S):jb k (m:Int) i ret=ret (if 0≤i∧i<24 then ((dh (m&&&M24) (2^i.toNat):Nat):Int) else ((m&&&M24:Nat):Int)):=by
 simp only [jb,Ox,yO hk,ah hk]
 have hand:aY .and .u32 (m:Int) 16777215=((m&&&M24:Nat):Int):=jX hm (by decide:(16777215:Nat)<4294967296)
 have hlt:m&&&M24<4294967296:=pZ (n:=32) hm
 rw [hand]
 by_cases h:0≤i∧i<24
 ·obtain ⟨n,rfl⟩: ∃n:Nat,i=n:=⟨i.toNat,by omega⟩
  have hn:n<24:=by omega
  rw [decide_eq_true h,if_pos h,ga n (by omega)]
  simp only [Bool.not_true,ad]
  rw [gY _ (by omega),Int.toNat_natCast,Nat.min_eq_left (by omega),Int.one_mul,nc,jS _ (xO hn),Ad hlt (xO hn)]
 ·rw [decide_eq_false h,if_neg h];rfl
theorem Nm (hk:Fu k) (n:Nat) (hn:n<18446744073709551616) (ret:Int→Option S):nu k (n:Int) ret=ret ((2^min n 24-1:Nat):Int):=by
 simp only [nu,Oy]
 have e:(if (24:Int)<(n:Int) then (24:Int) else (n:Int))=((min n 24:Nat):Int):=by
  by_cases h:24<n
  ·rw [if_pos (by omega),Nat.min_eq_right (by omega)];rfl
  ·rw [if_neg (by omega),Nat.min_eq_left (by omega)]
 rw [e,ga _ (by omega),gY _ (by omega),Int.toNat_natCast]
 congr 1
 generalize hq:min n 24=q
 have hq24:q≤24:=by omega
 rw [Nat.min_eq_left (by omega),Int.one_mul,nc]
 have h1:2^q≤2^24:=Nat.pow_le_pow_right (by decide) hq24
 have h0:0<2^q:=Nat.pos_of_ne_zero (by simp)
 have h24:(2:Nat)^24=16777216:=by decide
 rw [ga _ (by omega)]
 have e2:((2^q:Nat):Int)-1=((2^q-1:Nat):Int):=by omega
 rw [e2,ga _ (by omega),jS _ (by omega)]
def fA (m n:Nat):Nat:=(m&&&M24)&&&(2^min n 24-1)
def cH (m n:Nat):Nat:=dh (m&&&M24) (2^min n 24-1)
def dN (m n b:Nat):Nat×Nat:=
 if cH m n=0 then (fA m n,0) else if 24≤b then (0,10) else if cH m n*2^b>16777215 then (0,10) else (fA m n|||(cH m n*2^b),0)
theorem adC (hk:Fu k) {m:Nat} (hm:m<4294967296) (n b:Nat) (hn:n<9223372036854775808) (hb:b<9223372036854775808) (ret:Int×Int→Option S):
  j9 k (m:Int) (n:Int) (b:Int) ret=ret (((dN m n b).1:Int),((dN m n b).2:Int)):=by
 have hand:aY .and .u32 (m:Int) 16777215=((m&&&M24:Nat):Int):=jX hm (by decide:(16777215:Nat)<4294967296)
 have hlt:m&&&M24<16777216:=Nat.lt_of_le_of_lt Nat.and_le_right (by decide)
 have hbl:2^min n 24-1<4294967296:=by
  have:2^min n 24≤2^24:=Nat.pow_le_pow_right (by decide) (by omega)
  have h24:(2:Nat)^24=16777216:=by decide
  omega
 have hhi:cH m n<16777216:=s9 (n:=24) hlt
 have hlow:aY .and .u32 ((m&&&M24:Nat):Int) ((2^min n 24-1:Nat):Int)=((fA m n:Nat):Int):=jX (by omega) hbl
 have hhigh:aY .andNot .u32 ((m&&&M24:Nat):Int) ((2^min n 24-1:Nat):Int)=((cH m n:Nat):Int):=Ad (by omega) hbl
 simp only [j9,yS]
 rw [aK,aK,if_neg (by omega),if_neg (by omega)]
 simp only [Nm hk n (by omega),ah hk,hand,hlow,hhigh]
 rw [ga _ (by omega)]
 unfold dN
 by_cases h0:cH m n=0
 ·rw [if_pos h0]
  simp [h0,ae]
 ·rw [if_neg h0]
  have hb0:(((cH m n:Nat):Int)==0)=false:=by
   rw [Bool.eq_false_iff];intro h;exact h0 (by have:=eq_of_beq h;omega)
  simp only [hb0,ad,aK]
  by_cases h24:24≤b
  ·rw [if_pos (by omega),if_pos h24];rfl
  ·rw [if_neg (by omega),if_neg h24,ga b (by omega),gY _ (by omega),Int.toNat_natCast,Nat.min_eq_left (by omega),nc]
   have hp:2^b≤2^23:=Nat.pow_le_pow_right (by decide) (by omega)
   have h23:(2:Nat)^23=8388608:=by decide
   have hmul:cH m n*2^b<18446744073709551616:=by
    have:=Nat.mul_le_mul (Nat.le_of_lt hhi) hp
    omega
   have ec:((cH m n:Nat):Int)*((2^b:Nat):Int)=((cH m n*2^b:Nat):Int):=by simp
   rw [ec,ga _ hmul]
   by_cases hg:cH m n*2^b>16777215
   ·rw [if_pos (by omega),if_pos hg];rfl
   ·rw [if_neg (by omega),if_neg hg]
    rw [jS _ (by omega),gY _ (by omega),ua (by have:fA m n≤m&&&M24:=Nat.and_le_left;omega) (by omega)]
    rfl
end Go.Proofs.YtapmagaejigpnaaGreatDoor
namespace Go.Proofs.YtapmagaejigpnaaGreatDoor
open Go PI
set_option linter.unusedVariables false
set_option linter.unusedSimpArgs false
set_option maxRecDepth 20000
variable {S:Type} {k:Nat}
def b8 (l:List Nat):Nat:=(l.map (2^ ·)).sum
theorem Uh {x a:Nat} (h:x.testBit a=false):x+2^a=x|||2^a:=by
 have h1:x=2^(a+1)*(x/2^(a+1))+x%2^(a+1):=(Nat.div_add_mod _ _).symm
 have hlt:x%2^(a+1)<2^a:=by
  have hb:(x%2^(a+1)).testBit a=false:=by rw [Nat.testBit_mod_two_pow,h];simp
  have hm:x%2^(a+1)<2^(a+1):=Nat.mod_lt _ (Nat.two_pow_pos _)
  apply Nat.lt_pow_two_of_testBit
  intro i hi
  by_cases hia:i=a
  ·rw [hia];exact hb
  ·exact Nat.testBit_lt_two_pow (Nat.lt_of_lt_of_le hm (Nat.pow_le_pow_right (by decide) (by omega)))
 generalize x/2^(a+1)=q at h1
 generalize x%2^(a+1)=r at h1 hlt
 have hp:(2:Nat)^(a+1)=2^a*2:=Nat.pow_succ 2 a
 have e1:2^a+r=2^a|||r:=by
  have:=Nat.two_pow_add_eq_or_of_lt hlt 1
  simpa using this
 have e2:x=2^(a+1)*q|||r:=by rw [h1];exact Nat.two_pow_add_eq_or_of_lt (by omega) q
 have e3:x+2^a=2^(a+1)*q|||(2^a+r):=by
  rw [←Nat.two_pow_add_eq_or_of_lt (by omega:2^a+r<2^(a+1)) q,h1];omega
 rw [e3,e1,e2,Nat.or_comm (2^a) r,←Nat.or_assoc]
theorem mU: ∀ (l:List Nat),l.Nodup→ ∀j,(b8 l).testBit j=decide (j∈l):=by
 intro l
 induction l with
 |nil=>intro _ j;simp [b8]
 |cons a l ih=>
  intro hn j
  have hn':=List.nodup_cons.1 hn
  have ha:(b8 l).testBit a=false:=by rw [ih hn'.2];simpa using hn'.1
  have e:b8 (a::l)=b8 l|||2^a:=by
   rw [←Uh ha];simp [b8];omega
  rw [e,Nat.testBit_or,ih hn'.2,Nat.testBit_two_pow]
  by_cases h:a=j
  ·subst h;simp
  ·have:j≠a:=Ne.symm h
   simp [h,this]
theorem ads: ∀ (l:List Nat),(∀x∈l,x<24)→b8 l≤l.length*8388608:=by
 intro l
 induction l with
 |nil=>intro _;simp [b8]
 |cons a l ih=>
  intro h
  have h1:=ih fun x hx=>h x (by simp [hx])
  have h2:2^a≤2^23:=Nat.pow_le_pow_right (by decide) (by have:=h a (by simp);omega)
  have h23:(2:Nat)^23=8388608:=by decide
  have e:b8 (a::l)=2^a+b8 l:=by simp [b8]
  rw [e,List.length_cons];omega
def bL (m:Nat):List Nat:=(List.range 24).filter m.testBit
theorem m9 (m:Nat):(bL m).Nodup:=List.nodup_range.filter _
theorem mem_bitsN {m j:Nat}:j∈bL m↔j<24∧m.testBit j=true:=by simp [bL]
theorem fN (m:Nat):(bL m).length≤24:=by
 have:=List.length_filter_le m.testBit (List.range 24)
 simpa [bL] using this
theorem fM (j:Nat):M24.testBit j=decide (j<24):=by
 rw [show M24=2^24-1 from rfl,Nat.testBit_two_pow_sub_one]
theorem DR (m:Nat):b8 (bL m)=m&&&M24:=by
 apply Nat.eq_of_testBit_eq
 intro j
 rw [mU _ (m9 m),Nat.testBit_and,fM,Bool.eq_iff_iff]
 simp [mem_bitsN]
 constructor<;>(rintro ⟨a,b⟩;exact ⟨b,a⟩)
theorem Zm (ret:Int→Option S) (n:Nat) (hn:n≤30): ∀ (d i m:Nat),i+d=n→d<m→oi k ret (n:Int) m ((2^i:Nat):Int) (i:Int)=ret ((2^n:Nat):Int):=by
 intro d
 induction d with
 |zero=>
  intro i m h hm
  obtain ⟨m,rfl⟩: ∃q,m=q+1:=⟨m-1,by omega⟩
  have:i=n:=by omega
  subst this
  simp only [oi,uJ,aK]
  rw [if_neg (by omega)]
 |succ d ih=>
  intro i m h hm
  obtain ⟨m,rfl⟩: ∃q,m=q+1:=⟨m-1,by omega⟩
  simp only [oi,uJ,aK]
  have hp:2^i≤2^30:=Nat.pow_le_pow_right (by decide) (by omega)
  have h30:(2:Nat)^30=1073741824:=by decide
  have hc:(0:Int)≤((2^i:Nat):Int):=Int.natCast_nonneg _
  rw [if_pos (by omega),dq (by omega) (by omega),dq (by omega) (by omega)]
  have e1:((2^i:Nat):Int)*2=((2^(i+1):Nat):Int):=by rw [Nat.pow_succ];simp
  have e2:(i:Int)+1=((i+1:Nat):Int):=by simp
  rw [e1,e2]
  exact ih (i+1) m (by omega) (by omega)
theorem DV (hk:Fu k) (n:Nat) (hn:n≤30) (ret:Int→Option S):ny k (n:Int) ret=ret ((2^n:Nat):Int):=by
 simp only [ny,EF]
 have:=Zm (k:=k) ret n hn n 0 k (by omega) (by omega)
 simpa using this
theorem adI (hk:Fu k) {m:Nat} (hm:m<4294967296) (ret:Bool→Option S):nx k (m:Int) ret=ret (decide (m<16777216)):=by
 simp only [nx,OB,ah hk]
 rw [show (24:Int)=((24:Nat):Int) from rfl,DV hk 24 (by omega),dq (by omega) (by omega)]
 have h24:((2^24:Nat):Int)=16777216:=by decide
 rw [h24]
 have e:decide ((m:Int)<16777216)=decide (m<16777216):=by rw [Bool.eq_iff_iff];simp only [decide_eq_true_eq];omega
 rw [e]
theorem Nn (hk:Fu k) {m:Nat} (hm:m<4294967296) (i:Int) (ret:Bool→Option S):dH k (m:Int) i ret=ret (decide (0≤i∧i<24)&&m.testBit i.toNat):=by
 simp only [dH,OA,aK,ah hk]
 by_cases h0:i≥0
 ·rw [if_pos h0]
  by_cases h1:i<24
  ·rw [if_pos h1]
   obtain ⟨n,rfl⟩: ∃n:Nat,i=n:=⟨i.toNat,by omega⟩
   have hp:0<2^n:=Nat.two_pow_pos n
   rw [DV hk n (by omega),gY _ (by omega)]
   rw [dq (n:=(m:Int)) (by omega) (by omega)]
   have e1:Int.tdiv (m:Int) ((2^n:Nat):Int)=((m/2^n:Nat):Int):=(Int.ofNat_tdiv m (2^n)).symm
   rw [e1]
   have hd:m/2^n≤m:=Nat.div_le_self _ _
   have hc:(0:Int)≤((m/2^n:Nat):Int):=Int.natCast_nonneg _
   rw [dq (by omega) (by omega)]
   have e2:Int.tmod ((m/2^n:Nat):Int) 2=((m/2^n%2:Nat):Int):=(Int.ofNat_tmod (m/2^n) 2).symm
   rw [e2,decide_eq_true (by omega),Bool.true_and,Int.toNat_natCast]
   congr 1
   rw [Nat.testBit_eq_decide_div_mod_eq,Bool.eq_iff_iff]
   simp only [beq_iff_eq,decide_eq_true_eq]
   omega
  ·rw [if_neg h1,decide_eq_false (by omega)];rfl
 ·rw [if_neg h0,decide_eq_false (by omega)];rfl
def ints (l:List Nat):List Int:=l.map Int.ofNat
theorem BE (l:List Nat) (i:Nat):(ints l)[i]? =(l[i]?).map Int.ofNat:=by simp [ints]
theorem df (l:List Nat):(ints l).length=l.length:=by simp [ints]
theorem YA (hk:Fu k) (ret:Int→Option S) (l:List Nat) (hl:l.length≤64) (h24: ∀x∈l,x<24): ∀ (d i m:Nat),i+d=l.length→d<m→og k ret (ints l) m ((b8 (l.take i):Nat):Int) (i:Int)=ret ((b8 l:Nat):Int):=by
 have hbound: ∀i,b8 (l.take i)≤64*8388608:=by
  intro i
  have h1:=ads (l.take i) fun x hx=>h24 x (List.mem_of_mem_take hx)
  have h2:(l.take i).length≤64:=by rw [List.length_take];omega
  exact Nat.le_trans h1 (Nat.mul_le_mul_right _ h2)
 intro d
 induction d with
 |zero=>
  intro i m h hm
  obtain ⟨m,rfl⟩: ∃q,m=q+1:=⟨m-1,by omega⟩
  simp only [og,uH,aK,df,ah hk]
  have hb:=hbound i
  have h64:64*8388608=536870912:=by decide
  rw [if_neg (by omega),jS _ (by omega),List.take_of_length_le (by omega)]
 |succ d ih=>
  intro i m h hm
  obtain ⟨m,rfl⟩: ∃q,m=q+1:=⟨m-1,by omega⟩
  simp only [og,uH,aK,df,ah hk]
  have hi:i<l.length:=by omega
  rw [if_pos (by omega),w9,BE,List.getElem?_eq_getElem hi]
  simp only [Option.map_some,Option.bind_some]
  have hx:=h24 _ (List.getElem_mem hi)
  have hb:=hbound i
  rw [show Int.ofNat l[i]=((l[i]:Nat):Int) from rfl,DV hk _ (by omega)]
  have hp:2^l[i]≤2^24:=Nat.pow_le_pow_right (by decide) (by omega)
  have h24:(2:Nat)^24=16777216:=by decide
  have hc:(0:Int)≤((2^l[i]:Nat):Int):=Int.natCast_nonneg _
  rw [dq (by omega) (by omega),dq (by omega) (by omega)]
  have e1:((b8 (l.take i):Nat):Int)+((2^l[i]:Nat):Int)=((b8 (l.take (i+1)):Nat):Int):=by
   rw [List.take_add_one,List.getElem?_eq_getElem hi]
   simp only [b8,List.map_append,Option.toList_some,List.map_cons,List.map_nil,List.sum_append,List.sum_cons,List.sum_nil]
   omega
  have e2:(i:Int)+1=((i+1:Nat):Int):=by simp
  rw [e1,e2]
  exact ih (i+1) m (by omega) (by omega)
theorem pG (hk:Fu k) (l:List Nat) (hl:l.length≤64) (h24: ∀x∈l,x<24) (ret:Int→Option S):g_ k (ints l) ret=ret ((b8 l:Nat):Int):=by
 simp only [g_,ED]
 have:=YA hk ret l hl h24 l.length 0 k (by omega) (by omega)
 simpa [b8] using this
theorem Yy (hk:Fu k) (ret:List Int→Option S) {q:Nat} (hq:q<4294967296): ∀ (d i m:Nat),i+d=24→d<m→oe k ret (q:Int) m (ints ((List.range i).filter q.testBit)) (i:Int)=ret (ints (bL q)):=by
 intro d
 induction d with
 |zero=>
  intro i m h hm
  obtain ⟨m,rfl⟩: ∃q,m=q+1:=⟨m-1,by omega⟩
  have:i=24:=by omega
  subst this
  simp only [oe,uG,aK,ah hk]
  rw [if_neg (by omega)]
  rfl
 |succ d ih=>
  intro i m h hm
  obtain ⟨m,rfl⟩: ∃q,m=q+1:=⟨m-1,by omega⟩
  simp only [oe,uG,aK,ah hk]
  rw [if_pos (by omega),Nn hk hq,decide_eq_true (by omega),Bool.true_and,Int.toNat_natCast,dq (by omega) (by omega)]
  have e2:(i:Int)+1=((i+1:Nat):Int):=by simp
  have hlen:(ints ((List.range i).filter q.testBit)).length≤24:=by
   rw [df]
   have:=List.length_filter_le q.testBit (List.range i)
   rw [List.length_range] at this;omega
  rw [e2]
  cases hb:q.testBit i with
  |true=>
   rw [ae,aV (by simp;omega)]
   have:ints ((List.range i).filter q.testBit)++[(i:Int)]=ints ((List.range (i+1)).filter q.testBit):=by
    rw [List.range_succ,List.filter_append];simp [ints,hb]
   rw [this]
   exact ih (i+1) m (by omega) (by omega)
  |false=>
   rw [ad]
   have:ints ((List.range i).filter q.testBit)=ints ((List.range (i+1)).filter q.testBit):=by
    rw [List.range_succ,List.filter_append];simp [ints,hb]
   rw [this]
   exact ih (i+1) m (by omega) (by omega)
theorem pF (hk:Fu k) {q:Nat} (hq:q<4294967296) (ret:List Int→Option S):g9 k (q:Int) ret=ret (ints (bL q)):=by
 simp only [g9,EC]
 have:=Yy hk ret hq 24 0 k (by omega) (by omega)
 simpa [ints] using this
theorem YB (hk:Fu k) (ret:Int→Option S) (n:Int) (l:List Nat) (hl:l.length≤64) (h24: ∀x∈l,x<24): ∀ (d i m:Nat),i+d=l.length→d<m→
  oh k ret n (ints l) m (ints ((l.take i).filter fun x:Nat=> !((x:Int)==n))) (i:Int)=ret ((b8 (l.filter fun x:Nat=> !((x:Int)==n)):Nat):Int):=by
 intro d
 induction d with
 |zero=>
  intro i m h hm
  obtain ⟨m,rfl⟩: ∃q,m=q+1:=⟨m-1,by omega⟩
  simp only [oh,uI,aK,df,ah hk]
  rw [if_neg (by omega),List.take_of_length_le (by omega),pG hk _ (Nat.le_trans (List.length_filter_le _ _) hl) fun x hx=>h24 x (List.mem_filter.1 hx).1]
 |succ d ih=>
  intro i m h hm
  obtain ⟨m,rfl⟩: ∃q,m=q+1:=⟨m-1,by omega⟩
  simp only [oh,uI,aK,df,ah hk]
  have hi:i<l.length:=by omega
  rw [if_pos (by omega),w9,BE,List.getElem?_eq_getElem hi]
  simp only [Option.map_some,Option.bind_some]
  rw [dq (n:=(i:Int)+1) (by omega) (by omega)]
  have e2:(i:Int)+1=((i+1:Nat):Int):=by simp
  rw [e2,show Int.ofNat l[i]=((l[i]:Nat):Int) from rfl]
  have et:(l.take (i+1)).filter (fun x:Nat=> !((x:Int)==n))=(l.take i).filter (fun x:Nat=> !((x:Int)==n))++(if !((l[i]:Int)==n) then [l[i]] else []):=by
   rw [List.take_add_one,List.getElem?_eq_getElem hi,List.filter_append]
   simp only [Option.toList_some,List.filter_cons,List.filter_nil]
  cases hb: !((l[i]:Int)==n) with
  |true=>
   rw [hb] at et
   rw [ae,aV]
   ·have:ints ((l.take i).filter fun x:Nat=> !((x:Int)==n))++[((l[i]:Nat):Int)]=ints ((l.take (i+1)).filter fun x:Nat=> !((x:Int)==n)):=by
     rw [et];simp [ints]
    rw [this]
    exact ih (i+1) m (by omega) (by omega)
   ·have h1:=List.length_filter_le (fun x:Nat=> !((x:Int)==n)) (l.take i)
    have h2:(l.take i).length≤64:=by rw [List.length_take];omega
    simp only [df,List.length_cons,List.length_nil];omega
  |false=>
   rw [hb] at et
   rw [ad]
   have:ints ((l.take i).filter fun x:Nat=> !((x:Int)==n))=ints ((l.take (i+1)).filter fun x:Nat=> !((x:Int)==n)):=by
    rw [et];simp
   rw [this]
   exact ih (i+1) m (by omega) (by omega)
theorem tL (hk:Fu k) {q:Nat} (hq:q<4294967296) (i:Int) (ret:Int→Option S):fR k (q:Int) i ret=ret (if 0≤i∧i<24 then ((dh (q&&&M24) (2^i.toNat):Nat):Int) else ((q&&&M24:Nat):Int)):=by
 simp only [fR,EE,ah hk,pF hk hq]
 have:=YB hk ret i (bL q) (by have:=fN q;omega) (fun x hx=>(mem_bitsN.1 hx).1) (bL q).length 0 k (by omega) (by have:=fN q;omega)
 simp only [List.take_zero,List.filter_nil] at this
 have h0:(ints []:List Int)=[]:=rfl
 rw [h0] at this
 refine Eq.trans this ?_
 congr 1
 have hnd:((bL q).filter fun x:Nat=> !((x:Int)==i)).Nodup:=(m9 q).filter _
 by_cases h:0≤i∧i<24
 ·rw [if_pos h]
  congr 1
  apply Nat.eq_of_testBit_eq
  intro j
  rw [mU _ hnd,jD,Nat.testBit_and,fM,Nat.testBit_two_pow,Bool.eq_iff_iff]
  simp only [decide_eq_true_eq,List.mem_filter,mem_bitsN,Bool.and_eq_true,Bool.not_eq_true',decide_eq_false_iff_not,beq_eq_false_iff_ne]
  constructor
  ·rintro ⟨⟨a,b⟩,c⟩;exact ⟨⟨b,a⟩,by omega⟩
  ·rintro ⟨⟨a,b⟩,c⟩;exact ⟨⟨b,a⟩,by omega⟩
 ·rw [if_neg h,←DR]
  congr 2
  rw [List.filter_eq_self]
  intro x hx
  have:=(mem_bitsN.1 hx).1
  simp only [Bool.not_eq_true',beq_eq_false_iff_ne]
  omega
theorem adJ (hk:Fu k) {q:Nat} (hq:q<4294967296) (i:Int) (ret:Int→Option S):rk k (q:Int) i ret=ret (if 0≤i∧i<24 then (((q&&&M24)|||2^i.toNat:Nat):Int) else ((q&&&M24:Nat):Int)):=by
 simp only [rk,OC,aK,ah hk]
 have hq24:q&&&M24<4294967296:=pZ (n:=32) hq
 by_cases h0:i<0
 ·rw [if_pos h0,tL hk hq,if_neg (by omega),if_neg (by omega)]
 ·rw [if_neg h0]
  by_cases h1:i≥24
  ·rw [if_pos h1,tL hk hq,if_neg (by omega),if_neg (by omega)]
  ·rw [if_neg h1,tL hk hq,if_pos (by omega),if_pos (by omega)]
   obtain ⟨n,rfl⟩: ∃n:Nat,i=n:=⟨i.toNat,by omega⟩
   have hw:dh (q&&&M24) (2^n)<4294967296:=s9 (n:=32) hq24
   rw [Int.toNat_natCast,pF hk hw,aV (by rw [df];have:=fN (dh (q&&&M24) (2^n));simp;omega)]
   have e:ints (bL (dh (q&&&M24) (2^n)))++[(n:Int)]=ints (bL (dh (q&&&M24) (2^n))++[n]):=by simp [ints]
   rw [e,pG hk _ (by have:=fN (dh (q&&&M24) (2^n));simp;omega) (fun x hx=>by
    rcases List.mem_append.1 hx with hx|hx
    ·exact (mem_bitsN.1 hx).1
    ·simp at hx;omega)]
   congr 2
   apply Nat.eq_of_testBit_eq
   intro j
   rw [mU]
   ·rw [Nat.testBit_or,Nat.testBit_and,fM,Nat.testBit_two_pow,Bool.eq_iff_iff]
    simp only [decide_eq_true_eq,List.mem_append,List.mem_singleton,mem_bitsN,jD,Nat.testBit_and,fM,Nat.testBit_two_pow,Bool.and_eq_true,Bool.or_eq_true,Bool.not_eq_true',decide_eq_false_iff_not]
    constructor
    ·rintro (⟨a,⟨b,c⟩,d⟩|a)
     ·exact .inl ⟨b,c⟩
     ·exact .inr a.symm
    ·rintro (⟨a,b⟩|a)
     ·by_cases hj:n=j
      ·exact .inr hj.symm
      ·exact .inl ⟨b,⟨a,b⟩,hj⟩
     ·exact .inr a.symm
   ·rw [List.nodup_append]
    refine ⟨m9 _,by simp,fun a ha b hb=> ?_⟩
    simp at hb
    subst hb
    rintro rfl
    have:=(mem_bitsN.1 ha).2
    rw [jD,Nat.testBit_two_pow] at this
    simp at this
end Go.Proofs.YtapmagaejigpnaaGreatDoor
namespace Go.Proofs.YtapmagaejigpnaaGreatDoor
open Go PI
set_option linter.unusedVariables false
set_option linter.unusedSimpArgs false
set_option maxRecDepth 20000
variable {S:Type} {k:Nat}
theorem sm {α:Type} (p r:List α) (x:α):al (p++x::r) (p.length:Int)=some x:=by simp [al]
theorem Nh {α:Type} (p r:List α) (x y:α):(p++x::r).set p.length y=(p++[y])++r:=by simp
theorem ae4 (p r:List Nat):ints (p++r)=ints p++ints r:=by simp [ints]
theorem m_ {m:Nat} (h:m<16777216) {j:Nat} (hj:m.testBit j=true):j<24:=by
 apply Classical.byContradiction
 intro hn
 have:m<2^j:=Nat.lt_of_lt_of_le h (Nat.pow_le_pow_right (n:=2) (i:=24) (j:=j) (by decide) (by omega))
 rw [Nat.testBit_lt_two_pow this] at hj;cases hj
theorem H1 (m:Nat):m<16777216↔ ∀j,m.testBit j=true→j<24:=by
 constructor
 ·intro h j hj;exact m_ h hj
 ·intro h
  apply Nat.lt_pow_two_of_testBit (n:=24)
  intro i hi
  cases hb:m.testBit i with
  |false=>rfl
  |true=>have:=h i hb;omega
def cO (n b x:Nat):Nat:=if x<n then x else x+b
theorem Yx (hk:Fu k) (ret:Int×Int→Option S) (n b:Nat) (hn:n<9223372036854775808) (hb:b<9223372036854775808):
  ∀ (r p:List Nat) (m:Nat),(p++r).length≤24→(∀x∈r,x<24)→r.length<m→(∀x∈p,x<24)→
  mh k ret (n:Int) (b:Int) m (ints (p++r)) (p.length:Int)=
   if (∃x∈r,n≤x∧24≤x+b) then ret (0,10) else ret (((b8 (p++r.map (cO n b)):Nat):Int),0):=by
 intro r
 induction r with
 |nil=>
  intro p m hl h24 hm hp
  obtain ⟨m,rfl,hm⟩:=ak hm
  simp only [mh,uF,aK,df,ah hk]
  rw [List.append_nil,if_neg (by omega),if_neg (by simp),List.map_nil,List.append_nil]
  rw [List.append_nil] at hl
  exact pG hk p (by omega) hp _
 |cons x r ih=>
  intro p m hl h24 hm hp
  obtain ⟨m,rfl,hm⟩:=ak hm
  have hx:=h24 x (by simp)
  have hl':p.length+(r.length+1)≤24:=by simpa using hl
  have e0:ints (p++x::r)=ints p++(x:Int)::ints r:=by simp [ints]
  have el:(p.length:Int)=((ints p).length:Int):=by rw [df]
  simp only [mh,uF,aK,ah hk]
  rw [if_pos (by rw [df,List.length_append,List.length_cons];omega),e0,el,sm]
  simp only [Option.bind_some]
  have ew:IntKind.wrap .i64 (((ints p).length:Int)+1)=(((p++[x]).length:Nat):Int):=by
   rw [df,dq (by omega) (by omega)];simp
  have key: ∀y:Nat,y<24→mh k ret (n:Int) (b:Int) m (ints p++(y:Int)::ints r) (((p++[x]).length:Nat):Int)=if (∃x∈r,n≤x∧24≤x+b) then ret (0,10) else ret (((b8 ((p++[y])++r.map (cO n b)):Nat):Int),0):=by
   intro y hy
   have:=ih (p++[y]) m (by simpa using hl') (fun z hz=>h24 z (by simp [hz])) (by simpa using hm) (by
    intro z hz
    rcases List.mem_append.1 hz with hz|hz
    ·exact hp z hz
    ·simp at hz;omega)
   rw [←this]
   congr 1
   ·simp [ints]
   ·simp
  rw [ew]
  by_cases hxn:x<n
  ·rw [if_pos (by omega),key x hx]
   have e1:cO n b x=x:=by unfold cO;rw [if_pos hxn]
   have e2:(∃z∈x::r,n≤z∧24≤z+b)↔(∃z∈r,n≤z∧24≤z+b):=by
    constructor
    ·rintro ⟨z,hz,h1,h2⟩
     rcases List.mem_cons.1 hz with rfl|hz
     ·omega
     ·exact ⟨z,hz,h1,h2⟩
    ·rintro ⟨z,hz,h⟩;exact ⟨z,by simp [hz],h⟩
   simp only [e2,List.map_cons,e1,List.append_assoc,List.singleton_append]
  ·rw [if_neg (by omega),dq (n:=24-(x:Int)) (by omega) (by omega)]
   by_cases hby:24≤x+b
   ·rw [if_pos (by omega),if_pos ⟨x,by simp,by omega,hby⟩]
   ·rw [if_neg (by omega),dq (n:=(x:Int)+(b:Int)) (by omega) (by omega),Int.toNat_natCast]
    have e3:(x:Int)+(b:Int)=((x+b:Nat):Int):=by simp
    rw [e3,Nh,List.append_assoc,List.singleton_append,key (x+b) (by omega)]
    have e1:cO n b x=x+b:=by unfold cO;rw [if_neg hxn]
    have e2:(∃z∈x::r,n≤z∧24≤z+b)↔(∃z∈r,n≤z∧24≤z+b):=by
     constructor
     ·rintro ⟨z,hz,h1,h2⟩
      rcases List.mem_cons.1 hz with rfl|hz
      ·omega
      ·exact ⟨z,hz,h1,h2⟩
     ·rintro ⟨z,hz,h⟩;exact ⟨z,by simp [hz],h⟩
    simp only [e2,List.map_cons,e1,List.append_assoc,List.singleton_append]
theorem FO (n j:Nat):(2^min n 24-1).testBit j=decide (j<n∧j<24):=by
 rw [Nat.testBit_two_pow_sub_one,Bool.eq_iff_iff];simp;omega
theorem Ai (m n j:Nat):(fA m n).testBit j=(m.testBit j&&decide (j<n∧j<24)):=by
 rw [fA,Nat.testBit_and,Nat.testBit_and,fM,FO,Bool.eq_iff_iff]
 simp only [Bool.and_eq_true,decide_eq_true_eq]
 constructor
 ·rintro ⟨⟨a,b⟩,c,d⟩;exact ⟨a,c,d⟩
 ·rintro ⟨a,c,d⟩;exact ⟨⟨a,d⟩,c,d⟩
theorem FP (m n j:Nat):(cH m n).testBit j=(m.testBit j&&decide (n≤j∧j<24)):=by
 rw [cH,jD,Nat.testBit_and,fM,FO,Bool.eq_iff_iff]
 simp only [Bool.and_eq_true,Bool.not_eq_true',decide_eq_true_eq,decide_eq_false_iff_not]
 constructor
 ·rintro ⟨⟨a,b⟩,c⟩;exact ⟨a,by omega,b⟩
 ·rintro ⟨a,b,c⟩;exact ⟨⟨a,c⟩,by omega⟩
theorem BZ (m n b:Nat):dN m n b=if (∃x∈bL m,n≤x∧24≤x+b) then (0,10) else (b8 ((bL m).map (cO n b)),0):=by
 have hnd:((bL m).map (cO n b)).Nodup:=by
  have: ∀x y,cO n b x=cO n b y→x=y:=by
   intro x y h;unfold cO at h;split at h<;>split at h<;>omega
  exact List.Pairwise.map (S:=fun a b=>a≠b) (R:=fun a b=>a≠b) _ (fun x y hxy h=>hxy (this x y h)) (m9 m)
 have hset: ∀j,(b8 ((bL m).map (cO n b))).testBit j=((fA m n).testBit j||(decide (b≤j)&&(cH m n).testBit (j-b))):=by
  intro j
  rw [mU _ hnd,Ai,FP,Bool.eq_iff_iff]
  simp only [decide_eq_true_eq,List.mem_map,mem_bitsN,Bool.or_eq_true,Bool.and_eq_true]
  constructor
  ·rintro ⟨x,⟨h1,h2⟩,rfl⟩
   unfold cO
   split
   ·exact .inl ⟨h2,by omega,h1⟩
   ·refine .inr ⟨by omega, ?_,by omega,by omega⟩
    rw [show x+b-b=x by omega];exact h2
  ·rintro (⟨h1,h2,h3⟩|⟨h1,h2,h3,h4⟩)
   ·exact ⟨j,⟨h3,h1⟩,by unfold cO;rw [if_pos h2]⟩
   ·exact ⟨j-b,⟨h4,h2⟩,by unfold cO;rw [if_neg (by omega)];omega⟩
 have hhigh: ∀j,(cH m n).testBit j=true↔(j∈bL m∧n≤j):=by
  intro j
  rw [FP,mem_bitsN];simp;constructor
  ·rintro ⟨a,b,c⟩;exact ⟨⟨c,a⟩,b⟩
  ·rintro ⟨⟨a,b⟩,c⟩;exact ⟨b,c,a⟩
 unfold dN
 by_cases h0:cH m n=0
 ·rw [if_pos h0,if_neg]
  ·congr 1
   apply Nat.eq_of_testBit_eq
   intro j
   rw [hset,h0,Nat.zero_testBit,Bool.and_false,Bool.or_false]
  ·rintro ⟨x,h1,h2,h3⟩
   have:=(hhigh x).2 ⟨h1,h2⟩
   rw [h0,Nat.zero_testBit] at this;cases this
 ·rw [if_neg h0]
  have hex: ∃j,(cH m n).testBit j=true:=by
   apply Classical.byContradiction
   intro hne
   apply h0
   apply Nat.eq_of_testBit_eq
   intro j
   rw [Nat.zero_testBit]
   cases hb:(cH m n).testBit j with
   |false=>rfl
   |true=>exact absurd ⟨j,hb⟩ hne
  have hmul: ∀j,(cH m n*2^b).testBit j=(decide (b≤j)&&(cH m n).testBit (j-b)):=by
   intro j;rw [Nat.testBit_mul_two_pow]
  by_cases h24:24≤b
  ·rw [if_pos h24]
   obtain ⟨j,hj⟩:=hex
   have:=(hhigh j).1 hj
   rw [if_pos ⟨j,this.1,this.2,by omega⟩]
  ·rw [if_neg h24]
   have hlt:=H1 (cH m n*2^b)
   by_cases hg:cH m n*2^b>16777215
   ·rw [if_pos hg,if_pos]
    apply Classical.byContradiction
    intro hne
    have:cH m n*2^b<16777216:=hlt.2 fun j hj=>by
     rw [hmul] at hj
     simp only [Bool.and_eq_true,decide_eq_true_eq] at hj
     have h1:=(hhigh _).1 hj.2
     apply Classical.byContradiction
     intro h2
     exact hne ⟨j-b,h1.1,h1.2,by omega⟩
    omega
   ·rw [if_neg hg,if_neg]
    ·congr 1
     apply Nat.eq_of_testBit_eq
     intro j
     rw [hset,Nat.testBit_or,hmul]
    ·rintro ⟨x,h1,h2,h3⟩
     have hx:(cH m n*2^b).testBit (x+b)=true:=by
      rw [hmul,decide_eq_true (by omega),Bool.true_and,show x+b-b=x by omega]
      exact (hhigh x).2 ⟨h1,h2⟩
     have:=hlt.1 (by omega) _ hx
     omega
theorem adH (hk:Fu k) {m:Nat} (hm:m<4294967296) (n b:Nat) (hn:n<9223372036854775808) (hb:b<9223372036854775808) (ret:Int×Int→Option S):
  j_ k (m:Int) (n:Int) (b:Int) ret=ret (((dN m n b).1:Int),((dN m n b).2:Int)):=by
 simp only [j_,tP,aK,ah hk]
 rw [if_neg (by omega),if_neg (by omega),pF hk hm]
 have:=Yx hk ret n b hn hb (bL m) [] k (by have:=fN m;simpa using this) (fun x hx=>(mem_bitsN.1 hx).1) (by have:=fN m;have:4294967296≤k:=hk;omega) (by simp)
 simp only [List.nil_append] at this
 refine Eq.trans this ?_
 rw [BZ]
 split<;>rfl
def jg (m:Nat) (i:Int):Nat:=if 0≤i∧i<24 then fA m i.toNat|||((m&&&M24)/2^(i.toNat+1)*2^i.toNat) else m&&&M24
theorem adA (hk:Fu k) {m:Nat} (hm:m<4294967296) (i:Int) (ret:Int→Option S):nq k (m:Int) i ret=ret ((jg m i:Nat):Int):=by
 simp only [nq,Ot,yO hk,ah hk]
 have hand:aY .and .u32 (m:Int) 16777215=((m&&&M24:Nat):Int):=jX hm (by decide:(16777215:Nat)<4294967296)
 have hlt:m&&&M24<16777216:=Nat.lt_of_le_of_lt Nat.and_le_right (by decide)
 rw [hand]
 unfold jg
 by_cases h:0≤i∧i<24
 ·obtain ⟨n,rfl⟩: ∃n:Nat,i=n:=⟨i.toNat,by omega⟩
  have hn:n<24:=by omega
  rw [decide_eq_true h,if_pos h,Bool.not_true,ad,Nm hk n (by omega)]
  have e1:(n:Int)+1=((n+1:Nat):Int):=by simp
  rw [dq (by omega) (by omega),e1,ga _ (by omega),ga _ (by omega),gY _ (by omega),gY _ (by omega)]
  rw [Int.toNat_natCast,Int.toNat_natCast,Nat.min_eq_left (show n+1≤32 by omega),Nat.min_eq_left (show n≤32 by omega),Bm,nc]
  have hb:2^min n 24-1<4294967296:=by
   have:2^min n 24≤2^24:=Nat.pow_le_pow_right (by decide) (by omega)
   have h24:(2:Nat)^24=16777216:=by decide
   omega
  have hq:(m&&&M24)/2^(n+1)*2^n≤m&&&M24:=by
   have h1:(m&&&M24)/2^(n+1)*2^(n+1)≤m&&&M24:=Nat.div_mul_le_self _ _
   have h2:2^n≤2^(n+1):=Nat.pow_le_pow_right (by decide) (by omega)
   exact Nat.le_trans (Nat.mul_le_mul_left _ h2) h1
  have ec:((((m&&&M24)/2^(n+1):Nat):Int))*((2^n:Nat):Int)=(((m&&&M24)/2^(n+1)*2^n:Nat):Int):=by simp
  rw [ec,jS _ (by omega),jX (by omega) hb]
  have hlow:fA m n<4294967296:=by have:fA m n≤m&&&M24:=Nat.and_le_left;omega
  show ret (aY .or .u32 ((fA m n:Nat):Int) _)=_
  rw [ua hlow (by omega)]
 ·rw [decide_eq_false h,if_neg h];rfl
def eb (i:Int) (x:Nat):Nat:=if 0≤i∧i<(x:Int) then x-1 else x
theorem Yv (hk:Fu k) (ret:Int→Option S) (i:Int):
  ∀ (r p:List Nat) (m:Nat),(p++r).length≤24→(∀x∈r,x<24)→r.length<m→(∀x∈p,x<24)→
  mg k ret i m (ints (p++r)) (p.length:Int)=ret ((b8 (p++r.map (eb i)):Nat):Int):=by
 intro r
 induction r with
 |nil=>
  intro p m hl h24 hm hp
  obtain ⟨m,rfl,hm⟩:=ak hm
  simp only [mg,uE,aK,df,ah hk]
  rw [List.append_nil,if_neg (by omega),List.map_nil,List.append_nil]
  rw [List.append_nil] at hl
  exact pG hk p (by omega) hp _
 |cons x r ih=>
  intro p m hl h24 hm hp
  obtain ⟨m,rfl,hm⟩:=ak hm
  have hx:=h24 x (by simp)
  have hl':p.length+(r.length+1)≤24:=by simpa using hl
  have e0:ints (p++x::r)=ints p++(x:Int)::ints r:=by simp [ints]
  have el:(p.length:Int)=((ints p).length:Int):=by rw [df]
  simp only [mg,uE,aK,ah hk]
  rw [if_pos (by rw [df,List.length_append,List.length_cons];omega),e0,el,sm]
  simp only [Option.bind_some]
  have ew:IntKind.wrap .i64 (((ints p).length:Int)+1)=(((p++[x]).length:Nat):Int):=by
   rw [df,dq (by omega) (by omega)];simp
  have key: ∀y:Nat,y<24→mg k ret i m (ints p++(y:Int)::ints r) (((p++[x]).length:Nat):Int)=ret ((b8 ((p++[y])++r.map (eb i)):Nat):Int):=by
   intro y hy
   have:=ih (p++[y]) m (by simpa using hl') (fun z hz=>h24 z (by simp [hz])) (by simpa using hm) (by
    intro z hz
    rcases List.mem_append.1 hz with hz|hz
    ·exact hp z hz
    ·simp at hz;omega)
   rw [←this]
   congr 1
   ·simp [ints]
   ·simp
  rw [ew]
  by_cases hi:i≥0
  ·rw [if_pos hi]
   by_cases hxi:(x:Int)>i
   ·rw [if_pos hxi,dq (n:=(x:Int)-1) (by omega) (by omega),Int.toNat_natCast]
    have e3:(x:Int)-1=((x-1:Nat):Int):=by omega
    have e1:eb i x=x-1:=by unfold eb;rw [if_pos ⟨hi,hxi⟩]
    rw [e3,Nh,List.append_assoc,List.singleton_append,key (x-1) (by omega),List.map_cons,e1,List.append_assoc,List.singleton_append]
   ·have e1:eb i x=x:=by unfold eb;rw [if_neg (by omega)]
    rw [if_neg hxi,key x hx,List.map_cons,e1,List.append_assoc,List.singleton_append]
  ·have e1:eb i x=x:=by unfold eb;rw [if_neg (by omega)]
   rw [if_neg hi,key x hx,List.map_cons,e1,List.append_assoc,List.singleton_append]
theorem U0 (m:Nat) (i:Int):jg m i=b8 ((bL (if 0≤i∧i<24 then dh (m&&&M24) (2^i.toNat) else m&&&M24)).map (eb i)):=by
 unfold jg
 by_cases h:0≤i∧i<24
 ·rw [if_pos h,if_pos h]
  obtain ⟨n,rfl⟩: ∃n:Nat,i=n:=⟨i.toNat,by omega⟩
  have hn:n<24:=by omega
  rw [Int.toNat_natCast]
  have hmem: ∀j,j∈bL (dh (m&&&M24) (2^n))↔(j<24∧m.testBit j=true∧j≠n):=by
   intro j
   rw [mem_bitsN,jD,Nat.testBit_and,fM,Nat.testBit_two_pow]
   simp only [Bool.and_eq_true,Bool.not_eq_true',decide_eq_true_eq,decide_eq_false_iff_not]
   constructor
   ·rintro ⟨a,⟨b,c⟩,d⟩;exact ⟨a,b,fun e=>d e.symm⟩
   ·rintro ⟨a,b,c⟩;exact ⟨a,⟨b,a⟩,fun e=>c e.symm⟩
  have hnd:((bL (dh (m&&&M24) (2^n))).map (eb n)).Nodup:=by
   rw [List.nodup_iff_pairwise_ne,List.pairwise_map]
   refine List.Pairwise.imp_of_mem (fun {x y} hx hy hxy h=>hxy ?_) (m9 _)
   have h1:=(hmem x).1 hx;have h2:=(hmem y).1 hy
   have h3:=h1.2.2;have h4:=h2.2.2
   unfold eb at h;split at h<;>split at h<;>omega
  apply Nat.eq_of_testBit_eq
  intro j
  rw [mU _ hnd,Nat.testBit_or,Ai,Nat.testBit_mul_two_pow,Nat.testBit_div_two_pow,Nat.testBit_and,fM,Bool.eq_iff_iff]
  simp only [Bool.or_eq_true,Bool.and_eq_true,decide_eq_true_eq,List.mem_map,hmem]
  constructor
  ·rintro (⟨a,b,c⟩|⟨a,b,c⟩)
   ·exact ⟨j,⟨c,a,by omega⟩,by unfold eb;rw [if_neg (by omega)]⟩
   ·refine ⟨j+1,⟨by omega, ?_,by omega⟩,by unfold eb;rw [if_pos (by omega)];omega⟩
    rw [show j+1=j-n+(n+1) by omega];exact b
  ·rintro ⟨x,⟨a,b,c⟩,rfl⟩
   unfold eb
   split
   ·refine .inr ⟨by omega, ?_,by omega⟩
    rw [show x-1-n+(n+1)=x by omega];exact b
   ·exact .inl ⟨b,by omega,a⟩
 ·rw [if_neg h,if_neg h]
  have e:(bL (m&&&M24)).map (eb i)=bL (m&&&M24):=by
   conv=>rhs;rw [←List.map_id (bL (m&&&M24))]
   apply List.map_congr_left
   intro x hx
   have:=(mem_bitsN.1 hx).1
   unfold eb
   rw [if_neg (by omega)];rfl
  rw [e,DR,Nat.and_assoc,Nat.and_self]
theorem adG (hk:Fu k) {m:Nat} (hm:m<4294967296) (i:Int) (ret:Int→Option S):nw k (m:Int) i ret=ret ((jg m i:Nat):Int):=by
 simp only [nw,EB,ah hk,tL hk hm]
 have hlt:m&&&M24<4294967296:=Nat.lt_of_le_of_lt Nat.and_le_right (by decide)
 have e:(if 0≤i∧i<24 then ((dh (m&&&M24) (2^i.toNat):Nat):Int) else ((m&&&M24:Nat):Int))=(((if 0≤i∧i<24 then dh (m&&&M24) (2^i.toNat) else m&&&M24):Nat):Int):=by split<;>rfl
 have hq:(if 0≤i∧i<24 then dh (m&&&M24) (2^i.toNat) else m&&&M24)<4294967296:=by
  split
  ·exact s9 (n:=32) hlt
  ·exact hlt
 rw [e,pF hk hq,U0]
 generalize (if 0≤i∧i<24 then dh (m&&&M24) (2^i.toNat) else m&&&M24)=q at hq ⊢
 have:=Yv hk ret i (bL q) [] k (by have:=fN q;simpa using this) (fun x hx=>(mem_bitsN.1 hx).1) (by have:=fN q;have:4294967296≤k:=hk;omega) (by simp)
 simpa using this
end Go.Proofs.YtapmagaejigpnaaGreatDoor
namespace Go.Proofs.YtapmagaejigpnaaGreatDoor
open Go PI
set_option linter.unusedVariables false
set_option linter.unusedSimpArgs false
set_option maxRecDepth 20000
variable {S:Type} {k:Nat}
def aE (n:Int):Prop:= -9223372036854775808≤n∧n<9223372036854775808
def jK (s:Int):Bool:=decide (s<16777216)
def bF (s i:Int):Bool:=decide (0≤i∧i<24)&&s.toNat.testBit i.toNat
def d5 (s i:Int):Int:=if 0≤i∧i<24 then (((s.toNat&&&M24)|||2^i.toNat:Nat):Int) else ((s.toNat&&&M24:Nat):Int)
def dj (s i:Int):Int:=if 0≤i∧i<24 then ((dh (s.toNat&&&M24) (2^i.toNat):Nat):Int) else ((s.toNat&&&M24:Nat):Int)
def eY (s:Int):List Int:=ints (bL s.toNat)
def ca (s i b:Int):Int×Int:=if i<0∨b<0 then (0,2) else (((dN s.toNat i.toNat b.toNat).1:Int),((dN s.toNat i.toNat b.toNat).2:Int))
def nI (s i:Int):Int:=((jg s.toNat i:Nat):Int)
theorem L6 (m:Nat):jK (m:Int)=decide (m<16777216):=by
 unfold jK;rw [Bool.eq_iff_iff,decide_eq_true_iff,decide_eq_true_iff];omega
theorem My (hk:Fu k) {s:Int} (h:U32 s) (ret:Bool→Option S):nr k s ret=ret (jK s):=by
 obtain ⟨m,hm,rfl⟩:=h.nat
 rw [adD hk hm,L6]
theorem M7 (hk:Fu k) {s:Int} (h:U32 s) (ret:Bool→Option S):nx k s ret=ret (jK s):=by
 obtain ⟨m,hm,rfl⟩:=h.nat
 rw [adI hk hm,L6]
theorem pB (hk:Fu k) {s:Int} (h:U32 s) (i:Int) (ret:Bool→Option S):gm k s i ret=ret (bF s i):=by
 obtain ⟨m,hm,rfl⟩:=h.nat
 rw [adB hk hm];rfl
theorem gR (hk:Fu k) {s:Int} (h:U32 s) (i:Int) (ret:Bool→Option S):dH k s i ret=ret (bF s i):=by
 obtain ⟨m,hm,rfl⟩:=h.nat
 rw [Nn hk hm];rfl
theorem tD (hk:Fu k) {s:Int} (h:U32 s) (i:Int) (ret:Int→Option S):g8 k s i ret=ret (d5 s i):=by
 obtain ⟨m,hm,rfl⟩:=h.nat
 rw [adE hk hm];rfl
theorem adg (hk:Fu k) {s:Int} (h:U32 s) (i:Int) (ret:Int→Option S):rk k s i ret=ret (d5 s i):=by
 obtain ⟨m,hm,rfl⟩:=h.nat
 rw [adJ hk hm];rfl
theorem tF (hk:Fu k) {s:Int} (h:U32 s) (i:Int) (ret:Int→Option S):jb k s i ret=ret (dj s i):=by
 obtain ⟨m,hm,rfl⟩:=h.nat
 rw [adF hk hm];rfl
theorem yJ (hk:Fu k) {s:Int} (h:U32 s) (i:Int) (ret:Int→Option S):fR k s i ret=ret (dj s i):=by
 obtain ⟨m,hm,rfl⟩:=h.nat
 rw [tL hk hm];rfl
theorem ada (hk:Fu k) {s:Int} (h:U32 s) (ret:List Int→Option S):g9 k s ret=ret (eY s):=by
 obtain ⟨m,hm,rfl⟩:=h.nat
 rw [pF hk hm];rfl
theorem Jm {s:Int} (h:U32 s):oU s=eY s:=by
 obtain ⟨m,hm,rfl⟩:=h.nat
 have: ∀i:Nat,(BitVec.ofInt 32 (m:Int)).getLsbD i=m.testBit i:=by
  intro i;rw [BitVec.getLsbD,lJ hm]
 unfold oU eY ints bL
 simp only [this];rfl
theorem Mw (hk:Fu k) {s i b:Int} (h:U32 s) (hi:aE i) (hb:aE b) (ret:Int×Int→Option S):j9 k s i b ret=ret (ca s i b):=by
 obtain ⟨m,hm,rfl⟩:=h.nat
 by_cases h1:i<0
 ·simp only [j9,yS,aK,ca];rw [if_pos h1,if_pos (.inl h1)]
 by_cases h2:b<0
 ·simp only [j9,yS,aK,ca];rw [if_neg h1,if_pos h2,if_pos (.inr h2)]
 obtain ⟨n,rfl⟩: ∃n:Nat,i=n:=⟨i.toNat,by omega⟩
 obtain ⟨c,rfl⟩: ∃n:Nat,b=n:=⟨b.toNat,by omega⟩
 have:=hi.2;have:=hb.2
 rw [adC hk hm n c (by omega) (by omega),ca,if_neg (by omega)];rfl
theorem M4 (hk:Fu k) {s i b:Int} (h:U32 s) (hi:aE i) (hb:aE b) (ret:Int×Int→Option S):j_ k s i b ret=ret (ca s i b):=by
 obtain ⟨m,hm,rfl⟩:=h.nat
 by_cases h1:i<0
 ·simp only [j_,tP,aK,ca];rw [if_pos h1,if_pos (.inl h1)]
 by_cases h2:b<0
 ·simp only [j_,tP,aK,ca];rw [if_neg h1,if_pos h2,if_pos (.inr h2)]
 obtain ⟨n,rfl⟩: ∃n:Nat,i=n:=⟨i.toNat,by omega⟩
 obtain ⟨c,rfl⟩: ∃n:Nat,b=n:=⟨b.toNat,by omega⟩
 have:=hi.2;have:=hb.2
 rw [adH hk hm n c (by omega) (by omega),ca,if_neg (by omega)];rfl
theorem Mu (hk:Fu k) {s:Int} (h:U32 s) (i:Int) (ret:Int→Option S):nq k s i ret=ret (nI s i):=by
 obtain ⟨m,hm,rfl⟩:=h.nat
 rw [adA hk hm];rfl
theorem M3 (hk:Fu k) {s:Int} (h:U32 s) (i:Int) (ret:Int→Option S):nw k s i ret=ret (nI s i):=by
 obtain ⟨m,hm,rfl⟩:=h.nat
 rw [adG hk hm];rfl
theorem Ar (hk:Fu k) (ret:Int→Option S):j8 k 0 ret=ret 0:=by
 simp only [j8,EA,ah hk];rfl
theorem As (hk:Fu k) (ret:Int→Option S): ∀n:Nat,n<24→j8 k ((2^n:Nat):Int) ret=ret 1:=by
 simp only [j8,EA,ah hk]
 intro n hn
 match n,hn with
 |0,_|1,_|2,_|3,_|4,_|5,_|6,_|7,_|8,_|9,_|10,_|11,_|12,_|13,_|14,_|15,_|16,_|17,_|18,_|19,_|20,_|21,_|22,_|23,_=>rfl
 |n+24,h=>omega
theorem tV (i:Int):d5 0 i=if 0≤i∧i<24 then ((2^i.toNat:Nat):Int) else 0:=by
 unfold d5
 split
 ·simp
 ·rfl
theorem acy (hk:Fu k) (i:Int) (ret:Bool→Option S):vF k i ret=ret (decide (0≤i∧i<24)):=by
 simp only [vF,NM,ah hk,tD hk (s:=0) ⟨by omega,by omega⟩,tV]
 split
 ·next h=>rw [As hk _ _ (by omega),decide_eq_true h];rfl
 ·next h=>rw [Ar hk,decide_eq_false h];rfl
theorem acz (hk:Fu k) (i:Int) (ret:Bool→Option S):vM k i ret=ret (decide (0≤i∧i<24)):=by
 simp only [vM,N4,ah hk,tD hk (s:=0) ⟨by omega,by omega⟩,tV]
 split
 ·next h=>rw [As hk _ _ (by omega),decide_eq_true h];rfl
 ·next h=>rw [Ar hk,decide_eq_false h];rfl
theorem U32.of {n:Nat} (h:n<4294967296):U32 (n:Int):=⟨by omega,by omega⟩
theorem withS_lt {s i:Int}:0≤d5 s i∧d5 s i<16777216:=by
 have h1:s.toNat&&&M24<16777216:=Nat.lt_of_le_of_lt Nat.and_le_right (by decide)
 unfold d5
 split
 ·next h=>
  have hp:2^i.toNat<2^24:=Nat.pow_lt_pow_right (by decide) (by omega)
  have:=Nat.or_lt_two_pow (n:=24) h1 hp
  have h24:(2:Nat)^24=16777216:=by decide
  omega
 ·omega
theorem withoutS_lt {s i:Int}:0≤dj s i∧dj s i<16777216:=by
 have h1:s.toNat&&&M24<16777216:=Nat.lt_of_le_of_lt Nat.and_le_right (by decide)
 unfold dj
 split
 ·have:=s9 (n:=24) (b:=2^i.toNat) h1
  have h24:(2:Nat)^24=16777216:=by decide
  omega
 ·omega
theorem U1 (m:Nat) (i:Int):jg m i<16777216:=by
 have h1:m&&&M24<16777216:=Nat.lt_of_le_of_lt Nat.and_le_right (by decide)
 unfold jg
 split
 ·rw [H1]
  intro j hj
  rw [Nat.testBit_or,Ai,Nat.testBit_mul_two_pow,Nat.testBit_div_two_pow,Nat.testBit_and,fM] at hj
  simp only [Bool.or_eq_true,Bool.and_eq_true,decide_eq_true_eq] at hj
  omega
 ·exact h1
deriving instance DecidableEq for Cl
theorem Cl.ext' {a b:Cl} (h1:a.pos=b.pos) (h2:a.neg=b.neg):a=b:=by cases a;cases b;cases h1;cases h2;rfl
theorem iW (a b:Cl):((a.pos==b.pos)&&((a.neg==b.neg)&&true))=decide (a=b):=by
 rw [Bool.eq_iff_iff]
 simp only [Bool.and_true,Bool.and_eq_true,beq_iff_eq,decide_eq_true_eq]
 exact ⟨fun h=>Cl.ext' h.1 h.2,fun h=>h▸⟨rfl,rfl⟩⟩
def aL (c:Cl):Prop:=U32 c.pos∧U32 c.neg
def am (f:List Cl):Prop:= ∀c∈f,aL c
def cM (c:Cl):Bool:=jK c.pos&&jK c.neg
def RC (c:Cl):Prop:=(0≤c.pos∧c.pos<16777216)∧(0≤c.neg∧c.neg<16777216)
theorem RC.ok {c:Cl} (h:RC c):aL c:=⟨⟨h.1.1,by have:=h.1.2;omega⟩,⟨h.2.1,by have:=h.2.2;omega⟩⟩
theorem yz {c:Cl} (h:aL c):cM c=true↔RC c:=by
 unfold cM jK RC
 simp only [Bool.and_eq_true,decide_eq_true_eq]
 have h1:=h.1.1;have h2:=h.2.1
 constructor
 ·rintro ⟨a,b⟩;exact ⟨⟨h1,a⟩,h2,b⟩
 ·rintro ⟨a,b⟩;exact ⟨a.2,b.2⟩
def dz (a b:Int):Int:=((a.toNat|||b.toNat:Nat):Int)
theorem o8 {a b:Int} (ha:U32 a) (hb:U32 b):aY .or .u32 a b=dz a b:=by
 obtain ⟨m,hm,rfl⟩:=ha.nat;obtain ⟨n,hn,rfl⟩:=hb.nat
 rw [ua hm hn];rfl
def cD (a b:Cl):Cl:=⟨dz a.pos b.pos,dz a.neg b.neg⟩
def cW (a b:Cl):Bool:=decide (cD a b=a)
def bw (c:Cl):Bool:= !decide (c.pos.toNat&&&c.neg.toNat=0)
theorem Cx {a b:Int} (ha:U32 a) (hb:U32 b):U32 (dz a b):=by
 obtain ⟨m,hm,rfl⟩:=ha.nat;obtain ⟨n,hn,rfl⟩:=hb.nat
 exact U32.of (Nat.or_lt_two_pow (n:=32) hm hn)
theorem JE {a b:Int} (ha:0≤a∧a<16777216) (hb:0≤b∧b<16777216):0≤dz a b∧dz a b<16777216:=by
 unfold dz
 have:=Nat.or_lt_two_pow (n:=24) (x:=a.toNat) (y:=b.toNat) (by omega) (by omega)
 omega
theorem xz {a b:Cl} (ha:aL a) (hb:aL b):aL (cD a b):=⟨Cx ha.1 hb.1,Cx ha.2 hb.2⟩
theorem Jp {a b:Cl} (ha:RC a) (hb:RC b):RC (cD a b):=⟨JE ha.1 hb.1,JE ha.2 hb.2⟩
theorem ME (hk:Fu k) {c:Cl} (h:aL c) (ret:Bool→Option S):qY k c ret=ret (cM c):=by
 simp only [qY,NK,ah hk,My hk h.1,My hk h.2,cM,co]
 cases jK c.pos<;>rfl
theorem M0 (hk:Fu k) {c:Cl} (h:aL c) (ret:Bool→Option S):rn k c ret=ret (cM c):=by
 simp only [rn,OH,ah hk,M7 hk h.1,M7 hk h.2,cM,co]
 cases jK c.pos<;>rfl
theorem DC (hk:Fu k) {a b:Cl} (ha:aL a) (hb:aL b) (ret:Cl→Option S):nh k a b ret=ret (cD a b):=by
 simp only [nh,NJ,o8 ha.1 hb.1,o8 ha.2 hb.2];rfl
theorem acv (hk:Fu k) {a b:Cl} (ha:aL a) (hb:aL b) (ret:Bool→Option S):vB k a b ret=ret (cW a b):=by
 simp only [vB,NE,ah hk,DC hk ha hb,iW];rfl
theorem acX (hk:Fu k) {a b:Cl} (ha:aL a) (hb:aL b) (ret:Bool→Option S):wd k a b ret=ret (cW a b):=by
 have e:cW a b=((dz a.pos b.pos==a.pos)&&((dz a.neg b.neg==a.neg)&&true)):=(iW (cD a b) a).symm
 simp only [wd,OD,o8 ha.1 hb.1,o8 ha.2 hb.2,co,e]
 cases dz a.pos b.pos==a.pos<;>cases dz a.neg b.neg==a.neg<;>rfl
theorem MD (hk:Fu k) {c:Cl} (h:aL c) (ret:Bool→Option S):qX k c ret=ret (bw c):=by
 obtain ⟨p,n⟩:=c
 obtain ⟨m,hm,rfl⟩:=h.1.nat;obtain ⟨n,hn,rfl⟩:=h.2.nat
 simp only [qX,NF,jX hm hn,bw,Int.toNat_natCast]
 congr 2
 rw [Bool.eq_iff_iff];simp only [beq_iff_eq,decide_eq_true_eq];omega
open Classical in
theorem Yu (hk:Fu k) {c:Cl} (h:aL c) (ret:Bool→Option S): ∀ (d i m:Nat),i+d=24→d<m→
  oj k ret c m (i:Int)=ret (decide (∃j,i≤j∧j<24∧c.pos.toNat.testBit j=true∧c.neg.toNat.testBit j=true)):=by
 intro d
 induction d with
 |zero=>
  intro i m e hm
  obtain ⟨m,rfl,hm⟩:=ak hm
  simp only [oj,uK,aK]
  rw [if_neg (by omega),decide_eq_false]
  rintro ⟨j,h1,h2,_⟩;omega
 |succ d ih=>
  intro i m e hm
  obtain ⟨m,rfl,hm⟩:=ak hm
  have e2:(i:Int)+1=((i+1:Nat):Int):=by simp
  simp only [oj,uK,ah hk,gR hk h.1,gR hk h.2,co,decide_eq_true_eq]
  rw [if_pos (by omega),dq (by omega) (by omega),e2,ih (i+1) m (by omega) (by omega)]
  have hp:bF c.pos (i:Int)=c.pos.toNat.testBit i:=by unfold bF;rw [decide_eq_true (by omega),Bool.true_and];rfl
  have hn:bF c.neg (i:Int)=c.neg.toNat.testBit i:=by unfold bF;rw [decide_eq_true (by omega),Bool.true_and];rfl
  rw [hp,hn]
  have step: ¬(c.pos.toNat.testBit i=true∧c.neg.toNat.testBit i=true)→((∃j,i+1≤j∧j<24∧c.pos.toNat.testBit j=true∧c.neg.toNat.testBit j=true)↔(∃j,i≤j∧j<24∧c.pos.toNat.testBit j=true∧c.neg.toNat.testBit j=true)):=by
   intro hne
   constructor
   ·rintro ⟨j,a,b⟩;exact ⟨j,by omega,b⟩
   ·rintro ⟨j,a,b⟩
    refine ⟨j, ?_,b⟩
    have:j≠i:=by rintro rfl;exact hne b.2
    omega
  by_cases h1:c.pos.toNat.testBit i=true
  ·by_cases h2:c.neg.toNat.testBit i=true
   ·rw [if_pos h1,if_pos h2,decide_eq_true]
    exact ⟨i,by omega,by omega,h1,h2⟩
   ·rw [if_pos h1,if_neg h2];simp only [step (fun h=>h2 h.2)]
  ·rw [if_neg h1];simp only [step (fun h=>h1 h.1)]
theorem MY (hk:Fu k) {c:Cl} (h:RC c) (ret:Bool→Option S):rl k c ret=ret (bw c):=by
 simp only [rl,EG]
 have:=Yu hk h.ok ret 24 0 k (by omega) (by have:4294967296≤k:=hk;omega)
 refine Eq.trans this ?_
 congr 1
 rw [bw,Bool.eq_iff_iff]
 simp only [decide_eq_true_eq,Bool.not_eq_true',decide_eq_false_iff_not]
 constructor
 ·rintro ⟨j,_,_,h1,h2⟩ h0
  have:(c.pos.toNat&&&c.neg.toNat).testBit j=true:=by rw [Nat.testBit_and,h1,h2];rfl
  rw [h0,Nat.zero_testBit] at this;cases this
 ·intro h0
  apply Classical.byContradiction
  intro hne
  apply h0
  apply Nat.eq_of_testBit_eq
  intro j
  rw [Nat.zero_testBit,Nat.testBit_and]
  cases h1:c.pos.toNat.testBit j with
  |false=>rfl
  |true=>
   cases h2:c.neg.toNat.testBit j with
   |false=>rfl
   |true=>
    have hlt:c.pos.toNat<16777216:=by have:=h.1;omega
    exact absurd ⟨j,by omega,m_ hlt h1,h1,h2⟩ hne
theorem aeA (s:Int) (x:Nat) (hx:x<24) (j:Nat):(d5 s (x:Int)).toNat.testBit j=((s.toNat.testBit j&&decide (j<24))||decide (j=x)):=by
 unfold d5
 rw [if_pos (by omega),Int.toNat_natCast,Int.toNat_natCast,Nat.testBit_or,Nat.testBit_and,fM,Nat.testBit_two_pow,Bool.eq_iff_iff]
 simp only [Bool.or_eq_true,Bool.and_eq_true,decide_eq_true_eq]
 constructor<;>(rintro (h|h);exact .inl h;exact .inr h.symm)
theorem ZW (hk:Fu k) (ret:Int→Option S): ∀ (r p:List Nat) (m:Nat) (a:Int),(p++r).length≤24→(∀x∈r,x<24)→r.length<m→U32 a→
  ∃v:Int,U32 v∧(∀j,v.toNat.testBit j=((a.toNat.testBit j&&(decide (r=[])||decide (j<24)))||decide (j∈r)))∧oq k ret (ints (p++r)) m a (p.length:Int)=ret v:=by
 intro r
 induction r with
 |nil=>
  intro p m a hl h24 hm ha
  obtain ⟨m,rfl,hm⟩:=ak hm
  refine ⟨a,ha,fun j=>by simp, ?_⟩
  simp only [oq,uN,aK,df]
  rw [List.append_nil,if_neg (by omega)]
 |cons x r ih=>
  intro p m a hl h24 hm ha
  obtain ⟨m,rfl,hm⟩:=ak hm
  have hx:=h24 x (by simp)
  have hl':p.length+(r.length+1)≤24:=by simpa using hl
  have hu:U32 (d5 a (x:Int)):=⟨withS_lt.1,by have:=(withS_lt (s:=a) (i:=(x:Int))).2;omega⟩
  obtain ⟨v,hv,hb,hr⟩:=ih (p++[x]) m (d5 a (x:Int)) (by simpa using hl') (fun z hz=>h24 z (by simp [hz])) (by simpa using hm) hu
  refine ⟨v,hv,fun j=> ?_, ?_⟩
  ·rw [hb,aeA _ _ hx,Bool.eq_iff_iff]
   simp only [Bool.or_eq_true,Bool.and_eq_true,decide_eq_true_eq,List.mem_cons,reduceCtorEq,decide_false,Bool.false_or]
   constructor
   ·rintro (⟨h|h,_⟩|h)
    ·exact .inl h
    ·exact .inr (.inl h)
    ·exact .inr (.inr h)
   ·rintro (h|h|h)
    ·exact .inl ⟨.inl h,.inr h.2⟩
    ·exact .inl ⟨.inr h,.inr (by omega)⟩
    ·exact .inr h
  ·have e0:ints (p++x::r)=ints p++(x:Int)::ints r:=by simp [ints]
   have el:(p.length:Int)=((ints p).length:Int):=by rw [df]
   simp only [oq,uN,aK,ah hk]
   rw [if_pos (by rw [df,List.length_append,List.length_cons];omega),e0,el,sm]
   simp only [Option.bind_some,adg hk ha]
   have ew:IntKind.wrap .i64 (((ints p).length:Int)+1)=(((p++[x]).length:Nat):Int):=by
    rw [df,dq (by omega) (by omega)];simp
   rw [ew,←hr]
   congr 1
   simp [ints]
theorem Na (hk:Fu k) {a b:Int} (ha:0≤a∧a<16777216) (hb:0≤b∧b<16777216) (ret:Int→Option S):rp k a b ret=ret (dz a b):=by
 have ha':U32 a:=⟨ha.1,by omega⟩
 have hb':U32 b:=⟨hb.1,by omega⟩
 simp only [rp,EJ,ah hk,ada hk hb',eY]
 obtain ⟨v,hv,hbit,hr⟩:=ZW hk ret (bL b.toNat) [] k a (by have:=fN b.toNat;simpa using this) (fun x hx=>(mem_bitsN.1 hx).1) (by have:=fN b.toNat;have:4294967296≤k:=hk;omega) ha'
 refine Eq.trans hr ?_
 congr 1
 have:v.toNat=a.toNat|||b.toNat:=by
  apply Nat.eq_of_testBit_eq
  intro j
  rw [hbit,Nat.testBit_or,Bool.eq_iff_iff]
  simp only [Bool.or_eq_true,Bool.and_eq_true,decide_eq_true_eq,mem_bitsN]
  constructor
  ·rintro (h|h)
   ·exact .inl h.1
   ·exact .inr h.2
  ·rintro (h|h)
   ·exact .inl ⟨h,.inr (m_ (m:=a.toNat) (by omega) h)⟩
   ·exact .inr ⟨m_ (m:=b.toNat) (by omega) h,h⟩
 have hv0:=hv.1
 unfold dz
 omega
theorem MZ (hk:Fu k) {a b:Cl} (ha:RC a) (hb:RC b) (ret:Cl→Option S):rm k a b ret=ret (cD a b):=by
 simp only [rm,OG,ah hk,Na hk ha.1 hb.1,Na hk ha.2 hb.2];rfl
def cJ (c:Cl) (i b:Int):Cl×Int:=
 if cM c then
  if (ca c.pos i b).2=0 then if (ca c.neg i b).2=0 then (⟨(ca c.pos i b).1,(ca c.neg i b).1⟩,0) else (⟨0,0⟩,(ca c.neg i b).2)
  else (⟨0,0⟩,(ca c.pos i b).2)
 else (⟨0,0⟩,2)
theorem acw (hk:Fu k) {c:Cl} {i b:Int} (h:aL c) (hi:aE i) (hb:aE b) (ret:Cl×Int→Option S):vE k c i b ret=ret (cJ c i b):=by
 simp only [vE,NI,ah hk,ME hk h,Mw hk h.1 hi hb,Mw hk h.2 hi hb,co,cJ,Bool.not_eq_true',beq_eq_false_iff_ne]
 cases cM c<;>simp only [reduceIte,Bool.false_eq_true,Bool.true_eq_false]
 by_cases h1:(ca c.pos i b).2=0
 ·by_cases h2:(ca c.neg i b).2=0<;>simp [h1,h2]
 ·simp [h1]
theorem acY (hk:Fu k) {c:Cl} {i b:Int} (h:aL c) (hi:aE i) (hb:aE b) (ret:Cl×Int→Option S):wg k c i b ret=ret (cJ c i b):=by
 simp only [wg,OF,ah hk,M0 hk h,M4 hk h.1 hi hb,M4 hk h.2 hi hb,co,cJ,Bool.not_eq_true',beq_eq_false_iff_ne]
 cases cM c<;>simp only [reduceIte,Bool.false_eq_true,Bool.true_eq_false]
 by_cases h1:(ca c.pos i b).2=0
 ·by_cases h2:(ca c.neg i b).2=0<;>simp [h1,h2]
 ·simp [h1]
end Go.Proofs.YtapmagaejigpnaaGreatDoor
namespace Go.Proofs.YtapmagaejigpnaaGreatDoor
open Go PI
set_option linter.unusedVariables false
set_option linter.unusedSimpArgs false
set_option maxRecDepth 20000
variable {S:Type} {k:Nat}
def fB (a b:Cl):Prop:=a.pos<b.pos∨(a.pos=b.pos∧a.neg<b.neg)
def oS (a b:Cl):Bool:=decide (a.pos<b.pos)||(a.pos==b.pos&&decide (a.neg<b.neg))
theorem lessB_iff {a b:Cl}:oS a b=true↔fB a b:=by unfold oS fB;simp
theorem H2 {a b c:Cl} (h:fB a b) (h':fB b c):fB a c:=by unfold fB at*;omega
theorem B7 {a:Cl} (h:fB a a):False:=by unfold fB at h;omega
theorem aaj (a b:Cl):fB a b∨a=b∨fB b a:=by
 by_cases h:a=b
 ·exact .inr (.inl h)
 ·have: ¬(a.pos=b.pos∧a.neg=b.neg):=fun h'=>h (Cl.ext' h'.1 h'.2)
  unfold fB;omega
abbrev jW (l:List Cl):Prop:=l.Pairwise fB
theorem yN: ∀ {a b:List Cl},jW a→jW b→(∀c,c∈a↔c∈b)→a=b:=by
 intro a
 induction a with
 |nil=>
  intro b _ _ h
  cases b with
  |nil=>rfl
  |cons y b=>exact absurd ((h y).2 (by simp)) (by simp)
 |cons x a ih=>
  intro b ha hb h
  cases b with
  |nil=>exact absurd ((h x).1 (by simp)) (by simp)
  |cons y b=>
   have ha':=List.pairwise_cons.1 ha;have hb':=List.pairwise_cons.1 hb
   have hxy:x=y:=by
    rcases List.mem_cons.1 ((h x).1 (by simp)) with h1|h1
    ·exact h1
    ·rcases List.mem_cons.1 ((h y).2 (by simp)) with h2|h2
     ·exact h2.symm
     ·exact absurd (H2 (ha'.1 y h2) (hb'.1 x h1)) B7
   subst hxy
   congr 1
   refine ih ha'.2 hb'.2 fun c=>⟨fun hc=> ?_,fun hc=> ?_⟩
   ·rcases List.mem_cons.1 ((h c).1 (by simp [hc])) with rfl|h1
    ·exact absurd (ha'.1 _ hc) B7
    ·exact h1
   ·rcases List.mem_cons.1 ((h c).2 (by simp [hc])) with rfl|h1
    ·exact absurd (hb'.1 _ hc) B7
    ·exact h1
def dx (x:Cl):List Cl→List Cl
 |[]=>[x]
 |y::r=>if oS y x then y::dx x r else if y=x then y::r else x::y::r
theorem mem_insC {x c:Cl}: ∀ {l:List Cl},c∈dx x l↔c=x∨c∈l:=by
 intro l
 induction l with
 |nil=>simp [dx]
 |cons y r ih=>
  unfold dx
  split
  ·rw [List.mem_cons,ih,List.mem_cons];exact ⟨fun h=>by rcases h with h|h|h<;>simp [h],fun h=>by rcases h with h|h|h<;>simp [h]⟩
  ·split
   ·next h=>subst h;rw [List.mem_cons];exact ⟨fun h=> .inr h,fun h=>by rcases h with h|h;exact .inl h;exact h⟩
   ·rw [List.mem_cons]
theorem XK {x:Cl}: ∀ {l:List Cl},jW l→jW (dx x l):=by
 intro l
 induction l with
 |nil=>intro _;simp [dx]
 |cons y r ih=>
  intro h
  have h':=List.pairwise_cons.1 h
  unfold dx
  split
  ·next hl=>
   refine List.pairwise_cons.2 ⟨fun c hc=> ?_,ih h'.2⟩
   rcases mem_insC.1 hc with rfl|hc
   ·exact lessB_iff.1 hl
   ·exact h'.1 c hc
  ·next hl=>
   split
   ·exact h
   ·next hne=>
    have hxy:fB x y:=by
     rcases aaj y x with h1|h1|h1
     ·exact absurd (lessB_iff.2 h1) hl
     ·exact absurd h1 hne
     ·exact h1
    refine List.pairwise_cons.2 ⟨fun c hc=> ?_,h⟩
    rcases List.mem_cons.1 hc with rfl|hc
    ·exact hxy
    ·exact H2 hxy (h'.1 c hc)
theorem Hp {x:Cl}: ∀ {l:List Cl},(dx x l).length≤l.length+1:=by
 intro l
 induction l with
 |nil=>simp [dx]
 |cons y r ih=>
  unfold dx
  split
  ·simp only [List.length_cons];omega
  ·split<;>simp
def bJ (l:List Cl) (c:Cl):Bool:=l.all fun d=>decide (d=c)|| !cW c d
def gu (o l:List Cl):List Cl:=l.foldl (fun o c=>dx c o) o
def dg (l:List Cl):List Cl:=gu [] (l.filter (bJ l))
theorem aaq {c:Cl}: ∀ {l o:List Cl},c∈gu o l↔c∈l∨c∈o:=by
 intro l
 induction l with
 |nil=>intro o;simp [gu]
 |cons x l ih=>
  intro o
  show c∈gu (dx x o) l↔_
  rw [ih,mem_insC,List.mem_cons]
  constructor
  ·rintro (h|h|h)
   ·exact .inl (.inr h)
   ·exact .inl (.inl h)
   ·exact .inr h
  ·rintro ((h|h)|h)
   ·exact .inr (.inl h)
   ·exact .inl h
   ·exact .inr (.inr h)
theorem XJ: ∀ {l o:List Cl},jW o→jW (gu o l):=by
 intro l
 induction l with
 |nil=>intro o h;exact h
 |cons x l ih=>intro o h;exact ih (XK h)
theorem XI: ∀ {l o:List Cl},(gu o l).length≤o.length+l.length:=by
 intro l
 induction l with
 |nil=>intro o;simp [gu]
 |cons x l ih=>
  intro o
  have h1:(gu (dx x o) l).length≤(dx x o).length+l.length:=ih
  have h2:= @Hp x o
  show (gu (dx x o) l).length≤_
  rw [List.length_cons];omega
theorem oV (l:List Cl):jW (dg l):=XJ List.Pairwise.nil
theorem mem_mins {l:List Cl} {c:Cl}:c∈dg l↔c∈l∧bJ l c=true:=by
 rw [dg,aaq,List.mem_filter];simp
theorem aat (l:List Cl):(dg l).length≤l.length:=by
 have h1:= @XI (l.filter (bJ l)) []
 have h2:=List.length_filter_le (bJ l) l
 simp only [List.length_nil] at h1
 unfold dg;omega
theorem Ju {l l':List Cl} (h: ∀c,c∈l↔c∈l') (c:Cl):bJ l c=bJ l' c:=by
 rw [Bool.eq_iff_iff];simp only [bJ,List.all_eq_true]
 exact ⟨fun f d hd=>f d ((h d).2 hd),fun f d hd=>f d ((h d).1 hd)⟩
theorem aas {l l':List Cl} (h: ∀c,c∈l↔c∈l'):dg l=dg l':=
 yN (oV l) (oV l') fun c=>by rw [mem_mins,mem_mins,h,Ju h]
def a8 (l:List Cl):List Cl×Int:=if l.all cM then if (dg l).length>64 then ([],3) else (dg l,0) else ([],2)
theorem Z2 {l l':List Cl} (h: ∀c,c∈l↔c∈l'):a8 l=a8 l':=by
 have:l.all cM=l'.all cM:=by
  rw [Bool.eq_iff_iff];simp only [List.all_eq_true]
  exact ⟨fun f d hd=>f d ((h d).2 hd),fun f d hd=>f d ((h d).1 hd)⟩
 unfold a8;rw [this,aas h]
theorem aco (hk:Fu k) (a b:Cl) (ret:Bool→Option S):we k a b ret=ret (oS a b):=by
 simp only [we,OE,co,oS]
 cases decide (a.pos<b.pos)<;>cases a.pos==b.pos<;>rfl
theorem Zg (hk:Fu k) (ret:Bool→Option S) {c:Cl} (hc:aL c) {l:List Cl} (hl:am l) (hlen:l.length<4294967296):
  ∀ (r p:List Cl) (m:Nat),l=p++r→r.length<m→om k ret c l m (p.length:Int)=ret (bJ r c):=by
 intro r
 induction r with
 |nil=>
  intro p m h hm
  obtain ⟨m,rfl,hm'⟩:=ak hm
  simp only [om,uM,aA h,ad];rfl
 |cons x r ih=>
  intro p m h hm
  obtain ⟨m,rfl,hm'⟩:=ak hm
  obtain ⟨e1,e2,e3,e4⟩:=az h (by omega)
  have hx:aL x:=hl x (by rw [h];simp)
  have:=ih (p++[x]) m e4 hm'
  simp only [om,uM,e1,ae,e2,Option.bind_some,iW,ah hk,acX hk hc hx,e3,this,co,bJ,List.all_cons]
  cases decide (x=c)<;>cases cW c x<;>rfl
theorem acO (hk:Fu k) {c:Cl} (hc:aL c) {l:List Cl} (hl:am l) (hlen:l.length<4294967296) (ret:Bool→Option S):wh k l c ret=ret (bJ l c):=by
 simp only [wh,EI]
 exact Zg hk ret hc hl hlen l [] k rfl (by have:4294967296≤k:=hk;omega)
theorem nd {S:Type} {p:Prop} [Decidable p] (h:p) (f:Unit→Option S):Option.bind (bM p) f=f ():=gY p h f
theorem Zl (hk:Fu k) (ret:List Cl×Int→Option S) (rec1:List Cl→Int→Option S) {l:List Cl} {x:Cl} {i:Int} (hx:al l i=some x) {out:List Cl} (hout:out.length<4294967296):
  ∀ (r p:List Cl) (m:Nat),out=p++r→r.length<m→mi k ret rec1 l out i m (p.length:Int)=rec1 (p++dx x r) (IntKind.wrap .i64 (i+1)):=by
 intro r
 induction r with
 |nil=>
  intro p m h hm
  obtain ⟨m,rfl,hm'⟩:=ak hm
  have hp:out=p:=by rw [h,List.append_nil]
  subst hp
  have e:(((out.length:Int))==((out.length:Int)))=true:=by simp
  simp only [mi,uL,aA h,ad,e,ae]
  rw [nd (by omega),aV (by simp;omega),hx]
  simp only [Option.bind_some]
  rw [aV (by simp;omega),nd (by omega),aV (by simp;omega)]
  simp [dx]
 |cons y r ih=>
  intro p m h hm
  obtain ⟨m,rfl,hm'⟩:=ak hm
  obtain ⟨e1,e2,e3,e4⟩:=az h (by omega)
  have hpl:p.length<out.length:=by rw [h];simp
  have e:(((p.length:Int))==((out.length:Int)))=false:=by
   rw [beq_eq_false_iff_ne];omega
  have:=ih (p++[y]) m e4 hm'
  simp only [mi,uL,e1,ae,e2,hx,Option.bind_some,ah hk,aco hk,e,ad,iW]
  rw [e3,this]
  cases hb:oS y x with
  |true=>rw [ae,dx,if_pos hb,List.append_assoc,List.singleton_append]
  |false=>
   rw [ad,dx,if_neg (by rw [hb];decide)]
   by_cases hyx:y=x
   ·rw [if_pos hyx,decide_eq_true hyx,Bool.not_true,ad,←h]
   ·rw [if_neg hyx,decide_eq_false hyx,Bool.not_false,ae]
    have ht:List.take p.length out=p:=by rw [h];simp
    have hd:List.drop p.length out=y::r:=by rw [h];simp
    rw [nd (by omega),Int.toNat_natCast,ht,hd,aV (by simp;omega),aV (by simp;omega),nd (by omega),aV (by rw [h] at hout;simp at hout ⊢;omega)]
    simp
theorem Zk (hk:Fu k) (ret:List Cl×Int→Option S) {l:List Cl} (hl:am l) (hlen:l.length<2147483648):
  ∀ (r p:List Cl) (m:Nat) (o:List Cl),l=p++r→r.length<m→o.length≤p.length→
  jt k ret l m o (p.length:Int)=ret (if (gu o (r.filter (bJ l))).length>64 then ([],3) else (gu o (r.filter (bJ l)),0)):=by
 intro r
 induction r with
 |nil=>
  intro p m o h hm ho
  obtain ⟨m,rfl,hm'⟩:=ak hm
  simp only [jt,qi,aA h,ad,aK]
  show _=ret (if o.length>64 then _ else (o,0))
  by_cases h64:o.length>64
  ·rw [if_pos (by omega),if_pos h64]
  ·rw [if_neg (by omega),if_neg h64]
 |cons x r ih=>
  intro p m o h hm ho
  obtain ⟨m,rfl,hm'⟩:=ak hm
  obtain ⟨e1,e2,e3,e4⟩:=az h (by omega)
  have hx:aL x:=hl x (by rw [h];simp)
  have hk':4294967296≤k:=hk
  have hpl:p.length<l.length:=by rw [h];simp
  simp only [jt,qi,e1,ae,e2,Option.bind_some,ah hk,acO hk hx hl (by omega)]
  have hplace:=Zl hk ret (jt k ret l m) e2 (out:=o) (by omega) o [] k rfl (by omega)
  simp only [List.length_nil,List.nil_append] at hplace
  rw [show (0:Int)=((0:Nat):Int) from rfl,hplace,e3]
  cases hn:bJ l x with
  |true=>
   rw [Bool.not_true,ad,List.filter_cons_of_pos hn]
   exact ih (p++[x]) m (dx x o) e4 hm' (by have:= @Hp x o;simp;omega)
  |false=>
   rw [Bool.not_false,ae,List.filter_cons_of_neg (by rw [hn];decide)]
   exact ih (p++[x]) m o e4 hm' (by simp;omega)
theorem ZB (hk:Fu k) (ret:List Cl×Int→Option S) {l:List Cl} (hl:am l) (hlen:l.length<2147483648):
  ∀ (r p:List Cl) (m:Nat),l=p++r→r.length<m→
  ol k ret l m (p.length:Int)=ret (if r.all cM then if (dg l).length>64 then ([],3) else (dg l,0) else ([],2)):=by
 intro r
 induction r with
 |nil=>
  intro p m h hm
  obtain ⟨m,rfl,hm'⟩:=ak hm
  simp only [ol,qh,aA h,ad,List.all_nil,if_true]
  have hk':4294967296≤k:=hk
  exact Zk hk ret hl hlen l [] k [] rfl (by omega) (by simp)
 |cons x r ih=>
  intro p m h hm
  obtain ⟨m,rfl,hm'⟩:=ak hm
  obtain ⟨e1,e2,e3,e4⟩:=az h (by omega)
  have hx:aL x:=hl x (by rw [h];simp)
  simp only [ol,qh,e1,ae,e2,Option.bind_some,ah hk,M0 hk hx,e3,ih (p++[x]) m e4 hm']
  by_cases hr:cM x=true
  ·have:(x::r).all cM=r.all cM:=by rw [List.all_cons,hr,Bool.true_and]
   rw [hr,Bool.not_true,ad,this]
  ·rw [Bool.not_eq_true] at hr
   have:(x::r).all cM=false:=by rw [List.all_cons,hr,Bool.false_and]
   rw [hr,Bool.not_false,ae,this,if_neg (by decide)]
theorem mT (hk:Fu k) {l:List Cl} (hl:am l) (hlen:l.length<2147483648) (ret:List Cl×Int→Option S):hJ k l ret=ret (a8 l):=by
 simp only [hJ,EH]
 exact ZB hk ret hl hlen l [] k rfl (by have:4294967296≤k:=hk;omega)
theorem acn (hk:Fu k) {d c:Cl} (hd:aL d) (hc:aL c) (ret:Bool→Option S):vD k d c ret=ret (!(decide (d=c)|| !cW c d)):=by
 simp only [vD,NH,iW,ah hk,acv hk hc hd,co]
 have:decide (c=d)=decide (d=c):=by rw [Bool.eq_iff_iff];simp [eq_comm]
 rw [this]
 cases decide (d=c)<;>cases cW c d<;>rfl
end Go.Proofs.YtapmagaejigpnaaGreatDoor
namespace Go.Proofs.YtapmagaejigpnaaGreatDoor
open Go PI
set_option linter.unusedVariables false
set_option linter.unusedSimpArgs false
set_option maxRecDepth 20000
variable {S:Type} {k:Nat}
theorem Y6 (hk:Fu k) (ret:Int→Option S) {c:Cl} (hc:aL c) {l:List Cl} (hl:am l) (hlen:l.length<2147483648):
  ∀ (r p:List Cl) (m:Nat),l=p++r→r.length<m→ ∃v:Int,decide (v≥0)= !bJ r c∧oI k ret c l m (p.length:Int)=ret v:=by
 intro r
 induction r with
 |nil=>
  intro p m h hm
  obtain ⟨m,rfl,hm'⟩:=ak hm
  exact ⟨-1,rfl,by simp only [oI,vf,aA h,ad]⟩
 |cons x r ih=>
  intro p m h hm
  obtain ⟨m,rfl,hm'⟩:=ak hm
  obtain ⟨e1,e2,e3,e4⟩:=az h (by omega)
  have hx:aL x:=hl x (by rw [h];simp)
  obtain ⟨v,hv,hr⟩:=ih (p++[x]) m e4 hm'
  have e0:bJ (x::r) c=((decide (x=c)|| !cW c x)&&bJ r c):=by simp [bJ]
  simp only [oI,vf,e1,ae,e2,Option.bind_some,ah hk,acn hk hx hc,e3,hr]
  cases hb:(decide (x=c)|| !cW c x) with
  |true=>exact ⟨v,by rw [e0,hb,Bool.true_and,hv],by rw [Bool.not_true,ad]⟩
  |false=>exact ⟨(p.length:Int),by rw [e0,hb,Bool.false_and];simp,by rw [Bool.not_false,ae]⟩
theorem acP (hk:Fu k) {c:Cl} (hc:aL c) {l:List Cl} (hl:am l) (hlen:l.length<2147483648) (ret:Bool→Option S):vC k c l ret=ret (!bJ l c):=by
 obtain ⟨v,hv,hr⟩:=Y6 hk (fun r1:Int=>ret (decide (r1≥0))) hc hl hlen l [] k rfl (by have:4294967296≤k:=hk;omega)
 simp only [vC,NG,ah hk,AW,Pc,AY,Fb]
 exact hr.trans (by rw [hv])
theorem Y9 (hk:Fu k) (ret:List Cl×Int→Option S) {l:List Cl} (hl:am l) (hlen:l.length<2147483648):
  ∀ (r p:List Cl) (m:Nat) (q:List Cl),l=p++r→r.length<m→q.length≤p.length→
  mb k ret l m (p.length:Int) q=ret (if (q++r.filter (bJ l)).length>64 then ([],3) else (sortCl (q++r.filter (bJ l)),0)):=by
 intro r
 induction r with
 |nil=>
  intro p m q h hm hq
  obtain ⟨m,rfl,hm'⟩:=ak hm
  simp only [mb,uc,aA h,ad,aK,List.filter_nil,List.append_nil]
  by_cases h64:q.length>64
  ·rw [if_pos (by omega),if_pos h64]
  ·rw [if_neg (by omega),if_neg h64]
 |cons x r ih=>
  intro p m q h hm hq
  obtain ⟨m,rfl,hm'⟩:=ak hm
  obtain ⟨e1,e2,e3,e4⟩:=az h (by omega)
  have hx:aL x:=hl x (by rw [h];simp)
  have hpl:p.length<l.length:=by rw [h];simp
  simp only [mb,uc,e1,ae,e2,Option.bind_some,ah hk,acP hk hx hl hlen,Bool.not_not]
  rw [e3]
  cases hn:bJ l x with
  |true=>
   rw [ae,aV (by simp;omega),List.filter_cons_of_pos hn,ih (p++[x]) m (q++[x]) e4 hm' (by simp;omega)]
   simp
  |false=>
   rw [ad,List.filter_cons_of_neg (by rw [hn];decide)]
   exact ih (p++[x]) m q e4 hm' (by simp;omega)
theorem wS (a b:Cl):dV VV ET.C a b=decide (a=b):=by
 have e:dV VV ET.C a b=((a.pos==b.pos)&&((a.neg==b.neg)&&true)):=by
  obtain ⟨p,n⟩:=a;obtain ⟨p',n'⟩:=b
  show dV VV ET.C _ _=((p==p')&&((n==n')&&true))
  unfold dV
  simp [VV,cu,PV.eqvI]
 rw [e,iW]
theorem aar (l:List (Cl×Bool)) (x y:Cl):dy VV ET.C (eZ VV ET.C l x true) y=if x=y then some true else dy VV ET.C l y:=by
 induction l with
 |nil=>
  show (bif dV VV ET.C x y then some true else .none)=_
  rw [wS];by_cases h:x=y<;>simp [h,dy]
 |cons a r ih=>
  obtain ⟨z,b⟩:=a
  show dy VV ET.C (bif dV VV ET.C z x then (z,true)::r else (z,b)::eZ VV ET.C r x true) y=_
  rw [wS]
  by_cases h:z=x
  ·subst h
   rw [decide_eq_true rfl,cond_true]
   show (bif dV VV ET.C z y then some true else dy VV ET.C r y)=if z=y then some true else (bif dV VV ET.C z y then some b else dy VV ET.C r y)
   rw [wS];by_cases h':z=y<;>simp [h']
  ·rw [decide_eq_false h,cond_false]
   show (bif dV VV ET.C z y then some b else dy VV ET.C (eZ VV ET.C r x true) y)=if x=y then some true else (bif dV VV ET.C z y then some b else dy VV ET.C r y)
   rw [wS,ih]
   by_cases h':z=y
   ·have hxy: ¬x=y:=fun e=>h (h'.trans e.symm)
    simp [h',hxy]
   ·simp [h']
def ic (o:List Cl):List Cl→List Cl
 |[]=>o
 |x::r=>if x∈o then ic o r else ic (o++[x]) r
theorem afn {c:Cl}: ∀ {r o:List Cl},c∈ic o r↔c∈o∨c∈r:=by
 intro r
 induction r with
 |nil=>intro o;simp [ic]
 |cons x r ih=>
  intro o
  unfold ic
  split
  ·next h=>
   rw [ih,List.mem_cons]
   constructor
   ·rintro (h'|h');exact .inl h';exact .inr (.inr h')
   ·rintro (h'|h'|h');exact .inl h';exact .inl (h'▸h);exact .inr h'
  ·rw [ih,List.mem_append,List.mem_singleton,List.mem_cons,or_assoc]
theorem aeR: ∀ {r o:List Cl},o.Nodup→(ic o r).Nodup:=by
 intro r
 induction r with
 |nil=>intro o h;exact h
 |cons x r ih=>
  intro o h
  unfold ic
  split
  ·exact ih h
  ·next hx=>exact ih (List.nodup_append.2 ⟨h,by simp,fun a ha b hb=>by simp at hb;subst hb;rintro rfl;exact hx ha⟩)
theorem aeQ: ∀ {r o:List Cl},(ic o r).length≤o.length+r.length:=by
 intro r
 induction r with
 |nil=>intro o;simp [ic]
 |cons x r ih=>
  intro o
  unfold ic
  split
  ·have:= @ih o;simp only [List.length_cons];omega
  ·have:= @ih (o++[x]);simp only [List.length_cons,List.length_append,List.length_nil] at this ⊢;omega
theorem adv {l o:List Cl} (hn:o.Nodup) (h: ∀c,c∈o↔c∈l):sortCl (o.filter (bJ o))=dg l∧(o.filter (bJ o)).length=(dg l).length:=by
 have hp:(sortCl (o.filter (bJ o))).Perm (o.filter (bJ o)):=List.mergeSort_perm _ _
 have hs:(sortCl (o.filter (bJ o))).Pairwise (fun a b=>jY a b=true):=
  List.pairwise_mergeSort (le:=jY) (fun a b c h1 h2=>by
   unfold jY at*
   simp only [Bool.or_eq_true,Bool.and_eq_true,decide_eq_true_eq,beq_iff_eq] at*;omega) (fun a b=>by
   unfold jY
   simp only [Bool.or_eq_true,Bool.and_eq_true,decide_eq_true_eq,beq_iff_eq];omega) _
 have hnd:(sortCl (o.filter (bJ o))).Nodup:=hp.nodup_iff.2 (hn.filter _)
 have hsorted:jW (sortCl (o.filter (bJ o))):=by
  refine (hs.and hnd).imp fun {a b} h=> ?_
  have h1:=h.1
  unfold jY at h1
  simp only [Bool.or_eq_true,Bool.and_eq_true,decide_eq_true_eq,beq_iff_eq] at h1
  rcases h1 with h1|h1
  ·exact .inl h1
  ·refine .inr ⟨h1.1, ?_⟩
   have:a.neg≠b.neg:=fun e=>h.2 (Cl.ext' h1.1 e)
   omega
 have he:sortCl (o.filter (bJ o))=dg l:=yN hsorted (oV l) fun c=>by
  rw [hp.mem_iff,List.mem_filter,mem_mins,h,Ju h]
 exact ⟨he,by rw [←he,hp.length_eq]⟩
theorem ZT (hk:Fu k) (ret:List Cl×Int→Option S) {l:List Cl} (hl:am l) (hlen:l.length<2147483648):
  ∀ (r p:List Cl) (m:Nat) (q:List (Cl×Bool)) (o:List Cl),l=p++r→r.length<m→o.length≤p.length→o.Nodup→(∀c:Cl,(dy VV ET.C q c).getD false=decide (c∈o))→(∀c,c∈o↔c∈p)→
  nV k ret l m q o (p.length:Int)=ret (if r.all cM then if (dg l).length>64 then ([],3) else (dg l,0) else ([],2)):=by
 intro r
 induction r with
 |nil=>
  intro p m q o h hm ho hnd hq hmem
  obtain ⟨m,rfl,hm'⟩:=ak hm
  have hp:l=p:=by rw [h,List.append_nil]
  subst hp
  have hol:am o:=fun c hc=>hl c ((hmem c).1 hc)
  have hk':4294967296≤k:=hk
  simp only [nV,p9,aA h,ad,List.all_nil,if_true]
  have:=Y9 hk ret hol (by omega) o [] k [] rfl (by omega) (by simp)
  simp only [List.nil_append] at this
  refine Eq.trans this ?_
  have hsm:=adv hnd hmem
  rw [hsm.1,hsm.2]
 |cons x r ih=>
  intro p m q o h hm ho hnd hq hmem
  obtain ⟨m,rfl,hm'⟩:=ak hm
  obtain ⟨e1,e2,e3,e4⟩:=az h (by omega)
  have hx:aL x:=hl x (by rw [h];simp)
  have hpl:p.length<l.length:=by rw [h];simp
  simp only [nV,p9,e1,ae,e2,Option.bind_some,ah hk,ME hk hx]
  rw [hq,e3]
  by_cases hr:cM x=true
  ·have:(x::r).all cM=r.all cM:=by rw [List.all_cons,hr,Bool.true_and]
   rw [hr,Bool.not_true,ad,this]
   by_cases hxo:x∈o
   ·rw [decide_eq_true hxo,Bool.not_true,ad]
    exact ih (p++[x]) m q o e4 hm' (by simp;omega) hnd hq fun c=>by
     rw [hmem c,List.mem_append,List.mem_singleton]
     exact ⟨.inl,fun h'=>by rcases h' with h'|rfl;exact h';exact (hmem _).1 hxo⟩
   ·rw [decide_eq_false hxo,Bool.not_false,ae,aV (by simp;omega)]
    refine ih (p++[x]) m _ (o++[x]) e4 hm' (by simp;omega) (List.nodup_append.2 ⟨hnd,by simp,fun a ha b hb=>by simp at hb;subst hb;rintro rfl;exact hxo ha⟩) (fun c=> ?_) fun c=> ?_
    ·rw [aar]
     by_cases hc:x=c
     ·subst hc;simp
     ·rw [if_neg hc,hq,Bool.eq_iff_iff];simp [Ne.symm hc]
    ·rw [List.mem_append,hmem,List.mem_append]
  ·rw [Bool.not_eq_true] at hr
   have:(x::r).all cM=false:=by rw [List.all_cons,hr,Bool.false_and]
   rw [hr,Bool.not_false,ae,this,if_neg (by decide)]
theorem jM (hk:Fu k) {l:List Cl} (hl:am l) (hlen:l.length<2147483648) (ret:List Cl×Int→Option S):fQ k l ret=ret (a8 l):=by
 simp only [fQ,D6]
 exact ZT hk ret hl hlen l [] k [] [] rfl (by have:4294967296≤k:=hk;omega) (by simp) List.nodup_nil (fun c=>by simp [dy]) (fun c=>Iff.rfl)
theorem Yw (hk:Fu k) (ret:Bool→Option S) {a b:List Cl} (hlen:a.length<4294967296):
  ∀ (r s p q:List Cl) (m:Nat),a=p++r→b=q++s→p.length=q.length→r.length=s.length→r.length<m→oH k ret a b m (p.length:Int)=ret (decide (r=s)):=by
 intro r
 induction r with
 |nil=>
  intro s p q m h h' hpq hrs hm
  obtain ⟨m,rfl,hm'⟩:=ak hm
  cases s with
  |nil=>simp only [oH,ve,aA h,ad];rfl
  |cons=>cases hrs
 |cons x r ih=>
  intro s p q m h h' hpq hrs hm
  obtain ⟨m,rfl,hm'⟩:=ak hm
  cases s with
  |nil=>cases hrs
  |cons y s=>
   obtain ⟨e1,e2,e3,e4⟩:=az h (by omega)
   have e2':al b (p.length:Int)=some y:=by rw [h',hpq];exact sm q s y
   simp only [oH,ve,e1,ae,e2,e2',Option.bind_some,iW,e3]
   rw [ih s (p++[x]) (q++[y]) m e4 (by rw [h'];simp) (by simp [hpq]) (by simpa using hrs) hm']
   by_cases hxy:x=y
   ·subst hxy;rw [decide_eq_true rfl,Bool.not_true,ad];simp
   ·rw [decide_eq_false hxy,Bool.not_false,ae];simp [hxy]
theorem ach (hk:Fu k) {a b:List Cl} (hlen:a.length<4294967296) (ret:Bool→Option S):wB k a b ret=ret (decide (a=b)):=by
 simp only [wB,Fa]
 by_cases h:a.length=b.length
 ·have e:((a.length:Int)==(b.length:Int))=true:=by simp [h]
  rw [e,Bool.not_true,ad]
  exact Yw hk ret hlen a b [] [] k rfl rfl rfl h (by have:4294967296≤k:=hk;omega)
 ·have e:((a.length:Int)==(b.length:Int))=false:=by rw [beq_eq_false_iff_ne];omega
  rw [e,Bool.not_false,ae,decide_eq_false]
  rintro rfl;exact h rfl
theorem Yz (hk:Fu k) (ret:Bool→Option S) {a b:List Cl} (hlen:a.length<4294967296):
  ∀ (r s p q:List Cl) (m:Nat),a=p++r→b=q++s→p.length=q.length→r.length=s.length→r.length<m→ju k ret a b m (p.length:Int)=ret (decide (r=s)):=by
 intro r
 induction r with
 |nil=>
  intro s p q m h h' hpq hrs hm
  obtain ⟨m,rfl,hm'⟩:=ak hm
  cases s with
  |nil=>simp only [ju,m6,aA h,ad];rfl
  |cons=>cases hrs
 |cons x r ih=>
  intro s p q m h h' hpq hrs hm
  obtain ⟨m,rfl,hm'⟩:=ak hm
  cases s with
  |nil=>cases hrs
  |cons y s=>
   obtain ⟨e1,e2,e3,e4⟩:=az h (by omega)
   have e2':al b (p.length:Int)=some y:=by rw [h',hpq];exact sm q s y
   simp only [ju,m6,e1,ae,e2,e2',Option.bind_some,iW,e3]
   rw [ih s (p++[x]) (q++[y]) m e4 (by rw [h'];simp) (by simp [hpq]) (by simpa using hrs) hm']
   by_cases hxy:x=y
   ·subst hxy;rw [decide_eq_true rfl,Bool.not_true,ad];simp
   ·rw [decide_eq_false hxy,Bool.not_false,ae];simp [hxy]
theorem acr (hk:Fu k) {a b:List Cl} (hlen:a.length<4294967296) (ret:Bool→Option S):hU k a b ret=ret (decide (a=b)):=by
 simp only [hU,yT]
 by_cases h:a.length=b.length
 ·have e:((a.length:Int)==(b.length:Int))=true:=by simp [h]
  rw [e,Bool.not_true,ad]
  exact Yz hk ret hlen a b [] [] k rfl rfl rfl h (by have:4294967296≤k:=hk;omega)
 ·have e:((a.length:Int)==(b.length:Int))=false:=by rw [beq_eq_false_iff_ne];omega
  rw [e,Bool.not_false,ae,decide_eq_false]
  rintro rfl;exact h rfl
theorem HS (l:List Cl):(a8 l).1.length≤64:=by
 unfold a8;split
 ·split
  ·simp
  ·next h=>show (dg l).length≤64;omega
 ·simp
def be (f:List Cl):Bool:=decide (a8 f=(f,0))
theorem pD (hk:Fu k) {f:List Cl} (hf:am f) (hlen:f.length<2147483648) (ret:Bool→Option S):gk k f ret=ret (be f):=by
 have:=HS f
 simp only [gk,Oe,ah hk,jM hk hf hlen,ach hk (show (a8 f).1.length<4294967296 by omega),co,be,beq_iff_eq]
 by_cases h:(a8 f).2=0
 ·rw [if_pos h];congr 1;rw [Bool.eq_iff_iff];simp [Prod.ext_iff,h]
 ·rw [if_neg h,decide_eq_false];intro e;rw [e] at h;exact h rfl
theorem f0 (hk:Fu k) {f:List Cl} (hf:am f) (hlen:f.length<2147483648) (ret:Bool→Option S):dU k f ret=ret (be f):=by
 have:=HS f
 simp only [dU,OJ,ah hk,mT hk hf hlen,acr hk (show (a8 f).1.length<4294967296 by omega),co,be,beq_iff_eq]
 by_cases h:(a8 f).2=0
 ·rw [if_pos h];congr 1;rw [Bool.eq_iff_iff];simp [Prod.ext_iff,h]
 ·rw [if_neg h,decide_eq_false];intro e;rw [e] at h;exact h rfl
end Go.Proofs.YtapmagaejigpnaaGreatDoor
namespace Go.Proofs.YtapmagaejigpnaaGreatDoor
open Go PI
set_option linter.unusedVariables false
set_option linter.unusedSimpArgs false
set_option maxRecDepth 20000
variable {S:Type} {k:Nat}
def RF (f:List Cl):Prop:=a8 f=(f,0)∧am f
theorem fH {f:List Cl} (h:am f):be f=true↔RF f:=by unfold be RF;simp [h]
theorem RF.right {f:List Cl} (h:RF f):be f=true:=by unfold be;simp [h.1]
theorem oP {l o:List Cl} (h:a8 l=(o,0)):o=dg l∧l.all cM=true∧o.length≤64:=by
 unfold a8 at h
 split at h
 ·next ha=>
  split at h
  ·cases h
  ·next hl=>cases h;exact ⟨rfl,ha,by omega⟩
 ·cases h
theorem RF.len {f:List Cl} (h:RF f):f.length≤64:=(oP h.1).2.2
theorem RF.rc {f:List Cl} (h:RF f) {c:Cl} (hc:c∈f):RC c:=(yz (h.2 c hc)).1 (List.all_eq_true.1 (oP h.1).2.1 c hc)
theorem aau (l:List Cl):dg (dg l)=dg l:=yN (oV _) (oV _) fun c=>by
 rw [mem_mins]
 constructor
 ·exact fun h=>h.1
 ·intro h
  refine ⟨h, ?_⟩
  have:=(mem_mins.1 h).2
  simp only [bJ,List.all_eq_true] at this ⊢
  exact fun d hd=>this d (mem_mins.1 hd).1
theorem oQ {l:List Cl} (hl:am l) (h:(a8 l).2=0):RF (a8 l).1:=by
 have h':a8 l=((a8 l).1,0):=Prod.ext rfl h
 obtain ⟨h1,h2,h3⟩:=oP h'
 have hok:am (a8 l).1:=fun c hc=>hl c ((mem_mins.1 (h1▸hc)).1)
 refine ⟨?_,hok⟩
 have ha:(a8 l).1.all cM=true:=List.all_eq_true.2 fun c hc=>List.all_eq_true.1 h2 c (mem_mins.1 (h1▸hc)).1
 rw [h1] at ha ⊢ h3
 unfold a8
 rw [if_pos ha,aau,if_neg (by omega)]
theorem BW {l:List Cl} (h:(a8 l).2≠0):(a8 l).1=[]:=by
 unfold a8 at h ⊢
 split
 ·next ha=>
  rw [if_pos ha] at h
  split
  ·rfl
  ·next hl=>rw [if_neg hl] at h;exact absurd rfl h
 ·rfl
theorem tz:RF []:=⟨rfl,fun c hc=>by cases hc⟩
theorem gQ {c:Cl} (h:RC c):RF [c]:=by
 have hok:am [c]:=fun d hd=>by simp at hd;subst hd;exact h.ok
 refine ⟨?_,hok⟩
 have hm:dg [c]=[c]:=yN (oV _) (by simp) fun d=>by
  rw [mem_mins];simp only [List.mem_singleton]
  constructor
  ·exact fun h=>h.1
  ·rintro rfl;simp [bJ]
 unfold a8
 rw [hm,if_pos (by simp [(yz h.ok).2 h]),if_neg (by simp)]
theorem mO:RC ⟨0,0⟩:=⟨⟨by decide,by decide⟩,by decide,by decide⟩
theorem eM {f g:List Cl} (hf:am f) (hg:am g):am (f++g):=fun c hc=>by
 rcases List.mem_append.1 hc with h|h
 ·exact hf c h
 ·exact hg c h
theorem ZC (hk:Fu k) (ret:Int→Option S) {l:List (List Cl)} (hl: ∀f∈l,am f∧f.length<2147483648) (hlen:l.length<4294967296):
  ∀ (r p:List (List Cl)) (m:Nat),l=p++r→r.length<m→oa k ret l m (p.length:Int)=ret (if r.all be then 0 else 2):=by
 intro r
 induction r with
 |nil=>
  intro p m h hm
  obtain ⟨m,rfl,hm'⟩:=ak hm
  simp only [oa,uA,aA h,ad];rfl
 |cons x r ih=>
  intro p m h hm
  obtain ⟨m,rfl,hm'⟩:=ak hm
  obtain ⟨e1,e2,e3,e4⟩:=az h (by omega)
  have hx:=hl x (by rw [h];simp)
  simp only [oa,uA,e1,ae,e2,Option.bind_some,ah hk,pD hk hx.1 hx.2,e3,ih (p++[x]) m e4 hm']
  by_cases hr:be x=true
  ·have:(x::r).all be=r.all be:=by rw [List.all_cons,hr,Bool.true_and]
   rw [hr,Bool.not_true,ad,this]
  ·rw [Bool.not_eq_true] at hr
   have:(x::r).all be=false:=by rw [List.all_cons,hr,Bool.false_and]
   rw [hr,Bool.not_false,ae,this,if_neg (by decide)]
theorem DF (hk:Fu k) {l:List (List Cl)} (hl: ∀f∈l,am f∧f.length<2147483648) (hlen:l.length<4294967296) (ret:Int→Option S):np k l ret=ret (if l.all be then 0 else 2):=by
 simp only [np,Eu]
 exact ZC hk ret hl hlen l [] k rfl (by have:4294967296≤k:=hk;omega)
def bU (f g:List Cl):List Cl×Int:=a8 (f++g)
def meets (f g:List Cl):List Cl:=f.flatMap fun a=>g.map (cD a)
def da (f g:List Cl):List Cl×Int:=a8 (meets f g)
theorem Jq {f g:List Cl} (hf:am f) (hg:am g):am (meets f g):=fun c hc=>by
 obtain ⟨a,ha,hc⟩:=List.mem_flatMap.1 hc
 obtain ⟨b,hb,rfl⟩:=List.mem_map.1 hc
 exact xz (hf a ha) (hg b hb)
theorem afm (f g:List Cl):(meets f g).length=f.length*g.length:=by
 induction f with
 |nil=>simp [meets]
 |cons a f ih=>
  have:meets (a::f) g=g.map (cD a)++meets f g:=by simp [meets]
  rw [this,List.length_append,ih,List.length_map,List.length_cons,Nat.succ_mul];omega
theorem jB {f g:List Cl} (hf:am f) (hg:am g) (h:(da f g).2=0):RF (da f g).1:=oQ (Jq hf hg) h
theorem Ht {f g:List Cl} (hf:am f) (hg:am g) (h:(bU f g).2=0):RF (bU f g).1:=oQ (eM hf hg) h
theorem yF (hk:Fu k) {f g:List Cl} (hf:am f) (hg:am g) (h1:f.length<1073741824) (h2:g.length<1073741824) (ret:List Cl×Int→Option S):lN k f g ret=ret (bU f g):=by
 simp only [lN,Of,ah hk,List.nil_append]
 rw [aV (by simp;omega),aV (by omega),jM hk (eM hf hg) (by rw [List.length_append];omega)]
 rfl
theorem Ze (hk:Fu k) (ret:List Cl×Int→Option S) (rec0:Int→List Cl→Option S) {x:Cl} (hx:aL x) {g f:List Cl} {v:Int} (hg:am g) (hlen:g.length<65536):
  ∀ (r p:List Cl) (m:Nat) (o:List Cl),g=p++r→r.length<m→o.length+r.length<1099511627776→mc k ret rec0 x g f v m (p.length:Int) o=rec0 (IntKind.wrap .i64 (v+1)) (o++r.map (cD x)):=by
 intro r
 induction r with
 |nil=>
  intro p m o h hm ho
  obtain ⟨m,rfl,hm'⟩:=ak hm
  simp only [mc,uy,aA h,ad,List.map_nil,List.append_nil]
 |cons y r ih=>
  intro p m o h hm ho
  obtain ⟨m,rfl,hm'⟩:=ak hm
  obtain ⟨e1,e2,e3,e4⟩:=az h (by omega)
  have hy:aL y:=hg y (by rw [h];simp)
  simp only [List.length_cons] at ho
  simp only [mc,uy,e1,ae,e2,Option.bind_some,ah hk,DC hk hx hy,e3]
  rw [aV (by simp;omega),ih (p++[y]) m (o++[cD x y]) e4 hm' (by simp;omega)]
  simp
theorem Zd (hk:Fu k) (ret:List Cl×Int→Option S) {g f:List Cl} (hf:am f) (hg:am g) (hlf:f.length<32768) (hlg:g.length<32768):
  ∀ (r p:List Cl) (m:Nat) (o:List Cl),f=p++r→r.length<m→am o→o.length+r.length*g.length<1073741825→kL k ret g f m (p.length:Int) o=ret (a8 (o++meets r g)):=by
 intro r
 induction r with
 |nil=>
  intro p m o h hm hok ho
  obtain ⟨m,rfl,hm'⟩:=ak hm
  simp only [kL,qb,aA h,ad,ah hk]
  rw [jM hk hok (by omega)]
  simp [meets]
 |cons x r ih=>
  intro p m o h hm hok ho
  obtain ⟨m,rfl,hm'⟩:=ak hm
  obtain ⟨e1,e2,e3,e4⟩:=az h (by omega)
  have hx:aL x:=hf x (by rw [h];simp)
  have hmul:(x::r).length*g.length=r.length*g.length+g.length:=by rw [List.length_cons,Nat.succ_mul]
  rw [hmul] at ho
  have hk':4294967296≤k:=hk
  simp only [kL,qb,e1,ae,e2,Option.bind_some]
  have:=Ze hk ret (kL k ret g f m) (f:=f) (v:=(p.length:Int)) hx hg (by omega) g [] k o rfl (by omega) (by omega)
  simp only [List.length_nil] at this
  rw [show (0:Int)=((0:Nat):Int) from rfl,this,e3,ih (p++[x]) m _ e4 hm' (eM hok fun c hc=>by
   obtain ⟨b,hb,rfl⟩:=List.mem_map.1 hc
   exact xz hx (hg b hb)) (by rw [List.length_append,List.length_map];omega)]
  simp [meets]
theorem tI (hk:Fu k) {f g:List Cl} (hf:am f) (hg:am g) (h1:f.length<32768) (h2:g.length<32768) (ret:List Cl×Int→Option S):i_ k f g ret=ret (da f g):=by
 simp only [i_,Es]
 have hb:f.length*g.length<1073741824:=Nat.lt_of_le_of_lt (Nat.mul_le_mul (Nat.le_of_lt_succ h1) (Nat.le_of_lt_succ h2)) (by decide)
 have:=Zd hk ret hf hg h1 h2 f [] k [] rfl (by have:4294967296≤k:=hk;omega) (fun c hc=>by cases hc) (by simp;omega)
 simpa [da] using this
theorem ZI (hk:Fu k) (ret:List Cl×Int→Option S) (rec0:List Cl→Int→Option S) {x:Cl} (hx:RC x) {g f:List Cl} {v:Int} (hfx:al f v=some x) (hg: ∀c∈g,RC c) (hlen:g.length<65536):
  ∀ (r p:List Cl) (m:Nat) (o:List Cl),g=p++r→r.length<m→o.length+r.length<1099511627776→ml k ret rec0 f g v m o (p.length:Int)=rec0 (o++r.map (cD x)) (IntKind.wrap .i64 (v+1)):=by
 intro r
 induction r with
 |nil=>
  intro p m o h hm ho
  obtain ⟨m,rfl,hm'⟩:=ak hm
  simp only [ml,uQ,aA h,ad,List.map_nil,List.append_nil]
 |cons y r ih=>
  intro p m o h hm ho
  obtain ⟨m,rfl,hm'⟩:=ak hm
  obtain ⟨e1,e2,e3,e4⟩:=az h (by omega)
  have hy:RC y:=hg y (by rw [h];simp)
  simp only [List.length_cons] at ho
  simp only [ml,uQ,e1,ae,e2,hfx,Option.bind_some,ah hk,MZ hk hx hy,e3]
  rw [aV (by simp;omega),ih (p++[y]) m (o++[cD x y]) e4 hm' (by simp;omega)]
  simp
theorem ZH (hk:Fu k) (ret:List Cl×Int→Option S) {g f:List Cl} (hf: ∀c∈f,RC c) (hg: ∀c∈g,RC c) (hlf:f.length<32768) (hlg:g.length<32768):
  ∀ (r p:List Cl) (m:Nat) (o:List Cl),f=p++r→r.length<m→am o→o.length+r.length*g.length<1073741825→kO k ret f g m o (p.length:Int)=ret (a8 (o++meets r g)):=by
 intro r
 induction r with
 |nil=>
  intro p m o h hm hok ho
  obtain ⟨m,rfl,hm'⟩:=ak hm
  simp only [kO,qk,aA h,ad,ah hk]
  rw [mT hk hok (by omega)]
  simp [meets]
 |cons x r ih=>
  intro p m o h hm hok ho
  obtain ⟨m,rfl,hm'⟩:=ak hm
  obtain ⟨e1,e2,e3,e4⟩:=az h (by omega)
  have hx:RC x:=hf x (by rw [h];simp)
  have hmul:(x::r).length*g.length=r.length*g.length+g.length:=by rw [List.length_cons,Nat.succ_mul]
  rw [hmul] at ho
  have hk':4294967296≤k:=hk
  simp only [kO,qk,e1,ae]
  have:=ZI hk ret (kO k ret f g m) hx e2 hg (by omega) g [] k o rfl (by omega) (by omega)
  simp only [List.length_nil] at this
  rw [show (0:Int)=((0:Nat):Int) from rfl,this,e3,ih (p++[x]) m _ e4 hm' (eM hok fun c hc=>by
   obtain ⟨b,hb,rfl⟩:=List.mem_map.1 hc
   exact (Jp hx (hg b hb)).ok) (by rw [List.length_append,List.length_map];omega)]
  simp [meets]
theorem RF.lt {f:List Cl} (h:RF f):f.length<2147483648:=by have:=h.len;omega
theorem yH (hk:Fu k) {f g:List Cl} (hf:RF f) (hg:RF g) (ret:List Cl×Int→Option S):jc k f g ret=ret (da f g):=by
 have l1:=hf.len;have l2:=hg.len
 simp only [jc,EO,ah hk,f0 hk hf.2 hf.lt,f0 hk hg.2 hg.lt,hf.right,hg.right,Bool.not_true,ad]
 have hb:f.length*g.length≤64*64:=Nat.mul_le_mul l1 l2
 have:=ZH hk ret (fun c hc=>hf.rc hc) (fun c hc=>hg.rc hc) (by omega) (by omega) f [] k [] rfl (by have:4294967296≤k:=hk;omega) (fun c hc=>by cases hc) (by simp;omega)
 simpa [da] using this
theorem acZ (hk:Fu k) {f g:List Cl} (hf:RF f) (hg:RF g) (ret:List Cl×Int→Option S):wi k f g ret=ret (bU f g):=by
 have l1:=hf.len;have l2:=hg.len
 simp only [wi,OI,ah hk,f0 hk hf.2 hf.lt,f0 hk hg.2 hg.lt,hf.right,hg.right,Bool.not_true,ad,List.nil_append]
 rw [aV (by simp;omega),aV (by omega),mT hk (eM hf.2 hg.2) (by rw [List.length_append];omega)]
 rfl
end Go.Proofs.YtapmagaejigpnaaGreatDoor
