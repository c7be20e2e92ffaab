/- Part 4 of a proof: the sources, with their names and remarks, lie in wip/. -/
import Derived.Test.YtapmagaejigpnaaGreatDoorX3
namespace Go.Proofs.YtapmagaejigpnaaGreatDoor
open Go PI
set_option linter.unusedVariables false
set_option maxRecDepth 100000
noncomputable section
def th {S:Type} (hd:dp S) (k:Nat) (ret:Bool→Option S) (x11:(Br Tm)) (t:Tm) (vars i12 dims:Int) (bound:Bool) (rec5:Int→Option S) (rec6:Int→Option S) (v14:Int):Option S:=
 ab (decide ((v14:Int)<(x11.kids.length:Int))) (
 Option.bind (al x11.kids v14) fun x15=>
 aa k (mj k t.kind) fun r16=>
 hd (ae x15) vars (IntKind.wrap .i64 (dims+r16)) bound fun r17=>
 ab (!r17) (
  ret false) (
   rec6 (IntKind.wrap .i64 (v14+1)))) (
  rec5 (IntKind.wrap .i64 (i12+1)))
noncomputable def jK {S:Type} (hd:dp S) (k:Nat) (ret:Bool→Option S) (rec5:Int→Option S) (x11:(Br Tm)) (t:Tm) (vars i12 dims:Int) (bound:Bool):Nat→Int→Option S
 |0=>fun _=> .none
 |m+1=>fun v14=>th hd k ret x11 t vars i12 dims bound rec5 (jK hd k ret rec5 x11 t vars i12 dims bound m) v14
def oP {S:Type} (hd:dp S) (k:Nat) (ret:Bool→Option S) (t:Tm) (vars dims:Int) (bound:Bool) (J6:(Br Tm)→Int→Int→Option S) (rec5:Int→Option S) (i12:Int):Option S:=
 ab (decide ((i12:Int)<(t.sys.length:Int))) (
 Option.bind (al t.sys i12) fun x11=>
 aa k (ml k t.kind) fun r12=>
 ab (!((x11.kids.length:Int)==r12)) (
  ret false) (
  aa k (fh k x11.face) fun r13=>
  ab (!r13) (
  ret false) (
  aa k (pP k x11.face dims) fun r14=>
  ab (!r14) (
   ret false) (
     J6 x11 i12 0)))) (
 ret true)
noncomputable def fP {S:Type} (hd:dp S) (k:Nat) (ret:Bool→Option S) (t:Tm) (vars dims:Int) (bound:Bool):Nat→Int→Option S
 |0=>fun _=> .none
 |m+1=>fun i12=>oP hd k ret t vars dims bound (fun x11 i12 v14=>jK hd k ret (fP hd k ret t vars dims bound m) x11 t vars i12 dims bound k v14) (fP hd k ret t vars dims bound m) i12
def oO {S:Type} (hd:dp S) (k:Nat) (ret:Bool→Option S) (t:Tm) (vars dims:Int) (bound:Bool) (J5:Int→Option S) (rec4:Int→Option S) (i9:Int):Option S:=
 ab (decide ((i9:Int)<(t.kids.length:Int))) (
 aa k (mh k t.kind i9) fun r6=>
 ab (decide ((vars:Int)<0)) (
  Option.bind (al t.kids i9) fun x7=>
  hd (ae x7) (IntKind.wrap .i64 (vars+0)) (IntKind.wrap .i64 (dims+r6.2)) bound fun r8=>
  ab (!r8) (
  ret false) (
    rec4 (IntKind.wrap .i64 (i9+1)))) (
  Option.bind (al t.kids i9) fun x9=>
  hd (ae x9) (IntKind.wrap .i64 (vars+r6.1)) (IntKind.wrap .i64 (dims+r6.2)) bound fun r10=>
  ab (!r10) (
  ret false) (
    rec4 (IntKind.wrap .i64 (i9+1))))) (
  J5 0)
noncomputable def gH {S:Type} (hd:dp S) (k:Nat) (ret:Bool→Option S) (t:Tm) (vars dims:Int) (bound:Bool):Nat→Int→Option S
 |0=>fun _=> .none
 |m+1=>fun i9=>oO hd k ret t vars dims bound (fun i12=>fP hd k ret t vars dims bound k i12) (gH hd k ret t vars dims bound m) i9
def oN {S:Type} (hd:dp S) (k:Nat) (ret:Bool→Option S) (t:Tm) (vars dims:Int) (bound:Bool) (J4:Int→Option S):Option S:=
 aa k (pP k t.r dims) fun r5=>
 ab (!r5) (
 ret false) (
  J4 0)
noncomputable def nd {S:Type} (hd:dp S) (k:Nat) (ret:Bool→Option S) (t:Tm) (vars dims:Int) (bound:Bool):Nat→Option S
 |0=> .none
 |_+1=>oN hd k ret t vars dims bound (fun i9=>gH hd k ret t vars dims bound k i9)
def oM {S:Type} (hd:dp S) (k:Nat) (ret:Bool→Option S) (t:Tm) (vars dims:Int) (bound:Bool) (J3:Option S):Option S:=
 ab (t.kind==13) (
 aa k (dF k t.r) fun r4=>
 ab (!r4) (
  ret false) (
   J3)) (
 ab (t.kind==21) (
  aa k (dF k t.r) fun r18=>
  ab (!r18) (
  ret false) (
    J3)) (
  ab (t.kind==26) (
  aa k (dF k t.r) fun r19=>
  ab (!r19) (
   ret false) (
     J3)) (
  ab (t.kind==14) (
   aa k (fh k t.r) fun r20=>
   ab (!r20) (
   ret false) (
      J3)) (
   ab (decide (((t.r.length:Int):Int)>0)) (
   ret false) (
      J3)))))
noncomputable def nc {S:Type} (hd:dp S) (k:Nat) (ret:Bool→Option S) (t:Tm) (vars dims:Int) (bound:Bool):Nat→Option S
 |0=> .none
 |_+1=>oM hd k ret t vars dims bound (nd hd k ret t vars dims bound k)
def oL {S:Type} (hd:dp S) (k:Nat) (ret:Bool→Option S) (t:Tm) (vars dims:Int) (bound:Bool) (J2:Option S):Option S:=
 ab (t.kind==2) (
 aa k (uy k t.name) fun r3=>
 ab (!r3) (
  ret false) (
  ab (!(t.kind==2)) (
  ab (!(t.name==ByteArray.empty)) (
   ret false) (
     J2)) (
    J2))) (
 ab (!(t.kind==2)) (
  ab (!(t.name==ByteArray.empty)) (
  ret false) (
    J2)) (
   J2))
noncomputable def na {S:Type} (hd:dp S) (k:Nat) (ret:Bool→Option S) (t:Tm) (vars dims:Int) (bound:Bool):Nat→Option S
 |0=> .none
 |_+1=>oL hd k ret t vars dims bound (nc hd k ret t vars dims bound k)
def oK {S:Type} (hd:dp S) (k:Nat) (ret:Bool→Option S) (t:Tm) (vars dims:Int) (bound:Bool) (J1:Option S):Option S:=
 ab (t.kind==1) (
 ab (decide ((t.n:Int)<0)) (
  ret false) (
  ab (decide ((vars:Int)≥0)) (
  ab (decide ((t.n:Int)≥vars)) (
   ret false) (
     J1)) (
    J1))) (
 ab (!(t.n==0)) (
  ret false) (
   J1))
noncomputable def vf {S:Type} (hd:dp S) (k:Nat) (ret:Bool→Option S) (t:Tm) (vars dims:Int) (bound:Bool):Nat→Option S
 |0=> .none
 |_+1=>oK hd k ret t vars dims bound (na hd k ret t vars dims bound k)
def Cz {S:Type} (hd:dp S) (k:Nat) (ret:Bool→Option S) (J0:Option S) (t:Tm) (vars dims:Int) (bound:Bool):Option S:=
 ab (bound) (
 ab (decide ((dims:Int)>24)) (
  ret false) (
  aa k (pN k t.kind) fun r1=>
  ab (!(r1==(t.kids.length:Int))) (
  ret false) (
  ab (decide (((t.sys.length:Int):Int)>0)) (
   aa k (ml k t.kind) fun r2=>
   ab (r2==0) (
   ret false) (
      J0)) (
     J0)))) (
 aa k (pN k t.kind) fun r21=>
 ab (!(r21==(t.kids.length:Int))) (
  ret false) (
  ab (decide (((t.sys.length:Int):Int)>0)) (
  aa k (ml k t.kind) fun r22=>
  ab (r22==0) (
   ret false) (
     J0)) (
    J0)))
noncomputable def bR {S:Type}:Nat→Tm→Int→Int→Bool→(Bool→Option S)→Option S
 |0=>fun _ _ _ _ _=> .none
 |k+1=>fun t vars dims bound ret=>Cz (bR k) k ret (vf (bR k) k ret t vars dims bound k) t vars dims bound
def LM {S:Type} (k:Nat) (ret:Int→Option S) (t:Tm):Option S:=
 aa k (uz k (ae t)) fun r1=>
 ab (r1==0) (
 bR k (ae t) (-1) 24 false fun r2=>
 ab (!r2) (
  ret 100) (
  ret r1)) (
 ret r1)
noncomputable def mi {S:Type} (k:Nat) (t:Tm) (ret:Int→Option S):Option S:=LM k ret t
def tv {S:Type} (k:Nat) (ret:Int→Option S) (l:List Tm) (rec0:Int→Option S) (i3:Int):Option S:=
 ab (decide ((i3:Int)<(l.length:Int))) (
 Option.bind (al l i3) fun x1=>
 aa k (mi k (ae x1)) fun r2=>
 ab (!(r2==0)) (
  ret r2) (
   rec0 (IntKind.wrap .i64 (i3+1)))) (
 ret 0)
noncomputable def nj {S:Type} (k:Nat) (ret:Int→Option S) (l:List Tm):Nat→Int→Option S
 |0=>fun _=> .none
 |m+1=>fun i3=>tv k ret l (nj k ret l m) i3
noncomputable def CN {S:Type} (k:Nat) (ret:Int→Option S) (J0:Int→Option S) (l:List Tm):Option S:=
 J0 0
noncomputable def pY {S:Type} (k:Nat) (l:List Tm) (ret:Int→Option S):Option S:=CN k ret (fun i3=>nj k ret l k i3) l
def sQ {S:Type} (k:Nat) (ret:Int×Int→Option S) (a_from a_by:Int) (rec0:(List Int)→Int→Option S) (l8:List Int) (v9:Int):Option S:=
 ab (decide ((v9:Int)<(l8.length:Int))) (
 Option.bind (al l8 v9) fun x2=>
 Option.bind (al l8 v9) fun x3=>
 ab (decide ((x3:Int)<a_from)) (
   rec0 l8 (IntKind.wrap .i64 (v9+1))) (
  Option.bind (al l8 v9) fun x4=>
  Option.bind (al l8 v9) fun x5=>
  ab (decide ((a_by:Int)≥(IntKind.wrap .i64 (24-x5)))) (
  ret (0,10)) (
  Option.bind (al l8 v9) fun x6=>
  Option.bind (al l8 v9) fun x7=>
  Option.bind (al l8 v9) fun x8=>
  Option.bind (al l8 v9) fun x9=>
    rec0 (l8.set (Int.toNat v9) (IntKind.wrap .i64 (x7+a_by))) (IntKind.wrap .i64 (v9+1))))) (
 aa k (gw k l8) fun r10=>
 ret (r10,0))
noncomputable def kS {S:Type} (k:Nat) (ret:Int×Int→Option S) (a_from a_by:Int):Nat→(List Int)→Int→Option S
 |0=>fun _ _=> .none
 |m+1=>fun l8 v9=>sQ k ret a_from a_by (kS k ret a_from a_by m) l8 v9
def rU {S:Type} (k:Nat) (ret:Int×Int→Option S) (J0:(List Int)→Int→Option S) (s a_from a_by:Int):Option S:=
 ab (decide ((a_from:Int)<0)) (
 ret (0,2)) (
 ab (decide ((a_by:Int)<0)) (
  ret (0,2)) (
  aa k (gu k s) fun r1=>
   J0 r1 0))
noncomputable def jg {S:Type} (k:Nat) (s a_from a_by:Int) (ret:Int×Int→Option S):Option S:=rU k ret (fun l8 v9=>kS k ret a_from a_by k l8 v9) s a_from a_by
def LC {S:Type} (k:Nat) (ret:Cl×Int→Option S) (c:Cl) (a_from a_by:Int):Option S:=
 aa k (pJ k c) fun r1=>
 ab (!r1) (
 ret ((Cl.mk 0 0),2)) (
 aa k (jg k c.pos a_from a_by) fun r2=>
 ab (!(r2.2==0)) (
  ret ((Cl.mk 0 0),r2.2)) (
  aa k (jg k c.neg a_from a_by) fun r3=>
  ab (!(r3.2==0)) (
  ret ((Cl.mk 0 0),r3.2)) (
  ret ((Cl.mk r2.1 r3.1),0))))
noncomputable def up {S:Type} (k:Nat) (c:Cl) (a_from a_by:Int) (ret:Cl×Int→Option S):Option S:=LC k ret c a_from a_by
def s9 {S:Type} (k:Nat) (ret:List Cl×Int→Option S) (f:List Cl) (a_from a_by:Int) (rec0:(List Cl)→Int→Option S) (out8:List Cl) (i9:Int):Option S:=
 ab (decide ((i9:Int)<(f.length:Int))) (
 Option.bind (al f i9) fun x2=>
 aa k (up k x2 a_from a_by) fun r3=>
 ab (!(r3.2==0)) (
  ret (([]:List Cl),r3.2)) (
  Option.bind (ax 1099511627776 out8.length [r3.1].length) fun x4=>
   rec0 (out8++[r3.1]) (IntKind.wrap .i64 (i9+1)))) (
 aa k (gx k out8) fun r5=>
 ret (r5.1,r5.2))
noncomputable def m0 {S:Type} (k:Nat) (ret:List Cl×Int→Option S) (f:List Cl) (a_from a_by:Int):Nat→(List Cl)→Int→Option S
 |0=>fun _ _=> .none
 |m+1=>fun out8 i9=>s9 k ret f a_from a_by (m0 k ret f a_from a_by m) out8 i9
def Cp {S:Type} (k:Nat) (ret:List Cl×Int→Option S) (J0:(List Cl)→Int→Option S) (f:List Cl) (a_from a_by:Int):Option S:=
 aa k (dF k f) fun r1=>
 ab (!r1) (
 ret (([]:List Cl),2)) (
  J0 ([]:List Cl) 0)
noncomputable def ky {S:Type} (k:Nat) (f:List Cl) (a_from a_by:Int) (ret:List Cl×Int→Option S):Option S:=Cp k ret (fun out8 i9=>m0 k ret f a_from a_by k out8 i9) f a_from a_by
def tg {S:Type} (k:Nat) (ret:List Cl×Int→Option S) (l:List Cl) (rec0:(List Cl)→Int→Option S) (out4:List Cl) (i5:Int):Option S:=
 ab (decide ((i5:Int)<(l.length:Int))) (
 Option.bind (al l i5) fun x1=>
 aa k (pH k x1) fun r2=>
 ab (!r2) (
  Option.bind (al l i5) fun x3=>
  Option.bind (ax 1099511627776 out4.length [x3].length) fun x4=>
   rec0 (out4++[x3]) (IntKind.wrap .i64 (i5+1))) (
   rec0 out4 (IntKind.wrap .i64 (i5+1)))) (
 aa k (gx k out4) fun r5=>
 ret (r5.1,r5.2))
noncomputable def m_ {S:Type} (k:Nat) (ret:List Cl×Int→Option S) (l:List Cl):Nat→(List Cl)→Int→Option S
 |0=>fun _ _=> .none
 |m+1=>fun out4 i5=>tg k ret l (m_ k ret l m) out4 i5
noncomputable def Cy {S:Type} (k:Nat) (ret:List Cl×Int→Option S) (J0:(List Cl)→Int→Option S) (l:List Cl):Option S:=
 J0 ([]:List Cl) 0
noncomputable def kz {S:Type} (k:Nat) (l:List Cl) (ret:List Cl×Int→Option S):Option S:=Cy k ret (fun out4 i5=>m_ k ret l k out4 i5) l
def LI {S:Type} (k:Nat) (ret:List Cl×Int→Option S) (f g:List Cl):Option S:=
 aa k (fh k f) fun r1=>
 ab (!r1) (
 ret (([]:List Cl),2)) (
 aa k (fh k g) fun r2=>
 ab (!r2) (
  ret (([]:List Cl),2)) (
  Option.bind (ax 1099511627776 ([]:List Cl).length f.length) fun x3=>
  Option.bind (ax 1099511627776 (([]:List Cl)++f).length g.length) fun x4=>
  aa k (kz k ((([]:List Cl)++f)++g)) fun r5=>
  ret (r5.1,r5.2)))
noncomputable def eH {S:Type} (k:Nat) (f g:List Cl) (ret:List Cl×Int→Option S):Option S:=LI k ret f g
noncomputable def LS {S:Type} (k:Nat) (ret:Int×Int×ByteArray→Option S) (a_e:Int):Option S:=
 ret (IntKind.wrap .i64 (0-a_e),0,ByteArray.empty)
noncomputable def dN {S:Type} (k:Nat) (a_e:Int) (ret:Int×Int×ByteArray→Option S):Option S:=LS k ret a_e
def LY {S:Type} (k:Nat) (ret:Int→Option S) (t:Tm) (a b:Int):Option S:=
 aa k (mi k (ae t)) fun r1=>
 ab (r1==0) (
 ab (decide ((a:Int)<0)) (
  ret 2) (
  ab (decide ((b:Int)<0)) (
  ret 2) (
  ret r1))) (
 ret r1)
noncomputable def yF {S:Type} (k:Nat) (t:Tm) (a b:Int) (ret:Int→Option S):Option S:=LY k ret t a b
def LX {S:Type} (k:Nat) (ret:List Cl×Int→Option S) (f:List Cl) (a_from a_by:Int):Option S:=
 ab ((f.length:Int)==0) (
 ret (([]:List Cl),0)) (
 aa k (ky k f a_from a_by) fun r1=>
 ret (r1.1,r1.2))
noncomputable def pR {S:Type} (k:Nat) (f:List Cl) (a_from a_by:Int) (ret:List Cl×Int→Option S):Option S:=LX k ret f a_from a_by
abbrev eF (S:Type):=Tm→Int→Int→Int→Int→(Tm→Option S)→Option S
def tq {S:Type} (hd:eF S) (k:Nat) (ret:Tm→Option S) (t:Tm) (b11_1:Int) (r2:List Cl×Int) (b11_4:List Tm) (b11_5:List (Br Tm)) (r9:List Cl×Int) (v i18 vby d dby:Int) (rec2:(List (Br Tm))→Int→Option S) (rec3:(List Tm)→Int→Option S) (b21_1:List Tm) (v22:Int):Option S:=
 Option.bind (al t.sys i18) fun x11=>
 ab (decide ((v22:Int)<(x11.kids.length:Int))) (
 Option.bind (al t.sys i18) fun x12=>
 Option.bind (al x12.kids v22) fun x13=>
 aa k (mj k t.kind) fun r14=>
 hd (ae x13) v vby (IntKind.wrap .i64 (d+r14)) dby fun r15=>
 ab (decide ((r15.kind:Int)<0)) (
  ret (ae r15)) (
  Option.bind (ax 1099511627776 b21_1.length [(ae r15)].length) fun x16=>
   rec3 (b21_1++[(ae r15)]) (IntKind.wrap .i64 (v22+1)))) (
 Option.bind (ax 1099511627776 b11_5.length [(Br.mk r9.1 b21_1)].length) fun x17=>
  rec2 (b11_5++[(Br.mk r9.1 b21_1)]) (IntKind.wrap .i64 (i18+1)))
noncomputable def gJ {S:Type} (hd:eF S) (k:Nat) (ret:Tm→Option S) (rec2:(List (Br Tm))→Int→Option S) (t:Tm) (b11_1:Int) (r2:List Cl×Int) (b11_4:List Tm) (b11_5:List (Br Tm)) (r9:List Cl×Int) (v i18 vby d dby:Int):Nat→(List Tm)→Int→Option S
 |0=>fun _ _=> .none
 |m+1=>fun b21_1 v22=>tq hd k ret t b11_1 r2 b11_4 b11_5 r9 v i18 vby d dby rec2 (gJ hd k ret rec2 t b11_1 r2 b11_4 b11_5 r9 v i18 vby d dby m) b21_1 v22
def oZ {S:Type} (hd:eF S) (k:Nat) (ret:Tm→Option S) (t:Tm) (b11_1:Int) (r2:List Cl×Int) (b11_4:List Tm) (v vby d dby:Int) (J3:(List (Br Tm))→(List Cl×Int)→Int→(List Tm)→Int→Option S) (rec2:(List (Br Tm))→Int→Option S) (b11_5:List (Br Tm)) (i18:Int):Option S:=
 ab (decide ((i18:Int)<(t.sys.length:Int))) (
 Option.bind (al t.sys i18) fun x8=>
 aa k (pR k x8.face d dby) fun r9=>
 ab (!(r9.2==0)) (
  aa k (dN k r9.2) fun r10=>
  ret (Tm.mk r10.1 r10.2.1 r10.2.2 [] [] [])) (
   J3 b11_5 r9 i18 ([]:List Tm) 0)) (
 ret (Tm.mk t.kind b11_1 t.name r2.1 b11_4 b11_5))
noncomputable def d3 {S:Type} (hd:eF S) (k:Nat) (ret:Tm→Option S) (t:Tm) (b11_1:Int) (r2:List Cl×Int) (b11_4:List Tm) (v vby d dby:Int):Nat→(List (Br Tm))→Int→Option S
 |0=>fun _ _=> .none
 |m+1=>fun b11_5 i18=>oZ hd k ret t b11_1 r2 b11_4 v vby d dby (fun b11_5 r9 i18 b21_1 v22=>gJ hd k ret (d3 hd k ret t b11_1 r2 b11_4 v vby d dby m) t b11_1 r2 b11_4 b11_5 r9 v i18 vby d dby k b21_1 v22) (d3 hd k ret t b11_1 r2 b11_4 v vby d dby m) b11_5 i18
def oY {S:Type} (hd:eF S) (k:Nat) (ret:Tm→Option S) (t:Tm) (b11_1:Int) (r2:List Cl×Int) (v vby d dby:Int) (J2:(List Tm)→(List (Br Tm))→Int→Option S) (rec1:(List Tm)→Int→Option S) (b11_4:List Tm) (i14:Int):Option S:=
 ab (decide ((i14:Int)<(t.kids.length:Int))) (
 aa k (mh k t.kind i14) fun r4=>
 Option.bind (al t.kids i14) fun x5=>
 hd (ae x5) (IntKind.wrap .i64 (v+r4.1)) vby (IntKind.wrap .i64 (d+r4.2)) dby fun r6=>
 ab (decide ((r6.kind:Int)<0)) (
  ret (ae r6)) (
  Option.bind (ax 1099511627776 b11_4.length [(ae r6)].length) fun x7=>
   rec1 (b11_4++[(ae r6)]) (IntKind.wrap .i64 (i14+1)))) (
  J2 b11_4 ([]:List (Br Tm)) 0)
noncomputable def fS {S:Type} (hd:eF S) (k:Nat) (ret:Tm→Option S) (t:Tm) (b11_1:Int) (r2:List Cl×Int) (v vby d dby:Int):Nat→(List Tm)→Int→Option S
 |0=>fun _ _=> .none
 |m+1=>fun b11_4 i14=>oY hd k ret t b11_1 r2 v vby d dby (fun b11_4 b11_5 i18=>d3 hd k ret t b11_1 r2 b11_4 v vby d dby k b11_5 i18) (fS hd k ret t b11_1 r2 v vby d dby m) b11_4 i14
def oX {S:Type} (hd:eF S) (k:Nat) (ret:Tm→Option S) (t:Tm) (v vby d dby:Int) (J1:Int→(List Cl×Int)→(List Tm)→Int→Option S) (b11_1:Int):Option S:=
 aa k (pR k t.r d dby) fun r2=>
 ab (!(r2.2==0)) (
 aa k (dN k r2.2) fun r3=>
 ret (Tm.mk r3.1 r3.2.1 r3.2.2 [] [] [])) (
  J1 b11_1 r2 ([]:List Tm) 0)
noncomputable def vi {S:Type} (hd:eF S) (k:Nat) (ret:Tm→Option S) (t:Tm) (v vby d dby:Int):Nat→Int→Option S
 |0=>fun _=> .none
 |_+1=>fun b11_1=>oX hd k ret t v vby d dby (fun b11_1 r2 b11_4 i14=>fS hd k ret t b11_1 r2 v vby d dby k b11_4 i14) b11_1
def CH {S:Type} (hd:eF S) (k:Nat) (ret:Tm→Option S) (J0:Int→Option S) (t:Tm) (v vby d dby:Int):Option S:=
 ab (t.kind==1) (
 ab (decide ((t.n:Int)≥v)) (
  ab (decide ((t.n:Int)>(IntKind.wrap .i64 (1000000000-vby)))) (
  aa k (dN k 100) fun r1=>
  ret (Tm.mk r1.1 r1.2.1 r1.2.2 [] [] [])) (
    J0 (IntKind.wrap .i64 (t.n+vby)))) (
   J0 t.n)) (
  J0 t.n)
noncomputable def cF {S:Type}:Nat→Tm→Int→Int→Int→Int→(Tm→Option S)→Option S
 |0=>fun _ _ _ _ _ _=> .none
 |k+1=>fun t v vby d dby ret=>CH (cF k) k ret (fun b11_1=>vi (cF k) k ret t v vby d dby k b11_1) t v vby d dby
def LW {S:Type} (k:Nat) (ret:Tm×Int→Option S) (t:Tm):Option S:=
 ab (decide ((t.kind:Int)<0)) (
 ret ((Tm.mk 0 0 ByteArray.empty [] [] []),IntKind.wrap .i64 (0-t.kind))) (
 ret ((ae t),0))
noncomputable def uB {S:Type} (k:Nat) (t:Tm) (ret:Tm×Int→Option S):Option S:=LW k ret t
def LU {S:Type} (k:Nat) (ret:Tm×Int→Option S) (t:Tm) (a_from a_by:Int):Option S:=
 aa k (yF k (ae t) a_from a_by) fun r1=>
 ab (!(r1==0)) (
 ret ((Tm.mk 0 0 ByteArray.empty [] [] []),r1)) (
 ab (decide ((a_from:Int)>1000000000)) (
  cF k (ae t) 0 0 1000000000 a_by fun r2=>
  aa k (uB k (ae r2)) fun r3=>
  ret ((ae r3.1),r3.2)) (
  cF k (ae t) 0 0 a_from a_by fun r4=>
  aa k (uB k (ae r4)) fun r5=>
  ret ((ae r5.1),r5.2)))
noncomputable def uA {S:Type} (k:Nat) (t:Tm) (a_from a_by:Int) (ret:Tm×Int→Option S):Option S:=LU k ret t a_from a_by
def sU {S:Type} (k:Nat) (ret:Int→Option S) (i:Int) (r1:List Int) (rec0:(List Int)→Int→Option S) (out6:List Int) (v7:Int):Option S:=
 ab (decide ((v7:Int)<(r1.length:Int))) (
 Option.bind (al r1 v7) fun x2=>
 Option.bind (al r1 v7) fun x3=>
 ab (!(x3==i)) (
  Option.bind (al r1 v7) fun x4=>
  Option.bind (al r1 v7) fun x5=>
  Option.bind (ax 1099511627776 out6.length [x5].length) fun x6=>
   rec0 (out6++[x5]) (IntKind.wrap .i64 (v7+1))) (
   rec0 out6 (IntKind.wrap .i64 (v7+1)))) (
 aa k (gw k out6) fun r7=>
 ret r7)
noncomputable def mU {S:Type} (k:Nat) (ret:Int→Option S) (i:Int) (r1:List Int):Nat→(List Int)→Int→Option S
 |0=>fun _ _=> .none
 |m+1=>fun out6 v7=>sU k ret i r1 (mU k ret i r1 m) out6 v7
noncomputable def Ch {S:Type} (k:Nat) (ret:Int→Option S) (J0:(List Int)→(List Int)→Int→Option S) (s i:Int):Option S:=
 aa k (gu k s) fun r1=>
 J0 r1 ([]:List Int) 0
noncomputable def fg {S:Type} (k:Nat) (s i:Int) (ret:Int→Option S):Option S:=Ch k ret (fun r1 out6 v7=>mU k ret i r1 k out6 v7) s i
def LJ {S:Type} (k:Nat) (ret:List Cl×Int→Option S) (f:List Cl):Option S:=
 aa k (dF k f) fun r1=>
 ab (!r1) (
 ret (([]:List Cl),2)) (
 aa k (kz k f) fun r2=>
 ret (r2.1,r2.2))
noncomputable def uw {S:Type} (k:Nat) (f:List Cl) (ret:List Cl×Int→Option S):Option S:=LJ k ret f
def tc {S:Type} (k:Nat) (ret:List Cl→Option S) (c:Cl) (rec0:(List Cl)→Int→Option S) (out3:List Cl) (i4:Int):Option S:=
 ab (decide ((i4:Int)<24)) (
 aa k (gw k [i4]) fun r1=>
 aa k (du k c.pos i4) fun r2=>
 ab (r2) (
  Option.bind (ax 1099511627776 out3.length [(Cl.mk 0 r1)].length) fun x3=>
  aa k (du k c.neg i4) fun r4=>
  ab (r4) (
  Option.bind (ax 1099511627776 (out3++[(Cl.mk 0 r1)]).length [(Cl.mk r1 0)].length) fun x5=>
    rec0 ((out3++[(Cl.mk 0 r1)])++[(Cl.mk r1 0)]) (IntKind.wrap .i64 (i4+1))) (
    rec0 (out3++[(Cl.mk 0 r1)]) (IntKind.wrap .i64 (i4+1)))) (
  aa k (du k c.neg i4) fun r6=>
  ab (r6) (
  Option.bind (ax 1099511627776 out3.length [(Cl.mk r1 0)].length) fun x7=>
    rec0 (out3++[(Cl.mk r1 0)]) (IntKind.wrap .i64 (i4+1))) (
    rec0 out3 (IntKind.wrap .i64 (i4+1))))) (
 aa k (gx k out3) fun r8=>
 ret r8.1)
noncomputable def m8 {S:Type} (k:Nat) (ret:List Cl→Option S) (c:Cl):Nat→(List Cl)→Int→Option S
 |0=>fun _ _=> .none
 |m+1=>fun out3 i4=>tc k ret c (m8 k ret c m) out3 i4
noncomputable def Cu {S:Type} (k:Nat) (ret:List Cl→Option S) (J0:(List Cl)→Int→Option S) (c:Cl):Option S:=
 J0 ([]:List Cl) 0
noncomputable def uu {S:Type} (k:Nat) (c:Cl) (ret:List Cl→Option S):Option S:=Cu k ret (fun out3 i4=>m8 k ret c k out3 i4) c
def Lz {S:Type} (k:Nat) (ret:Int→Option S) (s i:Int):Option S:=
 ab (decide ((i:Int)<0)) (
 aa k (fg k s (-1)) fun r1=>
 ret r1) (
 ab (decide ((i:Int)≥24)) (
  aa k (fg k s (-1)) fun r2=>
  ret r2) (
  aa k (fg k s i) fun r3=>
  aa k (gu k r3) fun r4=>
  Option.bind (ax 1099511627776 r4.length [i].length) fun x5=>
  aa k (gw k (r4++[i])) fun r6=>
  ret r6))
noncomputable def pG {S:Type} (k:Nat) (s i:Int) (ret:Int→Option S):Option S:=Lz k ret s i
def sZ {S:Type} (k:Nat) (ret:Int→Option S) (r1:List Int) (rec0:Int→Int→Option S) (a0 i6:Int):Option S:=
 ab (decide ((i6:Int)<(r1.length:Int))) (
 Option.bind (al r1 i6) fun x2=>
 Option.bind (al r1 i6) fun x3=>
 aa k (pG k a0 x3) fun r4=>
  rec0 r4 (IntKind.wrap .i64 (i6+1))) (
 ret a0)
noncomputable def mZ {S:Type} (k:Nat) (ret:Int→Option S) (r1:List Int):Nat→Int→Int→Option S
 |0=>fun _ _=> .none
 |m+1=>fun a0 i6=>sZ k ret r1 (mZ k ret r1 m) a0 i6
noncomputable def Cn {S:Type} (k:Nat) (ret:Int→Option S) (J0:(List Int)→Int→Int→Option S) (a b:Int):Option S:=
 aa k (gu k b) fun r1=>
 J0 r1 a 0
noncomputable def pK {S:Type} (k:Nat) (a b:Int) (ret:Int→Option S):Option S:=Cn k ret (fun r1 a0 i6=>mZ k ret r1 k a0 i6) a b
noncomputable def LD {S:Type} (k:Nat) (ret:Cl→Option S) (a b:Cl):Option S:=
 aa k (pK k a.pos b.pos) fun r1=>
 aa k (pK k a.neg b.neg) fun r2=>
 ret (Cl.mk r1 r2)
noncomputable def pI {S:Type} (k:Nat) (a b:Cl) (ret:Cl→Option S):Option S:=LD k ret a b
def s_ {S:Type} (k:Nat) (ret:List Cl×Int→Option S) (f g:List Cl) (i7:Int) (rec0:(List Cl)→Int→Option S) (rec1:(List Cl)→Int→Option S) (out6':List Cl) (v8:Int):Option S:=
 ab (decide ((v8:Int)<(g.length:Int))) (
 Option.bind (al f i7) fun x3=>
 Option.bind (al g v8) fun x4=>
 aa k (pI k x3 x4) fun r5=>
 Option.bind (ax 1099511627776 out6'.length [r5].length) fun x6=>
  rec1 (out6'++[r5]) (IntKind.wrap .i64 (v8+1))) (
  rec0 out6' (IntKind.wrap .i64 (i7+1)))
noncomputable def kV {S:Type} (k:Nat) (ret:List Cl×Int→Option S) (rec0:(List Cl)→Int→Option S) (f g:List Cl) (i7:Int):Nat→(List Cl)→Int→Option S
 |0=>fun _ _=> .none
 |m+1=>fun out6' v8=>s_ k ret f g i7 rec0 (kV k ret rec0 f g i7 m) out6' v8
def oH {S:Type} (k:Nat) (ret:List Cl×Int→Option S) (f g:List Cl) (J1:Int→(List Cl)→Int→Option S) (rec0:(List Cl)→Int→Option S) (out6:List Cl) (i7:Int):Option S:=
 ab (decide ((i7:Int)<(f.length:Int))) (
  J1 i7 out6 0) (
 aa k (gx k out6) fun r7=>
 ret (r7.1,r7.2))
noncomputable def jH {S:Type} (k:Nat) (ret:List Cl×Int→Option S) (f g:List Cl):Nat→(List Cl)→Int→Option S
 |0=>fun _ _=> .none
 |m+1=>fun out6 i7=>oH k ret f g (fun i7 out6' v8=>kV k ret (jH k ret f g m) f g i7 k out6' v8) (jH k ret f g m) out6 i7
def Cq {S:Type} (k:Nat) (ret:List Cl×Int→Option S) (J0:(List Cl)→Int→Option S) (f g:List Cl):Option S:=
 aa k (dF k f) fun r1=>
 ab (!r1) (
 ret (([]:List Cl),2)) (
 aa k (dF k g) fun r2=>
 ab (!r2) (
  ret (([]:List Cl),2)) (
   J0 ([]:List Cl) 0))
noncomputable def hX {S:Type} (k:Nat) (f g:List Cl) (ret:List Cl×Int→Option S):Option S:=Cq k ret (fun out6 i7=>jH k ret f g k out6 i7) f g
def ta {S:Type} (k:Nat) (ret:List Cl×Int→Option S) (f:List Cl) (rec0:(List Cl)→Int→Int→Option S) (v4:List Cl) (v5 i6:Int):Option S:=
 ab (decide ((i6:Int)<(f.length:Int))) (
 ab (v5==0) (
  Option.bind (al f i6) fun x2=>
  aa k (uu k x2) fun r3=>
  aa k (hX k v4 r3) fun r4=>
   rec0 r4.1 r4.2 (IntKind.wrap .i64 (i6+1))) (
  ret (v4,v5))) (
 ret (v4,v5))
noncomputable def m6 {S:Type} (k:Nat) (ret:List Cl×Int→Option S) (f:List Cl):Nat→(List Cl)→Int→Int→Option S
 |0=>fun _ _ _=> .none
 |m+1=>fun v4 v5 i6=>ta k ret f (m6 k ret f m) v4 v5 i6
def Cr {S:Type} (k:Nat) (ret:List Cl×Int→Option S) (J0:(List Cl)→Int→Int→Option S) (f:List Cl):Option S:=
 aa k (dF k f) fun r1=>
 ab (!r1) (
 ret (([]:List Cl),2)) (
  J0 [(Cl.mk 0 0)] 0 0)
noncomputable def mg {S:Type} (k:Nat) (f:List Cl) (ret:List Cl×Int→Option S):Option S:=Cr k ret (fun v4 v5 i6=>m6 k ret f k v4 v5 i6) f
def LK {S:Type} (k:Nat) (ret:List Cl×Int→Option S) (f:List Cl):Option S:=
 aa k (mg k f) fun r1=>
 ab (!(r1.2==0)) (
 ret (([]:List Cl),r1.2)) (
 aa k (kz k r1.1) fun r2=>
 ret (r2.1,r2.2))
noncomputable def pM {S:Type} (k:Nat) (f:List Cl) (ret:List Cl×Int→Option S):Option S:=LK k ret f
def td {S:Type} (k:Nat) (ret:List Cl×Int→Option S) (f g:List Cl) (i7:Int) (rec0:(List Cl)→Int→Option S) (rec1:(List Cl)→Int→Option S) (out6':List Cl) (v8:Int):Option S:=
 ab (decide ((v8:Int)<(g.length:Int))) (
 Option.bind (al f i7) fun x3=>
 Option.bind (al g v8) fun x4=>
 aa k (pI k x3 x4) fun r5=>
 Option.bind (ax 1099511627776 out6'.length [r5].length) fun x6=>
  rec1 (out6'++[r5]) (IntKind.wrap .i64 (v8+1))) (
  rec0 out6' (IntKind.wrap .i64 (i7+1)))
noncomputable def kW {S:Type} (k:Nat) (ret:List Cl×Int→Option S) (rec0:(List Cl)→Int→Option S) (f g:List Cl) (i7:Int):Nat→(List Cl)→Int→Option S
 |0=>fun _ _=> .none
 |m+1=>fun out6' v8=>td k ret f g i7 rec0 (kW k ret rec0 f g i7 m) out6' v8
def oJ {S:Type} (k:Nat) (ret:List Cl×Int→Option S) (f g:List Cl) (J1:Int→(List Cl)→Int→Option S) (rec0:(List Cl)→Int→Option S) (out6:List Cl) (i7:Int):Option S:=
 ab (decide ((i7:Int)<(f.length:Int))) (
  J1 i7 out6 0) (
 aa k (kz k out6) fun r7=>
 ret (r7.1,r7.2))
noncomputable def jJ {S:Type} (k:Nat) (ret:List Cl×Int→Option S) (f g:List Cl):Nat→(List Cl)→Int→Option S
 |0=>fun _ _=> .none
 |m+1=>fun out6 i7=>oJ k ret f g (fun i7 out6' v8=>kW k ret (jJ k ret f g m) f g i7 k out6' v8) (jJ k ret f g m) out6 i7
def Cv {S:Type} (k:Nat) (ret:List Cl×Int→Option S) (J0:(List Cl)→Int→Option S) (f g:List Cl):Option S:=
 aa k (fh k f) fun r1=>
 ab (!r1) (
 ret (([]:List Cl),2)) (
 aa k (fh k g) fun r2=>
 ab (!r2) (
  ret (([]:List Cl),2)) (
   J0 ([]:List Cl) 0))
noncomputable def jh {S:Type} (k:Nat) (f g:List Cl) (ret:List Cl×Int→Option S):Option S:=Cv k ret (fun out6 i7=>jJ k ret f g k out6 i7) f g
def te {S:Type} (k:Nat) (ret:List Cl×Int→Option S) (f:List Cl) (i:Int) (a_r:List Cl) (rec0:(List Cl)→Int→Option S) (v8:List Cl) (v9:Int):Option S:=
 ab (decide ((v9:Int)<(f.length:Int))) (
 Option.bind (al f v9) fun x3=>
 aa k (fg k x3.pos i) fun r4=>
 aa k (fg k x3.neg i) fun r5=>
 aa k (du k x3.pos i) fun r6=>
 ab (r6) (
  aa k (uw k a_r) fun r7=>
  aa k (du k x3.neg i) fun r8=>
  ab (r8) (
  aa k (pM k a_r) fun r9=>
  ab (r9.2==0) (
   aa k (jh k [(Cl.mk r4 r5)] r9.1) fun r10=>
   ab (r10.2==0) (
   aa k (eH k v8 r10.1) fun r11=>
   ab (!(r11.2==0)) (
    ret (([]:List Cl),r11.2)) (
       rec0 r11.1 (IntKind.wrap .i64 (v9+1)))) (
   ab (!(r10.2==0)) (
    ret (([]:List Cl),r10.2)) (
       rec0 v8 (IntKind.wrap .i64 (v9+1))))) (
   ab (r9.2==0) (
   aa k (eH k v8 [(Cl.mk r4 r5)]) fun r12=>
   ab (!(r12.2==0)) (
    ret (([]:List Cl),r12.2)) (
       rec0 r12.1 (IntKind.wrap .i64 (v9+1)))) (
   ab (!(r9.2==0)) (
    ret (([]:List Cl),r9.2)) (
       rec0 v8 (IntKind.wrap .i64 (v9+1)))))) (
  ab (r7.2==0) (
   aa k (jh k [(Cl.mk r4 r5)] r7.1) fun r13=>
   ab (r13.2==0) (
   aa k (eH k v8 r13.1) fun r14=>
   ab (!(r14.2==0)) (
    ret (([]:List Cl),r14.2)) (
       rec0 r14.1 (IntKind.wrap .i64 (v9+1)))) (
   ab (!(r13.2==0)) (
    ret (([]:List Cl),r13.2)) (
       rec0 v8 (IntKind.wrap .i64 (v9+1))))) (
   ab (r7.2==0) (
   aa k (eH k v8 [(Cl.mk r4 r5)]) fun r15=>
   ab (!(r15.2==0)) (
    ret (([]:List Cl),r15.2)) (
       rec0 r15.1 (IntKind.wrap .i64 (v9+1)))) (
   ab (!(r7.2==0)) (
    ret (([]:List Cl),r7.2)) (
       rec0 v8 (IntKind.wrap .i64 (v9+1))))))) (
  aa k (du k x3.neg i) fun r16=>
  ab (r16) (
  aa k (pM k a_r) fun r17=>
  ab (r17.2==0) (
   aa k (jh k [(Cl.mk r4 r5)] r17.1) fun r18=>
   ab (r18.2==0) (
   aa k (eH k v8 r18.1) fun r19=>
   ab (!(r19.2==0)) (
    ret (([]:List Cl),r19.2)) (
       rec0 r19.1 (IntKind.wrap .i64 (v9+1)))) (
   ab (!(r18.2==0)) (
    ret (([]:List Cl),r18.2)) (
       rec0 v8 (IntKind.wrap .i64 (v9+1))))) (
   ab (r17.2==0) (
   aa k (eH k v8 [(Cl.mk r4 r5)]) fun r20=>
   ab (!(r20.2==0)) (
    ret (([]:List Cl),r20.2)) (
       rec0 r20.1 (IntKind.wrap .i64 (v9+1)))) (
   ab (!(r17.2==0)) (
    ret (([]:List Cl),r17.2)) (
       rec0 v8 (IntKind.wrap .i64 (v9+1)))))) (
  aa k (jh k [(Cl.mk r4 r5)] [(Cl.mk 0 0)]) fun r21=>
  ab (r21.2==0) (
   aa k (eH k v8 r21.1) fun r22=>
   ab (!(r22.2==0)) (
   ret (([]:List Cl),r22.2)) (
      rec0 r22.1 (IntKind.wrap .i64 (v9+1)))) (
   ab (!(r21.2==0)) (
   ret (([]:List Cl),r21.2)) (
      rec0 v8 (IntKind.wrap .i64 (v9+1))))))) (
 ret (v8,0))
noncomputable def kX {S:Type} (k:Nat) (ret:List Cl×Int→Option S) (f:List Cl) (i:Int) (a_r:List Cl):Nat→(List Cl)→Int→Option S
 |0=>fun _ _=> .none
 |m+1=>fun v8 v9=>te k ret f i a_r (kX k ret f i a_r m) v8 v9
def Cw {S:Type} (k:Nat) (ret:List Cl×Int→Option S) (J0:(List Cl)→Int→Option S) (f:List Cl) (i:Int) (a_r:List Cl):Option S:=
 aa k (fh k f) fun r1=>
 ab (!r1) (
 ret (([]:List Cl),2)) (
 ab (decide ((i:Int)<0)) (
  ret (([]:List Cl),2)) (
  ab (decide ((i:Int)≥24)) (
  ret (([]:List Cl),2)) (
  aa k (dF k a_r) fun r2=>
  ab (!r2) (
   ret (([]:List Cl),2)) (
     J0 [] 0))))
noncomputable def ux {S:Type} (k:Nat) (f:List Cl) (i:Int) (a_r:List Cl) (ret:List Cl×Int→Option S):Option S:=Cw k ret (fun v8 v9=>kX k ret f i a_r k v8 v9) f i a_r
def LG {S:Type} (k:Nat) (ret:List Cl×Int→Option S) (f g:List Cl):Option S:=
 aa k (dF k f) fun r1=>
 ab (!r1) (
 ret (([]:List Cl),2)) (
 aa k (dF k g) fun r2=>
 ab (!r2) (
  ret (([]:List Cl),2)) (
  Option.bind (ax 1099511627776 ([]:List Cl).length f.length) fun x3=>
  Option.bind (ax 1099511627776 (([]:List Cl)++f).length g.length) fun x4=>
  aa k (gx k ((([]:List Cl)++f)++g)) fun r5=>
  ret (r5.1,r5.2)))
noncomputable def ur {S:Type} (k:Nat) (f g:List Cl) (ret:List Cl×Int→Option S):Option S:=LG k ret f g
def tb {S:Type} (k:Nat) (ret:List Cl×Int→Option S) (f:List Cl) (i:Int) (a_r v8:List Cl) (v9:Int) (rec0:(List Cl)→Int→Option S) (g11:List Cl) (v12:Int):Option S:=
 ab (v12==0) (
 aa k (ur k v8 g11) fun r11=>
 ab (!(r11.2==0)) (
  ret (([]:List Cl),r11.2)) (
   rec0 r11.1 (IntKind.wrap .i64 (v9+1)))) (
 ab (!(v12==0)) (
  ret (([]:List Cl),v12)) (
   rec0 v8 (IntKind.wrap .i64 (v9+1))))
noncomputable def m7 {S:Type} (k:Nat) (ret:List Cl×Int→Option S) (rec0:(List Cl)→Int→Option S) (f:List Cl) (i:Int) (a_r v8:List Cl) (v9:Int):Nat→(List Cl)→Int→Option S
 |0=>fun _ _=> .none
 |_+1=>fun g11 v12=>tb k ret f i a_r v8 v9 rec0 g11 v12
def oI {S:Type} (k:Nat) (ret:List Cl×Int→Option S) (f:List Cl) (i:Int) (a_r:List Cl) (J1:(List Cl)→Int→(List Cl)→Int→Option S) (rec0:(List Cl)→Int→Option S) (v8:List Cl) (v9:Int):Option S:=
 ab (decide ((v9:Int)<(f.length:Int))) (
 Option.bind (al f v9) fun x3=>
 aa k (fg k x3.pos i) fun r4=>
 aa k (fg k x3.neg i) fun r5=>
 aa k (du k x3.pos i) fun r6=>
 ab (r6) (
  aa k (hX k [(Cl.mk r4 r5)] a_r) fun r7=>
  ab (r7.2==0) (
  aa k (du k x3.neg i) fun r8=>
  ab (r8) (
   aa k (mg k a_r) fun r9=>
   ab (r9.2==0) (
   aa k (hX k r7.1 r9.1) fun r10=>
      J1 v8 v9 r10.1 r10.2) (
      J1 v8 v9 r7.1 r9.2)) (
     J1 v8 v9 r7.1 r7.2)) (
    J1 v8 v9 r7.1 r7.2)) (
  aa k (du k x3.neg i) fun r12=>
  ab (r12) (
  aa k (mg k a_r) fun r13=>
  ab (r13.2==0) (
   aa k (hX k [(Cl.mk r4 r5)] r13.1) fun r14=>
     J1 v8 v9 r14.1 r14.2) (
     J1 v8 v9 [(Cl.mk r4 r5)] r13.2)) (
    J1 v8 v9 [(Cl.mk r4 r5)] 0))) (
 ret (v8,0))
noncomputable def jI {S:Type} (k:Nat) (ret:List Cl×Int→Option S) (f:List Cl) (i:Int) (a_r:List Cl):Nat→(List Cl)→Int→Option S
 |0=>fun _ _=> .none
 |m+1=>fun v8 v9=>oI k ret f i a_r (fun v8 v9 g11 v12=>m7 k ret (jI k ret f i a_r m) f i a_r v8 v9 k g11 v12) (jI k ret f i a_r m) v8 v9
def Ct {S:Type} (k:Nat) (ret:List Cl×Int→Option S) (J0:(List Cl)→Int→Option S) (f:List Cl) (i:Int) (a_r:List Cl):Option S:=
 aa k (dF k f) fun r1=>
 ab (!r1) (
 ret (([]:List Cl),2)) (
 aa k (dF k a_r) fun r2=>
 ab (!r2) (
  ret (([]:List Cl),2)) (
  ab (decide ((i:Int)<0)) (
  ret (([]:List Cl),2)) (
  ab (decide ((i:Int)≥24)) (
   ret (([]:List Cl),2)) (
     J0 [] 0))))
noncomputable def ut {S:Type} (k:Nat) (f:List Cl) (i:Int) (a_r:List Cl) (ret:List Cl×Int→Option S):Option S:=Ct k ret (fun v8 v9=>jI k ret f i a_r k v8 v9) f i a_r
def L0 {S:Type} (k:Nat) (ret:List Cl×Int→Option S) (f:List Cl) (isFace:Bool) (i:Int) (a_r:List Cl) (depth:Int):Option S:=
 aa k (pL k f) fun r1=>
 aa k (du k r1 (IntKind.wrap .i64 (i+depth))) fun r2=>
 ab (!r2) (
 ret (f,0)) (
 aa k (ky k a_r 0 depth) fun r3=>
 ab (!(r3.2==0)) (
  ret (([]:List Cl),r3.2)) (
  ab (isFace) (
  aa k (ux k f (IntKind.wrap .i64 (i+depth)) r3.1) fun r4=>
  ret (r4.1,r4.2)) (
  aa k (ut k f (IntKind.wrap .i64 (i+depth)) r3.1) fun r5=>
  ret (r5.1,r5.2))))
noncomputable def pU {S:Type} (k:Nat) (f:List Cl) (isFace:Bool) (i:Int) (a_r:List Cl) (depth:Int) (ret:List Cl×Int→Option S):Option S:=L0 k ret f isFace i a_r depth
def sP {S:Type} (k:Nat) (ret:Int→Option S) (i:Int) (rec0:(List Int)→Int→Option S) (l5:List Int) (v6:Int):Option S:=
 ab (decide ((v6:Int)<(l5.length:Int))) (
 ab (decide ((i:Int)≥0)) (
  Option.bind (al l5 v6) fun x3=>
  Option.bind (al l5 v6) fun x4=>
  ab (decide ((x4:Int)>i)) (
  Option.bind (al l5 v6) fun x5=>
  Option.bind (al l5 v6) fun x6=>
  Option.bind (al l5 v6) fun x7=>
  Option.bind (al l5 v6) fun x8=>
    rec0 (l5.set (Int.toNat v6) (IntKind.wrap .i64 (x6-1))) (IntKind.wrap .i64 (v6+1))) (
    rec0 l5 (IntKind.wrap .i64 (v6+1)))) (
   rec0 l5 (IntKind.wrap .i64 (v6+1)))) (
 aa k (gw k l5) fun r9=>
 ret r9)
noncomputable def kR {S:Type} (k:Nat) (ret:Int→Option S) (i:Int):Nat→(List Int)→Int→Option S
 |0=>fun _ _=> .none
 |m+1=>fun l5 v6=>sP k ret i (kR k ret i m) l5 v6
noncomputable def Ce {S:Type} (k:Nat) (ret:Int→Option S) (J0:(List Int)→Int→Option S) (s i:Int):Option S:=
 aa k (fg k s i) fun r1=>
 aa k (gu k r1) fun r2=>
 J0 r2 0
noncomputable def md {S:Type} (k:Nat) (s i:Int) (ret:Int→Option S):Option S:=Ce k ret (fun l5 v6=>kR k ret i k l5 v6) s i
def tr {S:Type} (k:Nat) (ret:List Cl→Option S) (f:List Cl) (i:Int) (rec0:(List Cl)→Int→Option S) (out5:List Cl) (v6:Int):Option S:=
 ab (decide ((v6:Int)<(f.length:Int))) (
 Option.bind (al f v6) fun x1=>
 aa k (md k x1.pos i) fun r2=>
 Option.bind (al f v6) fun x3=>
 aa k (md k x3.neg i) fun r4=>
 Option.bind (ax 1099511627776 out5.length [(Cl.mk r2 r4)].length) fun x5=>
  rec0 (out5++[(Cl.mk r2 r4)]) (IntKind.wrap .i64 (v6+1))) (
 aa k (gx k out5) fun r6=>
 ret r6.1)
noncomputable def nh {S:Type} (k:Nat) (ret:List Cl→Option S) (f:List Cl) (i:Int):Nat→(List Cl)→Int→Option S
 |0=>fun _ _=> .none
 |m+1=>fun out5 v6=>tr k ret f i (nh k ret f i m) out5 v6
noncomputable def CI {S:Type} (k:Nat) (ret:List Cl→Option S) (J0:(List Cl)→Int→Option S) (f:List Cl) (i:Int):Option S:=
 J0 ([]:List Cl) 0
noncomputable def pT {S:Type} (k:Nat) (f:List Cl) (i:Int) (ret:List Cl→Option S):Option S:=CI k ret (fun out5 v6=>nh k ret f i k out5 v6) f i
abbrev fF (S:Type):=Tm→Int→(List Cl)→Int→Bool→(Tm→Option S)→Option S
def tt {S:Type} (hd:fF S) (k:Nat) (ret:Tm→Option S) (t:Tm) (b11_3:List Cl) (b11_4:List Tm) (b11_5:List (Br Tm)) (i v18:Int) (a_r:List Cl) (depth:Int) (drop:Bool) (rec1:(List (Br Tm))→Int→Option S) (rec2:(List Cl)→(List Tm)→Int→Option S) (b21_0:List Cl) (b21_1:List Tm) (v22:Int):Option S:=
 Option.bind (al t.sys v18) fun x12=>
 ab (decide ((v22:Int)<(x12.kids.length:Int))) (
 Option.bind (al t.sys v18) fun x13=>
 Option.bind (al x13.kids v22) fun x14=>
 aa k (mj k t.kind) fun r15=>
 hd (ae x14) i a_r (IntKind.wrap .i64 (depth+r15)) drop fun r16=>
 ab (decide ((r16.kind:Int)<0)) (
  ret (ae r16)) (
  Option.bind (ax 1099511627776 b21_1.length [(ae r16)].length) fun x17=>
   rec2 b21_0 (b21_1++[(ae r16)]) (IntKind.wrap .i64 (v22+1)))) (
 Option.bind (ax 1099511627776 b11_5.length [(Br.mk b21_0 b21_1)].length) fun x18=>
  rec1 (b11_5++[(Br.mk b21_0 b21_1)]) (IntKind.wrap .i64 (v18+1)))
noncomputable def iw {S:Type} (hd:fF S) (k:Nat) (ret:Tm→Option S) (rec1:(List (Br Tm))→Int→Option S) (t:Tm) (b11_3:List Cl) (b11_4:List Tm) (b11_5:List (Br Tm)) (i v18:Int) (a_r:List Cl) (depth:Int) (drop:Bool):Nat→(List Cl)→(List Tm)→Int→Option S
 |0=>fun _ _ _=> .none
 |m+1=>fun b21_0 b21_1 v22=>tt hd k ret t b11_3 b11_4 b11_5 i v18 a_r depth drop rec1 (iw hd k ret rec1 t b11_3 b11_4 b11_5 i v18 a_r depth drop m) b21_0 b21_1 v22
def o8 {S:Type} (hd:fF S) (k:Nat) (ret:Tm→Option S) (t:Tm) (b11_3:List Cl) (b11_4:List Tm) (i:Int) (a_r:List Cl) (depth:Int) (drop:Bool) (J2:(List (Br Tm))→Int→(List Cl)→(List Tm)→Int→Option S) (rec1:(List (Br Tm))→Int→Option S) (b11_5:List (Br Tm)) (v18:Int):Option S:=
 ab (decide ((v18:Int)<(t.sys.length:Int))) (
 Option.bind (al t.sys v18) fun x8=>
 aa k (pU k x8.face true i a_r depth) fun r9=>
 ab (!(r9.2==0)) (
  aa k (dN k r9.2) fun r10=>
  ret (Tm.mk r10.1 r10.2.1 r10.2.2 [] [] [])) (
  ab ((r9.1.length:Int)==0) (
    rec1 b11_5 (IntKind.wrap .i64 (v18+1))) (
  ab (drop) (
   aa k (pT k r9.1 (IntKind.wrap .i64 (i+depth))) fun r11=>
     J2 b11_5 v18 r11 ([]:List Tm) 0) (
     J2 b11_5 v18 r9.1 ([]:List Tm) 0)))) (
 ret (Tm.mk t.kind t.n t.name b11_3 b11_4 b11_5))
noncomputable def fT {S:Type} (hd:fF S) (k:Nat) (ret:Tm→Option S) (t:Tm) (b11_3:List Cl) (b11_4:List Tm) (i:Int) (a_r:List Cl) (depth:Int) (drop:Bool):Nat→(List (Br Tm))→Int→Option S
 |0=>fun _ _=> .none
 |m+1=>fun b11_5 v18=>o8 hd k ret t b11_3 b11_4 i a_r depth drop (fun b11_5 v18 b21_0 b21_1 v22=>iw hd k ret (fT hd k ret t b11_3 b11_4 i a_r depth drop m) t b11_3 b11_4 b11_5 i v18 a_r depth drop k b21_0 b21_1 v22) (fT hd k ret t b11_3 b11_4 i a_r depth drop m) b11_5 v18
def o0 {S:Type} (hd:fF S) (k:Nat) (ret:Tm→Option S) (t:Tm) (i:Int) (a_r:List Cl) (depth:Int) (drop:Bool) (J1:(List Cl)→(List Tm)→(List (Br Tm))→Int→Option S) (rec0:(List Cl)→(List Tm)→Int→Option S) (b11_3:List Cl) (b11_4:List Tm) (v14:Int):Option S:=
 ab (decide ((v14:Int)<(t.kids.length:Int))) (
 aa k (mh k t.kind v14) fun r4=>
 Option.bind (al t.kids v14) fun x5=>
 hd (ae x5) i a_r (IntKind.wrap .i64 (depth+r4.2)) drop fun r6=>
 ab (decide ((r6.kind:Int)<0)) (
  ret (ae r6)) (
  Option.bind (ax 1099511627776 b11_4.length [(ae r6)].length) fun x7=>
   rec0 b11_3 (b11_4++[(ae r6)]) (IntKind.wrap .i64 (v14+1)))) (
  J1 b11_3 b11_4 ([]:List (Br Tm)) 0)
noncomputable def jM {S:Type} (hd:fF S) (k:Nat) (ret:Tm→Option S) (t:Tm) (i:Int) (a_r:List Cl) (depth:Int) (drop:Bool):Nat→(List Cl)→(List Tm)→Int→Option S
 |0=>fun _ _ _=> .none
 |m+1=>fun b11_3 b11_4 v14=>o0 hd k ret t i a_r depth drop (fun b11_3 b11_4 b11_5 v18=>fT hd k ret t b11_3 b11_4 i a_r depth drop k b11_5 v18) (jM hd k ret t i a_r depth drop m) b11_3 b11_4 v14
def CJ {S:Type} (hd:fF S) (k:Nat) (ret:Tm→Option S) (J0:(List Cl)→(List Tm)→Int→Option S) (t:Tm) (i:Int) (a_r:List Cl) (depth:Int) (drop:Bool):Option S:=
 aa k (pU k t.r (t.kind==14) i a_r depth) fun r1=>
 ab (!(r1.2==0)) (
 aa k (dN k r1.2) fun r2=>
 ret (Tm.mk r2.1 r2.2.1 r2.2.2 [] [] [])) (
 ab (drop) (
  aa k (pT k r1.1 (IntKind.wrap .i64 (i+depth))) fun r3=>
   J0 r3 ([]:List Tm) 0) (
   J0 r1.1 ([]:List Tm) 0))
noncomputable def eI {S:Type}:Nat→Tm→Int→(List Cl)→Int→Bool→(Tm→Option S)→Option S
 |0=>fun _ _ _ _ _ _=> .none
 |k+1=>fun t i a_r depth drop ret=>CJ (eI k) k ret (fun b11_3 b11_4 v14=>jM (eI k) k ret t i a_r depth drop k b11_3 b11_4 v14) t i a_r depth drop
def LZ {S:Type} (k:Nat) (ret:Tm→Option S) (t:Tm) (i:Int) (a_r:List Cl):Option S:=
 ab (decide ((t.kind:Int)<0)) (
 ret (ae t)) (
 aa k (ky k a_r i 1) fun r1=>
 ab (!(r1.2==0)) (
  aa k (dN k r1.2) fun r2=>
  ret (Tm.mk r2.1 r2.2.1 r2.2.2 [] [] [])) (
  eI k (ae t) i r1.1 0 true fun r3=>
  ret (ae r3)))
noncomputable def pS {S:Type} (k:Nat) (t:Tm) (i:Int) (a_r:List Cl) (ret:Tm→Option S):Option S:=LZ k ret t i a_r
def L6 {S:Type} (k:Nat) (ret:Tm→Option S) (line:Tm) (a_r:List Cl):Option S:=
 ab (decide ((line.kind:Int)<0)) (
 ret (ae line)) (
 aa k (uA k (ae line) 1 2) fun r1=>
 ab (!(r1.2==0)) (
  aa k (dN k r1.2) fun r2=>
  ret (Tm.mk r2.1 r2.2.1 r2.2.2 [] [] [])) (
  aa k (pS k (ae r1.1) 0 a_r) fun r3=>
  ret (ae r3)))
noncomputable def pX {S:Type} (k:Nat) (line:Tm) (a_r:List Cl) (ret:Tm→Option S):Option S:=L6 k ret line a_r
def LV {S:Type} (k:Nat) (ret:Tm→Option S) (t:Tm) (vars dims:Int):Option S:=
 ab (decide ((t.kind:Int)<0)) (
 ret (ae t)) (
 cF k (ae t) 0 vars 0 0 fun r1=>
 ab (decide ((r1.kind:Int)<0)) (
  ret (ae r1)) (
  cF k (ae r1) 0 0 0 dims fun r2=>
  ret (ae r2)))
noncomputable def pQ {S:Type} (k:Nat) (t:Tm) (vars dims:Int) (ret:Tm→Option S):Option S:=LV k ret t vars dims
def tu {S:Type} (k:Nat) (ret:Tm→Option S) (kind:Int) (kids:List Tm) (rec0:Int→Option S) (i5:Int):Option S:=
 ab (decide ((i5:Int)<(kids.length:Int))) (
 Option.bind (al kids i5) fun x1=>
 ab (decide ((x1.kind:Int)<0)) (
  Option.bind (al kids i5) fun x2=>
  ret (ae x2)) (
   rec0 (IntKind.wrap .i64 (i5+1)))) (
 ret (Tm.mk kind 0 ByteArray.empty [] kids []))
noncomputable def ni {S:Type} (k:Nat) (ret:Tm→Option S) (kind:Int) (kids:List Tm):Nat→Int→Option S
 |0=>fun _=> .none
 |m+1=>fun i5=>tu k ret kind kids (ni k ret kind kids m) i5
noncomputable def CL {S:Type} (k:Nat) (ret:Tm→Option S) (J0:Int→Option S) (kind:Int) (kids:List Tm):Option S:=
 J0 0
noncomputable def yH {S:Type} (k:Nat) (kind:Int) (kids:List Tm) (ret:Tm→Option S):Option S:=CL k ret (fun i5=>ni k ret kind kids k i5) kind kids
noncomputable def L8 {S:Type} (k:Nat) (ret:Tm→Option S) (kind:Int) (a b:Tm):Option S:=
 aa k (yH k kind [(ae a),(ae b)]) fun r1=>
 ret (ae r1)
noncomputable def mm {S:Type} (k:Nat) (kind:Int) (a b:Tm) (ret:Tm→Option S):Option S:=L8 k ret kind a b
def L3 {S:Type} (k:Nat) (ret:Tm→Option S) (line:Tm) (phi:List Cl) (a:Tm) (a_end:Cl) (a_r:List Cl):Option S:=
 aa k (ky k phi 0 1) fun r1=>
 ab (r1.2==0) (
 aa k (eH k r1.1 [a_end]) fun r2=>
 ab (!(r2.2==0)) (
  aa k (dN k r2.2) fun r3=>
  ret (Tm.mk r3.1 r3.2.1 r3.2.2 [] [] [])) (
  aa k (pX k (ae line) a_r) fun r4=>
  aa k (pQ k (ae a) 0 1) fun r5=>
  aa k (mm k 14 (ae r4) (ae r5)) fun r6=>
  ab (decide ((r6.kind:Int)≥0)) (
  ret (Tm.mk r6.kind r6.n r6.name r2.1 r6.kids r6.sys)) (
  ret (ae r6)))) (
 ab (!(r1.2==0)) (
  aa k (dN k r1.2) fun r7=>
  ret (Tm.mk r7.1 r7.2.1 r7.2.2 [] [] [])) (
  aa k (pX k (ae line) a_r) fun r8=>
  aa k (pQ k (ae a) 0 1) fun r9=>
  aa k (mm k 14 (ae r8) (ae r9)) fun r10=>
  ab (decide ((r10.kind:Int)≥0)) (
  ret (Tm.mk r10.kind r10.n r10.name r1.1 r10.kids r10.sys)) (
  ret (ae r10))))
noncomputable def pV {S:Type} (k:Nat) (line:Tm) (phi:List Cl) (a:Tm) (a_end:Cl) (a_r:List Cl) (ret:Tm→Option S):Option S:=L3 k ret line phi a a_end a_r
noncomputable def L7 {S:Type} (k:Nat) (ret:Tm→Option S) (line:Tm) (phi:List Cl) (a:Tm):Option S:=
 aa k (pV k (ae line) phi (ae a) (Cl.mk 0 1) [(Cl.mk 3 0)]) fun r1=>
 ret (ae r1)
noncomputable def yI {S:Type} (k:Nat) (line:Tm) (phi:List Cl) (a:Tm) (ret:Tm→Option S):Option S:=L7 k ret line phi a
def L5 {S:Type} (k:Nat) (ret:Tm×Int→Option S) (t:Tm):Option S:=
 ab (decide ((t.kind:Int)<0)) (
 ret ((Tm.mk 0 0 ByteArray.empty [] [] []),IntKind.wrap .i64 (0-t.kind))) (
 aa k (mi k (ae t)) fun r1=>
 ab (!(r1==0)) (
  ret ((Tm.mk 0 0 ByteArray.empty [] [] []),r1)) (
  ret ((ae t),0)))
noncomputable def pW {S:Type} (k:Nat) (t:Tm) (ret:Tm×Int→Option S):Option S:=L5 k ret t
def o_ {S:Type} (k:Nat) (ret:Tm×Int→Option S) (line a:Tm) (phi:List Cl) (v8:Int):Option S:=
 ab (!(v8==0)) (
 ret ((Tm.mk 0 0 ByteArray.empty [] [] []),v8)) (
 aa k (yI k (ae line) phi (ae a)) fun r3=>
 aa k (pW k (ae r3)) fun r4=>
 ret ((ae r4.1),r4.2))
noncomputable def vk {S:Type} (k:Nat) (ret:Tm×Int→Option S) (line a:Tm) (phi:List Cl):Nat→Int→Option S
 |0=>fun _=> .none
 |_+1=>fun v8=>o_ k ret line a phi v8
def CM {S:Type} (k:Nat) (ret:Tm×Int→Option S) (J0:Int→Option S) (line:Tm) (phi:List Cl) (a:Tm):Option S:=
 aa k (pY k [(ae line),(ae a)]) fun r1=>
 ab (r1==0) (
 aa k (fh k phi) fun r2=>
 ab (!r2) (
   J0 2) (
   J0 r1)) (
  J0 r1)
noncomputable def uD {S:Type} (k:Nat) (line:Tm) (phi:List Cl) (a:Tm) (ret:Tm×Int→Option S):Option S:=CM k ret (fun v8=>vk k ret line a phi k v8) line phi a
noncomputable def KA {S:Type} (k:Nat) (ret:Tm×Int→Option S) (line:Tm) (phi:List Cl) (a:Tm):Option S:=
 aa k (pm k (ae line) phi (ae a) (Cl.mk 1 0) [(Cl.mk 0 1),(Cl.mk 2 0)]) fun r1=>
 ret ((ae r1.1),r1.2)
noncomputable def tL {S:Type} (k:Nat) (line:Tm) (phi:List Cl) (a:Tm) (ret:Tm×Int→Option S):Option S:=KA k ret line phi a
noncomputable def L4 {S:Type} (k:Nat) (ret:Tm→Option S) (line:Tm) (phi:List Cl) (a:Tm):Option S:=
 aa k (pV k (ae line) phi (ae a) (Cl.mk 1 0) [(Cl.mk 0 1),(Cl.mk 2 0)]) fun r1=>
 ret (ae r1)
noncomputable def yG {S:Type} (k:Nat) (line:Tm) (phi:List Cl) (a:Tm) (ret:Tm→Option S):Option S:=L4 k ret line phi a
def o9 {S:Type} (k:Nat) (ret:Tm×Int→Option S) (line a:Tm) (phi:List Cl) (v8:Int):Option S:=
 ab (!(v8==0)) (
 ret ((Tm.mk 0 0 ByteArray.empty [] [] []),v8)) (
 aa k (yG k (ae line) phi (ae a)) fun r3=>
 aa k (pW k (ae r3)) fun r4=>
 ret ((ae r4.1),r4.2))
noncomputable def vj {S:Type} (k:Nat) (ret:Tm×Int→Option S) (line a:Tm) (phi:List Cl):Nat→Int→Option S
 |0=>fun _=> .none
 |_+1=>fun v8=>o9 k ret line a phi v8
def CK {S:Type} (k:Nat) (ret:Tm×Int→Option S) (J0:Int→Option S) (line:Tm) (phi:List Cl) (a:Tm):Option S:=
 aa k (pY k [(ae line),(ae a)]) fun r1=>
 ab (r1==0) (
 aa k (fh k phi) fun r2=>
 ab (!r2) (
   J0 2) (
   J0 r1)) (
  J0 r1)
noncomputable def uC {S:Type} (k:Nat) (line:Tm) (phi:List Cl) (a:Tm) (ret:Tm×Int→Option S):Option S:=CK k ret (fun v8=>vj k ret line a phi k v8) line phi a
abbrev dX (S:Type):=Tm→Tm→(Bool→Option S)→Option S
def tp {S:Type} (hd:dX S) (k:Nat) (ret:Bool→Option S) (a b:List Tm) (rec0:Int→Option S) (i5:Int):Option S:=
 ab (decide ((i5:Int)<(a.length:Int))) (
 Option.bind (al a i5) fun x1=>
 Option.bind (al b i5) fun x2=>
 hd (ae x1) (ae x2) fun r3=>
 ab (!r3) (
  ret false) (
   rec0 (IntKind.wrap .i64 (i5+1)))) (
 ret true)
noncomputable def ng {S:Type} (hd:dX S) (k:Nat) (ret:Bool→Option S) (a b:List Tm):Nat→Int→Option S
 |0=>fun _=> .none
 |m+1=>fun i5=>tp hd k ret a b (ng hd k ret a b m) i5
def CF {S:Type} (hd:dX S) (k:Nat) (ret:Bool→Option S) (J0:Int→Option S) (a b:List Tm):Option S:=
 ab (!((a.length:Int)==(b.length:Int))) (
 ret false) (
  J0 0)
noncomputable def pO {S:Type} (hd:dX S) (k:Nat) (a b:List Tm) (ret:Bool→Option S):Option S:=CF hd k ret (fun i5=>ng hd k ret a b k i5) a b
def tl {S:Type} (hd:dX S) (k:Nat) (ret:Bool→Option S) (a b:Tm) (rec0:Int→Option S) (i5:Int):Option S:=
 ab (decide ((i5:Int)<(a.sys.length:Int))) (
 Option.bind (al a.sys i5) fun x3=>
 Option.bind (al b.sys i5) fun x4=>
 aa k (gy k x3.face x4.face) fun r5=>
 ab (!r5) (
  ret false) (
  Option.bind (al a.sys i5) fun x6=>
  Option.bind (al b.sys i5) fun x7=>
  aa k (pO hd k x6.kids x7.kids) fun r8=>
  ab (!r8) (
  ret false) (
    rec0 (IntKind.wrap .i64 (i5+1))))) (
 ret true)
noncomputable def k_ {S:Type} (hd:dX S) (k:Nat) (ret:Bool→Option S) (a b:Tm):Nat→Int→Option S
 |0=>fun _=> .none
 |m+1=>fun i5=>tl hd k ret a b (k_ hd k ret a b m) i5
def CD {S:Type} (hd:dX S) (k:Nat) (ret:Bool→Option S) (J0:Int→Option S) (a b:Tm):Option S:=
 ab (!(a.kind==b.kind)) (
 ret false) (
 ab (!(a.n==b.n)) (
  ret false) (
  ab (!(a.name==b.name)) (
  ret false) (
  aa k (gy k a.r b.r) fun r1=>
  ab (!r1) (
   ret false) (
   aa k (pO hd k a.kids b.kids) fun r2=>
   ab (!r2) (
   ret false) (
   ab (!((a.sys.length:Int)==(b.sys.length:Int))) (
    ret false) (
       J0 0))))))
noncomputable def eb {S:Type}:Nat→Tm→Tm→(Bool→Option S)→Option S
 |0=>fun _ _ _=> .none
 |k+1=>fun a b ret=>CD (eb k) k ret (fun i5=>k_ (eb k) k ret a b k i5) a b
def Lk {S:Type} (k:Nat) (ret:Bool→Option S) (a:Tm) (a_e:Int) (b:Tm) (a_bad:Int):Option S:=
 eb k (ae a) (ae b) fun r1=>
 ab (r1) (
 ret (a_e==a_bad)) (
 ret false)
noncomputable def pD {S:Type} (k:Nat) (a:Tm) (a_e:Int) (b:Tm) (a_bad:Int) (ret:Bool→Option S):Option S:=Lk k ret a a_e b a_bad
def Li {S:Type} (k:Nat) (ret:Bool→Option S) (line:Tm) (phi:List Cl) (t:Tm):Option S:=
 aa k (uh k (ae line) (ae t) ([]:List (Br Tm))) fun r1=>
 ab (r1) (
 aa k (l_ k) fun r2=>
 ret r2) (
 ab (decide (((phi.length:Int):Int)>24)) (
  aa k (l_ k) fun r3=>
  ret r3) (
  aa k (pk k (ae line) phi (ae t)) fun r4=>
  aa k (uD k (ae line) phi (ae t)) fun r5=>
  aa k (tL k (ae line) phi (ae t)) fun r6=>
  aa k (uC k (ae line) phi (ae t)) fun r7=>
  aa k (pD k (ae r4.1) r4.2 (ae r5.1) r5.2) fun r8=>
  ab (r8) (
  aa k (pD k (ae r6.1) r6.2 (ae r7.1) r7.2) fun r9=>
  ab (r9) (
   aa k (l_ k) fun r10=>
   ret r10) (
   ret false)) (
  ret false)))
noncomputable def yC {S:Type} (k:Nat) (line:Tm) (phi:List Cl) (t:Tm) (ret:Bool→Option S):Option S:=Li k ret line phi t
end
end Go.Proofs.YtapmagaejigpnaaGreatDoor
namespace Go.Proofs.YtapmagaejigpnaaGreatDoor
open Go PI
set_option linter.unusedVariables false
set_option linter.unusedSimpArgs false
abbrev M24:Nat:=16777215
theorem vC {n:Nat} (h:n<24):2^n<4294967296:=Nat.lt_of_lt_of_le (Nat.pow_lt_pow_right (by decide) h) (by decide)
theorem lV (n:Nat):(2:Int)^n=((2^n:Nat):Int):=by simp
theorem za (m n:Nat):Int.fdiv (m:Int) ((2:Int)^n)=((m/2^n:Nat):Int):=by
 rw [lV,Int.fdiv_eq_ediv_of_nonneg _ (Int.natCast_nonneg _),Int.natCast_ediv]
variable {S:Type} {k:Nat}
theorem wD (hk:Fu k) (i:Int) (ret:Bool→Option S):kx k i ret=ret (decide (0≤i∧i<24)):=by
 simp only [kx,Lw,aG]
 by_cases h:i≥0
 ·rw [if_pos h];congr 1;simp;omega
 ·rw [if_neg h];congr 1;simp;omega
theorem Z_ (hk:Fu k) {m:Nat} (hm:m<4294967296) (ret:Bool→Option S):mb k (m:Int) ret=ret (decide (m<16777216)):=by
 simp only [mb,Ls]
 rw [show (16777215:Int)=((16777215:Nat):Int) from rfl,xV hm (by decide)]
 congr 1
 rw [Bool.eq_iff_iff]
 simp only [beq_iff_eq,decide_eq_true_eq]
 have key:cM m 16777215=0↔m<16777216:=by
  constructor
  ·intro h
   apply Nat.lt_pow_two_of_testBit (n:=24)
   intro i hi
   have h2:=iE m 16777215 i
   rw [h,Nat.zero_testBit] at h2
   have:(16777215:Nat).testBit i=false:=Nat.testBit_lt_two_pow (Nat.lt_of_lt_of_le (by decide:16777215<2^24) (Nat.pow_le_pow_right (by decide) hi))
   rw [this] at h2
   simpa using h2.symm
  ·intro h
   apply Nat.eq_of_testBit_eq
   intro i
   rw [iE,Nat.zero_testBit]
   by_cases hi:i<24
   ·have:(16777215:Nat).testBit i=true:=by
     rw [show (16777215:Nat)=2^24-1 from rfl,Nat.testBit_two_pow_sub_one];simpa using hi
    rw [this];simp
   ·have h2:(2:Nat)^24≤2^i:=Nat.pow_le_pow_right (by decide) (by omega)
    have:m.testBit i=false:=Nat.testBit_lt_two_pow (Nat.lt_of_lt_of_le h h2)
    rw [this];rfl
 omega
theorem Z8 (hk:Fu k) {m:Nat} (hm:m<4294967296) (i:Int) (ret:Bool→Option S):fJ k (m:Int) i ret=ret (decide (0≤i∧i<24)&&m.testBit i.toNat):=by
 simp only [fJ,Lr,wD hk,ah hk]
 by_cases h:0≤i∧i<24
 ·obtain ⟨n,rfl⟩: ∃n:Nat,i=n:=⟨i.toNat,by omega⟩
  have hn:n<24:=by omega
  rw [decide_eq_true h,ad,Bool.true_and,fA n (by omega),gi _ (by omega)]
  congr 1
  rw [Int.toNat_natCast,Nat.min_eq_left (by omega),za,show (1:Int)=((1:Nat):Int) from rfl,i8 (Nat.lt_of_le_of_lt (Nat.div_le_self _ _) hm) (by decide)]
  rw [Nat.testBit_eq_decide_div_mod_eq,Nat.and_one_is_mod,Bool.eq_iff_iff]
  simp only [beq_iff_eq,decide_eq_true_eq]
  omega
 ·rw [decide_eq_false h,ac,Bool.false_and]
theorem aaa (hk:Fu k) {m:Nat} (hm:m<4294967296) (i:Int) (ret:Int→Option S):gr k (m:Int) i ret=ret (if 0≤i∧i<24 then (((m&&&M24)|||2^i.toNat:Nat):Int) else ((m&&&M24:Nat):Int)):=by
 simp only [gr,Lt,wD hk,ah hk]
 have hand:aS .and .u32 (m:Int) 16777215=((m&&&M24:Nat):Int):=i8 hm (by decide:(16777215:Nat)<4294967296)
 have hlt:m&&&M24<4294967296:=ov (n:=32) hm
 rw [hand]
 by_cases h:0≤i∧i<24
 ·obtain ⟨n,rfl⟩: ∃n:Nat,i=n:=⟨i.toNat,by omega⟩
  have hn:n<24:=by omega
  rw [decide_eq_true h,if_pos h,fA n (by omega)]
  simp only [Bool.not_true,ac]
  rw [gi _ (by omega),Int.toNat_natCast,Nat.min_eq_left (by omega),Int.one_mul,lV,iW _ (vC hn),sh hlt (vC hn)]
 ·rw [decide_eq_false h,if_neg h];rfl
theorem aab (hk:Fu k) {m:Nat} (hm:m<4294967296) (i:Int) (ret:Int→Option S):hU k (m:Int) i ret=ret (if 0≤i∧i<24 then ((cM (m&&&M24) (2^i.toNat):Nat):Int) else ((m&&&M24:Nat):Int)):=by
 simp only [hU,Lu,wD hk,ah hk]
 have hand:aS .and .u32 (m:Int) 16777215=((m&&&M24:Nat):Int):=i8 hm (by decide:(16777215:Nat)<4294967296)
 have hlt:m&&&M24<4294967296:=ov (n:=32) hm
 rw [hand]
 by_cases h:0≤i∧i<24
 ·obtain ⟨n,rfl⟩: ∃n:Nat,i=n:=⟨i.toNat,by omega⟩
  have hn:n<24:=by omega
  rw [decide_eq_true h,if_pos h,fA n (by omega)]
  simp only [Bool.not_true,ac]
  rw [gi _ (by omega),Int.toNat_natCast,Nat.min_eq_left (by omega),Int.one_mul,lV,iW _ (vC hn),xV hlt (vC hn)]
 ·rw [decide_eq_false h,if_neg h];rfl
theorem Ku (hk:Fu k) (n:Nat) (hn:n<18446744073709551616) (ret:Int→Option S):mc k (n:Int) ret=ret ((2^min n 24-1:Nat):Int):=by
 simp only [mc,Lv]
 have e:(if (24:Int)<(n:Int) then (24:Int) else (n:Int))=((min n 24:Nat):Int):=by
  by_cases h:24<n
  ·rw [if_pos (by omega),Nat.min_eq_right (by omega)];rfl
  ·rw [if_neg (by omega),Nat.min_eq_left (by omega)]
 rw [e,fA _ (by omega),gi _ (by omega),Int.toNat_natCast]
 congr 1
 generalize hq:min n 24=q
 have hq24:q≤24:=by omega
 rw [Nat.min_eq_left (by omega),Int.one_mul,lV]
 have h1:2^q≤2^24:=Nat.pow_le_pow_right (by decide) hq24
 have h0:0<2^q:=Nat.pos_of_ne_zero (by simp)
 have h24:(2:Nat)^24=16777216:=by decide
 rw [fA _ (by omega)]
 have e2:((2^q:Nat):Int)-1=((2^q-1:Nat):Int):=by omega
 rw [e2,fA _ (by omega),iW _ (by omega)]
def eO (m n:Nat):Nat:=(m&&&M24)&&&(2^min n 24-1)
def co (m n:Nat):Nat:=cM (m&&&M24) (2^min n 24-1)
def dz (m n b:Nat):Nat×Nat:=
 if co m n=0 then (eO m n,0) else if 24≤b then (0,10) else if co m n*2^b>16777215 then (0,10) else (eO m n|||(co m n*2^b),0)
theorem Z9 (hk:Fu k) {m:Nat} (hm:m<4294967296) (n b:Nat) (hn:n<9223372036854775808) (hb:b<9223372036854775808) (ret:Int×Int→Option S):
  jf k (m:Int) (n:Int) (b:Int) ret=ret (((dz m n b).1:Int),((dz m n b).2:Int)):=by
 have hand:aS .and .u32 (m:Int) 16777215=((m&&&M24:Nat):Int):=i8 hm (by decide:(16777215:Nat)<4294967296)
 have hlt:m&&&M24<16777216:=Nat.lt_of_le_of_lt Nat.and_le_right (by decide)
 have hbl:2^min n 24-1<4294967296:=by
  have:2^min n 24≤2^24:=Nat.pow_le_pow_right (by decide) (by omega)
  have h24:(2:Nat)^24=16777216:=by decide
  omega
 have hhi:co m n<16777216:=q_ (n:=24) hlt
 have hlow:aS .and .u32 ((m&&&M24:Nat):Int) ((2^min n 24-1:Nat):Int)=((eO m n:Nat):Int):=i8 (by omega) hbl
 have hhigh:aS .andNot .u32 ((m&&&M24:Nat):Int) ((2^min n 24-1:Nat):Int)=((co m n:Nat):Int):=xV (by omega) hbl
 simp only [jf,wG]
 rw [aG,aG,if_neg (by omega),if_neg (by omega)]
 simp only [Ku hk n (by omega),ah hk,hand,hlow,hhigh]
 rw [fA _ (by omega)]
 unfold dz
 by_cases h0:co m n=0
 ·rw [if_pos h0]
  simp [h0,ad]
 ·rw [if_neg h0]
  have hb0:(((co m n:Nat):Int)==0)=false:=by
   rw [Bool.eq_false_iff];intro h;exact h0 (by have:=eq_of_beq h;omega)
  simp only [hb0,ac,aG]
  by_cases h24:24≤b
  ·rw [if_pos (by omega),if_pos h24];rfl
  ·rw [if_neg (by omega),if_neg h24,fA b (by omega),gi _ (by omega),Int.toNat_natCast,Nat.min_eq_left (by omega),lV]
   have hp:2^b≤2^23:=Nat.pow_le_pow_right (by decide) (by omega)
   have h23:(2:Nat)^23=8388608:=by decide
   have hmul:co m n*2^b<18446744073709551616:=by
    have:=Nat.mul_le_mul (Nat.le_of_lt hhi) hp
    omega
   have ec:((co m n:Nat):Int)*((2^b:Nat):Int)=((co m n*2^b:Nat):Int):=by simp
   rw [ec,fA _ hmul]
   by_cases hg:co m n*2^b>16777215
   ·rw [if_pos (by omega),if_pos hg];rfl
   ·rw [if_neg (by omega),if_neg hg]
    rw [iW _ (by omega),gi _ (by omega),sh (by have:eO m n≤m&&&M24:=Nat.and_le_left;omega) (by omega)]
    rfl
end Go.Proofs.YtapmagaejigpnaaGreatDoor
namespace Go.Proofs.YtapmagaejigpnaaGreatDoor
open Go PI
set_option linter.unusedVariables false
set_option linter.unusedSimpArgs false
set_option maxRecDepth 20000
variable {S:Type} {k:Nat}
def bS (l:List Nat):Nat:=(l.map (2^ ·)).sum
theorem QV {x a:Nat} (h:x.testBit a=false):x+2^a=x|||2^a:=by
 have h1:x=2^(a+1)*(x/2^(a+1))+x%2^(a+1):=(Nat.div_add_mod _ _).symm
 have hlt:x%2^(a+1)<2^a:=by
  have hb:(x%2^(a+1)).testBit a=false:=by rw [Nat.testBit_mod_two_pow,h];simp
  have hm:x%2^(a+1)<2^(a+1):=Nat.mod_lt _ (Nat.two_pow_pos _)
  apply Nat.lt_pow_two_of_testBit
  intro i hi
  by_cases hia:i=a
  ·rw [hia];exact hb
  ·exact Nat.testBit_lt_two_pow (Nat.lt_of_lt_of_le hm (Nat.pow_le_pow_right (by decide) (by omega)))
 generalize x/2^(a+1)=q at h1
 generalize x%2^(a+1)=r at h1 hlt
 have hp:(2:Nat)^(a+1)=2^a*2:=Nat.pow_succ 2 a
 have e1:2^a+r=2^a|||r:=by
  have:=Nat.two_pow_add_eq_or_of_lt hlt 1
  simpa using this
 have e2:x=2^(a+1)*q|||r:=by rw [h1];exact Nat.two_pow_add_eq_or_of_lt (by omega) q
 have e3:x+2^a=2^(a+1)*q|||(2^a+r):=by
  rw [←Nat.two_pow_add_eq_or_of_lt (by omega:2^a+r<2^(a+1)) q,h1];omega
 rw [e3,e1,e2,Nat.or_comm (2^a) r,←Nat.or_assoc]
theorem lH: ∀ (l:List Nat),l.Nodup→ ∀j,(bS l).testBit j=decide (j∈l):=by
 intro l
 induction l with
 |nil=>intro _ j;simp [bS]
 |cons a l ih=>
  intro hn j
  have hn':=List.nodup_cons.1 hn
  have ha:(bS l).testBit a=false:=by rw [ih hn'.2];simpa using hn'.1
  have e:bS (a::l)=bS l|||2^a:=by
   rw [←QV ha];simp [bS];omega
  rw [e,Nat.testBit_or,ih hn'.2,Nat.testBit_two_pow]
  by_cases h:a=j
  ·subst h;simp
  ·have:j≠a:=Ne.symm h
   simp [h,this]
theorem Z0: ∀ (l:List Nat),(∀x∈l,x<24)→bS l≤l.length*8388608:=by
 intro l
 induction l with
 |nil=>intro _;simp [bS]
 |cons a l ih=>
  intro h
  have h1:=ih fun x hx=>h x (by simp [hx])
  have h2:2^a≤2^23:=Nat.pow_le_pow_right (by decide) (by have:=h a (by simp);omega)
  have h23:(2:Nat)^23=8388608:=by decide
  have e:bS (a::l)=2^a+bS l:=by simp [bS]
  rw [e,List.length_cons];omega
def bz (m:Nat):List Nat:=(List.range 24).filter m.testBit
theorem lR (m:Nat):(bz m).Nodup:=List.nodup_range.filter _
theorem mem_bitsN {m j:Nat}:j∈bz m↔j<24∧m.testBit j=true:=by simp [bz]
theorem e_ (m:Nat):(bz m).length≤24:=by
 have:=List.length_filter_le m.testBit (List.range 24)
 simpa [bz] using this
theorem e9 (j:Nat):M24.testBit j=decide (j<24):=by
 rw [show M24=2^24-1 from rfl,Nat.testBit_two_pow_sub_one]
theorem BB (m:Nat):bS (bz m)=m&&&M24:=by
 apply Nat.eq_of_testBit_eq
 intro j
 rw [lH _ (lR m),Nat.testBit_and,e9,Bool.eq_iff_iff]
 simp [mem_bitsN]
 constructor<;>(rintro ⟨a,b⟩;exact ⟨b,a⟩)
theorem VS (ret:Int→Option S) (n:Nat) (hn:n≤30): ∀ (d i m:Nat),i+d=n→d<m→mV k ret (n:Int) m ((2^i:Nat):Int) (i:Int)=ret ((2^n:Nat):Int):=by
 intro d
 induction d with
 |zero=>
  intro i m h hm
  obtain ⟨m,rfl⟩: ∃q,m=q+1:=⟨m-1,by omega⟩
  have:i=n:=by omega
  subst this
  simp only [mV,sV,aG]
  rw [if_neg (by omega)]
 |succ d ih=>
  intro i m h hm
  obtain ⟨m,rfl⟩: ∃q,m=q+1:=⟨m-1,by omega⟩
  simp only [mV,sV,aG]
  have hp:2^i≤2^30:=Nat.pow_le_pow_right (by decide) (by omega)
  have h30:(2:Nat)^30=1073741824:=by decide
  have hc:(0:Int)≤((2^i:Nat):Int):=Int.natCast_nonneg _
  rw [if_pos (by omega),c8 (by omega) (by omega),c8 (by omega) (by omega)]
  have e1:((2^i:Nat):Int)*2=((2^(i+1):Nat):Int):=by rw [Nat.pow_succ];simp
  have e2:(i:Int)+1=((i+1:Nat):Int):=by simp
  rw [e1,e2]
  exact ih (i+1) m (by omega) (by omega)
theorem BD (hk:Fu k) (n:Nat) (hn:n≤30) (ret:Int→Option S):mf k (n:Int) ret=ret ((2^n:Nat):Int):=by
 simp only [mf,Ci]
 have:=VS (k:=k) ret n hn n 0 k (by omega) (by omega)
 simpa using this
theorem aae (hk:Fu k) {m:Nat} (hm:m<4294967296) (ret:Bool→Option S):me k (m:Int) ret=ret (decide (m<16777216)):=by
 simp only [me,Ly,ah hk]
 rw [show (24:Int)=((24:Nat):Int) from rfl,BD hk 24 (by omega),c8 (by omega) (by omega)]
 have h24:((2^24:Nat):Int)=16777216:=by decide
 rw [h24]
 have e:decide ((m:Int)<16777216)=decide (m<16777216):=by rw [Bool.eq_iff_iff];simp only [decide_eq_true_eq];omega
 rw [e]
theorem Kv (hk:Fu k) {m:Nat} (hm:m<4294967296) (i:Int) (ret:Bool→Option S):du k (m:Int) i ret=ret (decide (0≤i∧i<24)&&m.testBit i.toNat):=by
 simp only [du,Lx,aG,ah hk]
 by_cases h0:i≥0
 ·rw [if_pos h0]
  by_cases h1:i<24
  ·rw [if_pos h1]
   obtain ⟨n,rfl⟩: ∃n:Nat,i=n:=⟨i.toNat,by omega⟩
   have hp:0<2^n:=Nat.two_pow_pos n
   rw [BD hk n (by omega),gi _ (by omega)]
   rw [c8 (n:=(m:Int)) (by omega) (by omega)]
   have e1:Int.tdiv (m:Int) ((2^n:Nat):Int)=((m/2^n:Nat):Int):=(Int.ofNat_tdiv m (2^n)).symm
   rw [e1]
   have hd:m/2^n≤m:=Nat.div_le_self _ _
   have hc:(0:Int)≤((m/2^n:Nat):Int):=Int.natCast_nonneg _
   rw [c8 (by omega) (by omega)]
   have e2:Int.tmod ((m/2^n:Nat):Int) 2=((m/2^n%2:Nat):Int):=(Int.ofNat_tmod (m/2^n) 2).symm
   rw [e2,decide_eq_true (by omega),Bool.true_and,Int.toNat_natCast]
   congr 1
   rw [Nat.testBit_eq_decide_div_mod_eq,Bool.eq_iff_iff]
   simp only [beq_iff_eq,decide_eq_true_eq]
   omega
  ·rw [if_neg h1,decide_eq_false (by omega)];rfl
 ·rw [if_neg h0,decide_eq_false (by omega)];rfl
def ints (l:List Nat):List Int:=l.map Int.ofNat
theorem zo (l:List Nat) (i:Nat):(ints l)[i]? =(l[i]?).map Int.ofNat:=by simp [ints]
theorem cK (l:List Nat):(ints l).length=l.length:=by simp [ints]
theorem U9 (hk:Fu k) (ret:Int→Option S) (l:List Nat) (hl:l.length≤64) (h24: ∀x∈l,x<24): ∀ (d i m:Nat),i+d=l.length→d<m→mT k ret (ints l) m ((bS (l.take i):Nat):Int) (i:Int)=ret ((bS l:Nat):Int):=by
 have hbound: ∀i,bS (l.take i)≤64*8388608:=by
  intro i
  have h1:=Z0 (l.take i) fun x hx=>h24 x (List.mem_of_mem_take hx)
  have h2:(l.take i).length≤64:=by rw [List.length_take];omega
  exact Nat.le_trans h1 (Nat.mul_le_mul_right _ h2)
 intro d
 induction d with
 |zero=>
  intro i m h hm
  obtain ⟨m,rfl⟩: ∃q,m=q+1:=⟨m-1,by omega⟩
  simp only [mT,sS,aG,cK,ah hk]
  have hb:=hbound i
  have h64:64*8388608=536870912:=by decide
  rw [if_neg (by omega),iW _ (by omega),List.take_of_length_le (by omega)]
 |succ d ih=>
  intro i m h hm
  obtain ⟨m,rfl⟩: ∃q,m=q+1:=⟨m-1,by omega⟩
  simp only [mT,sS,aG,cK,ah hk]
  have hi:i<l.length:=by omega
  rw [if_pos (by omega),u_,zo,List.getElem?_eq_getElem hi]
  simp only [Option.map_some,Option.bind_some]
  have hx:=h24 _ (List.getElem_mem hi)
  have hb:=hbound i
  rw [show Int.ofNat l[i]=((l[i]:Nat):Int) from rfl,BD hk _ (by omega)]
  have hp:2^l[i]≤2^24:=Nat.pow_le_pow_right (by decide) (by omega)
  have h24:(2:Nat)^24=16777216:=by decide
  have hc:(0:Int)≤((2^l[i]:Nat):Int):=Int.natCast_nonneg _
  rw [c8 (by omega) (by omega),c8 (by omega) (by omega)]
  have e1:((bS (l.take i):Nat):Int)+((2^l[i]:Nat):Int)=((bS (l.take (i+1)):Nat):Int):=by
   rw [List.take_add_one,List.getElem?_eq_getElem hi]
   simp only [bS,List.map_append,Option.toList_some,List.map_cons,List.map_nil,List.sum_append,List.sum_cons,List.sum_nil]
   omega
  have e2:(i:Int)+1=((i+1:Nat):Int):=by simp
  rw [e1,e2]
  exact ih (i+1) m (by omega) (by omega)
theorem n1 (hk:Fu k) (l:List Nat) (hl:l.length≤64) (h24: ∀x∈l,x<24) (ret:Int→Option S):gw k (ints l) ret=ret ((bS l:Nat):Int):=by
 simp only [gw,Cg]
 have:=U9 hk ret l hl h24 l.length 0 k (by omega) (by omega)
 simpa [bS] using this
theorem U6 (hk:Fu k) (ret:List Int→Option S) {q:Nat} (hq:q<4294967296): ∀ (d i m:Nat),i+d=24→d<m→mS k ret (q:Int) m (ints ((List.range i).filter q.testBit)) (i:Int)=ret (ints (bz q)):=by
 intro d
 induction d with
 |zero=>
  intro i m h hm
  obtain ⟨m,rfl⟩: ∃q,m=q+1:=⟨m-1,by omega⟩
  have:i=24:=by omega
  subst this
  simp only [mS,sR,aG,ah hk]
  rw [if_neg (by omega)]
  rfl
 |succ d ih=>
  intro i m h hm
  obtain ⟨m,rfl⟩: ∃q,m=q+1:=⟨m-1,by omega⟩
  simp only [mS,sR,aG,ah hk]
  rw [if_pos (by omega),Kv hk hq,decide_eq_true (by omega),Bool.true_and,Int.toNat_natCast,c8 (by omega) (by omega)]
  have e2:(i:Int)+1=((i+1:Nat):Int):=by simp
  have hlen:(ints ((List.range i).filter q.testBit)).length≤24:=by
   rw [cK]
   have:=List.length_filter_le q.testBit (List.range i)
   rw [List.length_range] at this;omega
  rw [e2]
  cases hb:q.testBit i with
  |true=>
   rw [ad,aV (by simp;omega)]
   have:ints ((List.range i).filter q.testBit)++[(i:Int)]=ints ((List.range (i+1)).filter q.testBit):=by
    rw [List.range_succ,List.filter_append];simp [ints,hb]
   rw [this]
   exact ih (i+1) m (by omega) (by omega)
  |false=>
   rw [ac]
   have:ints ((List.range i).filter q.testBit)=ints ((List.range (i+1)).filter q.testBit):=by
    rw [List.range_succ,List.filter_append];simp [ints,hb]
   rw [this]
   exact ih (i+1) m (by omega) (by omega)
theorem nZ (hk:Fu k) {q:Nat} (hq:q<4294967296) (ret:List Int→Option S):gu k (q:Int) ret=ret (ints (bz q)):=by
 simp only [gu,Cf]
 have:=U6 hk ret hq 24 0 k (by omega) (by omega)
 simpa [ints] using this
theorem U_ (hk:Fu k) (ret:Int→Option S) (n:Int) (l:List Nat) (hl:l.length≤64) (h24: ∀x∈l,x<24): ∀ (d i m:Nat),i+d=l.length→d<m→
  mU k ret n (ints l) m (ints ((l.take i).filter fun x:Nat=> !((x:Int)==n))) (i:Int)=ret ((bS (l.filter fun x:Nat=> !((x:Int)==n)):Nat):Int):=by
 intro d
 induction d with
 |zero=>
  intro i m h hm
  obtain ⟨m,rfl⟩: ∃q,m=q+1:=⟨m-1,by omega⟩
  simp only [mU,sU,aG,cK,ah hk]
  rw [if_neg (by omega),List.take_of_length_le (by omega),n1 hk _ (Nat.le_trans (List.length_filter_le _ _) hl) fun x hx=>h24 x (List.mem_filter.1 hx).1]
 |succ d ih=>
  intro i m h hm
  obtain ⟨m,rfl⟩: ∃q,m=q+1:=⟨m-1,by omega⟩
  simp only [mU,sU,aG,cK,ah hk]
  have hi:i<l.length:=by omega
  rw [if_pos (by omega),u_,zo,List.getElem?_eq_getElem hi]
  simp only [Option.map_some,Option.bind_some]
  rw [c8 (n:=(i:Int)+1) (by omega) (by omega)]
  have e2:(i:Int)+1=((i+1:Nat):Int):=by simp
  rw [e2,show Int.ofNat l[i]=((l[i]:Nat):Int) from rfl]
  have et:(l.take (i+1)).filter (fun x:Nat=> !((x:Int)==n))=(l.take i).filter (fun x:Nat=> !((x:Int)==n))++(if !((l[i]:Int)==n) then [l[i]] else []):=by
   rw [List.take_add_one,List.getElem?_eq_getElem hi,List.filter_append]
   simp only [Option.toList_some,List.filter_cons,List.filter_nil]
  cases hb: !((l[i]:Int)==n) with
  |true=>
   rw [hb] at et
   rw [ad,aV]
   ·have:ints ((l.take i).filter fun x:Nat=> !((x:Int)==n))++[((l[i]:Nat):Int)]=ints ((l.take (i+1)).filter fun x:Nat=> !((x:Int)==n)):=by
     rw [et];simp [ints]
    rw [this]
    exact ih (i+1) m (by omega) (by omega)
   ·have h1:=List.length_filter_le (fun x:Nat=> !((x:Int)==n)) (l.take i)
    have h2:(l.take i).length≤64:=by rw [List.length_take];omega
    simp only [cK,List.length_cons,List.length_nil];omega
  |false=>
   rw [hb] at et
   rw [ac]
   have:ints ((l.take i).filter fun x:Nat=> !((x:Int)==n))=ints ((l.take (i+1)).filter fun x:Nat=> !((x:Int)==n)):=by
    rw [et];simp
   rw [this]
   exact ih (i+1) m (by omega) (by omega)
theorem rQ (hk:Fu k) {q:Nat} (hq:q<4294967296) (i:Int) (ret:Int→Option S):fg k (q:Int) i ret=ret (if 0≤i∧i<24 then ((cM (q&&&M24) (2^i.toNat):Nat):Int) else ((q&&&M24:Nat):Int)):=by
 simp only [fg,Ch,ah hk,nZ hk hq]
 have:=U_ hk ret i (bz q) (by have:=e_ q;omega) (fun x hx=>(mem_bitsN.1 hx).1) (bz q).length 0 k (by omega) (by have:=e_ q;omega)
 simp only [List.take_zero,List.filter_nil] at this
 have h0:(ints []:List Int)=[]:=rfl
 rw [h0] at this
 refine Eq.trans this ?_
 congr 1
 have hnd:((bz q).filter fun x:Nat=> !((x:Int)==i)).Nodup:=(lR q).filter _
 by_cases h:0≤i∧i<24
 ·rw [if_pos h]
  congr 1
  apply Nat.eq_of_testBit_eq
  intro j
  rw [lH _ hnd,iE,Nat.testBit_and,e9,Nat.testBit_two_pow,Bool.eq_iff_iff]
  simp only [decide_eq_true_eq,List.mem_filter,mem_bitsN,Bool.and_eq_true,Bool.not_eq_true',decide_eq_false_iff_not,beq_eq_false_iff_ne]
  constructor
  ·rintro ⟨⟨a,b⟩,c⟩;exact ⟨⟨b,a⟩,by omega⟩
  ·rintro ⟨⟨a,b⟩,c⟩;exact ⟨⟨b,a⟩,by omega⟩
 ·rw [if_neg h,←BB]
  congr 2
  rw [List.filter_eq_self]
  intro x hx
  have:=(mem_bitsN.1 hx).1
  simp only [Bool.not_eq_true',beq_eq_false_iff_ne]
  omega
theorem aaf (hk:Fu k) {q:Nat} (hq:q<4294967296) (i:Int) (ret:Int→Option S):pG k (q:Int) i ret=ret (if 0≤i∧i<24 then (((q&&&M24)|||2^i.toNat:Nat):Int) else ((q&&&M24:Nat):Int)):=by
 simp only [pG,Lz,aG,ah hk]
 have hq24:q&&&M24<4294967296:=ov (n:=32) hq
 by_cases h0:i<0
 ·rw [if_pos h0,rQ hk hq,if_neg (by omega),if_neg (by omega)]
 ·rw [if_neg h0]
  by_cases h1:i≥24
  ·rw [if_pos h1,rQ hk hq,if_neg (by omega),if_neg (by omega)]
  ·rw [if_neg h1,rQ hk hq,if_pos (by omega),if_pos (by omega)]
   obtain ⟨n,rfl⟩: ∃n:Nat,i=n:=⟨i.toNat,by omega⟩
   have hw:cM (q&&&M24) (2^n)<4294967296:=q_ (n:=32) hq24
   rw [Int.toNat_natCast,nZ hk hw,aV (by rw [cK];have:=e_ (cM (q&&&M24) (2^n));simp;omega)]
   have e:ints (bz (cM (q&&&M24) (2^n)))++[(n:Int)]=ints (bz (cM (q&&&M24) (2^n))++[n]):=by simp [ints]
   rw [e,n1 hk _ (by have:=e_ (cM (q&&&M24) (2^n));simp;omega) (fun x hx=>by
    rcases List.mem_append.1 hx with hx|hx
    ·exact (mem_bitsN.1 hx).1
    ·simp at hx;omega)]
   congr 2
   apply Nat.eq_of_testBit_eq
   intro j
   rw [lH]
   ·rw [Nat.testBit_or,Nat.testBit_and,e9,Nat.testBit_two_pow,Bool.eq_iff_iff]
    simp only [decide_eq_true_eq,List.mem_append,List.mem_singleton,mem_bitsN,iE,Nat.testBit_and,e9,Nat.testBit_two_pow,Bool.and_eq_true,Bool.or_eq_true,Bool.not_eq_true',decide_eq_false_iff_not]
    constructor
    ·rintro (⟨a,⟨b,c⟩,d⟩|a)
     ·exact .inl ⟨b,c⟩
     ·exact .inr a.symm
    ·rintro (⟨a,b⟩|a)
     ·by_cases hj:n=j
      ·exact .inr hj.symm
      ·exact .inl ⟨b,⟨a,b⟩,hj⟩
     ·exact .inr a.symm
   ·rw [List.nodup_append]
    refine ⟨lR _,by simp,fun a ha b hb=> ?_⟩
    simp at hb
    subst hb
    rintro rfl
    have:=(mem_bitsN.1 ha).2
    rw [iE,Nat.testBit_two_pow] at this
    simp at this
end Go.Proofs.YtapmagaejigpnaaGreatDoor
namespace Go.Proofs.YtapmagaejigpnaaGreatDoor
open Go PI
set_option linter.unusedVariables false
set_option linter.unusedSimpArgs false
set_option maxRecDepth 20000
variable {S:Type} {k:Nat}
theorem qn {α:Type} (p r:List α) (x:α):al (p++x::r) (p.length:Int)=some x:=by simp [al]
theorem Kp {α:Type} (p r:List α) (x y:α):(p++x::r).set p.length y=(p++[y])++r:=by simp
theorem abz (p r:List Nat):ints (p++r)=ints p++ints r:=by simp [ints]
theorem lS {m:Nat} (h:m<16777216) {j:Nat} (hj:m.testBit j=true):j<24:=by
 apply Classical.byContradiction
 intro hn
 have:m<2^j:=Nat.lt_of_lt_of_le h (Nat.pow_le_pow_right (n:=2) (i:=24) (j:=j) (by decide) (by omega))
 rw [Nat.testBit_lt_two_pow this] at hj;cases hj
theorem Fr (m:Nat):m<16777216↔ ∀j,m.testBit j=true→j<24:=by
 constructor
 ·intro h j hj;exact lS h hj
 ·intro h
  apply Nat.lt_pow_two_of_testBit (n:=24)
  intro i hi
  cases hb:m.testBit i with
  |false=>rfl
  |true=>have:=h i hb;omega
def cv (n b x:Nat):Nat:=if x<n then x else x+b
theorem U5 (hk:Fu k) (ret:Int×Int→Option S) (n b:Nat) (hn:n<9223372036854775808) (hb:b<9223372036854775808):
  ∀ (r p:List Nat) (m:Nat),(p++r).length≤24→(∀x∈r,x<24)→r.length<m→(∀x∈p,x<24)→
  kS k ret (n:Int) (b:Int) m (ints (p++r)) (p.length:Int)=
   if (∃x∈r,n≤x∧24≤x+b) then ret (0,10) else ret (((bS (p++r.map (cv n b)):Nat):Int),0):=by
 intro r
 induction r with
 |nil=>
  intro p m hl h24 hm hp
  obtain ⟨m,rfl,hm⟩:=ak hm
  simp only [kS,sQ,aG,cK,ah hk]
  rw [List.append_nil,if_neg (by omega),if_neg (by simp),List.map_nil,List.append_nil]
  rw [List.append_nil] at hl
  exact n1 hk p (by omega) hp _
 |cons x r ih=>
  intro p m hl h24 hm hp
  obtain ⟨m,rfl,hm⟩:=ak hm
  have hx:=h24 x (by simp)
  have hl':p.length+(r.length+1)≤24:=by simpa using hl
  have e0:ints (p++x::r)=ints p++(x:Int)::ints r:=by simp [ints]
  have el:(p.length:Int)=((ints p).length:Int):=by rw [cK]
  simp only [kS,sQ,aG,ah hk]
  rw [if_pos (by rw [cK,List.length_append,List.length_cons];omega),e0,el,qn]
  simp only [Option.bind_some]
  have ew:IntKind.wrap .i64 (((ints p).length:Int)+1)=(((p++[x]).length:Nat):Int):=by
   rw [cK,c8 (by omega) (by omega)];simp
  have key: ∀y:Nat,y<24→kS k ret (n:Int) (b:Int) m (ints p++(y:Int)::ints r) (((p++[x]).length:Nat):Int)=if (∃x∈r,n≤x∧24≤x+b) then ret (0,10) else ret (((bS ((p++[y])++r.map (cv n b)):Nat):Int),0):=by
   intro y hy
   have:=ih (p++[y]) m (by simpa using hl') (fun z hz=>h24 z (by simp [hz])) (by simpa using hm) (by
    intro z hz
    rcases List.mem_append.1 hz with hz|hz
    ·exact hp z hz
    ·simp at hz;omega)
   rw [←this]
   congr 1
   ·simp [ints]
   ·simp
  rw [ew]
  by_cases hxn:x<n
  ·rw [if_pos (by omega),key x hx]
   have e1:cv n b x=x:=by unfold cv;rw [if_pos hxn]
   have e2:(∃z∈x::r,n≤z∧24≤z+b)↔(∃z∈r,n≤z∧24≤z+b):=by
    constructor
    ·rintro ⟨z,hz,h1,h2⟩
     rcases List.mem_cons.1 hz with rfl|hz
     ·omega
     ·exact ⟨z,hz,h1,h2⟩
    ·rintro ⟨z,hz,h⟩;exact ⟨z,by simp [hz],h⟩
   simp only [e2,List.map_cons,e1,List.append_assoc,List.singleton_append]
  ·rw [if_neg (by omega),c8 (n:=24-(x:Int)) (by omega) (by omega)]
   by_cases hby:24≤x+b
   ·rw [if_pos (by omega),if_pos ⟨x,by simp,by omega,hby⟩]
   ·rw [if_neg (by omega),c8 (n:=(x:Int)+(b:Int)) (by omega) (by omega),Int.toNat_natCast]
    have e3:(x:Int)+(b:Int)=((x+b:Nat):Int):=by simp
    rw [e3,Kp,List.append_assoc,List.singleton_append,key (x+b) (by omega)]
    have e1:cv n b x=x+b:=by unfold cv;rw [if_neg hxn]
    have e2:(∃z∈x::r,n≤z∧24≤z+b)↔(∃z∈r,n≤z∧24≤z+b):=by
     constructor
     ·rintro ⟨z,hz,h1,h2⟩
      rcases List.mem_cons.1 hz with rfl|hz
      ·omega
      ·exact ⟨z,hz,h1,h2⟩
     ·rintro ⟨z,hz,h⟩;exact ⟨z,by simp [hz],h⟩
    simp only [e2,List.map_cons,e1,List.append_assoc,List.singleton_append]
theorem Dk (n j:Nat):(2^min n 24-1).testBit j=decide (j<n∧j<24):=by
 rw [Nat.testBit_two_pow_sub_one,Bool.eq_iff_iff];simp;omega
theorem ya (m n j:Nat):(eO m n).testBit j=(m.testBit j&&decide (j<n∧j<24)):=by
 rw [eO,Nat.testBit_and,Nat.testBit_and,e9,Dk,Bool.eq_iff_iff]
 simp only [Bool.and_eq_true,decide_eq_true_eq]
 constructor
 ·rintro ⟨⟨a,b⟩,c,d⟩;exact ⟨a,c,d⟩
 ·rintro ⟨a,c,d⟩;exact ⟨⟨a,d⟩,c,d⟩
theorem Dl (m n j:Nat):(co m n).testBit j=(m.testBit j&&decide (n≤j∧j<24)):=by
 rw [co,iE,Nat.testBit_and,e9,Dk,Bool.eq_iff_iff]
 simp only [Bool.and_eq_true,Bool.not_eq_true',decide_eq_true_eq,decide_eq_false_iff_not]
 constructor
 ·rintro ⟨⟨a,b⟩,c⟩;exact ⟨a,by omega,b⟩
 ·rintro ⟨a,b,c⟩;exact ⟨⟨a,c⟩,by omega⟩
theorem zJ (m n b:Nat):dz m n b=if (∃x∈bz m,n≤x∧24≤x+b) then (0,10) else (bS ((bz m).map (cv n b)),0):=by
 have hnd:((bz m).map (cv n b)).Nodup:=by
  have: ∀x y,cv n b x=cv n b y→x=y:=by
   intro x y h;unfold cv at h;split at h<;>split at h<;>omega
  exact List.Pairwise.map (S:=fun a b=>a≠b) (R:=fun a b=>a≠b) _ (fun x y hxy h=>hxy (this x y h)) (lR m)
 have hset: ∀j,(bS ((bz m).map (cv n b))).testBit j=((eO m n).testBit j||(decide (b≤j)&&(co m n).testBit (j-b))):=by
  intro j
  rw [lH _ hnd,ya,Dl,Bool.eq_iff_iff]
  simp only [decide_eq_true_eq,List.mem_map,mem_bitsN,Bool.or_eq_true,Bool.and_eq_true]
  constructor
  ·rintro ⟨x,⟨h1,h2⟩,rfl⟩
   unfold cv
   split
   ·exact .inl ⟨h2,by omega,h1⟩
   ·refine .inr ⟨by omega, ?_,by omega,by omega⟩
    rw [show x+b-b=x by omega];exact h2
  ·rintro (⟨h1,h2,h3⟩|⟨h1,h2,h3,h4⟩)
   ·exact ⟨j,⟨h3,h1⟩,by unfold cv;rw [if_pos h2]⟩
   ·exact ⟨j-b,⟨h4,h2⟩,by unfold cv;rw [if_neg (by omega)];omega⟩
 have hhigh: ∀j,(co m n).testBit j=true↔(j∈bz m∧n≤j):=by
  intro j
  rw [Dl,mem_bitsN];simp;constructor
  ·rintro ⟨a,b,c⟩;exact ⟨⟨c,a⟩,b⟩
  ·rintro ⟨⟨a,b⟩,c⟩;exact ⟨b,c,a⟩
 unfold dz
 by_cases h0:co m n=0
 ·rw [if_pos h0,if_neg]
  ·congr 1
   apply Nat.eq_of_testBit_eq
   intro j
   rw [hset,h0,Nat.zero_testBit,Bool.and_false,Bool.or_false]
  ·rintro ⟨x,h1,h2,h3⟩
   have:=(hhigh x).2 ⟨h1,h2⟩
   rw [h0,Nat.zero_testBit] at this;cases this
 ·rw [if_neg h0]
  have hex: ∃j,(co m n).testBit j=true:=by
   apply Classical.byContradiction
   intro hne
   apply h0
   apply Nat.eq_of_testBit_eq
   intro j
   rw [Nat.zero_testBit]
   cases hb:(co m n).testBit j with
   |false=>rfl
   |true=>exact absurd ⟨j,hb⟩ hne
  have hmul: ∀j,(co m n*2^b).testBit j=(decide (b≤j)&&(co m n).testBit (j-b)):=by
   intro j;rw [Nat.testBit_mul_two_pow]
  by_cases h24:24≤b
  ·rw [if_pos h24]
   obtain ⟨j,hj⟩:=hex
   have:=(hhigh j).1 hj
   rw [if_pos ⟨j,this.1,this.2,by omega⟩]
  ·rw [if_neg h24]
   have hlt:=Fr (co m n*2^b)
   by_cases hg:co m n*2^b>16777215
   ·rw [if_pos hg,if_pos]
    apply Classical.byContradiction
    intro hne
    have:co m n*2^b<16777216:=hlt.2 fun j hj=>by
     rw [hmul] at hj
     simp only [Bool.and_eq_true,decide_eq_true_eq] at hj
     have h1:=(hhigh _).1 hj.2
     apply Classical.byContradiction
     intro h2
     exact hne ⟨j-b,h1.1,h1.2,by omega⟩
    omega
   ·rw [if_neg hg,if_neg]
    ·congr 1
     apply Nat.eq_of_testBit_eq
     intro j
     rw [hset,Nat.testBit_or,hmul]
    ·rintro ⟨x,h1,h2,h3⟩
     have hx:(co m n*2^b).testBit (x+b)=true:=by
      rw [hmul,decide_eq_true (by omega),Bool.true_and,show x+b-b=x by omega]
      exact (hhigh x).2 ⟨h1,h2⟩
     have:=hlt.1 (by omega) _ hx
     omega
theorem aad (hk:Fu k) {m:Nat} (hm:m<4294967296) (n b:Nat) (hn:n<9223372036854775808) (hb:b<9223372036854775808) (ret:Int×Int→Option S):
  jg k (m:Int) (n:Int) (b:Int) ret=ret (((dz m n b).1:Int),((dz m n b).2:Int)):=by
 simp only [jg,rU,aG,ah hk]
 rw [if_neg (by omega),if_neg (by omega),nZ hk hm]
 have:=U5 hk ret n b hn hb (bz m) [] k (by have:=e_ m;simpa using this) (fun x hx=>(mem_bitsN.1 hx).1) (by have:=e_ m;have:4294967296≤k:=hk;omega) (by simp)
 simp only [List.nil_append] at this
 refine Eq.trans this ?_
 rw [zJ]
 split<;>rfl
def hY (m:Nat) (i:Int):Nat:=if 0≤i∧i<24 then eO m i.toNat|||((m&&&M24)/2^(i.toNat+1)*2^i.toNat) else m&&&M24
theorem Z7 (hk:Fu k) {m:Nat} (hm:m<4294967296) (i:Int) (ret:Int→Option S):ma k (m:Int) i ret=ret ((hY m i:Nat):Int):=by
 simp only [ma,Lq,wD hk,ah hk]
 have hand:aS .and .u32 (m:Int) 16777215=((m&&&M24:Nat):Int):=i8 hm (by decide:(16777215:Nat)<4294967296)
 have hlt:m&&&M24<16777216:=Nat.lt_of_le_of_lt Nat.and_le_right (by decide)
 rw [hand]
 unfold hY
 by_cases h:0≤i∧i<24
 ·obtain ⟨n,rfl⟩: ∃n:Nat,i=n:=⟨i.toNat,by omega⟩
  have hn:n<24:=by omega
  rw [decide_eq_true h,if_pos h,Bool.not_true,ac,Ku hk n (by omega)]
  have e1:(n:Int)+1=((n+1:Nat):Int):=by simp
  rw [c8 (by omega) (by omega),e1,fA _ (by omega),fA _ (by omega),gi _ (by omega),gi _ (by omega)]
  rw [Int.toNat_natCast,Int.toNat_natCast,Nat.min_eq_left (show n+1≤32 by omega),Nat.min_eq_left (show n≤32 by omega),za,lV]
  have hb:2^min n 24-1<4294967296:=by
   have:2^min n 24≤2^24:=Nat.pow_le_pow_right (by decide) (by omega)
   have h24:(2:Nat)^24=16777216:=by decide
   omega
  have hq:(m&&&M24)/2^(n+1)*2^n≤m&&&M24:=by
   have h1:(m&&&M24)/2^(n+1)*2^(n+1)≤m&&&M24:=Nat.div_mul_le_self _ _
   have h2:2^n≤2^(n+1):=Nat.pow_le_pow_right (by decide) (by omega)
   exact Nat.le_trans (Nat.mul_le_mul_left _ h2) h1
  have ec:((((m&&&M24)/2^(n+1):Nat):Int))*((2^n:Nat):Int)=(((m&&&M24)/2^(n+1)*2^n:Nat):Int):=by simp
  rw [ec,iW _ (by omega),i8 (by omega) hb]
  have hlow:eO m n<4294967296:=by have:eO m n≤m&&&M24:=Nat.and_le_left;omega
  show ret (aS .or .u32 ((eO m n:Nat):Int) _)=_
  rw [sh hlow (by omega)]
 ·rw [decide_eq_false h,if_neg h];rfl
def dO (i:Int) (x:Nat):Nat:=if 0≤i∧i<(x:Int) then x-1 else x
theorem U3 (hk:Fu k) (ret:Int→Option S) (i:Int):
  ∀ (r p:List Nat) (m:Nat),(p++r).length≤24→(∀x∈r,x<24)→r.length<m→(∀x∈p,x<24)→
  kR k ret i m (ints (p++r)) (p.length:Int)=ret ((bS (p++r.map (dO i)):Nat):Int):=by
 intro r
 induction r with
 |nil=>
  intro p m hl h24 hm hp
  obtain ⟨m,rfl,hm⟩:=ak hm
  simp only [kR,sP,aG,cK,ah hk]
  rw [List.append_nil,if_neg (by omega),List.map_nil,List.append_nil]
  rw [List.append_nil] at hl
  exact n1 hk p (by omega) hp _
 |cons x r ih=>
  intro p m hl h24 hm hp
  obtain ⟨m,rfl,hm⟩:=ak hm
  have hx:=h24 x (by simp)
  have hl':p.length+(r.length+1)≤24:=by simpa using hl
  have e0:ints (p++x::r)=ints p++(x:Int)::ints r:=by simp [ints]
  have el:(p.length:Int)=((ints p).length:Int):=by rw [cK]
  simp only [kR,sP,aG,ah hk]
  rw [if_pos (by rw [cK,List.length_append,List.length_cons];omega),e0,el,qn]
  simp only [Option.bind_some]
  have ew:IntKind.wrap .i64 (((ints p).length:Int)+1)=(((p++[x]).length:Nat):Int):=by
   rw [cK,c8 (by omega) (by omega)];simp
  have key: ∀y:Nat,y<24→kR k ret i m (ints p++(y:Int)::ints r) (((p++[x]).length:Nat):Int)=ret ((bS ((p++[y])++r.map (dO i)):Nat):Int):=by
   intro y hy
   have:=ih (p++[y]) m (by simpa using hl') (fun z hz=>h24 z (by simp [hz])) (by simpa using hm) (by
    intro z hz
    rcases List.mem_append.1 hz with hz|hz
    ·exact hp z hz
    ·simp at hz;omega)
   rw [←this]
   congr 1
   ·simp [ints]
   ·simp
  rw [ew]
  by_cases hi:i≥0
  ·rw [if_pos hi]
   by_cases hxi:(x:Int)>i
   ·rw [if_pos hxi,c8 (n:=(x:Int)-1) (by omega) (by omega),Int.toNat_natCast]
    have e3:(x:Int)-1=((x-1:Nat):Int):=by omega
    have e1:dO i x=x-1:=by unfold dO;rw [if_pos ⟨hi,hxi⟩]
    rw [e3,Kp,List.append_assoc,List.singleton_append,key (x-1) (by omega),List.map_cons,e1,List.append_assoc,List.singleton_append]
   ·have e1:dO i x=x:=by unfold dO;rw [if_neg (by omega)]
    rw [if_neg hxi,key x hx,List.map_cons,e1,List.append_assoc,List.singleton_append]
  ·have e1:dO i x=x:=by unfold dO;rw [if_neg (by omega)]
   rw [if_neg hi,key x hx,List.map_cons,e1,List.append_assoc,List.singleton_append]
theorem RE (m:Nat) (i:Int):hY m i=bS ((bz (if 0≤i∧i<24 then cM (m&&&M24) (2^i.toNat) else m&&&M24)).map (dO i)):=by
 unfold hY
 by_cases h:0≤i∧i<24
 ·rw [if_pos h,if_pos h]
  obtain ⟨n,rfl⟩: ∃n:Nat,i=n:=⟨i.toNat,by omega⟩
  have hn:n<24:=by omega
  rw [Int.toNat_natCast]
  have hmem: ∀j,j∈bz (cM (m&&&M24) (2^n))↔(j<24∧m.testBit j=true∧j≠n):=by
   intro j
   rw [mem_bitsN,iE,Nat.testBit_and,e9,Nat.testBit_two_pow]
   simp only [Bool.and_eq_true,Bool.not_eq_true',decide_eq_true_eq,decide_eq_false_iff_not]
   constructor
   ·rintro ⟨a,⟨b,c⟩,d⟩;exact ⟨a,b,fun e=>d e.symm⟩
   ·rintro ⟨a,b,c⟩;exact ⟨a,⟨b,a⟩,fun e=>c e.symm⟩
  have hnd:((bz (cM (m&&&M24) (2^n))).map (dO n)).Nodup:=by
   rw [List.nodup_iff_pairwise_ne,List.pairwise_map]
   refine List.Pairwise.imp_of_mem (fun {x y} hx hy hxy h=>hxy ?_) (lR _)
   have h1:=(hmem x).1 hx;have h2:=(hmem y).1 hy
   have h3:=h1.2.2;have h4:=h2.2.2
   unfold dO at h;split at h<;>split at h<;>omega
  apply Nat.eq_of_testBit_eq
  intro j
  rw [lH _ hnd,Nat.testBit_or,ya,Nat.testBit_mul_two_pow,Nat.testBit_div_two_pow,Nat.testBit_and,e9,Bool.eq_iff_iff]
  simp only [Bool.or_eq_true,Bool.and_eq_true,decide_eq_true_eq,List.mem_map,hmem]
  constructor
  ·rintro (⟨a,b,c⟩|⟨a,b,c⟩)
   ·exact ⟨j,⟨c,a,by omega⟩,by unfold dO;rw [if_neg (by omega)]⟩
   ·refine ⟨j+1,⟨by omega, ?_,by omega⟩,by unfold dO;rw [if_pos (by omega)];omega⟩
    rw [show j+1=j-n+(n+1) by omega];exact b
  ·rintro ⟨x,⟨a,b,c⟩,rfl⟩
   unfold dO
   split
   ·refine .inr ⟨by omega, ?_,by omega⟩
    rw [show x-1-n+(n+1)=x by omega];exact b
   ·exact .inl ⟨b,by omega,a⟩
 ·rw [if_neg h,if_neg h]
  have e:(bz (m&&&M24)).map (dO i)=bz (m&&&M24):=by
   conv=>rhs;rw [←List.map_id (bz (m&&&M24))]
   apply List.map_congr_left
   intro x hx
   have:=(mem_bitsN.1 hx).1
   unfold dO
   rw [if_neg (by omega)];rfl
  rw [e,BB,Nat.and_assoc,Nat.and_self]
theorem aac (hk:Fu k) {m:Nat} (hm:m<4294967296) (i:Int) (ret:Int→Option S):md k (m:Int) i ret=ret ((hY m i:Nat):Int):=by
 simp only [md,Ce,ah hk,rQ hk hm]
 have hlt:m&&&M24<4294967296:=Nat.lt_of_le_of_lt Nat.and_le_right (by decide)
 have e:(if 0≤i∧i<24 then ((cM (m&&&M24) (2^i.toNat):Nat):Int) else ((m&&&M24:Nat):Int))=(((if 0≤i∧i<24 then cM (m&&&M24) (2^i.toNat) else m&&&M24):Nat):Int):=by split<;>rfl
 have hq:(if 0≤i∧i<24 then cM (m&&&M24) (2^i.toNat) else m&&&M24)<4294967296:=by
  split
  ·exact q_ (n:=32) hlt
  ·exact hlt
 rw [e,nZ hk hq,RE]
 generalize (if 0≤i∧i<24 then cM (m&&&M24) (2^i.toNat) else m&&&M24)=q at hq ⊢
 have:=U3 hk ret i (bz q) [] k (by have:=e_ q;simpa using this) (fun x hx=>(mem_bitsN.1 hx).1) (by have:=e_ q;have:4294967296≤k:=hk;omega) (by simp)
 simpa using this
end Go.Proofs.YtapmagaejigpnaaGreatDoor
namespace Go.Proofs.YtapmagaejigpnaaGreatDoor
open Go PI
set_option linter.unusedVariables false
set_option linter.unusedSimpArgs false
set_option maxRecDepth 20000
variable {S:Type} {k:Nat}
def aD (n:Int):Prop:= -9223372036854775808≤n∧n<9223372036854775808
def iN (s:Int):Bool:=decide (s<16777216)
def bt (s i:Int):Bool:=decide (0≤i∧i<24)&&s.toNat.testBit i.toNat
def dL (s i:Int):Int:=if 0≤i∧i<24 then (((s.toNat&&&M24)|||2^i.toNat:Nat):Int) else ((s.toNat&&&M24:Nat):Int)
def cO (s i:Int):Int:=if 0≤i∧i<24 then ((cM (s.toNat&&&M24) (2^i.toNat):Nat):Int) else ((s.toNat&&&M24:Nat):Int)
def ep (s:Int):List Int:=ints (bz s.toNat)
def bV (s i b:Int):Int×Int:=if i<0∨b<0 then (0,2) else (((dz s.toNat i.toNat b.toNat).1:Int),((dz s.toNat i.toNat b.toNat).2:Int))
def mr (s i:Int):Int:=((hY s.toNat i:Nat):Int)
theorem Jj (m:Nat):iN (m:Int)=decide (m<16777216):=by
 unfold iN;rw [Bool.eq_iff_iff,decide_eq_true_iff,decide_eq_true_iff];omega
theorem JJ (hk:Fu k) {s:Int} (h:U32 s) (ret:Bool→Option S):mb k s ret=ret (iN s):=by
 obtain ⟨m,hm,rfl⟩:=h.nat
 rw [Z_ hk hm,Jj]
theorem Kh (hk:Fu k) {s:Int} (h:U32 s) (ret:Bool→Option S):me k s ret=ret (iN s):=by
 obtain ⟨m,hm,rfl⟩:=h.nat
 rw [aae hk hm,Jj]
theorem nW (hk:Fu k) {s:Int} (h:U32 s) (i:Int) (ret:Bool→Option S):fJ k s i ret=ret (bt s i):=by
 obtain ⟨m,hm,rfl⟩:=h.nat
 rw [Z8 hk hm];rfl
theorem gc (hk:Fu k) {s:Int} (h:U32 s) (i:Int) (ret:Bool→Option S):du k s i ret=ret (bt s i):=by
 obtain ⟨m,hm,rfl⟩:=h.nat
 rw [Kv hk hm];rfl
theorem rI (hk:Fu k) {s:Int} (h:U32 s) (i:Int) (ret:Int→Option S):gr k s i ret=ret (dL s i):=by
 obtain ⟨m,hm,rfl⟩:=h.nat
 rw [aaa hk hm];rfl
theorem ZM (hk:Fu k) {s:Int} (h:U32 s) (i:Int) (ret:Int→Option S):pG k s i ret=ret (dL s i):=by
 obtain ⟨m,hm,rfl⟩:=h.nat
 rw [aaf hk hm];rfl
theorem rJ (hk:Fu k) {s:Int} (h:U32 s) (i:Int) (ret:Int→Option S):hU k s i ret=ret (cO s i):=by
 obtain ⟨m,hm,rfl⟩:=h.nat
 rw [aab hk hm];rfl
theorem ww (hk:Fu k) {s:Int} (h:U32 s) (i:Int) (ret:Int→Option S):fg k s i ret=ret (cO s i):=by
 obtain ⟨m,hm,rfl⟩:=h.nat
 rw [rQ hk hm];rfl
theorem ZG (hk:Fu k) {s:Int} (h:U32 s) (ret:List Int→Option S):gu k s ret=ret (ep s):=by
 obtain ⟨m,hm,rfl⟩:=h.nat
 rw [nZ hk hm];rfl
theorem GP {s:Int} (h:U32 s):nB s=ep s:=by
 obtain ⟨m,hm,rfl⟩:=h.nat
 have: ∀i:Nat,(BitVec.ofInt 32 (m:Int)).getLsbD i=m.testBit i:=by
  intro i;rw [BitVec.getLsbD,ko hm]
 unfold nB ep ints bz
 simp only [this];rfl
theorem JH (hk:Fu k) {s i b:Int} (h:U32 s) (hi:aD i) (hb:aD b) (ret:Int×Int→Option S):jf k s i b ret=ret (bV s i b):=by
 obtain ⟨m,hm,rfl⟩:=h.nat
 by_cases h1:i<0
 ·simp only [jf,wG,aG,bV];rw [if_pos h1,if_pos (.inl h1)]
 by_cases h2:b<0
 ·simp only [jf,wG,aG,bV];rw [if_neg h1,if_pos h2,if_pos (.inr h2)]
 obtain ⟨n,rfl⟩: ∃n:Nat,i=n:=⟨i.toNat,by omega⟩
 obtain ⟨c,rfl⟩: ∃n:Nat,b=n:=⟨b.toNat,by omega⟩
 have:=hi.2;have:=hb.2
 rw [Z9 hk hm n c (by omega) (by omega),bV,if_neg (by omega)];rfl
theorem Ke (hk:Fu k) {s i b:Int} (h:U32 s) (hi:aD i) (hb:aD b) (ret:Int×Int→Option S):jg k s i b ret=ret (bV s i b):=by
 obtain ⟨m,hm,rfl⟩:=h.nat
 by_cases h1:i<0
 ·simp only [jg,rU,aG,bV];rw [if_pos h1,if_pos (.inl h1)]
 by_cases h2:b<0
 ·simp only [jg,rU,aG,bV];rw [if_neg h1,if_pos h2,if_pos (.inr h2)]
 obtain ⟨n,rfl⟩: ∃n:Nat,i=n:=⟨i.toNat,by omega⟩
 obtain ⟨c,rfl⟩: ∃n:Nat,b=n:=⟨b.toNat,by omega⟩
 have:=hi.2;have:=hb.2
 rw [aad hk hm n c (by omega) (by omega),bV,if_neg (by omega)];rfl
theorem JG (hk:Fu k) {s:Int} (h:U32 s) (i:Int) (ret:Int→Option S):ma k s i ret=ret (mr s i):=by
 obtain ⟨m,hm,rfl⟩:=h.nat
 rw [Z7 hk hm];rfl
theorem Kd (hk:Fu k) {s:Int} (h:U32 s) (i:Int) (ret:Int→Option S):md k s i ret=ret (mr s i):=by
 obtain ⟨m,hm,rfl⟩:=h.nat
 rw [aac hk hm];rfl
theorem yh (hk:Fu k) (ret:Int→Option S):je k 0 ret=ret 0:=by
 simp only [je,Cc,ah hk];rfl
theorem yi (hk:Fu k) (ret:Int→Option S): ∀n:Nat,n<24→je k ((2^n:Nat):Int) ret=ret 1:=by
 simp only [je,Cc,ah hk]
 intro n hn
 match n,hn with
 |0,_|1,_|2,_|3,_|4,_|5,_|6,_|7,_|8,_|9,_|10,_|11,_|12,_|13,_|14,_|15,_|16,_|17,_|18,_|19,_|20,_|21,_|22,_|23,_=>rfl
 |n+24,h=>omega
theorem rZ (i:Int):dL 0 i=if 0≤i∧i<24 then ((2^i.toNat:Nat):Int) else 0:=by
 unfold dL
 split
 ·simp
 ·rfl
theorem Y5 (hk:Fu k) (i:Int) (ret:Bool→Option S):tQ k i ret=ret (decide (0≤i∧i<24)):=by
 simp only [tQ,KO,ah hk,rI hk (s:=0) ⟨by omega,by omega⟩,rZ]
 split
 ·next h=>rw [yi hk _ _ (by omega),decide_eq_true h];rfl
 ·next h=>rw [yh hk,decide_eq_false h];rfl
theorem Y6 (hk:Fu k) (i:Int) (ret:Bool→Option S):tY k i ret=ret (decide (0≤i∧i<24)):=by
 simp only [tY,K5,ah hk,rI hk (s:=0) ⟨by omega,by omega⟩,rZ]
 split
 ·next h=>rw [yi hk _ _ (by omega),decide_eq_true h];rfl
 ·next h=>rw [yh hk,decide_eq_false h];rfl
theorem U32.of {n:Nat} (h:n<4294967296):U32 (n:Int):=⟨by omega,by omega⟩
theorem withS_lt {s i:Int}:0≤dL s i∧dL s i<16777216:=by
 have h1:s.toNat&&&M24<16777216:=Nat.lt_of_le_of_lt Nat.and_le_right (by decide)
 unfold dL
 split
 ·next h=>
  have hp:2^i.toNat<2^24:=Nat.pow_lt_pow_right (by decide) (by omega)
  have:=Nat.or_lt_two_pow (n:=24) h1 hp
  have h24:(2:Nat)^24=16777216:=by decide
  omega
 ·omega
theorem withoutS_lt {s i:Int}:0≤cO s i∧cO s i<16777216:=by
 have h1:s.toNat&&&M24<16777216:=Nat.lt_of_le_of_lt Nat.and_le_right (by decide)
 unfold cO
 split
 ·have:=q_ (n:=24) (b:=2^i.toNat) h1
  have h24:(2:Nat)^24=16777216:=by decide
  omega
 ·omega
theorem RG (m:Nat) (i:Int):hY m i<16777216:=by
 have h1:m&&&M24<16777216:=Nat.lt_of_le_of_lt Nat.and_le_right (by decide)
 unfold hY
 split
 ·rw [Fr]
  intro j hj
  rw [Nat.testBit_or,ya,Nat.testBit_mul_two_pow,Nat.testBit_div_two_pow,Nat.testBit_and,e9] at hj
  simp only [Bool.or_eq_true,Bool.and_eq_true,decide_eq_true_eq] at hj
  omega
 ·exact h1
deriving instance DecidableEq for Cl
theorem Cl.ext' {a b:Cl} (h1:a.pos=b.pos) (h2:a.neg=b.neg):a=b:=by cases a;cases b;cases h1;cases h2;rfl
theorem g6 (a b:Cl):((a.pos==b.pos)&&((a.neg==b.neg)&&true))=decide (a=b):=by
 rw [Bool.eq_iff_iff]
 simp only [Bool.and_true,Bool.and_eq_true,beq_iff_eq,decide_eq_true_eq]
 exact ⟨fun h=>Cl.ext' h.1 h.2,fun h=>h▸⟨rfl,rfl⟩⟩
def aH (c:Cl):Prop:=U32 c.pos∧U32 c.neg
def am (f:List Cl):Prop:= ∀c∈f,aH c
def cu (c:Cl):Bool:=iN c.pos&&iN c.neg
def RC (c:Cl):Prop:=(0≤c.pos∧c.pos<16777216)∧(0≤c.neg∧c.neg<16777216)
theorem RC.ok {c:Cl} (h:RC c):aH c:=⟨⟨h.1.1,by have:=h.1.2;omega⟩,⟨h.2.1,by have:=h.2.2;omega⟩⟩
theorem wj {c:Cl} (h:aH c):cu c=true↔RC c:=by
 unfold cu iN RC
 simp only [Bool.and_eq_true,decide_eq_true_eq]
 have h1:=h.1.1;have h2:=h.2.1
 constructor
 ·rintro ⟨a,b⟩;exact ⟨⟨h1,a⟩,h2,b⟩
 ·rintro ⟨a,b⟩;exact ⟨a.2,b.2⟩
def dj (a b:Int):Int:=((a.toNat|||b.toNat:Nat):Int)
theorem nG {a b:Int} (ha:U32 a) (hb:U32 b):aS .or .u32 a b=dj a b:=by
 obtain ⟨m,hm,rfl⟩:=ha.nat;obtain ⟨n,hn,rfl⟩:=hb.nat
 rw [sh hm hn];rfl
def ck (a b:Cl):Cl:=⟨dj a.pos b.pos,dj a.neg b.neg⟩
def cE (a b:Cl):Bool:=decide (ck a b=a)
def bn (c:Cl):Bool:= !decide (c.pos.toNat&&&c.neg.toNat=0)
theorem An {a b:Int} (ha:U32 a) (hb:U32 b):U32 (dj a b):=by
 obtain ⟨m,hm,rfl⟩:=ha.nat;obtain ⟨n,hn,rfl⟩:=hb.nat
 exact U32.of (Nat.or_lt_two_pow (n:=32) hm hn)
theorem G9 {a b:Int} (ha:0≤a∧a<16777216) (hb:0≤b∧b<16777216):0≤dj a b∧dj a b<16777216:=by
 unfold dj
 have:=Nat.or_lt_two_pow (n:=24) (x:=a.toNat) (y:=b.toNat) (by omega) (by omega)
 omega
theorem vq {a b:Cl} (ha:aH a) (hb:aH b):aH (ck a b):=⟨An ha.1 hb.1,An ha.2 hb.2⟩
theorem GS {a b:Cl} (ha:RC a) (hb:RC b):RC (ck a b):=⟨G9 ha.1 hb.1,G9 ha.2 hb.2⟩
theorem JO (hk:Fu k) {c:Cl} (h:aH c) (ret:Bool→Option S):pq k c ret=ret (cu c):=by
 simp only [pq,KM,ah hk,JJ hk h.1,JJ hk h.2,cu,b8]
 cases iN c.pos<;>rfl
theorem Ka (hk:Fu k) {c:Cl} (h:aH c) (ret:Bool→Option S):pJ k c ret=ret (cu c):=by
 simp only [pJ,LF,ah hk,Kh hk h.1,Kh hk h.2,cu,b8]
 cases iN c.pos<;>rfl
theorem Bn (hk:Fu k) {a b:Cl} (ha:aH a) (hb:aH b) (ret:Cl→Option S):lX k a b ret=ret (ck a b):=by
 simp only [lX,KL,nG ha.1 hb.1,nG ha.2 hb.2];rfl
theorem Y2 (hk:Fu k) {a b:Cl} (ha:aH a) (hb:aH b) (ret:Bool→Option S):tM k a b ret=ret (cE a b):=by
 simp only [tM,KF,ah hk,Bn hk ha hb,g6];rfl
theorem Zv (hk:Fu k) {a b:Cl} (ha:aH a) (hb:aH b) (ret:Bool→Option S):um k a b ret=ret (cE a b):=by
 have e:cE a b=((dj a.pos b.pos==a.pos)&&((dj a.neg b.neg==a.neg)&&true)):=(g6 (ck a b) a).symm
 simp only [um,LA,nG ha.1 hb.1,nG ha.2 hb.2,b8,e]
 cases dj a.pos b.pos==a.pos<;>cases dj a.neg b.neg==a.neg<;>rfl
theorem JN (hk:Fu k) {c:Cl} (h:aH c) (ret:Bool→Option S):po k c ret=ret (bn c):=by
 obtain ⟨p,n⟩:=c
 obtain ⟨m,hm,rfl⟩:=h.1.nat;obtain ⟨n,hn,rfl⟩:=h.2.nat
 simp only [po,KG,i8 hm hn,bn,Int.toNat_natCast]
 congr 2
 rw [Bool.eq_iff_iff];simp only [beq_iff_eq,decide_eq_true_eq];omega
open Classical in
theorem U2 (hk:Fu k) {c:Cl} (h:aH c) (ret:Bool→Option S): ∀ (d i m:Nat),i+d=24→d<m→
  mW k ret c m (i:Int)=ret (decide (∃j,i≤j∧j<24∧c.pos.toNat.testBit j=true∧c.neg.toNat.testBit j=true)):=by
 intro d
 induction d with
 |zero=>
  intro i m e hm
  obtain ⟨m,rfl,hm⟩:=ak hm
  simp only [mW,sW,aG]
  rw [if_neg (by omega),decide_eq_false]
  rintro ⟨j,h1,h2,_⟩;omega
 |succ d ih=>
  intro i m e hm
  obtain ⟨m,rfl,hm⟩:=ak hm
  have e2:(i:Int)+1=((i+1:Nat):Int):=by simp
  simp only [mW,sW,ah hk,gc hk h.1,gc hk h.2,b8,decide_eq_true_eq]
  rw [if_pos (by omega),c8 (by omega) (by omega),e2,ih (i+1) m (by omega) (by omega)]
  have hp:bt c.pos (i:Int)=c.pos.toNat.testBit i:=by unfold bt;rw [decide_eq_true (by omega),Bool.true_and];rfl
  have hn:bt c.neg (i:Int)=c.neg.toNat.testBit i:=by unfold bt;rw [decide_eq_true (by omega),Bool.true_and];rfl
  rw [hp,hn]
  have step: ¬(c.pos.toNat.testBit i=true∧c.neg.toNat.testBit i=true)→((∃j,i+1≤j∧j<24∧c.pos.toNat.testBit j=true∧c.neg.toNat.testBit j=true)↔(∃j,i≤j∧j<24∧c.pos.toNat.testBit j=true∧c.neg.toNat.testBit j=true)):=by
   intro hne
   constructor
   ·rintro ⟨j,a,b⟩;exact ⟨j,by omega,b⟩
   ·rintro ⟨j,a,b⟩
    refine ⟨j, ?_,b⟩
    have:j≠i:=by rintro rfl;exact hne b.2
    omega
  by_cases h1:c.pos.toNat.testBit i=true
  ·by_cases h2:c.neg.toNat.testBit i=true
   ·rw [if_pos h1,if_pos h2,decide_eq_true]
    exact ⟨i,by omega,by omega,h1,h2⟩
   ·rw [if_pos h1,if_neg h2];simp only [step (fun h=>h2 h.2)]
  ·rw [if_neg h1];simp only [step (fun h=>h1 h.1)]
theorem J9 (hk:Fu k) {c:Cl} (h:RC c) (ret:Bool→Option S):pH k c ret=ret (bn c):=by
 simp only [pH,Cj]
 have:=U2 hk h.ok ret 24 0 k (by omega) (by have:4294967296≤k:=hk;omega)
 refine Eq.trans this ?_
 congr 1
 rw [bn,Bool.eq_iff_iff]
 simp only [decide_eq_true_eq,Bool.not_eq_true',decide_eq_false_iff_not]
 constructor
 ·rintro ⟨j,_,_,h1,h2⟩ h0
  have:(c.pos.toNat&&&c.neg.toNat).testBit j=true:=by rw [Nat.testBit_and,h1,h2];rfl
  rw [h0,Nat.zero_testBit] at this;cases this
 ·intro h0
  apply Classical.byContradiction
  intro hne
  apply h0
  apply Nat.eq_of_testBit_eq
  intro j
  rw [Nat.zero_testBit,Nat.testBit_and]
  cases h1:c.pos.toNat.testBit j with
  |false=>rfl
  |true=>
   cases h2:c.neg.toNat.testBit j with
   |false=>rfl
   |true=>
    have hlt:c.pos.toNat<16777216:=by have:=h.1;omega
    exact absurd ⟨j,by omega,lS hlt h1,h1,h2⟩ hne
theorem aa6 (s:Int) (x:Nat) (hx:x<24) (j:Nat):(dL s (x:Int)).toNat.testBit j=((s.toNat.testBit j&&decide (j<24))||decide (j=x)):=by
 unfold dL
 rw [if_pos (by omega),Int.toNat_natCast,Int.toNat_natCast,Nat.testBit_or,Nat.testBit_and,e9,Nat.testBit_two_pow,Bool.eq_iff_iff]
 simp only [Bool.or_eq_true,Bool.and_eq_true,decide_eq_true_eq]
 constructor<;>(rintro (h|h);exact .inl h;exact .inr h.symm)
theorem Wt (hk:Fu k) (ret:Int→Option S): ∀ (r p:List Nat) (m:Nat) (a:Int),(p++r).length≤24→(∀x∈r,x<24)→r.length<m→U32 a→
  ∃v:Int,U32 v∧(∀j,v.toNat.testBit j=((a.toNat.testBit j&&(decide (r=[])||decide (j<24)))||decide (j∈r)))∧mZ k ret (ints (p++r)) m a (p.length:Int)=ret v:=by
 intro r
 induction r with
 |nil=>
  intro p m a hl h24 hm ha
  obtain ⟨m,rfl,hm⟩:=ak hm
  refine ⟨a,ha,fun j=>by simp, ?_⟩
  simp only [mZ,sZ,aG,cK]
  rw [List.append_nil,if_neg (by omega)]
 |cons x r ih=>
  intro p m a hl h24 hm ha
  obtain ⟨m,rfl,hm⟩:=ak hm
  have hx:=h24 x (by simp)
  have hl':p.length+(r.length+1)≤24:=by simpa using hl
  have hu:U32 (dL a (x:Int)):=⟨withS_lt.1,by have:=(withS_lt (s:=a) (i:=(x:Int))).2;omega⟩
  obtain ⟨v,hv,hb,hr⟩:=ih (p++[x]) m (dL a (x:Int)) (by simpa using hl') (fun z hz=>h24 z (by simp [hz])) (by simpa using hm) hu
  refine ⟨v,hv,fun j=> ?_, ?_⟩
  ·rw [hb,aa6 _ _ hx,Bool.eq_iff_iff]
   simp only [Bool.or_eq_true,Bool.and_eq_true,decide_eq_true_eq,List.mem_cons,reduceCtorEq,decide_false,Bool.false_or]
   constructor
   ·rintro (⟨h|h,_⟩|h)
    ·exact .inl h
    ·exact .inr (.inl h)
    ·exact .inr (.inr h)
   ·rintro (h|h|h)
    ·exact .inl ⟨.inl h,.inr h.2⟩
    ·exact .inl ⟨.inr h,.inr (by omega)⟩
    ·exact .inr h
  ·have e0:ints (p++x::r)=ints p++(x:Int)::ints r:=by simp [ints]
   have el:(p.length:Int)=((ints p).length:Int):=by rw [cK]
   simp only [mZ,sZ,aG,ah hk]
   rw [if_pos (by rw [cK,List.length_append,List.length_cons];omega),e0,el,qn]
   simp only [Option.bind_some,ZM hk ha]
   have ew:IntKind.wrap .i64 (((ints p).length:Int)+1)=(((p++[x]).length:Nat):Int):=by
    rw [cK,c8 (by omega) (by omega)];simp
   rw [ew,←hr]
   congr 1
   simp [ints]
theorem Kk (hk:Fu k) {a b:Int} (ha:0≤a∧a<16777216) (hb:0≤b∧b<16777216) (ret:Int→Option S):pK k a b ret=ret (dj a b):=by
 have ha':U32 a:=⟨ha.1,by omega⟩
 have hb':U32 b:=⟨hb.1,by omega⟩
 simp only [pK,Cn,ah hk,ZG hk hb',ep]
 obtain ⟨v,hv,hbit,hr⟩:=Wt hk ret (bz b.toNat) [] k a (by have:=e_ b.toNat;simpa using this) (fun x hx=>(mem_bitsN.1 hx).1) (by have:=e_ b.toNat;have:4294967296≤k:=hk;omega) ha'
 refine Eq.trans hr ?_
 congr 1
 have:v.toNat=a.toNat|||b.toNat:=by
  apply Nat.eq_of_testBit_eq
  intro j
  rw [hbit,Nat.testBit_or,Bool.eq_iff_iff]
  simp only [Bool.or_eq_true,Bool.and_eq_true,decide_eq_true_eq,mem_bitsN]
  constructor
  ·rintro (h|h)
   ·exact .inl h.1
   ·exact .inr h.2
  ·rintro (h|h)
   ·exact .inl ⟨h,.inr (lS (m:=a.toNat) (by omega) h)⟩
   ·exact .inr ⟨lS (m:=b.toNat) (by omega) h,h⟩
 have hv0:=hv.1
 unfold dj
 omega
theorem J_ (hk:Fu k) {a b:Cl} (ha:RC a) (hb:RC b) (ret:Cl→Option S):pI k a b ret=ret (ck a b):=by
 simp only [pI,LD,ah hk,Kk hk ha.1 hb.1,Kk hk ha.2 hb.2];rfl
def cq (c:Cl) (i b:Int):Cl×Int:=
 if cu c then
  if (bV c.pos i b).2=0 then if (bV c.neg i b).2=0 then (⟨(bV c.pos i b).1,(bV c.neg i b).1⟩,0) else (⟨0,0⟩,(bV c.neg i b).2)
  else (⟨0,0⟩,(bV c.pos i b).2)
 else (⟨0,0⟩,2)
theorem Y3 (hk:Fu k) {c:Cl} {i b:Int} (h:aH c) (hi:aD i) (hb:aD b) (ret:Cl×Int→Option S):tP k c i b ret=ret (cq c i b):=by
 simp only [tP,KK,ah hk,JO hk h,JH hk h.1 hi hb,JH hk h.2 hi hb,b8,cq,Bool.not_eq_true',beq_eq_false_iff_ne]
 cases cu c<;>simp only [reduceIte,Bool.false_eq_true,Bool.true_eq_false]
 by_cases h1:(bV c.pos i b).2=0
 ·by_cases h2:(bV c.neg i b).2=0<;>simp [h1,h2]
 ·simp [h1]
theorem Zw (hk:Fu k) {c:Cl} {i b:Int} (h:aH c) (hi:aD i) (hb:aD b) (ret:Cl×Int→Option S):up k c i b ret=ret (cq c i b):=by
 simp only [up,LC,ah hk,Ka hk h,Ke hk h.1 hi hb,Ke hk h.2 hi hb,b8,cq,Bool.not_eq_true',beq_eq_false_iff_ne]
 cases cu c<;>simp only [reduceIte,Bool.false_eq_true,Bool.true_eq_false]
 by_cases h1:(bV c.pos i b).2=0
 ·by_cases h2:(bV c.neg i b).2=0<;>simp [h1,h2]
 ·simp [h1]
end Go.Proofs.YtapmagaejigpnaaGreatDoor
namespace Go.Proofs.YtapmagaejigpnaaGreatDoor
open Go PI
set_option linter.unusedVariables false
set_option linter.unusedSimpArgs false
set_option maxRecDepth 20000
variable {S:Type} {k:Nat}
def eP (a b:Cl):Prop:=a.pos<b.pos∨(a.pos=b.pos∧a.neg<b.neg)
def nz (a b:Cl):Bool:=decide (a.pos<b.pos)||(a.pos==b.pos&&decide (a.neg<b.neg))
theorem lessB_iff {a b:Cl}:nz a b=true↔eP a b:=by unfold nz eP;simp
theorem Fs {a b c:Cl} (h:eP a b) (h':eP b c):eP a c:=by unfold eP at*;omega
theorem zR {a:Cl} (h:eP a a):False:=by unfold eP at h;omega
theorem WQ (a b:Cl):eP a b∨a=b∨eP b a:=by
 by_cases h:a=b
 ·exact .inr (.inl h)
 ·have: ¬(a.pos=b.pos∧a.neg=b.neg):=fun h'=>h (Cl.ext' h'.1 h'.2)
  unfold eP;omega
abbrev iZ (l:List Cl):Prop:=l.Pairwise eP
theorem wB: ∀ {a b:List Cl},iZ a→iZ b→(∀c,c∈a↔c∈b)→a=b:=by
 intro a
 induction a with
 |nil=>
  intro b _ _ h
  cases b with
  |nil=>rfl
  |cons y b=>exact absurd ((h y).2 (by simp)) (by simp)
 |cons x a ih=>
  intro b ha hb h
  cases b with
  |nil=>exact absurd ((h x).1 (by simp)) (by simp)
  |cons y b=>
   have ha':=List.pairwise_cons.1 ha;have hb':=List.pairwise_cons.1 hb
   have hxy:x=y:=by
    rcases List.mem_cons.1 ((h x).1 (by simp)) with h1|h1
    ·exact h1
    ·rcases List.mem_cons.1 ((h y).2 (by simp)) with h2|h2
     ·exact h2.symm
     ·exact absurd (Fs (ha'.1 y h2) (hb'.1 x h1)) zR
   subst hxy
   congr 1
   refine ih ha'.2 hb'.2 fun c=>⟨fun hc=> ?_,fun hc=> ?_⟩
   ·rcases List.mem_cons.1 ((h c).1 (by simp [hc])) with rfl|h1
    ·exact absurd (ha'.1 _ hc) zR
    ·exact h1
   ·rcases List.mem_cons.1 ((h c).2 (by simp [hc])) with rfl|h1
    ·exact absurd (hb'.1 _ hc) zR
    ·exact h1
def dh (x:Cl):List Cl→List Cl
 |[]=>[x]
 |y::r=>if nz y x then y::dh x r else if y=x then y::r else x::y::r
theorem mem_insC {x c:Cl}: ∀ {l:List Cl},c∈dh x l↔c=x∨c∈l:=by
 intro l
 induction l with
 |nil=>simp [dh]
 |cons y r ih=>
  unfold dh
  split
  ·rw [List.mem_cons,ih,List.mem_cons];exact ⟨fun h=>by rcases h with h|h|h<;>simp [h],fun h=>by rcases h with h|h|h<;>simp [h]⟩
  ·split
   ·next h=>subst h;rw [List.mem_cons];exact ⟨fun h=> .inr h,fun h=>by rcases h with h|h;exact .inl h;exact h⟩
   ·rw [List.mem_cons]
theorem Ug {x:Cl}: ∀ {l:List Cl},iZ l→iZ (dh x l):=by
 intro l
 induction l with
 |nil=>intro _;simp [dh]
 |cons y r ih=>
  intro h
  have h':=List.pairwise_cons.1 h
  unfold dh
  split
  ·next hl=>
   refine List.pairwise_cons.2 ⟨fun c hc=> ?_,ih h'.2⟩
   rcases mem_insC.1 hc with rfl|hc
   ·exact lessB_iff.1 hl
   ·exact h'.1 c hc
  ·next hl=>
   split
   ·exact h
   ·next hne=>
    have hxy:eP x y:=by
     rcases WQ y x with h1|h1|h1
     ·exact absurd (lessB_iff.2 h1) hl
     ·exact absurd h1 hne
     ·exact h1
    refine List.pairwise_cons.2 ⟨fun c hc=> ?_,h⟩
    rcases List.mem_cons.1 hc with rfl|hc
    ·exact hxy
    ·exact Fs hxy (h'.1 c hc)
theorem EM {x:Cl}: ∀ {l:List Cl},(dh x l).length≤l.length+1:=by
 intro l
 induction l with
 |nil=>simp [dh]
 |cons y r ih=>
  unfold dh
  split
  ·simp only [List.length_cons];omega
  ·split<;>simp
def bw (l:List Cl) (c:Cl):Bool:=l.all fun d=>decide (d=c)|| !cE c d
def fN (o l:List Cl):List Cl:=l.foldl (fun o c=>dh c o) o
def cL (l:List Cl):List Cl:=fN [] (l.filter (bw l))
theorem WX {c:Cl}: ∀ {l o:List Cl},c∈fN o l↔c∈l∨c∈o:=by
 intro l
 induction l with
 |nil=>intro o;simp [fN]
 |cons x l ih=>
  intro o
  show c∈fN (dh x o) l↔_
  rw [ih,mem_insC,List.mem_cons]
  constructor
  ·rintro (h|h|h)
   ·exact .inl (.inr h)
   ·exact .inl (.inl h)
   ·exact .inr h
  ·rintro ((h|h)|h)
   ·exact .inr (.inl h)
   ·exact .inl h
   ·exact .inr (.inr h)
theorem Uf: ∀ {l o:List Cl},iZ o→iZ (fN o l):=by
 intro l
 induction l with
 |nil=>intro o h;exact h
 |cons x l ih=>intro o h;exact ih (Ug h)
theorem Ue: ∀ {l o:List Cl},(fN o l).length≤o.length+l.length:=by
 intro l
 induction l with
 |nil=>intro o;simp [fN]
 |cons x l ih=>
  intro o
  have h1:(fN (dh x o) l).length≤(dh x o).length+l.length:=ih
  have h2:= @EM x o
  show (fN (dh x o) l).length≤_
  rw [List.length_cons];omega
theorem nC (l:List Cl):iZ (cL l):=Uf List.Pairwise.nil
theorem mem_mins {l:List Cl} {c:Cl}:c∈cL l↔c∈l∧bw l c=true:=by
 rw [cL,WX,List.mem_filter];simp
theorem W4 (l:List Cl):(cL l).length≤l.length:=by
 have h1:= @Ue (l.filter (bw l)) []
 have h2:=List.length_filter_le (bw l) l
 simp only [List.length_nil] at h1
 unfold cL;omega
theorem GX {l l':List Cl} (h: ∀c,c∈l↔c∈l') (c:Cl):bw l c=bw l' c:=by
 rw [Bool.eq_iff_iff];simp only [bw,List.all_eq_true]
 exact ⟨fun f d hd=>f d ((h d).2 hd),fun f d hd=>f d ((h d).1 hd)⟩
theorem WZ {l l':List Cl} (h: ∀c,c∈l↔c∈l'):cL l=cL l':=
 wB (nC l) (nC l') fun c=>by rw [mem_mins,mem_mins,h,GX h]
def aX (l:List Cl):List Cl×Int:=if l.all cu then if (cL l).length>64 then ([],3) else (cL l,0) else ([],2)
theorem Wx {l l':List Cl} (h: ∀c,c∈l↔c∈l'):aX l=aX l':=by
 have:l.all cu=l'.all cu:=by
  rw [Bool.eq_iff_iff];simp only [List.all_eq_true]
  exact ⟨fun f d hd=>f d ((h d).2 hd),fun f d hd=>f d ((h d).1 hd)⟩
 unfold aX;rw [this,WZ h]
theorem YT (hk:Fu k) (a b:Cl) (ret:Bool→Option S):uo k a b ret=ret (nz a b):=by
 simp only [uo,LB,b8,nz]
 cases decide (a.pos<b.pos)<;>cases a.pos==b.pos<;>rfl
theorem VL (hk:Fu k) (ret:Bool→Option S) {c:Cl} (hc:aH c) {l:List Cl} (hl:am l) (hlen:l.length<4294967296):
  ∀ (r p:List Cl) (m:Nat),l=p++r→r.length<m→mY k ret c l m (p.length:Int)=ret (bw r c):=by
 intro r
 induction r with
 |nil=>
  intro p m h hm
  obtain ⟨m,rfl,hm'⟩:=ak hm
  simp only [mY,sY,az h,ac];rfl
 |cons x r ih=>
  intro p m h hm
  obtain ⟨m,rfl,hm'⟩:=ak hm
  obtain ⟨e1,e2,e3,e4⟩:=ay h (by omega)
  have hx:aH x:=hl x (by rw [h];simp)
  have:=ih (p++[x]) m e4 hm'
  simp only [mY,sY,e1,ad,e2,Option.bind_some,g6,ah hk,Zv hk hc hx,e3,this,b8,bw,List.all_cons]
  cases decide (x=c)<;>cases cE c x<;>rfl
theorem Zl (hk:Fu k) {c:Cl} (hc:aH c) {l:List Cl} (hl:am l) (hlen:l.length<4294967296) (ret:Bool→Option S):uq k l c ret=ret (bw l c):=by
 simp only [uq,Cm]
 exact VL hk ret hc hl hlen l [] k rfl (by have:4294967296≤k:=hk;omega)
theorem lW {S:Type} {p:Prop} [Decidable p] (h:p) (f:Unit→Option S):Option.bind (bA p) f=f ():=gi p h f
theorem VR (hk:Fu k) (ret:List Cl×Int→Option S) (rec1:List Cl→Int→Option S) {l:List Cl} {x:Cl} {i:Int} (hx:al l i=some x) {out:List Cl} (hout:out.length<4294967296):
  ∀ (r p:List Cl) (m:Nat),out=p++r→r.length<m→kT k ret rec1 l out i m (p.length:Int)=rec1 (p++dh x r) (IntKind.wrap .i64 (i+1)):=by
 intro r
 induction r with
 |nil=>
  intro p m h hm
  obtain ⟨m,rfl,hm'⟩:=ak hm
  have hp:out=p:=by rw [h,List.append_nil]
  subst hp
  have e:(((out.length:Int))==((out.length:Int)))=true:=by simp
  simp only [kT,sX,az h,ac,e,ad]
  rw [lW (by omega),aV (by simp;omega),hx]
  simp only [Option.bind_some]
  rw [aV (by simp;omega),lW (by omega),aV (by simp;omega)]
  simp [dh]
 |cons y r ih=>
  intro p m h hm
  obtain ⟨m,rfl,hm'⟩:=ak hm
  obtain ⟨e1,e2,e3,e4⟩:=ay h (by omega)
  have hpl:p.length<out.length:=by rw [h];simp
  have e:(((p.length:Int))==((out.length:Int)))=false:=by
   rw [beq_eq_false_iff_ne];omega
  have:=ih (p++[y]) m e4 hm'
  simp only [kT,sX,e1,ad,e2,hx,Option.bind_some,ah hk,YT hk,e,ac,g6]
  rw [e3,this]
  cases hb:nz y x with
  |true=>rw [ad,dh,if_pos hb,List.append_assoc,List.singleton_append]
  |false=>
   rw [ac,dh,if_neg (by rw [hb];decide)]
   by_cases hyx:y=x
   ·rw [if_pos hyx,decide_eq_true hyx,Bool.not_true,ac,←h]
   ·rw [if_neg hyx,decide_eq_false hyx,Bool.not_false,ad]
    have ht:List.take p.length out=p:=by rw [h];simp
    have hd:List.drop p.length out=y::r:=by rw [h];simp
    rw [lW (by omega),Int.toNat_natCast,ht,hd,aV (by simp;omega),aV (by simp;omega),lW (by omega),aV (by rw [h] at hout;simp at hout ⊢;omega)]
    simp
theorem VQ (hk:Fu k) (ret:List Cl×Int→Option S) {l:List Cl} (hl:am l) (hlen:l.length<2147483648):
  ∀ (r p:List Cl) (m:Nat) (o:List Cl),l=p++r→r.length<m→o.length≤p.length→
  io k ret l m o (p.length:Int)=ret (if (fN o (r.filter (bw l))).length>64 then ([],3) else (fN o (r.filter (bw l)),0)):=by
 intro r
 induction r with
 |nil=>
  intro p m o h hm ho
  obtain ⟨m,rfl,hm'⟩:=ak hm
  simp only [io,oF,az h,ac,aG]
  show _=ret (if o.length>64 then _ else (o,0))
  by_cases h64:o.length>64
  ·rw [if_pos (by omega),if_pos h64]
  ·rw [if_neg (by omega),if_neg h64]
 |cons x r ih=>
  intro p m o h hm ho
  obtain ⟨m,rfl,hm'⟩:=ak hm
  obtain ⟨e1,e2,e3,e4⟩:=ay h (by omega)
  have hx:aH x:=hl x (by rw [h];simp)
  have hk':4294967296≤k:=hk
  have hpl:p.length<l.length:=by rw [h];simp
  simp only [io,oF,e1,ad,e2,Option.bind_some,ah hk,Zl hk hx hl (by omega)]
  have hplace:=VR hk ret (io k ret l m) e2 (out:=o) (by omega) o [] k rfl (by omega)
  simp only [List.length_nil,List.nil_append] at hplace
  rw [show (0:Int)=((0:Nat):Int) from rfl,hplace,e3]
  cases hn:bw l x with
  |true=>
   rw [Bool.not_true,ac,List.filter_cons_of_pos hn]
   exact ih (p++[x]) m (dh x o) e4 hm' (by have:= @EM x o;simp;omega)
  |false=>
   rw [Bool.not_false,ad,List.filter_cons_of_neg (by rw [hn];decide)]
   exact ih (p++[x]) m o e4 hm' (by simp;omega)
theorem V8 (hk:Fu k) (ret:List Cl×Int→Option S) {l:List Cl} (hl:am l) (hlen:l.length<2147483648):
  ∀ (r p:List Cl) (m:Nat),l=p++r→r.length<m→
  mX k ret l m (p.length:Int)=ret (if r.all cu then if (cL l).length>64 then ([],3) else (cL l,0) else ([],2)):=by
 intro r
 induction r with
 |nil=>
  intro p m h hm
  obtain ⟨m,rfl,hm'⟩:=ak hm
  simp only [mX,oE,az h,ac,List.all_nil,if_true]
  have hk':4294967296≤k:=hk
  exact VQ hk ret hl hlen l [] k [] rfl (by omega) (by simp)
 |cons x r ih=>
  intro p m h hm
  obtain ⟨m,rfl,hm'⟩:=ak hm
  obtain ⟨e1,e2,e3,e4⟩:=ay h (by omega)
  have hx:aH x:=hl x (by rw [h];simp)
  simp only [mX,oE,e1,ad,e2,Option.bind_some,ah hk,Ka hk hx,e3,ih (p++[x]) m e4 hm']
  by_cases hr:cu x=true
  ·have:(x::r).all cu=r.all cu:=by rw [List.all_cons,hr,Bool.true_and]
   rw [hr,Bool.not_true,ac,this]
  ·rw [Bool.not_eq_true] at hr
   have:(x::r).all cu=false:=by rw [List.all_cons,hr,Bool.false_and]
   rw [hr,Bool.not_false,ad,this,if_neg (by decide)]
theorem lG (hk:Fu k) {l:List Cl} (hl:am l) (hlen:l.length<2147483648) (ret:List Cl×Int→Option S):gx k l ret=ret (aX l):=by
 simp only [gx,Ck]
 exact V8 hk ret hl hlen l [] k rfl (by have:4294967296≤k:=hk;omega)
theorem YS (hk:Fu k) {d c:Cl} (hd:aH d) (hc:aH c) (ret:Bool→Option S):tO k d c ret=ret (!(decide (d=c)|| !cE c d)):=by
 simp only [tO,KJ,g6,ah hk,Y2 hk hc hd,b8]
 have:decide (c=d)=decide (d=c):=by rw [Bool.eq_iff_iff];simp [eq_comm]
 rw [this]
 cases decide (d=c)<;>cases cE c d<;>rfl
end Go.Proofs.YtapmagaejigpnaaGreatDoor
namespace Go.Proofs.YtapmagaejigpnaaGreatDoor
open Go PI
set_option linter.unusedVariables false
set_option linter.unusedSimpArgs false
set_option maxRecDepth 20000
variable {S:Type} {k:Nat}
theorem Vz (hk:Fu k) (ret:Int→Option S) {c:Cl} (hc:aH c) {l:List Cl} (hl:am l) (hlen:l.length<2147483648):
  ∀ (r p:List Cl) (m:Nat),l=p++r→r.length<m→ ∃v:Int,decide (v≥0)= !bw r c∧nn k ret c l m (p.length:Int)=ret v:=by
 intro r
 induction r with
 |nil=>
  intro p m h hm
  obtain ⟨m,rfl,hm'⟩:=ak hm
  exact ⟨-1,rfl,by simp only [nn,tx,az h,ac]⟩
 |cons x r ih=>
  intro p m h hm
  obtain ⟨m,rfl,hm'⟩:=ak hm
  obtain ⟨e1,e2,e3,e4⟩:=ay h (by omega)
  have hx:aH x:=hl x (by rw [h];simp)
  obtain ⟨v,hv,hr⟩:=ih (p++[x]) m e4 hm'
  have e0:bw (x::r) c=((decide (x=c)|| !cE c x)&&bw r c):=by simp [bw]
  simp only [nn,tx,e1,ad,e2,Option.bind_some,ah hk,YS hk hx hc,e3,hr]
  cases hb:(decide (x=c)|| !cE c x) with
  |true=>exact ⟨v,by rw [e0,hb,Bool.true_and,hv],by rw [Bool.not_true,ac]⟩
  |false=>exact ⟨(p.length:Int),by rw [e0,hb,Bool.false_and];simp,by rw [Bool.not_false,ad]⟩
theorem Zm (hk:Fu k) {c:Cl} (hc:aH c) {l:List Cl} (hl:am l) (hlen:l.length<2147483648) (ret:Bool→Option S):tN k c l ret=ret (!bw l c):=by
 obtain ⟨v,hv,hr⟩:=Vz hk (fun r1:Int=>ret (decide (r1≥0))) hc hl hlen l [] k rfl (by have:4294967296≤k:=hk;omega)
 simp only [tN,KH,ah hk,yJ,L9,yL,CQ]
 exact hr.trans (by rw [hv])
theorem VC (hk:Fu k) (ret:List Cl×Int→Option S) {l:List Cl} (hl:am l) (hlen:l.length<2147483648):
  ∀ (r p:List Cl) (m:Nat) (q:List Cl),l=p++r→r.length<m→q.length≤p.length→
  kM k ret l m (p.length:Int) q=ret (if (q++r.filter (bw l)).length>64 then ([],3) else (sortCl (q++r.filter (bw l)),0)):=by
 intro r
 induction r with
 |nil=>
  intro p m q h hm hq
  obtain ⟨m,rfl,hm'⟩:=ak hm
  simp only [kM,sk,az h,ac,aG,List.filter_nil,List.append_nil]
  by_cases h64:q.length>64
  ·rw [if_pos (by omega),if_pos h64]
  ·rw [if_neg (by omega),if_neg h64]
 |cons x r ih=>
  intro p m q h hm hq
  obtain ⟨m,rfl,hm'⟩:=ak hm
  obtain ⟨e1,e2,e3,e4⟩:=ay h (by omega)
  have hx:aH x:=hl x (by rw [h];simp)
  have hpl:p.length<l.length:=by rw [h];simp
  simp only [kM,sk,e1,ad,e2,Option.bind_some,ah hk,Zm hk hx hl hlen,Bool.not_not]
  rw [e3]
  cases hn:bw l x with
  |true=>
   rw [ad,aV (by simp;omega),List.filter_cons_of_pos hn,ih (p++[x]) m (q++[x]) e4 hm' (by simp;omega)]
   simp
  |false=>
   rw [ac,List.filter_cons_of_neg (by rw [hn];decide)]
   exact ih (p++[x]) m q e4 hm' (by simp;omega)
theorem uV (a b:Cl):dH VV ET.C a b=decide (a=b):=by
 have e:dH VV ET.C a b=((a.pos==b.pos)&&((a.neg==b.neg)&&true)):=by
  obtain ⟨p,n⟩:=a;obtain ⟨p',n'⟩:=b
  show dH VV ET.C _ _=((p==p')&&((n==n')&&true))
  unfold dH
  simp [VV,cW,PV.eqvI]
 rw [e,g6]
theorem WY (l:List (Cl×Bool)) (x y:Cl):di VV ET.C (er VV ET.C l x true) y=if x=y then some true else di VV ET.C l y:=by
 induction l with
 |nil=>
  show (bif dH VV ET.C x y then some true else .none)=_
  rw [uV];by_cases h:x=y<;>simp [h,di]
 |cons a r ih=>
  obtain ⟨z,b⟩:=a
  show di VV ET.C (bif dH VV ET.C z x then (z,true)::r else (z,b)::er VV ET.C r x true) y=_
  rw [uV]
  by_cases h:z=x
  ·subst h
   rw [decide_eq_true rfl,cond_true]
   show (bif dH VV ET.C z y then some true else di VV ET.C r y)=if z=y then some true else (bif dH VV ET.C z y then some b else di VV ET.C r y)
   rw [uV];by_cases h':z=y<;>simp [h']
  ·rw [decide_eq_false h,cond_false]
   show (bif dH VV ET.C z y then some b else di VV ET.C (er VV ET.C r x true) y)=if x=y then some true else (bif dH VV ET.C z y then some b else di VV ET.C r y)
   rw [uV,ih]
   by_cases h':z=y
   ·have hxy: ¬x=y:=fun e=>h (h'.trans e.symm)
    simp [h',hxy]
   ·simp [h']
def gD (o:List Cl):List Cl→List Cl
 |[]=>o
 |x::r=>if x∈o then gD o r else gD (o++[x]) r
theorem abT {c:Cl}: ∀ {r o:List Cl},c∈gD o r↔c∈o∨c∈r:=by
 intro r
 induction r with
 |nil=>intro o;simp [gD]
 |cons x r ih=>
  intro o
  unfold gD
  split
  ·next h=>
   rw [ih,List.mem_cons]
   constructor
   ·rintro (h'|h');exact .inl h';exact .inr (.inr h')
   ·rintro (h'|h'|h');exact .inl h';exact .inl (h'▸h);exact .inr h'
  ·rw [ih,List.mem_append,List.mem_singleton,List.mem_cons,or_assoc]
theorem abl: ∀ {r o:List Cl},o.Nodup→(gD o r).Nodup:=by
 intro r
 induction r with
 |nil=>intro o h;exact h
 |cons x r ih=>
  intro o h
  unfold gD
  split
  ·exact ih h
  ·next hx=>exact ih (List.nodup_append.2 ⟨h,by simp,fun a ha b hb=>by simp at hb;subst hb;rintro rfl;exact hx ha⟩)
theorem abk: ∀ {r o:List Cl},(gD o r).length≤o.length+r.length:=by
 intro r
 induction r with
 |nil=>intro o;simp [gD]
 |cons x r ih=>
  intro o
  unfold gD
  split
  ·have:= @ih o;simp only [List.length_cons];omega
  ·have:= @ih (o++[x]);simp only [List.length_cons,List.length_append,List.length_nil] at this ⊢;omega
theorem Z2 {l o:List Cl} (hn:o.Nodup) (h: ∀c,c∈o↔c∈l):sortCl (o.filter (bw o))=cL l∧(o.filter (bw o)).length=(cL l).length:=by
 have hp:(sortCl (o.filter (bw o))).Perm (o.filter (bw o)):=List.mergeSort_perm _ _
 have hs:(sortCl (o.filter (bw o))).Pairwise (fun a b=>ja a b=true):=
  List.pairwise_mergeSort (le:=ja) (fun a b c h1 h2=>by
   unfold ja at*
   simp only [Bool.or_eq_true,Bool.and_eq_true,decide_eq_true_eq,beq_iff_eq] at*;omega) (fun a b=>by
   unfold ja
   simp only [Bool.or_eq_true,Bool.and_eq_true,decide_eq_true_eq,beq_iff_eq];omega) _
 have hnd:(sortCl (o.filter (bw o))).Nodup:=hp.nodup_iff.2 (hn.filter _)
 have hsorted:iZ (sortCl (o.filter (bw o))):=by
  refine (hs.and hnd).imp fun {a b} h=> ?_
  have h1:=h.1
  unfold ja at h1
  simp only [Bool.or_eq_true,Bool.and_eq_true,decide_eq_true_eq,beq_iff_eq] at h1
  rcases h1 with h1|h1
  ·exact .inl h1
  ·refine .inr ⟨h1.1, ?_⟩
   have:a.neg≠b.neg:=fun e=>h.2 (Cl.ext' h1.1 e)
   omega
 have he:sortCl (o.filter (bw o))=cL l:=wB hsorted (nC l) fun c=>by
  rw [hp.mem_iff,List.mem_filter,mem_mins,h,GX h]
 exact ⟨he,by rw [←he,hp.length_eq]⟩
theorem Wq (hk:Fu k) (ret:List Cl×Int→Option S) {l:List Cl} (hl:am l) (hlen:l.length<2147483648):
  ∀ (r p:List Cl) (m:Nat) (q:List (Cl×Bool)) (o:List Cl),l=p++r→r.length<m→o.length≤p.length→o.Nodup→(∀c:Cl,(di VV ET.C q c).getD false=decide (c∈o))→(∀c,c∈o↔c∈p)→
  mF k ret l m q o (p.length:Int)=ret (if r.all cu then if (cL l).length>64 then ([],3) else (cL l,0) else ([],2)):=by
 intro r
 induction r with
 |nil=>
  intro p m q o h hm ho hnd hq hmem
  obtain ⟨m,rfl,hm'⟩:=ak hm
  have hp:l=p:=by rw [h,List.append_nil]
  subst hp
  have hol:am o:=fun c hc=>hl c ((hmem c).1 hc)
  have hk':4294967296≤k:=hk
  simp only [mF,oy,az h,ac,List.all_nil,if_true]
  have:=VC hk ret hol (by omega) o [] k [] rfl (by omega) (by simp)
  simp only [List.nil_append] at this
  refine Eq.trans this ?_
  have hsm:=Z2 hnd hmem
  rw [hsm.1,hsm.2]
 |cons x r ih=>
  intro p m q o h hm ho hnd hq hmem
  obtain ⟨m,rfl,hm'⟩:=ak hm
  obtain ⟨e1,e2,e3,e4⟩:=ay h (by omega)
  have hx:aH x:=hl x (by rw [h];simp)
  have hpl:p.length<l.length:=by rw [h];simp
  simp only [mF,oy,e1,ad,e2,Option.bind_some,ah hk,JO hk hx]
  rw [hq,e3]
  by_cases hr:cu x=true
  ·have:(x::r).all cu=r.all cu:=by rw [List.all_cons,hr,Bool.true_and]
   rw [hr,Bool.not_true,ac,this]
   by_cases hxo:x∈o
   ·rw [decide_eq_true hxo,Bool.not_true,ac]
    exact ih (p++[x]) m q o e4 hm' (by simp;omega) hnd hq fun c=>by
     rw [hmem c,List.mem_append,List.mem_singleton]
     exact ⟨.inl,fun h'=>by rcases h' with h'|rfl;exact h';exact (hmem _).1 hxo⟩
   ·rw [decide_eq_false hxo,Bool.not_false,ad,aV (by simp;omega)]
    refine ih (p++[x]) m _ (o++[x]) e4 hm' (by simp;omega) (List.nodup_append.2 ⟨hnd,by simp,fun a ha b hb=>by simp at hb;subst hb;rintro rfl;exact hxo ha⟩) (fun c=> ?_) fun c=> ?_
    ·rw [WY]
     by_cases hc:x=c
     ·subst hc;simp
     ·rw [if_neg hc,hq,Bool.eq_iff_iff];simp [Ne.symm hc]
    ·rw [List.mem_append,hmem,List.mem_append]
  ·rw [Bool.not_eq_true] at hr
   have:(x::r).all cu=false:=by rw [List.all_cons,hr,Bool.false_and]
   rw [hr,Bool.not_false,ad,this,if_neg (by decide)]
theorem iP (hk:Fu k) {l:List Cl} (hl:am l) (hlen:l.length<2147483648) (ret:List Cl×Int→Option S):ff k l ret=ret (aX l):=by
 simp only [ff,BM]
 exact Wq hk ret hl hlen l [] k [] [] rfl (by have:4294967296≤k:=hk;omega) (by simp) List.nodup_nil (fun c=>by simp [di]) (fun c=>Iff.rfl)
theorem U4 (hk:Fu k) (ret:Bool→Option S) {a b:List Cl} (hlen:a.length<4294967296):
  ∀ (r s p q:List Cl) (m:Nat),a=p++r→b=q++s→p.length=q.length→r.length=s.length→r.length<m→nk k ret a b m (p.length:Int)=ret (decide (r=s)):=by
 intro r
 induction r with
 |nil=>
  intro s p q m h h' hpq hrs hm
  obtain ⟨m,rfl,hm'⟩:=ak hm
  cases s with
  |nil=>simp only [nk,tw,az h,ac];rfl
  |cons=>cases hrs
 |cons x r ih=>
  intro s p q m h h' hpq hrs hm
  obtain ⟨m,rfl,hm'⟩:=ak hm
  cases s with
  |nil=>cases hrs
  |cons y s=>
   obtain ⟨e1,e2,e3,e4⟩:=ay h (by omega)
   have e2':al b (p.length:Int)=some y:=by rw [h',hpq];exact qn q s y
   simp only [nk,tw,e1,ad,e2,e2',Option.bind_some,g6,e3]
   rw [ih s (p++[x]) (q++[y]) m e4 (by rw [h'];simp) (by simp [hpq]) (by simpa using hrs) hm']
   by_cases hxy:x=y
   ·subst hxy;rw [decide_eq_true rfl,Bool.not_true,ac];simp
   ·rw [decide_eq_false hxy,Bool.not_false,ad];simp [hxy]
theorem YP (hk:Fu k) {a b:List Cl} (hlen:a.length<4294967296) (ret:Bool→Option S):uE k a b ret=ret (decide (a=b)):=by
 simp only [uE,CO]
 by_cases h:a.length=b.length
 ·have e:((a.length:Int)==(b.length:Int))=true:=by simp [h]
  rw [e,Bool.not_true,ac]
  exact U4 hk ret hlen a b [] [] k rfl rfl rfl h (by have:4294967296≤k:=hk;omega)
 ·have e:((a.length:Int)==(b.length:Int))=false:=by rw [beq_eq_false_iff_ne];omega
  rw [e,Bool.not_false,ad,decide_eq_false]
  rintro rfl;exact h rfl
theorem U8 (hk:Fu k) (ret:Bool→Option S) {a b:List Cl} (hlen:a.length<4294967296):
  ∀ (r s p q:List Cl) (m:Nat),a=p++r→b=q++s→p.length=q.length→r.length=s.length→r.length<m→iq k ret a b m (p.length:Int)=ret (decide (r=s)):=by
 intro r
 induction r with
 |nil=>
  intro s p q m h h' hpq hrs hm
  obtain ⟨m,rfl,hm'⟩:=ak hm
  cases s with
  |nil=>simp only [iq,lP,az h,ac];rfl
  |cons=>cases hrs
 |cons x r ih=>
  intro s p q m h h' hpq hrs hm
  obtain ⟨m,rfl,hm'⟩:=ak hm
  cases s with
  |nil=>cases hrs
  |cons y s=>
   obtain ⟨e1,e2,e3,e4⟩:=ay h (by omega)
   have e2':al b (p.length:Int)=some y:=by rw [h',hpq];exact qn q s y
   simp only [iq,lP,e1,ad,e2,e2',Option.bind_some,g6,e3]
   rw [ih s (p++[x]) (q++[y]) m e4 (by rw [h'];simp) (by simp [hpq]) (by simpa using hrs) hm']
   by_cases hxy:x=y
   ·subst hxy;rw [decide_eq_true rfl,Bool.not_true,ac];simp
   ·rw [decide_eq_false hxy,Bool.not_false,ad];simp [hxy]
theorem YW (hk:Fu k) {a b:List Cl} (hlen:a.length<4294967296) (ret:Bool→Option S):gy k a b ret=ret (decide (a=b)):=by
 simp only [gy,wH]
 by_cases h:a.length=b.length
 ·have e:((a.length:Int)==(b.length:Int))=true:=by simp [h]
  rw [e,Bool.not_true,ac]
  exact U8 hk ret hlen a b [] [] k rfl rfl rfl h (by have:4294967296≤k:=hk;omega)
 ·have e:((a.length:Int)==(b.length:Int))=false:=by rw [beq_eq_false_iff_ne];omega
  rw [e,Bool.not_false,ad,decide_eq_false]
  rintro rfl;exact h rfl
theorem Fg (l:List Cl):(aX l).1.length≤64:=by
 unfold aX;split
 ·split
  ·simp
  ·next h=>show (cL l).length≤64;omega
 ·simp
def a6 (f:List Cl):Bool:=decide (aX f=(f,0))
theorem nX (hk:Fu k) {f:List Cl} (hf:am f) (hlen:f.length<2147483648) (ret:Bool→Option S):fI k f ret=ret (a6 f):=by
 have:=Fg f
 simp only [fI,Le,ah hk,iP hk hf hlen,YP hk (show (aX f).1.length<4294967296 by omega),b8,a6,beq_iff_eq]
 by_cases h:(aX f).2=0
 ·rw [if_pos h];congr 1;rw [Bool.eq_iff_iff];simp [Prod.ext_iff,h]
 ·rw [if_neg h,decide_eq_false];intro e;rw [e] at h;exact h rfl
theorem fq (hk:Fu k) {f:List Cl} (hf:am f) (hlen:f.length<2147483648) (ret:Bool→Option S):dF k f ret=ret (a6 f):=by
 have:=Fg f
 simp only [dF,LH,ah hk,lG hk hf hlen,YW hk (show (aX f).1.length<4294967296 by omega),b8,a6,beq_iff_eq]
 by_cases h:(aX f).2=0
 ·rw [if_pos h];congr 1;rw [Bool.eq_iff_iff];simp [Prod.ext_iff,h]
 ·rw [if_neg h,decide_eq_false];intro e;rw [e] at h;exact h rfl
end Go.Proofs.YtapmagaejigpnaaGreatDoor
namespace Go.Proofs.YtapmagaejigpnaaGreatDoor
open Go PI
set_option linter.unusedVariables false
set_option linter.unusedSimpArgs false
set_option maxRecDepth 20000
variable {S:Type} {k:Nat}
def RF (f:List Cl):Prop:=aX f=(f,0)∧am f
theorem eU {f:List Cl} (h:am f):a6 f=true↔RF f:=by unfold a6 RF;simp [h]
theorem RF.right {f:List Cl} (h:RF f):a6 f=true:=by unfold a6;simp [h.1]
theorem nw {l o:List Cl} (h:aX l=(o,0)):o=cL l∧l.all cu=true∧o.length≤64:=by
 unfold aX at h
 split at h
 ·next ha=>
  split at h
  ·cases h
  ·next hl=>cases h;exact ⟨rfl,ha,by omega⟩
 ·cases h
theorem RF.len {f:List Cl} (h:RF f):f.length≤64:=(nw h.1).2.2
theorem RF.rc {f:List Cl} (h:RF f) {c:Cl} (hc:c∈f):RC c:=(wj (h.2 c hc)).1 (List.all_eq_true.1 (nw h.1).2.1 c hc)
theorem W5 (l:List Cl):cL (cL l)=cL l:=wB (nC _) (nC _) fun c=>by
 rw [mem_mins]
 constructor
 ·exact fun h=>h.1
 ·intro h
  refine ⟨h, ?_⟩
  have:=(mem_mins.1 h).2
  simp only [bw,List.all_eq_true] at this ⊢
  exact fun d hd=>this d (mem_mins.1 hd).1
theorem nx {l:List Cl} (hl:am l) (h:(aX l).2=0):RF (aX l).1:=by
 have h':aX l=((aX l).1,0):=Prod.ext rfl h
 obtain ⟨h1,h2,h3⟩:=nw h'
 have hok:am (aX l).1:=fun c hc=>hl c ((mem_mins.1 (h1▸hc)).1)
 refine ⟨?_,hok⟩
 have ha:(aX l).1.all cu=true:=List.all_eq_true.2 fun c hc=>List.all_eq_true.1 h2 c (mem_mins.1 (h1▸hc)).1
 rw [h1] at ha ⊢ h3
 unfold aX
 rw [if_pos ha,W5,if_neg (by omega)]
theorem zG {l:List Cl} (h:(aX l).2≠0):(aX l).1=[]:=by
 unfold aX at h ⊢
 split
 ·next ha=>
  rw [if_pos ha] at h
  split
  ·rfl
  ·next hl=>rw [if_neg hl] at h;exact absurd rfl h
 ·rfl
theorem rD:RF []:=⟨rfl,fun c hc=>by cases hc⟩
theorem gb {c:Cl} (h:RC c):RF [c]:=by
 have hok:am [c]:=fun d hd=>by simp at hd;subst hd;exact h.ok
 refine ⟨?_,hok⟩
 have hm:cL [c]=[c]:=wB (nC _) (by simp) fun d=>by
  rw [mem_mins];simp only [List.mem_singleton]
  constructor
  ·exact fun h=>h.1
  ·rintro rfl;simp [bw]
 unfold aX
 rw [hm,if_pos (by simp [(wj h.ok).2 h]),if_neg (by simp)]
theorem lA:RC ⟨0,0⟩:=⟨⟨by decide,by decide⟩,by decide,by decide⟩
theorem d5 {f g:List Cl} (hf:am f) (hg:am g):am (f++g):=fun c hc=>by
 rcases List.mem_append.1 hc with h|h
 ·exact hf c h
 ·exact hg c h
theorem V9 (hk:Fu k) (ret:Int→Option S) {l:List (List Cl)} (hl: ∀f∈l,am f∧f.length<2147483648) (hlen:l.length<4294967296):
  ∀ (r p:List (List Cl)) (m:Nat),l=p++r→r.length<m→mR k ret l m (p.length:Int)=ret (if r.all a6 then 0 else 2):=by
 intro r
 induction r with
 |nil=>
  intro p m h hm
  obtain ⟨m,rfl,hm'⟩:=ak hm
  simp only [mR,sL,az h,ac];rfl
 |cons x r ih=>
  intro p m h hm
  obtain ⟨m,rfl,hm'⟩:=ak hm
  obtain ⟨e1,e2,e3,e4⟩:=ay h (by omega)
  have hx:=hl x (by rw [h];simp)
  simp only [mR,sL,e1,ad,e2,Option.bind_some,ah hk,nX hk hx.1 hx.2,e3,ih (p++[x]) m e4 hm']
  by_cases hr:a6 x=true
  ·have:(x::r).all a6=r.all a6:=by rw [List.all_cons,hr,Bool.true_and]
   rw [hr,Bool.not_true,ac,this]
  ·rw [Bool.not_eq_true] at hr
   have:(x::r).all a6=false:=by rw [List.all_cons,hr,Bool.false_and]
   rw [hr,Bool.not_false,ad,this,if_neg (by decide)]
theorem Bq (hk:Fu k) {l:List (List Cl)} (hl: ∀f∈l,am f∧f.length<2147483648) (hlen:l.length<4294967296) (ret:Int→Option S):l9 k l ret=ret (if l.all a6 then 0 else 2):=by
 simp only [l9,B9]
 exact V9 hk ret hl hlen l [] k rfl (by have:4294967296≤k:=hk;omega)
def bO (f g:List Cl):List Cl×Int:=aX (f++g)
def meets (f g:List Cl):List Cl:=f.flatMap fun a=>g.map (ck a)
def cJ (f g:List Cl):List Cl×Int:=aX (meets f g)
theorem GT {f g:List Cl} (hf:am f) (hg:am g):am (meets f g):=fun c hc=>by
 obtain ⟨a,ha,hc⟩:=List.mem_flatMap.1 hc
 obtain ⟨b,hb,rfl⟩:=List.mem_map.1 hc
 exact vq (hf a ha) (hg b hb)
theorem abS (f g:List Cl):(meets f g).length=f.length*g.length:=by
 induction f with
 |nil=>simp [meets]
 |cons a f ih=>
  have:meets (a::f) g=g.map (ck a)++meets f g:=by simp [meets]
  rw [this,List.length_append,ih,List.length_map,List.length_cons,Nat.succ_mul];omega
theorem iC {f g:List Cl} (hf:am f) (hg:am g) (h:(cJ f g).2=0):RF (cJ f g).1:=nx (GT hf hg) h
theorem ER {f g:List Cl} (hf:am f) (hg:am g) (h:(bO f g).2=0):RF (bO f g).1:=nx (d5 hf hg) h
theorem wq (hk:Fu k) {f g:List Cl} (hf:am f) (hg:am g) (h1:f.length<1073741824) (h2:g.length<1073741824) (ret:List Cl×Int→Option S):kw k f g ret=ret (bO f g):=by
 simp only [kw,Lf,ah hk,List.nil_append]
 rw [aV (by simp;omega),aV (by omega),iP hk (d5 hf hg) (by rw [List.length_append];omega)]
 rfl
theorem VJ (hk:Fu k) (ret:List Cl×Int→Option S) (rec0:Int→List Cl→Option S) {x:Cl} (hx:aH x) {g f:List Cl} {v:Int} (hg:am g) (hlen:g.length<65536):
  ∀ (r p:List Cl) (m:Nat) (o:List Cl),g=p++r→r.length<m→o.length+r.length<1099511627776→kN k ret rec0 x g f v m (p.length:Int) o=rec0 (IntKind.wrap .i64 (v+1)) (o++r.map (ck x)):=by
 intro r
 induction r with
 |nil=>
  intro p m o h hm ho
  obtain ⟨m,rfl,hm'⟩:=ak hm
  simp only [kN,sJ,az h,ac,List.map_nil,List.append_nil]
 |cons y r ih=>
  intro p m o h hm ho
  obtain ⟨m,rfl,hm'⟩:=ak hm
  obtain ⟨e1,e2,e3,e4⟩:=ay h (by omega)
  have hy:aH y:=hg y (by rw [h];simp)
  simp only [List.length_cons] at ho
  simp only [kN,sJ,e1,ad,e2,Option.bind_some,ah hk,Bn hk hx hy,e3]
  rw [aV (by simp;omega),ih (p++[y]) m (o++[ck x y]) e4 hm' (by simp;omega)]
  simp
theorem VI (hk:Fu k) (ret:List Cl×Int→Option S) {g f:List Cl} (hf:am f) (hg:am g) (hlf:f.length<32768) (hlg:g.length<32768):
  ∀ (r p:List Cl) (m:Nat) (o:List Cl),f=p++r→r.length<m→am o→o.length+r.length*g.length<1073741825→jE k ret g f m (p.length:Int) o=ret (aX (o++meets r g)):=by
 intro r
 induction r with
 |nil=>
  intro p m o h hm hok ho
  obtain ⟨m,rfl,hm'⟩:=ak hm
  simp only [jE,oA,az h,ac,ah hk]
  rw [iP hk hok (by omega)]
  simp [meets]
 |cons x r ih=>
  intro p m o h hm hok ho
  obtain ⟨m,rfl,hm'⟩:=ak hm
  obtain ⟨e1,e2,e3,e4⟩:=ay h (by omega)
  have hx:aH x:=hf x (by rw [h];simp)
  have hmul:(x::r).length*g.length=r.length*g.length+g.length:=by rw [List.length_cons,Nat.succ_mul]
  rw [hmul] at ho
  have hk':4294967296≤k:=hk
  simp only [jE,oA,e1,ad,e2,Option.bind_some]
  have:=VJ hk ret (jE k ret g f m) (f:=f) (v:=(p.length:Int)) hx hg (by omega) g [] k o rfl (by omega) (by omega)
  simp only [List.length_nil] at this
  rw [show (0:Int)=((0:Nat):Int) from rfl,this,e3,ih (p++[x]) m _ e4 hm' (d5 hok fun c hc=>by
   obtain ⟨b,hb,rfl⟩:=List.mem_map.1 hc
   exact vq hx (hg b hb)) (by rw [List.length_append,List.length_map];omega)]
  simp [meets]
theorem rO (hk:Fu k) {f g:List Cl} (hf:am f) (hg:am g) (h1:f.length<32768) (h2:g.length<32768) (ret:List Cl×Int→Option S):hJ k f g ret=ret (cJ f g):=by
 simp only [hJ,B7]
 have hb:f.length*g.length<1073741824:=Nat.lt_of_le_of_lt (Nat.mul_le_mul (Nat.le_of_lt_succ h1) (Nat.le_of_lt_succ h2)) (by decide)
 have:=VI hk ret hf hg h1 h2 f [] k [] rfl (by have:4294967296≤k:=hk;omega) (fun c hc=>by cases hc) (by simp;omega)
 simpa [cJ] using this
theorem We (hk:Fu k) (ret:List Cl×Int→Option S) (rec0:List Cl→Int→Option S) {x:Cl} (hx:RC x) {g f:List Cl} {v:Int} (hfx:al f v=some x) (hg: ∀c∈g,RC c) (hlen:g.length<65536):
  ∀ (r p:List Cl) (m:Nat) (o:List Cl),g=p++r→r.length<m→o.length+r.length<1099511627776→kV k ret rec0 f g v m o (p.length:Int)=rec0 (o++r.map (ck x)) (IntKind.wrap .i64 (v+1)):=by
 intro r
 induction r with
 |nil=>
  intro p m o h hm ho
  obtain ⟨m,rfl,hm'⟩:=ak hm
  simp only [kV,s_,az h,ac,List.map_nil,List.append_nil]
 |cons y r ih=>
  intro p m o h hm ho
  obtain ⟨m,rfl,hm'⟩:=ak hm
  obtain ⟨e1,e2,e3,e4⟩:=ay h (by omega)
  have hy:RC y:=hg y (by rw [h];simp)
  simp only [List.length_cons] at ho
  simp only [kV,s_,e1,ad,e2,hfx,Option.bind_some,ah hk,J_ hk hx hy,e3]
  rw [aV (by simp;omega),ih (p++[y]) m (o++[ck x y]) e4 hm' (by simp;omega)]
  simp
theorem Wd (hk:Fu k) (ret:List Cl×Int→Option S) {g f:List Cl} (hf: ∀c∈f,RC c) (hg: ∀c∈g,RC c) (hlf:f.length<32768) (hlg:g.length<32768):
  ∀ (r p:List Cl) (m:Nat) (o:List Cl),f=p++r→r.length<m→am o→o.length+r.length*g.length<1073741825→jH k ret f g m o (p.length:Int)=ret (aX (o++meets r g)):=by
 intro r
 induction r with
 |nil=>
  intro p m o h hm hok ho
  obtain ⟨m,rfl,hm'⟩:=ak hm
  simp only [jH,oH,az h,ac,ah hk]
  rw [lG hk hok (by omega)]
  simp [meets]
 |cons x r ih=>
  intro p m o h hm hok ho
  obtain ⟨m,rfl,hm'⟩:=ak hm
  obtain ⟨e1,e2,e3,e4⟩:=ay h (by omega)
  have hx:RC x:=hf x (by rw [h];simp)
  have hmul:(x::r).length*g.length=r.length*g.length+g.length:=by rw [List.length_cons,Nat.succ_mul]
  rw [hmul] at ho
  have hk':4294967296≤k:=hk
  simp only [jH,oH,e1,ad]
  have:=We hk ret (jH k ret f g m) hx e2 hg (by omega) g [] k o rfl (by omega) (by omega)
  simp only [List.length_nil] at this
  rw [show (0:Int)=((0:Nat):Int) from rfl,this,e3,ih (p++[x]) m _ e4 hm' (d5 hok fun c hc=>by
   obtain ⟨b,hb,rfl⟩:=List.mem_map.1 hc
   exact (GS hx (hg b hb)).ok) (by rw [List.length_append,List.length_map];omega)]
  simp [meets]
theorem RF.lt {f:List Cl} (h:RF f):f.length<2147483648:=by have:=h.len;omega
theorem wt (hk:Fu k) {f g:List Cl} (hf:RF f) (hg:RF g) (ret:List Cl×Int→Option S):hX k f g ret=ret (cJ f g):=by
 have l1:=hf.len;have l2:=hg.len
 simp only [hX,Cq,ah hk,fq hk hf.2 hf.lt,fq hk hg.2 hg.lt,hf.right,hg.right,Bool.not_true,ac]
 have hb:f.length*g.length≤64*64:=Nat.mul_le_mul l1 l2
 have:=Wd hk ret (fun c hc=>hf.rc hc) (fun c hc=>hg.rc hc) (by omega) (by omega) f [] k [] rfl (by have:4294967296≤k:=hk;omega) (fun c hc=>by cases hc) (by simp;omega)
 simpa [cJ] using this
theorem Zx (hk:Fu k) {f g:List Cl} (hf:RF f) (hg:RF g) (ret:List Cl×Int→Option S):ur k f g ret=ret (bO f g):=by
 have l1:=hf.len;have l2:=hg.len
 simp only [ur,LG,ah hk,fq hk hf.2 hf.lt,fq hk hg.2 hg.lt,hf.right,hg.right,Bool.not_true,ac,List.nil_append]
 rw [aV (by simp;omega),aV (by omega),lG hk (d5 hf.2 hg.2) (by rw [List.length_append];omega)]
 rfl
end Go.Proofs.YtapmagaejigpnaaGreatDoor
