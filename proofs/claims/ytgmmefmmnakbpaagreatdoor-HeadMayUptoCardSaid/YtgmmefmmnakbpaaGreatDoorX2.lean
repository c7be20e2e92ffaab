/- Part 2 of a proof; sources: wip/. -/
import Derived.Test.YtgmmefmmnakbpaaGreatDoorX1
import Derived.Test.YtgmmefmmnakbpaaGreatDoorRows
import Derived.ProofKit
import Derived.OpenShut
import Derived.ChangeArms
import Derived.Deep.Slices
open Bool renaming and_eq_true→qC,not_false→ub,not_true→xJ
open ByteArray renaming empty→qw
open Go.IntKind renaming wrap→p5
open Int renaming toNat→BT,toNat_natCast→HV
open List renaming all_eq_true→zf,append_nil→zr,getElem?_eq_getElem→Bw,getElem?_eq_some_iff→E8,length_cons→uL,map_cons→HW,mem_append→zx,mem_cons→BB,mem_map→xq,nil_append→An,range→Ez
open Nat renaming le_refl→zk,le_trans→zj
open Option renaming bind→pA,bind_some→rf
set_option linter.unusedVariables false
set_option linter.unusedSimpArgs false
namespace Go.Proofs.YtgmmefmmnakbpaaGreatDoor
set_option maxRecDepth 100000
open Go PI
section
noncomputable section
variable {S:Type} (k:Nat)
def Sd (k:Nat) (kind:Int) (kids:LT) (I:Int×Int×BA×LT->OS S):OS S:=I (kind,0,qw,kids)
def gI (k:Nat) (kind bD:Int) (I:Int×Int->OS S):OS S:=ab (kind==4) (ab (bD==1) (I (1,0)) (I (0,0))) (ab (kind==7) (ab (bD==1) (I (1,0)) (I (0,0))) (ab (kind==5) (ab (bD==0) (I (1,0)) (I (0,0))) (ab (kind==22) (ab (bD==0) (I (1,0)) (I (0,0))) (ab (kind==27) (ab (bD==0) (I (1,0)) (I (0,0))) (ab (kind==11) (ab (bD==0) (I (0,1)) (I (0,0))) (ab (kind==12) (ab (bD==0) (I (0,1)) (I (0,0))) (ab (kind==14) (ab (bD==0) (I (0,1)) (I (0,0))) (I (0,0)))))))))
abbrev du (S:Type):=Tm->Int->(Bool->OS S)->OS S
def uk (hd:du S) (k:Nat) (Fq:Tm) (p h c0:Int) (I:Bool->OS S):OS S:=hd (ac Fq) (p5 .i64 (c0-1)) fun r1=>I r1
def yi (hd:du S) (k:Nat) (I:Bool->OS S) (c0:Int) (t:Tm) (qE:Int) (x4:(Br Tm)) (h:Int) (j:Int->Int->OS S) (q:Int->OS S) (rO:Int):OS S:=ab (decide ((rO:Int)<(x4.c.length:Int))) (pA (af x4.c rO) fun x5=>aa k (uk hd k (ac x5) 0 h c0) fun x=>ab (!x) (I false) (q (p5 .i64 (rO+1)))) (j (p5 .i64 (qE+1)) h)
def WX (hd:du S) (k:Nat) (I:Bool->OS S) (j:Int->Int->OS S) (c0:Int) (t:Tm) (qE:Int) (x4:(Br Tm)) (h:Int):Nat->Int->OS S
 |0=>fun _=> .none
 |m+1=>fun rO=>yi hd k I c0 t qE x4 h j (WX hd k I j c0 t qE x4 h m) rO
def tp (hd:du S) (k:Nat) (I:Bool->OS S) (c0:Int) (t:Tm) (J2:Int->(Br Tm)->Int->Int->OS S) (j:Int->Int->OS S) (qE h:Int):OS S:=ab (decide ((qE:Int)<(t.s.length:Int))) (pA (af t.s qE) fun x4=>J2 qE x4 h 0) (I true)
def jp (hd:du S) (k:Nat) (I:Bool->OS S) (c0:Int) (t:Tm):Nat->Int->Int->OS S
 |0=>fun _ _=> .none
 |m+1=>fun qE h=>tp hd k I c0 t (fun qE x4 h rO=>WX hd k I (jp hd k I c0 t m) c0 t qE x4 h k rO) (jp hd k I c0 t m) qE h
def tn (hd:du S) (k:Nat) (I:Bool->OS S) (c0:Int) (t:Tm) (J1:Int->Int->OS S) (h:Int->OS S) (qG:Int):OS S:=ab (decide ((qG:Int)<(t.c.length:Int))) (pA (af t.c qG) fun x1=>aa k (gI k t.k qG) fun j=>aa k (uk hd k (ac x1) j.1 j.2 c0) fun q=>ab (!q) (I false) (h (p5 .i64 (qG+1)))) (ab (t.k==15) (J1 0 1) (J1 0 0))
def qS (hd:du S) (k:Nat) (I:Bool->OS S) (c0:Int) (t:Tm):Nat->Int->OS S
 |0=>fun _=> .none
 |m+1=>fun qG=>tn hd k I c0 t (fun qE h=>jp hd k I c0 t k qE h) (qS hd k I c0 t m) qG
def IV (hd:du S) (k:Nat) (I:Bool->OS S) (J0:Int->OS S) (t:Tm) (c0:Int):OS S:=J0 0
def DX (hd:du S) (k:Nat) (t:Tm) (c0:Int) (I:Bool->OS S):OS S:=IV hd k I (fun qG=>qS hd k I c0 t k qG) t c0
def TV (hd:du S) (k:Nat) (I:Bool->OS S) (t:Tm) (left:Int):OS S:=ab (decide ((left:Int)>0)) (aa k (DX hd k (ac t) left) fun r1=>I r1) (I false)
def jf:Nat->Tm->Int->(Bool->OS S)->OS S
 |0=>fun _ _ _=> .none
 |k+1=>fun t left I=>TV (jf k) k I t left
abbrev Ip (S:Type):=Tm->Int->(Bool×Int->OS S)->OS S
def pB (hd:Ip S) (k:Nat) (t:Tm) (c0:Int) (I:Bool×Int->OS S):OS S:=ab (decide ((p5 .i64 (c0-1):Int)>=0)) (hd (ac t) (p5 .i64 (c0-1)) fun r1=>I (r1.1,r1.2)) (I (false,p5 .i64 (c0-1)))
def ul (hd:Ip S) (k:Nat) (Fq:Tm) (p h c1:Int) (I:Bool×Int->OS S):OS S:=aa k (pB hd k (ac Fq) c1) fun r1=>I (r1.1,r1.2)
def yg (hd:Ip S) (k:Nat) (I:Bool×Int->OS S) (t:Tm) (qE:Int) (x4:(Br Tm)) (h:Int) (j:Int->Int->Int->OS S) (q:Int->Int->OS S) (uC rO:Int):OS S:=ab (decide ((rO:Int)<(x4.c.length:Int))) (pA (af x4.c rO) fun x5=>aa k (ul hd k (ac x5) 0 h uC) fun x=>ab (!x.1) (I (false,x.2)) (q x.2 (p5 .i64 (rO+1)))) (j uC (p5 .i64 (qE+1)) h)
def kL (hd:Ip S) (k:Nat) (I:Bool×Int->OS S) (j:Int->Int->Int->OS S) (t:Tm) (qE:Int) (x4:(Br Tm)) (h:Int):Nat->Int->Int->OS S
 |0=>fun _ _=> .none
 |m+1=>fun uC rO=>yg hd k I t qE x4 h j (kL hd k I j t qE x4 h m) uC rO
def tj (hd:Ip S) (k:Nat) (I:Bool×Int->OS S) (t:Tm) (J2:Int->(Br Tm)->Int->Int->Int->OS S) (j:Int->Int->Int->OS S) (tV qE h:Int):OS S:=ab (decide ((qE:Int)<(t.s.length:Int))) (pA (af t.s qE) fun x4=>J2 qE x4 h tV 0) (I (true,tV))
def NA (hd:Ip S) (k:Nat) (I:Bool×Int->OS S) (t:Tm):Nat->Int->Int->Int->OS S
 |0=>fun _ _ _=> .none
 |m+1=>fun tV qE h=>tj hd k I t (fun qE x4 h uC rO=>kL hd k I (NA hd k I t m) t qE x4 h k uC rO) (NA hd k I t m) tV qE h
def ti (hd:Ip S) (k:Nat) (I:Bool×Int->OS S) (t:Tm) (J1:Int->Int->Int->OS S) (h:Int->Int->OS S) (arm qG:Int):OS S:=ab (decide ((qG:Int)<(t.c.length:Int))) (pA (af t.c qG) fun x1=>aa k (gI k t.k qG) fun q=>aa k (ul hd k (ac x1) q.1 q.2 arm) fun j=>ab (!j.1) (I (false,j.2)) (h j.2 (p5 .i64 (qG+1)))) (ab (t.k==15) (J1 arm 0 1) (J1 arm 0 0))
def nY (hd:Ip S) (k:Nat) (I:Bool×Int->OS S) (t:Tm):Nat->Int->Int->OS S
 |0=>fun _ _=> .none
 |m+1=>fun arm qG=>ti hd k I t (fun tV qE h=>NA hd k I t k tV qE h) (nY hd k I t m) arm qG
def IT (hd:Ip S) (k:Nat) (I:Bool×Int->OS S) (J0:Int->Int->OS S) (t:Tm) (c1:Int):OS S:=J0 c1 0
def Mx:Nat->Tm->Int->(Bool×Int->OS S)->OS S
 |0=>fun _ _ _=> .none
 |k+1=>fun t c1 I=>IT (Mx k) k I (fun arm qG=>nY (Mx k) k I t k arm qG) t c1
def zE (t:Tm) (p6:Int) (I:Bool->OS S):OS S:=aa k (pB (Mx k) k (ac t) p6) fun r1=>I r1.1
def zD (t:Tm) (I:Int->OS S):OS S:=jf k (ac t) 200 fun r1=>ab (!r1) (I 62) (aa k (zE k (ac t) 20000) fun h=>ab (!h) (I 221) (I 0))
def zA (k:Nat) (kind:Int) (I:Int->OS S):OS S:=ab (kind==1) (I 0) (ab (kind==2) (I 0) (ab (kind==3) (I 0) (ab (kind==19) (I 0) (ab (kind==20) (I 0) (ab (kind==24) (I 0) (ab (kind==25) (I 0) (ab (kind==21) (I 0) (ab (kind==5) (I 1) (ab (kind==9) (I 1) (ab (kind==10) (I 1) (ab (kind==23) (I 1) (ab (kind==12) (I 1) (ab (kind==16) (I 1) (ab (kind==17) (I 1) (ab (kind==18) (I 1) (ab (kind==26) (I 1) (ab (kind==4) (I 2) (ab (kind==7) (I 2) (ab (kind==6) (I 2) (ab (kind==8) (I 2) (ab (kind==14) (I 2) (ab (kind==15) (I 2) (ab (kind==28) (I 2) (ab (kind==11) (I 3) (ab (kind==13) (I 3) (ab (kind==22) (I 4) (ab (kind==27) (I 5) (I (-1)))))))))))))))))))))))))))))
def lJ (k:Nat) (kind:Int) (I:Int->OS S):OS S:=ab (kind==15) (I 1) (ab (kind==17) (I 1) (ab (kind==18) (I 1) (ab (kind==16) (I 2) (I 0))))
def Dk (k:Nat) (I:Bool->OS S) (s:BA) (q:Int) (x1:UInt8) (j:Int->OS S) (h:Bool):OS S:=ab (!h) (ab (q==0) (I false) (ab (decide (((x1.toNat:Int):Int)<48)) (I false) (ab (decide (((x1.toNat:Int):Int)>57)) (I false) (j (p5 .i64 (q+1)))))) (j (p5 .i64 (q+1)))
def Aq (I:Bool->OS S) (j:Int->OS S) (s:BA) (q:Int) (x1:UInt8):Nat->Bool->OS S
 |0=>fun _=> .none
 |_+1=>fun h=>Dk k I s q x1 j h
def tv (k:Nat) (I:Bool->OS S) (s:BA) (J1:Int->UInt8->Bool->OS S) (j:Int->OS S) (h:Int):OS S:=ab (decide ((h:Int)<(s.size:Int))) (pA (af s.data.toList h) fun x1=>ab (decide (((x1.toNat:Int):Int)>=97)) (ab (decide (((x1.toNat:Int):Int)<=122)) (J1 h x1 true) (ab (decide (((x1.toNat:Int):Int)>=65)) (ab (decide (((x1.toNat:Int):Int)<=90)) (J1 h x1 true) (J1 h x1 ((x1.toNat:Int)==95))) (J1 h x1 ((x1.toNat:Int)==95)))) (ab (decide (((x1.toNat:Int):Int)>=65)) (ab (decide (((x1.toNat:Int):Int)<=90)) (J1 h x1 true) (J1 h x1 ((x1.toNat:Int)==95))) (J1 h x1 ((x1.toNat:Int)==95)))) (I (!(s==qw)))
def n7 (k:Nat) (I:Bool->OS S) (s:BA):Nat->Int->OS S
 |0=>fun _=> .none
 |m+1=>fun j=>tv k I s (fun j x1 h=>Aq k I (n7 k I s m) s j x1 k h) (n7 k I s m) j
def IY (k:Nat) (I:Bool->OS S) (J0:Int->OS S) (s:BA):OS S:=J0 0
def zC (s:BA) (I:Bool->OS S):OS S:=IY k I (fun h=>n7 k I s k h) s
def pm (k:Nat) (s:Int) (I:Bool->OS S):OS S:=I ((bj .andNot .u32 s 16777215)==0)
def tC (c:Cl) (I:Bool->OS S):OS S:=aa k (pm k c.pos) fun r1=>ab (r1) (aa k (pm k c.neg) fun h=>I h) (I false)
def pb (k:Nat) (a b:Cl) (I:Cl->OS S):OS S:=I (Cl.mk (bj .or .u32 a.pos b.pos) (bj .or .u32 a.neg b.neg))
def yA (a b:Cl) (I:Bool->OS S):OS S:=aa k (pb k a b) fun r1=>I ((r1.pos==a.pos)&&((r1.neg==a.neg)&&true))
def yC (d c0:Cl) (I:Bool->OS S):OS S:=ab (!((c0.pos==d.pos)&&((c0.neg==d.neg)&&true))) (aa k (yA k c0 d) fun r1=>I r1) (I false)
def yc (I:Int->OS S) (c0:Cl) (s:LC) (h:Int->OS S) (j:Int):OS S:=ab (decide ((j:Int)<(s.length:Int))) (pA (af s j) fun x1=>aa k (yC k x1 c0) fun q=>ab (q) (I j) (h (p5 .i64 (j+1)))) (I (-1))
def qO (k:Nat) (I:Int->OS S) (c0:Cl) (s:LC):Nat->Int->OS S
 |0=>fun _=> .none
 |m+1=>fun h=>yc k I c0 s (qO k I c0 s m) h
def IM (k:Nat) (I:Int->OS S) (J0:Int->OS S) (s:LC) (c0:Cl):OS S:=J0 0
def DV (s:LC) (c0:Cl) (I:Int->OS S):OS S:=IM k I (fun h=>qO k I c0 s k h) s c0
def DT (s:LC) (c0:Cl) (I:Bool->OS S):OS S:=aa k (DV k s c0) fun r1=>I (decide ((r1:Int)>=0))
def yB (c:Cl) (c0:LC) (I:Bool->OS S):OS S:=aa k (DT k c0 c) fun r1=>I r1
def wM (I:LC×Int->OS S) (j:LC) (q:Int->(LC)->OS S) (II:Int) (h:LC):OS S:=ab (decide ((II:Int)<(j.length:Int))) (pA (af j II) fun x4=>aa k (yB k x4 j) fun x=>ab (!x) (pA (aw 1099511627776 h.length [x4].length) fun x6=>q (p5 .i64 (II+1)) (h++[x4])) (q (p5 .i64 (II+1)) h)) (ab (decide (((h.length:Int):Int)>64)) (I (([]:LC),3)) (I (sortCl h,0)))
def nz (k:Nat) (I:LC×Int->OS S) (h:LC):Nat->Int->(LC)->OS S
 |0=>fun _ _=> .none
 |m+1=>fun II j=>wM k I h (nz k I h m) II j
def sF (I:LC×Int->OS S) (l:LC) (J1:(LC)->Int->(LC)->OS S) (q:(List (Cl×Bool))->(LC)->Int->OS S) (x:List (Cl×Bool)) (h:LC) (j:Int):OS S:=ab (decide ((j:Int)<(l.length:Int))) (pA (af l j) fun x1=>aa k (tC k x1) fun z=>ab (!z) (I (([]:LC),2)) (ab (!((dW VV ET.C x x1).getD false)) (pA (aw 1099511627776 h.length [x1].length) fun x3=>q (Mm VV ET.C x x1 true) (h++[x1]) (p5 .i64 (j+1))) (q x h (p5 .i64 (j+1))))) (J1 h 0 ([]:LC))
def pZ (k:Nat) (I:LC×Int->OS S) (l:LC):Nat->(List (Cl×Bool))->(LC)->Int->OS S
 |0=>fun _ _ _=> .none
 |m+1=>fun q h x=>sF k I l (fun h II j=>nz k I h k II j) (pZ k I l m) q h x
def Hw (k:Nat) (I:LC×Int->OS S) (J0:(List (Cl×Bool))->(LC)->Int->OS S) (l:LC):OS S:=J0 ([]:List (Cl×Bool)) ([]:LC) 0
def gy (l:LC) (I:LC×Int->OS S):OS S:=Hw k I (fun j h q=>pZ k I l k j h q) l
def yb (k:Nat) (I:Bool->OS S) (s1 s2:LC) (j:Int->OS S) (h:Int):OS S:=ab (decide ((h:Int)<(s1.length:Int))) (pA (af s1 h) fun x1=>pA (af s2 h) fun x2=>ab (!((x1.pos==x2.pos)&&((x1.neg==x2.neg)&&true))) (I false) (j (p5 .i64 (h+1)))) (I true)
def qN (k:Nat) (I:Bool->OS S) (s1 s2:LC):Nat->Int->OS S
 |0=>fun _=> .none
 |m+1=>fun h=>yb k I s1 s2 (qN k I s1 s2 m) h
def IL (k:Nat) (I:Bool->OS S) (J0:Int->OS S) (s1 s2:LC):OS S:=ab (!((s1.length:Int)==(s2.length:Int))) (I false) (J0 0)
def zz (s1 s2:LC) (I:Bool->OS S):OS S:=IL k I (fun h=>qN k I s1 s2 k h) s1 s2
def hY (f:LC) (I:Bool->OS S):OS S:=aa k (gy k f) fun r1=>ab (r1.2==0) (aa k (zz k r1.1 f) fun h=>I h) (I false)
def nd (k:Nat) (i:Int) (I:Bool->OS S):OS S:=ab (decide ((i:Int)>=0)) (I (decide ((i:Int)<24))) (I false)
def jX (s i:Int) (I:Int->OS S):OS S:=aa k (nd k i) fun r1=>ab (!r1) (I (bj .and .u32 s 16777215)) (pA (bR (0<=(p5 .u64 i))) fun x2=>I (bj .andNot .u32 (bj .and .u32 s 16777215) (p5 .u32 (1*2^min (BT (p5 .u64 i)) 32))))
def wY (I:Int->OS S) (f:LC) (h:Int->Int->OS S) (q j:Int):OS S:=ab (decide ((j:Int)<(f.length:Int))) (pA (af f j) fun x1=>h (bj .or .u32 q (bj .or .u32 x1.pos x1.neg)) (p5 .i64 (j+1))) (aa k (jX k q (-1)) fun x=>I x)
def qb (k:Nat) (I:Int->OS S) (f:LC):Nat->Int->Int->OS S
 |0=>fun _ _=> .none
 |m+1=>fun h j=>wY k I f (qb k I f m) h j
def HL (k:Nat) (I:Int->OS S) (J0:Int->Int->OS S) (f:LC):OS S:=J0 0 0
def h8 (f:LC) (I:Int->OS S):OS S:=HL k I (fun h j=>qb k I f k h j) f
def lK (f:LC) (px:Int) (I:Bool->OS S):OS S:=ab (decide ((px:Int)>=24)) (I true) (aa k (h8 k f) fun r1=>pA (bR (0<=(p5 .u64 px))) fun x2=>I ((Int.fdiv r1 (2^min (BT (p5 .u64 px)) 32))==0))
def tB (k:Nat) (c:Cl) (I:Bool->OS S):OS S:=I (!((bj .and .u32 c.pos c.neg)==0))
def yd (I:Int->OS S) (s:LC) (h:Int->OS S) (j:Int):OS S:=ab (decide ((j:Int)<(s.length:Int))) (pA (af s j) fun x1=>aa k (tB k x1) fun q=>ab (q) (I j) (h (p5 .i64 (j+1)))) (I (-1))
def qP (k:Nat) (I:Int->OS S) (s:LC):Nat->Int->OS S
 |0=>fun _=> .none
 |m+1=>fun h=>yd k I s (qP k I s m) h
def IN (k:Nat) (I:Int->OS S) (J0:Int->OS S) (s:LC):OS S:=J0 0
def DW (s:LC) (I:Int->OS S):OS S:=IN k I (fun h=>qP k I s k h) s
def DU (s:LC) (I:Bool->OS S):OS S:=aa k (DW k s) fun r1=>I (decide ((r1:Int)>=0))
def pd (f:LC) (I:Bool->OS S):OS S:=aa k (hY k f) fun r1=>ab (r1) (aa k (DU k f) fun h=>I (!h)) (I false)
def yl (I:Bool->OS S) (t:Tm) (px:Int) (j:Int->OS S) (v109:Int):OS S:=ab (decide ((v109:Int)<(t.s.length:Int))) (pA (af t.s v109) fun h=>aa k (lJ k t.k) fun r13=>ab (!((h.c.length:Int)==r13)) (I false) (aa k (pd k h.f) fun r14=>ab (!r14) (I false) (aa k (lK k h.f px) fun q=>ab (!q) (I false) (j (p5 .i64 (v109+1)))))) (I ((t.r.length:Int)==0))
def kO (k:Nat) (I:Bool->OS S) (t:Tm) (px:Int):Nat->Int->OS S
 |0=>fun _=> .none
 |m+1=>fun v109=>yl k I t px (kO k I t px m) v109
def tw (I:Bool->OS S) (t:Tm) (vars px:Int) (J1:Int->OS S):OS S:=ab (t.k==1) (ab ((t.r.length:Int)==0) (ab (decide ((t.n:Int)>=0)) (ab (decide ((vars:Int)<0)) (I true) (I (decide ((t.n:Int)<vars)))) (I false)) (I false)) (ab (t.k==2) (ab ((t.r.length:Int)==0) (aa k (zC k t.name) fun q=>I q) (I false)) (ab (t.k==13) (aa k (hY k t.r) fun x=>ab (x) (aa k (lK k t.r px) fun z=>I z) (I false)) (ab (t.k==21) (aa k (hY k t.r) fun A=>ab (A) (aa k (lK k t.r px) fun B=>I B) (I false)) (ab (t.k==26) (aa k (hY k t.r) fun E=>ab (E) (aa k (lK k t.r px) fun F=>I F) (I false)) (ab (t.k==14) (aa k (pd k t.r) fun h=>ab (h) (aa k (lK k t.r px) fun j=>I j) (I false)) (J1 0))))))
def Ar (I:Bool->OS S) (t:Tm) (vars px:Int):Nat->OS S
 |0=> .none
 |_+1=>tw k I t vars px (fun v109=>kO k I t px k v109)
def IZ (I:Bool->OS S) (J0:OS S) (t:Tm) (vars px:Int):OS S:=aa k (zA k t.k) fun r1=>ab (!(r1==(t.c.length:Int))) (I false) (ab (!(t.k==1)) (ab (!(t.n==0)) (I false) (ab (!(t.k==2)) (ab (!(t.name==qw)) (I false) (aa k (lJ k t.k) fun x=>ab (x==0) (ab (decide (((t.s.length:Int):Int)>0)) (I false) (J0)) (J0))) (aa k (lJ k t.k) fun h=>ab (h==0) (ab (decide (((t.s.length:Int):Int)>0)) (I false) (J0)) (J0)))) (ab (!(t.k==2)) (ab (!(t.name==qw)) (I false) (aa k (lJ k t.k) fun j=>ab (j==0) (ab (decide (((t.s.length:Int):Int)>0)) (I false) (J0)) (J0))) (aa k (lJ k t.k) fun q=>ab (q==0) (ab (decide (((t.s.length:Int):Int)>0)) (I false) (J0)) (J0))))
def uj (t:Tm) (vars px:Int) (I:Bool->OS S):OS S:=IZ k I (Ar k I t vars px k) t vars px
abbrev dr (S:Type):=Tm->Int->Int->Bool->(Bool->OS S)->OS S
def uh (hd:dr S) (k:Nat) (Fq:Tm) (v d c0 c1:Int) (c2:Bool) (I:Bool->OS S):OS S:=ab (decide ((c0:Int)<0)) (hd (ac Fq) (p5 .i64 (c0+0)) (p5 .i64 (c1+d)) c2 fun r1=>I r1) (hd (ac Fq) (p5 .i64 (c0+v)) (p5 .i64 (c1+d)) c2 fun h=>I h)
def yh (hd:dr S) (k:Nat) (I:Bool->OS S) (c0 c1:Int) (c2:Bool) (t:Tm) (qE:Int) (x4:(Br Tm)) (h:Int) (j:Int->Int->OS S) (q:Int->OS S) (rO:Int):OS S:=ab (decide ((rO:Int)<(x4.c.length:Int))) (pA (af x4.c rO) fun x5=>aa k (uh hd k (ac x5) 0 h c0 c1 c2) fun x=>ab (!x) (I false) (q (p5 .i64 (rO+1)))) (j (p5 .i64 (qE+1)) h)
def mi (hd:dr S) (k:Nat) (I:Bool->OS S) (j:Int->Int->OS S) (c0 c1:Int) (c2:Bool) (t:Tm) (qE:Int) (x4:(Br Tm)) (h:Int):Nat->Int->OS S
 |0=>fun _=> .none
 |m+1=>fun rO=>yh hd k I c0 c1 c2 t qE x4 h j (mi hd k I j c0 c1 c2 t qE x4 h m) rO
def tl (hd:dr S) (k:Nat) (I:Bool->OS S) (c0 c1:Int) (c2:Bool) (t:Tm) (J2:Int->(Br Tm)->Int->Int->OS S) (j:Int->Int->OS S) (qE h:Int):OS S:=ab (decide ((qE:Int)<(t.s.length:Int))) (pA (af t.s qE) fun x4=>J2 qE x4 h 0) (I true)
def iC (hd:dr S) (k:Nat) (I:Bool->OS S) (c0 c1:Int) (c2:Bool) (t:Tm):Nat->Int->Int->OS S
 |0=>fun _ _=> .none
 |m+1=>fun qE h=>tl hd k I c0 c1 c2 t (fun qE x4 h rO=>mi hd k I (iC hd k I c0 c1 c2 t m) c0 c1 c2 t qE x4 h k rO) (iC hd k I c0 c1 c2 t m) qE h
def tk (hd:dr S) (k:Nat) (I:Bool->OS S) (c0 c1:Int) (c2:Bool) (t:Tm) (J1:Int->Int->OS S) (h:Int->OS S) (qG:Int):OS S:=ab (decide ((qG:Int)<(t.c.length:Int))) (pA (af t.c qG) fun x1=>aa k (gI k t.k qG) fun j=>aa k (uh hd k (ac x1) j.1 j.2 c0 c1 c2) fun q=>ab (!q) (I false) (h (p5 .i64 (qG+1)))) (ab (t.k==15) (J1 0 1) (J1 0 0))
def nZ (hd:dr S) (k:Nat) (I:Bool->OS S) (c0 c1:Int) (c2:Bool) (t:Tm):Nat->Int->OS S
 |0=>fun _=> .none
 |m+1=>fun qG=>tk hd k I c0 c1 c2 t (fun qE h=>iC hd k I c0 c1 c2 t k qE h) (nZ hd k I c0 c1 c2 t m) qG
def IU (hd:dr S) (k:Nat) (I:Bool->OS S) (J0:Int->OS S) (t:Tm) (c0 c1:Int) (c2:Bool):OS S:=J0 0
def zB (hd:dr S) (k:Nat) (t:Tm) (c0 c1:Int) (c2:Bool) (I:Bool->OS S):OS S:=IU hd k I (fun qG=>nZ hd k I c0 c1 c2 t k qG) t c0 c1 c2
def TT (hd:dr S) (k:Nat) (I:Bool->OS S) (t:Tm) (vars px:Int) (bound:Bool):OS S:=ab (bound) (ab (decide ((px:Int)>24)) (I false) (aa k (uj k (ac t) vars px) fun r1=>ab (!r1) (I false) (aa k (zB hd k (ac t) vars px bound) fun h=>I h))) (aa k (uj k (ac t) vars px) fun j=>ab (!j) (I false) (aa k (zB hd k (ac t) vars px bound) fun q=>I q))
def ic:Nat->Tm->Int->Int->Bool->(Bool->OS S)->OS S
 |0=>fun _ _ _ _ _=> .none
 |k+1=>fun t vars px bound I=>TT (ic k) k I t vars px bound
def HN (t:Tm) (I:Int->OS S):OS S:=aa k (zD k (ac t)) fun r1=>ab (!(r1==0)) (I r1) (ic k (ac t) (-1) 24 false fun h=>ab (!h) (I 100) (I 0))
abbrev eP (S:Type):=Tm->(Tm->OS S)->OS S
def yf (hd:eP S) (k:Nat) (I:LT->OS S) (l:LT) (j:(LT)->Int->OS S) (h:LT) (q:Int):OS S:=ab (decide ((q:Int)<(l.length:Int))) (pA (af l q) fun x1=>hd (ac x1) fun x=>pA (aw 1099511627776 h.length [(ac x)].length) fun x3=>j (h++[(ac x)]) (p5 .i64 (q+1))) (I h)
def x9 (hd:eP S) (k:Nat) (I:LT->OS S) (l:LT):Nat->(LT)->Int->OS S
 |0=>fun _ _=> .none
 |m+1=>fun h j=>yf hd k I l (x9 hd k I l m) h j
def IS (hd:eP S) (k:Nat) (I:LT->OS S) (J0:(LT)->Int->OS S) (l:LT):OS S:=J0 ([]:LT) 0
def ui (hd:eP S) (k:Nat) (l:LT) (I:LT->OS S):OS S:=IS hd k I (fun h j=>x9 hd k I l k h j) l
def ye (hd:eP S) (k:Nat) (I:Tm->OS S) (t:Tm) (r1:LC) (r2:LT) (j:(LB)->Int->OS S) (h:LB) (v22:Int):OS S:=ab (decide ((v22:Int)<(t.s.length:Int))) (pA (af t.s v22) fun x3=>kq x3.f fun q=>aa k (ui hd k x3.c) fun x=>pA (aw 1099511627776 h.length [(Br.mk q x)].length) fun x6=>j (h++[(Br.mk q x)]) (p5 .i64 (v22+1))) (I (Tm.mk t.k t.n t.name r1 r2 h))
def qQ (hd:eP S) (k:Nat) (I:Tm->OS S) (t:Tm) (r1:LC) (r2:LT):Nat->(LB)->Int->OS S
 |0=>fun _ _=> .none
 |m+1=>fun h v22=>ye hd k I t r1 r2 (qQ hd k I t r1 r2 m) h v22
def IP (hd:eP S) (k:Nat) (I:Tm->OS S) (J0:(LC)->(LT)->(LB)->Int->OS S) (t:Tm):OS S:=kq t.r fun r1=>aa k (ui hd k t.c) fun h=>J0 r1 h ([]:LB) 0
def dJ:Nat->Tm->(Tm->OS S)->OS S
 |0=>fun _ _=> .none
 |k+1=>fun t I=>IP (dJ k) k I (fun r1 j h v22=>qQ (dJ k) k I t r1 j k h v22) t
def dG (k:Nat) (c0:Int) (I:Bool->OS S):OS S:=I (c0==0)
abbrev dq (S:Type):=Tm->(Int->OS S)->OS S
def ug (hd:dq S) (k:Nat) (Fq:Tm) (p h c0:Int) (I:Bool×Int->OS S):OS S:=hd (ac Fq) fun r1=>I (true,p5 .i64 (c0+r1))
def yj (hd:dq S) (k:Nat) (I:Bool×Int->OS S) (t:Tm) (qE:Int) (x4:(Br Tm)) (h:Int) (j:Int->Int->Int->OS S) (q:Int->Int->OS S) (rL rO:Int):OS S:=ab (decide ((rO:Int)<(x4.c.length:Int))) (pA (af x4.c rO) fun x5=>aa k (ug hd k (ac x5) 0 h rL) fun x=>ab (!x.1) (I (false,x.2)) (q x.2 (p5 .i64 (rO+1)))) (j rL (p5 .i64 (qE+1)) h)
def n4 (hd:dq S) (k:Nat) (I:Bool×Int->OS S) (j:Int->Int->Int->OS S) (t:Tm) (qE:Int) (x4:(Br Tm)) (h:Int):Nat->Int->Int->OS S
 |0=>fun _ _=> .none
 |m+1=>fun rL rO=>yj hd k I t qE x4 h j (n4 hd k I j t qE x4 h m) rL rO
def tr (hd:dq S) (k:Nat) (I:Bool×Int->OS S) (t:Tm) (J2:Int->(Br Tm)->Int->Int->Int->OS S) (j:Int->Int->Int->OS S) (re qE h:Int):OS S:=ab (decide ((qE:Int)<(t.s.length:Int))) (pA (af t.s qE) fun x4=>J2 qE x4 h re 0) (I (true,re))
def kM (hd:dq S) (k:Nat) (I:Bool×Int->OS S) (t:Tm):Nat->Int->Int->Int->OS S
 |0=>fun _ _ _=> .none
 |m+1=>fun re qE h=>tr hd k I t (fun qE x4 h rL rO=>n4 hd k I (kM hd k I t m) t qE x4 h k rL rO) (kM hd k I t m) re qE h
def tq (hd:dq S) (k:Nat) (I:Bool×Int->OS S) (t:Tm) (J1:Int->Int->Int->OS S) (j:Int->Int->OS S) (h qG:Int):OS S:=ab (decide ((qG:Int)<(t.c.length:Int))) (pA (af t.c qG) fun x1=>aa k (gI k t.k qG) fun x=>aa k (ug hd k (ac x1) x.1 x.2 h) fun q=>ab (!q.1) (I (false,q.2)) (j q.2 (p5 .i64 (qG+1)))) (ab (t.k==15) (J1 h 0 1) (J1 h 0 0))
def ix (hd:dq S) (k:Nat) (I:Bool×Int->OS S) (t:Tm):Nat->Int->Int->OS S
 |0=>fun _ _=> .none
 |m+1=>fun j qG=>tq hd k I t (fun re qE h=>kM hd k I t k re qE h) (ix hd k I t m) j qG
def IW (hd:dq S) (k:Nat) (I:Bool×Int->OS S) (J0:Int->Int->OS S) (t:Tm) (c0:Int):OS S:=J0 c0 0
def DY (hd:dq S) (k:Nat) (t:Tm) (c0:Int) (I:Bool×Int->OS S):OS S:=IW hd k I (fun h qG=>ix hd k I t k h qG) t c0
def TS (hd:dq S) (k:Nat) (I:Int->OS S) (t:Tm):OS S:=aa k (DY hd k (ac t) 1) fun r1=>I r1.2
def j6:Nat->Tm->(Int->OS S)->OS S
 |0=>fun _ _=> .none
 |k+1=>fun t I=>TS (j6 k) k I t
abbrev fK (S:Type):=Tm->Int->(Int->OS S)->OS S
def xh (hd:fK S) (k:Nat) (I:Int->OS S) (rm:Int) (t:Tm) (rO:Int) (x4:(Br Tm)) (q:Int->Int->OS S) (x:Int->Int->OS S) (h j:Int):OS S:=ab (decide ((j:Int)<(x4.c.length:Int))) (pA (af x4.c j) fun x5=>hd (ac x5) rm fun z=>x (p5 .i64 (h+z)) (p5 .i64 (j+1))) (q (p5 .i64 (rO+1)) h)
def nG (hd:fK S) (k:Nat) (I:Int->OS S) (j:Int->Int->OS S) (rm:Int) (t:Tm) (rO:Int) (x4:(Br Tm)):Nat->Int->Int->OS S
 |0=>fun _ _=> .none
 |m+1=>fun h q=>xh hd k I rm t rO x4 j (nG hd k I j rm t rO x4 m) h q
def sE (hd:fK S) (k:Nat) (I:Int->OS S) (rm:Int) (t:Tm) (J3:Int->(Br Tm)->Int->Int->OS S) (j:Int->Int->OS S) (rO h:Int):OS S:=ab (decide ((rO:Int)<(t.s.length:Int))) (pA (af t.s rO) fun x4=>J3 rO x4 h 0) (I h)
def ku (hd:fK S) (k:Nat) (I:Int->OS S) (rm:Int) (t:Tm):Nat->Int->Int->OS S
 |0=>fun _ _=> .none
 |m+1=>fun rO j=>sE hd k I rm t (fun rO x4 h q=>nG hd k I (ku hd k I rm t m) rm t rO x4 k h q) (ku hd k I rm t m) rO j
def sD (hd:fK S) (k:Nat) (I:Int->OS S) (t:Tm) (rm:Int) (J2:Int->Int->OS S) (j:Int->Int->OS S) (HM h:Int):OS S:=ab (decide ((HM:Int)<(t.c.length:Int))) (pA (af t.c HM) fun x1=>aa k (gI k t.k HM) fun q=>hd (ac x1) (p5 .i64 (rm+q.1)) fun x=>j (p5 .i64 (HM+1)) (p5 .i64 (h+x))) (J2 0 h)
def nF (hd:fK S) (k:Nat) (I:Int->OS S) (t:Tm) (rm:Int):Nat->Int->Int->OS S
 |0=>fun _ _=> .none
 |m+1=>fun HM j=>sD hd k I t rm (fun rO h=>ku hd k I rm t k rO h) (nF hd k I t rm m) HM j
def xg (hd:fK S) (k:Nat) (I:Int->OS S) (t:Tm) (rm:Int) (J1:Int->Int->OS S):OS S:=J1 0 0
def Ak (hd:fK S) (k:Nat) (I:Int->OS S) (t:Tm) (rm:Int):Nat->OS S
 |0=> .none
 |_+1=>xg hd k I t rm (fun HM h=>nF hd k I t rm k HM h)
def BU (hd:fK S) (k:Nat) (I:Int->OS S) (J0:OS S) (t:Tm) (rm:Int):OS S:=ab (t.k==1) (ab (t.n==rm) (I 1) (J0)) (J0)
def gz:Nat->Tm->Int->(Int->OS S)->OS S
 |0=>fun _ _ _=> .none
 |k+1=>fun t rm I=>BU (gz k) k I (Ak (gz k) k I t rm k) t rm
def w9 (I:Int->OS S) (l:List (LC)) (h:Int->OS S) (j:Int):OS S:=ab (decide ((j:Int)<(l.length:Int))) (pA (af l j) fun x1=>aa k (hY k x1) fun q=>ab (!q) (I 2) (h (p5 .i64 (j+1)))) (I 0)
def qi (k:Nat) (I:Int->OS S) (l:List (LC)):Nat->Int->OS S
 |0=>fun _=> .none
 |m+1=>fun h=>w9 k I l (qi k I l m) h
def HT (k:Nat) (I:Int->OS S) (J0:Int->OS S) (l:List (LC)):OS S:=J0 0
def pi (l:List (LC)) (I:Int->OS S):OS S:=HT k I (fun h=>qi k I l k h) l
def tK (k:Nat) (I:LC->OS S):OS S:=I ([]:LC)
def pn (k:Nat) (i:Int) (I:Int->OS S):OS S:=pA (bR (0<=(p5 .u64 (if 24<i then 24 else i)))) fun x1=>I (p5 .u32 (p5 .u64 ((p5 .u64 (1*2^min (BT (p5 .u64 (if 24<i then 24 else i))) 64))-1)))
def lx (s qk rj:Int) (I:Int×Int->OS S):OS S:=ab (decide ((qk:Int)<0)) (I (0,2)) (ab (decide ((rj:Int)<0)) (I (0,2)) (aa k (pn k qk) fun r1=>aa k (pn k qk) fun h=>ab ((p5 .u64 (bj .andNot .u32 (bj .and .u32 s 16777215) h))==0) (I (bj .and .u32 (bj .and .u32 s 16777215) r1,0)) (ab (decide ((rj:Int)>=24)) (I (0,10)) (pA (bR (0<=(p5 .u64 rj))) fun x3=>ab (decide ((p5 .u64 ((p5 .u64 (bj .andNot .u32 (bj .and .u32 s 16777215) h))*2^min (BT (p5 .u64 rj)) 64):Int)>16777215)) (I (0,10)) (pA (bR (0<=(p5 .u64 rj))) fun x4=>I (bj .or .u32 (bj .and .u32 (bj .and .u32 s 16777215) r1) (p5 .u32 (p5 .u64 ((p5 .u64 (bj .andNot .u32 (bj .and .u32 s 16777215) h))*2^min (BT (p5 .u64 rj)) 64))),0))))))
def yD (c:Cl) (qk rj:Int) (I:Cl×Int->OS S):OS S:=aa k (tC k c) fun r1=>ab (!r1) (I ((Cl.mk 0 0),2)) (aa k (lx k c.pos qk rj) fun h=>ab (!(h.2==0)) (I ((Cl.mk 0 0),h.2)) (aa k (lx k c.neg qk rj) fun j=>ab (!(j.2==0)) (I ((Cl.mk 0 0),j.2)) (I ((Cl.mk h.1 j.1),0))))
def DN (tT:LC) (c:Cl) (c0 c1:Int) (I:LC×Int->OS S):OS S:=aa k (yD k c c0 c1) fun r1=>pA (aw 1099511627776 tT.length [r1.1].length) fun x2=>I (tT++[r1.1],r1.2)
def p4 (I:LC×Int->OS S) (c0 c1:Int) (l:LC) (j:(LC)->Int->OS S) (v1:LC) (h:Int):OS S:=ab (decide ((h:Int)<(l.length:Int))) (pA (af l h) fun x1=>aa k (DN k v1 x1 c0 c1) fun q=>ab (!(q.2==0)) (I (([]:LC),q.2)) (j q.1 (p5 .i64 (h+1)))) (I (v1,0))
def qf (k:Nat) (I:LC×Int->OS S) (c0 c1:Int) (l:LC):Nat->(LC)->Int->OS S
 |0=>fun _ _=> .none
 |m+1=>fun v1 h=>p4 k I c0 c1 l (qf k I c0 c1 l m) v1 h
def HQ (k:Nat) (I:LC×Int->OS S) (J0:(LC)->Int->OS S) (l qk:LC) (c0 c1:Int):OS S:=J0 qk 0
def yT (l qk:LC) (c0 c1:Int) (I:LC×Int->OS S):OS S:=HQ k I (fun v1 h=>qf k I c0 c1 l k v1 h) l qk c0 c1
def jV (f:LC) (qk rj:Int) (I:LC×Int->OS S):OS S:=aa k (pi k [f]) fun r1=>ab (!(r1==0)) (I (([]:LC),r1)) (aa k (tK k) fun q=>aa k (yT k f q qk rj) fun h=>ab (!(h.2==0)) (I (([]:LC),h.2)) (aa k (gy k h.1) fun j=>I (j.1,j.2)))
def tN (l_0 l_1:Int) (f:LC) (qk:Int) (I:sH Int (LC)->OS S):OS S:=ab (l_1==0) (pA (aw 1099511627776 0 f.length) fun x1=>I (.ok f)) (ab (decide ((qk:Int)>=24)) (pA (aw 1099511627776 0 f.length) fun x2=>I (.ok f)) (aa k (jV k f qk l_1) fun h=>ab (!(h.2==0)) (I (.gF h.2)) (I (.ok h.1))))
abbrev fJ (S:Type):=Int->Int->Tm->Int->Int->(sH Int Tm->OS S)->OS S
def xe (hd:fJ S) (k:Nat) (I:sH Int Tm->OS S) (Dd:LC) (l_0 l_1:Int) (t:Tm) (M:Int) (r2:LC) (L:LT) (z:LB) (A:(Br Tm)) (j v d xM:Int) (B:(LB)->Int->Int->OS S) (E:(LT)->Int->OS S) (h:LT) (q:Int):OS S:=ab (decide ((q:Int)<(A.c.length:Int))) (pA (af A.c q) fun F=>hd l_0 l_1 (ac F) v (p5 .i64 (d+j)) fun x=>sH.elim x (fun x=>pA (aw 1099511627776 h.length [(ac x)].length) fun O=>E (h++[(ac x)]) (p5 .i64 (q+1))) (fun J=>I (.gF J))) (pA (aw 1099511627776 z.length [(Br.mk Dd h)].length) fun T=>B (z++[(Br.mk Dd h)]) j (p5 .i64 (xM+1)))
def l7 (hd:fJ S) (k:Nat) (I:sH Int Tm->OS S) (j:(LB)->Int->Int->OS S) (Dd:LC) (l_0 l_1:Int) (t:Tm) (A:Int) (r2:LC) (q:LT) (x:LB) (B:(Br Tm)) (h v d xM:Int):Nat->(LT)->Int->OS S
 |0=>fun _ _=> .none
 |m+1=>fun z E=>xe hd k I Dd l_0 l_1 t A r2 q x B h v d xM j (l7 hd k I j Dd l_0 l_1 t A r2 q x B h v d xM m) z E
def sA (hd:fJ S) (k:Nat) (I:sH Int Tm->OS S) (l_0 l_1:Int) (t:Tm) (A:Int) (r2:LC) (x:LT) (v d:Int) (J3:(LC)->(LB)->(Br Tm)->Int->Int->(LT)->Int->OS S) (E:(LB)->Int->Int->OS S) (j:LB) (h xM:Int):OS S:=ab (decide ((xM:Int)<(t.s.length:Int))) (pA (af t.s xM) fun z=>aa k (tN k l_0 l_1 z.f d) fun q=>sH.elim q (fun q=>J3 q j z h xM ([]:LT) 0) (fun B=>I (.gF B))) (I (.ok (Tm.mk t.k A t.name r2 x j)))
def NC (hd:fJ S) (k:Nat) (I:sH Int Tm->OS S) (l_0 l_1:Int) (t:Tm) (x:Int) (r2:LC) (j:LT) (v d:Int):Nat->(LB)->Int->Int->OS S
 |0=>fun _ _ _=> .none
 |m+1=>fun q h z=>sA hd k I l_0 l_1 t x r2 j v d (fun E q F h z A B=>l7 hd k I (NC hd k I l_0 l_1 t x r2 j v d m) E l_0 l_1 t x r2 j q F h v d z k A B) (NC hd k I l_0 l_1 t x r2 j v d m) q h z
def sz (hd:fJ S) (k:Nat) (I:sH Int Tm->OS S) (l_0 l_1:Int) (t:Tm) (A:Int) (r2:LC) (v d:Int) (J2:(LT)->(LB)->Int->Int->OS S) (q:(LT)->Int->OS S) (h:LT) (j:Int):OS S:=ab (decide ((j:Int)<(t.c.length:Int))) (pA (af t.c j) fun x4=>aa k (gI k t.k j) fun z=>hd l_0 l_1 (ac x4) (p5 .i64 (v+z.1)) (p5 .i64 (d+z.2)) fun x=>sH.elim x (fun x=>pA (aw 1099511627776 h.length [(ac x)].length) fun E=>q (h++[(ac x)]) (p5 .i64 (j+1))) (fun B=>I (.gF B))) (ab (t.k==15) (J2 h ([]:LB) 1 0) (J2 h ([]:LB) 0 0))
def SA (hd:fJ S) (k:Nat) (I:sH Int Tm->OS S) (l_0 l_1:Int) (t:Tm) (q:Int) (r2:LC) (v d:Int):Nat->(LT)->Int->OS S
 |0=>fun _ _=> .none
 |m+1=>fun h z=>sz hd k I l_0 l_1 t q r2 v d (fun h x j A=>NC hd k I l_0 l_1 t q r2 h v d k x j A) (SA hd k I l_0 l_1 t q r2 v d m) h z
def Da (hd:fJ S) (k:Nat) (I:sH Int Tm->OS S) (l_0 l_1:Int) (t:Tm) (r2:LC) (v d:Int) (J1:Int->(LT)->Int->OS S) (h:Int):OS S:=J1 h ([]:LT) 0
def uJ (hd:fJ S) (k:Nat) (I:sH Int Tm->OS S) (l_0 l_1:Int) (t:Tm) (r2:LC) (v d:Int):Nat->Int->OS S
 |0=>fun _=> .none
 |_+1=>fun h=>Da hd k I l_0 l_1 t r2 v d (fun h j q=>SA hd k I l_0 l_1 t h r2 v d k j q) h
def HY (hd:fJ S) (k:Nat) (I:sH Int Tm->OS S) (J0:(LC)->Int->OS S) (l_0 l_1:Int) (t:Tm) (v d:Int):OS S:=aa k (tN k l_0 l_1 t.r d) fun h=>sH.elim h (fun h=>ab (t.k==1) (ab (decide ((t.n:Int)>=v)) (ab (decide ((t.n:Int)>(p5 .i64 (1000000000-l_0)))) (I (.gF 100)) (J0 h (p5 .i64 (t.n+l_0)))) (J0 h t.n)) (J0 h t.n)) (fun j=>I (.gF j))
def dk:Nat->Int->Int->Tm->Int->Int->(sH Int Tm->OS S)->OS S
 |0=>fun _ _ _ _ _ _=> .none
 |k+1=>fun l_0 l_1 t v d I=>HY (dk k) k I (fun j h=>uJ (dk k) k I l_0 l_1 t j v d k h) l_0 l_1 t v d
def yW (c0 c1:Int) (c2:Tm) (I:sH Int Tm->OS S):OS S:=dk k c1 0 (ac c2) 0 0 fun h=>sH.elim h (fun h=>dk k 0 c0 (ac h) 0 0 fun j=>sH.elim j (fun j=>I (.ok (ac j))) (fun q=>I (.gF q))) (fun x=>I (.gF x))
def xd (I:Tm×Int->OS S) (c0 c1:Int) (c2:Tm) (numbers:List Int) (j:Int->OS S) (h:Int):OS S:=ab (decide ((h:Int)<(numbers.length:Int))) (pA (af numbers h) fun x2=>ab (decide ((x2:Int)<0)) (I ((Tm.mk 0 0 qw [] [] []),2)) (j (p5 .i64 (h+1)))) (aa k (yW k c0 c1 (ac c2)) fun q=>sH.elim q (fun q=>I ((ac q),0)) (fun x=>I ((Tm.mk 0 0 qw [] [] []),x)))
def nE (k:Nat) (I:Tm×Int->OS S) (c0 c1:Int) (c2:Tm) (numbers:List Int):Nat->Int->OS S
 |0=>fun _=> .none
 |m+1=>fun h=>xd k I c0 c1 c2 numbers (nE k I c0 c1 c2 numbers m) h
def BS (I:Tm×Int->OS S) (J0:Int->OS S) (t:Tm) (numbers:List Int) (c0 c1:Int) (c2:Tm):OS S:=aa k (HN k (ac t)) fun r1=>ab (!(r1==0)) (I ((Tm.mk 0 0 qw [] [] []),r1)) (J0 0)
def y7 (t:Tm) (numbers:List Int) (c0 c1:Int) (c2:Tm) (I:Tm×Int->OS S):OS S:=BS k I (fun h=>nE k I c0 c1 c2 numbers k h) t numbers c0 c1 c2
def lu (t:Tm) (vars px:Int) (I:Tm×Int->OS S):OS S:=aa k (y7 k (ac t) [vars,px,p5 .i64 (1000000-vars)] px vars (ac t)) fun r1=>I ((ac r1.1),r1.2)
def ze (k:Nat) (t:Tm) (I:Int->OS S):OS S:=ab (t.k==15) (I 1) (I 0)
abbrev gX (S:Type):=Tm->Int->Tm->Int->Int->(sH Int Tm->OS S)->OS S
def xj (hd:gX S) (k:Nat) (I:sH Int Tm->OS S) (t:Tm) (B:LT) (j:LB) (A:(Br Tm)) (u:Tm) (rm vars px E:Int) (x:(LB)->Int->OS S) (z:(LT)->Int->OS S) (h:LT) (q:Int):OS S:=ab (decide ((q:Int)<(A.c.length:Int))) (pA (af A.c q) fun F=>aa k (ze k (ac t)) fun J=>hd (ac F) rm (ac u) vars (p5 .i64 (px+J)) fun r14=>sH.elim r14 (fun r14=>pA (aw 1099511627776 h.length [(ac r14)].length) fun M=>z (h++[(ac r14)]) (p5 .i64 (q+1))) (fun L=>I (.gF L))) (pA (aw 1099511627776 j.length [(Br.mk A.f h)].length) fun O=>x (j++[(Br.mk A.f h)]) (p5 .i64 (E+1)))
def TI (hd:gX S) (k:Nat) (I:sH Int Tm->OS S) (q:(LB)->Int->OS S) (t:Tm) (h:LT) (j:LB) (B:(Br Tm)) (u:Tm) (rm vars px z:Int):Nat->(LT)->Int->OS S
 |0=>fun _ _=> .none
 |m+1=>fun x A=>xj hd k I t h j B u rm vars px z q (TI hd k I q t h j B u rm vars px z m) x A
def sk (hd:gX S) (k:Nat) (I:sH Int Tm->OS S) (t:Tm) (j:LT) (u:Tm) (rm vars px:Int) (J2:(LB)->(Br Tm)->Int->(LT)->Int->OS S) (x:(LB)->Int->OS S) (h:LB) (q:Int):OS S:=ab (decide ((q:Int)<(t.s.length:Int))) (pA (af t.s q) fun z=>pA (aw 1099511627776 0 z.f.length) fun A=>J2 h z q ([]:LT) 0) (I (.ok (Tm.mk t.k 0 t.name t.r j h)))
def kw (hd:gX S) (k:Nat) (I:sH Int Tm->OS S) (t:Tm) (h:LT) (u:Tm) (rm vars px:Int):Nat->(LB)->Int->OS S
 |0=>fun _ _=> .none
 |m+1=>fun j q=>sk hd k I t h u rm vars px (fun j A q x z=>TI hd k I (kw hd k I t h u rm vars px m) t h j A u rm vars px q k x z) (kw hd k I t h u rm vars px m) j q
def eB (hd:gX S) (k:Nat) (I:sH Int Tm->OS S) (t u:Tm) (rm vars px:Int) (J1:(LT)->(LB)->Int->OS S) (j:(LT)->Int->OS S) (h:LT) (H8:Int):OS S:=ab (decide ((H8:Int)<(t.c.length:Int))) (pA (af t.c H8) fun x3=>aa k (gI k t.k H8) fun x=>hd (ac x3) rm (ac u) (p5 .i64 (vars+x.1)) (p5 .i64 (px+x.2)) fun q=>sH.elim q (fun q=>pA (aw 1099511627776 h.length [(ac q)].length) fun A=>j (h++[(ac q)]) (p5 .i64 (H8+1))) (fun z=>I (.gF z))) (J1 h ([]:LB) 0)
def qj (hd:gX S) (k:Nat) (I:sH Int Tm->OS S) (t u:Tm) (rm vars px:Int):Nat->(LT)->Int->OS S
 |0=>fun _ _=> .none
 |m+1=>fun h H8=>eB hd k I t u rm vars px (fun h j q=>kw hd k I t h u rm vars px k j q) (qj hd k I t u rm vars px m) h H8
def H2 (hd:gX S) (k:Nat) (I:sH Int Tm->OS S) (J0:(LT)->Int->OS S) (t:Tm) (rm:Int) (u:Tm) (vars px:Int):OS S:=ab (t.k==1) (ab (t.n==(p5 .i64 (rm+vars))) (aa k (lu k (ac u) vars px) fun r1=>ab (!(r1.2==0)) (I (.gF r1.2)) (I (.ok (ac r1.1)))) (ab (decide ((t.n:Int)>(p5 .i64 (rm+vars)))) (I (.ok (Tm.mk 1 (p5 .i64 (t.n-1)) qw [] [] []))) (I (.ok (ac t))))) (pA (aw 1099511627776 0 t.r.length) fun x2=>J0 ([]:LT) 0)
def gA:Nat->Tm->Int->Tm->Int->Int->(sH Int Tm->OS S)->OS S
 |0=>fun _ _ _ _ _ _=> .none
 |k+1=>fun t rm u vars px I=>H2 (gA k) k I (fun h H8=>qj (gA k) k I t u rm vars px k h H8) t rm u vars px
abbrev dp (S:Type):=Tm->(Int->OS S)->OS S
def iF (hd:dp S) (k:Nat) (Fq:Tm) (p h c0:Int) (I:Bool×Int->OS S):OS S:=hd (ac Fq) fun r1=>I (true,if r1>c0 then r1 else c0)
def yk (hd:dp S) (k:Nat) (I:Bool×Int->OS S) (t:Tm) (qE:Int) (x4:(Br Tm)) (h:Int) (j:Int->Int->Int->OS S) (q:Int->Int->OS S) (rL rO:Int):OS S:=ab (decide ((rO:Int)<(x4.c.length:Int))) (pA (af x4.c rO) fun x5=>aa k (iF hd k (ac x5) 0 h rL) fun x=>ab (!x.1) (I (false,x.2)) (q x.2 (p5 .i64 (rO+1)))) (j rL (p5 .i64 (qE+1)) h)
def n5 (hd:dp S) (k:Nat) (I:Bool×Int->OS S) (j:Int->Int->Int->OS S) (t:Tm) (qE:Int) (x4:(Br Tm)) (h:Int):Nat->Int->Int->OS S
 |0=>fun _ _=> .none
 |m+1=>fun rL rO=>yk hd k I t qE x4 h j (n5 hd k I j t qE x4 h m) rL rO
def tu (hd:dp S) (k:Nat) (I:Bool×Int->OS S) (t:Tm) (J2:Int->(Br Tm)->Int->Int->Int->OS S) (j:Int->Int->Int->OS S) (re qE h:Int):OS S:=ab (decide ((qE:Int)<(t.s.length:Int))) (pA (af t.s qE) fun x4=>J2 qE x4 h re 0) (I (true,re))
def kN (hd:dp S) (k:Nat) (I:Bool×Int->OS S) (t:Tm):Nat->Int->Int->Int->OS S
 |0=>fun _ _ _=> .none
 |m+1=>fun re qE h=>tu hd k I t (fun qE x4 h rL rO=>n5 hd k I (kN hd k I t m) t qE x4 h k rL rO) (kN hd k I t m) re qE h
def sG (hd:dp S) (k:Nat) (I:Bool×Int->OS S) (t:Tm) (J1:Int->Int->Int->OS S) (j:Int->Int->OS S) (h qG:Int):OS S:=ab (decide ((qG:Int)<(t.c.length:Int))) (pA (af t.c qG) fun x1=>aa k (gI k t.k qG) fun x=>aa k (iF hd k (ac x1) x.1 x.2 h) fun q=>ab (!q.1) (I (false,q.2)) (j q.2 (p5 .i64 (qG+1)))) (ab (t.k==15) (J1 h 0 1) (J1 h 0 0))
def h9 (hd:dp S) (k:Nat) (I:Bool×Int->OS S) (t:Tm):Nat->Int->Int->OS S
 |0=>fun _ _=> .none
 |m+1=>fun j qG=>sG hd k I t (fun re qE h=>kN hd k I t k re qE h) (h9 hd k I t m) j qG
def IX (hd:dp S) (k:Nat) (I:Bool×Int->OS S) (J0:Int->Int->OS S) (t:Tm) (c0:Int):OS S:=J0 c0 0
def DZ (hd:dp S) (k:Nat) (t:Tm) (c0:Int) (I:Bool×Int->OS S):OS S:=IX hd k I (fun h qG=>h9 hd k I t k h qG) t c0
def TO (hd:dp S) (k:Nat) (I:Int->OS S) (t:Tm):OS S:=aa k (DZ hd k (ac t) 0) fun r1=>I (p5 .i64 (r1.2+1))
def j5:Nat->Tm->(Int->OS S)->OS S
 |0=>fun _ _=> .none
 |k+1=>fun t I=>TO (j5 k) k I t
def zd (t:Tm) (rm:Int) (u:Tm) (I:Tm×Int->OS S):OS S:=aa k (HN k (ac t)) fun r1=>ab (!(r1==0)) (I ((Tm.mk 0 0 qw [] [] []),r1)) (aa k (HN k (ac u)) fun j=>ab (!(j==0)) (I ((Tm.mk 0 0 qw [] [] []),j)) (ab (decide ((rm:Int)<0)) (I ((Tm.mk 0 0 qw [] [] []),2)) (j6 k (ac t) fun q=>gz k (ac t) (if 1099511627776<rm then 1099511627776 else rm) fun x=>j6 k (ac u) fun z=>ab (decide ((p5 .i64 (q+(p5 .i64 (x*(p5 .i64 (z-1))))):Int)>20000)) (I ((Tm.mk 0 0 qw [] [] []),221)) (gA k (ac t) (if 1099511627776<rm then 1099511627776 else rm) (ac u) 0 0 fun h=>sH.elim h (fun h=>j5 k (ac h) fun A=>ab (decide ((A:Int)>200)) (I ((Tm.mk 0 0 qw [] [] []),62)) (I ((ac h),0))) (fun B=>I ((Tm.mk 0 0 qw [] [] []),B))))))
def Im (k:Nat) (t:Tm) (HE c0:Int) (I:Tm×Int->OS S):OS S:=ab (c0==0) (ab (!(HE==0)) (I ((Tm.mk 0 0 qw [] [] []),HE)) (I ((ac t),HE))) (ab (!(c0==0)) (I ((Tm.mk 0 0 qw [] [] []),c0)) (I ((ac t),c0)))
def za (t u:Tm) (c0:Int) (I:Tm×Int->OS S):OS S:=aa k (dG k c0) fun r1=>ab (!r1) (I ((Tm.mk 0 0 qw [] [] []),c0)) (aa k (zd k (ac t) 0 (ac u)) fun h=>aa k (Im k (ac h.1) h.2 c0) fun j=>I ((ac j.1),j.2))
def cW (k:Nat) (b:(Br Tm)) (I:Bool->OS S):OS S:=ab ((b.f.length:Int)==1) (pA (af b.f 0) fun x1=>I ((x1.pos==0)&&((x1.neg==0)&&true))) (I false)
def cm (I:Int->OS S) (s:LB) (h:Int->OS S) (j:Int):OS S:=ab (decide ((j:Int)<(s.length:Int))) (pA (af s j) fun x1=>aa k (cW k x1) fun q=>ab (q) (I j) (h (p5 .i64 (j+1)))) (I (-1))
def mg (k:Nat) (I:Int->OS S) (s:LB):Nat->Int->OS S
 |0=>fun _=> .none
 |m+1=>fun h=>cm k I s (mg k I s m) h
def N' (k:Nat) (I:Int->OS S) (J0:Int->OS S) (s:LB):OS S:=J0 0
def cP (s:LB) (I:Int->OS S):OS S:=N' k I (fun h=>mg k I s k h) s
def cS (l:LB) (I:Int->OS S):OS S:=aa k (cP k l) fun r1=>I r1
def T5 (k:Nat) (I:LC->OS S):OS S:=I [(Cl.mk 0 0)]
def i_ (s i:Int) (I:Int->OS S):OS S:=aa k (nd k i) fun r1=>ab (!r1) (I (bj .and .u32 s 16777215)) (pA (bR (0<=(p5 .u64 i))) fun x2=>I (bj .or .u32 (bj .and .u32 s 16777215) (p5 .u32 (1*2^min (BT (p5 .u64 i)) 32))))
def JH (k:Nat) (vi:Int) (I:Int->OS S):OS S:=pA (af (ByteArray.mk #[0,1,1,2,1,2,2,3,1,2,2,3,2,3,3,4,1,2,2,3,2,3,3,4,2,3,3,4,3,4,4,5,1,2,2,3,2,3,3,4,2,3,3,4,3,4,4,5,2,3,3,4,3,4,4,5,3,4,4,5,4,5,5,6,1,2,2,3,2,3,3,4,2,3,3,4,3,4,4,5,2,3,3,4,3,4,4,5,3,4,4,5,4,5,5,6,2,3,3,4,3,4,4,5,3,4,4,5,4,5,5,6,3,4,4,5,4,5,5,6,4,5,5,6,5,6,6,7,1,2,2,3,2,3,3,4,2,3,3,4,3,4,4,5,2,3,3,4,3,4,4,5,3,4,4,5,4,5,5,6,2,3,3,4,3,4,4,5,3,4,4,5,4,5,5,6,3,4,4,5,4,5,5,6,4,5,5,6,5,6,6,7,2,3,3,4,3,4,4,5,3,4,4,5,4,5,5,6,3,4,4,5,4,5,5,6,4,5,5,6,5,6,6,7,3,4,4,5,4,5,5,6,4,5,5,6,5,6,6,7,4,5,5,6,5,6,6,7,5,6,6,7,6,7,7,8]).data.toList (Int.fdiv vi (2^min (BT 24) 32))) fun x1=>pA (af (ByteArray.mk #[0,1,1,2,1,2,2,3,1,2,2,3,2,3,3,4,1,2,2,3,2,3,3,4,2,3,3,4,3,4,4,5,1,2,2,3,2,3,3,4,2,3,3,4,3,4,4,5,2,3,3,4,3,4,4,5,3,4,4,5,4,5,5,6,1,2,2,3,2,3,3,4,2,3,3,4,3,4,4,5,2,3,3,4,3,4,4,5,3,4,4,5,4,5,5,6,2,3,3,4,3,4,4,5,3,4,4,5,4,5,5,6,3,4,4,5,4,5,5,6,4,5,5,6,5,6,6,7,1,2,2,3,2,3,3,4,2,3,3,4,3,4,4,5,2,3,3,4,3,4,4,5,3,4,4,5,4,5,5,6,2,3,3,4,3,4,4,5,3,4,4,5,4,5,5,6,3,4,4,5,4,5,5,6,4,5,5,6,5,6,6,7,2,3,3,4,3,4,4,5,3,4,4,5,4,5,5,6,3,4,4,5,4,5,5,6,4,5,5,6,5,6,6,7,3,4,4,5,4,5,5,6,4,5,5,6,5,6,6,7,4,5,5,6,5,6,6,7,5,6,6,7,6,7,7,8]).data.toList (bj .and .u32 (Int.fdiv vi (2^min (BT 16) 32)) 255)) fun x2=>pA (af (ByteArray.mk #[0,1,1,2,1,2,2,3,1,2,2,3,2,3,3,4,1,2,2,3,2,3,3,4,2,3,3,4,3,4,4,5,1,2,2,3,2,3,3,4,2,3,3,4,3,4,4,5,2,3,3,4,3,4,4,5,3,4,4,5,4,5,5,6,1,2,2,3,2,3,3,4,2,3,3,4,3,4,4,5,2,3,3,4,3,4,4,5,3,4,4,5,4,5,5,6,2,3,3,4,3,4,4,5,3,4,4,5,4,5,5,6,3,4,4,5,4,5,5,6,4,5,5,6,5,6,6,7,1,2,2,3,2,3,3,4,2,3,3,4,3,4,4,5,2,3,3,4,3,4,4,5,3,4,4,5,4,5,5,6,2,3,3,4,3,4,4,5,3,4,4,5,4,5,5,6,3,4,4,5,4,5,5,6,4,5,5,6,5,6,6,7,2,3,3,4,3,4,4,5,3,4,4,5,4,5,5,6,3,4,4,5,4,5,5,6,4,5,5,6,5,6,6,7,3,4,4,5,4,5,5,6,4,5,5,6,5,6,6,7,4,5,5,6,5,6,6,7,5,6,6,7,6,7,7,8]).data.toList (bj .and .u32 (Int.fdiv vi (2^min (BT 8) 32)) 255)) fun x3=>pA (af (ByteArray.mk #[0,1,1,2,1,2,2,3,1,2,2,3,2,3,3,4,1,2,2,3,2,3,3,4,2,3,3,4,3,4,4,5,1,2,2,3,2,3,3,4,2,3,3,4,3,4,4,5,2,3,3,4,3,4,4,5,3,4,4,5,4,5,5,6,1,2,2,3,2,3,3,4,2,3,3,4,3,4,4,5,2,3,3,4,3,4,4,5,3,4,4,5,4,5,5,6,2,3,3,4,3,4,4,5,3,4,4,5,4,5,5,6,3,4,4,5,4,5,5,6,4,5,5,6,5,6,6,7,1,2,2,3,2,3,3,4,2,3,3,4,3,4,4,5,2,3,3,4,3,4,4,5,3,4,4,5,4,5,5,6,2,3,3,4,3,4,4,5,3,4,4,5,4,5,5,6,3,4,4,5,4,5,5,6,4,5,5,6,5,6,6,7,2,3,3,4,3,4,4,5,3,4,4,5,4,5,5,6,3,4,4,5,4,5,5,6,4,5,5,6,5,6,6,7,3,4,4,5,4,5,5,6,4,5,5,6,5,6,6,7,4,5,5,6,5,6,6,7,5,6,6,7,6,7,7,8]).data.toList (bj .and .u32 vi 255)) fun x4=>I (p5 .i64 (p5 .u8 ((p5 .u8 ((p5 .u8 ((x1.toNat:Int)+(x2.toNat:Int)))+(x3.toNat:Int)))+(x4.toNat:Int))))
def lw (s:Int) (I:Int->OS S):OS S:=aa k (JH k (bj .and .u32 s 16777215)) fun r1=>I r1
def yE (i:Int) (I:Bool->OS S):OS S:=aa k (i_ k 0 i) fun r1=>aa k (lw k r1) fun h=>I (h==1)
def DM (t:Tm) (i:Int) (sV:LC) (I:Int->OS S):OS S:=aa k (HN k (ac t)) fun r1=>ab (!(r1==0)) (I r1) (aa k (yE k i) fun h=>ab (!h) (I 2) (aa k (hY k sV) fun j=>ab (!j) (I 2) (I 0)))
def DG (k:Nat) (c0:Int) (c1:LC) (I:Unit->OS S):OS S:=I ()
def DH (k:Nat) (c0:Int) (c1:LC) (I:Unit->OS S):OS S:=I ()
def DF (i:Int) (sV:LC) (I:Int×LC->OS S):OS S:=aa k (DG k i sV) fun r1=>aa k (DH k i sV) fun h=>I (i,sV)
def Nh (s i:Int) (I:Bool->OS S):OS S:=aa k (nd k i) fun r1=>ab (r1) (pA (bR (0<=(p5 .u64 i))) fun x2=>I ((bj .and .u32 (Int.fdiv s (2^min (BT (p5 .u64 i)) 32)) 1)==1)) (I false)
def tD (k:Nat) (f:LC) (I:LC->OS S):OS S:=pA (aw 1099511627776 0 f.length) fun x1=>I f
def yK (i:Int) (I:Bool->OS S):OS S:=aa k (i_ k 0 i) fun r1=>aa k (lw k r1) fun h=>I (h==1)
def tJ (c:Cl) (I:Cl×Bool->OS S):OS S:=aa k (tB k c) fun r1=>I (c,!r1)
def wW (I:LC->OS S) (l:LC) (j:Int->(LC)->OS S) (uK:Int) (h:LC):OS S:=ab (decide ((uK:Int)<(l.length:Int))) (pA (af l uK) fun x1=>aa k (tJ k x1) fun q=>ab (q.2) (pA (aw 1099511627776 h.length [q.1].length) fun x3=>j (p5 .i64 (uK+1)) (h++[q.1])) (j (p5 .i64 (uK+1)) h)) (I h)
def qo (k:Nat) (I:LC->OS S) (l:LC):Nat->Int->(LC)->OS S
 |0=>fun _ _=> .none
 |m+1=>fun uK h=>wW k I l (qo k I l m) uK h
def HJ (k:Nat) (I:LC->OS S) (J0:Int->(LC)->OS S) (l:LC):OS S:=J0 0 ([]:LC)
def yN (l:LC) (I:LC->OS S):OS S:=HJ k I (fun uK h=>qo k I l k uK h) l
def tI (f:LC) (I:LC×Int->OS S):OS S:=aa k (hY k f) fun r1=>ab (!r1) (I (([]:LC),2)) (aa k (yN k f) fun j=>aa k (gy k j) fun h=>I (h.1,h.2))
def yO (b c0:Cl) (I:Cl×Bool->OS S):OS S:=aa k (pb k c0 b) fun r1=>aa k (tJ k r1) fun h=>I (h.1,h.2)
def wV (I:LC->OS S) (c0:Cl) (l:LC) (j:Int->(LC)->OS S) (uK:Int) (h:LC):OS S:=ab (decide ((uK:Int)<(l.length:Int))) (pA (af l uK) fun x1=>aa k (yO k x1 c0) fun q=>ab (q.2) (pA (aw 1099511627776 h.length [q.1].length) fun x3=>j (p5 .i64 (uK+1)) (h++[q.1])) (j (p5 .i64 (uK+1)) h)) (I h)
def p8 (k:Nat) (I:LC->OS S) (c0:Cl) (l:LC):Nat->Int->(LC)->OS S
 |0=>fun _ _=> .none
 |m+1=>fun uK h=>wV k I c0 l (p8 k I c0 l m) uK h
def HI (k:Nat) (I:LC->OS S) (J0:Int->(LC)->OS S) (l:LC) (c0:Cl):OS S:=J0 0 ([]:LC)
def yM (l:LC) (c0:Cl) (I:LC->OS S):OS S:=HI k I (fun uK h=>p8 k I c0 l k uK h) l c0
def wX (I:LC×Int->OS S) (g f:LC) (j:Int->(LC)->OS S) (Md:Int) (h:LC):OS S:=ab (decide ((Md:Int)<(f.length:Int))) (pA (af f Md) fun x1=>aa k (yM k g x1) fun q=>pA (aw 1099511627776 h.length q.length) fun x3=>j (p5 .i64 (Md+1)) (h++q)) (aa k (gy k h) fun x=>I (x.1,x.2))
def p_ (k:Nat) (I:LC×Int->OS S) (g f:LC):Nat->Int->(LC)->OS S
 |0=>fun _ _=> .none
 |m+1=>fun Md h=>wX k I g f (p_ k I g f m) Md h
def HK (k:Nat) (I:LC×Int->OS S) (J0:Int->(LC)->OS S) (f g:LC):OS S:=J0 0 ([]:LC)
def pe (f g:LC) (I:LC×Int->OS S):OS S:=HK k I (fun Md h=>p_ k I g f k Md h) f g
def yL (f g:LC) (I:LC×Int->OS S):OS S:=pA (aw 1099511627776 ([]:LC).length f.length) fun x1=>pA (aw 1099511627776 (([]:LC)++f).length g.length) fun x2=>aa k (gy k ((([]:LC)++f)++g)) fun h=>I (h.1,h.2)
def w8 (I:LC×Int->OS S) (q:List Int) (j:Int->(LC)->OS S) (KN:Int) (h:LC):OS S:=ab (decide ((KN:Int)<(q.length:Int))) (pA (af q KN) fun x6=>aa k (i_ k 0 x6) fun x=>pA (aw 1099511627776 h.length [(Cl.mk x 0)].length) fun A=>j (p5 .i64 (KN+1)) (h++[(Cl.mk x 0)])) (aa k (gy k h) fun z=>I (z.1,z.2))
def TL (k:Nat) (I:LC×Int->OS S) (j:List Int):Nat->Int->(LC)->OS S
 |0=>fun _ _=> .none
 |m+1=>fun KN h=>w8 k I j (TL k I j m) KN h
def j1 (I:LC×Int->OS S) (c:Cl) (r1:List Int) (J1:(List Int)->Int->(LC)->OS S) (q:Int->(LC)->OS S) (j:Int) (h:LC):OS S:=ab (decide ((j:Int)<(r1.length:Int))) (pA (af r1 j) fun x2=>aa k (i_ k 0 x2) fun x=>pA (aw 1099511627776 h.length [(Cl.mk 0 x)].length) fun x4=>q (p5 .i64 (j+1)) (h++[(Cl.mk 0 x)])) (vz c.neg fun z=>J1 z 0 h)
def qh (k:Nat) (I:LC×Int->OS S) (c:Cl) (r1:List Int):Nat->Int->(LC)->OS S
 |0=>fun _ _=> .none
 |m+1=>fun q j=>j1 k I c r1 (fun x KN h=>TL k I x k KN h) (qh k I c r1 m) q j
def HS (k:Nat) (I:LC×Int->OS S) (J0:(List Int)->Int->(LC)->OS S) (c:Cl):OS S:=vz c.pos fun r1=>J0 r1 0 ([]:LC)
def yV (c:Cl) (I:LC×Int->OS S):OS S:=HS k I (fun r1 j h=>qh k I c r1 k j h) c
def w7 (I:LC×Int->OS S) (x1:Cl) (g f:LC) (z:Int) (q:Int->(LC)->OS S) (x:Int->(LC)->OS S) (j:Int) (h:LC):OS S:=ab (decide ((j:Int)<(g.length:Int))) (pA (af g j) fun x2=>aa k (pb k x1 x2) fun A=>pA (aw 1099511627776 h.length [A].length) fun x4=>x (p5 .i64 (j+1)) (h++[A])) (q (p5 .i64 (z+1)) h)
def nA (k:Nat) (I:LC×Int->OS S) (h:Int->(LC)->OS S) (x1:Cl) (g f:LC) (q:Int):Nat->Int->(LC)->OS S
 |0=>fun _ _=> .none
 |m+1=>fun x j=>w7 k I x1 g f q h (nA k I h x1 g f q m) x j
def uf (I:LC×Int->OS S) (g f:LC) (J1:Cl->Int->Int->(LC)->OS S) (q:Int->(LC)->OS S) (j:Int) (h:LC):OS S:=ab (decide ((j:Int)<(f.length:Int))) (pA (af f j) fun x1=>J1 x1 j 0 h) (aa k (gy k h) fun x=>I (x.1,x.2))
def lZ (k:Nat) (I:LC×Int->OS S) (g f:LC):Nat->Int->(LC)->OS S
 |0=>fun _ _=> .none
 |m+1=>fun h q=>uf k I g f (fun x1 h x j=>nA k I (lZ k I g f m) x1 g f h k x j) (lZ k I g f m) h q
def HR (k:Nat) (I:LC×Int->OS S) (J0:Int->(LC)->OS S) (f g:LC):OS S:=J0 0 ([]:LC)
def jW (f g:LC) (I:LC×Int->OS S):OS S:=HR k I (fun j h=>lZ k I g f k j h) f g
def yU (tT:LC) (c:Cl) (I:LC×Int->OS S):OS S:=aa k (yV k c) fun r1=>ab (!(r1.2==0)) (I (([]:LC),r1.2)) (aa k (jW k tT r1.1) fun h=>I (h.1,h.2))
def h6 (I:LC×Int->OS S) (l:LC) (j:(LC)->Int->OS S) (v1:LC) (h:Int):OS S:=ab (decide ((h:Int)<(l.length:Int))) (pA (af l h) fun x1=>aa k (yU k v1 x1) fun q=>ab (!(q.2==0)) (I (([]:LC),q.2)) (j q.1 (p5 .i64 (h+1)))) (I (v1,0))
def qe (k:Nat) (I:LC×Int->OS S) (l:LC):Nat->(LC)->Int->OS S
 |0=>fun _ _=> .none
 |m+1=>fun v1 h=>h6 k I l (qe k I l m) v1 h
def HP (k:Nat) (I:LC×Int->OS S) (J0:(LC)->Int->OS S) (l qk:LC):OS S:=J0 qk 0
def DP (l qk:LC) (I:LC×Int->OS S):OS S:=HP k I (fun v1 h=>qe k I l k v1 h) l qk
def ph (f:LC) (I:LC×Int->OS S):OS S:=aa k (T5 k) fun r1=>aa k (DP k f r1) fun h=>I (h.1,h.2)
def yQ (f:LC) (I:LC×Int->OS S):OS S:=aa k (pi k [f]) fun r1=>ab (!(r1==0)) (I (([]:LC),r1)) (aa k (ph k f) fun h=>I (h.1,h.2))
def yI (f:LC) (I:LC×Int->OS S):OS S:=aa k (yQ k f) fun r1=>ab (!(r1.2==0)) (I (([]:LC),r1.2)) (aa k (tI k r1.1) fun h=>I (h.1,h.2))
def wU (I:LC×Int->OS S) (i:Int) (sV f:LC) (x:Int) (z:LC) (h:Int->(LC)->OS S) (g11:LC) (j:Int):OS S:=ab (j==0) (aa k (yL k z g11) fun q=>ab (!(q.2==0)) (I (([]:LC),q.2)) (h (p5 .i64 (x+1)) q.1)) (ab (!(j==0)) (I (([]:LC),j)) (h (p5 .i64 (x+1)) z))
def mx (I:LC×Int->OS S) (h:Int->(LC)->OS S) (i:Int) (sV f:LC) (j:Int) (x:LC):Nat->(LC)->Int->OS S
 |0=>fun _ _=> .none
 |_+1=>fun g11 q=>wU k I i sV f j x h g11 q
def ln (I:LC×Int->OS S) (i:Int) (sV f:LC) (J1:Int->(LC)->(LC)->Int->OS S) (E:Int->(LC)->OS S) (h:Int) (q:LC):OS S:=ab (decide ((h:Int)<(f.length:Int))) (pA (af f h) fun x4=>aa k (jX k x4.pos i) fun x=>aa k (jX k x4.neg i) fun z=>aa k (Nh k x4.pos i) fun J=>ab (J) (aa k (tI k sV) fun A=>ab (A.2==0) (aa k (pe k [(Cl.mk x z)] A.1) fun F=>J1 h q F.1 F.2) (J1 h q [(Cl.mk x z)] A.2)) (aa k (Nh k x4.neg i) fun B=>ab (B) (aa k (yI k sV) fun j=>ab (j.2==0) (aa k (pe k [(Cl.mk x z)] j.1) fun r13=>J1 h q r13.1 r13.2) (J1 h q [(Cl.mk x z)] j.2)) (J1 h q [(Cl.mk x z)] 0))) (I (q,0))
def lY (k:Nat) (I:LC×Int->OS S) (i:Int) (sV f:LC):Nat->Int->(LC)->OS S
 |0=>fun _ _=> .none
 |m+1=>fun h j=>ln k I i sV f (fun h j g11 q=>mx k I (lY k I i sV f m) i sV f h j k g11 q) (lY k I i sV f m) h j
def HH (I:LC×Int->OS S) (J0:Int->(LC)->OS S) (f:LC) (i:Int) (sV:LC):OS S:=aa k (pd k f) fun r1=>ab (!r1) (I (([]:LC),2)) (aa k (yK k i) fun h=>ab (!h) (I (([]:LC),2)) (aa k (hY k sV) fun j=>ab (!j) (I (([]:LC),2)) (J0 0 [])))
def yJ (f:LC) (i:Int) (sV:LC) (I:LC×Int->OS S):OS S:=HH k I (fun h j=>lY k I i sV f k h j) f i sV
def tF (f:LC) (depth c0:Int) (c1:LC) (I:LC×Int->OS S):OS S:=aa k (h8 k f) fun r1=>aa k (Nh k r1 (p5 .i64 (c0+depth))) fun q=>ab (!q) (aa k (tD k f) fun x=>I (x,0)) (aa k (jV k c1 0 depth) fun h=>ab (!(h.2==0)) (I (([]:LC),h.2)) (aa k (yJ k f (p5 .i64 (c0+depth)) h.1) fun j=>I (j.1,j.2)))
def yP (i:Int) (I:LC×Int->OS S):OS S:=aa k (i_ k 0 i) fun r1=>aa k (lw k r1) fun h=>ab (h==0) (I (([]:LC),2)) (aa k (i_ k 0 i) fun j=>I ([(Cl.mk j 0)],0))
def na (f g:LC) (I:LC×Int->OS S):OS S:=pA (aw 1099511627776 ([]:LC).length f.length) fun x1=>pA (aw 1099511627776 (([]:LC)++f).length g.length) fun x2=>aa k (gy k ((([]:LC)++f)++g)) fun h=>I (h.1,h.2)
def yS (tT:LC) (c:Cl) (c0:Int) (c1:LC) (I:LC×Int->OS S):OS S:=aa k (jX k c.pos c0) fun r1=>aa k (jX k c.neg c0) fun x=>aa k (Nh k c.pos c0) fun J=>ab (J) (aa k (jW k [(Cl.mk r1 x)] c1) fun q=>ab (!(q.2==0)) (I (([]:LC),q.2)) (aa k (Nh k c.neg c0) fun L=>ab (L) (aa k (ph k c1) fun z=>ab (!(z.2==0)) (I (([]:LC),z.2)) (aa k (jW k q.1 z.1) fun A=>ab (!(A.2==0)) (I (([]:LC),A.2)) (aa k (na k tT A.1) fun E=>I (E.1,E.2)))) (aa k (na k tT q.1) fun F=>I (F.1,F.2)))) (aa k (Nh k c.neg c0) fun B=>ab (B) (aa k (ph k c1) fun h=>ab (!(h.2==0)) (I (([]:LC),h.2)) (aa k (jW k [(Cl.mk r1 x)] h.1) fun j=>ab (!(j.2==0)) (I (([]:LC),j.2)) (aa k (na k tT j.1) fun r13=>I (r13.1,r13.2)))) (aa k (na k tT [(Cl.mk r1 x)]) fun r14=>I (r14.1,r14.2)))
def wZ (I:LC×Int->OS S) (c0:Int) (c1 l:LC) (j:(LC)->Int->OS S) (v1:LC) (h:Int):OS S:=ab (decide ((h:Int)<(l.length:Int))) (pA (af l h) fun x1=>aa k (yS k v1 x1 c0 c1) fun q=>ab (!(q.2==0)) (I (([]:LC),q.2)) (j q.1 (p5 .i64 (h+1)))) (I (v1,0))
def qc (k:Nat) (I:LC×Int->OS S) (c0:Int) (c1 l:LC):Nat->(LC)->Int->OS S
 |0=>fun _ _=> .none
 |m+1=>fun v1 h=>wZ k I c0 c1 l (qc k I c0 c1 l m) v1 h
def HO (k:Nat) (I:LC×Int->OS S) (J0:(LC)->Int->OS S) (l qk:LC) (c0:Int) (c1:LC):OS S:=J0 qk 0
def DO (l qk:LC) (c0:Int) (c1:LC) (I:LC×Int->OS S):OS S:=HO k I (fun v1 h=>qc k I c0 c1 l k v1 h) l qk c0 c1
def yR (f:LC) (i:Int) (sV:LC) (I:LC×Int->OS S):OS S:=aa k (pi k [f,sV]) fun r1=>ab (!(r1==0)) (I (([]:LC),r1)) (aa k (yP k i) fun h=>ab (!(h.2==0)) (I (([]:LC),h.2)) (aa k (tK k) fun q=>aa k (DO k f q i sV) fun j=>I (j.1,j.2)))
def yF (f:LC) (depth c0:Int) (c1:LC) (I:LC×Int->OS S):OS S:=aa k (h8 k f) fun r1=>aa k (Nh k r1 (p5 .i64 (c0+depth))) fun q=>ab (!q) (aa k (tD k f) fun x=>I (x,0)) (aa k (jV k c1 0 depth) fun h=>ab (!(h.2==0)) (I (([]:LC),h.2)) (aa k (yR k f (p5 .i64 (c0+depth)) h.1) fun j=>I (j.1,j.2)))
def yG (t:Tm) (depth c0:Int) (c1:LC) (I:LC×Int->OS S):OS S:=ab (t.k==14) (aa k (tF k t.r depth c0 c1) fun r1=>I (r1.1,r1.2)) (aa k (yF k t.r depth c0 c1) fun h=>I (h.1,h.2))
def tG (i:Int) (c0:Tm) (I:Int->OS S):OS S:=aa k (gI k c0.k i) fun r1=>I r1.2
def tH (k:Nat) (p c0:Int) (I:Int->OS S):OS S:=I c0
abbrev c8 (S:Type):=Tm->Int->Int->(LC)->(Tm×Int->OS S)->OS S
def wQ (hd:c8 S) (k:Nat) (I:LT×Int->OS S) (c0:Int) (c1:LC) (c4:Int) (l:LT) (depth:Int) (j:(LT)->Int->OS S) (h:LT) (qG:Int):OS S:=ab (decide ((qG:Int)<(l.length:Int))) (pA (af l qG) fun x1=>aa k (tH k qG c4) fun x=>hd (ac x1) (p5 .i64 (depth+x)) c0 c1 fun q=>ab (!(q.2==0)) (I (([]:LT),q.2)) (pA (aw 1099511627776 h.length [(ac q.1)].length) fun x4=>j (h++[(ac q.1)]) (p5 .i64 (qG+1)))) (I (h,0))
def lW (hd:c8 S) (k:Nat) (I:LT×Int->OS S) (c0:Int) (c1:LC) (c4:Int) (l:LT) (depth:Int):Nat->(LT)->Int->OS S
 |0=>fun _ _=> .none
 |m+1=>fun h qG=>wQ hd k I c0 c1 c4 l depth (lW hd k I c0 c1 c4 l depth m) h qG
def HB (hd:c8 S) (k:Nat) (I:LT×Int->OS S) (J0:(LT)->Int->OS S) (l:LT) (depth c0:Int) (c1:LC) (c4:Int):OS S:=J0 ([]:LT) 0
def DK (hd:c8 S) (k:Nat) (l:LT) (depth c0:Int) (c1:LC) (c4:Int) (I:LT×Int->OS S):OS S:=HB hd k I (fun h qG=>lW hd k I c0 c1 c4 l depth k h qG) l depth c0 c1 c4
def wR (hd:c8 S) (k:Nat) (I:LT×Int->OS S) (c0:Int) (c1:LC) (c4:Tm) (l:LT) (depth:Int) (j:(LT)->Int->OS S) (h:LT) (qG:Int):OS S:=ab (decide ((qG:Int)<(l.length:Int))) (pA (af l qG) fun x1=>aa k (tG k qG (ac c4)) fun x=>hd (ac x1) (p5 .i64 (depth+x)) c0 c1 fun q=>ab (!(q.2==0)) (I (([]:LT),q.2)) (pA (aw 1099511627776 h.length [(ac q.1)].length) fun x4=>j (h++[(ac q.1)]) (p5 .i64 (qG+1)))) (I (h,0))
def lX (hd:c8 S) (k:Nat) (I:LT×Int->OS S) (c0:Int) (c1:LC) (c4:Tm) (l:LT) (depth:Int):Nat->(LT)->Int->OS S
 |0=>fun _ _=> .none
 |m+1=>fun h qG=>wR hd k I c0 c1 c4 l depth (lX hd k I c0 c1 c4 l depth m) h qG
def HC (hd:c8 S) (k:Nat) (I:LT×Int->OS S) (J0:(LT)->Int->OS S) (l:LT) (depth c0:Int) (c1:LC) (c4:Tm):OS S:=J0 ([]:LT) 0
def DL (hd:c8 S) (k:Nat) (l:LT) (depth c0:Int) (c1:LC) (c4:Tm) (I:LT×Int->OS S):OS S:=HC hd k I (fun h qG=>lX hd k I c0 c1 c4 l depth k h qG) l depth c0 c1 c4
def wS (hd:c8 S) (k:Nat) (I:Tm×Int->OS S) (c0:Int) (c1:LC) (t:Tm) (r1:LC×Int) (r2:LT×Int) (depth:Int) (j:Int->(LB)->Int->OS S) (q:Int) (h:LB) (v55:Int):OS S:=ab (decide ((v55:Int)<(t.s.length:Int))) (pA (af t.s v55) fun x3=>aa k (tF k x3.f depth c0 c1) fun x=>ab (!(x.2==0)) (I ((Tm.mk 0 0 qw [] [] []),x.2)) (ab ((x.1.length:Int)==0) (j q h (p5 .i64 (v55+1))) (aa k (DK hd k x3.c depth c0 c1 q) fun z=>ab (!(z.2==0)) (I ((Tm.mk 0 0 qw [] [] []),z.2)) (pA (aw 1099511627776 h.length [(Br.mk x.1 z.1)].length) fun x6=>j q (h++[(Br.mk x.1 z.1)]) (p5 .i64 (v55+1)))))) (I ((Tm.mk t.k t.n t.name r1.1 r2.1 h),0))
def fV (hd:c8 S) (k:Nat) (I:Tm×Int->OS S) (c0:Int) (c1:LC) (t:Tm) (r1:LC×Int) (r2:LT×Int) (depth:Int):Nat->Int->(LB)->Int->OS S
 |0=>fun _ _ _=> .none
 |m+1=>fun j h v55=>wS hd k I c0 c1 t r1 r2 depth (fV hd k I c0 c1 t r1 r2 depth m) j h v55
def HF (hd:c8 S) (k:Nat) (I:Tm×Int->OS S) (J0:(LC×Int)->(LT×Int)->Int->(LB)->Int->OS S) (t:Tm) (depth c0:Int) (c1:LC):OS S:=aa k (yG k (ac t) depth c0 c1) fun r1=>ab (!(r1.2==0)) (I ((Tm.mk 0 0 qw [] [] []),r1.2)) (aa k (DL hd k t.c depth c0 c1 (ac t)) fun h=>ab (!(h.2==0)) (I ((Tm.mk 0 0 qw [] [] []),h.2)) (ab (t.k==15) (J0 r1 h 1 ([]:LB) 0) (J0 r1 h 0 ([]:LB) 0)))
def d7:Nat->Tm->Int->Int->(LC)->(Tm×Int->OS S)->OS S
 |0=>fun _ _ _ _ _=> .none
 |k+1=>fun t depth c0 c1 I=>HF (d7 k) k I (fun r1 q j h v55=>fV (d7 k) k I c0 c1 t r1 q depth k j h v55) t depth c0 c1
def DE (k:Nat) (i:Int) (I:Int->OS S):OS S:=I i
def pk (s i:Int) (I:Int->OS S):OS S:=aa k (nd k i) fun r1=>ab (!r1) (I (bj .and .u32 s 16777215)) (aa k (pn k i) fun h=>pA (bR (0<=(p5 .u64 (p5 .i64 (i+1))))) fun x3=>pA (bR (0<=(p5 .u64 i))) fun x4=>I (bj .or .u32 (bj .and .u32 (bj .and .u32 s 16777215) h) (p5 .u32 ((Int.fdiv (bj .and .u32 s 16777215) (2^min (BT (p5 .u64 (p5 .i64 (i+1)))) 32))*2^min (BT (p5 .u64 i)) 32))))
def wN (I:LC×Int->OS S) (c0 depth:Int) (f:LC) (j:Int->(LC)->OS S) (uK:Int) (h:LC):OS S:=ab (decide ((uK:Int)<(f.length:Int))) (pA (af f uK) fun x1=>aa k (pk k x1.pos (p5 .i64 (c0+depth))) fun q=>aa k (pk k x1.neg (p5 .i64 (c0+depth))) fun x=>pA (aw 1099511627776 h.length [(Cl.mk q x)].length) fun x4=>j (p5 .i64 (uK+1)) (h++[(Cl.mk q x)])) (aa k (gy k h) fun z=>I (z.1,z.2))
def vy (k:Nat) (I:LC×Int->OS S) (c0 depth:Int) (f:LC):Nat->Int->(LC)->OS S
 |0=>fun _ _=> .none
 |m+1=>fun uK h=>wN k I c0 depth f (vy k I c0 depth f m) uK h
def Hx (k:Nat) (I:LC×Int->OS S) (J0:Int->(LC)->OS S) (f:LC) (depth c0:Int):OS S:=J0 0 ([]:LC)
def pc (f:LC) (depth c0:Int) (I:LC×Int->OS S):OS S:=Hx k I (fun uK h=>vy k I c0 depth f k uK h) f depth c0
def yH (t:Tm) (depth c0:Int) (I:LC×Int->OS S):OS S:=ab (t.k==14) (aa k (pc k t.r depth c0) fun r1=>I (r1.1,r1.2)) (aa k (pc k t.r depth c0) fun h=>I (h.1,h.2))
abbrev c_ (S:Type):=Tm->Int->Int->(Tm×Int->OS S)->OS S
def wO (hd:c_ S) (k:Nat) (I:LT×Int->OS S) (c0 c1:Int) (l:LT) (depth:Int) (j:(LT)->Int->OS S) (h:LT) (qG:Int):OS S:=ab (decide ((qG:Int)<(l.length:Int))) (pA (af l qG) fun x1=>aa k (tH k qG c1) fun x=>hd (ac x1) (p5 .i64 (depth+x)) c0 fun q=>ab (!(q.2==0)) (I (([]:LT),q.2)) (pA (aw 1099511627776 h.length [(ac q.1)].length) fun x4=>j (h++[(ac q.1)]) (p5 .i64 (qG+1)))) (I (h,0))
def lU (hd:c_ S) (k:Nat) (I:LT×Int->OS S) (c0 c1:Int) (l:LT) (depth:Int):Nat->(LT)->Int->OS S
 |0=>fun _ _=> .none
 |m+1=>fun h qG=>wO hd k I c0 c1 l depth (lU hd k I c0 c1 l depth m) h qG
def Hz (hd:c_ S) (k:Nat) (I:LT×Int->OS S) (J0:(LT)->Int->OS S) (l:LT) (depth c0 c1:Int):OS S:=J0 ([]:LT) 0
def DI (hd:c_ S) (k:Nat) (l:LT) (depth c0 c1:Int) (I:LT×Int->OS S):OS S:=Hz hd k I (fun h qG=>lU hd k I c0 c1 l depth k h qG) l depth c0 c1
def wP (hd:c_ S) (k:Nat) (I:LT×Int->OS S) (c0:Int) (c1:Tm) (l:LT) (depth:Int) (j:(LT)->Int->OS S) (h:LT) (qG:Int):OS S:=ab (decide ((qG:Int)<(l.length:Int))) (pA (af l qG) fun x1=>aa k (tG k qG (ac c1)) fun x=>hd (ac x1) (p5 .i64 (depth+x)) c0 fun q=>ab (!(q.2==0)) (I (([]:LT),q.2)) (pA (aw 1099511627776 h.length [(ac q.1)].length) fun x4=>j (h++[(ac q.1)]) (p5 .i64 (qG+1)))) (I (h,0))
def lV (hd:c_ S) (k:Nat) (I:LT×Int->OS S) (c0:Int) (c1:Tm) (l:LT) (depth:Int):Nat->(LT)->Int->OS S
 |0=>fun _ _=> .none
 |m+1=>fun h qG=>wP hd k I c0 c1 l depth (lV hd k I c0 c1 l depth m) h qG
def HA (hd:c_ S) (k:Nat) (I:LT×Int->OS S) (J0:(LT)->Int->OS S) (l:LT) (depth c0:Int) (c1:Tm):OS S:=J0 ([]:LT) 0
def DJ (hd:c_ S) (k:Nat) (l:LT) (depth c0:Int) (c1:Tm) (I:LT×Int->OS S):OS S:=HA hd k I (fun h qG=>lV hd k I c0 c1 l depth k h qG) l depth c0 c1
def wT (hd:c_ S) (k:Nat) (I:Tm×Int->OS S) (c0:Int) (t:Tm) (r1:LC×Int) (r2:LT×Int) (depth:Int) (j:Int->(LB)->Int->OS S) (q:Int) (h:LB) (v55:Int):OS S:=ab (decide ((v55:Int)<(t.s.length:Int))) (pA (af t.s v55) fun x3=>aa k (pc k x3.f depth c0) fun x=>ab (!(x.2==0)) (I ((Tm.mk 0 0 qw [] [] []),x.2)) (ab ((x.1.length:Int)==0) (j q h (p5 .i64 (v55+1))) (aa k (DI hd k x3.c depth c0 q) fun z=>ab (!(z.2==0)) (I ((Tm.mk 0 0 qw [] [] []),z.2)) (pA (aw 1099511627776 h.length [(Br.mk x.1 z.1)].length) fun x6=>j q (h++[(Br.mk x.1 z.1)]) (p5 .i64 (v55+1)))))) (I ((Tm.mk t.k t.n t.name r1.1 r2.1 h),0))
def MZ (hd:c_ S) (k:Nat) (I:Tm×Int->OS S) (c0:Int) (t:Tm) (r1:LC×Int) (r2:LT×Int) (depth:Int):Nat->Int->(LB)->Int->OS S
 |0=>fun _ _ _=> .none
 |m+1=>fun j h v55=>wT hd k I c0 t r1 r2 depth (MZ hd k I c0 t r1 r2 depth m) j h v55
def HG (hd:c_ S) (k:Nat) (I:Tm×Int->OS S) (J0:(LC×Int)->(LT×Int)->Int->(LB)->Int->OS S) (t:Tm) (depth c0:Int):OS S:=aa k (yH k (ac t) depth c0) fun r1=>ab (!(r1.2==0)) (I ((Tm.mk 0 0 qw [] [] []),r1.2)) (aa k (DJ hd k t.c depth c0 (ac t)) fun h=>ab (!(h.2==0)) (I ((Tm.mk 0 0 qw [] [] []),h.2)) (ab (t.k==15) (J0 r1 h 1 ([]:LB) 0) (J0 r1 h 0 ([]:LB) 0)))
def dT:Nat->Tm->Int->Int->(Tm×Int->OS S)->OS S
 |0=>fun _ _ _ _=> .none
 |k+1=>fun t depth c0 I=>HG (dT k) k I (fun r1 q j h v55=>MZ (dT k) k I c0 t r1 q depth k j h v55) t depth c0
def m_ (t:Tm) (i:Int) (sV:LC) (I:Tm×Int->OS S):OS S:=aa k (DM k (ac t) i sV) fun r1=>ab (!(r1==0)) (I ((Tm.mk 0 0 qw [] [] []),r1)) (aa k (jV k sV i 1) fun h=>ab (!(h.2==0)) (I ((Tm.mk 0 0 qw [] [] []),h.2)) (aa k (DF k i h.1) fun q=>d7 k (ac t) 0 q.1 q.2 fun j=>ab (!(j.2==0)) (I ((Tm.mk 0 0 qw [] [] []),j.2)) (aa k (DE k i) fun z=>dT k (ac j.1) 0 z fun x=>I ((ac x.1),x.2))))
def JL (t:Tm) (sV:LC) (c0:Int) (I:Tm×Int->OS S):OS S:=aa k (dG k c0) fun r1=>ab (!r1) (I ((Tm.mk 0 0 qw [] [] []),c0)) (aa k (m_ k (ac t) 0 sV) fun h=>aa k (Im k (ac h.1) h.2 c0) fun j=>I ((ac j.1),j.2))
def JI (t:Tm) (c0:Int) (I:Tm×Int->OS S):OS S:=aa k (T5 k) fun r1=>aa k (JL k (ac t) r1 c0) fun h=>I ((ac h.1),h.2)
def zc (k:Nat) (kind:Int) (kids:LT) (I:Int×Int×BA×LT->OS S):OS S:=I (kind,0,qw,kids)
def aJ (t:Tm) (c0:Int) (I:Tm×Bool×Int->OS S):OS S:=aa k (cS k t.s) fun r1=>ab (decide ((r1:Int)<0)) (I ((Tm.mk 0 0 qw [] [] []),false,c0)) (pA (af t.s r1) fun x2=>ab (t.k==15) (pA (af x2.c 0) fun x3=>aa k (JI k (ac x3) c0) fun x=>I ((ac x.1),true,x.2)) (ab (t.k==18) (pA (af x2.c 0) fun x5=>aa k (zc k 9 [(ac x5)]) fun h=>pA (af t.c 0) fun z=>aa k (zc k 6 [(Tm.mk h.1 h.2.1 h.2.2.1 [] h.2.2.2 []),(ac z)]) fun j=>I ((Tm.mk j.1 j.2.1 j.2.2.1 [] j.2.2.2 []),true,c0)) (ab (t.k==16) (pA (af x2.c 0) fun A=>I ((ac A),true,c0)) (ab (t.k==17) (pA (af x2.c 0) fun q=>I ((ac q),true,c0)) (I ((Tm.mk 0 0 qw [] [] []),false,c0))))))
def aW (k:Nat) (sV:LC) (I:Int->OS S):OS S:=ab ((sV.length:Int)==0) (I 0) (ab ((sV.length:Int)==1) (pA (af sV 0) fun x1=>ab ((x1.pos==0)&&((x1.neg==0)&&true)) (I 1) (I (-1))) (I (-1)))
def cA (t:Tm) (c0:Int) (I:Tm×Bool×Int->OS S):OS S:=aa k (aW k t.r) fun r1=>ab (decide ((r1:Int)>=0)) (pA (af t.c (p5 .i64 (1+r1))) fun x2=>I ((ac x2),true,c0)) (pA (af t.c 0) fun x3=>ab (x3.k==12) (pA (af t.c 0) fun x4=>pA (af x4.c 0) fun x5=>aa k (JL k (ac x5) t.r c0) fun h=>I ((ac h.1),true,h.2)) (I ((Tm.mk 0 0 qw [] [] []),false,c0)))
def bA (t:Tm) (I:Tm×Bool->OS S):OS S:=aa k (aW k t.r) fun r1=>ab (decide ((r1:Int)<0)) (I ((Tm.mk 0 0 qw [] [] []),false)) (ab (t.k==21) (aa k (zc k 20 ([]:LT)) fun h=>I ((Tm.mk h.1 h.2.1 h.2.2.1 [] h.2.2.2 []),true)) (ab (r1==0) (aa k (zc k 24 ([]:LT)) fun j=>I ((Tm.mk j.1 j.2.1 j.2.2.1 [] j.2.2.2 []),true)) (aa k (zc k 25 ([]:LT)) fun q=>I ((Tm.mk q.1 q.2.1 q.2.2.1 [] q.2.2.2 []),true))))
def tO (k:Nat) (kind:Int) (sV:LC) (kids:LT) (I:Int×Int×BA×LC×LT->OS S):OS S:=I (kind,0,qw,sV,kids)
def d' (t:Tm) (I:Tm×Bool->OS S):OS S:=pA (af t.c 3) fun x1=>ab (x1.k==20) (pA (af t.c 1) fun x2=>I ((ac x2),true)) (ab (x1.k==21) (pA (af t.c 2) fun x3=>pA (af t.c 1) fun x4=>pA (af t.c 1) fun x5=>aa k (tO k 13 x1.r [(ac x3),(ac x4),(ac x5)]) fun h=>I ((Tm.mk h.1 h.2.1 h.2.2.1 h.2.2.2.1 h.2.2.2.2 []),true)) (I ((Tm.mk 0 0 qw [] [] []),false)))
def D3 (t:Tm) (I:Tm×Bool->OS S):OS S:=pA (af t.c 4) fun x1=>ab (x1.k==24) (pA (af t.c 1) fun x2=>I ((ac x2),true)) (ab (x1.k==25) (pA (af t.c 2) fun x3=>I ((ac x3),true)) (ab (x1.k==26) (pA (af t.c 3) fun x4=>pA (af x1.c 0) fun x5=>aa k (zc k 6 [(ac x4),(ac x5)]) fun j=>pA (af t.c 1) fun q=>pA (af t.c 2) fun x=>aa k (tO k 13 x1.r [(Tm.mk j.1 j.2.1 j.2.2.1 [] j.2.2.2 []),(ac q),(ac x)]) fun h=>I ((Tm.mk h.1 h.2.1 h.2.2.1 h.2.2.2.1 h.2.2.2.2 []),true)) (I ((Tm.mk 0 0 qw [] [] []),false))))
def cD (t:Tm) (c0:Int) (I:Tm×Bool×Int->OS S):OS S:=ab (t.k==6) (pA (af t.c 0) fun x1=>ab (x1.k==5) (pA (af t.c 0) fun x2=>pA (af x2.c 0) fun x3=>pA (af t.c 1) fun x4=>aa k (za k (ac x3) (ac x4) c0) fun r5=>I ((ac r5.1),true,r5.2)) (aa k (aJ k (ac t) c0) fun J=>I ((ac J.1),J.2.1,J.2.2))) (ab (t.k==9) (pA (af t.c 0) fun x7=>ab (x7.k==8) (pA (af t.c 0) fun x8=>pA (af x8.c (p5 .i64 (t.k-9))) fun x9=>I ((ac x9),true,c0)) (aa k (aJ k (ac t) c0) fun j=>I ((ac j.1),j.2.1,j.2.2))) (ab (t.k==10) (pA (af t.c 0) fun L=>ab (L.k==8) (pA (af t.c 0) fun M=>pA (af M.c (p5 .i64 (t.k-9))) fun O=>I ((ac O),true,c0)) (aa k (aJ k (ac t) c0) fun r14=>I ((ac r14.1),r14.2.1,r14.2.2))) (ab (t.k==13) (aa k (cA k (ac t) c0) fun q=>I ((ac q.1),q.2.1,q.2.2)) (ab (t.k==21) (aa k (bA k (ac t)) fun A=>I ((ac A.1),A.2,c0)) (ab (t.k==26) (aa k (bA k (ac t)) fun B=>I ((ac B.1),B.2,c0)) (ab (t.k==22) (aa k (d' k (ac t)) fun E=>I ((ac E.1),E.2,c0)) (ab (t.k==27) (aa k (D3 k (ac t)) fun F=>I ((ac F.1),F.2,c0)) (ab (t.k==28) (pA (af t.c 0) fun T=>I ((ac T),true,c0)) (ab (t.k==14) (pA (af t.c 1) fun W=>aa k (aW k t.r) fun Y=>I ((ac W),Y==1,c0)) (ab (t.k==18) (aa k (aJ k (ac t) c0) fun h=>ab (h.2.1) (I ((ac h.1),true,h.2.2)) (pA (af t.c 0) fun ad=>ab (ad.k==17) (pA (af t.c 0) fun ao=>pA (af ao.c 0) fun ax=>I ((ac ax),true,h.2.2)) (aa k (aJ k (ac t) h.2.2) fun x=>I ((ac x.1),x.2.1,x.2.2)))) (aa k (aJ k (ac t) c0) fun z=>I ((ac z.1),z.2.1,z.2.2))))))))))))
def ly (t:Tm) (c0:Int) (I:Tm×Bool×Int×Int->OS S):OS S:=aa k (HN k (ac t)) fun r1=>aa k (Im k (ac t) r1 c0) fun h=>dJ k (ac h.1) fun j=>aa k (dG k h.2) fun q=>I ((ac j),q,h.2,h.2)
def u3 (t:Tm) (I:Tm×Bool×Int->OS S):OS S:=aa k (HN k (ac t)) fun r1=>ab (!(r1==0)) (I ((Tm.mk 0 0 qw [] [] []),false,r1)) (dJ k (ac t) fun q=>aa k (cD k (ac q) 0) fun h=>ab (!h.2.1) (I ((Tm.mk 0 0 qw [] [] []),false,0)) (aa k (ly k (ac h.1) h.2.2) fun j=>I ((ac j.1),j.2.1,j.2.2.1)))
def xr (t:Tm) (vars px:Int) (I:Int->OS S):OS S:=ab (decide ((vars:Int)<0)) (I 2) (ab (decide ((px:Int)<0)) (I 2) (ab (decide ((px:Int)>24)) (I 2) (aa k (zD k (ac t)) fun r1=>ab (!(r1==0)) (I r1) (ic k (ac t) vars px true fun h=>ab (!h) (I 100) (I 0)))))
def cr (I:Tm×Bool->OS S) (t:Tm) (defs:List Df) (j:Int->OS S) (h:Int):OS S:=ab (decide ((h:Int)<(defs.length:Int))) (pA (af defs h) fun x1=>ab (x1.name==t.name) (dJ k (ac x1.body) fun q=>aa k (xr k (ac x1.body) 0 0) fun x=>I ((ac q),x==0)) (j (p5 .i64 (h+1)))) (I ((Tm.mk 0 0 qw [] [] []),false))
def bM (k:Nat) (I:Tm×Bool->OS S) (t:Tm) (defs:List Df):Nat->Int->OS S
 |0=>fun _=> .none
 |m+1=>fun h=>cr k I t defs (bM k I t defs m) h
def aAq (k:Nat) (I:Tm×Bool->OS S) (J0:Int->OS S) (defs:List Df) (t:Tm):OS S:=ab (!(t.k==2)) (I ((Tm.mk 0 0 qw [] [] []),false)) (J0 0)
def cR (defs:List Df) (t:Tm) (I:Tm×Bool->OS S):OS S:=aAq k I (fun h=>bM k I t defs k h) defs t
def xH (k:Nat) (kind:Int) (kids:LT) (I:Int×Int×BA×LT->OS S):OS S:=I (kind,0,qw,kids)
def mv (sys:LB) (I:Int×Int×BA×LT×LB->OS S):OS S:=aa k (xH k 3 ([]:LT)) fun r1=>aa k (xH k 3 ([]:LT)) fun h=>I (15,0,qw,[(Tm.mk r1.1 r1.2.1 r1.2.2.1 [] r1.2.2.2 []),(Tm.mk h.1 h.2.1 h.2.2.1 [] h.2.2.2 [])],sys)
def iZ (k:Nat) (HE c0:Int) (I:Int->OS S):OS S:=ab (c0==0) (I HE) (I c0)
def wL (I:Int->OS S) (l:LT) (h:Int->Int->OS S) (j qT:Int):OS S:=ab (decide ((qT:Int)<(l.length:Int))) (pA (af l qT) fun x1=>aa k (HN k (ac x1)) fun q=>aa k (iZ k q j) fun x=>h x (p5 .i64 (qT+1))) (I j)
def pY (k:Nat) (I:Int->OS S) (l:LT):Nat->Int->Int->OS S
 |0=>fun _ _=> .none
 |m+1=>fun h qT=>wL k I l (pY k I l m) h qT
def Hs (k:Nat) (I:Int->OS S) (J0:Int->Int->OS S) (l:LT):OS S:=J0 0 0
def m9 (l:LT) (I:Int->OS S):OS S:=Hs k I (fun h qT=>pY k I l k h qT) l
def de (k:Nat) (c0:Int) (I:Bool->OS S):OS S:=I (c0==0)
def Dh (t:Tm) (vars px c0:Int) (I:Tm×Int->OS S):OS S:=aa k (de k c0) fun r1=>ab (!r1) (I ((Tm.mk 0 0 qw [] [] []),c0)) (aa k (lu k (ac t) vars px) fun h=>aa k (iZ k h.2 c0) fun j=>I ((ac h.1),j))
def eQ (t:Tm) (c0:Int) (I:Tm×Int×Int->OS S):OS S:=aa k (de k c0) fun r1=>ab (r1) (aa k (HN k (ac t)) fun j=>aa k (iZ k j c0) fun h=>aa k (de k h) fun q=>ab (!q) (I ((Tm.mk 0 0 qw [] [] []),h,h)) (I ((ac t),0,h))) (aa k (de k c0) fun x=>ab (!x) (I ((Tm.mk 0 0 qw [] [] []),c0,c0)) (I ((ac t),0,c0)))
def tA (f:LC) (c0:Int) (I:LC×Int->OS S):OS S:=aa k (de k c0) fun r1=>ab (!r1) (I (([]:LC),c0)) (aa k (jV k f 0 1) fun h=>aa k (iZ k h.2 c0) fun j=>I (h.1,j))
def yX (c0:Int) (c1:Tm) (c2:Int) (I:sH Int Tm->OS S):OS S:=dk k 0 c0 (ac c1) 0 (if 24<c2 then 24 else c2) fun h=>sH.elim h (fun h=>I (.ok (ac h))) (fun j=>I (.gF j))
def xa (I:Tm×Int->OS S) (c0:Int) (c1:Tm) (c2:Int) (numbers:List Int) (j:Int->OS S) (h:Int):OS S:=ab (decide ((h:Int)<(numbers.length:Int))) (pA (af numbers h) fun x2=>ab (decide ((x2:Int)<0)) (I ((Tm.mk 0 0 qw [] [] []),2)) (j (p5 .i64 (h+1)))) (aa k (yX k c0 (ac c1) c2) fun q=>sH.elim q (fun q=>I ((ac q),0)) (fun x=>I ((Tm.mk 0 0 qw [] [] []),x)))
def nC (k:Nat) (I:Tm×Int->OS S) (c0:Int) (c1:Tm) (c2:Int) (numbers:List Int):Nat->Int->OS S
 |0=>fun _=> .none
 |m+1=>fun h=>xa k I c0 c1 c2 numbers (nC k I c0 c1 c2 numbers m) h
def BQ (I:Tm×Int->OS S) (J0:Int->OS S) (t:Tm) (numbers:List Int) (c0:Int) (c1:Tm) (c2:Int):OS S:=aa k (HN k (ac t)) fun r1=>ab (!(r1==0)) (I ((Tm.mk 0 0 qw [] [] []),r1)) (J0 0)
def yZ (t:Tm) (numbers:List Int) (c0:Int) (c1:Tm) (c2:Int) (I:Tm×Int->OS S):OS S:=BQ k I (fun h=>nC k I c0 c1 c2 numbers k h) t numbers c0 c1 c2
def lv (t:Tm) (qk rj:Int) (I:Tm×Int->OS S):OS S:=aa k (yZ k (ac t) [qk,rj] rj (ac t) qk) fun r1=>I ((ac r1.1),r1.2)
def lr (line:Tm) (sV:LC) (c0:Int) (I:Tm×Int->OS S):OS S:=aa k (de k c0) fun r1=>ab (!r1) (I ((Tm.mk 0 0 qw [] [] []),c0)) (aa k (lv k (ac line) 1 2) fun j=>aa k (iZ k j.2 c0) fun h=>aa k (de k h) fun x=>ab (!x) (I ((Tm.mk 0 0 qw [] [] []),h)) (aa k (m_ k (ac j.1) 0 sV) fun q=>aa k (iZ k q.2 h) fun z=>I ((ac q.1),z)))
def oQ (I:Tm×Int->OS S) (a:Tm) (q:Int×Int×BA×LT) (sys:LB) (B:Int->(LB)->Int->OS S) (j:Int) (h:LB) (x:Int):OS S:=ab (decide ((x:Int)<(sys.length:Int))) (pA (af sys x) fun x6=>aa k (de k j) fun M=>ab (!M) (aa k (Dh k (ac a) 0 2 j) fun J=>pA (aw 1099511627776 h.length [(Br.mk [(Cl.mk 0 1)] [(ac J.1)])].length) fun W=>aa k (eQ k (Tm.mk q.1 q.2.1 q.2.2.1 [] q.2.2.2 (h++[(Br.mk [(Cl.mk 0 1)] [(ac J.1)])])) J.2) fun E=>I ((ac E.1),E.2.1)) (aa k (tA k x6.f j) fun z=>pA (af x6.c 0) fun L=>aa k (lr k (ac L) [(Cl.mk 3 0)] z.2) fun r13=>pA (aw 1099511627776 h.length [(Br.mk z.1 [(ac r13.1)])].length) fun O=>B r13.2 (h++[(Br.mk z.1 [(ac r13.1)])]) (p5 .i64 (x+1)))) (aa k (Dh k (ac a) 0 2 j) fun A=>pA (aw 1099511627776 h.length [(Br.mk [(Cl.mk 0 1)] [(ac A.1)])].length) fun T=>aa k (eQ k (Tm.mk q.1 q.2.1 q.2.2.1 [] q.2.2.2 (h++[(Br.mk [(Cl.mk 0 1)] [(ac A.1)])])) A.2) fun F=>I ((ac F.1),F.2.1))
def gM (k:Nat) (I:Tm×Int->OS S) (a:Tm) (x:Int×Int×BA×LT) (sys:LB):Nat->Int->(LB)->Int->OS S
 |0=>fun _ _ _=> .none
 |m+1=>fun j h q=>oQ k I a x sys (gM k I a x sys m) j h q
def Hr (I:Tm×Int->OS S) (J0:(Int×Int×BA×LT)->Int->(LB)->Int->OS S) (t a:Tm) (sys:LB):OS S:=aa k (mv k sys) fun r1=>aa k (m9 k [(ac t),(ac a),(Tm.mk r1.1 r1.2.1 r1.2.2.1 [] r1.2.2.2.1 r1.2.2.2.2)]) fun q=>aa k (Dh k (ac t) 0 1 q) fun h=>aa k (Dh k (ac a) 0 1 h.2) fun j=>aa k (xH k 15 [(ac h.1),(ac j.1)]) fun x=>J0 x j.2 ([]:LB) 0
def yy (t a:Tm) (sys:LB) (I:Tm×Int->OS S):OS S:=Hr k I (fun x j h q=>gM k I a x sys k j h q) t a sys
def y_ (t a:Tm) (sys:LB) (c0:Int) (I:Tm×Int->OS S):OS S:=aa k (dG k c0) fun r1=>ab (!r1) (I ((Tm.mk 0 0 qw [] [] []),c0)) (aa k (yy k (ac t) (ac a) sys) fun h=>aa k (Im k (ac h.1) h.2 c0) fun j=>I ((ac j.1),j.2))
def yY (c0:Int) (c1:Tm) (c2:Int) (I:sH Int Tm->OS S):OS S:=dk k c0 0 (ac c1) (if 2000000000<c2 then 2000000000 else c2) 0 fun h=>sH.elim h (fun h=>I (.ok (ac h))) (fun j=>I (.gF j))
def xb (I:Tm×Int->OS S) (c0:Int) (c1:Tm) (c2:Int) (numbers:List Int) (j:Int->OS S) (h:Int):OS S:=ab (decide ((h:Int)<(numbers.length:Int))) (pA (af numbers h) fun x2=>ab (decide ((x2:Int)<0)) (I ((Tm.mk 0 0 qw [] [] []),2)) (j (p5 .i64 (h+1)))) (aa k (yY k c0 (ac c1) c2) fun q=>sH.elim q (fun q=>I ((ac q),0)) (fun x=>I ((Tm.mk 0 0 qw [] [] []),x)))
def nD (k:Nat) (I:Tm×Int->OS S) (c0:Int) (c1:Tm) (c2:Int) (numbers:List Int):Nat->Int->OS S
 |0=>fun _=> .none
 |m+1=>fun h=>xb k I c0 c1 c2 numbers (nD k I c0 c1 c2 numbers m) h
def BR (I:Tm×Int->OS S) (J0:Int->OS S) (t:Tm) (numbers:List Int) (c0:Int) (c1:Tm) (c2:Int):OS S:=aa k (HN k (ac t)) fun r1=>ab (!(r1==0)) (I ((Tm.mk 0 0 qw [] [] []),r1)) (J0 0)
def K7 (t:Tm) (numbers:List Int) (c0:Int) (c1:Tm) (c2:Int) (I:Tm×Int->OS S):OS S:=BR k I (fun h=>nD k I c0 c1 c2 numbers k h) t numbers c0 c1 c2
def x7 (t:Tm) (qk rj:Int) (I:Tm×Int->OS S):OS S:=aa k (K7 k (ac t) [qk,rj,p5 .i64 (1000000-rj)] rj (ac t) qk) fun r1=>I ((ac r1.1),r1.2)
def Tr (t:Tm) (vars px c0:Int) (I:Tm×Int->OS S):OS S:=aa k (dG k c0) fun r1=>ab (!r1) (I ((Tm.mk 0 0 qw [] [] []),c0)) (aa k (x7 k (ac t) 1 vars) fun j=>aa k (Im k (ac j.1) j.2 c0) fun h=>aa k (dG k h.2) fun z=>ab (!z) (I ((Tm.mk 0 0 qw [] [] []),h.2)) (aa k (lv k (ac h.1) 0 px) fun q=>aa k (Im k (ac q.1) q.2 h.2) fun x=>I ((ac x.1),x.2)))
def zb (t:Tm) (vars px c0:Int) (I:Tm×Int->OS S):OS S:=aa k (dG k c0) fun r1=>ab (!r1) (I ((Tm.mk 0 0 qw [] [] []),c0)) (aa k (lu k (ac t) vars px) fun h=>aa k (Im k (ac h.1) h.2 c0) fun j=>I ((ac j.1),j.2))
def mb (I:Int×Int×BA×LT×Int->OS S) (c0:Tm) (c1:Int) (vi:Tm) (rj:Int) (j:Int->(LT)->Int->OS S) (q:Int) (h:LT) (xU:Int):OS S:=ab (decide ((xU:Int)<((List.drop (BT 1) (List.take (BT c1) c0.c)).length:Int))) (pA (af (List.drop (BT 1) (List.take (BT c1) c0.c)) xU) fun x2=>ab (decide ((rj:Int)>0)) (aa k (zb k (ac x2) 0 rj q) fun z=>pA (aw 1099511627776 h.length [(ac z.1)].length) fun x4=>j z.2 (h++[(ac z.1)]) (p5 .i64 (xU+1))) (pA (aw 1099511627776 h.length [(ac x2)].length) fun x5=>j q (h++[(ac x2)]) (p5 .i64 (xU+1)))) (pA (aw 1099511627776 h.length [(ac vi)].length) fun x6=>aa k (zc k c0.k (h++[(ac vi)])) fun x=>I (x.1,x.2.1,x.2.2.1,x.2.2.2,q))
def SB (k:Nat) (I:Int×Int×BA×LT×Int->OS S) (c0:Tm) (c1:Int) (vi:Tm) (rj:Int):Nat->Int->(LT)->Int->OS S
 |0=>fun _ _ _=> .none
 |m+1=>fun j h xU=>mb k I c0 c1 vi rj (SB k I c0 c1 vi rj m) j h xU
def BP (k:Nat) (I:Int×Int×BA×LT×Int->OS S) (J0:Int->(LT)->Int->OS S) (p:Tm) (rj:Int) (vi c0:Tm) (c1 c3:Int):OS S:=pA (bR (0<=(1:Int)/\(1:Int)<=c1/\c1<=(c0.c.length:Int))) fun x1=>J0 c3 [(ac p)] 0
def nc (p:Tm) (rj:Int) (vi c0:Tm) (c1 c3:Int) (I:Int×Int×BA×LT×Int->OS S):OS S:=BP k I (fun j h xU=>SB k I c0 c1 vi rj k j h xU) p rj vi c0 c1 c3
def xF (k:Nat) (f:LC) (kids:LT) (I:(Br Tm)->OS S):OS S:=I (Br.mk f kids)
def yz (line:Tm) (c0:Int) (I:Tm×Int->OS S):OS S:=aa k (de k c0) fun r1=>ab (!r1) (I ((Tm.mk 0 0 qw [] [] []),c0)) (aa k (T5 k) fun j=>aa k (m_ k (ac line) 0 j) fun h=>aa k (iZ k h.2 c0) fun q=>I ((ac h.1),q))
def oP (I:Tm×Int->OS S) (r3:Tm) (r9:Int×Int×BA×LT) (r6:Tm) (z:Int->(LB)->Int->OS S) (q:Int) (j:LB) (Mc:Int):OS S:=ab (decide ((Mc:Int)<(r6.s.length:Int))) (pA (af r6.s Mc) fun x=>aa k (de k q) fun E=>ab (!E) (aa k (eQ k (Tm.mk r9.1 r9.2.1 r9.2.2.1 [] r9.2.2.2 j) q) fun A=>I ((ac A.1),A.2.1)) (aa k (lr k (ac r3) [(Cl.mk 1 0),(Cl.mk 2 0)] q) fun r13=>pA (af x.c 0) fun F=>aa k (xH k 14 [(ac r13.1),(ac F)]) fun h=>pA (aw 1099511627776 j.length [(Br.mk x.f [(Tm.mk h.1 h.2.1 h.2.2.1 [(Cl.mk 1 0)] h.2.2.2 [])])].length) fun J=>z r13.2 (j++[(Br.mk x.f [(Tm.mk h.1 h.2.1 h.2.2.1 [(Cl.mk 1 0)] h.2.2.2 [])])]) (p5 .i64 (Mc+1)))) (aa k (eQ k (Tm.mk r9.1 r9.2.1 r9.2.2.1 [] r9.2.2.2 j) q) fun B=>I ((ac B.1),B.2.1))
def ko (k:Nat) (I:Tm×Int->OS S) (r3:Tm) (r9:Int×Int×BA×LT) (r6:Tm):Nat->Int->(LB)->Int->OS S
 |0=>fun _ _ _=> .none
 |m+1=>fun j h Mc=>oP k I r3 r9 r6 (ko k I r3 r9 r6 m) j h Mc
def Hq (I:Tm×Int->OS S) (J0:Tm->(Int×Int×BA×LT)->Tm->Int->(LB)->Int->OS S) (line a:Tm) (sys:LB):OS S:=aa k (mv k sys) fun r1=>aa k (m9 k [(ac line),(ac a),(Tm.mk r1.1 r1.2.1 r1.2.2.1 [] r1.2.2.2.1 r1.2.2.2.2)]) fun z=>dJ k (ac line) fun q=>dJ k (ac a) fun A=>aa k (mv k sys) fun h=>dJ k (Tm.mk h.1 h.2.1 h.2.2.1 [] h.2.2.2.1 h.2.2.2.2) fun B=>aa k (yz k (ac q) z) fun x=>aa k (xH k 14 [(ac q),(ac A)]) fun j=>aa k (xH k 15 [(ac x.1),(Tm.mk j.1 j.2.1 j.2.2.1 [] j.2.2.2 [])]) fun E=>J0 q E B x.2 ([]:LB) 0
def yx (line a:Tm) (sys:LB) (I:Tm×Int->OS S):OS S:=Hq k I (fun q x z j h Mc=>ko k I q x z k j h Mc) line a sys
def y9 (line a:Tm) (sys:LB) (c0:Int) (I:Tm×Int->OS S):OS S:=aa k (dG k c0) fun r1=>ab (!r1) (I ((Tm.mk 0 0 qw [] [] []),c0)) (aa k (yx k (ac line) (ac a) sys) fun h=>aa k (Im k (ac h.1) h.2 c0) fun j=>I ((ac j.1),j.2))
def oR (I:Tm×Bool×Int->OS S) (r3:Tm) (r9 De:Tm×Int) (r13:Int×Int×BA×LT×Int) (t x4:Tm) (x:Int->(LB)->Int->OS S) (z:Int) (h:LB) (xM:Int):OS S:=ab (decide ((xM:Int)<(x4.s.length:Int))) (pA (af x4.s xM) fun A=>pA (af A.c 0) fun F=>aa k (nc k (ac r9.1) 1 (ac F) (ac r3) (p5 .i64 ((t.c.length:Int)-1)) z) fun j=>aa k (xF k A.f [(Tm.mk j.1 j.2.1 j.2.2.1 [] j.2.2.2.1 [])]) fun B=>pA (aw 1099511627776 h.length [B].length) fun J=>x j.2.2.2.2 (h++[B]) (p5 .i64 (xM+1))) (aa k (y9 k (ac De.1) (Tm.mk r13.1 r13.2.1 r13.2.2.1 [] r13.2.2.2.1 []) h z) fun E=>aa k (ly k (ac E.1) E.2) fun q=>I ((ac q.1),q.2.1,q.2.2.1))
def fX (k:Nat) (I:Tm×Bool×Int->OS S) (r3:Tm) (r9 De:Tm×Int) (r13:Int×Int×BA×LT×Int) (t x4:Tm):Nat->Int->(LB)->Int->OS S
 |0=>fun _ _ _=> .none
 |m+1=>fun j h q=>oR k I r3 r9 De r13 t x4 (fX k I r3 r9 De r13 t x4 m) j h q
def w_ (I:Tm×Bool×Int->OS S) (t:Tm) (J1:Tm->(Tm×Int)->(Tm×Int)->(Int×Int×BA×LT×Int)->Tm->Int->(LB)->Int->OS S):OS S:=dJ k (ac t) fun h=>pA (af h.c (p5 .i64 ((t.c.length:Int)-1))) fun x4=>pA (af x4.c 0) fun x5=>pA (af x4.c 1) fun x6=>aa k (y_ k (ac x5) (ac x6) x4.s 0) fun A=>pA (af h.c 0) fun B=>aa k (Tr k (ac B) 0 1 A.2) fun q=>aa k (za k (ac q.1) (ac A.1) q.2) fun j=>pA (af h.c 0) fun x=>pA (af x4.c 1) fun z=>aa k (nc k (ac x) 0 (ac z) (ac h) (p5 .i64 ((t.c.length:Int)-1)) j.2) fun r13=>J1 h q j r13 x4 r13.2.2.2.2 ([]:LB) 0
def l6 (I:Tm×Bool×Int->OS S) (t:Tm):Nat->OS S
 |0=> .none
 |_+1=>w_ k I t (fun z A j r13 x4 q h x=>fX k I z A j r13 t x4 k q h x)
def HU (I:Tm×Bool×Int->OS S) (J0:OS S) (t:Tm):OS S:=aa k (HN k (ac t)) fun r1=>ab (!(r1==0)) (I ((Tm.mk 0 0 qw [] [] []),false,r1)) (ab (!(t.k==22)) (ab (!(t.k==27)) (I ((Tm.mk 0 0 qw [] [] []),false,0)) (pA (af t.c (p5 .i64 ((t.c.length:Int)-1))) fun x2=>ab (!(x2.k==15)) (I ((Tm.mk 0 0 qw [] [] []),false,0)) (J0))) (pA (af t.c (p5 .i64 ((t.c.length:Int)-1))) fun h=>ab (!(h.k==15)) (I ((Tm.mk 0 0 qw [] [] []),false,0)) (J0)))
def tL (t:Tm) (I:Tm×Bool×Int->OS S):OS S:=HU k I (l6 k I t k) t
def TY (k:Nat) (rm:Int) (I:Int×Int×BA->OS S):OS S:=I (1,rm,qw)
def ek (I:Int->OS S) (l:List (LC)) (h:Int->OS S) (j:Int):OS S:=ab (decide ((j:Int)<(l.length:Int))) (pA (af l j) fun x1=>aa k (pd k x1) fun q=>ab (!q) (I 2) (h (p5 .i64 (j+1)))) (I 0)
def jm (k:Nat) (I:Int->OS S) (l:List (LC)):Nat->Int->OS S
 |0=>fun _=> .none
 |m+1=>fun h=>ek k I l (jm k I l m) h
def bt (k:Nat) (I:Int->OS S) (J0:Int->OS S) (l:List (LC)):OS S:=J0 0
def r4 (l:List (LC)) (I:Int->OS S):OS S:=bt k I (fun h=>jm k I l k h) l
def s5 (f g:LC) (I:LC×Int->OS S):OS S:=aa k (r4 k [f,g]) fun r1=>ab (!(r1==0)) (I (([]:LC),r1)) (aa k (yL k f g) fun h=>I (h.1,h.2))
def Td (f g:LC) (c0:Int) (I:LC×Int->OS S):OS S:=aa k (de k c0) fun r1=>ab (!r1) (I (([]:LC),c0)) (aa k (s5 k f g) fun h=>aa k (iZ k h.2 c0) fun j=>I (h.1,j))
def eW (line:Tm) (pz:LC) (a:Tm) (Km:Cl) (sV:LC) (I:Tm×Int->OS S):OS S:=aa k (m9 k [(ac line),(ac a)]) fun r1=>aa k (pd k pz) fun L=>ab (!L) (aa k (iZ k 2 r1) fun M=>aa k (tA k pz M) fun A=>aa k (Td k A.1 [Km] A.2) fun B=>aa k (lr k (ac line) sV B.2) fun E=>aa k (Dh k (ac a) 0 1 E.2) fun F=>aa k (xH k 14 [(ac E.1),(ac F.1)]) fun z=>aa k (eQ k (Tm.mk z.1 z.2.1 z.2.2.1 B.1 z.2.2.2 []) F.2) fun J=>I ((ac J.1),J.2.1)) (aa k (tA k pz r1) fun h=>aa k (Td k h.1 [Km] h.2) fun j=>aa k (lr k (ac line) sV j.2) fun q=>aa k (Dh k (ac a) 0 1 q.2) fun r13=>aa k (xH k 14 [(ac q.1),(ac r13.1)]) fun r14=>aa k (eQ k (Tm.mk r14.1 r14.2.1 r14.2.2.1 j.1 r14.2.2.2 []) r13.2) fun x=>I ((ac x.1),x.2.1))
def ec (line:Tm) (pz:LC) (a:Tm) (I:Tm×Int->OS S):OS S:=aa k (eW k (ac line) pz (ac a) (Cl.mk 1 0) [(Cl.mk 0 1),(Cl.mk 2 0)]) fun r1=>I ((ac r1.1),r1.2)
def e0 (line:Tm) (pz:LC) (a:Tm) (c0:Int) (I:Tm×Int->OS S):OS S:=aa k (dG k c0) fun r1=>ab (!r1) (I ((Tm.mk 0 0 qw [] [] []),c0)) (aa k (ec k (ac line) pz (ac a)) fun h=>aa k (Im k (ac h.1) h.2 c0) fun j=>I ((ac j.1),j.2))
def SD (line a:Tm) (qB:Int) (pw:LC) (qm ql:Int) (qv:BA) (qn:LC) (qu:LT) (py:LB) (I:Int×Int×BA×LC×LT->OS S):OS S:=aa k (tO k 14 pw [(ac line),(ac a)]) fun r1=>I (r1.1,r1.2.1,r1.2.2.1,r1.2.2.2.1,r1.2.2.2.2)
def hK (l:Tm) (qB:Int) (pw:LC) (qm ql:Int) (qv:BA) (qn:LC) (qu:LT) (py:LB) (I:Int×Int×BA×LT×Int->OS S):OS S:=pA (af l.c 0) fun x1=>aa k (zb k (ac x1) 1 0 qB) fun B=>aa k (TY k 0) fun x=>aa k (e0 k (ac B.1) pw (Tm.mk x.1 x.2.1 x.2.2 [] [] []) B.2) fun z=>pA (af l.c 1) fun x5=>aa k (Tr k (ac x5) 1 0 z.2) fun E=>aa k (za k (ac E.1) (ac z.1) E.2) fun F=>aa k (zb k (Tm.mk qm ql qv qn qu py) 1 0 F.2) fun J=>aa k (JL k (ac z.1) ([]:LC) J.2) fun A=>aa k (zc k 6 [(ac J.1),(ac A.1)]) fun j=>aa k (SD k (ac F.1) (Tm.mk j.1 j.2.1 j.2.2.1 [] j.2.2.2 []) A.2 pw qm ql qv qn qu py) fun h=>aa k (zc k 5 [(Tm.mk h.1 h.2.1 h.2.2.1 h.2.2.2.1 h.2.2.2.2 [])]) fun q=>I (q.1,q.2.1,q.2.2.1,q.2.2.2,A.2)
def rv (line:Tm) (pz:LC) (a:Tm) (I:Tm×Int->OS S):OS S:=aa k (eW k (ac line) pz (ac a) (Cl.mk 0 1) [(Cl.mk 3 0)]) fun r1=>I ((ac r1.1),r1.2)
def eR (line:Tm) (pz:LC) (a:Tm) (c0:Int) (I:Tm×Int->OS S):OS S:=aa k (dG k c0) fun r1=>ab (!r1) (I ((Tm.mk 0 0 qw [] [] []),c0)) (aa k (rv k (ac line) pz (ac a)) fun h=>aa k (Im k (ac h.1) h.2 c0) fun j=>I ((ac j.1),j.2))
def u2 (l:Tm) (qB:Int) (pw:LC) (qm ql:Int) (qv:BA) (qn:LC) (qu:LT) (py:LB) (I:Int×Int×BA×LT×Int->OS S):OS S:=aa k (zc k 9 [(Tm.mk qm ql qv qn qu py)]) fun r1=>pA (af l.c 1) fun x2=>pA (af l.c 0) fun x3=>aa k (eR k (ac x3) pw (Tm.mk r1.1 r1.2.1 r1.2.2.1 [] r1.2.2.2 []) qB) fun A=>aa k (za k (ac x2) (ac A.1) A.2) fun x=>pA (af l.c 0) fun x6=>aa k (SD k (ac x6) (Tm.mk r1.1 r1.2.1 r1.2.2.1 [] r1.2.2.2 []) x.2 pw qm ql qv qn qu py) fun j=>aa k (zc k 10 [(Tm.mk qm ql qv qn qu py)]) fun z=>aa k (SD k (ac x.1) (Tm.mk z.1 z.2.1 z.2.2.1 [] z.2.2.2 []) x.2 pw qm ql qv qn qu py) fun q=>aa k (zc k 8 [(Tm.mk j.1 j.2.1 j.2.2.1 j.2.2.2.1 j.2.2.2.2 []),(Tm.mk q.1 q.2.1 q.2.2.1 q.2.2.2.1 q.2.2.2.2 [])]) fun h=>I (h.1,h.2.1,h.2.2.1,h.2.2.2,x.2)
def Z2 (t:Tm) (I:Tm×Int->OS S):OS S:=aa k (lv k (ac t) 2 1) fun r1=>ab (!(r1.2==0)) (I ((Tm.mk 0 0 qw [] [] []),r1.2)) (aa k (m_ k (ac r1.1) 0 [(Cl.mk 2 0)]) fun h=>I ((ac h.1),h.2))
def Z1 (t:Tm) (qB:Int) (pw:LC) (qm ql:Int) (qv:BA) (qn:LC) (qu:LT) (py:LB) (I:Tm×Int->OS S):OS S:=ab (!(qB==0)) (I ((Tm.mk 0 0 qw [] [] []),qB)) (aa k (Z2 k (ac t)) fun r1=>I ((ac r1.1),r1.2))
def tS (rj:Int) (sV:Cl) (c1 c2:Tm) (B9:Int) (vl:LC) (vh vg:Int) (vf:BA) (ve:LC) (vc:LT) (va:LB) (I:Int×Int×BA×LC×LT×Int->OS S):OS S:=aa k (zb k (Tm.mk vh vg vf ve vc va) 0 rj B9) fun r1=>aa k (zb k (ac c1) 0 rj r1.2) fun j=>aa k (zb k (ac c2) 0 rj j.2) fun q=>aa k (tO k 13 [sV] [(ac r1.1),(ac j.1),(ac q.1)]) fun h=>I (h.1,h.2.1,h.2.2.1,h.2.2.2.1,h.2.2.2.2,q.2)
def JK (f:LC) (rj c0:Int) (I:LC×Int->OS S):OS S:=aa k (dG k c0) fun r1=>ab (!r1) (I (([]:LC),c0)) (aa k (jV k f 0 rj) fun h=>aa k (Im k (Tm.mk 0 0 qw [] [] []) h.2 c0) fun j=>I (h.1,j.2))
def JJ (t:Tm) (rj c0:Int) (I:Tm×Int->OS S):OS S:=aa k (dG k c0) fun r1=>ab (!r1) (I ((Tm.mk 0 0 qw [] [] []),c0)) (aa k (lv k (ac t) 1 rj) fun h=>aa k (Im k (ac h.1) h.2 c0) fun j=>I ((ac j.1),j.2))
def lo (l:Tm) (qB:Int) (pw:LC) (qm ql:Int) (qv:BA) (qn:LC) (qu:LT) (py:LB) (I:Int×Int×BA×LT×Int->OS S):OS S:=pA (af l.c 1) fun x1=>aa k (JL k (ac x1) ([]:LC) qB) fun T=>pA (af l.c 2) fun x3=>aa k (JL k (ac x3) ([]:LC) T.2) fun W=>pA (af l.c 0) fun x5=>aa k (Z1 k (ac x5) W.2 pw qm ql qv qn qu py) fun Y=>aa k (tS k 1 (Cl.mk 1 0) (ac T.1) (ac W.1) Y.2 pw qm ql qv qn qu py) fun h=>ab (decide (((pw.length:Int):Int)>0)) (aa k (JK k pw 1 h.2.2.2.2.2) fun r8=>aa k (tS k 2 (Cl.mk 2 0) (ac T.1) (ac W.1) r8.2 pw qm ql qv qn qu py) fun A=>aa k (xF k r8.1 [(Tm.mk A.1 A.2.1 A.2.2.1 A.2.2.2.1 A.2.2.2.2.1 [])]) fun j=>pA (aw 1099511627776 0 [j].length) fun a6=>pA (af l.c 1) fun ad=>aa k (JJ k (ac ad) 1 A.2.2.2.2.2) fun r13=>aa k (xF k [(Cl.mk 0 1)] [(ac r13.1)]) fun r14=>pA (aw 1099511627776 [j].length [r14].length) fun a7=>pA (af l.c 2) fun ao=>aa k (JJ k (ac ao) 1 r13.2) fun B=>aa k (xF k [(Cl.mk 1 0)] [(ac B.1)]) fun E=>pA (aw 1099511627776 ([j]++[r14]).length [E].length) fun a8=>aa k (y9 k (ac Y.1) (Tm.mk h.1 h.2.1 h.2.2.1 h.2.2.2.1 h.2.2.2.2.1 []) (([j]++[r14])++[E]) B.2) fun F=>aa k (zc k 12 [(ac F.1)]) fun q=>I (q.1,q.2.1,q.2.2.1,q.2.2.2,F.2)) (pA (af l.c 1) fun ax=>aa k (JJ k (ac ax) 1 h.2.2.2.2.2) fun J=>aa k (xF k [(Cl.mk 0 1)] [(ac J.1)]) fun z=>pA (aw 1099511627776 0 [z].length) fun bc=>pA (af l.c 2) fun az=>aa k (JJ k (ac az) 1 J.2) fun L=>aa k (xF k [(Cl.mk 1 0)] [(ac L.1)]) fun M=>pA (aw 1099511627776 [z].length [M].length) fun bf=>aa k (y9 k (ac Y.1) (Tm.mk h.1 h.2.1 h.2.2.1 h.2.2.2.1 h.2.2.2.2.1 []) ([z]++[M]) L.2) fun O=>aa k (zc k 12 [(ac O.1)]) fun x=>I (x.1,x.2.1,x.2.2.1,x.2.2.2,O.2))
def JM (k:Nat) (kind:Int) (l:LB) (kids:LT) (I:Int×Int×BA×LT×LB->OS S):OS S:=I (kind,0,qw,kids,l)
def Jp (I:Tm×Bool×Int->OS S) (r3:Tm) (j:Int×Int×BA×LC×LT) (x4:Tm) (r13:Tm×Int) (x5:Tm) (B:Int->(LB)->Int->OS S) (E:Int) (h:LB) (z:Int):OS S:=ab (decide ((z:Int)<(x5.s.length:Int))) (pA (af x5.s z) fun F=>aa k (JK k r3.r 1 E) fun J=>aa k (JJ k (ac x4) 1 J.2) fun L=>pA (af F.c 0) fun O=>aa k (tO k 14 J.1 [(ac L.1),(ac O)]) fun q=>aa k (xF k F.f [(Tm.mk q.1 q.2.1 q.2.2.1 q.2.2.2.1 q.2.2.2.2 [])]) fun M=>pA (aw 1099511627776 h.length [M].length) fun T=>B L.2 (h++[M]) (p5 .i64 (z+1))) (aa k (JM k 15 h [(ac r13.1),(Tm.mk j.1 j.2.1 j.2.2.1 j.2.2.2.1 j.2.2.2.2 [])]) fun x=>aa k (ly k (Tm.mk x.1 x.2.1 x.2.2.1 [] x.2.2.2.1 x.2.2.2.2) E) fun A=>I ((ac A.1),A.2.1,A.2.2.1))
def E7 (k:Nat) (I:Tm×Bool×Int->OS S) (r3:Tm) (j:Int×Int×BA×LC×LT) (x4:Tm) (r13:Tm×Int) (x5:Tm):Nat->Int->(LB)->Int->OS S
 |0=>fun _ _ _=> .none
 |m+1=>fun q h x=>Jp k I r3 j x4 r13 x5 (E7 k I r3 j x4 r13 x5 m) q h x
def SP (I:Tm×Bool×Int->OS S) (J0:Tm->(Int×Int×BA×LC×LT)->Tm->(Tm×Int)->Tm->Int->(LB)->Int->OS S) (t:Tm):OS S:=aa k (HN k (ac t)) fun r1=>ab (!(r1==0)) (I ((Tm.mk 0 0 qw [] [] []),false,r1)) (ab (!(t.k==14)) (I ((Tm.mk 0 0 qw [] [] []),false,0)) (pA (af t.c 0) fun x2=>ab (!(x2.k==23)) (I ((Tm.mk 0 0 qw [] [] []),false,0)) (dJ k (ac t) fun x=>pA (af x.c 0) fun x4=>pA (af x.c 1) fun x5=>ab (x5.k==24) (aa k (ly k (ac x5) 0) fun z=>I ((ac z.1),z.2.1,z.2.2.1)) (ab (x5.k==25) (aa k (ly k (ac x5) 0) fun A=>I ((ac A.1),A.2.1,A.2.2.1)) (ab (x5.k==26) (pA (af x4.c 0) fun F=>pA (af x5.c 0) fun J=>aa k (tO k 14 x.r [(ac F),(ac J)]) fun h=>aa k (tO k 26 x5.r [(Tm.mk h.1 h.2.1 h.2.2.1 h.2.2.2.1 h.2.2.2.2 [])]) fun j=>aa k (ly k (Tm.mk j.1 j.2.1 j.2.2.1 j.2.2.2.1 j.2.2.2.2 []) 0) fun q=>I ((ac q.1),q.2.1,q.2.2.1)) (ab (x5.k==15) (aa k (JI k (ac x4) 0) fun r13=>pA (af x5.c 1) fun B=>aa k (tO k 14 x.r [(ac x4),(ac B)]) fun E=>J0 x E x4 r13 x5 r13.2 ([]:LB) 0) (I ((Tm.mk 0 0 qw [] [] []),false,0))))))))
def JG (t:Tm) (I:Tm×Bool×Int->OS S):OS S:=SP k I (fun z j x4 r13 x5 q h x=>E7 k I z j x4 r13 x5 k q h x) t
def hh (b:(Br Tm)) (I:(Br Tm)->OS S):OS S:=pA (af b.c 1) fun x1=>aa k (xF k b.f [(ac x1)]) fun h=>I h
def dy (I:LB->OS S) (l:LB) (j:Int->(LB)->OS S) (qT:Int) (h:LB):OS S:=ab (decide ((qT:Int)<(l.length:Int))) (pA (af l qT) fun x1=>aa k (hh k x1) fun q=>pA (aw 1099511627776 h.length [q].length) fun x3=>j (p5 .i64 (qT+1)) (h++[q])) (I h)
def kx (k:Nat) (I:LB->OS S) (l:LB):Nat->Int->(LB)->OS S
 |0=>fun _ _=> .none
 |m+1=>fun qT h=>dy k I l (kx k I l m) qT h
def fL (k:Nat) (I:LB->OS S) (J0:Int->(LB)->OS S) (l:LB):OS S:=J0 0 ([]:LB)
def zl (l:LB) (I:LB->OS S):OS S:=fL k I (fun qT h=>kx k I l k qT h) l
def T4 (g:Tm) (I:LB->OS S):OS S:=aa k (zl k g.s) fun r1=>I r1
def SF (a:Tm) (es:LB) (I:Int×Int×BA×LT×LB->OS S):OS S:=aa k (JM k 18 es [(ac a)]) fun r1=>I (r1.1,r1.2.1,r1.2.2.1,r1.2.2.2.1,r1.2.2.2.2)
def ay3 (c:Cl) (c0:Int) (I:Cl×Bool->OS S):OS S:=aa k (Nh k (bj .or .u32 c.pos c.neg) c0) fun r1=>I (c,!r1)
def KK (I:LC->OS S) (c0:Int) (l:LC) (j:Int->(LC)->OS S) (uK:Int) (h:LC):OS S:=ab (decide ((uK:Int)<(l.length:Int))) (pA (af l uK) fun x1=>aa k (ay3 k x1 c0) fun q=>ab (q.2) (pA (aw 1099511627776 h.length [q.1].length) fun x3=>j (p5 .i64 (uK+1)) (h++[q.1])) (j (p5 .i64 (uK+1)) h)) (I h)
def N2 (k:Nat) (I:LC->OS S) (c0:Int) (l:LC):Nat->Int->(LC)->OS S
 |0=>fun _ _=> .none
 |m+1=>fun uK h=>KK k I c0 l (N2 k I c0 l m) uK h
def az7 (k:Nat) (I:LC->OS S) (J0:Int->(LC)->OS S) (l:LC) (c0:Int):OS S:=J0 0 ([]:LC)
def ay4 (l:LC) (c0:Int) (I:LC->OS S):OS S:=az7 k I (fun uK h=>N2 k I c0 l k uK h) l c0
def cz (f:LC) (i:Int) (I:LC×Int->OS S):OS S:=aa k (pd k f) fun r1=>ab (!r1) (I (([]:LC),2)) (aa k (yK k i) fun j=>ab (!j) (I (([]:LC),2)) (aa k (ay4 k f i) fun q=>aa k (gy k q) fun h=>I (h.1,h.2)))
def ed (f:LC) (c0:Int) (I:LC×Int->OS S):OS S:=aa k (dG k c0) fun r1=>ab (!r1) (I (([]:LC),c0)) (aa k (cz k f 0) fun x=>aa k (Im k (Tm.mk 0 0 qw [] [] []) x.2 c0) fun q=>aa k (dG k q.2) fun A=>ab (!A) (I (([]:LC),q.2)) (aa k (zc k 3 ([]:LT)) fun h=>aa k (zc k 3 ([]:LT)) fun j=>aa k (tK k) fun B=>aa k (m_ k (Tm.mk 14 0 qw x.1 [(Tm.mk h.1 h.2.1 h.2.2.1 [] h.2.2.2 []),(Tm.mk j.1 j.2.1 j.2.2.1 [] j.2.2.2 [])] []) 0 B) fun z=>aa k (Im k (Tm.mk 0 0 qw [] [] []) z.2 q.2) fun E=>I (z.1.r,E.2)))
def x0 (c1:Tm) (h:Int) (j:LC) (q x:Int) (z:BA) (A:LC) (B:LT) (E F:LB) (J L:Int) (M:BA) (O:LC) (T:LT) (W:LB) (Y ad:Int) (ao:BA) (ax:LC) (az:LT) (a6:LB) (I:Tm×Int->OS S):OS S:=aa k (zb k (ac c1) 0 1 h) fun r1=>I ((ac r1.1),r1.2)
def fr (qB:Int) (pw:LC) (qm ql:Int) (qv:BA) (qn:LC) (qu:LT) (py h:LB) (wc wD:Int) (wv:BA) (wq:LC) (wm:LT) (wi:LB) (uY uX:Int) (uW:BA) (uV:LC) (uU:LT) (uT:LB) (c2:Tm) (I:LB×Int->OS S):OS S:=ab ((pw.length:Int)==0) (I (([]:LB),qB)) (aa k (x0 k (ac c2) qB pw qm ql qv qn qu py h wc wD wv wq wm wi uY uX uW uV uU uT) fun r1=>aa k (xF k pw [(ac r1.1)]) fun j=>I ([j],r1.2))
def SG (HE:Tm) (I:Int×Int×BA×LT->OS S):OS S:=aa k (zc k 9 [(ac HE)]) fun r1=>I (r1.1,r1.2.1,r1.2.2.1,r1.2.2.2)
def ay7 (b:(Br Tm)) (vm:Int) (sP:LC) (sO sN:Int) (sM:BA) (sK:LC) (sJ:LT) (sQ tt:LB) (s8 tc:Int) (tb:BA) (ta:LC) (s9:LT) (td:LB) (th tg:Int) (tf:BA) (te:LC) (tP:LT) (tM:LB) (I:(Br Tm)×Int->OS S):OS S:=pA (af b.c 1) fun x1=>aa k (SG k (ac x1)) fun h=>pA (af b.c 0) fun x3=>aa k (eR k (ac x3) sP (Tm.mk sO sN sM sK sJ sQ) vm) fun q=>aa k (zc k 6 [(Tm.mk h.1 h.2.1 h.2.2.1 [] h.2.2.2 []),(ac q.1)]) fun j=>aa k (xF k b.f [(Tm.mk j.1 j.2.1 j.2.2.1 [] j.2.2.2 [])]) fun x=>I (x,q.2)
def fB (I:LB×Int->OS S) (sP:LC) (tc:Int) (tb:BA) (ta:LC) (s9:LT) (td:LB) (th tg:Int) (tf:BA) (te:LC) (tP:LT) (sO:Int) (tM:LB) (sN:Int) (sM:BA) (sK:LC) (sJ:LT) (sQ tt:LB) (s8:Int) (l:LB) (j:Int->Int->(LB)->OS S) (arm qT:Int) (h:LB):OS S:=ab (decide ((qT:Int)<(l.length:Int))) (pA (af l qT) fun x1=>aa k (ay7 k x1 arm sP sO sN sM sK sJ sQ tt s8 tc tb ta s9 td th tg tf te tP tM) fun q=>pA (aw 1099511627776 h.length [q.1].length) fun x3=>j q.2 (p5 .i64 (qT+1)) (h++[q.1])) (I (h,arm))
def ll (k:Nat) (I:LB×Int->OS S) (sP:LC) (tc:Int) (tb:BA) (ta:LC) (s9:LT) (td:LB) (th tg:Int) (tf:BA) (te:LC) (tP:LT) (sO:Int) (tM:LB) (sN:Int) (sM:BA) (sK:LC) (sJ:LT) (sQ tt:LB) (s8:Int) (l:LB):Nat->Int->Int->(LB)->OS S
 |0=>fun _ _ _=> .none
 |m+1=>fun arm qT h=>fB k I sP tc tb ta s9 td th tg tf te tP sO tM sN sM sK sJ sQ tt s8 l (ll k I sP tc tb ta s9 td th tg tf te tP sO tM sN sM sK sJ sQ tt s8 l m) arm qT h
def o5 (k:Nat) (I:LB×Int->OS S) (J0:Int->Int->(LB)->OS S) (l:LB) (vm:Int) (sP:LC) (sO sN:Int) (sM:BA) (sK:LC) (sJ:LT) (sQ tt:LB) (s8 tc:Int) (tb:BA) (ta:LC) (s9:LT) (td:LB) (th tg:Int) (tf:BA) (te:LC) (tP:LT) (tM:LB):OS S:=J0 vm 0 ([]:LB)
def fg (l:LB) (vm:Int) (sP:LC) (sO sN:Int) (sM:BA) (sK:LC) (sJ:LT) (sQ tt:LB) (s8 tc:Int) (tb:BA) (ta:LC) (s9:LT) (td:LB) (th tg:Int) (tf:BA) (te:LC) (tP:LT) (tM:LB) (I:LB×Int->OS S):OS S:=o5 k I (fun arm qT h=>ll k I sP tc tb ta s9 td th tg tf te tP sO tM sN sM sK sJ sQ tt s8 l k arm qT h) l vm sP sO sN sM sK sJ sQ tt s8 tc tb ta s9 td th tg tf te tP tM
def ys (I:Int×LB×Int×Int×BA×LC×LT×LB->OS S) (pw:LC) (wD:Int) (wv:BA) (wq:LC) (wm:LT) (wi:LB) (uY uX:Int) (uW:BA) (uV:LC) (uU:LT) (qm:Int) (uT:LB) (ql:Int) (qv:BA) (qn:LC) (qu:LT) (py:LB) (wc:Int) (g:Tm) (r3:Int×Int×BA×LT×LB) (q:Int->(LB)->Int->OS S) (x:Int) (h:LB) (K7:Int):OS S:=ab (decide ((K7:Int)<(g.s.length:Int))) (pA (af g.s K7) fun x4=>aa k (ed k x4.f x) fun z=>ab (decide (((z.1.length:Int):Int)>0)) (aa k (xF k z.1 x4.c) fun F=>pA (aw 1099511627776 h.length [F].length) fun L=>q z.2 (h++[F]) (p5 .i64 (K7+1))) (q z.2 h (p5 .i64 (K7+1)))) (aa k (fr k x pw qm ql qv qn qu py h wc wD wv wq wm wi uY uX uW uV uU uT (Tm.mk r3.1 r3.2.1 r3.2.2.1 [] r3.2.2.2.1 r3.2.2.2.2)) fun A=>aa k (fg k h A.2 pw qm ql qv qn qu py h wc wD wv wq wm wi uY uX uW uV uU uT) fun B=>pA (aw 1099511627776 A.1.length B.1.length) fun J=>pA (af g.c 0) fun E=>aa k (y9 k (ac E) (Tm.mk r3.1 r3.2.1 r3.2.2.1 [] r3.2.2.2.1 r3.2.2.2.2) (A.1++B.1) B.2) fun j=>I (j.2,h,j.1.k,j.1.n,j.1.name,j.1.r,j.1.c,j.1.s))
def jw (k:Nat) (I:Int×LB×Int×Int×BA×LC×LT×LB->OS S) (pw:LC) (wD:Int) (wv:BA) (wq:LC) (wm:LT) (wi:LB) (uY uX:Int) (uW:BA) (uV:LC) (uU:LT) (qm:Int) (uT:LB) (ql:Int) (qv:BA) (qn:LC) (qu:LT) (py:LB) (wc:Int) (g:Tm) (r3:Int×Int×BA×LT×LB):Nat->Int->(LB)->Int->OS S
 |0=>fun _ _ _=> .none
 |m+1=>fun j h K7=>ys k I pw wD wv wq wm wi uY uX uW uV uU qm uT ql qv qn qu py wc g r3 (jw k I pw wD wv wq wm wi uY uX uW uV uU qm uT ql qv qn qu py wc g r3 m) j h K7
def az_ (I:Int×LB×Int×Int×BA×LC×LT×LB->OS S) (J0:(Int×Int×BA×LT×LB)->Int->(LB)->Int->OS S) (g:Tm) (qB:Int) (pw:LC) (qm ql:Int) (qv:BA) (qn:LC) (qu:LT) (py:LB) (wc wD:Int) (wv:BA) (wq:LC) (wm:LT) (wi:LB) (uY uX:Int) (uW:BA) (uV:LC) (uU:LT) (uT:LB):OS S:=aa k (JL k (ac g) ([]:LC) qB) fun r1=>aa k (T4 k (ac r1.1)) fun h=>aa k (SF k (Tm.mk qm ql qv qn qu py) h) fun j=>J0 j r1.2 ([]:LB) 0
def sq (g:Tm) (qB:Int) (pw:LC) (qm ql:Int) (qv:BA) (qn:LC) (qu:LT) (py:LB) (wc wD:Int) (wv:BA) (wq:LC) (wm:LT) (wi:LB) (uY uX:Int) (uW:BA) (uV:LC) (uU:LT) (uT:LB) (I:Int×LB×Int×Int×BA×LC×LT×LB->OS S):OS S:=az_ k I (fun q j h K7=>jw k I pw wD wv wq wm wi uY uX uW uV uU qm uT ql qv qn qu py wc g q k j h K7) g qB pw qm ql qv qn qu py wc wD wv wq wm wi uY uX uW uV uU uT
def KX (k:Nat) (rm:Int) (I:Int×Int×BA->OS S):OS S:=I (1,rm,qw)
def Uu (t a f y:Tm) (c0:Int) (I:Int×Int×BA×LT×Int->OS S):OS S:=aa k (Dh k (ac a) 1 1 c0) fun r1=>aa k (Dh k (ac y) 1 0 r1.2) fun z=>aa k (Dh k (ac f) 1 0 z.2) fun A=>aa k (KX k 0) fun x=>aa k (xH k 6 [(ac A.1),(Tm.mk x.1 x.2.1 x.2.2 [] [] [])]) fun h=>aa k (xH k 11 [(ac r1.1),(ac z.1),(Tm.mk h.1 h.2.1 h.2.2.1 [] h.2.2.2 [])]) fun j=>aa k (xH k 7 [(ac t),(Tm.mk j.1 j.2.1 j.2.2.1 [] j.2.2.2 [])]) fun q=>I (q.1,q.2.1,q.2.2.1,q.2.2.2,A.2)
def L1 (t a f y:Tm) (I:Tm×Int->OS S):OS S:=aa k (m9 k [(ac t),(ac a),(ac f),(ac y)]) fun r1=>dJ k (ac t) fun q=>aa k (Uu k (ac q) (ac a) (ac f) (ac y) r1) fun h=>aa k (eQ k (Tm.mk h.1 h.2.1 h.2.2.1 [] h.2.2.2.1 []) h.2.2.2.2) fun j=>I ((ac j.1),j.2.1)
def sb (t a f y:Tm) (c0:Int) (I:Tm×Int->OS S):OS S:=aa k (dG k c0) fun r1=>ab (!r1) (I ((Tm.mk 0 0 qw [] [] []),c0)) (aa k (L1 k (ac t) (ac a) (ac f) (ac y)) fun h=>aa k (Im k (ac h.1) h.2 c0) fun j=>I ((ac j.1),j.2))
def kT (vi c1:Tm) (B:Int) (Y:LC) (ad ao:Int) (ax:BA) (az:LC) (a6:LT) (a7 a8:LB) (E F:Int) (J:BA) (L:LC) (M:LT) (O:LB) (bc bf:Int) (bh:BA) (bn:LC) (bt:LT) (bz:LB) (I:Int×Int×BA×LC×LT×Int->OS S):OS S:=aa k (zb k (ac c1) 0 1 B) fun r1=>aa k (zb k (ac vi) 0 1 r1.2) fun T=>aa k (zb k (Tm.mk E F J L M O) 0 2 T.2) fun W=>aa k (zc k 12 [(ac W.1)]) fun q=>aa k (zc k 8 [(ac T.1),(Tm.mk q.1 q.2.1 q.2.2.1 [] q.2.2.2 [])]) fun h=>aa k (zc k 10 [(ac r1.1)]) fun x=>aa k (zc k 6 [(Tm.mk x.1 x.2.1 x.2.2.1 [] x.2.2.2 []),(Tm.mk h.1 h.2.1 h.2.2.1 [] h.2.2.2 [])]) fun z=>aa k (zc k 9 [(ac r1.1)]) fun A=>aa k (tO k 13 [(Cl.mk 1 0)] [(Tm.mk z.1 z.2.1 z.2.2.1 [] z.2.2.2 []),(Tm.mk A.1 A.2.1 A.2.2.1 [] A.2.2.2 []),(Tm.mk h.1 h.2.1 h.2.2.1 [] h.2.2.2 [])]) fun j=>I (j.1,j.2.1,j.2.2.1,j.2.2.2.1,j.2.2.2.2,W.2)
def xf (c2:Tm) (B9:Int) (vl:LC) (vh vg:Int) (vf:BA) (ve:LC) (vc:LT) (va xu:LB) (xt xE:Int) (xD:BA) (xB:LC) (aq_:LT) (xA:LB) (xz xy:Int) (xx:BA) (xw:LC) (xv:LT) (arg:LB) (I:Int×Int×BA×LC×LT×Int->OS S):OS S:=aa k (kT k (Tm.mk vh vg vf ve vc va) (ac c2) B9 vl vh vg vf ve vc va xu xt xE xD xB aq_ xA xz xy xx xw xv arg) fun r1=>I (r1.1,r1.2.1,r1.2.2.1,r1.2.2.2.1,r1.2.2.2.2.1,r1.2.2.2.2.2)
def r7 (qB:Int) (pw:LC) (qm ql:Int) (qv:BA) (qn:LC) (qu:LT) (py h:LB) (wc wD:Int) (wv:BA) (wq:LC) (wm:LT) (wi:LB) (uY uX:Int) (uW:BA) (uV:LC) (uU:LT) (uT:LB) (c3:Tm) (I:LB×Int->OS S):OS S:=ab ((pw.length:Int)==0) (I (([]:LB),qB)) (aa k (xf k (ac c3) qB pw qm ql qv qn qu py h wc wD wv wq wm wi uY uX uW uV uU uT) fun r1=>aa k (xF k pw [(Tm.mk r1.1 r1.2.1 r1.2.2.1 r1.2.2.2.1 r1.2.2.2.2.1 [])]) fun j=>I ([j],r1.2.2.2.2.2))
def ay8 (b:(Br Tm)) (c2:Tm) (B9:Int) (vl:LC) (vh vg:Int) (vf:BA) (ve:LC) (vc:LT) (va xu:LB) (xt xE:Int) (xD:BA) (xB:LC) (aq_:LT) (xA:LB) (xz xy:Int) (xx:BA) (xw:LC) (xv:LT) (arg:LB) (I:(Br Tm)×Int->OS S):OS S:=pA (af b.c 0) fun x1=>aa k (tO k 14 vl [(ac x1),(Tm.mk vh vg vf ve vc va)]) fun j=>aa k (kT k (Tm.mk j.1 j.2.1 j.2.2.1 j.2.2.2.1 j.2.2.2.2 []) (ac c2) B9 vl vh vg vf ve vc va xu xt xE xD xB aq_ xA xz xy xx xw xv arg) fun h=>aa k (xF k b.f [(Tm.mk h.1 h.2.1 h.2.2.1 h.2.2.2.1 h.2.2.2.2.1 [])]) fun q=>I (q,h.2.2.2.2.2)
def R' (I:LB×Int->OS S) (c2:Tm) (vl:LC) (xE:Int) (xD:BA) (xB:LC) (aq_:LT) (xA:LB) (xz xy:Int) (xx:BA) (xw:LC) (xv:LT) (vh:Int) (arg:LB) (vg:Int) (vf:BA) (ve:LC) (vc:LT) (va xu:LB) (xt:Int) (l:LB) (j:Int->Int->(LB)->OS S) (q qT:Int) (h:LB):OS S:=ab (decide ((qT:Int)<(l.length:Int))) (pA (af l qT) fun x1=>aa k (ay8 k x1 (ac c2) q vl vh vg vf ve vc va xu xt xE xD xB aq_ xA xz xy xx xw xv arg) fun x=>pA (aw 1099511627776 h.length [x.1].length) fun x3=>j x.2 (p5 .i64 (qT+1)) (h++[x.1])) (I (h,q))
def TK (k:Nat) (I:LB×Int->OS S) (c2:Tm) (vl:LC) (xE:Int) (xD:BA) (xB:LC) (aq_:LT) (xA:LB) (xz xy:Int) (xx:BA) (xw:LC) (xv:LT) (vh:Int) (arg:LB) (vg:Int) (vf:BA) (ve:LC) (vc:LT) (va xu:LB) (xt:Int) (l:LB):Nat->Int->Int->(LB)->OS S
 |0=>fun _ _ _=> .none
 |m+1=>fun j qT h=>R' k I c2 vl xE xD xB aq_ xA xz xy xx xw xv vh arg vg vf ve vc va xu xt l (TK k I c2 vl xE xD xB aq_ xA xz xy xx xw xv vh arg vg vf ve vc va xu xt l m) j qT h
def l' (k:Nat) (I:LB×Int->OS S) (J0:Int->Int->(LB)->OS S) (l:LB) (c2:Tm) (B9:Int) (vl:LC) (vh vg:Int) (vf:BA) (ve:LC) (vc:LT) (va xu:LB) (xt xE:Int) (xD:BA) (xB:LC) (aq_:LT) (xA:LB) (xz xy:Int) (xx:BA) (xw:LC) (xv:LT) (arg:LB):OS S:=J0 B9 0 ([]:LB)
def xM (l:LB) (c2:Tm) (B9:Int) (vl:LC) (vh vg:Int) (vf:BA) (ve:LC) (vc:LT) (va xu:LB) (xt xE:Int) (xD:BA) (xB:LC) (aq_:LT) (xA:LB) (xz xy:Int) (xx:BA) (xw:LC) (xv:LT) (arg:LB) (I:LB×Int->OS S):OS S:=l' k I (fun j qT h=>TK k I c2 vl xE xD xB aq_ xA xz xy xx xw xv vh arg vg vf ve vc va xu xt l k j qT h) l c2 B9 vl vh vg vf ve vc va xu xt xE xD xB aq_ xA xz xy xx xw xv arg
def l1 (t HE:Tm) (qB:Int) (pw:LC) (qm ql:Int) (qv:BA) (qn:LC) (qu:LT) (py j:LB) (wc wD:Int) (wv:BA) (wq:LC) (wm:LT) (wi:LB) (uY uX:Int) (uW:BA) (uV:LC) (uU:LT) (uT:LB) (I:Int×Int×BA×LT×LB×Int->OS S):OS S:=aa k (zc k 10 [(ac HE)]) fun r1=>aa k (zc k 6 [(Tm.mk r1.1 r1.2.1 r1.2.2.1 [] r1.2.2.2 []),(Tm.mk wc wD wv wq wm wi)]) fun h=>aa k (SG k (ac HE)) fun x=>aa k (sb k (ac t) (Tm.mk uY uX uW uV uU uT) (Tm.mk x.1 x.2.1 x.2.2.1 [] x.2.2.2 []) (Tm.mk wc wD wv wq wm wi) qB) fun E=>aa k (r7 k E.2 pw qm ql qv qn qu py j wc wD wv wq wm wi uY uX uW uV uU uT (Tm.mk h.1 h.2.1 h.2.2.1 [] h.2.2.2 [])) fun A=>aa k (xM k j (Tm.mk h.1 h.2.1 h.2.2.1 [] h.2.2.2 []) A.2 pw qm ql qv qn qu py j wc wD wv wq wm wi uY uX uW uV uU uT) fun B=>pA (aw 1099511627776 A.1.length B.1.length) fun F=>aa k (zc k 9 [(Tm.mk h.1 h.2.1 h.2.2.1 [] h.2.2.2 [])]) fun z=>aa k (JM k 15 (A.1++B.1) [(ac E.1),(Tm.mk z.1 z.2.1 z.2.2.1 [] z.2.2.2 [])]) fun q=>I (q.1,q.2.1,q.2.2.1,q.2.2.2.1,q.2.2.2.2,B.2)
def b1 (b:(Br Tm)) (vm:Int) (sP:LC) (sO sN:Int) (sM:BA) (sK:LC) (sJ:LT) (sQ tt:LB) (s8 tc:Int) (tb:BA) (ta:LC) (s9:LT) (td:LB) (th tg:Int) (tf:BA) (te:LC) (tP:LT) (tM:LB) (I:Int×Int×BA×LT×LB×Int->OS S):OS S:=pA (af b.c 0) fun x1=>pA (af b.c 1) fun x2=>aa k (l1 k (ac x1) (ac x2) vm sP sO sN sM sK sJ sQ tt s8 tc tb ta s9 td th tg tf te tP tM) fun h=>I (h.1,h.2.1,h.2.2.1,h.2.2.2.1,h.2.2.2.2.1,h.2.2.2.2.2)
def L' (I:LT×Int->OS S) (sP:LC) (tc:Int) (tb:BA) (ta:LC) (s9:LT) (td:LB) (th tg:Int) (tf:BA) (te:LC) (tP:LT) (sO:Int) (tM:LB) (sN:Int) (sM:BA) (sK:LC) (sJ:LT) (sQ tt:LB) (s8:Int) (l:LB) (q:Int->Int->(LT)->OS S) (arm qT:Int) (h:LT):OS S:=ab (decide ((qT:Int)<(l.length:Int))) (pA (af l qT) fun x1=>aa k (b1 k x1 arm sP sO sN sM sK sJ sQ tt s8 tc tb ta s9 td th tg tf te tP tM) fun j=>pA (aw 1099511627776 h.length [(Tm.mk j.1 j.2.1 j.2.2.1 [] j.2.2.2.1 j.2.2.2.2.1)].length) fun x3=>q j.2.2.2.2.2 (p5 .i64 (qT+1)) (h++[(Tm.mk j.1 j.2.1 j.2.2.1 [] j.2.2.2.1 j.2.2.2.2.1)])) (I (h,arm))
def e7 (k:Nat) (I:LT×Int->OS S) (sP:LC) (tc:Int) (tb:BA) (ta:LC) (s9:LT) (td:LB) (th tg:Int) (tf:BA) (te:LC) (tP:LT) (sO:Int) (tM:LB) (sN:Int) (sM:BA) (sK:LC) (sJ:LT) (sQ tt:LB) (s8:Int) (l:LB):Nat->Int->Int->(LT)->OS S
 |0=>fun _ _ _=> .none
 |m+1=>fun arm qT h=>L' k I sP tc tb ta s9 td th tg tf te tP sO tM sN sM sK sJ sQ tt s8 l (e7 k I sP tc tb ta s9 td th tg tf te tP sO tM sN sM sK sJ sQ tt s8 l m) arm qT h
def aAc (k:Nat) (I:LT×Int->OS S) (J0:Int->Int->(LT)->OS S) (l:LB) (vm:Int) (sP:LC) (sO sN:Int) (sM:BA) (sK:LC) (sJ:LT) (sQ tt:LB) (s8 tc:Int) (tb:BA) (ta:LC) (s9:LT) (td:LB) (th tg:Int) (tf:BA) (te:LC) (tP:LT) (tM:LB):OS S:=J0 vm 0 ([]:LT)
def uv (l:LB) (vm:Int) (sP:LC) (sO sN:Int) (sM:BA) (sK:LC) (sJ:LT) (sQ tt:LB) (s8 tc:Int) (tb:BA) (ta:LC) (s9:LT) (td:LB) (th tg:Int) (tf:BA) (te:LC) (tP:LT) (tM:LB) (I:LT×Int->OS S):OS S:=aAc k I (fun arm qT h=>e7 k I sP tc tb ta s9 td th tg tf te tP sO tM sN sM sK sJ sQ tt s8 l k arm qT h) l vm sP sO sN sM sK sJ sQ tt s8 tc tb ta s9 td th tg tf te tP tM
def ts (vm:Int) (sP:LC) (sO sN:Int) (sM:BA) (sK:LC) (sJ:LT) (sQ tt:LB) (s8 tc:Int) (tb:BA) (ta:LC) (s9:LT) (td:LB) (th tg:Int) (tf:BA) (te:LC) (tP:LT) (tM:LB) (I:Tm×Int->OS S):OS S:=aa k (zb k (Tm.mk s8 tc tb ta s9 td) 0 1 vm) fun r1=>I ((ac r1.1),r1.2)
def k7 (qB:Int) (pw:LC) (qm ql:Int) (qv:BA) (qn:LC) (qu:LT) (py h:LB) (wc wD:Int) (wv:BA) (wq:LC) (wm:LT) (wi:LB) (uY uX:Int) (uW:BA) (uV:LC) (uU:LT) (uT:LB) (I:LB×Int->OS S):OS S:=ab ((pw.length:Int)==0) (I (([]:LB),qB)) (aa k (ts k qB pw qm ql qv qn qu py h wc wD wv wq wm wi uY uX uW uV uU uT) fun r1=>aa k (xF k pw [(ac r1.1)]) fun j=>I ([j],r1.2))
def K2 (I:Tm×Bool×Int->OS S) (r3:Tm) (r6:Int×LB×Int×Int×BA×LC×LT×LB) (x4:Tm) (r8:Tm×Int) (W:Int->Int->Int->BA->(LC)->(LT)->(LB)->(LB)->Int->(LT)->(LB)->OS S) (Y ad ao:Int) (ax:BA) (az:LC) (a6:LT) (a7 h:LB) (Iw:Int) (j:LT) (q:LB):OS S:=ab (decide ((Iw:Int)<(r8.1.s.length:Int))) (pA (af r8.1.s Iw) fun M=>pA (af j Iw) fun b0=>pA (af j Iw) fun bn=>aa k (zb k (ac bn) 0 1 Y) fun O=>aa k (zb k (Tm.mk r6.2.2.1 r6.2.2.2.1 r6.2.2.2.2.1 r6.2.2.2.2.2.1 r6.2.2.2.2.2.2.1 r6.2.2.2.2.2.2.2) 0 1 O.2) fun a8=>pA (af M.c 1) fun bt=>aa k (zb k (ac bt) 0 1 a8.2) fun bc=>aa k (SG k (ac bc.1)) fun B=>aa k (zc k 9 [(ac O.1)]) fun E=>aa k (zc k 6 [(Tm.mk B.1 B.2.1 B.2.2.1 [] B.2.2.2 []),(Tm.mk E.1 E.2.1 E.2.2.1 [] E.2.2.2 [])]) fun F=>aa k (zc k 10 [(ac O.1)]) fun J=>aa k (tO k 13 [(Cl.mk 1 0)] [(Tm.mk J.1 J.2.1 J.2.2.1 [] J.2.2.2 []),(ac a8.1),(Tm.mk F.1 F.2.1 F.2.2.1 [] F.2.2.2 [])]) fun x=>aa k (xF k M.f [(Tm.mk x.1 x.2.1 x.2.2.1 x.2.2.2.1 x.2.2.2.2 [])]) fun bf=>pA (aw 1099511627776 q.length [bf].length) fun b1=>pA (af j Iw) fun b2=>pA (af j Iw) fun bz=>aa k (zc k 9 [(ac bz)]) fun L=>aa k (xF k M.f [(Tm.mk L.1 L.2.1 L.2.2.1 [] L.2.2.2 [])]) fun bh=>pA (aw 1099511627776 h.length [bh].length) fun b3=>W bc.2 ad ao ax az a6 a7 (h++[bh]) (p5 .i64 (Iw+1)) j (q++[bf])) (aa k (JM k 15 q [(Tm.mk ad ao ax az a6 a7),(Tm.mk r6.2.2.1 r6.2.2.2.1 r6.2.2.2.2.1 r6.2.2.2.2.2.1 r6.2.2.2.2.2.2.1 r6.2.2.2.2.2.2.2)]) fun z=>aa k (JM k 17 h [(Tm.mk z.1 z.2.1 z.2.2.1 [] z.2.2.2.1 z.2.2.2.2)]) fun A=>aa k (ly k (Tm.mk A.1 A.2.1 A.2.2.1 [] A.2.2.2.1 A.2.2.2.2) Y) fun T=>I ((ac T.1),T.2.1,T.2.2.1))
def Ta (k:Nat) (I:Tm×Bool×Int->OS S) (r3:Tm) (r6:Int×LB×Int×Int×BA×LC×LT×LB) (x4:Tm) (r8:Tm×Int):Nat->Int->Int->Int->BA->(LC)->(LT)->(LB)->(LB)->Int->(LT)->(LB)->OS S
 |0=>fun _ _ _ _ _ _ _ _ _ _ _=> .none
 |m+1=>fun q x z A B E F h Iw J j=>K2 k I r3 r6 x4 r8 (Ta k I r3 r6 x4 r8 m) q x z A B E F h Iw J j
def qG (I:Tm×Bool×Int->OS S) (J0:Tm->(Int×LB×Int×Int×BA×LC×LT×LB)->Tm->(Tm×Int)->Int->Int->Int->BA->(LC)->(LT)->(LB)->(LB)->Int->(LT)->(LB)->OS S) (t:Tm):OS S:=aa k (HN k (ac t)) fun r1=>ab (!(r1==0)) (I ((Tm.mk 0 0 qw [] [] []),false,r1)) (ab (!(t.k==14)) (I ((Tm.mk 0 0 qw [] [] []),false,0)) (pA (af t.c 0) fun x2=>ab (!(x2.k==16)) (I ((Tm.mk 0 0 qw [] [] []),false,0)) (dJ k (ac t) fun q=>pA (af q.c 1) fun x4=>pA (af q.c 0) fun x5=>aa k (sq k (ac x5) 0 q.r x4.k x4.n x4.name x4.r x4.c x4.s 0 0 qw [] [] [] 0 0 qw [] [] []) fun h=>pA (af q.c 0) fun F=>aa k (JI k (ac F) h.1) fun x=>ab ((x.1.c.length:Int)==1) (pA (af x.1.c 0) fun j=>aa k (uv k x.1.s x.2 q.r x4.k x4.n x4.name x4.r x4.c x4.s h.2.1 h.2.2.1 h.2.2.2.1 h.2.2.2.2.1 h.2.2.2.2.2.1 h.2.2.2.2.2.2.1 h.2.2.2.2.2.2.2 j.k j.n j.name j.r j.c j.s) fun z=>aa k (k7 k z.2 q.r x4.k x4.n x4.name x4.r x4.c x4.s h.2.1 h.2.2.1 h.2.2.2.1 h.2.2.2.2.1 h.2.2.2.2.2.1 h.2.2.2.2.2.2.1 h.2.2.2.2.2.2.2 j.k j.n j.name j.r j.c j.s) fun A=>J0 q h x4 x A.2 j.k j.n j.name j.r j.c j.s ([]:LB) 0 z.1 A.1) (aa k (uv k x.1.s x.2 q.r x4.k x4.n x4.name x4.r x4.c x4.s h.2.1 h.2.2.1 h.2.2.2.1 h.2.2.2.2.1 h.2.2.2.2.2.1 h.2.2.2.2.2.2.1 h.2.2.2.2.2.2.2 0 0 qw [] [] []) fun B=>aa k (k7 k B.2 q.r x4.k x4.n x4.name x4.r x4.c x4.s h.2.1 h.2.2.1 h.2.2.2.1 h.2.2.2.2.1 h.2.2.2.2.2.1 h.2.2.2.2.2.2.1 h.2.2.2.2.2.2.2 0 0 qw [] [] []) fun E=>J0 q h x4 x E.2 0 0 qw [] [] [] ([]:LB) 0 B.1 E.1))))
def uC (t:Tm) (I:Tm×Bool×Int->OS S):OS S:=qG k I (fun L M x4 O q x z A B E F h Iw J j=>Ta k I L M x4 O k q x z A B E F h Iw J j) t
def K1 (t:Tm) (I:Tm×Bool×Int->OS S):OS S:=aa k (HN k (ac t)) fun r1=>ab (!(r1==0)) (I ((Tm.mk 0 0 qw [] [] []),false,r1)) (ab (!(t.k==14)) (I ((Tm.mk 0 0 qw [] [] []),false,0)) (dJ k (ac t) fun j=>pA (af j.c 1) fun x3=>pA (af j.c 0) fun x4=>ab (x4.k==3) (aa k (ly k (ac x3) 0) fun B=>I ((ac B.1),B.2.1,B.2.2.1)) (ab (x4.k==19) (aa k (ly k (ac x3) 0) fun E=>I ((ac E.1),E.2.1,E.2.2.1)) (ab (x4.k==4) (aa k (hK k (ac x4) 0 j.r x3.k x3.n x3.name x3.r x3.c x3.s) fun z=>aa k (ly k (Tm.mk z.1 z.2.1 z.2.2.1 [] z.2.2.2.1 []) z.2.2.2.2) fun F=>I ((ac F.1),F.2.1,F.2.2.1)) (ab (x4.k==7) (aa k (u2 k (ac x4) 0 j.r x3.k x3.n x3.name x3.r x3.c x3.s) fun A=>aa k (ly k (Tm.mk A.1 A.2.1 A.2.2.1 [] A.2.2.2.1 []) A.2.2.2.2) fun q=>I ((ac q.1),q.2.1,q.2.2.1)) (ab (x4.k==11) (aa k (lo k (ac x4) 0 j.r x3.k x3.n x3.name x3.r x3.c x3.s) fun h=>aa k (ly k (Tm.mk h.1 h.2.1 h.2.2.1 [] h.2.2.2.1 []) h.2.2.2.2) fun x=>I ((ac x.1),x.2.1,x.2.2.1)) (ab (x4.k==23) (aa k (JG k (ac j)) fun r13=>I ((ac r13.1),r13.2.1,r13.2.2)) (ab (x4.k==16) (aa k (uC k (ac j)) fun r14=>I ((ac r14.1),r14.2.1,r14.2.2)) (I ((Tm.mk 0 0 qw [] [] []),false,0))))))))))
def H8 (u:Tm) (vm sP sO:Int) (sN:BA) (sM:LC) (sK:LT) (sJ sQ:LB) (I:LT×Int->OS S):OS S:=aa k (zb k (ac u) 1 0 vm) fun r1=>aa k (TY k 0) fun j=>aa k (zc k 6 [(ac r1.1),(Tm.mk j.1 j.2.1 j.2.2 [] [] [])]) fun h=>I ([(Tm.mk h.1 h.2.1 h.2.2.1 [] h.2.2.2 [])],r1.2)
def ns (I:LB×Int->OS S) (pw qm:Int) (ql:BA) (qv:LC) (qn:LT) (qu py:LB) (q:Int->Int->(LB)->OS S) (x j:Int) (h:LB):OS S:=ab (decide ((j:Int)<(py.length:Int))) (pA (af py j) fun x1=>pA (af x1.c 0) fun x2=>aa k (H8 k (ac x2) x pw qm ql qv qn qu py) fun z=>aa k (xF k x1.f z.1) fun A=>pA (aw 1099511627776 h.length [A].length) fun x5=>q z.2 (p5 .i64 (j+1)) (h++[A])) (I (h,x))
def k8 (k:Nat) (I:LB×Int->OS S) (pw qm:Int) (ql:BA) (qv:LC) (qn:LT) (qu py:LB):Nat->Int->Int->(LB)->OS S
 |0=>fun _ _ _=> .none
 |m+1=>fun j q h=>ns k I pw qm ql qv qn qu py (k8 k I pw qm ql qv qn qu py m) j q h
def qM (k:Nat) (I:LB×Int->OS S) (J0:Int->Int->(LB)->OS S) (qB pw qm:Int) (ql:BA) (qv:LC) (qn:LT) (qu py:LB):OS S:=J0 qB 0 ([]:LB)
def mc (qB pw qm:Int) (ql:BA) (qv:LC) (qn:LT) (qu py:LB) (I:LB×Int->OS S):OS S:=qM k I (fun j q h=>k8 k I pw qm ql qv qn qu py k j q h) qB pw qm ql qv qn qu py
def r' (t:Tm) (qB pw qm:Int) (ql:BA) (qv:LC) (qn:LT) (qu py:LB) (I:Int×Int×BA×LT×Int->OS S):OS S:=aa k (zb k (Tm.mk pw qm ql qv qn qu) 1 0 qB) fun r1=>aa k (TY k 0) fun x=>aa k (zc k 6 [(ac r1.1),(Tm.mk x.1 x.2.1 x.2.2 [] [] [])]) fun j=>aa k (mc k r1.2 pw qm ql qv qn qu py) fun z=>pA (af t.c 1) fun x5=>aa k (JM k 15 z.1 [(ac x5),(Tm.mk j.1 j.2.1 j.2.2.1 [] j.2.2.2 [])]) fun h=>aa k (zc k 5 [(Tm.mk h.1 h.2.1 h.2.2.1 [] h.2.2.2.1 h.2.2.2.2)]) fun q=>I (q.1,q.2.1,q.2.2.1,q.2.2.2,z.2)
def az (u:Tm) (c0:Int) (I:LT->OS S):OS S:=aa k (zc k c0 [(ac u)]) fun r1=>I [(Tm.mk r1.1 r1.2.1 r1.2.2.1 [] r1.2.2.2 [])]
def hQ (I:LB->OS S) (qB pw qm:Int) (ql:BA) (qv:LC) (qn:LT) (qu py:LB) (c1:Int) (q:Int->(LB)->OS S) (j:Int) (h:LB):OS S:=ab (decide ((j:Int)<(py.length:Int))) (pA (af py j) fun x1=>pA (af x1.c 0) fun x2=>aa k (az k (ac x2) c1) fun z=>aa k (xF k x1.f z) fun x=>pA (aw 1099511627776 h.length [x].length) fun x5=>q (p5 .i64 (j+1)) (h++[x])) (I h)
def nh (k:Nat) (I:LB->OS S) (qB pw qm:Int) (ql:BA) (qv:LC) (qn:LT) (qu py:LB) (c1:Int):Nat->Int->(LB)->OS S
 |0=>fun _ _=> .none
 |m+1=>fun j h=>hQ k I qB pw qm ql qv qn qu py c1 (nh k I qB pw qm ql qv qn qu py c1 m) j h
def aAh (k:Nat) (I:LB->OS S) (J0:Int->(LB)->OS S) (qB pw qm:Int) (ql:BA) (qv:LC) (qn:LT) (qu py:LB) (c1:Int):OS S:=J0 0 ([]:LB)
def k' (qB pw qm:Int) (ql:BA) (qv:LC) (qn:LT) (qu py:LB) (c1:Int) (I:LB->OS S):OS S:=aAh k I (fun j h=>nh k I qB pw qm ql qv qn qu py c1 k j h) qB pw qm ql qv qn qu py c1
def fF (kind vm sP sO:Int) (sN:BA) (sM:LC) (sK:LT) (sJ sQ:LB) (I:Int×Int×BA×LT×LB->OS S):OS S:=aa k (zc k kind [(Tm.mk sP sO sN sM sK sJ)]) fun r1=>aa k (k' k vm sP sO sN sM sK sJ sQ kind) fun h=>I (r1.1,r1.2.1,r1.2.2.1,r1.2.2.2,h)
def xS (t:Tm) (qB pw qm:Int) (ql:BA) (qv:LC) (qn:LT) (qu py:LB) (I:Int×Int×BA×LT×Int->OS S):OS S:=aa k (fF k 9 qB pw qm ql qv qn qu py) fun r1=>aa k (fF k 10 qB pw qm ql qv qn qu py) fun j=>pA (af t.c 0) fun x3=>aa k (y_ k (ac x3) (Tm.mk r1.1 r1.2.1 r1.2.2.1 [] r1.2.2.2.1 []) r1.2.2.2.2 qB) fun z=>pA (af t.c 1) fun x5=>aa k (Tr k (ac x5) 0 1 z.2) fun A=>aa k (za k (ac A.1) (ac z.1) A.2) fun B=>pA (af t.c 0) fun E=>aa k (JM k 15 r1.2.2.2.2 [(ac E),(Tm.mk r1.1 r1.2.1 r1.2.2.1 [] r1.2.2.2.1 [])]) fun q=>aa k (y9 k (ac B.1) (Tm.mk j.1 j.2.1 j.2.2.1 [] j.2.2.2.1 []) j.2.2.2.2 B.2) fun x=>aa k (zc k 8 [(Tm.mk q.1 q.2.1 q.2.2.1 [] q.2.2.2.1 q.2.2.2.2),(ac x.1)]) fun h=>I (h.1,h.2.1,h.2.2.1,h.2.2.2,x.2)
def ey (I:Int×Int×BA×LT×Int->OS S) (pw qm:Int) (ql:BA) (qv:LC) (qn:LT) (qu py:LB) (t x1 x2:Tm) (r6:Int×Int×BA×LC×LT) (z:Int->(LB)->Int->OS S) (A:Int) (h:LB) (v53:Int):OS S:=ab (decide ((v53:Int)<(py.length:Int))) (pA (af py v53) fun T=>aa k (JK k T.f 1 A) fun W=>pA (af T.c 0) fun Y=>aa k (JJ k (ac Y) 1 W.2) fun B=>aa k (zb k (ac x1) 0 2 B.2) fun E=>aa k (zb k (ac x2) 0 2 E.2) fun F=>aa k (tO k 13 [(Cl.mk 2 0)] [(ac B.1),(ac E.1),(ac F.1)]) fun r13=>aa k (xF k W.1 [(Tm.mk r13.1 r13.2.1 r13.2.2.1 r13.2.2.2.1 r13.2.2.2.2 [])]) fun r14=>pA (aw 1099511627776 h.length [r14].length) fun ad=>z F.2 (h++[r14]) (p5 .i64 (v53+1))) (aa k (zb k (ac x1) 0 2 A) fun J=>aa k (xF k [(Cl.mk 0 1)] [(ac J.1)]) fun x=>pA (aw 1099511627776 h.length [x].length) fun ao=>aa k (zb k (ac x2) 0 2 J.2) fun L=>aa k (xF k [(Cl.mk 1 0)] [(ac L.1)]) fun M=>pA (aw 1099511627776 (h++[x]).length [M].length) fun ax=>pA (af t.c 0) fun O=>aa k (JM k 15 ((h++[x])++[M]) [(ac O),(Tm.mk r6.1 r6.2.1 r6.2.2.1 r6.2.2.2.1 r6.2.2.2.2 [])]) fun j=>aa k (zc k 12 [(Tm.mk j.1 j.2.1 j.2.2.1 [] j.2.2.2.1 j.2.2.2.2)]) fun q=>I (q.1,q.2.1,q.2.2.1,q.2.2.2,L.2))
def jd (k:Nat) (I:Int×Int×BA×LT×Int->OS S) (pw qm:Int) (ql:BA) (qv:LC) (qn:LT) (qu py:LB) (t x1 x2:Tm) (r6:Int×Int×BA×LC×LT):Nat->Int->(LB)->Int->OS S
 |0=>fun _ _ _=> .none
 |m+1=>fun j h v53=>ey k I pw qm ql qv qn qu py t x1 x2 r6 (jd k I pw qm ql qv qn qu py t x1 x2 r6 m) j h v53
def aAe (I:Int×Int×BA×LT×Int->OS S) (J0:Tm->Tm->(Int×Int×BA×LC×LT)->Int->(LB)->Int->OS S) (t:Tm) (qB pw qm:Int) (ql:BA) (qv:LC) (qn:LT) (qu py:LB):OS S:=pA (af t.c 1) fun x1=>pA (af t.c 2) fun x2=>aa k (zb k (Tm.mk pw qm ql qv qn qu) 0 1 qB) fun h=>aa k (zb k (ac x1) 0 1 h.2) fun j=>aa k (zb k (ac x2) 0 1 j.2) fun q=>aa k (tO k 13 [(Cl.mk 1 0)] [(ac h.1),(ac j.1),(ac q.1)]) fun x=>J0 x1 x2 x q.2 ([]:LB) 0
def c5 (t:Tm) (qB pw qm:Int) (ql:BA) (qv:LC) (qn:LT) (qu py:LB) (I:Int×Int×BA×LT×Int->OS S):OS S:=aAe k I (fun x1 x2 q j h v53=>jd k I pw qm ql qv qn qu py t x1 x2 q k j h v53) t qB pw qm ql qv qn qu py
def p3 (t:Tm) (c0:Int) (I:Int×Int×BA×LT×Int->OS S):OS S:=aa k (Dh k (ac t) 1 0 c0) fun r1=>aa k (Dh k (ac t) 2 1 r1.2) fun A=>aa k (KX k 1) fun x=>aa k (KX k 0) fun z=>aa k (xH k 11 [(ac A.1),(Tm.mk x.1 x.2.1 x.2.2 [] [] []),(Tm.mk z.1 z.2.1 z.2.2 [] [] [])]) fun h=>aa k (xH k 4 [(ac r1.1),(Tm.mk h.1 h.2.1 h.2.2.1 [] h.2.2.2 [])]) fun j=>aa k (xH k 7 [(ac t),(Tm.mk j.1 j.2.1 j.2.2.1 [] j.2.2.2 [])]) fun q=>I (q.1,q.2.1,q.2.2.1,q.2.2.2,A.2)
def Md (t a:Tm) (I:Tm×Int->OS S):OS S:=aa k (m9 k [(ac t),(ac a)]) fun r1=>dJ k (ac t) fun L=>aa k (Dh k (ac a) 1 0 r1) fun B=>aa k (xH k 4 [(ac L),(ac B.1)]) fun x=>aa k (Dh k (ac a) 1 0 B.2) fun E=>aa k (Dh k (ac t) 2 0 E.2) fun F=>aa k (Dh k (ac a) 2 0 F.2) fun J=>aa k (KX k 1) fun z=>aa k (KX k 0) fun A=>aa k (Uu k (ac F.1) (ac J.1) (Tm.mk z.1 z.2.1 z.2.2 [] [] []) (Tm.mk A.1 A.2.1 A.2.2 [] [] []) J.2) fun h=>aa k (p3 k (Tm.mk h.1 h.2.1 h.2.2.1 [] h.2.2.2.1 []) h.2.2.2.2) fun j=>aa k (xH k 4 [(ac E.1),(Tm.mk j.1 j.2.1 j.2.2.1 [] j.2.2.2.1 [])]) fun q=>aa k (xH k 7 [(Tm.mk x.1 x.2.1 x.2.2.1 [] x.2.2.2 []),(Tm.mk q.1 q.2.1 q.2.2.1 [] q.2.2.2 [])]) fun r13=>aa k (eQ k (Tm.mk r13.1 r13.2.1 r13.2.2.1 [] r13.2.2.2 []) j.2.2.2.2) fun r14=>I ((ac r14.1),r14.2.1)
def eu (t a:Tm) (c0:Int) (I:Tm×Int->OS S):OS S:=aa k (dG k c0) fun r1=>ab (!r1) (I ((Tm.mk 0 0 qw [] [] []),c0)) (aa k (Md k (ac t) (ac a)) fun h=>aa k (Im k (ac h.1) h.2 c0) fun j=>I ((ac j.1),j.2))
def ay2 (sV:LC) (I:Int×Int×BA×LC×LT->OS S):OS S:=aa k (KX k 0) fun r1=>aa k (xH k 10 [(Tm.mk r1.1 r1.2.1 r1.2.2 [] [] [])]) fun h=>aa k (KX k 1) fun q=>aa k (KX k 0) fun x=>aa k (xH k 9 [(Tm.mk x.1 x.2.1 x.2.2 [] [] [])]) fun j=>I (13,0,qw,sV,[(Tm.mk h.1 h.2.1 h.2.2.1 [] h.2.2.2 []),(Tm.mk q.1 q.2.1 q.2.2 [] [] []),(Tm.mk j.1 j.2.1 j.2.2.1 [] j.2.2.2 [])])
def k4 (I:Int×Int×BA×LT->OS S):OS S:=aa k (KX k 0) fun r1=>aa k (KX k 0) fun M=>aa k (xH k 12 [(Tm.mk M.1 M.2.1 M.2.2 [] [] [])]) fun B=>aa k (xH k 8 [(Tm.mk r1.1 r1.2.1 r1.2.2 [] [] []),(Tm.mk B.1 B.2.1 B.2.2.1 [] B.2.2.2 [])]) fun E=>aa k (ay2 k [(Cl.mk 1 0)]) fun z=>aa k (ay2 k [(Cl.mk 3 0)]) fun A=>aa k (xH k 12 [(Tm.mk A.1 A.2.1 A.2.2.1 A.2.2.2.1 A.2.2.2.2 [])]) fun F=>aa k (xH k 8 [(Tm.mk z.1 z.2.1 z.2.2.1 z.2.2.2.1 z.2.2.2.2 []),(Tm.mk F.1 F.2.1 F.2.2.1 [] F.2.2.2 [])]) fun J=>aa k (xH k 12 [(Tm.mk J.1 J.2.1 J.2.2.1 [] J.2.2.2 [])]) fun L=>aa k (xH k 5 [(Tm.mk L.1 L.2.1 L.2.2.1 [] L.2.2.2 [])]) fun h=>aa k (KX k 0) fun x=>aa k (xH k 5 [(Tm.mk x.1 x.2.1 x.2.2 [] [] [])]) fun j=>aa k (xH k 8 [(Tm.mk E.1 E.2.1 E.2.2.1 [] E.2.2.2 []),(Tm.mk h.1 h.2.1 h.2.2.1 [] h.2.2.2 [])]) fun r13=>aa k (xH k 5 [(Tm.mk r13.1 r13.2.1 r13.2.2.1 [] r13.2.2.2 [])]) fun r14=>aa k (xH k 8 [(Tm.mk j.1 j.2.1 j.2.2.1 [] j.2.2.2 []),(Tm.mk r14.1 r14.2.1 r14.2.2.1 [] r14.2.2.2 [])]) fun q=>I (q.1,q.2.1,q.2.2.1,q.2.2.2)
def azb (u:Tm) (vm sP sO:Int) (sN:BA) (sM:LC) (sK:LT) (sJ sQ:LB) (I:LT×Int->OS S):OS S:=aa k (JI k (ac u) vm) fun r1=>aa k (zb k (Tm.mk sP sO sN sM sK sJ) 0 1 r1.2) fun q=>aa k (eu k (ac u) (ac q.1) q.2) fun x=>aa k (k4 k) fun h=>aa k (zc k 14 [(ac x.1),(Tm.mk h.1 h.2.1 h.2.2.1 [] h.2.2.2 [])]) fun j=>I ([(ac r1.1),(Tm.mk j.1 j.2.1 j.2.2.1 [] j.2.2.2 [])],x.2)
def hG (I:LB×Int->OS S) (pw qm:Int) (ql:BA) (qv:LC) (qn:LT) (qu py:LB) (q:Int->Int->(LB)->OS S) (x j:Int) (h:LB):OS S:=ab (decide ((j:Int)<(py.length:Int))) (pA (af py j) fun x1=>pA (af x1.c 0) fun x2=>aa k (azb k (ac x2) x pw qm ql qv qn qu py) fun z=>aa k (xF k x1.f z.1) fun A=>pA (aw 1099511627776 h.length [A].length) fun x5=>q z.2 (p5 .i64 (j+1)) (h++[A])) (I (h,x))
def zs (k:Nat) (I:LB×Int->OS S) (pw qm:Int) (ql:BA) (qv:LC) (qn:LT) (qu py:LB):Nat->Int->Int->(LB)->OS S
 |0=>fun _ _ _=> .none
 |m+1=>fun j q h=>hG k I pw qm ql qv qn qu py (zs k I pw qm ql qv qn qu py m) j q h
def aAg (k:Nat) (I:LB×Int->OS S) (J0:Int->Int->(LB)->OS S) (qB pw qm:Int) (ql:BA) (qv:LC) (qn:LT) (qu py:LB):OS S:=J0 qB 0 ([]:LB)
def iv (qB pw qm:Int) (ql:BA) (qv:LC) (qn:LT) (qu py:LB) (I:LB×Int->OS S):OS S:=aAg k I (fun j q h=>zs k I pw qm ql qv qn qu py k j q h) qB pw qm ql qv qn qu py
def W3 (qB pw qm:Int) (ql:BA) (qv:LC) (qn:LT) (qu py:LB) (I:Int×Int×BA×LT×LB×Int->OS S):OS S:=aa k (iv k qB pw qm ql qv qn qu py) fun r1=>aa k (JM k 16 r1.1 [(Tm.mk pw qm ql qv qn qu)]) fun h=>I (h.1,h.2.1,h.2.2.1,h.2.2.2.1,h.2.2.2.2,r1.2)
def q0 (vi:(Br Tm)) (c1:LB) (c2:Int) (I:(Br Tm)×Int->OS S):OS S:=aa k (zc k 3 ([]:LT)) fun r1=>aa k (SF k (Tm.mk r1.1 r1.2.1 r1.2.2.1 [] r1.2.2.2 []) c1) fun j=>aa k (zb k (Tm.mk j.1 j.2.1 j.2.2.1 [] j.2.2.2.1 j.2.2.2.2) 0 1 c2) fun h=>pA (af vi.c 0) fun x4=>aa k (xF k vi.f [(Tm.mk h.1.k h.1.n h.1.name h.1.r [(ac x4)] h.1.s)]) fun q=>I (q,h.2)
def w2 (I:LB×Int->OS S) (c1 l:LB) (j:Int->Int->(LB)->OS S) (q qT:Int) (h:LB):OS S:=ab (decide ((qT:Int)<(l.length:Int))) (pA (af l qT) fun x1=>aa k (q0 k x1 c1 q) fun x=>pA (aw 1099511627776 h.length [x.1].length) fun x3=>j x.2 (p5 .i64 (qT+1)) (h++[x.1])) (I (h,q))
def qt (k:Nat) (I:LB×Int->OS S) (c1 l:LB):Nat->Int->Int->(LB)->OS S
 |0=>fun _ _ _=> .none
 |m+1=>fun j qT h=>w2 k I c1 l (qt k I c1 l m) j qT h
def aDn (k:Nat) (I:LB×Int->OS S) (J0:Int->Int->(LB)->OS S) (l c1:LB) (c2:Int):OS S:=J0 c2 0 ([]:LB)
def aAQ (l c1:LB) (c2:Int) (I:LB×Int->OS S):OS S:=aDn k I (fun j qT h=>qt k I c1 l k j qT h) l c1 c2
def gk (vi:(Br Tm)) (c1 c2:Tm) (c3:Int) (I:(Br Tm)×Int->OS S):OS S:=pA (af vi.c 1) fun x1=>aa k (zb k (ac x1) 0 1 c3) fun q=>aa k (SG k (ac q.1)) fun h=>pA (af vi.c 0) fun x4=>aa k (y_ k (ac x4) (ac c1) c2.s q.2) fun x=>aa k (zc k 6 [(Tm.mk h.1 h.2.1 h.2.2.1 [] h.2.2.2 []),(ac x.1)]) fun j=>aa k (xF k vi.f [(Tm.mk j.1 j.2.1 j.2.2.1 [] j.2.2.2 [])]) fun z=>I (z,x.2)
def x8 (I:LB×Int->OS S) (c1 c2:Tm) (l:LB) (j:Int->Int->(LB)->OS S) (q qT:Int) (h:LB):OS S:=ab (decide ((qT:Int)<(l.length:Int))) (pA (af l qT) fun x1=>aa k (gk k x1 (ac c1) (ac c2) q) fun x=>pA (aw 1099511627776 h.length [x.1].length) fun x3=>j x.2 (p5 .i64 (qT+1)) (h++[x.1])) (I (h,q))
def iu (k:Nat) (I:LB×Int->OS S) (c1 c2:Tm) (l:LB):Nat->Int->Int->(LB)->OS S
 |0=>fun _ _ _=> .none
 |m+1=>fun j qT h=>x8 k I c1 c2 l (iu k I c1 c2 l m) j qT h
def aDm (k:Nat) (I:LB×Int->OS S) (J0:Int->Int->(LB)->OS S) (l:LB) (c1 c2:Tm) (c3:Int):OS S:=J0 c3 0 ([]:LB)
def ks (l:LB) (c1 c2:Tm) (c3:Int) (I:LB×Int->OS S):OS S:=aDm k I (fun j qT h=>iu k I c1 c2 l k j qT h) l c1 c2 c3
def ay6 (vi:(Br Tm)) (c0 c1:Tm) (I:(Br Tm)->OS S):OS S:=pA (af vi.c 0) fun x1=>aa k (JM k 15 c0.s [(ac x1),(ac c1)]) fun h=>aa k (xF k vi.f [(Tm.mk h.1 h.2.1 h.2.2.1 [] h.2.2.2.1 h.2.2.2.2)]) fun j=>I j
def W2 (I:LB->OS S) (c0 c1:Tm) (l:LB) (j:Int->(LB)->OS S) (qT:Int) (h:LB):OS S:=ab (decide ((qT:Int)<(l.length:Int))) (pA (af l qT) fun x1=>aa k (ay6 k x1 (ac c0) (ac c1)) fun q=>pA (aw 1099511627776 h.length [q].length) fun x3=>j (p5 .i64 (qT+1)) (h++[q])) (I h)
def vx (k:Nat) (I:LB->OS S) (c0 c1:Tm) (l:LB):Nat->Int->(LB)->OS S
 |0=>fun _ _=> .none
 |m+1=>fun qT h=>W2 k I c0 c1 l (vx k I c0 c1 l m) qT h
def aAb (k:Nat) (I:LB->OS S) (J0:Int->(LB)->OS S) (l:LB) (c0 c1:Tm):OS S:=J0 0 ([]:LB)
def sU (l:LB) (c0 c1:Tm) (I:LB->OS S):OS S:=aAb k I (fun qT h=>vx k I c0 c1 l k qT h) l c0 c1
def Mc (t:Tm) (I:Tm×Bool×Int->OS S):OS S:=aa k (HN k (ac t)) fun r1=>ab (!(r1==0)) (I ((Tm.mk 0 0 qw [] [] []),false,r1)) (ab (!(t.k==15)) (I ((Tm.mk 0 0 qw [] [] []),false,0)) (pA (af t.c 0) fun x2=>ab (!(x2.k==16)) (I ((Tm.mk 0 0 qw [] [] []),false,0)) (dJ k (ac t) fun x=>pA (af x.c 0) fun x4=>pA (af x.c 1) fun x5=>pA (af x.c 0) fun x6=>aa k (T4 k (ac x6)) fun E=>aa k (aAQ k x.s E 0) fun z=>aa k (ks k x4.s (ac x5) (ac x) z.2) fun A=>pA (aw 1099511627776 z.1.length A.1.length) fun F=>pA (af x4.c 0) fun B=>aa k (SF k (ac x5) E) fun h=>aa k (JM k 15 (z.1++A.1) [(ac B),(Tm.mk h.1 h.2.1 h.2.2.1 [] h.2.2.2.1 h.2.2.2.2)]) fun r13=>aa k (sU k x4.s (ac x) (ac x5)) fun r14=>aa k (JM k 17 r14 [(Tm.mk r13.1 r13.2.1 r13.2.2.1 [] r13.2.2.2.1 r13.2.2.2.2)]) fun j=>aa k (ly k (Tm.mk j.1 j.2.1 j.2.2.1 [] j.2.2.2.1 j.2.2.2.2) A.2) fun q=>I ((ac q.1),q.2.1,q.2.2.1))))
def cG (t:Tm) (I:Tm×Bool×Int->OS S):OS S:=aa k (HN k (ac t)) fun r1=>ab (!(r1==0)) (I ((Tm.mk 0 0 qw [] [] []),false,r1)) (ab (!(t.k==15)) (I ((Tm.mk 0 0 qw [] [] []),false,0)) (dJ k (ac t) fun j=>pA (af j.c 1) fun x3=>pA (af j.c 0) fun x4=>ab (x4.k==4) (aa k (r' k (ac x4) 0 x3.k x3.n x3.name x3.r x3.c x3.s j.s) fun z=>aa k (ly k (Tm.mk z.1 z.2.1 z.2.2.1 [] z.2.2.2.1 []) z.2.2.2.2) fun E=>I ((ac E.1),E.2.1,E.2.2.1)) (ab (x4.k==7) (aa k (xS k (ac x4) 0 x3.k x3.n x3.name x3.r x3.c x3.s j.s) fun A=>aa k (ly k (Tm.mk A.1 A.2.1 A.2.2.1 [] A.2.2.2.1 []) A.2.2.2.2) fun F=>I ((ac F.1),F.2.1,F.2.2.1)) (ab (x4.k==11) (aa k (c5 k (ac x4) 0 x3.k x3.n x3.name x3.r x3.c x3.s j.s) fun B=>aa k (ly k (Tm.mk B.1 B.2.1 B.2.2.1 [] B.2.2.2.1 []) B.2.2.2.2) fun q=>I ((ac q.1),q.2.1,q.2.2.1)) (ab (x4.k==3) (aa k (W3 k 0 x3.k x3.n x3.name x3.r x3.c x3.s j.s) fun h=>aa k (ly k (Tm.mk h.1 h.2.1 h.2.2.1 [] h.2.2.2.1 h.2.2.2.2.1) h.2.2.2.2.2) fun x=>I ((ac x.1),x.2.1,x.2.2.1)) (ab (x4.k==16) (aa k (Mc k (ac j)) fun r13=>I ((ac r13.1),r13.2.1,r13.2.2)) (I ((Tm.mk 0 0 qw [] [] []),false,0))))))))
def co (I:Tm×Bool×Int->OS S) (t:Tm) (defs:List Df):OS S:=aa k (cR k defs (ac t)) fun h=>ab (h.2) (I ((ac h.1),true,0)) (I ((Tm.mk 0 0 qw [] [] []),false,0))
def bK (I:Tm×Bool×Int->OS S) (t:Tm) (defs:List Df):Nat->OS S
 |0=> .none
 |_+1=>co k I t defs
def Tn (I:Tm×Bool×Int->OS S) (t:Tm) (defs:List Df) (J1:OS S) (B:Int->Int->BA->(LC)->(LT)->(LB)->Int->Int->Bool->OS S) (E F:Int) (J:BA) (L:LC) (M:LT) (A:LB) (qT xU:Int) (h:Bool):OS S:=ab (decide ((xU:Int)<4)) (ab (xU==0) (aa k (u3 k (ac t)) fun j=>ab (j.2.1) (ab (j.2.1) (I ((ac j.1),j.2.1,j.2.2)) (ab (!(j.2.2==0)) (I ((ac j.1),j.2.1,j.2.2)) (J1))) (ab (!(j.2.2==0)) (ab (j.2.1) (I ((ac j.1),j.2.1,j.2.2)) (ab (!(j.2.2==0)) (I ((ac j.1),j.2.1,j.2.2)) (J1))) (B j.1.k j.1.n j.1.name j.1.r j.1.c j.1.s j.2.2 (p5 .i64 (xU+1)) j.2.1))) (ab (xU==1) (aa k (tL k (ac t)) fun q=>ab (q.2.1) (ab (q.2.1) (I ((ac q.1),q.2.1,q.2.2)) (ab (!(q.2.2==0)) (I ((ac q.1),q.2.1,q.2.2)) (J1))) (ab (!(q.2.2==0)) (ab (q.2.1) (I ((ac q.1),q.2.1,q.2.2)) (ab (!(q.2.2==0)) (I ((ac q.1),q.2.1,q.2.2)) (J1))) (B q.1.k q.1.n q.1.name q.1.r q.1.c q.1.s q.2.2 (p5 .i64 (xU+1)) q.2.1))) (ab (xU==2) (aa k (K1 k (ac t)) fun x=>ab (x.2.1) (ab (x.2.1) (I ((ac x.1),x.2.1,x.2.2)) (ab (!(x.2.2==0)) (I ((ac x.1),x.2.1,x.2.2)) (J1))) (ab (!(x.2.2==0)) (ab (x.2.1) (I ((ac x.1),x.2.1,x.2.2)) (ab (!(x.2.2==0)) (I ((ac x.1),x.2.1,x.2.2)) (J1))) (B x.1.k x.1.n x.1.name x.1.r x.1.c x.1.s x.2.2 (p5 .i64 (xU+1)) x.2.1))) (ab (xU==3) (aa k (cG k (ac t)) fun z=>ab (z.2.1) (ab (z.2.1) (I ((ac z.1),z.2.1,z.2.2)) (ab (!(z.2.2==0)) (I ((ac z.1),z.2.1,z.2.2)) (J1))) (ab (!(z.2.2==0)) (ab (z.2.1) (I ((ac z.1),z.2.1,z.2.2)) (ab (!(z.2.2==0)) (I ((ac z.1),z.2.1,z.2.2)) (J1))) (B z.1.k z.1.n z.1.name z.1.r z.1.c z.1.s z.2.2 (p5 .i64 (xU+1)) z.2.1))) (ab (h) (ab (h) (I ((Tm.mk E F J L M A),h,qT)) (ab (!(qT==0)) (I ((Tm.mk E F J L M A),h,qT)) (J1))) (ab (!(qT==0)) (ab (h) (I ((Tm.mk E F J L M A),h,qT)) (ab (!(qT==0)) (I ((Tm.mk E F J L M A),h,qT)) (J1))) (B E F J L M A qT (p5 .i64 (xU+1)) h))))))) (ab (h) (I ((Tm.mk E F J L M A),h,qT)) (ab (!(qT==0)) (I ((Tm.mk E F J L M A),h,qT)) (J1)))
def bH (k:Nat) (I:Tm×Bool×Int->OS S) (t:Tm) (defs:List Df):Nat->Int->Int->BA->(LC)->(LT)->(LB)->Int->Int->Bool->OS S
 |0=>fun _ _ _ _ _ _ _ _ _=> .none
 |m+1=>fun q x z A B j qT xU h=>Tn k I t defs (bK k I t defs k) (bH k I t defs m) q x z A B j qT xU h
def bc (I:Tm×Bool×Int->OS S) (J0:Int->Int->BA->(LC)->(LT)->(LB)->Int->Int->Bool->OS S) (defs:List Df) (t:Tm):OS S:=aa k (HN k (ac t)) fun r1=>ab (!(r1==0)) (I ((Tm.mk 0 0 qw [] [] []),false,r1)) (J0 0 0 qw [] [] [] 0 0 false)
def a_ (defs:List Df) (t:Tm) (I:Tm×Bool×Int->OS S):OS S:=bc k I (fun q x z A B j qT xU h=>bH k I t defs k q x z A B j qT xU h) defs t
def fT (k:Nat) (I:sH (Int×Int) (Tm×Bool×Int)->OS S) (qB:List Df) (pw:Int) (r1:Tm×Bool×Int):OS S:=ab (pw==0) (I (.gF (220,pw))) (I (.ok ((ac r1.1),true,p5 .i64 (pw-1))))
def c' (I:sH (Int×Int) (Tm×Bool×Int)->OS S) (qB:List Df) (pw:Int) (r1:Tm×Bool×Int):Nat->OS S
 |0=> .none
 |_+1=>fT k I qB pw r1
def eU (k:Nat) (I:sH (Int×Int) (Tm×Bool×Int)->OS S) (qB:List Df) (pw:Int) (t:Tm) (r1:Tm×Bool×Int) (J1:OS S):OS S:=ab (!r1.2.1) (ab (r1.2.2==0) (I (.ok ((ac t),false,pw))) (J1)) (J1)
def azv (I:sH (Int×Int) (Tm×Bool×Int)->OS S) (qB:List Df) (pw:Int) (t:Tm) (r1:Tm×Bool×Int):Nat->OS S
 |0=> .none
 |_+1=>eU k I qB pw t r1 (c' k I qB pw r1 k)
def aAi (I:sH (Int×Int) (Tm×Bool×Int)->OS S) (J0:(Tm×Bool×Int)->OS S) (t:Tm) (qB:List Df) (pw:Int):OS S:=aa k (a_ k qB (ac t)) fun r1=>ab (!(r1.2.2==0)) (ab (decide ((pw:Int)>0)) (I (.gF (r1.2.2,pw))) (J0 r1)) (J0 r1)
def hE (t:Tm) (qB:List Df) (pw:Int) (I:sH (Int×Int) (Tm×Bool×Int)->OS S):OS S:=aAi k I (fun r1=>azv k I qB pw t r1 k) t qB pw
def bo (I:Int->OS S) (t:Tm) (v3:Int):OS S:=aa k (zA k t.k) fun r1=>ab (decide (((t.c.length:Int):Int)<r1)) (I (-1)) (I v3)
def aV (I:Int->OS S) (t:Tm):Nat->Int->OS S
 |0=>fun _=> .none
 |_+1=>fun v3=>bo k I t v3
def o7 (k:Nat) (I:Int->OS S) (J0:Int->OS S) (t:Tm):OS S:=ab (t.k==6) (J0 0) (ab (t.k==9) (J0 0) (ab (t.k==10) (J0 0) (ab (t.k==13) (J0 0) (ab (t.k==18) (J0 0) (ab (t.k==15) (J0 0) (ab (t.k==14) (J0 0) (ab (t.k==22) (J0 3) (ab (t.k==27) (J0 4) (J0 (-1))))))))))
def aU (t:Tm) (I:Int->OS S):OS S:=o7 k I (fun v3=>aV k I t k v3) t
abbrev EO (S:Type):=Tm->Tm->(Bool->OS S)->OS S
def D2 (hd:EO S) (k:Nat) (I:Bool->OS S) (s2 s1:LT) (h:Int->OS S) (qG:Int):OS S:=ab (decide ((qG:Int)<(s1.length:Int))) (pA (af s1 qG) fun x1=>pA (af s2 qG) fun x2=>hd (ac x1) (ac x2) fun j=>ab (!j) (I false) (h (p5 .i64 (qG+1)))) (I true)
def mf (hd:EO S) (k:Nat) (I:Bool->OS S) (s2 s1:LT):Nat->Int->OS S
 |0=>fun _=> .none
 |m+1=>fun qG=>D2 hd k I s2 s1 (mf hd k I s2 s1 m) qG
def aAm (hd:EO S) (k:Nat) (I:Bool->OS S) (J0:Int->OS S) (s1 s2:LT):OS S:=ab (!((s1.length:Int)==(s2.length:Int))) (I false) (J0 0)
def n1 (hd:EO S) (k:Nat) (s1 s2:LT) (I:Bool->OS S):OS S:=aAm hd k I (fun qG=>mf hd k I s2 s1 k qG) s1 s2
def xU (hd:EO S) (k:Nat) (vi y:(Br Tm)) (I:Bool->OS S):OS S:=aa k (zz k vi.f y.f) fun r1=>ab (r1) (aa k (n1 hd k vi.c y.c) fun h=>I h) (I false)
def b4 (hd:EO S) (k:Nat) (I:Bool->OS S) (s2 s1:LB) (h:Int->OS S) (qG:Int):OS S:=ab (decide ((qG:Int)<(s1.length:Int))) (pA (af s1 qG) fun x1=>pA (af s2 qG) fun x2=>aa k (xU hd k x1 x2) fun j=>ab (!j) (I false) (h (p5 .i64 (qG+1)))) (I true)
def ky (hd:EO S) (k:Nat) (I:Bool->OS S) (s2 s1:LB):Nat->Int->OS S
 |0=>fun _=> .none
 |m+1=>fun qG=>b4 hd k I s2 s1 (ky hd k I s2 s1 m) qG
def aAl (hd:EO S) (k:Nat) (I:Bool->OS S) (J0:Int->OS S) (s1 s2:LB):OS S:=ab (!((s1.length:Int)==(s2.length:Int))) (I false) (J0 0)
def cu (hd:EO S) (k:Nat) (s1 s2:LB) (I:Bool->OS S):OS S:=aAl hd k I (fun qG=>ky hd k I s2 s1 k qG) s1 s2
def e3 (hd:EO S) (k:Nat) (I:Bool->OS S) (a b:Tm):OS S:=ab (a.k==b.k) (ab (a.n==b.n) (ab (a.name==b.name) (aa k (zz k a.r b.r) fun r1=>ab (r1) (aa k (n1 hd k a.c b.c) fun h=>ab (h) (aa k (cu hd k a.s b.s) fun j=>I j) (I false)) (I false)) (I false)) (I false)) (I false)
def My:Nat->Tm->Tm->(Bool->OS S)->OS S
 |0=>fun _ _ _=> .none
 |k+1=>fun a b I=>e3 (My k) k I a b
abbrev Nc (S:Type):=Tm->(List Df)->Int->(sH (Int×Int) (Tm×Int)->OS S)->OS S
def SE (hd:Nc S) (k:Nat) (t:Tm) (Ko:Int) (qB:List Df) (pw:Int) (I:sH (Int×Int) (Tm×Bool×Int)->OS S):OS S:=pA (af t.c Ko) fun x1=>hd (ac x1) qB pw fun h=>sH.elim h (fun h=>pA (af t.c Ko) fun x5=>My k (ac h.1) (ac x5) fun q=>ab (q) (I (.ok ((ac t),false,h.2))) (pA (aw 1099511627776 0 t.c.length) fun x=>pA (af t.c Ko) fun z=>pA (af t.c Ko) fun A=>I (.ok ((Tm.mk t.k t.n t.name t.r (t.c.set (BT Ko) (ac h.1)) t.s),true,h.2)))) (fun j=>I (.gF (j.1,j.2)))
def ayZ (hd:Nc S) (k:Nat) (I:sH (Int×Int) (Tm×Int)->OS S) (qB:List Df) (j:Int->Tm->OS S) (E:Int) (h:Tm):OS S:=aa k (hE k (ac h) qB E) fun x=>sH.elim x (fun x=>ab (x.2.1) (j x.2.2 (ac x.1)) (aa k (aU k (ac h)) fun J=>ab (decide ((J:Int)>=0)) (aa k (SE hd k (ac h) J qB x.2.2) fun z=>sH.elim z (fun z=>ab (z.2.1) (j z.2.2 (ac z.1)) (ab (h.k==14) (pA (af h.c 0) fun O=>ab (O.k==23) (aa k (SE hd k (ac h) 1 qB z.2.2) fun q=>sH.elim q (fun q=>ab (q.2.1) (j q.2.2 (ac q.1)) (I (.ok ((ac h),q.2.2)))) (fun A=>I (.gF (A.1,A.2)))) (I (.ok ((ac h),z.2.2)))) (I (.ok ((ac h),z.2.2))))) (fun L=>I (.gF (L.1,L.2)))) (ab (h.k==14) (pA (af h.c 0) fun F=>ab (F.k==23) (aa k (SE hd k (ac h) 1 qB x.2.2) fun r14=>sH.elim r14 (fun r14=>ab (r14.2.1) (j r14.2.2 (ac r14.1)) (I (.ok ((ac h),r14.2.2)))) (fun B=>I (.gF (B.1,B.2)))) (I (.ok ((ac h),x.2.2)))) (I (.ok ((ac h),x.2.2)))))) (fun M=>I (.gF (M.1,M.2)))
def Sc (hd:Nc S) (k:Nat) (I:sH (Int×Int) (Tm×Int)->OS S) (qB:List Df):Nat->Int->Tm->OS S
 |0=>fun _ _=> .none
 |m+1=>fun h j=>ayZ hd k I qB (Sc hd k I qB m) h j
def iB (hd:Nc S) (k:Nat) (I:sH (Int×Int) (Tm×Int)->OS S) (J0:Int->Tm->OS S) (t:Tm) (qB:List Df) (pw:Int):OS S:=J0 pw (ac t)
def FG:Nat->Tm->(List Df)->Int->(sH (Int×Int) (Tm×Int)->OS S)->OS S
 |0=>fun _ _ _ _=> .none
 |k+1=>fun t qB pw I=>iB (FG k) k I (fun h j=>Sc (FG k) k I qB k h j) t qB pw
def TU (defs:List Df) (t:Tm) (fuel:Int) (I:Tm×Int×Int->OS S):OS S:=aa k (HN k (ac t)) fun r1=>ab (!(r1==0)) (I ((Tm.mk 0 0 qw [] [] []),0,r1)) (ab (decide ((fuel:Int)<0)) (I ((Tm.mk 0 0 qw [] [] []),0,2)) (ab (decide ((fuel:Int)>100000)) (I ((Tm.mk 0 0 qw [] [] []),0,2)) (dJ k (ac t) fun j=>FG k (ac j) defs fuel fun h=>sH.elim h (fun h=>I ((ac h.1),h.2,0)) (fun q=>I ((Tm.mk 0 0 qw [] [] []),0,q.1)))))
def j' (I:Bool->OS S):OS S:=aa k (Sd k 1 ([]:LT)) fun r1=>aa k (Sd k 5 [(Tm.mk r1.1 r1.2.1 r1.2.2.1 [] r1.2.2.2 [])]) fun q=>aa k (Sd k 20 ([]:LT)) fun x=>aa k (Sd k 8 [(Tm.mk q.1 q.2.1 q.2.2.1 [] q.2.2.2 []),(Tm.mk x.1 x.2.1 x.2.2.1 [] x.2.2.2 [])]) fun z=>aa k (Sd k 9 [(Tm.mk z.1 z.2.1 z.2.2.1 [] z.2.2.2 [])]) fun j=>aa k (Sd k 3 ([]:LT)) fun A=>aa k (Sd k 6 [(Tm.mk j.1 j.2.1 j.2.2.1 [] j.2.2.2 []),(Tm.mk A.1 A.2.1 A.2.2.1 [] A.2.2.2 [])]) fun B=>aa k (TU k ([]:List Df) (Tm.mk B.1 B.2.1 B.2.2.1 [] B.2.2.2 []) 5) fun F=>aa k (Sd k 3 ([]:LT)) fun E=>aa k (Sd k 6 [(Tm.mk j.1 j.2.1 j.2.2.1 [] j.2.2.2 []),(Tm.mk E.1 E.2.1 E.2.2.1 [] E.2.2.2 [])]) fun h=>aa k (TU k ([]:List Df) (Tm.mk h.1 h.2.1 h.2.2.1 [] h.2.2.2 []) 1) fun J=>ab (F.2.2==0) (ab (F.1.k==3) (ab (F.2.1==3) (I (J.2.2==220)) (I false)) (I false)) (I false)
abbrev gY (S:Type):=Tm->Int->(Int->OS S)->OS S
def xL (hd:gY S) (k:Nat) (I:Int->OS S) (t:Tm) (p6 i7:Int) (j:Int->Int->OS S) (q:Int->Int->OS S) (h x:Int):OS S:=pA (af t.s i7) fun x5=>ab (decide ((x:Int)<(x5.c.length:Int))) (ab (decide ((h:Int)<=p6)) (pA (af t.s i7) fun x6=>pA (af x6.c x) fun z=>hd (ac z) (p5 .i64 (p6-h)) fun A=>q (p5 .i64 (h+A)) (p5 .i64 (x+1))) (j h (p5 .i64 (i7+1)))) (j h (p5 .i64 (i7+1)))
def kA (hd:gY S) (k:Nat) (I:Int->OS S) (h:Int->Int->OS S) (t:Tm) (p6 i7:Int):Nat->Int->Int->OS S
 |0=>fun _ _=> .none
 |m+1=>fun j q=>xL hd k I t p6 i7 h (kA hd k I h t p6 i7 m) j q
def sS (hd:gY S) (k:Nat) (I:Int->OS S) (t:Tm) (p6:Int) (J2:Int->Int->Int->OS S) (j:Int->Int->OS S) (h i7:Int):OS S:=ab (decide ((i7:Int)<(t.s.length:Int))) (ab (decide ((h:Int)<=p6)) (pA (af t.s i7) fun x3=>ab (decide (((x3.f.length:Int):Int)>p6)) (I (p5 .i64 (p6+1))) (pA (af t.s i7) fun x4=>J2 i7 (p5 .i64 ((p5 .i64 (h+1))+(x4.f.length:Int))) 0)) (I h)) (I h)
def jl (hd:gY S) (k:Nat) (I:Int->OS S) (t:Tm) (p6:Int):Nat->Int->Int->OS S
 |0=>fun _ _=> .none
 |m+1=>fun j i7=>sS hd k I t p6 (fun i7 h q=>kA hd k I (jl hd k I t p6 m) t p6 i7 k h q) (jl hd k I t p6 m) j i7
def p' (hd:gY S) (k:Nat) (I:Int->OS S) (t:Tm) (p6:Int) (J1:Int->Int->OS S) (h:Int->Int->OS S) (v5 i6:Int):OS S:=ab (decide ((i6:Int)<(t.c.length:Int))) (ab (decide ((v5:Int)<=p6)) (pA (af t.c i6) fun x1=>hd (ac x1) (p5 .i64 (p6-v5)) fun j=>h (p5 .i64 (v5+j)) (p5 .i64 (i6+1))) (J1 v5 0)) (J1 v5 0)
def nQ (hd:gY S) (k:Nat) (I:Int->OS S) (t:Tm) (p6:Int):Nat->Int->Int->OS S
 |0=>fun _ _=> .none
 |m+1=>fun v5 i6=>p' hd k I t p6 (fun h i7=>jl hd k I t p6 k h i7) (nQ hd k I t p6 m) v5 i6
def Io (hd:gY S) (k:Nat) (I:Int->OS S) (J0:Int->Int->OS S) (t:Tm) (p6:Int):OS S:=ab (decide (((t.r.length:Int):Int)>p6)) (I (p5 .i64 (p6+1))) (ab (decide (((t.name.size:Int):Int)>p6)) (I (p5 .i64 (p6+1))) (J0 (p5 .i64 ((p5 .i64 (1+(t.r.length:Int)))+(t.name.size:Int))) 0))
def gE:Nat->Tm->Int->(Int->OS S)->OS S
 |0=>fun _ _ _=> .none
 |k+1=>fun t p6 I=>Io (gE k) k I (fun v5 i6=>nQ (gE k) k I t p6 k v5 i6) t p6
def hS (t:Tm) (I:Bool->OS S):OS S:=gE k (ac t) 80 fun r1=>I (decide ((r1:Int)>80))
def q' (t:Tm) (I:Bool->OS S):OS S:=gE k (ac t) 100 fun r1=>I (decide ((r1:Int)>100))
def w3 (I:Bool->OS S) (l:List Df) (h:Int->OS S) (qT:Int):OS S:=ab (decide ((qT:Int)<(l.length:Int))) (pA (af l qT) fun x1=>aa k (q' k (ac x1.body)) fun j=>ab (j) (I true) (ab (decide (((x1.name.size:Int):Int)>50)) (I true) (h (p5 .i64 (qT+1))))) (I false)
def TJ (k:Nat) (I:Bool->OS S) (l:List Df):Nat->Int->OS S
 |0=>fun _=> .none
 |m+1=>fun qT=>w3 k I l (TJ k I l m) qT
def aAk (k:Nat) (I:Bool->OS S) (J0:Int->OS S) (l:List Df):OS S:=ab (decide (((l.length:Int):Int)>8)) (I true) (J0 0)
def k2 (l:List Df) (I:Bool->OS S):OS S:=aAk k I (fun qT=>TJ k I l k qT) l
def v' (k:Nat) (I:List Df->OS S) (l:List Df) (j:(List Df)->Int->OS S) (h:List Df) (q:Int):OS S:=ab (decide ((q:Int)<(l.length:Int))) (pA (af l q) fun x1=>pA (aw 1099511627776 h.length [(D1 x1)].length) fun x2=>j (h++[(D1 x1)]) (p5 .i64 (q+1))) (I h)
def gv (k:Nat) (I:List Df->OS S) (l:List Df):Nat->(List Df)->Int->OS S
 |0=>fun _ _=> .none
 |m+1=>fun h j=>v' k I l (gv k I l m) h j
def aAj (k:Nat) (I:List Df->OS S) (J0:(List Df)->Int->OS S) (l:List Df):OS S:=J0 ([]:List Df) 0
def p1 (l:List Df) (I:List Df->OS S):OS S:=aAj k I (fun h j=>gv k I l k h j) l
def oT (k:Nat) (I:Bool->OS S) (a b:LC) (h:Int->OS S) (i5:Int):OS S:=ab (decide ((i5:Int)<(a.length:Int))) (pA (af a i5) fun x1=>pA (af b i5) fun x2=>ab (!((x1.pos==x2.pos)&&((x1.neg==x2.neg)&&true))) (I false) (h (p5 .i64 (i5+1)))) (I true)
def G1 (k:Nat) (I:Bool->OS S) (a b:LC):Nat->Int->OS S
 |0=>fun _=> .none
 |m+1=>fun i5=>oT k I a b (G1 k I a b m) i5
def BV (k:Nat) (I:Bool->OS S) (J0:Int->OS S) (a b:LC):OS S:=ab (!((a.length:Int)==(b.length:Int))) (I false) (J0 0)
def jY (a b:LC) (I:Bool->OS S):OS S:=BV k I (fun i5=>G1 k I a b k i5) a b
abbrev eN (S:Type):=Tm->Tm->(Bool->OS S)->OS S
def xQ (hd:eN S) (k:Nat) (I:Bool->OS S) (a b:LT) (h:Int->OS S) (i5:Int):OS S:=ab (decide ((i5:Int)<(a.length:Int))) (pA (af a i5) fun x1=>pA (af b i5) fun x2=>hd (ac x1) (ac x2) fun j=>ab (!j) (I false) (h (p5 .i64 (i5+1)))) (I true)
def qH (hd:eN S) (k:Nat) (I:Bool->OS S) (a b:LT):Nat->Int->OS S
 |0=>fun _=> .none
 |m+1=>fun i5=>xQ hd k I a b (qH hd k I a b m) i5
def It (hd:eN S) (k:Nat) (I:Bool->OS S) (J0:Int->OS S) (a b:LT):OS S:=ab (!((a.length:Int)==(b.length:Int))) (I false) (J0 0)
def tX (hd:eN S) (k:Nat) (a b:LT) (I:Bool->OS S):OS S:=It hd k I (fun i5=>qH hd k I a b k i5) a b
def xO (hd:eN S) (k:Nat) (I:Bool->OS S) (a b:Tm) (h:Int->OS S) (i5:Int):OS S:=ab (decide ((i5:Int)<(a.s.length:Int))) (pA (af a.s i5) fun x3=>pA (af b.s i5) fun x4=>aa k (jY k x3.f x4.f) fun j=>ab (!j) (I false) (pA (af a.s i5) fun x6=>pA (af b.s i5) fun q=>aa k (tX hd k x6.c q.c) fun x=>ab (!x) (I false) (h (p5 .i64 (i5+1))))) (I true)
def gn (hd:eN S) (k:Nat) (I:Bool->OS S) (a b:Tm):Nat->Int->OS S
 |0=>fun _=> .none
 |m+1=>fun i5=>xO hd k I a b (gn hd k I a b m) i5
def Ir (hd:eN S) (k:Nat) (I:Bool->OS S) (J0:Int->OS S) (a b:Tm):OS S:=ab (!(a.k==b.k)) (I false) (ab (!(a.n==b.n)) (I false) (ab (!(a.name==b.name)) (I false) (aa k (jY k a.r b.r) fun r1=>ab (!r1) (I false) (aa k (tX hd k a.c b.c) fun h=>ab (!h) (I false) (ab (!((a.s.length:Int)==(b.s.length:Int))) (I false) (J0 0))))))
def d8:Nat->Tm->Tm->(Bool->OS S)->OS S
 |0=>fun _ _ _=> .none
 |k+1=>fun a b I=>Ir (d8 k) k I (fun i5=>gn (d8 k) k I a b k i5) a b
abbrev RE (S:Type):=Tm->(Int->OS S)->OS S
def P' (hd:RE S) (k:Nat) (I:Int->OS S) (t:Tm) (xS:Int) (x4:(Br Tm)) (j:Int->Int->OS S) (q:Int->Int->OS S) (h KK:Int):OS S:=ab (decide ((KK:Int)<(x4.c.length:Int))) (pA (af x4.c KK) fun x5=>hd (ac x5) fun x=>q (p5 .i64 (h+(p5 .i64 (1+x)))) (p5 .i64 (KK+1))) (j h (p5 .i64 (xS+1)))
def W8 (hd:RE S) (k:Nat) (I:Int->OS S) (j:Int->Int->OS S) (t:Tm) (xS:Int) (x4:(Br Tm)):Nat->Int->Int->OS S
 |0=>fun _ _=> .none
 |m+1=>fun h KK=>P' hd k I t xS x4 j (W8 hd k I j t xS x4 m) h KK
def gx (hd:RE S) (k:Nat) (I:Int->OS S) (t:Tm) (J2:Int->(Br Tm)->Int->Int->OS S) (j:Int->Int->OS S) (h xS:Int):OS S:=ab (decide ((xS:Int)<(t.s.length:Int))) (pA (af t.s xS) fun x4=>J2 xS x4 h 0) (I h)
def SQ (hd:RE S) (k:Nat) (I:Int->OS S) (t:Tm):Nat->Int->Int->OS S
 |0=>fun _ _=> .none
 |m+1=>fun j xS=>gx hd k I t (fun xS x4 h KK=>W8 hd k I (SQ hd k I t m) t xS x4 k h KK) (SQ hd k I t m) j xS
def s6 (hd:RE S) (k:Nat) (I:Int->OS S) (t:Tm) (J1:Int->Int->OS S) (q:Int->Int->OS S) (h j:Int):OS S:=ab (decide ((h:Int)<(t.c.length:Int))) (pA (af t.c h) fun x1=>aa k (gI k t.k h) fun x=>hd (ac x1) fun z=>q (p5 .i64 (h+1)) (p5 .i64 (j+(p5 .i64 (x.2+z))))) (J1 j 0)
def e8 (hd:RE S) (k:Nat) (I:Int->OS S) (t:Tm):Nat->Int->Int->OS S
 |0=>fun _ _=> .none
 |m+1=>fun q j=>s6 hd k I t (fun h xS=>SQ hd k I t k h xS) (e8 hd k I t m) q j
def aQG (hd:RE S) (k:Nat) (I:Int->OS S) (J0:Int->Int->OS S) (t:Tm):OS S:=J0 0 0
def L8:Nat->Tm->(Int->OS S)->OS S
 |0=>fun _ _=> .none
 |k+1=>fun t I=>aQG (L8 k) k I (fun j h=>e8 (L8 k) k I t k j h) t
def x' (I:Int->OS S) (defs:List Df) (j:Int->Int->OS S) (h q:Int):OS S:=ab (decide ((q:Int)<(defs.length:Int))) (pA (af defs q) fun x1=>L8 k (ac x1.body) fun x=>j (p5 .i64 (h+x)) (p5 .i64 (q+1))) (I h)
def pg (k:Nat) (I:Int->OS S) (defs:List Df):Nat->Int->Int->OS S
 |0=>fun _ _=> .none
 |m+1=>fun h j=>x' k I defs (pg k I defs m) h j
def aQH (k:Nat) (I:Int->OS S) (J0:Int->Int->OS S) (defs:List Df):OS S:=J0 0 0
def ee (defs:List Df) (I:Int->OS S):OS S:=aQH k I (fun h j=>pg k I defs k h j) defs
def dd (defs:List Df) (t:Tm) (vars many fuel:Int) (I:Bool->OS S):OS S:=aa k (j' k) fun r1=>ab (!r1) (I false) (aa k (hS k (ac t)) fun x=>ab (x) (I true) (aa k (k2 k defs) fun z=>ab (z) (I true) (ab (decide ((many:Int)>4)) (I true) (L8 k (ac t) fun A=>ab (decide ((A:Int)>3)) (I true) (aa k (xr k (ac t) vars many) fun B=>ab (!(B==0)) (I true) (aa k (ee k defs) fun E=>ab (decide ((E:Int)>3)) (I true) (aa k (p1 k defs) fun F=>aa k (TU k F (ac t) (p5 .i64 (Int.tmod (p5 .u64 fuel) 4))) fun j=>ab (!(j.2.2==0)) (d8 k (ac j.1) (Tm.mk 0 0 qw [] [] []) fun J=>I J) (aa k (xr k (ac j.1) vars many) fun h=>ab (h==0) (I true) (ab (h==100) (L8 k (ac j.1) fun q=>I (decide ((q:Int)>12))) (I false))))))))))
abbrev aAC (S:Type):=(List Df)->Tm->Int->(Tm×Int×Int->OS S)->OS S
abbrev aDE (S:Type):=(List Df)->Tm->(Bool->OS S)->OS S
end
end
section
abbrev ya:Nat:=16777215
theorem N4 {n:Nat} (h:n<24):2^n<4294967296:=Nat.lt_of_lt_of_le (Nat.pow_lt_pow_right (by decide) h) (by decide)
theorem Dt (n:Nat):(2:Int)^n=((2^n:Nat):Int):=by simp
theorem Es (m n:Nat):Int.fdiv (m:Int) ((2:Int)^n)=((m/2^n:Nat):Int):=by
 grind
variable {S:Type} {k:Nat}
theorem BM (hk:Fu k) (i:Int) (I:Bool->OS S):nd k i I=I (decide (0<=i/\i<24)):=by
 grind [nd,aY]
theorem akm (hk:Fu k) {m:Nat} (q:m<4294967296) (I:Bool->OS S):pm k (m:Int) I=I (decide (m<16777216)):=by
 simp only [pm]
 rw [show (16777215:Int)=((16777215:Nat):Int) from rfl,C_ q (by decide)]
 congr 1
 rw [Bool.eq_iff_iff]
 simp only [beq_iff_eq,decide_eq_true_eq]
 have key:dL m 16777215=0↔m<16777216:=by
  constructor
  ·intro h
   apply Nat.lt_pow_two_of_testBit (n:=24)
   intro i j
   have h2:=mm m 16777215 i
   rw [h,Nat.zero_testBit] at h2
   have:(16777215:Nat).testBit i=false:=Nat.testBit_lt_two_pow (Nat.lt_of_lt_of_le (by decide:16777215<2^24) (Nat.pow_le_pow_right (by decide) j))
   grind
  ·intro h
   apply Nat.eq_of_testBit_eq
   intro i
   rw [mm,Nat.zero_testBit]
   by_cases j:i<24
   ·have:(16777215:Nat).testBit i=true:=by
     rw [show (16777215:Nat)=2^24-1 from rfl,Nat.testBit_two_pow_sub_one];grind
    grind
   ·have h2:(2:Nat)^24<=2^i:=Nat.pow_le_pow_right (by decide) (by omega)
    grind [Nat.testBit_lt_two_pow]
 omega
theorem akk (hk:Fu k) {m:Nat} (j:m<4294967296) (i:Int) (I:Bool->OS S):Nh k (m:Int) i I=I (decide (0<=i/\i<24)&&m.testBit i.toNat):=by
 simp only [Nh,BM hk,ag hk]
 by_cases h:0<=i/\i<24
 ·obtain ⟨n,rfl⟩: ∃n:Nat,i=n:=⟨i.toNat,by omega⟩
  have hn:n<24:=by omega
  rw [decide_eq_true h,ae,Bool.true_and,iR n (by omega),fN _ (by omega)]
  congr 1
  rw [HV,Nat.min_eq_left (by omega),Es,show (1:Int)=((1:Nat):Int) from rfl,lj (Nat.lt_of_le_of_lt (Nat.div_le_self _ _) j) (by decide)]
  grind
 grind [n3]
theorem akn (hk:Fu k) {m:Nat} (j:m<4294967296) (i:Int) (I:Int->OS S):i_ k (m:Int) i I=I (if 0<=i/\i<24 then (((m&&&ya)|||2^i.toNat:Nat):Int) else ((m&&&ya:Nat):Int)):=by
 simp only [i_,BM hk,ag hk]
 have hand:bj .and .u32 (m:Int) 16777215=((m&&&ya:Nat):Int):=lj j (by decide:(16777215:Nat)<4294967296)
 have q:m&&&ya<4294967296:=ga (n:=32) j
 rw [hand]
 by_cases h:0<=i/\i<24
 ·obtain ⟨n,rfl⟩: ∃n:Nat,i=n:=⟨i.toNat,by omega⟩
  grind [iR,n3,fN,HV,ld,N4,wK]
 ·rw [decide_eq_false h,if_neg h];rfl
theorem ako (hk:Fu k) {m:Nat} (j:m<4294967296) (i:Int) (I:Int->OS S):jX k (m:Int) i I=I (if 0<=i/\i<24 then ((dL (m&&&ya) (2^i.toNat):Nat):Int) else ((m&&&ya:Nat):Int)):=by
 simp only [jX,BM hk,ag hk]
 have hand:bj .and .u32 (m:Int) 16777215=((m&&&ya:Nat):Int):=lj j (by decide:(16777215:Nat)<4294967296)
 have q:m&&&ya<4294967296:=ga (n:=32) j
 rw [hand]
 by_cases h:0<=i/\i<24
 ·grind [iR,n3,fN,HV,ld,N4,C_]
 ·rw [decide_eq_false h,if_neg h];rfl
theorem R5 (hk:Fu k) (n:Nat) (hn:n<18446744073709551616) (I:Int->OS S):pn k (n:Int) I=I ((2^min n 24-1:Nat):Int):=by
 simp only [pn]
 have e:(if (24:Int)<(n:Int) then (24:Int) else (n:Int))=((min n 24:Nat):Int):=by
  omega
 rw [e,iR _ (by omega),fN _ (by omega),HV]
 congr 1
 generalize j:min n 24=q
 have h:q<=24:=by omega
 rw [Nat.min_eq_left (by omega),Int.one_mul,Dt]
 have h1:2^q<=2^24:=Nat.pow_le_pow_right (by decide) h
 grind [iR,ld]
def gO (m n:Nat):Nat:=(m&&&ya)&&&(2^min n 24-1)
def dl (m n:Nat):Nat:=dL (m&&&ya) (2^min n 24-1)
def MT (m n b:Nat):Nat×Nat:=
 if dl m n=0 then (gO m n,0) else if 24<=b then (0,10) else if dl m n*2^b>16777215 then (0,10) else (gO m n|||(dl m n*2^b),0)
theorem akl (hk:Fu k) {m:Nat} (E:m<4294967296) (n b:Nat) (hn:n<9223372036854775808) (hb:b<9223372036854775808) (I:Int×Int->OS S):
  lx k (m:Int) (n:Int) (b:Int) I=I (((MT m n b).1:Int),((MT m n b).2:Int)):=by
 have hand:bj .and .u32 (m:Int) 16777215=((m&&&ya:Nat):Int):=lj E (by decide:(16777215:Nat)<4294967296)
 have x:m&&&ya<16777216:=Nat.lt_of_le_of_lt Nat.and_le_right (by decide)
 have j:2^min n 24-1<4294967296:=by
  have:2^min n 24<=2^24:=Nat.pow_le_pow_right (by decide) (by omega)
  omega
 have z:dl m n<16777216:=vq (n:=24) x
 have q:bj .and .u32 ((m&&&ya:Nat):Int) ((2^min n 24-1:Nat):Int)=((gO m n:Nat):Int):=lj (by omega) j
 have h:bj .andNot .u32 ((m&&&ya:Nat):Int) ((2^min n 24-1:Nat):Int)=((dl m n:Nat):Int):=C_ (by omega) j
 simp only [lx]
 rw [aY,aY,if_neg (by omega),if_neg (by omega)]
 simp only [R5 hk n (by omega),ag hk,hand,q,h]
 rw [iR _ (by omega)]
 unfold MT
 by_cases F:dl m n=0
 ·grind [ae]
 ·rw [if_neg F]
  have A:(((dl m n:Nat):Int)==0)=false:=by
   grind
  simp only [A,n3,aY]
  by_cases B:24<=b
  ·grind
  ·rw [if_neg (by omega),if_neg B,iR b (by omega),fN _ (by omega),HV,Nat.min_eq_left (by omega),Dt]
   have hp:2^b<=2^23:=Nat.pow_le_pow_right (by decide) (by omega)
   have J:(2:Nat)^23=8388608:=by decide
   have hmul:dl m n*2^b<18446744073709551616:=by
    have:=Nat.mul_le_mul (Nat.le_of_lt z) hp
    omega
   have L:((dl m n:Nat):Int)*((2^b:Nat):Int)=((dl m n*2^b:Nat):Int):=by simp
   rw [L,iR _ hmul]
   by_cases M:dl m n*2^b>16777215
   ·grind
   ·rw [if_neg (by omega),if_neg M]
    rw [ld _ (by omega),fN _ (by omega),wK (by grind [gO,Nat.and_le_left]) (by omega)]
    rfl
variable {S:Type} {k:Nat}
def Tf (l:List Nat):Nat:=(l.map (2^ ·)).sum
theorem Zr {x a:Nat} (h:x.testBit a=false):x+2^a=x|||2^a:=by
 have h1:x=2^(a+1)*(x/2^(a+1))+x%2^(a+1):=(Nat.div_add_mod _ _).symm
 have j:x%2^(a+1)<2^a:=by
  have hb:(x%2^(a+1)).testBit a=false:=by grind
  grind [Nat.lt_pow_two_of_testBit,Nat.testBit_lt_two_pow]
 generalize x/2^(a+1)=q at h1
 generalize x%2^(a+1)=r at h1 j
 have hp:(2:Nat)^(a+1)=2^a*2:=Nat.pow_succ 2 a
 have z:2^a+r=2^a|||r:=by
  have:=Nat.two_pow_add_eq_or_of_lt j 1
  grind
 have A:x=2^(a+1)*q|||r:=by grind [Nat.two_pow_add_eq_or_of_lt]
 grind [Nat.two_pow_add_eq_or_of_lt]
theorem oG: ∀ (l:List Nat),l.Nodup-> ∀j,(Tf l).testBit j=decide (j∈l):=by
 intro l
 induction l with
 |nil=>grind [Tf]
 |cons a l q=>
  intro hn j
  have h:=List.nodup_cons.1 hn
  have ha:(Tf l).testBit a=false:=by grind
  have e:Tf (a::l)=Tf l|||2^a:=by
   grind [Zr,Tf]
  grind
def bW (m:Nat):List Nat:=(Ez 24).filter m.testBit
theorem oY (m:Nat):(bW m).Nodup:=List.nodup_range.filter _
theorem sY {m j:Nat}:j∈bW m↔j<24/\m.testBit j=true:=by simp [bW]
theorem gu (m:Nat):(bW m).length<=24:=by
 grind [bW]
theorem g8 (j:Nat):ya.testBit j=decide (j<24):=by
 rw [show ya=2^24-1 from rfl,Nat.testBit_two_pow_sub_one]
def ints (l:List Nat):List Int:=l.map Int.ofNat
theorem amb (l:List Nat):(ints l).length=l.length:=by simp [ints]
theorem uB {α:Type} (p r:List α) (x:α):af (p++x::r) (p.length:Int)=some x:=by simp [af]
theorem oZ {m:Nat} (h:m<16777216) {j:Nat} (hj:m.testBit j=true):j<24:=by
 apply Classical.byContradiction
 intro hn
 have:m<2^j:=Nat.lt_of_lt_of_le h (Nat.pow_le_pow_right (n:=2) (i:=24) (j:=j) (by decide) (by omega))
 grind [Nat.testBit_lt_two_pow]
theorem LN (m:Nat):m<16777216↔ ∀j,m.testBit j=true->j<24:=by
 constructor
 ·intro h j hj;exact oZ h hj
 ·intro h
  apply Nat.lt_pow_two_of_testBit (n:=24)
  grind
def Ix (n b x:Nat):Nat:=if x<n then x else x+b
theorem Dl (m n j:Nat):(gO m n).testBit j=(m.testBit j&&decide (j<n/\j<24)):=by
 grind [gO,g8]
theorem Js (m n j:Nat):(dl m n).testBit j=(m.testBit j&&decide (n<=j/\j<24)):=by
 grind [dl,mm,g8]
theorem Fg (m n b:Nat):MT m n b=if (∃x∈bW m,n<=x/\24<=x+b) then (0,10) else (Tf ((bW m).map (Ix n b)),0):=by
 have z:((bW m).map (Ix n b)).Nodup:=by
  grind [Ix,oY]
 have B: ∀j,(Tf ((bW m).map (Ix n b))).testBit j=((gO m n).testBit j||(decide (b<=j)&&(dl m n).testBit (j-b))):=by
  intro j
  rw [oG _ z,Dl,Js,Bool.eq_iff_iff]
  simp only [decide_eq_true_eq,xq,sY,Bool.or_eq_true,qC]
  grind [Ix]
 have h: ∀j,(dl m n).testBit j=true↔(j∈bW m/\n<=j):=by
  grind [Js,sY]
 unfold MT
 by_cases A:dl m n=0
 ·rw [if_pos A,if_neg]
  ·congr 1
   apply Nat.eq_of_testBit_eq
   grind
  grind
 ·rw [if_neg A]
  have hex: ∃j,(dl m n).testBit j=true:=by
   apply Classical.byContradiction
   intro F
   apply A
   apply Nat.eq_of_testBit_eq
   grind
  have hmul: ∀j,(dl m n*2^b).testBit j=(decide (b<=j)&&(dl m n).testBit (j-b)):=by
   grind
  by_cases q:24<=b
  ·rw [if_pos q]
   obtain ⟨j,hj⟩:=hex
   have:=(h j).1 hj
   rw [if_pos ⟨j,this.1,this.2,by omega⟩]
  ·rw [if_neg q]
   have I:=LN (dl m n*2^b)
   by_cases E:dl m n*2^b>16777215
   ·rw [if_pos E,if_pos]
    grind
   ·rw [if_neg E,if_neg]
    ·congr 1
     apply Nat.eq_of_testBit_eq
     grind
    ·rintro ⟨x,h1,h2,J⟩
     have L:(dl m n*2^b).testBit (x+b)=true:=by
      simp_all
     grind
def j7 (m:Nat) (i:Int):Nat:=if 0<=i/\i<24 then gO m i.toNat|||((m&&&ya)/2^(i.toNat+1)*2^i.toNat) else m&&&ya
theorem akj (hk:Fu k) {m:Nat} (q:m<4294967296) (i:Int) (I:Int->OS S):pk k (m:Int) i I=I ((j7 m i:Nat):Int):=by
 simp only [pk,BM hk,ag hk]
 have hand:bj .and .u32 (m:Int) 16777215=((m&&&ya:Nat):Int):=lj q (by decide:(16777215:Nat)<4294967296)
 have x:m&&&ya<16777216:=Nat.lt_of_le_of_lt Nat.and_le_right (by decide)
 rw [hand]
 unfold j7
 by_cases h:0<=i/\i<24
 ·obtain ⟨n,rfl⟩: ∃n:Nat,i=n:=⟨i.toNat,by omega⟩
  have hn:n<24:=by omega
  rw [decide_eq_true h,if_pos h,xJ,n3,R5 hk n (by omega)]
  have z:(n:Int)+1=((n+1:Nat):Int):=by simp
  rw [alX (by omega) (by omega),z,iR _ (by omega),iR _ (by omega),fN _ (by omega),fN _ (by omega)]
  rw [HV,HV,Nat.min_eq_left (show n+1<=32 by omega),Nat.min_eq_left (show n<=32 by omega),Es,Dt]
  have hb:2^min n 24-1<4294967296:=by
   have:2^min n 24<=2^24:=Nat.pow_le_pow_right (by decide) (by omega)
   omega
  have B:(m&&&ya)/2^(n+1)*2^n<=m&&&ya:=by
   have h1:(m&&&ya)/2^(n+1)*2^(n+1)<=m&&&ya:=Nat.div_mul_le_self _ _
   have h2:2^n<=2^(n+1):=Nat.pow_le_pow_right (by decide) (by omega)
   exact zj (Nat.mul_le_mul_left _ h2) h1
  have A:((((m&&&ya)/2^(n+1):Nat):Int))*((2^n:Nat):Int)=(((m&&&ya)/2^(n+1)*2^n:Nat):Int):=by simp
  rw [A,ld _ (by omega),lj (by omega) hb]
  have j:gO m n<4294967296:=by grind [gO,Nat.and_le_left]
  show I (bj .or .u32 ((gO m n:Nat):Int) _)=_
  rw [wK j (by omega)]
 ·rw [decide_eq_false h,if_neg h];rfl
def aG (n:Int):Prop:= -9223372036854775808<=n/\n<9223372036854775808
def oC (s:Int):Bool:=decide (s<16777216)
def bP (s i:Int):Bool:=decide (0<=i/\i<24)&&s.toNat.testBit i.toNat
def e_ (s i:Int):Int:=if 0<=i/\i<24 then (((s.toNat&&&ya)|||2^i.toNat:Nat):Int) else ((s.toNat&&&ya:Nat):Int)
def KY (s i:Int):Int:=if 0<=i/\i<24 then ((dL (s.toNat&&&ya) (2^i.toNat):Nat):Int) else ((s.toNat&&&ya:Nat):Int)
def Rt (s:Int):List Int:=ints (bW s.toNat)
def Fa (s i b:Int):Int×Int:=if i<0\/b<0 then (0,2) else (((MT s.toNat i.toNat b.toNat).1:Int),((MT s.toNat i.toNat b.toNat).2:Int))
def pI (s i:Int):Int:=((j7 s.toNat i:Nat):Int)
theorem QE (m:Nat):oC (m:Int)=decide (m<16777216):=by
 grind [oC]
theorem Q9 (hk:Fu k) {s:Int} (h:DR s) (I:Bool->OS S):pm k s I=I (oC s):=by
 obtain ⟨m,j,rfl⟩:=h.nat
 rw [akm hk j,QE]
theorem rF (hk:Fu k) {s:Int} (h:DR s) (i:Int) (I:Bool->OS S):Nh k s i I=I (bP s i):=by
 obtain ⟨m,j,rfl⟩:=h.nat
 rw [akk hk j];rfl
theorem vV (hk:Fu k) {s:Int} (h:DR s) (i:Int) (I:Int->OS S):i_ k s i I=I (e_ s i):=by
 obtain ⟨m,j,rfl⟩:=h.nat
 rw [akn hk j];rfl
theorem vW (hk:Fu k) {s:Int} (h:DR s) (i:Int) (I:Int->OS S):jX k s i I=I (KY s i):=by
 obtain ⟨m,j,rfl⟩:=h.nat
 rw [ako hk j];rfl
theorem Ny {s:Int} (h:DR s):ra s=Rt s:=by
 obtain ⟨m,j,rfl⟩:=h.nat
 have: ∀i:Nat,(BitVec.ofInt 32 (m:Int)).getLsbD i=m.testBit i:=by
  grind
 simp_all [ra,Rt,ints,bW]
theorem Q6 (hk:Fu k) {s i b:Int} (h:DR s) (j:aG i) (hb:aG b) (I:Int×Int->OS S):lx k s i b I=I (Fa s i b):=by
 obtain ⟨m,q,rfl⟩:=h.nat
 by_cases h1:i<0
 ·grind [lx,aY,Fa]
 by_cases h2:b<0
 ·grind [lx,aY,Fa]
 obtain ⟨n,rfl⟩: ∃n:Nat,i=n:=⟨i.toNat,by omega⟩
 obtain ⟨c,rfl⟩: ∃n:Nat,b=n:=⟨b.toNat,by omega⟩
 have:=j.2;have:=hb.2
 grind [akl,Fa]
theorem Q4 (hk:Fu k) {s:Int} (h:DR s) (i:Int) (I:Int->OS S):pk k s i I=I (pI s i):=by
 obtain ⟨m,j,rfl⟩:=h.nat
 rw [akj hk j];rfl
theorem Dy (hk:Fu k) (I:Int->OS S):lw k 0 I=I 0:=by
 simp only [lw,ag hk];rfl
theorem Dz (hk:Fu k) (I:Int->OS S): ∀n:Nat,n<24->lw k ((2^n:Nat):Int) I=I 1:=by
 simp only [lw,ag hk]
 intro n hn
 match n,hn with
 |0,_|1,_|2,_|3,_|4,_|5,_|6,_|7,_|8,_|9,_|10,_|11,_|12,_|13,_|14,_|15,_|16,_|17,_|18,_|19,_|20,_|21,_|22,_|23,_=>rfl
 |n+24,h=>omega
theorem B7 (i:Int):e_ 0 i=if 0<=i/\i<24 then ((2^i.toNat:Nat):Int) else 0:=by
 grind [e_]
theorem ai7 (hk:Fu k) (i:Int) (I:Bool->OS S):yE k i I=I (decide (0<=i/\i<24)):=by
 simp only [yE,ag hk,vV hk (s:=0) ⟨by omega,by omega⟩,B7]
 grind [Dz,Dy]
theorem ai8 (hk:Fu k) (i:Int) (I:Bool->OS S):yK k i I=I (decide (0<=i/\i<24)):=by
 simp only [yK,ag hk,vV hk (s:=0) ⟨by omega,by omega⟩,B7]
 grind [Dz,Dy]
theorem DR.of {n:Nat} (h:n<4294967296):DR (n:Int):=⟨by omega,by omega⟩
theorem ao2 {s i:Int}:0<=e_ s i/\e_ s i<16777216:=by
 have h1:s.toNat&&&ya<16777216:=Nat.lt_of_le_of_lt Nat.and_le_right (by decide)
 unfold e_
 split
 ·next h=>
  have hp:2^i.toNat<2^24:=Nat.pow_lt_pow_right (by decide) (by omega)
  have:=Nat.or_lt_two_pow (n:=24) h1 hp
  omega
 ·omega
theorem Jd {s i:Int}:0<=KY s i/\KY s i<16777216:=by
 have h1:s.toNat&&&ya<16777216:=Nat.lt_of_le_of_lt Nat.and_le_right (by decide)
 unfold KY
 split
 ·have:=vq (n:=24) (b:=2^i.toNat) h1
  omega
 ·omega
theorem aam (m:Nat) (i:Int):j7 m i<16777216:=by
 have h1:m&&&ya<16777216:=Nat.lt_of_le_of_lt Nat.and_le_right (by decide)
 unfold j7
 split
 ·rw [LN]
  grind [Dl,g8]
 omega
deriving instance DecidableEq for Cl
theorem Cl.ext' {a b:Cl} (h1:a.pos=b.pos) (h2:a.neg=b.neg):a=b:=by cases a<;>simp_all
theorem lm (a b:Cl):((a.pos==b.pos)&&((a.neg==b.neg)&&true))=decide (a=b):=by
 grind [Cl.ext']
def aX (c:Cl):Prop:=DR c.pos/\DR c.neg
def aq (f:LC):Prop:= ∀c∈f,aX c
def fE (c:Cl):Bool:=oC c.pos&&oC c.neg
def RC (c:Cl):Prop:=(0<=c.pos/\c.pos<16777216)/\(0<=c.neg/\c.neg<16777216)
theorem RC.ok {c:Cl} (h:RC c):aX c:=⟨⟨h.1.1,by have:=h.1.2;omega⟩,⟨h.2.1,by have:=h.2.2;omega⟩⟩
theorem Bp {c:Cl} (h:aX c):fE c=true↔RC c:=by
 unfold fE oC RC
 simp only [qC,decide_eq_true_eq]
 have h1:=h.1.1;have h2:=h.2.1
 omega
def ep (a b:Int):Int:=((a.toNat|||b.toNat:Nat):Int)
theorem fP {a b:Int} (ha:DR a) (hb:DR b):bj .or .u32 a b=ep a b:=by
 obtain ⟨m,h,rfl⟩:=ha.nat;obtain ⟨n,hn,rfl⟩:=hb.nat
 rw [wK h hn];rfl
def d9 (a b:Cl):Cl:=⟨ep a.pos b.pos,ep a.neg b.neg⟩
def dR (a b:Cl):Bool:=decide (d9 a b=a)
def bS (c:Cl):Bool:= !decide (c.pos.toNat&&&c.neg.toNat=0)
theorem FX {a b:Int} (ha:DR a) (hb:DR b):DR (ep a b):=by
 obtain ⟨m,h,rfl⟩:=ha.nat;obtain ⟨n,hn,rfl⟩:=hb.nat
 exact DR.of (Nat.or_lt_two_pow (n:=32) h hn)
theorem Aw {a b:Cl} (ha:aX a) (hb:aX b):aX (d9 a b):=⟨FX ha.1 hb.1,FX ha.2 hb.2⟩
theorem Rg (hk:Fu k) {c:Cl} (h:aX c) (I:Bool->OS S):tC k c I=I (fE c):=by
 simp only [tC,ag hk,Q9 hk h.1,Q9 hk h.2,fE,cH]
 grind
theorem G_ (hk:Fu k) {a b:Cl} (ha:aX a) (hb:aX b) (I:Cl->OS S):pb k a b I=I (d9 a b):=by
 simp only [pb,fP ha.1 hb.1,fP ha.2 hb.2];rfl
theorem ai3 (hk:Fu k) {a b:Cl} (ha:aX a) (hb:aX b) (I:Bool->OS S):yA k a b I=I (dR a b):=by
 simp only [yA,ag hk,G_ hk ha hb,lm];rfl
theorem Rf (hk:Fu k) {c:Cl} (h:aX c) (I:Bool->OS S):tB k c I=I (bS c):=by
 obtain ⟨p,n⟩:=c
 obtain ⟨m,j,rfl⟩:=h.1.nat;obtain ⟨n,hn,rfl⟩:=h.2.nat
 simp only [tB,lj j hn,bS,HV]
 congr 2
 grind
open Classical in
theorem aln (s:Int) (x:Nat) (h:x<24) (j:Nat):(e_ s (x:Int)).toNat.testBit j=((s.toNat.testBit j&&decide (j<24))||decide (j=x)):=by
 unfold e_
 rw [if_pos (by omega),HV,HV,Nat.testBit_or,Nat.testBit_and,g8,Nat.testBit_two_pow,Bool.eq_iff_iff]
 grind
def dw (c:Cl) (i b:Int):Cl×Int:=
 if fE c then
  if (Fa c.pos i b).2=0 then if (Fa c.neg i b).2=0 then (⟨(Fa c.pos i b).1,(Fa c.neg i b).1⟩,0) else (⟨0,0⟩,(Fa c.neg i b).2)
  else (⟨0,0⟩,(Fa c.pos i b).2)
 else (⟨0,0⟩,2)
theorem ai4 (hk:Fu k) {c:Cl} {i b:Int} (h:aX c) (j:aG i) (hb:aG b) (I:Cl×Int->OS S):yD k c i b I=I (dw c i b):=by
 simp only [yD,ag hk,Rg hk h,Q6 hk h.1 j hb,Q6 hk h.2 j hb,cH,dw,Bool.not_eq_true',beq_eq_false_iff_ne]
 grind
def gP (a b:Cl):Prop:=a.pos<b.pos\/(a.pos=b.pos/\a.neg<b.neg)
def qZ (a b:Cl):Bool:=decide (a.pos<b.pos)||(a.pos==b.pos&&decide (a.neg<b.neg))
theorem agh {a b:Cl}:qZ a b=true↔gP a b:=by unfold qZ gP;simp
theorem LP {a b c:Cl} (h:gP a b) (h':gP b c):gP a c:=by grind [gP]
theorem LO {a:Cl} (h:gP a a):False:=by grind [gP]
theorem agC (a b:Cl):gP a b\/a=b\/gP b a:=by
 grind [Cl.ext',gP]
abbrev lg (l:LC):Prop:=l.Pairwise gP
theorem BL: ∀ {a b:LC},lg a->lg b->(∀c,c∈a↔c∈b)->a=b:=by
 intro a
 induction a with
 |nil=>
  intro b _ _ h
  cases b with
  |nil=>rfl
  |cons y b=>exact absurd ((h y).2 (by simp)) (by simp)
 |cons x a A=>
  intro b ha hb h
  cases b with
  |nil=>grind
  |cons y b=>
   have j:=List.pairwise_cons.1 ha;have q:=List.pairwise_cons.1 hb
   have z:x=y:=by
    rcases BB.1 ((h x).1 (by simp)) with h1|h1
    ·exact h1
    ·rcases BB.1 ((h y).2 (by simp)) with h2|h2<;>grind [LP,LO]
   grind [LO]
def fq (x:Cl):LC->LC
 |[]=>[x]
 |y::r=>if qZ y x then y::fq x r else if y=x then y::r else x::y::r
theorem NE {x c:Cl}: ∀ {l:LC},c∈fq x l↔c=x\/c∈l:=by
 intro l
 induction l<;>grind [fq]
theorem adp {x:Cl}: ∀ {l:LC},lg l->lg (fq x l):=by
 intro l
 induction l<;>grind [fq,List.pairwise_cons,NE,agh,agC,LP]
theorem K_ {x:Cl}: ∀ {l:LC},(fq x l).length<=l.length+1:=by
 intro l
 induction l<;>grind [fq]
def ce (l:LC) (c:Cl):Bool:=l.all fun d=>decide (d=c)|| !dR c d
def TM (o l:LC):LC:=l.foldl (fun o c=>fq c o) o
def I1 (l:LC):LC:=TM [] (l.filter (ce l))
theorem agJ {c:Cl}: ∀ {l o:LC},c∈TM o l↔c∈l\/c∈o:=by
 intro l
 induction l with
 |nil=>grind [TM]
 |cons x l h=>
  intro o
  show c∈TM (fq x o) l↔_
  grind [NE]
theorem ado: ∀ {l o:LC},lg o->lg (TM o l):=by
 intro l
 induction l with
 |nil=>intro o h;exact h
 |cons x l j=>intro o h;exact j (adp h)
theorem adn: ∀ {l o:LC},(TM o l).length<=o.length+l.length:=by
 intro l
 induction l<;>grind [TM,K_]
theorem o9 (l:LC):lg (I1 l):=ado List.Pairwise.nil
theorem uc {l:LC} {c:Cl}:c∈I1 l↔c∈l/\ce l c=true:=by
 grind [I1,agJ]
theorem agM (l:LC):(I1 l).length<=l.length:=by
 grind [adn,I1]
theorem NK {l l':LC} (h: ∀c,c∈l↔c∈l') (c:Cl):ce l c=ce l' c:=by
 grind [ce]
def bp (l:LC):LC×Int:=if l.all fE then if (I1 l).length>64 then ([],3) else (I1 l,0) else ([],2)
theorem yq {S:Type} {p:Prop} [Decidable p] (h:p) (f:Unit->OS S):pA (bR p) f=f ():=fN p h f
theorem aiS (hk:Fu k) {d c:Cl} (hd:aX d) (hc:aX c) (I:Bool->OS S):yC k d c I=I (!(decide (d=c)|| !dR c d)):=by
 grind [yC,lm,cH,ag,ai3,dR]
theorem aeZ (hk:Fu k) (I:Int->OS S) {c:Cl} (hc:aX c) {l:LC} (hl:aq l) (hlen:l.length<2147483648):
  ∀ (r p:LC) (m:Nat),l=p++r->r.length<m-> ∃v:Int,decide (v>=0)= !ce r c/\qO k I c l m (p.length:Int)=I v:=by
 intro r
 induction r with
 |nil=>
  intro p m h q
  obtain ⟨m,rfl,j⟩:=qI q
  exact ⟨-1,rfl,by grind [qO,yc,n3]⟩
 |cons x r z=>
  intro p m h q
  obtain ⟨m,rfl,j⟩:=qI q
  obtain ⟨B,E,F,A⟩:=sX h (by omega)
  have J:aX x:=hl x (by grind)
  obtain ⟨v,hv,L⟩:=z (p++[x]) m A j
  have M:ce (x::r) c=((decide (x=c)|| !dR c x)&&ce r c):=by rfl
  grind [qO,yc,ae,ag,aiS,decide,dR,n3]
theorem ajq (hk:Fu k) {c:Cl} (hc:aX c) {l:LC} (hl:aq l) (hlen:l.length<2147483648) (I:Bool->OS S):yB k c l I=I (!ce l c):=by
 obtain ⟨v,hv,h⟩:=aeZ hk (fun r1:Int=>I (decide (r1>=0))) hc hl hlen l [] k rfl (by omega)
 grind [yB,DT,DV,IM,ag]
theorem ae2 (hk:Fu k) (I:LC×Int->OS S) {l:LC} (hl:aq l) (hlen:l.length<2147483648):
  ∀ (r p:LC) (m:Nat) (q:LC),l=p++r->r.length<m->q.length<=p.length->
  nz k I l m (p.length:Int) q=I (if (q++r.filter (ce l)).length>64 then ([],3) else (sortCl (q++r.filter (ce l)),0)):=by
 intro r
 induction r with
 |nil=>
  grind [qI,nz,wM,aY]
 |cons x r z=>
  intro p m q h A O
  obtain ⟨m,rfl,j⟩:=qI A
  obtain ⟨B,E,F,J⟩:=sX h (by omega)
  have L:aX x:=hl x (by grind)
  have M:p.length<l.length:=by grind
  simp only [nz,wM,B,ae,E,rf,ag hk,ajq hk L hl hlen,Bool.not_not]
  rw [F]
  cases hn:ce l x with
  |true=>
   rw [ae,J5 (by grind),List.filter_cons_of_pos hn,z (p++[x]) m (q++[x]) J j (by grind)]
   simp
  |false=>
   rw [n3,List.filter_cons_of_neg (by grind)]
   grind
theorem zT (a b:Cl):eS VV ET.C a b=decide (a=b):=by
 have e:eS VV ET.C a b=((a.pos==b.pos)&&((a.neg==b.neg)&&true)):=by
  rfl
 rw [e,lm]
theorem agK (l:List (Cl×Bool)) (x y:Cl):dW VV ET.C (Mm VV ET.C l x true) y=if x=y then some true else dW VV ET.C l y:=by
 induction l with
 |nil=>
  show (bif eS VV ET.C x y then some true else .none)=_
  simp_all [zT,dW]
 |cons a r j=>
  obtain ⟨z,b⟩:=a
  show dW VV ET.C (bif eS VV ET.C z x then (z,true)::r else (z,b)::Mm VV ET.C r x true) y=_
  rw [zT]
  by_cases h:z=x
  ·subst h
   rw [decide_eq_true rfl,cond_true]
   show (bif eS VV ET.C z y then some true else dW VV ET.C r y)=if z=y then some true else (bif eS VV ET.C z y then some b else dW VV ET.C r y)
   grind [zT]
  ·rw [decide_eq_false h,cond_false]
   show (bif eS VV ET.C z y then some b else dW VV ET.C (Mm VV ET.C r x true) y)=if x=y then some true else (bif eS VV ET.C z y then some b else dW VV ET.C r y)
   grind [zT]
theorem akd {l o:LC} (hn:o.Nodup) (h: ∀c,c∈o↔c∈l):sortCl (o.filter (ce o))=I1 l/\(o.filter (ce o)).length=(I1 l).length:=by
 have hp:(sortCl (o.filter (ce o))).Perm (o.filter (ce o)):=List.mergeSort_perm _ _
 have hs:(sortCl (o.filter (ce o))).Pairwise (fun a b=>lq a b=true):=
  List.pairwise_mergeSort (le:=lq) (fun a b c h1 h2=>by
   grind [lq]) (fun a b=>by
   grind [lq]) _
 have q:(sortCl (o.filter (ce o))).Nodup:=hp.nodup_iff.2 (hn.filter _)
 have j:lg (sortCl (o.filter (ce o))):=by
  refine (hs.and q).imp fun {a b} h=> ?_
  have h1:=h.1
  unfold lq at h1
  simp only [Bool.or_eq_true,qC,decide_eq_true_eq,beq_iff_eq] at h1
  rcases h1 with h1|h1
  ·exact .inl h1
  ·refine .inr ⟨h1.1, ?_⟩
   grind [Cl.ext']
 have he:sortCl (o.filter (ce o))=I1 l:=BL j (o9 l) fun c=>by
  grind [uc,NK]
 exact ⟨he,by rw [<-he,hp.length_eq]⟩
theorem af3 (hk:Fu k) (I:LC×Int->OS S) {l:LC} (hl:aq l) (hlen:l.length<2147483648):
  ∀ (r p:LC) (m:Nat) (q:List (Cl×Bool)) (o:LC),l=p++r->r.length<m->o.length<=p.length->o.Nodup->(∀c:Cl,(dW VV ET.C q c).getD false=decide (c∈o))->(∀c,c∈o↔c∈p)->
  pZ k I l m q o (p.length:Int)=I (if r.all fE then if (I1 l).length>64 then ([],3) else (I1 l,0) else ([],2)):=by
 intro r
 induction r with
 |nil=>
  intro p m q o h B ho z J j
  obtain ⟨m,rfl,A⟩:=qI B
  have hp:l=p:=by grind
  subst hp
  have E:aq o:=fun c hc=>hl c ((j c).1 hc)
  have L:4294967296<=k:=hk
  simp only [pZ,sF,zt h,n3,List.all_nil,if_true]
  have:=ae2 hk I E (by omega) o [] k [] rfl (by omega) (by simp)
  grind [akd]
 |cons x r M=>
  intro p m q o h B ho z J j
  obtain ⟨m,rfl,A⟩:=qI B
  obtain ⟨O,T,W,Y⟩:=sX h (by omega)
  have hx:aX x:=hl x (by grind)
  have ad:p.length<l.length:=by grind
  simp only [pZ,sF,O,ae,T,rf,ag hk,Rg hk hx]
  rw [J,W]
  by_cases hr:fE x=true
  ·have:(x::r).all fE=r.all fE:=by grind
   rw [hr,xJ,n3,this]
   by_cases F:x∈o
   ·grind [n3]
   ·rw [decide_eq_false F,ub,ae,J5 (by grind)]
    refine M (p++[x]) m _ (o++[x]) Y A (by grind) (List.nodup_append.2 ⟨z,by simp,fun a ha b hb=>by grind⟩) (fun c=> ?_) fun c=> ?_
    all_goals grind [agK]
  grind [ae]
theorem kX (hk:Fu k) {l:LC} (hl:aq l) (hlen:l.length<2147483648) (I:LC×Int->OS S):gy k l I=I (bp l):=by
 simp only [gy,Hw]
 exact af3 hk I hl hlen l [] k [] [] rfl (by omega) (by simp) List.nodup_nil (fun c=>by rfl) (fun c=>Iff.rfl)
theorem aeg (hk:Fu k) (I:Bool->OS S) {a b:LC} (hlen:a.length<4294967296):
  ∀ (r s p q:LC) (m:Nat),a=p++r->b=q++s->p.length=q.length->r.length=s.length->r.length<m->qN k I a b m (p.length:Int)=I (decide (r=s)):=by
 intro r
 induction r with
 |nil=>
  grind [qI,qN,yb,n3]
 |cons x r B=>
  intro s p q m h h' E j F
  obtain ⟨m,rfl,z⟩:=qI F
  cases s with
  |nil=>cases j
  |cons y s=>
   obtain ⟨J,L,M,O⟩:=sX h (by omega)
   have A:af b (p.length:Int)=some y:=by grind [uB]
   simp only [qN,yb,J,ae,L,A,rf,lm,M]
   rw [B s (p++[x]) (q++[y]) m O (by grind) (by simp_all) (by grind) z]
   by_cases T:x=y<;>simp_all [n3,ae]
theorem aiN (hk:Fu k) {a b:LC} (hlen:a.length<4294967296) (I:Bool->OS S):zz k a b I=I (decide (a=b)):=by
 simp only [zz,IL]
 by_cases h:a.length=b.length
 ·have e:((a.length:Int)==(b.length:Int))=true:=by simp [h]
  rw [e,xJ,n3]
  exact aeg hk I hlen a b [] [] k rfl rfl rfl h (by omega)
 ·have e:((a.length:Int)==(b.length:Int))=false:=by grind
  rw [e,ub,ae,decide_eq_false]
  grind
theorem LF (l:LC):(bp l).1.length<=64:=by
 grind [bp]
def xP (f:LC):Bool:=decide (bp f=(f,0))
theorem rH (hk:Fu k) {f:LC} (hf:aq f) (hlen:f.length<2147483648) (I:Bool->OS S):hY k f I=I (xP f):=by
 have:=LF f
 simp only [hY,ag hk,kX hk hf hlen,aiN hk (show (bp f).1.length<4294967296 by omega),cH,xP,beq_iff_eq]
 by_cases h:(bp f).2=0
 all_goals simp_all [Prod.ext_iff]
def RF (f:LC):Prop:=bp f=(f,0)/\aq f
theorem M9 {f:LC} (h:aq f):xP f=true↔RF f:=by grind [xP,RF]
theorem RF.right {f:LC} (h:RF f):xP f=true:=by unfold xP;simp [h.1]
theorem As {l o:LC} (h:bp l=(o,0)):o=I1 l/\l.all fE=true/\o.length<=64:=by
 grind [bp]
theorem RF.len {f:LC} (h:RF f):f.length<=64:=(As h.1).2.2
theorem RF.rc {f:LC} (h:RF f) {c:Cl} (hc:c∈f):RC c:=(Bp (h.2 c hc)).1 (zf.1 (As h.1).2.1 c hc)
theorem agN (l:LC):I1 (I1 l)=I1 l:=BL (o9 _) (o9 _) fun c=>by
 grind [uc,ce]
theorem qX {l:LC} (hl:aq l) (h:(bp l).2=0):RF (bp l).1:=by
 have h':bp l=((bp l).1,0):=Prod.ext rfl h
 obtain ⟨h1,h2,q⟩:=As h'
 have j:aq (bp l).1:=fun c hc=>hl c ((uc.1 (h1▸hc)).1)
 refine ⟨?_,j⟩
 grind [bp,uc,agN]
theorem agf {l:LC} (h:(bp l).2≠0):(bp l).1=[]:=by
 grind [bp]
theorem rA:RF []:=⟨rfl,fun c hc=>by cases hc⟩
theorem gS {c:Cl} (h:RC c):RF [c]:=by
 have j:aq [c]:=fun d hd=>by simp at hd;subst hd;exact h.ok
 refine ⟨?_,j⟩
 have q:I1 [c]=[c]:=BL (o9 _) (by simp) fun d=>by
  grind [uc,ce]
 unfold bp
 rw [q,if_pos (by simp [(Bp h.ok).2 h]),if_neg (by simp)]
theorem oA:RC ⟨0,0⟩:=⟨⟨by decide,by decide⟩,by decide,by decide⟩
theorem Sj {f g:LC} (hf:aq f) (j:aq g):aq (f++g):=fun c hc=>by
 rcases zx.1 hc with h|h
 ·exact hf c h
 ·exact j c h
theorem afJ (hk:Fu k) (I:Int->OS S) {l:List (LC)} (hl: ∀f∈l,aq f/\f.length<2147483648) (hlen:l.length<4294967296):
  ∀ (r p:List (LC)) (m:Nat),l=p++r->r.length<m->qi k I l m (p.length:Int)=I (if r.all xP then 0 else 2):=by
 intro r
 induction r with
 |nil=>
  grind [qI,qi,w9,n3]
 |cons x r z=>
  intro p m h j
  obtain ⟨m,rfl,q⟩:=qI j
  obtain ⟨A,B,E,F⟩:=sX h (by omega)
  have J:=hl x (by grind)
  grind [qi,w9,ae,ag,rH,n3]
theorem Hc (hk:Fu k) {l:List (LC)} (hl: ∀f∈l,aq f/\f.length<2147483648) (hlen:l.length<4294967296) (I:Int->OS S):pi k l I=I (if l.all xP then 0 else 2):=by
 simp only [pi,HT]
 exact afJ hk I hl hlen l [] k rfl (by omega)
def K0 (f g:LC):LC×Int:=bp (f++g)
def meets (f g:LC):LC:=f.flatMap fun a=>g.map (d9 a)
def KZ (f g:LC):LC×Int:=bp (meets f g)
theorem ND {f g:LC} (hf:aq f) (h:aq g):aq (meets f g):=fun c hc=>by
 obtain ⟨a,ha,hc⟩:=List.mem_flatMap.1 hc
 obtain ⟨b,hb,rfl⟩:=xq.1 hc
 exact Aw (hf a ha) (h b hb)
theorem kS {f g:LC} (hf:aq f) (j:aq g) (h:(KZ f g).2=0):RF (KZ f g).1:=qX (ND hf j) h
theorem Lc {f g:LC} (hf:aq f) (j:aq g) (h:(K0 f g).2=0):RF (K0 f g).1:=qX (Sj hf j) h
theorem Bz (hk:Fu k) {f g:LC} (hf:aq f) (h:aq g) (h1:f.length<1073741824) (h2:g.length<1073741824) (I:LC×Int->OS S):na k f g I=I (K0 f g):=by
 simp only [na,ag hk,An]
 rw [J5 (by grind),J5 (by omega),kX hk (Sj hf h) (by grind)]
 rfl
theorem afa (hk:Fu k) (I:LC×Int->OS S) (j:Int->LC->OS S) {x:Cl} (A:aX x) {g f:LC} {v:Int} (B:aq g) (hlen:g.length<65536):
  ∀ (r p:LC) (m:Nat) (o:LC),g=p++r->r.length<m->o.length+r.length<1099511627776->nA k I j x g f v m (p.length:Int) o=j (p5 .i64 (v+1)) (o++r.map (d9 x)):=by
 intro r
 induction r with
 |nil=>
  intro p m o h q ho
  obtain ⟨m,rfl,z⟩:=qI q
  grind [nA,w7,n3]
 |cons y r M=>
  intro p m o h q ho
  obtain ⟨m,rfl,z⟩:=qI q
  obtain ⟨E,F,J,O⟩:=sX h (by omega)
  have L:aX y:=B y (by grind)
  simp only [uL] at ho
  simp only [nA,w7,E,ae,F,rf,ag hk,G_ hk A L,J]
  grind [J5]
theorem ae_ (hk:Fu k) (I:LC×Int->OS S) {g f:LC} (hf:aq f) (z:aq g) (B:f.length<32768) (E:g.length<32768):
  ∀ (r p:LC) (m:Nat) (o:LC),f=p++r->r.length<m->aq o->o.length+r.length*g.length<1073741825->lZ k I g f m (p.length:Int) o=I (bp (o++meets r g)):=by
 intro r
 induction r with
 |nil=>
  grind [qI,lZ,uf,n3,ag,kX,meets]
 |cons x r F=>
  intro p m o h J j ho
  obtain ⟨m,rfl,q⟩:=qI J
  obtain ⟨L,M,O,T⟩:=sX h (by omega)
  have A:aX x:=hf x (by grind)
  have hmul:(x::r).length*g.length=r.length*g.length+g.length:=by grind
  rw [hmul] at ho
  have W:4294967296<=k:=hk
  simp only [lZ,uf,L,ae,M,rf]
  have:=afa hk I (lZ k I g f m) (f:=f) (v:=(p.length:Int)) A z (by omega) g [] k o rfl (by omega) (by omega)
  simp only [List.length_nil] at this
  rw [show (0:Int)=((0:Nat):Int) from rfl,this,O,F (p++[x]) m _ T q (Sj j fun c hc=>by
   obtain ⟨b,hb,rfl⟩:=xq.1 hc
   exact Aw A (z b hb)) (by grind)]
  simp [meets]
theorem vY (hk:Fu k) {f g:LC} (hf:aq f) (h:aq g) (h1:f.length<32768) (h2:g.length<32768) (I:LC×Int->OS S):jW k f g I=I (KZ f g):=by
 simp only [jW,HR]
 have hb:f.length*g.length<1073741824:=Nat.lt_of_le_of_lt (Nat.mul_le_mul (Nat.le_of_lt_succ h1) (Nat.le_of_lt_succ h2)) (by decide)
 have:=ae_ hk I hf h h1 h2 f [] k [] rfl (by omega) (fun c hc=>by cases hc) (by grind)
 grind [KZ]
theorem RF.lt {f:LC} (h:RF f):f.length<2147483648:=by have:=h.len;omega
theorem u0:DR 0:=⟨by decide,by decide⟩
def nl (i:Int):Cl:=⟨0,e_ 0 i⟩
def pl (i:Int):Cl:=⟨e_ 0 i,0⟩
theorem FR (i:Int):RC (nl i):=⟨⟨by show (0:Int)<=0;decide,by show (0:Int)<16777216;decide⟩,ao2⟩
theorem F1 (i:Int):RC (pl i):=⟨ao2,⟨by show (0:Int)<=0;decide,by show (0:Int)<16777216;decide⟩⟩
def jI (c:Cl):LC:=(Rt c.pos).map nl++(Rt c.neg).map pl
def oj (c:Cl):LC×Int:=bp (jI c)
theorem Fi (s:Int):(Rt s).length<=24:=by grind [Rt,amb,gu]
theorem NV {c d:Cl} (h:d∈jI c):RC d:=by
 rcases zx.1 h with h|h<;>grind [FR,F1]
theorem ahw (c:Cl):(jI c).length<=48:=by
 grind [Fi,jI]
theorem LH {l:LC} (h: ∀c∈l,RC c) (hl:l.length<=64):(bp l).2=0:=by
 have:=agM l
 unfold bp
 rw [if_pos (zf.2 fun c hc=>(Bp (h c hc).ok).2 (h c hc)),if_neg (by omega)]
theorem NW (c:Cl):(oj c).2=0:=LH (fun d hd=>NV hd) (by have:=ahw c;omega)
theorem AC (c:Cl):RF (oj c).1:=qX (fun d hd=>(NV hd).ok) (NW c)
theorem afe (hk:Fu k) (I:LC×Int->OS S) {l:List Int} (hlen:l.length<=64):
  ∀ (r p:List Int) (m:Nat) (o:LC),l=p++r->r.length<m->aq o->o.length+r.length<1073741824->TL k I l m (p.length:Int) o=I (bp (o++r.map pl)):=by
 intro r
 induction r with
 |nil=>
  grind [qI,TL,w8,n3,ag,kX]
 |cons x r z=>
  intro p m o h A j ho
  obtain ⟨m,rfl,q⟩:=qI A
  obtain ⟨B,E,F,J⟩:=sX h (by omega)
  simp only [uL] at ho
  simp only [TL,w8,B,ae,E,rf,ag hk,vV hk u0,F]
  rw [J5 (by grind),z (p++[x]) m _ J q (Sj j fun c hc=>by simp at hc;subst hc;exact (F1 x).ok) (by grind)]
  simp [pl]
theorem afd (hk:Fu k) (I:LC×Int->OS S) {c:Cl} (hc:aX c) {l:List Int} (hlen:l.length<=64):
  ∀ (r p:List Int) (m:Nat) (o:LC),l=p++r->r.length<m->aq o->o.length+r.length<1000000->qh k I c l m (p.length:Int) o=I (bp (o++r.map nl++(Rt c.neg).map pl)):=by
 intro r
 induction r with
 |nil=>
  intro p m o h z j ho
  obtain ⟨m,rfl,q⟩:=qI z
  simp only [List.length_nil] at ho
  have hl:=Fi c.neg
  have A:4294967296<=k:=hk
  simp only [qh,j1,zt h,n3,vz,Ny hc.2,List.map_nil,zr]
  grind [afe]
 |cons x r B=>
  intro p m o h z j ho
  obtain ⟨m,rfl,q⟩:=qI z
  obtain ⟨E,F,J,L⟩:=sX h (by omega)
  simp only [uL] at ho
  simp only [qh,j1,E,ae,F,rf,ag hk,vV hk u0,J]
  rw [J5 (by grind),B (p++[x]) m _ L q (Sj j fun c hc=>by simp at hc;subst hc;exact (FR x).ok) (by grind)]
  simp [nl]
theorem ajs (hk:Fu k) {c:Cl} (hc:aX c) (I:LC×Int->OS S):yV k c I=I (oj c):=by
 have hl:=Fi c.pos
 simp only [yV,HS,vz,Ny hc.1]
 have:=afd hk I hc (l:=Rt c.pos) (by omega) (Rt c.pos) [] k [] rfl (by omega) (fun c hc=>by cases hc) (by grind)
 grind [oj,jI]
def zo (step:LC->Cl->LC×Int):LC->LC->LC×Int
 |h,[]=>(h,0)
 |h,c::r=>if (step h c).2=0 then zo step (step h c).1 r else ([],(step h c).2)
def mn (h:LC) (c:Cl):LC×Int:=KZ h (oj c).1
def H7 (f:LC):LC×Int:=zo mn [⟨0,0⟩] f
theorem KG {step:LC->Cl->LC×Int} (hs: ∀h c,RF h->(step h c).2=0->RF (step h c).1): ∀ {r h:LC},RF h->(zo step h r).2=0->RF (zo step h r).1:=by
 intro r
 induction r<;>grind [zo]
theorem FS (h:LC) (c:Cl) (j:RF h) (q:(mn h c).2=0):RF (mn h c).1:=kS j.2 (AC c).2 q
theorem ju {f:LC} (h:(H7 f).2=0):RF (H7 f).1:=KG FS (gS oA) h
theorem bG (n:Int):(n==0)=decide (n=0):=by rfl
theorem ajr (hk:Fu k) {h:LC} {c:Cl} (j:RF h) (hc:aX c) (I:LC×Int->OS S):yU k h c I=I (mn h c):=by
 have:=j.len;have:=(AC c).len
 simp only [yU,ag hk,ajs hk hc,NW,vY hk j.2 (AC c).2 (show h.length<32768 by omega) (show (oj c).1.length<32768 by omega)]
 rfl
theorem aeS (hk:Fu k) (I:LC×Int->OS S) {l:LC} (hl:aq l) (hlen:l.length<2147483648):
  ∀ (r p:LC) (m:Nat) (h:LC),l=p++r->r.length<m->RF h->qe k I l m h (p.length:Int)=I (zo mn h r):=by
 intro r
 induction r with
 |nil=>
  intro p m h e j z
  obtain ⟨m,rfl,q⟩:=qI j
  simp only [qe,h6,zt e,n3];rfl
 |cons x r J=>
  intro p m h e j z
  obtain ⟨m,rfl,q⟩:=qI j
  obtain ⟨A,B,E,L⟩:=sX e (by omega)
  have F:aX x:=hl x (by grind)
  simp only [qe,h6,A,ae,B,rf,ag hk,ajr hk z F,bG,E]
  grind [n3,FS,zo,ae]
theorem Rq (hk:Fu k) {f:LC} (hf:aq f) (hlen:f.length<2147483648) (I:LC×Int->OS S):ph k f I=I (H7 f):=by
 simp only [ph,ag hk,T5,DP,HP]
 exact aeS hk I hf hlen f [] k _ rfl (by omega) (gS oA)
theorem aja (hk:Fu k) {f:LC} (hf:aq f) (hlen:f.length<2147483648) (I:LC×Int->OS S):yQ k f I=I (if xP f then H7 f else ([],2)):=by
 simp only [yQ,ag hk,Hc hk (l:=[f]) (by grind) (by simp),Rq hk hf hlen]
 have:[f].all xP=xP f:=by simp
 rw [this]
 by_cases h:xP f=true
 ·rw [if_pos h,if_pos h];rfl
 ·rw [if_neg h,if_neg h];rfl
def iA (i:Int) (c:Cl):Cl:=⟨KY c.pos i,KY c.neg i⟩
theorem kg (i:Int) (c:Cl):RC (iA i c):=⟨Jd,Jd⟩
def d_ (i:Int) (r:LC) (c:Cl):LC×Int:=if bP c.pos i then KZ [iA i c] r else ([iA i c],0)
def RA (i:Int) (r:LC) (c:Cl) (g:LC):LC×Int:=if bP c.neg i then if (H7 r).2=0 then KZ g (H7 r).1 else ([],(H7 r).2) else (g,0)
def dY (i:Int) (r h:LC) (c:Cl):LC×Int:=
 if (d_ i r c).2=0 then if (RA i r c (d_ i r c).1).2=0 then K0 h (RA i r c (d_ i r c).1).1 else ([],(RA i r c (d_ i r c).1).2) else ([],(d_ i r c).2)
def lL (i:Int):Bool:=decide (0<=i/\i<24)
def iH (f:LC) (i:Int) (r:LC):LC×Int:=if xP f&&xP r&&lL i then zo (dY i r) [] f else ([],2)
theorem ahI {i:Int} {r:LC} {c:Cl} (j:RF r) (h:(d_ i r c).2=0):RF (d_ i r c).1:=by
 unfold d_ at h ⊢
 split
 ·next q=>rw [if_pos q] at h;exact kS (gS (kg i c)).2 j.2 h
 simp_all [gS,kg]
theorem ahK {i:Int} {r g:LC} {c:Cl} (j:RF g) (h:(RA i r c g).2=0):RF (RA i r c g).1:=by
 unfold RA at h ⊢
 split
 ·next q=>
  rw [if_pos q] at h
  split
  ·next hn=>rw [if_pos hn] at h;exact kS j.2 (ju hn).2 h
  grind
 omega
theorem N5 {i:Int} {r:LC} (q:RF r) (h:LC) (c:Cl) (x:RF h) (j:(dY i r h c).2=0):RF (dY i r h c).1:=by
 unfold dY at j ⊢
 split
 ·next ha=>
  rw [if_pos ha] at j
  have hA:=ahI q ha
  split
  ·next hb=>rw [if_pos hb] at j;exact Lc x.2 (ahK hA hb).2 j
  grind
 grind
theorem aiU (hk:Fu k) {i:Int} {r h:LC} {c:Cl} (q:RF r) (z:RF h) (hc:aX c) (I:LC×Int->OS S):yS k h c i r I=I (dY i r h c):=by
 have J:=q.len;have L:=z.len
 have x:=gS (kg i c)
 simp only [yS,ag hk,vW hk hc.1,vW hk hc.2,rF hk hc.1,rF hk hc.2,vY hk x.2 q.2 (show [iA i c].length<32768 by simp) (show r.length<32768 by omega),Rq hk q.2 q.lt,bG,cH,decide_eq_true_eq,Bool.not_eq_true',decide_eq_false_iff_not]
 have e: ∀ (f:LC×Int->OS S),jW k [Cl.mk (KY c.pos i) (KY c.neg i)] r f=f (KZ [iA i c] r):=fun f=>vY hk x.2 q.2 (by simp) (by omega) f
 simp only [e]
 unfold dY d_ RA
 by_cases hp:bP c.pos i=true
 ·simp only [hp,if_true]
  by_cases h1:(KZ [iA i c] r).2=0
  ·have hA:RF (KZ [iA i c] r).1:=kS x.2 q.2 h1
   have M:=hA.len
   simp only [h1,not_true,if_false,if_true]
   by_cases hn:bP c.neg i=true
   ·simp only [hn,if_true]
    by_cases h2:(H7 r).2=0
    ·have j:=ju h2
     have B:=j.len
     simp only [h2,not_true,if_false,if_true]
     rw [vY hk hA.2 j.2 (by omega) (by omega)]
     by_cases A:(KZ (KZ [iA i c] r).1 (H7 r).1).2=0
     ·have hB:=kS hA.2 j.2 A
      have E:=hB.len
      simp only [A,not_true,if_false,if_true]
      rw [Bz hk z.2 hB.2 (by omega) (by omega)]
     grind
    grind
   ·simp only [hn,Bool.false_eq_true,if_false,if_true]
    rw [Bz hk z.2 hA.2 (by omega) (by omega)]
  grind
 ·simp only [hp,Bool.false_eq_true,if_false,if_true]
  by_cases hn:bP c.neg i=true
  ·simp only [hn,if_true]
   by_cases h2:(H7 r).2=0
   ·have j:=ju h2
    have B:=j.len
    simp only [h2,not_true,if_false,if_true]
    have F: ∀ (f:LC×Int->OS S),jW k [Cl.mk (KY c.pos i) (KY c.neg i)] (H7 r).1 f=f (KZ [iA i c] (H7 r).1):=fun f=>vY hk x.2 j.2 (by simp) (by omega) f
    rw [F]
    by_cases A:(KZ [iA i c] (H7 r).1).2=0
    ·have hB:=kS x.2 j.2 A
     have E:=hB.len
     simp only [A,not_true,if_false,if_true]
     rw [Bz hk z.2 hB.2 (by omega) (by omega)]
    grind
   grind
  ·simp only [hn,Bool.false_eq_true,if_false,if_true]
   have:=Bz hk z.2 x.2 (by omega) (by simp) I
   exact this
theorem aeT (hk:Fu k) (I:LC×Int->OS S) {i:Int} {q:LC} (B:RF q) {l:LC} (hl:aq l) (hlen:l.length<2147483648):
  ∀ (r p:LC) (m:Nat) (h:LC),l=p++r->r.length<m->RF h->qc k I i q l m h (p.length:Int)=I (zo (dY i q) h r):=by
 intro r
 induction r with
 |nil=>
  intro p m h e j A
  obtain ⟨m,rfl,z⟩:=qI j
  simp only [qc,wZ,zt e,n3];rfl
 |cons x r M=>
  intro p m h e j A
  obtain ⟨m,rfl,z⟩:=qI j
  obtain ⟨E,F,J,O⟩:=sX e (by omega)
  have L:aX x:=hl x (by grind)
  simp only [qc,wZ,E,ae,F,rf,ag hk,aiU hk B A L,bG,J]
  grind [n3,N5,zo,ae]
theorem aiL (hk:Fu k) (i:Int) (I:LC×Int->OS S):yP k i I=I (if lL i then ([⟨e_ 0 i,0⟩],0) else ([],2)):=by
 simp only [yP,ag hk,vV hk u0]
 grind [lL,B7,Dz,n3,Dy,ae]
theorem ajb (hk:Fu k) {f r:LC} {i:Int} (hf:aq f) (j:aq r) (h1:f.length<2147483648) (h2:r.length<2147483648) (I:LC×Int->OS S):yR k f i r I=I (iH f i r):=by
 simp only [yR,ag hk,Hc hk (l:=[f,r]) (by grind) (by simp),aiL hk]
 have e:[f,r].all xP=(xP f&&xP r):=by simp
 unfold iH
 by_cases ha:(xP f&&xP r)=true
 ·rw [e,if_pos ha,ha,Bool.true_and]
  rw [show ((0:Int)==0)=true from rfl,xJ,n3]
  cases hd:lL i with
  |true=>
   rw [if_pos rfl,if_pos rfl]
   rw [show ((0:Int)==0)=true from rfl,xJ,n3]
   simp only [tK,DO,HO]
   have h:=(M9 j).1 (by grind)
   exact aeT hk I h hf h1 f [] k [] rfl (by omega) rA
  |false=>
   rfl
 simp_all [if_neg,ae]
theorem agr {m n b:Nat}:(MT m n b).1<16777216:=by
 have h1:m&&&ya<16777216:=Nat.lt_of_le_of_lt Nat.and_le_right (by decide)
 have h2:gO m n<=m&&&ya:=Nat.and_le_left
 unfold MT
 split
 ·omega
 ·split
  ·simp
  ·split
   ·simp
   ·exact Nat.or_lt_two_pow (n:=24) (by omega) (by omega)
theorem LK (s i b:Int):0<=(Fa s i b).1/\(Fa s i b).1<16777216:=by
 grind [Fa,agr]
theorem LJ (c:Cl) (i b:Int):RC (dw c i b).1:=by
 unfold dw
 split
 ·split
  ·split
   ·exact ⟨LK _ _ _,LK _ _ _⟩
   ·exact oA
  ·exact oA
 ·exact oA
def dK (i b:Int) (h:LC) (c:Cl):LC×Int:=(h++[(dw c i b).1],(dw c i b).2)
def ua (f:LC) (i b:Int):LC×Int:=if xP f then if (zo (dK i b) [] f).2=0 then bp (zo (dK i b) [] f).1 else ([],(zo (dK i b) [] f).2) else ([],2)
theorem KH {i b:Int}: ∀ {r h:LC},aq h->aq (zo (dK i b) h r).1/\(zo (dK i b) h r).1.length<=h.length+r.length:=by
 intro r
 induction r with
 |nil=>intro h j;exact ⟨j,by show h.length<=_;omega⟩
 |cons c r q=>
  intro h j
  unfold zo
  split
  ·have:=q (h:=(dK i b h c).1) (Sj j fun d hd=>by simp at hd;subst hd;exact (LJ c i b).ok)
   grind [dK]
  ·exact ⟨fun d hd=>(by cases hd),by simp⟩
theorem aeR (hk:Fu k) (I:LC×Int->OS S) {i b:Int} (A:aG i) (hb:aG b) {l:LC} (hl:aq l) (hlen:l.length<2147483648):
  ∀ (r p:LC) (m:Nat) (h:LC),l=p++r->r.length<m->h.length+r.length<4294967296->qf k I i b l m h (p.length:Int)=I (zo (dK i b) h r):=by
 intro r
 induction r with
 |nil=>
  intro p m h e j z
  obtain ⟨m,rfl,q⟩:=qI j
  simp only [qf,p4,zt e,n3];rfl
 |cons x r L=>
  intro p m h e j z
  obtain ⟨m,rfl,q⟩:=qI j
  obtain ⟨B,E,F,M⟩:=sX e (by omega)
  have J:aX x:=hl x (by grind)
  simp only [uL] at z
  simp only [qf,p4,B,ae,E,rf,ag hk,DN,ai4 hk J A hb,bG,F]
  grind [J5,n3,zo,dK,ae]
theorem vX (hk:Fu k) {f:LC} {i b:Int} (hf:aq f) (hlen:f.length<1073741824) (x:aG i) (hb:aG b) (I:LC×Int->OS S):jV k f i b I=I (ua f i b):=by
 have q:=KH (i:=i) (b:=b) (r:=f) (h:=[]) (fun d hd=>by cases hd)
 simp only [List.length_nil] at q
 have j: ∀ (g:LC×Int->OS S),yT k f [] i b g=g (zo (dK i b) [] f):=fun g=>by
  simp only [yT,HQ]
  exact aeR hk g x hb hf (by omega) f [] k [] rfl (by omega) (by grind)
 simp only [jV,ag hk,Hc hk (l:=[f]) (by grind) (by simp),tK,j,kX hk q.1 (show _<2147483648 by omega)]
 grind [ua,n3,decide_eq_false,ae]
theorem kQ {f:LC} {i b:Int} (h:(ua f i b).2=0):RF (ua f i b).1:=by
 unfold ua at h ⊢
 split
 ·next j=>
  rw [if_pos j] at h
  split
  ·next q=>
   rw [if_pos q] at h
   exact qX (KH fun d hd=>by cases hd).1 h
  grind
 grind
theorem apW {f:LC} {i b:Int} (h:(ua f i b).2≠0):(ua f i b).1=[]:=by
 grind [ua,agf]
def AD (s:Nat) (f:LC):Nat:=f.foldl (fun s c=>s|||(c.pos.toNat|||c.neg.toNat)) s
def fS (f:LC):Nat:=AD 0 f&&&ya
def ie (f:LC):Int:=((fS f:Nat):Int)
def jJ (f:LC) (i:Nat):Bool:=f.any fun c=>c.pos.toNat.testBit i||c.neg.toNat.testBit i
theorem ahx (i:Nat): ∀ {f:LC} {s:Nat},(AD s f).testBit i=(s.testBit i||jJ f i):=by
 intro f
 induction f<;>simp_all [AD,jJ,Bool.or_assoc]
theorem D7 (f:LC) (i:Nat):(fS f).testBit i=(jJ f i&&decide (i<24)):=by
 grind [fS,g8,ahx]
theorem D6 (f:LC):fS f<16777216:=Nat.lt_of_le_of_lt Nat.and_le_right (by decide)
theorem aeB (hk:Fu k) (I:Int->OS S) {l:LC} (hl:aq l) (hlen:l.length<4294967296):
  ∀ (r p:LC) (m:Nat) (s:Nat),l=p++r->r.length<m->s<4294967296->qb k I l m (s:Int) (p.length:Int)=I (((AD s r&&&ya:Nat):Int)):=by
 intro r
 induction r with
 |nil=>
  intro p m s e q hs
  obtain ⟨m,rfl,j⟩:=qI q
  simp only [qb,wY,zt e,n3,ag hk,vW hk (DR.of hs)]
  rfl
 |cons x r z=>
  intro p m s e q hs
  obtain ⟨m,rfl,j⟩:=qI q
  obtain ⟨A,B,E,F⟩:=sX e (by omega)
  have h:aX x:=hl x (by grind)
  have ho:DR (ep x.pos x.neg):=FX h.1 h.2
  have J:s|||(x.pos.toNat|||x.neg.toNat)<4294967296:=by
   have h1:=h.1.1;have h2:=h.1.2;have M:=h.2.1;have O:=h.2.2
   have L:(2:Nat)^32=4294967296:=by decide
   exact Nat.or_lt_two_pow (n:=32) hs (Nat.or_lt_two_pow (n:=32) (by omega) (by omega))
  have es:ep (s:Int) (ep x.pos x.neg)=((s|||(x.pos.toNat|||x.neg.toNat):Nat):Int):=by rfl
  simp only [qb,wY,A,ae,B,rf,fP h.1 h.2,fP (DR.of hs) ho,E,es]
  exact z (p++[x]) m _ F j J
theorem Ha (hk:Fu k) {f:LC} (hf:aq f) (hlen:f.length<4294967296) (I:Int->OS S):h8 k f I=I (ie f):=by
 simp only [h8,HL]
 exact aeB hk I hf hlen f [] k 0 rfl (by omega) (by decide)
def dg (f:LC) (d:Int):Bool:=decide (∀i∈bW (fS f),(i:Int)<d)
theorem RZ (hk:Fu k) {f:LC} {d:Int} (hf:aq f) (hlen:f.length<4294967296) (hd:0<=d) (j:d<9223372036854775808) (I:Bool->OS S):lK k f d I=I (dg f d):=by
 simp only [lK,aY,ag hk,Ha hk hf hlen]
 by_cases h:d>=24
 ·grind [dg,sY]
 ·rw [if_neg h]
  obtain ⟨n,rfl⟩: ∃n:Nat,d=n:=⟨d.toNat,by omega⟩
  rw [iR n (by omega),yq (by omega),HV,Nat.min_eq_left (by omega)]
  congr 1
  rw [ie,Es,dg,Bool.eq_iff_iff]
  simp only [beq_iff_eq,decide_eq_true_eq]
  have hdiv:(fS f/2^n=0)↔fS f<2^n:=Nat.div_eq_zero_iff_lt (Nat.two_pow_pos n)
  constructor
  ·grind [sY,Nat.lt_of_lt_of_le,Nat.pow_le_pow_right,Nat.testBit_lt_two_pow]
  ·intro q
   have:fS f<2^n:=by
    apply Nat.lt_pow_two_of_testBit
    grind [sY,oZ,D6]
   omega
def kz (c:Cl):Bool:= !bS c
def dv (l:LC):LC:=l.filter kz
def cV (f:LC):Bool:=xP f&&f.all fun c=> !bS c
def BE (f:LC):Prop:=RF f/\ ∀c∈f,bS c=false
theorem oB {f:LC} (h:aq f):cV f=true↔BE f:=by
 grind [cV,BE,M9]
theorem BE.right {f:LC} (h:BE f):cV f=true:=(oB h.1.2).2 h
theorem Ds {l:LC} {c:Cl} (h:c∈dv l):c∈l/\bS c=false:=by
 have:=List.mem_filter.1 h
 grind [kz]
theorem Jz {l:LC} (h:aq l):aq (dv l):=fun c hc=>h c (Ds hc).1
theorem LG {l:LC} (hl:aq l) (hc: ∀c∈l,bS c=false) (h:(bp l).2=0):BE (bp l).1:=by
 refine ⟨qX hl h,fun c j=> ?_⟩
 grind [bp,uc]
theorem GW:BE []:=⟨rA,fun c hc=>by cases hc⟩
theorem Bn {c:Cl} (h:RC c) (h':bS c=false):BE [c]:=⟨gS h,fun d hd=>by grind⟩
theorem Jy (l:LC):(dv l).length<=l.length:=List.length_filter_le _ _
theorem aeq (hk:Fu k) (I:Int->OS S) {l:LC} (hl:aq l) (hlen:l.length<2147483648):
  ∀ (r p:LC) (m:Nat),l=p++r->r.length<m-> ∃v:Int,decide (v>=0)=r.any bS/\qP k I l m (p.length:Int)=I v:=by
 intro r
 induction r with
 |nil=>
  intro p m h q
  obtain ⟨m,rfl,j⟩:=qI q
  exact ⟨-1,rfl,by grind [qP,yd,n3]⟩
 |cons x r z=>
  intro p m h q
  obtain ⟨m,rfl,j⟩:=qI q
  obtain ⟨B,E,F,A⟩:=sX h (by omega)
  have J:aX x:=hl x (by grind)
  obtain ⟨v,hv,L⟩:=z (p++[x]) m A j
  grind [qP,yd,ae,ag,Rf,n3]
theorem Hb (hk:Fu k) {f:LC} (hf:aq f) (hlen:f.length<2147483648) (I:Bool->OS S):pd k f I=I (cV f):=by
 obtain ⟨v,hv,j⟩:=aeq hk (fun r1:Int=>(fun h:Bool=>I (!h)) (decide (r1>=0))) hf hlen f [] k rfl (by omega)
 simp only [pd,ag hk,rH hk hf hlen,DU,DW,IN]
 grind [cV,xP,ae,n3]
theorem aGQ (hk:Fu k) (I:Int->OS S) {l:List (LC)} (hl: ∀f∈l,aq f/\f.length<2147483648) (hlen:l.length<4294967296):
  ∀ (r p:List (LC)) (m:Nat),l=p++r->r.length<m->jm k I l m (p.length:Int)=I (if r.all cV then 0 else 2):=by
 intro r
 induction r with
 |nil=>
  grind [qI,jm,ek,n3]
 |cons x r z=>
  intro p m h j
  obtain ⟨m,rfl,q⟩:=qI j
  obtain ⟨A,B,E,F⟩:=sX h (by omega)
  have J:=hl x (by grind)
  grind [jm,ek,ae,ag,Hb,n3]
theorem aH9 (hk:Fu k) {l:List (LC)} (hl: ∀f∈l,aq f/\f.length<2147483648) (hlen:l.length<4294967296) (I:Int->OS S):r4 k l I=I (if l.all cV then 0 else 2):=by
 simp only [r4,bt]
 exact aGQ hk I hl hlen l [] k rfl (by omega)
def gN (l:LC):LC×Int:=bp (dv l)
def No (f:LC):LC×Int:=if xP f then gN f else ([],2)
def RM (f:LC):LC×Int:=if xP f then if (H7 f).2=0 then gN (H7 f).1 else ([],(H7 f).2) else ([],2)
theorem Fc {l:LC} (hl:aq l) (h:(gN l).2=0):BE (gN l).1:=LG (Jz hl) (fun c hc=>(Ds hc).2) h
theorem FT {f:LC} (h:(No f).2=0) (hf:aq f):BE (No f).1:=by
 grind [No,Fc]
theorem FU {f:LC} (h:(RM f).2=0) (hf:aq f):BE (RM f).1:=by
 unfold RM at h ⊢
 split
 ·next q=>
  rw [if_pos q] at h
  split
  ·next j=>rw [if_pos j] at h;exact Fc (ju j).2 h
  grind
 grind
theorem Rn (hk:Fu k) {c:Cl} (hc:aX c) (I:Cl×Bool->OS S):tJ k c I=I (c,kz c):=by
 simp only [tJ,ag hk,Rf hk hc];rfl
theorem ae0 (hk:Fu k) (I:LC->OS S) {l:LC} (hl:aq l) (hlen:l.length<2147483648):
  ∀ (r p:LC) (m:Nat) (o:LC),l=p++r->r.length<m->o.length+r.length<4294967296->qo k I l m (p.length:Int) o=I (o++dv r):=by
 intro r
 induction r with
 |nil=>
  grind [qI,qo,wW,n3,dv]
 |cons x r F=>
  intro p m o h j ho
  obtain ⟨m,rfl,q⟩:=qI j
  obtain ⟨z,A,B,J⟩:=sX h (by omega)
  have E:aX x:=hl x (by grind)
  simp only [uL] at ho
  simp only [qo,wW,z,ae,A,rf,ag hk,Rn hk E,B]
  grind [ae,J5,dv,n3]
theorem aji (hk:Fu k) {l:LC} (hl:aq l) (hlen:l.length<2147483648) (I:LC->OS S):yN k l I=I (dv l):=by
 simp only [yN,HJ]
 have:=ae0 hk I hl hlen l [] k [] rfl (by omega) (by grind)
 grind
theorem Rp (hk:Fu k) {f:LC} (hf:aq f) (hlen:f.length<2147483648) (I:LC×Int->OS S):tI k f I=I (No f):=by
 have:=Jy f
 simp only [tI,ag hk,rH hk hf hlen,aji hk hf hlen,kX hk (Jz hf) (show (dv f).length<2147483648 by omega)]
 unfold No
 cases xP f with
 |true=>rfl
 |false=>rfl
theorem ajd (hk:Fu k) {f:LC} (hf:aq f) (hlen:f.length<2147483648) (I:LC×Int->OS S):yI k f I=I (RM f):=by
 simp only [yI,ag hk,aja hk hf hlen,bG]
 unfold RM
 cases xP f with
 |true=>
  rw [if_pos rfl,if_pos rfl]
  by_cases h:(H7 f).2=0
  ·have j:=ju h
   rw [decide_eq_true h,xJ,n3,if_pos h,Rp hk j.2 j.lt]
   unfold No
   rw [if_pos j.right]
  grind [ae]
 |false=>
  rfl
def SK (f g:LC):LC×Int:=gN (meets f g)
def EQ (f g:LC):LC×Int:=if cV f&&cV g then K0 f g else ([],2)
theorem ajf (hk:Fu k) {f g:LC} (hf:aq f) (h:aq g) (h1:f.length<1073741824) (h2:g.length<1073741824) (I:LC×Int->OS S):yL k f g I=I (K0 f g):=by
 simp only [yL,ag hk,An]
 rw [J5 (by grind),J5 (by omega),kX hk (Sj hf h) (by grind)]
 rfl
theorem aH8 (hk:Fu k) {f g:LC} (hf:aq f) (h:aq g) (h1:f.length<1073741824) (h2:g.length<1073741824) (I:LC×Int->OS S):s5 k f g I=I (EQ f g):=by
 simp only [s5,ag hk,aH9 hk (l:=[f,g]) (by grind) (by simp),ajf hk hf h h1 h2]
 have e:[f,g].all cV=(cV f&&cV g):=by simp
 unfold EQ
 rw [e]
 cases (cV f&&cV g)<;>grind [n3,ae]
theorem Af {f g:LC} (hf:BE f) (j:BE g) (h:(K0 f g).2=0):BE (K0 f g).1:=
 LG (Sj hf.1.2 j.1.2) (fun c hc=>by
  rcases zx.1 hc with h|h
  ·exact hf.2 c h
  ·exact j.2 c h) h
theorem ajc (hk:Fu k) {b c:Cl} (hb:aX b) (hc:aX c) (I:Cl×Bool->OS S):yO k b c I=I (d9 c b,kz (d9 c b)):=by
 simp_all [yO,ag,G_,Rn,Aw]
theorem ae1 (hk:Fu k) (I:LC->OS S) {c:Cl} (hc:aX c) {l:LC} (hl:aq l) (hlen:l.length<2147483648):
  ∀ (r p:LC) (m:Nat) (o:LC),l=p++r->r.length<m->o.length+r.length<4294967296->p8 k I c l m (p.length:Int) o=I (o++dv (r.map (d9 c))):=by
 intro r
 induction r with
 |nil=>
  intro p m o h j ho
  obtain ⟨m,rfl,q⟩:=qI j
  grind [p8,wV,n3,dv]
 |cons x r F=>
  intro p m o h j ho
  obtain ⟨m,rfl,q⟩:=qI j
  obtain ⟨z,A,B,J⟩:=sX h (by omega)
  have E:aX x:=hl x (by grind)
  simp only [uL] at ho
  simp only [p8,wV,z,ae,A,rf,ag hk,ajc hk E hc,B]
  cases hb:kz (d9 c x)<;>grind [ae,J5,dv,n3]
theorem ajj (hk:Fu k) {c:Cl} (hc:aX c) {l:LC} (hl:aq l) (hlen:l.length<2147483648) (I:LC->OS S):yM k l c I=I (dv (l.map (d9 c))):=by
 simp only [yM,HI]
 have:=ae1 hk I hc hl hlen l [] k [] rfl (by omega) (by grind)
 grind
theorem aeO (hk:Fu k) (I:LC×Int->OS S) {g f:LC} (hf:aq f) (B:aq g) (F:f.length<32768) (J:g.length<32768):
  ∀ (r p:LC) (m:Nat) (o:LC),f=p++r->r.length<m->aq o->o.length+r.length*g.length<1073741825->p_ k I g f m (p.length:Int) o=I (bp (o++dv (meets r g))):=by
 intro r
 induction r with
 |nil=>
  intro p m o h z j ho
  obtain ⟨m,rfl,q⟩:=qI z
  grind [p_,wX,n3,ag,kX,meets,dv]
 |cons x r L=>
  intro p m o h z j ho
  obtain ⟨m,rfl,q⟩:=qI z
  obtain ⟨M,O,T,W⟩:=sX h (by omega)
  have E:aX x:=hf x (by grind)
  have hmul:(x::r).length*g.length=r.length*g.length+g.length:=by grind
  rw [hmul] at ho
  have A:=Jy (g.map (d9 x))
  rw [List.length_map] at A
  simp only [p_,wX,M,ae,O,rf,ag hk,ajj hk E B (show g.length<2147483648 by omega),T]
  rw [J5 (by omega),L (p++[x]) m _ W q (Sj j fun c hc=>by
   obtain ⟨b,hb,rfl⟩:=xq.1 (Ds hc).1
   exact Aw E (B b hb)) (by grind)]
  grind [dv,meets]
theorem ajg (hk:Fu k) {f g:LC} (hf:aq f) (h:aq g) (h1:f.length<32768) (h2:g.length<32768) (I:LC×Int->OS S):pe k f g I=I (SK f g):=by
 simp only [pe,HK]
 have hb:f.length*g.length<1073741824:=Nat.lt_of_le_of_lt (Nat.mul_le_mul (Nat.le_of_lt_succ h1) (Nat.le_of_lt_succ h2)) (by decide)
 have:=aeO hk I hf h h1 h2 f [] k [] rfl (by omega) (fun c hc=>by cases hc) (by grind)
 grind [SK,gN]
theorem vo {f g:LC} (hf:aq f) (j:aq g) (h:(SK f g).2=0):BE (SK f g).1:=Fc (ND hf j) h
theorem Um {s i:Int} {j:Nat} (h:(KY s i).toNat.testBit j=true):s.toNat.testBit j=true:=by
 grind [KY,HV,mm]
theorem Dg {c:Cl}:bS c=false↔ ∀j,¬ (c.pos.toNat.testBit j=true/\c.neg.toNat.testBit j=true):=by
 unfold bS
 rw [Bool.not_eq_false',decide_eq_true_eq]
 constructor
 ·intro h j ⟨h1,h2⟩
  have:(c.pos.toNat&&&c.neg.toNat).testBit j=true:=by grind
  grind
 ·intro h
  apply Nat.eq_of_testBit_eq
  grind
theorem Aa {c:Cl} {i:Int} (h:bS c=false):bS (iA i c)=false:=by
 rw [Dg] at h ⊢
 exact fun j ⟨h1,h2⟩=>h j ⟨Um h1,Um h2⟩
def MV (i:Int) (c:Cl) (h:LC) (q:LC×Int):LC×Int:=
 if q.2=0 then if (SK [iA i c] q.1).2=0 then K0 h (SK [iA i c] q.1).1 else ([],(SK [iA i c] q.1).2) else ([],q.2)
def K3 (i:Int) (r h:LC) (c:Cl):LC×Int:=
 if bP c.pos i then MV i c h (No r) else if bP c.neg i then MV i c h (RM r) else K0 h [iA i c]
def iG (f:LC) (i:Int) (r:LC):LC×Int:=if cV f&&xP r&&lL i then zo (K3 i r) [] f else ([],2)
theorem N6 {i:Int} {c:Cl} {h:LC} {q:LC×Int} (x:BE h) (z:q.2=0->BE q.1) (j:(MV i c h q).2=0):BE (MV i c h q).1:=by
 unfold MV at j ⊢
 split
 ·next h1=>
  rw [if_pos h1] at j
  split
  ·next h2=>rw [if_pos h2] at j;exact Af x (vo (gS (kg i c)).2 (z h1).1.2 h2) j
  grind
 grind
theorem ahL {i:Int} {r h:LC} {c:Cl} (q:RF r) (x:BE h) (hc:bS c=false) (j:(K3 i r h c).2=0):BE (K3 i r h c).1:=by
 unfold K3 at j ⊢
 split
 ·next h1=>rw [if_pos h1] at j;exact N6 x (fun h=>FT h q.2) j
 ·next h1=>
  rw [if_neg h1] at j
  split
  ·next h2=>rw [if_pos h2] at j;exact N6 x (fun h=>FU h q.2) j
  grind [Af,Bn,kg,Aa]
theorem acX {i:Int} {r:LC} (j:RF r): ∀ {l h:LC},(∀c∈l,bS c=false)->BE h->(zo (K3 i r) h l).2=0->BE (zo (K3 i r) h l).1:=by
 intro l
 induction l<;>grind [zo,ahL]
theorem ahO {f r:LC} {i:Int} (hf:aq f) (j:aq r) (h:(iG f i r).2=0):BE (iG f i r).1:=by
 unfold iG at h ⊢
 split
 ·next hc=>
  rw [if_pos hc] at h
  simp only [qC] at hc
  exact acX ((M9 j).1 hc.1.2) ((oB hf).1 hc.1.1).2 GW h
 grind
theorem faJ (hk:Fu k) (I:LC×Int->OS S) (x:Int->LC->OS S) (i:Int) (r f:LC) {h:LC} {v:Int} {g:LC} {e:Int} (A:RF h) (B:e=0->RF g):
  mx k I x i r f v h k g e=if e=0 then if (K0 h g).2=0 then x (p5 .i64 (v+1)) (K0 h g).1 else I ([],(K0 h g).2) else I ([],e):=by
 obtain ⟨q,E⟩: ∃q,k=q+1:=⟨k-1,by omega⟩
 have: ∀j,j=q+1->mx k I x i r f v h j g e=wU k I i r f v h x g e:=by rintro j rfl;rfl
 rw [this k E]
 simp only [wU,bG]
 by_cases z:e=0
 ·have F:=A.len;have J:=(B z).len
  rw [decide_eq_true z,ae,if_pos z,ag hk,ajf hk A.2 (B z).2 (by omega) (by omega)]
  grind [n3,ae]
 grind [n3,ae]
theorem aeP (hk:Fu k) (I:LC×Int->OS S) {i:Int} {q:LC} (j:RF q) {l:LC} (hl:aq l) (hc: ∀c∈l,bS c=false) (hlen:l.length<2147483648):
  ∀ (r p:LC) (m:Nat) (h:LC),l=p++r->r.length<m->BE h->lY k I i q l m (p.length:Int) h=I (zo (K3 i q) h r):=by
 intro r
 induction r with
 |nil=>
  intro p m h e B O
  obtain ⟨m,rfl,E⟩:=qI B
  simp only [lY,ln,zt e,n3];rfl
 |cons x r Y=>
  intro p m h e B O
  obtain ⟨m,rfl,E⟩:=qI B
  obtain ⟨T,W,e3,e4⟩:=sX e (by omega)
  have A:aX x:=hl x (by grind)
  have F:bS x=false:=hc x (by grind)
  have J:=Bn (kg i x) (Aa F)
  have key: ∀ (g:LC) (e:Int),(e=0->BE g)->(K3 i q h x=if e=0 then K0 h g else ([],e))->mx k I (lY k I i q l m) i q l (p.length:Int) h k g e=I (zo (K3 i q) h (x::r)):=by
   intro g e L z
   rw [faJ hk _ _ _ _ _ O.1 (fun h=>(L h).1),zo,z]
   grind [Af]
  have em: ∀ (s:LC),RF s-> ∀ (f:LC×Int->OS S),pe k [Cl.mk (KY x.pos i) (KY x.neg i)] s f=f (SK [iA i x] s):=fun s hs f=>ajg hk J.1.2 hs.2 (by simp) (by have:=hs.len;omega) f
  simp only [lY,ln,T,ae,W,rf,ag hk,vW hk A.1,vW hk A.2,rF hk A.1,rF hk A.2,Rp hk j.2 j.lt,ajd hk j.2 j.lt,bG]
  cases hp:bP x.pos i with
  |true=>
   rw [ae]
   by_cases h1:(No q).2=0
   ·have ho:=FT h1 j.2
    rw [decide_eq_true h1,ae,em _ ho.1]
    exact key _ _ (fun M=>vo J.1.2 ho.1.2 M) (by grind [K3,MV])
   grind [n3,K3,MV]
  |false=>
   rw [n3]
   cases hn:bP x.neg i with
   |true=>
    rw [ae]
    by_cases h1:(RM q).2=0
    ·have ho:=FU h1 j.2
     rw [decide_eq_true h1,ae,em _ ho.1]
     exact key _ _ (fun M=>vo J.1.2 ho.1.2 M) (by grind [K3,MV])
    grind [n3,K3,MV]
   |false=>
    grind [n3,iA,K3]
theorem aje (hk:Fu k) {f r:LC} {i:Int} (hf:aq f) (h:aq r) (h1:f.length<2147483648) (h2:r.length<2147483648) (I:LC×Int->OS S):yJ k f i r I=I (iG f i r):=by
 simp only [yJ,HH,ag hk,Hb hk hf h1,ai8 hk,rH hk h h2]
 unfold iG lL
 cases ha:cV f with
 |false=>rfl
 |true=>
  rw [xJ,n3]
  by_cases hd:0<=i/\i<24
  ·rw [decide_eq_true hd,xJ,n3]
   cases hb:xP r with
   |false=>rfl
   |true=>
    rw [xJ,n3]
    exact aeP hk I ((M9 h).1 hb) hf ((oB hf).1 ha).2 h1 f [] k [] rfl (by omega) GW
  grind [ae]
end
section
mutual
def au:Tm->Nat
 | .mk _ _ _ _ h sys=>1+ay h+aI sys
def ay:LT->Nat
 |[]=>0
 |t::l=>au t+ay l
def aI:LB->Nat
 |[]=>0
 |b::l=>Ho b+aI l
def Ho:Br Tm->Nat
 | .mk _ h=>ay h
end
mutual
def am:Tm->Nat
 | .mk _ _ _ _ h sys=>max (aH h) (aO sys)+1
def aH:LT->Nat
 |[]=>0
 |t::l=>max (am t) (aH l)
def aO:LB->Nat
 |[]=>0
 |b::l=>max (Fy b) (aO l)
def Fy:Br Tm->Nat
 | .mk _ h=>aH h
end
theorem kZ (b:Br Tm):Ho b=ay b.c:=by cases b;rw [Ho]
theorem pD (b:Br Tm):Fy b=aH b.c:=by cases b;rw [Fy]
theorem mB (t:Tm):1<=au t:=by cases t;rw [au];omega
theorem k_: ∀ {l:LT} {x:Tm},x∈l->au x<=ay l:=by
 intro l
 induction l<;>grind [ay]
theorem we: ∀ {l:LB} {b:Br Tm},b∈l->ay b.c<=aI l:=by
 intro l
 induction l<;>grind [aI,kZ]
theorem D0: ∀ {l:LT} {x:Tm},x∈l->am x<=aH l:=by
 intro l
 induction l<;>grind [aH]
theorem JP: ∀ {l:LB} {b:Br Tm},b∈l->aH b.c<=aO l:=by
 intro l
 induction l<;>grind [aO,pD]
theorem gq {Q:Tm->Prop} (h: ∀kd n nm r ks sys,(∀x∈ks,Q x)->(∀b∈sys,∀x∈b.c,Q x)->Q (.mk kd n nm r ks sys)) (t:Tm):Q t:=by
 have: ∀m t,au t<=m->Q t:=by
  intro m
  induction m with
  |zero=>grind [mB]
  |succ m q=>
   intro t z
   cases t with
   |mk kd n nm r ks sys=>
    rw [au] at z
    refine h _ _ _ _ _ _ (fun x j=>q x ?_) fun b hb x j=>q x ?_
    ·have:=k_ j;omega
    ·have:=we hb;have:=k_ j;omega
 exact this _ t (zk _)
def qq:List Int:=[-1,0,0,0,2,1,2,2,2,1,1,3,1,3,2,2,1,1,1,0,0,0,4,1,0,0,1,5,2]
def ct (kd:Int):Int:=if kd<0\/kd>28 then-1 else qq.getD kd.toNat 0
def tZ (kd i:Int):Int:=if (i=1/\(kd=4\/kd=7))\/(i=0/\(kd=5\/kd=22\/kd=27)) then 1 else 0
def bJ (kd i:Int):Int:=if i=0/\(kd=11\/kd=12\/kd=14) then 1 else 0
def Ah (kd:Int):Int:=if kd=16 then 2 else if kd=15\/kd=17\/kd=18 then 1 else 0
def av (kd:Int):Int:=if kd=15 then 1 else 0
theorem g7 (kd i:Int):0<=tZ kd i/\tZ kd i<=1:=by grind [tZ]
theorem gr (kd i:Int):0<=bJ kd i/\bJ kd i<=1:=by grind [bJ]
theorem IB (kd:Int):0<=av kd/\av kd<=1:=by grind [av]
def kP (c:UInt8):Bool:=(decide (97<=c.toNat)&&decide (c.toNat<=122))||(decide (65<=c.toNat)&&decide (c.toNat<=90))||decide (c.toNat=95)
def pG (c:UInt8):Bool:=decide (48<=c.toNat)&&decide (c.toNat<=57)
def u5:List UInt8->Bool
 |[]=>false
 |c::l=>kP c&&l.all fun d=>kP d||pG d
def bX (kd px:Int) (b:Br Tm):Bool:=decide ((b.c.length:Int)=Ah kd)&&(cV b.f&&dg b.f px)
def cL (vars px:Int):Tm->Bool
 | .mk kd n h r j sys=>
  (decide (ct kd=j.length)&&(decide (kd=1\/n=0)&&(decide (kd=2\/h.size=0)&&decide (Ah kd=0->sys.length=0))))&&
  (if kd=1 then decide (r.length=0)&&(decide (0<=n)&&decide (vars<0\/n<vars))
   else if kd=2 then decide (r.length=0)&&u5 h.data.toList
   else if kd=13\/kd=21\/kd=26 then xP r&&dg r px
   else if kd=14 then cV r&&dg r px
   else sys.all (bX kd px)&&decide (r.length=0))
def cQ (vars v:Int):Int:=if vars<0 then vars else vars+v
mutual
def rP (bd:Bool) (vars px:Int):Tm->Bool
 | .mk kd n j r h sys=> !(bd&&decide (px>24))&&(cL vars px (.mk kd n j r h sys)&&(bO bd vars px kd 0 h&&ck bd vars px kd sys))
def bO (bd:Bool) (vars px kd:Int) (i:Nat):LT->Bool
 |[]=>true
 |t::l=>rP bd (cQ vars (tZ kd i)) (px+bJ kd i) t&&bO bd vars px kd (i+1) l
def ck (bd:Bool) (vars px kd:Int):LB->Bool
 |[]=>true
 |b::l=>jT bd vars px kd b&&ck bd vars px kd l
def jT (bd:Bool) (vars px kd:Int):Br Tm->Bool
 | .mk _ h=>ca bd vars px kd h
def ca (bd:Bool) (vars px kd:Int):LT->Bool
 |[]=>true
 |t::l=>rP bd vars (px+av kd) t&&ca bd vars px kd l
end
def bw (t:Tm):Int:=if am t>200 then 62 else if au t>20000 then 221 else if rP false (-1) 24 t then 0 else 100
mutual
def p9:Tm->Prop
 | .mk kd n j r h sys=>(aG kd/\aG n/\j.size<1073741824/\aq r/\r.length<1073741824/\h.length<1073741824/\sys.length<1073741824)/\aZ h/\ba sys
def aZ:LT->Prop
 |[]=>True
 |t::l=>p9 t/\aZ l
def ba:LB->Prop
 |[]=>True
 |b::l=>fc b/\ba l
def fc:Br Tm->Prop
 | .mk f h=>(aq f/\f.length<1073741824/\h.length<1073741824)/\aZ h
end
theorem xp: ∀ {l:LT},aZ l↔ ∀t∈l,p9 t:=by
 intro l
 induction l<;>grind [aZ]
theorem oh {b:Br Tm}:fc b↔(aq b.f/\b.f.length<1073741824/\b.c.length<1073741824)/\ ∀t∈b.c,p9 t:=by
 cases b;rw [fc,xp]
theorem NR: ∀ {l:LB},ba l↔ ∀b∈l,(aq b.f/\b.f.length<1073741824/\b.c.length<1073741824)/\ ∀t∈b.c,p9 t:=by
 intro l
 induction l<;>grind [ba,oh]
theorem p9.node {kd n nm r ks sys} (h:p9 (.mk kd n nm r ks sys)):aG kd/\aG n/\nm.size<1073741824/\aq r/\r.length<1073741824/\ks.length<1073741824/\sys.length<1073741824:=by grind [p9]
theorem p9.bD {kd n nm r ks sys x} (h:p9 (.mk kd n nm r ks sys)) (j:x∈ks):p9 x:=by grind [p9,xp]
theorem p9.br {kd n nm r ks sys b} (h:p9 (.mk kd n nm r ks sys)) (hb:b∈sys):(aq b.f/\b.f.length<1073741824/\b.c.length<1073741824)/\ ∀t∈b.c,p9 t:=by grind [p9,NR]
theorem Zt {bd:Bool} {vars px kd:Int}: ∀ {l:LT},ca bd vars px kd l=l.all (rP bd vars (px+av kd)):=by
 intro l
 induction l<;>grind [ca]
theorem wH {bd:Bool} {vars px kd:Int}: ∀ {l:LB},ck bd vars px kd l=l.all fun b=>b.c.all (rP bd vars (px+av kd)):=by
 intro l
 induction l with
 |nil=>rfl
 |cons b l h=>cases b;simp_all [ck,jT,Zt]
section
variable {H:Type} {enc:TypeId×Value->H} {w:World} {base:Nat} {spare:Nat->Bool} {held:Bool} {o:Obj} {N:aN} {g:Gh UU}
noncomputable abbrev jG (enc:TypeId×Value->H) (w:World) (base:Nat) (spare:Nat->Bool) (held:Bool):=DataW.trod enc Tryz.prog w base spare held
def oM (o:Obj) (w:World) (N:aN) (g:Gh UU) (e:ET) (x:EL e) (cs:List Value):Prop:= ∀ (k:Nat) (p:PU),(H6 e x)[k]? =some p-> ∃v,cs[k]? =some v/\qF (LL o) w N g v p
theorem Dr {l:List (DataW H)}:l.length<=Rows.uptoBulkAll l:=by
 induction l with
 |nil=>simp [Rows.uptoBulkAll]
 |cons x r h=>
  have:1<=Rows.uptoBulk x:=by
   cases x with
   |lit l=>cases l<;>simp [Rows.uptoBulk]
   |_=>simp [Rows.uptoBulk]
  simp only [Rows.uptoBulkAll,uL];omega
theorem build {α β:Type} {R:Nat->β->α->Prop}: ∀ (elems:List β) (s:Nat),(∀i d,elems[i]? =some d-> ∃x,R (s+i) d x)-> ∃l:List α,l.length=elems.length/\ ∀i d,elems[i]? =some d-> ∃x,l[i]? =some x/\R (s+i) d x:=by
 intro elems
 induction elems with
 |nil=>intro s h;exact ⟨[],rfl,fun i d h=>by simp at h⟩
 |cons d r A=>
  intro s h
  obtain ⟨x,j⟩:=h 0 d rfl
  obtain ⟨l,hl,q⟩:=A (s+1) fun i z hd=>by
   obtain ⟨x,j⟩:=h (i+1) z (by simpa using hd)
   exact ⟨x,by rw [show s+1+i=s+(i+1) by omega];exact j⟩
  refine ⟨x::l,by simp [hl],fun i z hd=> ?_⟩
  cases i with
  |zero=>injection hd with hd;subst hd;exact ⟨x,rfl,j⟩
  |succ i=>
   obtain ⟨y,B,q⟩:=q i z (by simpa using hd)
   exact ⟨y,by simpa using B,by rw [show s+(i+1)=s+1+i by omega];exact q⟩
theorem FW (hN: ∀b o,¬N b o) {e:ET} {tS tE:TypeId} (ht:Tryz.prog.underlying tS=some (.slice tE)) (hc:Tryz.prog.cellsOf tE=pQ e) {Q:EL e->DataW H->Prop} {n:Nat} {cs:List Value} {d:DataW H} {pl:List MemPlace}
  (J: ∀ (cs:List Value) (d:DataW H) (pl:List MemPlace),jG enc w base spare held n tE cs=some (d,pl)-> ∃x:EL e,oM o w N g e x cs/\Q x d) (h:jG enc w base spare held (n+1) tS cs=some (d,pl)):
  ∃ (v:Value) (l:List (EL e)) (ds:List (DataW H)),cs=[v]/\qF (LL o) w N g v (.sl (U:=UU) e l .none)/\l.length=ds.length/\(∀ (i:Nat) (x:EL e) (y:DataW H),l[i]? =some x->ds[i]? =some y->Q x y)/\Rows.uptoBulkAll ds+1<=Rows.uptoBulk d:=by
 rcases DataW.trod_slice ht h with ⟨rfl,z⟩|⟨a,len,cap,elems,rest,m,hm,rfl,z,hb,hl,ax,hlen,L,_,_⟩
 ·injection z with z _
  subst z
  exact ⟨_,[],[],rfl,qF.sl (X:=LL o) (N:=N) (g:=g) none 0 0 e (show List (EL e) from []) .none (fun _ _=>undef) rfl (zk _) trivial (fun j x z=>by cases z) (fun j x z=>by cases z),rfl,fun i x y h=>by simp at h,by simp [Rows.uptoBulkAll,Rows.uptoBulk]⟩
 ·obtain rfl:n=m:=by omega
  injection z with z _
  subst z
  obtain ⟨l,F,M⟩:=build (R:=fun i (y:DataW H×List MemPlace) (x:EL e)=> ∃q,w.cells? base (a.add (i*Tryz.prog.cellsOf tE)) (Tryz.prog.cellsOf tE)=some q/\oM o w N g e x q/\Q x y.1) elems 0 fun i y I=>by
   have hi:i<len:=by rw [<-hlen];exact (E8.1 I).1
   have:=L i hi
   rw [I] at this
   obtain ⟨q,h1,h2⟩:=Option.bind_eq_some_iff.1 this
   obtain ⟨x,O,T⟩:=J q y.1 y.2 h2
   exact ⟨x,q,by simpa using h1,O,T⟩
  have E: ∀ (j:Nat) (x:EL e),l[j]? =some x-> ∃ (y:DataW H×List MemPlace) (q:List Value),elems[j]? =some y/\w.cells? base (a.add (j*Tryz.prog.cellsOf tE)) (Tryz.prog.cellsOf tE)=some q/\oM o w N g e x q/\Q x y.1:=fun j x z=>by
   have hj:j<elems.length:=by rw [<-F];exact (E8.1 z).1
   obtain ⟨x',B,q,h1,h2,W⟩:=M j _ (Bw hj)
   rw [z] at B
   injection B with B
   subst B
   exact ⟨_,q,Bw hj,by simpa using h1,h2,W⟩
  have A: ∀ (j:Nat) (x:EL e),l[j]? =some x-> ∀ (k:Nat) (p:PU),(H6 e x)[k]? =some p-> ∃v,w.cell? (a.add (j*(LL o).aR e+k))=some v/\qF (LL o) w N g v p:=fun j x z k p hp=>by
   obtain ⟨y,q,_,h1,h2,_⟩:=E j x z
   obtain ⟨v,hv,Y⟩:=h2 k p hp
   obtain ⟨_,ad,ao⟩:=World.cells?_some h1
   have hk:k<Tryz.prog.cellsOf tE:=by rw [<-ad];exact (E8.1 hv).1
   have:=ao k hk
   rw [hv,Go.Deep.add_add,hc] at this
   exact ⟨v,this,Y⟩
  refine ⟨_,l,elems.map (·.1),rfl,qF.sl (X:=LL o) (some a) len cap e l .none (fun j k=>(w.cell? (a.add (j*(LL o).aR e+k))).getD undef) (by rw [<-hlen];exact F) hl trivial (fun j x z k p hp=> ?_) (fun j x z k p hp=> ?_),by simpa using F,fun i x y z I=> ?_,by simp [Rows.uptoBulk]⟩
  ·obtain ⟨v,hv,_⟩:=A j x z k p hp
   exact ⟨a,rfl,by simp [hv],hN _ _⟩
  ·obtain ⟨v,hv,Y⟩:=A j x z k p hp
   simp only [hv];exact Y
  ·obtain ⟨y',q,h1,_,_,W⟩:=E i x z
   have:y=y'.1:=by
    rw [List.getElem?_map,h1] at I
    injection I with I;exact I.symm
   subst this
   exact W
theorem NT {n:Nat} {cs:List Value} {d:DataW H} {pl:List MemPlace} (h:jG enc w base spare held n 3 cs=some (d,pl)): ∃z,cs=[.int .i64 z]/\aG z:=by
 obtain ⟨z,rfl,_,j⟩:=DataW.trod_int Tryz.underlying3 h
 refine ⟨z,rfl, ?_⟩
 simp [Lit.wf,IntKind.has] at j
 have h1:IntKind.i64.min= -9223372036854775808:=rfl
 have h2:IntKind.i64.max=9223372036854775807:=rfl
 unfold aG
 omega
theorem NU {n:Nat} {cs:List Value} {d:DataW H} {pl:List MemPlace} (h:jG enc w base spare held n 78 cs=some (d,pl)): ∃z,cs=[.int .u32 z]/\DR z:=by
 obtain ⟨z,rfl,_,j⟩:=DataW.trod_int Tryz.underlying78 h
 refine ⟨z,rfl, ?_⟩
 simp [Lit.wf,IntKind.has] at j
 have h1:IntKind.u32.min=0:=rfl
 have h2:IntKind.u32.max=4294967295:=rfl
 unfold DR
 omega
def QC (c:Cl) (d:DataW H):Prop:=aX c
def QT (t:Tm) (d:DataW H):Prop:=au t<=Rows.uptoBulk d/\(Rows.uptoBulk d<1073741824->p9 t)
def QB (b:Br Tm) (d:DataW H):Prop:=Ho b<=Rows.uptoBulk d/\(Rows.uptoBulk d<1073741824->(aq b.f/\b.f.length<1073741824/\b.c.length<1073741824)/\ ∀t∈b.c,p9 t)
theorem ahv {n:Nat} {cs:List Value} {d:DataW H} {pl:List MemPlace} (h:jG enc w base spare held n 80 cs=some (d,pl)): ∃x:EL ET.C,oM o w N g ET.C x cs/\QC (show Cl from x) d:=by
 obtain ⟨xs,m,rfl,_,hl,hlen,hf⟩:=DataW.trod_struct Tryz.underlying80 h
 have j:cs.length=2:=hl.trans (by kernel_rfl)
 match cs,j,xs,hlen with
 |[a,b],_,[E,y1],_=>
 have z:=hf 0 _ rfl
 have h1:=hf 1 _ rfl
 have q:Tryz.prog.cellsOf 78=1:=by kernel_rfl
 simp [q] at z h1
 obtain ⟨z0,A,k0⟩:=NU z
 obtain ⟨z1,B,k1⟩:=NU h1
 obtain rfl:a= .int .u32 z0:=by simpa using A
 obtain rfl:b= .int .u32 z1:=by simpa using B
 refine ⟨(⟨z0,z1⟩:Cl),fun k p hp=> ?_,⟨k0,k1⟩⟩
 match k,hp with
 |0,hp=>cases hp;exact ⟨_,rfl,.int _ _⟩
 |1,hp=>cases hp;exact ⟨_,rfl,.int _ _⟩
 |k+2,hp=>simp [H6] at hp
theorem akx {l:List Tm} {ds:List (DataW H)} (hl:l.length=ds.length) (h: ∀ (i:Nat) (x:Tm) (y:DataW H),l[i]? =some x->ds[i]? =some y->QT x y):ay l<=Rows.uptoBulkAll ds/\(Rows.uptoBulkAll ds<1073741824-> ∀t∈l,p9 t):=by
 induction l generalizing ds with
 |nil=>rw [ay];exact ⟨Nat.zero_le _,fun _ t j=>by cases j⟩
 |cons t l q=>
  cases ds with
  |nil=>cases hl
  |cons d ds=>
   obtain ⟨h1,h2⟩:=h 0 t d rfl rfl
   obtain ⟨i1,i2⟩:=q (ds:=ds) (by simpa using hl) fun i x y z A=>h (i+1) x y (by simpa using z) (by simpa using A)
   rw [ay,Rows.uptoBulkAll]
   refine ⟨by omega,fun hb u hu=> ?_⟩
   rcases BB.1 hu with rfl|hu
   ·exact h2 (by omega)
   ·exact i2 (by omega) u hu
theorem aky {l:List (Br Tm)} {ds:List (DataW H)} (hl:l.length=ds.length) (h: ∀ (i:Nat) (x:Br Tm) (y:DataW H),l[i]? =some x->ds[i]? =some y->QB x y):aI l<=Rows.uptoBulkAll ds/\(Rows.uptoBulkAll ds<1073741824->ba l):=by
 induction l generalizing ds with
 |nil=>rw [aI,ba];exact ⟨Nat.zero_le _,fun _=>trivial⟩
 |cons t l j=>
  cases ds with
  |nil=>cases hl
  |cons d ds=>
   obtain ⟨h1,h2⟩:=h 0 t d rfl rfl
   obtain ⟨i1,i2⟩:=j (ds:=ds) (by simpa using hl) fun i x y q z=>h (i+1) x y (by simpa using q) (by simpa using z)
   rw [aI,Rows.uptoBulkAll,ba,oh]
   exact ⟨by omega,fun hb=>⟨h2 (by omega),i2 (by omega)⟩⟩
theorem NS (A: ∀b o,¬N b o) {n:Nat} {cs:List Value} {d:DataW H} {pl:List MemPlace} (h:jG enc w base spare held n 23 cs=some (d,pl)):
  ∃ (v:Value) (l:List Cl),cs=[v]/\qF (LL o) w N g v (bZ l .none)/\aq l/\l.length+1<=Rows.uptoBulk d:=by
 cases n with
 |zero=>cases h
 |succ n=>
  obtain ⟨v,l,j,rfl,B,hl,E,hb⟩:=FW (e:=ET.C) (Q:=fun x d=>QC (show Cl from x) d) A Tryz.underlying23 (by kernel_rfl) (fun cs d pl h=>ahv h) h
  refine ⟨v,l,rfl,B,fun c hc=> ?_, ?_⟩
  ·obtain ⟨i,z⟩:=List.getElem?_of_mem hc
   have q:i<j.length:=by rw [<-hl];exact (E8.1 z).1
   exact E i c _ z (Bw q)
  ·have:=Dr (l:=j)
   have F: @List.length Cl l=j.length:=hl
   omega
theorem ahu (F: ∀b o,¬N b o): ∀ (n:Nat),
  (∀ (cs:List Value) (d:DataW H) (pl:List MemPlace),jG enc w base spare held n 27 cs=some (d,pl)-> ∃x:EL ET.T,oM o w N g ET.T x cs/\QT (show Tm from x) d)/\
  (∀ (cs:List Value) (d:DataW H) (pl:List MemPlace),jG enc w base spare held n 62 cs=some (d,pl)-> ∃x:EL ET.B,oM o w N g ET.B x cs/\QB (show Br Tm from x) d)/\
  (∀ (cs:List Value) (d:DataW H) (pl:List MemPlace),jG enc w base spare held n 24 cs=some (d,pl)-> ∃ (v:Value) (l:List Tm),cs=[v]/\qF (LL o) w N g v (dO l .none)/\ay l+1<=Rows.uptoBulk d/\l.length+1<=Rows.uptoBulk d/\(Rows.uptoBulk d<1073741824-> ∀t∈l,p9 t))/\
  (∀ (cs:List Value) (d:DataW H) (pl:List MemPlace),jG enc w base spare held n 25 cs=some (d,pl)-> ∃ (v:Value) (l:List (Br Tm)),cs=[v]/\qF (LL o) w N g v (dN l .none)/\aI l+1<=Rows.uptoBulk d/\l.length+1<=Rows.uptoBulk d/\(Rows.uptoBulk d<1073741824->ba l)):=by
 intro n
 induction n with
 |zero=>exact ⟨fun cs d pl h=>(by cases h),fun cs d pl h=>(by cases h),fun cs d pl h=>(by cases h),fun cs d pl h=>(by cases h)⟩
 |succ n ih=>
 obtain ⟨iT,iB,iK,iS⟩:=ih
 have c3:Tryz.prog.cellsOf 3=1:=by kernel_rfl
 have c9:Tryz.prog.cellsOf 9=1:=by kernel_rfl
 have q:Tryz.prog.cellsOf 23=1:=by kernel_rfl
 have z:Tryz.prog.cellsOf 24=1:=by kernel_rfl
 have L:Tryz.prog.cellsOf 25=1:=by kernel_rfl
 refine ⟨fun cs d pl h=> ?_,fun cs d pl h=> ?_,fun cs d pl h=> ?_,fun cs d pl h=> ?_⟩
 ·obtain ⟨xs,m,hm,j,hl,hlen,hf⟩:=DataW.trod_struct Tryz.underlying27 h
  obtain rfl:n=m:=by omega
  injection j with j _
  subst j
  have M:cs.length=6:=hl.trans (by kernel_rfl)
  match cs,M,xs,hlen with
  |[a0,a1,a2,a3,a4,a5],_,[y0,y1,y2,y3,y4,y5],_=>
  have A:=hf 0 _ rfl
  have h1:=hf 1 _ rfl
  have h2:=hf 2 _ rfl
  have h3:=hf 3 _ rfl
  have h4:=hf 4 _ rfl
  have h5:=hf 5 _ rfl
  simp [c3,c9,q,z,L] at A h1 h2 h3 h4 h5
  obtain ⟨z0,e0,k0⟩:=NT A
  obtain ⟨z1,e1,k1⟩:=NT h1
  obtain ⟨s,e2,k2,_⟩:=DataW.trod_string Tryz.underlying9 h2
  obtain ⟨v3,I,O,W,Y,m3⟩:=NS (o:=o) (g:=g) F h3
  obtain ⟨v4,J,e4,r4,k4,m4,q4⟩:=iK _ _ _ h4
  obtain ⟨v5,l5,e5,r5,k5,m5,q5⟩:=iS _ _ _ h5
  obtain rfl:a0= .int .i64 z0:=by simpa using e0
  obtain rfl:a1= .int .i64 z1:=by simpa using e1
  obtain rfl:a2= .string s:=by simpa using e2
  obtain rfl:a3=v3:=by simpa using O
  obtain rfl:a4=v4:=by simpa using e4
  obtain rfl:a5=v5:=by simpa using e5
  have hs:s.size<Rows.uptoBulk y2.1:=by
   rw [k2]
   simp [Rows.uptoBulk]
  refine ⟨Tm.mk z0 z1 s I J l5,fun k p hp=> ?_, ?_,fun hb=> ?_⟩
  ·match k,hp with
   |0,hp=>cases hp;exact ⟨_,rfl,.int _ _⟩
   |1,hp=>cases hp;exact ⟨_,rfl,.int _ _⟩
   |2,hp=>cases hp;exact ⟨_,rfl,.str _⟩
   |3,hp=>cases hp;exact ⟨_,rfl,W⟩
   |4,hp=>cases hp;exact ⟨_,rfl,r4⟩
   |5,hp=>cases hp;exact ⟨_,rfl,r5⟩
   |k+6,hp=>simp [H6] at hp
  ·show au _<=_
   rw [au]
   simp only [HW,List.map_nil,Rows.uptoBulk,Rows.uptoBulkAll]
   omega
  ·simp only [HW,List.map_nil,Rows.uptoBulk,Rows.uptoBulkAll] at hb
   show p9 _
   rw [p9,xp]
   exact ⟨⟨k0,k1,by omega,Y,by omega,by omega,by omega⟩,q4 (by omega),q5 (by omega)⟩
 ·obtain ⟨xs,m,hm,j,hl,hlen,hf⟩:=DataW.trod_struct Tryz.underlying62 h
  obtain rfl:n=m:=by omega
  injection j with j _
  subst j
  have ad:cs.length=2:=hl.trans (by kernel_rfl)
  match cs,ad,xs,hlen with
  |[a0,a1],_,[y0,y1],_=>
  have A:=hf 0 _ rfl
  have h1:=hf 1 _ rfl
  simp [q,z] at A h1
  obtain ⟨v3,I,O,W,Y,m3⟩:=NS (o:=o) (g:=g) F A
  obtain ⟨v4,J,e4,r4,k4,m4,q4⟩:=iK _ _ _ h1
  obtain rfl:a0=v3:=by simpa using O
  obtain rfl:a1=v4:=by simpa using e4
  refine ⟨Br.mk I J,fun k p hp=> ?_, ?_,fun hb=> ?_⟩
  ·match k,hp with
   |0,hp=>cases hp;exact ⟨_,rfl,W⟩
   |1,hp=>cases hp;exact ⟨_,rfl,r4⟩
   |k+2,hp=>simp [H6] at hp
  ·show Ho _<=_
   rw [Ho]
   simp only [HW,List.map_nil,Rows.uptoBulk,Rows.uptoBulkAll]
   omega
  ·simp only [HW,List.map_nil,Rows.uptoBulk,Rows.uptoBulkAll] at hb
   exact ⟨⟨Y,by show I.length<_;omega,by show J.length<_;omega⟩,q4 (by omega)⟩
 ·obtain ⟨v,l,E,rfl,hr,hl,hq,hb⟩:=FW (e:=ET.T) (Q:=fun x d=>QT (show Tm from x) d) F Tryz.underlying24 (by kernel_rfl) iT h
  obtain ⟨s1,s2⟩:=akx (l:=l) hl hq
  have:=Dr (l:=E)
  have ao: @List.length Tm l=E.length:=hl
  exact ⟨v,l,rfl,hr,by omega,by omega,fun hd=>s2 (by omega)⟩
 ·obtain ⟨v,l,E,rfl,hr,hl,hq,hb⟩:=FW (e:=ET.B) (Q:=fun x d=>QB (show Br Tm from x) d) F Tryz.underlying25 (by kernel_rfl) iB h
  obtain ⟨s1,s2⟩:=aky (l:=l) hl hq
  have:=Dr (l:=E)
  have ao: @List.length (Br Tm) l=E.length:=hl
  exact ⟨v,l,rfl,hr,by omega,by omega,fun hd=>s2 (by omega)⟩
end
end
end Go.Proofs.YtgmmefmmnakbpaaGreatDoor
