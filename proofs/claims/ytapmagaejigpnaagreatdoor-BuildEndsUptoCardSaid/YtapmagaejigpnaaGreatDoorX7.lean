/- Part 7 of a proof: the sources, with their names and remarks, lie in wip/. -/
import Derived.Test.YtapmagaejigpnaaGreatDoorX6
namespace Go.Proofs.YtapmagaejigpnaaGreatDoor
open Go PI
set_option linter.unusedVariables false
set_option maxRecDepth 100000
noncomputable section
def C8 {S:Type} (k:Nat):Rw S:=af uS Gp fun f depth c0 c1 κ=>aa k (pG k f depth c0 c1) (PO c0 c1 κ)
def HW {S:Type} (k:Nat):Fx S:=fp 38 [(38,rR k),(57,ly k),(103,nS k),(104,vX k),(105,C7 k)] [] k Tryz.f102 3
theorem Li {S:Type} (o:Obj) (ho:ae o) (k:Nat):Tl o 102 (C8 k:Rw S):=ah (HW k) ⟨um o ho k,m7 o ho k,qm o ho k,zl o ho k,Lh o ho k,trivial⟩ Tryz.func102 (by kernel_rfl) fun f depth c0 c1 κ x h=>Eq.trans (by kernel_rfl) (aj h)
def C9 {S:Type} (k:Nat):Rw S:=af uT yb fun t depth c0 c1 κ=>aa k (pH k t depth c0 c1) (PP c0 c1 κ)
def HX {S:Type} (k:Nat):Fx S:=fp 27 [(102,jW (m_ uS Gp) (C8 k) (wd k))] [] k Tryz.f107 4
theorem Lj {S:Type} (o:Obj) (ho:ae o) (k:Nat):Tl o 107 (C9 k:Rw S):=ah (HX k) ⟨nJ (Li o ho k) (zt o ho k),trivial⟩ Tryz.func107 (by kernel_rfl) fun t depth c0 c1 κ x h=>Eq.trans (by kernel_rfl) (aj h)
def we {S:Type} (k:Nat):Rw S:=af Al S6 fun i c0 κ=>aa k (mK k i c0) (PQ c0 κ)
def HY {S:Type} (k:Nat):Fx S:=fp 14 [(110,lv k)] [] k Tryz.f109 1
theorem zu {S:Type} (o:Obj) (ho:ae o) (k:Nat):Tl o 109 (we k:Rw S):=ah (HY k) ⟨m0 o ho k,trivial⟩ Tryz.func109 (by kernel_rfl) fun i c0 κ x h=>Eq.trans (by kernel_rfl) (aj h)
def wg {S:Type} (k:Nat):Rw S:=af Al eH fun p c0 κ=>aa k (mL k p c0) (PR c0 κ)
def HZ {S:Type} (k:Nat):Fx S:=fp 5 [] [] k Tryz.f111 1
theorem zw {S:Type} (o:Obj) (ho:ae o) (k:Nat):Tl o 111 (wg k:Rw S):=ah (HZ k) trivial Tryz.func111 (by kernel_rfl) fun p c0 κ x h=>Eq.trans (by kernel_rfl) (aj h)
def lz {S:Type} (hd:b9 S):Rw S:=af uT yb fun t depth c0 c1 κ=>hd t depth c0 c1 (rF c0 c1 κ)
def C_ {S:Type} (hd:b9 S) (k:Nat):Rw S:=af Am Gq fun l depth c0 c1 c4 κ=>aa k (tV hd k l depth c0 c1 c4) (rG c0 c1 c4 κ)
def tq {S:Type} (hd:b9 S) (k:Nat):Fx S:=fp 42 [(59,lz hd),(111,wg k)] [(3,⟨[(2,.none),(3,.none),(4,.none),(10,some (100010,true)),(15,.none),(16,.none),(17,.none)],[(4,[.none,.none]),(1000000,[.none]),(1000001,[.none]),(1000002,[.none]),(1000003,[.none]),(1000004,[.none])]⟩,aE 5 11)] k Tryz.f108 5
def Bk (c0:Int) (c1:List Cl) (c4:Int) (l:List Tm) (depth:Int) (out10:List Tm) (v17:Int):St UU:=⟨[(2,(iI depth)),(3,(.func 111 [] [(pt 1000004)])),(4,(pt 4)),(10,(.own 100010 0)),(15,(sT l)),(16,(.int .i64 (l.length:Int))),(17,(iI v17))],[(4,.cells [(.func 102 [] [(pt 1000000),(pt 1000001),(pt 1000002)]),(.func 102 [] [(pt 1000000),(pt 1000001),(pt 1000003)])]),(1000000,bI c0),(1000001,.cells [(sC c1)]),(1000002,.cells [(.func 105 [] [])]),(1000003,.cells [(.func 106 [] [])]),(1000004,bI c4)],[(100010,⟨0,ET.T,out10⟩)],[(100010,.wr)]⟩
section
variable {S:Type} (hd:b9 S) (k:Nat) (l:List Tm) (depth c0:Int) (c1:List Cl) (c4:Int) (κ:Out UU→Option S)
theorem I2: ∀n out10 v17,(tq hd k).lp κ 3 [] n (Bk c0 c1 c4 l depth out10 v17)=iD hd k (rG c0 c1 c4 κ) c0 c1 c4 l depth n out10 v17:=bL (oJ hd k (rG c0 c1 c4 κ) c0 c1 c4 l depth) rfl (fun _=>rfl) fun r out10 v17=>by kernel_rfl
end
theorem Lk {S:Type} (o:Obj) (ho:ae o) (hd:b9 S) (Hd:Tl o 59 (lz hd)) (k:Nat):Tl o 108 (C_ hd k:Rw S):=ah (tq hd k) ⟨Hd,zw o ho k,trivial⟩ Tryz.func108 (by kernel_rfl) fun l depth c0 c1 c4 κ x h=>Eq.trans (b:=w5 hd k (rG c0 c1 c4 κ) (fun out10 v17=>(tq hd k).lp κ 3 [] k (Bk c0 c1 c4 l depth out10 v17)) l depth c0 c1 c4) (by kernel_rfl) (Eq.trans (by simp only [I2];rfl) (aj h))
def Da {S:Type} (hd:b9 S) (k:Nat):Rw S:=af MJ S7 fun l depth c0 c1 c4 κ=>aa k (tW hd k l depth c0 c1 c4) (rH c0 c1 c4 κ)
def tr {S:Type} (hd:b9 S) (k:Nat):Fx S:=fp 42 [(59,lz hd),(109,we k)] [(3,⟨[(2,.none),(3,.none),(4,.none),(10,some (100010,true)),(15,.none),(16,.none),(17,.none)],[(4,[.none,.none]),(1000000,[.none]),(1000001,[.none]),(1000002,[.none]),(1000003,[.none]),(1000004,[.none,.none,.none,.none,.none,.none])]⟩,aE 5 11)] k Tryz.f108 5
def Bm (c0:Int) (c1:List Cl) (c4:Tm) (l:List Tm) (depth:Int) (out10:List Tm) (v17:Int):St UU:=⟨[(2,(iI depth)),(3,(.func 109 [] [(pt 1000004)])),(4,(pt 4)),(10,(.own 100010 0)),(15,(sT l)),(16,(.int .i64 (l.length:Int))),(17,(iI v17))],[(4,.cells [(.func 102 [] [(pt 1000000),(pt 1000001),(pt 1000002)]),(.func 102 [] [(pt 1000000),(pt 1000001),(pt 1000003)])]),(1000000,bI c0),(1000001,.cells [(sC c1)]),(1000002,.cells [(.func 105 [] [])]),(1000003,.cells [(.func 106 [] [])]),(1000004,bT c4)],[(100010,⟨0,ET.T,out10⟩)],[(100010,.wr)]⟩
section
variable {S:Type} (hd:b9 S) (k:Nat) (l:List Tm) (depth c0:Int) (c1:List Cl) (c4:Tm) (κ:Out UU→Option S)
theorem I3: ∀n out10 v17,(tr hd k).lp κ 3 [] n (Bm c0 c1 c4 l depth out10 v17)=iE hd k (rH c0 c1 c4 κ) c0 c1 c4 l depth n out10 v17:=bL (oK hd k (rH c0 c1 c4 κ) c0 c1 c4 l depth) rfl (fun _=>rfl) fun r out10 v17=>by kernel_rfl
end
theorem Ll {S:Type} (o:Obj) (ho:ae o) (hd:b9 S) (Hd:Tl o 59 (lz hd)) (k:Nat):Tl o 108 (Da hd k:Rw S):=ah (tr hd k) ⟨Hd,zu o ho k,trivial⟩ Tryz.func108 (by kernel_rfl) fun l depth c0 c1 c4 κ x h=>Eq.trans (b:=w6 hd k (rH c0 c1 c4 κ) (fun out10 v17=>(tr hd k).lp κ 3 [] k (Bm c0 c1 c4 l depth out10 v17)) l depth c0 c1 c4) (by kernel_rfl) (Eq.trans (by simp only [I3];rfl) (aj h))
def tp {S:Type} (hd:b9 S) (k:Nat):Fx S:=fp 98 [(102,wd k),(107,C9 k),(108,jW (m_ Am Gq) (C_ hd k) (Da hd k))] [(13,⟨[(2,.none),(3,.none),(6,.none),(8,.none),(10,.none),(53,.none),(54,.none),(55,.none)],[(3,[.none,.none]),(6,[.none,.none,.none,some (200387,true),some (200388,true),some (200389,true)]),(8,[.none,.none,.none,.none,.none,some (200517,true)]),(10,[.none]),(1000000,[.none]),(1000001,[.none]),(1000002,[.none]),(1000003,[.none])]⟩,aE 11 767)] k Tryz.f59 4
def Bj (c0:Int) (c1:List Cl) (t:Tm) (r1:List Cl×Int) (r2:List Tm×Int) (depth:Int) (b10_0:Int) (b8_5:List (Br Tm)) (v55:Int):St UU:=⟨[(2,(iI depth)),(3,(pt 3)),(6,(pt 6)),(8,(pt 8)),(10,(pt 10)),(53,(sB t.sys)),(54,(.int .i64 (t.sys.length:Int))),(55,(iI v55))],[(3,.cells [(.func 102 [] [(pt 1000000),(pt 1000001),(pt 1000002)]),(.func 102 [] [(pt 1000000),(pt 1000001),(pt 1000003)])]),(6,.cells [(iI 0),(iI 0),(.str ByteArray.empty),(.own 200387 0),(.own 200388 0),(.own 200389 0)]),(8,.cells [(iI t.kind),(iI t.n),(.str t.name),(sC r1.1),(sT r2.1),(.own 200517 0)]),(10,bI b10_0),(1000000,bI c0),(1000001,.cells [(sC c1)]),(1000002,.cells [(.func 105 [] [])]),(1000003,.cells [(.func 106 [] [])])],[(200517,⟨0,ET.B,b8_5⟩),(200389,⟨0,ET.B,([]:List (Br Tm))⟩),(200388,⟨0,ET.T,([]:List Tm)⟩),(200387,⟨0,ET.C,([]:List Cl)⟩)],[(200517,.wr),(200389,.wr),(200388,.wr),(200387,.wr)]⟩
section
variable {S:Type} (hd:b9 S) (k:Nat) (t:Tm) (depth c0:Int) (c1:List Cl) (κ:Out UU→Option S)
theorem I1 (r1 r2): ∀n b10_0 b8_5 v55,(tp hd k).lp κ 13 [] n (Bj c0 c1 t r1 r2 depth b10_0 b8_5 v55)=eh hd k (rF c0 c1 κ) c0 c1 t r1 r2 depth n b10_0 b8_5 v55:=lg (oL hd k (rF c0 c1 κ) c0 c1 t r1 r2 depth) rfl (fun _=>rfl) fun r b10_0 b8_5 v55=>by kernel_rfl
end
theorem uG {S:Type} (o:Obj) (ho:ae o): ∀k:Nat,Tl o 59 (lz (cX k:b9 S))
 |0=>gZ fun t depth c0 c1 κ x h=>by cases h
 |k+1=>ah (tp (cX k) k) ⟨zt o ho k,Lj o ho k,nJ (Lk o ho (cX k) (uG o ho k) k) (Ll o ho (cX k) (uG o ho k) k),trivial⟩ Tryz.func59 (by kernel_rfl) fun t depth c0 c1 κ x h=>Eq.trans (b:=w9 (cX k) k (rF c0 c1 κ) (fun r1 r2 b10_0 b8_5 v55=>(tp (cX k) k).lp κ 13 [] k (Bj c0 c1 t r1 r2 depth b10_0 b8_5 v55)) t depth c0 c1) (by kernel_rfl) (Eq.trans (by simp only [I1];rfl) h)
def Db {S:Type} (k:Nat):Rw S:=af gM xn fun i κ=>aa k (tO k i) (PS κ)
def H0 {S:Type} (k:Nat):Fx S:=fp 8 [] [] k Tryz.f60 0
theorem Lm {S:Type} (o:Obj) (ho:ae o) (k:Nat):Tl o 60 (Db k:Rw S):=ah (H0 k) trivial Tryz.func60 (by kernel_rfl) fun i κ x h=>Eq.trans (by kernel_rfl) (aj h)
def Dc {S:Type} (k:Nat):Rw S:=af qO xn fun s i κ=>aa k (kr k s i) (iV κ)
def H1 {S:Type} (k:Nat):Fx S:=fp 24 [(130,nO k),(163,vU k)] [] k Tryz.f113 0
theorem Ln {S:Type} (o:Obj) (ho:ae o) (k:Nat):Tl o 113 (Dc k:Rw S):=ah (H1 k) ⟨qj o ho k,zi o ho k,trivial⟩ Tryz.func113 (by kernel_rfl) fun s i κ x h=>Eq.trans (by kernel_rfl) (aj h)
def vI {S:Type} (k:Nat):Rw S:=af MK eH fun f depth c0 κ=>aa k (kl k f depth c0) (nN c0 κ)
def sR {S:Type} (k:Nat):Fx S:=fp 37 [(100,ga k),(113,Dc k)] [(3,⟨[(1,.none),(2,.none),(7,some (100007,true)),(10,.none),(11,.none),(12,.none)],[(1000000,[.none])]⟩,aE 5 11)] k Tryz.f112 1
def AI (c0 depth:Int) (f:List Cl) (v12:Int) (out7:List Cl):St UU:=⟨[(1,(iI depth)),(2,(pt 1000000)),(7,(.own 100007 0)),(10,(sC f)),(11,(.int .i64 (f.length:Int))),(12,(iI v12))],[(1000000,bI c0)],[(100007,⟨0,ET.C,out7⟩)],[(100007,.wr)]⟩
section
variable {S:Type} (k:Nat) (f:List Cl) (depth c0:Int) (κ:Out UU→Option S)
theorem H_: ∀n v12 out7,(sR k).lp κ 3 [] n (AI c0 depth f v12 out7)=kJ k (nN c0 κ) c0 depth f n v12 out7:=bL (oG k (nN c0 κ) c0 depth f) rfl (fun _=>rfl) fun r v12 out7=>by kernel_rfl
end
theorem y8 {S:Type} (o:Obj) (ho:ae o) (k:Nat):Tl o 112 (vI k:Rw S):=ah (sR k) ⟨gF o ho k,Ln o ho k,trivial⟩ Tryz.func112 (by kernel_rfl) fun f depth c0 κ x h=>Eq.trans (b:=wW k (nN c0 κ) (fun v12 out7=>(sR k).lp κ 3 [] k (AI c0 depth f v12 out7)) f depth c0) (by kernel_rfl) (Eq.trans (by simp only [H_];rfl) (aj h))
def BX {S:Type} (k:Nat):Rw S:=af An eH fun t depth c0 κ=>aa k (pI k t depth c0) (nN c0 κ)
def GA {S:Type} (k:Nat):Fx S:=fp 27 [(112,vI k)] [] k Tryz.f107 1
theorem J9 {S:Type} (o:Obj) (ho:ae o) (k:Nat):Tl o 107 (BX k:Rw S):=ah (GA k) ⟨y8 o ho k,trivial⟩ Tryz.func107 (by kernel_rfl) fun t depth c0 κ x h=>Eq.trans (by kernel_rfl) (aj h)
def ls {S:Type} (hd:b_ S):Rw S:=af An eH fun t depth c0 κ=>hd t depth c0 (rI c0 κ)
def BY {S:Type} (hd:b_ S) (k:Nat):Rw S:=af Ao sN fun l depth c0 c1 κ=>aa k (tT hd k l depth c0 c1) (rJ c0 c1 κ)
def sU {S:Type} (hd:b_ S) (k:Nat):Fx S:=fp 42 [(59,ls hd),(111,wg k)] [(3,⟨[(2,.none),(3,.none),(4,.none),(10,some (100010,true)),(15,.none),(16,.none),(17,.none)],[(4,[.none,.none]),(1000000,[.none]),(1000001,[.none])]⟩,aE 5 11)] k Tryz.f108 2
def AK (c0 c1:Int) (l:List Tm) (depth:Int) (out10:List Tm) (v17:Int):St UU:=⟨[(2,(iI depth)),(3,(.func 111 [] [(pt 1000001)])),(4,(pt 4)),(10,(.own 100010 0)),(15,(sT l)),(16,(.int .i64 (l.length:Int))),(17,(iI v17))],[(4,.cells [(.func 112 [] [(pt 1000000)]),(.func 112 [] [(pt 1000000)])]),(1000000,bI c0),(1000001,bI c1)],[(100010,⟨0,ET.T,out10⟩)],[(100010,.wr)]⟩
section
variable {S:Type} (hd:b_ S) (k:Nat) (l:List Tm) (depth c0 c1:Int) (κ:Out UU→Option S)
theorem Ib: ∀n out10 v17,(sU hd k).lp κ 3 [] n (AK c0 c1 l depth out10 v17)=iA hd k (rJ c0 c1 κ) c0 c1 l depth n out10 v17:=bL (oH hd k (rJ c0 c1 κ) c0 c1 l depth) rfl (fun _=>rfl) fun r out10 v17=>by kernel_rfl
end
theorem J_ {S:Type} (o:Obj) (ho:ae o) (hd:b_ S) (Hd:Tl o 59 (ls hd)) (k:Nat):Tl o 108 (BY hd k:Rw S):=ah (sU hd k) ⟨Hd,zw o ho k,trivial⟩ Tryz.func108 (by kernel_rfl) fun l depth c0 c1 κ x h=>Eq.trans (b:=wY hd k (rJ c0 c1 κ) (fun out10 v17=>(sU hd k).lp κ 3 [] k (AK c0 c1 l depth out10 v17)) l depth c0 c1) (by kernel_rfl) (Eq.trans (by simp only [Ib];rfl) (aj h))
def BZ {S:Type} (hd:b_ S) (k:Nat):Rw S:=af ML S8 fun l depth c0 c1 κ=>aa k (tU hd k l depth c0 c1) (rK c0 c1 κ)
def sV {S:Type} (hd:b_ S) (k:Nat):Fx S:=fp 42 [(59,ls hd),(109,we k)] [(3,⟨[(2,.none),(3,.none),(4,.none),(10,some (100010,true)),(15,.none),(16,.none),(17,.none)],[(4,[.none,.none]),(1000000,[.none]),(1000001,[.none,.none,.none,.none,.none,.none])]⟩,aE 5 11)] k Tryz.f108 2
def AL (c0:Int) (c1:Tm) (l:List Tm) (depth:Int) (out10:List Tm) (v17:Int):St UU:=⟨[(2,(iI depth)),(3,(.func 109 [] [(pt 1000001)])),(4,(pt 4)),(10,(.own 100010 0)),(15,(sT l)),(16,(.int .i64 (l.length:Int))),(17,(iI v17))],[(4,.cells [(.func 112 [] [(pt 1000000)]),(.func 112 [] [(pt 1000000)])]),(1000000,bI c0),(1000001,bT c1)],[(100010,⟨0,ET.T,out10⟩)],[(100010,.wr)]⟩
section
variable {S:Type} (hd:b_ S) (k:Nat) (l:List Tm) (depth c0:Int) (c1:Tm) (κ:Out UU→Option S)
theorem Ic: ∀n out10 v17,(sV hd k).lp κ 3 [] n (AL c0 c1 l depth out10 v17)=iC hd k (rK c0 c1 κ) c0 c1 l depth n out10 v17:=bL (oI hd k (rK c0 c1 κ) c0 c1 l depth) rfl (fun _=>rfl) fun r out10 v17=>by kernel_rfl
end
theorem Ka {S:Type} (o:Obj) (ho:ae o) (hd:b_ S) (Hd:Tl o 59 (ls hd)) (k:Nat):Tl o 108 (BZ hd k:Rw S):=ah (sV hd k) ⟨Hd,zu o ho k,trivial⟩ Tryz.func108 (by kernel_rfl) fun l depth c0 c1 κ x h=>Eq.trans (b:=wZ hd k (rK c0 c1 κ) (fun out10 v17=>(sV hd k).lp κ 3 [] k (AL c0 c1 l depth out10 v17)) l depth c0 c1) (by kernel_rfl) (Eq.trans (by simp only [Ic];rfl) (aj h))
def sS {S:Type} (hd:b_ S) (k:Nat):Fx S:=fp 98 [(107,BX k),(108,jW (m_ Ao sN) (BY hd k) (BZ hd k)),(112,vI k)] [(13,⟨[(2,.none),(3,.none),(6,.none),(8,.none),(10,.none),(53,.none),(54,.none),(55,.none)],[(3,[.none,.none]),(6,[.none,.none,.none,some (200387,true),some (200388,true),some (200389,true)]),(8,[.none,.none,.none,.none,.none,some (200517,true)]),(10,[.none]),(1000000,[.none])]⟩,aE 11 767)] k Tryz.f59 1
def AJ (c0:Int) (t:Tm) (r1:List Cl×Int) (r2:List Tm×Int) (depth:Int) (b10_0:Int) (b8_5:List (Br Tm)) (v55:Int):St UU:=⟨[(2,(iI depth)),(3,(pt 3)),(6,(pt 6)),(8,(pt 8)),(10,(pt 10)),(53,(sB t.sys)),(54,(.int .i64 (t.sys.length:Int))),(55,(iI v55))],[(3,.cells [(.func 112 [] [(pt 1000000)]),(.func 112 [] [(pt 1000000)])]),(6,.cells [(iI 0),(iI 0),(.str ByteArray.empty),(.own 200387 0),(.own 200388 0),(.own 200389 0)]),(8,.cells [(iI t.kind),(iI t.n),(.str t.name),(sC r1.1),(sT r2.1),(.own 200517 0)]),(10,bI b10_0),(1000000,bI c0)],[(200517,⟨0,ET.B,b8_5⟩),(200389,⟨0,ET.B,([]:List (Br Tm))⟩),(200388,⟨0,ET.T,([]:List Tm)⟩),(200387,⟨0,ET.C,([]:List Cl)⟩)],[(200517,.wr),(200389,.wr),(200388,.wr),(200387,.wr)]⟩
section
variable {S:Type} (hd:b_ S) (k:Nat) (t:Tm) (depth c0:Int) (κ:Out UU→Option S)
theorem Ia (r1 r2): ∀n b10_0 b8_5 v55,(sS hd k).lp κ 13 [] n (AJ c0 t r1 r2 depth b10_0 b8_5 v55)=ei hd k (rI c0 κ) c0 t r1 r2 depth n b10_0 b8_5 v55:=lg (oM hd k (rI c0 κ) c0 t r1 r2 depth) rfl (fun _=>rfl) fun r b10_0 b8_5 v55=>by kernel_rfl
end
theorem uD {S:Type} (o:Obj) (ho:ae o): ∀k:Nat,Tl o 59 (ls (cR k:b_ S))
 |0=>gZ fun t depth c0 κ x h=>by cases h
 |k+1=>ah (sS (cR k) k) ⟨J9 o ho k,nJ (J_ o ho (cR k) (uD o ho k) k) (Ka o ho (cR k) (uD o ho k) k),y8 o ho k,trivial⟩ Tryz.func59 (by kernel_rfl) fun t depth c0 κ x h=>Eq.trans (b:=w_ (cR k) k (rI c0 κ) (fun r1 r2 b10_0 b8_5 v55=>(sS (cR k) k).lp κ 13 [] k (AJ c0 t r1 r2 depth b10_0 b8_5 v55)) t depth c0) (by kernel_rfl) (Eq.trans (by simp only [Ia];rfl) h)
def vJ {S:Type} (k:Nat):Rw S:=af Ai xn fun t i a_r κ=>aa k (hX k t i a_r) (f_ κ)
def GB {S:Type} (k:Nat):Fx S:=fp 48 [(56,CL k),(57,ly k),(58,CO k),(59,jW (m_ uT yb) (lz (cX k)) (ls (cR k))),(60,Db k)] [] k Tryz.f19 0
theorem y9 {S:Type} (o:Obj) (ho:ae o) (k:Nat):Tl o 19 (vJ k:Rw S):=ah (GB k) ⟨KV o ho k,m7 o ho k,KY o ho k,nJ (uG o ho k) (uD o ho k),Lm o ho k,trivial⟩ Tryz.func19 (by kernel_rfl) fun t i a_r κ x h=>Eq.trans (by kernel_rfl) (aj h)
def vK {S:Type} (k:Nat):Rw S:=af MM eH fun line a_r c0 κ=>aa k (gz k line a_r c0) (BT κ)
def GC {S:Type} (k:Nat):Fx S:=fp 44 [(19,vJ k),(52,jZ k),(85,iW k),(93,CI k)] [] k Tryz.f54 1
theorem y_ {S:Type} (o:Obj) (ho:ae o) (k:Nat):Tl o 54 (vK k:Rw S):=ah (GC k) ⟨y9 o ho k,kA o ho k,jy o ho k,KS o ho k,trivial⟩ Tryz.func54 (by kernel_rfl) fun line a_r c0 κ x h=>Eq.trans (by kernel_rfl) (aj h)
def B0 {S:Type} (k:Nat):Rw S:=af Ah Gs fun c0 c1 c2 κ=>aa k (p4 k c0 c1 c2) (PT c0 c1 c2 κ)
def GD {S:Type} (k:Nat):Fx S:=fp 11 [(141,rU (cH k))] [] k Tryz.f140 3
theorem Kb {S:Type} (o:Obj) (ho:ae o) (k:Nat):Tl o 140 (B0 k:Rw S):=ah (GD k) ⟨uF o ho k,trivial⟩ Tryz.func140 (by kernel_rfl) fun c0 c1 c2 κ x h=>Eq.trans (by kernel_rfl) (aj h)
def B1 {S:Type} (k:Nat):Rw S:=af MN Gs fun t numbers c0 c1 c2 κ=>aa k (ua k t numbers c0 c1 c2) (rL c0 c1 c2 κ)
def sW {S:Type} (k:Nat):Fx S:=⟨⟨30,(fun _=>[]),(fun _=>false),.none,fun|6=>true|7=>true|_=>false⟩,[(91,lx k),(140,B0 k)],[(5,⟨[(2,.none),(6,.none),(7,.none),(17,.none),(18,.none),(19,.none)],[(1000000,[.none]),(1000001,[.none]),(1000002,[.none,.none,.none,.none,.none,.none]),(5000006,[.none,.none,.none,some (320200387,true),some (320200388,true),some (320200389,true)]),(5000007,[.none])]⟩,aE 5 11)],k,Tryz.f139,false,[],3,some (po 16 189 Tryz.f189 k)⟩
def AM (c0 c1:Int) (c2:Tm) (numbers:List Int) (v19:Int):St UU:=⟨[(2,(.func 140 [] [(pt 1000000),(pt 1000001),(pt 1000002)])),(6,(pt 5000006)),(7,(pt 5000007)),(17,(j5 numbers .none)),(18,(.int .i64 (numbers.length:Int))),(19,(iI v19))],[(1000000,bI c0),(1000001,bI c1),(1000002,bT c2),(5000006,.cells [(iI 0),(iI 0),(.str ByteArray.empty),(.own 320200387 0),(.own 320200388 0),(.own 320200389 0)]),(5000007,bI 0)],[(320200389,⟨0,ET.B,([]:List (Br Tm))⟩),(320200388,⟨0,ET.T,([]:List Tm)⟩),(320200387,⟨0,ET.C,([]:List Cl)⟩)],[(320200389,.wr),(320200388,.wr),(320200387,.wr)]⟩
section
variable {S:Type} (k:Nat) (t:Tm) (numbers:List Int) (c0 c1:Int) (c2:Tm) (κ:Out UU→Option S)
theorem Id: ∀n v19,(sW k).lp κ 5 [] n (AM c0 c1 c2 numbers v19)=jK k (rL c0 c1 c2 κ) c0 c1 c2 numbers n v19:=cL (o9 k (rL c0 c1 c2 κ) c0 c1 c2 numbers) rfl (fun _=>rfl) fun r v19=>by kernel_rfl
end
theorem Kc {S:Type} (o:Obj) (ho:ae o) (k:Nat):Tl o 139 (B1 k:Rw S):=FO (sW k) rfl (yA o Tryz.func189 (by kernel_rfl)) ⟨m6 o ho k,Kb o ho k,trivial⟩ Tryz.func139 (by kernel_rfl) fun t numbers c0 c1 c2 κ x h=>Eq.trans (b:=xw k (rL c0 c1 c2 κ) (fun v19=>(sW k).lp κ 5 [] k (AM c0 c1 c2 numbers v19)) t numbers c0 c1 c2) (by kernel_rfl) (Eq.trans (by simp only [Id];rfl) (aj h))
def B2 {S:Type} (k:Nat):Rw S:=af qP xn fun t vars dims κ=>aa k (p3 k t vars dims) (f_ κ)
def GE {S:Type} (k:Nat):Fx S:=fp 18 [(139,B1 k)] [] k Tryz.f92 0
theorem Kd {S:Type} (o:Obj) (ho:ae o) (k:Nat):Tl o 92 (B2 k:Rw S):=ah (GE k) ⟨Kc o ho k,trivial⟩ Tryz.func92 (by kernel_rfl) fun t vars dims κ x h=>Eq.trans (by kernel_rfl) (aj h)
def vL {S:Type} (k:Nat):Rw S:=af MO eH fun t vars dims c0 κ=>aa k (dN k t vars dims c0) (BT κ)
def GG {S:Type} (k:Nat):Fx S:=fp 30 [(52,jZ k),(85,iW k),(92,B2 k)] [] k Tryz.f51 1
theorem za {S:Type} (o:Obj) (ho:ae o) (k:Nat):Tl o 51 (vL k:Rw S):=ah (GG k) ⟨kA o ho k,jy o ho k,Kd o ho k,trivial⟩ Tryz.func51 (by kernel_rfl) fun t vars dims c0 κ x h=>Eq.trans (by kernel_rfl) (aj h)
def lu {S:Type} (k:Nat):Rw S:=af MP xn fun kind kids κ=>aa k (bN k kind kids) (BU κ)
def GH {S:Type} (k:Nat):Fx S:=fx 8 (fun _=>[]) (fun _=>false) [] [] k Tryz.f50 true [] 0
theorem mZ {S:Type} (o:Obj) (ho:ae o) (k:Nat):Tl o 50 (lu k:Rw S):=ah (GH k) trivial Tryz.func50 (by kernel_rfl) fun kind kids κ x h=>Eq.trans (by kernel_rfl) (aj h)
def vM {S:Type} (k:Nat):Rw S:=af MS eH fun t c0 κ=>aa k (eK k t c0) (PX κ)
def GI {S:Type} (k:Nat):Fx S:=fp 28 [(52,jZ k),(85,iW k),(91,lx k)] [] k Tryz.f55 1
theorem zb {S:Type} (o:Obj) (ho:ae o) (k:Nat):Tl o 55 (vM k:Rw S):=ah (GI k) ⟨kA o ho k,jy o ho k,m6 o ho k,trivial⟩ Tryz.func55 (by kernel_rfl) fun t c0 κ x h=>Eq.trans (by kernel_rfl) (aj h)
def vN {S:Type} (k:Nat):Rw S:=af MT xn fun line phi a a_end a_r κ=>aa k (mE k line phi a a_end a_r) (f_ κ)
def GJ {S:Type} (k:Nat):Fx S:=fp 49 [(48,vT k),(50,lu k),(51,vL k),(53,vV k),(54,vK k),(55,vM k),(84,nQ k),(85,iW k),(86,CE k)] [] k Tryz.f41 0
theorem zc {S:Type} (o:Obj) (ho:ae o) (k:Nat):Tl o 41 (vN k:Rw S):=ah (GJ k) ⟨zh o ho k,mZ o ho k,za o ho k,zj o ho k,y_ o ho k,zb o ho k,qk o ho k,jy o ho k,KO o ho k,trivial⟩ Tryz.func41 (by kernel_rfl) fun line phi a a_end a_r κ x h=>Eq.trans (by kernel_rfl) (aj h)
def vO {S:Type} (k:Nat):Rw S:=af uU xn fun line phi a κ=>aa k (mD k line phi a) (f_ κ)
def GK {S:Type} (k:Nat):Fx S:=fp 17 [(41,vN k)] [] k Tryz.f11 0
theorem zd {S:Type} (o:Obj) (ho:ae o) (k:Nat):Tl o 11 (vO k:Rw S):=ah (GK k) ⟨zc o ho k,trivial⟩ Tryz.func11 (by kernel_rfl) fun line phi a κ x h=>Eq.trans (by kernel_rfl) (aj h)
def B4 {S:Type} (k:Nat):Rw S:=af Ap xn fun sys κ=>aa k (yP k sys) (PY κ)
def GL {S:Type} (k:Nat):Fx S:=fx 8 (fun _=>[]) (fun _=>false) [(50,lu k)] [] k Tryz.f49 true [] 0
theorem Kf {S:Type} (o:Obj) (ho:ae o) (k:Nat):Tl o 49 (B4 k:Rw S):=ah (GL k) ⟨mZ o ho k,trivial⟩ Tryz.func49 (by kernel_rfl) fun sys κ x h=>Eq.trans (by kernel_rfl) (aj h)
def B5 {S:Type} (k:Nat):Rw S:=af Ab xn fun t a sys κ=>aa k (yN k t a sys) (f_ κ)
def sX {S:Type} (k:Nat):Fx S:=fp 76 [(48,vT k),(49,B4 k),(50,lu k),(51,vL k),(52,jZ k),(53,vV k),(54,vK k),(55,vM k)] [(4,⟨[(4,.none),(6,.none),(8,.none),(9,.none),(27,.none),(28,.none),(29,.none)],[(4,[.none,.none,.none,.none,.none,.none]),(6,[.none,.none,.none,some (200387,true),some (200388,true),some (200389,true)]),(9,[.none,.none,.none,some (200579,true),.none,some (200581,true)]),(19000,[.none])]⟩,aE 6 23)] k Tryz.f18 0
def AN (a:Tm) (r5:Int×Int×ByteArray×List Tm) (sys:List (Br Tm)) (b19000_0:Int) (b9_5:List (Br Tm)) (v29:Int):St UU:=⟨[(4,(pt 4)),(6,(pt 6)),(8,(pt 19000)),(9,(pt 9)),(27,(sB sys)),(28,(.int .i64 (sys.length:Int))),(29,(iI v29))],[(4,bT a),(6,.cells [(iI 0),(iI 0),(.str ByteArray.empty),(.own 200387 0),(.own 200388 0),(.own 200389 0)]),(9,.cells [(iI r5.1),(iI r5.2.1),(.str r5.2.2.1),(.own 200579 0),(sT r5.2.2.2),(.own 200581 0)]),(19000,bI b19000_0)],[(200581,⟨0,ET.B,b9_5⟩),(200579,⟨0,ET.C,([]:List Cl)⟩),(200389,⟨0,ET.B,([]:List (Br Tm))⟩),(200388,⟨0,ET.T,([]:List Tm)⟩),(200387,⟨0,ET.C,([]:List Cl)⟩)],[(200581,.wr),(200579,.wr),(200389,.wr),(200388,.wr),(200387,.wr)]⟩
section
variable {S:Type} (k:Nat) (t a:Tm) (sys:List (Br Tm)) (κ:Out UU→Option S)
theorem Ie (r5): ∀n b19000_0 b9_5 v29,(sX k).lp κ 4 [] n (AN a r5 sys b19000_0 b9_5 v29)=uW k (f_ κ) a r5 sys n b19000_0 b9_5 v29:=lg (yn k (f_ κ) a r5 sys) rfl (fun _=>rfl) fun r b19000_0 b9_5 v29=>by kernel_rfl
end
theorem Kg {S:Type} (o:Obj) (ho:ae o) (k:Nat):Tl o 18 (B5 k:Rw S):=ah (sX k) ⟨zh o ho k,Kf o ho k,mZ o ho k,za o ho k,kA o ho k,zj o ho k,y_ o ho k,zb o ho k,trivial⟩ Tryz.func18 (by kernel_rfl) fun t a sys κ x h=>Eq.trans (b:=Ey k (f_ κ) (fun r5 b19000_0 b9_5 v29=>(sX k).lp κ 4 [] k (AN a r5 sys b19000_0 b9_5 v29)) t a sys) (by kernel_rfl) (Eq.trans (by simp only [Ie];rfl) (aj h))
def rN {S:Type} (k:Nat):Rw S:=af jE xn fun a b κ=>aa k (e9 k a b) (az κ)
def sY {S:Type} (k:Nat):Fx S:=fp 26 [] [(4,bq [0,1,5] [],aE 5 11)] k Tryz.f24 0
def AO (a b:List Cl) (i5:Int):St UU:=⟨[(0,(sC a)),(1,(sC b)),(5,(iI i5))],[],[],[]⟩
section
variable {S:Type} (k:Nat) (a b:List Cl) (κ:Out UU→Option S)
theorem If: ∀n i5,(sY k).lp κ 4 [] n (AO a b i5)=kX k (az κ) a b n i5:=cL (pb k (az κ) a b) rfl (fun _=>rfl) fun r i5=>by kernel_rfl
end
theorem uj {S:Type} (o:Obj) (ho:ae o) (k:Nat):Tl o 24 (rN k:Rw S):=ah (sY k) trivial Tryz.func24 (by kernel_rfl) fun a b κ x h=>Eq.trans (b:=xz k (az κ) (fun i5=>(sY k).lp κ 4 [] k (AO a b i5)) a b) (by kernel_rfl) (Eq.trans (by simp only [If];rfl) (aj h))
def vP {S:Type} (k:Nat):Rw S:=af gM xn fun a_n κ=>aa k (jt k a_n) (PZ κ)
def GM {S:Type} (k:Nat):Fx S:=fx 5 (fun _=>[]) (fun _=>false) [] [] k Tryz.f69 true [] 0
theorem ze {S:Type} (o:Obj) (ho:ae o) (k:Nat):Tl o 69 (vP k:Rw S):=ah (GM k) trivial Tryz.func69 (by kernel_rfl) fun a_n κ x h=>Eq.trans (by kernel_rfl) (aj h)
def B6 {S:Type} (k:Nat):Rw S:=af fT xn fun a_r κ=>aa k (tN k a_r) (P0 κ)
def GN {S:Type} (k:Nat):Fx S:=fx 13 (fun _=>[]) (fun _=>false) [(50,lu k),(69,vP k)] [] k Tryz.f71 true [] 0
theorem Kh {S:Type} (o:Obj) (ho:ae o) (k:Nat):Tl o 71 (B6 k:Rw S):=ah (GN k) ⟨mZ o ho k,ze o ho k,trivial⟩ Tryz.func71 (by kernel_rfl) fun a_r κ x h=>Eq.trans (by kernel_rfl) (aj h)
def B8 {S:Type} (k:Nat):Rw S:=af cn xn fun κ=>aa k (yO k) (BU κ)
def GP {S:Type} (k:Nat):Fx S:=fx 37 (fun _=>[]) (fun _=>false) [(50,lu k),(69,vP k),(71,B6 k)] [] k Tryz.f31 true [] 0
theorem Kj {S:Type} (o:Obj) (ho:ae o) (k:Nat):Tl o 31 (B8 k:Rw S):=ah (GP k) ⟨mZ o ho k,ze o ho k,Kh o ho k,trivial⟩ Tryz.func31 (by kernel_rfl) fun κ x h=>Eq.trans (by kernel_rfl) (aj h)
def B9 {S:Type} (k:Nat):Rw S:=af qP xn fun t vars dims κ=>aa k (yR k t vars dims) (bw κ)
def GQ {S:Type} (k:Nat):Fx S:=fp 28 [(80,vH k),(81,lw (d9 k))] [] k Tryz.f37 0
theorem Kk {S:Type} (o:Obj) (ho:ae o) (k:Nat):Tl o 37 (B9 k:Rw S):=ah (GQ k) ⟨y7 o ho k,uE o ho k,trivial⟩ Tryz.func37 (by kernel_rfl) fun t vars dims κ x h=>Eq.trans (by kernel_rfl) (aj h)
def B_ {S:Type} (k:Nat):Rw S:=af cn xn fun κ=>aa k (pZ k) (az κ)
def GR {S:Type} (k:Nat):Fx S:=fp 75 [(11,vO k),(18,B5 k),(24,rN k),(31,B8 k),(37,B9 k)] [] k Tryz.f10 0
theorem Kl {S:Type} (o:Obj) (ho:ae o) (k:Nat):Tl o 10 (B_ k:Rw S):=ah (GR k) ⟨zd o ho k,Kg o ho k,uj o ho k,Kj o ho k,Kk o ho k,trivial⟩ Tryz.func10 (by kernel_rfl) fun κ x h=>Eq.trans (by kernel_rfl) (aj h)
section
variable {S:Type} (hd:H3 S) (k:Nat) (t:Tm) (κ:Out UU→Option S)
end
section
variable {S:Type} (hd:H4 S) (k:Nat) (t:Tm) (κ:Out UU→Option S)
end
section
variable {S:Type} (k:Nat) (s:ByteArray) (κ:Out UU→Option S)
end
section
variable {S:Type} (k:Nat) (a_n:Int) (κ:Out UU→Option S)
end
end
end Go.Proofs.YtapmagaejigpnaaGreatDoor
namespace Go.Proofs.YtapmagaejigpnaaGreatDoor
open Go PI
set_option linter.unusedVariables false
set_option maxRecDepth 100000
noncomputable section
section
variable {S:Type} (k:Nat) (l:List Cl) (c:Cl) (κ:Out UU→Option S)
end
section
variable {S:Type} (k:Nat) (l:List Cl) (κ:Out UU→Option S)
end
section
variable {S:Type} (k:Nat) (l:List Int) (κ:Out UU→Option S)
end
section
variable {S:Type} (k:Nat) (f:List Cl) (κ:Out UU→Option S)
end
section
variable {S:Type} (k:Nat) (s:Int) (κ:Out UU→Option S)
end
section
variable {S:Type} (k:Nat) (kind kid:Int) (κ:Out UU→Option S)
end
section
variable {S:Type} (k:Nat) (c:Cl) (κ:Out UU→Option S)
end
section
variable {S:Type} (k:Nat) (f:List Cl) (κ:Out UU→Option S)
end
section
variable {S:Type} (hd:H2 S) (k:Nat) (t:Tm) (vars dims:Int) (bound:Bool) (κ:Out UU→Option S)
end
section
variable {S:Type} (k:Nat) (l:List Tm) (κ:Out UU→Option S)
end
section
variable {S:Type} (k:Nat) (s a_from a_by:Int) (κ:Out UU→Option S)
end
section
variable {S:Type} (k:Nat) (f:List Cl) (a_from a_by:Int) (κ:Out UU→Option S)
end
section
variable {S:Type} (k:Nat) (l:List Cl) (κ:Out UU→Option S)
end
section
variable {S:Type} (hd:H5 S) (k:Nat) (t:Tm) (v vby d dby:Int) (κ:Out UU→Option S)
end
section
variable {S:Type} (k:Nat) (s i:Int) (κ:Out UU→Option S)
end
section
variable {S:Type} (k:Nat) (c:Cl) (κ:Out UU→Option S)
end
end
end Go.Proofs.YtapmagaejigpnaaGreatDoor
namespace Go.Proofs.YtapmagaejigpnaaGreatDoor
open Go PI
set_option linter.unusedVariables false
set_option maxRecDepth 100000
noncomputable section
section
variable {S:Type} (k:Nat) (a b:Int) (κ:Out UU→Option S)
end
section
variable {S:Type} (k:Nat) (f g:List Cl) (κ:Out UU→Option S)
end
section
variable {S:Type} (k:Nat) (f:List Cl) (κ:Out UU→Option S)
end
section
variable {S:Type} (k:Nat) (f g:List Cl) (κ:Out UU→Option S)
end
section
variable {S:Type} (k:Nat) (f:List Cl) (i:Int) (a_r:List Cl) (κ:Out UU→Option S)
end
section
variable {S:Type} (k:Nat) (f:List Cl) (i:Int) (a_r:List Cl) (κ:Out UU→Option S)
end
section
variable {S:Type} (k:Nat) (s i:Int) (κ:Out UU→Option S)
end
section
variable {S:Type} (k:Nat) (f:List Cl) (i:Int) (κ:Out UU→Option S)
end
section
variable {S:Type} (hd:H6 S) (k:Nat) (t:Tm) (i:Int) (a_r:List Cl) (depth:Int) (drop:Bool) (κ:Out UU→Option S)
end
section
variable {S:Type} (k:Nat) (kind:Int) (kids:List Tm) (κ:Out UU→Option S)
end
section
variable {S:Type} (k:Nat) (line:Tm) (phi:List Cl) (a:Tm) (κ:Out UU→Option S)
end
def Cf {S:Type} (k:Nat):Rw S:=af uU xn fun line phi a κ=>aa k (pz k line phi a) (f_ κ)
def GX {S:Type} (k:Nat):Fx S:=fp 18 [(41,vN k)] [] k Tryz.f13 0
theorem Kr {S:Type} (o:Obj) (ho:ae o) (k:Nat):Tl o 13 (Cf k:Rw S):=ah (GX k) ⟨zc o ho k,trivial⟩ Tryz.func13 (by kernel_rfl) fun line phi a κ x h=>Eq.trans (by kernel_rfl) (aj h)
section
variable {S:Type} (k:Nat) (line:Tm) (phi:List Cl) (a:Tm) (κ:Out UU→Option S)
end
def rP {S:Type} (hd:dz S):Rw S:=af MU xn fun a b κ=>hd a b (az κ)
def Ch {S:Type} (hd:dz S) (k:Nat):Rw S:=af MV xn fun a b κ=>aa k (mQ hd k a b) (az κ)
def s9 {S:Type} (hd:dz S) (k:Nat):Fx S:=fp 27 [(22,rP hd)] [(4,bq [0,1,5] [],aE 5 11)] k Tryz.f61 0
def AR (a b:List Tm) (i5:Int):St UU:=⟨[(0,(sT a)),(1,(sT b)),(5,(iI i5))],[],[],[]⟩
section
variable {S:Type} (hd:dz S) (k:Nat) (a b:List Tm) (κ:Out UU→Option S)
theorem Ij: ∀n i5,(s9 hd k).lp κ 4 [] n (AR a b i5)=kY hd k (az κ) a b n i5:=cL (pe hd k (az κ) a b) rfl (fun _=>rfl) fun r i5=>by kernel_rfl
end
theorem Kt {S:Type} (o:Obj) (ho:ae o) (hd:dz S) (Hd:Tl o 22 (rP hd)) (k:Nat):Tl o 61 (Ch hd k:Rw S):=ah (s9 hd k) ⟨Hd,trivial⟩ Tryz.func61 (by kernel_rfl) fun a b κ x h=>Eq.trans (b:=xD hd k (az κ) (fun i5=>(s9 hd k).lp κ 4 [] k (AR a b i5)) a b) (by kernel_rfl) (Eq.trans (by simp only [Ij];rfl) (aj h))
def sZ {S:Type} (hd:dz S) (k:Nat):Fx S:=fp 87 [(24,rN k),(61,Ch hd k)] [(4,bq [2,3,5] [(2,6),(3,6)],aE 5 11)] k Tryz.f22 0
def AQ (a b:Tm) (i5:Int):St UU:=⟨[(2,(pt 2)),(3,(pt 3)),(5,(iI i5))],[(2,bT a),(3,bT b)],[],[]⟩
section
variable {S:Type} (hd:dz S) (k:Nat) (a b:Tm) (κ:Out UU→Option S)
theorem Ii: ∀n i5,(sZ hd k).lp κ 4 [] n (AQ a b i5)=jM hd k (az κ) a b n i5:=cL (pd hd k (az κ) a b) rfl (fun _=>rfl) fun r i5=>by kernel_rfl
end
theorem zQ {S:Type} (o:Obj) (ho:ae o): ∀k:Nat,Tl o 22 (rP (dO k:dz S))
 |0=>gZ fun a b κ x h=>by cases h
 |k+1=>ah (sZ (dO k) k) ⟨uj o ho k,Kt o ho (dO k) (zQ o ho k) k,trivial⟩ Tryz.func22 (by kernel_rfl) fun a b κ x h=>Eq.trans (b:=xB (dO k) k (az κ) (fun i5=>(sZ (dO k) k).lp κ 4 [] k (AQ a b i5)) a b) (by kernel_rfl) (Eq.trans (by simp only [Ii];rfl) h)
def Ci {S:Type} (k:Nat):Rw S:=af Ap xn fun sys κ=>aa k (t8 k sys) (az κ)
def s_ {S:Type} (k:Nat):Fx S:=fp 16 [] [(2,bq [5,6,7] [],aE 4 5)] k Tryz.f47 0
def AS (sys:List (Br Tm)) (v7:Int):St UU:=⟨[(5,(sB sys)),(6,(.int .i64 (sys.length:Int))),(7,(iI v7))],[],[],[]⟩
section
variable {S:Type} (k:Nat) (sys:List (Br Tm)) (κ:Out UU→Option S)
theorem Ik: ∀n v7,(s_ k).lp κ 2 [] n (AS sys v7)=kV k (az κ) sys n v7:=cL (oZ k (az κ) sys) rfl (fun _=>rfl) fun r v7=>by kernel_rfl
end
theorem Ku {S:Type} (o:Obj) (ho:ae o) (k:Nat):Tl o 47 (Ci k:Rw S):=ah (s_ k) trivial Tryz.func47 (by kernel_rfl) fun sys κ x h=>Eq.trans (b:=Fh k (az κ) (fun v7=>(s_ k).lp κ 2 [] k (AS sys v7)) sys) (by kernel_rfl) (Eq.trans (by simp only [Ik];rfl) (aj h))
def vR {S:Type} (hd:eV S):Rw S:=af uP xn fun t κ=>hd t (az κ)
def je {S:Type} (hd:eV S) (k:Nat):Fx S:=fp 42 [(16,vR hd),(47,Ci k)] [(4,bq [1,13,14,15] [(1,6)],aE 5 11),(10,bq [24,25,26] [],aE 6 23),(13,bq [24,25,26,31,32,33] [],aE 14 6551)] k Tryz.f16 0
def vc (t:Tm) (v15:Int):St UU:=⟨[(1,(pt 1)),(13,(sT t.kids)),(14,(.int .i64 (t.kids.length:Int))),(15,(iI v15))],[(1,bT t)],[],[]⟩
def nu (t:Tm) (v26:Int):St UU:=⟨[(24,(sB t.sys)),(25,(.int .i64 (t.sys.length:Int))),(26,(iI v26))],[],[],[]⟩
def AT (t:Tm) (v26:Int) (x4:(Br Tm)) (v33:Int):St UU:=⟨[(24,(sB t.sys)),(25,(.int .i64 (t.sys.length:Int))),(26,(iI v26)),(31,(sT x4.kids)),(32,(.int .i64 (x4.kids.length:Int))),(33,(iI v33))],[],[],[]⟩
section
variable {S:Type} (hd:eV S) (k:Nat) (t:Tm) (κ:Out UU→Option S)
theorem Io (v26 x4 κ1): ∀n v33,(je hd k).lp κ 13 [κ1] n (AT t v26 x4 v33)=jI hd k (az κ) (fun v26=>κ1 (nu t v26)) t v26 x4 n v33:=cL (o0 hd k (az κ) t v26 x4 (fun v26=>κ1 (nu t v26))) rfl (fun _=>rfl) fun r v33=>by kernel_rfl
theorem Im: ∀n v26,(je hd k).lp κ 10 [] n (nu t v26)=gN hd k (az κ) t n v26:=cL (fun own=>me hd k (az κ) t (fun v26 x4 v33=>jI hd k (az κ) own t v26 x4 k v33) own) rfl (fun _=>rfl) fun r v26=>Eq.trans (b:=me hd k (az κ) t (fun v26 x4 v33=>(je hd k).lp κ 13 [r] k (AT t v26 x4 v33)) (fun v26=>r (nu t v26)) v26) (by kernel_rfl) (by simp only [Io])
theorem Il: ∀n v15,(je hd k).lp κ 4 [] n (vc t v15)=kW hd k (az κ) t n v15:=cL (fun own=>md hd k (az κ) t (fun v26=>gN hd k (az κ) t k v26) own) rfl (fun _=>rfl) fun r v15=>Eq.trans (b:=md hd k (az κ) t (fun v26=>(je hd k).lp κ 10 [] k (nu t v26)) (fun v15=>r (vc t v15)) v15) (by kernel_rfl) (by simp only [Im])
end
theorem zR {S:Type} (o:Obj) (ho:ae o): ∀k:Nat,Tl o 16 (vR (d8 k:eV S))
 |0=>gZ fun t κ x h=>by cases h
 |k+1=>ah (je (d8 k) k) ⟨zR o ho k,Ku o ho k,trivial⟩ Tryz.func16 (by kernel_rfl) fun t κ x h=>Eq.trans (b:=xu (d8 k) k (az κ) (fun v15=>(je (d8 k) k).lp κ 4 [] k (vc t v15)) t) (by kernel_rfl) (Eq.trans (by simp only [Il];rfl) h)
def Cj {S:Type} (k:Nat):Rw S:=af uU xn fun line phi a κ=>aa k (t7 k line phi a) (az κ)
def GY {S:Type} (k:Nat):Fx S:=fp 104 [(9,BW k),(10,B_ k),(11,vO k),(13,Cf k),(16,vR (d8 k)),(19,vJ k),(20,v_ k),(21,rT k),(22,rP (dO k)),(24,rN k)] [] k Tryz.f5 0
theorem Kv {S:Type} (o:Obj) (ho:ae o) (k:Nat):Tl o 5 (Cj k:Rw S):=ah (GY k) ⟨J8 o ho k,Kl o ho k,zd o ho k,Kr o ho k,zR o ho k,y9 o ho k,zp o ho k,up o ho k,zQ o ho k,uj o ho k,trivial⟩ Tryz.func5 (by kernel_rfl) fun line phi a κ x h=>Eq.trans (by kernel_rfl) (aj h)
theorem Sj {S:Type} (o:Obj) (ho:ae o) (k:Nat):Tl o 5 (Cj k:Rw S):=Kv o ho k
end
end Go.Proofs.YtapmagaejigpnaaGreatDoor
namespace Go.Proofs.YtapmagaejigpnaaGreatDoor
open Go PI
set_option linter.unusedVariables false
set_option linter.unusedSimpArgs false
variable {S:Type} {k:Nat}
def bE {α β:Type} (x:Except Int α) (f:α→Except Int β):Except Int β:=match x with
 | .error e=> .error e
 | .ok a=>f a
theorem ao {α β:Type} (a:α) (f:α→Except Int β):bE (.ok a) f=f a:=rfl
theorem Jo {α β:Type} (e:Int) (f:α→Except Int β):bE (.error e) f= .error e:=rfl
theorem av {α β:Type} {x:Except Int α} {f:α→Except Int β} {b:β} (h:bE x f= .ok b): ∃a,x= .ok a∧f a= .ok b:=by
 cases x with
 |error e=>cases h
 |ok a=>exact ⟨a,rfl,h⟩
theorem bm {α β:Type} {x:Except Int α} {f:α→Except Int β} {e:Int} (h:bE x f= .error e):x= .error e∨ ∃a,x= .ok a∧f a= .error e:=by
 cases x with
 |error e=>injection h with h;subst h;exact .inl rfl
 |ok a=>exact .inr ⟨a,rfl,h⟩
def bP (x:List Cl×Int):Except Int (List Cl):=if x.2=0 then .ok x.1 else .error x.2
theorem g0 {x:List Cl×Int} (h:x.2=0):bP x= .ok x.1:=if_pos h
theorem j7 {x:List Cl×Int} (h:x.2≠0):bP x= .error x.2:=if_neg h
theorem d4 {x:List Cl×Int} {l:List Cl} (h:bP x= .ok l):x.2=0∧x.1=l:=by
 unfold bP at h
 split at h
 ·next h0=>injection h with h;exact ⟨h0,h⟩
 ·cases h
theorem ol {x:List Cl×Int} {e:Int} (h:bP x= .error e):x.2≠0∧x.2=e:=by
 unfold bP at h
 split at h
 ·cases h
 ·next h0=>injection h with h;exact ⟨h0,h⟩
def EN (e:Int):Prop:=0≤e∧e≤1000
theorem jA:EN 0:=by unfold EN;omega
theorem gG:EN 2:=by unfold EN;omega
theorem Lr:EN 3:=by unfold EN;omega
theorem zz:EN 10:=by unfold EN;omega
theorem ld (l:List Cl):EN (aW l).2:=by
 unfold aW
 split
 ·split
  ·exact Lr
  ·exact jA
 ·exact gG
theorem qE {step:List Cl→Cl→List Cl×Int} (hs: ∀h c,EN (step h c).2): ∀ {r h:List Cl},EN (aH step h r).2:=by
 intro r
 induction r with
 |nil=>intro h;exact jA
 |cons c r ih=>
  intro h
  unfold aH
  split
  ·exact ih
  ·exact hs h c
theorem Az (s i b:Int):EN (bB s i b).2:=by
 unfold bB
 split
 ·exact gG
 ·unfold dF
  split
  ·exact jA
  ·split
   ·exact zz
   ·split
    ·exact zz
    ·exact jA
theorem NV (c:Cl) (i b:Int):EN (b7 c i b).2:=by
 unfold b7
 split
 ·split
  ·split
   ·exact jA
   ·exact Az _ _ _
  ·exact Az _ _ _
 ·exact gG
theorem qW (f:List Cl) (i b:Int):EN (aF f i b).2:=by
 unfold aF
 split
 ·split
  ·exact ld _
  ·exact qE fun h c=>NV c i b
 ·exact gG
theorem FU {n b x y:Nat} (h:aV n b x=aV n b y):x=y:=by
 unfold aV at h;split at h<;>split at h<;>omega
theorem Sv (n b:Nat) {l:List Nat} (h:l.Nodup):(l.map (aV n b)).Nodup:=
 List.Pairwise.map (S:=fun a b=>a≠b) (R:=fun a b=>a≠b) _ (fun x y hxy h=>hxy (FU h)) h
theorem N5 {m n b:Nat} (h:(dF m n b).2=0) (j:Nat):(dF m n b).1.testBit j=true↔ ∃x,x<24∧m.testBit x=true∧aV n b x=j:=by
 rw [Ax] at h ⊢
 split
 ·next he=>rw [if_pos he] at h;cases h
 ·rw [wN _ (Sv n b (tC m)),decide_eq_true_eq,List.mem_map]
  constructor
  ·rintro ⟨x,hx,e⟩;have:=mem_bitsN.1 hx;exact ⟨x,this.1,this.2,e⟩
  ·rintro ⟨x,h1,h2,e⟩;exact ⟨x,mem_bitsN.2 ⟨h1,h2⟩,e⟩
theorem yj {m:Nat} (h:m<16777216):m&&&M24=m:=by
 apply Nat.eq_of_testBit_eq
 intro j
 rw [Nat.testBit_and,g8]
 cases hb:m.testBit j with
 |false=>rfl
 |true=>rw [decide_eq_true (g9 h hb)];rfl
theorem LF {i b:Int}: ∀ {r h:List Cl},(aH (cK i b) h r).2=0→(∀c∈r,(b7 c i b).2=0)∧(aH (cK i b) h r).1=h++r.map fun c=>(b7 c i b).1:=by
 intro r
 induction r with
 |nil=>intro h _;exact ⟨fun c hc=>(by cases hc),by simp [aH]⟩
 |cons c r ih=>
  intro h h0
  unfold aH at h0 ⊢
  split at h0
  ·next h1=>
   have:=ih h0
   rw [if_pos h1]
   refine ⟨fun d hd=> ?_, ?_⟩
   ·rcases List.mem_cons.1 hd with rfl|hd
    ·exact h1
    ·exact this.1 d hd
   ·rw [this.2];simp [cK]
  ·next h1=>exact absurd h0 h1
theorem NY {f:List Cl} {i b:Int} (h:(aF f i b).2=0): ∀c∈(aF f i b).1,∃d∈f,(b7 d i b).2=0∧c=(b7 d i b).1:=by
 unfold aF at h ⊢
 split
 ·next hr=>
  rw [if_pos hr] at h
  split
  ·next h0=>
   rw [if_pos h0] at h
   obtain ⟨ha,hb⟩:=LF h0
   intro c hc
   have h':aW (aH (cK i b) [] f).1=((aW (aH (cK i b) [] f).1).1,0):=Prod.ext rfl h
   rw [(gR h').1] at hc
   have:=(mem_mins.1 hc).1
   rw [hb,List.nil_append,List.mem_map] at this
   obtain ⟨d,hd,rfl⟩:=this
   exact ⟨d,hd,ha d hd,rfl⟩
  ·next h0=>rw [if_neg h0] at h;exact absurd h h0
 ·next hr=>rw [if_neg hr] at h;exact absurd h (by decide)
theorem JE {c:Cl}:bv c=false↔ ∀j,¬ (c.pos.toNat.testBit j=true∧c.neg.toNat.testBit j=true):=by
 unfold bv
 rw [Bool.not_eq_false',decide_eq_true_eq]
 constructor
 ·intro h j ⟨h1,h2⟩
  have:(c.pos.toNat&&&c.neg.toNat).testBit j=true:=by rw [Nat.testBit_and,h1,h2];rfl
  rw [h,Nat.zero_testBit] at this;cases this
 ·intro h
  apply Nat.eq_of_testBit_eq
  intro j
  rw [Nat.zero_testBit,Nat.testBit_and]
  cases h1:c.pos.toNat.testBit j with
  |false=>rfl
  |true=>
   cases h2:c.neg.toNat.testBit j with
   |false=>rfl
   |true=>exact absurd ⟨h1,h2⟩ (h j)
theorem Ay {s i b:Int} (h:(bB s i b).2=0) {j:Nat} (hj:(bB s i b).1.toNat.testBit j=true): ∃x,s.toNat.testBit x=true∧aV i.toNat b.toNat x=j:=by
 unfold bB at h hj
 split at h
 ·cases h
 ·next hn=>
  rw [if_neg hn] at hj
  have h':(dF s.toNat i.toNat b.toNat).2=0:=by
   have:((dF s.toNat i.toNat b.toNat).2:Int)=0:=h
   omega
  obtain ⟨x,_,h2,h3⟩:=(N5 h' j).1 hj
  exact ⟨x,h2,h3⟩
theorem NU {c:Cl} {i b:Int} (h:(b7 c i b).2=0) (hc:bv c=false):bv (b7 c i b).1=false:=by
 rw [JE] at hc ⊢
 unfold b7 at h ⊢
 split at h
 ·next hr=>
  split at h
  ·next h1=>
   split at h
   ·next h2=>
    rw [if_pos hr,if_pos h1,if_pos h2]
    rintro j ⟨ha,hb⟩
    obtain ⟨x,hx,ex⟩:=Ay h1 ha
    obtain ⟨y,hy,ey⟩:=Ay h2 hb
    have:=FU (ex.trans ey.symm)
    subst this
    exact hc x ⟨hx,hy⟩
   ·next h2=>exact absurd h h2
  ·next h1=>exact absurd h h1
 ·cases h
def bp (d b:Int) (f:List Cl):Except Int (List Cl):=if b=0∨d≥24 then .ok f else bP (aF f d b)
theorem nU {d b:Int} {f g:List Cl} (hf:RF f) (h:bp d b f= .ok g):RF g:=by
 unfold bp at h
 split at h
 ·injection h with h;subst h;exact hf
 ·obtain ⟨h1,rfl⟩:=d4 h;exact fX h1
theorem Dq {d b:Int} {f:List Cl} {e:Int} (h:bp d b f= .error e):0<e∧e≤1000:=by
 unfold bp at h
 split at h
 ·cases h
 ·obtain ⟨h1,rfl⟩:=ol h
  have:=qW f d b
  unfold EN at this;omega
theorem Dp {d b:Int} {f g:List Cl} (hf:f.all (fun c=> !bv c)=true) (h:bp d b f= .ok g):g.all (fun c=> !bv c)=true:=by
 unfold bp at h
 split at h
 ·injection h with h;subst h;exact hf
 ·obtain ⟨h1,rfl⟩:=d4 h
  rw [List.all_eq_true] at hf ⊢
  intro c hc
  obtain ⟨e,he,h2,rfl⟩:=NY h1 c hc
  have:=hf e he
  rw [Bool.not_eq_true'] at this ⊢
  exact NU h2 this
theorem wq (d b:Int):bp d b []= .ok []:=by
 unfold bp
 split
 ·rfl
 ·rfl
mutual
def bh (vb db v d:Int):Tm→Except Int Tm
 | .mk kd n nm r ks sys=>
  if kd=1∧n≥v∧n>1000000000-vb then .error 100
  else bE (bp d db r) fun r'=>bE (dg vb db v d kd 0 ks) fun ks'=>bE (cS vb db v d kd sys) fun sys'=> .ok (.mk kd (if kd=1∧n≥v then n+vb else n) nm r' ks' sys')
def dg (vb db v d kd:Int) (i:Nat):List Tm→Except Int (List Tm)
 |[]=> .ok []
 |t::l=>bE (bh vb db (v+fI kd i) (d+ci kd i) t) fun t'=>bE (dg vb db v d kd (i+1) l) fun l'=> .ok (t'::l')
def cS (vb db v d kd:Int):List (Br Tm)→Except Int (List (Br Tm))
 |[]=> .ok []
 |b::l=>bE (jQ vb db v d kd b) fun b'=>bE (cS vb db v d kd l) fun l'=> .ok (b'::l')
def jQ (vb db v d kd:Int):Br Tm→Except Int (Br Tm)
 | .mk f ks=>bE (bp d db f) fun f'=>bE (dh vb db v d kd ks) fun ks'=> .ok (.mk f' ks')
def dh (vb db v d kd:Int):List Tm→Except Int (List Tm)
 |[]=> .ok []
 |t::l=>bE (bh vb db v (d+ax kd) t) fun t'=>bE (dh vb db v d kd l) fun l'=> .ok (t'::l')
end
mutual
def RowsT:Tm→Prop
 | .mk kd n nm r ks sys=>(RF r∧(kd=1→r=[])∧0≤kd)∧cv ks∧da sys
def cv:List Tm→Prop
 |[]=>True
 |t::l=>RowsT t∧cv l
def da:List (Br Tm)→Prop
 |[]=>True
 |b::l=>jl b∧da l
def jl:Br Tm→Prop
 | .mk f ks=>RF f∧cv ks
end
theorem rowsK_iff: ∀ {l:List Tm},cv l↔ ∀t∈l,RowsT t:=by
 intro l
 induction l with
 |nil=>rw [cv];simp
 |cons t l ih=>rw [cv,ih];simp
theorem wt {b:Br Tm}:jl b↔RF b.face∧ ∀t∈b.kids,RowsT t:=by cases b;rw [jl,rowsK_iff]
theorem rowsS_iff: ∀ {l:List (Br Tm)},da l↔ ∀b∈l,RF b.face∧ ∀t∈b.kids,RowsT t:=by
 intro l
 induction l with
 |nil=>rw [da];simp
 |cons t l ih=>rw [da,ih,wt];simp
end Go.Proofs.YtapmagaejigpnaaGreatDoor
namespace Go.Proofs.YtapmagaejigpnaaGreatDoor
open Go PI
set_option linter.unusedVariables false
set_option linter.unusedSimpArgs false
variable {S:Type} {k:Nat}
inductive F2 {α β:Type} (R:α→β→Prop):List α→List β→Prop
 |nil:F2 R [] []
 |cons {a:α} {b:β} {l:List α} {m:List β}:R a b→F2 R l m→F2 R (a::l) (b::m)
theorem F2.len {α β:Type} {R:α→β→Prop} {l:List α} {m:List β} (h:F2 R l m):m.length=l.length:=by
 induction h with
 |nil=>rfl
 |cons _ _ ih=>simp [ih]
theorem F2.imp {α β:Type} {R Q:α→β→Prop} {l:List α} {m:List β} (h:F2 R l m) (hq: ∀a b,R a b→Q a b):F2 Q l m:=by
 induction h with
 |nil=>exact .nil
 |cons h1 _ ih=>exact .cons (hq _ _ h1) ih
theorem NZ {vb db v d kd:Int} {R:Tm→Tm→Prop}: ∀ {l:List Tm} {i:Nat} {l':List Tm},(∀x∈l,∀v d x',bh vb db v d x= .ok x'→R x x')→dg vb db v d kd i l= .ok l'→F2 R l l':=by
 intro l
 induction l with
 |nil=>intro i l' _ h;rw [dg] at h;injection h with h;subst h;exact .nil
 |cons t l ih=>
  intro i l' hr h
  rw [dg] at h
  obtain ⟨t',h1,h⟩:=av h
  obtain ⟨m,h2,h⟩:=av h
  injection h with h;subst h
  exact .cons (hr t (by simp) _ _ _ h1) (ih (fun x hx=>hr x (by simp [hx])) h2)
theorem N3 {vb db v d kd:Int} {R:Tm→Tm→Prop}: ∀ {l:List Tm} {l':List Tm},(∀x∈l,∀v d x',bh vb db v d x= .ok x'→R x x')→dh vb db v d kd l= .ok l'→F2 R l l':=by
 intro l
 induction l with
 |nil=>intro l' _ h;rw [dh] at h;injection h with h;subst h;exact .nil
 |cons t l ih=>
  intro l' hr h
  rw [dh] at h
  obtain ⟨t',h1,h⟩:=av h
  obtain ⟨m,h2,h⟩:=av h
  injection h with h;subst h
  exact .cons (hr t (by simp) _ _ _ h1) (ih (fun x hx=>hr x (by simp [hx])) h2)
theorem N6 {vb db v d kd:Int} {R:Tm→Tm→Prop}: ∀ {l l':List (Br Tm)},(∀b∈l,∀x∈b.kids,∀v d x',bh vb db v d x= .ok x'→R x x')→cS vb db v d kd l= .ok l'→
  F2 (fun b b'=>bp d db b.face= .ok b'.face∧F2 R b.kids b'.kids) l l':=by
 intro l
 induction l with
 |nil=>intro l' _ h;rw [cS] at h;injection h with h;subst h;exact .nil
 |cons b l ih=>
  intro l' hr h
  rw [cS] at h
  obtain ⟨b',h1,h⟩:=av h
  obtain ⟨m,h2,h⟩:=av h
  injection h with h;subst h
  cases b with
  |mk f ks=>
   rw [jQ] at h1
   obtain ⟨f',h3,h1⟩:=av h1
   obtain ⟨ks',h4,h1⟩:=av h1
   injection h1 with h1;subst h1
   exact .cons ⟨h3,N3 (hr ⟨f,ks⟩ (by simp)) h4⟩ (ih (fun b hb=>hr b (by simp [hb])) h2)
theorem u5 {f:List Cl} {d:Int} (h:24≤d):eO f d=true:=by
 unfold eO
 rw [decide_eq_true_eq]
 intro i hi
 have:=(mem_bitsN.1 hi).1
 omega
def Up (x x':Tm):Prop:=ay x'=ay x∧aQ x'=aQ x∧x'.kind=x.kind∧(OkT x→OkT x'∧(RowsT x→RowsT x')∧ ∀dd dd',24≤dd→24≤dd'→bH false (-1) dd x=true→bH false (-1) dd' x'=true)
theorem FX {l l':List Tm} (h:F2 Up l l'):bJ l'=bJ l:=by
 induction h with
 |nil=>rfl
 |cons h1 _ ih=>rw [bJ,bJ,h1.1,ih]
theorem F0 {l l':List Tm} (h:F2 Up l l'):aZ l'=aZ l:=by
 induction h with
 |nil=>rfl
 |cons h1 _ ih=>rw [aZ,aZ,h1.2.1,ih]
theorem SE {l l':List (Br Tm)} (h:F2 (fun b b':Br Tm=>F2 Up b.kids b'.kids) l l'):bX l'=bX l:=by
 induction h with
 |nil=>rfl
 |cons h1 _ ih=>rw [bX,bX,mX,mX,FX h1,ih]
theorem SI {l l':List (Br Tm)} (h:F2 (fun b b':Br Tm=>F2 Up b.kids b'.kids) l l'):a_ l'=a_ l:=by
 induction h with
 |nil=>rfl
 |cons h1 _ ih=>rw [a_,a_,n_,n_,F0 h1,ih]
theorem FY {l l':List Tm} (h:F2 Up l l'):bt l→bt l':=by
 induction h with
 |nil=>exact id
 |cons h1 _ ih=>rw [bt,bt];exact fun h=>⟨(h1.2.2.2 h.1).1,ih h.2⟩
theorem FZ {l l':List Tm} (h:F2 Up l l'):bt l→cv l→cv l':=by
 induction h with
 |nil=>exact fun _ h=>h
 |cons h1 _ ih=>rw [bt,cv,cv];exact fun h g=>⟨(h1.2.2.2 h.1).2.1 g.1,ih h.2 g.2⟩
theorem SL (v:Int):d5 (-1) v= -1:=by unfold d5;rw [if_pos (by decide)]
theorem SC {kd dd dd':Int} (h1:24≤dd) (h2:24≤dd') {l l':List Tm} (h:F2 Up l l'): ∀ {i:Nat},bt l→dL false (-1) dd kd i l=true→dL false (-1) dd' kd i l'=true:=by
 induction h with
 |nil=>exact fun _ h=>h
 |cons h3 _ ih=>
  intro i
  rw [bt,dL,dL,Bool.and_eq_true,Bool.and_eq_true,SL]
  have:=g7 kd i
  exact fun h g=>⟨(h3.2.2.2 h.1).2.2 _ _ (by omega) (by omega) g.1,ih h.2 g.2⟩
theorem SD {kd dd dd':Int} (h1:24≤dd) (h2:24≤dd') {l l':List Tm} (h:F2 Up l l'):bt l→dM false (-1) dd kd l=true→dM false (-1) dd' kd l'=true:=by
 induction h with
 |nil=>exact fun _ h=>h
 |cons h3 _ ih=>
  rw [bt,dM,dM,Bool.and_eq_true,Bool.and_eq_true]
  have:=eQ kd
  exact fun h g=>⟨(h3.2.2.2 h.1).2.2 _ _ (by omega) (by omega) g.1,ih h.2 g.2⟩
def ke (d db:Int) (b b':Br Tm):Prop:=bp d db b.face= .ok b'.face∧F2 Up b.kids b'.kids
theorem Ds {d db:Int} {f g:List Cl} (h:bp d db f= .ok g) (hf:ai f) (hl:f.length<1073741824):ai g∧g.length<1073741824:=by
 unfold bp at h
 split at h
 ·injection h with h;subst h;exact ⟨hf,hl⟩
 ·obtain ⟨h1,rfl⟩:=d4 h
  have:=fX h1
  exact ⟨this.2,by have:=this.len;omega⟩
theorem Dt {d db:Int} {f g:List Cl} (h:bp d db f= .ok g) (hf:ai f) (hr:be f=true):be g=true:=(nU ((gf hf).1 hr) h).right
theorem Dr {d db:Int} {f g:List Cl} (h:bp d db f= .ok g) (hf:ai f) (hr:bj f=true):bj g=true:=by
 unfold bj at hr ⊢
 rw [Bool.and_eq_true] at hr ⊢
 exact ⟨Dt h hf hr.1,Dp hr.2 h⟩
theorem wn {d db:Int} {f g:List Cl} (h:bp d db f= .ok g) (hf:f.length=0):g.length=0:=by
 have:=List.length_eq_zero_iff.1 hf
 subst this
 rw [wq] at h;injection h with h;subst h;rfl
theorem Sz {d db:Int} {l l':List (Br Tm)} (h:F2 (ke d db) l l'):bG l→bG l':=by
 induction h with
 |nil=>exact id
 |cons h1 _ ih=>
  rw [bG,bG,jU,jU]
  intro h
  have h3:=Ds h1.1 h.1.1.1 h.1.1.2.1
  exact ⟨⟨⟨h3.1,h3.2,by have:=h1.2.len;have:=h.1.1.2.2;omega⟩,okK_iff.1 (FY h1.2 (okK_iff.2 h.1.2))⟩,ih h.2⟩
theorem SB {d db:Int} {l l':List (Br Tm)} (h:F2 (ke d db) l l'):bG l→da l→da l':=by
 induction h with
 |nil=>exact fun _ h=>h
 |cons h1 _ ih=>
  rw [bG,jU,da,da,wt,wt]
  intro h g
  exact ⟨⟨nU g.1.1 h1.1,rowsK_iff.1 (FZ h1.2 (okK_iff.2 h.1.2) (rowsK_iff.2 g.1.2))⟩,ih h.2 g.2⟩
theorem Sy {d db kd dd dd':Int} (h1:24≤dd) (h2:24≤dd') {l l':List (Br Tm)} (h:F2 (ke d db) l l'):bG l→cW false (-1) dd kd l=true→cW false (-1) dd' kd l'=true:=by
 induction h with
 |nil=>exact fun _ h=>h
 | @cons a b _ _ h3 _ ih=>
  rw [bG,jU,cW,cW,Bool.and_eq_true,Bool.and_eq_true]
  intro h g
  refine ⟨?_,ih h.2 g.2⟩
  cases a;cases b
  have g1:=g.1
  rw [l6] at g1 ⊢
  exact SD h1 h2 h3.2 (okK_iff.2 h.1.2) g1
theorem SA {d db kd dd dd':Int} (h1:24≤dd) (h2:24≤dd') {l l':List (Br Tm)} (h:F2 (ke d db) l l'):bG l→l.all (fJ kd dd)=true→l'.all (fJ kd dd')=true:=by
 induction h with
 |nil=>exact fun _ h=>h
 | @cons a b _ _ h3 _ ih=>
  rw [bG,jU,List.all_cons,List.all_cons,Bool.and_eq_true,Bool.and_eq_true]
  intro h g
  refine ⟨?_,ih h.2 g.2⟩
  have g1:=g.1
  unfold fJ at g1 ⊢
  rw [Bool.and_eq_true,Bool.and_eq_true,decide_eq_true_eq] at g1 ⊢
  rw [h3.2.len]
  exact ⟨g1.1,Dr h3.1 h.1.1.1 g1.2.1,u5 h2⟩
theorem FW {d db:Int} {l l':List (Br Tm)} (h:F2 (ke d db) l l'):F2 (fun b b':Br Tm=>F2 Up b.kids b'.kids) l l':=h.imp fun _ _ h=>h.2
theorem N9 {vb db:Int} (hvb:0≤vb) (hvb':vb≤1000000000) (t:Tm): ∀v d t',bh vb db v d t= .ok t'→Up t t':=by
 induction t using d3 with
 |h kd n nm r ks sys ih1 ih2=>
  intro v d t' h
  rw [bh] at h
  split at h
  ·cases h
  next hv=>
  obtain ⟨r',hr,h⟩:=av h
  obtain ⟨ks',hk,h⟩:=av h
  obtain ⟨sys',hs,h⟩:=av h
  injection h with h;subst h
  have fk:F2 Up ks ks':=NZ (fun x hx v d x'=>ih1 x hx v d x') hk
  have fs:F2 (ke d db) sys sys':=N6 (fun b hb x hx v d x'=>ih2 b hb x hx v d x') hs
  refine ⟨?_, ?_,rfl,fun hok=> ?_⟩
  ·rw [ay,ay,FX fk,SE (FW fs)]
  ·rw [aQ,aQ,F0 fk,SI (FW fs)]
  ·obtain ⟨o1,o2,o3,o4,o5,o6,o7⟩:=hok.node
   have hok':=hok
   rw [OkT] at hok'
   obtain ⟨_,ok,os⟩:=hok'
   have hr':=Ds hr o4 o5
   have o2':=o2
   unfold aI at o2'
   refine ⟨?_, ?_, ?_⟩
   ·rw [OkT]
    refine ⟨⟨o1, ?_,o3,hr'.1,hr'.2,by rw [fk.len];exact o6,by rw [fs.len];exact o7⟩,FY fk ok,Sz fs os⟩
    unfold aI
    split
    ·next hc=>constructor<;>omega
    ·exact o2
   ·rw [RowsT,RowsT]
    rintro ⟨⟨a,b,z⟩,c,e⟩
    refine ⟨⟨nU a hr,fun h1=> ?_,z⟩,FZ fk ok c,SB fs os e⟩
    have:=b h1
    subst this
    rw [wq] at hr;injection hr with hr;exact hr.symm
   ·intro dd dd' h1 h2
    rw [bH,bH]
    simp only [Bool.false_and,Bool.not_false,Bool.true_and,Bool.and_eq_true]
    rintro ⟨a,b,c⟩
    refine ⟨?_,SC h1 h2 fk ok b,Sy h1 h2 fs os c⟩
    unfold f8 at a ⊢
    simp only [Bool.and_eq_true,decide_eq_true_eq,fk.len,fs.len] at a ⊢
    obtain ⟨⟨a1,a2,a3,a4⟩,a5⟩:=a
    refine ⟨⟨a1, ?_,a3,a4⟩, ?_⟩
    ·rcases a2 with a2|a2
     ·exact .inl a2
     ·by_cases h1:kd=1
      ·exact .inl h1
      ·right;rw [if_neg (fun h=>h1 h.1)];exact a2
    ·by_cases c1:kd=1
     ·rw [if_pos c1] at a5 ⊢
      simp only [Bool.and_eq_true,decide_eq_true_eq] at a5 ⊢
      refine ⟨wn hr a5.1, ?_,.inl (by decide)⟩
      have:=a5.2.1
      split<;>omega
     ·rw [if_neg c1] at a5 ⊢
      by_cases c2:kd=2
      ·rw [if_pos c2] at a5 ⊢
       simp only [Bool.and_eq_true,decide_eq_true_eq] at a5 ⊢
       exact ⟨wn hr a5.1,a5.2⟩
      ·rw [if_neg c2] at a5 ⊢
       by_cases c3:kd=13∨kd=21∨kd=26
       ·rw [if_pos c3] at a5 ⊢
        rw [Bool.and_eq_true] at a5 ⊢
        exact ⟨Dt hr o4 a5.1,u5 h2⟩
       ·rw [if_neg c3] at a5 ⊢
        by_cases c4:kd=14
        ·rw [if_pos c4] at a5 ⊢
         rw [Bool.and_eq_true] at a5 ⊢
         exact ⟨Dr hr o4 a5.1,u5 h2⟩
        ·rw [if_neg c4] at a5 ⊢
         simp only [Bool.and_eq_true,decide_eq_true_eq] at a5 ⊢
         exact ⟨SA h1 h2 fs os a5.1,wn hr a5.2⟩
theorem MY {kd:Int} {n:Nat} (h:fU kd=n):0≤kd:=by
 apply Classical.byContradiction
 intro h0
 unfold fU at h
 rw [if_pos (.inl (by omega))] at h
 omega
theorem Jd {bd:Bool} (t:Tm): ∀ {vars dims:Int},OkT t→bH bd vars dims t=true→RowsT t:=by
 induction t using d3 with
 |h kd n nm r ks sys ih1 ih2=>
  intro vars dims hok h
  rw [bH,Bool.and_eq_true,Bool.and_eq_true,Bool.and_eq_true] at h
  obtain ⟨_,a,b,c⟩:=h
  obtain ⟨o1,o2,o3,o4,o5,o6,o7⟩:=hok.node
  have hok':=hok
  rw [OkT] at hok'
  obtain ⟨_,ok,os⟩:=hok'
  have hkids: ∀ {l:List Tm} {i:Nat},(∀x∈l,∀ {vars dims:Int},OkT x→bH bd vars dims x=true→RowsT x)→bt l→dL bd vars dims kd i l=true→cv l:=by
   intro l
   induction l with
   |nil=>intro i _ _ _;rw [cv];trivial
   |cons t l ih=>
    intro i hl ho ha
    rw [dL,Bool.and_eq_true] at ha
    rw [bt] at ho
    rw [cv]
    exact ⟨hl t (by simp) ho.1 ha.1,ih (fun x hx=>hl x (by simp [hx])) ho.2 ha.2⟩
  rw [I_,List.all_eq_true] at c
  unfold f8 at a
  simp only [Bool.and_eq_true,decide_eq_true_eq] at a
  obtain ⟨⟨a1,a2,a3,a4⟩,a5⟩:=a
  have r0: ∀ {l:List Cl},l.length=0→RF l:=fun h=>by
   have:=List.length_eq_zero_iff.1 h;subst this;exact gc
  rw [RowsT]
  have hfaces:(sys=[]∨sys.all (fJ kd dims)=true)∧RF r∧(kd=1→r=[]):=by
   have nosys:dk kd=0→sys=[]:=fun h=>List.length_eq_zero_iff.1 (a4 h)
   by_cases c1:kd=1
   ·rw [if_pos c1] at a5
    simp only [Bool.and_eq_true,decide_eq_true_eq] at a5
    exact ⟨.inl (nosys (by subst c1;decide)),r0 a5.1,fun _=>List.length_eq_zero_iff.1 a5.1⟩
   ·rw [if_neg c1] at a5
    by_cases c2:kd=2
    ·rw [if_pos c2] at a5
     simp only [Bool.and_eq_true,decide_eq_true_eq] at a5
     exact ⟨.inl (nosys (by subst c2;decide)),r0 a5.1,fun h=>absurd h c1⟩
    ·rw [if_neg c2] at a5
     by_cases c3:kd=13∨kd=21∨kd=26
     ·rw [if_pos c3,Bool.and_eq_true] at a5
      exact ⟨.inl (nosys (by rcases c3 with rfl|rfl|rfl<;>decide)),(gf o4).1 a5.1,fun h=>absurd h c1⟩
     ·rw [if_neg c3] at a5
      by_cases c4:kd=14
      ·rw [if_pos c4,Bool.and_eq_true] at a5
       unfold bj at a5
       rw [Bool.and_eq_true] at a5
       exact ⟨.inl (nosys (by subst c4;decide)),(gf o4).1 a5.1.1,fun h=>absurd h c1⟩
      ·rw [if_neg c4] at a5
       simp only [Bool.and_eq_true,decide_eq_true_eq] at a5
       exact ⟨.inr a5.1,r0 a5.2,fun h=>absurd h c1⟩
  refine ⟨⟨hfaces.2.1,hfaces.2.2,MY a1⟩,hkids (fun x hx=>ih1 x hx) ok b, ?_⟩
  rw [rowsS_iff]
  intro br hbr
  have hc:=c br hbr
  rw [List.all_eq_true] at hc
  have hob:=hok.br hbr
  refine ⟨?_,fun x hx=>ih2 br hbr x hx (hob.2 x hx) (hc x hx)⟩
  rcases hfaces.1 with h|h
  ·subst h;cases hbr
  ·have:=List.all_eq_true.1 h br hbr
   unfold fJ bj at this
   simp only [Bool.and_eq_true] at this
   exact (gf hob.1.1).1 this.2.1.1
theorem qX {vb db:Int} (t:Tm): ∀ {v d e},bh vb db v d t= .error e→0<e∧e≤1000:=by
 induction t using d3 with
 |h kd n nm r ks sys ih1 ih2=>
  intro v d e h
  rw [bh] at h
  split at h
  ·injection h with h;omega
  rcases bm h with h|⟨_,_,h⟩
  ·exact Dq h
  have hkids: ∀ {l:List Tm} {i:Nat},(∀x∈l,∀ {v d e},bh vb db v d x= .error e→0<e∧e≤1000)→dg vb db v d kd i l= .error e→0<e∧e≤1000:=by
   intro l
   induction l with
   |nil=>intro i _ h;rw [dg] at h;cases h
   |cons t l ih=>
    intro i hl h
    rw [dg] at h
    rcases bm h with h|⟨_,_,h⟩
    ·exact hl t (by simp) h
    ·rcases bm h with h|⟨_,_,h⟩
     ·exact ih (fun x hx=>hl x (by simp [hx])) h
     ·cases h
  have hmore: ∀ {l:List Tm},(∀x∈l,∀ {v d e},bh vb db v d x= .error e→0<e∧e≤1000)→ ∀ {e},dh vb db v d kd l= .error e→0<e∧e≤1000:=by
   intro l
   induction l with
   |nil=>intro _ e h;rw [dh] at h;cases h
   |cons t l ih=>
    intro hl e h
    rw [dh] at h
    rcases bm h with h|⟨_,_,h⟩
    ·exact hl t (by simp) h
    ·rcases bm h with h|⟨_,_,h⟩
     ·exact ih (fun x hx=>hl x (by simp [hx])) h
     ·cases h
  have hsys: ∀ {l:List (Br Tm)},(∀b∈l,∀x∈b.kids,∀ {v d e},bh vb db v d x= .error e→0<e∧e≤1000)→cS vb db v d kd l= .error e→0<e∧e≤1000:=by
   intro l
   induction l with
   |nil=>intro _ h;rw [cS] at h;cases h
   |cons b l ih=>
    intro hl h
    rw [cS] at h
    rcases bm h with h|⟨_,_,h⟩
    ·cases b with
     |mk f ks'=>
      rw [jQ] at h
      rcases bm h with h|⟨_,_,h⟩
      ·exact Dq h
      ·rcases bm h with h|⟨_,_,h⟩
       ·exact hmore (hl (Br.mk f ks') (by simp)) h
       ·cases h
    ·rcases bm h with h|⟨_,_,h⟩
     ·exact ih (fun b hb=>hl b (by simp [hb])) h
     ·cases h
  rcases bm h with h|⟨_,_,h⟩
  ·exact hkids (fun x hx=>ih1 x hx) h
  ·rcases bm h with h|⟨_,_,h⟩
   ·exact hsys ih2 h
   ·cases h
end Go.Proofs.YtapmagaejigpnaaGreatDoor
namespace Go.Proofs.YtapmagaejigpnaaGreatDoor
open Go PI
set_option linter.unusedVariables false
set_option linter.unusedSimpArgs false
variable {S:Type} {k:Nat}
abbrev ca:=Int→List Cl→Except Int (List Cl)
mutual
def aw (fo fa:ca) (d:Int):Tm→Except Int Tm
 | .mk kd n nm r ks sys=>bE (if kd=14 then fa d r else fo d r) fun r'=>bE (aM fo fa d kd 0 ks) fun ks'=>bE (aA fo fa d kd sys) fun sys'=> .ok (.mk kd n nm r' ks' sys')
def aM (fo fa:ca) (d kd:Int) (i:Nat):List Tm→Except Int (List Tm)
 |[]=> .ok []
 |t::l=>bE (aw fo fa (d+ci kd i) t) fun t'=>bE (aM fo fa d kd (i+1) l) fun l'=> .ok (t'::l')
def aA (fo fa:ca) (d kd:Int):List (Br Tm)→Except Int (List (Br Tm))
 |[]=> .ok []
 |b::l=>bE (c_ fo fa d kd b) fun o=>bE (aA fo fa d kd l) fun l'=> .ok (o++l')
def c_ (fo fa:ca) (d kd:Int):Br Tm→Except Int (List (Br Tm))
 | .mk f ks=>bE (fa d f) fun f'=>if f'.length=0 then .ok [] else bE (aR fo fa d kd ks) fun ks'=> .ok [.mk f' ks']
def aR (fo fa:ca) (d kd:Int):List Tm→Except Int (List Tm)
 |[]=> .ok []
 |t::l=>bE (aw fo fa (d+ax kd) t) fun t'=>bE (aR fo fa d kd l) fun l'=> .ok (t'::l')
end
theorem SN {fo fa:ca} {d kd:Int} {R:Tm→Tm→Prop}: ∀ {l:List Tm} {i:Nat} {l':List Tm},(∀x∈l,∀d x',aw fo fa d x= .ok x'→R x x')→aM fo fa d kd i l= .ok l'→F2 R l l':=by
 intro l
 induction l with
 |nil=>intro i l' _ h;rw [aM] at h;injection h with h;subst h;exact .nil
 |cons t l ih=>
  intro i l' hr h
  rw [aM] at h
  obtain ⟨t',h1,h⟩:=av h
  obtain ⟨m,h2,h⟩:=av h
  injection h with h;subst h
  exact .cons (hr t (by simp) _ _ h1) (ih (fun x hx=>hr x (by simp [hx])) h2)
theorem SP {fo fa:ca} {d kd:Int} {R:Tm→Tm→Prop}: ∀ {l:List Tm} {l':List Tm},(∀x∈l,∀d x',aw fo fa d x= .ok x'→R x x')→aR fo fa d kd l= .ok l'→F2 R l l':=by
 intro l
 induction l with
 |nil=>intro l' _ h;rw [aR] at h;injection h with h;subst h;exact .nil
 |cons t l ih=>
  intro l' hr h
  rw [aR] at h
  obtain ⟨t',h1,h⟩:=av h
  obtain ⟨m,h2,h⟩:=av h
  injection h with h;subst h
  exact .cons (hr t (by simp) _ _ h1) (ih (fun x hx=>hr x (by simp [hx])) h2)
def Wk (x x':Tm):Prop:=ay x'≤ay x∧aQ x'≤aQ x∧x'.kind=x.kind∧(OkT x→RowsT x→OkT x'∧RowsT x')
theorem Gf {l l':List Tm} (h:F2 Wk l l'):bJ l'≤bJ l:=by
 induction h with
 |nil=>exact Nat.le_refl _
 |cons h1 _ ih=>rw [bJ,bJ];have:=h1.1;omega
theorem Gi {l l':List Tm} (h:F2 Wk l l'):aZ l'≤aZ l:=by
 induction h with
 |nil=>exact Nat.le_refl _
 |cons h1 _ ih=>rw [aZ,aZ];have:=h1.2.1;omega
theorem Gg {l l':List Tm} (h:F2 Wk l l'):bt l→cv l→bt l'∧cv l':=by
 induction h with
 |nil=>exact fun h g=>⟨h,g⟩
 |cons h1 _ ih=>
  rw [bt,bt,cv,cv]
  intro h g
  have a:=h1.2.2.2 h.1 g.1
  have b:=ih h.2 g.2
  exact ⟨⟨a.1,b.1⟩,a.2,b.2⟩
theorem SS {fo fa:ca} {d kd:Int} (hfa: ∀d f g,RF f→fa d f= .ok g→RF g): ∀ {l l':List (Br Tm)},(∀b∈l,∀x∈b.kids,∀d x',aw fo fa d x= .ok x'→Wk x x')→aA fo fa d kd l= .ok l'→
  bX l'≤bX l∧a_ l'≤a_ l∧l'.length≤l.length∧(bG l→da l→bG l'∧da l'):=by
 intro l
 induction l with
 |nil=>intro l' _ h;rw [aA] at h;injection h with h;subst h;exact ⟨Nat.le_refl _,Nat.le_refl _,Nat.le_refl _,fun h g=>⟨h,g⟩⟩
 |cons b l ih=>
  intro l' hr h
  rw [aA] at h
  obtain ⟨o,h1,h⟩:=av h
  obtain ⟨m,h2,h⟩:=av h
  injection h with h;subst h
  obtain ⟨i1,i2,i3,i4⟩:=ih (fun b hb=>hr b (by simp [hb])) h2
  cases b with
  |mk f ks=>
   rw [c_] at h1
   obtain ⟨f',h3,h1⟩:=av h1
   split at h1
   ·injection h1 with h1;subst h1
    refine ⟨?_, ?_, ?_,fun ho hg=> ?_⟩
    ·rw [List.nil_append,bX];omega
    ·rw [List.nil_append,a_];omega
    ·rw [List.nil_append,List.length_cons];omega
    ·rw [bG] at ho;rw [da] at hg
     exact i4 ho.2 hg.2
   ·obtain ⟨ks',h4,h1⟩:=av h1
    injection h1 with h1;subst h1
    have f2:F2 Wk ks ks':=SP (hr ⟨f,ks⟩ (by simp)) h4
    have hd:=Gf f2
    have hs:=Gi f2
    refine ⟨?_, ?_, ?_,fun ho hg=> ?_⟩
    ·show bX (Br.mk f' ks'::m)≤_
     rw [bX,bX,mW,mW];omega
    ·show a_ (Br.mk f' ks'::m)≤_
     rw [a_,a_,i9,i9];omega
    ·simp only [List.length_append,List.length_cons,List.length_nil];omega
    ·rw [bG,j_] at ho;rw [da,jl] at hg
     have a:=Gg f2 ho.1.2 hg.1.2
     have b:=i4 ho.2 hg.2
     have c:=hfa d f f' hg.1.1 h3
     show bG (Br.mk f' ks'::m)∧da (Br.mk f' ks'::m)
     rw [bG,j_,da,jl]
     exact ⟨⟨⟨⟨c.2,by have:=c.len;omega,by rw [f2.len];exact ho.1.1.2.2⟩,a.1⟩,b.1⟩,⟨c,a.2⟩,b.2⟩
theorem F8 {fo fa:ca} (hfo: ∀d f g,RF f→fo d f= .ok g→RF g) (hfa: ∀d f g,RF f→fa d f= .ok g→RF g) (h0: ∀d,fo d []= .ok []) (t:Tm): ∀d t',aw fo fa d t= .ok t'→Wk t t':=by
 induction t using d3 with
 |h kd n nm r ks sys ih1 ih2=>
  intro d t' h
  rw [aw] at h
  obtain ⟨r',hr,h⟩:=av h
  obtain ⟨ks',hk,h⟩:=av h
  obtain ⟨sys',hs,h⟩:=av h
  injection h with h;subst h
  have fk:F2 Wk ks ks':=SN ih1 hk
  obtain ⟨s1,s2,s3,s4⟩:=SS hfa ih2 hs
  refine ⟨?_, ?_,rfl,fun hok hro=> ?_⟩
  ·rw [ay,ay];have:=Gf fk;omega
  ·rw [aQ,aQ];have:=Gi fk;omega
  ·rw [OkT] at hok;rw [RowsT] at hro
   obtain ⟨⟨o1,o2,o3,o4,o5,o6,o7⟩,ok,os⟩:=hok
   obtain ⟨⟨a,b,z⟩,c,e⟩:=hro
   have hk:=Gg fk ok c
   have hs:=s4 os e
   have hrf:RF r':=by
    split at hr
    ·exact hfa d r r' a hr
    ·exact hfo d r r' a hr
   rw [OkT,RowsT]
   refine ⟨⟨⟨o1,o2,o3,hrf.2,by have:=hrf.len;omega,by rw [fk.len];exact o6,by omega⟩,hk.1,hs.1⟩,⟨hrf,fun h1=> ?_,z⟩,hk.2,hs.2⟩
   rw [if_neg (by omega),b h1,h0] at hr
   injection hr with hr;exact hr.symm
section
variable {fo fa:ca} {G:Int→List Cl→List Cl}
def ce (f:ca) (G:Int→List Cl→List Cl):ca:=fun d l=>bE (f d l) fun m=> .ok (G d m)
def aq (G:Int→List Cl→List Cl):ca:=fun d l=> .ok (G d l)
theorem sJ (t:Tm): ∀d,∃t',aw (aq G) (aq G) d t= .ok t':=by
 induction t using d3 with
 |h kd n nm r ks sys ih1 ih2=>
  intro d
  have hk: ∀ {l:List Tm} {i:Nat},(∀x∈l,∀d,∃t',aw (aq G) (aq G) d x= .ok t')→ ∃l',aM (aq G) (aq G) d kd i l= .ok l':=by
   intro l
   induction l with
   |nil=>intro i _;exact ⟨[],by rw [aM]⟩
   |cons t l ih=>
    intro i h
    obtain ⟨t',e⟩:=h t (by simp) (d+ci kd i)
    obtain ⟨l',e'⟩:=ih (i:=i+1) fun x hx=>h x (by simp [hx])
    exact ⟨t'::l',by rw [aM,e,ao,e',ao]⟩
  have hm: ∀ {l:List Tm},(∀x∈l,∀d,∃t',aw (aq G) (aq G) d x= .ok t')→ ∃l',aR (aq G) (aq G) d kd l= .ok l':=by
   intro l
   induction l with
   |nil=>intro _;exact ⟨[],by rw [aR]⟩
   |cons t l ih=>
    intro h
    obtain ⟨t',e⟩:=h t (by simp) (d+ax kd)
    obtain ⟨l',e'⟩:=ih fun x hx=>h x (by simp [hx])
    exact ⟨t'::l',by rw [aR,e,ao,e',ao]⟩
  have hs: ∀ {l:List (Br Tm)},(∀b∈l,∀x∈b.kids,∀d,∃t',aw (aq G) (aq G) d x= .ok t')→ ∃l',aA (aq G) (aq G) d kd l= .ok l':=by
   intro l
   induction l with
   |nil=>intro _;exact ⟨[],by rw [aA]⟩
   |cons b l ih=>
    intro h
    obtain ⟨l',e'⟩:=ih fun b hb=>h b (by simp [hb])
    cases b with
    |mk f ks=>
     obtain ⟨ks',e⟩:=hm (h ⟨f,ks⟩ (by simp))
     have: ∃o,c_ (aq G) (aq G) d kd (.mk f ks)= .ok o:=by
      rw [c_,aq,ao]
      split
      ·exact ⟨_,rfl⟩
      ·exact ⟨_,by rw [e,ao]⟩
     obtain ⟨o,e3⟩:=this
     exact ⟨o++l',by rw [aA,e3,ao,e',ao]⟩
  obtain ⟨ks',ek⟩:=hk (i:=0) ih1
  obtain ⟨sys',es⟩:=hs ih2
  refine ⟨.mk kd n nm (G d r) ks' sys', ?_⟩
  have:(if kd=14 then aq G d r else aq G d r)= .ok (G d r):=by split<;>rfl
  rw [aw,this,ao,ek,ao,es,ao]
theorem SO (d kd:Int): ∀ (l:List Tm) (i:Nat),∃l',aM (aq G) (aq G) d kd i l= .ok l':=by
 intro l
 induction l with
 |nil=>intro i;exact ⟨[],by rw [aM]⟩
 |cons t l ih=>
  intro i
  obtain ⟨t',e⟩:=sJ (G:=G) t (d+ci kd i)
  obtain ⟨l',e'⟩:=ih (i+1)
  exact ⟨t'::l',by rw [aM,e,ao,e',ao]⟩
theorem F6 (d kd:Int): ∀ (l:List Tm),∃l',aR (aq G) (aq G) d kd l= .ok l':=by
 intro l
 induction l with
 |nil=>exact ⟨[],by rw [aR]⟩
 |cons t l ih=>
  obtain ⟨t',e⟩:=sJ (G:=G) t (d+ax kd)
  obtain ⟨l',e'⟩:=ih
  exact ⟨t'::l',by rw [aR,e,ao,e',ao]⟩
theorem SM (d kd:Int) (b:Br Tm): ∃o,c_ (aq G) (aq G) d kd b= .ok o:=by
 cases b with
 |mk f ks=>
  obtain ⟨ks',e⟩:=F6 (G:=G) d kd ks
  rw [c_,aq,ao]
  split
  ·exact ⟨_,rfl⟩
  ·exact ⟨_,by rw [e,ao]⟩
theorem SR (d kd:Int): ∀ (l:List (Br Tm)),∃l',aA (aq G) (aq G) d kd l= .ok l':=by
 intro l
 induction l with
 |nil=>exact ⟨[],by rw [aA]⟩
 |cons b l ih=>
  obtain ⟨l',e'⟩:=ih
  obtain ⟨o,e⟩:=SM (G:=G) d kd b
  exact ⟨o++l',by rw [aA,e,ao,e',ao]⟩
theorem SQ (d kd:Int): ∀ (a b:List (Br Tm)),aA fo fa d kd (a++b)=bE (aA fo fa d kd a) fun a'=>bE (aA fo fa d kd b) fun b'=> .ok (a'++b'):=by
 intro a
 induction a with
 |nil=>intro b;rw [List.nil_append,aA,ao];cases aA fo fa d kd b<;>rfl
 |cons x a ih=>
  intro b
  rw [List.cons_append,aA,aA,ih]
  cases c_ fo fa d kd x with
  |error e=>rfl
  |ok o=>
   rw [ao,ao]
   cases aA fo fa d kd a with
   |error e=>rfl
   |ok a'=>
    rw [ao,ao]
    cases aA fo fa d kd b with
    |error e=>rfl
    |ok b'=>simp only [ao,List.append_assoc]
theorem SV (hfa: ∀d f g,RF f→fa d f= .ok g→RF g) (hG: ∀d f,RF f→((G d f).length=0↔f.length=0)) (t:Tm): ∀d,RowsT t→bE (aw fo fa d t) (aw (aq G) (aq G) d)=aw (ce fo G) (ce fa G) d t:=by
 induction t using d3 with
 |h kd n nm r ks sys ih1 ih2=>
  intro d hrows
  rw [RowsT] at hrows
  obtain ⟨_,hrk,hrs⟩:=hrows
  have hk: ∀ {l:List Tm} {i:Nat},(∀x∈l,∀d,RowsT x→bE (aw fo fa d x) (aw (aq G) (aq G) d)=aw (ce fo G) (ce fa G) d x)→cv l→bE (aM fo fa d kd i l) (aM (aq G) (aq G) d kd i)=aM (ce fo G) (ce fa G) d kd i l:=by
   intro l
   induction l with
   |nil=>intro i _ _;rw [aM,aM,ao,aM]
   |cons t l ih=>
    intro i h hr
    rw [cv] at hr
    have h1:=h t (by simp) (d+ci kd i) hr.1
    have h2:=ih (i:=i+1) (fun x hx=>h x (by simp [hx])) hr.2
    rw [aM,aM,←h1,←h2]
    cases aw fo fa (d+ci kd i) t with
    |error e=>rfl
    |ok t'=>
     rw [ao,ao]
     obtain ⟨t'',e⟩:=sJ (G:=G) t' (d+ci kd i)
     rw [e,ao]
     cases aM fo fa d kd (i+1) l with
     |error e=>rfl
     |ok l'=>
      rw [ao,ao,ao,aM,e,ao]
  have hm: ∀ {l:List Tm},(∀x∈l,∀d,RowsT x→bE (aw fo fa d x) (aw (aq G) (aq G) d)=aw (ce fo G) (ce fa G) d x)→cv l→bE (aR fo fa d kd l) (aR (aq G) (aq G) d kd)=aR (ce fo G) (ce fa G) d kd l:=by
   intro l
   induction l with
   |nil=>intro _ _;rw [aR,aR,ao,aR]
   |cons t l ih=>
    intro h hr
    rw [cv] at hr
    have h1:=h t (by simp) (d+ax kd) hr.1
    have h2:=ih (fun x hx=>h x (by simp [hx])) hr.2
    rw [aR,aR,←h1,←h2]
    cases aw fo fa (d+ax kd) t with
    |error e=>rfl
    |ok t'=>
     rw [ao,ao]
     obtain ⟨t'',e⟩:=sJ (G:=G) t' (d+ax kd)
     rw [e,ao]
     cases aR fo fa d kd l with
     |error e=>rfl
     |ok l'=>
      rw [ao,ao,ao,aR,e,ao]
  have hb: ∀ {b:Br Tm},(∀x∈b.kids,∀d,RowsT x→bE (aw fo fa d x) (aw (aq G) (aq G) d)=aw (ce fo G) (ce fa G) d x)→jl b→bE (c_ fo fa d kd b) (aA (aq G) (aq G) d kd)=c_ (ce fo G) (ce fa G) d kd b:=by
   intro b h hr
   cases b with
   |mk f ks'=>
    rw [jl] at hr
    have h2:=hm h hr.2
    rw [c_,c_]
    show _=bE (bE (fa d f) fun m=> .ok (G d m)) _
    cases hf:fa d f with
    |error e=>rfl
    |ok f'=>
     rw [ao,ao,ao]
     have hg:=hG d f' (hfa d f f' hr.1 hf)
     by_cases h0:f'.length=0
     ·rw [if_pos h0,if_pos (hg.2 h0),ao,aA]
     ·rw [if_neg h0,if_neg (fun h=>h0 (hg.1 h)),←h2]
      cases aR fo fa d kd ks' with
      |error e=>rfl
      |ok l'=>
       rw [ao,ao,ao,aA,c_]
       show bE (bE (.ok (G d f')) _) _=_
       rw [ao,if_neg (fun h=>h0 (hg.1 h))]
       obtain ⟨l'',e⟩:=F6 (G:=G) d kd l'
       rw [e,ao,ao,aA,ao];rfl
  have hs: ∀ {l:List (Br Tm)},(∀b∈l,∀x∈b.kids,∀d,RowsT x→bE (aw fo fa d x) (aw (aq G) (aq G) d)=aw (ce fo G) (ce fa G) d x)→da l→bE (aA fo fa d kd l) (aA (aq G) (aq G) d kd)=aA (ce fo G) (ce fa G) d kd l:=by
   intro l
   induction l with
   |nil=>intro _ _;rw [aA,aA,ao,aA]
   |cons b l ih=>
    intro h hr
    rw [da] at hr
    have h1:=hb (h b (by simp)) hr.1
    have h2:=ih (fun b hb=>h b (by simp [hb])) hr.2
    rw [aA,aA,←h1,←h2]
    cases c_ fo fa d kd b with
    |error e=>rfl
    |ok o=>
     rw [ao,ao]
     obtain ⟨o',e⟩:=SR (G:=G) d kd o
     rw [e,ao]
     cases aA fo fa d kd l with
     |error e=>rfl
     |ok l'=>
      rw [ao,ao,ao,SQ,e,ao]
  rw [aw,aw,←hk (i:=0) ih1 hrk,←hs ih2 hrs]
  have hrow:(if kd=14 then ce fa G d r else ce fo G d r)=bE (if kd=14 then fa d r else fo d r) fun m=> .ok (G d m):=by split<;>rfl
  rw [hrow]
  cases (if kd=14 then fa d r else fo d r) with
  |error e=>rfl
  |ok r'=>
   rw [ao,ao,ao]
   cases aM fo fa d kd 0 ks with
   |error e=>rfl
   |ok ks'=>
    rw [ao,ao]
    obtain ⟨ks'',ek⟩:=SO (G:=G) d kd ks' 0
    rw [ek,ao]
    cases aA fo fa d kd sys with
    |error e=>rfl
    |ok sys'=>
     rw [ao,ao,ao,aw]
     have:(if kd=14 then aq G d r' else aq G d r')= .ok (G d r'):=by split<;>rfl
     rw [this,ao,ek,ao]
end
end Go.Proofs.YtapmagaejigpnaaGreatDoor
namespace Go.Proofs.YtapmagaejigpnaaGreatDoor
open Go PI
set_option linter.unusedVariables false
set_option linter.unusedSimpArgs false
set_option maxRecDepth 20000
variable {S:Type} {k:Nat}
theorem MZ (kd:Int):(kd<0∨kd>28)∨(∃n:Nat,n<29∧kd=n):=by
 by_cases h:kd<0∨kd>28
 ·exact .inl h
 ·exact .inr ⟨kd.toNat,by omega,by omega⟩
theorem Qy (kd:Int) (ret:Int→Option S):p8 k kd ret=ret (fU kd):=by
 simp only [p8,FC]
 rcases MZ kd with h|⟨n,hn,rfl⟩
 ·simp only [dZ,beq_iff_eq]
  unfold fU
  rw [if_pos h]
  repeat rw [if_neg (by omega)]
 ·unfold fU
  rw [if_neg (by omega),Int.toNat_natCast]
  match n,hn with
  |0,_=>rfl
  |1,_=>rfl
  |2,_=>rfl
  |3,_=>rfl
  |4,_=>rfl
  |5,_=>rfl
  |6,_=>rfl
  |7,_=>rfl
  |8,_=>rfl
  |9,_=>rfl
  |10,_=>rfl
  |11,_=>rfl
  |12,_=>rfl
  |13,_=>rfl
  |14,_=>rfl
  |15,_=>rfl
  |16,_=>rfl
  |17,_=>rfl
  |18,_=>rfl
  |19,_=>rfl
  |20,_=>rfl
  |21,_=>rfl
  |22,_=>rfl
  |23,_=>rfl
  |24,_=>rfl
  |25,_=>rfl
  |26,_=>rfl
  |27,_=>rfl
  |28,_=>rfl
  |n+29,h=>exact absurd h (by omega)
theorem lG (kd i:Int) (ret:Int×Int→Option S):ic k kd i ret=ret (fI kd i,ci kd i):=by
 simp only [ic,FA,dZ,beq_iff_eq]
 unfold fI ci
 repeat' split
 all_goals first|rfl|(exfalso;omega)
theorem DP (kd:Int) (ret:Int→Option S):ig k kd ret=ret (dk kd):=by
 simp only [ig,FD,dZ,beq_iff_eq]
 unfold dk
 repeat' split
 all_goals first|rfl|(exfalso;omega)
theorem yo (s t:ByteArray):(s==t)=decide (s=t):=by
 obtain ⟨a⟩:=s;obtain ⟨b⟩:=t
 show (a==b)=_
 rw [Bool.eq_iff_iff,beq_iff_eq,decide_eq_true_eq]
 constructor
 ·rintro rfl;rfl
 ·intro h;injection h
theorem Bx (s:ByteArray):(s==ByteArray.empty)=decide (s.size=0):=by
 rw [yo,Bool.eq_iff_iff,decide_eq_true_eq,decide_eq_true_eq]
 constructor
 ·rintro rfl;rfl
 ·intro h
  obtain ⟨⟨l⟩⟩:=s
  have:l.length=0:=h
  rw [List.length_eq_zero_iff] at this
  subst this;rfl
theorem oa (s:ByteArray):(s.size:Int)=(s.data.toList.length:Int):=by
 obtain ⟨⟨l⟩⟩:=s;rfl
def fY (p:List UInt8) (r:List UInt8):Bool:=match p with
 |[]=>nC r
 |_::_=>r.all fun d=>iM d||mY d
theorem Ov (p:List UInt8) (x:UInt8) (r:List UInt8):fY p (x::r)=((iM x||(decide (p≠[])&&mY x))&&fY (p++[x]) r):=by
 cases p with
 |nil=>simp [fY,nC]
 |cons c l=>simp [fY]
theorem Ow {p:List UInt8}:fY p []=decide (p.length≠0):=by
 cases p with
 |nil=>rfl
 |cons c l=>simp [fY]
theorem NA (hk:Fu k) (ret:Bool→Option S) {s:ByteArray} (hs:s.size<2147483648):
  ∀ (r p:List UInt8) (m:Nat),s.data.toList=p++r→r.length<m→jP k ret s m (p.length:Int)=ret (fY p r):=by
 obtain ⟨q,rfl⟩: ∃q,k=q+1:=⟨k-1,by have:4294967296≤k:=hk;omega⟩
 have hs':s.data.toList.length<2147483648:=by have:=oa s;omega
 intro r
 induction r with
 |nil=>
  intro p m h hm
  obtain ⟨m,rfl,hm'⟩:=ap hm
  simp only [jP,mt,oa,aL h,ac,Bx,Ow]
  have:s.size=p.length:=by have:=oa s;rw [h,List.append_nil] at this;omega
  rw [this]
  by_cases h0:p.length=0<;>simp [h0]
 |cons x r ih=>
  intro p m h hm
  obtain ⟨m,rfl,hm'⟩:=ap hm
  obtain ⟨e1,e2,e3,e4⟩:=aK h (by omega)
  have hi:=ih (p++[x]) m e4 hm'
  rw [Ov]
  simp only [jP,mt,oa,e1,ag,e2,Option.bind_some,bU,qQ,tA,e3,hi]
  have hl: ∀b:Bool,b=iM x→ab (!b) (ab (((p.length:Nat):Int)==0) (ret false) (if ((x.toNat:Nat):Int)<48 then ret false else if ((x.toNat:Nat):Int)>57 then ret false else ret (fY (p++[x]) r))) (ret (fY (p++[x]) r))=ret ((iM x||(decide (p≠[])&&mY x))&&fY (p++[x]) r):=by
   rintro b rfl
   cases iM x with
   |true=>rw [Bool.not_true,ac];simp
   |false=>
    rw [Bool.not_false,ag,dZ]
    by_cases hp:p=[]
    ·subst hp;simp
    ·have h0: ¬ (((p.length:Nat):Int)==0)=true:=by
      have:0<p.length:=List.length_pos_iff.2 hp
      simp;exact hp
     rw [if_neg h0,decide_eq_true hp]
     unfold mY
     by_cases c1:x.toNat<48
     ·rw [if_pos (by omega),decide_eq_false (by omega)];simp
     ·rw [if_neg (by omega),decide_eq_true (by omega)]
      by_cases c2:x.toNat>57
      ·rw [if_pos (by omega),decide_eq_false (by omega)];simp
      ·rw [if_neg (by omega),decide_eq_true (by omega)];simp
  have hb: ∀n:Nat,(((n:Nat):Int)==95)=decide (n=95):=fun n=>by
   rw [Bool.eq_iff_iff];simp;omega
  have hlt:iM x=(decide (97≤x.toNat)&&decide (x.toNat≤122)||decide (65≤x.toNat)&&decide (x.toNat≤90)||decide (x.toNat=95)):=rfl
  by_cases c1:97≤x.toNat
  ·rw [if_pos (show ((x.toNat:Nat):Int)≥97 by omega)]
   by_cases c2:x.toNat≤122
   ·rw [if_pos (by omega)]
    exact hl true (by rw [hlt,decide_eq_true c1,decide_eq_true c2];rfl)
   ·rw [if_neg (by omega),if_pos (by omega),if_neg (by omega),hb]
    exact hl _ (by rw [hlt,decide_eq_false c2,decide_eq_false (show ¬x.toNat≤90 by omega)];simp)
  ·rw [if_neg (show ¬ ((x.toNat:Nat):Int)≥97 by omega)]
   by_cases c3:65≤x.toNat
   ·rw [if_pos (show ((x.toNat:Nat):Int)≥65 by omega)]
    by_cases c4:x.toNat≤90
    ·rw [if_pos (by omega)]
     exact hl true (by rw [hlt,decide_eq_true c3,decide_eq_true c4];simp)
    ·rw [if_neg (by omega),hb]
     exact hl _ (by rw [hlt,decide_eq_false c1,decide_eq_false c4];simp)
   ·rw [if_neg (show ¬ ((x.toNat:Nat):Int)≥65 by omega),hb]
    exact hl _ (by rw [hlt,decide_eq_false c1,decide_eq_false c3];simp)
theorem Q1 (hk:Fu k) {s:ByteArray} (hs:s.size<2147483648) (ret:Bool→Option S):p_ k s ret=ret (nC s.data.toList):=by
 simp only [p_,xL]
 have:=NA hk ret hs s.data.toList [] k rfl (by have:=oa s;have:4294967296≤k:=hk;omega)
 exact this
end Go.Proofs.YtapmagaejigpnaaGreatDoor
namespace Go.Proofs.YtapmagaejigpnaaGreatDoor
open Go PI
set_option linter.unusedVariables false
set_option linter.unusedSimpArgs false
set_option maxRecDepth 20000
variable {S:Type} {k:Nat}
theorem qT (n:Nat):(((n:Nat):Int)==0)=decide (n=0):=by rw [Bool.eq_iff_iff];simp
theorem NE (hk:Fu k) (ret:Bool→Option S) {t:Tm} {dims:Int} (hd:0≤dims) (hd':dims<9223372036854775808) (hs: ∀b∈t.sys,ai b.face∧b.face.length<1073741824) (hlen:t.sys.length<1073741824):
  ∀ (r p:List (Br Tm)) (m:Nat),t.sys=p++r→r.length<m→gQ k ret t dims m (p.length:Int)=ret (r.all (fJ t.kind dims)&&decide (t.r.length=0)):=by
 intro r
 induction r with
 |nil=>
  intro p m h hm
  obtain ⟨m,rfl,hm'⟩:=ap hm
  simp only [gQ,pm,aL h,ac,qT,List.all_nil,Bool.true_and]
 |cons x r ih=>
  intro p m h hm
  obtain ⟨m,rfl,hm'⟩:=ap hm
  obtain ⟨e1,e2,e3,e4⟩:=aK h (by omega)
  have hx:=hs x (by rw [h];simp)
  have hb:((x.kids.length:Int)==dk t.kind)=decide ((x.kids.length:Int)=dk t.kind):=by rw [Bool.eq_iff_iff];simp
  simp only [gQ,pm,e1,ag,e2,Option.bind_some,am hk,DP,n5 hk hx.1 (show x.face.length<2147483648 by omega),D8 hk hx.1 (show x.face.length<4294967296 by omega) hd hd',e3,ih (p++[x]) m e4 hm',List.all_cons,hb]
  have:fJ t.kind dims x=(decide ((x.kids.length:Int)=dk t.kind)&&(bj x.face&&eO x.face dims)):=rfl
  rw [this]
  cases decide ((x.kids.length:Int)=dk t.kind) with
  |false=>rw [Bool.not_false,ag];rfl
  |true=>
   rw [Bool.not_true,ac]
   cases bj x.face with
   |false=>rw [Bool.not_false,ag];rfl
   |true=>
    rw [Bool.not_true,ac]
    cases eO x.face dims with
    |false=>rw [Bool.not_false,ag];rfl
    |true=>rw [Bool.not_true,ac];rfl
theorem D9 {S:Type} (b c:Bool) (ret:Bool→Option S):ab b (ret c) (ret false)=ret (b&&c):=by
 cases b<;>rfl
def jX (vars dims:Int) (t:Tm):Bool:=
 if t.kind=1 then decide (t.r.length=0)&&(decide (0≤t.n)&&decide (vars<0∨t.n<vars))
   else if t.kind=2 then decide (t.r.length=0)&&nC t.name.data.toList
   else if t.kind=13∨t.kind=21∨t.kind=26 then be t.r&&eO t.r dims
   else if t.kind=14 then bj t.r&&eO t.r dims
   else t.sys.all (fJ t.kind dims)&&decide (t.r.length=0)
theorem Pe (vars dims:Int) (t:Tm):f8 vars dims t=((decide (fU t.kind=t.kids.length)&&(decide (t.kind=1∨t.n=0)&&(decide (t.kind=2∨t.name.size=0)&&decide (dk t.kind=0→t.sys.length=0))))&&jX vars dims t):=by
 cases t;rfl
def I4 (t:Tm):Prop:=aI t.kind∧aI t.n∧t.name.size<1073741824∧ai t.r∧t.r.length<1073741824∧t.kids.length<1073741824∧t.sys.length<1073741824
theorem OkT.no {t:Tm} (h:OkT t):I4 t:=by cases t;exact h.node
theorem OkT.ki {t x:Tm} (h:OkT t) (hx:x∈t.kids):OkT x:=by cases t;exact h.kid hx
theorem OkT.bi {t:Tm} {b:Br Tm} (h:OkT t) (hb:b∈t.sys):(ai b.face∧b.face.length<1073741824∧b.kids.length<1073741824)∧ ∀t∈b.kids,OkT t:=by cases t;exact h.br hb
theorem Q8 (hk:Fu k) {t:Tm} (ht:OkT t) {vars dims:Int} (hd:0≤dims) (hd':dims<9223372036854775808) (ret:Bool→Option S):qR k ret t vars dims k=ret (jX vars dims t):=by
 obtain ⟨o1,o2,o3,o4,o5,o6,o7⟩:=ht.no
 have hb:=fun b hb=>(ht.bi (b:=b) hb).1
 obtain ⟨q,hq⟩: ∃q,k=q+1:=⟨k-1,by have:4294967296≤k:=hk;omega⟩
 have: ∀j,j=q+1→qR k ret t vars dims j=mu k ret t vars dims (fun v109=>gQ k ret t dims k v109):=by rintro j rfl;rfl
 rw [this k hq]
 have hl:=NE hk ret hd hd' (fun b h=>⟨(hb b h).1,(hb b h).2.1⟩) o7 t.sys [] k rfl (by have:4294967296≤k:=hk;omega)
 have hl:gQ k ret t dims k 0=_:=hl
 simp only [mu,am hk,Q1 hk (show t.name.size<2147483648 by omega),lJ hk o4 (show t.r.length<2147483648 by omega),n5 hk o4 (show t.r.length<2147483648 by omega),D8 hk o4 (show t.r.length<4294967296 by omega) hd hd',hl,qT,D9]
 have hv:ab (decide (t.n≥0)) (ab (decide (vars<0)) (ret true) (ret (decide (t.n<vars)))) (ret false)=ret (decide (0≤t.n)&&decide (vars<0∨t.n<vars)):=by
  rw [bU,bU]
  by_cases h1:t.n≥0
  ·rw [if_pos h1,decide_eq_true (show 0≤t.n from h1),Bool.true_and]
   by_cases h2:vars<0
   ·rw [if_pos h2,decide_eq_true (.inl h2)]
   ·rw [if_neg h2];congr 1;rw [decide_eq_decide];omega
  ·rw [if_neg h1,decide_eq_false (show ¬0≤t.n from h1)];rfl
 rw [hv,D9]
 simp only [dZ,beq_iff_eq]
 unfold jX
 by_cases c1:t.kind=1
 ·rw [if_pos c1,if_pos c1]
 ·rw [if_neg c1,if_neg c1]
  by_cases c2:t.kind=2
  ·rw [if_pos c2,if_pos c2]
  ·rw [if_neg c2,if_neg c2]
   by_cases c3:t.kind=13
   ·rw [if_pos c3,if_pos (.inl c3)]
   ·rw [if_neg c3]
    by_cases c4:t.kind=21
    ·rw [if_pos c4,if_pos (.inr (.inl c4))]
    ·rw [if_neg c4]
     by_cases c5:t.kind=26
     ·rw [if_pos c5,if_pos (.inr (.inr c5))]
     ·rw [if_neg c5,if_neg (show ¬ (t.kind=13∨t.kind=21∨t.kind=26) by omega)]
      by_cases c6:t.kind=14
      ·rw [if_pos c6,if_pos c6]
      ·rw [if_neg c6,if_neg c6]
theorem Q7 (hk:Fu k) {t:Tm} (ht:OkT t) {vars dims:Int} (hd:0≤dims) (hd':dims<9223372036854775808) (ret:Bool→Option S):mS k t vars dims ret=ret (f8 vars dims t):=by
 have hq:(fU t.kind==(t.kids.length:Int))=decide (fU t.kind=t.kids.length):=by rw [Bool.eq_iff_iff];simp
 have hp:(dk t.kind==0)=decide (dk t.kind=0):=bM _
 simp only [mS,xM,am hk,Qy,DP,Q8 hk ht hd hd',Bx,hq,hp,bM,Pe]
 have hsy:ab (decide (dk t.kind=0)) (ab (decide (((t.sys.length:Nat):Int)>0)) (ret false) (ret (jX vars dims t))) (ret (jX vars dims t))=ret (decide (dk t.kind=0→t.sys.length=0)&&jX vars dims t):=by
  rw [bU,bU]
  by_cases h1:dk t.kind=0
  ·rw [if_pos h1]
   by_cases h2:t.sys.length=0
   ·rw [if_neg (by omega),decide_eq_true (fun _=>h2)];rfl
   ·rw [if_pos (by omega),decide_eq_false (fun h=>h2 (h h1))];rfl
  ·rw [if_neg h1,decide_eq_true (fun h=>absurd h h1)];rfl
 simp only [hsy]
 have hk1: ∀n:Int,(t.kind==n)=decide (t.kind=n):=fun n=>by rw [Bool.eq_iff_iff];simp
 rw [hk1,hk1]
 generalize decide (dk t.kind=0→t.sys.length=0)=P
 generalize jX vars dims t=Q
 cases decide (fU t.kind=t.kids.length) with
 |false=>rw [Bool.not_false,ag];rfl
 |true=>
  rw [Bool.not_true,ac,Bool.true_and]
  by_cases c1:t.kind=1
  ·rw [decide_eq_true c1,Bool.not_true,ac,decide_eq_true (p:=t.kind=1∨t.n=0) (.inl c1),Bool.true_and]
   by_cases c2:t.kind=2
   ·omega
   ·rw [decide_eq_false c2,Bool.not_false,ag]
    by_cases c3:t.name.size=0
    ·rw [decide_eq_true c3,Bool.not_true,ac,decide_eq_true (p:=t.kind=2∨t.name.size=0) (.inr c3),Bool.true_and]
    ·rw [decide_eq_false c3,Bool.not_false,ag,decide_eq_false (p:=t.kind=2∨t.name.size=0) (by omega)];rfl
  ·rw [decide_eq_false c1,Bool.not_false,ag]
   by_cases c4:t.n=0
   ·rw [decide_eq_true c4,Bool.not_true,ac,decide_eq_true (p:=t.kind=1∨t.n=0) (.inr c4),Bool.true_and]
    by_cases c2:t.kind=2
    ·rw [decide_eq_true c2,Bool.not_true,ac,decide_eq_true (p:=t.kind=2∨t.name.size=0) (.inl c2),Bool.true_and]
    ·rw [decide_eq_false c2,Bool.not_false,ag]
     by_cases c3:t.name.size=0
     ·rw [decide_eq_true c3,Bool.not_true,ac,decide_eq_true (p:=t.kind=2∨t.name.size=0) (.inr c3),Bool.true_and]
     ·rw [decide_eq_false c3,Bool.not_false,ag,decide_eq_false (p:=t.kind=2∨t.name.size=0) (by omega)];rfl
   ·rw [decide_eq_false c4,Bool.not_false,ag,decide_eq_false (p:=t.kind=1∨t.n=0) (by omega)];rfl
end Go.Proofs.YtapmagaejigpnaaGreatDoor
namespace Go.Proofs.YtapmagaejigpnaaGreatDoor
open Go PI
set_option linter.unusedVariables false
set_option linter.unusedSimpArgs false
set_option maxRecDepth 20000
variable {S:Type} {k:Nat}
abbrev Fd (k n:Nat):Prop:=4294967296+n≤k
theorem Fd.fu {n:Nat} (h:Fd k n):Fu k:=by have:4294967296+n≤k:=h;show 4294967296≤k;omega
theorem Fd.pos {n:Nat} (h:Fd k n): ∃q,k=q+1∧ ∀j,j+1≤n→Fd q j:=⟨k-1,by have:4294967296+n≤k:=h;omega,fun j hj=>by have:4294967296+n≤k:=h;show 4294967296+j≤k-1;omega⟩
theorem Fd.pos' {n:Nat} (h:Fd k n) (hn:1≤n): ∃q,k=q+1∧Fu q∧ ∀j,j+1≤n→Fd q j:=⟨k-1,by have:4294967296+n≤k:=h;omega,by have:4294967296+n≤k:=h;show 4294967296≤k-1;omega,fun j hj=>by have:4294967296+n≤k:=h;show 4294967296+j≤k-1;omega⟩
theorem dQ (t:Tm):1≤ay t:=by cases t;rw [ay];omega
theorem qe (t:Tm):ay t=max (bJ t.kids) (bX t.sys)+1:=by cases t;rw [ay];rfl
theorem Ei (t:Tm):aQ t=1+aZ t.kids+a_ t.sys:=by cases t;rw [aQ];rfl
theorem ee {t x:Tm} (h:x∈t.kids):ay x+1≤ay t:=by rw [qe t];have:=yU h;omega
theorem d_ {t:Tm} {b:Br Tm} {x:Tm} (hb:b∈t.sys) (h:x∈b.kids):ay x+1≤ay t:=by rw [qe t];have:=yU h;have:=JW hb;omega
theorem gj {Q:Tm→Prop} (h: ∀t,(∀x∈t.kids,Q x)→(∀b∈t.sys,∀x∈b.kids,Q x)→Q t) (t:Tm):Q t:=d3 (fun kd n nm r ks sys h1 h2=>h (.mk kd n nm r ks sys) h1 h2) t
theorem qc {p q:Prop} [Decidable p] [Decidable q] (h:p↔q):decide p=decide q:=decide_eq_decide.2 h
theorem D_ {α:Type} (b c:Bool) (x y:α):ab (!b) y (if c then x else y)=if b&&c then x else y:=by cases b<;>cases c<;>rfl
theorem Ea {S:Type} (b c:Bool) (ret:Bool→Option S):ab (!b) (ret false) (ret c)=ret (b&&c):=by cases b<;>rfl
theorem z8 {S:Type} (b c:Bool) (ret:Bool→Option S):(if b=true then ret c else ret false)=ret (b&&c):=by cases b<;>rfl
theorem cP {n:Int} (h1: -9223372036854775808≤n) (h2:n<9223372036854775808):IntKind.wrap .i64 n=n:=Gl h1 h2
section
variable {hd:Tm→Int→(Bool→Option S)→Option S} {c0:Int} {t:Tm} {Q:Tm→Bool}
theorem Ng (hk:Fu k) (ret:Bool→Option S) (rec1:Int→Int→Option S) (hc: -9223372036854775807≤c0) (hc':c0<9223372036854775808) {v more:Int} {x:Br Tm} (hQ: ∀y∈x.kids,∀g,hd y (c0-1) g=g (Q y)) (hl:x.kids.length<1073741824):
  ∀ (r p:List Tm) (m:Nat),x.kids=p++r→r.length<m→iL hd k ret rec1 c0 t v x more m (p.length:Int)=if r.all Q then rec1 (IntKind.wrap .i64 (v+1)) more else ret false:=by
 intro r
 induction r with
 |nil=>
  intro p m h hm
  obtain ⟨m,rfl,hm'⟩:=ap hm
  simp only [iL,pk,aL h,ac];rfl
 |cons y r ih=>
  intro p m h hm
  obtain ⟨m,rfl,hm'⟩:=ap hm
  obtain ⟨e1,e2,e3,e4⟩:=aK h (by omega)
  have hy:=hQ y (by rw [h];simp)
  simp only [iL,pk,e1,ag,e2,Option.bind_some,am hk,mT,xN,a8,cP (show-9223372036854775808≤c0-1 by omega) (by omega),hy,e3,ih (p++[y]) m e4 hm',D_]
  rfl
theorem Nf (hk:Fu k) (ret:Bool→Option S) (hc: -9223372036854775807≤c0) (hc':c0<9223372036854775808) {more:Int} (hQ: ∀b∈t.sys,∀y∈b.kids,∀g,hd y (c0-1) g=g (Q y)) (hl:t.sys.length<1073741824) (hl': ∀b∈t.sys,b.kids.length<1073741824):
  ∀ (r p:List (Br Tm)) (m:Nat),t.sys=p++r→r.length<m→fh hd k ret c0 t m (p.length:Int) more=ret (r.all fun b=>b.kids.all Q):=by
 intro r
 induction r with
 |nil=>
  intro p m h hm
  obtain ⟨m,rfl,hm'⟩:=ap hm
  simp only [fh,mq,aL h,ac];rfl
 |cons x r ih=>
  intro p m h hm
  obtain ⟨m,rfl,hm'⟩:=ap hm
  obtain ⟨e1,e2,e3,e4⟩:=aK h (by omega)
  have hx:x∈t.sys:=by rw [h];simp
  have hlx:=hl' x hx
  have:=Ng (t:=t) hk ret (fh hd k ret c0 t m) (v:=(p.length:Int)) (more:=more) hc hc' (hQ x hx) hlx x.kids [] k rfl (by have:4294967296≤k:=hk;omega)
  have this:iL hd k ret (fh hd k ret c0 t m) c0 t (p.length:Int) x more k 0=_:=this
  simp only [fh,mq,e1,ag,e2,Option.bind_some,this,e3,ih (p++[x]) m e4 hm',z8]
  rfl
theorem Nd (hk:Fu k) (ret:Bool→Option S) (hc: -9223372036854775807≤c0) (hc':c0<9223372036854775808) (hQ: ∀y∈t.kids,∀g,hd y (c0-1) g=g (Q y)) (hQ': ∀b∈t.sys,∀y∈b.kids,∀g,hd y (c0-1) g=g (Q y)) (ht:OkT t):
  ∀ (r p:List Tm) (m:Nat),t.kids=p++r→r.length<m→lb hd k ret c0 t m (p.length:Int)=ret (r.all Q&&t.sys.all fun b=>b.kids.all Q):=by
 obtain ⟨o1,o2,o3,o4,o5,o6,o7⟩:=ht.no
 intro r
 induction r with
 |nil=>
  intro p m h hm
  obtain ⟨m,rfl,hm'⟩:=ap hm
  have hs: ∀more:Int,fh hd k ret c0 t k 0 more=_:=fun more=>Nf hk ret hc hc' (more:=more) hQ' o7 (fun b hb=>(ht.bi hb).1.2.2) t.sys [] k rfl (by have:4294967296≤k:=hk;omega)
  simp only [lb,mo,aL h,ac,hs]
  cases (t.kind==15)<;>rfl
 |cons y r ih=>
  intro p m h hm
  obtain ⟨m,rfl,hm'⟩:=ap hm
  obtain ⟨e1,e2,e3,e4⟩:=aK h (by omega)
  have hy:=hQ y (by rw [h];simp)
  simp only [lb,mo,e1,ag,e2,Option.bind_some,am hk,lG,mT,xN,a8,cP (show-9223372036854775808≤c0-1 by omega) (by omega),hy,e3,ih (p++[y]) m e4 hm',Ea,List.all_cons,Bool.and_assoc]
end
theorem yS {n:Int} (hn:0≤n): ∀ {l:List Tm},(l.all fun x=>decide ((ay x:Int)≤n))=decide ((bJ l:Int)≤n):=by
 intro l
 induction l with
 |nil=>rw [bJ];simp [hn]
 |cons t l ih=>rw [List.all_cons,ih,bJ,Bool.eq_iff_iff];simp;omega
theorem JU {n:Int} (hn:0≤n): ∀ {l:List (Br Tm)},(l.all fun b=>b.kids.all fun x=>decide ((ay x:Int)≤n))=decide ((bX l:Int)≤n):=by
 intro l
 induction l with
 |nil=>rw [bX];simp [hn]
 |cons b l ih=>rw [List.all_cons,ih,yS hn,bX,mX,Bool.eq_iff_iff];simp;omega
theorem Rd (t:Tm):OkT t→ ∀ {k:Nat} {left:Int} (ret:Bool→Option S),Fd k (ay t)→ -4611686018427387904≤left→left<4611686018427387904→fQ k t left ret=ret (decide ((ay t:Int)≤left)):=by
 induction t using gj with
 |h t ih1 ih2=>
  intro ht k left ret hk h1 h2
  obtain ⟨q,rfl,hq,hf⟩:=hk.pos' (dQ t)
  simp only [fQ,FG,bU,a8,am hq]
  by_cases h0:left>0
  ·rw [if_pos h0]
   have hQ: ∀y∈t.kids,∀g:Bool→Option S,fQ q y (left-1) g=g (decide ((ay y:Int)≤left-1)):=fun y hy g=>ih1 y hy (ht.ki hy) g (hf _ (ee hy)) (by omega) (by omega)
   have hQ': ∀b∈t.sys,∀y∈b.kids,∀g:Bool→Option S,fQ q y (left-1) g=g (decide ((ay y:Int)≤left-1)):=fun b hb y hy g=>ih2 b hb y hy ((ht.bi hb).2 y hy) g (hf _ (d_ hb hy)) (by omega) (by omega)
   have:=Nd (Q:=fun y=>decide ((ay y:Int)≤left-1)) hq ret (by omega) (by omega) hQ hQ' ht t.kids [] q rfl (by have:=ht.no.2.2.2.2.2.1;have:4294967296≤q:=hq;omega)
   simp only [ug,xK]
   refine Eq.trans this ?_
   rw [yS (by omega),JU (by omega),qe]
   congr 1
   rw [Bool.eq_iff_iff];simp;omega
  ·rw [if_neg h0,decide_eq_false (by have:=dQ t;omega)]
section
variable {hd:Tm→Int→(Bool×Int→Option S)→Option S} {t:Tm}
def lR (hd:Tm→Int→(Bool×Int→Option S)→Option S) (k:Nat) (y:Tm):Prop:= ∀ (c:Int) (g:Bool×Int→Option S),0≤c→c<4611686018427387904→
 ∃v,kx hd k y c g=g (decide ((aQ y:Int)≤c),v)∧((aQ y:Int)≤c→v=c-aQ y)
theorem Nc (hk:Fu k) (ret:Bool×Int→Option S) (rec1:Int→Int→Int→Option S) {v more:Int} {x:Br Tm} (hQ: ∀y∈x.kids,lR hd k y) (hl:x.kids.length<1073741824):
  ∀ (r p:List Tm) (m:Nat) (c:Int),0≤c→c<4611686018427387904→x.kids=p++r→r.length<m→
  ((aZ r:Int)≤c→ff hd k ret rec1 t v x more m c (p.length:Int)=rec1 (c-aZ r) (IntKind.wrap .i64 (v+1)) more)∧(¬ (aZ r:Int)≤c→ ∃w,ff hd k ret rec1 t v x more m c (p.length:Int)=ret (false,w)):=by
 intro r
 induction r with
 |nil=>
  intro p m c h0 h1 h hm
  obtain ⟨m,rfl,hm'⟩:=ap hm
  simp only [ff,pi,aL h,ac,aZ]
  exact ⟨fun _=>by simp,fun h=>absurd h (by simpa using h0)⟩
 |cons y r ih=>
  intro p m c h0 h1 h hm
  obtain ⟨m,rfl,hm'⟩:=ap hm
  obtain ⟨e1,e2,e3,e4⟩:=aK h (by omega)
  have hy:=hQ y (by rw [h];simp)
  obtain ⟨w,hw,hw'⟩:=hy c (fun r1=>(fun r6:Bool×Int=>ab (!r6.1) (ret (false,r6.2)) (ff hd k ret rec1 t v x more m r6.2 (((p++[y]).length:Nat):Int))) (r1.1,r1.2)) h0 h1
  simp only [ff,pi,e1,ag,e2,Option.bind_some,am hk,mV,xO,a8,e3,aZ]
  rw [hw]
  by_cases hs:(aQ y:Int)≤c
  ·have:=hw' hs
   subst this
   obtain ⟨i1,i2⟩:=ih (p++[y]) m (c-aQ y) (by omega) (by omega) e4 hm'
   simp only [decide_eq_true hs,Bool.not_true,ac]
   refine ⟨fun h=> ?_,fun h=> ?_⟩
   ·rw [i1 (by omega)];congr 1;omega
   ·exact i2 (by omega)
  ·simp only [decide_eq_false hs,Bool.not_false,ag]
   exact ⟨fun h=>absurd h (by omega),fun _=>⟨w,rfl⟩⟩
theorem Nb (hk:Fu k) (ret:Bool×Int→Option S) {more:Int} (hQ: ∀b∈t.sys,∀y∈b.kids,lR hd k y) (hl:t.sys.length<1073741824) (hl': ∀b∈t.sys,b.kids.length<1073741824):
  ∀ (r p:List (Br Tm)) (m:Nat) (c:Int),0≤c→c<4611686018427387904→t.sys=p++r→r.length<m→
  ((a_ r:Int)≤c→ej hd k ret t m c (p.length:Int) more=ret (true,c-a_ r))∧(¬ (a_ r:Int)≤c→ ∃w,ej hd k ret t m c (p.length:Int) more=ret (false,w)):=by
 intro r
 induction r with
 |nil=>
  intro p m c h0 h1 h hm
  obtain ⟨m,rfl,hm'⟩:=ap hm
  simp only [ej,ml,aL h,ac,a_]
  exact ⟨fun _=>by simp,fun h=>absurd h (by simpa using h0)⟩
 |cons x r ih=>
  intro p m c h0 h1 h hm
  obtain ⟨m,rfl,hm'⟩:=ap hm
  obtain ⟨e1,e2,e3,e4⟩:=aK h (by omega)
  have hx:x∈t.sys:=by rw [h];simp
  have hlx:=hl' x hx
  have:=Nc (t:=t) hk ret (ej hd k ret t m) (v:=(p.length:Int)) (more:=more) (hQ x hx) hlx x.kids [] k c h0 h1 rfl (by have:4294967296≤k:=hk;omega)
  simp only [ej,ml,e1,ag,e2,Option.bind_some,a_,n_]
  by_cases hs:(aZ x.kids:Int)≤c
  ·have e:ff hd k ret (ej hd k ret t m) t (p.length:Int) x more k c 0=_:=this.1 hs
   obtain ⟨i1,i2⟩:=ih (p++[x]) m (c-aZ x.kids) (by omega) (by omega) e4 hm'
   rw [e,e3]
   refine ⟨fun h=> ?_,fun h=>i2 (by omega)⟩
   rw [i1 (by omega)];congr 2;omega
  ·obtain ⟨w,e⟩:=this.2 hs
   have e:ff hd k ret (ej hd k ret t m) t (p.length:Int) x more k c 0=_:=e
   rw [e]
   exact ⟨fun h=>absurd h (by omega),fun _=>⟨w,rfl⟩⟩
theorem Na (hk:Fu k) (ret:Bool×Int→Option S) (hQ: ∀y∈t.kids,lR hd k y) (hQ': ∀b∈t.sys,∀y∈b.kids,lR hd k y) (ht:OkT t):
  ∀ (r p:List Tm) (m:Nat) (c:Int),0≤c→c<4611686018427387904→t.kids=p++r→r.length<m→
  ∃w,jN hd k ret t m c (p.length:Int)=ret (decide (((aZ r+a_ t.sys:Nat):Int)≤c),w)∧(((aZ r+a_ t.sys:Nat):Int)≤c→w=c-((aZ r+a_ t.sys:Nat):Int)):=by
 obtain ⟨o1,o2,o3,o4,o5,o6,o7⟩:=ht.no
 intro r
 induction r with
 |nil=>
  intro p m c h0 h1 h hm
  obtain ⟨m,rfl,hm'⟩:=ap hm
  have hs: ∀more:Int,_:=fun more=>Nb hk ret (more:=more) hQ' o7 (fun b hb=>(ht.bi hb).1.2.2) t.sys [] k c h0 h1 rfl (by have:4294967296≤k:=hk;omega)
  have key: ∀more:Int,∃w,ej hd k ret t k c 0 more=ret (decide (((a_ t.sys:Nat):Int)≤c),w)∧(((a_ t.sys:Nat):Int)≤c→w=c-((a_ t.sys:Nat):Int)):=fun more=>by
   by_cases hc:(a_ t.sys:Int)≤c
   ·exact ⟨_,((hs more).1 hc).trans (by rw [decide_eq_true hc]),fun _=>rfl⟩
   ·obtain ⟨w,e⟩:=(hs more).2 hc
    exact ⟨w,Eq.trans e (by rw [decide_eq_false hc]),fun h=>absurd h hc⟩
  have hz:aZ []+a_ t.sys=a_ t.sys:=by rw [aZ,Nat.zero_add]
  rw [hz]
  simp only [jN,mj,aL h,ac]
  cases (t.kind==15) with
  |true=>exact key 1
  |false=>exact key 0
 |cons y r ih=>
  intro p m c h0 h1 h hm
  obtain ⟨m,rfl,hm'⟩:=ap hm
  obtain ⟨e1,e2,e3,e4⟩:=aK h (by omega)
  have hy:=hQ y (by rw [h];simp)
  obtain ⟨w,hw,hw'⟩:=hy c (fun r1=>(fun r3:Bool×Int=>ab (!r3.1) (ret (false,r3.2)) (jN hd k ret t m r3.2 (((p++[y]).length:Nat):Int))) (r1.1,r1.2)) h0 h1
  have hz:aZ (y::r)+a_ t.sys=aQ y+aZ r+a_ t.sys:=by rw [aZ]
  rw [hz]
  simp only [jN,mj,e1,ag,e2,Option.bind_some,am hk,lG,mV,xO,a8,e3]
  rw [hw]
  by_cases hs:(aQ y:Int)≤c
  ·have:=hw' hs
   subst this
   obtain ⟨u,i1,i2⟩:=ih (p++[y]) m (c-aQ y) (by omega) (by omega) e4 hm'
   simp only [decide_eq_true hs,Bool.not_true,ac]
   refine ⟨u,i1.trans ?_,fun h=> ?_⟩
   ·congr 2;exact qc (by omega)
   ·rw [i2 (by omega)];omega
  ·simp only [decide_eq_false hs,Bool.not_false,ag]
   exact ⟨w,by rw [decide_eq_false (by omega)],fun h=>absurd h (by omega)⟩
end
theorem QJ (t:Tm):OkT t→ ∀ {k:Nat} (c:Int) (ret:Bool×Int→Option S),Fd k (ay t)→0≤c→c<4611686018427387904→
  ∃w,dP k t c ret=ret (decide ((aQ t:Int)-1≤c),w)∧((aQ t:Int)-1≤c→w=c-((aQ t:Int)-1)):=by
 induction t using gj with
 |h t ih1 ih2=>
  intro ht k c ret hk h1 h2
  obtain ⟨q,rfl,hq,hf⟩:=hk.pos' (dQ t)
  have cnt: ∀y,(∀ {k:Nat} (c:Int) (ret:Bool×Int→Option S),Fd k (ay y)→0≤c→c<4611686018427387904→ ∃w,dP k y c ret=ret (decide ((aQ y:Int)-1≤c),w)∧((aQ y:Int)-1≤c→w=c-((aQ y:Int)-1)))→
    Fd q (ay y)→lR (S:=S) (dP q) q y:=by
   intro y hy hfy c g h0 h1
   simp only [kx,xP,a8,cP (show-9223372036854775808≤c-1 by omega) (by omega),bU]
   have:=Ek y
   by_cases hc:c-1≥0
   ·rw [if_pos hc]
    obtain ⟨w,e,e'⟩:=hy (c-1) (fun r1=>g (r1.1,r1.2)) hfy (by omega) (by omega)
    refine ⟨w,e.trans ?_,fun h=> ?_⟩
    ·congr 2;exact qc (by omega)
    ·rw [e' (by omega)];omega
   ·rw [if_neg hc]
    exact ⟨c-1,by rw [decide_eq_false (by omega)],fun h=>by omega⟩
  obtain ⟨w,e,e'⟩:=Na hq ret (fun y hy=>cnt y (fun c ret=>ih1 y hy (ht.ki hy) c ret) (hf _ (ee hy))) (fun b hb y hy=>cnt y (fun c ret=>ih2 b hb y hy ((ht.bi hb).2 y hy) c ret) (hf _ (d_ hb hy))) ht t.kids [] q c h1 h2 rfl (by have:=ht.no.2.2.2.2.2.1;have:4294967296≤q:=hq;omega)
  simp only [dP,xH]
  have hz:=Ei t
  refine ⟨w,Eq.trans e ?_,fun h=> ?_⟩
  ·congr 2;exact qc (by omega)
  ·rw [e' (by omega)];omega
theorem Rf {t:Tm} (ht:OkT t) (hk:Fd k (ay t)) {most:Int} (h0:0<most) (h1:most<4611686018427387904) (ret:Bool→Option S):qb k t most ret=ret (decide ((aQ t:Int)≤most)):=by
 simp only [qb,FI,am hk.fu,kx,xP,a8,cP (show-9223372036854775808≤most-1 by omega) (by omega),bU]
 rw [if_pos (by omega)]
 obtain ⟨w,e,_⟩:=QJ t ht (most-1) (fun r1=>ret (r1.1,r1.2).1) hk (by omega) (by omega)
 refine Eq.trans e ?_
 show ret (decide _)=_
 congr 1;exact qc (by omega)
def VD (vars dims:Int) (n:Nat):Prop:= -4611686018427387904≤vars∧vars+n<4611686018427387904∧0≤dims∧dims+n<4611686018427387904
section
variable {hd:Tm→Int→Int→Bool→(Bool→Option S)→Option S} {vars dims:Int} {bd:Bool} {t:Tm}
theorem DR (hv:VD vars dims 1) {v d:Int} (h1:0≤v∧v≤1) (h2:0≤d∧d≤1) (y:Tm) (g:Bool→Option S):mR hd k y v d vars dims bd g=hd y (d5 vars v) (dims+d) bd g:=by
 unfold VD at hv
 simp only [mR,FF,a8,bU,cP (n:=vars+0) (by omega) (by omega),cP (n:=vars+v) (by omega) (by omega),cP (n:=dims+d) (by omega) (by omega)]
 unfold d5
 split
 ·rw [Int.add_zero]
 ·rfl
theorem M_ (hk:Fu k) (ret:Bool→Option S) (rec1:Int→Int→Option S) (hv:VD vars dims 1) {v more:Int} {x:Br Tm} (hm:more=ax t.kind) (hQ: ∀y∈x.kids,∀g,hd y vars (dims+more) bd g=g (bH bd vars (dims+more) y)) (hl:x.kids.length<1073741824):
  ∀ (r p:List Tm) (m:Nat),x.kids=p++r→r.length<m→iJ hd k ret rec1 vars dims bd t v x more m (p.length:Int)=if dM bd vars dims t.kind r then rec1 (IntKind.wrap .i64 (v+1)) more else ret false:=by
 subst hm
 intro r
 induction r with
 |nil=>
  intro p m h hm
  obtain ⟨m,rfl,hm'⟩:=ap hm
  simp only [iJ,pj,aL h,ac];rfl
 |cons y r ih=>
  intro p m h hm
  obtain ⟨m,rfl,hm'⟩:=ap hm
  obtain ⟨e1,e2,e3,e4⟩:=aK h (by omega)
  have hy:=hQ y (by rw [h];simp)
  have h0:d5 vars 0=vars:=by unfold d5;split<;>omega
  simp only [iJ,pj,e1,ag,e2,Option.bind_some,am hk,a8,DR hv (show (0:Int)≤0∧(0:Int)≤1 by omega) (eQ t.kind),h0,hy,e3,ih (p++[y]) m e4 hm',D_]
  rw [dM]
theorem M9 (hk:Fu k) (ret:Bool→Option S) (hv:VD vars dims 1) {more:Int} (hm:more=ax t.kind) (hQ: ∀b∈t.sys,∀y∈b.kids,∀g,hd y vars (dims+more) bd g=g (bH bd vars (dims+more) y)) (hl:t.sys.length<1073741824) (hl': ∀b∈t.sys,b.kids.length<1073741824):
  ∀ (r p:List (Br Tm)) (m:Nat),t.sys=p++r→r.length<m→fg hd k ret vars dims bd t m (p.length:Int) more=ret (cW bd vars dims t.kind r):=by
 intro r
 induction r with
 |nil=>
  intro p m h hm
  obtain ⟨m,rfl,hm'⟩:=ap hm
  simp only [fg,mn,aL h,ac,cW]
 |cons x r ih=>
  intro p m h hml
  obtain ⟨m,rfl,hm'⟩:=ap hml
  obtain ⟨e1,e2,e3,e4⟩:=aK h (by omega)
  have hx:x∈t.sys:=by rw [h];simp
  have hlx:=hl' x hx
  have:=M_ (t:=t) (bd:=bd) hk ret (fg hd k ret vars dims bd t m) hv (v:=(p.length:Int)) hm (hQ x hx) hlx x.kids [] k rfl (by have:4294967296≤k:=hk;omega)
  have this:iJ hd k ret (fg hd k ret vars dims bd t m) vars dims bd t (p.length:Int) x more k 0=_:=this
  simp only [fg,mn,e1,ag,e2,Option.bind_some,this,e3,ih (p++[x]) m e4 hm']
  have ea:cW bd vars dims t.kind (x::r)=(dM bd vars dims t.kind x.kids&&cW bd vars dims t.kind r):=by cases x;rw [cW,l6]
  rw [ea,z8]
theorem M8 (hk:Fu k) (ret:Bool→Option S) (hv:VD vars dims 1) (hQ: ∀y∈t.kids,∀v d,0≤v∧v≤1→0≤d∧d≤1→ ∀g,hd y (d5 vars v) (dims+d) bd g=g (bH bd (d5 vars v) (dims+d) y)) (hQ': ∀b∈t.sys,∀y∈b.kids,∀g,hd y vars (dims+ax t.kind) bd g=g (bH bd vars (dims+ax t.kind) y)) (ht:OkT t):
  ∀ (r p:List Tm) (m:Nat),t.kids=p++r→r.length<m→jO hd k ret vars dims bd t m (p.length:Int)=ret (dL bd vars dims t.kind p.length r&&cW bd vars dims t.kind t.sys):=by
 obtain ⟨o1,o2,o3,o4,o5,o6,o7⟩:=ht.no
 intro r
 induction r with
 |nil=>
  intro p m h hm
  obtain ⟨m,rfl,hm'⟩:=ap hm
  have hs:fg hd k ret vars dims bd t k 0 (ax t.kind)=_:=M9 hk ret hv rfl hQ' o7 (fun b hb=>(ht.bi hb).1.2.2) t.sys [] k rfl (by have:4294967296≤k:=hk;omega)
  simp only [jO,mm,aL h,ac]
  rw [dL,Bool.true_and,←hs]
  unfold ax
  rw [dZ]
  by_cases h15:t.kind=15
  ·rw [if_pos h15,if_pos (by rw [h15];rfl)]
  ·rw [if_neg h15,if_neg (by rw [beq_iff_eq];exact h15)]
 |cons y r ih=>
  intro p m h hm
  obtain ⟨m,rfl,hm'⟩:=ap hm
  obtain ⟨e1,e2,e3,e4⟩:=aK h (by omega)
  have b1:=yq t.kind p.length
  have b2:=g7 t.kind p.length
  have hy:=hQ y (by rw [h];simp) (fI t.kind p.length) (ci t.kind p.length) b1 b2
  simp only [jO,mm,e1,ag,e2,Option.bind_some,am hk,lG,a8,DR hv b1 b2,hy,e3,ih (p++[y]) m e4 hm',Ea]
  rw [dL,show (p++[y]).length=p.length+1 by simp,Bool.and_assoc]
end
theorem Ja (bd:Bool) (vars dims:Int) (t:Tm):bH bd vars dims t=(!(bd&&decide (dims>24))&&(f8 vars dims t&&(dL bd vars dims t.kind 0 t.kids&&cW bd vars dims t.kind t.sys))):=by cases t;rw [bH];rfl
theorem SK {vars v:Int} (h:0≤v∧v≤1):vars≤d5 vars v∧d5 vars v≤vars+1:=by unfold d5;split<;>omega
theorem QE (t:Tm):OkT t→ ∀ {k:Nat} {vars dims:Int} {bd:Bool} (ret:Bool→Option S),Fd k (ay t)→VD vars dims (ay t)→d9 k t vars dims bd ret=ret (bH bd vars dims t):=by
 induction t using gj with
 |h t ih1 ih2=>
  intro ht k vars dims bd ret hk hv
  obtain ⟨q,rfl,hq,hf⟩:=hk.pos' (dQ t)
  have hp:=dQ t
  have hv':=hv
  unfold VD at hv'
  have hv1:VD vars dims 1:=by unfold VD;omega
  have hm:=eQ t.kind
  have hQ: ∀y∈t.kids,∀v d,0≤v∧v≤1→0≤d∧d≤1→ ∀g:Bool→Option S,d9 q y (d5 vars v) (dims+d) bd g=g (bH bd (d5 vars v) (dims+d) y):=fun y hy v d h1 h2 g=>ih1 y hy (ht.ki hy) g (hf _ (ee hy)) (by
   have:=ee hy;have:=SK (vars:=vars) h1;unfold VD;omega)
  have hQ': ∀b∈t.sys,∀y∈b.kids,∀g:Bool→Option S,d9 q y vars (dims+ax t.kind) bd g=g (bH bd vars (dims+ax t.kind) y):=fun b hb y hy g=>ih2 b hb y hy ((ht.bi hb).2 y hy) g (hf _ (d_ hb hy)) (by
   have:=d_ hb hy;unfold VD;omega)
  have:=M8 (bd:=bd) hq ret hv1 hQ hQ' ht t.kids [] q rfl (by have:=ht.no.2.2.2.2.2.1;have:4294967296≤q:=hq;omega)
  have this:jO (d9 q) q ret vars dims bd t q 0=_:=this
  simp only [d9,FE,a8,am hq,Q7 hq ht (show 0≤dims by omega) (show dims<9223372036854775808 by omega),p9,xJ,this]
  rw [Ja]
  cases bd with
  |true=>
   rw [ag,bU,Bool.true_and]
   by_cases h24:dims>24
   ·rw [if_pos h24,decide_eq_true h24];rfl
   ·rw [if_neg h24,decide_eq_false h24]
    cases f8 vars dims t<;>rfl
  |false=>
   rw [ac]
   cases f8 vars dims t<;>rfl
theorem Re {t:Tm} (ht:OkT t) (hk:Fd k (ay t)) (ret:Int→Option S):mU k t ret=ret (if ay t>200 then 62 else if aQ t>20000 then 221 else 0):=by
 simp only [mU,FH,a8,Rd t ht _ hk (show (-4611686018427387904:Int)≤200 by omega) (show (200:Int)<4611686018427387904 by omega),am hk.fu,Rf ht hk (show (0:Int)<20000 by omega) (show (20000:Int)<4611686018427387904 by omega)]
 by_cases h1:ay t>200
 ·rw [if_pos h1,decide_eq_false (by omega)];rfl
 ·rw [if_neg h1,decide_eq_true (by omega),Bool.not_true,ac]
  by_cases h2:aQ t>20000
  ·rw [if_pos h2,decide_eq_false (by omega)];rfl
  ·rw [if_neg h2,decide_eq_true (by omega)];rfl
theorem nX {t:Tm} (ht:OkT t) (hk:Fd k (ay t)) (hdep:ay t<1099511627776) (ret:Int→Option S):ie k t ret=ret (cz t):=by
 simp only [ie,FB,a8,am hk.fu,Re ht hk,QE t ht _ hk (show VD (-1) 24 (ay t) by unfold VD;omega),bM]
 unfold cz
 by_cases h1:ay t>200
 ·rw [if_pos h1,if_pos h1];rfl
 ·rw [if_neg h1,if_neg h1]
  by_cases h2:aQ t>20000
  ·rw [if_pos h2,if_pos h2];rfl
  ·rw [if_neg h2,if_neg h2,decide_eq_true rfl,Bool.not_true,ac]
   cases bH false (-1) 24 t<;>rfl
end Go.Proofs.YtapmagaejigpnaaGreatDoor
namespace Go.Proofs.YtapmagaejigpnaaGreatDoor
open Go PI
set_option linter.unusedVariables false
set_option linter.unusedSimpArgs false
set_option maxRecDepth 20000
variable {S:Type} {k:Nat}
theorem yT: ∀ {l:List Tm},(∀x∈l,ay x≤aQ x)→bJ l≤aZ l:=by
 intro l
 induction l with
 |nil=>intro _;rw [bJ,aZ];omega
 |cons t l ih=>
  intro h
  rw [bJ,aZ]
  have:=h t (by simp)
  have:=ih fun x hx=>h x (by simp [hx])
  omega
theorem JV: ∀ {l:List (Br Tm)},(∀b∈l,∀x∈b.kids,ay x≤aQ x)→bX l≤a_ l:=by
 intro l
 induction l with
 |nil=>intro _;rw [bX,a_];omega
 |cons b l ih=>
  intro h
  rw [bX,a_,mX,n_]
  have:=yT (h b (by simp))
  have:=ih fun x hx=>h x (by simp [hx])
  omega
theorem yV (t:Tm):ay t≤aQ t:=by
 induction t using gj with
 |h t ih1 ih2=>
  rw [qe,Ei]
  have:=yT ih1
  have:=JV ih2
  omega
section
variable {hd:Tm→(Int→Option S)→Option S} {t:Tm}
end
section
variable {hd:Tm→(Int→Option S)→Option S} {t:Tm}
end
section
variable {hd:Tm→Int→Int→Bool→(Bool→Option S)→Option S} {vars dims:Int} {bd:Bool} {t:Tm}
end
theorem NK (hk:Fu k) (ret:Bool→Option S) {l:List Cl} (hlen:l.length<2147483648):
  ∀ (r p:List Cl) (m:Nat),l=p++r→r.length<m→kX k ret l l m (p.length:Int)=ret true:=by
 intro r
 induction r with
 |nil=>
  intro p m h hm
  obtain ⟨m,rfl,hm'⟩:=ap hm
  simp only [kX,pb,aL h,ac]
 |cons x r ih=>
  intro p m h hm
  obtain ⟨m,rfl,hm'⟩:=ap hm
  obtain ⟨e1,e2,e3,e4⟩:=aK h (by omega)
  simp only [kX,pb,e1,ag,e2,Option.bind_some,e3,ih (p++[x]) m e4 hm',my,decide_true,Bool.not_true,ac]
theorem sf (hk:Fu k) {l:List Cl} (hlen:l.length<2147483648) (ret:Bool→Option S):e9 k l l ret=ret true:=by
 simp only [e9,xz,beq_self_eq_true,Bool.not_true,ac]
 exact NK hk ret hlen l [] k rfl (by have:4294967296≤k:=hk;omega)
section
variable {hd:Tm→Tm→(Bool→Option S)→Option S}
theorem Nx (hk:Fu k) (ret:Bool→Option S) {l:List Tm} (hlen:l.length<2147483648) (hQ: ∀y∈l,∀g,hd y y g=g true):
  ∀ (r p:List Tm) (m:Nat),l=p++r→r.length<m→kY hd k ret l l m (p.length:Int)=ret true:=by
 intro r
 induction r with
 |nil=>
  intro p m h hm
  obtain ⟨m,rfl,hm'⟩:=ap hm
  simp only [kY,pe,aL h,ac]
 |cons x r ih=>
  intro p m h hm
  obtain ⟨m,rfl,hm'⟩:=ap hm
  obtain ⟨e1,e2,e3,e4⟩:=aK h (by omega)
  simp only [kY,pe,e1,ag,e2,Option.bind_some,a8,hQ x (by rw [h];simp),e3,ih (p++[x]) m e4 hm',Bool.not_true,ac]
theorem D0 (hk:Fu k) (ret:Bool→Option S) {l:List Tm} (hlen:l.length<2147483648) (hQ: ∀y∈l,∀g,hd y y g=g true):mQ hd k l l ret=ret true:=by
 simp only [mQ,xD,beq_self_eq_true,Bool.not_true,ac]
 exact Nx hk ret hlen hQ l [] k rfl (by have:4294967296≤k:=hk;omega)
theorem NI (hk:Fu k) (ret:Bool→Option S) {t:Tm} (ht:OkT t) (hQ: ∀b∈t.sys,∀y∈b.kids,∀g,hd y y g=g true):
  ∀ (r p:List (Br Tm)) (m:Nat),t.sys=p++r→r.length<m→jM hd k ret t t m (p.length:Int)=ret true:=by
 obtain ⟨o1,o2,o3,o4,o5,o6,o7⟩:=ht.no
 intro r
 induction r with
 |nil=>
  intro p m h hm
  obtain ⟨m,rfl,hm'⟩:=ap hm
  simp only [jM,pd,aL h,ac]
 |cons x r ih=>
  intro p m h hm
  obtain ⟨m,rfl,hm'⟩:=ap hm
  obtain ⟨e1,e2,e3,e4⟩:=aK h (by omega)
  have hx:x∈t.sys:=by rw [h];simp
  have hb:=(ht.bi hx).1
  simp only [jM,pd,e1,ag,e2,Option.bind_some,am hk,sf hk (show x.face.length<2147483648 by omega),D0 hk _ (show x.kids.length<2147483648 by omega) (hQ x hx),e3,ih (p++[x]) m e4 hm',Bool.not_true,ac]
end
theorem Q9 (t:Tm):OkT t→ ∀ {k:Nat} (ret:Bool→Option S),Fd k (ay t)→dO k t t ret=ret true:=by
 induction t using gj with
 |h t ih1 ih2=>
  intro ht k ret hk
  obtain ⟨q,rfl,hq,hf⟩:=hk.pos' (dQ t)
  obtain ⟨o1,o2,o3,o4,o5,o6,o7⟩:=ht.no
  have hQ: ∀y∈t.kids,∀g:Bool→Option S,dO q y y g=g true:=fun y hy g=>ih1 y hy (ht.ki hy) g (hf _ (ee hy))
  have hQ': ∀b∈t.sys,∀y∈b.kids,∀g:Bool→Option S,dO q y y g=g true:=fun b hb y hy g=>ih2 b hb y hy ((ht.bi hb).2 y hy) g (hf _ (d_ hb hy))
  have:=NI hq ret ht hQ' t.sys [] q rfl (by have:4294967296≤q:=hq;omega)
  have this:jM (dO q) q ret t t q 0=_:=this
  have hn:(t.name==t.name)=true:=by rw [yo];exact decide_eq_true rfl
  simp only [dO,xB,beq_self_eq_true,hn,Bool.not_true,ac,am hq,sf hq (show t.r.length<2147483648 by omega),D0 hq _ (show t.kids.length<2147483648 by omega) hQ,this]
section
variable {hd:Tm→Int→(Int→Option S)→Option S} {t:Tm}
theorem M4 (hk:Fu k) (ret:Int→Option S) (rec1:Int→Int→Option S) {v most:Int} {x:Br Tm} (hv:ar t.sys v=some x) (hQ: ∀y∈x.kids,∀n g,∃w,hd y n g=g w) (hl:x.kids.length<1073741824):
  ∀ (r p:List Tm) (m:Nat) (a:Int),x.kids=p++r→r.length<m→ ∃w,gP hd k ret rec1 t most v m a (p.length:Int)=rec1 w (IntKind.wrap .i64 (v+1)):=by
 intro r
 induction r with
 |nil=>
  intro p m a h hm
  obtain ⟨m,rfl,hm'⟩:=ap hm
  exact ⟨a,by simp only [gP,pc,hv,Option.bind_some,aL h,ac]⟩
 |cons y r ih=>
  intro p m a h hm
  obtain ⟨m,rfl,hm'⟩:=ap hm
  obtain ⟨e1,e2,e3,e4⟩:=aK h (by omega)
  simp only [gP,pc,hv,e1,ag,e2,Option.bind_some,a8,e3]
  cases decide (a≤most) with
  |false=>exact ⟨a,rfl⟩
  |true=>
   rw [ag]
   obtain ⟨w,hw⟩:=hQ y (by rw [h];simp) (IntKind.wrap .i64 (most-a)) (fun r8=>gP hd k ret rec1 t most v m (IntKind.wrap .i64 (a+r8)) (((p++[y]).length:Nat):Int))
   rw [hw]
   exact ih (p++[y]) m _ e4 hm'
theorem M3 (hk:Fu k) (ret:Int→Option S) {most:Int} (hQ: ∀b∈t.sys,∀y∈b.kids,∀n g,∃w,hd y n g=g w) (ht:OkT t):
  ∀ (r p:List (Br Tm)) (m:Nat) (a:Int),t.sys=p++r→r.length<m→ ∃w,fV hd k ret t most m a (p.length:Int)=ret w:=by
 obtain ⟨o1,o2,o3,o4,o5,o6,o7⟩:=ht.no
 intro r
 induction r with
 |nil=>
  intro p m a h hm
  obtain ⟨m,rfl,hm'⟩:=ap hm
  exact ⟨a,by simp only [fV,mi,aL h,ac]⟩
 |cons x r ih=>
  intro p m a h hm
  obtain ⟨m,rfl,hm'⟩:=ap hm
  obtain ⟨e1,e2,e3,e4⟩:=aK h (by omega)
  have hx:x∈t.sys:=by rw [h];simp
  have hb:=(ht.bi hx).1
  simp only [fV,mi,e1,ag,e2,Option.bind_some,e3]
  cases decide (a≤most) with
  |false=>exact ⟨a,rfl⟩
  |true=>
   rw [ag]
   cases decide (((x.face.length:Nat):Int)>most) with
   |true=>exact ⟨_,rfl⟩
   |false=>
    rw [ac]
    obtain ⟨w,hw⟩:=M4 (t:=t) (most:=most) hk ret (fV hd k ret t most m) e2 (hQ x hx) hb.2.2 x.kids [] k (IntKind.wrap .i64 (IntKind.wrap .i64 (a+1)+((x.face.length:Nat):Int))) rfl (by have:4294967296≤k:=hk;omega)
    have hw:gP hd k ret (fV hd k ret t most m) t most (p.length:Int) k (IntKind.wrap .i64 (IntKind.wrap .i64 (a+1)+((x.face.length:Nat):Int))) 0=_:=hw
    rw [hw,e3]
    exact ih (p++[x]) m w e4 hm'
theorem M2 (hk:Fu k) (ret:Int→Option S) {most:Int} (hQ: ∀y∈t.kids,∀n g,∃w,hd y n g=g w) (hQ': ∀b∈t.sys,∀y∈b.kids,∀n g,∃w,hd y n g=g w) (ht:OkT t):
  ∀ (r p:List Tm) (m:Nat) (a:Int),t.kids=p++r→r.length<m→ ∃w,jL hd k ret t most m a (p.length:Int)=ret w:=by
 obtain ⟨o1,o2,o3,o4,o5,o6,o7⟩:=ht.no
 intro r
 have hs:=fun a=>M3 (most:=most) hk ret hQ' ht t.sys [] k a rfl (by have:4294967296≤k:=hk;omega)
 induction r with
 |nil=>
  intro p m a h hm
  obtain ⟨m,rfl,hm'⟩:=ap hm
  simp only [jL,mh,aL h,ac]
  exact hs a
 |cons y r ih=>
  intro p m a h hm
  obtain ⟨m,rfl,hm'⟩:=ap hm
  obtain ⟨e1,e2,e3,e4⟩:=aK h (by omega)
  simp only [jL,mh,e1,ag,e2,Option.bind_some,a8,e3]
  cases decide (a≤most) with
  |false=>exact hs a
  |true=>
   rw [ag]
   obtain ⟨w,hw⟩:=hQ y (by rw [h];simp) (IntKind.wrap .i64 (most-a)) (fun r2=>jL hd k ret t most m (IntKind.wrap .i64 (a+r2)) (((p++[y]).length:Nat):Int))
   rw [hw]
   exact ih (p++[y]) m _ e4 hm'
end
theorem wI (t:Tm):OkT t→ ∀ {k:Nat} (most:Int) (ret:Int→Option S),Fd k (ay t)→ ∃w,de k t most ret=ret w:=by
 induction t using gj with
 |h t ih1 ih2=>
  intro ht k most ret hk
  obtain ⟨q,rfl,hq,hf⟩:=hk.pos' (dQ t)
  obtain ⟨o1,o2,o3,o4,o5,o6,o7⟩:=ht.no
  have hQ: ∀y∈t.kids,∀n (g:Int→Option S),∃w,de q y n g=g w:=fun y hy n g=>ih1 y hy (ht.ki hy) n g (hf _ (ee hy))
  have hQ': ∀b∈t.sys,∀y∈b.kids,∀n (g:Int→Option S),∃w,de q y n g=g w:=fun b hb y hy n g=>ih2 b hb y hy ((ht.bi hb).2 y hy) n g (hf _ (d_ hb hy))
  simp only [de,xA]
  cases decide (((t.r.length:Nat):Int)>most) with
  |true=>exact ⟨_,rfl⟩
  |false=>
   rw [ac]
   cases decide (((t.name.size:Nat):Int)>most) with
   |true=>exact ⟨_,rfl⟩
   |false=>
    rw [ac]
    exact M2 hq ret hQ hQ' ht t.kids [] q _ rfl (by have:4294967296≤q:=hq;omega)
end Go.Proofs.YtapmagaejigpnaaGreatDoor
