/- Part 4 of a proof: the sources, with their names and remarks, lie in wip/. -/
import Derived.Test.YtgmmefmmnakbpaaGreatDoorX3
open Bool renaming and_eq_true→anZ,not_false→aqD,not_true→aq6
open ByteArray renaming empty→alH
open Eq renaming trans→alQ
open Go.IntKind renaming wrap→su
open Int renaming toNat→arM,toNat_natCast→asG
open List renaming all_eq_true→ars,mem_cons→arH,nil_append→as2
open Nat renaming le_refl→arq,zero_add→asW
open Option renaming bind→asP,bind_some→sf
set_option linter.unusedVariables false
set_option linter.unusedSimpArgs false
namespace Go.Proofs.YtgmmefmmnakbpaaGreatDoor
open Go PI _root_.Go.Proofs.Tryz
set_option maxRecDepth 100000
noncomputable section
variable {S:Type} {o:Obj} (k:Nat)
def GP:Rw S:=aj lS xn fun s i Z=>aa k (amz k s i) (F9 Z)
def WG:Fx S:=fp 15 [(229,PE k)] [] k f210 0
theorem Ku (ho:ai o):Tl o 210 (GP k:Rw S):=alG (WG k) ⟨abQ k ho,trivial⟩ func210 fun s i Z x h=>al9 h
def P9:Rw S:=aj eo xn fun f Z=>aa k (tD k f) (cM Z)
def C4:Fx S:=fp 5 [] [] k f211 0
theorem acj (ho:ai o):Tl o 211 (P9 k:Rw S):=alG (C4 k) trivial func211 fun f Z x h=>al9 h
def GQ:Rw S:=aj atV xn fun i Z=>aa k (yK k i) (F9 Z)
def WH:Fx S:=fp 7 [(231,P5 k),(232,P3 k)] [] k f221 0
theorem Kv (ho:ai o):Tl o 221 (GQ k:Rw S):=alG (WH k) ⟨acf k ho,acd k ho,trivial⟩ func221 fun i Z x h=>al9 h
def P_:Rw S:=aj ny xn fun c Z=>aa k (tJ k c) (N_ Z)
def WJ:Fx S:=fp 8 [(175,Bb k)] [] k f258 0
theorem ack (ho:ai o):Tl o 258 (P_ k:Rw S):=alG (WJ k) ⟨Eg k ho,trivial⟩ func258 fun c Z x h=>al9 h
def Qa:Rw S:=aj Ll xn fun l Z=>aa k (yN k l) (cM Z)
def C5:Fx S:=fp 29 [(258,P_ k)] [(3,⟨[(1,km),(5,an2 100005),(10,km),(11,km),(12,km)],[]⟩,ap 5 11)] k f222 0
def Np (l:List Cl) (v12:Int) (h:List Cl):St UU:=⟨[(1,(.func 258 [] [])),(5,(.own 100005 0)),(10,(sC l)),(11,(iI l.length)),(12,(iI v12))],[],[(100005,⟨0,ET.C,h⟩)],[(100005,.wr)]⟩
section
variable (k:Nat) (l:List Cl) (Z:Out UU->Option S)
theorem Zc: ∀n v12 h,(C5 k).lp Z 3 [] n (Np l v12 h)=avM k (cM Z) l n v12 h:=aL (wW k (cM Z) l)
end
theorem acl (ho:ai o):Tl o 222 (Qa k:Rw S):=alG (C5 k) ⟨ack k ho,trivial⟩ func222 fun l Z x h=>alQ (b:=HJ k (cM Z) (fun v12 j=>(C5 k).lp Z 3 [] k (Np l v12 j)) l) (by kernel_rfl) (alQ (by simp only [Zc];rfl) (al h))
def Qb:Rw S:=aj eo xn fun f Z=>aa k (tI k f) (aq1 Z)
def C6:Fx S:=fp 12 [(128,jz k),(172,Pp k),(222,Qa k)] [] k f238 0
theorem acm (ho:ai o):Tl o 238 (Qb k:Rw S):=alG (C6 k) ⟨j_ k ho,abB k ho,acl k ho,trivial⟩ func238 fun f Z x h=>al9 h
def Qc:Rw S:=aj EU wC fun b c0 Z=>aa k (yO k b c0) (mt c0 Z)
def WK:Fx S:=fp 11 [(225,OU k),(258,P_ k)] [] k f259 1
theorem acn (ho:ai o):Tl o 259 (Qc k:Rw S):=alG (WK k) ⟨aa6 k ho,ack k ho,trivial⟩ func259 fun b c0 Z x h=>al9 h
def Bj:Rw S:=aj adQ wC fun l c0 Z=>aa k (yM k l c0) (ah4 c0 Z)
def WL:Fx S:=fp 29 [(259,Qc k)] [(3,⟨[(1,km),(5,an2 100005),(10,km),(11,km),(12,km)],[(1000000,[km,km])]⟩,ap 5 11)] k f222 1
def aCp (c0:Cl) (l:List Cl) (v12:Int) (h:List Cl):St UU:=⟨[(1,(.func 259 [] [(pt 1000000)])),(5,(.own 100005 0)),(10,(sC l)),(11,(iI l.length)),(12,(iI v12))],[(1000000,bC c0)],[(100005,⟨0,ET.C,h⟩)],[(100005,.wr)]⟩
section
variable (k:Nat) (l:List Cl) (c0:Cl) (Z:Out UU->Option S)
theorem aEJ: ∀n v12 h,(WL k).lp Z 3 [] n (aCp c0 l v12 h)=p8 k (ah4 c0 Z) c0 l n v12 h:=aL (wV k (ah4 c0 Z) c0 l)
end
theorem Eo (ho:ai o):Tl o 222 (Bj k:Rw S):=alG (WL k) ⟨acn k ho,trivial⟩ func222 fun l c0 Z x h=>alQ (b:=HI k (ah4 c0 Z) (fun v12 j=>(WL k).lp Z 3 [] k (aCp c0 l v12 j)) l c0) (by kernel_rfl) (alQ (by simp only [aEJ];rfl) (al h))
def Qd:Rw S:=aj jk xn fun f g Z=>aa k (pe k f g) (aq1 Z)
def jZ:Fx S:=fp 25 [(172,Pp k),(222,Bj k)] [(3,⟨[(1,km),(6,an2 100006),(9,km),(10,km),(11,km)],[]⟩,ap 5 11)] k f239 0
def FL (g f:List Cl) (v11:Int) (h:List Cl):St UU:=⟨[(1,(sC g)),(6,(.own 100006 0)),(9,(sC f)),(10,(iI f.length)),(11,(iI v11))],[],[(100006,⟨0,ET.C,h⟩)],[(100006,.wr)]⟩
section
variable (k:Nat) (f g:List Cl) (Z:Out UU->Option S)
theorem Ze: ∀n v11 h,(jZ k).lp Z 3 [] n (FL g f v11 h)=p_ k (aq1 Z) g f n v11 h:=aL (wX k (aq1 Z) g f)
end
theorem aco (ho:ai o):Tl o 239 (Qd k:Rw S):=alG (jZ k) ⟨abB k ho,Eo k ho,trivial⟩ func239 fun f g Z x h=>alQ (b:=HK k (aq1 Z) (fun v11 j=>(jZ k).lp Z 3 [] k (FL g f v11 j)) f g) (by kernel_rfl) (alQ (by simp only [Ze];rfl) (al h))
def GS:Rw S:=aj jk xn fun f g Z=>aa k (yL k f g) (aq1 Z)
def sg:Fx S:=fp 14 [(172,Pp k)] [] k f241 0
theorem Kx (ho:ai o):Tl o 241 (GS k:Rw S):=alG (sg k) ⟨abB k ho,trivial⟩ func241 fun f g Z x h=>al9 h
def Qe:Rw S:=aj ny xn fun c Z=>aa k (yV k c) (aq1 Z)
def WM:Fx S:=fp 43 [(172,Pp k),(232,P3 k),(266,GZ)] [(3,⟨[(1,km),(4,an2 100004),(11,km),(12,km),(13,km)],[(1,[km,km])]⟩,ap 5 11),(8,⟨[(4,an2 100004),(26,km),(27,km),(28,km)],[]⟩,ap 6 23)] k f257 0
def azG (c:Cl) (r1:List Int) (j:Int) (h:List Cl):St UU:=⟨[(1,(pt 1)),(4,(.own 100004 0)),(11,(la r1 .none)),(12,(iI r1.length)),(13,(iI j))],[(1,bC c)],[(100004,⟨0,ET.C,h⟩)],[(100004,.wr)]⟩
def aCq (j:List Int) (v28:Int) (h:List Cl):St UU:=⟨[(4,(.own 100004 0)),(26,(la j .none)),(27,(iI j.length)),(28,(iI v28))],[],[(100004,⟨0,ET.C,h⟩)],[(100004,.wr)]⟩
section
variable (k:Nat) (c:Cl) (Z:Out UU->Option S)
theorem aEL (j): ∀n v28 h,(WM k).lp Z 8 [] n (aCq j v28 h)=avc k (aq1 Z) j n v28 h:=aL (w8 k (aq1 Z) j)
theorem aEK (r1): ∀n q h,(WM k).lp Z 3 [] n (azG c r1 q h)=qh k (aq1 Z) c r1 n q h:=aL (fun own=>aoa k (aq1 Z) c r1 (fun x v28 j=>avc k (aq1 Z) x k v28 j) own) rfl (fun _=>rfl) fun r q h=>alQ (b:=aoa k (aq1 Z) c r1 (fun x v28 j=>(WM k).lp Z 8 [] k (aCq x v28 j)) (fun q h=>r (azG c r1 q h)) q h) (by kernel_rfl) (by simp only [aEL])
end
theorem acp (ho:ai o):Tl o 257 (Qe k:Rw S):=alG (WM k) ⟨abB k ho,acd k ho,akR o ho,trivial⟩ func257 fun c Z x h=>alQ (b:=HS k (aq1 Z) (fun r1 q j=>(WM k).lp Z 3 [] k (azG c r1 q j)) c) (by kernel_rfl) (alQ (by simp only [aEK];rfl) (al h))
def Qf:Rw S:=aj jk xn fun f g Z=>aa k (jW k f g) (aq1 Z)
def C7:Fx S:=fp 35 [(172,Pp k),(225,OU k)] [(3,⟨[(1,km),(6,an2 100006),(11,km),(12,km),(13,km)],[]⟩,ap 5 11),(6,⟨[(1,km),(6,an2 100006),(8,km),(11,km),(12,km),(13,km),(17,km),(18,km),(19,km)],[(8,[km,km])]⟩,ap 13 3275)] k f235 0
def Nt (g f:List Cl) (j:Int) (h:List Cl):St UU:=⟨[(1,(sC g)),(6,(.own 100006 0)),(11,(sC f)),(12,(iI f.length)),(13,(iI j))],[],[(100006,⟨0,ET.C,h⟩)],[(100006,.wr)]⟩
def aCr (x1:Cl) (g f:List Cl) (j:Int) (q:Int) (h:List Cl):St UU:=⟨[(1,(sC g)),(6,(.own 100006 0)),(8,(pt 8)),(11,(sC f)),(12,(iI f.length)),(13,(iI j)),(17,(sC g)),(18,(iI g.length)),(19,(iI q))],[(8,bC x1)],[(100006,⟨0,ET.C,h⟩)],[(100006,.wr)]⟩
section
variable (k:Nat) (f g:List Cl) (Z:Out UU->Option S)
theorem aEM (x1 h Z0): ∀n x j,(C7 k).lp Z 6 [Z0] n (aCr x1 g f h x j)=nA k (aq1 Z) (fun h q=>Z0 (Nt g f h q)) x1 g f h n x j:=aL (w7 k (aq1 Z) x1 g f h (fun h q=>Z0 (Nt g f h q)))
theorem Zi: ∀n h j,(C7 k).lp Z 3 [] n (Nt g f h j)=lZ k (aq1 Z) g f n h j:=aL (fun own=>an_ k (aq1 Z) g f (fun x1 h x q=>nA k (aq1 Z) own x1 g f h k x q) own) rfl (fun _=>rfl) fun r h j=>alQ (b:=an_ k (aq1 Z) g f (fun x1 h x q=>(C7 k).lp Z 6 [r] k (aCr x1 g f h x q)) (fun h j=>r (Nt g f h j)) h j) (by kernel_rfl) (by simp only [aEM])
end
theorem acq (ho:ai o):Tl o 235 (Qf k:Rw S):=alG (C7 k) ⟨abB k ho,aa6 k ho,trivial⟩ func235 fun f g Z x h=>alQ (b:=HR k (aq1 Z) (fun q j=>(C7 k).lp Z 3 [] k (Nt g f q j)) f g) (by kernel_rfl) (alQ (by simp only [Zi];rfl) (al h))
def GT:Rw S:=aj Aj xn fun a_have c Z=>aa k (yU k a_have c) (aq1 Z)
def WN:Fx S:=fp 21 [(235,Qf k),(257,Qe k)] [] k f256 0
theorem Ky (ho:ai o):Tl o 256 (GT k:Rw S):=alG (WN k) ⟨acq k ho,acp k ho,trivial⟩ func256 fun a_have c Z x h=>al9 h
def Qh:Rw S:=aj E2 xn fun l a_from Z=>aa k (DP k l a_from) (aq1 Z)
def WP:Fx S:=fp 33 [(256,GT k)] [(2,aS [1,2,13,14,15] [],ap 4 5)] k f190 0
def aCs (l:List Cl) (v1:List Cl) (h:Int):St UU:=⟨[(1,(sC v1)),(2,(.func 256 [] [])),(13,(sC l)),(14,(iI l.length)),(15,(iI h))],[],[],[]⟩
section
variable (k:Nat) (l a_from:List Cl) (Z:Out UU->Option S)
theorem aEN: ∀n v1 h,(WP k).lp Z 2 [] n (aCs l v1 h)=qe k (aq1 Z) l n v1 h:=aL (w5 k (aq1 Z) l)
end
theorem acs (ho:ai o):Tl o 190 (Qh k:Rw S):=alG (WP k) ⟨Ky k ho,trivial⟩ func190 fun l a_from Z x h=>alQ (b:=HP k (aq1 Z) (fun v1 j=>(WP k).lp Z 2 [] k (aCs l v1 j)) l a_from) (by kernel_rfl) (alQ (by simp only [aEN];rfl) (al h))
def Qi:Rw S:=aj eo xn fun f Z=>aa k (ph k f) (aq1 Z)
def WQ:Fx S:=fp 9 [(160,Bg k),(190,Qh k)] [] k f236 0
theorem act (ho:ai o):Tl o 236 (Qi k:Rw S):=alG (WQ k) ⟨Em k ho,acs k ho,trivial⟩ func236 fun f Z x h=>al9 h
def Qj:Rw S:=aj eo xn fun f Z=>aa k (yQ k f) (aq1 Z)
def aLF:Fx S:=fp 15 [(189,oy k),(236,Qi k)] [] k f260 0
theorem acu (ho:ai o):Tl o 260 (Qj k:Rw S):=alG (aLF k) ⟨pM k ho,act k ho,trivial⟩ func260 fun f Z x h=>al9 h
def GU:Rw S:=aj eo xn fun f Z=>aa k (yI k f) (aq1 Z)
def WR:Fx S:=fp 18 [(238,Qb k),(260,Qj k)] [] k f240 0
theorem Kz (ho:ai o):Tl o 240 (GU k:Rw S):=alG (WR k) ⟨acm k ho,acu k ho,trivial⟩ func240 fun f Z x h=>al9 h
def Qk:Rw S:=aj aBv xn fun f i a_r Z=>aa k (yJ k f i a_r) (aq1 Z)
def WS:Fx S:=fp 92 [(128,jz k),(130,PG k),(204,ayB k),(210,GP k),(221,GQ k),(238,Qb k),(239,Qd k),(240,GU k),(241,GS k)] [(5,aS [1,2,8,27,28,29] [],ap 6 23),(1000018,aS [1,2,8,11,13,27,28,29] [],ap 16 63895)] k f213 0
def awN (i:Int) (a_r f:List Cl) (h:Int) (j:List Cl):St UU:=⟨[(1,(iI i)),(2,(sC a_r)),(8,(sC j)),(27,(sC f)),(28,(iI f.length)),(29,(iI h))],[],[],[]⟩
def aCt (i:Int) (a_r f:List Cl) (h:Int) (q:List Cl) (g11:List Cl) (j:Int):St UU:=⟨[(1,(iI i)),(2,(sC a_r)),(8,(sC q)),(11,(sC g11)),(13,(iI j)),(27,(sC f)),(28,(iI f.length)),(29,(iI h))],[],[],[]⟩
section
variable (k:Nat) (f:List Cl) (i:Int) (a_r:List Cl) (Z:Out UU->Option S)
theorem aEP (h j Z0): ∀n g11 q,(WS k).jn Z 1000018 [Z0] n (aCt i a_r f h j g11 q)=p7 k (aq1 Z) (fun h j=>Z0 (awN i a_r f h j)) i a_r f h j n g11 q:=Lb (wU k (aq1 Z) i a_r f h j (fun h j=>Z0 (awN i a_r f h j)))
theorem aEO: ∀n h j,(WS k).lp Z 5 [] n (awN i a_r f h j)=lY k (aq1 Z) i a_r f n h j:=aL (fun own=>sr k (aq1 Z) i a_r f (fun h j g11 q=>p7 k (aq1 Z) own i a_r f h j k g11 q) own) rfl (fun _=>rfl) fun r h j=>alQ (b:=sr k (aq1 Z) i a_r f (fun h j g11 q=>(WS k).jn Z 1000018 [r] k (aCt i a_r f h j g11 q)) (fun h j=>r (awN i a_r f h j)) h j) (by kernel_rfl) (by simp only [aEP])
end
theorem acv (ho:ai o):Tl o 213 (Qk k:Rw S):=alG (WS k) ⟨j_ k ho,abS k ho,pL k ho,Ku k ho,Kv k ho,acm k ho,aco k ho,Kz k ho,Kx k ho,trivial⟩ func213 fun f i a_r Z x h=>alQ (b:=HH k (aq1 Z) (fun j q=>(WS k).lp Z 5 [] k (awN i a_r f j q)) f i a_r) (by kernel_rfl) (alQ (by simp only [aEO];rfl) (al h))
def Ql:Rw S:=aj adS aJr fun f depth c0 c1 Z=>aa k (tF k f depth c0 c1) (ah5 c0 c1 Z)
def WT:Fx S:=fp 38 [(159,PP k),(173,vL k),(210,GP k),(211,P9 k),(213,Qk k)] [] k f209 3
theorem acw (ho:ai o):Tl o 209 (Ql k:Rw S):=alG (WT k) ⟨ab1 k ho,zN k ho,Ku k ho,acj k ho,acv k ho,trivial⟩ func209 fun f depth c0 c1 Z x h=>al9 h
def Qm:Rw S:=aj atV xn fun i Z=>aa k (yP k i) (aq1 Z)
def WU:Fx S:=fp 12 [(231,P5 k),(232,P3 k)] [] k f233 0
theorem acx (ho:ai o):Tl o 233 (Qm k:Rw S):=alG (WU k) ⟨acf k ho,acd k ho,trivial⟩ func233 fun i Z x h=>al9 h
def Qn:Rw S:=aj jk xn fun f g Z=>aa k (na k f g) (aq1 Z)
def C8:Fx S:=fp 14 [(172,Pp k)] [] k f237 0
theorem acy (ho:ai o):Tl o 237 (Qn k:Rw S):=alG (C8 k) ⟨abB k ho,trivial⟩ func237 fun f g Z x h=>al9 h
def Qo:Rw S:=aj aGD awY fun a_have c c0 c1 Z=>aa k (yS k a_have c c0 c1) (ah6 c0 c1 Z)
def WV:Fx S:=fp 63 [(204,ayB k),(210,GP k),(235,Qf k),(236,Qi k),(237,Qn k)] [] k f234 2
theorem acz (ho:ai o):Tl o 234 (Qo k:Rw S):=alG (WV k) ⟨pL k ho,Ku k ho,acq k ho,act k ho,acy k ho,trivial⟩ func234 fun a_have c c0 c1 Z x h=>al9 h
def Qp:Rw S:=aj E3 awY fun l a_from c0 c1 Z=>aa k (DO k l a_from c0 c1) (ah6 c0 c1 Z)
def WW:Fx S:=fp 33 [(234,Qo k)] [(2,aS [1,2,13,14,15] [(1000000,1),(1000001,1)],ap 4 5)] k f190 2
def aCu (c0:Int) (c1 l:List Cl) (v1:List Cl) (h:Int):St UU:=⟨[(1,(sC v1)),(2,(.func 234 [] [(pt 1000000),(pt 1000001)])),(13,(sC l)),(14,(iI l.length)),(15,(iI h))],[(1000000,bI c0),(1000001,.cells [(sC c1)])],[],[]⟩
section
variable (k:Nat) (l a_from:List Cl) (c0:Int) (c1:List Cl) (Z:Out UU->Option S)
theorem aEQ: ∀n v1 h,(WW k).lp Z 2 [] n (aCu c0 c1 l v1 h)=qc k (ah6 c0 c1 Z) c0 c1 l n v1 h:=aL (wZ k (ah6 c0 c1 Z) c0 c1 l)
end
theorem acA (ho:ai o):Tl o 190 (Qp k:Rw S):=alG (WW k) ⟨acz k ho,trivial⟩ func190 fun l a_from c0 c1 Z x h=>alQ (b:=HO k (ah6 c0 c1 Z) (fun v1 j=>(WW k).lp Z 2 [] k (aCu c0 c1 l v1 j)) l a_from c0 c1) (by kernel_rfl) (alQ (by simp only [aEQ];rfl) (al h))
def Of:Rw S:=aj aBv xn fun f i a_r Z=>aa k (yR k f i a_r) (aq1 Z)
def UC:Fx S:=fp 32 [(189,oy k),(190,Qp k),(191,GK k),(233,Qm k)] [] k f212 0
theorem aau (ho:ai o):Tl o 212 (Of k:Rw S):=alG (UC k) ⟨pM k ho,acA k ho,Kp k ho,acx k ho,trivial⟩ func212 fun f i a_r Z x h=>al9 h
def Ga:Rw S:=aj adS Je fun f depth c0 c1 Z=>aa k (yF k f depth c0 c1) (aHm c0 c1 Z)
def UD:Fx S:=fp 38 [(159,PP k),(173,vL k),(210,GP k),(211,P9 k),(212,Of k)] [] k f209 3
theorem JS (ho:ai o):Tl o 209 (Ga k:Rw S):=alG (UD k) ⟨ab1 k ho,zN k ho,Ku k ho,acj k ho,aau k ho,trivial⟩ func209 fun f depth c0 c1 Z x h=>al9 h
def Gb:Rw S:=aj Lm alv fun t depth c0 c1 Z=>aa k (yG k t depth c0 c1) (ah7 c0 c1 Z)
def UE:Fx S:=fp 27 [(209,ol (uy adS Je) (Ga k) (Ql k))] [] k f214 4
theorem aFd (ho:ai o):Tl o 214 (Gb k:Rw S):=alG (UE k) ⟨vw (JS k ho) (acw k ho),trivial⟩ func214 fun t depth c0 c1 Z x h=>al9 h
def rn:Rw S:=aj Ln Uw fun i c0 Z=>aa k (tG k i c0) (ah8 c0 Z)
def Ce:Fx S:=fp 14 [(39,Od k)] [] k f216 1
theorem aAS (ho:ai o):Tl o 216 (rn k:Rw S):=alG (Ce k) ⟨eX1 k ho,trivial⟩ func216 fun i c0 Z x h=>al9 h
def Og:Rw S:=aj Ln fh fun p c0 Z=>aa k (tH k p c0) (AR c0 Z)
def Cf:Fx S:=fp 5 [] [] k f217 1
theorem aav (ho:ai o):Tl o 217 (Og k:Rw S):=alG (Cf k) trivial func217 fun p c0 Z x h=>al9 h
def Oh (hd:c8 S):Rw S:=aj Lm alv fun t depth c0 c1 Z=>hd t depth c0 c1 (ah9 c0 c1 Z)
def Oi (hd:c8 S) (k:Nat):Rw S:=aj adV alw fun l depth c0 c1 c4 Z=>aa k (DK hd k l depth c0 c1 c4) (vB c0 c1 c4 Z)
def UF (hd:c8 S) (k:Nat):Fx S:=fp 42 [(187,Oh hd),(217,Og k)] [(3,⟨[(2,km),(3,km),(4,km),(10,an2 100010),(15,km),(16,km),(17,km)],[(4,[km,km]),(1000000,[km]),(1000001,[km]),(1000002,[km]),(1000003,[km]),(1000004,[km])]⟩,ap 5 11)] k f215 5
def aBD (c0:Int) (c1:List Cl) (c4:Int) (l:List Tm) (depth:Int) (h:List Tm) (v17:Int):St UU:=⟨[(2,(iI depth)),(3,(.func 217 [] [(pt 1000004)])),(4,(pt 4)),(10,(.own 100010 0)),(15,(sT l)),(16,(iI l.length)),(17,(iI v17))],[(4,.cells [(.func 209 [] [(pt 1000000),(pt 1000001),(pt 1000002)]),(.func 209 [] [(pt 1000000),(pt 1000001),(pt 1000003)])]),(1000000,bI c0),(1000001,.cells [(sC c1)]),(1000002,.cells [(.func 212 [] [])]),(1000003,.cells [(.func 213 [] [])]),(1000004,bI c4)],[(100010,⟨0,ET.T,h⟩)],[(100010,.wr)]⟩
section
variable (hd:c8 S) (k:Nat) (l:List Tm) (depth c0:Int) (c1:List Cl) (c4:Int) (Z:Out UU->Option S)
theorem aDF: ∀n h v17,(UF hd k).lp Z 3 [] n (aBD c0 c1 c4 l depth h v17)=lW hd k (vB c0 c1 c4 Z) c0 c1 c4 l depth n h v17:=aL (wQ hd k (vB c0 c1 c4 Z) c0 c1 c4 l depth)
end
theorem aax (o:Obj) (ho:ai o) (hd:c8 S) (Hd:Tl o 187 (Oh hd)) (k:Nat):Tl o 215 (Oi hd k:Rw S):=alG (UF hd k) ⟨Hd,aav k ho,trivial⟩ func215 fun l depth c0 c1 c4 Z x h=>alQ (b:=HB hd k (vB c0 c1 c4 Z) (fun j v17=>(UF hd k).lp Z 3 [] k (aBD c0 c1 c4 l depth j v17)) l depth c0 c1 c4) (by kernel_rfl) (alQ (by simp only [aDF];rfl) (al h))
def Oj (hd:c8 S) (k:Nat):Rw S:=aj adW aJs fun l depth c0 c1 c4 Z=>aa k (DL hd k l depth c0 c1 c4) (ah_ c0 c1 c4 Z)
def UG (hd:c8 S) (k:Nat):Fx S:=fp 42 [(187,Oh hd),(216,rn k)] [(3,⟨[(2,km),(3,km),(4,km),(10,an2 100010),(15,km),(16,km),(17,km)],[(4,[km,km]),(1000000,[km]),(1000001,[km]),(1000002,[km]),(1000003,[km]),(1000004,[km,km,km,km,km,km])]⟩,ap 5 11)] k f215 5
def aBE (c0:Int) (c1:List Cl) (c4:Tm) (l:List Tm) (depth:Int) (h:List Tm) (v17:Int):St UU:=⟨[(2,(iI depth)),(3,(.func 216 [] [(pt 1000004)])),(4,(pt 4)),(10,(.own 100010 0)),(15,(sT l)),(16,(iI l.length)),(17,(iI v17))],[(4,.cells [(.func 209 [] [(pt 1000000),(pt 1000001),(pt 1000002)]),(.func 209 [] [(pt 1000000),(pt 1000001),(pt 1000003)])]),(1000000,bI c0),(1000001,.cells [(sC c1)]),(1000002,.cells [(.func 212 [] [])]),(1000003,.cells [(.func 213 [] [])]),(1000004,bT c4)],[(100010,⟨0,ET.T,h⟩)],[(100010,.wr)]⟩
section
variable (hd:c8 S) (k:Nat) (l:List Tm) (depth c0:Int) (c1:List Cl) (c4:Tm) (Z:Out UU->Option S)
theorem aDG: ∀n h v17,(UG hd k).lp Z 3 [] n (aBE c0 c1 c4 l depth h v17)=lX hd k (ah_ c0 c1 c4 Z) c0 c1 c4 l depth n h v17:=aL (wR hd k (ah_ c0 c1 c4 Z) c0 c1 c4 l depth)
end
theorem aay (o:Obj) (ho:ai o) (hd:c8 S) (Hd:Tl o 187 (Oh hd)) (k:Nat):Tl o 215 (Oj hd k:Rw S):=alG (UG hd k) ⟨Hd,aAS k ho,trivial⟩ func215 fun l depth c0 c1 c4 Z x h=>alQ (b:=HC hd k (ah_ c0 c1 c4 Z) (fun j v17=>(UG hd k).lp Z 3 [] k (aBE c0 c1 c4 l depth j v17)) l depth c0 c1 c4) (by kernel_rfl) (alQ (by simp only [aDG];rfl) (al h))
def Cg (hd:c8 S) (k:Nat):Fx S:=fp 98 [(209,Ql k),(214,Gb k),(215,ol (uy adV alw) (Oi hd k) (Oj hd k))] [(13,⟨[(2,km),(3,km),(6,km),(8,km),(10,km),(53,km),(54,km),(55,km)],[(3,[km,km]),(6,[km,km,km,an2 200387,an2 200388,an2 200389]),(8,[km,km,km,km,km,an2 200517]),(10,[km]),(1000000,[km]),(1000001,[km]),(1000002,[km]),(1000003,[km])]⟩,ap 11 767)] k f187 4
def LU (c0:Int) (c1:List Cl) (t:Tm) (r1:List Cl×Int) (r2:List Tm×Int) (depth:Int) (j:Int) (h:List (Br Tm)) (v55:Int):St UU:=⟨[(2,(iI depth)),(3,(pt 3)),(6,(pt 6)),(8,(pt 8)),(10,(pt 10)),(53,(sB t.sys)),(54,(iI t.sys.length)),(55,(iI v55))],[(3,.cells [(.func 209 [] [(pt 1000000),(pt 1000001),(pt 1000002)]),(.func 209 [] [(pt 1000000),(pt 1000001),(pt 1000003)])]),(6,.cells [(iI 0),(iI 0),arO,(.own 200387 0),(.own 200388 0),(.own 200389 0)]),(8,.cells [(iI t.kind),(iI t.n),(.str t.name),(sC r1.1),(sT r2.1),(.own 200517 0)]),(10,bI j),(1000000,bI c0),(1000001,.cells [(sC c1)]),(1000002,.cells [(.func 212 [] [])]),(1000003,.cells [(.func 213 [] [])])],[(200517,⟨0,ET.B,h⟩),(200389,arv),(200388,arI),(200387,arB)],[(200517,.wr),(200389,.wr),(200388,.wr),(200387,.wr)]⟩
section
variable (hd:c8 S) (k:Nat) (t:Tm) (depth c0:Int) (c1:List Cl) (Z:Out UU->Option S)
theorem W7 (r1 r2): ∀n j h v55,(Cg hd k).lp Z 13 [] n (LU c0 c1 t r1 r2 depth j h v55)=fV hd k (ah9 c0 c1 Z) c0 c1 t r1 r2 depth n j h v55:=eW (wS hd k (ah9 c0 c1 Z) c0 c1 t r1 r2 depth)
end
theorem azh (o:Obj) (ho:ai o): ∀k:Nat,Tl o 187 (Oh (d7 k:c8 S))
 |0=>dz fun t depth c0 c1 Z x h=>by cases h
 |k+1=>alG (Cg (d7 k) k) ⟨acw k ho,aFd k ho,vw (aax o ho (d7 k) (azh o ho k) k) (aay o ho (d7 k) (azh o ho k) k),trivial⟩ func187 fun t depth c0 c1 Z x h=>alQ (b:=HF (d7 k) k (ah9 c0 c1 Z) (fun r1 z q j v55=>(Cg (d7 k) k).lp Z 13 [] k (LU c0 c1 t r1 z depth q j v55)) t depth c0 c1) (by kernel_rfl) (alQ (by simp only [W7];rfl) h)
def Gc:Rw S:=aj atV xn fun i Z=>aa k (DE k i) (aia Z)
def Ch:Fx S:=fp 8 [] [] k f188 0
theorem JU (ho:ai o):Tl o 188 (Gc k:Rw S):=alG (Ch k) trivial func188 fun i Z x h=>al9 h
def Ok:Rw S:=aj lS xn fun s i Z=>aa k (pk k s i) (b_ Z)
def UH:Fx S:=fp 24 [(229,PE k),(242,my k)] [] k f219 0
theorem aaz (ho:ai o):Tl o 219 (Ok k:Rw S):=alG (UH k) ⟨abQ k ho,nq k ho,trivial⟩ func219 fun s i Z x h=>al9 h
def rp:Rw S:=aj Lp fh fun f depth c0 Z=>aa k (pc k f depth c0) (aib c0 Z)
def Ci:Fx S:=fp 37 [(172,Pp k),(219,Ok k)] [(3,⟨[(1,km),(2,km),(7,an2 100007),(10,km),(11,km),(12,km)],[(1000000,[km])]⟩,ap 5 11)] k f218 1
def LW (c0 depth:Int) (f:List Cl) (v12:Int) (h:List Cl):St UU:=⟨[(1,(iI depth)),(2,(pt 1000000)),(7,(.own 100007 0)),(10,(sC f)),(11,(iI f.length)),(12,(iI v12))],[(1000000,bI c0)],[(100007,⟨0,ET.C,h⟩)],[(100007,.wr)]⟩
section
variable (k:Nat) (f:List Cl) (depth c0:Int) (Z:Out UU->Option S)
theorem W9: ∀n v12 h,(Ci k).lp Z 3 [] n (LW c0 depth f v12 h)=avL k (aib c0 Z) c0 depth f n v12 h:=aL (wN k (aib c0 Z) c0 depth f)
end
theorem aAT (ho:ai o):Tl o 218 (rp k:Rw S):=alG (Ci k) ⟨abB k ho,aaz k ho,trivial⟩ func218 fun f depth c0 Z x h=>alQ (b:=Hx k (aib c0 Z) (fun v12 j=>(Ci k).lp Z 3 [] k (LW c0 depth f v12 j)) f depth c0) (by kernel_rfl) (alQ (by simp only [W9];rfl) (al h))
def Om:Rw S:=aj adX fh fun t depth c0 Z=>aa k (yH k t depth c0) (aib c0 Z)
def Cj:Fx S:=fp 27 [(218,rp k)] [] k f214 1
theorem aaB (ho:ai o):Tl o 214 (Om k:Rw S):=alG (Cj k) ⟨aAT k ho,trivial⟩ func214 fun t depth c0 Z x h=>al9 h
def On (hd:c_ S):Rw S:=aj adX fh fun t depth c0 Z=>hd t depth c0 (aic c0 Z)
def A2 (hd:c_ S) (k:Nat):Rw S:=aj aBw ayS fun l depth c0 c1 Z=>aa k (DI hd k l depth c0 c1) (AT c0 c1 Z)
def UJ (hd:c_ S) (k:Nat):Fx S:=fp 42 [(187,On hd),(217,Og k)] [(3,⟨[(2,km),(3,km),(4,km),(10,an2 100010),(15,km),(16,km),(17,km)],[(4,[km,km]),(1000000,[km]),(1000001,[km])]⟩,ap 5 11)] k f215 2
def aBF (c0 c1:Int) (l:List Tm) (depth:Int) (h:List Tm) (v17:Int):St UU:=⟨[(2,(iI depth)),(3,(.func 217 [] [(pt 1000001)])),(4,(pt 4)),(10,(.own 100010 0)),(15,(sT l)),(16,(iI l.length)),(17,(iI v17))],[(4,.cells [(.func 218 [] [(pt 1000000)]),(.func 218 [] [(pt 1000000)])]),(1000000,bI c0),(1000001,bI c1)],[(100010,⟨0,ET.T,h⟩)],[(100010,.wr)]⟩
section
variable (hd:c_ S) (k:Nat) (l:List Tm) (depth c0 c1:Int) (Z:Out UU->Option S)
theorem aDH: ∀n h v17,(UJ hd k).lp Z 3 [] n (aBF c0 c1 l depth h v17)=lU hd k (AT c0 c1 Z) c0 c1 l depth n h v17:=aL (wO hd k (AT c0 c1 Z) c0 c1 l depth)
end
theorem D9 (o:Obj) (ho:ai o) (hd:c_ S) (Hd:Tl o 187 (On hd)) (k:Nat):Tl o 215 (A2 hd k:Rw S):=alG (UJ hd k) ⟨Hd,aav k ho,trivial⟩ func215 fun l depth c0 c1 Z x h=>alQ (b:=Hz hd k (AT c0 c1 Z) (fun j v17=>(UJ hd k).lp Z 3 [] k (aBF c0 c1 l depth j v17)) l depth c0 c1) (by kernel_rfl) (alQ (by simp only [aDH];rfl) (al h))
def Ge (hd:c_ S) (k:Nat):Rw S:=aj Lq aJt fun l depth c0 c1 Z=>aa k (DJ hd k l depth c0 c1) (AU c0 c1 Z)
def UK (hd:c_ S) (k:Nat):Fx S:=fp 42 [(187,On hd),(216,rn k)] [(3,⟨[(2,km),(3,km),(4,km),(10,an2 100010),(15,km),(16,km),(17,km)],[(4,[km,km]),(1000000,[km]),(1000001,[km,km,km,km,km,km])]⟩,ap 5 11)] k f215 2
def aBG (c0:Int) (c1:Tm) (l:List Tm) (depth:Int) (h:List Tm) (v17:Int):St UU:=⟨[(2,(iI depth)),(3,(.func 216 [] [(pt 1000001)])),(4,(pt 4)),(10,(.own 100010 0)),(15,(sT l)),(16,(iI l.length)),(17,(iI v17))],[(4,.cells [(.func 218 [] [(pt 1000000)]),(.func 218 [] [(pt 1000000)])]),(1000000,bI c0),(1000001,bT c1)],[(100010,⟨0,ET.T,h⟩)],[(100010,.wr)]⟩
section
variable (hd:c_ S) (k:Nat) (l:List Tm) (depth c0:Int) (c1:Tm) (Z:Out UU->Option S)
theorem aDI: ∀n h v17,(UK hd k).lp Z 3 [] n (aBG c0 c1 l depth h v17)=lV hd k (AU c0 c1 Z) c0 c1 l depth n h v17:=aL (wP hd k (AU c0 c1 Z) c0 c1 l depth)
end
theorem JV (o:Obj) (ho:ai o) (hd:c_ S) (Hd:Tl o 187 (On hd)) (k:Nat):Tl o 215 (Ge hd k:Rw S):=alG (UK hd k) ⟨Hd,aAS k ho,trivial⟩ func215 fun l depth c0 c1 Z x h=>alQ (b:=HA hd k (AU c0 c1 Z) (fun j v17=>(UK hd k).lp Z 3 [] k (aBG c0 c1 l depth j v17)) l depth c0 c1) (by kernel_rfl) (alQ (by simp only [aDI];rfl) (al h))
def Ck (hd:c_ S) (k:Nat):Fx S:=fp 98 [(214,Om k),(215,ol (uy aBw ayS) (A2 hd k) (Ge hd k)),(218,rp k)] [(13,⟨[(2,km),(3,km),(6,km),(8,km),(10,km),(53,km),(54,km),(55,km)],[(3,[km,km]),(6,[km,km,km,an2 200387,an2 200388,an2 200389]),(8,[km,km,km,km,km,an2 200517]),(10,[km]),(1000000,[km])]⟩,ap 11 767)] k f187 1
def LY (c0:Int) (t:Tm) (r1:List Cl×Int) (r2:List Tm×Int) (depth:Int) (j:Int) (h:List (Br Tm)) (v55:Int):St UU:=⟨[(2,(iI depth)),(3,(pt 3)),(6,(pt 6)),(8,(pt 8)),(10,(pt 10)),(53,(sB t.sys)),(54,(iI t.sys.length)),(55,(iI v55))],[(3,.cells [(.func 218 [] [(pt 1000000)]),(.func 218 [] [(pt 1000000)])]),(6,.cells [(iI 0),(iI 0),arO,(.own 200387 0),(.own 200388 0),(.own 200389 0)]),(8,.cells [(iI t.kind),(iI t.n),(.str t.name),(sC r1.1),(sT r2.1),(.own 200517 0)]),(10,bI j),(1000000,bI c0)],[(200517,⟨0,ET.B,h⟩),(200389,arv),(200388,arI),(200387,arB)],[(200517,.wr),(200389,.wr),(200388,.wr),(200387,.wr)]⟩
section
variable (hd:c_ S) (k:Nat) (t:Tm) (depth c0:Int) (Z:Out UU->Option S)
theorem Xa (r1 r2): ∀n j h v55,(Ck hd k).lp Z 13 [] n (LY c0 t r1 r2 depth j h v55)=fW hd k (aic c0 Z) c0 t r1 r2 depth n j h v55:=eW (wT hd k (aic c0 Z) c0 t r1 r2 depth)
end
theorem azi (o:Obj) (ho:ai o): ∀k:Nat,Tl o 187 (On (dT k:c_ S))
 |0=>dz fun t depth c0 Z x h=>by cases h
 |k+1=>alG (Ck (dT k) k) ⟨aaB k ho,vw (D9 o ho (dT k) (azi o ho k) k) (JV o ho (dT k) (azi o ho k) k),aAT k ho,trivial⟩ func187 fun t depth c0 Z x h=>alQ (b:=HG (dT k) k (aic c0 Z) (fun r1 z q j v55=>(Ck (dT k) k).lp Z 13 [] k (LY c0 t r1 z depth q j v55)) t depth c0) (by kernel_rfl) (alQ (by simp only [Xa];rfl) h)
def Oo:Rw S:=aj aBu xn fun t i a_r Z=>aa k (m_ k t i a_r) (ah2 Z)
def Cm:Fx S:=fp 48 [(159,PP k),(185,P7 k),(186,P8 k),(187,ol (uy Lm alv) (Oh (d7 k)) (On (dT k))),(188,Gc k)] [] k f156 0
theorem aaD (ho:ai o):Tl o 156 (Oo k:Rw S):=alG (Cm k) ⟨ab1 k ho,ach k ho,aci k ho,vw (azh o ho k) (azi o ho k),JU k ho,trivial⟩ func156 fun t i a_r Z x h=>al9 h
def jx:Rw S:=aj Lr fh fun t a_r c0 Z=>aa k (JL k t a_r c0) (AQ Z)
def UL:Fx S:=fp 18 [(83,P0 k),(84,ox k),(156,Oo k)] [] k f94 1
theorem j8 (ho:ai o):Tl o 94 (jx k:Rw S):=alG (UL k) ⟨ab_ k ho,atg k ho,aaD k ho,trivial⟩ func94 fun t a_r c0 Z x h=>al9 h
def Oq:Rw S:=aj Ls fh fun t c0 Z=>aa k (JI k t c0) (AQ Z)
def UM:Fx S:=fp 9 [(94,jx k),(160,Bg k)] [] k f101 1
theorem aaE (ho:ai o):Tl o 101 (Oq k:Rw S):=alG (UM k) ⟨j8 k ho,Em k ho,trivial⟩ func101 fun t c0 Z x h=>al9 h
def Ot:Rw S:=aj pW xn fun kind kids Z=>aa k (zc k kind kids) (aE Z)
def UN:Fx S:=fx 8 (fun _=>[]) (fun _=>false) [] [] k f58 true [] 0
theorem aaF (ho:ai o):Tl o 58 (Ot k:Rw S):=alG (UN k) trivial func58 fun kind kids Z x h=>al9 h
def Ou:Rw S:=aj Ls fh fun t c0 Z=>aa k (aJ k t c0) (AV Z)
def Cn:Fx S:=fp 50 [(58,Ot k),(101,Oq k),(135,P2 k)] [] k f82 1
theorem aaG (ho:ai o):Tl o 82 (Ou k:Rw S):=alG (Cn k) ⟨aaF k ho,aaE k ho,acb k ho,trivial⟩ func82 fun t c0 Z x h=>al9 h
def Ow:Rw S:=aj eo xn fun a_r Z=>aa k (aW k a_r) (da Z)
def UP:Fx S:=fp 18 [] [] k f81 0
theorem aaI (ho:ai o):Tl o 81 (Ow k:Rw S):=alG (UP k) trivial func81 fun a_r Z x h=>al9 h
def Ox:Rw S:=aj Ls fh fun t c0 Z=>aa k (cA k t c0) (AV Z)
def UQ:Fx S:=fp 38 [(81,Ow k),(94,jx k)] [] k f77 1
theorem aaJ (ho:ai o):Tl o 77 (Ox k:Rw S):=alG (UQ k) ⟨aaI k ho,j8 k ho,trivial⟩ func77 fun t c0 Z x h=>al9 h
def vD:Rw S:=aj ar9 xn fun t Z=>aa k (bA k t) (aid Z)
def UR:Fx S:=fp 22 [(58,Ot k),(81,Ow k)] [] k f78 0
theorem aFe (ho:ai o):Tl o 78 (vD k:Rw S):=alG (UR k) ⟨aaF k ho,aaI k ho,trivial⟩ func78 fun t Z x h=>al9 h
def Oy:Rw S:=aj adY xn fun kind a_r kids Z=>aa k (tO k kind a_r kids) (vC Z)
def US:Fx S:=fx 11 (fun _=>[]) (fun _=>false) [] [] k f97 true [] 0
theorem aaK (ho:ai o):Tl o 97 (Oy k:Rw S):=alG (US k) trivial func97 fun kind a_r kids Z x h=>al9 h
def Oz:Rw S:=aj ar9 xn fun t Z=>aa k (axm k t) (aid Z)
def mI:Fx S:=fp 36 [(97,Oy k)] [] k f79 0
theorem aaL (ho:ai o):Tl o 79 (Oz k:Rw S):=alG (mI k) ⟨aaK k ho,trivial⟩ func79 fun t Z x h=>al9 h
def Gf:Rw S:=aj ar9 xn fun t Z=>aa k (axn k t) (aid Z)
def jN:Fx S:=fp 48 [(58,Ot k),(97,Oy k)] [] k f80 0
theorem aFf (ho:ai o):Tl o 80 (Gf k:Rw S):=alG (jN k) ⟨aaF k ho,aaK k ho,trivial⟩ func80 fun t Z x h=>al9 h
def OA:Rw S:=aj Ls fh fun t c0 Z=>aa k (cD k t c0) (AV Z)
def UT:Fx S:=fp 120 [(55,P1 k),(77,Ox k),(78,vD k),(79,Oz k),(80,Gf k),(81,Ow k),(82,Ou k)] [] k f51 1
theorem aaM (ho:ai o):Tl o 51 (OA k:Rw S):=alG (UT k) ⟨aca k ho,aaJ k ho,aFe k ho,aaL k ho,aFf k ho,aaI k ho,aaG k ho,trivial⟩ func51 fun t c0 Z x h=>al9 h
def Gg:Rw S:=aj Ls fh fun t c0 Z=>aa k (ly k t c0) (AW Z)
def mJ:Fx S:=fp 20 [(23,PK k),(30,PL (dJ k)),(83,P0 k),(84,ox k)] [] k f52 1
theorem au6 (ho:ai o):Tl o 52 (Gg k:Rw S):=alG (mJ k) ⟨abV k ho,ath o ho k,ab_ k ho,atg k ho,trivial⟩ func52 fun t c0 Z x h=>al9 h
def vE:Rw S:=aj ar9 xn fun t Z=>aa k (axl k t) (AX Z)
def UV:Fx S:=fp 33 [(23,PK k),(30,PL (dJ k)),(51,OA k),(52,Gg k)] [] k f33 0
theorem aFg (ho:ai o):Tl o 33 (vE k:Rw S):=alG (UV k) ⟨abV k ho,ath o ho k,aaM k ho,au6 k ho,trivial⟩ func33 fun t Z x h=>al9 h
def OB:Rw S:=aj amR xn fun t vars dims Z=>aa k (anX k t vars dims) (da Z)
def UW:Fx S:=fp 28 [(40,Qg k),(41,GI (ic k))] [] k f19 0
theorem aaN (ho:ai o):Tl o 19 (OB k:Rw S):=alG (UW k) ⟨eX9 k ho,azl o ho k,trivial⟩ func19 fun t vars dims Z x h=>al9 h
def OD:Rw S:=aj adZ xn fun defs t Z=>aa k (cR k defs t) (aid Z)
def mK:Fx S:=fp 32 [(19,OB k),(30,PL (dJ k))] [(4,⟨[(3,km),(4,km),(12,km),(13,km),(14,km)],[(3,[km,km,km,km,km,km]),(4,[km,km,km,an2 200259,an2 200260,an2 200261])]⟩,ap 5 11)] k f37 0
def Fv (t:Tm) (defs:List Df) (h:Int):St UU:=⟨[(3,(pt 3)),(4,(pt 4)),(12,(slD defs .none)),(13,(iI defs.length)),(14,(iI h))],[(3,bT t),(4,.cells [(iI 0),(iI 0),arO,(.own 200259 0),(.own 200260 0),(.own 200261 0)])],[(200261,arv),(200260,arI),(200259,arB)],[(200261,.wr),(200260,.wr),(200259,.wr)]⟩
section
variable (k:Nat) (defs:List Df) (t:Tm) (Z:Out UU->Option S)
theorem Xn: ∀n h,(mK k).lp Z 4 [] n (Fv t defs h)=bM k (aid Z) t defs n h:=cF (cr k (aid Z) t defs)
end
theorem aaP (ho:ai o):Tl o 37 (OD k:Rw S):=alG (mK k) ⟨aaN k ho,ath o ho k,trivial⟩ func37 fun defs t Z x h=>alQ (b:=aAq k (aid Z) (fun j=>(mK k).lp Z 4 [] k (Fv t defs j)) defs t) (by kernel_rfl) (alQ (by simp only [Xn];rfl) (al h))
def OE:Rw S:=aj pW xn fun kind kids Z=>aa k (arj k kind kids) (aE Z)
def UY:Fx S:=fx 8 (fun _=>[]) (fun _=>false) [] [] k f138 true [] 0
theorem aaQ (ho:ai o):Tl o 138 (OE k:Rw S):=alG (UY k) trivial func138 fun kind kids Z x h=>al9 h
def OF:Rw S:=aj Lk xn fun sys Z=>aa k (avu k sys) (AY Z)
def UZ:Fx S:=fx 8 (fun _=>[]) (fun _=>false) [(138,OE k)] [] k f137 true [] 0
theorem aaR (ho:ai o):Tl o 137 (OF k:Rw S):=alG (UZ k) ⟨aaQ k ho,trivial⟩ func137 fun sys Z x h=>al9 h
def OG:Rw S:=aj Lt fh fun a_e c0 Z=>aa k (iZ k a_e c0) (cO Z)
def U0:Fx S:=fp 13 [] [] k f178 1
theorem aaS (ho:ai o):Tl o 178 (OG k:Rw S):=alG (U0 k) trivial func178 fun a_e c0 Z x h=>al9 h
def OH:Rw S:=aj EW xn fun l Z=>aa k (m9 k l) (AZ Z)
def U1:Fx S:=fp 22 [(23,PK k),(178,OG k)] [(3,aS [3,8,9,10] [(7,1)],ap 5 11)] k f136 0
def aBI (l:List Tm) (h v10:Int):St UU:=⟨[(3,(pt 7)),(8,(sT l)),(9,(iI l.length)),(10,(iI v10))],[(7,bI h)],[],[]⟩
section
variable (k:Nat) (l:List Tm) (Z:Out UU->Option S)
theorem aDL: ∀n h v10,(U1 k).lp Z 3 [] n (aBI l h v10)=pY k (AZ Z) l n h v10:=aL (wL k (AZ Z) l)
end
theorem aaT (ho:ai o):Tl o 136 (OH k:Rw S):=alG (U1 k) ⟨abV k ho,aaS k ho,trivial⟩ func136 fun l Z x h=>alQ (b:=Hs k (AZ Z) (fun j v10=>(U1 k).lp Z 3 [] k (aBI l j v10)) l) (by kernel_rfl) (alQ (by simp only [aDL];rfl) (al h))
def OI:Rw S:=aj EX fh fun c0 Z=>aa k (de k c0) (kT c0 Z)
def Co:Fx S:=fp 8 [] [] k f140 1
theorem aaU (ho:ai o):Tl o 140 (OI k:Rw S):=alG (Co k) trivial func140 fun c0 Z x h=>al9 h
def Gi:Rw S:=aj ad0 fh fun t vars dims c0 Z=>aa k (arP k t vars dims c0) (AQ Z)
def U2:Fx S:=fp 30 [(89,vO k),(140,OI k),(178,OG k)] [] k f139 1
theorem JW (ho:ai o):Tl o 139 (Gi k:Rw S):=alG (U2 k) ⟨azd k ho,aaU k ho,aaS k ho,trivial⟩ func139 fun t vars dims c0 Z x h=>al9 h
def OJ:Rw S:=aj Ls fh fun t c0 Z=>aa k (eQ k t c0) (aie Z)
def U3:Fx S:=fp 28 [(23,PK k),(140,OI k),(178,OG k)] [] k f143 1
theorem aaV (ho:ai o):Tl o 143 (OJ k:Rw S):=alG (U3 k) ⟨abV k ho,aaU k ho,aaS k ho,trivial⟩ func143 fun t c0 Z x h=>al9 h
def OK:Rw S:=aj Lu fh fun f c0 Z=>aa k (tA k f c0) (aif Z)
def Cp:Fx S:=fp 23 [(140,OI k),(159,PP k),(178,OG k)] [] k f141 1
theorem aaW (ho:ai o):Tl o 141 (OK k:Rw S):=alG (Cp k) ⟨aaU k ho,ab1 k ho,aaS k ho,trivial⟩ func141 fun f c0 Z x h=>al9 h
def OL:Rw S:=aj adI ayT fun c0 c1 c2 Z=>aa k (yX k c0 c1 c2) (aCG c0 c1 c2 Z)
def U4:Fx S:=fp 10 [(146,PR (dk k))] [] k f147 3
theorem aaX (ho:ai o):Tl o 147 (OL k:Rw S):=alG (U4 k) ⟨ayd o ho k,trivial⟩ func147 fun c0 c1 c2 Z x h=>al9 h
def Gj:Rw S:=aj ad2 ayT fun t numbers c0 c1 c2 Z=>aa k (yZ k t numbers c0 c1 c2) (aih c0 c1 c2 Z)
def U5:Fx S:=⟨⟨30,(fun _=>[]),(fun _=>false),km,fun|6=>true|7=>true|_=>false⟩,[(23,PK k),(147,OL k)],[(5,⟨[(2,km),(6,km),(7,km),(17,km),(18,km),(19,km)],[(1000000,[km]),(1000001,[km,km,km,km,km,km]),(1000002,[km]),(5000006,[km,km,km,an2 320200387,an2 320200388,an2 320200389]),(5000007,[km])]⟩,ap 5 11)],k,f144,false,[],3,some (o9 16 179 f179 k)⟩
def aBJ (c0:Int) (c1:Tm) (c2:Int) (numbers:List Int) (h:Int):St UU:=⟨[(2,(.func 147 [] [(pt 1000000),(pt 1000001),(pt 1000002)])),(6,(pt 5000006)),(7,(pt 5000007)),(17,(la numbers .none)),(18,(iI numbers.length)),(19,(iI h))],[(1000000,bI c0),(1000001,bT c1),(1000002,bI c2),(5000006,.cells [(iI 0),(iI 0),arO,(.own 320200387 0),(.own 320200388 0),(.own 320200389 0)]),(5000007,bI 0)],[(320200389,arv),(320200388,arI),(320200387,arB)],[(320200389,.wr),(320200388,.wr),(320200387,.wr)]⟩
section
variable (k:Nat) (t:Tm) (numbers:List Int) (c0:Int) (c1:Tm) (c2:Int) (Z:Out UU->Option S)
theorem aDM: ∀n h,(U5 k).lp Z 5 [] n (aBJ c0 c1 c2 numbers h)=nC k (aih c0 c1 c2 Z) c0 c1 c2 numbers n h:=cF (xa k (aih c0 c1 c2 Z) c0 c1 c2 numbers)
end
theorem JX (ho:ai o):Tl o 144 (Gj k:Rw S):=BZ (U5 k) rfl (yn o func179 (by kernel_rfl)) ⟨abV k ho,aaX k ho,trivial⟩ func144 (by kernel_rfl) fun t numbers c0 c1 c2 Z x h=>alQ (b:=BQ k (aih c0 c1 c2 Z) (fun j=>(U5 k).lp Z 5 [] k (aBJ c0 c1 c2 numbers j)) t numbers c0 c1 c2) (by kernel_rfl) (alQ (by simp only [aDM];rfl) (al h))
def Gk:Rw S:=aj amR xn fun t a_from a_by Z=>aa k (lv k t a_from a_by) (ah2 Z)
def rV:Fx S:=fp 16 [(144,Gj k)] [] k f87 0
theorem JY (ho:ai o):Tl o 87 (Gk k:Rw S):=alG (rV k) ⟨JX k ho,trivial⟩ func87 fun t a_from a_by Z x h=>al9 h
def ON:Rw S:=aj Lr fh fun line a_r c0 Z=>aa k (lr k line a_r c0) (AQ Z)
def U6:Fx S:=fp 44 [(87,Gk k),(140,OI k),(156,Oo k),(178,OG k)] [] k f142 1
theorem aaZ (ho:ai o):Tl o 142 (ON k:Rw S):=alG (U6 k) ⟨JY k ho,aaU k ho,aaD k ho,aaS k ho,trivial⟩ func142 fun line a_r c0 Z x h=>al9 h
def OO:Rw S:=aj aBy xn fun t a sys Z=>aa k (yy k t a sys) (ah2 Z)
def U7:Fx S:=fp 76 [(136,OH k),(137,OF k),(138,OE k),(139,Gi k),(140,OI k),(141,OK k),(142,ON k),(143,OJ k)] [(4,⟨[(4,km),(6,km),(8,km),(9,km),(27,km),(28,km),(29,km)],[(4,[km,km,km,km,km,km]),(6,[km,km,km,an2 200387,an2 200388,an2 200389]),(9,[km,km,km,an2 200579,km,an2 200581]),(19000,[km])]⟩,ap 6 23)] k f85 0
def aBK (a:Tm) (j:Int×Int×ByteArray×List Tm) (sys:List (Br Tm)) (q:Int) (h:List (Br Tm)) (x:Int):St UU:=⟨[(4,(pt 4)),(6,(pt 6)),(8,(pt 19000)),(9,(pt 9)),(27,(sB sys)),(28,(iI sys.length)),(29,(iI x))],[(4,bT a),(6,.cells [(iI 0),(iI 0),arO,(.own 200387 0),(.own 200388 0),(.own 200389 0)]),(9,.cells [(iI j.1),(iI j.2.1),(.str j.2.2.1),(.own 200579 0),(sT j.2.2.2),(.own 200581 0)]),(19000,bI q)],[(200581,⟨0,ET.B,h⟩),(200579,arB),(200389,arv),(200388,arI),(200387,arB)],[(200581,.wr),(200579,.wr),(200389,.wr),(200388,.wr),(200387,.wr)]⟩
section
variable (k:Nat) (t a:Tm) (sys:List (Br Tm)) (Z:Out UU->Option S)
theorem aDN (x): ∀n j h q,(U7 k).lp Z 4 [] n (aBK a x sys j h q)=gM k (ah2 Z) a x sys n j h q:=eW (oQ k (ah2 Z) a x sys)
end
theorem aa0 (ho:ai o):Tl o 85 (OO k:Rw S):=alG (U7 k) ⟨aaT k ho,aaR k ho,aaQ k ho,JW k ho,aaU k ho,aaW k ho,aaZ k ho,aaV k ho,trivial⟩ func85 fun t a sys Z x h=>alQ (b:=Hr k (ah2 Z) (fun A q j z=>(U7 k).lp Z 4 [] k (aBK a A sys q j z)) t a sys) (by kernel_rfl) (alQ (by simp only [aDN];rfl) (al h))
def OP:Rw S:=aj ad4 fh fun t a sys c0 Z=>aa k (y_ k t a sys c0) (AQ Z)
def U8:Fx S:=fp 21 [(83,P0 k),(84,ox k),(85,OO k)] [] k f53 1
theorem aa1 (ho:ai o):Tl o 53 (OP k:Rw S):=alG (U8 k) ⟨ab_ k ho,atg k ho,aa0 k ho,trivial⟩ func53 fun t a sys c0 Z x h=>al9 h
def OQ:Rw S:=aj adI ayT fun c0 c1 c2 Z=>aa k (yY k c0 c1 c2) (aCG c0 c1 c2 Z)
def U9:Fx S:=fp 10 [(146,PR (dk k))] [] k f145 3
theorem aa2 (ho:ai o):Tl o 145 (OQ k:Rw S):=alG (U9 k) ⟨ayd o ho k,trivial⟩ func145 fun c0 c1 c2 Z x h=>al9 h
def OR:Rw S:=aj ad5 ayT fun t numbers c0 c1 c2 Z=>aa k (axS k t numbers c0 c1 c2) (aih c0 c1 c2 Z)
def U_:Fx S:=⟨⟨30,(fun _=>[]),(fun _=>false),km,fun|6=>true|7=>true|_=>false⟩,[(23,PK k),(145,OQ k)],[(5,⟨[(2,km),(6,km),(7,km),(17,km),(18,km),(19,km)],[(1000000,[km]),(1000001,[km,km,km,km,km,km]),(1000002,[km]),(5000006,[km,km,km,an2 320200387,an2 320200388,an2 320200389]),(5000007,[km])]⟩,ap 5 11)],k,f144,false,[],3,some (o9 16 179 f179 k)⟩
def aBL (c0:Int) (c1:Tm) (c2:Int) (numbers:List Int) (h:Int):St UU:=⟨[(2,(.func 145 [] [(pt 1000000),(pt 1000001),(pt 1000002)])),(6,(pt 5000006)),(7,(pt 5000007)),(17,(la numbers .none)),(18,(iI numbers.length)),(19,(iI h))],[(1000000,bI c0),(1000001,bT c1),(1000002,bI c2),(5000006,.cells [(iI 0),(iI 0),arO,(.own 320200387 0),(.own 320200388 0),(.own 320200389 0)]),(5000007,bI 0)],[(320200389,arv),(320200388,arI),(320200387,arB)],[(320200389,.wr),(320200388,.wr),(320200387,.wr)]⟩
section
variable (k:Nat) (t:Tm) (numbers:List Int) (c0:Int) (c1:Tm) (c2:Int) (Z:Out UU->Option S)
theorem aDO: ∀n h,(U_ k).lp Z 5 [] n (aBL c0 c1 c2 numbers h)=nD k (aih c0 c1 c2 Z) c0 c1 c2 numbers n h:=cF (xb k (aih c0 c1 c2 Z) c0 c1 c2 numbers)
end
theorem aa3 (ho:ai o):Tl o 144 (OR k:Rw S):=BZ (U_ k) rfl (yn o func179 (by kernel_rfl)) ⟨abV k ho,aa2 k ho,trivial⟩ func144 (by kernel_rfl) fun t numbers c0 c1 c2 Z x h=>alQ (b:=BR k (aih c0 c1 c2 Z) (fun j=>(U_ k).lp Z 5 [] k (aBL c0 c1 c2 numbers j)) t numbers c0 c1 c2) (by kernel_rfl) (alQ (by simp only [aDO];rfl) (al h))
def aCQ:Rw S:=aj amR xn fun t a_from a_by Z=>aa k (avD k t a_from a_by) (ah2 Z)
def Va:Fx S:=fp 18 [(144,OR k)] [] k f86 0
theorem aa4 (ho:ai o):Tl o 86 (aCQ k:Rw S):=alG (Va k) ⟨aa3 k ho,trivial⟩ func86 fun t a_from a_by Z x h=>al9 h
def OT:Rw S:=aj ad0 fh fun t vars dims c0 Z=>aa k (y8 k t vars dims c0) (AQ Z)
def Cq:Fx S:=fp 32 [(83,P0 k),(84,ox k),(86,aCQ k),(87,Gk k)] [] k f54 1
theorem aa5 (ho:ai o):Tl o 54 (OT k:Rw S):=alG (Cq k) ⟨ab_ k ho,atg k ho,aa4 k ho,JY k ho,trivial⟩ func54 fun t vars dims c0 Z x h=>al9 h
def A3:Rw S:=aj ad0 fh fun t vars dims c0 Z=>aa k (zb k t vars dims c0) (AQ Z)
def Cr:Fx S:=fp 21 [(83,P0 k),(84,ox k),(89,vO k)] [] k f57 1
theorem D_ (ho:ai o):Tl o 57 (A3 k:Rw S):=alG (Cr k) ⟨ab_ k ho,atg k ho,azd k ho,trivial⟩ func57 fun t vars dims c0 Z x h=>al9 h
def vF:Rw S:=aj ad6 aJv fun p a_by a_x c0 c1 c3 Z=>aa k (nc k p a_by a_x c0 c1 c3) (A0 c0 c1 Z)
def Ct:Fx S:=fx 42 (fun _=>[]) (fun _=>false) [(57,A3 k),(58,Ot k)] [(3,⟨[(1,km),(3,km),(5,km),(8,km),(9,km),(10,some (100010,false)),(18,km),(19,km),(20,km)],[(8,[km,km,km,km,km,km]),(9,[km,km,km,an2 200579,an2 200580,an2 200581]),(1000000,[km,km,km,km,km,km]),(1000001,[km]),(1000002,[km]),(1000003,[km])]⟩,ap 5 11)] k f56 true [] 4
def Me (c0:Tm) (c1:Int) (a_x:Tm) (a_by:Int) (j:Int) (h:List Tm) (v20:Int):St UU:=⟨[(1,(iI a_by)),(3,(pt 1000000)),(5,(pt 1000002)),(8,(pt 8)),(9,(pt 9)),(10,(.own 100010 0)),(18,(dO (List.drop (arM 1) (List.take (arM c1) c0.kids)) .none)),(19,(.int .i64 ((List.drop (arM 1) (List.take (arM c1) c0.kids)).length:Int))),(20,(iI v20))],[(8,bT a_x),(9,.cells [(iI 0),(iI 0),arO,(.own 200579 0),(.own 200580 0),(.own 200581 0)]),(1000000,bT c0),(1000001,bI c1),(1000002,.cells [(pt 1000003)]),(1000003,bI j)],[(200581,arv),(200580,arI),(200579,arB),(100010,⟨0,ET.T,h⟩)],[(200581,.wr),(200580,.wr),(200579,.wr),(100010,.app)]⟩
section
variable (k:Nat) (p:Tm) (a_by:Int) (a_x c0:Tm) (c1 c3:Int) (Z:Out UU->Option S)
theorem Xy: ∀n j h v20,(Ct k).lp Z 3 [] n (Me c0 c1 a_x a_by j h v20)=auv k (A0 c0 c1 Z) c0 c1 a_x a_by n j h v20:=eW (aBi k (A0 c0 c1 Z) c0 c1 a_x a_by)
end
theorem aFh (ho:ai o):Tl o 56 (vF k:Rw S):=alG (Ct k) ⟨D_ k ho,aaF k ho,trivial⟩ func56 fun p a_by a_x c0 c1 c3 Z x h=>alQ (b:=BP k (A0 c0 c1 Z) (fun q j v20=>(Ct k).lp Z 3 [] k (Me c0 c1 a_x a_by q j v20)) p a_by a_x c0 c1 c3) (by kernel_rfl) (alQ (by simp only [Xy];rfl) (al h))
def OV:Rw S:=aj Lv xn fun f kids Z=>aa k (aq3 k f kids) (aii Z)
def Cu:Fx S:=fp 8 [] [] k f59 0
theorem aa7 (ho:ai o):Tl o 59 (OV k:Rw S):=alG (Cu k) trivial func59 fun f kids Z x h=>al9 h
def OW:Rw S:=aj Ls fh fun line c0 Z=>aa k (yz k line c0) (AQ Z)
def Vc:Fx S:=fp 25 [(140,OI k),(156,Oo k),(160,Bg k),(178,OG k)] [] k f154 1
theorem aa8 (ho:ai o):Tl o 154 (OW k:Rw S):=alG (Vc k) ⟨aaU k ho,aaD k ho,Em k ho,aaS k ho,trivial⟩ func154 fun line c0 Z x h=>al9 h
def Gl:Rw S:=aj aBy xn fun line a sys Z=>aa k (yx k line a sys) (ah2 Z)
def mL:Fx S:=fp 78 [(30,PL (dJ k)),(136,OH k),(137,OF k),(138,OE k),(140,OI k),(142,ON k),(143,OJ k),(154,OW k)] [(5,⟨[(3,km),(6,km),(8,km),(9,km),(36,km),(37,km),(38,km)],[(3,[km,km,km,km,km,km]),(6,[km,km,km,an2 200387,an2 200388,an2 200389]),(9,[km,km,km,an2 200579,km,an2 200581]),(19000,[km])]⟩,ap 7 47)] k f90 0
def Fw (r3:Tm) (r9:Int×Int×ByteArray×List Tm) (r6:Tm) (j:Int) (h:List (Br Tm)) (v38:Int):St UU:=⟨[(3,(pt 3)),(6,(pt 6)),(8,(pt 19000)),(9,(pt 9)),(36,(sB r6.sys)),(37,(iI r6.sys.length)),(38,(iI v38))],[(3,bT r3),(6,.cells [(iI 0),(iI 0),arO,(.own 200387 0),(.own 200388 0),(.own 200389 0)]),(9,.cells [(iI r9.1),(iI r9.2.1),(.str r9.2.2.1),(.own 200579 0),(sT r9.2.2.2),(.own 200581 0)]),(19000,bI j)],[(200581,⟨0,ET.B,h⟩),(200579,arB),(200389,arv),(200388,arI),(200387,arB)],[(200581,.wr),(200579,.wr),(200389,.wr),(200388,.wr),(200387,.wr)]⟩
section
variable (k:Nat) (line a:Tm) (sys:List (Br Tm)) (Z:Out UU->Option S)
theorem XA (r3 r9 r6): ∀n j h v38,(mL k).lp Z 5 [] n (Fw r3 r9 r6 j h v38)=ko k (ah2 Z) r3 r9 r6 n j h v38:=eW (oP k (ah2 Z) r3 r9 r6)
end
theorem aFi (ho:ai o):Tl o 90 (Gl k:Rw S):=alG (mL k) ⟨ath o ho k,aaT k ho,aaR k ho,aaQ k ho,aaU k ho,aaZ k ho,aaV k ho,aa8 k ho,trivial⟩ func90 fun line a sys Z x h=>alQ (b:=Hq k (ah2 Z) (fun z A B q j v38=>(mL k).lp Z 5 [] k (Fw z A B q j v38)) line a sys) (by kernel_rfl) (alQ (by simp only [XA];rfl) (al h))
def A4:Rw S:=aj ad4 fh fun line a sys c0 Z=>aa k (y9 k line a sys c0) (AQ Z)
def mN:Fx S:=fp 21 [(83,P0 k),(84,ox k),(90,Gl k)] [] k f60 1
theorem ax5 (ho:ai o):Tl o 60 (A4 k:Rw S):=alG (mN k) ⟨ab_ k ho,atg k ho,aFi k ho,trivial⟩ func60 fun line a sys c0 Z x h=>al9 h
def A5:Rw S:=aj ar9 xn fun t Z=>aa k (tL k t) (AX Z)
def mO:Fx S:=fp 119 [(23,PK k),(30,PL (dJ k)),(52,Gg k),(53,OP k),(54,OT k),(55,P1 k),(56,vF k),(59,OV k),(60,A4 k)] [(1000007,⟨[(1,km),(2,km),(6,km)],[(1,[km,km,km,km,km,km]),(2,[km,km,km,an2 200131,an2 200132,an2 200133]),(6,[km])]⟩,ap 4 15),(17,⟨[(2,km),(8,km),(10,km),(11,km),(12,km),(13,km),(14,an2 100014),(88,km),(89,km),(90,km)],[(1,[km,km,km,km,km,km]),(2,[km,km,km,an2 200131,an2 200132,an2 200133]),(6,[km]),(8,[km]),(10,[km,km,km,km,km,km]),(11,[km,km,km,km,km,km]),(13,[km,km,km,an2 200835,km,an2 200837]),(53,[km])]⟩,ap 16 24575)] k f34 0
def Fz (t:Tm):St UU:=⟨[(1,(pt 1)),(2,(pt 2)),(6,(pt 6))],[(1,bT t),(2,.cells [(iI 0),(iI 0),arO,(.own 200131 0),(.own 200132 0),(.own 200133 0)]),(6,.cells [(.int .i64 (su .i64 ((t.kids.length:Int)-1)))])],[(200133,arv),(200132,arI),(200131,arB)],[(200133,.wr),(200132,.wr),(200131,.wr)]⟩
def anJ (r3:Tm) (r9 r10:Tm×Int) (r13:Int×Int×ByteArray×List Tm×Int) (t x4:Tm) (j:Int) (h:List (Br Tm)) (v90:Int):St UU:=⟨[(2,(pt 2)),(8,(pt 8)),(10,(pt 10)),(11,(pt 11)),(12,(.func 56 [] [(pt 1),(pt 6),(pt 8)])),(13,(pt 13)),(14,(.own 100014 0)),(88,(sB x4.sys)),(89,(iI x4.sys.length)),(90,(iI v90))],[(1,bT r3),(2,.cells [(iI 0),(iI 0),arO,(.own 200131 0),(.own 200132 0),(.own 200133 0)]),(6,.cells [(.int .i64 (su .i64 ((t.kids.length:Int)-1)))]),(8,.cells [(pt 53)]),(10,bT r9.1),(11,bT r10.1),(13,.cells [(iI r13.1),(iI r13.2.1),(.str r13.2.2.1),(.own 200835 0),(sT r13.2.2.2.1),(.own 200837 0)]),(53,bI j)],[(200837,arv),(200835,arB),(200133,arv),(200132,arI),(200131,arB),(100014,⟨0,ET.B,h⟩)],[(200837,.wr),(200835,.wr),(200133,.wr),(200132,.wr),(200131,.wr),(100014,.wr)]⟩
section
variable (k:Nat) (t:Tm) (Z:Out UU->Option S)
theorem XH (r3 r9 r10 r13 x4): ∀n j h v90,(mO k).lp Z 17 [] n (anJ r3 r9 r10 r13 t x4 j h v90)=fX k (AX Z) r3 r9 r10 r13 t x4 n j h v90:=eW (oR k (AX Z) r3 r9 r10 r13 t x4)
theorem XG: ∀n,(mO k).jn Z 1000007 [] n (Fz t)=l6 k (AX Z) t n:=gL (w_ k (AX Z) t (fun z A j r13 x4 q h x=>fX k (AX Z) z A j r13 t x4 k q h x)) rfl (fun _=>rfl) (alQ (b:=w_ k (AX Z) t (fun z A j r13 x4 q h x=>(mO k).lp Z 17 [] k (anJ z A j r13 t x4 q h x))) (by kernel_rfl) (by simp only [XH]))
end
theorem aFj (ho:ai o):Tl o 34 (A5 k:Rw S):=alG (mO k) ⟨abV k ho,ath o ho k,au6 k ho,aa1 k ho,aa5 k ho,aca k ho,aFh k ho,aa7 k ho,ax5 k ho,trivial⟩ func34 fun t Z x h=>alQ (b:=HU k (AX Z) ((mO k).jn Z 1000007 [] k (Fz t)) t) (by kernel_rfl) (alQ (by simp only [XG];rfl) (al h))
def OX:Rw S:=aj atV xn fun a_n Z=>aa k (au5 k a_n) (aCH Z)
def Vd:Fx S:=fx 5 (fun _=>[]) (fun _=>false) [] [] k f92 true [] 0
theorem aa9 (ho:ai o):Tl o 92 (OX k:Rw S):=alG (Vd k) trivial func92 fun a_n Z x h=>al9 h
def Gm:Rw S:=aj adD xn fun l Z=>aa k (axw k l) (da Z)
def Ve:Fx S:=fp 15 [(130,PG k)] [(2,aS [5,6,7] [],ap 4 5)] k f254 0
def aBM (l:List (List Cl)) (h:Int):St UU:=⟨[(5,(Hm l .none)),(6,(iI l.length)),(7,(iI h))],[],[],[]⟩
section
variable (k:Nat) (l:List (List Cl)) (Z:Out UU->Option S)
theorem aDP: ∀n h,(Ve k).lp Z 2 [] n (aBM l h)=avO k (da Z) l n h:=cF (aw2 k (da Z) l)
end
theorem JZ (ho:ai o):Tl o 254 (Gm k:Rw S):=alG (Ve k) ⟨abS k ho,trivial⟩ func254 fun l Z x h=>alQ (b:=az8 k (da Z) (fun j=>(Ve k).lp Z 2 [] k (aBM l j)) l) (by kernel_rfl) (alQ (by simp only [aDP];rfl) (al h))
def OY:Rw S:=aj jk xn fun f g Z=>aa k (axv k f g) (aq1 Z)
def Vf:Fx S:=fp 19 [(241,GS k),(254,Gm k)] [] k f230 0
theorem aa_ (ho:ai o):Tl o 230 (OY k:Rw S):=alG (Vf k) ⟨Kx k ho,JZ k ho,trivial⟩ func230 fun f g Z x h=>al9 h
def OZ:Rw S:=aj ad8 fh fun f g c0 Z=>aa k (auH k f g c0) (aif Z)
def rW:Fx S:=fp 26 [(140,OI k),(178,OG k),(230,OY k)] [] k f206 1
theorem aba (ho:ai o):Tl o 206 (OZ k:Rw S):=alG (rW k) ⟨aaU k ho,aaS k ho,aa_ k ho,trivial⟩ func206 fun f g c0 Z x h=>al9 h
def A6:Rw S:=aj ad9 xn fun line phi a a_end a_r Z=>aa k (awn k line phi a a_end a_r) (ah2 Z)
def Cv:Fx S:=fp 49 [(130,PG k),(136,OH k),(138,OE k),(139,Gi k),(141,OK k),(142,ON k),(143,OJ k),(178,OG k),(206,OZ k)] [] k f184 0
theorem Ea (ho:ai o):Tl o 184 (A6 k:Rw S):=alG (Cv k) ⟨abS k ho,aaT k ho,aaQ k ho,JW k ho,aaW k ho,aaZ k ho,aaV k ho,aaS k ho,aba k ho,trivial⟩ func184 fun line phi a a_end a_r Z x h=>al9 h
def O0:Rw S:=aj ad_ xn fun line phi a Z=>aa k (axo k line phi a) (ah2 Z)
def Vh:Fx S:=fp 18 [(184,A6 k)] [] k f155 0
theorem abb (ho:ai o):Tl o 155 (O0 k:Rw S):=alG (Vh k) ⟨Ea k ho,trivial⟩ func155 fun line phi a Z x h=>al9 h
def Gp:Rw S:=aj aea fh fun line phi a c0 Z=>aa k (axU k line phi a c0) (AQ Z)
def Vi:Fx S:=fp 21 [(83,P0 k),(84,ox k),(155,O0 k)] [] k f91 1
theorem J8 (ho:ai o):Tl o 91 (Gp k:Rw S):=alG (Vi k) ⟨ab_ k ho,atg k ho,abb k ho,trivial⟩ func91 fun line phi a c0 Z x h=>al9 h
def aHE:Rw S:=aj awC awe fun line a alJ c0_1 sx wl aas abq abZ c0_7 Z=>aa k (aup k line a alJ c0_1 sx wl aas abq abZ c0_7) (aM alJ c0_1 sx wl aas abq abZ c0_7 Z)
def O1:Rw S:=aj awC awe fun line a alJ c0_1 sx wl aas abq abZ c0_7 Z=>aa k (aup k line a alJ c0_1 sx wl aas abq abZ c0_7) (vC Z)
def Vj:Fx S:=fx 15 (fun _=>[]) (fun _=>false) [(97,Oy k)] [] k f93 true [] 1
theorem aFk (ho:ai o):Tl o 93 (aHE k:Rw S):=alG (Vj k) ⟨aaK k ho,trivial⟩ func93 fun line a alJ c0_1 sx wl aas abq abZ c0_7 Z x h=>al9 h
theorem abc (ho:ai o):Tl o 93 (O1 k:Rw S):=tlS (aFk k ho) fun line a alJ c0_1 sx wl aas abq abZ c0_7 Z x h=>alQ (b:=aa k (aup k line a alJ c0_1 sx wl aas abq abZ c0_7) (aM alJ c0_1 sx wl aas abq abZ c0_7 (DB _ Z))) (by kernel_rfl) (alQ (congrArg (aa k (aup k line a alJ c0_1 sx wl aas abq abZ c0_7)) (funext fun r=>if_pos rfl)) h)
def O2:Rw S:=aj Ls awe fun l alJ c0_1 sx wl aas abq abZ c0_7 Z=>aa k (ax2 k l alJ c0_1 sx wl aas abq abZ c0_7) (azN c0_1 sx wl aas abq abZ c0_7 Z)
def Cw:Fx S:=fx 59 (fun _=>[]) (fun _=>false) [(54,OT k),(55,P1 k),(57,A3 k),(58,Ot k),(91,Gp k),(92,OX k),(93,O1 k),(94,jx k)] [] k f61 true [] 1
theorem abd (ho:ai o):Tl o 61 (O2 k:Rw S):=alG (Cw k) ⟨aa5 k ho,aca k ho,D_ k ho,aaF k ho,J8 k ho,aa9 k ho,abc k ho,j8 k ho,trivial⟩ func61 fun l alJ c0_1 sx wl aas abq abZ c0_7 Z x h=>al9 h
def O3:Rw S:=aj ad_ xn fun line phi a Z=>aa k (axs k line phi a) (ah2 Z)
def Vk:Fx S:=fp 17 [(184,A6 k)] [] k f157 0
theorem abe (ho:ai o):Tl o 157 (O3 k:Rw S):=alG (Vk k) ⟨Ea k ho,trivial⟩ func157 fun line phi a Z x h=>al9 h
def am9:Rw S:=aj aea fh fun line phi a c0 Z=>aa k (awu k line phi a c0) (AQ Z)
def mP:Fx S:=fp 21 [(83,P0 k),(84,ox k),(157,O3 k)] [] k f95 1
theorem nn (ho:ai o):Tl o 95 (am9 k:Rw S):=alG (mP k) ⟨ab_ k ho,atg k ho,abe k ho,trivial⟩ func95 fun line phi a c0 Z x h=>al9 h
def amL:Rw S:=aj Ls awe fun l alJ c0_1 sx wl aas abq abZ c0_7 Z=>aa k (ax3 k l alJ c0_1 sx wl aas abq abZ c0_7) (azN c0_1 sx wl aas abq abZ c0_7 Z)
def Vl:Fx S:=fx 52 (fun _=>[]) (fun _=>false) [(55,P1 k),(58,Ot k),(93,O1 k),(95,am9 k)] [] k f62 true [] 1
theorem amQ (ho:ai o):Tl o 62 (amL k:Rw S):=alG (Vl k) ⟨aca k ho,aaF k ho,abc k ho,nn k ho,trivial⟩ func62 fun l alJ c0_1 sx wl aas abq abZ c0_7 Z x h=>al9 h
def am_:Rw S:=aj ar9 xn fun t Z=>aa k (ax0 k t) (ah2 Z)
def Vm:Fx S:=fp 21 [(87,Gk k),(156,Oo k)] [] k f158 0
theorem np (ho:ai o):Tl o 158 (am_ k:Rw S):=alG (Vm k) ⟨JY k ho,aaD k ho,trivial⟩ func158 fun t Z x h=>al9 h
def ani:Rw S:=aj Ls awe fun t alJ c0_1 sx wl aas abq abZ c0_7 Z=>aa k (ax4 k t alJ c0_1 sx wl aas abq abZ c0_7) (aHn c0_1 sx wl aas abq abZ c0_7 Z)
def Cx:Fx S:=fp 25 [(158,am_ k)] [] k f98 1
theorem pJ (ho:ai o):Tl o 98 (ani k:Rw S):=alG (Cx k) ⟨np k ho,trivial⟩ func98 fun t alJ c0_1 sx wl aas abq abZ c0_7 Z x h=>al9 h
def Gq:Rw S:=aj adv aJl fun a_by a_r c1 c2 arG aqT aqM aqN aqO aqP aqQ aqR Z=>aa k (aww k a_by a_r c1 c2 arG aqT aqM aqN aqO aqP aqQ aqR) (aHo c1 c2 aqT aqM aqN aqO aqP aqQ aqR Z)
def rX:Fx S:=fx 37 (fun _=>[]) (fun _=>false) [(57,A3 k),(97,Oy k)] [] k f96 true [] 4
theorem J9 (ho:ai o):Tl o 96 (Gq k:Rw S):=alG (rX k) ⟨D_ k ho,aaK k ho,trivial⟩ func96 fun a_by a_r c1 c2 arG aqT aqM aqN aqO aqP aqQ aqR Z x h=>al9 h
def anj:Rw S:=aj adx fh fun f a_by c0 Z=>aa k (JK k f a_by c0) (aif Z)
def Cy:Fx S:=fp 23 [(83,P0 k),(84,ox k),(159,PP k)] [] k f99 1
theorem pK (ho:ai o):Tl o 99 (anj k:Rw S):=alG (Cy k) ⟨ab_ k ho,atg k ho,ab1 k ho,trivial⟩ func99 fun f a_by c0 Z x h=>al9 h
def O4:Rw S:=aj adK fh fun t a_by c0 Z=>aa k (JJ k t a_by c0) (AQ Z)
def Vo:Fx S:=fp 18 [(83,P0 k),(84,ox k),(87,Gk k)] [] k f100 1
theorem abf (ho:ai o):Tl o 100 (O4 k:Rw S):=alG (Vo k) ⟨ab_ k ho,atg k ho,JY k ho,trivial⟩ func100 fun t a_by c0 Z x h=>al9 h
def anB:Rw S:=aj Ls awe fun l alJ c0_1 sx wl aas abq abZ c0_7 Z=>aa k (ax1 k l alJ c0_1 sx wl aas abq abZ c0_7) (azN c0_1 sx wl aas abq abZ c0_7 Z)
def rY:Fx S:=fx 100 (fun _=>[]) (fun _=>false) [(58,Ot k),(59,OV k),(60,A4 k),(94,jx k),(96,Gq k),(98,ani k),(99,anj k),(100,O4 k)] [] k f63 true [] 1
theorem um (ho:ai o):Tl o 63 (anB k:Rw S):=alG (rY k) ⟨aaF k ho,aa7 k ho,ax5 k ho,j8 k ho,J9 k ho,pJ k ho,pK k ho,abf k ho,trivial⟩ func63 fun l alJ c0_1 sx wl aas abq abZ c0_7 Z x h=>al9 h
def Gr:Rw S:=aj ady xn fun kind l kids Z=>aa k (JM k kind l kids) (aCI Z)
def Cz:Fx S:=fx 11 (fun _=>[]) (fun _=>false) [] [] k f102 true [] 0
theorem J_ (ho:ai o):Tl o 102 (Gr k:Rw S):=alG (Cz k) trivial func102 fun kind l kids Z x h=>al9 h
def vG:Rw S:=aj ar9 xn fun t Z=>aa k (JG k t) (AX Z)
def CA:Fx S:=fp 133 [(23,PK k),(30,PL (dJ k)),(52,Gg k),(59,OV k),(97,Oy k),(99,anj k),(100,O4 k),(101,Oq k),(102,Gr k)] [(20,⟨[(1,km),(2,km),(6,km),(8,km),(9,km),(10,km),(11,an2 100011),(94,km),(95,km),(96,km)],[(1,[km,km,km,km,km,km]),(2,[km,km,km,an2 200131,an2 200132,an2 200133]),(6,[km,km,km,km,km,km]),(9,[km,km,km,km,km,km]),(10,[km,km,km,km,km,an2 200645]),(44,[km])]⟩,ap 21 769727)] k f64 0
def Mt (r3:Tm) (h:Int×Int×ByteArray×List Cl×List Tm) (x4:Tm) (r13:Tm×Int) (x5:Tm) (q:Int) (j:List (Br Tm)) (x:Int):St UU:=⟨[(1,(pt 1)),(2,(pt 2)),(6,(pt 6)),(8,(pt 44)),(9,(pt 9)),(10,(pt 10)),(11,(.own 100011 0)),(94,(sB x5.sys)),(95,(iI x5.sys.length)),(96,(iI x))],[(1,bT r3),(2,.cells [(iI 0),(iI 0),arO,(.own 200131 0),(.own 200132 0),(.own 200133 0)]),(6,bT x4),(9,bT r13.1),(10,.cells [(iI h.1),(iI h.2.1),(.str h.2.2.1),(sC h.2.2.2.1),(sT h.2.2.2.2),(.own 200645 0)]),(44,bI q)],[(200645,arv),(200133,arv),(200132,arI),(200131,arB),(100011,⟨0,ET.B,j⟩)],[(200645,.wr),(200133,.wr),(200132,.wr),(200131,.wr),(100011,.wr)]⟩
section
variable (k:Nat) (t:Tm) (Z:Out UU->Option S)
theorem XX (r3 j x4 r13 x5): ∀n q h x,(CA k).lp Z 20 [] n (Mt r3 j x4 r13 x5 q h x)=E7 k (AX Z) r3 j x4 r13 x5 n q h x:=eW (Jp k (AX Z) r3 j x4 r13 x5)
end
theorem zI (ho:ai o):Tl o 64 (vG k:Rw S):=alG (CA k) ⟨abV k ho,ath o ho k,au6 k ho,aa7 k ho,aaK k ho,pK k ho,abf k ho,aaE k ho,J_ k ho,trivial⟩ func64 fun t Z x h=>alQ (b:=SP k (AX Z) (fun B q x4 r13 x5 z j A=>(CA k).lp Z 20 [] k (Mt B q x4 r13 x5 z j A)) t) (by kernel_rfl) (alQ (by simp only [XX];rfl) (al h))
def vH:Rw S:=aj adL xn fun b Z=>aa k (ay_ k b) (aii Z)
def Vp:Fx S:=fp 11 [(59,OV k)] [] k f171 0
theorem zJ (ho:ai o):Tl o 171 (vH k:Rw S):=alG (Vp k) ⟨aa7 k ho,trivial⟩ func171 fun b Z x h=>al9 h
def Gs:Rw S:=aj adz xn fun l Z=>aa k (axE k l) (ayt Z)
def eM:Fx S:=fx 22 (fun _=>[]) (fun _=>false) [(171,vH k)] [(3,⟨[(1,km),(5,an2 100005),(8,km),(9,km),(10,km)],[]⟩,ap 5 11)] k f118 false [true] 0
def Mu (l:List (Br Tm)) (v10:Int) (h:List (Br Tm)):St UU:=⟨[(1,(.func 171 [] [])),(5,(.own 100005 0)),(8,(sB l)),(9,(iI l.length)),(10,(iI v10))],[],[(100005,⟨0,ET.B,h⟩)],[(100005,.wr)]⟩
section
variable (k:Nat) (l:List (Br Tm)) (Z:Out UU->Option S)
theorem XY: ∀n v10 h,(eM k).lp Z 3 [] n (Mu l v10 h)=avV k (ayt Z) l n v10 h:=aL (aw_ k (ayt Z) l)
end
theorem aFl (ho:ai o):Tl o 118 (Gs k:Rw S):=alG (eM k) ⟨zJ k ho,trivial⟩ func118 fun l Z x h=>alQ (b:=ayK k (ayt Z) (fun v10 j=>(eM k).lp Z 3 [] k (Mu l v10 j)) l) (by kernel_rfl) (alQ (by simp only [XY];rfl) (al h))
def anC:Rw S:=aj ar9 xn fun g Z=>aa k (au4 k g) (aCJ Z)
def Vq:Fx S:=fp 6 [(118,Gs k)] [] k f117 0
theorem uo (ho:ai o):Tl o 117 (anC k:Rw S):=alG (Vq k) ⟨aFl k ho,trivial⟩ func117 fun g Z x h=>al9 h
def Gt:Rw S:=aj gi xn fun a es Z=>aa k (aun k a es) (aCI Z)
def CB:Fx S:=fx 9 (fun _=>[]) (fun _=>false) [(102,Gr k)] [] k f120 true [] 0
theorem Ka (ho:ai o):Tl o 120 (Gt k:Rw S):=alG (CB k) ⟨J_ k ho,trivial⟩ func120 fun a es Z x h=>al9 h
def Gu:Rw S:=aj EU fh fun c c0 Z=>aa k (ay3 k c c0) (aHp c0 Z)
def CC:Fx S:=fp 14 [(210,GP k)] [] k f223 1
theorem Kb (ho:ai o):Tl o 223 (Gu k:Rw S):=alG (CC k) ⟨Ku k ho,trivial⟩ func223 fun c c0 Z x h=>al9 h
def amV:Rw S:=aj aGj fh fun l c0 Z=>aa k (ay4 k l c0) (ayu c0 Z)
def Vs:Fx S:=fp 29 [(223,Gu k)] [(3,⟨[(1,km),(5,an2 100005),(10,km),(11,km),(12,km)],[(1000000,[km])]⟩,ap 5 11)] k f222 1
def aBN (c0:Int) (l:List Cl) (v12:Int) (h:List Cl):St UU:=⟨[(1,(.func 223 [] [(pt 1000000)])),(5,(.own 100005 0)),(10,(sC l)),(11,(iI l.length)),(12,(iI v12))],[(1000000,bI c0)],[(100005,⟨0,ET.C,h⟩)],[(100005,.wr)]⟩
section
variable (k:Nat) (l:List Cl) (c0:Int) (Z:Out UU->Option S)
theorem aDQ: ∀n v12 h,(Vs k).lp Z 3 [] n (aBN c0 l v12 h)=avN k (ayu c0 Z) c0 l n v12 h:=aL (aw1 k (ayu c0 Z) c0 l)
end
theorem am3 (ho:ai o):Tl o 222 (amV k:Rw S):=alG (Vs k) ⟨Kb k ho,trivial⟩ func222 fun l c0 Z x h=>alQ (b:=az7 k (ayu c0 Z) (fun v12 j=>(Vs k).lp Z 3 [] k (aBN c0 l v12 j)) l c0) (by kernel_rfl) (alQ (by simp only [aDQ];rfl) (al h))
def O6:Rw S:=aj EV xn fun f i Z=>aa k (axu k f i) (aq1 Z)
def CD:Fx S:=fp 20 [(130,PG k),(172,Pp k),(221,GQ k),(222,amV k)] [] k f194 0
theorem abh (ho:ai o):Tl o 194 (O6 k:Rw S):=alG (CD k) ⟨abS k ho,abB k ho,Kv k ho,am3 k ho,trivial⟩ func194 fun f i Z x h=>al9 h
def O7:Rw S:=aj Lu fh fun f c0 Z=>aa k (axT k f c0) (aif Z)
def Vt:Fx S:=fp 39 [(58,Ot k),(83,P0 k),(84,ox k),(156,Oo k),(191,GK k),(194,O6 k)] [] k f161 1
theorem abi (ho:ai o):Tl o 161 (O7 k:Rw S):=alG (Vt k) ⟨aaF k ho,ab_ k ho,atg k ho,aaD k ho,Kp k ho,abh k ho,trivial⟩ func161 fun f c0 Z x h=>al9 h
def aHF:Rw S:=aj cZ aAw fun c1 az h j q x z A B E F I J L M O T W Y ad ao ax Z=>aa k (avw k c1 az h j q x z A B E F I J L M O T W Y ad ao ax) (aCK c1 h j q x z A B E F I J L M O T W Y ad ao ax Z)
def vI:Rw S:=aj cZ aAw fun c1 h j q x z A B E F I J L M O T W Y ad ao ax az Z=>aa k (avw k c1 h j q x z A B E F I J L M O T W Y ad ao ax az) (aHq Z)
def CE:Fx S:=fp 8 [(57,A3 k)] [] k f162 3
theorem aFm (ho:ai o):Tl o 162 (aHF k:Rw S):=alG (CE k) ⟨D_ k ho,trivial⟩ func162 fun c1 j q z A B E F I J L M O T W Y ad ao ax az a6 a7 Z x h=>al9 h
theorem zK (ho:ai o):Tl o 162 (vI k:Rw S):=tlP (n:=2) (m:=1) (aFm k ho) fun c1 a7 j q z A B E F I J L M O T W Y ad ao ax az a6 Z x h=>alQ (b:=aa k (avw k c1 a7 j q z A B E F I J L M O T W Y ad ao ax az a6) (aCK c1 j q z A B E F I J L M O T W Y ad ao ax az a6 (au1 2 1 [.cells [(pt 2)],bT c1,.cells [(iI a7),(sC j),(iI q),(iI z),(.str A),(sC B),(sT E),(sB F),(sB I),(iI J),(iI L),(.str M),(sC O),(sT T),(sB W),(iI Y),(iI ad),(.str ao),(sC ax),(sT az),(sB a6)]] Z))) (by kernel_rfl) (alQ (congrArg (aa k (avw k c1 a7 j q z A B E F I J L M O T W Y ad ao ax az a6)) (funext fun r=>if_pos ⟨rfl,rfl⟩)) h)
def O8:Rw S:=aj aGk aJm fun alJ c0_1 sx wl aas abq abZ c0_7 h aqZ aqU aqV aqW aqX aqY aqG aqH aqI aqJ aqK aqL c2 Z=>aa k (awp k alJ c0_1 sx wl aas abq abZ c0_7 h aqZ aqU aqV aqW aqX aqY aqG aqH aqI aqJ aqK aqL c2) (aHr c0_1 sx wl aas abq abZ c0_7 h aqZ aqU aqV aqW aqX aqY aqG aqH aqI aqJ aqK aqL c2 Z)
def Vu:Fx S:=fx 20 (fun _=>[]) (fun _=>false) [(59,OV k),(162,vI k)] [] k f107 true [false,true] 3
theorem abj (ho:ai o):Tl o 107 (O8 k:Rw S):=alG (Vu k) ⟨aa7 k ho,zK k ho,trivial⟩ func107 fun alJ c0_1 sx wl aas abq abZ c0_7 j aqZ aqU aqV aqW aqX aqY aqG aqH aqI aqJ aqK aqL c2 Z x h=>al9 h
def anD:Rw S:=aj ar9 xn fun a_e Z=>aa k (aum k a_e) (aE Z)
def jO:Fx S:=fx 6 (fun _=>[]) (fun _=>false) [(58,Ot k)] [] k f109 true [] 0
theorem ax6 (ho:ai o):Tl o 109 (anD k:Rw S):=alG (jO k) ⟨aaF k ho,trivial⟩ func109 fun a_e Z x h=>al9 h
def A8:Rw S:=aj aBm awf fun b aqS aph api apl apm apn apr aps aqC aqi apG apH apI apJ ap3 aqr aqx aqy aqz aqA aqB Z=>aa k (ay7 k b aqS aph api apl apm apn apr aps aqC aqi apG apH apI apJ ap3 aqr aqx aqy aqz aqA aqB) (aHs aph api apl apm apn apr aps aqC aqi apG apH apI apJ ap3 aqr aqx aqy aqz aqA aqB Z)
def Vv:Fx S:=fp 31 [(58,Ot k),(59,OV k),(95,am9 k),(109,anD k)] [] k f163 2
theorem Ec (ho:ai o):Tl o 163 (A8 k:Rw S):=alG (Vv k) ⟨aaF k ho,aa7 k ho,nn k ho,ax6 k ho,trivial⟩ func163 fun b aqS aph api apl apm apn apr aps aqC aqi apG apH apI apJ ap3 aqr aqx aqy aqz aqA aqB Z x h=>al9 h
def Gv:Rw S:=aj aGl awf fun l aqS aph api apl apm apn apr aps aqC aqi apG apH apI apJ ap3 aqr aqx aqy aqz aqA aqB Z=>aa k (awq k l aqS aph api apl apm apn apr aps aqC aqi apG apH apI apJ ap3 aqr aqx aqy aqz aqA aqB) (ayv aph api apl apm apn apr aps aqC aqi apG apH apI apJ ap3 aqr aqx aqy aqz aqA aqB Z)
def CF:Fx S:=fx 22 (fun _=>[]) (fun _=>false) [(163,A8 k)] [(3,⟨[(1,km),(5,an2 100005),(8,km),(9,km),(10,km)],[(1000000,[km]),(1000001,[km,km,km,km,km,km,km,km,km,km,km,km,km,km,km,km,km,km,km,km,km])]⟩,ap 5 11)] k f118 false [true] 2
def MF (aph:List Cl) (apG:Int) (apH:ByteArray) (apI:List Cl) (apJ:List Tm) (ap3:List (Br Tm)) (aqr aqx:Int) (aqy:ByteArray) (aqz:List Cl) (aqA:List Tm) (api:Int) (aqB:List (Br Tm)) (apl:Int) (apm:ByteArray) (apn:List Cl) (apr:List Tm) (aps aqC:List (Br Tm)) (aqi:Int) (l:List (Br Tm)) (arm v10:Int) (h:List (Br Tm)):St UU:=⟨[(1,(.func 163 [] [(pt 1000000)])),(5,(.own 100005 0)),(8,(sB l)),(9,(iI l.length)),(10,(iI v10))],[(1000000,.cells [(pt 1000001)]),(1000001,.cells [(iI arm),(sC aph),(iI api),(iI apl),(.str apm),(sC apn),(sT apr),(sB aps),(sB aqC),(iI aqi),(iI apG),(.str apH),(sC apI),(sT apJ),(sB ap3),(iI aqr),(iI aqx),(.str aqy),(sC aqz),(sT aqA),(sB aqB)])],[(100005,⟨0,ET.B,h⟩)],[(100005,.wr)]⟩
section
variable (k:Nat) (l:List (Br Tm)) (aqS:Int) (aph:List Cl) (api apl:Int) (apm:ByteArray) (apn:List Cl) (apr:List Tm) (aps aqC:List (Br Tm)) (aqi apG:Int) (apH:ByteArray) (apI:List Cl) (apJ:List Tm) (ap3:List (Br Tm)) (aqr aqx:Int) (aqy:ByteArray) (aqz:List Cl) (aqA:List Tm) (aqB:List (Br Tm)) (Z:Out UU->Option S)
theorem Yc: ∀n arm v10 h,(CF k).lp Z 3 [] n (MF aph apG apH apI apJ ap3 aqr aqx aqy aqz aqA api aqB apl apm apn apr aps aqC aqi l arm v10 h)=avQ k (ayv aph api apl apm apn apr aps aqC aqi apG apH apI apJ ap3 aqr aqx aqy aqz aqA aqB Z) aph apG apH apI apJ ap3 aqr aqx aqy aqz aqA api aqB apl apm apn apr aps aqC aqi l n arm v10 h:=eW (aw5 k (ayv aph api apl apm apn apr aps aqC aqi apG apH apI apJ ap3 aqr aqx aqy aqz aqA aqB Z) aph apG apH apI apJ ap3 aqr aqx aqy aqz aqA api aqB apl apm apn apr aps aqC aqi l)
end
theorem Kc (ho:ai o):Tl o 118 (Gv k:Rw S):=alG (CF k) ⟨Ec k ho,trivial⟩ func118 fun l aqS aph api apl apm apn apr aps aqC aqi apG apH apI apJ ap3 aqr aqx aqy aqz aqA aqB Z x h=>alQ (b:=aAa k (ayv aph api apl apm apn apr aps aqC aqi apG apH apI apJ ap3 aqr aqx aqy aqz aqA aqB Z) (fun arm v10 j=>(CF k).lp Z 3 [] k (MF aph apG apH apI apJ ap3 aqr aqx aqy aqz aqA api aqB apl apm apn apr aps aqC aqi l arm v10 j)) l aqS aph api apl apm apn apr aps aqC aqi apG apH apI apJ ap3 aqr aqx aqy aqz aqA aqB) (by kernel_rfl) (alQ (by simp only [Yc];rfl) (al h))
def Gw:Rw S:=aj Ls aJn fun g alJ c0_1 sx wl aas abq abZ c0_7 aqZ aqU aqV aqW aqX aqY aqG aqH aqI aqJ aqK aqL Z=>aa k (axB k g alJ c0_1 sx wl aas abq abZ c0_7 aqZ aqU aqV aqW aqX aqY aqG aqH aqI aqJ aqK aqL) (ayw c0_1 sx wl aas abq abZ c0_7 aqG aqH aqI aqJ aqK aqL Z)
def Vw:Fx S:=fp 74 [(59,OV k),(60,A4 k),(94,jx k),(107,O8 k),(117,anC k),(118,Gv k),(120,Gt k),(161,O7 k)] [(3,⟨[(2,km),(3,km),(4,km),(21,km),(22,km),(23,km)],[(2,[km]),(3,[km,km,km,km,km,km]),(4,[km,km,km,an2 200259,km,km]),(1000000,[km,km,km,km,km,km,km,km,an2 64200008,km,km,km,km,km,km,km,km,km,km,km,km])]⟩,ap 5 11)] k f103 1
def aBO (c0_1:List Cl) (aqU:Int) (aqV:ByteArray) (aqW:List Cl) (aqX:List Tm) (aqY:List (Br Tm)) (aqG aqH:Int) (aqI:ByteArray) (aqJ:List Cl) (aqK:List Tm) (sx:Int) (aqL:List (Br Tm)) (wl:Int) (aas:ByteArray) (abq:List Cl) (abZ:List Tm) (c0_7:List (Br Tm)) (aqZ:Int) (g:Tm) (r3:Int×Int×ByteArray×List Tm×List (Br Tm)) (j:Int) (h:List (Br Tm)) (v23:Int):St UU:=⟨[(2,(pt 2)),(3,(pt 3)),(4,(pt 4)),(21,(sB g.sys)),(22,(iI g.sys.length)),(23,(iI v23))],[(2,.cells [(pt 1000000)]),(3,bT g),(4,.cells [(iI r3.1),(iI r3.2.1),(.str r3.2.2.1),(.own 200259 0),(sT r3.2.2.2.1),(sB r3.2.2.2.2)]),(1000000,.cells [(iI j),(sC c0_1),(iI sx),(iI wl),(.str aas),(sC abq),(sT abZ),(sB c0_7),(.own 64200008 0),(iI aqZ),(iI aqU),(.str aqV),(sC aqW),(sT aqX),(sB aqY),(iI aqG),(iI aqH),(.str aqI),(sC aqJ),(sT aqK),(sB aqL)])],[(64200008,⟨0,ET.B,h⟩),(200259,arB)],[(64200008,.wr),(200259,.wr)]⟩
section
variable (k:Nat) (g:Tm) (alJ:Int) (c0_1:List Cl) (sx wl:Int) (aas:ByteArray) (abq:List Cl) (abZ:List Tm) (c0_7:List (Br Tm)) (aqZ aqU:Int) (aqV:ByteArray) (aqW:List Cl) (aqX:List Tm) (aqY:List (Br Tm)) (aqG aqH:Int) (aqI:ByteArray) (aqJ:List Cl) (aqK:List Tm) (aqL:List (Br Tm)) (Z:Out UU->Option S)
theorem aDR (r3): ∀n j h v23,(Vw k).lp Z 3 [] n (aBO c0_1 aqU aqV aqW aqX aqY aqG aqH aqI aqJ aqK sx aqL wl aas abq abZ c0_7 aqZ g r3 j h v23)=avP k (ayw c0_1 sx wl aas abq abZ c0_7 aqG aqH aqI aqJ aqK aqL Z) c0_1 aqU aqV aqW aqX aqY aqG aqH aqI aqJ aqK sx aqL wl aas abq abZ c0_7 aqZ g r3 n j h v23:=eW (aw4 k (ayw c0_1 sx wl aas abq abZ c0_7 aqG aqH aqI aqJ aqK aqL Z) c0_1 aqU aqV aqW aqX aqY aqG aqH aqI aqJ aqK sx aqL wl aas abq abZ c0_7 aqZ g r3)
end
theorem Kd (ho:ai o):Tl o 103 (Gw k:Rw S):=alG (Vw k) ⟨aa7 k ho,ax5 k ho,j8 k ho,abj k ho,uo k ho,Kc k ho,Ka k ho,abi k ho,trivial⟩ func103 fun g alJ c0_1 sx wl aas abq abZ c0_7 aqZ aqU aqV aqW aqX aqY aqG aqH aqI aqJ aqK aqL Z x h=>alQ (b:=az_ k (ayw c0_1 sx wl aas abq abZ c0_7 aqG aqH aqI aqJ aqK aqL Z) (fun z q j v23=>(Vw k).lp Z 3 [] k (aBO c0_1 aqU aqV aqW aqX aqY aqG aqH aqI aqJ aqK sx aqL wl aas abq abZ c0_7 aqZ g z q j v23)) g alJ c0_1 sx wl aas abq abZ c0_7 aqZ aqU aqV aqW aqX aqY aqG aqH aqI aqJ aqK aqL) (by kernel_rfl) (alQ (by simp only [aDR];rfl) (al h))
def Gx:Rw S:=aj atV xn fun a_n Z=>aa k (asX k a_n) (aCH Z)
def Vy:Fx S:=fx 5 (fun _=>[]) (fun _=>false) [] [] k f170 true [] 0
theorem Ke (ho:ai o):Tl o 170 (Gx k:Rw S):=alG (Vy k) trivial func170 fun a_n Z x h=>al9 h
def A9:Rw S:=aj aBn fh fun t a f y c0 Z=>aa k (au2 k t a f y c0) (aCL Z)
def Vz:Fx S:=fx 28 (fun _=>[]) (fun _=>false) [(138,OE k),(139,Gi k),(170,Gx k)] [] k f197 true [] 1
theorem Ed (ho:ai o):Tl o 197 (A9 k:Rw S):=alG (Vz k) ⟨aaQ k ho,JW k ho,Ke k ho,trivial⟩ func197 fun t a f y c0 Z x h=>al9 h
def O_:Rw S:=aj aGm xn fun t a f y Z=>aa k (axq k t a f y) (ah2 Z)
def VA:Fx S:=fp 28 [(30,PL (dJ k)),(136,OH k),(143,OJ k),(197,A9 k)] [] k f195 0
theorem abl (ho:ai o):Tl o 195 (O_ k:Rw S):=alG (VA k) ⟨ath o ho k,aaT k ho,aaV k ho,Ed k ho,trivial⟩ func195 fun t a f y Z x h=>al9 h
def vJ:Rw S:=aj aBn fh fun t a f y c0 Z=>aa k (axW k t a f y c0) (AQ Z)
def CG:Fx S:=fp 24 [(83,P0 k),(84,ox k),(195,O_ k)] [] k f165 1
theorem zL (ho:ai o):Tl o 165 (vJ k:Rw S):=alG (CG k) ⟨ab_ k ho,atg k ho,abl k ho,trivial⟩ func165 fun t a f y c0 Z x h=>al9 h
def vK:Rw S:=aj kX8 aAw fun a_x c1 az h j q x z A B E F I J L M O T W Y ad ao ax Z=>aa k (awo k a_x c1 az h j q x z A B E F I J L M O T W Y ad ao ax) (aHt c1 h j q x z A B E F I J L M O T W Y ad ao ax Z)
def CH:Fx S:=fx 43 (fun _=>[]) (fun _=>false) [(57,A3 k),(58,Ot k),(97,Oy k)] [] k f164 true [] 3
theorem zM (ho:ai o):Tl o 164 (vK k:Rw S):=alG (CH k) ⟨D_ k ho,aaF k ho,aaK k ho,trivial⟩ func164 fun a_x c1 j q z A B E F I J L M O T W Y ad ao ax az a6 a7 Z x h=>al9 h
def aHG:Rw S:=aj cZ ayP fun c2 arG aqT aqM aqN aqO aqP aqQ aqR arh ari aq7 aq8 aq9 aq_ ara arb arc ard are arf arg Z=>aa k (avx k c2 arG aqT aqM aqN aqO aqP aqQ aqR arh ari aq7 aq8 aq9 aq_ ara arb arc ard are arf arg) (aCM c2 aqT aqM aqN aqO aqP aqQ aqR arh ari aq7 aq8 aq9 aq_ ara arb arc ard are arf arg Z)
def Pa:Rw S:=aj cZ ayP fun c2 arG aqT aqM aqN aqO aqP aqQ aqR arh ari aq7 aq8 aq9 aq_ ara arb arc ard are arf arg Z=>aa k (avx k c2 arG aqT aqM aqN aqO aqP aqQ aqR arh ari aq7 aq8 aq9 aq_ ara arb arc ard are arf arg) (aHu Z)
def VB:Fx S:=fx 9 (fun _=>[]) (fun _=>false) [(164,vK k)] [] k f166 true [] 4
theorem aFn (ho:ai o):Tl o 166 (aHG k:Rw S):=alG (VB k) ⟨zM k ho,trivial⟩ func166 fun c2 arG aqT aqM aqN aqO aqP aqQ aqR arh ari aq7 aq8 aq9 aq_ ara arb arc ard are arf arg Z x h=>al9 h
theorem abm (ho:ai o):Tl o 166 (Pa k:Rw S):=tlP (n:=3) (m:=1) (aFn k ho) fun c2 arG aqT aqM aqN aqO aqP aqQ aqR arh ari aq7 aq8 aq9 aq_ ara arb arc ard are arf arg Z x h=>alQ (b:=aa k (avx k c2 arG aqT aqM aqN aqO aqP aqQ aqR arh ari aq7 aq8 aq9 aq_ ara arb arc ard are arf arg) (aCM c2 aqT aqM aqN aqO aqP aqQ aqR arh ari aq7 aq8 aq9 aq_ ara arb arc ard are arf arg (au1 3 1 [.cells [(.func 164 [] [(pt 1),(pt 2)])],.cells [(pt 3)],bT c2,.cells [(iI arG),(sC aqT),(iI aqM),(iI aqN),(.str aqO),(sC aqP),(sT aqQ),(sB aqR),(sB arh),(iI ari),(iI aq7),(.str aq8),(sC aq9),(sT aq_),(sB ara),(iI arb),(iI arc),(.str ard),(sC are),(sT arf),(sB arg)]] Z))) (by kernel_rfl) (alQ (congrArg (aa k (avx k c2 arG aqT aqM aqN aqO aqP aqQ aqR arh ari aq7 aq8 aq9 aq_ ara arb arc ard are arf arg)) (funext fun r=>if_pos ⟨rfl,rfl⟩)) h)
def Pb:Rw S:=aj aGn aJo fun alJ c0_1 sx wl aas abq abZ c0_7 h aqZ aqU aqV aqW aqX aqY aqG aqH aqI aqJ aqK aqL c3 Z=>aa k (axD k alJ c0_1 sx wl aas abq abZ c0_7 h aqZ aqU aqV aqW aqX aqY aqG aqH aqI aqJ aqK aqL c3) (aHv c0_1 sx wl aas abq abZ c0_7 h aqZ aqU aqV aqW aqX aqY aqG aqH aqI aqJ aqK aqL c3 Z)
def CI:Fx S:=fx 20 (fun _=>[]) (fun _=>false) [(59,OV k),(166,Pa k)] [] k f107 true [false,true] 4
theorem abn (ho:ai o):Tl o 107 (Pb k:Rw S):=alG (CI k) ⟨aa7 k ho,abm k ho,trivial⟩ func107 fun alJ c0_1 sx wl aas abq abZ c0_7 j aqZ aqU aqV aqW aqX aqY aqG aqH aqI aqJ aqK aqL c3 Z x h=>al9 h
def Pc:Rw S:=aj azp ayP fun b c2 arG aqT aqM aqN aqO aqP aqQ aqR arh ari aq7 aq8 aq9 aq_ ara arb arc ard are arf arg Z=>aa k (ay8 k b c2 arG aqT aqM aqN aqO aqP aqQ aqR arh ari aq7 aq8 aq9 aq_ ara arb arc ard are arf arg) (aHw c2 aqT aqM aqN aqO aqP aqQ aqR arh ari aq7 aq8 aq9 aq_ ara arb arc ard are arf arg Z)
def VC:Fx S:=fp 25 [(59,OV k),(97,Oy k),(164,vK k)] [] k f167 4
theorem abo (ho:ai o):Tl o 167 (Pc k:Rw S):=alG (VC k) ⟨aa7 k ho,aaK k ho,zM k ho,trivial⟩ func167 fun b c2 arG aqT aqM aqN aqO aqP aqQ aqR arh ari aq7 aq8 aq9 aq_ ara arb arc ard are arf arg Z x h=>al9 h
def Pd:Rw S:=aj aGo ayP fun l c2 arG aqT aqM aqN aqO aqP aqQ aqR arh ari aq7 aq8 aq9 aq_ ara arb arc ard are arf arg Z=>aa k (axF k l c2 arG aqT aqM aqN aqO aqP aqQ aqR arh ari aq7 aq8 aq9 aq_ ara arb arc ard are arf arg) (ayx c2 aqT aqM aqN aqO aqP aqQ aqR arh ari aq7 aq8 aq9 aq_ ara arb arc ard are arf arg Z)
def CJ:Fx S:=fx 22 (fun _=>[]) (fun _=>false) [(167,Pc k)] [(3,⟨[(1,km),(5,an2 100005),(8,km),(9,km),(10,km)],[(1000000,[km]),(1000001,[km]),(1000002,[km,km,km,km,km,km]),(1000003,[km,km,km,km,km,km,km,km,km,km,km,km,km,km,km,km,km,km,km,km,km])]⟩,ap 5 11)] k f118 false [true] 4
def MJ (c2:Tm) (aqT:List Cl) (aq7:Int) (aq8:ByteArray) (aq9:List Cl) (aq_:List Tm) (ara:List (Br Tm)) (arb arc:Int) (ard:ByteArray) (are:List Cl) (arf:List Tm) (aqM:Int) (arg:List (Br Tm)) (aqN:Int) (aqO:ByteArray) (aqP:List Cl) (aqQ:List Tm) (aqR arh:List (Br Tm)) (ari:Int) (l:List (Br Tm)) (j v10:Int) (h:List (Br Tm)):St UU:=⟨[(1,(.func 167 [] [(pt 1000000),(pt 1000001)])),(5,(.own 100005 0)),(8,(sB l)),(9,(iI l.length)),(10,(iI v10))],[(1000000,.cells [(.func 164 [] [(pt 1000001),(pt 1000002)])]),(1000001,.cells [(pt 1000003)]),(1000002,bT c2),(1000003,.cells [(iI j),(sC aqT),(iI aqM),(iI aqN),(.str aqO),(sC aqP),(sT aqQ),(sB aqR),(sB arh),(iI ari),(iI aq7),(.str aq8),(sC aq9),(sT aq_),(sB ara),(iI arb),(iI arc),(.str ard),(sC are),(sT arf),(sB arg)])],[(100005,⟨0,ET.B,h⟩)],[(100005,.wr)]⟩
section
variable (k:Nat) (l:List (Br Tm)) (c2:Tm) (arG:Int) (aqT:List Cl) (aqM aqN:Int) (aqO:ByteArray) (aqP:List Cl) (aqQ:List Tm) (aqR arh:List (Br Tm)) (ari aq7:Int) (aq8:ByteArray) (aq9:List Cl) (aq_:List Tm) (ara:List (Br Tm)) (arb arc:Int) (ard:ByteArray) (are:List Cl) (arf:List Tm) (arg:List (Br Tm)) (Z:Out UU->Option S)
theorem Yg: ∀n j v10 h,(CJ k).lp Z 3 [] n (MJ c2 aqT aq7 aq8 aq9 aq_ ara arb arc ard are arf aqM arg aqN aqO aqP aqQ aqR arh ari l j v10 h)=avd k (ayx c2 aqT aqM aqN aqO aqP aqQ aqR arh ari aq7 aq8 aq9 aq_ ara arb arc ard are arf arg Z) c2 aqT aq7 aq8 aq9 aq_ ara arb arc ard are arf aqM arg aqN aqO aqP aqQ aqR arh ari l n j v10 h:=eW (axa k (ayx c2 aqT aqM aqN aqO aqP aqQ aqR arh ari aq7 aq8 aq9 aq_ ara arb arc ard are arf arg Z) c2 aqT aq7 aq8 aq9 aq_ ara arb arc ard are arf aqM arg aqN aqO aqP aqQ aqR arh ari l)
end
theorem abp (ho:ai o):Tl o 118 (Pd k:Rw S):=alG (CJ k) ⟨abo k ho,trivial⟩ func118 fun l c2 arG aqT aqM aqN aqO aqP aqQ aqR arh ari aq7 aq8 aq9 aq_ ara arb arc ard are arf arg Z x h=>alQ (b:=aAd k (ayx c2 aqT aqM aqN aqO aqP aqQ aqR arh ari aq7 aq8 aq9 aq_ ara arb arc ard are arf arg Z) (fun q v10 j=>(CJ k).lp Z 3 [] k (MJ c2 aqT aq7 aq8 aq9 aq_ ara arb arc ard are arf aqM arg aqN aqO aqP aqQ aqR arh ari l q v10 j)) l c2 arG aqT aqM aqN aqO aqP aqQ aqR arh ari aq7 aq8 aq9 aq_ ara arb arc ard are arf arg) (by kernel_rfl) (alQ (by simp only [Yg];rfl) (al h))
def Gy:Rw S:=aj awC aJp fun t a_e alJ c0_1 sx wl aas abq abZ c0_7 h aqZ aqU aqV aqW aqX aqY aqG aqH aqI aqJ aqK aqL Z=>aa k (axC k t a_e alJ c0_1 sx wl aas abq abZ c0_7 h aqZ aqU aqV aqW aqX aqY aqG aqH aqI aqJ aqK aqL) (aHx c0_1 sx wl aas abq abZ c0_7 h aqZ aqU aqV aqW aqX aqY aqG aqH aqI aqJ aqK aqL Z)
def VE:Fx S:=fx 54 (fun _=>[]) (fun _=>false) [(58,Ot k),(102,Gr k),(107,Pb k),(109,anD k),(118,Pd k),(165,vJ k)] [] k f106 true [] 1
theorem Kf (ho:ai o):Tl o 106 (Gy k:Rw S):=alG (VE k) ⟨aaF k ho,J_ k ho,abn k ho,ax6 k ho,abp k ho,zL k ho,trivial⟩ func106 fun t a_e alJ c0_1 sx wl aas abq abZ c0_7 j aqZ aqU aqV aqW aqX aqY aqG aqH aqI aqJ aqK aqL Z x h=>al9 h
def Gz:Rw S:=aj aBm awf fun b aqS aph api apl apm apn apr aps aqC aqi apG apH apI apJ ap3 aqr aqx aqy aqz aqA aqB Z=>aa k (ay5 k b aqS aph api apl apm apn apr aps aqC aqi apG apH apI apJ ap3 aqr aqx aqy aqz aqA aqB) (aHy aph api apl apm apn apr aps aqC aqi apG apH apI apJ ap3 aqr aqx aqy aqz aqA aqB Z)
def rZ:Fx S:=fx 14 (fun _=>[]) (fun _=>false) [(106,Gy k)] [] k f105 true [] 2
theorem Kg (ho:ai o):Tl o 105 (Gz k:Rw S):=alG (rZ k) ⟨Kf k ho,trivial⟩ func105 fun b aqS aph api apl apm apn apr aps aqC aqi apG apH apI apJ ap3 aqr aqx aqy aqz aqA aqB Z x h=>al9 h
def GA:Rw S:=aj aGp awf fun l aqS aph api apl apm apn apr aps aqC aqi apG apH apI apJ ap3 aqr aqx aqy aqz aqA aqB Z=>aa k (avz k l aqS aph api apl apm apn apr aps aqC aqi apG apH apI apJ ap3 aqr aqx aqy aqz aqA aqB) (ayy aph api apl apm apn apr aps aqC aqi apG apH apI apJ ap3 aqr aqx aqy aqz aqA aqB Z)
def CL:Fx S:=fx 22 (fun _=>[]) (fun _=>false) [(105,Gz k)] [(3,⟨[(1,km),(5,an2 100005),(8,km),(9,km),(10,km)],[(1000000,[km]),(1000001,[km,km,km,km,km,km,km,km,km,km,km,km,km,km,km,km,km,km,km,km,km])]⟩,ap 5 11)] k f104 false [true] 2
def ML (aph:List Cl) (apG:Int) (apH:ByteArray) (apI:List Cl) (apJ:List Tm) (ap3:List (Br Tm)) (aqr aqx:Int) (aqy:ByteArray) (aqz:List Cl) (aqA:List Tm) (api:Int) (aqB:List (Br Tm)) (apl:Int) (apm:ByteArray) (apn:List Cl) (apr:List Tm) (aps aqC:List (Br Tm)) (aqi:Int) (l:List (Br Tm)) (arm v10:Int) (h:List Tm):St UU:=⟨[(1,(.func 105 [] [(pt 1000000)])),(5,(.own 100005 0)),(8,(sB l)),(9,(iI l.length)),(10,(iI v10))],[(1000000,.cells [(pt 1000001)]),(1000001,.cells [(iI arm),(sC aph),(iI api),(iI apl),(.str apm),(sC apn),(sT apr),(sB aps),(sB aqC),(iI aqi),(iI apG),(.str apH),(sC apI),(sT apJ),(sB ap3),(iI aqr),(iI aqx),(.str aqy),(sC aqz),(sT aqA),(sB aqB)])],[(100005,⟨0,ET.T,h⟩)],[(100005,.wr)]⟩
section
variable (k:Nat) (l:List (Br Tm)) (aqS:Int) (aph:List Cl) (api apl:Int) (apm:ByteArray) (apn:List Cl) (apr:List Tm) (aps aqC:List (Br Tm)) (aqi apG:Int) (apH:ByteArray) (apI:List Cl) (apJ:List Tm) (ap3:List (Br Tm)) (aqr aqx:Int) (aqy:ByteArray) (aqz:List Cl) (aqA:List Tm) (aqB:List (Br Tm)) (Z:Out UU->Option S)
theorem Yj: ∀n arm v10 h,(CL k).lp Z 3 [] n (ML aph apG apH apI apJ ap3 aqr aqx aqy aqz aqA api aqB apl apm apn apr aps aqC aqi l arm v10 h)=avU k (ayy aph api apl apm apn apr aps aqC aqi apG apH apI apJ ap3 aqr aqx aqy aqz aqA aqB Z) aph apG apH apI apJ ap3 aqr aqx aqy aqz aqA api aqB apl apm apn apr aps aqC aqi l n arm v10 h:=eW (aw9 k (ayy aph api apl apm apn apr aps aqC aqi apG apH apI apJ ap3 aqr aqx aqy aqz aqA aqB Z) aph apG apH apI apJ ap3 aqr aqx aqy aqz aqA api aqB apl apm apn apr aps aqC aqi l)
end
theorem Kh (ho:ai o):Tl o 104 (GA k:Rw S):=alG (CL k) ⟨Kg k ho,trivial⟩ func104 fun l aqS aph api apl apm apn apr aps aqC aqi apG apH apI apJ ap3 aqr aqx aqy aqz aqA aqB Z x h=>alQ (b:=aAc k (ayy aph api apl apm apn apr aps aqC aqi apG apH apI apJ ap3 aqr aqx aqy aqz aqA aqB Z) (fun arm v10 j=>(CL k).lp Z 3 [] k (ML aph apG apH apI apJ ap3 aqr aqx aqy aqz aqA api aqB apl apm apn apr aps aqC aqi l arm v10 j)) l aqS aph api apl apm apn apr aps aqC aqi apG apH apI apJ ap3 aqr aqx aqy aqz aqA aqB) (by kernel_rfl) (alQ (by simp only [Yj];rfl) (al h))
def aHH:Rw S:=aj EX awf fun aqS aph api apl apm apn apr aps aqC aqi apG apH apI apJ ap3 aqr aqx aqy aqz aqA aqB Z=>aa k (avv k aqS aph api apl apm apn apr aps aqC aqi apG apH apI apJ ap3 aqr aqx aqy aqz aqA aqB) (aCN aph api apl apm apn apr aps aqC aqi apG apH apI apJ ap3 aqr aqx aqy aqz aqA aqB Z)
def Ph:Rw S:=aj EX awf fun aqS aph api apl apm apn apr aps aqC aqi apG apH apI apJ ap3 aqr aqx aqy aqz aqA aqB Z=>aa k (avv k aqS aph api apl apm apn apr aps aqC aqi apG apH apI apJ ap3 aqr aqx aqy aqz aqA aqB) (aHz Z)
def VG:Fx S:=fp 10 [(57,A3 k)] [] k f108 2
theorem aFo (ho:ai o):Tl o 108 (aHH k:Rw S):=alG (VG k) ⟨D_ k ho,trivial⟩ func108 fun aqS aph api apl apm apn apr aps aqC aqi apG apH apI apJ ap3 aqr aqx aqy aqz aqA aqB Z x h=>al9 h
theorem abt (ho:ai o):Tl o 108 (Ph k:Rw S):=tlP (n:=1) (m:=1) (aFo k ho) fun aqS aph api apl apm apn apr aps aqC aqi apG apH apI apJ ap3 aqr aqx aqy aqz aqA aqB Z x h=>alQ (b:=aa k (avv k aqS aph api apl apm apn apr aps aqC aqi apG apH apI apJ ap3 aqr aqx aqy aqz aqA aqB) (aCN aph api apl apm apn apr aps aqC aqi apG apH apI apJ ap3 aqr aqx aqy aqz aqA aqB (au1 1 1 [.cells [(pt 1)],.cells [(iI aqS),(sC aph),(iI api),(iI apl),(.str apm),(sC apn),(sT apr),(sB aps),(sB aqC),(iI aqi),(iI apG),(.str apH),(sC apI),(sT apJ),(sB ap3),(iI aqr),(iI aqx),(.str aqy),(sC aqz),(sT aqA),(sB aqB)]] Z))) (by kernel_rfl) (alQ (congrArg (aa k (avv k aqS aph api apl apm apn apr aps aqC aqi apG apH apI apJ ap3 aqr aqx aqy aqz aqA aqB)) (funext fun r=>if_pos ⟨rfl,rfl⟩)) h)
def Pi:Rw S:=aj aGq aJq fun alJ c0_1 sx wl aas abq abZ c0_7 h aqZ aqU aqV aqW aqX aqY aqG aqH aqI aqJ aqK aqL Z=>aa k (avy k alJ c0_1 sx wl aas abq abZ c0_7 h aqZ aqU aqV aqW aqX aqY aqG aqH aqI aqJ aqK aqL) (aHA c0_1 sx wl aas abq abZ c0_7 h aqZ aqU aqV aqW aqX aqY aqG aqH aqI aqJ aqK aqL Z)
def r_:Fx S:=fx 20 (fun _=>[]) (fun _=>false) [(59,OV k),(108,Ph k)] [] k f107 true [false,true] 2
theorem abu (ho:ai o):Tl o 107 (Pi k:Rw S):=alG (r_ k) ⟨aa7 k ho,abt k ho,trivial⟩ func107 fun alJ c0_1 sx wl aas abq abZ c0_7 j aqZ aqU aqV aqW aqX aqY aqG aqH aqI aqJ aqK aqL Z x h=>al9 h
def Pj:Rw S:=aj ar9 xn fun t Z=>aa k (axx k t) (AX Z)
def VH:Fx S:=fp 165 [(23,PK k),(30,PL (dJ k)),(52,Gg k),(57,A3 k),(58,Ot k),(59,OV k),(97,Oy k),(101,Oq k),(102,Gr k),(103,Gw k),(104,GA k),(107,Pi k),(109,anD k)] [(16,⟨[(2,km),(6,km),(8,an2 100008),(9,some (100009,false)),(10,an2 100010),(77,km),(78,km),(79,km)],[(2,[km,km,km,an2 200131,an2 200132,an2 200133]),(6,[km]),(43,[km,km,km,km,km,km,km,km,km,km,km,km,km,km,km,km,km,km,km,km,km])]⟩,ap 14 6143)] k f65 0
def aBQ (r3:Tm) (r6:Int×List (Br Tm)×Int×Int×ByteArray×List Cl×List Tm×List (Br Tm)) (x4:Tm) (r8:Tm×Int) (q x z:Int) (A:ByteArray) (E:List Cl) (F:List Tm) (I h:List (Br Tm)) (v79:Int) (J:List Tm) (j:List (Br Tm)):St UU:=⟨[(2,(pt 2)),(6,(pt 6)),(8,(.own 100008 0)),(9,(.own 100009 0)),(10,(.own 100010 0)),(77,(sB r8.1.sys)),(78,(iI r8.1.sys.length)),(79,(iI v79))],[(2,.cells [(iI 0),(iI 0),arO,(.own 200131 0),(.own 200132 0),(.own 200133 0)]),(6,.cells [(pt 43)]),(43,.cells [(iI q),(sC r3.r),(iI x4.kind),(iI x4.n),(.str x4.name),(sC x4.r),(sT x4.kids),(sB x4.sys),(sB r6.2.1),(iI r6.2.2.1),(iI r6.2.2.2.1),(.str r6.2.2.2.2.1),(sC r6.2.2.2.2.2.1),(sT r6.2.2.2.2.2.2.1),(sB r6.2.2.2.2.2.2.2),(iI x),(iI z),(.str A),(sC E),(sT F),(sB I)])],[(200133,arv),(200132,arI),(200131,arB),(100010,⟨0,ET.B,h⟩),(100009,⟨0,ET.B,j⟩),(100008,⟨0,ET.T,J⟩)],[(200133,.wr),(200132,.wr),(200131,.wr),(100010,.wr),(100009,.app),(100008,.wr)]⟩
section
variable (k:Nat) (t:Tm) (Z:Out UU->Option S)
theorem aDT (r3 r6 x4 r8): ∀n q x z A B E F h v79 I j,(VH k).lp Z 16 [] n (aBQ r3 r6 x4 r8 q x z A B E F h v79 I j)=auQ k (AX Z) r3 r6 x4 r8 n q x z A B E F h v79 I j:=aG2 (aw3 k (AX Z) r3 r6 x4 r8)
end
theorem abv (ho:ai o):Tl o 65 (Pj k:Rw S):=alG (VH k) ⟨abV k ho,ath o ho k,au6 k ho,D_ k ho,aaF k ho,aa7 k ho,aaK k ho,aaE k ho,J_ k ho,Kd k ho,Kh k ho,abu k ho,ax6 k ho,trivial⟩ func65 fun t Z x h=>alQ (b:=az9 k (AX Z) (fun M O x4 T z A B E F I J j v79 L q=>(VH k).lp Z 16 [] k (aBQ M O x4 T z A B E F I J j v79 L q)) t) (by kernel_rfl) (alQ (by simp only [aDT];rfl) (al h))
def Pk:Rw S:=aj ar9 xn fun t Z=>aa k (axZ k t) (AX Z)
def CM:Fx S:=fp 100 [(23,PK k),(30,PL (dJ k)),(52,Gg k),(61,O2 k),(62,amL k),(63,anB k),(64,vG k),(65,Pj k)] [] k f35 0
theorem abw (ho:ai o):Tl o 35 (Pk k:Rw S):=alG (CM k) ⟨abV k ho,ath o ho k,au6 k ho,abd k ho,amQ k ho,um k ho,zI k ho,abv k ho,trivial⟩ func35 fun t Z x h=>al9 h
def Pl:Rw S:=aj azq aAx fun u aqS aph api apl apm apn apr aps Z=>aa k (axH k u aqS aph api apl apm apn apr aps) (aCO aph api apl apm apn apr aps Z)
def VI:Fx S:=fp 13 [(57,A3 k),(58,Ot k),(92,OX k)] [] k f111 2
theorem abx (ho:ai o):Tl o 111 (Pl k:Rw S):=alG (VI k) ⟨D_ k ho,aaF k ho,aa9 k ho,trivial⟩ func111 fun u aqS aph api apl apm apn apr aps Z x h=>al9 h
def aHI:Rw S:=aj aBo ayQ fun alJ c0_1 sx wl aas abq abZ c0_7 Z=>aa k (avA k alJ c0_1 sx wl aas abq abZ c0_7) (auh c0_1 sx wl aas abq abZ c0_7 Z)
def Pm:Rw S:=aj aBo ayQ fun alJ c0_1 sx wl aas abq abZ c0_7 Z=>aa k (avA k alJ c0_1 sx wl aas abq abZ c0_7) (aCP Z)
def sa:Fx S:=fp 31 [(59,OV k),(111,Pl k)] [(3,⟨[(1,km),(5,an2 100005),(11,km),(12,km),(13,km)],[(1000000,[km,km,km,km,km,km,km,km]),(1000001,[km])]⟩,ap 5 11)] k f110 2
def vd (c0_1 sx:Int) (wl:ByteArray) (aas:List Cl) (abq:List Tm) (abZ c0_7:List (Br Tm)) (j q:Int) (h:List (Br Tm)):St UU:=⟨[(1,(.func 111 [] [(pt 1000001)])),(5,(.own 100005 0)),(11,(sB c0_7)),(12,(iI c0_7.length)),(13,(iI q))],[(1000000,.cells [(iI j),(iI c0_1),(iI sx),(.str wl),(sC aas),(sT abq),(sB abZ),(sB c0_7)]),(1000001,.cells [(pt 1000000)])],[(100005,⟨0,ET.B,h⟩)],[(100005,.wr)]⟩
section
variable (k:Nat) (alJ c0_1 sx:Int) (wl:ByteArray) (aas:List Cl) (abq:List Tm) (abZ c0_7:List (Br Tm)) (Z:Out UU->Option S)
theorem Yn: ∀n j q h,(sa k).lp Z 3 [] n (vd c0_1 sx wl aas abq abZ c0_7 j q h)=avX k (auh c0_1 sx wl aas abq abZ c0_7 Z) c0_1 sx wl aas abq abZ c0_7 n j q h:=eW (axc k (auh c0_1 sx wl aas abq abZ c0_7 Z) c0_1 sx wl aas abq abZ c0_7)
end
theorem aFp (ho:ai o):Tl o 110 (aHI k:Rw S):=alG (sa k) ⟨aa7 k ho,abx k ho,trivial⟩ func110 fun alJ c0_1 sx wl aas abq abZ c0_7 Z x h=>alQ (b:=aAf k (auh c0_1 sx wl aas abq abZ c0_7 Z) (fun q z j=>(sa k).lp Z 3 [] k (vd c0_1 sx wl aas abq abZ c0_7 q z j)) alJ c0_1 sx wl aas abq abZ c0_7) (by kernel_rfl) (alQ (by simp only [Yn];rfl) (al h))
theorem aby (ho:ai o):Tl o 110 (Pm k:Rw S):=tlP (n:=0) (m:=1) (aFp k ho) fun alJ c0_1 sx wl aas abq abZ c0_7 Z x h=>alQ (b:=aa k (avA k alJ c0_1 sx wl aas abq abZ c0_7) (auh c0_1 sx wl aas abq abZ c0_7 (au1 0 1 [.cells [(iI alJ),(iI c0_1),(iI sx),(.str wl),(sC aas),(sT abq),(sB abZ),(sB c0_7)],.cells [(pt 0)]] Z))) (by kernel_rfl) (alQ (congrArg (aa k (avA k alJ c0_1 sx wl aas abq abZ c0_7)) (funext fun r=>if_pos ⟨rfl,rfl⟩)) h)
def Pn:Rw S:=aj Ls ayR fun t alJ c0_1 sx wl aas abq abZ c0_7 Z=>aa k (axI k t alJ c0_1 sx wl aas abq abZ c0_7) (av9 c0_1 sx wl aas abq abZ c0_7 Z)
def VJ:Fx S:=fx 31 (fun _=>[]) (fun _=>false) [(57,A3 k),(58,Ot k),(92,OX k),(102,Gr k),(110,Pm k)] [] k f66 true [] 1
theorem abz (ho:ai o):Tl o 66 (Pn k:Rw S):=alG (VJ k) ⟨D_ k ho,aaF k ho,aa9 k ho,J_ k ho,aby k ho,trivial⟩ func66 fun t alJ c0_1 sx wl aas abq abZ c0_7 Z x h=>al9 h
def Po:Rw S:=aj azq fh fun u c0 Z=>aa k (aza k u c0) (aHB c0 Z)
def CN:Fx S:=fp 9 [(58,Ot k)] [] k f113 1
theorem abA (ho:ai o):Tl o 113 (Po k:Rw S):=alG (CN k) ⟨aaF k ho,trivial⟩ func113 fun u c0 Z x h=>al9 h
def aHJ:Rw S:=aj aBp aDw fun alJ c0_1 sx wl aas abq abZ c0_7 c1 Z=>aa k (avC k alJ c0_1 sx wl aas abq abZ c0_7 c1) (awU alJ c0_1 sx wl aas abq abZ c0_7 c1 Z)
def Pq:Rw S:=aj aBp aDw fun alJ c0_1 sx wl aas abq abZ c0_7 c1 Z=>aa k (avC k alJ c0_1 sx wl aas abq abZ c0_7 c1) (aCJ Z)
def CO:Fx S:=fp 31 [(59,OV k),(113,Po k)] [(3,⟨[(1,km),(5,an2 100005),(11,km),(12,km),(13,km)],[(1000000,[km,km,km,km,km,km,km,km]),(1000001,[km])]⟩,ap 5 11)] k f110 2
def MS (alJ c0_1 sx:Int) (wl:ByteArray) (aas:List Cl) (abq:List Tm) (abZ c0_7:List (Br Tm)) (c1:Int) (j:Int) (h:List (Br Tm)):St UU:=⟨[(1,(.func 113 [] [(pt 1000001)])),(5,(.own 100005 0)),(11,(sB c0_7)),(12,(iI c0_7.length)),(13,(iI j))],[(1000000,.cells [(iI alJ),(iI c0_1),(iI sx),(.str wl),(sC aas),(sT abq),(sB abZ),(sB c0_7)]),(1000001,bI c1)],[(100005,⟨0,ET.B,h⟩)],[(100005,.wr)]⟩
section
variable (k:Nat) (alJ c0_1 sx:Int) (wl:ByteArray) (aas:List Cl) (abq:List Tm) (abZ c0_7:List (Br Tm)) (c1:Int) (Z:Out UU->Option S)
theorem Yr: ∀n j h,(CO k).lp Z 3 [] n (MS alJ c0_1 sx wl aas abq abZ c0_7 c1 j h)=avZ k (awU alJ c0_1 sx wl aas abq abZ c0_7 c1 Z) alJ c0_1 sx wl aas abq abZ c0_7 c1 n j h:=aL (axe k (awU alJ c0_1 sx wl aas abq abZ c0_7 c1 Z) alJ c0_1 sx wl aas abq abZ c0_7 c1)
end
theorem aFq (ho:ai o):Tl o 110 (aHJ k:Rw S):=alG (CO k) ⟨aa7 k ho,abA k ho,trivial⟩ func110 fun alJ c0_1 sx wl aas abq abZ c0_7 c1 Z x h=>alQ (b:=aAh k (awU alJ c0_1 sx wl aas abq abZ c0_7 c1 Z) (fun q j=>(CO k).lp Z 3 [] k (MS alJ c0_1 sx wl aas abq abZ c0_7 c1 q j)) alJ c0_1 sx wl aas abq abZ c0_7 c1) (by kernel_rfl) (alQ (by simp only [Yr];rfl) (al h))
theorem abC (ho:ai o):Tl o 110 (Pq k:Rw S):=tlS (aFq k ho) fun alJ c0_1 sx wl aas abq abZ c0_7 c1 Z x h=>alQ (b:=aa k (avC k alJ c0_1 sx wl aas abq abZ c0_7 c1) (awU alJ c0_1 sx wl aas abq abZ c0_7 c1 (DB _ Z))) (by kernel_rfl) (alQ (congrArg (aa k (avC k alJ c0_1 sx wl aas abq abZ c0_7 c1)) (funext fun r=>if_pos rfl)) h)
def aCR:Rw S:=aj Ln aAx fun kind aqS aph api apl apm apn apr aps Z=>aa k (aws k kind aqS aph api apl apm apn apr aps) (aHC aqS aph api apl apm apn apr aps Z)
def mQ:Fx S:=fx 15 (fun _=>[]) (fun _=>false) [(58,Ot k),(110,Pq k)] [] k f112 true [] 2
theorem aFr (ho:ai o):Tl o 112 (aCR k:Rw S):=alG (mQ k) ⟨aaF k ho,abC k ho,trivial⟩ func112 fun kind aqS aph api apl apm apn apr aps Z x h=>al9 h
def GC:Rw S:=aj Ls ayR fun t alJ c0_1 sx wl aas abq abZ c0_7 Z=>aa k (axJ k t alJ c0_1 sx wl aas abq abZ c0_7) (av9 c0_1 sx wl aas abq abZ c0_7 Z)
def VL:Fx S:=fx 63 (fun _=>[]) (fun _=>false) [(53,OP k),(54,OT k),(55,P1 k),(58,Ot k),(60,A4 k),(102,Gr k),(112,aCR k)] [] k f67 true [] 1
theorem Ki (ho:ai o):Tl o 67 (GC k:Rw S):=alG (VL k) ⟨aa1 k ho,aa5 k ho,aca k ho,aaF k ho,ax5 k ho,J_ k ho,aFr k ho,trivial⟩ func67 fun t alJ c0_1 sx wl aas abq abZ c0_7 Z x h=>al9 h
def GD:Rw S:=aj Ls ayR fun t alJ c0_1 sx wl aas abq abZ c0_7 Z=>aa k (axG k t alJ c0_1 sx wl aas abq abZ c0_7) (av9 c0_1 sx wl aas abq abZ c0_7 Z)
def VM:Fx S:=fx 128 (fun _=>[]) (fun _=>false) [(57,A3 k),(58,Ot k),(59,OV k),(97,Oy k),(99,anj k),(100,O4 k),(102,Gr k)] [(7,⟨[(0,km),(3,km),(4,km),(5,km),(6,km),(9,km),(10,an2 100010),(51,km),(52,km),(53,km)],[(3,[km,km,km,km,km,km]),(4,[km,km,km,an2 200259,an2 200260,an2 200261]),(5,[km,km,km,km,km,km]),(6,[km,km,km,km,km,km]),(9,[km,km,km,km,km,an2 200581]),(1000000,[km,km,km,km,km,km,km,km])]⟩,ap 9 191)] k f68 true [] 1
def aBR (c0_1 sx:Int) (wl:ByteArray) (aas:List Cl) (abq:List Tm) (abZ c0_7:List (Br Tm)) (t x1 x2:Tm) (r6:Int×Int×ByteArray×List Cl×List Tm) (j:Int) (h:List (Br Tm)) (v53:Int):St UU:=⟨[(0,(pt 1000000)),(3,(pt 3)),(4,(pt 4)),(5,(pt 5)),(6,(pt 6)),(9,(pt 9)),(10,(.own 100010 0)),(51,(sB c0_7)),(52,(iI c0_7.length)),(53,(iI v53))],[(3,bT t),(4,.cells [(iI 0),(iI 0),arO,(.own 200259 0),(.own 200260 0),(.own 200261 0)]),(5,bT x1),(6,bT x2),(9,.cells [(iI r6.1),(iI r6.2.1),(.str r6.2.2.1),(sC r6.2.2.2.1),(sT r6.2.2.2.2),(.own 200581 0)]),(1000000,.cells [(iI j),(iI c0_1),(iI sx),(.str wl),(sC aas),(sT abq),(sB abZ),(sB c0_7)])],[(200581,arv),(200261,arv),(200260,arI),(200259,arB),(100010,⟨0,ET.B,h⟩)],[(200581,.wr),(200261,.wr),(200260,.wr),(200259,.wr),(100010,.wr)]⟩
section
variable (k:Nat) (t:Tm) (alJ c0_1 sx:Int) (wl:ByteArray) (aas:List Cl) (abq:List Tm) (abZ c0_7:List (Br Tm)) (Z:Out UU->Option S)
theorem aDU (x1 x2 r6): ∀n j h v53,(VM k).lp Z 7 [] n (aBR c0_1 sx wl aas abq abZ c0_7 t x1 x2 r6 j h v53)=avW k (av9 c0_1 sx wl aas abq abZ c0_7 Z) c0_1 sx wl aas abq abZ c0_7 t x1 x2 r6 n j h v53:=eW (axb k (av9 c0_1 sx wl aas abq abZ c0_7 Z) c0_1 sx wl aas abq abZ c0_7 t x1 x2 r6)
end
theorem Kj (ho:ai o):Tl o 68 (GD k:Rw S):=alG (VM k) ⟨D_ k ho,aaF k ho,aa7 k ho,aaK k ho,pK k ho,abf k ho,J_ k ho,trivial⟩ func68 fun t alJ c0_1 sx wl aas abq abZ c0_7 Z x h=>alQ (b:=aAe k (av9 c0_1 sx wl aas abq abZ c0_7 Z) (fun x1 x2 z q j v53=>(VM k).lp Z 7 [] k (aBR c0_1 sx wl aas abq abZ c0_7 t x1 x2 z q j v53)) t alJ c0_1 sx wl aas abq abZ c0_7) (by kernel_rfl) (alQ (by simp only [aDU];rfl) (al h))
def GE:Rw S:=aj Ls fh fun t c0 Z=>aa k (axt k t c0) (aCL Z)
def VN:Fx S:=fx 20 (fun _=>[]) (fun _=>false) [(138,OE k),(139,Gi k),(170,Gx k)] [] k f196 true [] 1
theorem Kk (ho:ai o):Tl o 196 (GE k:Rw S):=alG (VN k) ⟨aaQ k ho,JW k ho,Ke k ho,trivial⟩ func196 fun t c0 Z x h=>al9 h
def Pr:Rw S:=aj azr xn fun t a Z=>aa k (axp k t a) (ah2 Z)
def CQ:Fx S:=fp 47 [(30,PL (dJ k)),(136,OH k),(138,OE k),(139,Gi k),(143,OJ k),(170,Gx k),(196,GE k),(197,A9 k)] [] k f168 0
theorem abD (ho:ai o):Tl o 168 (Pr k:Rw S):=alG (CQ k) ⟨ath o ho k,aaT k ho,aaQ k ho,JW k ho,aaV k ho,Ke k ho,Kk k ho,Ed k ho,trivial⟩ func168 fun t a Z x h=>al9 h
def A_:Rw S:=aj awC fh fun t a c0 Z=>aa k (axV k t a c0) (AQ Z)
def VO:Fx S:=fp 18 [(83,P0 k),(84,ox k),(168,Pr k)] [] k f115 1
theorem Ee (ho:ai o):Tl o 115 (A_ k:Rw S):=alG (VO k) ⟨ab_ k ho,atg k ho,abD k ho,trivial⟩ func115 fun t a c0 Z x h=>al9 h
def Ps:Rw S:=aj eo xn fun a_r Z=>aa k (ay2 k a_r) (aHD Z)
def VQ:Fx S:=fx 13 (fun _=>[]) (fun _=>false) [(138,OE k),(170,Gx k)] [] k f169 true [] 0
theorem abE (ho:ai o):Tl o 169 (Ps k:Rw S):=alG (VQ k) ⟨aaQ k ho,Ke k ho,trivial⟩ func169 fun a_r Z x h=>al9 h
def Pt:Rw S:=aj cn xn fun Z=>aa k (axr k) (aE Z)
def VR:Fx S:=fx 37 (fun _=>[]) (fun _=>false) [(138,OE k),(169,Ps k),(170,Gx k)] [] k f116 true [] 0
theorem abF (ho:ai o):Tl o 116 (Pt k:Rw S):=alG (VR k) ⟨aaQ k ho,abE k ho,Ke k ho,trivial⟩ func116 fun Z x h=>al9 h
def GF:Rw S:=aj azq aAx fun u aqS aph api apl apm apn apr aps Z=>aa k (azb k u aqS aph api apl apm apn apr aps) (aCO aph api apl apm apn apr aps Z)
def jP:Fx S:=fp 30 [(57,A3 k),(58,Ot k),(101,Oq k),(115,A_ k),(116,Pt k)] [] k f114 2
theorem aFs (ho:ai o):Tl o 114 (GF k:Rw S):=alG (jP k) ⟨D_ k ho,aaF k ho,aaE k ho,Ee k ho,abF k ho,trivial⟩ func114 fun u aqS aph api apl apm apn apr aps Z x h=>al9 h
def aHK:Rw S:=aj aBq ayQ fun alJ c0_1 sx wl aas abq abZ c0_7 Z=>aa k (avB k alJ c0_1 sx wl aas abq abZ c0_7) (auh c0_1 sx wl aas abq abZ c0_7 Z)
def Pv:Rw S:=aj aBq ayQ fun alJ c0_1 sx wl aas abq abZ c0_7 Z=>aa k (avB k alJ c0_1 sx wl aas abq abZ c0_7) (aCP Z)
def CR:Fx S:=fp 31 [(59,OV k),(114,GF k)] [(3,⟨[(1,km),(5,an2 100005),(11,km),(12,km),(13,km)],[(1000000,[km,km,km,km,km,km,km,km]),(1000001,[km])]⟩,ap 5 11)] k f110 2
def MX (c0_1 sx:Int) (wl:ByteArray) (aas:List Cl) (abq:List Tm) (abZ c0_7:List (Br Tm)) (j q:Int) (h:List (Br Tm)):St UU:=⟨[(1,(.func 114 [] [(pt 1000001)])),(5,(.own 100005 0)),(11,(sB c0_7)),(12,(iI c0_7.length)),(13,(iI q))],[(1000000,.cells [(iI j),(iI c0_1),(iI sx),(.str wl),(sC aas),(sT abq),(sB abZ),(sB c0_7)]),(1000001,.cells [(pt 1000000)])],[(100005,⟨0,ET.B,h⟩)],[(100005,.wr)]⟩
section
variable (k:Nat) (alJ c0_1 sx:Int) (wl:ByteArray) (aas:List Cl) (abq:List Tm) (abZ c0_7:List (Br Tm)) (Z:Out UU->Option S)
theorem YA: ∀n j q h,(CR k).lp Z 3 [] n (MX c0_1 sx wl aas abq abZ c0_7 j q h)=avY k (auh c0_1 sx wl aas abq abZ c0_7 Z) c0_1 sx wl aas abq abZ c0_7 n j q h:=eW (axd k (auh c0_1 sx wl aas abq abZ c0_7 Z) c0_1 sx wl aas abq abZ c0_7)
end
theorem aFt (ho:ai o):Tl o 110 (aHK k:Rw S):=alG (CR k) ⟨aa7 k ho,aFs k ho,trivial⟩ func110 fun alJ c0_1 sx wl aas abq abZ c0_7 Z x h=>alQ (b:=aAg k (auh c0_1 sx wl aas abq abZ c0_7 Z) (fun q z j=>(CR k).lp Z 3 [] k (MX c0_1 sx wl aas abq abZ c0_7 q z j)) alJ c0_1 sx wl aas abq abZ c0_7) (by kernel_rfl) (alQ (by simp only [YA];rfl) (al h))
theorem abH (ho:ai o):Tl o 110 (Pv k:Rw S):=tlP (n:=0) (m:=1) (aFt k ho) fun alJ c0_1 sx wl aas abq abZ c0_7 Z x h=>alQ (b:=aa k (avB k alJ c0_1 sx wl aas abq abZ c0_7) (auh c0_1 sx wl aas abq abZ c0_7 (au1 0 1 [.cells [(iI alJ),(iI c0_1),(iI sx),(.str wl),(sC aas),(sT abq),(sB abZ),(sB c0_7)],.cells [(pt 0)]] Z))) (by kernel_rfl) (alQ (congrArg (aa k (avB k alJ c0_1 sx wl aas abq abZ c0_7)) (funext fun r=>if_pos ⟨rfl,rfl⟩)) h)
def Pw:Rw S:=aj EX ayR fun alJ c0_1 sx wl aas abq abZ c0_7 Z=>aa k (axK k alJ c0_1 sx wl aas abq abZ c0_7) (aHh c0_1 sx wl aas abq abZ c0_7 Z)
def CS:Fx S:=fx 12 (fun _=>[]) (fun _=>false) [(102,Gr k),(110,Pv k)] [] k f69 true [] 1
theorem abI (ho:ai o):Tl o 69 (Pw k:Rw S):=alG (CS k) ⟨J_ k ho,abH k ho,trivial⟩ func69 fun alJ c0_1 sx wl aas abq abZ c0_7 Z x h=>al9 h
def GG:Rw S:=aj azp aDx fun a_x c1 c2 Z=>aa k (axz k a_x c1 c2) (aHi c1 Z)
def gW:Fx S:=fp 22 [(57,A3 k),(58,Ot k),(59,OV k),(120,Gt k)] [] k f119 3
theorem aFu (ho:ai o):Tl o 119 (GG k:Rw S):=alG (gW k) ⟨D_ k ho,aaF k ho,aa7 k ho,Ka k ho,trivial⟩ func119 fun a_x c1 c2 Z x h=>al9 h
def Px:Rw S:=aj aGr aDx fun l c1 c2 Z=>aa k (aAQ k l c1 c2) (ayo c1 Z)
def VT:Fx S:=fx 22 (fun _=>[]) (fun _=>false) [(119,GG k)] [(3,⟨[(1,km),(5,an2 100005),(8,km),(9,km),(10,km)],[(1000000,[km]),(1000001,[km]),(1000002,[km])]⟩,ap 5 11)] k f118 false [true] 3
def aBT (c1 l:List (Br Tm)) (j v10:Int) (h:List (Br Tm)):St UU:=⟨[(1,(.func 119 [] [(pt 1000000),(pt 1000001)])),(5,(.own 100005 0)),(8,(sB l)),(9,(iI l.length)),(10,(iI v10))],[(1000000,.cells [(pt 1000002)]),(1000001,.cells [(sB c1)]),(1000002,bI j)],[(100005,⟨0,ET.B,h⟩)],[(100005,.wr)]⟩
section
variable (k:Nat) (l c1:List (Br Tm)) (c2:Int) (Z:Out UU->Option S)
theorem aDX: ∀n j v10 h,(VT k).lp Z 3 [] n (aBT c1 l j v10 h)=avT k (ayo c1 Z) c1 l n j v10 h:=eW (aw8 k (ayo c1 Z) c1 l)
end
theorem abJ (ho:ai o):Tl o 118 (Px k:Rw S):=alG (VT k) ⟨aFu k ho,trivial⟩ func118 fun l c1 c2 Z x h=>alQ (b:=aDn k (ayo c1 Z) (fun q v10 j=>(VT k).lp Z 3 [] k (aBT c1 l q v10 j)) l c1 c2) (by kernel_rfl) (alQ (by simp only [aDX];rfl) (al h))
def Py:Rw S:=aj aGs aAy fun a_x c1 c2 c3 Z=>aa k (axA k a_x c1 c2 c3) (aHj c1 c2 Z)
def CT:Fx S:=fp 30 [(53,OP k),(57,A3 k),(58,Ot k),(59,OV k),(109,anD k)] [] k f121 4
theorem abK (ho:ai o):Tl o 121 (Py k:Rw S):=alG (CT k) ⟨aa1 k ho,D_ k ho,aaF k ho,aa7 k ho,ax6 k ho,trivial⟩ func121 fun a_x c1 c2 c3 Z x h=>al9 h
def Pz:Rw S:=aj aBr aAy fun l c1 c2 c3 Z=>aa k (ay9 k l c1 c2 c3) (ayp c1 c2 Z)
def VU:Fx S:=fx 22 (fun _=>[]) (fun _=>false) [(121,Py k)] [(3,⟨[(1,km),(5,an2 100005),(8,km),(9,km),(10,km)],[(1000000,[km]),(1000001,[km,km,km,km,km,km]),(1000002,[km,km,km,km,km,km]),(1000003,[km])]⟩,ap 5 11)] k f118 false [true] 4
def aBU (c1 c2:Tm) (l:List (Br Tm)) (j v10:Int) (h:List (Br Tm)):St UU:=⟨[(1,(.func 121 [] [(pt 1000000),(pt 1000001),(pt 1000002)])),(5,(.own 100005 0)),(8,(sB l)),(9,(iI l.length)),(10,(iI v10))],[(1000000,.cells [(pt 1000003)]),(1000001,bT c1),(1000002,bT c2),(1000003,bI j)],[(100005,⟨0,ET.B,h⟩)],[(100005,.wr)]⟩
section
variable (k:Nat) (l:List (Br Tm)) (c1 c2:Tm) (c3:Int) (Z:Out UU->Option S)
theorem aDY: ∀n j v10 h,(VU k).lp Z 3 [] n (aBU c1 c2 l j v10 h)=avS k (ayp c1 c2 Z) c1 c2 l n j v10 h:=eW (aw7 k (ayp c1 c2 Z) c1 c2 l)
end
theorem abL (ho:ai o):Tl o 118 (Pz k:Rw S):=alG (VU k) ⟨abK k ho,trivial⟩ func118 fun l c1 c2 c3 Z x h=>alQ (b:=aDm k (ayp c1 c2 Z) (fun q v10 j=>(VU k).lp Z 3 [] k (aBU c1 c2 l q v10 j)) l c1 c2 c3) (by kernel_rfl) (alQ (by simp only [aDY];rfl) (al h))
def PA:Rw S:=aj azp aAz fun a_x c0 c1 Z=>aa k (ay6 k a_x c0 c1) (aHk c0 c1 Z)
def mR:Fx S:=fp 18 [(59,OV k),(102,Gr k)] [] k f122 2
theorem abM (ho:ai o):Tl o 122 (PA k:Rw S):=alG (mR k) ⟨aa7 k ho,J_ k ho,trivial⟩ func122 fun a_x c0 c1 Z x h=>al9 h
def PB:Rw S:=aj aBs aAz fun l c0 c1 Z=>aa k (awr k l c0 c1) (ayq c0 c1 Z)
def ayU:Fx S:=fx 22 (fun _=>[]) (fun _=>false) [(122,PA k)] [(3,⟨[(1,km),(5,an2 100005),(8,km),(9,km),(10,km)],[(1000000,[km,km,km,km,km,km]),(1000001,[km,km,km,km,km,km])]⟩,ap 5 11)] k f118 false [true] 2
def aBV (c0 c1:Tm) (l:List (Br Tm)) (v10:Int) (h:List (Br Tm)):St UU:=⟨[(1,(.func 122 [] [(pt 1000000),(pt 1000001)])),(5,(.own 100005 0)),(8,(sB l)),(9,(iI l.length)),(10,(iI v10))],[(1000000,bT c0),(1000001,bT c1)],[(100005,⟨0,ET.B,h⟩)],[(100005,.wr)]⟩
section
variable (k:Nat) (l:List (Br Tm)) (c0 c1:Tm) (Z:Out UU->Option S)
theorem aDZ: ∀n v10 h,(ayU k).lp Z 3 [] n (aBV c0 c1 l v10 h)=avR k (ayq c0 c1 Z) c0 c1 l n v10 h:=aL (aw6 k (ayq c0 c1 Z) c0 c1 l)
end
theorem abN (ho:ai o):Tl o 118 (PB k:Rw S):=alG (ayU k) ⟨abM k ho,trivial⟩ func118 fun l c0 c1 Z x h=>alQ (b:=aAb k (ayq c0 c1 Z) (fun v10 j=>(ayU k).lp Z 3 [] k (aBV c0 c1 l v10 j)) l c0 c1) (by kernel_rfl) (alQ (by simp only [aDZ];rfl) (al h))
def PC:Rw S:=aj ar9 xn fun t Z=>aa k (axy k t) (AX Z)
def VX:Fx S:=fp 79 [(23,PK k),(30,PL (dJ k)),(52,Gg k),(102,Gr k),(117,anC k),(118,ol (uy aBs aAz) (PB k) (ol (uy aBr aAy) (Pz k) (Px k))),(120,Gt k)] [] k f70 0
theorem abO (ho:ai o):Tl o 70 (PC k:Rw S):=alG (VX k) ⟨abV k ho,ath o ho k,au6 k ho,J_ k ho,uo k ho,vw (abN k ho) (vw (abL k ho) (abJ k ho)),Ka k ho,trivial⟩ func70 fun t Z x h=>al9 h
def PD:Rw S:=aj ar9 xn fun t Z=>aa k (cG k t) (AX Z)
def VY:Fx S:=fp 89 [(23,PK k),(30,PL (dJ k)),(52,Gg k),(66,Pn k),(67,GC k),(68,GD k),(69,Pw k),(70,PC k)] [] k f36 0
theorem abP (ho:ai o):Tl o 36 (PD k:Rw S):=alG (VY k) ⟨abV k ho,ath o ho k,au6 k ho,abz k ho,Ki k ho,Kj k ho,abI k ho,abO k ho,trivial⟩ func36 fun t Z x h=>al9 h
def aoz:Rw S:=aj adZ xn fun defs t Z=>aa k (a_ k defs t) (AX Z)
def ir:Fx S:=fp 79 [(23,PK k),(33,vE k),(34,A5 k),(35,Pk k),(36,PD k),(37,OD k)] [(7,⟨[(0,km),(3,km),(4,km),(8,km),(9,km),(10,km),(20,km)],[(3,[km,km,km,km,km,km]),(4,[km,km,km,an2 200259,an2 200260,an2 200261]),(8,[km,km,km,km,km,km])]⟩,ap 9 189),(1000022,⟨[(0,km),(3,km),(4,km)],[(3,[km,km,km,km,km,km]),(4,[km,km,km,an2 200259,an2 200260,an2 200261])]⟩,ap 8 253)] k f16 0
def aox (t:Tm) (defs:List Df) (q x:Int) (z:ByteArray) (A:List Cl) (B:List Tm) (j:List (Br Tm)) (v10 v20:Int) (h:Bool):St UU:=⟨[(0,(slD defs .none)),(3,(pt 3)),(4,(pt 4)),(8,(pt 8)),(9,(.bool h)),(10,(iI v10)),(20,(iI v20))],[(3,bT t),(4,.cells [(iI 0),(iI 0),arO,(.own 200259 0),(.own 200260 0),(.own 200261 0)]),(8,.cells [(iI q),(iI x),(.str z),(sC A),(sT B),(sB j)])],[(200261,arv),(200260,arI),(200259,arB)],[(200261,.wr),(200260,.wr),(200259,.wr)]⟩
def aob (t:Tm) (defs:List Df):St UU:=⟨[(0,(slD defs .none)),(3,(pt 3)),(4,(pt 4))],[(3,bT t),(4,.cells [(iI 0),(iI 0),arO,(.own 200259 0),(.own 200260 0),(.own 200261 0)])],[(200261,arv),(200260,arI),(200259,arB)],[(200261,.wr),(200260,.wr),(200259,.wr)]⟩
section
variable (k:Nat) (defs:List Df) (t:Tm) (Z:Out UU->Option S)
theorem aD1: ∀n,(ir k).jn Z 1000022 [] n (aob t defs)=bK k (AX Z) t defs n:=gL (co k (AX Z) t defs)
theorem qA: ∀n q x z A B j v10 v20 h,(ir k).lp Z 7 [] n (aox t defs q x z A B j v10 v20 h)=bH k (AX Z) t defs n q x z A B j v10 v20 h:=lp9 (fun own=>bu k (AX Z) t defs (bK k (AX Z) t defs k) own) rfl (fun _=>rfl) fun r q x z A B j v10 v20 h=>alQ (b:=bu k (AX Z) t defs ((ir k).jn Z 1000022 [] k (aob t defs)) (fun q x z A B j v10 v20 h=>r (aox t defs q x z A B j v10 v20 h)) q x z A B j v10 v20 h) (by kernel_rfl) (by simp only [aD1])
end
theorem aFv (ho:ai o):Tl o 16 (aoz k:Rw S):=alG (ir k) ⟨abV k ho,aFg k ho,aFj k ho,abw k ho,abP k ho,aaP k ho,trivial⟩ func16 fun defs t Z x h=>alQ (b:=aAp k (AX Z) (fun z A B E F q v10 v20 j=>(ir k).lp Z 7 [] k (aox t defs z A B E F q v10 v20 j)) defs t) (by kernel_rfl) (alQ (by simp only [qA];rfl) (al h))
def aoK:Rw S:=aj Ls aAA fun t alJ c0_1 Z=>aa k (axL k t alJ c0_1) (auz alJ Z)
def qz:Fx S:=fp 51 [(16,aoz k)] [(1000004,⟨[(0,km),(3,km),(4,km),(6,km),(7,km),(8,km)],[(3,[km,km,km,km,km,km]),(4,[km,km,km,an2 200259,an2 200260,an2 200261]),(6,[km,km,km,km,km,km]),(1000000,[km,km])]⟩,ap 3 7),(1000006,⟨[(0,km),(4,km),(6,km)],[(4,[km,km,km,an2 200259,an2 200260,an2 200261]),(6,[km,km,km,km,km,km]),(1000000,[km,km])]⟩,ap 4 15)] k f47 1
def aBX (alJ:List Df) (c0_1:Int) (t:Tm) (r1:Tm×Bool×Int):St UU:=⟨[(0,(pt 1000000)),(3,(pt 3)),(4,(pt 4)),(6,(pt 6)),(7,(.bool r1.2.1)),(8,(iI r1.2.2))],[(3,bT t),(4,.cells [(iI 0),(iI 0),arO,(.own 200259 0),(.own 200260 0),(.own 200261 0)]),(6,bT r1.1),(1000000,.cells [(slD alJ .none),(iI c0_1)])],[(200261,arv),(200260,arI),(200259,arB)],[(200261,.wr),(200260,.wr),(200259,.wr)]⟩
def aBY (alJ:List Df) (c0_1:Int) (r1:Tm×Bool×Int):St UU:=⟨[(0,(pt 1000000)),(4,(pt 4)),(6,(pt 6))],[(4,.cells [(iI 0),(iI 0),arO,(.own 200259 0),(.own 200260 0),(.own 200261 0)]),(6,bT r1.1),(1000000,.cells [(slD alJ .none),(iI c0_1)])],[(200261,arv),(200260,arI),(200259,arB)],[(200261,.wr),(200260,.wr),(200259,.wr)]⟩
section
variable (k:Nat) (t:Tm) (alJ:List Df) (c0_1:Int) (Z:Out UU->Option S)
theorem aD3 (r1): ∀n,(qz k).jn Z 1000006 [] n (aBY alJ c0_1 r1)=ayf k (auz alJ Z) alJ c0_1 r1 n:=gL (awm k (auz alJ Z) alJ c0_1 r1)
theorem aD2 (r1): ∀n,(qz k).jn Z 1000004 [] n (aBX alJ c0_1 t r1)=azv k (auz alJ Z) alJ c0_1 t r1 n:=gL (awl k (auz alJ Z) alJ c0_1 t r1 (ayf k (auz alJ Z) alJ c0_1 r1 k)) rfl (fun _=>rfl) (alQ (b:=awl k (auz alJ Z) alJ c0_1 t r1 ((qz k).jn Z 1000006 [] k (aBY alJ c0_1 r1))) (by kernel_rfl) (by simp only [aD3]))
end
theorem apj (ho:ai o):Tl o 47 (aoK k:Rw S):=alG (qz k) ⟨aFv k ho,trivial⟩ func47 fun t alJ c0_1 Z x h=>alQ (b:=aAi k (auz alJ Z) (fun r1=>(qz k).jn Z 1000004 [] k (aBX alJ c0_1 t r1)) t alJ c0_1) (by kernel_rfl) (alQ (by simp only [aD2];rfl) (al h))
def aoj:Rw S:=aj ar9 xn fun t Z=>aa k (aU k t) (da Z)
def ayV:Fx S:=fp 26 [(38,Oe k)] [(1000015,aS [1,3] [(1,6)],ap 3 7)] k f17 0
def oF (t:Tm) (v3:Int):St UU:=⟨[(1,(pt 1)),(3,(iI v3))],[(1,bT t)],[],[]⟩
section
variable (k:Nat) (t:Tm) (Z:Out UU->Option S)
theorem qD: ∀n v3,(ayV k).jn Z 1000015 [] n (oF t v3)=aV k (da Z) t n v3:=nx (bo k (da Z) t)
end
theorem apk (ho:ai o):Tl o 17 (aoj k:Rw S):=alG (ayV k) ⟨aat k ho,trivial⟩ func17 fun t Z x h=>alQ (b:=aAo k (da Z) (fun v3=>(ayV k).jn Z 1000015 [] k (oF t v3)) t) (by kernel_rfl) (alQ (by simp only [qD];rfl) (al h))
def av_ (hd:arT S):Rw S:=aj azr xn fun a b Z=>hd a b (F9 Z)
def azO (hd:arT S) (k:Nat):Rw S:=aj aGt xn fun s1 s2 Z=>aa k (awv hd k s1 s2) (F9 Z)
def eb (hd:arT S) (k:Nat):Fx S:=fp 32 [(76,av_ hd)] [(4,aS [1,2,15,16,17] [],ap 5 11)] k f132 0
def aBZ (s2 s1:List Tm) (v17:Int):St UU:=⟨[(1,(sT s2)),(2,(.func 76 [] [])),(15,(sT s1)),(16,(iI s1.length)),(17,(iI v17))],[],[],[]⟩
section
variable (hd:arT S) (k:Nat) (s1 s2:List Tm) (Z:Out UU->Option S)
theorem aD4: ∀n v17,(eb hd k).lp Z 4 [] n (aBZ s2 s1 v17)=av3 hd k (F9 Z) s2 s1 n v17:=cF (axi hd k (F9 Z) s2 s1)
end
theorem eZ (o:Obj) (ho:ai o) (hd:arT S) (Hd:Tl o 76 (av_ hd)) (k:Nat):Tl o 132 (azO hd k:Rw S):=alG (eb hd k) ⟨Hd,trivial⟩ func132 fun s1 s2 Z x h=>alQ (b:=aAm hd k (F9 Z) (fun v17=>(eb hd k).lp Z 4 [] k (aBZ s2 s1 v17)) s1 s2) (by kernel_rfl) (alQ (by simp only [aD4];rfl) (al h))
def aCS (hd:arT S) (k:Nat):Rw S:=aj aGu xn fun a_x y Z=>aa k (axY hd k a_x y) (F9 Z)
def aDB (hd:arT S) (k:Nat):Fx S:=fp 17 [(131,Pu k),(132,azO hd k)] [] k f134 0
theorem aFw (o:Obj) (ho:ai o) (hd:arT S) (Hd:Tl o 76 (av_ hd)) (k:Nat):Tl o 134 (aCS hd k:Rw S):=alG (aDB hd k) ⟨abG k ho,eZ o ho hd Hd k,trivial⟩ func134 fun a_x y Z x h=>al9 h
def aCT (hd:arT S) (k:Nat):Rw S:=aj aGv xn fun s1 s2 Z=>aa k (axX hd k s1 s2) (F9 Z)
def ef (hd:arT S) (k:Nat):Fx S:=fp 32 [(134,aCS hd k)] [(4,aS [1,2,15,16,17] [],ap 5 11)] k f133 0
def aB0 (s2 s1:List (Br Tm)) (v17:Int):St UU:=⟨[(1,(sB s2)),(2,(.func 134 [] [])),(15,(sB s1)),(16,(iI s1.length)),(17,(iI v17))],[],[],[]⟩
section
variable (hd:arT S) (k:Nat) (s1 s2:List (Br Tm)) (Z:Out UU->Option S)
theorem aD5: ∀n v17,(ef hd k).lp Z 4 [] n (aB0 s2 s1 v17)=av2 hd k (F9 Z) s2 s1 n v17:=cF (axh hd k (F9 Z) s2 s1)
end
theorem aFx (o:Obj) (ho:ai o) (hd:arT S) (Hd:Tl o 76 (av_ hd)) (k:Nat):Tl o 133 (aCT hd k:Rw S):=alG (ef hd k) ⟨aFw o ho hd Hd k,trivial⟩ func133 fun s1 s2 Z x h=>alQ (b:=aAl hd k (F9 Z) (fun v17=>(ef hd k).lp Z 4 [] k (aB0 s2 s1 v17)) s1 s2) (by kernel_rfl) (alQ (by simp only [aD5];rfl) (al h))
def aDA (hd:arT S) (k:Nat):Fx S:=fp 45 [(131,Pu k),(132,azO hd k),(133,aCT hd k)] [] k f76 0
theorem azj (o:Obj) (ho:ai o): ∀k:Nat,Tl o 76 (av_ (ate k:arT S))
 |0=>dz fun a b Z x h=>by cases h
 |k+1=>alG (aDA (ate k) k) ⟨abG k ho,eZ o ho (ate k) (azj o ho k) k,aFx o ho (ate k) (azj o ho k) k,trivial⟩ func76 fun a b Z x h=>alQ (by kernel_rfl) h
def ayz (hd:atG S):Rw S:=aj Ls aAA fun t alJ c0_1 Z=>hd t alJ c0_1 (ayr alJ Z)
def aCU (hd:atG S) (k:Nat):Rw S:=aj adK aAA fun t a_at alJ c0_1 Z=>aa k (auo hd k t a_at alJ c0_1) (auz alJ Z)
def aKo (hd:atG S) (k:Nat):Fx S:=fp 36 [(29,ayz hd),(76,av_ (ate k))] [] k f48 1
theorem aFy (o:Obj) (ho:ai o) (hd:atG S) (Hd:Tl o 29 (ayz hd)) (k:Nat):Tl o 48 (aCU hd k:Rw S):=alG (aKo hd k) ⟨Hd,azj o ho k,trivial⟩ func48 fun t a_at alJ c0_1 Z x h=>al9 h
def bk (hd:atG S) (k:Nat):Fx S:=fp 53 [(17,aoj k),(47,aoK k),(48,aCU hd k)] [(1,⟨[(0,km),(3,km),(4,km)],[(3,[km,km,km,km,km,km]),(4,[km,km,km,an2 200259,an2 200260,an2 200261]),(1000000,[km,km])]⟩,ap 2 1)] k f29 1
def aB1 (alJ:List Df) (h:Int) (j:Tm):St UU:=⟨[(0,(pt 1000000)),(3,(pt 3)),(4,(pt 4))],[(3,bT j),(4,.cells [(iI 0),(iI 0),arO,(.own 200259 0),(.own 200260 0),(.own 200261 0)]),(1000000,.cells [(slD alJ .none),(iI h)])],[(200261,arv),(200260,arI),(200259,arB)],[(200261,.wr),(200260,.wr),(200259,.wr)]⟩
section
variable (hd:atG S) (k:Nat) (t:Tm) (alJ:List Df) (c0_1:Int) (Z:Out UU->Option S)
theorem eT: ∀n h j,(bk hd k).lp Z 1 [] n (aB1 alJ h j)=aue hd k (ayr alJ Z) alJ n h j:=aL (ayZ hd k (ayr alJ Z) alJ)
end
theorem aBe (o:Obj) (ho:ai o): ∀k:Nat,Tl o 29 (ayz (ar1 k:atG S))
 |0=>dz fun t alJ c0_1 Z x h=>by cases h
 |k+1=>alG (bk (ar1 k) k) ⟨apk k ho,apj k ho,aFy o ho (ar1 k) (aBe o ho k) k,trivial⟩ func29 fun t alJ c0_1 Z x h=>alQ (b:=ayL (ar1 k) k (ayr alJ Z) (fun j q=>(bk (ar1 k) k).lp Z 1 [] k (aB1 alJ j q)) t alJ c0_1) (by kernel_rfl) (alQ (by simp only [eT];rfl) h)
def azP:Rw S:=aj aGw xn fun defs t fuel Z=>aa k (auI k defs t fuel) (aHl Z)
def ei:Fx S:=⟨⟨38,(fun _=>[]),(fun _=>false),km,fun|6=>true|7=>true|8=>true|_=>false⟩,[(23,PK k),(29,ayz (ar1 k)),(30,PL (dJ k))],[],k,f13,false,[],0,some (o9 17 28 f28 k)⟩
theorem aAU (ho:ai o):Tl o 13 (azP k:Rw S):=BZ (ei k) rfl (yn o func28 (by kernel_rfl)) ⟨abV k ho,aBe o ho k,ath o ho k,trivial⟩ func13 (by kernel_rfl) fun defs t fuel Z x h=>al9 h
def bg:Rw S:=aj cn xn fun Z=>aa k (axR k) (F9 Z)
def ej:Fx S:=fp 49 [(13,azP k),(25,F_ k)] [] k f9 0
theorem aFz (ho:ai o):Tl o 9 (bg k:Rw S):=alG (ej k) ⟨aAU k ho,eX0 k ho,trivial⟩ func9 fun Z x h=>al9 h
def dA (hd:gY S):Rw S:=aj Ag xn fun t most Z=>hd t most (da Z)
def auV (hd:gY S) (k:Nat):Fx S:=fp 119 [(26,dA hd)] [(5,aS [1,2,5,6] [(2,6)],ap 6 23),(9,aS [1,2,5,7] [(2,6)],ap 7 47),(15,aS [1,2,5,7,8] [(2,6)],ap 15 14639)] k f26 0
def azy (t:Tm) (most:Int) (v5 i6:Int):St UU:=⟨[(1,(iI most)),(2,(pt 2)),(5,(iI v5)),(6,(iI i6))],[(2,bT t)],[],[]⟩
def awE (t:Tm) (most:Int) (h i7:Int):St UU:=⟨[(1,(iI most)),(2,(pt 2)),(5,(iI h)),(7,(iI i7))],[(2,bT t)],[],[]⟩
def aB2 (t:Tm) (most i7:Int) (h j:Int):St UU:=⟨[(1,(iI most)),(2,(pt 2)),(5,(iI h)),(7,(iI i7)),(8,(iI j))],[(2,bT t)],[],[]⟩
section
variable (hd:gY S) (k:Nat) (t:Tm) (most:Int) (Z:Out UU->Option S)
theorem aD8 (i7 Z1): ∀n h q,(auV hd k).lp Z 15 [Z1] n (aB2 t most i7 h q)=kA hd k (da Z) (fun j i7=>Z1 (awE t most j i7)) t most i7 n h q:=aL (xL hd k (da Z) t most i7 (fun j i7=>Z1 (awE t most j i7)))
theorem aD7: ∀n h i7,(auV hd k).lp Z 9 [] n (awE t most h i7)=jl hd k (da Z) t most n h i7:=aL (fun own=>sS hd k (da Z) t most (fun i7 j q=>kA hd k (da Z) own t most i7 k j q) own) rfl (fun _=>rfl) fun r h i7=>alQ (b:=sS hd k (da Z) t most (fun i7 j q=>(auV hd k).lp Z 15 [r] k (aB2 t most i7 j q)) (fun h i7=>r (awE t most h i7)) h i7) (by kernel_rfl) (by simp only [aD8])
theorem aD6: ∀n v5 i6,(auV hd k).lp Z 5 [] n (azy t most v5 i6)=nQ hd k (da Z) t most n v5 i6:=aL (fun own=>sR hd k (da Z) t most (fun h i7=>jl hd k (da Z) t most k h i7) own) rfl (fun _=>rfl) fun r v5 i6=>alQ (b:=sR hd k (da Z) t most (fun h i7=>(auV hd k).lp Z 9 [] k (awE t most h i7)) (fun v5 i6=>r (azy t most v5 i6)) v5 i6) (by kernel_rfl) (by simp only [aD7])
end
theorem azk (o:Obj) (ho:ai o): ∀k:Nat,Tl o 26 (dA (gE k:gY S))
 |0=>dz fun t most Z x h=>by cases h
 |k+1=>alG (auV (gE k) k) ⟨azk o ho k,trivial⟩ func26 fun t most Z x h=>alQ (b:=Io (gE k) k (da Z) (fun v5 i6=>(auV (gE k) k).lp Z 5 [] k (azy t most v5 i6)) t most) (by kernel_rfl) (alQ (by simp only [aD6];rfl) h)
def dB:Rw S:=aj ar9 xn fun t Z=>aa k (axP k t) (F9 Z)
def er:Fx S:=fp 6 [(26,dA (gE k))] [] k f10 0
theorem aFA (ho:ai o):Tl o 10 (dB k:Rw S):=alG (er k) ⟨azk o ho k,trivial⟩ func10 fun t Z x h=>al9 h
def aCV:Rw S:=aj ar9 xn fun t Z=>aa k (axO k t) (F9 Z)
def eu:Fx S:=fp 6 [(26,dA (gE k))] [] k f27 0
theorem aFB (ho:ai o):Tl o 27 (aCV k:Rw S):=alG (eu k) ⟨azk o ho k,trivial⟩ func27 fun t Z x h=>al9 h
def aCW:Rw S:=aj aBt xn fun l Z=>aa k (axN k l) (F9 Z)
def ew:Fx S:=fp 24 [(27,aCV k)] [(4,aS [8,9,10] [],ap 5 11)] k f11 0
def aB3 (l:List Df) (v10:Int):St UU:=⟨[(8,(slG l .none)),(9,(iI l.length)),(10,(iI v10))],[],[],[]⟩
section
variable (k:Nat) (l:List Df) (Z:Out UU->Option S)
theorem aD9: ∀n v10,(ew k).lp Z 4 [] n (aB3 l v10)=ave k (F9 Z) l n v10:=cF (axg k (F9 Z) l)
end
theorem aFC (ho:ai o):Tl o 11 (aCW k:Rw S):=alG (ew k) ⟨aFB k ho,trivial⟩ func11 fun l Z x h=>alQ (b:=aAk k (F9 Z) (fun v10=>(ew k).lp Z 4 [] k (aB3 l v10)) l) (by kernel_rfl) (alQ (by simp only [aD9];rfl) (al h))
def aCX:Rw S:=aj aBt xn fun l Z=>aa k (axM k l) (ays Z)
def ez:Fx S:=fp 18 [] [(3,⟨[(3,an2 100003),(6,km),(7,km),(8,km)],[]⟩,ap 5 11)] k f12 0
def aB4 (l:List Df) (h:List Df) (j:Int):St UU:=⟨[(3,(.own 100003 0)),(6,(slG l .none)),(7,(iI l.length)),(8,(iI j))],[],[(100003,⟨0,ET.D,h⟩)],[(100003,.wr)]⟩
section
variable (k:Nat) (l:List Df) (Z:Out UU->Option S)
theorem aD_: ∀n h j,(ez k).lp Z 3 [] n (aB4 l h j)=av0 k (ays Z) l n h j:=aL (axf k (ays Z) l)
end
theorem fI (ho:ai o):Tl o 12 (aCX k:Rw S):=alG (ez k) trivial func12 fun l Z x h=>alQ (b:=aAj k (ays Z) (fun j q=>(ez k).lp Z 3 [] k (aB4 l j q)) l) (by kernel_rfl) (alQ (by simp only [aD_];rfl) (al h))
def aCY:Rw S:=aj atV xn fun a_n Z=>aa k (awt k a_n) (da Z)
def eC:Fx S:=fp 12 [] [] k f14 0
theorem aFD (ho:ai o):Tl o 14 (aCY k:Rw S):=alG (eC k) trivial func14 fun a_n Z x h=>al9 h
def aCZ:Rw S:=aj jk xn fun a b Z=>aa k (jY k a b) (F9 Z)
def bm:Fx S:=fp 26 [] [(4,aS [0,1,5] [],ap 5 11)] k f31 0
def aB5 (a b:List Cl) (i5:Int):St UU:=⟨[(0,(sC a)),(1,(sC b)),(5,(iI i5))],[],[],[]⟩
section
variable (k:Nat) (a b:List Cl) (Z:Out UU->Option S)
theorem eV: ∀n i5,(bm k).lp Z 4 [] n (aB5 a b i5)=ky k (F9 Z) a b n i5:=cF (oT k (F9 Z) a b)
end
theorem fY (ho:ai o):Tl o 31 (aCZ k:Rw S):=alG (bm k) trivial func31 fun a b Z x h=>alQ (b:=BV k (F9 Z) (fun i5=>(bm k).lp Z 4 [] k (aB5 a b i5)) a b) (by kernel_rfl) (alQ (by simp only [eV];rfl) (al h))
def ayA (hd:eN S):Rw S:=aj azr xn fun a b Z=>hd a b (F9 Z)
def aC0 (hd:eN S) (k:Nat):Rw S:=aj aGx xn fun a b Z=>aa k (tX hd k a b) (F9 Z)
def ayW (hd:eN S) (k:Nat):Fx S:=fp 27 [(15,ayA hd)] [(4,aS [0,1,5] [],ap 5 11)] k f32 0
def aB7 (a b:List Tm) (i5:Int):St UU:=⟨[(0,(sT a)),(1,(sT b)),(5,(iI i5))],[],[],[]⟩
section
variable (hd:eN S) (k:Nat) (a b:List Tm) (Z:Out UU->Option S)
theorem aEb: ∀n i5,(ayW hd k).lp Z 4 [] n (aB7 a b i5)=qH hd k (F9 Z) a b n i5:=cF (xQ hd k (F9 Z) a b)
end
theorem aFE (o:Obj) (ho:ai o) (hd:eN S) (Hd:Tl o 15 (ayA hd)) (k:Nat):Tl o 32 (aC0 hd k:Rw S):=alG (ayW hd k) ⟨Hd,trivial⟩ func32 fun a b Z x h=>alQ (b:=It hd k (F9 Z) (fun i5=>(ayW hd k).lp Z 4 [] k (aB7 a b i5)) a b) (by kernel_rfl) (alQ (by simp only [aEb];rfl) (al h))
def eD (hd:eN S) (k:Nat):Fx S:=fp 87 [(31,aCZ k),(32,aC0 hd k)] [(4,aS [2,3,5] [(2,6),(3,6)],ap 5 11)] k f15 0
def aB6 (a b:Tm) (i5:Int):St UU:=⟨[(2,(pt 2)),(3,(pt 3)),(5,(iI i5))],[(2,bT a),(3,bT b)],[],[]⟩
section
variable (hd:eN S) (k:Nat) (a b:Tm) (Z:Out UU->Option S)
theorem aEa: ∀n i5,(eD hd k).lp Z 4 [] n (aB6 a b i5)=av1 hd k (F9 Z) a b n i5:=cF (xO hd k (F9 Z) a b)
end
theorem aBf (o:Obj) (ho:ai o): ∀k:Nat,Tl o 15 (ayA (d8 k:eN S))
 |0=>dz fun a b Z x h=>by cases h
 |k+1=>alG (eD (d8 k) k) ⟨fY k ho,aFE o ho (d8 k) (aBf o ho k) k,trivial⟩ func15 fun a b Z x h=>alQ (b:=Ir (d8 k) k (F9 Z) (fun i5=>(eD (d8 k) k).lp Z 4 [] k (aB6 a b i5)) a b) (by kernel_rfl) (alQ (by simp only [aEa];rfl) h)
def ayC:Rw S:=aj aGy xn fun defs t fuel more Z=>aa k (axQ k defs t fuel more) (F9 Z)
def eG:Fx S:=fp 79 [(9,bg k),(10,dB k),(11,aCW k),(12,aCX k),(13,azP k),(14,aCY k),(15,ayA (d8 k))] [] k f3 0
theorem f8 (ho:ai o):Tl o 3 (ayC k:Rw S):=alG (eG k) ⟨aFz k ho,aFA k ho,aFC k ho,fI k ho,aAU k ho,aFD k ho,aBf o ho k,trivial⟩ func3 fun defs t fuel more Z x h=>al9 h
section
variable (hd:aDD S) (k:Nat) (t:Tm) (Z:Out UU->Option S)
end
section
variable (k:Nat) (defs:List Df) (Z:Out UU->Option S)
end
section
variable (hd:aAC S) (k:Nat) (l:List Tm) (c0:List Df) (c1:Int) (Z:Out UU->Option S)
end
section
variable (hd:aAC S) (k:Nat) (l:List (Br Tm)) (c1:List Df) (c2:Int) (Z:Out UU->Option S)
end
section
variable (hd:aDE S) (k:Nat) (defs:List Df) (t:Tm) (Z:Out UU->Option S)
end
theorem aI0 (o:Obj) (ho:ai o) (k:Nat):Tl o 3 (ayC k:Rw S):=f8 k ho
end
end Go.Proofs.YtgmmefmmnakbpaaGreatDoor
namespace Go.Proofs.YtgmmefmmnakbpaaGreatDoor
open Go PI
variable {S:Type} {k:Nat}
def bE {α β:Type} (x:Except Int α) (f:α->Except Int β):Except Int β:=match x with
 | .error e=> .error e
 | .ok a=>f a
theorem aD {α β:Type} (a:α) (f:α->Except Int β):bE (.ok a) f=f a:=rfl
theorem lk {α β:Type} (e:Int) (f:α->Except Int β):bE (.error e) f= .error e:=rfl
theorem i8 {α β:Type} {x:Except Int α} {f:α->Except Int β} {b:β} (h:bE x f= .ok b): ∃a,x= .ok a/\f a= .ok b:=by
 cases x with
 |error e=>cases h
 |ok a=>exact ⟨a,rfl,h⟩
theorem be {α β:Type} {x:Except Int α} {f:α->Except Int β} {e:Int} (h:bE x f= .error e):x= .error e\/ ∃a,x= .ok a/\f a= .error e:=by
 cases x with
 |error e=>injection h with h;grind
 |ok a=>exact .inr ⟨a,rfl,h⟩
def NF (x:LC×Int):Except Int (LC):=if x.2=0 then .ok x.1 else .error x.2
theorem jF {x:LC×Int} (h:x.2=0):NF x= .ok x.1:=if_pos h
theorem iO {x:LC×Int} (h:x.2≠0):NF x= .error x.2:=if_neg h
theorem rR {x:LC×Int} {l:LC} (h:NF x= .ok l):x.2=0/\x.1=l:=by
 grind [NF]
theorem ayM {x:LC×Int} {e:Int} (h:NF x= .error e):x.2≠0/\x.2=e:=by
 grind [NF]
def EN (e:Int):Prop:=0<=e/\e<=1000
theorem uq:EN 0:=by unfold EN;omega
theorem lO:EN 2:=by unfold EN;omega
theorem en3:EN 3:=by unfold EN;omega
theorem acI:EN 10:=by unfold EN;omega
theorem av8 (l:LC):EN (bp l).2:=by
 grind [bp,en3,uq,lO]
theorem z8 {step:LC->Cl->LC×Int} (hs: ∀h c,EN (step h c).2): ∀ {r h:LC},EN (adU step h r).2:=by
 intro r
 induction r<;>grind [uq,adU]
theorem agu (s i b:Int):EN (alS s i b).2:=by
 grind [alS,lO,amc,uq,acI]
theorem agk (c:Cl) (i b:Int):EN (dw c i b).2:=by
 grind [dw,agu,lO]
theorem q_ (f:LC) (i b:Int):EN (agS f i b).2:=by
 unfold agS
 split
 ·split
  ·exact av8 _
  ·exact z8 fun h c=>agk c i b
 ·exact lO
theorem T8 {n b x y:Nat} (h:up1 n b x=up1 n b y):x=y:=by
 grind [up1]
theorem ak2 (n b:Nat) {l:List Nat} (h:l.Nodup):(l.map (up1 n b)).Nodup:=
 List.Pairwise.map (S:=fun a b=>a≠b) (R:=fun a b=>a≠b) _ (fun x y j h=>j (T8 h)) h
theorem ags {m n b:Nat} (h:(amc m n b).2=0) (j:Nat):(amc m n b).1.testBit j=true↔ ∃x,x<24/\m.testBit x=true/\up1 n b x=j:=by
 rw [Fg] at h ⊢
 split<;>grind [oG,ak2,oY,mem_bitsN]
theorem ZC {m:Nat} (h:m<16777216):m&&&M24=m:=by
 apply Nat.eq_of_testBit_eq
 grind [g8,oZ]
theorem acY {i b:Int}: ∀ {r h:LC},(adU (dK i b) h r).2=0->(∀c∈r,(dw c i b).2=0)/\(adU (dK i b) h r).1=h++r.map fun c=>(dw c i b).1:=by
 intro r
 induction r<;>grind [adU,dK]
theorem agn {f:LC} {i b:Int} (h:(agS f i b).2=0): ∀c∈(agS f i b).1,∃d∈f,(dw d i b).2=0/\c=(dw d i b).1:=by
 grind [agS,acY,bp,mem_mins]
theorem ZY {c:Cl}:bS c=false↔ ∀j,¬ (c.pos.toNat.testBit j=true/\c.neg.toNat.testBit j=true):=by
 unfold bS
 rw [Bool.not_eq_false',decide_eq_true_eq]
 constructor
 ·intro h j ⟨h1,h2⟩
  have:(c.pos.toNat&&&c.neg.toNat).testBit j=true:=by grind
  grind
 ·intro h
  apply Nat.eq_of_testBit_eq
  grind
theorem agt {s i b:Int} (h:(alS s i b).2=0) {j:Nat} (hj:(alS s i b).1.toNat.testBit j=true): ∃x,s.toNat.testBit x=true/\up1 i.toNat b.toNat x=j:=by
 unfold alS at h hj
 split at h
 ·cases h
 ·next hn=>
  rw [if_neg hn] at hj
  have h':(amc s.toNat i.toNat b.toNat).2=0:=by
   omega
  obtain ⟨x,_,h2,q⟩:=(ags h' j).1 hj
  grind
theorem agj {c:Cl} {i b:Int} (h:(dw c i b).2=0) (hc:bS c=false):bS (dw c i b).1=false:=by
 grind [ZY,dw,agt,T8]
def alN (d b:Int) (f:LC):Except Int (LC):=if b=0\/d>=24 then .ok f else NF (agS f d b)
theorem GY {d b:Int} {f g:LC} (hf:RF f) (h:alN d b f= .ok g):RF g:=by
 grind [alN,rR,kQ]
theorem Bq {d b:Int} {f:LC} {e:Int} (h:alN d b f= .error e):0<e/\e<=1000:=by
 grind [alN,ayM,q_,EN]
theorem aiw {d b:Int} {f g:LC} (hf:f.all (fun c=> !bS c)=true) (h:alN d b f= .ok g):g.all (fun c=> !bS c)=true:=by
 grind [alN,rR,agn,agj]
theorem Bt (d b:Int):alN d b []= .ok []:=by
 unfold alN
 split
 all_goals rfl
mutual
def acr (vb db v d:Int):Tm->Except Int Tm
 | .mk kd n q r x sys=>
  if kd=1/\n>=v/\n>1000000000-vb then .error 100
  else bE (alN d db r) fun z=>bE (dm vb db v d kd 0 x) fun j=>bE (alT vb db v d kd sys) fun h=> .ok (.mk kd (if kd=1/\n>=v then n+vb else n) q z j h)
def dm (vb db v d kd:Int) (i:Nat):LT->Except Int (LT)
 |[]=> .ok []
 |t::l=>bE (acr vb db (v+arJ kd i) (d+bJ kd i) t) fun h=>bE (dm vb db v d kd (i+1) l) fun j=> .ok (h::j)
def alT (vb db v d kd:Int):LB->Except Int (LB)
 |[]=> .ok []
 |b::l=>bE (n8 vb db v d kd b) fun h=>bE (alT vb db v d kd l) fun j=> .ok (h::j)
def n8 (vb db v d kd:Int):Br Tm->Except Int (Br Tm)
 | .mk f j=>bE (alN d db f) fun q=>bE (alP vb db v d kd j) fun h=> .ok (.mk q h)
def alP (vb db v d kd:Int):LT->Except Int (LT)
 |[]=> .ok []
 |t::l=>bE (acr vb db v (d+av kd) t) fun h=>bE (alP vb db v d kd l) fun j=> .ok (h::j)
end
mutual
def RowsT:Tm->Prop
 | .mk kd n j r h sys=>(RF r/\(kd=1->r=[])/\0<=kd)/\dQ h/\eA sys
def dQ:LT->Prop
 |[]=>True
 |t::l=>RowsT t/\dQ l
def eA:LB->Prop
 |[]=>True
 |b::l=>mZ b/\eA l
def mZ:Br Tm->Prop
 | .mk f h=>RF f/\dQ h
end
theorem rowsK_iff: ∀ {l:LT},dQ l↔ ∀t∈l,RowsT t:=by
 intro l
 induction l<;>grind [dQ]
theorem G3 {b:Br Tm}:mZ b↔RF b.face/\ ∀t∈b.kids,RowsT t:=by cases b;rw [mZ,rowsK_iff]
theorem rowsS_iff: ∀ {l:LB},eA l↔ ∀b∈l,RF b.face/\ ∀t∈b.kids,RowsT t:=by
 intro l
 induction l<;>grind [eA,G3]
inductive F2 {α β:Type} (R:α->β->Prop):List α->List β->Prop
 |nil:F2 R [] []
 |cons {a:α} {b:β} {l:List α} {m:List β}:R a b->F2 R l m->F2 R (a::l) (b::m)
theorem F2.len {α β:Type} {R:α->β->Prop} {l:List α} {m:List β} (h:F2 R l m):m.length=l.length:=by
 induction h<;>grind
theorem F2.imp {α β:Type} {R Q:α->β->Prop} {l:List α} {m:List β} (h:F2 R l m) (j: ∀a b,R a b->Q a b):F2 Q l m:=by
 induction h<;>grind [nil,cons]
theorem ago {vb db v d kd:Int} {R:Tm->Tm->Prop}: ∀ {l:LT} {i:Nat} {l':LT},(∀x∈l,∀v d j,acr vb db v d x= .ok j->R x j)->dm vb db v d kd i l= .ok l'->F2 R l l':=by
 intro l
 induction l with
 |nil=>intro i l' _ h;rw [dm] at h;injection h with h;subst h;exact .nil
 |cons t l z=>
  intro i l' q h
  rw [dm] at h
  obtain ⟨B,h1,h⟩:=i8 h
  obtain ⟨m,h2,h⟩:=i8 h
  injection h with h;subst h
  exact .cons (q t (by simp) _ _ _ h1) (z (fun x A=>q x (by simp [A])) h2)
theorem agp {vb db v d kd:Int} {R:Tm->Tm->Prop}: ∀ {l:LT} {l':LT},(∀x∈l,∀v d j,acr vb db v d x= .ok j->R x j)->alP vb db v d kd l= .ok l'->F2 R l l':=by
 intro l
 induction l with
 |nil=>intro l' _ h;rw [alP] at h;injection h with h;subst h;exact .nil
 |cons t l z=>
  intro l' q h
  rw [alP] at h
  obtain ⟨B,h1,h⟩:=i8 h
  obtain ⟨m,h2,h⟩:=i8 h
  injection h with h;subst h
  exact .cons (q t (by simp) _ _ _ h1) (z (fun x A=>q x (by simp [A])) h2)
theorem agv {vb db v d kd:Int} {R:Tm->Tm->Prop}: ∀ {l l':LB},(∀b∈l,∀x∈b.kids,∀v d q,acr vb db v d x= .ok q->R x q)->alT vb db v d kd l= .ok l'->
  F2 (fun b j=>alN d db b.face= .ok j.face/\F2 R b.kids j.kids) l l':=by
 intro l
 induction l with
 |nil=>intro l' _ h;rw [alT] at h;injection h with h;subst h;exact .nil
 |cons b l A=>
  intro l' z h
  rw [alT] at h
  obtain ⟨j,h1,h⟩:=i8 h
  obtain ⟨m,h2,h⟩:=i8 h
  injection h with h;subst h
  cases b with
  |mk f B=>
   rw [n8] at h1
   obtain ⟨J,E,h1⟩:=i8 h1
   obtain ⟨F,I,h1⟩:=i8 h1
   injection h1 with h1;subst h1
   exact .cons ⟨E,agp (z ⟨f,B⟩ (by simp)) I⟩ (A (fun b hb=>z b (by simp [hb])) h2)
theorem Av {f:LC} {d:Int} (h:24<=d):dg f d=true:=by
 grind [dg,mem_bitsN]
def Up (x h:Tm):Prop:=am h=am x/\au h=au x/\h.kind=x.kind/\(OkT x->OkT h/\(RowsT x->RowsT h)/\ ∀q j,24<=q->24<=j->aqp false (-1) q x=true->aqp false (-1) j h=true)
theorem Ua {l l':LT} (h:F2 Up l l'):aH l'=aH l:=by
 induction h with
 |nil=>rfl
 |cons h1 _ j=>rw [aH,aH,h1.1,j]
theorem Ud {l l':LT} (h:F2 Up l l'):ay l'=ay l:=by
 induction h with
 |nil=>rfl
 |cons h1 _ j=>rw [ay,ay,h1.2.1,j]
theorem ala {l l':LB} (h:F2 (fun b j:Br Tm=>F2 Up b.kids j.kids) l l'):aO l'=aO l:=by
 induction h with
 |nil=>rfl
 |cons h1 _ q=>grind [aO,pD,Ua]
theorem alb {l l':LB} (h:F2 (fun b j:Br Tm=>F2 Up b.kids j.kids) l l'):aI l'=aI l:=by
 induction h with
 |nil=>rfl
 |cons h1 _ q=>grind [aI,kZ,Ud]
theorem Ub {l l':LT} (h:F2 Up l l'):aZ l->aZ l':=by
 induction h with
 |nil=>exact id
 |cons h1 _ j=>rw [aZ,aZ];exact fun h=>⟨(h1.2.2.2 h.1).1,j h.2⟩
theorem Uc {l l':LT} (h:F2 Up l l'):aZ l->dQ l->dQ l':=by
 induction h with
 |nil=>simp
 |cons h1 _ j=>rw [aZ,dQ,dQ];exact fun h g=>⟨(h1.2.2.2 h.1).2.1 g.1,j h.2 g.2⟩
theorem B2 (v:Int):cQ (-1) v= -1:=by rfl
theorem ak9 {kd q j:Int} (h1:24<=q) (h2:24<=j) {l l':LT} (h:F2 Up l l'): ∀ {i:Nat},aZ l->bO false (-1) q kd i l=true->bO false (-1) j kd i l'=true:=by
 induction h with
 |nil=>exact fun _ h=>h
 |cons x _ z=>
  intro i
  rw [aZ,bO,bO,anZ,anZ,B2]
  have:=gr kd i
  exact fun h g=>⟨(x.2.2.2 h.1).2.2 _ _ (by omega) (by omega) g.1,z h.2 g.2⟩
theorem ak_ {kd q j:Int} (h1:24<=q) (h2:24<=j) {l l':LT} (h:F2 Up l l'):aZ l->ca false (-1) q kd l=true->ca false (-1) j kd l'=true:=by
 induction h with
 |nil=>exact fun _ h=>h
 |cons x _ z=>
  rw [aZ,ca,ca,anZ,anZ]
  have:=atj kd
  exact fun h g=>⟨(x.2.2.2 h.1).2.2 _ _ (by omega) (by omega) g.1,z h.2 g.2⟩
def oN (d db:Int) (b h:Br Tm):Prop:=alN d db b.face= .ok h.face/\F2 Up b.kids h.kids
theorem QG {d db:Int} {f g:LC} (h:alN d db f= .ok g) (hf:aq f) (hl:f.length<1073741824):aq g/\g.length<1073741824:=by
 unfold alN at h
 split at h
 ·grind
 ·obtain ⟨h1,rfl⟩:=rR h
  have:=kQ h1
  exact ⟨this.2,by have:=this.len;omega⟩
theorem QH {d db:Int} {f g:LC} (h:alN d db f= .ok g) (hf:aq f) (j:ary f=true):ary g=true:=(GY ((atQ hf).1 j) h).right
theorem QF {d db:Int} {f g:LC} (h:alN d db f= .ok g) (hf:aq f) (j:cV f=true):cV g=true:=by
 grind [cV,QH,aiw]
theorem aiv {d db:Int} {f g:LC} (h:alN d db f= .ok g) (hf:f.length=0):g.length=0:=by
 grind [Bt]
theorem ak6 {d db:Int} {l l':LB} (h:F2 (oN d db) l l'):ba l->ba l':=by
 induction h with
 |nil=>exact id
 |cons h1 _ q=>
  rw [ba,ba,oh,oh]
  intro h
  have j:=QG h1.1 h.1.1.1 h.1.1.2.1
  exact ⟨⟨⟨j.1,j.2,by have:=h1.2.len;omega⟩,okK_iff.1 (Ub h1.2 (okK_iff.2 h.1.2))⟩,q h.2⟩
theorem ak8 {d db:Int} {l l':LB} (h:F2 (oN d db) l l'):ba l->eA l->eA l':=by
 induction h with
 |nil=>simp
 |cons h1 _ j=>
  rw [ba,oh,eA,eA,G3,G3]
  intro h g
  exact ⟨⟨GY g.1.1 h1.1,rowsK_iff.1 (Uc h1.2 (okK_iff.2 h.1.2) (rowsK_iff.2 g.1.2))⟩,j h.2 g.2⟩
theorem ak5 {d db kd q j:Int} (h1:24<=q) (h2:24<=j) {l l':LB} (h:F2 (oN d db) l l'):ba l->ck false (-1) q kd l=true->ck false (-1) j kd l'=true:=by
 induction h with
 |nil=>exact fun _ h=>h
 | @cons a b _ _ x _ z=>
  rw [ba,oh,ck,ck,anZ,anZ]
  intro h g
  refine ⟨?_,z h.2 g.2⟩
  cases a;cases b
  have g1:=g.1
  rw [jT] at g1 ⊢
  exact ak_ h1 h2 x.2 (okK_iff.2 h.1.2) g1
theorem ak7 {d db kd q j:Int} (h1:24<=q) (h2:24<=j) {l l':LB} (h:F2 (oN d db) l l'):ba l->l.all (bX kd q)=true->l'.all (bX kd j)=true:=by
 induction h with
 |nil=>simp
 | @cons a b _ _ x _ z=>
  rw [ba,oh,List.all_cons,List.all_cons,anZ,anZ]
  intro h g
  refine ⟨?_,z h.2 g.2⟩
  have g1:=g.1
  unfold bX at g1 ⊢
  rw [anZ,anZ,decide_eq_true_eq] at g1 ⊢
  rw [x.2.len]
  exact ⟨g1.1,QF x.1 h.1.1.1 g1.2.1,Av h2⟩
theorem T_ {d db:Int} {l l':LB} (h:F2 (oN d db) l l'):F2 (fun b j:Br Tm=>F2 Up b.kids j.kids) l l':=h.imp fun _ _ h=>h.2
theorem uP {vb db:Int} (T:0<=vb) (O:vb<=1000000000) (t:Tm): ∀v d t',acr vb db v d t= .ok t'->Up t t':=by
 induction t using gq with
 |h kd n nm r W sys E F=>
  intro v d t' h
  rw [acr] at h
  split at h
  ·cases h
  next hv=>
  obtain ⟨r',Y,h⟩:=i8 h
  obtain ⟨I,hk,h⟩:=i8 h
  obtain ⟨q,hs,h⟩:=i8 h
  injection h with h;subst h
  have B:F2 Up W I:=ago (fun x J v d L=>E x J v d L) hk
  have fs:F2 (oN d db) sys q:=agv (fun b hb x J v d L=>F b hb x J v d L) hs
  refine ⟨?_, ?_,rfl,fun z=> ?_⟩
  ·grind [am,Ua,ala,T_]
  ·grind [au,Ud,alb,T_]
  ·obtain ⟨o1,o2,o3,o4,o5,o6,o7⟩:=z.node
   have j:=z
   rw [OkT] at j
   obtain ⟨_,ok,os⟩:=j
   have A:=QG Y o4 o5
   have M:=o2
   unfold aG at M
   refine ⟨?_, ?_, ?_⟩
   ·rw [OkT]
    refine ⟨⟨o1, ?_,o3,A.1,A.2,by rw [B.len];exact o6,by rw [fs.len];exact o7⟩,Ub B ok,ak6 fs os⟩
    grind [aG]
   ·grind [RowsT,GY,Uc,ak8,Bt]
   ·intro dd ad h1 h2
    rw [aqp,aqp]
    simp only [Bool.false_and,aqD,Bool.true_and,anZ]
    rintro ⟨a,b,c⟩
    refine ⟨?_,ak9 h1 h2 B ok b,ak5 h1 h2 fs os c⟩
    unfold cL at a ⊢
    simp only [anZ,decide_eq_true_eq,B.len,fs.len] at a ⊢
    grind [aiv,QH,Av,QF,ak7]
theorem aed {kd:Int} {n:Nat} (h:ct kd=n):0<=kd:=by
 grind [ct]
theorem ZA {bd:Bool} (t:Tm): ∀ {vars dims:Int},OkT t->aqp bd vars dims t=true->RowsT t:=by
 induction t using gq with
 |h kd n T r W sys I J=>
  intro vars dims A h
  rw [aqp,anZ,anZ,anZ] at h
  obtain ⟨_,a,b,c⟩:=h
  obtain ⟨Y,o2,o3,M,o5,o6,o7⟩:=A.node
  have z:=A
  rw [OkT] at z
  obtain ⟨_,ok,os⟩:=z
  have B: ∀ {l:LT} {i:Nat},(∀x∈l,∀ {vars dims:Int},OkT x->aqp bd vars dims x=true->RowsT x)->aZ l->bO bd vars dims kd i l=true->dQ l:=by
   intro l
   induction l<;>grind [dQ,bO,aZ]
  rw [wH,ars] at c
  unfold cL at a
  simp only [anZ,decide_eq_true_eq] at a
  obtain ⟨⟨a1,a2,a3,a4⟩,a5⟩:=a
  have O: ∀ {l:LC},l.length=0->RF l:=fun h=>by
   grind [rA]
  rw [RowsT]
  have j:(sys=[]\/sys.all (bX kd dims)=true)/\RF r/\(kd=1->r=[]):=by
   have q:cz kd=0->sys=[]:=fun h=>List.length_eq_zero_iff.1 (a4 h)
   by_cases c1:kd=1
   ·rw [if_pos c1] at a5
    simp only [anZ,decide_eq_true_eq] at a5
    exact ⟨.inl (q (by subst c1;decide)),O a5.1,fun _=>List.length_eq_zero_iff.1 a5.1⟩
   ·rw [if_neg c1] at a5
    by_cases c2:kd=2
    ·rw [if_pos c2] at a5
     simp only [anZ,decide_eq_true_eq] at a5
     exact ⟨.inl (q (by subst c2;decide)),O a5.1,fun h=>absurd h c1⟩
    ·rw [if_neg c2] at a5
     by_cases c3:kd=13\/kd=21\/kd=26
     ·rw [if_pos c3,anZ] at a5
      exact ⟨.inl (q (by rcases c3 with rfl|rfl|rfl<;>decide)),(atQ M).1 a5.1,fun h=>absurd h c1⟩
     ·rw [if_neg c3] at a5
      by_cases c4:kd=14
      ·rw [if_pos c4,anZ] at a5
       unfold cV at a5
       rw [anZ] at a5
       exact ⟨.inl (q (by subst c4;decide)),(atQ M).1 a5.1.1,fun h=>absurd h c1⟩
      grind
  refine ⟨⟨j.2.1,j.2.2,aed a1⟩,B (fun x F=>I x F) ok b, ?_⟩
  rw [rowsS_iff]
  intro br E
  have hc:=c br E
  rw [ars] at hc
  have L:=A.br E
  refine ⟨?_,fun x F=>J br E x F (L.2 x F) (hc x F)⟩
  rcases j.1 with h|h<;>grind [bX,cV,atQ]
theorem amo {vb db:Int} (t:Tm): ∀ {v d e},acr vb db v d t= .error e->0<e/\e<=1000:=by
 induction t using gq with
 |h kd n J r L sys E F=>
  intro v d e h
  rw [acr] at h
  split at h
  ·grind
  rcases be h with h|⟨_,_,h⟩
  ·exact Bq h
  have q: ∀ {l:LT} {i:Nat},(∀x∈l,∀ {v d e},acr vb db v d x= .error e->0<e/\e<=1000)->dm vb db v d kd i l= .error e->0<e/\e<=1000:=by
   intro l
   induction l with
   |nil=>grind [dm]
   |cons t l z=>
    intro i hl h
    rw [dm] at h
    rcases be h with h|⟨_,_,h⟩
    ·exact hl t (by simp) h
    grind [be]
  have j: ∀ {l:LT},(∀x∈l,∀ {v d e},acr vb db v d x= .error e->0<e/\e<=1000)-> ∀ {e},alP vb db v d kd l= .error e->0<e/\e<=1000:=by
   intro l
   induction l with
   |nil=>grind [alP]
   |cons t l z=>
    intro hl e h
    rw [alP] at h
    rcases be h with h|⟨_,_,h⟩
    ·grind
    ·rcases be h with h|⟨_,_,h⟩
     ·exact z (fun x I=>hl x (by simp [I])) h
     simp_all
  have B: ∀ {l:LB},(∀b∈l,∀x∈b.kids,∀ {v d e},acr vb db v d x= .error e->0<e/\e<=1000)->alT vb db v d kd l= .error e->0<e/\e<=1000:=by
   intro l
   induction l with
   |nil=>grind [alT]
   |cons b l z=>
    intro hl h
    rw [alT] at h
    rcases be h with h|⟨_,_,h⟩
    ·cases b with
     |mk f A=>
      rw [n8] at h
      rcases be h with h|⟨_,_,h⟩
      ·exact Bq h
      ·rcases be h with h|⟨_,_,h⟩
       ·exact j (hl (Br.mk f A) (by simp)) h
       ·cases h
    grind [be]
  grind [be]
abbrev dC:=Int->LC->Except Int (LC)
mutual
def ab7 (fo fa:dC) (d:Int):Tm->Except Int Tm
 | .mk kd n q r x sys=>bE (if kd=14 then fa d r else fo d r) fun z=>bE (aig fo fa d kd 0 x) fun j=>bE (acM fo fa d kd sys) fun h=> .ok (.mk kd n q z j h)
def aig (fo fa:dC) (d kd:Int) (i:Nat):LT->Except Int (LT)
 |[]=> .ok []
 |t::l=>bE (ab7 fo fa (d+bJ kd i) t) fun h=>bE (aig fo fa d kd (i+1) l) fun j=> .ok (h::j)
def acM (fo fa:dC) (d kd:Int):LB->Except Int (LB)
 |[]=> .ok []
 |b::l=>bE (amn fo fa d kd b) fun o=>bE (acM fo fa d kd l) fun h=> .ok (o++h)
def amn (fo fa:dC) (d kd:Int):Br Tm->Except Int (LB)
 | .mk f q=>bE (fa d f) fun j=>if j.length=0 then .ok [] else bE (akP fo fa d kd q) fun h=> .ok [.mk j h]
def akP (fo fa:dC) (d kd:Int):LT->Except Int (LT)
 |[]=> .ok []
 |t::l=>bE (ab7 fo fa (d+av kd) t) fun h=>bE (akP fo fa d kd l) fun j=> .ok (h::j)
end
theorem alf {fo fa:dC} {d kd:Int} {R:Tm->Tm->Prop}: ∀ {l:LT} {i:Nat} {l':LT},(∀x∈l,∀d j,ab7 fo fa d x= .ok j->R x j)->aig fo fa d kd i l= .ok l'->F2 R l l':=by
 intro l
 induction l with
 |nil=>intro i l' _ h;rw [aig] at h;injection h with h;subst h;exact .nil
 |cons t l z=>
  intro i l' q h
  rw [aig] at h
  obtain ⟨B,h1,h⟩:=i8 h
  obtain ⟨m,h2,h⟩:=i8 h
  injection h with h;subst h
  exact .cons (q t (by simp) _ _ h1) (z (fun x A=>q x (by simp [A])) h2)
theorem alh {fo fa:dC} {d kd:Int} {R:Tm->Tm->Prop}: ∀ {l:LT} {l':LT},(∀x∈l,∀d j,ab7 fo fa d x= .ok j->R x j)->akP fo fa d kd l= .ok l'->F2 R l l':=by
 intro l
 induction l with
 |nil=>intro l' _ h;rw [akP] at h;injection h with h;subst h;exact .nil
 |cons t l z=>
  intro l' q h
  rw [akP] at h
  obtain ⟨B,h1,h⟩:=i8 h
  obtain ⟨m,h2,h⟩:=i8 h
  injection h with h;subst h
  exact .cons (q t (by simp) _ _ h1) (z (fun x A=>q x (by simp [A])) h2)
def Wk (x h:Tm):Prop:=am h<=am x/\au h<=au x/\h.kind=x.kind/\(OkT x->RowsT x->OkT h/\RowsT h)
theorem Un {l l':LT} (h:F2 Wk l l'):aH l'<=aH l:=by
 induction h with
 |nil=>simp
 |cons h1 _ j=>rw [aH,aH];have:=h1.1;omega
theorem Uq {l l':LT} (h:F2 Wk l l'):ay l'<=ay l:=by
 induction h with
 |nil=>simp
 |cons h1 _ j=>rw [ay,ay];have:=h1.2.1;omega
theorem Uo {l l':LT} (h:F2 Wk l l'):aZ l->dQ l->aZ l'/\dQ l':=by
 induction h with
 |nil=>grind
 |cons h1 _ j=>
  rw [aZ,aZ,dQ,dQ]
  intro h g
  have a:=h1.2.2.2 h.1 g.1
  grind
theorem alk {fo fa:dC} {d kd:Int} (hfa: ∀d f g,RF f->fa d f= .ok g->RF g): ∀ {l l':LB},(∀b∈l,∀x∈b.kids,∀d A,ab7 fo fa d x= .ok A->Wk x A)->acM fo fa d kd l= .ok l'->
  aO l'<=aO l/\aI l'<=aI l/\l'.length<=l.length/\(ba l->eA l->ba l'/\eA l'):=by
 intro l
 induction l with
 |nil=>grind [acM]
 |cons b l F=>
  intro l' B h
  rw [acM] at h
  obtain ⟨o,h1,h⟩:=i8 h
  obtain ⟨m,h2,h⟩:=i8 h
  injection h with h;subst h
  obtain ⟨i1,i2,i3,i4⟩:=F (fun b hb=>B b (by simp [hb])) h2
  cases b with
  |mk f E=>
   rw [amn] at h1
   obtain ⟨z,I,h1⟩:=i8 h1
   split at h1
   ·grind [aO,aI,ba,eA]
   ·obtain ⟨j,J,h1⟩:=i8 h1
    injection h1 with h1;subst h1
    have f2:F2 Wk E j:=alh (B ⟨f,E⟩ (by simp)) J
    have hd:=Un f2
    have hs:=Uq f2
    refine ⟨?_, ?_, ?_,fun ho q=> ?_⟩
    ·grind [aO,eB]
    ·grind [aI,fG]
    ·grind
    ·rw [ba,fc] at ho;rw [eA,mZ] at q
     have a:=Uo f2 ho.1.2 q.1.2
     have b:=i4 ho.2 q.2
     have c:=hfa d f z q.1.1 I
     show ba (Br.mk z j::m)/\eA (Br.mk z j::m)
     rw [ba,fc,eA,mZ]
     exact ⟨⟨⟨⟨c.2,by have:=c.len;omega,by rw [f2.len];simp_all⟩,a.1⟩,b.1⟩,⟨c,a.2⟩,b.2⟩
theorem Uj {fo fa:dC} (hfo: ∀d f g,RF f->fo d f= .ok g->RF g) (hfa: ∀d f g,RF f->fa d f= .ok g->RF g) (h0: ∀d,fo d []= .ok []) (t:Tm): ∀d t',ab7 fo fa d t= .ok t'->Wk t t':=by
 induction t using gq with
 |h kd n nm r J sys B E=>
  intro d t' h
  rw [ab7] at h
  obtain ⟨L,hr,h⟩:=i8 h
  obtain ⟨F,hk,h⟩:=i8 h
  obtain ⟨I,hs,h⟩:=i8 h
  injection h with h;subst h
  have A:F2 Wk J F:=alf B hk
  obtain ⟨s1,s2,s3,M⟩:=alk hfa E hs
  refine ⟨?_, ?_,rfl,fun q x=> ?_⟩
  ·rw [am,am];have:=Un A;omega
  ·rw [au,au];have:=Uq A;omega
  ·rw [OkT] at q;rw [RowsT] at x
   obtain ⟨⟨O,T,W,o4,o5,Y,o7⟩,ok,os⟩:=q
   obtain ⟨⟨a,b,z⟩,c,e⟩:=x
   have hk:=Uo A ok c
   have hs:=M os e
   have j:RF L:=by
    grind
   rw [OkT,RowsT]
   refine ⟨⟨⟨O,T,W,j.2,by have:=j.len;omega,by rw [A.len];exact Y,by omega⟩,hk.1,hs.1⟩,⟨j,fun h1=> ?_,z⟩,hk.2,hs.2⟩
   grind
section
variable {fo fa:dC} {G:Int->LC->LC}
def as6 (f:dC) (G:Int->LC->LC):dC:=fun d l=>bE (f d l) fun m=> .ok (G d m)
def j0 (G:Int->LC->LC):dC:=fun d l=> .ok (G d l)
theorem B5 (t:Tm): ∀d,∃t',ab7 (j0 G) (j0 G) d t= .ok t':=by
 induction t using gq with
 |h kd n L r z sys A B=>
  intro d
  have hk: ∀ {l:LT} {i:Nat},(∀x∈l,∀d,∃t',ab7 (j0 G) (j0 G) d x= .ok t')-> ∃j,aig (j0 G) (j0 G) d kd i l= .ok j:=by
   intro l
   induction l with
   |nil=>simp_all [aig]
   |cons t l q=>
    intro i h
    obtain ⟨t',e⟩:=h t (by simp) (d+bJ kd i)
    obtain ⟨j,e'⟩:=q (i:=i+1) fun x E=>h x (by simp [E])
    grind [aig,aD]
  have J: ∀ {l:LT},(∀x∈l,∀d,∃t',ab7 (j0 G) (j0 G) d x= .ok t')-> ∃j,akP (j0 G) (j0 G) d kd l= .ok j:=by
   intro l
   induction l with
   |nil=>simp_all [akP]
   |cons t l q=>
    intro h
    obtain ⟨t',e⟩:=h t (by simp) (d+av kd)
    obtain ⟨j,e'⟩:=q fun x E=>h x (by simp [E])
    grind [akP,aD]
  have hs: ∀ {l:LB},(∀b∈l,∀x∈b.kids,∀d,∃t',ab7 (j0 G) (j0 G) d x= .ok t')-> ∃j,acM (j0 G) (j0 G) d kd l= .ok j:=by
   intro l
   induction l with
   |nil=>simp_all [acM]
   |cons b l q=>
    intro h
    obtain ⟨j,e'⟩:=q fun b hb=>h b (by simp [hb])
    cases b with
    |mk f z=>
     obtain ⟨F,e⟩:=J (h ⟨f,z⟩ (by simp))
     have: ∃o,amn (j0 G) (j0 G) d kd (.mk f z)= .ok o:=by
      grind [amn,j0,aD]
     grind [acM,aD]
  obtain ⟨F,M⟩:=hk (i:=0) A
  obtain ⟨I,es⟩:=hs B
  simp_all [j0,ab7,aD]
theorem alg (d kd:Int): ∀ (l:LT) (i:Nat),∃l',aig (j0 G) (j0 G) d kd i l= .ok l':=by
 intro l
 induction l with
 |nil=>simp_all [aig]
 |cons t l h=>
  intro i
  obtain ⟨j,e⟩:=B5 (G:=G) t (d+bJ kd i)
  obtain ⟨l',e'⟩:=h (i+1)
  grind [aig,aD]
theorem Ui (d kd:Int): ∀ (l:LT),∃l',akP (j0 G) (j0 G) d kd l= .ok l':=by
 intro l
 induction l with
 |nil=>simp_all [akP]
 |cons t l h=>
  obtain ⟨j,e⟩:=B5 (G:=G) t (d+av kd)
  grind [akP,aD]
theorem ale (d kd:Int) (b:Br Tm): ∃o,amn (j0 G) (j0 G) d kd b= .ok o:=by
 cases b with
 |mk f h=>
  obtain ⟨j,e⟩:=Ui (G:=G) d kd h
  rw [amn,j0,aD]
  split<;>simp_all [aD]
theorem alj (d kd:Int): ∀ (l:LB),∃l',acM (j0 G) (j0 G) d kd l= .ok l':=by
 intro l
 induction l with
 |nil=>simp_all [acM]
 |cons b l h=>
  obtain ⟨l',e'⟩:=h
  obtain ⟨o,e⟩:=ale (G:=G) d kd b
  grind [acM,aD]
theorem ali (d kd:Int): ∀ (a b:LB),acM fo fa d kd (a++b)=bE (acM fo fa d kd a) fun a'=>bE (acM fo fa d kd b) fun h=> .ok (a'++h):=by
 intro a
 induction a with
 |nil=>intro b;rw [as2,acM,aD];cases acM fo fa d kd b<;>rfl
 |cons x a j=>
  intro b
  rw [List.cons_append,acM,acM,j]
  cases amn fo fa d kd x with
  |error e=>rfl
  |ok o=>
   rw [aD,aD]
   cases acM fo fa d kd a with
   |error e=>rfl
   |ok a'=>
    rw [aD,aD]
    cases acM fo fa d kd b with
    |error e=>rfl
    |ok h=>grind [aD]
theorem alm (hfa: ∀d f g,RF f->fa d f= .ok g->RF g) (hG: ∀d f,RF f->((G d f).length=0↔f.length=0)) (t:Tm): ∀d,RowsT t->bE (ab7 fo fa d t) (ab7 (j0 G) (j0 G) d)=ab7 (as6 fo G) (as6 fa G) d t:=by
 induction t using gq with
 |h kd n nm r ks sys F I=>
  intro d q
  rw [RowsT] at q
  obtain ⟨_,J,L⟩:=q
  have hk: ∀ {l:LT} {i:Nat},(∀x∈l,∀d,RowsT x->bE (ab7 fo fa d x) (ab7 (j0 G) (j0 G) d)=ab7 (as6 fo G) (as6 fa G) d x)->dQ l->bE (aig fo fa d kd i l) (aig (j0 G) (j0 G) d kd i)=aig (as6 fo G) (as6 fa G) d kd i l:=by
   intro l
   induction l with
   |nil=>grind [aig,aD]
   |cons t l A=>
    intro i h j
    rw [dQ] at j
    have h1:=h t (by simp) (d+bJ kd i) j.1
    have h2:=A (i:=i+1) (fun x M=>h x (by simp [M])) j.2
    rw [aig,aig,<-h1,<-h2]
    cases ab7 fo fa (d+bJ kd i) t with
    |error e=>rfl
    |ok O=>
     rw [aD,aD]
     obtain ⟨T,e⟩:=B5 (G:=G) O (d+bJ kd i)
     rw [e,aD]
     cases aig fo fa d kd (i+1) l with
     |error e=>rfl
     |ok B=>
      grind [aD,aig]
  have hm: ∀ {l:LT},(∀x∈l,∀d,RowsT x->bE (ab7 fo fa d x) (ab7 (j0 G) (j0 G) d)=ab7 (as6 fo G) (as6 fa G) d x)->dQ l->bE (akP fo fa d kd l) (akP (j0 G) (j0 G) d kd)=akP (as6 fo G) (as6 fa G) d kd l:=by
   intro l
   induction l with
   |nil=>grind [akP,aD]
   |cons t l A=>
    intro h j
    rw [dQ] at j
    have h1:=h t (by simp) (d+av kd) j.1
    have h2:=A (fun x M=>h x (by simp [M])) j.2
    rw [akP,akP,<-h1,<-h2]
    cases ab7 fo fa (d+av kd) t with
    |error e=>rfl
    |ok O=>
     rw [aD,aD]
     obtain ⟨T,e⟩:=B5 (G:=G) O (d+av kd)
     rw [e,aD]
     cases akP fo fa d kd l with
     |error e=>rfl
     |ok B=>
      grind [aD,akP]
  have hb: ∀ {b:Br Tm},(∀x∈b.kids,∀d,RowsT x->bE (ab7 fo fa d x) (ab7 (j0 G) (j0 G) d)=ab7 (as6 fo G) (as6 fa G) d x)->mZ b->bE (amn fo fa d kd b) (acM (j0 G) (j0 G) d kd)=amn (as6 fo G) (as6 fa G) d kd b:=by
   intro b h j
   cases b with
   |mk f z=>
    rw [mZ] at j
    have h2:=hm h j.2
    rw [amn,amn]
    show _=bE (bE (fa d f) fun m=> .ok (G d m)) _
    cases hf:fa d f with
    |error e=>rfl
    |ok E=>
     rw [aD,aD,aD]
     have Y:=hG d E (hfa d f E j.1 hf)
     by_cases W:E.length=0
     ·grind [aD,acM]
     ·rw [if_neg W,if_neg (fun h=>W (Y.1 h)),<-h2]
      cases akP fo fa d kd z with
      |error e=>rfl
      |ok B=>
       rw [aD,aD,aD,acM,amn]
       show bE (bE (.ok (G d E)) _) _=_
       rw [aD,if_neg (fun h=>W (Y.1 h))]
       obtain ⟨ax,e⟩:=Ui (G:=G) d kd B
       grind [aD,acM]
  have hs: ∀ {l:LB},(∀b∈l,∀x∈b.kids,∀d,RowsT x->bE (ab7 fo fa d x) (ab7 (j0 G) (j0 G) d)=ab7 (as6 fo G) (as6 fa G) d x)->eA l->bE (acM fo fa d kd l) (acM (j0 G) (j0 G) d kd)=acM (as6 fo G) (as6 fa G) d kd l:=by
   intro l
   induction l with
   |nil=>grind [acM,aD]
   |cons b l A=>
    intro h j
    rw [eA] at j
    have h1:=hb (h b (by simp)) j.1
    have h2:=A (fun b hb=>h b (by simp [hb])) j.2
    rw [acM,acM,<-h1,<-h2]
    cases amn fo fa d kd b with
    |error e=>rfl
    |ok o=>
     rw [aD,aD]
     obtain ⟨o',e⟩:=alj (G:=G) d kd o
     rw [e,aD]
     cases acM fo fa d kd l with
     |error e=>rfl
     |ok B=>
      grind [aD,ali]
  rw [ab7,ab7,<-hk (i:=0) F J,<-hs I L]
  have hrow:(if kd=14 then as6 fa G d r else as6 fo G d r)=bE (if kd=14 then fa d r else fo d r) fun m=> .ok (G d m):=by split<;>rfl
  rw [hrow]
  cases (if kd=14 then fa d r else fo d r) with
  |error e=>rfl
  |ok r'=>
   rw [aD,aD,aD]
   cases aig fo fa d kd 0 ks with
   |error e=>rfl
   |ok z=>
    rw [aD,aD]
    obtain ⟨ad,ek⟩:=alg (G:=G) d kd z 0
    rw [ek,aD]
    cases acM fo fa d kd sys with
    |error e=>rfl
    |ok ao=>
     grind [aD,ab7,j0]
end
set_option maxRecDepth 20000
theorem Ly (kd:Int):(kd<0\/kd>28)\/(∃n:Nat,n<29/\kd=n):=by
 by_cases h:kd<0\/kd>28
 ·omega
 ·exact .inr ⟨kd.toNat,by omega,by omega⟩
theorem aiR (kd:Int) (I:Int->OS S):zA k kd I=I (ct kd):=by
 simp only [zA]
 rcases Ly kd with h|⟨n,hn,rfl⟩
 ·simp only [cH,beq_iff_eq]
  unfold ct
  rw [if_pos h]
  repeat rw [if_neg (by omega)]
 ·unfold ct
  rw [if_neg (by omega),asG]
  match n,hn with
  |0,_=>rfl
  |1,_=>rfl
  |2,_=>rfl
  |3,_=>rfl
  |4,_=>rfl
  |5,_=>rfl
  |6,_=>rfl
  |7,_=>rfl
  |8,_=>rfl
  |9,_=>rfl
  |10,_=>rfl
  |11,_=>rfl
  |12,_=>rfl
  |13,_=>rfl
  |14,_=>rfl
  |15,_=>rfl
  |16,_=>rfl
  |17,_=>rfl
  |18,_=>rfl
  |19,_=>rfl
  |20,_=>rfl
  |21,_=>rfl
  |22,_=>rfl
  |23,_=>rfl
  |24,_=>rfl
  |25,_=>rfl
  |26,_=>rfl
  |27,_=>rfl
  |28,_=>rfl
  |n+29,h=>omega
theorem jE (kd i:Int) (I:Int×Int->OS S):gI k kd i I=I (arJ kd i,bJ kd i):=by
 simp only [gI,cH,beq_iff_eq]
 grind [arJ,bJ]
theorem Q8 (kd:Int) (I:Int->OS S):lJ k kd I=I (cz kd):=by
 grind [lJ,cH,cz]
theorem Jq (s t:BA):(s==t)=decide (s=t):=by
 obtain ⟨a⟩:=s;obtain ⟨b⟩:=t
 show (a==b)=_
 grind
theorem FO (s:BA):(s==alH)=decide (s.size=0):=by
 simp_all [Jq]
theorem rN (s:BA):(s.size:Int)=(s.data.toList.length:Int):=by
 rfl
def js (p:List UInt8) (r:List UInt8):Bool:=match p with
 |[]=>awR r
 |_::_=>r.all fun d=>kP d||pG d
theorem NI (p:List UInt8) (x:UInt8) (r:List UInt8):js p (x::r)=((kP x||(decide (p≠[])&&pG x))&&js (p++[x]) r):=by
 cases p<;>grind [js,awR]
theorem NJ {p:List UInt8}:js p []=decide (p.length≠0):=by
 cases p with
 |nil=>rfl
 |cons c l=>rfl
theorem afb (hk:Fu k) (I:Bool->OS S) {s:BA} (hs:s.size<2147483648):
  ∀ (r p:List UInt8) (m:Nat),s.data.toList=p++r->r.length<m->n7 k I s m (p.length:Int)=I (js p r):=by
 obtain ⟨q,rfl⟩: ∃q,k=q+1:=⟨k-1,by omega⟩
 have z:s.data.toList.length<2147483648:=by simp_all
 intro r
 induction r with
 |nil=>
  grind [amr,n7,tv,rN,n3,FO,NJ]
 |cons x r A=>
  intro p m h B
  obtain ⟨m,rfl,j⟩:=amr B
  obtain ⟨E,F,J,L⟩:=apy h (by omega)
  have M:=A (p++[x]) m L j
  rw [NI]
  simp only [n7,tv,rN,E,ae,F,sf,aY,Aq,Dk,J,M]
  have hl: ∀b:Bool,b=kP x->ab (!b) (ab (((p.length:Nat):Int)==0) (I false) (if ((x.toNat:Nat):Int)<48 then I false else if ((x.toNat:Nat):Int)>57 then I false else I (js (p++[x]) r))) (I (js (p++[x]) r))=I ((kP x||(decide (p≠[])&&pG x))&&js (p++[x]) r):=by
   grind [cH,List.length_pos_iff,pG]
  grind [kP]
theorem ajo (hk:Fu k) {s:BA} (hs:s.size<2147483648) (I:Bool->OS S):zC k s I=I (awR s.data.toList):=by
 simp only [zC,IY]
 have:=afb hk I hs s.data.toList [] k rfl (by grind [rN])
 exact this
theorem qY (n:Nat):(((n:Nat):Int)==0)=decide (n=0):=by grind
theorem aff (hk:Fu k) (I:Bool->OS S) {t:Tm} {dims:Int} (hd:0<=dims) (j:dims<9223372036854775808) (hs: ∀b∈t.sys,aq b.face/\b.face.length<1073741824) (hlen:t.sys.length<1073741824):
  ∀ (r p:LB) (m:Nat),t.sys=p++r->r.length<m->kO k I t dims m (p.length:Int)=I (r.all (bX t.kind dims)&&decide (t.r.length=0)):=by
 intro r
 induction r with
 |nil=>
  grind [amr,kO,yl,n3,qY]
 |cons x r A=>
  intro p m h B
  obtain ⟨m,rfl,q⟩:=amr B
  obtain ⟨E,F,J,L⟩:=apy h (by omega)
  have z:=hs x (by grind)
  have hb:((x.kids.length:Int)==cz t.kind)=decide ((x.kids.length:Int)=cz t.kind):=by rfl
  simp only [kO,yl,E,ae,F,sf,ag hk,Q8,Hb hk z.1 (show x.face.length<2147483648 by omega),RZ hk z.1 (show x.face.length<4294967296 by omega) hd j,J,A (p++[x]) m L q,List.all_cons,hb]
  grind [bX,decide,Int,cV,ae,n3]
theorem aj4 {S:Type} (b c:Bool) (I:Bool->OS S):ab b (I c) (I false)=I (b&&c):=by
 cases b<;>rfl
def om (vars dims:Int) (t:Tm):Bool:=
 if t.kind=1 then decide (t.r.length=0)&&(decide (0<=t.n)&&decide (vars<0\/t.n<vars))
   else if t.kind=2 then decide (t.r.length=0)&&awR t.name.data.toList
   else if t.kind=13\/t.kind=21\/t.kind=26 then ary t.r&&dg t.r dims
   else if t.kind=14 then cV t.r&&dg t.r dims
   else t.sys.all (bX t.kind dims)&&decide (t.r.length=0)
theorem NY (vars dims:Int) (t:Tm):cL vars dims t=((decide (ct t.kind=t.kids.length)&&(decide (t.kind=1\/t.n=0)&&(decide (t.kind=2\/t.name.size=0)&&decide (cz t.kind=0->t.sys.length=0))))&&om vars dims t):=by
 cases t;rfl
def Zm (t:Tm):Prop:=aG t.kind/\aG t.n/\t.name.size<1073741824/\aq t.r/\t.r.length<1073741824/\t.kids.length<1073741824/\t.sys.length<1073741824
theorem OkT.no {t:Tm} (h:OkT t):Zm t:=by cases t;exact h.node
theorem OkT.ki {t x:Tm} (h:OkT t) (j:x∈t.kids):OkT x:=by cases t;exact h.kid j
theorem OkT.bi {t:Tm} {b:Br Tm} (h:OkT t) (hb:b∈t.sys):(aq b.face/\b.face.length<1073741824/\b.kids.length<1073741824)/\ ∀t∈b.kids,OkT t:=by cases t;exact h.br hb
theorem aju (hk:Fu k) {t:Tm} (A:OkT t) {vars dims:Int} (hd:0<=dims) (x:dims<9223372036854775808) (I:Bool->OS S):Ar k I t vars dims k=I (om vars dims t):=by
 obtain ⟨F,J,L,z,M,O,B⟩:=A.no
 have hb:=fun b hb=>(A.bi (b:=b) hb).1
 obtain ⟨q,E⟩: ∃q,k=q+1:=⟨k-1,by omega⟩
 have: ∀j,j=q+1->Ar k I t vars dims j=tw k I t vars dims (fun v109=>kO k I t dims k v109):=by rintro j rfl;rfl
 rw [this k E]
 have hl:=aff hk I hd x (fun b h=>⟨(hb b h).1,(hb b h).2.1⟩) B t.sys [] k rfl (by omega)
 have hl:kO k I t dims k 0=_:=hl
 simp only [tw,ag hk,ajo hk (show t.name.size<2147483648 by omega),rH hk z (show t.r.length<2147483648 by omega),Hb hk z (show t.r.length<2147483648 by omega),RZ hk z (show t.r.length<4294967296 by omega) hd x,hl,qY,aj4]
 grind [cH,om]
theorem ajt (hk:Fu k) {t:Tm} (j:OkT t) {vars dims:Int} (hd:0<=dims) (h:dims<9223372036854775808) (I:Bool->OS S):uj k t vars dims I=I (cL vars dims t):=by
 have q:(ct t.kind==(t.kids.length:Int))=decide (ct t.kind=t.kids.length):=by rfl
 have hp:(cz t.kind==0)=decide (cz t.kind=0):=bG _
 simp only [uj,IZ,ag hk,aiR,Q8,aju hk j hd h,FO,q,hp,bG,NY]
 have x:ab (decide (cz t.kind=0)) (ab (decide (((t.sys.length:Nat):Int)>0)) (I false) (I (om vars dims t))) (I (om vars dims t))=I (decide (cz t.kind=0->t.sys.length=0)&&om vars dims t):=by
  rw [aY,aY]
  by_cases h1:cz t.kind=0
  ·rw [if_pos h1]
   by_cases h2:t.sys.length=0<;>grind
  grind
 grind [ae,n3,decide_eq_false]
abbrev Fd (k n:Nat):Prop:=4294967296+n<=k
theorem Fd.fu {n:Nat} (h:Fd k n):Fu k:=by omega
theorem Fd.pos {n:Nat} (h:Fd k n): ∃q,k=q+1/\ ∀j,j+1<=n->Fd q j:=⟨k-1,by omega,fun j hj=>by omega⟩
theorem Fd.pos' {n:Nat} (h:Fd k n) (hn:1<=n): ∃q,k=q+1/\Fu q/\ ∀j,j+1<=n->Fd q j:=⟨k-1,by omega,by omega,fun j hj=>by omega⟩
theorem alF (t:Tm):1<=am t:=by cases t;rw [am];omega
theorem pF (t:Tm):am t=max (aH t.kids) (aO t.sys)+1:=by cases t;rfl
theorem rM (t:Tm):au t=1+ay t.kids+aI t.sys:=by cases t;rfl
theorem bY {t x:Tm} (h:x∈t.kids):am x+1<=am t:=by rw [pF t];have:=D0 h;omega
theorem b8 {t:Tm} {b:Br Tm} {x:Tm} (hb:b∈t.sys) (h:x∈b.kids):am x+1<=am t:=by rw [pF t];have:=D0 h;have:=JP hb;omega
theorem c7 {Q:Tm->Prop} (h: ∀t,(∀x∈t.kids,Q x)->(∀b∈t.sys,∀x∈b.kids,Q x)->Q t) (t:Tm):Q t:=gq (fun kd n j r q sys h1 h2=>h (.mk kd n j r q sys) h1 h2) t
theorem aDj {α:Type} (b c:Bool) (x y:α):ab (!b) y (if c then x else y)=if b&&c then x else y:=by cases b<;>cases c<;>rfl
theorem kY {S:Type} (b c:Bool) (I:Bool->OS S):ab (!b) (I false) (I c)=I (b&&c):=by cases b<;>rfl
theorem aaf {n:Int} (h1: -9223372036854775808<=n) (h2:n<9223372036854775808):su .i64 n=n:=alX h1 h2
section
variable {hd:Tm->Int->(Bool->OS S)->OS S} {c0:Int} {t:Tm} {Q:Tm->Bool}
theorem aeL (hk:Fu k) (I:Bool->OS S) (j:Int->Int->OS S) (hc: -9223372036854775807<=c0) (z:c0<9223372036854775808) {v more:Int} {x:Br Tm} (A: ∀y∈x.kids,∀g,hd y (c0-1) g=g (Q y)) (hl:x.kids.length<1073741824):
  ∀ (r p:LT) (m:Nat),x.kids=p++r->r.length<m->anh hd k I j c0 t v x more m (p.length:Int)=if r.all Q then j (su .i64 (v+1)) more else I false:=by
 intro r
 induction r with
 |nil=>
  grind [amr,anh,yi,n3]
 |cons y r B=>
  intro p m h E
  obtain ⟨m,rfl,q⟩:=amr E
  obtain ⟨F,J,L,M⟩:=apy h (by omega)
  have O:=A y (by grind)
  simp only [anh,yi,F,ae,J,sf,ag hk,uk,ar,aaf (show-9223372036854775808<=c0-1 by omega) (by omega),O,L,B (p++[y]) m M q,aDj]
  rfl
theorem aeK (hk:Fu k) (I:Bool->OS S) (hc: -9223372036854775807<=c0) (j:c0<9223372036854775808) {more:Int} (E: ∀b∈t.sys,∀y∈b.kids,∀g,hd y (c0-1) g=g (Q y)) (hl:t.sys.length<1073741824) (q: ∀b∈t.sys,b.kids.length<1073741824):
  ∀ (r p:LB) (m:Nat),t.sys=p++r->r.length<m->jp hd k I c0 t m (p.length:Int) more=I (r.all fun b=>b.kids.all Q):=by
 intro r
 induction r with
 |nil=>
  grind [amr,jp,tp,n3]
 |cons x r F=>
  intro p m h J
  obtain ⟨m,rfl,z⟩:=amr J
  obtain ⟨L,M,O,T⟩:=apy h (by omega)
  have B:x∈t.sys:=by grind
  have A:=q x B
  have:=aeL (t:=t) hk I (jp hd k I c0 t m) (v:=(p.length:Int)) (more:=more) hc j (E x B) A x.kids [] k rfl (by omega)
  simp only [jp,tp,L,ae,M,sf,List.all_cons]
  refine alQ this ?_
  rw [O,F (p++[x]) m T z]
  cases x.kids.all Q<;>rfl
theorem aeJ (hk:Fu k) (I:Bool->OS S) (hc: -9223372036854775807<=c0) (q:c0<9223372036854775808) (B: ∀y∈t.kids,∀g,hd y (c0-1) g=g (Q y)) (x: ∀b∈t.sys,∀y∈b.kids,∀g,hd y (c0-1) g=g (Q y)) (A:OkT t):
  ∀ (r p:LT) (m:Nat),t.kids=p++r->r.length<m->qS hd k I c0 t m (p.length:Int)=I (r.all Q&&t.sys.all fun b=>b.kids.all Q):=by
 obtain ⟨W,Y,o3,o4,o5,o6,E⟩:=A.no
 intro r
 induction r with
 |nil=>
  intro p m h z
  obtain ⟨m,rfl,j⟩:=amr z
  have hs: ∀more:Int,jp hd k I c0 t k 0 more=_:=fun more=>aeK hk I hc q (more:=more) x E (fun b hb=>(A.bi hb).1.2.2) t.sys [] k rfl (by omega)
  simp only [qS,tn,akb h,n3,hs]
  cases (t.kind==15)<;>rfl
 |cons y r F=>
  intro p m h z
  obtain ⟨m,rfl,j⟩:=amr z
  obtain ⟨J,L,M,O⟩:=apy h (by omega)
  have T:=B y (by grind)
  simp only [qS,tn,J,ae,L,sf,ag hk,jE,uk,ar,aaf (show-9223372036854775808<=c0-1 by omega) (by omega),T,M,F (p++[y]) m O j,kY,List.all_cons,Bool.and_assoc]
end
theorem JN {n:Int} (hn:0<=n): ∀ {l:LT},(l.all fun x=>decide ((am x:Int)<=n))=decide ((aH l:Int)<=n):=by
 intro l
 induction l<;>grind [aH]
theorem aah {n:Int} (hn:0<=n): ∀ {l:LB},(l.all fun b=>b.kids.all fun x=>decide ((am x:Int)<=n))=decide ((aO l:Int)<=n):=by
 intro l
 induction l with
 |nil=>rw [aO];simp [hn]
 |cons b l h=>rw [List.all_cons,h,JN hn,aO,pD,Bool.eq_iff_iff];grind
theorem ajY (t:Tm):OkT t-> ∀ {k:Nat} {left:Int} (I:Bool->OS S),Fd k (am t)-> -4611686018427387904<=left->left<4611686018427387904->jf k t left I=I (decide ((am t:Int)<=left)):=by
 induction t using c7 with
 |h t z A=>
  intro x k left I hk h1 h2
  obtain ⟨q,rfl,E,hf⟩:=hk.pos' (alF t)
  simp only [jf,TV,aY,ar,ag E]
  by_cases F:left>0
  ·rw [if_pos F]
   have J: ∀y∈t.kids,∀g:Bool->OS S,jf q y (left-1) g=g (decide ((am y:Int)<=left-1)):=fun y j g=>z y j (x.ki j) g (hf _ (bY j)) (by omega) (by omega)
   have B: ∀b∈t.sys,∀y∈b.kids,∀g:Bool->OS S,jf q y (left-1) g=g (decide ((am y:Int)<=left-1)):=fun b hb y j g=>A b hb y j ((x.bi hb).2 y j) g (hf _ (b8 hb j)) (by omega) (by omega)
   have:=aeJ (Q:=fun y=>decide ((am y:Int)<=left-1)) E I (by omega) (by omega) J B x t.kids [] q rfl (by have:=x.no.2.2.2.2.2.1;omega)
   simp only [DX,IV]
   refine alQ this ?_
   rw [JN (by omega),aah (by omega),pF]
   congr 1
   rw [Bool.eq_iff_iff];simp;omega
  grind [alF]
section
variable {hd:Tm->Int->(Bool×Int->OS S)->OS S} {t:Tm}
def rT (hd:Tm->Int->(Bool×Int->OS S)->OS S) (k:Nat) (y:Tm):Prop:= ∀ (c:Int) (g:Bool×Int->OS S),0<=c->c<4611686018427387904->
 ∃v,pB hd k y c g=g (decide ((au y:Int)<=c),v)/\((au y:Int)<=c->v=c-au y)
theorem aeI (hk:Fu k) (I:Bool×Int->OS S) (j:Int->Int->Int->OS S) {v more:Int} {x:Br Tm} (z: ∀y∈x.kids,rT hd k y) (hl:x.kids.length<1073741824):
  ∀ (r p:LT) (m:Nat) (c:Int),0<=c->c<4611686018427387904->x.kids=p++r->r.length<m->
  ((ay r:Int)<=c->kL hd k I j t v x more m c (p.length:Int)=j (c-ay r) (su .i64 (v+1)) more)/\(¬ (ay r:Int)<=c-> ∃w,kL hd k I j t v x more m c (p.length:Int)=I (false,w)):=by
 intro r
 induction r with
 |nil=>
  grind [amr,kL,yg,n3,ay]
 |cons y r W=>
  intro p m c A h1 h B
  obtain ⟨m,rfl,E⟩:=amr B
  obtain ⟨F,J,L,Y⟩:=apy h (by omega)
  have M:=z y (by grind)
  obtain ⟨w,O,T⟩:=M c (fun r1=>(fun q:Bool×Int=>ab (!q.1) (I (false,q.2)) (kL hd k I j t v x more m q.2 (((p++[y]).length:Nat):Int))) (r1.1,r1.2)) A h1
  simp only [kL,yg,F,ae,J,sf,ag hk,ul,ar,L,ay]
  rw [O]
  by_cases hs:(au y:Int)<=c
  ·grind [n3]
  grind [ae]
theorem aeH (hk:Fu k) (I:Bool×Int->OS S) {more:Int} (B: ∀b∈t.sys,∀y∈b.kids,rT hd k y) (hl:t.sys.length<1073741824) (j: ∀b∈t.sys,b.kids.length<1073741824):
  ∀ (r p:LB) (m:Nat) (c:Int),0<=c->c<4611686018427387904->t.sys=p++r->r.length<m->
  ((aI r:Int)<=c->atY hd k I t m c (p.length:Int) more=I (true,c-aI r))/\(¬ (aI r:Int)<=c-> ∃w,atY hd k I t m c (p.length:Int) more=I (false,w)):=by
 intro r
 induction r with
 |nil=>
  grind [amr,atY,tj,n3,aI]
 |cons x r E=>
  intro p m c F h1 h J
  obtain ⟨m,rfl,q⟩:=amr J
  obtain ⟨L,M,O,T⟩:=apy h (by omega)
  have A:x∈t.sys:=by grind
  have z:=j x A
  have:=aeI (t:=t) hk I (atY hd k I t m) (v:=(p.length:Int)) (more:=more) (B x A) z x.kids [] k c F h1 rfl (by omega)
  simp only [atY,tj,L,ae,M,sf,aI,kZ]
  obtain ⟨t1,t2⟩:=this
  rw [show (((([]:LT).length:Nat):Int))=0 from rfl] at t1 t2
  by_cases hs:(ay x.kids:Int)<=c
  ·obtain ⟨i1,i2⟩:=E (p++[x]) m (c-ay x.kids) (by omega) (by omega) T q
   rw [t1 hs,O]
   refine ⟨fun h=> ?_,fun h=>i2 (by omega)⟩
   rw [i1 (by omega),show c-(ay x.kids:Int)-(aI r:Int)=c-((ay x.kids+aI r:Nat):Int) by omega]
  ·exact ⟨fun h=>absurd (by omega) hs,fun _=>t2 hs⟩
theorem aeG (hk:Fu k) (I:Bool×Int->OS S) (J: ∀y∈t.kids,rT hd k y) (q: ∀b∈t.sys,∀y∈b.kids,rT hd k y) (F:OkT t):
  ∀ (r p:LT) (m:Nat) (c:Int),0<=c->c<4611686018427387904->t.kids=p++r->r.length<m->
  ∃w,nY hd k I t m c (p.length:Int)=I (decide (((ay r+aI t.sys:Nat):Int)<=c),w)/\(((ay r+aI t.sys:Nat):Int)<=c->w=c-((ay r+aI t.sys:Nat):Int)):=by
 obtain ⟨o1,o2,o3,o4,o5,o6,L⟩:=F.no
 intro r
 induction r with
 |nil=>
  intro p m c x h1 h z
  obtain ⟨m,rfl,j⟩:=amr z
  have hs: ∀more:Int,_:=fun more=>aeH hk I (more:=more) q L (fun b hb=>(F.bi hb).1.2.2) t.sys [] k c x h1 rfl (by omega)
  have key: ∀more:Int,∃w,atY hd k I t k c 0 more=I (decide (((aI t.sys:Nat):Int)<=c),w)/\(((aI t.sys:Nat):Int)<=c->w=c-((aI t.sys:Nat):Int)):=fun more=>by
   by_cases hc:(aI t.sys:Int)<=c
   ·simp_all
   ·obtain ⟨w,e⟩:=(hs more).2 hc
    grind
  have A:ay []+aI t.sys=aI t.sys:=by rw [ay,asW]
  rw [A]
  simp only [nY,ti,akb h,n3]
  cases (t.kind==15) with
  |true=>exact key 1
  |false=>exact key 0
 |cons y r M=>
  intro p m c x h1 h z
  obtain ⟨m,rfl,j⟩:=amr z
  obtain ⟨O,T,W,Y⟩:=apy h (by omega)
  have hy:=J y (by grind)
  obtain ⟨w,hw,B⟩:=hy c (fun r1=>(fun E:Bool×Int=>ab (!E.1) (I (false,E.2)) (nY hd k I t m E.2 (((p++[y]).length:Nat):Int))) (r1.1,r1.2)) x h1
  have A:ay (y::r)+aI t.sys=au y+ay r+aI t.sys:=by rw [ay]
  rw [A]
  simp only [nY,ti,O,ae,T,sf,ag hk,jE,ul,ar,W]
  rw [hw]
  by_cases hs:(au y:Int)<=c
  ·have:=B hs
   subst this
   obtain ⟨u,i1,i2⟩:=M (p++[y]) m (c-au y) (by omega) (by omega) Y j
   grind [n3]
  grind [ae,decide_eq_false]
end
theorem ai5 (t:Tm):OkT t-> ∀ {k:Nat} (c:Int) (I:Bool×Int->OS S),Fd k (am t)->0<=c->c<4611686018427387904->
  ∃w,atf k t c I=I (decide ((au t:Int)-1<=c),w)/\((au t:Int)-1<=c->w=c-((au t:Int)-1)):=by
 induction t using c7 with
 |h t A B=>
  intro z k c I hk h1 h2
  obtain ⟨q,rfl,F,hf⟩:=hk.pos' (alF t)
  have x: ∀y,(∀ {k:Nat} (c:Int) (I:Bool×Int->OS S),Fd k (am y)->0<=c->c<4611686018427387904-> ∃w,atf k y c I=I (decide ((au y:Int)-1<=c),w)/\((au y:Int)-1<=c->w=c-((au y:Int)-1)))->
    Fd q (am y)->rT (S:=S) (atf q) q y:=by
   intro y j E c g J h1
   simp only [pB,ar,aaf (show-9223372036854775808<=c-1 by omega) (by omega),aY]
   have:=mB y
   by_cases hc:c-1>=0
   ·rw [if_pos hc]
    obtain ⟨w,e,e'⟩:=j (c-1) (fun r1=>g (r1.1,r1.2)) E (by omega) (by omega)
    grind
   ·rw [if_neg hc]
    exact ⟨c-1,by grind,fun h=>by omega⟩
  obtain ⟨w,e,e'⟩:=aeG F I (fun y j=>x y (fun c I=>A y j (z.ki j) c I) (hf _ (bY j))) (fun b hb y j=>x y (fun c I=>B b hb y j ((z.bi hb).2 y j) c I) (hf _ (b8 hb j))) z t.kids [] q c h1 h2 rfl (by have:=z.no.2.2.2.2.2.1;omega)
  grind [atf,IT,rM]
theorem aj0 {t:Tm} (h:OkT t) (hk:Fd k (am t)) {most:Int} (j:0<most) (h1:most<4611686018427387904) (I:Bool->OS S):zE k t most I=I (decide ((au t:Int)<=most)):=by
 simp only [zE,ag hk.fu,pB,ar,aaf (show-9223372036854775808<=most-1 by omega) (by omega),aY]
 rw [if_pos (by omega)]
 obtain ⟨w,e,_⟩:=ai5 t h (most-1) (fun r1=>I (r1.1,r1.2).1) hk (by omega) (by omega)
 grind
def VW (vars dims:Int) (n:Nat):Prop:= -9223372036854775808<=vars/\vars<9223372036854775808/\0<=dims/\dims+n<4611686018427387904
section
variable {hd:Tm->Int->Int->Bool->(Bool->OS S)->OS S} {vars dims:Int} {bd:Bool} {t:Tm}
theorem Rc (hv:VW vars dims 1) {v d:Int} (h1:0<=v/\v<=1) (h2:0<=d/\d<=1) (y:Tm) (g:Bool->OS S):uh hd k y v d vars dims bd g=hd y (su .i64 (cQ vars v)) (dims+d) bd g:=by
 obtain ⟨v1,v2,v3,v4⟩:=hv
 simp only [uh,ar,aY,aaf (show-9223372036854775808<=dims+d by omega) (by omega)]
 unfold cQ
 split
 ·rw [Int.add_zero]
 ·rfl
theorem aeF (hk:Fu k) (I:Bool->OS S) (j:Int->Int->OS S) (hv:VW vars dims 1) {v more:Int} {x:Br Tm} (q:more=av t.kind) (A: ∀y∈x.kids,∀g,hd y vars (dims+more) bd g=g (aqp bd vars (dims+more) y)) (hl:x.kids.length<1073741824):
  ∀ (r p:LT) (m:Nat),x.kids=p++r->r.length<m->mi hd k I j vars dims bd t v x more m (p.length:Int)=if ca bd vars dims t.kind r then j (su .i64 (v+1)) more else I false:=by
 subst q
 intro r
 induction r with
 |nil=>
  intro p m h q
  obtain ⟨m,rfl,z⟩:=amr q
  simp only [mi,yh,akb h,n3];rfl
 |cons y r B=>
  intro p m h q
  obtain ⟨m,rfl,z⟩:=amr q
  obtain ⟨E,F,J,L⟩:=apy h (by omega)
  have M:=A y (by grind)
  have O:su .i64 (cQ vars 0)=vars:=by rw [show cQ vars 0=vars by grind [cQ]];exact aaf hv.1 hv.2.1
  simp only [mi,yh,E,ae,F,sf,ag hk,ar,Rc hv (show (0:Int)<=0/\(0:Int)<=1 by omega) (atj t.kind),O,M,J,B (p++[y]) m L z,aDj]
  rw [ca]
theorem aeE (hk:Fu k) (I:Bool->OS S) (hv:VW vars dims 1) {more:Int} (E:more=av t.kind) (F: ∀b∈t.sys,∀y∈b.kids,∀g,hd y vars (dims+more) bd g=g (aqp bd vars (dims+more) y)) (hl:t.sys.length<1073741824) (j: ∀b∈t.sys,b.kids.length<1073741824):
  ∀ (r p:LB) (m:Nat),t.sys=p++r->r.length<m->iC hd k I vars dims bd t m (p.length:Int) more=I (ck bd vars dims t.kind r):=by
 intro r
 induction r with
 |nil=>
  grind [amr,iC,tl,n3,ck]
 |cons x r J=>
  intro p m h q
  obtain ⟨m,rfl,z⟩:=amr q
  obtain ⟨L,M,O,T⟩:=apy h (by omega)
  have B:x∈t.sys:=by grind
  have A:=j x B
  have:=aeF (t:=t) (bd:=bd) hk I (iC hd k I vars dims bd t m) hv (v:=(p.length:Int)) E (F x B) A x.kids [] k rfl (by omega)
  have this:mi hd k I (iC hd k I vars dims bd t m) vars dims bd t (p.length:Int) x more k 0=_:=this
  simp only [iC,tl,L,ae,M,sf,this,O,J (p++[x]) m T z]
  have W:ck bd vars dims t.kind (x::r)=(ca bd vars dims t.kind x.kids&&ck bd vars dims t.kind r):=by cases x;rfl
  grind
theorem aeD (hk:Fu k) (I:Bool->OS S) (hv:VW vars dims 1) (E: ∀y∈t.kids,∀v d,0<=v/\v<=1->0<=d/\d<=1-> ∀g,hd y (su .i64 (cQ vars v)) (dims+d) bd g=g (aqp bd (cQ vars v) (dims+d) y)) (q: ∀b∈t.sys,∀y∈b.kids,∀g,hd y vars (dims+av t.kind) bd g=g (aqp bd vars (dims+av t.kind) y)) (z:OkT t):
  ∀ (r p:LT) (m:Nat),t.kids=p++r->r.length<m->nZ hd k I vars dims bd t m (p.length:Int)=I (bO bd vars dims t.kind p.length r&&ck bd vars dims t.kind t.sys):=by
 obtain ⟨Y,o2,o3,o4,o5,o6,F⟩:=z.no
 intro r
 induction r with
 |nil=>
  intro p m h x
  obtain ⟨m,rfl,j⟩:=amr x
  have hs:iC hd k I vars dims bd t k 0 (av t.kind)=_:=aeE hk I hv rfl q F (fun b hb=>(z.bi hb).1.2.2) t.sys [] k rfl (by omega)
  grind [nZ,tk,bO,av,cH]
 |cons y r J=>
  intro p m h x
  obtain ⟨m,rfl,j⟩:=amr x
  obtain ⟨L,M,O,T⟩:=apy h (by omega)
  have A:=g7 t.kind p.length
  have B:=gr t.kind p.length
  have W:=E y (by grind) (arJ t.kind p.length) (bJ t.kind p.length) A B
  simp only [nZ,tk,L,ae,M,sf,ag hk,jE,ar,Rc hv A B,W,O,J (p++[y]) m T j,kY]
  grind [bO]
end
theorem wI (bd:Bool) (vars dims:Int) (t:Tm):aqp bd vars dims t=(!(bd&&decide (dims>24))&&(cL vars dims t&&(bO bd vars dims t.kind 0 t.kids&&ck bd vars dims t.kind t.sys))):=by cases t;rfl
theorem Uf {vars v:Int} (h:0<=v/\v<=1):vars<=cQ vars v/\cQ vars v<=vars+1:=by grind [cQ]
theorem Zv {bd:Bool} (t:Tm):OkT t-> ∀ {V W D:Int},W<0->9223372036854775808<=V->aqp bd W D t=aqp bd V D t:=by
 induction t using gq with
 |h kd n F r I sys A B=>
  intro j V W D J L
  have ho:=j
  rw [OkT] at j
  obtain ⟨Y,M,o3,o4,o5,o6,o7⟩:=j.1
  have hk: ∀ {l:LT} {i:Nat},(∀x∈l,OkT x-> ∀ {V W D:Int},W<0->9223372036854775808<=V->aqp bd W D x=aqp bd V D x)->aZ l->bO bd W D kd i l=bO bd V D kd i l:=by
   intro l
   induction l with
   |nil=>intro i _ _;rw [bO,bO]
   |cons t l q=>
    intro i h hl
    rw [aZ] at hl
    have hb:=g7 kd i
    rw [bO,bO,q (fun x E=>h x (by simp [E])) hl.2,h t (by simp) hl.1 (W:=cQ W (arJ kd i)) (V:=cQ V (arJ kd i)) (by unfold cQ;split<;>omega) (by unfold cQ;split<;>omega)]
  have O: ∀ {l:LT},(∀x∈l,OkT x-> ∀ {V W D:Int},W<0->9223372036854775808<=V->aqp bd W D x=aqp bd V D x)->aZ l->ca bd W D kd l=ca bd V D kd l:=by
   intro l
   induction l with
   |nil=>intro _ _;rw [ca,ca]
   |cons t l q=>
    intro h hl
    rw [aZ] at hl
    rw [ca,ca,q (fun x E=>h x (by simp [E])) hl.2,h t (by simp) hl.1 J L]
  have hs: ∀ {l:LB},(∀b∈l,∀x∈b.kids,OkT x-> ∀ {V W D:Int},W<0->9223372036854775808<=V->aqp bd W D x=aqp bd V D x)->ba l->ck bd W D kd l=ck bd V D kd l:=by
   intro l
   induction l with
   |nil=>intro _ _;rw [ck,ck]
   |cons b l q=>
    intro h hl
    obtain ⟨f,z⟩:=b
    rw [ba,fc] at hl
    rw [ck,ck,jT,jT,q (fun b hb=>h b (by simp [hb])) hl.2,O (l:=z) (h ⟨f,z⟩ (by simp)) hl.1.2]
  have T:cL W D (.mk kd n F r I sys)=cL V D (.mk kd n F r I sys):=by
   unfold cL
   have:decide (W<0\/n<W)=decide (V<0\/n<V):=by
    have hn:n<9223372036854775808:=by unfold aG at M;omega
    rw [decide_eq_true (.inl J),decide_eq_true (.inr (by omega))]
   dsimp only
   rw [this]
  rw [aqp,aqp,T,hk A j.2.1,hs B j.2.2]
theorem aC5 (t:Tm):OkT t-> ∀ {k:Nat} {vars dims:Int} {bd:Bool} (I:Bool->OS S),Fd k (am t)->VW vars dims (am t)->ic k t vars dims bd I=I (aqp bd vars dims t):=by
 induction t using c7 with
 |h t z B=>
  intro x k vars dims bd I hk hv
  obtain ⟨q,rfl,E,hf⟩:=hk.pos' (alF t)
  have hp:=alF t
  have F:=hv
  unfold VW at F
  have J:VW vars dims 1:=by unfold VW;omega
  have W:=atj t.kind
  have O: ∀y∈t.kids,∀v d,0<=v/\v<=1->0<=d/\d<=1-> ∀g:Bool->OS S,ic q y (su .i64 (cQ vars v)) (dims+d) bd g=g (aqp bd (cQ vars v) (dims+d) y):=fun y j v d h1 h2 g=>by
   have hd:=bY j
   have T:=Uf (vars:=vars) h1
   by_cases L:cQ vars v<9223372036854775808
   ·rw [aaf (by omega) L]
    exact z y j (x.ki j) g (hf _ (bY j)) (by unfold VW;omega)
   ·have e:cQ vars v=9223372036854775808:=by omega
    rw [e,show su .i64 9223372036854775808= -9223372036854775808 from by decide,z y j (x.ki j) g (hf _ (bY j)) (by unfold VW;omega),Zv y (x.ki j) (by omega) (Int.le_refl _)]
  have M: ∀b∈t.sys,∀y∈b.kids,∀g:Bool->OS S,ic q y vars (dims+av t.kind) bd g=g (aqp bd vars (dims+av t.kind) y):=fun b hb y j g=>B b hb y j ((x.bi hb).2 y j) g (hf _ (b8 hb j)) (by
   have:=b8 hb j;unfold VW;omega)
  have:=aeD (bd:=bd) E I J O M x t.kids [] q rfl (by have:=x.no.2.2.2.2.2.1;omega)
  have this:nZ (ic q) q I vars dims bd t q 0=_:=this
  simp only [ic,TT,ar,ag E,ajt E x (show 0<=dims by omega) (show dims<9223372036854775808 by omega),zB,IU,this]
  rw [wI]
  cases bd with
  |true=>
   rw [ae,aY,Bool.true_and]
   by_cases A:dims>24
   ·grind
   ·rw [if_neg A,decide_eq_false A]
    cases cL vars dims t<;>rfl
  |false=>
   rw [n3]
   cases cL vars dims t<;>rfl
def VD (vars dims:Int) (n:Nat):Prop:= -4611686018427387904<=vars/\vars+n<4611686018427387904/\0<=dims/\dims+n<4611686018427387904
theorem ai1 (t:Tm) (h:OkT t) {k:Nat} {vars dims:Int} {bd:Bool} (I:Bool->OS S) (hk:Fd k (am t)) (hv:VD vars dims (am t)):ic k t vars dims bd I=I (aqp bd vars dims t):=
 aC5 t h I hk (by obtain ⟨v1,v2,v3,v4⟩:=hv;exact ⟨by omega,by omega,v3,v4⟩)
theorem ajZ {t:Tm} (h:OkT t) (hk:Fd k (am t)) (I:Int->OS S):zD k t I=I (if am t>200 then 62 else if au t>20000 then 221 else 0):=by
 simp only [zD,ar,ajY t h _ hk (show (-4611686018427387904:Int)<=200 by omega) (show (200:Int)<4611686018427387904 by omega),ag hk.fu,aj0 h hk (show (0:Int)<20000 by omega) (show (20000:Int)<4611686018427387904 by omega)]
 by_cases h1:am t>200
 ·rw [if_pos h1,decide_eq_false (by omega)];rfl
 ·rw [if_neg h1,decide_eq_true (by omega),aq6,n3]
  by_cases h2:au t>20000
  ·rw [if_pos h2,decide_eq_false (by omega)];rfl
  ·rw [if_neg h2,decide_eq_true (by omega)];rfl
theorem amv {t:Tm} (h:OkT t) (hk:Fd k (am t)) (j:am t<1099511627776) (I:Int->OS S):asi k t I=I (bw t):=by
 simp only [asi,ar,ag hk.fu,ajZ h hk,ai1 t h _ hk (show VD (-1) 24 (am t) by unfold VD;omega),bG]
 unfold bw
 by_cases h1:am t>200
 ·rw [if_pos h1,if_pos h1];rfl
 ·rw [if_neg h1,if_neg h1]
  by_cases h2:au t>20000
  ·rw [if_pos h2,if_pos h2];rfl
  ·rw [if_neg h2,if_neg h2,decide_eq_true rfl,aq6,n3]
   cases aqp false (-1) 24 t<;>rfl
theorem JO: ∀ {l:LT},(∀x∈l,am x<=au x)->aH l<=ay l:=by
 intro l
 induction l<;>grind [aH,ay]
theorem aai: ∀ {l:LB},(∀b∈l,∀x∈b.kids,am x<=au x)->aO l<=aI l:=by
 intro l
 induction l<;>grind [aO,aI,pD,kZ,JO]
theorem zG (t:Tm):am t<=au t:=by
 induction t using c7<;>grind [pF,rM,JO,aai]
section
variable {hd:Tm->(Int->OS S)->OS S} {t:Tm}
end
section
variable {hd:Tm->(Int->OS S)->OS S} {t:Tm}
end
section
variable {hd:Tm->Int->Int->Bool->(Bool->OS S)->OS S} {vars dims:Int} {bd:Bool} {t:Tm}
end
theorem af2 (hk:Fu k) (I:Bool->OS S) {l:LC} (hlen:l.length<2147483648):
  ∀ (r p:LC) (m:Nat),l=p++r->r.length<m->ky k I l l m (p.length:Int)=I true:=by
 intro r
 induction r with
 |nil=>
  grind [amr,ky,oT,n3]
 |cons x r z=>
  intro p m h j
  obtain ⟨m,rfl,q⟩:=amr j
  obtain ⟨A,B,E,F⟩:=apy h (by omega)
  grind [ky,oT,ae,n3]
theorem RT (hk:Fu k) {l:LC} (hlen:l.length<2147483648) (I:Bool->OS S):jY k l l I=I true:=by
 simp only [jY,BV,beq_self_eq_true,aq6,n3]
 exact af2 hk I hlen l [] k rfl (by omega)
section
variable {hd:Tm->Tm->(Bool->OS S)->OS S}
theorem ae6 (hk:Fu k) (I:Bool->OS S) {l:LT} (hlen:l.length<2147483648) (z: ∀y∈l,∀g,hd y y g=g true):
  ∀ (r p:LT) (m:Nat),l=p++r->r.length<m->qH hd k I l l m (p.length:Int)=I true:=by
 intro r
 induction r with
 |nil=>
  grind [amr,qH,xQ,n3]
 |cons x r A=>
  intro p m h j
  obtain ⟨m,rfl,q⟩:=amr j
  obtain ⟨B,E,F,J⟩:=apy h (by omega)
  grind [qH,xQ,ae,ar,n3]
theorem Rs (hk:Fu k) (I:Bool->OS S) {l:LT} (hlen:l.length<2147483648) (h: ∀y∈l,∀g,hd y y g=g true):tX hd k l l I=I true:=by
 simp only [tX,It,beq_self_eq_true,aq6,n3]
 exact ae6 hk I hlen h l [] k rfl (by omega)
theorem afs (hk:Fu k) (I:Bool->OS S) {t:Tm} (q:OkT t) (A: ∀b∈t.sys,∀y∈b.kids,∀g,hd y y g=g true):
  ∀ (r p:LB) (m:Nat),t.sys=p++r->r.length<m->av1 hd k I t t m (p.length:Int)=I true:=by
 obtain ⟨O,T,W,Y,o5,o6,o7⟩:=q.no
 intro r
 induction r with
 |nil=>
  grind [amr,av1,xO,n3]
 |cons x r B=>
  intro p m h E
  obtain ⟨m,rfl,j⟩:=amr E
  obtain ⟨F,J,L,M⟩:=apy h (by omega)
  have z:x∈t.sys:=by grind
  have hb:=(q.bi z).1
  simp only [av1,xO,F,ae,J,sf,ag hk,RT hk (show x.face.length<2147483648 by omega),Rs hk _ (show x.kids.length<2147483648 by omega) (A x z),L,B (p++[x]) m M j,aq6,n3]
end
theorem RQ (t:Tm):OkT t-> ∀ {k:Nat} (I:Bool->OS S),Fd k (am t)->d8 k t t I=I true:=by
 induction t using c7 with
 |h t z A=>
  intro x k I hk
  obtain ⟨q,rfl,E,hf⟩:=hk.pos' (alF t)
  obtain ⟨F,J,L,M,O,T,W⟩:=x.no
  have Y: ∀y∈t.kids,∀g:Bool->OS S,d8 q y y g=g true:=fun y j g=>z y j (x.ki j) g (hf _ (bY j))
  have B: ∀b∈t.sys,∀y∈b.kids,∀g:Bool->OS S,d8 q y y g=g true:=fun b hb y j g=>A b hb y j ((x.bi hb).2 y j) g (hf _ (b8 hb j))
  have:=afs E I x B t.sys [] q rfl (by omega)
  grind [d8,Jq,Ir,n3,ag,RT,Rs]
section
variable {hd:Tm->Int->(Int->OS S)->OS S} {t:Tm}
end
def pE {α:Type}:Except Int α->Pan Int α
 | .ok a=> .ok a
 | .error e=> .pan e
def eE {α β:Type} (x:Except Int α) (f:α->β) (g:Int->β):β:=match x with
 | .ok a=>f a
 | .error e=>g e
theorem ij {α β:Type} (x:Except Int α) (f:α->β) (g:Int->β):Pan.elim (pE x) f g=eE x f g:=by cases x<;>rfl
theorem AS {α β γ:Type} (x:Except Int α) (f:α->Except Int β) (u:β->γ) (w:Int->γ):eE (bE x f) u w=eE x (fun a=>eE (f a) u w) w:=by cases x<;>rfl
theorem aP {α β:Type} (a:α) (f:α->β) (g:Int->β):eE (.ok a) f g=f a:=rfl
theorem Qx {α:Type} (x:Except Int α) (I:Pan Int α->OS S):I (pE x)=eE x (fun a=>I (.ok a)) fun e=>I (.pan e):=by cases x<;>rfl
def noT:Tm:= .mk 0 0 alH [] [] []
def tE:Except Int Tm->Tm×Int
 | .ok t=>(t,0)
 | .error e=>(noT,e)
theorem ad3 {α β:Type} {x:Except Int α} {f j:α->β} {g g':Int->β} (h: ∀a,x= .ok a->f a=j a) (h': ∀e,x= .error e->g e=g' e):eE x f g=eE x j g':=by
 cases x with
 |ok a=>exact h a rfl
 |error e=>exact h' e rfl
theorem Ru (hk:Fu k) {a b d:Int} {f:LC} (hf:aq f) (hl:f.length<1073741824) (hd:aG d) (hb:aG b) (I:Pan Int (LC)->OS S):tN k a b f d I=I (pE (alN d b f)):=by
 simp only [tN,ag hk,vX hk hf hl hd hb,bG,aY,J5 (show 0+f.length<=1099511627776 by omega)]
 unfold alN
 by_cases h:b=0
 ·rw [if_pos h,if_pos (.inl h)];rfl
 ·rw [if_neg h]
  by_cases h1:d>=24
  ·rw [if_pos h1,if_pos (.inr h1)];rfl
  ·rw [if_neg h1,if_neg (show ¬ (b=0\/d>=24) by omega)]
   by_cases h2:(agS f d b).2=0
   ·rw [decide_eq_true h2,jF h2];rfl
   ·rw [decide_eq_false h2,iO h2];rfl
section
variable {hd:Int->Int->Tm->Int->Int->(Pan Int Tm->OS S)->OS S} {vb db v d:Int} {t:Tm}
theorem ae5 (hk:Fu k) (I:Pan Int Tm->OS S) (j:LB->Int->Int->OS S) {r12 r2:LC} {b1 v90:Int} {ks:LT} {o:LB} {x:Br Tm} {more:Int} (q:more=av t.kind)
  (A:0<=d/\d<4611686018427387904) (B: ∀y∈x.kids,∀g,hd vb db y v (d+more) g=g (pE (acr vb db v (d+more) y))) (hl:x.kids.length<1073741824) (ho:o.length<1073741824):
  ∀ (r p:LT) (m:Nat) (acc:LT),x.kids=p++r->r.length<m->acc.length=p.length->
  l7 hd k I j r12 vb db t b1 r2 ks o x more v d v90 m acc (p.length:Int)=eE (alP vb db v d t.kind r) (fun l=>j (o++[⟨r12,acc++l⟩]) more (su .i64 (v90+1))) fun e=>I (.pan e):=by
 subst q
 have E:=atj t.kind
 intro r
 induction r with
 |nil=>
  grind [amr,l7,xe,n3,alP,aP,J5]
 |cons y r F=>
  intro p m acc h q ha
  obtain ⟨m,rfl,z⟩:=amr q
  obtain ⟨J,L,M,O⟩:=apy h (by omega)
  have T:p.length<x.kids.length:=by grind
  have W:=B y (by grind)
  simp only [l7,xe,J,ae,L,sf,ar,aaf (n:=d+av t.kind) (by omega) (by omega),W,ij,alP,AS,aP]
  refine ad3 (fun Y ad=> ?_) fun e _=>rfl
  rw [J5 (by grind),M,F (p++[y]) m (acc++[Y]) O z (by grind)]
  simp
theorem ae4 (hk:Fu k) (I:Pan Int Tm->OS S) {r2:LC} {b1:Int} {ks:LT} {more:Int} (L:more=av t.kind) (F:OkT t) (q:aG db) (z:0<=d/\d<4611686018427387904)
  (M: ∀b∈t.sys,∀y∈b.kids,∀g,hd vb db y v (d+more) g=g (pE (acr vb db v (d+more) y))):
  ∀ (r p:LB) (m:Nat) (o:LB),t.sys=p++r->r.length<m->o.length=p.length->
  atX hd k I vb db t b1 r2 ks v d m o more (p.length:Int)=eE (alT vb db v d t.kind r) (fun l=>I (.ok (.mk t.kind b1 t.name r2 ks (o++l)))) fun e=>I (.pan e):=by
 obtain ⟨o1,o2,o3,o4,o5,o6,o7⟩:=F.no
 intro r
 induction r with
 |nil=>
  grind [amr,atX,sA,n3,alT,aP]
 |cons x r O=>
  intro p m o h A ho
  obtain ⟨m,rfl,B⟩:=amr A
  obtain ⟨T,W,Y,e4⟩:=apy h (by omega)
  have J:x∈t.sys:=by grind
  have ad:p.length<t.sys.length:=by grind
  have hb:=(F.bi J).1
  have hrow:=Ru (S:=S) hk (a:=vb) hb.1 hb.2.1 (show aG d by unfold aG;omega) q
  have:=fun r12=>ae5 hk I (atX hd k I vb db t b1 r2 ks v d m) (r12:=r12) (r2:=r2) (b1:=b1) (v90:=(p.length:Int)) (ks:=ks) (o:=o) L z (M x J) hb.2.2 (by omega) x.kids [] k [] rfl (by omega) rfl
  have this: ∀r12,l7 hd k I (atX hd k I vb db t b1 r2 ks v d m) r12 vb db t b1 r2 ks o x more v d (p.length:Int) k [] 0=_:=this
  have hB:n8 vb db v d t.kind x=bE (alN d db x.face) fun E=>bE (alP vb db v d t.kind x.kids) fun j=> .ok (.mk E j):=by cases x;rfl
  simp only [atX,sA,T,ae,W,sf,ag hk,hrow,ij,this,alT,hB,AS,aP,as2,Y]
  refine ad3 (fun E _=>ad3 (fun j _=> ?_) fun e _=>rfl) fun e _=>rfl
  rw [O (p++[x]) m (o++[Br.mk E j]) e4 B (by grind)]
  simp
theorem ae3 (hk:Fu k) (I:Pan Int Tm->OS S) {r2:LC} {b1:Int} (F:OkT t) (q:aG db) (x:0<=d/\d<4611686018427387904) (J:0<=v/\v<4611686018427387904)
  (L: ∀y∈t.kids,∀a b,0<=a/\a<=1->0<=b/\b<=1-> ∀g,hd vb db y (v+a) (d+b) g=g (pE (acr vb db (v+a) (d+b) y))) (z: ∀b∈t.sys,∀y∈b.kids,∀g,hd vb db y v (d+av t.kind) g=g (pE (acr vb db v (d+av t.kind) y))):
  ∀ (r p:LT) (m:Nat) (acc:LT),t.kids=p++r->r.length<m->acc.length=p.length->
  auw hd k I vb db t b1 r2 v d m acc (p.length:Int)=eE (dm vb db v d t.kind p.length r) (fun l=>eE (alT vb db v d t.kind t.sys) (fun s=>I (.ok (.mk t.kind b1 t.name r2 (acc++l) s))) fun e=>I (.pan e)) fun e=>I (.pan e):=by
 obtain ⟨o1,o2,o3,o4,o5,o6,o7⟩:=F.no
 intro r
 induction r with
 |nil=>
  intro p m acc h A ha
  obtain ⟨m,rfl,j⟩:=amr A
  have hs:atX hd k I vb db t b1 r2 acc v d k [] (av t.kind) 0=_:=ae4 hk I rfl F q x z t.sys [] k [] rfl (by omega) rfl
  grind [auw,sz,dm,aP,cH,av]
 |cons y r M=>
  intro p m acc h A ha
  obtain ⟨m,rfl,j⟩:=amr A
  obtain ⟨O,T,W,Y⟩:=apy h (by omega)
  have ad:p.length<t.kids.length:=by grind
  have B:=g7 t.kind p.length
  have E:=gr t.kind p.length
  have hy:=L y (by grind) (arJ t.kind p.length) (bJ t.kind p.length) B E
  simp only [auw,sz,O,ae,T,sf,ag hk,jE,ar,aaf (n:=v+arJ t.kind p.length) (by omega) (by omega),aaf (n:=d+bJ t.kind p.length) (by omega) (by omega),hy,ij,dm,AS,aP]
  refine ad3 (fun t' ao=> ?_) fun e _=>rfl
  rw [J5 (by grind),W,M (p++[y]) m (acc++[t']) Y j (by grind),show (p++[y]).length=p.length+1 by simp]
  simp
end
theorem Fh (vb db v d:Int) (t:Tm):acr vb db v d t=if t.kind=1/\t.n>=v/\t.n>1000000000-vb then .error 100 else bE (alN d db t.r) fun q=>bE (dm vb db v d t.kind 0 t.kids) fun j=>bE (alT vb db v d t.kind t.sys) fun h=> .ok (.mk t.kind (if t.kind=1/\t.n>=v then t.n+vb else t.n) t.name q j h):=by cases t;rfl
theorem RowsT.no {t:Tm} (h:RowsT t):RF t.r/\(t.kind=1->t.r=[])/\0<=t.kind:=by cases t;rw [RowsT] at h;exact h.1
theorem RowsT.ki {t x:Tm} (h:RowsT t) (j:x∈t.kids):RowsT x:=by cases t;rw [RowsT] at h;exact rowsK_iff.1 h.2.1 x j
theorem RowsT.bi {t:Tm} {b:Br Tm} (h:RowsT t) (hb:b∈t.sys):RF b.face/\ ∀x∈b.kids,RowsT x:=by cases t;rw [RowsT] at h;exact rowsS_iff.1 h.2.2 b hb
def VP (v d:Int) (n:Nat):Prop:=0<=v/\v+n<4611686018427387904/\0<=d/\d+n<4611686018427387904
theorem ayF {vb db:Int} (T:0<=vb/\vb<=1000000000) (A:aG db) (t:Tm):OkT t->RowsT t-> ∀ {k:Nat} {v d:Int} (I:Pan Int Tm->OS S),Fd k (am t)->VP v d (am t)->dk k vb db t v d I=I (pE (acr vb db v d t)):=by
 induction t using c7 with
 |h t E F=>
  intro B z k v d I hk hv
  obtain ⟨q,rfl,J,hf⟩:=hk.pos' (alF t)
  obtain ⟨L,W⟩: ∃L,q=L+1:=⟨q-1,by omega⟩
  have hp:=alF t
  unfold VP at hv
  obtain ⟨o1,Y,o3,o4,o5,o6,o7⟩:=B.no
  have ad:=atj t.kind
  have hQ: ∀y∈t.kids,∀a b,0<=a/\a<=1->0<=b/\b<=1-> ∀g:Pan Int Tm->OS S,dk q vb db y (v+a) (d+b) g=g (pE (acr vb db (v+a) (d+b) y)):=fun y x a b h1 h2 g=>
   E y x (B.ki x) (z.ki x) g (hf _ (bY x)) (by have:=bY x;unfold VP;omega)
  have M: ∀b∈t.sys,∀y∈b.kids,∀g:Pan Int Tm->OS S,dk q vb db y v (d+av t.kind) g=g (pE (acr vb db v (d+av t.kind) y)):=fun b hb y x g=>
   F b hb y x ((B.bi hb).2 y x) ((z.bi hb).2 y x) g (hf _ (b8 hb x)) (by have:=b8 hb x;unfold VP;omega)
  have h1:=fun r2 b1=>ae3 (r2:=r2) (b1:=b1) J I B A (show 0<=d/\d<4611686018427387904 by omega) (show 0<=v/\v<4611686018427387904 by omega) hQ M t.kids [] q [] rfl (by omega) rfl
  have h0: ∀r2 b1,uJ (dk q) q I vb db t r2 v d q b1=auw (dk q) q I vb db t b1 r2 v d q [] 0:=by
   intro r2 b1
   have: ∀j,j=L+1->uJ (dk q) q I vb db t r2 v d j b1=auw (dk q) q I vb db t b1 r2 v d q [] 0:=by rintro j rfl;rfl
   grind
  have h2: ∀r2 b1,uJ (dk q) q I vb db t r2 v d q b1=_:=fun r2 b1=>(h0 r2 b1).trans (h1 r2 b1)
  have hrow:=Ru (S:=S) J (a:=vb) o4 o5 (show aG d by unfold aG;omega) A
  simp only [dk,HY,ag J,hrow,ij,h2,List.length_nil,as2]
  rw [Qx _ I,Fh]
  unfold aG at Y
  by_cases hc:t.kind=1
  ·have hr:=z.no.2.1 hc
   rw [hr,Bt,aP,hc,show ((1:Int)==1)=true from rfl,ae,aY]
   by_cases hn:t.n>=v
   ·rw [if_pos hn,aaf (n:=1000000000-vb) (by omega) (by omega),aY]
    by_cases hb:t.n>1000000000-vb
    ·rw [if_pos hb,if_pos (show (1:Int)=1/\t.n>=v/\t.n>1000000000-vb from ⟨rfl,hn,hb⟩)];rfl
    grind [AS,aaf,aP]
   grind [AS,aP]
  ·have O:(t.kind==1)=false:=by grind
   rw [O,if_neg (show ¬ (t.kind=1/\t.n>=v/\t.n>1000000000-vb) from fun h=>hc h.1)]
   simp_all [n3,AS,aP]
section
variable {hd:Tm->Int->Int->Int->Int->(Tm->OS S)->OS S} {vb db v d:Int} {t:Tm}
theorem wx {z:LC×Int} {α:Type} (f:LC->α) (g:Int->α):ab (!(z.2==0)) (g z.2) (f z.1)=eE (NF z) f g:=by
 rw [bG]
 unfold NF
 by_cases h:z.2=0
 ·rw [decide_eq_true h,if_pos h];rfl
 ·rw [decide_eq_false h,if_neg h];rfl
end
theorem eU {t:Tm} (h:bw t=0):am t<=200/\au t<=20000/\aqp false (-1) 24 t=true:=by
 grind [bw]
theorem pS {t:Tm} (h1:am t<=200) (h2:au t<=20000) (h:aqp false (-1) 24 t=true):bw t=0:=by
 grind [bw]
theorem Et (t:Tm):0<=bw t/\bw t<=1000:=by
 grind [bw]
def Fm (t:Tm):Prop:=OkT t/\bw t=0
theorem Fm.ok {t:Tm} (h:Fm t):OkT t:=h.1
theorem Fm.rows {t:Tm} (h:Fm t):RowsT t:=ZA t h.1 (eU h.2).2.2
theorem Fm.dep {t:Tm} (h:Fm t):am t<=200:=(eU h.2).1
theorem Fm.siz {t:Tm} (h:Fm t):au t<=20000:=(eU h.2).2.1
theorem jr {vb db v d:Int} (j:0<=vb/\vb<=1000000000) {t t':Tm} (h:Fm t) (hl:acr vb db v d t= .ok t'):Fm t':=by
 obtain ⟨h1,h2,x,q⟩:=uP j.1 j.2 t v d t' hl
 obtain ⟨a,b,c⟩:=eU h.2
 have:=q h.1
 exact ⟨this.1,pS (by omega) (by omega) (this.2.2 24 24 (by omega) (by omega) c)⟩
abbrev F3 (k:Nat):Prop:=4294968296<=k
theorem F3.fu (h:F3 k):Fu k:=by omega
theorem F3.fd (h:F3 k) {n:Nat} (hn:n<=1000):Fd k n:=by omega
theorem Fm.fd {t:Tm} (h:Fm t) (hk:F3 k):Fd k (am t):=hk.fd (by have:=h.dep;omega)
theorem Fm.vp {t:Tm} (h:Fm t) {v d:Int} (hv:0<=v/\v<=4611686018427380000) (hd:0<=d/\d<=4611686018427380000):VP v d (am t):=by have:=h.dep;unfold VP;omega
theorem amt (x:Except Int Tm) (I:Tm×Int->OS S):I (tE x)=eE x (fun t=>I (t,0)) fun e=>I (noT,e):=by cases x<;>rfl
theorem aeU (hk:Fu k) (I:Tm×Int->OS S) {c0 c2:Int} {c1:Tm} {ns:List Int} (hl:ns.length<1000) (hn: ∀x∈ns,0<=x):
  ∀ (r p:List Int) (m:Nat),ns=p++r->r.length<m->nC k I c0 c1 c2 ns m (p.length:Int)=yX k c0 c1 c2 fun j=>Pan.elim j (fun j=>I (j,0)) fun A=>I (noT,A):=by
 intro r
 induction r with
 |nil=>
  intro p m h q
  obtain ⟨m,rfl,z⟩:=amr q
  simp only [nC,xa,akb h,n3,ag hk,ar];rfl
 |cons x r B=>
  intro p m h q
  obtain ⟨m,rfl,z⟩:=amr q
  obtain ⟨E,F,J,L⟩:=apy h (by omega)
  have M:=hn x (by grind)
  grind [nC,xa,aY]
theorem Rr (hk:F3 k) {t:Tm} (h:Fm t) {f b:Int} (hf:0<=f/\f<=24) (hb:0<=b/\b<9223372036854775808) (I:Tm×Int->OS S):lv k t f b I=I (tE (acr 0 b 0 f t)):=by
 have hl:=aeU hk.fu I (c0:=b) (c2:=f) (c1:=t) (ns:=[f,b]) (by simp) (by grind) [f,b] [] k rfl (by grind)
 have hl:nC k I b t f [f,b] k 0=_:=hl
 simp only [lv,ag hk.fu,ar,yZ,BQ,amv h.ok (h.fd hk) (show am t<1099511627776 by have:=h.dep;omega),h.2,hl,yX]
 rw [show ((0:Int)==0)=true from rfl,aq6,n3,if_neg (by omega),ayF (by omega) (by unfold aG;omega) t h.ok h.rows _ (h.fd hk) (h.vp (by omega) (by omega)),ij,amt _ I]
 rfl
def J6 (vb db:Int) (t:Tm):Except Int Tm:=bE (acr vb 0 0 0 t) (acr 0 db 0 0)
theorem mD {vb db:Int} (j:0<=vb/\vb<=1000000000) {t t':Tm} (h:Fm t) (hl:J6 vb db t= .ok t'):Fm t':=by
 obtain ⟨a,h1,h2⟩:=i8 hl
 exact jr (by omega) (jr j h h1) h2
theorem al3 {vb db:Int} {t:Tm} {e:Int} (h:J6 vb db t= .error e):0<e/\e<=1000:=by
 rcases be h with h|⟨a,_,h⟩
 ·exact amo t h
 ·exact amo a h
theorem aeV (hk:Fu k) (I:Tm×Int->OS S) {c0 c1:Int} {c2:Tm} {ns:List Int} (hl:ns.length<1000) (hn: ∀x∈ns,0<=x):
  ∀ (r p:List Int) (m:Nat),ns=p++r->r.length<m->nE k I c0 c1 c2 ns m (p.length:Int)=yW k c0 c1 c2 fun j=>Pan.elim j (fun j=>I (j,0)) fun A=>I (noT,A):=by
 intro r
 induction r with
 |nil=>
  intro p m h q
  obtain ⟨m,rfl,z⟩:=amr q
  simp only [nE,xd,akb h,n3,ag hk,ar];rfl
 |cons x r B=>
  intro p m h q
  obtain ⟨m,rfl,z⟩:=amr q
  obtain ⟨E,F,J,L⟩:=apy h (by omega)
  have M:=hn x (by grind)
  grind [nE,xd,aY]
theorem He (hk:F3 k) {t:Tm} (h:Fm t) {vb db:Int} (q:0<=vb/\vb<=1000000) (x:0<=db/\db<9223372036854775808) (I:Tm×Int->OS S):lu k t vb db I=I (tE (J6 vb db t)):=by
 have hl:=aeV hk.fu I (c0:=db) (c1:=vb) (c2:=t) (ns:=[vb,db,1000000-vb]) (by simp) (by grind) [vb,db,1000000-vb] [] k rfl (by grind)
 have hl:nE k I db vb t [vb,db,1000000-vb] k 0=_:=hl
 simp only [lu,ag hk.fu,ar,aaf (n:=1000000-vb) (by omega) (by omega),y7,BS,amv h.ok (h.fd hk) (show am t<1099511627776 by have:=h.dep;omega),h.2,hl,yW]
 rw [show ((0:Int)==0)=true from rfl,aq6,n3,ayF (show 0<=vb/\vb<=1000000000 by omega) (show aG 0 by unfold aG;omega) t h.ok h.rows _ (h.fd hk) (h.vp (by omega) (by omega)),ij,amt _ I]
 unfold J6
 rw [AS]
 refine ad3 (fun y z=> ?_) fun _ _=>rfl
 have j:=jr (show 0<=vb/\vb<=1000000000 by omega) h z
 rw [ayF (show (0:Int)<=0/\(0:Int)<=1000000000 by omega) (show aG db by unfold aG;omega) y j.ok j.rows _ (j.fd hk) (j.vp (by omega) (by omega)),ij]
 rfl
def acJ (i:Int) (r:LC) (fa:Bool):dC:=fun d f=>if bP (ie f) (i+d) then bE (NF (agS r 0 d)) fun s=>NF (if fa then iG f (i+d) s else iH f (i+d) s) else .ok f
theorem D5 (f:LC):U32 (ie f):=by
 have:=D6 f
 exact ⟨Int.natCast_nonneg _,by show ((fS f:Nat):Int)<_;omega⟩
theorem ahR {f r:LC} {i:Int} (j:aq r) (h:(iH f i r).2=0):RF (iH f i r).1:=by
 grind [iH,KG,N5,atQ,rA]
theorem azH (f g:LC):EN (alV f g).2:=av8 _
theorem ES (f g:LC):EN (alO f g).2:=av8 _
theorem agF (f g:LC):EN (amd f g).2:=av8 _
theorem NM (f:LC):EN (alU f).2:=z8 fun h c=>azH _ _
theorem ahH (i:Int) (r:LC) (c:Cl):EN (d_ i r c).2:=by
 grind [d_,azH,uq]
theorem ahJ (i:Int) (r:LC) (c:Cl) (g:LC):EN (amk i r c g).2:=by
 grind [amk,azH,NM,uq]
theorem ahG (i:Int) (r h:LC) (c:Cl):EN (dY i r h c).2:=by
 grind [dY,ES,ahJ,ahH]
theorem ahQ (f:LC) (i:Int) (r:LC):EN (iH f i r).2:=by
 grind [iH,z8,ahG,lO]
theorem agW (f:LC):EN (ofS f).2:=by
 unfold ofS
 split
 ·exact av8 _
 ·exact lO
theorem agX (f:LC):EN (ofZ f).2:=by
 unfold ofZ
 split
 ·split
  ·exact av8 _
  ·exact NM _
 ·exact lO
theorem ahM {i:Int} {c:Cl} {h:LC} {q:LC×Int} (j:EN q.2):EN (al8 i c h q).2:=by
 grind [al8,ES,agF]
theorem ahN (f:LC) (i:Int) (r:LC):EN (iG f i r).2:=by
 grind [iG,z8,alL,ahM,agW,agX,ES,lO]
theorem rB {i:Int} {r:LC} {fa:Bool} {d:Int} {f g:LC} (hf:RF f) (h:acJ i r fa d f= .ok g):RF g:=by
 unfold acJ at h
 split at h
 ·obtain ⟨s,h1,h⟩:=i8 h
  obtain ⟨j,rfl⟩:=rR h1
  have hs:=kQ j
  obtain ⟨h2,rfl⟩:=rR h
  cases fa with
  |true=>exact (ahO hf.2 hs.2 h2).1
  |false=>exact ahR hs.2 h2
 grind
theorem Bu {i:Int} {r:LC} {fa:Bool} {d:Int} {f:LC} {e:Int} (h:acJ i r fa d f= .error e):0<e/\e<=1000:=by
 grind [acJ,be,ayM,q_,EN,ahN,ahQ]
theorem QI {i:Int} {r:LC} {fa:Bool} {d:Int}:acJ i r fa d []= .ok []:=by
 grind [acJ,bP,ie,asG,D7,jJ]
def al1 (i:Int) (r:LC) (fa:Bool) (d:Int) (f:LC):LC×Int:=if bP (ie f) (i+d) then if (agS r 0 d).2=0 then if fa then iG f (i+d) (agS r 0 d).1 else iH f (i+d) (agS r 0 d).1 else ([],(agS r 0 d).2) else (f,0)
theorem oJ (i:Int) (r:LC) (fa:Bool) (d:Int) (f:LC):NF (al1 i r fa d f)=acJ i r fa d f:=by
 grind [al1,acJ,jF,aD,iO,lk]
section
variable {i d:Int} {r f:LC}
theorem RS (hk:Fu k) (hf:RF f) (j:RF r) (q:0<=i/\i<24) (hd:0<=d/\d<4611686018427387000) (I:LC×Int->OS S):tF k f d i r I=I (al1 i r true d f):=by
 have x:=hf.len;have z:=j.len
 simp only [tF,ag hk,aaf (n:=i+d) (by omega) (by omega),Ha hk hf.2 (show f.length<4294967296 by omega),rF hk (D5 f),tD,J5 (show 0+f.length<=1099511627776 by omega),vX hk j.2 (show r.length<1073741824 by omega) (show aG 0 by unfold aG;omega) (show aG d by unfold aG;omega)]
 unfold al1
 cases bP (ie f) (i+d) with
 |false=>rfl
 |true=>
  rw [aq6,n3,bG,if_pos rfl]
  by_cases h:(agS r 0 d).2=0
  ·have hs:=kQ h
   rw [decide_eq_true h,aq6,n3,aje hk hf.2 hs.2 hf.lt hs.lt,if_pos h,if_pos rfl]
  grind [ae]
theorem ajW (hk:Fu k) (hf:RF f) (j:RF r) (q:0<=i/\i<24) (hd:0<=d/\d<4611686018427387000) (I:LC×Int->OS S):yF k f d i r I=I (al1 i r false d f):=by
 have x:=hf.len;have z:=j.len
 simp only [yF,ag hk,aaf (n:=i+d) (by omega) (by omega),Ha hk hf.2 (show f.length<4294967296 by omega),rF hk (D5 f),tD,J5 (show 0+f.length<=1099511627776 by omega),vX hk j.2 (show r.length<1073741824 by omega) (show aG 0 by unfold aG;omega) (show aG d by unfold aG;omega)]
 unfold al1
 cases bP (ie f) (i+d) with
 |false=>rfl
 |true=>
  rw [aq6,n3,bG,if_pos rfl]
  by_cases h:(agS r 0 d).2=0
  ·have hs:=kQ h
   rw [decide_eq_true h,aq6,n3,ajb hk hf.2 hs.2 hf.lt hs.lt,if_pos h,if_neg (by decide)]
  grind [ae]
end
def jU (j:Int) (c:Cl):Cl:=⟨pI c.pos j,pI c.neg j⟩
def ac2 (j:Int) (f:LC):LC:=(bp (f.map (jU j))).1
theorem JR (s j:Int):0<=pI s j/\pI s j<16777216:=by
 have:=aam s.toNat j
 exact ⟨Int.natCast_nonneg _,by show ((j7 s.toNat j:Nat):Int)<_;omega⟩
theorem DA (j:Int) (c:Cl):RC (jU j c):=⟨JR _ _,JR _ _⟩
theorem DD (j:Int) (f:LC): ∀c∈f.map (jU j),RC c:=fun c hc=>by
 grind [DA]
theorem DC {j:Int} {f:LC} (hf:f.length<=64):bp (f.map (jU j))=(ac2 j f,0):=Prod.ext rfl (LH (DD j f) (by grind))
theorem aad {j:Int} {f:LC} (hf:f.length<=64):RF (ac2 j f):=qX (fun c hc=>(DD j f c hc).ok) (by rw [DC hf])
theorem agO: ∀ (n:Nat) {l:LC} {c:Cl},(l.filter fun d=>dR c d&& !decide (d=c)).length<=n->(∀d∈l,RC d)->c∈l-> ∃d∈l,ce l d=true:=by
 have hle: ∀ {a b:Cl},RC a->RC b->(dR a b=true↔(∀j,b.pos.toNat.testBit j=true->a.pos.toNat.testBit j=true)/\ ∀j,b.neg.toNat.testBit j=true->a.neg.toNat.testBit j=true):=by
  intro a b ha hb
  unfold dR d9
  rw [decide_eq_true_eq]
  have O: ∀ {x y:Int},0<=x->(ep x y=x↔ ∀j,y.toNat.testBit j=true->x.toNat.testBit j=true):=by
   intro x y B
   unfold ep
   constructor
   ·intro h j hj
    have:(x.toNat|||y.toNat)=x.toNat:=by omega
    grind
   ·intro h
    have:(x.toNat|||y.toNat)=x.toNat:=by
     apply Nat.eq_of_testBit_eq
     grind
    omega
  cases a with
  |mk p q=>
   have h1:0<=p:=ha.1.1
   have h2:0<=q:=ha.2.1
   grind
 have E: ∀ {a b:Cl},RC a->RC b->dR a b=true->dR b a=true->a=b:=by
  intro a b ha hb h1 h2
  have J:=(hle ha hb).1 h1
  have L:=(hle hb ha).1 h2
  have B: ∀ {x y:Int},0<=x->0<=y->(∀j,y.toNat.testBit j=true->x.toNat.testBit j=true)->(∀j,x.toNat.testBit j=true->y.toNat.testBit j=true)->x=y:=by
   intro x y B hy a b
   have:x.toNat=y.toNat:=by
    apply Nat.eq_of_testBit_eq
    grind
   omega
  cases a;cases b
  have p1:=B ha.1.1 hb.1.1 J.1 L.1
  have p2:=B ha.2.1 hb.2.1 J.2 L.2
  grind
 intro n
 induction n with
 |zero=>
  grind [ce,List.filter_eq_nil_iff]
 |succ n T=>
  intro l c hn hl hc
  by_cases h:ce l c=true
  ·grind
  ·unfold ce at h
   rw [ars] at h
   have: ∃d∈l,¬ ((decide (d=c)|| !dR c d)=true):=Classical.byContradiction fun W=>h fun d hd=>Classical.byContradiction fun h2=>W ⟨d,hd,h2⟩
   obtain ⟨d,hd,F⟩:=this
   have h1:d≠c:=fun h=>F (by grind)
   have h2:dR c d=true:=by
    grind
   refine T (c:=d) ?_ hl hd
   have M:(l.filter fun e=>dR d e&& !decide (e=d)).length<(l.filter fun e=>dR c e&& !decide (e=c)).length:=by
    have Y:=hl c hc;have ad:=hl d hd
    have himp: ∀e∈l,(dR d e&& !decide (e=d))=true->(dR c e&& !decide (e=c))=true:=by
     grind
    have A: ∀ (p q:Cl->Bool) (m:LC),(∀e∈m,p e=true->q e=true)->(m.filter p).length<=(m.filter q).length:=by
     intro p q m
     induction m<;>grind
    have I: ∀ (p q:Cl->Bool) (m:LC),(∀e∈m,p e=true->q e=true)->d∈m->p d=false->q d=true->(m.filter p).length<(m.filter q).length:=by
     intro p q m
     induction m with
     |nil=>simp
     |cons e m im=>
      intro hm hdm hp hq
      have z: ∀e∈m,p e=true->q e=true:=fun e he=>hm e (by simp [he])
      have hb:=A p q m z
      rcases arH.1 hdm with rfl|hdm<;>grind
    exact I _ _ l himp hd (by simp) (by grind)
   omega
theorem JE {j:Int} {f:LC} (hf:RF f):(ac2 j f).length=0↔f.length=0:=by
 have h:=DC (j:=j) hf.len
 have z:=(As h).1
 constructor
 ·intro q
  apply Classical.byContradiction
  intro x
  obtain ⟨c,hc⟩:=List.exists_mem_of_length_pos (l:=f.map (jU j)) (by grind)
  obtain ⟨d,hd,hn⟩:=agO _ (arq _) (DD j f) hc
  have:d∈ac2 j f:=by grind [mem_mins]
  grind
 ·intro q
  have:=List.length_eq_zero_iff.1 q
  subst this;rfl
theorem aeC (hk:Fu k) (I:LC×Int->OS S) {i d:Int} (O:0<=i/\i<24) (hd:0<=d/\d<4611686018427387000) {f:LC} (hf:aq f) (hlen:f.length<1073741824):
  ∀ (r p:LC) (m:Nat) (o:LC),f=p++r->r.length<m->aq o->o.length=p.length->avL k I i d f m (p.length:Int) o=I (bp (o++r.map (jU (i+d)))):=by
 intro r
 induction r with
 |nil=>
  intro p m o h z j ho
  obtain ⟨m,rfl,q⟩:=amr z
  grind [avL,wN,n3,ag,kX]
 |cons x r B=>
  intro p m o h z j ho
  obtain ⟨m,rfl,q⟩:=amr z
  obtain ⟨E,F,J,L⟩:=apy h (by omega)
  have A:aX x:=hf x (by grind)
  have M:p.length<f.length:=by grind
  simp only [avL,wN,E,ae,F,sf,ag hk,aaf (n:=i+d) (by omega) (by omega),Q4 hk A.1,Q4 hk A.2,J]
  rw [J5 (by grind)]
  have:=B (p++[x]) m (o++[jU (i+d) x]) L q (ami j fun c hc=>by simp at hc;subst hc;exact (DA _ _).ok) (by grind)
  refine alQ this ?_
  simp
theorem Rl (hk:Fu k) {i d:Int} (h:0<=i/\i<24) (hd:0<=d/\d<4611686018427387000) {f:LC} (hf:RF f) (I:LC×Int->OS S):pc k f d i I=I (ac2 (i+d) f,0):=by
 have j:=hf.len
 have:=aeC hk I h hd hf.2 (by omega) f [] k [] rfl (by omega) (fun c hc=>by cases hc) rfl
 grind [pc,Hx,DC]
theorem B4 (fo fa:dC) (d:Int) (t:Tm):ab7 fo fa d t=bE (if t.kind=14 then fa d t.r else fo d t.r) fun q=>bE (aig fo fa d t.kind 0 t.kids) fun j=>bE (acM fo fa d t.kind t.sys) fun h=> .ok (.mk t.kind t.n t.name q j h):=by cases t;rfl
theorem Ja {fo fa:dC} {d:Int} {x y:Tm} (h:ab7 fo fa d x= .ok y):y.kind=x.kind:=by
 rw [B4] at h
 obtain ⟨_,_,h⟩:=i8 h
 obtain ⟨_,_,h⟩:=i8 h
 obtain ⟨_,_,h⟩:=i8 h
 injection h with h;subst h;rfl
theorem B3 (fo fa:dC) (d kd:Int) (b:Br Tm):amn fo fa d kd b=bE (fa d b.face) fun j=>if j.length=0 then .ok [] else bE (akP fo fa d kd b.kids) fun h=> .ok [.mk j h]:=by cases b;rfl
section
variable {fo fa:dC} (hfo: ∀d f e,fo d f= .error e->0<e/\e<=1000) (hfa: ∀d f e,fa d f= .error e->0<e/\e<=1000)
include hfo hfa
theorem jK (t:Tm): ∀ {d e},ab7 fo fa d t= .error e->0<e/\e<=1000:=by
 induction t using gq with
 |h kd n I r J sys B E=>
  intro d e h
  rw [ab7] at h
  rcases be h with h|⟨_,_,h⟩
  ·grind
  have j: ∀ {l:LT} {i:Nat},(∀x∈l,∀ {d e},ab7 fo fa d x= .error e->0<e/\e<=1000)->aig fo fa d kd i l= .error e->0<e/\e<=1000:=by
   intro l
   induction l with
   |nil=>grind [aig]
   |cons t l z=>
    intro i hl h
    rw [aig] at h
    rcases be h with h|⟨_,_,h⟩
    ·exact hl t (by simp) h
    grind [be]
  have q: ∀ {l:LT},(∀x∈l,∀ {d e},ab7 fo fa d x= .error e->0<e/\e<=1000)-> ∀ {e},akP fo fa d kd l= .error e->0<e/\e<=1000:=by
   intro l
   induction l with
   |nil=>grind [akP]
   |cons t l z=>
    intro hl e h
    rw [akP] at h
    rcases be h with h|⟨_,_,h⟩
    ·grind
    ·rcases be h with h|⟨_,_,h⟩
     ·exact z (fun x F=>hl x (by simp [F])) h
     simp_all
  have A: ∀ {l:LB},(∀b∈l,∀x∈b.kids,∀ {d e},ab7 fo fa d x= .error e->0<e/\e<=1000)->acM fo fa d kd l= .error e->0<e/\e<=1000:=by
   intro l
   induction l<;>grind [acM,be,B3]
  grind [be]
theorem Ug {kd d:Int}: ∀ {l:LT} {i:Nat} {e:Int},aig fo fa d kd i l= .error e->0<e/\e<=1000:=by
 intro l
 induction l with
 |nil=>grind [aig]
 |cons t l j=>
  intro i e h
  rw [aig] at h
  rcases be h with h|⟨_,_,h⟩
  ·exact jK hfo hfa t h
  grind [be]
theorem Uh {kd d:Int}: ∀ {l:LT} {e:Int},akP fo fa d kd l= .error e->0<e/\e<=1000:=by
 intro l
 induction l<;>grind [akP,be,jK]
end
theorem anT {α β:Type} (x:Except Int Tm) (h: ∀e,x= .error e->0<e/\e<=1000) (f:Tm->α) (g:Int->α):(fun r:Tm×Int=>ab (!(r.2==0)) (g r.2) (f r.1)) (tE x)=eE x f g:=by
 cases x with
 |ok t=>rfl
 |error e=>
  have:=(h e rfl).1
  show ab (!(e==0)) (g e) (f noT)=g e
  grind [decide_eq_false,ae]
theorem AM {α β γ:Type} (x:Except Int α) (h: ∀e,x= .error e->0<e/\e<=1000) (z:α) (f:α->β) (g:Int->β):eE x (fun l=>(fun r:α×Int=>ab (!(r.2==0)) (g r.2) (f r.1)) (l,0)) (fun e=>(fun r:α×Int=>ab (!(r.2==0)) (g r.2) (f r.1)) (z,e))=eE x f g:=by
 cases x with
 |ok t=>rfl
 |error e=>
  have:=(h e rfl).1
  show ab (!(e==0)) (g e) (f z)=g e
  grind [decide_eq_false,ae]
theorem mo {G:Int->LC->LC}: ∀d f e,j0 G d f= .error e->0<e/\e<=1000:=fun d f e h=>by cases h
theorem jD {i:Int} {r:LC} {fa:Bool}: ∀d f e,acJ i r fa d f= .error e->0<e/\e<=1000:=fun d f e h=>Bu h
section
variable {hd:Tm->Int->Int->LC->(Tm×Int->OS S)->OS S} {i d:Int} {t:Tm} {r:LC}
theorem ahV (hk:Fu k) (x:0<=i/\i<24) (A:RF r) (B:0<=d/\d<4611686018427386000) (q:RowsT t) (I:LC×Int->OS S): ∃z:LC×Int,NF z=(if t.kind=14 then (acJ i r true) d t.r else (acJ i r false) d t.r)/\yG k t d i r I=I z:=by
 have j:=q.no.1
 simp only [yG,ag hk,RS hk j A x (show 0<=d/\d<4611686018427387000 by omega),ajW hk j A x (show 0<=d/\d<4611686018427387000 by omega)]
 by_cases h:t.kind=14
 ·rw [h,if_pos rfl,show ((14:Int)==14)=true from rfl,ae]
  grind [oJ]
 ·rw [if_neg h,show (t.kind==14)=false from by grind,n3]
  grind [oJ]
theorem ahS (hk:Fu k) (I:LT×Int->OS S) (A:0<=d/\d<4611686018427386000) (B: ∀y∈t.kids,∀b,0<=b/\b<=1-> ∀g,hd y (d+b) i r g=g (tE (ab7 (acJ i r false) (acJ i r true) (d+b) y))) (hl:t.kids.length<1073741824):
  ∀ (j p:LT) (m:Nat) (acc:LT),t.kids=p++j->j.length<m->acc.length=p.length->
  lX hd k I i r t t.kids d m acc (p.length:Int)=eE (aig (acJ i r false) (acJ i r true) d t.kind p.length j) (fun l=>I (acc++l,0)) fun e=>I ([],e):=by
 intro j
 induction j with
 |nil=>
  grind [amr,lX,wR,n3,aig,aP]
 |cons y j E=>
  intro p m acc h F ha
  obtain ⟨m,rfl,q⟩:=amr F
  obtain ⟨J,L,M,O⟩:=apy h (by omega)
  have T:p.length<t.kids.length:=by grind
  have x:=gr t.kind p.length
  have W:=B y (by grind) (bJ t.kind p.length) x
  simp only [lX,wR,J,ae,L,sf,ag hk,tG,jE,ar,aaf (n:=d+bJ t.kind p.length) (by omega) (by omega),W]
  refine alQ (anT (β:=Unit) _ (fun e he=>jK jD jD y he) (fun z=>asP (aw 1099511627776 acc.length [z].length) fun _=>lX hd k I i r t t.kids d m (acc++[z]) (su .i64 ((p.length:Int)+1))) fun e=>I ([],e)) ?_
  simp only [aig,AS,aP]
  refine ad3 (fun Y ad=> ?_) fun e _=>rfl
  rw [J5 (by grind),M,E (p++[y]) m (acc++[Y]) O q (by grind),show (p++[y]).length=p.length+1 by simp]
  simp
theorem ahT (hk:Fu k) (I:LT×Int->OS S) {x:Br Tm} {kd:Int} (A:0<=d/\d<4611686018427386000) (B: ∀y∈x.kids,∀g,hd y (d+av kd) i r g=g (tE (ab7 (acJ i r false) (acJ i r true) (d+av kd) y))) (hl:x.kids.length<1073741824):
  ∀ (j p:LT) (m:Nat) (acc:LT),x.kids=p++j->j.length<m->acc.length=p.length->
  lW hd k I i r (av kd) x.kids d m acc (p.length:Int)=eE (akP (acJ i r false) (acJ i r true) d kd j) (fun l=>I (acc++l,0)) fun e=>I ([],e):=by
 have E:=atj kd
 intro j
 induction j with
 |nil=>
  grind [amr,lW,wQ,n3,akP,aP]
 |cons y j F=>
  intro p m acc h J ha
  obtain ⟨m,rfl,q⟩:=amr J
  obtain ⟨L,M,O,T⟩:=apy h (by omega)
  have W:p.length<x.kids.length:=by grind
  have Y:=B y (by grind)
  simp only [lW,wQ,L,ae,M,sf,ag hk,tH,ar,aaf (n:=d+av kd) (by omega) (by omega),Y]
  refine alQ (anT (β:=Unit) _ (fun e he=>jK jD jD y he) (fun z=>asP (aw 1099511627776 acc.length [z].length) fun _=>lW hd k I i r (av kd) x.kids d m (acc++[z]) (su .i64 ((p.length:Int)+1))) fun e=>I ([],e)) ?_
  simp only [akP,AS,aP]
  refine ad3 (fun t' ad=> ?_) fun e _=>rfl
  rw [J5 (by grind),O,F (p++[y]) m (acc++[t']) T q (by grind)]
  simp
theorem ahU (hk:Fu k) (I:Tm×Int->OS S) (hi:0<=i/\i<24) (hr:RF r) (F:0<=d/\d<4611686018427386000) {r1:LC×Int} {r2:LT×Int} (Y:OkT t) (J:RowsT t) (hQ: ∀b∈t.sys,∀y∈b.kids,∀g,hd y (d+av t.kind) i r g=g (tE (ab7 (acJ i r false) (acJ i r true) (d+av t.kind) y))):
  ∀ (A p:LB) (m:Nat) (o:LB),t.sys=p++A->A.length<m->o.length<=p.length->
  fV hd k I i r t r1 r2 d m (av t.kind) o (p.length:Int)=eE (acM (acJ i r false) (acJ i r true) d t.kind A) (fun s=>I (.mk t.kind t.n t.name r1.1 r2.1 (o++s),0)) fun e=>I (noT,e):=by
 obtain ⟨o1,o2,o3,o4,o5,o6,o7⟩:=Y.no
 intro A
 induction A with
 |nil=>
  grind [amr,fV,wS,n3,acM,aP]
 |cons x A ih=>
  intro p m o h L ho
  obtain ⟨m,rfl,B⟩:=amr L
  obtain ⟨e1,e2,e3,e4⟩:=apy h (by omega)
  have M:x∈t.sys:=by grind
  have ad:p.length<t.sys.length:=by grind
  have hb:=(Y.bi M).1
  have O:=(J.bi M).1
  have T:=fun g:LT×Int->OS S=>ahT (kd:=t.kind) hk g F (hQ x M) hb.2.2 x.kids [] k [] rfl (by omega) rfl
  have T: ∀g:LT×Int->OS S,lW hd k g i r (av t.kind) x.kids d k [] 0=_:=T
  simp only [fV,wS,e1,ae,e2,sf,ag hk,RS hk O hr hi (show 0<=d/\d<4611686018427387000 by omega),DK,HB,T,e3,as2]
  have W:=fun j:LC=>AM (β:=OS S) (γ:=Unit) (akP (acJ i r false) (acJ i r true) d t.kind x.kids) (fun e he=>Uh jD jD he) [] (fun l=>asP (aw 1099511627776 o.length [Br.mk j l].length) fun _=>fV hd k I i r t r1 r2 d m (av t.kind) (o++[Br.mk j l]) (((p++[x]).length:Nat):Int)) fun e=>I (noT,e)
  refine alQ (wx (z:=(al1 i r true d x.face)) (fun j=>ab (((j.length:Nat):Int)==0) (fV hd k I i r t r1 r2 d m (av t.kind) o (((p++[x]).length:Nat):Int)) (eE (akP (acJ i r false) (acJ i r true) d t.kind x.kids) (fun l=>(fun q:LT×Int=>ab (!(q.2==0)) (I (noT,q.2)) (asP (aw 1099511627776 o.length [Br.mk j q.1].length) fun _=>fV hd k I i r t r1 r2 d m (av t.kind) (o++[Br.mk j q.1]) (((p++[x]).length:Nat):Int))) (l,0)) fun e=>(fun q:LT×Int=>ab (!(q.2==0)) (I (noT,q.2)) (asP (aw 1099511627776 o.length [Br.mk j q.1].length) fun _=>fV hd k I i r t r1 r2 d m (av t.kind) (o++[Br.mk j q.1]) (((p++[x]).length:Nat):Int))) ([],e))) fun e=>I (noT,e)) ?_
  rw [show NF (al1 i r true d x.face)=(acJ i r true) d x.face from oJ _ _ _ _ _]
  rw [acM,B3,AS,AS]
  refine ad3 (fun j ao=> ?_) fun e _=>rfl
  rw [qY,aY]
  by_cases E:j.length=0
  ·rw [if_pos E,if_pos E,aP,AS,ih (p++[x]) m o e4 B (by grind)]
   rfl
  ·rw [if_neg E,if_neg E,W j,AS]
   refine ad3 (fun l hl=> ?_) fun e _=>rfl
   rw [aP,AS,J5 (by grind),ih (p++[x]) m (o++[Br.mk j l]) e4 B (by grind)]
   grind [aP]
end
theorem ahW {i:Int} {r:LC} (T:0<=i/\i<24) (W:RF r) (t:Tm):OkT t->RowsT t-> ∀ {k:Nat} {d:Int} (I:Tm×Int->OS S),Fd k (am t)->0<=d->d+am t<4611686018427386000->d7 k t d i r I=I (tE (ab7 (acJ i r false) (acJ i r true) d t)):=by
 induction t using c7 with
 |h t L M=>
  intro E x k d I hk hv ad
  obtain ⟨q,rfl,F,hf⟩:=hk.pos' (alF t)
  have hp:=alF t
  have A:0<=d/\d<4611686018427386000:=by omega
  obtain ⟨o1,o2,o3,o4,o5,o6,o7⟩:=E.no
  have ao:=atj t.kind
  have hQ: ∀y∈t.kids,∀b,0<=b/\b<=1-> ∀g:Tm×Int->OS S,d7 q y (d+b) i r g=g (tE (ab7 (acJ i r false) (acJ i r true) (d+b) y)):=fun y j b h2 g=>
   L y j (E.ki j) (x.ki j) g (hf _ (bY j)) (by omega) (by have:=bY j;omega)
  have O: ∀b∈t.sys,∀y∈b.kids,∀g:Tm×Int->OS S,d7 q y (d+av t.kind) i r g=g (tE (ab7 (acJ i r false) (acJ i r true) (d+av t.kind) y)):=fun b hb y j g=>
   M b hb y j ((E.bi hb).2 y j) ((x.bi hb).2 y j) g (hf _ (b8 hb j)) (by omega) (by have:=b8 hb j;omega)
  have hK: ∀g:LT×Int->OS S,lX (d7 q) q g i r t t.kids d q [] 0=_:=fun g=>ahS F g A hQ o6 t.kids [] q [] rfl (by omega) rfl
  have Y:=fun (r1:LC×Int) (r2:LT×Int)=>ahU (r1:=r1) (r2:=r2) F I T W A E x O t.sys [] q [] rfl (by omega) (arq _)
  have Y: ∀ (r1:LC×Int) (r2:LT×Int),fV (d7 q) q I i r t r1 r2 d q (av t.kind) [] 0=_:=Y
  have B: ∀ (r1:LC×Int) (r2:LT×Int),ab (t.kind==15) (fV (d7 q) q I i r t r1 r2 d q 1 [] 0) (fV (d7 q) q I i r t r1 r2 d q 0 [] 0)=eE (acM (acJ i r false) (acJ i r true) d t.kind t.sys) (fun s=>I (.mk t.kind t.n t.name r1.1 r2.1 s,0)) fun e=>I (noT,e):=by
   grind [cH,av]
  obtain ⟨z,hz,hrow⟩:=ahV F T W A x (fun r1=>ab (!(r1.2==0)) (I (noT,r1.2)) (eE (aig (acJ i r false) (acJ i r true) d t.kind 0 t.kids) (fun l=>(fun r2:LT×Int=>ab (!(r2.2==0)) (I (noT,r2.2)) (eE (acM (acJ i r false) (acJ i r true) d t.kind t.sys) (fun s=>I (.mk t.kind t.n t.name r1.1 r2.1 s,0)) fun e=>I (noT,e))) (l,0)) fun e=>(fun r2:LT×Int=>ab (!(r2.2==0)) (I (noT,r2.2)) (eE (acM (acJ i r false) (acJ i r true) d t.kind t.sys) (fun s=>I (.mk t.kind t.n t.name r1.1 r2.1 s,0)) fun e=>I (noT,e))) ([],e)))
  simp only [d7,HF,ag F,ar,DL,HC,hK,B,as2,List.length_nil]
  refine alQ hrow ?_
  rw [amt _ I,B4,<-hz]
  refine alQ (wx (z:=z) (fun J=>eE (aig (acJ i r false) (acJ i r true) d t.kind 0 t.kids) (fun l=>(fun r2:LT×Int=>ab (!(r2.2==0)) (I (noT,r2.2)) (eE (acM (acJ i r false) (acJ i r true) d t.kind t.sys) (fun s=>I (.mk t.kind t.n t.name J r2.1 s,0)) fun e=>I (noT,e))) (l,0)) fun e=>(fun r2:LT×Int=>ab (!(r2.2==0)) (I (noT,r2.2)) (eE (acM (acJ i r false) (acJ i r true) d t.kind t.sys) (fun s=>I (.mk t.kind t.n t.name J r2.1 s,0)) fun e=>I (noT,e))) ([],e)) fun e=>I (noT,e)) ?_
  rw [AS]
  refine ad3 (fun J _=> ?_) fun e _=>rfl
  refine alQ (AM (β:=OS S) (γ:=Unit) (aig (acJ i r false) (acJ i r true) d t.kind 0 t.kids) (fun e he=>Ug jD jD he) [] (fun l=>eE (acM (acJ i r false) (acJ i r true) d t.kind t.sys) (fun s=>I (.mk t.kind t.n t.name J l s,0)) fun e=>I (noT,e)) fun e=>I (noT,e)) ?_
  simp only [AS,aP]
section
variable {hd:Tm->Int->Int->(Tm×Int->OS S)->OS S} {i d:Int} {t:Tm}
theorem aaq (hk:Fu k) (x:0<=i/\i<24) (A:0<=d/\d<4611686018427386000) (j:RowsT t) (I:LC×Int->OS S): ∃z:LC×Int,NF z=(if t.kind=14 then (j0 fun d f=>ac2 (i+d) f) d t.r else (j0 fun d f=>ac2 (i+d) f) d t.r)/\yH k t d i I=I z:=by
 have q:=j.no.1
 simp only [yH,ag hk,Rl hk x (show 0<=d/\d<4611686018427387000 by omega) q]
 by_cases h:t.kind=14
 ·rw [h,if_pos rfl,show ((14:Int)==14)=true from rfl,ae]
  exact ⟨_,rfl,rfl⟩
 ·rw [if_neg h,show (t.kind==14)=false from by grind,n3]
  exact ⟨_,rfl,rfl⟩
theorem aan (hk:Fu k) (I:LT×Int->OS S) (A:0<=d/\d<4611686018427386000) (B: ∀y∈t.kids,∀b,0<=b/\b<=1-> ∀g,hd y (d+b) i g=g (tE (ab7 (j0 fun d f=>ac2 (i+d) f) (j0 fun d f=>ac2 (i+d) f) (d+b) y))) (hl:t.kids.length<1073741824):
  ∀ (j p:LT) (m:Nat) (acc:LT),t.kids=p++j->j.length<m->acc.length=p.length->
  lV hd k I i t t.kids d m acc (p.length:Int)=eE (aig (j0 fun d f=>ac2 (i+d) f) (j0 fun d f=>ac2 (i+d) f) d t.kind p.length j) (fun l=>I (acc++l,0)) fun e=>I ([],e):=by
 intro j
 induction j with
 |nil=>
  grind [amr,lV,wP,n3,aig,aP]
 |cons y j E=>
  intro p m acc h F ha
  obtain ⟨m,rfl,q⟩:=amr F
  obtain ⟨J,L,M,O⟩:=apy h (by omega)
  have T:p.length<t.kids.length:=by grind
  have x:=gr t.kind p.length
  have W:=B y (by grind) (bJ t.kind p.length) x
  simp only [lV,wP,J,ae,L,sf,ag hk,tG,jE,ar,aaf (n:=d+bJ t.kind p.length) (by omega) (by omega),W]
  refine alQ (anT (β:=Unit) _ (fun e he=>jK mo mo y he) (fun z=>asP (aw 1099511627776 acc.length [z].length) fun _=>lV hd k I i t t.kids d m (acc++[z]) (su .i64 ((p.length:Int)+1))) fun e=>I ([],e)) ?_
  simp only [aig,AS,aP]
  refine ad3 (fun Y ad=> ?_) fun e _=>rfl
  rw [J5 (by grind),M,E (p++[y]) m (acc++[Y]) O q (by grind),show (p++[y]).length=p.length+1 by simp]
  simp
theorem aao (hk:Fu k) (I:LT×Int->OS S) {x:Br Tm} {kd:Int} (A:0<=d/\d<4611686018427386000) (B: ∀y∈x.kids,∀g,hd y (d+av kd) i g=g (tE (ab7 (j0 fun d f=>ac2 (i+d) f) (j0 fun d f=>ac2 (i+d) f) (d+av kd) y))) (hl:x.kids.length<1073741824):
  ∀ (j p:LT) (m:Nat) (acc:LT),x.kids=p++j->j.length<m->acc.length=p.length->
  lU hd k I i (av kd) x.kids d m acc (p.length:Int)=eE (akP (j0 fun d f=>ac2 (i+d) f) (j0 fun d f=>ac2 (i+d) f) d kd j) (fun l=>I (acc++l,0)) fun e=>I ([],e):=by
 have E:=atj kd
 intro j
 induction j with
 |nil=>
  grind [amr,lU,wO,n3,akP,aP]
 |cons y j F=>
  intro p m acc h J ha
  obtain ⟨m,rfl,q⟩:=amr J
  obtain ⟨L,M,O,T⟩:=apy h (by omega)
  have W:p.length<x.kids.length:=by grind
  have Y:=B y (by grind)
  simp only [lU,wO,L,ae,M,sf,ag hk,tH,ar,aaf (n:=d+av kd) (by omega) (by omega),Y]
  refine alQ (anT (β:=Unit) _ (fun e he=>jK mo mo y he) (fun z=>asP (aw 1099511627776 acc.length [z].length) fun _=>lU hd k I i (av kd) x.kids d m (acc++[z]) (su .i64 ((p.length:Int)+1))) fun e=>I ([],e)) ?_
  simp only [akP,AS,aP]
  refine ad3 (fun t' ad=> ?_) fun e _=>rfl
  rw [J5 (by grind),O,F (p++[y]) m (acc++[t']) T q (by grind)]
  simp
theorem aap (hk:Fu k) (I:Tm×Int->OS S) (hi:0<=i/\i<24) (F:0<=d/\d<4611686018427386000) {r1:LC×Int} {r2:LT×Int} (Y:OkT t) (J:RowsT t) (hQ: ∀b∈t.sys,∀y∈b.kids,∀g,hd y (d+av t.kind) i g=g (tE (ab7 (j0 fun d f=>ac2 (i+d) f) (j0 fun d f=>ac2 (i+d) f) (d+av t.kind) y))):
  ∀ (A p:LB) (m:Nat) (o:LB),t.sys=p++A->A.length<m->o.length<=p.length->
  fW hd k I i t r1 r2 d m (av t.kind) o (p.length:Int)=eE (acM (j0 fun d f=>ac2 (i+d) f) (j0 fun d f=>ac2 (i+d) f) d t.kind A) (fun s=>I (.mk t.kind t.n t.name r1.1 r2.1 (o++s),0)) fun e=>I (noT,e):=by
 obtain ⟨o1,o2,o3,o4,o5,o6,o7⟩:=Y.no
 intro A
 induction A with
 |nil=>
  grind [amr,fW,wT,n3,acM,aP]
 |cons x A ih=>
  intro p m o h L ho
  obtain ⟨m,rfl,B⟩:=amr L
  obtain ⟨e1,e2,e3,e4⟩:=apy h (by omega)
  have M:x∈t.sys:=by grind
  have ad:p.length<t.sys.length:=by grind
  have hb:=(Y.bi M).1
  have O:=(J.bi M).1
  have T:=fun g:LT×Int->OS S=>aao (kd:=t.kind) hk g F (hQ x M) hb.2.2 x.kids [] k [] rfl (by omega) rfl
  have T: ∀g:LT×Int->OS S,lU hd k g i (av t.kind) x.kids d k [] 0=_:=T
  simp only [fW,wT,e1,ae,e2,sf,ag hk,Rl hk hi (show 0<=d/\d<4611686018427387000 by omega) O,DI,Hz,T,e3,as2]
  have W:=fun j:LC=>AM (β:=OS S) (γ:=Unit) (akP (j0 fun d f=>ac2 (i+d) f) (j0 fun d f=>ac2 (i+d) f) d t.kind x.kids) (fun e he=>Uh mo mo he) [] (fun l=>asP (aw 1099511627776 o.length [Br.mk j l].length) fun _=>fW hd k I i t r1 r2 d m (av t.kind) (o++[Br.mk j l]) (((p++[x]).length:Nat):Int)) fun e=>I (noT,e)
  refine alQ (wx (z:=(ac2 (i+d) x.face,(0:Int))) (fun j=>ab (((j.length:Nat):Int)==0) (fW hd k I i t r1 r2 d m (av t.kind) o (((p++[x]).length:Nat):Int)) (eE (akP (j0 fun d f=>ac2 (i+d) f) (j0 fun d f=>ac2 (i+d) f) d t.kind x.kids) (fun l=>(fun q:LT×Int=>ab (!(q.2==0)) (I (noT,q.2)) (asP (aw 1099511627776 o.length [Br.mk j q.1].length) fun _=>fW hd k I i t r1 r2 d m (av t.kind) (o++[Br.mk j q.1]) (((p++[x]).length:Nat):Int))) (l,0)) fun e=>(fun q:LT×Int=>ab (!(q.2==0)) (I (noT,q.2)) (asP (aw 1099511627776 o.length [Br.mk j q.1].length) fun _=>fW hd k I i t r1 r2 d m (av t.kind) (o++[Br.mk j q.1]) (((p++[x]).length:Nat):Int))) ([],e))) fun e=>I (noT,e)) ?_
  rw [show NF (ac2 (i+d) x.face,(0:Int))=(j0 fun d f=>ac2 (i+d) f) d x.face from rfl]
  rw [acM,B3,AS,AS]
  refine ad3 (fun j ao=> ?_) fun e _=>rfl
  rw [qY,aY]
  by_cases E:j.length=0
  ·rw [if_pos E,if_pos E,aP,AS,ih (p++[x]) m o e4 B (by grind)]
   rfl
  ·rw [if_neg E,if_neg E,W j,AS]
   refine ad3 (fun l hl=> ?_) fun e _=>rfl
   rw [aP,AS,J5 (by grind),ih (p++[x]) m (o++[Br.mk j l]) e4 B (by grind)]
   grind [aP]
end
theorem aar {i:Int} (T:0<=i/\i<24) (t:Tm):OkT t->RowsT t-> ∀ {k:Nat} {d:Int} (I:Tm×Int->OS S),Fd k (am t)->0<=d->d+am t<4611686018427386000->dT k t d i I=I (tE (ab7 (j0 fun d f=>ac2 (i+d) f) (j0 fun d f=>ac2 (i+d) f) d t)):=by
 induction t using c7 with
 |h t L M=>
  intro E x k d I hk hv Y
  obtain ⟨q,rfl,F,hf⟩:=hk.pos' (alF t)
  have hp:=alF t
  have A:0<=d/\d<4611686018427386000:=by omega
  obtain ⟨o1,o2,o3,o4,o5,o6,o7⟩:=E.no
  have ad:=atj t.kind
  have hQ: ∀y∈t.kids,∀b,0<=b/\b<=1-> ∀g:Tm×Int->OS S,dT q y (d+b) i g=g (tE (ab7 (j0 fun d f=>ac2 (i+d) f) (j0 fun d f=>ac2 (i+d) f) (d+b) y)):=fun y j b h2 g=>
   L y j (E.ki j) (x.ki j) g (hf _ (bY j)) (by omega) (by have:=bY j;omega)
  have O: ∀b∈t.sys,∀y∈b.kids,∀g:Tm×Int->OS S,dT q y (d+av t.kind) i g=g (tE (ab7 (j0 fun d f=>ac2 (i+d) f) (j0 fun d f=>ac2 (i+d) f) (d+av t.kind) y)):=fun b hb y j g=>
   M b hb y j ((E.bi hb).2 y j) ((x.bi hb).2 y j) g (hf _ (b8 hb j)) (by omega) (by have:=b8 hb j;omega)
  have hK: ∀g:LT×Int->OS S,lV (dT q) q g i t t.kids d q [] 0=_:=fun g=>aan F g A hQ o6 t.kids [] q [] rfl (by omega) rfl
  have W:=fun (r1:LC×Int) (r2:LT×Int)=>aap (r1:=r1) (r2:=r2) F I T A E x O t.sys [] q [] rfl (by omega) (arq _)
  have W: ∀ (r1:LC×Int) (r2:LT×Int),fW (dT q) q I i t r1 r2 d q (av t.kind) [] 0=_:=W
  have B: ∀ (r1:LC×Int) (r2:LT×Int),ab (t.kind==15) (fW (dT q) q I i t r1 r2 d q 1 [] 0) (fW (dT q) q I i t r1 r2 d q 0 [] 0)=eE (acM (j0 fun d f=>ac2 (i+d) f) (j0 fun d f=>ac2 (i+d) f) d t.kind t.sys) (fun s=>I (.mk t.kind t.n t.name r1.1 r2.1 s,0)) fun e=>I (noT,e):=by
   grind [cH,av]
  obtain ⟨z,hz,hrow⟩:=aaq F T A x (fun r1=>ab (!(r1.2==0)) (I (noT,r1.2)) (eE (aig (j0 fun d f=>ac2 (i+d) f) (j0 fun d f=>ac2 (i+d) f) d t.kind 0 t.kids) (fun l=>(fun r2:LT×Int=>ab (!(r2.2==0)) (I (noT,r2.2)) (eE (acM (j0 fun d f=>ac2 (i+d) f) (j0 fun d f=>ac2 (i+d) f) d t.kind t.sys) (fun s=>I (.mk t.kind t.n t.name r1.1 r2.1 s,0)) fun e=>I (noT,e))) (l,0)) fun e=>(fun r2:LT×Int=>ab (!(r2.2==0)) (I (noT,r2.2)) (eE (acM (j0 fun d f=>ac2 (i+d) f) (j0 fun d f=>ac2 (i+d) f) d t.kind t.sys) (fun s=>I (.mk t.kind t.n t.name r1.1 r2.1 s,0)) fun e=>I (noT,e))) ([],e)))
  simp only [dT,HG,ag F,ar,DJ,HA,hK,B,as2,List.length_nil]
  refine alQ hrow ?_
  rw [amt _ I,B4,<-hz]
  refine alQ (wx (z:=z) (fun J=>eE (aig (j0 fun d f=>ac2 (i+d) f) (j0 fun d f=>ac2 (i+d) f) d t.kind 0 t.kids) (fun l=>(fun r2:LT×Int=>ab (!(r2.2==0)) (I (noT,r2.2)) (eE (acM (j0 fun d f=>ac2 (i+d) f) (j0 fun d f=>ac2 (i+d) f) d t.kind t.sys) (fun s=>I (.mk t.kind t.n t.name J r2.1 s,0)) fun e=>I (noT,e))) (l,0)) fun e=>(fun r2:LT×Int=>ab (!(r2.2==0)) (I (noT,r2.2)) (eE (acM (j0 fun d f=>ac2 (i+d) f) (j0 fun d f=>ac2 (i+d) f) d t.kind t.sys) (fun s=>I (.mk t.kind t.n t.name J r2.1 s,0)) fun e=>I (noT,e))) ([],e)) fun e=>I (noT,e)) ?_
  rw [AS]
  refine ad3 (fun J _=> ?_) fun e _=>rfl
  refine alQ (AM (β:=OS S) (γ:=Unit) (aig (j0 fun d f=>ac2 (i+d) f) (j0 fun d f=>ac2 (i+d) f) d t.kind 0 t.kids) (fun e he=>Ug mo mo he) [] (fun l=>eE (acM (j0 fun d f=>ac2 (i+d) f) (j0 fun d f=>ac2 (i+d) f) d t.kind t.sys) (fun s=>I (.mk t.kind t.n t.name J l s,0)) fun e=>I (noT,e)) fun e=>I (noT,e)) ?_
  simp only [AS,aP]
end Go.Proofs.YtgmmefmmnakbpaaGreatDoor
