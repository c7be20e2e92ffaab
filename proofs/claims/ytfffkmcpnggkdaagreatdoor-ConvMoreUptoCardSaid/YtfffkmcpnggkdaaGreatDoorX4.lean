/- Part 4 of a proof; sources: wip/. -/
import Derived.Test.YtfffkmcpnggkdaaGreatDoorX3
open Bool renaming and_eq_true→qk,not_false→sV,not_true→va
open ByteArray renaming empty→pf
open Eq renaming trans→po
open Go.IntKind renaming wrap→ot
open Int renaming toNat→zk,toNat_natCast→Ej
open List renaming all_eq_true→xo,length_eq_zero_iff→Iu,mem_cons→xF,nil_append→zg
open Nat renaming le_refl→xt,zero_add→EJ
open Option renaming bind→oa,bind_some→ql
set_option linter.unusedVariables false
set_option linter.unusedSimpArgs false
namespace Go.Proofs.YtfffkmcpnggkdaaGreatDoor
set_option maxRecDepth 100000
open Go PI
section
open Go PI _root_.Go.Proofs.Tryz
noncomputable section
variable {S:Type} {o:Obj} (k:Nat)
def Ot:Rw S:=aj pW xn fun kind kids Z=>aa k (zc k kind kids) (aE Z)
def UN:Fx S:=fx 8 (fun _=>[]) (fun _=>false) [] [] k f41 true [] 0
theorem Di (ho:ai o):Tl o 41 (Ot k:Rw S):=ow (UN k) trivial func41 fun kind kids Z x h=>pz h
def Ou:Rw S:=aj Ls fh fun t c0 Z=>aa k (aJ k t c0) (AV Z)
def Cn:Fx S:=fp 50 [(41,Ot k),(65,Oq k),(137,P2 k)] [] k f78 1
theorem aaG (ho:ai o):Tl o 78 (Ou k:Rw S):=ow (Cn k) ⟨Di k ho,fB k ho,acb k ho,trivial⟩ func78 fun t c0 Z x h=>pz h
def Ow:Rw S:=aj eo xn fun rf Z=>aa k (aW k rf) (da Z)
def UP:Fx S:=fp 18 [] [] k f77 0
theorem aaI (ho:ai o):Tl o 77 (Ow k:Rw S):=ow (UP k) trivial func77 fun rf Z x h=>pz h
def Ox:Rw S:=aj Ls fh fun t c0 Z=>aa k (cA k t c0) (AV Z)
def UQ:Fx S:=fp 38 [(64,jx k),(77,Ow k)] [] k f73 1
theorem aaJ (ho:ai o):Tl o 73 (Ox k:Rw S):=ow (UQ k) ⟨j8 k ho,aaI k ho,trivial⟩ func73 fun t c0 Z x h=>pz h
def vD:Rw S:=aj EA xn fun t Z=>aa k (bA k t) (SG Z)
def UR:Fx S:=fp 22 [(41,Ot k),(77,Ow k)] [] k f74 0
theorem aFe (ho:ai o):Tl o 74 (vD k:Rw S):=ow (UR k) ⟨Di k ho,aaI k ho,trivial⟩ func74 fun t Z x h=>pz h
def Oy:Rw S:=aj adY xn fun kind rf kids Z=>aa k (tO k kind rf kids) (vC Z)
def US:Fx S:=fx 11 (fun _=>[]) (fun _=>false) [] [] k f66 true [] 0
theorem M3 (ho:ai o):Tl o 66 (Oy k:Rw S):=ow (US k) trivial func66 fun kind rf kids Z x h=>pz h
def Oz:Rw S:=aj EA xn fun t Z=>aa k (hF k t) (SG Z)
def mI:Fx S:=fp 36 [(66,Oy k)] [] k f75 0
theorem aaL (ho:ai o):Tl o 75 (Oz k:Rw S):=ow (mI k) ⟨M3 k ho,trivial⟩ func75 fun t Z x h=>pz h
def Gf:Rw S:=aj EA xn fun t Z=>aa k (h6 k t) (SG Z)
def jN:Fx S:=fp 48 [(41,Ot k),(66,Oy k)] [] k f76 0
theorem aFf (ho:ai o):Tl o 76 (Gf k:Rw S):=ow (jN k) ⟨Di k ho,M3 k ho,trivial⟩ func76 fun t Z x h=>pz h
def OA:Rw S:=aj Ls fh fun t c0 Z=>aa k (cD k t c0) (AV Z)
def UT:Fx S:=fp 120 [(38,P1 k),(73,Ox k),(74,vD k),(75,Oz k),(76,Gf k),(77,Ow k),(78,Ou k)] [] k f33 1
theorem aaM (ho:ai o):Tl o 33 (OA k:Rw S):=ow (UT k) ⟨c' k ho,aaJ k ho,aFe k ho,aaL k ho,aFf k ho,aaI k ho,aaG k ho,trivial⟩ func33 fun t c0 Z x h=>pz h
def Gg:Rw S:=aj Ls fh fun t c0 Z=>aa k (ly k t c0) (AW Z)
def mJ:Fx S:=fp 20 [(14,PK k),(34,PL (dJ k)),(81,P0 k),(82,IE k)] [] k f35 1
theorem SA (ho:ai o):Tl o 35 (Gg k:Rw S):=ow (mJ k) ⟨HN k ho,IG o ho k,K5 k ho,KX k ho,trivial⟩ func35 fun t c0 Z x h=>pz h
def vE:Rw S:=aj EA xn fun t Z=>aa k (qG k t) (AX Z)
def UV:Fx S:=fp 33 [(14,PK k),(33,OA k),(34,PL (dJ k)),(35,Gg k)] [] k f20 0
theorem aFg (ho:ai o):Tl o 20 (vE k:Rw S):=ow (UV k) ⟨HN k ho,aaM k ho,IG o ho k,SA k ho,trivial⟩ func20 fun t Z x h=>pz h
def OB:Rw S:=aj r0 xn fun t vars nV Z=>aa k (x8 k t vars nV) (da Z)
def UW:Fx S:=fp 28 [(25,Qg k),(26,GI (ic k))] [] k f54 0
theorem aaN (ho:ai o):Tl o 54 (OB k:Rw S):=ow (UW k) ⟨eX9 k ho,azl o ho k,trivial⟩ func54 fun t vars nV Z x h=>pz h
def OD:Rw S:=aj adZ xn fun defs t Z=>aa k (cR k defs t) (SG Z)
def mK:Fx S:=fp 32 [(34,PL (dJ k)),(54,OB k)] [(4,⟨[(3,nP),(4,nP),(12,nP),(13,nP),(14,nP)],[(3,[nP,nP,nP,nP,nP,nP]),(4,[nP,nP,nP,qn 200259,qn 200260,qn 200261])]⟩,ap 5 11)] k f24 0
def Fv (t:Tm) (defs:List Df) (q:Int):St UU:=⟨[(3,(pt 3)),(4,(pt 4)),(12,(km defs .none)),(13,(iI defs.length)),(14,(iI q))],[(3,bT t),(4,.cells [(iI 0),(iI 0),zu,(.own 200259 0),(.own 200260 0),(.own 200261 0)])],[(200261,xO),(200260,zm),(200259,xX)],[(200261,.wr),(200260,.wr),(200259,.wr)]⟩
section
variable (k:Nat) (defs:List Df) (t:Tm) (Z:Out UU->Option S)
theorem Xn: ∀n q,(mK k).lp Z 4 [] n (Fv t defs q)=bM k (SG Z) t defs n q:=cF (cr k (SG Z) t defs)
end
theorem aaP (ho:ai o):Tl o 24 (OD k:Rw S):=ow (mK k) ⟨IG o ho k,aaN k ho,trivial⟩ func24 fun defs t Z x h=>po (b:=aAq k (SG Z) (fun q=>(mK k).lp Z 4 [] k (Fv t defs q)) defs t) (by kernel_rfl) (po (by simp only [Xn];rfl) (al h))
def OE:Rw S:=aj pW xn fun kind kids Z=>aa k (wv k kind kids) (aE Z)
def UY:Fx S:=fx 8 (fun _=>[]) (fun _=>false) [] [] k f140 true [] 0
theorem Nv (ho:ai o):Tl o 140 (OE k:Rw S):=ow (UY k) trivial func140 fun kind kids Z x h=>pz h
def OF:Rw S:=aj Lk xn fun sys Z=>aa k (N2 k sys) (AY Z)
def UZ:Fx S:=fx 8 (fun _=>[]) (fun _=>false) [(140,OE k)] [] k f139 true [] 0
theorem aaR (ho:ai o):Tl o 139 (OF k:Rw S):=ow (UZ k) ⟨Nv k ho,trivial⟩ func139 fun sys Z x h=>pz h
def OG:Rw S:=aj Lt fh fun xx c0 Z=>aa k (iZ k xx c0) (cO Z)
def U0:Fx S:=fp 13 [] [] k f194 1
theorem RN (ho:ai o):Tl o 194 (OG k:Rw S):=ow (U0 k) trivial func194 fun xx c0 Z x h=>pz h
def OH:Rw S:=aj EW xn fun l Z=>aa k (m9 k l) (AZ Z)
def U1:Fx S:=fp 22 [(14,PK k),(194,OG k)] [(3,aS [3,8,9,10] [(7,1)],ap 5 11)] k f138 0
def aBI (l:List Tm) (q qm:Int):St UU:=⟨[(3,(pt 7)),(8,(sT l)),(9,(iI l.length)),(10,(iI qm))],[(7,bI q)],[],[]⟩
section
variable (k:Nat) (l:List Tm) (Z:Out UU->Option S)
theorem aDL: ∀n q qm,(U1 k).lp Z 3 [] n (aBI l q qm)=pY k (AZ Z) l n q qm:=aL (wL k (AZ Z) l)
end
theorem ia (ho:ai o):Tl o 138 (OH k:Rw S):=ow (U1 k) ⟨HN k ho,RN k ho,trivial⟩ func138 fun l Z x h=>po (b:=Hs k (AZ Z) (fun q qm=>(U1 k).lp Z 3 [] k (aBI l q qm)) l) (by kernel_rfl) (po (by simp only [aDL];rfl) (al h))
def OI:Rw S:=aj EX fh fun c0 Z=>aa k (de k c0) (kT c0 Z)
def Co:Fx S:=fp 8 [] [] k f142 1
theorem RM (ho:ai o):Tl o 142 (OI k:Rw S):=ow (Co k) trivial func142 fun c0 Z x h=>pz h
def Gi:Rw S:=aj ad0 fh fun t vars nV c0 Z=>aa k (Bw k t vars nV c0) (AQ Z)
def U2:Fx S:=fp 30 [(87,vO k),(142,OI k),(194,OG k)] [] k f141 1
theorem JW (ho:ai o):Tl o 141 (Gi k:Rw S):=ow (U2 k) ⟨azd k ho,RM k ho,RN k ho,trivial⟩ func141 fun t vars nV c0 Z x h=>pz h
def OJ:Rw S:=aj Ls fh fun t c0 Z=>aa k (eQ k t c0) (aie Z)
def U3:Fx S:=fp 28 [(14,PK k),(142,OI k),(194,OG k)] [] k f145 1
theorem iL (ho:ai o):Tl o 145 (OJ k:Rw S):=ow (U3 k) ⟨HN k ho,RM k ho,RN k ho,trivial⟩ func145 fun t c0 Z x h=>pz h
def OK:Rw S:=aj Lu fh fun f c0 Z=>aa k (tA k f c0) (y' Z)
def Cp:Fx S:=fp 23 [(142,OI k),(160,PP k),(194,OG k)] [] k f143 1
theorem aaW (ho:ai o):Tl o 143 (OK k:Rw S):=ow (Cp k) ⟨RM k ho,jw k ho,RN k ho,trivial⟩ func143 fun f c0 Z x h=>pz h
def OL:Rw S:=aj adI r8 fun c0 c1 c2 Z=>aa k (yX k c0 c1 c2) (aCG c0 c1 c2 Z)
def U4:Fx S:=fp 10 [(148,PR (dk k))] [] k f149 3
theorem aaX (ho:ai o):Tl o 149 (OL k:Rw S):=ow (U4 k) ⟨dy o ho k,trivial⟩ func149 fun c0 c1 c2 Z x h=>pz h
def Gj:Rw S:=aj ad2 r8 fun t numbers c0 c1 c2 Z=>aa k (yZ k t numbers c0 c1 c2) (RL c0 c1 c2 Z)
def U5:Fx S:=⟨⟨30,(fun _=>[]),(fun _=>false),nP,fun|6=>true|7=>true|_=>false⟩,[(14,PK k),(149,OL k)],[(5,⟨[(2,nP),(6,nP),(7,nP),(17,nP),(18,nP),(19,nP)],[(1000000,[nP]),(1000001,[nP,nP,nP,nP,nP,nP]),(1000002,[nP]),(5000006,[nP,nP,nP,qn 320200387,qn 320200388,qn 320200389]),(5000007,[nP])]⟩,ap 5 11)],k,f146,false,[],3,some (o9 16 195 f195 k)⟩
def aBJ (c0:Int) (c1:Tm) (c2:Int) (numbers:List Int) (q:Int):St UU:=⟨[(2,(.func 149 [] [(pt 1000000),(pt 1000001),(pt 1000002)])),(6,(pt 5000006)),(7,(pt 5000007)),(17,(la numbers .none)),(18,(iI numbers.length)),(19,(iI q))],[(1000000,bI c0),(1000001,bT c1),(1000002,bI c2),(5000006,.cells [(iI 0),(iI 0),zu,(.own 320200387 0),(.own 320200388 0),(.own 320200389 0)]),(5000007,bI 0)],[(320200389,xO),(320200388,zm),(320200387,xX)],[(320200389,.wr),(320200388,.wr),(320200387,.wr)]⟩
section
variable (k:Nat) (t:Tm) (numbers:List Int) (c0:Int) (c1:Tm) (c2:Int) (Z:Out UU->Option S)
theorem aDM: ∀n q,(U5 k).lp Z 5 [] n (aBJ c0 c1 c2 numbers q)=nC k (RL c0 c1 c2 Z) c0 c1 c2 numbers n q:=cF (xa k (RL c0 c1 c2 Z) c0 c1 c2 numbers)
end
theorem JX (ho:ai o):Tl o 146 (Gj k:Rw S):=BZ (U5 k) rfl (yn o func195 (by kernel_rfl)) ⟨HN k ho,aaX k ho,trivial⟩ func146 (by kernel_rfl) fun t numbers c0 c1 c2 Z x h=>po (b:=BQ k (RL c0 c1 c2 Z) (fun q=>(U5 k).lp Z 5 [] k (aBJ c0 c1 c2 numbers q)) t numbers c0 c1 c2) (by kernel_rfl) (po (by simp only [aDM];rfl) (al h))
def Gk:Rw S:=aj r0 xn fun t oE qx Z=>aa k (lv k t oE qx) (BB Z)
def rV:Fx S:=fp 16 [(146,Gj k)] [] k f85 0
theorem JY (ho:ai o):Tl o 85 (Gk k:Rw S):=ow (rV k) ⟨JX k ho,trivial⟩ func85 fun t oE qx Z x h=>pz h
def ON:Rw S:=aj Lr fh fun line rf c0 Z=>aa k (lr k line rf c0) (AQ Z)
def U6:Fx S:=fp 44 [(85,Gk k),(129,Oo k),(142,OI k),(194,OG k)] [] k f144 1
theorem aaZ (ho:ai o):Tl o 144 (ON k:Rw S):=ow (U6 k) ⟨JY k ho,fC k ho,RM k ho,RN k ho,trivial⟩ func144 fun line rf c0 Z x h=>pz h
def OO:Rw S:=aj aBy xn fun t a sys Z=>aa k (yy k t a sys) (BB Z)
def U7:Fx S:=fp 76 [(138,OH k),(139,OF k),(140,OE k),(141,Gi k),(142,OI k),(143,OK k),(144,ON k),(145,OJ k)] [(4,⟨[(4,nP),(6,nP),(8,nP),(9,nP),(27,nP),(28,nP),(29,nP)],[(4,[nP,nP,nP,nP,nP,nP]),(6,[nP,nP,nP,qn 200387,qn 200388,qn 200389]),(9,[nP,nP,nP,qn 200579,nP,qn 200581]),(19000,[nP])]⟩,ap 6 23)] k f83 0
def aBK (a:Tm) (r5:Int×Int×ByteArray×List Tm) (sys:List (Br Tm)) (x:Int) (q:List (Br Tm)) (z:Int):St UU:=⟨[(4,(pt 4)),(6,(pt 6)),(8,(pt 19000)),(9,(pt 9)),(27,(sB sys)),(28,(iI sys.length)),(29,(iI z))],[(4,bT a),(6,.cells [(iI 0),(iI 0),zu,(.own 200387 0),(.own 200388 0),(.own 200389 0)]),(9,.cells [(iI r5.1),(iI r5.2.1),(.str r5.2.2.1),(.own 200579 0),(sT r5.2.2.2),(.own 200581 0)]),(19000,bI x)],[(200581,⟨0,ET.B,q⟩),(200579,xX),(200389,xO),(200388,zm),(200387,xX)],[(200581,.wr),(200579,.wr),(200389,.wr),(200388,.wr),(200387,.wr)]⟩
section
variable (k:Nat) (t a:Tm) (sys:List (Br Tm)) (Z:Out UU->Option S)
theorem aDN (r5): ∀n x q z,(U7 k).lp Z 4 [] n (aBK a r5 sys x q z)=gM k (BB Z) a r5 sys n x q z:=eW (oQ k (BB Z) a r5 sys)
end
theorem aa0 (ho:ai o):Tl o 83 (OO k:Rw S):=ow (U7 k) ⟨ia k ho,aaR k ho,Nv k ho,JW k ho,RM k ho,aaW k ho,aaZ k ho,iL k ho,trivial⟩ func83 fun t a sys Z x h=>po (b:=Hr k (BB Z) (fun B z q A=>(U7 k).lp Z 4 [] k (aBK a B sys z q A)) t a sys) (by kernel_rfl) (po (by simp only [aDN];rfl) (al h))
def OP:Rw S:=aj ad4 fh fun t a sys c0 Z=>aa k (y_ k t a sys c0) (AQ Z)
def U8:Fx S:=fp 21 [(81,P0 k),(82,IE k),(83,OO k)] [] k f36 1
theorem aa1 (ho:ai o):Tl o 36 (OP k:Rw S):=ow (U8 k) ⟨K5 k ho,KX k ho,aa0 k ho,trivial⟩ func36 fun t a sys c0 Z x h=>pz h
def OQ:Rw S:=aj adI r8 fun c0 c1 c2 Z=>aa k (yY k c0 c1 c2) (aCG c0 c1 c2 Z)
def U9:Fx S:=fp 10 [(148,PR (dk k))] [] k f147 3
theorem aa2 (ho:ai o):Tl o 147 (OQ k:Rw S):=ow (U9 k) ⟨dy o ho k,trivial⟩ func147 fun c0 c1 c2 Z x h=>pz h
def OR:Rw S:=aj ad5 r8 fun t numbers c0 c1 c2 Z=>aa k (q3 k t numbers c0 c1 c2) (RL c0 c1 c2 Z)
def U_:Fx S:=⟨⟨30,(fun _=>[]),(fun _=>false),nP,fun|6=>true|7=>true|_=>false⟩,[(14,PK k),(147,OQ k)],[(5,⟨[(2,nP),(6,nP),(7,nP),(17,nP),(18,nP),(19,nP)],[(1000000,[nP]),(1000001,[nP,nP,nP,nP,nP,nP]),(1000002,[nP]),(5000006,[nP,nP,nP,qn 320200387,qn 320200388,qn 320200389]),(5000007,[nP])]⟩,ap 5 11)],k,f146,false,[],3,some (o9 16 195 f195 k)⟩
def aBL (c0:Int) (c1:Tm) (c2:Int) (numbers:List Int) (q:Int):St UU:=⟨[(2,(.func 147 [] [(pt 1000000),(pt 1000001),(pt 1000002)])),(6,(pt 5000006)),(7,(pt 5000007)),(17,(la numbers .none)),(18,(iI numbers.length)),(19,(iI q))],[(1000000,bI c0),(1000001,bT c1),(1000002,bI c2),(5000006,.cells [(iI 0),(iI 0),zu,(.own 320200387 0),(.own 320200388 0),(.own 320200389 0)]),(5000007,bI 0)],[(320200389,xO),(320200388,zm),(320200387,xX)],[(320200389,.wr),(320200388,.wr),(320200387,.wr)]⟩
section
variable (k:Nat) (t:Tm) (numbers:List Int) (c0:Int) (c1:Tm) (c2:Int) (Z:Out UU->Option S)
theorem aDO: ∀n q,(U_ k).lp Z 5 [] n (aBL c0 c1 c2 numbers q)=nD k (RL c0 c1 c2 Z) c0 c1 c2 numbers n q:=cF (xb k (RL c0 c1 c2 Z) c0 c1 c2 numbers)
end
theorem aa3 (ho:ai o):Tl o 146 (OR k:Rw S):=BZ (U_ k) rfl (yn o func195 (by kernel_rfl)) ⟨HN k ho,aa2 k ho,trivial⟩ func146 (by kernel_rfl) fun t numbers c0 c1 c2 Z x h=>po (b:=BR k (RL c0 c1 c2 Z) (fun q=>(U_ k).lp Z 5 [] k (aBL c0 c1 c2 numbers q)) t numbers c0 c1 c2) (by kernel_rfl) (po (by simp only [aDO];rfl) (al h))
def aCQ:Rw S:=aj r0 xn fun t oE qx Z=>aa k (jo k t oE qx) (BB Z)
def Va:Fx S:=fp 18 [(146,OR k)] [] k f84 0
theorem aa4 (ho:ai o):Tl o 84 (aCQ k:Rw S):=ow (Va k) ⟨aa3 k ho,trivial⟩ func84 fun t oE qx Z x h=>pz h
def OT:Rw S:=aj ad0 fh fun t vars nV c0 Z=>aa k (RU k t vars nV c0) (AQ Z)
def Cq:Fx S:=fp 32 [(81,P0 k),(82,IE k),(84,aCQ k),(85,Gk k)] [] k f37 1
theorem aa5 (ho:ai o):Tl o 37 (OT k:Rw S):=ow (Cq k) ⟨K5 k ho,KX k ho,aa4 k ho,JY k ho,trivial⟩ func37 fun t vars nV c0 Z x h=>pz h
def A3:Rw S:=aj ad0 fh fun t vars nV c0 Z=>aa k (zb k t vars nV c0) (AQ Z)
def Cr:Fx S:=fp 21 [(81,P0 k),(82,IE k),(87,vO k)] [] k f40 1
theorem D_ (ho:ai o):Tl o 40 (A3 k:Rw S):=ow (Cr k) ⟨K5 k ho,KX k ho,azd k ho,trivial⟩ func40 fun t vars nV c0 Z x h=>pz h
def vF:Rw S:=aj ad6 aJv fun p qx sQ c0 c1 c3 Z=>aa k (nc k p qx sQ c0 c1 c3) (A0 c0 c1 Z)
def Ct:Fx S:=fx 42 (fun _=>[]) (fun _=>false) [(40,A3 k),(41,Ot k)] [(3,⟨[(1,nP),(3,nP),(5,nP),(8,nP),(9,nP),(10,some (100010,false)),(18,nP),(19,nP),(20,nP)],[(8,[nP,nP,nP,nP,nP,nP]),(9,[nP,nP,nP,qn 200579,qn 200580,qn 200581]),(1000000,[nP,nP,nP,nP,nP,nP]),(1000001,[nP]),(1000002,[nP]),(1000003,[nP])]⟩,ap 5 11)] k f39 true [] 4
def Me (c0:Tm) (c1:Int) (sQ:Tm) (qx:Int) (x:Int) (q:List Tm) (xp:Int):St UU:=⟨[(1,(iI qx)),(3,(pt 1000000)),(5,(pt 1000002)),(8,(pt 8)),(9,(pt 9)),(10,(.own 100010 0)),(18,(dO (List.drop (zk 1) (List.take (zk c1) c0.c)) .none)),(19,(.int .i64 ((List.drop (zk 1) (List.take (zk c1) c0.c)).length:Int))),(20,(iI xp))],[(8,bT sQ),(9,.cells [(iI 0),(iI 0),zu,(.own 200579 0),(.own 200580 0),(.own 200581 0)]),(1000000,bT c0),(1000001,bI c1),(1000002,.cells [(pt 1000003)]),(1000003,bI x)],[(200581,xO),(200580,zm),(200579,xX),(100010,⟨0,ET.T,q⟩)],[(200581,.wr),(200580,.wr),(200579,.wr),(100010,.app)]⟩
section
variable (k:Nat) (p:Tm) (qx:Int) (sQ c0:Tm) (c1 c3:Int) (Z:Out UU->Option S)
theorem Xy: ∀n x q xp,(Ct k).lp Z 3 [] n (Me c0 c1 sQ qx x q xp)=Na k (A0 c0 c1 Z) c0 c1 sQ qx n x q xp:=eW (mu k (A0 c0 c1 Z) c0 c1 sQ qx)
end
theorem aFh (ho:ai o):Tl o 39 (vF k:Rw S):=ow (Ct k) ⟨D_ k ho,Di k ho,trivial⟩ func39 fun p qx sQ c0 c1 c3 Z x h=>po (b:=BP k (A0 c0 c1 Z) (fun z q xp=>(Ct k).lp Z 3 [] k (Me c0 c1 sQ qx z q xp)) p qx sQ c0 c1 c3) (by kernel_rfl) (po (by simp only [Xy];rfl) (al h))
def OV:Rw S:=aj Lv xn fun f kids Z=>aa k (wm k f kids) (aii Z)
def Cu:Fx S:=fp 8 [] [] k f42 0
theorem H4 (ho:ai o):Tl o 42 (OV k:Rw S):=ow (Cu k) trivial func42 fun f kids Z x h=>pz h
def OW:Rw S:=aj Ls fh fun line c0 Z=>aa k (yz k line c0) (AQ Z)
def Vc:Fx S:=fp 25 [(129,Oo k),(130,Bg k),(142,OI k),(194,OG k)] [] k f156 1
theorem aa8 (ho:ai o):Tl o 156 (OW k:Rw S):=ow (Vc k) ⟨fC k ho,Em k ho,RM k ho,RN k ho,trivial⟩ func156 fun line c0 Z x h=>pz h
def Gl:Rw S:=aj aBy xn fun line a sys Z=>aa k (yx k line a sys) (BB Z)
def mL:Fx S:=fp 78 [(34,PL (dJ k)),(138,OH k),(139,OF k),(140,OE k),(142,OI k),(144,ON k),(145,OJ k),(156,OW k)] [(5,⟨[(3,nP),(6,nP),(8,nP),(9,nP),(36,nP),(37,nP),(38,nP)],[(3,[nP,nP,nP,nP,nP,nP]),(6,[nP,nP,nP,qn 200387,qn 200388,qn 200389]),(9,[nP,nP,nP,qn 200579,nP,qn 200581]),(19000,[nP])]⟩,ap 7 47)] k f88 0
def Fw (r3:Tm) (r9:Int×Int×ByteArray×List Tm) (r6:Tm) (x:Int) (q:List (Br Tm)) (Km:Int):St UU:=⟨[(3,(pt 3)),(6,(pt 6)),(8,(pt 19000)),(9,(pt 9)),(36,(sB r6.s)),(37,(iI r6.s.length)),(38,(iI Km))],[(3,bT r3),(6,.cells [(iI 0),(iI 0),zu,(.own 200387 0),(.own 200388 0),(.own 200389 0)]),(9,.cells [(iI r9.1),(iI r9.2.1),(.str r9.2.2.1),(.own 200579 0),(sT r9.2.2.2),(.own 200581 0)]),(19000,bI x)],[(200581,⟨0,ET.B,q⟩),(200579,xX),(200389,xO),(200388,zm),(200387,xX)],[(200581,.wr),(200579,.wr),(200389,.wr),(200388,.wr),(200387,.wr)]⟩
section
variable (k:Nat) (line a:Tm) (sys:List (Br Tm)) (Z:Out UU->Option S)
theorem XA (r3 r9 r6): ∀n x q Km,(mL k).lp Z 5 [] n (Fw r3 r9 r6 x q Km)=ko k (BB Z) r3 r9 r6 n x q Km:=eW (oP k (BB Z) r3 r9 r6)
end
theorem aFi (ho:ai o):Tl o 88 (Gl k:Rw S):=ow (mL k) ⟨IG o ho k,ia k ho,aaR k ho,Nv k ho,RM k ho,aaZ k ho,iL k ho,aa8 k ho,trivial⟩ func88 fun line a sys Z x h=>po (b:=Hq k (BB Z) (fun A B E z q Km=>(mL k).lp Z 5 [] k (Fw A B E z q Km)) line a sys) (by kernel_rfl) (po (by simp only [XA];rfl) (al h))
def A4:Rw S:=aj ad4 fh fun line a sys c0 Z=>aa k (y9 k line a sys c0) (AQ Z)
def mN:Fx S:=fp 21 [(81,P0 k),(82,IE k),(88,Gl k)] [] k f43 1
theorem s5 (ho:ai o):Tl o 43 (A4 k:Rw S):=ow (mN k) ⟨K5 k ho,KX k ho,aFi k ho,trivial⟩ func43 fun line a sys c0 Z x h=>pz h
def A5:Rw S:=aj EA xn fun t Z=>aa k (tL k t) (AX Z)
def mO:Fx S:=fp 119 [(14,PK k),(34,PL (dJ k)),(35,Gg k),(36,OP k),(37,OT k),(38,P1 k),(39,vF k),(42,OV k),(43,A4 k)] [(1000007,⟨[(1,nP),(2,nP),(6,nP)],[(1,[nP,nP,nP,nP,nP,nP]),(2,[nP,nP,nP,qn 200131,qn 200132,qn 200133]),(6,[nP])]⟩,ap 4 15),(17,⟨[(2,nP),(8,nP),(10,nP),(11,nP),(12,nP),(13,nP),(14,qn 100014),(88,nP),(89,nP),(90,nP)],[(1,[nP,nP,nP,nP,nP,nP]),(2,[nP,nP,nP,qn 200131,qn 200132,qn 200133]),(6,[nP]),(8,[nP]),(10,[nP,nP,nP,nP,nP,nP]),(11,[nP,nP,nP,nP,nP,nP]),(13,[nP,nP,nP,qn 200835,nP,qn 200837]),(53,[nP])]⟩,ap 16 24575)] k f21 0
def Fz (t:Tm):St UU:=⟨[(1,(pt 1)),(2,(pt 2)),(6,(pt 6))],[(1,bT t),(2,.cells [(iI 0),(iI 0),zu,(.own 200131 0),(.own 200132 0),(.own 200133 0)]),(6,.cells [(.int .i64 (ot .i64 ((t.c.length:Int)-1)))])],[(200133,xO),(200132,zm),(200131,xX)],[(200133,.wr),(200132,.wr),(200131,.wr)]⟩
def anJ (r3:Tm) (r9 Am:Tm×Int) (r13:Int×Int×ByteArray×List Tm×Int) (t x4:Tm) (x:Int) (q:List (Br Tm)) (xk:Int):St UU:=⟨[(2,(pt 2)),(8,(pt 8)),(10,(pt 10)),(11,(pt 11)),(12,(.func 39 [] [(pt 1),(pt 6),(pt 8)])),(13,(pt 13)),(14,(.own 100014 0)),(88,(sB x4.s)),(89,(iI x4.s.length)),(90,(iI xk))],[(1,bT r3),(2,.cells [(iI 0),(iI 0),zu,(.own 200131 0),(.own 200132 0),(.own 200133 0)]),(6,.cells [(.int .i64 (ot .i64 ((t.c.length:Int)-1)))]),(8,.cells [(pt 53)]),(10,bT r9.1),(11,bT Am.1),(13,.cells [(iI r13.1),(iI r13.2.1),(.str r13.2.2.1),(.own 200835 0),(sT r13.2.2.2.1),(.own 200837 0)]),(53,bI x)],[(200837,xO),(200835,xX),(200133,xO),(200132,zm),(200131,xX),(100014,⟨0,ET.B,q⟩)],[(200837,.wr),(200835,.wr),(200133,.wr),(200132,.wr),(200131,.wr),(100014,.wr)]⟩
section
variable (k:Nat) (t:Tm) (Z:Out UU->Option S)
theorem XH (r3 r9 Am r13 x4): ∀n x q xk,(mO k).lp Z 17 [] n (anJ r3 r9 Am r13 t x4 x q xk)=fX k (AX Z) r3 r9 Am r13 t x4 n x q xk:=eW (oR k (AX Z) r3 r9 Am r13 t x4)
theorem XG: ∀n,(mO k).jn Z 1000007 [] n (Fz t)=l6 k (AX Z) t n:=gL (w_ k (AX Z) t (fun B E x r13 x4 z q A=>fX k (AX Z) B E x r13 t x4 k z q A)) rfl (fun _=>rfl) (po (b:=w_ k (AX Z) t (fun B E x r13 x4 z q A=>(mO k).lp Z 17 [] k (anJ B E x r13 t x4 z q A))) (by kernel_rfl) (by simp only [XH]))
end
theorem aFj (ho:ai o):Tl o 21 (A5 k:Rw S):=ow (mO k) ⟨HN k ho,IG o ho k,SA k ho,aa1 k ho,aa5 k ho,c' k ho,aFh k ho,H4 k ho,s5 k ho,trivial⟩ func21 fun t Z x h=>po (b:=HU k (AX Z) ((mO k).jn Z 1000007 [] k (Fz t)) t) (by kernel_rfl) (po (by simp only [XG];rfl) (al h))
def OX:Rw S:=aj Mr xn fun qu Z=>aa k (Nq k qu) (aCH Z)
def aOc:Fx S:=fx 5 (fun _=>[]) (fun _=>false) [] [] k f63 true [] 0
theorem D2 (ho:ai o):Tl o 63 (OX k:Rw S):=ow (aOc k) trivial func63 fun qu Z x h=>pz h
def Gm:Rw S:=aj adD xn fun l Z=>aa k (Z2 k l) (da Z)
def Ve:Fx S:=fp 15 [(125,PG k)] [(2,aS [5,6,7] [],ap 4 5)] k f135 0
def aBM (l:List (List Cl)) (q:Int):St UU:=⟨[(5,(Hm l .none)),(6,(iI l.length)),(7,(iI q))],[],[],[]⟩
section
variable (k:Nat) (l:List (List Cl)) (Z:Out UU->Option S)
theorem aDP: ∀n q,(Ve k).lp Z 2 [] n (aBM l q)=mc k (da Z) l n q:=cF (o6 k (da Z) l)
end
theorem JZ (ho:ai o):Tl o 135 (Gm k:Rw S):=ow (Ve k) ⟨hG k ho,trivial⟩ func135 fun l Z x h=>po (b:=az8 k (da Z) (fun q=>(Ve k).lp Z 2 [] k (aBM l q)) l) (by kernel_rfl) (po (by simp only [aDP];rfl) (al h))
def OY:Rw S:=aj jk xn fun f g Z=>aa k (y0 k f g) (ub Z)
def Vf:Fx S:=fp 19 [(135,Gm k),(183,GS k)] [] k f131 0
theorem aa_ (ho:ai o):Tl o 131 (OY k:Rw S):=ow (Vf k) ⟨JZ k ho,Kx k ho,trivial⟩ func131 fun f g Z x h=>pz h
def OZ:Rw S:=aj ad8 fh fun f g c0 Z=>aa k (RA k f g c0) (y' Z)
def rW:Fx S:=fp 26 [(131,OY k),(142,OI k),(194,OG k)] [] k f232 1
theorem aba (ho:ai o):Tl o 232 (OZ k:Rw S):=ow (rW k) ⟨aa_ k ho,RM k ho,RN k ho,trivial⟩ func232 fun f g c0 Z x h=>pz h
def A6:Rw S:=aj ad9 xn fun line oe a Ih rf Z=>aa k (n1 k line oe a Ih rf) (BB Z)
def Cv:Fx S:=fp 49 [(125,PG k),(138,OH k),(140,OE k),(141,Gi k),(143,OK k),(144,ON k),(145,OJ k),(194,OG k),(232,OZ k)] [] k f200 0
theorem Ea (ho:ai o):Tl o 200 (A6 k:Rw S):=ow (Cv k) ⟨hG k ho,ia k ho,Nv k ho,JW k ho,aaW k ho,aaZ k ho,iL k ho,RN k ho,aba k ho,trivial⟩ func200 fun line oe a Ih rf Z x h=>pz h
def O0:Rw S:=aj ad_ xn fun line oe a Z=>aa k (xx k line oe a) (BB Z)
def Vh:Fx S:=fp 18 [(200,A6 k)] [] k f157 0
theorem abb (ho:ai o):Tl o 157 (O0 k:Rw S):=ow (Vh k) ⟨Ea k ho,trivial⟩ func157 fun line oe a Z x h=>pz h
def Gp:Rw S:=aj aea fh fun line oe a c0 Z=>aa k (hR k line oe a c0) (AQ Z)
def Vi:Fx S:=fp 21 [(81,P0 k),(82,IE k),(157,O0 k)] [] k f89 1
theorem J8 (ho:ai o):Tl o 89 (Gp k:Rw S):=ow (Vi k) ⟨K5 k ho,KX k ho,abb k ho,trivial⟩ func89 fun line oe a c0 Z x h=>pz h
def aHE:Rw S:=aj mf h8 fun line a nX nU oU oT o0 oV oW nW Z=>aa k (Nf k line a nX nU oU oT o0 oV oW nW) (aM nX nU oU oT o0 oV oW nW Z)
def O1:Rw S:=aj mf h8 fun line a nX nU oU oT o0 oV oW nW Z=>aa k (Nf k line a nX nU oU oT o0 oV oW nW) (vC Z)
def Vj:Fx S:=fx 15 (fun _=>[]) (fun _=>false) [(66,Oy k)] [] k f90 true [] 1
theorem aFk (ho:ai o):Tl o 90 (aHE k:Rw S):=ow (Vj k) ⟨M3 k ho,trivial⟩ func90 fun line a nX nU oU oT o0 oV oW nW Z x h=>pz h
theorem abc (ho:ai o):Tl o 90 (O1 k:Rw S):=tlS (aFk k ho) fun line a nX nU oU oT o0 oV oW nW Z x h=>po (b:=aa k (Nf k line a nX nU oU oT o0 oV oW nW) (aM nX nU oU oT o0 oV oW nW (DB _ Z))) (by kernel_rfl) (po (congrArg (aa k (Nf k line a nX nU oU oT o0 oV oW nW)) (funext fun r=>if_pos rfl)) h)
def O2:Rw S:=aj Ls h8 fun l nX nU oU oT o0 oV oW nW Z=>aa k (q5 k l nX nU oU oT o0 oV oW nW) (azN nU oU oT o0 oV oW nW Z)
def Cw:Fx S:=fx 59 (fun _=>[]) (fun _=>false) [(37,OT k),(38,P1 k),(40,A3 k),(41,Ot k),(63,OX k),(64,jx k),(89,Gp k),(90,O1 k)] [] k f44 true [] 1
theorem abd (ho:ai o):Tl o 44 (O2 k:Rw S):=ow (Cw k) ⟨aa5 k ho,c' k ho,D_ k ho,Di k ho,D2 k ho,j8 k ho,J8 k ho,abc k ho,trivial⟩ func44 fun l nX nU oU oT o0 oV oW nW Z x h=>pz h
def O3:Rw S:=aj ad_ xn fun line oe a Z=>aa k (bf k line oe a) (BB Z)
def Vk:Fx S:=fp 17 [(200,A6 k)] [] k f158 0
theorem abe (ho:ai o):Tl o 158 (O3 k:Rw S):=ow (Vk k) ⟨Ea k ho,trivial⟩ func158 fun line oe a Z x h=>pz h
def am9:Rw S:=aj aea fh fun line oe a c0 Z=>aa k (x7 k line oe a c0) (AQ Z)
def mP:Fx S:=fp 21 [(81,P0 k),(82,IE k),(158,O3 k)] [] k f91 1
theorem nn (ho:ai o):Tl o 91 (am9 k:Rw S):=ow (mP k) ⟨K5 k ho,KX k ho,abe k ho,trivial⟩ func91 fun line oe a c0 Z x h=>pz h
def amL:Rw S:=aj Ls h8 fun l nX nU oU oT o0 oV oW nW Z=>aa k (o4 k l nX nU oU oT o0 oV oW nW) (azN nU oU oT o0 oV oW nW Z)
def Vl:Fx S:=fx 52 (fun _=>[]) (fun _=>false) [(38,P1 k),(41,Ot k),(90,O1 k),(91,am9 k)] [] k f45 true [] 1
theorem amQ (ho:ai o):Tl o 45 (amL k:Rw S):=ow (Vl k) ⟨c' k ho,Di k ho,abc k ho,nn k ho,trivial⟩ func45 fun l nX nU oU oT o0 oV oW nW Z x h=>pz h
def am_:Rw S:=aj EA xn fun t Z=>aa k (e1 k t) (BB Z)
def Vm:Fx S:=fp 21 [(85,Gk k),(129,Oo k)] [] k f159 0
theorem np (ho:ai o):Tl o 159 (am_ k:Rw S):=ow (Vm k) ⟨JY k ho,fC k ho,trivial⟩ func159 fun t Z x h=>pz h
def ani:Rw S:=aj Ls h8 fun t nX nU oU oT o0 oV oW nW Z=>aa k (k4 k t nX nU oU oT o0 oV oW nW) (aHn nU oU oT o0 oV oW nW Z)
def Cx:Fx S:=fp 25 [(159,am_ k)] [] k f93 1
theorem pJ (ho:ai o):Tl o 93 (ani k:Rw S):=ow (Cx k) ⟨np k ho,trivial⟩ func93 fun t nX nU oU oT o0 oV oW nW Z x h=>pz h
def Gq:Rw S:=aj adv aJl fun qx rf c1 c2 zw uu tZ tY tX tW tV tU Z=>aa k (ga k qx rf c1 c2 zw uu tZ tY tX tW tV tU) (aHo c1 c2 uu tZ tY tX tW tV tU Z)
def rX:Fx S:=fx 37 (fun _=>[]) (fun _=>false) [(40,A3 k),(66,Oy k)] [] k f92 true [] 4
theorem J9 (ho:ai o):Tl o 92 (Gq k:Rw S):=ow (rX k) ⟨D_ k ho,M3 k ho,trivial⟩ func92 fun qx rf c1 c2 zw uu tZ tY tX tW tV tU Z x h=>pz h
def Dd:Rw S:=aj adx fh fun f qx c0 Z=>aa k (JK k f qx c0) (y' Z)
def Cy:Fx S:=fp 23 [(81,P0 k),(82,IE k),(160,PP k)] [] k f94 1
theorem pK (ho:ai o):Tl o 94 (Dd k:Rw S):=ow (Cy k) ⟨K5 k ho,KX k ho,jw k ho,trivial⟩ func94 fun f qx c0 Z x h=>pz h
def O4:Rw S:=aj adK fh fun t qx c0 Z=>aa k (JJ k t qx c0) (AQ Z)
def Vo:Fx S:=fp 18 [(81,P0 k),(82,IE k),(85,Gk k)] [] k f95 1
theorem abf (ho:ai o):Tl o 95 (O4 k:Rw S):=ow (Vo k) ⟨K5 k ho,KX k ho,JY k ho,trivial⟩ func95 fun t qx c0 Z x h=>pz h
def anB:Rw S:=aj Ls h8 fun l nX nU oU oT o0 oV oW nW Z=>aa k (p4 k l nX nU oU oT o0 oV oW nW) (azN nU oU oT o0 oV oW nW Z)
def rY:Fx S:=fx 100 (fun _=>[]) (fun _=>false) [(41,Ot k),(42,OV k),(43,A4 k),(64,jx k),(92,Gq k),(93,ani k),(94,Dd k),(95,O4 k)] [] k f46 true [] 1
theorem um (ho:ai o):Tl o 46 (anB k:Rw S):=ow (rY k) ⟨Di k ho,H4 k ho,s5 k ho,j8 k ho,J9 k ho,pJ k ho,pK k ho,abf k ho,trivial⟩ func46 fun l nX nU oU oT o0 oV oW nW Z x h=>pz h
def Gr:Rw S:=aj ady xn fun kind l kids Z=>aa k (JM k kind l kids) (aCI Z)
def Cz:Fx S:=fx 11 (fun _=>[]) (fun _=>false) [] [] k f96 true [] 0
theorem J_ (ho:ai o):Tl o 96 (Gr k:Rw S):=ow (Cz k) trivial func96 fun kind l kids Z x h=>pz h
def vG:Rw S:=aj EA xn fun t Z=>aa k (JG k t) (AX Z)
def CA:Fx S:=fp 133 [(14,PK k),(34,PL (dJ k)),(35,Gg k),(42,OV k),(65,Oq k),(66,Oy k),(94,Dd k),(95,O4 k),(96,Gr k)] [(20,⟨[(1,nP),(2,nP),(6,nP),(8,nP),(9,nP),(10,nP),(11,qn 100011),(94,nP),(95,nP),(96,nP)],[(1,[nP,nP,nP,nP,nP,nP]),(2,[nP,nP,nP,qn 200131,qn 200132,qn 200133]),(6,[nP,nP,nP,nP,nP,nP]),(9,[nP,nP,nP,nP,nP,nP]),(10,[nP,nP,nP,nP,nP,qn 200645]),(44,[nP])]⟩,ap 21 769727)] k f47 0
def Mt (r3:Tm) (q:Int×Int×ByteArray×List Cl×List Tm) (x4:Tm) (r13:Tm×Int) (x5:Tm) (z:Int) (x:List (Br Tm)) (A:Int):St UU:=⟨[(1,(pt 1)),(2,(pt 2)),(6,(pt 6)),(8,(pt 44)),(9,(pt 9)),(10,(pt 10)),(11,(.own 100011 0)),(94,(sB x5.s)),(95,(iI x5.s.length)),(96,(iI A))],[(1,bT r3),(2,.cells [(iI 0),(iI 0),zu,(.own 200131 0),(.own 200132 0),(.own 200133 0)]),(6,bT x4),(9,bT r13.1),(10,.cells [(iI q.1),(iI q.2.1),(.str q.2.2.1),(sC q.2.2.2.1),(sT q.2.2.2.2),(.own 200645 0)]),(44,bI z)],[(200645,xO),(200133,xO),(200132,zm),(200131,xX),(100011,⟨0,ET.B,x⟩)],[(200645,.wr),(200133,.wr),(200132,.wr),(200131,.wr),(100011,.wr)]⟩
section
variable (k:Nat) (t:Tm) (Z:Out UU->Option S)
theorem XX (r3 x x4 r13 x5): ∀n z q A,(CA k).lp Z 20 [] n (Mt r3 x x4 r13 x5 z q A)=E7 k (AX Z) r3 x x4 r13 x5 n z q A:=eW (Jp k (AX Z) r3 x x4 r13 x5)
end
theorem zI (ho:ai o):Tl o 47 (vG k:Rw S):=ow (CA k) ⟨HN k ho,IG o ho k,SA k ho,H4 k ho,fB k ho,M3 k ho,pK k ho,abf k ho,J_ k ho,trivial⟩ func47 fun t Z x h=>po (b:=SP k (AX Z) (fun E z x4 r13 x5 A q B=>(CA k).lp Z 20 [] k (Mt E z x4 r13 x5 A q B)) t) (by kernel_rfl) (po (by simp only [XX];rfl) (al h))
def vH:Rw S:=aj adL xn fun b Z=>aa k (ay_ k b) (aii Z)
def Vp:Fx S:=fp 11 [(42,OV k)] [] k f171 0
theorem zJ (ho:ai o):Tl o 171 (vH k:Rw S):=ow (Vp k) ⟨H4 k ho,trivial⟩ func171 fun b Z x h=>pz h
def Gs:Rw S:=aj adz xn fun l Z=>aa k (R' k l) (u2 Z)
def eM:Fx S:=fx 22 (fun _=>[]) (fun _=>false) [(171,vH k)] [(3,⟨[(1,nP),(5,qn 100005),(8,nP),(9,nP),(10,nP)],[]⟩,ap 5 11)] k f112 false [true] 0
def Mu (l:List (Br Tm)) (qm:Int) (q:List (Br Tm)):St UU:=⟨[(1,(.func 171 [] [])),(5,(.own 100005 0)),(8,(sB l)),(9,(iI l.length)),(10,(iI qm))],[],[(100005,⟨0,ET.B,q⟩)],[(100005,.wr)]⟩
section
variable (k:Nat) (l:List (Br Tm)) (Z:Out UU->Option S)
theorem XY: ∀n qm q,(eM k).lp Z 3 [] n (Mu l qm q)=q8 k (u2 Z) l n qm q:=aL (b6 k (u2 Z) l)
end
theorem aFl (ho:ai o):Tl o 112 (Gs k:Rw S):=ow (eM k) ⟨zJ k ho,trivial⟩ func112 fun l Z x h=>po (b:=c9 k (u2 Z) (fun qm q=>(eM k).lp Z 3 [] k (Mu l qm q)) l) (by kernel_rfl) (po (by simp only [XY];rfl) (al h))
def anC:Rw S:=aj EA xn fun g Z=>aa k (SB k g) (aCJ Z)
def Vq:Fx S:=fp 6 [(112,Gs k)] [] k f111 0
theorem uo (ho:ai o):Tl o 111 (anC k:Rw S):=ow (Vq k) ⟨aFl k ho,trivial⟩ func111 fun g Z x h=>pz h
def Gt:Rw S:=aj gi xn fun a es Z=>aa k (Ni k a es) (aCI Z)
def CB:Fx S:=fx 9 (fun _=>[]) (fun _=>false) [(96,Gr k)] [] k f114 true [] 0
theorem Ka (ho:ai o):Tl o 114 (Gt k:Rw S):=ow (CB k) ⟨J_ k ho,trivial⟩ func114 fun a es Z x h=>pz h
def Gu:Rw S:=aj EU fh fun c c0 Z=>aa k (ay3 k c c0) (aHp c0 Z)
def CC:Fx S:=fp 14 [(219,GP k)] [] k f234 1
theorem Kb (ho:ai o):Tl o 234 (Gu k:Rw S):=ow (CC k) ⟨Ku k ho,trivial⟩ func234 fun c c0 Z x h=>pz h
def amV:Rw S:=aj aGj fh fun l c0 Z=>aa k (ay4 k l c0) (bt c0 Z)
def Vs:Fx S:=fp 29 [(234,Gu k)] [(3,⟨[(1,nP),(5,qn 100005),(10,nP),(11,nP),(12,nP)],[(1000000,[nP])]⟩,ap 5 11)] k f188 1
def aBN (c0:Int) (l:List Cl) (tg:Int) (q:List Cl):St UU:=⟨[(1,(.func 234 [] [(pt 1000000)])),(5,(.own 100005 0)),(10,(sC l)),(11,(iI l.length)),(12,(iI tg))],[(1000000,bI c0)],[(100005,⟨0,ET.C,q⟩)],[(100005,.wr)]⟩
section
variable (k:Nat) (l:List Cl) (c0:Int) (Z:Out UU->Option S)
theorem aDQ: ∀n tg q,(Vs k).lp Z 3 [] n (aBN c0 l tg q)=bF k (bt c0 Z) c0 l n tg q:=aL (b4 k (bt c0 Z) c0 l)
end
theorem am3 (ho:ai o):Tl o 188 (amV k:Rw S):=ow (Vs k) ⟨Kb k ho,trivial⟩ func188 fun l c0 Z x h=>po (b:=az7 k (bt c0 Z) (fun tg q=>(Vs k).lp Z 3 [] k (aBN c0 l tg q)) l c0) (by kernel_rfl) (po (by simp only [aDQ];rfl) (al h))
def O6:Rw S:=aj EV xn fun f i Z=>aa k (L1 k f i) (ub Z)
def CD:Fx S:=fp 20 [(125,PG k),(172,Pp k),(188,amV k),(233,GQ k)] [] k f204 0
theorem abh (ho:ai o):Tl o 204 (O6 k:Rw S):=ow (CD k) ⟨hG k ho,M1 k ho,am3 k ho,Kv k ho,trivial⟩ func204 fun f i Z x h=>pz h
def O7:Rw S:=aj Lu fh fun f c0 Z=>aa k (b7 k f c0) (y' Z)
def Vt:Fx S:=fp 39 [(41,Ot k),(81,P0 k),(82,IE k),(129,Oo k),(186,GK k),(204,O6 k)] [] k f161 1
theorem abi (ho:ai o):Tl o 161 (O7 k:Rw S):=ow (Vt k) ⟨Di k ho,K5 k ho,KX k ho,fC k ho,Kp k ho,abh k ho,trivial⟩ func161 fun f c0 Z x h=>pz h
def aHF:Rw S:=aj cZ ks fun c1 a7 q x z A B E F I J L M O T W Y ad ao ax az a6 Z=>aa k (jm k c1 a7 q x z A B E F I J L M O T W Y ad ao ax az a6) (aCK c1 q x z A B E F I J L M O T W Y ad ao ax az a6 Z)
def vI:Rw S:=aj cZ ks fun c1 q x z A B E F I J L M O T W Y ad ao ax az a6 a7 Z=>aa k (jm k c1 q x z A B E F I J L M O T W Y ad ao ax az a6 a7) (aHq Z)
def CE:Fx S:=fp 8 [(40,A3 k)] [] k f162 3
theorem aFm (ho:ai o):Tl o 162 (aHF k:Rw S):=ow (CE k) ⟨D_ k ho,trivial⟩ func162 fun c1 q z A B E F I J L M O T W Y ad ao ax az a6 a7 a8 Z x h=>pz h
theorem zK (ho:ai o):Tl o 162 (vI k:Rw S):=pa (n:=2) (m:=1) (aFm k ho) fun c1 a8 q z A B E F I J L M O T W Y ad ao ax az a6 a7 Z x h=>po (b:=aa k (jm k c1 a8 q z A B E F I J L M O T W Y ad ao ax az a6 a7) (aCK c1 q z A B E F I J L M O T W Y ad ao ax az a6 a7 (SD 2 1 [.cells [(pt 2)],bT c1,.cells [(iI a8),(sC q),(iI z),(iI A),(.str B),(sC E),(sT F),(sB I),(sB J),(iI L),(iI M),(.str O),(sC T),(sT W),(sB Y),(iI ad),(iI ao),(.str ax),(sC az),(sT a6),(sB a7)]] Z))) (by kernel_rfl) (po (congrArg (aa k (jm k c1 a8 q z A B E F I J L M O T W Y ad ao ax az a6 a7)) (funext fun r=>if_pos ⟨rfl,rfl⟩)) h)
def O8:Rw S:=aj aGk aJm fun nX nU oU oT o0 oV oW nW q uO uX uW uV uU uT tT tR tQ tP tM th c2 Z=>aa k (jb k nX nU oU oT o0 oV oW nW q uO uX uW uV uU uT tT tR tQ tP tM th c2) (aHr nU oU oT o0 oV oW nW q uO uX uW uV uU uT tT tR tQ tP tM th c2 Z)
def Vu:Fx S:=fx 20 (fun _=>[]) (fun _=>false) [(42,OV k),(162,vI k)] [] k f101 true [false,true] 3
theorem abj (ho:ai o):Tl o 101 (O8 k:Rw S):=ow (Vu k) ⟨H4 k ho,zK k ho,trivial⟩ func101 fun nX nU oU oT o0 oV oW nW q uO uX uW uV uU uT tT tR tQ tP tM th c2 Z x h=>pz h
def j3:Rw S:=aj EA xn fun xx Z=>aa k (Nk k xx) (aE Z)
def jO:Fx S:=fx 6 (fun _=>[]) (fun _=>false) [(41,Ot k)] [] k f103 true [] 0
theorem ys (ho:ai o):Tl o 103 (j3 k:Rw S):=ow (jO k) ⟨Di k ho,trivial⟩ func103 fun xx Z x h=>pz h
def A8:Rw S:=aj aBm N1 fun b uA qT qR qM qK qJ qI qW sM rq rO rL rK rE rP sK sJ sI sH sO sN Z=>aa k (ay7 k b uA qT qR qM qK qJ qI qW sM rq rO rL rK rE rP sK sJ sI sH sO sN) (aHs qT qR qM qK qJ qI qW sM rq rO rL rK rE rP sK sJ sI sH sO sN Z)
def Vv:Fx S:=fp 31 [(41,Ot k),(42,OV k),(91,am9 k),(103,j3 k)] [] k f163 2
theorem Ec (ho:ai o):Tl o 163 (A8 k:Rw S):=ow (Vv k) ⟨Di k ho,H4 k ho,nn k ho,ys k ho,trivial⟩ func163 fun b uA qT qR qM qK qJ qI qW sM rq rO rL rK rE rP sK sJ sI sH sO sN Z x h=>pz h
def Gv:Rw S:=aj aGl N1 fun l uA qT qR qM qK qJ qI qW sM rq rO rL rK rE rP sK sJ sI sH sO sN Z=>aa k (iS k l uA qT qR qM qK qJ qI qW sM rq rO rL rK rE rP sK sJ sI sH sO sN) (hq qT qR qM qK qJ qI qW sM rq rO rL rK rE rP sK sJ sI sH sO sN Z)
def CF:Fx S:=fx 22 (fun _=>[]) (fun _=>false) [(163,A8 k)] [(3,⟨[(1,nP),(5,qn 100005),(8,nP),(9,nP),(10,nP)],[(1000000,[nP]),(1000001,[nP,nP,nP,nP,nP,nP,nP,nP,nP,nP,nP,nP,nP,nP,nP,nP,nP,nP,nP,nP,nP])]⟩,ap 5 11)] k f112 false [true] 2
def MF (qT:List Cl) (rO:Int) (rL:ByteArray) (rK:List Cl) (rE:List Tm) (rP:List (Br Tm)) (sK sJ:Int) (sI:ByteArray) (sH:List Cl) (sO:List Tm) (qR:Int) (sN:List (Br Tm)) (qM:Int) (qK:ByteArray) (qJ:List Cl) (qI:List Tm) (qW sM:List (Br Tm)) (rq:Int) (l:List (Br Tm)) (arm qm:Int) (q:List (Br Tm)):St UU:=⟨[(1,(.func 163 [] [(pt 1000000)])),(5,(.own 100005 0)),(8,(sB l)),(9,(iI l.length)),(10,(iI qm))],[(1000000,.cells [(pt 1000001)]),(1000001,.cells [(iI arm),(sC qT),(iI qR),(iI qM),(.str qK),(sC qJ),(sT qI),(sB qW),(sB sM),(iI rq),(iI rO),(.str rL),(sC rK),(sT rE),(sB rP),(iI sK),(iI sJ),(.str sI),(sC sH),(sT sO),(sB sN)])],[(100005,⟨0,ET.B,q⟩)],[(100005,.wr)]⟩
section
variable (k:Nat) (l:List (Br Tm)) (uA:Int) (qT:List Cl) (qR qM:Int) (qK:ByteArray) (qJ:List Cl) (qI:List Tm) (qW sM:List (Br Tm)) (rq rO:Int) (rL:ByteArray) (rK:List Cl) (rE:List Tm) (rP:List (Br Tm)) (sK sJ:Int) (sI:ByteArray) (sH:List Cl) (sO:List Tm) (sN:List (Br Tm)) (Z:Out UU->Option S)
theorem Yc: ∀n arm qm q,(CF k).lp Z 3 [] n (MF qT rO rL rK rE rP sK sJ sI sH sO qR sN qM qK qJ qI qW sM rq l arm qm q)=jd k (hq qT qR qM qK qJ qI qW sM rq rO rL rK rE rP sK sJ sI sH sO sN Z) qT rO rL rK rE rP sK sJ sI sH sO qR sN qM qK qJ qI qW sM rq l n arm qm q:=eW (qE k (hq qT qR qM qK qJ qI qW sM rq rO rL rK rE rP sK sJ sI sH sO sN Z) qT rO rL rK rE rP sK sJ sI sH sO qR sN qM qK qJ qI qW sM rq l)
end
theorem Kc (ho:ai o):Tl o 112 (Gv k:Rw S):=ow (CF k) ⟨Ec k ho,trivial⟩ func112 fun l uA qT qR qM qK qJ qI qW sM rq rO rL rK rE rP sK sJ sI sH sO sN Z x h=>po (b:=aAa k (hq qT qR qM qK qJ qI qW sM rq rO rL rK rE rP sK sJ sI sH sO sN Z) (fun arm qm q=>(CF k).lp Z 3 [] k (MF qT rO rL rK rE rP sK sJ sI sH sO qR sN qM qK qJ qI qW sM rq l arm qm q)) l uA qT qR qM qK qJ qI qW sM rq rO rL rK rE rP sK sJ sI sH sO sN) (by kernel_rfl) (po (by simp only [Yc];rfl) (al h))
def Gw:Rw S:=aj Ls aJn fun g nX nU oU oT o0 oV oW nW uO uX uW uV uU uT tT tR tQ tP tM th Z=>aa k (s3 k g nX nU oU oT o0 oV oW nW uO uX uW uV uU uT tT tR tQ tP tM th) (s4 nU oU oT o0 oV oW nW tT tR tQ tP tM th Z)
def Vw:Fx S:=fp 74 [(42,OV k),(43,A4 k),(64,jx k),(101,O8 k),(111,anC k),(112,Gv k),(114,Gt k),(161,O7 k)] [(3,⟨[(2,nP),(3,nP),(4,nP),(21,nP),(22,nP),(23,nP)],[(2,[nP]),(3,[nP,nP,nP,nP,nP,nP]),(4,[nP,nP,nP,qn 200259,nP,nP]),(1000000,[nP,nP,nP,nP,nP,nP,nP,nP,qn 64200008,nP,nP,nP,nP,nP,nP,nP,nP,nP,nP,nP,nP])]⟩,ap 5 11)] k f97 1
def aBO (nU:List Cl) (uX:Int) (uW:ByteArray) (uV:List Cl) (uU:List Tm) (uT:List (Br Tm)) (tT tR:Int) (tQ:ByteArray) (tP:List Cl) (tM:List Tm) (oU:Int) (th:List (Br Tm)) (oT:Int) (o0:ByteArray) (oV:List Cl) (oW:List Tm) (nW:List (Br Tm)) (uO:Int) (g:Tm) (r3:Int×Int×ByteArray×List Tm×List (Br Tm)) (x:Int) (q:List (Br Tm)) (IB:Int):St UU:=⟨[(2,(pt 2)),(3,(pt 3)),(4,(pt 4)),(21,(sB g.s)),(22,(iI g.s.length)),(23,(iI IB))],[(2,.cells [(pt 1000000)]),(3,bT g),(4,.cells [(iI r3.1),(iI r3.2.1),(.str r3.2.2.1),(.own 200259 0),(sT r3.2.2.2.1),(sB r3.2.2.2.2)]),(1000000,.cells [(iI x),(sC nU),(iI oU),(iI oT),(.str o0),(sC oV),(sT oW),(sB nW),(.own 64200008 0),(iI uO),(iI uX),(.str uW),(sC uV),(sT uU),(sB uT),(iI tT),(iI tR),(.str tQ),(sC tP),(sT tM),(sB th)])],[(64200008,⟨0,ET.B,q⟩),(200259,xX)],[(64200008,.wr),(200259,.wr)]⟩
section
variable (k:Nat) (g:Tm) (nX:Int) (nU:List Cl) (oU oT:Int) (o0:ByteArray) (oV:List Cl) (oW:List Tm) (nW:List (Br Tm)) (uO uX:Int) (uW:ByteArray) (uV:List Cl) (uU:List Tm) (uT:List (Br Tm)) (tT tR:Int) (tQ:ByteArray) (tP:List Cl) (tM:List Tm) (th:List (Br Tm)) (Z:Out UU->Option S)
theorem aDR (r3): ∀n x q IB,(Vw k).lp Z 3 [] n (aBO nU uX uW uV uU uT tT tR tQ tP tM oU th oT o0 oV oW nW uO g r3 x q IB)=qo k (s4 nU oU oT o0 oV oW nW tT tR tQ tP tM th Z) nU uX uW uV uU uT tT tR tQ tP tM oU th oT o0 oV oW nW uO g r3 n x q IB:=eW (sW k (s4 nU oU oT o0 oV oW nW tT tR tQ tP tM th Z) nU uX uW uV uU uT tT tR tQ tP tM oU th oT o0 oV oW nW uO g r3)
end
theorem Kd (ho:ai o):Tl o 97 (Gw k:Rw S):=ow (Vw k) ⟨H4 k ho,s5 k ho,j8 k ho,abj k ho,uo k ho,Kc k ho,Ka k ho,abi k ho,trivial⟩ func97 fun g nX nU oU oT o0 oV oW nW uO uX uW uV uU uT tT tR tQ tP tM th Z x h=>po (b:=az_ k (s4 nU oU oT o0 oV oW nW tT tR tQ tP tM th Z) (fun A z q IB=>(Vw k).lp Z 3 [] k (aBO nU uX uW uV uU uT tT tR tQ tP tM oU th oT o0 oV oW nW uO g A z q IB)) g nX nU oU oT o0 oV oW nW uO uX uW uV uU uT tT tR tQ tP tM th) (by kernel_rfl) (po (by simp only [aDR];rfl) (al h))
def Gx:Rw S:=aj Mr xn fun qu Z=>aa k (Ir k qu) (aCH Z)
def Vy:Fx S:=fx 5 (fun _=>[]) (fun _=>false) [] [] k f170 true [] 0
theorem Ke (ho:ai o):Tl o 170 (Gx k:Rw S):=ow (Vy k) trivial func170 fun qu Z x h=>pz h
def A9:Rw S:=aj aBn fh fun t a f y c0 Z=>aa k (SC k t a f y c0) (aCL Z)
def Vz:Fx S:=fx 28 (fun _=>[]) (fun _=>false) [(140,OE k),(141,Gi k),(170,Gx k)] [] k f207 true [] 1
theorem Ed (ho:ai o):Tl o 207 (A9 k:Rw S):=ow (Vz k) ⟨Nv k ho,JW k ho,Ke k ho,trivial⟩ func207 fun t a f y c0 Z x h=>pz h
def O_:Rw S:=aj aGm xn fun t a f y Z=>aa k (xk k t a f y) (BB Z)
def VA:Fx S:=fp 28 [(34,PL (dJ k)),(138,OH k),(145,OJ k),(207,A9 k)] [] k f205 0
theorem abl (ho:ai o):Tl o 205 (O_ k:Rw S):=ow (VA k) ⟨IG o ho k,ia k ho,iL k ho,Ed k ho,trivial⟩ func205 fun t a f y Z x h=>pz h
def vJ:Rw S:=aj aBn fh fun t a f y c0 Z=>aa k (b2 k t a f y c0) (AQ Z)
def CG:Fx S:=fp 24 [(81,P0 k),(82,IE k),(205,O_ k)] [] k f165 1
theorem zL (ho:ai o):Tl o 165 (vJ k:Rw S):=ow (CG k) ⟨K5 k ho,KX k ho,abl k ho,trivial⟩ func165 fun t a f y c0 Z x h=>pz h
def vK:Rw S:=aj kX8 ks fun sQ c1 a7 q x z A B E F I J L M O T W Y ad ao ax az a6 Z=>aa k (qv k sQ c1 a7 q x z A B E F I J L M O T W Y ad ao ax az a6) (aHt c1 q x z A B E F I J L M O T W Y ad ao ax az a6 Z)
def CH:Fx S:=fx 43 (fun _=>[]) (fun _=>false) [(40,A3 k),(41,Ot k),(66,Oy k)] [] k f164 true [] 3
theorem zM (ho:ai o):Tl o 164 (vK k:Rw S):=ow (CH k) ⟨D_ k ho,Di k ho,M3 k ho,trivial⟩ func164 fun sQ c1 q z A B E F I J L M O T W Y ad ao ax az a6 a7 a8 Z x h=>pz h
def aHG:Rw S:=aj cZ q4 fun c2 zw uu tZ tY tX tW tV tU vi vh wi wc v8 aq_ v7 vn vm vl vk vj arg Z=>aa k (kq k c2 zw uu tZ tY tX tW tV tU vi vh wi wc v8 aq_ v7 vn vm vl vk vj arg) (aCM c2 uu tZ tY tX tW tV tU vi vh wi wc v8 aq_ v7 vn vm vl vk vj arg Z)
def Pa:Rw S:=aj cZ q4 fun c2 zw uu tZ tY tX tW tV tU vi vh wi wc v8 aq_ v7 vn vm vl vk vj arg Z=>aa k (kq k c2 zw uu tZ tY tX tW tV tU vi vh wi wc v8 aq_ v7 vn vm vl vk vj arg) (aHu Z)
def VB:Fx S:=fx 9 (fun _=>[]) (fun _=>false) [(164,vK k)] [] k f166 true [] 4
theorem aFn (ho:ai o):Tl o 166 (aHG k:Rw S):=ow (VB k) ⟨zM k ho,trivial⟩ func166 fun c2 zw uu tZ tY tX tW tV tU vi vh wi wc v8 aq_ v7 vn vm vl vk vj arg Z x h=>pz h
theorem abm (ho:ai o):Tl o 166 (Pa k:Rw S):=pa (n:=3) (m:=1) (aFn k ho) fun c2 zw uu tZ tY tX tW tV tU vi vh wi wc v8 aq_ v7 vn vm vl vk vj arg Z x h=>po (b:=aa k (kq k c2 zw uu tZ tY tX tW tV tU vi vh wi wc v8 aq_ v7 vn vm vl vk vj arg) (aCM c2 uu tZ tY tX tW tV tU vi vh wi wc v8 aq_ v7 vn vm vl vk vj arg (SD 3 1 [.cells [(.func 164 [] [(pt 1),(pt 2)])],.cells [(pt 3)],bT c2,.cells [(iI zw),(sC uu),(iI tZ),(iI tY),(.str tX),(sC tW),(sT tV),(sB tU),(sB vi),(iI vh),(iI wi),(.str wc),(sC v8),(sT aq_),(sB v7),(iI vn),(iI vm),(.str vl),(sC vk),(sT vj),(sB arg)]] Z))) (by kernel_rfl) (po (congrArg (aa k (kq k c2 zw uu tZ tY tX tW tV tU vi vh wi wc v8 aq_ v7 vn vm vl vk vj arg)) (funext fun r=>if_pos ⟨rfl,rfl⟩)) h)
def Pb:Rw S:=aj aGn aJo fun nX nU oU oT o0 oV oW nW q uO uX uW uV uU uT tT tR tQ tP tM th c3 Z=>aa k (r4 k nX nU oU oT o0 oV oW nW q uO uX uW uV uU uT tT tR tQ tP tM th c3) (aHv nU oU oT o0 oV oW nW q uO uX uW uV uU uT tT tR tQ tP tM th c3 Z)
def CI:Fx S:=fx 20 (fun _=>[]) (fun _=>false) [(42,OV k),(166,Pa k)] [] k f101 true [false,true] 4
theorem abn (ho:ai o):Tl o 101 (Pb k:Rw S):=ow (CI k) ⟨H4 k ho,abm k ho,trivial⟩ func101 fun nX nU oU oT o0 oV oW nW q uO uX uW uV uU uT tT tR tQ tP tM th c3 Z x h=>pz h
def Pc:Rw S:=aj azp q4 fun b c2 zw uu tZ tY tX tW tV tU vi vh wi wc v8 aq_ v7 vn vm vl vk vj arg Z=>aa k (ay8 k b c2 zw uu tZ tY tX tW tV tU vi vh wi wc v8 aq_ v7 vn vm vl vk vj arg) (aHw c2 uu tZ tY tX tW tV tU vi vh wi wc v8 aq_ v7 vn vm vl vk vj arg Z)
def VC:Fx S:=fp 25 [(42,OV k),(66,Oy k),(164,vK k)] [] k f167 4
theorem abo (ho:ai o):Tl o 167 (Pc k:Rw S):=ow (VC k) ⟨H4 k ho,M3 k ho,zM k ho,trivial⟩ func167 fun b c2 zw uu tZ tY tX tW tV tU vi vh wi wc v8 aq_ v7 vn vm vl vk vj arg Z x h=>pz h
def Pd:Rw S:=aj aGo q4 fun l c2 zw uu tZ tY tX tW tV tU vi vh wi wc v8 aq_ v7 vn vm vl vk vj arg Z=>aa k (Fk k l c2 zw uu tZ tY tX tW tV tU vi vh wi wc v8 aq_ v7 vn vm vl vk vj arg) (v' c2 uu tZ tY tX tW tV tU vi vh wi wc v8 aq_ v7 vn vm vl vk vj arg Z)
def CJ:Fx S:=fx 22 (fun _=>[]) (fun _=>false) [(167,Pc k)] [(3,⟨[(1,nP),(5,qn 100005),(8,nP),(9,nP),(10,nP)],[(1000000,[nP]),(1000001,[nP]),(1000002,[nP,nP,nP,nP,nP,nP]),(1000003,[nP,nP,nP,nP,nP,nP,nP,nP,nP,nP,nP,nP,nP,nP,nP,nP,nP,nP,nP,nP,nP])]⟩,ap 5 11)] k f112 false [true] 4
def MJ (c2:Tm) (uu:List Cl) (wi:Int) (wc:ByteArray) (v8:List Cl) (aq_:List Tm) (v7:List (Br Tm)) (vn vm:Int) (vl:ByteArray) (vk:List Cl) (vj:List Tm) (tZ:Int) (arg:List (Br Tm)) (tY:Int) (tX:ByteArray) (tW:List Cl) (tV:List Tm) (tU vi:List (Br Tm)) (vh:Int) (l:List (Br Tm)) (x qm:Int) (q:List (Br Tm)):St UU:=⟨[(1,(.func 167 [] [(pt 1000000),(pt 1000001)])),(5,(.own 100005 0)),(8,(sB l)),(9,(iI l.length)),(10,(iI qm))],[(1000000,.cells [(.func 164 [] [(pt 1000001),(pt 1000002)])]),(1000001,.cells [(pt 1000003)]),(1000002,bT c2),(1000003,.cells [(iI x),(sC uu),(iI tZ),(iI tY),(.str tX),(sC tW),(sT tV),(sB tU),(sB vi),(iI vh),(iI wi),(.str wc),(sC v8),(sT aq_),(sB v7),(iI vn),(iI vm),(.str vl),(sC vk),(sT vj),(sB arg)])],[(100005,⟨0,ET.B,q⟩)],[(100005,.wr)]⟩
section
variable (k:Nat) (l:List (Br Tm)) (c2:Tm) (zw:Int) (uu:List Cl) (tZ tY:Int) (tX:ByteArray) (tW:List Cl) (tV:List Tm) (tU vi:List (Br Tm)) (vh wi:Int) (wc:ByteArray) (v8:List Cl) (aq_:List Tm) (v7:List (Br Tm)) (vn vm:Int) (vl:ByteArray) (vk:List Cl) (vj:List Tm) (arg:List (Br Tm)) (Z:Out UU->Option S)
theorem Yg: ∀n x qm q,(CJ k).lp Z 3 [] n (MJ c2 uu wi wc v8 aq_ v7 vn vm vl vk vj tZ arg tY tX tW tV tU vi vh l x qm q)=Sn k (v' c2 uu tZ tY tX tW tV tU vi vh wi wc v8 aq_ v7 vn vm vl vk vj arg Z) c2 uu wi wc v8 aq_ v7 vn vm vl vk vj tZ arg tY tX tW tV tU vi vh l n x qm q:=eW (te k (v' c2 uu tZ tY tX tW tV tU vi vh wi wc v8 aq_ v7 vn vm vl vk vj arg Z) c2 uu wi wc v8 aq_ v7 vn vm vl vk vj tZ arg tY tX tW tV tU vi vh l)
end
theorem abp (ho:ai o):Tl o 112 (Pd k:Rw S):=ow (CJ k) ⟨abo k ho,trivial⟩ func112 fun l c2 zw uu tZ tY tX tW tV tU vi vh wi wc v8 aq_ v7 vn vm vl vk vj arg Z x h=>po (b:=ao k (v' c2 uu tZ tY tX tW tV tU vi vh wi wc v8 aq_ v7 vn vm vl vk vj arg Z) (fun z qm q=>(CJ k).lp Z 3 [] k (MJ c2 uu wi wc v8 aq_ v7 vn vm vl vk vj tZ arg tY tX tW tV tU vi vh l z qm q)) l c2 zw uu tZ tY tX tW tV tU vi vh wi wc v8 aq_ v7 vn vm vl vk vj arg) (by kernel_rfl) (po (by simp only [Yg];rfl) (al h))
def Gy:Rw S:=aj mf aJp fun t xx nX nU oU oT o0 oV oW nW q uO uX uW uV uU uT tT tR tQ tP tM th Z=>aa k (j' k t xx nX nU oU oT o0 oV oW nW q uO uX uW uV uU uT tT tR tQ tP tM th) (aHx nU oU oT o0 oV oW nW q uO uX uW uV uU uT tT tR tQ tP tM th Z)
def VE:Fx S:=fx 54 (fun _=>[]) (fun _=>false) [(41,Ot k),(96,Gr k),(101,Pb k),(103,j3 k),(112,Pd k),(165,vJ k)] [] k f100 true [] 1
theorem Kf (ho:ai o):Tl o 100 (Gy k:Rw S):=ow (VE k) ⟨Di k ho,J_ k ho,abn k ho,ys k ho,abp k ho,zL k ho,trivial⟩ func100 fun t xx nX nU oU oT o0 oV oW nW q uO uX uW uV uU uT tT tR tQ tP tM th Z x h=>pz h
def Gz:Rw S:=aj aBm N1 fun b uA qT qR qM qK qJ qI qW sM rq rO rL rK rE rP sK sJ sI sH sO sN Z=>aa k (ay5 k b uA qT qR qM qK qJ qI qW sM rq rO rL rK rE rP sK sJ sI sH sO sN) (aHy qT qR qM qK qJ qI qW sM rq rO rL rK rE rP sK sJ sI sH sO sN Z)
def rZ:Fx S:=fx 14 (fun _=>[]) (fun _=>false) [(100,Gy k)] [] k f99 true [] 2
theorem Kg (ho:ai o):Tl o 99 (Gz k:Rw S):=ow (rZ k) ⟨Kf k ho,trivial⟩ func99 fun b uA qT qR qM qK qJ qI qW sM rq rO rL rK rE rP sK sJ sI sH sO sN Z x h=>pz h
def GA:Rw S:=aj aGp N1 fun l uA qT qR qM qK qJ qI qW sM rq rO rL rK rE rP sK sJ sI sH sO sN Z=>aa k (iu k l uA qT qR qM qK qJ qI qW sM rq rO rL rK rE rP sK sJ sI sH sO sN) (p1 qT qR qM qK qJ qI qW sM rq rO rL rK rE rP sK sJ sI sH sO sN Z)
def CL:Fx S:=fx 22 (fun _=>[]) (fun _=>false) [(99,Gz k)] [(3,⟨[(1,nP),(5,qn 100005),(8,nP),(9,nP),(10,nP)],[(1000000,[nP]),(1000001,[nP,nP,nP,nP,nP,nP,nP,nP,nP,nP,nP,nP,nP,nP,nP,nP,nP,nP,nP,nP,nP])]⟩,ap 5 11)] k f98 false [true] 2
def ML (qT:List Cl) (rO:Int) (rL:ByteArray) (rK:List Cl) (rE:List Tm) (rP:List (Br Tm)) (sK sJ:Int) (sI:ByteArray) (sH:List Cl) (sO:List Tm) (qR:Int) (sN:List (Br Tm)) (qM:Int) (qK:ByteArray) (qJ:List Cl) (qI:List Tm) (qW sM:List (Br Tm)) (rq:Int) (l:List (Br Tm)) (arm qm:Int) (q:List Tm):St UU:=⟨[(1,(.func 99 [] [(pt 1000000)])),(5,(.own 100005 0)),(8,(sB l)),(9,(iI l.length)),(10,(iI qm))],[(1000000,.cells [(pt 1000001)]),(1000001,.cells [(iI arm),(sC qT),(iI qR),(iI qM),(.str qK),(sC qJ),(sT qI),(sB qW),(sB sM),(iI rq),(iI rO),(.str rL),(sC rK),(sT rE),(sB rP),(iI sK),(iI sJ),(.str sI),(sC sH),(sT sO),(sB sN)])],[(100005,⟨0,ET.T,q⟩)],[(100005,.wr)]⟩
section
variable (k:Nat) (l:List (Br Tm)) (uA:Int) (qT:List Cl) (qR qM:Int) (qK:ByteArray) (qJ:List Cl) (qI:List Tm) (qW sM:List (Br Tm)) (rq rO:Int) (rL:ByteArray) (rK:List Cl) (rE:List Tm) (rP:List (Br Tm)) (sK sJ:Int) (sI:ByteArray) (sH:List Cl) (sO:List Tm) (sN:List (Br Tm)) (Z:Out UU->Option S)
theorem Yj: ∀n arm qm q,(CL k).lp Z 3 [] n (ML qT rO rL rK rE rP sK sJ sI sH sO qR sN qM qK qJ qI qW sM rq l arm qm q)=xr k (p1 qT qR qM qK qJ qI qW sM rq rO rL rK rE rP sK sJ sI sH sO sN Z) qT rO rL rK rE rP sK sJ sI sH sO qR sN qM qK qJ qI qW sM rq l n arm qm q:=eW (b3 k (p1 qT qR qM qK qJ qI qW sM rq rO rL rK rE rP sK sJ sI sH sO sN Z) qT rO rL rK rE rP sK sJ sI sH sO qR sN qM qK qJ qI qW sM rq l)
end
theorem Kh (ho:ai o):Tl o 98 (GA k:Rw S):=ow (CL k) ⟨Kg k ho,trivial⟩ func98 fun l uA qT qR qM qK qJ qI qW sM rq rO rL rK rE rP sK sJ sI sH sO sN Z x h=>po (b:=aAc k (p1 qT qR qM qK qJ qI qW sM rq rO rL rK rE rP sK sJ sI sH sO sN Z) (fun arm qm q=>(CL k).lp Z 3 [] k (ML qT rO rL rK rE rP sK sJ sI sH sO qR sN qM qK qJ qI qW sM rq l arm qm q)) l uA qT qR qM qK qJ qI qW sM rq rO rL rK rE rP sK sJ sI sH sO sN) (by kernel_rfl) (po (by simp only [Yj];rfl) (al h))
def aHH:Rw S:=aj EX N1 fun uA qT qR qM qK qJ qI qW sM rq rO rL rK rE rP sK sJ sI sH sO sN Z=>aa k (k' k uA qT qR qM qK qJ qI qW sM rq rO rL rK rE rP sK sJ sI sH sO sN) (aCN qT qR qM qK qJ qI qW sM rq rO rL rK rE rP sK sJ sI sH sO sN Z)
def Ph:Rw S:=aj EX N1 fun uA qT qR qM qK qJ qI qW sM rq rO rL rK rE rP sK sJ sI sH sO sN Z=>aa k (k' k uA qT qR qM qK qJ qI qW sM rq rO rL rK rE rP sK sJ sI sH sO sN) (aHz Z)
def VG:Fx S:=fp 10 [(40,A3 k)] [] k f102 2
theorem aFo (ho:ai o):Tl o 102 (aHH k:Rw S):=ow (VG k) ⟨D_ k ho,trivial⟩ func102 fun uA qT qR qM qK qJ qI qW sM rq rO rL rK rE rP sK sJ sI sH sO sN Z x h=>pz h
theorem abt (ho:ai o):Tl o 102 (Ph k:Rw S):=pa (n:=1) (m:=1) (aFo k ho) fun uA qT qR qM qK qJ qI qW sM rq rO rL rK rE rP sK sJ sI sH sO sN Z x h=>po (b:=aa k (k' k uA qT qR qM qK qJ qI qW sM rq rO rL rK rE rP sK sJ sI sH sO sN) (aCN qT qR qM qK qJ qI qW sM rq rO rL rK rE rP sK sJ sI sH sO sN (SD 1 1 [.cells [(pt 1)],.cells [(iI uA),(sC qT),(iI qR),(iI qM),(.str qK),(sC qJ),(sT qI),(sB qW),(sB sM),(iI rq),(iI rO),(.str rL),(sC rK),(sT rE),(sB rP),(iI sK),(iI sJ),(.str sI),(sC sH),(sT sO),(sB sN)]] Z))) (by kernel_rfl) (po (congrArg (aa k (k' k uA qT qR qM qK qJ qI qW sM rq rO rL rK rE rP sK sJ sI sH sO sN)) (funext fun r=>if_pos ⟨rfl,rfl⟩)) h)
def Pi:Rw S:=aj aGq aJq fun nX nU oU oT o0 oV oW nW q uO uX uW uV uU uT tT tR tQ tP tM th Z=>aa k (lz k nX nU oU oT o0 oV oW nW q uO uX uW uV uU uT tT tR tQ tP tM th) (aHA nU oU oT o0 oV oW nW q uO uX uW uV uU uT tT tR tQ tP tM th Z)
def r_:Fx S:=fx 20 (fun _=>[]) (fun _=>false) [(42,OV k),(102,Ph k)] [] k f101 true [false,true] 2
theorem abu (ho:ai o):Tl o 101 (Pi k:Rw S):=ow (r_ k) ⟨H4 k ho,abt k ho,trivial⟩ func101 fun nX nU oU oT o0 oV oW nW q uO uX uW uV uU uT tT tR tQ tP tM th Z x h=>pz h
def Pj:Rw S:=aj EA xn fun t Z=>aa k (o5 k t) (AX Z)
def VH:Fx S:=fp 165 [(14,PK k),(34,PL (dJ k)),(35,Gg k),(40,A3 k),(41,Ot k),(42,OV k),(65,Oq k),(66,Oy k),(96,Gr k),(97,Gw k),(98,GA k),(101,Pi k),(103,j3 k)] [(16,⟨[(2,nP),(6,nP),(8,qn 100008),(9,some (100009,false)),(10,qn 100010),(77,nP),(78,nP),(79,nP)],[(2,[nP,nP,nP,qn 200131,qn 200132,qn 200133]),(6,[nP]),(43,[nP,nP,nP,nP,nP,nP,nP,nP,nP,nP,nP,nP,nP,nP,nP,nP,nP,nP,nP,nP,nP])]⟩,ap 14 6143)] k f48 0
def aBQ (r3:Tm) (r6:Int×List (Br Tm)×Int×Int×ByteArray×List Cl×List Tm×List (Br Tm)) (x4:Tm) (r8:Tm×Int) (z A E:Int) (F:ByteArray) (I:List Cl) (J:List Tm) (L q:List (Br Tm)) (HV:Int) (M:List Tm) (x:List (Br Tm)):St UU:=⟨[(2,(pt 2)),(6,(pt 6)),(8,(.own 100008 0)),(9,(.own 100009 0)),(10,(.own 100010 0)),(77,(sB r8.1.s)),(78,(iI r8.1.s.length)),(79,(iI HV))],[(2,.cells [(iI 0),(iI 0),zu,(.own 200131 0),(.own 200132 0),(.own 200133 0)]),(6,.cells [(pt 43)]),(43,.cells [(iI z),(sC r3.r),(iI x4.k),(iI x4.n),(.str x4.name),(sC x4.r),(sT x4.c),(sB x4.s),(sB r6.2.1),(iI r6.2.2.1),(iI r6.2.2.2.1),(.str r6.2.2.2.2.1),(sC r6.2.2.2.2.2.1),(sT r6.2.2.2.2.2.2.1),(sB r6.2.2.2.2.2.2.2),(iI A),(iI E),(.str F),(sC I),(sT J),(sB L)])],[(200133,xO),(200132,zm),(200131,xX),(100010,⟨0,ET.B,q⟩),(100009,⟨0,ET.B,x⟩),(100008,⟨0,ET.T,M⟩)],[(200133,.wr),(200132,.wr),(200131,.wr),(100010,.wr),(100009,.app),(100008,.wr)]⟩
section
variable (k:Nat) (t:Tm) (Z:Out UU->Option S)
theorem aDT (r3 r6 x4 r8): ∀n z A B E F I J q HV L x,(VH k).lp Z 16 [] n (aBQ r3 r6 x4 r8 z A B E F I J q HV L x)=Q7 k (AX Z) r3 r6 x4 r8 n z A B E F I J q HV L x:=aG2 (ed k (AX Z) r3 r6 x4 r8)
end
theorem abv (ho:ai o):Tl o 48 (Pj k:Rw S):=ow (VH k) ⟨HN k ho,IG o ho k,SA k ho,D_ k ho,Di k ho,H4 k ho,fB k ho,M3 k ho,J_ k ho,Kd k ho,Kh k ho,abu k ho,ys k ho,trivial⟩ func48 fun t Z x h=>po (b:=az9 k (AX Z) (fun O T x4 W A B E F I J L q HV M z=>(VH k).lp Z 16 [] k (aBQ O T x4 W A B E F I J L q HV M z)) t) (by kernel_rfl) (po (by simp only [aDT];rfl) (al h))
def Pk:Rw S:=aj EA xn fun t Z=>aa k (e9 k t) (AX Z)
def CM:Fx S:=fp 100 [(14,PK k),(34,PL (dJ k)),(35,Gg k),(44,O2 k),(45,amL k),(46,anB k),(47,vG k),(48,Pj k)] [] k f22 0
theorem abw (ho:ai o):Tl o 22 (Pk k:Rw S):=ow (CM k) ⟨HN k ho,IG o ho k,SA k ho,abd k ho,amQ k ho,um k ho,zI k ho,abv k ho,trivial⟩ func22 fun t Z x h=>pz h
def Pl:Rw S:=aj azq aAx fun u uA qT qR qM qK qJ qI qW Z=>aa k (k5 k u uA qT qR qM qK qJ qI qW) (aCO qT qR qM qK qJ qI qW Z)
def VI:Fx S:=fp 13 [(40,A3 k),(41,Ot k),(63,OX k)] [] k f105 2
theorem abx (ho:ai o):Tl o 105 (Pl k:Rw S):=ow (VI k) ⟨D_ k ho,Di k ho,D2 k ho,trivial⟩ func105 fun u uA qT qR qM qK qJ qI qW Z x h=>pz h
def aHI:Rw S:=aj aBo sY fun nX nU oU oT o0 oV oW nW Z=>aa k (k9 k nX nU oU oT o0 oV oW nW) (MO nU oU oT o0 oV oW nW Z)
def Pm:Rw S:=aj aBo sY fun nX nU oU oT o0 oV oW nW Z=>aa k (k9 k nX nU oU oT o0 oV oW nW) (aCP Z)
def aQs:Fx S:=fp 31 [(42,OV k),(105,Pl k)] [(3,⟨[(1,nP),(5,qn 100005),(11,nP),(12,nP),(13,nP)],[(1000000,[nP,nP,nP,nP,nP,nP,nP,nP]),(1000001,[nP])]⟩,ap 5 11)] k f104 2
def vd (nU oU:Int) (oT:ByteArray) (o0:List Cl) (oV:List Tm) (oW nW:List (Br Tm)) (x z:Int) (q:List (Br Tm)):St UU:=⟨[(1,(.func 105 [] [(pt 1000001)])),(5,(.own 100005 0)),(11,(sB nW)),(12,(iI nW.length)),(13,(iI z))],[(1000000,.cells [(iI x),(iI nU),(iI oU),(.str oT),(sC o0),(sT oV),(sB oW),(sB nW)]),(1000001,.cells [(pt 1000000)])],[(100005,⟨0,ET.B,q⟩)],[(100005,.wr)]⟩
section
variable (k:Nat) (nX nU oU:Int) (oT:ByteArray) (o0:List Cl) (oV:List Tm) (oW nW:List (Br Tm)) (Z:Out UU->Option S)
theorem Yn: ∀n x z q,(aQs k).lp Z 3 [] n (vd nU oU oT o0 oV oW nW x z q)=jc k (MO nU oU oT o0 oV oW nW Z) nU oU oT o0 oV oW nW n x z q:=eW (e2 k (MO nU oU oT o0 oV oW nW Z) nU oU oT o0 oV oW nW)
end
theorem aFp (ho:ai o):Tl o 104 (aHI k:Rw S):=ow (aQs k) ⟨H4 k ho,abx k ho,trivial⟩ func104 fun nX nU oU oT o0 oV oW nW Z x h=>po (b:=aAf k (MO nU oU oT o0 oV oW nW Z) (fun z A q=>(aQs k).lp Z 3 [] k (vd nU oU oT o0 oV oW nW z A q)) nX nU oU oT o0 oV oW nW) (by kernel_rfl) (po (by simp only [Yn];rfl) (al h))
theorem aby (ho:ai o):Tl o 104 (Pm k:Rw S):=pa (n:=0) (m:=1) (aFp k ho) fun nX nU oU oT o0 oV oW nW Z x h=>po (b:=aa k (k9 k nX nU oU oT o0 oV oW nW) (MO nU oU oT o0 oV oW nW (SD 0 1 [.cells [(iI nX),(iI nU),(iI oU),(.str oT),(sC o0),(sT oV),(sB oW),(sB nW)],.cells [(pt 0)]] Z))) (by kernel_rfl) (po (congrArg (aa k (k9 k nX nU oU oT o0 oV oW nW)) (funext fun r=>if_pos ⟨rfl,rfl⟩)) h)
def Pn:Rw S:=aj Ls et fun t nX nU oU oT o0 oV oW nW Z=>aa k (hD k t nX nU oU oT o0 oV oW nW) (e7 nU oU oT o0 oV oW nW Z)
def VJ:Fx S:=fx 31 (fun _=>[]) (fun _=>false) [(40,A3 k),(41,Ot k),(63,OX k),(96,Gr k),(104,Pm k)] [] k f49 true [] 1
theorem abz (ho:ai o):Tl o 49 (Pn k:Rw S):=ow (VJ k) ⟨D_ k ho,Di k ho,D2 k ho,J_ k ho,aby k ho,trivial⟩ func49 fun t nX nU oU oT o0 oV oW nW Z x h=>pz h
def Po:Rw S:=aj azq fh fun u c0 Z=>aa k (aza k u c0) (aHB c0 Z)
def CN:Fx S:=fp 9 [(41,Ot k)] [] k f107 1
theorem abA (ho:ai o):Tl o 107 (Po k:Rw S):=ow (CN k) ⟨Di k ho,trivial⟩ func107 fun u c0 Z x h=>pz h
def aHJ:Rw S:=aj aBp aDw fun nX nU oU oT o0 oV oW nW c1 Z=>aa k (h9 k nX nU oU oT o0 oV oW nW c1) (qL nX nU oU oT o0 oV oW nW c1 Z)
def Pq:Rw S:=aj aBp aDw fun nX nU oU oT o0 oV oW nW c1 Z=>aa k (h9 k nX nU oU oT o0 oV oW nW c1) (aCJ Z)
def CO:Fx S:=fp 31 [(42,OV k),(107,Po k)] [(3,⟨[(1,nP),(5,qn 100005),(11,nP),(12,nP),(13,nP)],[(1000000,[nP,nP,nP,nP,nP,nP,nP,nP]),(1000001,[nP])]⟩,ap 5 11)] k f104 2
def MS (nX nU oU:Int) (oT:ByteArray) (o0:List Cl) (oV:List Tm) (oW nW:List (Br Tm)) (c1:Int) (x:Int) (q:List (Br Tm)):St UU:=⟨[(1,(.func 107 [] [(pt 1000001)])),(5,(.own 100005 0)),(11,(sB nW)),(12,(iI nW.length)),(13,(iI x))],[(1000000,.cells [(iI nX),(iI nU),(iI oU),(.str oT),(sC o0),(sT oV),(sB oW),(sB nW)]),(1000001,bI c1)],[(100005,⟨0,ET.B,q⟩)],[(100005,.wr)]⟩
section
variable (k:Nat) (nX nU oU:Int) (oT:ByteArray) (o0:List Cl) (oV:List Tm) (oW nW:List (Br Tm)) (c1:Int) (Z:Out UU->Option S)
theorem Yr: ∀n x q,(CO k).lp Z 3 [] n (MS nX nU oU oT o0 oV oW nW c1 x q)=kk k (qL nX nU oU oT o0 oV oW nW c1 Z) nX nU oU oT o0 oV oW nW c1 n x q:=aL (r3 k (qL nX nU oU oT o0 oV oW nW c1 Z) nX nU oU oT o0 oV oW nW c1)
end
theorem aFq (ho:ai o):Tl o 104 (aHJ k:Rw S):=ow (CO k) ⟨H4 k ho,abA k ho,trivial⟩ func104 fun nX nU oU oT o0 oV oW nW c1 Z x h=>po (b:=aAh k (qL nX nU oU oT o0 oV oW nW c1 Z) (fun z q=>(CO k).lp Z 3 [] k (MS nX nU oU oT o0 oV oW nW c1 z q)) nX nU oU oT o0 oV oW nW c1) (by kernel_rfl) (po (by simp only [Yr];rfl) (al h))
theorem abC (ho:ai o):Tl o 104 (Pq k:Rw S):=tlS (aFq k ho) fun nX nU oU oT o0 oV oW nW c1 Z x h=>po (b:=aa k (h9 k nX nU oU oT o0 oV oW nW c1) (qL nX nU oU oT o0 oV oW nW c1 (DB _ Z))) (by kernel_rfl) (po (congrArg (aa k (h9 k nX nU oU oT o0 oV oW nW c1)) (funext fun r=>if_pos rfl)) h)
def aCR:Rw S:=aj Ln aAx fun kind uA qT qR qM qK qJ qI qW Z=>aa k (sq k kind uA qT qR qM qK qJ qI qW) (aHC uA qT qR qM qK qJ qI qW Z)
def mQ:Fx S:=fx 15 (fun _=>[]) (fun _=>false) [(41,Ot k),(104,Pq k)] [] k f106 true [] 2
theorem aFr (ho:ai o):Tl o 106 (aCR k:Rw S):=ow (mQ k) ⟨Di k ho,abC k ho,trivial⟩ func106 fun kind uA qT qR qM qK qJ qI qW Z x h=>pz h
def GC:Rw S:=aj Ls et fun t nX nU oU oT o0 oV oW nW Z=>aa k (e3 k t nX nU oU oT o0 oV oW nW) (e7 nU oU oT o0 oV oW nW Z)
def VL:Fx S:=fx 63 (fun _=>[]) (fun _=>false) [(36,OP k),(37,OT k),(38,P1 k),(41,Ot k),(43,A4 k),(96,Gr k),(106,aCR k)] [] k f50 true [] 1
theorem Ki (ho:ai o):Tl o 50 (GC k:Rw S):=ow (VL k) ⟨aa1 k ho,aa5 k ho,c' k ho,Di k ho,s5 k ho,J_ k ho,aFr k ho,trivial⟩ func50 fun t nX nU oU oT o0 oV oW nW Z x h=>pz h
def GD:Rw S:=aj Ls et fun t nX nU oU oT o0 oV oW nW Z=>aa k (hS k t nX nU oU oT o0 oV oW nW) (e7 nU oU oT o0 oV oW nW Z)
def VM:Fx S:=fx 128 (fun _=>[]) (fun _=>false) [(40,A3 k),(41,Ot k),(42,OV k),(66,Oy k),(94,Dd k),(95,O4 k),(96,Gr k)] [(7,⟨[(0,nP),(3,nP),(4,nP),(5,nP),(6,nP),(9,nP),(10,qn 100010),(51,nP),(52,nP),(53,nP)],[(3,[nP,nP,nP,nP,nP,nP]),(4,[nP,nP,nP,qn 200259,qn 200260,qn 200261]),(5,[nP,nP,nP,nP,nP,nP]),(6,[nP,nP,nP,nP,nP,nP]),(9,[nP,nP,nP,nP,nP,qn 200581]),(1000000,[nP,nP,nP,nP,nP,nP,nP,nP])]⟩,ap 9 191)] k f51 true [] 1
def aBR (nU oU:Int) (oT:ByteArray) (o0:List Cl) (oV:List Tm) (oW nW:List (Br Tm)) (t x1 x2:Tm) (r6:Int×Int×ByteArray×List Cl×List Tm) (x:Int) (q:List (Br Tm)) (v53:Int):St UU:=⟨[(0,(pt 1000000)),(3,(pt 3)),(4,(pt 4)),(5,(pt 5)),(6,(pt 6)),(9,(pt 9)),(10,(.own 100010 0)),(51,(sB nW)),(52,(iI nW.length)),(53,(iI v53))],[(3,bT t),(4,.cells [(iI 0),(iI 0),zu,(.own 200259 0),(.own 200260 0),(.own 200261 0)]),(5,bT x1),(6,bT x2),(9,.cells [(iI r6.1),(iI r6.2.1),(.str r6.2.2.1),(sC r6.2.2.2.1),(sT r6.2.2.2.2),(.own 200581 0)]),(1000000,.cells [(iI x),(iI nU),(iI oU),(.str oT),(sC o0),(sT oV),(sB oW),(sB nW)])],[(200581,xO),(200261,xO),(200260,zm),(200259,xX),(100010,⟨0,ET.B,q⟩)],[(200581,.wr),(200261,.wr),(200260,.wr),(200259,.wr),(100010,.wr)]⟩
section
variable (k:Nat) (t:Tm) (nX nU oU:Int) (oT:ByteArray) (o0:List Cl) (oV:List Tm) (oW nW:List (Br Tm)) (Z:Out UU->Option S)
theorem aDU (x1 x2 r6): ∀n x q v53,(VM k).lp Z 7 [] n (aBR nU oU oT o0 oV oW nW t x1 x2 r6 x q v53)=e8 k (e7 nU oU oT o0 oV oW nW Z) nU oU oT o0 oV oW nW t x1 x2 r6 n x q v53:=eW (o7 k (e7 nU oU oT o0 oV oW nW Z) nU oU oT o0 oV oW nW t x1 x2 r6)
end
theorem Kj (ho:ai o):Tl o 51 (GD k:Rw S):=ow (VM k) ⟨D_ k ho,Di k ho,H4 k ho,M3 k ho,pK k ho,abf k ho,J_ k ho,trivial⟩ func51 fun t nX nU oU oT o0 oV oW nW Z x h=>po (b:=aAe k (e7 nU oU oT o0 oV oW nW Z) (fun x1 x2 A z q v53=>(VM k).lp Z 7 [] k (aBR nU oU oT o0 oV oW nW t x1 x2 A z q v53)) t nX nU oU oT o0 oV oW nW) (by kernel_rfl) (po (by simp only [aDU];rfl) (al h))
def GE:Rw S:=aj Ls fh fun t c0 Z=>aa k (bn k t c0) (aCL Z)
def VN:Fx S:=fx 20 (fun _=>[]) (fun _=>false) [(140,OE k),(141,Gi k),(170,Gx k)] [] k f206 true [] 1
theorem Kk (ho:ai o):Tl o 206 (GE k:Rw S):=ow (VN k) ⟨Nv k ho,JW k ho,Ke k ho,trivial⟩ func206 fun t c0 Z x h=>pz h
def Pr:Rw S:=aj azr xn fun t a Z=>aa k (Am k t a) (BB Z)
def CQ:Fx S:=fp 47 [(34,PL (dJ k)),(138,OH k),(140,OE k),(141,Gi k),(145,OJ k),(170,Gx k),(206,GE k),(207,A9 k)] [] k f168 0
theorem abD (ho:ai o):Tl o 168 (Pr k:Rw S):=ow (CQ k) ⟨IG o ho k,ia k ho,Nv k ho,JW k ho,iL k ho,Ke k ho,Kk k ho,Ed k ho,trivial⟩ func168 fun t a Z x h=>pz h
def A_:Rw S:=aj mf fh fun t a c0 Z=>aa k (qw k t a c0) (AQ Z)
def VO:Fx S:=fp 18 [(81,P0 k),(82,IE k),(168,Pr k)] [] k f109 1
theorem Ee (ho:ai o):Tl o 109 (A_ k:Rw S):=ow (VO k) ⟨K5 k ho,KX k ho,abD k ho,trivial⟩ func109 fun t a c0 Z x h=>pz h
def Ps:Rw S:=aj eo xn fun rf Z=>aa k (ay2 k rf) (aHD Z)
def VQ:Fx S:=fx 13 (fun _=>[]) (fun _=>false) [(140,OE k),(170,Gx k)] [] k f169 true [] 0
theorem abE (ho:ai o):Tl o 169 (Ps k:Rw S):=ow (VQ k) ⟨Nv k ho,Ke k ho,trivial⟩ func169 fun rf Z x h=>pz h
def Pt:Rw S:=aj cn xn fun Z=>aa k (c5 k) (aE Z)
def VR:Fx S:=fx 37 (fun _=>[]) (fun _=>false) [(140,OE k),(169,Ps k),(170,Gx k)] [] k f110 true [] 0
theorem abF (ho:ai o):Tl o 110 (Pt k:Rw S):=ow (VR k) ⟨Nv k ho,abE k ho,Ke k ho,trivial⟩ func110 fun Z x h=>pz h
def GF:Rw S:=aj azq aAx fun u uA qT qR qM qK qJ qI qW Z=>aa k (azb k u uA qT qR qM qK qJ qI qW) (aCO qT qR qM qK qJ qI qW Z)
def jP:Fx S:=fp 30 [(40,A3 k),(41,Ot k),(65,Oq k),(109,A_ k),(110,Pt k)] [] k f108 2
theorem aFs (ho:ai o):Tl o 108 (GF k:Rw S):=ow (jP k) ⟨D_ k ho,Di k ho,fB k ho,Ee k ho,abF k ho,trivial⟩ func108 fun u uA qT qR qM qK qJ qI qW Z x h=>pz h
def aHK:Rw S:=aj aBq sY fun nX nU oU oT o0 oV oW nW Z=>aa k (fk k nX nU oU oT o0 oV oW nW) (MO nU oU oT o0 oV oW nW Z)
def Pv:Rw S:=aj aBq sY fun nX nU oU oT o0 oV oW nW Z=>aa k (fk k nX nU oU oT o0 oV oW nW) (aCP Z)
def CR:Fx S:=fp 31 [(42,OV k),(108,GF k)] [(3,⟨[(1,nP),(5,qn 100005),(11,nP),(12,nP),(13,nP)],[(1000000,[nP,nP,nP,nP,nP,nP,nP,nP]),(1000001,[nP])]⟩,ap 5 11)] k f104 2
def MX (nU oU:Int) (oT:ByteArray) (o0:List Cl) (oV:List Tm) (oW nW:List (Br Tm)) (x z:Int) (q:List (Br Tm)):St UU:=⟨[(1,(.func 108 [] [(pt 1000001)])),(5,(.own 100005 0)),(11,(sB nW)),(12,(iI nW.length)),(13,(iI z))],[(1000000,.cells [(iI x),(iI nU),(iI oU),(.str oT),(sC o0),(sT oV),(sB oW),(sB nW)]),(1000001,.cells [(pt 1000000)])],[(100005,⟨0,ET.B,q⟩)],[(100005,.wr)]⟩
section
variable (k:Nat) (nX nU oU:Int) (oT:ByteArray) (o0:List Cl) (oV:List Tm) (oW nW:List (Br Tm)) (Z:Out UU->Option S)
theorem YA: ∀n x z q,(CR k).lp Z 3 [] n (MX nU oU oT o0 oV oW nW x z q)=vy k (MO nU oU oT o0 oV oW nW Z) nU oU oT o0 oV oW nW n x z q:=eW (u' k (MO nU oU oT o0 oV oW nW Z) nU oU oT o0 oV oW nW)
end
theorem aFt (ho:ai o):Tl o 104 (aHK k:Rw S):=ow (CR k) ⟨H4 k ho,aFs k ho,trivial⟩ func104 fun nX nU oU oT o0 oV oW nW Z x h=>po (b:=aAg k (MO nU oU oT o0 oV oW nW Z) (fun z A q=>(CR k).lp Z 3 [] k (MX nU oU oT o0 oV oW nW z A q)) nX nU oU oT o0 oV oW nW) (by kernel_rfl) (po (by simp only [YA];rfl) (al h))
theorem abH (ho:ai o):Tl o 104 (Pv k:Rw S):=pa (n:=0) (m:=1) (aFt k ho) fun nX nU oU oT o0 oV oW nW Z x h=>po (b:=aa k (fk k nX nU oU oT o0 oV oW nW) (MO nU oU oT o0 oV oW nW (SD 0 1 [.cells [(iI nX),(iI nU),(iI oU),(.str oT),(sC o0),(sT oV),(sB oW),(sB nW)],.cells [(pt 0)]] Z))) (by kernel_rfl) (po (congrArg (aa k (fk k nX nU oU oT o0 oV oW nW)) (funext fun r=>if_pos ⟨rfl,rfl⟩)) h)
def Pw:Rw S:=aj EX et fun nX nU oU oT o0 oV oW nW Z=>aa k (dn k nX nU oU oT o0 oV oW nW) (aHh nU oU oT o0 oV oW nW Z)
def CS:Fx S:=fx 12 (fun _=>[]) (fun _=>false) [(96,Gr k),(104,Pv k)] [] k f52 true [] 1
theorem abI (ho:ai o):Tl o 52 (Pw k:Rw S):=ow (CS k) ⟨J_ k ho,abH k ho,trivial⟩ func52 fun nX nU oU oT o0 oV oW nW Z x h=>pz h
def GG:Rw S:=aj azp aDx fun sQ c1 c2 Z=>aa k (ds k sQ c1 c2) (aHi c1 Z)
def gW:Fx S:=fp 22 [(40,A3 k),(41,Ot k),(42,OV k),(114,Gt k)] [] k f113 3
theorem aFu (ho:ai o):Tl o 113 (GG k:Rw S):=ow (gW k) ⟨D_ k ho,Di k ho,H4 k ho,Ka k ho,trivial⟩ func113 fun sQ c1 c2 Z x h=>pz h
def Px:Rw S:=aj aGr aDx fun l c1 c2 Z=>aa k (aAQ k l c1 c2) (K2 c1 Z)
def VT:Fx S:=fx 22 (fun _=>[]) (fun _=>false) [(113,GG k)] [(3,⟨[(1,nP),(5,qn 100005),(8,nP),(9,nP),(10,nP)],[(1000000,[nP]),(1000001,[nP]),(1000002,[nP])]⟩,ap 5 11)] k f112 false [true] 3
def aBT (c1 l:List (Br Tm)) (x qm:Int) (q:List (Br Tm)):St UU:=⟨[(1,(.func 113 [] [(pt 1000000),(pt 1000001)])),(5,(.own 100005 0)),(8,(sB l)),(9,(iI l.length)),(10,(iI qm))],[(1000000,.cells [(pt 1000002)]),(1000001,.cells [(sB c1)]),(1000002,bI x)],[(100005,⟨0,ET.B,q⟩)],[(100005,.wr)]⟩
section
variable (k:Nat) (l c1:List (Br Tm)) (c2:Int) (Z:Out UU->Option S)
theorem aDX: ∀n x qm q,(VT k).lp Z 3 [] n (aBT c1 l x qm q)=fe k (K2 c1 Z) c1 l n x qm q:=eW (Z0 k (K2 c1 Z) c1 l)
end
theorem abJ (ho:ai o):Tl o 112 (Px k:Rw S):=ow (VT k) ⟨aFu k ho,trivial⟩ func112 fun l c1 c2 Z x h=>po (b:=aDn k (K2 c1 Z) (fun z qm q=>(VT k).lp Z 3 [] k (aBT c1 l z qm q)) l c1 c2) (by kernel_rfl) (po (by simp only [aDX];rfl) (al h))
def Py:Rw S:=aj aGs aAy fun sQ c1 c2 c3 Z=>aa k (H5 k sQ c1 c2 c3) (aHj c1 c2 Z)
def CT:Fx S:=fp 30 [(36,OP k),(40,A3 k),(41,Ot k),(42,OV k),(103,j3 k)] [] k f115 4
theorem abK (ho:ai o):Tl o 115 (Py k:Rw S):=ow (CT k) ⟨aa1 k ho,D_ k ho,Di k ho,H4 k ho,ys k ho,trivial⟩ func115 fun sQ c1 c2 c3 Z x h=>pz h
def Pz:Rw S:=aj aBr aAy fun l c1 c2 c3 Z=>aa k (ay9 k l c1 c2 c3) (J1 c1 c2 Z)
def VU:Fx S:=fx 22 (fun _=>[]) (fun _=>false) [(115,Py k)] [(3,⟨[(1,nP),(5,qn 100005),(8,nP),(9,nP),(10,nP)],[(1000000,[nP]),(1000001,[nP,nP,nP,nP,nP,nP]),(1000002,[nP,nP,nP,nP,nP,nP]),(1000003,[nP])]⟩,ap 5 11)] k f112 false [true] 4
def aBU (c1 c2:Tm) (l:List (Br Tm)) (x qm:Int) (q:List (Br Tm)):St UU:=⟨[(1,(.func 115 [] [(pt 1000000),(pt 1000001),(pt 1000002)])),(5,(.own 100005 0)),(8,(sB l)),(9,(iI l.length)),(10,(iI qm))],[(1000000,.cells [(pt 1000003)]),(1000001,bT c1),(1000002,bT c2),(1000003,bI x)],[(100005,⟨0,ET.B,q⟩)],[(100005,.wr)]⟩
section
variable (k:Nat) (l:List (Br Tm)) (c1 c2:Tm) (c3:Int) (Z:Out UU->Option S)
theorem aDY: ∀n x qm q,(VU k).lp Z 3 [] n (aBU c1 c2 l x qm q)=mg k (J1 c1 c2 Z) c1 c2 l n x qm q:=eW (d' k (J1 c1 c2 Z) c1 c2 l)
end
theorem abL (ho:ai o):Tl o 112 (Pz k:Rw S):=ow (VU k) ⟨abK k ho,trivial⟩ func112 fun l c1 c2 c3 Z x h=>po (b:=aDm k (J1 c1 c2 Z) (fun z qm q=>(VU k).lp Z 3 [] k (aBU c1 c2 l z qm q)) l c1 c2 c3) (by kernel_rfl) (po (by simp only [aDY];rfl) (al h))
def PA:Rw S:=aj azp aAz fun sQ c0 c1 Z=>aa k (ay6 k sQ c0 c1) (aHk c0 c1 Z)
def mR:Fx S:=fp 18 [(42,OV k),(96,Gr k)] [] k f116 2
theorem abM (ho:ai o):Tl o 116 (PA k:Rw S):=ow (mR k) ⟨H4 k ho,J_ k ho,trivial⟩ func116 fun sQ c0 c1 Z x h=>pz h
def PB:Rw S:=aj aBs aAz fun l c0 c1 Z=>aa k (p6 k l c0 c1) (ta c0 c1 Z)
def ayU:Fx S:=fx 22 (fun _=>[]) (fun _=>false) [(116,PA k)] [(3,⟨[(1,nP),(5,qn 100005),(8,nP),(9,nP),(10,nP)],[(1000000,[nP,nP,nP,nP,nP,nP]),(1000001,[nP,nP,nP,nP,nP,nP])]⟩,ap 5 11)] k f112 false [true] 2
def aBV (c0 c1:Tm) (l:List (Br Tm)) (qm:Int) (q:List (Br Tm)):St UU:=⟨[(1,(.func 116 [] [(pt 1000000),(pt 1000001)])),(5,(.own 100005 0)),(8,(sB l)),(9,(iI l.length)),(10,(iI qm))],[(1000000,bT c0),(1000001,bT c1)],[(100005,⟨0,ET.B,q⟩)],[(100005,.wr)]⟩
section
variable (k:Nat) (l:List (Br Tm)) (c0 c1:Tm) (Z:Out UU->Option S)
theorem aDZ: ∀n qm q,(ayU k).lp Z 3 [] n (aBV c0 c1 l qm q)=zv k (ta c0 c1 Z) c0 c1 l n qm q:=aL (ec k (ta c0 c1 Z) c0 c1 l)
end
theorem abN (ho:ai o):Tl o 112 (PB k:Rw S):=ow (ayU k) ⟨abM k ho,trivial⟩ func112 fun l c0 c1 Z x h=>po (b:=aAb k (ta c0 c1 Z) (fun qm q=>(ayU k).lp Z 3 [] k (aBV c0 c1 l qm q)) l c0 c1) (by kernel_rfl) (po (by simp only [aDZ];rfl) (al h))
def PC:Rw S:=aj EA xn fun t Z=>aa k (n' k t) (AX Z)
def VX:Fx S:=fp 79 [(14,PK k),(34,PL (dJ k)),(35,Gg k),(96,Gr k),(111,anC k),(112,ol (uy aBs aAz) (PB k) (ol (uy aBr aAy) (Pz k) (Px k))),(114,Gt k)] [] k f53 0
theorem abO (ho:ai o):Tl o 53 (PC k:Rw S):=ow (VX k) ⟨HN k ho,IG o ho k,SA k ho,J_ k ho,uo k ho,vw (abN k ho) (vw (abL k ho) (abJ k ho)),Ka k ho,trivial⟩ func53 fun t Z x h=>pz h
def PD:Rw S:=aj EA xn fun t Z=>aa k (cG k t) (AX Z)
def VY:Fx S:=fp 89 [(14,PK k),(34,PL (dJ k)),(35,Gg k),(49,Pn k),(50,GC k),(51,GD k),(52,Pw k),(53,PC k)] [] k f23 0
theorem abP (ho:ai o):Tl o 23 (PD k:Rw S):=ow (VY k) ⟨HN k ho,IG o ho k,SA k ho,abz k ho,Ki k ho,Kj k ho,abI k ho,abO k ho,trivial⟩ func23 fun t Z x h=>pz h
def aoz:Rw S:=aj adZ xn fun defs t Z=>aa k (a_ k defs t) (AX Z)
def ir:Fx S:=fp 79 [(14,PK k),(20,vE k),(21,A5 k),(22,Pk k),(23,PD k),(24,OD k)] [(7,⟨[(0,nP),(3,nP),(4,nP),(8,nP),(9,nP),(10,nP),(20,nP)],[(3,[nP,nP,nP,nP,nP,nP]),(4,[nP,nP,nP,qn 200259,qn 200260,qn 200261]),(8,[nP,nP,nP,nP,nP,nP])]⟩,ap 9 189),(1000022,⟨[(0,nP),(3,nP),(4,nP)],[(3,[nP,nP,nP,nP,nP,nP]),(4,[nP,nP,nP,qn 200259,qn 200260,qn 200261])]⟩,ap 8 253)] k f13 0
def aox (t:Tm) (defs:List Df) (z A:Int) (B:ByteArray) (E:List Cl) (F:List Tm) (x:List (Br Tm)) (qm xp:Int) (q:Bool):St UU:=⟨[(0,(km defs .none)),(3,(pt 3)),(4,(pt 4)),(8,(pt 8)),(9,(.bool q)),(10,(iI qm)),(20,(iI xp))],[(3,bT t),(4,.cells [(iI 0),(iI 0),zu,(.own 200259 0),(.own 200260 0),(.own 200261 0)]),(8,.cells [(iI z),(iI A),(.str B),(sC E),(sT F),(sB x)])],[(200261,xO),(200260,zm),(200259,xX)],[(200261,.wr),(200260,.wr),(200259,.wr)]⟩
def aob (t:Tm) (defs:List Df):St UU:=⟨[(0,(km defs .none)),(3,(pt 3)),(4,(pt 4))],[(3,bT t),(4,.cells [(iI 0),(iI 0),zu,(.own 200259 0),(.own 200260 0),(.own 200261 0)])],[(200261,xO),(200260,zm),(200259,xX)],[(200261,.wr),(200260,.wr),(200259,.wr)]⟩
section
variable (k:Nat) (defs:List Df) (t:Tm) (Z:Out UU->Option S)
theorem aD1: ∀n,(ir k).jn Z 1000022 [] n (aob t defs)=bK k (AX Z) t defs n:=gL (co k (AX Z) t defs)
theorem qA: ∀n z A B E F x qm xp q,(ir k).lp Z 7 [] n (aox t defs z A B E F x qm xp q)=bH k (AX Z) t defs n z A B E F x qm xp q:=lp9 (fun own=>RO k (AX Z) t defs (bK k (AX Z) t defs k) own) rfl (fun _=>rfl) fun r z A B E F x qm xp q=>po (b:=RO k (AX Z) t defs ((ir k).jn Z 1000022 [] k (aob t defs)) (fun z A B E F x qm xp q=>r (aox t defs z A B E F x qm xp q)) z A B E F x qm xp q) (by kernel_rfl) (by simp only [aD1])
end
theorem aFv (ho:ai o):Tl o 13 (aoz k:Rw S):=ow (ir k) ⟨HN k ho,aFg k ho,aFj k ho,abw k ho,abP k ho,aaP k ho,trivial⟩ func13 fun defs t Z x h=>po (b:=aAp k (AX Z) (fun A B E F I z qm xp q=>(ir k).lp Z 7 [] k (aox t defs A B E F I z qm xp q)) defs t) (by kernel_rfl) (po (by simp only [qA];rfl) (al h))
def aoK:Rw S:=aj Ls SO fun t nX nU Z=>aa k (pX k t nX nU) (M7 nX Z)
def qz:Fx S:=fp 51 [(13,aoz k)] [(1000004,⟨[(0,nP),(3,nP),(4,nP),(6,nP),(7,nP),(8,nP)],[(3,[nP,nP,nP,nP,nP,nP]),(4,[nP,nP,nP,qn 200259,qn 200260,qn 200261]),(6,[nP,nP,nP,nP,nP,nP]),(1000000,[nP,nP])]⟩,ap 3 7),(1000006,⟨[(0,nP),(4,nP),(6,nP)],[(4,[nP,nP,nP,qn 200259,qn 200260,qn 200261]),(6,[nP,nP,nP,nP,nP,nP]),(1000000,[nP,nP])]⟩,ap 4 15)] k f176 1
def aBX (nX:List Df) (nU:Int) (t:Tm) (r1:Tm×Bool×Int):St UU:=⟨[(0,(pt 1000000)),(3,(pt 3)),(4,(pt 4)),(6,(pt 6)),(7,(.bool r1.2.1)),(8,(iI r1.2.2))],[(3,bT t),(4,.cells [(iI 0),(iI 0),zu,(.own 200259 0),(.own 200260 0),(.own 200261 0)]),(6,bT r1.1),(1000000,.cells [(km nX .none),(iI nU)])],[(200261,xO),(200260,zm),(200259,xX)],[(200261,.wr),(200260,.wr),(200259,.wr)]⟩
def aBY (nX:List Df) (nU:Int) (r1:Tm×Bool×Int):St UU:=⟨[(0,(pt 1000000)),(4,(pt 4)),(6,(pt 6))],[(4,.cells [(iI 0),(iI 0),zu,(.own 200259 0),(.own 200260 0),(.own 200261 0)]),(6,bT r1.1),(1000000,.cells [(km nX .none),(iI nU)])],[(200261,xO),(200260,zm),(200259,xX)],[(200261,.wr),(200260,.wr),(200259,.wr)]⟩
section
variable (k:Nat) (t:Tm) (nX:List Df) (nU:Int) (Z:Out UU->Option S)
theorem aD3 (r1): ∀n,(qz k).jn Z 1000006 [] n (aBY nX nU r1)=dd k (M7 nX Z) nX nU r1 n:=gL (fU k (M7 nX Z) nX nU r1)
theorem aD2 (r1): ∀n,(qz k).jn Z 1000004 [] n (aBX nX nU t r1)=azv k (M7 nX Z) nX nU t r1 n:=gL (l3 k (M7 nX Z) nX nU t r1 (dd k (M7 nX Z) nX nU r1 k)) rfl (fun _=>rfl) (po (b:=l3 k (M7 nX Z) nX nU t r1 ((qz k).jn Z 1000006 [] k (aBY nX nU r1))) (by kernel_rfl) (by simp only [aD3]))
end
theorem apj (ho:ai o):Tl o 176 (aoK k:Rw S):=ow (qz k) ⟨aFv k ho,trivial⟩ func176 fun t nX nU Z x h=>po (b:=ox k (M7 nX Z) (fun r1=>(qz k).jn Z 1000004 [] k (aBX nX nU t r1)) t nX nU) (by kernel_rfl) (po (by simp only [aD2];rfl) (al h))
def aoj:Rw S:=aj EA xn fun t Z=>aa k (aU k t) (da Z)
def ayV:Fx S:=fp 26 [(120,Oe k)] [(1000015,aS [1,3] [(1,6)],ap 3 7)] k f177 0
def oF (t:Tm) (v3:Int):St UU:=⟨[(1,(pt 1)),(3,(iI v3))],[(1,bT t)],[],[]⟩
section
variable (k:Nat) (t:Tm) (Z:Out UU->Option S)
theorem qD: ∀n v3,(ayV k).jn Z 1000015 [] n (oF t v3)=aV k (da Z) t n v3:=nx (bo k (da Z) t)
end
theorem apk (ho:ai o):Tl o 177 (aoj k:Rw S):=ow (ayV k) ⟨aat k ho,trivial⟩ func177 fun t Z x h=>po (b:=aAo k (da Z) (fun v3=>(ayV k).jn Z 1000015 [] k (oF t v3)) t) (by kernel_rfl) (po (by simp only [qD];rfl) (al h))
def lf (hd:B9 S):Rw S:=aj azr xn fun a b Z=>hd a b (F9 Z)
def azO (hd:B9 S) (k:Nat):Rw S:=aj aGt xn fun s1 s2 Z=>aa k (j4 hd k s1 s2) (F9 Z)
def eb (hd:B9 S) (k:Nat):Fx S:=fp 32 [(215,lf hd)] [(4,aS [1,2,15,16,17] [],ap 5 11)] k f239 0
def aBZ (s2 s1:List Tm) (ox:Int):St UU:=⟨[(1,(sT s2)),(2,(.func 215 [] [])),(15,(sT s1)),(16,(iI s1.length)),(17,(iI ox))],[],[],[]⟩
section
variable (hd:B9 S) (k:Nat) (s1 s2:List Tm) (Z:Out UU->Option S)
theorem aD4: ∀n ox,(eb hd k).lp Z 4 [] n (aBZ s2 s1 ox)=xf hd k (F9 Z) s2 s1 n ox:=cF (r9 hd k (F9 Z) s2 s1)
end
theorem eZ (o:Obj) (ho:ai o) (hd:B9 S) (Hd:Tl o 215 (lf hd)) (k:Nat):Tl o 239 (azO hd k:Rw S):=ow (eb hd k) ⟨Hd,trivial⟩ func239 fun s1 s2 Z x h=>po (b:=aAm hd k (F9 Z) (fun ox=>(eb hd k).lp Z 4 [] k (aBZ s2 s1 ox)) s1 s2) (by kernel_rfl) (po (by simp only [aD4];rfl) (al h))
def aCS (hd:B9 S) (k:Nat):Rw S:=aj aGu xn fun sQ y Z=>aa k (dt hd k sQ y) (F9 Z)
def aDB (hd:B9 S) (k:Nat):Fx S:=fp 17 [(31,Pu k),(239,azO hd k)] [] k f240 0
theorem aFw (o:Obj) (ho:ai o) (hd:B9 S) (Hd:Tl o 215 (lf hd)) (k:Nat):Tl o 240 (aCS hd k:Rw S):=ow (aDB hd k) ⟨qt k ho,eZ o ho hd Hd k,trivial⟩ func240 fun sQ y Z x h=>pz h
def aCT (hd:B9 S) (k:Nat):Rw S:=aj aGv xn fun s1 s2 Z=>aa k (bz hd k s1 s2) (F9 Z)
def ef (hd:B9 S) (k:Nat):Fx S:=fp 32 [(240,aCS hd k)] [(4,aS [1,2,15,16,17] [],ap 5 11)] k f69 0
def aB0 (s2 s1:List (Br Tm)) (ox:Int):St UU:=⟨[(1,(sB s2)),(2,(.func 240 [] [])),(15,(sB s1)),(16,(iI s1.length)),(17,(iI ox))],[],[],[]⟩
section
variable (hd:B9 S) (k:Nat) (s1 s2:List (Br Tm)) (Z:Out UU->Option S)
theorem aD5: ∀n ox,(ef hd k).lp Z 4 [] n (aB0 s2 s1 ox)=qd hd k (F9 Z) s2 s1 n ox:=cF (l2 hd k (F9 Z) s2 s1)
end
theorem aFx (o:Obj) (ho:ai o) (hd:B9 S) (Hd:Tl o 215 (lf hd)) (k:Nat):Tl o 69 (aCT hd k:Rw S):=ow (ef hd k) ⟨aFw o ho hd Hd k,trivial⟩ func69 fun s1 s2 Z x h=>po (b:=aAl hd k (F9 Z) (fun ox=>(ef hd k).lp Z 4 [] k (aB0 s2 s1 ox)) s1 s2) (by kernel_rfl) (po (by simp only [aD5];rfl) (al h))
def aDA (hd:B9 S) (k:Nat):Fx S:=fp 45 [(31,Pu k),(69,aCT hd k),(239,azO hd k)] [] k f215 0
theorem azj (o:Obj) (ho:ai o): ∀k:Nat,Tl o 215 (lf (KZ k:B9 S))
 |0=>dz fun a b Z x h=>by cases h
 |k+1=>ow (aDA (KZ k) k) ⟨qt k ho,aFx o ho (KZ k) (azj o ho k) k,eZ o ho (KZ k) (azj o ho k) k,trivial⟩ func215 fun a b Z x h=>po (by kernel_rfl) h
def u3 (hd:Mf S):Rw S:=aj Ls SO fun t nX nU Z=>hd t nX nU (L2 nX Z)
def aCU (hd:Mf S) (k:Nat):Rw S:=aj adK SO fun t Ii nX nU Z=>aa k (Nh hd k t Ii nX nU) (M7 nX Z)
def aKo (hd:Mf S) (k:Nat):Fx S:=fp 36 [(128,u3 hd),(215,lf (KZ k))] [] k f178 1
theorem aFy (o:Obj) (ho:ai o) (hd:Mf S) (Hd:Tl o 128 (u3 hd)) (k:Nat):Tl o 178 (aCU hd k:Rw S):=ow (aKo hd k) ⟨Hd,azj o ho k,trivial⟩ func178 fun t Ii nX nU Z x h=>pz h
def bk (hd:Mf S) (k:Nat):Fx S:=fp 53 [(176,aoK k),(177,aoj k),(178,aCU hd k)] [(1,⟨[(0,nP),(3,nP),(4,nP)],[(3,[nP,nP,nP,nP,nP,nP]),(4,[nP,nP,nP,qn 200259,qn 200260,qn 200261]),(1000000,[nP,nP])]⟩,ap 2 1)] k f128 1
def aB1 (nX:List Df) (q:Int) (x:Tm):St UU:=⟨[(0,(pt 1000000)),(3,(pt 3)),(4,(pt 4))],[(3,bT x),(4,.cells [(iI 0),(iI 0),zu,(.own 200259 0),(.own 200260 0),(.own 200261 0)]),(1000000,.cells [(km nX .none),(iI q)])],[(200261,xO),(200260,zm),(200259,xX)],[(200261,.wr),(200260,.wr),(200259,.wr)]⟩
section
variable (hd:Mf S) (k:Nat) (t:Tm) (nX:List Df) (nU:Int) (Z:Out UU->Option S)
theorem aRz: ∀n q x,(bk hd k).lp Z 1 [] n (aB1 nX q x)=MQ hd k (L2 nX Z) nX n q x:=aL (J0 hd k (L2 nX Z) nX)
end
theorem aBe (o:Obj) (ho:ai o): ∀k:Nat,Tl o 128 (u3 (EF k:Mf S))
 |0=>dz fun t nX nU Z x h=>by cases h
 |k+1=>ow (bk (EF k) k) ⟨apj k ho,apk k ho,aFy o ho (EF k) (aBe o ho k) k,trivial⟩ func128 fun t nX nU Z x h=>po (b:=q' (EF k) k (L2 nX Z) (fun q z=>(bk (EF k) k).lp Z 1 [] k (aB1 nX q z)) t nX nU) (by kernel_rfl) (po (by simp only [aRz];rfl) h)
def azP:Rw S:=aj aGw xn fun defs t fuel Z=>aa k (h7 k defs t fuel) (aHl Z)
def ei:Fx S:=⟨⟨38,(fun _=>[]),(fun _=>false),nP,fun|6=>true|7=>true|8=>true|_=>false⟩,[(14,PK k),(34,PL (dJ k)),(128,u3 (EF k))],[],k,f60,false,[],0,some (o9 17 127 f127 k)⟩
theorem aAU (ho:ai o):Tl o 60 (azP k:Rw S):=BZ (ei k) rfl (yn o func127 (by kernel_rfl)) ⟨HN k ho,IG o ho k,aBe o ho k,trivial⟩ func60 (by kernel_rfl) fun defs t fuel Z x h=>pz h
def bg:Rw S:=aj Ag xn fun sQ xx Z=>aa k (R6 k sQ xx) (AP Z)
def ej:Fx S:=fp 10 [] [] k f61 0
theorem aFz (ho:ai o):Tl o 61 (bg k:Rw S):=ow (ej k) trivial func61 fun sQ xx Z x h=>pz h
def dA:Rw S:=aj Ls SO fun t nX nU Z=>aa k (fD k t nX nU) (L2 nX Z)
def auV:Fx S:=fp 29 [(60,azP k),(61,bg k)] [] k f27 1
theorem aOu (ho:ai o):Tl o 27 (dA k:Rw S):=ow (auV k) ⟨aAU k ho,aFz k ho,trivial⟩ func27 fun t nX nU Z x h=>pz h
def dB:Rw S:=aj Ls fh fun t c0 Z=>aa k (sb k t c0) (ays c0 Z)
def er:Fx S:=fp 11 [(61,bg k)] [] k f62 1
theorem aFA (ho:ai o):Tl o 62 (dB k:Rw S):=ow (er k) ⟨aFz k ho,trivial⟩ func62 fun t c0 Z x h=>pz h
def aCV:Rw S:=aj EA xn fun t Z=>aa k (SK k t) (AP Z)
def aRw:Fx S:=fp 21 [(40,A3 k),(41,Ot k),(62,dB k),(63,OX k)] [] k f28 0
theorem aFB (ho:ai o):Tl o 28 (aCV k:Rw S):=ow (aRw k) ⟨D_ k ho,Di k ho,aFA k ho,D2 k ho,trivial⟩ func28 fun t Z x h=>pz h
def aCW:Rw S:=aj Ag xn fun t kind Z=>aa k (MG k t kind) (aF Z)
def ew:Fx S:=fp 18 [(41,Ot k)] [] k f29 0
theorem aFC (ho:ai o):Tl o 29 (aCW k:Rw S):=ow (ew k) ⟨Di k ho,trivial⟩ func29 fun t kind Z x h=>pz h
def aCX:Rw S:=aj azr xn fun t p Z=>aa k (gw k t p) (AP Z)
def ez:Fx S:=fp 48 [(40,A3 k),(62,dB k),(64,jx k),(65,Oq k),(66,Oy k)] [] k f30 0
theorem fI (ho:ai o):Tl o 30 (aCX k:Rw S):=ow (ez k) ⟨D_ k ho,aFA k ho,j8 k ho,fB k ho,M3 k ho,trivial⟩ func30 fun t p Z x h=>pz h
def aCY:Rw S:=aj Lk xn fun l Z=>aa k (W3 k l) (ub Z)
def eC:Fx S:=fp 28 [(131,OY k)] [(3,aS [4,9,10,11] [],ap 5 11)] k f68 0
def aNL (l:List (Br Tm)) (zr:Int) (v4:List Cl):St UU:=⟨[(4,(sC v4)),(9,(sB l)),(10,(iI l.length)),(11,(iI zr))],[],[],[]⟩
section
variable (k:Nat) (l:List (Br Tm)) (Z:Out UU->Option S)
theorem aOd: ∀n zr v4,(eC k).lp Z 3 [] n (aNL l zr v4)=mh k (ub Z) l n zr v4:=aL (x' k (ub Z) l)
end
theorem aFD (ho:ai o):Tl o 68 (aCY k:Rw S):=ow (eC k) ⟨aa_ k ho,trivial⟩ func68 fun l Z x h=>po (b:=aNs k (ub Z) (fun zr v4=>(eC k).lp Z 3 [] k (aNL l zr v4)) l) (by kernel_rfl) (po (by simp only [aOd];rfl) (al h))
def aCZ:Rw S:=aj EV xn fun sQ xx Z=>aa k (l8 k sQ xx) (ah0 Z)
def bm:Fx S:=fp 10 [] [] k f67 0
theorem fY (ho:ai o):Tl o 67 (aCZ k:Rw S):=ow (bm k) trivial func67 fun sQ xx Z x h=>pz h
def ayA:Rw S:=aj aGu xn fun sQ y Z=>aa k (az k sQ y) (F9 Z)
def eD:Fx S:=fp 10 [(31,Pu k)] [] k f70 0
theorem fZ (ho:ai o):Tl o 70 (ayA k:Rw S):=ow (eD k) ⟨qt k ho,trivial⟩ func70 fun sQ y Z x h=>pz h
def aC0:Rw S:=aj aBt xn fun s1 s2 Z=>aa k (b1 k s1 s2) (F9 Z)
def ayW:Fx S:=fp 32 [(70,ayA k)] [(4,aS [1,2,15,16,17] [],ap 5 11)] k f69 0
def aB7 (s2 s1:List (Br Tm)) (ox:Int):St UU:=⟨[(1,(sB s2)),(2,(.func 70 [] [])),(15,(sB s1)),(16,(iI s1.length)),(17,(iI ox))],[],[],[]⟩
section
variable (k:Nat) (s1 s2:List (Br Tm)) (Z:Out UU->Option S)
theorem aEb: ∀n ox,(ayW k).lp Z 4 [] n (aB7 s2 s1 ox)=ka k (F9 Z) s2 s1 n ox:=cF (bh k (F9 Z) s2 s1)
end
theorem aFE (ho:ai o):Tl o 69 (aC0 k:Rw S):=ow (ayW k) ⟨fZ k ho,trivial⟩ func69 fun s1 s2 Z x h=>po (b:=aNr k (F9 Z) (fun ox=>(ayW k).lp Z 4 [] k (aB7 s2 s1 ox)) s1 s2) (by kernel_rfl) (po (by simp only [aEb];rfl) (al h))
def ayC:Rw S:=aj aGx xn fun sQ xx Z=>aa k (ad k sQ xx) (aK2 Z)
def eG:Fx S:=fp 10 [] [] k f132 0
theorem aOv (ho:ai o):Tl o 132 (ayC k:Rw S):=ow (eG k) trivial func132 fun sQ xx Z x h=>pz h
def azn:Rw S:=aj aGy xn fun t c Z=>aa k (rv k t c) (BB Z)
def eH:Fx S:=fp 71 [(14,PK k),(34,PL (dJ k)),(130,Bg k),(175,Bb k),(180,P8 k),(181,Oh (d7 k)),(184,OM k),(186,GK k),(187,GZ)] [(9,⟨[(4,nP),(7,nP),(40,some (100040,false)),(41,nP),(42,nP)],[(4,[nP,nP,nP,qn 200259,qn 200260,qn 200261]),(7,[nP,nP,nP,nP,nP,nP])]⟩,ap 8 95),(12,⟨[(4,nP),(7,nP),(10,nP),(40,some (100040,false)),(41,nP),(42,nP),(48,nP),(49,nP),(50,nP)],[(4,[nP,nP,nP,qn 200259,qn 200260,qn 200261]),(7,[nP,nP,nP,nP,nP,nP]),(10,[nP,nP])]⟩,ap 16 26207)] k f134 0
def e6 (c:Cl) (r5 r6:List Cl) (q:Tm) (oI:Int):St UU:=⟨[(4,(pt 4)),(7,(pt 7)),(40,(.own 100040 0)),(41,(.int .i64 ([(Vd.mk c.pos r5),(Vd.mk c.neg r6)].length:Int))),(42,(iI oI))],[(4,.cells [(iI 0),(iI 0),zu,(.own 200259 0),(.own 200260 0),(.own 200261 0)]),(7,bT q)],[(200261,xO),(200260,zm),(200259,xX),(100040,⟨0,ET.V,[(Vd.mk c.pos r5),(Vd.mk c.neg r6)]⟩)],[(200261,.wr),(200260,.wr),(200259,.wr),(100040,.app)]⟩
def aNM (x8:Vd) (c:Cl) (r5 r6:List Cl) (oI:Int) (r9:List Int) (q:Tm) (v50:Int):St UU:=⟨[(4,(pt 4)),(7,(pt 7)),(10,(pt 10)),(40,(.own 100040 0)),(41,(.int .i64 ([(Vd.mk c.pos r5),(Vd.mk c.neg r6)].length:Int))),(42,(iI oI)),(48,(la r9 .none)),(49,(iI r9.length)),(50,(iI v50))],[(4,.cells [(iI 0),(iI 0),zu,(.own 200259 0),(.own 200260 0),(.own 200261 0)]),(7,bT q),(10,.cells [(iU x8.set),(sC x8.row)])],[(200261,xO),(200260,zm),(200259,xX),(100040,⟨0,ET.V,[(Vd.mk c.pos r5),(Vd.mk c.neg r6)]⟩)],[(200261,.wr),(200260,.wr),(200259,.wr),(100040,.app)]⟩
section
variable (k:Nat) (t:Tm) (c:Cl) (Z:Out UU->Option S)
theorem aOf (x8 r5 r6 oI r9 Z0): ∀n q v50,(eH k).lp Z 12 [Z0] n (aNM x8 c r5 r6 oI r9 q v50)=SI k (BB Z) (fun x oI=>Z0 (e6 c r5 r6 x oI)) x8 c r5 r6 oI r9 n q v50:=aL (FJ k (BB Z) x8 c r5 r6 oI r9 (fun x oI=>Z0 (e6 c r5 r6 x oI)))
theorem aOe (r5 r6): ∀n x oI,(eH k).lp Z 9 [] n (e6 c r5 r6 x oI)=KO k (BB Z) c r5 r6 n x oI:=aL (fun own=>j9 k (BB Z) c r5 r6 (fun z oI A q v50=>SI k (BB Z) own z c r5 r6 oI A k q v50) own) rfl (fun _=>rfl) fun r x oI=>po (b:=j9 k (BB Z) c r5 r6 (fun z oI A q v50=>(eH k).lp Z 12 [r] k (aNM z c r5 r6 oI A q v50)) (fun x oI=>r (e6 c r5 r6 x oI)) x oI) (by kernel_rfl) (by simp only [aOf])
end
theorem f_ (ho:ai o):Tl o 134 (azn k:Rw S):=ow (eH k) ⟨HN k ho,IG o ho k,Em k ho,Eg k ho,aci k ho,e0 o ho k,aaY k ho,Kp k ho,akR o ho,trivial⟩ func134 fun t c Z x h=>po (b:=aNq k (BB Z) (fun q z A oI=>(eH k).lp Z 9 [] k (e6 c q z A oI)) t c) (by kernel_rfl) (po (by simp only [aOe];rfl) (al h))
def dZ:Rw S:=aj jk xn fun f g Z=>aa k (b' k f g) (ub Z)
def eI:Fx S:=fp 19 [(135,Gm k),(136,Qd k)] [] k f72 0
theorem aOw (ho:ai o):Tl o 72 (dZ k:Rw S):=ow (eI k) ⟨JZ k ho,aco k ho,trivial⟩ func72 fun f g Z x h=>pz h
def zs (hd:xY S):Rw S:=aj mf SO fun a b nX nU Z=>hd a b nX nU (E9 nX Z)
def aNZ (hd:xY S) (k:Nat):Rw S:=aj aIR SO fun kind f a b nX nU Z=>aa k (G0 hd k kind f a b nX nU) (E9 nX Z)
def eK (hd:xY S) (k:Nat):Fx S:=fp 57 [(19,zs hd),(61,bg k),(132,ayC k),(133,GL k),(134,azn k)] [(2,aS [0,1,3,4,15,16,17] [(1000000,2)],ap 4 5),(7,aS [0,1,3,4,12,15,16,17,29,30] [(12,2),(1000000,2)],ap 13 3685)] k f71 1
def D3 (nX:List Df) (kind:Int) (f:List Cl) (a b:List Tm) (q ox:Int):St UU:=⟨[(0,(pt 1000000)),(1,(iI kind)),(3,(sT a)),(4,(sT b)),(15,(sC f)),(16,(iI f.length)),(17,(iI ox))],[(1000000,.cells [(km nX .none),(iI q)])],[],[]⟩
def aNO (nX:List Df) (kind:Int) (f:List Cl) (ox:Int) (a b:List Tm) (qG:Int) (q:Cl) (H6:Int):St UU:=⟨[(0,(pt 1000000)),(1,(iI kind)),(3,(sT a)),(4,(sT b)),(12,(pt 12)),(15,(sC f)),(16,(iI f.length)),(17,(iI ox)),(29,(iI a.length)),(30,(iI H6))],[(12,bC q),(1000000,.cells [(km nX .none),(iI qG)])],[],[]⟩
section
variable (hd:xY S) (k:Nat) (kind:Int) (f:List Cl) (a b:List Tm) (nX:List Df) (nU:Int) (Z:Out UU->Option S)
theorem aOh (ox Z0): ∀n qG x H6,(eK hd k).lp Z 7 [Z0] n (aNO nX kind f ox a b qG x H6)=RP hd k (E9 nX Z) (fun q ox=>Z0 (D3 nX kind f a b q ox)) nX kind f ox a b n qG x H6:=eW (Km hd k (E9 nX Z) nX kind f ox a b (fun q ox=>Z0 (D3 nX kind f a b q ox)))
theorem aOg: ∀n q ox,(eK hd k).lp Z 2 [] n (D3 nX kind f a b q ox)=NA hd k (E9 nX Z) nX kind f a b n q ox:=aL (fun own=>pq hd k (E9 nX Z) nX kind f a b (fun ox qG x H6=>RP hd k (E9 nX Z) own nX kind f ox a b k qG x H6) own) rfl (fun _=>rfl) fun r q ox=>po (b:=pq hd k (E9 nX Z) nX kind f a b (fun ox qG x H6=>(eK hd k).lp Z 7 [r] k (aNO nX kind f ox a b qG x H6)) (fun q ox=>r (D3 nX kind f a b q ox)) q ox) (by kernel_rfl) (by simp only [aOh])
end
theorem gg (o:Obj) (ho:ai o) (hd:xY S) (Hd:Tl o 19 (zs hd)) (k:Nat):Tl o 71 (aNZ hd k:Rw S):=ow (eK hd k) ⟨Hd,aFz k ho,aOv k ho,Kq k ho,f_ k ho,trivial⟩ func71 fun kind f a b nX nU Z x h=>po (b:=aNp hd k (E9 nX Z) (fun q ox=>(eK hd k).lp Z 2 [] k (D3 nX kind f a b q ox)) kind f a b nX nU) (by kernel_rfl) (po (by simp only [aOg];rfl) (al h))
def aKd (hd:xY S) (k:Nat):Rw S:=aj aOJ SO fun kind a b nX nU Z=>aa k (k7 hd k kind a b nX nU) (E9 nX Z)
def SM (hd:xY S) (k:Nat):Fx S:=fp 83 [(31,Pu k),(67,aCZ k),(68,aCY k),(69,aC0 k),(71,aNZ hd k),(72,dZ k)] [(6,aS [0,1,3,32,33,34] [(1000000,2)],ap 9 151),(13,aS [0,1,3,53,54,55] [(1000000,2)],ap 7 47),(16,aS [0,1,3,13,53,54,55,59,60,61] [(13,2),(1000000,2)],ap 15 13103)] k f32 1
def aNP (nX:List Df) (kind:Int) (b a:List (Br Tm)) (q x:Int):St UU:=⟨[(0,(pt 1000000)),(1,(iI kind)),(3,(sB b)),(32,(sB a)),(33,(iI a.length)),(34,(iI x))],[(1000000,.cells [(km nX .none),(iI q)])],[],[]⟩
def qg (nX:List Df) (kind:Int) (b a:List (Br Tm)) (qG v55:Int):St UU:=⟨[(0,(pt 1000000)),(1,(iI kind)),(3,(sB b)),(53,(sB a)),(54,(iI a.length)),(55,(iI v55))],[(1000000,.cells [(km nX .none),(iI qG)])],[],[]⟩
def aNQ (nX:List Df) (q:(Br Tm)) (kind:Int) (b a:List (Br Tm)) (v55:Int) (ta x:Int):St UU:=⟨[(0,(pt 1000000)),(1,(iI kind)),(3,(sB b)),(13,(pt 13)),(53,(sB a)),(54,(iI a.length)),(55,(iI v55)),(59,(sB b)),(60,(iI b.length)),(61,(iI x))],[(13,bB q),(1000000,.cells [(km nX .none),(iI ta)])],[],[]⟩
section
variable (hd:xY S) (k:Nat) (kind:Int) (a b:List (Br Tm)) (nX:List Df) (nU:Int) (Z:Out UU->Option S)
theorem aOi: ∀n q x,(SM hd k).lp Z 6 [] n (aNP nX kind b a q x)=k8 hd k (E9 nX Z) nX kind b a n q x:=aL (w3 hd k (E9 nX Z) nX kind b a)
theorem aOk (q v55 Z1): ∀n ta x,(SM hd k).lp Z 16 [Z1] n (aNQ nX q kind b a v55 ta x)=SJ hd k (E9 nX Z) (fun qG v55=>Z1 (qg nX kind b a qG v55)) nX q kind b a v55 n ta x:=aL (L' hd k (E9 nX Z) nX q kind b a v55 (fun qG v55=>Z1 (qg nX kind b a qG v55)))
theorem aOj: ∀n qG v55,(SM hd k).lp Z 13 [] n (qg nX kind b a qG v55)=RQ hd k (E9 nX Z) nX kind b a n qG v55:=aL (fun own=>ml hd k (E9 nX Z) nX kind b a (fun q v55 ta x=>SJ hd k (E9 nX Z) own nX q kind b a v55 k ta x) own) rfl (fun _=>rfl) fun r qG v55=>po (b:=ml hd k (E9 nX Z) nX kind b a (fun q v55 ta x=>(SM hd k).lp Z 16 [r] k (aNQ nX q kind b a v55 ta x)) (fun qG v55=>r (qg nX kind b a qG v55)) qG v55) (by kernel_rfl) (by simp only [aOk])
end
theorem aKz (o:Obj) (ho:ai o) (hd:xY S) (Hd:Tl o 19 (zs hd)) (k:Nat):Tl o 32 (aKd hd k:Rw S):=ow (SM hd k) ⟨qt k ho,fY k ho,aFD k ho,aFE k ho,gg o ho hd Hd k,aOw k ho,trivial⟩ func32 fun kind a b nX nU Z x h=>po (b:=aNo hd k (E9 nX Z) (fun q z=>(SM hd k).lp Z 6 [] k (aNP nX kind b a q z)) (fun qG v55=>(SM hd k).lp Z 13 [] k (qg nX kind b a qG v55)) kind a b nX nU) (by kernel_rfl) (po (by simp only [aOi,aOj];rfl) (al h))
def aQ (hd:xY S) (k:Nat):Fx S:=fp 165 [(19,zs hd),(27,dA k),(28,aCV k),(29,aCW k),(30,aCX k),(31,Pu k),(32,aKd hd k)] [(20,aS [0,7,8,139,140] [(7,6),(8,6),(1000000,2)],ap 9 191)] k f19 1
def aNN (nX:List Df) (r2 r5:Tm×Int) (x q:Int):St UU:=⟨[(0,(pt 1000000)),(7,(pt 7)),(8,(pt 8)),(139,(iI r2.1.c.length)),(140,(iI q))],[(7,bT r2.1),(8,bT r5.1),(1000000,.cells [(km nX .none),(iI x)])],[],[]⟩
section
variable (hd:xY S) (k:Nat) (a b:Tm) (nX:List Df) (nU:Int) (Z:Out UU->Option S)
theorem eX (r2 r5): ∀n x q,(aQ hd k).lp Z 20 [] n (aNN nX r2 r5 x q)=jq hd k (E9 nX Z) nX r2 r5 n x q:=aL (hg hd k (E9 nX Z) nX r2 r5)
end
theorem aNe (o:Obj) (ho:ai o): ∀k:Nat,Tl o 19 (zs (Bx k:xY S))
 |0=>dz fun a b nX nU Z x h=>by cases h
 |k+1=>ow (aQ (Bx k) k) ⟨aNe o ho k,aOu k ho,aFB k ho,aFC k ho,fI k ho,qt k ho,aKz o ho (Bx k) (aNe o ho k) k,trivial⟩ func19 fun a b nX nU Z x h=>po (b:=kx (Bx k) k (E9 nX Z) (fun A B z q=>(aQ (Bx k) k).lp Z 20 [] k (aNN nX A B z q)) a b nX nU) (by kernel_rfl) (po (by simp only [eX];rfl) h)
def bc:Rw S:=aj aOK xn fun defs a b fuel Z=>aa k (SL k defs a b fuel) (fc Z)
def ax:Fx S:=⟨⟨49,(fun _=>[]),(fun _=>false),nP,fun|8=>true|9=>true|10=>true|_=>false⟩,[(14,PK k),(19,zs (Bx k))],[(2,⟨[(0,nP),(3,nP),(5,nP),(6,nP),(8,nP),(9,nP),(10,nP),(17,some (100017,false)),(18,nP),(19,nP)],[(5,[nP,nP,nP,nP,nP,nP]),(6,[nP,nP,nP,nP,nP,nP]),(5000008,[nP]),(5000009,[nP]),(5000010,[nP])]⟩,ap 4 5)],k,f12,false,[],0,some (o9 16 18 f18 k)⟩
def aNR (a b:Tm) (defs:List Df) (fuel:Int) (q:Int):St UU:=⟨[(0,(km defs .none)),(3,(iI fuel)),(5,(pt 5)),(6,(pt 6)),(8,(pt 5000008)),(9,(pt 5000009)),(10,(pt 5000010)),(17,(.own 100017 0)),(18,(.int .i64 ([(ac a),(ac b)].length:Int))),(19,(iI q))],[(5,bT a),(6,bT b),(5000008,.cells [(.bool false)]),(5000009,bI 0),(5000010,bI 0)],[(100017,⟨0,ET.T,[(ac a),(ac b)]⟩)],[(100017,.app)]⟩
section
variable (k:Nat) (defs:List Df) (a b:Tm) (fuel:Int) (Z:Out UU->Option S)
theorem aOl: ∀n q,(ax k).lp Z 2 [] n (aNR a b defs fuel q)=ME k (fc Z) a b defs fuel n q:=cF (iF k (fc Z) a b defs fuel)
end
theorem aNy (ho:ai o):Tl o 12 (bc k:Rw S):=BZ (ax k) rfl (yn o func18 (by kernel_rfl)) ⟨HN k ho,aNe o ho k,trivial⟩ func12 (by kernel_rfl) fun defs a b fuel Z x h=>po (b:=aNn k (fc Z) (fun q=>(ax k).lp Z 2 [] k (aNR a b defs fuel q)) defs a b fuel) (by kernel_rfl) (po (by simp only [aOl];rfl) (al h))
def aKe:Rw S:=aj cn xn fun Z=>aa k (o2 k) (F9 Z)
def aKr:Fx S:=fp 41 [(12,bc k),(15,F_ k)] [] k f7 0
theorem aKA (ho:ai o):Tl o 7 (aKe k:Rw S):=ow (aKr k) ⟨aNy k ho,eX0 k ho,trivial⟩ func7 fun Z x h=>pz h
def r' (hd:gY S):Rw S:=aj Ag xn fun t ov Z=>hd t ov (da Z)
def SN (hd:gY S) (k:Nat):Fx S:=fp 119 [(16,r' hd)] [(5,aS [1,2,5,6] [(2,6)],ap 6 23),(9,aS [1,2,5,7] [(2,6)],ap 7 47),(15,aS [1,2,5,7,8] [(2,6)],ap 15 14639)] k f16 0
def aJ7 (t:Tm) (ov:Int) (v5 i6:Int):St UU:=⟨[(1,(iI ov)),(2,(pt 2)),(5,(iI v5)),(6,(iI i6))],[(2,bT t)],[],[]⟩
def zq (t:Tm) (ov:Int) (q i7:Int):St UU:=⟨[(1,(iI ov)),(2,(pt 2)),(5,(iI q)),(7,(iI i7))],[(2,bT t)],[],[]⟩
def aNS (t:Tm) (ov i7:Int) (q x:Int):St UU:=⟨[(1,(iI ov)),(2,(pt 2)),(5,(iI q)),(7,(iI i7)),(8,(iI x))],[(2,bT t)],[],[]⟩
section
variable (hd:gY S) (k:Nat) (t:Tm) (ov:Int) (Z:Out UU->Option S)
theorem aOn (i7 Z1): ∀n q z,(SN hd k).lp Z 15 [Z1] n (aNS t ov i7 q z)=kA hd k (da Z) (fun x i7=>Z1 (zq t ov x i7)) t ov i7 n q z:=aL (xL hd k (da Z) t ov i7 (fun x i7=>Z1 (zq t ov x i7)))
theorem aOm: ∀n q i7,(SN hd k).lp Z 9 [] n (zq t ov q i7)=jl hd k (da Z) t ov n q i7:=aL (fun own=>sS hd k (da Z) t ov (fun i7 x z=>kA hd k (da Z) own t ov i7 k x z) own) rfl (fun _=>rfl) fun r q i7=>po (b:=sS hd k (da Z) t ov (fun i7 x z=>(SN hd k).lp Z 15 [r] k (aNS t ov i7 x z)) (fun q i7=>r (zq t ov q i7)) q i7) (by kernel_rfl) (by simp only [aOn])
theorem aKv: ∀n v5 i6,(SN hd k).lp Z 5 [] n (aJ7 t ov v5 i6)=nQ hd k (da Z) t ov n v5 i6:=aL (fun own=>ja hd k (da Z) t ov (fun q i7=>jl hd k (da Z) t ov k q i7) own) rfl (fun _=>rfl) fun r v5 i6=>po (b:=ja hd k (da Z) t ov (fun q i7=>(SN hd k).lp Z 9 [] k (zq t ov q i7)) (fun v5 i6=>r (aJ7 t ov v5 i6)) v5 i6) (by kernel_rfl) (by simp only [aOm])
end
theorem aNf (o:Obj) (ho:ai o): ∀k:Nat,Tl o 16 (r' (gE k:gY S))
 |0=>dz fun t ov Z x h=>by cases h
 |k+1=>ow (SN (gE k) k) ⟨aNf o ho k,trivial⟩ func16 fun t ov Z x h=>po (b:=Io (gE k) k (da Z) (fun v5 i6=>(SN (gE k) k).lp Z 5 [] k (aJ7 t ov v5 i6)) t ov) (by kernel_rfl) (po (by simp only [aKv];rfl) h)
def aKf:Rw S:=aj EA xn fun t Z=>aa k (n2 k t) (F9 Z)
def aKs:Fx S:=fp 6 [(16,r' (gE k))] [] k f8 0
theorem aKB (ho:ai o):Tl o 8 (aKf k:Rw S):=ow (aKs k) ⟨aNf o ho k,trivial⟩ func8 fun t Z x h=>pz h
def aKg:Rw S:=aj EA xn fun t Z=>aa k (HV k t) (F9 Z)
def aJK:Fx S:=fp 6 [(16,r' (gE k))] [] k f17 0
theorem aKC (ho:ai o):Tl o 17 (aKg k:Rw S):=ow (aJK k) ⟨aNf o ho k,trivial⟩ func17 fun t Z x h=>pz h
def aKh:Rw S:=aj aKN xn fun l Z=>aa k (b0 k l) (F9 Z)
def aKt:Fx S:=fp 24 [(17,aKg k)] [(4,aS [8,9,10] [],ap 5 11)] k f9 0
def aNT (l:List Df) (qm:Int):St UU:=⟨[(8,(su l .none)),(9,(iI l.length)),(10,(iI qm))],[],[],[]⟩
section
variable (k:Nat) (l:List Df) (Z:Out UU->Option S)
theorem aOo: ∀n qm,(aKt k).lp Z 4 [] n (aNT l qm)=Sl k (F9 Z) l n qm:=cF (IB k (F9 Z) l)
end
theorem aKD (ho:ai o):Tl o 9 (aKh k:Rw S):=ow (aKt k) ⟨aKC k ho,trivial⟩ func9 fun l Z x h=>po (b:=aAk k (F9 Z) (fun qm=>(aKt k).lp Z 4 [] k (aNT l qm)) l) (by kernel_rfl) (po (by simp only [aOo];rfl) (al h))
def aLl:Rw S:=aj aKN xn fun l Z=>aa k (ek k l) (ch Z)
def aFI:Fx S:=fp 18 [] [(3,⟨[(3,qn 100003),(6,nP),(7,nP),(8,nP)],[]⟩,ap 5 11)] k f10 0
def aLf (l:List Df) (q:List Df) (x:Int):St UU:=⟨[(3,(.own 100003 0)),(6,(su l .none)),(7,(iI l.length)),(8,(iI x))],[],[(100003,⟨0,ET.D,q⟩)],[(100003,.wr)]⟩
section
variable (k:Nat) (l:List Df) (Z:Out UU->Option S)
theorem aLG: ∀n q x,(aFI k).lp Z 3 [] n (aLf l q x)=kv k (ch Z) l n q x:=aL (w2 k (ch Z) l)
end
theorem aOx (ho:ai o):Tl o 10 (aLl k:Rw S):=ow (aFI k) trivial func10 fun l Z x h=>po (b:=h3 k (ch Z) (fun q z=>(aFI k).lp Z 3 [] k (aLf l q z)) l) (by kernel_rfl) (po (by simp only [aLG];rfl) (al h))
def aKQ:Rw S:=aj Mr xn fun qu Z=>aa k (Bi k qu) (da Z)
def aLE:Fx S:=fp 12 [] [] k f11 0
theorem aLM (ho:ai o):Tl o 11 (aKQ k:Rw S):=ow (aLE k) trivial func11 fun qu Z x h=>pz h
def J2:Rw S:=aj aOL xn fun defs a b fuel more Z=>aa k (hr k defs a b fuel more) (F9 Z)
def aKu:Fx S:=fp 89 [(7,aKe k),(8,aKf k),(9,aKh k),(10,aLl k),(11,aKQ k),(12,bc k)] [] k f3 0
theorem aKE (ho:ai o):Tl o 3 (J2 k:Rw S):=ow (aKu k) ⟨aKA k ho,aKB k ho,aKD k ho,aOx k ho,aLM k ho,aNy k ho,trivial⟩ func3 fun defs a b fuel more Z x h=>pz h
section
variable (k:Nat) (defs:List Df) (t:Tm) (fuel:Int) (Z:Out UU->Option S)
end
theorem aPe (o:Obj) (ho:ai o) (k:Nat):Tl o 3 (J2 k:Rw S):=aKE k ho
end
end
section
variable {S:Type} {k:Nat}
def bE {α β:Type} (x:Except Int α) (f:α->Except Int β):Except Int β:=match x with
 | .error e=> .error e
 | .ok a=>f a
theorem aD {α β:Type} (a:α) (f:α->Except Int β):bE (.ok a) f=f a:=rfl
theorem lk {α β:Type} (e:Int) (f:α->Except Int β):bE (.error e) f= .error e:=rfl
theorem i8 {α β:Type} {x:Except Int α} {f:α->Except Int β} {b:β} (h:bE x f= .ok b): ∃a,x= .ok a/\f a= .ok b:=by
 cases x with
 |error e=>cases h
 |ok a=>exact ⟨a,rfl,h⟩
theorem be {α β:Type} {x:Except Int α} {f:α->Except Int β} {e:Int} (h:bE x f= .error e):x= .error e\/ ∃a,x= .ok a/\f a= .error e:=by
 cases x with
 |error e=>injection h with h;grind
 |ok a=>exact .inr ⟨a,rfl,h⟩
def B1 (x:LC×Int):Except Int (LC):=if x.2=0 then .ok x.1 else .error x.2
theorem jF {x:LC×Int} (h:x.2=0):B1 x= .ok x.1:=if_pos h
theorem iO {x:LC×Int} (h:x.2≠0):B1 x= .error x.2:=if_neg h
theorem rR {x:LC×Int} {l:LC} (h:B1 x= .ok l):x.2=0/\x.1=l:=by
 grind [B1]
theorem hi {x:LC×Int} {e:Int} (h:B1 x= .error e):x.2≠0/\x.2=e:=by
 grind [B1]
def EN (e:Int):Prop:=0<=e/\e<=1000
theorem uq:EN 0:=by unfold EN;omega
theorem lO:EN 2:=by unfold EN;omega
theorem en3:EN 3:=by unfold EN;omega
theorem acI:EN 10:=by unfold EN;omega
theorem l9 (l:LC):EN (bp l).2:=by
 grind [bp,en3,uq,lO]
theorem z8 {step:LC->Cl->LC×Int} (hs: ∀h c,EN (step h c).2): ∀ {r h:LC},EN (xJ step h r).2:=by
 intro r
 induction r<;>grind [uq,xJ]
theorem agu (s i b:Int):EN (Db s i b).2:=by
 grind [Db,lO,LR,uq,acI]
theorem agk (c:Cl) (i b:Int):EN (dw c i b).2:=by
 grind [dw,agu,lO]
theorem q_ (f:LC) (i b:Int):EN (td f i b).2:=by
 unfold td
 split
 ·split
  ·exact l9 _
  ·exact z8 fun h c=>agk c i b
 ·exact lO
theorem T8 {n b x y:Nat} (h:eU n b x=eU n b y):x=y:=by
 grind [eU]
theorem ak2 (n b:Nat) {l:List Nat} (h:l.Nodup):(l.map (eU n b)).Nodup:=
 List.Pairwise.map (S:=fun a b=>a≠b) (R:=fun a b=>a≠b) _ (fun x y q h=>q (T8 h)) h
theorem ags {m n b:Nat} (h:(LR m n b).2=0) (j:Nat):(LR m n b).1.testBit j=true↔ ∃x,x<24/\m.testBit x=true/\eU n b x=j:=by
 rw [Fg] at h ⊢
 split<;>grind [oG,ak2,oY,sU]
theorem ZC {m:Nat} (h:m<16777216):m&&&xB=m:=by
 apply Nat.eq_of_testBit_eq
 grind [g8,oZ]
theorem acY {i b:Int}: ∀ {r h:LC},(xJ (dK i b) h r).2=0->(∀c∈r,(dw c i b).2=0)/\(xJ (dK i b) h r).1=h++r.map fun c=>(dw c i b).1:=by
 intro r
 induction r<;>grind [xJ,dK]
theorem agn {f:LC} {i b:Int} (h:(td f i b).2=0): ∀c∈(td f i b).1,∃d∈f,(dw d i b).2=0/\c=(dw d i b).1:=by
 grind [td,acY,bp,tc]
theorem ZY {c:Cl}:bS c=false↔ ∀j,¬ (c.pos.toNat.testBit j=true/\c.neg.toNat.testBit j=true):=by
 unfold bS
 rw [Bool.not_eq_false',decide_eq_true_eq]
 constructor
 ·intro h j ⟨h1,h2⟩
  have:(c.pos.toNat&&&c.neg.toNat).testBit j=true:=by grind
  grind
 ·intro h
  apply Nat.eq_of_testBit_eq
  grind
theorem agt {s i b:Int} (h:(Db s i b).2=0) {j:Nat} (hj:(Db s i b).1.toNat.testBit j=true): ∃x,s.toNat.testBit x=true/\eU i.toNat b.toNat x=j:=by
 unfold Db at h hj
 split at h
 ·cases h
 ·next hn=>
  rw [if_neg hn] at hj
  have h':(LR s.toNat i.toNat b.toNat).2=0:=by
   omega
  obtain ⟨x,_,h2,q⟩:=(ags h' j).1 hj
  grind
theorem agj {c:Cl} {i b:Int} (h:(dw c i b).2=0) (hc:bS c=false):bS (dw c i b).1=false:=by
 grind [ZY,dw,agt,T8]
def EZ (d b:Int) (f:LC):Except Int (LC):=if b=0\/d>=24 then .ok f else B1 (td f d b)
theorem GY {d b:Int} {f g:LC} (hf:RF f) (h:EZ d b f= .ok g):RF g:=by
 grind [EZ,rR,kQ]
theorem Bq {d b:Int} {f:LC} {e:Int} (h:EZ d b f= .error e):0<e/\e<=1000:=by
 grind [EZ,hi,q_,EN]
theorem aiw {d b:Int} {f g:LC} (hf:f.all (fun c=> !bS c)=true) (h:EZ d b f= .ok g):g.all (fun c=> !bS c)=true:=by
 grind [EZ,rR,agn,agj]
theorem Bt (d b:Int):EZ d b []= .ok []:=by
 unfold EZ
 split
 all_goals rfl
mutual
def uC (vb db v d:Int):Tm->Except Int Tm
 | .mk kd n nm r z sys=>
  if kd=1/\n>=v/\n>1000000000-vb then .error 100
  else bE (EZ d db r) fun A=>bE (dm vb db v d kd 0 z) fun x=>bE (HD vb db v d kd sys) fun q=> .ok (.mk kd (if kd=1/\n>=v then n+vb else n) nm A x q)
def dm (vb db v d kd:Int) (i:Nat):LT->Except Int (LT)
 |[]=> .ok []
 |t::l=>bE (uC vb db (v+Ab kd i) (d+bJ kd i) t) fun t'=>bE (dm vb db v d kd (i+1) l) fun q=> .ok (t'::q)
def HD (vb db v d kd:Int):LB->Except Int (LB)
 |[]=> .ok []
 |b::l=>bE (n8 vb db v d kd b) fun q=>bE (HD vb db v d kd l) fun x=> .ok (q::x)
def n8 (vb db v d kd:Int):Br Tm->Except Int (Br Tm)
 | .mk f x=>bE (EZ d db f) fun z=>bE (H3 vb db v d kd x) fun q=> .ok (.mk z q)
def H3 (vb db v d kd:Int):LT->Except Int (LT)
 |[]=> .ok []
 |t::l=>bE (uC vb db v (d+av kd) t) fun t'=>bE (H3 vb db v d kd l) fun q=> .ok (t'::q)
end
mutual
def q7:Tm->Prop
 | .mk kd n nm r q sys=>(RF r/\(kd=1->r=[])/\0<=kd)/\dQ q/\eA sys
def dQ:LT->Prop
 |[]=>True
 |t::l=>q7 t/\dQ l
def eA:LB->Prop
 |[]=>True
 |b::l=>mZ b/\eA l
def mZ:Br Tm->Prop
 | .mk f q=>RF f/\dQ q
end
theorem xR: ∀ {l:LT},dQ l↔ ∀t∈l,q7 t:=by
 intro l
 induction l<;>grind [dQ]
theorem G3 {b:Br Tm}:mZ b↔RF b.f/\ ∀t∈b.c,q7 t:=by cases b;rw [mZ,xR]
theorem FD: ∀ {l:LB},eA l↔ ∀b∈l,RF b.f/\ ∀t∈b.c,q7 t:=by
 intro l
 induction l<;>grind [eA,G3]
inductive F2 {α β:Type} (R:α->β->Prop):List α->List β->Prop
 |nil:F2 R [] []
 |cons {a:α} {b:β} {l:List α} {m:List β}:R a b->F2 R l m->F2 R (a::l) (b::m)
theorem F2.len {α β:Type} {R:α->β->Prop} {l:List α} {m:List β} (h:F2 R l m):m.length=l.length:=by
 induction h<;>grind
theorem F2.imp {α β:Type} {R Q:α->β->Prop} {l:List α} {m:List β} (h:F2 R l m) (q: ∀a b,R a b->Q a b):F2 Q l m:=by
 induction h<;>grind [nil,cons]
theorem ago {vb db v d kd:Int} {R:Tm->Tm->Prop}: ∀ {l:LT} {i:Nat} {l':LT},(∀x∈l,∀v d q,uC vb db v d x= .ok q->R x q)->dm vb db v d kd i l= .ok l'->F2 R l l':=by
 intro l
 induction l with
 |nil=>intro i l' _ h;rw [dm] at h;injection h with h;subst h;exact .nil
 |cons t l A=>
  intro i l' z h
  rw [dm] at h
  obtain ⟨t',h1,h⟩:=i8 h
  obtain ⟨m,h2,h⟩:=i8 h
  injection h with h;subst h
  exact .cons (z t (by simp) _ _ _ h1) (A (fun x B=>z x (by simp [B])) h2)
theorem agp {vb db v d kd:Int} {R:Tm->Tm->Prop}: ∀ {l:LT} {l':LT},(∀x∈l,∀v d q,uC vb db v d x= .ok q->R x q)->H3 vb db v d kd l= .ok l'->F2 R l l':=by
 intro l
 induction l with
 |nil=>intro l' _ h;rw [H3] at h;injection h with h;subst h;exact .nil
 |cons t l A=>
  intro l' z h
  rw [H3] at h
  obtain ⟨t',h1,h⟩:=i8 h
  obtain ⟨m,h2,h⟩:=i8 h
  injection h with h;subst h
  exact .cons (z t (by simp) _ _ _ h1) (A (fun x B=>z x (by simp [B])) h2)
theorem agv {vb db v d kd:Int} {R:Tm->Tm->Prop}: ∀ {l l':LB},(∀b∈l,∀x∈b.c,∀v d z,uC vb db v d x= .ok z->R x z)->HD vb db v d kd l= .ok l'->
  F2 (fun b q=>EZ d db b.f= .ok q.f/\F2 R b.c q.c) l l':=by
 intro l
 induction l with
 |nil=>intro l' _ h;rw [HD] at h;injection h with h;subst h;exact .nil
 |cons b l B=>
  intro l' A h
  rw [HD] at h
  obtain ⟨q,h1,h⟩:=i8 h
  obtain ⟨m,h2,h⟩:=i8 h
  injection h with h;subst h
  cases b with
  |mk f E=>
   rw [n8] at h1
   obtain ⟨L,F,h1⟩:=i8 h1
   obtain ⟨I,J,h1⟩:=i8 h1
   injection h1 with h1;subst h1
   exact .cons ⟨F,agp (A ⟨f,E⟩ (by simp)) J⟩ (B (fun b hb=>A b (by simp [hb])) h2)
theorem Av {f:LC} {d:Int} (h:24<=d):dg f d=true:=by
 grind [dg,sU]
def Up (x q:Tm):Prop:=am q=am x/\au q=au x/\q.k=x.k/\(pr x->pr q/\(q7 x->q7 q)/\ ∀A z,24<=A->24<=z->sL false (-1) A x=true->sL false (-1) z q=true)
theorem Ua {l l':LT} (h:F2 Up l l'):aH l'=aH l:=by
 induction h with
 |nil=>rfl
 |cons h1 _ q=>rw [aH,aH,h1.1,q]
theorem Ud {l l':LT} (h:F2 Up l l'):ay l'=ay l:=by
 induction h with
 |nil=>rfl
 |cons h1 _ q=>rw [ay,ay,h1.2.1,q]
theorem ala {l l':LB} (h:F2 (fun b q:Br Tm=>F2 Up b.c q.c) l l'):aO l'=aO l:=by
 induction h with
 |nil=>rfl
 |cons h1 _ x=>grind [aO,pD,Ua]
theorem alb {l l':LB} (h:F2 (fun b q:Br Tm=>F2 Up b.c q.c) l l'):aI l'=aI l:=by
 induction h with
 |nil=>rfl
 |cons h1 _ x=>grind [aI,kZ,Ud]
theorem Ub {l l':LT} (h:F2 Up l l'):aZ l->aZ l':=by
 induction h with
 |nil=>exact id
 |cons h1 _ q=>rw [aZ,aZ];exact fun h=>⟨(h1.2.2.2 h.1).1,q h.2⟩
theorem Uc {l l':LT} (h:F2 Up l l'):aZ l->dQ l->dQ l':=by
 induction h with
 |nil=>simp
 |cons h1 _ q=>rw [aZ,dQ,dQ];exact fun h g=>⟨(h1.2.2.2 h.1).2.1 g.1,q h.2 g.2⟩
theorem B2 (v:Int):cQ (-1) v= -1:=by rfl
theorem ak9 {kd x q:Int} (h1:24<=x) (h2:24<=q) {l l':LT} (h:F2 Up l l'): ∀ {i:Nat},aZ l->bO false (-1) x kd i l=true->bO false (-1) q kd i l'=true:=by
 induction h with
 |nil=>exact fun _ h=>h
 |cons z _ A=>
  intro i
  rw [aZ,bO,bO,qk,qk,B2]
  have:=gr kd i
  exact fun h g=>⟨(z.2.2.2 h.1).2.2 _ _ (by omega) (by omega) g.1,A h.2 g.2⟩
theorem ak_ {kd x q:Int} (h1:24<=x) (h2:24<=q) {l l':LT} (h:F2 Up l l'):aZ l->ca false (-1) x kd l=true->ca false (-1) q kd l'=true:=by
 induction h with
 |nil=>exact fun _ h=>h
 |cons z _ A=>
  rw [aZ,ca,ca,qk,qk]
  have:=KW kd
  exact fun h g=>⟨(z.2.2.2 h.1).2.2 _ _ (by omega) (by omega) g.1,A h.2 g.2⟩
def oN (d db:Int) (b q:Br Tm):Prop:=EZ d db b.f= .ok q.f/\F2 Up b.c q.c
theorem QG {d db:Int} {f g:LC} (h:EZ d db f= .ok g) (hf:aq f) (hl:f.length<1073741824):aq g/\g.length<1073741824:=by
 unfold EZ at h
 split at h
 ·grind
 ·obtain ⟨h1,rfl⟩:=rR h
  have:=kQ h1
  exact ⟨this.2,by have:=this.len;omega⟩
theorem QH {d db:Int} {f g:LC} (h:EZ d db f= .ok g) (hf:aq f) (q:xW f=true):xW g=true:=(GY ((L6 hf).1 q) h).right
theorem QF {d db:Int} {f g:LC} (h:EZ d db f= .ok g) (hf:aq f) (q:cV f=true):cV g=true:=by
 grind [cV,QH,aiw]
theorem aiv {d db:Int} {f g:LC} (h:EZ d db f= .ok g) (hf:f.length=0):g.length=0:=by
 grind [Bt]
theorem ak6 {d db:Int} {l l':LB} (h:F2 (oN d db) l l'):ba l->ba l':=by
 induction h with
 |nil=>exact id
 |cons h1 _ x=>
  rw [ba,ba,oh,oh]
  intro h
  have q:=QG h1.1 h.1.1.1 h.1.1.2.1
  exact ⟨⟨⟨q.1,q.2,by have:=h1.2.len;omega⟩,vg.1 (Ub h1.2 (vg.2 h.1.2))⟩,x h.2⟩
theorem ak8 {d db:Int} {l l':LB} (h:F2 (oN d db) l l'):ba l->eA l->eA l':=by
 induction h with
 |nil=>simp
 |cons h1 _ q=>
  rw [ba,oh,eA,eA,G3,G3]
  intro h g
  exact ⟨⟨GY g.1.1 h1.1,xR.1 (Uc h1.2 (vg.2 h.1.2) (xR.2 g.1.2))⟩,q h.2 g.2⟩
theorem ak5 {d db kd x q:Int} (h1:24<=x) (h2:24<=q) {l l':LB} (h:F2 (oN d db) l l'):ba l->ck false (-1) x kd l=true->ck false (-1) q kd l'=true:=by
 induction h with
 |nil=>exact fun _ h=>h
 | @cons a b _ _ z _ A=>
  rw [ba,oh,ck,ck,qk,qk]
  intro h g
  refine ⟨?_,A h.2 g.2⟩
  cases a;cases b
  have g1:=g.1
  rw [jT] at g1 ⊢
  exact ak_ h1 h2 z.2 (vg.2 h.1.2) g1
theorem ak7 {d db kd x q:Int} (h1:24<=x) (h2:24<=q) {l l':LB} (h:F2 (oN d db) l l'):ba l->l.all (bX kd x)=true->l'.all (bX kd q)=true:=by
 induction h with
 |nil=>simp
 | @cons a b _ _ z _ A=>
  rw [ba,oh,List.all_cons,List.all_cons,qk,qk]
  intro h g
  refine ⟨?_,A h.2 g.2⟩
  have g1:=g.1
  unfold bX at g1 ⊢
  rw [qk,qk,decide_eq_true_eq] at g1 ⊢
  rw [z.2.len]
  exact ⟨g1.1,QF z.1 h.1.1.1 g1.2.1,Av h2⟩
theorem T_ {d db:Int} {l l':LB} (h:F2 (oN d db) l l'):F2 (fun b q:Br Tm=>F2 Up b.c q.c) l l':=h.imp fun _ _ h=>h.2
theorem uP {vb db:Int} (W:0<=vb) (T:vb<=1000000000) (t:Tm): ∀v d t',uC vb db v d t= .ok t'->Up t t':=by
 induction t using gq with
 |h kd n nm r Y sys F I=>
  intro v d t' h
  rw [uC] at h
  split at h
  ·cases h
  next hv=>
  obtain ⟨r',hr,h⟩:=i8 h
  obtain ⟨J,hk,h⟩:=i8 h
  obtain ⟨z,hs,h⟩:=i8 h
  injection h with h;subst h
  have E:F2 Up Y J:=ago (fun x L v d M=>F x L v d M) hk
  have fs:F2 (oN d db) sys z:=agv (fun b hb x L v d M=>I b hb x L v d M) hs
  refine ⟨?_, ?_,rfl,fun A=> ?_⟩
  ·grind [am,Ua,ala,T_]
  ·grind [au,Ud,alb,T_]
  ·obtain ⟨o1,o2,o3,o4,o5,o6,o7⟩:=A.node
   have q:=A
   rw [pr] at q
   obtain ⟨_,ok,os⟩:=q
   have B:=QG hr o4 o5
   have O:=o2
   unfold aG at O
   refine ⟨?_, ?_, ?_⟩
   ·rw [pr]
    refine ⟨⟨o1, ?_,o3,B.1,B.2,by rw [E.len];exact o6,by rw [fs.len];exact o7⟩,Ub E ok,ak6 fs os⟩
    grind [aG]
   ·grind [q7,GY,Uc,ak8,Bt]
   ·intro dd ad h1 h2
    rw [sL,sL]
    simp only [Bool.false_and,sV,Bool.true_and,qk]
    rintro ⟨a,b,c⟩
    refine ⟨?_,ak9 h1 h2 E ok b,ak5 h1 h2 fs os c⟩
    unfold cL at a ⊢
    simp only [qk,decide_eq_true_eq,E.len,fs.len] at a ⊢
    grind [aiv,QH,Av,QF,ak7]
theorem aed {kd:Int} {n:Nat} (h:ct kd=n):0<=kd:=by
 grind [ct]
theorem ZA {bd:Bool} (t:Tm): ∀ {vars nV:Int},pr t->sL bd vars nV t=true->q7 t:=by
 induction t using gq with
 |h kd n nm r W sys J L=>
  intro vars nV B h
  rw [sL,qk,qk,qk] at h
  obtain ⟨_,a,b,c⟩:=h
  obtain ⟨Y,o2,o3,O,o5,o6,o7⟩:=B.node
  have A:=B
  rw [pr] at A
  obtain ⟨_,ok,os⟩:=A
  have E: ∀ {l:LT} {i:Nat},(∀x∈l,∀ {vars nV:Int},pr x->sL bd vars nV x=true->q7 x)->aZ l->bO bd vars nV kd i l=true->dQ l:=by
   intro l
   induction l<;>grind [dQ,bO,aZ]
  rw [wH,xo] at c
  unfold cL at a
  simp only [qk,decide_eq_true_eq] at a
  obtain ⟨⟨a1,a2,a3,a4⟩,a5⟩:=a
  have T: ∀ {l:LC},l.length=0->RF l:=fun h=>by
   grind [rA]
  rw [q7]
  have q:(sys=[]\/sys.all (bX kd nV)=true)/\RF r/\(kd=1->r=[]):=by
   have z:xV kd=0->sys=[]:=fun h=>Iu.1 (a4 h)
   by_cases c1:kd=1
   ·rw [if_pos c1] at a5
    simp only [qk,decide_eq_true_eq] at a5
    exact ⟨.inl (z (by subst c1;decide)),T a5.1,fun _=>Iu.1 a5.1⟩
   ·rw [if_neg c1] at a5
    by_cases c2:kd=2
    ·rw [if_pos c2] at a5
     simp only [qk,decide_eq_true_eq] at a5
     exact ⟨.inl (z (by subst c2;decide)),T a5.1,fun h=>absurd h c1⟩
    ·rw [if_neg c2] at a5
     by_cases c3:kd=13\/kd=21\/kd=26
     ·rw [if_pos c3,qk] at a5
      exact ⟨.inl (z (by rcases c3 with rfl|rfl|rfl<;>decide)),(L6 O).1 a5.1,fun h=>absurd h c1⟩
     ·rw [if_neg c3] at a5
      by_cases c4:kd=14
      ·rw [if_pos c4,qk] at a5
       unfold cV at a5
       rw [qk] at a5
       exact ⟨.inl (z (by subst c4;decide)),(L6 O).1 a5.1.1,fun h=>absurd h c1⟩
      grind
  refine ⟨⟨q.2.1,q.2.2,aed a1⟩,E (fun x I=>J x I) ok b, ?_⟩
  rw [FD]
  intro br F
  have hc:=c br F
  rw [xo] at hc
  have M:=B.br F
  refine ⟨?_,fun x I=>L br F x I (M.2 x I) (hc x I)⟩
  rcases q.1 with h|h<;>grind [bX,cV,L6]
theorem MW {vb db:Int} (t:Tm): ∀ {v d e},uC vb db v d t= .error e->0<e/\e<=1000:=by
 induction t using gq with
 |h kd n nm r L sys F I=>
  intro v d e h
  rw [uC] at h
  split at h
  ·grind
  rcases be h with h|⟨_,_,h⟩
  ·exact Bq h
  have z: ∀ {l:LT} {i:Nat},(∀x∈l,∀ {v d e},uC vb db v d x= .error e->0<e/\e<=1000)->dm vb db v d kd i l= .error e->0<e/\e<=1000:=by
   intro l
   induction l with
   |nil=>grind [dm]
   |cons t l A=>
    intro i hl h
    rw [dm] at h
    rcases be h with h|⟨_,_,h⟩
    ·exact hl t (by simp) h
    grind [be]
  have q: ∀ {l:LT},(∀x∈l,∀ {v d e},uC vb db v d x= .error e->0<e/\e<=1000)-> ∀ {e},H3 vb db v d kd l= .error e->0<e/\e<=1000:=by
   intro l
   induction l with
   |nil=>grind [H3]
   |cons t l A=>
    intro hl e h
    rw [H3] at h
    rcases be h with h|⟨_,_,h⟩
    ·grind
    ·rcases be h with h|⟨_,_,h⟩
     ·exact A (fun x J=>hl x (by simp [J])) h
     simp_all
  have E: ∀ {l:LB},(∀b∈l,∀x∈b.c,∀ {v d e},uC vb db v d x= .error e->0<e/\e<=1000)->HD vb db v d kd l= .error e->0<e/\e<=1000:=by
   intro l
   induction l with
   |nil=>grind [HD]
   |cons b l A=>
    intro hl h
    rw [HD] at h
    rcases be h with h|⟨_,_,h⟩
    ·cases b with
     |mk f B=>
      rw [n8] at h
      rcases be h with h|⟨_,_,h⟩
      ·exact Bq h
      ·rcases be h with h|⟨_,_,h⟩
       ·exact q (hl (Br.mk f B) (by simp)) h
       ·cases h
    grind [be]
  grind [be]
abbrev dC:=Int->LC->Except Int (LC)
mutual
def ua (fo fa:dC) (d:Int):Tm->Except Int Tm
 | .mk kd n nm r z sys=>bE (if kd=14 then fa d r else fo d r) fun A=>bE (aig fo fa d kd 0 z) fun x=>bE (uD fo fa d kd sys) fun q=> .ok (.mk kd n nm A x q)
def aig (fo fa:dC) (d kd:Int) (i:Nat):LT->Except Int (LT)
 |[]=> .ok []
 |t::l=>bE (ua fo fa (d+bJ kd i) t) fun t'=>bE (aig fo fa d kd (i+1) l) fun q=> .ok (t'::q)
def uD (fo fa:dC) (d kd:Int):LB->Except Int (LB)
 |[]=> .ok []
 |b::l=>bE (I1 fo fa d kd b) fun o=>bE (uD fo fa d kd l) fun q=> .ok (o++q)
def I1 (fo fa:dC) (d kd:Int):Br Tm->Except Int (LB)
 | .mk f z=>bE (fa d f) fun x=>if x.length=0 then .ok [] else bE (xz fo fa d kd z) fun q=> .ok [.mk x q]
def xz (fo fa:dC) (d kd:Int):LT->Except Int (LT)
 |[]=> .ok []
 |t::l=>bE (ua fo fa (d+av kd) t) fun t'=>bE (xz fo fa d kd l) fun q=> .ok (t'::q)
end
theorem alf {fo fa:dC} {d kd:Int} {R:Tm->Tm->Prop}: ∀ {l:LT} {i:Nat} {l':LT},(∀x∈l,∀d q,ua fo fa d x= .ok q->R x q)->aig fo fa d kd i l= .ok l'->F2 R l l':=by
 intro l
 induction l with
 |nil=>intro i l' _ h;rw [aig] at h;injection h with h;subst h;exact .nil
 |cons t l A=>
  intro i l' z h
  rw [aig] at h
  obtain ⟨t',h1,h⟩:=i8 h
  obtain ⟨m,h2,h⟩:=i8 h
  injection h with h;subst h
  exact .cons (z t (by simp) _ _ h1) (A (fun x B=>z x (by simp [B])) h2)
theorem alh {fo fa:dC} {d kd:Int} {R:Tm->Tm->Prop}: ∀ {l:LT} {l':LT},(∀x∈l,∀d q,ua fo fa d x= .ok q->R x q)->xz fo fa d kd l= .ok l'->F2 R l l':=by
 intro l
 induction l with
 |nil=>intro l' _ h;rw [xz] at h;injection h with h;subst h;exact .nil
 |cons t l A=>
  intro l' z h
  rw [xz] at h
  obtain ⟨t',h1,h⟩:=i8 h
  obtain ⟨m,h2,h⟩:=i8 h
  injection h with h;subst h
  exact .cons (z t (by simp) _ _ h1) (A (fun x B=>z x (by simp [B])) h2)
def Wk (x q:Tm):Prop:=am q<=am x/\au q<=au x/\q.k=x.k/\(pr x->q7 x->pr q/\q7 q)
theorem Un {l l':LT} (h:F2 Wk l l'):aH l'<=aH l:=by
 induction h with
 |nil=>simp
 |cons h1 _ q=>rw [aH,aH];have:=h1.1;omega
theorem Uq {l l':LT} (h:F2 Wk l l'):ay l'<=ay l:=by
 induction h with
 |nil=>simp
 |cons h1 _ q=>rw [ay,ay];have:=h1.2.1;omega
theorem Uo {l l':LT} (h:F2 Wk l l'):aZ l->dQ l->aZ l'/\dQ l':=by
 induction h with
 |nil=>grind
 |cons h1 _ q=>
  rw [aZ,aZ,dQ,dQ]
  intro h g
  have a:=h1.2.2.2 h.1 g.1
  grind
theorem alk {fo fa:dC} {d kd:Int} (hfa: ∀d f g,RF f->fa d f= .ok g->RF g): ∀ {l l':LB},(∀b∈l,∀x∈b.c,∀d B,ua fo fa d x= .ok B->Wk x B)->uD fo fa d kd l= .ok l'->
  aO l'<=aO l/\aI l'<=aI l/\l'.length<=l.length/\(ba l->eA l->ba l'/\eA l'):=by
 intro l
 induction l with
 |nil=>grind [uD]
 |cons b l I=>
  intro l' E h
  rw [uD] at h
  obtain ⟨o,h1,h⟩:=i8 h
  obtain ⟨m,h2,h⟩:=i8 h
  injection h with h;subst h
  obtain ⟨i1,i2,i3,i4⟩:=I (fun b hb=>E b (by simp [hb])) h2
  cases b with
  |mk f F=>
   rw [I1] at h1
   obtain ⟨A,J,h1⟩:=i8 h1
   split at h1
   ·grind [aO,aI,ba,eA]
   ·obtain ⟨q,L,h1⟩:=i8 h1
    injection h1 with h1;subst h1
    have f2:F2 Wk F q:=alh (E ⟨f,F⟩ (by simp)) L
    have hd:=Un f2
    have hs:=Uq f2
    refine ⟨?_, ?_, ?_,fun ho z=> ?_⟩
    ·grind [aO,Ez]
    ·grind [aI,Fq]
    ·grind
    ·rw [ba,Fa] at ho;rw [eA,mZ] at z
     have a:=Uo f2 ho.1.2 z.1.2
     have b:=i4 ho.2 z.2
     have c:=hfa d f A z.1.1 J
     show ba (Br.mk A q::m)/\eA (Br.mk A q::m)
     rw [ba,Fa,eA,mZ]
     exact ⟨⟨⟨⟨c.2,by have:=c.len;omega,by rw [f2.len];simp_all⟩,a.1⟩,b.1⟩,⟨c,a.2⟩,b.2⟩
theorem Uj {fo fa:dC} (hfo: ∀d f g,RF f->fo d f= .ok g->RF g) (hfa: ∀d f g,RF f->fa d f= .ok g->RF g) (h0: ∀d,fo d []= .ok []) (t:Tm): ∀d t',ua fo fa d t= .ok t'->Wk t t':=by
 induction t using gq with
 |h kd n nm r L sys E F=>
  intro d t' h
  rw [ua] at h
  obtain ⟨M,hr,h⟩:=i8 h
  obtain ⟨I,hk,h⟩:=i8 h
  obtain ⟨J,hs,h⟩:=i8 h
  injection h with h;subst h
  have B:F2 Wk L I:=alf E hk
  obtain ⟨s1,s2,s3,O⟩:=alk hfa F hs
  refine ⟨?_, ?_,rfl,fun x A=> ?_⟩
  ·rw [am,am];have:=Un B;omega
  ·rw [au,au];have:=Uq B;omega
  ·rw [pr] at x;rw [q7] at A
   obtain ⟨⟨T,W,Y,o4,o5,o6,o7⟩,ok,os⟩:=x
   obtain ⟨⟨a,b,z⟩,c,e⟩:=A
   have hk:=Uo B ok c
   have hs:=O os e
   have q:RF M:=by
    grind
   rw [pr,q7]
   refine ⟨⟨⟨T,W,Y,q.2,by have:=q.len;omega,by rw [B.len];exact o6,by omega⟩,hk.1,hs.1⟩,⟨q,fun h1=> ?_,z⟩,hk.2,hs.2⟩
   grind
section
variable {fo fa:dC} {G:Int->LC->LC}
def Ey (f:dC) (G:Int->LC->LC):dC:=fun d l=>bE (f d l) fun m=> .ok (G d m)
def j0 (G:Int->LC->LC):dC:=fun d l=> .ok (G d l)
theorem B5 (t:Tm): ∀d,∃t',ua (j0 G) (j0 G) d t= .ok t':=by
 induction t using gq with
 |h kd n nm r A sys B E=>
  intro d
  have hk: ∀ {l:LT} {i:Nat},(∀x∈l,∀d,∃t',ua (j0 G) (j0 G) d x= .ok t')-> ∃q,aig (j0 G) (j0 G) d kd i l= .ok q:=by
   intro l
   induction l with
   |nil=>simp_all [aig]
   |cons t l z=>
    intro i h
    obtain ⟨t',e⟩:=h t (by simp) (d+bJ kd i)
    obtain ⟨q,e'⟩:=z (i:=i+1) fun x F=>h x (by simp [F])
    grind [aig,aD]
  have L: ∀ {l:LT},(∀x∈l,∀d,∃t',ua (j0 G) (j0 G) d x= .ok t')-> ∃q,xz (j0 G) (j0 G) d kd l= .ok q:=by
   intro l
   induction l with
   |nil=>simp_all [xz]
   |cons t l z=>
    intro h
    obtain ⟨t',e⟩:=h t (by simp) (d+av kd)
    obtain ⟨q,e'⟩:=z fun x F=>h x (by simp [F])
    grind [xz,aD]
  have hs: ∀ {l:LB},(∀b∈l,∀x∈b.c,∀d,∃t',ua (j0 G) (j0 G) d x= .ok t')-> ∃q,uD (j0 G) (j0 G) d kd l= .ok q:=by
   intro l
   induction l with
   |nil=>simp_all [uD]
   |cons b l z=>
    intro h
    obtain ⟨q,e'⟩:=z fun b hb=>h b (by simp [hb])
    cases b with
    |mk f A=>
     obtain ⟨I,e⟩:=L (h ⟨f,A⟩ (by simp))
     have: ∃o,I1 (j0 G) (j0 G) d kd (.mk f A)= .ok o:=by
      grind [I1,j0,aD]
     grind [uD,aD]
  obtain ⟨I,M⟩:=hk (i:=0) B
  obtain ⟨J,es⟩:=hs E
  simp_all [j0,ua,aD]
theorem alg (d kd:Int): ∀ (l:LT) (i:Nat),∃l',aig (j0 G) (j0 G) d kd i l= .ok l':=by
 intro l
 induction l with
 |nil=>simp_all [aig]
 |cons t l q=>
  intro i
  obtain ⟨t',e⟩:=B5 (G:=G) t (d+bJ kd i)
  obtain ⟨l',e'⟩:=q (i+1)
  grind [aig,aD]
theorem Ui (d kd:Int): ∀ (l:LT),∃l',xz (j0 G) (j0 G) d kd l= .ok l':=by
 intro l
 induction l with
 |nil=>simp_all [xz]
 |cons t l q=>
  obtain ⟨t',e⟩:=B5 (G:=G) t (d+av kd)
  grind [xz,aD]
theorem ale (d kd:Int) (b:Br Tm): ∃o,I1 (j0 G) (j0 G) d kd b= .ok o:=by
 cases b with
 |mk f q=>
  obtain ⟨x,e⟩:=Ui (G:=G) d kd q
  rw [I1,j0,aD]
  split<;>simp_all [aD]
theorem alj (d kd:Int): ∀ (l:LB),∃l',uD (j0 G) (j0 G) d kd l= .ok l':=by
 intro l
 induction l with
 |nil=>simp_all [uD]
 |cons b l q=>
  obtain ⟨l',e'⟩:=q
  obtain ⟨o,e⟩:=ale (G:=G) d kd b
  grind [uD,aD]
theorem ali (d kd:Int): ∀ (a b:LB),uD fo fa d kd (a++b)=bE (uD fo fa d kd a) fun a'=>bE (uD fo fa d kd b) fun q=> .ok (a'++q):=by
 intro a
 induction a with
 |nil=>intro b;rw [zg,uD,aD];cases uD fo fa d kd b<;>rfl
 |cons x a z=>
  intro b
  rw [List.cons_append,uD,uD,z]
  cases I1 fo fa d kd x with
  |error e=>rfl
  |ok o=>
   rw [aD,aD]
   cases uD fo fa d kd a with
   |error e=>rfl
   |ok a'=>
    rw [aD,aD]
    cases uD fo fa d kd b with
    |error e=>rfl
    |ok q=>grind [aD]
theorem alm (hfa: ∀d f g,RF f->fa d f= .ok g->RF g) (hG: ∀d f,RF f->((G d f).length=0↔f.length=0)) (t:Tm): ∀d,q7 t->bE (ua fo fa d t) (ua (j0 G) (j0 G) d)=ua (Ey fo G) (Ey fa G) d t:=by
 induction t using gq with
 |h kd n nm r ks sys I J=>
  intro d z
  rw [q7] at z
  obtain ⟨_,L,M⟩:=z
  have hk: ∀ {l:LT} {i:Nat},(∀x∈l,∀d,q7 x->bE (ua fo fa d x) (ua (j0 G) (j0 G) d)=ua (Ey fo G) (Ey fa G) d x)->dQ l->bE (aig fo fa d kd i l) (aig (j0 G) (j0 G) d kd i)=aig (Ey fo G) (Ey fa G) d kd i l:=by
   intro l
   induction l with
   |nil=>grind [aig,aD]
   |cons t l B=>
    intro i h q
    rw [dQ] at q
    have h1:=h t (by simp) (d+bJ kd i) q.1
    have h2:=B (i:=i+1) (fun x O=>h x (by simp [O])) q.2
    rw [aig,aig,<-h1,<-h2]
    cases ua fo fa (d+bJ kd i) t with
    |error e=>rfl
    |ok t'=>
     rw [aD,aD]
     obtain ⟨T,e⟩:=B5 (G:=G) t' (d+bJ kd i)
     rw [e,aD]
     cases aig fo fa d kd (i+1) l with
     |error e=>rfl
     |ok E=>
      grind [aD,aig]
  have hm: ∀ {l:LT},(∀x∈l,∀d,q7 x->bE (ua fo fa d x) (ua (j0 G) (j0 G) d)=ua (Ey fo G) (Ey fa G) d x)->dQ l->bE (xz fo fa d kd l) (xz (j0 G) (j0 G) d kd)=xz (Ey fo G) (Ey fa G) d kd l:=by
   intro l
   induction l with
   |nil=>grind [xz,aD]
   |cons t l B=>
    intro h q
    rw [dQ] at q
    have h1:=h t (by simp) (d+av kd) q.1
    have h2:=B (fun x O=>h x (by simp [O])) q.2
    rw [xz,xz,<-h1,<-h2]
    cases ua fo fa (d+av kd) t with
    |error e=>rfl
    |ok t'=>
     rw [aD,aD]
     obtain ⟨T,e⟩:=B5 (G:=G) t' (d+av kd)
     rw [e,aD]
     cases xz fo fa d kd l with
     |error e=>rfl
     |ok E=>
      grind [aD,xz]
  have hb: ∀ {b:Br Tm},(∀x∈b.c,∀d,q7 x->bE (ua fo fa d x) (ua (j0 G) (j0 G) d)=ua (Ey fo G) (Ey fa G) d x)->mZ b->bE (I1 fo fa d kd b) (uD (j0 G) (j0 G) d kd)=I1 (Ey fo G) (Ey fa G) d kd b:=by
   intro b h q
   cases b with
   |mk f A=>
    rw [mZ] at q
    have h2:=hm h q.2
    rw [I1,I1]
    show _=bE (bE (fa d f) fun m=> .ok (G d m)) _
    cases hf:fa d f with
    |error e=>rfl
    |ok F=>
     rw [aD,aD,aD]
     have Y:=hG d F (hfa d f F q.1 hf)
     by_cases W:F.length=0
     ·grind [aD,uD]
     ·rw [if_neg W,if_neg (fun h=>W (Y.1 h)),<-h2]
      cases xz fo fa d kd A with
      |error e=>rfl
      |ok E=>
       rw [aD,aD,aD,uD,I1]
       show bE (bE (.ok (G d F)) _) _=_
       rw [aD,if_neg (fun h=>W (Y.1 h))]
       obtain ⟨ax,e⟩:=Ui (G:=G) d kd E
       grind [aD,uD]
  have hs: ∀ {l:LB},(∀b∈l,∀x∈b.c,∀d,q7 x->bE (ua fo fa d x) (ua (j0 G) (j0 G) d)=ua (Ey fo G) (Ey fa G) d x)->eA l->bE (uD fo fa d kd l) (uD (j0 G) (j0 G) d kd)=uD (Ey fo G) (Ey fa G) d kd l:=by
   intro l
   induction l with
   |nil=>grind [uD,aD]
   |cons b l B=>
    intro h q
    rw [eA] at q
    have h1:=hb (h b (by simp)) q.1
    have h2:=B (fun b hb=>h b (by simp [hb])) q.2
    rw [uD,uD,<-h1,<-h2]
    cases I1 fo fa d kd b with
    |error e=>rfl
    |ok o=>
     rw [aD,aD]
     obtain ⟨o',e⟩:=alj (G:=G) d kd o
     rw [e,aD]
     cases uD fo fa d kd l with
     |error e=>rfl
     |ok E=>
      grind [aD,ali]
  rw [ua,ua,<-hk (i:=0) I L,<-hs J M]
  have p9:(if kd=14 then Ey fa G d r else Ey fo G d r)=bE (if kd=14 then fa d r else fo d r) fun m=> .ok (G d m):=by split<;>rfl
  rw [p9]
  cases (if kd=14 then fa d r else fo d r) with
  |error e=>rfl
  |ok r'=>
   rw [aD,aD,aD]
   cases aig fo fa d kd 0 ks with
   |error e=>rfl
   |ok A=>
    rw [aD,aD]
    obtain ⟨ad,ek⟩:=alg (G:=G) d kd A 0
    rw [ek,aD]
    cases uD fo fa d kd sys with
    |error e=>rfl
    |ok ao=>
     grind [aD,ua,j0]
end
theorem Ly (kd:Int):(kd<0\/kd>28)\/(∃n:Nat,n<29/\kd=n):=by
 by_cases h:kd<0\/kd>28
 ·omega
 ·exact .inr ⟨kd.toNat,by omega,by omega⟩
theorem aiR (kd:Int) (I:Int->OS S):zA k kd I=I (ct kd):=by
 simp only [zA]
 rcases Ly kd with h|⟨n,hn,rfl⟩
 ·simp only [cH,beq_iff_eq]
  unfold ct
  rw [if_pos h]
  repeat rw [if_neg (by omega)]
 ·unfold ct
  rw [if_neg (by omega),Ej]
  match n,hn with
  |0,_=>rfl
  |1,_=>rfl
  |2,_=>rfl
  |3,_=>rfl
  |4,_=>rfl
  |5,_=>rfl
  |6,_=>rfl
  |7,_=>rfl
  |8,_=>rfl
  |9,_=>rfl
  |10,_=>rfl
  |11,_=>rfl
  |12,_=>rfl
  |13,_=>rfl
  |14,_=>rfl
  |15,_=>rfl
  |16,_=>rfl
  |17,_=>rfl
  |18,_=>rfl
  |19,_=>rfl
  |20,_=>rfl
  |21,_=>rfl
  |22,_=>rfl
  |23,_=>rfl
  |24,_=>rfl
  |25,_=>rfl
  |26,_=>rfl
  |27,_=>rfl
  |28,_=>rfl
  |n+29,h=>omega
theorem jE (kd i:Int) (I:Int×Int->OS S):gI k kd i I=I (Ab kd i,bJ kd i):=by
 simp only [gI,cH,beq_iff_eq]
 grind [Ab,bJ]
theorem Q8 (kd:Int) (I:Int->OS S):lJ k kd I=I (xV kd):=by
 grind [lJ,cH,xV]
theorem Jq (s t:BA):(s==t)=decide (s=t):=by
 obtain ⟨a⟩:=s;obtain ⟨b⟩:=t
 show (a==b)=_
 grind
theorem FO (s:BA):(s==pf)=decide (s.size=0):=by
 simp_all [Jq]
theorem rN (s:BA):(s.size:Int)=(s.data.toList.length:Int):=by
 rfl
def js (p:List UInt8) (r:List UInt8):Bool:=match p with
 |[]=>p7 r
 |_::_=>r.all fun d=>kP d||pG d
theorem NI (p:List UInt8) (x:UInt8) (r:List UInt8):js p (x::r)=((kP x||(decide (p≠[])&&pG x))&&js (p++[x]) r):=by
 cases p<;>grind [js,p7]
theorem NJ {p:List UInt8}:js p []=decide (p.length≠0):=by
 cases p with
 |nil=>rfl
 |cons c l=>rfl
theorem afb (hk:Fu k) (I:Bool->OS S) {s:BA} (hs:s.size<2147483648):
  ∀ (r p:List UInt8) (m:Nat),s.data.toList=p++r->r.length<m->n7 k I s m (p.length:Int)=I (js p r):=by
 obtain ⟨q,rfl⟩: ∃q,k=q+1:=⟨k-1,by omega⟩
 have A:s.data.toList.length<2147483648:=by simp_all
 intro r
 induction r with
 |nil=>
  grind [py,n7,tv,rN,n3,FO,NJ]
 |cons x r B=>
  intro p m h E
  obtain ⟨m,rfl,z⟩:=py E
  obtain ⟨F,J,L,M⟩:=qH h (by omega)
  have O:=B (p++[x]) m M z
  rw [NI]
  simp only [n7,tv,rN,F,ae,J,ql,aY,Aq,Dk,L,O]
  have hl: ∀b:Bool,b=kP x->ab (!b) (ab (((p.length:Nat):Int)==0) (I false) (if ((x.toNat:Nat):Int)<48 then I false else if ((x.toNat:Nat):Int)>57 then I false else I (js (p++[x]) r))) (I (js (p++[x]) r))=I ((kP x||(decide (p≠[])&&pG x))&&js (p++[x]) r):=by
   grind [cH,List.length_pos_iff,pG]
  grind [kP]
theorem ajo (hk:Fu k) {s:BA} (hs:s.size<2147483648) (I:Bool->OS S):zC k s I=I (p7 s.data.toList):=by
 simp only [zC,IY]
 have:=afb hk I hs s.data.toList [] k rfl (by grind [rN])
 exact this
theorem qY (n:Nat):(((n:Nat):Int)==0)=decide (n=0):=by grind
theorem aff (hk:Fu k) (I:Bool->OS S) {t:Tm} {nV:Int} (hd:0<=nV) (q:nV<9223372036854775808) (hs: ∀b∈t.s,aq b.f/\b.f.length<1073741824) (hlen:t.s.length<1073741824):
  ∀ (r p:LB) (m:Nat),t.s=p++r->r.length<m->kO k I t nV m (p.length:Int)=I (r.all (bX t.k nV)&&decide (t.r.length=0)):=by
 intro r
 induction r with
 |nil=>
  grind [py,kO,yl,n3,qY]
 |cons x r B=>
  intro p m h E
  obtain ⟨m,rfl,z⟩:=py E
  obtain ⟨F,J,L,M⟩:=qH h (by omega)
  have A:=hs x (by grind)
  have hb:((x.c.length:Int)==xV t.k)=decide ((x.c.length:Int)=xV t.k):=by rfl
  simp only [kO,yl,F,ae,J,ql,ag hk,Q8,Hb hk A.1 (show x.f.length<2147483648 by omega),RZ hk A.1 (show x.f.length<4294967296 by omega) hd q,L,B (p++[x]) m M z,List.all_cons,hb]
  grind [bX,decide,Int,cV,ae,n3]
theorem aj4 {S:Type} (b c:Bool) (I:Bool->OS S):ab b (I c) (I false)=I (b&&c):=by
 cases b<;>rfl
def om (vars nV:Int) (t:Tm):Bool:=
 if t.k=1 then decide (t.r.length=0)&&(decide (0<=t.n)&&decide (vars<0\/t.n<vars))
   else if t.k=2 then decide (t.r.length=0)&&p7 t.name.data.toList
   else if t.k=13\/t.k=21\/t.k=26 then xW t.r&&dg t.r nV
   else if t.k=14 then cV t.r&&dg t.r nV
   else t.s.all (bX t.k nV)&&decide (t.r.length=0)
theorem NY (vars nV:Int) (t:Tm):cL vars nV t=((decide (ct t.k=t.c.length)&&(decide (t.k=1\/t.n=0)&&(decide (t.k=2\/t.name.size=0)&&decide (xV t.k=0->t.s.length=0))))&&om vars nV t):=by
 cases t;rfl
def Zm (t:Tm):Prop:=aG t.k/\aG t.n/\t.name.size<1073741824/\aq t.r/\t.r.length<1073741824/\t.c.length<1073741824/\t.s.length<1073741824
theorem pr.no {t:Tm} (h:pr t):Zm t:=by cases t;exact h.node
theorem pr.ki {t x:Tm} (h:pr t) (q:x∈t.c):pr x:=by cases t;exact h.bU q
theorem pr.bi {t:Tm} {b:Br Tm} (h:pr t) (hb:b∈t.s):(aq b.f/\b.f.length<1073741824/\b.c.length<1073741824)/\ ∀t∈b.c,pr t:=by cases t;exact h.br hb
theorem aju (hk:Fu k) {t:Tm} (A:pr t) {vars nV:Int} (hd:0<=nV) (x:nV<9223372036854775808) (I:Bool->OS S):Ar k I t vars nV k=I (om vars nV t):=by
 obtain ⟨F,J,L,z,M,O,B⟩:=A.no
 have hb:=fun b hb=>(A.bi (b:=b) hb).1
 obtain ⟨q,E⟩: ∃q,k=q+1:=⟨k-1,by omega⟩
 have: ∀j,j=q+1->Ar k I t vars nV j=tw k I t vars nV (fun v109=>kO k I t nV k v109):=by rintro j rfl;rfl
 rw [this k E]
 have hl:=aff hk I hd x (fun b h=>⟨(hb b h).1,(hb b h).2.1⟩) B t.s [] k rfl (by omega)
 have hl:kO k I t nV k 0=_:=hl
 simp only [tw,ag hk,ajo hk (show t.name.size<2147483648 by omega),rH hk z (show t.r.length<2147483648 by omega),Hb hk z (show t.r.length<2147483648 by omega),RZ hk z (show t.r.length<4294967296 by omega) hd x,hl,qY,aj4]
 grind [cH,om]
theorem ajt (hk:Fu k) {t:Tm} (x:pr t) {vars nV:Int} (hd:0<=nV) (q:nV<9223372036854775808) (I:Bool->OS S):uj k t vars nV I=I (cL vars nV t):=by
 have z:(ct t.k==(t.c.length:Int))=decide (ct t.k=t.c.length):=by rfl
 have hp:(xV t.k==0)=decide (xV t.k=0):=bG _
 simp only [uj,IZ,ag hk,aiR,Q8,aju hk x hd q,FO,z,hp,bG,NY]
 have A:ab (decide (xV t.k=0)) (ab (decide (((t.s.length:Nat):Int)>0)) (I false) (I (om vars nV t))) (I (om vars nV t))=I (decide (xV t.k=0->t.s.length=0)&&om vars nV t):=by
  rw [aY,aY]
  by_cases h1:xV t.k=0
  ·rw [if_pos h1]
   by_cases h2:t.s.length=0<;>grind
  grind
 grind [ae,n3,decide_eq_false]
abbrev Fd (k n:Nat):Prop:=4294967296+n<=k
theorem Fd.fu {n:Nat} (h:Fd k n):Fu k:=by omega
theorem Fd.pos {n:Nat} (h:Fd k n): ∃q,k=q+1/\ ∀j,j+1<=n->Fd q j:=⟨k-1,by omega,fun j hj=>by omega⟩
theorem Fd.pos' {n:Nat} (h:Fd k n) (hn:1<=n): ∃q,k=q+1/\Fu q/\ ∀j,j+1<=n->Fd q j:=⟨k-1,by omega,by omega,fun j hj=>by omega⟩
theorem HE (t:Tm):1<=am t:=by cases t;rw [am];omega
theorem pF (t:Tm):am t=max (aH t.c) (aO t.s)+1:=by cases t;rfl
theorem rM (t:Tm):au t=1+ay t.c+aI t.s:=by cases t;rfl
theorem bY {t x:Tm} (h:x∈t.c):am x+1<=am t:=by rw [pF t];have:=D0 h;omega
theorem b8 {t:Tm} {b:Br Tm} {x:Tm} (hb:b∈t.s) (h:x∈b.c):am x+1<=am t:=by rw [pF t];have:=D0 h;have:=JP hb;omega
theorem c7 {Q:Tm->Prop} (h: ∀t,(∀x∈t.c,Q x)->(∀b∈t.s,∀x∈b.c,Q x)->Q t) (t:Tm):Q t:=gq (fun kd n nm r q sys h1 h2=>h (.mk kd n nm r q sys) h1 h2) t
theorem aDj {α:Type} (b c:Bool) (x y:α):ab (!b) y (if c then x else y)=if b&&c then x else y:=by cases b<;>cases c<;>rfl
theorem kY {S:Type} (b c:Bool) (I:Bool->OS S):ab (!b) (I false) (I c)=I (b&&c):=by cases b<;>rfl
theorem uY {n:Int} (h1: -9223372036854775808<=n) (h2:n<9223372036854775808):ot .i64 n=n:=alX h1 h2
section
variable {hd:Tm->Int->(Bool->OS S)->OS S} {c0:Int} {t:Tm} {Q:Tm->Bool}
theorem aeL (hk:Fu k) (I:Bool->OS S) (q:Int->Int->OS S) (hc: -9223372036854775807<=c0) (A:c0<9223372036854775808) {v more:Int} {x:Br Tm} (B: ∀y∈x.c,∀g,hd y (c0-1) g=g (Q y)) (hl:x.c.length<1073741824):
  ∀ (r p:LT) (m:Nat),x.c=p++r->r.length<m->SF hd k I q c0 t v x more m (p.length:Int)=if r.all Q then q (ot .i64 (v+1)) more else I false:=by
 intro r
 induction r with
 |nil=>
  grind [py,SF,yi,n3]
 |cons y r E=>
  intro p m h F
  obtain ⟨m,rfl,z⟩:=py F
  obtain ⟨J,L,M,O⟩:=qH h (by omega)
  have T:=B y (by grind)
  simp only [SF,yi,J,ae,L,ql,ag hk,uk,ar,uY (show-9223372036854775808<=c0-1 by omega) (by omega),T,M,E (p++[y]) m O z,aDj]
  rfl
theorem aeK (hk:Fu k) (I:Bool->OS S) (hc: -9223372036854775807<=c0) (q:c0<9223372036854775808) {more:Int} (F: ∀b∈t.s,∀y∈b.c,∀g,hd y (c0-1) g=g (Q y)) (hl:t.s.length<1073741824) (z: ∀b∈t.s,b.c.length<1073741824):
  ∀ (r p:LB) (m:Nat),t.s=p++r->r.length<m->jp hd k I c0 t m (p.length:Int) more=I (r.all fun b=>b.c.all Q):=by
 intro r
 induction r with
 |nil=>
  grind [py,jp,tp,n3]
 |cons x r J=>
  intro p m h L
  obtain ⟨m,rfl,A⟩:=py L
  obtain ⟨M,O,T,W⟩:=qH h (by omega)
  have E:x∈t.s:=by grind
  have B:=z x E
  have:=aeL (t:=t) hk I (jp hd k I c0 t m) (v:=(p.length:Int)) (more:=more) hc q (F x E) B x.c [] k rfl (by omega)
  simp only [jp,tp,M,ae,O,ql,List.all_cons]
  refine po this ?_
  rw [T,J (p++[x]) m W A]
  cases x.c.all Q<;>rfl
theorem aeJ (hk:Fu k) (I:Bool->OS S) (hc: -9223372036854775807<=c0) (x:c0<9223372036854775808) (E: ∀y∈t.c,∀g,hd y (c0-1) g=g (Q y)) (z: ∀b∈t.s,∀y∈b.c,∀g,hd y (c0-1) g=g (Q y)) (B:pr t):
  ∀ (r p:LT) (m:Nat),t.c=p++r->r.length<m->qS hd k I c0 t m (p.length:Int)=I (r.all Q&&t.s.all fun b=>b.c.all Q):=by
 obtain ⟨Y,o2,o3,o4,o5,o6,F⟩:=B.no
 intro r
 induction r with
 |nil=>
  intro p m h A
  obtain ⟨m,rfl,q⟩:=py A
  have hs: ∀more:Int,jp hd k I c0 t k 0 more=_:=fun more=>aeK hk I hc x (more:=more) z F (fun b hb=>(B.bi hb).1.2.2) t.s [] k rfl (by omega)
  simp only [qS,tn,xw h,n3,hs]
  cases (t.k==15)<;>rfl
 |cons y r J=>
  intro p m h A
  obtain ⟨m,rfl,q⟩:=py A
  obtain ⟨L,M,O,T⟩:=qH h (by omega)
  have W:=E y (by grind)
  simp only [qS,tn,L,ae,M,ql,ag hk,jE,uk,ar,uY (show-9223372036854775808<=c0-1 by omega) (by omega),W,O,J (p++[y]) m T q,kY,List.all_cons,Bool.and_assoc]
end
theorem JN {n:Int} (hn:0<=n): ∀ {l:LT},(l.all fun x=>decide ((am x:Int)<=n))=decide ((aH l:Int)<=n):=by
 intro l
 induction l<;>grind [aH]
theorem aah {n:Int} (hn:0<=n): ∀ {l:LB},(l.all fun b=>b.c.all fun x=>decide ((am x:Int)<=n))=decide ((aO l:Int)<=n):=by
 intro l
 induction l with
 |nil=>rw [aO];simp [hn]
 |cons b l q=>rw [List.all_cons,q,JN hn,aO,pD,Bool.eq_iff_iff];grind
theorem ajY (t:Tm):pr t-> ∀ {k:Nat} {left:Int} (I:Bool->OS S),Fd k (am t)-> -4611686018427387904<=left->left<4611686018427387904->jf k t left I=I (decide ((am t:Int)<=left)):=by
 induction t using c7 with
 |h t A B=>
  intro z k left I hk h1 h2
  obtain ⟨q,rfl,F,hf⟩:=hk.pos' (HE t)
  simp only [jf,TV,aY,ar,ag F]
  by_cases J:left>0
  ·rw [if_pos J]
   have L: ∀y∈t.c,∀g:Bool->OS S,jf q y (left-1) g=g (decide ((am y:Int)<=left-1)):=fun y x g=>A y x (z.ki x) g (hf _ (bY x)) (by omega) (by omega)
   have E: ∀b∈t.s,∀y∈b.c,∀g:Bool->OS S,jf q y (left-1) g=g (decide ((am y:Int)<=left-1)):=fun b hb y x g=>B b hb y x ((z.bi hb).2 y x) g (hf _ (b8 hb x)) (by omega) (by omega)
   have:=aeJ (Q:=fun y=>decide ((am y:Int)<=left-1)) F I (by omega) (by omega) L E z t.c [] q rfl (by have:=z.no.2.2.2.2.2.1;omega)
   simp only [DX,IV]
   refine po this ?_
   rw [JN (by omega),aah (by omega),pF]
   congr 1
   rw [Bool.eq_iff_iff];simp;omega
  grind [HE]
section
variable {hd:Tm->Int->(Bool×Int->OS S)->OS S} {t:Tm}
def rT (hd:Tm->Int->(Bool×Int->OS S)->OS S) (k:Nat) (y:Tm):Prop:= ∀ (c:Int) (g:Bool×Int->OS S),0<=c->c<4611686018427387904->
 ∃v,pB hd k y c g=g (decide ((au y:Int)<=c),v)/\((au y:Int)<=c->v=c-au y)
theorem aeI (hk:Fu k) (I:Bool×Int->OS S) (q:Int->Int->Int->OS S) {v more:Int} {x:Br Tm} (A: ∀y∈x.c,rT hd k y) (hl:x.c.length<1073741824):
  ∀ (r p:LT) (m:Nat) (c:Int),0<=c->c<4611686018427387904->x.c=p++r->r.length<m->
  ((ay r:Int)<=c->kL hd k I q t v x more m c (p.length:Int)=q (c-ay r) (ot .i64 (v+1)) more)/\(¬ (ay r:Int)<=c-> ∃w,kL hd k I q t v x more m c (p.length:Int)=I (false,w)):=by
 intro r
 induction r with
 |nil=>
  grind [py,kL,yg,n3,ay]
 |cons y r Y=>
  intro p m c B h1 h E
  obtain ⟨m,rfl,F⟩:=py E
  obtain ⟨J,L,M,e4⟩:=qH h (by omega)
  have O:=A y (by grind)
  obtain ⟨w,T,W⟩:=O c (fun r1=>(fun z:Bool×Int=>ab (!z.1) (I (false,z.2)) (kL hd k I q t v x more m z.2 (((p++[y]).length:Nat):Int))) (r1.1,r1.2)) B h1
  simp only [kL,yg,J,ae,L,ql,ag hk,ul,ar,M,ay]
  rw [T]
  by_cases hs:(au y:Int)<=c
  ·grind [n3]
  grind [ae]
theorem aeH (hk:Fu k) (I:Bool×Int->OS S) {more:Int} (E: ∀b∈t.s,∀y∈b.c,rT hd k y) (hl:t.s.length<1073741824) (q: ∀b∈t.s,b.c.length<1073741824):
  ∀ (r p:LB) (m:Nat) (c:Int),0<=c->c<4611686018427387904->t.s=p++r->r.length<m->
  ((aI r:Int)<=c->Mp hd k I t m c (p.length:Int) more=I (true,c-aI r))/\(¬ (aI r:Int)<=c-> ∃w,Mp hd k I t m c (p.length:Int) more=I (false,w)):=by
 intro r
 induction r with
 |nil=>
  grind [py,Mp,tj,n3,aI]
 |cons x r F=>
  intro p m c J h1 h L
  obtain ⟨m,rfl,z⟩:=py L
  obtain ⟨M,O,T,W⟩:=qH h (by omega)
  have B:x∈t.s:=by grind
  have A:=q x B
  have:=aeI (t:=t) hk I (Mp hd k I t m) (v:=(p.length:Int)) (more:=more) (E x B) A x.c [] k c J h1 rfl (by omega)
  simp only [Mp,tj,M,ae,O,ql,aI,kZ]
  obtain ⟨t1,t2⟩:=this
  rw [show (((([]:LT).length:Nat):Int))=0 from rfl] at t1 t2
  by_cases hs:(ay x.c:Int)<=c
  ·obtain ⟨i1,i2⟩:=F (p++[x]) m (c-ay x.c) (by omega) (by omega) W z
   rw [t1 hs,T]
   refine ⟨fun h=> ?_,fun h=>i2 (by omega)⟩
   rw [i1 (by omega),show c-(ay x.c:Int)-(aI r:Int)=c-((ay x.c+aI r:Nat):Int) by omega]
  ·exact ⟨fun h=>absurd (by omega) hs,fun _=>t2 hs⟩
theorem aeG (hk:Fu k) (I:Bool×Int->OS S) (L: ∀y∈t.c,rT hd k y) (x: ∀b∈t.s,∀y∈b.c,rT hd k y) (J:pr t):
  ∀ (r p:LT) (m:Nat) (c:Int),0<=c->c<4611686018427387904->t.c=p++r->r.length<m->
  ∃w,nY hd k I t m c (p.length:Int)=I (decide (((ay r+aI t.s:Nat):Int)<=c),w)/\(((ay r+aI t.s:Nat):Int)<=c->w=c-((ay r+aI t.s:Nat):Int)):=by
 obtain ⟨o1,o2,o3,o4,o5,o6,M⟩:=J.no
 intro r
 induction r with
 |nil=>
  intro p m c z h1 h A
  obtain ⟨m,rfl,q⟩:=py A
  have hs: ∀more:Int,_:=fun more=>aeH hk I (more:=more) x M (fun b hb=>(J.bi hb).1.2.2) t.s [] k c z h1 rfl (by omega)
  have key: ∀more:Int,∃w,Mp hd k I t k c 0 more=I (decide (((aI t.s:Nat):Int)<=c),w)/\(((aI t.s:Nat):Int)<=c->w=c-((aI t.s:Nat):Int)):=fun more=>by
   by_cases hc:(aI t.s:Int)<=c
   ·simp_all
   ·obtain ⟨w,e⟩:=(hs more).2 hc
    grind
  have B:ay []+aI t.s=aI t.s:=by rw [ay,EJ]
  rw [B]
  simp only [nY,ti,xw h,n3]
  cases (t.k==15) with
  |true=>exact key 1
  |false=>exact key 0
 |cons y r O=>
  intro p m c z h1 h A
  obtain ⟨m,rfl,q⟩:=py A
  obtain ⟨T,W,Y,e4⟩:=qH h (by omega)
  have hy:=L y (by grind)
  obtain ⟨w,hw,E⟩:=hy c (fun r1=>(fun F:Bool×Int=>ab (!F.1) (I (false,F.2)) (nY hd k I t m F.2 (((p++[y]).length:Nat):Int))) (r1.1,r1.2)) z h1
  have B:ay (y::r)+aI t.s=au y+ay r+aI t.s:=by rw [ay]
  rw [B]
  simp only [nY,ti,T,ae,W,ql,ag hk,jE,ul,ar,Y]
  rw [hw]
  by_cases hs:(au y:Int)<=c
  ·have:=E hs
   subst this
   obtain ⟨u,i1,i2⟩:=O (p++[y]) m (c-au y) (by omega) (by omega) e4 q
   grind [n3]
  grind [ae,decide_eq_false]
end
theorem ai5 (t:Tm):pr t-> ∀ {k:Nat} (c:Int) (I:Bool×Int->OS S),Fd k (am t)->0<=c->c<4611686018427387904->
  ∃w,KY k t c I=I (decide ((au t:Int)-1<=c),w)/\((au t:Int)-1<=c->w=c-((au t:Int)-1)):=by
 induction t using c7 with
 |h t B E=>
  intro A k c I hk h1 h2
  obtain ⟨q,rfl,J,hf⟩:=hk.pos' (HE t)
  have z: ∀y,(∀ {k:Nat} (c:Int) (I:Bool×Int->OS S),Fd k (am y)->0<=c->c<4611686018427387904-> ∃w,KY k y c I=I (decide ((au y:Int)-1<=c),w)/\((au y:Int)-1<=c->w=c-((au y:Int)-1)))->
    Fd q (am y)->rT (S:=S) (KY q) q y:=by
   intro y x F c g L h1
   simp only [pB,ar,uY (show-9223372036854775808<=c-1 by omega) (by omega),aY]
   have:=mB y
   by_cases hc:c-1>=0
   ·rw [if_pos hc]
    obtain ⟨w,e,e'⟩:=x (c-1) (fun r1=>g (r1.1,r1.2)) F (by omega) (by omega)
    grind
   ·rw [if_neg hc]
    exact ⟨c-1,by grind,fun h=>by omega⟩
  obtain ⟨w,e,e'⟩:=aeG J I (fun y x=>z y (fun c I=>B y x (A.ki x) c I) (hf _ (bY x))) (fun b hb y x=>z y (fun c I=>E b hb y x ((A.bi hb).2 y x) c I) (hf _ (b8 hb x))) A t.c [] q c h1 h2 rfl (by have:=A.no.2.2.2.2.2.1;omega)
  grind [KY,IT,rM]
theorem aj0 {t:Tm} (q:pr t) (hk:Fd k (am t)) {ov:Int} (x:0<ov) (h1:ov<4611686018427387904) (I:Bool->OS S):zE k t ov I=I (decide ((au t:Int)<=ov)):=by
 simp only [zE,ag hk.fu,pB,ar,uY (show-9223372036854775808<=ov-1 by omega) (by omega),aY]
 rw [if_pos (by omega)]
 obtain ⟨w,e,_⟩:=ai5 t q (ov-1) (fun r1=>I (r1.1,r1.2).1) hk (by omega) (by omega)
 grind
def VW (vars nV:Int) (n:Nat):Prop:= -9223372036854775808<=vars/\vars<9223372036854775808/\0<=nV/\nV+n<4611686018427387904
section
variable {hd:Tm->Int->Int->Bool->(Bool->OS S)->OS S} {vars nV:Int} {bd:Bool} {t:Tm}
theorem Rc (hv:VW vars nV 1) {v d:Int} (h1:0<=v/\v<=1) (h2:0<=d/\d<=1) (y:Tm) (g:Bool->OS S):uh hd k y v d vars nV bd g=hd y (ot .i64 (cQ vars v)) (nV+d) bd g:=by
 obtain ⟨v1,v2,v3,v4⟩:=hv
 simp only [uh,ar,aY,uY (show-9223372036854775808<=nV+d by omega) (by omega)]
 unfold cQ
 split
 ·rw [Int.add_zero]
 ·rfl
theorem aeF (hk:Fu k) (I:Bool->OS S) (q:Int->Int->OS S) (hv:VW vars nV 1) {v more:Int} {x:Br Tm} (z:more=av t.k) (B: ∀y∈x.c,∀g,hd y vars (nV+more) bd g=g (sL bd vars (nV+more) y)) (hl:x.c.length<1073741824):
  ∀ (r p:LT) (m:Nat),x.c=p++r->r.length<m->mi hd k I q vars nV bd t v x more m (p.length:Int)=if ca bd vars nV t.k r then q (ot .i64 (v+1)) more else I false:=by
 subst z
 intro r
 induction r with
 |nil=>
  intro p m h z
  obtain ⟨m,rfl,A⟩:=py z
  simp only [mi,yh,xw h,n3];rfl
 |cons y r E=>
  intro p m h z
  obtain ⟨m,rfl,A⟩:=py z
  obtain ⟨F,J,L,M⟩:=qH h (by omega)
  have O:=B y (by grind)
  have T:ot .i64 (cQ vars 0)=vars:=by rw [show cQ vars 0=vars by grind [cQ]];exact uY hv.1 hv.2.1
  simp only [mi,yh,F,ae,J,ql,ag hk,ar,Rc hv (show (0:Int)<=0/\(0:Int)<=1 by omega) (KW t.k),T,O,L,E (p++[y]) m M A,aDj]
  rw [ca]
theorem aeE (hk:Fu k) (I:Bool->OS S) (hv:VW vars nV 1) {more:Int} (F:more=av t.k) (J: ∀b∈t.s,∀y∈b.c,∀g,hd y vars (nV+more) bd g=g (sL bd vars (nV+more) y)) (hl:t.s.length<1073741824) (q: ∀b∈t.s,b.c.length<1073741824):
  ∀ (r p:LB) (m:Nat),t.s=p++r->r.length<m->iC hd k I vars nV bd t m (p.length:Int) more=I (ck bd vars nV t.k r):=by
 intro r
 induction r with
 |nil=>
  grind [py,iC,tl,n3,ck]
 |cons x r L=>
  intro p m h z
  obtain ⟨m,rfl,A⟩:=py z
  obtain ⟨M,O,T,W⟩:=qH h (by omega)
  have E:x∈t.s:=by grind
  have B:=q x E
  have:=aeF (t:=t) (bd:=bd) hk I (iC hd k I vars nV bd t m) hv (v:=(p.length:Int)) F (J x E) B x.c [] k rfl (by omega)
  have this:mi hd k I (iC hd k I vars nV bd t m) vars nV bd t (p.length:Int) x more k 0=_:=this
  simp only [iC,tl,M,ae,O,ql,this,T,L (p++[x]) m W A]
  have Y:ck bd vars nV t.k (x::r)=(ca bd vars nV t.k x.c&&ck bd vars nV t.k r):=by cases x;rfl
  grind
theorem aeD (hk:Fu k) (I:Bool->OS S) (hv:VW vars nV 1) (F: ∀y∈t.c,∀v d,0<=v/\v<=1->0<=d/\d<=1-> ∀g,hd y (ot .i64 (cQ vars v)) (nV+d) bd g=g (sL bd (cQ vars v) (nV+d) y)) (x: ∀b∈t.s,∀y∈b.c,∀g,hd y vars (nV+av t.k) bd g=g (sL bd vars (nV+av t.k) y)) (A:pr t):
  ∀ (r p:LT) (m:Nat),t.c=p++r->r.length<m->nZ hd k I vars nV bd t m (p.length:Int)=I (bO bd vars nV t.k p.length r&&ck bd vars nV t.k t.s):=by
 obtain ⟨o1,o2,o3,o4,o5,o6,J⟩:=A.no
 intro r
 induction r with
 |nil=>
  intro p m h z
  obtain ⟨m,rfl,q⟩:=py z
  have hs:iC hd k I vars nV bd t k 0 (av t.k)=_:=aeE hk I hv rfl x J (fun b hb=>(A.bi hb).1.2.2) t.s [] k rfl (by omega)
  grind [nZ,tk,bO,av,cH]
 |cons y r L=>
  intro p m h z
  obtain ⟨m,rfl,q⟩:=py z
  obtain ⟨M,O,T,W⟩:=qH h (by omega)
  have B:=g7 t.k p.length
  have E:=gr t.k p.length
  have Y:=F y (by grind) (Ab t.k p.length) (bJ t.k p.length) B E
  simp only [nZ,tk,M,ae,O,ql,ag hk,jE,ar,Rc hv B E,Y,T,L (p++[y]) m W q,kY]
  grind [bO]
end
theorem wI (bd:Bool) (vars nV:Int) (t:Tm):sL bd vars nV t=(!(bd&&decide (nV>24))&&(cL vars nV t&&(bO bd vars nV t.k 0 t.c&&ck bd vars nV t.k t.s))):=by cases t;rfl
theorem Uf {vars v:Int} (h:0<=v/\v<=1):vars<=cQ vars v/\cQ vars v<=vars+1:=by grind [cQ]
theorem Zv {bd:Bool} (t:Tm):pr t-> ∀ {V W D:Int},W<0->9223372036854775808<=V->sL bd W D t=sL bd V D t:=by
 induction t using gq with
 |h kd n nm r I sys B E=>
  intro q V W D J hV
  have ho:=q
  rw [pr] at q
  obtain ⟨T,L,Y,o4,o5,o6,o7⟩:=q.1
  have hk: ∀ {l:LT} {i:Nat},(∀x∈l,pr x-> ∀ {V W D:Int},W<0->9223372036854775808<=V->sL bd W D x=sL bd V D x)->aZ l->bO bd W D kd i l=bO bd V D kd i l:=by
   intro l
   induction l with
   |nil=>intro i _ _;rw [bO,bO]
   |cons t l z=>
    intro i h hl
    rw [aZ] at hl
    have hb:=g7 kd i
    rw [bO,bO,z (fun x F=>h x (by simp [F])) hl.2,h t (by simp) hl.1 (W:=cQ W (Ab kd i)) (V:=cQ V (Ab kd i)) (by unfold cQ;split<;>omega) (by unfold cQ;split<;>omega)]
  have M: ∀ {l:LT},(∀x∈l,pr x-> ∀ {V W D:Int},W<0->9223372036854775808<=V->sL bd W D x=sL bd V D x)->aZ l->ca bd W D kd l=ca bd V D kd l:=by
   intro l
   induction l with
   |nil=>intro _ _;rw [ca,ca]
   |cons t l z=>
    intro h hl
    rw [aZ] at hl
    rw [ca,ca,z (fun x F=>h x (by simp [F])) hl.2,h t (by simp) hl.1 J hV]
  have hs: ∀ {l:LB},(∀b∈l,∀x∈b.c,pr x-> ∀ {V W D:Int},W<0->9223372036854775808<=V->sL bd W D x=sL bd V D x)->ba l->ck bd W D kd l=ck bd V D kd l:=by
   intro l
   induction l with
   |nil=>intro _ _;rw [ck,ck]
   |cons b l z=>
    intro h hl
    obtain ⟨f,A⟩:=b
    rw [ba,Fa] at hl
    rw [ck,ck,jT,jT,z (fun b hb=>h b (by simp [hb])) hl.2,M (l:=A) (h ⟨f,A⟩ (by simp)) hl.1.2]
  have O:cL W D (.mk kd n nm r I sys)=cL V D (.mk kd n nm r I sys):=by
   unfold cL
   have:decide (W<0\/n<W)=decide (V<0\/n<V):=by
    have hn:n<9223372036854775808:=by unfold aG at L;omega
    rw [decide_eq_true (.inl J),decide_eq_true (.inr (by omega))]
   dsimp only
   rw [this]
  rw [sL,sL,O,hk B q.2.1,hs E q.2.2]
theorem aC5 (t:Tm):pr t-> ∀ {k:Nat} {vars nV:Int} {bd:Bool} (I:Bool->OS S),Fd k (am t)->VW vars nV (am t)->ic k t vars nV bd I=I (sL bd vars nV t):=by
 induction t using c7 with
 |h t A E=>
  intro z k vars nV bd I hk hv
  obtain ⟨q,rfl,F,hf⟩:=hk.pos' (HE t)
  have hp:=HE t
  have J:=hv
  unfold VW at J
  have L:VW vars nV 1:=by unfold VW;omega
  have Y:=KW t.k
  have T: ∀y∈t.c,∀v d,0<=v/\v<=1->0<=d/\d<=1-> ∀g:Bool->OS S,ic q y (ot .i64 (cQ vars v)) (nV+d) bd g=g (sL bd (cQ vars v) (nV+d) y):=fun y x v d h1 h2 g=>by
   have hd:=bY x
   have W:=Uf (vars:=vars) h1
   by_cases M:cQ vars v<9223372036854775808
   ·rw [uY (by omega) M]
    exact A y x (z.ki x) g (hf _ (bY x)) (by unfold VW;omega)
   ·have e:cQ vars v=9223372036854775808:=by omega
    rw [e,show ot .i64 9223372036854775808= -9223372036854775808 from by decide,A y x (z.ki x) g (hf _ (bY x)) (by unfold VW;omega),Zv y (z.ki x) (by omega) (Int.le_refl _)]
  have O: ∀b∈t.s,∀y∈b.c,∀g:Bool->OS S,ic q y vars (nV+av t.k) bd g=g (sL bd vars (nV+av t.k) y):=fun b hb y x g=>E b hb y x ((z.bi hb).2 y x) g (hf _ (b8 hb x)) (by
   have:=b8 hb x;unfold VW;omega)
  have:=aeD (bd:=bd) F I L T O z t.c [] q rfl (by have:=z.no.2.2.2.2.2.1;omega)
  have this:nZ (ic q) q I vars nV bd t q 0=_:=this
  simp only [ic,TT,ar,ag F,ajt F z (show 0<=nV by omega) (show nV<9223372036854775808 by omega),zB,IU,this]
  rw [wI]
  cases bd with
  |true=>
   rw [ae,aY,Bool.true_and]
   by_cases B:nV>24
   ·grind
   ·rw [if_neg B,decide_eq_false B]
    cases cL vars nV t<;>rfl
  |false=>
   rw [n3]
   cases cL vars nV t<;>rfl
def VD (vars nV:Int) (n:Nat):Prop:= -4611686018427387904<=vars/\vars+n<4611686018427387904/\0<=nV/\nV+n<4611686018427387904
theorem ai1 (t:Tm) (q:pr t) {k:Nat} {vars nV:Int} {bd:Bool} (I:Bool->OS S) (hk:Fd k (am t)) (hv:VD vars nV (am t)):ic k t vars nV bd I=I (sL bd vars nV t):=
 aC5 t q I hk (by obtain ⟨v1,v2,v3,v4⟩:=hv;exact ⟨by omega,by omega,v3,v4⟩)
theorem ajZ {t:Tm} (q:pr t) (hk:Fd k (am t)) (I:Int->OS S):zD k t I=I (if am t>200 then 62 else if au t>20000 then 221 else 0):=by
 simp only [zD,ar,ajY t q _ hk (show (-4611686018427387904:Int)<=200 by omega) (show (200:Int)<4611686018427387904 by omega),ag hk.fu,aj0 q hk (show (0:Int)<20000 by omega) (show (20000:Int)<4611686018427387904 by omega)]
 by_cases h1:am t>200
 ·rw [if_pos h1,decide_eq_false (by omega)];rfl
 ·rw [if_neg h1,decide_eq_true (by omega),va,n3]
  by_cases h2:au t>20000
  ·rw [if_pos h2,decide_eq_false (by omega)];rfl
  ·rw [if_neg h2,decide_eq_true (by omega)];rfl
theorem Ah {t:Tm} (q:pr t) (hk:Fd k (am t)) (x:am t<1099511627776) (I:Int->OS S):DS k t I=I (bw t):=by
 simp only [DS,ar,ag hk.fu,ajZ q hk,ai1 t q _ hk (show VD (-1) 24 (am t) by unfold VD;omega),bG]
 unfold bw
 by_cases h1:am t>200
 ·rw [if_pos h1,if_pos h1];rfl
 ·rw [if_neg h1,if_neg h1]
  by_cases h2:au t>20000
  ·rw [if_pos h2,if_pos h2];rfl
  ·rw [if_neg h2,if_neg h2,decide_eq_true rfl,va,n3]
   cases sL false (-1) 24 t<;>rfl
theorem JO: ∀ {l:LT},(∀x∈l,am x<=au x)->aH l<=ay l:=by
 intro l
 induction l<;>grind [aH,ay]
theorem aai: ∀ {l:LB},(∀b∈l,∀x∈b.c,am x<=au x)->aO l<=aI l:=by
 intro l
 induction l<;>grind [aO,aI,pD,kZ,JO]
theorem zG (t:Tm):am t<=au t:=by
 induction t using c7<;>grind [pF,rM,JO,aai]
section
variable {hd:Tm->(Int->OS S)->OS S} {t:Tm}
end
section
variable {hd:Tm->(Int->OS S)->OS S} {t:Tm}
end
section
variable {hd:Tm->Int->Int->Bool->(Bool->OS S)->OS S} {vars nV:Int} {bd:Bool} {t:Tm}
end
section
variable {hd:Tm->Tm->(Bool->OS S)->OS S}
end
section
variable {hd:Tm->Int->(Int->OS S)->OS S} {t:Tm}
end
def pE {α:Type}:Except Int α->px Int α
 | .ok a=> .ok a
 | .error e=> .bD e
def eE {α β:Type} (x:Except Int α) (f:α->β) (g:Int->β):β:=match x with
 | .ok a=>f a
 | .error e=>g e
theorem ij {α β:Type} (x:Except Int α) (f:α->β) (g:Int->β):px.elim (pE x) f g=eE x f g:=by cases x<;>rfl
theorem AS {α β γ:Type} (x:Except Int α) (f:α->Except Int β) (u:β->γ) (w:Int->γ):eE (bE x f) u w=eE x (fun a=>eE (f a) u w) w:=by cases x<;>rfl
theorem aP {α β:Type} (a:α) (f:α->β) (g:Int->β):eE (.ok a) f g=f a:=rfl
theorem Qx {α:Type} (x:Except Int α) (I:px Int α->OS S):I (pE x)=eE x (fun a=>I (.ok a)) fun e=>I (.bD e):=by cases x<;>rfl
def ou:Tm:= .mk 0 0 pf [] [] []
def tE:Except Int Tm->Tm×Int
 | .ok t=>(t,0)
 | .error e=>(ou,e)
theorem Dc {α β:Type} {x:Except Int α} {f q:α->β} {g g':Int->β} (h: ∀a,x= .ok a->f a=q a) (h': ∀e,x= .error e->g e=g' e):eE x f g=eE x q g':=by
 cases x with
 |ok a=>exact h a rfl
 |error e=>exact h' e rfl
theorem Ru (hk:Fu k) {a b d:Int} {f:LC} (hf:aq f) (hl:f.length<1073741824) (hd:aG d) (hb:aG b) (I:px Int (LC)->OS S):tN k a b f d I=I (pE (EZ d b f)):=by
 simp only [tN,ag hk,vX hk hf hl hd hb,bG,aY,J5 (show 0+f.length<=1099511627776 by omega)]
 unfold EZ
 by_cases q:b=0
 ·rw [if_pos q,if_pos (.inl q)];rfl
 ·rw [if_neg q]
  by_cases h1:d>=24
  ·rw [if_pos h1,if_pos (.inr h1)];rfl
  ·rw [if_neg h1,if_neg (show ¬ (b=0\/d>=24) by omega)]
   by_cases h2:(td f d b).2=0
   ·rw [decide_eq_true h2,jF h2];rfl
   ·rw [decide_eq_false h2,iO h2];rfl
section
variable {hd:Int->Int->Tm->Int->Int->(px Int Tm->OS S)->OS S} {vb db v d:Int} {t:Tm}
theorem ae5 (hk:Fu k) (I:px Int Tm->OS S) (q:LB->Int->Int->OS S) {Al r2:LC} {b1 xk:Int} {ks:LT} {o:LB} {x:Br Tm} {more:Int} (z:more=av t.k)
  (B:0<=d/\d<4611686018427387904) (E: ∀y∈x.c,∀g,hd vb db y v (d+more) g=g (pE (uC vb db v (d+more) y))) (hl:x.c.length<1073741824) (ho:o.length<1073741824):
  ∀ (r p:LT) (m:Nat) (acc:LT),x.c=p++r->r.length<m->acc.length=p.length->
  l7 hd k I q Al vb db t b1 r2 ks o x more v d xk m acc (p.length:Int)=eE (H3 vb db v d t.k r) (fun l=>q (o++[⟨Al,acc++l⟩]) more (ot .i64 (xk+1))) fun e=>I (.bD e):=by
 subst z
 have F:=KW t.k
 intro r
 induction r with
 |nil=>
  grind [py,l7,xe,n3,H3,aP,J5]
 |cons y r J=>
  intro p m acc h z ha
  obtain ⟨m,rfl,A⟩:=py z
  obtain ⟨L,M,O,T⟩:=qH h (by omega)
  have W:p.length<x.c.length:=by grind
  have Y:=E y (by grind)
  simp only [l7,xe,L,ae,M,ql,ar,uY (n:=d+av t.k) (by omega) (by omega),Y,ij,H3,AS,aP]
  refine Dc (fun t' ad=> ?_) fun e _=>rfl
  rw [J5 (by grind),O,J (p++[y]) m (acc++[t']) T A (by grind)]
  simp
theorem ae4 (hk:Fu k) (I:px Int Tm->OS S) {r2:LC} {b1:Int} {ks:LT} {more:Int} (M:more=av t.k) (J:pr t) (z:aG db) (A:0<=d/\d<4611686018427387904)
  (O: ∀b∈t.s,∀y∈b.c,∀g,hd vb db y v (d+more) g=g (pE (uC vb db v (d+more) y))):
  ∀ (r p:LB) (m:Nat) (o:LB),t.s=p++r->r.length<m->o.length=p.length->
  Mq hd k I vb db t b1 r2 ks v d m o more (p.length:Int)=eE (HD vb db v d t.k r) (fun l=>I (.ok (.mk t.k b1 t.name r2 ks (o++l)))) fun e=>I (.bD e):=by
 obtain ⟨o1,o2,o3,o4,o5,o6,o7⟩:=J.no
 intro r
 induction r with
 |nil=>
  grind [py,Mq,sA,n3,HD,aP]
 |cons x r T=>
  intro p m o h B ho
  obtain ⟨m,rfl,E⟩:=py B
  obtain ⟨W,Y,e3,e4⟩:=qH h (by omega)
  have L:x∈t.s:=by grind
  have ad:p.length<t.s.length:=by grind
  have hb:=(J.bi L).1
  have p9:=Ru (S:=S) hk (a:=vb) hb.1 hb.2.1 (show aG d by unfold aG;omega) z
  have:=fun Al=>ae5 hk I (Mq hd k I vb db t b1 r2 ks v d m) (Al:=Al) (r2:=r2) (b1:=b1) (xk:=(p.length:Int)) (ks:=ks) (o:=o) M A (O x L) hb.2.2 (by omega) x.c [] k [] rfl (by omega) rfl
  have this: ∀Al,l7 hd k I (Mq hd k I vb db t b1 r2 ks v d m) Al vb db t b1 r2 ks o x more v d (p.length:Int) k [] 0=_:=this
  have hB:n8 vb db v d t.k x=bE (EZ d db x.f) fun F=>bE (H3 vb db v d t.k x.c) fun q=> .ok (.mk F q):=by cases x;rfl
  simp only [Mq,sA,W,ae,Y,ql,ag hk,p9,ij,this,HD,hB,AS,aP,zg,e3]
  refine Dc (fun F _=>Dc (fun q _=> ?_) fun e _=>rfl) fun e _=>rfl
  rw [T (p++[x]) m (o++[Br.mk F q]) e4 E (by grind)]
  simp
theorem ae3 (hk:Fu k) (I:px Int Tm->OS S) {r2:LC} {b1:Int} (J:pr t) (x:aG db) (z:0<=d/\d<4611686018427387904) (L:0<=v/\v<4611686018427387904)
  (M: ∀y∈t.c,∀a b,0<=a/\a<=1->0<=b/\b<=1-> ∀g,hd vb db y (v+a) (d+b) g=g (pE (uC vb db (v+a) (d+b) y))) (A: ∀b∈t.s,∀y∈b.c,∀g,hd vb db y v (d+av t.k) g=g (pE (uC vb db v (d+av t.k) y))):
  ∀ (r p:LT) (m:Nat) (acc:LT),t.c=p++r->r.length<m->acc.length=p.length->
  M9 hd k I vb db t b1 r2 v d m acc (p.length:Int)=eE (dm vb db v d t.k p.length r) (fun l=>eE (HD vb db v d t.k t.s) (fun s=>I (.ok (.mk t.k b1 t.name r2 (acc++l) s))) fun e=>I (.bD e)) fun e=>I (.bD e):=by
 obtain ⟨o1,o2,o3,o4,o5,o6,o7⟩:=J.no
 intro r
 induction r with
 |nil=>
  intro p m acc h B ha
  obtain ⟨m,rfl,q⟩:=py B
  have hs:Mq hd k I vb db t b1 r2 acc v d k [] (av t.k) 0=_:=ae4 hk I rfl J x z A t.s [] k [] rfl (by omega) rfl
  grind [M9,sz,dm,aP,cH,av]
 |cons y r O=>
  intro p m acc h B ha
  obtain ⟨m,rfl,q⟩:=py B
  obtain ⟨T,W,Y,e4⟩:=qH h (by omega)
  have ad:p.length<t.c.length:=by grind
  have E:=g7 t.k p.length
  have F:=gr t.k p.length
  have hy:=M y (by grind) (Ab t.k p.length) (bJ t.k p.length) E F
  simp only [M9,sz,T,ae,W,ql,ag hk,jE,ar,uY (n:=v+Ab t.k p.length) (by omega) (by omega),uY (n:=d+bJ t.k p.length) (by omega) (by omega),hy,ij,dm,AS,aP]
  refine Dc (fun t' ao=> ?_) fun e _=>rfl
  rw [J5 (by grind),Y,O (p++[y]) m (acc++[t']) e4 q (by grind),show (p++[y]).length=p.length+1 by simp]
  simp
end
theorem Fh (vb db v d:Int) (t:Tm):uC vb db v d t=if t.k=1/\t.n>=v/\t.n>1000000000-vb then .error 100 else bE (EZ d db t.r) fun z=>bE (dm vb db v d t.k 0 t.c) fun x=>bE (HD vb db v d t.k t.s) fun q=> .ok (.mk t.k (if t.k=1/\t.n>=v then t.n+vb else t.n) t.name z x q):=by cases t;rfl
theorem q7.no {t:Tm} (h:q7 t):RF t.r/\(t.k=1->t.r=[])/\0<=t.k:=by cases t;rw [q7] at h;exact h.1
theorem q7.ki {t x:Tm} (h:q7 t) (q:x∈t.c):q7 x:=by cases t;rw [q7] at h;exact xR.1 h.2.1 x q
theorem q7.bi {t:Tm} {b:Br Tm} (h:q7 t) (hb:b∈t.s):RF b.f/\ ∀x∈b.c,q7 x:=by cases t;rw [q7] at h;exact FD.1 h.2.2 b hb
def VP (v d:Int) (n:Nat):Prop:=0<=v/\v+n<4611686018427387904/\0<=d/\d+n<4611686018427387904
theorem K1 {vb db:Int} (T:0<=vb/\vb<=1000000000) (A:aG db) (t:Tm):pr t->q7 t-> ∀ {k:Nat} {v d:Int} (I:px Int Tm->OS S),Fd k (am t)->VP v d (am t)->dk k vb db t v d I=I (pE (uC vb db v d t)):=by
 induction t using c7 with
 |h t E F=>
  intro B z k v d I hk hv
  obtain ⟨q,rfl,J,hf⟩:=hk.pos' (HE t)
  obtain ⟨L,W⟩: ∃L,q=L+1:=⟨q-1,by omega⟩
  have hp:=HE t
  unfold VP at hv
  obtain ⟨o1,Y,o3,o4,o5,o6,o7⟩:=B.no
  have ad:=KW t.k
  have hQ: ∀y∈t.c,∀a b,0<=a/\a<=1->0<=b/\b<=1-> ∀g:px Int Tm->OS S,dk q vb db y (v+a) (d+b) g=g (pE (uC vb db (v+a) (d+b) y)):=fun y x a b h1 h2 g=>
   E y x (B.ki x) (z.ki x) g (hf _ (bY x)) (by have:=bY x;unfold VP;omega)
  have M: ∀b∈t.s,∀y∈b.c,∀g:px Int Tm->OS S,dk q vb db y v (d+av t.k) g=g (pE (uC vb db v (d+av t.k) y)):=fun b hb y x g=>
   F b hb y x ((B.bi hb).2 y x) ((z.bi hb).2 y x) g (hf _ (b8 hb x)) (by have:=b8 hb x;unfold VP;omega)
  have h1:=fun r2 b1=>ae3 (r2:=r2) (b1:=b1) J I B A (show 0<=d/\d<4611686018427387904 by omega) (show 0<=v/\v<4611686018427387904 by omega) hQ M t.c [] q [] rfl (by omega) rfl
  have h0: ∀r2 b1,uJ (dk q) q I vb db t r2 v d q b1=M9 (dk q) q I vb db t b1 r2 v d q [] 0:=by
   intro r2 b1
   have: ∀j,j=L+1->uJ (dk q) q I vb db t r2 v d j b1=M9 (dk q) q I vb db t b1 r2 v d q [] 0:=by rintro j rfl;rfl
   grind
  have h2: ∀r2 b1,uJ (dk q) q I vb db t r2 v d q b1=_:=fun r2 b1=>(h0 r2 b1).trans (h1 r2 b1)
  have p9:=Ru (S:=S) J (a:=vb) o4 o5 (show aG d by unfold aG;omega) A
  simp only [dk,HY,ag J,p9,ij,h2,List.length_nil,zg]
  rw [Qx _ I,Fh]
  unfold aG at Y
  by_cases hc:t.k=1
  ·have hr:=z.no.2.1 hc
   rw [hr,Bt,aP,hc,show ((1:Int)==1)=true from rfl,ae,aY]
   by_cases hn:t.n>=v
   ·rw [if_pos hn,uY (n:=1000000000-vb) (by omega) (by omega),aY]
    by_cases hb:t.n>1000000000-vb
    ·rw [if_pos hb,if_pos (show (1:Int)=1/\t.n>=v/\t.n>1000000000-vb from ⟨rfl,hn,hb⟩)];rfl
    grind [AS,uY,aP]
   grind [AS,aP]
  ·have O:(t.k==1)=false:=by grind
   rw [O,if_neg (show ¬ (t.k=1/\t.n>=v/\t.n>1000000000-vb) from fun h=>hc h.1)]
   simp_all [n3,AS,aP]
section
variable {hd:Tm->Int->Int->Int->Int->(Tm->OS S)->OS S} {vb db v d:Int} {t:Tm}
theorem wx {z:LC×Int} {α:Type} (f:LC->α) (g:Int->α):ab (!(z.2==0)) (g z.2) (f z.1)=eE (B1 z) f g:=by
 rw [bG]
 unfold B1
 by_cases h:z.2=0
 ·rw [decide_eq_true h,if_pos h];rfl
 ·rw [decide_eq_false h,if_neg h];rfl
end
theorem H8 {t:Tm} (h:bw t=0):am t<=200/\au t<=20000/\sL false (-1) 24 t=true:=by
 grind [bw]
theorem pS {t:Tm} (h1:am t<=200) (h2:au t<=20000) (q:sL false (-1) 24 t=true):bw t=0:=by
 grind [bw]
theorem Et (t:Tm):0<=bw t/\bw t<=1000:=by
 grind [bw]
def Fm (t:Tm):Prop:=pr t/\bw t=0
theorem Fm.ok {t:Tm} (h:Fm t):pr t:=h.1
theorem Fm.rows {t:Tm} (h:Fm t):q7 t:=ZA t h.1 (H8 h.2).2.2
theorem Fm.dep {t:Tm} (h:Fm t):am t<=200:=(H8 h.2).1
theorem Fm.dP {t:Tm} (h:Fm t):au t<=20000:=(H8 h.2).2.1
theorem jr {vb db v d:Int} (q:0<=vb/\vb<=1000000000) {t t':Tm} (h:Fm t) (hl:uC vb db v d t= .ok t'):Fm t':=by
 obtain ⟨h1,h2,z,x⟩:=uP q.1 q.2 t v d t' hl
 obtain ⟨a,b,c⟩:=H8 h.2
 have:=x h.1
 exact ⟨this.1,pS (by omega) (by omega) (this.2.2 24 24 (by omega) (by omega) c)⟩
abbrev F3 (k:Nat):Prop:=4294968296<=k
theorem F3.fu (h:F3 k):Fu k:=by omega
theorem F3.fd (h:F3 k) {n:Nat} (hn:n<=1000):Fd k n:=by omega
theorem Fm.fd {t:Tm} (h:Fm t) (hk:F3 k):Fd k (am t):=hk.fd (by have:=h.dep;omega)
theorem Fm.vp {t:Tm} (h:Fm t) {v d:Int} (hv:0<=v/\v<=4611686018427380000) (hd:0<=d/\d<=4611686018427380000):VP v d (am t):=by have:=h.dep;unfold VP;omega
theorem I0 (x:Except Int Tm) (I:Tm×Int->OS S):I (tE x)=eE x (fun t=>I (t,0)) fun e=>I (ou,e):=by cases x<;>rfl
theorem aeU (hk:Fu k) (I:Tm×Int->OS S) {c0 c2:Int} {c1:Tm} {ns:List Int} (hl:ns.length<1000) (hn: ∀x∈ns,0<=x):
  ∀ (r p:List Int) (m:Nat),ns=p++r->r.length<m->nC k I c0 c1 c2 ns m (p.length:Int)=yX k c0 c1 c2 fun q=>px.elim q (fun q=>I (q,0)) fun B=>I (ou,B):=by
 intro r
 induction r with
 |nil=>
  intro p m h z
  obtain ⟨m,rfl,A⟩:=py z
  simp only [nC,xa,xw h,n3,ag hk,ar];rfl
 |cons x r E=>
  intro p m h z
  obtain ⟨m,rfl,A⟩:=py z
  obtain ⟨F,J,L,M⟩:=qH h (by omega)
  have O:=hn x (by grind)
  grind [nC,xa,aY]
theorem Rr (hk:F3 k) {t:Tm} (q:Fm t) {f b:Int} (hf:0<=f/\f<=24) (hb:0<=b/\b<9223372036854775808) (I:Tm×Int->OS S):lv k t f b I=I (tE (uC 0 b 0 f t)):=by
 have hl:=aeU hk.fu I (c0:=b) (c2:=f) (c1:=t) (ns:=[f,b]) (by simp) (by grind) [f,b] [] k rfl (by grind)
 have hl:nC k I b t f [f,b] k 0=_:=hl
 simp only [lv,ag hk.fu,ar,yZ,BQ,Ah q.ok (q.fd hk) (show am t<1099511627776 by have:=q.dep;omega),q.2,hl,yX]
 rw [show ((0:Int)==0)=true from rfl,va,n3,if_neg (by omega),K1 (by omega) (by unfold aG;omega) t q.ok q.rows _ (q.fd hk) (q.vp (by omega) (by omega)),ij,I0 _ I]
 rfl
def J6 (vb db:Int) (t:Tm):Except Int Tm:=bE (uC vb 0 0 0 t) (uC 0 db 0 0)
theorem mD {vb db:Int} (q:0<=vb/\vb<=1000000000) {t t':Tm} (h:Fm t) (hl:J6 vb db t= .ok t'):Fm t':=by
 obtain ⟨a,h1,h2⟩:=i8 hl
 exact jr (by omega) (jr q h h1) h2
theorem xH {vb db:Int} {t:Tm} {e:Int} (h:J6 vb db t= .error e):0<e/\e<=1000:=by
 rcases be h with h|⟨a,_,h⟩
 ·exact MW t h
 ·exact MW a h
theorem aeV (hk:Fu k) (I:Tm×Int->OS S) {c0 c1:Int} {c2:Tm} {ns:List Int} (hl:ns.length<1000) (hn: ∀x∈ns,0<=x):
  ∀ (r p:List Int) (m:Nat),ns=p++r->r.length<m->nE k I c0 c1 c2 ns m (p.length:Int)=yW k c0 c1 c2 fun q=>px.elim q (fun q=>I (q,0)) fun B=>I (ou,B):=by
 intro r
 induction r with
 |nil=>
  intro p m h z
  obtain ⟨m,rfl,A⟩:=py z
  simp only [nE,xd,xw h,n3,ag hk,ar];rfl
 |cons x r E=>
  intro p m h z
  obtain ⟨m,rfl,A⟩:=py z
  obtain ⟨F,J,L,M⟩:=qH h (by omega)
  have O:=hn x (by grind)
  grind [nE,xd,aY]
theorem He (hk:F3 k) {t:Tm} (q:Fm t) {vb db:Int} (z:0<=vb/\vb<=1000000) (A:0<=db/\db<9223372036854775808) (I:Tm×Int->OS S):lu k t vb db I=I (tE (J6 vb db t)):=by
 have hl:=aeV hk.fu I (c0:=db) (c1:=vb) (c2:=t) (ns:=[vb,db,1000000-vb]) (by simp) (by grind) [vb,db,1000000-vb] [] k rfl (by grind)
 have hl:nE k I db vb t [vb,db,1000000-vb] k 0=_:=hl
 simp only [lu,ag hk.fu,ar,uY (n:=1000000-vb) (by omega) (by omega),y7,BS,Ah q.ok (q.fd hk) (show am t<1099511627776 by have:=q.dep;omega),q.2,hl,yW]
 rw [show ((0:Int)==0)=true from rfl,va,n3,K1 (show 0<=vb/\vb<=1000000000 by omega) (show aG 0 by unfold aG;omega) t q.ok q.rows _ (q.fd hk) (q.vp (by omega) (by omega)),ij,I0 _ I]
 unfold J6
 rw [AS]
 refine Dc (fun y B=> ?_) fun _ _=>rfl
 have x:=jr (show 0<=vb/\vb<=1000000000 by omega) q B
 rw [K1 (show (0:Int)<=0/\(0:Int)<=1000000000 by omega) (show aG db by unfold aG;omega) y x.ok x.rows _ (x.fd hk) (x.vp (by omega) (by omega)),ij]
 rfl
theorem Rh {l:LC} (hl:l.length<1073741824) (I:LC->OS S):iz l I=I l:=by
 grind [iz,J5]
section
variable {hd:Tm->(Tm->OS S)->OS S}
theorem aev (hk:Fu k) (I:LT->OS S) {l:LT} (z: ∀y∈l,∀g,hd y g=g y) (hl:l.length<1073741824):
  ∀ (r p:LT) (m:Nat),l=p++r->r.length<m->k6 hd k I l m p (p.length:Int)=I l:=by
 intro r
 induction r with
 |nil=>
  grind [py,k6,yf,n3]
 |cons y r A=>
  intro p m h q
  obtain ⟨m,rfl,x⟩:=py q
  obtain ⟨B,E,F,J⟩:=qH h (by omega)
  grind [k6,yf,ae,ar,J5]
theorem Ri (hk:Fu k) {l:LT} (q: ∀y∈l,∀g,hd y g=g y) (hl:l.length<1073741824) (I:LT->OS S):ui hd k l I=I l:=by
 simp only [ui,IS]
 exact aev hk I q hl l [] k rfl (by omega)
theorem aew (hk:Fu k) (I:Tm->OS S) {t:Tm} (x:pr t) (A: ∀b∈t.s,∀y∈b.c,∀g,hd y g=g y) (r1:LC) (r2:LT):
  ∀ (r p:LB) (m:Nat),t.s=p++r->r.length<m->qQ hd k I t r1 r2 m p (p.length:Int)=I (.mk t.k t.n t.name r1 r2 t.s):=by
 obtain ⟨O,T,W,Y,o5,o6,o7⟩:=x.no
 intro r
 induction r with
 |nil=>
  grind [py,qQ,ye,n3]
 |cons y r B=>
  intro p m h E
  obtain ⟨m,rfl,q⟩:=py E
  obtain ⟨F,J,L,M⟩:=qH h (by omega)
  have z:y∈t.s:=by grind
  have hb:=(x.bi z).1
  have hlen:p.length+r.length+1=t.s.length:=by grind
  simp only [qQ,ye,F,ae,J,ql,ar,L,Rh hb.2.1,ag hk,Ri hk (A y z) hb.2.2]
  rw [J5 (by grind)]
  have:=B (p++[y]) m M q
  omega
end
theorem vU (t:Tm):pr t-> ∀ {k:Nat} (I:Tm->OS S),Fd k (am t)->dJ k t I=I t:=by
 induction t using c7 with
 |h t A B=>
  intro z k I hk
  obtain ⟨q,rfl,E,hf⟩:=hk.pos' (HE t)
  obtain ⟨L,M,O,T,F,J,W⟩:=z.no
  simp only [dJ,IP,Rh F,ag E,Ri E (fun y x g=>A y x (z.ki x) g (hf _ (bY x))) J]
  have:=aew E I z (fun b hb y x g=>B b hb y x ((z.bi hb).2 y x) g (hf _ (b8 hb x))) t.r t.c t.s [] q rfl (by omega)
  refine po this ?_
  cases t;rfl
theorem ahz {v d d':Int} (h:24<=d) (h':24<=d') (t:Tm):cL v d t=cL v d' t:=by
 have hb: ∀kd,bX kd d=bX kd d':=fun kd=>by grind [bX,Av]
 simp_all [cL,Av]
theorem at8 (t:Tm): ∀ {v d d':Int},24<=d->24<=d'->sL false v d t=sL false v d' t:=by
 induction t using c7 with
 |h t q z=>
  intro v d d' h h'
  rw [wI,wI,ahz h h']
  have A: ∀ (l:LT) (i:Nat),(∀x∈l,x∈t.c)->bO false v d t.k i l=bO false v d' t.k i l:=by
   intro l
   induction l<;>grind [bO,bJ]
  grind [wH,av]
def tb (i:Int) (r:LC) (fa:Bool):dC:=fun d f=>if bP (ie f) (i+d) then bE (B1 (td r 0 d)) fun s=>B1 (if fa then iG f (i+d) s else iH f (i+d) s) else .ok f
theorem D5 (f:LC):BC (ie f):=by
 have:=D6 f
 exact ⟨Int.natCast_nonneg _,by show ((fS f:Nat):Int)<_;omega⟩
theorem ahR {f r:LC} {i:Int} (q:aq r) (h:(iH f i r).2=0):RF (iH f i r).1:=by
 grind [iH,KG,N5,L6,rA]
theorem azH (f g:LC):EN (Ix f g).2:=l9 _
theorem ES (f g:LC):EN (Iy f g).2:=l9 _
theorem agF (f g:LC):EN (MZ f g).2:=l9 _
theorem NM (f:LC):EN (FG f).2:=z8 fun h c=>azH _ _
theorem ahH (i:Int) (r:LC) (c:Cl):EN (d_ i r c).2:=by
 grind [d_,azH,uq]
theorem ahJ (i:Int) (r:LC) (c:Cl) (g:LC):EN (MD i r c g).2:=by
 grind [MD,azH,NM,uq]
theorem ahG (i:Int) (r h:LC) (c:Cl):EN (dY i r h c).2:=by
 grind [dY,ES,ahJ,ahH]
theorem ahQ (f:LC) (i:Int) (r:LC):EN (iH f i r).2:=by
 grind [iH,z8,ahG,lO]
theorem agW (f:LC):EN (sa f).2:=by
 unfold sa
 split
 ·exact l9 _
 ·exact lO
theorem agX (f:LC):EN (sg f).2:=by
 unfold sg
 split
 ·split
  ·exact l9 _
  ·exact NM _
 ·exact lO
theorem ahM {i:Int} {c:Cl} {h:LC} {q:LC×Int} (x:EN q.2):EN (LS i c h q).2:=by
 grind [LS,ES,agF]
theorem ahN (f:LC) (i:Int) (r:LC):EN (iG f i r).2:=by
 grind [iG,z8,Iz,ahM,agW,agX,ES,lO]
theorem rB {i:Int} {r:LC} {fa:Bool} {d:Int} {f g:LC} (hf:RF f) (h:tb i r fa d f= .ok g):RF g:=by
 unfold tb at h
 split at h
 ·obtain ⟨s,h1,h⟩:=i8 h
  obtain ⟨q,rfl⟩:=rR h1
  have hs:=kQ q
  obtain ⟨h2,rfl⟩:=rR h
  cases fa with
  |true=>exact (ahO hf.2 hs.2 h2).1
  |false=>exact ahR hs.2 h2
 grind
theorem Bu {i:Int} {r:LC} {fa:Bool} {d:Int} {f:LC} {e:Int} (h:tb i r fa d f= .error e):0<e/\e<=1000:=by
 grind [tb,be,hi,q_,EN,ahN,ahQ]
theorem QI {i:Int} {r:LC} {fa:Bool} {d:Int}:tb i r fa d []= .ok []:=by
 grind [tb,bP,ie,Ej,D7,jJ]
def RJ (i:Int) (r:LC) (fa:Bool) (d:Int) (f:LC):LC×Int:=if bP (ie f) (i+d) then if (td r 0 d).2=0 then if fa then iG f (i+d) (td r 0 d).1 else iH f (i+d) (td r 0 d).1 else ([],(td r 0 d).2) else (f,0)
theorem oJ (i:Int) (r:LC) (fa:Bool) (d:Int) (f:LC):B1 (RJ i r fa d f)=tb i r fa d f:=by
 grind [RJ,tb,jF,aD,iO,lk]
section
variable {i d:Int} {r f:LC}
theorem RS (hk:Fu k) (hf:RF f) (x:RF r) (z:0<=i/\i<24) (hd:0<=d/\d<4611686018427387000) (I:LC×Int->OS S):tF k f d i r I=I (RJ i r true d f):=by
 have A:=hf.len;have B:=x.len
 simp only [tF,ag hk,uY (n:=i+d) (by omega) (by omega),Ha hk hf.2 (show f.length<4294967296 by omega),rF hk (D5 f),tD,J5 (show 0+f.length<=1099511627776 by omega),vX hk x.2 (show r.length<1073741824 by omega) (show aG 0 by unfold aG;omega) (show aG d by unfold aG;omega)]
 unfold RJ
 cases bP (ie f) (i+d) with
 |false=>rfl
 |true=>
  rw [va,n3,bG,if_pos rfl]
  by_cases q:(td r 0 d).2=0
  ·have hs:=kQ q
   rw [decide_eq_true q,va,n3,aje hk hf.2 hs.2 hf.lt hs.lt,if_pos q,if_pos rfl]
  grind [ae]
theorem ajW (hk:Fu k) (hf:RF f) (x:RF r) (z:0<=i/\i<24) (hd:0<=d/\d<4611686018427387000) (I:LC×Int->OS S):yF k f d i r I=I (RJ i r false d f):=by
 have A:=hf.len;have B:=x.len
 simp only [yF,ag hk,uY (n:=i+d) (by omega) (by omega),Ha hk hf.2 (show f.length<4294967296 by omega),rF hk (D5 f),tD,J5 (show 0+f.length<=1099511627776 by omega),vX hk x.2 (show r.length<1073741824 by omega) (show aG 0 by unfold aG;omega) (show aG d by unfold aG;omega)]
 unfold RJ
 cases bP (ie f) (i+d) with
 |false=>rfl
 |true=>
  rw [va,n3,bG,if_pos rfl]
  by_cases q:(td r 0 d).2=0
  ·have hs:=kQ q
   rw [decide_eq_true q,va,n3,ajb hk hf.2 hs.2 hf.lt hs.lt,if_pos q,if_neg (by decide)]
  grind [ae]
end
def jU (j:Int) (c:Cl):Cl:=⟨pI c.pos j,pI c.neg j⟩
def uc (j:Int) (f:LC):LC:=(bp (f.map (jU j))).1
theorem JR (s j:Int):0<=pI s j/\pI s j<16777216:=by
 have:=aam s.toNat j
 exact ⟨Int.natCast_nonneg _,by show ((j7 s.toNat j:Nat):Int)<_;omega⟩
theorem DA (j:Int) (c:Cl):RC (jU j c):=⟨JR _ _,JR _ _⟩
theorem DD (j:Int) (f:LC): ∀c∈f.map (jU j),RC c:=fun c hc=>by
 grind [DA]
theorem DC {j:Int} {f:LC} (hf:f.length<=64):bp (f.map (jU j))=(uc j f,0):=Prod.ext rfl (LH (DD j f) (by grind))
theorem aad {j:Int} {f:LC} (hf:f.length<=64):RF (uc j f):=qX (fun c hc=>(DD j f c hc).ok) (by rw [DC hf])
theorem agO: ∀ (n:Nat) {l:LC} {c:Cl},(l.filter fun d=>dR c d&& !decide (d=c)).length<=n->(∀d∈l,RC d)->c∈l-> ∃d∈l,ce l d=true:=by
 have hle: ∀ {a b:Cl},RC a->RC b->(dR a b=true↔(∀j,b.pos.toNat.testBit j=true->a.pos.toNat.testBit j=true)/\ ∀j,b.neg.toNat.testBit j=true->a.neg.toNat.testBit j=true):=by
  intro a b ha hb
  unfold dR d9
  rw [decide_eq_true_eq]
  have O: ∀ {x y:Int},0<=x->(ep x y=x↔ ∀j,y.toNat.testBit j=true->x.toNat.testBit j=true):=by
   intro x y B
   unfold ep
   constructor
   ·intro h j hj
    have:(x.toNat|||y.toNat)=x.toNat:=by omega
    grind
   ·intro h
    have:(x.toNat|||y.toNat)=x.toNat:=by
     apply Nat.eq_of_testBit_eq
     grind
    omega
  cases a with
  |mk p q=>
   have h1:0<=p:=ha.1.1
   have h2:0<=q:=ha.2.1
   grind
 have E: ∀ {a b:Cl},RC a->RC b->dR a b=true->dR b a=true->a=b:=by
  intro a b ha hb h1 h2
  have J:=(hle ha hb).1 h1
  have L:=(hle hb ha).1 h2
  have B: ∀ {x y:Int},0<=x->0<=y->(∀j,y.toNat.testBit j=true->x.toNat.testBit j=true)->(∀j,x.toNat.testBit j=true->y.toNat.testBit j=true)->x=y:=by
   intro x y B hy a b
   have:x.toNat=y.toNat:=by
    apply Nat.eq_of_testBit_eq
    grind
   omega
  cases a;cases b
  have p1:=B ha.1.1 hb.1.1 J.1 L.1
  have p2:=B ha.2.1 hb.2.1 J.2 L.2
  grind
 intro n
 induction n with
 |zero=>
  grind [ce,List.filter_eq_nil_iff]
 |succ n T=>
  intro l c hn hl hc
  by_cases h:ce l c=true
  ·grind
  ·unfold ce at h
   rw [xo] at h
   have: ∃d∈l,¬ ((decide (d=c)|| !dR c d)=true):=Classical.byContradiction fun W=>h fun d hd=>Classical.byContradiction fun h2=>W ⟨d,hd,h2⟩
   obtain ⟨d,hd,F⟩:=this
   have h1:d≠c:=fun h=>F (by grind)
   have h2:dR c d=true:=by
    grind
   refine T (c:=d) ?_ hl hd
   have M:(l.filter fun e=>dR d e&& !decide (e=d)).length<(l.filter fun e=>dR c e&& !decide (e=c)).length:=by
    have Y:=hl c hc;have ad:=hl d hd
    have himp: ∀e∈l,(dR d e&& !decide (e=d))=true->(dR c e&& !decide (e=c))=true:=by
     grind
    have A: ∀ (p q:Cl->Bool) (m:LC),(∀e∈m,p e=true->q e=true)->(m.filter p).length<=(m.filter q).length:=by
     intro p q m
     induction m<;>grind
    have I: ∀ (p q:Cl->Bool) (m:LC),(∀e∈m,p e=true->q e=true)->d∈m->p d=false->q d=true->(m.filter p).length<(m.filter q).length:=by
     intro p q m
     induction m with
     |nil=>simp
     |cons e m im=>
      intro hm hdm hp hq
      have z: ∀e∈m,p e=true->q e=true:=fun e he=>hm e (by simp [he])
      have hb:=A p q m z
      rcases xF.1 hdm with rfl|hdm<;>grind
    exact I _ _ l himp hd (by simp) (by grind)
   omega
theorem JE {j:Int} {f:LC} (hf:RF f):(uc j f).length=0↔f.length=0:=by
 have h:=DC (j:=j) hf.len
 have z:=(As h).1
 constructor
 ·intro q
  apply Classical.byContradiction
  intro x
  obtain ⟨c,hc⟩:=List.exists_mem_of_length_pos (l:=f.map (jU j)) (by grind)
  obtain ⟨d,hd,hn⟩:=agO _ (xt _) (DD j f) hc
  have:d∈uc j f:=by grind [tc]
  grind
 ·intro q
  have:=Iu.1 q
  subst this;rfl
theorem aeC (hk:Fu k) (I:LC×Int->OS S) {i d:Int} (T:0<=i/\i<24) (hd:0<=d/\d<4611686018427387000) {f:LC} (hf:aq f) (hlen:f.length<1073741824):
  ∀ (r p:LC) (m:Nat) (o:LC),f=p++r->r.length<m->aq o->o.length=p.length->z' k I i d f m (p.length:Int) o=I (bp (o++r.map (jU (i+d)))):=by
 intro r
 induction r with
 |nil=>
  intro p m o h A q ho
  obtain ⟨m,rfl,z⟩:=py A
  grind [z',wN,n3,ag,kX]
 |cons x r E=>
  intro p m o h A q ho
  obtain ⟨m,rfl,z⟩:=py A
  obtain ⟨F,J,L,M⟩:=qH h (by omega)
  have B:aX x:=hf x (by grind)
  have O:p.length<f.length:=by grind
  simp only [z',wN,F,ae,J,ql,ag hk,uY (n:=i+d) (by omega) (by omega),Q4 hk B.1,Q4 hk B.2,L]
  rw [J5 (by grind)]
  have:=E (p++[x]) m (o++[jU (i+d) x]) M z (MY q fun c hc=>by simp at hc;subst hc;exact (DA _ _).ok) (by grind)
  refine po this ?_
  simp
theorem Rl (hk:Fu k) {i d:Int} (q:0<=i/\i<24) (hd:0<=d/\d<4611686018427387000) {f:LC} (hf:RF f) (I:LC×Int->OS S):pc k f d i I=I (uc (i+d) f,0):=by
 have x:=hf.len
 have:=aeC hk I q hd hf.2 (by omega) f [] k [] rfl (by omega) (fun c hc=>by cases hc) rfl
 grind [pc,Hx,DC]
theorem B4 (fo fa:dC) (d:Int) (t:Tm):ua fo fa d t=bE (if t.k=14 then fa d t.r else fo d t.r) fun z=>bE (aig fo fa d t.k 0 t.c) fun x=>bE (uD fo fa d t.k t.s) fun q=> .ok (.mk t.k t.n t.name z x q):=by cases t;rfl
theorem Ja {fo fa:dC} {d:Int} {x y:Tm} (h:ua fo fa d x= .ok y):y.k=x.k:=by
 rw [B4] at h
 obtain ⟨_,_,h⟩:=i8 h
 obtain ⟨_,_,h⟩:=i8 h
 obtain ⟨_,_,h⟩:=i8 h
 injection h with h;subst h;rfl
theorem B3 (fo fa:dC) (d kd:Int) (b:Br Tm):I1 fo fa d kd b=bE (fa d b.f) fun x=>if x.length=0 then .ok [] else bE (xz fo fa d kd b.c) fun q=> .ok [.mk x q]:=by cases b;rfl
section
variable {fo fa:dC} (hfo: ∀d f e,fo d f= .error e->0<e/\e<=1000) (hfa: ∀d f e,fa d f= .error e->0<e/\e<=1000)
include hfo hfa
theorem jK (t:Tm): ∀ {d e},ua fo fa d t= .error e->0<e/\e<=1000:=by
 induction t using gq with
 |h kd n nm r J sys E F=>
  intro d e h
  rw [ua] at h
  rcases be h with h|⟨_,_,h⟩
  ·grind
  have q: ∀ {l:LT} {i:Nat},(∀x∈l,∀ {d e},ua fo fa d x= .error e->0<e/\e<=1000)->aig fo fa d kd i l= .error e->0<e/\e<=1000:=by
   intro l
   induction l with
   |nil=>grind [aig]
   |cons t l A=>
    intro i hl h
    rw [aig] at h
    rcases be h with h|⟨_,_,h⟩
    ·exact hl t (by simp) h
    grind [be]
  have z: ∀ {l:LT},(∀x∈l,∀ {d e},ua fo fa d x= .error e->0<e/\e<=1000)-> ∀ {e},xz fo fa d kd l= .error e->0<e/\e<=1000:=by
   intro l
   induction l with
   |nil=>grind [xz]
   |cons t l A=>
    intro hl e h
    rw [xz] at h
    rcases be h with h|⟨_,_,h⟩
    ·grind
    ·rcases be h with h|⟨_,_,h⟩
     ·exact A (fun x I=>hl x (by simp [I])) h
     simp_all
  have B: ∀ {l:LB},(∀b∈l,∀x∈b.c,∀ {d e},ua fo fa d x= .error e->0<e/\e<=1000)->uD fo fa d kd l= .error e->0<e/\e<=1000:=by
   intro l
   induction l<;>grind [uD,be,B3]
  grind [be]
theorem Ug {kd d:Int}: ∀ {l:LT} {i:Nat} {e:Int},aig fo fa d kd i l= .error e->0<e/\e<=1000:=by
 intro l
 induction l with
 |nil=>grind [aig]
 |cons t l q=>
  intro i e h
  rw [aig] at h
  rcases be h with h|⟨_,_,h⟩
  ·exact jK hfo hfa t h
  grind [be]
theorem Uh {kd d:Int}: ∀ {l:LT} {e:Int},xz fo fa d kd l= .error e->0<e/\e<=1000:=by
 intro l
 induction l<;>grind [xz,be,jK]
end
theorem kr {α β:Type} (x:Except Int Tm) (q: ∀e,x= .error e->0<e/\e<=1000) (f:Tm->α) (g:Int->α):(fun r:Tm×Int=>ab (!(r.2==0)) (g r.2) (f r.1)) (tE x)=eE x f g:=by
 cases x with
 |ok t=>rfl
 |error e=>
  have:=(q e rfl).1
  show ab (!(e==0)) (g e) (f ou)=g e
  grind [decide_eq_false,ae]
theorem AM {α β γ:Type} (x:Except Int α) (q: ∀e,x= .error e->0<e/\e<=1000) (z:α) (f:α->β) (g:Int->β):eE x (fun l=>(fun r:α×Int=>ab (!(r.2==0)) (g r.2) (f r.1)) (l,0)) (fun e=>(fun r:α×Int=>ab (!(r.2==0)) (g r.2) (f r.1)) (z,e))=eE x f g:=by
 cases x with
 |ok t=>rfl
 |error e=>
  have:=(q e rfl).1
  show ab (!(e==0)) (g e) (f z)=g e
  grind [decide_eq_false,ae]
theorem mo {G:Int->LC->LC}: ∀d f e,j0 G d f= .error e->0<e/\e<=1000:=fun d f e h=>by cases h
theorem jD {i:Int} {r:LC} {fa:Bool}: ∀d f e,tb i r fa d f= .error e->0<e/\e<=1000:=fun d f e h=>Bu h
section
variable {hd:Tm->Int->Int->LC->(Tm×Int->OS S)->OS S} {i d:Int} {t:Tm} {r:LC}
theorem ahV (hk:Fu k) (A:0<=i/\i<24) (B:RF r) (E:0<=d/\d<4611686018427386000) (x:q7 t) (I:LC×Int->OS S): ∃z:LC×Int,B1 z=(if t.k=14 then (tb i r true) d t.r else (tb i r false) d t.r)/\yG k t d i r I=I z:=by
 have q:=x.no.1
 simp only [yG,ag hk,RS hk q B A (show 0<=d/\d<4611686018427387000 by omega),ajW hk q B A (show 0<=d/\d<4611686018427387000 by omega)]
 by_cases h:t.k=14
 ·rw [h,if_pos rfl,show ((14:Int)==14)=true from rfl,ae]
  grind [oJ]
 ·rw [if_neg h,show (t.k==14)=false from by grind,n3]
  grind [oJ]
theorem ahS (hk:Fu k) (I:LT×Int->OS S) (B:0<=d/\d<4611686018427386000) (E: ∀y∈t.c,∀b,0<=b/\b<=1-> ∀g,hd y (d+b) i r g=g (tE (ua (tb i r false) (tb i r true) (d+b) y))) (hl:t.c.length<1073741824):
  ∀ (q p:LT) (m:Nat) (acc:LT),t.c=p++q->q.length<m->acc.length=p.length->
  lX hd k I i r t t.c d m acc (p.length:Int)=eE (aig (tb i r false) (tb i r true) d t.k p.length q) (fun l=>I (acc++l,0)) fun e=>I ([],e):=by
 intro q
 induction q with
 |nil=>
  grind [py,lX,wR,n3,aig,aP]
 |cons y q F=>
  intro p m acc h J ha
  obtain ⟨m,rfl,x⟩:=py J
  obtain ⟨L,M,O,T⟩:=qH h (by omega)
  have W:p.length<t.c.length:=by grind
  have A:=gr t.k p.length
  have Y:=E y (by grind) (bJ t.k p.length) A
  simp only [lX,wR,L,ae,M,ql,ag hk,tG,jE,ar,uY (n:=d+bJ t.k p.length) (by omega) (by omega),Y]
  refine po (kr (β:=Unit) _ (fun e he=>jK jD jD y he) (fun z=>oa (aw 1099511627776 acc.length [z].length) fun _=>lX hd k I i r t t.c d m (acc++[z]) (ot .i64 ((p.length:Int)+1))) fun e=>I ([],e)) ?_
  simp only [aig,AS,aP]
  refine Dc (fun t' ad=> ?_) fun e _=>rfl
  rw [J5 (by grind),O,F (p++[y]) m (acc++[t']) T x (by grind),show (p++[y]).length=p.length+1 by simp]
  simp
theorem ahT (hk:Fu k) (I:LT×Int->OS S) {x:Br Tm} {kd:Int} (B:0<=d/\d<4611686018427386000) (E: ∀y∈x.c,∀g,hd y (d+av kd) i r g=g (tE (ua (tb i r false) (tb i r true) (d+av kd) y))) (hl:x.c.length<1073741824):
  ∀ (q p:LT) (m:Nat) (acc:LT),x.c=p++q->q.length<m->acc.length=p.length->
  lW hd k I i r (av kd) x.c d m acc (p.length:Int)=eE (xz (tb i r false) (tb i r true) d kd q) (fun l=>I (acc++l,0)) fun e=>I ([],e):=by
 have F:=KW kd
 intro q
 induction q with
 |nil=>
  grind [py,lW,wQ,n3,xz,aP]
 |cons y q J=>
  intro p m acc h L ha
  obtain ⟨m,rfl,A⟩:=py L
  obtain ⟨M,O,T,W⟩:=qH h (by omega)
  have Y:p.length<x.c.length:=by grind
  have hy:=E y (by grind)
  simp only [lW,wQ,M,ae,O,ql,ag hk,tH,ar,uY (n:=d+av kd) (by omega) (by omega),hy]
  refine po (kr (β:=Unit) _ (fun e he=>jK jD jD y he) (fun z=>oa (aw 1099511627776 acc.length [z].length) fun _=>lW hd k I i r (av kd) x.c d m (acc++[z]) (ot .i64 ((p.length:Int)+1))) fun e=>I ([],e)) ?_
  simp only [xz,AS,aP]
  refine Dc (fun t' ad=> ?_) fun e _=>rfl
  rw [J5 (by grind),T,J (p++[y]) m (acc++[t']) W A (by grind)]
  simp
theorem ahU (hk:Fu k) (I:Tm×Int->OS S) (hi:0<=i/\i<24) (hr:RF r) (J:0<=d/\d<4611686018427386000) {r1:LC×Int} {r2:LT×Int} (Y:pr t) (L:q7 t) (hQ: ∀b∈t.s,∀y∈b.c,∀g,hd y (d+av t.k) i r g=g (tE (ua (tb i r false) (tb i r true) (d+av t.k) y))):
  ∀ (B p:LB) (m:Nat) (o:LB),t.s=p++B->B.length<m->o.length<=p.length->
  fV hd k I i r t r1 r2 d m (av t.k) o (p.length:Int)=eE (uD (tb i r false) (tb i r true) d t.k B) (fun s=>I (.mk t.k t.n t.name r1.1 r2.1 (o++s),0)) fun e=>I (ou,e):=by
 obtain ⟨o1,o2,o3,o4,o5,o6,o7⟩:=Y.no
 intro B
 induction B with
 |nil=>
  grind [py,fV,wS,n3,uD,aP]
 |cons x B ih=>
  intro p m o h M ho
  obtain ⟨m,rfl,E⟩:=py M
  obtain ⟨e1,e2,e3,e4⟩:=qH h (by omega)
  have O:x∈t.s:=by grind
  have ad:p.length<t.s.length:=by grind
  have hb:=(Y.bi O).1
  have T:=(L.bi O).1
  have hM:=fun g:LT×Int->OS S=>ahT (kd:=t.k) hk g J (hQ x O) hb.2.2 x.c [] k [] rfl (by omega) rfl
  have hM: ∀g:LT×Int->OS S,lW hd k g i r (av t.k) x.c d k [] 0=_:=hM
  simp only [fV,wS,e1,ae,e2,ql,ag hk,RS hk T hr hi (show 0<=d/\d<4611686018427387000 by omega),DK,HB,hM,e3,zg]
  have W:=fun q:LC=>AM (β:=OS S) (γ:=Unit) (xz (tb i r false) (tb i r true) d t.k x.c) (fun e he=>Uh jD jD he) [] (fun l=>oa (aw 1099511627776 o.length [Br.mk q l].length) fun _=>fV hd k I i r t r1 r2 d m (av t.k) (o++[Br.mk q l]) (((p++[x]).length:Nat):Int)) fun e=>I (ou,e)
  refine po (wx (z:=(RJ i r true d x.f)) (fun q=>ab (((q.length:Nat):Int)==0) (fV hd k I i r t r1 r2 d m (av t.k) o (((p++[x]).length:Nat):Int)) (eE (xz (tb i r false) (tb i r true) d t.k x.c) (fun l=>(fun A:LT×Int=>ab (!(A.2==0)) (I (ou,A.2)) (oa (aw 1099511627776 o.length [Br.mk q A.1].length) fun _=>fV hd k I i r t r1 r2 d m (av t.k) (o++[Br.mk q A.1]) (((p++[x]).length:Nat):Int))) (l,0)) fun e=>(fun A:LT×Int=>ab (!(A.2==0)) (I (ou,A.2)) (oa (aw 1099511627776 o.length [Br.mk q A.1].length) fun _=>fV hd k I i r t r1 r2 d m (av t.k) (o++[Br.mk q A.1]) (((p++[x]).length:Nat):Int))) ([],e))) fun e=>I (ou,e)) ?_
  rw [show B1 (RJ i r true d x.f)=(tb i r true) d x.f from oJ _ _ _ _ _]
  rw [uD,B3,AS,AS]
  refine Dc (fun q ao=> ?_) fun e _=>rfl
  rw [qY,aY]
  by_cases F:q.length=0
  ·rw [if_pos F,if_pos F,aP,AS,ih (p++[x]) m o e4 E (by grind)]
   rfl
  ·rw [if_neg F,if_neg F,W q,AS]
   refine Dc (fun l hl=> ?_) fun e _=>rfl
   rw [aP,AS,J5 (by grind),ih (p++[x]) m (o++[Br.mk q l]) e4 E (by grind)]
   grind [aP]
end
theorem ahW {i:Int} {r:LC} (W:0<=i/\i<24) (Y:RF r) (t:Tm):pr t->q7 t-> ∀ {k:Nat} {d:Int} (I:Tm×Int->OS S),Fd k (am t)->0<=d->d+am t<4611686018427386000->d7 k t d i r I=I (tE (ua (tb i r false) (tb i r true) d t)):=by
 induction t using c7 with
 |h t M O=>
  intro F A k d I hk hv ad
  obtain ⟨q,rfl,J,hf⟩:=hk.pos' (HE t)
  have hp:=HE t
  have B:0<=d/\d<4611686018427386000:=by omega
  obtain ⟨o1,o2,o3,o4,o5,o6,o7⟩:=F.no
  have ao:=KW t.k
  have hQ: ∀y∈t.c,∀b,0<=b/\b<=1-> ∀g:Tm×Int->OS S,d7 q y (d+b) i r g=g (tE (ua (tb i r false) (tb i r true) (d+b) y)):=fun y x b h2 g=>
   M y x (F.ki x) (A.ki x) g (hf _ (bY x)) (by omega) (by have:=bY x;omega)
  have T: ∀b∈t.s,∀y∈b.c,∀g:Tm×Int->OS S,d7 q y (d+av t.k) i r g=g (tE (ua (tb i r false) (tb i r true) (d+av t.k) y)):=fun b hb y x g=>
   O b hb y x ((F.bi hb).2 y x) ((A.bi hb).2 y x) g (hf _ (b8 hb x)) (by omega) (by have:=b8 hb x;omega)
  have hK: ∀g:LT×Int->OS S,lX (d7 q) q g i r t t.c d q [] 0=_:=fun g=>ahS J g B hQ o6 t.c [] q [] rfl (by omega) rfl
  have hS:=fun (r1:LC×Int) (r2:LT×Int)=>ahU (r1:=r1) (r2:=r2) J I W Y B F A T t.s [] q [] rfl (by omega) (xt _)
  have hS: ∀ (r1:LC×Int) (r2:LT×Int),fV (d7 q) q I i r t r1 r2 d q (av t.k) [] 0=_:=hS
  have E: ∀ (r1:LC×Int) (r2:LT×Int),ab (t.k==15) (fV (d7 q) q I i r t r1 r2 d q 1 [] 0) (fV (d7 q) q I i r t r1 r2 d q 0 [] 0)=eE (uD (tb i r false) (tb i r true) d t.k t.s) (fun s=>I (.mk t.k t.n t.name r1.1 r2.1 s,0)) fun e=>I (ou,e):=by
   grind [cH,av]
  obtain ⟨z,hz,p9⟩:=ahV J W Y B A (fun r1=>ab (!(r1.2==0)) (I (ou,r1.2)) (eE (aig (tb i r false) (tb i r true) d t.k 0 t.c) (fun l=>(fun r2:LT×Int=>ab (!(r2.2==0)) (I (ou,r2.2)) (eE (uD (tb i r false) (tb i r true) d t.k t.s) (fun s=>I (.mk t.k t.n t.name r1.1 r2.1 s,0)) fun e=>I (ou,e))) (l,0)) fun e=>(fun r2:LT×Int=>ab (!(r2.2==0)) (I (ou,r2.2)) (eE (uD (tb i r false) (tb i r true) d t.k t.s) (fun s=>I (.mk t.k t.n t.name r1.1 r2.1 s,0)) fun e=>I (ou,e))) ([],e)))
  simp only [d7,HF,ag J,ar,DL,HC,hK,E,zg,List.length_nil]
  refine po p9 ?_
  rw [I0 _ I,B4,<-hz]
  refine po (wx (z:=z) (fun L=>eE (aig (tb i r false) (tb i r true) d t.k 0 t.c) (fun l=>(fun r2:LT×Int=>ab (!(r2.2==0)) (I (ou,r2.2)) (eE (uD (tb i r false) (tb i r true) d t.k t.s) (fun s=>I (.mk t.k t.n t.name L r2.1 s,0)) fun e=>I (ou,e))) (l,0)) fun e=>(fun r2:LT×Int=>ab (!(r2.2==0)) (I (ou,r2.2)) (eE (uD (tb i r false) (tb i r true) d t.k t.s) (fun s=>I (.mk t.k t.n t.name L r2.1 s,0)) fun e=>I (ou,e))) ([],e)) fun e=>I (ou,e)) ?_
  rw [AS]
  refine Dc (fun L _=> ?_) fun e _=>rfl
  refine po (AM (β:=OS S) (γ:=Unit) (aig (tb i r false) (tb i r true) d t.k 0 t.c) (fun e he=>Ug jD jD he) [] (fun l=>eE (uD (tb i r false) (tb i r true) d t.k t.s) (fun s=>I (.mk t.k t.n t.name L l s,0)) fun e=>I (ou,e)) fun e=>I (ou,e)) ?_
  simp only [AS,aP]
section
variable {hd:Tm->Int->Int->(Tm×Int->OS S)->OS S} {i d:Int} {t:Tm}
theorem aaq (hk:Fu k) (A:0<=i/\i<24) (B:0<=d/\d<4611686018427386000) (q:q7 t) (I:LC×Int->OS S): ∃z:LC×Int,B1 z=(if t.k=14 then (j0 fun d f=>uc (i+d) f) d t.r else (j0 fun d f=>uc (i+d) f) d t.r)/\yH k t d i I=I z:=by
 have x:=q.no.1
 simp only [yH,ag hk,Rl hk A (show 0<=d/\d<4611686018427387000 by omega) x]
 by_cases h:t.k=14
 ·rw [h,if_pos rfl,show ((14:Int)==14)=true from rfl,ae]
  exact ⟨_,rfl,rfl⟩
 ·rw [if_neg h,show (t.k==14)=false from by grind,n3]
  exact ⟨_,rfl,rfl⟩
theorem aan (hk:Fu k) (I:LT×Int->OS S) (B:0<=d/\d<4611686018427386000) (E: ∀y∈t.c,∀b,0<=b/\b<=1-> ∀g,hd y (d+b) i g=g (tE (ua (j0 fun d f=>uc (i+d) f) (j0 fun d f=>uc (i+d) f) (d+b) y))) (hl:t.c.length<1073741824):
  ∀ (q p:LT) (m:Nat) (acc:LT),t.c=p++q->q.length<m->acc.length=p.length->
  lV hd k I i t t.c d m acc (p.length:Int)=eE (aig (j0 fun d f=>uc (i+d) f) (j0 fun d f=>uc (i+d) f) d t.k p.length q) (fun l=>I (acc++l,0)) fun e=>I ([],e):=by
 intro q
 induction q with
 |nil=>
  grind [py,lV,wP,n3,aig,aP]
 |cons y q F=>
  intro p m acc h J ha
  obtain ⟨m,rfl,x⟩:=py J
  obtain ⟨L,M,O,T⟩:=qH h (by omega)
  have W:p.length<t.c.length:=by grind
  have A:=gr t.k p.length
  have Y:=E y (by grind) (bJ t.k p.length) A
  simp only [lV,wP,L,ae,M,ql,ag hk,tG,jE,ar,uY (n:=d+bJ t.k p.length) (by omega) (by omega),Y]
  refine po (kr (β:=Unit) _ (fun e he=>jK mo mo y he) (fun z=>oa (aw 1099511627776 acc.length [z].length) fun _=>lV hd k I i t t.c d m (acc++[z]) (ot .i64 ((p.length:Int)+1))) fun e=>I ([],e)) ?_
  simp only [aig,AS,aP]
  refine Dc (fun t' ad=> ?_) fun e _=>rfl
  rw [J5 (by grind),O,F (p++[y]) m (acc++[t']) T x (by grind),show (p++[y]).length=p.length+1 by simp]
  simp
theorem aao (hk:Fu k) (I:LT×Int->OS S) {x:Br Tm} {kd:Int} (B:0<=d/\d<4611686018427386000) (E: ∀y∈x.c,∀g,hd y (d+av kd) i g=g (tE (ua (j0 fun d f=>uc (i+d) f) (j0 fun d f=>uc (i+d) f) (d+av kd) y))) (hl:x.c.length<1073741824):
  ∀ (q p:LT) (m:Nat) (acc:LT),x.c=p++q->q.length<m->acc.length=p.length->
  lU hd k I i (av kd) x.c d m acc (p.length:Int)=eE (xz (j0 fun d f=>uc (i+d) f) (j0 fun d f=>uc (i+d) f) d kd q) (fun l=>I (acc++l,0)) fun e=>I ([],e):=by
 have F:=KW kd
 intro q
 induction q with
 |nil=>
  grind [py,lU,wO,n3,xz,aP]
 |cons y q J=>
  intro p m acc h L ha
  obtain ⟨m,rfl,A⟩:=py L
  obtain ⟨M,O,T,W⟩:=qH h (by omega)
  have Y:p.length<x.c.length:=by grind
  have hy:=E y (by grind)
  simp only [lU,wO,M,ae,O,ql,ag hk,tH,ar,uY (n:=d+av kd) (by omega) (by omega),hy]
  refine po (kr (β:=Unit) _ (fun e he=>jK mo mo y he) (fun z=>oa (aw 1099511627776 acc.length [z].length) fun _=>lU hd k I i (av kd) x.c d m (acc++[z]) (ot .i64 ((p.length:Int)+1))) fun e=>I ([],e)) ?_
  simp only [xz,AS,aP]
  refine Dc (fun t' ad=> ?_) fun e _=>rfl
  rw [J5 (by grind),T,J (p++[y]) m (acc++[t']) W A (by grind)]
  simp
theorem aap (hk:Fu k) (I:Tm×Int->OS S) (hi:0<=i/\i<24) (J:0<=d/\d<4611686018427386000) {r1:LC×Int} {r2:LT×Int} (Y:pr t) (L:q7 t) (hQ: ∀b∈t.s,∀y∈b.c,∀g,hd y (d+av t.k) i g=g (tE (ua (j0 fun d f=>uc (i+d) f) (j0 fun d f=>uc (i+d) f) (d+av t.k) y))):
  ∀ (B p:LB) (m:Nat) (o:LB),t.s=p++B->B.length<m->o.length<=p.length->
  LX hd k I i t r1 r2 d m (av t.k) o (p.length:Int)=eE (uD (j0 fun d f=>uc (i+d) f) (j0 fun d f=>uc (i+d) f) d t.k B) (fun s=>I (.mk t.k t.n t.name r1.1 r2.1 (o++s),0)) fun e=>I (ou,e):=by
 obtain ⟨o1,o2,o3,o4,o5,o6,o7⟩:=Y.no
 intro B
 induction B with
 |nil=>
  grind [py,LX,wT,n3,uD,aP]
 |cons x B ih=>
  intro p m o h M ho
  obtain ⟨m,rfl,E⟩:=py M
  obtain ⟨e1,e2,e3,e4⟩:=qH h (by omega)
  have O:x∈t.s:=by grind
  have ad:p.length<t.s.length:=by grind
  have hb:=(Y.bi O).1
  have T:=(L.bi O).1
  have hM:=fun g:LT×Int->OS S=>aao (kd:=t.k) hk g J (hQ x O) hb.2.2 x.c [] k [] rfl (by omega) rfl
  have hM: ∀g:LT×Int->OS S,lU hd k g i (av t.k) x.c d k [] 0=_:=hM
  simp only [LX,wT,e1,ae,e2,ql,ag hk,Rl hk hi (show 0<=d/\d<4611686018427387000 by omega) T,DI,Hz,hM,e3,zg]
  have W:=fun q:LC=>AM (β:=OS S) (γ:=Unit) (xz (j0 fun d f=>uc (i+d) f) (j0 fun d f=>uc (i+d) f) d t.k x.c) (fun e he=>Uh mo mo he) [] (fun l=>oa (aw 1099511627776 o.length [Br.mk q l].length) fun _=>LX hd k I i t r1 r2 d m (av t.k) (o++[Br.mk q l]) (((p++[x]).length:Nat):Int)) fun e=>I (ou,e)
  refine po (wx (z:=(uc (i+d) x.f,(0:Int))) (fun q=>ab (((q.length:Nat):Int)==0) (LX hd k I i t r1 r2 d m (av t.k) o (((p++[x]).length:Nat):Int)) (eE (xz (j0 fun d f=>uc (i+d) f) (j0 fun d f=>uc (i+d) f) d t.k x.c) (fun l=>(fun A:LT×Int=>ab (!(A.2==0)) (I (ou,A.2)) (oa (aw 1099511627776 o.length [Br.mk q A.1].length) fun _=>LX hd k I i t r1 r2 d m (av t.k) (o++[Br.mk q A.1]) (((p++[x]).length:Nat):Int))) (l,0)) fun e=>(fun A:LT×Int=>ab (!(A.2==0)) (I (ou,A.2)) (oa (aw 1099511627776 o.length [Br.mk q A.1].length) fun _=>LX hd k I i t r1 r2 d m (av t.k) (o++[Br.mk q A.1]) (((p++[x]).length:Nat):Int))) ([],e))) fun e=>I (ou,e)) ?_
  rw [show B1 (uc (i+d) x.f,(0:Int))=(j0 fun d f=>uc (i+d) f) d x.f from rfl]
  rw [uD,B3,AS,AS]
  refine Dc (fun q ao=> ?_) fun e _=>rfl
  rw [qY,aY]
  by_cases F:q.length=0
  ·rw [if_pos F,if_pos F,aP,AS,ih (p++[x]) m o e4 E (by grind)]
   rfl
  ·rw [if_neg F,if_neg F,W q,AS]
   refine Dc (fun l hl=> ?_) fun e _=>rfl
   rw [aP,AS,J5 (by grind),ih (p++[x]) m (o++[Br.mk q l]) e4 E (by grind)]
   grind [aP]
end
theorem aar {i:Int} (W:0<=i/\i<24) (t:Tm):pr t->q7 t-> ∀ {k:Nat} {d:Int} (I:Tm×Int->OS S),Fd k (am t)->0<=d->d+am t<4611686018427386000->dT k t d i I=I (tE (ua (j0 fun d f=>uc (i+d) f) (j0 fun d f=>uc (i+d) f) d t)):=by
 induction t using c7 with
 |h t M O=>
  intro F A k d I hk hv ad
  obtain ⟨q,rfl,J,hf⟩:=hk.pos' (HE t)
  have hp:=HE t
  have B:0<=d/\d<4611686018427386000:=by omega
  obtain ⟨o1,o2,o3,o4,o5,o6,o7⟩:=F.no
  have ao:=KW t.k
  have hQ: ∀y∈t.c,∀b,0<=b/\b<=1-> ∀g:Tm×Int->OS S,dT q y (d+b) i g=g (tE (ua (j0 fun d f=>uc (i+d) f) (j0 fun d f=>uc (i+d) f) (d+b) y)):=fun y x b h2 g=>
   M y x (F.ki x) (A.ki x) g (hf _ (bY x)) (by omega) (by have:=bY x;omega)
  have T: ∀b∈t.s,∀y∈b.c,∀g:Tm×Int->OS S,dT q y (d+av t.k) i g=g (tE (ua (j0 fun d f=>uc (i+d) f) (j0 fun d f=>uc (i+d) f) (d+av t.k) y)):=fun b hb y x g=>
   O b hb y x ((F.bi hb).2 y x) ((A.bi hb).2 y x) g (hf _ (b8 hb x)) (by omega) (by have:=b8 hb x;omega)
  have hK: ∀g:LT×Int->OS S,lV (dT q) q g i t t.c d q [] 0=_:=fun g=>aan J g B hQ o6 t.c [] q [] rfl (by omega) rfl
  have Y:=fun (r1:LC×Int) (r2:LT×Int)=>aap (r1:=r1) (r2:=r2) J I W B F A T t.s [] q [] rfl (by omega) (xt _)
  have Y: ∀ (r1:LC×Int) (r2:LT×Int),LX (dT q) q I i t r1 r2 d q (av t.k) [] 0=_:=Y
  have E: ∀ (r1:LC×Int) (r2:LT×Int),ab (t.k==15) (LX (dT q) q I i t r1 r2 d q 1 [] 0) (LX (dT q) q I i t r1 r2 d q 0 [] 0)=eE (uD (j0 fun d f=>uc (i+d) f) (j0 fun d f=>uc (i+d) f) d t.k t.s) (fun s=>I (.mk t.k t.n t.name r1.1 r2.1 s,0)) fun e=>I (ou,e):=by
   grind [cH,av]
  obtain ⟨z,hz,p9⟩:=aaq J W B A (fun r1=>ab (!(r1.2==0)) (I (ou,r1.2)) (eE (aig (j0 fun d f=>uc (i+d) f) (j0 fun d f=>uc (i+d) f) d t.k 0 t.c) (fun l=>(fun r2:LT×Int=>ab (!(r2.2==0)) (I (ou,r2.2)) (eE (uD (j0 fun d f=>uc (i+d) f) (j0 fun d f=>uc (i+d) f) d t.k t.s) (fun s=>I (.mk t.k t.n t.name r1.1 r2.1 s,0)) fun e=>I (ou,e))) (l,0)) fun e=>(fun r2:LT×Int=>ab (!(r2.2==0)) (I (ou,r2.2)) (eE (uD (j0 fun d f=>uc (i+d) f) (j0 fun d f=>uc (i+d) f) d t.k t.s) (fun s=>I (.mk t.k t.n t.name r1.1 r2.1 s,0)) fun e=>I (ou,e))) ([],e)))
  simp only [dT,HG,ag J,ar,DJ,HA,hK,E,zg,List.length_nil]
  refine po p9 ?_
  rw [I0 _ I,B4,<-hz]
  refine po (wx (z:=z) (fun L=>eE (aig (j0 fun d f=>uc (i+d) f) (j0 fun d f=>uc (i+d) f) d t.k 0 t.c) (fun l=>(fun r2:LT×Int=>ab (!(r2.2==0)) (I (ou,r2.2)) (eE (uD (j0 fun d f=>uc (i+d) f) (j0 fun d f=>uc (i+d) f) d t.k t.s) (fun s=>I (.mk t.k t.n t.name L r2.1 s,0)) fun e=>I (ou,e))) (l,0)) fun e=>(fun r2:LT×Int=>ab (!(r2.2==0)) (I (ou,r2.2)) (eE (uD (j0 fun d f=>uc (i+d) f) (j0 fun d f=>uc (i+d) f) d t.k t.s) (fun s=>I (.mk t.k t.n t.name L r2.1 s,0)) fun e=>I (ou,e))) ([],e)) fun e=>I (ou,e)) ?_
  rw [AS]
  refine Dc (fun L _=> ?_) fun e _=>rfl
  refine po (AM (β:=OS S) (γ:=Unit) (aig (j0 fun d f=>uc (i+d) f) (j0 fun d f=>uc (i+d) f) d t.k 0 t.c) (fun e he=>Ug mo mo he) [] (fun l=>eE (uD (j0 fun d f=>uc (i+d) f) (j0 fun d f=>uc (i+d) f) d t.k t.s) (fun s=>I (.mk t.k t.n t.name L l s,0)) fun e=>I (ou,e)) fun e=>I (ou,e)) ?_
  simp only [AS,aP]
def yw (i:Int):Int->LC->LC:=fun d f=>uc (i+d) f
def eB (i:Int) (r:LC) (fa:Bool):dC:=Ey (tb i r fa) (yw i)
theorem uz (i:Int) (r:LC) (fa:Bool) (d:Int) (f:LC):eB i r fa d f=bE (tb i r fa d f) fun m=> .ok (uc (i+d) m):=rfl
theorem pR {i:Int} {r:LC} {fa:Bool}: ∀d f e,eB i r fa d f= .error e->0<e/\e<=1000:=fun d f e h=>by
 rw [uz] at h
 rcases be h with h|⟨_,_,h⟩
 ·exact Bu h
 simp_all
section
variable {hd:Tm->Int->LC->Int->Bool->(Tm->OS S)->OS S} {i d:Int} {r:LC} {t:Tm}
end
def zx (i:Int) (r:LC) (t:Tm):Except Int Tm:=bE (B1 (td r i 1)) fun s=>ua (eB i s false) (eB i s true) 0 t
theorem fL {i:Int} {r:LC} {t:Tm} {e:Int} (h:zx i r t= .error e):0<e/\e<=1000:=by
 rcases be h with h|⟨s,_,h⟩
 ·grind [hi,q_,EN]
 ·exact jK pR pR t h
theorem TZ {i:Int} {r:LC} {t y:Tm} (h:zx i r t= .ok y):y.k=t.k:=by
 obtain ⟨s,_,h⟩:=i8 h
 exact Ja h
theorem Ra (hk:F3 k) {t:Tm} (q:Fm t) {i:Int} (B:0<=i/\i<24) {r:LC} (z:RF r) (I:Tm×Int->OS S):m_ k t i r I=I (tE (zx i r t)):=by
 have Y:=z.len
 have M:=q.dep
 simp only [m_,ag hk.fu,ar,DM,Ah q.ok (q.fd hk) (show am t<1099511627776 by omega),q.2,ai7 hk.fu,rH hk.fu z.2 z.lt,z.right,decide_eq_true B,vX hk.fu z.2 (show r.length<1073741824 by omega) (show aG i by unfold aG;omega) (show aG 1 by unfold aG;omega),DF,DG,DH,DE]
 rw [show ((0:Int)==0)=true from rfl,va,n3,n3,n3,n3]
 rw [I0 _ I]
 unfold zx
 rw [AS]
 by_cases A:(td r i 1).2=0
 ·have hs:=kQ A
  rw [bG,decide_eq_true A,va,n3,jF A,aP,ahW B hs t q.ok q.rows _ (q.fd hk) (by omega) (by omega)]
  refine po (kr (α:=OS S) (β:=Unit) _ (fun e he=>jK jD jD t he) (fun x=>dT k x 0 i fun L=>I (L.1,L.2)) fun e=>I (ou,e)) ?_
  have E:=alm (fo:=tb i (td r i 1).1 false) (fa:=tb i (td r i 1).1 true) (G:=yw i) (fun d f g hf h=>rB hf h) (fun d f hf=>JE hf) t 0 q.rows
  show _=eE (ua (Ey (tb i (td r i 1).1 false) (yw i)) (Ey (tb i (td r i 1).1 true) (yw i)) 0 t) _ _
  rw [<-E,AS]
  refine Dc (fun x O=> ?_) fun e _=>rfl
  have T:=Uj (fun d f g hf h=>rB hf h) (fun d f g hf h=>rB hf h) (fun d=>QI) t 0 x O
  obtain ⟨w1,w2,w3,W⟩:=T
  obtain ⟨F,J⟩:=W q.ok q.rows
  rw [aar B x F J _ (hk.fd (by omega)) (by omega) (by omega)]
  exact I0 _ I
 ·rw [bG,decide_eq_false A,sV,ae,iO A];rfl
def In (k:Nat) (t:Tm):Prop:=pr t/\Fd k (am t)/\au t<1099511627776
theorem In.dep {t:Tm} (h:In k t):am t<1099511627776:=by have:=zG t;have:=h.2.2;omega
theorem Fm.isIn {t:Tm} (h:Fm t) (hk:F3 k):In k t:=⟨h.ok,h.fd hk,by have:=h.dP;omega⟩
def xv:LT->Int
 |[]=>0
 |t::l=>if bw t=0 then xv l else bw t
theorem Sg {l:LT} (hl: ∀t∈l,pr t) (h:xv l=0): ∀t∈l,Fm t:=by
 induction l with
 |nil=>simp
 |cons x l z=>
  intro t ht
  unfold xv at h
  split at h
  ·next q=>
   rcases xF.1 ht with rfl|ht
   ·exact ⟨hl _ (by simp),q⟩
   grind
  omega
theorem aki (l:LT):0<=xv l/\xv l<=1000:=by
 induction l with
 |nil=>grind [xv]
 |cons x l q=>
  unfold xv
  split<;>simp_all [Et]
theorem rI (c e:Int) (I:Int->OS S):iZ k e c I=I (if c=0 then e else c):=by
 grind [iZ,aY]
theorem aem (hk:Fu k) (I:Int->OS S) {l:LT} (hl: ∀t∈l,In k t) (hlen:l.length<1000):
  ∀ (r p:LT) (m:Nat) (b:Int),l=p++r->r.length<m->pY k I l m b (p.length:Int)=I (if b=0 then xv r else b):=by
 intro r
 induction r with
 |nil=>
  grind [py,pY,wL,n3,xv]
 |cons x r A=>
  intro p m b h B
  obtain ⟨m,rfl,q⟩:=py B
  obtain ⟨E,F,J,L⟩:=qH h (by omega)
  have z:=hl x (by grind)
  simp only [pY,wL,E,ae,F,ql,ag hk,ar,Ah z.1 z.2.1 z.dep,rI,J,A (p++[x]) m _ L q,xv]
  grind
theorem Re (hk:F3 k) {l:LT} (hl: ∀t∈l,In k t) (hlen:l.length<1000) (I:Int->OS S):m9 k l I=I (xv l):=by
 simp only [m9,Hs]
 have:=aem hk.fu I hl hlen l [] k 0 rfl (by omega)
 simp_all
def di (r:LC) (line:Tm):Except Int Tm:=bE (uC 0 2 0 1 line) (zx 0 r)
theorem li {r:LC} {t:Tm} {e:Int} (h:di r t= .error e):0<e/\e<=1000:=by
 rcases be h with h|⟨s,_,h⟩
 ·exact MW t h
 ·exact fL h
theorem acW {i:Int} {r:LC} {fa:Bool} {d:Int} {f g:LC} (hf:RF f) (h:eB i r fa d f= .ok g):RF g:=by
 rw [uz] at h
 obtain ⟨m,h1,h⟩:=i8 h
 injection h with h;subst h
 exact aad (rB hf h1).len
theorem acV {i:Int} {r:LC} {fa:Bool} (d:Int):eB i r fa d []= .ok []:=by
 rw [uz,QI,aD];rfl
theorem T0 {i:Int} {r:LC} {t y:Tm} (h:zx i r t= .ok y):Wk t y:=by
 obtain ⟨s,_,h⟩:=i8 h
 grind [Uj,acW,acV]
theorem Jo {r:LC} {t y:Tm} (q:Fm t) (h:di r t= .ok y):pr y/\q7 y/\am y<=200/\au y<=20000:=by
 obtain ⟨s,h1,h⟩:=i8 h
 have hs:=jr (by omega) q h1
 obtain ⟨z,A,B,x⟩:=T0 h
 have E:=x hs.ok hs.rows
 have:=hs.dep;have:=hs.dP
 grind
section
variable {c:Int}
theorem aIy (hc:c≠0) (hk:F3 k) (f:LC) (I:LC×Int->OS S):tA k f c I=I ([],c):=by
 simp only [tA,ag hk.fu,de,bG,decide_eq_false hc,sV,ae]
theorem aDb (hc:c≠0) (hk:F3 k) (f g:LC) (I:LC×Int->OS S):RA k f g c I=I ([],c):=by
 simp only [RA,ag hk.fu,de,bG,decide_eq_false hc,sV,ae]
theorem w1 (hc:c≠0) (hk:F3 k) (l:Tm) (r:LC) (I:Tm×Int->OS S):lr k l r c I=I (ou,c):=by
 simp only [lr,ag hk.fu,de,bG,decide_eq_false hc,sV,ae];rfl
theorem Hh (hc:c≠0) (hk:F3 k) (l:Tm) (a b:Int) (I:Tm×Int->OS S):Bw k l a b c I=I (ou,c):=by
 simp only [Bw,ag hk.fu,de,bG,decide_eq_false hc,sV,ae];rfl
theorem rG (hc:c≠0) (hk:F3 k) (l:Tm) (I:Tm×Int×Int->OS S):eQ k l c I=I (ou,c,c):=by
 simp only [eQ,ag hk.fu,de,bG,decide_eq_false hc,sV,ae,n3];rfl
end
theorem ajX (hk:F3 k) {f:LC} (hf:aq f) (hl:f.length<1073741824) (I:LC×Int->OS S):tA k f 0 I=I (td f 0 1):=by
 simp only [tA,ag hk.fu,de,vX hk.fu hf hl (show aG 0 by unfold aG;omega) (show aG 1 by unfold aG;omega),rI,if_true]
 rfl
theorem aIx (hk:F3 k) {f g:LC} (hf:aq f) (q:aq g) (h1:f.length<1073741824) (h2:g.length<1073741824) (I:LC×Int->OS S):RA k f g 0 I=I (EQ f g):=by
 simp only [RA,ag hk.fu,de,aH8 hk.fu hf q h1 h2,rI,if_true]
 rfl
theorem RW (hk:F3 k) {t:Tm} (q:Fm t) {a b:Int} (ha:0<=a/\a<=1000000) (hb:0<=b/\b<9223372036854775808) (I:Tm×Int->OS S):Bw k t a b 0 I=I (tE (J6 a b t)):=by
 simp only [Bw,ag hk.fu,de,ar,He hk q ha hb,rI,if_true]
 rfl
theorem Rd (hk:F3 k) {t:Tm} (q:Fm t) {r:LC} (A:RF r) (I:Tm×Int->OS S):lr k t r 0 I=I (tE (di r t)):=by
 simp only [lr,ag hk.fu,de,ar,Rr hk q (show (0:Int)<=1/\(1:Int)<=24 by omega) (show (0:Int)<=2/\(2:Int)<9223372036854775808 by omega),rI,if_true]
 rw [show ((0:Int)==0)=true from rfl,va,n3,I0 _ I]
 unfold di
 rw [AS]
 cases x:uC 0 2 0 1 t with
 |error e=>
  have:=MW t x
  show ab (!(e==0)) (I (ou,e)) _=_
  rw [bG,decide_eq_false (by omega),sV,ae];rfl
 |ok y=>
  have B:=jr (by omega) q x
  show ab (!((0:Int)==0)) _ (m_ k y 0 r fun z=>I (z.1,if (0:Int)=0 then z.2 else 0))=_
  simp_all [n3,Ra,aP,I0]
theorem ai9 (hk:F3 k) {t:Tm} (q:In k t) (I:Tm×Int×Int->OS S):eQ k t 0 I=I (if bw t=0 then (t,0,0) else (ou,bw t,bw t)):=by
 simp only [eQ,ag hk.fu,de,ar,Ah q.1 q.2.1 q.dep,rI,if_true]
 rw [show ((0:Int)==0)=true from rfl,ae,bG]
 by_cases x:bw t=0
 ·grind [n3]
 ·rw [decide_eq_false x,if_neg x,sV,ae];rfl
def B0 (line:Tm) (oe:LC) (a:Tm) (en:Cl) (r:LC):Except Int Tm:=
 bE (B1 (td oe 0 1)) fun f1=>bE (B1 (EQ f1 [en])) fun f=>bE (di r line) fun l=>bE (J6 0 1 a) fun a'=> .ok (.mk 14 0 pf f [l,a'] [])
def FB (x:Except Int Tm):Except Int Tm:=bE x fun t=>if bw t=0 then .ok t else .error (bw t)
def FF (line:Tm) (oe:LC) (a:Tm) (en:Cl) (r:LC):Except Int Tm:=
 if xv [line,a]=0 then if cV oe then FB (B0 line oe a en r) else .error 2 else .error (xv [line,a])
theorem aGg (f g:LC):EN (EQ f g).2:=by
 grind [EQ,ES,lO]
theorem aGh {f g:LC} (hf:aq f) (q:aq g) (h:(EQ f g).2=0):zo (EQ f g).1:=by
 grind [EQ,Af,oB]
theorem T2 {z:LC×Int} (q:EN z.2) {e:Int} (h:B1 z= .error e):0<e/\e<=1000:=by
 grind [hi,EN]
theorem aES {line:Tm} {oe:LC} {a:Tm} {en:Cl} {r:LC} {e:Int} (h:B0 line oe a en r= .error e):0<e/\e<=1000:=by
 rcases be h with h|⟨_,_,h⟩
 ·exact T2 (q_ _ _ _) h
 rcases be h with h|⟨_,_,h⟩
 ·exact T2 (aGg _ _) h
 rcases be h with h|⟨_,_,h⟩
 ·exact li h
 rcases be h with h|⟨_,_,h⟩
 ·exact xH h
 simp_all
theorem aAH (hk:F3 k) {line:Tm} {oe:LC} {a:Tm} {en:Cl} {r:LC} (hl:Fm line) (ha:Fm a) (hp:RF oe) (he:aX en) {t:Tm} (h:B0 line oe a en r= .ok t):In k t/\t.k=14:=by
 obtain ⟨f1,h1,h⟩:=i8 h
 obtain ⟨f,h2,h⟩:=i8 h
 obtain ⟨l,z,h⟩:=i8 h
 obtain ⟨a',A,h⟩:=i8 h
 injection h with h;subst h
 obtain ⟨g1,rfl⟩:=rR h1
 obtain ⟨g2,rfl⟩:=rR h2
 have x:=kQ g1
 have hf:=(aGh x.2 (fun c hc=>by grind) g2).1
 obtain ⟨B,E,F,I⟩:=Jo hl z
 have q:=mD (by omega) ha A
 have:=hf.len;have:=q.dep;have:=q.dP
 refine ⟨⟨?_,hk.fd ?_, ?_⟩,rfl⟩
 ·rw [pr,aZ,aZ,aZ,ba]
  refine ⟨⟨by unfold aG;omega,by unfold aG;omega,by simp,hf.2,by omega,by simp,by simp⟩,⟨B,q.ok,trivial⟩,trivial⟩
 all_goals grind [am,aH,aO,au,ay,aI]
theorem aC6 (hk:F3 k) {line a:Tm} {oe r:LC} {en:Cl} (hl:In k line) (ha:In k a) (hp:aq oe) (M:oe.length<1073741824) (he:aX en) (hr:RF r) (I:Tm×Int->OS S):n1 k line oe a en r I=I (tE (FF line oe a en r)):=by
 have x: ∀t∈[line,a],In k t:=fun t ht=>by
  grind
 have O:aq [en]:=fun c hc=>by grind
 have bad: ∀c:Int,c≠0->(tA k oe c fun r4=>RA k r4.1 [en] r4.2 fun r5=>lr k line r r5.2 fun r6=>Bw k a 0 1 r6.2 fun r7=>
   wv k 14 [r6.1,r7.1] fun J=>eQ k (Tm.mk J.1 J.2.1 J.2.2.1 r5.1 J.2.2.2 []) r7.2 fun r9=>I (r9.1,r9.2.1))=I (ou,c):=by
  simp_all [wv,aIy,aDb,w1,Hh,rG]
 simp only [n1,ag hk.fu,ar,Re hk x (by simp),Hb hk.fu hp (show oe.length<2147483648 by omega),rI]
 unfold FF
 by_cases z:xv [line,a]=0
 ·simp only [z,if_true]
  have A:=Sg (fun t ht=>(x t ht).1) z
  have B:=A line (by simp)
  have E:=A a (by simp)
  cases T:cV oe with
  |false=>
   rw [sV,ae,if_neg (show ¬ (false=true) by decide)]
   exact bad 2 (by decide)
  |true=>
   have W:=(oB hp).1 T
   rw [va,n3,if_pos (show true=true from rfl),ajX hk hp M,I0 _ I]
   unfold FB
   rw [AS]
   have q: ∀t,B0 line oe a en r= .ok t->In k t:=fun t h=>(aAH hk B E W.1 he h).1
   revert q
   unfold B0
   intro q
   by_cases h1:(td oe 0 1).2=0
   ·have F:=kQ h1
    have Y:=F.len
    rw [jF h1,aD] at q ⊢
    rw [h1,aIx hk F.2 O (by omega) (by simp)]
    by_cases h2:(EQ (td oe 0 1).1 [en]).2=0
    ·rw [jF h2,aD] at q ⊢
     rw [h2,Rd hk B hr]
     cases h3:di r line with
     |error e=>
      have hc:=(li h3).1
      show Bw k a 0 1 e _=I (ou,e)
      grind [wv,Hh,rG]
     |ok l=>
      rw [h3,aD] at q
      show Bw k a 0 1 0 _=_
      rw [RW hk E (by omega) (by omega),aD]
      cases h4:J6 0 1 a with
      |error e=>
       have hc:=(xH h4).1
       show wv k 14 _ _=I (ou,e)
       simp only [wv]
       show eQ k _ e _=_
       grind [rG]
      |ok a'=>
       rw [h4,aD] at q
       show wv k 14 _ _=_
       simp only [wv]
       show eQ k (Tm.mk 14 0 pf (EQ (td oe 0 1).1 [en]).1 [l,a'] []) 0 _=_
       rw [ai9 hk (q _ rfl),aD,aP]
       by_cases L:bw (Tm.mk 14 0 pf (EQ (td oe 0 1).1 [en]).1 [l,a'] [])=0
       ·rw [if_pos L,if_pos L];rfl
       ·rw [if_neg L,if_neg L];rfl
    ·rw [iO h2]
     show _=I (ou,(EQ (td oe 0 1).1 [en]).2)
     grind [wv,w1,Hh,rG]
   ·rw [iO h1]
    show _=I (ou,(td oe 0 1).2)
    simp_all [wv,aDb,w1,Hh,rG]
 ·simp only [if_neg z]
  cases cV oe with
  |false=>rw [sV,ae];exact bad _ z
  |true=>rw [va,n3];exact bad _ z
theorem QD:RF [⟨3,0⟩]:=gS ⟨⟨by decide,by decide⟩,by decide,by decide⟩
theorem aC4:RF [⟨0,1⟩,⟨2,0⟩]:=by
 refine ⟨by rfl,fun c hc=> ?_⟩
 simp only [xF,List.not_mem_nil,or_false] at hc
 rcases hc with rfl|rfl
 ·exact ⟨⟨by decide,by decide⟩,by decide,by decide⟩
 ·exact ⟨⟨by decide,by decide⟩,by decide,by decide⟩
theorem ag0:aX ⟨0,1⟩:=⟨⟨by decide,by decide⟩,by decide,by decide⟩
theorem ag1:aX ⟨1,0⟩:=⟨⟨by decide,by decide⟩,by decide,by decide⟩
theorem aHV (hk:F3 k) {line a:Tm} {oe:LC} (hl:In k line) (ha:In k a) (hp:aq oe) (q:oe.length<1073741824) (I:Tm×Int->OS S):bf k line oe a I=I (tE (FF line oe a ⟨0,1⟩ [⟨3,0⟩])):=by
 grind [bf,ar,ag,aC6,ag0,QD]
theorem aHR (hk:F3 k) {line a:Tm} {oe:LC} (hl:In k line) (ha:In k a) (hp:aq oe) (q:oe.length<1073741824) (I:Tm×Int->OS S):xx k line oe a I=I (tE (FF line oe a ⟨1,0⟩ [⟨0,1⟩,⟨2,0⟩])):=by
 grind [xx,ar,ag,aC6,ag1,aC4]
theorem agT:pr ou:=by
 unfold ou
 rw [pr,aZ,ba]
 exact ⟨⟨by unfold aG;omega,by unfold aG;omega,by simp,fun c hc=>(by cases hc),by simp,by simp,by simp⟩,trivial,trivial⟩
theorem gQ (hk:F3 k):In k ou:=⟨agT,hk.fd (by grind [ou,am,aH,aO]),by grind [ou,au,ay,aI]⟩
theorem Hl (t:Tm):au t=1+ay t.c+aI t.s:=by cases t;rfl
def sx (ov w:Int) (n:Nat):Prop:=1<=w/\w<=2*ov+1/\(w<=ov->(n:Int)<=w)
def Mo (ov:Int):Prop:=0<=ov/\ov<=1000
section
variable {hd:Tm->Int->(Int->OS S)->OS S} {t:Tm}
theorem aGM (hk:Fu k) (I:Int->OS S) (q:Int->Int->OS S) {v ov:Int} (B:Mo ov) {x:Br Tm} (hv:af t.s v=some x) (F: ∀y∈x.c,∀n,Mo n-> ∀g,∃w,hd y n g=g w/\sx n w (au y)) (hl:x.c.length<1073741824):
  ∀ (r p:LT) (m:Nat) (a:Int),x.c=p++r->r.length<m->1<=a->a<=2*ov+1-> ∃w,kA hd k I q t ov v m a (p.length:Int)=q w (ot .i64 (v+1))/\a<=w/\w<=2*ov+1/\(w<=ov->a+(ay r:Int)<=w):=by
 obtain ⟨J,L⟩:=B
 intro r
 induction r with
 |nil=>
  intro p m a h E ha z
  obtain ⟨m,rfl,A⟩:=py E
  exact ⟨a,by grind [kA,xL,n3],Int.le_refl _,z,fun _=>by rw [ay];simp⟩
 |cons y r M=>
  intro p m a h E ha z
  obtain ⟨m,rfl,A⟩:=py E
  obtain ⟨O,T,W,Y⟩:=qH h (by omega)
  simp only [kA,xL,hv,O,ae,T,ql,ar,W]
  by_cases hc:a<=ov
  ·rw [decide_eq_true hc,ae,uY (show-9223372036854775808<=ov-a by omega) (by omega)]
   obtain ⟨w,hw,w1,w2,w3⟩:=F y (by grind) (ov-a) ⟨by omega,by omega⟩ (fun r8=>kA hd k I q t ov v m (ot .i64 (a+r8)) (((p++[y]).length:Nat):Int))
   rw [hw,uY (show-9223372036854775808<=a+w by omega) (by omega)]
   obtain ⟨u,hu,u1,u2,u3⟩:=M (p++[y]) m (a+w) Y A (by omega) (by omega)
   exact ⟨u,hu,by omega,u2,fun hle=>by grind [ay]⟩
  grind [n3]
theorem aGL (hk:Fu k) (I:Int->OS S) {ov:Int} (q:Mo ov) (O: ∀b∈t.s,∀y∈b.c,∀n,Mo n-> ∀g,∃w,hd y n g=g w/\sx n w (au y)) (F:pr t):
  ∀ (r p:LB) (m:Nat) (a:Int),t.s=p++r->r.length<m->1<=a->a<=2*ov+1-> ∃w,jl hd k I t ov m a (p.length:Int)=I w/\a<=w/\w<=2*ov+1/\(w<=ov->a+(aI r:Int)<=w):=by
 obtain ⟨o1,o2,o3,o4,o5,o6,o7⟩:=F.no
 have T:=q.1
 have W:=q.2
 intro r
 induction r with
 |nil=>
  intro p m a h B ha z
  obtain ⟨m,rfl,A⟩:=py B
  exact ⟨a,by grind [jl,sS,n3],Int.le_refl _,z,fun _=>by rw [aI];simp⟩
 |cons x r Y=>
  intro p m a h B ha z
  obtain ⟨m,rfl,A⟩:=py B
  obtain ⟨e1,J,L,e4⟩:=qH h (by omega)
  have M:x∈t.s:=by grind
  have hb:=(F.bi M).1
  simp only [jl,sS,e1,ae,J,ql,L]
  by_cases hc:a<=ov
  ·rw [decide_eq_true hc,ae]
   by_cases hf:((x.f.length:Nat):Int)>ov
   ·grind [ae,uY]
   ·rw [decide_eq_false hf,n3,uY (show-9223372036854775808<=a+1 by omega) (by omega),uY (show-9223372036854775808<=a+1+((x.f.length:Nat):Int) by omega) (by omega)]
    obtain ⟨w,E,w1,w2,w3⟩:=aGM (t:=t) (ov:=ov) hk I (jl hd k I t ov m) q J (O x M) hb.2.2 x.c [] k (a+1+((x.f.length:Nat):Int)) rfl (by omega) (by omega) (by omega)
    have E:kA hd k I (jl hd k I t ov m) t ov (p.length:Int) k (a+1+((x.f.length:Nat):Int)) 0=_:=E
    rw [E,L]
    obtain ⟨u,hu,u1,u2,u3⟩:=Y (p++[x]) m w e4 A (by omega) w2
    exact ⟨u,hu,by omega,u2,fun hle=>by grind [aI,kZ]⟩
  grind [n3]
theorem aGK (hk:Fu k) (I:Int->OS S) {ov:Int} (q:Mo ov) (B: ∀y∈t.c,∀n,Mo n-> ∀g,∃w,hd y n g=g w/\sx n w (au y)) (x: ∀b∈t.s,∀y∈b.c,∀n,Mo n-> ∀g,∃w,hd y n g=g w/\sx n w (au y)) (A:pr t):
  ∀ (r p:LT) (m:Nat) (a:Int),t.c=p++r->r.length<m->1<=a->a<=2*ov+1-> ∃w,nQ hd k I t ov m a (p.length:Int)=I w/\a<=w/\w<=2*ov+1/\(w<=ov->a+(ay r:Int)+(aI t.s:Int)<=w):=by
 obtain ⟨o1,o2,o3,o4,o5,o6,o7⟩:=A.no
 have E:=q.1
 have F:=q.2
 intro r
 have hs:=fun a=>aGL (ov:=ov) hk I q x A t.s [] k a rfl (by omega)
 induction r with
 |nil=>
  grind [py,nQ,ja,n3,ay]
 |cons y r J=>
  intro p m a h L ha M
  obtain ⟨m,rfl,z⟩:=py L
  obtain ⟨O,T,W,Y⟩:=qH h (by omega)
  simp only [nQ,ja,O,ae,T,ql,ar,W]
  by_cases hc:a<=ov
  ·rw [decide_eq_true hc,ae,uY (show-9223372036854775808<=ov-a by omega) (by omega)]
   obtain ⟨w,hw,w1,w2,w3⟩:=B y (by grind) (ov-a) ⟨by omega,by omega⟩ (fun r2=>nQ hd k I t ov m (ot .i64 (a+r2)) (((p++[y]).length:Nat):Int))
   rw [hw,uY (show-9223372036854775808<=a+w by omega) (by omega)]
   obtain ⟨u,hu,u1,u2,u3⟩:=J (p++[y]) m (a+w) Y z (by omega) (by omega)
   exact ⟨u,hu,by omega,u2,fun hle=>by grind [ay]⟩
  grind [n3]
end
theorem aDd (t:Tm):pr t-> ∀ {k:Nat} (ov:Int),Mo ov-> ∀ (I:Int->OS S),Fd k (am t)-> ∃w,gE k t ov I=I w/\sx ov w (au t):=by
 induction t using c7 with
 |h t B E=>
  intro A k ov x I hk
  have J:=x.1
  have L:=x.2
  obtain ⟨q,rfl,M,hf⟩:=hk.pos' (HE t)
  obtain ⟨o1,o2,o3,o4,o5,o6,o7⟩:=A.no
  have O: ∀y∈t.c,∀n,Mo n-> ∀ (g:Int->OS S),∃w,gE q y n g=g w/\sx n w (au y):=fun y z n hn g=>B y z (A.ki z) n hn g (hf _ (bY z))
  have F: ∀b∈t.s,∀y∈b.c,∀n,Mo n-> ∀ (g:Int->OS S),∃w,gE q y n g=g w/\sx n w (au y):=fun b hb y z n hn g=>E b hb y z ((A.bi hb).2 y z) n hn g (hf _ (b8 hb z))
  simp only [gE,Io]
  have out: ∃w,I (ot .i64 (ov+1))=I w/\sx ov w (au t):=⟨ov+1,by grind [uY],by omega,by omega,fun h=>by omega⟩
  by_cases T:((t.r.length:Nat):Int)>ov
  ·grind [ae]
  ·rw [decide_eq_false T,n3]
   by_cases hn:((t.name.size:Nat):Int)>ov
   ·grind [ae]
   ·rw [decide_eq_false hn,n3,uY (show-9223372036854775808<=1+((t.r.length:Nat):Int) by omega) (by omega),uY (show-9223372036854775808<=1+((t.r.length:Nat):Int)+((t.name.size:Nat):Int) by omega) (by omega)]
    obtain ⟨w,W,w1,Y,w3⟩:=aGK M I x O F A t.c [] q (1+((t.r.length:Nat):Int)+((t.name.size:Nat):Int)) rfl (by omega) (by omega) (by omega)
    exact ⟨w,W,by omega,Y,fun hle=>by grind [Hl]⟩
end
end Go.Proofs.YtfffkmcpnggkdaaGreatDoor
