/- Part 1 of a proof; sources: wip/. -/
import Derived.Test.YtfffkmcpnggkdaaGreatDoorX0
import Derived.Calls
import Derived.LoopN
import Derived.Scope
import Derived.Recover
import Derived.Orders
open Array renaming getD_eq_getD_getElem?→H5,getElem?_eq_some_iff→Hu
open Bool renaming and_eq_true→pX,not_true→uX
open Go.Result renaming andThen_ok→Al
open Go.Sem renaming run_bind→Bl
open List renaming all_eq_true→xm,append_nil→xG,getElem?_eq_getElem→zk,getElem?_eq_some_iff→Dg,length→EO,length_append→H4,length_cons→ue,map_cons→Fy,mem_append→xO,mem_cons→xB,mem_map→wD,mem_of_getElem?→Im,nil_append→zg,range→BT
open Nat renaming beq→qy,ble→xp,le_refl→xq,le_trans→bu,zero_add→Ej
open Option renaming bind_some→p9
set_option linter.unusedVariables false
set_option linter.unusedSimpArgs false
namespace Go.Proofs.YtfffkmcpnggkdaaGreatDoor
namespace PI
open Go
section
variable {U:sW} {V:Env U} {P:Program} {X:qx V P} {c:Ctx} {tm:Array Value} {w:World} {σ:St U} {g:Gh U} {D:Nat->Option Nat}
theorem fj: ∀ {cs:List (PV U)} {j:Nat} {p:PV U},cs[j]? =some p-> ∀i∈p.ids,i∈PV.idsL cs:=by
 intro cs
 induction cs<;>grind [PV.idsL]
theorem MC: ∀ {cs:List (PV U)} {j:Nat} {p:PV U},PV.noObjL cs=true->cs[j]? =some p->p.noObj=true:=by
 intro cs
 induction cs<;>grind [PV.noObjL]
theorem po.plain {w':World} {N N':aN} {g g':Gh U} {v:Value} {p:PV U} (h:po X w N g v p) (I: ∀b o,b<w.heap.size-> ¬N b o->w'.cell? ⟨b,o,none⟩=w.cell? ⟨b,o,none⟩) (J: ∀b o,b<w.heap.size->N' b o->N b o):
  p.noObj=true->(∀i∈p.ids,∀b,g.μ i=some b->g'.μ i=some b)->po X w' N' g' v p:=by
 have E: ∀a v,w.cell? a=some v-> ¬N a.block a.off->w'.cell? a=some v/\ ¬N' a.block a.off:=by
  grind [World.block_lt_of_cell?,yo]
 induction h with
 |undef v=>intro _ _;exact .undef v
 |int k n=>intro _ _;exact .int k n
 |bool b=>intro _ _;exact .bool b
 |str s=>intro _ _;exact .str s
 |sl A n c e l o val hl hc ho h1 h2 z=>
  intro _ _
  refine .sl A n c e l o val hl hc ho (fun j x F k p hp=> ?_) fun j x F k p hp=>z j x F k p hp (X.eplain hp).1 (by rw [(X.eplain hp).2];simp)
  grind [Addr.add_block,Addr.add_off]
 |own i v val cJ e val' hk hv he hs=>grind [PV.noObj]
 |agg vs cs hl h z=>
  intro hn q
  simp only [PV.noObj] at hn
  exact .agg vs cs hl fun j p hp=>z j p hp (MC hn hp) fun i B=>q i (by grind [PV.ids,fj])
 |tuple vs cs hl h z=>
  intro hn q
  simp only [PV.noObj] at hn
  exact .tuple vs cs hl fun j p hp=>z j p hp (MC hn hp) fun i B=>q i (by grind [PV.ids,fj])
 |ptr id off b hb=>intro _ q;exact .ptr id off b (q id (by simp [PV.ids]) b hb)
 |fQ id n b hb hn=>intro _ q;exact .fQ id n b (q id (by simp [PV.ids]) b hb) hn
 |mp id b hb=>intro _ q;exact .mp id b (q id (by simp [PV.ids]) b hb)
 |fM e x off a val h1 h2 z=>
  intro _ _
  refine .fM e x off a val (fun k p hp=> ?_) fun k p hp=>z k p hp (X.eplain hp).1 (by rw [(X.eplain hp).2];simp)
  grind [Addr.add_block,Addr.add_off]
 |eY i v j off val cJ e val' hk hv he hs=>grind [PV.noObj]
 |func f a0s bs vs us ha hb h1 h2 i1 i2=>
  intro hn q
  simp only [PV.noObj,pX] at hn
  exact .func f a0s bs vs us ha hb (fun j p hp=>i1 j p hp (MC hn.1 hp) fun i B=>q i (by grind [PV.ids,fj]))
   (fun j p hp=>i2 j p hp (MC hn.2 hp) fun i B=>q i (by grind [PV.ids,fj]))
 |iface t v p h z=>intro hn q;exact .iface t v p (z hn q)
 |nilIface=>intro _ _;exact .nilIface
 |nilPtr=>intro _ _;exact .nilPtr
 |nilFunc=>intro _ _;exact .nilFunc
structure M8 (U:sW) where
 j:Nat
 e:U.E
 l:List (U.El e)
 val:Value
 u:xS
 Do:Option Nat
 src:Option Nat
structure KI (X:qx V P) (c:Ctx) (w:World) (g:Gh U) (D:Nat->Option Nat) (K:Kept U) (L:List (M8 U)):Prop where
 cX:K.cX=L.map fun x=>(x.j,⟨0,x.e,x.l⟩)
 hX:K.hX=L.map fun x=>(x.j,x.u)
 ok: ∀x∈L,sZ X w (c.N g D) g x.e x.l x.val x.u x.Do/\ ∀b,x.Do=some b-> ∃i,x.src=some i/\D i=some b
 used:K.used=L.filterMap (·.src)
 nodup:K.used.Nodup
def RK (X:qx V P) (c:Ctx) (w:World) (σ:St U) (g:Gh U) (D:Nat->Option Nat) (K:Kept U) (L:List (M8 U)) (v:Value) (p:PV U):Prop:=
 (∃x∈L,p= .own x.j 0/\x.val=v)\/(∃i ob u,i∈K.read/\σ.o i=some ob/\p= .sl ob.e ob.l .none/\sZ X w (c.N g D) g ob.e ob.l v u (D i))\/(p.noObj=true/\po X w (c.N g D) g v p)
theorem RK.mono {K K':Kept U} {L L':List (M8 U)} {v:Value} {p:PV U} (h:RK X c w σ g D K L v p) (q: ∀x∈L,x∈L') (z: ∀i∈K.read,i∈K'.read):RK X c w σ g D K' L' v p:=by
 rcases h with ⟨x,A,h⟩|⟨i,ob,u,B,h⟩|h
 ·exact .inl ⟨x,q x A,h⟩
 ·exact .inr (.inl ⟨i,ob,u,z i B,h⟩)
 ·exact .inr (.inr h)
theorem GV {i cJ:Nat} {v:Value} (h:qw X c tm w σ g D) (hv:po X w (c.N g D) g v (.own i cJ)) {ob:Ob U} (ho:σ.o i=some ob) (q:ob.cJ=cJ):sZ X w (c.N g D) g ob.e ob.l v (σ.u i) (D i):=by
 obtain ⟨val,hk,hO⟩:=h.cX i ob ho
 cases hv with
 |own _ _ _ ver' e val' x hle he _=>
  grind
theorem sZ.to {N:aN} {e:U.E} {l:List (U.El e)} {val:Value} {u q:xS} {Do:Option Nat} {wr:Bool} (h:sZ X w N g e l val u Do) (hu:u.to wr=some q):sZ X w N g e l val q Do:=by
 obtain ⟨A,n,cp,h1,h2,x,z,B⟩:=h.val
 refine ⟨A,n,cp,h1,h2,x,z, ?_⟩
 cases Do with
 |some b=>
  obtain ⟨I,F⟩:=B
  refine ⟨fun e=> ?_,F⟩
  subst e
  cases u<;>cases wr<;>simp [xS.to] at hu
 |none=>
  cases u<;>cases wr<;>simp [xS.to] at hu<;>subst hu<;>grind
theorem Qy (h:qw X c tm w σ g D) {t:Option (Nat×Bool)} {p q:PV U} {v:Value} {K K':Kept U} {L:List (M8 U)} (hv:po X w (c.N g D) g v p) (B:KI X c w g D K L) (z:mA σ t p K=some (q,K')):
  ∃L',KI X c w g D K' L'/\(∀x∈L,x∈L')/\(∀i∈K.read,i∈K'.read)/\RK X c w σ g D K' L' v q:=by
 have plain:E4 t p K=some (q,K')-> ∃L',KI X c w g D K' L'/\(∀x∈L,x∈L')/\(∀i∈K.read,i∈K'.read)/\RK X c w σ g D K' L' v q:=by
  intro F
  unfold E4 at F
  split at F
  ·cases hb:p.noObj with
   |false=>grind
   |true=>
    rw [hb] at F
    injection F with F
    injection F with h1 h2
    subst h1;subst h2
    exact ⟨L,B,fun _ h=>h,fun _ h=>h,.inr (.inr ⟨hb,hv⟩)⟩
  grind
 cases p with
 |own i cJ=>
  simp only [mA] at z
  split at z
  case h_2=>cases z
  rename_i ob I
  cases hb:qy ob.cJ cJ with
  |false=>grind
  |true=>
   rw [hb] at z
   have hO:=GV h hv I (by simp_all)
   simp only [cond_true] at z
   split at z
   ·injection z with z
    injection z with h1 h2
    subst h1;subst h2
    exact ⟨L,⟨B.cX,B.hX,B.ok,B.used,B.nodup⟩,fun _ h=>h,fun i M=>by simp [M],.inr (.inl ⟨i,ob,_,by simp,I,rfl,hO⟩)⟩
   ·rename_i j wr
    split at z
    ·cases z
    ·rename_i u hu
     cases J:K.used.any (qy i) with
     |true=>grind
     |false=>
      rw [J] at z
      injection z with z
      injection z with h1 h2
      subst h1;subst h2
      have O:i∉K.used:=by
       intro M
       have:K.used.any (qy i)=true:=List.any_eq_true.2 ⟨i,M,by simp⟩
       grind
      refine ⟨⟨j,ob.e,ob.l,v,u,D i,some i⟩::L,⟨by simp [B.cX],by simp [B.hX],fun x hx=> ?_,by simp [B.used], ?_⟩,fun x hx=>by simp [hx],fun _ h=>h,.inl ⟨_,List.mem_cons_self,rfl,rfl⟩⟩
      ·rcases xB.1 hx with rfl|hx
       ·exact ⟨hO.to hu,fun b hb=>⟨i,rfl,hb⟩⟩
       ·exact B.ok x hx
      ·exact List.nodup_cons.2 ⟨O,B.nodup⟩
 |sl e l o=>
  have new: ∀ {j:Nat} {l':List (U.El e)} {u:xS},sZ X w (c.N g D) g e l' v u none->q= .own j 0->K'=⟨(j,⟨0,e,l'⟩)::K.cX,(j,u)::K.hX,K.used,K.read⟩-> ∃L',KI X c w g D K' L'/\(∀x∈L,x∈L')/\(∀i∈K.read,i∈K'.read)/\RK X c w σ g D K' L' v q:=by
   intro j l' u hO h1 h2
   subst h1;subst h2
   refine ⟨⟨j,e,l',v,u,none,none⟩::L,⟨by simp [B.cX],by simp [B.hX],fun x hx=> ?_,by simp [B.used],B.nodup⟩,fun x hx=>by simp [hx],fun _ h=>h,.inl ⟨_,List.mem_cons_self,rfl,rfl⟩⟩
   rcases xB.1 hx with rfl|hx
   ·grind
   ·exact B.ok x hx
  have E: ∀ {A n cp},v= .slice A n cp->n<=cp/\l.length=n/\ ∀ (j:Nat) x,l[j]? =some x-> ∀ (k:Nat) p,(V.cells e x)[k]? =some p-> ∃a v,A=some a/\w.cell? (a.add (j*X.aR e+k))=some v/\po X w (c.N g D) g v p/\((none:Option Nat)=none-> ¬ (c.N g D) a.block (a.off+(j*X.aR e+k))):=by
   intro A n cp T
   subst T
   cases hv<;>grind
  simp only [mA] at z
  split at z
  ·injection z with z
   injection z with h1 h2
   subst h1;subst h2
   refine ⟨L,B,fun _ h=>h,fun _ h=>h,.inr (.inr ⟨rfl, ?_⟩)⟩
   exact hv.less (.inr ⟨e,l,_,rfl,rfl⟩)
  ·cases z
  ·cases z
  ·cases z
  ·rename_i j wr
   cases wr with
   |true=>cases z
   |false=>
    simp only [cond_false] at z
    injection z with z
    injection z with h1 h2
    cases hv with
    |sl A n cp _ _ _ val hl hc ho r1 W=>
     obtain ⟨a1,a2,a3⟩:=E rfl
     exact new (l':=l) ⟨A,n,cp,rfl,a2,a1,a3,by simp,fun _=>ho⟩ h1.symm h2.symm
  ·rename_i j wr
   injection z with z
   injection z with h1 h2
   cases hv with
   |sl A n cp _ _ _ val hl hc ho r1 W=>
    obtain ⟨rfl,rfl,rfl⟩:=ho
    exact new (l':=[]) ⟨none,0,0,rfl,rfl,xq _,by simp,fun _=>⟨rfl,rfl,rfl⟩,fun _=>rfl⟩ h1.symm h2.symm
 |agg cs=>cases z
 |tuple cs=>cases z
 |eY i v j off=>cases z
 |fresh e l=>cases z
 |undef=>exact plain z
 |int k n=>exact plain z
 |bool b=>exact plain z
 |str s=>exact plain z
 |ptr id off=>exact plain z
 |fQ id n=>exact plain z
 |fM e x off=>exact plain z
 |mp id=>exact plain z
 |func f a b=>exact plain z
 |iface t p=>exact plain z
 |nilIface=>exact plain z
 |nilPtr=>exact plain z
 |nilFunc=>exact plain z
theorem Z3 (h:qw X c tm w σ g D): ∀ (rs:List (Nat×Option (Nat×Bool))) {K K':Kept U} {L:List (M8 U)} {l:List (Nat×PV U)},KI X c w g D K L->o8 σ rs K=some (l,K')->
  ∃L',KI X c w g D K' L'/\(∀x∈L,x∈L')/\(∀i∈K.read,i∈K'.read)/\ ∀n p,(n,p)∈l->RK X c w σ g D K' L' (tm.getD n undef) p:=by
 intro rs
 induction rs with
 |nil=>
  grind [o8]
 |cons nt rs z=>
  intro K K' L l A q
  obtain ⟨n,t⟩:=nt
  simp only [o8] at q
  split at q
  case h_2=>cases q
  rename_i v K1 hv
  split at q
  case h_2=>cases q
  rename_i T K2 hl
  injection q with q
  injection q with h1 h2
  subst h1;subst h2
  obtain ⟨L1,k1,B,E,F⟩:=Qy h (h.eR n) A hv
  obtain ⟨L2,m1,m2,m3,m4⟩:=z k1 hl
  refine ⟨L2,m1,fun x I=>m2 x (B x I),fun i J=>m3 i (E i J),fun W p hp=> ?_⟩
  rcases xB.1 hp with hp|hp
  ·injection hp with M O
   subst M;subst O
   exact F.mono m2 m3
  grind
theorem aE8 (h:qw X c tm w σ g D): ∀ (A:List (Option (Nat×Bool))) (cs:List (PV U)) (vs:Nat->Value) {K K':Kept U} {L:List (M8 U)} {l:List (PV U)},KI X c w g D K L->(∀ (j:Nat) p,cs[j]? =some p->po X w (c.N g D) g (vs j) p)->iW σ A cs K=some (l,K')->
  ∃L',KI X c w g D K' L'/\(∀x∈L,x∈L')/\(∀i∈K.read,i∈K'.read)/\l.length=cs.length/\ ∀ (j:Nat) p,l[j]? =some p->RK X c w σ g D K' L' (vs j) p:=by
 intro A
 induction A with
 |nil=>
  grind [iW]
 |cons t A E=>
  intro cs vs K K' L l F hc z
  cases cs with
  |nil=>simp [iW] at z
  |cons p cs=>
   simp only [iW] at z
   split at z
   case h_2=>cases z
   rename_i v K1 hv
   split at z
   case h_2=>cases z
   rename_i W K2 hl
   injection z with z
   injection z with h1 h2
   subst h1;subst h2
   obtain ⟨L1,k1,I,J,M⟩:=Qy h (hc 0 p rfl) F hv
   obtain ⟨L2,m1,m2,m3,m5,m4⟩:=E cs (fun j=>vs (j+1)) k1 (fun j p hp=>hc (j+1) p (by grind)) hl
   refine ⟨L2,m1,fun x O=>m2 x (I x O),fun i T=>m3 i (J i T),by simp [m5],fun j q B=> ?_⟩
   cases j with
   |zero=>simp at B;subst B;exact M.mono m2 m3
   |succ j=>grind
def BK (X:qx V P) (c:Ctx) (w:World) (σ:St U) (g:Gh U) (D:Nat->Option Nat) (K:Kept U) (L:List (M8 U)) (id:Nat):py U->Prop
 | .cells cs=> ∃k cur e,g.μ id=some k/\w.heap[k]? =some (.cells cur e (0,0))/\zi cur cs.length (c.ο k)/\ ∀ (j:Nat) p,cs[j]? =some p->RK X c w σ g D K L (cur.getD j undef) p
 | .map e l=> ∃k,g.μ id=some k/\qW X w (c.N g D) g (c.ο k) k (.map e l)
theorem BK.mono {K K':Kept U} {L L':List (M8 U)} {id:Nat} {b:py U} (h:BK X c w σ g D K L id b) (q: ∀x∈L,x∈L') (z: ∀i∈K.read,i∈K'.read):BK X c w σ g D K' L' id b:=by
 cases b with
 |cells cs=>obtain ⟨k,cur,e,h1,h2,A,B⟩:=h;exact ⟨k,cur,e,h1,h2,A,fun j p hp=>(B j p hp).mono q z⟩
 |map e l=>exact h
theorem aE6 (h:qw X c tm w σ g D): ∀ (bx:List (Nat×List (Option (Nat×Bool)))) {K K':Kept U} {L:List (M8 U)} {l:List (Nat×py U)},KI X c w g D K L->fO σ bx K=some (l,K')->
  ∃L',KI X c w g D K' L'/\(∀x∈L,x∈L')/\(∀i∈K.read,i∈K'.read)/\ ∀n b,(n,b)∈l->BK X c w σ g D K' L' n b:=by
 intro bx
 induction bx with
 |nil=>
  grind [fO]
 |cons nt bx F=>
  intro K K' L l I q
  obtain ⟨n,J⟩:=nt
  simp only [fO] at q
  split at q
  ·rename_i cs z
   split at q
   case h_2=>cases q
   rename_i M K1 hv
   split at q
   case h_2=>cases q
   rename_i O K2 hl
   injection q with q
   injection q with h1 h2
   subst h1;subst h2
   obtain ⟨k,hk,cur,e,T,W,Y⟩:=h.boxes _ _ z
   obtain ⟨L1,k1,k2,k3,k5,k4⟩:=aE8 h J cs (fun j=>cur.getD j undef) I Y hv
   obtain ⟨L2,m1,m2,m3,m4⟩:=F k1 hl
   refine ⟨L2,m1,fun x hx=>m2 x (k2 x hx),fun i hi=>m3 i (k3 i hi),fun n' b hb=> ?_⟩
   rcases xB.1 hb with hb|hb
   ·injection hb with A B
    subst A;subst B
    exact ⟨k,cur,e,hk,T,k5▸W,fun j p hp=>(k4 j p hp).mono m2 m3⟩
   grind
  ·rename_i e l0 z
   split at q
   case h_2=>cases q
   rename_i O K2 hl
   injection q with q
   injection q with h1 h2
   subst h1;subst h2
   obtain ⟨k,hk,E⟩:=h.boxes _ _ z
   obtain ⟨L2,m1,m2,m3,m4⟩:=F I hl
   refine ⟨L2,m1,m2,m3,fun n' b hb=> ?_⟩
   rcases xB.1 hb with hb|hb
   ·injection hb with A B
    subst A;subst B
    exact ⟨k,hk,E⟩
   grind
  grind
end
section
variable {U:sW} {V:Env U} {P:Program} {X:qx V P} {c:Ctx} {tm:Array Value} {w:World} {σ:St U} {g:Gh U} {D:Nat->Option Nat}
theorem uQ {α:Type}: ∀ {l:List (Nat×α)} {n:Nat} {x:α},cq l n=some x->(n,x)∈l:=by
 intro l
 induction l with
 |nil=>intro n x h;cases h
 |cons a l q=>
  grind [iD]
theorem Fj {α:Type}: ∀ {l:List (Nat×α)} {n:Nat},cq l n=none-> ∀x,(n,x)∉l:=by
 intro l
 induction l<;>grind [iD]
theorem D8: ∀ {l:List Nat},lM l=true->l.Nodup:=by
 intro l
 induction l with
 |nil=>simp
 |cons n r q=>
  intro h
  simp only [lM,pX,Bool.not_eq_true'] at h
  refine List.nodup_cons.2 ⟨fun hn=> ?_,q h.2⟩
  have:r.any (qy n)=true:=List.any_eq_true.2 ⟨n,hn,by simp⟩
  grind
theorem agU {α:Type} {l:List (Nat×α)} (h:(l.map (·.1)).Nodup) {n:Nat} {x y:α} (q:(n,x)∈l) (z:(n,y)∈l):x=y:=by
 induction l<;>grind
theorem ym (h:qw X c tm w σ g D) {A:B1} {τ:St U} (hc:Ho A σ=some τ): ∃g' D',qw X c tm w τ g' D':=by
 unfold Ho at hc
 split at hc
 case h_2=>cases hc
 rename_i rs K1 hR
 split at hc
 case h_2=>cases hc
 rename_i bs K2 hB
 have h0:KI X c w g D (⟨[],[],[],[]⟩:Kept U) []:=⟨rfl,rfl,by simp,rfl,List.nodup_nil⟩
 obtain ⟨L1,k1,_,_,r1⟩:=Z3 h A.eR h0 hR
 obtain ⟨L,O,m2,m3,b2⟩:=aE6 h A.boxes k1 hB
 have r2: ∀n p,(n,p)∈rs->RK X c w σ g D K2 L (tm.getD n undef) p:=fun n p hp=>(r1 n p hp).mono m2 m3
 cases hb:(!(K2.used.any fun i=>K2.read.any (qy i))&&lM (K2.cX.map (·.1))&&(lM (bs.map (·.1))&&((PV.idsL (rs.map (·.2))++bs.flatMap (·.2.ids)).all fun i=>(bs.map (·.1)).any (qy i)))) with
 |false=>grind
 |true=>
 rw [hb] at hc
 injection hc with hc
 subst hc
 simp only [pX] at hb
 obtain ⟨⟨dn,b1⟩,b3,bf⟩:=hb
 have dd: ∀i,i∈K2.used->i∉K2.read:=by
  simp_all
 have bh:(L.map (·.j)).Nodup:=by
  have:=D8 b1
  rw [O.cX,List.map_map] at this
  exact this
 have dh:=D8 b3
 have az: ∀i,(i∈PV.idsL (rs.map (·.2))\/i∈bs.flatMap (·.2.ids))->i∈bs.map (·.1):=by
  intro i T
  have:=xm.1 bf i (xO.2 T)
  simp_all
 have a6: ∀x∈L,∀y∈L,x.j=y.j->x=y:=by
  intro x z y hy b4
  have hn:(L.map fun x=>(x.j,x)).map (·.1)=L.map (·.j):=by simp
  exact agU (l:=L.map fun x=>(x.j,x)) (by grind) (wD.2 ⟨x,z,rfl⟩) (wD.2 ⟨y,hy,by rw [b4]⟩)
 let B:Nat->Option (M8 U):=fun j=>L.find? fun x=>x.j==j
 have ent_mem: ∀x∈L,B x.j=some x:=by
  intro x z
  cases hf:B x.j<;>grind
 have ent_some: ∀j x,B j=some x->x∈L/\x.j=j:=fun j x z=>⟨List.mem_of_find?_eq_some z,by grind⟩
 let g':Gh U:={μ:=fun id=>if id∈bs.map (·.1) then g.μ id else none,κ:=fun j=>(B j).map fun x=>(0,x.e,x.val)}
 let D':Nat->Option Nat:=fun j=>(B j).bind (·.Do)
 have F: ∀j b,D' j=some b-> ∃x∈L,x.j=j/\x.Do=some b/\ ∃i,x.src=some i/\D i=some b:=by
  intro j b hj
  cases he:B j with
  |none=>grind
  |some x=>
   obtain ⟨z,a7⟩:=ent_some j x he
   have bn:x.Do=some b:=by grind
   exact ⟨x,z,a7,bn,(O.ok x z).2 b bn⟩
 have hN: ∀b o,b<w.heap.size->(c.N g' D') b o->(c.N g D) b o:=by
  rintro b o _ (hn|⟨id,I⟩|⟨j,hj⟩)
  ·exact .inl hn
  ·simp only [g'] at I
   split at I
   ·exact .inr (.inl ⟨id,I⟩)
   grind
  ·obtain ⟨x,_,_,_,i,_,T⟩:=F j b hj
   exact .inr (.inr ⟨i,T⟩)
 have hw: ∀b o,b<w.heap.size-> ¬ (c.N g D) b o->w.cell? ⟨b,o,none⟩=w.cell? ⟨b,o,none⟩:=fun _ _ _ _=>rfl
 have src_used: ∀x∈L,∀i,x.src=some i->i∈K2.used:=by
  intro x z i T
  rw [O.used]
  grind
 have src_inj: ∀x∈L,∀y∈L,∀i,x.src=some i->y.src=some i->x=y:=by
  have b5:=O.nodup
  rw [O.used] at b5
  intro x z y hy i ds dt
  clear_value g' D'
  clear ent_mem ent_some F hN a6 bh r2 r1 b2 O m2 src_used
  induction L<;>grind
 have bt: ∀v p,RK X c w σ g D K2 L v p->(∀i∈p.ids,i∈bs.map (·.1))->po X w (c.N g' D') g' v p:=by
  intro v p hv T
  rcases hv with ⟨x,z,rfl,rfl⟩|⟨i,ob,u,dx,dy,rfl,hO⟩|⟨hn,hr⟩
  ·have hO:=(O.ok x z).1
   obtain ⟨A,n,cp,hv,_⟩:=hO.val
   exact .own x.j 0 _ 0 x.e x.val (by grind) (xq _) (fun _=>rfl) ⟨A,n,cp,hv⟩
  ·have J: ∀ {v:Value} {e:U.E} {x:U.El e} {k:Nat} {p:PV U},(V.cells e x)[k]? =some p->po X w (c.N g D) g v p->po X w (c.N g' D') g' v p:=
    fun hp hr=>hr.plain hw hN (X.eplain hp).1 (by rw [(X.eplain hp).2];simp)
   refine sZ.rep (u:= .read) ?_
   obtain ⟨A,n,cp,h1,h2,h3,h4,h5⟩:=hO.val
   refine ⟨A,n,cp,h1,h2,h3,fun j x z k p hp=> ?_,by simp⟩
   obtain ⟨b,v',hA,W,hr,hn⟩:=h4 j x z k p hp
   refine ⟨b,v',hA,W,J hp hr,fun _=> ?_⟩
   have b6:=World.block_lt_of_cell? w _ W
   rw [Addr.add_block] at b6
   cases M:D i with
   |none=>grind
   |some b'=>
    rw [M] at h5
    obtain ⟨_,cur,ad,_⟩:=h5
    rw [hA] at ad
    injection ad with ad
    subst ad
    rintro (b7|⟨id,I⟩|⟨q,hq⟩)
    ·have h6:=c.n0 _ _ b7
     rcases (h.cY i b' M).2 with h7|h7<;>grind
    ·simp only [g'] at I
     split at I
     ·exact h.eV i id b' M I
     grind
    ·obtain ⟨y,hy,_,_,i',bz,Y⟩:=F q b' hq
     have:=h.eO _ _ _ Y M
     grind
  ·exact hr.plain hw hN hn fun i bz b hb=>by grind
 have J: ∀ {v:Value} {e:U.E} {x:U.El e} {k:Nat} {p:PV U},(V.cells e x)[k]? =some p->po X w (c.N g D) g v p->po X w (c.N g' D') g' v p:=
  fun hp hr=>hr.plain hw hN (X.eplain hp).1 (by rw [(X.eplain hp).2];simp)
 have a8: ∀id b,cq bs id=some b->id∈bs.map (·.1):=fun id b hb=>List.mem_map_of_mem (f:=(·.1)) (uQ hb)
 refine ⟨g',D',{nt:=h.nt,eR:=fun n=> ?_,boxes:=fun id b hb=> ?_,hJ:=fun id k hk=> ?_,inj:=fun id id' k hk ao=> ?_,new:=fun id k hk=> ?_,cX:=fun j ob ho=> ?_,gD:=fun j ho=> ?_,eO:=fun j j' b hb ax=> ?_,cY:=fun j b hb=> ?_,eV:=fun j id b hb hm=> ?_,ext:=h.ext,gl:=h.gl,fix:=fun id k hk=> ?_}⟩
 ·unfold St.r
  simp only
  cases hl:cq rs n with
  |none=>exact .undef _
  |some p=>
   have hm:=uQ hl
   grind [List.mem_iff_getElem?,List.mem_map_of_mem,fj]
 ·have ax:cq bs id=some b:=hb
  have hm:=uQ ax
  have b0:=b2 id b hm
  have ch:=a8 id b ax
  cases b with
  |cells cs=>
   obtain ⟨k,cur,e,q1,q2,q3,q4⟩:=b0
   refine ⟨k,by grind,cur,e,q2,q3,fun j p hp=>bt _ _ (q4 j p hp) fun i T=>az i (.inr ?_)⟩
   grind [py.ids,fj]
  |map e l=>
   obtain ⟨k,q1,en,cl,q2,q3,q4⟩:=b0
   refine ⟨k,by grind,en,cl,q2,q3,fun j x t z=> ?_⟩
   grind
 ·simp only [g'] at hk
  split at hk
  ·rename_i ch
   cases hl:cq bs id with
   |none=>
    grind [Fj]
   |some b=>exact ⟨b,hl⟩
  grind
 ·simp only [g'] at hk ao
  split at hk<;>split at ao<;>first|cases hk|cases ao|exact h.inj _ _ _ hk ao
 ·simp only [g'] at hk
  split at hk
  ·exact h.new id k hk
  grind
 ·have bc:cq K2.cX j=some ob:=ho
  have hm:=uQ bc
  rw [O.cX] at hm
  obtain ⟨x,z,cu⟩:=wD.1 hm
  injection cu with e1 e2
  subst e1;subst e2
  have hu:cq K2.hX x.j=some x.u:=by
   cases hl:cq K2.hX x.j with
   |none=>exact absurd (by rw [O.hX];grind) (Fj hl x.u)
   |some u'=>
    have cx:=uQ hl
    rw [O.hX] at cx
    grind
  have hO:=(O.ok x z).1
  refine ⟨x.val,by grind, ?_⟩
  have cy:(⟨rs,bs,K2.cX,K2.hX⟩:St U).u x.j=x.u:=by grind [St.u]
  have c5:D' x.j=x.Do:=by grind
  rw [cy,c5]
  obtain ⟨A,n,cp,h1,h2,h3,h4,h5⟩:=hO.val
  refine ⟨A,n,cp,h1,h2,h3,fun j x' ea k p hp=> ?_,h5⟩
  grind [World.block_lt_of_cell?,Addr.add_block]
 ·have c9:B j=none:=by
   cases he:B j with
   |none=>rfl
   |some x=>
    obtain ⟨z,a7⟩:=ent_some j x he
    have bc:cq K2.cX j=none:=ho
    exact absurd (by rw [O.cX];grind) (Fj bc ⟨0,x.e,x.l⟩)
  grind
 ·obtain ⟨x,z,a7,_,i,T,M⟩:=F j b hb
  obtain ⟨y,hy,ec,_,i',bz,Y⟩:=F j' b ax
  have:=h.eO _ _ _ M Y
  grind
 ·obtain ⟨_,_,_,_,i,_,T⟩:=F j b hb
  exact h.cY i b T
 ·obtain ⟨_,_,_,_,i,_,T⟩:=F j b hb
  simp only [g'] at hm
  split at hm
  ·exact h.eV i id b T hm
  grind
 ·simp only [g'] at hk
  split at hk
  ·exact h.fix id k hk
  grind
end
section
variable {U:sW} {V:Env U} {P:Program} (X:qx V P)
def gB (U:sW) (n:Nat) (ν:Nat->Nat):Gh U:=⟨fun k=>if k<n then some (ν k) else none,fun _=>none⟩
def NB (N0:aN) (n:Nat) (ν:Nat->Nat) (δ:Nat->Option Nat):aN:=fun b o=>N0 b o\/(∃k,k<n/\ν k=b)\/(∃j,δ j=some b)
def uc (w:World) (N:aN) (g:Gh U) (v:Value) (Do:Option Nat):PV U->Prop
 | .fresh e l=>sZ X w N g e l v .wr Do
 |p=>po X w N g v p
def L5 (w:World) (N:aN) (g:Gh U) (v:Value) (δ:Nat->Option Nat):PV U->Prop
 | .tuple ps=> ∃vs:Array Value,v= .tuple vs/\vs.size=ps.length/\ ∀ (j:Nat) p,ps[j]? =some p->uc X w N g (vs.getD j undef) (δ j) p
 |p=>uc X w N g v (δ 0) p
structure Bnd (w:World) (N0:aN) (n:Nat) (ν:Nat->Nat) (δ:Nat->Option Nat):Prop where
 inj: ∀i j,i<n->j<n->ν i=ν j->i=j
 lt: ∀i,i<n->ν i<w.heap.size
 dlt: ∀j b,δ j=some b->b<w.heap.size
 eO: ∀i j b,δ i=some b->δ j=some b->i=j
 dν: ∀j b,δ j=some b-> ∀i,i<n->ν i≠b
 n0: ∀b o,N0 b o->b<w.heap.size/\(∀i,i<n->ν i≠b)/\ ∀j,δ j≠some b
structure uL (w:World) (vs:Array Value) (N0:aN) (ν:Nat->Nat) (δ:Nat->Option Nat) (ο:Nat->Array Value) (args:List (PV U)) (boxes:List (py U)):Prop where
 iP:Bnd w N0 boxes.length ν δ
 size:vs.size=args.length
 hJ: ∀j b,δ j=some b->j<args.length
 gF: ∀b o,(b,o)∈X.jY->w.heap[b]? =some o/\(∀i,i<boxes.length->ν i≠b)/\ ∀j,δ j≠some b
 args: ∀ (j:Nat) p,args[j]? =some p->uc X w (NB N0 boxes.length ν δ) (gB U boxes.length ν) (vs.getD j undef) (δ j) p
 boxes: ∀ (k:Nat) b,boxes[k]? =some b->qW X w (NB N0 boxes.length ν δ) (gB U boxes.length ν) (ο (ν k)) (ν k) b
 oz: ∀b,w.heap.size<=b->ο b= #[]
def Su (n m:Nat) (ν:Nat->Nat) (δ:Nat->Option Nat):List Nat:=(BT n).map ν++(BT m).filterMap δ
structure L6 (w w':World) (N0:aN) (ν:Nat->Nat) (δ:Nat->Option Nat) (ο:Nat->Array Value) (n m:Nat) (ν':Nat->Nat) (δ':Nat->Option Nat) (cs:List (py U)):Prop where
 ext:Ext (Su n m ν δ) w w'
 le:n<=cs.length
 old: ∀i,i<n->ν' i=ν i
 new: ∀i,n<=i->i<cs.length->w.heap.size<=ν' i
 cY: ∀j b,δ' j=some b->w.heap.size<=b\/ ∃i,δ i=some b
 iP:Bnd w' N0 cs.length ν' δ'
 boxes: ∀ (k:Nat) b,cs[k]? =some b->qW X w' (NB N0 cs.length ν' δ') (gB U cs.length ν') (ο (ν' k)) (ν' k) b
def BW (w:World) (N0:aN) (ν:Nat->Nat) (δ:Nat->Option Nat) (ο:Nat->Array Value) (n m:Nat) (out:Out U):Ending->World->Prop
 | .returned q,w'=>match out with
  | .ret v cs=> ∃ν' δ',L6 X w w' N0 ν δ ο n m ν' δ' cs/\L5 X w' (NB N0 cs.length ν' δ') (gB U cs.length ν') q δ' v
  | .panic _ _=>False
 | .panicked chain,w'=>match out with
  | .ret _ _=>False
  | .panic v cs=>cs.length=n/\ ∃val,chain=[{v:=val,recovered:=false}]/\L6 X w w' N0 ν δ ο n m ν (fun _=>none) cs/\po X w' (NB N0 n ν fun _=>none) (gB U n ν) val v
 | .outgrown,_=>False
def jS (CP:FuncId->Array Value->World->(Ending->World->Prop)->Prop):cj U:=fun f args boxes out=>
 (∃fn,P.funcs[f]? =some fn/\(fn.name== "runtime.NumGoroutine")=false/\fn.body.isNone=false)/\
 ∀ (w:World) (vs:Array Value) (N0:aN) (ν:Nat->Nat) (δ:Nat->Option Nat) (ο:Nat->Array Value),uL X w vs N0 ν δ ο args boxes->CP f vs w (BW X w N0 ν δ ο boxes.length args.length (out.full boxes))
def ci:cj U:=fun f args boxes out=>
 (∃fn,P.funcs[f]? =some fn/\(fn.name== "runtime.NumGoroutine")=false/\fn.body.isNone=false)/\
 ∀ (w:World) (vs:Array Value) (N0:aN) (ν:Nat->Nat) (δ:Nat->Option Nat) (ο:Nat->Array Value),uL X w vs N0 ν δ ο args boxes->Calls P f vs w (BW X w N0 ν δ ο boxes.length args.length (out.full boxes))
theorem BW.full {X:qx V P} {w:World} {N0:aN} {ν:Nat->Nat} {δ:Nat->Option Nat} {ο:Nat->Array Value} {boxes:List (py U)} {m:Nat} {out:Out U} {e:Ending} {w':World} (h:BW X w N0 ν δ ο boxes.length m out e w'):BW X w N0 ν δ ο boxes.length m (out.full boxes) e w':=by
 cases out with
 |panic v cs=>exact h
 |ret v cs=>
  cases e with
  |returned q=>
   obtain ⟨ν',δ',hb,x⟩:=id h
   have:xp boxes.length cs.length=true:=by simpa using hb.le
   grind [Out.full]
  |panicked z=>exact h.elim
  |outgrown=>exact h.elim
variable {X} {c:Ctx} {tm:Array Value} {w:World} {σ:St U} {g:Gh U} {D:Nat->Option Nat}
theorem qw.move (h:qw X c tm w σ g D) {w':World} {σ':St U} {g':Gh U} {D':Nat->Option Nat} (A q:Nat->Prop)
  (a6:w'.os=w.os) (J:w'.tape=w.tape) (O:w'.output=w.output) (L:w.heap.size<=w'.heap.size)
  (hblk: ∀b,b<w.heap.size->(∀id,A id->g.μ id≠some b)->(∀j,q j->D j≠some b)->w'.heap[b]? =w.heap[b]?)
  (hr: ∀n,σ'.r n=σ.r n) (hle:g.le g')
  (B: ∀id k,g'.μ id=some k->g.μ id=some k\/(g.μ id=none/\w.heap.size<=k/\k<w'.heap.size))
  (T: ∀id k,g.μ id=none->g'.μ id=some k->c.fix id=none)
  (az: ∀id id' k,g.μ id=none->g'.μ id=some k->g'.μ id'=some k->id=id')
  (E: ∀id,¬A id->σ'.b id=σ.b id/\g'.μ id=g.μ id)
  (M:(∀v p,po X w (c.N g D) g v p->po X w' (c.N g' D') g' v p)-> ∀id b,A id->σ'.b id=some b-> ∃k,g'.μ id=some k/\qW X w' (c.N g' D') g' (c.ο k) k b)
  (a7: ∀id k,A id->g'.μ id=some k-> ∃b,σ'.b id=some b)
  (hD: ∀j b,D' j=some b->(¬q j/\D j=some b)\/((∃i,q i/\D i=some b)\/(w.heap.size<=b/\b<w'.heap.size)))
  (a8: ∀j W b,q j->D' j=some b->D' W=some b->j=W)
  (bz: ∀j b,q j->D' j=some b-> ∀id,g'.μ id≠some b)
  (hold: ∀j,¬q j->σ'.o j=σ.o j/\σ'.u j=σ.u j/\D' j=D j/\g'.κ j=g.κ j)
  (b0: ∀j ob,q j->σ'.o j=some ob-> ∃val,g'.κ j=some (ob.cJ,ob.e,val)/\sZ X w' (c.N g' D') g' ob.e ob.l val (σ'.u j) (D' j))
  (bc: ∀j,q j->σ'.o j=none->g'.κ j=none/\D' j=none):qw X c tm w' σ' g' D':=by
 have x: ∀b o,b<w.heap.size->(c.N g' D') b o->(c.N g D) b o:=by
  rintro b o F (hn|⟨id,z⟩|⟨j,hj⟩)
  ·exact .inl hn
  ·rcases B id b z with h1|⟨_,h1,_⟩
   ·exact .inr (.inl ⟨id,h1⟩)
   ·omega
  ·rcases hD j b hj with ⟨_,I⟩|⟨i,_,Y⟩|hk
   ·exact .inr (.inr ⟨j,I⟩)
   ·exact .inr (.inr ⟨i,Y⟩)
   ·omega
 have hw: ∀b o,b<w.heap.size-> ¬ (c.N g D) b o->w'.cell? ⟨b,o,none⟩=w.cell? ⟨b,o,none⟩:=fun b o F hn=>by
  unfold World.cell?
  rw [hblk b F (fun id _ z=>hn (.inr (.inl ⟨id,z⟩))) fun j _ hj=>hn (.inr (.inr ⟨j,hj⟩))]
 exact
  {nt:=h.nt
   eR:=fun n=>by rw [hr];exact (h.eR n).mono X hw x hle
   boxes:=fun id b hb=>by
    by_cases hc:A id
    ·exact M (fun v p hp=>hp.mono X hw x hle) id b hc hb
    ·obtain ⟨h1,h2⟩:=E id hc
     rw [h1] at hb
     obtain ⟨k,hk,ad⟩:=h.boxes id b hb
     exact ⟨k,h2▸hk,ad.mono (hblk k (h.new id k hk).1 (fun id' bf ao=>hc (h.inj _ _ _ hk ao▸bf)) fun j _ hj=>h.eV j id k hj hk) hw x hle⟩
   hJ:=fun id k hk=>by
    by_cases hc:A id
    ·grind
    ·obtain ⟨h1,h2⟩:=E id hc
     rw [h1];exact h.hJ id k (h2▸hk)
   inj:=fun id id' k hk bh=>by
    rcases B id k hk with h1|⟨h1,_⟩
    ·rcases B id' k bh with h2|⟨h2,_⟩
     ·exact h.inj _ _ _ h1 h2
     grind
    grind
   new:=fun id k hk=>by
    rcases B id k hk with h1|⟨_,h1,h2⟩
    ·have:=h.new id k h1;grind
    ·exact ⟨h2,.inr (bu h.ext.size h1)⟩
   cX:=fun j ob ho=>by
    by_cases hj:q j
    ·grind
    ·obtain ⟨h1,h2,h3,h4⟩:=hold j hj
     rw [h1] at ho
     obtain ⟨val,hk,bn⟩:=h.cX j ob ho
     rw [h2,h3,h4]
     exact ⟨val,hk,bn.mono (fun k hk=>hblk k (h.cY j k hk).1 (fun id _ z=>h.eV j id k hk z) fun i Y bt=>hj (h.eO _ _ _ bt hk▸Y)) hw x hle⟩
   gD:=fun j ho=>by
    by_cases hj:q j
    ·grind
    ·obtain ⟨h1,h2,h3,h4⟩:=hold j hj
     rw [h3,h4];exact h.gD j (h1▸ho)
   eO:=fun j W b hb ax=>by
    by_cases hj:q j
    ·grind
    ·by_cases I:q W
     ·grind
     ·rw [(hold j hj).2.2.1] at hb;rw [(hold W I).2.2.1] at ax
      exact h.eO _ _ _ hb ax
   cY:=fun j b hb=>by
    rcases hD j b hb with ⟨_,I⟩|⟨i,_,Y⟩|hk
    ·have:=h.cY j b I;grind
    ·have:=h.cY i b Y;grind
    ·exact ⟨hk.2,.inr (bu h.ext.size hk.1)⟩
   eV:=fun j id b hb hm=>by
    by_cases hj:q j
    ·grind
    ·rw [(hold j hj).2.2.1] at hb
     rcases B id b hm with h1|⟨_,h1,_⟩
     ·exact h.eV j id b hb h1
     ·have:=(h.cY j b hb).1;omega
   ext:=⟨a6.trans h.ext.os,J.trans h.ext.tape,O.trans h.ext.output,bu h.ext.size L,fun b F hn=>by
    rw [hblk b (Nat.lt_of_lt_of_le F h.ext.size) (fun id _ z=>by
     rcases (h.new id b z).2 with h1|h1<;>grind) fun j _ hj=>by
     rcases (h.cY j b hj).2 with h1|h1<;>grind]
    exact h.ext.block b F hn⟩
   gl:=h.gl
   fix:=fun id k hk=>by
    rcases B id k hk with h1|⟨h1,h2,_⟩
    ·exact h.fix id k h1
    ·exact .inr ⟨T id k h1 hk,bu h.ext.size h2⟩}
end
section
variable {U:sW} {V:Env U} {P:Program} {X:qx V P} {K:cj U} {c:Ctx} {tm:Array Value} {w:World} {σ:St U} {g:Gh U} {D:Nat->Option Nat}
variable {r:MR U} {τ:St U} {fp gp:List Loc} {N:aN}
theorem KY (pz:Bool) (ρ:Nat->Nat): ∀ (cs:List (PV U)),PV.renL pz ρ cs=cs.map (PV.ren pz ρ):=by
 intro cs
 induction cs<;>grind [PV.renL]
theorem po.ren {w':World} {N N':aN} {g g':Gh U} {v:Value} {p:PV U} (h:po X w N g v p) (pz:Bool) (ρ:Nat->Nat) (O: ∀b o,b<w.heap.size-> ¬N b o->w'.cell? ⟨b,o,none⟩=w.cell? ⟨b,o,none⟩) (T: ∀b o,b<w.heap.size->N' b o->N b o)
  (I:p.noObj=true\/ ∀i,g.κ i=none) (q: ∀i,i∈p.ids-> ∀b,g.μ i=some b->g'.μ (ρ i)=some b):po X w' N' g' v (p.ren pz ρ):=by
 have J: ∀a v,w.cell? a=some v-> ¬N a.block a.off->w'.cell? a=some v/\ ¬N' a.block a.off:=by
  grind [World.block_lt_of_cell?,yo]
 have z: ∀ {v:Value} {e:U.E} {x:U.El e} {k:Nat} {p:PV U},(V.cells e x)[k]? =some p->po X w N g v p->po X w' N' g' v p:=fun hp W=>W.plain O T (X.eplain hp).1 (by rw [(X.eplain hp).2];simp)
 induction h with
 |undef v=>exact .undef v
 |int k n=>exact .int k n
 |bool b=>exact .bool b
 |str s=>exact .str s
 |sl A n cp e l o val hl hc ho h1 h2 B=>
  have base: ∀F,(match F with| .none=>True| .full=>n=cp| .nil=>A=none/\n=0/\cp=0| .void=>A=none| .sure=>A≠none)->po X w' N' g' (.slice A n cp) (.sl e l F):=fun F L=>by
   refine .sl A n cp e l F val hl hc L (fun j x M k p hp=> ?_) fun j x M k p hp=>z hp (h2 j x M k p hp)
   grind [Addr.add_block,Addr.add_off]
  cases o with
  |none=>exact base .none trivial
  |full=>cases pz with
   |true=>exact base .full ho
   |false=>exact base .none trivial
  |void=>exact base .void ho
  |sure=>exact base .sure ho
  |nil=>cases pz with
   |true=>exact base .nil ho
   |false=>exact base .none trivial
 |own i v val cJ e val' hk hv he hs=>
  grind [PV.noObj]
 |agg vs cs hl h B=>
  simp only [PV.ren,KY]
  refine .agg vs _ (by grind) fun j p hp=> ?_
  grind [MC,PV.noObj,PV.ids,fj]
 |tuple vs cs hl h B=>
  simp only [PV.ren,KY]
  refine .tuple vs _ (by grind) fun j p hp=> ?_
  grind [MC,PV.noObj,PV.ids,fj]
 |ptr id off b hb=>exact .ptr _ off b (q id (by simp [PV.ids]) b hb)
 |fQ id n b hb hn=>exact .fQ _ n b (q id (by simp [PV.ids]) b hb) hn
 |mp id b hb=>exact .mp _ b (q id (by simp [PV.ids]) b hb)
 |fM e x off a val h1 h2 B=>
  refine .fM e x off a val (fun k p hp=> ?_) fun k p hp=>z hp (h2 k p hp)
  grind [Addr.add_block,Addr.add_off]
 |eY i v j off val cJ e val' hk hv he hs=>
  grind [PV.noObj]
 |func f a0s bs vs us ha hb h1 h2 i1 i2=>
  simp only [PV.ren,KY]
  refine .func f _ _ vs us (by grind) (by grind) (fun j p hp=> ?_) fun j p hp=> ?_
  all_goals grind [MC,PV.noObj,PV.ids,fj]
 |iface t v p h B=>exact .iface t v _ (B (I.imp (fun h=>by simpa [PV.noObj] using h) id) fun i Y=>q i (by grind [PV.ids]))
 |nilIface=>exact .nilIface
 |nilPtr=>exact .nilPtr
 |nilFunc=>exact .nilFunc
theorem qW.ren {w':World} {N N':aN} {g g':Gh U} {t:Array Value} {k:Nat} {b:py U} (h:qW X w N g t k b) (pz:Bool) (ρ:Nat->Nat) (hk:w'.heap[k]? =w.heap[k]?) (E: ∀b o,b<w.heap.size-> ¬N b o->w'.cell? ⟨b,o,none⟩=w.cell? ⟨b,o,none⟩) (F: ∀b o,b<w.heap.size->N' b o->N b o)
  (z:b.noObj=true\/ ∀i,g.κ i=none) (A: ∀i,i∈b.ids-> ∀b,g.μ i=some b->g'.μ (ρ i)=some b):qW X w' N' g' t k (b.ren pz ρ):=by
 cases b with
 |cells cs=>
  obtain ⟨cur,e,h1,h2,B⟩:=h
  simp only [py.ren,KY]
  refine ⟨cur,e,hk▸h1,by rw [List.length_map];exact h2,fun j p hp=> ?_⟩
  simp only [List.getElem?_map,Option.map_eq_some_iff] at hp
  obtain ⟨q,I,rfl⟩:=hp
  exact (B j q I).ren pz ρ E F (z.imp (fun h=>MC (by simpa [py.noObj] using h) I) id) fun i L=>A i (by grind [py.ids,fj])
 |map e l=>
  obtain ⟨en,cl,h1,h2,B⟩:=h
  refine ⟨en,cl,hk▸h1,h2,fun j x t J=> ?_⟩
  obtain ⟨m,vs,a,b,d,e,f⟩:=B j x t J
  exact ⟨m,vs,a,b,d,e,fun k p hp=>(f k p hp).plain E F (X.eplain hp).1 (by rw [(X.eplain hp).2];simp)⟩
theorem aHM (ρ:Nat->Nat): ∀ (ks:List Bool) (cs:List (PV U)) (j:Nat),(PV.renK ρ ks cs)[j]? =(cs[j]?).map (PV.ren (ks.getD j false) ρ):=by
 intro ks
 induction ks with
 |nil=>intro cs j;simp [PV.renK,KY]
 |cons k ks q=>
  intro cs j
  cases cs with
  |nil=>simp [PV.renK,PV.renL]
  |cons v r=>
   cases j with
   |zero=>simp [PV.renK]
   |succ j=>simpa [PV.renK] using q r j
theorem aHN (ρ:Nat->Nat): ∀ (ks:List Bool) (cs:List (PV U)),(PV.renK ρ ks cs).length=cs.length:=by
 intro ks
 induction ks with
 |nil=>intro cs;simp [PV.renK,KY]
 |cons k ks q=>
  intro cs
  cases cs with
  |nil=>simp [PV.renK,PV.renL]
  |cons v r=>simp [PV.renK,q r]
theorem qW.renK {w':World} {N N':aN} {g g':Gh U} {t:Array Value} {k:Nat} {b:py U} (h:qW X w N g t k b) (ks:List Bool) (ρ:Nat->Nat) (hk:w'.heap[k]? =w.heap[k]?) (A: ∀b o,b<w.heap.size-> ¬N b o->w'.cell? ⟨b,o,none⟩=w.cell? ⟨b,o,none⟩) (B: ∀b o,b<w.heap.size->N' b o->N b o)
  (x:b.noObj=true\/ ∀i,g.κ i=none) (z: ∀i,i∈b.ids-> ∀b,g.μ i=some b->g'.μ (ρ i)=some b):qW X w' N' g' t k (b.renK ks ρ):=by
 cases b with
 |cells cs=>
  obtain ⟨cur,e,h1,h2,F⟩:=h
  refine ⟨cur,e,hk▸h1,by rw [aHN];exact h2,fun j p hp=> ?_⟩
  rw [aHM,Option.map_eq_some_iff] at hp
  obtain ⟨q,E,rfl⟩:=hp
  exact (F j q E).ren _ ρ A B (x.imp (fun h=>MC (by simpa [py.noObj] using h) E) id) fun i I=>z i (by grind [py.ids,fj])
 |map e l=>exact qW.ren (b:= .map e l) h false ρ hk A B x z
theorem sZ.turn {w':World} {N N':aN} {g g':Gh U} {e:U.E} {l:List (U.El e)} {val:Value} {u:xS} {Do:Option Nat} (h:sZ X w N g e l val u Do) (hk: ∀b,Do=some b->w'.heap[b]? =w.heap[b]?)
  (z: ∀b o,b<w.heap.size-> ¬N b o->w'.cell? ⟨b,o,none⟩=w.cell? ⟨b,o,none⟩) (B: ∀b o,b<w.heap.size->N' b o->N b o):sZ X w' N' g' e l val u Do:=by
 obtain ⟨A,n,cp,hv,hl,hc,h1,h2⟩:=h.val
 refine ⟨A,n,cp,hv,hl,hc,fun j x F k p hp=> ?_, ?_⟩
 ·obtain ⟨a,v,ha,q,I,hn⟩:=h1 j x F k p hp
  refine ⟨a,v,ha, ?_,I.plain z B (X.eplain hp).1 (by rw [(X.eplain hp).2];simp),fun J h'=> ?_⟩
  all_goals grind [World.cell?,Addr.add_block,Addr.add_off]
 grind
theorem KL: ∀ (A:List Bool) (ps:List (PV U)) {σ:St U} {D:Nat->Option Nat} {k:List (PV U)->M U} {fp:List Loc},qw X c tm w σ g D->(vs:Nat->Value)->(∀ (j:Nat) p,ps[j]? =some p->po X w (c.N g D) g (vs j) p)->(lQ A ps k).Rel K σ fp r τ gp->
  ∃qs σ' D' fp',(k qs).Rel K σ' fp' r τ gp/\td X c tm w g σ D σ' D'/\qs.length=ps.length/\(∀ (j:Nat) p,qs[j]? =some p->po X w (c.N g D') g (vs j) p):=by
 intro A
 induction A with
 |nil=>
  intro ps σ D k fp h vs hv x
  simp only [lQ] at x
  obtain ⟨qs,σ',D',fp',h1,h2,B,L,_⟩:=nr ps h vs hv x
  grind
 |cons b A O=>
  intro ps σ D k fp h vs hv x
  cases ps with
  |nil=>
   have F:(k []).Rel K σ fp r τ gp:=by cases b<;>exact x
   exact ⟨[],σ,D,fp,F,.refl h,rfl,by simp⟩
  |cons p ps=>
   cases b with
   |true=>
    simp only [lQ] at x
    obtain ⟨qs,σ',D',fp',h1,h2,B,L⟩:=O ps h (fun j=>vs (j+1)) (fun j p hp=>hv (j+1) p (by grind)) x
    refine ⟨p::qs,σ',D',fp',h1,h2,by simp [B],fun j q E=> ?_⟩
    cases j with
    |zero=>simp at E;subst E;exact h2.rep (hv 0 p rfl)
    |succ j=>grind
   |false=>
    simp only [lQ] at x
    obtain ⟨q,σ1,D1,T,I,J,E,_⟩:=nu p h (hv 0 p rfl) x
    obtain ⟨qs,σ',D',fp',h1,h2,B,L⟩:=O ps J.kB (fun j=>vs (j+1)) (fun j p hp=>J.rep (hv (j+1) p (by grind))) I
    refine ⟨q::qs,σ',D',fp',h1,J.trans h2,by simp [B],fun j W z=> ?_⟩
    cases j with
    |zero=>simp at z;subst z;exact h2.rep E
    |succ j=>grind
theorem aF5 {b:Option (py U)} {n:Nat} {cs:List (PV U)} (h:sF n b=some cs): ∃all,b=some (.cells all)/\n<=all.length/\cs=all.take n:=by
 unfold sF at h
 split at h
 ·rename_i all
  cases hc:xp n all.length with
  |false=>rw [hc] at h;cases h
  |true=>rw [hc] at h;injection h with h;exact ⟨all,rfl,Nat.le_of_ble_eq_true hc,h.symm⟩
 ·cases h
theorem aFY {q:Option Nat} {l:Nat}: ∀ (n:Nat) (todo:List Nat) (acc:List (Nat×py U)) {k:List (Nat×py U)->M U} {fp:List Loc},(∀x∈acc,∃b,σ.b x.1=some b/\b.cutIf (xZ q x.1) l=some x.2)->(h8 q l n todo acc k).Rel K σ fp r τ gp->
  ∃bs fp',(k bs).Rel K σ fp' r τ gp/\ ∀x∈bs,∃b,σ.b x.1=some b/\b.cutIf (xZ q x.1) l=some x.2:=by
 intro n
 induction n with
 |zero=>intro todo acc k fp _ z;exact z.elim
 |succ n E=>
  intro todo acc k fp A z
  cases todo with
  |nil=>exact ⟨acc,fp,z,A⟩
  |cons id todo=>
   simp only [h8] at z
   split at z
   ·exact E _ _ A z
   ·cases hs:xZ q id with
    |false=>
     rw [hs] at z
     simp only [cond_false,M.Rel] at z
     split at z
     ·rename_i b hb
      refine E _ _ (fun x hx=> ?_) z
      rcases xO.1 hx with hx|hx
      ·exact A x hx
      ·simp at hx;subst hx;exact ⟨b,hb,by rw [hs];rfl⟩
     ·exact z.elim
    |true=>
     rw [hs] at z
     simp only [cond_true,M.Rel] at z
     split at z
     ·rename_i cs F
      obtain ⟨all,B,hle,rfl⟩:=aF5 F
      refine E _ _ (fun x hx=> ?_) z
      rcases xO.1 hx with hx|hx
      ·exact A x hx
      ·simp at hx;subst hx
       refine ⟨.cells all,B, ?_⟩
       rw [hs]
       simp only [py.cutIf,cond_true]
       rw [show xp l all.length=true from Nat.ble_eq_true_of_le hle];rfl
     ·exact z.elim
theorem py.glue_nil (b:py U):b.glue []=b:=by cases b<;>simp [py.glue]
theorem uM {q:Option Nat} {id:Nat}:xZ q id=true↔q=some id:=by
 cases q<;>simp [xZ]
def mG (X:qx V P) (w:World) (N:aN) (g:Gh U) (ο:Nat->Array Value) (x:Nat×py U):Prop:= ∃k,g.μ x.1=some k/\qW X w N g (ο k) k x.2
theorem Ew {ο:Nat->Array Value}: ∀ (bs:List (Nat×py U)) {σ:St U} {D:Nat->Option Nat} {k:List (Nat×py U)->M U} {fp:List Loc},qw X c tm w σ g D->(∀x∈bs,mG X w (c.N g D) g ο x)->(il bs k).Rel K σ fp r τ gp->
  ∃qs σ' D' fp',(k qs).Rel K σ' fp' r τ gp/\td X c tm w g σ D σ' D'/\qs.map (·.1)=bs.map (·.1)/\(∀x∈qs,mG X w (c.N g D') g ο x):=by
 intro bs
 induction bs with
 |nil=>intro σ D k fp h _ z;exact ⟨[],σ,D,fp,z,.refl h,rfl,by simp⟩
 |cons x bs L=>
  obtain ⟨id,b⟩:=x
  intro σ D k fp h hb z
  cases b with
  |cells cs=>
   simp only [il] at z
   obtain ⟨kb,hk,cur,e,O,T,W⟩:=hb (id,.cells cs) (by simp)
   obtain ⟨A,σ1,D1,Y,B,E,hl,F,_⟩:=nr cs h (fun j=>cur.getD j undef) W z
   obtain ⟨qs,σ',D',fp',h1,h2,I,h4⟩:=L E.kB (fun x hx=>by
    obtain ⟨k,hk,q⟩:=hb x (by simp [hx])
    exact ⟨k,hk,q.mono rfl (fun _ _ _ _=>rfl) (fun b o _ hn=>by
     rcases hn with hn|hn|⟨i,J⟩
     ·exact .inl hn
     ·exact .inr (.inl hn)
     ·exact .inr (.inr ⟨i,E.D i b J⟩)) (Gh.le.refl g)⟩) B
   refine ⟨(id,.cells A)::qs,σ',D',fp',h1,E.trans h2,by simp [I],fun x hx=> ?_⟩
   rcases xB.1 hx with rfl|hx
   ·exact ⟨kb,hk,cur,e,O,hl▸T,fun j p hp=>h2.rep (F j p hp)⟩
   grind
  |map e l=>
   simp only [il] at z
   obtain ⟨qs,σ',D',fp',h1,h2,I,h4⟩:=L h (fun x hx=>hb x (by simp [hx])) z
   refine ⟨(id,.map e l)::qs,σ',D',fp',h1,h2,by simp [I],fun x hx=> ?_⟩
   rcases xB.1 hx with rfl|hx
   ·obtain ⟨k,hk,q⟩:=hb (id,.map e l) (by simp)
    exact ⟨k,hk,q.mono rfl (fun _ _ _ _=>rfl) (fun b o _ hn=>by
     rcases hn with hn|hn|⟨i,J⟩
     ·exact .inl hn
     ·exact .inr (.inl hn)
     ·exact .inr (.inr ⟨i,h2.D i b J⟩)) (Gh.le.refl g)⟩
   grind
end
section
variable {U:sW} {V:Env U} {P:Program} {X:qx V P} {K:cj U} {c:Ctx} {tm:Array Value} {w:World} {σ:St U} {g:Gh U} {D:Nat->Option Nat}
variable {r:MR U} {τ:St U} {fp gp:List Loc} {N:aN}
structure BV (σ0 σ:St U) (G:List Nat):Prop where
 r: ∀n,σ.r n=σ0.r n
 b: ∀n,σ.b n=σ0.b n
 kW: ∀i∈G,∃ob,σ0.o i=some ob/\σ.o i=some ⟨ob.cJ+1,ob.e,[]⟩/\σ.u i= .read
 other: ∀i,i∉G->σ.o i=σ0.o i/\σ.u i=σ0.u i
theorem BV.refl (σ:St U):BV σ σ []:=⟨fun _=>rfl,fun _=>rfl,by simp,fun _ _=>⟨rfl,rfl⟩⟩
theorem uc.of {w:World} {g:Gh U} {v:Value} {p:PV U} (h:po X w N g v p):uc X w N g v none p:=by
 cases p<;>first|exact h|cases h
theorem aiq {i:Nat} {cJ:Nat} {w:World} {g:Gh U} {v:Value} (h:po X w N g v (.own i cJ)) {nv:Nat} {e:U.E} {val:Value} (hk:g.κ i=some (nv,e,val)):cJ<=nv:=by
 cases h<;>grind
theorem aip {w:World} {g:Gh U} {v:Value} {e:U.E} {l:List (U.El e)} (h:po X w N g v (.sl e l .nil)):v= .slice none 0 0:=by
 cases h<;>grind
theorem KR (h:qw X c tm w σ g D): ∀ (T:List Bool) (ps:List (PV U)) {σ1:St U} {G0:List Nat} {k:List (PV U)->M U} {fp:List Loc} (vs:Nat->Value),BV σ σ1 G0->
  (∀ (j:Nat) p,ps[j]? =some p->po X w (c.N g D) g (vs j) p)->(kh T ps k).Rel K σ1 fp r τ gp->
  ∃ (qs:List (PV U)) (σ':St U) (fp':List Loc) (G:List Nat) (δ:Nat->Option Nat),(k qs).Rel K σ' fp' r τ gp/\qs.length=ps.length/\BV σ σ' (G++G0)/\(∀i∈G,i∉G0)/\(∀j b,δ j=some b->j<ps.length/\ ∃i∈G,D i=some b)/\
   (∀i j b,δ i=some b->δ j=some b->i=j)/\ ∀ (j:Nat) q,qs[j]? =some q->uc X w (c.N g D) g (vs j) (δ j) q:=by
 intro T
 have pass: ∀ (ps:List (PV U)) {σ1:St U} {G0:List Nat} {k:List (PV U)->M U} {fp:List Loc} (vs:Nat->Value),BV σ σ1 G0->
   (∀ (j:Nat) p,ps[j]? =some p->po X w (c.N g D) g (vs j) p)->(k ps).Rel K σ1 fp r τ gp-> ∃ (qs:List (PV U)) (σ':St U) (fp':List Loc) (G:List Nat) (δ:Nat->Option Nat),(k qs).Rel K σ' fp' r τ gp/\qs.length=ps.length/\BV σ σ' (G++G0)/\(∀i∈G,i∉G0)/\(∀j b,δ j=some b->j<ps.length/\ ∃i∈G,D i=some b)/\
   (∀i j b,δ i=some b->δ j=some b->i=j)/\ ∀ (j:Nat) q,qs[j]? =some q->uc X w (c.N g D) g (vs j) (δ j) q:=by
  intro ps σ1 G0 k fp vs hs hv A
  refine ⟨ps,σ1,fp,[],fun _=>none,A,rfl,hs,by simp,by simp,by simp,fun j q hq=> ?_⟩
  exact uc.of (hv j q hq)
 induction T with
 |nil=>intro ps σ1 G0 k fp vs hs hv A;exact pass ps vs hs hv (by cases ps<;>exact A)
 |cons b T ih=>
  intro ps σ1 G0 k fp vs hs hv A
  cases ps with
  |nil=>exact pass [] vs hs hv (by cases b<;>exact A)
  |cons p ps=>
   have step: ∀ {q:PV U} {σ2:St U} {G1:List Nat} {I:List Loc} {Y:List (PV U)->M U} {δ0:Option Nat},Y=(fun rest=>k (q::rest))->BV σ σ2 (G1++G0)->(∀i∈G1,i∉G0)->(∀b,δ0=some b-> ∃i∈G1,D i=some b)->uc X w (c.N g D) g (vs 0) δ0 q->
     (kh T ps Y).Rel K σ2 I r τ gp-> ∃ (qs:List (PV U)) (σ':St U) (fp':List Loc) (G:List Nat) (δ:Nat->Option Nat),(k qs).Rel K σ' fp' r τ gp/\qs.length=(p::ps).length/\BV σ σ' (G++G0)/\(∀i∈G,i∉G0)/\(∀j b,δ j=some b->j<(p::ps).length/\ ∃i∈G,D i=some b)/\
      (∀i j b,δ i=some b->δ j=some b->i=j)/\ ∀ (j:Nat) q,qs[j]? =some q->uc X w (c.N g D) g (vs j) (δ j) q:=by
    intro q σ2 G1 I Y δ0 hk ad bc F hq x
    subst hk
    obtain ⟨qs,σ',fp',G,δ,h1,h2,h3,h4,h5,h6,h7⟩:=ih ps (fun j=>vs (j+1)) ad (fun j p hp=>hv (j+1) p (by grind)) x
    refine ⟨q::qs,σ',fp',G++G1,fun j=>if j=0 then δ0 else δ (j-1),h1,by simp [h2],by grind,fun i hi=> ?_,fun j b hb=> ?_,fun i j b hb B=> ?_,fun j q' bf=> ?_⟩
    ·grind
    ·grind
    ·simp only at hb B
     split at hb<;>split at B
     ·omega
     ·obtain ⟨i1,ao,J⟩:=F b hb
      obtain ⟨_,i2,ax,L⟩:=h5 _ b B
      have:=h.eO _ _ _ J L
      grind
     ·obtain ⟨i1,ao,J⟩:=F b B
      obtain ⟨_,i2,ax,L⟩:=h5 _ b hb
      have:=h.eO _ _ _ J L
      grind
     grind
    grind
   cases b with
   |false=>
    simp only [kh] at A
    have O:=hv 0 p rfl
    refine step (δ0:=none) rfl (G1:=[]) hs (by simp) (by simp) (uc.of O) A
   |true=>
    simp only [kh] at A
    split at A
    ·rename_i i cJ
     obtain ⟨ob,I,z,W,x⟩:=mF A
     simp only [M.Rel] at x
     have O:=hv 0 _ rfl
     by_cases hG:i∈G0
     ·obtain ⟨az,a6,a7,_⟩:=hs.kW i hG
      rw [a7] at z
      injection z with z
      subst z
      obtain ⟨val,hk,_⟩:=h.cX i az a6
      have:=aiq O hk
      grind
     ·obtain ⟨q1,q2⟩:=hs.other i hG
      rw [q2] at x
      rw [q1] at z
      have hO:=GV h O z W
      cases hu:σ.u i with
      |read=>rw [hu] at x;exact x.elim
      |app=>rw [hu] at x;exact x.elim
      |wr=>
       rw [hu] at x hO
       refine step (G1:=[i]) (δ0:=D i) (q:= .fresh ob.e ob.l) (σ2:=(σ1.dI i ⟨ob.cJ+1,ob.e,[]⟩).dH i .read) rfl ⟨hs.r,hs.b,fun j hj=> ?_,fun j hj=> ?_⟩ (fun j hj=>by grind) (fun b hb=>⟨i,by simp,hb⟩) hO x
       ·simp only [List.cons_append,zg,xB] at hj
        by_cases E:j=i
        ·subst E
         exact ⟨ob,z,by simp,by simp⟩
        ·obtain ⟨a8,a1,a2,a3⟩:=hs.kW j (hj.resolve_left E)
         exact ⟨a8,a1,by simpa [Ne.symm E] using a2,by simpa [Ne.symm E] using a3⟩
       ·simp only [List.cons_append,zg,xB,not_or] at hj
        obtain ⟨a1,a2⟩:=hs.other j hj.2
        exact ⟨by simpa [Ne.symm hj.1] using a1,by simpa [Ne.symm hj.1] using a2⟩
    ·rename_i e
     have O:=hv 0 _ rfl
     refine step (δ0:=none) (q:= .fresh e []) rfl (G1:=[]) hs (by simp) (by simp) ?_ A
     exact ⟨none,0,0,aip O,rfl,xq _,by simp,fun _=>⟨rfl,rfl,rfl⟩,fun h=>by cases h⟩
    ·exact A.elim
theorem aDk {q:Option Nat} {n:Nat} {rs:List (PV U)}: ∀ (l:List (Nat×py U)) {σ:St U} {m:M U} {fp:List Loc},(l.map (·.1)).Nodup->(∀id∈l.map (·.1),q=some id-> ∃b,σ.b id=some b/\rs=b.rest n)->(Rt q n l m).Rel K σ fp r τ gp->
  ∃σ' fp',m.Rel K σ' fp' r τ gp/\(∀n,σ'.r n=σ.r n)/\(∀i,σ'.o i=σ.o i)/\(∀i,σ'.u i=σ.u i)/\(∀id,id∉l.map (·.1)->σ'.b id=σ.b id)/\ ∀x∈l,σ'.b x.1=some (x.2.glue (bif xZ q x.1 then rs else [])):=by
 intro l
 induction l with
 |nil=>intro σ m fp _ _ z;exact ⟨σ,fp,z,fun _=>rfl,fun _=>rfl,fun _=>rfl,fun _ _=>rfl,by simp⟩
 |cons x l ih=>
  obtain ⟨id,b⟩:=x
  intro σ m fp A W z
  rw [Fy,List.nodup_cons] at A
  have step: ∀ {B:py U} {F:List Loc},B=b.glue (bif xZ q id then rs else [])->(Rt q n l m).Rel K (σ.eN id B) F r τ gp->
    ∃σ' fp',m.Rel K σ' fp' r τ gp/\(∀n,σ'.r n=σ.r n)/\(∀i,σ'.o i=σ.o i)/\(∀i,σ'.u i=σ.u i)/\(∀id',id'∉id::l.map (·.1)->σ'.b id'=σ.b id')/\ ∀x∈(id,b)::l,σ'.b x.1=some (x.2.glue (bif xZ q x.1 then rs else [])):=by
   intro B F hB J
   obtain ⟨σ',fp',h1,h2,h3,h4,Y,h6⟩:=ih A.2 (fun i hi L=>by
    have O:id≠i:=fun e=>A.1 (e▸hi)
    obtain ⟨b',T,e2⟩:=W i (List.mem_cons_of_mem _ hi) L
    exact ⟨b',by rw [St.setB_b,if_neg O];exact T,e2⟩) J
   refine ⟨σ',fp',h1,h2,h3,h4,fun id' E=> ?_,fun y hy=> ?_⟩
   ·simp only [xB,not_or] at E
    rw [Y id' E.2,St.setB_b,if_neg (Ne.symm E.1)]
   ·rcases xB.1 hy with rfl|hy
    ·rw [Y id A.1,St.setB_b,if_pos rfl,hB]
    ·exact h6 y hy
  rw [Fy]
  cases hs:xZ q id with
  |false=>
   simp only [Rt,hs,cond_false,M.Rel] at z
   exact step (by rw [hs,cond_false,py.glue_nil]) z
  |true=>
   simp only [Rt,hs,cond_true] at z
   split at z
   ·rename_i cs
    obtain ⟨σ1,I,z⟩:=z
    obtain ⟨all,T,e2,e3,rfl⟩:=St.setH_inv I
    obtain ⟨b',f1,f2⟩:=W id (by simp) (uM.1 hs)
    rw [T] at f1
    injection f1 with f1
    subst f1
    exact step (by rw [hs,cond_true,f2];rfl) z
   ·exact z.elim
theorem ac5: ∀ (l:List Nat) {m:M U} {fp:List Loc},(z_ l m).Rel K σ fp r τ gp->(∀id∈l,σ.b id=none/\id<1000000)/\ ∃fp',m.Rel K σ fp' r τ gp:=by
 intro l
 induction l with
 |nil=>intro m fp q;exact ⟨by simp,fp,q⟩
 |cons id l z=>
  intro m fp q
  simp only [z_,M.Rel] at q
  split at q
  ·rename_i hb
   cases x:Nat.blt id 1000000 with
   |false=>rw [x] at q;exact q.elim
   |true=>
   rw [x] at q
   obtain ⟨h1,h2⟩:=z q
   simp_all
  ·exact q.elim
theorem AG: ∀ {l:List Nat} {i:Nat},i∈l->l[va l i]? =some i/\va l i<l.length:=by
 intro l
 induction l with
 |nil=>simp
 |cons m l x=>
  intro i h
  simp only [va]
  cases hb:qy m i with
  |true=>
   simp_all
  |false=>
   have q:i≠m:=fun e=>by simp_all
   grind
theorem AH: ∀ {l:List Nat},l.Nodup-> ∀ {j i:Nat},l[j]? =some i->va l i=j:=by
 intro l
 induction l with
 |nil=>simp
 |cons m l x=>
  intro hn j i h
  simp only [List.nodup_cons] at hn
  simp only [va]
  cases j with
  |zero=>simp_all
  |succ j=>
   have h':l[j]? =some i:=by grind
   have q:m≠i:=fun e=>hn.1 (e▸Im h')
   have hb:qy m i=false:=by
    cases z:qy m i<;>simp_all
   grind
theorem NO: ∀ (n s k:Nat),k<n->(cK s n)[k]? =some (s+k):=by
 intro n
 induction n<;>grind [cK]
theorem AB: ∀ (n s:Nat),(cK s n).length=n:=by
 intro n
 induction n<;>grind [cK]
theorem agV: ∀ (n s:Nat),(cK s n).Nodup/\ ∀i∈cK s n,s<=i:=by
 intro n
 induction n<;>grind [cK]
end
section
variable {U:sW} {V:Env U} {P:Program} {X:qx V P} {K:cj U} {c:Ctx} {tm:Array Value} {w:World} {σ:St U} {g:Gh U} {D:Nat->Option Nat}
def Ig (N:aN) (n:Nat) (ν:Nat->Nat) (δ:Nat->Option Nat):aN:=fun b o=>N b o/\(∀k,k<n->ν k≠b)/\ ∀j,δ j≠some b
theorem Jw {N:aN} {n:Nat} {ν:Nat->Nat} {δ:Nat->Option Nat} (h1: ∀k o,k<n->N (ν k) o) (h2: ∀j b o,δ j=some b->N b o):NB (Ig N n ν δ) n ν δ=N:=by
 funext b o
 apply propext
 constructor
 ·rintro (h|⟨k,hk,rfl⟩|⟨j,hj⟩)
  ·exact h.1
  all_goals grind
 ·intro h
  by_cases ha: ∃k,k<n/\ν k=b
  ·exact .inr (.inl ha)
  ·by_cases hb: ∃j,δ j=some b
   ·exact .inr (.inr hb)
   ·exact .inl ⟨h,fun k hk e=>ha ⟨k,hk,e⟩,fun j e=>hb ⟨j,e⟩⟩
theorem Jg (h:qw X c tm w σ g D) {b o:Nat} (hn:(c.N g D) b o):b<w.heap.size:=by
 rcases hn with hn|⟨id,q⟩|⟨i,x⟩
 ·exact Nat.lt_of_lt_of_le (c.n0 _ _ hn).1 h.ext.size
 ·exact (h.new id b q).1
 ·exact (h.cY i b x).1
theorem qw.called (h:qw X c tm w σ g D) {w':World} {σ':St U} {ids new G:List Nat} {ν ν':Nat->Nat} {δ δ':Nat->Option Nat} {cs:List (py U)} {m d:Nat} {fo:Option (Ob U)} {fval:Value} {fD:Option Nat} {bt:Nat->Array Value} {R:Nat->List (PV U)}
  (bz:(ids++new).Nodup) (hlen:(ids++new).length=cs.length) (cy: ∀ (k:Nat) id,ids[k]? =some id->g.μ id=some (ν k)) (b0: ∀id∈new,σ.b id=none) (b4: ∀id∈new,id<1000000)
  (O: ∀j b,δ j=some b-> ∃i∈G,D i=some b)
  (hG: ∀i∈G,∃ob,σ.o i=some ob/\(fo=none\/i≠d->σ'.o i=some ⟨ob.cJ+1,ob.e,[]⟩/\σ'.u i= .read))
  (cu: ∀i,i∉G->(fo=none\/i≠d)->σ'.o i=σ.o i/\σ'.u i=σ.u i)
  (hfo: ∀ob,fo=some ob->σ'.o d=some ob/\σ'.u d= .wr/\(∀a7,σ.o d=some a7->a7.cJ<ob.cJ)/\sZ X w' (NB (Ig (c.N g D) ids.length ν δ) cs.length ν' δ') (gB U cs.length ν') ob.e ob.l fval .wr fD)
  (ao: ∀b,fD=some b-> ∃j,δ' j=some b) (dt:fo=none->fD=none)
  (hr: ∀n,σ'.r n=σ.r n) (c5: ∀id,id∉ids++new->σ'.b id=σ.b id) (b5: ∀ (k:Nat) id b,(ids++new)[k]? =some id->cs[k]? =some b->σ'.b id=some ((b.ren true fun i=>(ids++new).getD i 0).glue (R id)))
  (a8: ∀ (N':aN) (g':Gh U),(∀v p,po X w (c.N g D) g v p->po X w' N' g' v p)-> ∀ (k:Nat) id b,(ids++new)[k]? =some id->k<cs.length->qW X w' N' g' (bt (ν' k)) (ν' k) b->qW X w' N' g' (c.ο (ν' k)) (ν' k) (b.glue (R id)))
  (back:L6 X w w' (Ig (c.N g D) ids.length ν δ) ν δ bt ids.length m ν' δ' cs):
  ∃g' D',qw X c tm w' σ' g' D'/\(∀v p,po X w' (NB (Ig (c.N g D) ids.length ν δ) cs.length ν' δ') (gB U cs.length ν') v p->po X w' (c.N g' D') g' v (p.ren true fun i=>(ids++new).getD i 0))/\
   ∀ob,fo=some ob->g'.κ d=some (ob.cJ,ob.e,fval):=by
 have b6: ∀id,id∈ids++new-> ∃k,k<cs.length/\(ids++new)[k]? =some id/\va (ids++new) id=k:=by
  intro id x
  obtain ⟨h1,h2⟩:=AG x
  grind
 have cx: ∀id∈ids,g.μ id=some (ν' (va (ids++new) id)):=by
  intro id x
  obtain ⟨k,hk⟩:=List.mem_iff_getElem?.1 x
  have ax:(ids++new)[k]? =some id:=by grind
  rw [AH bz ax,back.old k (Dg.1 hk).1]
  grind
 have bc: ∀id∈new,g.μ id=none:=fun id x=>h.free (b0 id x)
 have az: ∀id∈new,w.heap.size<=ν' (va (ids++new) id)/\ids.length<=va (ids++new) id:=by
  intro id x
  obtain ⟨k,hk⟩:=List.mem_iff_getElem?.1 x
  have ax:(ids++new)[ids.length+k]? =some id:=by grind
  rw [AH bz ax]
  have:=(Dg.1 ax).1
  exact ⟨back.new _ (by omega) (by omega),by omega⟩
 let g':Gh U:={μ:=fun id=>if id∈ids++new then some (ν' (va (ids++new) id)) else g.μ id,κ:=fun j=>if j=d/\fo.isSome=true then fo.map (fun ob=>(ob.cJ,ob.e,fval)) else if j∈G then (σ.o j).map (fun ob=>(ob.cJ+1,ob.e,.slice none 0 0)) else g.κ j}
 let D':Nat->Option Nat:=fun j=>if j=d/\fo.isSome=true then fD else if j∈G then none else D j
 have z: ∀id,id∈ids++new->g'.μ id=some (ν' (va (ids++new) id)):=fun id x=>by grind
 have A: ∀id,id∉ids++new->g'.μ id=g.μ id:=fun id x=>by grind
 have B: ∀id,id∈ids++new->va (ids++new) id<cs.length:=fun id x=>by grind
 have dx: ∀i cJ e val,g.κ i=some (cJ,e,val)-> ∃ob,σ.o i=some ob/\ob.cJ=cJ:=by
  intro i cJ e val hk
  cases ho:σ.o i with
  |none=>have:=(h.gD i ho).1;grind
  |some ob=>
   obtain ⟨v1,h1,_⟩:=h.cX i ob ho
   grind
 have hle:g.le g':=by
  refine ⟨fun id b hb=> ?_,fun i cJ e val hk=> ?_⟩
  all_goals grind [Option.isSome_iff_exists]
 have T: ∀j b,D' j=some b->(j=d/\fo.isSome=true/\fD=some b)\/(¬ (j=d/\fo.isSome=true)/\j∉G/\D j=some b):=by
  grind
 have J: ∀k,k<ids.length-> ∃id,ids[k]? =some id/\g.μ id=some (ν k):=fun k hk=>⟨ids[k],zk hk,cy k _ (zk hk)⟩
 have W: ∀b o,(c.N g' D') b o->(NB (Ig (c.N g D) ids.length ν δ) cs.length ν' δ') b o:=by
  rintro b o (hn|⟨id,x⟩|⟨j,hj⟩)
  ·refine .inl ⟨.inl hn,fun k hk e=> ?_,fun j e=> ?_⟩
   ·obtain ⟨id,_,x⟩:=J k hk
    rw [e] at x
    have h1:=c.n0 _ _ hn
    rcases (h.new id b x).2 with h2|h2<;>grind
   ·obtain ⟨i,_,hi⟩:=O j b e
    have h1:=c.n0 _ _ hn
    rcases (h.cY i b hi).2 with h2|h2<;>grind
  ·by_cases hm:id∈ids++new
   ·rw [z id hm] at x
    injection x with x
    exact .inr (.inl ⟨_,B id hm,x⟩)
   ·rw [A id hm] at x
    refine .inl ⟨.inr (.inl ⟨id,x⟩),fun k hk e=> ?_,fun j e=> ?_⟩
    ·obtain ⟨id',E,F⟩:=J k hk
     rw [e] at F
     have:=h.inj _ _ _ x F
     grind
    ·obtain ⟨i,_,hi⟩:=O j b e
     exact h.eV i id b hi x
  ·rcases T j b hj with ⟨_,_,hf⟩|⟨_,bf,bh⟩
   ·obtain ⟨q,hq⟩:=ao b hf
    exact .inr (.inr ⟨q,hq⟩)
   ·refine .inl ⟨.inr (.inr ⟨j,bh⟩),fun k hk e=> ?_,fun q e=> ?_⟩
    ·obtain ⟨id',E,F⟩:=J k hk
     rw [e] at F
     exact h.eV j id' b bh F
    ·obtain ⟨i,hi,Y⟩:=O q b e
     have:=h.eO _ _ _ bh Y
     grind
 have a6: ∀v p,po X w' (NB (Ig (c.N g D) ids.length ν δ) cs.length ν' δ') (gB U cs.length ν') v p->po X w' (c.N g' D') g' v (p.ren true fun i=>(ids++new).getD i 0):=by
  intro v p hp
  refine hp.ren true _ (fun _ _ _ _=>rfl) (fun b o _ hn=>W b o hn) (.inr fun _=>rfl) fun i hi b hb=> ?_
  grind [gB,AH]
 refine ⟨g',D',h.move (fun id=>id∈ids++new) (fun j=>j∈G\/(j=d/\fo.isSome=true)) back.ext.os back.ext.tape back.ext.output back.ext.size (fun b hb h1 h2=> ?_) hr hle (fun id k hk=> ?_) (fun id k h1 hk=> ?_) (fun id id' k h1 hk I=> ?_) (fun id x=>⟨c5 id x,A id x⟩)
  (fun bn id b x hb=> ?_) (fun id k x hk=> ?_) (fun j b hb=> ?_) (fun j j' b hj hb c9=> ?_) (fun j b hj hb id x=> ?_) (fun j hj=> ?_) (fun j ob hj ho=> ?_) (fun j hj ho=> ?_),a6,fun ob dy=> ?_⟩
 ·refine back.ext.block b hb fun hm=> ?_
  rcases xO.1 hm with hm|hm<;>grind
 ·by_cases x:id∈ids++new
  ·rw [z id x] at hk
   injection hk with hk
   rcases xO.1 x with h1|h1
   ·grind
   ·refine .inr ⟨bc id h1, ?_, ?_⟩
    ·grind
    ·rw [<-hk];exact back.iP.lt _ (B id x)
  grind
 ·by_cases x:id∈ids++new
  ·rcases xO.1 x with h2|h2
   ·grind
   ·have:=b4 id h2
    cases hf:c.fix id with
    |none=>rfl
    |some k=>have:=(c.low id k hf).1;omega
  grind
 ·by_cases x:id∈ids++new
  ·rw [z id x] at hk
   injection hk with hk
   by_cases E:id'∈ids++new
   ·rw [z id' E] at I
    injection I with I
    have hp:=back.iP.inj _ _ (B id x) (B id' E) (hk.trans I.symm)
    grind
   ·rw [A id' E] at I
    exfalso
    rcases xO.1 x with h2|h2
    ·grind
    ·have:=(az id h2).1
     have:=(h.new id' k I).1
     omega
  grind
 ·obtain ⟨k,hk,L,dd⟩:=b6 id x
  refine ⟨_,z id x, ?_⟩
  have b7:cs[k]? =some cs[k]:=zk hk
  have:=b5 k id _ L b7
  rw [this] at hb
  injection hb with hb
  subst hb
  rw [dd]
  refine a8 _ _ bn k id _ L hk ?_
  refine (back.boxes k _ b7).ren true _ rfl (fun _ _ _ _=>rfl) (fun b o _ hn=>W b o hn) (.inr fun _=>rfl) fun i hi b hb=> ?_
  simp only [gB] at hb
  split at hb<;>grind [Im,AH]
 ·obtain ⟨k,I,L,_⟩:=b6 id x
  exact ⟨_,b5 k id _ L (zk I)⟩
 ·rcases T j b hb with ⟨hj,hs,hf⟩|⟨h1,h2,h3⟩
  ·obtain ⟨q,hq⟩:=ao b hf
   rcases back.cY q b hq with h1|⟨q',h1⟩
   ·exact .inr (.inr ⟨h1,back.iP.dlt q b hq⟩)
   grind
  grind
 ·rcases T j b hb with ⟨dh,hs,hf⟩|⟨h1,h2,h3⟩
  ·rcases T j' b c9 with ⟨ds,_,_⟩|⟨ea,ec,ch⟩
   ·omega
   ·exfalso
    obtain ⟨q,hq⟩:=ao b hf
    rcases back.cY q b hq with h4|⟨q',h4⟩
    ·have:=(h.cY j' b ch).1;omega
    ·obtain ⟨i,hi,Y⟩:=O q' b h4
     have:=h.eO _ _ _ ch Y
     grind
  grind
 ·rcases T j b hb with ⟨dh,hs,hf⟩|⟨h1,h2,h3⟩
  ·obtain ⟨q,hq⟩:=ao b hf
   by_cases hm:id∈ids++new
   ·rw [z id hm] at x
    injection x with x
    exact back.iP.dν q b hq _ (B id hm) x
   ·rw [A id hm] at x
    rcases back.cY q b hq with h4|⟨q',h4⟩
    ·have:=(h.new id b x).1;omega
    ·obtain ⟨i,hi,Y⟩:=O q' b h4
     exact h.eV i id b Y x
  grind
 ·have h1:j∉G:=fun h=>hj (.inl h)
  have h2: ¬ (j=d/\fo.isSome=true):=fun h=>hj (.inr h)
  have h3:fo=none\/j≠d:=by
   cases M:fo<;>grind
  grind
 ·by_cases ad:j=d/\fo.isSome=true
  ·obtain ⟨dn,M⟩:=Option.isSome_iff_exists.1 ad.2
   obtain ⟨a1,a2,a3,a4⟩:=hfo dn M
   obtain ⟨rfl,hs⟩:=ad
   rw [a1] at ho
   injection ho with ho
   subst ho
   refine ⟨fval,by grind, ?_⟩
   rw [a2,show D' j=fD by grind]
   exact a4.turn (fun _ _=>rfl) (fun _ _ _ _=>rfl) (fun b o _ hn=>W b o hn)
  ·have bf:j∈G:=hj.resolve_right ad
   have h3:fo=none\/j≠d:=by
    cases M:fo<;>grind
   obtain ⟨a7,b1,b2⟩:=hG j bf
   obtain ⟨b2,b3⟩:=b2 h3
   rw [b2] at ho
   injection ho with ho
   subst ho
   refine ⟨.slice none 0 0,by grind, ?_⟩
   rw [b3,show D' j=none by grind]
   exact ⟨none,0,0,rfl,rfl,xq _,by simp,by simp⟩
 ·exfalso
  by_cases ad:j=d/\fo.isSome=true
  ·grind [Option.isSome_iff_exists]
  ·have bf:j∈G:=hj.resolve_right ad
   have h3:fo=none\/j≠d:=by
    cases M:fo<;>grind
   grind
 grind
end
section
variable {U:sW} {V:Env U} {P:Program} {X:qx V P} {K:cj U} {c:Ctx} {tm:Array Value} {a:Act} {w:World} {σ:St U} {g:Gh U} {D:Nat->Option Nat}
variable {next:Act->World->Prop} {Q:Exit->Act->World->Prop} {r:MR U} {τ:St U} {fp gp:List Loc} {N:aN}
variable {dst:Option Tmp} {ty:TypeId} {pos:String} {after:Array Edge} {gd:Option (Nat×Bool)}
def PV.noFresh:PV U->Prop
 | .tuple ps=>ps.all PV.notFresh=true
 |p=>p.notFresh=true
theorem akN {d:Nat}: ∀ (ps:List (PV U)) {k:List (PV U)->M U} {fp:List Loc},(ww d ps k).Rel K σ fp r τ gp->
  (∃fp',(k ps).Rel K σ fp' r τ gp/\ps.all PV.notFresh=true)\/
  ∃e l nv fp' pre post,(k (pre++ .own d nv::post)).Rel K ((σ.dI d ⟨nv,e,l⟩).dH d .wr) fp' r τ gp/\(∀ob,σ.o d=some ob->ob.cJ<nv)/\ps=pre++ .fresh e l::post/\pre.all PV.notFresh=true/\post.all PV.notFresh=true:=by
 intro ps
 induction ps with
 |nil=>intro k fp q;exact .inl ⟨fp,q,rfl⟩
 |cons p ps B=>
  intro k fp q
  have other:p.notFresh=true->(ww d ps fun r=>k (p::r)).Rel K σ fp r τ gp->((∃fp',(k (p::ps)).Rel K σ fp' r τ gp/\(p::ps).all PV.notFresh=true)\/
     ∃e l nv fp' pre post,(k (pre++ .own d nv::post)).Rel K ((σ.dI d ⟨nv,e,l⟩).dH d .wr) fp' r τ gp/\(∀ob,σ.o d=some ob->ob.cJ<nv)/\(p::ps)=pre++ .fresh e l::post/\pre.all PV.notFresh=true/\post.all PV.notFresh=true):=fun hp A=>by
   grind
  cases p with
  |fresh e l=>
   simp only [ww] at q
   cases hb:ps.all PV.notFresh with
   |false=>rw [hb] at q;exact q.elim
   |true=>
    rw [hb] at q
    simp only [cond_true,M.Rel] at q
    split at q
    ·rename_i ob x
     exact .inr ⟨e,l,ob.cJ+1,_,[],ps,q,fun z h=>by grind,rfl,rfl,hb⟩
    ·rename_i x
     exact .inr ⟨e,l,0,_,[],ps,q,(fun z h=>by grind),rfl,rfl,hb⟩
  |_=>exact other rfl q
theorem akO {d:Nat} {p:PV U} {k:PV U->M U} {fp:List Loc} (q:(BY d p k).Rel K σ fp r τ gp):
  (∃fp',(k p).Rel K σ fp' r τ gp/\p.noFresh)\/
  ∃e l nv fp',(∀ob,σ.o d=some ob->ob.cJ<nv)/\((p= .fresh e l/\(k (.own d nv)).Rel K ((σ.dI d ⟨nv,e,l⟩).dH d .wr) fp' r τ gp)\/
   ∃pre post,p= .tuple (pre++ .fresh e l::post)/\(k (.tuple (pre++ .own d nv::post))).Rel K ((σ.dI d ⟨nv,e,l⟩).dH d .wr) fp' r τ gp/\pre.all PV.notFresh=true/\post.all PV.notFresh=true):=by
 cases p with
 |fresh e l=>
  grind [BY,M.Rel]
 |tuple ps=>
  simp only [BY] at q
  rcases akN ps q with ⟨fp',h1,h2⟩|⟨e,l,nv,fp',pre,post,h1,h2,x,z,A⟩
  ·exact .inl ⟨fp',h1,h2⟩
  grind
 |_=>exact .inl ⟨_,q,rfl⟩
theorem uc.rep {v:Value} {Do:Option Nat} {p:PV U} (h:uc X w N g v Do p) (hp:p.notFresh=true):po X w N g v p:=by
 cases p<;>first|exact h|cases hp
theorem Bk {pz:Bool} {ρ:Nat->Nat} (p:PV U):(p.ren pz ρ).notFresh=p.notFresh:=by
 cases p with
 |sl e l o=>cases o<;>cases pz<;>rfl
 |_=>rfl
theorem Qr {pz:Bool} {ρ:Nat->Nat} {p:PV U} {e:U.E} {l:List (U.El e)} (h:p.ren pz ρ= .fresh e l):p= .fresh e l:=by
 cases p with
 |fresh e' q=>exact h
 |sl e l o=>cases o<;>cases pz<;>cases h
 |_=>cases h
theorem aio {pz:Bool} {ρ:Nat->Nat} {p:PV U} {l:List (PV U)} (h:p.ren pz ρ= .tuple l): ∃ps,p= .tuple ps/\l=ps.map (PV.ren pz ρ):=by
 cases p with
 |tuple ps=>grind [PV.ren,KY]
 |sl e l o=>cases o<;>cases pz<;>cases h
 |_=>cases h
theorem uc.ren {w':World} {N':aN} {g':Gh U} {v:Value} {Do:Option Nat} {p:PV U} (h:uc X w N g v Do p) (pz:Bool) (ρ:Nat->Nat) (x:p.noObj=true) (z: ∀i,i∈p.ids-> ∀b,g.μ i=some b->g'.μ (ρ i)=some b):uc X w N g' v Do (p.ren pz ρ):=by
 by_cases hp:p.notFresh=true
 ·have:=(h.rep hp).ren (g':=g') (N':=N) (w':=w) pz ρ (fun _ _ _ _=>rfl) (fun _ _ _ h=>h) (.inl x) z
  have A:(p.ren pz ρ).notFresh=true:=by rw [Bk];exact hp
  generalize p.ren pz ρ=q at this A
  cases q<;>first|exact this|cases A
 ·cases p with
  |fresh e l=>exact sZ.turn h (fun _ _=>rfl) (fun _ _ _ _=>rfl) (fun _ _ _ h=>h)
  |_=>exact absurd rfl hp
theorem QP {f:FuncId} {fn:Func} (hf:P.funcs[f]? =some fn) (hn:(fn.name== "runtime.NumGoroutine")=false) (hb:fn.body.isNone=false) (args:Array Value) (w:World):(callFunc f args).run P w= .ok (.enter f args) w:=by
 grind [callFunc,Bl,run_program,Al,Sem.run_pure]
theorem aiG {x:Operand} {cl:Call} (hc:cl.callee= .value x) {f:FuncId} {a0s bs:Array Value} (he:a.eval x= .func (.func f) a0s bs) (w:World):
  (execOp a.eval ⟨dst,.call cl,ty,pos,after,gd⟩).run P w=(callFunc f (a0s++cl.args.map a.eval++bs)).run P w:=by
 grind [execOp,resolve,Deferred.ofValue,invoke]
theorem pT {xs:Array Value} {l:List Value} (j:Nat) (h:xs.toList=l):xs.getD j undef=l.getD j undef:=by
 grind [H5]
theorem Qw {xs ys:List Value} {ps qs:List (PV U)} (hl:xs.length=ps.length) (h1: ∀ (j:Nat) p,ps[j]? =some p->po X w N g (xs.getD j undef) p) (h2: ∀ (j:Nat) p,qs[j]? =some p->po X w N g (ys.getD j undef) p):
  ∀ (j:Nat) p,(ps++qs)[j]? =some p->po X w N g ((xs++ys).getD j undef) p:=by
 grind
end
set_option maxHeartbeats 1000000
section
variable {U:sW} {V:Env U} {P:Program} {X:qx V P} {c:Ctx} {a:Act} {w:World} {σ:St U} {g:Gh U} {D:Nat->Option Nat}
variable {next:Act->World->Prop} {Q:Exit->Act->World->Prop} {r:MR U} {τ:St U} {fp gp:List Loc} {N:aN}
theorem Ac {all:List (PV U)} {bs:List (Nat×py U)} (h:kj all bs=true):PV.noObjL all=true/\(∀x∈bs,x.2.noObj=true)/\(bs.map (·.1)).Nodup/\(∀i∈PV.idsL all,i∈bs.map (·.1))/\ ∀x∈bs,∀i∈x.2.ids,i∈bs.map (·.1):=by
 unfold kj at h
 simp only [pX] at h
 obtain ⟨h1,h2,E,q⟩:=h
 have z: ∀i,i∈PV.idsL all++bs.flatMap (·.2.ids)->i∈bs.map (·.1):=by
  intro i A
  obtain ⟨j,hj,B⟩:=List.any_eq_true.1 (xm.1 q i A)
  simp_all
 grind [D8]
theorem NN {g:Gh U} {ο:Nat->Array Value} {bs:List (Nat×py U)} (hb: ∀x∈bs,mG X w N g ο x): ∃ν:Nat->Nat,∀ (k:Nat) id,(bs.map (·.1))[k]? =some id->g.μ id=some (ν k):=by
 refine ⟨fun k=>(g.μ ((bs.map (·.1)).getD k 0)).getD 0,fun k id q=> ?_⟩
 have z:=Im q
 obtain ⟨x,A,rfl⟩:=wD.1 z
 obtain ⟨kb,hk,_⟩:=hb x A
 grind
theorem EE {tm:Array Value} (h:qw X c tm w σ g D) (pz:Bool) {qs:List (PV U)} {bs:List (Nat×py U)} {vs:Array Value} {δ:Nat->Option Nat} {ο:Nat->Array Value} (M: ∀b,w.heap.size<=b->ο b= #[]) {G:List Nat} (O:vs.size=qs.length) (hb: ∀x∈bs,mG X w (c.N g D) g ο x) (hh:kj qs bs=true)
  (E: ∀j b,δ j=some b->j<qs.length/\ ∃i∈G,D i=some b) (L: ∀i j b,δ i=some b->δ j=some b->i=j) (hq: ∀ (j:Nat) q,qs[j]? =some q->uc X w (c.N g D) g (vs.getD j undef) (δ j) q)
  {ν:Nat->Nat} (T: ∀ (k:Nat) id,(bs.map (·.1))[k]? =some id->g.μ id=some (ν k)) {F:Nat×py U->py U}
  (hF: ∀x,x.2.noObj=true-> ∀ (g':Gh U) (t:Array Value) (k:Nat),(∀i,i∈x.2.ids-> ∀b,g.μ i=some b->g'.μ (va (bs.map (·.1)) i)=some b)->qW X w (c.N g D) g t k x.2->qW X w (c.N g D) g' t k (F x)):
  NB (Ig (c.N g D) bs.length ν δ) bs.length ν δ=c.N g D/\
   uL X w vs (Ig (c.N g D) bs.length ν δ) ν δ ο (PV.renL pz (va (bs.map (·.1))) qs) (bs.map F):=by
 obtain ⟨h1,h2,h3,h4,h5⟩:=Ac hh
 have z: ∀k,k<bs.length-> ∃id,(bs.map (·.1))[k]? =some id/\g.μ id=some (ν k):=fun k hk=>⟨_,zk (by grind),T k _ (zk (by grind))⟩
 have I:NB (Ig (c.N g D) bs.length ν δ) bs.length ν δ=c.N g D:=Jw (fun k o hk=>by
  obtain ⟨id,_,W⟩:=z k hk
  exact .inr (.inl ⟨id,W⟩)) fun j b o hj=>by
  obtain ⟨_,i,_,A⟩:=E j b hj
  exact .inr (.inr ⟨i,A⟩)
 have Y: ∀i,i∈bs.map (·.1)-> ∀b,g.μ i=some b->(gB U bs.length ν).μ (va (bs.map (·.1)) i)=some b:=by
  grind [AG,gB]
 refine ⟨I,⟨fun i j A hj e=> ?_,fun i A=> ?_,fun j b hj=> ?_,L,fun j b hj i A e=> ?_,fun b o hn=>⟨Jg h hn.1,by simpa using hn.2.1,hn.2.2⟩⟩,by simp [KY,O],fun j b hj=>by grind [KY],fun b o B=>⟨(h.gF B).1,fun i A e=> ?_,fun j hj=> ?_⟩,fun j p hp=> ?_,fun k b B=> ?_,M⟩
 ·simp only [List.length_map] at A hj
  obtain ⟨id,q1,q2⟩:=z i A
  obtain ⟨id',q3,q4⟩:=z j hj
  rw [e] at q2
  have:=h.inj _ _ _ q2 q4
  grind [List.getElem?_inj]
 ·simp only [List.length_map] at A
  obtain ⟨id,q1,q2⟩:=z i A
  exact (h.new id _ q2).1
 ·obtain ⟨_,i,_,A⟩:=E j b hj
  exact (h.cY i b A).1
 ·simp only [List.length_map] at A
  obtain ⟨id,q1,q2⟩:=z i A
  obtain ⟨_,i',_,ad⟩:=E j b hj
  rw [e] at q2
  exact h.eV i' id b ad q2
 ·simp only [List.length_map] at A
  obtain ⟨id,_,q2⟩:=z i A
  exact (h.gF B).2.1 id (e▸q2)
 ·obtain ⟨_,i,_,A⟩:=E j b hj
  exact (h.gF B).2.2 i A
 ·simp only [List.length_map,I]
  rw [KY,List.getElem?_map,Option.map_eq_some_iff] at hp
  obtain ⟨q,J,rfl⟩:=hp
  exact (hq j q J).ren (w':=w) (N':=c.N g D) pz _ (MC h1 J) fun i A b hb=>Y i (h4 i (fj J i A)) b hb
 ·simp only [List.length_map,I]
  rw [List.getElem?_map,Option.map_eq_some_iff] at B
  obtain ⟨x,hx,rfl⟩:=B
  have ao:=Im hx
  obtain ⟨kb,hk,ax⟩:=hb x ao
  grind
variable {dst:Option Tmp} {ty:TypeId} {pos:String} {after:Array Edge} {gd:Option (Nat×Bool)}
theorem agQ {w:World} {v:Value} {δ:Nat->Option Nat} {p:PV U} {N:aN} {g:Gh U} (h:L5 X w N g v δ p) (hp:p.noFresh):po X w N g v p:=by
 cases p with
 |tuple ps=>
  obtain ⟨vs,rfl,hl,z⟩:=h
  exact .tuple vs ps hl fun j q x=>(z j q x).rep (xm.1 hp q (Im x))
 |fresh e l=>cases hp
 |_=>exact h
theorem ain {pz:Bool} {ρ:Nat->Nat} {p:PV U} (h:(p.ren pz ρ).noFresh):p.noFresh:=by
 cases p with
 |tuple ps=>
  grind [PV.ren,KY,PV.noFresh,Bk]
 |sl e l o=>rfl
 |fresh e l=>exact h
 |_=>rfl
mutual
theorem azR {k:Bool} {ρ q:Nat->Nat}: ∀ (v:PV U),v.stb=true->(∀i∈v.ids,q (ρ i)=i)->(v.ren k ρ).ren true q=v
 | .ptr id off,_,h=>by simp only [PV.ren];rw [h id (by simp [PV.ids])]
 | .fQ id n,_,h=>by simp only [PV.ren];rw [h id (by simp [PV.ids])]
 | .mp id,_,h=>by simp only [PV.ren];rw [h id (by simp [PV.ids])]
 | .agg cs,hs,h=>by simp only [PV.ren];rw [N1 cs (by simpa [PV.stb] using hs) (by simpa [PV.ids] using h)]
 | .tuple cs,hs,h=>by simp only [PV.ren];rw [N1 cs (by simpa [PV.stb] using hs) (by simpa [PV.ids] using h)]
 | .func f a b,hs,h=>by
  simp only [PV.stb,pX] at hs
  simp only [PV.ids,xO] at h
  simp only [PV.ren]
  rw [N1 a hs.1 fun i x=>h i (.inl x),N1 b hs.2 fun i x=>h i (.inr x)]
 | .iface t v,hs,h=>by simp only [PV.ren];rw [azR v (by simpa [PV.stb] using hs) (by simpa [PV.ids] using h)]
 | .sl e l o,hs,_=>by cases o<;>first|rfl|cases hs
 | .undef,_,_=>rfl
 | .int ..,_,_=>rfl
 | .bool _,_,_=>rfl
 | .str _,_,_=>rfl
 | .own ..,hs,_=>by cases hs
 | .fresh ..,hs,_=>by cases hs
 | .fM ..,_,_=>rfl
 | .eY ..,hs,_=>by cases hs
 | .nilIface,_,_=>rfl
 | .nilPtr,_,_=>rfl
 | .nilFunc,_,_=>rfl
theorem N1 {k:Bool} {ρ q:Nat->Nat}: ∀ (l:List (PV U)),PV.stbL l=true->(∀i∈PV.idsL l,q (ρ i)=i)->PV.renL true q (PV.renL k ρ l)=l
 |[],_,_=>rfl
 |v::r,hs,h=>by
  simp only [PV.stbL,pX] at hs
  simp only [PV.idsL,xO] at h
  simp only [PV.renL]
  rw [azR v hs.1 fun i x=>h i (.inl x),N1 r hs.2 fun i x=>h i (.inr x)]
end
theorem azQ {ρ q:Nat->Nat}: ∀ {ks:List Bool} (l:List (PV U)),PV.stbL l=true->(∀i∈PV.idsL l,q (ρ i)=i)->PV.renL true q (PV.renK ρ ks l)=l
 |[],l,hs,h=>N1 l hs h
 |_::_,[],_,_=>rfl
 |k::ks,v::r,hs,h=>by
  simp only [PV.stbL,pX] at hs
  simp only [PV.idsL,xO] at h
  simp only [PV.renK,PV.renL]
  rw [azR v hs.1 fun i x=>h i (.inl x),azQ r hs.2 fun i x=>h i (.inr x)]
theorem aE3 {ρ q:Nat->Nat} {ks:List Bool} {b:py U} (hs:b.stb=true) (h: ∀i∈b.ids,q (ρ i)=i):(b.renK ks ρ).ren true q=b:=by
 cases b with
 |map e l=>cases hs
 |cells cs=>simp only [py.renK,py.ren];rw [azQ cs hs h]
mutual
theorem aBb: ∀ (v:PV U) (k:PV U->M U),v.stb=true->fH v k=k v
 | .agg cs,k,hs=>by rw [fH,ic cs _ (by simpa [PV.stb] using hs)]
 | .tuple cs,k,hs=>by rw [fH,ic cs _ (by simpa [PV.stb] using hs)]
 | .func f a b,k,hs=>by
  simp only [PV.stb,pX] at hs
  rw [fH,ic a _ hs.1,ic b _ hs.2]
 | .iface t v,k,hs=>by rw [fH,aBb v _ (by simpa [PV.stb] using hs)]
 | .own ..,_,hs=>by cases hs
 | .sl ..,_,_=>by simp only [fH]
 | .undef,_,_=>by simp only [fH]
 | .int ..,_,_=>by simp only [fH]
 | .bool _,_,_=>by simp only [fH]
 | .str _,_,_=>by simp only [fH]
 | .fresh ..,_,hs=>by cases hs
 | .ptr ..,_,_=>by simp only [fH]
 | .fQ ..,_,_=>by simp only [fH]
 | .mp _,_,_=>by simp only [fH]
 | .fM ..,_,_=>by simp only [fH]
 | .eY ..,_,hs=>by cases hs
 | .nilIface,_,_=>by simp only [fH]
 | .nilPtr,_,_=>by simp only [fH]
 | .nilFunc,_,_=>by simp only [fH]
theorem ic: ∀ (l:List (PV U)) (k:List (PV U)->M U),PV.stbL l=true->io l k=k l
 |[],_,_=>by rw [io]
 |v::r,k,hs=>by
  simp only [PV.stbL,pX] at hs
  rw [io,aBb v _ hs.1,ic r _ hs.2]
end
theorem aBa: ∀ {bs:List (Nat×py U)} (k:List (Nat×py U)->M U),(bs.all fun x=>x.2.stb)=true->il bs k=k bs
 |[],_,_=>rfl
 |(id,.cells cs)::r,k,h=>by
  simp only [List.all_cons,pX] at h
  rw [il,ic cs _ h.1,aBa _ h.2]
 |(id,.map e l)::r,k,h=>by
  simp only [List.all_cons,pX] at h
  cases h.1
theorem aG_ {K:cj U} {q:Option Nat} {bs:List (Nat×py U)} {ρ:Nat->Nat} {cs:List (py U)} {m:M U} {σ:St U} {fp:List Loc} (I:(bs.map (·.1)).Nodup) (hb: ∀x∈bs,xZ q x.1=false->σ.b x.1=some x.2) (z:(KN q bs ρ cs m).Rel K σ fp r τ gp):
  ∃σ' fp',m.Rel K σ' fp' r τ gp/\(∀n,σ'.r n=σ.r n)/\(∀i,σ'.o i=σ.o i)/\(∀i,σ'.u i=σ.u i)/\(∀id,id∉bs.map (·.1)->σ'.b id=σ.b id)/\
   ((cs=[]/\ ∀id,σ'.b id=σ.b id)\/ ∃kd n a id g,cs=[.cells (.int kd n::a)]/\bs[n.toNat]? =some (id,.cells g)/\a.length<=g.length/\xZ q id=false/\σ'.b id=some (.cells (a.map (PV.ren true ρ)++g.drop a.length))/\ ∀i,i≠id->σ'.b i=σ.b i):=by
 unfold KN at z
 split at z
 ·exact ⟨σ,fp,z,fun _=>rfl,fun _=>rfl,fun _=>rfl,fun _ _=>rfl,.inl ⟨rfl,fun _=>rfl⟩⟩
 ·rename_i kd n a
  split at z
  ·rename_i id g B
   cases hc:xp a.length g.length&& !xZ q id with
   |false=>rw [hc] at z;exact z.elim
   |true=>
    rw [hc] at z
    simp only [pX,Bool.not_eq_true'] at hc
    obtain ⟨σ1,hs,z⟩:=z
    obtain ⟨all,A,J,L,rfl⟩:=St.setH_inv hs
    have F:=Im B
    rw [hb _ F hc.2] at A
    injection A with A
    injection A with A
    subst A
    refine ⟨_,_,z,fun _=>rfl,fun _=>rfl,fun _=>rfl,fun i E=> ?_,.inr ⟨kd,n,a,id,g,rfl,B,Nat.le_of_ble_eq_true hc.1,hc.2,by simp,fun i E=> ?_⟩⟩
    ·have:id≠i:=fun e=>E (e▸List.mem_map_of_mem (f:=(·.1)) F)
     simp_all
    ·simp [Ne.symm E]
  ·exact z.elim
 ·exact z.elim
theorem ac6 {ο:Nat->Array Value} (bs:List (Nat×py U)) {σ:St U} {D:Nat->Option Nat} {k:List (Nat×py U)->M U} {fp:List Loc} {tm:Array Value} {K:cj U} (h:qw X c tm w σ g D) (hb: ∀x∈bs,mG X w (c.N g D) g ο x) (q:(il bs k).Rel K σ fp r τ gp):
  ∃qs σ' D' fp',(k qs).Rel K σ' fp' r τ gp/\td X c tm w g σ D σ' D'/\qs.map (·.1)=bs.map (·.1)/\(∀x∈qs,mG X w (c.N g D') g ο x)/\((bs.all fun x=>x.2.stb)=true->qs=bs/\σ'=σ):=by
 by_cases hp:(bs.all fun x=>x.2.stb)=true
 ·rw [aBa _ hp] at q
  exact ⟨bs,σ,D,fp,q,.refl h,rfl,hb,fun _=>⟨rfl,rfl⟩⟩
 ·obtain ⟨qs,σ',D',fp',h1,h2,z,A⟩:=Ew bs h hb q
  grind
def MY (w:World) (ο:Nat->Array Value) (l:Nat) (q:Option Nat) (b:Nat):Array Value:=if q=some b then (match w.heap[b]? with|some (.cells cur _ _)=>(cur.toList.drop l).toArray|_=>ο b) else ο b
theorem aAP {tm:Array Value} (h:qw X c tm w σ g D) {q:Option Nat} {l id k:Nat} (hk:g.μ id=some k) (hs:xZ q id=false):MY w c.ο l (q.bind g.μ) k=c.ο k:=by
 have x:q.bind g.μ≠some k:=by
  intro e
  cases q with
  |none=>simp at e
  |some j=>
   simp only [p9] at e
   have:=h.inj _ _ _ e hk
   grind [uM]
 grind [MY]
theorem DD {tm:Array Value} (h:qw X c tm w σ g D) {q:Option Nat} {l id:Nat} {b A:py U} (hb:σ.b id=some b) (hc:b.cutIf (xZ q id) l=some A):mG X w (c.N g D) g (MY w c.ο l (q.bind g.μ)) (id,A):=by
 obtain ⟨k,hk,z⟩:=h.boxes id b hb
 refine ⟨k,hk, ?_⟩
 cases hs:xZ q id with
 |false=>
  rw [hs] at hc
  simp only [py.cutIf,cond_false,Option.some.injEq] at hc
  grind [aAP]
 |true=>
  rw [hs] at hc
  rw [uM] at hs
  subst hs
  cases b with
  |map e l=>cases hc
  |cells cs=>
   simp only [py.cutIf,cond_true] at hc
   cases hle:xp l cs.length with
   |false=>grind
   |true=>
    rw [hle] at hc
    simp only [cond_true,Option.some.injEq] at hc
    subst hc
    have x:l<=cs.length:=by simp_all
    obtain ⟨cur,e,h1,⟨h2,E⟩,B⟩:=z
    refine ⟨cur,e,h1, ?_,fun j p hp=>B j p ?_⟩
    ·simp only [MY,p9,hk,if_true,h1]
     refine ⟨by grind,fun j hj=> ?_⟩
     simp only [List.length_take,Nat.min_eq_left x]
     simp
    grind
theorem aF2 {tm:Array Value} (h:qw X c tm w σ g D) {w':World} {N':aN} {g':Gh U} (F: ∀v p,po X w (c.N g D) g v p->po X w' N' g' v p) {q:Option Nat} {l id k:Nat} {E bC b:py U} {rs:List (PV U)} (hk:g.μ id=some k) (hb:σ.b id=some E)
  (A:q=some id->rs=E.rest l) (x:E.cutIf (xZ q id) l=some bC) (hB:qW X w' N' g' (MY w c.ο l (q.bind g.μ) k) k b):qW X w' N' g' (c.ο k) k (b.glue (bif xZ q id then rs else [])):=by
 cases hs:xZ q id with
 |false=>
  grind [aAP,py.glue_nil]
 |true=>
  rw [hs] at x
  rw [uM] at hs
  subst hs
  have A:=A rfl
  subst A
  cases E with
  |map e l=>cases x
  |cells cs=>
   simp only [py.cutIf,cond_true] at x
   cases hle:xp l cs.length with
   |false=>grind
   |true=>
    have I:l<=cs.length:=by simp_all
    obtain ⟨T,z,cur,e,h1,⟨h2,W⟩,Y⟩:=h.boxes id _ hb
    rw [hk] at z
    injection z with z
    subst z
    simp only [MY,p9,hk,if_true,h1] at hB
    cases b with
    |map e l=>exact hB
    |cells L=>
     obtain ⟨B,e',M,⟨b2,b3⟩,b4⟩:=hB
     have O:((cur.toList.drop l).toArray).size=cs.length+(c.ο k).size-l:=by simp [h2]
     have J: ∀j,j<((cur.toList.drop l).toArray).size->((cur.toList.drop l).toArray).getD j undef=cur.getD (l+j) undef:=fun j _=>by simp
     simp only [cond_true,py.rest,py.glue]
     refine ⟨B,e',M,⟨by grind,fun j hj=> ?_⟩,fun j p hp=> ?_⟩
     ·have hi:cs.length-l+j<((cur.toList.drop l).toArray).size:=by omega
      grind
     grind
theorem aF1 {t:Bool} {l:Nat} {b q:py U} {rs:List (PV U)} (h:b.cutIf t l=some q) (x:t=true->rs=b.rest l):q.glue (bif t then rs else [])=b:=by
 cases t with
 |false=>
  simp_all [py.cutIf,py.glue_nil]
 |true=>
  rw [x rfl]
  cases b with
  |map e l=>cases h
  |cells cs=>
   simp only [py.cutIf,cond_true] at h
   cases hle:xp l cs.length with
   |false=>grind
   |true=>
    rw [hle] at h
    simp only [cond_true,Option.some.injEq] at h
    subst h
    simp [py.glue,py.rest]
theorem Jv {lim:FuncId->Nat} {kb:FuncId->List Bool} {CP:FuncId->Array Value->World->(Ending->World->Prop)->Prop} (ix: ∀ {f vs w} {R R':Ending->World->Prop},CP f vs w R->(∀e w,R e w->R' e w)->CP f vs w R') (h:qw X c a.tmps w σ g D) {kC:List Bool} {p:PV U} {ps:List (PV U)} {fv:Value} {xs:Array Value} (hp:po X w (c.N g D) g fv p) (l8:ps.length=xs.size)
  (hx: ∀ (j:Nat) q,ps[j]? =some q->po X w (c.N g D) g (xs.getD j undef) q) {o:Oper} (ho:o.dst=dst) (hd:bq c.nt o=true) (hr:(iV lim kb kC dst p ps).Rel (jS X CP) σ fp r τ gp) (ht:sV X c a r τ next Q):
  ∃f a0s bs,fv= .func (.func f) a0s bs/\(∃fn,P.funcs[f]? =some fn/\(fn.name== "runtime.NumGoroutine")=false/\fn.body.isNone=false)/\
   CP f (a0s++xs++bs) w fun
    | .returned v,ey=>next (a.put dst v) ey
    | .panicked chain,ey=>Q (.panic chain) a ey
    | .outgrown,_=>LetsOut Q:=by
 unfold iV at hr
 split at hr
 case h_2=>exact hr.elim
 rename_i gid first caps
 cases hp with
 |func _ _ _ a0s bs ha hb l9 mb=>
 refine ⟨gid,a0s,bs,rfl, ?_⟩
 have az: ∀ (j:Nat) q,(first++ps++caps)[j]? =some q->po X w (c.N g D) g ((a0s++xs++bs).getD j undef) q:=by
  have h1:=Qw (X:=X) (w:=w) (N:=c.N g D) (g:=g) (xs:=a0s.toList) (ys:=xs.toList) (ps:=first) (qs:=ps) (by omega) (fun j p hp=>by simp_all) (fun j p hp=>by simp_all)
  have h2:=Qw (X:=X) (w:=w) (N:=c.N g D) (g:=g) (xs:=a0s.toList++xs.toList) (ys:=bs.toList) (ps:=first++ps) (qs:=caps) (by grind) h1 (fun j p hp=>by simp_all)
  grind [pT]
 have fr:(a0s++xs++bs).size=(first++ps++caps).length:=by grind
 generalize a0s++xs++bs=vs at az fr
 generalize first++ps++caps=all at hr az fr
 obtain ⟨q1,σ1,D1,mc,cy,fz,me,iz⟩:=KL kC all h (fun j=>vs.getD j undef) az hr
 dsimp only at cy
 generalize aAO (lim gid) q1=q at cy
 generalize lim gid=l at cy
 obtain ⟨c5,mf,ja,ga⟩:=aFY 100 _ [] (by simp) cy
 obtain ⟨z,bn,D2,mg,jb,e0,e5,gb,c9⟩:=ac6 (ο:=MY w c.ο l (q.bind g.μ)) c5 fz.kB (fun x hx=>by
  obtain ⟨b,L,O⟩:=ga x hx
  exact DD fz.kB L O) ja
 have h2:=e0.kB
 obtain ⟨qs,T,jc,G,δ,a6,jd,Y,_,gk,gn,je⟩:=KR h2 kC q1 (fun j=>vs.getD j undef) (.refl bn) (fun j p hp=>e0.rep (iz j p hp)) jb
 rw [xG] at Y
 generalize ea:qIn q (z.map (·.1))=jg at a6
 cases hh:kj qs z with
 |false=>rw [hh] at a6;exact a6.elim
 |true=>
 cases jg with
 |false=>rw [hh] at a6;exact a6.elim
 |true=>
 rw [hh] at a6
 obtain ⟨out,⟨jm,jo⟩,B⟩:=a6
 refine ⟨jm, ?_⟩
 obtain ⟨ν,gw⟩:=NN gb
 have jq: ∀b,w.heap.size<=b->MY w c.ο l (q.bind g.μ) b= #[]:=fun b hb=>by
  have hg:q.bind g.μ≠some b:=by
   intro e
   cases q with
   |none=>simp at e
   |some j=>
    simp only [p9] at e
    have:=(h2.new _ _ e).1
    omega
  simp only [MY]
  rw [if_neg hg]
  exact c.oz b (bu h2.ext.size hb)
 have dd:=(EE h2 false jq (vs:=vs) (by omega) gb hh (fun j b hj=>by rw [jd];exact gk j b hj) gn je gw (F:=fun b=>b.2.renK (bif xZ q b.1 then kb gid else []) (va (z.map (·.1)))) fun x hx g' t k jw dh=>dh.renK _ _ rfl (fun _ _ _ _=>rfl) (fun _ _ _ h=>h) (.inl hx) jw).2
 have dn:=(Ac hh).2.2.1
 have ds:=jo w vs _ ν δ _ dd
 have hz: ∀j,q=some j->j∈z.map (·.1):=fun j hj=>by
  subst hj
  simp only [qIn] at ea
  obtain ⟨i,hi,he⟩:=List.any_eq_true.1 ea
  have:j=i:=by simpa using he
  grind
 have ec: ∀id∈z.map (·.1),∃bF bC,bn.b id=some bF/\bF.cutIf (xZ q id) l=some bC:=fun id E=>by
  rw [e5] at E
  obtain ⟨x,hx,rfl⟩:=wD.1 E
  obtain ⟨b,L,O⟩:=ga x hx
  exact ⟨b,x.2,(e0.same.b _).trans L,O⟩
 obtain ⟨rs,b1⟩: ∃rs:List (PV U),∀id bF,bn.b id=some bF->q=some id->rs=bF.rest l:=by
  cases q with
  |none=>simp
  |some j=>
   cases hj:bn.b j with
   |none=>grind
   |some b=>exact ⟨b.rest l,fun id bF hb h=>by grind⟩
 have ed: ∀id∈z.map (·.1),q=some id-> ∃b,T.b id=some b/\rs=b.rest l:=fun id E hq=>by
  obtain ⟨bF,_,L,_⟩:=ec id E
  exact ⟨bF,(Y.b id).trans L,b1 id bF L hq⟩
 have j1:z.length=(z.map (·.1)).length:=by simp
 have state: ∀ {w':World} {cs:List (py U)} {σ':St U} {fo:Option (Ob U)} {fval:Value} {fD:Option Nat} {ν':Nat->Nat} {δ':Nat->Option Nat} {new:List Nat} {d:Nat},(z.map (·.1)++new).Nodup->(z.map (·.1)++new).length=cs.length->(∀id∈new,bn.b id=none)->(∀id∈new,id<1000000)->
   (∀i,(fo=none\/i≠d)->σ'.o i=T.o i/\σ'.u i=T.u i)->
   (∀ob,fo=some ob->σ'.o d=some ob/\σ'.u d= .wr/\(∀bt,T.o d=some bt->bt.cJ<ob.cJ)/\sZ X w' (NB (Ig (c.N g D2) z.length ν δ) cs.length ν' δ') (gB U cs.length ν') ob.e ob.l fval .wr fD)->
   (∀b,fD=some b-> ∃j,δ' j=some b)->(fo=none->fD=none)->(∀n,σ'.r n=T.r n)->(∀id,id∉z.map (·.1)++new->σ'.b id=T.b id)->
   (∀ (k:Nat) id b,(z.map (·.1)++new)[k]? =some id->cs[k]? =some b->σ'.b id=some ((b.ren true fun i=>(z.map (·.1)++new).getD i 0).glue (bif xZ q id then rs else [])))->
   L6 X w w' (Ig (c.N g D2) z.length ν δ) ν δ (MY w c.ο l (q.bind g.μ)) z.length qs.length ν' δ' cs->
   ∃g' D',qw X c a.tmps w' σ' g' D'/\(∀v p,po X w' (NB (Ig (c.N g D2) z.length ν δ) cs.length ν' δ') (gB U cs.length ν') v p->po X w' (c.N g' D') g' v (p.ren true fun i=>(z.map (·.1)++new).getD i 0))/\
    ∀ob,fo=some ob->g'.κ d=some (ob.cJ,ob.e,fval):=by
  intro w' cs σ' fo fval fD ν' δ' new d k1 k2 k3 h3 k4 k5 k6 k7 k8 k9 j2 dt
  rw [j1] at k5 dt ⊢
  refine h2.called (G:=G) k1 k2 gw k3 h3 (fun j b hj=>(gk j b hj).2) (fun i hi=> ?_) (fun i hi hc=> ?_) (fun ob b2=> ?_) k6 k7 (fun n=>(k8 n).trans (Y.r n)) (fun id E=>(k9 id E).trans (Y.b id)) j2 (fun N' g' e6 k id b hk e7 hB=> ?_) dt
  ·obtain ⟨ob,L,O,e3⟩:=Y.kW i hi
   grind
  ·obtain ⟨L,O⟩:=Y.other i hi
   grind
  ·obtain ⟨L,O,e3,e4⟩:=k5 ob b2
   refine ⟨L,O,fun bt h0=> ?_,e4⟩
   by_cases h4:d∈G
   ·obtain ⟨mh,f1,f2,_⟩:=Y.kW d h4
    grind
   ·exact e3 bt ((Y.other d h4).1.trans h0)
  ·by_cases h5:k<(z.map (·.1)).length
   ·rw [List.getElem?_append_left h5] at hk
    obtain ⟨bF,bC,L,O⟩:=ec id (Im hk)
    refine aF2 h2 e6 ?_ L (b1 id bF L) O hB
    rw [dt.old k h5]
    grind
   ·have E:id∈new:=by
     grind
    have e8:xZ q id=false:=by
     grind [uM]
    have j3:w.heap.size<=ν' k:=dt.new k (by omega) e7
    rw [e8,cond_false,py.glue_nil,c.oz _ (bu h2.ext.size j3)]
    grind
 have e9:(PV.renL false (va (z.map (·.1))) qs).length=qs.length:=by simp [KY]
 refine ix ds fun e w' I=> ?_
 rw [List.length_map,e9] at I
 cases e with
 |outgrown=>exact I.elim
 |returned rv=>
  cases out with
  |panic v cs=>exact I.elim
  |ret v cs=>
   simp only at B
   cases ao:xp (z.map (·.1)).length cs.length with
   |false=>
    rw [ao] at B
    simp only [cond_false] at B
    generalize h6:(z.map fun b=>b.2.renK (bif xZ q b.1 then kb gid else []) (va (z.map (·.1))))=gv at I
    have h7:gv.length=(z.map (·.1)).length:=by rw [<-h6];simp
    have b3:Out.full gv (.ret v cs)= .ret v (Nb gv cs):=by
     grind [Out.full]
    rw [b3] at I
    obtain ⟨ν',δ',W,J⟩:=I
    have main:v.noFresh->(bif c5.all fun x=>x.2.stb then KN q c5 (fun i=>(z.map (·.1)++cK ((dst.getD 0+1)*1000) (cs.length-(z.map (·.1)).length)).getD i 0) cs (put dst (PV.ren true (fun i=>(z.map (·.1)++cK ((dst.getD 0+1)*1000) (cs.length-(z.map (·.1)).length)).getD i 0) v)) else .fail:M U).Rel (jS X CP) T jc r τ gp->next (a.put dst rv) w':=by
     intro fc B
     have fe:cs.length-(z.map (·.1)).length=0:=by
      grind [Nat.ble_eq_true_of_le]
     rw [fe] at B
     simp only [cK,xG] at B
     cases b4:c5.all fun x=>x.2.stb with
     |false=>rw [b4] at B;exact B.elim
     |true=>
     rw [b4] at B
     simp only [cond_true] at B
     obtain ⟨j4,j9⟩:=c9 b4
     subst j4
     have mj: ∀id,T.b id=σ1.b id:=fun id=>by rw [Y.b,j9]
     have dh: ∀x∈z,∃b,T.b x.1=some b/\b.cutIf (xZ q x.1) l=some x.2:=fun x hx=>by
      grind
     obtain ⟨ax,h8,dx,s1,s2,s3,s4,a7⟩:=aG_ dn (fun x hx hs=>by
      obtain ⟨b,L,O⟩:=dh x hx
      rw [hs] at O
      simp only [py.cutIf,cond_false,Option.some.injEq] at O
      rw [L,O]) B
     have h9: ∀i∈z.map (·.1),(fun i=>(z.map (·.1)).getD i 0) (va (z.map (·.1)) i)=i:=fun i hi=>by
      grind [AG]
     have eg:=(Ac hh).2.2.2.2
     have same: ∀ (k:Nat) id b,(z.map (·.1))[k]? =some id->gv[k]? =some b->ax.b id=T.b id->ax.b id=some ((b.ren true fun i=>(z.map (·.1)).getD i 0).glue (bif xZ q id then rs else [])):=by
      intro k id b hk hb fg
      rw [List.getElem?_map,Option.map_eq_some_iff] at hk
      obtain ⟨y,hy,rfl⟩:=hk
      rw [<-h6,List.getElem?_map,hy] at hb
      injection hb with hb
      have bz:=Im hy
      have hb:py.renK _ _ y.2=b:=hb
      subst hb
      obtain ⟨b0,L,O⟩:=dh y bz
      rw [aE3 (xm.1 b4 y bz) fun i hi=>h9 i (eg y bz i hi),aF1 O fun hs=>b1 _ _ (by grind) (uM.1 hs),fg]
      exact L
     obtain ⟨g',D',hs,ad,_⟩:=state (new:=[]) (fo:=none) (fval:=undef) (fD:=none) (d:=0) (σ':=ax) (cs:=Nb gv cs) (by simpa using dn) (by rw [xG,<-h7];unfold Nb;split<;>(try split)<;>simp) (by simp) (by simp) (fun i _=>⟨s2 i,s3 i⟩) (by simp) (by simp) (fun _=>rfl) s1 (fun id E=>s4 id (by simpa using E)) (fun k id b hk hb=>by
      rw [xG] at hk ⊢
      rcases a7 with ⟨rfl,az⟩|⟨kd,n,pa,pid,pg,rfl,ia,hle,e8,ka,l1⟩
      ·exact same k id b hk hb (az id)
      ·have ib:gv[n.toNat]? =some (.cells (PV.renK (va (z.map (·.1))) [] pg)):=by
        grind [py.renK]
       have bf:(z.map (·.1))[n.toNat]? =some pid:=by rw [List.getElem?_map,ia];rfl
       simp only [Nb,ib] at hb
       by_cases kk:k=n.toNat
       ·subst kk
        rw [hk] at bf
        injection bf with bf
        subst bf
        have e7:n.toNat<gv.length:=(Dg.1 ib).1
        rw [List.getElem?_set_self e7] at hb
        injection hb with hb
        subst hb
        rw [e8,cond_false,py.glue_nil,ka]
        have ml:PV.renL true (fun i=>(z.map (·.1)).getD i 0) (PV.renK (va (z.map (·.1))) [] pg)=pg:=by
         have bz:=Im ia
         exact azQ pg (xm.1 b4 _ bz) fun i hi=>h9 i (eg _ bz i hi)
        grind [KY,py.ren,List.map_drop]
       grind [List.getElem?_inj]) (by omega)
     have l2:(Nb gv cs).length=gv.length:=by unfold Nb;split<;>(try split)<;>simp
     have J:L5 X w' _ _ rv δ' v:=J
     have hv:=ad _ _ (agQ J fc)
     rw [xG] at hv
     obtain ⟨L,O⟩:=rl dx
     subst O
     have:=hs.putAct (o:=o) hd hv
     rw [ho] at this
     exact ht.done L _ _ _ _ this.2 this.1
    split at B
    ·exact B.elim
    ·exact B.elim
    ·rename_i h1 h2
     refine main ?_ B
     cases v with
     |tuple vs=>grind
     |fresh e l=>grind
     |sl e l o=>rfl
     |_=>rfl
   |true=>
   rw [ao] at B
   simp only [cond_true] at B
   have b3:Out.full (z.map fun b=>b.2.renK (bif xZ q b.1 then kb gid else []) (va (z.map (·.1)))) (.ret v cs)= .ret v cs:=by
    grind [Out.full]
   rw [b3] at I
   obtain ⟨ν',δ',W,J⟩:=I
   have hle:(z.map (·.1)).length<=cs.length:=by simpa using ao
   obtain ⟨a8,mu,dx⟩:=ac5 _ B
   generalize l3:cK ((dst.getD 0+1)*1000) (cs.length-(z.map (·.1)).length)=new at dx a8
   have l4:new.length=cs.length-(z.map (·.1)).length:=by grind [AB]
   have mv:new.Nodup:=by grind [agV]
   have bh: ∀id∈new,bn.b id=none:=fun id E=>(Y.b id).symm.trans (a8 id E).1
   have b5: ∀id∈new,id<1000000:=fun id E=>(a8 id E).2
   have ek:(z.map (·.1)++new).Nodup:=by
    grind
   have bc:(z.map (·.1)++new).length=cs.length:=by grind
   have b6:((z.map (·.1)++new).zip (cs.map (py.ren true fun i=>(z.map (·.1)++new).getD i 0))).map (·.1)=z.map (·.1)++new:=List.map_fst_zip (Nat.le_of_eq (by rw [bc];simp))
   obtain ⟨ax,h8,fk,s1,s2,s3,s4,s5⟩:=aDk (rs:=rs) _ (by grind) (fun id E hq=>ed id (hz id hq) hq) dx
   have ic: ∀ (k:Nat) id b,(z.map (·.1)++new)[k]? =some id->cs[k]? =some b->ax.b id=some ((b.ren true fun i=>(z.map (·.1)++new).getD i 0).glue (bif xZ q id then rs else [])):=by
    intro k id b hk hb
    exact s5 (id,b.ren true fun i=>(z.map (·.1)++new).getD i 0) (Im (i:=k) (by grind))
   have ih: ∀id,id∉z.map (·.1)++new->ax.b id=T.b id:=fun id E=>s4 id (by rw [b6];exact E)
   rcases akO fk with ⟨im,b7,fc⟩|⟨e,l,nv,im,iu,a7⟩
   ·obtain ⟨g',D',hs,ad,_⟩:=state (fo:=none) (fval:=undef) (fD:=none) (d:=0) ek bc bh b5 (fun i _=>⟨s2 i,s3 i⟩) (by simp) (by simp) (fun _=>rfl) s1 ih ic W
    have hv:=ad _ _ (agQ J (ain fc))
    obtain ⟨L,O⟩:=rl b7
    subst O
    have:=hs.putAct (o:=o) hd hv
    rw [ho] at this
    exact ht.done L _ _ _ _ this.2 this.1
   ·
    have fin: ∀ {fval:Value} {fD:Option Nat} {q:PV U},sZ X w' (NB (Ig (c.N g D2) z.length ν δ) cs.length ν' δ') (gB U cs.length ν') e l fval .wr fD->(∀b,fD=some b-> ∃j,δ' j=some b)->(put dst q).Rel (jS X CP) ((ax.dI (dst.getD 0) ⟨nv,e,l⟩).dH (dst.getD 0) .wr) im r τ gp->
      (∀g' D',(∀v p,po X w' (NB (Ig (c.N g D2) z.length ν δ) cs.length ν' δ') (gB U cs.length ν') v p->po X w' (c.N g' D') g' v (p.ren true fun i=>(z.map (·.1)++new).getD i 0))->g'.κ (dst.getD 0)=some (nv,e,fval)->po X w' (c.N g' D') g' rv q)->next (a.put dst rv) w':=by
     intro fval fD q hO kl iv hq
     obtain ⟨g',D',hs,ad,ch⟩:=state (fo:=some ⟨nv,e,l⟩) (fval:=fval) (fD:=fD) (d:=dst.getD 0) (σ':=(ax.dI (dst.getD 0) ⟨nv,e,l⟩).dH (dst.getD 0) .wr) ek bc bh b5 (fun i hi=>by
       have kq:dst.getD 0≠i:=by grind
       simp [kq,s2 i,s3 i]) (fun ob b2=>by
       injection b2 with b2
       subst b2
       exact ⟨by simp,by simp,fun bt h0=>iu bt ((s2 _).trans h0),hO⟩) kl (by simp) (fun n=>by simpa using s1 n) (fun id E=>by simpa using ih id E) (fun k id b hk hb=>by simpa using ic k id b hk hb) W
     obtain ⟨L,O⟩:=rl iv
     subst O
     have:=hs.putAct (o:=o) hd (hq g' D' ad (ch _ rfl))
     rw [ho] at this
     exact ht.done L _ _ _ _ this.2 this.1
    rcases a7 with ⟨hv,b7⟩|⟨pre,post,hv,b7,l5,kr⟩
    ·have ks:=Qr hv
     subst ks
     have hO:sZ X w' (NB (Ig (c.N g D2) z.length ν δ) cs.length ν' δ') (gB U cs.length ν') e l rv .wr (δ' 0):=J
     exact fin hO (fun b hb=>⟨0,hb⟩) b7 fun g' D' _ ch=>by
      obtain ⟨A,n,cp,cu,_⟩:=hO.val
      exact .own _ nv rv nv e rv ch (xq _) (fun _=>rfl) ⟨A,n,cp,cu⟩
    ·obtain ⟨dy,rfl,et⟩:=aio hv
     obtain ⟨arr,rfl,kv,eu⟩:=J
     have kx:dy.length=pre.length+1+post.length:=by
      have:=congrArg EO et;simp at this;omega
     have hj:pre.length<dy.length:=by omega
     have lf:(dy.map (PV.ren true fun i=>(z.map (·.1)++new).getD i 0))[pre.length]? =some (.fresh e l):=by
      grind
     have ln:dy[pre.length]? =some (.fresh e l):=by
      grind [Qr]
     have hO:=eu _ _ ln
     refine fin hO (fun b hb=>⟨pre.length,hb⟩) b7 fun g' D' ad ch=> ?_
     refine .tuple arr _ (by grind) fun j q hq=> ?_
     obtain ⟨A,n,cp,cu,_⟩:=(show sZ X w' _ _ e l (arr.getD pre.length undef) .wr (δ' pre.length) from hO).val
     have cx: ∀ (j:Nat) q,j≠pre.length->(pre++ .fresh e l::post)[j]? =some q->po X w' (c.N g' D') g' (arr.getD j undef) q:=by
      intro j q hg hq
      have lo:=hq
      rw [et,List.getElem?_map,Option.map_eq_some_iff] at hq
      obtain ⟨q0,lz,rfl⟩:=hq
      refine ad _ _ ((eu j q0 lz).rep ?_)
      rw [<-Bk (pz:=true) (ρ:=fun i=>(z.map (·.1)++new).getD i 0)]
      by_cases l0:j<pre.length
      ·grind
      ·rw [List.getElem?_append_right (by omega)] at lo
       obtain ⟨k,hk⟩: ∃k,j-pre.length=k+1:=⟨j-pre.length-1,by omega⟩
       grind
     by_cases iw:j=pre.length
     ·subst iw
      rw [List.getElem?_append_right (xq _)] at hq
      simp at hq
      subst hq
      exact .own _ nv _ nv e _ ch (xq _) (fun _=>rfl) ⟨A,n,cp,cu⟩
     ·refine cx j q iw ?_
      by_cases l0:j<pre.length
      ·grind
      ·rw [List.getElem?_append_right (by omega)] at hq ⊢
       grind
 |panicked chain=>
  cases out with
  |ret v cs=>
   exfalso
   unfold Out.full at I
   dsimp only at I
   revert I
   cases xp (z.map fun b=>b.2.renK (bif xZ q b.1 then kb gid else []) (va (z.map (·.1)))).length cs.length<;>exact id
  |panic v cs=>
   obtain ⟨fe,val,rfl,W,J⟩:=I
   simp only at B
   cases ao:qy (z.map (·.1)).length cs.length with
   |false=>rw [ao] at B;exact B.elim
   |true=>
   rw [ao] at B
   simp only [cond_true] at B
   have hle:(z.map (·.1)).length=cs.length:=by omega
   have b6:((z.map (·.1)).zip (cs.map (py.ren true fun i=>(z.map (·.1)).getD i 0))).map (·.1)=z.map (·.1):=List.map_fst_zip (Nat.le_of_eq (by simpa using hle))
   obtain ⟨ax,h8,fk,s1,s2,s3,s4,s5⟩:=aDk (rs:=rs) _ (by rw [b6];exact dn) (fun id E hq=>ed id (hz id hq) hq) B
   obtain ⟨L,O,_⟩:=fk
   subst O
   obtain ⟨g',D',hs,ad,_⟩:=state (new:=[]) (fo:=none) (fval:=undef) (fD:=none) (d:=0) (cs:=cs) (ν':=ν) (δ':=fun _=>none) (by simpa using dn) (by simpa using hle) (by simp) (by simp) (fun i _=>⟨s2 i,s3 i⟩) (by simp) (by simp) (fun _=>rfl) s1
    (fun id E=>by
     grind) (fun k id b hk hb=>by
     rw [xG] at hk ⊢
     exact s5 (id,b.ren true fun i=>(z.map (·.1)).getD i 0) (Im (i:=k) (by grind))) W
   rw [fe] at ad
   have hv:=ad _ _ J
   rw [xG] at hv
   exact ht.raise _ L w' g' D' val hv hs
theorem ZU {lim:FuncId->Nat} {kb:FuncId->List Bool} (h:qw X c a.tmps w σ g D) {kC:List Bool} {p:PV U} {ps:List (PV U)} {fv:Value} {xs:Array Value} (hp:po X w (c.N g D) g fv p) (z:ps.length=xs.size)
  (A: ∀ (j:Nat) q,ps[j]? =some q->po X w (c.N g D) g (xs.getD j undef) q) {o:Oper} (ho:o.dst=dst) (hd:bq c.nt o=true) (B:(iV lim kb kC dst p ps).Rel (ci X) σ fp r τ gp) (E:sV X c a r τ next Q):
  ∃f a0s bs,fv= .func (.func f) a0s bs/\(∃fn,P.funcs[f]? =some fn/\(fn.name== "runtime.NumGoroutine")=false/\fn.body.isNone=false)/\
   Calls P f (a0s++xs++bs) w fun
    | .returned v,x=>next (a.put dst v) x
    | .panicked chain,x=>Q (.panic chain) a x
    | .outgrown,_=>LetsOut Q:=
 Jv (CP:=Calls P) (fun hc F=>hc.mono F) h hp z A ho hd B E
end
section
variable {U:sW} {V:Env U} {P:Program} {X:qx V P} {S:sY U} {c:Ctx} {a:Act} {w:World} {σ:St U} {g:Gh U} {D:Nat->Option Nat}
variable {next:Act->World->Prop} {Q:Exit->Act->World->Prop} {r:MR U} {τ:St U} {fp gp:List Loc} {N:aN}
variable {dst:Option Tmp} {ty:TypeId} {pos:String} {after:Array Edge} {gd:Option (Nat×Bool)}
def Se (X:qx V P):Prop:= ∀ (f:FuncId) (ps:List (PV U)) (e:U.E) (l q:List (U.El e)),V.ng f ps e l=some q->
 (∃fn,P.funcs[f]? =some fn/\(fn.name== "runtime.NumGoroutine")=false/\fn.body.isNone=false)/\
 ∀ (w:World) (vs:Array Value) (N0:aN) (δ:Nat->Option Nat) (ο:Nat->Array Value),uL X w vs N0 (fun _=>0) δ ο (.fresh e l::ps) []->(∀j,j≠0->δ j=none)->Calls P f vs w fun
  | .returned x,w'=>x= .tuple #[]/\Ext (Su 0 (ps.length+1) (fun _=>0) δ) w w'/\sZ X w' (NB N0 0 (fun _=>0) δ) (gB U 0 fun _=>0) e q (vs.getD 0 undef) .wr (δ 0)
  |_,_=>False
theorem adm (hI:Se X) (h:qw X c a.tmps w σ g D) {f:FuncId} {x:PV U} {ps:List (PV U)} {xs:Array Value} (bz:ps.length+1=xs.size) (hx:po X w (c.N g D) g (xs.getD 0 undef) x)
  (az: ∀ (j:Nat) q,ps[j]? =some q->po X w (c.N g D) g (xs.getD (j+1) undef) q) {o:Oper} (ho:o.dst=dst) (hd:bq c.nt o=true) (hr:(EM V dst f x ps).Rel (ci X) σ fp r τ gp) (ht:sV X c a r τ next Q):
  (∃fn,P.funcs[f]? =some fn/\(fn.name== "runtime.NumGoroutine")=false/\fn.body.isNone=false)/\Calls P f xs w fun
   | .returned v,I=>next (a.put dst v) I
   | .panicked chain,I=>Q (.panic chain) a I
   | .outgrown,_=>LetsOut Q:=by
 unfold EM at hr
 split at hr
 case h_2=>exact hr.elim
 rename_i i cJ
 obtain ⟨ob,b0,T,W,z⟩:=mF hr
 simp only [M.Rel] at z
 have hO:=GV h hx T W
 cases hu:σ.u i with
 |read=>rw [hu] at z;exact z.elim
 |app=>rw [hu] at z;exact z.elim
 |wr=>
 rw [hu] at z hO
 dsimp only at z
 cases hb:(PV.noObjL ps&&(PV.idsL ps).isEmpty&&ps.all PV.notFresh) with
 |false=>rw [hb] at z;exact z.elim
 |true=>
 rw [hb] at z
 simp only [pX] at hb
 obtain ⟨⟨a6,bn⟩,b1⟩:=hb
 have a7:PV.idsL ps=[]:=by grind
 obtain ⟨l',a8,bc⟩:=z
 obtain ⟨h1,h2⟩:=hI _ _ _ _ _ a8
 refine ⟨h1, ?_⟩
 let δ:Nat->Option Nat:=fun j=>if j=0 then D i else none
 have J: ∀j b,δ j=some b->j=0/\D i=some b:=by
  grind
 have Y:NB (Ig (c.N g D) 0 (fun _=>0) δ) 0 (fun _=>0) δ=c.N g D:=Jw (fun k o hk=>by omega) fun j b o hj=> .inr (.inr ⟨i,(J j b hj).2⟩)
 have E:uL X w xs (Ig (c.N g D) 0 (fun _=>0) δ) (fun _=>0) δ (fun _=> #[]) (.fresh ob.e ob.l::ps) []:=by
  refine ⟨⟨fun i j L=>by simp at L,fun i L=>by simp at L,fun j b hj=>(h.cY i b (J j b hj).2).1,fun p q b hp hq=>by grind,fun j b hj i L=>by simp at L,fun b o hn=>⟨Jg h hn.1,by simp,hn.2.2⟩⟩,by grind,fun j b hj=>by grind,fun b o hb=>⟨(h.gF hb).1,by simp,fun j hj=>(h.gF hb).2.2 i (J j b hj).2⟩,fun j p hp=> ?_,by simp,fun _ _=>rfl⟩
  simp only [List.length_nil,Y]
  cases j with
  |zero=>
   simp at hp
   subst hp
   exact hO.turn (fun _ _=>rfl) (fun _ _ _ _=>rfl) (fun _ _ _ h=>h)
  |succ j=>
   have O:ps[j]? =some p:=by grind
   have bt:=(az j p O).plain (g':=gB U 0 fun _=>0) (w':=w) (N':=c.N g D) (fun _ _ _ _=>rfl) (fun _ _ _ h=>h) (MC a6 O) fun i L b hb=>by
    have:=fj O i L
    grind
   grind [uc.of]
 refine (h2 w xs _ δ _ E fun j hj=>by grind).mono fun e w' he=> ?_
 cases e with
 |returned rv=>
  obtain ⟨rfl,A,F⟩:=he
  rw [Y] at F
  have hs:qw X c a.tmps w' (σ.dI i ⟨ob.cJ,ob.e,l'⟩) g D:=by
   obtain ⟨val,ad,b2⟩:=h.cX i ob T
   have ao:xs.getD 0 undef=val:=by
    have h0:=hx
    generalize xs.getD 0 undef=v0 at h0
    cases h0<;>grind
   have hblk: ∀b,b<w.heap.size->D i≠some b->w'.heap[b]? =w.heap[b]? :=fun b hb ax=>A.block b hb fun hm=>by
    grind [Su]
   refine h.objsTurn (fun j=>j=i) A.os A.tape A.output A.size (fun b hb ax=>hblk b hb (ax i rfl)) (fun _=>rfl) (fun _=>rfl) rfl (Gh.le.refl g) (fun j b hj=> ?_) (fun j j' b _ hj bf=>h.eO _ _ _ hj bf) (fun j hj=>⟨by grind [St.setO_o],rfl,rfl,rfl⟩) (fun j b3 hj B=> ?_) (fun j hj B=>by simp_all)
   ·grind
   ·subst hj
    rw [St.setO_o,if_pos rfl] at B
    injection B with B
    subst B
    refine ⟨val,ad, ?_⟩
    rw [ao] at F
    simp only [St.setO_u,hu]
    have bh:δ 0=D j:=by rfl
    rw [bh] at F
    exact F.mono (fun _ _=>rfl) (fun _ _ _ _=>rfl) (fun _ _ _ h=>h) ⟨fun id b hb=>by simp [gB] at hb,fun i cJ e val hk=>by simp [gB] at hk⟩
  obtain ⟨e1,e2⟩:=rl bc
  subst e2
  have:=hs.putAct (o:=o) hd (v:= .tuple #[]) (p:= .tuple []) (.tuple #[] [] rfl (by simp))
  rw [ho] at this
  exact ht.done e1 _ _ _ _ this.2 this.1
 |panicked ch=>exact he.elim
 |outgrown=>exact he.elim
theorem ag_ (W:Se X) {cl:Call} {f:Operand} (hc:cl.callee= .value f) (hd:bq c.nt ⟨dst,.call cl,ty,pos,after,gd⟩=true) (h:qw X c a.tmps w σ g D) (O:(bL V S ⟨dst,.call cl,ty,pos,after,gd⟩).Rel (ci X) σ fp r τ gp)
  (T:sV X c a r τ next Q):(⟨dst,.call cl,ty,pos,after,gd⟩:Oper).wp P a w next Q:=by
 obtain ⟨callee,args,B⟩:=cl
 simp only at hc
 subst hc
 simp only [bL] at O
 obtain ⟨p,Y,hp,J⟩:=b9 h O
 obtain ⟨ps,ad,hl,ao,E⟩:=zX h J
 have A: ∀ (j:Nat) q,ps[j]? =some q->po X w (c.N g D) g ((args.map a.eval).getD j undef) q:=fun j q hq=>by
  simp_all
 have L:ps.length=(args.map a.eval).size:=by grind
 have fin: ∀ {gid:FuncId} {a0s bs:Array Value},a.eval f= .func (.func gid) a0s bs->(∃fn,P.funcs[gid]? =some fn/\(fn.name== "runtime.NumGoroutine")=false/\fn.body.isNone=false)->Calls P gid (a0s++args.map a.eval++bs) w (fun
    | .returned v,F=>next (a.put dst v) F
    | .panicked chain,F=>Q (.panic chain) a F
    | .outgrown,_=>LetsOut Q)->(⟨dst,.call ⟨.value f,args,B⟩,ty,pos,after,gd⟩:Oper).wp P a w next Q:=by
  intro gid a0s bs he I z
  obtain ⟨fn,f1,f2,f3⟩:=I
  unfold Oper.wp
  rw [aiG rfl he,QP f1 f2 f3]
  exact z
 split at E
 ·rename_i gid x rest ax
  have M:=A 0 x rfl
  obtain ⟨h1,h2⟩:=adm W h (o:=⟨dst,.call ⟨.value f,args,B⟩,ty,pos,after,gd⟩) (xs:=args.map a.eval) (by omega) M (fun j q hq=>A (j+1) q (by grind)) rfl hd E T
  generalize he:a.eval f=fv at hp
  cases hp<;>grind
 ·obtain ⟨gid,a0s,bs,he,I,z⟩:=ZU h (o:=⟨dst,.call ⟨.value f,args,B⟩,ty,pos,after,gd⟩) hp L A rfl hd E T
  exact fin he I z
end
section
variable {U:sW} {V:Env U} {P:Program} {X:qx V P} {K:cj U} {S:sY U} {c:Ctx} {a:Act} {w:World} {σ:St U} {g:Gh U} {D:Nat->Option Nat}
variable {next:Act->World->Prop} {Q:Exit->Act->World->Prop} {r:MR U} {τ:St U} {fp gp:List Loc} {N:aN}
variable {dst:Option Tmp} {ty:TypeId} {pos:String} {after:Array Edge} {gd:Option (Nat×Bool)}
theorem ahk {t:TypeId} (hd:bq c.nt ⟨dst,.makeMap t none,ty,pos,after,gd⟩=true) (h:qw X c a.tmps w σ g D) (q:(bL V S ⟨dst,.makeMap t none,ty,pos,after,gd⟩).Rel K σ fp r τ gp)
  (A:sV X c a r τ next Q):(⟨dst,.makeMap t none,ty,pos,after,gd⟩:Oper).wp P a w next Q:=by
 simp only [bL] at q
 split at q
 case h_2=>exact q.elim
 rename_i d e he
 simp only [M.Rel] at q
 split at q
 case h_2=>exact q.elim
 rename_i x
 obtain ⟨h1,h2,_⟩:=q
 subst h2
 have hs:=h.newBox x (c.free (zH hd)) (o:= .map #[] 0) (b:= .map e []) ⟨#[],0,heap_alloc_new w _,rfl,by simp⟩
 obtain ⟨B,E⟩:=hs.putAct (o:=⟨some d,.makeMap t none,ty,pos,after,gd⟩) hd (p:= .mp d) (.mp d w.heap.size (by simp [Gh.put]))
 unfold Oper.wp
 have z:(execOp a.eval ⟨some d,.makeMap t none,ty,pos,after,gd⟩).run P w= .ok (.value (.map (some w.heap.size))) (w.alloc (.map #[] 0)):=by
  rfl
 rw [z]
 exact A.done h1 _ _ _ _ E B
structure MN (P:Program) (kt:TypeId) (n:Nat) (fs:Array Field):Prop where
 und:P.underlying kt=some (.struct fs)
 stood:P.stoodInHeld kt=false
 size:fs.size=n
 ints: ∀ (i:Nat) (f:Field),fs[i]? =some f->f.name≠ "_" /\f.offset=i/\ ∃k,P.underlying f.type=some (.int k)
theorem NH {t:TypeId} {e:U.E} (X:qx V P) (h:V.isMt t e=true):(∃b i,P.underlying t=some (.map (X.bU e) b)/\P.info? b=some i/\i.zero=some (.bool false))/\(∃fs,MN P (X.bU e) (X.aR e) fs)/\
  ∀x y,∃b,PV.eqvI (V.cells e x) (V.cells e y)=some b:=by
 unfold Env.isMt at h
 split at h
 ·rename_i e' he
  split at h
  ·rename_i q
   subst q
   refine ⟨Nx X he, ?_⟩
   unfold Env.mty at he
   split at he
   ·rename_i row pA
    obtain ⟨⟨fs,h1,h2,z,A⟩,B⟩:=X.keyT t row _ pA he
    exact ⟨⟨fs,h1,h2,z,A⟩,B⟩
   grind
  simp_all
 simp_all
theorem QQ {kt:TypeId} {n:Nat} {fs:Array Field} (hk:MN P kt n fs) (em:Bool) (d:Nat) (vs:Array Value) (hs:vs.size=n) (w:World):
  (Instr.checkKey em (d+2) kt (.agg vs)).run P w= .ok () w:=by
 simp only [Instr.checkKey,Bl,run_underlying hk.und,Al]
 rw [<-Array.forIn_toList]
 have hf: ∀f∈fs.toList,f.name≠ "_" /\(∃v,vs[f.offset]? =some v)/\ ∃k,P.underlying f.type=some (.int k):=by
  intro f hf
  obtain ⟨i,E⟩:=List.mem_iff_getElem?.1 hf
  have x:fs[i]? =some f:=by grind
  obtain ⟨h1,h2,F⟩:=hk.ints i f x
  have A:i<vs.size:=by rw [hs,<-hk.size];grind
  simp_all
 generalize fs.toList=l at hf
 induction l with
 |nil=>simp
 |cons f l B=>
  obtain ⟨h1,⟨v,hv⟩,k,q⟩:=hf f (by simp)
  have:=B fun f z=>hf f (by simp [z])
  simp only [List.forIn_cons,Bl,h1,ne_eq,not_false_eq_true,if_true,G7 q hv,Al,Instr.checkKey,run_underlying q,Sem.run_pure]
  exact this
def jR (X:qx V P) (w:World) (N:aN) (g:Gh U) (e:U.E) (x:U.El e) (k:Value):Prop:= ∃vs,k= .agg vs/\vs.size=X.aR e/\ ∀ (j:Nat) p,(V.cells e x)[j]? =some p->po X w N g (vs.getD j undef) p
theorem aiC {e:U.E} {fs:Array Field} (hk:MN P (X.bU e) (X.aR e) fs) {x y:U.El e} {u v:Value} (L:jR X w N g e x u) (M:jR X w N g e y v) {b:Bool} (hb:PV.eqvI (V.cells e x) (V.cells e y)=some b):
  (Op.equal (X.bU e) u v).run P w= .ok b w:=by
 obtain ⟨xs,rfl,q,z⟩:=L
 obtain ⟨A,rfl,B,F⟩:=M
 have J:P.fieldsOf (X.bU e)=fs:=by simp [Program.fieldsOf,hk.und]
 show (Op.equalIn (9998+1+1) (X.bU e) (.agg xs) (.agg A)).run P w=_
 rw [run_equalIn_struct w (9998+1) _ xs A (by rw [J];exact hk.und) hk.stood,J]
 exact QR (X:=X) (g:=g) (N:=N) 9998 xs A fs.toList _ _ 0 b hb (by rw [X.len];simpa using hk.size) (fun i p I=>by
  simp only [Ej];exact ⟨z i p I,by rw [q,<-X.len e x];grind⟩) (fun i p I=>by
  simp only [Ej];exact ⟨F i p I,by rw [B,<-X.len e y];grind⟩) (fun i f hf=>by
  have:=hk.ints i f (by grind);grind)
theorem QW {e:U.E} {fs:Array Field} (hk:MN P (X.bU e) (X.aR e) fs) (B: ∀x y,∃b,PV.eqvI (V.cells e x) (V.cells e y)=some b) {x:U.El e} {u:Value} (W:jR X w N g e x u) (b:Bool):
  ∀ (l:List (U.El e×Bool)) (en:List MapEntry) (i:Nat),en.length=l.length->(∀ (j:Nat) y t,l[j]? =some (y,t)-> ∃m,en[j]? =some m/\m.val= .bool t/\jR X w N g e y m.key)->
  (dW V e l x=none/\KU V e l x b=l++[(x,b)]/\(Instr.findAsking (X.bU e) u en i).run P w= .ok none w)\/
  ∃j y t,l[j]? =some (y,t)/\eS V e y x=true/\dW V e l x=some t/\KU V e l x b=l.set j (y,b)/\(Instr.findAsking (X.bU e) u en i).run P w= .ok (some (i+j,.bool t)) w:=by
 intro l
 induction l with
 |nil=>
  intro en i hl _
  have:en=[]:=List.eq_nil_of_length_eq_zero hl
  subst this
  exact .inl ⟨rfl,rfl,rfl⟩
 |cons Y l ih=>
  intro en i hl F
  obtain ⟨y,t⟩:=Y
  cases en with
  |nil=>simp at hl
  |cons m en=>
   obtain ⟨m',M,I,J⟩:=F 0 y t rfl
   simp at M
   subst M
   obtain ⟨bb,L⟩:=B x y
   obtain ⟨bc,ad⟩:=B y x
   have O:bb=bc:=by
    have key: ∀ (a0s bs:List (PV U)) (p q:Bool),PV.eqvI a0s bs=some p->PV.eqvI bs a0s=some q->p=q:=by
     intro a0s
     induction a0s with
     |nil=>grind [PV.eqvI]
     |cons z a0s ao=>
      intro bs p q h1 h2
      obtain ⟨hlen,hh⟩:=ur h1
      cases bs with
      |nil=>grind
      |cons z' bs=>
       obtain ⟨k,m1,m2,rfl,rfl⟩:=hh 0 z z' rfl rfl
       grind [PV.eqvI]
    grind
   have heq:=aiC (w:=w) hk W J L
   have A:eS V e y x=bb:=by grind [eS]
   simp only [Instr.findAsking,Bl,heq,Al]
   cases bb with
   |true=>
    refine .inr ⟨0,y,t,rfl,A,by simp [dW,A],by simp [KU,A], ?_⟩
    simp [I]
   |false=>
    rcases ih en (i+1) (by grind) (fun j y t hj=>F (j+1) y t (by grind)) with ⟨h1,h2,T⟩|⟨j,y',t',h1,h2,T,h4,h5⟩
    ·grind [dW,KU]
    ·refine .inr ⟨j+1,y',t',by grind,h2,by simp [dW,A,T],by simp [KU,A,h4], ?_⟩
     grind
theorem Uk (h:qw X c a.tmps w σ g D) {t:TypeId} {m key:PV U} {L O:Value} {k:(id:Nat)->(e:U.E)->List (U.El e×Bool)->U.El e->M U} (T:po X w (c.N g D) g L m) (hk:po X w (c.N g D) g O key) (z:(B6 V t m key k).Rel K σ fp r τ gp):
  ∃id e l x fp' kb,(k id e l x).Rel K σ fp' r τ gp/\L= .map (some kb)/\g.μ id=some kb/\σ.b id=some (.map e l)/\V.isMt t e=true/\jR X w (c.N g D) g e x O/\qW X w (c.N g D) g (c.ο kb) kb (.map e l):=by
 unfold B6 at z
 split at z
 ·rename_i id cs
  simp only [M.Rel] at z
  split at z
  ·rename_i e l hb
   cases hE:V.isMt t e with
   |false=>rw [hE] at z;exact z.elim
   |true=>
    rw [hE] at z
    simp only [cond_true] at z
    split at z
    ·rename_i x W
     obtain ⟨kb,A,F⟩:=h.boxes _ _ hb
     obtain ⟨t1,t2,t3⟩:=X.kE _ _ _ W
     cases T with
     |mp _ b I=>
      rw [I] at A
      injection A with A
      subst A
      cases hk with
      |agg vs _ hl Y=>
       refine ⟨id,e,l,x,_,b,z,rfl,I,hb,hE,⟨vs,rfl,hl.trans t1,fun j p hp=> ?_⟩,F⟩
       have hj:j<cs.length:=by have:=(Dg.1 hp).1;rw [X.len] at this;omega
       obtain ⟨q,J,B⟩:=t3 j _ (zk hj)
       rw [hp] at J
       injection J with J
       subst J
       exact (Y j _ (zk hj)).less B
    ·exact z.elim
  ·exact z.elim
 ·exact z.elim
theorem QX {e:U.E} {fs:Array Field} (hk:MN P (X.bU e) (X.aR e) fs) (u:Value) (en:List MapEntry) (w:World):(Instr.findKey (X.bU e) u en).run P w=(Instr.findAsking (X.bU e) u en 0).run P w:=by
 cases en with
 |nil=>simp [Instr.findKey,run_underlying hk.und,Instr.findNow,Instr.findAsking]
 |cons m en=>
  have:Instr.findNow (.struct fs) u (m::en) 0=none:=by
   rfl
  simp only [Instr.findKey,Bl,run_underlying hk.und,Al,this]
theorem Nw {kb:Nat} {e:U.E} {l:List (U.El e×Bool)} {t:Array Value} (hb:qW X w N g t kb (.map e l)): ∃en cl,w.heap[kb]? =some (.map en cl)/\en.toList.length=l.length/\
  ∀ (j:Nat) y t,l[j]? =some (y,t)-> ∃m,en.toList[j]? =some m/\m.val= .bool t/\jR X w N g e y m.key:=by
 obtain ⟨en,cl,h1,h2,q⟩:=hb
 refine ⟨en,cl,h1,by omega,fun j y t hj=> ?_⟩
 obtain ⟨m,vs,F,x,z,A,B⟩:=q j y t hj
 exact ⟨m,by grind,x,vs,z,A,B⟩
theorem ahh {t:TypeId} {m x:Operand} {ok:Bool} (hd:bq c.nt ⟨dst,.lookup t m x ok,ty,pos,after,gd⟩=true) (h:qw X c a.tmps w σ g D) (hr:(bL V S ⟨dst,.lookup t m x ok,ty,pos,after,gd⟩).Rel K σ fp r τ gp)
  (ht:sV X c a r τ next Q):(⟨dst,.lookup t m x ok,ty,pos,after,gd⟩:Oper).wp P a w next Q:=by
 obtain ⟨p,ad,hp,O⟩:=b9 h hr
 obtain ⟨q,ao,hq,T⟩:=b9 h O
 obtain ⟨id,e,l,y,ax,kb,B,W,az,a6,hE,E,F⟩:=Uk h hp hq T
 obtain ⟨⟨vb,i,hu,hi,hz⟩,⟨fs,hT⟩,I⟩:=NH X hE
 obtain ⟨en,cl,hblk,hlen,J⟩:=Nw F
 obtain ⟨vs,L,M,_⟩:=E
 have Y:=QQ (P:=P) hT en.isEmpty 9998 vs M w
 have a7:(zeroValue vb).run P w= .ok (.bool false) w:=by simp_all [zeroValue,typeInfo]
 have z: ∀ {res:Option (Nat×Value)},(Instr.findAsking (X.bU e) (a.eval x) en.toList 0).run P w= .ok res w->(execOp a.eval ⟨dst,.lookup t m x ok,ty,pos,after,gd⟩).run P w=
   .ok (.value (match res with|some (_,v)=>if ok then .tuple #[v,.bool true] else v|none=>if ok then .tuple #[.bool false,.bool false] else .bool false)) w:=by
  intro res A
  rw [<-QX hT] at A
  simp only [execOp,Instr.lookup,Bl,run_underlying hu,Al,W,G6 hblk,Sem.run_pure]
  rw [L] at A ⊢
  rw [show (10000:Nat)=9998+2 from rfl,Y]
  simp only [Al,A]
  cases res<;>simp_all
 rcases QW (w:=w) hT I (b:=true) ⟨vs,L,M,‹_›⟩ l en.toList 0 hlen J with ⟨h1,_,h3⟩|⟨j,y',t',h1,_,h2,_,h3⟩
 ·rw [h1] at B
  refine bN hd ht h (z h3) ?_ B
  cases ok with
  |true=>
   refine .tuple _ _ rfl fun j p hp=> ?_
   match j,hp with
   |0,hp=>simp at hp;subst hp;exact .bool _
   |1,hp=>simp at hp;subst hp;exact .bool _
  |false=>exact .bool _
 ·rw [h2] at B
  refine bN hd ht h (z h3) ?_ B
  cases ok with
  |true=>
   refine .tuple _ _ rfl fun j p hp=> ?_
   match j,hp with
   |0,hp=>simp at hp;subst hp;exact .bool _
   |1,hp=>simp at hp;subst hp;exact .bool _
  |false=>exact .bool _
theorem KD: ∀ {a0s bs:List (PV U)},PV.eqvI a0s bs=some true->a0s=bs:=by
 intro a0s
 induction a0s with
 |nil=>grind [PV.eqvI]
 |cons z a0s A=>
  intro bs h
  obtain ⟨hlen,q⟩:=ur h
  cases bs with
  |nil=>grind
  |cons x bs=>
   obtain ⟨k,m1,m2,rfl,rfl⟩:=q 0 z x rfl rfl
   grind [PV.eqvI]
theorem aec {e:U.E} {x y:U.El e} {u v:Value} (M:jR X w N g e x u) (O:jR X w N g e y v) (he:PV.eqvI (V.cells e y) (V.cells e x)=some true):(Instr.keyThatStays v u).run P w= .ok u w:=by
 obtain ⟨xs,rfl,A,B⟩:=M
 obtain ⟨T,rfl,W,F⟩:=O
 have heq:=KD he
 obtain ⟨_,hints⟩:=ur he
 have I:Instr.sameBits (9999+1) (.agg T) (.agg xs)=true:=by
  simp only [Instr.sameBits,pX,xm]
  refine ⟨by grind,fun z Y=> ?_⟩
  obtain ⟨j,hj⟩:=List.mem_iff_getElem?.1 Y
  obtain ⟨a1,a2⟩:=z
  rw [List.getElem?_zip_eq_some] at hj
  obtain ⟨h1,h2⟩:=hj
  simp only [Array.getElem?_toList] at h1 h2
  have J:j<(V.cells e x).length:=by rw [X.len,<-A];grind
  have hc:=zk J
  have q:(V.cells e y)[j]? =some (V.cells e x)[j]:=by grind
  obtain ⟨k,m1,m2,e1,e2⟩:=hints j _ _ q hc
  have r1:=F j _ q
  have L:=B j _ hc
  rw [e1] at r1 L
  have q1:=De r1
  have q2:=De L
  simp_all [Instr.sameBits]
 simp_all [Instr.keyThatStays]
theorem ahl {t:TypeId} {m x y:Operand} (h:qw X c a.tmps w σ g D) (hr:(bL V S ⟨dst,.mapUpdate t m x y,ty,pos,after,gd⟩).Rel K σ fp r τ gp)
  (ht:sV X c a r τ next Q):(⟨dst,.mapUpdate t m x y,ty,pos,after,gd⟩:Oper).wp P a w next Q:=by
 cases A:dst with
 |some d=>subst A;exact hr.elim
 |none=>
 subst A
 have A:(none:Option Tmp)=none:=rfl
 obtain ⟨p,b3,hp,ax⟩:=b9 h hr
 obtain ⟨q,b4,E,az⟩:=b9 h ax
 obtain ⟨z,b5,hz,M⟩:=b9 h az
 split at M
 case h_2=>exact M.elim
 rename_i b
 have O:=kV hz
 obtain ⟨id,e,l,k,b6,kb,a6,a7,T,b7,hE,I,W⟩:=Uk h hp E M
 obtain ⟨e1,e2,_⟩:=a6
 subst e2
 obtain ⟨⟨vb,i,hu,hi,ch⟩,⟨fs,hT⟩,J⟩:=NH X hE
 obtain ⟨en,cl,hblk,hlen,L⟩:=Nw W
 have B:=I
 obtain ⟨vs,a8,Y,bc⟩:=I
 have cu:=QQ (P:=P) hT false 9998 vs Y w
 have cx:kb<w.heap.size:=(Hu.1 hblk).1
 have hw: ∀ (o:Obj) b o',b<w.heap.size-> ¬ (c.N g D) b o'->({w with heap:=w.heap.setIfInBounds kb o}:World).cell? ⟨b,o',none⟩=w.cell? ⟨b,o',none⟩:=fun o b o' _ hn=>by
  have:kb≠b:=fun e=>hn (.inr (.inl ⟨id,e▸T⟩))
  grind [World.cell?]
 have fin: ∀ {en':Array MapEntry} {cl':Nat},(Instr.mapUpdate t (a.eval m) (a.eval x) (a.eval y)).run P w= .ok () {w with heap:=w.heap.setIfInBounds kb (.map en' cl')}->en'.size=(KU V e l k b).length->
   (∀ (j:Nat) y t,(KU V e l k b)[j]? =some (y,t)-> ∃m,en'[j]? =some m/\m.val= .bool t/\jR X w (c.N g D) g e y m.key)->(⟨none,.mapUpdate t m x y,ty,pos,after,gd⟩:Oper).wp P a w next Q:=by
  intro en' cl' ad bf bh
  have hs:=h.setBox T (w':={w with heap:=w.heap.setIfInBounds kb (.map en' cl')}) (b:= .map e (KU V e l k b)) rfl rfl rfl (by simp) (fun b' cy=>by grind) ⟨en',cl',by simp_all,bf,fun j y t hj=>by
   obtain ⟨m,f1,f2,bn,f3,f4,f5⟩:=bh j y t hj
   exact ⟨m,bn,f1,f2,f3,f4,fun q p hp=>(f5 q p hp).mono X (hw _) (fun _ _ _ h=>h) (Gh.le.refl g)⟩⟩
  exact wp_skip ht A hs (by simp [execOp,ad]) e1
 have base: ∀ {res:Option (Nat×Value)},(Instr.findAsking (X.bU e) (a.eval x) en.toList 0).run P w= .ok res w->(Instr.mapUpdate t (a.eval m) (a.eval x) (a.eval y)).run P w=
   (match res with
    |some (i,_)=>(do let key<-Instr.keyThatStays (((en[i]?).map (·.key)).getD (a.eval x)) (a.eval x);setObj kb (.map (en.modify i fun e=>{e with key,val:=a.eval y}) cl):Sem Unit).run P w
    |none=>(setObj kb (.map (en.push {key:=a.eval x,val:=a.eval y,born:=cl}) (cl+1))).run P w):=by
  intro res ao
  rw [<-QX hT] at ao
  simp only [Instr.mapUpdate,Bl,run_underlying hu,Al,a7,G6 hblk]
  grind [Al,Bl]
 rcases QW (w:=w) hT J (b:=b) B l en.toList 0 hlen L with ⟨h1,h2,h3⟩|⟨j,y',t',h1,F,h2,h4,h3⟩
 ·refine fin ((base h3).trans (QZ _ hblk)) (by grind) fun j y1 t1 hj=> ?_
  rw [h2] at hj
  by_cases c5:j<l.length
  ·grind
  ·rw [List.getElem?_append_right (by omega)] at hj
   have bt:j-l.length=0:=by
    grind
   rw [bt] at hj
   simp at hj
   obtain ⟨rfl,rfl⟩:=hj
   have bz:j=en.size:=by grind
   subst bz
   exact ⟨{key:=a.eval x,val:=a.eval y,born:=cl},by simp,O,B⟩
 ·obtain ⟨m1,f1,f2,f3⟩:=L j y' t' h1
  rw [Ej] at h3
  have b0:en[j]? =some m1:=by grind
  have c9:(Instr.keyThatStays (((en[j]?).map (·.key)).getD (a.eval x)) (a.eval x)).run P w= .ok (a.eval x) w:=by
   grind [aec,eS]
  refine fin ((base h3).trans ?_) (en':=en.modify j fun e=>{e with key:=a.eval x,val:=a.eval y}) (cl':=cl) (by grind) fun q y1 t1 E=> ?_
  ·grind [Bl,Al,QZ]
  ·rw [h4,List.getElem?_set] at E
   rw [Array.getElem?_modify]
   by_cases b1:j=q
   ·subst b1
    rw [if_pos rfl] at E ⊢
    split at E
    case isFalse=>cases E
    injection E with E
    injection E with g1 g2
    subst g1;subst g2
    refine ⟨_,by rw [b0];rfl,O, ?_⟩
    obtain ⟨bb,b2⟩:=J y' k
    unfold eS at F
    rw [b2] at F
    simp only at F
    subst F
    refine ⟨vs,a8,Y,fun j p hp=>bc j p ?_⟩
    grind [KD]
   grind
end
section
variable {U:sW} {K:cj U} {R:Type} {C:sN U R}
theorem St.setR_self (σ:St U) (n:Nat) {v:PV U} (h:σ.r n=v):σ.eqv (σ.dU n v):=by
 intro k
 by_cases hk:(Loc.wr n).W k
 ·have hk:k= .r n:=hk
  subst hk;simp [St.at_,h]
 ·rw [(σ.setR_at n v).2 k hk]
theorem LZ (hC:C.Tells K): ∀ (m:M U) {σ σ0:St U} {fp:List Loc} {κ:MR U->St U->List Loc->Option R} {x:R},m.cps C σ fp κ=some x->σ0.eqv σ->
  ∃r q τ gp,m.Rel K σ0 fp r q gp/\q.eqv τ/\κ r τ gp=some x:=by
 intro m
 induction m with
 |done=>intro σ σ0 fp κ x h he;exact ⟨_,_,_,_,⟨rfl,rfl,rfl⟩,he,h⟩
 |fail=>intro σ σ0 fp κ x h he;cases h
 |raise v=>intro σ σ0 fp κ x h he;exact ⟨_,_,_,_,⟨rfl,rfl,rfl⟩,he,h⟩
 |out o=>intro σ σ0 fp κ x h he;exact ⟨_,_,_,_,⟨rfl,rfl,rfl⟩,he,h⟩
 |kJ n k z=>
  intro σ σ0 fp κ x h he
  obtain ⟨r,q,τ,gp,A,B,hk⟩:=z _ h he
  exact ⟨r,q,τ,gp,by simp only [M.Rel];rw [he.r n];exact A,B,hk⟩
 |dU n v m z=>
  intro σ σ0 fp κ x h he
  exact z h (he.dU n v)
 |gT n k z=>
  intro σ σ0 fp κ x h he
  obtain ⟨r,q,τ,gp,A,B,hk⟩:=z _ h he
  exact ⟨r,q,τ,gp,by simp only [M.Rel];rw [he.b n];exact A,B,hk⟩
 |eN n v m z=>
  intro σ σ0 fp κ x h he
  exact z h (he.eN n v)
 |lH n i k z=>
  intro σ σ0 fp κ x h he
  obtain ⟨r,q,τ,gp,A,B,hk⟩:=z _ h he
  exact ⟨r,q,τ,gp,by simp only [M.Rel];rw [he.b n];exact A,B,hk⟩
 |lN n i k z=>
  intro σ σ0 fp κ x h he
  obtain ⟨r,q,τ,gp,A,B,hk⟩:=z _ h he
  exact ⟨r,q,τ,gp,by simp only [M.Rel];rw [he.b n];exact A,B,hk⟩
 |gC n i cs m z=>
  intro σ σ0 fp κ x h he
  simp only [M.cps] at h
  split at h
  ·rename_i σ1 hs
   obtain ⟨E,h2,F⟩:=he.gC hs
   obtain ⟨r,q,τ,gp,A,B,hk⟩:=z h F
   exact ⟨r,q,τ,gp,⟨E,h2,A⟩,B,hk⟩
  ·cases h
 |kH n k z=>
  intro σ σ0 fp κ x h he
  obtain ⟨r,q,τ,gp,A,B,hk⟩:=z _ h he
  exact ⟨r,q,τ,gp,by simp only [M.Rel];rw [he.o n];exact A,B,hk⟩
 |dI n v m z=>
  intro σ σ0 fp κ x h he
  exact z h (he.dI n v)
 |kG n k z=>
  intro σ σ0 fp κ x h he
  obtain ⟨r,q,τ,gp,A,B,hk⟩:=z _ h he
  exact ⟨r,q,τ,gp,by simp only [M.Rel];rw [he.u n];exact A,B,hk⟩
 |dH n v m z=>
  intro σ σ0 fp κ x h he
  exact z h (he.dH n v)
 |fH n m z=>
  intro σ σ0 fp κ x h he
  exact z h (he.dH n .read)
 |ask o k z=>
  intro σ σ0 fp κ x h he
  cases o with
  |none=>cases h
  |some y=>
   obtain ⟨r,q,τ,gp,A,B,hk⟩:=z y h he
   exact ⟨r,q,τ,gp,⟨y,rfl,A⟩,B,hk⟩
 |case j m1 m2 m3 i1 i2 i3=>
  intro σ σ0 fp κ x h he
  simp only [M.cps] at h
  split at h
  ·rename_i b hb
   cases b with
   |true=>
    obtain ⟨r,q,τ,gp,A,B,hk⟩:=i1 (σ0:=σ0) h (he.trans (St.setR_self σ j hb))
    exact ⟨r,q,τ,gp,.inl ⟨(he.r j).trans hb,A⟩,B,hk⟩
   |false=>
    obtain ⟨r,q,τ,gp,A,B,hk⟩:=i2 (σ0:=σ0) h (he.trans (St.setR_self σ j hb))
    exact ⟨r,q,τ,gp,.inr (.inl ⟨(he.r j).trans hb,A⟩),B,hk⟩
  ·rename_i hb
   obtain ⟨r,q,τ,gp,A,B,hk⟩:=i3 h he
   exact ⟨r,q,τ,gp,.inr (.inr ⟨(he.r j).trans hb,A⟩),B,hk⟩
  simp_all
 |call f a bs k z=>
  intro σ σ0 fp κ x h he
  obtain ⟨out,ho,hk⟩:=hC _ _ _ _ _ h
  obtain ⟨r,q,τ,gp,A,B,I⟩:=z out hk he
  exact ⟨r,q,τ,gp,⟨out,ho,A⟩,B,I⟩
variable (V:Env U) (S:sY U) (K) (xx:Nat->Option B1)
def mW (all:List Oper):List Oper->St U->List (List Loc)->Ex U->St U->Prop
 |[],σ,fps,e,σ'=>fps=[]/\e= .normal/\σ'=σ
 |o::r,σ,fps,e,σ'=>
  (∃σ1 f q,(jv V S o (gJ all)).Rel K σ [] .done σ1 f/\mW all r σ1 q e σ'/\fps=f::q)\/
  (∃v f,(jv V S o (gJ all)).Rel K σ [] (.raise v) σ' f/\e= .panic v/\fps=[f])
theorem QK (hC:C.Tells K) (all:List Oper): ∀ (ops:List Oper) {σ σ0:St U} {z:List (List Loc)} {κ:Ex U->St U->List (List Loc)->Option R} {x:R},rD V S C all ops z σ κ=some x->σ0.eqv σ->
  ∃e fps A τ,mW K V S all ops σ0 fps e A/\A.eqv τ/\κ e τ (z++fps)=some x:=by
 intro ops
 induction ops with
 |nil=>intro σ σ0 z κ x h he;exact ⟨_,[],_,_,⟨rfl,rfl,rfl⟩,he,by grind [rD]⟩
 |cons o r I=>
  intro σ σ0 z κ x h he
  simp only [rD] at h
  obtain ⟨q,A,τ,gp,E,F,hk⟩:=LZ hC _ h he
  cases q with
  |done=>
   obtain ⟨e,fps,B,ρ,h1,h2,J⟩:=I hk F
   exact ⟨e,gp::fps,B,ρ,.inl ⟨A,gp,fps,E,h1,rfl⟩,h2,by grind⟩
  |raise v=>exact ⟨.panic v,[gp],A,τ,.inr ⟨v,gp,E,rfl,rfl⟩,F,hk⟩
  |out o=>cases hk
def aLJ (all:List Oper) (x:List Nat) (j:Nat):Nat->List Oper->St U->List (Nat×List Loc)->St U->Prop
 |_,[],σ,ll,σ'=>ll=[]/\σ'=σ
 |i,o::r,σ,ll,σ'=>((x.getD i 0).testBit j=true/\aLJ all x j (i+1) r σ ll σ')\/
  ((x.getD i 0).testBit j=false/\ ∃σ1 f q,(jv V S o (gJ all)).Rel K σ [] .done σ1 f/\aLJ all x j (i+1) r σ1 q σ'/\ll=(i,f)::q)
theorem aO0 (hC:C.Tells K) (all:List Oper) (A:List Nat) (j:Nat): ∀ (ops:List Oper) {i:Nat} {σ σ0:St U} {κ:List (Nat×List Loc)->Option R} {x:R},qV V S C all A j i ops σ κ=some x->σ0.eqv σ->
  ∃ll z,aLJ K V S all A j i ops σ0 ll z/\κ ll=some x:=by
 intro ops
 induction ops with
 |nil=>intro i σ σ0 κ x h he;exact ⟨[],σ0,⟨rfl,rfl⟩,h⟩
 |cons o r E=>
  intro i σ σ0 κ x h he
  simp only [qV] at h
  cases hb:(A.getD i 0).testBit j with
  |true=>
   rw [hb] at h
   obtain ⟨ll,z,h1,h2⟩:=E h he
   exact ⟨ll,z,.inl ⟨hb,h1⟩,h2⟩
  |false=>
   rw [hb] at h
   obtain ⟨q,z,τ,gp,F,I,hk⟩:=LZ hC _ h he
   cases q with
   |done=>
    obtain ⟨ll,B,h1,h2⟩:=E hk I
    exact ⟨(i,gp)::ll,B,.inr ⟨hb,z,gp,ll,F,h1,rfl⟩,h2⟩
   |raise v=>cases hk
   |out o=>cases hk
inductive xM:Option B1->Code->St U->Ex U->St U->Prop
 |skip (σ):xM none .skip σ .normal σ
 |label (l σ):xM none (.label l) σ .normal σ
 |region (id ops draw σ e σ' fps) (hd:ops.toList.all (bq S.nt)=true) (h:mW K V S ops.toList ops.toList σ fps e σ')
   (hf:draw=true->e= .normal/\ik 0 ops.toList=true/\lP (dE ops.toList []) 0 [] fps=true):xM none (.region id ops draw) σ e σ'
 |lE (id ops σ v σ' σ'' τ fps ll σe) (hd:ops.toList.all (bq S.nt)=true) (h:mW K V S ops.toList ops.toList σ fps (.panic v) σ') (he:σ'.eqv σ'') (hv:v.isErr=true) (hl:aLJ K V S ops.toList (dE ops.toList []) (fps.length-1) fps.length (ops.toList.drop fps.length) σ' ll σe) (hf:vR ops.toList σ fps ll=true)
  (hc:Ho (iN σ σ'') σ''=some τ):xM none (.region id ops true) σ (.panic v) τ
 |seqN (a b σ σ1 e σ') (h1:xM none a σ .normal σ1) (h2:xM none b σ1 e σ'):xM none (.seq a b) σ e σ'
 |seqJ (a b A σ σ1 τ e σ') (h1:xM none a σ .normal σ1) (hA:xx (1000000+ji b)=some A) (hc:Ho A σ1=some τ) (h2:xM none b τ e σ'):xM none (.seq a b) σ e σ'
 |nh (a b σ e σ') (h1:xM none a σ e σ') (he:e≠ .normal):xM none (.seq a b) σ e σ'
 |cond (j a b σ t e σ') (hj:σ.r j= .bool t) (h:xM none (bif t then a else b) σ e σ'):xM none (.cond (.tmp j) a b) σ e σ'
 |lA (id a σ σ') (h:xM none a σ (.exit id) σ'):xM none (.block id a) σ .normal σ'
 |gH (id a σ e σ') (h:xM none a σ e σ') (he:e≠ .exit id):xM none (.block id a) σ e σ'
 |loop (a A σ τ e σ') (hA:xx (ji a)=some A) (hc:Ho A σ=some τ) (h:xM (some A) a τ e σ'):xM none (.loop a) σ e σ'
 |scope (a σ e σ') (h:xM none a σ e σ'):xM none (.scope a) σ e σ'
 |exit (id σ):xM none (.exit id) σ (.exit id) σ
 |ret (σ):xM none .ret σ .ret σ
 |round (a A σ σ1 τ e σ') (h:xM none a σ .normal σ1) (hc:Ho A σ1=some τ) (h':xM (some A) a τ e σ'):xM (some A) a σ e σ'
 |leave (a A σ e σ') (h:xM none a σ e σ') (he:e≠ .normal):xM (some A) a σ e σ'
 |pre (o c σ0 σ e σ') (he:σ0.eqv σ) (h:xM o c σ e σ'):xM o c σ0 e σ'
 |post (o c σ e σ1 σ') (he:σ1.eqv σ') (h:xM o c σ e σ1):xM o c σ e σ'
theorem Bv (hC:C.Tells K) (fuel:Nat): ∀ (c:Code) {σ:St U} {κ:Ex U->St U->Option R} {x:R},run V S C xx fuel c σ κ=some x-> ∃e τ,xM K V S xx none c σ e τ/\κ e τ=some x:=by
 intro c
 induction c with
 |skip=>intro σ κ x h;exact ⟨_,_,.skip σ,h⟩
 |label l=>intro σ κ x h;exact ⟨_,_,.label l σ,h⟩
 |region id ops draw=>
  intro σ κ x h
  simp only [run] at h
  cases hd:ops.toList.all (bq S.nt) with
  |false=>grind
  |true=>
  rw [hd] at h
  simp only [cond_true] at h
  obtain ⟨e,fps,q,τ,E,z,hk⟩:=QK K V S hC _ _ h (St.eqv.refl σ)
  cases e with
  |normal=>
   simp only [zg] at hk
   cases hb:(!draw||(ik 0 ops.toList&&lP (dE ops.toList []) 0 [] fps)) with
   |false=>grind
   |true=>
    rw [hb] at hk
    refine ⟨_,_,.post _ _ _ _ _ _ z (.region id ops draw σ _ q fps hd E fun W=> ?_),hk⟩
    grind
  |exit id=>cases draw<;>simp at hk;exact ⟨_,_,.post _ _ _ _ _ _ z (.region _ ops _ σ _ q fps hd E (by simp)),hk⟩
  |ret=>cases draw<;>simp at hk;exact ⟨_,_,.post _ _ _ _ _ _ z (.region _ ops _ σ _ q fps hd E (by simp)),hk⟩
  |panic v=>
   cases draw with
   |false=>simp at hk;exact ⟨_,_,.post _ _ _ _ _ _ z (.region _ ops _ σ _ q fps hd E (by simp)),hk⟩
   |true=>
    simp only [zg,cond_true] at hk
    obtain ⟨ll,σe,hl,hk⟩:=aO0 K V S hC _ _ _ _ hk z
    cases hf:(v.isErr&&vR ops.toList σ fps ll) with
    |false=>grind
    |true=>
     rw [hf] at hk
     simp only [cond_true] at hk
     simp only [pX] at hf
     split at hk
     ·rename_i L hc
      exact ⟨_,_,.lE _ ops σ v q τ L fps ll σe hd E z hf.1 hl hf.2 hc,hk⟩
     grind
 |seq a b B J=>
  intro σ κ x h
  simp only [run] at h
  obtain ⟨e,τ,h1,h2⟩:=B h
  cases e with
  |normal=>
   simp only at h2
   split at h2
   ·rename_i A hA
    split at h2
    ·rename_i M hc
     have h2:run V S C xx fuel b M κ=some x:=by
      cases fuel with
      |zero=>cases h2
      |succ n=>exact h2
     obtain ⟨e',τ',F,I⟩:=J h2
     exact ⟨e',τ',.seqJ _ _ _ _ _ _ _ _ h1 hA hc F,I⟩
    grind
   ·obtain ⟨e',τ',F,I⟩:=J h2;exact ⟨e',τ',.seqN _ _ _ _ _ _ h1 F,I⟩
  |exit id=>exact ⟨_,_,.nh _ _ _ _ _ h1 (by simp),h2⟩
  |ret=>exact ⟨_,_,.nh _ _ _ _ _ h1 (by simp),h2⟩
  |panic v=>exact ⟨_,_,.nh _ _ _ _ _ h1 (by simp),h2⟩
 |cond cc a b B J=>
  intro σ κ x h
  simp only [run] at h
  split at h
  ·rename_i j
   split at h
   ·rename_i t z
    cases t with
    |true=>
     obtain ⟨e,τ,h1,h2⟩:=B h
     exact ⟨e,τ,.pre _ _ _ _ _ _ (St.setR_self σ j z) (.cond j a b _ true e τ (by simp) h1),h2⟩
    |false=>
     obtain ⟨e,τ,h1,h2⟩:=J h
     exact ⟨e,τ,.pre _ _ _ _ _ _ (St.setR_self σ j z) (.cond j a b _ false e τ (by simp) h1),h2⟩
   simp_all
  simp_all
 |block id a B=>
  intro σ κ x h
  simp only [run] at h
  obtain ⟨e,τ,h1,h2⟩:=B h
  cases e with
  |exit j=>
   simp only at h2
   cases hj:qy j id with
   |true=>
    rw [hj] at h2
    have:j=id:=by simp_all
    subst this
    exact ⟨_,_,.lA _ _ _ _ h1,h2⟩
   |false=>
    rw [hj] at h2
    exact ⟨_,_,.gH _ _ _ _ _ h1 (fun e=>by simp_all),h2⟩
  |normal=>exact ⟨_,_,.gH _ _ _ _ _ h1 (by simp),h2⟩
  |ret=>exact ⟨_,_,.gH _ _ _ _ _ h1 (by simp),h2⟩
  |panic v=>exact ⟨_,_,.gH _ _ _ _ _ h1 (by simp),h2⟩
 |loop a B=>
  intro σ κ x h
  simp only [run] at h
  split at h
  ·rename_i A hA
   split at h
   ·rename_i τ hc
    have key: ∀ (n:Nat) (τ:St U) (κ:Ex U->St U->Option R) (x:R),uR (Ho A) (fun σ κ=>run V S C xx fuel a σ κ) n τ κ=some x-> ∃e ρ,xM K V S xx (some A) a τ e ρ/\κ e ρ=some x:=by
     intro n
     induction n with
     |zero=>intro τ κ x h;cases h
     |succ n Y=>
      intro τ κ x h
      simp only [uR] at h
      obtain ⟨e,ρ,h1,h2⟩:=B h
      cases e with
      |normal=>
       simp only [back] at h2
       split at h2
       ·rename_i τ' O
        obtain ⟨e',T,F,I⟩:=Y τ' κ x h2
        exact ⟨e',T,.round _ _ _ _ _ _ _ h1 O F,I⟩
       grind
      |exit id=>exact ⟨_,_,.leave _ _ _ _ _ h1 (by simp),h2⟩
      |ret=>exact ⟨_,_,.leave _ _ _ _ _ h1 (by simp),h2⟩
      |panic v=>exact ⟨_,_,.leave _ _ _ _ _ h1 (by simp),h2⟩
    obtain ⟨e,ρ,h1,h2⟩:=key _ _ _ _ h
    exact ⟨e,ρ,.loop _ _ _ _ _ _ hA hc h1,h2⟩
   simp_all
  simp_all
 |scope a B=>
  intro σ κ x h
  simp only [run] at h
  obtain ⟨e,τ,h1,h2⟩:=B h
  exact ⟨_,_,.scope _ _ _ _ h1,h2⟩
 |exit id=>intro σ κ x h;exact ⟨_,_,.exit id σ,h⟩
 |ret=>intro σ κ x h;exact ⟨_,_,.ret σ,h⟩
 |_=>intro σ κ x h;cases h
end
section
variable {U:sW} {V:Env U} {P:Program} (X:qx V P) (K:cj U) (S:sY U) (c:Ctx)
def mV:Prop:= ∀ (o:Oper) (a:Act) (w:World) (σ:St U) (g:Gh U) (D:Nat->Option Nat) (r:MR U) (τ:St U) (fp gp:List Loc) (next:Act->World->Prop) (Q:Exit->Act->World->Prop),
 bq c.nt o=true->qw X c a.tmps w σ g D->(bL V S o).Rel K σ fp r τ gp->sV X c a r τ next Q->o.wp P a w next Q
def uK (ds:List Deferred) (e:Ex U) (σ':St U) (Q:Exit->Act->World->Prop):Prop:=
 ∀a' w' g' D',a'.defers=ds->qw X c a'.tmps w' σ' g' D'->match e with
  | .normal=>Q .normal a' w'
  | .exit id=>Q (.exit id) a' w'
  | .ret=>Q .ret a' w'
  | .panic v=> ∀val,po X w' (c.N g' D') g' val v->Q (.panic [{v:=val,recovered:=false}]) a' w'
variable {X K S c} {a:Act} {w:World} {σ:St U} {g:Gh U} {D:Nat->Option Nat} {Q:Exit->Act->World->Prop} {ops:Array Oper}
theorem Uy {tm:Array Value} {j d:Nat} (hd:gJ ops.toList j=some d) {b:Bool} (h:tm.getD d undef= .bool b):yielded ops tm j=some b:=by
 have ho:(ops[j]?).bind (·.dst)=some d:=by
  grind [gJ]
 have q:tm[d]? =some (.bool b):=by
  rw [H5] at h
  cases h2:tm[d]? with
  |none=>rw [h2] at h;cases h
  |some v=>grind
 simp [yielded,ho,q]
theorem alz {tm:Array Value} {j d:Nat} (hd:gJ ops.toList j=some d) (h:tm.getD d undef=undef):yielded ops tm j=none:=by
 have ho:(ops[j]?).bind (·.dst)=some d:=by
  grind [gJ]
 unfold yielded
 rw [ho]
 simp only [p9]
 rw [H5] at h
 cases h2:tm[d]? with
 |none=>rfl
 |some v=>rw [h2] at h;simp only [Option.getD_some] at h;subst h;rfl
theorem vv (B:mV X K S c) {o:Oper} {r:MR U} {τ:St U} {fp:List Loc} {next:Act->World->Prop} (hd:bq c.nt o=true) (h:qw X c a.tmps w σ g D) (q:(jv V S o (gJ ops.toList)).Rel K σ [] r τ fp)
  (A:sV X c a r τ next Q):if Region.wanted o (yielded ops a.tmps) then o.wp P a w next Q\/(o.asks P a w/\LetsOut Q) else next (a.put o.dst undef) w:=by
 have skip: ∀ {fp' x},(put o.dst (.tuple []):M U).Rel K σ fp' r τ x->next (a.put o.dst undef) w:=by
  intro fp' x hp
  obtain ⟨h1,h2⟩:=rl hp
  subst h2
  obtain ⟨E,F⟩:=h.putAct hd (v:=undef) (p:= .tuple []) (.tuple #[] [] rfl (by simp))
  exact A.done h1 _ _ _ _ F E
 have go: ∀ {fp' x},(bL V S o).Rel K σ fp' r τ x->o.wp P a w next Q:=fun h'=>B _ _ _ _ _ _ _ _ _ _ _ _ hd h h' A
 unfold jv at q
 cases I:o.guard with
 |none=>grind [Region.wanted]
 |some J=>
  obtain ⟨j,want⟩:=J
  rw [I] at q
  simp only at q
  split at q
  ·exact q.elim
  ·rename_i d hj
   have z:=h.eR d
   rcases q with ⟨hb,q⟩|⟨hb,q⟩|⟨hb,q⟩
   ·rw [hb] at z
    have L:=Uy hj (kV z)
    grind [Region.wanted]
   ·rw [hb] at z
    have L:=Uy hj (kV z)
    grind [Region.wanted]
   ·rw [hb] at z
    have hu:a.tmps.getD d undef=undef:=by
     generalize a.tmps.getD d undef=v at z
     cases z with
     |tuple vs _ hl _=>
      have:vs= #[]:=by grind
      subst this;rfl
    grind [alz,Region.wanted]
theorem Ur (F:mV X K S c) {e:Ex U} {σ':St U}: ∀ (l:List Oper) (i:Nat) (a:Act) (w:World) (σ:St U) (g:Gh U) (D:Nat->Option Nat) (fps:List (List Loc)),ops.toList.drop i=l->l.all (bq c.nt)=true->qw X c a.tmps w σ g D->
  mW K V S ops.toList l σ fps e σ'->uK X c a.defers e σ' Q->wpOps P ops Q (List.range' i l.length) a w:=by
 intro l
 induction l with
 |nil=>
  intro i a w σ g D fps _ _ h E hl
  obtain ⟨_,h2,I⟩:=E
  subst h2;subst I
  simp only [List.length_nil,List.range'_zero,wpOps]
  exact hl a w g D rfl h
 |cons o l J=>
  intro i a w σ g D fps x q h E hl
  have L:ops[i]? =some o:=by
   have:=congrArg (·[0]?) x
   grind
  have z:ops.toList.drop (i+1)=l:=by
   rw [<-List.drop_drop,x];rfl
  simp only [List.all_cons,pX] at q
  simp only [ue,List.range'_succ,wpOps,L]
  rcases E with ⟨σ1,f,A,h1,h2,_⟩|⟨v,f,h1,h2,_⟩
  ·exact vv F q.1 h h1 ⟨fun _ a' w' g' D' M hs=>J (i+1) a' w' σ1 g' D' A z q.2 hs h2 (by grind),fun v hv=>by cases hv⟩
  ·subst h2
   refine vv F q.1 h h1 ⟨(fun hv=>by cases hv),fun O hv w' g' D' val B hs=> ?_⟩
   injection hv with hv
   subst hv
   exact hl a w' g' D' rfl hs val B
def ve (V:Env U) (K:cj U) (S:sY U) (ops:Array Oper):List (Nat×List Loc)->St U->St U->Prop
 |[],σ,σ'=>σ.eqv σ'
 |(i,f)::r,σ,σ'=> ∃o σ1,ops[i]? =some o/\(jv V S o (gJ ops.toList)).Rel K σ [] .done σ1 f/\ve V K S ops r σ1 σ'
theorem ve.pre {l:List (Nat×List Loc)}: ∀ {σ0 σ σ':St U},ve V K S ops l σ σ'->σ.eqv σ0->ve V K S ops l σ0 σ':=by
 induction l with
 |nil=>intro σ0 σ σ' h he;exact he.symm.trans h
 |cons x l q=>
  obtain ⟨i,f⟩:=x
  intro σ0 σ σ' h he
  obtain ⟨o,σ1,ho,h1,h2⟩:=h
  obtain ⟨τ,z,A⟩:=h1.eqv K he
  exact ⟨o,τ,ho,z,q h2 A⟩
theorem ve.front {i:Nat} {f:List Loc} {post:List (Nat×List Loc)}: ∀ (pre:List (Nat×List Loc)) {σ σ':St U},ve V K S ops (pre++(i,f)::post) σ σ'->(∀x∈pre,dD x.2 f=true)->
  ve V K S ops ((i,f)::(pre++post)) σ σ':=by
 intro pre
 induction pre with
 |nil=>simp
 |cons x pre B=>
  obtain ⟨j,g⟩:=x
  intro σ σ' h ha
  obtain ⟨o,σ1,ho,h1,h2⟩:=h
  obtain ⟨E,F,q,I,J⟩:=B h2 (fun x L=>ha x (by simp [L]))
  obtain ⟨z,A,M,O,T⟩:=Rel.swap K h1 I (ha (j,g) (by simp))
  exact ⟨E,z,q,M,o,A,ho,O,J.pre T⟩
theorem ZK: ∀ (l:List Oper) (acc:List Nat),∃t,dE l acc=acc++t/\t.length=l.length:=by
 intro l
 induction l with
 |nil=>simp_all [dE]
 |cons o l q=>
  intro acc
  obtain ⟨t,h1,h2⟩:=q (acc++[n_ acc o])
  grind [dE]
theorem ZL: ∀ (l:List Oper) (acc:List Nat) (k:Nat) (o:Oper),l[k]? =some o->(dE l acc)[acc.length+k]? =some (n_ ((dE l acc).take (acc.length+k)) o):=by
 intro l
 induction l with
 |nil=>simp
 |cons q l x=>
  intro acc k o h
  cases k with
  |zero=>
   simp at h;subst h
   obtain ⟨t,h1,h2⟩:=ZK l (acc++[n_ acc q])
   grind [dE]
  |succ k=>
   grind [dE]
theorem ac1 (acc:List Nat) (j:Nat): ∀ (es:List Edge) (s:Nat),(es.foldl (fun s e=>bif Region.binds .any e then s|||2^e.on|||acc.getD e.on 0 else s) s).testBit j=true->
  s.testBit j=true\/ ∃e∈es,Region.binds .any e=true/\(e.on=j\/(acc.getD e.on 0).testBit j=true):=by
 intro es
 induction es<;>grind
theorem Eu: ∀ (l:List Oper) (n k:Nat) (o:Oper),ik n l=true->l[k]? =some o-> ∀e∈o.after.toList,Region.binds .any e=true->e.on<n+k:=by
 intro l
 induction l with
 |nil=>simp
 |cons q l x=>
  intro n k o hf h e he hb
  simp only [ik,pX,xm] at hf
  cases k with
  |zero=>
   simp at h;subst h
   have:=hf.1 e he
   simp_all
  |succ k=>
   grind
def Cb (ops:Array Oper) (L:Nat->Prop):Prop:= ∀ (k:Nat) (o:Oper),L k->ops[k]? =some o-> ∀e∈o.after.toList,Region.binds .any e=true->L e.on
theorem Nz (hf:ik 0 ops.toList=true) {L:Nat->Prop} (J:Cb ops L) {j:Nat}: ∀ (n k:Nat),k<n-> ∀o,ops[k]? =some o->(∀e∈o.after.toList,Region.binds .any e=true->L e.on)->
  ((dE ops.toList []).getD k 0).testBit j=true->L j:=by
 intro n
 induction n with
 |zero=>simp
 |succ n M=>
  intro k hk o ho q hb
  have I:=ZL ops.toList [] k o (by grind)
  simp only [List.length_nil,Ej] at I
  rw [List.getD_eq_getElem?_getD,I,Option.getD_some] at hb
  unfold n_ at hb
  rcases ac1 _ _ _ _ hb with h|⟨e,he,x,h⟩
  ·simp at h
  ·have z:=Eu _ 0 k o hf (by grind) e he x
   rw [Ej] at z
   rcases h with h|h
   ·grind
   ·have B:=q e he x
    rw [List.getD_eq_getElem?_getD,List.getElem?_take_of_lt z,<-List.getD_eq_getElem?_getD] at h
    have A:e.on<ops.size:=by grind
    exact M e.on (by omega) _ (Array.getElem?_eq_getElem A) (fun e' E F=>J _ _ B (Array.getElem?_eq_getElem A) e' E F) h
theorem aj6: ∀ (l:List Oper) (i:Nat) (σ σ':St U) (fps:List (List Loc)),ops.toList.drop i=l->mW K V S ops.toList l σ fps .normal σ'->fps.length=l.length/\ve V K S ops ((List.range' i l.length).zip fps) σ σ':=by
 intro l
 induction l with
 |nil=>
  intro i σ σ' fps _ h
  obtain ⟨h1,_,x⟩:=h
  subst h1;subst x
  exact ⟨rfl,St.eqv.refl _⟩
 |cons o l A=>
  intro i σ σ' fps hd h
  have B:ops[i]? =some o:=by
   have:=congrArg (·[0]?) hd
   grind
  have z:ops.toList.drop (i+1)=l:=by rw [<-List.drop_drop,hd];rfl
  rcases h with ⟨σ1,f,q,h1,h2,x⟩|⟨v,f,_,h2,_⟩
  ·subst x
   obtain ⟨E,F⟩:=A (i+1) σ1 σ' q z h2
   exact ⟨by simp [E],o,σ1,B,h1,F⟩
  grind
theorem KJ (before:List Nat): ∀ (fs:List (List Loc)) (j:Nat) (done:List (List Loc)),j=done.length->lP before j done fs=true-> ∀ (p q:Nat) (f g:List Loc),p<q->(done++fs)[p]? =some f->(done++fs)[q]? =some g->done.length<=q->
  (before.getD q 0).testBit p=true\/dD f g=true:=by
 intro fs
 induction fs with
 |nil=>
  grind
 |cons h fs F=>
  intro j done hj hf p q f g x hp z hle
  simp only [lP,pX,xm] at hf
  by_cases A:q=done.length
  ·subst A
   rw [List.getElem?_append_left x] at hp
   rw [List.getElem?_append_right (xq _)] at z
   simp at z
   subst z
   have E:(f,p)∈done.zip (cK 0 done.length):=by
    have hn: ∀ (n s k:Nat),k<n->(cK s n)[k]? =some (s+k):=by
     intro n
     induction n with
     |zero=>simp
     |succ n I=>
      intro s k hk
      cases k<;>grind [cK]
    have B:p<done.length:=x
    have h1:=hn done.length 0 p B
    rw [Ej] at h1
    exact Im (i:=p) (by grind [List.getElem?_zip_eq_some])
   grind
  ·have:=F (j+1) (done++[h]) (by simp [hj]) hf.2 p q f g x (by simp_all) (by simp_all) (by simp;omega)
   simp_all
structure Left (ops:Array Oper) (fps:List (List Loc)) (listed:Array Bool) (rem:List (Nat×List Loc)):Prop where
 size:listed.size=ops.size
 fst:rem.map (·.1)=(BT ops.size).filter fun i=> !listed.getD i true
 fp: ∀x∈rem,fps[x.1]? =some x.2
 closed:Cb ops fun i=>listed.getD i false=true
theorem acU {n i:Nat} {listed:Array Bool} (q:i<listed.size): ∀ (l:List Nat),(l.filter fun j=> !(listed.setIfInBounds i true).getD j true)=(l.filter fun j=> !listed.getD j true).filter (fun j=>j !=i):=by
 intro l
 rw [List.filter_filter]
 congr 1
 funext j
 by_cases hj:i=j
 ·simp_all
 ·have:(listed.setIfInBounds i true).getD j true=listed.getD j true:=by
   simp_all
  grind
theorem alp (hS:mV X K S c) (L:ops.toList.all (bq c.nt)=true) {fps:List (List Loc)} (E:ik 0 ops.toList=true) (I:lP (dE ops.toList []) 0 [] fps=true) {σ':St U} {ds:List Deferred} (hl:uK X c ds .normal σ' Q):
  ∀ (fuel:Nat) (listed:Array Bool) (rem:List (Nat×List Loc)) (a:Act) (w:World) (σ:St U) (g:Gh U) (D:Nat->Option Nat),rem.length=fuel->Left ops fps listed rem->a.defers=ds->qw X c a.tmps w σ g D->ve V K S ops rem σ σ'->
  wpAny P .any ops Q fuel listed a w:=by
 intro fuel
 have sub: ∀ (listed:Array Bool) (rem:List (Nat×List Loc)),Left ops fps listed rem-> ∀i,i∈Region.ready .any ops listed-> ∃f,(i,f)∈rem/\ ∃o,ops[i]? =some o/\ ∀e∈o.after.toList,Region.binds .any e=true->listed.getD e.on false=true:=by
  intro listed rem A i T
  simp only [Region.ready,List.mem_filter,List.mem_range,pX] at T
  have M:i∈rem.map (·.1):=by rw [A.fst];grind
  grind [Array.all_eq_true_iff_forall_mem]
 induction fuel with
 |zero=>
  intro listed rem a w σ g D hlen A J h B
  have:rem=[]:=List.eq_nil_of_length_eq_zero hlen
  subst this
  refine ⟨?_,hl a w g D J (h.eqv B)⟩
  cases hr:Region.ready .any ops listed with
  |nil=>rfl
  |cons i r=>
   obtain ⟨f,hf,_⟩:=sub listed [] A i (by grind)
   cases hf
 |succ fuel ih=>
  intro listed rem a w σ g D hlen A J h B
  refine ⟨fun hr=> ?_,fun i T=> ?_⟩
  ·
   exfalso
   cases rem with
   |nil=>grind
   |cons x rest=>
    obtain ⟨i,f⟩:=x
    have M:i∈(BT ops.size).filter fun i=> !listed.getD i true:=by rw [<-A.fst];simp
    simp only [List.mem_filter,List.mem_range] at M
    have bh: ∀j,j<i->listed.getD j false=true:=by
     intro j hj
     have W:j<ops.size:=by omega
     cases bt:listed.getD j true with
     |true=>
      grind
     |false=>
      exfalso
      have Y:j∈(BT ops.size).filter fun i=> !listed.getD i true:=List.mem_filter.2 ⟨List.mem_range.2 W,by grind⟩
      have q:((BT ops.size).filter fun i=> !listed.getD i true).Pairwise (· < ·):=(List.pairwise_lt_range).filter _
      rw [<-A.fst] at Y q
      grind [List.pairwise_cons]
    have ad:i∈Region.ready .any ops listed:=by
     simp only [Region.ready,List.mem_filter,List.mem_range,pX]
     refine ⟨M.1,M.2, ?_⟩
     rw [Array.getElem?_eq_getElem M.1]
     simp only [Option.map_some,Option.getD_some]
     refine Array.all_eq_true_iff_forall_mem.2 fun e he=> ?_
     cases hb:Region.binds .any e with
     |false=>rfl
     |true=>
      have:=Eu ops.toList 0 i _ E (by simp) e (Array.mem_toList_iff.2 he) hb
      grind
    grind
  ·obtain ⟨f,hf,o,ho,F⟩:=sub listed rem A i T
   obtain ⟨pre,post,ao⟩:=List.append_of_mem hf
   subst ao
   have q:((BT ops.size).filter fun i=> !listed.getD i true).Pairwise (· < ·):=(List.pairwise_lt_range).filter _
   rw [<-A.fst] at q
   have O: ∀x∈pre,dD x.2 f=true:=by
    intro x hx
    have ax:x.1<i:=by
     grind
    have h1:=A.fp x (by simp [hx])
    have h2:=A.fp (i,f) (by simp)
    rcases KJ _ fps 0 [] rfl I x.1 i x.2 f ax (by grind) (by grind) (by simp) with hb|hb
    ·exfalso
     have ad:=Nz E A.closed (i+1) i (Nat.lt_succ_self i) o ho F hb
     have bn:x.1∈(BT ops.size).filter fun i=> !listed.getD i true:=by rw [<-A.fst];grind
     grind
    omega
   obtain ⟨o',σ1,z,h1,h2⟩:=B.front pre O
   rw [ho] at z
   injection z with z
   subst z
   have az:i<listed.size:=by rw [A.size];grind
   have a6:bq c.nt o=true:=xm.1 L o (Array.mem_toList_iff.2 (Array.mem_of_getElem? ho))
   unfold wpOp
   rw [ho]
   refine vv hS a6 h h1 ⟨fun _ a' w' g' D' a7 hs=>ih (listed.setIfInBounds i true) (pre++post) a' w' σ1 g' D' (by grind) ⟨by simp [A.size], ?_,fun x hx=>A.fp x (by grind),fun k o' hk z e he hb=> ?_⟩ (a7.trans J) hs h2,(fun v hv=>by cases hv)⟩
   ·rw [acU az (n:=0),<-A.fst]
    have bz: ∀x∈pre++post,x.1≠i:=by
     intro x hx
     rw [List.map_append,Fy] at q
     have b0:(pre.map (·.1)++i::post.map (·.1)).Nodup:=q.imp (fun h=>Nat.ne_of_lt h)
     grind
    simp only [List.map_append,Fy,List.filter_append]
    rw [List.filter_cons_of_neg (by simp)]
    rw [<-List.filter_append,<-List.map_append,List.filter_eq_self.2]
    grind
   ·by_cases a8:k=i
    ·subst a8
     rw [ho] at z
     injection z with z
     subst z
     have:=F e he hb
     by_cases bc:k=e.on<;>simp_all
    ·have bf:listed.getD k false=true:=by
      simp_all [Ne.symm]
     have:=A.closed k o' bf z e he hb
     by_cases bc:i=e.on<;>simp_all
theorem aj7: ∀ (l:List Oper) (i:Nat) (σ σ':St U) (fps:List (List Loc)) (v:PV U),ops.toList.drop i=l->mW K V S ops.toList l σ fps (.panic v) σ'->
  ∃fs f o σ1,fps=fs++[f]/\ops[i+fs.length]? =some o/\ve V K S ops ((List.range' i fs.length).zip fs) σ σ1/\(jv V S o (gJ ops.toList)).Rel K σ1 [] (.raise v) σ' f:=by
 intro l
 induction l with
 |nil=>intro i σ σ' fps v _ h;obtain ⟨_,h2,_⟩:=h;cases h2
 |cons o l B=>
  intro i σ σ' fps v hd h
  have E:ops[i]? =some o:=by
   have:=congrArg (·[0]?) hd
   grind
  have x:ops.toList.drop (i+1)=l:=by rw [<-List.drop_drop,hd];rfl
  rcases h with ⟨σ1,f,q,h1,h2,z⟩|⟨O,f,h1,h2,z⟩
  ·subst z
   obtain ⟨fs,F,I,A,J,T,L,M⟩:=B (i+1) σ1 σ' q v x h2
   subst J
   refine ⟨f::fs,F,I,A,rfl, ?_,⟨o,σ1,E,h1,L⟩,M⟩
   grind
  ·injection h2 with h2
   subst h2
   exact ⟨[],f,o,σ,z,by omega,St.eqv.refl _,h1⟩
def xi (V:Env U) (K:cj U) (S:sY U) (ops:Array Oper):List (Nat×List Loc×MR U)->St U->St U->Prop
 |[],σ,σ'=>σ.eqv σ'
 |(i,f,r)::l,σ,σ'=> ∃o σ1,ops[i]? =some o/\(jv V S o (gJ ops.toList)).Rel K σ [] r σ1 f/\xi V K S ops l σ1 σ'
theorem xi.pre {l:List (Nat×List Loc×MR U)}: ∀ {σ0 σ σ':St U},xi V K S ops l σ σ'->σ.eqv σ0->xi V K S ops l σ0 σ':=by
 induction l with
 |nil=>intro σ0 σ σ' h he;exact he.symm.trans h
 |cons x l q=>
  obtain ⟨i,f,r⟩:=x
  intro σ0 σ σ' h he
  obtain ⟨o,σ1,ho,h1,h2⟩:=h
  obtain ⟨τ,z,A⟩:=h1.eqv K he
  exact ⟨o,τ,ho,z,q h2 A⟩
theorem xi.append {l l':List (Nat×List Loc×MR U)}: ∀ {σ σ1 σ':St U},xi V K S ops l σ σ1->xi V K S ops l' σ1 σ'->xi V K S ops (l++l') σ σ':=by
 induction l with
 |nil=>intro σ σ1 σ' h h';exact h'.pre (St.eqv.symm h)
 |cons x l z=>
  obtain ⟨i,f,r⟩:=x
  intro σ σ1 σ' h h'
  obtain ⟨o,q,ho,h1,h2⟩:=h
  exact ⟨o,q,ho,h1,z h2 h'⟩
theorem xi.ofSeq: ∀ {l:List (Nat×List Loc)} {σ σ':St U},ve V K S ops l σ σ'->xi V K S ops (l.map fun x=>(x.1,x.2,.done)) σ σ':=by
 intro l
 induction l with
 |nil=>intro σ σ' h;exact h
 |cons x l q=>
  obtain ⟨i,f⟩:=x
  intro σ σ' h
  obtain ⟨o,σ1,ho,h1,h2⟩:=h
  exact ⟨o,σ1,ho,h1,q h2⟩
theorem xi.front {i:Nat} {f:List Loc} {r:MR U} {post:List (Nat×List Loc×MR U)}: ∀ (pre:List (Nat×List Loc×MR U)) {σ σ':St U},xi V K S ops (pre++(i,f,r)::post) σ σ'->(∀x∈pre,dD x.2.1 f=true)->
  xi V K S ops ((i,f,r)::(pre++post)) σ σ':=by
 intro pre
 induction pre with
 |nil=>simp
 |cons x pre E=>
  obtain ⟨j,g,q⟩:=x
  intro σ σ' h ha
  obtain ⟨o,σ1,ho,h1,h2⟩:=h
  obtain ⟨F,I,z,J,L⟩:=E h2 (fun x M=>ha x (by simp [M]))
  obtain ⟨A,B,O,T,W⟩:=Rel.swap K h1 J (ha (j,g,q) (by simp))
  exact ⟨F,A,z,O,o,B,ho,T,L.pre W⟩
structure Alike (σ0 σ σ':St U):Prop where
 b: ∀id,(σ0.b id).isSome=true->σ'.b id=σ.b id
 o: ∀i,σ'.o i=σ.o i
 u: ∀i,σ'.u i=σ.u i
theorem xi.harmless {σ0:St U}: ∀ (l:List (Nat×List Loc×MR U)) {σ σ1:St U},xi V K S ops l σ σ1->(∀x∈l,PI.harmless σ0 x.2.1=true)->Alike σ0 σ σ1:=by
 intro l
 induction l with
 |nil=>intro σ σ1 h _;exact ⟨fun id _=>(h.b id).symm,fun i=>(h.o i).symm,fun i=>(h.u i).symm⟩
 |cons x l I=>
  obtain ⟨j,g,q⟩:=x
  intro σ σ1 h ha
  obtain ⟨o,B,ho,h1,h2⟩:=h
  obtain ⟨g',A,J⟩:=h1.loc K
  simp at A
  subst A
  have A:=ha (j,g,q) (by simp)
  have z: ∀k,(∀n,k≠ .r n)->(∀id,(k= .b id\/ ∃i,k= .c id i)->(σ0.b id).isSome=true)->B.at_ k=σ.at_ k:=by
   intro k hk hb
   refine J.stay k fun l hl E=> ?_
   have:=xm.1 A l hl
   cases l with
   |wr n=>exact hk _ E
   |wb id=>
    have M:=hb id E
    simp_all
   |wo n=>grind
   |wu n=>grind
   |fu n=>grind
   |wh n m=>grind
   |_=>exact E.elim
  have a:=I h2 fun x L=>ha x (by simp [L])
  refine ⟨fun id F=>(a.b id F).trans ?_,fun i=>(a.o i).trans ?_,fun i=>(a.u i).trans ?_⟩
  ·grind [ay0]
  ·have:=z (.o i) (by simp) (by simp)
   grind [St.at_]
  ·have:=z (.u i) (by simp) (by simp)
   grind [St.at_]
theorem Zy {p:Nat->Bool}: ∀ (n s:Nat),(cK s n).all p=true-> ∀i,s<=i->i<s+n->p i=true:=by
 intro n
 induction n<;>grind [cK]
structure MK (ops:Array Oper) (σ0:St U) (L:List (Nat×List Loc×MR U)) (j:Nat) (v:PV U):Prop where
 nodup:(L.map (·.1)).Nodup
 lt: ∀x∈L,x.1<ops.size
 order:L.Pairwise fun x y=>((dE ops.toList []).getD y.1 0).testBit x.1=true\/dD x.2.1 y.2.1=true
 first: ∀pre x post,L=pre++x::post-> ∀o,ops[x.1]? =some o-> ∀e∈o.after.toList,Region.binds .any e=true->e.on∈pre.map (·.1)
 done: ∀x∈L,x.1≠j->x.2.2= .done
 raise: ∀x∈L,x.1=j->x.2.2= .raise v
 harm: ∀x∈L,x.1≠j->((dE ops.toList []).getD j 0).testBit x.1=true\/PI.harmless σ0 x.2.1=true
 after: ∀i,i<ops.size->i∉L.map (·.1)->((dE ops.toList []).getD i 0).testBit j=true
theorem alq (hS:mV X K S c) (bt:ops.toList.all (bq c.nt)=true) (bz:ik 0 ops.toList=true) {σ0 σe:St U} {L:List (Nat×List Loc×MR U)} {j:Nat} {v:PV U} (F:MK ops σ0 L j v) {ds:List Deferred}
  (hl: ∀a' w' g' D' τ,a'.defers=ds->qw X c a'.tmps w' τ g' D'->Alike σ0 τ σe-> ∀val,po X w' (c.N g' D') g' val v->Q (.panic [{v:=val,recovered:=false}]) a' w'):
  ∀ (m:Nat) (listed:Array Bool) (rem:List (Nat×List Loc×MR U)) (a:Act) (w:World) (σ:St U) (g:Gh U) (D:Nat->Option Nat),rem.length=m->listed.size=ops.size->rem=L.filter (fun x=> !listed.getD x.1 true)->
   (∀i,i<ops.size->i∉L.map (·.1)->listed.getD i false=false)->listed.getD j false=false->j∈L.map (·.1)->Cb ops (fun i=>listed.getD i false=true)->a.defers=ds->qw X c a.tmps w σ g D->xi V K S ops rem σ σe->
   wpAny P .any ops Q (m+(ops.size-L.length)) listed a w:=by
 have ao: ∀ {listed:Array Bool} {i:Nat},i<listed.size->listed.getD i true=listed.getD i false:=by
  grind
 have cx: ∀ {listed:Array Bool} {i:Nat},i<ops.size->listed.size=ops.size->i∈Region.ready .any ops listed->listed.getD i true=false/\ ∃o,ops[i]? =some o/\ ∀e∈o.after.toList,Region.binds .any e=true->listed.getD e.on false=true:=by
  grind [Region.ready,Array.all_eq_true_iff_forall_mem]
 intro m
 induction m with
 |zero=>
  intro listed rem a w σ g D hlen I q cy hj ax az b0 h J
  exfalso
  have dy:rem=[]:=List.eq_nil_of_length_eq_zero hlen
  obtain ⟨x,hx,b1⟩:=wD.1 ax
  have:x∈rem:=by rw [q];exact List.mem_filter.2 ⟨hx,by rw [b1,ao (by rw [I,<-b1];exact F.lt x hx),hj];rfl⟩
  grind
 |succ m ih=>
  intro listed rem a w σ g D hlen I q cy hj ax az b0 h J
  rw [show m+1+(ops.size-L.length)=(m+(ops.size-L.length))+1 by omega]
  have W: ∀x∈rem,x∈L/\listed.getD x.1 false=false:=by
   grind
  refine ⟨fun hr=> ?_,fun i hi=> ?_⟩
  ·exfalso
   cases c5:rem with
   |nil=>grind
   |cons x rest=>
    have b2:=W x (by grind)
    have M:=F.lt x b2.1
    obtain ⟨pre,post,T⟩:=List.append_of_mem b2.1
    have Y: ∀y∈pre,listed.getD y.1 false=true:=by
     intro y hy
     cases c9:listed.getD y.1 false with
     |true=>rfl
     |false=>
      exfalso
      have a6:y∈L:=by grind
      have b3:(!listed.getD y.1 true)=true:=by rw [ao (by rw [I];exact F.lt y a6),c9];rfl
      rw [T,List.filter_append] at q
      have a7:pre.filter (fun x=> !listed.getD x.1 true)≠[]:=fun e=>by
       grind
      obtain ⟨z,zs,hz⟩:=List.exists_cons_of_ne_nil a7
      rw [hz,c5] at q
      injection q with e1 e2
      subst e1
      have ed:x∈pre:=by
       have:x∈pre.filter (fun x=> !listed.getD x.1 true):=by rw [hz];simp
       grind
      have dd:=F.nodup
      grind
    have eg:x.1∈Region.ready .any ops listed:=by
     simp only [Region.ready,List.mem_filter,List.mem_range,pX]
     refine ⟨M,by grind, ?_⟩
     rw [Array.getElem?_eq_getElem M]
     simp only [Option.map_some,Option.getD_some]
     refine Array.all_eq_true_iff_forall_mem.2 fun e he=> ?_
     cases hb:Region.binds .any e with
     |false=>rfl
     |true=>
      have:=F.first pre x post T _ (Array.getElem?_eq_getElem M) e (Array.mem_toList_iff.2 he) hb
      grind
    grind
  ·have b4:i<ops.size:=by grind [Region.ready]
   obtain ⟨h1,o,ho,ad⟩:=cx b4 I hi
   rw [ao (by omega)] at h1
   have a8: ∀p,((dE ops.toList []).getD i 0).testBit p=true->listed.getD p false=true:=fun p hp=>Nz bz az (i+1) i (Nat.lt_succ_self i) o ho ad hp
   have b5:bq c.nt o=true:=xm.1 bt o (Array.mem_toList_iff.2 (Array.mem_of_getElem? ho))
   by_cases bc:i∈L.map (·.1)
   ·obtain ⟨x,b6,b7⟩:=wD.1 bc
    have dh:x∈rem:=by grind
    obtain ⟨pre,post,T⟩:=List.append_of_mem dh
    have ea:rem.Pairwise fun x y=>((dE ops.toList []).getD y.1 0).testBit x.1=true\/dD x.2.1 y.2.1=true:=by rw [q];exact F.order.filter _
    have dd:(rem.map (·.1)).Nodup:=by
     rw [q]
     exact F.nodup.sublist ((List.filter_sublist).map _)
    have Y: ∀y∈pre,dD y.2.1 x.2.1=true:=by
     intro y hy
     grind
    rw [T] at J
    obtain ⟨E,xf,xr⟩:=x
    simp only at b7
    subst b7
    obtain ⟨o',dn,A,h2,h3⟩:=J.front pre Y
    rw [ho] at A
    injection A with A
    subst A
    by_cases bf:E=j
    ·subst bf
     have O:=F.raise _ b6 rfl
     simp only at O
     subst O
     have ek: ∀y∈pre++post,PI.harmless σ0 y.2.1=true:=by
      intro y hy
      have b3:y∈rem:=by grind
      obtain ⟨a6,et⟩:=W y b3
      have a7:y.1≠E:=by
       grind
      rcases F.harm y a6 a7 with hb|hb<;>grind
     unfold wpOp
     rw [ho]
     refine vv hS b5 h h2 ⟨(fun hv=>by cases hv),fun v' hv w' g' D' val ec hs=> ?_⟩
     grind [xi.harmless]
    ·have O:=F.done _ b6 bf
     simp only at O
     subst O
     have eu:E<listed.size:=by omega
     unfold wpOp
     rw [ho]
     have B: ∀k,k≠E-> ∀d,(listed.setIfInBounds E true).getD k d=listed.getD k d:=by
      intro k hk d
      simp [H5,Ne.symm hk]
     refine vv hS b5 h h2 ⟨fun _ a' w' g' D' dt hs=>ih (listed.setIfInBounds E true) (pre++post) a' w' dn g' D' (by grind) (by simp [I]) ?_ (fun k hk dx=> ?_) (by rw [B j (Ne.symm bf)];exact hj) ax (fun k o' hk A e he hb=> ?_) (dt.trans b0) hs h3,(fun v hv=>by cases hv)⟩
     ·have e1:L.filter (fun x=> !(listed.setIfInBounds E true).getD x.1 true)=rem.filter (fun x=>x.1 !=E):=by
       rw [q,List.filter_filter]
       refine List.filter_congr fun y hy=> ?_
       by_cases bh:y.1=E
       ·rw [bh];simp
       ·rw [B y.1 bh];simp [bh]
      grind [List.filter_eq_self,List.mem_map_of_mem]
     ·have:k≠E:=fun e=>dx (e▸bc)
      rw [B k this];grind
     ·show (listed.setIfInBounds E true).getD e.on false=true
      have ch:(listed.setIfInBounds E true).getD k false=true:=hk
      by_cases cu:k=E
      ·subst cu
       rw [ho] at A
       injection A with A
       subst A
       have:=ad e he hb
       by_cases bn:k=e.on
       ·grind
       ·rw [B _ (Ne.symm bn)];exact this
      ·rw [B k cu] at ch
       have:=az k o' ch A e he hb
       by_cases bn:E=e.on
       ·grind
       ·rw [B _ (Ne.symm bn)];exact this
   ·exfalso
    have:=a8 j (F.after i b4 bc)
    grind
end
section
variable {U:sW} {V:Env U} {P:Program} {X:qx V P} {K:cj U} {S:sY U} {c:Ctx} {ops:Array Oper} {σ0 σ1:St U}
theorem agb {J:List Nat} {j:Nat}: ∀ (l:List Oper) (i:Nat) (σ σe:St U) (ll:List (Nat×List Loc)),ops.toList.drop i=l->aLJ K V S ops.toList J j i l σ ll σe->
  (∀x∈ll,i<=x.1/\x.1<ops.size)/\(ll.map (·.1)).Pairwise (· < ·)/\xi V K S ops (ll.map fun x=>(x.1,x.2,.done)) σ σe/\
  ∀k,i<=k->k<ops.size->k∉ll.map (·.1)->(J.getD k 0).testBit j=true:=by
 intro l
 induction l with
 |nil=>
  intro i σ σe ll hd h
  obtain ⟨rfl,rfl⟩:=h
  refine ⟨by simp,by simp,St.eqv.refl _,fun k hk B _=> ?_⟩
  exfalso
  have:=congrArg EO hd
  grind
 |cons o l L=>
  intro i σ σe ll hd h
  have M:ops[i]? =some o:=by
   have:=congrArg (·[0]?) hd
   grind
  have F:i<ops.size:=(Hu.1 M).1
  have E:ops.toList.drop (i+1)=l:=by rw [<-List.drop_drop,hd];rfl
  rcases h with ⟨hb,h⟩|⟨hb,σ1,f,I,O,h,rfl⟩
  ·obtain ⟨a,b,c,e⟩:=L (i+1) σ σe ll E h
   refine ⟨fun x hx=> ?_,b,c,fun k hk B A=> ?_⟩
   ·have:=a x hx;omega
   ·by_cases he:k=i
    ·subst he;exact hb
    ·exact e k (by omega) B A
  ·obtain ⟨a,b,c,e⟩:=L (i+1) σ1 σe I E h
   refine ⟨fun x hx=> ?_, ?_,⟨o,σ1,M,O,c⟩,fun k hk B A=> ?_⟩
   ·rcases xB.1 hx with rfl|hx
    ·exact ⟨xq _,F⟩
    ·have:=a x hx;omega
   ·rw [Fy,List.pairwise_cons]
    refine ⟨fun y T=> ?_,b⟩
    obtain ⟨z,W,rfl⟩:=wD.1 T
    have:=a z W;show i<z.1;omega
   ·rw [Fy,xB] at A
    exact e k (by have:k≠i:=fun q=>A (.inl q);omega) B fun q=>A (.inr q)
theorem aOZ {A:List Nat}: ∀ (ll q:List (Nat×List Loc)),b0 A q ll=true->(∀x∈ll,∀y∈q,(A.getD x.1 0).testBit y.1=true\/dD y.2 x.2=true)/\ll.Pairwise fun y x=>(A.getD x.1 0).testBit y.1=true\/dD y.2 x.2=true:=by
 intro ll
 induction ll with
 |nil=>intro q _;exact ⟨fun x E=>(by cases E),.nil⟩
 |cons x ll F=>
  intro q h
  simp only [b0,pX,xm,Bool.or_eq_true] at h
  obtain ⟨h1,h2⟩:=h
  obtain ⟨i1,i2⟩:=F _ h2
  refine ⟨fun z hz y B=> ?_,List.pairwise_cons.2 ⟨fun z hz=>i1 z hz x (by simp),i2⟩⟩
  rcases xB.1 hz with rfl|hz
  ·exact h1 y B
  ·exact i1 z hz y (by simp [B])
theorem aO3 {α:Type}: ∀ (l:List α) (s i:Nat) (x:α),l[i]? =some x->(s+i,x)∈(cK s l.length).zip l:=by
 intro l
 induction l with
 |nil=>intro s i x h;simp at h
 |cons y l q=>
  intro s i x h
  cases i with
  |zero=>simp at h;subst h;simp [cK]
  |succ i=>
   have:=q (s+1) i x (by simpa using h)
   simp only [ue,cK,List.zip_cons_cons,xB]
   right
   have he:s+(i+1)=s+1+i:=by omega
   rw [he];exact this
theorem aik {fs:List (List Loc)} {f:List Loc} {o:Oper} {σ W σ' σ'':St U} {v:PV U} (ho:ops[fs.length]? =some o) (E:ve V K S ops ((List.range' 0 fs.length).zip fs) σ W) (hj:(jv V S o (gJ ops.toList)).Rel K W [] (.raise v) σ' f) (he:σ'.eqv σ'') {ll:List (Nat×List Loc)} {σe:St U}
  (hl:aLJ K V S ops.toList (dE ops.toList []) ((fs++[f]).length-1) (fs++[f]).length (ops.toList.drop (fs++[f]).length) σ' ll σe)
  (hf:vR ops.toList σ (fs++[f]) ll=true): ∃L σe,MK ops σ L fs.length v/\xi V K S ops L σ σe/\Alike σ σ'' σe/\ik 0 ops.toList=true/\fs.length∈L.map (·.1)/\L.length<=ops.size:=by
 unfold vR at hf
 simp only [pX,H4,List.length_singleton,Nat.add_sub_cancel] at hf
 obtain ⟨F,J,M,O,a8,Y⟩:=hf
 rw [xm] at O
 simp only [H4,List.length_singleton,Nat.add_sub_cancel] at hl
 obtain ⟨a,b,ad,e⟩:=agb (ops:=ops) _ _ _ _ ll rfl hl
 obtain ⟨cc,d⟩:=aOZ _ _ a8
 have b1:fs.length<ops.size:=(Hu.1 ho).1
 generalize b2:(List.range' 0 fs.length).zip fs=ex at E
 have hex:ex.map (·.1)=List.range' 0 fs.length:=by grind [List.map_fst_zip]
 have bz: ∀x∈ex,x.1<fs.length/\fs[x.1]? =some x.2:=by
  grind [List.mem_iff_getElem?]
 let L:List (Nat×List Loc×MR U):=(ex.map fun x=>(x.1,x.2,MR.done))++((fs.length,f,MR.raise v)::ll.map fun x=>(x.1,x.2,MR.done))
 have ao:L.map (·.1)=List.range' 0 (fs.length+1)++ll.map (·.1):=by
  simp only [L,List.map_append,List.map_map,Fy]
  have:(fun x:Nat×List Loc×MR U=>x.1)∘(fun x:Nat×List Loc=>(x.1,x.2,(MR.done:MR U)))=fun x=>x.1:=rfl
  grind [List.range'_concat]
 have I:(L.map (·.1)).Pairwise (· < ·):=by
  rw [ao,List.pairwise_append]
  grind [List.pairwise_lt_range']
 have A: ∀x∈L,(∃y∈ex,x=(y.1,y.2,.done))\/x=(fs.length,f,.raise v)\/ ∃y∈ll,x=(y.1,y.2,.done):=by
  intro x B
  simp only [L,xO,wD,xB] at B
  grind
 have ax: ∀x∈L,x.1<ops.size:=by
  grind
 have b0: ∀x∈ex,x.2∈fs++[f]:=fun x B=>by
  grind
 refine ⟨L,σe,⟨I.imp Nat.ne_of_lt,ax, ?_, ?_, ?_, ?_, ?_, ?_⟩, ?_, ?_,F, ?_, ?_⟩
 ·
  simp only [L,List.pairwise_append,List.pairwise_cons]
  have fo: ∀p q g h,p<q->(fs++[f])[p]? =some g->(fs++[f])[q]? =some h->((dE ops.toList []).getD q 0).testBit p=true\/dD g h=true:=fun p q g h bc hp hq=>
   KJ _ (fs++[f]) 0 [] rfl J p q g h bc (by grind) (by grind) (by simp)
  have lo: ∀z∈ll,∀p g,(fs++[f])[p]? =some g->((dE ops.toList []).getD z.1 0).testBit p=true\/dD g z.2=true:=fun z T p g hp=>by
   have:=cc z T (0+p,g) (by have:=aO3 (fs++[f]) 0 p g hp;simpa using this)
   simpa using this
  refine ⟨?_,⟨fun y hy=> ?_, ?_⟩,fun x B y hy=> ?_⟩
  ·have h1:ex.Pairwise fun x y=>x.1<y.1:=by
    grind
   rw [List.pairwise_map]
   refine (List.Pairwise.and_mem.1 h1).imp fun {x y} h=> ?_
   grind
  ·obtain ⟨z,T,rfl⟩:=wD.1 hy
   exact lo z T fs.length f (by simp)
  ·rw [List.pairwise_map];exact d
  ·obtain ⟨x',b3,rfl⟩:=wD.1 B
   rcases xB.1 hy with rfl|hy
   ·grind
   ·obtain ⟨z,T,rfl⟩:=wD.1 hy
    exact lo z T x'.1 x'.2 (by grind)
 ·
  intro pre x post b4 o' az ed a6 hb
  have bf:x∈L:=by grind
  have a7:=Eu ops.toList 0 x.1 _ F (by grind) ed a6 hb
  rw [Ej] at a7
  have b5:ed.on∈L.map (·.1):=by
   have hk:ed.on<=fs.length\/fs.length<ed.on:=by omega
   rcases hk with hk|hk
   ·grind
   ·rcases A x bf with ⟨y,hy,rfl⟩|rfl|⟨y,hy,rfl⟩
    ·grind
    ·simp at a7;omega
    ·simp only [aNK,xm] at Y
     have h1:=Y y hy
     simp only at az
     rw [Array.getElem?_toList,az] at h1
     have h2:=xm.1 h1 ed a6
     rw [hb] at h2
     simp only [uX,Bool.false_or,Bool.or_eq_true,List.any_eq_true,Nat.ble_eq,Nat.beq_eq_true_eq] at h2
     rcases h2 with h2|⟨z,T,h2⟩
     ·omega
     ·rw [ao,xO];right;exact wD.2 ⟨z,T,Nat.eq_of_beq_eq_true h2⟩
  grind [List.pairwise_cons]
 ·intro x B bh
  grind
 ·grind
 ·intro x B bh
  rcases A x B with ⟨y,hy,rfl⟩|rfl|⟨y,hy,rfl⟩
  ·have:=Zy _ _ M y.1 (by omega) (by grind)
   grind
  ·omega
  ·exact .inr (O y hy)
 ·grind
 ·exact xi.append (xi.ofSeq E) ⟨o,σ',ho,hj,ad⟩
 ·have hh:=xi.harmless (σ0:=σ) _ ad (fun x B=>by
   obtain ⟨y,hy,rfl⟩:=wD.1 B
   exact O y hy)
  exact ⟨fun id bn=>(hh.b id bn).trans (he.b id),fun i=>(hh.o i).trans (he.o i),fun i=>(hh.u i).trans (he.u i)⟩
 ·grind
 ·have h1:(L.map (·.1)).length<=(BT ops.size).length:=by
   have bt:(L.map (·.1)).Nodup:=I.imp Nat.ne_of_lt
   refine List.Nodup.length_le_of_subset bt fun i hi=> ?_
   grind
  grind
theorem aiu {σ τ:St U} (ho:σ.o=τ.o) (hu:σ.u=τ.u) (t:Option (Nat×Bool)) (v:PV U) (K:Kept U):mA σ t v K=mA τ t v K:=by
 simp_all [mA]
theorem aE7 {σ τ:St U} (ho:σ.o=τ.o) (hu:σ.u=τ.u): ∀ (q:List (Option (Nat×Bool))) (vs:List (PV U)) (K:Kept U),iW σ q vs K=iW τ q vs K:=by
 intro q
 induction q with
 |nil=>intro vs K;cases vs<;>rfl
 |cons t q x=>
  intro vs K
  cases vs<;>grind [iW,aiu]
theorem ZZ {σ τ:St U} (ho:σ.o=τ.o) (hu:σ.u=τ.u): ∀ (l:List (Nat×List (Option (Nat×Bool)))) (K:Kept U),(∀x∈l,σ.b x.1=τ.b x.1)->fO σ l K=fO τ l K:=by
 intro l
 induction l with
 |nil=>intro K _;rfl
 |cons x l q=>
  obtain ⟨n,z⟩:=x
  intro K h
  have h1:=h (n,z) (by simp)
  simp only at h1
  have h2: ∀K,fO σ l K=fO τ l K:=fun K=>q K fun x A=>h x (by simp [A])
  grind [fO,aE7]
theorem agI: ∀ (l:List Nat) (n:Nat),n∈pC l->n∈l:=by
 intro l
 induction l<;>grind [pC]
theorem agz {α:Type}: ∀ (l:List (Nat×α)) (n:Nat),n∈l.map (·.1)->(cq l n).isSome=true:=by
 intro l
 induction l<;>grind [iD]
theorem JA {σ0 σ τ:St U} (h:Alike σ0 σ τ):Ho (iN σ0 τ) τ=Ho (iN σ0 σ) σ:=by
 have z: ∀id∈pC (σ0.box.map (·.1)),τ.b id=σ.b id:=fun id q=>h.b id (agz _ _ (agI _ _ q))
 have hA:iN σ0 τ=iN σ0 σ:=by
  grind [iN,List.map_congr_left]
 rw [hA]
 have hB: ∀K,fO τ (iN σ0 σ).boxes K=fO σ (iN σ0 σ).boxes K:=fun K=>ZZ (funext h.o) (funext h.u) _ K fun x A=>by
  obtain ⟨id,q,rfl⟩:=wD.1 A
  grind
 grind [Ho,iN,o8]
end
section
variable {U:sW} {V:Env U} {P:Program} {X:qx V P} {K:cj U} {S:sY U} {c:Ctx} {xx:Nat->Option B1}
theorem uK.eqv {ds:List Deferred} {e:Ex U} {σ σ':St U} {Q:Exit->Act->World->Prop} (h:uK X c ds e σ Q) (he:σ'.eqv σ):uK X c ds e σ' Q:=
 fun a w g D hd hs=>h a w g D hd (hs.eqv he)
def wE (X:qx V P) (c:Ctx):Option B1->Code->St U->Ex U->St U->Prop
 |none,code,σ,e,σ'=> ∀ (a:Act) (w:World) (g:Gh U) (D:Nat->Option Nat) (Q:Exit->Act->World->Prop),qw X c a.tmps w σ g D->uK X c a.defers e σ' Q->code.wp P Q a w
 |some A,code,σ,e,σ'=> ∃n,∀ (a:Act) (w:World) (g:Gh U) (D:Nat->Option Nat) (Q:Exit->Act->World->Prop),qw X c a.tmps w σ g D->uK X c a.defers e σ' Q->Code.rounds P code Q n a w
theorem T1 {next:Act->World->Prop} {Q:Exit->Act->World->Prop} {ds:List Deferred} {e:Ex U} {σ':St U} (h:uK X c ds e σ' Q) (he:e≠ .normal):uK X c ds e σ' (Exit.then next Q):=by
 intro a w g D hd hs
 have:=h a w g D hd hs
 cases e with
 |normal=>grind
 |exit id=>exact this
 |ret=>exact this
 |panic v=>exact this
theorem adh {Q:Exit->Act->World->Prop} {ds:List Deferred} {e:Ex U} {σ':St U} {id:Nat} (h:uK X c ds e σ' Q) (he:e≠ .exit id):uK X c ds e σ' (Exit.inBlock id Q):=by
 intro a w g D hd hs
 have:=h a w g D hd hs
 grind [Exit.inBlock]
theorem agR {Q:Exit->Act->World->Prop} {ds:List Deferred} {e:Ex U} {σ':St U} (h:uK X c ds e σ' Q):uK X c ds e σ' (Exit.noGoto Q):=by
 intro a w g D hd hs
 have:=h a w g D hd hs
 cases e with
 |normal=>exact this
 |exit id=>exact this
 |ret=>exact this
 |panic v=>exact this
theorem oX (hm:P.follows .mixedOrders=true) (hS:mV X K S c) (J:c.nt=S.nt) {o:Option B1} {code:Code} {σ:St U} {e:Ex U} {σ':St U} (h:xM K V S xx o code σ e σ'):wE X c o code σ e σ':=by
 induction h with
 |skip σ=>exact fun a w g D Q hs hl=>Go.wp_skip (hl a w g D rfl hs)
 |label l σ=>exact fun a w g D Q hs hl=>wp_label (hl a w g D rfl hs)
 |region id ops draw σ e σ' fps hd h hf=>
  intro a w g D Q hs hl
  rw [<-J] at hd
  cases draw with
  |false=>
   refine wp_region ?_
   rw [List.range_eq_range']
   have:=Ur (Q:=Q) hS ops.toList 0 a w σ g D fps (by simp) hd hs h hl
   omega
  |true=>
   obtain ⟨rfl,B,I⟩:=hf rfl
   refine wp_region_any hm ?_
   obtain ⟨hlen,E⟩:=aj6 ops.toList 0 σ σ' fps (by simp) h
   have ad:fps.length=ops.size:=by omega
   refine alp hS hd B I hl ops.size _ ((List.range' 0 ops.toList.length).zip fps) a _ σ g D (by grind) ⟨by simp, ?_,fun x hx=> ?_,fun k o hk=> ?_⟩ rfl hs.drew E
   ·have h1:((List.range' 0 ops.toList.length).zip fps).map (·.1)=List.range' 0 ops.toList.length:=List.map_fst_zip (by grind)
    rw [h1,List.filter_eq_self.2,List.range_eq_range']
    all_goals simp_all
   ·grind [List.mem_iff_getElem?]
   ·exfalso
    have:(Array.replicate ops.size false).getD k false=false:=by
     rw [H5,Array.getElem?_replicate]
     grind
    grind
 |lE id ops σ v σ' σ'' τ fps ll bc hd h he hv ao hf hc=>
  intro a w g D Q hs hl
  rw [<-J] at hd
  obtain ⟨fs,f,o,σ1,M,ho,E,hj⟩:=aj7 (ops:=ops) ops.toList 0 σ σ' fps v (by simp) h
  subst M
  rw [Ej] at ho
  obtain ⟨L,σe,O,ax,az,B,a6,hlen⟩:=aik ho E hj he ao hf
  refine wp_region_any hm ?_
  have bf:fs.length<ops.size:=(Hu.1 ho).1
  have T: ∀i d,(Array.replicate ops.size false).getD i d=(if i<ops.size then false else d):=by
   intro i d
   rw [H5,Array.getElem?_replicate]
   grind
  have bh:=alq (v:=v) hS hd B O (ds:=a.defers) (Q:=Q) (fun a' w' g' D' τ' a7 q W val Y=>by
    have a8:Ho (iN σ τ') τ'=some τ:=by rw [<-JA W,JA az];exact hc
    obtain ⟨g2,D2,F⟩:=ym q a8
    refine hl a' w' g2 D2 a7 F val ?_
    cases v with
    |iface t p=>
     cases p with
     |int k n=>cases Y with
      |iface _ u _ hu=>cases hu;exact .iface _ _ _ (.int _ _)
     |_=>cases hv
    |_=>cases hv) L.length (Array.replicate ops.size false) L a _ σ g D rfl (by simp) ?_ (fun i hi _=>by simp_all) (by simp_all) a6 (fun k o' hk=> ?_) rfl hs.drew ax
  ·simp_all
  ·rw [List.filter_eq_self.2]
   intro x hx
   rw [T,if_pos (O.lt x hx)];rfl
  simp_all
 |seqN x y σ σ1 e σ' h1 h2 i1 i2=>
  intro a w g D Q hs hl
  exact wp_seq (i1 a w g D _ hs fun a' w' g' D' hd q=>i2 a' w' g' D' Q q (by grind))
 |seqJ x y A σ σ1 τ e σ' h1 hA hc h2 i1 i2=>
  intro a w g D Q hs hl
  refine wp_seq (i1 a w g D _ hs fun a' w' g' D' hd q=> ?_)
  obtain ⟨g2,D2,F⟩:=ym q hc
  exact i2 a' w' g2 D2 Q F (by grind)
 |nh x y σ e σ' h1 he i1=>exact fun a w g D Q hs hl=>wp_seq (i1 a w g D _ hs (T1 hl he))
 |cond j x y σ t e σ' hj h z=>
  intro a w g D Q hs hl
  have O:=hs.eR j
  rw [hj] at O
  refine wp_cond (t:=t) (kV O) ?_
  cases t with
  |true=>exact z a w g D Q hs hl
  |false=>exact z a w g D Q hs hl
 |lA id x σ σ' h z=>
  intro a w g D Q hs hl
  refine wp_block (z a w g D _ hs fun a' w' g' D' hd q=> ?_)
  simp only [Exit.inBlock,if_true]
  exact hl a' w' g' D' hd q
 |gH id x σ e σ' h he z=>exact fun a w g D Q hs hl=>wp_block (z a w g D _ hs (adh hl he))
 |loop x A σ τ e σ' hA hc h z=>
  intro a w g D Q hs hl
  obtain ⟨n,hn⟩:=z
  obtain ⟨g',D',q⟩:=ym hs hc
  grind [wp_loop_rounds]
 |scope x σ e σ' h z=>exact fun a w g D Q hs hl=>wp_scope_straight (z a w g D _ hs (agR hl))
 |exit id σ=>exact fun a w g D Q hs hl=>wp_exit (hl a w g D rfl hs)
 |ret σ=>exact fun a w g D Q hs hl=>wp_ret (hl a w g D rfl hs)
 |round x A σ σ1 τ e σ' h hc h' i1 i2=>
  obtain ⟨n,hn⟩:=i2
  refine ⟨n+1,fun a w g D Q hs hl=> ?_⟩
  rw [rounds_succ]
  refine i1 a w g D _ hs fun a' w' g' D' hd q=> ?_
  obtain ⟨g2,D2,F⟩:=ym q hc
  exact hn a' w' g2 D2 Q F (by grind)
 |leave x A σ e σ' h he i1=>
  refine ⟨1,fun a w g D Q hs hl=> ?_⟩
  rw [rounds_succ]
  exact i1 a w g D _ hs (T1 hl he)
 |pre o x σ0 σ e σ' he h z=>
  cases o with
  |none=>exact fun a w g D Q hs hl=>z a w g D Q (hs.eqv he) hl
  |some A=>obtain ⟨n,hn⟩:=z;exact ⟨n,fun a w g D Q hs hl=>hn a w g D Q (hs.eqv he) hl⟩
 |post o x σ e σ1 σ' he h z=>
  cases o with
  |none=>exact fun a w g D Q hs hl=>z a w g D Q hs (hl.eqv he)
  |some A=>obtain ⟨n,hn⟩:=z;exact ⟨n,fun a w g D Q hs hl=>hn a w g D Q hs (hl.eqv he)⟩
end
section
variable {U:sW} {V:Env U} {P:Program} {X:qx V P} {S:sY U} {c:Ctx}
theorem oi (E:Se X) (F:S.nj=none) (hP:yt S c):mV X (ci X) S c:=by
 intro o a w σ g D r τ fp gp next Q hd h q A
 obtain ⟨dst,op,ty,pos,after,gd⟩:=o
 cases op with
 |move x=>exact ahm hd h q A
 |assign x=>exact ag4 hd h q A
 |pick x y z=>exact ahp hd h q A
 |alloc t=>exact ag3 hP hd h q A
 |box t x=>exact ag6 hP hd h q A
 |build t ps=>exact ag7 hd h q A
 |buildSlice t n ps=>exact ag8 hd h q A
 |load t x=>exact ahg hd h q A
 |store t x y=>exact ahr h q A
 |nilCheck x=>exact ahn hd h q A
 |binOp b t x y u=>exact ag5 hd h q A
 |unOp u t x=>exact aht hd h q A
 |convert s t x=>exact aha hd h q A
 |makeFunc f xs I=>cases f with
  |func f=>exact ahi hd h q A
  |_=>exact q.elim
 |makeInterface t x=>exact ahj hd h q A
 |typeAssert x s t ok=>cases ok with
  |true=>exact ahs hd h q A
  |false=>exact q.elim
 |makeMap t x=>cases x with
  |none=>exact ahk hd h q A
  |some x=>exact q.elim
 |lookup t m x ok=>exact ahh hd h q A
 |mapUpdate t m x y=>exact ahl h q A
 |slice t x J L M=>exact ahq hd h q A
 |fieldAddr s x f=>exact ahd hd h q A
 |field s x f=>exact ahc hd h q A
 |indexAddr t x i=>exact ahf hd h q A
 |index t x i=>exact ahe hd h q A
 |extract x i=>exact ahb hd h q A
 |panic x=>exact aho h q A
 |call cl=>
  cases hc:cl.callee with
  |builtin b=>
   by_cases hb:b= .recover
   ·subst hb
    obtain ⟨callee,args,B⟩:=cl
    simp only at hc
    subst hc
    simp only [bL,F] at q
    exact q.elim
   ·exact ag9 hc hb hd h q A
  |value f=>exact ag_ E hc hd h q A
  |invoke x n=>
   obtain ⟨callee,args,B⟩:=cl
   simp only at hc
   subst hc
   exact q.elim
 |_=>exact q.elim
end
section
variable {U:sW} {V:Env U} {P:Program} {X:qx V P}
theorem akt: ∀ (args:List (PV U)) (s n:Nat),cq (wk s args) n=if s<=n then (args[n-s]?).map (R9 n) else none:=by
 intro args
 induction args with
 |nil=>intro s n;simp [wk,cq]
 |cons p args q=>
  intro s n
  simp only [wk,iD,q]
  by_cases h:s=n
  ·subst h;simp
  ·rw [if_neg h]
   by_cases h2:s<=n
   ·rw [if_pos h2,if_pos (by omega)]
    obtain ⟨k,rfl⟩: ∃k,n=s+(k+1):=⟨n-s-1,by omega⟩
    rw [show s+(k+1)-(s+1)=k by omega,show s+(k+1)-s=k+1 by omega]
    simp
   ·rw [if_neg h2,if_neg (by omega)]
def LA (args:List (PV U)) (j:Nat):Option (Ob U):=match args[j]? with|some (.fresh e l)=>some ⟨0,e,l⟩|_=>none
theorem R8: ∀ (args:List (PV U)) (s i:Nat),cq (gV s args) i=if 2000000+s<=i then LA args (i-2000000-s) else none:=by
 intro args
 induction args with
 |nil=>intro s i;simp [gV,cq,LA]
 |cons p args q=>
  intro s i
  have tail:cq (gV (s+1) args) i=if 2000000+s<=i/\i≠2000000+s then LA (p::args) (i-2000000-s) else none:=by
   rw [q]
   by_cases h:2000000+(s+1)<=i
   ·rw [if_pos h,if_pos ⟨by omega,by omega⟩]
    obtain ⟨k,rfl⟩: ∃k,i=2000000+s+(k+1):=⟨i-2000000-s-1,by omega⟩
    rw [show 2000000+s+(k+1)-2000000-(s+1)=k by omega,show 2000000+s+(k+1)-2000000-s=k+1 by omega]
    simp [LA]
   ·rw [if_neg h,if_neg (by omega)]
  have plain:p.notFresh=true->gV s (p::args)=gV (s+1) args:=by
   intro hp;cases p<;>first|rfl|cases hp
  by_cases hp:p.notFresh=true
  ·rw [plain hp,tail]
   by_cases h1:2000000+s<=i
   ·rw [if_pos h1]
    by_cases h2:i=2000000+s
    ·subst h2
     rw [if_neg (by omega)]
     have:2000000+s-2000000-s=0:=by omega
     rw [this]
     unfold LA
     simp only [List.getElem?_cons_zero]
     cases p<;>first|rfl|cases hp
    ·rw [if_pos ⟨h1,h2⟩]
   ·rw [if_neg h1,if_neg (by omega)]
  ·cases p with
   |fresh e l=>
    simp only [gV,iD,tail]
    by_cases h1:2000000+s=i
    ·subst h1
     rw [if_pos rfl,if_pos (xq _)]
     have:2000000+s-2000000-s=0:=by omega
     rw [this];rfl
    ·rw [if_neg h1]
     by_cases h2:2000000+s<=i
     ·rw [if_pos ⟨h2,Ne.symm h1⟩,if_pos h2]
     ·rw [if_neg (by omega),if_neg h2]
   |_=>exact absurd rfl hp
end
section
variable {U:sW} {V:Env U} {P:Program} {X:qx V P}
theorem alD {boxes:List (py U)}: ∀ (n s id:Nat) (bs:List (py U)),n=bs.length->cq ((cK s n).zip bs) id=if s<=id then bs[id-s]? else none:=by
 intro n
 induction n with
 |zero=>intro s id bs h;have:bs=[]:=List.eq_nil_of_length_eq_zero h.symm;simp_all [cq]
 |succ n q=>
  intro s id bs h
  cases bs<;>grind [cK,List.zip_cons_cons,iD]
def IQ (n:Nat) (ν:Nat->Nat) (args:List (PV U)) (vs:Array Value):Gh U:=
 ⟨fun id=>if 1000000<=id/\id-1000000<n then some (ν (id-1000000)) else none,
  fun i=>if 2000000<=i then (LA args (i-2000000)).map (fun ob=>(0,ob.e,vs.getD (i-2000000) undef)) else none⟩
def mC (args:List (PV U)) (δ:Nat->Option Nat):Nat->Option Nat:=fun i=>if 2000000<=i then (LA args (i-2000000)).bind fun _=>δ (i-2000000) else none
def gm (w:World) (N0:aN) (n m:Nat) (ν:Nat->Nat) (δ:Nat->Option Nat) (ο:Nat->Array Value) (q: ∀b,w.heap.size<=b->ο b= #[]) (nt:Nat) (z:nt<=1000000) (h:Bnd w N0 n ν δ) (gl:List (Nat×Obj)) (x: ∀b o,(b,o)∈gl->w.heap[b]? =some o/\(∀i,i<n->ν i≠b)/\ ∀j,δ j≠some b):Ctx:=
 ⟨w,N0,Su n m ν δ,nt,fun b o hn=>⟨(h.n0 b o hn).1,fun hm=>by
  rcases xO.1 hm with hm|hm
  ·obtain ⟨k,hk,e⟩:=wD.1 hm
   exact (h.n0 b o hn).2.1 k (List.mem_range.1 hk) e
  ·obtain ⟨j,_,hj⟩:=List.mem_filterMap.1 hm
   exact (h.n0 b o hn).2.2 j hj⟩,
  fun id=>if 1000000<=id/\id-1000000<n then some (ν (id-1000000)) else none,fun id k h=>(by
  grind),
  gl,fun b o hb=>⟨(x b o hb).1,fun hm=>by
  rcases xO.1 hm with hm|hm<;>grind⟩,ο,q⟩
structure xE (c:Ctx) (w:World) (N0:aN) (n m:Nat) (ν:Nat->Nat) (δ:Nat->Option Nat) (ο:Nat->Array Value):Prop where
 cw:c.w0=w
 cN:c.N0=N0
 bl:c.bl=Su n m ν δ
 fix: ∀i,i<n->c.fix (df i)=some (ν i)
 other: ∀id k,c.fix id=some k->(∃i,i<n/\id=df i)\/w.heap.size<=k
 iP:Bnd w N0 n ν δ
 oo:c.ο=ο
theorem lc {w:World} {N0:aN} {n m nt:Nat} {ν:Nat->Nat} {δ:Nat->Option Nat} {ο:Nat->Array Value} {q: ∀b,w.heap.size<=b->ο b= #[]} {x:nt<=1000000} {h:Bnd w N0 n ν δ} {gl:List (Nat×Obj)} {z: ∀b o,(b,o)∈gl->w.heap[b]? =some o/\(∀i,i<n->ν i≠b)/\ ∀j,δ j≠some b}:xE (gm w N0 n m ν δ ο q nt x h gl z) w N0 n m ν δ ο where
 cw:=rfl
 cN:=rfl
 bl:=rfl
 fix i A:=by
  grind [gm,df]
 other id k hk:=by
  simp only [gm] at hk
  split at hk
  ·rename_i h1;exact .inl ⟨id-1000000,h1.2,by simp [df];omega⟩
  grind
 iP:=h
 oo:=rfl
variable {w:World} {vs:Array Value} {N0:aN} {ν:Nat->Nat} {δ:Nat->Option Nat} {ο:Nat->Array Value} {args:List (PV U)} {boxes:List (py U)}
theorem wj {i b:Nat} (h:mC args δ i=some b):2000000<=i/\δ (i-2000000)=some b/\(LA args (i-2000000)).isSome=true:=by
 grind [mC,LA]
theorem aku (x:uL X w vs N0 ν δ ο args boxes) (nt:Nat) (z:nt<=1000000): ∀b o,((gm w N0 boxes.length args.length ν δ ο x.oz nt z x.iP X.jY x.gF).N (IQ boxes.length ν args vs) (mC args δ)) b o->(NB N0 boxes.length ν δ) b o:=by
 rintro b o (hn|⟨id,q⟩|⟨i,A⟩)
 ·exact .inl hn
 ·simp only [IQ] at q
  split at q
  ·rename_i h1
   injection q with q
   exact .inr (.inl ⟨_,h1.2,q⟩)
  grind
 ·exact .inr (.inr ⟨_,(wj A).2.1⟩)
theorem R_ (id:Nat):(gU args boxes).b id=if 1000000<=id then (boxes.map (py.ren true df))[id-1000000]? else none:=by
 unfold St.b gU
 simp only
 rw [alD (boxes:=boxes) _ _ _ _ (by simp)]
 rfl
theorem BO (z:uL X w vs N0 ν δ ο args boxes) {nt:Nat} (Y:args.length<=nt) (B:nt<=1000000):
  qw X (gm w N0 boxes.length args.length ν δ ο z.oz nt B z.iP X.jY z.gF) (vs++Array.replicate (nt-vs.size) undef) w (gU args boxes) (IQ boxes.length ν args vs) (mC args δ):=by
 have E:=aku z nt B
 have J: ∀i b,(gB U boxes.length ν).μ i=some b->(IQ boxes.length ν args vs).μ (df i)=some b:=by
  grind [gB,IQ,df]
 have O: ∀n,n<args.length->(vs++Array.replicate (nt-vs.size) undef).getD n undef=vs.getD n undef:=by
  intro n hn
  have:n<vs.size:=by rw [z.size];exact hn
  simp_all [Array.getElem?_append]
 have ho: ∀i ob,(gU args boxes).o i=some ob->2000000<=i/\LA args (i-2000000)=some ob:=by
  grind [St.o,gU,R8]
 have hb: ∀id b,(gU args boxes).b id=some b->1000000<=id/\ ∃M,boxes[id-1000000]? =some M/\b=M.ren true df:=by
  grind [R_]
 refine {nt:=by simp [gm,z.size];omega,eR:=fun n=> ?_,boxes:=fun id b h=> ?_,hJ:=fun id k hk=> ?_,inj:=fun id id' k h1 h2=> ?_,new:=fun id k hk=> ?_,cX:=fun i ob h=> ?_,gD:=fun i h=> ?_,eO:=fun i j b h1 h2=> ?_,cY:=fun i b h=> ?_,eV:=fun i id b h1 h2=> ?_,ext:=Ext.refl _ _,gl:=rfl,fix:=fun id k hk=> .inl hk}
 ·unfold St.r gU
  simp only [akt,Nat.zero_le,if_true,Nat.sub_zero]
  cases hp:args[n]? with
  |none=>simp only [Option.map_none];exact .undef _
  |some p=>
   simp only [Option.map_some]
   have hn:=(Dg.1 hp).1
   rw [O n hn]
   have W:=z.args n p hp
   by_cases hf:p.notFresh=true
   ·have:=(W.rep hf).ren (g':=IQ boxes.length ν args vs) (N':=(gm w N0 boxes.length args.length ν δ ο z.oz nt B z.iP X.jY z.gF).N (IQ boxes.length ν args vs) (mC args δ)) true df (fun _ _ _ _=>rfl) (fun b o _ h=>E b o h) (.inr fun _=>rfl) fun i _ b hb=>J i b hb
    cases p<;>first|exact this|cases hf
   ·cases p with
    |fresh e l=>
     obtain ⟨A,n',cp,L,_⟩:=(show sZ X w _ _ e l (vs.getD n undef) .wr (δ n) from W).val
     have hfa:LA args n=some ⟨0,e,l⟩:=by unfold LA;rw [hp]
     refine .own (2000000+n) 0 _ 0 e (vs.getD n undef) ?_ (xq _) (fun _=>rfl) ⟨A,n',cp,L⟩
     grind [IQ]
    |_=>exact absurd rfl hf
 ·obtain ⟨h1,M,h2,rfl⟩:=hb id b h
  have T:=(Dg.1 h2).1
  have F:(IQ boxes.length ν args vs).μ id=some (ν (id-1000000)):=if_pos ⟨h1,T⟩
  refine ⟨ν (id-1000000),F, ?_⟩
  exact (z.boxes _ M h2).ren true df rfl (fun _ _ _ _=>rfl) (fun b o _ h=>E b o h) (.inr fun _=>rfl) fun i _ b hb=>J i b hb
 ·simp_all [IQ,df,R_]
 ·simp only [IQ] at h1 h2
  split at h1
  ·rename_i q1
   split at h2
   ·rename_i q2
    injection h1 with h1
    injection h2 with h2
    have:=z.iP.inj _ _ q1.2 q2.2 (h1.trans h2.symm)
    omega
   grind
  grind
 ·simp only [IQ] at hk
  split at hk
  ·rename_i h1
   injection hk with hk
   subst hk
   exact ⟨z.iP.lt _ h1.2,.inl (xO.2 (.inl (wD.2 ⟨_,List.mem_range.2 h1.2,rfl⟩)))⟩
  grind
 ·obtain ⟨h1,h2⟩:=ho i ob h
  have hp: ∃e l,args[i-2000000]? =some (.fresh e l)/\ob=⟨0,e,l⟩:=by
   grind [LA]
  obtain ⟨e,l,hp,rfl⟩:=hp
  have hO:sZ X w (NB N0 boxes.length ν δ) (gB U boxes.length ν) e l (vs.getD (i-2000000) undef) .wr (δ (i-2000000)):=z.args _ _ hp
  refine ⟨vs.getD (i-2000000) undef,by simp_all [IQ], ?_⟩
  have hu:(gU args boxes).u i= .wr:=by
   unfold St.u gU
   simp only
   have I: ∀ (l:List (Nat×Ob U)) (n:Nat),cq (l.map fun x=>(x.1,xS.wr)) n=(cq l n).map fun _=>xS.wr:=by
    intro l n
    induction l with
    |nil=>rfl
    |cons x l ih=>
     grind [iD]
   rw [I]
   have h':cq (gV 0 args) i=some ⟨0,e,l⟩:=h
   grind
  have hD:mC args δ i=δ (i-2000000):=by grind [mC]
  rw [hu,hD]
  exact hO.turn (fun _ _=>rfl) (fun _ _ _ _=>rfl) (fun b o _ h=>E b o h)
 ·have hf:2000000<=i->LA args (i-2000000)=none:=by
   intro hi
   have h':cq (gV 0 args) i=none:=h
   grind [R8]
  grind [IQ,mC]
 ·obtain ⟨a1,a2,_⟩:=wj h1
  obtain ⟨b1,b2,_⟩:=wj h2
  have:=z.iP.eO _ _ _ a2 b2
  omega
 ·obtain ⟨a1,a2,_⟩:=wj h
  exact ⟨z.iP.dlt _ _ a2,.inl (xO.2 (.inr (List.mem_filterMap.2 ⟨_,List.mem_range.2 (z.hJ _ _ a2),a2⟩)))⟩
 ·obtain ⟨a1,a2,_⟩:=wj h1
  simp only [IQ] at h2
  split at h2
  ·rename_i q
   injection h2 with h2
   exact z.iP.dν _ _ a2 _ q.2 h2
  grind
end
section
variable {U:sW} {V:Env U} {P:Program} {X:qx V P} {K:cj U} {c:Ctx} {tm:Array Value} {w:World} {σ:St U} {g:Gh U} {D:Nat->Option Nat}
variable {r:MR U} {τ:St U} {gp:List Loc}
def mz (tmps:Array Value):ResultVar->Sem Value
 | .tmp t=>pure (tmps.getD t undef)
 | .cell a t=>do loadVar t (<-asAddr (tmps.getD a undef))
theorem ais (fn:Func) (tmps:Array Value):results fn tmps=(do
  let vs<-fn.results.mapM (mz tmps)
  pure (if h:vs.size=1 then vs[0] else .tuple vs)):=by
 rfl
theorem air (h:qw X c tm w σ g D): ∀ (res:List ResultVar) {k:List (PV U)->M U} {fp:List Loc},(ry V res k).Rel K σ fp r τ gp->
  ∃ps us fp',(k ps).Rel K σ fp' r τ gp/\us.length=ps.length/\(∀ (j:Nat) p,ps[j]? =some p->po X w (c.N g D) g (us.getD j undef) p)/\(res.mapM (mz tm)).run P w= .ok us w:=by
 intro res
 induction res with
 |nil=>intro k fp A;exact ⟨[],[],fp,A,rfl,by simp,by simp⟩
 |cons x res I=>
  intro k fp A
  have step: ∀ {p:PV U} {v:Value} {B:List Loc},(ry V res fun vs=>k (p::vs)).Rel K σ B r τ gp->po X w (c.N g D) g v p->(mz tm x).run P w= .ok v w->
    ∃ps us fp',(k ps).Rel K σ fp' r τ gp/\us.length=ps.length/\(∀ (j:Nat) p,ps[j]? =some p->po X w (c.N g D) g (us.getD j undef) p)/\((x::res).mapM (mz tm)).run P w= .ok us w:=by
   intro p v B E hp hv
   obtain ⟨ps,us,fp',h1,h2,F,J⟩:=I E
   refine ⟨p::ps,v::us,fp',h1,by simp [h2],fun j q L=> ?_,by simp_all⟩
   grind
  cases x with
  |tmp t=>exact step A (h.eR t) (by rfl)
  |cell a t=>
   simp only [ry,M.Rel] at A
   obtain ⟨x,fp',v,h1,h2,F⟩:=LM (a:=⟨tm,[]⟩) h (h.eR a) A
   refine step h1 F ?_
   have z:=h2
   unfold Instr.loadAt at z
   simp only [mz]
   cases hu:tm.getD a undef with
   |pointer q=>
    rw [hu] at z
    cases q<;>simp_all [Instr.sureAddr,asAddr]
   |_=>rw [hu] at z;simp [Instr.sureAddr] at z
theorem EB: ∀ (l:List Nat) {k:List (Nat×py U)->M U} {fp:List Loc},(iq l k).Rel K σ fp r τ gp-> ∃bs fp',(k bs).Rel K σ fp' r τ gp/\bs.map (·.1)=l/\ ∀x∈bs,σ.b x.1=some x.2:=by
 intro l
 induction l<;>grind [iq,M.Rel]
theorem ac8: ∀ (n:Nat) (todo:List Nat) (acc:List (Nat×py U)) {k:List (Nat×py U)->M U} {fp:List Loc},(∀x∈acc,σ.b x.1=some x.2)->(lR n todo acc k).Rel K σ fp r τ gp->
  ∃bs fp',(k (acc++bs)).Rel K σ fp' r τ gp/\ ∀x∈acc++bs,σ.b x.1=some x.2:=by
 intro n
 induction n with
 |zero=>intro todo acc k fp _ q;exact q.elim
 |succ n A=>
  intro todo acc k fp z q
  cases todo with
  |nil=>exact ⟨[],fp,by rw [xG];exact q,by grind⟩
  |cons id todo=>
   simp only [lR] at q
   split at q<;>grind [M.Rel]
theorem uc.lessN {N N':aN} {v:Value} {Do:Option Nat} {p:PV U} (h:uc X w N g v Do p) (q: ∀b o,N' b o->N b o):uc X w N' g v Do p:=by
 by_cases hp:p.notFresh=true
 ·have:=(h.rep hp).mono X (w':=w) (N':=N') (g':=g) (fun _ _ _ _=>rfl) (fun b o _ hn=>q b o hn) (Gh.le.refl g)
  cases p<;>first|exact this|cases hp
 ·cases p with
  |fresh e l=>exact sZ.mono h (fun _ _=>rfl) (fun _ _ _ _=>rfl) (fun b o _ hn=>q b o hn) (Gh.le.refl g)
  |_=>exact absurd rfl hp
theorem Jr {w0:World} {N0:aN} {n m:Nat} {ν:Nat->Nat} {δ:Nat->Option Nat} {ο:Nat->Array Value} (hc:xE c w0 N0 n m ν δ ο) (a6: ∀j b,δ j=some b->j<m)
  (h:qw X c tm w σ g D) {bs:List (Nat×py U)} {qs:List (PV U)} {vs:Array Value} {ν':Nat->Nat} {δ':Nat->Option Nat} {pz:Bool} {N1:aN}
  (F: ∃more,bs.map (·.1)=cK (df 0) n++more) (a8:(bs.map (·.1)).Nodup) (L: ∀ (k:Nat) id,(bs.map (·.1))[k]? =some id->g.μ id=some (ν' k))
  (M: ∀j b,δ' j=some b-> ∃i,D i=some b)
  (hg:uL X w vs N1 ν' δ' ο qs (bs.map fun b=>b.2.ren pz (va (bs.map (·.1)))))
  (Y:NB N1 bs.length ν' δ'=c.N g D):
  L6 X w0 w N0 ν δ ο n m ν' δ' (bs.map fun b=>b.2.ren pz (va (bs.map (·.1))))/\ ∀b o,(NB N0 bs.length ν' δ') b o->(NB N1 bs.length ν' δ') b o:=by
 obtain ⟨more,I⟩:=F
 obtain ⟨c0,cN,ad,a7,W,x,bc⟩:=hc
 have hlen:bs.length=n+more.length:=by have:=congrArg EO I;grind [AB]
 have O: ∀i,i<n->(bs.map (·.1))[i]? =some (df i):=by
  grind [NO,df]
 have hold: ∀i,i<n->ν' i=ν i:=by
  intro i A
  have h1:=L i _ (O i A)
  rcases h.fix _ _ h1 with h2|⟨h2,_⟩<;>grind
 have J: ∀i,i<n->g.μ (df i)=some (ν i):=fun i A=>by grind
 have B: ∀k,k<bs.length-> ∃id,(bs.map (·.1))[k]? =some id/\g.μ id=some (ν' k):=fun k hk=>⟨_,zk (by grind),L k _ (zk (by grind))⟩
 have E: ∀b o,(NB N0 bs.length ν' δ') b o->(NB N1 bs.length ν' δ') b o:=by
  intro b o hn
  rw [Y]
  rcases hn with hn|⟨k,hk,rfl⟩|⟨j,hj⟩
  ·exact .inl (by grind)
  ·obtain ⟨id,_,ao⟩:=B k hk
   exact .inr (.inl ⟨id,ao⟩)
  ·obtain ⟨i,A⟩:=M j b hj
   exact .inr (.inr ⟨i,A⟩)
 have T: ∀i,n<=i->i<bs.length->w0.heap.size<=ν' i:=by
  intro i A ax
  obtain ⟨id,h1,h2⟩:=B i ax
  rcases h.fix _ _ h2 with h3|⟨_,h3⟩<;>grind [List.getElem?_inj]
 have z: ∀j b,δ' j=some b->w0.heap.size<=b\/ ∃i,δ i=some b:=by
  intro j b hj
  obtain ⟨i,A⟩:=M j b hj
  rcases (h.cY i b A).2 with h1|h1
  ·rw [ad] at h1
   rcases xO.1 h1 with h1|h1
   ·obtain ⟨k,hk,e⟩:=wD.1 h1
    rw [List.mem_range] at hk
    subst e
    exact absurd (J k hk) (h.eV i _ _ A)
   grind
  grind
 have hl:(bs.map fun b=>b.2.ren pz (va (bs.map (·.1)))).length=bs.length:=by simp
 have q:=hg.iP
 rw [hl] at q
 have hex:Ext (Su n m ν δ) w0 w:=by have:=h.ext;grind
 refine ⟨⟨hex,by omega,hold,by grind,z, ?_,fun k b hb=> ?_⟩,E⟩
 ·rw [hl]
  refine ⟨q.inj,q.lt,q.dlt,q.eO,q.dν,fun b o hn=>⟨Nat.lt_of_lt_of_le (x.n0 b o hn).1 hex.size,fun i A e=> ?_,fun j hj=> ?_⟩⟩
  ·by_cases az:i<n
   ·exact (x.n0 b o hn).2.1 i az (by grind)
   ·have:=T i (by omega) A
    have:=(x.n0 b o hn).1
    omega
  ·rcases z j b hj with h1|⟨i,h1⟩
   ·have:=(x.n0 b o hn).1;omega
   ·exact (x.n0 b o hn).2.2 i h1
 ·have:=hg.boxes k b hb
  rw [hl] at this ⊢
  exact this.mono rfl (fun _ _ _ _=>rfl) (fun b o _ hn=>E b o hn) (Gh.le.refl _)
end
section
variable {U:sW} {V:Env U} {P:Program} {X:qx V P}
theorem uc.ofAny {w:World} {N:aN} {g:Gh U} {v:Value} {Do:Option Nat} {p:PV U} (h:po X w N g v p):uc X w N g v Do p:=by
 cases p<;>first|exact h|cases h
theorem L5.ofG {w:World} {N:aN} {g:Gh U} {v:Value} {δ:Nat->Option Nat} {p:PV U} (h:uc X w N g v (δ 0) p):L5 X w N g v δ p:=by
 cases p with
 |tuple ps=>
  cases (show po X w N g v (.tuple ps) from h) with
  |tuple vs _ hl q=>exact ⟨vs,rfl,hl,fun j p hp=> .ofAny (q j p hp)⟩
 |_=>exact h
theorem ait {fn:Func} {tmps:Array Value} {us:List Value} {w:World} (h:(fn.results.toList.mapM (mz tmps)).run P w= .ok us w):
  (results fn tmps).run P w= .ok (if h:us.toArray.size=1 then us.toArray[0] else .tuple us.toArray) w:=by
 simp_all [ais,Array.mapM_eq_mapM_toList]
variable {w0:World} {N0:aN} {n m:Nat} {ν:Nat->Nat} {δ:Nat->Option Nat} {K:cj U} {c:Ctx}
theorem aJh {w:World} {σ:St U} {g:Gh U} {N:aN} {hand:List Bool} {ps:List (PV U)} {us:List Value} {k:List (PV U)->M U} {fp gp:List Loc} {r:MR U} {τ:St U} (hl:us.length=ps.length) (hp: ∀ (j:Nat) p,ps[j]? =some p->po X w N g (us.getD j undef) p)
  (q:(aAv hand ps k).Rel K σ fp r τ gp): ∃qs,(k qs).Rel K σ fp r τ gp/\us.length=qs.length/\ ∀ (j:Nat) p,qs[j]? =some p->po X w N g (us.getD j undef) p:=by
 unfold aAv at q
 cases hb:qy hand.length (ps.length+1) with
 |false=>grind
 |true=>
  rw [hb] at q
  simp only [cond_true] at q
  split at q
  ·rename_i v
   split at q
   ·rename_i z hv
    refine ⟨[z],q,hl,fun j p hj=> ?_⟩
    cases j with
    |succ j=>simp at hj
    |zero=>
     simp at hj
     subst hj
     have x:=hp 0 v rfl
     generalize us.getD 0 undef=u at x
     unfold PV.asFull at hv
     split at hv
     ·injection hv with hv
      subst hv
      cases x with
      |sl A n c e l o val h1 h2 F B E=>exact .sl A n c _ _ .full val h1 h2 (by omega) B E
     all_goals grind
   ·exact q.elim
  ·exact q.elim
theorem rz {fn:Func} {tm:Array Value} {w:World} {σ:St U} {g:Gh U} {D:Nat->Option Nat} {ο:Nat->Array Value} (hc:xE c w0 N0 n m ν δ ο) (M: ∀j b,δ j=some b->j<m) (h:qw X c tm w σ g D)
  {pz:Bool} {hand:List Bool} {out:Out U} {τ:St U} {fp gp:List Loc} (hr:(jC V pz hand fn.results.toList n).Rel K σ fp (.out out) τ gp):
  ∃v,(results fn tm).run P w= .ok v w/\BW X w0 N0 ν δ ο n m out (.returned v) w:=by
 unfold jC at hr
 obtain ⟨ps,us,cx,I,O,J,T⟩:=air h _ hr
 obtain ⟨ps,I,O,J⟩:=aJh O J I
 obtain ⟨q1,σ1,D1,cy,a7,W,c5,a8⟩:=KL hand ps h (fun j=>us.getD j undef) J I
 obtain ⟨bc,c9,bf,dd,Y⟩:=EB _ a7
 obtain ⟨bh,dh,bn,bt⟩:=ac8 100 _ bc Y bf
 obtain ⟨z,bz,D2,dn,b0,ad,b1,B⟩:=Ew _ W.kB (fun x hx=>W.kB.boxes x.1 x.2 (bt x hx)) bn
 have h2:=ad.kB
 obtain ⟨qs,ds,dt,G,δ',E,b2,dx,_,b3,ao,dy⟩:=KR h2 hand q1 (fun j=>us.getD j undef) (.refl bz) (fun j p hp=>ad.rep (a8 j p hp)) b0
 cases hh:kj qs z with
 |false=>rw [hh] at E;exact E.elim
 |true=>
 rw [hh] at E
 obtain ⟨e1,_,_⟩:=E
 injection e1 with e1
 subst e1
 have B: ∀x∈z,mG X w (c.N g D2) g ο x:=hc.oo▸B
 obtain ⟨ν',ax⟩:=NN B
 have ea: ∀j,us.toArray.getD j undef=us.getD j undef:=fun j=>pT j (by simp)
 obtain ⟨b4,hg⟩:=EE h2 pz (ο:=ο) (fun b hb=>by rw [<-hc.oo];exact c.oz b (bu h2.ext.size hb)) (vs:=us.toArray) (by grind) B hh (fun j b hj=>by rw [b2];exact b3 j b hj) ao (fun j q hq=>by grind) ax (F:=fun b=>b.2.ren pz (va (z.map (·.1)))) fun x hx g' t k b5 b6=>b6.ren pz _ rfl (fun _ _ _ _=>rfl) (fun _ _ _ h=>h) (.inl hx) b5
 have b7:=(Ac hh).2.2.1
 obtain ⟨ch,az⟩:=Jr hc M h2 ⟨bh.map (·.1),by grind⟩ b7 ax (fun j b hj=>by grind) hg b4
 suffices hR:L5 X w (NB N0 z.length ν' δ') (gB U z.length ν') (if h:us.toArray.size=1 then us.toArray[0] else .tuple us.toArray) δ' (mq (PV.renL pz (va (z.map (·.1))) qs)) by
  have ec:=ait T
  grind [BW]
 have cu:(z.map fun b=>b.2.ren pz (va (z.map (·.1)))).length=z.length:=by simp
 have A: ∀ (j:Nat) p,(PV.renL pz (va (z.map (·.1))) qs)[j]? =some p->uc X w (NB N0 z.length ν' δ') (gB U z.length ν') (us.toArray.getD j undef) (δ' j) p:=fun j p hp=>by
  have:=hg.args j p hp
  rw [cu] at this
  exact this.lessN az
 have L:(PV.renL pz (va (z.map (·.1))) qs).length=us.length:=by grind [KY]
 generalize PV.renL pz (va (z.map (·.1))) qs=rs at A L
 by_cases h1:us.toArray.size=1
 ·rw [dif_pos h1]
  have ed:us.length=1:=by omega
  obtain ⟨p,rfl⟩: ∃p,rs=[p]:=by
   match rs,L with
   |[p],_=>simp
   |[],h=>grind
   |_::_::_,h=>grind
  have:=A 0 p rfl
  have hu:us.toArray.getD 0 undef=us.toArray[0]:=by grind
  rw [hu] at this
  exact .ofG this
 ·rw [dif_neg h1]
  have a6:mq rs= .tuple rs:=by
   match rs,L with
   |[],_=>rfl
   |[p],h=>grind
   |_::_::_,_=>rfl
  rw [a6]
  exact ⟨us.toArray,rfl,by grind,A⟩
theorem F0 {tm:Array Value} {w:World} {σ:St U} {g:Gh U} {D:Nat->Option Nat} {ο:Nat->Array Value} (hc:xE c w0 N0 n m ν δ ο) (O: ∀j b,δ j=some b->j<m) (h:qw X c tm w σ g D)
  {v:PV U} {val:Value} (hv:po X w (c.N g D) g val v) {out:Out U} {τ:St U} {fp gp:List Loc} (hr:(FZ v n).Rel K σ fp (.out out) τ gp):
  BW X w0 N0 ν δ ο n m out (.panicked [{v:=val,recovered:=false}]) w:=by
 unfold FZ at hr
 obtain ⟨b0,b1,a6,a7,T⟩:=EB _ hr
 obtain ⟨z,b2,D2,b3,a8,W,I,bc⟩:=Ew _ h (fun x J=>h.boxes x.1 x.2 (T x J)) a6
 obtain ⟨q,b4,D3,b5,B,L,hq,_⟩:=nu v W.kB (W.rep hv) a8
 cases hh:kj [q] z with
 |false=>simp only [hh] at B;exact B.elim
 |true=>
 simp only [hh] at B
 obtain ⟨e1,_,_⟩:=B
 injection e1 with e1
 subst e1
 have Y: ∀x∈z,mG X w (c.N g D3) g ο x:=fun x J=>by
  obtain ⟨k,hk,E⟩:=bc x J
  rw [hc.oo] at E
  exact ⟨k,hk,E.mono rfl (fun _ _ _ _=>rfl) (fun b o _ hn=>by
   rcases hn with hn|hn|⟨i,hi⟩
   ·exact .inl hn
   ·exact .inr (.inl hn)
   ·exact .inr (.inr ⟨i,L.D i b hi⟩)) (Gh.le.refl g)⟩
 have bf:z.map (·.1)=cK (df 0) n:=I.trans a7
 have hlen:z.length=n:=by grind [AB]
 have ad: ∀ (k:Nat) id,(z.map (·.1))[k]? =some id->g.μ id=some (ν k):=by
  intro k id A
  obtain ⟨x,J,rfl⟩:=wD.1 (Im A)
  obtain ⟨kb,hk,_⟩:=Y x J
  have ao:k<n:=by grind
  rw [bf,NO _ _ _ ao] at A
  injection A with A
  have bz:c.fix x.1=some (ν k):=by
   rw [<-A,<-hc.fix k ao]
   rfl
  rcases h.fix _ _ hk with h2|⟨h2,_⟩<;>grind
 obtain ⟨bh,hg⟩:=EE (G:=[]) (δ:=fun _=>none) L.kB false (ο:=ο) (fun b hb=>by rw [<-hc.oo];exact c.oz b (bu h.ext.size hb)) (vs:= #[val]) (by simp) Y hh (by simp) (by simp) (fun j q' ax=>by
  cases j with
  |zero=>simp at ax;subst ax;exact .of hq
  |succ j=>simp_all) ad (F:=fun b=>b.2.ren false (va (z.map (·.1)))) fun x J g' t k bn E=>E.ren false _ rfl (fun _ _ _ _=>rfl) (fun _ _ _ h=>h) (.inl J) bn
 obtain ⟨M,az⟩:=Jr hc O L.kB ⟨[],by grind⟩ (Ac hh).2.2.1 ad (by simp) hg bh
 refine ⟨by grind,val,rfl,M, ?_⟩
 have bt:(z.map fun b=>b.2.ren false (va (z.map (·.1)))).length=z.length:=by simp
 have:=hg.args 0 _ rfl
 rw [bt] at this
 have:=this.lessN az
 rw [hlen] at this
 have hf:(q.ren false (va (z.map (·.1)))).notFresh=true:=by
  rw [Bk]
  cases q<;>first|rfl|cases hq
 exact this.rep hf
theorem QJ (hm:P.follows .mixedOrders=true) (hI:Se X) {S:sY U} (hS:S.nj=none) (ao:S.ni=fun _=>false) {R:Type} {C:sN U R} (hC:C.Tells (ci X)) {f:FuncId} {fn:Func} (hf:P.funcs[f]? =some fn)
  (I:(fn.name== "runtime.NumGoroutine")=false) (J:fn.body.isNone=false) (ad:fn.ntmps=S.nt) (E:S.nt<=1000000) {args:List (PV U)} {boxes:List (py U)} (L:args.length<=S.nt)
  {xx:Nat->Option B1} {fuel:Nat} {pz:Bool} {hand:List Bool} {κ:Out U->Option R} {x:R} (h:rC V S C xx fuel pz hand fn args boxes κ=some x): ∃out,κ out=some x/\ci X f args boxes out:=by
 obtain ⟨code,A⟩: ∃code,fn.body=some code:=by
  cases hb:fn.body<;>grind
 unfold rC Md at h
 rw [A] at h
 obtain ⟨e,τ,T,hk⟩:=Bv (ci X) V S xx hC fuel code h
 have key: ∀ {M:M U} {out:Out U} {B:St U} {gp:List Loc},M.Rel (ci X) τ [] (.out out) B gp->(∀ (w:World) (vs:Array Value) (N0:aN) (ν:Nat->Nat) (δ:Nat->Option Nat) (ο:Nat->Array Value) (z:uL X w vs N0 ν δ ο args boxes),
   uK X (gm w N0 boxes.length args.length ν δ ο z.oz S.nt E z.iP X.jY z.gF) [] e τ (bodyPost P fn (BW X w N0 ν δ ο boxes.length args.length out)))->ci X f args boxes out:=by
  intro M out B gp _ hl
  refine ⟨⟨fn,hf,I,J⟩,fun w vs N0 ν δ ο z=> ?_⟩
  suffices O:Calls P f vs w (BW X w N0 ν δ ο boxes.length args.length out) from O.mono fun e w h=>BW.full h
  refine calls_of_wp hf A ?_
  have hs:=BO z L E
  rw [ad]
  exact oX hm (oi hI hS fun d hd=>by grind) rfl T _ w _ _ _ hs (hl w vs N0 ν δ ο z)
 cases e with
 |exit id=>cases hk
 |normal=>
  obtain ⟨r,B,W,gp,F,ht,q⟩:=LZ hC _ hk (St.eqv.refl τ)
  cases r with
  |out o=>
   refine ⟨o,q,key F fun w vs N0 ν δ ο z a' w' g' D' hd hs=> ?_⟩
   obtain ⟨v,h1,h2⟩:=rz lc z.hJ hs F
   exact ⟨hd,v,h1,h2⟩
  |_=>cases q
 |ret=>
  obtain ⟨r,B,W,gp,F,ht,q⟩:=LZ hC _ hk (St.eqv.refl τ)
  cases r with
  |out o=>
   refine ⟨o,q,key F fun w vs N0 ν δ ο z a' w' g' D' hd hs=> ?_⟩
   obtain ⟨v,h1,h2⟩:=rz lc z.hJ hs F
   exact ⟨hd,v,h1,h2⟩
  |_=>cases q
 |panic v=>
  obtain ⟨r,B,W,gp,F,ht,q⟩:=LZ hC _ hk (St.eqv.refl τ)
  cases r with
  |out o=>
   refine ⟨o,q,key F fun w vs N0 ν δ ο z a' w' g' D' hd hs val Y=> ?_⟩
   exact ⟨hd,F0 lc z.hJ hs Y F⟩
  |_=>cases q
end
section
variable {U:sW} {R:Type} (V:Env U) (S:sY U) (C:sN U R) (xx:Nat->Option B1) (fuel:Nat)
def Qq (o:Oper):Option Tmp:=
 match o.dst,o.op,o.guard with
 |some d,.call c,.none=>match c.callee with
  | .builtin .recover=>some d
  |_=> .none
 |_,_,_=> .none
def QL (v:PV U):Code->St U->(Ex U->St U->Option R)->Option R
 | .seq (.region _ ops draw) b,σ,κ=>match ops.toList with
  |o::more=>match Qq o with
   |some d=>bif !draw&&(Nat.blt d S.nt&&more.all (bq S.nt)) then rD V S C ops.toList more [] (σ.dU d v) fun
     | .normal,σ',_=>run V S C xx fuel b σ' κ
     |_,_,_=> .none
    else .none
   | .none=> .none
  |[]=> .none
 |_,_,_=> .none
def G5 (pz:Bool) (hand:List Bool) (fn:Func) (v:PV U) (args:List (PV U)) (boxes:List (py U)) (κ:Out U->Option R):Option R:=
 QL V S C xx fuel v (Md fn) (gU args boxes) (kF V C pz hand fn boxes.length κ)
def D4:List Oper->Option (Oper×Tmp)
 |[o,q]=>match o.dst,o.guard,q.dst,q.op,q.guard with
  |some m,.none,.none,.defer c,.none=>match c.callee with
   | .value (.tmp n)=>bif qy m n&&c.args.isEmpty then some (o,n) else .none
   |_=> .none
  |_,_,_,_,_=> .none
 |_=> .none
def PV.pinned:PV U->Bool
 | .ptr id _=>xp 1000000 id
 |_=>false
def oD:Code->St U->(Ex U->St U->Option R)->(FuncId->List (PV U)->Ex U->St U->Option R)->Option R
 | .seq a b,σ,q,x=>match a with
  | .region id ops draw=>match D4 ops.toList with
   |some (o,n)=>bif !draw&&bq S.nt o then (bL V S o).cps C σ [] fun
     | .done,σ',_=>match σ'.r n with
      | .func h [] caps=>bif caps.all PV.pinned then run V {S with ni:=fun _=>false} C xx fuel b σ' (x h caps) else .none
      |_=> .none
     |_,_,_=> .none
    else .none
   | .none=>run V S C xx fuel (.region id ops draw) σ fun
    | .normal,σ'=>oD b σ' q x
    |e,σ'=>q e σ'
  |a=>run V S C xx fuel a σ fun
   | .normal,σ'=>oD b σ' q x
   |e,σ'=>q e σ'
 |_,_,_,_=> .none
def kD (Cd:PV U->sN U R) (pz:Bool) (hand:List Bool) (fn:Func) (nb:Nat) (κ:Out U->Option R) (h:FuncId) (caps:List (PV U)):Ex U->St U->Option R
 | .normal,σ=>(iq (PV.idsL caps) fun _=>iV (fun _=>0) (fun _=>[]) [] .none (.func h [] caps) []).cps (Cd .nilIface) σ [] fun
  | .done,σ',_=>(jC V pz hand fn.results.toList nb).cps C σ' [] (fin κ)
  |_,_,_=> .none
 | .ret,σ=>(iq (PV.idsL caps) fun _=>iV (fun _=>0) (fun _=>[]) [] .none (.func h [] caps) []).cps (Cd .nilIface) σ [] fun
  | .done,σ',_=>(jC V pz hand fn.results.toList nb).cps C σ' [] (fin κ)
  |_,_,_=> .none
 | .panic v,σ=>match v with
  | .iface t (.int k n)=>(iq (PV.idsL caps) fun _=>iV (fun _=>0) (fun _=>[]) [] .none (.func h [] caps) []).cps (Cd (.iface t (.int k n))) σ [] fun
   | .done,σ',_=>(jC V pz hand fn.results.toList nb).cps C σ' [] (fin κ)
   |_,_,_=> .none
  |_=> .none
 | .exit _,_=> .none
def Lz:Code->List Bool->List (St U->Option R)->(Nat->Option B1)->(Ex U->St U->Option R)->(FuncId->List (PV U)->Ex U->St U->Option R)->Ex U->St U->Option R
 | .seq a b,false::p,rs,an,q,x=>kn V S C xx fuel a p rs an fun
  | .normal,σ'=>oD V S C xx fuel b σ' q x
  |e,σ'=>q e σ'
 | .seq _ b,true::p,rs,an,q,x=>Lz b p rs an q x
 |_,_,_,_,q,_=>q
def G4 (Cd:PV U->sN U R) (pz:Bool) (hand:List Bool) (fn:Func) (args:List (PV U)) (boxes:List (py U)) (κ:Out U->Option R):Option R:=
 oD V S C xx fuel (Md fn) (gU args boxes) (kF V C pz hand fn boxes.length κ) (kD V C Cd pz hand fn boxes.length κ)
end
section
variable {U:sW} {V:Env U} {P:Program} {X:qx V P}
inductive BX:PV U->FrameMode->FrameMode->Prop
 |nil:BX .nilIface .returning .returning
 |err (t:TypeId) (k:IntKind) (n:Int):BX (.iface t (.int k n)) (.panicking [{v:= .iface t (.int k n),recovered:=false}]) (.panicking [{v:= .iface t (.int k n),recovered:=true}])
def jM (P:Program) (u q:FrameMode):FuncId->Array Value->World->(Ending->World->Prop)->Prop:=fun f vs w R=>CallsD P f vs u w fun e x w'=>x=q/\R e w'
theorem alr {ops:Array Oper} {cs:List Frame} {Q:Exit->Act->List Frame->World->Prop} (x: ¬LetsOut (fun e a' w'=>Q e a' cs w')): ∀ (l:List Nat) (a:Act) (w:World),wpOps P ops (fun e a' w'=>Q e a' cs w') l a w->wpOpsS P ops Q l a cs w:=by
 intro l
 induction l with
 |nil=>intro a w h;exact h
 |cons i l z=>
  intro a w h
  simp only [wpOps,wpOpsS] at h ⊢
  cases ho:ops[i]? with
  |none=>grind
  |some o=>
   rw [ho] at h
   simp only at h ⊢
   split
   ·rename_i A
    rw [if_pos A] at h
    have h:=h.resolve_right fun h=>x h.2
    have h:=Oper.wp_mono z h
    unfold Oper.wp at h
    split
    ·rename_i w' q
     rw [q] at h
     exact h.elim
    simp_all
   grind
theorem aiz (hm:P.follows .mixedOrders=true) (hI:Se X) {S:sY U} (hS:S.nj=none) (c5:S.ni=fun _=>false) {R:Type} {C:sN U R} (hC:C.Tells (ci X)) {f:FuncId} {fn:Func} (hf:P.funcs[f]? =some fn)
  (T:(fn.name== "runtime.NumGoroutine")=false) (W:fn.body.isNone=false) (bz:fn.ntmps=S.nt) (F:S.nt<=1000000) {v:PV U} {u I:FrameMode} (hv:BX v u I) {args:List (PV U)} {boxes:List (py U)} (Y:args.length<=S.nt)
  {xx:Nat->Option B1} {fuel:Nat} {pz:Bool} {hand:List Bool} {κ:Out U->Option R} {x:R} (h:G5 V S C xx fuel pz hand fn v args boxes κ=some x): ∃out,κ out=some x/\jS X (jM P u I) f args boxes out:=by
 obtain ⟨code,J⟩: ∃code,fn.body=some code:=by
  cases hb:fn.body<;>grind
 unfold G5 Md at h
 rw [J] at h
 simp only at h
 unfold QL at h
 split at h
 case h_2=>cases h
 rename_i id ops draw b
 split at h
 case h_2=>cases h
 rename_i o more O
 split at h
 case h_2=>cases h
 rename_i d A
 cases hc:(!draw&&(Nat.blt d S.nt&&more.all (bq S.nt))) with
 |false=>grind
 |true=>
 rw [hc] at h
 simp only [cond_true] at h
 simp only [pX,Bool.not_eq_true'] at hc
 obtain ⟨ad,hd,c9⟩:=hc
 subst ad
 have hd:d<S.nt:=by simp_all
 unfold Qq at A
 obtain ⟨dst,op,ty,pos,after,gd⟩:=o
 simp only at A
 split at A
 case h_2=>simp_all
 rename_i d0 cl
 split at A
 case h_2=>simp_all
 rename_i dd
 injection A with A
 subst A
 obtain ⟨e1,fps,ao,ax,az,b0,L⟩:=QK (ci X) V S hC ops.toList more h (St.eqv.refl _)
 cases e1 with
 |exit id=>cases L
 |ret=>cases L
 |panic v=>cases L
 |normal=>
 simp only at L
 obtain ⟨e,τ,a8,hk⟩:=Bv (ci X) V S xx hC fuel b L
 have b1:ops.size=more.length+1:=by have:=congrArg EO O;omega
 have key: ∀ {out:Out U},(∀ (w:World) (vs:Array Value) (N0:aN) (ν:Nat->Nat) (δ:Nat->Option Nat) (ο:Nat->Array Value) (B:uL X w vs N0 ν δ ο args boxes),
   uK X (gm w N0 boxes.length args.length ν δ ο B.oz S.nt F B.iP X.jY B.gF) [] e τ (bodyPost P fn (BW X w N0 ν δ ο boxes.length args.length out)))->jS X (jM P u I) f args boxes out:=by
  intro out hl
  refine ⟨⟨fn,hf,T,W⟩,fun w vs N0 ν δ ο B=> ?_⟩
  suffices a6:jM P u I f vs w (BW X w N0 ν δ ο boxes.length args.length out) from CallsD.mono a6 fun e u2 w2 h=>⟨h.1,BW.full h.2⟩
  refine callsD_of_wpS hf J fun q cs hu=> ?_
  have hs:=BO B Y F
  rw [bz]
  have hl:=hl w vs N0 ν δ ο B
  generalize b2:gm w N0 boxes.length args.length ν δ ο B.oz S.nt F B.iP X.jY B.gF=c at hs hl
  have bc:c.nt=S.nt:=by rw [<-b2];rfl
  have bf:mV X (ci X) S c:=oi hI hS fun d hd=>by grind
  obtain ⟨val,E,dh,M⟩: ∃val E,(match recoverD (q::cs) with|some (v,b3)=>v=val/\b3=E|none=>val= .nilIface/\E=q::cs)/\(∃c1:Frame,E={q with mode:=I}::cs)/\ ∀ (w:World) (N:aN) (g:Gh U),po X w N g val v:=by
   cases hv with
   |nil=>
    refine ⟨.nilIface,q::cs, ?_,⟨q, ?_⟩,fun _ _ _=> .nilIface⟩
    ·simp [recoverD,hu]
    ·rw [<-hu]
   |err t k n=>
    refine ⟨.iface t (.int k n),_, ?_,⟨q,rfl⟩,fun _ _ _=> .iface _ _ _ (.int _ _)⟩
    simp [recoverD,hu]
  obtain ⟨⟨_,bh⟩,M⟩:=M
  refine wpS_seq (wpS_region ?_)
  rw [b1,List.range_eq_range',List.range'_succ]
  have h0:ops[0]? =some ⟨some d0,.call cl,ty,pos,after,none⟩:=by rw [<-Array.getElem?_toList,O];rfl
  simp only [wpOpsS,h0]
  have bn:(execOp (Act.eval ⟨vs++Array.replicate (S.nt-vs.size) undef,[]⟩) ⟨some d0,.call cl,ty,pos,after,none⟩).run P w= .ok .recover w:=by
   simp_all [QO,builtin]
  rw [if_pos (by rfl),bn]
  simp only
  have b4:wpOpsS P ops (Exit.thenS (b.wpS P (bodyPostS P fn q cs fun e u2 w'=>u2=I/\BW X w N0 ν δ ο boxes.length args.length out e w')) (bodyPostS P fn q cs fun e u2 w'=>u2=I/\BW X w N0 ν δ ο boxes.length args.length out e w')) (List.range' (0+1) more.length)
    (Act.put ⟨vs++Array.replicate (S.nt-vs.size) undef,[]⟩ (some d0) val) E w:=by
   have b5:=hs.put (d:=d0) (by grind) (M w _ _)
   have b6: ∀ {next:Act->List Frame->World->Prop},¬LetsOut (fun e a' w'=>Exit.thenS next (bodyPostS P fn q cs fun e u2 w'=>u2=I/\BW X w N0 ν δ ο boxes.length args.length out e w') e a' E w'):=by
    rintro next ⟨a',w',u2,_,hq⟩
    exact hq
   refine alr b6 _ _ _ ?_
   refine Ur bf more 1 _ w _ _ _ fps (by grind) (by grind) b5 az ?_
   intro a2 w2 g2 D2 b7 ch
   simp only [Exit.thenS]
   refine wpS_of_wp (oX hm bf bc a8 a2 w2 g2 D2 _ (ch.eqv b0) ?_)
   intro a3 w3 g3 D3 cu cx
   have cy:a3.defers=[]:=cu.trans b7
   have hb:=hl a3 w3 g3 D3 cy cx
   rw [bh]
   cases e with
   |normal=>obtain ⟨q1,v1,q2,q3⟩:=hb;exact ⟨q1,I,rfl,v1,q2,rfl,q3⟩
   |ret=>obtain ⟨q1,v1,q2,q3⟩:=hb;exact ⟨q1,I,rfl,v1,q2,rfl,q3⟩
   |exit id=>exact hb.elim
   |panic pv=>intro val' a7;obtain ⟨q1,q3⟩:=hb val' a7;exact ⟨q1,I,rfl,rfl,q3⟩
  grind
 cases e with
 |exit id=>cases hk
 |normal=>
  obtain ⟨r,ao,ax,gp,hr,ht,z⟩:=LZ hC _ hk (St.eqv.refl τ)
  cases r with
  |out o=>
   refine ⟨o,z,key fun w vs N0 ν δ ο B a' w' g' D' hd hs=> ?_⟩
   obtain ⟨v,h1,h2⟩:=rz lc B.hJ hs hr
   exact ⟨hd,v,h1,h2⟩
  |_=>cases z
 |ret=>
  obtain ⟨r,ao,ax,gp,hr,ht,z⟩:=LZ hC _ hk (St.eqv.refl τ)
  cases r with
  |out o=>
   refine ⟨o,z,key fun w vs N0 ν δ ο B a' w' g' D' hd hs=> ?_⟩
   obtain ⟨v,h1,h2⟩:=rz lc B.hJ hs hr
   exact ⟨hd,v,h1,h2⟩
  |_=>cases z
 |panic v=>
  obtain ⟨r,ao,ax,gp,hr,ht,z⟩:=LZ hC _ hk (St.eqv.refl τ)
  cases r with
  |out o=>
   refine ⟨o,z,key fun w vs N0 ν δ ο B a' w' g' D' hd hs val bt=> ?_⟩
   exact ⟨hd,F0 lc B.hJ hs bt hr⟩
  |_=>cases z
end
section
variable {U:sW} {V:Env U} {P:Program} {X:qx V P}
def Ctx.refix (c:Ctx) (μ:Nat->Option Nat) (L:List Nat) (q:c.nt<=1000000) (x: ∀id∈L,1000000<=id):Ctx:=
 {c with
  fix:=fun id=>if id∈L then μ id else c.fix id
  low:=fun id k h=>by
   split at h
   ·grind
   ·exact c.low id k h}
theorem qw.refix {c:Ctx} {tm:Array Value} {w:World} {σ:St U} {g:Gh U} {D:Nat->Option Nat} (h:qw X c tm w σ g D) {L:List Nat} {q:c.nt<=1000000} {z: ∀id∈L,1000000<=id}:
  qw X (c.refix g.μ L q z) tm w σ g D where
 nt:=h.nt
 eR:=h.eR
 boxes:=h.boxes
 hJ:=h.hJ
 inj:=h.inj
 new:=h.new
 cX:=h.cX
 gD:=h.gD
 eO:=h.eO
 cY:=h.cY
 eV:=h.eV
 ext:=h.ext
 gl:=h.gl
 fix:=fun id k hk=>by
  simp only [Ctx.refix]
  by_cases x:id∈L
  ·grind
  ·rw [if_neg x];exact h.fix id k hk
theorem xE.refix {c:Ctx} {tm:Array Value} {w:World} {σ:St U} {g:Gh U} {D:Nat->Option Nat} (h:qw X c tm w σ g D) {L:List Nat} {z:c.nt<=1000000} {B: ∀id∈L,1000000<=id} (x: ∀id∈L,∃b,g.μ id=some b)
  {w0:World} {N0:aN} {n m:Nat} {ν:Nat->Nat} {δ:Nat->Option Nat} {ο:Nat->Array Value} (hc:xE c w0 N0 n m ν δ ο):xE (c.refix g.μ L z B) w0 N0 n m ν δ ο where
 cw:=hc.cw
 cN:=hc.cN
 bl:=hc.bl
 fix i A:=by
  simp only [Ctx.refix]
  by_cases q:df i∈L
  ·rw [if_pos q]
   obtain ⟨b,hb⟩:=x _ q
   rcases h.fix _ _ hb with h1|⟨h1,_⟩
   ·rw [hb,<-h1];exact hc.fix i A
   ·rw [hc.fix i A] at h1;cases h1
  ·rw [if_neg q];exact hc.fix i A
 other id k hk:=by
  simp only [Ctx.refix] at hk
  by_cases q:id∈L
  ·rw [if_pos q] at hk
   rcases h.fix _ _ hk with h1|⟨_,h1⟩
   ·exact hc.other id k h1
   ·rw [hc.cw] at h1;omega
  ·rw [if_neg q] at hk;exact hc.other id k hk
 iP:=hc.iP
 oo:=hc.oo
def Ca (q:Ctx) (caps:List (PV U)) (us:Array Value):Prop:=us.size=caps.length/\ ∀ (j:Nat) p,caps[j]? =some p-> ∃id off b,p= .ptr id off/\q.fix id=some b/\us.getD j undef= .pointer (some ⟨b,off,none⟩)
def Cc (X:qx V P) (S:sY U) (code:Code) (σ:St U) (h:FuncId) (caps:List (PV U)) (e:Ex U) (τ:St U):Prop:=
 ∀ (c:Ctx),yt S c->c.nt=S.nt-> ∀ (a:Act) (w:World) (g:Gh U) (D:Nat->Option Nat) (Q:Exit->Act->World->Prop),qw X c a.tmps w σ g D->a.defers=[]->
  (∀ (us:Array Value) (q:Ctx),(∀w0 N0 n m ν δ ο,xE c w0 N0 n m ν δ ο->xE q w0 N0 n m ν δ ο)->q.nt=c.nt->Ca q caps us->uK X q [{target:= .fn (.func h) us,args:= #[]}] e τ Q)->code.wp P Q a w
theorem aaj {l:List Oper} {o:Oper} {n:Tmp} (h:D4 l=some (o,n)): ∃q cl,l=[o,q]/\o.dst=some n/\o.guard=none/\q.dst=none/\q.op= .defer cl/\q.guard=none/\cl.callee= .value (.tmp n)/\cl.args= #[]:=by
 unfold D4 at h
 split at h
 case h_2=>cases h
 rename_i A q
 split at h
 case h_2=>cases h
 rename_i m cl h1 h2 B E F
 split at h
 case h_2=>cases h
 rename_i x z
 cases hb:(qy m x&&cl.args.isEmpty)<;>simp_all
theorem aiy (hm:P.follows .mixedOrders=true) (hI:Se X) {S:sY U} (hS:S.nj=none) (c5:S.nt<=1000000) {R:Type} {C:sN U R} (hC:C.Tells (ci X)) {xx:Nat->Option B1} {fuel:Nat}:
  ∀ (code:Code) {σ:St U} {A:Ex U->St U->Option R} {E:FuncId->List (PV U)->Ex U->St U->Option R} {x:R},oD V S C xx fuel code σ A E=some x->
   (∃e τ,e≠ .normal/\A e τ=some x/\ ∀c,yt S c->c.nt=S.nt->wE X c none code σ e τ)\/
   (∃h caps e τ,E h caps e τ=some x/\Cc X S code σ h caps e τ):=by
 intro code
 induction code with
 |seq a b b2 b3=>
  intro σ A E x h
  have step:run V S C xx fuel a σ (fun| .normal,σ'=>oD V S C xx fuel b σ' A E|e,σ'=>A e σ')=some x->
    (∃e τ,e≠ .normal/\A e τ=some x/\ ∀c,yt S c->c.nt=S.nt->wE X c none (.seq a b) σ e τ)\/
    (∃h caps e τ,E h caps e τ=some x/\Cc X S (.seq a b) σ h caps e τ):=by
   intro h
   obtain ⟨e,τ,z,hk⟩:=Bv (ci X) V S xx hC fuel a h
   have early:e≠ .normal->A e τ=some x->_:=fun he hk=>(.inl ⟨e,τ,he,hk,fun c hP B=>oX hm (oi hI hS hP) B (.nh a b _ _ _ z he)⟩:
    (∃e τ,e≠ .normal/\A e τ=some x/\ ∀c,yt S c->c.nt=S.nt->wE X c none (.seq a b) σ e τ)\/(∃h caps e τ,E h caps e τ=some x/\Cc X S (.seq a b) σ h caps e τ))
   cases e with
   |normal=>
    rcases b3 hk with ⟨e',τ',b4,T,hB⟩|⟨hh,caps,e',τ',T,hB⟩
    ·exact .inl ⟨e',τ',b4,T,fun c hP B a' w g D Q hs hl=>wp_seq (oX hm (oi hI hS hP) B z a' w g D _ hs fun a2 W g2 D2 Y I=>hB c hP B a2 W g2 D2 Q I (by grind))⟩
    ·exact .inr ⟨hh,caps,e',τ',T,fun c hP B a' w g D Q hs hd hl=>wp_seq (oX hm (oi hI hS hP) B z a' w g D _ hs fun a2 W g2 D2 Y I=>hB c hP B a2 W g2 D2 Q I (Y.trans hd) hl)⟩
   |exit id=>grind
   |ret=>grind
   |panic v=>grind
  clear b2
  unfold oD at h
  split at h
  case h_2=>grind
  rename_i id ops draw
  split at h
  case h_2=>grind
  rename_i o n a7
  obtain ⟨q,cl,J,dh,b5,a8,bc,ad,dn,b6⟩:=aaj a7
  cases hc:(!draw&&bq S.nt o) with
  |false=>grind
  |true=>
  rw [hc] at h
  simp only [cond_true] at h
  simp only [pX,Bool.not_eq_true'] at hc
  obtain ⟨ao,ds⟩:=hc
  subst ao
  obtain ⟨r,b7,τ,gp,bf,ht,hk⟩:=LZ hC _ h (St.eqv.refl σ)
  cases r with
  |raise v=>cases hk
  |out o=>cases hk
  |done=>
  simp only at hk
  split at hk
  case h_2=>cases hk
  rename_i hh caps M
  cases hp:caps.all PV.pinned with
  |false=>grind
  |true=>
  rw [hp] at hk
  simp only [cond_true] at hk
  obtain ⟨e,ch,z,bh⟩:=Bv (ci X) V {S with ni:=fun _=>false} xx hC fuel b hk
  refine .inr ⟨hh,caps,e,ch,bh,fun c hP B a w g D Q hs c9 hl=>wp_seq (wp_region ?_)⟩
  have cu:ops.size=2:=by have:=congrArg EO J;omega
  have h0:ops[0]? =some o:=by rw [<-Array.getElem?_toList,J];rfl
  have h1:ops[1]? =some q:=by rw [<-Array.getElem?_toList,J];rfl
  rw [cu,show BT 2=[0,1] from rfl]
  simp only [wpOps,h0,h1]
  rw [if_pos (by simp [Region.wanted,b5])]
  refine .inl (oi hI hS hP o a w σ g D .done b7 [] gp _ _ (by grind) hs bf ⟨fun _ a2 W g2 D2 Y I=> ?_,fun v hv=>by cases hv⟩)
  rw [if_pos (by simp [Region.wanted,ad])]
  refine .inl ?_
  have ax:=I.eqv ht
  have hR:=ax.eR n
  rw [M] at hR
  generalize cx:a2.tmps.getD n undef=ev at hR
  cases hR with
  |func _ _ _ vs us dt bn cy az=>
  have bt:vs= #[]:=by
   grind
  subst bt
  obtain ⟨qd,qo,qt,qp,qa,qg⟩:=q
  simp only at a8 bc ad
  subst a8;subst bc;subst ad
  have bz:(execOp a2.eval ⟨none,.defer cl,qt,qp,qa,none⟩).run P W= .ok (.defer {target:= .fn (.func hh) us,args:= #[]}) W:=by
   have dd:a2.eval (.tmp n)= .func (.func hh) #[] us:=cx
   simp_all [execOp,resolve,Deferred.ofValue]
  unfold Oper.wp
  rw [bz,Oper.upon_defer]
  have L: ∀id∈PV.idsL caps,1000000<=id/\ ∃b,g2.μ id=some b:=by
   intro id F
   obtain ⟨p,b0,b1⟩: ∃p∈caps,id∈p.ids:=by
    clear hl bh z hk cy az bn M hp h step
    induction caps<;>grind [PV.idsL]
   have a6:=xm.1 hp p b0
   obtain ⟨j,hj⟩:=List.mem_iff_getElem?.1 b0
   have hr:=az j p hj
   cases p with
   |ptr id' off=>
    simp only [PV.ids,List.mem_singleton] at b1
    subst b1
    refine ⟨by simp_all [PV.pinned], ?_⟩
    generalize us.getD j undef=uv at hr
    cases hr<;>grind
   |_=>cases a6
  have O:c.nt<=1000000:=by omega
  refine oX (S:={S with ni:=fun _=>false}) hm (oi hI hS fun d hd=>by cases hd) (c:=c.refix g2.μ (PV.idsL caps) O fun id F=>(L id F).1) B z _ W g2 D2 Q ax.refix ?_
  have dx:=hl us (c.refix g2.μ (PV.idsL caps) O fun id F=>(L id F).1) (fun w0 N0 n m ν δ ο hc=>xE.refix ax (fun id F=>(L id F).2) hc) rfl ⟨bn,fun j p hj=> ?_⟩
  ·grind [Act.put]
  ·have a6:=xm.1 hp p (Im hj)
   have hr:=az j p hj
   cases p with
   |ptr id off=>
    have dy:id∈PV.idsL caps:=fj hj id (by simp [PV.ids])
    generalize us.getD j undef=uv at hr
    cases hr<;>grind [Ctx.refix]
   |_=>cases a6
 |_=>intro σ A E x h;cases h
end
section
variable {U:sW} {V:Env U} {P:Program} {X:qx V P}
theorem Fe {fn:Func} {w0:World} {N0:aN} {n m:Nat} {ν:Nat->Nat} {δ:Nat->Option Nat} {M:Ctx} {ο:Nat->Array Value} (hc:xE M w0 N0 n m ν δ ο) (O: ∀j b,δ j=some b->j<m) {v:PV U} {u u':FrameMode} (hv:BX v u u')
  {E:FuncId} {caps:List (PV U)} {us:Array Value} (T:Ca M caps us) {τ W:St U} {r:MR U} {Y:St U} {gp a7:List Loc} {K:cj U} {pz:Bool} {hand:List Bool} {out:Out U} {a8:St U}
  (ad:(iq (PV.idsL caps) fun _=>iV (fun _=>0) (fun _=>[]) [] none (.func E [] caps) []).Rel (jS X (jM P u u')) τ [] r Y gp) (hr:r= .done) (ht:Y.eqv W) (ao:(jC V pz hand fn.results.toList n).Rel K W [] (.out out) a8 a7)
  {a:Act} {w:World} {g:Gh U} {D:Nat->Option Nat} (hs:qw X M a.tmps w τ g D):
  Leaves P fn a.tmps (BW X w0 N0 ν δ ο n m out) [{target:= .fn (.func E) us,args:= #[]}] u w:=by
 obtain ⟨bs,b0,F,I,bc⟩:=EB _ ad
 have hR:po X w (M.N g D) g (.func (.func E) #[] us) (.func E [] caps):=by
  refine .func E [] caps #[] us rfl T.1 (by simp) fun j p hp=> ?_
  obtain ⟨id,off,b,rfl,B,bf⟩:=T.2 j p hp
  rw [bf]
  refine .ptr id off b ?_
  have ax:id∈PV.idsL caps:=fj hp id (by simp [PV.ids])
  rw [<-I] at ax
  obtain ⟨x,hx,rfl⟩:=wD.1 ax
  obtain ⟨k,hk,_⟩:=hs.boxes x.1 x.2 (bc x hx)
  rcases hs.fix _ _ hk with h1|⟨h1,_⟩
  ·rw [B] at h1;injection h1 with h1;rw [h1];exact hk
  ·rw [B] at h1;cases h1
 obtain ⟨f,a0s,b1,bh,⟨b2,bn,q,z⟩,J⟩:=Jv (X:=X) (c:=M) (a:=a) (dst:=none) (o:=⟨none,.move (.const undef),0, "",#[],none⟩) (CP:=jM P u u') (xs:= #[])
  (next:=fun a2 L=>Leaves P fn a2.tmps (BW X w0 N0 ν δ ο n m out) [] .returning L) (Q:=fun _ _ _=>False)
  (fun {f vs w R R'} h hm=>CallsD.mono h fun e u2 L ⟨h1,h2⟩=>⟨h1,hm e L h2⟩) hs hR rfl (by simp) rfl rfl F
  ⟨fun _ a2 L g2 D2 _ bt=>by
   obtain ⟨v,h1,h2⟩:=rz hc O (bt.eqv ht) ao
   exact ⟨v,h1,h2⟩,fun v hv=>by rw [hr] at hv;cases hv⟩
 injection bh with e1 e2 e3
 injection e1 with e1
 subst e1;subst e2;subst e3
 have bz:u≠ .run:=by cases hv<;>simp
 refine leaves_cons bz (f:=E) (args:= #[]++us) (by simp only [invoke];exact QP bn q z _ w) ?_
 have A:CallsD P E (#[]++us) u w fun e u2 w'=>u2=u'/\(match e,w' with
    | .returned v,az=>Leaves P fn (a.put none v).tmps (BW X w0 N0 ν δ ο n m out) [] .returning az
    | .panicked chain,az=>False
    | .outgrown,_=>LetsOut (fun _ _ _=>False)):=by
  have:=J
  simp only [Array.append_empty] at this
  exact this.mono fun e u2 L ⟨h1,h2⟩=>⟨h1,by cases e<;>exact h2⟩
 refine A.mono fun e u2 L ⟨h1,h2⟩=> ?_
 subst h1
 cases e with
 |returned rv=>
  simp only [Act.put] at h2
  have a6:settle u2= .returning:=by cases hv<;>rfl
  simp only [a6]
  exact h2
 |panicked chain=>exact h2.elim
 |outgrown=>obtain ⟨_,_,h⟩:=h2;exact h.elim
theorem aix (hm:P.follows .mixedOrders=true) (hI:Se X) {S:sY U} (hS:S.nj=none) {R:Type} {C:sN U R} (hC:C.Tells (ci X)) {Cd:PV U->sN U R} (a7: ∀v u u',BX v u u'->(Cd v).Tells (jS X (jM P u u')))
  {f:FuncId} {fn:Func} (hf:P.funcs[f]? =some fn)
  (T:(fn.name== "runtime.NumGoroutine")=false) (A:fn.body.isNone=false) (ax:fn.ntmps=S.nt) (E:S.nt<=1000000) {args:List (PV U)} {boxes:List (py U)} (W:args.length<=S.nt) (a6:boxes.length<=1000000)
  {xx:Nat->Option B1} {fuel:Nat} {pz:Bool} {hand:List Bool} {κ:Out U->Option R} {x:R} (h:G4 V S C xx fuel Cd pz hand fn args boxes κ=some x): ∃out,κ out=some x/\ci X f args boxes out:=by
 obtain ⟨code,I⟩: ∃code,fn.body=some code:=by
  cases hb:fn.body with
  |none=>rw [hb] at A;cases A
  |some code=>exact ⟨code,rfl⟩
 unfold G4 Md at h
 rw [I] at h
 have ad: ∀ {w:World} {vs:Array Value} {N0:aN} {ν:Nat->Nat} {δ:Nat->Option Nat} {ο:Nat->Array Value} (q:uL X w vs N0 ν δ ο args boxes),yt S (gm w N0 boxes.length args.length ν δ ο q.oz S.nt E q.iP X.jY q.gF):=by
  intro w vs N0 ν δ ο q d _
  simp only [gm]
  rw [if_neg (by omega)]
 rcases aiy (X:=X) hm hI hS E hC code h with ⟨e,τ,he,hk,hB⟩|⟨hh,caps,e,τ,hk,hB⟩
 ·have key: ∀ {out:Out U},(∀ (w:World) (vs:Array Value) (N0:aN) (ν:Nat->Nat) (δ:Nat->Option Nat) (ο:Nat->Array Value) (q:uL X w vs N0 ν δ ο args boxes),
    uK X (gm w N0 boxes.length args.length ν δ ο q.oz S.nt E q.iP X.jY q.gF) [] e τ (bodyPost P fn (BW X w N0 ν δ ο boxes.length args.length out)))->ci X f args boxes out:=by
   intro out hl
   refine ⟨⟨fn,hf,T,A⟩,fun w vs N0 ν δ ο q=>Calls.mono (calls_of_wp (R:=BW X w N0 ν δ ο boxes.length args.length out) hf I ?_) fun e w h=>BW.full h⟩
   have hs:=BO q W E
   rw [ax]
   exact hB _ (ad q) rfl _ w _ _ _ hs (hl w vs N0 ν δ ο q)
  cases e with
  |exit id=>cases hk
  |normal=>exact absurd rfl he
  |ret=>
   obtain ⟨r,B,z,gp,hr,ht,F⟩:=LZ hC _ hk (St.eqv.refl τ)
   cases r with
   |out o=>
    refine ⟨o,F,key fun w vs N0 ν δ ο q a' w' g' D' hd hs=> ?_⟩
    obtain ⟨v,h1,h2⟩:=rz lc q.hJ hs hr
    exact ⟨hd,v,h1,h2⟩
   |_=>cases F
  |panic v=>
   obtain ⟨r,B,z,gp,hr,ht,F⟩:=LZ hC _ hk (St.eqv.refl τ)
   cases r with
   |out o=>
    refine ⟨o,F,key fun w vs N0 ν δ ο q a' w' g' D' hd hs val Y=> ?_⟩
    exact ⟨hd,F0 lc q.hJ hs Y hr⟩
   |_=>cases F
 ·have key: ∀ {out:Out U},(∀ (w:World) (vs:Array Value) (N0:aN) (ν:Nat->Nat) (δ:Nat->Option Nat) (ο:Nat->Array Value) (q:uL X w vs N0 ν δ ο args boxes) (us:Array Value) (c':Ctx),xE c' w N0 boxes.length args.length ν δ ο->Ca c' caps us->
    uK X c' [{target:= .fn (.func hh) us,args:= #[]}] e τ (bodyPostD P fn (BW X w N0 ν δ ο boxes.length args.length out)))->ci X f args boxes out:=by
   intro out hl
   refine ⟨⟨fn,hf,T,A⟩,fun w vs N0 ν δ ο q=>Calls.mono (calls_of_wp_defers (R:=BW X w N0 ν δ ο boxes.length args.length out) hf I ?_) fun e w h=>BW.full h⟩
   have hs:=BO q W E
   rw [ax]
   exact hB _ (ad q) rfl _ w _ _ _ hs rfl fun us c' J _ L=>hl w vs N0 ν δ ο q us c' (J _ _ _ _ _ _ _ lc) L
  have fin: ∀ {v:PV U} {u u':FrameMode},BX v u u'->(iq (PV.idsL caps) fun _=>iV (fun _=>0) (fun _=>[]) [] none (.func hh [] caps) []).cps (Cd v) τ [] (fun| .done,σ',_=>(jC V pz hand fn.results.toList boxes.length).cps C σ' [] (Go.Proofs.YtfffkmcpnggkdaaGreatDoor.PI.fin κ)|_,_,_=>none)=some x->
    ∃ (out:Out U) (r:MR U) (B z M:St U) (gp O:List Loc),κ out=some x/\(iq (PV.idsL caps) fun _=>iV (fun _=>0) (fun _=>[]) [] none (.func hh [] caps) []).Rel (jS X (jM P u u')) τ [] r B gp/\r= .done/\B.eqv z/\(jC V pz hand fn.results.toList boxes.length).Rel (ci X) z [] (.out out) M O:=by
   intro v u u' hv hk
   obtain ⟨r,B,z,gp,hr,ht,ao⟩:=LZ (a7 v u u' hv) _ hk (St.eqv.refl τ)
   cases r with
   |raise v=>cases ao
   |out o=>cases ao
   |done=>
    obtain ⟨r',M,bc,O,a8,bf,az⟩:=LZ hC _ ao (St.eqv.refl z)
    cases r' with
    |out o=>exact ⟨o,.done,B,z,M,gp,O,az,hr,rfl,ht,a8⟩
    |_=>cases az
  cases e with
  |exit id=>cases hk
  |normal=>
   obtain ⟨out,r,B,z,M,gp,O,h1,h2,h3,h4,h5⟩:=fin .nil hk
   refine ⟨out,h1,key fun w vs N0 ν δ ο q us c' J L a' w' g' D' hd hs=> ?_⟩
   simp only [bodyPostD,hd]
   exact Fe J q.hJ .nil L h2 h3 h4 h5 hs
  |ret=>
   obtain ⟨out,r,B,z,M,gp,O,h1,h2,h3,h4,h5⟩:=fin .nil hk
   refine ⟨out,h1,key fun w vs N0 ν δ ο q us c' J L a' w' g' D' hd hs=> ?_⟩
   simp only [bodyPostD,hd]
   exact Fe J q.hJ .nil L h2 h3 h4 h5 hs
  |panic v=>
   simp only [kD] at hk
   split at hk
   case h_2=>cases hk
   rename_i t k n'
   obtain ⟨out,r,B,z,M,gp,O,h1,h2,h3,h4,h5⟩:=fin (.err t k n') hk
   refine ⟨out,h1,key fun w vs N0 ν δ ο q us c' J L a' w' g' D' hd hs val Y=> ?_⟩
   simp only [bodyPostD,hd]
   cases Y with
   |iface _ u _ hu=>cases hu;exact Fe J q.hJ (.err t k n') L h2 h3 h4 h5 hs
end
end PI
end Go.Proofs.YtfffkmcpnggkdaaGreatDoor
