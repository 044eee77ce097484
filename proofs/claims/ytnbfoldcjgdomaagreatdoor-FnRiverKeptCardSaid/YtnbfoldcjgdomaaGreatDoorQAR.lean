/- Part 8. -/
import Derived.Test.YtnbfoldcjgdomaaGreatDoorQAQ
import Derived.Lib.ItoaMem
open BitVec renaming eq_of_toNat_eq->oM,ofInt->FG,toNat_ofInt->Qu
open Bool renaming and_eq_true->AD,and_false->Ba,and_self->EB,and_true->LC,eq_iff_iff->MK,false->A0,false_and->AL,false_ne_true->CW,false_or->Bk,not_eq_true'->C6,not_false->AH,not_true->AB,or_eq_false_iff->NG,or_eq_true->Bw,or_false->Ed,or_self->GU,or_true->DS,true->Y,true_and->AS,true_or->Bs
open ByteArray renaming data_extract->Zw
open Classical renaming byContradiction->aE7,choose->NH,choose_spec->Iv
open Decidable renaming decide->U
open Eq renaming trans->KN
open Go.IntKind renaming wrap->aG
open Go.Lib renaming cut->FV,decDigits->o7,index_one->U4,itoa->B6,itoa_neg->oE,splitB->Iy,splitK->GX
open Int renaming emod_eq_of_lt->nb,eq_ofNat_of_zero_le->HS,le_refl->Cz,mul_comm->R4,tdiv->B1,tdiv_eq_ediv_of_nonneg->HQ,tmod->BL,tmod_eq_emod_of_nonneg->L9,toNat->AM,toNat_natCast->BV
open List renaming all_eq_true->Cy,any_eq_true->HR,append_assoc->C5,append_cancel_left->aEG,append_nil->CP,concat_eq_append->aEN,cons_append->LB,count_cons_self->aEB,drop->Br,dropWhile_cons->ni,drop_append_of_le_length->Tu,drop_drop->J0,drop_eq_getElem_cons->Tz,drop_eq_nil_of_le->MN,drop_left'->Qt,drop_zero->Iu,eq_nil_of_length_eq_zero->Dz,eq_nil_or_concat->aEM,filter_append->RA,filter_cons->KG,filter_nil->aJ,flatMap_append->o9,foldlM_cons->UA,foldl_cons->Dy,foldl_nil->KK,getD_eq_getElem?_getD->BA,getElem?_append_left->IP,getElem?_append_right->FU,getElem?_drop->Hr,getElem?_eq_getElem->Ap,getElem?_eq_none->Ht,getElem?_eq_some_iff->BO,getElem?_map->DD,getElem?_range->Gu,getElem?_replicate->aA,getElem?_set->P4,getElem_mem->CU,getElem_of_mem->Cq,length->Jb,length->j8,length_append->Aw,length_cons->Bf,length_drop->EJ,length_eq_one_iff->aEI,length_filter_le->Ix,length_map->Da,length_nil->CK,length_set->Ga,length_take->Di,length_zipWith->nj,map_append->Ec,map_congr_left->Gt,map_cons->DU,map_id->aE,map_map->IT,map_nil->Jc,mem_append->BM,mem_append_left->Bv,mem_cons->Bl,mem_cons_of_mem->Aj,mem_cons_self->Ao,mem_filter->FH,mem_map->By,mem_of_getElem?->Cn,mem_of_mem_drop->KE,mem_of_mem_take->IL,mem_range->Cw,mem_singleton->C9,mem_singleton_self->P9,nil_append->Eb,range->B8,range_succ->IK,replicate->BS,replicate_succ->aEE,take->BR,takeWhile_append_dropWhile->Zv,takeWhile_cons->Qy,takeWhile_sublist->aEH,take_add_one->Iw,take_append_drop->JV,take_left'->P8,take_length->E0,take_of_length_le->KH,take_take->aL,zipWith_cons_cons->P3
open List.cons renaming injEq->ML
open Nat renaming add_assoc->DE,add_comm->NM,add_zero->Hu,eq_zero_or_pos->UE,le_refl->Au,le_trans->CZ,lt_of_lt_of_le->Gq,lt_or_ge->GW,lt_trans->aC,lt_trichotomy->IM,mod_eq_of_lt->P6,mod_lt->PC,pow_succ->oC,sub_self->PE,sub_zero->Jd,zero_add->DN,zero_le->D5
open Ne renaming symm->LD
open Option renaming bind_eq_some_iff->Ai,bind_some->A6,filter_eq_some_iff->JX,getD_some->D4,isSome_some->DC,none->G,some->I
open Option.some renaming injEq->Bt
open Or renaming inl->NO,inr->NQ
open Prod.mk renaming injEq->CQ
open UInt8 renaming ofNat->KI,toNat_inj->Qs
set_option linter.all false
noncomputable section
namespace Go.VS
open Go
section
variable {σ ρ β γ:Type} {b:σ->Option (σ ⊕ ρ)}
def BF{x:σ}{y:ρ}(h:b x=I (.inr y)):AT b x=I y:=aEO (n:=1)<|by simp[Hj,h]
def As{x x':σ}{y:ρ}(h:b x=I (.inl x'))(hy:AT b x'=I y):AT b x=I y:=by
 obtain⟨n,hn⟩:=aFp hy;exact aEO (n:=n+1)<|by simp[Hj,h,hn]
def CG(st:Nat->σ)(n:Nat){y:ρ}(h:∀i,i<n->b (st i)=I (.inl<|st<|i+1))(hn:b (st n)=I (.inr y)):AT b (st 0)=I y:=by
 have:∀k,k<=n->AT b (st<|n - k)=I y:=by
  intro k
  induction k with
  | zero=>intro _;exact BF hn
  | succ k ih=>
   intro hk;refine As (h (n - (k+1)) J) ?_;rw[show n - (k+1)+1=n - k by omega];exact ih J
 have:=this n<|Au _;rwa[PE]at this
def axf(Inv:Nat->σ->Prop)(Nt:ρ->Prop)(n:Nat)(qn:∀i s,i<n->Inv i s->(∃s',b s=I (.inl s')/\Inv (i+1) s')\/(∃r,b s=I (.inr r)/\Nt r))
  (nP:∀s,Inv n s->∃r,b s=I (.inr r)/\Nt r){s0:σ}(h0:Inv 0 s0):∃r,AT b s0=I r/\Nt r:=by
 have:∀k,k<=n->∀s,Inv (n - k) s->∃r,AT b s=I r/\Nt r:=by
  intro k
  induction k with
  | zero=>
   intro _ s hs;obtain⟨r,h1,h2⟩:=nP s hs;exact⟨r,BF h1,h2⟩
  | succ k ih=>
   intro hk s hs;obtain⟨s',h1,h2⟩|⟨r,h1,h2⟩:=qn _ s J hs
   .rw[show n - (k+1)+1=n - k by omega]at h2;obtain⟨r,h3,h4⟩:=ih J s' h2;exact⟨r,As h1 h3,h4⟩
   .exact⟨r,BF h1,h2⟩
 exact this n (Au _) s0<|by rwa[PE]
end
def Gn{β:Type}(q:Nat->Option β):Nat->Nat->Option β
 | 0,_=>G
 | k+1,i=>match q i with
  | some r=>I r
  | none=>Gn q k (i+1)
section
variable {σ β γ:Type} {b:σ->Option (σ ⊕ (β ⊕ γ))}
def aFq(st:Nat->σ)(n:Nat)(q:Nat->Option β)(fin:γ)
  (h:∀i,i<n->b (st i)=I (match q i with|none=> .inl (st<|i+1)|some r=> .inr<|.inl r))
  (hn:b (st n)=I (.inr<|.inr fin)):AT b (st 0)=I (match Gn q n 0 with|none=> .inr fin|some r=> .inl r):=by
 have:∀k,k<=n->AT b (st<|n - k)=I (match Gn q k (n - k) with|none=> .inr fin|some r=> .inl r):=by
  intro k
  induction k with
  | zero=>intro _;exact BF hn
  | succ k ih=>
   intro hk;have h1:=h (n - (k+1)) J;unfold Gn;cases hq:q (n - (k+1)) with
   | some r=>rw[hq]at h1;exact BF h1
   | none=>
    rw[hq]at h1;refine As h1 ?_;rw[show n - (k+1)+1=n - k by omega];exact ih J
 have:=this n<|Au _;rwa[PE]at this
def Lt(p:Nat->Bool):Nat->Nat->Bool
 | 0,_=>Y
 | k+1,i=>p i&&Lt p k (i+1)
def An(n:Nat)(p:Nat->Bool):Bool:=Lt p n 0
def aG6{p:Nat->Bool}{r:β}:∀(k i:Nat),Gn (λi=>if p i then G else I r) k i=if Lt p k i then G else I r
 | 0,_=>rfl
 | k+1,i=>by
  unfold Gn Lt;cases hp:p i
  .simp
  .simpa using aG6 k<|i+1
def Ck(st:Nat->σ)(n:Nat)(p:Nat->Bool)(r:β)(fin:γ)
  (h:∀i,i<n->b (st i)=I (if p i then .inl (st<|i+1) else .inr (.inl r)))
  (hn:b (st n)=I (.inr<|.inr fin)):AT b (st 0)=I (if An n p then .inr fin else .inl r):=by
 rw[aFq st n (λi=>if p i then G else I r) fin (λi hi=>by rw[h i hi];cases p i<;>rfl) hn,aG6,An];cases Lt p n 0<;>rfl
def G4(n:Nat)(p:Nat->Bool):Int:=(Gn (λi=>if p i then I (i:Int) else G) n 0).getD (-1)
def aG5{p:Nat->Bool}{f:Int->β}:∀(k i:Nat),Gn (λi=>if p i then I (f (i:Int)) else G) k i=(Gn (λi=>if p i then I (i:Int) else G) k i).map f
 | 0,_=>rfl
 | k+1,i=>by
  unfold Gn;cases hp:p i
  .simpa using aG5 k (i+1)
  .simp
def mF{q:Nat->Option β}{r:β}:∀(k i:Nat),Gn q k i=I r->∃j,i<=j/\j<i+k/\q j=I r/\ ∀l,i<=l->l<j->q l=G
 | 0,_,h=>by cases h
 | k+1,i,h=>by
  unfold Gn at h;split at h
  .rename_i r' hr;cases h;exact⟨i,Au _,J,hr,λl h1 h2=>by omega⟩
  .rename_i hr;obtain⟨j,h1,h2,h3,h4⟩:=mF k (i+1) h;exact⟨j,J,J,h3,λl h5 h6=>by
    obtain h7|h7:=GW i l
    .exact h4 l h7 h6
    .rw[show l=i by omega];exact hr⟩
def aFB{q:Nat->Option β}:∀(k i:Nat),Gn q k i=G->∀l,i<=l->l<i+k->q l=G
 | 0,_,_,l,h1,h2=>J
 | k+1,i,h,l,h1,h2=>by
  unfold Gn at h;split at h
  .cases h
  .rename_i hr;obtain h7|h7:=GW i l
   .exact aFB k (i+1) h l h7 J
   .rw[show l=i by omega];exact hr
def GD(n:Nat)(p:Nat->Bool):(G4 n p= -1/\ ∀i,i<n->p i=A0)\/ ∃i:Nat,G4 n p=i/\i<n/\p i=Y/\ ∀l,l<i->p l=A0:=by
 unfold G4;cases h:Gn (λi=>if p i then I (i:Int) else G) n 0 with
 | none=>
  refine .inl ⟨rfl,λi hi=> ?_⟩;have:=aFB n 0 h i (D5 _) J;cases hp:p i<;>simp[hp]at this ⊢
 | some r=>
  obtain⟨j,h1,h2,h3,h4⟩:=mF n 0 h;refine .inr ⟨j, ?_,J, ?_,λl hl=> ?_⟩
  .cases hp:p j<;>simp[hp]at h3;simp[h3]
  .cases hp:p j<;>simp[hp]at h3 ⊢
  .have:=h4 l (D5 _) hl;cases hp:p l<;>simp[hp]at this ⊢
def QH(st:Nat->σ)(n:Nat)(p:Nat->Bool)(f:Int->β)(fin:γ)
  (h:∀i,i<n->b (st i)=I (if p i then .inr (.inl<|f (i:Int)) else .inl (st<|i+1)))
  (hn:b (st n)=I (.inr<|.inr fin)):AT b (st 0)=I (if G4 n p<0 then .inr fin else .inl (f<|G4 n p)):=by
 rw[aFq st n (λi=>if p i then I (f (i:Int)) else G) fin (λi hi=>by rw[h i hi];cases p i<;>rfl) hn,aG5];obtain⟨h1,_⟩|⟨i,h1,_⟩:=GD n p
 .rw[h1];unfold G4 at h1;cases h2:Gn (λi=>if p i then I (i:Int) else G) n 0 with
  | none=>simp
  | some r=>
   obtain⟨j,_,_,h3,_⟩:=mF n 0 h2;cases hp:p j<;>simp[hp]at h3;rw[h2]at h1;simp at h1;omega
 .rw[h1];unfold G4 at h1;cases h2:Gn (λi=>if p i then I (i:Int) else G) n 0 with
  | none=>rw[h2]at h1;simp at h1
  | some r=>
   rw[h2]at h1;simp at h1;subst h1;simp
end
def aD3{p:Nat->Bool}:∀(k i:Nat),Lt p k i=Y↔ ∀j,i<=j->j<i+k->p j=Y
 | 0,_=>by simp only[Lt,true_iff];intro j h1 h2;omega
 | k+1,i=>by
  unfold Lt;rw[AD,aD3 k<|i+1];constructor
  .rintro⟨h1,h2⟩ j h3 h4;obtain h7|h7:=GW i j
   .exact h2 j h7 J
   .rw[show j=i by omega];exact h1
  .intro h;exact⟨h i (Au _) J,λj h1 h2=>h j J J⟩
def CA{n:Nat}{p:Nat->Bool}:An n p=Y↔ ∀i,i<n->p i=Y:=by
 unfold An;rw[aD3];exact⟨λh i hi=>h i (D5 _) J,λh j _ h2=>h j J⟩
def CD{A B7 Ω:Type}{f:A->Option Ω}{g:B7->Option Ω}{y:B7}:AN (I<|.inr y) f g=g y:=rfl
def Fu{A B7 Ω:Type}{f:A->Option Ω}{g:B7->Option Ω}{y:A}:AN (I<|.inl y) f g=f y:=rfl
def Bg{X Ω:Type}{f:X->Option Ω}{y:X}:BT f (I<|.inr y)=f y:=rfl
def ON{X Ω:Type}{f:X->Option Ω}{y:Ω}:BT f (I<|.inl y)=I y:=rfl
def AZ{n:Int}(h0: -9223372036854775808<=n)(h1:n<=9223372036854775807):w64 n=n:=by
 unfold w64;rw[IntKind.wrap_i64];omega
def N5(n:Int):w8 n=n % 256:=by
 unfold w8 aG;simp[IntKind.signed,IntKind.bits]
def B2{i n:Nat}(h:i<n)(hn:n<=9223372036854775807):w64 ((i:Int)+1)=((i+1:Nat):Int):=by
 rw[AZ J J];omega
def Ov{α:Type}(d:α)(xs:List α)(i:Nat):rd d xs (i:Int)=xs.getD i d:=rfl
def axg(i n:Nat):inb (i:Int) n=U (i<n):=by
 unfold inb;by_cases h:i<n
 .simp[h]
 .simp[h]
def AR{i n:Nat}(h:i<n):inb (i:Int) n=Y:=by rw[axg];simpa using h
abbrev L(s:A1):List UInt8:=s.data.toList
def Az(s:A1):(L s).length=s.size:=rfl
def G5{s t:A1}(h:L s=L t):s=t:=by
 cases s;cases t;simp[L]at h;exact congrArg _ h
def GP(s t:A1):L (s++t)=L s++L t:=by simp[L,ByteArray.data_append]
def EE(s:A1)(a b:Nat):L (s.extract a b)=((L s).drop a).take (b - a):=by
 simp[L,Zw,Array.toList_extract,List.extract_eq_take_drop]
def C2(s t:A1):(s++t).size=s.size+t.size:=ByteArray.size_append ..
def L_B(l:List UInt8):L (B l)=l:=rfl
def BQ(l:List UInt8):(B l).size=l.length:=rfl
def qJ(l:List UInt8):L ⟨l.toArray⟩=l:=rfl
def K0(s:A1)(i:Nat):bt s (i:Int)=(((L s).getD i 0).toNat:Int):=rfl
def ayz(s:A1)(i:Int):0<=bt s i:=by unfold bt;omega
def az0(s:A1)(i:Int):bt s i<=255:=by
 unfold bt;have:=(s.data.toList.getD i.toNat 0).toNat_lt;omega
end Go.VS
namespace Go.VS
open Go
def awV(m:AQ):Prop:=m.da.size<=1048576
def Ou(h:AG):Prop:=h.got.length<=1048576/\ ∀m∈h.got,awV m
def FK(k:A7):Prop:=k.log.size<=1048576/\k.AJ.length<=1048576/\ ∀h∈k.AJ,Ou h
def aGS(p:AK):Prop:=p.data.size<=1048576
def GJ(n:A3):Prop:=n.tx.size<=1048576
def JF{α:Type}{l:List α}{i:Nat}{x d:α}(h:l[i]? =I x):l.getD i d=x:=by simp[h]
def B5{i n:Nat}(h:i<n):U ((i:Int)<(n:Int))=Y:=by simpa using h
structure Gx (ks:List A7) (ls:List Bool) (ra:List AK) (se go:List A3):Prop where
 kl:ks.length<=1048576
 k:∀x∈ks,FK x
 l:ls.length<=1048576
 rl:ra.length<=1048576
 r:∀x∈ra,aGS x
 sl:se.length<=1048576
 s:∀x∈se,GJ x
 gl:go.length<=1048576
 g:∀x∈go,GJ x
@[simp] theorem Hb (q:Bool):Ag A0 q=Y:=by cases q<;>rfl
@[simp] theorem Ie (q:Bool):Ag Y q=q:=by cases q<;>rfl
def tf(b:Bool):b=Y\/b=A0:=by cases b<;>simp
def inB(n lo hi:Int):Bool:=U (lo<=n)&&U (n<=hi)
def Aa{n lo hi:Int}:inB n lo hi=Y↔lo<=n/\n<=hi:=by simp[inB]
abbrev isN(n:Int):Bool:=inB n 0 3
@[simp] theorem EO {n lo hi:Int} :C8 (n,lo,hi,())=I ((inB n lo hi,()),()):=rfl
@[simp] theorem I3 {n lo hi:Int} :DF (n,lo,hi,())=I ((inB n lo hi,()),()):=rfl
@[simp] theorem Jr {n:Int} :FX (n,())=I ((isN n,()),()):=rfl
@[simp] theorem Jp {n:Int} :FW (n,())=I ((isN n,()),()):=rfl
abbrev tin(s:A1):Bool:=An s.size λi=>inB (bt s i) 32 126
def LG(s:A1):Bool:=inB s.size 1 24&&tin s
def aak{s:A1}{i:Int}:w64 (bt s i)=bt s i:=AZ (by have:=ayz s i;omega) (by have:=az0 s i;omega)
@[simp] theorem ap3 {s:A1} (hs:s.size<=1048576):O9 (s,())=I ((LG s,()),()):=by
 have h:uG (s,0,())=I (if tin s then .inr (s,()) else .inl (A0,())):=
  Ck (λi=>(s,(i:Int),())) s.size (λi=>inB (bt s i) 32 126) (A0,()) (s,()) (λi hi=>by
   unfold gw;simp only[AR hi,B5 hi,aak,EO,A6,B2 hi (by omega:s.size<=9223372036854775807)];cases inB (bt s i) 32 126<;>rfl) (by simp[gw])
 unfold O9;simp only[h];unfold LG;cases tin s<;>simp[AN]
def Ax(n:A3):Bool:=isN n.fr&&(isN n.to&&(inB n.nu 1 99&&(inB n.un 1 999&&LG n.tx)))
@[simp] theorem Wm {fr nu tt un:Int} {tx:A1} (hs:tx.size<=1048576):OB ((fr,nu,tt,un,tx,()),())=I ((Ax ⟨fr,nu,tt,un,tx⟩,()),()):=by
 unfold OB Ax;simp only[ap3 hs,EO,Jr,A6];cases isN fr<;>cases isN tt<;>cases inB nu 1 99<;>cases inB un 1 999<;>simp[Ag]
@[simp] theorem Wr {fr nu tt un:Int} {tx:A1} (hs:tx.size<=1048576):O8 ((fr,nu,tt,un,tx,()),())=I ((Ax ⟨fr,nu,tt,un,tx⟩,()),()):=by
 have h:tl ((fr,nu,tt,un,tx,()),0,())=I (if tin tx then .inr () else .inl (A0,())):=
  Ck (λi=>((fr,nu,tt,un,tx,()),(i:Int),())) tx.size (λi=>inB (bt tx i) 32 126) (A0,()) () (λi hi=>by
   unfold gI;simp only[AR hi,B5 hi,B2 hi (by omega:tx.size<=9223372036854775807)];unfold inB;by_cases h1:bt tx i<32<;>by_cases h2:126<bt tx i<;>simp[h1,h2,Ag]<;>omega) (by simp[gI])
 unfold O8 Ax;simp only[h,I3,Jp,A6];unfold LG;by_cases h1:(tx.size:Int)<1<;>by_cases h2:(24:Int)<tx.size<;>cases isN fr<;>cases isN tt<;>cases inB nu 1 99<;>cases inB un 1 999<;>cases tin tx<;>simp[h1,h2,AN,inB]<;>omega
def F2(m:Mark):Bool:=isN m.mf&&(inB m.mn 1 99&&inB m.mu 1 999)
@[simp] theorem ap5 {a b c:Int} :iT ((a,b,c,()),())=I ((F2 ⟨a,b,c⟩,()),()):=by
 unfold iT F2;simp only[EO,Jr,A6];cases isN a<;>cases inB b 1 99<;>simp[Ag]
def bef(a b c d:Int):Bool:=U (a<c)||(U (a=c)&&U (b<d))
@[simp] theorem Se {a b c d:Int} :Lf (a,b,c,d,())=I ((bef a b c d,()),()):=rfl
@[simp] theorem Xc {a b c d:Int} :Mp (a,b,c,d,())=I ((bef a b c d,()),()):=rfl
def nA(l:List A3)(i:Nat):A3:=l.getD i<|dfl .note
def mA(l:List Mark)(i:Nat):Mark:=l.getD i<|dfl .mark
def Co(l:List A3)(i:Nat): @rd A3 y5 l (i:Int)=nA l i:=rfl
def FA(l:List Mark)(i:Nat): @rd Mark aIo l (i:Int)=mA l i:=rfl
def DQ(l:List A3):Bool:=An l.length λi=>Ax (nA l i)&&(U (i=0)||bef (nA l<|i - 1).fr (nA l<|i - 1).nu (nA l i).fr (nA l i).nu)
def FL(l:List Mark):Bool:=An l.length λi=>F2 (mA l i)&&(U (i=0)||bef (mA l<|i - 1).mf (mA l<|i - 1).mn (mA l i).mf (mA l i).mn)
def UY{l:List A3}(h:∀x∈l,GJ x)(i:Nat):(nA l i).tx.size<=1048576:=by
 unfold nA;cases hx:l[i]? with
 | none=>simp[hx,dfl];decide
 | some x=>
  have h1:x.tx.size<=1048576:=h x<|Cn hx;rw[BA,hx];exact h1
def Ym{i n:Nat}(h:i<n)(hn:n<=9223372036854775807):w64 ((i:Int) - 1)=(i:Int) - 1:=AZ J J
def aAf{l:List A3}(hl:l.length<=1048576)(h:∀x∈l,GJ x):WV (l,())=I ((DQ l,()),()):=by
 have h:sy (l,l,(j8 l:Int),0,())=I (if DQ l then .inr () else .inl (A0,())):=
  Ck (λi=>(l,l,(j8 l:Int),(i:Int),())) l.length (λi=>Ax (nA l i)&&(U (i=0)||bef (nA l<|i - 1).fr (nA l<|i - 1).nu (nA l i).fr (nA l i).nu)) (A0,()) () (λi hi=>by
   unfold fg;simp only[AR hi,B5 hi,Co,Wm<|UY h i,A6,Se,B2 hi (by omega:l.length<=9223372036854775807)];cases i with
   | zero=>obtain h1|h1:=tf (Ax<|nA l 0)<;>simp only[h1]<;>simp
   | succ j=>
    rw[Ym hi J,show((j+1:Nat):Int) - 1=(j:Int) by omega,AR (J:j<l.length)];simp only[Co];obtain h1|h1:=tf (Ax<|nA l<|j+1)<;>obtain h2|h2:=tf (bef (nA l j).fr (nA l j).nu (nA l<|j+1).fr (nA l<|j+1).nu)<;>simp only[h1,h2]<;>simp[h2]) (by simp[fg])
 unfold WV;simp only[h];cases DQ l<;>simp[AN]
def zx{l:List A3}{E4:Int}(hl:l.length<=1048576)(h:∀x∈l,GJ x):W5 (l,E4,())=I ((U ((j8 l:Int)<=E4)&&DQ l,()),()):=by
 have h:sF (l,0,())=I (if DQ l then .inr () else .inl (A0,())):=
  Ck (λi=>(l,(i:Int),())) l.length (λi=>Ax (nA l i)&&(U (i=0)||bef (nA l<|i - 1).fr (nA l<|i - 1).nu (nA l i).fr (nA l i).nu)) (A0,()) () (λi hi=>by
   unfold eL;simp only[AR hi,B5 hi,Co,Wr<|UY h i,A6,Xc,B2 hi (by omega:l.length<=9223372036854775807)];cases i with
   | zero=>obtain h1|h1:=tf (Ax<|nA l 0)<;>simp only[h1]<;>simp
   | succ j=>
    rw[Ym hi J,show((j+1:Nat):Int) - 1=(j:Int) by omega,AR (J:j<l.length)];simp only[Co];obtain h1|h1:=tf (Ax<|nA l<|j+1)<;>obtain h2|h2:=tf (bef (nA l j).fr (nA l j).nu (nA l<|j+1).fr (nA l<|j+1).nu)<;>simp only[h1,h2]<;>simp[h2]) (by simp[eL])
 unfold W5;simp only[h];by_cases hm:(j8 l:Int)<=E4
 .rw[show U (E4<(j8 l:Int))=A0 by simpa using hm];cases DQ l<;>simp[AN,hm]
 .rw[show U (E4<(j8 l:Int))=Y by simpa using hm];simp[hm]
def an2{l:List Mark}(hl:l.length<=1048576):gf (l,())=I ((FL l,()),()):=by
 have h:tC (l,l,(j8 l:Int),0,())=I (if FL l then .inr () else .inl (A0,())):=
  Ck (λi=>(l,l,(j8 l:Int),(i:Int),())) l.length (λi=>F2 (mA l i)&&(U (i=0)||bef (mA l<|i - 1).mf (mA l<|i - 1).mn (mA l i).mf (mA l i).mn)) (A0,()) () (λi hi=>by
   unfold fj;simp only[AR hi,B5 hi,FA,ap5,A6,Se,B2 hi (by omega:l.length<=9223372036854775807)];cases i with
   | zero=>obtain h1|h1:=tf (F2<|mA l 0)<;>simp only[h1]<;>simp
   | succ j=>
    rw[Ym hi J,show((j+1:Nat):Int) - 1=(j:Int) by omega,AR (J:j<l.length)];simp only[FA];obtain h1|h1:=tf (F2<|mA l<|j+1)<;>obtain h2|h2:=tf (bef (mA l j).mf (mA l j).mn (mA l<|j+1).mf (mA l<|j+1).mn)<;>simp only[h1,h2]<;>simp[h2]) (by simp[fj])
 unfold gf;simp only[h];cases FL l<;>simp[AN]
def aje{l:List Mark}(hl:l.length<=1048576):fS (l,())=I ((U ((j8 l:Int)<=12)&&FL l,()),()):=by
 have h:sG (l,0,())=I (if FL l then .inr () else .inl (A0,())):=
  Ck (λi=>(l,(i:Int),())) l.length (λi=>F2 (mA l i)&&(U (i=0)||bef (mA l<|i - 1).mf (mA l<|i - 1).mn (mA l i).mf (mA l i).mn)) (A0,()) () (λi hi=>by
   unfold eO F2;simp only[AR hi,B5 hi,FA,I3,Jp,A6,Xc,B2 hi (by omega:l.length<=9223372036854775807)];cases i with
   | zero=>obtain h1|h1:=tf (isN (mA l 0).mf)<;>obtain h2|h2:=tf (inB (mA l 0).mn 1 99)<;>obtain h3|h3:=tf (inB (mA l 0).mu 1 999)<;>simp only[h1,h2,h3]<;>simp
   | succ j=>
    rw[Ym hi J,show((j+1:Nat):Int) - 1=(j:Int) by omega,AR (J:j<l.length)];simp only[FA];obtain h1|h1:=tf (isN (mA l<|j+1).mf)<;>obtain h2|h2:=tf (inB (mA l<|j+1).mn 1 99)<;>obtain h3|h3:=tf (inB (mA l<|j+1).mu 1 999)<;>obtain h4|h4:=tf (bef (mA l j).mf (mA l j).mn (mA l<|j+1).mf (mA l<|j+1).mn)<;>simp only[h1,h2,h3]<;>simp[h4]<;>omega) (by simp[eO])
 unfold fS;simp only[h];by_cases hm:(j8 l:Int)<=12
 .rw[show U ((12:Int)<(j8 l:Int))=A0 by simpa using hm];cases FL l<;>simp[AN,hm]
 .rw[show U ((12:Int)<(j8 l:Int))=Y by simpa using hm];simp[hm]
def AY(l:List A3)(f n:Int):Int:=G4 l.length λi=>U ((nA l i).fr=f)&&U ((nA l i).nu=n)
def Bp(l:List Mark)(f n:Int):Int:=G4 l.length λi=>U ((mA l i).mf=f)&&U ((mA l i).mn=n)
def TD{n:Nat}{p:Nat->Bool}:AN (I<|if G4 n p<0 then(.inr ():(Int×D) ⊕ D) else .inl (G4 n p,())) (λy=>I ((y.1,()),())) (λ_=>I ((-1,()),()))=I ((G4 n p,()),()):=by
 obtain⟨h,_⟩|⟨i,h,_⟩:=GD n p
 .rw[h];rfl
 .rw[A9 J];rfl
def Jq{l:List A3}{f n:Int}(hl:l.length<=1048576):H5 (l,f,n,())=I ((AY l f n,()),()):=by
 have h:uI (f,n,l,(j8 l:Int),0,())=I (if AY l f n<0 then .inr () else .inl (AY l f n,())):=
  QH (λi=>(f,n,l,(j8 l:Int),(i:Int),())) l.length (λi=>U ((nA l i).fr=f)&&U ((nA l i).nu=n)) (λi=>(i,())) () (λi hi=>by
   unfold ga;simp only[AR hi,B5 hi,Co,B2 hi (by omega:l.length<=9223372036854775807)];by_cases h1:(nA l i).fr=f<;>by_cases h2:(nA l i).nu=n<;>simp[h1,h2]) (by simp[ga])
 unfold H5;simp only[h];exact TD
def Jk{l:List A3}{f n:Int}(hl:l.length<=1048576):GB (l,f,n,())=I ((AY l f n,()),()):=by
 have h:tP (l,f,n,0,())=I (if AY l f n<0 then .inr () else .inl (AY l f n,())):=
  QH (λi=>(l,f,n,(i:Int),())) l.length (λi=>U ((nA l i).fr=f)&&U ((nA l i).nu=n)) (λi=>(i,())) () (λi hi=>by
   unfold fU;simp only[AR hi,B5 hi,Co,B2 hi (by omega:l.length<=9223372036854775807)];by_cases h1:(nA l i).fr=f<;>by_cases h2:(nA l i).nu=n<;>simp[h1,h2]) (by simp[fU])
 unfold GB;simp only[h];exact TD
def Sc{l:List Mark}{f n:Int}(hl:l.length<=1048576):Ke (l,f,n,())=I ((Bp l f n,()),()):=by
 have h:uA (f,n,l,(j8 l:Int),0,())=I (if Bp l f n<0 then .inr () else .inl (Bp l f n,())):=
  QH (λi=>(f,n,l,(j8 l:Int),(i:Int),())) l.length (λi=>U ((mA l i).mf=f)&&U ((mA l i).mn=n)) (λi=>(i,())) () (λi hi=>by
   unfold gi;simp only[AR hi,B5 hi,FA,B2 hi (by omega:l.length<=9223372036854775807)];by_cases h1:(mA l i).mf=f<;>by_cases h2:(mA l i).mn=n<;>simp[h1,h2]) (by simp[gi])
 unfold Ke;simp only[h];exact TD
def SS{l:List Mark}{f n:Int}(hl:l.length<=1048576):Kg (l,f,n,())=I ((Bp l f n,()),()):=by
 have h:tO (l,f,n,0,())=I (if Bp l f n<0 then .inr () else .inl (Bp l f n,())):=
  QH (λi=>(l,f,n,(i:Int),())) l.length (λi=>U ((mA l i).mf=f)&&U ((mA l i).mn=n)) (λi=>(i,())) () (λi hi=>by
   unfold fT;simp only[AR hi,B5 hi,FA,B2 hi (by omega:l.length<=9223372036854775807)];by_cases h1:(mA l i).mf=f<;>by_cases h2:(mA l i).mn=n<;>simp[h1,h2]) (by simp[fT])
 unfold Kg;simp only[h];exact TD
def Eh(id:Int)(fr tt:Int):Bool:= !decide (id=tt)&&(inB id fr tt||inB id tt fr)
def kS{id fr nu tt un:Int}{tx:A1}:XD (id,(fr,nu,tt,un,tx,()),())=I ((Eh id fr tt,()),()):=by
 unfold XD Eh;simp only[EO];by_cases h:id=tt<;>cases inB id fr tt<;>simp[h]
def jb{id fr nu tt un:Int}{tx:A1}:iL ((fr,nu,tt,un,tx,()),id,())=I ((Eh id fr tt,()),()):=by
 unfold iL Eh inB;by_cases h1:fr<=id
 .simp only[h1,AW,A2];congr 3;rw[MK];simp;omega
 .have e:(U (tt<id)&&U (id<=fr))=(!decide (id=tt)&&(U (fr<=id)&&U (id<=tt)||decide (tt<=id)&&U (id<=fr))):=by
   rw[MK];simp only[AD,Bw,C6,decide_eq_true_eq,decide_eq_false_iff_not];omega
  rw[← e];simp[h1]
structure DV (held:List A3) (marks:List Mark) (inbox:List A3):Prop where
 hl:held.length<=1048576
 h:∀x∈held,GJ x
 ml:marks.length<=1048576
 il:inbox.length<=1048576
 i:∀x∈inbox,GJ x
def HD(id ti nx:Int)(held:List A3)(marks:List Mark)(i:Nat):Bool:= !(U ((nA held i).fr=id)&&U (nx<=(nA held i).nu))&&(U (ti<(nA held i).un)&&(Eh id (nA held i).fr (nA held i).to&&U (Bp marks (nA held i).fr (nA held i).nu<0)))
def JC(id ti nx:Int)(marks:List Mark)(i:Nat):Bool:=U (ti<(mA marks i).mu)&& !(U ((mA marks i).mf=id)&&U (nx<=(mA marks i).mn))
def Ij(id ti nx:Int)(marks:List Mark)(inbox:List A3)(i:Nat):Bool:=U ((nA inbox i).to=id)&&(!(U ((nA inbox i).fr=id)&&U (nx<=(nA inbox i).nu))&&(!decide (ti<(nA inbox i).un)||decide (0<=Bp marks (nA inbox i).fr (nA inbox i).nu)))
def Av(k:AE):Bool:=isN k.id&&(inB k.ti 0 999&&(inB k.nx 1 100&&((U ((j8 k.held:Int)<=6)&&DQ k.held)&&((U ((j8 k.marks:Int)<=12)&&FL k.marks)&&((U ((j8 k.inbox:Int)<=6)&&DQ k.inbox)&&
 (An k.held.length (HD k.id k.ti k.nx k.held k.marks)&&(An k.marks.length (JC k.id k.ti k.nx k.marks)&&An k.inbox.length (Ij k.id k.ti k.nx k.marks k.inbox))))))))
def asH(l:List Mark)(f n:Int):Bp l f n= -1\/0<=Bp l f n:=by
 obtain⟨h,_⟩|⟨i,h,_⟩:=GD l.length (λi=>U ((mA l i).mf=f)&&U ((mA l i).mn=n))
 .exact .inl h
 .exact .inr (by unfold Bp;omega)
def tfp(p:Prop):(p=True)\/(p=False):=by
 by_cases h:p
 .exact .inl (eq_true h)
 .exact .inr<|eq_false h
def sgn(n:Int):((n<0)=True/\(0<=n)=False)\/((n<0)=False/\(0<=n)=True):=by
 by_cases h:n<0
 .exact .inl ⟨eq_true h,eq_false J⟩
 .exact .inr ⟨eq_false h,eq_true J⟩
def EV(a b:Int):((a<=b)=True/\(b<a)=False)\/((a<=b)=False/\(b<a)=True):=by
 by_cases h:a<=b
 .exact .inl ⟨eq_true h,eq_false J⟩
 .exact .inr ⟨eq_false h,eq_true J⟩
def lX(l:List A3)(f n:Int):AY l f n= -1\/0<=AY l f n:=by
 obtain⟨h,_⟩|⟨i,h,_⟩:=GD l.length (λi=>U ((nA l i).fr=f)&&U ((nA l i).nu=n))
 .exact .inl h
 .exact .inr (by unfold AY;omega)
def aoE{id ti nx:Int}{held:List A3}{marks:List Mark}{inbox:List A3}(sm:DV held marks inbox):
  uS ((id,ti,nx,held,marks,inbox,()),held,(held.length:Int),0,())=I (if An held.length (HD id ti nx held marks) then .inr ((id,ti,nx,held,marks,inbox,()),()) else .inl (A0,())):=
 Ck (λi=>((id,ti,nx,held,marks,inbox,()),held,(held.length:Int),(i:Int),())) held.length (HD id ti nx held marks) (A0,()) ((id,ti,nx,held,marks,inbox,()),()) (λi hi=>by
  unfold iG HD;have hl:held.length<=9223372036854775807:=by have:=sm.hl;omega
  simp only[AR hi,B5 hi,Co,FA,Sc sm.ml,kS,A6,B2 hi hl];have h4:=sgn<|Bp marks (nA held i).fr (nA held i).nu;obtain h1|h1:=tfp ((nA held i).fr=id)<;>obtain h2|h2:=tfp (nx<=(nA held i).nu)<;>obtain h3|h3:=EV (nA held i).un ti<;>obtain h4|h4:=h4<;>obtain h5|h5:=tf (Eh id (nA held i).fr (nA held i).to)<;>simp[h1,h2,h5,h4,h3]) (by simp[iG])
def aAX{id ti nx:Int}{held:List A3}{marks:List Mark}{inbox:List A3}(sm:DV held marks inbox):
  uR ((id,ti,nx,held,marks,inbox,()),marks,(marks.length:Int),0,())=I (if An marks.length (JC id ti nx marks) then .inr ((id,ti,nx,held,marks,inbox,()),()) else .inl (A0,())):=
 Ck (λi=>((id,ti,nx,held,marks,inbox,()),marks,(marks.length:Int),(i:Int),())) marks.length (JC id ti nx marks) (A0,()) ((id,ti,nx,held,marks,inbox,()),()) (λi hi=>by
  unfold iF JC;have hl:marks.length<=9223372036854775807:=by have:=sm.ml;omega
  simp only[AR hi,B5 hi,Co,FA,Sc sm.ml,kS,A6,B2 hi hl];obtain h1|h1:=tfp ((mA marks i).mf=id)<;>obtain h2|h2:=tfp (nx<=(mA marks i).mn)<;>obtain h3|h3:=EV (mA marks i).mu ti<;>simp[h1,h2,h3]) (by simp[iF])
def aAW{id ti nx:Int}{held:List A3}{marks:List Mark}{inbox:List A3}(sm:DV held marks inbox):
  uQ ((id,ti,nx,held,marks,inbox,()),inbox,(inbox.length:Int),0,())=I (if An inbox.length (Ij id ti nx marks inbox) then .inr () else .inl (A0,())):=
 Ck (λi=>((id,ti,nx,held,marks,inbox,()),inbox,(inbox.length:Int),(i:Int),())) inbox.length (Ij id ti nx marks inbox) (A0,()) () (λi hi=>by
  unfold iE Ij;have hl:inbox.length<=9223372036854775807:=by have:=sm.il;omega
  simp only[AR hi,B5 hi,Co,FA,Sc sm.ml,kS,A6,B2 hi hl];have h4:=sgn<|Bp marks (nA inbox i).fr (nA inbox i).nu;obtain h1|h1:=tfp ((nA inbox i).fr=id)<;>obtain h2|h2:=tfp (nx<=(nA inbox i).nu)<;>obtain h3|h3:=EV (nA inbox i).un ti<;>obtain h0|h0:=tfp ((nA inbox i).to=id)<;>obtain h4|h4:=h4<;>simp[h1,h2,h0,h4,h3]) (by simp[iE])
def alC{id ti nx:Int}{held:List A3}{marks:List Mark}{inbox:List A3}(sm:DV held marks inbox):
  tu ((id,ti,nx,held,marks,inbox,()),0,())=I (if An held.length (HD id ti nx held marks) then .inr ((id,ti,nx,held,marks,inbox,()),()) else .inl (A0,())):=
 Ck (λi=>((id,ti,nx,held,marks,inbox,()),(i:Int),())) held.length (HD id ti nx held marks) (A0,()) ((id,ti,nx,held,marks,inbox,()),()) (λi hi=>by
  unfold gQ HD;have hl:held.length<=9223372036854775807:=by have:=sm.hl;omega
  simp only[AR hi,B5 hi,Co,FA,SS sm.ml,jb,A6,B2 hi hl];have h4:=sgn<|Bp marks (nA held i).fr (nA held i).nu;obtain h1|h1:=tfp ((nA held i).fr=id)<;>obtain h2|h2:=tfp (nx<=(nA held i).nu)<;>obtain h3|h3:=EV (nA held i).un ti<;>obtain h4|h4:=h4<;>obtain h5|h5:=tf (Eh id (nA held i).fr (nA held i).to)<;>simp[h1,h2,h5,h4,h3]) (by simp[gQ])
def aA7{id ti nx:Int}{held:List A3}{marks:List Mark}{inbox:List A3}(sm:DV held marks inbox):
  tr ((id,ti,nx,held,marks,inbox,()),0,())=I (if An marks.length (JC id ti nx marks) then .inr ((id,ti,nx,held,marks,inbox,()),()) else .inl (A0,())):=
 Ck (λi=>((id,ti,nx,held,marks,inbox,()),(i:Int),())) marks.length (JC id ti nx marks) (A0,()) ((id,ti,nx,held,marks,inbox,()),()) (λi hi=>by
  unfold gP JC;have hl:marks.length<=9223372036854775807:=by have:=sm.ml;omega
  simp only[AR hi,B5 hi,Co,FA,SS sm.ml,jb,A6,B2 hi hl];obtain h1|h1:=tfp ((mA marks i).mf=id)<;>obtain h2|h2:=tfp (nx<=(mA marks i).mn)<;>obtain h3|h3:=EV (mA marks i).mu ti<;>simp[h1,h2,h3]) (by simp[gP])
def aA6{id ti nx:Int}{held:List A3}{marks:List Mark}{inbox:List A3}(sm:DV held marks inbox):
  tq ((id,ti,nx,held,marks,inbox,()),0,())=I (if An inbox.length (Ij id ti nx marks inbox) then .inr () else .inl (A0,())):=
 Ck (λi=>((id,ti,nx,held,marks,inbox,()),(i:Int),())) inbox.length (Ij id ti nx marks inbox) (A0,()) () (λi hi=>by
  unfold gO Ij;have hl:inbox.length<=9223372036854775807:=by have:=sm.il;omega
  simp only[AR hi,B5 hi,Co,FA,SS sm.ml,jb,A6,B2 hi hl];have h4:=sgn<|Bp marks (nA inbox i).fr (nA inbox i).nu;obtain h1|h1:=tfp ((nA inbox i).fr=id)<;>obtain h2|h2:=tfp (nx<=(nA inbox i).nu)<;>obtain h3|h3:=EV (nA inbox i).un ti<;>obtain h0|h0:=tfp ((nA inbox i).to=id)<;>obtain h4|h4:=h4<;>simp[h1,h2,h0,h4,h3]) (by simp[gO])
def jr{id ti nx:Int}{held:List A3}{marks:List Mark}{inbox:List A3}(sm:DV held marks inbox):QA ((id,ti,nx,held,marks,inbox,()),())=I ((Av ⟨id,ti,nx,held,marks,inbox⟩,()),()):=by
 unfold QA Av;simp only[EO,Jr,aAf sm.hl sm.h,aAf sm.il sm.i,an2 sm.ml,aoE sm,aAX sm,aAW sm,A6];obtain h1|h1:=tf (isN id)<;>simp only[h1,AB,AH,A2,AL,AS,A4];obtain h2|h2:=tf (inB ti 0 999)<;>simp only[h2,AB,AH,A2,AL,AS,A4];obtain h3|h3:=tf (inB nx 1 100)<;>simp only[h3,AB,AH,A2,AL,AS,A4];obtain h4|h4:=EV (held.length:Int) 6<;>obtain h5|h5:=EV (marks.length:Int) 12<;>obtain h6|h6:=EV (inbox.length:Int) 6<;>simp only[h4,h5,h6,AW,Ac,A2,AL,Ba,AS,A4];obtain h7|h7:=tf (DQ held)<;>obtain h8|h8:=tf (FL marks)<;>obtain h9|h9:=tf (DQ inbox)<;>simp only[h7,h8,h9,AB,AH,A2,AL,Ba,AS,A4];obtain h10|h10:=tf (An held.length<|HD id ti nx held marks)<;>obtain h11|h11:=tf (An marks.length<|JC id ti nx marks)<;>obtain h12|h12:=tf (An inbox.length<|Ij id ti nx marks inbox)<;>simp only[h10,h11,h12,A2,CD,Fu,A4,aAX sm,aAW sm]<;>rfl
def jd{id ti nx:Int}{held:List A3}{marks:List Mark}{inbox:List A3}(sm:DV held marks inbox):Q7 ((id,ti,nx,held,marks,inbox,()),())=I ((Av ⟨id,ti,nx,held,marks,inbox⟩,()),()):=by
 unfold Q7 Av;simp only[I3,Jp,zx sm.hl sm.h,zx sm.il sm.i,aje sm.ml,alC sm,aA7 sm,aA6 sm,A6];obtain h1|h1:=tf (isN id)<;>simp only[h1,AB,AH,A2,AL,AS,A4];obtain h2|h2:=tf (inB ti 0 999)<;>simp only[h2,AB,AH,A2,AL,AS,A4];obtain h3|h3:=tf (inB nx 1 100)<;>simp only[h3,AB,AH,A2,AL,AS,A4];obtain h7|h7:=tf (U ((held.length:Int)<=6)&&DQ held)<;>obtain h8|h8:=tf (U ((marks.length:Int)<=12)&&FL marks)<;>obtain h9|h9:=tf (U ((inbox.length:Int)<=6)&&DQ inbox)<;>simp only[h7,h8,h9,AB,AH,A2,AL,Ba,AS,A4];obtain h10|h10:=tf (An held.length<|HD id ti nx held marks)<;>obtain h11|h11:=tf (An marks.length<|JC id ti nx marks)<;>obtain h12|h12:=tf (An inbox.length<|Ij id ti nx marks inbox)<;>simp only[h10,h11,h12,A2,CD,Fu,A4,aA7 sm,aA6 sm]<;>rfl
def Ls{α:Type}{l:List α}{d:α}(hl:l.length<=1048576):
  (if U ((j8 l:Int)=0) then I ((([]:List α),()),()) else if U (0<=(j8 l:Int))&&U ((j8 l:Int)<=4294967296) then I (((BR (BS (AM (j8 l:Int)) d).length l++Br l.length (BS (AM (j8 l:Int)) d)),()),()) else G)=I ((l,()),()):=by
 by_cases h:(j8 l:Int)=0
 .have:l=[]:=Dz J;subst this;rfl
 .have h1:(j8 l:Int)<=4294967296:=J
  have h2:0<=(j8 l:Int):=J
  simp[h1]
def dR{l:List A3}(hl:l.length<=1048576):Nz (l,())=I ((l,()),()):=Ls hl
def afD{l:List Mark}(hl:l.length<=1048576):tG (l,())=I ((l,()),()):=Ls hl
def ry{l:List A1}(hl:l.length<=1048576):Rw (l,())=I ((l,()),()):=Ls hl
def zi{id ti nx:Int}{held:List A3}{marks:List Mark}{inbox:List A3}(sm:DV held marks inbox):SK ((id,ti,nx,held,marks,inbox,()),())=I (((id,ti,nx,held,marks,inbox,()),()),()):=by
 unfold SK;simp only[dR sm.hl,afD sm.ml,dR sm.il,A6]
def BD{n:Nat}(h:n<=4294967296):Ab n=Y:=by simpa[Ab] using h
def aA2{id ti nx:Int}{held:List A3}{marks:List Mark}{inbox:List A3}(sm:DV held marks inbox):SU ((id,ti,nx,held,marks,inbox,()),())=I (((id,ti,nx,held,marks,inbox,()),()),()):=by
 unfold SU;have h1:=sm.hl;have h2:=sm.ml;have h3:=sm.il;simp only[CK,DN,Eb,BD (J:held.length<=4294967296),BD (J:marks.length<=4294967296),BD (J:inbox.length<=4294967296),A2]
def aim{id:Int}:fC (id,())=I ((if isN id then(id,0,1,[],[],[],()) else(0,0,0,[],[],[],()),()),()):=by
 unfold fC;simp only[Jr,A6];cases isN id<;>rfl
def ahy{id:Int}:eV (id,())=I ((if isN id then(id,0,1,[],[],[],()) else(0,0,0,[],[],[],()),()),()):=by
 unfold eV;simp only[Jp,A6];cases isN id<;>rfl
end Go.VS
end
noncomputable section
namespace Go.VS
open Go
def ax7{A R:Type}{t:(A->Option R)->A->Option R}{x:A}{v:R}(hv:∀k r,Bj t k x=I r->r=v)(he:∃k,Bj t k x=I v):NS t x=I v:=by
 cases h:NS t x with
 | none=>
  exfalso;obtain⟨k,hk⟩:=he;unfold NS at h;rw[dif_pos ⟨k,v,hk⟩]at h;cases h
 | some r=>
  obtain⟨k,hk⟩:=aG2 h;rw[hv k r hk]
def mT{σ β γ:Type}{b:σ->Option (σ ⊕ (β ⊕ γ))}(st:Nat->σ)(n:Nat)(p:Nat->Bool)(r:β)(fin:γ)
  (h:∀i,i<n->(∀j,j<i->p j=Y)->b (st i)=I (if p i then .inl (st<|i+1) else .inr (.inl r)))
  (hn:(∀j,j<n->p j=Y)->b (st n)=I (.inr<|.inr fin)):AT b (st 0)=I (if An n p then .inr fin else .inl r):=by
 have:∀k,k<=n->(∀j,j<n - k->p j=Y)->AT b (st<|n - k)=I (if Lt p k (n - k) then .inr fin else .inl r):=by
  intro k
  induction k with
  | zero=>intro _ hp;exact BF<|hn hp
  | succ k ih=>
   intro hk hp;have h1:=h (n - (k+1)) J hp;unfold Lt;obtain hq|hq:=tf (p<|n - (k+1))
   .rw[hq]at h1;rw[hq,AS];refine As h1 ?_;rw[show n - (k+1)+1=n - k by omega];exact ih J (λj hj=>by
     obtain h2|h2:=GW j (n - (k+1))
     .exact hp j h2
     .rw[show j=n - (k+1) by omega];exact hq)
   .rw[hq]at h1;rw[hq,AL];exact BF h1
 have:=this n (Au _) (λj hj=>by omega);rwa[PE]at this
abbrev dcm(u:Nat):List UInt8:=o7 u
def Ko{u:Nat}(h:u<10):dcm u=[KI (48+u)]:=Lib.decDigits_one h
def Lw{u:Nat}(h:¬u<10):dcm u=dcm (u / 10)++[KI (48+u % 10)]:=by rw[dcm,o7,dif_neg h]
def Lr:∀(k u:Nat),1<=k->u<10 ^ k->(dcm u).length<=k
 | 0,_,h,_=>J
 | 1,u,_,h=>by rw[Ko J];simp
 | k+2,u,_,h=>by
  by_cases h1:u<10
  .rw[Ko h1];simp
  .rw[Lw h1];have:=Lr (k+1) (u / 10) J (by rw[oC]at h;omega);simp;omega
def JD(u:Nat):B6 (u:Int)=dcm u:=Lib.itoa_nonneg u
def BY(n:Int):A1:=⟨(B6 n).toArray⟩
def nD{n:Nat}(h:n<10):BJ [w8<|w64<|48+(n:Int)]=⟨(dcm n).toArray⟩:=by
 rw[Ko h,AZ J J,N5,show(48+(n:Int)) % 256=((48+n:Nat):Int) by omega];rfl
def aGM(u:Nat):B1 (u:Int) 10=((u / 10:Nat):Int):=rfl
def aGH(u:Nat):BL (u:Int) 10=((u % 10:Nat):Int):=rfl
def nE(u:Nat):BJ [w8<|w64<|48+((u % 10:Nat):Int)]=⟨[KI (48+u % 10)].toArray⟩:=by
 rw[nD J,Ko J]
def pq(a b:List UInt8):(⟨a.toArray⟩:A1)++⟨b.toArray⟩=⟨(a++b).toArray⟩:=by
 apply G5;rw[GP]
def arV:o7 9223372036854775808=[57,50,50,51,51,55,50,48,51,54,56,53,52,55,55,53,56,48,56]:=by
 show dcm _=_
 repeat (first|rw[Ko J]|rw[Lw J])
 rfl
def YH:∀(k:Nat) (n:Int),-9223372036854775808<=n->n<=9223372036854775807->∀r,Bj (λg=>Gg g) k (n,())=I r->r=((BY n,()),())
 | 0,_,_,_,r,h=>by cases h
 | k+1,n,h0,h1,r,h=>by
  have ih:=YH k
  replace h:Gg (Bj (λg=>Gg g) k) (n,())=I r:=h
  generalize Bj (λg=>Gg g) k=GQ at ih h;unfold Gg at h;by_cases hn:n < -9223372036854775807
  .simp only[hn,AW,A2]at h;cases h;obtain rfl:n= -9223372036854775808:=J
   have:BY (-9223372036854775808)=B [45,57,50,50,51,51,55,50,48,51,54,56,53,52,55,55,53,56,48,56]:=by
    apply G5;show B6 (-9223372036854775808)=_;rw[show(-9223372036854775808:Int)= -((9223372036854775808:Nat):Int) by rfl,oE _ J];rw[L_B];rw[arV]
   rw[this]
  .rw[A9<|by simpa using hn]at h;by_cases No:n<0
   .rw[A5<|by simpa using No]at h;simp only at h;rw[AZ J J]at h;obtain⟨r4,e4,h⟩:=Ai.1 h;have:=ih (0 - n) J J r4 e4;subst this;split at h
    .cases h;obtain⟨u,hu⟩:=HS (J:0<= -n);obtain rfl:n= -(u:Int):=J
     have:BY (-(u:Int))=B [45]++BY (0 - -(u:Int)):=by
      unfold BY;rw[oE _ J,show(0:Int) - -(u:Int)=(u:Int) by omega,JD];rw[B,pq];rfl
     rw[this]
    .cases h
   .rw[A9<|by simpa using No]at h;obtain⟨u,hu⟩:=HS (J:0<=n);obtain rfl:n=(u:Int):=hu;by_cases hs:u<10
    .rw[A5 y8]at h;simp only at h;cases h;rw[nD hs,BY,JD]
    .rw[A9 y8]at h;simp only[aGM,aGH]at h;rw[AZ J J]at h;obtain⟨r7,e7,h⟩:=Ai.1 h;have:=ih ((u / 10:Nat):Int) J J r7 e7;subst this;split at h
     .cases h;rw[nE,BY,BY,JD,JD,pq,← Lw hs]
     .cases h
def lz:∀(k u:Nat),1<=k->k<=19->u<10 ^ k->u<=9223372036854775807->Bj (λg=>Gg g) k ((u:Int),())=I ((⟨(dcm u).toArray⟩,()),())
 | 0,_,h,_,_,_=>J
 | k+1,u,_,hk,h,h63=>by
  have e1:U ((u:Int) < -9223372036854775807)=A0:=by simp
  have e2:U ((u:Int)<0)=A0:=by simp
  have ih:=lz k<|u / 10;show Gg (Bj (λg=>Gg g) k) _=_;generalize Bj (λg=>Gg g) k=GQ at ih;unfold Gg;simp only[e1,e2,aGM,aGH,A4];by_cases hs:u<10
  .rw[A5 y8,nD hs]
  .rw[A9 y8,AZ J J];have hk0:1<=k:=by
    obtain rfl|h':=UE k
    .simp at h;omega
    .exact h'
   have hlt:u / 10<10 ^ k:=by rw[oC]at h;omega
   have hl:=Lr k (u / 10) hk0 hlt;rw[ih hk0 J hlt J];simp only[A6];rw[A5,nE,pq,← Lw hs];have:(⟨(dcm<|u / 10).toArray⟩:A1).size=(dcm<|u / 10).length:=rfl;rw[decide_eq_true_eq,this,nE];show _+1<=_;omega
def Fs{n:Int}(h0: -9223372036854775808<=n)(h1:n<=9223372036854775807):DT (n,())=I ((BY n,()),()):=by
 refine ax7 (λk r h=>YH k n h0 h1 r h) ?_;have nS:∀u:Nat,u<=9223372036854775807->u<10 ^ 19:=λu hu=>J
 by_cases hn:n < -9223372036854775807
 .refine⟨1, ?_⟩;cases h:Bj (λg=>Gg g) 1 (n,()) with
  | none=>simp only[Bj]at h;unfold Gg at h;rw[A5<|by simpa using hn]at h;cases h
  | some r=>rw[YH 1 n h0 h1 r h]
 .by_cases No:n<0
  .refine⟨20, ?_⟩;cases h:Bj (λg=>Gg g) 20 (n,()) with
   | none=>
    obtain⟨u,hu⟩:=HS (J:0<= -n);have ih:=lz 19 u J J (nS u J) J
    replace h:Gg (Bj (λg=>Gg g) 19) (n,())=G:=h
    generalize Bj (λg=>Gg g) 19=GQ at ih h;unfold Gg at h;rw[A9<|by simpa using hn,A5<|by simpa using No]at h;simp only at h;rw[AZ J J,show 0 - n=(u:Int) by omega,ih]at h;simp only[A6]at h;rw[A5]at h
    .cases h
    .have hl:=Lr 19 u J<|nS u J;have e:(⟨(dcm u).toArray⟩:A1).size=(dcm u).length:=rfl;rw[decide_eq_true_eq,e];show 1+_<=_;omega
   | some r=>rw[YH 20 n h0 h1 r h]
  .obtain⟨u,hu⟩:=HS (J:0<=n);obtain rfl:n=(u:Int):=hu;exact⟨19,by rw[lz 19 u J J (nS u J) J,BY,JD]⟩
def JH{n:Int}(h0: -9223372036854775808<=n)(h1:n<=9223372036854775807):J6 (n,())=I ((BY n,()),()):=by
 show Ub _=_;unfold Ub;rw[A5 ⟨h0,h1⟩];rfl
def dig(b:UInt8):Bool:=inB (b.toNat:Int) 48 57
def val(l:List UInt8):Nat:=l.foldl (λa b=>10 * a+(b.toNat - 48)) 0
def Yn(l:List UInt8)(b:UInt8):val (l++[b])=10 * val l+(b.toNat - 48):=by simp[val]
def asX{l:List UInt8}{i:Nat}(h:i<l.length):l.take (i+1)=l.take i++[l.getD i 0]:=by
 rw[Iw,Ap h];simp[h]
def aP:∀(k:Nat) (l:List UInt8),l.length<=k->(∀b∈l,dig b=Y)->val l<10 ^ k:=by
 intro k
 induction k with
 | zero=>
  intro l hl _;obtain rfl:l=[]:=Dz J;decide
 | succ k ih=>
  intro l hl hd;obtain rfl|⟨m,b,rfl⟩:=aEM l
  .exact Nat.pow_pos aIm
  .simp at hl hd;have h1:=ih m J (λx hx=>hd x<|.inl hx);have h2:=hd b<|.inr rfl;rw[aEN,Yn,oC];have h3:=Aa.1 h2;omega
def awL{m:List UInt8}:∀ {b:UInt8},dig b=Y->b≠48->(∀x∈m,dig x=Y)->1<=val (b::m):=by
 intro b hb hne hd;have h0:1<=val [b]:=by
  have:=Aa.1 hb;have hn:b.toNat≠48:=λh=>hne<|Qs.1 h;simp[val];omega
 have:∀(m:List UInt8) (a:Nat),1<=a->1<=m.foldl (λa b=>10 * a+(b.toNat - 48)) a:=by
  intro m
  induction m with
  | nil=>intro a h;exact h
  | cons x m ih=>intro a h;exact ih _<|show 1<=10 * a+(x.toNat - 48) by omega
 exact this m _<|by simpa[val] using h0
def JP(l:List UInt8):Bool:=match l with
 | []=>A0
 | [_]=>Y
 | b::_::_=> !decide (b=48)
def aaP:∀(k:Nat) (l:List UInt8),l.length=k->(∀b∈l,dig b=Y)->JP l=Y->dcm (val l)=l:=by
 intro k
 induction k with
 | zero=>intro l hl _ h;obtain rfl:l=[]:=Dz hl;cases h
 | succ k ih=>
  intro l hl hd ac1;obtain rfl|⟨m,b,rfl⟩:=aEM l
  .cases ac1
  .rw[aEN]at *;simp at hl;have hb:=hd b aIg;have hb2:=Aa.1 hb;have hof:∀n,b.toNat=n->KI n=b:=λn h=>by rw[← h];simp
   cases m with
   | nil=>
    have:val ([]++[b])=b.toNat - 48:=by simp[val]
    rw[this,Ko J,hof _ J];rfl
   | cons c m=>
    have hc:c≠48:=by
     cases m<;>simpa[JP] using ac1
    have h1:=awL (m:=m) (hd c aIg) hc (λx hx=>hd x<|by simp[hx]);rw[Yn,Lw J,show(10 * val (c::m)+(b.toNat - 48)) / 10=val (c::m) by omega,show(10 * val (c::m)+(b.toNat - 48)) % 10=b.toNat - 48 by omega,
     ih (c::m) hl (λx hx=>hd x<|Bv _ hx) (by cases m<;>simp[JP,hc]),hof _ J]
def ZW:∀(k u:Nat),u<k->∀b∈dcm u,dig b=Y:=by
 intro k
 induction k with
 | zero=>intro u h;omega
 | succ k ih=>
  intro u h b hb;have hd:∀n,n<10->dig (KI<|48+n)=Y:=λn hn=>by
   have:(KI<|48+n).toNat=48+n:=by simp;omega
   unfold dig;rw[this];exact Aa.2 ⟨J,J⟩
  by_cases hu:u<10
  .rw[Ko hu]at hb;obtain rfl:=C9.1 hb;exact hd u hu
  .rw[Lw hu]at hb;obtain hb|hb:=BM.1 hb
   .exact ih (u / 10) J b hb
   .obtain rfl:=C9.1 hb;exact hd _ J
def Zd:∀(k u:Nat),u<k->val (dcm u)=u:=by
 intro k
 induction k with
 | zero=>intro u h;omega
 | succ k ih=>
  intro u h;by_cases hu:u<10
  .rw[Ko hu];have:(KI<|48+u).toNat=48+u:=by simp;omega
   simp only[val,Dy,KK,this];omega
  .rw[Lw hu,Yn,ih (u / 10) J];have:(KI<|48+u % 10).toNat=48+u % 10:=by simp;omega
   rw[this];omega
def pb(u:Nat):dcm u≠[]:=by
 by_cases hu:u<10
 .rw[Ko hu];simp
 .rw[Lw hu];simp
def aHX:∀(k u:Nat),u<k->JP (dcm u)=Y/\(1<=u->∃b m,dcm u=b::m/\b≠48):=by
 intro k
 induction k with
 | zero=>intro u h;omega
 | succ k ih=>
  intro u h;by_cases hu:u<10
  .rw[Ko hu];refine⟨rfl,λh1=>⟨_,_,rfl,λh2=> ?_⟩⟩;have:(KI<|48+u).toNat=48+u:=by simp;omega
   rw[h2]at this;simp at this;omega
  .obtain⟨b,m,h1,h2⟩:=(ih (u / 10) J).2 J;rw[Lw hu,h1];refine⟨?_,λ_=>⟨b,_,rfl,h2⟩⟩;cases m<;>simp[JP,h2]
def KO(l:List UInt8):Option Nat:=if l.all dig&&JP l then I (val l) else G
def QT{l:List UInt8}{n:Nat}:KO l=I n↔l=dcm n:=by
 unfold KO;constructor
 .intro h;split at h
  .rename_i hc;simp at hc;cases h;exact(aaP _ l rfl hc.1 hc.2).symm
  .cases h
 .rintro rfl;rw[A5,Zd (n+1) n J];simp only[AD,Cy];exact⟨ZW (n+1) n J,(aHX (n+1) n J).1⟩
def ayU{s:A1}{i:Nat}:inB (bt s i) 48 57=dig ((L s).getD i 0):=rfl
def aaY{l:List UInt8}{f:UInt8->Bool}:An l.length (λi=>f<|l.getD i 0)=l.all f:=by
 rw[MK,CA,Cy];constructor
 .intro h x hx;obtain⟨i,hi,rfl⟩:=Cq hx;have:=h i hi;simpa[hi] using this
 .intro h i hi;simpa[hi] using h _<|CU hi
def aDL{s:A1}{i:Nat}(h:∀j,j<i->inB (bt s j) 48 57=Y)(hi:i<=s.size):∀b∈(L s).take i,dig b=Y:=by
 intro b hb;obtain⟨j,hj,rfl⟩:=Cq hb;simp at hj;have h1:=h j J;rw[ayU]at h1;have h2:j<(L s).length:=by rw[Az];omega
 rw[List.getElem_take];have e:(L s).getD j 0=(L s)[j]:=by rw[BA,Ap h2];rfl
 rwa[e]at h1
def aGE{s:A1}{i:Nat}(hi:i<s.size):val ((L s).take<|i+1)=10 * val ((L s).take i)+(((L s).getD i 0).toNat - 48):=by
 rw[asX (by rw[Az];exact hi),Yn]
def Ar(s:A1):Int×Bool:=if s.size<=5 then(match KO (L s) with|some n=>((n:Int),Y)|none=>(0,A0)) else(0,A0)
def axX{s:A1}(h:1<=s.size):JP (L s)= !(U (bt s 0=48)&&U (1<(s.size:Int))):=by
 rw[show s.size=(L s).length from rfl]at *;unfold bt;show _= !(U ((((L s).getD 0 0).toNat:Int)=48)&&_);generalize L s=l at *
 match l with
 | []=>simp at h
 | [b]=>simp[JP]
 | b::c::m=>
  have:(((b:UInt8).toNat:Int)=48)↔b=48:=⟨λh=>Qs.1 (by show b.toNat=48;omega),λh=>by subst h;rfl⟩;simp only[JP,List.getD_cons_zero,this];simp;omega
def aDN(s:A1):(L s).take s.size=L s:=KH (by rw[Az];exact Au _)
def gb{s:A1}(hs:s.size<=9223372036854775807):Q3 (s,())=I (((Ar s).1,(Ar s).2,()),()):=by
 unfold Q3 Ar;simp only[EO,A6];by_cases h5:s.size<=5
 .by_cases h1:1<=s.size
  .have e1:inB (s.size:Int) 1 5=Y:=Aa.2 ⟨J,J⟩;have e2:inb 0 s.size=Y:=by have:=AR (J:0<s.size);simpa using this
   have G9:tB (s,0,0,())=I (if An s.size (λi=>inB (bt s i) 48 57) then .inr ((val (L s):Int),()) else .inl (0,A0,())):=by
    rw[← aDN s];refine mT (λi=>(s,(val ((L s).take i):Int),(i:Int),())) s.size (λi=>inB (bt s i) 48 57) (0,A0,()) ((val ((L s).take s.size):Int),()) (λi hi hp=> ?_) (λ_=>by simp[fh]);unfold fh;simp only[AR hi,B5 hi,aak,EO,A6,B2 hi (by omega:s.size<=9223372036854775807)];obtain h|h:=tf (inB (bt s i) 48 57)
    .have hv:=aP 5 _ y8<|aDL hp J;have hb:=Aa.1 h;have e:w64 (w64 (10 * (val ((L s).take i):Int))+w64 (w8<|bt s i - 48))=(val ((L s).take<|i+1):Int):=by
      rw[aGE hi,N5,AZ (n:=10 * _) J J,nb J J,AZ (n:=bt s i - 48) J J,AZ J J];rw[K0]at hb ⊢;omega
     simp only[h,e];rfl
    .simp only[h];rfl
   rw[e1,e2,A5 h5];simp only[G9,AB,AH,Bk,Ie,A2];have Fc:An s.size (λi=>inB (bt s i) 48 57)=(L s).all dig:=aaY (l:=L s) (f:=dig);rw[Fc];unfold KO;rw[axX h1];obtain h|h:=tf (U (bt s 0=48)&&U (1<(s.size:Int)))
   .rw[h];simp
   .rw[h];obtain h'|h':=tf ((L s).all dig)
    .rw[h'];rfl
    .rw[h'];rfl
  .have e1:inB (s.size:Int) 1 5=A0:=by simp[inB];omega
   have:L s=[]:=Dz (by rw[Az];omega);rw[e1,A5 h5,this];simp[KO,JP]
 .have e1:inB (s.size:Int) 1 5=A0:=by simp[inB];omega
  rw[e1,A9 h5];simp
def Ad(s:A1):Int:=if s.size<=4 then(match KO (L s) with|some n=>(n:Int)|none=> -1) else -1
def aHY(u:Nat):BY (u:Int)=⟨(dcm u).toArray⟩:=by rw[BY,JD]
def kU{s:A1}(hs:s.size<=9223372036854775807):QB (s,())=I ((Ad s,()),()):=by
 unfold QB Ad;by_cases h5:s.size<=4
 .by_cases h1:1<=s.size
  .have e1:(U ((s.size:Int)<1)||decide (4<(s.size:Int)))=A0:=by simp;omega
   have G9:uz (s,0,0,())=I (if An s.size (λi=>inB (bt s i) 48 57) then .inr (s,(val (L s):Int),()) else .inl (-1,())):=by
    rw[← aDN s];refine mT (λi=>(s,(val ((L s).take i):Int),(i:Int),())) s.size (λi=>inB (bt s i) 48 57) (-1,()) (s,(val ((L s).take s.size):Int),()) (λi hi hp=> ?_) (λ_=>by simp[iI]);unfold iI;simp only[AR hi,B5 hi,B2 hi (by omega:s.size<=9223372036854775807)];obtain h|h:=tf (inB (bt s i) 48 57)
    .have hv:=aP 5 _ y8<|aDL hp J;have hb:=Aa.1 h;have e:w64 (w64 ((val ((L s).take i):Int) * 10)+w64 (w8<|bt s i - 48))=(val ((L s).take<|i+1):Int):=by
      rw[aGE hi,N5,AZ (n:=_ * 10) J J,nb J J,AZ (n:=bt s i - 48) J J,AZ J J];rw[K0]at hb ⊢;omega
     have e2:U (bt s i<48)=A0:=by simp;omega
     have e3:U (57<bt s i)=A0:=by simp;omega
     simp only[h,e,e2,e3];rfl
    .have hb:bt s i<48\/57<bt s i:=by
      have:=mt Aa.2 (by rw[h];simp);omega
     simp only[h];obtain hb|hb:=hb
     .simp[hb]
     .have:¬bt s i<48:=J
      simp[hb,this]
   rw[e1,A5 h5];simp only[G9,A4];have Fc:An s.size (λi=>inB (bt s i) 48 57)=(L s).all dig:=aaY (l:=L s) (f:=dig);rw[Fc];unfold KO;obtain h'|h':=tf ((L s).all dig)
   .have hd:=Cy.1 h';have hv:=aP 5 (L s) (by rw[Az];omega) hd;simp only[h',A2,CD,AS,Fs (n:=(val (L s):Int)) J J,A6,aHY];obtain hl|hl:=tf (JP<|L s)
    .have:(⟨(dcm<|val<|L s).toArray⟩:A1)=s:=by
      apply G5;rw[qJ,aaP _ _ rfl hd hl]
     simp[this,hl]
    .have:¬(⟨(dcm<|val<|L s).toArray⟩:A1)=s:=λh=>by
      have h2:=congrArg L h;rw[qJ]at h2;rw[← h2,(aHX (val (L s)+1) _ J).1]at hl;cases hl
     simp[this,hl]
   .rw[h'];rfl
  .have e1:(U ((s.size:Int)<1)||decide (4<(s.size:Int)))=Y:=by simp;omega
   have:L s=[]:=Dz (by rw[Az];omega);rw[e1,A5 h5,this];simp[KO,JP]
 .have e1:(U ((s.size:Int)<1)||decide (4<(s.size:Int)))=Y:=by simp;omega
  rw[e1,A9 h5];simp
def auw{s:A1}{n:Nat}:Ar s=((n:Int),Y)↔s.size<=5/\L s=dcm n:=by
 unfold Ar;by_cases h:s.size<=5
 .rw[A5 h];constructor
  .intro h2;cases h3:KO (L s) with
   | none=>rw[h3]at h2;cases h2
   | some m=>
    rw[h3]at h2;simp at h2;exact⟨h,by rw[QT.1 h3,show m=n by omega]⟩
  .rintro⟨_,h2⟩;rw[QT.2 h2]
 .rw[A9 h];constructor
  .intro h2;cases h2
  .rintro⟨h2,_⟩;exact absurd h2 h
def Ss(s:A1):Ar s=(0,A0)\/ ∃n:Nat,Ar s=((n:Int),Y)/\s.size<=5/\L s=dcm n:=by
 unfold Ar;by_cases h:s.size<=5
 .rw[A5 h];cases h2:KO (L s) with
  | none=>exact .inl rfl
  | some n=>exact .inr ⟨n,rfl,h,QT.1 h2⟩
 .rw[A9 h];exact .inl rfl
def Sp(s:A1):(Ad s= -1/\ ∀n,L s=dcm n->4<s.size)\/ ∃n:Nat,Ad s=(n:Int)/\s.size<=4/\L s=dcm n:=by
 unfold Ad;by_cases h:s.size<=4
 .rw[A5 h];cases h2:KO (L s) with
  | none=>exact .inl ⟨rfl,λn hn=>by rw[QT.2 hn]at h2;cases h2⟩
  | some n=>exact .inr ⟨n,rfl,h,QT.1 h2⟩
 .rw[A9 h];exact .inl ⟨rfl,λn _=>by omega⟩
def og{s:A1}{n:Nat}(h:s.size<=4)(hn:L s=dcm n):Ad s=(n:Int):=by
 unfold Ad;rw[A5 h,QT.2 hn]
def lj{s:A1}{n:Nat}(h:s.size<=5)(hn:L s=dcm n):Ar s=((n:Int),Y):=auw.2 ⟨h,hn⟩
section
variable {α:Type} (f:α->Bool)
def ins(l:List α)(n:α):List α:=l.takeWhile f++n::l.dropWhile f
abbrev tw(l:List α):Nat:=(l.takeWhile f).length
def RE(l:List α):tw f l<=l.length:=by
 exact(aEH f).length_le
def Ze(l:List α):l.take (tw f l)=l.takeWhile f:=by
 have:=List.take_left (l₁:=l.takeWhile f) (l₂:=l.dropWhile f);rwa[Zv]at this
def Zf(l:List α):l.drop (tw f l)=l.dropWhile f:=by
 have:=List.drop_left (l₁:=l.takeWhile f) (l₂:=l.dropWhile f);rwa[Zv]at this
def UW:∀ {l:List α} {i:Nat} {x:α},i<tw f l->l[i]? =I x->f x=Y
 | [],i,x,h,hx=>by simp at hx
 | y::l,i,x,h,hx=>by
  unfold tw at h;rw[Qy]at h;split at h
  .rename_i hy;cases i with
   | zero=>simp at hx;subst hx;exact hy
   | succ i=>exact UW (l:=l) (i:=i) (by simpa using h) (by simpa using hx)
  .simp at h
def UX:∀ {l:List α} {x:α},l[tw f l]? =I x->f x=A0
 | [],x,hx=>by simp at hx
 | y::l,x,hx=>by
  unfold tw at hx;rw[Qy]at hx;split at hx
  .exact UX (l:=l) (by simpa using hx)
  .rename_i hy;simp at hx;subst hx;simpa using hy
def OI(l:List α)(n:α):(ins f l n).length=l.length+1:=by
 have:=congrArg Jb<|Zv (p:=f) (l:=l);rw[Aw]at this;simp only[ins,Aw,Bf];omega
def Gh{l:List α}{n x:α}(h:x∈ins f l n):x=n\/x∈l:=by
 unfold ins at h;rw[BM,Bl]at h;obtain h|h|h:=h
 .exact .inr ((aEH f).mem h)
 .exact .inl h
 .exact .inr<|(List.dropWhile_sublist f).mem h
def Ii{l:List α}{n x:α}(h:x=n\/x∈l):x∈ins f l n:=by
 unfold ins;rw[BM,Bl];obtain h|h:=h
 .exact .inr (.inl h)
 .rw[← Zv (p:=f) (l:=l),BM]at h;obtain h|h:=h
  .exact .inl h
  .exact .inr<|.inr h
end
def mi{α:Type}{f g:α->Bool}:∀ {l:List α},(∀x∈l,f x=g x)->l.takeWhile f=l.takeWhile g/\l.dropWhile f=l.dropWhile g
 | [],_=>⟨rfl,rfl⟩
 | x::l,h=>by
  have ih:=mi (l:=l) (λy hy=>h y<|Aj _ hy);rw[Qy,Qy,ni,ni,h x Ao,ih.1,ih.2];exact⟨rfl,rfl⟩
def aFs{α:Type}{f g:α->Bool}{l:List α}{n:α}(h:∀x∈l,f x=g x):ins f l n=ins g l n:=by
 unfold ins;rw[(mi h).1,(mi h).2]
def DA{l:List A3}{i:Nat}{x:A3}(h:l[i]? =I x):nA l i=x:=JF h
def Fg{l:List Mark}{i:Nat}{x:Mark}(h:l[i]? =I x):mA l i=x:=JF h
def Dx(l:List A3)(n:A3):List A3:=ins (λx=>bef x.fr x.nu n.fr n.nu) l n
def EF(l:List Mark)(n:Mark):List Mark:=ins (λx=>bef x.mf x.mn n.mf n.mn) l n
def YW{α:Type}{l:List α}{i:Nat}{x:α}(h:l[i]? =I x):l.take i++[x]=l.take (i+1):=by
 rw[Iw,h];rfl
def aF8{α:Type}{l:List α}{i j:Nat}{x:α}(h:l[i]? =I x)(hj:j<=i):(l.take i).drop j++[x]=(l.take<|i+1).drop j:=by
 have hi:=(BO.1 h).1;rw[← YW h,Tu y8]
def DR{α:Type}(g:α->Bool)(l:List α)(n:α)(i:Nat):List α:=if i<=tw g l then l.take i else l.take (tw g l)++n::(l.take i).drop (tw g l)
def Yc{α:Type}(g:α->Bool)(l:List α)(n:α)(i:Nat):(DR g l n i).length<=l.length+1:=by
 have:=RE g l;unfold DR;split<;>simp<;>omega
def aFE{α:Type}(g:α->Bool)(l:List α)(n:α):(if tw g l<l.length then DR g l n l.length else DR g l n l.length++[n])=ins g l n:=by
 have h:=RE g l;unfold DR ins;split
 .rw[A9 J,E0,Ze,Zf]
 .rw[A5 J,E0];have:tw g l=l.length:=J
  rw[← Ze,← Zf,this];simp
def aGw{α:Type}{g:α->Bool}{l:List α}{n x:α}{i:Nat}(h:l[i]? =I x)(hi:i<tw g l):DR g l n i++[x]=DR g l n (i+1):=by
 unfold DR;rw[A5 J,A5 J,YW h]
def aGy{α:Type}{g:α->Bool}{l:List α}{n x:α}{i:Nat}(h:l[i]? =I x)(hi:i=tw g l):DR g l n i++[n]++[x]=DR g l n (i+1):=by
 subst hi;unfold DR;rw[A5<|Au _,A9 J,← aF8 h<|Au _];simp
def aGx{α:Type}{g:α->Bool}{l:List α}{n x:α}{i:Nat}(h:l[i]? =I x)(hi:tw g l<i):DR g l n i++[x]=DR g l n (i+1):=by
 unfold DR;rw[A9 J,A9 J,← aF8 h J];simp
def iS{l:List A3}{fr nu tt un:Int}{tx:A1}(hl:l.length<=1048576):Q9 (l,(fr,nu,tt,un,tx,()),())=I ((Dx l ⟨fr,nu,tt,un,tx⟩,()),()):=by
 have ht:=RE (λx:A3=>bef x.fr x.nu fr nu) l;have h:uH (l,(fr,nu,tt,un,tx,()),0,())=I (.inr (l,(fr,nu,tt,un,tx,()),((tw (λx:A3=>bef x.fr x.nu fr nu) l:Nat):Int),())):=
  CG (λi=>(l,(fr,nu,tt,un,tx,()),(i:Int),())) (tw (λx:A3=>bef x.fr x.nu fr nu) l) (λi hi=>by
   have hi':i<l.length:=J
   have hx:=Ap hi';unfold gx;simp only[AR hi',B5 hi',Co,Se,B2 hi' (by omega:l.length<=9223372036854775807),DA hx,UW (λx:A3=>bef x.fr x.nu fr nu) hi hx];rfl) (by
   unfold gx;generalize ht2:tw (λx:A3=>bef x.fr x.nu fr nu) l=t at *;obtain hlt|hge:=GW t l.length
   .have hx:=Ap hlt;have:=UX (λx:A3=>bef x.fr x.nu fr nu) (l:=l) (x:=l[t]) (by rw[ht2];exact hx);simp only[AR hlt,B5 hlt,Co,Se,DA hx,this];rfl
   .have e:U ((t:Int)<(j8 l:Int))=A0:=by simp;omega
    simp only[e,Hb,A2,AL,A4])
 unfold Q9;have hb:(U (0<=((tw (λx:A3=>bef x.fr x.nu fr nu) l:Nat):Int))&&U (((tw (λx:A3=>bef x.fr x.nu fr nu) l:Nat):Int)<=(j8 l:Int)))=Y:=by simp;omega
 simp only[h,CD,hb,A2,BV,Eb,CK,DN,Aw,Bf,Di,EJ];rw[A5<|BD J,A5<|BD J,A5<|BD J,Ze,Zf];simp[Dx,ins]
def PT(l:List A3)(n:A3):List A3:=ins (λx=> !bef n.fr n.nu x.fr x.nu) l n
def di{l:List A3}{fr nu tt un:Int}{tx:A1}(hl:l.length<=1048576):Ph (l,(fr,nu,tt,un,tx,()),())=I ((PT l ⟨fr,nu,tt,un,tx⟩,()),()):=by
 let g:A3->Bool:=λx=> !bef fr nu x.fr x.nu
 have ht:=RE g l;have h:rO (l,(fr,nu,tt,un,tx,()),[],A0,0,())=I (.inr ((fr,nu,tt,un,tx,()),DR g l ⟨fr,nu,tt,un,tx⟩ l.length,U<|tw g l<l.length,())):=by
  refine CG (λi=>(l,(fr,nu,tt,un,tx,()),DR g l ⟨fr,nu,tt,un,tx⟩ i,U<|tw g l<i,(i:Int),())) l.length (λi hi=> ?_) (by simp[dF]);have hx:=Ap hi;have hr:=Yc g l ⟨fr,nu,tt,un,tx⟩ i;unfold dF;simp only[AR hi,B5 hi,Co,Xc,B2 hi (by omega:l.length<=9223372036854775807),DA hx,Bf,CK,DN,BD<|show(DR g l ⟨fr,nu,tt,un,tx⟩ i).length+1<=4294967296 by omega];obtain hlt|heq|hgt:=IM i (tw g l)
  .have h1:bef fr nu l[i].fr l[i].nu=A0:=by simpa[g] using UW g hlt hx
   have h2:U (tw g l<i)=A0:=by simp;omega
   have h3:U (tw g l<i+1)=A0:=by simp;omega
   simp only[h1,h2,h3,Ie,AH,A2,DC,D4,Ba,A4,Bg,Co,DA hx,AR hi,BD<|show(DR g l ⟨fr,nu,tt,un,tx⟩ i).length+1<=4294967296 by omega,aGw hx hlt,B2 hi (by omega:l.length<=9223372036854775807)]
  .have hx2:l[tw g l]? =I l[i]:=by rw[← heq];exact hx
   have h1:bef fr nu l[i].fr l[i].nu=Y:=by simpa[g] using UX g hx2
   have h2:U (tw g l<i)=A0:=by simp;omega
   have h3:U (tw g l<i+1)=Y:=by simp;omega
   have h4:DR g l ⟨fr,nu,tt,un,tx⟩ i++[⟨fr,nu,tt,un,tx⟩]++[l[i]]=DR g l ⟨fr,nu,tt,un,tx⟩ (i+1):=aGy hx heq;simp only[h1,h2,h3,h4,Ie,AH,A2,DC,D4,EB,Bg,Co,DA hx,AR hi,Aw,Bf,CK,DN,BD<|show(DR g l ⟨fr,nu,tt,un,tx⟩ i).length+1+1<=4294967296 by omega,B2 hi (by omega:l.length<=9223372036854775807)]
  .have h2:U (tw g l<i)=Y:=by simp;omega
   have h3:U (tw g l<i+1)=Y:=by simp;omega
   simp only[h2,h3,Hb,AB,A2,AL,A4,Bg,Co,DA hx,AR hi,BD<|show(DR g l ⟨fr,nu,tt,un,tx⟩ i).length+1<=4294967296 by omega,aGx hx hgt,B2 hi (by omega:l.length<=9223372036854775807)]
 unfold Ph;simp only[h,CD];have he:=aFE g l ⟨fr,nu,tt,un,tx⟩;have hr:=Yc g l ⟨fr,nu,tt,un,tx⟩ l.length;unfold PT;show _=I ((ins g l _,()),());rw[← he];by_cases hc:tw g l<l.length
 .simp[hc]
 .simp[hc,BD<|show(DR g l ⟨fr,nu,tt,un,tx⟩ l.length).length+1<=4294967296 by omega]
def HE(t:Int)(l:List A3):List A3:=l.filter λx=>U<|t<x.un
def jY{l:List Mark}{mf mn mu:Int}(hl:l.length<=1048576):Sb (l,(mf,mn,mu,()),())=I ((EF l ⟨mf,mn,mu⟩,()),()):=by
 have ht:=RE (λx:Mark=>bef x.mf x.mn mf mn) l;have h:u9 (l,(mf,mn,mu,()),0,())=I (.inr (l,(mf,mn,mu,()),((tw (λx:Mark=>bef x.mf x.mn mf mn) l:Nat):Int),())):=
  CG (λi=>(l,(mf,mn,mu,()),(i:Int),())) (tw (λx:Mark=>bef x.mf x.mn mf mn) l) (λi hi=>by
   have hi':i<l.length:=J
   have hx:=Ap hi';unfold gh;simp only[AR hi',B5 hi',FA,Se,B2 hi' (by omega:l.length<=9223372036854775807),Fg hx,UW (λx:Mark=>bef x.mf x.mn mf mn) hi hx];rfl) (by
   unfold gh;generalize ht2:tw (λx:Mark=>bef x.mf x.mn mf mn) l=t at *;obtain hlt|hge:=GW t l.length
   .have hx:=Ap hlt;have:=UX (λx:Mark=>bef x.mf x.mn mf mn) (l:=l) (x:=l[t]) (by rw[ht2];exact hx);simp only[AR hlt,B5 hlt,FA,Se,Fg hx,this];rfl
   .have e:U ((t:Int)<(j8 l:Int))=A0:=by simp;omega
    simp only[e,Hb,A2,AL,A4])
 unfold Sb;have hb:(U (0<=((tw (λx:Mark=>bef x.mf x.mn mf mn) l:Nat):Int))&&U (((tw (λx:Mark=>bef x.mf x.mn mf mn) l:Nat):Int)<=(j8 l:Int)))=Y:=by simp;omega
 simp only[h,CD,hb,A2,BV,Eb,CK,DN,Aw,Bf,Di,EJ];rw[A5<|BD J,A5<|BD J,A5<|BD J,Ze,Zf];simp[EF,ins]
def PU(l:List Mark)(n:Mark):List Mark:=ins (λx=> !bef n.mf n.mn x.mf x.mn) l n
def te{l:List Mark}{mf mn mu:Int}(hl:l.length<=1048576):Ry (l,(mf,mn,mu,()),())=I ((PU l ⟨mf,mn,mu⟩,()),()):=by
 let g:Mark->Bool:=λx=> !bef mf mn x.mf x.mn
 have ht:=RE g l;have h:rQ (l,(mf,mn,mu,()),[],A0,0,())=I (.inr ((mf,mn,mu,()),DR g l ⟨mf,mn,mu⟩ l.length,U<|tw g l<l.length,())):=by
  refine CG (λi=>(l,(mf,mn,mu,()),DR g l ⟨mf,mn,mu⟩ i,U<|tw g l<i,(i:Int),())) l.length (λi hi=> ?_) (by simp[dG]);have hx:=Ap hi;have hr:=Yc g l ⟨mf,mn,mu⟩ i;unfold dG;simp only[AR hi,B5 hi,FA,Xc,B2 hi (by omega:l.length<=9223372036854775807),Fg hx,Bf,CK,DN,BD<|show(DR g l ⟨mf,mn,mu⟩ i).length+1<=4294967296 by omega];obtain hlt|heq|hgt:=IM i (tw g l)
  .have h1:bef mf mn l[i].mf l[i].mn=A0:=by simpa[g] using UW g hlt hx
   have h2:U (tw g l<i)=A0:=by simp;omega
   have h3:U (tw g l<i+1)=A0:=by simp;omega
   simp only[h1,h2,h3,Ie,AH,A2,DC,D4,Ba,A4,Bg,FA,Fg hx,AR hi,BD<|show(DR g l ⟨mf,mn,mu⟩ i).length+1<=4294967296 by omega,aGw hx hlt,B2 hi (by omega:l.length<=9223372036854775807)]
  .have hx2:l[tw g l]? =I l[i]:=by rw[← heq];exact hx
   have h1:bef mf mn l[i].mf l[i].mn=Y:=by simpa[g] using UX g hx2
   have h2:U (tw g l<i)=A0:=by simp;omega
   have h3:U (tw g l<i+1)=Y:=by simp;omega
   have h4:DR g l ⟨mf,mn,mu⟩ i++[⟨mf,mn,mu⟩]++[l[i]]=DR g l ⟨mf,mn,mu⟩ (i+1):=aGy hx heq;simp only[h1,h2,h3,h4,Ie,AH,A2,DC,D4,EB,Bg,FA,Fg hx,AR hi,Aw,Bf,CK,DN,BD<|show(DR g l ⟨mf,mn,mu⟩ i).length+1+1<=4294967296 by omega,B2 hi (by omega:l.length<=9223372036854775807)]
  .have h2:U (tw g l<i)=Y:=by simp;omega
   have h3:U (tw g l<i+1)=Y:=by simp;omega
   simp only[h2,h3,Hb,AB,A2,AL,A4,Bg,FA,Fg hx,AR hi,BD<|show(DR g l ⟨mf,mn,mu⟩ i).length+1<=4294967296 by omega,aGx hx hgt,B2 hi (by omega:l.length<=9223372036854775807)]
 unfold Ry;simp only[h,CD];have he:=aFE g l ⟨mf,mn,mu⟩;have hr:=Yc g l ⟨mf,mn,mu⟩ l.length;unfold PU;show _=I ((ins g l _,()),());rw[← he];by_cases hc:tw g l<l.length
 .simp[hc]
 .simp[hc,BD<|show(DR g l ⟨mf,mn,mu⟩ l.length).length+1<=4294967296 by omega]
def K5(t:Int)(l:List Mark):List Mark:=l.filter λx=>U<|t<x.mu
def Xj{α:Type}{l:List α}{f:α->Bool}{i:Nat}{x:α}(h:l[i]? =I x):(l.take<|i+1).filter f=(l.take i).filter f++(if f x then [x] else []):=by
 rw[← YW h,RA];congr 1;cases hf:f x<;>simp[hf]
def Xo{α:Type}{l:List α}{f:α->Bool}{i:Nat}:((l.take i).filter f).length<=l.length:=by
 have:=Ix f<|l.take i;simp at this;omega
def an3{id ti nx t:Int}{held:List A3}{marks:List Mark}{inbox:List A3}(sm:DV held marks inbox):gq ((id,ti,nx,held,marks,inbox,()),t,())=I (((id,t,nx,HE t held,K5 t marks,inbox,()),()),()):=by
 have hl:=sm.hl;have ml:=sm.ml;have h0:sd (t,(id,ti,nx,held,marks,inbox,()),(0,0,0,[],[],[],()),(id,t,nx,[],[],inbox,()),held,(held.length:Int),0,())=I (.inr (t,(id,ti,nx,held,marks,inbox,()),(0,0,0,[],[],[],()),(id,t,nx,HE t held,[],inbox,()),())):=by
  rw[show HE t held=(held.take held.length).filter (λx=>U<|t<x.un) by rw[E0];rfl];refine CG (λi=>(t,(id,ti,nx,held,marks,inbox,()),(0,0,0,[],[],[],()),(id,t,nx,(held.take i).filter λx=>U<|t<x.un,[],inbox,()),held,(held.length:Int),(i:Int),())) held.length (λi hi=> ?_) (by simp[fq]);have hx:=Ap hi;have hr:=Xo (l:=held) (f:=λx=>U<|t<x.un) (i:=i);unfold fq;simp only[AR hi,B5 hi,Co,DA hx,B2 hi (by omega:held.length<=9223372036854775807),Xj hx,Bf,CK,DN,BD<|show((held.take i).filter λx=>U<|t<x.un).length+1<=4294967296 by omega];by_cases hc:t<held[i].un<;>simp[hc]
 have h1:sb (t,(0,0,0,[],[],[],()),(id,t,nx,HE t held,[],inbox,()),marks,(marks.length:Int),0,())=I (.inr ((0,0,0,[],[],[],()),(id,t,nx,HE t held,K5 t marks,inbox,()),())):=by
  rw[show K5 t marks=(marks.take marks.length).filter (λx=>U<|t<x.mu) by rw[E0];rfl];refine CG (λi=>(t,(0,0,0,[],[],[],()),(id,t,nx,HE t held,(marks.take i).filter λx=>U<|t<x.mu,inbox,()),marks,(marks.length:Int),(i:Int),())) marks.length (λi hi=> ?_) (by simp[fp]);have hx:=Ap hi;have hr:=Xo (l:=marks) (f:=λx=>U<|t<x.mu) (i:=i);unfold fp;simp only[AR hi,B5 hi,FA,Fg hx,B2 hi (by omega:marks.length<=9223372036854775807),Xj hx,Bf,CK,DN,BD<|show((marks.take i).filter λx=>U<|t<x.mu).length+1<=4294967296 by omega];by_cases hc:t<marks[i].mu<;>simp[hc]
 unfold gq;simp only[h0,h1,CD]
def al6{id ti nx t:Int}{held:List A3}{marks:List Mark}{inbox:List A3}(sm:DV held marks inbox):gZ ((id,ti,nx,held,marks,inbox,()),t,())=I (((id,t,nx,HE t held,K5 t marks,inbox,()),()),()):=by
 have hl:=sm.hl;have ml:=sm.ml;have h0:tM (t,(id,ti,nx,held,marks,inbox,()),(0,0,0,[],[],[],()),[],0,())=I (.inr (t,(id,ti,nx,held,marks,inbox,()),(0,0,0,[],[],[],()),HE t held,())):=by
  rw[show HE t held=(held.take held.length).filter (λx=>U<|t<x.un) by rw[E0];rfl];refine CG (λi=>(t,(id,ti,nx,held,marks,inbox,()),(0,0,0,[],[],[],()),(held.take i).filter λx=>U<|t<x.un,(i:Int),())) held.length (λi hi=> ?_) (by simp[fR]);have hx:=Ap hi;have hr:=Xo (l:=held) (f:=λx=>U<|t<x.un) (i:=i);unfold fR;simp only[AR hi,B5 hi,Co,DA hx,B2 hi (by omega:held.length<=9223372036854775807),Xj hx,Bf,CK,DN,BD<|show((held.take i).filter λx=>U<|t<x.un).length+1<=4294967296 by omega];by_cases hc:t<held[i].un<;>simp[hc]
 have h1:tL (t,(id,ti,nx,held,marks,inbox,()),(0,0,0,[],[],[],()),HE t held,[],0,())=I (.inr (t,(id,ti,nx,held,marks,inbox,()),(0,0,0,[],[],[],()),HE t held,K5 t marks,())):=by
  rw[show K5 t marks=(marks.take marks.length).filter (λx=>U<|t<x.mu) by rw[E0];rfl];refine CG (λi=>(t,(id,ti,nx,held,marks,inbox,()),(0,0,0,[],[],[],()),HE t held,(marks.take i).filter λx=>U<|t<x.mu,(i:Int),())) marks.length (λi hi=> ?_) (by simp[fQ]);have hx:=Ap hi;have hr:=Xo (l:=marks) (f:=λx=>U<|t<x.mu) (i:=i);unfold fQ;simp only[AR hi,B5 hi,FA,Fg hx,B2 hi (by omega:marks.length<=9223372036854775807),Xj hx,Bf,CK,DN,BD<|show((marks.take i).filter λx=>U<|t<x.mu).length+1<=4294967296 by omega];by_cases hc:t<marks[i].mu<;>simp[hc]
 unfold gZ;simp only[h0,h1,CD]
def EY(l:List A3)(i:Nat):List A3:=l.take i++l.drop (i+1)
def an1{l:List A3}{i:Nat}(hl:l.length<=1048576)(hi:i<l.length):SO (l,(i:Int),())=I ((EY l i,()),()):=by
 unfold SO;have h1:(U (0<=(i:Int))&&U ((i:Int)<=(j8 l:Int)))=Y:=by simp;omega
 have h2:(U (0<=((i+1:Nat):Int))&&U (((i+1:Nat):Int)<=(j8 l:Int)))=Y:=by simp;omega
 simp only[B2 hi (by omega:l.length<=9223372036854775807),h1,h2,A2,BV,Eb,CK,DN,Di,EJ];rw[A5<|BD J,A5<|BD J];rfl
end Go.VS
namespace Go.VS
open Go
def B_L(s:A1):B (L s)=s:=G5 rfl
def CY(l:List UInt8):Prop:=∀b∈l,b≠32
def Ll:∀(l:List UInt8),CY l\/ ∃w r,CY w/\l=w++32::r
 | []=> .inl (λ_ h=>by cases h)
 | b::l=>by
  by_cases h:b=32
  .exact .inr ⟨[],l,(λ_ h=>by cases h),by rw[h];rfl⟩
  .rcases Ll l with h1|⟨w,r,h1,h2⟩
   .refine .inl (λx hx=> ?_);obtain rfl|hx:=Bl.1 hx
    .exact h
    .exact h1 x hx
   .refine .inr ⟨b::w,r,λx hx=> ?_,by rw[h2];rfl⟩;obtain rfl|hx:=Bl.1 hx
    .exact h
    .exact h1 x hx
def oN:∀ {l:List UInt8},CY l->Lib.index l [32]= -1
 | [],_=>rfl
 | b::l,h=>by
  rw[U4];unfold Lib.indexByte;have h1:=h b Ao;rw[A9<|by simpa using h1,← U4,oN λx hx=>h x<|Aj _ hx];rfl
def oO:∀ {w r:List UInt8},CY w->Lib.index (w++32::r) [32]=w.length
 | [],r,_=>by rw[U4];rfl
 | b::w,r,h=>by
  rw[U4,LB];unfold Lib.indexByte;have h1:=h b Ao;rw[A9<|by simpa using h1,← U4,oO λx hx=>h x<|Aj _ hx,A9 aIg];simp
def ayS{l:List UInt8}(h:CY l):FV l [32]=(l,[],A0):=by
 unfold FV;rw[oN h,A9 J]
def ayT{w r:List UInt8}(h:CY w):FV (w++32::r) [32]=(w,r,Y):=by
 unfold FV;rw[oO h,A5 J];simp
def avY{s:A1}(hs:s.size<=1048576)(h:CY (L s)):Wp (s,B [32],())=I ((s,noB,A0,()),()):=by
 show PO _=_;unfold PO;rw[A5 (by show s.size<_;omega)];show I ((B (FV (L s) [32]).1,B (FV (L s) [32]).2.1,(FV (L s) [32]).2.2,()),())=_;rw[ayS h];show I ((B<|L s,noB,A0,()),())=_;rw[B_L]
def avZ{s:A1}{w r:List UInt8}(hs:s.size<=1048576)(h:CY w)(e:L s=w++32::r):Wp (s,B [32],())=I ((B w,B r,Y,()),()):=by
 show PO _=_;unfold PO;rw[A5 (by show s.size<_;omega)];show I ((B (FV (L s) [32]).1,B (FV (L s) [32]).2.1,(FV (L s) [32]).2.2,()),())=_;rw[e,ayT h]
def qB{s:A1}{i:Nat}:U (bt s i=32)=U ((L s).getD i 0=32):=by
 rw[decide_eq_decide,K0];exact⟨λh=>Qs.1 (by show _=32;omega),λh=>by rw[h];rfl⟩
def aFN{s:A1}(hs:s.size<=1048576):tz (s,0,())=I (if G4 s.size (λi=>U<|bt s i=32)<0 then .inr (s,()) else
  .inl (s.extract 0 (G4 s.size λi=>U<|bt s i=32).toNat,s.extract ((G4 s.size λi=>U<|bt s i=32).toNat+1) s.size,())):=
 QH (λi=>(s,(i:Int),())) s.size (λi=>U<|bt s i=32) (λi=>(s.extract 0 i.toNat,s.extract (i.toNat+1) s.size,())) (s,()) (λi hi=>by
  have h1:(U (0<=(i:Int))&&U ((i:Int)<=(s.size:Int)))=Y:=by simp;omega
  have h2:(U (0<=((i+1:Nat):Int))&&U (((i+1:Nat):Int)<=(s.size:Int)))=Y:=by simp;omega
  unfold gV;simp only[AR hi,B5 hi,B2 hi (by omega:s.size<=9223372036854775807),h1,h2,A2,BV];cases U (bt s i=32)<;>rfl) (by simp[gV])
def avf{n:Nat}{p:Nat->Bool}(h:∀i,i<n->p i=A0):G4 n p= -1:=by
 obtain⟨h1,_⟩|⟨i,h1,h2,h3,_⟩:=GD n p
 .exact h1
 .rw[h i h2]at h3;cases h3
def aGh{n i:Nat}{p:Nat->Bool}(hi:i<n)(hp:p i=Y)(h:∀j,j<i->p j=A0):G4 n p=i:=by
 obtain⟨_,h1⟩|⟨j,h1,h2,h3,h4⟩:=GD n p
 .rw[h1 i hi]at hp;cases hp
 .rcases IM i j with h5|h5|h5
  .rw[h4 i h5]at hp;cases hp
  .rw[h1,h5]
  .rw[h j h5]at h3;cases h3
def aw6{w r:List UInt8}{b:UInt8}:(w++b::r).getD w.length 0=b:=by simp
def aHe{w r:List UInt8}{j:Nat}(h:j<w.length):(w++r).getD j 0∈w:=by
 rw[BA,IP h,Ap h];exact CU h
def aw5{l:List UInt8}{j:Nat}(h:j<l.length):l.getD j 0∈l:=by
 rw[BA,Ap h];exact CU h
def asy{s:A1}(hs:s.size<=1048576)(h:CY (L s)):O6 (s,())=I ((s,noB,()),()):=by
 unfold O6;simp only[aFN hs];rw[avf (λi hi=>by rw[qB];simpa using h _<|aw5 (by rw[Az];exact hi))];rfl
def asz{s:A1}{w r:List UInt8}(hs:s.size<=1048576)(h:CY w)(e:L s=w++32::r):O6 (s,())=I ((B w,B r,()),()):=by
 have hl:s.size=w.length+1+r.length:=by
  have:=congrArg Jb e;rw[Az]at this;simp at this;omega
 unfold O6;simp only[aFN hs];rw[aGh (i:=w.length) J (by rw[qB,e,aw6];rfl) (λj hj=>by rw[qB,e];simpa using h _<|aHe hj),A9 J];have e1:s.extract 0 w.length=B w:=G5 (by rw[EE,e,L_B];simp);have e2:s.extract (w.length+1) s.size=B r:=G5 (by rw[EE,e,L_B,hl,show w++32::r=(w++[32])++r by simp,Qt aIg,show w.length+1+r.length - (w.length+1)=r.length by omega,E0]);simp only[Fu,BV,e1,e2]
def wr(n:A3):A1:=((((((((BY n.fr++B [32])++BY n.nu)++B [32])++BY n.to)++B [32])++BY n.un)++B [32])++n.tx)
def wrL(n:A3):List UInt8:=B6 n.fr++32::(B6 n.nu++32::(B6 n.to++32::(B6 n.un++32::L n.tx)))
def UT(n:Int):L (BY n)=B6 n:=rfl
def Rf(n:A3):L (wr n)=wrL n:=by
 unfold wr wrL;simp only[GP,UT,L_B,C5,LB,Eb]
def ari{n:Int}{k:Nat}(h0:0<=n)(h1:n<10 ^ k)(hk:1<=k):B6 n=dcm n.toNat/\(B6 n).length<=k:=by
 obtain⟨u,rfl⟩:=HS h0;rw[JD];refine⟨rfl,Lr k u hk ?_⟩;have:((10 ^ k:Nat):Int)=(10:Int) ^ k:=by simp
 omega
structure Ur (n:A3):Prop where
 f0:0<=n.fr
 f1:n.fr<=3
 t0:0<=n.to
 t1:n.to<=3
 n0:1<=n.nu
 n1:n.nu<=99
 u0:1<=n.un
 u1:n.un<=999
 s0:1<=n.tx.size
 s1:n.tx.size<=24
def I9{n:A3}(h:Ax n=Y):Ur n:=by
 unfold Ax LG at h;simp only[AD,Aa]at h;obtain⟨⟨a,b⟩,⟨c,d⟩,⟨e,f⟩,⟨g,i⟩,⟨j,k⟩,_⟩:=h;exact⟨a,b,c,d,e,f,g,i,J,J⟩
def Mr{n:Int}{k:Nat}(h0:0<=n)(h1:n<10 ^ k)(hk:1<=k):(BY n).size<=k:=(ari h0 h1 hk).2
def Vw{fr nu tt un:Int}{tx:A1}(hs:tx.size<=1048576):Mj ((fr,nu,tt,un,tx,()),())=I ((if Ax ⟨fr,nu,tt,un,tx⟩ then wr ⟨fr,nu,tt,un,tx⟩ else noB,()),()):=by
 unfold Mj;simp only[Wm hs,A6];obtain h|h:=tf (Ax ⟨fr,nu,tt,un,tx⟩)
 .have hf:=I9 h;obtain⟨f0,f1,t0,t1,n0,n1,u0,u1,s0,s1⟩:=hf;simp only at f0 f1 t0 t1 n0 n1 u0 u1 s0 s1;have a1:=Mr (n:=fr) (k:=1) f0 J J;have a2:=Mr (n:=nu) (k:=2) J J J;have a3:=Mr (n:=tt) (k:=1) t0 J J;have a4:=Mr (n:=un) (k:=3) J J J;have b:(B [32]).size=1:=rfl;simp only[h,AB,A4,JH (n:=fr) J J,JH (n:=nu) J J,JH (n:=tt) J J,JH (n:=un) J J,A6,C2,b]
  repeat rw[A5 (by rw[decide_eq_true_eq];omega)]
  rfl
 .simp only[h,AH,A2,A4]
def Vp{fr nu tt un:Int}{tx:A1}(hs:tx.size<=1048576):Mi ((fr,nu,tt,un,tx,()),())=I ((if Ax ⟨fr,nu,tt,un,tx⟩ then wr ⟨fr,nu,tt,un,tx⟩ else noB,()),()):=by
 unfold Mi;simp only[Wr hs,A6];obtain h|h:=tf (Ax ⟨fr,nu,tt,un,tx⟩)
 .have hf:=I9 h;obtain⟨f0,f1,t0,t1,n0,n1,u0,u1,s0,s1⟩:=hf;simp only at f0 f1 t0 t1 n0 n1 u0 u1 s0 s1;have a1:=Mr (n:=fr) (k:=1) f0 J J;have a2:=Mr (n:=nu) (k:=2) J J J;have a3:=Mr (n:=tt) (k:=1) t0 J J;have a4:=Mr (n:=un) (k:=3) J J J;have b:(B [32]).size=1:=rfl;simp only[h,AB,A4,Fs (n:=fr) J J,Fs (n:=nu) J J,Fs (n:=tt) J J,Fs (n:=un) J J,A6,C2,b]
  repeat rw[A5 (by rw[decide_eq_true_eq];omega)]
  rfl
 .simp only[h,AH,A2,A4]
def Nf:List UInt8->Option (List UInt8×List UInt8)
 | []=>G
 | b::l=>if b=32 then I ([],l) else(Nf l).map λp=>(b::p.1,p.2)
def Tj:∀ {l:List UInt8},CY l->Nf l=G
 | [],_=>rfl
 | b::l,h=>by
  unfold Nf;rw[A9<|h b Ao,Tj λx hx=>h x<|Aj _ hx];rfl
def Tk:∀ {w r:List UInt8},CY w->Nf (w++32::r)=I (w,r)
 | [],r,_=>rfl
 | b::w,r,h=>by
  rw[LB];unfold Nf;rw[A9<|h b Ao,Tk λx hx=>h x<|Aj _ hx];rfl
def wd(s:A1):A1×A1:=match Nf (L s) with
 | some p=>(B p.1,B p.2)
 | none=>(s,noB)
def UZ{s:A1}(h:CY (L s)):wd s=(s,noB):=by unfold wd;rw[Tj h]
def L5{s:A1}{w r:List UInt8}(h:CY w)(e:L s=w++32::r):wd s=(B w,B r):=by unfold wd;rw[e,Tk h]
def TU(s:A1):(wd s).1.size<=s.size/\(wd s).2.size<=s.size:=by
 obtain h|⟨w,r,h,e⟩:=Ll (L s)
 .rw[UZ h];exact⟨Au _,D5 _⟩
 .rw[L5 h e];have:=congrArg Jb e;rw[Az]at this;simp at this;rw[BQ,BQ];exact⟨by show w.length<=_;omega,by show r.length<=_;omega⟩
def aah{s:A1}(hs:s.size<=1048576):O6 (s,())=I (((wd s).1,(wd s).2,()),()):=by
 obtain h|⟨w,r,h,e⟩:=Ll (L s)
 .rw[UZ h,asy hs h]
 .rw[L5 h e,asz hs h e]
def ayy{s:A1}(hs:s.size<=1048576):Wp (s,B [32],())=I (((wd s).1,(wd s).2,(Nf<|L s).isSome,()),()):=by
 obtain h|⟨w,r,h,e⟩:=Ll (L s)
 .rw[UZ h,avY hs h,Tj h];rfl
 .rw[L5 h e,avZ hs h e,e,Tk h];rfl
def ED(s:A1):Nat->A1
 | 0=>s
 | i+1=>(wd<|ED s i).2
def Am(s:A1)(i:Nat):A1:=(wd<|ED s i).1
def YB(s:A1):∀i,(ED s i).size<=s.size
 | 0=>Au _
 | i+1=>CZ (TU<|ED s i).2 (YB s i)
def arI(s:A1)(i:Nat):(Am s i).size<=s.size:=CZ (TU _).1<|YB s i
def aaq{s:A1}{n:Nat}(hs:s.size<=1048576)(hn:n<=10):Q5 (s,(n:Int),())=I (((B8 n).map λi=>Ad<|Am s i,ED s n,()),()):=by
 have h:u7 (s,(n:Int),[],0,())=I (.inr (ED s n,(B8 n).map λi=>Ad<|Am s i,())):=by
  refine CG (λi=>(ED s i,(n:Int),(B8 i).map λi=>Ad<|Am s i,(i:Int),())) n (λi hi=> ?_) (by simp[gW]);have h1:=YB s i;have h2:=arI s i;unfold gW;simp only[B5 hi,aah<|show(ED s i).size<=1048576 by omega,A6,A2,kU (show(wd<|ED s i).1.size<=9223372036854775807 by have:=(TU<|ED s i).1;omega),
   Da,List.length_range,Bf,CK,DN,BD (J:i+1<=4294967296),B2 hi (by omega:n<=9223372036854775807),IK,Ec,DU,Jc]
  rfl
 unfold Q5;simp only[h,CD]
def aEQ{ws:List A1}(hl:ws.length<=1048577)(hw:∀w∈ws,w.size<=1048576):
  SJ (ws,())=I ((if An ws.length (λi=>(Ar<|ws.getD i noB).2) then(ws.map λw=>(Ar w).1,Y,()) else([],A0,())),()):=by
 have h:sP ([],ws,(j8 ws:Int),0,())=I (if An ws.length (λi=>(Ar<|ws.getD i noB).2) then .inr (ws.map λw=>(Ar w).1,()) else .inl ([],A0,())):=by
  rw[show ws.map (λw=>(Ar w).1)=(ws.take ws.length).map (λw=>(Ar w).1) by rw[E0]];refine mT (λi=>((ws.take i).map λw=>(Ar w).1,ws,(j8 ws:Int),(i:Int),())) ws.length (λi=>(Ar<|ws.getD i noB).2) ([],A0,()) ((ws.take ws.length).map λw=>(Ar w).1,()) (λi hi _=> ?_) (λ_=>by simp[fA]);have hx:=Ap hi;have hs:=hw _<|CU hi;unfold fA;simp only[AR hi,B5 hi,Ov,JF hx,gb (J:ws[i].size<=9223372036854775807),A6,Da,Di,Bf,CK,DN,
   BD (J:min i ws.length+1<=4294967296),B2 hi (by omega:ws.length<=9223372036854775807)]
  rw[← YW hx,Ec];obtain h|h:=tf (Ar ws[i]).2<;>simp[h]
 unfold SJ;simp only[h];cases An ws.length (λi=>(Ar<|ws.getD i noB).2)<;>rfl
def Lj{w r:List UInt8}{k:Nat}(h:CY w):GX [32] 0 (k+1) (w++32::r)=w::GX [32] 0 k r:=by
 conv=>lhs;unfold GX
 rw[oO h,A9 aIg];show(w++32::r).take (w.length+0)::GX [32] 0 k ((w++32::r).drop<|w.length+1)=_;rw[Hu,P8 rfl,show w++32::r=(w++[32])++r by simp,Qt aIg]
def YV{l:List UInt8}{k:Nat}(h:CY l):GX [32] 0 k l=[l]:=by
 cases k with
 | zero=>rfl
 | succ k=>
  unfold GX;rw[oN h];rfl
def join:List (List UInt8)->List UInt8
 | []=>[]
 | [x]=>x
 | x::y::l=>x++32::join (y::l)
def aso(k:Nat)(l:List UInt8):∃x m,GX [32] 0 k l=x::m:=by
 cases k with
 | zero=>exact⟨l,[],rfl⟩
 | succ k=>
  obtain h|⟨w,r,h,rfl⟩:=Ll l
  .exact⟨l,[],YV h⟩
  .exact⟨w,_,Lj h⟩
def ko:∀(k:Nat) (l:List UInt8),join (GX [32] 0 k l)=l
 | 0,_=>rfl
 | k+1,l=>by
  obtain h|⟨w,r,h,rfl⟩:=Ll l
  .rw[YV h];rfl
  .rw[Lj h];have ih:=ko k r;obtain⟨x,m,e⟩:=aso k r;rw[e]at ih ⊢;show w++32::join (x::m)=_;rw[ih]
def ayF{ps:List A1}{ls:List (List UInt8)}(h:ps.map (·.data.toList)=ls):ps=ls.map B:=by
 subst h;rw[IT]
 conv=>lhs;rw[← aE ps]
 exact Gt λs _=>(B_L s).symm
def aGP(k:Nat)(s:A1):Iy (B [32]) 0 k s=(GX [32] 0 k<|L s).map B:=ayF<|Lib.splitB_data (B [32]) 0 k s
def awS{s:A1}(hs:s.size<=1048576):fw (s,B [32],())=I (((GX [32] 0 ((L s).count 32)<|L s).map B,()),()):=by
 show Ts _=_;unfold Ts;rw[A5 ⟨by show s.size<_;omega,by show 1<=1;omega⟩];show I ((Iy (B [32]) 0 (Lib.count (L s) [32]) s,()),())=_;rw[aGP,Lib.count_one]
def au1{s:A1}(hs:s.size<=1048576):ux (s,B [32],5,())=I (((GX [32] 0 (min 5 (s.size+1) - 1)<|L s).map B,()),()):=by
 show TW _=_;unfold TW;rw[A5 ⟨by show s.size<_;omega,by show 1<=1;omega,by show(1:Int)<=5;omega,by show(5:Int)<=_;omega⟩];show I ((Iy (B [32]) 0 (min 5 (s.size+1) - 1) s,()),())=_;rw[aGP]
def auv(u:Nat):CY (dcm u):=λb hb h=>by
 have:=Aa.1<|ZW (u+1) u J b hb;subst h;simp at this
def Hc{n:Int}(h0:0<=n):CY (B6 n):=by
 obtain⟨u,rfl⟩:=HS h0;rw[JD];exact auv u
def Mw{n:Int}(h0:0<=n)(h1:n<10000):Ad (B<|B6 n)=n:=by
 obtain⟨u,rfl⟩:=HS h0;rw[JD];exact og (by rw[BQ];exact Lr 4 u J J)<|L_B _
def J9{n:Int}(h0:0<=n)(h1:n<100000):Ar (B<|B6 n)=(n,Y):=by
 obtain⟨u,rfl⟩:=HS h0;rw[JD];exact lj (by rw[BQ];exact Lr 5 u J J)<|L_B _
open Classical in
def DK (s:A1):Option A3:=if h:∃n,Ax n=Y/\wr n=s then I (NH h) else G
def Ju{s t:A1}{x:Int}{r:List UInt8}(h:wd s=(B<|B6 x,B r)):(wd s).1=B (B6 x)/\L (wd s).2=r:=by rw[h];exact⟨rfl,rfl⟩
def mh{n:A3}(hf:Ur n){s:A1}(e:L s=wrL n):Am s 0=B (B6 n.fr)/\Am s 1=B (B6 n.nu)/\Am s 2=B (B6 n.to)/\Am s 3=B (B6 n.un)/\ED s 4=n.tx:=by
 obtain⟨f0,f1,t0,t1,n0,n1,u0,u1,s0,s1⟩:=hf;unfold wrL at e;have e0:=L5 (Hc f0) e;have c1:L (ED s 1)=_:=(Ju (t:=s) e0).2;have e1:=L5 (Hc (J:0<=n.nu)) c1;have c2:L (ED s 2)=_:=(Ju (t:=s) e1).2;have e2:=L5 (Hc t0) c2;have c3:L (ED s 3)=_:=(Ju (t:=s) e2).2;have e3:=L5 (Hc (J:0<=n.un)) c3;have c4:L (ED s 4)=_:=(Ju (t:=s) e3).2;exact⟨(Ju (t:=s) e0).1,(Ju (t:=s) e1).1,(Ju (t:=s) e2).1,(Ju (t:=s) e3).1,G5 c4⟩
def au8{n:A3}(hf:Ur n):Am (wr n) 0=B (B6 n.fr)/\Am (wr n) 1=B (B6 n.nu)/\Am (wr n) 2=B (B6 n.to)/\Am (wr n) 3=B (B6 n.un)/\ED (wr n) 4=n.tx:=mh hf<|Rf n
def auu{n m:A3}(h1:n.fr=m.fr)(h2:n.nu=m.nu)(h3:n.to=m.to)(h4:n.un=m.un)(h5:n.tx=m.tx):n=m:=by
 cases n;cases m;simp only at h1 h2 h3 h4 h5;subst h1 h2 h3 h4 h5;rfl
def Yp{x y:Int}(h0:0<=x)(h1:x<10000)(h2:0<=y)(h3:y<10000)(h:B (B6 x)=B (B6 y)):x=y:=by
 rw[← Mw h0 h1,← Mw h2 h3,h]
def axr{n m:A3}(hn:Ax n=Y)(hm:Ax m=Y)(h:wr n=wr m):n=m:=by
 have fn:=I9 hn;have fm:=I9 hm;have a:=mh fn (s:=wr n)<|Rf n;have b:=mh fm (s:=wr n) (by rw[h];exact Rf m);clear h hn hm;generalize wr n=s at a b;obtain⟨a0,a1,a2,a3,a4⟩:=a;obtain⟨b0,b1,b2,b3,b4⟩:=b;obtain⟨f0,f1,t0,t1,n0,n1,u0,u1,s0,s1⟩:=fn;obtain⟨g0,g1,v0,v1,m0,m1,w0,w1,z0,z1⟩:=fm;exact auu (Yp J J J J<|a0.symm.trans b0) (Yp J J J J<|a1.symm.trans b1) (Yp J J J J<|a2.symm.trans b2)
  (Yp J J J J<|a3.symm.trans b3) (a4.symm.trans b4)
def QF{n:A3}(h:Ax n=Y):DK (wr n)=I n:=by
 unfold DK;have hex:∃m,Ax m=Y/\wr m=wr n:=⟨n,h,rfl⟩;rw[dif_pos hex];have:=Iv hex;rw[axr this.1 h this.2]
def Js{s:A1}{n:A3}(h:DK s=I n):Ax n=Y/\wr n=s:=by
 unfold DK at h;split at h
 .rename_i hex;cases h;exact Iv hex
 .cases h
def p8{n:A3}(hf:Ur n):9<=(wr n).size:=by
 obtain⟨f0,f1,t0,t1,n0,n1,u0,u1,s0,s1⟩:=hf;have h:∀ {x:Int},0<=x->1<=(B6 x).length:=fun {x} h0=>by
  obtain⟨u,rfl⟩:=HS h0;rw[JD];exact List.length_pos_iff.2<|pb u
 rw[← Az,Rf];unfold wrL;have a:=h f0;have b:=h (J:0<=n.nu);have c:=h t0;have d:=h (J:0<=n.un);have e:(L n.tx).length=n.tx.size:=rfl;simp only[Aw,Bf];omega
def Ud(o:Option A3):(Int×Int×Int×Int×A1×D)×Bool×D:=match o with
 | some n=>((n.fr,n.nu,n.to,n.un,n.tx,()),Y,())
 | none=>((0,0,0,0,noB,()),A0,())
def aA0{s:A1}(hs:s.size<=1048576):SG (s,())=I (Ud<|DK s,()):=by
 unfold SG;have e4:Q5 (s,4,())=I (([Ad<|Am s 0,Ad<|Am s 1,Ad<|Am s 2,Ad<|Am s 3],ED s 4,()),()):=aaq (n:=4) hs J;have hr:=YB s 4;have i0:inb 0 [Ad<|Am s 0,Ad<|Am s 1,Ad<|Am s 2,Ad<|Am s 3].length=Y:=rfl;have i1:inb 1 [Ad<|Am s 0,Ad<|Am s 1,Ad<|Am s 2,Ad<|Am s 3].length=Y:=rfl;have i2:inb 2 [Ad<|Am s 0,Ad<|Am s 1,Ad<|Am s 2,Ad<|Am s 3].length=Y:=rfl;have i3:inb 3 [Ad<|Am s 0,Ad<|Am s 1,Ad<|Am s 2,Ad<|Am s 3].length=Y:=rfl;have r0: @rd Int aIk [Ad<|Am s 0,Ad<|Am s 1,Ad<|Am s 2,Ad<|Am s 3] 0=Ad (Am s 0):=rfl;have r1: @rd Int aIk [Ad<|Am s 0,Ad<|Am s 1,Ad<|Am s 2,Ad<|Am s 3] 1=Ad (Am s 1):=rfl;have r2: @rd Int aIk [Ad<|Am s 0,Ad<|Am s 1,Ad<|Am s 2,Ad<|Am s 3] 2=Ad (Am s 2):=rfl;have r3: @rd Int aIk [Ad<|Am s 0,Ad<|Am s 1,Ad<|Am s 2,Ad<|Am s 3] 3=Ad (Am s 3):=rfl;simp only[e4,A6,i0,i1,i2,i3,r0,r1,r2,r3,Vp<|show(ED s 4).size<=1048576 by omega,DC,D4,A2,show ∀c,Ag c Y=Y from λc=>rfl];generalize hx:(⟨Ad<|Am s 0,Ad<|Am s 1,Ad<|Am s 2,Ad<|Am s 3,ED s 4⟩:A3)=x at *;by_cases hc:s≠noB/\(if Ax x then wr x else noB)=s
 .obtain⟨h1,h2⟩:=hc;have hok:Ax x=Y:=by
   obtain h|h:=tf (Ax x)
   .exact h
   .rw[h]at h2;exact absurd h2.symm h1
  rw[hok]at h2;simp only[A2]at h2;rw[A9<|by simp[h1,hok,h2],← h2,QF hok];subst hx;simp only[h2];rfl
 .rw[A5 (by
   by_cases h1:s=noB
   .simp[h1]
   .have h2:¬(if Ax x then wr x else noB)=s:=λh=>hc ⟨h1,h⟩;simp[h1,h2])]
  cases h:DK s with
  | none=>rfl
  | some n=>
   exfalso;obtain⟨h1,h2⟩:=Js h;have hf:=I9 h1;obtain⟨a0,a1,a2,a3,a4⟩:=au8 hf;have hsz:=p8 hf;obtain⟨f0,f1,t0,t1,n0,n1,u0,u1,s0,s1⟩:=hf;rw[h2]at a0 a1 a2 a3 a4;rw[a0,a1,a2,a3,a4,Mw J J,Mw J J,Mw J J,Mw J J]at hx;have hx:n=x:=hx;subst hx;refine hc ⟨λe=> ?_,by rw[h1];exact h2⟩;rw[h2,e]at hsz;exact absurd hsz<|by decide
def asn{n:A3}(hf:Ur n):GX [32] 0 4 (wrL n)=[B6 n.fr,B6 n.nu,B6 n.to,B6 n.un,L n.tx]:=by
 obtain⟨f0,f1,t0,t1,n0,n1,u0,u1,s0,s1⟩:=hf;unfold wrL;rw[Lj<|Hc f0,Lj<|Hc J,Lj<|Hc t0,Lj<|Hc J];rfl
def km:∀(k:Nat) (l:List UInt8),∀p∈GX [32] 0 k l,p.length<=l.length
 | 0,l,p,hp=>by
  obtain rfl:=C9.1 hp;exact Au _
 | k+1,l,p,hp=>by
  obtain h|⟨w,r,h,rfl⟩:=Ll l
  .rw[YV h]at hp;obtain rfl:=C9.1 hp;exact Au _
  .rw[Lj h]at hp;obtain rfl|hp:=Bl.1 hp
   .simp
   .have:=km k r p hp;simp;omega
def lE:∀(k:Nat) (l:List UInt8),(GX [32] 0 k l).length<=k+1
 | 0,l=>Au _
 | k+1,l=>by
  obtain h|⟨w,r,h,rfl⟩:=Ll l
  .rw[YV h];simp
  .rw[Lj h];have:=lE k r;simp;omega
def akW{s:A1}(hs:s.size<=1048576):WC (s,())=I (Ud<|DK s,()):=by
 unfold WC;simp only[au1 hs,A6];generalize hk:min 5 (s.size+1) - 1=k;have hsz:=km k<|L s;have hln:=lE k<|L s;have hwr:∀n,DK s=I n->GX [32] 0 k (L s)=[B6 n.fr,B6 n.nu,B6 n.to,B6 n.un,L n.tx]:=λn hn=>by
  obtain⟨h1,h2⟩:=Js hn;have:=p8<|I9 h1;rw[h2]at this;obtain rfl:k=4:=J
  rw[← h2,Rf];exact asn<|I9 h1
 generalize GX [32] 0 k (L s)=ps at *;by_cases h5:ps.length=5
 .match ps,h5 with
  | [p0,p1,p2,p3,p4],_=>
   have hb:∀p∈[p0,p1,p2,p3,p4],(B p).size<=1048576:=λp hp=>by
    have:=hsz p hp;rw[Az]at this;rw[BQ];omega
   have e5:(!decide (((([p0,p1,p2,p3,p4]:List (List UInt8)).map B).length:Int)=5))=A0:=rfl;have e6:(U (0<=4)&&U ((4:Int)<=((([p0,p1,p2,p3,p4]:List (List UInt8)).map B).length:Int)))=Y:=rfl;have e7:BR (AM 4) (([p0,p1,p2,p3,p4]:List (List UInt8)).map B)=[B p0,B p1,B p2,B p3]:=rfl;simp only[e5,e6,e7,A2,A4];rw[aEQ aIg (λw hw=>by
    simp only[Bl,List.not_mem_nil,or_false]at hw;obtain rfl|rfl|rfl|rfl:=hw
    .exact hb p0 aIg
    .exact hb p1 aIg
    .exact hb p2 aIg
    .exact hb p3 aIg)]
   have nW:An [B p0,B p1,B p2,B p3].length (λi=>(Ar<|[B p0,B p1,B p2,B p3].getD i noB).2)=((Ar<|B p0).2&&((Ar<|B p1).2&&((Ar<|B p2).2&&((Ar<|B p3).2&&Y)))):=rfl;rw[nW];obtain ha|ha:=tf ((Ar<|B p0).2&&((Ar<|B p1).2&&((Ar<|B p2).2&&((Ar<|B p3).2&&Y))))
   .rw[ha];simp only[A2,A6,AB,A4,DU,Jc];have i0:inb 0 [(Ar<|B p0).1,(Ar<|B p1).1,(Ar<|B p2).1,(Ar<|B p3).1].length=Y:=rfl;have i1:inb 1 [(Ar<|B p0).1,(Ar<|B p1).1,(Ar<|B p2).1,(Ar<|B p3).1].length=Y:=rfl;have i2:inb 2 [(Ar<|B p0).1,(Ar<|B p1).1,(Ar<|B p2).1,(Ar<|B p3).1].length=Y:=rfl;have i3:inb 3 [(Ar<|B p0).1,(Ar<|B p1).1,(Ar<|B p2).1,(Ar<|B p3).1].length=Y:=rfl;have i4:inb 4 [B p0,B p1,B p2,B p3,B p4].length=Y:=rfl;have r0: @rd Int aIk [(Ar<|B p0).1,(Ar<|B p1).1,(Ar<|B p2).1,(Ar<|B p3).1] 0=(Ar<|B p0).1:=rfl;have r1: @rd Int aIk [(Ar<|B p0).1,(Ar<|B p1).1,(Ar<|B p2).1,(Ar<|B p3).1] 1=(Ar<|B p1).1:=rfl;have r2: @rd Int aIk [(Ar<|B p0).1,(Ar<|B p1).1,(Ar<|B p2).1,(Ar<|B p3).1] 2=(Ar<|B p2).1:=rfl;have r3: @rd Int aIk [(Ar<|B p0).1,(Ar<|B p1).1,(Ar<|B p2).1,(Ar<|B p3).1] 3=(Ar<|B p3).1:=rfl;have r4: @rd A1 aIr [B p0,B p1,B p2,B p3,B p4] 4=B p4:=rfl;have hp4:=hb p4 aIg;simp only[i0,i1,i2,i3,i4,r0,r1,r2,r3,r4,A2,Wm hp4,Vw hp4,A6,DC,D4,show ∀c,Ag c Y=Y from λc=>rfl];generalize hx:(⟨(Ar<|B p0).1,(Ar<|B p1).1,(Ar<|B p2).1,(Ar<|B p3).1,B p4⟩:A3)=x at *;by_cases hc:Ax x=Y/\wr x=s
    .obtain⟨h1,h2⟩:=hc;rw[A9<|by simp[h1,h2],← h2,QF h1];subst hx;rfl
    .rw[A5 (by
      obtain h1|h1:=tf (Ax x)
      .have h2:¬wr x=s:=λh=>hc ⟨h1,h⟩;simp[h1,h2]
      .simp[h1])]
     cases h:DK s with
     | none=>rfl
     | some n=>
      exfalso;obtain⟨h1,h2⟩:=Js h;have hf:=I9 h1;have hp:=hwr n h;simp only[ML,and_true]at hp;obtain⟨rfl,rfl,rfl,rfl,rfl⟩:=hp;obtain⟨f0,f1,t0,t1,n0,n1,u0,u1,s0,s1⟩:=hf;rw[J9 J J,J9 J J,J9 J J,J9 J J,B_L]at hx;have hx:n=x:=hx;subst hx;exact hc ⟨h1,h2⟩
   .rw[ha];simp only[A6,AH,A2,A4];cases h:DK s with
    | none=>rfl
    | some n=>
     exfalso;obtain⟨h1,h2⟩:=Js h;have hf:=I9 h1;have hp:=hwr n h;simp only[ML,and_true]at hp;obtain⟨rfl,rfl,rfl,rfl,rfl⟩:=hp;obtain⟨f0,f1,t0,t1,n0,n1,u0,u1,s0,s1⟩:=hf;rw[J9 J J,J9 J J,J9 J J,J9 J J]at ha;cases ha
 .have e5:(!decide (((ps.map B).length:Int)=5))=Y:=by simp;omega
  simp only[e5,A2];cases h:DK s with
  | none=>rfl
  | some n=>
   have:=congrArg Jb<|hwr n h;simp at this;exact absurd this h5
abbrev KL:=Int×Int×Int×List A3×List Mark×List A3×D
abbrev tK(k:AE):KL:=(k.id,k.ti,k.nx,k.held,k.marks,k.inbox,())
def B4(r:Option ((KL×Bool×D)×D))(o:Option AE):Prop:=match o with
 | some k=>r=I ((tK k,Y,()),())
 | none=>∃t,r=I ((t,A0,()),())
def B4.no{t:KL}:B4 (I ((t,A0,()),())) G:=⟨t,rfl⟩
def B4.eta{r:Option ((KL×Bool×D)×D)}{o:Option AE}(h:B4 r o):
  B4 (r.bind λr=>I (((r.1.1.1,r.1.1.2.1,r.1.1.2.2.1,r.1.1.2.2.2.1,r.1.1.2.2.2.2.1,r.1.1.2.2.2.2.2.1,()),r.1.2.1,()),())) o:=by
 cases o with
 | some k=>
  have:r=_:=h;subst this;rfl
 | none=>
  obtain⟨t,rfl⟩:=h;exact⟨t,rfl⟩
def B4.ite{c:Bool}{a b:Option ((KL×Bool×D)×D)}{x y:Option AE}(h1:c=Y->B4 a x)(h2:c=A0->B4 b y):B4 (if c then a else b) (if c then x else y):=by
 cases c
 .exact h2 rfl
 .exact h1 rfl
def B4.neg{c:Bool}{t:KL}{b:Option ((KL×Bool×D)×D)}{y:Option AE}(h2:c=A0->B4 b y):B4 (if c then I ((t,A0,()),()) else b) (if c then G else y):=B4.ite (λ_=>B4.no) h2
def Ek(k:AE)(n:A3):Option AE:=
 if !Ax n then G else if U (n.un<=k.ti) then G else if U (0<=AY k.held n.fr n.nu) then G else if U (0<=AY k.inbox n.fr n.nu) then G else if U (0<=Bp k.marks n.fr n.nu) then G else
 if U (12<(j8 k.held:Int)+k.marks.length+1) then G else
 if U (n.to=k.id) then I ⟨k.id,k.ti,k.nx,k.held,EF k.marks ⟨n.fr,n.nu,n.un⟩,Dx k.inbox n⟩ else I ⟨k.id,k.ti,k.nx,Dx k.held n,k.marks,k.inbox⟩
def aBZ{id ti nx fr nu tt un:Int}{tx:A1}{held:List A3}{marks:List Mark}{inbox:List A3}(sm:DV held marks inbox)(hs:tx.size<=1048576):
  B4 (Wl ((id,ti,nx,held,marks,inbox,()),(fr,nu,tt,un,tx,()),())) (Ek ⟨id,ti,nx,held,marks,inbox⟩ ⟨fr,nu,tt,un,tx⟩):=by
 have hl:=sm.hl;have ml:=sm.ml;unfold Wl Ek;simp only[Wm hs,Jq sm.hl,Jq sm.il,Sc sm.ml,iS sm.hl,iS sm.il,jY sm.ml,A6,
  AZ (n:=(held.length:Int)+marks.length) J J,AZ (n:=(held.length:Int)+marks.length+1) J J]
 exact B4.neg λ_=>B4.neg λ_=>B4.neg λ_=>B4.neg λ_=>B4.neg λ_=>B4.neg λ_=>B4.ite (λ_=>rfl) λ_=>rfl
def Zo{l:List A3}{n:A3}(h:AY l n.fr n.nu<0):PT l n=Dx l n:=by
 refine aFs λx hx=> ?_;have hne:¬(x.fr=n.fr/\x.nu=n.nu):=λhc=>by
  obtain⟨_,h2⟩|⟨i,h1,_⟩:=GD l.length (λi=>U ((nA l i).fr=n.fr)&&U ((nA l i).nu=n.nu))
  .obtain⟨j,hj,rfl⟩:=Cq hx;have:=h2 j hj;rw[DA<|Ap hj]at this;simp[hc.1,hc.2]at this
  .unfold AY at h;omega
 unfold bef;rw[MK];simp;omega
def mq{l:List Mark}{n:Mark}(h:Bp l n.mf n.mn<0):PU l n=EF l n:=by
 refine aFs λx hx=> ?_;have hne:¬(x.mf=n.mf/\x.mn=n.mn):=λhc=>by
  obtain⟨_,h2⟩|⟨i,h1,_⟩:=GD l.length (λi=>U ((mA l i).mf=n.mf)&&U ((mA l i).mn=n.mn))
  .obtain⟨j,hj,rfl⟩:=Cq hx;have:=h2 j hj;rw[Fg<|Ap hj]at this;simp[hc.1,hc.2]at this
  .unfold Bp at h;omega
 unfold bef;rw[MK];simp;omega
def aD6{id ti nx fr nu tt un:Int}{tx:A1}{held:List A3}{marks:List Mark}{inbox:List A3}(sm:DV held marks inbox)(hs:tx.size<=1048576):
  B4 (WQ ((id,ti,nx,held,marks,inbox,()),(fr,nu,tt,un,tx,()),())) (Ek ⟨id,ti,nx,held,marks,inbox⟩ ⟨fr,nu,tt,un,tx⟩):=by
 have hl:=sm.hl;have ml:=sm.ml;have azm:fV ((id,ti,nx,held,marks,inbox,()),(fr,nu,tt,un,tx,()),())=
   I ((Ax ⟨fr,nu,tt,un,tx⟩&&(U (ti<un)&&(U (AY held fr nu<0)&&(U (Bp marks fr nu<0)&&U (AY inbox fr nu<0)))),()),()):=by
  unfold fV;simp only[Wr hs,Jk sm.hl,Jk sm.il,SS sm.ml,A6,DC,D4,show ∀c,Ag c Y=Y from λc=>rfl,A2];obtain h1|h1:=tf (Ax ⟨fr,nu,tt,un,tx⟩)<;>obtain h2|h2:=tf (U<|ti<un)<;>obtain h3|h3:=tf (U<|AY held fr nu<0)<;>simp only[h1,h2,h3,A2,A4,AS,AL]
 unfold WQ Ek;have Ep:=di (l:=held) (fr:=fr) (nu:=nu) (tt:=tt) (un:=un) (tx:=tx) sm.hl;have bS:=di (l:=inbox) (fr:=fr) (nu:=nu) (tt:=tt) (un:=un) (tx:=tx) sm.il;have azd:=te (l:=marks) (mf:=fr) (mn:=nu) (mu:=un) sm.ml;simp only[azm,Ep,bS,azd,A6];obtain h1|h1:=tf (Ax ⟨fr,nu,tt,un,tx⟩)
 .rcases EV un ti with h2|h2
  .simp only[h1,h2,AW,Ac,AS,AL,AH,AB,A2,A4];exact B4.no
  .rcases sgn (AY held fr nu) with h3|h3
   .rcases sgn (Bp marks fr nu) with h4|h4
    .rcases sgn (AY inbox fr nu) with h5|h5
     .have q1:AY held fr nu<0:=of_eq_true h3.1;have q2:Bp marks fr nu<0:=of_eq_true h4.1;have q3:AY inbox fr nu<0:=of_eq_true h5.1;have lN:=OI (λx:A3=>bef x.fr x.nu fr nu) held ⟨fr,nu,tt,un,tx⟩;have lM:=OI (λx:Mark=>bef x.mf x.mn fr nu) marks ⟨fr,nu,un⟩;have eN:PT held ⟨fr,nu,tt,un,tx⟩=Dx held ⟨fr,nu,tt,un,tx⟩:=Zo q1;have eI:PT inbox ⟨fr,nu,tt,un,tx⟩=Dx inbox ⟨fr,nu,tt,un,tx⟩:=Zo q3;have eM:PU marks ⟨fr,nu,un⟩=EF marks ⟨fr,nu,un⟩:=mq q2;have l1:((Dx held ⟨fr,nu,tt,un,tx⟩).length:Int)=held.length+1:=by unfold Dx;rw[lN];omega
      have l2:((EF marks ⟨fr,nu,un⟩).length:Int)=marks.length+1:=by unfold EF;rw[lM];omega
      simp only[h1,h2,h3,h4,h5,eN,eI,eM,l1,l2,AW,Ac,AS,AB,A4,
       AZ (n:=(held.length:Int)+1+marks.length) J J,AZ (n:=(held.length:Int)+(marks.length+1)) J J]
      obtain h6|h6:=EV ((held.length:Int)+marks.length+1) 12
      .have a1:U ((held.length:Int)+1+marks.length<=12)=Y:=by have:=of_eq_true h6.1;simp;omega
       have a2:U ((held.length:Int)+(marks.length+1)<=12)=Y:=by have:=of_eq_true h6.1;simp;omega
       simp only[a1,a2,h6,Ac,A4];by_cases h7:tt=id
       .simp only[h7,AW,AB,A4,A2];rfl
       .simp only[h7,Ac,AH,A4,A2];rfl
      .have a1:U ((held.length:Int)+1+marks.length<=12)=A0:=by have:=of_eq_true h6.2;simp;omega
       have a2:U ((held.length:Int)+(marks.length+1)<=12)=A0:=by have:=of_eq_true h6.2;simp;omega
       simp only[a1,a2,h6,AW,A2];by_cases h7:tt=id
       .simp only[h7,AW,AB,A4];exact B4.no
       .simp only[h7,Ac,AH,A2];exact B4.no
     .simp only[h1,h2,h3,h4,h5,AW,Ac,AS,AL,AH,AB,A2,A4];exact B4.no
    .simp only[h1,h2,h3,h4,AW,Ac,AS,AL,AH,AB,A2,A4,ite_self];exact B4.no
   .simp only[h1,h2,h3,AW,Ac,AS,AL,AH,AB,A2,A4];exact B4.no
 .simp only[h1,AL,AH,A2];exact B4.no
abbrev E8:A1:=B [116,105,109,101]
abbrev Ew:A1:=B [110,101,120,116]
abbrev Df:A1:=B [111,119,110]
abbrev EW:A1:=B [116,97,107,101]
abbrev ET:A1:=B [104,101,108,100]
abbrev Ef:A1:=B [105,110,98,111,120]
abbrev Bx:A1:=B [108,101,116]
abbrev CM:A1:=B [101,97,116]
abbrev D6:A1:=B [109,97,114,107]
def Ho(k:AE)(w:A1)(n:Int):Option AE:=
 if U (w=E8)&&U (k.ti<n) then I ⟨k.id,n,k.nx,HE n k.held,K5 n k.marks,k.inbox⟩ else if U (w=Ew)&&U (k.nx<n) then I ⟨k.id,k.ti,n,k.held,k.marks,k.inbox⟩ else G
def aqU{id ti nx n:Int}{w:A1}{held:List A3}{marks:List Mark}{inbox:List A3}(sm:DV held marks inbox):
  B4 (X6 ((id,ti,nx,held,marks,inbox,()),w,n,())) (Ho ⟨id,ti,nx,held,marks,inbox⟩ w n):=by
 unfold X6 Ho;simp only[an3 sm,A6];exact B4.ite (λ_=>rfl) λ_=>B4.ite (λ_=>rfl) λ_=>B4.no
def GG(k:AE)(w:A1)(n:A3):Option AE:=
 if U (w=Df)&&(U (n.fr=k.id)&&U (n.nu=k.nx)) then Ek ⟨k.id,k.ti,k.nx+1,k.held,k.marks,k.inbox⟩ n else if U (w=EW)&& !decide (n.fr=k.id) then Ek k n else
 if U (0<=AY k.held n.fr n.nu)||decide (0<=AY k.inbox n.fr n.nu) then G else if U (w=ET) then I ⟨k.id,k.ti,k.nx,Dx k.held n,k.marks,k.inbox⟩ else if U (w=Ef) then I ⟨k.id,k.ti,k.nx,k.held,k.marks,Dx k.inbox n⟩ else G
def ap7{id ti nx fr nu tt un:Int}{w tx:A1}{held:List A3}{marks:List Mark}{inbox:List A3}(sm:DV held marks inbox)(hs:tx.size<=1048576)(h0:0<=nx)(h1:nx<=1000):
  B4 (Wy ((id,ti,nx,held,marks,inbox,()),w,(fr,nu,tt,un,tx,()),())) (GG ⟨id,ti,nx,held,marks,inbox⟩ w ⟨fr,nu,tt,un,tx⟩):=by
 have hj:(if U (w=Df) then(I (.inr (w,(id,ti,nx,held,marks,inbox,()),(fr,nu,tt,un,tx,()),(0,0,0,([]:List A3),([]:List Mark),([]:List A3),()),U (fr=id)&&U (nu=nx),())):Option (((KL×Bool×D)×D) ⊕ (A1×KL×(Int×Int×Int×Int×A1×D)×KL×Bool×D))) else
   I (.inr (w,(id,ti,nx,held,marks,inbox,()),(fr,nu,tt,un,tx,()),(0,0,0,([]:List A3),([]:List Mark),([]:List A3),()),A0,())))=
   I (.inr (w,(id,ti,nx,held,marks,inbox,()),(fr,nu,tt,un,tx,()),(0,0,0,([]:List A3),([]:List Mark),([]:List A3),()),U (w=Df)&&(U (fr=id)&&U (nu=nx)),())):=by
  cases U (w=Df)<;>rfl
 unfold Wy GG;simp only[hj,Bg];refine B4.ite (λ_=> ?_) λ_=> ?_
 .rw[AZ J J];exact(aBZ sm hs).eta
 refine B4.ite (λ_=>(aBZ sm hs).eta) λ_=> ?_;simp only[Jq sm.hl,Jq sm.il,A6,DC,D4,show ∀c,Ag c Y=Y from λc=>rfl,A2];refine B4.neg λ_=> ?_;simp only[iS sm.hl,iS sm.il,A6];exact B4.ite (λ_=>rfl) λ_=>B4.ite (λ_=>rfl) λ_=>B4.no
def FB{l:List A3}{f n:Int}(h:0<=AY l f n):(AY l f n).toNat<l.length/\((AY l f n).toNat:Int)=AY l f n/\(nA l (AY l f n).toNat).fr=f/\(nA l (AY l f n).toNat).nu=n:=by
 obtain⟨h1,_⟩|⟨i,h1,h2,h3,_⟩:=GD l.length (λi=>U ((nA l i).fr=f)&&U ((nA l i).nu=n))
 .unfold AY at h;omega
 .have e:AY l f n=(i:Int):=h1;rw[e];simp at h3;exact⟨h2,rfl,h3.1,h3.2⟩
def ZP{l:List Mark}{f n:Int}(h:0<=Bp l f n):(Bp l f n).toNat<l.length/\((Bp l f n).toNat:Int)=Bp l f n/\(mA l (Bp l f n).toNat).mf=f/\(mA l (Bp l f n).toNat).mn=n:=by
 obtain⟨h1,_⟩|⟨i,h1,h2,h3,_⟩:=GD l.length (λi=>U ((mA l i).mf=f)&&U ((mA l i).mn=n))
 .unfold Bp at h;omega
 .have e:Bp l f n=(i:Int):=h1;rw[e];simp at h3;exact⟨h2,rfl,h3.1,h3.2⟩
def My{l:List A3}{f n:Int}(h:0<=AY l f n):inb (AY l f n) l.length=Y:=by
 obtain⟨h1,h2,_⟩:=FB h;rw[← h2];exact AR h1
def aFv{l:List A3}{f n:Int}:Ag (U<|0<=AY l f n) (inb (AY l f n) l.length)=Y:=by
 obtain h|h:=tf (U<|0<=AY l f n)
 .rw[h,Ie,My<|BZ h]
 .rw[h,Hb]
def EG(l:List A3)(m:Mark):Bool:=U (0<=AY l m.mf m.mn)&&U ((nA l (AY l m.mf m.mn).toNat).un=m.mu)
def Et(k:AE)(w:A1)(m:Mark):Option AE:=
 if U (w=Bx)&&EG k.held m then I ⟨k.id,k.ti,k.nx,EY k.held (AY k.held m.mf m.mn).toNat,EF k.marks m,k.inbox⟩ else
 if U (w=CM)&&EG k.inbox m then I ⟨k.id,k.ti,k.nx,k.held,k.marks,EY k.inbox (AY k.inbox m.mf m.mn).toNat⟩ else
 if U (w=D6)&& !decide (0<=Bp k.marks m.mf m.mn) then I ⟨k.id,k.ti,k.nx,k.held,EF k.marks m,k.inbox⟩ else G
def abV{l:List A3}{f n:Int}(hl:l.length<=1048576)(h:0<=AY l f n):SO (l,AY l f n,())=I ((EY l (AY l f n).toNat,()),()):=by
 obtain⟨h1,h2,_⟩:=FB h
 conv=>lhs;rw[← h2]
 exact an1 hl h1
def ap8{id ti nx a b c:Int}{w:A1}{held:List A3}{marks:List Mark}{inbox:List A3}(sm:DV held marks inbox):
  B4 (Wj ((id,ti,nx,held,marks,inbox,()),w,(a,b,c,()),())) (Et ⟨id,ti,nx,held,marks,inbox⟩ w ⟨a,b,c⟩):=by
 unfold Wj Et;simp only[Jq sm.hl,Jq sm.il,Sc sm.ml,A6,aFv,Hb,A2];have hj:(if U (w=Bx) then(I (.inr (w,(id,ti,nx,held,marks,inbox,()),(a,b,c,()),(0,0,0,([]:List A3),([]:List Mark),([]:List A3),()),AY held a b,AY inbox a b,U<|0<=Bp marks a b,U (0<=AY held a b)&&U ((@rd A3 y5 held<|AY held a b).un=c),())):Option (((KL×Bool×D)×D) ⊕ (A1×KL×(Int×Int×Int×D)×KL×Int×Int×Bool×Bool×D))) else
   I (.inr (w,(id,ti,nx,held,marks,inbox,()),(a,b,c,()),(0,0,0,([]:List A3),([]:List Mark),([]:List A3),()),AY held a b,AY inbox a b,U<|0<=Bp marks a b,A0,())))=
   I (.inr (w,(id,ti,nx,held,marks,inbox,()),(a,b,c,()),(0,0,0,([]:List A3),([]:List Mark),([]:List A3),()),AY held a b,AY inbox a b,U<|0<=Bp marks a b,U (w=Bx)&&EG held ⟨a,b,c⟩,())):=by
  cases U (w=Bx)<;>rfl
 simp only[hj,Bg];refine B4.ite (λh=> ?_) λ_=> ?_
 .simp only[EG,AD,decide_eq_true_eq]at h;simp only[abV sm.hl h.2.1,jY sm.ml,A6];rfl
 simp only[aFv,Hb,A2];have hj2:(if U (w=CM) then(I (.inr (w,(id,ti,nx,held,marks,inbox,()),(a,b,c,()),(0,0,0,([]:List A3),([]:List Mark),([]:List A3),()),AY inbox a b,U<|0<=Bp marks a b,U (0<=AY inbox a b)&&U ((@rd A3 y5 inbox<|AY inbox a b).un=c),())):Option (((KL×Bool×D)×D) ⊕ (A1×KL×(Int×Int×Int×D)×KL×Int×Bool×Bool×D))) else
   I (.inr (w,(id,ti,nx,held,marks,inbox,()),(a,b,c,()),(0,0,0,([]:List A3),([]:List Mark),([]:List A3),()),AY inbox a b,U<|0<=Bp marks a b,A0,())))=
   I (.inr (w,(id,ti,nx,held,marks,inbox,()),(a,b,c,()),(0,0,0,([]:List A3),([]:List Mark),([]:List A3),()),AY inbox a b,U<|0<=Bp marks a b,U (w=CM)&&EG inbox ⟨a,b,c⟩,())):=by
  cases U (w=CM)<;>rfl
 simp only[hj2,Bg];refine B4.ite (λh=> ?_) λ_=> ?_
 .simp only[EG,AD,decide_eq_true_eq]at h;simp only[abV sm.il h.2.1,A6];rfl
 simp only[jY sm.ml,A6];exact B4.ite (λ_=>rfl) λ_=>B4.no
structure Eo (k:AE):Prop where
 id0:0<=k.id
 id1:k.id<=3
 t0:0<=k.ti
 t1:k.ti<=999
 n0:1<=k.nx
 n1:k.nx<=100
 hl:k.held.length<=6
 h:DQ k.held=Y
 ml:k.marks.length<=12
 m:FL k.marks=Y
 il:k.inbox.length<=6
 i:DQ k.inbox=Y
 ho:∀i,i<k.held.length->HD k.id k.ti k.nx k.held k.marks i=Y
 mo:∀i,i<k.marks.length->JC k.id k.ti k.nx k.marks i=Y
 io:∀i,i<k.inbox.length->Ij k.id k.ti k.nx k.marks k.inbox i=Y
def Bz{k:AE}(h:Av k=Y):Eo k:=by
 unfold Av at h;simp only[AD,Aa,decide_eq_true_eq,CA]at h;obtain⟨⟨a,b⟩,⟨c,d⟩,⟨e,f⟩,⟨g,i⟩,⟨j,l⟩,⟨m,n⟩,o,p,q⟩:=h;exact⟨a,b,c,d,e,f,J,i,J,l,J,n,o,p,q⟩
def H8{l:List A3}(h:DQ l=Y){i:Nat}(hi:i<l.length):Ax (nA l i)=Y:=by
 have:=CA.1 h i hi;simp only[AD]at this;exact this.1
def T7{l:List Mark}(h:FL l=Y){i:Nat}(hi:i<l.length):F2 (mA l i)=Y:=by
 have:=CA.1 h i hi;simp only[AD]at this;exact this.1
def QC{l:List A3}(h:DQ l=Y){x:A3}(hx:x∈l):Ax x=Y:=by
 obtain⟨i,hi,rfl⟩:=Cq hx;have:=H8 h hi;rwa[DA<|Ap hi]at this
def aDC{l:List Mark}(h:FL l=Y){x:Mark}(hx:x∈l):F2 x=Y:=by
 obtain⟨i,hi,rfl⟩:=Cq hx;have:=T7 h hi;rwa[Fg<|Ap hi]at this
def Kl{n:A3}(h:Ax n=Y):GJ n:=by
 have:=(I9 h).s1;unfold GJ;omega
def Eo.sm{k:AE}(h:Eo k):DV k.held k.marks k.inbox:=by
 obtain⟨id0,id1,t0,t1,n0,n1,hl,hh,ml,m,il,hi,ho,mo,io⟩:=h;exact⟨J,λx hx=>Kl<|QC hh hx,J,J,λx hx=>Kl<|QC hi hx⟩
def QY{l:List A3}{n:A3}(hl:l.length<=6)(h:∀x∈l,GJ x)(hn:GJ n):(Dx l n).length<=1048576/\ ∀x∈Dx l n,GJ x:=by
 refine⟨by unfold Dx;rw[OI];omega,λx hx=> ?_⟩;obtain rfl|hx:=Gh _ hx
 .exact hn
 .exact h x hx
def TX{l:List Mark}{n:Mark}(hl:l.length<=12):(EF l n).length<=1048576:=by unfold EF;rw[OI];omega
def Zp{l:List A3}{i:Nat}(hl:l.length<=6)(h:∀x∈l,GJ x):(EY l i).length<=1048576/\ ∀x∈EY l i,GJ x:=by
 refine⟨by unfold EY;simp;omega,λx hx=> ?_⟩;unfold EY at hx;obtain hx|hx:=BM.1 hx
 .exact h x (IL hx)
 .exact h x<|KE hx
abbrev SmK(k:AE):Prop:=DV k.held k.marks k.inbox
def ZZ{k k':AE}{n:A3}(hf:Eo k)(hk:k'.held=k.held/\k'.marks=k.marks/\k'.inbox=k.inbox){o:AE}(h:Ek k' n=I o):SmK o:=by
 have sm:=hf.sm;have l1:=hf.hl;have l2:=hf.ml;have l3:=hf.il;unfold Ek at h;rw[hk.1,hk.2.1,hk.2.2]at h;split at h
 .cases h
 rename_i hn;have hn:GJ n:=Kl (by simpa using hn)
 iterate 5 (split at h;· cases h)
 split at h<;>cases h
 .have a:=QY l3 sm.i hn;exact⟨sm.hl,sm.h,TX l2,a.1,a.2⟩
 .have a:=QY l1 sm.h hn;exact⟨a.1,a.2,sm.ml,sm.il,sm.i⟩
def awG{k:AE}{w:A1}{n:Int}(hf:Eo k){o:AE}(h:Ho k w n=I o):SmK o:=by
 have sm:=hf.sm;have l1:=hf.hl;have l2:=hf.ml;unfold Ho at h;split at h
 .cases h;have a:=Ix (λx:A3=>U<|n<x.un) k.held;have b:=Ix (λx:Mark=>U<|n<x.mu) k.marks;exact⟨by unfold HE;simp only;omega,λx hx=>sm.h x (FH.1 hx).1,by unfold K5;simp only;omega,sm.il,sm.i⟩
 .split at h<;>cases h;exact sm
def arw{k:AE}{w:A1}{n:A3}(hf:Eo k)(hn:Ax n=Y){o:AE}(h:GG k w n=I o):SmK o:=by
 have sm:=hf.sm;unfold GG at h;split at h
 .exact ZZ (k':=⟨k.id,k.ti,k.nx+1,k.held,k.marks,k.inbox⟩) hf ⟨rfl,rfl,rfl⟩ h
 split at h
 .exact ZZ (k':=k) hf ⟨rfl,rfl,rfl⟩ h
 split at h
 .cases h
 split at h
 .cases h;have a:=QY hf.hl sm.h<|Kl hn;exact⟨a.1,a.2,sm.ml,sm.il,sm.i⟩
 split at h<;>cases h;have a:=QY hf.il sm.i<|Kl hn;exact⟨sm.hl,sm.h,sm.ml,a.1,a.2⟩
def arz{k:AE}{w:A1}{m:Mark}(hf:Eo k){o:AE}(h:Et k w m=I o):SmK o:=by
 have sm:=hf.sm;unfold Et at h;split at h
 .cases h;have a:=Zp (i:=(AY k.held m.mf m.mn).toNat) hf.hl sm.h;exact⟨a.1,a.2,TX hf.ml,sm.il,sm.i⟩
 split at h
 .cases h;have a:=Zp (i:=(AY k.inbox m.mf m.mn).toNat) hf.il sm.i;exact⟨sm.hl,sm.h,sm.ml,a.1,a.2⟩
 split at h<;>cases h;exact⟨sm.hl,sm.h,TX hf.ml,sm.il,sm.i⟩
def lA{k:AE}{w:A1}{m:Mark}(hf:Eo k)(hm:F2 m=A0):Et k w m=G\/ ∃o,Et k w m=I o/\Av o=A0:=by
 have hit:∀l,DQ l=Y->EG l m=A0:=λl hl=>by
  unfold EG;obtain h|h:=tf (U<|0<=AY l m.mf m.mn)
  .obtain⟨h1,_,h2,h3⟩:=FB<|BZ h;rw[h,AS,decide_eq_false_iff_not];intro h4;have h5:=I9<|H8 hl h1;have:F2 m=Y:=by
    unfold F2;simp only[AD,Aa];have:=h5.f0;have:=h5.f1;have:=h5.n0;have:=h5.n1;have:=h5.u0;have:=h5.u1;omega
   rw[this]at hm;cases hm
  .rw[h];rfl
 unfold Et;rw[hit _ hf.h,hit _ hf.i,Ba,Ba,A4,A4];split
 .refine .inr ⟨_,rfl, ?_⟩;obtain h|h:=tf (Av ⟨k.id,k.ti,k.nx,k.held,EF k.marks m,k.inbox⟩)
  .have:=aDC (Bz h).m (Ii (λx=>bef x.mf x.mn m.mf m.mn) (l:=k.marks) (n:=m)<|.inl rfl);rw[hm]at this;cases this
  .exact h
 .exact .inl rfl
def HB(r:A1):Option Mark:=match GX [32] 0 ((L r).count 32) (L r) with
 | [p,q,t]=>if(Ar<|B p).2&&((Ar<|B q).2&&((Ar<|B t).2&&Y)) then I ⟨(Ar<|B p).1,(Ar<|B q).1,(Ar<|B t).1⟩ else G
 | _=>G
def Bb(k:AE)(w r:A1):Option AE:=
 if U (w=E8)||decide (w=Ew) then(if(Ar r).2 then Ho k w (Ar r).1 else G) else
 if U (w=Df)||(U (w=EW)||(U (w=ET)||decide (w=Ef))) then(match DK r with|some n=>GG k w n|none=>G) else
 if U (w=Bx)||(U (w=CM)||decide (w=D6)) then(match HB r with|some m=>Et k w m|none=>G) else G
def GL(k:AE)(rec:A1):Option AE:=if !(Nf<|L rec).isSome then G else Bb k (wd rec).1 (wd rec).2
def auF{id ti nx:Int}{w r:A1}{held:List A3}{marks:List Mark}{inbox:List A3}(sm:DV held marks inbox)(hr:r.size<=1048576):
  B4 ((fw (r,B [32],())).bind λr46=>(SJ (r46.1.1,())).bind λr47=>
   if r47.1.2.1&&U ((j8 r47.1.1:Int)=3) then(if inb 0 r47.1.1.length then(if inb 1 r47.1.1.length then(if inb 2 r47.1.1.length then
    (Wj ((id,ti,nx,held,marks,inbox,()),w,((@rd Int aIk r47.1.1 0),(@rd Int aIk r47.1.1 1),(@rd Int aIk r47.1.1 2),()),())).bind λr48=>I (((r48.1.1.1,r48.1.1.2.1,r48.1.1.2.2.1,r48.1.1.2.2.2.1,r48.1.1.2.2.2.2.1,r48.1.1.2.2.2.2.2.1,()),r48.1.2.1,()),())
    else G) else G) else G)
   else I (((id,ti,nx,held,marks,inbox,()),A0,()),())) (match HB r with|some m=>Et ⟨id,ti,nx,held,marks,inbox⟩ w m|none=>G):=by
 unfold HB;simp only[awS hr,A6];have hsz:=km ((L r).count 32)<|L r;have hln:=lE ((L r).count 32)<|L r;have azv:(L r).count 32<=r.size:=List.count_le_length;generalize GX [32] 0 ((L r).count 32) (L r)=ps at *;have hb:∀p∈ps,(B p).size<=1048576:=λp hp=>by
  have:=hsz p hp;rw[Az]at this;rw[BQ];omega
 rw[aEQ y8 (λw hw=>by
  obtain⟨p,hp,rfl⟩:=By.1 hw;exact hb p hp)]
 simp only[A6];by_cases h3:ps.length=3
 .match ps,h3 with
  | [p,q,t],_=>
   have nW:An (([p,q,t]:List (List UInt8)).map B).length (λi=>(Ar<|(([p,q,t]:List (List UInt8)).map B).getD i noB).2)=((Ar<|B p).2&&((Ar<|B q).2&&((Ar<|B t).2&&Y))):=rfl;rw[nW];obtain h|h:=tf ((Ar<|B p).2&&((Ar<|B q).2&&((Ar<|B t).2&&Y)))
   .simp only[h,A2];exact(ap8 sm).eta
   .simp only[h,A4,AL];exact B4.no
 .have e1:∀c:Bool,(((if c then(((ps.map B).map λw=>(Ar w).1),Y,()) else(([]:List Int),A0,())).2.1&&U ((((if c then(((ps.map B).map λw=>(Ar w).1),Y,()) else(([]:List Int),A0,())):List Int×Bool×D).1.length:Int)=3))=A0):=by
   intro c;cases c
   .rfl
   .simp;omega
  rw[A9 (by rw[e1];simp)];have e2:(match ps with|[p,q,t]=>if(Ar<|B p).2&&((Ar<|B q).2&&((Ar<|B t).2&&Y)) then I (⟨(Ar<|B p).1,(Ar<|B q).1,(Ar<|B t).1⟩:Mark) else G|_=>G)=G:=by
   split
   .exact absurd rfl h3
   .rfl
  rw[e2];exact B4.no
def ayg{id ti nx:Int}{w r:A1}{held:List A3}{marks:List Mark}{inbox:List A3}(sm:DV held marks inbox)(hr:r.size<=1048576){t:KL}:
  B4 ((Q3 (r,())).bind λr33=>if r33.1.2.1 then(X6 ((id,ti,nx,held,marks,inbox,()),w,r33.1.1,())).bind λr34=>I (((r34.1.1.1,r34.1.1.2.1,r34.1.1.2.2.1,r34.1.1.2.2.2.1,r34.1.1.2.2.2.2.1,r34.1.1.2.2.2.2.2.1,()),r34.1.2.1,()),())
   else I ((t,A0,()),())) (if(Ar r).2 then Ho ⟨id,ti,nx,held,marks,inbox⟩ w (Ar r).1 else G):=by
 simp only[gb (J:r.size<=9223372036854775807),A6];exact B4.ite (λ_=>(aqU sm).eta) λ_=>B4.no
def ayc{id ti nx:Int}{w r:A1}{held:List A3}{marks:List Mark}{inbox:List A3}(sm:DV held marks inbox)(hr:r.size<=1048576)(h0:0<=nx)(h1:nx<=1000){t:KL}:
  B4 ((WC (r,())).bind λr40=>if r40.1.2.1 then(Wy ((id,ti,nx,held,marks,inbox,()),w,(r40.1.1.1,r40.1.1.2.1,r40.1.1.2.2.1,r40.1.1.2.2.2.1,r40.1.1.2.2.2.2.1,()),())).bind λr41=>
    I (((r41.1.1.1,r41.1.1.2.1,r41.1.1.2.2.1,r41.1.1.2.2.2.1,r41.1.1.2.2.2.2.1,r41.1.1.2.2.2.2.2.1,()),r41.1.2.1,()),())
   else I ((t,A0,()),())) (match DK r with|some n=>GG ⟨id,ti,nx,held,marks,inbox⟩ w n|none=>G):=by
 simp only[akW hr,A6];cases h:DK r with
 | none=>exact B4.no
 | some n=>
  have:=Kl (Js h).1;exact(ap7 sm this h0 h1).eta
def or3{a b c:Bool}{Ω X:Type}{f:Bool->X}:(if a then(I (.inr<|f a):Option (Ω ⊕ X)) else if b then I (.inr<|f b) else I (.inr<|f c))=I (.inr<|f<|a||(b||c)):=by cases a<;>cases b<;>rfl
def or2{a b:Bool}{Ω X:Type}{f:Bool->X}:(if a then(I (.inr<|f a):Option (Ω ⊕ X)) else I (.inr<|f b))=I (.inr<|f<|a||b):=by cases a<;>rfl
def or4{a b c d:Bool}{Ω X:Type}{f:Bool->X}:(if a then(I (.inr<|f a):Option (Ω ⊕ X)) else if b then I (.inr<|f b) else if c then I (.inr<|f c) else I (.inr<|f d))=I (.inr<|f<|a||(b||(c||d))):=by cases a<;>cases b<;>cases c<;>rfl
def aFo{a b:Bool}{Ω X:Type}{f:Bool->X}{g:X->Option Ω}{m:Option (Ω ⊕ X)}(h:m=(if a then(I (.inr<|f a):Option (Ω ⊕ X)) else I (.inr<|f b))):BT g m=g (f<|a||b):=by rw[h,or2];rfl
def atP{a b c:Bool}{Ω X:Type}{f:Bool->X}{g:X->Option Ω}{m:Option (Ω ⊕ X)}(h:m=(if a then(I (.inr<|f a):Option (Ω ⊕ X)) else if b then I (.inr<|f b) else I (.inr<|f c))):BT g m=g (f<|a||(b||c)):=by rw[h,or3];rfl
def atO{a b c d:Bool}{Ω X:Type}{f:Bool->X}{g:X->Option Ω}{m:Option (Ω ⊕ X)}(h:m=(if a then(I (.inr<|f a):Option (Ω ⊕ X)) else if b then I (.inr<|f b) else if c then I (.inr<|f c) else I (.inr<|f d))):BT g m=g (f<|a||(b||(c||d))):=by rw[h,or4];rfl
def aqV{id ti nx:Int}{rec:A1}{held:List A3}{marks:List Mark}{inbox:List A3}(sm:DV held marks inbox)(hr:rec.size<=1048576)(h0:0<=nx)(h1:nx<=1000):
  B4 (X7 ((id,ti,nx,held,marks,inbox,()),rec,())) (GL ⟨id,ti,nx,held,marks,inbox⟩ rec):=by
 have hr2:(wd rec).2.size<=1048576:=by have:=(TU rec).2;omega
 unfold X7 GL Bb;simp only[ayy hr,A6];refine B4.neg λ_=> ?_;rw[aFo (a:=U<|(wd rec).1=E8) (b:=U<|(wd rec).1=Ew) (f:=λv=>((id,ti,nx,held,marks,inbox,()),(0,0,0,[],[],[],()),(wd rec).1,(wd rec).2,(wd rec).1,v,())) rfl];refine B4.ite (λ_=>ayg sm hr2) λ_=> ?_;simp only;rw[atO (a:=U<|(wd rec).1=Df) (b:=U<|(wd rec).1=EW) (c:=U<|(wd rec).1=ET) (d:=U<|(wd rec).1=Ef) (f:=λv=>((id,ti,nx,held,marks,inbox,()),(0,0,0,[],[],[],()),(wd rec).1,(wd rec).2,(wd rec).1,v,())) rfl];refine B4.ite (λ_=>ayc sm hr2 h0 h1) λ_=> ?_;simp only;rw[atP (a:=U<|(wd rec).1=Bx) (b:=U<|(wd rec).1=CM) (c:=U<|(wd rec).1=D6) (f:=λv=>((id,ti,nx,held,marks,inbox,()),(0,0,0,[],[],[],()),(wd rec).1,(wd rec).2,v,())) rfl];exact B4.ite (λ_=>auF sm hr2) λ_=>B4.no
def au0{k:AE}{rec:A1}(hf:Eo k){o:AE}(h:GL k rec=I o):SmK o:=by
 unfold GL at h;split at h
 .cases h
 unfold Bb at h;split at h
 .split at h
  .exact awG hf h
  .cases h
 split at h
 .cases hn:DK (wd rec).2 with
  | none=>rw[hn]at h;cases h
  | some n=>rw[hn]at h;exact arw hf (Js hn).1 h
 split at h
 .cases hn:HB (wd rec).2 with
  | none=>rw[hn]at h;cases h
  | some n=>rw[hn]at h;exact arz hf h
 .cases h
def FP(k:AE)(rec:A1):AE×Bool:=
 if Av k then(match (GL k rec).filter Av with|some k'=>(k',Y)|none=>(k,A0)) else(⟨0,0,0,[],[],[]⟩,A0)
def aBb{id ti nx:Int}{rec:A1}{held:List A3}{marks:List Mark}{inbox:List A3}(sm:DV held marks inbox)(hr:rec.size<=1048576):
  Sg ((id,ti,nx,held,marks,inbox,()),rec,())=I ((tK (FP ⟨id,ti,nx,held,marks,inbox⟩ rec).1,(FP ⟨id,ti,nx,held,marks,inbox⟩ rec).2,()),()):=by
 unfold Sg FP;simp only[jr sm,zi sm,A6];obtain h|h:=tf (Av ⟨id,ti,nx,held,marks,inbox⟩)
 .have hf:=Bz h;have ha:=aqV (id:=id) (ti:=ti) (nx:=nx) sm hr (by have:=hf.n0;simp only at this;omega) (by have:=hf.n1;simp only at this;omega);simp only[h,AB,A4,A2];cases hst:GL ⟨id,ti,nx,held,marks,inbox⟩ rec with
  | none=>
   rw[hst]at ha;obtain⟨t,ht⟩:=ha;simp only[ht,A6,AH,AB,Hb,A2,Bs];rfl
  | some o=>
   rw[hst]at ha;have sm':=au0 hf hst;rw[show X7 ((id,ti,nx,held,marks,inbox,()),rec,())=I ((tK o,Y,()),()) from ha];simp only[A6,AB,AH,Ie,jr sm',zi sm',DC,D4,A2,Bk,Option.filter_some];obtain h2|h2:=tf (Av o)
   .simp only[h2,AB,A4,A2]
   .simp only[h2,AH,A4,A2]
 .simp only[h,AH,A4,A2]
def as2{id ti nx a b:Int}{held:List A3}{marks:List Mark}{inbox:List A3}(sm:DV held marks inbox)(h:0<=AY held a b):
  iM ((id,ti,nx,held,marks,inbox,()),a,b,())=I (((id,ti,nx,EY held (AY held a b).toNat,PU marks ⟨a,b,(nA held (AY held a b).toNat).un⟩,inbox,()),Y,()),()):=by
 obtain⟨h1,h2,_⟩:=FB h;have hl:=sm.hl;unfold iM;have No:U (AY held a b<0)=A0:=by simp;omega
 simp only[Jk sm.hl,A6,No,A4,My h,A2];generalize hi:(AY held a b).toNat=i at *;rw[← h2];have e1:(U (0<=(i:Int))&&U ((i:Int)<=(held.length:Int)))=Y:=by simp;omega
 have e2:(U (0<=((i+1:Nat):Int))&&U (((i+1:Nat):Int)<=(held.length:Int)))=Y:=by simp;omega
 simp only[B2 h1 (by omega:held.length<=9223372036854775807),e1,e2,A2,BV,Eb,CK,DN,Di,EJ,Co,te sm.ml,A6];rw[A5<|BD J,A5<|BD J];rfl
def as3{id ti nx a b:Int}{held:List A3}{marks:List Mark}{inbox:List A3}(sm:DV held marks inbox)(h:0<=AY inbox a b):
  iN ((id,ti,nx,held,marks,inbox,()),a,b,())=I (((id,ti,nx,held,marks,EY inbox (AY inbox a b).toNat,()),Y,()),()):=by
 obtain⟨h1,h2,_⟩:=FB h;have hl:=sm.il;unfold iN;have No:U (AY inbox a b<0)=A0:=by simp;omega
 simp only[Jk sm.il,A6,No,A4];generalize hi:(AY inbox a b).toNat=i at *;rw[← h2];have e1:(U (0<=(i:Int))&&U ((i:Int)<=(inbox.length:Int)))=Y:=by simp;omega
 have e2:(U (0<=((i+1:Nat):Int))&&U (((i+1:Nat):Int)<=(inbox.length:Int)))=Y:=by simp;omega
 simp only[B2 h1 (by omega:inbox.length<=9223372036854775807),e1,e2,A2,BV,Eb,CK,DN,Di,EJ];rw[A5<|BD J,A5<|BD J];rfl
def LH(r:A1):Bool:= !decide (ED r 3=noB)|| !decide (r=((((BY (Ad<|Am r 0)++B [32])++BY (Ad<|Am r 1))++B [32])++BY (Ad<|Am r 2)))
def mk3(r:A1):Mark:=⟨Ad<|Am r 0,Ad<|Am r 1,Ad<|Am r 2⟩
def Dm(k:AE)(w r:A1):Option AE:=
 if U (w=E8) then(if U (Ad r<=k.ti) then G else I ⟨k.id,Ad r,k.nx,HE (Ad r) k.held,K5 (Ad r) k.marks,k.inbox⟩) else
 if U (w=Df) then(match DK r with|some n=>if !decide (n.fr=k.id) then G else if !decide (n.nu=k.nx) then G else Ek ⟨k.id,k.ti,k.nx+1,k.held,k.marks,k.inbox⟩ n|none=>G) else
 if U (w=EW) then(match DK r with|some n=>if U (n.fr=k.id) then G else Ek k n|none=>G) else
 if U (w=Ew) then(if U (Ad r<=k.nx) then G else I ⟨k.id,k.ti,Ad r,k.held,k.marks,k.inbox⟩) else
 if U (w=ET)||decide (w=Ef) then(match DK r with|some n=>if U (0<=AY k.held n.fr n.nu) then G else if U (0<=AY k.inbox n.fr n.nu) then G else if U (w=ET) then I ⟨k.id,k.ti,k.nx,Dx k.held n,k.marks,k.inbox⟩ else I ⟨k.id,k.ti,k.nx,k.held,k.marks,Dx k.inbox n⟩|none=>G) else
 if LH r then G else
 if U (w=Bx) then(if !EG k.held (mk3 r) then G else I ⟨k.id,k.ti,k.nx,EY k.held (AY k.held (mk3 r).mf (mk3 r).mn).toNat,EF k.marks<|mk3 r,k.inbox⟩) else
 if U (w=CM) then(if !EG k.inbox (mk3 r) then G else I ⟨k.id,k.ti,k.nx,k.held,k.marks,EY k.inbox (AY k.inbox (mk3 r).mf (mk3 r).mn).toNat⟩) else
 if U (w=D6) then(if U (0<=Bp k.marks (mk3 r).mf (mk3 r).mn) then G else I ⟨k.id,k.ti,k.nx,k.held,EF k.marks<|mk3 r,k.inbox⟩) else G
def YD(s:A1): -1<=Ad s/\Ad s<10000:=by
 obtain⟨h,_⟩|⟨n,h,h1,h2⟩:=Sp s
 .omega
 .have:n<10000:=by
   have hv:=aP 4 (L s) (by rw[Az];omega) (by rw[h2];exact ZW (n+1) n J);rw[h2,Zd (n+1) n J]at hv;omega
  omega
def lU{n:Int}(h0: -1<=n)(h1:n<10000):(BY n).size<=4:=by
 by_cases h:0<=n
 .exact Mr h J J
 .obtain rfl:n= -1:=J
  have:BY (-1)=B [45,49]:=by
   apply G5;show B6 (-1)=_;rw[show(-1:Int)= -((1:Nat):Int) by rfl,oE _ J];show 45::dcm 1=_;rw[Ko J];rfl
  rw[this];decide
def abB{l:List A3}{m:Mark}:(U (AY l m.mf m.mn<0)|| !decide ((@rd A3 y5 l<|AY l m.mf m.mn).un=m.mu))= !EG l m:=by
 unfold EG;obtain h|h:=sgn (AY l m.mf m.mn)
 .simp only[h,AW,Ac,Bs,AL,AH]
 .simp only[h,AW,Ac,Bk,AS];rfl
def avt{l:List A3}{f n:Int}:Ag (!(U<|AY l f n<0)) (inb (AY l f n) l.length)=Y:=by
 obtain h|h:=sgn (AY l f n)
 .simp only[h,AW,AB,Hb]
 .simp only[h,Ac,AH,Ie,My<|of_eq_true h.2]
def arD{id ti nx:Int}{rec:A1}{held:List A3}{marks:List Mark}{inbox:List A3}(hf:Eo ⟨id,ti,nx,held,marks,inbox⟩)(hr:rec.size<=1048576):
  B4 (Wq ((id,ti,nx,held,marks,inbox,()),rec,())) (Dm ⟨id,ti,nx,held,marks,inbox⟩ (wd rec).1 (wd rec).2):=by
 have sm:DV held marks inbox:=hf.sm;have hn0:1<=nx:=hf.n0;have hn1:nx<=100:=hf.n1;have hr2:(wd rec).2.size<=1048576:=by have:=(TU rec).2;omega
 unfold Wq Dm;simp only[aah hr,A6];generalize (wd rec).1=w;generalize (wd rec).2=r at *;simp only[kU (J:r.size<=9223372036854775807),aA0 hr2,al6 sm,A6];refine B4.ite (λ_=>B4.neg λ_=>rfl) λ_=> ?_;refine B4.ite (λ_=> ?_) λ_=> ?_
 .cases h:DK r with
  | none=>exact B4.no
  | some n=>
   have:=Kl (Js h).1;simp only[Ud,AB,A4];refine B4.neg λ_=>B4.neg λ_=> ?_;rw[AZ J J];exact(aD6 sm this).eta
 refine B4.ite (λ_=> ?_) λ_=> ?_
 .cases h:DK r with
  | none=>exact B4.no
  | some n=>
   have:=Kl (Js h).1;simp only[Ud,AB,Bk];exact B4.neg λ_=>(aD6 sm this).eta
 refine B4.ite (λ_=>B4.neg λ_=>rfl) λ_=> ?_;rw[aFo (a:=U<|w=ET) (b:=U<|w=Ef) (f:=λv=>((id,ti,nx,held,marks,inbox,()),(0,0,0,[],[],[],()),w,r,v,())) rfl];refine B4.ite (λ_=> ?_) λ_=> ?_
 .simp only[aA0 hr2,A6];cases h:DK r with
  | none=>exact B4.no
  | some n=>
   have:=Kl (Js h).1;simp only[Ud,AB,A4,Jk sm.hl,Jk sm.il,A6];refine B4.neg λh1=>B4.neg λh2=> ?_;have e1:PT held n=Dx held n:=Zo (by simpa using h1);have e2:PT inbox n=Dx inbox n:=Zo (by simpa using h2);have Ep:=di (l:=held) (fr:=n.fr) (nu:=n.nu) (tt:=n.to) (un:=n.un) (tx:=n.tx) sm.hl;have bS:=di (l:=inbox) (fr:=n.fr) (nu:=n.nu) (tt:=n.to) (un:=n.un) (tx:=n.tx) sm.il;rw[show(⟨n.fr,n.nu,n.to,n.un,n.tx⟩:A3)=n from rfl]at Ep bS;simp only[Ep,bS,e1,e2,A6];exact B4.ite (λ_=>rfl) λ_=>rfl
 have e3:Q5 (r,3,())=I (([Ad<|Am r 0,Ad<|Am r 1,Ad<|Am r 2],ED r 3,()),()):=aaq (n:=3) hr2 J;have i0:inb 0 [Ad<|Am r 0,Ad<|Am r 1,Ad<|Am r 2].length=Y:=rfl;have i1:inb 1 [Ad<|Am r 0,Ad<|Am r 1,Ad<|Am r 2].length=Y:=rfl;have i2:inb 2 [Ad<|Am r 0,Ad<|Am r 1,Ad<|Am r 2].length=Y:=rfl;have r0: @rd Int aIk [Ad<|Am r 0,Ad<|Am r 1,Ad<|Am r 2] 0=Ad (Am r 0):=rfl;have r1: @rd Int aIk [Ad<|Am r 0,Ad<|Am r 1,Ad<|Am r 2] 1=Ad (Am r 1):=rfl;have r2: @rd Int aIk [Ad<|Am r 0,Ad<|Am r 1,Ad<|Am r 2] 2=Ad (Am r 2):=rfl;have q0:=YD<|Am r 0;have q1:=YD<|Am r 1;have q2:=YD<|Am r 2;have z0:=lU q0.1 q0.2;have z1:=lU q1.1 q1.2;have z2:=lU q2.1 q2.2;have zb:(B [32]).size=1:=rfl;have d1:U ((BY<|Ad<|Am r 0).size+(B [32]).size<=4611686018427387904)=Y:=by rw[zb,decide_eq_true_eq];omega
 have d2:U ((BY (Ad<|Am r 0)++B [32]).size+(BY<|Ad<|Am r 1).size<=4611686018427387904)=Y:=by rw[C2,zb,decide_eq_true_eq];omega
 have d3:U (((BY (Ad<|Am r 0)++B [32])++BY (Ad<|Am r 1)).size+(B [32]).size<=4611686018427387904)=Y:=by rw[C2,C2,zb,decide_eq_true_eq];omega
 have d4:U ((((BY (Ad<|Am r 0)++B [32])++BY (Ad<|Am r 1))++B [32]).size+(BY<|Ad<|Am r 2).size<=4611686018427387904)=Y:=by rw[C2,C2,C2,zb,decide_eq_true_eq];omega
 simp only[e3,A6,i0,i1,i2,r0,r1,r2,Fs (n:=Ad<|Am r 0) J J,Fs (n:=Ad<|Am r 1) J J,Fs (n:=Ad<|Am r 2) J J,
  DC,D4,show ∀c,Ag c Y=Y from λc=>rfl,A2,d1,d2,d3,d4]
 refine B4.neg λ_=> ?_;have hmk:mk3 r=⟨Ad<|Am r 0,Ad<|Am r 1,Ad<|Am r 2⟩:=rfl;generalize Ad (Am r 0)=a at *;generalize Ad (Am r 1)=b at *;generalize Ad (Am r 2)=c at *;rw[hmk];simp only[Jk sm.hl,Jk sm.il,SS sm.ml,A6,avt,A2];refine B4.ite (λ_=> ?_) λ_=> ?_
 .rw[abB (m:=⟨a,b,c⟩)];refine B4.neg λh=> ?_;have hh:EG held ⟨a,b,c⟩=Y:=by simpa using h
  simp only[EG,AD,decide_eq_true_eq]at hh;obtain⟨g1,g2,g3,g4⟩:=FB hh.1;have ho:=hf.ho _ g1;unfold HD at ho;simp only[AD,decide_eq_true_eq]at ho;have hm:Bp marks a b<0:=by
   have:=ho.2.2.2;simp only[g3,g4]at this;exact this
  have hM:PU marks ⟨a,b,c⟩=EF marks ⟨a,b,c⟩:=mq hm;simp only[as2 sm hh.1,A6,hh.2,hM];rfl
 refine B4.ite (λ_=> ?_) λ_=> ?_
 .rw[abB (m:=⟨a,b,c⟩)];refine B4.neg λh=> ?_;have hh:EG inbox ⟨a,b,c⟩=Y:=by simpa using h
  simp only[EG,AD,decide_eq_true_eq]at hh;simp only[as3 sm hh.1,A6];rfl
 refine B4.ite (λ_=> ?_) λ_=>B4.no;refine B4.neg λh=> ?_;have hM:PU marks ⟨a,b,c⟩=EF marks ⟨a,b,c⟩:=mq (by simpa using h);simp only[te sm.ml,A6,hM];rfl
def al0:U (E8=Ew)=A0:=by decide
def aoJ:U (E8=Df)=A0:=by decide
def akz:U (E8=EW)=A0:=by decide
def al2:U (E8=ET)=A0:=by decide
def ajk:U (E8=Ef)=A0:=by decide
def aoK:U (E8=Bx)=A0:=by decide
def aoL:U (E8=CM)=A0:=by decide
def al1:U (E8=D6)=A0:=by decide
def aAq:U (Ew=E8)=A0:=by decide
def aoR:U (Ew=Df)=A0:=by decide
def anT:U (Ew=EW)=A0:=by decide
def anV:U (Ew=ET)=A0:=by decide
def ajl:U (Ew=Ef)=A0:=by decide
def aoS:U (Ew=Bx)=A0:=by decide
def apS:U (Ew=CM)=A0:=by decide
def anU:U (Ew=D6)=A0:=by decide
def aoO:U (Df=E8)=A0:=by decide
def aoP:U (Df=Ew)=A0:=by decide
def aBi:U (Df=EW)=A0:=by decide
def aBj:U (Df=ET)=A0:=by decide
def aAp:U (Df=Ef)=A0:=by decide
def aqf:U (Df=Bx)=A0:=by decide
def aqg:U (Df=CM)=A0:=by decide
def aoQ:U (Df=D6)=A0:=by decide
def jA:U (EW=E8)=A0:=by decide
def jB:U (EW=Ew)=A0:=by decide
def jf:U (EW=Df)=A0:=by decide
def jC:U (EW=ET)=A0:=by decide
def vS:U (EW=Ef)=A0:=by decide
def aoM:U (EW=Bx)=A0:=by decide
def aoN:U (EW=CM)=A0:=by decide
def al3:U (EW=D6)=A0:=by decide
def aAs:U (ET=E8)=A0:=by decide
def aAu:U (ET=Ew)=A0:=by decide
def aBk:U (ET=Df)=A0:=by decide
def aAt:U (ET=EW)=A0:=by decide
def ajn:U (ET=Ef)=A0:=by decide
def apT:U (ET=Bx)=A0:=by decide
def apU:U (ET=CM)=A0:=by decide
def anY:U (ET=D6)=A0:=by decide
def zX:U (Ef=E8)=A0:=by decide
def zZ:U (Ef=Ew)=A0:=by decide
def aAr:U (Ef=Df)=A0:=by decide
def zY:U (Ef=EW)=A0:=by decide
def za:U (Ef=ET)=A0:=by decide
def anW:U (Ef=Bx)=A0:=by decide
def anX:U (Ef=CM)=A0:=by decide
def ajm:U (Ef=D6)=A0:=by decide
def jk:U (Bx=E8)=A0:=by decide
def jm:U (Bx=Ew)=A0:=by decide
def kK:U (Bx=Df)=A0:=by decide
def jl:U (Bx=EW)=A0:=by decide
def jR:U (Bx=ET)=A0:=by decide
def jH:U (Bx=Ef)=A0:=by decide
def kL:U (Bx=CM)=A0:=by decide
def jn:U (Bx=D6)=A0:=by decide
def jS:U (CM=E8)=A0:=by decide
def jU:U (CM=Ew)=A0:=by decide
def kM:U (CM=Df)=A0:=by decide
def jT:U (CM=EW)=A0:=by decide
def jW:U (CM=ET)=A0:=by decide
def jI:U (CM=Ef)=A0:=by decide
def kO:U (CM=Bx)=A0:=by decide
def jV:U (CM=D6)=A0:=by decide
def jD:U (D6=E8)=A0:=by decide
def jF:U (D6=Ew)=A0:=by decide
def jg:U (D6=Df)=A0:=by decide
def jE:U (D6=EW)=A0:=by decide
def jG:U (D6=ET)=A0:=by decide
def vT:U (D6=Ef)=A0:=by decide
def jh:U (D6=Bx)=A0:=by decide
def ji:U (D6=CM)=A0:=by decide
abbrev flt(o:Option AE):Option AE:=o.filter Av
def Tf{o:Option AE}(h:o=G\/ ∃k,o=I k/\Av k=A0):flt o=G:=by
 obtain rfl|⟨k,rfl,h⟩:=h
 .rfl
 .simp[flt,Option.filter,h]
def asE:DK noB=G:=by
 cases h:DK noB with
 | none=>rfl
 | some n=>
  obtain⟨h1,h2⟩:=Js h;have:=p8<|I9 h1;rw[h2]at this;exact absurd this<|by decide
def avX:Ad noB= -1:=by
 obtain⟨h,_⟩|⟨n,_,_,h⟩:=Sp noB
 .exact h
 .exact absurd h.symm (pb n)
def aEv(r:A1):(Ar r=(0,A0)/\Ad r= -1)\/ ∃n:Nat,Ar r=((n:Int),Y)/\(Ad r=n\/(Ad r= -1/\10000<=n)):=by
 obtain h|⟨n,h1,h2,h3⟩:=Ss r
 .refine .inl ⟨h, ?_⟩;obtain⟨h4,_⟩|⟨n,_,h5,h6⟩:=Sp r
  .exact h4
  .rw[lj J h6]at h;cases h
 .refine .inr ⟨n,h1, ?_⟩;obtain⟨h4,h5⟩|⟨m,h4,_,h6⟩:=Sp r
  .refine .inr ⟨h4, ?_⟩;have h7:=h5 n h3;obtain h8|h8:=GW n 10000
   .have:=Lr 4 n J J;rw[← h3,Az]at this;omega
   .exact h8
  .left;have e:dcm n=dcm m:=h3.symm.trans h6;have:=congrArg val e;rw[Zd (n+1) n J,Zd (m+1) m J]at this;omega
def aad(a b c:Int):L ((((BY a++B [32])++BY b)++B [32])++BY c)=B6 a++32::(B6 b++32::B6 c):=by
 simp only[GP,UT,L_B,C5,LB,Eb]
def ov{l:List UInt8}(h:CY l):l.count 32=0:=List.count_eq_zero.2 λhm=>h 32 hm rfl
def Zh{r:A1}{a b c:Int}(ha:0<=a)(ha2:a<100000)(hb:0<=b)(hb2:b<100000)(hc:0<=c)(hc2:c<100000)(e:L r=B6 a++32::(B6 b++32::B6 c)):HB r=I ⟨a,b,c⟩:=by
 unfold HB;have h2:(L r).count 32=1+1:=by
  rw[e,List.count_append,aEB,List.count_append,aEB,ov<|Hc ha,ov<|Hc hb,ov<|Hc hc]
 rw[h2,e,Lj<|Hc ha,Lj<|Hc hb];show(if(Ar<|B<|B6 a).2&&((Ar<|B<|B6 b).2&&((Ar<|B<|B6 c).2&&Y)) then I (⟨(Ar<|B<|B6 a).1,(Ar<|B<|B6 b).1,(Ar<|B<|B6 c).1⟩:Mark) else G)=_;rw[J9 ha ha2,J9 hb hb2,J9 hc hc2];rfl
def pP{p:List UInt8}(h:(Ar<|B p).2=Y):0<=(Ar<|B p).1/\p=B6 (Ar<|B p).1:=by
 obtain h1|⟨n,h1,_,h3⟩:=Ss (B p)
 .rw[h1]at h;cases h
 .rw[h1];exact⟨by simp,by rw[JD];exact h3⟩
def aaF{r:A1}{m:Mark}(h:HB r=I m):0<=m.mf/\0<=m.mn/\0<=m.mu/\L r=B6 m.mf++32::(B6 m.mn++32::B6 m.mu):=by
 unfold HB at h;have hj:=ko ((L r).count 32)<|L r;split at h
 .rename_i p q t hp;rw[hp]at hj;split at h
  .rename_i hc;simp only[AD]at hc;cases h;have h1:=pP hc.1;have h2:=pP hc.2.1;have h3:=pP hc.2.2.1;refine⟨h1.1,h2.1,h3.1, ?_⟩;simp only;rw[← h1.2,← h2.2,← h3.2];exact hj.symm
  .cases h
 .cases h
def aF4{r:A1}{a b c:Int}(ha:0<=a)(ha2:a<10000)(hb:0<=b)(hb2:b<10000)(hc:0<=c)(hc2:c<10000)(e:L r=B6 a++32::(B6 b++32::B6 c)):LH r=A0/\mk3 r=⟨a,b,c⟩:=by
 have e0:=L5 (Hc ha) e;have c1:L (ED r 1)=_:=(Ju (t:=r) e0).2;have e1:=L5 (Hc hb) c1;have c2:L (ED r 2)=_:=(Ju (t:=r) e1).2;have e2:=UZ (s:=ED r 2) (by rw[c2];exact Hc hc);have w0:Am r 0=B (B6 a):=(Ju (t:=r) e0).1;have w1:Am r 1=B (B6 b):=(Ju (t:=r) e1).1;have w2:Am r 2=B (B6 c):=by
  show(wd<|ED r 2).1=_;rw[e2];apply G5;rw[c2,L_B]
 have t3:ED r 3=noB:=by
  show(wd<|ED r 2).2=_;rw[e2]
 have d0:=Mw ha ha2;have d1:=Mw hb hb2;have d2:=Mw hc hc2;refine⟨?_, ?_⟩
 .unfold LH;rw[t3,w0,w1,w2,d0,d1,d2];have:r=((((BY a++B [32])++BY b)++B [32])++BY c):=G5 (by rw[e,aad]);rw[← this];simp
 .unfold mk3;rw[w0,w1,w2,d0,d1,d2]
def Oa{m:Mark}(h:F2 m=Y):0<=m.mf/\m.mf<=3/\1<=m.mn/\m.mn<=99/\1<=m.mu/\m.mu<=999:=by
 unfold F2 at h;simp only[AD,Aa]at h;omega
def mj{k:AE}(hf:Eo k)(w r:A1):flt (if LH r then G else Et k w (mk3 r))=flt (match HB r with|some m=>Et k w m|none=>G):=by
 obtain hm|hm:=tf (F2<|mk3 r)
 .obtain⟨a0,a1,b0,b1,c0,c1⟩:=Oa hm;obtain hc|hc:=tf (LH r)
  .rw[hc];simp only[A2];cases h:HB r with
   | none=>rfl
   | some m=>
    simp only;obtain h2|h2:=tf (F2 m)
    .obtain⟨p0,p1,q0,q1,s0,s1⟩:=Oa h2;obtain⟨_,_,_,e⟩:=aaF h;rw[(aF4 J J J J J J e).1]at hc;cases hc
    .exact(Tf<|lA hf h2).symm
  .have hc2:=hc;unfold LH at hc;simp only[NG,Bool.not_eq_false',decide_eq_true_eq]at hc;have e:L r=_:=(congrArg L hc.2).trans<|aad _ _ _;have:=Zh (a:=(mk3 r).mf) (b:=(mk3 r).mn) (c:=(mk3 r).mu) J J J J J J e;rw[hc2,this];rfl
 .have hL:flt (if LH r then G else Et k w (mk3 r))=G:=by
   cases LH r
   .exact Tf (lA hf hm)
   .rfl
  rw[hL];cases h:HB r with
  | none=>rfl
  | some m=>
   simp only;obtain h2|h2:=tf (F2 m)
   .obtain⟨p0,p1,q0,q1,s0,s1⟩:=Oa h2;obtain⟨_,_,_,e⟩:=aaF h;have:=(aF4 J J J J J J e).2;rw[this]at hm;have hm:F2 m=A0:=hm;rw[h2]at hm;cases hm
   .exact(Tf<|lA hf h2).symm
def axw{k:AE}{n nx:Int}{a b:List A3}{m:List Mark}(hn:999<n):Av ⟨k.id,n,nx,a,m,b⟩=A0:=by
 obtain h|h:=tf (Av ⟨k.id,n,nx,a,m,b⟩)
 .have:=(Bz h).t1;simp only at this;omega
 .exact h
def ayf{k:AE}{n ti:Int}{a b:List A3}{m:List Mark}(hn:100<n):Av ⟨k.id,ti,n,a,m,b⟩=A0:=by
 obtain h|h:=tf (Av ⟨k.id,ti,n,a,m,b⟩)
 .have:=(Bz h).n1;simp only at this;omega
 .exact h
def asg{k:AE}(hf:Eo k)(r:A1):flt (Dm k E8 r)=flt (Bb k E8 r):=by
 have h0:=hf.t0;unfold Dm Bb Ho;simp only[al0,aoJ,akz,al2,ajk,aoK,aoL,al1,AW,Ba,Ed,DS,Bk,Bs,AL,AS,A2,A4];obtain⟨h1,h2⟩|⟨n,h1,h2|⟨h2,h3⟩⟩:=aEv r
 .rw[h1,h2,A5 y8];rfl
 .rw[h1,h2];obtain h4|h4:=EV (n:Int) k.ti<;>simp only[h4,AW,Ac,A2,A4]
 .rw[h1,h2,A5 y8];obtain h4|h4:=EV (n:Int) k.ti<;>simp only[h4,AW,Ac,A2,A4];exact(Tf<|.inr ⟨_,rfl,axw J⟩).symm
def ash{k:AE}(hf:Eo k)(r:A1):flt (Dm k Ew r)=flt (Bb k Ew r):=by
 have h0:=hf.n0;unfold Dm Bb Ho;simp only[aAq,aoR,anT,anV,ajl,aoS,apS,anU,AW,Ba,Ed,DS,Bk,Bs,AL,AS,A2,A4];obtain⟨h1,h2⟩|⟨n,h1,h2|⟨h2,h3⟩⟩:=aEv r
 .rw[h1,h2,A5 y8];rfl
 .rw[h1,h2];obtain h4|h4:=EV (n:Int) k.nx<;>simp only[h4,AW,Ac,A2,A4]
 .rw[h1,h2,A5 y8];obtain h4|h4:=EV (n:Int) k.nx<;>simp only[h4,AW,Ac,A2,A4];exact(Tf<|.inr ⟨_,rfl,ayf J⟩).symm
def asd{k:AE}(r:A1):Dm k Df r=Bb k Df r:=by
 unfold Dm Bb GG;simp only[aoO,aoP,aBi,aBj,aAp,aqf,aqg,aoQ,AW,Ba,Ed,DS,Bk,Bs,AL,AS,A2,A4];cases DK r with
 | none=>rfl
 | some n=>
  simp only;obtain h1|h1:=tf (U<|n.fr=k.id)<;>obtain h2|h2:=tf (U<|n.nu=k.nx)<;>simp only[h1,h2,AB,AH,ite_self,AW,Ba,Ed,DS,Bk,Bs,AL,AS,A2,A4]
def arQ{k:AE}(r:A1):Dm k EW r=Bb k EW r:=by
 unfold Dm Bb GG;simp only[jA,jB,jf,jC,vS,aoM,aoN,al3,AW,Ba,Ed,DS,Bk,Bs,AL,AS,A2,A4];cases DK r with
 | none=>rfl
 | some n=>
  simp only;obtain h1|h1:=tf (U<|n.fr=k.id)<;>simp only[h1,AB,AH,ite_self,AW,Ba,Ed,DS,Bk,Bs,AL,AS,A2,A4]
def arS{k:AE}(r:A1):Dm k ET r=Bb k ET r:=by
 unfold Dm Bb GG;simp only[aAs,aAu,aBk,aAt,ajn,apT,apU,anY,AW,Ba,Ed,DS,Bk,Bs,AL,AS,A2,A4];cases DK r with
 | none=>rfl
 | some n=>
  simp only;obtain h1|h1:=tf (U<|0<=AY k.held n.fr n.nu)<;>obtain h2|h2:=tf (U<|0<=AY k.inbox n.fr n.nu)<;>simp only[h1,h2,AB,AH,ite_self,AW,Ba,Ed,DS,Bk,Bs,AL,AS,A2,A4]
def aqj{k:AE}(r:A1):Dm k Ef r=Bb k Ef r:=by
 unfold Dm Bb GG;simp only[zX,zZ,aAr,zY,za,anW,anX,ajm,AW,Ba,Ed,DS,Bk,Bs,AL,AS,A2,A4];cases DK r with
 | none=>rfl
 | some n=>
  simp only;obtain h1|h1:=tf (U<|0<=AY k.held n.fr n.nu)<;>obtain h2|h2:=tf (U<|0<=AY k.inbox n.fr n.nu)<;>simp only[h1,h2,AB,AH,ite_self,AW,Ba,Ed,DS,Bk,Bs,AL,AS,A2,A4]
def ase{k:AE}(hf:Eo k)(r:A1):flt (Dm k Bx r)=flt (Bb k Bx r):=by
 have h:=mj hf Bx r;unfold Dm Bb;simp only[jk,jm,kK,jl,jR,jH,kL,jn,AW,Ba,Ed,DS,Bk,Bs,AL,AS,A2,A4];refine KN ?_ h;unfold Et;simp only[jk,jm,kK,jl,jR,jH,kL,jn,AW,Ba,Ed,DS,Bk,Bs,AL,AS,A2,A4];congr 1;refine ite_congr rfl (λ_=>rfl) λ_=> ?_;cases EG k.held (mk3 r)<;>rfl
def asf{k:AE}(hf:Eo k)(r:A1):flt (Dm k CM r)=flt (Bb k CM r):=by
 have h:=mj hf CM r;unfold Dm Bb;simp only[jS,jU,kM,jT,jW,jI,kO,jV,AW,Ba,Ed,DS,Bk,Bs,AL,AS,A2,A4];refine KN ?_ h;unfold Et;simp only[jS,jU,kM,jT,jW,jI,kO,jV,AW,Ba,Ed,DS,Bk,Bs,AL,AS,A2,A4];congr 1;refine ite_congr rfl (λ_=>rfl) λ_=> ?_;cases EG k.inbox (mk3 r)<;>rfl
def arR{k:AE}(hf:Eo k)(r:A1):flt (Dm k D6 r)=flt (Bb k D6 r):=by
 have h:=mj hf D6 r;unfold Dm Bb;simp only[jD,jF,jg,jE,jG,vT,jh,ji,AW,Ba,Ed,DS,Bk,Bs,AL,AS,A2,A4];refine KN ?_ h;unfold Et;simp only[jD,jF,jg,jE,jG,vT,jh,ji,AW,Ba,Ed,DS,Bk,Bs,AL,AS,A2,A4];congr 1;refine ite_congr rfl (λ_=>rfl) λ_=> ?_;cases U (0<=Bp k.marks (mk3 r).mf (mk3 r).mn)<;>rfl
def awQ{k:AE}(hf:Eo k)(w r:A1):flt (Dm k w r)=flt (Bb k w r):=by
 by_cases qW:w=E8
 .subst qW;exact asg hf r
 by_cases qY:w=Ew
 .subst qY;exact ash hf r
 by_cases qk:w=Df
 .subst qk;exact congrArg flt<|asd r
 by_cases qX:w=EW
 .subst qX;exact congrArg flt<|arQ r
 by_cases qa:w=ET
 .subst qa;exact congrArg flt<|arS r
 by_cases qQ:w=Ef
 .subst qQ;exact congrArg flt<|aqj r
 by_cases ql:w=Bx
 .subst ql;exact ase hf r
 by_cases qm:w=CM
 .subst qm;exact asf hf r
 by_cases qZ:w=D6
 .subst qZ;exact arR hf r
 have e1:Dm k w r=G:=by
  unfold Dm;simp only[qW,qY,qk,qX,qa,qQ,ql,qm,qZ,Ac,AW,Ba,Ed,DS,Bk,Bs,AL,AS,A2,A4,ite_self]
 have e2:Bb k w r=G:=by
  unfold Bb;simp only[qW,qY,qk,qX,qa,qQ,ql,qm,qZ,Ac,AW,Ba,Ed,DS,Bk,Bs,AL,AS,A2,A4]
 rw[e1,e2]
def ass{k:AE}(hf:Eo k)(w:A1):Dm k w noB=G:=by
 have h0:=hf.t0;have h1:=hf.n0;have hc:LH noB=Y:=by
  unfold LH;have:¬noB=((((BY (Ad<|Am noB 0)++B [32])++BY (Ad<|Am noB 1))++B [32])++BY (Ad<|Am noB 2)):=λh=>by
   have:=congrArg ByteArray.size h;rw[C2,C2,C2,C2]at this;have e:noB.size=0:=rfl;have e2:(B [32]).size=1:=rfl;omega
  simp[this]
 unfold Dm;rw[avX,asE,hc];have a1:U (-1<=k.ti)=Y:=by simp;omega
 have a2:U (-1<=k.nx)=Y:=by simp;omega
 simp only[a1,a2,A2,ite_self]
def axi{k:AE}(hf:Eo k)(rec:A1):flt (Dm k (wd rec).1 (wd rec).2)=flt (GL k rec):=by
 unfold GL;obtain h|⟨w,r,h,e⟩:=Ll (L rec)
 .rw[UZ h,Tj h,ass hf];rfl
 .rw[e,Tk h];exact awQ hf _ _
def awT{k:AE}{w r:A1}(hf:Eo k){o:AE}(h:Dm k w r=I o):SmK o:=by
 have sm:=hf.sm;unfold Dm at h;split at h
 .split at h<;>cases h;have a:=Ix (λx:A3=>U<|Ad r<x.un) k.held;have b:=Ix (λx:Mark=>U<|Ad r<x.mu) k.marks;have l1:=hf.hl;have l2:=hf.ml;exact⟨by unfold HE;simp only;omega,λx hx=>sm.h x (FH.1 hx).1,by unfold K5;simp only;omega,sm.il,sm.i⟩
 split at h
 .cases hn:DK r with
  | none=>rw[hn]at h;cases h
  | some n=>
   rw[hn]at h;simp only at h;split at h
   .cases h
   split at h
   .cases h
   exact ZZ (k':=⟨k.id,k.ti,k.nx+1,k.held,k.marks,k.inbox⟩) hf ⟨rfl,rfl,rfl⟩ h
 split at h
 .cases hn:DK r with
  | none=>rw[hn]at h;cases h
  | some n=>
   rw[hn]at h;simp only at h;split at h
   .cases h
   exact ZZ (k':=k) hf ⟨rfl,rfl,rfl⟩ h
 split at h
 .split at h<;>cases h;exact sm
 split at h
 .cases hn:DK r with
  | none=>rw[hn]at h;cases h
  | some n=>
   have hok:=Kl (Js hn).1;rw[hn]at h;simp only at h;split at h
   .cases h
   split at h
   .cases h
   split at h<;>cases h
   .have a:=QY hf.hl sm.h hok;exact⟨a.1,a.2,sm.ml,sm.il,sm.i⟩
   .have a:=QY hf.il sm.i hok;exact⟨sm.hl,sm.h,sm.ml,a.1,a.2⟩
 split at h
 .cases h
 split at h
 .split at h<;>cases h;have a:=Zp (i:=(AY k.held (mk3 r).mf (mk3 r).mn).toNat) hf.hl sm.h;exact⟨a.1,a.2,TX hf.ml,sm.il,sm.i⟩
 split at h
 .split at h<;>cases h;have a:=Zp (i:=(AY k.inbox (mk3 r).mf (mk3 r).mn).toNat) hf.il sm.i;exact⟨sm.hl,sm.h,sm.ml,a.1,a.2⟩
 split at h
 .split at h<;>cases h;exact⟨sm.hl,sm.h,TX hf.ml,sm.il,sm.i⟩
 .cases h
def aBf{id ti nx:Int}{rec:A1}{held:List A3}{marks:List Mark}{inbox:List A3}(sm:DV held marks inbox)(hr:rec.size<=1048576):
  Sa ((id,ti,nx,held,marks,inbox,()),rec,())=I ((tK (FP ⟨id,ti,nx,held,marks,inbox⟩ rec).1,(FP ⟨id,ti,nx,held,marks,inbox⟩ rec).2,()),()):=by
 unfold Sa FP;simp only[jd sm,aA2 sm,A6];obtain h|h:=tf (Av ⟨id,ti,nx,held,marks,inbox⟩)
 .have hf:=Bz h;have ha:=arD hf hr;have hko:=axi hf rec;unfold flt at hko;simp only[h,AB,A4,A2];rw[← hko];cases hst:Dm ⟨id,ti,nx,held,marks,inbox⟩ (wd rec).1 (wd rec).2 with
  | none=>
   rw[hst]at ha;obtain⟨t,ht⟩:=ha;simp only[ht,A6,AH,AB,Hb,A2,Bs];rfl
  | some o=>
   rw[hst]at ha;have sm':=awT hf hst;rw[show Wq ((id,ti,nx,held,marks,inbox,()),rec,())=I ((tK o,Y,()),()) from ha];simp only[A6,AB,AH,Ie,jd sm',aA2 sm',DC,D4,A2,Bk,Option.filter_some];obtain h2|h2:=tf (Av o)
   .simp only[h2,AB,A4,A2]
   .simp only[h2,AH,A4,A2]
 .simp only[h,AH,A4,A2]
def ai{s:A1}{a i:Nat}(h:a+i<s.size):bt (s.extract a s.size) i=bt s ((a+i:Nat):Int):=by
 rw[K0,K0,EE];congr 2;rw[BA,BA,List.getElem?_take_of_lt J,Hr]
def aHg{s:A1}{a i j:Nat}(h:a+j<=s.size):(s.extract a s.size).extract i j=s.extract (a+i) (a+j):=by
 apply G5;rw[EE,EE,EE];rw[List.drop_take,J0,aL];congr 1;omega
def Fv{s:A1}{a b:Nat}(hb:b<=s.size):(s.extract a b).size=b - a:=by
 rw[← Az,EE,Di,EJ,Az];omega
def Ue(s:A1):Int:=G4 (min s.size 3) λi=>U<|bt s i=58
def Dg(s:A1):Option (A1×Nat):=
 if Ue s<0 then G else
 let c:=(Ue s).toNat
 let n:=Ad (s.extract 0 c)
 if n<1 then G else if 60<n then G else
 if(s.size:Int)<c+2+n then G else
 if !decide (bt s ((c+1+n.toNat:Nat):Int)=59) then G else I (s.extract (c+1)<|c+1+n.toNat,c+2+n.toNat)
def Xf(s:A1):(Ue s= -1/\ ∀i,i<min s.size 3->bt s (i:Int)≠58)\/ ∃c:Nat,Ue s=c/\c<s.size/\c<3/\bt s (c:Int)=58/\ ∀i,i<c->bt s (i:Int)≠58:=by
 obtain⟨h1,h2⟩|⟨c,h1,h2,h3,h4⟩:=GD (min s.size 3) (λi=>U<|bt s i=58)
 .exact .inl ⟨h1,λi hi=>by simpa using h2 i hi⟩
 .exact .inr ⟨c,h1,J,J,by simpa using h3,λi hi=>by simpa using h4 i hi⟩
def arE{s:A1}(hs:s.size<=1048576):iO (s,())=I ((match Dg s with|some p=>(p.1,(p.2:Int),())|none=>(noB,0,())),()):=by
 have hb:∀i,i<min s.size 3->O2 (s,(i:Int),())=if U (bt s (i:Int)=58) then O2 (s,(i:Int),()) else I (.inl (s,((i+1:Nat):Int),())):=λi hi=>by
  have hi2:i<s.size:=J
  obtain h|h:=tf (U<|bt s (i:Int)=58)
  .rw[h];rfl
  .rw[h];have e1:U ((i:Int)<3)=Y:=by simp;omega
   unfold O2;simp only[AR hi2,B5 hi2,h,B2 hi2 (by omega:s.size<=9223372036854775807),e1];rfl
 have G9:∃y,th (s,0,())=I y/\((Dg s=G/\(y= .inl (noB,0,())\/y= .inr ()))\/ ∃p,Dg s=I p/\y= .inl (p.1,(p.2:Int),())):=by
  obtain⟨h1,h2⟩|⟨c,h1,h2,h3,h4,h5⟩:=Xf s
  .refine⟨.inr (), ?_,.inl ⟨by unfold Dg;rw[h1,A5 J],.inr rfl⟩⟩;refine CG (λi=>(s,(i:Int),())) (min s.size 3) (λi hi=> ?_) ?_
   .rw[hb i hi,show U (bt s (i:Int)=58)=A0 by simpa using h2 i hi];rfl
   .unfold O2;have e:(U (((min s.size 3:Nat):Int)<(s.size:Int))&&U (((min s.size 3:Nat):Int)<3))=A0:=by
     rw[Bool.eq_false_iff];simp only[ne_eq,AD,decide_eq_true_eq];omega
    simp only[e];rfl
  .have DG:Dg s=(let n:=Ad<|s.extract 0 c;if n<1 then G else if 60<n then G else if(s.size:Int)<c+2+n then G else
     if !decide (bt s ((c+1+n.toNat:Nat):Int)=59) then G else I (s.extract (c+1)<|c+1+n.toNat,c+2+n.toNat)):=by
    unfold Dg;rw[h1,A9 J];rfl
   have azQ:∃y,O2 (s,(c:Int),())=I (.inr y)/\((Dg s=G/\(y= .inl (noB,0,())\/y= .inr ()))\/ ∃p,Dg s=I p/\y= .inl (p.1,(p.2:Int),())):=by
    rw[DG];unfold O2;have e1:U ((c:Int)<3)=Y:=by simp;omega
    have e2:(U (0<=(c:Int))&&U ((c:Int)<=(s.size:Int)))=Y:=by simp;omega
    have e3:(!decide (bt s (c:Int)=58))=A0:=by simp[h4]
    have hse:(s.extract 0 c).size=c:=Fv J;simp only[AR h2,B5 h2,e1,e2,e3,BV,A4,EB,A2,kU<|show(s.extract 0 c).size<=9223372036854775807 by omega,A6];have hrg:=YD<|s.extract 0 c;generalize Ad (s.extract 0 c)=n at *;by_cases k1:n<1
    .exact⟨.inl (noB,0,()),by simp[k1],.inl ⟨by simp[k1],.inl rfl⟩⟩
    by_cases k2:60<n
    .exact⟨.inl (noB,0,()),by simp[k1,k2],.inl ⟨by simp[k1,k2],.inl rfl⟩⟩
    obtain⟨m,hm⟩:=HS (J:0<=n);subst hm;have w1:w64 ((c:Int)+2)=(c:Int)+2:=AZ J J;have w2:w64 ((c:Int)+1)=((c+1:Nat):Int):=by rw[AZ J J];omega
    have w3:w64 ((c:Int)+2+(m:Int))=((c+2+m:Nat):Int):=by rw[AZ J J];omega
    have w4:w64 (((c+1:Nat):Int)+(m:Int))=((c+1+m:Nat):Int):=by rw[AZ J J];omega
    simp only[w1,w2,w3,w4,BV];by_cases k3:(s.size:Int)<(c:Int)+2+m
    .have k3':(s.size:Int)<((c+2+m:Nat):Int):=J
     exact⟨.inl (noB,0,()),by simp only[k1,k2,k3',AW,Ac,A2,A4],.inl ⟨by simp[k1,k2,k3],.inl rfl⟩⟩
    have k3':¬(s.size:Int)<((c+2+m:Nat):Int):=J
    have k4:c+1+m<s.size:=J
    have e5:((U (0<=((c+1+m:Nat):Int))&&U (((c+1+m:Nat):Int)<=(s.size:Int)))&&(U (0<=((c+1:Nat):Int))&&U (((c+1:Nat):Int)<=((c+1+m:Nat):Int))))=Y:=by
     simp only[AD,decide_eq_true_eq];omega
    simp only[k1,k2,k3,k3',Ac,A4,if_false,AR k4,A2,e5];obtain k5|k5:=tf (!decide (bt s ((c+1+m:Nat):Int)=59))
    .exact⟨.inl (noB,0,()),by simp only[k5,A2],.inl ⟨by simp only[k5,A2],.inl rfl⟩⟩
    .exact⟨.inl (s.extract (c+1)<|c+1+m,((c+2+m:Nat):Int),()),by simp only[k5,A4],.inr ⟨(s.extract (c+1)<|c+1+m,c+2+m),by simp only[k5,A4],rfl⟩⟩
   obtain⟨y,hy,hy2⟩:=azQ;refine⟨y, ?_,hy2⟩;refine CG (λi=>(s,(i:Int),())) c (λi hi=> ?_) hy;rw[hb i J,show U (bt s (i:Int)=58)=A0 by simpa using h5 i hi];rfl
 obtain⟨y,hy,hy2⟩:=G9;unfold iO;simp only[hy];obtain⟨h1,rfl|rfl⟩|⟨p,h1,rfl⟩:=hy2<;>rw[h1]<;>rfl
def TC{s:A1}{p:A1×Nat}(h:Dg s=I p):3<=p.2/\p.2<=s.size/\p.1.size<=60/\1<=p.1.size:=by
 unfold Dg at h;split at h
 .cases h
 rename_i hc;obtain⟨h1,_⟩|⟨c,h1,h2,h3,h4,h5⟩:=Xf s
 .omega
 rw[h1]at h;simp only[BV]at h;split at h
 .cases h
 split at h
 .cases h
 split at h
 .cases h
 split at h
 .cases h
 cases h;simp only;rw[Fv J];omega
def Ex(log:A1):Nat->List A1->Nat->List A1×Nat
 | 0,out,at_=>(out,at_)
 | f+1,out,at_=>if at_<log.size then(match Dg (log.extract at_ log.size) with
  | none=>(out,at_)
  | some p=>Ex log f (out++[p.1]) (at_+p.2)) else(out,at_)
def aDX{log:A1}:∀(f:Nat) (out:List A1) (at_:Nat),at_<=log.size->out.length<=at_->(∀r∈out,r.size<=60/\1<=r.size)->
  (Ex log f out at_).2<=log.size/\(Ex log f out at_).1.length<=(Ex log f out at_).2/\ ∀r∈(Ex log f out at_).1,r.size<=60/\1<=r.size
 | 0,out,at_,h1,h2,h3=>⟨h1,h2,h3⟩
 | f+1,out,at_,h1,h2,h3=>by
  unfold Ex;split
  .rename_i hlt;cases h:Dg (log.extract at_ log.size) with
   | none=>exact⟨h1,h2,h3⟩
   | some p=>
    obtain⟨a,b,c,d⟩:=TC h;rw[Fv<|Au _]at b;exact aDX f _ _ J y8 (λr hr=>by
     obtain hr|hr:=BM.1 hr
     .exact h3 r hr
     .obtain rfl:=C9.1 hr;exact⟨c,d⟩)
  .exact⟨h1,h2,h3⟩
def D7(log:A1):List A1×Nat:=Ex log (log.size+1) [] 0
def QD(log:A1):(D7 log).2<=log.size/\(D7 log).1.length<=log.size/\ ∀r∈(D7 log).1,r.size<=60/\1<=r.size:=by
 have:=aDX (log:=log) (log.size+1) [] 0 (D5 _) (D5 _) (λr hr=>by cases hr);exact⟨this.1,CZ this.2.1 this.1,this.2.2⟩
def mI{ρ:Type}{log:A1}{b:(A1×List A1×Int×D)->Option ((A1×List A1×Int×D) ⊕ ρ)}(ok:List A1->Nat->ρ->Prop)
  (h:∀(out:List A1) (at_:Nat),at_<log.size->out.length<=at_->match Dg (log.extract at_ log.size) with
   | some p=>b (log,out,(at_:Int),())=I (.inl (log,out++[p.1],((at_+p.2:Nat):Int),()))
   | none=>∃y,b (log,out,(at_:Int),())=I (.inr y)/\ok out at_ y)
  (hn:∀(out:List A1) (at_:Nat),log.size<=at_->∃y,b (log,out,(at_:Int),())=I (.inr y)/\ok out at_ y):
  ∀(f:Nat) (out:List A1) (at_:Nat),log.size<at_+f->at_<=log.size->out.length<=at_->∃y,AT b (log,out,(at_:Int),())=I y/\ok (Ex log f out at_).1 (Ex log f out at_).2 y
 | 0,out,at_,h1,h2,h3=>J
 | f+1,out,at_,h1,h2,h3=>by
  unfold Ex;by_cases hlt:at_<log.size
  .rw[A5 hlt];have hb:=h out at_ hlt h3;cases DG:Dg (log.extract at_ log.size) with
   | none=>
    rw[DG]at hb;obtain⟨y,h4,h5⟩:=hb;exact⟨y,BF h4,h5⟩
   | some p=>
    rw[DG]at hb;obtain⟨a,c,_,_⟩:=TC DG;rw[Fv<|Au _]at c;obtain⟨y,h4,h5⟩:=mI ok h hn f (out++[p.1]) (at_+p.2) J J y8;exact⟨y,As hb h4,h5⟩
  .rw[A9 hlt];obtain⟨y,h4,h5⟩:=hn out at_ J;exact⟨y,BF h4,h5⟩
def Vo{log:A1}(hs:log.size<=1048576):LZ (log,())=I (((D7 log).1,((D7 log).2:Int),()),()):=by
 obtain⟨y,h1,h2⟩:=mI (log:=log) (b:=Rz) (λout at_ y=>y= .inl (out,(at_:Int),())\/y= .inr (out,(at_:Int),())) (λout at_ hlt hl=>by
  have hse:(log.extract at_ log.size).size=log.size - at_:=Fv<|Au _;have e1:(U (0<=(at_:Int))&&U ((at_:Int)<=(log.size:Int)))=Y:=by simp;omega
  have hb:Rz (log,out,(at_:Int),())=(match Dg (log.extract at_ log.size) with|some p=>I (.inl (log,out++[p.1],((at_+p.2:Nat):Int),()))|none=>I<|.inr<|.inl (out,(at_:Int),())):=by
   unfold Rz;simp only[B5 hlt,e1,A2,BV,arE<|show(log.extract at_ log.size).size<=1048576 by omega,A6];cases DG:Dg (log.extract at_ log.size) with
   | none=>rfl
   | some p=>
    obtain⟨a,c,_,_⟩:=TC DG;have e2:U (((p.2:Nat):Int)=0)=A0:=by simp;omega
    have e3:w64 ((at_:Int)+(p.2:Int))=((at_+p.2:Nat):Int):=by rw[AZ J J];omega
    simp only[e2,e3,A4,Bf,CK,DN,BD (J:out.length+1<=4294967296),A2]
  rw[hb];cases Dg (log.extract at_ log.size) with
  | none=>exact⟨_,rfl,.inl rfl⟩
  | some p=>rfl) (λout at_ hge=>by
  refine⟨.inr (out,(at_:Int),()), ?_,.inr rfl⟩;unfold Rz;have e:U ((at_:Int)<(log.size:Int))=A0:=by simp;omega
  simp only[e];rfl) (log.size+1) [] 0 J (D5 _) (D5 _)
 unfold LZ;rw[show rp (log,[],0,())=I y from h1];obtain rfl|rfl:=h2<;>rfl
def aEn{log:A1}{out:List A1}{at_ n:Nat}(hs:log.size<=1048576)(h:∀i,i<n->at_+i<log.size/\bt log ((at_+i:Nat):Int)≠58)(hn:n<=3)(hle:at_+n<=log.size)
  (nP:log.size<=at_+n\/n=3\/bt log ((at_+n:Nat):Int)=58):s6 (log,out,(at_:Int),(at_:Int),())=I (.inr (log,out,(at_:Int),((at_+n:Nat):Int),())):=by
 have e3:w64 ((at_:Int)+3)=((at_+3:Nat):Int):=by rw[AZ J J];omega
 refine CG (λi=>(log,out,(at_:Int),((at_+i:Nat):Int),())) n (λi hi=> ?_) ?_
 .obtain⟨h1,h2⟩:=h i hi;unfold dr;have e2:U (bt log ((at_+i:Nat):Int)=58)=A0:=by simpa using h2
  simp only[B5 h1,AR h1,e3,B5 (J:at_+i<at_+3),e2,B2 h1 (by omega:log.size<=9223372036854775807)];rfl
 .unfold dr;by_cases h1:at_+n<log.size
  .simp only[B5 h1,AR h1,e3];obtain h2|h2|h2:=nP
   .omega
   .have:U (((at_+n:Nat):Int)<((at_+3:Nat):Int))=A0:=by simp;omega
    rw[this];rfl
   .rw[show U (bt log ((at_+n:Nat):Int)=58)=Y by simpa using h2];cases U (((at_+n:Nat):Int)<((at_+3:Nat):Int))<;>rfl
  .have e1:U (((at_+n:Nat):Int)<(log.size:Int))=A0:=by simp;omega
   simp only[e1,A4,Hb,A2]
def akV{log:A1}{out:List A1}{at_:Nat}(hs:log.size<=1048576)(hlt:at_<log.size)(hl:out.length<=at_):
  S4 (log,out,(at_:Int),())=I (match Dg (log.extract at_ log.size) with|some p=> .inl (log,out++[p.1],((at_+p.2:Nat):Int),())|none=> .inr<|.inr (out,(at_:Int),())):=by
 have hse:(log.extract at_ log.size).size=log.size - at_:=Fv<|Au _;unfold S4;simp only[B5 hlt,A2];obtain⟨h1,h2⟩|⟨c,h1,h2,h3,h4,h5⟩:=Xf (log.extract at_ log.size)
 .have DG:Dg (log.extract at_ log.size)=G:=by unfold Dg;rw[h1,A5 J]
  have hb:∀i,i<min (log.size - at_) 3->at_+i<log.size/\bt log ((at_+i:Nat):Int)≠58:=λi hi=>by
   refine⟨J, ?_⟩;rw[← ai J];exact h2 i (by rw[hse];exact hi)
  rw[DG,aEn (n:=min (log.size - at_) 3) hs hb J J J];simp only[CD];by_cases h6:log.size<=at_+min (log.size - at_) 3
  .have e:U ((log.size:Int)<=((at_+min (log.size - at_) 3:Nat):Int))=Y:=by simp;omega
   simp only[e,AB,Hb,A2,Bs]
  .have e:U ((log.size:Int)<=((at_+min (log.size - at_) 3:Nat):Int))=A0:=by simp;omega
   have hm:min (log.size - at_) 3=3:=J
   rw[hm]at e h6 ⊢;simp only[e,AR (J:at_+3<log.size),AH,Ie,A2,Bk];obtain h7|h7:=tf (U<|bt log ((at_+3:Nat):Int)=58)
   .simp only[h7,AB,A4];have e4:((U (0<=((at_+3:Nat):Int))&&U (((at_+3:Nat):Int)<=(log.size:Int)))&&(U (0<=(at_:Int))&&U ((at_:Int)<=((at_+3:Nat):Int))))=Y:=by simp;omega
    simp only[e4,A2,BV];have hz:(log.extract at_<|at_+3).size=3:=by rw[Fv J];omega
    rw[gb J];simp only[A6];obtain h8|⟨n,h8,h9,h10⟩:=Ss (log.extract at_<|at_+3)
    .simp only[h8];rfl
    .have h11:100<=n:=by
      obtain h12|h12:=GW n 100
      .have:=Lr 2 n J J;rw[← h10,Az]at this;omega
      .exact h12
     have e5:inB (n:Int) 1 60=A0:=by simp[inB];omega
     simp only[h8,EO,A6,e5];rfl
   .simp only[h7];rfl
 .have hb:∀i,i<c->at_+i<log.size/\bt log ((at_+i:Nat):Int)≠58:=λi hi=>by
   refine⟨J, ?_⟩;rw[← ai J];exact h5 i hi
  have h4':bt log ((at_+c:Nat):Int)=58:=by rw[← ai J];exact h4
  have hc:at_+c<log.size:=J
  rw[aEn (n:=c) hs hb J J<|.inr<|.inr h4'];simp only[CD];have e:U ((log.size:Int)<=((at_+c:Nat):Int))=A0:=by simp;omega
  have e4:((U (0<=((at_+c:Nat):Int))&&U (((at_+c:Nat):Int)<=(log.size:Int)))&&(U (0<=(at_:Int))&&U ((at_:Int)<=((at_+c:Nat):Int))))=Y:=by simp;omega
  simp only[e,AR hc,AH,Ie,A2,Bk,show U (bt log ((at_+c:Nat):Int)=58)=Y by simpa using h4',AB,A4,e4,BV];have hz:(log.extract at_<|at_+c).size=c:=by rw[Fv J];omega
  have hz2:(log.extract at_ log.size).extract 0 c=log.extract at_ (at_+c):=by rw[aHg J];simp
  rw[gb J];have DG:Dg (log.extract at_ log.size)=(let n:=Ad<|log.extract at_<|at_+c;if n<1 then G else if 60<n then G else if((log.extract at_ log.size).size:Int)<c+2+n then G else
    if !decide (bt (log.extract at_ log.size) ((c+1+n.toNat:Nat):Int)=59) then G else I ((log.extract at_ log.size).extract (c+1)<|c+1+n.toNat,c+2+n.toNat)):=by
   unfold Dg;rw[h1,A9 J,BV];simp only[hz2]
  rw[DG];simp only[A6];obtain h8|⟨n,h8,h9,h10⟩:=Ss (log.extract at_<|at_+c)
  .have hd:Ad (log.extract at_<|at_+c)= -1:=by
    obtain⟨h9,_⟩|⟨n,h9,h10,h11⟩:=Sp (log.extract at_<|at_+c)
    .exact h9
    .rw[lj J h11]at h8;cases h8
   simp only[h8,hd];rfl
  .rw[og J h10];simp only[h8,EO,A6,AB,A4,BV,hse];by_cases h11:(n:Int)<1
   .rw[A5 h11,show inB (n:Int) 1 60=A0 by simp[inB];omega];rfl
   .rw[A9 h11];by_cases h12:60<(n:Int)
    .rw[A5 h12,show inB (n:Int) 1 60=A0 by simp[inB];omega];rfl
    .rw[A9 h12,show inB (n:Int) 1 60=Y by simp[inB];omega];have e5:w64 (((at_+c:Nat):Int)+1)=((at_+c+1:Nat):Int):=by rw[AZ J J];omega
     have e6:w64 (((at_+c+1:Nat):Int)+(n:Int))=((at_+c+1+n:Nat):Int):=by rw[AZ J J];omega
     simp only[e5,e6,AB,A4];by_cases h13:at_+c+1+n<log.size
     .rw[A9<|show ¬(((log.size - at_:Nat):Int)<c+2+n) by omega];have e7:U ((log.size:Int)<=((at_+c+1+n:Nat):Int))=A0:=by simp;omega
      simp only[e7,A4,AR h13,A2];have e10:bt (log.extract at_ log.size) ((c+1+n:Nat):Int)=bt log ((at_+c+1+n:Nat):Int):=by rw[ai (J:at_+(c+1+n)<log.size),show at_+(c+1+n)=at_+c+1+n by omega]
      simp only[e10];obtain h14|h14:=tf (U<|bt log ((at_+c+1+n:Nat):Int)=59)
      .have e8:((U (0<=((at_+c+1+n:Nat):Int))&&U (((at_+c+1+n:Nat):Int)<=(log.size:Int)))&&(U (0<=((at_+c+1:Nat):Int))&&U (((at_+c+1:Nat):Int)<=((at_+c+1+n:Nat):Int))))=Y:=by simp;omega
       have e9:w64 (((at_+c+1+n:Nat):Int)+1)=((at_+(c+2+n):Nat):Int):=by rw[AZ J J];omega
       simp only[h14,AB,A4,e8,A2,Bf,CK,DN,BD (J:out.length+1<=4294967296),BV,e9,aHg (J:at_+(c+1+n)<=log.size)];rw[show at_+(c+1)=at_+c+1 by omega,show at_+(c+1+n)=at_+c+1+n by omega]
      .simp only[h14,AH,A2]
     .rw[A5<|show(((log.size - at_:Nat):Int)<c+2+n) by omega];have e7:U ((log.size:Int)<=((at_+c+1+n:Nat):Int))=Y:=by simp;omega
      simp only[e7,A2]
def fB{log:A1}(hs:log.size<=1048576):Pp (log,())=I (((D7 log).1,((D7 log).2:Int),()),()):=by
 obtain⟨y,h1,h2⟩:=mI (log:=log) (b:=S4) (λout at_ y=>y= .inr (out,(at_:Int),())) (λout at_ hlt hl=>by
  rw[akV hs hlt hl];cases Dg (log.extract at_ log.size) with
  | none=>exact⟨_,rfl,rfl⟩
  | some p=>rfl) (λout at_ hge=>by
  refine⟨.inr (out,(at_:Int),()), ?_,rfl⟩;unfold S4;have e:U ((at_:Int)<(log.size:Int))=A0:=by simp;omega
  simp only[e];rfl) (log.size+1) [] 0 J (D5 _) (D5 _)
 unfold Pp;rw[show s7 (log,[],0,())=I y from h1];subst h2;have h3:=QD log;simp only[CD];rw[show(Ex log (log.size+1) [] 0)=D7 log from rfl,ry J];rfl
abbrev zK:AE:=⟨0,0,0,[],[],[]⟩
def BK(k:AE)(r:A1):Option AE:=if(FP k r).2 then I (FP k r).1 else G
def Es(k:AE)(rs:List A1):Option AE:=rs.foldlM BK k
def Cc(id:Int)(rs:List A1):Option AE:=if isN id then Es ⟨id,0,1,[],[],[]⟩ rs else G
def aFr{σ β γ κ α:Type}{b:σ->Option (σ ⊕ (β ⊕ γ))}(st:Nat->κ->σ)(l:List α)(f:κ->α->Option κ)(bad:β)(fin:κ->γ)(Su:κ->Prop)
  (h:∀i k x,l[i]? =I x->Su k->b (st i k)=I (match f k x with|some k'=> .inl (st (i+1) k')|none=> .inr<|.inl bad))
  (hn:∀k,Su k->b (st l.length k)=I (.inr<|.inr<|fin k))(hI:∀k x k',Su k->f k x=I k'->Su k'):
  ∀k,Su k->AT b (st 0 k)=I (match l.foldlM f k with|some k'=> .inr (fin k')|none=> .inl bad):=by
 have:∀(m i:Nat),i+m=l.length->∀k,Su k->AT b (st i k)=I (match (l.drop i).foldlM f k with|some k'=> .inr (fin k')|none=> .inl bad):=by
  intro m
  induction m with
  | zero=>
   intro i hi k hk;rw[List.drop_of_length_le J,show i=l.length by omega];exact BF<|hn k hk
  | succ m ih=>
   intro i hi k hk;have hlt:i<l.length:=J
   rw[Tz hlt,UA];have hb:=h i k l[i] (Ap hlt) hk;cases hf:f k l[i]with
   | none=>rw[hf]at hb;exact BF hb
   | some k'=>rw[hf]at hb;exact As hb<|ih (i+1) J k'<|hI k _ k' hk hf
 intro k hk;have:=this l.length 0 J k hk;rwa[Iu]at this
def atM{k:AE}{r:A1}(h:(FP k r).2=Y):Av (FP k r).1=Y:=by
 unfold FP at h ⊢;split at h<;>rename_i hk
 .rw[A5 hk];cases hs:(GL k r).filter Av with
  | none=>rw[hs]at h;cases h
  | some o=>exact(JX.1 hs).2
 .cases h
def TR{k o:AE}{r:A1}(h:BK k r=I o):Av o=Y:=by
 unfold BK at h;split at h
 .cases h;exact atM (by assumption)
 .cases h
def aFk{k:AE}(h:Av k=Y):SmK k:=by
 have hf:=Bz h;have hn:∀ {l:List A3},DQ l=Y->∀x∈l,GJ x:=fun {l} hl x hx=>by
  obtain⟨i,hi,rfl⟩:=Cq hx;have:=H8 hl hi;rw[DA<|Ap hi]at this;exact Kl this
 exact⟨by have:=hf.hl;omega,hn hf.h,by have:=hf.ml;omega,by have:=hf.il;omega,hn hf.i⟩
def Sj{id:Int}(h:isN id=Y):Av ⟨id,0,1,[],[],[]⟩=Y:=by
 unfold Av;simp only[h];rfl
def aEY:∀ {rs:List A1} {k o:AE},Av k=Y->Es k rs=I o->Av o=Y
 | [],k,o,hk,h=>by cases h;exact hk
 | r::rs,k,o,hk,h=>by
  unfold Es at h;rw[UA]at h;cases hs:BK k r with
  | none=>rw[hs]at h;cases h
  | some k'=>rw[hs]at h;exact aEY (rs:=rs) (TR hs) h
def QK{id:Int}{rs:List A1}{o:AE}(h:Cc id rs=I o):Av o=Y:=by
 unfold Cc at h;split at h
 .exact aEY (Sj<|by assumption) h
 .cases h
def apE{id:Int}{rs:List A1}(hl:rs.length<=1048576)(hr:∀r∈rs,r.size<=1048576):ia (id,rs,())=I ((tK<|(Cc id rs).getD zK,(Cc id rs).isSome,()),()):=by
 unfold ia Cc;simp only[Jr,A6,aim];obtain h|h:=tf (isN id)
 .simp only[h,AB,A4,A2];have:=aFr (b:=Wa) (λi (k:AE)=>(tK zK,tK k,rs,(j8 rs:Int),(i:Int),())) rs BK (tK zK,A0,()) (λk=>(tK zK,tK k,())) (λk=>Av k=Y) (λi k x hx hk=>by
   have hi:=(BO.1 hx).1;have hxs:=hr x<|Cn hx;unfold Wa;simp only[B5 hi,AR hi,Ov,JF hx,A2];rw[aBb (aFk hk) hxs];unfold BK;simp only[A6];obtain h2|h2:=tf (FP k x).2
   .simp only[h2,AB,A4,A2,B2 hi (by omega:rs.length<=9223372036854775807)]
   .simp only[h2,AH,A4,A2]) (λk hk=>by simp[Wa]) (λk x k' _ hs=>TR hs) ⟨id,0,1,[],[],[]⟩ (Sj h)
  rw[show uT ((0,0,0,[],[],[],()),(id,0,1,[],[],[],()),rs,(j8 rs:Int),0,())=_ from this];unfold Es;cases rs.foldlM BK ⟨id,0,1,[],[],[]⟩<;>rfl
 .simp only[h,AH,A4,A2];rfl
def aBe{id:Int}{rs:List A1}(hl:rs.length<=1048576)(hr:∀r∈rs,r.size<=1048576):SZ (id,rs,())=I ((tK<|(Cc id rs).getD zK,(Cc id rs).isSome,()),()):=by
 unfold SZ Cc;simp only[Jp,A6,ahy];obtain h|h:=tf (isN id)
 .simp only[h,AB,A4,A2];have:=aFr (b:=WT) (λi (k:AE)=>(rs,tK zK,tK k,(i:Int),())) rs BK (tK zK,A0,()) (λk=>(tK zK,tK k,())) (λk=>Av k=Y) (λi k x hx hk=>by
   have hi:=(BO.1 hx).1;have hxs:=hr x<|Cn hx;unfold WT;simp only[B5 hi,AR hi,Ov,JF hx,A2];rw[aBf (aFk hk) hxs];unfold BK;simp only[A6];obtain h2|h2:=tf (FP k x).2
   .simp only[h2,AB,A4,A2,B2 hi (by omega:rs.length<=9223372036854775807)]
   .simp only[h2,AH,A4,A2]) (λk hk=>by simp[WT]) (λk x k' _ hs=>TR hs) ⟨id,0,1,[],[],[]⟩ (Sj h)
  rw[show tv (rs,(0,0,0,[],[],[],()),(id,0,1,[],[],[],()),0,())=_ from this];unfold Es;cases rs.foldlM BK ⟨id,0,1,[],[],[]⟩<;>rfl
 .simp only[h,AH,A4,A2];rfl
def DP(id:Int)(log:A1):Option AE:=Cc id (D7 log).1
def Q2{id:Int}{log:A1}(hs:log.size<=1048576):Jl (id,log,())=I ((tK<|(DP id log).getD zK,(DP id log).isSome,()),()):=by
 have h:=QD log;unfold Jl DP;rw[fB hs];simp only[A6];rw[apE J (λr hr=>by have:=h.2.2 r hr;omega)];rfl
def lS{id fo:Int}{up:Bool}{log:A1}{hv:List AG}(hs:log.size<=1048576):GC ((id,up,log,fo,hv,()),())=I ((tK<|(DP id log).getD zK,(DP id log).isSome,()),()):=by
 have h:=QD log;unfold GC DP;rw[Vo hs];simp only[A6];rw[aBe J (λr hr=>by have:=h.2.2 r hr;omega)];rfl
def DI(lg:A1)(fo:Int):Bool:=U (lg.size<=2400)&&(inB fo 0 lg.size&&(U (((D7 lg).2:Int)=lg.size)&&U (((D7<|lg.extract 0 fo.toNat).2:Int)=fo)))
def WX{lg:A1}{fo:Int}(hs:lg.size<=1048576):O1 ((lg,fo,()),())=I ((DI lg fo,()),()):=by
 unfold O1 DI;simp only[EO,fB hs,A6,DC,D4];by_cases h1:lg.size<=2400
 .have e1:U (2400<(lg.size:Int))=A0:=by simp;omega
  simp only[e1,h1,AH,Ie,A2,Bk,AW,AS];obtain h2|h2:=tf (inB fo 0 lg.size)
  .have h3:=Aa.1 h2;have e2:(U (0<=fo)&&U (fo<=(lg.size:Int)))=Y:=by simp;omega
   simp only[h2,AB,A4,e2,A2,AS];rw[fB (by rw[Fv J];omega)];rfl
  .simp only[h2,AH,A2,AL]
 .have e1:U (2400<(lg.size:Int))=Y:=by simp;omega
  simp only[e1,h1,AB,Hb,A2,Bs,Ac,AL]
def WR{lg:A1}{fo:Int}(hs:lg.size<=1048576):O3 ((lg,fo,()),())=I ((DI lg fo,()),()):=by
 unfold O3 DI;simp only[I3,Vo hs,A6,DC,D4];by_cases h1:lg.size<=2400
 .have e1:U (2400<(lg.size:Int))=A0:=by simp;omega
  simp only[e1,h1,AH,Ie,A2,Bk,AW,AS];obtain h2|h2:=tf (inB fo 0 lg.size)
  .have h3:=Aa.1 h2;have e2:(U (0<=fo)&&U (fo<=(lg.size:Int)))=Y:=by simp;omega
   simp only[h2,AB,A4,e2,A2,AS];rw[Vo (by rw[Fv J];omega)];rfl
  .simp only[h2,AH,A2,AL]
 .have e1:U (2400<(lg.size:Int))=Y:=by simp;omega
  simp only[e1,h1,AB,Hb,A2,Bs,Ac,AL]
def Ft(p:Bool):Ag p Y=Y:=by cases p<;>rfl
def axL{k o:AE}{w:A1}{n:Int}(h:Ho k w n=I o):o.id=k.id:=by
 unfold Ho at h
 repeat' split at h
 all_goals first|(cases h;done)|(cases h;rfl)
def aab{k o:AE}{n:A3}(h:Ek k n=I o):o.id=k.id:=by
 unfold Ek at h
 repeat' split at h
 all_goals first|(cases h;done)|(cases h;rfl)
def arx{k o:AE}{w:A1}{n:A3}(h:GG k w n=I o):o.id=k.id:=by
 unfold GG at h;split at h
 .exact(aab h).trans rfl
 split at h
 .exact aab h
 split at h
 .cases h
 repeat' split at h
 all_goals first|(cases h;done)|(cases h;rfl)
def as0{k o:AE}{w:A1}{m:Mark}(h:Et k w m=I o):o.id=k.id:=by
 unfold Et at h
 repeat' split at h
 all_goals first|(cases h;done)|(cases h;rfl)
def aty{k o:AE}{w r:A1}(h:Bb k w r=I o):o.id=k.id:=by
 unfold Bb at h;split at h
 .split at h
  .exact axL h
  .cases h
 split at h
 .split at h
  .exact arx h
  .cases h
 split at h
 .split at h
  .exact as0 h
  .cases h
 .cases h
def aup{k o:AE}{r:A1}(h:BK k r=I o)(hk:Av k=Y):o.id=k.id:=by
 unfold BK at h;split at h
 case isFalse=>cases h
 rename_i h2;cases h;unfold FP at h2 ⊢;simp only[hk,A2]at h2 ⊢;cases hs:(GL k r).filter Av with
 | none=>rfl
 | some o=>
  simp only;have:=(JX.1 hs).1;unfold GL at this;split at this
  .cases this
  .exact aty this
def aEZ:∀ {rs:List A1} {k o:AE},Av k=Y->Es k rs=I o->o.id=k.id
 | [],k,o,_,h=>by cases h;rfl
 | r::rs,k,o,hk,h=>by
  unfold Es at h;rw[UA]at h;cases hs:BK k r with
  | none=>rw[hs]at h;cases h
  | some k'=>rw[hs]at h;exact(aEZ (rs:=rs) (TR hs) h).trans<|aup hs hk
def mB{id:Int}{rs:List A1}{o:AE}(h:Cc id rs=I o):o.id=id:=by
 unfold Cc at h;split at h
 .exact aEZ (k:=⟨id,0,1,[],[],[]⟩) (Sj<|by assumption) h
 .cases h
def xA(l:List AQ)(i:Nat):AQ:=l.getD i<|dfl .mixed
def hA(l:List AG)(i:Nat):AG:=l.getD i<|dfl .half
def ZB(l:List AQ)(i:Nat): @rd AQ aIt l (i:Int)=xA l i:=rfl
def Zn(l:List AG)(i:Nat): @rd AG aIi l (i:Int)=hA l i:=rfl
def awq{l:List AQ}{i j:Nat}(h:j<i):xA (l.take i) j=xA l j:=by
 unfold xA;simp[BA,h]
def IH(l:List AQ)(i:Nat):Bool:=(inB (xA l i).nu 0 999&&U (((xA l i).da.size:Int)=4))&&An i λj=> !decide ((xA l j).nu=(xA l i).nu)
def G1(h:AG):Bool:=isN h.fr&&(isN h.to&&(inB h.nu 1 99&&(inB h.un 1 999&&(inB h.sz 1 24&&(U ((j8 h.got:Int)<=14)&&An h.got.length (IH h.got))))))
def ap6{h:AG}(sm:Ou h):iU ((h.fr,h.nu,h.to,h.un,h.sz,h.got,()),())=I ((G1 h,()),()):=by
 have hl:h.got.length<=9223372036854775807:=by have:=sm.1;omega
 have G9:uC ((h.fr,h.nu,h.to,h.un,h.sz,h.got,()),h.got,(j8 h.got:Int),0,())=I (if An h.got.length (IH h.got) then .inr () else .inl (A0,())):=
  Ck (λi=>((h.fr,h.nu,h.to,h.un,h.sz,h.got,()),h.got,(j8 h.got:Int),(i:Int),())) h.got.length (IH h.got) (A0,()) () (λi hi=>by
   unfold gn IH;simp only[B5 hi,AR hi,A2,ZB,EO,A6];obtain e|e:=tf (inB (xA h.got i).nu 0 999)<;>obtain e'|e':=tfp (((xA h.got i).da.size:Int)=4)
   rotate_left
   .simp only[e,e',Ac,Ba,AH,DS,AL,A2,A4]
   .simp only[e,AL,AH,Bs,A2,A4]
   .simp only[e,AL,AH,Bs,A2,A4]
   .have e2:(U (0<=(i:Int))&&U ((i:Int)<=(j8 h.got:Int)))=Y:=by simp;omega
    have e3:(BR i h.got).length=i:=by simp;omega
    simp only[e,e',AW,AB,GU,A4,e2,A2,BV,e3,AS];have hin:uB ((h.fr,h.nu,h.to,h.un,h.sz,h.got,()),((xA h.got i).nu,(xA h.got i).da,()),h.got,(j8 h.got:Int),(i:Int),BR i h.got,(i:Int),0,())=
      I (if An i (λj=> !decide ((xA h.got j).nu=(xA h.got i).nu)) then .inr ((h.fr,h.nu,h.to,h.un,h.sz,h.got,()),h.got,(j8 h.got:Int),(i:Int),()) else .inl (A0,())):=
     Ck (λj=>((h.fr,h.nu,h.to,h.un,h.sz,h.got,()),((xA h.got i).nu,(xA h.got i).da,()),h.got,(j8 h.got:Int),(i:Int),BR i h.got,(i:Int),(j:Int),())) i (λj=> !decide ((xA h.got j).nu=(xA h.got i).nu)) (A0,()) _ (λj hj=>by
      unfold gk;simp only[B5 hj,e3,AR hj,A2,ZB,awq hj,B2 hj (by omega:i<=9223372036854775807)];obtain e4|e4:=tfp ((xA h.got j).nu=(xA h.got i).nu)<;>simp only[e4,AW,Ac]<;>rfl) (by simp[gk])
    rw[hin];obtain e4|e4:=tf (An i λj=> !decide ((xA h.got j).nu=(xA h.got i).nu))
    .simp only[e4,A2,CD,B2 hi hl]
    .simp only[e4,A4,Fu]) (by simp[gn])
 unfold iU G1;simp only[Jr,EO,A6,G9];obtain e|e:=tf (isN h.fr)<;>simp only[e,AB,AH,A2,A4,AS,AL];obtain e|e:=tf (isN h.to)<;>simp only[e,AB,AH,A2,A4,AS,AL];obtain e|e:=tf (inB h.nu 1 99)<;>simp only[e,AB,AH,A2,A4,AS,AL];obtain e|e:=tf (inB h.un 1 999)<;>simp only[e,AB,AH,A2,A4,AS,AL];obtain e|e:=tf (inB h.sz 1 24)<;>simp only[e,AB,AH,A2,A4,AS,AL];obtain⟨e1,e2⟩|⟨e1,e2⟩:=EV (j8 h.got:Int) 14<;>simp only[e1,e2,AW,Ac,A2,A4,AS,AL];obtain e|e:=tf (An h.got.length<|IH h.got)<;>simp only[e,A2,A4]<;>rfl
def auc{sz:Int}(h:inB sz 1 24=Y):inB (w64<|B1 (w64<|w64 (sz+4) - 1) 4) 1 6=Y:=by
 have h:=Aa.1 h;rw[AZ (n:=sz+4) J J,AZ (n:=sz+4 - 1) J J];have e:B1 (sz+4 - 1) 4=(sz+4 - 1) / 4:=HQ J;rw[e,AZ J J,Aa];omega
def aoa{h:AG}(sm:Ou h):eJ ((h.fr,h.nu,h.to,h.un,h.sz,h.got,()),())=I ((G1 h,()),()):=by
 have hl:h.got.length<=9223372036854775807:=by have:=sm.1;omega
 have G9:inB h.sz 1 24=Y->rk ((h.fr,h.nu,h.to,h.un,h.sz,h.got,()),0,())=I (if An h.got.length (IH h.got) then .inr () else .inl (A0,())):=λhz=>
  Ck (λi=>((h.fr,h.nu,h.to,h.un,h.sz,h.got,()),(i:Int),())) h.got.length (IH h.got) (A0,()) () (λi hi=>by
   unfold df IH Lh SR Mq;simp only[B5 hi,AR hi,A2,ZB,I3,A6,auc hz,Ie,DC,D4,AS];obtain e|e:=tf (inB (xA h.got i).nu 0 999)<;>obtain e'|e':=tfp (((xA h.got i).da.size:Int)=4)
   rotate_left
   .simp only[e,e',Ac,Ba,AH,AL,A2,A4]
   .simp only[e,AL,AH,A2,A4]
   .simp only[e,AL,AH,A2,A4]
   .simp only[e,e',AW,EB,AB,A4,AS];have hin:sB ((h.fr,h.nu,h.to,h.un,h.sz,h.got,()),(i:Int),0,())=
      I (if An i (λj=> !decide ((xA h.got j).nu=(xA h.got i).nu)) then .inr ((h.fr,h.nu,h.to,h.un,h.sz,h.got,()),(i:Int),()) else .inl (A0,())):=
     Ck (λj=>((h.fr,h.nu,h.to,h.un,h.sz,h.got,()),(i:Int),(j:Int),())) i (λj=> !decide ((xA h.got j).nu=(xA h.got i).nu)) (A0,()) _ (λj hj=>by
      unfold de;simp only[B5 hj,AR hi,AR<|aC hj hi,A2,ZB,B2 hj (by omega:i<=9223372036854775807)];obtain e4|e4:=tfp ((xA h.got j).nu=(xA h.got i).nu)<;>simp only[e4,AW,Ac]<;>rfl) (by simp[de])
    rw[hin];obtain e4|e4:=tf (An i λj=> !decide ((xA h.got j).nu=(xA h.got i).nu))
    .simp only[e4,A2,CD,B2 hi hl]
    .simp only[e4,A4,Fu]) (by simp[df])
 unfold eJ G1;simp only[Jp,I3,A6];obtain e|e:=tf (isN h.fr)<;>simp only[e,AB,AH,A2,A4,AS,AL];obtain e|e:=tf (isN h.to)<;>simp only[e,AB,AH,A2,A4,AS,AL];obtain e|e:=tf (inB h.nu 1 99)<;>simp only[e,AB,AH,A2,A4,AS,AL];obtain e|e:=tf (inB h.un 1 999)<;>simp only[e,AB,AH,A2,A4,AS,AL];obtain e|e:=tf (inB h.sz 1 24)<;>simp only[e,AB,AH,A2,A4,AS,AL];rw[G9 e];obtain⟨e1,e2⟩|⟨e1,e2⟩:=EV (j8 h.got:Int) 14<;>simp only[e1,e2,AW,Ac,A2,A4,AS,AL];obtain e|e:=tf (An h.got.length<|IH h.got)<;>simp only[e,A2,A4]<;>rfl
def EH(l:List AG)(f n:Int):Int:=G4 l.length λi=>U ((hA l i).fr=f)&&U ((hA l i).nu=n)
def aBX{l:List AG}{f n:Int}(hl:l.length<=1048576):Sd (l,f,n,())=I ((EH l f n,()),()):=by
 unfold Sd;have:=QH (b:=WW) (λi=>(f,n,l,(j8 l:Int),(i:Int),())) l.length (λi=>U ((hA l i).fr=f)&&U ((hA l i).nu=n)) (λr=>(r,())) () (λi hi=>by
  unfold WW;simp only[B5 hi,AR hi,A2,Zn,B2 hi (by omega:l.length<=9223372036854775807)];obtain e|e:=tfp ((hA l i).fr=f)<;>obtain e2|e2:=tfp ((hA l i).nu=n)<;>simp only[e,e2,AW,Ac]<;>rfl) (by simp[WW])
 rw[show uD (f,n,l,(j8 l:Int),0,())=_ from this];exact TD
def aGg{n:Nat}{p:Nat->Bool}{i:Nat}(hi:i<n)(hp:p i=Y):U (G4 n p<(i:Int))= !(An i λj=> !p j):=by
 obtain⟨_,h2⟩|⟨c,h1,h2,h3,h4⟩:=GD n p
 .rw[h2 i hi]at hp;cases hp
 .rw[h1];by_cases hc:c<i
  .have:An i (λj=> !p j)=A0:=by
    rw[Bool.eq_false_iff];intro h;have:=CA.1 h c hc;simp[h3]at this
   rw[this];simpa using hc
  .have:An i (λj=> !p j)=Y:=CA.2 λj hj=>by rw[h4 j J];rfl
   rw[this];simp;omega
def Fl(l:List AG)(i:Nat):Bool:=G1 (hA l i)&&An i λj=> !(U ((hA l j).fr=(hA l i).fr)&&U ((hA l j).nu=(hA l i).nu))
def Ae(k:A7):Bool:=isN k.id&&(DI k.log k.fo&&(U ((k.AJ.length:Int)<=3)&&((k.up||decide (k.AJ.length=0))&&(((DP k.id k.log).isSome&&(DP k.id<|k.log.extract 0 k.fo.toNat).isSome)&&An k.AJ.length (Fl k.AJ)))))
abbrev tKp(k:A7):Int×Bool×A1×Int×List AG×D:=(k.id,k.up,k.log,k.fo,k.AJ,())
def abR{l:List AG}(h:∀x∈l,Ou x)(i:Nat):Ou (hA l i):=by
 unfold hA;obtain hi|hi:=GW i l.length
 .rw[JF<|Ap hi];exact h _ (CU hi)
 .rw[BA,Ht hi];exact⟨by decide,λm hm=>by cases hm⟩
def Jn{k:A7}(sm:FK k):I0 (tKp k,())=I ((Ae k,()),()):=by
 obtain⟨id,up,lg,fo,hv⟩:=k;obtain⟨sl,hl,hs⟩:=sm;simp only at sl hl hs;have G9:cn ((id,up,lg,fo,hv,()),hv,(j8 hv:Int),0,())=I (if An hv.length (Fl hv) then .inr () else .inl (A0,())):=
  Ck (λi=>((id,up,lg,fo,hv,()),hv,(j8 hv:Int),(i:Int),())) hv.length (Fl hv) (A0,()) () (λi hi=>by
   unfold eH Fl;simp only[B5 hi,AR hi,A2,Zn,ap6<|abR hs i,aBX hl,A6,DC,D4,Ft,B2 hi (by omega:hv.length<=9223372036854775807)];obtain e|e:=tf (G1<|hA hv i)
   .have hf:=aGg (p:=λj=>U ((hA hv j).fr=(hA hv i).fr)&&U ((hA hv j).nu=(hA hv i).nu)) hi aIg;unfold EH;simp only[e,AB,Bk,AS,hf];cases An i (λj=> !(U ((hA hv j).fr=(hA hv i).fr)&&U ((hA hv j).nu=(hA hv i).nu)))<;>rfl
   .simp only[e,AH,Bs,A2,AL,A4]) (by simp[eH])
 unfold I0 Ae;simp only[Jr,A6,WX sl];obtain e|e:=tf (isN id)<;>simp only[e,AB,AH,A2,A4,AS,AL,ON];obtain e2|e2:=tf (DI lg fo)<;>simp only[e2,AB,AH,A2,A4,AS,AL,ON];have e3:0<=fo/\fo<=(lg.size:Int):=by
  unfold DI at e2;simp only[AD]at e2;exact Aa.1 e2.2.1
 have e4:(U (0<=fo)&&U (fo<=(lg.size:Int)))=Y:=by simp;omega
 obtain⟨e5,e6⟩|⟨e5,e6⟩:=EV (j8 hv:Int) 3<;>simp only[e5,e6,AW,Ac,A2,A4,AS,AL,ON];have IU:∀b:Bool,(b=Y)->BT (X:=(Int×Bool×A1×Int×List AG×D)×D) (λj5=>
   (Jl (j5.1.1,j5.1.2.2.1,())).bind λr8=>
   (if(U (0<=j5.1.2.2.2.1)&&U (j5.1.2.2.2.1<=(j5.1.2.2.1.size:Int))) then
   (Jl (j5.1.1,(j5.1.2.2.1.extract (0)<|AM j5.1.2.2.2.1),())).bind λr9=>
   (if((!r8.1.2.1)||(!r9.1.2.1)) then
   I ((A0,()),())
   else
   (AN (cn (j5.1,j5.1.2.2.2.2.1,(j8 j5.1.2.2.2.2.1:Int),0,()))
   (λy56=>I (y56,()))
   (λy56=>I ((Y,()),()))))
   else G)) (I<|.inr ((id,up,lg,fo,hv,()),()))=I ((b&&(((DP id lg).isSome&&(DP id<|lg.extract 0 fo.toNat).isSome)&&An hv.length (Fl hv)),()),()):=by
  rintro b rfl;simp only[Bg,Q2 sl,A6,e4,A2];rw[Q2 (by rw[Fv J];omega)];simp only[A6,G9,AS];obtain e|e:=tf (DP id lg).isSome<;>obtain e2|e2:=tf (DP id<|lg.extract 0 fo.toNat).isSome<;>simp only[e,e2,AB,AH,GU,Bs,DS,A2,A4,EB,Ba,AL,AS];obtain e|e:=tf (An hv.length<|Fl hv)<;>simp only[e,A2,A4]<;>rfl
 obtain e7|e7:=tf up
 .simp only[e7,AB,A4,Bs];rw[e7]at IU;exact IU Y rfl
 .simp only[e7,AH,A2,Bk];rw[e7]at IU;by_cases e8:hv.length=0
  .have e9:U (0<(j8 hv:Int))=A0:=by rw[e8];rfl
   simp only[e9,A4,e8,AW];rw[e8]at IU;exact IU Y rfl
  .have e9:U (0<(j8 hv:Int))=Y:=by simp;omega
   simp only[e9,A2,e8,Ac,AL,ON]
def Li{k:A7}(sm:FK k):J5 (tKp k,())=I ((Ae k,()),()):=by
 obtain⟨id,up,lg,fo,hv⟩:=k;obtain⟨sl,hl,hs⟩:=sm;simp only at sl hl hs;have G9:cQ ((id,up,lg,fo,hv,()),0,())=I (if An hv.length (Fl hv) then .inr () else .inl (A0,())):=
  Ck (λi=>((id,up,lg,fo,hv,()),(i:Int),())) hv.length (Fl hv) (A0,()) () (λi hi=>by
   unfold eU Fl;simp only[B5 hi,AR hi,A2,Zn,aoa<|abR hs i,A6,B2 hi (by omega:hv.length<=9223372036854775807)];obtain e|e:=tf (G1<|hA hv i)
   .simp only[e,AB,A4,AS];have hin:sJ ((id,up,lg,fo,hv,()),(i:Int),0,())=I (if An i (λj=> !(U ((hA hv j).fr=(hA hv i).fr)&&U ((hA hv j).nu=(hA hv i).nu))) then .inr ((id,up,lg,fo,hv,()),(i:Int),()) else .inl (A0,())):=
     Ck (λj=>((id,up,lg,fo,hv,()),(i:Int),(j:Int),())) i (λj=> !(U ((hA hv j).fr=(hA hv i).fr)&&U ((hA hv j).nu=(hA hv i).nu))) (A0,()) _ (λj hj=>by
      unfold eS;simp only[B5 hj,AR hi,AR<|aC hj hi,A2,Zn,Ft,B2 hj (by omega:i<=9223372036854775807)];obtain e|e:=tfp ((hA hv j).fr=(hA hv i).fr)<;>obtain e2|e2:=tfp ((hA hv j).nu=(hA hv i).nu)<;>simp only[e,e2,AW,Ac]<;>rfl) (by simp[eS])
    rw[hin];obtain e4|e4:=tf (An i λj=> !(U ((hA hv j).fr=(hA hv i).fr)&&U ((hA hv j).nu=(hA hv i).nu)))
    .simp only[e4,A2,CD,B2 hi (by omega:hv.length<=9223372036854775807)]
    .simp only[e4,A4,Fu]
   .simp only[e,AH,A2,AL,A4]) (by simp[eU])
 unfold J5 Ae;simp only[Jp,A6,WR sl];obtain e|e:=tf (isN id)<;>simp only[e,AB,AH,A2,A4,AS,AL,ON];obtain e2|e2:=tf (DI lg fo)<;>simp only[e2,AB,AH,A2,A4,AS,AL,ON];have e3:0<=fo/\fo<=(lg.size:Int):=by
  unfold DI at e2;simp only[AD]at e2;exact Aa.1 e2.2.1
 have e4:(U (0<=fo)&&U (fo<=(lg.size:Int)))=Y:=by simp;omega
 obtain⟨e5,e6⟩|⟨e5,e6⟩:=EV (j8 hv:Int) 3<;>simp only[e5,e6,AW,Ac,A2,A4,AS,AL,ON];have IU:∀b:Bool,(b=Y)->BT (X:=(Int×Bool×A1×Int×List AG×D)×D) (λj5=>
   (if(U (0<=j5.1.2.2.2.1)&&U (j5.1.2.2.2.1<=(j5.1.2.2.1.size:Int))) then
   (LZ ((j5.1.2.2.1.extract (0)<|AM j5.1.2.2.2.1),())).bind λr8=>
   (SZ (j5.1.1,r8.1.1,())).bind λr9=>
   (GC j5).bind λr10=>
   (if((!r10.1.2.1)||(!r9.1.2.1)) then
   I ((A0,()),())
   else
   (AN (cQ (j5.1,0,()))
   (λy27=>I (y27,()))
   (λy27=>I ((Y,()),()))))
   else G)) (I<|.inr ((id,up,lg,fo,hv,()),()))=I ((b&&(((DP id lg).isSome&&(DP id<|lg.extract 0 fo.toNat).isSome)&&An hv.length (Fl hv)),()),()):=by
  rintro b rfl;have hz:(lg.extract 0 fo.toNat).size<=1048576:=by rw[Fv J];omega
  have hg:=QD<|lg.extract 0 fo.toNat;simp only[Bg,e4,A2,Vo hz,A6,aBe (id:=id) (show(D7<|lg.extract 0 fo.toNat).1.length<=1048576 by omega) (λr hr=>by have:=hg.2.2 r hr;omega),lS sl,G9,AS];rw[show Cc id (D7<|lg.extract 0 fo.toNat).1=DP id (lg.extract 0 fo.toNat) from rfl];obtain e|e:=tf (DP id lg).isSome<;>obtain e2|e2:=tf (DP id<|lg.extract 0 fo.toNat).isSome<;>simp only[e,e2,AB,AH,GU,Bs,DS,A2,A4,EB,Ba,AL,AS];obtain e|e:=tf (An hv.length<|Fl hv)<;>simp only[e,A2,A4]<;>rfl
 obtain e7|e7:=tf up
 .simp only[e7,AB,A4,Bs];rw[e7]at IU;exact IU Y rfl
 .simp only[e7,AH,A2,Bk];rw[e7]at IU;by_cases e8:hv.length=0
  .have e9:U (0<(j8 hv:Int))=A0:=by rw[e8];rfl
   simp only[e9,A4,e8,AW];rw[e8]at IU;exact IU Y rfl
  .have e9:U (0<(j8 hv:Int))=Y:=by simp;omega
   simp only[e9,A2,e8,Ac,AL,ON]
abbrev YR:=Int×List A7×List Bool×List AK×List A3×List A3×D
def kA(l:List A7)(i:Nat):A7:=l.getD i<|dfl .AP
def pA(l:List AK)(i:Nat):AK:=l.getD i<|dfl .Af
def bA(l:List Bool)(i:Nat):Bool:=l.getD i<|dfl .bool
def OK(l:List A7)(i:Nat): @rd A7 aIh l (i:Int)=kA l i:=rfl
def aFC(l:List AK)(i:Nat): @rd AK aIl l (i:Int)=pA l i:=rfl
def HN(l:List A3):Bool:=An l.length λi=>Ax<|nA l i
def Ds(p:AK):Bool:=isN p.src&&(isN p.dst&&((U (p.src - p.dst=1)||decide (p.dst - p.src=1))&&U ((p.data.size:Int)<=40)))
def JQ(l:List A7)(i:Nat):Bool:=U ((kA l i).id=(i:Int))&&Ae (kA l i)
def GH(ti:Int)(ks:List A7)(ls:List Bool)(ra:List AK)(se go:List A3):Bool:=
 inB ti 0 99999&&(U ((j8 ks:Int)=4)&&(U ((j8 ls:Int)=3)&&(U ((j8 ra:Int)<=30)&&((HN se&&U ((j8 se:Int)<=6))&&((HN go&&U ((j8 go:Int)<=6))&&
  (An ks.length (JQ ks)&&An ra.length (λi=>Ds<|pA ra i)))))))
def N6{l:List A7}(h:∀x∈l,FK x)(i:Nat):FK (kA l i):=by
 unfold kA;obtain hi|hi:=GW i l.length
 .rw[JF<|Ap hi];exact h _ (CU hi)
 .rw[BA,Ht hi];exact⟨by decide,by decide,λm hm=>by cases hm⟩
def aCm{l:List A3}(hl:l.length<=1048576)(h:∀x∈l,GJ x):X9 (l,())=I ((HN l&&U ((j8 l:Int)<=6),()),()):=by
 have G9:ub (l,l,(j8 l:Int),0,())=I (if HN l then .inr (l,()) else .inl (A0,())):=
  Ck (λi=>(l,l,(j8 l:Int),(i:Int),())) l.length (λi=>Ax<|nA l i) (A0,()) (l,()) (λi hi=>by
   unfold iZ;simp only[B5 hi,AR hi,A2,Co,Wm<|UY h i,A6,B2 hi (by omega:l.length<=9223372036854775807)];obtain e|e:=tf (Ax<|nA l i)<;>simp only[e]<;>rfl) (by simp[iZ])
 unfold X9;simp only[G9];obtain e|e:=tf (HN l)<;>simp only[e]<;>rfl
def ER{n:Int}(h:isN n=Y):0<=n/\n<=3:=Aa.1 h
def Yk{a b:Int}(ha:isN a=Y)(hb:isN b=Y):w64 (a - b)=a - b:=by
 have:=ER ha;have:=ER hb;exact AZ J J
def akU{w:YR}{ks:List A7}(kl:ks.length<=1048576)(k:∀x∈ks,FK x):
  tU (w,ks,(j8 ks:Int),0,())=I (if An ks.length (JQ ks) then .inr (w,()) else .inl (A0,())):=
 Ck (λi=>(w,ks,(j8 ks:Int),(i:Int),())) ks.length (JQ ks) (A0,()) (w,()) (λi hi=>by
  have hk:=Jn<|N6 k i;unfold fu JQ;simp only[B5 hi,AR hi,A2,OK,hk,DC,D4,Ft,B2 hi (by omega:ks.length<=9223372036854775807)];obtain e|e:=tfp ((kA ks i).id=(i:Int))<;>obtain e2|e2:=tf (Ae<|kA ks i)<;>simp only[e,e2,AW,Ac]<;>rfl) (by simp[fu])
def zp{ra:List AK}(rl:ra.length<=1048576):
  sf (ra,(j8 ra:Int),0,())=I (if An ra.length (λi=>Ds<|pA ra i) then .inr () else .inl (A0,())):=
 Ck (λi=>(ra,(j8 ra:Int),(i:Int),())) ra.length (λi=>Ds<|pA ra i) (A0,()) () (λi hi=>by
  unfold ft Ds;simp only[B5 hi,AR hi,A2,aFC,Jr,A6,B2 hi (by omega:ra.length<=9223372036854775807)];obtain e|e:=tf (isN (pA ra i).src)<;>obtain e2|e2:=tf (isN (pA ra i).dst)<;>simp only[e,e2,AB,AH,A2,A4,AS,AL];simp only[Yk e e2,Yk e2 e];obtain e3|e3:=tfp ((pA ra i).src - (pA ra i).dst=1)<;>obtain e4|e4:=tfp ((pA ra i).dst - (pA ra i).src=1)<;>obtain⟨e5,e6⟩|⟨e5,e6⟩:=EV ((pA ra i).data.size:Int) 40<;>simp only[e3,e4,e5,e6,AW,Ac]<;>rfl) (by simp[ft])
def gr{ti:Int}{ks:List A7}{ls:List Bool}{ra:List AK}{se go:List A3}(sm:Gx ks ls ra se go):
  Ml ((ti,ks,ls,ra,se,go,()),())=I ((GH ti ks ls ra se go,()),()):=by
 unfold Ml GH;simp only[EO,aCm sm.sl sm.s,aCm sm.gl sm.g,akU sm.kl sm.k,zp sm.rl,A6];obtain e|e:=tf (inB ti 0 99999)<;>simp only[e,AB,AH,A2,A4,AS,AL];obtain e|e:=tfp ((j8 ks:Int)=4)<;>simp only[e,AW,Ac,AB,AH,A2,A4,AS,AL];obtain e|e:=tfp ((j8 ls:Int)=3)<;>simp only[e,AW,Ac,AB,AH,A2,A4,AS,AL];obtain⟨e1,e2⟩|⟨e1,e2⟩:=EV (j8 ra:Int) 30<;>simp only[e1,e2,AW,Ac,A2,A4,AS,AL];obtain e|e:=tf (HN se&&U ((j8 se:Int)<=6))<;>simp only[e,AB,AH,A2,A4,AS,AL];obtain e|e:=tf (HN go&&U ((j8 go:Int)<=6))<;>simp only[e,AB,AH,A2,A4,AS,AL];obtain e|e:=tf (An ks.length<|JQ ks)<;>simp only[e,A2,A4,AS,AL,Fu,CD];rw[zp sm.rl];obtain e|e:=tf (An ra.length λi=>Ds<|pA ra i)<;>simp only[e,A2,A4,Fu,CD]
def aji{ti:Int}{ks:List A7}{ls:List Bool}{ra:List AK}{se go:List A3}(sm:Gx ks ls ra se go):
  si ((ti,ks,ls,ra,se,go,()),0,())=I (if An ks.length (JQ ks) then .inr ((ti,ks,ls,ra,se,go,()),()) else .inl (A0,())):=
 Ck (λi=>((ti,ks,ls,ra,se,go,()),(i:Int),())) ks.length (JQ ks) (A0,()) _ (λi hi=>by
  have hk:=Li<|N6 sm.k i;unfold fa JQ;have kl:=sm.kl;simp only[B5 hi,AR hi,A2,OK,hk,A6,Ft,B2 hi (by omega:ks.length<=9223372036854775807)];obtain e|e:=tfp ((kA ks i).id=(i:Int))<;>obtain e2|e2:=tf (Ae<|kA ks i)<;>simp only[e,e2,AW,Ac]<;>rfl) (by simp[fa])
def ajh{ti:Int}{ks:List A7}{ls:List Bool}{ra:List AK}{se go:List A3}(sm:Gx ks ls ra se go):
  sg ((ti,ks,ls,ra,se,go,()),0,())=I (if An ra.length (λi=>Ds<|pA ra i) then .inr ((ti,ks,ls,ra,se,go,()),()) else .inl (A0,())):=
 Ck (λi=>((ti,ks,ls,ra,se,go,()),(i:Int),())) ra.length (λi=>Ds<|pA ra i) (A0,()) _ (λi hi=>by
  have rl:=sm.rl;unfold fZ Ds;simp only[B5 hi,AR hi,A2,aFC,Jp,A6,B2 hi (by omega:ra.length<=9223372036854775807)];obtain e|e:=tf (isN (pA ra i).src)<;>obtain e2|e2:=tf (isN (pA ra i).dst)<;>simp only[e,e2,AB,AH,A2,A4,AS,AL];simp only[Yk e e2,Yk e2 e];obtain e3|e3:=tfp ((pA ra i).src - (pA ra i).dst=1)<;>obtain e4|e4:=tfp ((pA ra i).dst - (pA ra i).src=1)<;>obtain⟨e5,e6⟩|⟨e5,e6⟩:=EV ((pA ra i).data.size:Int) 40<;>simp only[e3,e4,e5,e6,AW,Ac]<;>rfl) (by simp[fZ])
def ajg{ti:Int}{ks:List A7}{ls:List Bool}{ra:List AK}{se go:List A3}(sm:Gx ks ls ra se go):
  tT ((ti,ks,ls,ra,se,go,()),0,())=I (if HN se then .inr ((ti,ks,ls,ra,se,go,()),()) else .inl (A0,())):=
 Ck (λi=>((ti,ks,ls,ra,se,go,()),(i:Int),())) se.length (λi=>Ax<|nA se i) (A0,()) _ (λi hi=>by
  have rl:=sm.sl;unfold fY;simp only[B5 hi,AR hi,A2,Co,Wr<|UY sm.s i,A6,B2 hi (by omega:se.length<=9223372036854775807)];obtain e|e:=tf (Ax<|nA se i)<;>simp only[e]<;>rfl) (by simp[fY])
def ajf{ti:Int}{ks:List A7}{ls:List Bool}{ra:List AK}{se go:List A3}(sm:Gx ks ls ra se go):
  tQ ((ti,ks,ls,ra,se,go,()),0,())=I (if HN go then .inr () else .inl (A0,())):=
 Ck (λi=>((ti,ks,ls,ra,se,go,()),(i:Int),())) go.length (λi=>Ax<|nA go i) (A0,()) _ (λi hi=>by
  have rl:=sm.gl;unfold fX;simp only[B5 hi,AR hi,A2,Co,Wr<|UY sm.g i,A6,B2 hi (by omega:go.length<=9223372036854775807)];obtain e|e:=tf (Ax<|nA go i)<;>simp only[e]<;>rfl) (by simp[fX])
def im{ti:Int}{ks:List A7}{ls:List Bool}{ra:List AK}{se go:List A3}(sm:Gx ks ls ra se go):
  Q1 ((ti,ks,ls,ra,se,go,()),())=I ((GH ti ks ls ra se go,()),()):=by
 unfold Q1 GH;simp only[I3,A6];obtain e|e:=tf (inB ti 0 99999)<;>simp only[e,AB,AH,A2,A4,AS,AL];obtain e|e:=tfp ((j8 ks:Int)=4)<;>simp only[e,AW,Ac,AB,AH,A2,A4,AS,AL];obtain e|e:=tfp ((j8 ls:Int)=3)<;>simp only[e,AW,Ac,AB,AH,A2,A4,AS,AL];obtain⟨e1,e2⟩|⟨e1,e2⟩:=EV (j8 ra:Int) 30<;>simp only[e1,e2,AW,Ac,A2,A4,AS,AL];obtain⟨e1,e2⟩|⟨e1,e2⟩:=EV (j8 se:Int) 6<;>simp only[e1,e2,AW,Ac,A2,A4,LC,Ba,AL];obtain⟨e1,e2⟩|⟨e1,e2⟩:=EV (j8 go:Int) 6<;>simp only[e1,e2,AW,Ac,A2,A4,LC,Ba,AL];rw[aji sm];obtain e|e:=tf (An ks.length<|JQ ks)<;>simp only[e,A2,A4,AS,AL,Ba,Fu,CD];rw[ajh sm];obtain e|e:=tf (An ra.length λi=>Ds<|pA ra i)<;>simp only[e,A2,A4,Fu,CD,Ba,LC];rw[ajg sm];obtain e|e:=tf (HN se)<;>simp only[e,A2,A4,Fu,CD,Ba,LC,AS,AL];rw[ajf sm];obtain e|e:=tf (HN go)<;>simp only[e,A2,A4,Fu,CD,Ba,LC]
def BW(a t:Int):Int:=if !isN a||(!isN t||decide (a=t)) then -1 else if a<t then a+1 else a - 1
def Yl{a:Int}(h:isN a=Y):w64 (a+1)=a+1/\w64 (a - 1)=a - 1:=by
 have:=ER h;exact⟨AZ J J,AZ J J⟩
def fv{a t:Int}:IZ (a,t,())=I ((BW a t,()),()):=by
 unfold IZ BW;simp only[Jr,A6];obtain e|e:=tf (isN a)
 .rcases tf (isN t) with e2|e2
  .rcases tfp (a=t) with e3|e3
   .simp only[e,e2,e3,AW];rfl
   .rcases tfp (a<t) with e4|e4<;>simp only[e,e2,e3,e4,Ac,AW,AB,A4,Bg,A2,if_false,GU,(Yl e).1,(Yl e).2]
  .simp only[e,e2];rfl
 .simp only[e];rfl
def vQ{a t:Int}:SH (a,t,())=I ((BW a t,()),()):=by
 unfold SH BW;simp only[Jp,A6];obtain e|e:=tf (isN a)
 .rcases tf (isN t) with e2|e2
  .rcases tfp (a=t) with e3|e3
   .simp only[e,e2,e3,AW];rfl
   .rcases tfp (a<t) with e4|e4<;>simp only[e,e2,e3,e4,Ac,AW,AB,A4,Bg,A2,if_false,GU,(Yl e).1,(Yl e).2]
  .simp only[e,e2];rfl
 .simp only[e];rfl
def lm{a t:Int}(ha:isN a=Y)(ht:isN t=Y)(hne:a≠t):isN (BW a t)=Y:=by
 have:=ER ha;have:=ER ht;have e3:U (a=t)=A0:=by simpa using hne
 unfold BW;simp only[ha,ht,e3,AB,GU,A4];rw[Aa];split<;>omega
def stT(k:A7):AE:=(DP k.id k.log).getD zK
def T5(l:List A7)(i:Int): @rd A7 aIh l i=kA l i.toNat:=rfl
structure alE (k:A7):Prop where
 id:isN k.id=Y
 sh:DI k.log k.fo=Y
 hl:k.AJ.length<=3
 up:k.up=Y\/k.AJ.length=0
 st:DP k.id k.log=I (stT k)
 ok:Av (stT k)=Y
 sid:(stT k).id=k.id
 fo:(DP k.id<|k.log.extract 0 k.fo.toNat).isSome=Y
 hv:∀i,i<k.AJ.length->Fl k.AJ i=Y
def Dk{k:A7}(h:Ae k=Y):alE k:=by
 unfold Ae at h;simp only[AD,Bw,decide_eq_true_eq,CA]at h;obtain⟨a,b,c,d,⟨e,f⟩,g⟩:=h;have hs:DP k.id k.log=I (stT k):=by
  unfold stT;cases hh:DP k.id k.log with
  | none=>rw[hh]at e;cases e
  | some o=>rfl
 exact⟨a,b,J,d,hs,QK hs,mB hs,f,g⟩
structure Nj (ti:Int) (ks:List A7) (ls:List Bool) (ra:List AK) (se go:List A3):Prop where
 t0:0<=ti
 t1:ti<=99999
 kl:ks.length=4
 ll:ls.length=3
 rl:ra.length<=30
 s:HN se=Y
 sl:se.length<=6
 g:HN go=Y
 gl:go.length<=6
 k:∀i,i<4->(kA ks i).id=(i:Int)/\Ae (kA ks i)=Y
 r:∀i,i<ra.length->Ds (pA ra i)=Y
def aG8{ti:Int}{ks:List A7}{ls:List Bool}{ra:List AK}{se go:List A3}(h:GH ti ks ls ra se go=Y):Nj ti ks ls ra se go:=by
 unfold GH at h;simp only[AD,decide_eq_true_eq,CA]at h;obtain⟨a,b,c,d,⟨e,f⟩,⟨g,i⟩,j,l⟩:=h;have a:=Aa.1 a;refine⟨a.1,a.2,J,J,J,e,J,g,J,λm hm=> ?_,l⟩;have:=j m J;unfold JQ at this;simp only[AD,decide_eq_true_eq]at this;exact this
def az9{k:A7}(h:Ae k=Y):k.log.size<=2400/\0<=k.fo/\k.fo<=k.log.size:=by
 have:=(Dk h).sh;unfold DI at this;simp only[AD,decide_eq_true_eq]at this;exact⟨this.1,Aa.1 this.2.1⟩
def mU{k:AE}{n:A3}(h:Av k=Y)(hn:n∈k.held):isN (BW k.id n.to)=Y:=by
 have hf:=Bz h;obtain⟨i,hi,rfl⟩:=Cq hn;have h1:=H8 hf.h hi;rw[DA<|Ap hi]at h1;have h2:=I9 h1;have h3:=hf.ho i hi;unfold HD Eh at h3;rw[DA<|Ap hi]at h3;simp only[AD,C6,decide_eq_false_iff_not]at h3;exact lm (Aa.2 ⟨hf.id0,hf.id1⟩) (Aa.2 ⟨h2.t0,h2.t1⟩) h3.2.2.1.1
section
variable {ti:Int} {ks:List A7} {ls:List Bool} {ra:List AK} {se go:List A3}
def Ev{l:List A3}{j:Nat}(h:j<l.length):nA l j∈l:=by
 rw[DA<|Ap h];exact CU h
end
end Go.VS
namespace Go.VS
open Go
def nEq(a b:A3):Bool:=U (a.fr=b.fr)&&(U (a.nu=b.nu)&&(U (a.to=b.to)&&(U (a.un=b.un)&&(U (a.tx=b.tx)&&Y))))
def aHq{a b:A3}:nEq a b=Y↔a=b:=by
 unfold nEq;simp only[AD,decide_eq_true_eq];constructor
 .rintro⟨h1,h2,h3,h4,h5,_⟩;cases a;cases b;simp_all
 .rintro rfl;simp
def bK{b:Bool}:b=A0↔ ¬b=Y:=by cases b<;>simp
def Ei(l:List A3)(n:A3):Bool:= !(An l.length λi=> !nEq (nA l i) n)
def OW{l:List A3}{n:A3}:Ei l n=Y↔n∈l:=by
 unfold Ei;rw[C6,bK,CA];constructor
 .intro h;refine aE7 λhn=>h λi hi=> ?_;rw[C6,bK,aHq];rintro rfl;exact hn (Ev hi)
 .intro h Fc;obtain⟨i,hi,rfl⟩:=Cq h;have:=Fc i hi;rw[DA<|Ap hi,aHq.2 rfl]at this;cases this
def K3(l:List A3)(i:Nat):Bool:=An i λj=> !(U ((nA l j).fr=(nA l i).fr)&&U ((nA l j).nu=(nA l i).nu))
def TG{a b c d e f:Int}(h:bef a b c d=Y)(k:bef c d e f=Y):bef a b e f=Y:=by
 unfold bef at *;simp only[Bw,AD,decide_eq_true_eq]at *;omega
def Oy{a b:Int}:bef a b a b=A0:=by
 unfold bef;simp
def Sl{l:List A3}(h:DQ l=Y):∀(j i:Nat),i<j->j<l.length->bef (nA l i).fr (nA l i).nu (nA l j).fr (nA l j).nu=Y
 | j+1,i,hij,hj=>by
  have h1:=CA.1 h (j+1) hj;simp only[AD,Bw,decide_eq_true_eq]at h1;have h2:bef (nA l j).fr (nA l j).nu (nA l<|j+1).fr (nA l<|j+1).nu=Y:=h1.2.resolve_left J;obtain h3|h3:=GW i j
  .exact TG (Sl h j i h3 J) h2
  .rwa[show i=j by omega]
def Dq:Nat->Int->Int->List Int
 | 0,a,_=>[a]
 | f+1,a,t=>if a=t then [a] else a::Dq f (BW a t) t
def PL(a t:Int):Nat:=(a - t).natAbs
def mS{a t:Int}(ha:isN a=Y)(ht:isN t=Y)(hne:a≠t):PL (BW a t) t+1=PL a t:=by
 have:=ER ha;have:=ER ht;have e3:U (a=t)=A0:=by simpa using hne
 unfold BW PL;simp only[ha,ht,e3,AB,GU,A4];split<;>omega
def axK{a t:Int}(ha:isN a=Y)(ht:isN t=Y):PL a t<=3:=by
 have:=ER ha;have:=ER ht;unfold PL;omega
def aGa:∀(f:Nat) {a t:Int},isN a=Y->isN t=Y->∀x∈Dq f a t,isN x=Y
 | 0,a,t,ha,_,x,hx=>by
  obtain rfl:=C9.1 hx;exact ha
 | f+1,a,t,ha,ht,x,hx=>by
  unfold Dq at hx;split at hx
  .obtain rfl:=C9.1 hx;exact ha
  .rename_i hne;obtain rfl|hx:=Bl.1 hx
   .exact ha
   .exact aGa f (lm ha ht hne) ht x hx
def aGZ:∀(f:Nat) (a t:Int),(Dq f a t).length<=f+1
 | 0,_,_=>Au _
 | f+1,a,t=>by
  unfold Dq;split
  .simp
  .simp only[Bf];have:=aGZ f (BW a t) t;omega
def stD(k:A7):AE:=(DP k.id<|k.log.extract 0 k.fo.toNat).getD zK
def Ot(ks:List A7)(n:A3)(x:Int):Bool:=(Ei (stT<|kA ks x.toNat).held n&&Ei (stD<|kA ks x.toNat).held n)||decide (n.un<=(stT<|kA ks x.toNat).ti)
def MG(ks:List A7)(go:List A3)(n:A3):Bool:=Ei go n||Ei (stT<|kA ks n.to.toNat).inbox n
def M8(ks:List A7)(n:A3):Bool:=(Dq 3 n.fr n.to).any<|Ot ks n
def Rb(ks:List A7)(se go:List A3)(i:Nat):Bool:=An (stT<|kA ks i).held.length (λj=>Ei se<|nA (stT<|kA ks i).held j)&&
 An (stT<|kA ks i).inbox.length (λj=>Ei se (nA (stT<|kA ks i).inbox j)&&U (AY go (nA (stT<|kA ks i).inbox j).fr (nA (stT<|kA ks i).inbox j).nu<0))
def Ya(ti:Int)(ks:List A7)(ls:List Bool)(ra:List AK)(se go:List A3):Bool:=
 GH ti ks ls ra se go&&(An se.length (K3 se)&&(An go.length (K3 go)&&(An se.length (λi=>MG ks go (nA se i)||M8 ks (nA se i))&&(An go.length (λi=>Ei se<|nA go i)&&An ks.length (Rb ks se go)))))
abbrev tNV(n:A3):Int×Int×Int×Int×A1×D:=(n.fr,n.nu,n.to,n.un,n.tx,())
def ays{a n:A3}:MU a.fr a.nu a.to a.un a.tx n.fr n.nu n.to n.un n.tx=nEq a n:=rfl
def pK(l:List AE)(i:Nat): @rd AE aIv l (i:Int)=l.getD i aIv:=rfl
def axj(l:List Int)(i:Nat): @rd Int aIk l (i:Int)=l.getD i 0:=rfl
def QE{l:List A3}{n:A3}(hl:l.length<=1048576):Kk (l,tNV n,())=I ((Ei l n,()),()):=by
 unfold Kk Ei;have h:iz (tNV n,l,(j8 l:Int),0,())=I (if An l.length (λi=> !nEq (nA l i) n) then .inr () else .inl (Y,())):=
  Ck (λi=>(tNV n,l,(j8 l:Int),(i:Int),())) l.length (λi=> !nEq (nA l i) n) (Y,()) () (λi hi=>by
   unfold Xa;simp only[B5 hi,AR hi,A2,Co,ays,B2 hi (by omega:l.length<=9223372036854775807)];obtain e|e:=tf (nEq (nA l i) n)<;>simp only[e]<;>rfl) (by simp[Xa])
 simp only[h];obtain e|e:=tf (An l.length λi=> !nEq (nA l i) n)<;>simp only[e]<;>rfl
def aCl{l:List A3}(hl:l.length<=1048576):X8 (l,())=I ((An l.length<|K3 l,()),()):=by
 unfold X8;have h:ua (l,l,(j8 l:Int),0,())=I (if An l.length (K3 l) then .inr () else .inl (A0,())):=
  Ck (λi=>(l,l,(j8 l:Int),(i:Int),())) l.length (K3 l) (A0,()) () (λi hi=>by
   have hf:=aGg (p:=λj=>U ((nA l j).fr=(nA l i).fr)&&U ((nA l j).nu=(nA l i).nu)) hi aIg;unfold iX K3;simp only[B5 hi,AR hi,A2,Co,Jq hl,A6,B2 hi (by omega:l.length<=9223372036854775807)];unfold AY;simp only[hf];obtain e|e:=tf (An i λj=> !(U ((nA l j).fr=(nA l i).fr)&&U ((nA l j).nu=(nA l i).nu)))<;>simp only[e]<;>rfl) (by simp[iX])
 simp only[h];obtain e|e:=tf (An l.length<|K3 l)<;>simp only[e]<;>rfl
def aFO(f:Nat)(a t:Int):Dq f a t=a::(Dq f a t).tail:=by
 cases f with
 | zero=>rfl
 | succ f=>unfold Dq;split<;>rfl
def aDO{n:A3}(ht:isN n.to=Y):∀(f:Nat) (a:Int) (out:List Int),PL a n.to<=f->isN a=Y->out.length+f<=100->ee (tNV n,out,a,())=I (.inr (out++(Dq f a n.to).tail,()))
 | 0,a,out,hd,ha,_=>by
  have e:a=n.to:=by unfold PL at hd;omega
  subst e;refine BF ?_;unfold Wt;simp[Dq]
 | f+1,a,out,hd,ha,hl=>by
  by_cases e:a=n.to
  .subst e;refine BF ?_;unfold Wt;simp[Dq]
  .have h1:=mS ha ht e;have e2:(!decide (a=n.to))=Y:=by simpa using e
   refine As (x':=(tNV n,out++[BW a n.to],BW a n.to,())) ?_ ?_
   .unfold Wt;simp only[e2,A2,fv,A6,Bf,CK,DN,BD (J:out.length+1<=4294967296)]
   .have:=aDO ht f (BW a n.to) (out++[BW a n.to]) J (lm ha ht e) y8;refine KN this ?_;have e3:(Dq (f+1) a n.to).tail=Dq f (BW a n.to) n.to:=by
     conv=>lhs;unfold Dq
     rw[A9 e];rfl
    rw[e3,aFO f (BW a n.to) n.to];simp
def aqR{n:A3}(hf:isN n.fr=Y)(ht:isN n.to=Y):XV (tNV n,())=I ((Dq 3 n.fr n.to,()),()):=by
 unfold XV;have:=aDO ht 3 n.fr [n.fr] (axK hf ht) hf aIg;rw[show ee (tNV n,[n.fr],n.fr,())=_ from this];simp only[CD];rw[aFO 3 n.fr n.to];rfl
def awp{α:Type}{l:List α}{d:α}{f:α->Bool}:l.any f= !(An l.length λi=> !f (l.getD i d)):=by
 rw[MK,C6,bK,CA,HR];constructor
 .rintro⟨x,hx,h⟩ Fc;obtain⟨i,hi,rfl⟩:=Cq hx;have:=Fc i hi;rw[JF<|Ap hi,h]at this;cases this
 .intro h;refine aE7 λhn=>h λi hi=> ?_;rw[JF<|Ap hi,C6,bK];exact λh1=>hn ⟨_,CU hi,h1⟩
def lI{l:List A7}{f:A7->AE}{i:Nat}(h:i<l.length):(l.map f).getD i aIv=f (kA l i):=by
 rw[JF (x:=f l[i])<|by simp[h]];unfold kA;rw[JF<|Ap h]
section
variable {ti:Int} {ks:List A7} {ls:List Bool} {ra:List AK} {se go:List A3}
def axy{k:A7}(h:Ae k=Y):Av (stD k)=Y:=by
 have hf:=(Dk h).fo;unfold stD;cases hs:DP k.id (k.log.extract 0 k.fo.toNat) with
 | none=>rw[hs]at hf;cases hf
 | some o=>exact QK hs
def aN{k:AE}(h:Av k=Y):k.held.length<=1048576/\k.inbox.length<=1048576:=by
 have:=Bz h;exact⟨by have:=this.hl;omega,by have:=this.il;omega⟩
def aGq{x:Int}(h:isN x=Y):∃m:Nat,m<4/\x=(m:Int):=by
 have:=ER h;exact⟨x.toNat,J,J⟩
def aqz(hf:Nj ti ks ls ra se go){n:A3}(h1:isN n.fr=Y)(h2:isN n.to=Y):
  XZ ((ti,ks,ls,ra,se,go,()),ks.map stT,ks.map stD,tNV n,())=I ((MG ks go n||M8 ks n,()),()):=by
 obtain⟨m,hm,e⟩:=aGq h2;have hmk:m<ks.length:=by rw[hf.kl];exact hm
 have hk:=Dk (hf.k m hm).2;have hl:=aN hk.ok;have hgl:go.length<=1048576:=by have:=hf.gl;omega
 unfold XZ;simp only[QE hgl,A6];rw[show((rd aIv (ks.map stT) n.to):AE)=stT (kA ks m) by rw[e,pK,lI hmk],show inb n.to (ks.map stT).length=Y by rw[e];exact AR<|by simpa using hmk,QE hl.2];simp only[DC,D4,Ft,A2];have ec:MG ks go n=(Ei go n||Ei (stT<|kA ks m).inbox n):=by unfold MG;rw[e,BV]
 obtain e1|e1:=tf (Ei go n||Ei (stT<|kA ks m).inbox n)
 .simp only[ec,e1,A2,Bs]
 .simp only[ec,e1,A4,Bk,aqR h1 h2,A6];have alT:=aGa 3 h1 h2;have hwl:=aGZ 3 n.fr n.to;have G9:vV (ks.map stT,ks.map stD,tNV n,Dq 3 n.fr n.to,((Dq 3 n.fr n.to).length:Int),0,())=I (if An (Dq 3 n.fr n.to).length (λi=> !Ot ks n ((Dq 3 n.fr n.to).getD i 0)) then .inr () else .inl (Y,())):=
   Ck (λi=>(ks.map stT,ks.map stD,tNV n,Dq 3 n.fr n.to,((Dq 3 n.fr n.to).length:Int),(i:Int),())) _ (λi=> !Ot ks n ((Dq 3 n.fr n.to).getD i 0)) (Y,()) () (λi hi=>by
    obtain⟨x,hx,ex⟩:=aGq<|alT _<|CU hi;have exg:(Dq 3 n.fr n.to).getD i 0=(x:Int):=by rw[JF<|Ap hi,ex]
    have hxk:x<ks.length:=by rw[hf.kl];exact hx
    have hkx:=Dk (hf.k x hx).2;have hlx:=aN hkx.ok;have hlD:=aN<|axy (hf.k x hx).2;unfold XL Ot;simp only[B5 hi,AR hi,A2,axj,exg,AR<|show x<(ks.map stT).length by simpa using hxk,AR<|show x<(ks.map stD).length by simpa using hxk,pK,lI hxk,QE hlx.1,QE hlD.1,A6,Ft,BV,B2 hi (by omega:(Dq 3 n.fr n.to).length<=9223372036854775807)];obtain a1|a1:=tf (Ei (stT<|kA ks x).held n)<;>obtain a2|a2:=tf (Ei (stD<|kA ks x).held n)<;>obtain a3|a3:=tfp (n.un<=(stT<|kA ks x).ti)<;>simp only[a1,a2,a3,AW,Ac]<;>rfl) (by simp[XL])
  rw[G9];unfold M8;rw[awp (d:=0)];obtain e2|e2:=tf (An (Dq 3 n.fr n.to).length λi=> !Ot ks n ((Dq 3 n.fr n.to).getD i 0))<;>simp only[e2]<;>rfl
def aqb(sm:Gx ks ls ra se go)(hf:Nj ti ks ls ra se go):
  rj ((ti,ks,ls,ra,se,go,()),[],[],ks,(j8 ks:Int),0,())=I (.inr ((ti,ks,ls,ra,se,go,()),ks.map stT,ks.map stD,())):=by
 have h:=CG (b:=Vl) (λi=>((ti,ks,ls,ra,se,go,()),(ks.take i).map stT,(ks.take i).map stD,ks,(j8 ks:Int),(i:Int),())) ks.length (y:= .inr ((ti,ks,ls,ra,se,go,()),ks.map stT,ks.map stD,())) (λi hi=>by
  have hi4:i<4:=by rw[← hf.kl];exact hi
  have sk:=N6 sm.k i;have hs:=az9 (hf.k i hi4).2;have e2:(0<=(kA ks i).fo)=True:=eq_true hs.2.1;have e3:((kA ks i).fo<=((kA ks i).log.size:Int))=True:=eq_true hs.2.2;have hz:((kA ks i).log.extract 0 (kA ks i).fo.toNat).size<=1048576:=by rw[Fv J];omega
  have hlt:∀f:A7->AE,((ks.take i).map f).length+1<=4294967296:=λf=>by simp;omega
  have hsn:∀f:A7->AE,(ks.take i).map f++[f (kA ks i)]=(ks.take<|i+1).map f:=λf=>by
   have:kA ks i=ks[i]:=by unfold kA;rw[JF<|Ap hi]
   rw[this,Iw,Ap hi,Ec];rfl
  unfold Vl;simp only[B5 hi,AR hi,A2,OK,Q2 sk.1,Q2 hz,A6,e2,e3,AW,EB,Bf,CK,DN,BD<|hlt _,B2 hi (by rw[hf.kl];decide:ks.length<=9223372036854775807)];have a1:=hsn stT;have a2:=hsn stD;rw[← a1,← a2];rfl) (by
  simp only[E0];simp[Vl])
 exact h
def aqa(sm:Gx ks ls ra se go)(hf:Nj ti ks ls ra se go):
  rh ((ti,ks,ls,ra,se,go,()),ks.map stT,ks.map stD,se,(j8 se:Int),0,())=I (if An se.length (λi=>MG ks go (nA se i)||M8 ks (nA se i)) then .inr ((ti,ks,ls,ra,se,go,()),ks.map stT,()) else .inl (A0,())):=
 Ck (λi=>((ti,ks,ls,ra,se,go,()),ks.map stT,ks.map stD,se,(j8 se:Int),(i:Int),())) se.length (λi=>MG ks go (nA se i)||M8 ks (nA se i)) (A0,()) _ (λi hi=>by
  have hok:=I9<|CA.1 hf.s i hi;have h3:=aqz hf (n:=nA se i) (Aa.2 ⟨hok.f0,hok.f1⟩)<|Aa.2 ⟨hok.t0,hok.t1⟩;have sl:=sm.sl;unfold eA;simp only[B5 hi,AR hi,A2,Co];rw[h3];simp only[A6,B2 hi (by omega:se.length<=9223372036854775807)];obtain e|e:=tf (MG ks go (nA se i)||M8 ks (nA se i))<;>simp only[e]<;>rfl) (by simp[eA])
def aqZ(sm:Gx ks ls ra se go){ss:List AE}:
  re ((ti,ks,ls,ra,se,go,()),ss,go,(j8 go:Int),0,())=I (if An go.length (λi=>Ei se<|nA go i) then .inr ((ti,ks,ls,ra,se,go,()),ss,()) else .inl (A0,())):=
 Ck (λi=>((ti,ks,ls,ra,se,go,()),ss,go,(j8 go:Int),(i:Int),())) go.length (λi=>Ei se<|nA go i) (A0,()) _ (λi hi=>by
  have gl:=sm.gl;unfold dz;simp only[B5 hi,AR hi,A2,Co];rw[QE (n:=nA go i) sm.sl];simp only[A6,B2 hi (by omega:go.length<=9223372036854775807)];obtain e|e:=tf (Ei se<|nA go i)<;>simp only[e]<;>rfl) (by simp[dz])
def UQ(se l:List A3)(j:Nat):Bool:=Ei se<|nA l j
def Uh(se go l:List A3)(j:Nat):Bool:=Ei se (nA l j)&&U (AY go (nA l j).fr (nA l j).nu<0)
def aqX(sm:Gx ks ls ra se go){k:AE}(hl:k.held.length<=1048576){ss:List AE}{a b:Int}:
  rZ ((ti,ks,ls,ra,se,go,()),tK k,ss,a,b,k.held,(j8 k.held:Int),0,())=I (if An k.held.length (UQ se k.held) then .inr ((ti,ks,ls,ra,se,go,()),tK k,ss,a,b,()) else .inl (A0,())):=
 Ck (λi=>((ti,ks,ls,ra,se,go,()),tK k,ss,a,b,k.held,(j8 k.held:Int),(i:Int),())) k.held.length (UQ se k.held) (A0,()) _ (λi hi=>by
  unfold dx UQ;simp only[B5 hi,AR hi,A2,Co];rw[QE (n:=nA k.held i) sm.sl];simp only[A6,B2 hi (by omega:k.held.length<=9223372036854775807)];obtain e|e:=tf (Ei se<|nA k.held i)<;>simp only[e]<;>rfl) (by simp[dx])
def aqW(sm:Gx ks ls ra se go){l:List A3}(hl:l.length<=1048576){ss:List AE}{a b:Int}:
  rY ((ti,ks,ls,ra,se,go,()),ss,a,b,l,(j8 l:Int),0,())=I (if An l.length (Uh se go l) then .inr ((ti,ks,ls,ra,se,go,()),ss,a,b,()) else .inl (A0,())):=
 Ck (λi=>((ti,ks,ls,ra,se,go,()),ss,a,b,l,(j8 l:Int),(i:Int),())) l.length (Uh se go l) (A0,()) _ (λi hi=>by
  have hs:=sgn<|AY go (nA l i).fr (nA l i).nu;unfold dw Uh;simp only[B5 hi,AR hi,A2,Co];rw[QE (n:=nA l i) sm.sl];simp only[A6,Jq sm.gl,DC,D4,Ft,A2,B2 hi (by omega:l.length<=9223372036854775807)];obtain⟨e1,e2⟩|⟨e1,e2⟩:=hs<;>obtain e|e:=tf (Ei se<|nA l i)<;>simp only[e,e1,e2,AW,Ac]<;>rfl) (by simp[dw])
def aqY(sm:Gx ks ls ra se go)(hf:Nj ti ks ls ra se go):
  rb ((ti,ks,ls,ra,se,go,()),ks.map stT,((ks.map stT).length:Int),0,())=I (if An ks.length (Rb ks se go) then .inr () else .inl (A0,())):=by
 rw[show(ks.map stT).length=ks.length by simp];exact Ck (λi=>((ti,ks,ls,ra,se,go,()),ks.map stT,(j8 ks:Int),(i:Int),())) ks.length (Rb ks se go) (A0,()) () (λi hi=>by
  have hi4:i<4:=by rw[← hf.kl];exact hi
  have hl:=aN (Dk (hf.k i hi4).2).ok;have h4:=aqX (ti:=ti) sm (k:=stT<|kA ks i) hl.1 (ss:=ks.map stT) (a:=(j8 ks:Int)) (b:=(i:Int));have h5:=aqW (ti:=ti) sm (l:=(stT<|kA ks i).inbox) hl.2 (ss:=ks.map stT) (a:=(j8 ks:Int)) (b:=(i:Int));unfold dy;simp only[B5 hi,AR<|show i<(ks.map stT).length by simpa using hi,A2,pK,lI hi];rw[h4];have eo:Rb ks se go i=(An (stT<|kA ks i).held.length (UQ se (stT<|kA ks i).held)&&An (stT<|kA ks i).inbox.length (Uh se go (stT<|kA ks i).inbox)):=rfl;rw[eo];obtain e|e:=tf (An (stT<|kA ks i).held.length<|UQ se (stT<|kA ks i).held)
  .simp only[e,A2,CD,AS,h5];obtain e2|e2:=tf (An (stT<|kA ks i).inbox.length<|Uh se go (stT<|kA ks i).inbox)
   .simp only[e2,A2,CD,B2 hi (by rw[hf.kl];decide:ks.length<=9223372036854775807)]
   .simp only[e2,A4,Fu]
  .simp only[e,A4,AL,Fu]) (by simp[dy])
def aif(sm:Gx ks ls ra se go):Nv ((ti,ks,ls,ra,se,go,()),())=I ((Ya ti ks ls ra se go,()),()):=by
 unfold Nv Ya;rw[gr sm];simp only[A6];obtain e|e:=tf (GH ti ks ls ra se go)<;>simp only[e,AB,AH,A2,A4,AS,AL];have hf:=aG8 e;rw[aCl sm.sl,aCl sm.gl];simp only[A6];obtain e|e:=tf (An se.length<|K3 se)<;>simp only[e,AB,AH,A2,A4,AS,AL];obtain e|e:=tf (An go.length<|K3 go)<;>simp only[e,AB,AH,A2,A4,AS,AL];rw[aqb sm hf];simp only[CD];rw[aqa sm hf];obtain e|e:=tf (An se.length λi=>MG ks go (nA se i)||M8 ks (nA se i))<;>simp only[e,A2,A4,AS,AL,CD,Fu];rw[aqZ sm];obtain e|e:=tf (An go.length λi=>Ei se<|nA go i)<;>simp only[e,A2,A4,AS,AL,CD,Fu];rw[aqY sm hf];obtain e|e:=tf (An ks.length<|Rb ks se go)<;>simp only[e,A2,A4,CD,Fu]
end
end Go.VS
namespace Go.VS
open Go
def D0(r:A1):A1:=((BY (r.size:Int)++B [58])++r)++B [59]
def ou(r:A1):L (D0 r)=dcm r.size++58::(L r++[59]):=by
 unfold D0;rw[aHY];simp only[GP,L_B,qJ,C5,LB,Eb]
def Xe(r:A1):(D0 r).size=(dcm r.size).length+2+r.size:=by
 rw[← Az,ou];simp only[Aw,Bf,CK,Az];omega
def cat(rs:List A1):List UInt8:=rs.flatMap λr=>L<|D0 r
def Jv:cat []=[]:=rfl
def I5(r:A1)(rs:List A1):cat (r::rs)=L (D0 r)++cat rs:=rfl
def Kj(rs ts:List A1):cat (rs++ts)=cat rs++cat ts:=o9
def IB(rs:List A1):Prop:=∀r∈rs,1<=r.size/\r.size<=60
def ayQ(b:UInt8)(h:dig b=Y):b≠58:=by
 rintro rfl;revert h;decide
def aaQ{n:Nat}(h:n<=60):(dcm n).length<=2:=Lr 2 n J J
def aaR(n:Nat):1<=(dcm n).length:=by
 have:=pb n;cases h:dcm n with
 | nil=>exact absurd h this
 | cons b l=>simp
def aHf{l m:List UInt8}{b:UInt8}{i:Nat}(h:i=l.length):(l++b::m).getD i 0=b:=by
 subst h;simp
def ZG{s r:A1}{t:List UInt8}(h:L s=L (D0 r)++t)(h1:1<=r.size)(h2:r.size<=60):Dg s=I (r,(D0 r).size):=by
 rw[ou]at h;have hs:s.size=(dcm r.size).length+2+r.size+t.length:=by
  rw[← Az,h];simp only[Aw,Bf,CK,Az];omega
 have hd:=aaQ h2;have hp:=aaR r.size;generalize hc:(dcm r.size).length=c at *;have hL:L s=dcm r.size++58::(L r++59::t):=by rw[h];simp
 have amw:Ue s=(c:Int):=by
  refine aGh J ?_ (λj hj=> ?_)
  .rw[decide_eq_true_eq,K0,hL,aHf hc.symm];rfl
  .rw[decide_eq_false_iff_not,K0,hL];have hlt:j<(dcm r.size).length:=J
   have hm:(dcm r.size++58::(L r++59::t)).getD j 0∈dcm r.size:=aHe hlt;have hdg:=ZW (r.size+1) r.size J _ hm;have hne:=ayQ _ hdg;generalize (dcm r.size++58::(L r++59::t)).getD j 0=b at *;intro e;apply hne;have e:b.toNat=58:=J
   exact Qs.1 e
 have he:L (s.extract 0 c)=dcm r.size:=by
  rw[EE,hL];simp[← hc]
 have hn:Ad (s.extract 0 c)=(r.size:Int):=og (by rw[← Az,he];omega) he;have h59:bt s ((c+1+r.size:Nat):Int)=59:=by
  have e:(L s).getD (c+1+r.size) 0=59:=by
   have:dcm r.size++58::(L r++59::t)=(dcm r.size++58::L r)++59::t:=by simp
   rw[hL,this];exact aHf (by simp[hc];omega)
  rw[K0,e];rfl
 have hx:s.extract (c+1) (c+1+r.size)=r:=by
  refine G5 ?_;rw[EE,hL];have:(dcm r.size++58::(L r++59::t)).drop (c+1)=L r++59::t:=by
   have e:dcm r.size++58::(L r++59::t)=(dcm r.size++[58])++(L r++59::t):=by simp
   rw[e,Qt<|by simp[hc]]
  rw[this,show c+1+r.size - (c+1)=(L r).length by rw[Az];omega,P8 rfl]
 unfold Dg;rw[amw];simp only[BV,hn];rw[A9 J,A9 J,A9 J,A9 J,h59];simp only[AW,AB,A4,hx];rw[Xe,hc]
def awE{s r:A1}{n:Nat}(h:Dg s=I (r,n)):1<=r.size/\r.size<=60/\n=(D0 r).size/\ ∃t,L s=L (D0 r)++t:=by
 have hsm:=TC h;unfold Dg at h;split at h
 .cases h
 rename_i hc0;obtain⟨h1,_⟩|⟨c,h1,h2,h3,h4,_⟩:=Xf s
 .omega
 rw[h1]at h;simp only[BV]at h;split at h
 .cases h
 rename_i hn1;split at h
 .cases h
 rename_i hn2;split at h
 .cases h
 rename_i hn3;split at h
 .cases h
 rename_i hn4;cases h;have hz:(s.extract 0 c).size=c:=by rw[Fv J];omega
 obtain⟨h9,_⟩|⟨k,h9,h10,h11⟩:=Sp (s.extract 0 c)
 .omega
 simp only[h9,BV]at hn1 hn2 hn3 hn4 hsm ⊢;have hrs:(s.extract (c+1)<|c+1+k).size=k:=by rw[Fv J];omega
 have h5:bt s ((c+1+k:Nat):Int)=59:=by
  cases hd:U (bt s ((c+1+k:Nat):Int)=59) with
  | true=>simpa using hd
  | false=>rw[hd]at hn4;exact absurd rfl hn4
 have g1:(L s).getD c 0=58:=by
  rw[K0]at h4;exact Qs.1 (by have:(58:UInt8).toNat=58:=rfl;omega)
 have g2:(L s).getD (c+1+k) 0=59:=by
  rw[K0]at h5;exact Qs.1 (by have:(59:UInt8).toNat=59:=rfl;omega)
 have hlen:(L s).length=s.size:=Az s;have t1:(L s).take c=dcm k:=by
  rw[← h11,EE];simp
 have hcl:(dcm k).length=c:=by rw[← t1,Di];omega
 have hsp:L s=dcm k++58::((L<|s.extract (c+1)<|c+1+k)++59::(L s).drop (c+1+k+1)):=by
  conv=>lhs;rw[← JV c<|L s,t1]
  congr 1;rw[Tz J];congr 1
  .rw[← g1,BA,Ap J];rfl
  .rw[EE]
   conv=>lhs;rw[← JV k<|(L s).drop<|c+1]
   rw[show c+1+k - (c+1)=k by omega];congr 1;rw[J0,Tz J];congr 1;rw[← g2,BA,Ap J];rfl
 refine⟨J,J, ?_,(L s).drop<|c+1+k+1, ?_⟩
 .rw[Xe,hrs,hcl]
 .rw[ou,hrs]
  conv=>lhs;rw[hsp]
  simp
def Xx(r:A1):3<=(D0 r).size:=by
 rw[Xe];have:=aaR r.size;omega
def aGA{log:A1}:∀(rs:List A1) (f:Nat) (out:List A1) (at_:Nat),IB rs->(L log).drop at_=cat rs->at_<=log.size->log.size<at_+f->Ex log f out at_=(out++rs,log.size)
 | [],0,out,at_,_,_,h3,h4=>J
 | [],f+1,out,at_,_,h2,h3,h4=>by
  have:log.size<=at_:=by
   have e:=congrArg Jb h2;rw[EJ,Az,Jv]at e;simp at e;omega
  unfold Ex;rw[A9 J,CP];rw[show at_=log.size by omega]
 | r::rs,0,out,at_,_,_,h3,h4=>J
 | r::rs,f+1,out,at_,h1,h2,h3,h4=>by
  have hr:=h1 r Ao;rw[I5]at h2;have hlen:log.size - at_=(D0 r).size+(cat rs).length:=by
   have e:=congrArg Jb h2;rwa[EJ,Az,Aw,Az]at e
  have hp:=Xx r;have DG:Dg (log.extract at_ log.size)=I (r,(D0 r).size):=by
   refine ZG (t:=cat rs) ?_ hr.1 hr.2;rw[EE,h2];refine KH ?_;rw[Aw,Az];omega
  unfold Ex;rw[A5 J,DG];simp only;have:=aGA (log:=log) rs f (out++[r]) (at_+(D0 r).size) (λx hx=>h1 x<|Aj _ hx) (by
   rw[← J0,h2,Qt<|by rw[Az]]) J J
  rw[this];simp
def Yb{log:A1}{rs:List A1}(h1:IB rs)(h2:L log=cat rs):D7 log=(rs,log.size):=by
 have:=aGA (log:=log) rs (log.size+1) [] 0 h1 (by simpa using h2) (D5 _) J;exact this
def nI{log:A1}:∀(f:Nat) (out:List A1) (at_:Nat),at_<=log.size->∃rs,(Ex log f out at_).1=out++rs/\IB rs/\ ∃t,(L log).drop at_=cat rs++t/\(Ex log f out at_).2=at_+(cat rs).length
 | 0,out,at_,_=>⟨[],by simp[Ex],(λr hr=>nomatch hr),(L log).drop at_,rfl,rfl⟩
 | f+1,out,at_,h=>by
  unfold Ex;split
  .rename_i hlt;cases DG:Dg (log.extract at_ log.size) with
   | none=>exact⟨[],by simp,(λr hr=>nomatch hr),(L log).drop at_,rfl,rfl⟩
   | some p=>
    obtain⟨r,n⟩:=p;obtain⟨k1,k2,k3,t,k4⟩:=awE DG;have hsm:=TC DG;rw[Fv<|Au _]at hsm;simp only at hsm ⊢;obtain⟨rs,g1,g2,t',g3,g4⟩:=nI (log:=log) f (out++[r]) (at_+n) J;have e:L (log.extract at_ log.size)=(L log).drop at_:=by
     rw[EE];exact KH (by rw[EJ,Az];omega)
    rw[e]at k4;have ht:t=cat rs++t':=by
     rw[← g3,← J0,k4,k3,Qt<|by rw[Az]]
    refine⟨r::rs,by rw[g1];simp,λx hx=> ?_,t',by rw[k4,ht,I5,C5], ?_⟩
    .rcases Bl.1 hx with rfl|hx
     .exact⟨k1,k2⟩
     .exact g2 x hx
    .rw[g4,I5,Aw,Az,k3];omega
  .exact⟨[],by simp,(λr hr=>nomatch hr),(L log).drop at_,rfl,rfl⟩
def mJ(log:A1):IB (D7 log).1/\(D7 log).2=(cat (D7 log).1).length/\ ∃t,L log=cat (D7 log).1++t:=by
 obtain⟨rs,g1,g2,t,g3,g4⟩:=nI (log:=log) (log.size+1) [] 0<|D5 _;have e:(D7 log).1=rs:=by
  show(Ex log (log.size+1) [] 0).1=rs;simpa using g1
 rw[e];refine⟨g2, ?_,t,by simpa using g3⟩;show(Ex log (log.size+1) [] 0).2=_;rw[g4,DN]
def pV:∀(rs ts:List A1) (t:List UInt8),IB rs->IB ts->cat rs=cat ts++t->∃us,rs=ts++us
 | rs,[],t,_,_,_=>⟨rs,rfl⟩
 | [],s::ts,t,_,_,h=>by
  have e:=congrArg Jb h;rw[I5,Jv]at e;have:=Xx s;simp only[CK,Aw,Az]at e;omega
 | r::rs,s::ts,t,h1,h2,h=>by
  rw[I5,I5,C5]at h;have hr:=h1 r Ao;have hs:=h2 s Ao;have o1:=ZG (s:=B<|L (D0 r)++cat rs) (r:=r) (t:=cat rs) (L_B _) hr.1 hr.2;have o2:=ZG (s:=B<|L (D0 r)++cat rs) (r:=s) (t:=cat ts++t) (by rw[L_B,h]) hs.1 hs.2;rw[o1]at o2;simp only[Bt,CQ]at o2;obtain⟨rfl,_⟩:=o2;obtain⟨us,hu⟩:=pV rs ts t (λx hx=>h1 x<|Aj _ hx) (λx hx=>h2 x<|Aj _ hx)<|aEG h;exact⟨us,by rw[hu];rfl⟩
def aF9{lg:A1}{fo:Int}:DI lg fo=Y↔lg.size<=2400/\ ∃rs ts,IB (rs++ts)/\L lg=cat (rs++ts)/\fo=((cat rs).length:Int):=by
 unfold DI;simp only[AD,decide_eq_true_eq];constructor
 .rintro⟨h1,h2,h3,h4⟩;have h2:=Aa.1 h2;obtain⟨a1,a2,t,a3⟩:=mJ lg;obtain⟨b1,b2,t',b3⟩:=mJ<|lg.extract 0 fo.toNat;have ht:t=[]:=by
   have e:=congrArg Jb a3;rw[Az,Aw]at e;exact Dz J
  rw[ht,CP]at a3;have hz:(lg.extract 0 fo.toNat).size=fo.toNat:=by rw[Fv J];omega
  have ht':t'=[]:=by
   have e:=congrArg Jb b3;rw[Az,Aw,hz]at e;exact Dz J
  rw[ht',CP]at b3;have hp:cat (D7 lg).1=cat (D7<|lg.extract 0 fo.toNat).1++(L lg).drop fo.toNat:=by
   rw[← a3,← b3,EE,Jd,Iu,JV]
  obtain⟨us,hu⟩:=pV _ _ _ a1 b1 hp;refine⟨h1,(D7<|lg.extract 0 fo.toNat).1,us,by rw[← hu];exact a1,by rw[← hu];exact a3, ?_⟩;rw[← b2];exact h4.symm
 .rintro⟨h1,rs,ts,h2,h3,rfl⟩;have hsz:lg.size=(cat rs).length+(cat ts).length:=by rw[← Az,h3,Kj,Aw]
  have hrs:IB rs:=λr hr=>h2 r<|Bv _ hr;have he:L (lg.extract 0 (cat rs).length)=cat rs:=by
   rw[EE,h3,Kj,Jd,Iu,P8 rfl]
  have e1:=Yb h2 h3;have e2:=Yb hrs he;refine⟨h1,Aa.2 ⟨J,J⟩,by rw[e1], ?_⟩;rw[BV,e2];simp only;rw[← Az,he]
def Dj(k:AE):Prop:=∀n∈k.held,∀m∈k.inbox,¬(n.fr=m.fr/\n.nu=m.nu)
def TQ{l:List A3}{f n:Int}(h:AY l f n<0):∀x∈l,¬(x.fr=f/\x.nu=n):=by
 intro x hx hc;obtain⟨_,h2⟩|⟨i,h1,_⟩:=GD l.length (λi=>U ((nA l i).fr=f)&&U ((nA l i).nu=n))
 .obtain⟨j,hj,rfl⟩:=Cq hx;have:=h2 j hj;rw[DA<|Ap hj]at this;simp[hc.1,hc.2]at this
 .unfold AY at h;omega
def Yg{l:List A3}{f n:Int}(h:∀x∈l,¬(x.fr=f/\x.nu=n)):AY l f n= -1:=by
 obtain h1|h1:=lX l f n
 .exact h1
 .obtain⟨h2,_,h3,h4⟩:=FB h1;exact absurd ⟨h3,h4⟩<|h _<|Ev h2
def oS{l:List Mark}{f n:Int}(h:Bp l f n<0):∀x∈l,¬(x.mf=f/\x.mn=n):=by
 intro x hx hc;obtain⟨_,h2⟩|⟨i,h1,_⟩:=GD l.length (λi=>U ((mA l i).mf=f)&&U ((mA l i).mn=n))
 .obtain⟨j,hj,rfl⟩:=Cq hx;have:=h2 j hj;rw[Fg<|Ap hj]at this;simp[hc.1,hc.2]at this
 .unfold Bp at h;omega
def UO{l:List Mark}{j:Nat}(h:j<l.length):mA l j∈l:=by
 rw[Fg<|Ap h];exact CU h
def lv{l:List Mark}{f n:Int}(h:∀x∈l,¬(x.mf=f/\x.mn=n)):Bp l f n= -1:=by
 obtain⟨h1,_⟩|⟨i,_,h2,h3,_⟩:=GD l.length (λi=>U ((mA l i).mf=f)&&U ((mA l i).mn=n))
 .exact h1
 .simp only[AD,decide_eq_true_eq]at h3;exact absurd h3<|h _<|UO h2
def aac{k o:AE}{n:A3}(h:Ek k n=I o)(hd:Dj k):Dj o:=by
 unfold Ek at h;split at h
 .cases h
 split at h
 .cases h
 split at h
 .cases h
 rename_i h1;split at h
 .cases h
 rename_i h2;split at h
 .cases h
 split at h
 .cases h
 have a1:=TQ (l:=k.held) (f:=n.fr) (n:=n.nu) (by simpa using h1);have a2:=TQ (l:=k.inbox) (f:=n.fr) (n:=n.nu) (by simpa using h2);split at h<;>cases h
 .intro x hx m hm;obtain rfl|hm:=Gh _ hm
  .exact a1 x hx
  .exact hd x hx m hm
 .intro x hx m hm;obtain rfl|hx:=Gh _ hx
  .exact λhc=>a2 m hm ⟨hc.1.symm,hc.2.symm⟩
  .exact hd x hx m hm
def OR{l:List A3}{i:Nat}{x:A3}(h:x∈EY l i):x∈l:=by
 unfold EY at h;obtain h|h:=BM.1 h
 .exact IL h
 .exact KE h
def axM{k o:AE}{w:A1}{n:Int}(h:Ho k w n=I o)(hd:Dj k):Dj o:=by
 unfold Ho at h;split at h
 .cases h;intro x hx m hm;exact hd x (FH.1 hx).1 m hm
 split at h
 .cases h;exact hd
 .cases h
def ary{k o:AE}{w:A1}{n:A3}(h:GG k w n=I o)(hd:Dj k):Dj o:=by
 unfold GG at h;split at h
 .exact aac h hd
 split at h
 .exact aac h hd
 split at h
 .cases h
 rename_i hn;simp only[Bw,decide_eq_true_eq,not_or]at hn;have a1:=TQ (l:=k.held) (f:=n.fr) (n:=n.nu) J;have a2:=TQ (l:=k.inbox) (f:=n.fr) (n:=n.nu) J;split at h
 .cases h;intro x hx m hm;obtain rfl|hx:=Gh _ hx
  .exact λhc=>a2 m hm ⟨hc.1.symm,hc.2.symm⟩
  .exact hd x hx m hm
 split at h
 .cases h;intro x hx m hm;obtain rfl|hm:=Gh _ hm
  .exact a1 x hx
  .exact hd x hx m hm
 .cases h
def as1{k o:AE}{w:A1}{m:Mark}(h:Et k w m=I o)(hd:Dj k):Dj o:=by
 unfold Et at h;split at h
 .cases h;exact λx hx m hm=>hd x (OR hx) m hm
 split at h
 .cases h;exact λx hx m hm=>hd x hx m<|OR hm
 split at h
 .cases h;exact hd
 .cases h
def atz{k o:AE}{w r:A1}(h:Bb k w r=I o)(hd:Dj k):Dj o:=by
 unfold Bb at h;split at h
 .split at h
  .exact axM h hd
  .cases h
 split at h
 .split at h
  .exact ary h hd
  .cases h
 split at h
 .split at h
  .exact as1 h hd
  .cases h
 .cases h
def I4{k o:AE}{r:A1}(hk:Av k=Y):BK k r=I o↔GL k r=I o/\Av o=Y:=by
 unfold BK FP;simp only[hk,A2];constructor
 .intro h;cases hf:(GL k r).filter Av with
  | none=>rw[hf]at h;cases h
  | some o'=>
   rw[hf]at h;cases h;exact JX.1 hf
 .intro h;rw[JX.2 h];rfl
def auq{k o:AE}{r:A1}(hk:Av k=Y)(h:BK k r=I o)(hd:Dj k):Dj o:=by
 have h1:=((I4 hk).1 h).1;unfold GL at h1;split at h1
 .cases h1
 .exact atz h1 hd
def aEa:∀ {rs:List A1} {k o:AE},Av k=Y->Dj k->Es k rs=I o->Dj o
 | [],k,o,_,hd,h=>by cases h;exact hd
 | r::rs,k,o,hk,hd,h=>by
  unfold Es at h;rw[UA]at h;cases hs:BK k r with
  | none=>rw[hs]at h;cases h
  | some k'=>rw[hs]at h;exact aEa (rs:=rs) (TR hs) (auq hk hs hd) h
def aFl{id:Int}{rs:List A1}{o:AE}(h:Cc id rs=I o):Dj o:=by
 unfold Cc at h;split at h
 .exact aEa (Sj<|by assumption) (λn hn=>by cases hn) h
 .cases h
def Mk(k:AE)(rs ts:List A1):Es k (rs++ts)=(Es k rs).bind λo=>Es o ts:=List.foldlM_append
def Sn(k:AE)(r:A1):Es k [r]=BK k r:=by
 unfold Es;rw[UA];cases BK k r<;>rfl
def Fe(t:Int):A1:=B [116,105,109,101,32]++BY t
def Ks(n:Int):A1:=B [110,101,120,116,32]++BY n
def CX(w:A1)(a b c:Int):A1:=((((((w++B [32])++BY a)++B [32])++BY b)++B [32])++BY c)
def Lz(n:A3):A1:=B [104,101,108,100,32]++wr n
def Mx(n:A3):A1:=B [105,110,98,111,120,32]++wr n
def CF(k:AE):List A1:=
 ((((if 0<k.ti then [Fe k.ti] else [])++(if 1<k.nx then [Ks k.nx] else []))++k.marks.map λm=>CX D6 m.mf m.mn m.mu)++k.held.map Lz)++k.inbox.map Mx
def I8{k:AE}{rec:A1}{w r:List UInt8}(hw:CY w)(e:L rec=w++32::r):GL k rec=Bb k (B w) (B r):=by
 unfold GL;rw[e,Tk hw,L5 hw e];rfl
def lD{k:AE}{t:Int}(h0:0<=t)(h1:t<100000)(h:k.ti<t):Bb k E8 (B<|B6 t)=I ⟨k.id,t,k.nx,HE t k.held,K5 t k.marks,k.inbox⟩:=by
 unfold Bb Ho;simp only[J9 h0 h1,Bs,A2,AS,h,AW]
def arU{k:AE}{n:Int}(h0:0<=n)(h1:n<100000)(h:k.nx<n):Bb k Ew (B<|B6 n)=I ⟨k.id,k.ti,n,k.held,k.marks,k.inbox⟩:=by
 unfold Bb Ho;simp[aAq,J9 h0 h1,DS,A2,AL,AS,h,AW,A4]
def ar5{k:AE}{m:Mark}{r:A1}(ht:HB r=I m)(h:Bp k.marks m.mf m.mn<0):Bb k D6 r=I ⟨k.id,k.ti,k.nx,k.held,EF k.marks m,k.inbox⟩:=by
 have e:U (0<=Bp k.marks m.mf m.mn)=A0:=by simp;omega
 unfold Bb Et;simp[jD,jF,jg,jE,jG,vT,jh,ji,GU,Bk,DS,A2,A4,ht,AL,AS,e,AH]
def ar6{k:AE}{n:A3}(hn:Ax n=Y)(h1:AY k.held n.fr n.nu<0)(h2:AY k.inbox n.fr n.nu<0):Bb k ET (wr n)=I ⟨k.id,k.ti,k.nx,Dx k.held n,k.marks,k.inbox⟩:=by
 have e1:U (0<=AY k.held n.fr n.nu)=A0:=by simp;omega
 have e2:U (0<=AY k.inbox n.fr n.nu)=A0:=by simp;omega
 unfold Bb GG;simp[aAs,aAu,aBk,aAt,GU,Bk,Bs,A2,A4,QF hn,AL,e1,e2]
def aqk{k:AE}{n:A3}(hn:Ax n=Y)(h1:AY k.held n.fr n.nu<0)(h2:AY k.inbox n.fr n.nu<0):Bb k Ef (wr n)=I ⟨k.id,k.ti,k.nx,k.held,k.marks,Dx k.inbox n⟩:=by
 have e1:U (0<=AY k.held n.fr n.nu)=A0:=by simp;omega
 have e2:U (0<=AY k.inbox n.fr n.nu)=A0:=by simp;omega
 unfold Bb GG;simp[zX,zZ,aAr,zY,za,GU,Bk,DS,A2,A4,QF hn,AL,e1,e2]
def ld:CY [116,105,109,101]:=by unfold CY;decide
def ats:CY [110,101,120,116]:=by unfold CY;decide
def att:CY [109,97,114,107]:=by unfold CY;decide
def atu:CY [104,101,108,100]:=by unfold CY;decide
def asF:CY [105,110,98,111,120]:=by unfold CY;decide
def YS(t:Int):L (Fe t)=[116,105,109,101]++32::B6 t:=by unfold Fe;simp only[GP,L_B,UT];rfl
def aFf(t:Int):L (Ks t)=[110,101,120,116]++32::B6 t:=by unfold Ks;simp only[GP,L_B,UT];rfl
def QM(w:A1)(a b c:Int):L (CX w a b c)=L w++32::(B6 a++32::(B6 b++32::B6 c)):=by
 unfold CX;simp only[GP,L_B,UT,C5,LB,Eb]
def aFg(n:A3):L (Lz n)=[104,101,108,100]++32::L (wr n):=by unfold Lz;simp only[GP,L_B];rfl
def aEo(n:A3):L (Mx n)=[105,110,98,111,120]++32::L (wr n):=by unfold Mx;simp only[GP,L_B];rfl
def OM{k:AE}(h:Eo k):Av k=Y:=by
 have a:=h.hl;have b:=h.ml;have c:=h.il;unfold Av;simp only[AD,Aa,decide_eq_true_eq,CA];exact⟨⟨h.id0,h.id1⟩,⟨h.t0,h.t1⟩,⟨h.n0,h.n1⟩,⟨J,h.h⟩,⟨J,h.m⟩,⟨J,h.i⟩,h.ho,h.mo,h.io⟩
def Zs{l:List A3}{a i:Nat}(h:i<a):nA (l.take a) i=nA l i:=by
 unfold nA;simp[BA,h]
def p9{l:List Mark}{a i:Nat}(h:i<a):mA (l.take a) i=mA l i:=by
 unfold mA;simp[BA,h]
def aCR{l:List A3}(h:DQ l=Y)(a:Nat):DQ (l.take a)=Y:=by
 refine CA.2 λi hi=> ?_;rw[Di]at hi;have:=CA.1 h i J;rw[Zs J,Zs J];exact this
def aqM{l:List Mark}(h:FL l=Y)(a:Nat):FL (l.take a)=Y:=by
 refine CA.2 λi hi=> ?_;rw[Di]at hi;have:=CA.1 h i J;rw[p9 J,p9 J];exact this
def aDD{l:List Mark}(h:FL l=Y):∀(j i:Nat),i<j->j<l.length->bef (mA l i).mf (mA l i).mn (mA l j).mf (mA l j).mn=Y
 | j+1,i,hij,hj=>by
  have h1:=CA.1 h (j+1) hj;simp only[AD,Bw,decide_eq_true_eq]at h1;have h2:bef (mA l j).mf (mA l j).mn (mA l<|j+1).mf (mA l<|j+1).mn=Y:=h1.2.resolve_left J;obtain h3|h3:=GW i j
  .exact TG (aDD h j i h3 J) h2
  .rwa[show i=j by omega]
def QW{k:AE}(hf:Eo k)(a b c:Nat)(hc:c=0\/k.marks.length<=b):Eo ⟨k.id,k.ti,k.nx,k.held.take a,k.marks.take b,k.inbox.take c⟩:=by
 have hl:=hf.hl;have ml:=hf.ml;have il:=hf.il;refine⟨hf.id0,hf.id1,hf.t0,hf.t1,hf.n0,hf.n1,by simp;omega,aCR hf.h a,by simp;omega,aqM hf.m b,by simp;omega,aCR hf.i c,λi hi=> ?_,λi hi=> ?_,λi hi=> ?_⟩
 .simp only[Di]at hi;have:=hf.ho i J;unfold HD at this ⊢;simp only[AD,decide_eq_true_eq]at this ⊢;rw[Zs J];refine⟨this.1,this.2.1,this.2.2.1, ?_⟩;rw[lv λx hx=>oS this.2.2.2 x<|IL hx];omega
 .simp only[Di]at hi;have:=hf.mo i J;unfold JC at this ⊢;rw[p9 J];exact this
 .simp only[Di]at hi;obtain hc|hc:=hc
  .omega
  .have:=hf.io i J;simp only;rw[KH hc];unfold Ij at this ⊢;rw[Zs J];exact this
def pD{α:Type}{f:α->Bool}{l:List α}{n:α}(h:∀x∈l,f x=Y):ins f l n=l++[n]:=by
 unfold ins;have h1:l.takeWhile f=l:=by
  induction l with
  | nil=>rfl
  | cons x l ih=>rw[Qy,h x Ao];simp only[A2];rw[ih λy hy=>h y<|Aj _ hy]
 have h2:l.dropWhile f=[]:=by
  induction l with
  | nil=>rfl
  | cons x l ih=>rw[ni,h x Ao];simp only[A2];exact ih (λy hy=>h y<|Aj _ hy) (by
    have:=h1;rw[Qy,h x Ao]at this;simpa using this)
 rw[h1,h2]
def Mt{α:Type}{l:List α}{j:Nat}(h:j<l.length):l.take (j+1)=l.take j++[l[j]]:=by
 rw[Iw,Ap h];rfl
def yr{k:AE}(hk:Av k=Y)(hd:Dj k):Cc k.id (CF k)=I k:=by
 have hf:=Bz hk;have hid:isN k.id=Y:=Aa.2 ⟨hf.id0,hf.id1⟩;have t0:=hf.t0;have t1:=hf.t1;have n0:=hf.n0;have n1:=hf.n1;have kT:Av ⟨k.id,k.ti,1,[],[],[]⟩=Y:=by
  refine OM ⟨hf.id0,hf.id1,t0,t1,(by decide:(1:Int)<=1),(by decide:(1:Int)<=100),by simp,rfl,by simp,rfl,by simp,rfl,λi hi=>by simp at hi,λi hi=>by simp at hi,λi hi=>by simp at hi⟩
 have kN:Av ⟨k.id,k.ti,k.nx,[],[],[]⟩=Y:=by
  refine OM ⟨hf.id0,hf.id1,t0,t1,n0,n1,by simp,rfl,by simp,rfl,by simp,rfl,λi hi=>by simp at hi,λi hi=>by simp at hi,λi hi=>by simp at hi⟩
 have s1:Es ⟨k.id,0,1,[],[],[]⟩ (if 0<k.ti then [Fe k.ti] else [])=I ⟨k.id,k.ti,1,[],[],[]⟩:=by
  by_cases h:0<k.ti
  .rw[A5 h,Sn,(I4<|Sj hid).2 ⟨?_,kT⟩];rw[I8 ld<|YS _];exact lD t0 J h
  .rw[A9 h,show k.ti=0 by omega];rfl
 have s2:Es ⟨k.id,k.ti,1,[],[],[]⟩ (if 1<k.nx then [Ks k.nx] else [])=I ⟨k.id,k.ti,k.nx,[],[],[]⟩:=by
  by_cases h:1<k.nx
  .rw[A5 h,Sn,(I4 kT).2 ⟨?_,kN⟩];rw[I8 ats<|aFf _];exact arU J J h
  .rw[A9 h,show k.nx=1 by omega];rfl
 have s3:∀j,j<=k.marks.length->Es ⟨k.id,k.ti,k.nx,[],[],[]⟩ ((k.marks.take j).map λm=>CX D6 m.mf m.mn m.mu)=I ⟨k.id,k.ti,k.nx,[],k.marks.take j,[]⟩:=by
  intro j
  induction j with
  | zero=>intro _;rfl
  | succ j ih=>
   intro hj;have hjl:j<k.marks.length:=J
   have hm:=T7 hf.m hjl;rw[Fg<|Ap hjl]at hm;have hr:=Oa hm;have g1:=OM<|QW hf 0 j 0<|.inl rfl;have g2:=OM<|QW hf 0 (j+1) 0<|.inl rfl;have g3:Av ⟨k.id,k.ti,k.nx,[],k.marks.take j++[k.marks[j]'hjl],[]⟩=Y:=by
    rw[← Mt hjl];simpa using g2
   have Np:∀x∈k.marks.take j,bef x.mf x.mn k.marks[j].mf k.marks[j].mn=Y:=λx hx=>by
    obtain⟨i,hi,rfl⟩:=Cq hx;rw[Di]at hi;have:=aDD hf.m j i J hjl;rw[Fg<|Ap hjl,Fg<|Ap (by omega:i<k.marks.length)]at this;simpa using this
   rw[Mt hjl,Ec,Mk,ih J];simp only[A6,DU,Jc];rw[Sn,(I4<|by simpa using g1).2 ⟨?_,g3⟩];have h3:=Zh (r:=B<|B6 (k.marks[j]'hjl).mf++32::(B6 (k.marks[j]'hjl).mn++32::B6 (k.marks[j]'hjl).mu)) (a:=(k.marks[j]'hjl).mf) (b:=(k.marks[j]'hjl).mn) (c:=(k.marks[j]'hjl).mu) J J J J J J<|L_B _;rw[I8 att<|QM _ _ _ _,ar5 h3 ?_]
   .simp only;rw[show EF (k.marks.take j) k.marks[j]=k.marks.take j++[k.marks[j]] from pD Np]
   .simp only;rw[lv λx hx hc=>by
     have:=Np x hx;rw[hc.1,hc.2,Oy]at this;cases this]
    omega
 have s4:∀j,j<=k.held.length->Es ⟨k.id,k.ti,k.nx,[],k.marks,[]⟩ ((k.held.take j).map Lz)=I ⟨k.id,k.ti,k.nx,k.held.take j,k.marks,[]⟩:=by
  intro j
  induction j with
  | zero=>intro _;rfl
  | succ j ih=>
   intro hj;have hjl:j<k.held.length:=J
   have hm:=H8 hf.h hjl;rw[DA<|Ap hjl]at hm;have g1:=OM<|QW hf j k.marks.length 0<|.inl rfl;have g2:=OM<|QW hf (j+1) k.marks.length 0<|.inl rfl;rw[E0]at g1 g2;have g3:Av ⟨k.id,k.ti,k.nx,k.held.take j++[k.held[j]'hjl],k.marks,[]⟩=Y:=by
    rw[← Mt hjl];simpa using g2
   have Np:∀x∈k.held.take j,bef x.fr x.nu k.held[j].fr k.held[j].nu=Y:=λx hx=>by
    obtain⟨i,hi,rfl⟩:=Cq hx;rw[Di]at hi;have:=Sl hf.h j i J hjl;rw[DA<|Ap hjl,DA<|Ap (by omega:i<k.held.length)]at this;simpa using this
   rw[Mt hjl,Ec,Mk,ih J];simp only[A6,DU,Jc];rw[Sn,(I4<|by simpa using g1).2 ⟨?_,g3⟩];rw[I8 atu<|aFg _,B_L,ar6 hm ?_ ?_]
   .simp only;rw[show Dx (k.held.take j) k.held[j]=k.held.take j++[k.held[j]] from pD Np]
   .simp only;rw[Yg λx hx hc=>by
     have:=Np x hx;rw[hc.1,hc.2,Oy]at this;cases this]
    omega
   .simp only;rw[Yg λx hx=>by cases hx];omega
 have s5:∀j,j<=k.inbox.length->Es ⟨k.id,k.ti,k.nx,k.held,k.marks,[]⟩ ((k.inbox.take j).map Mx)=I ⟨k.id,k.ti,k.nx,k.held,k.marks,k.inbox.take j⟩:=by
  intro j
  induction j with
  | zero=>intro _;rfl
  | succ j ih=>
   intro hj;have hjl:j<k.inbox.length:=J
   have hm:=H8 hf.i hjl;rw[DA<|Ap hjl]at hm;have g1:=OM<|QW hf k.held.length k.marks.length j<|.inr<|Au _;have g2:=OM<|QW hf k.held.length k.marks.length (j+1)<|.inr<|Au _;rw[E0,E0]at g1 g2;have g3:Av ⟨k.id,k.ti,k.nx,k.held,k.marks,k.inbox.take j++[k.inbox[j]'hjl]⟩=Y:=by
    rw[← Mt hjl];simpa using g2
   have Np:∀x∈k.inbox.take j,bef x.fr x.nu k.inbox[j].fr k.inbox[j].nu=Y:=λx hx=>by
    obtain⟨i,hi,rfl⟩:=Cq hx;rw[Di]at hi;have:=Sl hf.i j i J hjl;rw[DA<|Ap hjl,DA<|Ap (by omega:i<k.inbox.length)]at this;simpa using this
   rw[Mt hjl,Ec,Mk,ih J];simp only[A6,DU,Jc];rw[Sn,(I4<|by simpa using g1).2 ⟨?_,g3⟩];rw[I8 asF<|aEo _,B_L,aqk hm ?_ ?_]
   .simp only;rw[show Dx (k.inbox.take j) k.inbox[j]=k.inbox.take j++[k.inbox[j]] from pD Np]
   .simp only;rw[Yg λx hx=>hd x hx _<|CU hjl];omega
   .simp only;rw[Yg λx hx hc=>by
     have:=Np x hx;rw[hc.1,hc.2,Oy]at this;cases this]
    omega
 have e3:=s3 k.marks.length<|Au _;have e4:=s4 k.held.length<|Au _;have e5:=s5 k.inbox.length<|Au _;rw[E0]at e3 e4 e5;unfold Cc CF;rw[A5 hid,Mk,Mk,Mk,Mk,s1];simp only[A6,s2,e3,e4,e5]
structure CB (lg:A1) (fo:Int) (rs ts:List A1):Prop where
 ok:IB (rs++ts)
 sz:lg.size<=2400
 eq:L lg=cat (rs++ts)
 fo:fo=((cat rs).length:Int)
def abZ{lg:A1}{fo:Int}(h:DI lg fo=Y):∃rs ts,CB lg fo rs ts:=by
 obtain⟨h1,rs,ts,h2,h3,h4⟩:=aF9.1 h;exact⟨rs,ts,h2,h1,h3,h4⟩
def CB.qf{lg:A1}{fo:Int}{rs ts:List A1}(h:CB lg fo rs ts):DI lg fo=Y:=
 aF9.2 ⟨h.sz,rs,ts,h.ok,h.eq,h.fo⟩
def CB.read{lg:A1}{fo:Int}{rs ts:List A1}(h:CB lg fo rs ts):D7 lg=(rs++ts,lg.size):=Yb h.ok h.eq
def aDA{rs ts:List A1}(h:IB (rs++ts)):IB rs:=λr hr=>h r<|Bv _ hr
def CB.amZ{lg:A1}{fo:Int}{rs ts:List A1}(h:CB lg fo rs ts):L (lg.extract 0 fo.toNat)=cat rs:=by
 rw[EE,h.eq,h.fo,BV,Kj,Jd,Iu,P8 rfl]
def CB.azT{lg:A1}{fo:Int}{rs ts:List A1}(h:CB lg fo rs ts):(D7<|lg.extract 0 fo.toNat).1=rs:=by
 rw[Yb (aDA h.ok) h.amZ]
def CB.size_eq{lg:A1}{fo:Int}{rs ts:List A1}(h:CB lg fo rs ts):lg.size=(cat rs).length+(cat ts).length:=by
 rw[← Az,h.eq,Kj,Aw]
def CB.state{lg:A1}{fo:Int}{rs ts:List A1}(h:CB lg fo rs ts)(id:Int):DP id lg=Cc id (rs++ts):=by
 unfold DP;rw[h.read]
def CB.abr{lg:A1}{fo:Int}{rs ts:List A1}(h:CB lg fo rs ts)(id:Int):DP id (lg.extract 0 fo.toNat)=Cc id rs:=by
 unfold DP;rw[h.azT]
def XX(id:Int)(rs ts:List A1):Cc id (rs++ts)=(Cc id rs).bind λk=>Es k ts:=by
 unfold Cc;split
 .exact Mk _ _ _
 .rfl
def aEX(id:Int)(rs:List A1)(r:A1):Cc id (rs++[r])=(Cc id rs).bind λk=>BK k r:=by
 rw[XX];congr 1;funext k;exact Sn k r
def aDE{id:Int}{rs ts:List A1}(h:(Cc id<|rs++ts).isSome=Y):(Cc id rs).isSome=Y:=by
 rw[XX]at h;cases e:Cc id rs with
 | none=>rw[e]at h;exact h
 | some k=>rfl
def CB.add{lg r:A1}{fo:Int}{rs ts:List A1}(h:CB lg fo rs ts)(h1:1<=r.size)(h2:r.size<=60)(h3:lg.size+(D0 r).size<=2400):CB (lg++D0 r) fo rs (ts++[r]):=by
 refine⟨?_, ?_, ?_,h.fo⟩
 .intro x hx;rw[← C5]at hx;obtain hx|hx:=BM.1 hx
  .exact h.ok x hx
  .rw[C9.1 hx];exact⟨h1,h2⟩
 .rw[← Az,GP,Aw,Az,Az];exact h3
 .rw[GP,h.eq,← C5,Kj (rs++ts) [r]];congr 1;rw[I5,Jv,CP]
def CB.force{lg:A1}{fo:Int}{rs ts:List A1}(h:CB lg fo rs ts):CB lg (lg.size:Int) (rs++ts) []:=by
 refine⟨by simpa using h.ok,h.sz,by simpa using h.eq, ?_⟩;rw[← Az,h.eq]
def CB.pack{lg:A1}{rs:List A1}(h:IB rs)(e:L lg=cat rs)(hz:lg.size<=2400):CB lg (lg.size:Int) rs []:=by
 refine⟨by simpa using h,hz,by simpa using e, ?_⟩;rw[← Az,e]
def aG9{log:A1}:∀(qs:List A1) (f:Nat) (out:List A1) (at_:Nat) (t:List UInt8),IB qs->(L log).drop at_=cat qs++t->at_<=log.size->log.size<at_+f->
  ∃f',Ex log f out at_=Ex log f' (out++qs) (at_+(cat qs).length)/\at_+(cat qs).length<=log.size
 | [],f,out,at_,t,_,_,h3,_=>⟨f,by simp[Jv],by simpa[Jv] using h3⟩
 | r::qs,0,out,at_,t,_,_,h3,h4=>J
 | r::qs,f+1,out,at_,t,h1,h2,h3,h4=>by
  have hr:=h1 r Ao;rw[I5,C5]at h2;have hlen:log.size - at_=(D0 r).size+(cat qs++t).length:=by
   have e:=congrArg Jb h2;rwa[EJ,Az,Aw,Az]at e
  have hp:=Xx r;have DG:Dg (log.extract at_ log.size)=I (r,(D0 r).size):=by
   refine ZG (t:=cat qs++t) ?_ hr.1 hr.2;rw[EE,h2];refine KH ?_;rw[Aw,Az];omega
  obtain⟨f',g1,g2⟩:=aG9 (log:=log) qs f (out++[r]) (at_+(D0 r).size) t (λx hx=>h1 x<|Aj _ hx) (by
   rw[← J0,h2,Qt<|by rw[Az]]) J J
  refine⟨f', ?_, ?_⟩
  .conv=>lhs;unfold Ex
   rw[A5 J,DG];simp only;rw[g1];simp only[I5,Aw,Az,C5,LB,Eb,DE]
  .simp only[I5,Aw,Az];omega
def asV{log:A1}{qs:List A1}{t:List UInt8}(h:IB qs)(e:L log=cat qs++t):∃us,(D7 log).1=qs++us:=by
 obtain⟨f',g1,g2⟩:=aG9 (log:=log) qs (log.size+1) [] 0 t h (by simpa using e) (D5 _) J;obtain⟨us,k1,_⟩:=nI (log:=log) f' ([]++qs) (0+(cat qs).length) g2;refine⟨us, ?_⟩;show(Ex log (log.size+1) [] 0).1=_;rw[g1,k1];rfl
def CB.V9{lg:A1}{fo:Int}{rs ts:List A1}(h:CB lg fo rs ts)(n:Nat)(hn:(cat rs).length<=n):
  ∃us vs,ts=us++vs/\CB ((lg.extract 0 n).extract 0 (D7<|lg.extract 0 n).2) ((D7<|lg.extract 0 n).2:Int) (rs++us) []:=by
 obtain⟨a1,a2,t,a3⟩:=mJ<|lg.extract 0 n;have e0:L (lg.extract 0 n)=(cat<|rs++ts).take n:=by rw[EE,h.eq,Jd,Iu]
 have e:cat (rs++ts)=cat (D7<|lg.extract 0 n).1++(t++(cat<|rs++ts).drop n):=by
  rw[← C5,← a3,e0,JV]
 obtain⟨vs,hv⟩:=pV _ _ _ h.ok a1 e;obtain⟨us,hu⟩:=asV (log:=lg.extract 0 n) (qs:=rs) (t:=(cat ts).take<|n - (cat rs).length) (aDA h.ok) (by
  rw[e0,Kj,List.take_append,KH hn])
 rw[hu]at hv a1 a2 a3;rw[C5]at hv;refine⟨us,vs,aEG hv,by simpa using a1, ?_, ?_,by rw[a2]⟩
 .have:=h.sz;rw[← Az,EE,EE];simp only[Di,EJ,Az];omega
 .rw[EE,a3,a2,Jd,Iu,P8 rfl,CP]
def Ln{x:Int}(h0:0<=x)(k:Nat)(hk:1<=k)(h:x<(10 ^ k:Nat)):(B6 x).length<=k:=by
 obtain⟨u,rfl⟩:=HS h0;rw[JD];exact Lr k u hk<|by exact_mod_cast h
def RI{n:A3}(h:Ax n=Y):(wr n).size<=35:=by
 obtain⟨f0,f1,t0,t1,n0,n1,u0,u1,s0,s1⟩:=I9 h;have a:=Ln f0 1 J J;have b:=Ln (J:0<=n.nu) 2 J J;have c:=Ln t0 1 J J;have d:=Ln (J:0<=n.un) 3 J J;rw[← Az,Rf];unfold wrL;simp only[Aw,Bf,Az];omega
def auE{r:A1}{m:Mark}(h:HB r=I m):r.size<=17:=by
 unfold HB at h;have hj:=ko ((L r).count 32)<|L r;have hn:∀ {p:List UInt8},(Ar<|B p).2=Y->p.length<=5:=fun {p} hp=>by
  obtain h1|⟨n,_,h2,_⟩:=Ss (B p)
  .rw[h1]at hp;cases hp
  .exact h2
 split at h
 .rename_i p q t hp;rw[hp]at hj;split at h
  .rename_i hc;simp only[AD]at hc;have h1:=hn hc.1;have h2:=hn hc.2.1;have h3:=hn hc.2.2.1;have hj2:p++32::(q++32::t)=L r:=hj;rw[← Az,← hj2];simp only[Aw,Bf];omega
  .cases h
 .cases h
def auN{k o:AE}{w r:A1}(h:Bb k w r=I o):w.size<=5/\r.size<=35:=by
 unfold Bb at h;split at h
 .rename_i hw;simp only[Bw,decide_eq_true_eq]at hw;split at h
  .rename_i hr;refine⟨by obtain rfl|rfl:=hw<;>decide, ?_⟩;obtain h1|⟨n,_,h2,_⟩:=Ss r
   .rw[h1]at hr;cases hr
   .omega
  .cases h
 split at h
 .rename_i hw;simp only[Bw,decide_eq_true_eq]at hw;cases hn:DK r with
  | none=>rw[hn]at h;cases h
  | some n=>
   obtain⟨h1,h2⟩:=Js hn;refine⟨by obtain rfl|rfl|rfl|rfl:=hw<;>decide, ?_⟩;rw[← h2];exact RI h1
 split at h
 .rename_i hw;simp only[Bw,decide_eq_true_eq]at hw;cases hn:HB r with
  | none=>rw[hn]at h;cases h
  | some n=>
   refine⟨by obtain rfl|rfl|rfl:=hw<;>decide, ?_⟩;have:=auE hn;omega
 .cases h
def oP{k o:AE}{r:A1}(hk:Av k=Y)(h:BK k r=I o):1<=r.size/\r.size<=60:=by
 have h:=((I4 hk).1 h).1;obtain hs|⟨w,t,hs,e⟩:=Ll (L r)
 .unfold GL at h;rw[Tj hs]at h;cases h
 .rw[I8 hs e]at h;have:=auN h;have hw:(B w).size=w.length:=rfl;have ht:(B t).size=t.length:=rfl;rw[← Az,e];simp only[Aw,Bf];omega
def UU{rs:List A1}{c:Nat}(h:∀r∈rs,(D0 r).size<=c):(cat rs).length<=rs.length * c:=by
 induction rs with
 | nil=>simp[Jv]
 | cons r rs ih=>
  have:=ih λx hx=>h x<|Aj _ hx;have:=h r Ao;rw[I5,Aw,Az,Bf,Nat.succ_mul];omega
def Mu{r:A1}(h:r.size<=60):(D0 r).size<=r.size+4:=by
 rw[Xe];have:=aaQ h;omega
def XI{k:AE}(hk:Av k=Y):IB (CF k)/\(cat<|CF k).length<=800:=by
 have hf:=Bz hk;have t1:=hf.t1;have n1:=hf.n1;have hl:=hf.hl;have ml:=hf.ml;have il:=hf.il;have sT:∀r∈(if 0<k.ti then [Fe k.ti] else []),1<=r.size/\r.size<=8:=by
  intro r hr;split at hr
  .rw[C9.1 hr,← Az,YS];have:=Ln hf.t0 3 J J;simp only[Aw,Bf,CK];omega
  .cases hr
 have sN:∀r∈(if 1<k.nx then [Ks k.nx] else []),1<=r.size/\r.size<=8:=by
  intro r hr;split at hr
  .rw[C9.1 hr,← Az,aFf];have:=Ln (show 0<=k.nx by have:=hf.n0;omega) 3 J J;simp only[Aw,Bf,CK];omega
  .cases hr
 have sM:∀r∈k.marks.map (λm=>CX D6 m.mf m.mn m.mu),1<=r.size/\r.size<=13:=by
  intro r hr;obtain⟨m,hm,rfl⟩:=By.1 hr;obtain⟨i,hi,rfl⟩:=Cq hm;have:=Oa<|T7 hf.m hi;rw[Fg<|Ap hi]at this;have a:=Ln this.1 1 J J;have b:=Ln (J:0<=k.marks[i].mn) 2 J J;have c:=Ln (J:0<=k.marks[i].mu) 3 J J;rw[← Az,QM];simp only[Aw,Bf,L_B,CK];omega
 have sH:∀r∈k.held.map Lz,1<=r.size/\r.size<=40:=by
  intro r hr;obtain⟨m,hm,rfl⟩:=By.1 hr;obtain⟨i,hi,rfl⟩:=Cq hm;have:=H8 hf.h hi;rw[DA<|Ap hi]at this;have:=RI this;rw[← Az,aFg];simp only[Aw,Bf,Az,CK];omega
 have sI:∀r∈k.inbox.map Mx,1<=r.size/\r.size<=41:=by
  intro r hr;obtain⟨m,hm,rfl⟩:=By.1 hr;obtain⟨i,hi,rfl⟩:=Cq hm;have:=H8 hf.i hi;rw[DA<|Ap hi]at this;have:=RI this;rw[← Az,aEo];simp only[Aw,Bf,Az,CK];omega
 refine⟨?_, ?_⟩
 .intro r hr;unfold CF at hr;simp only[BM]at hr;obtain(((hr|hr)|hr)|hr)|hr:=hr
  .have:=sT r hr;omega
  .have:=sN r hr;omega
  .have:=sM r hr;omega
  .have:=sH r hr;omega
  .have:=sI r hr;omega
 .unfold CF;simp only[Kj,Aw];have a:=UU (c:=12) λr hr=>by have:=sT r hr;have:=Mu (r:=r) J;omega
  have b:=UU (c:=12) λr hr=>by have:=sN r hr;have:=Mu (r:=r) J;omega
  have c:=UU (c:=17) λr hr=>by have:=sM r hr;have:=Mu (r:=r) J;omega
  have d:=UU (c:=44) λr hr=>by have:=sH r hr;have:=Mu (r:=r) J;omega
  have e:=UU (c:=45) λr hr=>by have:=sI r hr;have:=Mu (r:=r) J;omega
  rw[Da]at c d e;have a2:(if 0<k.ti then [Fe k.ti] else []).length<=1:=by split<;>simp
  have b2:(if 1<k.nx then [Ks k.nx] else []).length<=1:=by split<;>simp
  omega
def D8(rs:List A1):A1:=B<|cat rs
def Qf{k:AE}(hk:Av k=Y):CB (D8<|CF k) ((D8<|CF k).size:Int) (CF k) []:=by
 have:=XI hk;refine CB.pack this.1 (by unfold D8;rw[L_B]) ?_;show(cat<|CF k).length<=2400;omega
def D1(k:AE)(lg:A1)(fo:Int)(r:A1):A1×Int:=
 if lg.size+(D0 r).size<=2400 then(lg++D0 r,fo) else(D8 (CF k)++D0 r,((D8<|CF k).size:Int))
def aHx{k o:AE}{id:Int}{lg r:A1}{fo:Int}{rs ts:List A1}(h:CB lg fo rs ts)(hs:Cc id (rs++ts)=I k)(hr:BK k r=I o):
  ∃rs' ts',CB (D1 k lg fo r).1 (D1 k lg fo r).2 rs' ts'/\Cc id (rs'++ts')=I o:=by
 have hk:=QK hs;have hz:=oP hk hr;unfold D1;split
 .rename_i hc;refine⟨rs,ts++[r],h.add hz.1 hz.2 hc, ?_⟩;rw[← C5,aEX,hs];exact hr
 .have hp:=Qf hk;have hsz:=XI hk;have hl:=Mu hz.2;refine⟨CF k,[]++[r],hp.add hz.1 hz.2 ?_, ?_⟩
  .show(cat<|CF k).length+_<=2400;omega
  .rw[Eb,aEX];have:=yr hk<|aFl hs;rw[mB hs]at this;rw[this];exact hr
structure DH (k:A7) (st:AE):Prop where
 ok:Ae k=Y
 st:DP k.id k.log=I st
def C0{k:A7}(h:Ae k=Y):DH k (stT k):=⟨h,(Dk h).st⟩
def DH.kok{k:A7}{st:AE}(h:DH k st):Av st=Y:=QK h.st
def DH.id{k:A7}{st:AE}(h:DH k st):st.id=k.id:=mB h.st
def DH.stT{k:A7}{st:AE}(h:DH k st):stT k=st:=by
 unfold Go.VS.stT;rw[h.st];rfl
def XG{k:A7}{rs ts:List A1}(id:isN k.id=Y)(l:CB k.log k.fo rs ts)(hl:k.AJ.length<=3)(up:k.up=Y\/k.AJ.length=0)(st:(Cc k.id<|rs++ts).isSome=Y)(hv:∀i,i<k.AJ.length->Fl k.AJ i=Y):Ae k=Y:=by
 unfold Ae;simp only[AD,Bw,decide_eq_true_eq,CA];refine⟨id,l.qf,J,up,⟨?_, ?_⟩,hv⟩
 .rw[l.state];exact st
 .rw[l.abr];exact aDE st
def DH.lg{k:A7}{st:AE}(h:DH k st):∃rs ts,CB k.log k.fo rs ts/\Cc k.id (rs++ts)=I st:=by
 obtain⟨rs,ts,hl⟩:=abZ (Dk h.ok).sh;exact⟨rs,ts,hl,by rw[← hl.state];exact h.st⟩
def DH.qh{k:A7}{st o:AE}{lg:A1}{fo:Int}{rs ts:List A1}(h:DH k st)(l:CB lg fo rs ts)(e:Cc k.id (rs++ts)=I o):DH ⟨k.id,k.up,lg,fo,k.AJ⟩ o:=by
 have hf:=Dk h.ok;refine⟨XG (k:=⟨k.id,k.up,lg,fo,k.AJ⟩) hf.id l hf.hl hf.up ?_ hf.hv, ?_⟩
 .simp only[e];rfl
 .simp only[l.state];exact e
def wrM(k:A7)(r:A1):A7:=⟨k.id,k.up,(D1 (stT k) k.log k.fo r).1,(D1 (stT k) k.log k.fo r).2,k.AJ⟩
def Om{k:A7}{st o:AE}{r:A1}(h:DH k st)(hr:BK st r=I o):DH (wrM k r) o:=by
 obtain⟨rs,ts,hl,hs⟩:=h.lg;obtain⟨rs',ts',h1,h2⟩:=aHx hl hs hr;have:=h.qh h1 h2;unfold wrM;rw[h.stT];exact this
def foM(k:A7):A7:=⟨k.id,k.up,k.log,(k.log.size:Int),k.AJ⟩
def Qn{k:A7}{st:AE}(h:DH k st):DH (foM k) st:=by
 obtain⟨rs,ts,hl,hs⟩:=h.lg;exact h.qh hl.force<|by simpa using hs
def pkM(k:A7):A7:=⟨k.id,k.up,D8<|CF<|stT k,((D8<|CF<|stT k).size:Int),k.AJ⟩
def pn{k:A7}{st:AE}(h:DH k st):DH (pkM k) st:=by
 have:=h.qh (Qf h.kok) (o:=st) (by
  have:=yr h.kok<|aFl h.st;rw[h.id]at this;simpa using this)
 unfold pkM;rw[h.stT];exact this
def faM(k:A7)(keep:Int):A7:=
 let n:=(k.fo+max 0 (min keep<|(k.log.size:Int) - k.fo)).toNat
 ⟨k.id,A0,(k.log.extract 0 n).extract 0 (D7<|k.log.extract 0 n).2,((D7<|k.log.extract 0 n).2:Int),[]⟩
def pg{k:A7}(h:Ae k=Y)(keep:Int):Ae (faM k keep)=Y:=by
 have hf:=Dk h;obtain⟨rs,ts,hl,hs⟩:=(C0 h).lg;have hfo:=hl.fo;obtain⟨us,vs,e,l⟩:=hl.V9 (k.fo+max 0 (min keep<|(k.log.size:Int) - k.fo)).toNat J;refine XG (k:=faM k keep) hf.id l (by show 0<=3;omega) (.inr rfl) ?_ (λi hi=>by cases hi);show(Cc k.id<|(rs++us)++[]).isSome=Y;rw[CP];refine aDE (ts:=vs) ?_;rw[C5,← e,hs];rfl
def arv{k:A7}{st:AE}(h:DH k st)(hf:k.fo=(k.log.size:Int))(keep:Int):DH (faM k keep) st/\(faM k keep).log=k.log/\(faM k keep).fo=k.fo:=by
 obtain⟨rs,ts,hl,hs⟩:=h.lg;have e:(k.fo+max 0 (min keep<|(k.log.size:Int) - k.fo)).toNat=k.log.size:=J
 have e2:k.log.extract 0 k.log.size=k.log:=by
  apply G5;rw[EE,Jd,Iu];exact KH (by rw[Az];omega)
 have hk:faM k keep=⟨k.id,A0,k.log,(k.log.size:Int),[]⟩:=by
  unfold faM;simp only[e,e2,hl.read]
 have ok:=pg h.ok keep;rw[hk]at ok ⊢;exact⟨⟨ok,h.st⟩,rfl,hf.symm⟩
def riM(k:A7):A7:=⟨k.id,Y,k.log,k.fo,k.AJ⟩
def ay4{k:A7}{st:AE}(h:DH k st):DH (riM k) st:=by
 have hf:=Dk h.ok;obtain⟨rs,ts,hl,hs⟩:=h.lg;refine⟨XG (k:=riM k) hf.id hl hf.hl (.inl rfl) ?_ hf.hv,h.st⟩;show(Cc k.id<|rs++ts).isSome=Y;rw[hs];rfl
def C7(a b:List UInt8):List UInt8:=List.zipWith (· ^^^ ·) a b
def QU{a b:List UInt8}(h:a.length=b.length):(C7 a b).length=a.length:=by
 unfold C7;rw[nj];omega
def YT(a b:List UInt8):C7 a b=C7 b a:=by
 unfold C7
 induction a generalizing b with
 | nil=>cases b<;>rfl
 | cons x a ih=>
  cases b with
  | nil=>rfl
  | cons y b=>rw[P3,P3,ih,UInt8.xor_comm]
def Sw(a b c:List UInt8):C7 (C7 a b) c=C7 a (C7 b c):=by
 unfold C7
 induction a generalizing b c with
 | nil=>cases b<;>cases c<;>rfl
 | cons x a ih=>
  cases b with
  | nil=>cases c<;>rfl
  | cons y b=>
   cases c with
   | nil=>rfl
   | cons z c=>simp only[P3,ih,UInt8.xor_assoc]
def asw{a b:List UInt8}(h:a.length=b.length):C7 (C7 a b) b=a:=by
 unfold C7
 induction a generalizing b with
 | nil=>rfl
 | cons x a ih=>
  cases b with
  | nil=>cases h
  | cons y b=>rw[P3,P3,ih<|by simpa using h,UInt8.xor_assoc,UInt8.xor_self,UInt8.xor_zero]
def nul(n:Nat):List UInt8:=BS n 0
def Yj{a:List UInt8}{n:Nat}(h:a.length=n):C7 (nul n) a=a:=by
 unfold C7 nul
 induction a generalizing n with
 | nil=>subst h;rfl
 | cons x a ih=>
  subst h;rw[Bf,aEE,P3,ih rfl,UInt8.zero_xor]
def Dv(n:Nat)(bl:Nat->List UInt8):List Nat->List UInt8
 | []=>nul n
 | k::ks=>C7 (bl k) (Dv n bl ks)
def QO{n:Nat}{bl:Nat->List UInt8}:∀ {ks:List Nat},(∀k∈ks,(bl k).length=n)->(Dv n bl ks).length=n
 | [],_=>by simp[Dv,nul]
 | k::ks,h=>by
  have a:=h k Ao;have b:=QO λx hx=>h x<|Aj k hx;rw[Dv,QU J,a]
def oX{n:Nat}{bl:Nat->List UInt8}:∀ {ks:List Nat} {y:List UInt8},y.length=n->ks.foldl (λx k=>C7 x<|bl k) y=C7 y (Dv n bl ks)
 | [],y,h=>by
  rw[Dv,YT,Yj h];rfl
 | k::ks,y,h=>by
  rw[Dy,Dv,← Sw];by_cases hk:(C7 y<|bl k).length=n
  .exact oX hk
  ·
   have key:∀(ks:List Nat) (y z:List UInt8),y.length<=n->ks.foldl (λx k=>C7 x<|bl k) y=C7 y (Dv n bl ks):=by
    intro ks
    induction ks with
    | nil=>
     intro y z hy;rw[KK,Dv,YT];unfold C7 nul;clear hk h z
     induction y generalizing n with
     | nil=>simp
     | cons x y ih=>
      cases n with
      | zero=>simp at hy
      | succ n=>rw[aEE,P3,UInt8.zero_xor,← ih<|by simpa using hy]
    | cons k ks ih=>
     intro y z hy;rw[Dy,Dv,← Sw];refine ih _ z ?_;unfold C7;rw[nj];omega
   refine key ks _ [] ?_;unfold C7;rw[nj];omega
def avR{n:Nat}{bl:Nat->List UInt8}{p:Nat->Bool}{ks:List Nat}{u:Nat}(hb:∀k∈ks,(bl k).length=n)(hf:(ks.filter λk=> !p k)=[u]):
  ks.foldl (λx k=>if p k then C7 x (bl k) else x) (Dv n bl ks)=bl u:=by
 have h1:∀(ks:List Nat) (y:List UInt8),ks.foldl (λx k=>if p k then C7 x (bl k) else x) y=(ks.filter p).foldl (λx k=>C7 x<|bl k) y:=by
  intro ks
  induction ks with
  | nil=>intro y;rfl
  | cons k ks ih=>
   intro y;rw[Dy,KG];split<;>simp[ih]
 have h2:∀(ks:List Nat),(∀k∈ks,(bl k).length=n)->Dv n bl ks=C7 (Dv n bl<|ks.filter λk=> !p k) (Dv n bl<|ks.filter p):=by
  intro ks
  induction ks with
  | nil=>intro _;simp[Dv,Yj (n:=n) (a:=nul n) (by simp[nul])]
  | cons k ks ih=>
   intro hb;have:=ih λx hx=>hb x<|Aj _ hx;rw[Dv,this,KG,KG];cases p k
   .simp only[AH,A2,A4,Dv,Sw]
   .simp only[AB,A2,A4,Dv];rw[← Sw,YT<|bl k,Sw]
 have hlen:(Dv n bl<|ks.filter p).length=n:=QO λk hk=>hb k (FH.1 hk).1;have hu:(bl u).length=n:=hb u (FH.1 (hf▸P9 u:u∈ks.filter λk=> !p k)).1;rw[h1,oX<|QO hb,h2 ks hb,hf];rw[asw (by rw[hlen];exact QO λk hk=>by rw[C9.1 hk];exact hu)];rw[Dv,Dv,YT,Yj hu]
def rnd(x:Int):Int:=if inB x 0 65535 then BL (25173 * x+13849) 65536 else 0
def Tb(x:Int):0<=rnd x/\rnd x<=65535:=by
 unfold rnd;split
 .rename_i h;have:=Aa.1 h;rw[L9 J];omega
 .omega
def vW(x:Int):Py (x,())=I ((rnd x,()),()):=by
 unfold Py rnd;simp only[EO,A6];obtain e|e:=tf (inB x 0 65535)
 .have:=Aa.1 e;simp only[e,AB,A4,A2];rw[AZ (n:=25173 * x) J J,AZ J J]
 .simp only[e,AH,A4,A2]
def vP(x:Int):Pv (x,())=I ((rnd x,()),()):=by
 unfold Pv rnd;simp only[I3,A6];obtain e|e:=tf (inB x 0 65535)
 .have:=Aa.1 e;simp only[e,AB,A4,A2];rw[AZ (n:=x * 25173) J J,AZ J J,R4]
 .simp only[e,AH,A4,A2]
def Du(b n:Int):Bool:=inB b 1 6&&inB n 0 999
def aCj(b n:Int):X5 (b,n,())=I ((Du b n,()),()):=by
 unfold X5 Du;simp only[EO,A6,DC,D4];cases inB b 1 6<;>rfl
def Xd(b n:Int):Mq (b,n,())=I ((Du b n,()),()):=by
 unfold Mq Du;simp only[I3,A6,DC,D4];cases inB b 1 6<;>rfl
def wgt(b d:Int):Int:=if d=1 then B1 60 b+10 else B1 60 (d * (d - 1))
def ajd{b d:Int}(hb:inB b 1 6=Y)(hd:inB d 1 6=Y):fO (b,d,())=I ((wgt b d,()),()):=by
 have h1:=Aa.1 hb;have h2:=Aa.1 hd;have h3:b=1\/b=2\/b=3\/b=4\/b=5\/b=6:=J
 have h4:d=1\/d=2\/d=3\/d=4\/d=5\/d=6:=J
 obtain rfl|rfl|rfl|rfl|rfl|rfl:=h3<;>obtain rfl|rfl|rfl|rfl|rfl|rfl:=h4<;>rfl
def au2(b n:Int)(hb:inB b 1 6=Y):cV (b,n,0,1,())=I (.inr (b,n,70,())):=by
 have h1:=Aa.1 hb;have h3:b=1\/b=2\/b=3\/b=4\/b=5\/b=6:=J
 unfold cV;obtain rfl|rfl|rfl|rfl|rfl|rfl:=h3
 .exact As rfl (BF rfl)
 .exact As rfl (As rfl (BF rfl))
 .exact As rfl (As rfl (As rfl (BF rfl)))
 .exact As rfl (As rfl (As rfl (As rfl (BF rfl))))
 .exact As rfl (As rfl (As rfl (As rfl (As rfl (BF rfl)))))
 .exact As rfl (As rfl (As rfl (As rfl (As rfl (As rfl (BF rfl))))))
def wts(b:Int):List Int:=if b=1 then [70] else if b=2 then [40,30] else if b=3 then [30,30,10] else if b=4 then [25,30,10,5] else if b=5 then [22,30,10,5,3] else [20,30,10,5,3,2]
def avq(b n:Int)(hb:inB b 1 6=Y):cM (b,n,[0,w64<|w64 (B1 60 b)+10],rd aIk ([0,w64<|w64 (B1 60 b)+10]:List Int) 1,2,())=I (.inr (b,n,0::wts b,70,())):=by
 have h1:=Aa.1 hb;have h3:b=1\/b=2\/b=3\/b=4\/b=5\/b=6:=J
 unfold cM;obtain rfl|rfl|rfl|rfl|rfl|rfl:=h3
 .exact BF rfl
 .exact As rfl (BF rfl)
 .exact As rfl (As rfl (BF rfl))
 .exact As rfl (As rfl (As rfl (BF rfl)))
 .exact As rfl (As rfl (As rfl (As rfl (BF rfl))))
 .exact As rfl (As rfl (As rfl (As rfl (As rfl (BF rfl)))))
def FM{σ ρ:Type}{b:σ->Option (σ ⊕ ρ)}{x x':σ}{y z:ρ}{c:Bool}(h:b x=if c then I (.inr y) else I (.inl x'))(hz:AT b x'=I z):AT b x=I (if c then y else z):=by
 cases c
 .exact As h hz
 .exact BF h
def LJ(b r:Int):List Int->Int->Int->(Int×D) ⊕ (Int×D)
 | [],_,_=> .inr (b,())
 | w::ws,acc,d=>if U (r<acc+w) then .inl (d,()) else LJ b r ws (acc+w) (d+1)
def avr(b r:Int)(hb:inB b 1 6=Y):cL (b,0::wts b,r,0,1,())=I (LJ b r (wts b) 0 1):=by
 have h1:=Aa.1 hb;have h3:b=1\/b=2\/b=3\/b=4\/b=5\/b=6:=J
 unfold cL;obtain rfl|rfl|rfl|rfl|rfl|rfl:=h3
 .exact FM rfl (BF rfl)
 .exact FM rfl (FM rfl (BF rfl))
 .exact FM rfl (FM rfl (FM rfl (BF rfl)))
 .exact FM rfl (FM rfl (FM rfl (FM rfl (BF rfl))))
 .exact FM rfl (FM rfl (FM rfl (FM rfl (FM rfl (BF rfl)))))
 .exact FM rfl (FM rfl (FM rfl (FM rfl (FM rfl (FM rfl (BF rfl))))))
def aa9{b d:Int}(hb:inB b 1 6=Y)(hd:inB d 1 6=Y):0<=wgt b d/\wgt b d<=70:=by
 have h1:=Aa.1 hb;have h2:=Aa.1 hd;have h3:b=1\/b=2\/b=3\/b=4\/b=5\/b=6:=J
 have h4:d=1\/d=2\/d=3\/d=4\/d=5\/d=6:=J
 obtain rfl|rfl|rfl|rfl|rfl|rfl:=h3<;>obtain rfl|rfl|rfl|rfl|rfl|rfl:=h4<;>decide
def al7{b x d:Int}(hb:inB b 1 6=Y)(hd:inB d 1 6=Y)(hlt:d<b)(h0: -1000<=x)(h1:x<=1000):
  Ve (b,x,d,())=if U (x - wgt b d<0) then I (.inr<|.inl (d,())) else I (.inl (b,x - wgt b d,d+1,())):=by
 have hw:=aa9 hb hd;have h2:=Aa.1 hd;unfold Ve;simp only[AU hlt,A2,ajd hb hd,A6];rw[AZ (n:=x - wgt b d) J J,AZ (n:=d+1) J J]
def MV:(Int×D) ⊕ (Int×D)->Int
 | .inl y=>y.1
 | .inr y=>y.1
def bB(b x:Int):Nat->Int->(Int×D) ⊕ (Int×D)
 | 0,_=> .inr (b,())
 | n+1,d=>if U (x - wgt b d<0) then .inl (d,()) else bB b (x - wgt b d) n (d+1)
def aGR{b:Int}(hb:inB b 1 6=Y):∀(n:Nat) (x d:Int),1<=d->d+n=b-> -70 * d<=x->x<=100->cU (b,x,d,())=I (bB b x n d)
 | 0,x,d,_,h,_,_=>by
  unfold cU;refine BF ?_;unfold Ve;simp only[show U (d<b)=A0 from BG J,A4];rfl
 | n+1,x,d,h1,h,h2,h3=>by
  have hb':=Aa.1 hb;have hd:inB d 1 6=Y:=Aa.2 ⟨h1,J⟩;have hw:=aa9 hb hd;exact FM (al7 hb hd J J J)<|aGR hb n (x - wgt b d) (d+1) J J J J
def awr:∀b:Fin 6,∀r:Fin 70,MV (bB ((b.1+1:Nat):Int) (r.1:Int) b.1 1)=MV (LJ ((b.1+1:Nat):Int) (r.1:Int) (wts ((b.1+1:Nat):Int)) 0 1):=by decide+kernel
def avo{b r:Int}(hb:inB b 1 6=Y)(h0:0<=r)(h1:r<70):MV (bB b r (b - 1).toNat 1)=MV (LJ b r (wts b) 0 1):=by
 have h2:=Aa.1 hb;have:=awr ⟨(b - 1).toNat,J⟩ ⟨r.toNat,J⟩;rw[show(((b - 1).toNat+1:Nat):Int)=b by omega,show((r.toNat:Nat):Int)=r by omega]at this;exact this
def G6(b n:Int):Int:=if Du b n then(if U (n<b) then 1 else MV (LJ b (BL (B1 (rnd<|rnd<|31 * n+b) 16) 70) (wts b) 0 1)) else 0
def aaI(s:(Int×D) ⊕ (Int×D)):AN (I s) (λy=>I (y,())) (λy=>I (y,()))=I ((MV s,()),()):=by
 cases s<;>rfl
def aii(b n:Int):eG (b,n,())=I ((G6 b n,()),()):=by
 unfold eG G6;rw[aCj];simp only[A6];obtain e|e:=tf (Du b n)
 .have e2:=e;unfold Du at e2;rw[AD]at e2;have h1:=Aa.1 e2.1;have h2:=Aa.1 e2.2;simp only[e,AB,A4,A2];obtain e3|e3:=tf (U<|n<b)
  .simp only[e3,A2]
  .have hr:=Tb<|rnd<|31 * n+b;have hz:B1 (rnd<|rnd<|31 * n+b) 16=rnd (rnd<|31 * n+b) / 16:=HQ hr.1;simp only[e3,A4,show U (b=0)=A0 from BG J,AH,A2,avq b n e2.1];rw[A5<|by rfl];simp only[AN,vW,A6];rw[AZ (n:=31 * n) J J,AZ (n:=31 * n+b) J J,AZ (n:=B1 _ 16) J J];rw[avr b _ e2.1];exact aaI _
 .simp only[e,AH,A2,A4]
def ahu(b n:Int):eR (b,n,())=I ((G6 b n,()),()):=by
 unfold eR G6;rw[Xd];simp only[A6];obtain e|e:=tf (Du b n)
 .have e2:=e;unfold Du at e2;rw[AD]at e2;have h1:=Aa.1 e2.1;have h2:=Aa.1 e2.2;simp only[e,AB,A4,A2];obtain e3|e3:=tf (U<|n<b)
  .simp only[e3,A2]
  .have hr:=Tb<|rnd<|31 * n+b;have hz:B1 (rnd<|rnd<|31 * n+b) 16=rnd (rnd<|31 * n+b) / 16:=HQ hr.1;have hm:BL (B1 (rnd<|rnd<|31 * n+b) 16) 70=(rnd (rnd<|31 * n+b) / 16) % 70:=by rw[hz];exact L9 J
   simp only[e3,A4,au2 b n e2.1];simp only[AN,vP,A6];rw[AZ (n:=n * 31) J J,AZ (n:=n * 31+b) J J,R4 n 31,AZ (n:=B1 _ 16) J J];rw[aGR e2.1 (b - 1).toNat _ 1 J J J J,A5<|by rfl];rw[← avo e2.1 J J];exact aaI _
 .simp only[e,AH,A2,A4]
def agm{l:List Int}(hl:l.length<=1048576):uF (l,())=I ((l,()),()):=Ls hl
def afB{l:List Int}(hl:l.length<=1048576):dP (l,())=I ((l,()),()):=Ls hl
def Em(b:Nat)(f:Nat->Bool):Nat->Nat->Nat
 | 0,a=>a
 | k+1,a=>if f a then Em b f k ((a+1) % b) else a
def Rep(u:List Bool)(f:Nat->Bool):Prop:=∀i,u.getD i A0=f i
def rdB(u:List Bool)(i:Nat): @rd Bool aIw u (i:Int)=u.getD i A0:=rfl
def Ta{b:Nat}{f:Nat->Bool}:∀(k a:Nat),a<b->Em b f k a<b
 | 0,_,h=>h
 | k+1,a,h=>by
  unfold Em;split
  .exact Ta k _ (PC _ J)
  .exact h
def nF{a b k:Nat}:((a+1) % b+k) % b=(a+(k+1)) % b:=by
 rw[Nat.mod_add_mod,DE,NM 1 k]
def mE{b:Nat}{f:Nat->Bool}:∀(k a m:Nat),a<b->f ((a+k) % b)=A0->k<=m->Em b f m a=Em b f k a
 | 0,a,m,h,e,_=>by
  rw[Hu,P6 h]at e;cases m with
  | zero=>rfl
  | succ m=>
   simp only[Em,e,A4]
 | k+1,a,m,h,e,hm=>by
  cases m with
  | zero=>omega
  | succ m=>
   rw[Em,Em];rw[mE k ((a+1) % b) m (PC _ J) (by rw[nF];exact e) J]
def reach{a b j:Nat}(ha:a<b)(hj:j<b):∃k,k<=b/\(a+k) % b=j:=by
 by_cases h:a<=j
 .exact⟨j - a,J,by rw[show a+(j - a)=j by omega];exact P6 hj⟩
 .exact⟨j+b - a,J,by rw[show a+(j+b - a)=j+b by omega,Nat.add_mod_right];exact P6 hj⟩
def cnt(f:Nat->Bool):Nat->Nat
 | 0=>0
 | k+1=>cnt f k+(if f k then 1 else 0)
def oy{f:Nat->Bool}:∀(k:Nat),cnt f k<k->∃j,j<k/\f j=A0
 | 0,h=>J
 | k+1,h=>by
  rw[cnt]at h;obtain e|e:=tf (f k)
  .rw[e,A5 rfl]at h;obtain⟨j,h1,h2⟩:=oy (f:=f) k J;exact⟨j,J,h2⟩
  .exact⟨k,J,e⟩
def II(f:Nat->Bool)(a:Nat):Nat->Bool:=λj=>if j=a then Y else f j
def pT{f:Nat->Bool}{a:Nat}:∀(k:Nat),(k<=a->cnt (II f a) k=cnt f k)/\cnt (II f a) k<=cnt f k+1
 | 0=>⟨λ_=>rfl,by rw[cnt,cnt];omega⟩
 | k+1=>by
  obtain⟨h1,h2⟩:=pT (f:=f) (a:=a) k;rw[cnt,cnt];constructor
  .intro h;rw[h1 J,show II f a k=f k from A9 J]
  .by_cases h:k=a
   .rw[h1 J];unfold II;rw[A5 h];cases f k<;>simp
   .unfold II;rw[A9 h];unfold II at h2;omega
def ow:∀(k:Nat),cnt (λ_=>A0) k=0
 | 0=>rfl
 | k+1=>by rw[cnt,ow k];rfl
def Rep.set{u:List Bool}{f:Nat->Bool}{a:Nat}(h:Rep u f)(ha:a<u.length):Rep (u.set a Y) (II f a):=by
 intro i;unfold II;rw[BA,P4];by_cases e:i=a
 .subst e;simp[ha]
 .rw[A9<|LD e,A9 e,← h i,BA]
def Rep.new(n:Nat):Rep (BS n A0) (λ_=>A0):=by
 intro i;rw[BA,aA];split<;>rfl
def JM(b:Nat):Nat->(Nat->Bool)->Int->Nat->Bool
 | 0,f,_=>f
 | n+1,f,x=>JM b n (II f<|Em b f b (BL (B1 (rnd x) 16) (b:Int)).toNat) (rnd x)
def aGF{b:Nat}(hb:0<b):∀(n:Nat) (f:Nat->Bool) (x:Int),(∀i,b<=i->f i=A0)->∀i,b<=i->JM b n f x i=A0
 | 0,_,_,h=>h
 | n+1,f,x,h=>by
  refine aGF hb n _ _ ?_;intro i hi;unfold II;rw[A9,h i hi];have:Em b f b (BL (B1 (rnd x) 16) (b:Int)).toNat<b:=by
   refine Ta _ _ ?_;have:=Tb x;rw[HQ this.1,L9 J];have h1:=Int.emod_lt_of_pos (rnd x / 16) (show(0:Int)<b by omega);have h2:=Int.emod_nonneg (rnd x / 16) (show(b:Int)≠0 by omega);omega
  omega
def Hh(f:Nat->Bool)(m:Nat):List Nat:=(B8 m).filter f
def lV(f:Nat->Bool)(m:Nat):Hh f (m+1)=Hh f m++if f m then [m] else []:=by
 unfold Hh;rw[IK,RA];congr 1;simp only[KG,aJ]
def ZD(f:Nat->Bool)(m:Nat):(Hh f m).length<=m:=by
 unfold Hh;exact CZ (Ix _ _)<|by simp
def avP{f:Nat->Bool}{m k:Nat}(h:k∈Hh f m):k<m:=by
 unfold Hh at h;exact Cw.1 (FH.1 h).1
def aFJ{f:Nat->Bool}{b:Nat}(h:∀i,b<=i->f i=A0):∀(m:Nat),b<=m->Hh f m=Hh f b
 | 0,hm=>by rw[show b=0 by omega]
 | m+1,hm=>by
  by_cases e:b=m+1
  .rw[e]
  .rw[lV,h m J,A4,CP,aFJ h m J]
abbrev BX(l:List Nat):List Int:=l.map λi:Nat=>(i:Int)
def aHU{b r:Int}(hb:0<=b):∀(ws:List Int) (acc d:Int),0<=d->d+ws.length<=b+1->0<=MV (LJ b r ws acc d)/\MV (LJ b r ws acc d)<=b
 | [],_,_,_,_=>by
  show 0<=b/\b<=b;omega
 | w::ws,acc,d,h0,h1=>by
  rw[Bf]at h1;unfold LJ;split
  .show 0<=d/\d<=b;omega
  .exact aHU hb ws _ _ J J
def aHV{b n:Int}(h:Du b n=Y):0<=G6 b n/\G6 b n<=b:=by
 unfold G6;rw[A5 h];unfold Du at h;rw[AD]at h;have h1:=Aa.1 h.1;split
 .omega
 .refine aHU J _ _ _ J ?_;have h3:b=1\/b=2\/b=3\/b=4\/b=5\/b=6:=J
  obtain rfl|rfl|rfl|rfl|rfl|rfl:=h3<;>exact Cz _
def Bi(b n:Int):List Nat:=
 if Du b n then(if U (n<b) then [n.toNat] else Hh (JM b.toNat (G6 b n).toNat (λ_=>A0)<|rnd<|7 * n+1) b.toNat) else []
def Lk{b n:Int}{k:Nat}(h:k∈Bi b n):(k:Int)<b:=by
 unfold Bi at h;split at h
 .rename_i h0;unfold Du at h0;rw[AD]at h0;have h1:=Aa.1 h0.1;have h2:=Aa.1 h0.2;split at h
  .rename_i h3;have:=BZ h3;have:=C9.1 h;omega
  .have:=avP h;omega
 .cases h
def Xs(b n:Int):(Bi b n).length<=6:=by
 unfold Bi;split
 .rename_i h0;unfold Du at h0;rw[AD]at h0;have h1:=Aa.1 h0.1;split
  .simp
  .exact CZ (ZD _ _) J
 .simp
section
variable {bn:Nat} (hb:0<bn) (h6:bn<=6) {u:List Bool} {f:Nat->Bool} (hu:Rep u f) (hl:bn<=u.length)
include hb h6 hu hl
def aFt(x n:Int):∀(k a:Nat),a<bn->f ((a+k) % bn)=A0->
  eF ((bn:Int),u,x,n,(a:Int),())=I (.inr ((bn:Int),u,x,n,((Em bn f k a:Nat):Int),()))
 | 0,a,ha,e=>by
  rw[Hu,P6 ha]at e;refine BF ?_;unfold Wn;simp only[rdB,hu a,e,AR (J:a<u.length),A2,A4];rfl
 | k+1,a,ha,e=>by
  unfold eF at *;unfold Em;obtain e1|e1:=tf (f a)
  .rw[e1,A5 rfl];refine As ?_ (aFt x n k ((a+1) % bn) (PC _ hb) (by rw[nF];exact e));unfold Wn;simp only[rdB,hu a,e1,AR (J:a<u.length),A2,show U ((bn:Int)=0)=A0 from BG J,AH];rw[AZ J J];rfl
  .rw[e1,A4];refine BF ?_;unfold Wn;simp only[rdB,hu a,e1,AR (J:a<u.length),A2,A4]
def aF6(o:List Int)(x n:Int):∀(k a:Nat),a<bn->f ((a+k) % bn)=A0->
  eQ ((bn:Int),o,u,x,n,(a:Int),())=I (.inr ((bn:Int),o,u,x,n,((Em bn f k a:Nat):Int),()))
 | 0,a,ha,e=>by
  rw[Hu,P6 ha]at e;refine BF ?_;unfold Ws;simp only[rdB,hu a,e,AR (J:a<u.length),A2,A4];rfl
 | k+1,a,ha,e=>by
  unfold eQ at *;unfold Em;obtain e1|e1:=tf (f a)
  .rw[e1,A5 rfl];refine As ?_ (aF6 o x n k ((a+1) % bn) (PC _ hb) (by rw[nF];exact e));unfold Ws;simp only[rdB,hu a,e1,AR (J:a<u.length),A2,show U ((bn:Int)=0)=A0 from BG J,AH];rw[AZ J J];rfl
  .rw[e1,A4];refine BF ?_;unfold Ws;simp only[rdB,hu a,e1,AR (J:a<u.length),A2,A4]
end
section
variable {bn:Nat} (hb:0<bn) (h6:bn<=6)
include hb h6
def aaN(x:Int):∃a:Nat,BL (w64<|B1 (rnd x) 16) (bn:Int)=(a:Int)/\(BL (B1 (rnd x) 16) (bn:Int)).toNat=a/\a<bn:=by
 have h:=Tb x;have hd:B1 (rnd x) 16=rnd x / 16:=HQ h.1;rw[hd,AZ J J,L9 J];have h1:=Int.emod_lt_of_pos (rnd x / 16) (show(0:Int)<bn by omega);have h2:=Int.emod_nonneg (rnd x / 16) (show(bn:Int)≠0 by omega);exact⟨(rnd x / 16 % (bn:Int)).toNat,J,rfl,J⟩
def aGs:∀(n:Nat) (u:List Bool) (f:Nat->Bool) (x:Int),Rep u f->bn<=u.length->cnt f bn+n<=bn->
  ∃u',ug ((bn:Int),u,x,(n:Int),())=I (.inr (u',()))/\Rep u' (JM bn n f x)/\u'.length=u.length
 | 0,u,f,x,hu,_,_=>by
  refine⟨u,BF ?_,hu,rfl⟩;rfl
 | n+1,u,f,x,hu,hl,hc=>by
  obtain⟨a,ea,eb,ha⟩:=aaN hb h6 x;obtain⟨j,hj,ej⟩:=oy (f:=f) bn J;obtain⟨k,hk,ek⟩:=reach ha hj;have es:=aFt hb h6 hu hl (rnd x) ((n+1:Nat):Int) k a ha (by rw[ek];exact ej);have em:=mE (f:=f) k a bn ha (by rw[ek];exact ej) hk;have hs:Em bn f k a<bn:=Ta k a ha;obtain⟨u',h1,h2,h3⟩:=aGs n (u.set (Em bn f k a) Y) (II f<|Em bn f k a) (rnd x) (hu.set J) (by rw[Ga];exact hl)
   (by have:=(pT (f:=f) (a:=Em bn f k a) bn).2;omega)
  refine⟨u',As ?_ h1, ?_,by rw[h3,Ga]⟩
  .unfold jq;simp only[vW,A6,show U ((0:Int)<((n+1:Nat):Int))=Y from AU J,A2,show U ((bn:Int)=0)=A0 from BG J,AH,ea,es];simp only[AN,A6,AR (J:Em bn f k a<u.length),A2,BV];rw[AZ J J,show((n+1:Nat):Int) - 1=(n:Int) by omega]
  .rw[JM,eb,em];exact h2
def aGQ(o:List Int):∀(n:Nat) (u:List Bool) (f:Nat->Bool) (x:Int),Rep u f->bn<=u.length->cnt f bn+n<=bn->
  ∃u',vD ((bn:Int),o,u,x,(n:Int),())=I (.inr ((bn:Int),o,u',()))/\Rep u' (JM bn n f x)/\u'.length=u.length
 | 0,u,f,x,hu,_,_=>by
  refine⟨u,BF ?_,hu,rfl⟩;rfl
 | n+1,u,f,x,hu,hl,hc=>by
  obtain⟨a,ea,eb,ha⟩:=aaN hb h6 x;obtain⟨j,hj,ej⟩:=oy (f:=f) bn J;obtain⟨k,hk,ek⟩:=reach ha hj;have es:=aF6 hb h6 hu hl o (rnd x) ((n+1:Nat):Int) k a ha (by rw[ek];exact ej);have em:=mE (f:=f) k a bn ha (by rw[ek];exact ej) hk;have hs:Em bn f k a<bn:=Ta k a ha;obtain⟨u',h1,h2,h3⟩:=aGQ o n (u.set (Em bn f k a) Y) (II f<|Em bn f k a) (rnd x) (hu.set J) (by rw[Ga];exact hl)
   (by have:=(pT (f:=f) (a:=Em bn f k a) bn).2;omega)
  refine⟨u',As ?_ h1, ?_,by rw[h3,Ga]⟩
  .unfold jc;simp only[vP,A6,show U ((0:Int)<((n+1:Nat):Int))=Y from AU J,A2,show U ((bn:Int)=0)=A0 from BG J,AH,ea,es];simp only[AN,A6,AR (J:Em bn f k a<u.length),A2,BV];rw[AZ J J,show((n+1:Nat):Int) - 1=(n:Int) by omega]
  .rw[JM,eb,em];exact h2
end
def atS{u:List Bool}{f:Nat->Bool}(hu:Rep u f)(hl:u.length=6):uf ([],u,0,())=I (.inr (BX<|Hh f 6,())):=by
 refine CG (λi=>(BX<|Hh f i,u,(i:Int),())) 6 ?_ rfl;intro i hi;unfold jo;simp only[rdB,hu i,AR (J:i<u.length),AR hi,LC,A2,show U ((i:Int)<6)=Y from AU J];rw[AZ (n:=(i:Int)+1) J J,lV];have:=ZD f i;obtain e|e:=tf (f i)
 .simp only[e,A2];rw[A5<|BD y8];simp[BX]
 .simp only[e,A4,CP];rfl
def asq{bn:Nat}(h6:bn<=6){u:List Bool}{f:Nat->Bool}(hu:Rep u f)(hl:u.length=bn):vC ((bn:Int),[],u,0,())=I (.inr (BX<|Hh f bn,())):=by
 refine CG (λi=>((bn:Int),BX<|Hh f i,u,(i:Int),())) bn ?_ ?_
 .intro i hi;unfold iP;simp only[rdB,hu i,AR (J:i<u.length),A2,show U ((i:Int)<(bn:Int))=Y from AU J];rw[AZ (n:=(i:Int)+1) J J,lV];have:=ZD f i;obtain e|e:=tf (f i)
  .simp only[e,A2];rw[A5<|BD y8];simp[BX]
  .simp only[e,A4,CP];rfl
 .unfold iP;simp only[show U ((bn:Int)<(bn:Int))=A0 from BG J,A4]
def kI(b n:Int):XA (b,n,())=I ((BX<|Bi b n,()),()):=by
 unfold XA Bi;rw[aCj];simp only[A6];obtain e|e:=tf (Du b n)
 .have e2:=e;unfold Du at e2;rw[AD]at e2;have h1:=Aa.1 e2.1;have h2:=Aa.1 e2.2;simp only[e,AB,A4,A2];obtain e3|e3:=tf (U<|n<b)
  .simp only[e3,A2];rw[show BX [n.toNat]=[n] from by simp[BX];omega]
  .have hd:=aHV e;simp only[e3,A4,vW,aii,A6];rw[AZ (n:=7 * n) J J,AZ (n:=7 * n+1) J J];obtain⟨u,g1,g2,g3⟩:=aGs (bn:=b.toNat) J J (G6 b n).toNat (BS 6 A0) (λ_=>A0) (rnd<|7 * n+1) (Rep.new 6) y8 (by rw[ow];omega);rw[show((b.toNat:Nat):Int)=b by omega,show(((G6 b n).toNat:Nat):Int)=G6 b n by omega]at g1;rw[show(dfl .bool:Bool)=A0 from rfl,g1];simp only[AN,A6];rw[atS g2 (by rw[g3];rfl),aFJ (b:=b.toNat) (aGF J _ _ _ λ_ _=>rfl) 6 J];simp only[A6];rw[agm (by have:=ZD (JM b.toNat (G6 b n).toNat (λ_=>A0)<|rnd<|7 * n+1) b.toNat;simp;omega)];rfl
 .simp only[e,AH,A2,A4];rfl
def aCS(b n:Int):X2 (b,n,())=I ((BX<|Bi b n,()),()):=by
 unfold X2 Bi;rw[Xd];simp only[A6];obtain e|e:=tf (Du b n)
 .have e2:=e;unfold Du at e2;rw[AD]at e2;have h1:=Aa.1 e2.1;have h2:=Aa.1 e2.2;simp only[e,AB,A4,A2];obtain e3|e3:=tf (U<|n<b)
  .simp only[e3,A2];rw[show BX [n.toNat]=[n] from by simp[BX];omega];rfl
  .have hd:=aHV e;simp only[e3,A4,vP,ahu,A6];rw[A5 y8];rw[AZ (n:=n * 7) J J,AZ (n:=n * 7+1) J J,R4 n 7];obtain⟨u,g1,g2,g3⟩:=aGQ (bn:=b.toNat) J J [] (G6 b n).toNat (BS b.toNat A0) (λ_=>A0) (rnd<|7 * n+1) (Rep.new _) aIg (by rw[ow];omega);rw[show((b.toNat:Nat):Int)=b by omega,show(((G6 b n).toNat:Nat):Int)=G6 b n by omega]at g1;rw[show(dfl .bool:Bool)=A0 from rfl,g1];simp only[AN,A6];have g4:=asq (bn:=b.toNat) J g2 (by rw[g3];simp);rw[show((b.toNat:Nat):Int)=b by omega]at g4;rw[g4];rfl
 .simp only[e,AH,A2,A4];rfl
end Go.VS
namespace Go.VS
open Go
abbrev bI(l:List UInt8):List Int:=l.map λb=>(b.toNat:Int)
def TE(s:A1):BC s=bI (L s):=rfl
def TV(l:List UInt8):BJ (bI l)=B l:=by
 unfold BJ bI B;rw[IT];congr 2;rw[Gt (g:=id) (by intro b _;simp),aE]
def aHy(a b:UInt8):Dw .u8 (a.toNat:Int) (b.toNat:Int)=((a ^^^ b).toNat:Int):=by
 have h1:∀c:UInt8,FG (IntKind.bits .u8) (c.toNat:Int)=c.toBitVec:=by
  intro c;apply oM;rw[Qu];have:=c.toNat_lt;show((c.toNat:Int) % (2 ^ 8:Nat)).toNat=c.toBitVec.toNat;rw[nb J J];rfl
 unfold Dw;rw[h1 a,h1 b];have:=(a ^^^ b).toNat_lt;show aG .u8 (((a ^^^ b).toNat:Nat):Int)=_;have h3:∀n:Int,aG .u8 n=n % 256:=N5;rw[h3];omega
def az6{l:List UInt8}(h:l.length=4):∃a b c d,l=[a,b,c,d]:=by
 obtain _|⟨a,_|⟨b,_|⟨c,_|⟨d,_|⟨e,l⟩⟩⟩⟩⟩:=l
 all_goals simp at h
 exact⟨a,b,c,d,rfl⟩
def sz4{s:A1}(h:s.size=4):∃a b c d,s=B [a,b,c,d]:=by
 obtain⟨a,b,c,d,e⟩:=az6 (l:=L s) h;exact⟨a,b,c,d,by rw[← e,B_L]⟩
def aCi{a b:A1}(ha:a.size=4)(hb:b.size=4):XB (a,b,())=I ((B<|C7 (L a)<|L b,()),()):=by
 obtain⟨a0,a1,a2,a3,rfl⟩:=sz4 ha;obtain⟨b0,b1,b2,b3,rfl⟩:=sz4 hb;unfold XB;rw[A5<|by rfl];have h:uY (B [b0,b1,b2,b3],BC<|B [a0,a1,a2,a3],((BC<|B [a0,a1,a2,a3]).length:Int),0,())=
   I (.inr ([Dw .u8 (a0.toNat:Int) (b0.toNat:Int),Dw .u8 (a1.toNat:Int) (b1.toNat:Int),Dw .u8 (a2.toNat:Int) (b2.toNat:Int),Dw .u8 (a3.toNat:Int) (b3.toNat:Int)],())):=
  As rfl (As rfl (As rfl (As rfl (BF rfl))))
 rw[h];simp only[aHy,AN,A6];exact congrArg (λz=>I ((z,()),()))<|TV [a0 ^^^ b0,a1 ^^^ b1,a2 ^^^ b2,a3 ^^^ b3]
def aCQ{a b:A1}(ha:a.size=4)(hb:b.size=4):X4 (a,b,())=I ((B<|C7 (L a)<|L b,()),()):=by
 obtain⟨a0,a1,a2,a3,rfl⟩:=sz4 ha;obtain⟨b0,b1,b2,b3,rfl⟩:=sz4 hb;unfold X4;have h:vA (B [a0,a1,a2,a3],B [b0,b1,b2,b3],[],0,())=
   I (.inr ([Dw .u8 (a0.toNat:Int) (b0.toNat:Int),Dw .u8 (a1.toNat:Int) (b1.toNat:Int),Dw .u8 (a2.toNat:Int) (b2.toNat:Int),Dw .u8 (a3.toNat:Int) (b3.toNat:Int)],())):=
  As rfl (As rfl (As rfl (As rfl (BF rfl))))
 rw[h];simp only[aHy,AN,A6];exact congrArg (λz=>I ((z,()),()))<|TV [a0 ^^^ b0,a1 ^^^ b1,a2 ^^^ b2,a3 ^^^ b3]
def gB{n:Int}(h0:0<=n)(h1:n<=1000):Lh (n,())=I ((B1 (n+3) 4,()),()):=by
 unfold Lh;simp only;rw[AZ (n:=n+4) J J,AZ (n:=n+4 - 1) J J,show n+4 - 1=n+3 by omega];rw[HQ J,AZ J J]
def aoX:jZ ()=I ((B<|nul 4,()),()):=rfl
def G8(t:List UInt8)(i:Nat):List UInt8:=(B8 4).map λj=>t.getD (4 * i+j) 0
def Od(t:List UInt8)(i:Nat):(G8 t i).length=4:=by simp[G8]
def DM(t:A1):List A1:=if inB t.size 1 24 then(B8<|(t.size+3) / 4).map λi=>B (G8 (L t) i) else []
def awt(l:List UInt8):BR (BS (AM 4)<|dfl .u8).length (bI l)++Br (bI l).length (BS (AM 4)<|dfl .u8)=bI ((B8 4).map λj=>l.getD j 0):=by
 obtain _|⟨a,_|⟨b,_|⟨c,_|⟨d,l⟩⟩⟩⟩:=l
 .rfl
 .rfl
 .rfl
 .rfl
 .rw[MN aIg,CP];rfl
def auQ(l:List UInt8)(k:Nat):(B8 4).map (λj=>(l.drop k).getD j 0)=(B8 4).map λj=>l.getD (k+j) 0:=by
 refine Gt ?_;intro j _;rw[BA,BA,Hr]
def ayX(s:A1)(k:Nat):L (s.extract k s.size)=(L s).drop k:=by
 rw[EE,KH];rw[EJ,Az];exact Au _
def aBa(t:A1):Wo (t,())=I ((DM t,()),()):=by
 unfold Wo DM;simp only[EO,A6];obtain e|e:=tf (inB t.size 1 24)
 .have h1:=Aa.1 e;simp only[e,AB,A4,A2];have h:uP (t,[],0,())=I (.inr ((B8<|(t.size+3) / 4).map λi=>B<|G8 (L t) i,())):=by
   refine CG (λi=>(t,(B8 i).map λi=>B<|G8 (L t) i,((4 * i:Nat):Int),())) ((t.size+3) / 4) ?_ ?_
   .intro i hi;unfold iD;simp only[show U (((4 * i:Nat):Int)<(t.size:Int))=Y from AU J,A2];rw[A5<|by rfl,A5 y8,A5<|BD y8];rw[BV,TE,ayX,awt,TV,auQ,AZ J J,IK (n:=i),Ec];rw[show((4 * i:Nat):Int)+4=((4 * (i+1):Nat):Int) by omega];rfl
   .unfold iD;simp only[show U (((4 * ((t.size+3) / 4):Nat):Int)<(t.size:Int))=A0 from BG J,A4]
  rw[h];simp only[AN,A6];rw[ry y8];rfl
 .simp only[e,AH,A2,A4]
def asN(t:A1)(o:List A1)(i:Nat)(hi:i<=100):
  tn (t,o,(i:Int),[],w64<|(i:Int) * 4,())=I (.inr (t,o,(i:Int),bI<|G8 (L t) i,())):=by
 rw[AZ J J,show(i:Int) * 4=((4 * i+0:Nat):Int) by omega];refine CG (λj=>(t,o,(i:Int),bI<|(B8 j).map λm=>(L t).getD (4 * i+m) 0,((4 * i+j:Nat):Int),())) 4 ?_ ?_
 .intro j hj;unfold gM;simp only;rw[AZ (n:=(i:Int)+1) J J,AZ (n:=((i:Int)+1) * 4) J J];rw[A5<|AU J,AZ (n:=((4 * i+j:Nat):Int)+1) J J];rw[IK,Ec];by_cases h:4 * i+j<t.size
  .rw[A5<|AU J,A5<|AR h,A5<|BD y8,K0];simp only[Ec,DU,Jc];rfl
  .rw[A9 y8,A5<|BD y8];have:(L t).getD (4 * i+j) 0=0:=by
    rw[BA,Ht (by rw[Az];omega)];rfl
   simp only[Ec,DU,Jc,this];rfl
 .unfold gM;simp only;rw[AZ (n:=(i:Int)+1) J J,AZ (n:=((i:Int)+1) * 4) J J];rw[A9 y8];rfl
def aob(t:A1):iQ (t,())=I ((DM t,()),()):=by
 unfold iQ DM;obtain e|e:=tf (inB t.size 1 24)
 .have h1:=Aa.1 e;rw[A9 y8,A5 e];have h:tp (t,[],0,())=I (.inr ((B8<|(t.size+3) / 4).map λi=>B<|G8 (L t) i,())):=by
   refine CG (λi=>(t,(B8 i).map λi=>B<|G8 (L t) i,(i:Int),())) ((t.size+3) / 4) ?_ ?_
   .intro i hi;unfold gN;simp only[gB (n:=(t.size:Int)) J J,A6];rw[HQ J,A5<|AU J,asN t _ i J];simp only[AN,A6];rw[A5<|BD y8,TV,AZ J J,IK,Ec];rfl
   .unfold gN;simp only[gB (n:=(t.size:Int)) J J,A6];rw[HQ J,A9 aIg]
  rw[h];rfl
 .rw[A5,A9 (by rw[e];exact CW)];by_cases h:(1:Int)<=t.size/\(t.size:Int)<=24
  .rw[Aa.2 h]at e;cases e
  .simp;omega
abbrev bsA(l:List A1)(k:Nat):A1:=l.getD k noB
def Ow(l:List A1)(k:Nat): @rd A1 aIr l (k:Int)=bsA l k:=rfl
def Of(pre:List Nat)(k:Nat)(post:List Nat): @rd Int aIk (BX<|pre++k::post) (j8 pre:Int)=(k:Int):=by
 rw[Ov,BX,Ec,DU,BA,FU aIg];simp
def snoc{α:Type}(pre:List α)(k:α)(post:List α):pre++k::post=(pre++[k])++post:=by simp
def Dd{n m:Nat}(h:n<m)(hm:m<=1048576):w64 ((n:Int)+1)=((n+1:Nat):Int):=B2 h J
section
variable {bs:List A1} (hbs:∀k,k<bs.length->(bsA bs k).size=4)
include hbs
def atU(post:List Nat):∀(pre:List Nat) (y:A1),pre≠[]->y.size=4->(pre++post).length<=1048576->(∀k∈post,k<bs.length)->
  VL (bs,y,BX<|pre++post,((BX<|pre++post).length:Int),(j8 pre:Int),())=I (.inr (B<|post.foldl (λx k=>C7 x<|L<|bsA bs k)<|L y,())):=by
 induction post with
 | nil=>
  intro pre y _ _ _ _;refine BF ?_;unfold WH;simp only[CP,Da,show U ((j8 pre:Int)<(j8 pre:Int))=A0 from BG J,A4,KK,B_L]
 | cons k post ih=>
  intro pre y hp hy hl hk;have h1:=hk k Ao;have hne:pre.length≠0:=λh=>hp<|Dz h;have hlen:pre.length<(BX<|pre++k::post).length:=by simp
  refine As (x':=(bs,B<|C7 (L y)<|L<|bsA bs k,BX<|pre++k::post,((BX<|pre++k::post).length:Int),((pre++[k]).length:Int),())) ?_ ?_
  .unfold WH;simp only[show U ((j8 pre:Int)<((BX<|pre++k::post).length:Int))=Y from AU J,A2,AR hlen,Of,show U ((j8 pre:Int)=0)=A0 from BG J,A4,AR h1,Ow,aCi hy<|hbs k h1,A6];rw[Dd hlen<|by simpa using hl,Aw];rfl
  .have:=ih (pre++[k]) (B<|C7 (L y)<|L<|bsA bs k) aIg (by rw[BQ,QU<|by rw[Az,Az,hy,hbs k h1],Az,hy]) (by rw[← snoc];exact hl) λx hx=>hk x<|Aj k hx;rw[← snoc]at this;exact this
def ast(post:List Nat):∀(pre:List Nat) (y:A1),y.size=4->(pre++post).length<=1048576->(∀k∈post,k<bs.length)->
  dL (bs,BX<|pre++post,y,(j8 pre:Int),())=I (.inr (B<|post.foldl (λx k=>C7 x<|L<|bsA bs k)<|L y,())):=by
 induction post with
 | nil=>
  intro pre y _ _ _;refine BF ?_;unfold fc;simp only[CP,Da,show U ((j8 pre:Int)<(j8 pre:Int))=A0 from BG J,A4,KK,B_L]
 | cons k post ih=>
  intro pre y hy hl hk;have h1:=hk k Ao;have hlen:pre.length<(BX<|pre++k::post).length:=by simp
  refine As (x':=(bs,BX<|pre++k::post,B<|C7 (L y)<|L<|bsA bs k,((pre++[k]).length:Int),())) ?_ ?_
  .unfold fc;simp only[show U ((j8 pre:Int)<((BX<|pre++k::post).length:Int))=Y from AU J,A2,AR hlen,Of,AR h1,Ow,aCQ hy<|hbs k h1,A6];rw[Dd hlen<|by simpa using hl,Aw];rfl
  .have:=ih (pre++[k]) (B<|C7 (L y)<|L<|bsA bs k) (by rw[BQ,QU<|by rw[Az,Az,hy,hbs k h1],Az,hy]) (by rw[← snoc];exact hl) λx hx=>hk x<|Aj k hx;rw[← snoc]at this;exact this
end
def ZL{t:A1}{k:Nat}(h:k<(DM t).length):bsA (DM t) k=B (G8 (L t) k):=by
 unfold DM at h ⊢;split
 .rename_i e;rw[A5 e]at h;simp at h;rw[bsA,BA,DD,Gu h];rfl
 .rename_i e;rw[A9 e]at h;cases h
def GN(t:A1)(n:Int):A1:=
 if(Bi (DM t).length n).isEmpty then noB else B (Dv 4 (G8<|L t)<|Bi (DM t).length n)
def aGj{t:A1}{n:Int}{y:List UInt8}{ks:List Nat}(hy:y.length=4)(hk:∀k∈ks,k<(DM t).length):
  ks.foldl (λx k=>C7 x<|L<|bsA (DM t) k) y=C7 y (Dv 4 (G8<|L t) ks):=by
 rw[← oX hy];have:∀(ks:List Nat) (y:List UInt8),(∀k∈ks,k<(DM t).length)->ks.foldl (λx k=>C7 x<|L<|bsA (DM t) k) y=ks.foldl (λx k=>C7 x<|G8 (L t) k) y:=by
  intro ks
  induction ks with
  | nil=>intro _ _;rfl
  | cons k ks ih=>
   intro y h;rw[Dy,Dy,ZL (h k Ao),ih _ λx hx=>h x<|Aj k hx];rfl
 exact this ks y hk
def ZX{t:A1}:∀k,k<(DM t).length->(bsA (DM t) k).size=4:=by
 intro k h;rw[ZL h,BQ,Od]
def aoD(t:A1)(n:Int):iC (t,n,())=I ((GN t n,()),()):=by
 unfold iC GN;simp only[aBa,kI,A6];have hk:∀k∈Bi (DM t).length n,k<(DM t).length:=λk h=>by
  have:=Lk h;omega
 have hl:=Xs (DM t).length n;revert hk hl;generalize Bi (DM t).length n=ks;intro hk hl;cases ks with
 | nil=>
  rw[show VL (DM t,noB,BX [],((BX []).length:Int),0,())=I (.inr (noB,())) from BF rfl];rfl
 | cons k ks=>
  have h1:=hk k Ao;rw[A9 aIg];have hlen:0<(BX<|k::ks).length:=by simp
  have hrd: @rd Int aIk (BX<|k::ks) 0=(k:Int):=Of [] k ks;have h:VL (DM t,noB,BX<|k::ks,((BX<|k::ks).length:Int),0,())=I (.inr (B<|Dv 4 (G8<|L t)<|k::ks,())):=by
   refine As (x':=(DM t,bsA (DM t) k,BX<|[k]++ks,((BX<|[k]++ks).length:Int),(([k]:List Nat).length:Int),())) ?_ ?_
   .unfold WH;simp only[show U ((0:Int)<((BX<|k::ks).length:Int))=Y from AU J,A2,AR (i:=0) hlen,show inb 0 (BX<|k::ks).length=Y from AR (i:=0) hlen,hrd,show U ((0:Int)=0)=Y from rfl,AR h1,Ow];rfl
   .have:=atU ZX ks [k] (bsA (DM t) k) aIg (ZX k h1) (by simpa using (by simp at hl;omega:ks.length+1<=1048576)) λx hx=>hk x<|Aj k hx;rw[aGj (n:=n) (by rw[Az];exact ZX k h1) λx hx=>hk x<|Aj k hx,ZL h1]at this;rw[ZL h1];exact this
  rw[h];rfl
def alB(t:A1)(n:Int):gL (t,n,())=I ((GN t n,()),()):=by
 unfold gL GN;simp only[aob,aCS,A6];have hk:∀k∈Bi (DM t).length n,k<(DM t).length:=λk h=>by
  have:=Lk h;omega
 have hl:=Xs (DM t).length n;revert hk hl;generalize Bi (DM t).length n=ks;intro hk hl;cases ks with
 | nil=>rw[A5 aIg,A5 aIg]
 | cons k ks=>
  have h1:=hk k Ao;have hc:(DM t).length≠0:=J
  rw[A9 (by simp;exact⟨λh=>hc (by rw[h];rfl),J⟩),A9 aIg,aoX];simp only[A6];have:=ast (bs:=DM t) ZX (k::ks) [] (B<|nul 4) (by rfl) (by simpa using (by simp at hl;omega:ks.length+1<=1048576)) hk;rw[aGj (n:=n) (by rfl) hk]at this;rw[show dL (DM t,BX<|k::ks,B<|nul 4,0,())=_ from this];simp only[AN,A6];rw[L_B,Yj<|QO λx _=>Od _ x]
end Go.VS
namespace Go.VS
open Go
def unk(kn:List A1)(k:Nat):Bool:=U<|bsA kn k=noB
def DL(kn:List A1)(of:List Nat):List Nat:=of.filter<|unk kn
def EU(kn:List A1)(of:List Nat)(y:List UInt8):List UInt8:=of.foldl (λx k=>if unk kn k then x else C7 x (L<|bsA kn k)) y
def Ca(b:Nat)(kn:List A1):Prop:=kn.length=b/\ ∀k,k<b->bsA kn k=noB\/(bsA kn k).size=4
def mG{b:Nat}{kn:List A1}(h:Ca b kn):∀ {of:List Nat} {y:List UInt8},y.length=4->(∀k∈of,k<b)->(EU kn of y).length=4
 | [],_,hy,_=>hy
 | k::of,y,hy,hk=>by
  unfold EU;rw[Dy];refine mG (of:=of) h ?_ λx hx=>hk x<|Aj k hx;obtain e|e:=tf (unk kn k)
  .rw[e];exact hy
  .rw[e,A4];obtain h1|h1:=h.2 k (hk k Ao)
   .unfold unk at e;exact absurd h1 (KD e)
   .rw[QU<|by rw[hy,Az,h1],hy]
def aba(d:Int)(l:List Nat):Int:=l.foldl (fun(_:Int) (k:Nat)=>(k:Int)) d
section
variable {b:Nat} {kn:List A1} (hkn:Ca b kn)
include hkn
def atV(bi:Int)(list l2:List AQ)(ag:Bool)(n i:Int)(post:List Nat):∀(pre:List Nat) (y:A1) (u:Int) (m:Nat),y.size=4->(pre++post).length<=1048576->m<=pre.length->(∀k∈post,k<b)->
  dX (bi,list,kn,ag,y,u,(m:Int),l2,n,i,BX<|pre++post,((BX<|pre++post).length:Int),(j8 pre:Int),())=
   I (.inr (bi,list,kn,ag,B<|EU kn post<|L y,aba u<|DL kn post,((m+(DL kn post).length:Nat):Int),l2,n,i,())):=by
 induction post with
 | nil=>
  intro pre y u m _ _ _ _;refine BF ?_;unfold WE;simp only[CP,Da,show U ((j8 pre:Int)<(j8 pre:Int))=A0 from BG J,A4];show _=I (Sum.inr<|Sum.inr (bi,list,kn,ag,B<|L y,u,(m:Int),l2,n,i,()));rw[B_L]
 | cons k post ih=>
  intro pre y u m hy hl hm hk;have h1:=hk k Ao;have hlen:pre.length<(BX<|pre++k::post).length:=by simp
  have hb:k<kn.length:=by rw[hkn.1];exact h1
  have hl2:(pre++[k]++post).length<=1048576:=by rw[← snoc];exact hl
  obtain e|e:=tf (unk kn k)
  .refine As (x':=(bi,list,kn,ag,y,(k:Int),((m+1:Nat):Int),l2,n,i,BX<|pre++k::post,((BX<|pre++k::post).length:Int),((pre++[k]).length:Int),())) ?_ ?_
   .unfold WE;simp only[show U ((j8 pre:Int)<((BX<|pre++k::post).length:Int))=Y from AU J,A2,AR hlen,Of,AR hb,Ow];rw[A5<|show U (bsA kn k=noB)=Y from e,Dd hlen<|by simpa using hl,Aw,AZ (n:=(m:Int)+1) J (by simp at hl;omega)];rfl
   .have:=ih (pre++[k]) y (k:Int) (m+1) hy hl2 y8 λx hx=>hk x<|Aj k hx;rw[← snoc]at this;rw[show DL kn (k::post)=k::DL kn post by unfold DL;rw[KG,e,A5 rfl]];rw[show EU kn (k::post) (L y)=EU kn post (L y) by unfold EU;rw[Dy,e,A5 rfl]];rw[Bf,show m+((DL kn post).length+1)=m+1+(DL kn post).length by omega];exact this
  .have hs:(bsA kn k).size=4:=by
    obtain h2|h2:=hkn.2 k h1
    .exact absurd h2 (KD e)
    .exact h2
   refine As (x':=(bi,list,kn,ag,B<|C7 (L y)<|L<|bsA kn k,u,(m:Int),l2,n,i,BX<|pre++k::post,((BX<|pre++k::post).length:Int),((pre++[k]).length:Int),())) ?_ ?_
   .unfold WE;simp only[show U ((j8 pre:Int)<((BX<|pre++k::post).length:Int))=Y from AU J,A2,AR hlen,Of,AR hb,Ow];rw[A9 (by intro h;unfold unk at e;rw[h]at e;cases e),aCi hy hs,Dd hlen (by simpa using hl),Aw];rfl
   .have:=ih (pre++[k]) (B<|C7 (L y)<|L<|bsA kn k) u m (by rw[BQ,QU<|by rw[Az,Az,hy,hs],Az,hy]) hl2 y8 λx hx=>hk x<|Aj k hx;rw[← snoc]at this;rw[show DL kn (k::post)=DL kn post by unfold DL;rw[KG,e,A4]];rw[show EU kn (k::post) (L y)=EU kn post (C7 (L y)<|L<|bsA kn k) by unfold EU;rw[Dy,e,A4]];exact this
def asu(post:List Nat):∀(pre:List Nat) (y:A1) (o:List Nat),y.size=4->(pre++post).length<=1048576->o.length<=pre.length->(∀k∈post,k<b)->
  dd (kn,BX o,y,BX<|pre++post,(j8 pre:Int),())=I (.inr (BX<|o++DL kn post,B<|EU kn post<|L y,())):=by
 induction post with
 | nil=>
  intro pre y o _ _ _ _;refine BF ?_;unfold WZ;simp only[CP,Da,show U ((j8 pre:Int)<(j8 pre:Int))=A0 from BG J,A4];show _=I (Sum.inr<|Sum.inr (BX<|o++[],B<|L y,()));rw[B_L,CP]
 | cons k post ih=>
  intro pre y o hy hl hm hk;have h1:=hk k Ao;have hlen:pre.length<(BX<|pre++k::post).length:=by simp
  have hb:k<kn.length:=by rw[hkn.1];exact h1
  have hl2:(pre++[k]++post).length<=1048576:=by rw[← snoc];exact hl
  obtain e|e:=tf (unk kn k)
  .refine As (x':=(kn,BX<|o++[k],y,BX<|pre++k::post,((pre++[k]).length:Int),())) ?_ ?_
   .unfold WZ;simp only[show U ((j8 pre:Int)<((BX<|pre++k::post).length:Int))=Y from AU J,A2,AR hlen,Of,AR hb,Ow];rw[A5<|show U (bsA kn k=noB)=Y from e,A5<|BD (by simp;simp at hl;omega),Dd hlen<|by simpa using hl,Aw];simp[BX]
   .have:=ih (pre++[k]) y (o++[k]) hy hl2 y8 λx hx=>hk x<|Aj k hx;rw[← snoc]at this;rw[show DL kn (k::post)=k::DL kn post by unfold DL;rw[KG,e,A5 rfl]];rw[show EU kn (k::post) (L y)=EU kn post (L y) by unfold EU;rw[Dy,e,A5 rfl]];rw[snoc o k<|DL kn post];exact this
  .have hs:(bsA kn k).size=4:=by
    obtain h2|h2:=hkn.2 k h1
    .exact absurd h2 (KD e)
    .exact h2
   refine As (x':=(kn,BX o,B<|C7 (L y)<|L<|bsA kn k,BX<|pre++k::post,((pre++[k]).length:Int),())) ?_ ?_
   .unfold WZ;simp only[show U ((j8 pre:Int)<((BX<|pre++k::post).length:Int))=Y from AU J,A2,AR hlen,Of,AR hb,Ow];rw[A9 (by intro h;unfold unk at e;rw[h]at e;cases e),aCQ hy hs,Dd hlen (by simpa using hl),Aw];rfl
   .have:=ih (pre++[k]) (B<|C7 (L y)<|L<|bsA kn k) o (by rw[BQ,QU<|by rw[Az,Az,hy,hs],Az,hy]) hl2 y8 λx hx=>hk x<|Aj k hx;rw[← snoc]at this;rw[show DL kn (k::post)=DL kn post by unfold DL;rw[KG,e,A4]];rw[show EU kn (k::post) (L y)=EU kn post (C7 (L y)<|L<|bsA kn k) by unfold EU;rw[Dy,e,A4]];exact this
end
def FD(b:Nat)(kn:List A1)(m:AQ):Option (List A1):=
 if inB m.nu 0 999&&U ((m.da.size:Int)=4) then
  (match DL kn (Bi (b:Int) m.nu) with
   | [u]=>I (kn.set u<|B<|EU kn (Bi (b:Int) m.nu)<|L m.da)
   | _=>G)
 else G
def CL(b:Nat)(s:List A1×Bool)(m:AQ):List A1×Bool:=match FD b s.1 m with|some kn=>(kn,Y)|none=>s
def Im(b:Nat)(list:List AQ)(kn:List A1):List A1×Bool:=list.foldl (CL b) (kn,A0)
def Gl(b:Nat)(list:List AQ):Nat->List A1->List A1
 | 0,kn=>kn
 | n+1,kn=>if(Im b list kn).2 then Gl b list n (Im b list kn).1 else(Im b list kn).1
def Th{kn:List A1}{u:Nat}(v:A1)(hu:u<kn.length)(k:Nat):bsA (kn.set u v) k=if k=u then v else bsA kn k:=by
 rw[bsA,BA,P4];by_cases h:u=k
 .subst h;simp[hu]
 .rw[A9 h,A9<|LD h,← BA]
def ab2{f g:Nat->Bool}(h:∀i,g i=Y->f i=Y):∀k,cnt g k<=cnt f k
 | 0=>Au _
 | k+1=>by
  have:=ab2 h k;rw[cnt,cnt];obtain e|e:=tf (g k)
  .rw[e,h k e];omega
  .rw[e,A4];omega
def ab1{f g:Nat->Bool}(h:∀i,g i=Y->f i=Y){u:Nat}(hf:f u=Y)(hg:g u=A0):∀k,u<k->cnt g k<cnt f k
 | 0,h=>J
 | k+1,hk=>by
  rw[cnt,cnt];by_cases e:u=k
  .subst e;rw[hf,hg,A5 rfl,A4];have:=ab2 h u;omega
  .have:=ab1 h hf hg k J;obtain e|e:=tf (g k)
   .rw[e,h k e];omega
   .rw[e,A4];omega
def Tc{b:Nat}{kn kn':List A1}{m:AQ}(h:Ca b kn)(e:FD b kn m=I kn'):
  Ca b kn'/\(∀k,unk kn' k=Y->unk kn k=Y)/\cnt (unk kn') b<cnt (unk kn) b:=by
 unfold FD at e;split at e
 .rename_i hc;rw[AD]at hc;have hs:=BZ hc.2;split at e
  .rename_i u hu;injection e with e;subst e;have Fa:u∈DL kn (Bi (b:Int) m.nu):=by rw[hu];exact P9 u
   obtain⟨h1,h2⟩:=FH.1 Fa;have h3:=Lk h1;have hub:u<b:=J
   have hul:u<kn.length:=by rw[h.1];exact hub
   have hlen:(B<|EU kn (Bi (b:Int) m.nu)<|L m.da).size=4:=by
    rw[BQ,mG h (by rw[Az];omega) λk hk=>by have:=Lk hk;omega]
   have hno:B (EU kn (Bi (b:Int) m.nu)<|L m.da)≠noB:=by
    intro hh;rw[hh]at hlen;cases hlen
   have ac0:∀k,unk (kn.set u<|B<|EU kn (Bi (b:Int) m.nu)<|L m.da) k=Y->unk kn k=Y:=by
    intro k hk;unfold unk at hk;rw[Th _ hul]at hk;by_cases ek:k=u
    .rw[A5 ek]at hk;exact absurd (BZ hk) hno
    .rw[A9 ek]at hk;exact hk
   refine⟨⟨by rw[Ga,h.1], ?_⟩,ac0,ab1 ac0 h2 ?_ b hub⟩
   .intro k hk;rw[Th _ hul];by_cases ek:k=u
    .rw[A5 ek];exact NQ hlen
    .rw[A9 ek];exact h.2 k hk
   .unfold unk;rw[Th _ hul,A5 rfl];exact BG hno
  .cases e
 .cases e
def Ms{b:Nat}:∀(list:List AQ) (s:List A1×Bool),Ca b s.1->
  Ca b (list.foldl (CL b) s).1/\(∀k,unk (list.foldl (CL b) s).1 k=Y->unk s.1 k=Y)/\cnt (unk (list.foldl (CL b) s).1) b<=cnt (unk s.1) b/\
  ((list.foldl (CL b) s).2=Y->s.2=Y\/cnt (unk (list.foldl (CL b) s).1) b<cnt (unk s.1) b)
 | [],s,h=>⟨h,λ_ hk=>hk,Au _,λhs=>NO hs⟩
 | m::list,s,h=>by
  rw[Dy];cases e:FD b s.1 m with
  | none=>
   rw[show CL b s m=s by unfold CL;rw[e]];exact Ms list s h
  | some kn=>
   rw[show CL b s m=(kn,Y) by unfold CL;rw[e]];obtain⟨a1,a2,a3⟩:=Tc h e;obtain⟨b1,b2,b3,_⟩:=Ms list (kn,Y) a1;have b4:cnt (unk (list.foldl (CL b) (kn,Y)).1) b<=cnt (unk kn) b:=b3;exact⟨b1,λk hk=>a2 k<|b2 k hk,J,λ_=>NQ J⟩
end Go.VS
namespace Go.VS
open Go
def MC(pre:List AQ)(m:AQ)(post:List AQ): @rd AQ aIt (pre++m::post) (j8 pre:Int)=m:=by
 rw[Ov,BA,FU<|Au _];simp
def atL(u:Nat):aba (-1) [u]=(u:Int):=rfl
def aDU{b:Nat}{kn kn':List A1}{m:AQ}(ag:Bool)(h:FD b kn m=I kn'):CL b (kn,ag) m=(kn',Y):=by unfold CL;rw[h]
def Sy{b:Nat}{kn:List A1}{m:AQ}(ag:Bool)(h:FD b kn m=G):CL b (kn,ag) m=(kn,ag):=by unfold CL;rw[h]
def aGm{b:Nat}{kn:List A1}{n:Int}{u:Nat}(h:DL kn (Bi (b:Int) n)=[u]):u<b:=by
 have:u∈DL kn (Bi (b:Int) n):=by rw[h];exact P9 u
 have:=Lk (FH.1 this).1;omega
def arl{b:Nat}(h6:b<=6)(list:List AQ)(post:List AQ):∀(pre:List AQ) (kn:List A1) (ag:Bool),Ca b kn->(pre++post).length<=1048576->
  VY ((b:Int),list,kn,ag,pre++post,((pre++post).length:Int),(j8 pre:Int),())=
   I (.inr ((b:Int),list,(post.foldl (CL b) (kn,ag)).1,(post.foldl (CL b) (kn,ag)).2,())):=by
 induction post with
 | nil=>
  intro pre kn ag _ _;refine BF ?_;unfold O0;simp only[CP,show U ((j8 pre:Int)<(j8 pre:Int))=A0 from BG J,A4];rfl
 | cons m post ih=>
  intro pre kn ag hk hl;have hlen:pre.length<(pre++m::post).length:=by simp
  have hw:=Dd hlen hl;have nxt:∀(kn':List A1) (ag':Bool),Ca b kn'->CL b (kn,ag) m=(kn',ag')->
    O0 ((b:Int),list,kn,ag,pre++m::post,((pre++m::post).length:Int),(j8 pre:Int),())=I (.inl ((b:Int),list,kn',ag',pre++m::post,((pre++m::post).length:Int),((pre.length+1:Nat):Int),()))->
    VY ((b:Int),list,kn,ag,pre++m::post,((pre++m::post).length:Int),(j8 pre:Int),())=
     I (.inr ((b:Int),list,((m::post).foldl (CL b) (kn,ag)).1,((m::post).foldl (CL b) (kn,ag)).2,())):=by
   intro kn' ag' h1 h2 h3;refine As h3 ?_;have:=ih (pre++[m]) kn' ag' h1 (by rw[← snoc];exact hl);rw[← snoc,@Aw _ pre [m]]at this;rw[Dy,h2];exact this
  obtain e1|e1:=tf (inB m.nu 0 999)
  .by_cases e2:(m.da.size:Int)=4
   .have hh:FD b kn m=(match DL kn (Bi (b:Int) m.nu) with|[u]=>I (kn.set u<|B<|EU kn (Bi (b:Int) m.nu)<|L m.da)|_=>G):=by
     unfold FD;rw[A5<|by rw[e1,AU e2]<;>rfl]<;>rfl
    have hlo:(Bi (b:Int) m.nu).length<=1048576:=CZ (Xs _ _) J;have hi:=atV hk (b:Int) list (pre++m::post) ag ((pre++m::post).length:Int) (j8 pre:Int) (Bi (b:Int) m.nu) [] m.da (-1) 0 J hlo (Au _) λk h=>by have:=Lk h;omega
    have hi2:dX ((b:Int),list,kn,ag,m.da,-1,0,pre++m::post,((pre++m::post).length:Int),(j8 pre:Int),BX<|Bi (b:Int) m.nu,((BX<|Bi (b:Int) m.nu).length:Int),0,())=_:=hi;by_cases e3:(DL kn<|Bi (b:Int) m.nu).length=1
    .obtain⟨u,hu⟩:=aEI.1 e3;rw[hu]at hh;have hub:=aGm hu;refine nxt _ Y (Tc hk hh).1 (aDU ag hh) ?_;unfold O0;simp only[show U ((j8 pre:Int)<((pre++m::post).length:Int))=Y from AU J,A2,AR hlen,MC,EO,A6,e1,e2,AB,AW,Ed,A4,kI,hi2,hu];simp only[AN,A6,atL,AR (show u<kn.length by rw[hk.1];exact hub),A2,BV,hw];rfl
    .have hn:FD b kn m=G:=by
      rw[hh];split
      .rename_i u hu;rw[hu]at e3;exact absurd rfl e3
      .rfl
     refine nxt kn ag hk (Sy ag hn) ?_;unfold O0;simp only[show U ((j8 pre:Int)<((pre++m::post).length:Int))=Y from AU J,A2,AR hlen,MC,EO,A6,e1,e2,AB,AW,Ed,A4,kI,hi2];simp only[AN,A6,DN,show U (((DL kn<|Bi (b:Int) m.nu).length:Int)=1)=A0 from BG J,A4,hw]
   .have hn:FD b kn m=G:=by
     unfold FD;rw[A9 (by rw[BG e2,Ba];exact CW)]
    refine nxt kn ag hk (Sy ag hn) ?_;unfold O0;simp only[show U ((j8 pre:Int)<((pre++m::post).length:Int))=Y from AU J,A2,AR hlen,MC,EO,A6,BG e2,AH,DS,hw]
  .have hn:FD b kn m=G:=by
    unfold FD;rw[A9 (by rw[e1,AL];exact CW)]
   refine nxt kn ag hk (Sy ag hn) ?_;unfold O0;simp only[show U ((j8 pre:Int)<((pre++m::post).length:Int))=Y from AU J,A2,AR hlen,MC,EO,A6,e1,AH,Bs,hw]
def pQ{b:Nat}(h0:0<b)(h6:b<=6)(n:Int):Du (b:Int) n=inB n 0 999:=by
 unfold Du;rw[Aa.2 J,AS]
def aoY{b:Nat}{kn:List A1}(hk:Ca b kn)(n:Int){d:A1}(hd:d.size=4):
  iJ ((b:Int),(n,d,()),kn,())=I ((BX<|DL kn<|Bi (b:Int) n,B<|EU kn (Bi (b:Int) n)<|L d,()),()):=by
 unfold iJ;simp only[aCS,A6];have hlo:(Bi (b:Int) n).length<=1048576:=CZ (Xs _ _) J;have hi:=asu hk (Bi (b:Int) n) [] d [] hd hlo (Au _) λk h=>by have:=Lk h;omega
 have hi2:dd (kn,[],d,BX<|Bi (b:Int) n,0,())=_:=hi;rw[hi2];rfl
def ik(b n:Int)(d:A1):SR (b,(n,d,()),())=I ((Du b n&&U ((d.size:Int)=4),()),()):=by
 unfold SR;simp only[Xd,A6]
def ar8{b:Nat}(h0:0<b)(h6:b<=6)(post:List AQ):∀(pre:List AQ) (kn:List A1) (ag:Bool),Ca b kn->(pre++post).length<=1048576->
  VR ((b:Int),pre++post,kn,ag,(j8 pre:Int),())=
   I (.inr ((b:Int),pre++post,(post.foldl (CL b) (kn,ag)).1,(post.foldl (CL b) (kn,ag)).2,())):=by
 induction post with
 | nil=>
  intro pre kn ag _ _;refine BF ?_;unfold Pw;simp only[CP,show U ((j8 pre:Int)<(j8 pre:Int))=A0 from BG J,A4];rfl
 | cons m post ih=>
  intro pre kn ag hk hl;have hlen:pre.length<(pre++m::post).length:=by simp
  have hw:=Dd hlen hl;have nxt:∀(kn':List A1) (ag':Bool),Ca b kn'->CL b (kn,ag) m=(kn',ag')->
    Pw ((b:Int),pre++m::post,kn,ag,(j8 pre:Int),())=I (.inl ((b:Int),pre++m::post,kn',ag',((pre.length+1:Nat):Int),()))->
    VR ((b:Int),pre++m::post,kn,ag,(j8 pre:Int),())=
     I (.inr ((b:Int),pre++m::post,((m::post).foldl (CL b) (kn,ag)).1,((m::post).foldl (CL b) (kn,ag)).2,())):=by
   intro kn' ag' h1 h2 h3;refine As h3 ?_;have:=ih (pre++[m]) kn' ag' h1 (by rw[← snoc];exact hl);rw[← snoc,@Aw _ pre [m]]at this;rw[Dy,h2];exact this
  obtain e|e:=tf (inB m.nu 0 999&&U ((m.da.size:Int)=4))
  .have e':=e;rw[AD]at e';have e2:=BZ e'.2;have hh:FD b kn m=(match DL kn (Bi (b:Int) m.nu) with|[u]=>I (kn.set u<|B<|EU kn (Bi (b:Int) m.nu)<|L m.da)|_=>G):=by
    unfold FD;rw[A5 e]<;>rfl
   have hL:=aoY hk m.nu (d:=m.da) J;by_cases e3:(DL kn<|Bi (b:Int) m.nu).length=1
   .obtain⟨u,hu⟩:=aEI.1 e3;rw[hu]at hh;have hub:=aGm hu;refine nxt _ Y (Tc hk hh).1 (aDU ag hh) ?_;unfold Pw;simp only[show U ((j8 pre:Int)<((pre++m::post).length:Int))=Y from AU J,A2,AR hlen,MC,ik,pQ h0 h6,A6,e,AB,A4,hL,hu];rw[A5<|by rfl,A5<|by rfl,show @rd Int aIk (BX [u]) 0=(u:Int) from rfl,A5<|AR (show u<kn.length by rw[hk.1];exact hub),hw];rfl
   .have hn:FD b kn m=G:=by
     rw[hh];split
     .rename_i u hu;rw[hu]at e3;exact absurd rfl e3
     .rfl
    refine nxt kn ag hk (Sy ag hn) ?_;unfold Pw;simp only[show U ((j8 pre:Int)<((pre++m::post).length:Int))=Y from AU J,A2,AR hlen,MC,ik,pQ h0 h6,A6,e,AB,A4,hL,Da,
     show U (((DL kn<|Bi (b:Int) m.nu).length:Int)=1)=A0 from BG J,hw]
  .have hn:FD b kn m=G:=by
    unfold FD;rw[A9 (by rw[e];exact CW)]
   refine nxt kn ag hk (Sy ag hn) ?_;unfold Pw;simp only[show U ((j8 pre:Int)<((pre++m::post).length:Int))=Y from AU J,A2,AR hlen,MC,ik,pQ h0 h6,A6,e,AH,hw]
def aFu{b:Nat}(h6:b<=6)(list:List AQ)(hl:list.length<=1048576):∀(n:Nat) (kn:List A1),Ca b kn->cnt (unk kn) b<n->
  tW ((b:Int),list,kn,Y,())=I (.inr (Gl b list n kn,()))
 | 0,_,_,h=>J
 | n+1,kn,hk,h=>by
  have hr:=arl h6 list list [] kn A0 hk hl;have hr2:VY ((b:Int),list,kn,A0,list,(list.length:Int),0,())=I (.inr ((b:Int),list,(Im b list kn).1,(Im b list kn).2,())):=hr;obtain⟨g1,g2,g3,g4⟩:=Ms list (kn,A0) hk;refine As (x':=((b:Int),list,(Im b list kn).1,(Im b list kn).2,())) ?_ ?_
  .unfold vX;simp only[A2,hr2];rfl
  .rw[Gl];obtain e|e:=tf (Im b list kn).2
   .rw[e,A5 rfl];obtain g|g:=g4 e
    .cases g
    .exact aFu h6 list hl n _ g1 (Gq g<|Nat.le_of_lt_succ h)
   .rw[e,A4];exact BF rfl
def aF7{b:Nat}(h0:0<b)(h6:b<=6)(list:List AQ)(hl:list.length<=1048576):∀(n:Nat) (kn:List A1),Ca b kn->cnt (unk kn) b<n->
  sn ((b:Int),list,kn,Y,())=I (.inr (Gl b list n kn,()))
 | 0,_,_,h=>J
 | n+1,kn,hk,h=>by
  have hr:=ar8 h0 h6 list [] kn A0 hk hl;have hr2:VR ((b:Int),list,kn,A0,0,())=I (.inr ((b:Int),list,(Im b list kn).1,(Im b list kn).2,())):=hr;obtain⟨g1,g2,g3,g4⟩:=Ms list (kn,A0) hk;refine As (x':=((b:Int),list,(Im b list kn).1,(Im b list kn).2,())) ?_ ?_
  .unfold vR;simp only[A2,hr2];rfl
  .rw[Gl];obtain e|e:=tf (Im b list kn).2
   .rw[e,A5 rfl];obtain g|g:=g4 e
    .cases g
    .exact aF7 h0 h6 list hl n _ g1 (Gq g<|Nat.le_of_lt_succ h)
   .rw[e,A4];exact BF rfl
def pU(f:Nat->Bool):∀k,cnt f k<=k
 | 0=>Au _
 | k+1=>by
  have:=pU f k;rw[cnt];split<;>omega
def Ca.new(b:Nat):Ca b (BS b noB):=by
 refine⟨by simp,λk hk=>NO ?_⟩;rw[bsA,BA,aA,A5 hk];rfl
def Hi(b:Int)(list:List AQ):List A1:=if inB b 1 6 then Gl b.toNat list 7 (BS b.toNat noB) else []
def aoC(b:Int)(list:List AQ)(hl:list.length<=1048576):gv (b,list,())=I ((Hi b list,()),()):=by
 unfold gv Hi;simp only[EO,A6];obtain e|e:=tf (inB b 1 6)
 .have h1:=Aa.1 e;simp only[e,AB,A4,A2];rw[A5 y8];have:=aFu (b:=b.toNat) J list hl 7 _ (Ca.new _) (by have:=pU (unk<|BS b.toNat noB) b.toNat;omega);rw[show((b.toNat:Nat):Int)=b by omega]at this;rw[show(dfl .str:A1)=noB from rfl,this];rfl
 .simp only[e,AH,A2,A4]
def alA(b:Int)(list:List AQ)(hl:list.length<=1048576):gK (b,list,())=I ((Hi b list,()),()):=by
 unfold gK Hi;simp only[I3,A6];obtain e|e:=tf (inB b 1 6)
 .have h1:=Aa.1 e;simp only[e,AB,A4,A2];rw[A5 y8];have:=aF7 (b:=b.toNat) J J list hl 7 _ (Ca.new _) (by have:=pU (unk<|BS b.toNat noB) b.toNat;omega);rw[show((b.toNat:Nat):Int)=b by omega]at this;rw[show(dfl .str:A1)=noB from rfl,this];rfl
 .simp only[e,AH,A2,A4]
end Go.VS
end
