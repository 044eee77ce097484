/- Part 8. -/
import Derived.Test.YtgjljlpdfceilaaGreatDoorQAQ
import Derived.Lib.ItoaMem
open BitVec renaming eq_of_toNat_eq->pR,ofInt->FT,toNat_ofInt->Rp
open Bool renaming and_eq_true->AD,and_false->Ba,and_self->Dn,and_true->Lh,eq_iff_iff->Ke,false->A0,false_and->AP,false_ne_true->CY,false_or->Bl,not_eq_true'->Bz,not_false->AH,not_true->AB,or_eq_false_iff->Mk,or_eq_true->Bp,or_false->En,or_self->Gk,or_true->DY,true->Y,true_and->AU,true_or->By
open ByteArray renaming data_extract->bO
open Classical renaming choose->Nt,choose_spec->J9
open Decidable renaming decide->U
open Eq renaming trans->Kb
open Go.IntKind renaming wrap->bT
open Go.Lib renaming cut->Fm,decDigits->pX,index_one->Ux,itoa->B7,itoa_neg->pe,splitB->JD,splitK->Gm
open Int renaming emod_eq_of_lt->pC,eq_ofNat_of_zero_le->HZ,le_refl->Cr,mul_comm->S5,tdiv->B2,tdiv_eq_ediv_of_nonneg->Gi,tmod->BM,tmod_eq_emod_of_nonneg->Lg,toNat->AO,toNat_natCast->BX
open List renaming all_eq_true->CZ,append_assoc->C7,append_cancel_left->aFK,append_nil->CU,concat_eq_append->aFH,cons_append->Lf,count_cons_self->aFP,drop->Bt,dropWhile_cons->pM,drop_append_of_le_length->Uj,drop_drop->J5,drop_eq_getElem_cons->Up,drop_eq_nil_of_le->Mq,drop_left'->Ro,drop_zero->J6,eq_nil_of_length_eq_zero->E5,eq_nil_or_concat->aFG,filter_append->Rl,filter_cons->KT,filter_nil->bJ,flatMap_append->pZ,foldlM_cons->Un,foldl_cons->E4,foldl_nil->KR,getD_eq_getElem?_getD->BA,getElem?_append_left->IT,getElem?_append_right->Fl,getElem?_drop->I2,getElem?_eq_getElem->Ar,getElem?_eq_none->Hz,getElem?_eq_some_iff->BN,getElem?_map->DI,getElem?_range->H6,getElem?_replicate->bM,getElem?_set->Pa,getElem_mem->CS,getElem_of_mem->Cv,length->Jl,length->j8,length_append->Ax,length_cons->Bf,length_drop->EQ,length_eq_one_iff->aFC,length_filter_le->J4,length_map->Df,length_nil->CL,length_set->Gh,length_take->DS,length_zipWith->pN,map_append->Em,map_congr_left->H8,map_cons->DZ,map_id->bR,map_map->IV,map_nil->Jm,mem_append->BL,mem_append_left->Bw,mem_cons->Bm,mem_cons_of_mem->Ak,mem_cons_self->As,mem_filter->FU,mem_map->C1,mem_of_getElem?->Cs,mem_of_mem_drop->Jr,mem_of_mem_take->Hb,mem_range->D4,mem_singleton->C8,mem_singleton_self->Ml,nil_append->El,range->B9,range_succ->IU,replicate->BT,replicate_succ->aFS,take->BQ,takeWhile_append_dropWhile->bB,takeWhile_cons->Rw,takeWhile_sublist->aFL,take_add_one->JC,take_append_drop->JA,take_left'->Pg,take_length->E6,take_of_length_le->KY,take_take->bF,zipWith_cons_cons->PX
open List.cons renaming injEq->Mt
open Nat renaming add_assoc->DG,add_comm->Nl,add_zero->I0,eq_zero_or_pos->Ui,le_refl->Aw,le_trans->Cc,lt_of_lt_of_le->H9,lt_or_ge->Gl,lt_trans->bU,lt_trichotomy->IX,mod_eq_of_lt->Pe,mod_lt->Pj,pow_succ->pd,sub_self->Pm,sub_zero->Js,zero_add->DR,zero_le->D5
open Ne renaming symm->Li
open Option renaming bind_eq_some_iff->Aj,bind_some->A6,filter_eq_some_iff->Jk,getD_some->Cy,isSome_some->D6,none->G,some->I
open Option.some renaming injEq->Bx
open Or renaming inl->Ny,inr->Nw
open Prod.mk renaming injEq->CV
open UInt8 renaming ofNat->Kh,toNat_inj->Rm
set_option linter.all false
noncomputable section
namespace Go.VS
open Go
section
variable {σ ρ β γ:Type} {b:σ->Option (σ ⊕ ρ)}
def BC{x:σ}{y:ρ}(h:b x=I (.inr y)):AS b x=I y:=aG0 (n:=1)<|by simp[Hv,h]
def Am{x x':σ}{y:ρ}(h:b x=I (.inl x'))(hy:AS b x'=I y):AS b x=I y:=by
 obtain⟨n,hn⟩:=aGZ hy;exact aG0 (n:=n+1)<|by simp[Hv,h,hn]
def CE(st:Nat->σ)(n:Nat){y:ρ}(h:∀i,i<n->b (st i)=I (.inl<|st<|i+1))(hn:b (st n)=I (.inr y)):AS b (st 0)=I y:=by
 have:∀k,k<=n->AS b (st<|n - k)=I y:=by
  intro k
  induction k with
  | zero=>intro _;exact BC hn
  | succ k ih=>
   intro hk;refine Am (h (n - (k+1)) J) ?_;rw[show n - (k+1)+1=n - k by omega];exact ih J
 have:=this n<|Aw _;rwa[Pm]at this
def axA(Inv:Nat->σ->Prop)(OK:ρ->Prop)(n:Nat)(sn:∀i s,i<n->Inv i s->(∃s',b s=I (.inl s')/\Inv (i+1) s')\/(∃r,b s=I (.inr r)/\OK r))
  (oQ:∀s,Inv n s->∃r,b s=I (.inr r)/\OK r){s0:σ}(h0:Inv 0 s0):∃r,AS b s0=I r/\OK r:=by
 have:∀k,k<=n->∀s,Inv (n - k) s->∃r,AS b s=I r/\OK r:=by
  intro k
  induction k with
  | zero=>
   intro _ s hs;obtain⟨r,h1,h2⟩:=oQ s hs;exact⟨r,BC h1,h2⟩
  | succ k ih=>
   intro hk s hs;obtain⟨s',h1,h2⟩|⟨r,h1,h2⟩:=sn _ s J hs
   .rw[show n - (k+1)+1=n - k by omega]at h2;obtain⟨r,h3,h4⟩:=ih J s' h2;exact⟨r,Am h1 h3,h4⟩
   .exact⟨r,BC h1,h2⟩
 exact this n (Aw _) s0<|by rwa[Pm]
end
def H5{β:Type}(q:Nat->Option β):Nat->Nat->Option β
 | 0,_=>G
 | k+1,i=>match q i with
  | some r=>I r
  | none=>H5 q k (i+1)
section
variable {σ β γ:Type} {b:σ->Option (σ ⊕ (β ⊕ γ))}
def aGa(st:Nat->σ)(n:Nat)(q:Nat->Option β)(fin:γ)
  (h:∀i,i<n->b (st i)=I (match q i with|none=> .inl (st<|i+1)|some r=> .inr<|.inl r))
  (hn:b (st n)=I (.inr<|.inr fin)):AS b (st 0)=I (match H5 q n 0 with|none=> .inr fin|some r=> .inl r):=by
 have:∀k,k<=n->AS b (st<|n - k)=I (match H5 q k (n - k) with|none=> .inr fin|some r=> .inl r):=by
  intro k
  induction k with
  | zero=>intro _;exact BC hn
  | succ k ih=>
   intro hk;have h1:=h (n - (k+1)) J;unfold H5;cases hq:q (n - (k+1)) with
   | some r=>rw[hq]at h1;exact BC h1
   | none=>
    rw[hq]at h1;refine Am h1 ?_;rw[show n - (k+1)+1=n - k by omega];exact ih J
 have:=this n<|Aw _;rwa[Pm]at this
def MN(p:Nat->Bool):Nat->Nat->Bool
 | 0,_=>Y
 | k+1,i=>p i&&MN p k (i+1)
def Ap(n:Nat)(p:Nat->Bool):Bool:=MN p n 0
def aI3{p:Nat->Bool}{r:β}:∀(k i:Nat),H5 (λi=>if p i then G else I r) k i=if MN p k i then G else I r
 | 0,_=>rfl
 | k+1,i=>by
  unfold H5 MN;cases hp:p i
  .simp
  .simpa using aI3 k<|i+1
def Cq(st:Nat->σ)(n:Nat)(p:Nat->Bool)(r:β)(fin:γ)
  (h:∀i,i<n->b (st i)=I (if p i then .inl (st<|i+1) else .inr (.inl r)))
  (hn:b (st n)=I (.inr<|.inr fin)):AS b (st 0)=I (if Ap n p then .inr fin else .inl r):=by
 rw[aGa st n (λi=>if p i then G else I r) fin (λi hi=>by rw[h i hi];cases p i<;>rfl) hn,aI3,Ap];cases MN p n 0<;>rfl
def GC(n:Nat)(p:Nat->Bool):Int:=(H5 (λi=>if p i then I (i:Int) else G) n 0).getD (-1)
def aI2{p:Nat->Bool}{f:Int->β}:∀(k i:Nat),H5 (λi=>if p i then I (f (i:Int)) else G) k i=(H5 (λi=>if p i then I (i:Int) else G) k i).map f
 | 0,_=>rfl
 | k+1,i=>by
  unfold H5;cases hp:p i
  .simpa using aI2 k (i+1)
  .simp
def nW{q:Nat->Option β}{r:β}:∀(k i:Nat),H5 q k i=I r->∃j,i<=j/\j<i+k/\q j=I r/\ ∀l,i<=l->l<j->q l=G
 | 0,_,h=>by cases h
 | k+1,i,h=>by
  unfold H5 at h;split at h
  .rename_i r' hr;cases h;exact⟨i,Aw _,J,hr,λl h1 h2=>by omega⟩
  .rename_i hr;obtain⟨j,h1,h2,h3,h4⟩:=nW k (i+1) h;exact⟨j,J,J,h3,λl h5 h6=>by
    obtain h7|h7:=Gl i l
    .exact h4 l h7 h6
    .rw[show l=i by omega];exact hr⟩
def aGr{q:Nat->Option β}:∀(k i:Nat),H5 q k i=G->∀l,i<=l->l<i+k->q l=G
 | 0,_,_,l,h1,h2=>J
 | k+1,i,h,l,h1,h2=>by
  unfold H5 at h;split at h
  .cases h
  .rename_i hr;obtain h7|h7:=Gl i l
   .exact aGr k (i+1) h l h7 J
   .rw[show l=i by omega];exact hr
def GP(n:Nat)(p:Nat->Bool):(GC n p= -1/\ ∀i,i<n->p i=A0)\/ ∃i:Nat,GC n p=i/\i<n/\p i=Y/\ ∀l,l<i->p l=A0:=by
 unfold GC;cases h:H5 (λi=>if p i then I (i:Int) else G) n 0 with
 | none=>
  refine .inl ⟨rfl,λi hi=> ?_⟩;have:=aGr n 0 h i (D5 _) J;cases hp:p i<;>simp[hp]at this ⊢
 | some r=>
  obtain⟨j,h1,h2,h3,h4⟩:=nW n 0 h;refine .inr ⟨j, ?_,J, ?_,λl hl=> ?_⟩
  .cases hp:p j<;>simp[hp]at h3;simp[h3]
  .cases hp:p j<;>simp[hp]at h3 ⊢
  .have:=h4 l (D5 _) hl;cases hp:p l<;>simp[hp]at this ⊢
def Qo(st:Nat->σ)(n:Nat)(p:Nat->Bool)(f:Int->β)(fin:γ)
  (h:∀i,i<n->b (st i)=I (if p i then .inr (.inl<|f (i:Int)) else .inl (st<|i+1)))
  (hn:b (st n)=I (.inr<|.inr fin)):AS b (st 0)=I (if GC n p<0 then .inr fin else .inl (f<|GC n p)):=by
 rw[aGa st n (λi=>if p i then I (f (i:Int)) else G) fin (λi hi=>by rw[h i hi];cases p i<;>rfl) hn,aI2];obtain⟨h1,_⟩|⟨i,h1,_⟩:=GP n p
 .rw[h1];unfold GC at h1;cases h2:H5 (λi=>if p i then I (i:Int) else G) n 0 with
  | none=>simp
  | some r=>
   obtain⟨j,_,_,h3,_⟩:=nW n 0 h2;cases hp:p j<;>simp[hp]at h3;rw[h2]at h1;simp at h1;omega
 .rw[h1];unfold GC at h1;cases h2:H5 (λi=>if p i then I (i:Int) else G) n 0 with
  | none=>rw[h2]at h1;simp at h1
  | some r=>
   rw[h2]at h1;simp at h1;subst h1;simp
end
def aEO{p:Nat->Bool}:∀(k i:Nat),MN p k i=Y↔ ∀j,i<=j->j<i+k->p j=Y
 | 0,_=>by simp only[MN,true_iff];intro j h1 h2;omega
 | k+1,i=>by
  unfold MN;rw[AD,aEO k<|i+1];constructor
  .rintro⟨h1,h2⟩ j h3 h4;obtain h7|h7:=Gl i j
   .exact h2 j h7 J
   .rw[show j=i by omega];exact h1
  .intro h;exact⟨h i (Aw _) J,λj h1 h2=>h j J J⟩
def CC{n:Nat}{p:Nat->Bool}:Ap n p=Y↔ ∀i,i<n->p i=Y:=by
 unfold Ap;rw[aEO];exact⟨λh i hi=>h i (D5 _) J,λh j _ h2=>h j J⟩
def C9{A B8 Ω:Type}{f:A->Option Ω}{g:B8->Option Ω}{y:B8}:AM (I<|.inr y) f g=g y:=rfl
def G6{A B8 Ω:Type}{f:A->Option Ω}{g:B8->Option Ω}{y:A}:AM (I<|.inl y) f g=f y:=rfl
def Bh{X Ω:Type}{f:X->Option Ω}{y:X}:BU f (I<|.inr y)=f y:=rfl
def Ou{X Ω:Type}{f:X->Option Ω}{y:Ω}:BU f (I<|.inl y)=I y:=rfl
def AZ{n:Int}(h0: -9223372036854775808<=n)(h1:n<=9223372036854775807):w64 n=n:=by
 unfold w64;rw[IntKind.wrap_i64];omega
def Nb(n:Int):w8 n=n % 256:=by
 unfold w8 bT;simp[IntKind.signed,IntKind.bits]
def B1{i n:Nat}(h:i<n)(hn:n<=9223372036854775807):w64 ((i:Int)+1)=((i+1:Nat):Int):=by
 rw[AZ J J];omega
def PI{α:Type}(d:α)(xs:List α)(i:Nat):rd d xs (i:Int)=xs.getD i d:=rfl
def axB(i n:Nat):inb (i:Int) n=U (i<n):=by
 unfold inb;by_cases h:i<n
 .simp[h]
 .simp[h]
def AR{i n:Nat}(h:i<n):inb (i:Int) n=Y:=by rw[axB];simpa using h
abbrev L(s:A1):List UInt8:=s.data.toList
def Az(s:A1):(L s).length=s.size:=rfl
def GD{s t:A1}(h:L s=L t):s=t:=by
 cases s;cases t;simp[L]at h;exact congrArg _ h
def Gb(s t:A1):L (s++t)=L s++L t:=by simp[L,ByteArray.data_append]
def EI(s:A1)(a b:Nat):L (s.extract a b)=((L s).drop a).take (b - a):=by
 simp[L,bO,Array.toList_extract,List.extract_eq_take_drop]
def C3(s t:A1):(s++t).size=s.size+t.size:=ByteArray.size_append ..
def L_B(l:List UInt8):L (B l)=l:=rfl
def BS(l:List UInt8):(B l).size=l.length:=rfl
def sB(l:List UInt8):L ⟨l.toArray⟩=l:=rfl
def KI(s:A1)(i:Nat):bt s (i:Int)=(((L s).getD i 0).toNat:Int):=rfl
def az1(s:A1)(i:Int):0<=bt s i:=by unfold bt;omega
def az2(s:A1)(i:Int):bt s i<=255:=by
 unfold bt;have:=(s.data.toList.getD i.toNat 0).toNat_lt;omega
end Go.VS
namespace Go.VS
open Go
def axI(m:AT):Prop:=m.da.size<=1048576
def PT(h:AG):Prop:=h.got.length<=1048576/\ ∀m∈h.got,axI m
def FZ(k:A7):Prop:=k.log.size<=1048576/\k.AJ.length<=1048576/\ ∀h∈k.AJ,PT h
def aHy(p:AL):Prop:=p.data.size<=1048576
def GU(n:A3):Prop:=n.tx.size<=1048576
def JR{α:Type}{l:List α}{i:Nat}{x d:α}(h:l[i]? =I x):l.getD i d=x:=by simp[h]
def B6{i n:Nat}(h:i<n):U ((i:Int)<(n:Int))=Y:=by simpa using h
structure HE (ks:List A7) (ls:List Bool) (ra:List AL) (se go:List A3):Prop where
 kl:ks.length<=1048576
 k:∀x∈ks,FZ x
 l:ls.length<=1048576
 rl:ra.length<=1048576
 r:∀x∈ra,aHy x
 sl:se.length<=1048576
 s:∀x∈se,GU x
 gl:go.length<=1048576
 g:∀x∈go,GU x
@[simp] theorem Hl (q:Bool):Ae A0 q=Y:=by cases q<;>rfl
@[simp] theorem Im (q:Bool):Ae Y q=q:=by cases q<;>rfl
def tf(b:Bool):b=Y\/b=A0:=by cases b<;>simp
def inB(n lo hi:Int):Bool:=U (lo<=n)&&U (n<=hi)
def Aa{n lo hi:Int}:inB n lo hi=Y↔lo<=n/\n<=hi:=by simp[inB]
abbrev isN(n:Int):Bool:=inB n 0 3
@[simp] theorem EU {n lo hi:Int} :CB (n,lo,hi,())=I ((inB n lo hi,()),()):=rfl
@[simp] theorem IB {n lo hi:Int} :DJ (n,lo,hi,())=I ((inB n lo hi,()),()):=rfl
@[simp] theorem K7 {n:Int} :Fs (n,())=I ((isN n,()),()):=rfl
@[simp] theorem K9 {n:Int} :Fo (n,())=I ((isN n,()),()):=rfl
abbrev tin(s:A1):Bool:=Ap s.size λi=>inB (bt s i) 32 126
def Lk(s:A1):Bool:=inB s.size 1 24&&tin s
def aaN{s:A1}{i:Int}:w64 (bt s i)=bt s i:=AZ (by have:=az1 s i;omega) (by have:=az2 s i;omega)
@[simp] theorem apE {s:A1} (hs:s.size<=1048576):Oe (s,())=I ((Lk s,()),()):=by
 have h:vd (s,0,())=I (if tin s then .inr (s,()) else .inl (A0,())):=
  Cq (λi=>(s,(i:Int),())) s.size (λi=>inB (bt s i) 32 126) (A0,()) (s,()) (λi hi=>by
   unfold jE;simp only[AR hi,B6 hi,aaN,EU,A6,B1 hi (by omega:s.size<=9223372036854775807)];cases inB (bt s i) 32 126<;>rfl) (by simp[jE])
 unfold Oe;simp only[h];unfold Lk;cases tin s<;>simp[AM]
def Ay(n:A3):Bool:=isN n.fr&&(isN n.to&&(inB n.nu 1 99&&(inB n.un 1 999&&Lk n.tx)))
@[simp] theorem Xe {fr nu tt un:Int} {tx:A1} (hs:tx.size<=1048576):Og ((fr,nu,tt,un,tx,()),())=I ((Ay ⟨fr,nu,tt,un,tx⟩,()),()):=by
 unfold Og Ay;simp only[apE hs,EU,K7,A6];cases isN fr<;>cases isN tt<;>cases inB nu 1 99<;>cases inB un 1 999<;>simp[Ae]
@[simp] theorem XU {fr nu tt un:Int} {tx:A1} (hs:tx.size<=1048576):Od ((fr,nu,tt,un,tx,()),())=I ((Ay ⟨fr,nu,tt,un,tx⟩,()),()):=by
 have h:vS ((fr,nu,tt,un,tx,()),0,())=I (if tin tx then .inr () else .inl (A0,())):=
  Cq (λi=>((fr,nu,tt,un,tx,()),(i:Int),())) tx.size (λi=>inB (bt tx i) 32 126) (A0,()) () (λi hi=>by
   unfold ie;simp only[AR hi,B6 hi,B1 hi (by omega:tx.size<=9223372036854775807)];unfold inB;by_cases h1:bt tx i<32<;>by_cases h2:126<bt tx i<;>simp[h1,h2,Ae]<;>omega) (by simp[ie])
 unfold Od Ay;simp only[h,IB,K9,A6];unfold Lk;by_cases h1:(tx.size:Int)<1<;>by_cases h2:(24:Int)<tx.size<;>cases isN fr<;>cases isN tt<;>cases inB nu 1 99<;>cases inB un 1 999<;>cases tin tx<;>simp[h1,h2,AM,inB]<;>omega
def FA(m:Mark):Bool:=isN m.mf&&(inB m.mn 1 99&&inB m.mu 1 999)
@[simp] theorem apG {a b c:Int} :jg ((a,b,c,()),())=I ((FA ⟨a,b,c⟩,()),()):=by
 unfold jg FA;simp only[EU,K7,A6];cases isN a<;>cases inB b 1 99<;>simp[Ae]
def bef(a b c d:Int):Bool:=U (a<c)||(U (a=c)&&U (b<d))
@[simp] theorem TK {a b c d:Int} :M8 (a,b,c,d,())=I ((bef a b c d,()),()):=rfl
@[simp] theorem YZ {a b c d:Int} :NE (a,b,c,d,())=I ((bef a b c d,()),()):=rfl
def nA(l:List A3)(i:Nat):A3:=l.getD i<|dfl .note
def mA(l:List Mark)(i:Nat):Mark:=l.getD i<|dfl .mark
def Cf(l:List A3)(i:Nat): @rd A3 y5 l (i:Int)=nA l i:=rfl
def FJ(l:List Mark)(i:Nat): @rd Mark aJV l (i:Int)=mA l i:=rfl
def DV(l:List A3):Bool:=Ap l.length λi=>Ay (nA l i)&&(U (i=0)||bef (nA l<|i - 1).fr (nA l<|i - 1).nu (nA l i).fr (nA l i).nu)
def Fa(l:List Mark):Bool:=Ap l.length λi=>FA (mA l i)&&(U (i=0)||bef (mA l<|i - 1).mf (mA l<|i - 1).mn (mA l i).mf (mA l i).mn)
def VO{l:List A3}(h:∀x∈l,GU x)(i:Nat):(nA l i).tx.size<=1048576:=by
 unfold nA;cases hx:l[i]? with
 | none=>simp[hx,dfl];decide
 | some x=>
  have h1:x.tx.size<=1048576:=h x<|Cs hx;rw[BA,hx];exact h1
def Zh{i n:Nat}(h:i<n)(hn:n<=9223372036854775807):w64 ((i:Int) - 1)=(i:Int) - 1:=AZ J J
def aBj{l:List A3}(hl:l.length<=1048576)(h:∀x∈l,GU x):XF (l,())=I ((DV l,()),()):=by
 have h:uZ (l,l,(j8 l:Int),0,())=I (if DV l then .inr () else .inl (A0,())):=
  Cq (λi=>(l,l,(j8 l:Int),(i:Int),())) l.length (λi=>Ay (nA l i)&&(U (i=0)||bef (nA l<|i - 1).fr (nA l<|i - 1).nu (nA l i).fr (nA l i).nu)) (A0,()) () (λi hi=>by
   unfold gr;simp only[AR hi,B6 hi,Cf,Xe<|VO h i,A6,TK,B1 hi (by omega:l.length<=9223372036854775807)];cases i with
   | zero=>obtain h1|h1:=tf (Ay<|nA l 0)<;>simp only[h1]<;>simp
   | succ j=>
    rw[Zh hi J,show((j+1:Nat):Int) - 1=(j:Int) by omega,AR (J:j<l.length)];simp only[Cf];obtain h1|h1:=tf (Ay<|nA l<|j+1)<;>obtain h2|h2:=tf (bef (nA l j).fr (nA l j).nu (nA l<|j+1).fr (nA l<|j+1).nu)<;>simp only[h1,h2]<;>simp[h2]) (by simp[gr])
 unfold XF;simp only[h];cases DV l<;>simp[AM]
def aAZ{l:List A3}{E8:Int}(hl:l.length<=1048576)(h:∀x∈l,GU x):X2 (l,E8,())=I ((U ((j8 l:Int)<=E8)&&DV l,()),()):=by
 have h:uC (l,0,())=I (if DV l then .inr () else .inl (A0,())):=
  Cq (λi=>(l,(i:Int),())) l.length (λi=>Ay (nA l i)&&(U (i=0)||bef (nA l<|i - 1).fr (nA l<|i - 1).nu (nA l i).fr (nA l i).nu)) (A0,()) () (λi hi=>by
   unfold gK;simp only[AR hi,B6 hi,Cf,XU<|VO h i,A6,YZ,B1 hi (by omega:l.length<=9223372036854775807)];cases i with
   | zero=>obtain h1|h1:=tf (Ay<|nA l 0)<;>simp only[h1]<;>simp
   | succ j=>
    rw[Zh hi J,show((j+1:Nat):Int) - 1=(j:Int) by omega,AR (J:j<l.length)];simp only[Cf];obtain h1|h1:=tf (Ay<|nA l<|j+1)<;>obtain h2|h2:=tf (bef (nA l j).fr (nA l j).nu (nA l<|j+1).fr (nA l<|j+1).nu)<;>simp only[h1,h2]<;>simp[h2]) (by simp[gK])
 unfold X2;simp only[h];by_cases hm:(j8 l:Int)<=E8
 .rw[show U (E8<(j8 l:Int))=A0 by simpa using hm];cases DV l<;>simp[AM,hm]
 .rw[show U (E8<(j8 l:Int))=Y by simpa using hm];simp[hm]
def anu{l:List Mark}(hl:l.length<=1048576):ir (l,())=I ((Fa l,()),()):=by
 have h:ue (l,l,(j8 l:Int),0,())=I (if Fa l then .inr () else .inl (A0,())):=
  Cq (λi=>(l,l,(j8 l:Int),(i:Int),())) l.length (λi=>FA (mA l i)&&(U (i=0)||bef (mA l<|i - 1).mf (mA l<|i - 1).mn (mA l i).mf (mA l i).mn)) (A0,()) () (λi hi=>by
   unfold gv;simp only[AR hi,B6 hi,FJ,apG,A6,TK,B1 hi (by omega:l.length<=9223372036854775807)];cases i with
   | zero=>obtain h1|h1:=tf (FA<|mA l 0)<;>simp only[h1]<;>simp
   | succ j=>
    rw[Zh hi J,show((j+1:Nat):Int) - 1=(j:Int) by omega,AR (J:j<l.length)];simp only[FJ];obtain h1|h1:=tf (FA<|mA l<|j+1)<;>obtain h2|h2:=tf (bef (mA l j).mf (mA l j).mn (mA l<|j+1).mf (mA l<|j+1).mn)<;>simp only[h1,h2]<;>simp[h2]) (by simp[gv])
 unfold ir;simp only[h];cases Fa l<;>simp[AM]
def ajI{l:List Mark}(hl:l.length<=1048576):iM (l,())=I ((U ((j8 l:Int)<=12)&&Fa l,()),()):=by
 have h:uD (l,0,())=I (if Fa l then .inr () else .inl (A0,())):=
  Cq (λi=>(l,(i:Int),())) l.length (λi=>FA (mA l i)&&(U (i=0)||bef (mA l<|i - 1).mf (mA l<|i - 1).mn (mA l i).mf (mA l i).mn)) (A0,()) () (λi hi=>by
   unfold gL FA;simp only[AR hi,B6 hi,FJ,IB,K9,A6,YZ,B1 hi (by omega:l.length<=9223372036854775807)];cases i with
   | zero=>obtain h1|h1:=tf (isN (mA l 0).mf)<;>obtain h2|h2:=tf (inB (mA l 0).mn 1 99)<;>obtain h3|h3:=tf (inB (mA l 0).mu 1 999)<;>simp only[h1,h2,h3]<;>simp
   | succ j=>
    rw[Zh hi J,show((j+1:Nat):Int) - 1=(j:Int) by omega,AR (J:j<l.length)];simp only[FJ];obtain h1|h1:=tf (isN (mA l<|j+1).mf)<;>obtain h2|h2:=tf (inB (mA l<|j+1).mn 1 99)<;>obtain h3|h3:=tf (inB (mA l<|j+1).mu 1 999)<;>obtain h4|h4:=tf (bef (mA l j).mf (mA l j).mn (mA l<|j+1).mf (mA l<|j+1).mn)<;>simp only[h1,h2,h3]<;>simp[h4]<;>omega) (by simp[gL])
 unfold iM;simp only[h];by_cases hm:(j8 l:Int)<=12
 .rw[show U ((12:Int)<(j8 l:Int))=A0 by simpa using hm];cases Fa l<;>simp[AM,hm]
 .rw[show U ((12:Int)<(j8 l:Int))=Y by simpa using hm];simp[hm]
def AY(l:List A3)(f n:Int):Int:=GC l.length λi=>U ((nA l i).fr=f)&&U ((nA l i).nu=n)
def Br(l:List Mark)(f n:Int):Int:=GC l.length λi=>U ((mA l i).mf=f)&&U ((mA l i).mn=n)
def Tt{n:Nat}{p:Nat->Bool}:AM (I<|if GC n p<0 then(.inr ():(Int×D) ⊕ D) else .inl (GC n p,())) (λy=>I ((y.1,()),())) (λ_=>I ((-1,()),()))=I ((GC n p,()),()):=by
 obtain⟨h,_⟩|⟨i,h,_⟩:=GP n p
 .rw[h];rfl
 .rw[A9 J];rfl
def KA{l:List A3}{f n:Int}(hl:l.length<=1048576):HI (l,f,n,())=I ((AY l f n,()),()):=by
 have h:vf (f,n,l,(j8 l:Int),0,())=I (if AY l f n<0 then .inr () else .inl (AY l f n,())):=
  Qo (λi=>(f,n,l,(j8 l:Int),(i:Int),())) l.length (λi=>U ((nA l i).fr=f)&&U ((nA l i).nu=n)) (λi=>(i,())) () (λi hi=>by
   unfold jG;simp only[AR hi,B6 hi,Cf,B1 hi (by omega:l.length<=9223372036854775807)];by_cases h1:(nA l i).fr=f<;>by_cases h2:(nA l i).nu=n<;>simp[h1,h2]) (by simp[jG])
 unfold HI;simp only[h];exact Tt
def K4{l:List A3}{f n:Int}(hl:l.length<=1048576):GM (l,f,n,())=I ((AY l f n,()),()):=by
 have h:uq (l,f,n,0,())=I (if AY l f n<0 then .inr () else .inl (AY l f n,())):=
  Qo (λi=>(l,f,n,(i:Int),())) l.length (λi=>U ((nA l i).fr=f)&&U ((nA l i).nu=n)) (λi=>(i,())) () (λi hi=>by
   unfold iO;simp only[AR hi,B6 hi,Cf,B1 hi (by omega:l.length<=9223372036854775807)];by_cases h1:(nA l i).fr=f<;>by_cases h2:(nA l i).nu=n<;>simp[h1,h2]) (by simp[iO])
 unfold GM;simp only[h];exact Tt
def TH{l:List Mark}{f n:Int}(hl:l.length<=1048576):LC (l,f,n,())=I ((Br l f n,()),()):=by
 have h:vW (f,n,l,(j8 l:Int),0,())=I (if Br l f n<0 then .inr () else .inl (Br l f n,())):=
  Qo (λi=>(f,n,l,(j8 l:Int),(i:Int),())) l.length (λi=>U ((mA l i).mf=f)&&U ((mA l i).mn=n)) (λi=>(i,())) () (λi hi=>by
   unfold iv;simp only[AR hi,B6 hi,FJ,B1 hi (by omega:l.length<=9223372036854775807)];by_cases h1:(mA l i).mf=f<;>by_cases h2:(mA l i).mn=n<;>simp[h1,h2]) (by simp[iv])
 unfold LC;simp only[h];exact Tt
def TC{l:List Mark}{f n:Int}(hl:l.length<=1048576):LD (l,f,n,())=I ((Br l f n,()),()):=by
 have h:uo (l,f,n,0,())=I (if Br l f n<0 then .inr () else .inl (Br l f n,())):=
  Qo (λi=>(l,f,n,(i:Int),())) l.length (λi=>U ((mA l i).mf=f)&&U ((mA l i).mn=n)) (λi=>(i,())) () (λi hi=>by
   unfold iN;simp only[AR hi,B6 hi,FJ,B1 hi (by omega:l.length<=9223372036854775807)];by_cases h1:(mA l i).mf=f<;>by_cases h2:(mA l i).mn=n<;>simp[h1,h2]) (by simp[iN])
 unfold LD;simp only[h];exact Tt
def Ec(id:Int)(fr tt:Int):Bool:= !decide (id=tt)&&(inB id fr tt||inB id tt fr)
def mF{id fr nu tt un:Int}{tx:A1}:Xw (id,(fr,nu,tt,un,tx,()),())=I ((Ec id fr tt,()),()):=by
 unfold Xw Ec;simp only[EU];by_cases h:id=tt<;>cases inB id fr tt<;>simp[h]
def lG{id fr nu tt un:Int}{tx:A1}:jY ((fr,nu,tt,un,tx,()),id,())=I ((Ec id fr tt,()),()):=by
 unfold jY Ec inB;by_cases h1:fr<=id
 .simp only[h1,AX,A2];congr 3;rw[Ke];simp;omega
 .have e:(U (tt<id)&&U (id<=fr))=(!decide (id=tt)&&(U (fr<=id)&&U (id<=tt)||decide (tt<=id)&&U (id<=fr))):=by
   rw[Ke];simp only[AD,Bp,Bz,decide_eq_true_eq,decide_eq_false_iff_not];omega
  rw[← e];simp[h1]
structure Dc (held:List A3) (marks:List Mark) (inbox:List A3):Prop where
 hl:held.length<=1048576
 h:∀x∈held,GU x
 ml:marks.length<=1048576
 il:inbox.length<=1048576
 i:∀x∈inbox,GU x
def HO(id ti nx:Int)(held:List A3)(marks:List Mark)(i:Nat):Bool:= !(U ((nA held i).fr=id)&&U (nx<=(nA held i).nu))&&(U (ti<(nA held i).un)&&(Ec id (nA held i).fr (nA held i).to&&U (Br marks (nA held i).fr (nA held i).nu<0)))
def JP(id ti nx:Int)(marks:List Mark)(i:Nat):Bool:=U (ti<(mA marks i).mu)&& !(U ((mA marks i).mf=id)&&U (nx<=(mA marks i).mn))
def It(id ti nx:Int)(marks:List Mark)(inbox:List A3)(i:Nat):Bool:=U ((nA inbox i).to=id)&&(!(U ((nA inbox i).fr=id)&&U (nx<=(nA inbox i).nu))&&(!decide (ti<(nA inbox i).un)||decide (0<=Br marks (nA inbox i).fr (nA inbox i).nu)))
def Av(k:AE):Bool:=isN k.id&&(inB k.ti 0 999&&(inB k.nx 1 100&&((U ((j8 k.held:Int)<=6)&&DV k.held)&&((U ((j8 k.marks:Int)<=12)&&Fa k.marks)&&((U ((j8 k.inbox:Int)<=6)&&DV k.inbox)&&
 (Ap k.held.length (HO k.id k.ti k.nx k.held k.marks)&&(Ap k.marks.length (JP k.id k.ti k.nx k.marks)&&Ap k.inbox.length (It k.id k.ti k.nx k.marks k.inbox))))))))
def ark(l:List Mark)(f n:Int):Br l f n= -1\/0<=Br l f n:=by
 obtain⟨h,_⟩|⟨i,h,_⟩:=GP l.length (λi=>U ((mA l i).mf=f)&&U ((mA l i).mn=n))
 .exact .inl h
 .exact .inr (by unfold Br;omega)
def tfp(p:Prop):(p=True)\/(p=False):=by
 by_cases h:p
 .exact .inl (eq_true h)
 .exact .inr<|eq_false h
def sgn(n:Int):((n<0)=True/\(0<=n)=False)\/((n<0)=False/\(0<=n)=True):=by
 by_cases h:n<0
 .exact .inl ⟨eq_true h,eq_false J⟩
 .exact .inr ⟨eq_false h,eq_true J⟩
def Ed(a b:Int):((a<=b)=True/\(b<a)=False)\/((a<=b)=False/\(b<a)=True):=by
 by_cases h:a<=b
 .exact .inl ⟨eq_true h,eq_false J⟩
 .exact .inr ⟨eq_false h,eq_true J⟩
def mw(l:List A3)(f n:Int):AY l f n= -1\/0<=AY l f n:=by
 obtain⟨h,_⟩|⟨i,h,_⟩:=GP l.length (λi=>U ((nA l i).fr=f)&&U ((nA l i).nu=n))
 .exact .inl h
 .exact .inr (by unfold AY;omega)
def anX{id ti nx:Int}{held:List A3}{marks:List Mark}{inbox:List A3}(sm:Dc held marks inbox):
  vm ((id,ti,nx,held,marks,inbox,()),held,(held.length:Int),0,())=I (if Ap held.length (HO id ti nx held marks) then .inr ((id,ti,nx,held,marks,inbox,()),()) else .inl (A0,())):=
 Cq (λi=>((id,ti,nx,held,marks,inbox,()),held,(held.length:Int),(i:Int),())) held.length (HO id ti nx held marks) (A0,()) ((id,ti,nx,held,marks,inbox,()),()) (λi hi=>by
  unfold jN HO;have hl:held.length<=9223372036854775807:=by have:=sm.hl;omega
  simp only[AR hi,B6 hi,Cf,FJ,TH sm.ml,mF,A6,B1 hi hl];have h4:=sgn<|Br marks (nA held i).fr (nA held i).nu;obtain h1|h1:=tfp ((nA held i).fr=id)<;>obtain h2|h2:=tfp (nx<=(nA held i).nu)<;>obtain h3|h3:=Ed (nA held i).un ti<;>obtain h4|h4:=h4<;>obtain h5|h5:=tf (Ec id (nA held i).fr (nA held i).to)<;>simp[h1,h2,h5,h4,h3]) (by simp[jN])
def aCC{id ti nx:Int}{held:List A3}{marks:List Mark}{inbox:List A3}(sm:Dc held marks inbox):
  vl ((id,ti,nx,held,marks,inbox,()),marks,(marks.length:Int),0,())=I (if Ap marks.length (JP id ti nx marks) then .inr ((id,ti,nx,held,marks,inbox,()),()) else .inl (A0,())):=
 Cq (λi=>((id,ti,nx,held,marks,inbox,()),marks,(marks.length:Int),(i:Int),())) marks.length (JP id ti nx marks) (A0,()) ((id,ti,nx,held,marks,inbox,()),()) (λi hi=>by
  unfold jM JP;have hl:marks.length<=9223372036854775807:=by have:=sm.ml;omega
  simp only[AR hi,B6 hi,Cf,FJ,TH sm.ml,mF,A6,B1 hi hl];obtain h1|h1:=tfp ((mA marks i).mf=id)<;>obtain h2|h2:=tfp (nx<=(mA marks i).mn)<;>obtain h3|h3:=Ed (mA marks i).mu ti<;>simp[h1,h2,h3]) (by simp[jM])
def aCB{id ti nx:Int}{held:List A3}{marks:List Mark}{inbox:List A3}(sm:Dc held marks inbox):
  vk ((id,ti,nx,held,marks,inbox,()),inbox,(inbox.length:Int),0,())=I (if Ap inbox.length (It id ti nx marks inbox) then .inr () else .inl (A0,())):=
 Cq (λi=>((id,ti,nx,held,marks,inbox,()),inbox,(inbox.length:Int),(i:Int),())) inbox.length (It id ti nx marks inbox) (A0,()) () (λi hi=>by
  unfold jL It;have hl:inbox.length<=9223372036854775807:=by have:=sm.il;omega
  simp only[AR hi,B6 hi,Cf,FJ,TH sm.ml,mF,A6,B1 hi hl];have h4:=sgn<|Br marks (nA inbox i).fr (nA inbox i).nu;obtain h1|h1:=tfp ((nA inbox i).fr=id)<;>obtain h2|h2:=tfp (nx<=(nA inbox i).nu)<;>obtain h3|h3:=Ed (nA inbox i).un ti<;>obtain h0|h0:=tfp ((nA inbox i).to=id)<;>obtain h4|h4:=h4<;>simp[h1,h2,h0,h4,h3]) (by simp[jL])
def amw{id ti nx:Int}{held:List A3}{marks:List Mark}{inbox:List A3}(sm:Dc held marks inbox):
  vM ((id,ti,nx,held,marks,inbox,()),0,())=I (if Ap held.length (HO id ti nx held marks) then .inr ((id,ti,nx,held,marks,inbox,()),()) else .inl (A0,())):=
 Cq (λi=>((id,ti,nx,held,marks,inbox,()),(i:Int),())) held.length (HO id ti nx held marks) (A0,()) ((id,ti,nx,held,marks,inbox,()),()) (λi hi=>by
  unfold iV HO;have hl:held.length<=9223372036854775807:=by have:=sm.hl;omega
  simp only[AR hi,B6 hi,Cf,FJ,TC sm.ml,lG,A6,B1 hi hl];have h4:=sgn<|Br marks (nA held i).fr (nA held i).nu;obtain h1|h1:=tfp ((nA held i).fr=id)<;>obtain h2|h2:=tfp (nx<=(nA held i).nu)<;>obtain h3|h3:=Ed (nA held i).un ti<;>obtain h4|h4:=h4<;>obtain h5|h5:=tf (Ec id (nA held i).fr (nA held i).to)<;>simp[h1,h2,h5,h4,h3]) (by simp[iV])
def aB0{id ti nx:Int}{held:List A3}{marks:List Mark}{inbox:List A3}(sm:Dc held marks inbox):
  vL ((id,ti,nx,held,marks,inbox,()),0,())=I (if Ap marks.length (JP id ti nx marks) then .inr ((id,ti,nx,held,marks,inbox,()),()) else .inl (A0,())):=
 Cq (λi=>((id,ti,nx,held,marks,inbox,()),(i:Int),())) marks.length (JP id ti nx marks) (A0,()) ((id,ti,nx,held,marks,inbox,()),()) (λi hi=>by
  unfold iU JP;have hl:marks.length<=9223372036854775807:=by have:=sm.ml;omega
  simp only[AR hi,B6 hi,Cf,FJ,TC sm.ml,lG,A6,B1 hi hl];obtain h1|h1:=tfp ((mA marks i).mf=id)<;>obtain h2|h2:=tfp (nx<=(mA marks i).mn)<;>obtain h3|h3:=Ed (mA marks i).mu ti<;>simp[h1,h2,h3]) (by simp[iU])
def aAz{id ti nx:Int}{held:List A3}{marks:List Mark}{inbox:List A3}(sm:Dc held marks inbox):
  vK ((id,ti,nx,held,marks,inbox,()),0,())=I (if Ap inbox.length (It id ti nx marks inbox) then .inr () else .inl (A0,())):=
 Cq (λi=>((id,ti,nx,held,marks,inbox,()),(i:Int),())) inbox.length (It id ti nx marks inbox) (A0,()) () (λi hi=>by
  unfold iT It;have hl:inbox.length<=9223372036854775807:=by have:=sm.il;omega
  simp only[AR hi,B6 hi,Cf,FJ,TC sm.ml,lG,A6,B1 hi hl];have h4:=sgn<|Br marks (nA inbox i).fr (nA inbox i).nu;obtain h1|h1:=tfp ((nA inbox i).fr=id)<;>obtain h2|h2:=tfp (nx<=(nA inbox i).nu)<;>obtain h3|h3:=Ed (nA inbox i).un ti<;>obtain h0|h0:=tfp ((nA inbox i).to=id)<;>obtain h4|h4:=h4<;>simp[h1,h2,h0,h4,h3]) (by simp[iT])
def lA{id ti nx:Int}{held:List A3}{marks:List Mark}{inbox:List A3}(sm:Dc held marks inbox):Qg ((id,ti,nx,held,marks,inbox,()),())=I ((Av ⟨id,ti,nx,held,marks,inbox⟩,()),()):=by
 unfold Qg Av;simp only[EU,K7,aBj sm.hl sm.h,aBj sm.il sm.i,anu sm.ml,anX sm,aCC sm,aCB sm,A6];obtain h1|h1:=tf (isN id)<;>simp only[h1,AB,AH,A2,AP,AU,A4];obtain h2|h2:=tf (inB ti 0 999)<;>simp only[h2,AB,AH,A2,AP,AU,A4];obtain h3|h3:=tf (inB nx 1 100)<;>simp only[h3,AB,AH,A2,AP,AU,A4];obtain h4|h4:=Ed (held.length:Int) 6<;>obtain h5|h5:=Ed (marks.length:Int) 12<;>obtain h6|h6:=Ed (inbox.length:Int) 6<;>simp only[h4,h5,h6,AX,Ad,A2,AP,Ba,AU,A4];obtain h7|h7:=tf (DV held)<;>obtain h8|h8:=tf (Fa marks)<;>obtain h9|h9:=tf (DV inbox)<;>simp only[h7,h8,h9,AB,AH,A2,AP,Ba,AU,A4];obtain h10|h10:=tf (Ap held.length<|HO id ti nx held marks)<;>obtain h11|h11:=tf (Ap marks.length<|JP id ti nx marks)<;>obtain h12|h12:=tf (Ap inbox.length<|It id ti nx marks inbox)<;>simp only[h10,h11,h12,A2,C9,G6,A4,aCC sm,aCB sm]<;>rfl
def lI{id ti nx:Int}{held:List A3}{marks:List Mark}{inbox:List A3}(sm:Dc held marks inbox):Qd ((id,ti,nx,held,marks,inbox,()),())=I ((Av ⟨id,ti,nx,held,marks,inbox⟩,()),()):=by
 unfold Qd Av;simp only[IB,K9,aAZ sm.hl sm.h,aAZ sm.il sm.i,ajI sm.ml,amw sm,aB0 sm,aAz sm,A6];obtain h1|h1:=tf (isN id)<;>simp only[h1,AB,AH,A2,AP,AU,A4];obtain h2|h2:=tf (inB ti 0 999)<;>simp only[h2,AB,AH,A2,AP,AU,A4];obtain h3|h3:=tf (inB nx 1 100)<;>simp only[h3,AB,AH,A2,AP,AU,A4];obtain h7|h7:=tf (U ((held.length:Int)<=6)&&DV held)<;>obtain h8|h8:=tf (U ((marks.length:Int)<=12)&&Fa marks)<;>obtain h9|h9:=tf (U ((inbox.length:Int)<=6)&&DV inbox)<;>simp only[h7,h8,h9,AB,AH,A2,AP,Ba,AU,A4];obtain h10|h10:=tf (Ap held.length<|HO id ti nx held marks)<;>obtain h11|h11:=tf (Ap marks.length<|JP id ti nx marks)<;>obtain h12|h12:=tf (Ap inbox.length<|It id ti nx marks inbox)<;>simp only[h10,h11,h12,A2,C9,G6,A4,aB0 sm,aAz sm]<;>rfl
def MM{α:Type}{l:List α}{d:α}(hl:l.length<=1048576):
  (if U ((j8 l:Int)=0) then I ((([]:List α),()),()) else if U (0<=(j8 l:Int))&&U ((j8 l:Int)<=4294967296) then I (((BQ (BT (AO (j8 l:Int)) d).length l++Bt l.length (BT (AO (j8 l:Int)) d)),()),()) else G)=I ((l,()),()):=by
 by_cases h:(j8 l:Int)=0
 .have:l=[]:=E5 J;subst this;rfl
 .have h1:(j8 l:Int)<=4294967296:=J
  have h2:0<=(j8 l:Int):=J
  simp[h1]
def eV{l:List A3}(hl:l.length<=1048576):OS (l,())=I ((l,()),()):=MM hl
def aeV{l:List Mark}(hl:l.length<=1048576):ug (l,())=I ((l,()),()):=MM hl
def tX{l:List A1}(hl:l.length<=1048576):SX (l,())=I ((l,()),()):=MM hl
def aAO{id ti nx:Int}{held:List A3}{marks:List Mark}{inbox:List A3}(sm:Dc held marks inbox):Ss ((id,ti,nx,held,marks,inbox,()),())=I (((id,ti,nx,held,marks,inbox,()),()),()):=by
 unfold Ss;simp only[eV sm.hl,aeV sm.ml,eV sm.il,A6]
def BE{n:Nat}(h:n<=4294967296):Ac n=Y:=by simpa[Ac] using h
def aB6{id ti nx:Int}{held:List A3}{marks:List Mark}{inbox:List A3}(sm:Dc held marks inbox):TD ((id,ti,nx,held,marks,inbox,()),())=I (((id,ti,nx,held,marks,inbox,()),()),()):=by
 unfold TD;have h1:=sm.hl;have h2:=sm.ml;have h3:=sm.il;simp only[CL,DR,El,BE (J:held.length<=4294967296),BE (J:marks.length<=4294967296),BE (J:inbox.length<=4294967296),A2]
def ahk{id:Int}:fv (id,())=I ((if isN id then(id,0,1,[],[],[],()) else(0,0,0,[],[],[],()),()),()):=by
 unfold fv;simp only[K7,A6];cases isN id<;>rfl
def ahC{id:Int}:gR (id,())=I ((if isN id then(id,0,1,[],[],[],()) else(0,0,0,[],[],[],()),()),()):=by
 unfold gR;simp only[K9,A6];cases isN id<;>rfl
end Go.VS
end
noncomputable section
namespace Go.VS
open Go
def awr{A R:Type}{t:(A->Option R)->A->Option R}{x:A}{v:R}(hv:∀k r,Bk t k x=I r->r=v)(he:∃k,Bk t k x=I v):OA t x=I v:=by
 cases h:OA t x with
 | none=>
  exfalso;obtain⟨k,hk⟩:=he;unfold OA at h;rw[dif_pos ⟨k,v,hk⟩]at h;cases h
 | some r=>
  obtain⟨k,hk⟩:=aGl h;rw[hv k r hk]
def oA{σ β γ:Type}{b:σ->Option (σ ⊕ (β ⊕ γ))}(st:Nat->σ)(n:Nat)(p:Nat->Bool)(r:β)(fin:γ)
  (h:∀i,i<n->(∀j,j<i->p j=Y)->b (st i)=I (if p i then .inl (st<|i+1) else .inr (.inl r)))
  (hn:(∀j,j<n->p j=Y)->b (st n)=I (.inr<|.inr fin)):AS b (st 0)=I (if Ap n p then .inr fin else .inl r):=by
 have:∀k,k<=n->(∀j,j<n - k->p j=Y)->AS b (st<|n - k)=I (if MN p k (n - k) then .inr fin else .inl r):=by
  intro k
  induction k with
  | zero=>intro _ hp;exact BC<|hn hp
  | succ k ih=>
   intro hk hp;have h1:=h (n - (k+1)) J hp;unfold MN;obtain hq|hq:=tf (p<|n - (k+1))
   .rw[hq]at h1;rw[hq,AU];refine Am h1 ?_;rw[show n - (k+1)+1=n - k by omega];exact ih J (λj hj=>by
     obtain h2|h2:=Gl j (n - (k+1))
     .exact hp j h2
     .rw[show j=n - (k+1) by omega];exact hq)
   .rw[hq]at h1;rw[hq,AP];exact BC h1
 have:=this n (Aw _) (λj hj=>by omega);rwa[Pm]at this
abbrev dcm(u:Nat):List UInt8:=pX u
def LL{u:Nat}(h:u<10):dcm u=[Kh (48+u)]:=Lib.decDigits_one h
def MU{u:Nat}(h:¬u<10):dcm u=dcm (u / 10)++[Kh (48+u % 10)]:=by rw[dcm,pX,dif_neg h]
def ML:∀(k u:Nat),1<=k->u<10 ^ k->(dcm u).length<=k
 | 0,_,h,_=>J
 | 1,u,_,h=>by rw[LL J];simp
 | k+2,u,_,h=>by
  by_cases h1:u<10
  .rw[LL h1];simp
  .rw[MU h1];have:=ML (k+1) (u / 10) J (by rw[pd]at h;omega);simp;omega
def JQ(u:Nat):B7 (u:Int)=dcm u:=Lib.itoa_nonneg u
def BZ(n:Int):A1:=⟨(B7 n).toArray⟩
def px{n:Nat}(h:n<10):BI [w8<|w64<|48+(n:Int)]=⟨(dcm n).toArray⟩:=by
 rw[LL h,AZ J J,Nb,show(48+(n:Int)) % 256=((48+n:Nat):Int) by omega];rfl
def aHL(u:Nat):B2 (u:Int) 10=((u / 10:Nat):Int):=rfl
def aHW(u:Nat):BM (u:Int) 10=((u % 10:Nat):Int):=rfl
def py(u:Nat):BI [w8<|w64<|48+((u % 10:Nat):Int)]=⟨[Kh (48+u % 10)].toArray⟩:=by
 rw[px J,LL J]
def rO(a b:List UInt8):(⟨a.toArray⟩:A1)++⟨b.toArray⟩=⟨(a++b).toArray⟩:=by
 apply GD;rw[Gb]
def arG:pX 9223372036854775808=[57,50,50,51,51,55,50,48,51,54,56,53,52,55,55,53,56,48,56]:=by
 show dcm _=_
 repeat (first|rw[LL J]|rw[MU J])
 rfl
def ZL:∀(k:Nat) (n:Int),-9223372036854775808<=n->n<=9223372036854775807->∀r,Bk (λg=>Gs g) k (n,())=I r->r=((BZ n,()),())
 | 0,_,_,_,r,h=>by cases h
 | k+1,n,h0,h1,r,h=>by
  have ih:=ZL k
  replace h:Gs (Bk (λg=>Gs g) k) (n,())=I r:=h
  generalize Bk (λg=>Gs g) k=Gc at ih h;unfold Gs at h;by_cases hn:n < -9223372036854775807
  .simp only[hn,AX,A2]at h;cases h;obtain rfl:n= -9223372036854775808:=J
   have:BZ (-9223372036854775808)=B [45,57,50,50,51,51,55,50,48,51,54,56,53,52,55,55,53,56,48,56]:=by
    apply GD;show B7 (-9223372036854775808)=_;rw[show(-9223372036854775808:Int)= -((9223372036854775808:Nat):Int) by rfl,pe _ J];rw[L_B];rw[arG]
   rw[this]
  .rw[A9<|by simpa using hn]at h;by_cases OF:n<0
   .rw[A5<|by simpa using OF]at h;simp only at h;rw[AZ J J]at h;obtain⟨r4,e4,h⟩:=Aj.1 h;have:=ih (0 - n) J J r4 e4;subst this;split at h
    .cases h;obtain⟨u,hu⟩:=HZ (J:0<= -n);obtain rfl:n= -(u:Int):=J
     have:BZ (-(u:Int))=B [45]++BZ (0 - -(u:Int)):=by
      unfold BZ;rw[pe _ J,show(0:Int) - -(u:Int)=(u:Int) by omega,JQ];rw[B,rO];rfl
     rw[this]
    .cases h
   .rw[A9<|by simpa using OF]at h;obtain⟨u,hu⟩:=HZ (J:0<=n);obtain rfl:n=(u:Int):=hu;by_cases hs:u<10
    .rw[A5 aJL]at h;simp only at h;cases h;rw[px hs,BZ,JQ]
    .rw[A9 aJL]at h;simp only[aHL,aHW]at h;rw[AZ J J]at h;obtain⟨r7,e7,h⟩:=Aj.1 h;have:=ih ((u / 10:Nat):Int) J J r7 e7;subst this;split at h
     .cases h;rw[py,BZ,BZ,JQ,JQ,rO,← MU hs]
     .cases h
def o8:∀(k u:Nat),1<=k->k<=19->u<10 ^ k->u<=9223372036854775807->Bk (λg=>Gs g) k ((u:Int),())=I ((⟨(dcm u).toArray⟩,()),())
 | 0,_,h,_,_,_=>J
 | k+1,u,_,hk,h,h63=>by
  have e1:U ((u:Int) < -9223372036854775807)=A0:=by simp
  have e2:U ((u:Int)<0)=A0:=by simp
  have ih:=o8 k<|u / 10;show Gs (Bk (λg=>Gs g) k) _=_;generalize Bk (λg=>Gs g) k=Gc at ih;unfold Gs;simp only[e1,e2,aHL,aHW,A4];by_cases hs:u<10
  .rw[A5 aJL,px hs]
  .rw[A9 aJL,AZ J J];have hk0:1<=k:=by
    obtain rfl|h':=Ui k
    .simp at h;omega
    .exact h'
   have hlt:u / 10<10 ^ k:=by rw[pd]at h;omega
   have hl:=ML k (u / 10) hk0 hlt;rw[ih hk0 J hlt J];simp only[A6];rw[A5,py,rO,← MU hs];have:(⟨(dcm<|u / 10).toArray⟩:A1).size=(dcm<|u / 10).length:=rfl;rw[decide_eq_true_eq,this,py];show _+1<=_;omega
def G5{n:Int}(h0: -9223372036854775808<=n)(h1:n<=9223372036854775807):Da (n,())=I ((BZ n,()),()):=by
 refine awr (λk r h=>ZL k n h0 h1 r h) ?_;have oU:∀u:Nat,u<=9223372036854775807->u<10 ^ 19:=λu hu=>J
 by_cases hn:n < -9223372036854775807
 .refine⟨1, ?_⟩;cases h:Bk (λg=>Gs g) 1 (n,()) with
  | none=>simp only[Bk]at h;unfold Gs at h;rw[A5<|by simpa using hn]at h;cases h
  | some r=>rw[ZL 1 n h0 h1 r h]
 .by_cases OF:n<0
  .refine⟨20, ?_⟩;cases h:Bk (λg=>Gs g) 20 (n,()) with
   | none=>
    obtain⟨u,hu⟩:=HZ (J:0<= -n);have ih:=o8 19 u J J (oU u J) J
    replace h:Gs (Bk (λg=>Gs g) 19) (n,())=G:=h
    generalize Bk (λg=>Gs g) 19=Gc at ih h;unfold Gs at h;rw[A9<|by simpa using hn,A5<|by simpa using OF]at h;simp only at h;rw[AZ J J,show 0 - n=(u:Int) by omega,ih]at h;simp only[A6]at h;rw[A5]at h
    .cases h
    .have hl:=ML 19 u J<|oU u J;have e:(⟨(dcm u).toArray⟩:A1).size=(dcm u).length:=rfl;rw[decide_eq_true_eq,e];show 1+_<=_;omega
   | some r=>rw[ZL 20 n h0 h1 r h]
  .obtain⟨u,hu⟩:=HZ (J:0<=n);obtain rfl:n=(u:Int):=hu;exact⟨19,by rw[o8 19 u J J (oU u J) J,BZ,JQ]⟩
def JU{n:Int}(h0: -9223372036854775808<=n)(h1:n<=9223372036854775807):JH (n,())=I ((BZ n,()),()):=by
 show VK _=_;unfold VK;rw[A5 ⟨h0,h1⟩];rfl
def dig(b:UInt8):Bool:=inB (b.toNat:Int) 48 57
def val(l:List UInt8):Nat:=l.foldl (λa b=>10 * a+(b.toNat - 48)) 0
def Zi(l:List UInt8)(b:UInt8):val (l++[b])=10 * val l+(b.toNat - 48):=by simp[val]
def aso{l:List UInt8}{i:Nat}(h:i<l.length):l.take (i+1)=l.take i++[l.getD i 0]:=by
 rw[JC,Ar h];simp[h]
def cF:∀(k:Nat) (l:List UInt8),l.length<=k->(∀b∈l,dig b=Y)->val l<10 ^ k:=by
 intro k
 induction k with
 | zero=>
  intro l hl _;obtain rfl:l=[]:=E5 J;decide
 | succ k ih=>
  intro l hl hd;obtain rfl|⟨m,b,rfl⟩:=aFG l
  .exact Nat.pow_pos aJT
  .simp at hl hd;have h1:=ih m J (λx hx=>hd x<|.inl hx);have h2:=hd b<|.inr rfl;rw[aFH,Zi,pd];have h3:=Aa.1 h2;omega
def awC{m:List UInt8}:∀ {b:UInt8},dig b=Y->b≠48->(∀x∈m,dig x=Y)->1<=val (b::m):=by
 intro b hb hne hd;have h0:1<=val [b]:=by
  have:=Aa.1 hb;have hn:b.toNat≠48:=λh=>hne<|Rm.1 h;simp[val];omega
 have:∀(m:List UInt8) (a:Nat),1<=a->1<=m.foldl (λa b=>10 * a+(b.toNat - 48)) a:=by
  intro m
  induction m with
  | nil=>intro a h;exact h
  | cons x m ih=>intro a h;exact ih _<|show 1<=10 * a+(x.toNat - 48) by omega
 exact this m _<|by simpa[val] using h0
def Jd(l:List UInt8):Bool:=match l with
 | []=>A0
 | [_]=>Y
 | b::_::_=> !decide (b=48)
def aaG:∀(k:Nat) (l:List UInt8),l.length=k->(∀b∈l,dig b=Y)->Jd l=Y->dcm (val l)=l:=by
 intro k
 induction k with
 | zero=>intro l hl _ h;obtain rfl:l=[]:=E5 hl;cases h
 | succ k ih=>
  intro l hl hd aEU;obtain rfl|⟨m,b,rfl⟩:=aFG l
  .cases aEU
  .rw[aFH]at *;simp at hl;have hb:=hd b aJO;have hb2:=Aa.1 hb;have hof:∀n,b.toNat=n->Kh n=b:=λn h=>by rw[← h];simp
   cases m with
   | nil=>
    have:val ([]++[b])=b.toNat - 48:=by simp[val]
    rw[this,LL J,hof _ J];rfl
   | cons c m=>
    have hc:c≠48:=by
     cases m<;>simpa[Jd] using aEU
    have h1:=awC (m:=m) (hd c aJO) hc (λx hx=>hd x<|by simp[hx]);rw[Zi,MU J,show(10 * val (c::m)+(b.toNat - 48)) / 10=val (c::m) by omega,show(10 * val (c::m)+(b.toNat - 48)) % 10=b.toNat - 48 by omega,
     ih (c::m) hl (λx hx=>hd x<|Bw _ hx) (by cases m<;>simp[Jd,hc]),hof _ J]
def bq:∀(k u:Nat),u<k->∀b∈dcm u,dig b=Y:=by
 intro k
 induction k with
 | zero=>intro u h;omega
 | succ k ih=>
  intro u h b hb;have hd:∀n,n<10->dig (Kh<|48+n)=Y:=λn hn=>by
   have:(Kh<|48+n).toNat=48+n:=by simp;omega
   unfold dig;rw[this];exact Aa.2 ⟨J,J⟩
  by_cases hu:u<10
  .rw[LL hu]at hb;obtain rfl:=C8.1 hb;exact hd u hu
  .rw[MU hu]at hb;obtain hb|hb:=BL.1 hb
   .exact ih (u / 10) J b hb
   .obtain rfl:=C8.1 hb;exact hd _ J
def aO:∀(k u:Nat),u<k->val (dcm u)=u:=by
 intro k
 induction k with
 | zero=>intro u h;omega
 | succ k ih=>
  intro u h;by_cases hu:u<10
  .rw[LL hu];have:(Kh<|48+u).toNat=48+u:=by simp;omega
   simp only[val,E4,KR,this];omega
  .rw[MU hu,Zi,ih (u / 10) J];have:(Kh<|48+u % 10).toNat=48+u % 10:=by simp;omega
   rw[this];omega
def rR(u:Nat):dcm u≠[]:=by
 by_cases hu:u<10
 .rw[LL hu];simp
 .rw[MU hu];simp
def aIK:∀(k u:Nat),u<k->Jd (dcm u)=Y/\(1<=u->∃b m,dcm u=b::m/\b≠48):=by
 intro k
 induction k with
 | zero=>intro u h;omega
 | succ k ih=>
  intro u h;by_cases hu:u<10
  .rw[LL hu];refine⟨rfl,λh1=>⟨_,_,rfl,λh2=> ?_⟩⟩;have:(Kh<|48+u).toNat=48+u:=by simp;omega
   rw[h2]at this;simp at this;omega
  .obtain⟨b,m,h1,h2⟩:=(ih (u / 10) J).2 J;rw[MU hu,h1];refine⟨?_,λ_=>⟨b,_,rfl,h2⟩⟩;cases m<;>simp[Jd,h2]
def Kl(l:List UInt8):Option Nat:=if l.all dig&&Jd l then I (val l) else G
def Qw{l:List UInt8}{n:Nat}:Kl l=I n↔l=dcm n:=by
 unfold Kl;constructor
 .intro h;split at h
  .rename_i hc;simp at hc;cases h;exact(aaG _ l rfl hc.1 hc.2).symm
  .cases h
 .rintro rfl;rw[A5,aO (n+1) n J];simp only[AD,CZ];exact⟨bq (n+1) n J,(aIK (n+1) n J).1⟩
def azJ{s:A1}{i:Nat}:inB (bt s i) 48 57=dig ((L s).getD i 0):=rfl
def aJv{l:List UInt8}{f:UInt8->Bool}:Ap l.length (λi=>f<|l.getD i 0)=l.all f:=by
 rw[Ke,CC,CZ];constructor
 .intro h x hx;obtain⟨i,hi,rfl⟩:=Cv hx;have:=h i hi;simpa[hi] using this
 .intro h i hi;simpa[hi] using h _<|CS hi
def aEF{s:A1}{i:Nat}(h:∀j,j<i->inB (bt s j) 48 57=Y)(hi:i<=s.size):∀b∈(L s).take i,dig b=Y:=by
 intro b hb;obtain⟨j,hj,rfl⟩:=Cv hb;simp at hj;have h1:=h j J;rw[azJ]at h1;have h2:j<(L s).length:=by rw[Az];omega
 rw[List.getElem_take];have e:(L s).getD j 0=(L s)[j]:=by rw[BA,Ar h2];rfl
 rwa[e]at h1
def aHT{s:A1}{i:Nat}(hi:i<s.size):val ((L s).take<|i+1)=10 * val ((L s).take i)+(((L s).getD i 0).toNat - 48):=by
 rw[aso (by rw[Az];exact hi),Zi]
def Au(s:A1):Int×Bool:=if s.size<=5 then(match Kl (L s) with|some n=>((n:Int),Y)|none=>(0,A0)) else(0,A0)
def ax2{s:A1}(h:1<=s.size):Jd (L s)= !(U (bt s 0=48)&&U (1<(s.size:Int))):=by
 rw[show s.size=(L s).length from rfl]at *;unfold bt;show _= !(U ((((L s).getD 0 0).toNat:Int)=48)&&_);generalize L s=l at *
 match l with
 | []=>simp at h
 | [b]=>simp[Jd]
 | b::c::m=>
  have:(((b:UInt8).toNat:Int)=48)↔b=48:=⟨λh=>Rm.1 (by show b.toNat=48;omega),λh=>by subst h;rfl⟩;simp only[Jd,List.getD_cons_zero,this];simp;omega
def aER(s:A1):(L s).take s.size=L s:=KY (by rw[Az];exact Aw _)
def jH{s:A1}(hs:s.size<=9223372036854775807):QZ (s,())=I (((Au s).1,(Au s).2,()),()):=by
 unfold QZ Au;simp only[EU,A6];by_cases h5:s.size<=5
 .by_cases h1:1<=s.size
  .have e1:inB (s.size:Int) 1 5=Y:=Aa.2 ⟨J,J⟩;have e2:inb 0 s.size=Y:=by have:=AR (J:0<s.size);simpa using this
   have GJ:ub (s,0,0,())=I (if Ap s.size (λi=>inB (bt s i) 48 57) then .inr ((val (L s):Int),()) else .inl (0,A0,())):=by
    rw[← aER s];refine oA (λi=>(s,(val ((L s).take i):Int),(i:Int),())) s.size (λi=>inB (bt s i) 48 57) (0,A0,()) ((val ((L s).take s.size):Int),()) (λi hi hp=> ?_) (λ_=>by simp[gu]);unfold gu;simp only[AR hi,B6 hi,aaN,EU,A6,B1 hi (by omega:s.size<=9223372036854775807)];obtain h|h:=tf (inB (bt s i) 48 57)
    .have hv:=cF 5 _ aJL<|aEF hp J;have hb:=Aa.1 h;have e:w64 (w64 (10 * (val ((L s).take i):Int))+w64 (w8<|bt s i - 48))=(val ((L s).take<|i+1):Int):=by
      rw[aHT hi,Nb,AZ (n:=10 * _) J J,pC J J,AZ (n:=bt s i - 48) J J,AZ J J];rw[KI]at hb ⊢;omega
     simp only[h,e];rfl
    .simp only[h];rfl
   rw[e1,e2,A5 h5];simp only[GJ,AB,AH,Bl,Im,A2];have EG:Ap s.size (λi=>inB (bt s i) 48 57)=(L s).all dig:=aJv (l:=L s) (f:=dig);rw[EG];unfold Kl;rw[ax2 h1];obtain h|h:=tf (U (bt s 0=48)&&U (1<(s.size:Int)))
   .rw[h];simp
   .rw[h];obtain h'|h':=tf ((L s).all dig)
    .rw[h'];rfl
    .rw[h'];rfl
  .have e1:inB (s.size:Int) 1 5=A0:=by simp[inB];omega
   have:L s=[]:=E5 (by rw[Az];omega);rw[e1,A5 h5,this];simp[Kl,Jd]
 .have e1:inB (s.size:Int) 1 5=A0:=by simp[inB];omega
  rw[e1,A9 h5];simp
def Af(s:A1):Int:=if s.size<=4 then(match Kl (L s) with|some n=>(n:Int)|none=> -1) else -1
def aIL(u:Nat):BZ (u:Int)=⟨(dcm u).toArray⟩:=by rw[BZ,JQ]
def mG{s:A1}(hs:s.size<=9223372036854775807):Qh (s,())=I ((Af s,()),()):=by
 unfold Qh Af;by_cases h5:s.size<=4
 .by_cases h1:1<=s.size
  .have e1:(U ((s.size:Int)<1)||decide (4<(s.size:Int)))=A0:=by simp;omega
   have GJ:vh (s,0,0,())=I (if Ap s.size (λi=>inB (bt s i) 48 57) then .inr (s,(val (L s):Int),()) else .inl (-1,())):=by
    rw[← aER s];refine oA (λi=>(s,(val ((L s).take i):Int),(i:Int),())) s.size (λi=>inB (bt s i) 48 57) (-1,()) (s,(val ((L s).take s.size):Int),()) (λi hi hp=> ?_) (λ_=>by simp[jV]);unfold jV;simp only[AR hi,B6 hi,B1 hi (by omega:s.size<=9223372036854775807)];obtain h|h:=tf (inB (bt s i) 48 57)
    .have hv:=cF 5 _ aJL<|aEF hp J;have hb:=Aa.1 h;have e:w64 (w64 ((val ((L s).take i):Int) * 10)+w64 (w8<|bt s i - 48))=(val ((L s).take<|i+1):Int):=by
      rw[aHT hi,Nb,AZ (n:=_ * 10) J J,pC J J,AZ (n:=bt s i - 48) J J,AZ J J];rw[KI]at hb ⊢;omega
     have e2:U (bt s i<48)=A0:=by simp;omega
     have e3:U (57<bt s i)=A0:=by simp;omega
     simp only[h,e,e2,e3];rfl
    .have hb:bt s i<48\/57<bt s i:=by
      have:=mt Aa.2 (by rw[h];simp);omega
     simp only[h];obtain hb|hb:=hb
     .simp[hb]
     .have:¬bt s i<48:=J
      simp[hb,this]
   rw[e1,A5 h5];simp only[GJ,A4];have EG:Ap s.size (λi=>inB (bt s i) 48 57)=(L s).all dig:=aJv (l:=L s) (f:=dig);rw[EG];unfold Kl;obtain h'|h':=tf ((L s).all dig)
   .have hd:=CZ.1 h';have hv:=cF 5 (L s) (by rw[Az];omega) hd;simp only[h',A2,C9,AU,G5 (n:=(val (L s):Int)) J J,A6,aIL];obtain hl|hl:=tf (Jd<|L s)
    .have:(⟨(dcm<|val<|L s).toArray⟩:A1)=s:=by
      apply GD;rw[sB,aaG _ _ rfl hd hl]
     simp[this,hl]
    .have:¬(⟨(dcm<|val<|L s).toArray⟩:A1)=s:=λh=>by
      have h2:=congrArg L h;rw[sB]at h2;rw[← h2,(aIK (val (L s)+1) _ J).1]at hl;cases hl
     simp[this,hl]
   .rw[h'];rfl
  .have e1:(U ((s.size:Int)<1)||decide (4<(s.size:Int)))=Y:=by simp;omega
   have:L s=[]:=E5 (by rw[Az];omega);rw[e1,A5 h5,this];simp[Kl,Jd]
 .have e1:(U ((s.size:Int)<1)||decide (4<(s.size:Int)))=Y:=by simp;omega
  rw[e1,A9 h5];simp
def aue{s:A1}{n:Nat}:Au s=((n:Int),Y)↔s.size<=5/\L s=dcm n:=by
 unfold Au;by_cases h:s.size<=5
 .rw[A5 h];constructor
  .intro h2;cases h3:Kl (L s) with
   | none=>rw[h3]at h2;cases h2
   | some m=>
    rw[h3]at h2;simp at h2;exact⟨h,by rw[Qw.1 h3,show m=n by omega]⟩
  .rintro⟨_,h2⟩;rw[Qw.2 h2]
 .rw[A9 h];constructor
  .intro h2;cases h2
  .rintro⟨h2,_⟩;exact absurd h2 h
def TZ(s:A1):Au s=(0,A0)\/ ∃n:Nat,Au s=((n:Int),Y)/\s.size<=5/\L s=dcm n:=by
 unfold Au;by_cases h:s.size<=5
 .rw[A5 h];cases h2:Kl (L s) with
  | none=>exact .inl rfl
  | some n=>exact .inr ⟨n,rfl,h,Qw.1 h2⟩
 .rw[A9 h];exact .inl rfl
def TW(s:A1):(Af s= -1/\ ∀n,L s=dcm n->4<s.size)\/ ∃n:Nat,Af s=(n:Int)/\s.size<=4/\L s=dcm n:=by
 unfold Af;by_cases h:s.size<=4
 .rw[A5 h];cases h2:Kl (L s) with
  | none=>exact .inl ⟨rfl,λn hn=>by rw[Qw.2 hn]at h2;cases h2⟩
  | some n=>exact .inr ⟨n,rfl,h,Qw.1 h2⟩
 .rw[A9 h];exact .inl ⟨rfl,λn _=>by omega⟩
def qT{s:A1}{n:Nat}(h:s.size<=4)(hn:L s=dcm n):Af s=(n:Int):=by
 unfold Af;rw[A5 h,Qw.2 hn]
def nL{s:A1}{n:Nat}(h:s.size<=5)(hn:L s=dcm n):Au s=((n:Int),Y):=aue.2 ⟨h,hn⟩
section
variable {α:Type} (f:α->Bool)
def ins(l:List α)(n:α):List α:=l.takeWhile f++n::l.dropWhile f
abbrev tw(l:List α):Nat:=(l.takeWhile f).length
def S6(l:List α):tw f l<=l.length:=by
 exact(aFL f).length_le
def aP(l:List α):l.take (tw f l)=l.takeWhile f:=by
 have:=List.take_left (l₁:=l.takeWhile f) (l₂:=l.dropWhile f);rwa[bB]at this
def aQ(l:List α):l.drop (tw f l)=l.dropWhile f:=by
 have:=List.drop_left (l₁:=l.takeWhile f) (l₂:=l.dropWhile f);rwa[bB]at this
def VI:∀ {l:List α} {i:Nat} {x:α},i<tw f l->l[i]? =I x->f x=Y
 | [],i,x,h,hx=>by simp at hx
 | y::l,i,x,h,hx=>by
  unfold tw at h;rw[Rw]at h;split at h
  .rename_i hy;cases i with
   | zero=>simp at hx;subst hx;exact hy
   | succ i=>exact VI (l:=l) (i:=i) (by simpa using h) (by simpa using hx)
  .simp at h
def VJ:∀ {l:List α} {x:α},l[tw f l]? =I x->f x=A0
 | [],x,hx=>by simp at hx
 | y::l,x,hx=>by
  unfold tw at hx;rw[Rw]at hx;split at hx
  .exact VJ (l:=l) (by simpa using hx)
  .rename_i hy;simp at hx;subst hx;simpa using hy
def Om(l:List α)(n:α):(ins f l n).length=l.length+1:=by
 have:=congrArg Jl<|bB (p:=f) (l:=l);rw[Ax]at this;simp only[ins,Ax,Bf];omega
def Gu{l:List α}{n x:α}(h:x∈ins f l n):x=n\/x∈l:=by
 unfold ins at h;rw[BL,Bm]at h;obtain h|h|h:=h
 .exact .inr ((aFL f).mem h)
 .exact .inl h
 .exact .inr<|(List.dropWhile_sublist f).mem h
def Is{l:List α}{n x:α}(h:x=n\/x∈l):x∈ins f l n:=by
 unfold ins;rw[BL,Bm];obtain h|h:=h
 .exact .inr (.inl h)
 .rw[← bB (p:=f) (l:=l),BL]at h;obtain h|h:=h
  .exact .inl h
  .exact .inr<|.inr h
end
def pq{α:Type}{f g:α->Bool}:∀ {l:List α},(∀x∈l,f x=g x)->l.takeWhile f=l.takeWhile g/\l.dropWhile f=l.dropWhile g
 | [],_=>⟨rfl,rfl⟩
 | x::l,h=>by
  have ih:=pq (l:=l) (λy hy=>h y<|Ak _ hy);rw[Rw,Rw,pM,pM,h x As,ih.1,ih.2];exact⟨rfl,rfl⟩
def aGc{α:Type}{f g:α->Bool}{l:List α}{n:α}(h:∀x∈l,f x=g x):ins f l n=ins g l n:=by
 unfold ins;rw[(pq h).1,(pq h).2]
def DF{l:List A3}{i:Nat}{x:A3}(h:l[i]? =I x):nA l i=x:=JR h
def Fw{l:List Mark}{i:Nat}{x:Mark}(h:l[i]? =I x):mA l i=x:=JR h
def E3(l:List A3)(n:A3):List A3:=ins (λx=>bef x.fr x.nu n.fr n.nu) l n
def EL(l:List Mark)(n:Mark):List Mark:=ins (λx=>bef x.mf x.mn n.mf n.mn) l n
def ZZ{α:Type}{l:List α}{i:Nat}{x:α}(h:l[i]? =I x):l.take i++[x]=l.take (i+1):=by
 rw[JC,h];rfl
def aGE{α:Type}{l:List α}{i j:Nat}{x:α}(h:l[i]? =I x)(hj:j<=i):(l.take i).drop j++[x]=(l.take<|i+1).drop j:=by
 have hi:=(BN.1 h).1;rw[← ZZ h,Uj aJL]
def DW{α:Type}(g:α->Bool)(l:List α)(n:α)(i:Nat):List α:=if i<=tw g l then l.take i else l.take (tw g l)++n::(l.take i).drop (tw g l)
def Zg{α:Type}(g:α->Bool)(l:List α)(n:α)(i:Nat):(DW g l n i).length<=l.length+1:=by
 have:=S6 g l;unfold DW;split<;>simp<;>omega
def aGu{α:Type}(g:α->Bool)(l:List α)(n:α):(if tw g l<l.length then DW g l n l.length else DW g l n l.length++[n])=ins g l n:=by
 have h:=S6 g l;unfold DW ins;split
 .rw[A9 J,E6,aP,aQ]
 .rw[A5 J,E6];have:tw g l=l.length:=J
  rw[← aP,← aQ,this];simp
def aIC{α:Type}{g:α->Bool}{l:List α}{n x:α}{i:Nat}(h:l[i]? =I x)(hi:i<tw g l):DW g l n i++[x]=DW g l n (i+1):=by
 unfold DW;rw[A5 J,A5 J,ZZ h]
def aIE{α:Type}{g:α->Bool}{l:List α}{n x:α}{i:Nat}(h:l[i]? =I x)(hi:i=tw g l):DW g l n i++[n]++[x]=DW g l n (i+1):=by
 subst hi;unfold DW;rw[A5<|Aw _,A9 J,← aGE h<|Aw _];simp
def aID{α:Type}{g:α->Bool}{l:List α}{n x:α}{i:Nat}(h:l[i]? =I x)(hi:tw g l<i):DW g l n i++[x]=DW g l n (i+1):=by
 unfold DW;rw[A9 J,A9 J,← aGE h J];simp
def jf{l:List A3}{fr nu tt un:Int}{tx:A1}(hl:l.length<=1048576):Qf (l,(fr,nu,tt,un,tx,()),())=I ((E3 l ⟨fr,nu,tt,un,tx⟩,()),()):=by
 have ht:=S6 (λx:A3=>bef x.fr x.nu fr nu) l;have h:ve (l,(fr,nu,tt,un,tx,()),0,())=I (.inr (l,(fr,nu,tt,un,tx,()),((tw (λx:A3=>bef x.fr x.nu fr nu) l:Nat):Int),())):=
  CE (λi=>(l,(fr,nu,tt,un,tx,()),(i:Int),())) (tw (λx:A3=>bef x.fr x.nu fr nu) l) (λi hi=>by
   have hi':i<l.length:=J
   have hx:=Ar hi';unfold jF;simp only[AR hi',B6 hi',Cf,TK,B1 hi' (by omega:l.length<=9223372036854775807),DF hx,VI (λx:A3=>bef x.fr x.nu fr nu) hi hx];rfl) (by
   unfold jF;generalize ht2:tw (λx:A3=>bef x.fr x.nu fr nu) l=t at *;obtain hlt|hge:=Gl t l.length
   .have hx:=Ar hlt;have:=VJ (λx:A3=>bef x.fr x.nu fr nu) (l:=l) (x:=l[t]) (by rw[ht2];exact hx);simp only[AR hlt,B6 hlt,Cf,TK,DF hx,this];rfl
   .have e:U ((t:Int)<(j8 l:Int))=A0:=by simp;omega
    simp only[e,Hl,A2,AP,A4])
 unfold Qf;have hb:(U (0<=((tw (λx:A3=>bef x.fr x.nu fr nu) l:Nat):Int))&&U (((tw (λx:A3=>bef x.fr x.nu fr nu) l:Nat):Int)<=(j8 l:Int)))=Y:=by simp;omega
 simp only[h,C9,hb,A2,BX,El,CL,DR,Ax,Bf,DS,EQ];rw[A5<|BE J,A5<|BE J,A5<|BE J,aP,aQ];simp[E3,ins]
def Pu(l:List A3)(n:A3):List A3:=ins (λx=> !bef n.fr n.nu x.fr x.nu) l n
def fH{l:List A3}{fr nu tt un:Int}{tx:A1}(hl:l.length<=1048576):QE (l,(fr,nu,tt,un,tx,()),())=I ((Pu l ⟨fr,nu,tt,un,tx⟩,()),()):=by
 let g:A3->Bool:=λx=> !bef fr nu x.fr x.nu
 have ht:=S6 g l;have h:tH (l,(fr,nu,tt,un,tx,()),[],A0,0,())=I (.inr ((fr,nu,tt,un,tx,()),DW g l ⟨fr,nu,tt,un,tx⟩ l.length,U<|tw g l<l.length,())):=by
  refine CE (λi=>(l,(fr,nu,tt,un,tx,()),DW g l ⟨fr,nu,tt,un,tx⟩ i,U<|tw g l<i,(i:Int),())) l.length (λi hi=> ?_) (by simp[fB]);have hx:=Ar hi;have hr:=Zg g l ⟨fr,nu,tt,un,tx⟩ i;unfold fB;simp only[AR hi,B6 hi,Cf,YZ,B1 hi (by omega:l.length<=9223372036854775807),DF hx,Bf,CL,DR,BE<|show(DW g l ⟨fr,nu,tt,un,tx⟩ i).length+1<=4294967296 by omega];obtain hlt|heq|hgt:=IX i (tw g l)
  .have h1:bef fr nu l[i].fr l[i].nu=A0:=by simpa[g] using VI g hlt hx
   have h2:U (tw g l<i)=A0:=by simp;omega
   have h3:U (tw g l<i+1)=A0:=by simp;omega
   simp only[h1,h2,h3,Im,AH,A2,D6,Cy,Ba,A4,Bh,Cf,DF hx,AR hi,BE<|show(DW g l ⟨fr,nu,tt,un,tx⟩ i).length+1<=4294967296 by omega,aIC hx hlt,B1 hi (by omega:l.length<=9223372036854775807)]
  .have hx2:l[tw g l]? =I l[i]:=by rw[← heq];exact hx
   have h1:bef fr nu l[i].fr l[i].nu=Y:=by simpa[g] using VJ g hx2
   have h2:U (tw g l<i)=A0:=by simp;omega
   have h3:U (tw g l<i+1)=Y:=by simp;omega
   have h4:DW g l ⟨fr,nu,tt,un,tx⟩ i++[⟨fr,nu,tt,un,tx⟩]++[l[i]]=DW g l ⟨fr,nu,tt,un,tx⟩ (i+1):=aIE hx heq;simp only[h1,h2,h3,h4,Im,AH,A2,D6,Cy,Dn,Bh,Cf,DF hx,AR hi,Ax,Bf,CL,DR,BE<|show(DW g l ⟨fr,nu,tt,un,tx⟩ i).length+1+1<=4294967296 by omega,B1 hi (by omega:l.length<=9223372036854775807)]
  .have h2:U (tw g l<i)=Y:=by simp;omega
   have h3:U (tw g l<i+1)=Y:=by simp;omega
   simp only[h2,h3,Hl,AB,A2,AP,A4,Bh,Cf,DF hx,AR hi,BE<|show(DW g l ⟨fr,nu,tt,un,tx⟩ i).length+1<=4294967296 by omega,aID hx hgt,B1 hi (by omega:l.length<=9223372036854775807)]
 unfold QE;simp only[h,C9];have he:=aGu g l ⟨fr,nu,tt,un,tx⟩;have hr:=Zg g l ⟨fr,nu,tt,un,tx⟩ l.length;unfold Pu;show _=I ((ins g l _,()),());rw[← he];by_cases hc:tw g l<l.length
 .simp[hc]
 .simp[hc,BE<|show(DW g l ⟨fr,nu,tt,un,tx⟩ l.length).length+1<=4294967296 by omega]
def HP(t:Int)(l:List A3):List A3:=l.filter λx=>U<|t<x.un
def lb{l:List Mark}{mf mn mu:Int}(hl:l.length<=1048576):TG (l,(mf,mn,mu,()),())=I ((EL l ⟨mf,mn,mu⟩,()),()):=by
 have ht:=S6 (λx:Mark=>bef x.mf x.mn mf mn) l;have h:vV (l,(mf,mn,mu,()),0,())=I (.inr (l,(mf,mn,mu,()),((tw (λx:Mark=>bef x.mf x.mn mf mn) l:Nat):Int),())):=
  CE (λi=>(l,(mf,mn,mu,()),(i:Int),())) (tw (λx:Mark=>bef x.mf x.mn mf mn) l) (λi hi=>by
   have hi':i<l.length:=J
   have hx:=Ar hi';unfold iu;simp only[AR hi',B6 hi',FJ,TK,B1 hi' (by omega:l.length<=9223372036854775807),Fw hx,VI (λx:Mark=>bef x.mf x.mn mf mn) hi hx];rfl) (by
   unfold iu;generalize ht2:tw (λx:Mark=>bef x.mf x.mn mf mn) l=t at *;obtain hlt|hge:=Gl t l.length
   .have hx:=Ar hlt;have:=VJ (λx:Mark=>bef x.mf x.mn mf mn) (l:=l) (x:=l[t]) (by rw[ht2];exact hx);simp only[AR hlt,B6 hlt,FJ,TK,Fw hx,this];rfl
   .have e:U ((t:Int)<(j8 l:Int))=A0:=by simp;omega
    simp only[e,Hl,A2,AP,A4])
 unfold TG;have hb:(U (0<=((tw (λx:Mark=>bef x.mf x.mn mf mn) l:Nat):Int))&&U (((tw (λx:Mark=>bef x.mf x.mn mf mn) l:Nat):Int)<=(j8 l:Int)))=Y:=by simp;omega
 simp only[h,C9,hb,A2,BX,El,CL,DR,Ax,Bf,DS,EQ];rw[A5<|BE J,A5<|BE J,A5<|BE J,aP,aQ];simp[EL,ins]
def Pv(l:List Mark)(n:Mark):List Mark:=ins (λx=> !bef n.mf n.mn x.mf x.mn) l n
def vP{l:List Mark}{mf mn mu:Int}(hl:l.length<=1048576):Se (l,(mf,mn,mu,()),())=I ((Pv l ⟨mf,mn,mu⟩,()),()):=by
 let g:Mark->Bool:=λx=> !bef mf mn x.mf x.mn
 have ht:=S6 g l;have h:tJ (l,(mf,mn,mu,()),[],A0,0,())=I (.inr ((mf,mn,mu,()),DW g l ⟨mf,mn,mu⟩ l.length,U<|tw g l<l.length,())):=by
  refine CE (λi=>(l,(mf,mn,mu,()),DW g l ⟨mf,mn,mu⟩ i,U<|tw g l<i,(i:Int),())) l.length (λi hi=> ?_) (by simp[fC]);have hx:=Ar hi;have hr:=Zg g l ⟨mf,mn,mu⟩ i;unfold fC;simp only[AR hi,B6 hi,FJ,YZ,B1 hi (by omega:l.length<=9223372036854775807),Fw hx,Bf,CL,DR,BE<|show(DW g l ⟨mf,mn,mu⟩ i).length+1<=4294967296 by omega];obtain hlt|heq|hgt:=IX i (tw g l)
  .have h1:bef mf mn l[i].mf l[i].mn=A0:=by simpa[g] using VI g hlt hx
   have h2:U (tw g l<i)=A0:=by simp;omega
   have h3:U (tw g l<i+1)=A0:=by simp;omega
   simp only[h1,h2,h3,Im,AH,A2,D6,Cy,Ba,A4,Bh,FJ,Fw hx,AR hi,BE<|show(DW g l ⟨mf,mn,mu⟩ i).length+1<=4294967296 by omega,aIC hx hlt,B1 hi (by omega:l.length<=9223372036854775807)]
  .have hx2:l[tw g l]? =I l[i]:=by rw[← heq];exact hx
   have h1:bef mf mn l[i].mf l[i].mn=Y:=by simpa[g] using VJ g hx2
   have h2:U (tw g l<i)=A0:=by simp;omega
   have h3:U (tw g l<i+1)=Y:=by simp;omega
   have h4:DW g l ⟨mf,mn,mu⟩ i++[⟨mf,mn,mu⟩]++[l[i]]=DW g l ⟨mf,mn,mu⟩ (i+1):=aIE hx heq;simp only[h1,h2,h3,h4,Im,AH,A2,D6,Cy,Dn,Bh,FJ,Fw hx,AR hi,Ax,Bf,CL,DR,BE<|show(DW g l ⟨mf,mn,mu⟩ i).length+1+1<=4294967296 by omega,B1 hi (by omega:l.length<=9223372036854775807)]
  .have h2:U (tw g l<i)=Y:=by simp;omega
   have h3:U (tw g l<i+1)=Y:=by simp;omega
   simp only[h2,h3,Hl,AB,A2,AP,A4,Bh,FJ,Fw hx,AR hi,BE<|show(DW g l ⟨mf,mn,mu⟩ i).length+1<=4294967296 by omega,aID hx hgt,B1 hi (by omega:l.length<=9223372036854775807)]
 unfold Se;simp only[h,C9];have he:=aGu g l ⟨mf,mn,mu⟩;have hr:=Zg g l ⟨mf,mn,mu⟩ l.length;unfold Pv;show _=I ((ins g l _,()),());rw[← he];by_cases hc:tw g l<l.length
 .simp[hc]
 .simp[hc,BE<|show(DW g l ⟨mf,mn,mu⟩ l.length).length+1<=4294967296 by omega]
def KK(t:Int)(l:List Mark):List Mark:=l.filter λx=>U<|t<x.mu
def Yc{α:Type}{l:List α}{f:α->Bool}{i:Nat}{x:α}(h:l[i]? =I x):(l.take<|i+1).filter f=(l.take i).filter f++(if f x then [x] else []):=by
 rw[← ZZ h,Rl];congr 1;cases hf:f x<;>simp[hf]
def Yy{α:Type}{l:List α}{f:α->Bool}{i:Nat}:((l.take i).filter f).length<=l.length:=by
 have:=J4 f<|l.take i;simp at this;omega
def anv{id ti nx t:Int}{held:List A3}{marks:List Mark}{inbox:List A3}(sm:Dc held marks inbox):j9 ((id,ti,nx,held,marks,inbox,()),t,())=I (((id,t,nx,HP t held,KK t marks,inbox,()),()),()):=by
 have hl:=sm.hl;have ml:=sm.ml;have h0:vA (t,(id,ti,nx,held,marks,inbox,()),(0,0,0,[],[],[],()),(id,t,nx,[],[],inbox,()),held,(held.length:Int),0,())=I (.inr (t,(id,ti,nx,held,marks,inbox,()),(0,0,0,[],[],[],()),(id,t,nx,HP t held,[],inbox,()),())):=by
  rw[show HP t held=(held.take held.length).filter (λx=>U<|t<x.un) by rw[E6];rfl];refine CE (λi=>(t,(id,ti,nx,held,marks,inbox,()),(0,0,0,[],[],[],()),(id,t,nx,(held.take i).filter λx=>U<|t<x.un,[],inbox,()),held,(held.length:Int),(i:Int),())) held.length (λi hi=> ?_) (by simp[gz]);have hx:=Ar hi;have hr:=Yy (l:=held) (f:=λx=>U<|t<x.un) (i:=i);unfold gz;simp only[AR hi,B6 hi,Cf,DF hx,B1 hi (by omega:held.length<=9223372036854775807),Yc hx,Bf,CL,DR,BE<|show((held.take i).filter λx=>U<|t<x.un).length+1<=4294967296 by omega];by_cases hc:t<held[i].un<;>simp[hc]
 have h1:ui (t,(0,0,0,[],[],[],()),(id,t,nx,HP t held,[],inbox,()),marks,(marks.length:Int),0,())=I (.inr ((0,0,0,[],[],[],()),(id,t,nx,HP t held,KK t marks,inbox,()),())):=by
  rw[show KK t marks=(marks.take marks.length).filter (λx=>U<|t<x.mu) by rw[E6];rfl];refine CE (λi=>(t,(0,0,0,[],[],[],()),(id,t,nx,HP t held,(marks.take i).filter λx=>U<|t<x.mu,inbox,()),marks,(marks.length:Int),(i:Int),())) marks.length (λi hi=> ?_) (by simp[gy]);have hx:=Ar hi;have hr:=Yy (l:=marks) (f:=λx=>U<|t<x.mu) (i:=i);unfold gy;simp only[AR hi,B6 hi,FJ,Fw hx,B1 hi (by omega:marks.length<=9223372036854775807),Yc hx,Bf,CL,DR,BE<|show((marks.take i).filter λx=>U<|t<x.mu).length+1<=4294967296 by omega];by_cases hc:t<marks[i].mu<;>simp[hc]
 unfold j9;simp only[h0,h1,C9]
def amq{id ti nx t:Int}{held:List A3}{marks:List Mark}{inbox:List A3}(sm:Dc held marks inbox):ic ((id,ti,nx,held,marks,inbox,()),t,())=I (((id,t,nx,HP t held,KK t marks,inbox,()),()),()):=by
 have hl:=sm.hl;have ml:=sm.ml;have h0:um (t,(id,ti,nx,held,marks,inbox,()),(0,0,0,[],[],[],()),[],0,())=I (.inr (t,(id,ti,nx,held,marks,inbox,()),(0,0,0,[],[],[],()),HP t held,())):=by
  rw[show HP t held=(held.take held.length).filter (λx=>U<|t<x.un) by rw[E6];rfl];refine CE (λi=>(t,(id,ti,nx,held,marks,inbox,()),(0,0,0,[],[],[],()),(held.take i).filter λx=>U<|t<x.un,(i:Int),())) held.length (λi hi=> ?_) (by simp[iL]);have hx:=Ar hi;have hr:=Yy (l:=held) (f:=λx=>U<|t<x.un) (i:=i);unfold iL;simp only[AR hi,B6 hi,Cf,DF hx,B1 hi (by omega:held.length<=9223372036854775807),Yc hx,Bf,CL,DR,BE<|show((held.take i).filter λx=>U<|t<x.un).length+1<=4294967296 by omega];by_cases hc:t<held[i].un<;>simp[hc]
 have h1:uk (t,(id,ti,nx,held,marks,inbox,()),(0,0,0,[],[],[],()),HP t held,[],0,())=I (.inr (t,(id,ti,nx,held,marks,inbox,()),(0,0,0,[],[],[],()),HP t held,KK t marks,())):=by
  rw[show KK t marks=(marks.take marks.length).filter (λx=>U<|t<x.mu) by rw[E6];rfl];refine CE (λi=>(t,(id,ti,nx,held,marks,inbox,()),(0,0,0,[],[],[],()),HP t held,(marks.take i).filter λx=>U<|t<x.mu,(i:Int),())) marks.length (λi hi=> ?_) (by simp[iK]);have hx:=Ar hi;have hr:=Yy (l:=marks) (f:=λx=>U<|t<x.mu) (i:=i);unfold iK;simp only[AR hi,B6 hi,FJ,Fw hx,B1 hi (by omega:marks.length<=9223372036854775807),Yc hx,Bf,CL,DR,BE<|show((marks.take i).filter λx=>U<|t<x.mu).length+1<=4294967296 by omega];by_cases hc:t<marks[i].mu<;>simp[hc]
 unfold ic;simp only[h0,h1,C9]
def Ef(l:List A3)(i:Nat):List A3:=l.take i++l.drop (i+1)
def ant{l:List A3}{i:Nat}(hl:l.length<=1048576)(hi:i<l.length):T6 (l,(i:Int),())=I ((Ef l i,()),()):=by
 unfold T6;have h1:(U (0<=(i:Int))&&U ((i:Int)<=(j8 l:Int)))=Y:=by simp;omega
 have h2:(U (0<=((i+1:Nat):Int))&&U (((i+1:Nat):Int)<=(j8 l:Int)))=Y:=by simp;omega
 simp only[B1 hi (by omega:l.length<=9223372036854775807),h1,h2,A2,BX,El,CL,DR,DS,EQ];rw[A5<|BE J,A5<|BE J];rfl
end Go.VS
namespace Go.VS
open Go
def B_L(s:A1):B (L s)=s:=GD rfl
def Cb(l:List UInt8):Prop:=∀b∈l,b≠32
def ME:∀(l:List UInt8),Cb l\/ ∃w r,Cb w/\l=w++32::r
 | []=> .inl (λ_ h=>by cases h)
 | b::l=>by
  by_cases h:b=32
  .exact .inr ⟨[],l,(λ_ h=>by cases h),by rw[h];rfl⟩
  .rcases ME l with h1|⟨w,r,h1,h2⟩
   .refine .inl (λx hx=> ?_);obtain rfl|hx:=Bm.1 hx
    .exact h
    .exact h1 x hx
   .refine .inr ⟨b::w,r,λx hx=> ?_,by rw[h2];rfl⟩;obtain rfl|hx:=Bm.1 hx
    .exact h
    .exact h1 x hx
def qV:∀ {l:List UInt8},Cb l->Lib.index l [32]= -1
 | [],_=>rfl
 | b::l,h=>by
  rw[Ux];unfold Lib.indexByte;have h1:=h b As;rw[A9<|by simpa using h1,← Ux,qV λx hx=>h x<|Ak _ hx];rfl
def qW:∀ {w r:List UInt8},Cb w->Lib.index (w++32::r) [32]=w.length
 | [],r,_=>by rw[Ux];rfl
 | b::w,r,h=>by
  rw[Ux,Lf];unfold Lib.indexByte;have h1:=h b As;rw[A9<|by simpa using h1,← Ux,qW λx hx=>h x<|Ak _ hx,A9 aJO];simp
def azG{l:List UInt8}(h:Cb l):Fm l [32]=(l,[],A0):=by
 unfold Fm;rw[qV h,A9 J]
def azH{w r:List UInt8}(h:Cb w):Fm (w++32::r) [32]=(w,r,Y):=by
 unfold Fm;rw[qW h,A5 J];simp
def awg{s:A1}(hs:s.size<=1048576)(h:Cb (L s)):XS (s,B [32],())=I ((s,noB,A0,()),()):=by
 show Q2 _=_;unfold Q2;rw[A5 (by show s.size<_;omega)];show I ((B (Fm (L s) [32]).1,B (Fm (L s) [32]).2.1,(Fm (L s) [32]).2.2,()),())=_;rw[azG h];show I ((B<|L s,noB,A0,()),())=_;rw[B_L]
def awh{s:A1}{w r:List UInt8}(hs:s.size<=1048576)(h:Cb w)(e:L s=w++32::r):XS (s,B [32],())=I ((B w,B r,Y,()),()):=by
 show Q2 _=_;unfold Q2;rw[A5 (by show s.size<_;omega)];show I ((B (Fm (L s) [32]).1,B (Fm (L s) [32]).2.1,(Fm (L s) [32]).2.2,()),())=_;rw[e,azH h]
def re{s:A1}{i:Nat}:U (bt s i=32)=U ((L s).getD i 0=32):=by
 rw[decide_eq_decide,KI];exact⟨λh=>Rm.1 (by show _=32;omega),λh=>by rw[h];rfl⟩
def aGG{s:A1}(hs:s.size<=1048576):uz (s,0,())=I (if GC s.size (λi=>U<|bt s i=32)<0 then .inr (s,()) else
  .inl (s.extract 0 (GC s.size λi=>U<|bt s i=32).toNat,s.extract ((GC s.size λi=>U<|bt s i=32).toNat+1) s.size,())):=
 Qo (λi=>(s,(i:Int),())) s.size (λi=>U<|bt s i=32) (λi=>(s.extract 0 i.toNat,s.extract (i.toNat+1) s.size,())) (s,()) (λi hi=>by
  have h1:(U (0<=(i:Int))&&U ((i:Int)<=(s.size:Int)))=Y:=by simp;omega
  have h2:(U (0<=((i+1:Nat):Int))&&U (((i+1:Nat):Int)<=(s.size:Int)))=Y:=by simp;omega
  unfold iY;simp only[AR hi,B6 hi,B1 hi (by omega:s.size<=9223372036854775807),h1,h2,A2,BX];cases U (bt s i=32)<;>rfl) (by simp[iY])
def avT{n:Nat}{p:Nat->Bool}(h:∀i,i<n->p i=A0):GC n p= -1:=by
 obtain⟨h1,_⟩|⟨i,h1,h2,h3,_⟩:=GP n p
 .exact h1
 .rw[h i h2]at h3;cases h3
def aId{n i:Nat}{p:Nat->Bool}(hi:i<n)(hp:p i=Y)(h:∀j,j<i->p j=A0):GC n p=i:=by
 obtain⟨_,h1⟩|⟨j,h1,h2,h3,h4⟩:=GP n p
 .rw[h1 i hi]at hp;cases hp
 .rcases IX i j with h5|h5|h5
  .rw[h4 i h5]at hp;cases hp
  .rw[h1,h5]
  .rw[h j h5]at h3;cases h3
def avn{w r:List UInt8}{b:UInt8}:(w++b::r).getD w.length 0=b:=by simp
def aa9{w r:List UInt8}{j:Nat}(h:j<w.length):(w++r).getD j 0∈w:=by
 rw[BA,IT h,Ar h];exact CS h
def avm{l:List UInt8}{j:Nat}(h:j<l.length):l.getD j 0∈l:=by
 rw[BA,Ar h];exact CS h
def ash{s:A1}(hs:s.size<=1048576)(h:Cb (L s)):Oa (s,())=I ((s,noB,()),()):=by
 unfold Oa;simp only[aGG hs];rw[avT (λi hi=>by rw[re];simpa using h _<|avm (by rw[Az];exact hi))];rfl
def asi{s:A1}{w r:List UInt8}(hs:s.size<=1048576)(h:Cb w)(e:L s=w++32::r):Oa (s,())=I ((B w,B r,()),()):=by
 have hl:s.size=w.length+1+r.length:=by
  have:=congrArg Jl e;rw[Az]at this;simp at this;omega
 unfold Oa;simp only[aGG hs];rw[aId (i:=w.length) J (by rw[re,e,avn];rfl) (λj hj=>by rw[re,e];simpa using h _<|aa9 hj),A9 J];have e1:s.extract 0 w.length=B w:=GD (by rw[EI,e,L_B];simp);have e2:s.extract (w.length+1) s.size=B r:=GD (by rw[EI,e,L_B,hl,show w++32::r=(w++[32])++r by simp,Ro aJO,show w.length+1+r.length - (w.length+1)=r.length by omega,E6]);simp only[G6,BX,e1,e2]
def wr(n:A3):A1:=((((((((BZ n.fr++B [32])++BZ n.nu)++B [32])++BZ n.to)++B [32])++BZ n.un)++B [32])++n.tx)
def wrL(n:A3):List UInt8:=B7 n.fr++32::(B7 n.nu++32::(B7 n.to++32::(B7 n.un++32::L n.tx)))
def VG(n:Int):L (BZ n)=B7 n:=rfl
def SM(n:A3):L (wr n)=wrL n:=by
 unfold wr wrL;simp only[Gb,VG,L_B,C7,Lf,El]
def arn{n:Int}{k:Nat}(h0:0<=n)(h1:n<10 ^ k)(hk:1<=k):B7 n=dcm n.toNat/\(B7 n).length<=k:=by
 obtain⟨u,rfl⟩:=HZ h0;rw[JQ];refine⟨rfl,ML k u hk ?_⟩;have:((10 ^ k:Nat):Int)=(10:Int) ^ k:=by simp
 omega
structure VZ (n:A3):Prop where
 f0:0<=n.fr
 f1:n.fr<=3
 t0:0<=n.to
 t1:n.to<=3
 n0:1<=n.nu
 n1:n.nu<=99
 u0:1<=n.un
 u1:n.un<=999
 s0:1<=n.tx.size
 s1:n.tx.size<=24
def IF{n:A3}(h:Ay n=Y):VZ n:=by
 unfold Ay Lk at h;simp only[AD,Aa]at h;obtain⟨⟨a,b⟩,⟨c,d⟩,⟨e,f⟩,⟨g,i⟩,⟨j,k⟩,_⟩:=h;exact⟨a,b,c,d,e,f,g,i,J,J⟩
def NO{n:Int}{k:Nat}(h0:0<=n)(h1:n<10 ^ k)(hk:1<=k):(BZ n).size<=k:=(arn h0 h1 hk).2
def Wc{fr nu tt un:Int}{tx:A1}(hs:tx.size<=1048576):NB ((fr,nu,tt,un,tx,()),())=I ((if Ay ⟨fr,nu,tt,un,tx⟩ then wr ⟨fr,nu,tt,un,tx⟩ else noB,()),()):=by
 unfold NB;simp only[Xe hs,A6];obtain h|h:=tf (Ay ⟨fr,nu,tt,un,tx⟩)
 .have hf:=IF h;obtain⟨f0,f1,t0,t1,n0,n1,u0,u1,s0,s1⟩:=hf;simp only at f0 f1 t0 t1 n0 n1 u0 u1 s0 s1;have a1:=NO (n:=fr) (k:=1) f0 J J;have a2:=NO (n:=nu) (k:=2) J J J;have a3:=NO (n:=tt) (k:=1) t0 J J;have a4:=NO (n:=un) (k:=3) J J J;have b:(B [32]).size=1:=rfl;simp only[h,AB,A4,JU (n:=fr) J J,JU (n:=nu) J J,JU (n:=tt) J J,JU (n:=un) J J,A6,C3,b]
  repeat rw[A5 (by rw[decide_eq_true_eq];omega)]
  rfl
 .simp only[h,AH,A2,A4]
def Wm{fr nu tt un:Int}{tx:A1}(hs:tx.size<=1048576):NA ((fr,nu,tt,un,tx,()),())=I ((if Ay ⟨fr,nu,tt,un,tx⟩ then wr ⟨fr,nu,tt,un,tx⟩ else noB,()),()):=by
 unfold NA;simp only[XU hs,A6];obtain h|h:=tf (Ay ⟨fr,nu,tt,un,tx⟩)
 .have hf:=IF h;obtain⟨f0,f1,t0,t1,n0,n1,u0,u1,s0,s1⟩:=hf;simp only at f0 f1 t0 t1 n0 n1 u0 u1 s0 s1;have a1:=NO (n:=fr) (k:=1) f0 J J;have a2:=NO (n:=nu) (k:=2) J J J;have a3:=NO (n:=tt) (k:=1) t0 J J;have a4:=NO (n:=un) (k:=3) J J J;have b:(B [32]).size=1:=rfl;simp only[h,AB,A4,G5 (n:=fr) J J,G5 (n:=nu) J J,G5 (n:=tt) J J,G5 (n:=un) J J,A6,C3,b]
  repeat rw[A5 (by rw[decide_eq_true_eq];omega)]
  rfl
 .simp only[h,AH,A2,A4]
def O5:List UInt8->Option (List UInt8×List UInt8)
 | []=>G
 | b::l=>if b=32 then I ([],l) else(O5 l).map λp=>(b::p.1,p.2)
def UN:∀ {l:List UInt8},Cb l->O5 l=G
 | [],_=>rfl
 | b::l,h=>by
  unfold O5;rw[A9<|h b As,UN λx hx=>h x<|Ak _ hx];rfl
def UO:∀ {w r:List UInt8},Cb w->O5 (w++32::r)=I (w,r)
 | [],r,_=>rfl
 | b::w,r,h=>by
  rw[Lf];unfold O5;rw[A9<|h b As,UO λx hx=>h x<|Ak _ hx];rfl
def wd(s:A1):A1×A1:=match O5 (L s) with
 | some p=>(B p.1,B p.2)
 | none=>(s,noB)
def VH{s:A1}(h:Cb (L s)):wd s=(s,noB):=by unfold wd;rw[UN h]
def La{s:A1}{w r:List UInt8}(h:Cb w)(e:L s=w++32::r):wd s=(B w,B r):=by unfold wd;rw[e,UO h]
def UC(s:A1):(wd s).1.size<=s.size/\(wd s).2.size<=s.size:=by
 obtain h|⟨w,r,h,e⟩:=ME (L s)
 .rw[VH h];exact⟨Aw _,D5 _⟩
 .rw[La h e];have:=congrArg Jl e;rw[Az]at this;simp at this;rw[BS,BS];exact⟨by show w.length<=_;omega,by show r.length<=_;omega⟩
def aaK{s:A1}(hs:s.size<=1048576):Oa (s,())=I (((wd s).1,(wd s).2,()),()):=by
 obtain h|⟨w,r,h,e⟩:=ME (L s)
 .rw[VH h,ash hs h]
 .rw[La h e,asi hs h e]
def az0{s:A1}(hs:s.size<=1048576):XS (s,B [32],())=I (((wd s).1,(wd s).2,(O5<|L s).isSome,()),()):=by
 obtain h|⟨w,r,h,e⟩:=ME (L s)
 .rw[VH h,awg hs h,UN h];rfl
 .rw[La h e,awh hs h e,e,UO h];rfl
def EJ(s:A1):Nat->A1
 | 0=>s
 | i+1=>(wd<|EJ s i).2
def Ao(s:A1)(i:Nat):A1:=(wd<|EJ s i).1
def Yh(s:A1):∀i,(EJ s i).size<=s.size
 | 0=>Aw _
 | i+1=>Cc (UC<|EJ s i).2 (Yh s i)
def arA(s:A1)(i:Nat):(Ao s i).size<=s.size:=Cc (UC _).1<|Yh s i
def aaR{s:A1}{n:Nat}(hs:s.size<=1048576)(hn:n<=10):Qb (s,(n:Int),())=I (((B9 n).map λi=>Af<|Ao s i,EJ s n,()),()):=by
 have h:vO (s,(n:Int),[],0,())=I (.inr (EJ s n,(B9 n).map λi=>Af<|Ao s i,())):=by
  refine CE (λi=>(EJ s i,(n:Int),(B9 i).map λi=>Af<|Ao s i,(i:Int),())) n (λi hi=> ?_) (by simp[iZ]);have h1:=Yh s i;have h2:=arA s i;unfold iZ;simp only[B6 hi,aaK<|show(EJ s i).size<=1048576 by omega,A6,A2,mG (show(wd<|EJ s i).1.size<=9223372036854775807 by have:=(UC<|EJ s i).1;omega),
   Df,List.length_range,Bf,CL,DR,BE (J:i+1<=4294967296),B1 hi (by omega:n<=9223372036854775807),IU,Em,DZ,Jm]
  rfl
 unfold Qb;simp only[h,C9]
def aFc{ws:List A1}(hl:ws.length<=1048577)(hw:∀w∈ws,w.size<=1048576):
  Sr (ws,())=I ((if Ap ws.length (λi=>(Au<|ws.getD i noB).2) then(ws.map λw=>(Au w).1,Y,()) else([],A0,())),()):=by
 have h:uN ([],ws,(j8 ws:Int),0,())=I (if Ap ws.length (λi=>(Au<|ws.getD i noB).2) then .inr (ws.map λw=>(Au w).1,()) else .inl ([],A0,())):=by
  rw[show ws.map (λw=>(Au w).1)=(ws.take ws.length).map (λw=>(Au w).1) by rw[E6]];refine oA (λi=>((ws.take i).map λw=>(Au w).1,ws,(j8 ws:Int),(i:Int),())) ws.length (λi=>(Au<|ws.getD i noB).2) ([],A0,()) ((ws.take ws.length).map λw=>(Au w).1,()) (λi hi _=> ?_) (λ_=>by simp[fj]);have hx:=Ar hi;have hs:=hw _<|CS hi;unfold fj;simp only[AR hi,B6 hi,PI,JR hx,jH (J:ws[i].size<=9223372036854775807),A6,Df,DS,Bf,CL,DR,
   BE (J:min i ws.length+1<=4294967296),B1 hi (by omega:ws.length<=9223372036854775807)]
  rw[← ZZ hx,Em];obtain h|h:=tf (Au ws[i]).2<;>simp[h]
 unfold Sr;simp only[h];cases Ap ws.length (λi=>(Au<|ws.getD i noB).2)<;>rfl
def MC{w r:List UInt8}{k:Nat}(h:Cb w):Gm [32] 0 (k+1) (w++32::r)=w::Gm [32] 0 k r:=by
 conv=>lhs;unfold Gm
 rw[qW h,A9 aJO];show(w++32::r).take (w.length+0)::Gm [32] 0 k ((w++32::r).drop<|w.length+1)=_;rw[I0,Pg rfl,show w++32::r=(w++[32])++r by simp,Ro aJO]
def ZY{l:List UInt8}{k:Nat}(h:Cb l):Gm [32] 0 k l=[l]:=by
 cases k with
 | zero=>rfl
 | succ k=>
  unfold Gm;rw[qV h];rfl
def join:List (List UInt8)->List UInt8
 | []=>[]
 | [x]=>x
 | x::y::l=>x++32::join (y::l)
def atU(k:Nat)(l:List UInt8):∃x m,Gm [32] 0 k l=x::m:=by
 cases k with
 | zero=>exact⟨l,[],rfl⟩
 | succ k=>
  obtain h|⟨w,r,h,rfl⟩:=ME l
  .exact⟨l,[],ZY h⟩
  .exact⟨w,_,MC h⟩
def mV:∀(k:Nat) (l:List UInt8),join (Gm [32] 0 k l)=l
 | 0,_=>rfl
 | k+1,l=>by
  obtain h|⟨w,r,h,rfl⟩:=ME l
  .rw[ZY h];rfl
  .rw[MC h];have ih:=mV k r;obtain⟨x,m,e⟩:=atU k r;rw[e]at ih ⊢;show w++32::join (x::m)=_;rw[ih]
def azW{ps:List A1}{ls:List (List UInt8)}(h:ps.map (·.data.toList)=ls):ps=ls.map B:=by
 subst h;rw[IV]
 conv=>lhs;rw[← bR ps]
 exact H8 λs _=>(B_L s).symm
def aHv(k:Nat)(s:A1):JD (B [32]) 0 k s=(Gm [32] 0 k<|L s).map B:=azW<|Lib.splitB_data (B [32]) 0 k s
def axF{s:A1}(hs:s.size<=1048576):iD (s,B [32],())=I (((Gm [32] 0 ((L s).count 32)<|L s).map B,()),()):=by
 show V4 _=_;unfold V4;rw[A5 ⟨by show s.size<_;omega,by show 1<=1;omega⟩];show I ((JD (B [32]) 0 (Lib.count (L s) [32]) s,()),())=_;rw[aHv,Lib.count_one]
def avF{s:A1}(hs:s.size<=1048576):vj (s,B [32],5,())=I (((Gm [32] 0 (min 5 (s.size+1) - 1)<|L s).map B,()),()):=by
 show UB _=_;unfold UB;rw[A5 ⟨by show s.size<_;omega,by show 1<=1;omega,by show(1:Int)<=5;omega,by show(5:Int)<=_;omega⟩];show I ((JD (B [32]) 0 (min 5 (s.size+1) - 1) s,()),())=_;rw[aHv]
def aud(u:Nat):Cb (dcm u):=λb hb h=>by
 have:=Aa.1<|bq (u+1) u J b hb;subst h;simp at this
def Hm{n:Int}(h0:0<=n):Cb (B7 n):=by
 obtain⟨u,rfl⟩:=HZ h0;rw[JQ];exact aud u
def NL{n:Int}(h0:0<=n)(h1:n<10000):Af (B<|B7 n)=n:=by
 obtain⟨u,rfl⟩:=HZ h0;rw[JQ];exact qT (by rw[BS];exact ML 4 u J J)<|L_B _
def JL{n:Int}(h0:0<=n)(h1:n<100000):Au (B<|B7 n)=(n,Y):=by
 obtain⟨u,rfl⟩:=HZ h0;rw[JQ];exact nL (by rw[BS];exact ML 5 u J J)<|L_B _
open Classical in
def DN (s:A1):Option A3:=if h:∃n,Ay n=Y/\wr n=s then I (Nt h) else G
def KG{s t:A1}{x:Int}{r:List UInt8}(h:wd s=(B<|B7 x,B r)):(wd s).1=B (B7 x)/\L (wd s).2=r:=by rw[h];exact⟨rfl,rfl⟩
def q9{n:A3}(hf:VZ n){s:A1}(e:L s=wrL n):Ao s 0=B (B7 n.fr)/\Ao s 1=B (B7 n.nu)/\Ao s 2=B (B7 n.to)/\Ao s 3=B (B7 n.un)/\EJ s 4=n.tx:=by
 obtain⟨f0,f1,t0,t1,n0,n1,u0,u1,s0,s1⟩:=hf;unfold wrL at e;have e0:=La (Hm f0) e;have c1:L (EJ s 1)=_:=(KG (t:=s) e0).2;have e1:=La (Hm (J:0<=n.nu)) c1;have c2:L (EJ s 2)=_:=(KG (t:=s) e1).2;have e2:=La (Hm t0) c2;have c3:L (EJ s 3)=_:=(KG (t:=s) e2).2;have e3:=La (Hm (J:0<=n.un)) c3;have c4:L (EJ s 4)=_:=(KG (t:=s) e3).2;exact⟨(KG (t:=s) e0).1,(KG (t:=s) e1).1,(KG (t:=s) e2).1,(KG (t:=s) e3).1,GD c4⟩
def auF{n:A3}(hf:VZ n):Ao (wr n) 0=B (B7 n.fr)/\Ao (wr n) 1=B (B7 n.nu)/\Ao (wr n) 2=B (B7 n.to)/\Ao (wr n) 3=B (B7 n.un)/\EJ (wr n) 4=n.tx:=q9 hf<|SM n
def auc{n m:A3}(h1:n.fr=m.fr)(h2:n.nu=m.nu)(h3:n.to=m.to)(h4:n.un=m.un)(h5:n.tx=m.tx):n=m:=by
 cases n;cases m;simp only at h1 h2 h3 h4 h5;subst h1 h2 h3 h4 h5;rfl
def aI{x y:Int}(h0:0<=x)(h1:x<10000)(h2:0<=y)(h3:y<10000)(h:B (B7 x)=B (B7 y)):x=y:=by
 rw[← NL h0 h1,← NL h2 h3,h]
def ayc{n m:A3}(hn:Ay n=Y)(hm:Ay m=Y)(h:wr n=wr m):n=m:=by
 have fn:=IF hn;have fm:=IF hm;have a:=q9 fn (s:=wr n)<|SM n;have b:=q9 fm (s:=wr n) (by rw[h];exact SM m);clear h hn hm;generalize wr n=s at a b;obtain⟨a0,a1,a2,a3,a4⟩:=a;obtain⟨b0,b1,b2,b3,b4⟩:=b;obtain⟨f0,f1,t0,t1,n0,n1,u0,u1,s0,s1⟩:=fn;obtain⟨g0,g1,v0,v1,m0,m1,w0,w1,z0,z1⟩:=fm;exact auc (aI J J J J<|a0.symm.trans b0) (aI J J J J<|a1.symm.trans b1) (aI J J J J<|a2.symm.trans b2)
  (aI J J J J<|a3.symm.trans b3) (a4.symm.trans b4)
def Qm{n:A3}(h:Ay n=Y):DN (wr n)=I n:=by
 unfold DN;have hex:∃m,Ay m=Y/\wr m=wr n:=⟨n,h,rfl⟩;rw[dif_pos hex];have:=J9 hex;rw[ayc this.1 h this.2]
def KB{s:A1}{n:A3}(h:DN s=I n):Ay n=Y/\wr n=s:=by
 unfold DN at h;split at h
 .rename_i hex;cases h;exact J9 hex
 .cases h
def qt{n:A3}(hf:VZ n):9<=(wr n).size:=by
 obtain⟨f0,f1,t0,t1,n0,n1,u0,u1,s0,s1⟩:=hf;have h:∀ {x:Int},0<=x->1<=(B7 x).length:=fun {x} h0=>by
  obtain⟨u,rfl⟩:=HZ h0;rw[JQ];exact List.length_pos_iff.2<|rR u
 rw[← Az,SM];unfold wrL;have a:=h f0;have b:=h (J:0<=n.nu);have c:=h t0;have d:=h (J:0<=n.un);have e:(L n.tx).length=n.tx.size:=rfl;simp only[Ax,Bf];omega
def VM(o:Option A3):(Int×Int×Int×Int×A1×D)×Bool×D:=match o with
 | some n=>((n.fr,n.nu,n.to,n.un,n.tx,()),Y,())
 | none=>((0,0,0,0,noB,()),A0,())
def aAc{s:A1}(hs:s.size<=1048576):T3 (s,())=I (VM<|DN s,()):=by
 unfold T3;have e4:Qb (s,4,())=I (([Af<|Ao s 0,Af<|Ao s 1,Af<|Ao s 2,Af<|Ao s 3],EJ s 4,()),()):=aaR (n:=4) hs J;have hr:=Yh s 4;have i0:inb 0 [Af<|Ao s 0,Af<|Ao s 1,Af<|Ao s 2,Af<|Ao s 3].length=Y:=rfl;have i1:inb 1 [Af<|Ao s 0,Af<|Ao s 1,Af<|Ao s 2,Af<|Ao s 3].length=Y:=rfl;have i2:inb 2 [Af<|Ao s 0,Af<|Ao s 1,Af<|Ao s 2,Af<|Ao s 3].length=Y:=rfl;have i3:inb 3 [Af<|Ao s 0,Af<|Ao s 1,Af<|Ao s 2,Af<|Ao s 3].length=Y:=rfl;have r0: @rd Int aJR [Af<|Ao s 0,Af<|Ao s 1,Af<|Ao s 2,Af<|Ao s 3] 0=Af (Ao s 0):=rfl;have r1: @rd Int aJR [Af<|Ao s 0,Af<|Ao s 1,Af<|Ao s 2,Af<|Ao s 3] 1=Af (Ao s 1):=rfl;have r2: @rd Int aJR [Af<|Ao s 0,Af<|Ao s 1,Af<|Ao s 2,Af<|Ao s 3] 2=Af (Ao s 2):=rfl;have r3: @rd Int aJR [Af<|Ao s 0,Af<|Ao s 1,Af<|Ao s 2,Af<|Ao s 3] 3=Af (Ao s 3):=rfl;simp only[e4,A6,i0,i1,i2,i3,r0,r1,r2,r3,Wm<|show(EJ s 4).size<=1048576 by omega,D6,Cy,A2,show ∀c,Ae c Y=Y from λc=>rfl];generalize hx:(⟨Af<|Ao s 0,Af<|Ao s 1,Af<|Ao s 2,Af<|Ao s 3,EJ s 4⟩:A3)=x at *;by_cases hc:s≠noB/\(if Ay x then wr x else noB)=s
 .obtain⟨h1,h2⟩:=hc;have hok:Ay x=Y:=by
   obtain h|h:=tf (Ay x)
   .exact h
   .rw[h]at h2;exact absurd h2.symm h1
  rw[hok]at h2;simp only[A2]at h2;rw[A9<|by simp[h1,hok,h2],← h2,Qm hok];subst hx;simp only[h2];rfl
 .rw[A5 (by
   by_cases h1:s=noB
   .simp[h1]
   .have h2:¬(if Ay x then wr x else noB)=s:=λh=>hc ⟨h1,h⟩;simp[h1,h2])]
  cases h:DN s with
  | none=>rfl
  | some n=>
   exfalso;obtain⟨h1,h2⟩:=KB h;have hf:=IF h1;obtain⟨a0,a1,a2,a3,a4⟩:=auF hf;have hsz:=qt hf;obtain⟨f0,f1,t0,t1,n0,n1,u0,u1,s0,s1⟩:=hf;rw[h2]at a0 a1 a2 a3 a4;rw[a0,a1,a2,a3,a4,NL J J,NL J J,NL J J,NL J J]at hx;have hx:n=x:=hx;subst hx;refine hc ⟨λe=> ?_,by rw[h1];exact h2⟩;rw[h2,e]at hsz;exact absurd hsz<|by decide
def atT{n:A3}(hf:VZ n):Gm [32] 0 4 (wrL n)=[B7 n.fr,B7 n.nu,B7 n.to,B7 n.un,L n.tx]:=by
 obtain⟨f0,f1,t0,t1,n0,n1,u0,u1,s0,s1⟩:=hf;unfold wrL;rw[MC<|Hm f0,MC<|Hm J,MC<|Hm t0,MC<|Hm J];rfl
def mU:∀(k:Nat) (l:List UInt8),∀p∈Gm [32] 0 k l,p.length<=l.length
 | 0,l,p,hp=>by
  obtain rfl:=C8.1 hp;exact Aw _
 | k+1,l,p,hp=>by
  obtain h|⟨w,r,h,rfl⟩:=ME l
  .rw[ZY h]at hp;obtain rfl:=C8.1 hp;exact Aw _
  .rw[MC h]at hp;obtain rfl|hp:=Bm.1 hp
   .simp
   .have:=mU k r p hp;simp;omega
def nD:∀(k:Nat) (l:List UInt8),(Gm [32] 0 k l).length<=k+1
 | 0,l=>Aw _
 | k+1,l=>by
  obtain h|⟨w,r,h,rfl⟩:=ME l
  .rw[ZY h];simp
  .rw[MC h];have:=nD k r;simp;omega
def ak1{s:A1}(hs:s.size<=1048576):XA (s,())=I (VM<|DN s,()):=by
 unfold XA;simp only[avF hs,A6];generalize hk:min 5 (s.size+1) - 1=k;have hsz:=mU k<|L s;have hln:=nD k<|L s;have hwr:∀n,DN s=I n->Gm [32] 0 k (L s)=[B7 n.fr,B7 n.nu,B7 n.to,B7 n.un,L n.tx]:=λn hn=>by
  obtain⟨h1,h2⟩:=KB hn;have:=qt<|IF h1;rw[h2]at this;obtain rfl:k=4:=J
  rw[← h2,SM];exact atT<|IF h1
 generalize Gm [32] 0 k (L s)=ps at *;by_cases h5:ps.length=5
 .match ps,h5 with
  | [p0,p1,p2,p3,p4],_=>
   have hb:∀p∈[p0,p1,p2,p3,p4],(B p).size<=1048576:=λp hp=>by
    have:=hsz p hp;rw[Az]at this;rw[BS];omega
   have e5:(!decide (((([p0,p1,p2,p3,p4]:List (List UInt8)).map B).length:Int)=5))=A0:=rfl;have e6:(U (0<=4)&&U ((4:Int)<=((([p0,p1,p2,p3,p4]:List (List UInt8)).map B).length:Int)))=Y:=rfl;have e7:BQ (AO 4) (([p0,p1,p2,p3,p4]:List (List UInt8)).map B)=[B p0,B p1,B p2,B p3]:=rfl;simp only[e5,e6,e7,A2,A4];rw[aFc aJO (λw hw=>by
    simp only[Bm,List.not_mem_nil,or_false]at hw;obtain rfl|rfl|rfl|rfl:=hw
    .exact hb p0 aJO
    .exact hb p1 aJO
    .exact hb p2 aJO
    .exact hb p3 aJO)]
   have oH:Ap [B p0,B p1,B p2,B p3].length (λi=>(Au<|[B p0,B p1,B p2,B p3].getD i noB).2)=((Au<|B p0).2&&((Au<|B p1).2&&((Au<|B p2).2&&((Au<|B p3).2&&Y)))):=rfl;rw[oH];obtain ha|ha:=tf ((Au<|B p0).2&&((Au<|B p1).2&&((Au<|B p2).2&&((Au<|B p3).2&&Y))))
   .rw[ha];simp only[A2,A6,AB,A4,DZ,Jm];have i0:inb 0 [(Au<|B p0).1,(Au<|B p1).1,(Au<|B p2).1,(Au<|B p3).1].length=Y:=rfl;have i1:inb 1 [(Au<|B p0).1,(Au<|B p1).1,(Au<|B p2).1,(Au<|B p3).1].length=Y:=rfl;have i2:inb 2 [(Au<|B p0).1,(Au<|B p1).1,(Au<|B p2).1,(Au<|B p3).1].length=Y:=rfl;have i3:inb 3 [(Au<|B p0).1,(Au<|B p1).1,(Au<|B p2).1,(Au<|B p3).1].length=Y:=rfl;have i4:inb 4 [B p0,B p1,B p2,B p3,B p4].length=Y:=rfl;have r0: @rd Int aJR [(Au<|B p0).1,(Au<|B p1).1,(Au<|B p2).1,(Au<|B p3).1] 0=(Au<|B p0).1:=rfl;have r1: @rd Int aJR [(Au<|B p0).1,(Au<|B p1).1,(Au<|B p2).1,(Au<|B p3).1] 1=(Au<|B p1).1:=rfl;have r2: @rd Int aJR [(Au<|B p0).1,(Au<|B p1).1,(Au<|B p2).1,(Au<|B p3).1] 2=(Au<|B p2).1:=rfl;have r3: @rd Int aJR [(Au<|B p0).1,(Au<|B p1).1,(Au<|B p2).1,(Au<|B p3).1] 3=(Au<|B p3).1:=rfl;have r4: @rd A1 aJY [B p0,B p1,B p2,B p3,B p4] 4=B p4:=rfl;have hp4:=hb p4 aJO;simp only[i0,i1,i2,i3,i4,r0,r1,r2,r3,r4,A2,Xe hp4,Wc hp4,A6,D6,Cy,show ∀c,Ae c Y=Y from λc=>rfl];generalize hx:(⟨(Au<|B p0).1,(Au<|B p1).1,(Au<|B p2).1,(Au<|B p3).1,B p4⟩:A3)=x at *;by_cases hc:Ay x=Y/\wr x=s
    .obtain⟨h1,h2⟩:=hc;rw[A9<|by simp[h1,h2],← h2,Qm h1];subst hx;rfl
    .rw[A5 (by
      obtain h1|h1:=tf (Ay x)
      .have h2:¬wr x=s:=λh=>hc ⟨h1,h⟩;simp[h1,h2]
      .simp[h1])]
     cases h:DN s with
     | none=>rfl
     | some n=>
      exfalso;obtain⟨h1,h2⟩:=KB h;have hf:=IF h1;have hp:=hwr n h;simp only[Mt,and_true]at hp;obtain⟨rfl,rfl,rfl,rfl,rfl⟩:=hp;obtain⟨f0,f1,t0,t1,n0,n1,u0,u1,s0,s1⟩:=hf;rw[JL J J,JL J J,JL J J,JL J J,B_L]at hx;have hx:n=x:=hx;subst hx;exact hc ⟨h1,h2⟩
   .rw[ha];simp only[A6,AH,A2,A4];cases h:DN s with
    | none=>rfl
    | some n=>
     exfalso;obtain⟨h1,h2⟩:=KB h;have hf:=IF h1;have hp:=hwr n h;simp only[Mt,and_true]at hp;obtain⟨rfl,rfl,rfl,rfl,rfl⟩:=hp;obtain⟨f0,f1,t0,t1,n0,n1,u0,u1,s0,s1⟩:=hf;rw[JL J J,JL J J,JL J J,JL J J]at ha;cases ha
 .have e5:(!decide (((ps.map B).length:Int)=5))=Y:=by simp;omega
  simp only[e5,A2];cases h:DN s with
  | none=>rfl
  | some n=>
   have:=congrArg Jl<|hwr n h;simp at this;exact absurd this h5
abbrev KL:=Int×Int×Int×List A3×List Mark×List A3×D
abbrev tK(k:AE):KL:=(k.id,k.ti,k.nx,k.held,k.marks,k.inbox,())
def B5(r:Option ((KL×Bool×D)×D))(o:Option AE):Prop:=match o with
 | some k=>r=I ((tK k,Y,()),())
 | none=>∃t,r=I ((t,A0,()),())
def B5.no{t:KL}:B5 (I ((t,A0,()),())) G:=⟨t,rfl⟩
def B5.eta{r:Option ((KL×Bool×D)×D)}{o:Option AE}(h:B5 r o):
  B5 (r.bind λr=>I (((r.1.1.1,r.1.1.2.1,r.1.1.2.2.1,r.1.1.2.2.2.1,r.1.1.2.2.2.2.1,r.1.1.2.2.2.2.2.1,()),r.1.2.1,()),())) o:=by
 cases o with
 | some k=>
  have:r=_:=h;subst this;rfl
 | none=>
  obtain⟨t,rfl⟩:=h;exact⟨t,rfl⟩
def B5.ite{c:Bool}{a b:Option ((KL×Bool×D)×D)}{x y:Option AE}(h1:c=Y->B5 a x)(h2:c=A0->B5 b y):B5 (if c then a else b) (if c then x else y):=by
 cases c
 .exact h2 rfl
 .exact h1 rfl
def B5.neg{c:Bool}{t:KL}{b:Option ((KL×Bool×D)×D)}{y:Option AE}(h2:c=A0->B5 b y):B5 (if c then I ((t,A0,()),()) else b) (if c then G else y):=B5.ite (λ_=>B5.no) h2
def Eh(k:AE)(n:A3):Option AE:=
 if !Ay n then G else if U (n.un<=k.ti) then G else if U (0<=AY k.held n.fr n.nu) then G else if U (0<=AY k.inbox n.fr n.nu) then G else if U (0<=Br k.marks n.fr n.nu) then G else
 if U (12<(j8 k.held:Int)+k.marks.length+1) then G else
 if U (n.to=k.id) then I ⟨k.id,k.ti,k.nx,k.held,EL k.marks ⟨n.fr,n.nu,n.un⟩,E3 k.inbox n⟩ else I ⟨k.id,k.ti,k.nx,E3 k.held n,k.marks,k.inbox⟩
def aDJ{id ti nx fr nu tt un:Int}{tx:A1}{held:List A3}{marks:List Mark}{inbox:List A3}(sm:Dc held marks inbox)(hs:tx.size<=1048576):
  B5 (Xd ((id,ti,nx,held,marks,inbox,()),(fr,nu,tt,un,tx,()),())) (Eh ⟨id,ti,nx,held,marks,inbox⟩ ⟨fr,nu,tt,un,tx⟩):=by
 have hl:=sm.hl;have ml:=sm.ml;unfold Xd Eh;simp only[Xe hs,KA sm.hl,KA sm.il,TH sm.ml,jf sm.hl,jf sm.il,lb sm.ml,A6,
  AZ (n:=(held.length:Int)+marks.length) J J,AZ (n:=(held.length:Int)+marks.length+1) J J]
 exact B5.neg λ_=>B5.neg λ_=>B5.neg λ_=>B5.neg λ_=>B5.neg λ_=>B5.neg λ_=>B5.ite (λ_=>rfl) λ_=>rfl
def bV{l:List A3}{n:A3}(h:AY l n.fr n.nu<0):Pu l n=E3 l n:=by
 refine aGc λx hx=> ?_;have hne:¬(x.fr=n.fr/\x.nu=n.nu):=λhc=>by
  obtain⟨_,h2⟩|⟨i,h1,_⟩:=GP l.length (λi=>U ((nA l i).fr=n.fr)&&U ((nA l i).nu=n.nu))
  .obtain⟨j,hj,rfl⟩:=Cv hx;have:=h2 j hj;rw[DF<|Ar hj]at this;simp[hc.1,hc.2]at this
  .unfold AY at h;omega
 unfold bef;rw[Ke];simp;omega
def qG{l:List Mark}{n:Mark}(h:Br l n.mf n.mn<0):Pv l n=EL l n:=by
 refine aGc λx hx=> ?_;have hne:¬(x.mf=n.mf/\x.mn=n.mn):=λhc=>by
  obtain⟨_,h2⟩|⟨i,h1,_⟩:=GP l.length (λi=>U ((mA l i).mf=n.mf)&&U ((mA l i).mn=n.mn))
  .obtain⟨j,hj,rfl⟩:=Cv hx;have:=h2 j hj;rw[Fw<|Ar hj]at this;simp[hc.1,hc.2]at this
  .unfold Br at h;omega
 unfold bef;rw[Ke];simp;omega
def aE0{id ti nx fr nu tt un:Int}{tx:A1}{held:List A3}{marks:List Mark}{inbox:List A3}(sm:Dc held marks inbox)(hs:tx.size<=1048576):
  B5 (XO ((id,ti,nx,held,marks,inbox,()),(fr,nu,tt,un,tx,()),())) (Eh ⟨id,ti,nx,held,marks,inbox⟩ ⟨fr,nu,tt,un,tx⟩):=by
 have hl:=sm.hl;have ml:=sm.ml;have akm:iP ((id,ti,nx,held,marks,inbox,()),(fr,nu,tt,un,tx,()),())=
   I ((Ay ⟨fr,nu,tt,un,tx⟩&&(U (ti<un)&&(U (AY held fr nu<0)&&(U (Br marks fr nu<0)&&U (AY inbox fr nu<0)))),()),()):=by
  unfold iP;simp only[XU hs,K4 sm.hl,K4 sm.il,TC sm.ml,A6,D6,Cy,show ∀c,Ae c Y=Y from λc=>rfl,A2];obtain h1|h1:=tf (Ay ⟨fr,nu,tt,un,tx⟩)<;>obtain h2|h2:=tf (U<|ti<un)<;>obtain h3|h3:=tf (U<|AY held fr nu<0)<;>simp only[h1,h2,h3,A2,A4,AU,AP]
 unfold XO Eh;have Ew:=fH (l:=held) (fr:=fr) (nu:=nu) (tt:=tt) (un:=un) (tx:=tx) sm.hl;have dM:=fH (l:=inbox) (fr:=fr) (nu:=nu) (tt:=tt) (un:=un) (tx:=tx) sm.il;have akv:=vP (l:=marks) (mf:=fr) (mn:=nu) (mu:=un) sm.ml;simp only[akm,Ew,dM,akv,A6];obtain h1|h1:=tf (Ay ⟨fr,nu,tt,un,tx⟩)
 .rcases Ed un ti with h2|h2
  .simp only[h1,h2,AX,Ad,AU,AP,AH,AB,A2,A4];exact B5.no
  .rcases sgn (AY held fr nu) with h3|h3
   .rcases sgn (Br marks fr nu) with h4|h4
    .rcases sgn (AY inbox fr nu) with h5|h5
     .have q1:AY held fr nu<0:=of_eq_true h3.1;have q2:Br marks fr nu<0:=of_eq_true h4.1;have q3:AY inbox fr nu<0:=of_eq_true h5.1;have lN:=Om (λx:A3=>bef x.fr x.nu fr nu) held ⟨fr,nu,tt,un,tx⟩;have lM:=Om (λx:Mark=>bef x.mf x.mn fr nu) marks ⟨fr,nu,un⟩;have eN:Pu held ⟨fr,nu,tt,un,tx⟩=E3 held ⟨fr,nu,tt,un,tx⟩:=bV q1;have eI:Pu inbox ⟨fr,nu,tt,un,tx⟩=E3 inbox ⟨fr,nu,tt,un,tx⟩:=bV q3;have eM:Pv marks ⟨fr,nu,un⟩=EL marks ⟨fr,nu,un⟩:=qG q2;have l1:((E3 held ⟨fr,nu,tt,un,tx⟩).length:Int)=held.length+1:=by unfold E3;rw[lN];omega
      have l2:((EL marks ⟨fr,nu,un⟩).length:Int)=marks.length+1:=by unfold EL;rw[lM];omega
      simp only[h1,h2,h3,h4,h5,eN,eI,eM,l1,l2,AX,Ad,AU,AB,A4,
       AZ (n:=(held.length:Int)+1+marks.length) J J,AZ (n:=(held.length:Int)+(marks.length+1)) J J]
      obtain h6|h6:=Ed ((held.length:Int)+marks.length+1) 12
      .have a1:U ((held.length:Int)+1+marks.length<=12)=Y:=by have:=of_eq_true h6.1;simp;omega
       have a2:U ((held.length:Int)+(marks.length+1)<=12)=Y:=by have:=of_eq_true h6.1;simp;omega
       simp only[a1,a2,h6,Ad,A4];by_cases h7:tt=id
       .simp only[h7,AX,AB,A4,A2];rfl
       .simp only[h7,Ad,AH,A4,A2];rfl
      .have a1:U ((held.length:Int)+1+marks.length<=12)=A0:=by have:=of_eq_true h6.2;simp;omega
       have a2:U ((held.length:Int)+(marks.length+1)<=12)=A0:=by have:=of_eq_true h6.2;simp;omega
       simp only[a1,a2,h6,AX,A2];by_cases h7:tt=id
       .simp only[h7,AX,AB,A4];exact B5.no
       .simp only[h7,Ad,AH,A2];exact B5.no
     .simp only[h1,h2,h3,h4,h5,AX,Ad,AU,AP,AH,AB,A2,A4];exact B5.no
    .simp only[h1,h2,h3,h4,AX,Ad,AU,AP,AH,AB,A2,A4,ite_self];exact B5.no
   .simp only[h1,h2,h3,AX,Ad,AU,AP,AH,AB,A2,A4];exact B5.no
 .simp only[h1,AP,AH,A2];exact B5.no
abbrev ED:A1:=B [116,105,109,101]
abbrev F7:A1:=B [110,101,120,116]
abbrev Dk:A1:=B [111,119,110]
abbrev EY:A1:=B [116,97,107,101]
abbrev EZ:A1:=B [104,101,108,100]
abbrev Er:A1:=B [105,110,98,111,120]
abbrev C0:A1:=B [108,101,116]
abbrev CO:A1:=B [101,97,116]
abbrev DB:A1:=B [109,97,114,107]
def Hy(k:AE)(w:A1)(n:Int):Option AE:=
 if U (w=ED)&&U (k.ti<n) then I ⟨k.id,n,k.nx,HP n k.held,KK n k.marks,k.inbox⟩ else if U (w=F7)&&U (k.nx<n) then I ⟨k.id,k.ti,n,k.held,k.marks,k.inbox⟩ else G
def aqM{id ti nx n:Int}{w:A1}{held:List A3}{marks:List Mark}{inbox:List A3}(sm:Dc held marks inbox):
  B5 (Xp ((id,ti,nx,held,marks,inbox,()),w,n,())) (Hy ⟨id,ti,nx,held,marks,inbox⟩ w n):=by
 unfold Xp Hy;simp only[anv sm,A6];exact B5.ite (λ_=>rfl) λ_=>B5.ite (λ_=>rfl) λ_=>B5.no
def GS(k:AE)(w:A1)(n:A3):Option AE:=
 if U (w=Dk)&&(U (n.fr=k.id)&&U (n.nu=k.nx)) then Eh ⟨k.id,k.ti,k.nx+1,k.held,k.marks,k.inbox⟩ n else if U (w=EY)&& !decide (n.fr=k.id) then Eh k n else
 if U (0<=AY k.held n.fr n.nu)||decide (0<=AY k.inbox n.fr n.nu) then G else if U (w=EZ) then I ⟨k.id,k.ti,k.nx,E3 k.held n,k.marks,k.inbox⟩ else if U (w=Er) then I ⟨k.id,k.ti,k.nx,k.held,k.marks,E3 k.inbox n⟩ else G
def aoi{id ti nx fr nu tt un:Int}{w tx:A1}{held:List A3}{marks:List Mark}{inbox:List A3}(sm:Dc held marks inbox)(hs:tx.size<=1048576)(h0:0<=nx)(h1:nx<=1000):
  B5 (Xb ((id,ti,nx,held,marks,inbox,()),w,(fr,nu,tt,un,tx,()),())) (GS ⟨id,ti,nx,held,marks,inbox⟩ w ⟨fr,nu,tt,un,tx⟩):=by
 have hj:(if U (w=Dk) then(I (.inr (w,(id,ti,nx,held,marks,inbox,()),(fr,nu,tt,un,tx,()),(0,0,0,([]:List A3),([]:List Mark),([]:List A3),()),U (fr=id)&&U (nu=nx),())):Option (((KL×Bool×D)×D) ⊕ (A1×KL×(Int×Int×Int×Int×A1×D)×KL×Bool×D))) else
   I (.inr (w,(id,ti,nx,held,marks,inbox,()),(fr,nu,tt,un,tx,()),(0,0,0,([]:List A3),([]:List Mark),([]:List A3),()),A0,())))=
   I (.inr (w,(id,ti,nx,held,marks,inbox,()),(fr,nu,tt,un,tx,()),(0,0,0,([]:List A3),([]:List Mark),([]:List A3),()),U (w=Dk)&&(U (fr=id)&&U (nu=nx)),())):=by
  cases U (w=Dk)<;>rfl
 unfold Xb GS;simp only[hj,Bh];refine B5.ite (λ_=> ?_) λ_=> ?_
 .rw[AZ J J];exact(aDJ sm hs).eta
 refine B5.ite (λ_=>(aDJ sm hs).eta) λ_=> ?_;simp only[KA sm.hl,KA sm.il,A6,D6,Cy,show ∀c,Ae c Y=Y from λc=>rfl,A2];refine B5.neg λ_=> ?_;simp only[jf sm.hl,jf sm.il,A6];exact B5.ite (λ_=>rfl) λ_=>B5.ite (λ_=>rfl) λ_=>B5.no
def FK{l:List A3}{f n:Int}(h:0<=AY l f n):(AY l f n).toNat<l.length/\((AY l f n).toNat:Int)=AY l f n/\(nA l (AY l f n).toNat).fr=f/\(nA l (AY l f n).toNat).nu=n:=by
 obtain⟨h1,_⟩|⟨i,h1,h2,h3,_⟩:=GP l.length (λi=>U ((nA l i).fr=f)&&U ((nA l i).nu=n))
 .unfold AY at h;omega
 .have e:AY l f n=(i:Int):=h1;rw[e];simp at h3;exact⟨h2,rfl,h3.1,h3.2⟩
def bf{l:List Mark}{f n:Int}(h:0<=Br l f n):(Br l f n).toNat<l.length/\((Br l f n).toNat:Int)=Br l f n/\(mA l (Br l f n).toNat).mf=f/\(mA l (Br l f n).toNat).mn=n:=by
 obtain⟨h1,_⟩|⟨i,h1,h2,h3,_⟩:=GP l.length (λi=>U ((mA l i).mf=f)&&U ((mA l i).mn=n))
 .unfold Br at h;omega
 .have e:Br l f n=(i:Int):=h1;rw[e];simp at h3;exact⟨h2,rfl,h3.1,h3.2⟩
def NS{l:List A3}{f n:Int}(h:0<=AY l f n):inb (AY l f n) l.length=Y:=by
 obtain⟨h1,h2,_⟩:=FK h;rw[← h2];exact AR h1
def aGf{l:List A3}{f n:Int}:Ae (U<|0<=AY l f n) (inb (AY l f n) l.length)=Y:=by
 obtain h|h:=tf (U<|0<=AY l f n)
 .rw[h,Im,NS<|BV h]
 .rw[h,Hl]
def EM(l:List A3)(m:Mark):Bool:=U (0<=AY l m.mf m.mn)&&U ((nA l (AY l m.mf m.mn).toNat).un=m.mu)
def F1(k:AE)(w:A1)(m:Mark):Option AE:=
 if U (w=C0)&&EM k.held m then I ⟨k.id,k.ti,k.nx,Ef k.held (AY k.held m.mf m.mn).toNat,EL k.marks m,k.inbox⟩ else
 if U (w=CO)&&EM k.inbox m then I ⟨k.id,k.ti,k.nx,k.held,k.marks,Ef k.inbox (AY k.inbox m.mf m.mn).toNat⟩ else
 if U (w=DB)&& !decide (0<=Br k.marks m.mf m.mn) then I ⟨k.id,k.ti,k.nx,k.held,EL k.marks m,k.inbox⟩ else G
def abD{l:List A3}{f n:Int}(hl:l.length<=1048576)(h:0<=AY l f n):T6 (l,AY l f n,())=I ((Ef l (AY l f n).toNat,()),()):=by
 obtain⟨h1,h2,_⟩:=FK h
 conv=>lhs;rw[← h2]
 exact ant hl h1
def aoj{id ti nx a b c:Int}{w:A1}{held:List A3}{marks:List Mark}{inbox:List A3}(sm:Dc held marks inbox):
  B5 (Xc ((id,ti,nx,held,marks,inbox,()),w,(a,b,c,()),())) (F1 ⟨id,ti,nx,held,marks,inbox⟩ w ⟨a,b,c⟩):=by
 unfold Xc F1;simp only[KA sm.hl,KA sm.il,TH sm.ml,A6,aGf,Hl,A2];have hj:(if U (w=C0) then(I (.inr (w,(id,ti,nx,held,marks,inbox,()),(a,b,c,()),(0,0,0,([]:List A3),([]:List Mark),([]:List A3),()),AY held a b,AY inbox a b,U<|0<=Br marks a b,U (0<=AY held a b)&&U ((@rd A3 y5 held<|AY held a b).un=c),())):Option (((KL×Bool×D)×D) ⊕ (A1×KL×(Int×Int×Int×D)×KL×Int×Int×Bool×Bool×D))) else
   I (.inr (w,(id,ti,nx,held,marks,inbox,()),(a,b,c,()),(0,0,0,([]:List A3),([]:List Mark),([]:List A3),()),AY held a b,AY inbox a b,U<|0<=Br marks a b,A0,())))=
   I (.inr (w,(id,ti,nx,held,marks,inbox,()),(a,b,c,()),(0,0,0,([]:List A3),([]:List Mark),([]:List A3),()),AY held a b,AY inbox a b,U<|0<=Br marks a b,U (w=C0)&&EM held ⟨a,b,c⟩,())):=by
  cases U (w=C0)<;>rfl
 simp only[hj,Bh];refine B5.ite (λh=> ?_) λ_=> ?_
 .simp only[EM,AD,decide_eq_true_eq]at h;simp only[abD sm.hl h.2.1,lb sm.ml,A6];rfl
 simp only[aGf,Hl,A2];have hj2:(if U (w=CO) then(I (.inr (w,(id,ti,nx,held,marks,inbox,()),(a,b,c,()),(0,0,0,([]:List A3),([]:List Mark),([]:List A3),()),AY inbox a b,U<|0<=Br marks a b,U (0<=AY inbox a b)&&U ((@rd A3 y5 inbox<|AY inbox a b).un=c),())):Option (((KL×Bool×D)×D) ⊕ (A1×KL×(Int×Int×Int×D)×KL×Int×Bool×Bool×D))) else
   I (.inr (w,(id,ti,nx,held,marks,inbox,()),(a,b,c,()),(0,0,0,([]:List A3),([]:List Mark),([]:List A3),()),AY inbox a b,U<|0<=Br marks a b,A0,())))=
   I (.inr (w,(id,ti,nx,held,marks,inbox,()),(a,b,c,()),(0,0,0,([]:List A3),([]:List Mark),([]:List A3),()),AY inbox a b,U<|0<=Br marks a b,U (w=CO)&&EM inbox ⟨a,b,c⟩,())):=by
  cases U (w=CO)<;>rfl
 simp only[hj2,Bh];refine B5.ite (λh=> ?_) λ_=> ?_
 .simp only[EM,AD,decide_eq_true_eq]at h;simp only[abD sm.il h.2.1,A6];rfl
 simp only[lb sm.ml,A6];exact B5.ite (λ_=>rfl) λ_=>B5.no
structure Ey (k:AE):Prop where
 id0:0<=k.id
 id1:k.id<=3
 t0:0<=k.ti
 t1:k.ti<=999
 n0:1<=k.nx
 n1:k.nx<=100
 hl:k.held.length<=6
 h:DV k.held=Y
 ml:k.marks.length<=12
 m:Fa k.marks=Y
 il:k.inbox.length<=6
 i:DV k.inbox=Y
 ho:∀i,i<k.held.length->HO k.id k.ti k.nx k.held k.marks i=Y
 mo:∀i,i<k.marks.length->JP k.id k.ti k.nx k.marks i=Y
 io:∀i,i<k.inbox.length->It k.id k.ti k.nx k.marks k.inbox i=Y
def Bv{k:AE}(h:Av k=Y):Ey k:=by
 unfold Av at h;simp only[AD,Aa,decide_eq_true_eq,CC]at h;obtain⟨⟨a,b⟩,⟨c,d⟩,⟨e,f⟩,⟨g,i⟩,⟨j,l⟩,⟨m,n⟩,o,p,q⟩:=h;exact⟨a,b,c,d,e,f,J,i,J,l,J,n,o,p,q⟩
def HK{l:List A3}(h:DV l=Y){i:Nat}(hi:i<l.length):Ay (nA l i)=Y:=by
 have:=CC.1 h i hi;simp only[AD]at this;exact this.1
def Tn{l:List Mark}(h:Fa l=Y){i:Nat}(hi:i<l.length):FA (mA l i)=Y:=by
 have:=CC.1 h i hi;simp only[AD]at this;exact this.1
def Qi{l:List A3}(h:DV l=Y){x:A3}(hx:x∈l):Ay x=Y:=by
 obtain⟨i,hi,rfl⟩:=Cv hx;have:=HK h hi;rwa[DF<|Ar hi]at this
def aE6{l:List Mark}(h:Fa l=Y){x:Mark}(hx:x∈l):FA x=Y:=by
 obtain⟨i,hi,rfl⟩:=Cv hx;have:=Tn h hi;rwa[Fw<|Ar hi]at this
def LM{n:A3}(h:Ay n=Y):GU n:=by
 have:=(IF h).s1;unfold GU;omega
def Ey.sm{k:AE}(h:Ey k):Dc k.held k.marks k.inbox:=by
 obtain⟨id0,id1,t0,t1,n0,n1,hl,hh,ml,m,il,hi,ho,mo,io⟩:=h;exact⟨J,λx hx=>LM<|Qi hh hx,J,J,λx hx=>LM<|Qi hi hx⟩
def RB{l:List A3}{n:A3}(hl:l.length<=6)(h:∀x∈l,GU x)(hn:GU n):(E3 l n).length<=1048576/\ ∀x∈E3 l n,GU x:=by
 refine⟨by unfold E3;rw[Om];omega,λx hx=> ?_⟩;obtain rfl|hx:=Gu _ hx
 .exact hn
 .exact h x hx
def UL{l:List Mark}{n:Mark}(hl:l.length<=12):(EL l n).length<=1048576:=by unfold EL;rw[Om];omega
def bW{l:List A3}{i:Nat}(hl:l.length<=6)(h:∀x∈l,GU x):(Ef l i).length<=1048576/\ ∀x∈Ef l i,GU x:=by
 refine⟨by unfold Ef;simp;omega,λx hx=> ?_⟩;unfold Ef at hx;obtain hx|hx:=BL.1 hx
 .exact h x (Hb hx)
 .exact h x<|Jr hx
abbrev SmK(k:AE):Prop:=Dc k.held k.marks k.inbox
def bz{k k':AE}{n:A3}(hf:Ey k)(hk:k'.held=k.held/\k'.marks=k.marks/\k'.inbox=k.inbox){o:AE}(h:Eh k' n=I o):SmK o:=by
 have sm:=hf.sm;have l1:=hf.hl;have l2:=hf.ml;have l3:=hf.il;unfold Eh at h;rw[hk.1,hk.2.1,hk.2.2]at h;split at h
 .cases h
 rename_i hn;have hn:GU n:=LM (by simpa using hn)
 iterate 5 (split at h;· cases h)
 split at h<;>cases h
 .have a:=RB l3 sm.i hn;exact⟨sm.hl,sm.h,UL l2,a.1,a.2⟩
 .have a:=RB l1 sm.h hn;exact⟨a.1,a.2,sm.ml,sm.il,sm.i⟩
def axa{k:AE}{w:A1}{n:Int}(hf:Ey k){o:AE}(h:Hy k w n=I o):SmK o:=by
 have sm:=hf.sm;have l1:=hf.hl;have l2:=hf.ml;unfold Hy at h;split at h
 .cases h;have a:=J4 (λx:A3=>U<|n<x.un) k.held;have b:=J4 (λx:Mark=>U<|n<x.mu) k.marks;exact⟨by unfold HP;simp only;omega,λx hx=>sm.h x (FU.1 hx).1,by unfold KK;simp only;omega,sm.il,sm.i⟩
 .split at h<;>cases h;exact sm
def asI{k:AE}{w:A1}{n:A3}(hf:Ey k)(hn:Ay n=Y){o:AE}(h:GS k w n=I o):SmK o:=by
 have sm:=hf.sm;unfold GS at h;split at h
 .exact bz (k':=⟨k.id,k.ti,k.nx+1,k.held,k.marks,k.inbox⟩) hf ⟨rfl,rfl,rfl⟩ h
 split at h
 .exact bz (k':=k) hf ⟨rfl,rfl,rfl⟩ h
 split at h
 .cases h
 split at h
 .cases h;have a:=RB hf.hl sm.h<|LM hn;exact⟨a.1,a.2,sm.ml,sm.il,sm.i⟩
 split at h<;>cases h;have a:=RB hf.il sm.i<|LM hn;exact⟨sm.hl,sm.h,sm.ml,a.1,a.2⟩
def asL{k:AE}{w:A1}{m:Mark}(hf:Ey k){o:AE}(h:F1 k w m=I o):SmK o:=by
 have sm:=hf.sm;unfold F1 at h;split at h
 .cases h;have a:=bW (i:=(AY k.held m.mf m.mn).toNat) hf.hl sm.h;exact⟨a.1,a.2,UL hf.ml,sm.il,sm.i⟩
 split at h
 .cases h;have a:=bW (i:=(AY k.inbox m.mf m.mn).toNat) hf.il sm.i;exact⟨sm.hl,sm.h,sm.ml,a.1,a.2⟩
 split at h<;>cases h;exact⟨sm.hl,sm.h,UL hf.ml,sm.il,sm.i⟩
def me{k:AE}{w:A1}{m:Mark}(hf:Ey k)(hm:FA m=A0):F1 k w m=G\/ ∃o,F1 k w m=I o/\Av o=A0:=by
 have hit:∀l,DV l=Y->EM l m=A0:=λl hl=>by
  unfold EM;obtain h|h:=tf (U<|0<=AY l m.mf m.mn)
  .obtain⟨h1,_,h2,h3⟩:=FK<|BV h;rw[h,AU,decide_eq_false_iff_not];intro h4;have h5:=IF<|HK hl h1;have:FA m=Y:=by
    unfold FA;simp only[AD,Aa];have:=h5.f0;have:=h5.f1;have:=h5.n0;have:=h5.n1;have:=h5.u0;have:=h5.u1;omega
   rw[this]at hm;cases hm
  .rw[h];rfl
 unfold F1;rw[hit _ hf.h,hit _ hf.i,Ba,Ba,A4,A4];split
 .refine .inr ⟨_,rfl, ?_⟩;obtain h|h:=tf (Av ⟨k.id,k.ti,k.nx,k.held,EL k.marks m,k.inbox⟩)
  .have:=aE6 (Bv h).m (Is (λx=>bef x.mf x.mn m.mf m.mn) (l:=k.marks) (n:=m)<|.inl rfl);rw[hm]at this;cases this
  .exact h
 .exact .inl rfl
def HM(r:A1):Option Mark:=match Gm [32] 0 ((L r).count 32) (L r) with
 | [p,q,t]=>if(Au<|B p).2&&((Au<|B q).2&&((Au<|B t).2&&Y)) then I ⟨(Au<|B p).1,(Au<|B q).1,(Au<|B t).1⟩ else G
 | _=>G
def Bb(k:AE)(w r:A1):Option AE:=
 if U (w=ED)||decide (w=F7) then(if(Au r).2 then Hy k w (Au r).1 else G) else
 if U (w=Dk)||(U (w=EY)||(U (w=EZ)||decide (w=Er))) then(match DN r with|some n=>GS k w n|none=>G) else
 if U (w=C0)||(U (w=CO)||decide (w=DB)) then(match HM r with|some m=>F1 k w m|none=>G) else G
def GW(k:AE)(rec:A1):Option AE:=if !(O5<|L rec).isSome then G else Bb k (wd rec).1 (wd rec).2
def av3{id ti nx:Int}{w r:A1}{held:List A3}{marks:List Mark}{inbox:List A3}(sm:Dc held marks inbox)(hr:r.size<=1048576):
  B5 ((iD (r,B [32],())).bind λr46=>(Sr (r46.1.1,())).bind λr47=>
   if r47.1.2.1&&U ((j8 r47.1.1:Int)=3) then(if inb 0 r47.1.1.length then(if inb 1 r47.1.1.length then(if inb 2 r47.1.1.length then
    (Xc ((id,ti,nx,held,marks,inbox,()),w,((@rd Int aJR r47.1.1 0),(@rd Int aJR r47.1.1 1),(@rd Int aJR r47.1.1 2),()),())).bind λr48=>I (((r48.1.1.1,r48.1.1.2.1,r48.1.1.2.2.1,r48.1.1.2.2.2.1,r48.1.1.2.2.2.2.1,r48.1.1.2.2.2.2.2.1,()),r48.1.2.1,()),())
    else G) else G) else G)
   else I (((id,ti,nx,held,marks,inbox,()),A0,()),())) (match HM r with|some m=>F1 ⟨id,ti,nx,held,marks,inbox⟩ w m|none=>G):=by
 unfold HM;simp only[axF hr,A6];have hsz:=mU ((L r).count 32)<|L r;have hln:=nD ((L r).count 32)<|L r;have azx:(L r).count 32<=r.size:=List.count_le_length;generalize Gm [32] 0 ((L r).count 32) (L r)=ps at *;have hb:∀p∈ps,(B p).size<=1048576:=λp hp=>by
  have:=hsz p hp;rw[Az]at this;rw[BS];omega
 rw[aFc aJL (λw hw=>by
  obtain⟨p,hp,rfl⟩:=C1.1 hw;exact hb p hp)]
 simp only[A6];by_cases h3:ps.length=3
 .match ps,h3 with
  | [p,q,t],_=>
   have oH:Ap (([p,q,t]:List (List UInt8)).map B).length (λi=>(Au<|(([p,q,t]:List (List UInt8)).map B).getD i noB).2)=((Au<|B p).2&&((Au<|B q).2&&((Au<|B t).2&&Y))):=rfl;rw[oH];obtain h|h:=tf ((Au<|B p).2&&((Au<|B q).2&&((Au<|B t).2&&Y)))
   .simp only[h,A2];exact(aoj sm).eta
   .simp only[h,A4,AP];exact B5.no
 .have e1:∀c:Bool,(((if c then(((ps.map B).map λw=>(Au w).1),Y,()) else(([]:List Int),A0,())).2.1&&U ((((if c then(((ps.map B).map λw=>(Au w).1),Y,()) else(([]:List Int),A0,())):List Int×Bool×D).1.length:Int)=3))=A0):=by
   intro c;cases c
   .rfl
   .simp;omega
  rw[A9 (by rw[e1];simp)];have e2:(match ps with|[p,q,t]=>if(Au<|B p).2&&((Au<|B q).2&&((Au<|B t).2&&Y)) then I (⟨(Au<|B p).1,(Au<|B q).1,(Au<|B t).1⟩:Mark) else G|_=>G)=G:=by
   split
   .exact absurd rfl h3
   .rfl
  rw[e2];exact B5.no
def ayK{id ti nx:Int}{w r:A1}{held:List A3}{marks:List Mark}{inbox:List A3}(sm:Dc held marks inbox)(hr:r.size<=1048576){t:KL}:
  B5 ((QZ (r,())).bind λr33=>if r33.1.2.1 then(Xp ((id,ti,nx,held,marks,inbox,()),w,r33.1.1,())).bind λr34=>I (((r34.1.1.1,r34.1.1.2.1,r34.1.1.2.2.1,r34.1.1.2.2.2.1,r34.1.1.2.2.2.2.1,r34.1.1.2.2.2.2.2.1,()),r34.1.2.1,()),())
   else I ((t,A0,()),())) (if(Au r).2 then Hy ⟨id,ti,nx,held,marks,inbox⟩ w (Au r).1 else G):=by
 simp only[jH (J:r.size<=9223372036854775807),A6];exact B5.ite (λ_=>(aqM sm).eta) λ_=>B5.no
def azT{id ti nx:Int}{w r:A1}{held:List A3}{marks:List Mark}{inbox:List A3}(sm:Dc held marks inbox)(hr:r.size<=1048576)(h0:0<=nx)(h1:nx<=1000){t:KL}:
  B5 ((XA (r,())).bind λr40=>if r40.1.2.1 then(Xb ((id,ti,nx,held,marks,inbox,()),w,(r40.1.1.1,r40.1.1.2.1,r40.1.1.2.2.1,r40.1.1.2.2.2.1,r40.1.1.2.2.2.2.1,()),())).bind λr41=>
    I (((r41.1.1.1,r41.1.1.2.1,r41.1.1.2.2.1,r41.1.1.2.2.2.1,r41.1.1.2.2.2.2.1,r41.1.1.2.2.2.2.2.1,()),r41.1.2.1,()),())
   else I ((t,A0,()),())) (match DN r with|some n=>GS ⟨id,ti,nx,held,marks,inbox⟩ w n|none=>G):=by
 simp only[ak1 hr,A6];cases h:DN r with
 | none=>exact B5.no
 | some n=>
  have:=LM (KB h).1;exact(aoi sm this h0 h1).eta
def or3{a b c:Bool}{Ω X:Type}{f:Bool->X}:(if a then(I (.inr<|f a):Option (Ω ⊕ X)) else if b then I (.inr<|f b) else I (.inr<|f c))=I (.inr<|f<|a||(b||c)):=by cases a<;>cases b<;>rfl
def or2{a b:Bool}{Ω X:Type}{f:Bool->X}:(if a then(I (.inr<|f a):Option (Ω ⊕ X)) else I (.inr<|f b))=I (.inr<|f<|a||b):=by cases a<;>rfl
def or4{a b c d:Bool}{Ω X:Type}{f:Bool->X}:(if a then(I (.inr<|f a):Option (Ω ⊕ X)) else if b then I (.inr<|f b) else if c then I (.inr<|f c) else I (.inr<|f d))=I (.inr<|f<|a||(b||(c||d))):=by cases a<;>cases b<;>cases c<;>rfl
def aGY{a b:Bool}{Ω X:Type}{f:Bool->X}{g:X->Option Ω}{m:Option (Ω ⊕ X)}(h:m=(if a then(I (.inr<|f a):Option (Ω ⊕ X)) else I (.inr<|f b))):BU g m=g (f<|a||b):=by rw[h,or2];rfl
def asv{a b c:Bool}{Ω X:Type}{f:Bool->X}{g:X->Option Ω}{m:Option (Ω ⊕ X)}(h:m=(if a then(I (.inr<|f a):Option (Ω ⊕ X)) else if b then I (.inr<|f b) else I (.inr<|f c))):BU g m=g (f<|a||(b||c)):=by rw[h,or3];rfl
def asu{a b c d:Bool}{Ω X:Type}{f:Bool->X}{g:X->Option Ω}{m:Option (Ω ⊕ X)}(h:m=(if a then(I (.inr<|f a):Option (Ω ⊕ X)) else if b then I (.inr<|f b) else if c then I (.inr<|f c) else I (.inr<|f d))):BU g m=g (f<|a||(b||(c||d))):=by rw[h,or4];rfl
def aqN{id ti nx:Int}{rec:A1}{held:List A3}{marks:List Mark}{inbox:List A3}(sm:Dc held marks inbox)(hr:rec.size<=1048576)(h0:0<=nx)(h1:nx<=1000):
  B5 (Xq ((id,ti,nx,held,marks,inbox,()),rec,())) (GW ⟨id,ti,nx,held,marks,inbox⟩ rec):=by
 have hr2:(wd rec).2.size<=1048576:=by have:=(UC rec).2;omega
 unfold Xq GW Bb;simp only[az0 hr,A6];refine B5.neg λ_=> ?_;rw[aGY (a:=U<|(wd rec).1=ED) (b:=U<|(wd rec).1=F7) (f:=λv=>((id,ti,nx,held,marks,inbox,()),(0,0,0,[],[],[],()),(wd rec).1,(wd rec).2,(wd rec).1,v,())) rfl];refine B5.ite (λ_=>ayK sm hr2) λ_=> ?_;simp only;rw[asu (a:=U<|(wd rec).1=Dk) (b:=U<|(wd rec).1=EY) (c:=U<|(wd rec).1=EZ) (d:=U<|(wd rec).1=Er) (f:=λv=>((id,ti,nx,held,marks,inbox,()),(0,0,0,[],[],[],()),(wd rec).1,(wd rec).2,(wd rec).1,v,())) rfl];refine B5.ite (λ_=>azT sm hr2 h0 h1) λ_=> ?_;simp only;rw[asv (a:=U<|(wd rec).1=C0) (b:=U<|(wd rec).1=CO) (c:=U<|(wd rec).1=DB) (f:=λv=>((id,ti,nx,held,marks,inbox,()),(0,0,0,[],[],[],()),(wd rec).1,(wd rec).2,v,())) rfl];exact B5.ite (λ_=>av3 sm hr2) λ_=>B5.no
def avE{k:AE}{rec:A1}(hf:Ey k){o:AE}(h:GW k rec=I o):SmK o:=by
 unfold GW at h;split at h
 .cases h
 unfold Bb at h;split at h
 .split at h
  .exact axa hf h
  .cases h
 split at h
 .cases hn:DN (wd rec).2 with
  | none=>rw[hn]at h;cases h
  | some n=>rw[hn]at h;exact asI hf (KB hn).1 h
 split at h
 .cases hn:HM (wd rec).2 with
  | none=>rw[hn]at h;cases h
  | some n=>rw[hn]at h;exact asL hf h
 .cases h
def Fg(k:AE)(rec:A1):AE×Bool:=
 if Av k then(match (GW k rec).filter Av with|some k'=>(k',Y)|none=>(k,A0)) else(⟨0,0,0,[],[],[]⟩,A0)
def aDL{id ti nx:Int}{rec:A1}{held:List A3}{marks:List Mark}{inbox:List A3}(sm:Dc held marks inbox)(hr:rec.size<=1048576):
  TM ((id,ti,nx,held,marks,inbox,()),rec,())=I ((tK (Fg ⟨id,ti,nx,held,marks,inbox⟩ rec).1,(Fg ⟨id,ti,nx,held,marks,inbox⟩ rec).2,()),()):=by
 unfold TM Fg;simp only[lA sm,aAO sm,A6];obtain h|h:=tf (Av ⟨id,ti,nx,held,marks,inbox⟩)
 .have hf:=Bv h;have ha:=aqN (id:=id) (ti:=ti) (nx:=nx) sm hr (by have:=hf.n0;simp only at this;omega) (by have:=hf.n1;simp only at this;omega);simp only[h,AB,A4,A2];cases hst:GW ⟨id,ti,nx,held,marks,inbox⟩ rec with
  | none=>
   rw[hst]at ha;obtain⟨t,ht⟩:=ha;simp only[ht,A6,AH,AB,Hl,A2,By];rfl
  | some o=>
   rw[hst]at ha;have sm':=avE hf hst;rw[show Xq ((id,ti,nx,held,marks,inbox,()),rec,())=I ((tK o,Y,()),()) from ha];simp only[A6,AB,AH,Im,lA sm',aAO sm',D6,Cy,A2,Bl,Option.filter_some];obtain h2|h2:=tf (Av o)
   .simp only[h2,AB,A4,A2]
   .simp only[h2,AH,A4,A2]
 .simp only[h,AH,A4,A2]
def asC{id ti nx a b:Int}{held:List A3}{marks:List Mark}{inbox:List A3}(sm:Dc held marks inbox)(h:0<=AY held a b):
  jZ ((id,ti,nx,held,marks,inbox,()),a,b,())=I (((id,ti,nx,Ef held (AY held a b).toNat,Pv marks ⟨a,b,(nA held (AY held a b).toNat).un⟩,inbox,()),Y,()),()):=by
 obtain⟨h1,h2,_⟩:=FK h;have hl:=sm.hl;unfold jZ;have OF:U (AY held a b<0)=A0:=by simp;omega
 simp only[K4 sm.hl,A6,OF,A4,NS h,A2];generalize hi:(AY held a b).toNat=i at *;rw[← h2];have e1:(U (0<=(i:Int))&&U ((i:Int)<=(held.length:Int)))=Y:=by simp;omega
 have e2:(U (0<=((i+1:Nat):Int))&&U (((i+1:Nat):Int)<=(held.length:Int)))=Y:=by simp;omega
 simp only[B1 h1 (by omega:held.length<=9223372036854775807),e1,e2,A2,BX,El,CL,DR,DS,EQ,Cf,vP sm.ml,A6];rw[A5<|BE J,A5<|BE J];rfl
def asD{id ti nx a b:Int}{held:List A3}{marks:List Mark}{inbox:List A3}(sm:Dc held marks inbox)(h:0<=AY inbox a b):
  ja ((id,ti,nx,held,marks,inbox,()),a,b,())=I (((id,ti,nx,held,marks,Ef inbox (AY inbox a b).toNat,()),Y,()),()):=by
 obtain⟨h1,h2,_⟩:=FK h;have hl:=sm.il;unfold ja;have OF:U (AY inbox a b<0)=A0:=by simp;omega
 simp only[K4 sm.il,A6,OF,A4];generalize hi:(AY inbox a b).toNat=i at *;rw[← h2];have e1:(U (0<=(i:Int))&&U ((i:Int)<=(inbox.length:Int)))=Y:=by simp;omega
 have e2:(U (0<=((i+1:Nat):Int))&&U (((i+1:Nat):Int)<=(inbox.length:Int)))=Y:=by simp;omega
 simp only[B1 h1 (by omega:inbox.length<=9223372036854775807),e1,e2,A2,BX,El,CL,DR,DS,EQ];rw[A5<|BE J,A5<|BE J];rfl
def Lo(r:A1):Bool:= !decide (EJ r 3=noB)|| !decide (r=((((BZ (Af<|Ao r 0)++B [32])++BZ (Af<|Ao r 1))++B [32])++BZ (Af<|Ao r 2)))
def mk3(r:A1):Mark:=⟨Af<|Ao r 0,Af<|Ao r 1,Af<|Ao r 2⟩
def Ds(k:AE)(w r:A1):Option AE:=
 if U (w=ED) then(if U (Af r<=k.ti) then G else I ⟨k.id,Af r,k.nx,HP (Af r) k.held,KK (Af r) k.marks,k.inbox⟩) else
 if U (w=Dk) then(match DN r with|some n=>if !decide (n.fr=k.id) then G else if !decide (n.nu=k.nx) then G else Eh ⟨k.id,k.ti,k.nx+1,k.held,k.marks,k.inbox⟩ n|none=>G) else
 if U (w=EY) then(match DN r with|some n=>if U (n.fr=k.id) then G else Eh k n|none=>G) else
 if U (w=F7) then(if U (Af r<=k.nx) then G else I ⟨k.id,k.ti,Af r,k.held,k.marks,k.inbox⟩) else
 if U (w=EZ)||decide (w=Er) then(match DN r with|some n=>if U (0<=AY k.held n.fr n.nu) then G else if U (0<=AY k.inbox n.fr n.nu) then G else if U (w=EZ) then I ⟨k.id,k.ti,k.nx,E3 k.held n,k.marks,k.inbox⟩ else I ⟨k.id,k.ti,k.nx,k.held,k.marks,E3 k.inbox n⟩|none=>G) else
 if Lo r then G else
 if U (w=C0) then(if !EM k.held (mk3 r) then G else I ⟨k.id,k.ti,k.nx,Ef k.held (AY k.held (mk3 r).mf (mk3 r).mn).toNat,EL k.marks<|mk3 r,k.inbox⟩) else
 if U (w=CO) then(if !EM k.inbox (mk3 r) then G else I ⟨k.id,k.ti,k.nx,k.held,k.marks,Ef k.inbox (AY k.inbox (mk3 r).mf (mk3 r).mn).toNat⟩) else
 if U (w=DB) then(if U (0<=Br k.marks (mk3 r).mf (mk3 r).mn) then G else I ⟨k.id,k.ti,k.nx,k.held,EL k.marks<|mk3 r,k.inbox⟩) else G
def Yz(s:A1): -1<=Af s/\Af s<10000:=by
 obtain⟨h,_⟩|⟨n,h,h1,h2⟩:=TW s
 .omega
 .have:n<10000:=by
   have hv:=cF 4 (L s) (by rw[Az];omega) (by rw[h2];exact bq (n+1) n J);rw[h2,aO (n+1) n J]at hv;omega
  omega
def mq{n:Int}(h0: -1<=n)(h1:n<10000):(BZ n).size<=4:=by
 by_cases h:0<=n
 .exact NO h J J
 .obtain rfl:n= -1:=J
  have:BZ (-1)=B [45,49]:=by
   apply GD;show B7 (-1)=_;rw[show(-1:Int)= -((1:Nat):Int) by rfl,pe _ J];show 45::dcm 1=_;rw[LL J];rfl
  rw[this];decide
def aae{l:List A3}{m:Mark}:(U (AY l m.mf m.mn<0)|| !decide ((@rd A3 y5 l<|AY l m.mf m.mn).un=m.mu))= !EM l m:=by
 unfold EM;obtain h|h:=sgn (AY l m.mf m.mn)
 .simp only[h,AX,Ad,By,AP,AH]
 .simp only[h,AX,Ad,Bl,AU];rfl
def ava{l:List A3}{f n:Int}:Ae (!(U<|AY l f n<0)) (inb (AY l f n) l.length)=Y:=by
 obtain h|h:=sgn (AY l f n)
 .simp only[h,AX,AB,Hl]
 .simp only[h,Ad,AH,Im,NS<|of_eq_true h.2]
def asA{id ti nx:Int}{rec:A1}{held:List A3}{marks:List Mark}{inbox:List A3}(hf:Ey ⟨id,ti,nx,held,marks,inbox⟩)(hr:rec.size<=1048576):
  B5 (XT ((id,ti,nx,held,marks,inbox,()),rec,())) (Ds ⟨id,ti,nx,held,marks,inbox⟩ (wd rec).1 (wd rec).2):=by
 have sm:Dc held marks inbox:=hf.sm;have hn0:1<=nx:=hf.n0;have hn1:nx<=100:=hf.n1;have hr2:(wd rec).2.size<=1048576:=by have:=(UC rec).2;omega
 unfold XT Ds;simp only[aaK hr,A6];generalize (wd rec).1=w;generalize (wd rec).2=r at *;simp only[mG (J:r.size<=9223372036854775807),aAc hr2,amq sm,A6];refine B5.ite (λ_=>B5.neg λ_=>rfl) λ_=> ?_;refine B5.ite (λ_=> ?_) λ_=> ?_
 .cases h:DN r with
  | none=>exact B5.no
  | some n=>
   have:=LM (KB h).1;simp only[VM,AB,A4];refine B5.neg λ_=>B5.neg λ_=> ?_;rw[AZ J J];exact(aE0 sm this).eta
 refine B5.ite (λ_=> ?_) λ_=> ?_
 .cases h:DN r with
  | none=>exact B5.no
  | some n=>
   have:=LM (KB h).1;simp only[VM,AB,Bl];exact B5.neg λ_=>(aE0 sm this).eta
 refine B5.ite (λ_=>B5.neg λ_=>rfl) λ_=> ?_;rw[aGY (a:=U<|w=EZ) (b:=U<|w=Er) (f:=λv=>((id,ti,nx,held,marks,inbox,()),(0,0,0,[],[],[],()),w,r,v,())) rfl];refine B5.ite (λ_=> ?_) λ_=> ?_
 .simp only[aAc hr2,A6];cases h:DN r with
  | none=>exact B5.no
  | some n=>
   have:=LM (KB h).1;simp only[VM,AB,A4,K4 sm.hl,K4 sm.il,A6];refine B5.neg λh1=>B5.neg λh2=> ?_;have e1:Pu held n=E3 held n:=bV (by simpa using h1);have e2:Pu inbox n=E3 inbox n:=bV (by simpa using h2);have Ew:=fH (l:=held) (fr:=n.fr) (nu:=n.nu) (tt:=n.to) (un:=n.un) (tx:=n.tx) sm.hl;have dM:=fH (l:=inbox) (fr:=n.fr) (nu:=n.nu) (tt:=n.to) (un:=n.un) (tx:=n.tx) sm.il;rw[show(⟨n.fr,n.nu,n.to,n.un,n.tx⟩:A3)=n from rfl]at Ew dM;simp only[Ew,dM,e1,e2,A6];exact B5.ite (λ_=>rfl) λ_=>rfl
 have e3:Qb (r,3,())=I (([Af<|Ao r 0,Af<|Ao r 1,Af<|Ao r 2],EJ r 3,()),()):=aaR (n:=3) hr2 J;have i0:inb 0 [Af<|Ao r 0,Af<|Ao r 1,Af<|Ao r 2].length=Y:=rfl;have i1:inb 1 [Af<|Ao r 0,Af<|Ao r 1,Af<|Ao r 2].length=Y:=rfl;have i2:inb 2 [Af<|Ao r 0,Af<|Ao r 1,Af<|Ao r 2].length=Y:=rfl;have r0: @rd Int aJR [Af<|Ao r 0,Af<|Ao r 1,Af<|Ao r 2] 0=Af (Ao r 0):=rfl;have r1: @rd Int aJR [Af<|Ao r 0,Af<|Ao r 1,Af<|Ao r 2] 1=Af (Ao r 1):=rfl;have r2: @rd Int aJR [Af<|Ao r 0,Af<|Ao r 1,Af<|Ao r 2] 2=Af (Ao r 2):=rfl;have q0:=Yz<|Ao r 0;have q1:=Yz<|Ao r 1;have q2:=Yz<|Ao r 2;have z0:=mq q0.1 q0.2;have z1:=mq q1.1 q1.2;have z2:=mq q2.1 q2.2;have zb:(B [32]).size=1:=rfl;have d1:U ((BZ<|Af<|Ao r 0).size+(B [32]).size<=4611686018427387904)=Y:=by rw[zb,decide_eq_true_eq];omega
 have d2:U ((BZ (Af<|Ao r 0)++B [32]).size+(BZ<|Af<|Ao r 1).size<=4611686018427387904)=Y:=by rw[C3,zb,decide_eq_true_eq];omega
 have d3:U (((BZ (Af<|Ao r 0)++B [32])++BZ (Af<|Ao r 1)).size+(B [32]).size<=4611686018427387904)=Y:=by rw[C3,C3,zb,decide_eq_true_eq];omega
 have d4:U ((((BZ (Af<|Ao r 0)++B [32])++BZ (Af<|Ao r 1))++B [32]).size+(BZ<|Af<|Ao r 2).size<=4611686018427387904)=Y:=by rw[C3,C3,C3,zb,decide_eq_true_eq];omega
 simp only[e3,A6,i0,i1,i2,r0,r1,r2,G5 (n:=Af<|Ao r 0) J J,G5 (n:=Af<|Ao r 1) J J,G5 (n:=Af<|Ao r 2) J J,
  D6,Cy,show ∀c,Ae c Y=Y from λc=>rfl,A2,d1,d2,d3,d4]
 refine B5.neg λ_=> ?_;have hmk:mk3 r=⟨Af<|Ao r 0,Af<|Ao r 1,Af<|Ao r 2⟩:=rfl;generalize Af (Ao r 0)=a at *;generalize Af (Ao r 1)=b at *;generalize Af (Ao r 2)=c at *;rw[hmk];simp only[K4 sm.hl,K4 sm.il,TC sm.ml,A6,ava,A2];refine B5.ite (λ_=> ?_) λ_=> ?_
 .rw[aae (m:=⟨a,b,c⟩)];refine B5.neg λh=> ?_;have hh:EM held ⟨a,b,c⟩=Y:=by simpa using h
  simp only[EM,AD,decide_eq_true_eq]at hh;obtain⟨g1,g2,g3,g4⟩:=FK hh.1;have ho:=hf.ho _ g1;unfold HO at ho;simp only[AD,decide_eq_true_eq]at ho;have hm:Br marks a b<0:=by
   have:=ho.2.2.2;simp only[g3,g4]at this;exact this
  have hM:Pv marks ⟨a,b,c⟩=EL marks ⟨a,b,c⟩:=qG hm;simp only[asC sm hh.1,A6,hh.2,hM];rfl
 refine B5.ite (λ_=> ?_) λ_=> ?_
 .rw[aae (m:=⟨a,b,c⟩)];refine B5.neg λh=> ?_;have hh:EM inbox ⟨a,b,c⟩=Y:=by simpa using h
  simp only[EM,AD,decide_eq_true_eq]at hh;simp only[asD sm hh.1,A6];rfl
 refine B5.ite (λ_=> ?_) λ_=>B5.no;refine B5.neg λh=> ?_;have hM:Pv marks ⟨a,b,c⟩=EL marks ⟨a,b,c⟩:=qG (by simpa using h);simp only[vP sm.ml,A6,hM];rfl
def anE:U (ED=F7)=A0:=by decide
def apQ:U (ED=Dk)=A0:=by decide
def anD:U (ED=EY)=A0:=by decide
def anG:U (ED=EZ)=A0:=by decide
def aj0:U (ED=Er)=A0:=by decide
def apR:U (ED=C0)=A0:=by decide
def apS:U (ED=CO)=A0:=by decide
def anF:U (ED=DB)=A0:=by decide
def aBn:U (F7=ED)=A0:=by decide
def apY:U (F7=Dk)=A0:=by decide
def anI:U (F7=EY)=A0:=by decide
def anK:U (F7=EZ)=A0:=by decide
def aj1:U (F7=Er)=A0:=by decide
def apZ:U (F7=C0)=A0:=by decide
def aor:U (F7=CO)=A0:=by decide
def anJ:U (F7=DB)=A0:=by decide
def apV:U (Dk=ED)=A0:=by decide
def apW:U (Dk=F7)=A0:=by decide
def aDA:U (Dk=EY)=A0:=by decide
def aDB:U (Dk=EZ)=A0:=by decide
def aBm:U (Dk=Er)=A0:=by decide
def aqS:U (Dk=C0)=A0:=by decide
def aqT:U (Dk=CO)=A0:=by decide
def apX:U (Dk=DB)=A0:=by decide
def kP:U (EY=ED)=A0:=by decide
def kQ:U (EY=F7)=A0:=by decide
def lK:U (EY=Dk)=A0:=by decide
def kR:U (EY=EZ)=A0:=by decide
def kF:U (EY=Er)=A0:=by decide
def apT:U (EY=C0)=A0:=by decide
def apU:U (EY=CO)=A0:=by decide
def anH:U (EY=DB)=A0:=by decide
def aBp:U (EZ=ED)=A0:=by decide
def aBr:U (EZ=F7)=A0:=by decide
def aDC:U (EZ=Dk)=A0:=by decide
def aBq:U (EZ=EY)=A0:=by decide
def aj3:U (EZ=Er)=A0:=by decide
def aos:U (EZ=C0)=A0:=by decide
def aot:U (EZ=CO)=A0:=by decide
def anA:U (EZ=DB)=A0:=by decide
def aAl:U (Er=ED)=A0:=by decide
def aAn:U (Er=F7)=A0:=by decide
def aBo:U (Er=Dk)=A0:=by decide
def aAm:U (Er=EY)=A0:=by decide
def aAo:U (Er=EZ)=A0:=by decide
def an8:U (Er=C0)=A0:=by decide
def an9:U (Er=CO)=A0:=by decide
def aj2:U (Er=DB)=A0:=by decide
def lQ:U (C0=ED)=A0:=by decide
def lS:U (C0=F7)=A0:=by decide
def lz:U (C0=Dk)=A0:=by decide
def lR:U (C0=EY)=A0:=by decide
def lU:U (C0=EZ)=A0:=by decide
def km:U (C0=Er)=A0:=by decide
def mB:U (C0=CO)=A0:=by decide
def lT:U (C0=DB)=A0:=by decide
def lV:U (CO=ED)=A0:=by decide
def lX:U (CO=F7)=A0:=by decide
def mC:U (CO=Dk)=A0:=by decide
def lW:U (CO=EY)=A0:=by decide
def lZ:U (CO=EZ)=A0:=by decide
def ko:U (CO=Er)=A0:=by decide
def mD:U (CO=C0)=A0:=by decide
def lY:U (CO=DB)=A0:=by decide
def kc:U (DB=ED)=A0:=by decide
def kg:U (DB=F7)=A0:=by decide
def lL:U (DB=Dk)=A0:=by decide
def ke:U (DB=EY)=A0:=by decide
def kh:U (DB=EZ)=A0:=by decide
def kG:U (DB=Er)=A0:=by decide
def lO:U (DB=C0)=A0:=by decide
def lP:U (DB=CO)=A0:=by decide
abbrev flt(o:Option AE):Option AE:=o.filter Av
def UK{o:Option AE}(h:o=G\/ ∃k,o=I k/\Av k=A0):flt o=G:=by
 obtain rfl|⟨k,rfl,h⟩:=h
 .rfl
 .simp[flt,Option.filter,h]
def arh:DN noB=G:=by
 cases h:DN noB with
 | none=>rfl
 | some n=>
  obtain⟨h1,h2⟩:=KB h;have:=qt<|IF h1;rw[h2]at this;exact absurd this<|by decide
def awf:Af noB= -1:=by
 obtain⟨h,_⟩|⟨n,_,_,h⟩:=TW noB
 .exact h
 .exact absurd h.symm (rR n)
def aH5(r:A1):(Au r=(0,A0)/\Af r= -1)\/ ∃n:Nat,Au r=((n:Int),Y)/\(Af r=n\/(Af r= -1/\10000<=n)):=by
 obtain h|⟨n,h1,h2,h3⟩:=TZ r
 .refine .inl ⟨h, ?_⟩;obtain⟨h4,_⟩|⟨n,_,h5,h6⟩:=TW r
  .exact h4
  .rw[nL J h6]at h;cases h
 .refine .inr ⟨n,h1, ?_⟩;obtain⟨h4,h5⟩|⟨m,h4,_,h6⟩:=TW r
  .refine .inr ⟨h4, ?_⟩;have h7:=h5 n h3;obtain h8|h8:=Gl n 10000
   .have:=ML 4 n J J;rw[← h3,Az]at this;omega
   .exact h8
  .left;have e:dcm n=dcm m:=h3.symm.trans h6;have:=congrArg val e;rw[aO (n+1) n J,aO (m+1) m J]at this;omega
def aa0(a b c:Int):L ((((BZ a++B [32])++BZ b)++B [32])++BZ c)=B7 a++32::(B7 b++32::B7 c):=by
 simp only[Gb,VG,L_B,C7,Lf,El]
def qZ{l:List UInt8}(h:Cb l):l.count 32=0:=List.count_eq_zero.2 λhm=>h 32 hm rfl
def aS{r:A1}{a b c:Int}(ha:0<=a)(ha2:a<100000)(hb:0<=b)(hb2:b<100000)(hc:0<=c)(hc2:c<100000)(e:L r=B7 a++32::(B7 b++32::B7 c)):HM r=I ⟨a,b,c⟩:=by
 unfold HM;have h2:(L r).count 32=1+1:=by
  rw[e,List.count_append,aFP,List.count_append,aFP,qZ<|Hm ha,qZ<|Hm hb,qZ<|Hm hc]
 rw[h2,e,MC<|Hm ha,MC<|Hm hb];show(if(Au<|B<|B7 a).2&&((Au<|B<|B7 b).2&&((Au<|B<|B7 c).2&&Y)) then I (⟨(Au<|B<|B7 a).1,(Au<|B<|B7 b).1,(Au<|B<|B7 c).1⟩:Mark) else G)=_;rw[JL ha ha2,JL hb hb2,JL hc hc2];rfl
def ql{p:List UInt8}(h:(Au<|B p).2=Y):0<=(Au<|B p).1/\p=B7 (Au<|B p).1:=by
 obtain h1|⟨n,h1,_,h3⟩:=TZ (B p)
 .rw[h1]at h;cases h
 .rw[h1];exact⟨by simp,by rw[JQ];exact h3⟩
def aJA{r:A1}{m:Mark}(h:HM r=I m):0<=m.mf/\0<=m.mn/\0<=m.mu/\L r=B7 m.mf++32::(B7 m.mn++32::B7 m.mu):=by
 unfold HM at h;have hj:=mV ((L r).count 32)<|L r;split at h
 .rename_i p q t hp;rw[hp]at hj;split at h
  .rename_i hc;simp only[AD]at hc;cases h;have h1:=ql hc.1;have h2:=ql hc.2.1;have h3:=ql hc.2.2.1;refine⟨h1.1,h2.1,h3.1, ?_⟩;simp only;rw[← h1.2,← h2.2,← h3.2];exact hj.symm
  .cases h
 .cases h
def aGA{r:A1}{a b c:Int}(ha:0<=a)(ha2:a<10000)(hb:0<=b)(hb2:b<10000)(hc:0<=c)(hc2:c<10000)(e:L r=B7 a++32::(B7 b++32::B7 c)):Lo r=A0/\mk3 r=⟨a,b,c⟩:=by
 have e0:=La (Hm ha) e;have c1:L (EJ r 1)=_:=(KG (t:=r) e0).2;have e1:=La (Hm hb) c1;have c2:L (EJ r 2)=_:=(KG (t:=r) e1).2;have e2:=VH (s:=EJ r 2) (by rw[c2];exact Hm hc);have w0:Ao r 0=B (B7 a):=(KG (t:=r) e0).1;have w1:Ao r 1=B (B7 b):=(KG (t:=r) e1).1;have w2:Ao r 2=B (B7 c):=by
  show(wd<|EJ r 2).1=_;rw[e2];apply GD;rw[c2,L_B]
 have t3:EJ r 3=noB:=by
  show(wd<|EJ r 2).2=_;rw[e2]
 have d0:=NL ha ha2;have d1:=NL hb hb2;have d2:=NL hc hc2;refine⟨?_, ?_⟩
 .unfold Lo;rw[t3,w0,w1,w2,d0,d1,d2];have:r=((((BZ a++B [32])++BZ b)++B [32])++BZ c):=GD (by rw[e,aa0]);rw[← this];simp
 .unfold mk3;rw[w0,w1,w2,d0,d1,d2]
def P6{m:Mark}(h:FA m=Y):0<=m.mf/\m.mf<=3/\1<=m.mn/\m.mn<=99/\1<=m.mu/\m.mu<=999:=by
 unfold FA at h;simp only[AD,Aa]at h;omega
def pr{k:AE}(hf:Ey k)(w r:A1):flt (if Lo r then G else F1 k w (mk3 r))=flt (match HM r with|some m=>F1 k w m|none=>G):=by
 obtain hm|hm:=tf (FA<|mk3 r)
 .obtain⟨a0,a1,b0,b1,c0,c1⟩:=P6 hm;obtain hc|hc:=tf (Lo r)
  .rw[hc];simp only[A2];cases h:HM r with
   | none=>rfl
   | some m=>
    simp only;obtain h2|h2:=tf (FA m)
    .obtain⟨p0,p1,q0,q1,s0,s1⟩:=P6 h2;obtain⟨_,_,_,e⟩:=aJA h;rw[(aGA J J J J J J e).1]at hc;cases hc
    .exact(UK<|me hf h2).symm
  .have hc2:=hc;unfold Lo at hc;simp only[Mk,Bool.not_eq_false',decide_eq_true_eq]at hc;have e:L r=_:=(congrArg L hc.2).trans<|aa0 _ _ _;have:=aS (a:=(mk3 r).mf) (b:=(mk3 r).mn) (c:=(mk3 r).mu) J J J J J J e;rw[hc2,this];rfl
 .have hL:flt (if Lo r then G else F1 k w (mk3 r))=G:=by
   cases Lo r
   .exact UK (me hf hm)
   .rfl
  rw[hL];cases h:HM r with
  | none=>rfl
  | some m=>
   simp only;obtain h2|h2:=tf (FA m)
   .obtain⟨p0,p1,q0,q1,s0,s1⟩:=P6 h2;obtain⟨_,_,_,e⟩:=aJA h;have:=(aGA J J J J J J e).2;rw[this]at hm;have hm:FA m=A0:=hm;rw[h2]at hm;cases hm
   .exact(UK<|me hf h2).symm
def ayh{k:AE}{n nx:Int}{a b:List A3}{m:List Mark}(hn:999<n):Av ⟨k.id,n,nx,a,m,b⟩=A0:=by
 obtain h|h:=tf (Av ⟨k.id,n,nx,a,m,b⟩)
 .have:=(Bv h).t1;simp only at this;omega
 .exact h
def ayJ{k:AE}{n ti:Int}{a b:List A3}{m:List Mark}(hn:100<n):Av ⟨k.id,ti,n,a,m,b⟩=A0:=by
 obtain h|h:=tf (Av ⟨k.id,ti,n,a,m,b⟩)
 .have:=(Bv h).n1;simp only at this;omega
 .exact h
def asb{k:AE}(hf:Ey k)(r:A1):flt (Ds k ED r)=flt (Bb k ED r):=by
 have h0:=hf.t0;unfold Ds Bb Hy;simp only[anE,apQ,anD,anG,aj0,apR,apS,anF,AX,Ba,En,DY,Bl,By,AP,AU,A2,A4];obtain⟨h1,h2⟩|⟨n,h1,h2|⟨h2,h3⟩⟩:=aH5 r
 .rw[h1,h2,A5 aJL];rfl
 .rw[h1,h2];obtain h4|h4:=Ed (n:Int) k.ti<;>simp only[h4,AX,Ad,A2,A4]
 .rw[h1,h2,A5 aJL];obtain h4|h4:=Ed (n:Int) k.ti<;>simp only[h4,AX,Ad,A2,A4];exact(UK<|.inr ⟨_,rfl,ayh J⟩).symm
def asc{k:AE}(hf:Ey k)(r:A1):flt (Ds k F7 r)=flt (Bb k F7 r):=by
 have h0:=hf.n0;unfold Ds Bb Hy;simp only[aBn,apY,anI,anK,aj1,apZ,aor,anJ,AX,Ba,En,DY,Bl,By,AP,AU,A2,A4];obtain⟨h1,h2⟩|⟨n,h1,h2|⟨h2,h3⟩⟩:=aH5 r
 .rw[h1,h2,A5 aJL];rfl
 .rw[h1,h2];obtain h4|h4:=Ed (n:Int) k.nx<;>simp only[h4,AX,Ad,A2,A4]
 .rw[h1,h2,A5 aJL];obtain h4|h4:=Ed (n:Int) k.nx<;>simp only[h4,AX,Ad,A2,A4];exact(UK<|.inr ⟨_,rfl,ayJ J⟩).symm
def asY{k:AE}(r:A1):Ds k Dk r=Bb k Dk r:=by
 unfold Ds Bb GS;simp only[apV,apW,aDA,aDB,aBm,aqS,aqT,apX,AX,Ba,En,DY,Bl,By,AP,AU,A2,A4];cases DN r with
 | none=>rfl
 | some n=>
  simp only;obtain h1|h1:=tf (U<|n.fr=k.id)<;>obtain h2|h2:=tf (U<|n.nu=k.nx)<;>simp only[h1,h2,AB,AH,ite_self,AX,Ba,En,DY,Bl,By,AP,AU,A2,A4]
def arx{k:AE}(r:A1):Ds k EY r=Bb k EY r:=by
 unfold Ds Bb GS;simp only[kP,kQ,lK,kR,kF,apT,apU,anH,AX,Ba,En,DY,Bl,By,AP,AU,A2,A4];cases DN r with
 | none=>rfl
 | some n=>
  simp only;obtain h1|h1:=tf (U<|n.fr=k.id)<;>simp only[h1,AB,AH,ite_self,AX,Ba,En,DY,Bl,By,AP,AU,A2,A4]
def arz{k:AE}(r:A1):Ds k EZ r=Bb k EZ r:=by
 unfold Ds Bb GS;simp only[aBp,aBr,aDC,aBq,aj3,aos,aot,anA,AX,Ba,En,DY,Bl,By,AP,AU,A2,A4];cases DN r with
 | none=>rfl
 | some n=>
  simp only;obtain h1|h1:=tf (U<|0<=AY k.held n.fr n.nu)<;>obtain h2|h2:=tf (U<|0<=AY k.inbox n.fr n.nu)<;>simp only[h1,h2,AB,AH,ite_self,AX,Ba,En,DY,Bl,By,AP,AU,A2,A4]
def aqi{k:AE}(r:A1):Ds k Er r=Bb k Er r:=by
 unfold Ds Bb GS;simp only[aAl,aAn,aBo,aAm,aAo,an8,an9,aj2,AX,Ba,En,DY,Bl,By,AP,AU,A2,A4];cases DN r with
 | none=>rfl
 | some n=>
  simp only;obtain h1|h1:=tf (U<|0<=AY k.held n.fr n.nu)<;>obtain h2|h2:=tf (U<|0<=AY k.inbox n.fr n.nu)<;>simp only[h1,h2,AB,AH,ite_self,AX,Ba,En,DY,Bl,By,AP,AU,A2,A4]
def asZ{k:AE}(hf:Ey k)(r:A1):flt (Ds k C0 r)=flt (Bb k C0 r):=by
 have h:=pr hf C0 r;unfold Ds Bb;simp only[lQ,lS,lz,lR,lU,km,mB,lT,AX,Ba,En,DY,Bl,By,AP,AU,A2,A4];refine Kb ?_ h;unfold F1;simp only[lQ,lS,lz,lR,lU,km,mB,lT,AX,Ba,En,DY,Bl,By,AP,AU,A2,A4];congr 1;refine ite_congr rfl (λ_=>rfl) λ_=> ?_;cases EM k.held (mk3 r)<;>rfl
def asa{k:AE}(hf:Ey k)(r:A1):flt (Ds k CO r)=flt (Bb k CO r):=by
 have h:=pr hf CO r;unfold Ds Bb;simp only[lV,lX,mC,lW,lZ,ko,mD,lY,AX,Ba,En,DY,Bl,By,AP,AU,A2,A4];refine Kb ?_ h;unfold F1;simp only[lV,lX,mC,lW,lZ,ko,mD,lY,AX,Ba,En,DY,Bl,By,AP,AU,A2,A4];congr 1;refine ite_congr rfl (λ_=>rfl) λ_=> ?_;cases EM k.inbox (mk3 r)<;>rfl
def ary{k:AE}(hf:Ey k)(r:A1):flt (Ds k DB r)=flt (Bb k DB r):=by
 have h:=pr hf DB r;unfold Ds Bb;simp only[kc,kg,lL,ke,kh,kG,lO,lP,AX,Ba,En,DY,Bl,By,AP,AU,A2,A4];refine Kb ?_ h;unfold F1;simp only[kc,kg,lL,ke,kh,kG,lO,lP,AX,Ba,En,DY,Bl,By,AP,AU,A2,A4];congr 1;refine ite_congr rfl (λ_=>rfl) λ_=> ?_;cases U (0<=Br k.marks (mk3 r).mf (mk3 r).mn)<;>rfl
def awH{k:AE}(hf:Ey k)(w r:A1):flt (Ds k w r)=flt (Bb k w r):=by
 by_cases sO:w=ED
 .subst sO;exact asb hf r
 by_cases sQ:w=F7
 .subst sQ;exact asc hf r
 by_cases sg:w=Dk
 .subst sg;exact congrArg flt<|asY r
 by_cases sP:w=EY
 .subst sP;exact congrArg flt<|arx r
 by_cases sF:w=EZ
 .subst sF;exact congrArg flt<|arz r
 by_cases sS:w=Er
 .subst sS;exact congrArg flt<|aqi r
 by_cases si:w=C0
 .subst si;exact asZ hf r
 by_cases sj:w=CO
 .subst sj;exact asa hf r
 by_cases sE:w=DB
 .subst sE;exact ary hf r
 have e1:Ds k w r=G:=by
  unfold Ds;simp only[sO,sQ,sg,sP,sF,sS,si,sj,sE,Ad,AX,Ba,En,DY,Bl,By,AP,AU,A2,A4,ite_self]
 have e2:Bb k w r=G:=by
  unfold Bb;simp only[sO,sQ,sg,sP,sF,sS,si,sj,sE,Ad,AX,Ba,En,DY,Bl,By,AP,AU,A2,A4]
 rw[e1,e2]
def atY{k:AE}(hf:Ey k)(w:A1):Ds k w noB=G:=by
 have h0:=hf.t0;have h1:=hf.n0;have hc:Lo noB=Y:=by
  unfold Lo;have:¬noB=((((BZ (Af<|Ao noB 0)++B [32])++BZ (Af<|Ao noB 1))++B [32])++BZ (Af<|Ao noB 2)):=λh=>by
   have:=congrArg ByteArray.size h;rw[C3,C3,C3,C3]at this;have e:noB.size=0:=rfl;have e2:(B [32]).size=1:=rfl;omega
  simp[this]
 unfold Ds;rw[awf,arh,hc];have a1:U (-1<=k.ti)=Y:=by simp;omega
 have a2:U (-1<=k.nx)=Y:=by simp;omega
 simp only[a1,a2,A2,ite_self]
def ayr{k:AE}(hf:Ey k)(rec:A1):flt (Ds k (wd rec).1 (wd rec).2)=flt (GW k rec):=by
 unfold GW;obtain h|⟨w,r,h,e⟩:=ME (L rec)
 .rw[VH h,UN h,atY hf];rfl
 .rw[e,UO h];exact awH hf _ _
def axG{k:AE}{w r:A1}(hf:Ey k){o:AE}(h:Ds k w r=I o):SmK o:=by
 have sm:=hf.sm;unfold Ds at h;split at h
 .split at h<;>cases h;have a:=J4 (λx:A3=>U<|Af r<x.un) k.held;have b:=J4 (λx:Mark=>U<|Af r<x.mu) k.marks;have l1:=hf.hl;have l2:=hf.ml;exact⟨by unfold HP;simp only;omega,λx hx=>sm.h x (FU.1 hx).1,by unfold KK;simp only;omega,sm.il,sm.i⟩
 split at h
 .cases hn:DN r with
  | none=>rw[hn]at h;cases h
  | some n=>
   rw[hn]at h;simp only at h;split at h
   .cases h
   split at h
   .cases h
   exact bz (k':=⟨k.id,k.ti,k.nx+1,k.held,k.marks,k.inbox⟩) hf ⟨rfl,rfl,rfl⟩ h
 split at h
 .cases hn:DN r with
  | none=>rw[hn]at h;cases h
  | some n=>
   rw[hn]at h;simp only at h;split at h
   .cases h
   exact bz (k':=k) hf ⟨rfl,rfl,rfl⟩ h
 split at h
 .split at h<;>cases h;exact sm
 split at h
 .cases hn:DN r with
  | none=>rw[hn]at h;cases h
  | some n=>
   have hok:=LM (KB hn).1;rw[hn]at h;simp only at h;split at h
   .cases h
   split at h
   .cases h
   split at h<;>cases h
   .have a:=RB hf.hl sm.h hok;exact⟨a.1,a.2,sm.ml,sm.il,sm.i⟩
   .have a:=RB hf.il sm.i hok;exact⟨sm.hl,sm.h,sm.ml,a.1,a.2⟩
 split at h
 .cases h
 split at h
 .split at h<;>cases h;have a:=bW (i:=(AY k.held (mk3 r).mf (mk3 r).mn).toNat) hf.hl sm.h;exact⟨a.1,a.2,UL hf.ml,sm.il,sm.i⟩
 split at h
 .split at h<;>cases h;have a:=bW (i:=(AY k.inbox (mk3 r).mf (mk3 r).mn).toNat) hf.il sm.i;exact⟨sm.hl,sm.h,sm.ml,a.1,a.2⟩
 split at h
 .split at h<;>cases h;exact⟨sm.hl,sm.h,UL hf.ml,sm.il,sm.i⟩
 .cases h
def aD7{id ti nx:Int}{rec:A1}{held:List A3}{marks:List Mark}{inbox:List A3}(sm:Dc held marks inbox)(hr:rec.size<=1048576):
  TF ((id,ti,nx,held,marks,inbox,()),rec,())=I ((tK (Fg ⟨id,ti,nx,held,marks,inbox⟩ rec).1,(Fg ⟨id,ti,nx,held,marks,inbox⟩ rec).2,()),()):=by
 unfold TF Fg;simp only[lI sm,aB6 sm,A6];obtain h|h:=tf (Av ⟨id,ti,nx,held,marks,inbox⟩)
 .have hf:=Bv h;have ha:=asA hf hr;have hko:=ayr hf rec;unfold flt at hko;simp only[h,AB,A4,A2];rw[← hko];cases hst:Ds ⟨id,ti,nx,held,marks,inbox⟩ (wd rec).1 (wd rec).2 with
  | none=>
   rw[hst]at ha;obtain⟨t,ht⟩:=ha;simp only[ht,A6,AH,AB,Hl,A2,By];rfl
  | some o=>
   rw[hst]at ha;have sm':=axG hf hst;rw[show XT ((id,ti,nx,held,marks,inbox,()),rec,())=I ((tK o,Y,()),()) from ha];simp only[A6,AB,AH,Im,lI sm',aB6 sm',D6,Cy,A2,Bl,Option.filter_some];obtain h2|h2:=tf (Av o)
   .simp only[h2,AB,A4,A2]
   .simp only[h2,AH,A4,A2]
 .simp only[h,AH,A4,A2]
def cK{s:A1}{a i:Nat}(h:a+i<s.size):bt (s.extract a s.size) i=bt s ((a+i:Nat):Int):=by
 rw[KI,KI,EI];congr 2;rw[BA,BA,List.getElem?_take_of_lt J,I2]
def aaB{s:A1}{a i j:Nat}(h:a+j<=s.size):(s.extract a s.size).extract i j=s.extract (a+i) (a+j):=by
 apply GD;rw[EI,EI,EI];rw[List.drop_take,J5,bF];congr 1;omega
def G7{s:A1}{a b:Nat}(hb:b<=s.size):(s.extract a b).size=b - a:=by
 rw[← Az,EI,DS,EQ,Az];omega
def VP(s:A1):Int:=GC (min s.size 3) λi=>U<|bt s i=58
def Dl(s:A1):Option (A1×Nat):=
 if VP s<0 then G else
 let c:=(VP s).toNat
 let n:=Af (s.extract 0 c)
 if n<1 then G else if 60<n then G else
 if(s.size:Int)<c+2+n then G else
 if !decide (bt s ((c+1+n.toNat:Nat):Int)=59) then G else I (s.extract (c+1)<|c+1+n.toNat,c+2+n.toNat)
def Ye(s:A1):(VP s= -1/\ ∀i,i<min s.size 3->bt s (i:Int)≠58)\/ ∃c:Nat,VP s=c/\c<s.size/\c<3/\bt s (c:Int)=58/\ ∀i,i<c->bt s (i:Int)≠58:=by
 obtain⟨h1,h2⟩|⟨c,h1,h2,h3,h4⟩:=GP (min s.size 3) (λi=>U<|bt s i=58)
 .exact .inl ⟨h1,λi hi=>by simpa using h2 i hi⟩
 .exact .inr ⟨c,h1,J,J,by simpa using h3,λi hi=>by simpa using h4 i hi⟩
def asB{s:A1}(hs:s.size<=1048576):jb (s,())=I ((match Dl s with|some p=>(p.1,(p.2:Int),())|none=>(noB,0,())),()):=by
 have hb:∀i,i<min s.size 3->OU (s,(i:Int),())=if U (bt s (i:Int)=58) then OU (s,(i:Int),()) else I (.inl (s,((i+1:Nat):Int),())):=λi hi=>by
  have hi2:i<s.size:=J
  obtain h|h:=tf (U<|bt s (i:Int)=58)
  .rw[h];rfl
  .rw[h];have e1:U ((i:Int)<3)=Y:=by simp;omega
   unfold OU;simp only[AR hi2,B6 hi2,h,B1 hi2 (by omega:s.size<=9223372036854775807),e1];rfl
 have GJ:∃y,vQ (s,0,())=I y/\((Dl s=G/\(y= .inl (noB,0,())\/y= .inr ()))\/ ∃p,Dl s=I p/\y= .inl (p.1,(p.2:Int),())):=by
  obtain⟨h1,h2⟩|⟨c,h1,h2,h3,h4,h5⟩:=Ye s
  .refine⟨.inr (), ?_,.inl ⟨by unfold Dl;rw[h1,A5 J],.inr rfl⟩⟩;refine CE (λi=>(s,(i:Int),())) (min s.size 3) (λi hi=> ?_) ?_
   .rw[hb i hi,show U (bt s (i:Int)=58)=A0 by simpa using h2 i hi];rfl
   .unfold OU;have e:(U (((min s.size 3:Nat):Int)<(s.size:Int))&&U (((min s.size 3:Nat):Int)<3))=A0:=by
     rw[Bool.eq_false_iff];simp only[ne_eq,AD,decide_eq_true_eq];omega
    simp only[e];rfl
  .have DK:Dl s=(let n:=Af<|s.extract 0 c;if n<1 then G else if 60<n then G else if(s.size:Int)<c+2+n then G else
     if !decide (bt s ((c+1+n.toNat:Nat):Int)=59) then G else I (s.extract (c+1)<|c+1+n.toNat,c+2+n.toNat)):=by
    unfold Dl;rw[h1,A9 J];rfl
   have akg:∃y,OU (s,(c:Int),())=I (.inr y)/\((Dl s=G/\(y= .inl (noB,0,())\/y= .inr ()))\/ ∃p,Dl s=I p/\y= .inl (p.1,(p.2:Int),())):=by
    rw[DK];unfold OU;have e1:U ((c:Int)<3)=Y:=by simp;omega
    have e2:(U (0<=(c:Int))&&U ((c:Int)<=(s.size:Int)))=Y:=by simp;omega
    have e3:(!decide (bt s (c:Int)=58))=A0:=by simp[h4]
    have hse:(s.extract 0 c).size=c:=G7 J;simp only[AR h2,B6 h2,e1,e2,e3,BX,A4,Dn,A2,mG<|show(s.extract 0 c).size<=9223372036854775807 by omega,A6];have hrg:=Yz<|s.extract 0 c;generalize Af (s.extract 0 c)=n at *;by_cases k1:n<1
    .exact⟨.inl (noB,0,()),by simp[k1],.inl ⟨by simp[k1],.inl rfl⟩⟩
    by_cases k2:60<n
    .exact⟨.inl (noB,0,()),by simp[k1,k2],.inl ⟨by simp[k1,k2],.inl rfl⟩⟩
    obtain⟨m,hm⟩:=HZ (J:0<=n);subst hm;have w1:w64 ((c:Int)+2)=(c:Int)+2:=AZ J J;have w2:w64 ((c:Int)+1)=((c+1:Nat):Int):=by rw[AZ J J];omega
    have w3:w64 ((c:Int)+2+(m:Int))=((c+2+m:Nat):Int):=by rw[AZ J J];omega
    have w4:w64 (((c+1:Nat):Int)+(m:Int))=((c+1+m:Nat):Int):=by rw[AZ J J];omega
    simp only[w1,w2,w3,w4,BX];by_cases k3:(s.size:Int)<(c:Int)+2+m
    .have k3':(s.size:Int)<((c+2+m:Nat):Int):=J
     exact⟨.inl (noB,0,()),by simp only[k1,k2,k3',AX,Ad,A2,A4],.inl ⟨by simp[k1,k2,k3],.inl rfl⟩⟩
    have k3':¬(s.size:Int)<((c+2+m:Nat):Int):=J
    have k4:c+1+m<s.size:=J
    have e5:((U (0<=((c+1+m:Nat):Int))&&U (((c+1+m:Nat):Int)<=(s.size:Int)))&&(U (0<=((c+1:Nat):Int))&&U (((c+1:Nat):Int)<=((c+1+m:Nat):Int))))=Y:=by
     simp only[AD,decide_eq_true_eq];omega
    simp only[k1,k2,k3,k3',Ad,A4,if_false,AR k4,A2,e5];obtain k5|k5:=tf (!decide (bt s ((c+1+m:Nat):Int)=59))
    .exact⟨.inl (noB,0,()),by simp only[k5,A2],.inl ⟨by simp only[k5,A2],.inl rfl⟩⟩
    .exact⟨.inl (s.extract (c+1)<|c+1+m,((c+2+m:Nat):Int),()),by simp only[k5,A4],.inr ⟨(s.extract (c+1)<|c+1+m,c+2+m),by simp only[k5,A4],rfl⟩⟩
   obtain⟨y,hy,hy2⟩:=akg;refine⟨y, ?_,hy2⟩;refine CE (λi=>(s,(i:Int),())) c (λi hi=> ?_) hy;rw[hb i J,show U (bt s (i:Int)=58)=A0 by simpa using h5 i hi];rfl
 obtain⟨y,hy,hy2⟩:=GJ;unfold jb;simp only[hy];obtain⟨h1,rfl|rfl⟩|⟨p,h1,rfl⟩:=hy2<;>rw[h1]<;>rfl
def Tq{s:A1}{p:A1×Nat}(h:Dl s=I p):3<=p.2/\p.2<=s.size/\p.1.size<=60/\1<=p.1.size:=by
 unfold Dl at h;split at h
 .cases h
 rename_i hc;obtain⟨h1,_⟩|⟨c,h1,h2,h3,h4,h5⟩:=Ye s
 .omega
 rw[h1]at h;simp only[BX]at h;split at h
 .cases h
 split at h
 .cases h
 split at h
 .cases h
 split at h
 .cases h
 cases h;simp only;rw[G7 J];omega
def F4(log:A1):Nat->List A1->Nat->List A1×Nat
 | 0,out,at_=>(out,at_)
 | f+1,out,at_=>if at_<log.size then(match Dl (log.extract at_ log.size) with
  | none=>(out,at_)
  | some p=>F4 log f (out++[p.1]) (at_+p.2)) else(out,at_)
def aFV{log:A1}:∀(f:Nat) (out:List A1) (at_:Nat),at_<=log.size->out.length<=at_->(∀r∈out,r.size<=60/\1<=r.size)->
  (F4 log f out at_).2<=log.size/\(F4 log f out at_).1.length<=(F4 log f out at_).2/\ ∀r∈(F4 log f out at_).1,r.size<=60/\1<=r.size
 | 0,out,at_,h1,h2,h3=>⟨h1,h2,h3⟩
 | f+1,out,at_,h1,h2,h3=>by
  unfold F4;split
  .rename_i hlt;cases h:Dl (log.extract at_ log.size) with
   | none=>exact⟨h1,h2,h3⟩
   | some p=>
    obtain⟨a,b,c,d⟩:=Tq h;rw[G7<|Aw _]at b;exact aFV f _ _ J aJL (λr hr=>by
     obtain hr|hr:=BL.1 hr
     .exact h3 r hr
     .obtain rfl:=C8.1 hr;exact⟨c,d⟩)
  .exact⟨h1,h2,h3⟩
def DC(log:A1):List A1×Nat:=F4 log (log.size+1) [] 0
def Qk(log:A1):(DC log).2<=log.size/\(DC log).1.length<=log.size/\ ∀r∈(DC log).1,r.size<=60/\1<=r.size:=by
 have:=aFV (log:=log) (log.size+1) [] 0 (D5 _) (D5 _) (λr hr=>by cases hr);exact⟨this.1,Cc this.2.1 this.1,this.2.2⟩
def nY{ρ:Type}{log:A1}{b:(A1×List A1×Int×D)->Option ((A1×List A1×Int×D) ⊕ ρ)}(ok:List A1->Nat->ρ->Prop)
  (h:∀(out:List A1) (at_:Nat),at_<log.size->out.length<=at_->match Dl (log.extract at_ log.size) with
   | some p=>b (log,out,(at_:Int),())=I (.inl (log,out++[p.1],((at_+p.2:Nat):Int),()))
   | none=>∃y,b (log,out,(at_:Int),())=I (.inr y)/\ok out at_ y)
  (hn:∀(out:List A1) (at_:Nat),log.size<=at_->∃y,b (log,out,(at_:Int),())=I (.inr y)/\ok out at_ y):
  ∀(f:Nat) (out:List A1) (at_:Nat),log.size<at_+f->at_<=log.size->out.length<=at_->∃y,AS b (log,out,(at_:Int),())=I y/\ok (F4 log f out at_).1 (F4 log f out at_).2 y
 | 0,out,at_,h1,h2,h3=>J
 | f+1,out,at_,h1,h2,h3=>by
  unfold F4;by_cases hlt:at_<log.size
  .rw[A5 hlt];have hb:=h out at_ hlt h3;cases DK:Dl (log.extract at_ log.size) with
   | none=>
    rw[DK]at hb;obtain⟨y,h4,h5⟩:=hb;exact⟨y,BC h4,h5⟩
   | some p=>
    rw[DK]at hb;obtain⟨a,c,_,_⟩:=Tq DK;rw[G7<|Aw _]at c;obtain⟨y,h4,h5⟩:=nY ok h hn f (out++[p.1]) (at_+p.2) J J aJL;exact⟨y,Am hb h4,h5⟩
  .rw[A9 hlt];obtain⟨y,h4,h5⟩:=hn out at_ J;exact⟨y,BC h4,h5⟩
def Wl{log:A1}(hs:log.size<=1048576):Lz (log,())=I (((DC log).1,((DC log).2:Int),()),()):=by
 obtain⟨y,h1,h2⟩:=nY (log:=log) (b:=Sf) (λout at_ y=>y= .inl (out,(at_:Int),())\/y= .inr (out,(at_:Int),())) (λout at_ hlt hl=>by
  have hse:(log.extract at_ log.size).size=log.size - at_:=G7<|Aw _;have e1:(U (0<=(at_:Int))&&U ((at_:Int)<=(log.size:Int)))=Y:=by simp;omega
  have hb:Sf (log,out,(at_:Int),())=(match Dl (log.extract at_ log.size) with|some p=>I (.inl (log,out++[p.1],((at_+p.2:Nat):Int),()))|none=>I<|.inr<|.inl (out,(at_:Int),())):=by
   unfold Sf;simp only[B6 hlt,e1,A2,BX,asB<|show(log.extract at_ log.size).size<=1048576 by omega,A6];cases DK:Dl (log.extract at_ log.size) with
   | none=>rfl
   | some p=>
    obtain⟨a,c,_,_⟩:=Tq DK;have e2:U (((p.2:Nat):Int)=0)=A0:=by simp;omega
    have e3:w64 ((at_:Int)+(p.2:Int))=((at_+p.2:Nat):Int):=by rw[AZ J J];omega
    simp only[e2,e3,A4,Bf,CL,DR,BE (J:out.length+1<=4294967296),A2]
  rw[hb];cases Dl (log.extract at_ log.size) with
  | none=>exact⟨_,rfl,.inl rfl⟩
  | some p=>rfl) (λout at_ hge=>by
  refine⟨.inr (out,(at_:Int),()), ?_,.inr rfl⟩;unfold Sf;have e:U ((at_:Int)<(log.size:Int))=A0:=by simp;omega
  simp only[e];rfl) (log.size+1) [] 0 J (D5 _) (D5 _)
 unfold Lz;rw[show u7 (log,[],0,())=I y from h1];obtain rfl|rfl:=h2<;>rfl
def aG6{log:A1}{out:List A1}{at_ n:Nat}(hs:log.size<=1048576)(h:∀i,i<n->at_+i<log.size/\bt log ((at_+i:Nat):Int)≠58)(hn:n<=3)(hle:at_+n<=log.size)
  (oQ:log.size<=at_+n\/n=3\/bt log ((at_+n:Nat):Int)=58):tZ (log,out,(at_:Int),(at_:Int),())=I (.inr (log,out,(at_:Int),((at_+n:Nat):Int),())):=by
 have e3:w64 ((at_:Int)+3)=((at_+3:Nat):Int):=by rw[AZ J J];omega
 refine CE (λi=>(log,out,(at_:Int),((at_+i:Nat):Int),())) n (λi hi=> ?_) ?_
 .obtain⟨h1,h2⟩:=h i hi;unfold fN;have e2:U (bt log ((at_+i:Nat):Int)=58)=A0:=by simpa using h2
  simp only[B6 h1,AR h1,e3,B6 (J:at_+i<at_+3),e2,B1 h1 (by omega:log.size<=9223372036854775807)];rfl
 .unfold fN;by_cases h1:at_+n<log.size
  .simp only[B6 h1,AR h1,e3];obtain h2|h2|h2:=oQ
   .omega
   .have:U (((at_+n:Nat):Int)<((at_+3:Nat):Int))=A0:=by simp;omega
    rw[this];rfl
   .rw[show U (bt log ((at_+n:Nat):Int)=58)=Y by simpa using h2];cases U (((at_+n:Nat):Int)<((at_+3:Nat):Int))<;>rfl
  .have e1:U (((at_+n:Nat):Int)<(log.size:Int))=A0:=by simp;omega
   simp only[e1,A4,Hl,A2]
def ak0{log:A1}{out:List A1}{at_:Nat}(hs:log.size<=1048576)(hlt:at_<log.size)(hl:out.length<=at_):
  Sk (log,out,(at_:Int),())=I (match Dl (log.extract at_ log.size) with|some p=> .inl (log,out++[p.1],((at_+p.2:Nat):Int),())|none=> .inr<|.inr (out,(at_:Int),())):=by
 have hse:(log.extract at_ log.size).size=log.size - at_:=G7<|Aw _;unfold Sk;simp only[B6 hlt,A2];obtain⟨h1,h2⟩|⟨c,h1,h2,h3,h4,h5⟩:=Ye (log.extract at_ log.size)
 .have DK:Dl (log.extract at_ log.size)=G:=by unfold Dl;rw[h1,A5 J]
  have hb:∀i,i<min (log.size - at_) 3->at_+i<log.size/\bt log ((at_+i:Nat):Int)≠58:=λi hi=>by
   refine⟨J, ?_⟩;rw[← cK J];exact h2 i (by rw[hse];exact hi)
  rw[DK,aG6 (n:=min (log.size - at_) 3) hs hb J J J];simp only[C9];by_cases h6:log.size<=at_+min (log.size - at_) 3
  .have e:U ((log.size:Int)<=((at_+min (log.size - at_) 3:Nat):Int))=Y:=by simp;omega
   simp only[e,AB,Hl,A2,By]
  .have e:U ((log.size:Int)<=((at_+min (log.size - at_) 3:Nat):Int))=A0:=by simp;omega
   have hm:min (log.size - at_) 3=3:=J
   rw[hm]at e h6 ⊢;simp only[e,AR (J:at_+3<log.size),AH,Im,A2,Bl];obtain h7|h7:=tf (U<|bt log ((at_+3:Nat):Int)=58)
   .simp only[h7,AB,A4];have e4:((U (0<=((at_+3:Nat):Int))&&U (((at_+3:Nat):Int)<=(log.size:Int)))&&(U (0<=(at_:Int))&&U ((at_:Int)<=((at_+3:Nat):Int))))=Y:=by simp;omega
    simp only[e4,A2,BX];have hz:(log.extract at_<|at_+3).size=3:=by rw[G7 J];omega
    rw[jH J];simp only[A6];obtain h8|⟨n,h8,h9,h10⟩:=TZ (log.extract at_<|at_+3)
    .simp only[h8];rfl
    .have h11:100<=n:=by
      obtain h12|h12:=Gl n 100
      .have:=ML 2 n J J;rw[← h10,Az]at this;omega
      .exact h12
     have e5:inB (n:Int) 1 60=A0:=by simp[inB];omega
     simp only[h8,EU,A6,e5];rfl
   .simp only[h7];rfl
 .have hb:∀i,i<c->at_+i<log.size/\bt log ((at_+i:Nat):Int)≠58:=λi hi=>by
   refine⟨J, ?_⟩;rw[← cK J];exact h5 i hi
  have h4':bt log ((at_+c:Nat):Int)=58:=by rw[← cK J];exact h4
  have hc:at_+c<log.size:=J
  rw[aG6 (n:=c) hs hb J J<|.inr<|.inr h4'];simp only[C9];have e:U ((log.size:Int)<=((at_+c:Nat):Int))=A0:=by simp;omega
  have e4:((U (0<=((at_+c:Nat):Int))&&U (((at_+c:Nat):Int)<=(log.size:Int)))&&(U (0<=(at_:Int))&&U ((at_:Int)<=((at_+c:Nat):Int))))=Y:=by simp;omega
  simp only[e,AR hc,AH,Im,A2,Bl,show U (bt log ((at_+c:Nat):Int)=58)=Y by simpa using h4',AB,A4,e4,BX];have hz:(log.extract at_<|at_+c).size=c:=by rw[G7 J];omega
  have hz2:(log.extract at_ log.size).extract 0 c=log.extract at_ (at_+c):=by rw[aaB J];simp
  rw[jH J];have DK:Dl (log.extract at_ log.size)=(let n:=Af<|log.extract at_<|at_+c;if n<1 then G else if 60<n then G else if((log.extract at_ log.size).size:Int)<c+2+n then G else
    if !decide (bt (log.extract at_ log.size) ((c+1+n.toNat:Nat):Int)=59) then G else I ((log.extract at_ log.size).extract (c+1)<|c+1+n.toNat,c+2+n.toNat)):=by
   unfold Dl;rw[h1,A9 J,BX];simp only[hz2]
  rw[DK];simp only[A6];obtain h8|⟨n,h8,h9,h10⟩:=TZ (log.extract at_<|at_+c)
  .have hd:Af (log.extract at_<|at_+c)= -1:=by
    obtain⟨h9,_⟩|⟨n,h9,h10,h11⟩:=TW (log.extract at_<|at_+c)
    .exact h9
    .rw[nL J h11]at h8;cases h8
   simp only[h8,hd];rfl
  .rw[qT J h10];simp only[h8,EU,A6,AB,A4,BX,hse];by_cases h11:(n:Int)<1
   .rw[A5 h11,show inB (n:Int) 1 60=A0 by simp[inB];omega];rfl
   .rw[A9 h11];by_cases h12:60<(n:Int)
    .rw[A5 h12,show inB (n:Int) 1 60=A0 by simp[inB];omega];rfl
    .rw[A9 h12,show inB (n:Int) 1 60=Y by simp[inB];omega];have e5:w64 (((at_+c:Nat):Int)+1)=((at_+c+1:Nat):Int):=by rw[AZ J J];omega
     have e6:w64 (((at_+c+1:Nat):Int)+(n:Int))=((at_+c+1+n:Nat):Int):=by rw[AZ J J];omega
     simp only[e5,e6,AB,A4];by_cases h13:at_+c+1+n<log.size
     .rw[A9<|show ¬(((log.size - at_:Nat):Int)<c+2+n) by omega];have e7:U ((log.size:Int)<=((at_+c+1+n:Nat):Int))=A0:=by simp;omega
      simp only[e7,A4,AR h13,A2];have e10:bt (log.extract at_ log.size) ((c+1+n:Nat):Int)=bt log ((at_+c+1+n:Nat):Int):=by rw[cK (J:at_+(c+1+n)<log.size),show at_+(c+1+n)=at_+c+1+n by omega]
      simp only[e10];obtain h14|h14:=tf (U<|bt log ((at_+c+1+n:Nat):Int)=59)
      .have e8:((U (0<=((at_+c+1+n:Nat):Int))&&U (((at_+c+1+n:Nat):Int)<=(log.size:Int)))&&(U (0<=((at_+c+1:Nat):Int))&&U (((at_+c+1:Nat):Int)<=((at_+c+1+n:Nat):Int))))=Y:=by simp;omega
       have e9:w64 (((at_+c+1+n:Nat):Int)+1)=((at_+(c+2+n):Nat):Int):=by rw[AZ J J];omega
       simp only[h14,AB,A4,e8,A2,Bf,CL,DR,BE (J:out.length+1<=4294967296),BX,e9,aaB (J:at_+(c+1+n)<=log.size)];rw[show at_+(c+1)=at_+c+1 by omega,show at_+(c+1+n)=at_+c+1+n by omega]
      .simp only[h14,AH,A2]
     .rw[A5<|show(((log.size - at_:Nat):Int)<c+2+n) by omega];have e7:U ((log.size:Int)<=((at_+c+1+n:Nat):Int))=Y:=by simp;omega
      simp only[e7,A2]
def fl{log:A1}(hs:log.size<=1048576):QQ (log,())=I (((DC log).1,((DC log).2:Int),()),()):=by
 obtain⟨y,h1,h2⟩:=nY (log:=log) (b:=Sk) (λout at_ y=>y= .inr (out,(at_:Int),())) (λout at_ hlt hl=>by
  rw[ak0 hs hlt hl];cases Dl (log.extract at_ log.size) with
  | none=>exact⟨_,rfl,rfl⟩
  | some p=>rfl) (λout at_ hge=>by
  refine⟨.inr (out,(at_:Int),()), ?_,rfl⟩;unfold Sk;have e:U ((at_:Int)<(log.size:Int))=A0:=by simp;omega
  simp only[e];rfl) (log.size+1) [] 0 J (D5 _) (D5 _)
 unfold QQ;rw[show td (log,[],0,())=I y from h1];subst h2;have h3:=Qk log;simp only[C9];rw[show(F4 log (log.size+1) [] 0)=DC log from rfl,tX J];rfl
abbrev zK:AE:=⟨0,0,0,[],[],[]⟩
def BK(k:AE)(r:A1):Option AE:=if(Fg k r).2 then I (Fg k r).1 else G
def Ez(k:AE)(rs:List A1):Option AE:=rs.foldlM BK k
def Cg(id:Int)(rs:List A1):Option AE:=if isN id then Ez ⟨id,0,1,[],[],[]⟩ rs else G
def aGb{σ β γ κ α:Type}{b:σ->Option (σ ⊕ (β ⊕ γ))}(st:Nat->κ->σ)(l:List α)(f:κ->α->Option κ)(bad:β)(fin:κ->γ)(Tc:κ->Prop)
  (h:∀i k x,l[i]? =I x->Tc k->b (st i k)=I (match f k x with|some k'=> .inl (st (i+1) k')|none=> .inr<|.inl bad))
  (hn:∀k,Tc k->b (st l.length k)=I (.inr<|.inr<|fin k))(hI:∀k x k',Tc k->f k x=I k'->Tc k'):
  ∀k,Tc k->AS b (st 0 k)=I (match l.foldlM f k with|some k'=> .inr (fin k')|none=> .inl bad):=by
 have:∀(m i:Nat),i+m=l.length->∀k,Tc k->AS b (st i k)=I (match (l.drop i).foldlM f k with|some k'=> .inr (fin k')|none=> .inl bad):=by
  intro m
  induction m with
  | zero=>
   intro i hi k hk;rw[List.drop_of_length_le J,show i=l.length by omega];exact BC<|hn k hk
  | succ m ih=>
   intro i hi k hk;have hlt:i<l.length:=J
   rw[Up hlt,Un];have hb:=h i k l[i] (Ar hlt) hk;cases hf:f k l[i]with
   | none=>rw[hf]at hb;exact BC hb
   | some k'=>rw[hf]at hb;exact Am hb<|ih (i+1) J k'<|hI k _ k' hk hf
 intro k hk;have:=this l.length 0 J k hk;rwa[J6]at this
def ass{k:AE}{r:A1}(h:(Fg k r).2=Y):Av (Fg k r).1=Y:=by
 unfold Fg at h ⊢;split at h<;>rename_i hk
 .rw[A5 hk];cases hs:(GW k r).filter Av with
  | none=>rw[hs]at h;cases h
  | some o=>exact(Jk.1 hs).2
 .cases h
def Ty{k o:AE}{r:A1}(h:BK k r=I o):Av o=Y:=by
 unfold BK at h;split at h
 .cases h;exact ass (by assumption)
 .cases h
def aGU{k:AE}(h:Av k=Y):SmK k:=by
 have hf:=Bv h;have hn:∀ {l:List A3},DV l=Y->∀x∈l,GU x:=fun {l} hl x hx=>by
  obtain⟨i,hi,rfl⟩:=Cv hx;have:=HK hl hi;rw[DF<|Ar hi]at this;exact LM this
 exact⟨by have:=hf.hl;omega,hn hf.h,by have:=hf.ml;omega,by have:=hf.il;omega,hn hf.i⟩
def TP{id:Int}(h:isN id=Y):Av ⟨id,0,1,[],[],[]⟩=Y:=by
 unfold Av;simp only[h];rfl
def aFk:∀ {rs:List A1} {k o:AE},Av k=Y->Ez k rs=I o->Av o=Y
 | [],k,o,hk,h=>by cases h;exact hk
 | r::rs,k,o,hk,h=>by
  unfold Ez at h;rw[Un]at h;cases hs:BK k r with
  | none=>rw[hs]at h;cases h
  | some k'=>rw[hs]at h;exact aFk (rs:=rs) (Ty hs) h
def Qr{id:Int}{rs:List A1}{o:AE}(h:Cg id rs=I o):Av o=Y:=by
 unfold Cg at h;split at h
 .exact aFk (TP<|by assumption) h
 .cases h
def aop{id:Int}{rs:List A1}(hl:rs.length<=1048576)(hr:∀r∈rs,r.size<=1048576):jm (id,rs,())=I ((tK<|(Cg id rs).getD zK,(Cg id rs).isSome,()),()):=by
 unfold jm Cg;simp only[K7,A6,ahk];obtain h|h:=tf (isN id)
 .simp only[h,AB,A4,A2];have:=aGb (b:=XI) (λi (k:AE)=>(tK zK,tK k,rs,(j8 rs:Int),(i:Int),())) rs BK (tK zK,A0,()) (λk=>(tK zK,tK k,())) (λk=>Av k=Y) (λi k x hx hk=>by
   have hi:=(BN.1 hx).1;have hxs:=hr x<|Cs hx;unfold XI;simp only[B6 hi,AR hi,PI,JR hx,A2];rw[aDL (aGU hk) hxs];unfold BK;simp only[A6];obtain h2|h2:=tf (Fg k x).2
   .simp only[h2,AB,A4,A2,B1 hi (by omega:rs.length<=9223372036854775807)]
   .simp only[h2,AH,A4,A2]) (λk hk=>by simp[XI]) (λk x k' _ hs=>Ty hs) ⟨id,0,1,[],[],[]⟩ (TP h)
  rw[show vn ((0,0,0,[],[],[],()),(id,0,1,[],[],[],()),rs,(j8 rs:Int),0,())=_ from this];unfold Ez;cases rs.foldlM BK ⟨id,0,1,[],[],[]⟩<;>rfl
 .simp only[h,AH,A4,A2];rfl
def aCY{id:Int}{rs:List A1}(hl:rs.length<=1048576)(hr:∀r∈rs,r.size<=1048576):TE (id,rs,())=I ((tK<|(Cg id rs).getD zK,(Cg id rs).isSome,()),()):=by
 unfold TE Cg;simp only[K9,A6,ahC];obtain h|h:=tf (isN id)
 .simp only[h,AB,A4,A2];have:=aGb (b:=XQ) (λi (k:AE)=>(rs,tK zK,tK k,(i:Int),())) rs BK (tK zK,A0,()) (λk=>(tK zK,tK k,())) (λk=>Av k=Y) (λi k x hx hk=>by
   have hi:=(BN.1 hx).1;have hxs:=hr x<|Cs hx;unfold XQ;simp only[B6 hi,AR hi,PI,JR hx,A2];rw[aD7 (aGU hk) hxs];unfold BK;simp only[A6];obtain h2|h2:=tf (Fg k x).2
   .simp only[h2,AB,A4,A2,B1 hi (by omega:rs.length<=9223372036854775807)]
   .simp only[h2,AH,A4,A2]) (λk hk=>by simp[XQ]) (λk x k' _ hs=>Ty hs) ⟨id,0,1,[],[],[]⟩ (TP h)
  rw[show vN (rs,(0,0,0,[],[],[],()),(id,0,1,[],[],[],()),0,())=_ from this];unfold Ez;cases rs.foldlM BK ⟨id,0,1,[],[],[]⟩<;>rfl
 .simp only[h,AH,A4,A2];rfl
def DU(id:Int)(log:A1):Option AE:=Cg id (DC log).1
def QY{id:Int}{log:A1}(hs:log.size<=1048576):K5 (id,log,())=I ((tK<|(DU id log).getD zK,(DU id log).isSome,()),()):=by
 have h:=Qk log;unfold K5 DU;rw[fl hs];simp only[A6];rw[aop J (λr hr=>by have:=h.2.2 r hr;omega)];rfl
def nE{id fo:Int}{up:Bool}{log:A1}{hv:List AG}(hs:log.size<=1048576):GO ((id,up,log,fo,hv,()),())=I ((tK<|(DU id log).getD zK,(DU id log).isSome,()),()):=by
 have h:=Qk log;unfold GO DU;rw[Wl hs];simp only[A6];rw[aCY J (λr hr=>by have:=h.2.2 r hr;omega)];rfl
def DM(lg:A1)(fo:Int):Bool:=U (lg.size<=2400)&&(inB fo 0 lg.size&&(U (((DC lg).2:Int)=lg.size)&&U (((DC<|lg.extract 0 fo.toNat).2:Int)=fo)))
def XH{lg:A1}{fo:Int}(hs:lg.size<=1048576):OY ((lg,fo,()),())=I ((DM lg fo,()),()):=by
 unfold OY DM;simp only[EU,fl hs,A6,D6,Cy];by_cases h1:lg.size<=2400
 .have e1:U (2400<(lg.size:Int))=A0:=by simp;omega
  simp only[e1,h1,AH,Im,A2,Bl,AX,AU];obtain h2|h2:=tf (inB fo 0 lg.size)
  .have h3:=Aa.1 h2;have e2:(U (0<=fo)&&U (fo<=(lg.size:Int)))=Y:=by simp;omega
   simp only[h2,AB,A4,e2,A2,AU];rw[fl (by rw[G7 J];omega)];rfl
  .simp only[h2,AH,A2,AP]
 .have e1:U (2400<(lg.size:Int))=Y:=by simp;omega
  simp only[e1,h1,AB,Hl,A2,By,Ad,AP]
def XP{lg:A1}{fo:Int}(hs:lg.size<=1048576):OV ((lg,fo,()),())=I ((DM lg fo,()),()):=by
 unfold OV DM;simp only[IB,Wl hs,A6,D6,Cy];by_cases h1:lg.size<=2400
 .have e1:U (2400<(lg.size:Int))=A0:=by simp;omega
  simp only[e1,h1,AH,Im,A2,Bl,AX,AU];obtain h2|h2:=tf (inB fo 0 lg.size)
  .have h3:=Aa.1 h2;have e2:(U (0<=fo)&&U (fo<=(lg.size:Int)))=Y:=by simp;omega
   simp only[h2,AB,A4,e2,A2,AU];rw[Wl (by rw[G7 J];omega)];rfl
  .simp only[h2,AH,A2,AP]
 .have e1:U (2400<(lg.size:Int))=Y:=by simp;omega
  simp only[e1,h1,AB,Hl,A2,By,Ad,AP]
def FY(p:Bool):Ae p Y=Y:=by cases p<;>rfl
def axb{k o:AE}{w:A1}{n:Int}(h:Hy k w n=I o):o.id=k.id:=by
 unfold Hy at h
 repeat' split at h
 all_goals first|(cases h;done)|(cases h;rfl)
def aJy{k o:AE}{n:A3}(h:Eh k n=I o):o.id=k.id:=by
 unfold Eh at h
 repeat' split at h
 all_goals first|(cases h;done)|(cases h;rfl)
def asJ{k o:AE}{w:A1}{n:A3}(h:GS k w n=I o):o.id=k.id:=by
 unfold GS at h;split at h
 .exact(aJy h).trans rfl
 split at h
 .exact aJy h
 split at h
 .cases h
 repeat' split at h
 all_goals first|(cases h;done)|(cases h;rfl)
def asM{k o:AE}{w:A1}{m:Mark}(h:F1 k w m=I o):o.id=k.id:=by
 unfold F1 at h
 repeat' split at h
 all_goals first|(cases h;done)|(cases h;rfl)
def avC{k o:AE}{w r:A1}(h:Bb k w r=I o):o.id=k.id:=by
 unfold Bb at h;split at h
 .split at h
  .exact axb h
  .cases h
 split at h
 .split at h
  .exact asJ h
  .cases h
 split at h
 .split at h
  .exact asM h
  .cases h
 .cases h
def aw7{k o:AE}{r:A1}(h:BK k r=I o)(hk:Av k=Y):o.id=k.id:=by
 unfold BK at h;split at h
 case isFalse=>cases h
 rename_i h2;cases h;unfold Fg at h2 ⊢;simp only[hk,A2]at h2 ⊢;cases hs:(GW k r).filter Av with
 | none=>rfl
 | some o=>
  simp only;have:=(Jk.1 hs).1;unfold GW at this;split at this
  .cases this
  .exact avC this
def aFl:∀ {rs:List A1} {k o:AE},Av k=Y->Ez k rs=I o->o.id=k.id
 | [],k,o,_,h=>by cases h;rfl
 | r::rs,k,o,hk,h=>by
  unfold Ez at h;rw[Un]at h;cases hs:BK k r with
  | none=>rw[hs]at h;cases h
  | some k'=>rw[hs]at h;exact(aFl (rs:=rs) (Ty hs) h).trans<|aw7 hs hk
def o9{id:Int}{rs:List A1}{o:AE}(h:Cg id rs=I o):o.id=id:=by
 unfold Cg at h;split at h
 .exact aFl (k:=⟨id,0,1,[],[],[]⟩) (TP<|by assumption) h
 .cases h
def xA(l:List AT)(i:Nat):AT:=l.getD i<|dfl .mixed
def hA(l:List AG)(i:Nat):AG:=l.getD i<|dfl .half
def Zu(l:List AT)(i:Nat): @rd AT aJ0 l (i:Int)=xA l i:=rfl
def aY(l:List AG)(i:Nat): @rd AG aJP l (i:Int)=hA l i:=rfl
def awU{l:List AT}{i j:Nat}(h:j<i):xA (l.take i) j=xA l j:=by
 unfold xA;simp[BA,h]
def IP(l:List AT)(i:Nat):Bool:=(inB (xA l i).nu 0 999&&U (((xA l i).da.size:Int)=4))&&Ap i λj=> !decide ((xA l j).nu=(xA l i).nu)
def GB(h:AG):Bool:=isN h.fr&&(isN h.to&&(inB h.nu 1 99&&(inB h.un 1 999&&(inB h.sz 1 24&&(U ((j8 h.got:Int)<=14)&&Ap h.got.length (IP h.got))))))
def aoh{h:AG}(sm:PT h):jS ((h.fr,h.nu,h.to,h.un,h.sz,h.got,()),())=I ((GB h,()),()):=by
 have hl:h.got.length<=9223372036854775807:=by have:=sm.1;omega
 have GJ:vY ((h.fr,h.nu,h.to,h.un,h.sz,h.got,()),h.got,(j8 h.got:Int),0,())=I (if Ap h.got.length (IP h.got) then .inr () else .inl (A0,())):=
  Cq (λi=>((h.fr,h.nu,h.to,h.un,h.sz,h.got,()),h.got,(j8 h.got:Int),(i:Int),())) h.got.length (IP h.got) (A0,()) () (λi hi=>by
   unfold iz IP;simp only[B6 hi,AR hi,A2,Zu,EU,A6];obtain e|e:=tf (inB (xA h.got i).nu 0 999)<;>obtain e'|e':=tfp (((xA h.got i).da.size:Int)=4)
   rotate_left
   .simp only[e,e',Ad,Ba,AH,DY,AP,A2,A4]
   .simp only[e,AP,AH,By,A2,A4]
   .simp only[e,AP,AH,By,A2,A4]
   .have e2:(U (0<=(i:Int))&&U ((i:Int)<=(j8 h.got:Int)))=Y:=by simp;omega
    have e3:(BQ i h.got).length=i:=by simp;omega
    simp only[e,e',AX,AB,Gk,A4,e2,A2,BX,e3,AU];have hin:vX ((h.fr,h.nu,h.to,h.un,h.sz,h.got,()),((xA h.got i).nu,(xA h.got i).da,()),h.got,(j8 h.got:Int),(i:Int),BQ i h.got,(i:Int),0,())=
      I (if Ap i (λj=> !decide ((xA h.got j).nu=(xA h.got i).nu)) then .inr ((h.fr,h.nu,h.to,h.un,h.sz,h.got,()),h.got,(j8 h.got:Int),(i:Int),()) else .inl (A0,())):=
     Cq (λj=>((h.fr,h.nu,h.to,h.un,h.sz,h.got,()),((xA h.got i).nu,(xA h.got i).da,()),h.got,(j8 h.got:Int),(i:Int),BQ i h.got,(i:Int),(j:Int),())) i (λj=> !decide ((xA h.got j).nu=(xA h.got i).nu)) (A0,()) _ (λj hj=>by
      unfold iy;simp only[B6 hj,e3,AR hj,A2,Zu,awU hj,B1 hj (by omega:i<=9223372036854775807)];obtain e4|e4:=tfp ((xA h.got j).nu=(xA h.got i).nu)<;>simp only[e4,AX,Ad]<;>rfl) (by simp[iy])
    rw[hin];obtain e4|e4:=tf (Ap i λj=> !decide ((xA h.got j).nu=(xA h.got i).nu))
    .simp only[e4,A2,C9,B1 hi hl]
    .simp only[e4,A4,G6]) (by simp[iz])
 unfold jS GB;simp only[K7,EU,A6,GJ];obtain e|e:=tf (isN h.fr)<;>simp only[e,AB,AH,A2,A4,AU,AP];obtain e|e:=tf (isN h.to)<;>simp only[e,AB,AH,A2,A4,AU,AP];obtain e|e:=tf (inB h.nu 1 99)<;>simp only[e,AB,AH,A2,A4,AU,AP];obtain e|e:=tf (inB h.un 1 999)<;>simp only[e,AB,AH,A2,A4,AU,AP];obtain e|e:=tf (inB h.sz 1 24)<;>simp only[e,AB,AH,A2,A4,AU,AP];obtain⟨e1,e2⟩|⟨e1,e2⟩:=Ed (j8 h.got:Int) 14<;>simp only[e1,e2,AX,Ad,A2,A4,AU,AP];obtain e|e:=tf (Ap h.got.length<|IP h.got)<;>simp only[e,A2,A4]<;>rfl
def au6{sz:Int}(h:inB sz 1 24=Y):inB (w64<|B2 (w64<|w64 (sz+4) - 1) 4) 1 6=Y:=by
 have h:=Aa.1 h;rw[AZ (n:=sz+4) J J,AZ (n:=sz+4 - 1) J J];have e:B2 (sz+4 - 1) 4=(sz+4 - 1) / 4:=Gi J;rw[e,AZ J J,Aa];omega
def apL{h:AG}(sm:PT h):gI ((h.fr,h.nu,h.to,h.un,h.sz,h.got,()),())=I ((GB h,()),()):=by
 have hl:h.got.length<=9223372036854775807:=by have:=sm.1;omega
 have GJ:inB h.sz 1 24=Y->tv ((h.fr,h.nu,h.to,h.un,h.sz,h.got,()),0,())=I (if Ap h.got.length (IP h.got) then .inr () else .inl (A0,())):=λhz=>
  Cq (λi=>((h.fr,h.nu,h.to,h.un,h.sz,h.got,()),(i:Int),())) h.got.length (IP h.got) (A0,()) () (λi hi=>by
   unfold fc IP M6 TB NK;simp only[B6 hi,AR hi,A2,Zu,IB,A6,au6 hz,Im,D6,Cy,AU];obtain e|e:=tf (inB (xA h.got i).nu 0 999)<;>obtain e'|e':=tfp (((xA h.got i).da.size:Int)=4)
   rotate_left
   .simp only[e,e',Ad,Ba,AH,AP,A2,A4]
   .simp only[e,AP,AH,A2,A4]
   .simp only[e,AP,AH,A2,A4]
   .simp only[e,e',AX,Dn,AB,A4,AU];have hin:tu ((h.fr,h.nu,h.to,h.un,h.sz,h.got,()),(i:Int),0,())=
      I (if Ap i (λj=> !decide ((xA h.got j).nu=(xA h.got i).nu)) then .inr ((h.fr,h.nu,h.to,h.un,h.sz,h.got,()),(i:Int),()) else .inl (A0,())):=
     Cq (λj=>((h.fr,h.nu,h.to,h.un,h.sz,h.got,()),(i:Int),(j:Int),())) i (λj=> !decide ((xA h.got j).nu=(xA h.got i).nu)) (A0,()) _ (λj hj=>by
      unfold fb;simp only[B6 hj,AR hi,AR<|bU hj hi,A2,Zu,B1 hj (by omega:i<=9223372036854775807)];obtain e4|e4:=tfp ((xA h.got j).nu=(xA h.got i).nu)<;>simp only[e4,AX,Ad]<;>rfl) (by simp[fb])
    rw[hin];obtain e4|e4:=tf (Ap i λj=> !decide ((xA h.got j).nu=(xA h.got i).nu))
    .simp only[e4,A2,C9,B1 hi hl]
    .simp only[e4,A4,G6]) (by simp[fc])
 unfold gI GB;simp only[K9,IB,A6];obtain e|e:=tf (isN h.fr)<;>simp only[e,AB,AH,A2,A4,AU,AP];obtain e|e:=tf (isN h.to)<;>simp only[e,AB,AH,A2,A4,AU,AP];obtain e|e:=tf (inB h.nu 1 99)<;>simp only[e,AB,AH,A2,A4,AU,AP];obtain e|e:=tf (inB h.un 1 999)<;>simp only[e,AB,AH,A2,A4,AU,AP];obtain e|e:=tf (inB h.sz 1 24)<;>simp only[e,AB,AH,A2,A4,AU,AP];rw[GJ e];obtain⟨e1,e2⟩|⟨e1,e2⟩:=Ed (j8 h.got:Int) 14<;>simp only[e1,e2,AX,Ad,A2,A4,AU,AP];obtain e|e:=tf (Ap h.got.length<|IP h.got)<;>simp only[e,A2,A4]<;>rfl
def EN(l:List AG)(f n:Int):Int:=GC l.length λi=>U ((hA l i).fr=f)&&U ((hA l i).nu=n)
def aDH{l:List AG}{f n:Int}(hl:l.length<=1048576):TJ (l,f,n,())=I ((EN l f n,()),()):=by
 unfold TJ;have:=Qo (b:=XG) (λi=>(f,n,l,(j8 l:Int),(i:Int),())) l.length (λi=>U ((hA l i).fr=f)&&U ((hA l i).nu=n)) (λr=>(r,())) () (λi hi=>by
  unfold XG;simp only[B6 hi,AR hi,A2,aY,B1 hi (by omega:l.length<=9223372036854775807)];obtain e|e:=tfp ((hA l i).fr=f)<;>obtain e2|e2:=tfp ((hA l i).nu=n)<;>simp only[e,e2,AX,Ad]<;>rfl) (by simp[XG])
 rw[show vZ (f,n,l,(j8 l:Int),0,())=_ from this];exact Tt
def aIc{n:Nat}{p:Nat->Bool}{i:Nat}(hi:i<n)(hp:p i=Y):U (GC n p<(i:Int))= !(Ap i λj=> !p j):=by
 obtain⟨_,h2⟩|⟨c,h1,h2,h3,h4⟩:=GP n p
 .rw[h2 i hi]at hp;cases hp
 .rw[h1];by_cases hc:c<i
  .have:Ap i (λj=> !p j)=A0:=by
    rw[Bool.eq_false_iff];intro h;have:=CC.1 h c hc;simp[h3]at this
   rw[this];simpa using hc
  .have:Ap i (λj=> !p j)=Y:=CC.2 λj hj=>by rw[h4 j J];rfl
   rw[this];simp;omega
def G0(l:List AG)(i:Nat):Bool:=GB (hA l i)&&Ap i λj=> !(U ((hA l j).fr=(hA l i).fr)&&U ((hA l j).nu=(hA l i).nu))
def Ag(k:A7):Bool:=isN k.id&&(DM k.log k.fo&&(U ((k.AJ.length:Int)<=3)&&((k.up||decide (k.AJ.length=0))&&(((DU k.id k.log).isSome&&(DU k.id<|k.log.extract 0 k.fo.toNat).isSome)&&Ap k.AJ.length (G0 k.AJ)))))
abbrev tKp(k:A7):Int×Bool×A1×Int×List AG×D:=(k.id,k.up,k.log,k.fo,k.AJ,())
def ab9{l:List AG}(h:∀x∈l,PT x)(i:Nat):PT (hA l i):=by
 unfold hA;obtain hi|hi:=Gl i l.length
 .rw[JR<|Ar hi];exact h _ (CS hi)
 .rw[BA,Hz hi];exact⟨by decide,λm hm=>by cases hm⟩
def K0{k:A7}(sm:FZ k):I7 (tKp k,())=I ((Ag k,()),()):=by
 obtain⟨id,up,lg,fo,hv⟩:=k;obtain⟨sl,hl,hs⟩:=sm;simp only at sl hl hs;have GJ:di ((id,up,lg,fo,hv,()),hv,(j8 hv:Int),0,())=I (if Ap hv.length (G0 hv) then .inr () else .inl (A0,())):=
  Cq (λi=>((id,up,lg,fo,hv,()),hv,(j8 hv:Int),(i:Int),())) hv.length (G0 hv) (A0,()) () (λi hi=>by
   unfold fu G0;simp only[B6 hi,AR hi,A2,aY,aoh<|ab9 hs i,aDH hl,A6,D6,Cy,FY,B1 hi (by omega:hv.length<=9223372036854775807)];obtain e|e:=tf (GB<|hA hv i)
   .have hf:=aIc (p:=λj=>U ((hA hv j).fr=(hA hv i).fr)&&U ((hA hv j).nu=(hA hv i).nu)) hi aJO;unfold EN;simp only[e,AB,Bl,AU,hf];cases Ap i (λj=> !(U ((hA hv j).fr=(hA hv i).fr)&&U ((hA hv j).nu=(hA hv i).nu)))<;>rfl
   .simp only[e,AH,By,A2,AP,A4]) (by simp[fu])
 unfold I7 Ag;simp only[K7,A6,XH sl];obtain e|e:=tf (isN id)<;>simp only[e,AB,AH,A2,A4,AU,AP,Ou];obtain e2|e2:=tf (DM lg fo)<;>simp only[e2,AB,AH,A2,A4,AU,AP,Ou];have e3:0<=fo/\fo<=(lg.size:Int):=by
  unfold DM at e2;simp only[AD]at e2;exact Aa.1 e2.2.1
 have e4:(U (0<=fo)&&U (fo<=(lg.size:Int)))=Y:=by simp;omega
 obtain⟨e5,e6⟩|⟨e5,e6⟩:=Ed (j8 hv:Int) 3<;>simp only[e5,e6,AX,Ad,A2,A4,AU,AP,Ou];have Ie:∀b:Bool,(b=Y)->BU (X:=(Int×Bool×A1×Int×List AG×D)×D) (λj5=>
   (K5 (j5.1.1,j5.1.2.2.1,())).bind λr8=>
   (if(U (0<=j5.1.2.2.2.1)&&U (j5.1.2.2.2.1<=(j5.1.2.2.1.size:Int))) then
   (K5 (j5.1.1,(j5.1.2.2.1.extract (0)<|AO j5.1.2.2.2.1),())).bind λr9=>
   (if((!r8.1.2.1)||(!r9.1.2.1)) then
   I ((A0,()),())
   else
   (AM (di (j5.1,j5.1.2.2.2.2.1,(j8 j5.1.2.2.2.2.1:Int),0,()))
   (λy56=>I (y56,()))
   (λy56=>I ((Y,()),()))))
   else G)) (I<|.inr ((id,up,lg,fo,hv,()),()))=I ((b&&(((DU id lg).isSome&&(DU id<|lg.extract 0 fo.toNat).isSome)&&Ap hv.length (G0 hv)),()),()):=by
  rintro b rfl;simp only[Bh,QY sl,A6,e4,A2];rw[QY (by rw[G7 J];omega)];simp only[A6,GJ,AU];obtain e|e:=tf (DU id lg).isSome<;>obtain e2|e2:=tf (DU id<|lg.extract 0 fo.toNat).isSome<;>simp only[e,e2,AB,AH,Gk,By,DY,A2,A4,Dn,Ba,AP,AU];obtain e|e:=tf (Ap hv.length<|G0 hv)<;>simp only[e,A2,A4]<;>rfl
 obtain e7|e7:=tf up
 .simp only[e7,AB,A4,By];rw[e7]at Ie;exact Ie Y rfl
 .simp only[e7,AH,A2,Bl];rw[e7]at Ie;by_cases e8:hv.length=0
  .have e9:U (0<(j8 hv:Int))=A0:=by rw[e8];rfl
   simp only[e9,A4,e8,AX];rw[e8]at Ie;exact Ie Y rfl
  .have e9:U (0<(j8 hv:Int))=Y:=by simp;omega
   simp only[e9,A2,e8,Ad,AP,Ou]
def M7{k:A7}(sm:FZ k):JJ (tKp k,())=I ((Ag k,()),()):=by
 obtain⟨id,up,lg,fo,hv⟩:=k;obtain⟨sl,hl,hs⟩:=sm;simp only at sl hl hs;have GJ:dm ((id,up,lg,fo,hv,()),0,())=I (if Ap hv.length (G0 hv) then .inr () else .inl (A0,())):=
  Cq (λi=>((id,up,lg,fo,hv,()),(i:Int),())) hv.length (G0 hv) (A0,()) () (λi hi=>by
   unfold gQ G0;simp only[B6 hi,AR hi,A2,aY,apL<|ab9 hs i,A6,B1 hi (by omega:hv.length<=9223372036854775807)];obtain e|e:=tf (GB<|hA hv i)
   .simp only[e,AB,A4,AU];have hin:uH ((id,up,lg,fo,hv,()),(i:Int),0,())=I (if Ap i (λj=> !(U ((hA hv j).fr=(hA hv i).fr)&&U ((hA hv j).nu=(hA hv i).nu))) then .inr ((id,up,lg,fo,hv,()),(i:Int),()) else .inl (A0,())):=
     Cq (λj=>((id,up,lg,fo,hv,()),(i:Int),(j:Int),())) i (λj=> !(U ((hA hv j).fr=(hA hv i).fr)&&U ((hA hv j).nu=(hA hv i).nu))) (A0,()) _ (λj hj=>by
      unfold gP;simp only[B6 hj,AR hi,AR<|bU hj hi,A2,aY,FY,B1 hj (by omega:i<=9223372036854775807)];obtain e|e:=tfp ((hA hv j).fr=(hA hv i).fr)<;>obtain e2|e2:=tfp ((hA hv j).nu=(hA hv i).nu)<;>simp only[e,e2,AX,Ad]<;>rfl) (by simp[gP])
    rw[hin];obtain e4|e4:=tf (Ap i λj=> !(U ((hA hv j).fr=(hA hv i).fr)&&U ((hA hv j).nu=(hA hv i).nu)))
    .simp only[e4,A2,C9,B1 hi (by omega:hv.length<=9223372036854775807)]
    .simp only[e4,A4,G6]
   .simp only[e,AH,A2,AP,A4]) (by simp[gQ])
 unfold JJ Ag;simp only[K9,A6,XP sl];obtain e|e:=tf (isN id)<;>simp only[e,AB,AH,A2,A4,AU,AP,Ou];obtain e2|e2:=tf (DM lg fo)<;>simp only[e2,AB,AH,A2,A4,AU,AP,Ou];have e3:0<=fo/\fo<=(lg.size:Int):=by
  unfold DM at e2;simp only[AD]at e2;exact Aa.1 e2.2.1
 have e4:(U (0<=fo)&&U (fo<=(lg.size:Int)))=Y:=by simp;omega
 obtain⟨e5,e6⟩|⟨e5,e6⟩:=Ed (j8 hv:Int) 3<;>simp only[e5,e6,AX,Ad,A2,A4,AU,AP,Ou];have Ie:∀b:Bool,(b=Y)->BU (X:=(Int×Bool×A1×Int×List AG×D)×D) (λj5=>
   (if(U (0<=j5.1.2.2.2.1)&&U (j5.1.2.2.2.1<=(j5.1.2.2.1.size:Int))) then
   (Lz ((j5.1.2.2.1.extract (0)<|AO j5.1.2.2.2.1),())).bind λr8=>
   (TE (j5.1.1,r8.1.1,())).bind λr9=>
   (GO j5).bind λr10=>
   (if((!r10.1.2.1)||(!r9.1.2.1)) then
   I ((A0,()),())
   else
   (AM (dm (j5.1,0,()))
   (λy27=>I (y27,()))
   (λy27=>I ((Y,()),()))))
   else G)) (I<|.inr ((id,up,lg,fo,hv,()),()))=I ((b&&(((DU id lg).isSome&&(DU id<|lg.extract 0 fo.toNat).isSome)&&Ap hv.length (G0 hv)),()),()):=by
  rintro b rfl;have hz:(lg.extract 0 fo.toNat).size<=1048576:=by rw[G7 J];omega
  have hg:=Qk<|lg.extract 0 fo.toNat;simp only[Bh,e4,A2,Wl hz,A6,aCY (id:=id) (show(DC<|lg.extract 0 fo.toNat).1.length<=1048576 by omega) (λr hr=>by have:=hg.2.2 r hr;omega),nE sl,GJ,AU];rw[show Cg id (DC<|lg.extract 0 fo.toNat).1=DU id (lg.extract 0 fo.toNat) from rfl];obtain e|e:=tf (DU id lg).isSome<;>obtain e2|e2:=tf (DU id<|lg.extract 0 fo.toNat).isSome<;>simp only[e,e2,AB,AH,Gk,By,DY,A2,A4,Dn,Ba,AP,AU];obtain e|e:=tf (Ap hv.length<|G0 hv)<;>simp only[e,A2,A4]<;>rfl
 obtain e7|e7:=tf up
 .simp only[e7,AB,A4,By];rw[e7]at Ie;exact Ie Y rfl
 .simp only[e7,AH,A2,Bl];rw[e7]at Ie;by_cases e8:hv.length=0
  .have e9:U (0<(j8 hv:Int))=A0:=by rw[e8];rfl
   simp only[e9,A4,e8,AX];rw[e8]at Ie;exact Ie Y rfl
  .have e9:U (0<(j8 hv:Int))=Y:=by simp;omega
   simp only[e9,A2,e8,Ad,AP,Ou]
abbrev YR:=Int×List A7×List Bool×List AL×List A3×List A3×D
def kA(l:List A7)(i:Nat):A7:=l.getD i<|dfl .AK
def pA(l:List AL)(i:Nat):AL:=l.getD i<|dfl .Ah
def bA(l:List Bool)(i:Nat):Bool:=l.getD i<|dfl .bool
def Ox(l:List A7)(i:Nat): @rd A7 aJN l (i:Int)=kA l i:=rfl
def aGs(l:List AL)(i:Nat): @rd AL aJS l (i:Int)=pA l i:=rfl
def HW(l:List A3):Bool:=Ap l.length λi=>Ay<|nA l i
def Dw(p:AL):Bool:=isN p.src&&(isN p.dst&&((U (p.src - p.dst=1)||decide (p.dst - p.src=1))&&U ((p.data.size:Int)<=40)))
def Je(l:List A7)(i:Nat):Bool:=U ((kA l i).id=(i:Int))&&Ag (kA l i)
def GR(ti:Int)(ks:List A7)(ls:List Bool)(ra:List AL)(se go:List A3):Bool:=
 inB ti 0 99999&&(U ((j8 ks:Int)=4)&&(U ((j8 ls:Int)=3)&&(U ((j8 ra:Int)<=30)&&((HW se&&U ((j8 se:Int)<=6))&&((HW go&&U ((j8 go:Int)<=6))&&
  (Ap ks.length (Je ks)&&Ap ra.length (λi=>Dw<|pA ra i)))))))
def Nc{l:List A7}(h:∀x∈l,FZ x)(i:Nat):FZ (kA l i):=by
 unfold kA;obtain hi|hi:=Gl i l.length
 .rw[JR<|Ar hi];exact h _ (CS hi)
 .rw[BA,Hz hi];exact⟨by decide,by decide,λm hm=>by cases hm⟩
def aDg{l:List A3}(hl:l.length<=1048576)(h:∀x∈l,GU x):Xs (l,())=I ((HW l&&U ((j8 l:Int)<=6),()),()):=by
 have GJ:wR (l,l,(j8 l:Int),0,())=I (if HW l then .inr (l,()) else .inl (A0,())):=
  Cq (λi=>(l,l,(j8 l:Int),(i:Int),())) l.length (λi=>Ay<|nA l i) (A0,()) (l,()) (λi hi=>by
   unfold jl;simp only[B6 hi,AR hi,A2,Cf,Xe<|VO h i,A6,B1 hi (by omega:l.length<=9223372036854775807)];obtain e|e:=tf (Ay<|nA l i)<;>simp only[e]<;>rfl) (by simp[jl])
 unfold Xs;simp only[GJ];obtain e|e:=tf (HW l)<;>simp only[e]<;>rfl
def E9{n:Int}(h:isN n=Y):0<=n/\n<=3:=Aa.1 h
def Zl{a b:Int}(ha:isN a=Y)(hb:isN b=Y):w64 (a - b)=a - b:=by
 have:=E9 ha;have:=E9 hb;exact AZ J J
def ajz{w:YR}{ks:List A7}(kl:ks.length<=1048576)(k:∀x∈ks,FZ x):
  vC (w,ks,(j8 ks:Int),0,())=I (if Ap ks.length (Je ks) then .inr (w,()) else .inl (A0,())):=
 Cq (λi=>(w,ks,(j8 ks:Int),(i:Int),())) ks.length (Je ks) (A0,()) (w,()) (λi hi=>by
  have hk:=K0<|Nc k i;unfold iA Je;simp only[B6 hi,AR hi,A2,Ox,hk,D6,Cy,FY,B1 hi (by omega:ks.length<=9223372036854775807)];obtain e|e:=tfp ((kA ks i).id=(i:Int))<;>obtain e2|e2:=tf (Ag<|kA ks i)<;>simp only[e,e2,AX,Ad]<;>rfl) (by simp[iA])
def aAT{ra:List AL}(rl:ra.length<=1048576):
  vB (ra,(j8 ra:Int),0,())=I (if Ap ra.length (λi=>Dw<|pA ra i) then .inr () else .inl (A0,())):=
 Cq (λi=>(ra,(j8 ra:Int),(i:Int),())) ra.length (λi=>Dw<|pA ra i) (A0,()) () (λi hi=>by
  unfold hY Dw;simp only[B6 hi,AR hi,A2,aGs,K7,A6,B1 hi (by omega:ra.length<=9223372036854775807)];obtain e|e:=tf (isN (pA ra i).src)<;>obtain e2|e2:=tf (isN (pA ra i).dst)<;>simp only[e,e2,AB,AH,A2,A4,AU,AP];simp only[Zl e e2,Zl e2 e];obtain e3|e3:=tfp ((pA ra i).src - (pA ra i).dst=1)<;>obtain e4|e4:=tfp ((pA ra i).dst - (pA ra i).src=1)<;>obtain⟨e5,e6⟩|⟨e5,e6⟩:=Ed ((pA ra i).data.size:Int) 40<;>simp only[e3,e4,e5,e6,AX,Ad]<;>rfl) (by simp[hY])
def jA{ti:Int}{ks:List A7}{ls:List Bool}{ra:List AL}{se go:List A3}(sm:HE ks ls ra se go):
  NH ((ti,ks,ls,ra,se,go,()),())=I ((GR ti ks ls ra se go,()),()):=by
 unfold NH GR;simp only[EU,aDg sm.sl sm.s,aDg sm.gl sm.g,ajz sm.kl sm.k,aAT sm.rl,A6];obtain e|e:=tf (inB ti 0 99999)<;>simp only[e,AB,AH,A2,A4,AU,AP];obtain e|e:=tfp ((j8 ks:Int)=4)<;>simp only[e,AX,Ad,AB,AH,A2,A4,AU,AP];obtain e|e:=tfp ((j8 ls:Int)=3)<;>simp only[e,AX,Ad,AB,AH,A2,A4,AU,AP];obtain⟨e1,e2⟩|⟨e1,e2⟩:=Ed (j8 ra:Int) 30<;>simp only[e1,e2,AX,Ad,A2,A4,AU,AP];obtain e|e:=tf (HW se&&U ((j8 se:Int)<=6))<;>simp only[e,AB,AH,A2,A4,AU,AP];obtain e|e:=tf (HW go&&U ((j8 go:Int)<=6))<;>simp only[e,AB,AH,A2,A4,AU,AP];obtain e|e:=tf (Ap ks.length<|Je ks)<;>simp only[e,A2,A4,AU,AP,G6,C9];rw[aAT sm.rl];obtain e|e:=tf (Ap ra.length λi=>Dw<|pA ra i)<;>simp only[e,A2,A4,G6,C9]
def aiy{ti:Int}{ks:List A7}{ls:List Bool}{ra:List AL}{se go:List A3}(sm:HE ks ls ra se go):
  uw ((ti,ks,ls,ra,se,go,()),0,())=I (if Ap ks.length (Je ks) then .inr ((ti,ks,ls,ra,se,go,()),()) else .inl (A0,())):=
 Cq (λi=>((ti,ks,ls,ra,se,go,()),(i:Int),())) ks.length (Je ks) (A0,()) _ (λi hi=>by
  have hk:=M7<|Nc sm.k i;unfold gi Je;have kl:=sm.kl;simp only[B6 hi,AR hi,A2,Ox,hk,A6,FY,B1 hi (by omega:ks.length<=9223372036854775807)];obtain e|e:=tfp ((kA ks i).id=(i:Int))<;>obtain e2|e2:=tf (Ag<|kA ks i)<;>simp only[e,e2,AX,Ad]<;>rfl) (by simp[gi])
def aix{ti:Int}{ks:List A7}{ls:List Bool}{ra:List AL}{se go:List A3}(sm:HE ks ls ra se go):
  uv ((ti,ks,ls,ra,se,go,()),0,())=I (if Ap ra.length (λi=>Dw<|pA ra i) then .inr ((ti,ks,ls,ra,se,go,()),()) else .inl (A0,())):=
 Cq (λi=>((ti,ks,ls,ra,se,go,()),(i:Int),())) ra.length (λi=>Dw<|pA ra i) (A0,()) _ (λi hi=>by
  have rl:=sm.rl;unfold gh Dw;simp only[B6 hi,AR hi,A2,aGs,K9,A6,B1 hi (by omega:ra.length<=9223372036854775807)];obtain e|e:=tf (isN (pA ra i).src)<;>obtain e2|e2:=tf (isN (pA ra i).dst)<;>simp only[e,e2,AB,AH,A2,A4,AU,AP];simp only[Zl e e2,Zl e2 e];obtain e3|e3:=tfp ((pA ra i).src - (pA ra i).dst=1)<;>obtain e4|e4:=tfp ((pA ra i).dst - (pA ra i).src=1)<;>obtain⟨e5,e6⟩|⟨e5,e6⟩:=Ed ((pA ra i).data.size:Int) 40<;>simp only[e3,e4,e5,e6,AX,Ad]<;>rfl) (by simp[gh])
def aiw{ti:Int}{ks:List A7}{ls:List Bool}{ra:List AL}{se go:List A3}(sm:HE ks ls ra se go):
  uu ((ti,ks,ls,ra,se,go,()),0,())=I (if HW se then .inr ((ti,ks,ls,ra,se,go,()),()) else .inl (A0,())):=
 Cq (λi=>((ti,ks,ls,ra,se,go,()),(i:Int),())) se.length (λi=>Ay<|nA se i) (A0,()) _ (λi hi=>by
  have rl:=sm.sl;unfold gf;simp only[B6 hi,AR hi,A2,Cf,XU<|VO sm.s i,A6,B1 hi (by omega:se.length<=9223372036854775807)];obtain e|e:=tf (Ay<|nA se i)<;>simp only[e]<;>rfl) (by simp[gf])
def aiv{ti:Int}{ks:List A7}{ls:List Bool}{ra:List AL}{se go:List A3}(sm:HE ks ls ra se go):
  ur ((ti,ks,ls,ra,se,go,()),0,())=I (if HW go then .inr () else .inl (A0,())):=
 Cq (λi=>((ti,ks,ls,ra,se,go,()),(i:Int),())) go.length (λi=>Ay<|nA go i) (A0,()) _ (λi hi=>by
  have rl:=sm.gl;unfold gb;simp only[B6 hi,AR hi,A2,Cf,XU<|VO sm.g i,A6,B1 hi (by omega:go.length<=9223372036854775807)];obtain e|e:=tf (Ay<|nA go i)<;>simp only[e]<;>rfl) (by simp[gb])
def kV{ti:Int}{ks:List A7}{ls:List Bool}{ra:List AL}{se go:List A3}(sm:HE ks ls ra se go):
  QX ((ti,ks,ls,ra,se,go,()),())=I ((GR ti ks ls ra se go,()),()):=by
 unfold QX GR;simp only[IB,A6];obtain e|e:=tf (inB ti 0 99999)<;>simp only[e,AB,AH,A2,A4,AU,AP];obtain e|e:=tfp ((j8 ks:Int)=4)<;>simp only[e,AX,Ad,AB,AH,A2,A4,AU,AP];obtain e|e:=tfp ((j8 ls:Int)=3)<;>simp only[e,AX,Ad,AB,AH,A2,A4,AU,AP];obtain⟨e1,e2⟩|⟨e1,e2⟩:=Ed (j8 ra:Int) 30<;>simp only[e1,e2,AX,Ad,A2,A4,AU,AP];obtain⟨e1,e2⟩|⟨e1,e2⟩:=Ed (j8 se:Int) 6<;>simp only[e1,e2,AX,Ad,A2,A4,Lh,Ba,AP];obtain⟨e1,e2⟩|⟨e1,e2⟩:=Ed (j8 go:Int) 6<;>simp only[e1,e2,AX,Ad,A2,A4,Lh,Ba,AP];rw[aiy sm];obtain e|e:=tf (Ap ks.length<|Je ks)<;>simp only[e,A2,A4,AU,AP,Ba,G6,C9];rw[aix sm];obtain e|e:=tf (Ap ra.length λi=>Dw<|pA ra i)<;>simp only[e,A2,A4,G6,C9,Ba,Lh];rw[aiw sm];obtain e|e:=tf (HW se)<;>simp only[e,A2,A4,G6,C9,Ba,Lh,AU,AP];rw[aiv sm];obtain e|e:=tf (HW go)<;>simp only[e,A2,A4,G6,C9,Ba,Lh]
def BR(a t:Int):Int:=if !isN a||(!isN t||decide (a=t)) then -1 else if a<t then a+1 else a - 1
def Zm{a:Int}(h:isN a=Y):w64 (a+1)=a+1/\w64 (a - 1)=a - 1:=by
 have:=E9 h;exact⟨AZ J J,AZ J J⟩
def Wq{a t:Int}:I6 (a,t,())=I ((BR a t,()),()):=by
 unfold I6 BR;simp only[K7,A6];obtain e|e:=tf (isN a)
 .rcases tf (isN t) with e2|e2
  .rcases tfp (a=t) with e3|e3
   .simp only[e,e2,e3,AX];rfl
   .rcases tfp (a<t) with e4|e4<;>simp only[e,e2,e3,e4,Ad,AX,AB,A4,Bh,A2,if_false,Gk,(Zm e).1,(Zm e).2]
  .simp only[e,e2];rfl
 .simp only[e];rfl
def kD{a t:Int}:T4 (a,t,())=I ((BR a t,()),()):=by
 unfold T4 BR;simp only[K9,A6];obtain e|e:=tf (isN a)
 .rcases tf (isN t) with e2|e2
  .rcases tfp (a=t) with e3|e3
   .simp only[e,e2,e3,AX];rfl
   .rcases tfp (a<t) with e4|e4<;>simp only[e,e2,e3,e4,Ad,AX,AB,A4,Bh,A2,if_false,Gk,(Zm e).1,(Zm e).2]
  .simp only[e,e2];rfl
 .simp only[e];rfl
def nM{a t:Int}(ha:isN a=Y)(ht:isN t=Y)(hne:a≠t):isN (BR a t)=Y:=by
 have:=E9 ha;have:=E9 ht;have e3:U (a=t)=A0:=by simpa using hne
 unfold BR;simp only[ha,ht,e3,AB,Gk,A4];rw[Aa];split<;>omega
def stT(k:A7):AE:=(DU k.id k.log).getD zK
def Tg(l:List A7)(i:Int): @rd A7 aJN l i=kA l i.toNat:=rfl
structure akt (k:A7):Prop where
 id:isN k.id=Y
 sh:DM k.log k.fo=Y
 hl:k.AJ.length<=3
 up:k.up=Y\/k.AJ.length=0
 st:DU k.id k.log=I (stT k)
 ok:Av (stT k)=Y
 sid:(stT k).id=k.id
 fo:(DU k.id<|k.log.extract 0 k.fo.toNat).isSome=Y
 hv:∀i,i<k.AJ.length->G0 k.AJ i=Y
def Dq{k:A7}(h:Ag k=Y):akt k:=by
 unfold Ag at h;simp only[AD,Bp,decide_eq_true_eq,CC]at h;obtain⟨a,b,c,d,⟨e,f⟩,g⟩:=h;have hs:DU k.id k.log=I (stT k):=by
  unfold stT;cases hh:DU k.id k.log with
  | none=>rw[hh]at e;cases e
  | some o=>rfl
 exact⟨a,b,J,d,hs,Qr hs,o9 hs,f,g⟩
structure OD (ti:Int) (ks:List A7) (ls:List Bool) (ra:List AL) (se go:List A3):Prop where
 t0:0<=ti
 t1:ti<=99999
 kl:ks.length=4
 ll:ls.length=3
 rl:ra.length<=30
 s:HW se=Y
 sl:se.length<=6
 g:HW go=Y
 gl:go.length<=6
 k:∀i,i<4->(kA ks i).id=(i:Int)/\Ag (kA ks i)=Y
 r:∀i,i<ra.length->Dw (pA ra i)=Y
def nr{k:AE}{n:A3}(h:Av k=Y)(hn:n∈k.held):isN (BR k.id n.to)=Y:=by
 have hf:=Bv h;obtain⟨i,hi,rfl⟩:=Cv hn;have h1:=HK hf.h hi;rw[DF<|Ar hi]at h1;have h2:=IF h1;have h3:=hf.ho i hi;unfold HO Ec at h3;rw[DF<|Ar hi]at h3;simp only[AD,Bz,decide_eq_false_iff_not]at h3;exact nM (Aa.2 ⟨hf.id0,hf.id1⟩) (Aa.2 ⟨h2.t0,h2.t1⟩) h3.2.2.1.1
section
variable {ti:Int} {ks:List A7} {ls:List Bool} {ra:List AL} {se go:List A3}
def EX{l:List A3}{j:Nat}(h:j<l.length):nA l j∈l:=by
 rw[DF<|Ar h];exact CS h
end
end Go.VS
namespace Go.VS
open Go
def Tw{a b c d e f:Int}(h:bef a b c d=Y)(k:bef c d e f=Y):bef a b e f=Y:=by
 unfold bef at *;simp only[Bp,AD,decide_eq_true_eq]at *;omega
def PU{a b:Int}:bef a b a b=A0:=by
 unfold bef;simp
def TU{l:List A3}(h:DV l=Y):∀(j i:Nat),i<j->j<l.length->bef (nA l i).fr (nA l i).nu (nA l j).fr (nA l j).nu=Y
 | j+1,i,hij,hj=>by
  have h1:=CC.1 h (j+1) hj;simp only[AD,Bp,decide_eq_true_eq]at h1;have h2:bef (nA l j).fr (nA l j).nu (nA l<|j+1).fr (nA l<|j+1).nu=Y:=h1.2.resolve_left J;obtain h3|h3:=Gl i j
  .exact Tw (TU h j i h3 J) h2
  .rwa[show i=j by omega]
def stD(k:A7):AE:=(DU k.id<|k.log.extract 0 k.fo.toNat).getD zK
def D7(r:A1):A1:=((BZ (r.size:Int)++B [58])++r)++B [59]
def qd(r:A1):L (D7 r)=dcm r.size++58::(L r++[59]):=by
 unfold D7;rw[aIL];simp only[Gb,L_B,sB,C7,Lf,El]
def YU(r:A1):(D7 r).size=(dcm r.size).length+2+r.size:=by
 rw[← Az,qd];simp only[Ax,Bf,CL,Az];omega
def cat(rs:List A1):List UInt8:=rs.flatMap λr=>L<|D7 r
def KE:cat []=[]:=rfl
def ID(r:A1)(rs:List A1):cat (r::rs)=L (D7 r)++cat rs:=rfl
def LI(rs ts:List A1):cat (rs++ts)=cat rs++cat ts:=pZ
def II(rs:List A1):Prop:=∀r∈rs,1<=r.size/\r.size<=60
def ayE(b:UInt8)(h:dig b=Y):b≠58:=by
 rintro rfl;revert h;decide
def aaH{n:Nat}(h:n<=60):(dcm n).length<=2:=ML 2 n J J
def aaI(n:Nat):1<=(dcm n).length:=by
 have:=rR n;cases h:dcm n with
 | nil=>exact absurd h this
 | cons b l=>simp
def aaA{l m:List UInt8}{b:UInt8}{i:Nat}(h:i=l.length):(l++b::m).getD i 0=b:=by
 subst h;simp
def Zz{s r:A1}{t:List UInt8}(h:L s=L (D7 r)++t)(h1:1<=r.size)(h2:r.size<=60):Dl s=I (r,(D7 r).size):=by
 rw[qd]at h;have hs:s.size=(dcm r.size).length+2+r.size+t.length:=by
  rw[← Az,h];simp only[Ax,Bf,CL,Az];omega
 have hd:=aaH h2;have hp:=aaI r.size;generalize hc:(dcm r.size).length=c at *;have hL:L s=dcm r.size++58::(L r++59::t):=by rw[h];simp
 have alm:VP s=(c:Int):=by
  refine aId J ?_ (λj hj=> ?_)
  .rw[decide_eq_true_eq,KI,hL,aaA hc.symm];rfl
  .rw[decide_eq_false_iff_not,KI,hL];have hlt:j<(dcm r.size).length:=J
   have hm:(dcm r.size++58::(L r++59::t)).getD j 0∈dcm r.size:=aa9 hlt;have hdg:=bq (r.size+1) r.size J _ hm;have hne:=ayE _ hdg;generalize (dcm r.size++58::(L r++59::t)).getD j 0=b at *;intro e;apply hne;have e:b.toNat=58:=J
   exact Rm.1 e
 have he:L (s.extract 0 c)=dcm r.size:=by
  rw[EI,hL];simp[← hc]
 have hn:Af (s.extract 0 c)=(r.size:Int):=qT (by rw[← Az,he];omega) he;have h59:bt s ((c+1+r.size:Nat):Int)=59:=by
  have e:(L s).getD (c+1+r.size) 0=59:=by
   have:dcm r.size++58::(L r++59::t)=(dcm r.size++58::L r)++59::t:=by simp
   rw[hL,this];exact aaA (by simp[hc];omega)
  rw[KI,e];rfl
 have hx:s.extract (c+1) (c+1+r.size)=r:=by
  refine GD ?_;rw[EI,hL];have:(dcm r.size++58::(L r++59::t)).drop (c+1)=L r++59::t:=by
   have e:dcm r.size++58::(L r++59::t)=(dcm r.size++[58])++(L r++59::t):=by simp
   rw[e,Ro<|by simp[hc]]
  rw[this,show c+1+r.size - (c+1)=(L r).length by rw[Az];omega,Pg rfl]
 unfold Dl;rw[alm];simp only[BX,hn];rw[A9 J,A9 J,A9 J,A9 J,h59];simp only[AX,AB,A4,hx];rw[YU,hc]
def axY{s r:A1}{n:Nat}(h:Dl s=I (r,n)):1<=r.size/\r.size<=60/\n=(D7 r).size/\ ∃t,L s=L (D7 r)++t:=by
 have hsm:=Tq h;unfold Dl at h;split at h
 .cases h
 rename_i hc0;obtain⟨h1,_⟩|⟨c,h1,h2,h3,h4,_⟩:=Ye s
 .omega
 rw[h1]at h;simp only[BX]at h;split at h
 .cases h
 rename_i hn1;split at h
 .cases h
 rename_i hn2;split at h
 .cases h
 rename_i hn3;split at h
 .cases h
 rename_i hn4;cases h;have hz:(s.extract 0 c).size=c:=by rw[G7 J];omega
 obtain⟨h9,_⟩|⟨k,h9,h10,h11⟩:=TW (s.extract 0 c)
 .omega
 simp only[h9,BX]at hn1 hn2 hn3 hn4 hsm ⊢;have hrs:(s.extract (c+1)<|c+1+k).size=k:=by rw[G7 J];omega
 have h5:bt s ((c+1+k:Nat):Int)=59:=by
  cases hd:U (bt s ((c+1+k:Nat):Int)=59) with
  | true=>simpa using hd
  | false=>rw[hd]at hn4;exact absurd rfl hn4
 have g1:(L s).getD c 0=58:=by
  rw[KI]at h4;exact Rm.1 (by have:(58:UInt8).toNat=58:=rfl;omega)
 have g2:(L s).getD (c+1+k) 0=59:=by
  rw[KI]at h5;exact Rm.1 (by have:(59:UInt8).toNat=59:=rfl;omega)
 have hlen:(L s).length=s.size:=Az s;have t1:(L s).take c=dcm k:=by
  rw[← h11,EI];simp
 have hcl:(dcm k).length=c:=by rw[← t1,DS];omega
 have hsp:L s=dcm k++58::((L<|s.extract (c+1)<|c+1+k)++59::(L s).drop (c+1+k+1)):=by
  conv=>lhs;rw[← JA c<|L s,t1]
  congr 1;rw[Up J];congr 1
  .rw[← g1,BA,Ar J];rfl
  .rw[EI]
   conv=>lhs;rw[← JA k<|(L s).drop<|c+1]
   rw[show c+1+k - (c+1)=k by omega];congr 1;rw[J5,Up J];congr 1;rw[← g2,BA,Ar J];rfl
 refine⟨J,J, ?_,(L s).drop<|c+1+k+1, ?_⟩
 .rw[YU,hrs,hcl]
 .rw[qd,hrs]
  conv=>lhs;rw[hsp]
  simp
def Ys(r:A1):3<=(D7 r).size:=by
 rw[YU];have:=aaI r.size;omega
def aI7{log:A1}:∀(rs:List A1) (f:Nat) (out:List A1) (at_:Nat),II rs->(L log).drop at_=cat rs->at_<=log.size->log.size<at_+f->F4 log f out at_=(out++rs,log.size)
 | [],0,out,at_,_,_,h3,h4=>J
 | [],f+1,out,at_,_,h2,h3,h4=>by
  have:log.size<=at_:=by
   have e:=congrArg Jl h2;rw[EQ,Az,KE]at e;simp at e;omega
  unfold F4;rw[A9 J,CU];rw[show at_=log.size by omega]
 | r::rs,0,out,at_,_,_,h3,h4=>J
 | r::rs,f+1,out,at_,h1,h2,h3,h4=>by
  have hr:=h1 r As;rw[ID]at h2;have hlen:log.size - at_=(D7 r).size+(cat rs).length:=by
   have e:=congrArg Jl h2;rwa[EQ,Az,Ax,Az]at e
  have hp:=Ys r;have DK:Dl (log.extract at_ log.size)=I (r,(D7 r).size):=by
   refine Zz (t:=cat rs) ?_ hr.1 hr.2;rw[EI,h2];refine KY ?_;rw[Ax,Az];omega
  unfold F4;rw[A5 J,DK];simp only;have:=aI7 (log:=log) rs f (out++[r]) (at_+(D7 r).size) (λx hx=>h1 x<|Ak _ hx) (by
   rw[← J5,h2,Ro<|by rw[Az]]) J J
  rw[this];simp
def Zf{log:A1}{rs:List A1}(h1:II rs)(h2:L log=cat rs):DC log=(rs,log.size):=by
 have:=aI7 (log:=log) rs (log.size+1) [] 0 h1 (by simpa using h2) (D5 _) J;exact this
def pn{log:A1}:∀(f:Nat) (out:List A1) (at_:Nat),at_<=log.size->∃rs,(F4 log f out at_).1=out++rs/\II rs/\ ∃t,(L log).drop at_=cat rs++t/\(F4 log f out at_).2=at_+(cat rs).length
 | 0,out,at_,_=>⟨[],by simp[F4],(λr hr=>nomatch hr),(L log).drop at_,rfl,rfl⟩
 | f+1,out,at_,h=>by
  unfold F4;split
  .rename_i hlt;cases DK:Dl (log.extract at_ log.size) with
   | none=>exact⟨[],by simp,(λr hr=>nomatch hr),(L log).drop at_,rfl,rfl⟩
   | some p=>
    obtain⟨r,n⟩:=p;obtain⟨k1,k2,k3,t,k4⟩:=axY DK;have hsm:=Tq DK;rw[G7<|Aw _]at hsm;simp only at hsm ⊢;obtain⟨rs,g1,g2,t',g3,g4⟩:=pn (log:=log) f (out++[r]) (at_+n) J;have e:L (log.extract at_ log.size)=(L log).drop at_:=by
     rw[EI];exact KY (by rw[EQ,Az];omega)
    rw[e]at k4;have ht:t=cat rs++t':=by
     rw[← g3,← J5,k4,k3,Ro<|by rw[Az]]
    refine⟨r::rs,by rw[g1];simp,λx hx=> ?_,t',by rw[k4,ht,ID,C7], ?_⟩
    .rcases Bm.1 hx with rfl|hx
     .exact⟨k1,k2⟩
     .exact g2 x hx
    .rw[g4,ID,Ax,Az,k3];omega
  .exact⟨[],by simp,(λr hr=>nomatch hr),(L log).drop at_,rfl,rfl⟩
def nZ(log:A1):II (DC log).1/\(DC log).2=(cat (DC log).1).length/\ ∃t,L log=cat (DC log).1++t:=by
 obtain⟨rs,g1,g2,t,g3,g4⟩:=pn (log:=log) (log.size+1) [] 0<|D5 _;have e:(DC log).1=rs:=by
  show(F4 log (log.size+1) [] 0).1=rs;simpa using g1
 rw[e];refine⟨g2, ?_,t,by simpa using g3⟩;show(F4 log (log.size+1) [] 0).2=_;rw[g4,DR]
def rG:∀(rs ts:List A1) (t:List UInt8),II rs->II ts->cat rs=cat ts++t->∃us,rs=ts++us
 | rs,[],t,_,_,_=>⟨rs,rfl⟩
 | [],s::ts,t,_,_,h=>by
  have e:=congrArg Jl h;rw[ID,KE]at e;have:=Ys s;simp only[CL,Ax,Az]at e;omega
 | r::rs,s::ts,t,h1,h2,h=>by
  rw[ID,ID,C7]at h;have hr:=h1 r As;have hs:=h2 s As;have o1:=Zz (s:=B<|L (D7 r)++cat rs) (r:=r) (t:=cat rs) (L_B _) hr.1 hr.2;have o2:=Zz (s:=B<|L (D7 r)++cat rs) (r:=s) (t:=cat ts++t) (by rw[L_B,h]) hs.1 hs.2;rw[o1]at o2;simp only[Bx,CV]at o2;obtain⟨rfl,_⟩:=o2;obtain⟨us,hu⟩:=rG rs ts t (λx hx=>h1 x<|Ak _ hx) (λx hx=>h2 x<|Ak _ hx)<|aFK h;exact⟨us,by rw[hu];rfl⟩
def aGF{lg:A1}{fo:Int}:DM lg fo=Y↔lg.size<=2400/\ ∃rs ts,II (rs++ts)/\L lg=cat (rs++ts)/\fo=((cat rs).length:Int):=by
 unfold DM;simp only[AD,decide_eq_true_eq];constructor
 .rintro⟨h1,h2,h3,h4⟩;have h2:=Aa.1 h2;obtain⟨a1,a2,t,a3⟩:=nZ lg;obtain⟨b1,b2,t',b3⟩:=nZ<|lg.extract 0 fo.toNat;have ht:t=[]:=by
   have e:=congrArg Jl a3;rw[Az,Ax]at e;exact E5 J
  rw[ht,CU]at a3;have hz:(lg.extract 0 fo.toNat).size=fo.toNat:=by rw[G7 J];omega
  have ht':t'=[]:=by
   have e:=congrArg Jl b3;rw[Az,Ax,hz]at e;exact E5 J
  rw[ht',CU]at b3;have hp:cat (DC lg).1=cat (DC<|lg.extract 0 fo.toNat).1++(L lg).drop fo.toNat:=by
   rw[← a3,← b3,EI,Js,J6,JA]
  obtain⟨us,hu⟩:=rG _ _ _ a1 b1 hp;refine⟨h1,(DC<|lg.extract 0 fo.toNat).1,us,by rw[← hu];exact a1,by rw[← hu];exact a3, ?_⟩;rw[← b2];exact h4.symm
 .rintro⟨h1,rs,ts,h2,h3,rfl⟩;have hsz:lg.size=(cat rs).length+(cat ts).length:=by rw[← Az,h3,LI,Ax]
  have hrs:II rs:=λr hr=>h2 r<|Bw _ hr;have he:L (lg.extract 0 (cat rs).length)=cat rs:=by
   rw[EI,h3,LI,Js,J6,Pg rfl]
  have e1:=Zf h2 h3;have e2:=Zf hrs he;refine⟨h1,Aa.2 ⟨J,J⟩,by rw[e1], ?_⟩;rw[BX,e2];simp only;rw[← Az,he]
def Dj(k:AE):Prop:=∀n∈k.held,∀m∈k.inbox,¬(n.fr=m.fr/\n.nu=m.nu)
def U4{l:List A3}{f n:Int}(h:AY l f n<0):∀x∈l,¬(x.fr=f/\x.nu=n):=by
 intro x hx hc;obtain⟨_,h2⟩|⟨i,h1,_⟩:=GP l.length (λi=>U ((nA l i).fr=f)&&U ((nA l i).nu=n))
 .obtain⟨j,hj,rfl⟩:=Cv hx;have:=h2 j hj;rw[DF<|Ar hj]at this;simp[hc.1,hc.2]at this
 .unfold AY at h;omega
def ZG{l:List A3}{f n:Int}(h:∀x∈l,¬(x.fr=f/\x.nu=n)):AY l f n= -1:=by
 obtain h1|h1:=mw l f n
 .exact h1
 .obtain⟨h2,_,h3,h4⟩:=FK h1;exact absurd ⟨h3,h4⟩<|h _<|EX h2
def qC{l:List Mark}{f n:Int}(h:Br l f n<0):∀x∈l,¬(x.mf=f/\x.mn=n):=by
 intro x hx hc;obtain⟨_,h2⟩|⟨i,h1,_⟩:=GP l.length (λi=>U ((mA l i).mf=f)&&U ((mA l i).mn=n))
 .obtain⟨j,hj,rfl⟩:=Cv hx;have:=h2 j hj;rw[Fw<|Ar hj]at this;simp[hc.1,hc.2]at this
 .unfold Br at h;omega
def V9{l:List Mark}{j:Nat}(h:j<l.length):mA l j∈l:=by
 rw[Fw<|Ar h];exact CS h
def nS{l:List Mark}{f n:Int}(h:∀x∈l,¬(x.mf=f/\x.mn=n)):Br l f n= -1:=by
 obtain⟨h1,_⟩|⟨i,_,h2,h3,_⟩:=GP l.length (λi=>U ((mA l i).mf=f)&&U ((mA l i).mn=n))
 .exact h1
 .simp only[AD,decide_eq_true_eq]at h3;exact absurd h3<|h _<|V9 h2
def aJz{k o:AE}{n:A3}(h:Eh k n=I o)(hd:Dj k):Dj o:=by
 unfold Eh at h;split at h
 .cases h
 split at h
 .cases h
 split at h
 .cases h
 rename_i h1;split at h
 .cases h
 rename_i h2;split at h
 .cases h
 split at h
 .cases h
 have a1:=U4 (l:=k.held) (f:=n.fr) (n:=n.nu) (by simpa using h1);have a2:=U4 (l:=k.inbox) (f:=n.fr) (n:=n.nu) (by simpa using h2);split at h<;>cases h
 .intro x hx m hm;obtain rfl|hm:=Gu _ hm
  .exact a1 x hx
  .exact hd x hx m hm
 .intro x hx m hm;obtain rfl|hx:=Gu _ hx
  .exact λhc=>a2 m hm ⟨hc.1.symm,hc.2.symm⟩
  .exact hd x hx m hm
def Oz{l:List A3}{i:Nat}{x:A3}(h:x∈Ef l i):x∈l:=by
 unfold Ef at h;obtain h|h:=BL.1 h
 .exact Hb h
 .exact Jr h
def axc{k o:AE}{w:A1}{n:Int}(h:Hy k w n=I o)(hd:Dj k):Dj o:=by
 unfold Hy at h;split at h
 .cases h;intro x hx m hm;exact hd x (FU.1 hx).1 m hm
 split at h
 .cases h;exact hd
 .cases h
def asK{k o:AE}{w:A1}{n:A3}(h:GS k w n=I o)(hd:Dj k):Dj o:=by
 unfold GS at h;split at h
 .exact aJz h hd
 split at h
 .exact aJz h hd
 split at h
 .cases h
 rename_i hn;simp only[Bp,decide_eq_true_eq,not_or]at hn;have a1:=U4 (l:=k.held) (f:=n.fr) (n:=n.nu) J;have a2:=U4 (l:=k.inbox) (f:=n.fr) (n:=n.nu) J;split at h
 .cases h;intro x hx m hm;obtain rfl|hx:=Gu _ hx
  .exact λhc=>a2 m hm ⟨hc.1.symm,hc.2.symm⟩
  .exact hd x hx m hm
 split at h
 .cases h;intro x hx m hm;obtain rfl|hm:=Gu _ hm
  .exact a1 x hx
  .exact hd x hx m hm
 .cases h
def asN{k o:AE}{w:A1}{m:Mark}(h:F1 k w m=I o)(hd:Dj k):Dj o:=by
 unfold F1 at h;split at h
 .cases h;exact λx hx m hm=>hd x (Oz hx) m hm
 split at h
 .cases h;exact λx hx m hm=>hd x hx m<|Oz hm
 split at h
 .cases h;exact hd
 .cases h
def avD{k o:AE}{w r:A1}(h:Bb k w r=I o)(hd:Dj k):Dj o:=by
 unfold Bb at h;split at h
 .split at h
  .exact axc h hd
  .cases h
 split at h
 .split at h
  .exact asK h hd
  .cases h
 split at h
 .split at h
  .exact asN h hd
  .cases h
 .cases h
def IC{k o:AE}{r:A1}(hk:Av k=Y):BK k r=I o↔GW k r=I o/\Av o=Y:=by
 unfold BK Fg;simp only[hk,A2];constructor
 .intro h;cases hf:(GW k r).filter Av with
  | none=>rw[hf]at h;cases h
  | some o'=>
   rw[hf]at h;cases h;exact Jk.1 hf
 .intro h;rw[Jk.2 h];rfl
def aw8{k o:AE}{r:A1}(hk:Av k=Y)(h:BK k r=I o)(hd:Dj k):Dj o:=by
 have h1:=((IC hk).1 h).1;unfold GW at h1;split at h1
 .cases h1
 .exact avD h1 hd
def aFm:∀ {rs:List A1} {k o:AE},Av k=Y->Dj k->Ez k rs=I o->Dj o
 | [],k,o,_,hd,h=>by cases h;exact hd
 | r::rs,k,o,hk,hd,h=>by
  unfold Ez at h;rw[Un]at h;cases hs:BK k r with
  | none=>rw[hs]at h;cases h
  | some k'=>rw[hs]at h;exact aFm (rs:=rs) (Ty hs) (aw8 hk hs hd) h
def aGV{id:Int}{rs:List A1}{o:AE}(h:Cg id rs=I o):Dj o:=by
 unfold Cg at h;split at h
 .exact aFm (TP<|by assumption) (λn hn=>by cases hn) h
 .cases h
def NG(k:AE)(rs ts:List A1):Ez k (rs++ts)=(Ez k rs).bind λo=>Ez o ts:=List.foldlM_append
def TR(k:AE)(r:A1):Ez k [r]=BK k r:=by
 unfold Ez;rw[Un];cases BK k r<;>rfl
def Fu(t:Int):A1:=B [116,105,109,101,32]++BZ t
def LR(n:Int):A1:=B [110,101,120,116,32]++BZ n
def Ca(w:A1)(a b c:Int):A1:=((((((w++B [32])++BZ a)++B [32])++BZ b)++B [32])++BZ c)
def MP(n:A3):A1:=B [104,101,108,100,32]++wr n
def NQ(n:A3):A1:=B [105,110,98,111,120,32]++wr n
def CH(k:AE):List A1:=
 ((((if 0<k.ti then [Fu k.ti] else [])++(if 1<k.nx then [LR k.nx] else []))++k.marks.map λm=>Ca DB m.mf m.mn m.mu)++k.held.map MP)++k.inbox.map NQ
def IH{k:AE}{rec:A1}{w r:List UInt8}(hw:Cb w)(e:L rec=w++32::r):GW k rec=Bb k (B w) (B r):=by
 unfold GW;rw[e,UO hw,La hw e];rfl
def nC{k:AE}{t:Int}(h0:0<=t)(h1:t<100000)(h:k.ti<t):Bb k ED (B<|B7 t)=I ⟨k.id,t,k.nx,HP t k.held,KK t k.marks,k.inbox⟩:=by
 unfold Bb Hy;simp only[JL h0 h1,By,A2,AU,h,AX]
def as1{k:AE}{n:Int}(h0:0<=n)(h1:n<100000)(h:k.nx<n):Bb k F7 (B<|B7 n)=I ⟨k.id,k.ti,n,k.held,k.marks,k.inbox⟩:=by
 unfold Bb Hy;simp[aBn,JL h0 h1,DY,A2,AP,AU,h,AX,A4]
def as2{k:AE}{m:Mark}{r:A1}(ht:HM r=I m)(h:Br k.marks m.mf m.mn<0):Bb k DB r=I ⟨k.id,k.ti,k.nx,k.held,EL k.marks m,k.inbox⟩:=by
 have e:U (0<=Br k.marks m.mf m.mn)=A0:=by simp;omega
 unfold Bb F1;simp[kc,kg,lL,ke,kh,kG,lO,lP,Gk,Bl,DY,A2,A4,ht,AP,AU,e,AH]
def as3{k:AE}{n:A3}(hn:Ay n=Y)(h1:AY k.held n.fr n.nu<0)(h2:AY k.inbox n.fr n.nu<0):Bb k EZ (wr n)=I ⟨k.id,k.ti,k.nx,E3 k.held n,k.marks,k.inbox⟩:=by
 have e1:U (0<=AY k.held n.fr n.nu)=A0:=by simp;omega
 have e2:U (0<=AY k.inbox n.fr n.nu)=A0:=by simp;omega
 unfold Bb GS;simp[aBp,aBr,aDC,aBq,Gk,Bl,By,A2,A4,Qm hn,AP,e1,e2]
def aqj{k:AE}{n:A3}(hn:Ay n=Y)(h1:AY k.held n.fr n.nu<0)(h2:AY k.inbox n.fr n.nu<0):Bb k Er (wr n)=I ⟨k.id,k.ti,k.nx,k.held,k.marks,E3 k.inbox n⟩:=by
 have e1:U (0<=AY k.held n.fr n.nu)=A0:=by simp;omega
 have e2:U (0<=AY k.inbox n.fr n.nu)=A0:=by simp;omega
 unfold Bb GS;simp[aAl,aAn,aBo,aAm,aAo,Gk,Bl,DY,A2,A4,Qm hn,AP,e1,e2]
def np:Cb [116,105,109,101]:=by unfold Cb;decide
def atD:Cb [110,101,120,116]:=by unfold Cb;decide
def atE:Cb [109,97,114,107]:=by unfold Cb;decide
def atF:Cb [104,101,108,100]:=by unfold Cb;decide
def ari:Cb [105,110,98,111,120]:=by unfold Cb;decide
def ZC(t:Int):L (Fu t)=[116,105,109,101]++32::B7 t:=by unfold Fu;simp only[Gb,L_B,VG];rfl
def aHF(t:Int):L (LR t)=[110,101,120,116]++32::B7 t:=by unfold LR;simp only[Gb,L_B,VG];rfl
def Qt(w:A1)(a b c:Int):L (Ca w a b c)=L w++32::(B7 a++32::(B7 b++32::B7 c)):=by
 unfold Ca;simp only[Gb,L_B,VG,C7,Lf,El]
def aHG(n:A3):L (MP n)=[104,101,108,100]++32::L (wr n):=by unfold MP;simp only[Gb,L_B];rfl
def aG7(n:A3):L (NQ n)=[105,110,98,111,120]++32::L (wr n):=by unfold NQ;simp only[Gb,L_B];rfl
def Ot{k:AE}(h:Ey k):Av k=Y:=by
 have a:=h.hl;have b:=h.ml;have c:=h.il;unfold Av;simp only[AD,Aa,decide_eq_true_eq,CC];exact⟨⟨h.id0,h.id1⟩,⟨h.t0,h.t1⟩,⟨h.n0,h.n1⟩,⟨J,h.h⟩,⟨J,h.m⟩,⟨J,h.i⟩,h.ho,h.mo,h.io⟩
def ba{l:List A3}{a i:Nat}(h:i<a):nA (l.take a) i=nA l i:=by
 unfold nA;simp[BA,h]
def qo{l:List Mark}{a i:Nat}(h:i<a):mA (l.take a) i=mA l i:=by
 unfold mA;simp[BA,h]
def aDU{l:List A3}(h:DV l=Y)(a:Nat):DV (l.take a)=Y:=by
 refine CC.2 λi hi=> ?_;rw[DS]at hi;have:=CC.1 h i J;rw[ba J,ba J];exact this
def aqU{l:List Mark}(h:Fa l=Y)(a:Nat):Fa (l.take a)=Y:=by
 refine CC.2 λi hi=> ?_;rw[DS]at hi;have:=CC.1 h i J;rw[qo J,qo J];exact this
def aE7{l:List Mark}(h:Fa l=Y):∀(j i:Nat),i<j->j<l.length->bef (mA l i).mf (mA l i).mn (mA l j).mf (mA l j).mn=Y
 | j+1,i,hij,hj=>by
  have h1:=CC.1 h (j+1) hj;simp only[AD,Bp,decide_eq_true_eq]at h1;have h2:bef (mA l j).mf (mA l j).mn (mA l<|j+1).mf (mA l<|j+1).mn=Y:=h1.2.resolve_left J;obtain h3|h3:=Gl i j
  .exact Tw (aE7 h j i h3 J) h2
  .rwa[show i=j by omega]
def R7{k:AE}(hf:Ey k)(a b c:Nat)(hc:c=0\/k.marks.length<=b):Ey ⟨k.id,k.ti,k.nx,k.held.take a,k.marks.take b,k.inbox.take c⟩:=by
 have hl:=hf.hl;have ml:=hf.ml;have il:=hf.il;refine⟨hf.id0,hf.id1,hf.t0,hf.t1,hf.n0,hf.n1,by simp;omega,aDU hf.h a,by simp;omega,aqU hf.m b,by simp;omega,aDU hf.i c,λi hi=> ?_,λi hi=> ?_,λi hi=> ?_⟩
 .simp only[DS]at hi;have:=hf.ho i J;unfold HO at this ⊢;simp only[AD,decide_eq_true_eq]at this ⊢;rw[ba J];refine⟨this.1,this.2.1,this.2.2.1, ?_⟩;rw[nS λx hx=>qC this.2.2.2 x<|Hb hx];omega
 .simp only[DS]at hi;have:=hf.mo i J;unfold JP at this ⊢;rw[qo J];exact this
 .simp only[DS]at hi;obtain hc|hc:=hc
  .omega
  .have:=hf.io i J;simp only;rw[KY hc];unfold It at this ⊢;rw[ba J];exact this
def qe{α:Type}{f:α->Bool}{l:List α}{n:α}(h:∀x∈l,f x=Y):ins f l n=l++[n]:=by
 unfold ins;have h1:l.takeWhile f=l:=by
  induction l with
  | nil=>rfl
  | cons x l ih=>rw[Rw,h x As];simp only[A2];rw[ih λy hy=>h y<|Ak _ hy]
 have h2:l.dropWhile f=[]:=by
  induction l with
  | nil=>rfl
  | cons x l ih=>rw[pM,h x As];simp only[A2];exact ih (λy hy=>h y<|Ak _ hy) (by
    have:=h1;rw[Rw,h x As]at this;simpa using this)
 rw[h1,h2]
def NM{α:Type}{l:List α}{j:Nat}(h:j<l.length):l.take (j+1)=l.take j++[l[j]]:=by
 rw[JC,Ar h];rfl
def aA5{k:AE}(hk:Av k=Y)(hd:Dj k):Cg k.id (CH k)=I k:=by
 have hf:=Bv hk;have hid:isN k.id=Y:=Aa.2 ⟨hf.id0,hf.id1⟩;have t0:=hf.t0;have t1:=hf.t1;have n0:=hf.n0;have n1:=hf.n1;have kT:Av ⟨k.id,k.ti,1,[],[],[]⟩=Y:=by
  refine Ot ⟨hf.id0,hf.id1,t0,t1,(by decide:(1:Int)<=1),(by decide:(1:Int)<=100),by simp,rfl,by simp,rfl,by simp,rfl,λi hi=>by simp at hi,λi hi=>by simp at hi,λi hi=>by simp at hi⟩
 have kN:Av ⟨k.id,k.ti,k.nx,[],[],[]⟩=Y:=by
  refine Ot ⟨hf.id0,hf.id1,t0,t1,n0,n1,by simp,rfl,by simp,rfl,by simp,rfl,λi hi=>by simp at hi,λi hi=>by simp at hi,λi hi=>by simp at hi⟩
 have s1:Ez ⟨k.id,0,1,[],[],[]⟩ (if 0<k.ti then [Fu k.ti] else [])=I ⟨k.id,k.ti,1,[],[],[]⟩:=by
  by_cases h:0<k.ti
  .rw[A5 h,TR,(IC<|TP hid).2 ⟨?_,kT⟩];rw[IH np<|ZC _];exact nC t0 J h
  .rw[A9 h,show k.ti=0 by omega];rfl
 have s2:Ez ⟨k.id,k.ti,1,[],[],[]⟩ (if 1<k.nx then [LR k.nx] else [])=I ⟨k.id,k.ti,k.nx,[],[],[]⟩:=by
  by_cases h:1<k.nx
  .rw[A5 h,TR,(IC kT).2 ⟨?_,kN⟩];rw[IH atD<|aHF _];exact as1 J J h
  .rw[A9 h,show k.nx=1 by omega];rfl
 have s3:∀j,j<=k.marks.length->Ez ⟨k.id,k.ti,k.nx,[],[],[]⟩ ((k.marks.take j).map λm=>Ca DB m.mf m.mn m.mu)=I ⟨k.id,k.ti,k.nx,[],k.marks.take j,[]⟩:=by
  intro j
  induction j with
  | zero=>intro _;rfl
  | succ j ih=>
   intro hj;have hjl:j<k.marks.length:=J
   have hm:=Tn hf.m hjl;rw[Fw<|Ar hjl]at hm;have hr:=P6 hm;have g1:=Ot<|R7 hf 0 j 0<|.inl rfl;have g2:=Ot<|R7 hf 0 (j+1) 0<|.inl rfl;have g3:Av ⟨k.id,k.ti,k.nx,[],k.marks.take j++[k.marks[j]'hjl],[]⟩=Y:=by
    rw[← NM hjl];simpa using g2
   have OG:∀x∈k.marks.take j,bef x.mf x.mn k.marks[j].mf k.marks[j].mn=Y:=λx hx=>by
    obtain⟨i,hi,rfl⟩:=Cv hx;rw[DS]at hi;have:=aE7 hf.m j i J hjl;rw[Fw<|Ar hjl,Fw<|Ar (by omega:i<k.marks.length)]at this;simpa using this
   rw[NM hjl,Em,NG,ih J];simp only[A6,DZ,Jm];rw[TR,(IC<|by simpa using g1).2 ⟨?_,g3⟩];have h3:=aS (r:=B<|B7 (k.marks[j]'hjl).mf++32::(B7 (k.marks[j]'hjl).mn++32::B7 (k.marks[j]'hjl).mu)) (a:=(k.marks[j]'hjl).mf) (b:=(k.marks[j]'hjl).mn) (c:=(k.marks[j]'hjl).mu) J J J J J J<|L_B _;rw[IH atE<|Qt _ _ _ _,as2 h3 ?_]
   .simp only;rw[show EL (k.marks.take j) k.marks[j]=k.marks.take j++[k.marks[j]] from qe OG]
   .simp only;rw[nS λx hx hc=>by
     have:=OG x hx;rw[hc.1,hc.2,PU]at this;cases this]
    omega
 have s4:∀j,j<=k.held.length->Ez ⟨k.id,k.ti,k.nx,[],k.marks,[]⟩ ((k.held.take j).map MP)=I ⟨k.id,k.ti,k.nx,k.held.take j,k.marks,[]⟩:=by
  intro j
  induction j with
  | zero=>intro _;rfl
  | succ j ih=>
   intro hj;have hjl:j<k.held.length:=J
   have hm:=HK hf.h hjl;rw[DF<|Ar hjl]at hm;have g1:=Ot<|R7 hf j k.marks.length 0<|.inl rfl;have g2:=Ot<|R7 hf (j+1) k.marks.length 0<|.inl rfl;rw[E6]at g1 g2;have g3:Av ⟨k.id,k.ti,k.nx,k.held.take j++[k.held[j]'hjl],k.marks,[]⟩=Y:=by
    rw[← NM hjl];simpa using g2
   have OG:∀x∈k.held.take j,bef x.fr x.nu k.held[j].fr k.held[j].nu=Y:=λx hx=>by
    obtain⟨i,hi,rfl⟩:=Cv hx;rw[DS]at hi;have:=TU hf.h j i J hjl;rw[DF<|Ar hjl,DF<|Ar (by omega:i<k.held.length)]at this;simpa using this
   rw[NM hjl,Em,NG,ih J];simp only[A6,DZ,Jm];rw[TR,(IC<|by simpa using g1).2 ⟨?_,g3⟩];rw[IH atF<|aHG _,B_L,as3 hm ?_ ?_]
   .simp only;rw[show E3 (k.held.take j) k.held[j]=k.held.take j++[k.held[j]] from qe OG]
   .simp only;rw[ZG λx hx hc=>by
     have:=OG x hx;rw[hc.1,hc.2,PU]at this;cases this]
    omega
   .simp only;rw[ZG λx hx=>by cases hx];omega
 have s5:∀j,j<=k.inbox.length->Ez ⟨k.id,k.ti,k.nx,k.held,k.marks,[]⟩ ((k.inbox.take j).map NQ)=I ⟨k.id,k.ti,k.nx,k.held,k.marks,k.inbox.take j⟩:=by
  intro j
  induction j with
  | zero=>intro _;rfl
  | succ j ih=>
   intro hj;have hjl:j<k.inbox.length:=J
   have hm:=HK hf.i hjl;rw[DF<|Ar hjl]at hm;have g1:=Ot<|R7 hf k.held.length k.marks.length j<|.inr<|Aw _;have g2:=Ot<|R7 hf k.held.length k.marks.length (j+1)<|.inr<|Aw _;rw[E6,E6]at g1 g2;have g3:Av ⟨k.id,k.ti,k.nx,k.held,k.marks,k.inbox.take j++[k.inbox[j]'hjl]⟩=Y:=by
    rw[← NM hjl];simpa using g2
   have OG:∀x∈k.inbox.take j,bef x.fr x.nu k.inbox[j].fr k.inbox[j].nu=Y:=λx hx=>by
    obtain⟨i,hi,rfl⟩:=Cv hx;rw[DS]at hi;have:=TU hf.i j i J hjl;rw[DF<|Ar hjl,DF<|Ar (by omega:i<k.inbox.length)]at this;simpa using this
   rw[NM hjl,Em,NG,ih J];simp only[A6,DZ,Jm];rw[TR,(IC<|by simpa using g1).2 ⟨?_,g3⟩];rw[IH ari<|aG7 _,B_L,aqj hm ?_ ?_]
   .simp only;rw[show E3 (k.inbox.take j) k.inbox[j]=k.inbox.take j++[k.inbox[j]] from qe OG]
   .simp only;rw[ZG λx hx=>hd x hx _<|CS hjl];omega
   .simp only;rw[ZG λx hx hc=>by
     have:=OG x hx;rw[hc.1,hc.2,PU]at this;cases this]
    omega
 have e3:=s3 k.marks.length<|Aw _;have e4:=s4 k.held.length<|Aw _;have e5:=s5 k.inbox.length<|Aw _;rw[E6]at e3 e4 e5;unfold Cg CH;rw[A5 hid,NG,NG,NG,NG,s1];simp only[A6,s2,e3,e4,e5]
structure CD (lg:A1) (fo:Int) (rs ts:List A1):Prop where
 ok:II (rs++ts)
 sz:lg.size<=2400
 eq:L lg=cat (rs++ts)
 fo:fo=((cat rs).length:Int)
def abH{lg:A1}{fo:Int}(h:DM lg fo=Y):∃rs ts,CD lg fo rs ts:=by
 obtain⟨h1,rs,ts,h2,h3,h4⟩:=aGF.1 h;exact⟨rs,ts,h2,h1,h3,h4⟩
def CD.sZ{lg:A1}{fo:Int}{rs ts:List A1}(h:CD lg fo rs ts):DM lg fo=Y:=
 aGF.2 ⟨h.sz,rs,ts,h.ok,h.eq,h.fo⟩
def CD.read{lg:A1}{fo:Int}{rs ts:List A1}(h:CD lg fo rs ts):DC lg=(rs++ts,lg.size):=Zf h.ok h.eq
def aE4{rs ts:List A1}(h:II (rs++ts)):II rs:=λr hr=>h r<|Bw _ hr
def CD.amn{lg:A1}{fo:Int}{rs ts:List A1}(h:CD lg fo rs ts):L (lg.extract 0 fo.toNat)=cat rs:=by
 rw[EI,h.eq,h.fo,BX,LI,Js,J6,Pg rfl]
def CD.azf{lg:A1}{fo:Int}{rs ts:List A1}(h:CD lg fo rs ts):(DC<|lg.extract 0 fo.toNat).1=rs:=by
 rw[Zf (aE4 h.ok) h.amn]
def CD.size_eq{lg:A1}{fo:Int}{rs ts:List A1}(h:CD lg fo rs ts):lg.size=(cat rs).length+(cat ts).length:=by
 rw[← Az,h.eq,LI,Ax]
def CD.state{lg:A1}{fo:Int}{rs ts:List A1}(h:CD lg fo rs ts)(id:Int):DU id lg=Cg id (rs++ts):=by
 unfold DU;rw[h.read]
def CD.abS{lg:A1}{fo:Int}{rs ts:List A1}(h:CD lg fo rs ts)(id:Int):DU id (lg.extract 0 fo.toNat)=Cg id rs:=by
 unfold DU;rw[h.azf]
def YV(id:Int)(rs ts:List A1):Cg id (rs++ts)=(Cg id rs).bind λk=>Ez k ts:=by
 unfold Cg;split
 .exact NG _ _ _
 .rfl
def aFj(id:Int)(rs:List A1)(r:A1):Cg id (rs++[r])=(Cg id rs).bind λk=>BK k r:=by
 rw[YV];congr 1;funext k;exact TR k r
def aE8{id:Int}{rs ts:List A1}(h:(Cg id<|rs++ts).isSome=Y):(Cg id rs).isSome=Y:=by
 rw[YV]at h;cases e:Cg id rs with
 | none=>rw[e]at h;exact h
 | some k=>rfl
def CD.add{lg r:A1}{fo:Int}{rs ts:List A1}(h:CD lg fo rs ts)(h1:1<=r.size)(h2:r.size<=60)(h3:lg.size+(D7 r).size<=2400):CD (lg++D7 r) fo rs (ts++[r]):=by
 refine⟨?_, ?_, ?_,h.fo⟩
 .intro x hx;rw[← C7]at hx;obtain hx|hx:=BL.1 hx
  .exact h.ok x hx
  .rw[C8.1 hx];exact⟨h1,h2⟩
 .rw[← Az,Gb,Ax,Az,Az];exact h3
 .rw[Gb,h.eq,← C7,LI (rs++ts) [r]];congr 1;rw[ID,KE,CU]
def CD.force{lg:A1}{fo:Int}{rs ts:List A1}(h:CD lg fo rs ts):CD lg (lg.size:Int) (rs++ts) []:=by
 refine⟨by simpa using h.ok,h.sz,by simpa using h.eq, ?_⟩;rw[← Az,h.eq]
def CD.pack{lg:A1}{rs:List A1}(h:II rs)(e:L lg=cat rs)(hz:lg.size<=2400):CD lg (lg.size:Int) rs []:=by
 refine⟨by simpa using h,hz,by simpa using e, ?_⟩;rw[← Az,e]
def aI6{log:A1}:∀(qs:List A1) (f:Nat) (out:List A1) (at_:Nat) (t:List UInt8),II qs->(L log).drop at_=cat qs++t->at_<=log.size->log.size<at_+f->
  ∃f',F4 log f out at_=F4 log f' (out++qs) (at_+(cat qs).length)/\at_+(cat qs).length<=log.size
 | [],f,out,at_,t,_,_,h3,_=>⟨f,by simp[KE],by simpa[KE] using h3⟩
 | r::qs,0,out,at_,t,_,_,h3,h4=>J
 | r::qs,f+1,out,at_,t,h1,h2,h3,h4=>by
  have hr:=h1 r As;rw[ID,C7]at h2;have hlen:log.size - at_=(D7 r).size+(cat qs++t).length:=by
   have e:=congrArg Jl h2;rwa[EQ,Az,Ax,Az]at e
  have hp:=Ys r;have DK:Dl (log.extract at_ log.size)=I (r,(D7 r).size):=by
   refine Zz (t:=cat qs++t) ?_ hr.1 hr.2;rw[EI,h2];refine KY ?_;rw[Ax,Az];omega
  obtain⟨f',g1,g2⟩:=aI6 (log:=log) qs f (out++[r]) (at_+(D7 r).size) t (λx hx=>h1 x<|Ak _ hx) (by
   rw[← J5,h2,Ro<|by rw[Az]]) J J
  refine⟨f', ?_, ?_⟩
  .conv=>lhs;unfold F4
   rw[A5 J,DK];simp only;rw[g1];simp only[ID,Ax,Az,C7,Lf,El,DG]
  .simp only[ID,Ax,Az];omega
def atm{log:A1}{qs:List A1}{t:List UInt8}(h:II qs)(e:L log=cat qs++t):∃us,(DC log).1=qs++us:=by
 obtain⟨f',g1,g2⟩:=aI6 (log:=log) qs (log.size+1) [] 0 t h (by simpa using e) (D5 _) J;obtain⟨us,k1,_⟩:=pn (log:=log) f' ([]++qs) (0+(cat qs).length) g2;refine⟨us, ?_⟩;show(F4 log (log.size+1) [] 0).1=_;rw[g1,k1];rfl
def CD.UZ{lg:A1}{fo:Int}{rs ts:List A1}(h:CD lg fo rs ts)(n:Nat)(hn:(cat rs).length<=n):
  ∃us vs,ts=us++vs/\CD ((lg.extract 0 n).extract 0 (DC<|lg.extract 0 n).2) ((DC<|lg.extract 0 n).2:Int) (rs++us) []:=by
 obtain⟨a1,a2,t,a3⟩:=nZ<|lg.extract 0 n;have e0:L (lg.extract 0 n)=(cat<|rs++ts).take n:=by rw[EI,h.eq,Js,J6]
 have e:cat (rs++ts)=cat (DC<|lg.extract 0 n).1++(t++(cat<|rs++ts).drop n):=by
  rw[← C7,← a3,e0,JA]
 obtain⟨vs,hv⟩:=rG _ _ _ h.ok a1 e;obtain⟨us,hu⟩:=atm (log:=lg.extract 0 n) (qs:=rs) (t:=(cat ts).take<|n - (cat rs).length) (aE4 h.ok) (by
  rw[e0,LI,List.take_append,KY hn])
 rw[hu]at hv a1 a2 a3;rw[C7]at hv;refine⟨us,vs,aFK hv,by simpa using a1, ?_, ?_,by rw[a2]⟩
 .have:=h.sz;rw[← Az,EI,EI];simp only[DS,EQ,Az];omega
 .rw[EI,a3,a2,Js,J6,Pg rfl,CU]
def MG{x:Int}(h0:0<=x)(k:Nat)(hk:1<=k)(h:x<(10 ^ k:Nat)):(B7 x).length<=k:=by
 obtain⟨u,rfl⟩:=HZ h0;rw[JQ];exact ML k u hk<|by exact_mod_cast h
def S8{n:A3}(h:Ay n=Y):(wr n).size<=35:=by
 obtain⟨f0,f1,t0,t1,n0,n1,u0,u1,s0,s1⟩:=IF h;have a:=MG f0 1 J J;have b:=MG (J:0<=n.nu) 2 J J;have c:=MG t0 1 J J;have d:=MG (J:0<=n.un) 3 J J;rw[← Az,SM];unfold wrL;simp only[Ax,Bf,Az];omega
def av2{r:A1}{m:Mark}(h:HM r=I m):r.size<=17:=by
 unfold HM at h;have hj:=mV ((L r).count 32)<|L r;have hn:∀ {p:List UInt8},(Au<|B p).2=Y->p.length<=5:=fun {p} hp=>by
  obtain h1|⟨n,_,h2,_⟩:=TZ (B p)
  .rw[h1]at hp;cases hp
  .exact h2
 split at h
 .rename_i p q t hp;rw[hp]at hj;split at h
  .rename_i hc;simp only[AD]at hc;have h1:=hn hc.1;have h2:=hn hc.2.1;have h3:=hn hc.2.2.1;have hj2:p++32::(q++32::t)=L r:=hj;rw[← Az,← hj2];simp only[Ax,Bf];omega
  .cases h
 .cases h
def avB{k o:AE}{w r:A1}(h:Bb k w r=I o):w.size<=5/\r.size<=35:=by
 unfold Bb at h;split at h
 .rename_i hw;simp only[Bp,decide_eq_true_eq]at hw;split at h
  .rename_i hr;refine⟨by obtain rfl|rfl:=hw<;>decide, ?_⟩;obtain h1|⟨n,_,h2,_⟩:=TZ r
   .rw[h1]at hr;cases hr
   .omega
  .cases h
 split at h
 .rename_i hw;simp only[Bp,decide_eq_true_eq]at hw;cases hn:DN r with
  | none=>rw[hn]at h;cases h
  | some n=>
   obtain⟨h1,h2⟩:=KB hn;refine⟨by obtain rfl|rfl|rfl|rfl:=hw<;>decide, ?_⟩;rw[← h2];exact S8 h1
 split at h
 .rename_i hw;simp only[Bp,decide_eq_true_eq]at hw;cases hn:HM r with
  | none=>rw[hn]at h;cases h
  | some n=>
   refine⟨by obtain rfl|rfl|rfl:=hw<;>decide, ?_⟩;have:=av2 hn;omega
 .cases h
def qF{k o:AE}{r:A1}(hk:Av k=Y)(h:BK k r=I o):1<=r.size/\r.size<=60:=by
 have h:=((IC hk).1 h).1;obtain hs|⟨w,t,hs,e⟩:=ME (L r)
 .unfold GW at h;rw[UN hs]at h;cases h
 .rw[IH hs e]at h;have:=avB h;have hw:(B w).size=w.length:=rfl;have ht:(B t).size=t.length:=rfl;rw[← Az,e];simp only[Ax,Bf];omega
def VF{rs:List A1}{c:Nat}(h:∀r∈rs,(D7 r).size<=c):(cat rs).length<=rs.length * c:=by
 induction rs with
 | nil=>simp[KE]
 | cons r rs ih=>
  have:=ih λx hx=>h x<|Ak _ hx;have:=h r As;rw[ID,Ax,Az,Bf,Nat.succ_mul];omega
def NN{r:A1}(h:r.size<=60):(D7 r).size<=r.size+4:=by
 rw[YU];have:=aaH h;omega
def YA{k:AE}(hk:Av k=Y):II (CH k)/\(cat<|CH k).length<=800:=by
 have hf:=Bv hk;have t1:=hf.t1;have n1:=hf.n1;have hl:=hf.hl;have ml:=hf.ml;have il:=hf.il;have sT:∀r∈(if 0<k.ti then [Fu k.ti] else []),1<=r.size/\r.size<=8:=by
  intro r hr;split at hr
  .rw[C8.1 hr,← Az,ZC];have:=MG hf.t0 3 J J;simp only[Ax,Bf,CL];omega
  .cases hr
 have sN:∀r∈(if 1<k.nx then [LR k.nx] else []),1<=r.size/\r.size<=8:=by
  intro r hr;split at hr
  .rw[C8.1 hr,← Az,aHF];have:=MG (show 0<=k.nx by have:=hf.n0;omega) 3 J J;simp only[Ax,Bf,CL];omega
  .cases hr
 have sM:∀r∈k.marks.map (λm=>Ca DB m.mf m.mn m.mu),1<=r.size/\r.size<=13:=by
  intro r hr;obtain⟨m,hm,rfl⟩:=C1.1 hr;obtain⟨i,hi,rfl⟩:=Cv hm;have:=P6<|Tn hf.m hi;rw[Fw<|Ar hi]at this;have a:=MG this.1 1 J J;have b:=MG (J:0<=k.marks[i].mn) 2 J J;have c:=MG (J:0<=k.marks[i].mu) 3 J J;rw[← Az,Qt];simp only[Ax,Bf,L_B,CL];omega
 have sH:∀r∈k.held.map MP,1<=r.size/\r.size<=40:=by
  intro r hr;obtain⟨m,hm,rfl⟩:=C1.1 hr;obtain⟨i,hi,rfl⟩:=Cv hm;have:=HK hf.h hi;rw[DF<|Ar hi]at this;have:=S8 this;rw[← Az,aHG];simp only[Ax,Bf,Az,CL];omega
 have sI:∀r∈k.inbox.map NQ,1<=r.size/\r.size<=41:=by
  intro r hr;obtain⟨m,hm,rfl⟩:=C1.1 hr;obtain⟨i,hi,rfl⟩:=Cv hm;have:=HK hf.i hi;rw[DF<|Ar hi]at this;have:=S8 this;rw[← Az,aG7];simp only[Ax,Bf,Az,CL];omega
 refine⟨?_, ?_⟩
 .intro r hr;unfold CH at hr;simp only[BL]at hr;obtain(((hr|hr)|hr)|hr)|hr:=hr
  .have:=sT r hr;omega
  .have:=sN r hr;omega
  .have:=sM r hr;omega
  .have:=sH r hr;omega
  .have:=sI r hr;omega
 .unfold CH;simp only[LI,Ax];have a:=VF (c:=12) λr hr=>by have:=sT r hr;have:=NN (r:=r) J;omega
  have b:=VF (c:=12) λr hr=>by have:=sN r hr;have:=NN (r:=r) J;omega
  have c:=VF (c:=17) λr hr=>by have:=sM r hr;have:=NN (r:=r) J;omega
  have d:=VF (c:=44) λr hr=>by have:=sH r hr;have:=NN (r:=r) J;omega
  have e:=VF (c:=45) λr hr=>by have:=sI r hr;have:=NN (r:=r) J;omega
  rw[Df]at c d e;have a2:(if 0<k.ti then [Fu k.ti] else []).length<=1:=by split<;>simp
  have b2:(if 1<k.nx then [LR k.nx] else []).length<=1:=by split<;>simp
  omega
def DD(rs:List A1):A1:=B<|cat rs
def R9{k:AE}(hk:Av k=Y):CD (DD<|CH k) ((DD<|CH k).size:Int) (CH k) []:=by
 have:=YA hk;refine CD.pack this.1 (by unfold DD;rw[L_B]) ?_;show(cat<|CH k).length<=2400;omega
def DA(k:AE)(lg:A1)(fo:Int)(r:A1):A1×Int:=
 if lg.size+(D7 r).size<=2400 then(lg++D7 r,fo) else(DD (CH k)++D7 r,((DD<|CH k).size:Int))
def aIq{k o:AE}{id:Int}{lg r:A1}{fo:Int}{rs ts:List A1}(h:CD lg fo rs ts)(hs:Cg id (rs++ts)=I k)(hr:BK k r=I o):
  ∃rs' ts',CD (DA k lg fo r).1 (DA k lg fo r).2 rs' ts'/\Cg id (rs'++ts')=I o:=by
 have hk:=Qr hs;have hz:=qF hk hr;unfold DA;split
 .rename_i hc;refine⟨rs,ts++[r],h.add hz.1 hz.2 hc, ?_⟩;rw[← C7,aFj,hs];exact hr
 .have hp:=R9 hk;have hsz:=YA hk;have hl:=NN hz.2;refine⟨CH k,[]++[r],hp.add hz.1 hz.2 ?_, ?_⟩
  .show(cat<|CH k).length+_<=2400;omega
  .rw[El,aFj];have:=aA5 hk<|aGV hs;rw[o9 hs]at this;rw[this];exact hr
structure DL (k:A7) (st:AE):Prop where
 ok:Ag k=Y
 st:DU k.id k.log=I st
def Bs{k:A7}(h:Ag k=Y):DL k (stT k):=⟨h,(Dq h).st⟩
def DL.kok{k:A7}{st:AE}(h:DL k st):Av st=Y:=Qr h.st
def DL.id{k:A7}{st:AE}(h:DL k st):st.id=k.id:=o9 h.st
def DL.stT{k:A7}{st:AE}(h:DL k st):stT k=st:=by
 unfold Go.VS.stT;rw[h.st];rfl
def Xz{k:A7}{rs ts:List A1}(id:isN k.id=Y)(l:CD k.log k.fo rs ts)(hl:k.AJ.length<=3)(up:k.up=Y\/k.AJ.length=0)(st:(Cg k.id<|rs++ts).isSome=Y)(hv:∀i,i<k.AJ.length->G0 k.AJ i=Y):Ag k=Y:=by
 unfold Ag;simp only[AD,Bp,decide_eq_true_eq,CC];refine⟨id,l.sZ,J,up,⟨?_, ?_⟩,hv⟩
 .rw[l.state];exact st
 .rw[l.abS];exact aE8 st
def DL.lg{k:A7}{st:AE}(h:DL k st):∃rs ts,CD k.log k.fo rs ts/\Cg k.id (rs++ts)=I st:=by
 obtain⟨rs,ts,hl⟩:=abH (Dq h.ok).sh;exact⟨rs,ts,hl,by rw[← hl.state];exact h.st⟩
def DL.sb{k:A7}{st o:AE}{lg:A1}{fo:Int}{rs ts:List A1}(h:DL k st)(l:CD lg fo rs ts)(e:Cg k.id (rs++ts)=I o):DL ⟨k.id,k.up,lg,fo,k.AJ⟩ o:=by
 have hf:=Dq h.ok;refine⟨Xz (k:=⟨k.id,k.up,lg,fo,k.AJ⟩) hf.id l hf.hl hf.up ?_ hf.hv, ?_⟩
 .simp only[e];rfl
 .simp only[l.state];exact e
def wrM(k:A7)(r:A1):A7:=⟨k.id,k.up,(DA (stT k) k.log k.fo r).1,(DA (stT k) k.log k.fo r).2,k.AJ⟩
def PO{k:A7}{st o:AE}{r:A1}(h:DL k st)(hr:BK st r=I o):DL (wrM k r) o:=by
 obtain⟨rs,ts,hl,hs⟩:=h.lg;obtain⟨rs',ts',h1,h2⟩:=aIq hl hs hr;have:=h.sb h1 h2;unfold wrM;rw[h.stT];exact this
def foM(k:A7):A7:=⟨k.id,k.up,k.log,(k.log.size:Int),k.AJ⟩
def RS{k:A7}{st:AE}(h:DL k st):DL (foM k) st:=by
 obtain⟨rs,ts,hl,hs⟩:=h.lg;exact h.sb hl.force<|by simpa using hs
def pkM(k:A7):A7:=⟨k.id,k.up,DD<|CH<|stT k,((DD<|CH<|stT k).size:Int),k.AJ⟩
def rM{k:A7}{st:AE}(h:DL k st):DL (pkM k) st:=by
 have:=h.sb (R9 h.kok) (o:=st) (by
  have:=aA5 h.kok<|aGV h.st;rw[h.id]at this;simpa using this)
 unfold pkM;rw[h.stT];exact this
def faM(k:A7)(keep:Int):A7:=
 let n:=(k.fo+max 0 (min keep<|(k.log.size:Int) - k.fo)).toNat
 ⟨k.id,A0,(k.log.extract 0 n).extract 0 (DC<|k.log.extract 0 n).2,((DC<|k.log.extract 0 n).2:Int),[]⟩
def rK{k:A7}(h:Ag k=Y)(keep:Int):Ag (faM k keep)=Y:=by
 have hf:=Dq h;obtain⟨rs,ts,hl,hs⟩:=(Bs h).lg;have hfo:=hl.fo;obtain⟨us,vs,e,l⟩:=hl.UZ (k.fo+max 0 (min keep<|(k.log.size:Int) - k.fo)).toNat J;refine Xz (k:=faM k keep) hf.id l (by show 0<=3;omega) (.inr rfl) ?_ (λi hi=>by cases hi);show(Cg k.id<|(rs++us)++[]).isSome=Y;rw[CU];refine aE8 (ts:=vs) ?_;rw[C7,← e,hs];rfl
def aFw{k:A7}{st:AE}(h:DL k st)(hf:k.fo=(k.log.size:Int))(keep:Int):DL (faM k keep) st/\(faM k keep).log=k.log/\(faM k keep).fo=k.fo:=by
 obtain⟨rs,ts,hl,hs⟩:=h.lg;have e:(k.fo+max 0 (min keep<|(k.log.size:Int) - k.fo)).toNat=k.log.size:=J
 have e2:k.log.extract 0 k.log.size=k.log:=by
  apply GD;rw[EI,Js,J6];exact KY (by rw[Az];omega)
 have hk:faM k keep=⟨k.id,A0,k.log,(k.log.size:Int),[]⟩:=by
  unfold faM;simp only[e,e2,hl.read]
 have ok:=rK h.ok keep;rw[hk]at ok ⊢;exact⟨⟨ok,h.st⟩,rfl,hf.symm⟩
def riM(k:A7):A7:=⟨k.id,Y,k.log,k.fo,k.AJ⟩
def ayp{k:A7}{st:AE}(h:DL k st):DL (riM k) st:=by
 have hf:=Dq h.ok;obtain⟨rs,ts,hl,hs⟩:=h.lg;refine⟨Xz (k:=riM k) hf.id hl hf.hl (.inl rfl) ?_ hf.hv,h.st⟩;show(Cg k.id<|rs++ts).isSome=Y;rw[hs];rfl
def CA(a b:List UInt8):List UInt8:=List.zipWith (· ^^^ ·) a b
def R5{a b:List UInt8}(h:a.length=b.length):(CA a b).length=a.length:=by
 unfold CA;rw[pN];omega
def ZW(a b:List UInt8):CA a b=CA b a:=by
 unfold CA
 induction a generalizing b with
 | nil=>cases b<;>rfl
 | cons x a ih=>
  cases b with
  | nil=>rfl
  | cons y b=>rw[PX,PX,ih,UInt8.xor_comm]
def Ti(a b c:List UInt8):CA (CA a b) c=CA a (CA b c):=by
 unfold CA
 induction a generalizing b c with
 | nil=>cases b<;>cases c<;>rfl
 | cons x a ih=>
  cases b with
  | nil=>cases c<;>rfl
  | cons y b=>
   cases c with
   | nil=>rfl
   | cons z c=>simp only[PX,ih,UInt8.xor_assoc]
def asf{a b:List UInt8}(h:a.length=b.length):CA (CA a b) b=a:=by
 unfold CA
 induction a generalizing b with
 | nil=>rfl
 | cons x a ih=>
  cases b with
  | nil=>cases h
  | cons y b=>rw[PX,PX,ih<|by simpa using h,UInt8.xor_assoc,UInt8.xor_self,UInt8.xor_zero]
def nul(n:Nat):List UInt8:=BT n 0
def Zk{a:List UInt8}{n:Nat}(h:a.length=n):CA (nul n) a=a:=by
 unfold CA nul
 induction a generalizing n with
 | nil=>subst h;rfl
 | cons x a ih=>
  subst h;rw[Bf,aFS,PX,ih rfl,UInt8.zero_xor]
def Dz(n:Nat)(bl:Nat->List UInt8):List Nat->List UInt8
 | []=>nul n
 | k::ks=>CA (bl k) (Dz n bl ks)
def Qy{n:Nat}{bl:Nat->List UInt8}:∀ {ks:List Nat},(∀k∈ks,(bl k).length=n)->(Dz n bl ks).length=n
 | [],_=>by simp[Dz,nul]
 | k::ks,h=>by
  have a:=h k As;have b:=Qy λx hx=>h x<|Ak k hx;rw[Dz,R5 J,a]
def qP{n:Nat}{bl:Nat->List UInt8}:∀ {ks:List Nat} {y:List UInt8},y.length=n->ks.foldl (λx k=>CA x<|bl k) y=CA y (Dz n bl ks)
 | [],y,h=>by
  rw[Dz,ZW,Zk h];rfl
 | k::ks,y,h=>by
  rw[E4,Dz,← Ti];by_cases hk:(CA y<|bl k).length=n
  .exact qP hk
  ·
   have key:∀(ks:List Nat) (y z:List UInt8),y.length<=n->ks.foldl (λx k=>CA x<|bl k) y=CA y (Dz n bl ks):=by
    intro ks
    induction ks with
    | nil=>
     intro y z hy;rw[KR,Dz,ZW];unfold CA nul;clear hk h z
     induction y generalizing n with
     | nil=>simp
     | cons x y ih=>
      cases n with
      | zero=>simp at hy
      | succ n=>rw[aFS,PX,UInt8.zero_xor,← ih<|by simpa using hy]
    | cons k ks ih=>
     intro y z hy;rw[E4,Dz,← Ti];refine ih _ z ?_;unfold CA;rw[pN];omega
   refine key ks _ [] ?_;unfold CA;rw[pN];omega
def aut{n:Nat}{bl:Nat->List UInt8}{p:Nat->Bool}{ks:List Nat}{u:Nat}(hb:∀k∈ks,(bl k).length=n)(hf:(ks.filter λk=> !p k)=[u]):
  ks.foldl (λx k=>if p k then CA x (bl k) else x) (Dz n bl ks)=bl u:=by
 have h1:∀(ks:List Nat) (y:List UInt8),ks.foldl (λx k=>if p k then CA x (bl k) else x) y=(ks.filter p).foldl (λx k=>CA x<|bl k) y:=by
  intro ks
  induction ks with
  | nil=>intro y;rfl
  | cons k ks ih=>
   intro y;rw[E4,KT];split<;>simp[ih]
 have h2:∀(ks:List Nat),(∀k∈ks,(bl k).length=n)->Dz n bl ks=CA (Dz n bl<|ks.filter λk=> !p k) (Dz n bl<|ks.filter p):=by
  intro ks
  induction ks with
  | nil=>intro _;simp[Dz,Zk (n:=n) (a:=nul n) (by simp[nul])]
  | cons k ks ih=>
   intro hb;have:=ih λx hx=>hb x<|Ak _ hx;rw[Dz,this,KT,KT];cases p k
   .simp only[AH,A2,A4,Dz,Ti]
   .simp only[AB,A2,A4,Dz];rw[← Ti,ZW<|bl k,Ti]
 have hlen:(Dz n bl<|ks.filter p).length=n:=Qy λk hk=>hb k (FU.1 hk).1;have hu:(bl u).length=n:=hb u (FU.1 (hf▸Ml u:u∈ks.filter λk=> !p k)).1;rw[h1,qP<|Qy hb,h2 ks hb,hf];rw[asf (by rw[hlen];exact Qy λk hk=>by rw[C8.1 hk];exact hu)];rw[Dz,Dz,ZW,Zk hu]
def rnd(x:Int):Int:=if inB x 0 65535 then BM (25173 * x+13849) 65536 else 0
def UF(x:Int):0<=rnd x/\rnd x<=65535:=by
 unfold rnd;split
 .rename_i h;have:=Aa.1 h;rw[Lg J];omega
 .omega
def kK(x:Int):QU (x,())=I ((rnd x,()),()):=by
 unfold QU rnd;simp only[EU,A6];obtain e|e:=tf (inB x 0 65535)
 .have:=Aa.1 e;simp only[e,AB,A4,A2];rw[AZ (n:=25173 * x) J J,AZ J J]
 .simp only[e,AH,A4,A2]
def kB(x:Int):QR (x,())=I ((rnd x,()),()):=by
 unfold QR rnd;simp only[IB,A6];obtain e|e:=tf (inB x 0 65535)
 .have:=Aa.1 e;simp only[e,AB,A4,A2];rw[AZ (n:=x * 25173) J J,AZ J J,S5]
 .simp only[e,AH,A4,A2]
def Dy(b n:Int):Bool:=inB b 1 6&&inB n 0 999
def aDd(b n:Int):Xo (b,n,())=I ((Dy b n,()),()):=by
 unfold Xo Dy;simp only[EU,A6,D6,Cy];cases inB b 1 6<;>rfl
def YT(b n:Int):NK (b,n,())=I ((Dy b n,()),()):=by
 unfold NK Dy;simp only[IB,A6,D6,Cy];cases inB b 1 6<;>rfl
def wgt(b d:Int):Int:=if d=1 then B2 60 b+10 else B2 60 (d * (d - 1))
def ajH{b d:Int}(hb:inB b 1 6=Y)(hd:inB d 1 6=Y):iI (b,d,())=I ((wgt b d,()),()):=by
 have h1:=Aa.1 hb;have h2:=Aa.1 hd;have h3:b=1\/b=2\/b=3\/b=4\/b=5\/b=6:=J
 have h4:d=1\/d=2\/d=3\/d=4\/d=5\/d=6:=J
 obtain rfl|rfl|rfl|rfl|rfl|rfl:=h3<;>obtain rfl|rfl|rfl|rfl|rfl|rfl:=h4<;>rfl
def avG(b n:Int)(hb:inB b 1 6=Y):dd (b,n,0,1,())=I (.inr (b,n,70,())):=by
 have h1:=Aa.1 hb;have h3:b=1\/b=2\/b=3\/b=4\/b=5\/b=6:=J
 unfold dd;obtain rfl|rfl|rfl|rfl|rfl|rfl:=h3
 .exact Am rfl (BC rfl)
 .exact Am rfl (Am rfl (BC rfl))
 .exact Am rfl (Am rfl (Am rfl (BC rfl)))
 .exact Am rfl (Am rfl (Am rfl (Am rfl (BC rfl))))
 .exact Am rfl (Am rfl (Am rfl (Am rfl (Am rfl (BC rfl)))))
 .exact Am rfl (Am rfl (Am rfl (Am rfl (Am rfl (Am rfl (BC rfl))))))
def wts(b:Int):List Int:=if b=1 then [70] else if b=2 then [40,30] else if b=3 then [30,30,10] else if b=4 then [25,30,10,5] else if b=5 then [22,30,10,5,3] else [20,30,10,5,3,2]
def avX(b n:Int)(hb:inB b 1 6=Y):eB (b,n,[0,w64<|w64 (B2 60 b)+10],rd aJR ([0,w64<|w64 (B2 60 b)+10]:List Int) 1,2,())=I (.inr (b,n,0::wts b,70,())):=by
 have h1:=Aa.1 hb;have h3:b=1\/b=2\/b=3\/b=4\/b=5\/b=6:=J
 unfold eB;obtain rfl|rfl|rfl|rfl|rfl|rfl:=h3
 .exact BC rfl
 .exact Am rfl (BC rfl)
 .exact Am rfl (Am rfl (BC rfl))
 .exact Am rfl (Am rfl (Am rfl (BC rfl)))
 .exact Am rfl (Am rfl (Am rfl (Am rfl (BC rfl))))
 .exact Am rfl (Am rfl (Am rfl (Am rfl (Am rfl (BC rfl)))))
def Fc{σ ρ:Type}{b:σ->Option (σ ⊕ ρ)}{x x':σ}{y z:ρ}{c:Bool}(h:b x=if c then I (.inr y) else I (.inl x'))(hz:AS b x'=I z):AS b x=I (if c then y else z):=by
 cases c
 .exact Am h hz
 .exact BC h
def Ln(b r:Int):List Int->Int->Int->(Int×D) ⊕ (Int×D)
 | [],_,_=> .inr (b,())
 | w::ws,acc,d=>if U (r<acc+w) then .inl (d,()) else Ln b r ws (acc+w) (d+1)
def avY(b r:Int)(hb:inB b 1 6=Y):eA (b,0::wts b,r,0,1,())=I (Ln b r (wts b) 0 1):=by
 have h1:=Aa.1 hb;have h3:b=1\/b=2\/b=3\/b=4\/b=5\/b=6:=J
 unfold eA;obtain rfl|rfl|rfl|rfl|rfl|rfl:=h3
 .exact Fc rfl (BC rfl)
 .exact Fc rfl (Fc rfl (BC rfl))
 .exact Fc rfl (Fc rfl (Fc rfl (BC rfl)))
 .exact Fc rfl (Fc rfl (Fc rfl (Fc rfl (BC rfl))))
 .exact Fc rfl (Fc rfl (Fc rfl (Fc rfl (Fc rfl (BC rfl)))))
 .exact Fc rfl (Fc rfl (Fc rfl (Fc rfl (Fc rfl (Fc rfl (BC rfl))))))
def aIu{b d:Int}(hb:inB b 1 6=Y)(hd:inB d 1 6=Y):0<=wgt b d/\wgt b d<=70:=by
 have h1:=Aa.1 hb;have h2:=Aa.1 hd;have h3:b=1\/b=2\/b=3\/b=4\/b=5\/b=6:=J
 have h4:d=1\/d=2\/d=3\/d=4\/d=5\/d=6:=J
 obtain rfl|rfl|rfl|rfl|rfl|rfl:=h3<;>obtain rfl|rfl|rfl|rfl|rfl|rfl:=h4<;>decide
def amr{b x d:Int}(hb:inB b 1 6=Y)(hd:inB d 1 6=Y)(hlt:d<b)(h0: -1000<=x)(h1:x<=1000):
  WA (b,x,d,())=if U (x - wgt b d<0) then I (.inr<|.inl (d,())) else I (.inl (b,x - wgt b d,d+1,())):=by
 have hw:=aIu hb hd;have h2:=Aa.1 hd;unfold WA;simp only[AW hlt,A2,ajH hb hd,A6];rw[AZ (n:=x - wgt b d) J J,AZ (n:=d+1) J J]
def N0:(Int×D) ⊕ (Int×D)->Int
 | .inl y=>y.1
 | .inr y=>y.1
def dB(b x:Int):Nat->Int->(Int×D) ⊕ (Int×D)
 | 0,_=> .inr (b,())
 | n+1,d=>if U (x - wgt b d<0) then .inl (d,()) else dB b (x - wgt b d) n (d+1)
def aHx{b:Int}(hb:inB b 1 6=Y):∀(n:Nat) (x d:Int),1<=d->d+n=b-> -70 * d<=x->x<=100->db (b,x,d,())=I (dB b x n d)
 | 0,x,d,_,h,_,_=>by
  unfold db;refine BC ?_;unfold WA;simp only[show U (d<b)=A0 from BG J,A4];rfl
 | n+1,x,d,h1,h,h2,h3=>by
  have hb':=Aa.1 hb;have hd:inB d 1 6=Y:=Aa.2 ⟨h1,J⟩;have hw:=aIu hb hd;exact Fc (amr hb hd J J J)<|aHx hb n (x - wgt b d) (d+1) J J J J
def ay2:∀b:Fin 6,∀r:Fin 70,N0 (dB ((b.1+1:Nat):Int) (r.1:Int) b.1 1)=N0 (Ln ((b.1+1:Nat):Int) (r.1:Int) (wts ((b.1+1:Nat):Int)) 0 1):=by decide+kernel
def awc{b r:Int}(hb:inB b 1 6=Y)(h0:0<=r)(h1:r<70):N0 (dB b r (b - 1).toNat 1)=N0 (Ln b r (wts b) 0 1):=by
 have h2:=Aa.1 hb;have:=ay2 ⟨(b - 1).toNat,J⟩ ⟨r.toNat,J⟩;rw[show(((b - 1).toNat+1:Nat):Int)=b by omega,show((r.toNat:Nat):Int)=r by omega]at this;exact this
def GG(b n:Int):Int:=if Dy b n then(if U (n<b) then 1 else N0 (Ln b (BM (B2 (rnd<|rnd<|31 * n+b) 16) 70) (wts b) 0 1)) else 0
def aJE(s:(Int×D) ⊕ (Int×D)):AM (I s) (λy=>I (y,())) (λy=>I (y,()))=I ((N0 s,()),()):=by
 cases s<;>rfl
def ahg(b n:Int):ft (b,n,())=I ((GG b n,()),()):=by
 unfold ft GG;rw[aDd];simp only[A6];obtain e|e:=tf (Dy b n)
 .have e2:=e;unfold Dy at e2;rw[AD]at e2;have h1:=Aa.1 e2.1;have h2:=Aa.1 e2.2;simp only[e,AB,A4,A2];obtain e3|e3:=tf (U<|n<b)
  .simp only[e3,A2]
  .have hr:=UF<|rnd<|31 * n+b;have hz:B2 (rnd<|rnd<|31 * n+b) 16=rnd (rnd<|31 * n+b) / 16:=Gi hr.1;simp only[e3,A4,show U (b=0)=A0 from BG J,AH,A2,avX b n e2.1];rw[A5<|by rfl];simp only[AM,kK,A6];rw[AZ (n:=31 * n) J J,AZ (n:=31 * n+b) J J,AZ (n:=B2 _ 16) J J];rw[avY b _ e2.1];exact aJE _
 .simp only[e,AH,A2,A4]
def ah8(b n:Int):gO (b,n,())=I ((GG b n,()),()):=by
 unfold gO GG;rw[YT];simp only[A6];obtain e|e:=tf (Dy b n)
 .have e2:=e;unfold Dy at e2;rw[AD]at e2;have h1:=Aa.1 e2.1;have h2:=Aa.1 e2.2;simp only[e,AB,A4,A2];obtain e3|e3:=tf (U<|n<b)
  .simp only[e3,A2]
  .have hr:=UF<|rnd<|31 * n+b;have hz:B2 (rnd<|rnd<|31 * n+b) 16=rnd (rnd<|31 * n+b) / 16:=Gi hr.1;have hm:BM (B2 (rnd<|rnd<|31 * n+b) 16) 70=(rnd (rnd<|31 * n+b) / 16) % 70:=by rw[hz];exact Lg J
   simp only[e3,A4,avG b n e2.1];simp only[AM,kB,A6];rw[AZ (n:=n * 31) J J,AZ (n:=n * 31+b) J J,S5 n 31,AZ (n:=B2 _ 16) J J];rw[aHx e2.1 (b - 1).toNat _ 1 J J J J,A5<|by rfl];rw[← awc e2.1 J J];exact aJE _
 .simp only[e,AH,A2,A4]
def afx{l:List Int}(hl:l.length<=1048576):vb (l,())=I ((l,()),()):=MM hl
def aeT{l:List Int}(hl:l.length<=1048576):eS (l,())=I ((l,()),()):=MM hl
def Et(b:Nat)(f:Nat->Bool):Nat->Nat->Nat
 | 0,a=>a
 | k+1,a=>if f a then Et b f k ((a+1) % b) else a
def Rep(u:List Bool)(f:Nat->Bool):Prop:=∀i,u.getD i A0=f i
def rdB(u:List Bool)(i:Nat): @rd Bool aJ3 u (i:Int)=u.getD i A0:=rfl
def UH{b:Nat}{f:Nat->Bool}:∀(k a:Nat),a<b->Et b f k a<b
 | 0,_,h=>h
 | k+1,a,h=>by
  unfold Et;split
  .exact UH k _ (Pj _ J)
  .exact h
def q5{a b k:Nat}:((a+1) % b+k) % b=(a+(k+1)) % b:=by
 rw[Nat.mod_add_mod,DG,Nl 1 k]
def nV{b:Nat}{f:Nat->Bool}:∀(k a m:Nat),a<b->f ((a+k) % b)=A0->k<=m->Et b f m a=Et b f k a
 | 0,a,m,h,e,_=>by
  rw[I0,Pe h]at e;cases m with
  | zero=>rfl
  | succ m=>
   simp only[Et,e,A4]
 | k+1,a,m,h,e,hm=>by
  cases m with
  | zero=>omega
  | succ m=>
   rw[Et,Et];rw[nV k ((a+1) % b) m (Pj _ J) (by rw[q5];exact e) J]
def reach{a b j:Nat}(ha:a<b)(hj:j<b):∃k,k<=b/\(a+k) % b=j:=by
 by_cases h:a<=j
 .exact⟨j - a,J,by rw[show a+(j - a)=j by omega];exact Pe hj⟩
 .exact⟨j+b - a,J,by rw[show a+(j+b - a)=j+b by omega,Nat.add_mod_right];exact Pe hj⟩
def cnt(f:Nat->Bool):Nat->Nat
 | 0=>0
 | k+1=>cnt f k+(if f k then 1 else 0)
def qb{f:Nat->Bool}:∀(k:Nat),cnt f k<k->∃j,j<k/\f j=A0
 | 0,h=>J
 | k+1,h=>by
  rw[cnt]at h;obtain e|e:=tf (f k)
  .rw[e,A5 rfl]at h;obtain⟨j,h1,h2⟩:=qb (f:=f) k J;exact⟨j,J,h2⟩
  .exact⟨k,J,e⟩
def IQ(f:Nat->Bool)(a:Nat):Nat->Bool:=λj=>if j=a then Y else f j
def rE{f:Nat->Bool}{a:Nat}:∀(k:Nat),(k<=a->cnt (IQ f a) k=cnt f k)/\cnt (IQ f a) k<=cnt f k+1
 | 0=>⟨λ_=>rfl,by rw[cnt,cnt];omega⟩
 | k+1=>by
  obtain⟨h1,h2⟩:=rE (f:=f) (a:=a) k;rw[cnt,cnt];constructor
  .intro h;rw[h1 J,show IQ f a k=f k from A9 J]
  .by_cases h:k=a
   .rw[h1 J];unfold IQ;rw[A5 h];cases f k<;>simp
   .unfold IQ;rw[A9 h];unfold IQ at h2;omega
def qa:∀(k:Nat),cnt (λ_=>A0) k=0
 | 0=>rfl
 | k+1=>by rw[cnt,qa k];rfl
def Rep.set{u:List Bool}{f:Nat->Bool}{a:Nat}(h:Rep u f)(ha:a<u.length):Rep (u.set a Y) (IQ f a):=by
 intro i;unfold IQ;rw[BA,Pa];by_cases e:i=a
 .subst e;simp[ha]
 .rw[A9<|Li e,A9 e,← h i,BA]
def Rep.new(n:Nat):Rep (BT n A0) (λ_=>A0):=by
 intro i;rw[BA,bM];split<;>rfl
def Jf(b:Nat):Nat->(Nat->Bool)->Int->Nat->Bool
 | 0,f,_=>f
 | n+1,f,x=>Jf b n (IQ f<|Et b f b (BM (B2 (rnd x) 16) (b:Int)).toNat) (rnd x)
def aHU{b:Nat}(hb:0<b):∀(n:Nat) (f:Nat->Bool) (x:Int),(∀i,b<=i->f i=A0)->∀i,b<=i->Jf b n f x i=A0
 | 0,_,_,h=>h
 | n+1,f,x,h=>by
  refine aHU hb n _ _ ?_;intro i hi;unfold IQ;rw[A9,h i hi];have:Et b f b (BM (B2 (rnd x) 16) (b:Int)).toNat<b:=by
   refine UH _ _ ?_;have:=UF x;rw[Gi this.1,Lg J];have h1:=Int.emod_lt_of_pos (rnd x / 16) (show(0:Int)<b by omega);have h2:=Int.emod_nonneg (rnd x / 16) (show(b:Int)≠0 by omega);omega
  omega
def Ho(f:Nat->Bool)(m:Nat):List Nat:=(B9 m).filter f
def mr(f:Nat->Bool)(m:Nat):Ho f (m+1)=Ho f m++if f m then [m] else []:=by
 unfold Ho;rw[IU,Rl];congr 1;simp only[KT,bJ]
def Zx(f:Nat->Bool)(m:Nat):(Ho f m).length<=m:=by
 unfold Ho;exact Cc (J4 _ _)<|by simp
def aur{f:Nat->Bool}{m k:Nat}(h:k∈Ho f m):k<m:=by
 unfold Ho at h;exact D4.1 (FU.1 h).1
def aGy{f:Nat->Bool}{b:Nat}(h:∀i,b<=i->f i=A0):∀(m:Nat),b<=m->Ho f m=Ho f b
 | 0,hm=>by rw[show b=0 by omega]
 | m+1,hm=>by
  by_cases e:b=m+1
  .rw[e]
  .rw[mr,h m J,A4,CU,aGy h m J]
abbrev BY(l:List Nat):List Int:=l.map λi:Nat=>(i:Int)
def aIk{b r:Int}(hb:0<=b):∀(ws:List Int) (acc d:Int),0<=d->d+ws.length<=b+1->0<=N0 (Ln b r ws acc d)/\N0 (Ln b r ws acc d)<=b
 | [],_,_,_,_=>by
  show 0<=b/\b<=b;omega
 | w::ws,acc,d,h0,h1=>by
  rw[Bf]at h1;unfold Ln;split
  .show 0<=d/\d<=b;omega
  .exact aIk hb ws _ _ J J
def aII{b n:Int}(h:Dy b n=Y):0<=GG b n/\GG b n<=b:=by
 unfold GG;rw[A5 h];unfold Dy at h;rw[AD]at h;have h1:=Aa.1 h.1;split
 .omega
 .refine aIk J _ _ _ J ?_;have h3:b=1\/b=2\/b=3\/b=4\/b=5\/b=6:=J
  obtain rfl|rfl|rfl|rfl|rfl|rfl:=h3<;>exact Cr _
def Bj(b n:Int):List Nat:=
 if Dy b n then(if U (n<b) then [n.toNat] else Ho (Jf b.toNat (GG b n).toNat (λ_=>A0)<|rnd<|7 * n+1) b.toNat) else []
def MD{b n:Int}{k:Nat}(h:k∈Bj b n):(k:Int)<b:=by
 unfold Bj at h;split at h
 .rename_i h0;unfold Dy at h0;rw[AD]at h0;have h1:=Aa.1 h0.1;have h2:=Aa.1 h0.2;split at h
  .rename_i h3;have:=BV h3;have:=C8.1 h;omega
  .have:=aur h;omega
 .cases h
def Yn(b n:Int):(Bj b n).length<=6:=by
 unfold Bj;split
 .rename_i h0;unfold Dy at h0;rw[AD]at h0;have h1:=Aa.1 h0.1;split
  .simp
  .exact Cc (Zx _ _) J
 .simp
section
variable {bn:Nat} (hb:0<bn) (h6:bn<=6) {u:List Bool} {f:Nat->Bool} (hu:Rep u f) (hl:bn<=u.length)
include hb h6 hu hl
def aGd(x n:Int):∀(k a:Nat),a<bn->f ((a+k) % bn)=A0->
  fq ((bn:Int),u,x,n,(a:Int),())=I (.inr ((bn:Int),u,x,n,((Et bn f k a:Nat):Int),()))
 | 0,a,ha,e=>by
  rw[I0,Pe ha]at e;refine BC ?_;unfold Xf;simp only[rdB,hu a,e,AR (J:a<u.length),A2,A4];rfl
 | k+1,a,ha,e=>by
  unfold fq at *;unfold Et;obtain e1|e1:=tf (f a)
  .rw[e1,A5 rfl];refine Am ?_ (aGd x n k ((a+1) % bn) (Pj _ hb) (by rw[q5];exact e));unfold Xf;simp only[rdB,hu a,e1,AR (J:a<u.length),A2,show U ((bn:Int)=0)=A0 from BG J,AH];rw[AZ J J];rfl
  .rw[e1,A4];refine BC ?_;unfold Xf;simp only[rdB,hu a,e1,AR (J:a<u.length),A2,A4]
def aGC(o:List Int)(x n:Int):∀(k a:Nat),a<bn->f ((a+k) % bn)=A0->
  gN ((bn:Int),o,u,x,n,(a:Int),())=I (.inr ((bn:Int),o,u,x,n,((Et bn f k a:Nat):Int),()))
 | 0,a,ha,e=>by
  rw[I0,Pe ha]at e;refine BC ?_;unfold XV;simp only[rdB,hu a,e,AR (J:a<u.length),A2,A4];rfl
 | k+1,a,ha,e=>by
  unfold gN at *;unfold Et;obtain e1|e1:=tf (f a)
  .rw[e1,A5 rfl];refine Am ?_ (aGC o x n k ((a+1) % bn) (Pj _ hb) (by rw[q5];exact e));unfold XV;simp only[rdB,hu a,e1,AR (J:a<u.length),A2,show U ((bn:Int)=0)=A0 from BG J,AH];rw[AZ J J];rfl
  .rw[e1,A4];refine BC ?_;unfold XV;simp only[rdB,hu a,e1,AR (J:a<u.length),A2,A4]
end
section
variable {bn:Nat} (hb:0<bn) (h6:bn<=6)
include hb h6
def aJf(x:Int):∃a:Nat,BM (w64<|B2 (rnd x) 16) (bn:Int)=(a:Int)/\(BM (B2 (rnd x) 16) (bn:Int)).toNat=a/\a<bn:=by
 have h:=UF x;have hd:B2 (rnd x) 16=rnd x / 16:=Gi h.1;rw[hd,AZ J J,Lg J];have h1:=Int.emod_lt_of_pos (rnd x / 16) (show(0:Int)<bn by omega);have h2:=Int.emod_nonneg (rnd x / 16) (show(bn:Int)≠0 by omega);exact⟨(rnd x / 16 % (bn:Int)).toNat,J,rfl,J⟩
def aHb:∀(n:Nat) (u:List Bool) (f:Nat->Bool) (x:Int),Rep u f->bn<=u.length->cnt f bn+n<=bn->
  ∃u',wT ((bn:Int),u,x,(n:Int),())=I (.inr (u',()))/\Rep u' (Jf bn n f x)/\u'.length=u.length
 | 0,u,f,x,hu,_,_=>by
  refine⟨u,BC ?_,hu,rfl⟩;rfl
 | n+1,u,f,x,hu,hl,hc=>by
  obtain⟨a,ea,eb,ha⟩:=aJf hb h6 x;obtain⟨j,hj,ej⟩:=qb (f:=f) bn J;obtain⟨k,hk,ek⟩:=reach ha hj;have es:=aGd hb h6 hu hl (rnd x) ((n+1:Nat):Int) k a ha (by rw[ek];exact ej);have em:=nV (f:=f) k a bn ha (by rw[ek];exact ej) hk;have hs:Et bn f k a<bn:=UH k a ha;obtain⟨u',h1,h2,h3⟩:=aHb n (u.set (Et bn f k a) Y) (IQ f<|Et bn f k a) (rnd x) (hu.set J) (by rw[Gh];exact hl)
   (by have:=(rE (f:=f) (a:=Et bn f k a) bn).2;omega)
  refine⟨u',Am ?_ h1, ?_,by rw[h3,Gh]⟩
  .unfold l9;simp only[kK,A6,show U ((0:Int)<((n+1:Nat):Int))=Y from AW J,A2,show U ((bn:Int)=0)=A0 from BG J,AH,ea,es];simp only[AM,A6,AR (J:Et bn f k a<u.length),A2,BX];rw[AZ J J,show((n+1:Nat):Int) - 1=(n:Int) by omega]
  .rw[Jf,eb,em];exact h2
def aHw(o:List Int):∀(n:Nat) (u:List Bool) (f:Nat->Bool) (x:Int),Rep u f->bn<=u.length->cnt f bn+n<=bn->
  ∃u',wM ((bn:Int),o,u,x,(n:Int),())=I (.inr ((bn:Int),o,u',()))/\Rep u' (Jf bn n f x)/\u'.length=u.length
 | 0,u,f,x,hu,_,_=>by
  refine⟨u,BC ?_,hu,rfl⟩;rfl
 | n+1,u,f,x,hu,hl,hc=>by
  obtain⟨a,ea,eb,ha⟩:=aJf hb h6 x;obtain⟨j,hj,ej⟩:=qb (f:=f) bn J;obtain⟨k,hk,ek⟩:=reach ha hj;have es:=aGC hb h6 hu hl o (rnd x) ((n+1:Nat):Int) k a ha (by rw[ek];exact ej);have em:=nV (f:=f) k a bn ha (by rw[ek];exact ej) hk;have hs:Et bn f k a<bn:=UH k a ha;obtain⟨u',h1,h2,h3⟩:=aHw o n (u.set (Et bn f k a) Y) (IQ f<|Et bn f k a) (rnd x) (hu.set J) (by rw[Gh];exact hl)
   (by have:=(rE (f:=f) (a:=Et bn f k a) bn).2;omega)
  refine⟨u',Am ?_ h1, ?_,by rw[h3,Gh]⟩
  .unfold lH;simp only[kB,A6,show U ((0:Int)<((n+1:Nat):Int))=Y from AW J,A2,show U ((bn:Int)=0)=A0 from BG J,AH,ea,es];simp only[AM,A6,AR (J:Et bn f k a<u.length),A2,BX];rw[AZ J J,show((n+1:Nat):Int) - 1=(n:Int) by omega]
  .rw[Jf,eb,em];exact h2
end
def asx{u:List Bool}{f:Nat->Bool}(hu:Rep u f)(hl:u.length=6):wS ([],u,0,())=I (.inr (BY<|Ho f 6,())):=by
 refine CE (λi=>(BY<|Ho f i,u,(i:Int),())) 6 ?_ rfl;intro i hi;unfold l8;simp only[rdB,hu i,AR (J:i<u.length),AR hi,Lh,A2,show U ((i:Int)<6)=Y from AW J];rw[AZ (n:=(i:Int)+1) J J,mr];have:=Zx f i;obtain e|e:=tf (f i)
 .simp only[e,A2];rw[A5<|BE aJL];simp[BY]
 .simp only[e,A4,CU];rfl
def atW{bn:Nat}(h6:bn<=6){u:List Bool}{f:Nat->Bool}(hu:Rep u f)(hl:u.length=bn):wL ((bn:Int),[],u,0,())=I (.inr (BY<|Ho f bn,())):=by
 refine CE (λi=>((bn:Int),BY<|Ho f i,u,(i:Int),())) bn ?_ ?_
 .intro i hi;unfold jc;simp only[rdB,hu i,AR (J:i<u.length),A2,show U ((i:Int)<(bn:Int))=Y from AW J];rw[AZ (n:=(i:Int)+1) J J,mr];have:=Zx f i;obtain e|e:=tf (f i)
  .simp only[e,A2];rw[A5<|BE aJL];simp[BY]
  .simp only[e,A4,CU];rfl
 .unfold jc;simp only[show U ((bn:Int)<(bn:Int))=A0 from BG J,A4]
def ly(b n:Int):Xt (b,n,())=I ((BY<|Bj b n,()),()):=by
 unfold Xt Bj;rw[aDd];simp only[A6];obtain e|e:=tf (Dy b n)
 .have e2:=e;unfold Dy at e2;rw[AD]at e2;have h1:=Aa.1 e2.1;have h2:=Aa.1 e2.2;simp only[e,AB,A4,A2];obtain e3|e3:=tf (U<|n<b)
  .simp only[e3,A2];rw[show BY [n.toNat]=[n] from by simp[BY];omega]
  .have hd:=aII e;simp only[e3,A4,kK,ahg,A6];rw[AZ (n:=7 * n) J J,AZ (n:=7 * n+1) J J];obtain⟨u,g1,g2,g3⟩:=aHb (bn:=b.toNat) J J (GG b n).toNat (BT 6 A0) (λ_=>A0) (rnd<|7 * n+1) (Rep.new 6) aJL (by rw[qa];omega);rw[show((b.toNat:Nat):Int)=b by omega,show(((GG b n).toNat:Nat):Int)=GG b n by omega]at g1;rw[show(dfl .bool:Bool)=A0 from rfl,g1];simp only[AM,A6];rw[asx g2 (by rw[g3];rfl),aGy (b:=b.toNat) (aHU J _ _ _ λ_ _=>rfl) 6 J];simp only[A6];rw[afx (by have:=Zx (Jf b.toNat (GG b n).toNat (λ_=>A0)<|rnd<|7 * n+1) b.toNat;simp;omega)];rfl
 .simp only[e,AH,A2,A4];rfl
def aDX(b n:Int):Xn (b,n,())=I ((BY<|Bj b n,()),()):=by
 unfold Xn Bj;rw[YT];simp only[A6];obtain e|e:=tf (Dy b n)
 .have e2:=e;unfold Dy at e2;rw[AD]at e2;have h1:=Aa.1 e2.1;have h2:=Aa.1 e2.2;simp only[e,AB,A4,A2];obtain e3|e3:=tf (U<|n<b)
  .simp only[e3,A2];rw[show BY [n.toNat]=[n] from by simp[BY];omega];rfl
  .have hd:=aII e;simp only[e3,A4,kB,ah8,A6];rw[A5 aJL];rw[AZ (n:=n * 7) J J,AZ (n:=n * 7+1) J J,S5 n 7];obtain⟨u,g1,g2,g3⟩:=aHw (bn:=b.toNat) J J [] (GG b n).toNat (BT b.toNat A0) (λ_=>A0) (rnd<|7 * n+1) (Rep.new _) aJO (by rw[qa];omega);rw[show((b.toNat:Nat):Int)=b by omega,show(((GG b n).toNat:Nat):Int)=GG b n by omega]at g1;rw[show(dfl .bool:Bool)=A0 from rfl,g1];simp only[AM,A6];have g4:=atW (bn:=b.toNat) J g2 (by rw[g3];simp);rw[show((b.toNat:Nat):Int)=b by omega]at g4;rw[g4];rfl
 .simp only[e,AH,A2,A4];rfl
end Go.VS
namespace Go.VS
open Go
abbrev bI(l:List UInt8):List Int:=l.map λb=>(b.toNat:Int)
def Tu(s:A1):BD s=bI (L s):=rfl
def U9(l:List UInt8):BI (bI l)=B l:=by
 unfold BI bI B;rw[IV];congr 2;rw[H8 (g:=id) (by intro b _;simp),bR]
def aIr(a b:UInt8):E0 .u8 (a.toNat:Int) (b.toNat:Int)=((a ^^^ b).toNat:Int):=by
 have h1:∀c:UInt8,FT (IntKind.bits .u8) (c.toNat:Int)=c.toBitVec:=by
  intro c;apply pR;rw[Rp];have:=c.toNat_lt;show((c.toNat:Int) % (2 ^ 8:Nat)).toNat=c.toBitVec.toNat;rw[pC J J];rfl
 unfold E0;rw[h1 a,h1 b];have:=(a ^^^ b).toNat_lt;show bT .u8 (((a ^^^ b).toNat:Nat):Int)=_;have h3:∀n:Int,bT .u8 n=n % 256:=Nb;rw[h3];omega
def az8{l:List UInt8}(h:l.length=4):∃a b c d,l=[a,b,c,d]:=by
 obtain _|⟨a,_|⟨b,_|⟨c,_|⟨d,_|⟨e,l⟩⟩⟩⟩⟩:=l
 all_goals simp at h
 exact⟨a,b,c,d,rfl⟩
def sz4{s:A1}(h:s.size=4):∃a b c d,s=B [a,b,c,d]:=by
 obtain⟨a,b,c,d,e⟩:=az8 (l:=L s) h;exact⟨a,b,c,d,by rw[← e,B_L]⟩
def aDc{a b:A1}(ha:a.size=4)(hb:b.size=4):Xu (a,b,())=I ((B<|CA (L a)<|L b,()),()):=by
 obtain⟨a0,a1,a2,a3,rfl⟩:=sz4 ha;obtain⟨b0,b1,b2,b3,rfl⟩:=sz4 hb;unfold Xu;rw[A5<|by rfl];have h:wO (B [b0,b1,b2,b3],BD<|B [a0,a1,a2,a3],((BD<|B [a0,a1,a2,a3]).length:Int),0,())=
   I (.inr ([E0 .u8 (a0.toNat:Int) (b0.toNat:Int),E0 .u8 (a1.toNat:Int) (b1.toNat:Int),E0 .u8 (a2.toNat:Int) (b2.toNat:Int),E0 .u8 (a3.toNat:Int) (b3.toNat:Int)],())):=
  Am rfl (Am rfl (Am rfl (Am rfl (BC rfl))))
 rw[h];simp only[aIr,AM,A6];exact congrArg (λz=>I ((z,()),()))<|U9 [a0 ^^^ b0,a1 ^^^ b1,a2 ^^^ b2,a3 ^^^ b3]
def aDV{a b:A1}(ha:a.size=4)(hb:b.size=4):Xm (a,b,())=I ((B<|CA (L a)<|L b,()),()):=by
 obtain⟨a0,a1,a2,a3,rfl⟩:=sz4 ha;obtain⟨b0,b1,b2,b3,rfl⟩:=sz4 hb;unfold Xm;have h:wK (B [a0,a1,a2,a3],B [b0,b1,b2,b3],[],0,())=
   I (.inr ([E0 .u8 (a0.toNat:Int) (b0.toNat:Int),E0 .u8 (a1.toNat:Int) (b1.toNat:Int),E0 .u8 (a2.toNat:Int) (b2.toNat:Int),E0 .u8 (a3.toNat:Int) (b3.toNat:Int)],())):=
  Am rfl (Am rfl (Am rfl (Am rfl (BC rfl))))
 rw[h];simp only[aIr,AM,A6];exact congrArg (λz=>I ((z,()),()))<|U9 [a0 ^^^ b0,a1 ^^^ b1,a2 ^^^ b2,a3 ^^^ b3]
def iF{n:Int}(h0:0<=n)(h1:n<=1000):M6 (n,())=I ((B2 (n+3) 4,()),()):=by
 unfold M6;simp only;rw[AZ (n:=n+4) J J,AZ (n:=n+4 - 1) J J,show n+4 - 1=n+3 by omega];rw[Gi J,AZ J J]
def apI:lE ()=I ((B<|nul 4,()),()):=rfl
def GI(t:List UInt8)(i:Nat):List UInt8:=(B9 4).map λj=>t.getD (4 * i+j) 0
def P9(t:List UInt8)(i:Nat):(GI t i).length=4:=by simp[GI]
def DQ(t:A1):List A1:=if inB t.size 1 24 then(B9<|(t.size+3) / 4).map λi=>B (GI (L t) i) else []
def ay4(l:List UInt8):BQ (BT (AO 4)<|dfl .u8).length (bI l)++Bt (bI l).length (BT (AO 4)<|dfl .u8)=bI ((B9 4).map λj=>l.getD j 0):=by
 obtain _|⟨a,_|⟨b,_|⟨c,_|⟨d,l⟩⟩⟩⟩:=l
 .rfl
 .rfl
 .rfl
 .rfl
 .rw[Mq aJO,CU];rfl
def aub(l:List UInt8)(k:Nat):(B9 4).map (λj=>(l.drop k).getD j 0)=(B9 4).map λj=>l.getD (k+j) 0:=by
 refine H8 ?_;intro j _;rw[BA,BA,I2]
def azO(s:A1)(k:Nat):L (s.extract k s.size)=(L s).drop k:=by
 rw[EI,KY];rw[EQ,Az];exact Aw _
def aDK(t:A1):Xg (t,())=I ((DQ t,()),()):=by
 unfold Xg DQ;simp only[EU,A6];obtain e|e:=tf (inB t.size 1 24)
 .have h1:=Aa.1 e;simp only[e,AB,A4,A2];have h:vc (t,[],0,())=I (.inr ((B9<|(t.size+3) / 4).map λi=>B<|GI (L t) i,())):=by
   refine CE (λi=>(t,(B9 i).map λi=>B<|GI (L t) i,((4 * i:Nat):Int),())) ((t.size+3) / 4) ?_ ?_
   .intro i hi;unfold jK;simp only[show U (((4 * i:Nat):Int)<(t.size:Int))=Y from AW J,A2];rw[A5<|by rfl,A5 aJL,A5<|BE aJL];rw[BX,Tu,azO,ay4,U9,aub,AZ J J,IU (n:=i),Em];rw[show((4 * i:Nat):Int)+4=((4 * (i+1):Nat):Int) by omega];rfl
   .unfold jK;simp only[show U (((4 * ((t.size+3) / 4):Nat):Int)<(t.size:Int))=A0 from BG J,A4]
  rw[h];simp only[AM,A6];rw[tX aJL];rfl
 .simp only[e,AH,A2,A4]
def atd(t:A1)(o:List A1)(i:Nat)(hi:i<=100):
  vT (t,o,(i:Int),[],w64<|(i:Int) * 4,())=I (.inr (t,o,(i:Int),bI<|GI (L t) i,())):=by
 rw[AZ J J,show(i:Int) * 4=((4 * i+0:Nat):Int) by omega];refine CE (λj=>(t,o,(i:Int),bI<|(B9 j).map λm=>(L t).getD (4 * i+m) 0,((4 * i+j:Nat):Int),())) 4 ?_ ?_
 .intro j hj;unfold im;simp only;rw[AZ (n:=(i:Int)+1) J J,AZ (n:=((i:Int)+1) * 4) J J];rw[A5<|AW J,AZ (n:=((4 * i+j:Nat):Int)+1) J J];rw[IU,Em];by_cases h:4 * i+j<t.size
  .rw[A5<|AW J,A5<|AR h,A5<|BE aJL,KI];simp only[Em,DZ,Jm];rfl
  .rw[A9 aJL,A5<|BE aJL];have:(L t).getD (4 * i+j) 0=0:=by
    rw[BA,Hz (by rw[Az];omega)];rfl
   simp only[Em,DZ,Jm,this];rfl
 .unfold im;simp only;rw[AZ (n:=(i:Int)+1) J J,AZ (n:=((i:Int)+1) * 4) J J];rw[A9 aJL];rfl
def apM(t:A1):jd (t,())=I ((DQ t,()),()):=by
 unfold jd DQ;obtain e|e:=tf (inB t.size 1 24)
 .have h1:=Aa.1 e;rw[A9 aJL,A5 e];have h:vU (t,[],0,())=I (.inr ((B9<|(t.size+3) / 4).map λi=>B<|GI (L t) i,())):=by
   refine CE (λi=>(t,(B9 i).map λi=>B<|GI (L t) i,(i:Int),())) ((t.size+3) / 4) ?_ ?_
   .intro i hi;unfold iq;simp only[iF (n:=(t.size:Int)) J J,A6];rw[Gi J,A5<|AW J,atd t _ i J];simp only[AM,A6];rw[A5<|BE aJL,U9,AZ J J,IU,Em];rfl
   .unfold iq;simp only[iF (n:=(t.size:Int)) J J,A6];rw[Gi J,A9 aJO]
  rw[h];rfl
 .rw[A5,A9 (by rw[e];exact CY)];by_cases h:(1:Int)<=t.size/\(t.size:Int)<=24
  .rw[Aa.2 h]at e;cases e
  .simp;omega
abbrev bsA(l:List A1)(k:Nat):A1:=l.getD k noB
def PJ(l:List A1)(k:Nat): @rd A1 aJY l (k:Int)=bsA l k:=rfl
def PA(pre:List Nat)(k:Nat)(post:List Nat): @rd Int aJR (BY<|pre++k::post) (j8 pre:Int)=(k:Int):=by
 rw[PI,BY,Em,DZ,BA,Fl aJO];simp
def snoc{α:Type}(pre:List α)(k:α)(post:List α):pre++k::post=(pre++[k])++post:=by simp
def Dh{n m:Nat}(h:n<m)(hm:m<=1048576):w64 ((n:Int)+1)=((n+1:Nat):Int):=B1 h J
section
variable {bs:List A1} (hbs:∀k,k<bs.length->(bsA bs k).size=4)
include hbs
def auG(post:List Nat):∀(pre:List Nat) (y:A1),pre≠[]->y.size=4->(pre++post).length<=1048576->(∀k∈post,k<bs.length)->
  WL (bs,y,BY<|pre++post,((BY<|pre++post).length:Int),(j8 pre:Int),())=I (.inr (B<|post.foldl (λx k=>CA x<|L<|bsA bs k)<|L y,())):=by
 induction post with
 | nil=>
  intro pre y _ _ _ _;refine BC ?_;unfold Wt;simp only[CU,Df,show U ((j8 pre:Int)<(j8 pre:Int))=A0 from BG J,A4,KR,B_L]
 | cons k post ih=>
  intro pre y hp hy hl hk;have h1:=hk k As;have hne:pre.length≠0:=λh=>hp<|E5 h;have hlen:pre.length<(BY<|pre++k::post).length:=by simp
  refine Am (x':=(bs,B<|CA (L y)<|L<|bsA bs k,BY<|pre++k::post,((BY<|pre++k::post).length:Int),((pre++[k]).length:Int),())) ?_ ?_
  .unfold Wt;simp only[show U ((j8 pre:Int)<((BY<|pre++k::post).length:Int))=Y from AW J,A2,AR hlen,PA,show U ((j8 pre:Int)=0)=A0 from BG J,A4,AR h1,PJ,aDc hy<|hbs k h1,A6];rw[Dh hlen<|by simpa using hl,Ax];rfl
  .have:=ih (pre++[k]) (B<|CA (L y)<|L<|bsA bs k) aJO (by rw[BS,R5<|by rw[Az,Az,hy,hbs k h1],Az,hy]) (by rw[← snoc];exact hl) λx hx=>hk x<|Ak k hx;rw[← snoc]at this;exact this
def atZ(post:List Nat):∀(pre:List Nat) (y:A1),y.size=4->(pre++post).length<=1048576->(∀k∈post,k<bs.length)->
  eL (bs,BY<|pre++post,y,(j8 pre:Int),())=I (.inr (B<|post.foldl (λx k=>CA x<|L<|bsA bs k)<|L y,())):=by
 induction post with
 | nil=>
  intro pre y _ _ _;refine BC ?_;unfold gk;simp only[CU,Df,show U ((j8 pre:Int)<(j8 pre:Int))=A0 from BG J,A4,KR,B_L]
 | cons k post ih=>
  intro pre y hy hl hk;have h1:=hk k As;have hlen:pre.length<(BY<|pre++k::post).length:=by simp
  refine Am (x':=(bs,BY<|pre++k::post,B<|CA (L y)<|L<|bsA bs k,((pre++[k]).length:Int),())) ?_ ?_
  .unfold gk;simp only[show U ((j8 pre:Int)<((BY<|pre++k::post).length:Int))=Y from AW J,A2,AR hlen,PA,AR h1,PJ,aDV hy<|hbs k h1,A6];rw[Dh hlen<|by simpa using hl,Ax];rfl
  .have:=ih (pre++[k]) (B<|CA (L y)<|L<|bsA bs k) (by rw[BS,R5<|by rw[Az,Az,hy,hbs k h1],Az,hy]) (by rw[← snoc];exact hl) λx hx=>hk x<|Ak k hx;rw[← snoc]at this;exact this
end
def aK{t:A1}{k:Nat}(h:k<(DQ t).length):bsA (DQ t) k=B (GI (L t) k):=by
 unfold DQ at h ⊢;split
 .rename_i e;rw[A5 e]at h;simp at h;rw[bsA,BA,DI,H6 h];rfl
 .rename_i e;rw[A9 e]at h;cases h
def GZ(t:A1)(n:Int):A1:=
 if(Bj (DQ t).length n).isEmpty then noB else B (Dz 4 (GI<|L t)<|Bj (DQ t).length n)
def aHr{t:A1}{n:Int}{y:List UInt8}{ks:List Nat}(hy:y.length=4)(hk:∀k∈ks,k<(DQ t).length):
  ks.foldl (λx k=>CA x<|L<|bsA (DQ t) k) y=CA y (Dz 4 (GI<|L t) ks):=by
 rw[← qP hy];have:∀(ks:List Nat) (y:List UInt8),(∀k∈ks,k<(DQ t).length)->ks.foldl (λx k=>CA x<|L<|bsA (DQ t) k) y=ks.foldl (λx k=>CA x<|GI (L t) k) y:=by
  intro ks
  induction ks with
  | nil=>intro _ _;rfl
  | cons k ks ih=>
   intro y h;rw[E4,E4,aK (h k As),ih _ λx hx=>h x<|Ak k hx];rfl
 exact this ks y hk
def br{t:A1}:∀k,k<(DQ t).length->(bsA (DQ t) k).size=4:=by
 intro k h;rw[aK h,BS,P9]
def anW(t:A1)(n:Int):jD (t,n,())=I ((GZ t n,()),()):=by
 unfold jD GZ;simp only[aDK,ly,A6];have hk:∀k∈Bj (DQ t).length n,k<(DQ t).length:=λk h=>by
  have:=MD h;omega
 have hl:=Yn (DQ t).length n;revert hk hl;generalize Bj (DQ t).length n=ks;intro hk hl;cases ks with
 | nil=>
  rw[show WL (DQ t,noB,BY [],((BY []).length:Int),0,())=I (.inr (noB,())) from BC rfl];rfl
 | cons k ks=>
  have h1:=hk k As;rw[A9 aJO];have hlen:0<(BY<|k::ks).length:=by simp
  have hrd: @rd Int aJR (BY<|k::ks) 0=(k:Int):=PA [] k ks;have h:WL (DQ t,noB,BY<|k::ks,((BY<|k::ks).length:Int),0,())=I (.inr (B<|Dz 4 (GI<|L t)<|k::ks,())):=by
   refine Am (x':=(DQ t,bsA (DQ t) k,BY<|[k]++ks,((BY<|[k]++ks).length:Int),(([k]:List Nat).length:Int),())) ?_ ?_
   .unfold Wt;simp only[show U ((0:Int)<((BY<|k::ks).length:Int))=Y from AW J,A2,AR (i:=0) hlen,show inb 0 (BY<|k::ks).length=Y from AR (i:=0) hlen,hrd,show U ((0:Int)=0)=Y from rfl,AR h1,PJ];rfl
   .have:=auG br ks [k] (bsA (DQ t) k) aJO (br k h1) (by simpa using (by simp at hl;omega:ks.length+1<=1048576)) λx hx=>hk x<|Ak k hx;rw[aHr (n:=n) (by rw[Az];exact br k h1) λx hx=>hk x<|Ak k hx,aK h1]at this;rw[aK h1];exact this
  rw[h];rfl
def amv(t:A1)(n:Int):ik (t,n,())=I ((GZ t n,()),()):=by
 unfold ik GZ;simp only[apM,aDX,A6];have hk:∀k∈Bj (DQ t).length n,k<(DQ t).length:=λk h=>by
  have:=MD h;omega
 have hl:=Yn (DQ t).length n;revert hk hl;generalize Bj (DQ t).length n=ks;intro hk hl;cases ks with
 | nil=>rw[A5 aJO,A5 aJO]
 | cons k ks=>
  have h1:=hk k As;have hc:(DQ t).length≠0:=J
  rw[A9 (by simp;exact⟨λh=>hc (by rw[h];rfl),J⟩),A9 aJO,apI];simp only[A6];have:=atZ (bs:=DQ t) br (k::ks) [] (B<|nul 4) (by rfl) (by simpa using (by simp at hl;omega:ks.length+1<=1048576)) hk;rw[aHr (n:=n) (by rfl) hk]at this;rw[show eL (DQ t,BY<|k::ks,B<|nul 4,0,())=_ from this];simp only[AM,A6];rw[L_B,Zk<|Qy λx _=>P9 _ x]
end Go.VS
namespace Go.VS
open Go
def unk(kn:List A1)(k:Nat):Bool:=U<|bsA kn k=noB
def DP(kn:List A1)(of:List Nat):List Nat:=of.filter<|unk kn
def Ea(kn:List A1)(of:List Nat)(y:List UInt8):List UInt8:=of.foldl (λx k=>if unk kn k then x else CA x (L<|bsA kn k)) y
def Ce(b:Nat)(kn:List A1):Prop:=kn.length=b/\ ∀k,k<b->bsA kn k=noB\/(bsA kn k).size=4
def nX{b:Nat}{kn:List A1}(h:Ce b kn):∀ {of:List Nat} {y:List UInt8},y.length=4->(∀k∈of,k<b)->(Ea kn of y).length=4
 | [],_,hy,_=>hy
 | k::of,y,hy,hk=>by
  unfold Ea;rw[E4];refine nX (of:=of) h ?_ λx hx=>hk x<|Ak k hx;obtain e|e:=tf (unk kn k)
  .rw[e];exact hy
  .rw[e,A4];obtain h1|h1:=h.2 k (hk k As)
   .unfold unk at e;exact absurd h1 (J3 e)
   .rw[R5<|by rw[hy,Az,h1],hy]
def abI(d:Int)(l:List Nat):Int:=l.foldl (fun(_:Int) (k:Nat)=>(k:Int)) d
section
variable {b:Nat} {kn:List A1} (hkn:Ce b kn)
include hkn
def auH(bi:Int)(list l2:List AT)(ag:Bool)(n i:Int)(post:List Nat):∀(pre:List Nat) (y:A1) (u:Int) (m:Nat),y.size=4->(pre++post).length<=1048576->m<=pre.length->(∀k∈post,k<b)->
  eh (bi,list,kn,ag,y,u,(m:Int),l2,n,i,BY<|pre++post,((BY<|pre++post).length:Int),(j8 pre:Int),())=
   I (.inr (bi,list,kn,ag,B<|Ea kn post<|L y,abI u<|DP kn post,((m+(DP kn post).length:Nat):Int),l2,n,i,())):=by
 induction post with
 | nil=>
  intro pre y u m _ _ _ _;refine BC ?_;unfold Ws;simp only[CU,Df,show U ((j8 pre:Int)<(j8 pre:Int))=A0 from BG J,A4];show _=I (Sum.inr<|Sum.inr (bi,list,kn,ag,B<|L y,u,(m:Int),l2,n,i,()));rw[B_L]
 | cons k post ih=>
  intro pre y u m hy hl hm hk;have h1:=hk k As;have hlen:pre.length<(BY<|pre++k::post).length:=by simp
  have hb:k<kn.length:=by rw[hkn.1];exact h1
  have hl2:(pre++[k]++post).length<=1048576:=by rw[← snoc];exact hl
  obtain e|e:=tf (unk kn k)
  .refine Am (x':=(bi,list,kn,ag,y,(k:Int),((m+1:Nat):Int),l2,n,i,BY<|pre++k::post,((BY<|pre++k::post).length:Int),((pre++[k]).length:Int),())) ?_ ?_
   .unfold Ws;simp only[show U ((j8 pre:Int)<((BY<|pre++k::post).length:Int))=Y from AW J,A2,AR hlen,PA,AR hb,PJ];rw[A5<|show U (bsA kn k=noB)=Y from e,Dh hlen<|by simpa using hl,Ax,AZ (n:=(m:Int)+1) J (by simp at hl;omega)];rfl
   .have:=ih (pre++[k]) y (k:Int) (m+1) hy hl2 aJL λx hx=>hk x<|Ak k hx;rw[← snoc]at this;rw[show DP kn (k::post)=k::DP kn post by unfold DP;rw[KT,e,A5 rfl]];rw[show Ea kn (k::post) (L y)=Ea kn post (L y) by unfold Ea;rw[E4,e,A5 rfl]];rw[Bf,show m+((DP kn post).length+1)=m+1+(DP kn post).length by omega];exact this
  .have hs:(bsA kn k).size=4:=by
    obtain h2|h2:=hkn.2 k h1
    .exact absurd h2 (J3 e)
    .exact h2
   refine Am (x':=(bi,list,kn,ag,B<|CA (L y)<|L<|bsA kn k,u,(m:Int),l2,n,i,BY<|pre++k::post,((BY<|pre++k::post).length:Int),((pre++[k]).length:Int),())) ?_ ?_
   .unfold Ws;simp only[show U ((j8 pre:Int)<((BY<|pre++k::post).length:Int))=Y from AW J,A2,AR hlen,PA,AR hb,PJ];rw[A9 (by intro h;unfold unk at e;rw[h]at e;cases e),aDc hy hs,Dh hlen (by simpa using hl),Ax];rfl
   .have:=ih (pre++[k]) (B<|CA (L y)<|L<|bsA kn k) u m (by rw[BS,R5<|by rw[Az,Az,hy,hs],Az,hy]) hl2 aJL λx hx=>hk x<|Ak k hx;rw[← snoc]at this;rw[show DP kn (k::post)=DP kn post by unfold DP;rw[KT,e,A4]];rw[show Ea kn (k::post) (L y)=Ea kn post (CA (L y)<|L<|bsA kn k) by unfold Ea;rw[E4,e,A4]];exact this
def ata(post:List Nat):∀(pre:List Nat) (y:A1) (o:List Nat),y.size=4->(pre++post).length<=1048576->o.length<=pre.length->(∀k∈post,k<b)->
  fa (kn,BY o,y,BY<|pre++post,(j8 pre:Int),())=I (.inr (BY<|o++DP kn post,B<|Ea kn post<|L y,())):=by
 induction post with
 | nil=>
  intro pre y o _ _ _ _;refine BC ?_;unfold XN;simp only[CU,Df,show U ((j8 pre:Int)<(j8 pre:Int))=A0 from BG J,A4];show _=I (Sum.inr<|Sum.inr (BY<|o++[],B<|L y,()));rw[B_L,CU]
 | cons k post ih=>
  intro pre y o hy hl hm hk;have h1:=hk k As;have hlen:pre.length<(BY<|pre++k::post).length:=by simp
  have hb:k<kn.length:=by rw[hkn.1];exact h1
  have hl2:(pre++[k]++post).length<=1048576:=by rw[← snoc];exact hl
  obtain e|e:=tf (unk kn k)
  .refine Am (x':=(kn,BY<|o++[k],y,BY<|pre++k::post,((pre++[k]).length:Int),())) ?_ ?_
   .unfold XN;simp only[show U ((j8 pre:Int)<((BY<|pre++k::post).length:Int))=Y from AW J,A2,AR hlen,PA,AR hb,PJ];rw[A5<|show U (bsA kn k=noB)=Y from e,A5<|BE (by simp;simp at hl;omega),Dh hlen<|by simpa using hl,Ax];simp[BY]
   .have:=ih (pre++[k]) y (o++[k]) hy hl2 aJL λx hx=>hk x<|Ak k hx;rw[← snoc]at this;rw[show DP kn (k::post)=k::DP kn post by unfold DP;rw[KT,e,A5 rfl]];rw[show Ea kn (k::post) (L y)=Ea kn post (L y) by unfold Ea;rw[E4,e,A5 rfl]];rw[snoc o k<|DP kn post];exact this
  .have hs:(bsA kn k).size=4:=by
    obtain h2|h2:=hkn.2 k h1
    .exact absurd h2 (J3 e)
    .exact h2
   refine Am (x':=(kn,BY o,B<|CA (L y)<|L<|bsA kn k,BY<|pre++k::post,((pre++[k]).length:Int),())) ?_ ?_
   .unfold XN;simp only[show U ((j8 pre:Int)<((BY<|pre++k::post).length:Int))=Y from AW J,A2,AR hlen,PA,AR hb,PJ];rw[A9 (by intro h;unfold unk at e;rw[h]at e;cases e),aDV hy hs,Dh hlen (by simpa using hl),Ax];rfl
   .have:=ih (pre++[k]) (B<|CA (L y)<|L<|bsA kn k) o (by rw[BS,R5<|by rw[Az,Az,hy,hs],Az,hy]) hl2 aJL λx hx=>hk x<|Ak k hx;rw[← snoc]at this;rw[show DP kn (k::post)=DP kn post by unfold DP;rw[KT,e,A4]];rw[show Ea kn (k::post) (L y)=Ea kn post (CA (L y)<|L<|bsA kn k) by unfold Ea;rw[E4,e,A4]];exact this
end
def FP(b:Nat)(kn:List A1)(m:AT):Option (List A1):=
 if inB m.nu 0 999&&U ((m.da.size:Int)=4) then
  (match DP kn (Bj (b:Int) m.nu) with
   | [u]=>I (kn.set u<|B<|Ea kn (Bj (b:Int) m.nu)<|L m.da)
   | _=>G)
 else G
def CN(b:Nat)(s:List A1×Bool)(m:AT):List A1×Bool:=match FP b s.1 m with|some kn=>(kn,Y)|none=>s
def Iw(b:Nat)(list:List AT)(kn:List A1):List A1×Bool:=list.foldl (CN b) (kn,A0)
def Gz(b:Nat)(list:List AT):Nat->List A1->List A1
 | 0,kn=>kn
 | n+1,kn=>if(Iw b list kn).2 then Gz b list n (Iw b list kn).1 else(Iw b list kn).1
def UR{kn:List A1}{u:Nat}(v:A1)(hu:u<kn.length)(k:Nat):bsA (kn.set u v) k=if k=u then v else bsA kn k:=by
 rw[bsA,BA,Pa];by_cases h:u=k
 .subst h;simp[hu]
 .rw[A9 h,A9<|Li h,← BA]
def aak{f g:Nat->Bool}(h:∀i,g i=Y->f i=Y):∀k,cnt g k<=cnt f k
 | 0=>Aw _
 | k+1=>by
  have:=aak h k;rw[cnt,cnt];obtain e|e:=tf (g k)
  .rw[e,h k e];omega
  .rw[e,A4];omega
def aax{f g:Nat->Bool}(h:∀i,g i=Y->f i=Y){u:Nat}(hf:f u=Y)(hg:g u=A0):∀k,u<k->cnt g k<cnt f k
 | 0,h=>J
 | k+1,hk=>by
  rw[cnt,cnt];by_cases e:u=k
  .subst e;rw[hf,hg,A5 rfl,A4];have:=aak h u;omega
  .have:=aax h hf hg k J;obtain e|e:=tf (g k)
   .rw[e,h k e];omega
   .rw[e,A4];omega
def UG{b:Nat}{kn kn':List A1}{m:AT}(h:Ce b kn)(e:FP b kn m=I kn'):
  Ce b kn'/\(∀k,unk kn' k=Y->unk kn k=Y)/\cnt (unk kn') b<cnt (unk kn) b:=by
 unfold FP at e;split at e
 .rename_i hc;rw[AD]at hc;have hs:=BV hc.2;split at e
  .rename_i u hu;injection e with e;subst e;have Fp:u∈DP kn (Bj (b:Int) m.nu):=by rw[hu];exact Ml u
   obtain⟨h1,h2⟩:=FU.1 Fp;have h3:=MD h1;have hub:u<b:=J
   have hul:u<kn.length:=by rw[h.1];exact hub
   have hlen:(B<|Ea kn (Bj (b:Int) m.nu)<|L m.da).size=4:=by
    rw[BS,nX h (by rw[Az];omega) λk hk=>by have:=MD hk;omega]
   have hno:B (Ea kn (Bj (b:Int) m.nu)<|L m.da)≠noB:=by
    intro hh;rw[hh]at hlen;cases hlen
   have aET:∀k,unk (kn.set u<|B<|Ea kn (Bj (b:Int) m.nu)<|L m.da) k=Y->unk kn k=Y:=by
    intro k hk;unfold unk at hk;rw[UR _ hul]at hk;by_cases ek:k=u
    .rw[A5 ek]at hk;exact absurd (BV hk) hno
    .rw[A9 ek]at hk;exact hk
   refine⟨⟨by rw[Gh,h.1], ?_⟩,aET,aax aET h2 ?_ b hub⟩
   .intro k hk;rw[UR _ hul];by_cases ek:k=u
    .rw[A5 ek];exact Nw hlen
    .rw[A9 ek];exact h.2 k hk
   .unfold unk;rw[UR _ hul,A5 rfl];exact BG hno
  .cases e
 .cases e
def NP{b:Nat}:∀(list:List AT) (s:List A1×Bool),Ce b s.1->
  Ce b (list.foldl (CN b) s).1/\(∀k,unk (list.foldl (CN b) s).1 k=Y->unk s.1 k=Y)/\cnt (unk (list.foldl (CN b) s).1) b<=cnt (unk s.1) b/\
  ((list.foldl (CN b) s).2=Y->s.2=Y\/cnt (unk (list.foldl (CN b) s).1) b<cnt (unk s.1) b)
 | [],s,h=>⟨h,λ_ hk=>hk,Aw _,λhs=>Ny hs⟩
 | m::list,s,h=>by
  rw[E4];cases e:FP b s.1 m with
  | none=>
   rw[show CN b s m=s by unfold CN;rw[e]];exact NP list s h
  | some kn=>
   rw[show CN b s m=(kn,Y) by unfold CN;rw[e]];obtain⟨a1,a2,a3⟩:=UG h e;obtain⟨b1,b2,b3,_⟩:=NP list (kn,Y) a1;have b4:cnt (unk (list.foldl (CN b) (kn,Y)).1) b<=cnt (unk kn) b:=b3;exact⟨b1,λk hk=>a2 k<|b2 k hk,J,λ_=>Nw J⟩
end Go.VS
namespace Go.VS
open Go
def Md(pre:List AT)(m:AT)(post:List AT): @rd AT aJ0 (pre++m::post) (j8 pre:Int)=m:=by
 rw[PI,BA,Fl<|Aw _];simp
def asr(u:Nat):abI (-1) [u]=(u:Int):=rfl
def aFa{b:Nat}{kn kn':List A1}{m:AT}(ag:Bool)(h:FP b kn m=I kn'):CN b (kn,ag) m=(kn',Y):=by unfold CN;rw[h]
def Tk{b:Nat}{kn:List A1}{m:AT}(ag:Bool)(h:FP b kn m=G):CN b (kn,ag) m=(kn,ag):=by unfold CN;rw[h]
def aHu{b:Nat}{kn:List A1}{n:Int}{u:Nat}(h:DP kn (Bj (b:Int) n)=[u]):u<b:=by
 have:u∈DP kn (Bj (b:Int) n):=by rw[h];exact Ml u
 have:=MD (FU.1 this).1;omega
def arq{b:Nat}(h6:b<=6)(list:List AT)(post:List AT):∀(pre:List AT) (kn:List A1) (ag:Bool),Ce b kn->(pre++post).length<=1048576->
  WK ((b:Int),list,kn,ag,pre++post,((pre++post).length:Int),(j8 pre:Int),())=
   I (.inr ((b:Int),list,(post.foldl (CN b) (kn,ag)).1,(post.foldl (CN b) (kn,ag)).2,())):=by
 induction post with
 | nil=>
  intro pre kn ag _ _;refine BC ?_;unfold OT;simp only[CU,show U ((j8 pre:Int)<(j8 pre:Int))=A0 from BG J,A4];rfl
 | cons m post ih=>
  intro pre kn ag hk hl;have hlen:pre.length<(pre++m::post).length:=by simp
  have hw:=Dh hlen hl;have nxt:∀(kn':List A1) (ag':Bool),Ce b kn'->CN b (kn,ag) m=(kn',ag')->
    OT ((b:Int),list,kn,ag,pre++m::post,((pre++m::post).length:Int),(j8 pre:Int),())=I (.inl ((b:Int),list,kn',ag',pre++m::post,((pre++m::post).length:Int),((pre.length+1:Nat):Int),()))->
    WK ((b:Int),list,kn,ag,pre++m::post,((pre++m::post).length:Int),(j8 pre:Int),())=
     I (.inr ((b:Int),list,((m::post).foldl (CN b) (kn,ag)).1,((m::post).foldl (CN b) (kn,ag)).2,())):=by
   intro kn' ag' h1 h2 h3;refine Am h3 ?_;have:=ih (pre++[m]) kn' ag' h1 (by rw[← snoc];exact hl);rw[← snoc,@Ax _ pre [m]]at this;rw[E4,h2];exact this
  obtain e1|e1:=tf (inB m.nu 0 999)
  .by_cases e2:(m.da.size:Int)=4
   .have hh:FP b kn m=(match DP kn (Bj (b:Int) m.nu) with|[u]=>I (kn.set u<|B<|Ea kn (Bj (b:Int) m.nu)<|L m.da)|_=>G):=by
     unfold FP;rw[A5<|by rw[e1,AW e2]<;>rfl]<;>rfl
    have hlo:(Bj (b:Int) m.nu).length<=1048576:=Cc (Yn _ _) J;have hi:=auH hk (b:Int) list (pre++m::post) ag ((pre++m::post).length:Int) (j8 pre:Int) (Bj (b:Int) m.nu) [] m.da (-1) 0 J hlo (Aw _) λk h=>by have:=MD h;omega
    have hi2:eh ((b:Int),list,kn,ag,m.da,-1,0,pre++m::post,((pre++m::post).length:Int),(j8 pre:Int),BY<|Bj (b:Int) m.nu,((BY<|Bj (b:Int) m.nu).length:Int),0,())=_:=hi;by_cases e3:(DP kn<|Bj (b:Int) m.nu).length=1
    .obtain⟨u,hu⟩:=aFC.1 e3;rw[hu]at hh;have hub:=aHu hu;refine nxt _ Y (UG hk hh).1 (aFa ag hh) ?_;unfold OT;simp only[show U ((j8 pre:Int)<((pre++m::post).length:Int))=Y from AW J,A2,AR hlen,Md,EU,A6,e1,e2,AB,AX,En,A4,ly,hi2,hu];simp only[AM,A6,asr,AR (show u<kn.length by rw[hk.1];exact hub),A2,BX,hw];rfl
    .have hn:FP b kn m=G:=by
      rw[hh];split
      .rename_i u hu;rw[hu]at e3;exact absurd rfl e3
      .rfl
     refine nxt kn ag hk (Tk ag hn) ?_;unfold OT;simp only[show U ((j8 pre:Int)<((pre++m::post).length:Int))=Y from AW J,A2,AR hlen,Md,EU,A6,e1,e2,AB,AX,En,A4,ly,hi2];simp only[AM,A6,DR,show U (((DP kn<|Bj (b:Int) m.nu).length:Int)=1)=A0 from BG J,A4,hw]
   .have hn:FP b kn m=G:=by
     unfold FP;rw[A9 (by rw[BG e2,Ba];exact CY)]
    refine nxt kn ag hk (Tk ag hn) ?_;unfold OT;simp only[show U ((j8 pre:Int)<((pre++m::post).length:Int))=Y from AW J,A2,AR hlen,Md,EU,A6,BG e2,AH,DY,hw]
  .have hn:FP b kn m=G:=by
    unfold FP;rw[A9 (by rw[e1,AP];exact CY)]
   refine nxt kn ag hk (Tk ag hn) ?_;unfold OT;simp only[show U ((j8 pre:Int)<((pre++m::post).length:Int))=Y from AW J,A2,AR hlen,Md,EU,A6,e1,AH,By,hw]
def qm{b:Nat}(h0:0<b)(h6:b<=6)(n:Int):Dy (b:Int) n=inB n 0 999:=by
 unfold Dy;rw[Aa.2 J,AU]
def apJ{b:Nat}{kn:List A1}(hk:Ce b kn)(n:Int){d:A1}(hd:d.size=4):
  jW ((b:Int),(n,d,()),kn,())=I ((BY<|DP kn<|Bj (b:Int) n,B<|Ea kn (Bj (b:Int) n)<|L d,()),()):=by
 unfold jW;simp only[aDX,A6];have hlo:(Bj (b:Int) n).length<=1048576:=Cc (Yn _ _) J;have hi:=ata hk (Bj (b:Int) n) [] d [] hd hlo (Aw _) λk h=>by have:=MD h;omega
 have hi2:fa (kn,[],d,BY<|Bj (b:Int) n,0,())=_:=hi;rw[hi2];rfl
def kU(b n:Int)(d:A1):TB (b,(n,d,()),())=I ((Dy b n&&U ((d.size:Int)=4),()),()):=by
 unfold TB;simp only[YT,A6]
def as5{b:Nat}(h0:0<b)(h6:b<=6)(post:List AT):∀(pre:List AT) (kn:List A1) (ag:Bool),Ce b kn->(pre++post).length<=1048576->
  W2 ((b:Int),pre++post,kn,ag,(j8 pre:Int),())=
   I (.inr ((b:Int),pre++post,(post.foldl (CN b) (kn,ag)).1,(post.foldl (CN b) (kn,ag)).2,())):=by
 induction post with
 | nil=>
  intro pre kn ag _ _;refine BC ?_;unfold QS;simp only[CU,show U ((j8 pre:Int)<(j8 pre:Int))=A0 from BG J,A4];rfl
 | cons m post ih=>
  intro pre kn ag hk hl;have hlen:pre.length<(pre++m::post).length:=by simp
  have hw:=Dh hlen hl;have nxt:∀(kn':List A1) (ag':Bool),Ce b kn'->CN b (kn,ag) m=(kn',ag')->
    QS ((b:Int),pre++m::post,kn,ag,(j8 pre:Int),())=I (.inl ((b:Int),pre++m::post,kn',ag',((pre.length+1:Nat):Int),()))->
    W2 ((b:Int),pre++m::post,kn,ag,(j8 pre:Int),())=
     I (.inr ((b:Int),pre++m::post,((m::post).foldl (CN b) (kn,ag)).1,((m::post).foldl (CN b) (kn,ag)).2,())):=by
   intro kn' ag' h1 h2 h3;refine Am h3 ?_;have:=ih (pre++[m]) kn' ag' h1 (by rw[← snoc];exact hl);rw[← snoc,@Ax _ pre [m]]at this;rw[E4,h2];exact this
  obtain e|e:=tf (inB m.nu 0 999&&U ((m.da.size:Int)=4))
  .have e':=e;rw[AD]at e';have e2:=BV e'.2;have hh:FP b kn m=(match DP kn (Bj (b:Int) m.nu) with|[u]=>I (kn.set u<|B<|Ea kn (Bj (b:Int) m.nu)<|L m.da)|_=>G):=by
    unfold FP;rw[A5 e]<;>rfl
   have hL:=apJ hk m.nu (d:=m.da) J;by_cases e3:(DP kn<|Bj (b:Int) m.nu).length=1
   .obtain⟨u,hu⟩:=aFC.1 e3;rw[hu]at hh;have hub:=aHu hu;refine nxt _ Y (UG hk hh).1 (aFa ag hh) ?_;unfold QS;simp only[show U ((j8 pre:Int)<((pre++m::post).length:Int))=Y from AW J,A2,AR hlen,Md,kU,qm h0 h6,A6,e,AB,A4,hL,hu];rw[A5<|by rfl,A5<|by rfl,show @rd Int aJR (BY [u]) 0=(u:Int) from rfl,A5<|AR (show u<kn.length by rw[hk.1];exact hub),hw];rfl
   .have hn:FP b kn m=G:=by
     rw[hh];split
     .rename_i u hu;rw[hu]at e3;exact absurd rfl e3
     .rfl
    refine nxt kn ag hk (Tk ag hn) ?_;unfold QS;simp only[show U ((j8 pre:Int)<((pre++m::post).length:Int))=Y from AW J,A2,AR hlen,Md,kU,qm h0 h6,A6,e,AB,A4,hL,Df,
     show U (((DP kn<|Bj (b:Int) m.nu).length:Int)=1)=A0 from BG J,hw]
  .have hn:FP b kn m=G:=by
    unfold FP;rw[A9 (by rw[e];exact CY)]
   refine nxt kn ag hk (Tk ag hn) ?_;unfold QS;simp only[show U ((j8 pre:Int)<((pre++m::post).length:Int))=Y from AW J,A2,AR hlen,Md,kU,qm h0 h6,A6,e,AH,hw]
def aGe{b:Nat}(h6:b<=6)(list:List AT)(hl:list.length<=1048576):∀(n:Nat) (kn:List A1),Ce b kn->cnt (unk kn) b<n->
  vF ((b:Int),list,kn,Y,())=I (.inr (Gz b list n kn,()))
 | 0,_,_,h=>J
 | n+1,kn,hk,h=>by
  have hr:=arq h6 list list [] kn A0 hk hl;have hr2:WK ((b:Int),list,kn,A0,list,(list.length:Int),0,())=I (.inr ((b:Int),list,(Iw b list kn).1,(Iw b list kn).2,())):=hr;obtain⟨g1,g2,g3,g4⟩:=NP list (kn,A0) hk;refine Am (x':=((b:Int),list,(Iw b list kn).1,(Iw b list kn).2,())) ?_ ?_
  .unfold kL;simp only[A2,hr2];rfl
  .rw[Gz];obtain e|e:=tf (Iw b list kn).2
   .rw[e,A5 rfl];obtain g|g:=g4 e
    .cases g
    .exact aGe h6 list hl n _ g1 (H9 g<|Nat.le_of_lt_succ h)
   .rw[e,A4];exact BC rfl
def aGD{b:Nat}(h0:0<b)(h6:b<=6)(list:List AT)(hl:list.length<=1048576):∀(n:Nat) (kn:List A1),Ce b kn->cnt (unk kn) b<n->
  uy ((b:Int),list,kn,Y,())=I (.inr (Gz b list n kn,()))
 | 0,_,_,h=>J
 | n+1,kn,hk,h=>by
  have hr:=as5 h0 h6 list [] kn A0 hk hl;have hr2:W2 ((b:Int),list,kn,A0,0,())=I (.inr ((b:Int),list,(Iw b list kn).1,(Iw b list kn).2,())):=hr;obtain⟨g1,g2,g3,g4⟩:=NP list (kn,A0) hk;refine Am (x':=((b:Int),list,(Iw b list kn).1,(Iw b list kn).2,())) ?_ ?_
  .unfold kE;simp only[A2,hr2];rfl
  .rw[Gz];obtain e|e:=tf (Iw b list kn).2
   .rw[e,A5 rfl];obtain g|g:=g4 e
    .cases g
    .exact aGD h0 h6 list hl n _ g1 (H9 g<|Nat.le_of_lt_succ h)
   .rw[e,A4];exact BC rfl
def rF(f:Nat->Bool):∀k,cnt f k<=k
 | 0=>Aw _
 | k+1=>by
  have:=rF f k;rw[cnt];split<;>omega
def Ce.new(b:Nat):Ce b (BT b noB):=by
 refine⟨by simp,λk hk=>Ny ?_⟩;rw[bsA,BA,bM,A5 hk];rfl
def Hq(b:Int)(list:List AT):List A1:=if inB b 1 6 then Gz b.toNat list 7 (BT b.toNat noB) else []
def anV(b:Int)(list:List AT)(hl:list.length<=1048576):jC (b,list,())=I ((Hq b list,()),()):=by
 unfold jC Hq;simp only[EU,A6];obtain e|e:=tf (inB b 1 6)
 .have h1:=Aa.1 e;simp only[e,AB,A4,A2];rw[A5 aJL];have:=aGe (b:=b.toNat) J list hl 7 _ (Ce.new _) (by have:=rF (unk<|BT b.toNat noB) b.toNat;omega);rw[show((b.toNat:Nat):Int)=b by omega]at this;rw[show(dfl .str:A1)=noB from rfl,this];rfl
 .simp only[e,AH,A2,A4]
def amu(b:Int)(list:List AT)(hl:list.length<=1048576):ij (b,list,())=I ((Hq b list,()),()):=by
 unfold ij Hq;simp only[IB,A6];obtain e|e:=tf (inB b 1 6)
 .have h1:=Aa.1 e;simp only[e,AB,A4,A2];rw[A5 aJL];have:=aGD (b:=b.toNat) J J list hl 7 _ (Ce.new _) (by have:=rF (unk<|BT b.toNat noB) b.toNat;omega);rw[show((b.toNat:Nat):Int)=b by omega]at this;rw[show(dfl .str:A1)=noB from rfl,this];rfl
 .simp only[e,AH,A2,A4]
end Go.VS
end
