/- Part 8. -/
import Derived.Test.YtgjljlpdfceilaaGreatDoorQAQ
import Derived.Lib.ItoaMem
open BitVec renaming eq_of_toNat_eq->l7,ofInt->FH,toNat_ofInt->QQ
open Bool renaming and_eq_true->AD,and_false->BY,and_self->EZ,and_true->Kr,eq_iff_iff->OZ,false->A0,false_and->AM,false_ne_true->CM,false_or->Bq,not_eq_true'->CE,not_false->AG,not_true->AA,or_eq_false_iff->Mv,or_eq_true->C0,or_false->EY,or_self->GM,or_true->DN,true->Y,true_and->AR,true_or->Bt
open ByteArray renaming data_extract->YT
open Classical renaming choose->Mw,choose_spec->Ik
open Decidable renaming decide->U
open Eq renaming trans->L3
open Go.IntKind renaming wrap->Ya
open Go.Lib renaming cut->FR,decDigits->lD,index_one->TP,itoa->B2,itoa_neg->kx,splitB->Im,splitK->GQ
open Int renaming emod_eq_of_lt->lI,eq_ofNat_of_zero_le->HD,le_refl->D0,mul_comm->QK,mul_le_mul_of_nonneg_right->YV,mul_nonneg->Yd,tdiv->Ay,tdiv_eq_ediv_of_nonneg->HC,tmod->BJ,tmod_eq_emod_of_nonneg->Kq,toNat->AK,toNat_natCast->Bf
open List renaming all_eq_true->DM,append_assoc->C3,append_cancel_left->aBJ,append_nil->CK,concat_eq_append->aBC,cons_append->Ky,count_cons_self->aBE,drop->Bo,dropWhile_cons->kq,drop_append_of_le_length->TS,drop_drop->Il,drop_eq_getElem_cons->TH,drop_eq_nil_of_le->Lu,drop_left'->QP,drop_zero->Io,eq_nil_of_length_eq_zero->Du,eq_nil_or_concat->aBB,filter_append->Oi,filter_cons->K9,filter_nil->Yh,flatMap_append->lF,foldlM_cons->TW,foldl_cons->Dr,foldl_nil->K7,getD_eq_getElem?_getD->B8,getElem?_append_left->I8,getElem?_append_right->F1,getElem?_drop->Hb,getElem?_eq_getElem->Au,getElem?_eq_none->Hc,getElem?_eq_some_iff->BN,getElem?_map->D5,getElem?_range->Gh,getElem?_replicate->YQ,getElem?_set->Oj,getElem_mem->Cg,getElem_of_mem->Ct,length->JL,length->j8,length_append->Aq,length_cons->Bl,length_drop->EI,length_eq_one_iff->aBL,length_filter_le->Ij,length_map->DL,length_nil->CR,length_set->GP,length_singleton->JJ,length_take->Dg,length_zipWith->kr,map_append->Ek,map_congr_left->Gg,map_cons->DO,map_id->Yk,map_map->IE,map_nil->JM,mem_append->BL,mem_append_left->Bw,mem_cons->Bm,mem_cons_of_mem->Ai,mem_cons_self->Am,mem_filter->FQ,mem_iff_getElem->YO,mem_map->Bv,mem_of_getElem?->Cl,mem_of_mem_drop->Ku,mem_of_mem_take->I9,mem_range->Cs,mem_singleton->CN,mem_singleton_self->Od,nil_append->Eb,range->B7,range_succ->ID,replicate->BS,replicate_succ->aBH,take->BR,takeWhile_append_dropWhile->YN,takeWhile_cons->QH,takeWhile_sublist->aBK,take_add_one->JP,take_append_drop->JO,take_left'->OY,take_length->E4,take_of_length_le->K6,take_take->Yc,zipWith_cons_cons->Oc
open List.cons renaming injEq->Lt
open Nat renaming add_assoc->D6,add_comm->N6,add_zero->He,eq_zero_or_pos->TM,le_refl->Ar,le_trans->CP,lt_of_lt_of_le->Gj,lt_or_ge->GN,lt_trans->Yb,lt_trichotomy->I6,mod_eq_of_lt->OW,mod_lt->Og,pow_succ->kv,sub_self->N1,sub_zero->JN,zero_add->DZ,zero_le->Cz
open Ne renaming symm->L0
open Option renaming bind_eq_some_iff->Ag,bind_some->A6,filter_eq_some_iff->Ii,getD_some->Df,isSome_some->Dt,none->G,some->I
open Option.some renaming injEq->Bs
open Or renaming inl->N9,inr->N8
open Prod.mk renaming injEq->CL
open UInt8 renaming ofNat->K8,toNat_inj->QO
set_option linter.all false
noncomputable section
namespace Go.VS
open Go
section
variable {σ ρ β γ:Type} {b:σ->Option (σ ⊕ ρ)}
def BH{x:σ}{y:ρ}(h:b x=I (.inr y)):AZ b x=I y:=aAy (n:=1)<|by simp[Hz,h]
def Av{x x':σ}{y:ρ}(h:b x=I (.inl x'))(hy:AZ b x'=I y):AZ b x=I y:=by
 obtain⟨n,hn⟩:=aBu hy;exact aAy (n:=n+1)<|by simp[Hz,h,hn]
def Ch(st:Nat->σ)(n:Nat){y:ρ}(h:∀i,i<n->b (st i)=I (.inl<|st<|i+1))(hn:b (st n)=I (.inr y)):AZ b (st 0)=I y:=by
 have:∀k,k<=n->AZ b (st<|n - k)=I y:=by
  intro k
  induction k with
  | zero=>intro _;exact BH hn
  | succ k ih=>
   intro hk;refine Av (h (n - (k+1)) J) ?_;rw[show n - (k+1)+1=n - k by omega];exact ih J
 have:=this n<|Ar _;rwa[N1]at this
def avd(Inv:Nat->σ->Prop)(NT:ρ->Prop)(n:Nat)(ni:∀i s,i<n->Inv i s->(∃s',b s=I (.inl s')/\Inv (i+1) s')\/(∃r,b s=I (.inr r)/\NT r))
  (oH:∀s,Inv n s->∃r,b s=I (.inr r)/\NT r){s0:σ}(h0:Inv 0 s0):∃r,AZ b s0=I r/\NT r:=by
 have:∀k,k<=n->∀s,Inv (n - k) s->∃r,AZ b s=I r/\NT r:=by
  intro k
  induction k with
  | zero=>
   intro _ s hs;obtain⟨r,h1,h2⟩:=oH s hs;exact⟨r,BH h1,h2⟩
  | succ k ih=>
   intro hk s hs;obtain⟨s',h1,h2⟩|⟨r,h1,h2⟩:=ni _ s J hs
   .rw[show n - (k+1)+1=n - k by omega]at h2;obtain⟨r,h3,h4⟩:=ih J s' h2;exact⟨r,Av h1 h3,h4⟩
   .exact⟨r,BH h1,h2⟩
 exact this n (Ar _) s0<|by rwa[N1]
end
def Gf{β:Type}(q:Nat->Option β):Nat->Nat->Option β
 | 0,_=>G
 | k+1,i=>match q i with
  | some r=>I r
  | none=>Gf q k (i+1)
section
variable {σ β γ:Type} {b:σ->Option (σ ⊕ (β ⊕ γ))}
def aBv(st:Nat->σ)(n:Nat)(q:Nat->Option β)(fin:γ)
  (h:∀i,i<n->b (st i)=I (match q i with|none=> .inl (st<|i+1)|some r=> .inr<|.inl r))
  (hn:b (st n)=I (.inr<|.inr fin)):AZ b (st 0)=I (match Gf q n 0 with|none=> .inr fin|some r=> .inl r):=by
 have:∀k,k<=n->AZ b (st<|n - k)=I (match Gf q k (n - k) with|none=> .inr fin|some r=> .inl r):=by
  intro k
  induction k with
  | zero=>intro _;exact BH hn
  | succ k ih=>
   intro hk;have h1:=h (n - (k+1)) J;unfold Gf;cases hq:q (n - (k+1)) with
   | some r=>rw[hq]at h1;exact BH h1
   | none=>
    rw[hq]at h1;refine Av h1 ?_;rw[show n - (k+1)+1=n - k by omega];exact ih J
 have:=this n<|Ar _;rwa[N1]at this
def Lh(p:Nat->Bool):Nat->Nat->Bool
 | 0,_=>Y
 | k+1,i=>p i&&Lh p k (i+1)
def BK(n:Nat)(p:Nat->Bool):Bool:=Lh p n 0
def aDM{p:Nat->Bool}{r:β}:∀(k i:Nat),Gf (λi=>if p i then G else I r) k i=if Lh p k i then G else I r
 | 0,_=>rfl
 | k+1,i=>by
  unfold Gf Lh;cases hp:p i
  .simp
  .simpa using aDM k<|i+1
def Dv(st:Nat->σ)(n:Nat)(p:Nat->Bool)(r:β)(fin:γ)
  (h:∀i,i<n->b (st i)=I (if p i then .inl (st<|i+1) else .inr (.inl r)))
  (hn:b (st n)=I (.inr<|.inr fin)):AZ b (st 0)=I (if BK n p then .inr fin else .inl r):=by
 rw[aBv st n (λi=>if p i then G else I r) fin (λi hi=>by rw[h i hi];cases p i<;>rfl) hn,aDM,BK];cases Lh p n 0<;>rfl
def Fw(n:Nat)(p:Nat->Bool):Int:=(Gf (λi=>if p i then I (i:Int) else G) n 0).getD (-1)
def aDL{p:Nat->Bool}{f:Int->β}:∀(k i:Nat),Gf (λi=>if p i then I (f (i:Int)) else G) k i=(Gf (λi=>if p i then I (i:Int) else G) k i).map f
 | 0,_=>rfl
 | k+1,i=>by
  unfold Gf;cases hp:p i
  .simpa using aDL k (i+1)
  .simp
def jK{q:Nat->Option β}{r:β}:∀(k i:Nat),Gf q k i=I r->∃j,i<=j/\j<i+k/\q j=I r/\ ∀l,i<=l->l<j->q l=G
 | 0,_,h=>by cases h
 | k+1,i,h=>by
  unfold Gf at h;split at h
  .rename_i r' hr;cases h;exact⟨i,Ar _,J,hr,λl h1 h2=>by omega⟩
  .rename_i hr;obtain⟨j,h1,h2,h3,h4⟩:=jK k (i+1) h;exact⟨j,J,J,h3,λl h5 h6=>by
    obtain h7|h7:=GN i l
    .exact h4 l h7 h6
    .rw[show l=i by omega];exact hr⟩
def aBY{q:Nat->Option β}:∀(k i:Nat),Gf q k i=G->∀l,i<=l->l<i+k->q l=G
 | 0,_,_,l,h1,h2=>J
 | k+1,i,h,l,h1,h2=>by
  unfold Gf at h;split at h
  .cases h
  .rename_i hr;obtain h7|h7:=GN i l
   .exact aBY k (i+1) h l h7 J
   .rw[show l=i by omega];exact hr
def G6(n:Nat)(p:Nat->Bool):(Fw n p= -1/\ ∀i,i<n->p i=A0)\/ ∃i:Nat,Fw n p=i/\i<n/\p i=Y/\ ∀l,l<i->p l=A0:=by
 unfold Fw;cases h:Gf (λi=>if p i then I (i:Int) else G) n 0 with
 | none=>
  refine .inl ⟨rfl,λi hi=> ?_⟩;have:=aBY n 0 h i (Cz _) J;cases hp:p i<;>simp[hp]at this ⊢
 | some r=>
  obtain⟨j,h1,h2,h3,h4⟩:=jK n 0 h;refine .inr ⟨j, ?_,J, ?_,λl hl=> ?_⟩
  .cases hp:p j<;>simp[hp]at h3;simp[h3]
  .cases hp:p j<;>simp[hp]at h3 ⊢
  .have:=h4 l (Cz _) hl;cases hp:p l<;>simp[hp]at this ⊢
def Pm(st:Nat->σ)(n:Nat)(p:Nat->Bool)(f:Int->β)(fin:γ)
  (h:∀i,i<n->b (st i)=I (if p i then .inr (.inl<|f (i:Int)) else .inl (st<|i+1)))
  (hn:b (st n)=I (.inr<|.inr fin)):AZ b (st 0)=I (if Fw n p<0 then .inr fin else .inl (f<|Fw n p)):=by
 rw[aBv st n (λi=>if p i then I (f (i:Int)) else G) fin (λi hi=>by rw[h i hi];cases p i<;>rfl) hn,aDL];obtain⟨h1,_⟩|⟨i,h1,_⟩:=G6 n p
 .rw[h1];unfold Fw at h1;cases h2:Gf (λi=>if p i then I (i:Int) else G) n 0 with
  | none=>simp
  | some r=>
   obtain⟨j,_,_,h3,_⟩:=jK n 0 h2;cases hp:p j<;>simp[hp]at h3;rw[h2]at h1;simp at h1;omega
 .rw[h1];unfold Fw at h1;cases h2:Gf (λi=>if p i then I (i:Int) else G) n 0 with
  | none=>rw[h2]at h1;simp at h1
  | some r=>
   rw[h2]at h1;simp at h1;subst h1;simp
end
def aAE{p:Nat->Bool}:∀(k i:Nat),Lh p k i=Y↔ ∀j,i<=j->j<i+k->p j=Y
 | 0,_=>by simp only[Lh,true_iff];intro j h1 h2;omega
 | k+1,i=>by
  unfold Lh;rw[AD,aAE k<|i+1];constructor
  .rintro⟨h1,h2⟩ j h3 h4;obtain h7|h7:=GN i j
   .exact h2 j h7 J
   .rw[show j=i by omega];exact h1
  .intro h;exact⟨h i (Ar _) J,λj h1 h2=>h j J J⟩
def DB{n:Nat}{p:Nat->Bool}:BK n p=Y↔ ∀i,i<n->p i=Y:=by
 unfold BK;rw[aAE];exact⟨λh i hi=>h i (Cz _) J,λh j _ h2=>h j J⟩
def DT{A B3 Ω:Type}{f:A->Option Ω}{g:B3->Option Ω}{y:B3}:AP (I<|.inr y) f g=g y:=rfl
def Jh{A B3 Ω:Type}{f:A->Option Ω}{g:B3->Option Ω}{y:A}:AP (I<|.inl y) f g=f y:=rfl
def Bd{X Ω:Type}{f:X->Option Ω}{y:X}:BT f (I<|.inr y)=f y:=rfl
def Ny{X Ω:Type}{f:X->Option Ω}{y:Ω}:BT f (I<|.inl y)=I y:=rfl
def Aa{n:Int}(h0: -9223372036854775808<=n)(h1:n<=9223372036854775807):w64 n=n:=by
 unfold w64;rw[IntKind.wrap_i64];omega
def Mr(n:Int):w8 n=n % 256:=by
 unfold w8 Ya;simp[IntKind.signed,IntKind.bits]
def BI{i n:Nat}(h:i<n)(hn:n<=9223372036854775807):w64 ((i:Int)+1)=((i+1:Nat):Int):=by
 rw[Aa J J];omega
def OM{α:Type}(d:α)(xs:List α)(i:Nat):rd d xs (i:Int)=xs.getD i d:=rfl
def ave(i n:Nat):inb (i:Int) n=U (i<n):=by
 unfold inb;by_cases h:i<n
 .simp[h]
 .simp[h]
def AW{i n:Nat}(h:i<n):inb (i:Int) n=Y:=by rw[ave];simpa using h
abbrev L(s:A1):List UInt8:=s.data.toList
def Aw(s:A1):(L s).length=s.size:=rfl
def Fy{s t:A1}(h:L s=L t):s=t:=by
 cases s;cases t;simp[L]at h;exact congrArg _ h
def Fz(s t:A1):L (s++t)=L s++L t:=by simp[L,ByteArray.data_append]
def EB(s:A1)(a b:Nat):L (s.extract a b)=((L s).drop a).take (b - a):=by
 simp[L,YT,Array.toList_extract,List.extract_eq_take_drop]
def Bz(s t:A1):(s++t).size=s.size+t.size:=ByteArray.size_append ..
def L_B(l:List UInt8):L (B l)=l:=rfl
def BP(l:List UInt8):(B l).size=l.length:=rfl
def nD(l:List UInt8):L ⟨l.toArray⟩=l:=rfl
def Jn(s:A1)(i:Nat):bt s (i:Int)=(((L s).getD i 0).toNat:Int):=rfl
def axf(s:A1)(i:Int):0<=bt s i:=by unfold bt;omega
def axg(s:A1)(i:Int):bt s i<=255:=by
 unfold bt;have:=(s.data.toList.getD i.toNat 0).toNat_lt;omega
end Go.VS
namespace Go.VS
open Go
def avC(m:AN):Prop:=m.da.size<=1048576
def OL(h:AE):Prop:=h.got.length<=1048576/\ ∀m∈h.got,avC m
def FY(k:A8):Prop:=k.log.size<=1048576/\k.AH.length<=1048576/\ ∀h∈k.AH,OL h
def aCi(p:AL):Prop:=p.data.size<=1048576
def GC(n:A3):Prop:=n.tx.size<=1048576
def OF{α:Type}{l:List α}{i:Nat}{x d:α}(h:l[i]? =I x):l.getD i d=x:=by simp[h]
def BQ{i n:Nat}(h:i<n):U ((i:Int)<(n:Int))=Y:=by simpa using h
structure P4 (ks:List A8) (ls:List Bool) (ra:List AL) (se go:List A3):Prop where
 kl:ks.length<=1048576
 k:∀x∈ks,FY x
 l:ls.length<=1048576
 rl:ra.length<=1048576
 r:∀x∈ra,aCi x
 sl:se.length<=1048576
 s:∀x∈se,GC x
 gl:go.length<=1048576
 g:∀x∈go,GC x
@[simp] theorem HL (q:Bool):An A0 q=Y:=by cases q<;>rfl
@[simp] theorem IP (q:Bool):An Y q=q:=by cases q<;>rfl
def tf(b:Bool):b=Y\/b=A0:=by cases b<;>simp
def inB(n lo hi:Int):Bool:=U (lo<=n)&&U (n<=hi)
def AY{n lo hi:Int}:inB n lo hi=Y↔lo<=n/\n<=hi:=by simp[inB]
abbrev isN(n:Int):Bool:=inB n 0 3
@[simp] theorem EM {n lo hi:Int} :C6 (n,lo,hi,())=I ((inB n lo hi,()),()):=rfl
@[simp] theorem Hn {n lo hi:Int} :D7 (n,lo,hi,())=I ((inB n lo hi,()),()):=rfl
@[simp] theorem Je {n:Int} :FV (n,())=I ((isN n,()),()):=rfl
@[simp] theorem Jd {n:Int} :FU (n,())=I ((isN n,()),()):=rfl
abbrev tin(s:A1):Bool:=BK s.size λi=>inB (bt s i) 32 126
def Jw(s:A1):Bool:=inB s.size 1 24&&tin s
def ab3{s:A1}{i:Int}:w64 (bt s i)=bt s i:=Aa (by have:=axf s i;omega) (by have:=axg s i;omega)
@[simp] theorem ao6 {s:A1} (hs:s.size<=1048576):Nk (s,())=I ((Jw s,()),()):=by
 have h:qI (s,0,())=I (if tin s then .inr (s,()) else .inl (A0,())):=
  Dv (λi=>(s,(i:Int),())) s.size (λi=>inB (bt s i) 32 126) (A0,()) (s,()) (λi hi=>by
   unfold di;simp only[AW hi,BQ hi,ab3,EM,A6,BI hi (by omega:s.size<=9223372036854775807)];cases inB (bt s i) 32 126<;>rfl) (by simp[di])
 unfold Nk;simp only[h];unfold Jw;cases tin s<;>simp[AP]
def At(n:A3):Bool:=isN n.fr&&(isN n.to&&(inB n.nu 1 99&&(inB n.un 1 999&&Jw n.tx)))
@[simp] theorem Vh {fr nu tt un:Int} {tx:A1} (hs:tx.size<=1048576):Nn ((fr,nu,tt,un,tx,()),())=I ((At ⟨fr,nu,tt,un,tx⟩,()),()):=by
 unfold Nn At;simp only[ao6 hs,EM,Je,A6];cases isN fr<;>cases isN tt<;>cases inB nu 1 99<;>cases inB un 1 999<;>simp[An]
@[simp] theorem VZ {fr nu tt un:Int} {tx:A1} (hs:tx.size<=1048576):Nj ((fr,nu,tt,un,tx,()),())=I ((At ⟨fr,nu,tt,un,tx⟩,()),()):=by
 have h:qG ((fr,nu,tt,un,tx,()),0,())=I (if tin tx then .inr () else .inl (A0,())):=
  Dv (λi=>((fr,nu,tt,un,tx,()),(i:Int),())) tx.size (λi=>inB (bt tx i) 32 126) (A0,()) () (λi hi=>by
   unfold dZ;simp only[AW hi,BQ hi,BI hi (by omega:tx.size<=9223372036854775807)];unfold inB;by_cases h1:bt tx i<32<;>by_cases h2:126<bt tx i<;>simp[h1,h2,An]<;>omega) (by simp[dZ])
 unfold Nj At;simp only[h,Hn,Jd,A6];unfold Jw;by_cases h1:(tx.size:Int)<1<;>by_cases h2:(24:Int)<tx.size<;>cases isN fr<;>cases isN tt<;>cases inB nu 1 99<;>cases inB un 1 999<;>cases tin tx<;>simp[h1,h2,AP,inB]<;>omega
def FB(m:Mark):Bool:=isN m.mf&&(inB m.mn 1 99&&inB m.mu 1 999)
@[simp] theorem anW {a b c:Int} :fC ((a,b,c,()),())=I ((FB ⟨a,b,c⟩,()),()):=by
 unfold fC FB;simp only[EM,Je,A6];cases isN a<;>cases inB b 1 99<;>simp[An]
def bef(a b c d:Int):Bool:=U (a<c)||(U (a=c)&&U (b<d))
@[simp] theorem Rs {a b c d:Int} :LR (a,b,c,d,())=I ((bef a b c d,()),()):=rfl
@[simp] theorem WE {a b c d:Int} :ML (a,b,c,d,())=I ((bef a b c d,()),()):=rfl
def nA(l:List A3)(i:Nat):A3:=l.getD i<|dfl .note
def mA(l:List Mark)(i:Nat):Mark:=l.getD i<|dfl .mark
def Dc(l:List A3)(i:Nat): @rd A3 y7 l (i:Int)=nA l i:=rfl
def FL(l:List Mark)(i:Nat): @rd Mark aEs l (i:Int)=mA l i:=rfl
def DJ(l:List A3):Bool:=BK l.length λi=>At (nA l i)&&(U (i=0)||bef (nA l<|i - 1).fr (nA l<|i - 1).nu (nA l i).fr (nA l i).nu)
def FM(l:List Mark):Bool:=BK l.length λi=>FB (mA l i)&&(U (i=0)||bef (mA l<|i - 1).mf (mA l<|i - 1).mn (mA l i).mf (mA l i).mn)
def Td{l:List A3}(h:∀x∈l,GC x)(i:Nat):(nA l i).tx.size<=1048576:=by
 unfold nA;cases hx:l[i]? with
 | none=>simp[hx,dfl];decide
 | some x=>
  have h1:x.tx.size<=1048576:=h x<|Cl hx;rw[B8,hx];exact h1
def XL{i n:Nat}(h:i<n)(hn:n<=9223372036854775807):w64 ((i:Int) - 1)=(i:Int) - 1:=Aa J J
def xV{l:List A3}(hl:l.length<=1048576)(h:∀x∈l,GC x):VI (l,())=I ((DJ l,()),()):=by
 have h:pz (l,l,(j8 l:Int),0,())=I (if DJ l then .inr () else .inl (A0,())):=
  Dv (λi=>(l,l,(j8 l:Int),(i:Int),())) l.length (λi=>At (nA l i)&&(U (i=0)||bef (nA l<|i - 1).fr (nA l<|i - 1).nu (nA l i).fr (nA l i).nu)) (A0,()) () (λi hi=>by
   unfold dO;simp only[AW hi,BQ hi,Dc,Vh<|Td h i,A6,Rs,BI hi (by omega:l.length<=9223372036854775807)];cases i with
   | zero=>obtain h1|h1:=tf (At<|nA l 0)<;>simp only[h1]<;>simp
   | succ j=>
    rw[XL hi J,show((j+1:Nat):Int) - 1=(j:Int) by omega,AW (J:j<l.length)];simp only[Dc];obtain h1|h1:=tf (At<|nA l<|j+1)<;>obtain h2|h2:=tf (bef (nA l j).fr (nA l j).nu (nA l<|j+1).fr (nA l<|j+1).nu)<;>simp only[h1,h2]<;>simp[h2]) (by simp[dO])
 unfold VI;simp only[h];cases DJ l<;>simp[AP]
def vu{l:List A3}{Ds:Int}(hl:l.length<=1048576)(h:∀x∈l,GC x):V5 (l,Ds,())=I ((U ((j8 l:Int)<=Ds)&&DJ l,()),()):=by
 have h:pF (l,0,())=I (if DJ l then .inr () else .inl (A0,())):=
  Dv (λi=>(l,(i:Int),())) l.length (λi=>At (nA l i)&&(U (i=0)||bef (nA l<|i - 1).fr (nA l<|i - 1).nu (nA l i).fr (nA l i).nu)) (A0,()) () (λi hi=>by
   unfold cP;simp only[AW hi,BQ hi,Dc,VZ<|Td h i,A6,WE,BI hi (by omega:l.length<=9223372036854775807)];cases i with
   | zero=>obtain h1|h1:=tf (At<|nA l 0)<;>simp only[h1]<;>simp
   | succ j=>
    rw[XL hi J,show((j+1:Nat):Int) - 1=(j:Int) by omega,AW (J:j<l.length)];simp only[Dc];obtain h1|h1:=tf (At<|nA l<|j+1)<;>obtain h2|h2:=tf (bef (nA l j).fr (nA l j).nu (nA l<|j+1).fr (nA l<|j+1).nu)<;>simp only[h1,h2]<;>simp[h2]) (by simp[cP])
 unfold V5;simp only[h];by_cases hm:(j8 l:Int)<=Ds
 .rw[show U (Ds<(j8 l:Int))=A0 by simpa using hm];cases DJ l<;>simp[AP,hm]
 .rw[show U (Ds<(j8 l:Int))=Y by simpa using hm];simp[hm]
def ami{l:List Mark}(hl:l.length<=1048576):eJ (l,())=I ((FM l,()),()):=by
 have h:q7 (l,l,(j8 l:Int),0,())=I (if FM l then .inr () else .inl (A0,())):=
  Dv (λi=>(l,l,(j8 l:Int),(i:Int),())) l.length (λi=>FB (mA l i)&&(U (i=0)||bef (mA l<|i - 1).mf (mA l<|i - 1).mn (mA l i).mf (mA l i).mn)) (A0,()) () (λi hi=>by
   unfold dQ;simp only[AW hi,BQ hi,FL,anW,A6,Rs,BI hi (by omega:l.length<=9223372036854775807)];cases i with
   | zero=>obtain h1|h1:=tf (FB<|mA l 0)<;>simp only[h1]<;>simp
   | succ j=>
    rw[XL hi J,show((j+1:Nat):Int) - 1=(j:Int) by omega,AW (J:j<l.length)];simp only[FL];obtain h1|h1:=tf (FB<|mA l<|j+1)<;>obtain h2|h2:=tf (bef (mA l j).mf (mA l j).mn (mA l<|j+1).mf (mA l<|j+1).mn)<;>simp only[h1,h2]<;>simp[h2]) (by simp[dQ])
 unfold eJ;simp only[h];cases FM l<;>simp[AP]
def ajt{l:List Mark}(hl:l.length<=1048576):dB (l,())=I ((U ((j8 l:Int)<=12)&&FM l,()),()):=by
 have h:pG (l,0,())=I (if FM l then .inr () else .inl (A0,())):=
  Dv (λi=>(l,(i:Int),())) l.length (λi=>FB (mA l i)&&(U (i=0)||bef (mA l<|i - 1).mf (mA l<|i - 1).mn (mA l i).mf (mA l i).mn)) (A0,()) () (λi hi=>by
   unfold cQ FB;simp only[AW hi,BQ hi,FL,Hn,Jd,A6,WE,BI hi (by omega:l.length<=9223372036854775807)];cases i with
   | zero=>obtain h1|h1:=tf (isN (mA l 0).mf)<;>obtain h2|h2:=tf (inB (mA l 0).mn 1 99)<;>obtain h3|h3:=tf (inB (mA l 0).mu 1 999)<;>simp only[h1,h2,h3]<;>simp
   | succ j=>
    rw[XL hi J,show((j+1:Nat):Int) - 1=(j:Int) by omega,AW (J:j<l.length)];simp only[FL];obtain h1|h1:=tf (isN (mA l<|j+1).mf)<;>obtain h2|h2:=tf (inB (mA l<|j+1).mn 1 99)<;>obtain h3|h3:=tf (inB (mA l<|j+1).mu 1 999)<;>obtain h4|h4:=tf (bef (mA l j).mf (mA l j).mn (mA l<|j+1).mf (mA l<|j+1).mn)<;>simp only[h1,h2,h3]<;>simp[h4]<;>omega) (by simp[cQ])
 unfold dB;simp only[h];by_cases hm:(j8 l:Int)<=12
 .rw[show U ((12:Int)<(j8 l:Int))=A0 by simpa using hm];cases FM l<;>simp[AP,hm]
 .rw[show U ((12:Int)<(j8 l:Int))=Y by simpa using hm];simp[hm]
def AU(l:List A3)(f n:Int):Int:=Fw l.length λi=>U ((nA l i).fr=f)&&U ((nA l i).nu=n)
def Bj(l:List Mark)(f n:Int):Int:=Fw l.length λi=>U ((mA l i).mf=f)&&U ((mA l i).mn=n)
def SG{n:Nat}{p:Nat->Bool}:AP (I<|if Fw n p<0 then(.inr ():(Int×D) ⊕ D) else .inl (Fw n p,())) (λy=>I ((y.1,()),())) (λ_=>I ((-1,()),()))=I ((Fw n p,()),()):=by
 obtain⟨h,_⟩|⟨i,h,_⟩:=G6 n p
 .rw[h];rfl
 .rw[A9 J];rfl
def LQ{l:List A3}{f n:Int}(hl:l.length<=1048576):IL (l,f,n,())=I ((AU l f n,()),()):=by
 have h:qb (f,n,l,(j8 l:Int),0,())=I (if AU l f n<0 then .inr () else .inl (AU l f n,())):=
  Pm (λi=>(f,n,l,(j8 l:Int),(i:Int),())) l.length (λi=>U ((nA l i).fr=f)&&U ((nA l i).nu=n)) (λi=>(i,())) () (λi hi=>by
   unfold eG;simp only[AW hi,BQ hi,Dc,BI hi (by omega:l.length<=9223372036854775807)];by_cases h1:(nA l i).fr=f<;>by_cases h2:(nA l i).nu=n<;>simp[h1,h2]) (by simp[eG])
 unfold IL;simp only[h];exact SG
def Ja{l:List A3}{f n:Int}(hl:l.length<=1048576):G4 (l,f,n,())=I ((AU l f n,()),()):=by
 have h:pU (l,f,n,0,())=I (if AU l f n<0 then .inr () else .inl (AU l f n,())):=
  Pm (λi=>(l,f,n,(i:Int),())) l.length (λi=>U ((nA l i).fr=f)&&U ((nA l i).nu=n)) (λi=>(i,())) () (λi hi=>by
   unfold dD;simp only[AW hi,BQ hi,Dc,BI hi (by omega:l.length<=9223372036854775807)];by_cases h1:(nA l i).fr=f<;>by_cases h2:(nA l i).nu=n<;>simp[h1,h2]) (by simp[dD])
 unfold G4;simp only[h];exact SG
def Rq{l:List Mark}{f n:Int}(hl:l.length<=1048576):KU (l,f,n,())=I ((Bj l f n,()),()):=by
 have h:qd (f,n,l,(j8 l:Int),0,())=I (if Bj l f n<0 then .inr () else .inl (Bj l f n,())):=
  Pm (λi=>(f,n,l,(j8 l:Int),(i:Int),())) l.length (λi=>U ((mA l i).mf=f)&&U ((mA l i).mn=n)) (λi=>(i,())) () (λi hi=>by
   unfold eL;simp only[AW hi,BQ hi,FL,BI hi (by omega:l.length<=9223372036854775807)];by_cases h1:(mA l i).mf=f<;>by_cases h2:(mA l i).mn=n<;>simp[h1,h2]) (by simp[eL])
 unfold KU;simp only[h];exact SG
def Rf{l:List Mark}{f n:Int}(hl:l.length<=1048576):KT (l,f,n,())=I ((Bj l f n,()),()):=by
 have h:pT (l,f,n,0,())=I (if Bj l f n<0 then .inr () else .inl (Bj l f n,())):=
  Pm (λi=>(l,f,n,(i:Int),())) l.length (λi=>U ((mA l i).mf=f)&&U ((mA l i).mn=n)) (λi=>(i,())) () (λi hi=>by
   unfold dC;simp only[AW hi,BQ hi,FL,BI hi (by omega:l.length<=9223372036854775807)];by_cases h1:(mA l i).mf=f<;>by_cases h2:(mA l i).mn=n<;>simp[h1,h2]) (by simp[dC])
 unfold KT;simp only[h];exact SG
def Dz(id:Int)(fr tt:Int):Bool:= !decide (id=tt)&&(inB id fr tt||inB id tt fr)
def gu{id fr nu tt un:Int}{tx:A1}:Vt (id,(fr,nu,tt,un,tx,()),())=I ((Dz id fr tt,()),()):=by
 unfold Vt Dz;simp only[EM];by_cases h:id=tt<;>cases inB id fr tt<;>simp[h]
def fv{id fr nu tt un:Int}{tx:A1}:eZ ((fr,nu,tt,un,tx,()),id,())=I ((Dz id fr tt,()),()):=by
 unfold eZ Dz inB;by_cases h1:fr<=id
 .simp only[h1,AT,A2];congr 3;rw[OZ];simp;omega
 .have e:(U (tt<id)&&U (id<=fr))=(!decide (id=tt)&&(U (fr<=id)&&U (id<=tt)||decide (tt<=id)&&U (id<=fr))):=by
   rw[OZ];simp only[AD,C0,CE,decide_eq_true_eq,decide_eq_false_iff_not];omega
  rw[← e];simp[h1]
structure DQ (held:List A3) (marks:List Mark) (inbox:List A3):Prop where
 hl:held.length<=1048576
 h:∀x∈held,GC x
 ml:marks.length<=1048576
 il:inbox.length<=1048576
 i:∀x∈inbox,GC x
def Gy(id ti nx:Int)(held:List A3)(marks:List Mark)(i:Nat):Bool:= !(U ((nA held i).fr=id)&&U (nx<=(nA held i).nu))&&(U (ti<(nA held i).un)&&(Dz id (nA held i).fr (nA held i).to&&U (Bj marks (nA held i).fr (nA held i).nu<0)))
def J3(id ti nx:Int)(marks:List Mark)(i:Nat):Bool:=U (ti<(mA marks i).mu)&& !(U ((mA marks i).mf=id)&&U (nx<=(mA marks i).mn))
def IV(id ti nx:Int)(marks:List Mark)(inbox:List A3)(i:Nat):Bool:=U ((nA inbox i).to=id)&&(!(U ((nA inbox i).fr=id)&&U (nx<=(nA inbox i).nu))&&(!decide (ti<(nA inbox i).un)||decide (0<=Bj marks (nA inbox i).fr (nA inbox i).nu)))
def As(k:AJ):Bool:=isN k.id&&(inB k.ti 0 999&&(inB k.nx 1 100&&((U ((j8 k.held:Int)<=6)&&DJ k.held)&&((U ((j8 k.marks:Int)<=12)&&FM k.marks)&&((U ((j8 k.inbox:Int)<=6)&&DJ k.inbox)&&
 (BK k.held.length (Gy k.id k.ti k.nx k.held k.marks)&&(BK k.marks.length (J3 k.id k.ti k.nx k.marks)&&BK k.inbox.length (IV k.id k.ti k.nx k.marks k.inbox))))))))
def aqJ(l:List Mark)(f n:Int):Bj l f n= -1\/0<=Bj l f n:=by
 obtain⟨h,_⟩|⟨i,h,_⟩:=G6 l.length (λi=>U ((mA l i).mf=f)&&U ((mA l i).mn=n))
 .exact .inl h
 .exact .inr (by unfold Bj;omega)
def tfp(p:Prop):(p=True)\/(p=False):=by
 by_cases h:p
 .exact .inl (eq_true h)
 .exact .inr<|eq_false h
def sgn(n:Int):((n<0)=True/\(0<=n)=False)\/((n<0)=False/\(0<=n)=True):=by
 by_cases h:n<0
 .exact .inl ⟨eq_true h,eq_false J⟩
 .exact .inr ⟨eq_false h,eq_true J⟩
def Eg(a b:Int):((a<=b)=True/\(b<a)=False)\/((a<=b)=False/\(b<a)=True):=by
 by_cases h:a<=b
 .exact .inl ⟨eq_true h,eq_false J⟩
 .exact .inr ⟨eq_false h,eq_true J⟩
def aAq(l:List A3)(f n:Int):AU l f n= -1\/0<=AU l f n:=by
 obtain⟨h,_⟩|⟨i,h,_⟩:=G6 l.length (λi=>U ((nA l i).fr=f)&&U ((nA l i).nu=n))
 .exact .inl h
 .exact .inr (by unfold AU;omega)
def amo{id ti nx:Int}{held:List A3}{marks:List Mark}{inbox:List A3}(sm:DQ held marks inbox):
  qR ((id,ti,nx,held,marks,inbox,()),held,(held.length:Int),0,())=I (if BK held.length (Gy id ti nx held marks) then .inr ((id,ti,nx,held,marks,inbox,()),()) else .inl (A0,())):=
 Dv (λi=>((id,ti,nx,held,marks,inbox,()),held,(held.length:Int),(i:Int),())) held.length (Gy id ti nx held marks) (A0,()) ((id,ti,nx,held,marks,inbox,()),()) (λi hi=>by
  unfold eF Gy;have hl:held.length<=9223372036854775807:=by have:=sm.hl;omega
  simp only[AW hi,BQ hi,Dc,FL,Rq sm.ml,gu,A6,BI hi hl];have h4:=sgn<|Bj marks (nA held i).fr (nA held i).nu;obtain h1|h1:=tfp ((nA held i).fr=id)<;>obtain h2|h2:=tfp (nx<=(nA held i).nu)<;>obtain h3|h3:=Eg (nA held i).un ti<;>obtain h4|h4:=h4<;>obtain h5|h5:=tf (Dz id (nA held i).fr (nA held i).to)<;>simp[h1,h2,h5,h4,h3]) (by simp[eF])
def yJ{id ti nx:Int}{held:List A3}{marks:List Mark}{inbox:List A3}(sm:DQ held marks inbox):
  qQ ((id,ti,nx,held,marks,inbox,()),marks,(marks.length:Int),0,())=I (if BK marks.length (J3 id ti nx marks) then .inr ((id,ti,nx,held,marks,inbox,()),()) else .inl (A0,())):=
 Dv (λi=>((id,ti,nx,held,marks,inbox,()),marks,(marks.length:Int),(i:Int),())) marks.length (J3 id ti nx marks) (A0,()) ((id,ti,nx,held,marks,inbox,()),()) (λi hi=>by
  unfold eE J3;have hl:marks.length<=9223372036854775807:=by have:=sm.ml;omega
  simp only[AW hi,BQ hi,Dc,FL,Rq sm.ml,gu,A6,BI hi hl];obtain h1|h1:=tfp ((mA marks i).mf=id)<;>obtain h2|h2:=tfp (nx<=(mA marks i).mn)<;>obtain h3|h3:=Eg (mA marks i).mu ti<;>simp[h1,h2,h3]) (by simp[eE])
def yI{id ti nx:Int}{held:List A3}{marks:List Mark}{inbox:List A3}(sm:DQ held marks inbox):
  qP ((id,ti,nx,held,marks,inbox,()),inbox,(inbox.length:Int),0,())=I (if BK inbox.length (IV id ti nx marks inbox) then .inr () else .inl (A0,())):=
 Dv (λi=>((id,ti,nx,held,marks,inbox,()),inbox,(inbox.length:Int),(i:Int),())) inbox.length (IV id ti nx marks inbox) (A0,()) () (λi hi=>by
  unfold eC IV;have hl:inbox.length<=9223372036854775807:=by have:=sm.il;omega
  simp only[AW hi,BQ hi,Dc,FL,Rq sm.ml,gu,A6,BI hi hl];have h4:=sgn<|Bj marks (nA inbox i).fr (nA inbox i).nu;obtain h1|h1:=tfp ((nA inbox i).fr=id)<;>obtain h2|h2:=tfp (nx<=(nA inbox i).nu)<;>obtain h3|h3:=Eg (nA inbox i).un ti<;>obtain h0|h0:=tfp ((nA inbox i).to=id)<;>obtain h4|h4:=h4<;>simp[h1,h2,h0,h4,h3]) (by simp[eC])
def alj{id ti nx:Int}{held:List A3}{marks:List Mark}{inbox:List A3}(sm:DQ held marks inbox):
  qM ((id,ti,nx,held,marks,inbox,()),0,())=I (if BK held.length (Gy id ti nx held marks) then .inr ((id,ti,nx,held,marks,inbox,()),()) else .inl (A0,())):=
 Dv (λi=>((id,ti,nx,held,marks,inbox,()),(i:Int),())) held.length (Gy id ti nx held marks) (A0,()) ((id,ti,nx,held,marks,inbox,()),()) (λi hi=>by
  unfold dq Gy;have hl:held.length<=9223372036854775807:=by have:=sm.hl;omega
  simp only[AW hi,BQ hi,Dc,FL,Rf sm.ml,fv,A6,BI hi hl];have h4:=sgn<|Bj marks (nA held i).fr (nA held i).nu;obtain h1|h1:=tfp ((nA held i).fr=id)<;>obtain h2|h2:=tfp (nx<=(nA held i).nu)<;>obtain h3|h3:=Eg (nA held i).un ti<;>obtain h4|h4:=h4<;>obtain h5|h5:=tf (Dz id (nA held i).fr (nA held i).to)<;>simp[h1,h2,h5,h4,h3]) (by simp[dq])
def xb{id ti nx:Int}{held:List A3}{marks:List Mark}{inbox:List A3}(sm:DQ held marks inbox):
  qL ((id,ti,nx,held,marks,inbox,()),0,())=I (if BK marks.length (J3 id ti nx marks) then .inr ((id,ti,nx,held,marks,inbox,()),()) else .inl (A0,())):=
 Dv (λi=>((id,ti,nx,held,marks,inbox,()),(i:Int),())) marks.length (J3 id ti nx marks) (A0,()) ((id,ti,nx,held,marks,inbox,()),()) (λi hi=>by
  unfold dp J3;have hl:marks.length<=9223372036854775807:=by have:=sm.ml;omega
  simp only[AW hi,BQ hi,Dc,FL,Rf sm.ml,fv,A6,BI hi hl];obtain h1|h1:=tfp ((mA marks i).mf=id)<;>obtain h2|h2:=tfp (nx<=(mA marks i).mn)<;>obtain h3|h3:=Eg (mA marks i).mu ti<;>simp[h1,h2,h3]) (by simp[dp])
def xa{id ti nx:Int}{held:List A3}{marks:List Mark}{inbox:List A3}(sm:DQ held marks inbox):
  qK ((id,ti,nx,held,marks,inbox,()),0,())=I (if BK inbox.length (IV id ti nx marks inbox) then .inr () else .inl (A0,())):=
 Dv (λi=>((id,ti,nx,held,marks,inbox,()),(i:Int),())) inbox.length (IV id ti nx marks inbox) (A0,()) () (λi hi=>by
  unfold dm IV;have hl:inbox.length<=9223372036854775807:=by have:=sm.il;omega
  simp only[AW hi,BQ hi,Dc,FL,Rf sm.ml,fv,A6,BI hi hl];have h4:=sgn<|Bj marks (nA inbox i).fr (nA inbox i).nu;obtain h1|h1:=tfp ((nA inbox i).fr=id)<;>obtain h2|h2:=tfp (nx<=(nA inbox i).nu)<;>obtain h3|h3:=Eg (nA inbox i).un ti<;>obtain h0|h0:=tfp ((nA inbox i).to=id)<;>obtain h4|h4:=h4<;>simp[h1,h2,h0,h4,h3]) (by simp[dm])
def gn{id ti nx:Int}{held:List A3}{marks:List Mark}{inbox:List A3}(sm:DQ held marks inbox):Pa ((id,ti,nx,held,marks,inbox,()),())=I ((As ⟨id,ti,nx,held,marks,inbox⟩,()),()):=by
 unfold Pa As;simp only[EM,Je,xV sm.hl sm.h,xV sm.il sm.i,ami sm.ml,amo sm,yJ sm,yI sm,A6];obtain h1|h1:=tf (isN id)<;>simp only[h1,AA,AG,A2,AM,AR,A4];obtain h2|h2:=tf (inB ti 0 999)<;>simp only[h2,AA,AG,A2,AM,AR,A4];obtain h3|h3:=tf (inB nx 1 100)<;>simp only[h3,AA,AG,A2,AM,AR,A4];obtain h4|h4:=Eg (held.length:Int) 6<;>obtain h5|h5:=Eg (marks.length:Int) 12<;>obtain h6|h6:=Eg (inbox.length:Int) 6<;>simp only[h4,h5,h6,AT,Ae,A2,AM,BY,AR,A4];obtain h7|h7:=tf (DJ held)<;>obtain h8|h8:=tf (FM marks)<;>obtain h9|h9:=tf (DJ inbox)<;>simp only[h7,h8,h9,AA,AG,A2,AM,BY,AR,A4];obtain h10|h10:=tf (BK held.length<|Gy id ti nx held marks)<;>obtain h11|h11:=tf (BK marks.length<|J3 id ti nx marks)<;>obtain h12|h12:=tf (BK inbox.length<|IV id ti nx marks inbox)<;>simp only[h10,h11,h12,A2,DT,Jh,A4,yJ sm,yI sm]<;>rfl
def fy{id ti nx:Int}{held:List A3}{marks:List Mark}{inbox:List A3}(sm:DQ held marks inbox):PX ((id,ti,nx,held,marks,inbox,()),())=I ((As ⟨id,ti,nx,held,marks,inbox⟩,()),()):=by
 unfold PX As;simp only[Hn,Jd,vu sm.hl sm.h,vu sm.il sm.i,ajt sm.ml,alj sm,xb sm,xa sm,A6];obtain h1|h1:=tf (isN id)<;>simp only[h1,AA,AG,A2,AM,AR,A4];obtain h2|h2:=tf (inB ti 0 999)<;>simp only[h2,AA,AG,A2,AM,AR,A4];obtain h3|h3:=tf (inB nx 1 100)<;>simp only[h3,AA,AG,A2,AM,AR,A4];obtain h7|h7:=tf (U ((held.length:Int)<=6)&&DJ held)<;>obtain h8|h8:=tf (U ((marks.length:Int)<=12)&&FM marks)<;>obtain h9|h9:=tf (U ((inbox.length:Int)<=6)&&DJ inbox)<;>simp only[h7,h8,h9,AA,AG,A2,AM,BY,AR,A4];obtain h10|h10:=tf (BK held.length<|Gy id ti nx held marks)<;>obtain h11|h11:=tf (BK marks.length<|J3 id ti nx marks)<;>obtain h12|h12:=tf (BK inbox.length<|IV id ti nx marks inbox)<;>simp only[h10,h11,h12,A2,DT,Jh,A4,xb sm,xa sm]<;>rfl
def Lg{α:Type}{l:List α}{d:α}(hl:l.length<=1048576):
  (if U ((j8 l:Int)=0) then I ((([]:List α),()),()) else if U (0<=(j8 l:Int))&&U ((j8 l:Int)<=4294967296) then I (((BR (BS (AK (j8 l:Int)) d).length l++Bo l.length (BS (AK (j8 l:Int)) d)),()),()) else G)=I ((l,()),()):=by
 by_cases h:(j8 l:Int)=0
 .have:l=[]:=Du J;subst this;rfl
 .have h1:(j8 l:Int)<=4294967296:=J
  have h2:0<=(j8 l:Int):=J
  simp[h1]
def ax{l:List A3}(hl:l.length<=1048576):NY (l,())=I ((l,()),()):=Lg hl
def ag3{l:List Mark}(hl:l.length<=1048576):q9 (l,())=I ((l,()),()):=Lg hl
def oh{l:List A1}(hl:l.length<=1048576):R6 (l,())=I ((l,()),()):=Lg hl
def vk{id ti nx:Int}{held:List A3}{marks:List Mark}{inbox:List A3}(sm:DQ held marks inbox):RZ ((id,ti,nx,held,marks,inbox,()),())=I (((id,ti,nx,held,marks,inbox,()),()),()):=by
 unfold RZ;simp only[ax sm.hl,ag3 sm.ml,ax sm.il,A6]
def BD{n:Nat}(h:n<=4294967296):Ab n=Y:=by simpa[Ab] using h
def xW{id ti nx:Int}{held:List A3}{marks:List Mark}{inbox:List A3}(sm:DQ held marks inbox):Rg ((id,ti,nx,held,marks,inbox,()),())=I (((id,ti,nx,held,marks,inbox,()),()),()):=by
 unfold Rg;have h1:=sm.hl;have h2:=sm.ml;have h3:=sm.il;simp only[CR,DZ,Eb,BD (J:held.length<=4294967296),BD (J:marks.length<=4294967296),BD (J:inbox.length<=4294967296),A2]
def aiT{id:Int}:cL (id,())=I ((if isN id then(id,0,1,[],[],[],()) else(0,0,0,[],[],[],()),()),()):=by
 unfold cL;simp only[Je,A6];cases isN id<;>rfl
def aiB{id:Int}:br (id,())=I ((if isN id then(id,0,1,[],[],[],()) else(0,0,0,[],[],[],()),()),()):=by
 unfold br;simp only[Jd,A6];cases isN id<;>rfl
end Go.VS
end
noncomputable section
namespace Go.VS
open Go
def avo{A R:Type}{t:(A->Option R)->A->Option R}{x:A}{v:R}(hv:∀k r,Bh t k x=I r->r=v)(he:∃k,Bh t k x=I v):NK t x=I v:=by
 cases h:NK t x with
 | none=>
  exfalso;obtain⟨k,hk⟩:=he;unfold NK at h;rw[dif_pos ⟨k,v,hk⟩]at h;cases h
 | some r=>
  obtain⟨k,hk⟩:=aC7 h;rw[hv k r hk]
def jS{σ β γ:Type}{b:σ->Option (σ ⊕ (β ⊕ γ))}(st:Nat->σ)(n:Nat)(p:Nat->Bool)(r:β)(fin:γ)
  (h:∀i,i<n->(∀j,j<i->p j=Y)->b (st i)=I (if p i then .inl (st<|i+1) else .inr (.inl r)))
  (hn:(∀j,j<n->p j=Y)->b (st n)=I (.inr<|.inr fin)):AZ b (st 0)=I (if BK n p then .inr fin else .inl r):=by
 have:∀k,k<=n->(∀j,j<n - k->p j=Y)->AZ b (st<|n - k)=I (if Lh p k (n - k) then .inr fin else .inl r):=by
  intro k
  induction k with
  | zero=>intro _ hp;exact BH<|hn hp
  | succ k ih=>
   intro hk hp;have h1:=h (n - (k+1)) J hp;unfold Lh;obtain hq|hq:=tf (p<|n - (k+1))
   .rw[hq]at h1;rw[hq,AR];refine Av h1 ?_;rw[show n - (k+1)+1=n - k by omega];exact ih J (λj hj=>by
     obtain h2|h2:=GN j (n - (k+1))
     .exact hp j h2
     .rw[show j=n - (k+1) by omega];exact hq)
   .rw[hq]at h1;rw[hq,AM];exact BH h1
 have:=this n (Ar _) (λj hj=>by omega);rwa[N1]at this
abbrev dcm(u:Nat):List UInt8:=lD u
def KZ{u:Nat}(h:u<10):dcm u=[K8 (48+u)]:=Lib.decDigits_one h
def Mi{u:Nat}(h:¬u<10):dcm u=dcm (u / 10)++[K8 (48+u % 10)]:=by rw[dcm,lD,dif_neg h]
def Lf:∀(k u:Nat),1<=k->u<10 ^ k->(dcm u).length<=k
 | 0,_,h,_=>J
 | 1,u,_,h=>by rw[KZ J];simp
 | k+2,u,_,h=>by
  by_cases h1:u<10
  .rw[KZ h1];simp
  .rw[Mi h1];have:=Lf (k+1) (u / 10) J (by rw[kv]at h;omega);simp;omega
def J4(u:Nat):B2 (u:Int)=dcm u:=Lib.itoa_nonneg u
def BX(n:Int):A1:=⟨(B2 n).toArray⟩
def kH{n:Nat}(h:n<10):BF [w8<|w64<|48+(n:Int)]=⟨(dcm n).toArray⟩:=by
 rw[KZ h,Aa J J,Mr,show(48+(n:Int)) % 256=((48+n:Nat):Int) by omega];rfl
def aCw(u:Nat):Ay (u:Int) 10=((u / 10:Nat):Int):=rfl
def aCr(u:Nat):BJ (u:Int) 10=((u % 10:Nat):Int):=rfl
def kI(u:Nat):BF [w8<|w64<|48+((u % 10:Nat):Int)]=⟨[K8 (48+u % 10)].toArray⟩:=by
 rw[kH J,KZ J]
def mY(a b:List UInt8):(⟨a.toArray⟩:A1)++⟨b.toArray⟩=⟨(a++b).toArray⟩:=by
 apply Fy;rw[Fz]
def aqB:lD 9223372036854775808=[57,50,50,51,51,55,50,48,51,54,56,53,52,55,55,53,56,48,56]:=by
 show dcm _=_
 repeat (first|rw[KZ J]|rw[Mi J])
 rfl
def Ww:∀(k:Nat) (n:Int),-9223372036854775808<=n->n<=9223372036854775807->∀r,Bh (λg=>GY g) k (n,())=I r->r=((BX n,()),())
 | 0,_,_,_,r,h=>by cases h
 | k+1,n,h0,h1,r,h=>by
  have ih:=Ww k
  replace h:GY (Bh (λg=>GY g) k) (n,())=I r:=h
  generalize Bh (λg=>GY g) k=GJ at ih h;unfold GY at h;by_cases hn:n < -9223372036854775807
  .simp only[hn,AT,A2]at h;cases h;obtain rfl:n= -9223372036854775808:=J
   have:BX (-9223372036854775808)=B [45,57,50,50,51,51,55,50,48,51,54,56,53,52,55,55,53,56,48,56]:=by
    apply Fy;show B2 (-9223372036854775808)=_;rw[show(-9223372036854775808:Int)= -((9223372036854775808:Nat):Int) by rfl,kx _ J];rw[L_B];rw[aqB]
   rw[this]
  .rw[A9<|by simpa using hn]at h;by_cases NO:n<0
   .rw[A5<|by simpa using NO]at h;simp only at h;rw[Aa J J]at h;obtain⟨r4,e4,h⟩:=Ag.1 h;have:=ih (0 - n) J J r4 e4;subst this;split at h
    .cases h;obtain⟨u,hu⟩:=HD (J:0<= -n);obtain rfl:n= -(u:Int):=J
     have:BX (-(u:Int))=B [45]++BX (0 - -(u:Int)):=by
      unfold BX;rw[kx _ J,show(0:Int) - -(u:Int)=(u:Int) by omega,J4];rw[B,mY];rfl
     rw[this]
    .cases h
   .rw[A9<|by simpa using NO]at h;obtain⟨u,hu⟩:=HD (J:0<=n);obtain rfl:n=(u:Int):=hu;by_cases hs:u<10
    .rw[A5 o5]at h;simp only at h;cases h;rw[kH hs,BX,J4]
    .rw[A9 o5]at h;simp only[aCw,aCr]at h;rw[Aa J J]at h;obtain⟨r7,e7,h⟩:=Ag.1 h;have:=ih ((u / 10:Nat):Int) J J r7 e7;subst this;split at h
     .cases h;rw[kI,BX,BX,J4,J4,mY,← Mi hs]
     .cases h
def jd:∀(k u:Nat),1<=k->k<=19->u<10 ^ k->u<=9223372036854775807->Bh (λg=>GY g) k ((u:Int),())=I ((⟨(dcm u).toArray⟩,()),())
 | 0,_,h,_,_,_=>J
 | k+1,u,_,hk,h,h63=>by
  have e1:U ((u:Int) < -9223372036854775807)=A0:=by simp
  have e2:U ((u:Int)<0)=A0:=by simp
  have ih:=jd k<|u / 10;show GY (Bh (λg=>GY g) k) _=_;generalize Bh (λg=>GY g) k=GJ at ih;unfold GY;simp only[e1,e2,aCw,aCr,A4];by_cases hs:u<10
  .rw[A5 o5,kH hs]
  .rw[A9 o5,Aa J J];have hk0:1<=k:=by
    obtain rfl|h':=TM k
    .simp at h;omega
    .exact h'
   have hlt:u / 10<10 ^ k:=by rw[kv]at h;omega
   have hl:=Lf k (u / 10) hk0 hlt;rw[ih hk0 J hlt J];simp only[A6];rw[A5,kI,mY,← Mi hs];have:(⟨(dcm<|u / 10).toArray⟩:A1).size=(dcm<|u / 10).length:=rfl;rw[decide_eq_true_eq,this,kI];show _+1<=_;omega
def Fm{n:Int}(h0: -9223372036854775808<=n)(h1:n<=9223372036854775807):DP (n,())=I ((BX n,()),()):=by
 refine avo (λk r h=>Ww k n h0 h1 r h) ?_;have oK:∀u:Nat,u<=9223372036854775807->u<10 ^ 19:=λu hu=>J
 by_cases hn:n < -9223372036854775807
 .refine⟨1, ?_⟩;cases h:Bh (λg=>GY g) 1 (n,()) with
  | none=>simp only[Bh]at h;unfold GY at h;rw[A5<|by simpa using hn]at h;cases h
  | some r=>rw[Ww 1 n h0 h1 r h]
 .by_cases NO:n<0
  .refine⟨20, ?_⟩;cases h:Bh (λg=>GY g) 20 (n,()) with
   | none=>
    obtain⟨u,hu⟩:=HD (J:0<= -n);have ih:=jd 19 u J J (oK u J) J
    replace h:GY (Bh (λg=>GY g) 19) (n,())=G:=h
    generalize Bh (λg=>GY g) 19=GJ at ih h;unfold GY at h;rw[A9<|by simpa using hn,A5<|by simpa using NO]at h;simp only at h;rw[Aa J J,show 0 - n=(u:Int) by omega,ih]at h;simp only[A6]at h;rw[A5]at h
    .cases h
    .have hl:=Lf 19 u J<|oK u J;have e:(⟨(dcm u).toArray⟩:A1).size=(dcm u).length:=rfl;rw[decide_eq_true_eq,e];show 1+_<=_;omega
   | some r=>rw[Ww 20 n h0 h1 r h]
  .obtain⟨u,hu⟩:=HD (J:0<=n);obtain rfl:n=(u:Int):=hu;exact⟨19,by rw[jd 19 u J J (oK u J) J,BX,J4]⟩
def J8{n:Int}(h0: -9223372036854775808<=n)(h1:n<=9223372036854775807):Iy (n,())=I ((BX n,()),()):=by
 show Tk _=_;unfold Tk;rw[A5 ⟨h0,h1⟩];rfl
def dig(b:UInt8):Bool:=inB (b.toNat:Int) 48 57
def val(l:List UInt8):Nat:=l.foldl (λa b=>10 * a+(b.toNat - 48)) 0
def XM(l:List UInt8)(b:UInt8):val (l++[b])=10 * val l+(b.toNat - 48):=by simp[val]
def arF{l:List UInt8}{i:Nat}(h:i<l.length):l.take (i+1)=l.take i++[l.getD i 0]:=by
 rw[JP,Au h];simp[h]
def Yu:∀(k:Nat) (l:List UInt8),l.length<=k->(∀b∈l,dig b=Y)->val l<10 ^ k:=by
 intro k
 induction k with
 | zero=>
  intro l hl _;obtain rfl:l=[]:=Du J;decide
 | succ k ih=>
  intro l hl hd;obtain rfl|⟨m,b,rfl⟩:=aBB l
  .exact Nat.pow_pos aEp
  .simp at hl hd;have h1:=ih m J (λx hx=>hd x<|.inl hx);have h2:=hd b<|.inr rfl;rw[aBC,XM,kv];have h3:=AY.1 h2;omega
def av1{m:List UInt8}:∀ {b:UInt8},dig b=Y->b≠48->(∀x∈m,dig x=Y)->1<=val (b::m):=by
 intro b hb hne hd;have h0:1<=val [b]:=by
  have:=AY.1 hb;have hn:b.toNat≠48:=λh=>hne<|QO.1 h;simp[val];omega
 have:∀(m:List UInt8) (a:Nat),1<=a->1<=m.foldl (λa b=>10 * a+(b.toNat - 48)) a:=by
  intro m
  induction m with
  | nil=>intro a h;exact h
  | cons x m ih=>intro a h;exact ih _<|show 1<=10 * a+(x.toNat - 48) by omega
 exact this m _<|by simpa[val] using h0
def JF(l:List UInt8):Bool:=match l with
 | []=>A0
 | [_]=>Y
 | b::_::_=> !decide (b=48)
def aaj:∀(k:Nat) (l:List UInt8),l.length=k->(∀b∈l,dig b=Y)->JF l=Y->dcm (val l)=l:=by
 intro k
 induction k with
 | zero=>intro l hl _ h;obtain rfl:l=[]:=Du hl;cases h
 | succ k ih=>
  intro l hl hd acL;obtain rfl|⟨m,b,rfl⟩:=aBB l
  .cases acL
  .rw[aBC]at *;simp at hl;have hb:=hd b y9;have hb2:=AY.1 hb;have hof:∀n,b.toNat=n->K8 n=b:=λn h=>by rw[← h];simp
   cases m with
   | nil=>
    have:val ([]++[b])=b.toNat - 48:=by simp[val]
    rw[this,KZ J,hof _ J];rfl
   | cons c m=>
    have hc:c≠48:=by
     cases m<;>simpa[JF] using acL
    have h1:=av1 (m:=m) (hd c y9) hc (λx hx=>hd x<|by simp[hx]);rw[XM,Mi J,show(10 * val (c::m)+(b.toNat - 48)) / 10=val (c::m) by omega,show(10 * val (c::m)+(b.toNat - 48)) % 10=b.toNat - 48 by omega,
     ih (c::m) hl (λx hx=>hd x<|Bw _ hx) (by cases m<;>simp[JF,hc]),hof _ J]
def Xw:∀(k u:Nat),u<k->∀b∈dcm u,dig b=Y:=by
 intro k
 induction k with
 | zero=>intro u h;omega
 | succ k ih=>
  intro u h b hb;have hd:∀n,n<10->dig (K8<|48+n)=Y:=λn hn=>by
   have:(K8<|48+n).toNat=48+n:=by simp;omega
   unfold dig;rw[this];exact AY.2 ⟨J,J⟩
  by_cases hu:u<10
  .rw[KZ hu]at hb;obtain rfl:=CN.1 hb;exact hd u hu
  .rw[Mi hu]at hb;obtain hb|hb:=BL.1 hb
   .exact ih (u / 10) J b hb
   .obtain rfl:=CN.1 hb;exact hd _ J
def Xz:∀(k u:Nat),u<k->val (dcm u)=u:=by
 intro k
 induction k with
 | zero=>intro u h;omega
 | succ k ih=>
  intro u h;by_cases hu:u<10
  .rw[KZ hu];have:(K8<|48+u).toNat=48+u:=by simp;omega
   simp only[val,Dr,K7,this];omega
  .rw[Mi hu,XM,ih (u / 10) J];have:(K8<|48+u % 10).toNat=48+u % 10:=by simp;omega
   rw[this];omega
def mR(u:Nat):dcm u≠[]:=by
 by_cases hu:u<10
 .rw[KZ hu];simp
 .rw[Mi hu];simp
def aDx:∀(k u:Nat),u<k->JF (dcm u)=Y/\(1<=u->∃b m,dcm u=b::m/\b≠48):=by
 intro k
 induction k with
 | zero=>intro u h;omega
 | succ k ih=>
  intro u h;by_cases hu:u<10
  .rw[KZ hu];refine⟨rfl,λh1=>⟨_,_,rfl,λh2=> ?_⟩⟩;have:(K8<|48+u).toNat=48+u:=by simp;omega
   rw[h2]at this;simp at this;omega
  .obtain⟨b,m,h1,h2⟩:=(ih (u / 10) J).2 J;rw[Mi hu,h1];refine⟨?_,λ_=>⟨b,_,rfl,h2⟩⟩;cases m<;>simp[JF,h2]
def K3(l:List UInt8):Option Nat:=if l.all dig&&JF l then I (val l) else G
def Pw{l:List UInt8}{n:Nat}:K3 l=I n↔l=dcm n:=by
 unfold K3;constructor
 .intro h;split at h
  .rename_i hc;simp at hc;cases h;exact(aaj _ l rfl hc.1 hc.2).symm
  .cases h
 .rintro rfl;rw[A5,Xz (n+1) n J];simp only[AD,DM];exact⟨Xw (n+1) n J,(aDx (n+1) n J).1⟩
def ax8{s:A1}{i:Nat}:inB (bt s i) 48 57=dig ((L s).getD i 0):=rfl
def aar{l:List UInt8}{f:UInt8->Bool}:BK l.length (λi=>f<|l.getD i 0)=l.all f:=by
 rw[OZ,DB,DM];constructor
 .intro h x hx;obtain⟨i,hi,rfl⟩:=Ct hx;have:=h i hi;simpa[hi] using this
 .intro h i hi;simpa[hi] using h _<|Cg hi
def aAW{s:A1}{i:Nat}(h:∀j,j<i->inB (bt s j) 48 57=Y)(hi:i<=s.size):∀b∈(L s).take i,dig b=Y:=by
 intro b hb;obtain⟨j,hj,rfl⟩:=Ct hb;simp at hj;have h1:=h j J;rw[ax8]at h1;have h2:j<(L s).length:=by rw[Aw];omega
 rw[List.getElem_take];have e:(L s).getD j 0=(L s)[j]:=by rw[B8,Au h2];rfl
 rwa[e]at h1
def aCo{s:A1}{i:Nat}(hi:i<s.size):val ((L s).take<|i+1)=10 * val ((L s).take i)+(((L s).getD i 0).toNat - 48):=by
 rw[arF (by rw[Aw];exact hi),XM]
def Ap(s:A1):Int×Bool:=if s.size<=5 then(match K3 (L s) with|some n=>((n:Int),Y)|none=>(0,A0)) else(0,A0)
def awJ{s:A1}(h:1<=s.size):JF (L s)= !(U (bt s 0=48)&&U (1<(s.size:Int))):=by
 rw[show s.size=(L s).length from rfl]at *;unfold bt;show _= !(U ((((L s).getD 0 0).toNat:Int)=48)&&_);generalize L s=l at *
 match l with
 | []=>simp at h
 | [b]=>simp[JF]
 | b::c::m=>
  have:(((b:UInt8).toNat:Int)=48)↔b=48:=⟨λh=>QO.1 (by show b.toNat=48;omega),λh=>by subst h;rfl⟩;simp only[JF,List.getD_cons_zero,this];simp;omega
def aAH(s:A1):(L s).take s.size=L s:=K6 (by rw[Aw];exact Ar _)
def eH{s:A1}(hs:s.size<=9223372036854775807):PT (s,())=I (((Ap s).1,(Ap s).2,()),()):=by
 unfold PT Ap;simp only[EM,A6];by_cases h5:s.size<=5
 .by_cases h1:1<=s.size
  .have e1:inB (s.size:Int) 1 5=Y:=AY.2 ⟨J,J⟩;have e2:inb 0 s.size=Y:=by have:=AW (J:0<s.size);simpa using this
   have Gq:q6 (s,0,0,())=I (if BK s.size (λi=>inB (bt s i) 48 57) then .inr ((val (L s):Int),()) else .inl (0,A0,())):=by
    rw[← aAH s];refine jS (λi=>(s,(val ((L s).take i):Int),(i:Int),())) s.size (λi=>inB (bt s i) 48 57) (0,A0,()) ((val ((L s).take s.size):Int),()) (λi hi hp=> ?_) (λ_=>by simp[dP]);unfold dP;simp only[AW hi,BQ hi,ab3,EM,A6,BI hi (by omega:s.size<=9223372036854775807)];obtain h|h:=tf (inB (bt s i) 48 57)
    .have hv:=Yu 5 _ o5<|aAW hp J;have hb:=AY.1 h;have e:w64 (w64 (10 * (val ((L s).take i):Int))+w64 (w8<|bt s i - 48))=(val ((L s).take<|i+1):Int):=by
      rw[aCo hi,Mr,Aa (n:=10 * _) J J,lI J J,Aa (n:=bt s i - 48) J J,Aa J J];rw[Jn]at hb ⊢;omega
     simp only[h,e];rfl
    .simp only[h];rfl
   rw[e1,e2,A5 h5];simp only[Gq,AA,AG,Bq,IP,A2];have Is:BK s.size (λi=>inB (bt s i) 48 57)=(L s).all dig:=aar (l:=L s) (f:=dig);rw[Is];unfold K3;rw[awJ h1];obtain h|h:=tf (U (bt s 0=48)&&U (1<(s.size:Int)))
   .rw[h];simp
   .rw[h];obtain h'|h':=tf ((L s).all dig)
    .rw[h'];rfl
    .rw[h'];rfl
  .have e1:inB (s.size:Int) 1 5=A0:=by simp[inB];omega
   have:L s=[]:=Du (by rw[Aw];omega);rw[e1,A5 h5,this];simp[K3,JF]
 .have e1:inB (s.size:Int) 1 5=A0:=by simp[inB];omega
  rw[e1,A9 h5];simp
def Ac(s:A1):Int:=if s.size<=4 then(match K3 (L s) with|some n=>(n:Int)|none=> -1) else -1
def aDy(u:Nat):BX (u:Int)=⟨(dcm u).toArray⟩:=by rw[BX,J4]
def gw{s:A1}(hs:s.size<=9223372036854775807):Pb (s,())=I ((Ac s,()),()):=by
 unfold Pb Ac;by_cases h5:s.size<=4
 .by_cases h1:1<=s.size
  .have e1:(U ((s.size:Int)<1)||decide (4<(s.size:Int)))=A0:=by simp;omega
   have Gq:ql (s,0,0,())=I (if BK s.size (λi=>inB (bt s i) 48 57) then .inr (s,(val (L s):Int),()) else .inl (-1,())):=by
    rw[← aAH s];refine jS (λi=>(s,(val ((L s).take i):Int),(i:Int),())) s.size (λi=>inB (bt s i) 48 57) (-1,()) (s,(val ((L s).take s.size):Int),()) (λi hi hp=> ?_) (λ_=>by simp[eW]);unfold eW;simp only[AW hi,BQ hi,BI hi (by omega:s.size<=9223372036854775807)];obtain h|h:=tf (inB (bt s i) 48 57)
    .have hv:=Yu 5 _ o5<|aAW hp J;have hb:=AY.1 h;have e:w64 (w64 ((val ((L s).take i):Int) * 10)+w64 (w8<|bt s i - 48))=(val ((L s).take<|i+1):Int):=by
      rw[aCo hi,Mr,Aa (n:=_ * 10) J J,lI J J,Aa (n:=bt s i - 48) J J,Aa J J];rw[Jn]at hb ⊢;omega
     have e2:U (bt s i<48)=A0:=by simp;omega
     have e3:U (57<bt s i)=A0:=by simp;omega
     simp only[h,e,e2,e3];rfl
    .have hb:bt s i<48\/57<bt s i:=by
      have:=mt AY.2 (by rw[h];simp);omega
     simp only[h];obtain hb|hb:=hb
     .simp[hb]
     .have:¬bt s i<48:=J
      simp[hb,this]
   rw[e1,A5 h5];simp only[Gq,A4];have Is:BK s.size (λi=>inB (bt s i) 48 57)=(L s).all dig:=aar (l:=L s) (f:=dig);rw[Is];unfold K3;obtain h'|h':=tf ((L s).all dig)
   .have hd:=DM.1 h';have hv:=Yu 5 (L s) (by rw[Aw];omega) hd;simp only[h',A2,DT,AR,Fm (n:=(val (L s):Int)) J J,A6,aDy];obtain hl|hl:=tf (JF<|L s)
    .have:(⟨(dcm<|val<|L s).toArray⟩:A1)=s:=by
      apply Fy;rw[nD,aaj _ _ rfl hd hl]
     simp[this,hl]
    .have:¬(⟨(dcm<|val<|L s).toArray⟩:A1)=s:=λh=>by
      have h2:=congrArg L h;rw[nD]at h2;rw[← h2,(aDx (val (L s)+1) _ J).1]at hl;cases hl
     simp[this,hl]
   .rw[h'];rfl
  .have e1:(U ((s.size:Int)<1)||decide (4<(s.size:Int)))=Y:=by simp;omega
   have:L s=[]:=Du (by rw[Aw];omega);rw[e1,A5 h5,this];simp[K3,JF]
 .have e1:(U ((s.size:Int)<1)||decide (4<(s.size:Int)))=Y:=by simp;omega
  rw[e1,A9 h5];simp
def atj{s:A1}{n:Nat}:Ap s=((n:Int),Y)↔s.size<=5/\L s=dcm n:=by
 unfold Ap;by_cases h:s.size<=5
 .rw[A5 h];constructor
  .intro h2;cases h3:K3 (L s) with
   | none=>rw[h3]at h2;cases h2
   | some m=>
    rw[h3]at h2;simp at h2;exact⟨h,by rw[Pw.1 h3,show m=n by omega]⟩
  .rintro⟨_,h2⟩;rw[Pw.2 h2]
 .rw[A9 h];constructor
  .intro h2;cases h2
  .rintro⟨h2,_⟩;exact absurd h2 h
def S2(s:A1):Ap s=(0,A0)\/ ∃n:Nat,Ap s=((n:Int),Y)/\s.size<=5/\L s=dcm n:=by
 unfold Ap;by_cases h:s.size<=5
 .rw[A5 h];cases h2:K3 (L s) with
  | none=>exact .inl rfl
  | some n=>exact .inr ⟨n,rfl,h,Pw.1 h2⟩
 .rw[A9 h];exact .inl rfl
def S5(s:A1):(Ac s= -1/\ ∀n,L s=dcm n->4<s.size)\/ ∃n:Nat,Ac s=(n:Int)/\s.size<=4/\L s=dcm n:=by
 unfold Ac;by_cases h:s.size<=4
 .rw[A5 h];cases h2:K3 (L s) with
  | none=>exact .inl ⟨rfl,λn hn=>by rw[Pw.2 hn]at h2;cases h2⟩
  | some n=>exact .inr ⟨n,rfl,h,Pw.1 h2⟩
 .rw[A9 h];exact .inl ⟨rfl,λn _=>by omega⟩
def kX{s:A1}{n:Nat}(h:s.size<=4)(hn:L s=dcm n):Ac s=(n:Int):=by
 unfold Ac;rw[A5 h,Pw.2 hn]
def jV{s:A1}{n:Nat}(h:s.size<=5)(hn:L s=dcm n):Ap s=((n:Int),Y):=atj.2 ⟨h,hn⟩
section
variable {α:Type} (f:α->Bool)
def ins(l:List α)(n:α):List α:=l.takeWhile f++n::l.dropWhile f
abbrev tw(l:List α):Nat:=(l.takeWhile f).length
def Qc(l:List α):tw f l<=l.length:=by
 exact(aBK f).length_le
def YA(l:List α):l.take (tw f l)=l.takeWhile f:=by
 have:=List.take_left (l₁:=l.takeWhile f) (l₂:=l.dropWhile f);rwa[YN]at this
def YB(l:List α):l.drop (tw f l)=l.dropWhile f:=by
 have:=List.drop_left (l₁:=l.takeWhile f) (l₂:=l.dropWhile f);rwa[YN]at this
def Tg:∀ {l:List α} {i:Nat} {x:α},i<tw f l->l[i]? =I x->f x=Y
 | [],i,x,h,hx=>by simp at hx
 | y::l,i,x,h,hx=>by
  unfold tw at h;rw[QH]at h;split at h
  .rename_i hy;cases i with
   | zero=>simp at hx;subst hx;exact hy
   | succ i=>exact Tg (l:=l) (i:=i) (by simpa using h) (by simpa using hx)
  .simp at h
def Th:∀ {l:List α} {x:α},l[tw f l]? =I x->f x=A0
 | [],x,hx=>by simp at hx
 | y::l,x,hx=>by
  unfold tw at hx;rw[QH]at hx;split at hx
  .exact Th (l:=l) (by simpa using hx)
  .rename_i hy;simp at hx;subst hx;simpa using hy
def MT(l:List α)(n:α):(ins f l n).length=l.length+1:=by
 have:=congrArg JL<|YN (p:=f) (l:=l);rw[Aq]at this;simp only[ins,Aq,Bl];omega
def GA{l:List α}{n x:α}(h:x∈ins f l n):x=n\/x∈l:=by
 unfold ins at h;rw[BL,Bm]at h;obtain h|h|h:=h
 .exact .inr ((aBK f).mem h)
 .exact .inl h
 .exact .inr<|(List.dropWhile_sublist f).mem h
def Kd{l:List α}{n x:α}(h:x=n\/x∈l):x∈ins f l n:=by
 unfold ins;rw[BL,Bm];obtain h|h:=h
 .exact .inr (.inl h)
 .rw[← YN (p:=f) (l:=l),BL]at h;obtain h|h:=h
  .exact .inl h
  .exact .inr<|.inr h
end
def kE{α:Type}{f g:α->Bool}:∀ {l:List α},(∀x∈l,f x=g x)->l.takeWhile f=l.takeWhile g/\l.dropWhile f=l.dropWhile g
 | [],_=>⟨rfl,rfl⟩
 | x::l,h=>by
  have ih:=kE (l:=l) (λy hy=>h y<|Ai _ hy);rw[QH,QH,kq,kq,h x Am,ih.1,ih.2];exact⟨rfl,rfl⟩
def aBx{α:Type}{f g:α->Bool}{l:List α}{n:α}(h:∀x∈l,f x=g x):ins f l n=ins g l n:=by
 unfold ins;rw[(kE h).1,(kE h).2]
def DW{l:List A3}{i:Nat}{x:A3}(h:l[i]? =I x):nA l i=x:=OF h
def Fe{l:List Mark}{i:Nat}{x:Mark}(h:l[i]? =I x):mA l i=x:=OF h
def DY(l:List A3)(n:A3):List A3:=ins (λx=>bef x.fr x.nu n.fr n.nu) l n
def EE(l:List Mark)(n:Mark):List Mark:=ins (λx=>bef x.mf x.mn n.mf n.mn) l n
def X9{α:Type}{l:List α}{i:Nat}{x:α}(h:l[i]? =I x):l.take i++[x]=l.take (i+1):=by
 rw[JP,h];rfl
def aBV{α:Type}{l:List α}{i j:Nat}{x:α}(h:l[i]? =I x)(hj:j<=i):(l.take i).drop j++[x]=(l.take<|i+1).drop j:=by
 have hi:=(BN.1 h).1;rw[← X9 h,TS o5]
def DK{α:Type}(g:α->Bool)(l:List α)(n:α)(i:Nat):List α:=if i<=tw g l then l.take i else l.take (tw g l)++n::(l.take i).drop (tw g l)
def XE{α:Type}(g:α->Bool)(l:List α)(n:α)(i:Nat):(DK g l n i).length<=l.length+1:=by
 have:=Qc g l;unfold DK;split<;>simp<;>omega
def aCD{α:Type}(g:α->Bool)(l:List α)(n:α):(if tw g l<l.length then DK g l n l.length else DK g l n l.length++[n])=ins g l n:=by
 have h:=Qc g l;unfold DK ins;split
 .rw[A9 J,E4,YA,YB]
 .rw[A5 J,E4];have:tw g l=l.length:=J
  rw[← YA,← YB,this];simp
def aDU{α:Type}{g:α->Bool}{l:List α}{n x:α}{i:Nat}(h:l[i]? =I x)(hi:i<tw g l):DK g l n i++[x]=DK g l n (i+1):=by
 unfold DK;rw[A5 J,A5 J,X9 h]
def aDW{α:Type}{g:α->Bool}{l:List α}{n x:α}{i:Nat}(h:l[i]? =I x)(hi:i=tw g l):DK g l n i++[n]++[x]=DK g l n (i+1):=by
 subst hi;unfold DK;rw[A5<|Ar _,A9 J,← aBV h<|Ar _];simp
def aDV{α:Type}{g:α->Bool}{l:List α}{n x:α}{i:Nat}(h:l[i]? =I x)(hi:tw g l<i):DK g l n i++[x]=DK g l n (i+1):=by
 unfold DK;rw[A9 J,A9 J,← aBV h J];simp
def fB{l:List A3}{fr nu tt un:Int}{tx:A1}(hl:l.length<=1048576):PZ (l,(fr,nu,tt,un,tx,()),())=I ((DY l ⟨fr,nu,tt,un,tx⟩,()),()):=by
 have ht:=Qc (λx:A3=>bef x.fr x.nu fr nu) l;have h:qJ (l,(fr,nu,tt,un,tx,()),0,())=I (.inr (l,(fr,nu,tt,un,tx,()),((tw (λx:A3=>bef x.fr x.nu fr nu) l:Nat):Int),())):=
  Ch (λi=>(l,(fr,nu,tt,un,tx,()),(i:Int),())) (tw (λx:A3=>bef x.fr x.nu fr nu) l) (λi hi=>by
   have hi':i<l.length:=J
   have hx:=Au hi';unfold dk;simp only[AW hi',BQ hi',Dc,Rs,BI hi' (by omega:l.length<=9223372036854775807),DW hx,Tg (λx:A3=>bef x.fr x.nu fr nu) hi hx];rfl) (by
   unfold dk;generalize ht2:tw (λx:A3=>bef x.fr x.nu fr nu) l=t at *;obtain hlt|hge:=GN t l.length
   .have hx:=Au hlt;have:=Th (λx:A3=>bef x.fr x.nu fr nu) (l:=l) (x:=l[t]) (by rw[ht2];exact hx);simp only[AW hlt,BQ hlt,Dc,Rs,DW hx,this];rfl
   .have e:U ((t:Int)<(j8 l:Int))=A0:=by simp;omega
    simp only[e,HL,A2,AM,A4])
 unfold PZ;have hb:(U (0<=((tw (λx:A3=>bef x.fr x.nu fr nu) l:Nat):Int))&&U (((tw (λx:A3=>bef x.fr x.nu fr nu) l:Nat):Int)<=(j8 l:Int)))=Y:=by simp;omega
 simp only[h,DT,hb,A2,Bf,Eb,CR,DZ,Aq,Bl,Dg,EI];rw[A5<|BD J,A5<|BD J,A5<|BD J,YA,YB];simp[DY,ins]
def Ow(l:List A3)(n:A3):List A3:=ins (λx=> !bef n.fr n.nu x.fr x.nu) l n
def bS{l:List A3}{fr nu tt un:Int}{tx:A1}(hl:l.length<=1048576):PB (l,(fr,nu,tt,un,tx,()),())=I ((Ow l ⟨fr,nu,tt,un,tx⟩,()),()):=by
 let g:A3->Bool:=λx=> !bef fr nu x.fr x.nu
 have ht:=Qc g l;have h:oU (l,(fr,nu,tt,un,tx,()),[],A0,0,())=I (.inr ((fr,nu,tt,un,tx,()),DK g l ⟨fr,nu,tt,un,tx⟩ l.length,U<|tw g l<l.length,())):=by
  refine Ch (λi=>(l,(fr,nu,tt,un,tx,()),DK g l ⟨fr,nu,tt,un,tx⟩ i,U<|tw g l<i,(i:Int),())) l.length (λi hi=> ?_) (by simp[ap]);have hx:=Au hi;have hr:=XE g l ⟨fr,nu,tt,un,tx⟩ i;unfold ap;simp only[AW hi,BQ hi,Dc,WE,BI hi (by omega:l.length<=9223372036854775807),DW hx,Bl,CR,DZ,BD<|show(DK g l ⟨fr,nu,tt,un,tx⟩ i).length+1<=4294967296 by omega];obtain hlt|heq|hgt:=I6 i (tw g l)
  .have h1:bef fr nu l[i].fr l[i].nu=A0:=by simpa[g] using Tg g hlt hx
   have h2:U (tw g l<i)=A0:=by simp;omega
   have h3:U (tw g l<i+1)=A0:=by simp;omega
   simp only[h1,h2,h3,IP,AG,A2,Dt,Df,BY,A4,Bd,Dc,DW hx,AW hi,BD<|show(DK g l ⟨fr,nu,tt,un,tx⟩ i).length+1<=4294967296 by omega,aDU hx hlt,BI hi (by omega:l.length<=9223372036854775807)]
  .have hx2:l[tw g l]? =I l[i]:=by rw[← heq];exact hx
   have h1:bef fr nu l[i].fr l[i].nu=Y:=by simpa[g] using Th g hx2
   have h2:U (tw g l<i)=A0:=by simp;omega
   have h3:U (tw g l<i+1)=Y:=by simp;omega
   have h4:DK g l ⟨fr,nu,tt,un,tx⟩ i++[⟨fr,nu,tt,un,tx⟩]++[l[i]]=DK g l ⟨fr,nu,tt,un,tx⟩ (i+1):=aDW hx heq;simp only[h1,h2,h3,h4,IP,AG,A2,Dt,Df,EZ,Bd,Dc,DW hx,AW hi,Aq,Bl,CR,DZ,BD<|show(DK g l ⟨fr,nu,tt,un,tx⟩ i).length+1+1<=4294967296 by omega,BI hi (by omega:l.length<=9223372036854775807)]
  .have h2:U (tw g l<i)=Y:=by simp;omega
   have h3:U (tw g l<i+1)=Y:=by simp;omega
   simp only[h2,h3,HL,AA,A2,AM,A4,Bd,Dc,DW hx,AW hi,BD<|show(DK g l ⟨fr,nu,tt,un,tx⟩ i).length+1<=4294967296 by omega,aDV hx hgt,BI hi (by omega:l.length<=9223372036854775807)]
 unfold PB;simp only[h,DT];have he:=aCD g l ⟨fr,nu,tt,un,tx⟩;have hr:=XE g l ⟨fr,nu,tt,un,tx⟩ l.length;unfold Ow;show _=I ((ins g l _,()),());rw[← he];by_cases hc:tw g l<l.length
 .simp[hc]
 .simp[hc,BD<|show(DK g l ⟨fr,nu,tt,un,tx⟩ l.length).length+1<=4294967296 by omega]
def H7(t:Int)(l:List A3):List A3:=l.filter λx=>U<|t<x.un
def gi{l:List Mark}{mf mn mu:Int}(hl:l.length<=1048576):Rp (l,(mf,mn,mu,()),())=I ((EE l ⟨mf,mn,mu⟩,()),()):=by
 have ht:=Qc (λx:Mark=>bef x.mf x.mn mf mn) l;have h:qc (l,(mf,mn,mu,()),0,())=I (.inr (l,(mf,mn,mu,()),((tw (λx:Mark=>bef x.mf x.mn mf mn) l:Nat):Int),())):=
  Ch (λi=>(l,(mf,mn,mu,()),(i:Int),())) (tw (λx:Mark=>bef x.mf x.mn mf mn) l) (λi hi=>by
   have hi':i<l.length:=J
   have hx:=Au hi';unfold eK;simp only[AW hi',BQ hi',FL,Rs,BI hi' (by omega:l.length<=9223372036854775807),Fe hx,Tg (λx:Mark=>bef x.mf x.mn mf mn) hi hx];rfl) (by
   unfold eK;generalize ht2:tw (λx:Mark=>bef x.mf x.mn mf mn) l=t at *;obtain hlt|hge:=GN t l.length
   .have hx:=Au hlt;have:=Th (λx:Mark=>bef x.mf x.mn mf mn) (l:=l) (x:=l[t]) (by rw[ht2];exact hx);simp only[AW hlt,BQ hlt,FL,Rs,Fe hx,this];rfl
   .have e:U ((t:Int)<(j8 l:Int))=A0:=by simp;omega
    simp only[e,HL,A2,AM,A4])
 unfold Rp;have hb:(U (0<=((tw (λx:Mark=>bef x.mf x.mn mf mn) l:Nat):Int))&&U (((tw (λx:Mark=>bef x.mf x.mn mf mn) l:Nat):Int)<=(j8 l:Int)))=Y:=by simp;omega
 simp only[h,DT,hb,A2,Bf,Eb,CR,DZ,Aq,Bl,Dg,EI];rw[A5<|BD J,A5<|BD J,A5<|BD J,YA,YB];simp[EE,ins]
def Ox(l:List Mark)(n:Mark):List Mark:=ins (λx=> !bef n.mf n.mn x.mf x.mn) l n
def qD{l:List Mark}{mf mn mu:Int}(hl:l.length<=1048576):RE (l,(mf,mn,mu,()),())=I ((Ox l ⟨mf,mn,mu⟩,()),()):=by
 let g:Mark->Bool:=λx=> !bef mf mn x.mf x.mn
 have ht:=Qc g l;have h:oW (l,(mf,mn,mu,()),[],A0,0,())=I (.inr ((mf,mn,mu,()),DK g l ⟨mf,mn,mu⟩ l.length,U<|tw g l<l.length,())):=by
  refine Ch (λi=>(l,(mf,mn,mu,()),DK g l ⟨mf,mn,mu⟩ i,U<|tw g l<i,(i:Int),())) l.length (λi hi=> ?_) (by simp[bC]);have hx:=Au hi;have hr:=XE g l ⟨mf,mn,mu⟩ i;unfold bC;simp only[AW hi,BQ hi,FL,WE,BI hi (by omega:l.length<=9223372036854775807),Fe hx,Bl,CR,DZ,BD<|show(DK g l ⟨mf,mn,mu⟩ i).length+1<=4294967296 by omega];obtain hlt|heq|hgt:=I6 i (tw g l)
  .have h1:bef mf mn l[i].mf l[i].mn=A0:=by simpa[g] using Tg g hlt hx
   have h2:U (tw g l<i)=A0:=by simp;omega
   have h3:U (tw g l<i+1)=A0:=by simp;omega
   simp only[h1,h2,h3,IP,AG,A2,Dt,Df,BY,A4,Bd,FL,Fe hx,AW hi,BD<|show(DK g l ⟨mf,mn,mu⟩ i).length+1<=4294967296 by omega,aDU hx hlt,BI hi (by omega:l.length<=9223372036854775807)]
  .have hx2:l[tw g l]? =I l[i]:=by rw[← heq];exact hx
   have h1:bef mf mn l[i].mf l[i].mn=Y:=by simpa[g] using Th g hx2
   have h2:U (tw g l<i)=A0:=by simp;omega
   have h3:U (tw g l<i+1)=Y:=by simp;omega
   have h4:DK g l ⟨mf,mn,mu⟩ i++[⟨mf,mn,mu⟩]++[l[i]]=DK g l ⟨mf,mn,mu⟩ (i+1):=aDW hx heq;simp only[h1,h2,h3,h4,IP,AG,A2,Dt,Df,EZ,Bd,FL,Fe hx,AW hi,Aq,Bl,CR,DZ,BD<|show(DK g l ⟨mf,mn,mu⟩ i).length+1+1<=4294967296 by omega,BI hi (by omega:l.length<=9223372036854775807)]
  .have h2:U (tw g l<i)=Y:=by simp;omega
   have h3:U (tw g l<i+1)=Y:=by simp;omega
   simp only[h2,h3,HL,AA,A2,AM,A4,Bd,FL,Fe hx,AW hi,BD<|show(DK g l ⟨mf,mn,mu⟩ i).length+1<=4294967296 by omega,aDV hx hgt,BI hi (by omega:l.length<=9223372036854775807)]
 unfold RE;simp only[h,DT];have he:=aCD g l ⟨mf,mn,mu⟩;have hr:=XE g l ⟨mf,mn,mu⟩ l.length;unfold Ox;show _=I ((ins g l _,()),());rw[← he];by_cases hc:tw g l<l.length
 .simp[hc]
 .simp[hc,BD<|show(DK g l ⟨mf,mn,mu⟩ l.length).length+1<=4294967296 by omega]
def Jq(t:Int)(l:List Mark):List Mark:=l.filter λx=>U<|t<x.mu
def WK{α:Type}{l:List α}{f:α->Bool}{i:Nat}{x:α}(h:l[i]? =I x):(l.take<|i+1).filter f=(l.take i).filter f++(if f x then [x] else []):=by
 rw[← X9 h,Oi];congr 1;cases hf:f x<;>simp[hf]
def Wo{α:Type}{l:List α}{f:α->Bool}{i:Nat}:((l.take i).filter f).length<=l.length:=by
 have:=Ij f<|l.take i;simp at this;omega
def amj{id ti nx t:Int}{held:List A3}{marks:List Mark}{inbox:List A3}(sm:DQ held marks inbox):dw ((id,ti,nx,held,marks,inbox,()),t,())=I (((id,t,nx,H7 t held,Jq t marks,inbox,()),()),()):=by
 have hl:=sm.hl;have ml:=sm.ml;have h0:pe (t,(id,ti,nx,held,marks,inbox,()),(0,0,0,[],[],[],()),(id,t,nx,[],[],inbox,()),held,(held.length:Int),0,())=I (.inr (t,(id,ti,nx,held,marks,inbox,()),(0,0,0,[],[],[],()),(id,t,nx,H7 t held,[],inbox,()),())):=by
  rw[show H7 t held=(held.take held.length).filter (λx=>U<|t<x.un) by rw[E4];rfl];refine Ch (λi=>(t,(id,ti,nx,held,marks,inbox,()),(0,0,0,[],[],[],()),(id,t,nx,(held.take i).filter λx=>U<|t<x.un,[],inbox,()),held,(held.length:Int),(i:Int),())) held.length (λi hi=> ?_) (by simp[cc]);have hx:=Au hi;have hr:=Wo (l:=held) (f:=λx=>U<|t<x.un) (i:=i);unfold cc;simp only[AW hi,BQ hi,Dc,DW hx,BI hi (by omega:held.length<=9223372036854775807),WK hx,Bl,CR,DZ,BD<|show((held.take i).filter λx=>U<|t<x.un).length+1<=4294967296 by omega];by_cases hc:t<held[i].un<;>simp[hc]
 have h1:pd (t,(0,0,0,[],[],[],()),(id,t,nx,H7 t held,[],inbox,()),marks,(marks.length:Int),0,())=I (.inr ((0,0,0,[],[],[],()),(id,t,nx,H7 t held,Jq t marks,inbox,()),())):=by
  rw[show Jq t marks=(marks.take marks.length).filter (λx=>U<|t<x.mu) by rw[E4];rfl];refine Ch (λi=>(t,(0,0,0,[],[],[],()),(id,t,nx,H7 t held,(marks.take i).filter λx=>U<|t<x.mu,inbox,()),marks,(marks.length:Int),(i:Int),())) marks.length (λi hi=> ?_) (by simp[cb]);have hx:=Au hi;have hr:=Wo (l:=marks) (f:=λx=>U<|t<x.mu) (i:=i);unfold cb;simp only[AW hi,BQ hi,FL,Fe hx,BI hi (by omega:marks.length<=9223372036854775807),WK hx,Bl,CR,DZ,BD<|show((marks.take i).filter λx=>U<|t<x.mu).length+1<=4294967296 by omega];by_cases hc:t<marks[i].mu<;>simp[hc]
 unfold dw;simp only[h0,h1,DT]
def ald{id ti nx t:Int}{held:List A3}{marks:List Mark}{inbox:List A3}(sm:DQ held marks inbox):dY ((id,ti,nx,held,marks,inbox,()),t,())=I (((id,t,nx,H7 t held,Jq t marks,inbox,()),()),()):=by
 have hl:=sm.hl;have ml:=sm.ml;have h0:pS (t,(id,ti,nx,held,marks,inbox,()),(0,0,0,[],[],[],()),[],0,())=I (.inr (t,(id,ti,nx,held,marks,inbox,()),(0,0,0,[],[],[],()),H7 t held,())):=by
  rw[show H7 t held=(held.take held.length).filter (λx=>U<|t<x.un) by rw[E4];rfl];refine Ch (λi=>(t,(id,ti,nx,held,marks,inbox,()),(0,0,0,[],[],[],()),(held.take i).filter λx=>U<|t<x.un,(i:Int),())) held.length (λi hi=> ?_) (by simp[dA]);have hx:=Au hi;have hr:=Wo (l:=held) (f:=λx=>U<|t<x.un) (i:=i);unfold dA;simp only[AW hi,BQ hi,Dc,DW hx,BI hi (by omega:held.length<=9223372036854775807),WK hx,Bl,CR,DZ,BD<|show((held.take i).filter λx=>U<|t<x.un).length+1<=4294967296 by omega];by_cases hc:t<held[i].un<;>simp[hc]
 have h1:pR (t,(id,ti,nx,held,marks,inbox,()),(0,0,0,[],[],[],()),H7 t held,[],0,())=I (.inr (t,(id,ti,nx,held,marks,inbox,()),(0,0,0,[],[],[],()),H7 t held,Jq t marks,())):=by
  rw[show Jq t marks=(marks.take marks.length).filter (λx=>U<|t<x.mu) by rw[E4];rfl];refine Ch (λi=>(t,(id,ti,nx,held,marks,inbox,()),(0,0,0,[],[],[],()),H7 t held,(marks.take i).filter λx=>U<|t<x.mu,(i:Int),())) marks.length (λi hi=> ?_) (by simp[cw]);have hx:=Au hi;have hr:=Wo (l:=marks) (f:=λx=>U<|t<x.mu) (i:=i);unfold cw;simp only[AW hi,BQ hi,FL,Fe hx,BI hi (by omega:marks.length<=9223372036854775807),WK hx,Bl,CR,DZ,BD<|show((marks.take i).filter λx=>U<|t<x.mu).length+1<=4294967296 by omega];by_cases hc:t<marks[i].mu<;>simp[hc]
 unfold dY;simp only[h0,h1,DT]
def EX(l:List A3)(i:Nat):List A3:=l.take i++l.drop (i+1)
def amh{l:List A3}{i:Nat}(hl:l.length<=1048576)(hi:i<l.length):Rl (l,(i:Int),())=I ((EX l i,()),()):=by
 unfold Rl;have h1:(U (0<=(i:Int))&&U ((i:Int)<=(j8 l:Int)))=Y:=by simp;omega
 have h2:(U (0<=((i+1:Nat):Int))&&U (((i+1:Nat):Int)<=(j8 l:Int)))=Y:=by simp;omega
 simp only[BI hi (by omega:l.length<=9223372036854775807),h1,h2,A2,Bf,Eb,CR,DZ,Dg,EI];rw[A5<|BD J,A5<|BD J];rfl
end Go.VS
namespace Go.VS
open Go
def B_L(s:A1):B (L s)=s:=Fy rfl
def CU(l:List UInt8):Prop:=∀b∈l,b≠32
def LZ:∀(l:List UInt8),CU l\/ ∃w r,CU w/\l=w++32::r
 | []=> .inl (λ_ h=>by cases h)
 | b::l=>by
  by_cases h:b=32
  .exact .inr ⟨[],l,(λ_ h=>by cases h),by rw[h];rfl⟩
  .rcases LZ l with h1|⟨w,r,h1,h2⟩
   .refine .inl (λx hx=> ?_);obtain rfl|hx:=Bm.1 hx
    .exact h
    .exact h1 x hx
   .refine .inr ⟨b::w,r,λx hx=> ?_,by rw[h2];rfl⟩;obtain rfl|hx:=Bm.1 hx
    .exact h
    .exact h1 x hx
def kY:∀ {l:List UInt8},CU l->Lib.index l [32]= -1
 | [],_=>rfl
 | b::l,h=>by
  rw[TP];unfold Lib.indexByte;have h1:=h b Am;rw[A9<|by simpa using h1,← TP,kY λx hx=>h x<|Ai _ hx];rfl
def kZ:∀ {w r:List UInt8},CU w->Lib.index (w++32::r) [32]=w.length
 | [],r,_=>by rw[TP];rfl
 | b::w,r,h=>by
  rw[TP,Ky];unfold Lib.indexByte;have h1:=h b Am;rw[A9<|by simpa using h1,← TP,kZ λx hx=>h x<|Ai _ hx,A9 y9];simp
def ax6{l:List UInt8}(h:CU l):FR l [32]=(l,[],A0):=by
 unfold FR;rw[kY h,A9 J]
def ax7{w r:List UInt8}(h:CU w):FR (w++32::r) [32]=(w,r,Y):=by
 unfold FR;rw[kZ h,A5 J];simp
def avK{s:A1}(hs:s.size<=1048576)(h:CU (L s)):VX (s,B [32],())=I ((s,noB,A0,()),()):=by
 show P0 _=_;unfold P0;rw[A5 (by show s.size<_;omega)];show I ((B (FR (L s) [32]).1,B (FR (L s) [32]).2.1,(FR (L s) [32]).2.2,()),())=_;rw[ax6 h];show I ((B<|L s,noB,A0,()),())=_;rw[B_L]
def avL{s:A1}{w r:List UInt8}(hs:s.size<=1048576)(h:CU w)(e:L s=w++32::r):VX (s,B [32],())=I ((B w,B r,Y,()),()):=by
 show P0 _=_;unfold P0;rw[A5 (by show s.size<_;omega)];show I ((B (FR (L s) [32]).1,B (FR (L s) [32]).2.1,(FR (L s) [32]).2.2,()),())=_;rw[e,ax7 h]
def mv{s:A1}{i:Nat}:U (bt s i=32)=U ((L s).getD i 0=32):=by
 rw[decide_eq_decide,Jn];exact⟨λh=>QO.1 (by show _=32;omega),λh=>by rw[h];rfl⟩
def aBa{s:A1}(hs:s.size<=1048576):qB (s,0,())=I (if Fw s.size (λi=>U<|bt s i=32)<0 then .inr (s,()) else
  .inl (s.extract 0 (Fw s.size λi=>U<|bt s i=32).toNat,s.extract ((Fw s.size λi=>U<|bt s i=32).toNat+1) s.size,())):=
 Pm (λi=>(s,(i:Int),())) s.size (λi=>U<|bt s i=32) (λi=>(s.extract 0 i.toNat,s.extract (i.toNat+1) s.size,())) (s,()) (λi hi=>by
  have h1:(U (0<=(i:Int))&&U ((i:Int)<=(s.size:Int)))=Y:=by simp;omega
  have h2:(U (0<=((i+1:Nat):Int))&&U (((i+1:Nat):Int)<=(s.size:Int)))=Y:=by simp;omega
  unfold dU;simp only[AW hi,BQ hi,BI hi (by omega:s.size<=9223372036854775807),h1,h2,A2,Bf];cases U (bt s i=32)<;>rfl) (by simp[dU])
def auS{n:Nat}{p:Nat->Bool}(h:∀i,i<n->p i=A0):Fw n p= -1:=by
 obtain⟨h1,_⟩|⟨i,h1,h2,h3,_⟩:=G6 n p
 .exact h1
 .rw[h i h2]at h3;cases h3
def aDn{n i:Nat}{p:Nat->Bool}(hi:i<n)(hp:p i=Y)(h:∀j,j<i->p j=A0):Fw n p=i:=by
 obtain⟨_,h1⟩|⟨j,h1,h2,h3,h4⟩:=G6 n p
 .rw[h1 i hi]at hp;cases hp
 .rcases I6 i j with h5|h5|h5
  .rw[h4 i h5]at hp;cases hp
  .rw[h1,h5]
  .rw[h j h5]at h3;cases h3
def auM{w r:List UInt8}{b:UInt8}:(w++b::r).getD w.length 0=b:=by simp
def aa2{w r:List UInt8}{j:Nat}(h:j<w.length):(w++r).getD j 0∈w:=by
 rw[B8,I8 h,Au h];exact Cg h
def auL{l:List UInt8}{j:Nat}(h:j<l.length):l.getD j 0∈l:=by
 rw[B8,Au h];exact Cg h
def arc{s:A1}(hs:s.size<=1048576)(h:CU (L s)):Ng (s,())=I ((s,noB,()),()):=by
 unfold Ng;simp only[aBa hs];rw[auS (λi hi=>by rw[mv];simpa using h _<|auL (by rw[Aw];exact hi))];rfl
def ard{s:A1}{w r:List UInt8}(hs:s.size<=1048576)(h:CU w)(e:L s=w++32::r):Ng (s,())=I ((B w,B r,()),()):=by
 have hl:s.size=w.length+1+r.length:=by
  have:=congrArg JL e;rw[Aw]at this;simp at this;omega
 unfold Ng;simp only[aBa hs];rw[aDn (i:=w.length) J (by rw[mv,e,auM];rfl) (λj hj=>by rw[mv,e];simpa using h _<|aa2 hj),A9 J];have e1:s.extract 0 w.length=B w:=Fy (by rw[EB,e,L_B];simp);have e2:s.extract (w.length+1) s.size=B r:=Fy (by rw[EB,e,L_B,hl,show w++32::r=(w++[32])++r by simp,QP y9,show w.length+1+r.length - (w.length+1)=r.length by omega,E4]);simp only[Jh,Bf,e1,e2]
def wr(n:A3):A1:=((((((((BX n.fr++B [32])++BX n.nu)++B [32])++BX n.to)++B [32])++BX n.un)++B [32])++n.tx)
def wrL(n:A3):List UInt8:=B2 n.fr++32::(B2 n.nu++32::(B2 n.to++32::(B2 n.un++32::L n.tx)))
def Tc(n:Int):L (BX n)=B2 n:=rfl
def Qs(n:A3):L (wr n)=wrL n:=by
 unfold wr wrL;simp only[Fz,Tc,L_B,C3,Ky,Eb]
def aqM{n:Int}{k:Nat}(h0:0<=n)(h1:n<10 ^ k)(hk:1<=k):B2 n=dcm n.toNat/\(B2 n).length<=k:=by
 obtain⟨u,rfl⟩:=HD h0;rw[J4];refine⟨rfl,Lf k u hk ?_⟩;have:((10 ^ k:Nat):Int)=(10:Int) ^ k:=by simp
 omega
structure Tu (n:A3):Prop where
 f0:0<=n.fr
 f1:n.fr<=3
 t0:0<=n.to
 t1:n.to<=3
 n0:1<=n.nu
 n1:n.nu<=99
 u0:1<=n.un
 u1:n.un<=999
 s0:1<=n.tx.size
 s1:n.tx.size<=24
def IU{n:A3}(h:At n=Y):Tu n:=by
 unfold At Jw at h;simp only[AD,AY]at h;obtain⟨⟨a,b⟩,⟨c,d⟩,⟨e,f⟩,⟨g,i⟩,⟨j,k⟩,_⟩:=h;exact⟨a,b,c,d,e,f,g,i,J,J⟩
def MV{n:Int}{k:Nat}(h0:0<=n)(h1:n<10 ^ k)(hk:1<=k):(BX n).size<=k:=(aqM h0 h1 hk).2
def Uv{fr nu tt un:Int}{tx:A1}(hs:tx.size<=1048576):MQ ((fr,nu,tt,un,tx,()),())=I ((if At ⟨fr,nu,tt,un,tx⟩ then wr ⟨fr,nu,tt,un,tx⟩ else noB,()),()):=by
 unfold MQ;simp only[Vh hs,A6];obtain h|h:=tf (At ⟨fr,nu,tt,un,tx⟩)
 .have hf:=IU h;obtain⟨f0,f1,t0,t1,n0,n1,u0,u1,s0,s1⟩:=hf;simp only at f0 f1 t0 t1 n0 n1 u0 u1 s0 s1;have a1:=MV (n:=fr) (k:=1) f0 J J;have a2:=MV (n:=nu) (k:=2) J J J;have a3:=MV (n:=tt) (k:=1) t0 J J;have a4:=MV (n:=un) (k:=3) J J J;have b:(B [32]).size=1:=rfl;simp only[h,AA,A4,J8 (n:=fr) J J,J8 (n:=nu) J J,J8 (n:=tt) J J,J8 (n:=un) J J,A6,Bz,b]
  repeat rw[A5 (by rw[decide_eq_true_eq];omega)]
  rfl
 .simp only[h,AG,A2,A4]
def Ue{fr nu tt un:Int}{tx:A1}(hs:tx.size<=1048576):MP ((fr,nu,tt,un,tx,()),())=I ((if At ⟨fr,nu,tt,un,tx⟩ then wr ⟨fr,nu,tt,un,tx⟩ else noB,()),()):=by
 unfold MP;simp only[VZ hs,A6];obtain h|h:=tf (At ⟨fr,nu,tt,un,tx⟩)
 .have hf:=IU h;obtain⟨f0,f1,t0,t1,n0,n1,u0,u1,s0,s1⟩:=hf;simp only at f0 f1 t0 t1 n0 n1 u0 u1 s0 s1;have a1:=MV (n:=fr) (k:=1) f0 J J;have a2:=MV (n:=nu) (k:=2) J J J;have a3:=MV (n:=tt) (k:=1) t0 J J;have a4:=MV (n:=un) (k:=3) J J J;have b:(B [32]).size=1:=rfl;simp only[h,AA,A4,Fm (n:=fr) J J,Fm (n:=nu) J J,Fm (n:=tt) J J,Fm (n:=un) J J,A6,Bz,b]
  repeat rw[A5 (by rw[decide_eq_true_eq];omega)]
  rfl
 .simp only[h,AG,A2,A4]
def NL:List UInt8->Option (List UInt8×List UInt8)
 | []=>G
 | b::l=>if b=32 then I ([],l) else(NL l).map λp=>(b::p.1,p.2)
def Sx:∀ {l:List UInt8},CU l->NL l=G
 | [],_=>rfl
 | b::l,h=>by
  unfold NL;rw[A9<|h b Am,Sx λx hx=>h x<|Ai _ hx];rfl
def Sy:∀ {w r:List UInt8},CU w->NL (w++32::r)=I (w,r)
 | [],r,_=>rfl
 | b::w,r,h=>by
  rw[Ky];unfold NL;rw[A9<|h b Am,Sy λx hx=>h x<|Ai _ hx];rfl
def wd(s:A1):A1×A1:=match NL (L s) with
 | some p=>(B p.1,B p.2)
 | none=>(s,noB)
def Tf{s:A1}(h:CU (L s)):wd s=(s,noB):=by unfold wd;rw[Sx h]
def Kl{s:A1}{w r:List UInt8}(h:CU w)(e:L s=w++32::r):wd s=(B w,B r):=by unfold wd;rw[e,Sy h]
def Sj(s:A1):(wd s).1.size<=s.size/\(wd s).2.size<=s.size:=by
 obtain h|⟨w,r,h,e⟩:=LZ (L s)
 .rw[Tf h];exact⟨Ar _,Cz _⟩
 .rw[Kl h e];have:=congrArg JL e;rw[Aw]at this;simp at this;rw[BP,BP];exact⟨by show w.length<=_;omega,by show r.length<=_;omega⟩
def ab0{s:A1}(hs:s.size<=1048576):Ng (s,())=I (((wd s).1,(wd s).2,()),()):=by
 obtain h|⟨w,r,h,e⟩:=LZ (L s)
 .rw[Tf h,arc hs h]
 .rw[Kl h e,ard hs h e]
def ax0{s:A1}(hs:s.size<=1048576):VX (s,B [32],())=I (((wd s).1,(wd s).2,(NL<|L s).isSome,()),()):=by
 obtain h|⟨w,r,h,e⟩:=LZ (L s)
 .rw[Tf h,avK hs h,Sx h];rfl
 .rw[Kl h e,avL hs h e,e,Sy h];rfl
def EA(s:A1):Nat->A1
 | 0=>s
 | i+1=>(wd<|EA s i).2
def Ak(s:A1)(i:Nat):A1:=(wd<|EA s i).1
def WV(s:A1):∀i,(EA s i).size<=s.size
 | 0=>Ar _
 | i+1=>CP (Sj<|EA s i).2 (WV s i)
def aq0(s:A1)(i:Nat):(Ak s i).size<=s.size:=CP (Sj _).1<|WV s i
def ab9{s:A1}{n:Nat}(hs:s.size<=1048576)(hn:n<=10):PV (s,(n:Int),())=I (((B7 n).map λi=>Ac<|Ak s i,EA s n,()),()):=by
 have h:qC (s,(n:Int),[],0,())=I (.inr (EA s n,(B7 n).map λi=>Ac<|Ak s i,())):=by
  refine Ch (λi=>(EA s i,(n:Int),(B7 i).map λi=>Ac<|Ak s i,(i:Int),())) n (λi hi=> ?_) (by simp[dV]);have h1:=WV s i;have h2:=aq0 s i;unfold dV;simp only[BQ hi,ab0<|show(EA s i).size<=1048576 by omega,A6,A2,gw (show(wd<|EA s i).1.size<=9223372036854775807 by have:=(Sj<|EA s i).1;omega),
   DL,List.length_range,Bl,CR,DZ,BD (J:i+1<=4294967296),BI hi (by omega:n<=9223372036854775807),ID,Ek,DO,JM]
  rfl
 unfold PV;simp only[h,DT]
def aAp{ws:List A1}(hl:ws.length<=1048577)(hw:∀w∈ws,w.size<=1048576):
  RY (ws,())=I ((if BK ws.length (λi=>(Ap<|ws.getD i noB).2) then(ws.map λw=>(Ap w).1,Y,()) else([],A0,())),()):=by
 have h:pK ([],ws,(j8 ws:Int),0,())=I (if BK ws.length (λi=>(Ap<|ws.getD i noB).2) then .inr (ws.map λw=>(Ap w).1,()) else .inl ([],A0,())):=by
  rw[show ws.map (λw=>(Ap w).1)=(ws.take ws.length).map (λw=>(Ap w).1) by rw[E4]];refine jS (λi=>((ws.take i).map λw=>(Ap w).1,ws,(j8 ws:Int),(i:Int),())) ws.length (λi=>(Ap<|ws.getD i noB).2) ([],A0,()) ((ws.take ws.length).map λw=>(Ap w).1,()) (λi hi _=> ?_) (λ_=>by simp[cE]);have hx:=Au hi;have hs:=hw _<|Cg hi;unfold cE;simp only[AW hi,BQ hi,OM,OF hx,eH (J:ws[i].size<=9223372036854775807),A6,DL,Dg,Bl,CR,DZ,
   BD (J:min i ws.length+1<=4294967296),BI hi (by omega:ws.length<=9223372036854775807)]
  rw[← X9 hx,Ek];obtain h|h:=tf (Ap ws[i]).2<;>simp[h]
 unfold RY;simp only[h];cases BK ws.length (λi=>(Ap<|ws.getD i noB).2)<;>rfl
def LW{w r:List UInt8}{k:Nat}(h:CU w):GQ [32] 0 (k+1) (w++32::r)=w::GQ [32] 0 k r:=by
 conv=>lhs;unfold GQ
 rw[kZ h,A9 y9];show(w++32::r).take (w.length+0)::GQ [32] 0 k ((w++32::r).drop<|w.length+1)=_;rw[He,OY rfl,show w++32::r=(w++[32])++r by simp,QP y9]
def X8{l:List UInt8}{k:Nat}(h:CU l):GQ [32] 0 k l=[l]:=by
 cases k with
 | zero=>rfl
 | succ k=>
  unfold GQ;rw[kY h];rfl
def join:List (List UInt8)->List UInt8
 | []=>[]
 | [x]=>x
 | x::y::l=>x++32::join (y::l)
def arU(k:Nat)(l:List UInt8):∃x m,GQ [32] 0 k l=x::m:=by
 cases k with
 | zero=>exact⟨l,[],rfl⟩
 | succ k=>
  obtain h|⟨w,r,h,rfl⟩:=LZ l
  .exact⟨l,[],X8 h⟩
  .exact⟨w,_,LW h⟩
def iQ:∀(k:Nat) (l:List UInt8),join (GQ [32] 0 k l)=l
 | 0,_=>rfl
 | k+1,l=>by
  obtain h|⟨w,r,h,rfl⟩:=LZ l
  .rw[X8 h];rfl
  .rw[LW h];have ih:=iQ k r;obtain⟨x,m,e⟩:=arU k r;rw[e]at ih ⊢;show w++32::join (x::m)=_;rw[ih]
def axJ{ps:List A1}{ls:List (List UInt8)}(h:ps.map (·.data.toList)=ls):ps=ls.map B:=by
 subst h;rw[IE]
 conv=>lhs;rw[← Yk ps]
 exact Gg λs _=>(B_L s).symm
def aCf(k:Nat)(s:A1):Im (B [32]) 0 k s=(GQ [32] 0 k<|L s).map B:=axJ<|Lib.splitB_data (B [32]) 0 k s
def av9{s:A1}(hs:s.size<=1048576):cW (s,B [32],())=I (((GQ [32] 0 ((L s).count 32)<|L s).map B,()),()):=by
 show TA _=_;unfold TA;rw[A5 ⟨by show s.size<_;omega,by show 1<=1;omega⟩];show I ((Im (B [32]) 0 (Lib.count (L s) [32]) s,()),())=_;rw[aCf,Lib.count_one]
def ash{s:A1}(hs:s.size<=1048576):qj (s,B [32],5,())=I (((GQ [32] 0 (min 5 (s.size+1) - 1)<|L s).map B,()),()):=by
 show Si _=_;unfold Si;rw[A5 ⟨by show s.size<_;omega,by show 1<=1;omega,by show(1:Int)<=5;omega,by show(5:Int)<=_;omega⟩];show I ((Im (B [32]) 0 (min 5 (s.size+1) - 1) s,()),())=_;rw[aCf]
def ati(u:Nat):CU (dcm u):=λb hb h=>by
 have:=AY.1<|Xw (u+1) u J b hb;subst h;simp at this
def HM{n:Int}(h0:0<=n):CU (B2 n):=by
 obtain⟨u,rfl⟩:=HD h0;rw[J4];exact ati u
def MY{n:Int}(h0:0<=n)(h1:n<10000):Ac (B<|B2 n)=n:=by
 obtain⟨u,rfl⟩:=HD h0;rw[J4];exact kX (by rw[BP];exact Lf 4 u J J)<|L_B _
def J0{n:Int}(h0:0<=n)(h1:n<100000):Ap (B<|B2 n)=(n,Y):=by
 obtain⟨u,rfl⟩:=HD h0;rw[J4];exact jV (by rw[BP];exact Lf 5 u J J)<|L_B _
open Classical in
def DC (s:A1):Option A3:=if h:∃n,At n=Y/\wr n=s then I (Mw h) else G
def Ji{s t:A1}{x:Int}{r:List UInt8}(h:wd s=(B<|B2 x,B r)):(wd s).1=B (B2 x)/\L (wd s).2=r:=by rw[h];exact⟨rfl,rfl⟩
def kD{n:A3}(hf:Tu n){s:A1}(e:L s=wrL n):Ak s 0=B (B2 n.fr)/\Ak s 1=B (B2 n.nu)/\Ak s 2=B (B2 n.to)/\Ak s 3=B (B2 n.un)/\EA s 4=n.tx:=by
 obtain⟨f0,f1,t0,t1,n0,n1,u0,u1,s0,s1⟩:=hf;unfold wrL at e;have e0:=Kl (HM f0) e;have c1:L (EA s 1)=_:=(Ji (t:=s) e0).2;have e1:=Kl (HM (J:0<=n.nu)) c1;have c2:L (EA s 2)=_:=(Ji (t:=s) e1).2;have e2:=Kl (HM t0) c2;have c3:L (EA s 3)=_:=(Ji (t:=s) e2).2;have e3:=Kl (HM (J:0<=n.un)) c3;have c4:L (EA s 4)=_:=(Ji (t:=s) e3).2;exact⟨(Ji (t:=s) e0).1,(Ji (t:=s) e1).1,(Ji (t:=s) e2).1,(Ji (t:=s) e3).1,Fy c4⟩
def asq{n:A3}(hf:Tu n):Ak (wr n) 0=B (B2 n.fr)/\Ak (wr n) 1=B (B2 n.nu)/\Ak (wr n) 2=B (B2 n.to)/\Ak (wr n) 3=B (B2 n.un)/\EA (wr n) 4=n.tx:=kD hf<|Qs n
def ath{n m:A3}(h1:n.fr=m.fr)(h2:n.nu=m.nu)(h3:n.to=m.to)(h4:n.un=m.un)(h5:n.tx=m.tx):n=m:=by
 cases n;cases m;simp only at h1 h2 h3 h4 h5;subst h1 h2 h3 h4 h5;rfl
def XP{x y:Int}(h0:0<=x)(h1:x<10000)(h2:0<=y)(h3:y<10000)(h:B (B2 x)=B (B2 y)):x=y:=by
 rw[← MY h0 h1,← MY h2 h3,h]
def awX{n m:A3}(hn:At n=Y)(hm:At m=Y)(h:wr n=wr m):n=m:=by
 have fn:=IU hn;have fm:=IU hm;have a:=kD fn (s:=wr n)<|Qs n;have b:=kD fm (s:=wr n) (by rw[h];exact Qs m);clear h hn hm;generalize wr n=s at a b;obtain⟨a0,a1,a2,a3,a4⟩:=a;obtain⟨b0,b1,b2,b3,b4⟩:=b;obtain⟨f0,f1,t0,t1,n0,n1,u0,u1,s0,s1⟩:=fn;obtain⟨g0,g1,v0,v1,m0,m1,w0,w1,z0,z1⟩:=fm;exact ath (XP J J J J<|a0.symm.trans b0) (XP J J J J<|a1.symm.trans b1) (XP J J J J<|a2.symm.trans b2)
  (XP J J J J<|a3.symm.trans b3) (a4.symm.trans b4)
def Pj{n:A3}(h:At n=Y):DC (wr n)=I n:=by
 unfold DC;have hex:∃m,At m=Y/\wr m=wr n:=⟨n,h,rfl⟩;rw[dif_pos hex];have:=Ik hex;rw[awX this.1 h this.2]
def Jf{s:A1}{n:A3}(h:DC s=I n):At n=Y/\wr n=s:=by
 unfold DC at h;split at h
 .rename_i hex;cases h;exact Ik hex
 .cases h
def ly{n:A3}(hf:Tu n):9<=(wr n).size:=by
 obtain⟨f0,f1,t0,t1,n0,n1,u0,u1,s0,s1⟩:=hf;have h:∀ {x:Int},0<=x->1<=(B2 x).length:=fun {x} h0=>by
  obtain⟨u,rfl⟩:=HD h0;rw[J4];exact List.length_pos_iff.2<|mR u
 rw[← Aw,Qs];unfold wrL;have a:=h f0;have b:=h (J:0<=n.nu);have c:=h t0;have d:=h (J:0<=n.un);have e:(L n.tx).length=n.tx.size:=rfl;simp only[Aq,Bl];omega
def Ti(o:Option A3):(Int×Int×Int×Int×A1×D)×Bool×D:=match o with
 | some n=>((n.fr,n.nu,n.to,n.un,n.tx,()),Y,())
 | none=>((0,0,0,0,noB,()),A0,())
def wA{s:A1}(hs:s.size<=1048576):RU (s,())=I (Ti<|DC s,()):=by
 unfold RU;have e4:PV (s,4,())=I (([Ac<|Ak s 0,Ac<|Ak s 1,Ac<|Ak s 2,Ac<|Ak s 3],EA s 4,()),()):=ab9 (n:=4) hs J;have hr:=WV s 4;have i0:inb 0 [Ac<|Ak s 0,Ac<|Ak s 1,Ac<|Ak s 2,Ac<|Ak s 3].length=Y:=rfl;have i1:inb 1 [Ac<|Ak s 0,Ac<|Ak s 1,Ac<|Ak s 2,Ac<|Ak s 3].length=Y:=rfl;have i2:inb 2 [Ac<|Ak s 0,Ac<|Ak s 1,Ac<|Ak s 2,Ac<|Ak s 3].length=Y:=rfl;have i3:inb 3 [Ac<|Ak s 0,Ac<|Ak s 1,Ac<|Ak s 2,Ac<|Ak s 3].length=Y:=rfl;have r0: @rd Int aEo [Ac<|Ak s 0,Ac<|Ak s 1,Ac<|Ak s 2,Ac<|Ak s 3] 0=Ac (Ak s 0):=rfl;have r1: @rd Int aEo [Ac<|Ak s 0,Ac<|Ak s 1,Ac<|Ak s 2,Ac<|Ak s 3] 1=Ac (Ak s 1):=rfl;have r2: @rd Int aEo [Ac<|Ak s 0,Ac<|Ak s 1,Ac<|Ak s 2,Ac<|Ak s 3] 2=Ac (Ak s 2):=rfl;have r3: @rd Int aEo [Ac<|Ak s 0,Ac<|Ak s 1,Ac<|Ak s 2,Ac<|Ak s 3] 3=Ac (Ak s 3):=rfl;simp only[e4,A6,i0,i1,i2,i3,r0,r1,r2,r3,Ue<|show(EA s 4).size<=1048576 by omega,Dt,Df,A2,show ∀c,An c Y=Y from λc=>rfl];generalize hx:(⟨Ac<|Ak s 0,Ac<|Ak s 1,Ac<|Ak s 2,Ac<|Ak s 3,EA s 4⟩:A3)=x at *;by_cases hc:s≠noB/\(if At x then wr x else noB)=s
 .obtain⟨h1,h2⟩:=hc;have hok:At x=Y:=by
   obtain h|h:=tf (At x)
   .exact h
   .rw[h]at h2;exact absurd h2.symm h1
  rw[hok]at h2;simp only[A2]at h2;rw[A9<|by simp[h1,hok,h2],← h2,Pj hok];subst hx;simp only[h2];rfl
 .rw[A5 (by
   by_cases h1:s=noB
   .simp[h1]
   .have h2:¬(if At x then wr x else noB)=s:=λh=>hc ⟨h1,h⟩;simp[h1,h2])]
  cases h:DC s with
  | none=>rfl
  | some n=>
   exfalso;obtain⟨h1,h2⟩:=Jf h;have hf:=IU h1;obtain⟨a0,a1,a2,a3,a4⟩:=asq hf;have hsz:=ly hf;obtain⟨f0,f1,t0,t1,n0,n1,u0,u1,s0,s1⟩:=hf;rw[h2]at a0 a1 a2 a3 a4;rw[a0,a1,a2,a3,a4,MY J J,MY J J,MY J J,MY J J]at hx;have hx:n=x:=hx;subst hx;refine hc ⟨λe=> ?_,by rw[h1];exact h2⟩;rw[h2,e]at hsz;exact absurd hsz<|by decide
def arT{n:A3}(hf:Tu n):GQ [32] 0 4 (wrL n)=[B2 n.fr,B2 n.nu,B2 n.to,B2 n.un,L n.tx]:=by
 obtain⟨f0,f1,t0,t1,n0,n1,u0,u1,s0,s1⟩:=hf;unfold wrL;rw[LW<|HM f0,LW<|HM J,LW<|HM t0,LW<|HM J];rfl
def iP:∀(k:Nat) (l:List UInt8),∀p∈GQ [32] 0 k l,p.length<=l.length
 | 0,l,p,hp=>by
  obtain rfl:=CN.1 hp;exact Ar _
 | k+1,l,p,hp=>by
  obtain h|⟨w,r,h,rfl⟩:=LZ l
  .rw[X8 h]at hp;obtain rfl:=CN.1 hp;exact Ar _
  .rw[LW h]at hp;obtain rfl|hp:=Bm.1 hp
   .simp
   .have:=iP k r p hp;simp;omega
def ig:∀(k:Nat) (l:List UInt8),(GQ [32] 0 k l).length<=k+1
 | 0,l=>Ar _
 | k+1,l=>by
  obtain h|⟨w,r,h,rfl⟩:=LZ l
  .rw[X8 h];simp
  .rw[LW h];have:=ig k r;simp;omega
def akL{s:A1}(hs:s.size<=1048576):VC (s,())=I (Ti<|DC s,()):=by
 unfold VC;simp only[ash hs,A6];generalize hk:min 5 (s.size+1) - 1=k;have hsz:=iP k<|L s;have hln:=ig k<|L s;have hwr:∀n,DC s=I n->GQ [32] 0 k (L s)=[B2 n.fr,B2 n.nu,B2 n.to,B2 n.un,L n.tx]:=λn hn=>by
  obtain⟨h1,h2⟩:=Jf hn;have:=ly<|IU h1;rw[h2]at this;obtain rfl:k=4:=J
  rw[← h2,Qs];exact arT<|IU h1
 generalize GQ [32] 0 k (L s)=ps at *;by_cases h5:ps.length=5
 .match ps,h5 with
  | [p0,p1,p2,p3,p4],_=>
   have hb:∀p∈[p0,p1,p2,p3,p4],(B p).size<=1048576:=λp hp=>by
    have:=hsz p hp;rw[Aw]at this;rw[BP];omega
   have e5:(!decide (((([p0,p1,p2,p3,p4]:List (List UInt8)).map B).length:Int)=5))=A0:=rfl;have e6:(U (0<=4)&&U ((4:Int)<=((([p0,p1,p2,p3,p4]:List (List UInt8)).map B).length:Int)))=Y:=rfl;have e7:BR (AK 4) (([p0,p1,p2,p3,p4]:List (List UInt8)).map B)=[B p0,B p1,B p2,B p3]:=rfl;simp only[e5,e6,e7,A2,A4];rw[aAp y9 (λw hw=>by
    simp only[Bm,List.not_mem_nil,or_false]at hw;obtain rfl|rfl|rfl|rfl:=hw
    .exact hb p0 y9
    .exact hb p1 y9
    .exact hb p2 y9
    .exact hb p3 y9)]
   have oO:BK [B p0,B p1,B p2,B p3].length (λi=>(Ap<|[B p0,B p1,B p2,B p3].getD i noB).2)=((Ap<|B p0).2&&((Ap<|B p1).2&&((Ap<|B p2).2&&((Ap<|B p3).2&&Y)))):=rfl;rw[oO];obtain ha|ha:=tf ((Ap<|B p0).2&&((Ap<|B p1).2&&((Ap<|B p2).2&&((Ap<|B p3).2&&Y))))
   .rw[ha];simp only[A2,A6,AA,A4,DO,JM];have i0:inb 0 [(Ap<|B p0).1,(Ap<|B p1).1,(Ap<|B p2).1,(Ap<|B p3).1].length=Y:=rfl;have i1:inb 1 [(Ap<|B p0).1,(Ap<|B p1).1,(Ap<|B p2).1,(Ap<|B p3).1].length=Y:=rfl;have i2:inb 2 [(Ap<|B p0).1,(Ap<|B p1).1,(Ap<|B p2).1,(Ap<|B p3).1].length=Y:=rfl;have i3:inb 3 [(Ap<|B p0).1,(Ap<|B p1).1,(Ap<|B p2).1,(Ap<|B p3).1].length=Y:=rfl;have i4:inb 4 [B p0,B p1,B p2,B p3,B p4].length=Y:=rfl;have r0: @rd Int aEo [(Ap<|B p0).1,(Ap<|B p1).1,(Ap<|B p2).1,(Ap<|B p3).1] 0=(Ap<|B p0).1:=rfl;have r1: @rd Int aEo [(Ap<|B p0).1,(Ap<|B p1).1,(Ap<|B p2).1,(Ap<|B p3).1] 1=(Ap<|B p1).1:=rfl;have r2: @rd Int aEo [(Ap<|B p0).1,(Ap<|B p1).1,(Ap<|B p2).1,(Ap<|B p3).1] 2=(Ap<|B p2).1:=rfl;have r3: @rd Int aEo [(Ap<|B p0).1,(Ap<|B p1).1,(Ap<|B p2).1,(Ap<|B p3).1] 3=(Ap<|B p3).1:=rfl;have r4: @rd A1 aEv [B p0,B p1,B p2,B p3,B p4] 4=B p4:=rfl;have hp4:=hb p4 y9;simp only[i0,i1,i2,i3,i4,r0,r1,r2,r3,r4,A2,Vh hp4,Uv hp4,A6,Dt,Df,show ∀c,An c Y=Y from λc=>rfl];generalize hx:(⟨(Ap<|B p0).1,(Ap<|B p1).1,(Ap<|B p2).1,(Ap<|B p3).1,B p4⟩:A3)=x at *;by_cases hc:At x=Y/\wr x=s
    .obtain⟨h1,h2⟩:=hc;rw[A9<|by simp[h1,h2],← h2,Pj h1];subst hx;rfl
    .rw[A5 (by
      obtain h1|h1:=tf (At x)
      .have h2:¬wr x=s:=λh=>hc ⟨h1,h⟩;simp[h1,h2]
      .simp[h1])]
     cases h:DC s with
     | none=>rfl
     | some n=>
      exfalso;obtain⟨h1,h2⟩:=Jf h;have hf:=IU h1;have hp:=hwr n h;simp only[Lt,and_true]at hp;obtain⟨rfl,rfl,rfl,rfl,rfl⟩:=hp;obtain⟨f0,f1,t0,t1,n0,n1,u0,u1,s0,s1⟩:=hf;rw[J0 J J,J0 J J,J0 J J,J0 J J,B_L]at hx;have hx:n=x:=hx;subst hx;exact hc ⟨h1,h2⟩
   .rw[ha];simp only[A6,AG,A2,A4];cases h:DC s with
    | none=>rfl
    | some n=>
     exfalso;obtain⟨h1,h2⟩:=Jf h;have hf:=IU h1;have hp:=hwr n h;simp only[Lt,and_true]at hp;obtain⟨rfl,rfl,rfl,rfl,rfl⟩:=hp;obtain⟨f0,f1,t0,t1,n0,n1,u0,u1,s0,s1⟩:=hf;rw[J0 J J,J0 J J,J0 J J,J0 J J]at ha;cases ha
 .have e5:(!decide (((ps.map B).length:Int)=5))=Y:=by simp;omega
  simp only[e5,A2];cases h:DC s with
  | none=>rfl
  | some n=>
   have:=congrArg JL<|hwr n h;simp at this;exact absurd this h5
abbrev KL:=Int×Int×Int×List A3×List Mark×List A3×D
abbrev tK(k:AJ):KL:=(k.id,k.ti,k.nx,k.held,k.marks,k.inbox,())
def B0(r:Option ((KL×Bool×D)×D))(o:Option AJ):Prop:=match o with
 | some k=>r=I ((tK k,Y,()),())
 | none=>∃t,r=I ((t,A0,()),())
def B0.no{t:KL}:B0 (I ((t,A0,()),())) G:=⟨t,rfl⟩
def B0.eta{r:Option ((KL×Bool×D)×D)}{o:Option AJ}(h:B0 r o):
  B0 (r.bind λr=>I (((r.1.1.1,r.1.1.2.1,r.1.1.2.2.1,r.1.1.2.2.2.1,r.1.1.2.2.2.2.1,r.1.1.2.2.2.2.2.1,()),r.1.2.1,()),())) o:=by
 cases o with
 | some k=>
  have:r=_:=h;subst this;rfl
 | none=>
  obtain⟨t,rfl⟩:=h;exact⟨t,rfl⟩
def B0.ite{c:Bool}{a b:Option ((KL×Bool×D)×D)}{x y:Option AJ}(h1:c=Y->B0 a x)(h2:c=A0->B0 b y):B0 (if c then a else b) (if c then x else y):=by
 cases c
 .exact h2 rfl
 .exact h1 rfl
def B0.neg{c:Bool}{t:KL}{b:Option ((KL×Bool×D)×D)}{y:Option AJ}(h2:c=A0->B0 b y):B0 (if c then I ((t,A0,()),()) else b) (if c then G else y):=B0.ite (λ_=>B0.no) h2
def EV(k:AJ)(n:A3):Option AJ:=
 if !At n then G else if U (n.un<=k.ti) then G else if U (0<=AU k.held n.fr n.nu) then G else if U (0<=AU k.inbox n.fr n.nu) then G else if U (0<=Bj k.marks n.fr n.nu) then G else
 if U (12<(j8 k.held:Int)+k.marks.length+1) then G else
 if U (n.to=k.id) then I ⟨k.id,k.ti,k.nx,k.held,EE k.marks ⟨n.fr,n.nu,n.un⟩,DY k.inbox n⟩ else I ⟨k.id,k.ti,k.nx,DY k.held n,k.marks,k.inbox⟩
def yq{id ti nx fr nu tt un:Int}{tx:A1}{held:List A3}{marks:List Mark}{inbox:List A3}(sm:DQ held marks inbox)(hs:tx.size<=1048576):
  B0 (Vg ((id,ti,nx,held,marks,inbox,()),(fr,nu,tt,un,tx,()),())) (EV ⟨id,ti,nx,held,marks,inbox⟩ ⟨fr,nu,tt,un,tx⟩):=by
 have hl:=sm.hl;have ml:=sm.ml;unfold Vg EV;simp only[Vh hs,LQ sm.hl,LQ sm.il,Rq sm.ml,fB sm.hl,fB sm.il,gi sm.ml,A6,
  Aa (n:=(held.length:Int)+marks.length) J J,Aa (n:=(held.length:Int)+marks.length+1) J J]
 exact B0.neg λ_=>B0.neg λ_=>B0.neg λ_=>B0.neg λ_=>B0.neg λ_=>B0.neg λ_=>B0.ite (λ_=>rfl) λ_=>rfl
def YI{l:List A3}{n:A3}(h:AU l n.fr n.nu<0):Ow l n=DY l n:=by
 refine aBx λx hx=> ?_;have hne:¬(x.fr=n.fr/\x.nu=n.nu):=λhc=>by
  obtain⟨_,h2⟩|⟨i,h1,_⟩:=G6 l.length (λi=>U ((nA l i).fr=n.fr)&&U ((nA l i).nu=n.nu))
  .obtain⟨j,hj,rfl⟩:=Ct hx;have:=h2 j hj;rw[DW<|Au hj]at this;simp[hc.1,hc.2]at this
  .unfold AU at h;omega
 unfold bef;rw[OZ];simp;omega
def jz{l:List Mark}{n:Mark}(h:Bj l n.mf n.mn<0):Ox l n=EE l n:=by
 refine aBx λx hx=> ?_;have hne:¬(x.mf=n.mf/\x.mn=n.mn):=λhc=>by
  obtain⟨_,h2⟩|⟨i,h1,_⟩:=G6 l.length (λi=>U ((mA l i).mf=n.mf)&&U ((mA l i).mn=n.mn))
  .obtain⟨j,hj,rfl⟩:=Ct hx;have:=h2 j hj;rw[Fe<|Au hj]at this;simp[hc.1,hc.2]at this
  .unfold Bj at h;omega
 unfold bef;rw[OZ];simp;omega
def aAI{id ti nx fr nu tt un:Int}{tx:A1}{held:List A3}{marks:List Mark}{inbox:List A3}(sm:DQ held marks inbox)(hs:tx.size<=1048576):
  B0 (VT ((id,ti,nx,held,marks,inbox,()),(fr,nu,tt,un,tx,()),())) (EV ⟨id,ti,nx,held,marks,inbox⟩ ⟨fr,nu,tt,un,tx⟩):=by
 have hl:=sm.hl;have ml:=sm.ml;have ayb:dE ((id,ti,nx,held,marks,inbox,()),(fr,nu,tt,un,tx,()),())=
   I ((At ⟨fr,nu,tt,un,tx⟩&&(U (ti<un)&&(U (AU held fr nu<0)&&(U (Bj marks fr nu<0)&&U (AU inbox fr nu<0)))),()),()):=by
  unfold dE;simp only[VZ hs,Ja sm.hl,Ja sm.il,Rf sm.ml,A6,Dt,Df,show ∀c,An c Y=Y from λc=>rfl,A2];obtain h1|h1:=tf (At ⟨fr,nu,tt,un,tx⟩)<;>obtain h2|h2:=tf (U<|ti<un)<;>obtain h3|h3:=tf (U<|AU held fr nu<0)<;>simp only[h1,h2,h3,A2,A4,AR,AM]
 unfold VT EV;have Em:=bS (l:=held) (fr:=fr) (nu:=nu) (tt:=tt) (un:=un) (tx:=tx) sm.hl;have Zl:=bS (l:=inbox) (fr:=fr) (nu:=nu) (tt:=tt) (un:=un) (tx:=tx) sm.il;have ayY:=qD (l:=marks) (mf:=fr) (mn:=nu) (mu:=un) sm.ml;simp only[ayb,Em,Zl,ayY,A6];obtain h1|h1:=tf (At ⟨fr,nu,tt,un,tx⟩)
 .rcases Eg un ti with h2|h2
  .simp only[h1,h2,AT,Ae,AR,AM,AG,AA,A2,A4];exact B0.no
  .rcases sgn (AU held fr nu) with h3|h3
   .rcases sgn (Bj marks fr nu) with h4|h4
    .rcases sgn (AU inbox fr nu) with h5|h5
     .have q1:AU held fr nu<0:=of_eq_true h3.1;have q2:Bj marks fr nu<0:=of_eq_true h4.1;have q3:AU inbox fr nu<0:=of_eq_true h5.1;have lN:=MT (λx:A3=>bef x.fr x.nu fr nu) held ⟨fr,nu,tt,un,tx⟩;have lM:=MT (λx:Mark=>bef x.mf x.mn fr nu) marks ⟨fr,nu,un⟩;have eN:Ow held ⟨fr,nu,tt,un,tx⟩=DY held ⟨fr,nu,tt,un,tx⟩:=YI q1;have eI:Ow inbox ⟨fr,nu,tt,un,tx⟩=DY inbox ⟨fr,nu,tt,un,tx⟩:=YI q3;have eM:Ox marks ⟨fr,nu,un⟩=EE marks ⟨fr,nu,un⟩:=jz q2;have l1:((DY held ⟨fr,nu,tt,un,tx⟩).length:Int)=held.length+1:=by unfold DY;rw[lN];omega
      have l2:((EE marks ⟨fr,nu,un⟩).length:Int)=marks.length+1:=by unfold EE;rw[lM];omega
      simp only[h1,h2,h3,h4,h5,eN,eI,eM,l1,l2,AT,Ae,AR,AA,A4,
       Aa (n:=(held.length:Int)+1+marks.length) J J,Aa (n:=(held.length:Int)+(marks.length+1)) J J]
      obtain h6|h6:=Eg ((held.length:Int)+marks.length+1) 12
      .have a1:U ((held.length:Int)+1+marks.length<=12)=Y:=by have:=of_eq_true h6.1;simp;omega
       have a2:U ((held.length:Int)+(marks.length+1)<=12)=Y:=by have:=of_eq_true h6.1;simp;omega
       simp only[a1,a2,h6,Ae,A4];by_cases h7:tt=id
       .simp only[h7,AT,AA,A4,A2];rfl
       .simp only[h7,Ae,AG,A4,A2];rfl
      .have a1:U ((held.length:Int)+1+marks.length<=12)=A0:=by have:=of_eq_true h6.2;simp;omega
       have a2:U ((held.length:Int)+(marks.length+1)<=12)=A0:=by have:=of_eq_true h6.2;simp;omega
       simp only[a1,a2,h6,AT,A2];by_cases h7:tt=id
       .simp only[h7,AT,AA,A4];exact B0.no
       .simp only[h7,Ae,AG,A2];exact B0.no
     .simp only[h1,h2,h3,h4,h5,AT,Ae,AR,AM,AG,AA,A2,A4];exact B0.no
    .simp only[h1,h2,h3,h4,AT,Ae,AR,AM,AG,AA,A2,A4,ite_self];exact B0.no
   .simp only[h1,h2,h3,AT,Ae,AR,AM,AG,AA,A2,A4];exact B0.no
 .simp only[h1,AM,AG,A2];exact B0.no
abbrev Dx:A1:=B [116,105,109,101]
abbrev Eu:A1:=B [110,101,120,116]
abbrev DX:A1:=B [111,119,110]
abbrev EQ:A1:=B [116,97,107,101]
abbrev ER:A1:=B [104,101,108,100]
abbrev Ed:A1:=B [105,110,98,111,120]
abbrev Bx:A1:=B [108,101,116]
abbrev CG:A1:=B [101,97,116]
abbrev D3:A1:=B [109,97,114,107]
def HZ(k:AJ)(w:A1)(n:Int):Option AJ:=
 if U (w=Dx)&&U (k.ti<n) then I ⟨k.id,n,k.nx,H7 n k.held,Jq n k.marks,k.inbox⟩ else if U (w=Eu)&&U (k.nx<n) then I ⟨k.id,k.ti,n,k.held,k.marks,k.inbox⟩ else G
def ap2{id ti nx n:Int}{w:A1}{held:List A3}{marks:List Mark}{inbox:List A3}(sm:DQ held marks inbox):
  B0 (Vz ((id,ti,nx,held,marks,inbox,()),w,n,())) (HZ ⟨id,ti,nx,held,marks,inbox⟩ w n):=by
 unfold Vz HZ;simp only[amj sm,A6];exact B0.ite (λ_=>rfl) λ_=>B0.ite (λ_=>rfl) λ_=>B0.no
def GB(k:AJ)(w:A1)(n:A3):Option AJ:=
 if U (w=DX)&&(U (n.fr=k.id)&&U (n.nu=k.nx)) then EV ⟨k.id,k.ti,k.nx+1,k.held,k.marks,k.inbox⟩ n else if U (w=EQ)&& !decide (n.fr=k.id) then EV k n else
 if U (0<=AU k.held n.fr n.nu)||decide (0<=AU k.inbox n.fr n.nu) then G else if U (w=ER) then I ⟨k.id,k.ti,k.nx,DY k.held n,k.marks,k.inbox⟩ else if U (w=Ed) then I ⟨k.id,k.ti,k.nx,k.held,k.marks,DY k.inbox n⟩ else G
def anY{id ti nx fr nu tt un:Int}{w tx:A1}{held:List A3}{marks:List Mark}{inbox:List A3}(sm:DQ held marks inbox)(hs:tx.size<=1048576)(h0:0<=nx)(h1:nx<=1000):
  B0 (Ve ((id,ti,nx,held,marks,inbox,()),w,(fr,nu,tt,un,tx,()),())) (GB ⟨id,ti,nx,held,marks,inbox⟩ w ⟨fr,nu,tt,un,tx⟩):=by
 have hj:(if U (w=DX) then(I (.inr (w,(id,ti,nx,held,marks,inbox,()),(fr,nu,tt,un,tx,()),(0,0,0,([]:List A3),([]:List Mark),([]:List A3),()),U (fr=id)&&U (nu=nx),())):Option (((KL×Bool×D)×D) ⊕ (A1×KL×(Int×Int×Int×Int×A1×D)×KL×Bool×D))) else
   I (.inr (w,(id,ti,nx,held,marks,inbox,()),(fr,nu,tt,un,tx,()),(0,0,0,([]:List A3),([]:List Mark),([]:List A3),()),A0,())))=
   I (.inr (w,(id,ti,nx,held,marks,inbox,()),(fr,nu,tt,un,tx,()),(0,0,0,([]:List A3),([]:List Mark),([]:List A3),()),U (w=DX)&&(U (fr=id)&&U (nu=nx)),())):=by
  cases U (w=DX)<;>rfl
 unfold Ve GB;simp only[hj,Bd];refine B0.ite (λ_=> ?_) λ_=> ?_
 .rw[Aa J J];exact(yq sm hs).eta
 refine B0.ite (λ_=>(yq sm hs).eta) λ_=> ?_;simp only[LQ sm.hl,LQ sm.il,A6,Dt,Df,show ∀c,An c Y=Y from λc=>rfl,A2];refine B0.neg λ_=> ?_;simp only[fB sm.hl,fB sm.il,A6];exact B0.ite (λ_=>rfl) λ_=>B0.ite (λ_=>rfl) λ_=>B0.no
def Eo{l:List A3}{f n:Int}(h:0<=AU l f n):(AU l f n).toNat<l.length/\((AU l f n).toNat:Int)=AU l f n/\(nA l (AU l f n).toNat).fr=f/\(nA l (AU l f n).toNat).nu=n:=by
 obtain⟨h1,_⟩|⟨i,h1,h2,h3,_⟩:=G6 l.length (λi=>U ((nA l i).fr=f)&&U ((nA l i).nu=n))
 .unfold AU at h;omega
 .have e:AU l f n=(i:Int):=h1;rw[e];simp at h3;exact⟨h2,rfl,h3.1,h3.2⟩
def Sk{l:List Mark}{f n:Int}(h:0<=Bj l f n):(Bj l f n).toNat<l.length/\((Bj l f n).toNat:Int)=Bj l f n/\(mA l (Bj l f n).toNat).mf=f/\(mA l (Bj l f n).toNat).mn=n:=by
 obtain⟨h1,_⟩|⟨i,h1,h2,h3,_⟩:=G6 l.length (λi=>U ((mA l i).mf=f)&&U ((mA l i).mn=n))
 .unfold Bj at h;omega
 .have e:Bj l f n=(i:Int):=h1;rw[e];simp at h3;exact⟨h2,rfl,h3.1,h3.2⟩
def Mb{l:List A3}{f n:Int}(h:0<=AU l f n):inb (AU l f n) l.length=Y:=by
 obtain⟨h1,h2,_⟩:=Eo h;rw[← h2];exact AW h1
def aC0{l:List A3}{f n:Int}:An (U<|0<=AU l f n) (inb (AU l f n) l.length)=Y:=by
 obtain h|h:=tf (U<|0<=AU l f n)
 .rw[h,IP,Mb<|Bc h]
 .rw[h,HL]
def EF(l:List A3)(m:Mark):Bool:=U (0<=AU l m.mf m.mn)&&U ((nA l (AU l m.mf m.mn).toNat).un=m.mu)
def Er(k:AJ)(w:A1)(m:Mark):Option AJ:=
 if U (w=Bx)&&EF k.held m then I ⟨k.id,k.ti,k.nx,EX k.held (AU k.held m.mf m.mn).toNat,EE k.marks m,k.inbox⟩ else
 if U (w=CG)&&EF k.inbox m then I ⟨k.id,k.ti,k.nx,k.held,k.marks,EX k.inbox (AU k.inbox m.mf m.mn).toNat⟩ else
 if U (w=D3)&& !decide (0<=Bj k.marks m.mf m.mn) then I ⟨k.id,k.ti,k.nx,k.held,EE k.marks m,k.inbox⟩ else G
def abo{l:List A3}{f n:Int}(hl:l.length<=1048576)(h:0<=AU l f n):Rl (l,AU l f n,())=I ((EX l (AU l f n).toNat,()),()):=by
 obtain⟨h1,h2,_⟩:=Eo h
 conv=>lhs;rw[← h2]
 exact amh hl h1
def anZ{id ti nx a b c:Int}{w:A1}{held:List A3}{marks:List Mark}{inbox:List A3}(sm:DQ held marks inbox):
  B0 (Vf ((id,ti,nx,held,marks,inbox,()),w,(a,b,c,()),())) (Er ⟨id,ti,nx,held,marks,inbox⟩ w ⟨a,b,c⟩):=by
 unfold Vf Er;simp only[LQ sm.hl,LQ sm.il,Rq sm.ml,A6,aC0,HL,A2];have hj:(if U (w=Bx) then(I (.inr (w,(id,ti,nx,held,marks,inbox,()),(a,b,c,()),(0,0,0,([]:List A3),([]:List Mark),([]:List A3),()),AU held a b,AU inbox a b,U<|0<=Bj marks a b,U (0<=AU held a b)&&U ((@rd A3 y7 held<|AU held a b).un=c),())):Option (((KL×Bool×D)×D) ⊕ (A1×KL×(Int×Int×Int×D)×KL×Int×Int×Bool×Bool×D))) else
   I (.inr (w,(id,ti,nx,held,marks,inbox,()),(a,b,c,()),(0,0,0,([]:List A3),([]:List Mark),([]:List A3),()),AU held a b,AU inbox a b,U<|0<=Bj marks a b,A0,())))=
   I (.inr (w,(id,ti,nx,held,marks,inbox,()),(a,b,c,()),(0,0,0,([]:List A3),([]:List Mark),([]:List A3),()),AU held a b,AU inbox a b,U<|0<=Bj marks a b,U (w=Bx)&&EF held ⟨a,b,c⟩,())):=by
  cases U (w=Bx)<;>rfl
 simp only[hj,Bd];refine B0.ite (λh=> ?_) λ_=> ?_
 .simp only[EF,AD,decide_eq_true_eq]at h;simp only[abo sm.hl h.2.1,gi sm.ml,A6];rfl
 simp only[aC0,HL,A2];have hj2:(if U (w=CG) then(I (.inr (w,(id,ti,nx,held,marks,inbox,()),(a,b,c,()),(0,0,0,([]:List A3),([]:List Mark),([]:List A3),()),AU inbox a b,U<|0<=Bj marks a b,U (0<=AU inbox a b)&&U ((@rd A3 y7 inbox<|AU inbox a b).un=c),())):Option (((KL×Bool×D)×D) ⊕ (A1×KL×(Int×Int×Int×D)×KL×Int×Bool×Bool×D))) else
   I (.inr (w,(id,ti,nx,held,marks,inbox,()),(a,b,c,()),(0,0,0,([]:List A3),([]:List Mark),([]:List A3),()),AU inbox a b,U<|0<=Bj marks a b,A0,())))=
   I (.inr (w,(id,ti,nx,held,marks,inbox,()),(a,b,c,()),(0,0,0,([]:List A3),([]:List Mark),([]:List A3),()),AU inbox a b,U<|0<=Bj marks a b,U (w=CG)&&EF inbox ⟨a,b,c⟩,())):=by
  cases U (w=CG)<;>rfl
 simp only[hj2,Bd];refine B0.ite (λh=> ?_) λ_=> ?_
 .simp only[EF,AD,decide_eq_true_eq]at h;simp only[abo sm.il h.2.1,A6];rfl
 simp only[gi sm.ml,A6];exact B0.ite (λ_=>rfl) λ_=>B0.no
structure El (k:AJ):Prop where
 id0:0<=k.id
 id1:k.id<=3
 t0:0<=k.ti
 t1:k.ti<=999
 n0:1<=k.nx
 n1:k.nx<=100
 hl:k.held.length<=6
 h:DJ k.held=Y
 ml:k.marks.length<=12
 m:FM k.marks=Y
 il:k.inbox.length<=6
 i:DJ k.inbox=Y
 ho:∀i,i<k.held.length->Gy k.id k.ti k.nx k.held k.marks i=Y
 mo:∀i,i<k.marks.length->J3 k.id k.ti k.nx k.marks i=Y
 io:∀i,i<k.inbox.length->IV k.id k.ti k.nx k.marks k.inbox i=Y
def Bu{k:AJ}(h:As k=Y):El k:=by
 unfold As at h;simp only[AD,AY,decide_eq_true_eq,DB]at h;obtain⟨⟨a,b⟩,⟨c,d⟩,⟨e,f⟩,⟨g,i⟩,⟨j,l⟩,⟨m,n⟩,o,p,q⟩:=h;exact⟨a,b,c,d,e,f,J,i,J,l,J,n,o,p,q⟩
def Gs{l:List A3}(h:DJ l=Y){i:Nat}(hi:i<l.length):At (nA l i)=Y:=by
 have:=DB.1 h i hi;simp only[AD]at this;exact this.1
def W9{l:List Mark}(h:FM l=Y){i:Nat}(hi:i<l.length):FB (mA l i)=Y:=by
 have:=DB.1 h i hi;simp only[AD]at this;exact this.1
def Pc{l:List A3}(h:DJ l=Y){x:A3}(hx:x∈l):At x=Y:=by
 obtain⟨i,hi,rfl⟩:=Ct hx;have:=Gs h hi;rwa[DW<|Au hi]at this
def aAO{l:List Mark}(h:FM l=Y){x:Mark}(hx:x∈l):FB x=Y:=by
 obtain⟨i,hi,rfl⟩:=Ct hx;have:=W9 h hi;rwa[Fe<|Au hi]at this
def KX{n:A3}(h:At n=Y):GC n:=by
 have:=(IU h).s1;unfold GC;omega
def El.sm{k:AJ}(h:El k):DQ k.held k.marks k.inbox:=by
 obtain⟨id0,id1,t0,t1,n0,n1,hl,hh,ml,m,il,hi,ho,mo,io⟩:=h;exact⟨J,λx hx=>KX<|Pc hh hx,J,J,λx hx=>KX<|Pc hi hx⟩
def Q1{l:List A3}{n:A3}(hl:l.length<=6)(h:∀x∈l,GC x)(hn:GC n):(DY l n).length<=1048576/\ ∀x∈DY l n,GC x:=by
 refine⟨by unfold DY;rw[MT];omega,λx hx=> ?_⟩;obtain rfl|hx:=GA _ hx
 .exact hn
 .exact h x hx
def Sn{l:List Mark}{n:Mark}(hl:l.length<=12):(EE l n).length<=1048576:=by unfold EE;rw[MT];omega
def Xn{l:List A3}{i:Nat}(hl:l.length<=6)(h:∀x∈l,GC x):(EX l i).length<=1048576/\ ∀x∈EX l i,GC x:=by
 refine⟨by unfold EX;simp;omega,λx hx=> ?_⟩;unfold EX at hx;obtain hx|hx:=BL.1 hx
 .exact h x (I9 hx)
 .exact h x<|Ku hx
abbrev SmK(k:AJ):Prop:=DQ k.held k.marks k.inbox
def YL{k k':AJ}{n:A3}(hf:El k)(hk:k'.held=k.held/\k'.marks=k.marks/\k'.inbox=k.inbox){o:AJ}(h:EV k' n=I o):SmK o:=by
 have sm:=hf.sm;have l1:=hf.hl;have l2:=hf.ml;have l3:=hf.il;unfold EV at h;rw[hk.1,hk.2.1,hk.2.2]at h;split at h
 .cases h
 rename_i hn;have hn:GC n:=KX (by simpa using hn)
 iterate 5 (split at h;· cases h)
 split at h<;>cases h
 .have a:=Q1 l3 sm.i hn;exact⟨sm.hl,sm.h,Sn l2,a.1,a.2⟩
 .have a:=Q1 l1 sm.h hn;exact⟨a.1,a.2,sm.ml,sm.il,sm.i⟩
def aw6{k:AJ}{w:A1}{n:Int}(hf:El k){o:AJ}(h:HZ k w n=I o):SmK o:=by
 have sm:=hf.sm;have l1:=hf.hl;have l2:=hf.ml;unfold HZ at h;split at h
 .cases h;have a:=Ij (λx:A3=>U<|n<x.un) k.held;have b:=Ij (λx:Mark=>U<|n<x.mu) k.marks;exact⟨by unfold H7;simp only;omega,λx hx=>sm.h x (FQ.1 hx).1,by unfold Jq;simp only;omega,sm.il,sm.i⟩
 .split at h<;>cases h;exact sm
def aqa{k:AJ}{w:A1}{n:A3}(hf:El k)(hn:At n=Y){o:AJ}(h:GB k w n=I o):SmK o:=by
 have sm:=hf.sm;unfold GB at h;split at h
 .exact YL (k':=⟨k.id,k.ti,k.nx+1,k.held,k.marks,k.inbox⟩) hf ⟨rfl,rfl,rfl⟩ h
 split at h
 .exact YL (k':=k) hf ⟨rfl,rfl,rfl⟩ h
 split at h
 .cases h
 split at h
 .cases h;have a:=Q1 hf.hl sm.h<|KX hn;exact⟨a.1,a.2,sm.ml,sm.il,sm.i⟩
 split at h<;>cases h;have a:=Q1 hf.il sm.i<|KX hn;exact⟨sm.hl,sm.h,sm.ml,a.1,a.2⟩
def aqF{k:AJ}{w:A1}{m:Mark}(hf:El k){o:AJ}(h:Er k w m=I o):SmK o:=by
 have sm:=hf.sm;unfold Er at h;split at h
 .cases h;have a:=Xn (i:=(AU k.held m.mf m.mn).toNat) hf.hl sm.h;exact⟨a.1,a.2,Sn hf.ml,sm.il,sm.i⟩
 split at h
 .cases h;have a:=Xn (i:=(AU k.inbox m.mf m.mn).toNat) hf.il sm.i;exact⟨sm.hl,sm.h,sm.ml,a.1,a.2⟩
 split at h<;>cases h;exact⟨sm.hl,sm.h,Sn hf.ml,sm.il,sm.i⟩
def iX{k:AJ}{w:A1}{m:Mark}(hf:El k)(hm:FB m=A0):Er k w m=G\/ ∃o,Er k w m=I o/\As o=A0:=by
 have hit:∀l,DJ l=Y->EF l m=A0:=λl hl=>by
  unfold EF;obtain h|h:=tf (U<|0<=AU l m.mf m.mn)
  .obtain⟨h1,_,h2,h3⟩:=Eo<|Bc h;rw[h,AR,decide_eq_false_iff_not];intro h4;have h5:=IU<|Gs hl h1;have:FB m=Y:=by
    unfold FB;simp only[AD,AY];have:=h5.f0;have:=h5.f1;have:=h5.n0;have:=h5.n1;have:=h5.u0;have:=h5.u1;omega
   rw[this]at hm;cases hm
  .rw[h];rfl
 unfold Er;rw[hit _ hf.h,hit _ hf.i,BY,BY,A4,A4];split
 .refine .inr ⟨_,rfl, ?_⟩;obtain h|h:=tf (As ⟨k.id,k.ti,k.nx,k.held,EE k.marks m,k.inbox⟩)
  .have:=aAO (Bu h).m (Kd (λx=>bef x.mf x.mn m.mf m.mn) (l:=k.marks) (n:=m)<|.inl rfl);rw[hm]at this;cases this
  .exact h
 .exact .inl rfl
def Gz(r:A1):Option Mark:=match GQ [32] 0 ((L r).count 32) (L r) with
 | [p,q,t]=>if(Ap<|B p).2&&((Ap<|B q).2&&((Ap<|B t).2&&Y)) then I ⟨(Ap<|B p).1,(Ap<|B q).1,(Ap<|B t).1⟩ else G
 | _=>G
def BV(k:AJ)(w r:A1):Option AJ:=
 if U (w=Dx)||decide (w=Eu) then(if(Ap r).2 then HZ k w (Ap r).1 else G) else
 if U (w=DX)||(U (w=EQ)||(U (w=ER)||decide (w=Ed))) then(match DC r with|some n=>GB k w n|none=>G) else
 if U (w=Bx)||(U (w=CG)||decide (w=D3)) then(match Gz r with|some m=>Er k w m|none=>G) else G
def GD(k:AJ)(rec:A1):Option AJ:=if !(NL<|L rec).isSome then G else BV k (wd rec).1 (wd rec).2
def asx{id ti nx:Int}{w r:A1}{held:List A3}{marks:List Mark}{inbox:List A3}(sm:DQ held marks inbox)(hr:r.size<=1048576):
  B0 ((cW (r,B [32],())).bind λr46=>(RY (r46.1.1,())).bind λr47=>
   if r47.1.2.1&&U ((j8 r47.1.1:Int)=3) then(if inb 0 r47.1.1.length then(if inb 1 r47.1.1.length then(if inb 2 r47.1.1.length then
    (Vf ((id,ti,nx,held,marks,inbox,()),w,((@rd Int aEo r47.1.1 0),(@rd Int aEo r47.1.1 1),(@rd Int aEo r47.1.1 2),()),())).bind λr48=>I (((r48.1.1.1,r48.1.1.2.1,r48.1.1.2.2.1,r48.1.1.2.2.2.1,r48.1.1.2.2.2.2.1,r48.1.1.2.2.2.2.2.1,()),r48.1.2.1,()),())
    else G) else G) else G)
   else I (((id,ti,nx,held,marks,inbox,()),A0,()),())) (match Gz r with|some m=>Er ⟨id,ti,nx,held,marks,inbox⟩ w m|none=>G):=by
 unfold Gz;simp only[av9 hr,A6];have hsz:=iP ((L r).count 32)<|L r;have hln:=ig ((L r).count 32)<|L r;have azw:(L r).count 32<=r.size:=List.count_le_length;generalize GQ [32] 0 ((L r).count 32) (L r)=ps at *;have hb:∀p∈ps,(B p).size<=1048576:=λp hp=>by
  have:=hsz p hp;rw[Aw]at this;rw[BP];omega
 rw[aAp o5 (λw hw=>by
  obtain⟨p,hp,rfl⟩:=Bv.1 hw;exact hb p hp)]
 simp only[A6];by_cases h3:ps.length=3
 .match ps,h3 with
  | [p,q,t],_=>
   have oO:BK (([p,q,t]:List (List UInt8)).map B).length (λi=>(Ap<|(([p,q,t]:List (List UInt8)).map B).getD i noB).2)=((Ap<|B p).2&&((Ap<|B q).2&&((Ap<|B t).2&&Y))):=rfl;rw[oO];obtain h|h:=tf ((Ap<|B p).2&&((Ap<|B q).2&&((Ap<|B t).2&&Y)))
   .simp only[h,A2];exact(anZ sm).eta
   .simp only[h,A4,AM];exact B0.no
 .have e1:∀c:Bool,(((if c then(((ps.map B).map λw=>(Ap w).1),Y,()) else(([]:List Int),A0,())).2.1&&U ((((if c then(((ps.map B).map λw=>(Ap w).1),Y,()) else(([]:List Int),A0,())):List Int×Bool×D).1.length:Int)=3))=A0):=by
   intro c;cases c
   .rfl
   .simp;omega
  rw[A9 (by rw[e1];simp)];have e2:(match ps with|[p,q,t]=>if(Ap<|B p).2&&((Ap<|B q).2&&((Ap<|B t).2&&Y)) then I (⟨(Ap<|B p).1,(Ap<|B q).1,(Ap<|B t).1⟩:Mark) else G|_=>G)=G:=by
   split
   .exact absurd rfl h3
   .rfl
  rw[e2];exact B0.no
def axL{id ti nx:Int}{w r:A1}{held:List A3}{marks:List Mark}{inbox:List A3}(sm:DQ held marks inbox)(hr:r.size<=1048576){t:KL}:
  B0 ((PT (r,())).bind λr33=>if r33.1.2.1 then(Vz ((id,ti,nx,held,marks,inbox,()),w,r33.1.1,())).bind λr34=>I (((r34.1.1.1,r34.1.1.2.1,r34.1.1.2.2.1,r34.1.1.2.2.2.1,r34.1.1.2.2.2.2.1,r34.1.1.2.2.2.2.2.1,()),r34.1.2.1,()),())
   else I ((t,A0,()),())) (if(Ap r).2 then HZ ⟨id,ti,nx,held,marks,inbox⟩ w (Ap r).1 else G):=by
 simp only[eH (J:r.size<=9223372036854775807),A6];exact B0.ite (λ_=>(ap2 sm).eta) λ_=>B0.no
def axG{id ti nx:Int}{w r:A1}{held:List A3}{marks:List Mark}{inbox:List A3}(sm:DQ held marks inbox)(hr:r.size<=1048576)(h0:0<=nx)(h1:nx<=1000){t:KL}:
  B0 ((VC (r,())).bind λr40=>if r40.1.2.1 then(Ve ((id,ti,nx,held,marks,inbox,()),w,(r40.1.1.1,r40.1.1.2.1,r40.1.1.2.2.1,r40.1.1.2.2.2.1,r40.1.1.2.2.2.2.1,()),())).bind λr41=>
    I (((r41.1.1.1,r41.1.1.2.1,r41.1.1.2.2.1,r41.1.1.2.2.2.1,r41.1.1.2.2.2.2.1,r41.1.1.2.2.2.2.2.1,()),r41.1.2.1,()),())
   else I ((t,A0,()),())) (match DC r with|some n=>GB ⟨id,ti,nx,held,marks,inbox⟩ w n|none=>G):=by
 simp only[akL hr,A6];cases h:DC r with
 | none=>exact B0.no
 | some n=>
  have:=KX (Jf h).1;exact(anY sm this h0 h1).eta
def or3{a b c:Bool}{Ω X:Type}{f:Bool->X}:(if a then(I (.inr<|f a):Option (Ω ⊕ X)) else if b then I (.inr<|f b) else I (.inr<|f c))=I (.inr<|f<|a||(b||c)):=by cases a<;>cases b<;>rfl
def or2{a b:Bool}{Ω X:Type}{f:Bool->X}:(if a then(I (.inr<|f a):Option (Ω ⊕ X)) else I (.inr<|f b))=I (.inr<|f<|a||b):=by cases a<;>rfl
def or4{a b c d:Bool}{Ω X:Type}{f:Bool->X}:(if a then(I (.inr<|f a):Option (Ω ⊕ X)) else if b then I (.inr<|f b) else if c then I (.inr<|f c) else I (.inr<|f d))=I (.inr<|f<|a||(b||(c||d))):=by cases a<;>cases b<;>cases c<;>rfl
def aBt{a b:Bool}{Ω X:Type}{f:Bool->X}{g:X->Option Ω}{m:Option (Ω ⊕ X)}(h:m=(if a then(I (.inr<|f a):Option (Ω ⊕ X)) else I (.inr<|f b))):BT g m=g (f<|a||b):=by rw[h,or2];rfl
def as0{a b c:Bool}{Ω X:Type}{f:Bool->X}{g:X->Option Ω}{m:Option (Ω ⊕ X)}(h:m=(if a then(I (.inr<|f a):Option (Ω ⊕ X)) else if b then I (.inr<|f b) else I (.inr<|f c))):BT g m=g (f<|a||(b||c)):=by rw[h,or3];rfl
def arz{a b c d:Bool}{Ω X:Type}{f:Bool->X}{g:X->Option Ω}{m:Option (Ω ⊕ X)}(h:m=(if a then(I (.inr<|f a):Option (Ω ⊕ X)) else if b then I (.inr<|f b) else if c then I (.inr<|f c) else I (.inr<|f d))):BT g m=g (f<|a||(b||(c||d))):=by rw[h,or4];rfl
def ap3{id ti nx:Int}{rec:A1}{held:List A3}{marks:List Mark}{inbox:List A3}(sm:DQ held marks inbox)(hr:rec.size<=1048576)(h0:0<=nx)(h1:nx<=1000):
  B0 (Vu ((id,ti,nx,held,marks,inbox,()),rec,())) (GD ⟨id,ti,nx,held,marks,inbox⟩ rec):=by
 have hr2:(wd rec).2.size<=1048576:=by have:=(Sj rec).2;omega
 unfold Vu GD BV;simp only[ax0 hr,A6];refine B0.neg λ_=> ?_;rw[aBt (a:=U<|(wd rec).1=Dx) (b:=U<|(wd rec).1=Eu) (f:=λv=>((id,ti,nx,held,marks,inbox,()),(0,0,0,[],[],[],()),(wd rec).1,(wd rec).2,(wd rec).1,v,())) rfl];refine B0.ite (λ_=>axL sm hr2) λ_=> ?_;simp only;rw[arz (a:=U<|(wd rec).1=DX) (b:=U<|(wd rec).1=EQ) (c:=U<|(wd rec).1=ER) (d:=U<|(wd rec).1=Ed) (f:=λv=>((id,ti,nx,held,marks,inbox,()),(0,0,0,[],[],[],()),(wd rec).1,(wd rec).2,(wd rec).1,v,())) rfl];refine B0.ite (λ_=>axG sm hr2 h0 h1) λ_=> ?_;simp only;rw[as0 (a:=U<|(wd rec).1=Bx) (b:=U<|(wd rec).1=CG) (c:=U<|(wd rec).1=D3) (f:=λv=>((id,ti,nx,held,marks,inbox,()),(0,0,0,[],[],[],()),(wd rec).1,(wd rec).2,v,())) rfl];exact B0.ite (λ_=>asx sm hr2) λ_=>B0.no
def asg{k:AJ}{rec:A1}(hf:El k){o:AJ}(h:GD k rec=I o):SmK o:=by
 unfold GD at h;split at h
 .cases h
 unfold BV at h;split at h
 .split at h
  .exact aw6 hf h
  .cases h
 split at h
 .cases hn:DC (wd rec).2 with
  | none=>rw[hn]at h;cases h
  | some n=>rw[hn]at h;exact aqa hf (Jf hn).1 h
 split at h
 .cases hn:Gz (wd rec).2 with
  | none=>rw[hn]at h;cases h
  | some n=>rw[hn]at h;exact aqF hf h
 .cases h
def FP(k:AJ)(rec:A1):AJ×Bool:=
 if As k then(match (GD k rec).filter As with|some k'=>(k',Y)|none=>(k,A0)) else(⟨0,0,0,[],[],[]⟩,A0)
def yt{id ti nx:Int}{rec:A1}{held:List A3}{marks:List Mark}{inbox:List A3}(sm:DQ held marks inbox)(hr:rec.size<=1048576):
  Ru ((id,ti,nx,held,marks,inbox,()),rec,())=I ((tK (FP ⟨id,ti,nx,held,marks,inbox⟩ rec).1,(FP ⟨id,ti,nx,held,marks,inbox⟩ rec).2,()),()):=by
 unfold Ru FP;simp only[gn sm,vk sm,A6];obtain h|h:=tf (As ⟨id,ti,nx,held,marks,inbox⟩)
 .have hf:=Bu h;have ha:=ap3 (id:=id) (ti:=ti) (nx:=nx) sm hr (by have:=hf.n0;simp only at this;omega) (by have:=hf.n1;simp only at this;omega);simp only[h,AA,A4,A2];cases hst:GD ⟨id,ti,nx,held,marks,inbox⟩ rec with
  | none=>
   rw[hst]at ha;obtain⟨t,ht⟩:=ha;simp only[ht,A6,AG,AA,HL,A2,Bt];rfl
  | some o=>
   rw[hst]at ha;have sm':=asg hf hst;rw[show Vu ((id,ti,nx,held,marks,inbox,()),rec,())=I ((tK o,Y,()),()) from ha];simp only[A6,AA,AG,IP,gn sm',vk sm',Dt,Df,A2,Bq,Option.filter_some];obtain h2|h2:=tf (As o)
   .simp only[h2,AA,A4,A2]
   .simp only[h2,AG,A4,A2]
 .simp only[h,AG,A4,A2]
def aqg{id ti nx a b:Int}{held:List A3}{marks:List Mark}{inbox:List A3}(sm:DQ held marks inbox)(h:0<=AU held a b):
  ec ((id,ti,nx,held,marks,inbox,()),a,b,())=I (((id,ti,nx,EX held (AU held a b).toNat,Ox marks ⟨a,b,(nA held (AU held a b).toNat).un⟩,inbox,()),Y,()),()):=by
 obtain⟨h1,h2,_⟩:=Eo h;have hl:=sm.hl;unfold ec;have NO:U (AU held a b<0)=A0:=by simp;omega
 simp only[Ja sm.hl,A6,NO,A4,Mb h,A2];generalize hi:(AU held a b).toNat=i at *;rw[← h2];have e1:(U (0<=(i:Int))&&U ((i:Int)<=(held.length:Int)))=Y:=by simp;omega
 have e2:(U (0<=((i+1:Nat):Int))&&U (((i+1:Nat):Int)<=(held.length:Int)))=Y:=by simp;omega
 simp only[BI h1 (by omega:held.length<=9223372036854775807),e1,e2,A2,Bf,Eb,CR,DZ,Dg,EI,Dc,qD sm.ml,A6];rw[A5<|BD J,A5<|BD J];rfl
def aqh{id ti nx a b:Int}{held:List A3}{marks:List Mark}{inbox:List A3}(sm:DQ held marks inbox)(h:0<=AU inbox a b):
  ee ((id,ti,nx,held,marks,inbox,()),a,b,())=I (((id,ti,nx,held,marks,EX inbox (AU inbox a b).toNat,()),Y,()),()):=by
 obtain⟨h1,h2,_⟩:=Eo h;have hl:=sm.il;unfold ee;have NO:U (AU inbox a b<0)=A0:=by simp;omega
 simp only[Ja sm.il,A6,NO,A4];generalize hi:(AU inbox a b).toNat=i at *;rw[← h2];have e1:(U (0<=(i:Int))&&U ((i:Int)<=(inbox.length:Int)))=Y:=by simp;omega
 have e2:(U (0<=((i+1:Nat):Int))&&U (((i+1:Nat):Int)<=(inbox.length:Int)))=Y:=by simp;omega
 simp only[BI h1 (by omega:inbox.length<=9223372036854775807),e1,e2,A2,Bf,Eb,CR,DZ,Dg,EI];rw[A5<|BD J,A5<|BD J];rfl
def L7(r:A1):Bool:= !decide (EA r 3=noB)|| !decide (r=((((BX (Ac<|Ak r 0)++B [32])++BX (Ac<|Ak r 1))++B [32])++BX (Ac<|Ak r 2)))
def mk3(r:A1):Mark:=⟨Ac<|Ak r 0,Ac<|Ak r 1,Ac<|Ak r 2⟩
def Di(k:AJ)(w r:A1):Option AJ:=
 if U (w=Dx) then(if U (Ac r<=k.ti) then G else I ⟨k.id,Ac r,k.nx,H7 (Ac r) k.held,Jq (Ac r) k.marks,k.inbox⟩) else
 if U (w=DX) then(match DC r with|some n=>if !decide (n.fr=k.id) then G else if !decide (n.nu=k.nx) then G else EV ⟨k.id,k.ti,k.nx+1,k.held,k.marks,k.inbox⟩ n|none=>G) else
 if U (w=EQ) then(match DC r with|some n=>if U (n.fr=k.id) then G else EV k n|none=>G) else
 if U (w=Eu) then(if U (Ac r<=k.nx) then G else I ⟨k.id,k.ti,Ac r,k.held,k.marks,k.inbox⟩) else
 if U (w=ER)||decide (w=Ed) then(match DC r with|some n=>if U (0<=AU k.held n.fr n.nu) then G else if U (0<=AU k.inbox n.fr n.nu) then G else if U (w=ER) then I ⟨k.id,k.ti,k.nx,DY k.held n,k.marks,k.inbox⟩ else I ⟨k.id,k.ti,k.nx,k.held,k.marks,DY k.inbox n⟩|none=>G) else
 if L7 r then G else
 if U (w=Bx) then(if !EF k.held (mk3 r) then G else I ⟨k.id,k.ti,k.nx,EX k.held (AU k.held (mk3 r).mf (mk3 r).mn).toNat,EE k.marks<|mk3 r,k.inbox⟩) else
 if U (w=CG) then(if !EF k.inbox (mk3 r) then G else I ⟨k.id,k.ti,k.nx,k.held,k.marks,EX k.inbox (AU k.inbox (mk3 r).mf (mk3 r).mn).toNat⟩) else
 if U (w=D3) then(if U (0<=Bj k.marks (mk3 r).mf (mk3 r).mn) then G else I ⟨k.id,k.ti,k.nx,k.held,EE k.marks<|mk3 r,k.inbox⟩) else G
def Wp(s:A1): -1<=Ac s/\Ac s<10000:=by
 obtain⟨h,_⟩|⟨n,h,h1,h2⟩:=S5 s
 .omega
 .have:n<10000:=by
   have hv:=Yu 4 (L s) (by rw[Aw];omega) (by rw[h2];exact Xw (n+1) n J);rw[h2,Xz (n+1) n J]at hv;omega
  omega
def im{n:Int}(h0: -1<=n)(h1:n<10000):(BX n).size<=4:=by
 by_cases h:0<=n
 .exact MV h J J
 .obtain rfl:n= -1:=J
  have:BX (-1)=B [45,49]:=by
   apply Fy;show B2 (-1)=_;rw[show(-1:Int)= -((1:Nat):Int) by rfl,kx _ J];show 45::dcm 1=_;rw[KZ J];rfl
  rw[this];decide
def abU{l:List A3}{m:Mark}:(U (AU l m.mf m.mn<0)|| !decide ((@rd A3 y7 l<|AU l m.mf m.mn).un=m.mu))= !EF l m:=by
 unfold EF;obtain h|h:=sgn (AU l m.mf m.mn)
 .simp only[h,AT,Ae,Bt,AM,AG]
 .simp only[h,AT,Ae,Bq,AR];rfl
def auf{l:List A3}{f n:Int}:An (!(U<|AU l f n<0)) (inb (AU l f n) l.length)=Y:=by
 obtain h|h:=sgn (AU l f n)
 .simp only[h,AT,AA,HL]
 .simp only[h,Ae,AG,IP,Mb<|of_eq_true h.2]
def aqe{id ti nx:Int}{rec:A1}{held:List A3}{marks:List Mark}{inbox:List A3}(hf:El ⟨id,ti,nx,held,marks,inbox⟩)(hr:rec.size<=1048576):
  B0 (VY ((id,ti,nx,held,marks,inbox,()),rec,())) (Di ⟨id,ti,nx,held,marks,inbox⟩ (wd rec).1 (wd rec).2):=by
 have sm:DQ held marks inbox:=hf.sm;have hn0:1<=nx:=hf.n0;have hn1:nx<=100:=hf.n1;have hr2:(wd rec).2.size<=1048576:=by have:=(Sj rec).2;omega
 unfold VY Di;simp only[ab0 hr,A6];generalize (wd rec).1=w;generalize (wd rec).2=r at *;simp only[gw (J:r.size<=9223372036854775807),wA hr2,ald sm,A6];refine B0.ite (λ_=>B0.neg λ_=>rfl) λ_=> ?_;refine B0.ite (λ_=> ?_) λ_=> ?_
 .cases h:DC r with
  | none=>exact B0.no
  | some n=>
   have:=KX (Jf h).1;simp only[Ti,AA,A4];refine B0.neg λ_=>B0.neg λ_=> ?_;rw[Aa J J];exact(aAI sm this).eta
 refine B0.ite (λ_=> ?_) λ_=> ?_
 .cases h:DC r with
  | none=>exact B0.no
  | some n=>
   have:=KX (Jf h).1;simp only[Ti,AA,Bq];exact B0.neg λ_=>(aAI sm this).eta
 refine B0.ite (λ_=>B0.neg λ_=>rfl) λ_=> ?_;rw[aBt (a:=U<|w=ER) (b:=U<|w=Ed) (f:=λv=>((id,ti,nx,held,marks,inbox,()),(0,0,0,[],[],[],()),w,r,v,())) rfl];refine B0.ite (λ_=> ?_) λ_=> ?_
 .simp only[wA hr2,A6];cases h:DC r with
  | none=>exact B0.no
  | some n=>
   have:=KX (Jf h).1;simp only[Ti,AA,A4,Ja sm.hl,Ja sm.il,A6];refine B0.neg λh1=>B0.neg λh2=> ?_;have e1:Ow held n=DY held n:=YI (by simpa using h1);have e2:Ow inbox n=DY inbox n:=YI (by simpa using h2);have Em:=bS (l:=held) (fr:=n.fr) (nu:=n.nu) (tt:=n.to) (un:=n.un) (tx:=n.tx) sm.hl;have Zl:=bS (l:=inbox) (fr:=n.fr) (nu:=n.nu) (tt:=n.to) (un:=n.un) (tx:=n.tx) sm.il;rw[show(⟨n.fr,n.nu,n.to,n.un,n.tx⟩:A3)=n from rfl]at Em Zl;simp only[Em,Zl,e1,e2,A6];exact B0.ite (λ_=>rfl) λ_=>rfl
 have e3:PV (r,3,())=I (([Ac<|Ak r 0,Ac<|Ak r 1,Ac<|Ak r 2],EA r 3,()),()):=ab9 (n:=3) hr2 J;have i0:inb 0 [Ac<|Ak r 0,Ac<|Ak r 1,Ac<|Ak r 2].length=Y:=rfl;have i1:inb 1 [Ac<|Ak r 0,Ac<|Ak r 1,Ac<|Ak r 2].length=Y:=rfl;have i2:inb 2 [Ac<|Ak r 0,Ac<|Ak r 1,Ac<|Ak r 2].length=Y:=rfl;have r0: @rd Int aEo [Ac<|Ak r 0,Ac<|Ak r 1,Ac<|Ak r 2] 0=Ac (Ak r 0):=rfl;have r1: @rd Int aEo [Ac<|Ak r 0,Ac<|Ak r 1,Ac<|Ak r 2] 1=Ac (Ak r 1):=rfl;have r2: @rd Int aEo [Ac<|Ak r 0,Ac<|Ak r 1,Ac<|Ak r 2] 2=Ac (Ak r 2):=rfl;have q0:=Wp<|Ak r 0;have q1:=Wp<|Ak r 1;have q2:=Wp<|Ak r 2;have z0:=im q0.1 q0.2;have z1:=im q1.1 q1.2;have z2:=im q2.1 q2.2;have zb:(B [32]).size=1:=rfl;have d1:U ((BX<|Ac<|Ak r 0).size+(B [32]).size<=4611686018427387904)=Y:=by rw[zb,decide_eq_true_eq];omega
 have d2:U ((BX (Ac<|Ak r 0)++B [32]).size+(BX<|Ac<|Ak r 1).size<=4611686018427387904)=Y:=by rw[Bz,zb,decide_eq_true_eq];omega
 have d3:U (((BX (Ac<|Ak r 0)++B [32])++BX (Ac<|Ak r 1)).size+(B [32]).size<=4611686018427387904)=Y:=by rw[Bz,Bz,zb,decide_eq_true_eq];omega
 have d4:U ((((BX (Ac<|Ak r 0)++B [32])++BX (Ac<|Ak r 1))++B [32]).size+(BX<|Ac<|Ak r 2).size<=4611686018427387904)=Y:=by rw[Bz,Bz,Bz,zb,decide_eq_true_eq];omega
 simp only[e3,A6,i0,i1,i2,r0,r1,r2,Fm (n:=Ac<|Ak r 0) J J,Fm (n:=Ac<|Ak r 1) J J,Fm (n:=Ac<|Ak r 2) J J,
  Dt,Df,show ∀c,An c Y=Y from λc=>rfl,A2,d1,d2,d3,d4]
 refine B0.neg λ_=> ?_;have hmk:mk3 r=⟨Ac<|Ak r 0,Ac<|Ak r 1,Ac<|Ak r 2⟩:=rfl;generalize Ac (Ak r 0)=a at *;generalize Ac (Ak r 1)=b at *;generalize Ac (Ak r 2)=c at *;rw[hmk];simp only[Ja sm.hl,Ja sm.il,Rf sm.ml,A6,auf,A2];refine B0.ite (λ_=> ?_) λ_=> ?_
 .rw[abU (m:=⟨a,b,c⟩)];refine B0.neg λh=> ?_;have hh:EF held ⟨a,b,c⟩=Y:=by simpa using h
  simp only[EF,AD,decide_eq_true_eq]at hh;obtain⟨g1,g2,g3,g4⟩:=Eo hh.1;have ho:=hf.ho _ g1;unfold Gy at ho;simp only[AD,decide_eq_true_eq]at ho;have hm:Bj marks a b<0:=by
   have:=ho.2.2.2;simp only[g3,g4]at this;exact this
  have hM:Ox marks ⟨a,b,c⟩=EE marks ⟨a,b,c⟩:=jz hm;simp only[aqg sm hh.1,A6,hh.2,hM];rfl
 refine B0.ite (λ_=> ?_) λ_=> ?_
 .rw[abU (m:=⟨a,b,c⟩)];refine B0.neg λh=> ?_;have hh:EF inbox ⟨a,b,c⟩=Y:=by simpa using h
  simp only[EF,AD,decide_eq_true_eq]at hh;simp only[aqh sm hh.1,A6];rfl
 refine B0.ite (λ_=> ?_) λ_=>B0.no;refine B0.neg λh=> ?_;have hM:Ox marks ⟨a,b,c⟩=EE marks ⟨a,b,c⟩:=jz (by simpa using h);simp only[qD sm.ml,A6,hM];rfl
def amC:U (Dx=Eu)=A0:=by decide
def aoG:U (Dx=DX)=A0:=by decide
def amB:U (Dx=EQ)=A0:=by decide
def amE:U (Dx=ER)=A0:=by decide
def ajz:U (Dx=Ed)=A0:=by decide
def aoH:U (Dx=Bx)=A0:=by decide
def aoI:U (Dx=CG)=A0:=by decide
def amD:U (Dx=D3)=A0:=by decide
def xK:U (Eu=Dx)=A0:=by decide
def ani:U (Eu=DX)=A0:=by decide
def amG:U (Eu=EQ)=A0:=by decide
def amI:U (Eu=ER)=A0:=by decide
def ak0:U (Eu=Ed)=A0:=by decide
def anj:U (Eu=Bx)=A0:=by decide
def ank:U (Eu=CG)=A0:=by decide
def amH:U (Eu=D3)=A0:=by decide
def aoL:U (DX=Dx)=A0:=by decide
def ang:U (DX=Eu)=A0:=by decide
def yi:U (DX=EQ)=A0:=by decide
def yj:U (DX=ER)=A0:=by decide
def xJ:U (DX=Ed)=A0:=by decide
def ap5:U (DX=Bx)=A0:=by decide
def ap6:U (DX=CG)=A0:=by decide
def anh:U (DX=D3)=A0:=by decide
def rk:U (EQ=Dx)=A0:=by decide
def rp:U (EQ=Eu)=A0:=by decide
def gP:U (EQ=DX)=A0:=by decide
def rq:U (EQ=ER)=A0:=by decide
def rO:U (EQ=Ed)=A0:=by decide
def aoJ:U (EQ=Bx)=A0:=by decide
def aoK:U (EQ=CG)=A0:=by decide
def amF:U (EQ=D3)=A0:=by decide
def xM:U (ER=Dx)=A0:=by decide
def xO:U (ER=Eu)=A0:=by decide
def yk:U (ER=DX)=A0:=by decide
def xN:U (ER=EQ)=A0:=by decide
def ak2:U (ER=Ed)=A0:=by decide
def anl:U (ER=Bx)=A0:=by decide
def anm:U (ER=CG)=A0:=by decide
def amL:U (ER=D3)=A0:=by decide
def wJ:U (Ed=Dx)=A0:=by decide
def wL:U (Ed=Eu)=A0:=by decide
def xL:U (Ed=DX)=A0:=by decide
def wK:U (Ed=EQ)=A0:=by decide
def wM:U (Ed=ER)=A0:=by decide
def amJ:U (Ed=Bx)=A0:=by decide
def amK:U (Ed=CG)=A0:=by decide
def ak1:U (Ed=D3)=A0:=by decide
def gT:U (Bx=Dx)=A0:=by decide
def gV:U (Bx=Eu)=A0:=by decide
def iB:U (Bx=DX)=A0:=by decide
def gU:U (Bx=EQ)=A0:=by decide
def gX:U (Bx=ER)=A0:=by decide
def s6:U (Bx=Ed)=A0:=by decide
def iC:U (Bx=CG)=A0:=by decide
def gW:U (Bx=D3)=A0:=by decide
def gY:U (CG=Dx)=A0:=by decide
def ga:U (CG=Eu)=A0:=by decide
def iD:U (CG=DX)=A0:=by decide
def gZ:U (CG=EQ)=A0:=by decide
def gf:U (CG=ER)=A0:=by decide
def s7:U (CG=Ed)=A0:=by decide
def iE:U (CG=Bx)=A0:=by decide
def gb:U (CG=D3)=A0:=by decide
def rr:U (D3=Dx)=A0:=by decide
def ry:U (D3=Eu)=A0:=by decide
def gQ:U (D3=DX)=A0:=by decide
def ru:U (D3=EQ)=A0:=by decide
def rz:U (D3=ER)=A0:=by decide
def rP:U (D3=Ed)=A0:=by decide
def gR:U (D3=Bx)=A0:=by decide
def gS:U (D3=CG)=A0:=by decide
abbrev flt(o:Option AJ):Option AJ:=o.filter As
def Sr{o:Option AJ}(h:o=G\/ ∃k,o=I k/\As k=A0):flt o=G:=by
 obtain rfl|⟨k,rfl,h⟩:=h
 .rfl
 .simp[flt,Option.filter,h]
def aqs:DC noB=G:=by
 cases h:DC noB with
 | none=>rfl
 | some n=>
  obtain⟨h1,h2⟩:=Jf h;have:=ly<|IU h1;rw[h2]at this;exact absurd this<|by decide
def avJ:Ac noB= -1:=by
 obtain⟨h,_⟩|⟨n,_,_,h⟩:=S5 noB
 .exact h
 .exact absurd h.symm (mR n)
def aCP(r:A1):(Ap r=(0,A0)/\Ac r= -1)\/ ∃n:Nat,Ap r=((n:Int),Y)/\(Ac r=n\/(Ac r= -1/\10000<=n)):=by
 obtain h|⟨n,h1,h2,h3⟩:=S2 r
 .refine .inl ⟨h, ?_⟩;obtain⟨h4,_⟩|⟨n,_,h5,h6⟩:=S5 r
  .exact h4
  .rw[jV J h6]at h;cases h
 .refine .inr ⟨n,h1, ?_⟩;obtain⟨h4,h5⟩|⟨m,h4,_,h6⟩:=S5 r
  .refine .inr ⟨h4, ?_⟩;have h7:=h5 n h3;obtain h8|h8:=GN n 10000
   .have:=Lf 4 n J J;rw[← h3,Aw]at this;omega
   .exact h8
  .left;have e:dcm n=dcm m:=h3.symm.trans h6;have:=congrArg val e;rw[Xz (n+1) n J,Xz (m+1) m J]at this;omega
def aaw(a b c:Int):L ((((BX a++B [32])++BX b)++B [32])++BX c)=B2 a++32::(B2 b++32::B2 c):=by
 simp only[Fz,Tc,L_B,C3,Ky,Eb]
def ke{l:List UInt8}(h:CU l):l.count 32=0:=List.count_eq_zero.2 λhm=>h 32 hm rfl
def YD{r:A1}{a b c:Int}(ha:0<=a)(ha2:a<100000)(hb:0<=b)(hb2:b<100000)(hc:0<=c)(hc2:c<100000)(e:L r=B2 a++32::(B2 b++32::B2 c)):Gz r=I ⟨a,b,c⟩:=by
 unfold Gz;have h2:(L r).count 32=1+1:=by
  rw[e,List.count_append,aBE,List.count_append,aBE,ke<|HM ha,ke<|HM hb,ke<|HM hc]
 rw[h2,e,LW<|HM ha,LW<|HM hb];show(if(Ap<|B<|B2 a).2&&((Ap<|B<|B2 b).2&&((Ap<|B<|B2 c).2&&Y)) then I (⟨(Ap<|B<|B2 a).1,(Ap<|B<|B2 b).1,(Ap<|B<|B2 c).1⟩:Mark) else G)=_;rw[J0 ha ha2,J0 hb hb2,J0 hc hc2];rfl
def lq{p:List UInt8}(h:(Ap<|B p).2=Y):0<=(Ap<|B p).1/\p=B2 (Ap<|B p).1:=by
 obtain h1|⟨n,h1,_,h3⟩:=S2 (B p)
 .rw[h1]at h;cases h
 .rw[h1];exact⟨by simp,by rw[J4];exact h3⟩
def aaY{r:A1}{m:Mark}(h:Gz r=I m):0<=m.mf/\0<=m.mn/\0<=m.mu/\L r=B2 m.mf++32::(B2 m.mn++32::B2 m.mu):=by
 unfold Gz at h;have hj:=iQ ((L r).count 32)<|L r;split at h
 .rename_i p q t hp;rw[hp]at hj;split at h
  .rename_i hc;simp only[AD]at hc;cases h;have h1:=lq hc.1;have h2:=lq hc.2.1;have h3:=lq hc.2.2.1;refine⟨h1.1,h2.1,h3.1, ?_⟩;simp only;rw[← h1.2,← h2.2,← h3.2];exact hj.symm
  .cases h
 .cases h
def aBe{r:A1}{a b c:Int}(ha:0<=a)(ha2:a<10000)(hb:0<=b)(hb2:b<10000)(hc:0<=c)(hc2:c<10000)(e:L r=B2 a++32::(B2 b++32::B2 c)):L7 r=A0/\mk3 r=⟨a,b,c⟩:=by
 have e0:=Kl (HM ha) e;have c1:L (EA r 1)=_:=(Ji (t:=r) e0).2;have e1:=Kl (HM hb) c1;have c2:L (EA r 2)=_:=(Ji (t:=r) e1).2;have e2:=Tf (s:=EA r 2) (by rw[c2];exact HM hc);have w0:Ak r 0=B (B2 a):=(Ji (t:=r) e0).1;have w1:Ak r 1=B (B2 b):=(Ji (t:=r) e1).1;have w2:Ak r 2=B (B2 c):=by
  show(wd<|EA r 2).1=_;rw[e2];apply Fy;rw[c2,L_B]
 have t3:EA r 3=noB:=by
  show(wd<|EA r 2).2=_;rw[e2]
 have d0:=MY ha ha2;have d1:=MY hb hb2;have d2:=MY hc hc2;refine⟨?_, ?_⟩
 .unfold L7;rw[t3,w0,w1,w2,d0,d1,d2];have:r=((((BX a++B [32])++BX b)++B [32])++BX c):=Fy (by rw[e,aaw]);rw[← this];simp
 .unfold mk3;rw[w0,w1,w2,d0,d1,d2]
def Pp{m:Mark}(h:FB m=Y):0<=m.mf/\m.mf<=3/\1<=m.mn/\m.mn<=99/\1<=m.mu/\m.mu<=999:=by
 unfold FB at h;simp only[AD,AY]at h;omega
def kF{k:AJ}(hf:El k)(w r:A1):flt (if L7 r then G else Er k w (mk3 r))=flt (match Gz r with|some m=>Er k w m|none=>G):=by
 obtain hm|hm:=tf (FB<|mk3 r)
 .obtain⟨a0,a1,b0,b1,c0,c1⟩:=Pp hm;obtain hc|hc:=tf (L7 r)
  .rw[hc];simp only[A2];cases h:Gz r with
   | none=>rfl
   | some m=>
    simp only;obtain h2|h2:=tf (FB m)
    .obtain⟨p0,p1,q0,q1,s0,s1⟩:=Pp h2;obtain⟨_,_,_,e⟩:=aaY h;rw[(aBe J J J J J J e).1]at hc;cases hc
    .exact(Sr<|iX hf h2).symm
  .have hc2:=hc;unfold L7 at hc;simp only[Mv,Bool.not_eq_false',decide_eq_true_eq]at hc;have e:L r=_:=(congrArg L hc.2).trans<|aaw _ _ _;have:=YD (a:=(mk3 r).mf) (b:=(mk3 r).mn) (c:=(mk3 r).mu) J J J J J J e;rw[hc2,this];rfl
 .have hL:flt (if L7 r then G else Er k w (mk3 r))=G:=by
   cases L7 r
   .exact Sr (iX hf hm)
   .rfl
  rw[hL];cases h:Gz r with
  | none=>rfl
  | some m=>
   simp only;obtain h2|h2:=tf (FB m)
   .obtain⟨p0,p1,q0,q1,s0,s1⟩:=Pp h2;obtain⟨_,_,_,e⟩:=aaY h;have:=(aBe J J J J J J e).2;rw[this]at hm;have hm:FB m=A0:=hm;rw[h2]at hm;cases hm
   .exact(Sr<|iX hf h2).symm
def awc{k:AJ}{n nx:Int}{a b:List A3}{m:List Mark}(hn:999<n):As ⟨k.id,n,nx,a,m,b⟩=A0:=by
 obtain h|h:=tf (As ⟨k.id,n,nx,a,m,b⟩)
 .have:=(Bu h).t1;simp only at this;omega
 .exact h
def axK{k:AJ}{n ti:Int}{a b:List A3}{m:List Mark}(hn:100<n):As ⟨k.id,ti,n,a,m,b⟩=A0:=by
 obtain h|h:=tf (As ⟨k.id,ti,n,a,m,b⟩)
 .have:=(Bu h).n1;simp only at this;omega
 .exact h
def arO{k:AJ}(hf:El k)(r:A1):flt (Di k Dx r)=flt (BV k Dx r):=by
 have h0:=hf.t0;unfold Di BV HZ;simp only[amC,aoG,amB,amE,ajz,aoH,aoI,amD,AT,BY,EY,DN,Bq,Bt,AM,AR,A2,A4];obtain⟨h1,h2⟩|⟨n,h1,h2|⟨h2,h3⟩⟩:=aCP r
 .rw[h1,h2,A5 o5];rfl
 .rw[h1,h2];obtain h4|h4:=Eg (n:Int) k.ti<;>simp only[h4,AT,Ae,A2,A4]
 .rw[h1,h2,A5 o5];obtain h4|h4:=Eg (n:Int) k.ti<;>simp only[h4,AT,Ae,A2,A4];exact(Sr<|.inr ⟨_,rfl,awc J⟩).symm
def arP{k:AJ}(hf:El k)(r:A1):flt (Di k Eu r)=flt (BV k Eu r):=by
 have h0:=hf.n0;unfold Di BV HZ;simp only[xK,ani,amG,amI,ak0,anj,ank,amH,AT,BY,EY,DN,Bq,Bt,AM,AR,A2,A4];obtain⟨h1,h2⟩|⟨n,h1,h2|⟨h2,h3⟩⟩:=aCP r
 .rw[h1,h2,A5 o5];rfl
 .rw[h1,h2];obtain h4|h4:=Eg (n:Int) k.nx<;>simp only[h4,AT,Ae,A2,A4]
 .rw[h1,h2,A5 o5];obtain h4|h4:=Eg (n:Int) k.nx<;>simp only[h4,AT,Ae,A2,A4];exact(Sr<|.inr ⟨_,rfl,axK J⟩).symm
def arL{k:AJ}(r:A1):Di k DX r=BV k DX r:=by
 unfold Di BV GB;simp only[aoL,ang,yi,yj,xJ,ap5,ap6,anh,AT,BY,EY,DN,Bq,Bt,AM,AR,A2,A4];cases DC r with
 | none=>rfl
 | some n=>
  simp only;obtain h1|h1:=tf (U<|n.fr=k.id)<;>obtain h2|h2:=tf (U<|n.nu=k.nx)<;>simp only[h1,h2,AA,AG,ite_self,AT,BY,EY,DN,Bq,Bt,AM,AR,A2,A4]
def api{k:AJ}(r:A1):Di k EQ r=BV k EQ r:=by
 unfold Di BV GB;simp only[rk,rp,gP,rq,rO,aoJ,aoK,amF,AT,BY,EY,DN,Bq,Bt,AM,AR,A2,A4];cases DC r with
 | none=>rfl
 | some n=>
  simp only;obtain h1|h1:=tf (U<|n.fr=k.id)<;>simp only[h1,AA,AG,ite_self,AT,BY,EY,DN,Bq,Bt,AM,AR,A2,A4]
def apk{k:AJ}(r:A1):Di k ER r=BV k ER r:=by
 unfold Di BV GB;simp only[xM,xO,yk,xN,ak2,anl,anm,amL,AT,BY,EY,DN,Bq,Bt,AM,AR,A2,A4];cases DC r with
 | none=>rfl
 | some n=>
  simp only;obtain h1|h1:=tf (U<|0<=AU k.held n.fr n.nu)<;>obtain h2|h2:=tf (U<|0<=AU k.inbox n.fr n.nu)<;>simp only[h1,h2,AA,AG,ite_self,AT,BY,EY,DN,Bq,Bt,AM,AR,A2,A4]
def apM{k:AJ}(r:A1):Di k Ed r=BV k Ed r:=by
 unfold Di BV GB;simp only[wJ,wL,xL,wK,wM,amJ,amK,ak1,AT,BY,EY,DN,Bq,Bt,AM,AR,A2,A4];cases DC r with
 | none=>rfl
 | some n=>
  simp only;obtain h1|h1:=tf (U<|0<=AU k.held n.fr n.nu)<;>obtain h2|h2:=tf (U<|0<=AU k.inbox n.fr n.nu)<;>simp only[h1,h2,AA,AG,ite_self,AT,BY,EY,DN,Bq,Bt,AM,AR,A2,A4]
def arM{k:AJ}(hf:El k)(r:A1):flt (Di k Bx r)=flt (BV k Bx r):=by
 have h:=kF hf Bx r;unfold Di BV;simp only[gT,gV,iB,gU,gX,s6,iC,gW,AT,BY,EY,DN,Bq,Bt,AM,AR,A2,A4];refine L3 ?_ h;unfold Er;simp only[gT,gV,iB,gU,gX,s6,iC,gW,AT,BY,EY,DN,Bq,Bt,AM,AR,A2,A4];congr 1;refine ite_congr rfl (λ_=>rfl) λ_=> ?_;cases EF k.held (mk3 r)<;>rfl
def arN{k:AJ}(hf:El k)(r:A1):flt (Di k CG r)=flt (BV k CG r):=by
 have h:=kF hf CG r;unfold Di BV;simp only[gY,ga,iD,gZ,gf,s7,iE,gb,AT,BY,EY,DN,Bq,Bt,AM,AR,A2,A4];refine L3 ?_ h;unfold Er;simp only[gY,ga,iD,gZ,gf,s7,iE,gb,AT,BY,EY,DN,Bq,Bt,AM,AR,A2,A4];congr 1;refine ite_congr rfl (λ_=>rfl) λ_=> ?_;cases EF k.inbox (mk3 r)<;>rfl
def apj{k:AJ}(hf:El k)(r:A1):flt (Di k D3 r)=flt (BV k D3 r):=by
 have h:=kF hf D3 r;unfold Di BV;simp only[rr,ry,gQ,ru,rz,rP,gR,gS,AT,BY,EY,DN,Bq,Bt,AM,AR,A2,A4];refine L3 ?_ h;unfold Er;simp only[rr,ry,gQ,ru,rz,rP,gR,gS,AT,BY,EY,DN,Bq,Bt,AM,AR,A2,A4];congr 1;refine ite_congr rfl (λ_=>rfl) λ_=> ?_;cases U (0<=Bj k.marks (mk3 r).mf (mk3 r).mn)<;>rfl
def av7{k:AJ}(hf:El k)(w r:A1):flt (Di k w r)=flt (BV k w r):=by
 by_cases nP:w=Dx
 .subst nP;exact arO hf r
 by_cases nR:w=Eu
 .subst nR;exact arP hf r
 by_cases nf:w=DX
 .subst nf;exact congrArg flt<|arL r
 by_cases nQ:w=EQ
 .subst nQ;exact congrArg flt<|api r
 by_cases nK:w=ER
 .subst nK;exact congrArg flt<|apk r
 by_cases nI:w=Ed
 .subst nI;exact congrArg flt<|apM r
 by_cases ng:w=Bx
 .subst ng;exact arM hf r
 by_cases nh:w=CG
 .subst nh;exact arN hf r
 by_cases nS:w=D3
 .subst nS;exact apj hf r
 have e1:Di k w r=G:=by
  unfold Di;simp only[nP,nR,nf,nQ,nK,nI,ng,nh,nS,Ae,AT,BY,EY,DN,Bq,Bt,AM,AR,A2,A4,ite_self]
 have e2:BV k w r=G:=by
  unfold BV;simp only[nP,nR,nf,nQ,nK,nI,ng,nh,nS,Ae,AT,BY,EY,DN,Bq,Bt,AM,AR,A2,A4]
 rw[e1,e2]
def arY{k:AJ}(hf:El k)(w:A1):Di k w noB=G:=by
 have h0:=hf.t0;have h1:=hf.n0;have hc:L7 noB=Y:=by
  unfold L7;have:¬noB=((((BX (Ac<|Ak noB 0)++B [32])++BX (Ac<|Ak noB 1))++B [32])++BX (Ac<|Ak noB 2)):=λh=>by
   have:=congrArg ByteArray.size h;rw[Bz,Bz,Bz,Bz]at this;have e:noB.size=0:=rfl;have e2:(B [32]).size=1:=rfl;omega
  simp[this]
 unfold Di;rw[avJ,aqs,hc];have a1:U (-1<=k.ti)=Y:=by simp;omega
 have a2:U (-1<=k.nx)=Y:=by simp;omega
 simp only[a1,a2,A2,ite_self]
def awm{k:AJ}(hf:El k)(rec:A1):flt (Di k (wd rec).1 (wd rec).2)=flt (GD k rec):=by
 unfold GD;obtain h|⟨w,r,h,e⟩:=LZ (L rec)
 .rw[Tf h,Sx h,arY hf];rfl
 .rw[e,Sy h];exact av7 hf _ _
def avA{k:AJ}{w r:A1}(hf:El k){o:AJ}(h:Di k w r=I o):SmK o:=by
 have sm:=hf.sm;unfold Di at h;split at h
 .split at h<;>cases h;have a:=Ij (λx:A3=>U<|Ac r<x.un) k.held;have b:=Ij (λx:Mark=>U<|Ac r<x.mu) k.marks;have l1:=hf.hl;have l2:=hf.ml;exact⟨by unfold H7;simp only;omega,λx hx=>sm.h x (FQ.1 hx).1,by unfold Jq;simp only;omega,sm.il,sm.i⟩
 split at h
 .cases hn:DC r with
  | none=>rw[hn]at h;cases h
  | some n=>
   rw[hn]at h;simp only at h;split at h
   .cases h
   split at h
   .cases h
   exact YL (k':=⟨k.id,k.ti,k.nx+1,k.held,k.marks,k.inbox⟩) hf ⟨rfl,rfl,rfl⟩ h
 split at h
 .cases hn:DC r with
  | none=>rw[hn]at h;cases h
  | some n=>
   rw[hn]at h;simp only at h;split at h
   .cases h
   exact YL (k':=k) hf ⟨rfl,rfl,rfl⟩ h
 split at h
 .split at h<;>cases h;exact sm
 split at h
 .cases hn:DC r with
  | none=>rw[hn]at h;cases h
  | some n=>
   have hok:=KX (Jf hn).1;rw[hn]at h;simp only at h;split at h
   .cases h
   split at h
   .cases h
   split at h<;>cases h
   .have a:=Q1 hf.hl sm.h hok;exact⟨a.1,a.2,sm.ml,sm.il,sm.i⟩
   .have a:=Q1 hf.il sm.i hok;exact⟨sm.hl,sm.h,sm.ml,a.1,a.2⟩
 split at h
 .cases h
 split at h
 .split at h<;>cases h;have a:=Xn (i:=(AU k.held (mk3 r).mf (mk3 r).mn).toNat) hf.hl sm.h;exact⟨a.1,a.2,Sn hf.ml,sm.il,sm.i⟩
 split at h
 .split at h<;>cases h;have a:=Xn (i:=(AU k.inbox (mk3 r).mf (mk3 r).mn).toNat) hf.il sm.i;exact⟨sm.hl,sm.h,sm.ml,a.1,a.2⟩
 split at h
 .split at h<;>cases h;exact⟨sm.hl,sm.h,Sn hf.ml,sm.il,sm.i⟩
 .cases h
def yf{id ti nx:Int}{rec:A1}{held:List A3}{marks:List Mark}{inbox:List A3}(sm:DQ held marks inbox)(hr:rec.size<=1048576):
  Ro ((id,ti,nx,held,marks,inbox,()),rec,())=I ((tK (FP ⟨id,ti,nx,held,marks,inbox⟩ rec).1,(FP ⟨id,ti,nx,held,marks,inbox⟩ rec).2,()),()):=by
 unfold Ro FP;simp only[fy sm,xW sm,A6];obtain h|h:=tf (As ⟨id,ti,nx,held,marks,inbox⟩)
 .have hf:=Bu h;have ha:=aqe hf hr;have hko:=awm hf rec;unfold flt at hko;simp only[h,AA,A4,A2];rw[← hko];cases hst:Di ⟨id,ti,nx,held,marks,inbox⟩ (wd rec).1 (wd rec).2 with
  | none=>
   rw[hst]at ha;obtain⟨t,ht⟩:=ha;simp only[ht,A6,AG,AA,HL,A2,Bt];rfl
  | some o=>
   rw[hst]at ha;have sm':=avA hf hst;rw[show VY ((id,ti,nx,held,marks,inbox,()),rec,())=I ((tK o,Y,()),()) from ha];simp only[A6,AA,AG,IP,fy sm',xW sm',Dt,Df,A2,Bq,Option.filter_some];obtain h2|h2:=tf (As o)
   .simp only[h2,AA,A4,A2]
   .simp only[h2,AG,A4,A2]
 .simp only[h,AG,A4,A2]
def Yx{s:A1}{a i:Nat}(h:a+i<s.size):bt (s.extract a s.size) i=bt s ((a+i:Nat):Int):=by
 rw[Jn,Jn,EB];congr 2;rw[B8,B8,List.getElem?_take_of_lt J,Hb]
def aaf{s:A1}{a i j:Nat}(h:a+j<=s.size):(s.extract a s.size).extract i j=s.extract (a+i) (a+j):=by
 apply Fy;rw[EB,EB,EB];rw[List.drop_take,Il,Yc];congr 1;omega
def G8{s:A1}{a b:Nat}(hb:b<=s.size):(s.extract a b).size=b - a:=by
 rw[← Aw,EB,Dg,EI,Aw];omega
def Tm(s:A1):Int:=Fw (min s.size 3) λi=>U<|bt s i=58
def Dd(s:A1):Option (A1×Nat):=
 if Tm s<0 then G else
 let c:=(Tm s).toNat
 let n:=Ac (s.extract 0 c)
 if n<1 then G else if 60<n then G else
 if(s.size:Int)<c+2+n then G else
 if !decide (bt s ((c+1+n.toNat:Nat):Int)=59) then G else I (s.extract (c+1)<|c+1+n.toNat,c+2+n.toNat)
def WM(s:A1):(Tm s= -1/\ ∀i,i<min s.size 3->bt s (i:Int)≠58)\/ ∃c:Nat,Tm s=c/\c<s.size/\c<3/\bt s (c:Int)=58/\ ∀i,i<c->bt s (i:Int)≠58:=by
 obtain⟨h1,h2⟩|⟨c,h1,h2,h3,h4⟩:=G6 (min s.size 3) (λi=>U<|bt s i=58)
 .exact .inl ⟨h1,λi hi=>by simpa using h2 i hi⟩
 .exact .inr ⟨c,h1,J,J,by simpa using h3,λi hi=>by simpa using h4 i hi⟩
def aqf{s:A1}(hs:s.size<=1048576):eh (s,())=I ((match Dd s with|some p=>(p.1,(p.2:Int),())|none=>(noB,0,())),()):=by
 have hb:∀i,i<min s.size 3->NZ (s,(i:Int),())=if U (bt s (i:Int)=58) then NZ (s,(i:Int),()) else I (.inl (s,((i+1:Nat):Int),())):=λi hi=>by
  have hi2:i<s.size:=J
  obtain h|h:=tf (U<|bt s (i:Int)=58)
  .rw[h];rfl
  .rw[h];have e1:U ((i:Int)<3)=Y:=by simp;omega
   unfold NZ;simp only[AW hi2,BQ hi2,h,BI hi2 (by omega:s.size<=9223372036854775807),e1];rfl
 have Gq:∃y,qE (s,0,())=I y/\((Dd s=G/\(y= .inl (noB,0,())\/y= .inr ()))\/ ∃p,Dd s=I p/\y= .inl (p.1,(p.2:Int),())):=by
  obtain⟨h1,h2⟩|⟨c,h1,h2,h3,h4,h5⟩:=WM s
  .refine⟨.inr (), ?_,.inl ⟨by unfold Dd;rw[h1,A5 J],.inr rfl⟩⟩;refine Ch (λi=>(s,(i:Int),())) (min s.size 3) (λi hi=> ?_) ?_
   .rw[hb i hi,show U (bt s (i:Int)=58)=A0 by simpa using h2 i hi];rfl
   .unfold NZ;have e:(U (((min s.size 3:Nat):Int)<(s.size:Int))&&U (((min s.size 3:Nat):Int)<3))=A0:=by
     rw[Bool.eq_false_iff];simp only[ne_eq,AD,decide_eq_true_eq];omega
    simp only[e];rfl
  .have D8:Dd s=(let n:=Ac<|s.extract 0 c;if n<1 then G else if 60<n then G else if(s.size:Int)<c+2+n then G else
     if !decide (bt s ((c+1+n.toNat:Nat):Int)=59) then G else I (s.extract (c+1)<|c+1+n.toNat,c+2+n.toNat)):=by
    unfold Dd;rw[h1,A9 J];rfl
   have ay3:∃y,NZ (s,(c:Int),())=I (.inr y)/\((Dd s=G/\(y= .inl (noB,0,())\/y= .inr ()))\/ ∃p,Dd s=I p/\y= .inl (p.1,(p.2:Int),())):=by
    rw[D8];unfold NZ;have e1:U ((c:Int)<3)=Y:=by simp;omega
    have e2:(U (0<=(c:Int))&&U ((c:Int)<=(s.size:Int)))=Y:=by simp;omega
    have e3:(!decide (bt s (c:Int)=58))=A0:=by simp[h4]
    have hse:(s.extract 0 c).size=c:=G8 J;simp only[AW h2,BQ h2,e1,e2,e3,Bf,A4,EZ,A2,gw<|show(s.extract 0 c).size<=9223372036854775807 by omega,A6];have hrg:=Wp<|s.extract 0 c;generalize Ac (s.extract 0 c)=n at *;by_cases k1:n<1
    .exact⟨.inl (noB,0,()),by simp[k1],.inl ⟨by simp[k1],.inl rfl⟩⟩
    by_cases k2:60<n
    .exact⟨.inl (noB,0,()),by simp[k1,k2],.inl ⟨by simp[k1,k2],.inl rfl⟩⟩
    obtain⟨m,hm⟩:=HD (J:0<=n);subst hm;have w1:w64 ((c:Int)+2)=(c:Int)+2:=Aa J J;have w2:w64 ((c:Int)+1)=((c+1:Nat):Int):=by rw[Aa J J];omega
    have w3:w64 ((c:Int)+2+(m:Int))=((c+2+m:Nat):Int):=by rw[Aa J J];omega
    have w4:w64 (((c+1:Nat):Int)+(m:Int))=((c+1+m:Nat):Int):=by rw[Aa J J];omega
    simp only[w1,w2,w3,w4,Bf];by_cases k3:(s.size:Int)<(c:Int)+2+m
    .have k3':(s.size:Int)<((c+2+m:Nat):Int):=J
     exact⟨.inl (noB,0,()),by simp only[k1,k2,k3',AT,Ae,A2,A4],.inl ⟨by simp[k1,k2,k3],.inl rfl⟩⟩
    have k3':¬(s.size:Int)<((c+2+m:Nat):Int):=J
    have k4:c+1+m<s.size:=J
    have e5:((U (0<=((c+1+m:Nat):Int))&&U (((c+1+m:Nat):Int)<=(s.size:Int)))&&(U (0<=((c+1:Nat):Int))&&U (((c+1:Nat):Int)<=((c+1+m:Nat):Int))))=Y:=by
     simp only[AD,decide_eq_true_eq];omega
    simp only[k1,k2,k3,k3',Ae,A4,if_false,AW k4,A2,e5];obtain k5|k5:=tf (!decide (bt s ((c+1+m:Nat):Int)=59))
    .exact⟨.inl (noB,0,()),by simp only[k5,A2],.inl ⟨by simp only[k5,A2],.inl rfl⟩⟩
    .exact⟨.inl (s.extract (c+1)<|c+1+m,((c+2+m:Nat):Int),()),by simp only[k5,A4],.inr ⟨(s.extract (c+1)<|c+1+m,c+2+m),by simp only[k5,A4],rfl⟩⟩
   obtain⟨y,hy,hy2⟩:=ay3;refine⟨y, ?_,hy2⟩;refine Ch (λi=>(s,(i:Int),())) c (λi hi=> ?_) hy;rw[hb i J,show U (bt s (i:Int)=58)=A0 by simpa using h5 i hi];rfl
 obtain⟨y,hy,hy2⟩:=Gq;unfold eh;simp only[hy];obtain⟨h1,rfl|rfl⟩|⟨p,h1,rfl⟩:=hy2<;>rw[h1]<;>rfl
def SJ{s:A1}{p:A1×Nat}(h:Dd s=I p):3<=p.2/\p.2<=s.size/\p.1.size<=60/\1<=p.1.size:=by
 unfold Dd at h;split at h
 .cases h
 rename_i hc;obtain⟨h1,_⟩|⟨c,h1,h2,h3,h4,h5⟩:=WM s
 .omega
 rw[h1]at h;simp only[Bf]at h;split at h
 .cases h
 split at h
 .cases h
 split at h
 .cases h
 split at h
 .cases h
 cases h;simp only;rw[G8 J];omega
def Ev(log:A1):Nat->List A1->Nat->List A1×Nat
 | 0,out,at_=>(out,at_)
 | f+1,out,at_=>if at_<log.size then(match Dd (log.extract at_ log.size) with
  | none=>(out,at_)
  | some p=>Ev log f (out++[p.1]) (at_+p.2)) else(out,at_)
def aAc{log:A1}:∀(f:Nat) (out:List A1) (at_:Nat),at_<=log.size->out.length<=at_->(∀r∈out,r.size<=60/\1<=r.size)->
  (Ev log f out at_).2<=log.size/\(Ev log f out at_).1.length<=(Ev log f out at_).2/\ ∀r∈(Ev log f out at_).1,r.size<=60/\1<=r.size
 | 0,out,at_,h1,h2,h3=>⟨h1,h2,h3⟩
 | f+1,out,at_,h1,h2,h3=>by
  unfold Ev;split
  .rename_i hlt;cases h:Dd (log.extract at_ log.size) with
   | none=>exact⟨h1,h2,h3⟩
   | some p=>
    obtain⟨a,b,c,d⟩:=SJ h;rw[G8<|Ar _]at b;exact aAc f _ _ J o5 (λr hr=>by
     obtain hr|hr:=BL.1 hr
     .exact h3 r hr
     .obtain rfl:=CN.1 hr;exact⟨c,d⟩)
  .exact⟨h1,h2,h3⟩
def D4(log:A1):List A1×Nat:=Ev log (log.size+1) [] 0
def Pe(log:A1):(D4 log).2<=log.size/\(D4 log).1.length<=log.size/\ ∀r∈(D4 log).1,r.size<=60/\1<=r.size:=by
 have:=aAc (log:=log) (log.size+1) [] 0 (Cz _) (Cz _) (λr hr=>by cases hr);exact⟨this.1,CP this.2.1 this.1,this.2.2⟩
def jM{ρ:Type}{log:A1}{b:(A1×List A1×Int×D)->Option ((A1×List A1×Int×D) ⊕ ρ)}(ok:List A1->Nat->ρ->Prop)
  (h:∀(out:List A1) (at_:Nat),at_<log.size->out.length<=at_->match Dd (log.extract at_ log.size) with
   | some p=>b (log,out,(at_:Int),())=I (.inl (log,out++[p.1],((at_+p.2:Nat):Int),()))
   | none=>∃y,b (log,out,(at_:Int),())=I (.inr y)/\ok out at_ y)
  (hn:∀(out:List A1) (at_:Nat),log.size<=at_->∃y,b (log,out,(at_:Int),())=I (.inr y)/\ok out at_ y):
  ∀(f:Nat) (out:List A1) (at_:Nat),log.size<at_+f->at_<=log.size->out.length<=at_->∃y,AZ b (log,out,(at_:Int),())=I y/\ok (Ev log f out at_).1 (Ev log f out at_).2 y
 | 0,out,at_,h1,h2,h3=>J
 | f+1,out,at_,h1,h2,h3=>by
  unfold Ev;by_cases hlt:at_<log.size
  .rw[A5 hlt];have hb:=h out at_ hlt h3;cases D8:Dd (log.extract at_ log.size) with
   | none=>
    rw[D8]at hb;obtain⟨y,h4,h5⟩:=hb;exact⟨y,BH h4,h5⟩
   | some p=>
    rw[D8]at hb;obtain⟨a,c,_,_⟩:=SJ D8;rw[G8<|Ar _]at c;obtain⟨y,h4,h5⟩:=jM ok h hn f (out++[p.1]) (at_+p.2) J J o5;exact⟨y,Av hb h4,h5⟩
  .rw[A9 hlt];obtain⟨y,h4,h5⟩:=hn out at_ J;exact⟨y,BH h4,h5⟩
def Ud{log:A1}(hs:log.size<=1048576):LH (log,())=I (((D4 log).1,((D4 log).2:Int),()),()):=by
 obtain⟨y,h1,h2⟩:=jM (log:=log) (b:=RF) (λout at_ y=>y= .inl (out,(at_:Int),())\/y= .inr (out,(at_:Int),())) (λout at_ hlt hl=>by
  have hse:(log.extract at_ log.size).size=log.size - at_:=G8<|Ar _;have e1:(U (0<=(at_:Int))&&U ((at_:Int)<=(log.size:Int)))=Y:=by simp;omega
  have hb:RF (log,out,(at_:Int),())=(match Dd (log.extract at_ log.size) with|some p=>I (.inl (log,out++[p.1],((at_+p.2:Nat):Int),()))|none=>I<|.inr<|.inl (out,(at_:Int),())):=by
   unfold RF;simp only[BQ hlt,e1,A2,Bf,aqf<|show(log.extract at_ log.size).size<=1048576 by omega,A6];cases D8:Dd (log.extract at_ log.size) with
   | none=>rfl
   | some p=>
    obtain⟨a,c,_,_⟩:=SJ D8;have e2:U (((p.2:Nat):Int)=0)=A0:=by simp;omega
    have e3:w64 ((at_:Int)+(p.2:Int))=((at_+p.2:Nat):Int):=by rw[Aa J J];omega
    simp only[e2,e3,A4,Bl,CR,DZ,BD (J:out.length+1<=4294967296),A2]
  rw[hb];cases Dd (log.extract at_ log.size) with
  | none=>exact⟨_,rfl,.inl rfl⟩
  | some p=>rfl) (λout at_ hge=>by
  refine⟨.inr (out,(at_:Int),()), ?_,.inr rfl⟩;unfold RF;have e:U ((at_:Int)<(log.size:Int))=A0:=by simp;omega
  simp only[e];rfl) (log.size+1) [] 0 J (Cz _) (Cz _)
 unfold LH;rw[show p6 (log,[],0,())=I y from h1];obtain rfl|rfl:=h2<;>rfl
def aBP{log:A1}{out:List A1}{at_ n:Nat}(hs:log.size<=1048576)(h:∀i,i<n->at_+i<log.size/\bt log ((at_+i:Nat):Int)≠58)(hn:n<=3)(hle:at_+n<=log.size)
  (oH:log.size<=at_+n\/n=3\/bt log ((at_+n:Nat):Int)=58):oq (log,out,(at_:Int),(at_:Int),())=I (.inr (log,out,(at_:Int),((at_+n:Nat):Int),())):=by
 have e3:w64 ((at_:Int)+3)=((at_+3:Nat):Int):=by rw[Aa J J];omega
 refine Ch (λi=>(log,out,(at_:Int),((at_+i:Nat):Int),())) n (λi hi=> ?_) ?_
 .obtain⟨h1,h2⟩:=h i hi;unfold bY;have e2:U (bt log ((at_+i:Nat):Int)=58)=A0:=by simpa using h2
  simp only[BQ h1,AW h1,e3,BQ (J:at_+i<at_+3),e2,BI h1 (by omega:log.size<=9223372036854775807)];rfl
 .unfold bY;by_cases h1:at_+n<log.size
  .simp only[BQ h1,AW h1,e3];obtain h2|h2|h2:=oH
   .omega
   .have:U (((at_+n:Nat):Int)<((at_+3:Nat):Int))=A0:=by simp;omega
    rw[this];rfl
   .rw[show U (bt log ((at_+n:Nat):Int)=58)=Y by simpa using h2];cases U (((at_+n:Nat):Int)<((at_+3:Nat):Int))<;>rfl
  .have e1:U (((at_+n:Nat):Int)<(log.size:Int))=A0:=by simp;omega
   simp only[e1,A4,HL,A2]
def akK{log:A1}{out:List A1}{at_:Nat}(hs:log.size<=1048576)(hlt:at_<log.size)(hl:out.length<=at_):
  R9 (log,out,(at_:Int),())=I (match Dd (log.extract at_ log.size) with|some p=> .inl (log,out++[p.1],((at_+p.2:Nat):Int),())|none=> .inr<|.inr (out,(at_:Int),())):=by
 have hse:(log.extract at_ log.size).size=log.size - at_:=G8<|Ar _;unfold R9;simp only[BQ hlt,A2];obtain⟨h1,h2⟩|⟨c,h1,h2,h3,h4,h5⟩:=WM (log.extract at_ log.size)
 .have D8:Dd (log.extract at_ log.size)=G:=by unfold Dd;rw[h1,A5 J]
  have hb:∀i,i<min (log.size - at_) 3->at_+i<log.size/\bt log ((at_+i:Nat):Int)≠58:=λi hi=>by
   refine⟨J, ?_⟩;rw[← Yx J];exact h2 i (by rw[hse];exact hi)
  rw[D8,aBP (n:=min (log.size - at_) 3) hs hb J J J];simp only[DT];by_cases h6:log.size<=at_+min (log.size - at_) 3
  .have e:U ((log.size:Int)<=((at_+min (log.size - at_) 3:Nat):Int))=Y:=by simp;omega
   simp only[e,AA,HL,A2,Bt]
  .have e:U ((log.size:Int)<=((at_+min (log.size - at_) 3:Nat):Int))=A0:=by simp;omega
   have hm:min (log.size - at_) 3=3:=J
   rw[hm]at e h6 ⊢;simp only[e,AW (J:at_+3<log.size),AG,IP,A2,Bq];obtain h7|h7:=tf (U<|bt log ((at_+3:Nat):Int)=58)
   .simp only[h7,AA,A4];have e4:((U (0<=((at_+3:Nat):Int))&&U (((at_+3:Nat):Int)<=(log.size:Int)))&&(U (0<=(at_:Int))&&U ((at_:Int)<=((at_+3:Nat):Int))))=Y:=by simp;omega
    simp only[e4,A2,Bf];have hz:(log.extract at_<|at_+3).size=3:=by rw[G8 J];omega
    rw[eH J];simp only[A6];obtain h8|⟨n,h8,h9,h10⟩:=S2 (log.extract at_<|at_+3)
    .simp only[h8];rfl
    .have h11:100<=n:=by
      obtain h12|h12:=GN n 100
      .have:=Lf 2 n J J;rw[← h10,Aw]at this;omega
      .exact h12
     have e5:inB (n:Int) 1 60=A0:=by simp[inB];omega
     simp only[h8,EM,A6,e5];rfl
   .simp only[h7];rfl
 .have hb:∀i,i<c->at_+i<log.size/\bt log ((at_+i:Nat):Int)≠58:=λi hi=>by
   refine⟨J, ?_⟩;rw[← Yx J];exact h5 i hi
  have h4':bt log ((at_+c:Nat):Int)=58:=by rw[← Yx J];exact h4
  have hc:at_+c<log.size:=J
  rw[aBP (n:=c) hs hb J J<|.inr<|.inr h4'];simp only[DT];have e:U ((log.size:Int)<=((at_+c:Nat):Int))=A0:=by simp;omega
  have e4:((U (0<=((at_+c:Nat):Int))&&U (((at_+c:Nat):Int)<=(log.size:Int)))&&(U (0<=(at_:Int))&&U ((at_:Int)<=((at_+c:Nat):Int))))=Y:=by simp;omega
  simp only[e,AW hc,AG,IP,A2,Bq,show U (bt log ((at_+c:Nat):Int)=58)=Y by simpa using h4',AA,A4,e4,Bf];have hz:(log.extract at_<|at_+c).size=c:=by rw[G8 J];omega
  have hz2:(log.extract at_ log.size).extract 0 c=log.extract at_ (at_+c):=by rw[aaf J];simp
  rw[eH J];have D8:Dd (log.extract at_ log.size)=(let n:=Ac<|log.extract at_<|at_+c;if n<1 then G else if 60<n then G else if((log.extract at_ log.size).size:Int)<c+2+n then G else
    if !decide (bt (log.extract at_ log.size) ((c+1+n.toNat:Nat):Int)=59) then G else I ((log.extract at_ log.size).extract (c+1)<|c+1+n.toNat,c+2+n.toNat)):=by
   unfold Dd;rw[h1,A9 J,Bf];simp only[hz2]
  rw[D8];simp only[A6];obtain h8|⟨n,h8,h9,h10⟩:=S2 (log.extract at_<|at_+c)
  .have hd:Ac (log.extract at_<|at_+c)= -1:=by
    obtain⟨h9,_⟩|⟨n,h9,h10,h11⟩:=S5 (log.extract at_<|at_+c)
    .exact h9
    .rw[jV J h11]at h8;cases h8
   simp only[h8,hd];rfl
  .rw[kX J h10];simp only[h8,EM,A6,AA,A4,Bf,hse];by_cases h11:(n:Int)<1
   .rw[A5 h11,show inB (n:Int) 1 60=A0 by simp[inB];omega];rfl
   .rw[A9 h11];by_cases h12:60<(n:Int)
    .rw[A5 h12,show inB (n:Int) 1 60=A0 by simp[inB];omega];rfl
    .rw[A9 h12,show inB (n:Int) 1 60=Y by simp[inB];omega];have e5:w64 (((at_+c:Nat):Int)+1)=((at_+c+1:Nat):Int):=by rw[Aa J J];omega
     have e6:w64 (((at_+c+1:Nat):Int)+(n:Int))=((at_+c+1+n:Nat):Int):=by rw[Aa J J];omega
     simp only[e5,e6,AA,A4];by_cases h13:at_+c+1+n<log.size
     .rw[A9<|show ¬(((log.size - at_:Nat):Int)<c+2+n) by omega];have e7:U ((log.size:Int)<=((at_+c+1+n:Nat):Int))=A0:=by simp;omega
      simp only[e7,A4,AW h13,A2];have e10:bt (log.extract at_ log.size) ((c+1+n:Nat):Int)=bt log ((at_+c+1+n:Nat):Int):=by rw[Yx (J:at_+(c+1+n)<log.size),show at_+(c+1+n)=at_+c+1+n by omega]
      simp only[e10];obtain h14|h14:=tf (U<|bt log ((at_+c+1+n:Nat):Int)=59)
      .have e8:((U (0<=((at_+c+1+n:Nat):Int))&&U (((at_+c+1+n:Nat):Int)<=(log.size:Int)))&&(U (0<=((at_+c+1:Nat):Int))&&U (((at_+c+1:Nat):Int)<=((at_+c+1+n:Nat):Int))))=Y:=by simp;omega
       have e9:w64 (((at_+c+1+n:Nat):Int)+1)=((at_+(c+2+n):Nat):Int):=by rw[Aa J J];omega
       simp only[h14,AA,A4,e8,A2,Bl,CR,DZ,BD (J:out.length+1<=4294967296),Bf,e9,aaf (J:at_+(c+1+n)<=log.size)];rw[show at_+(c+1)=at_+c+1 by omega,show at_+(c+1+n)=at_+c+1+n by omega]
      .simp only[h14,AG,A2]
     .rw[A5<|show(((log.size - at_:Nat):Int)<c+2+n) by omega];have e7:U ((log.size:Int)<=((at_+c+1+n:Nat):Int))=Y:=by simp;omega
      simp only[e7,A2]
def cF{log:A1}(hs:log.size<=1048576):PI (log,())=I (((D4 log).1,((D4 log).2:Int),()),()):=by
 obtain⟨y,h1,h2⟩:=jM (log:=log) (b:=R9) (λout at_ y=>y= .inr (out,(at_:Int),())) (λout at_ hlt hl=>by
  rw[akK hs hlt hl];cases Dd (log.extract at_ log.size) with
  | none=>exact⟨_,rfl,rfl⟩
  | some p=>rfl) (λout at_ hge=>by
  refine⟨.inr (out,(at_:Int),()), ?_,rfl⟩;unfold R9;have e:U ((at_:Int)<(log.size:Int))=A0:=by simp;omega
  simp only[e];rfl) (log.size+1) [] 0 J (Cz _) (Cz _)
 unfold PI;rw[show ou (log,[],0,())=I y from h1];subst h2;have h3:=Pe log;simp only[DT];rw[show(Ev log (log.size+1) [] 0)=D4 log from rfl,oh J];rfl
abbrev zK:AJ:=⟨0,0,0,[],[],[]⟩
def BE(k:AJ)(r:A1):Option AJ:=if(FP k r).2 then I (FP k r).1 else G
def Ep(k:AJ)(rs:List A1):Option AJ:=rs.foldlM BE k
def CY(id:Int)(rs:List A1):Option AJ:=if isN id then Ep ⟨id,0,1,[],[],[]⟩ rs else G
def aBw{σ β γ κ α:Type}{b:σ->Option (σ ⊕ (β ⊕ γ))}(st:Nat->κ->σ)(l:List α)(f:κ->α->Option κ)(bad:β)(fin:κ->γ)(SA:κ->Prop)
  (h:∀i k x,l[i]? =I x->SA k->b (st i k)=I (match f k x with|some k'=> .inl (st (i+1) k')|none=> .inr<|.inl bad))
  (hn:∀k,SA k->b (st l.length k)=I (.inr<|.inr<|fin k))(hI:∀k x k',SA k->f k x=I k'->SA k'):
  ∀k,SA k->AZ b (st 0 k)=I (match l.foldlM f k with|some k'=> .inr (fin k')|none=> .inl bad):=by
 have:∀(m i:Nat),i+m=l.length->∀k,SA k->AZ b (st i k)=I (match (l.drop i).foldlM f k with|some k'=> .inr (fin k')|none=> .inl bad):=by
  intro m
  induction m with
  | zero=>
   intro i hi k hk;rw[List.drop_of_length_le J,show i=l.length by omega];exact BH<|hn k hk
  | succ m ih=>
   intro i hi k hk;have hlt:i<l.length:=J
   rw[TH hlt,TW];have hb:=h i k l[i] (Au hlt) hk;cases hf:f k l[i]with
   | none=>rw[hf]at hb;exact BH hb
   | some k'=>rw[hf]at hb;exact Av hb<|ih (i+1) J k'<|hI k _ k' hk hf
 intro k hk;have:=this l.length 0 J k hk;rwa[Io]at this
def arx{k:AJ}{r:A1}(h:(FP k r).2=Y):As (FP k r).1=Y:=by
 unfold FP at h ⊢;split at h<;>rename_i hk
 .rw[A5 hk];cases hs:(GD k r).filter As with
  | none=>rw[hs]at h;cases h
  | some o=>exact(Ii.1 hs).2
 .cases h
def SS{k o:AJ}{r:A1}(h:BE k r=I o):As o=Y:=by
 unfold BE at h;split at h
 .cases h;exact arx (by assumption)
 .cases h
def aBp{k:AJ}(h:As k=Y):SmK k:=by
 have hf:=Bu h;have hn:∀ {l:List A3},DJ l=Y->∀x∈l,GC x:=fun {l} hl x hx=>by
  obtain⟨i,hi,rfl⟩:=Ct hx;have:=Gs hl hi;rw[DW<|Au hi]at this;exact KX this
 exact⟨by have:=hf.hl;omega,hn hf.h,by have:=hf.ml;omega,by have:=hf.il;omega,hn hf.i⟩
def Rw{id:Int}(h:isN id=Y):As ⟨id,0,1,[],[],[]⟩=Y:=by
 unfold As;simp only[h];rfl
def aAk:∀ {rs:List A1} {k o:AJ},As k=Y->Ep k rs=I o->As o=Y
 | [],k,o,hk,h=>by cases h;exact hk
 | r::rs,k,o,hk,h=>by
  unfold Ep at h;rw[TW]at h;cases hs:BE k r with
  | none=>rw[hs]at h;cases h
  | some k'=>rw[hs]at h;exact aAk (rs:=rs) (SS hs) h
def SK{id:Int}{rs:List A1}{o:AJ}(h:CY id rs=I o):As o=Y:=by
 unfold CY at h;split at h
 .exact aAk (Rw<|by assumption) h
 .cases h
def ane{id:Int}{rs:List A1}(hl:rs.length<=1048576)(hr:∀r∈rs,r.size<=1048576):fI (id,rs,())=I ((tK<|(CY id rs).getD zK,(CY id rs).isSome,()),()):=by
 unfold fI CY;simp only[Je,A6,aiT];obtain h|h:=tf (isN id)
 .simp only[h,AA,A4,A2];have:=aBw (b:=VL) (λi (k:AJ)=>(tK zK,tK k,rs,(j8 rs:Int),(i:Int),())) rs BE (tK zK,A0,()) (λk=>(tK zK,tK k,())) (λk=>As k=Y) (λi k x hx hk=>by
   have hi:=(BN.1 hx).1;have hxs:=hr x<|Cl hx;unfold VL;simp only[BQ hi,AW hi,OM,OF hx,A2];rw[yt (aBp hk) hxs];unfold BE;simp only[A6];obtain h2|h2:=tf (FP k x).2
   .simp only[h2,AA,A4,A2,BI hi (by omega:rs.length<=9223372036854775807)]
   .simp only[h2,AG,A4,A2]) (λk hk=>by simp[VL]) (λk x k' _ hs=>SS hs) ⟨id,0,1,[],[],[]⟩ (Rw h)
  rw[show qS ((0,0,0,[],[],[],()),(id,0,1,[],[],[],()),rs,(j8 rs:Int),0,())=_ from this];unfold Ep;cases rs.foldlM BE ⟨id,0,1,[],[],[]⟩<;>rfl
 .simp only[h,AG,A4,A2];rfl
def ye{id:Int}{rs:List A1}(hl:rs.length<=1048576)(hr:∀r∈rs,r.size<=1048576):Rm (id,rs,())=I ((tK<|(CY id rs).getD zK,(CY id rs).isSome,()),()):=by
 unfold Rm CY;simp only[Jd,A6,aiB];obtain h|h:=tf (isN id)
 .simp only[h,AA,A4,A2];have:=aBw (b:=VV) (λi (k:AJ)=>(rs,tK zK,tK k,(i:Int),())) rs BE (tK zK,A0,()) (λk=>(tK zK,tK k,())) (λk=>As k=Y) (λi k x hx hk=>by
   have hi:=(BN.1 hx).1;have hxs:=hr x<|Cl hx;unfold VV;simp only[BQ hi,AW hi,OM,OF hx,A2];rw[yf (aBp hk) hxs];unfold BE;simp only[A6];obtain h2|h2:=tf (FP k x).2
   .simp only[h2,AA,A4,A2,BI hi (by omega:rs.length<=9223372036854775807)]
   .simp only[h2,AG,A4,A2]) (λk hk=>by simp[VV]) (λk x k' _ hs=>SS hs) ⟨id,0,1,[],[],[]⟩ (Rw h)
  rw[show qN (rs,(0,0,0,[],[],[],()),(id,0,1,[],[],[],()),0,())=_ from this];unfold Ep;cases rs.foldlM BE ⟨id,0,1,[],[],[]⟩<;>rfl
 .simp only[h,AG,A4,A2];rfl
def DU(id:Int)(log:A1):Option AJ:=CY id (D4 log).1
def dj{id:Int}{log:A1}(hs:log.size<=1048576):LP (id,log,())=I ((tK<|(DU id log).getD zK,(DU id log).isSome,()),()):=by
 have h:=Pe log;unfold LP DU;rw[cF hs];simp only[A6];rw[ane J (λr hr=>by have:=h.2.2 r hr;omega)];rfl
def ic{id fo:Int}{up:Bool}{log:A1}{hv:List AE}(hs:log.size<=1048576):G7 ((id,up,log,fo,hv,()),())=I ((tK<|(DU id log).getD zK,(DU id log).isSome,()),()):=by
 have h:=Pe log;unfold G7 DU;rw[Ud hs];simp only[A6];rw[ye J (λr hr=>by have:=h.2.2 r hr;omega)];rfl
def DI(lg:A1)(fo:Int):Bool:=U (lg.size<=2400)&&(inB fo 0 lg.size&&(U (((D4 lg).2:Int)=lg.size)&&U (((D4<|lg.extract 0 fo.toNat).2:Int)=fo)))
def VK{lg:A1}{fo:Int}(hs:lg.size<=1048576):Nf ((lg,fo,()),())=I ((DI lg fo,()),()):=by
 unfold Nf DI;simp only[EM,cF hs,A6,Dt,Df];by_cases h1:lg.size<=2400
 .have e1:U (2400<(lg.size:Int))=A0:=by simp;omega
  simp only[e1,h1,AG,IP,A2,Bq,AT,AR];obtain h2|h2:=tf (inB fo 0 lg.size)
  .have h3:=AY.1 h2;have e2:(U (0<=fo)&&U (fo<=(lg.size:Int)))=Y:=by simp;omega
   simp only[h2,AA,A4,e2,A2,AR];rw[cF (by rw[G8 J];omega)];rfl
  .simp only[h2,AG,A2,AM]
 .have e1:U (2400<(lg.size:Int))=Y:=by simp;omega
  simp only[e1,h1,AA,HL,A2,Bt,Ae,AM]
def VU{lg:A1}{fo:Int}(hs:lg.size<=1048576):Na ((lg,fo,()),())=I ((DI lg fo,()),()):=by
 unfold Na DI;simp only[Hn,Ud hs,A6,Dt,Df];by_cases h1:lg.size<=2400
 .have e1:U (2400<(lg.size:Int))=A0:=by simp;omega
  simp only[e1,h1,AG,IP,A2,Bq,AT,AR];obtain h2|h2:=tf (inB fo 0 lg.size)
  .have h3:=AY.1 h2;have e2:(U (0<=fo)&&U (fo<=(lg.size:Int)))=Y:=by simp;omega
   simp only[h2,AA,A4,e2,A2,AR];rw[Ud (by rw[G8 J];omega)];rfl
  .simp only[h2,AG,A2,AM]
 .have e1:U (2400<(lg.size:Int))=Y:=by simp;omega
  simp only[e1,h1,AA,HL,A2,Bt,Ae,AM]
def IM(p:Bool):An p Y=Y:=by cases p<;>rfl
def aw7{k o:AJ}{w:A1}{n:Int}(h:HZ k w n=I o):o.id=k.id:=by
 unfold HZ at h
 repeat' split at h
 all_goals first|(cases h;done)|(cases h;rfl)
def aau{k o:AJ}{n:A3}(h:EV k n=I o):o.id=k.id:=by
 unfold EV at h
 repeat' split at h
 all_goals first|(cases h;done)|(cases h;rfl)
def aqD{k o:AJ}{w:A1}{n:A3}(h:GB k w n=I o):o.id=k.id:=by
 unfold GB at h;split at h
 .exact(aau h).trans rfl
 split at h
 .exact aau h
 split at h
 .cases h
 repeat' split at h
 all_goals first|(cases h;done)|(cases h;rfl)
def aqG{k o:AJ}{w:A1}{m:Mark}(h:Er k w m=I o):o.id=k.id:=by
 unfold Er at h
 repeat' split at h
 all_goals first|(cases h;done)|(cases h;rfl)
def asd{k o:AJ}{w r:A1}(h:BV k w r=I o):o.id=k.id:=by
 unfold BV at h;split at h
 .split at h
  .exact aw7 h
  .cases h
 split at h
 .split at h
  .exact aqD h
  .cases h
 split at h
 .split at h
  .exact aqG h
  .cases h
 .cases h
def aua{k o:AJ}{r:A1}(h:BE k r=I o)(hk:As k=Y):o.id=k.id:=by
 unfold BE at h;split at h
 case isFalse=>cases h
 rename_i h2;cases h;unfold FP at h2 ⊢;simp only[hk,A2]at h2 ⊢;cases hs:(GD k r).filter As with
 | none=>rfl
 | some o=>
  simp only;have:=(Ii.1 hs).1;unfold GD at this;split at this
  .cases this
  .exact asd this
def aAl:∀ {rs:List A1} {k o:AJ},As k=Y->Ep k rs=I o->o.id=k.id
 | [],k,o,_,h=>by cases h;rfl
 | r::rs,k,o,hk,h=>by
  unfold Ep at h;rw[TW]at h;cases hs:BE k r with
  | none=>rw[hs]at h;cases h
  | some k'=>rw[hs]at h;exact(aAl (rs:=rs) (SS hs) h).trans<|aua hs hk
def je{id:Int}{rs:List A1}{o:AJ}(h:CY id rs=I o):o.id=id:=by
 unfold CY at h;split at h
 .exact aAl (k:=⟨id,0,1,[],[],[]⟩) (Rw<|by assumption) h
 .cases h
def xA(l:List AN)(i:Nat):AN:=l.getD i<|dfl .mixed
def hA(l:List AE)(i:Nat):AE:=l.getD i<|dfl .half
def XT(l:List AN)(i:Nat): @rd AN aEx l (i:Int)=xA l i:=rfl
def YH(l:List AE)(i:Nat): @rd AE aEl l (i:Int)=hA l i:=rfl
def auw{l:List AN}{i j:Nat}(h:j<i):xA (l.take i) j=xA l j:=by
 unfold xA;simp[B8,h]
def I3(l:List AN)(i:Nat):Bool:=(inB (xA l i).nu 0 999&&U (((xA l i).da.size:Int)=4))&&BK i λj=> !decide ((xA l j).nu=(xA l i).nu)
def Ft(h:AE):Bool:=isN h.fr&&(isN h.to&&(inB h.nu 1 99&&(inB h.un 1 999&&(inB h.sz 1 24&&(U ((j8 h.got:Int)<=14)&&BK h.got.length (I3 h.got))))))
def anX{h:AE}(sm:OL h):fD ((h.fr,h.nu,h.to,h.un,h.sz,h.got,()),())=I ((Ft h,()),()):=by
 have hl:h.got.length<=9223372036854775807:=by have:=sm.1;omega
 have Gq:qf ((h.fr,h.nu,h.to,h.un,h.sz,h.got,()),h.got,(j8 h.got:Int),0,())=I (if BK h.got.length (I3 h.got) then .inr () else .inl (A0,())):=
  Dv (λi=>((h.fr,h.nu,h.to,h.un,h.sz,h.got,()),h.got,(j8 h.got:Int),(i:Int),())) h.got.length (I3 h.got) (A0,()) () (λi hi=>by
   unfold eQ I3;simp only[BQ hi,AW hi,A2,XT,EM,A6];obtain e|e:=tf (inB (xA h.got i).nu 0 999)<;>obtain e'|e':=tfp (((xA h.got i).da.size:Int)=4)
   rotate_left
   .simp only[e,e',Ae,BY,AG,DN,AM,A2,A4]
   .simp only[e,AM,AG,Bt,A2,A4]
   .simp only[e,AM,AG,Bt,A2,A4]
   .have e2:(U (0<=(i:Int))&&U ((i:Int)<=(j8 h.got:Int)))=Y:=by simp;omega
    have e3:(BR i h.got).length=i:=by simp;omega
    simp only[e,e',AT,AA,GM,A4,e2,A2,Bf,e3,AR];have hin:qe ((h.fr,h.nu,h.to,h.un,h.sz,h.got,()),((xA h.got i).nu,(xA h.got i).da,()),h.got,(j8 h.got:Int),(i:Int),BR i h.got,(i:Int),0,())=
      I (if BK i (λj=> !decide ((xA h.got j).nu=(xA h.got i).nu)) then .inr ((h.fr,h.nu,h.to,h.un,h.sz,h.got,()),h.got,(j8 h.got:Int),(i:Int),()) else .inl (A0,())):=
     Dv (λj=>((h.fr,h.nu,h.to,h.un,h.sz,h.got,()),((xA h.got i).nu,(xA h.got i).da,()),h.got,(j8 h.got:Int),(i:Int),BR i h.got,(i:Int),(j:Int),())) i (λj=> !decide ((xA h.got j).nu=(xA h.got i).nu)) (A0,()) _ (λj hj=>by
      unfold eP;simp only[BQ hj,e3,AW hj,A2,XT,auw hj,BI hj (by omega:i<=9223372036854775807)];obtain e4|e4:=tfp ((xA h.got j).nu=(xA h.got i).nu)<;>simp only[e4,AT,Ae]<;>rfl) (by simp[eP])
    rw[hin];obtain e4|e4:=tf (BK i λj=> !decide ((xA h.got j).nu=(xA h.got i).nu))
    .simp only[e4,A2,DT,BI hi hl]
    .simp only[e4,A4,Jh]) (by simp[eQ])
 unfold fD Ft;simp only[Je,EM,A6,Gq];obtain e|e:=tf (isN h.fr)<;>simp only[e,AA,AG,A2,A4,AR,AM];obtain e|e:=tf (isN h.to)<;>simp only[e,AA,AG,A2,A4,AR,AM];obtain e|e:=tf (inB h.nu 1 99)<;>simp only[e,AA,AG,A2,A4,AR,AM];obtain e|e:=tf (inB h.un 1 999)<;>simp only[e,AA,AG,A2,A4,AR,AM];obtain e|e:=tf (inB h.sz 1 24)<;>simp only[e,AA,AG,A2,A4,AR,AM];obtain⟨e1,e2⟩|⟨e1,e2⟩:=Eg (j8 h.got:Int) 14<;>simp only[e1,e2,AT,Ae,A2,A4,AR,AM];obtain e|e:=tf (BK h.got.length<|I3 h.got)<;>simp only[e,A2,A4]<;>rfl
def atK{sz:Int}(h:inB sz 1 24=Y):inB (w64<|Ay (w64<|w64 (sz+4) - 1) 4) 1 6=Y:=by
 have h:=AY.1 h;rw[Aa (n:=sz+4) J J,Aa (n:=sz+4 - 1) J J];have e:Ay (sz+4 - 1) 4=(sz+4 - 1) / 4:=HC J;rw[e,Aa J J,AY];omega
def aoB{h:AE}(sm:OL h):cN ((h.fr,h.nu,h.to,h.un,h.sz,h.got,()),())=I ((Ft h,()),()):=by
 have hl:h.got.length<=9223372036854775807:=by have:=sm.1;omega
 have Gq:inB h.sz 1 24=Y->oz ((h.fr,h.nu,h.to,h.un,h.sz,h.got,()),0,())=I (if BK h.got.length (I3 h.got) then .inr () else .inl (A0,())):=λhz=>
  Dv (λi=>((h.fr,h.nu,h.to,h.un,h.sz,h.got,()),(i:Int),())) h.got.length (I3 h.got) (A0,()) () (λi hi=>by
   unfold bQ I3 LS Re MS;simp only[BQ hi,AW hi,A2,XT,Hn,A6,atK hz,IP,Dt,Df,AR];obtain e|e:=tf (inB (xA h.got i).nu 0 999)<;>obtain e'|e':=tfp (((xA h.got i).da.size:Int)=4)
   rotate_left
   .simp only[e,e',Ae,BY,AG,AM,A2,A4]
   .simp only[e,AM,AG,A2,A4]
   .simp only[e,AM,AG,A2,A4]
   .simp only[e,e',AT,EZ,AA,A4,AR];have hin:oy ((h.fr,h.nu,h.to,h.un,h.sz,h.got,()),(i:Int),0,())=
      I (if BK i (λj=> !decide ((xA h.got j).nu=(xA h.got i).nu)) then .inr ((h.fr,h.nu,h.to,h.un,h.sz,h.got,()),(i:Int),()) else .inl (A0,())):=
     Dv (λj=>((h.fr,h.nu,h.to,h.un,h.sz,h.got,()),(i:Int),(j:Int),())) i (λj=> !decide ((xA h.got j).nu=(xA h.got i).nu)) (A0,()) _ (λj hj=>by
      unfold bP;simp only[BQ hj,AW hi,AW<|Yb hj hi,A2,XT,BI hj (by omega:i<=9223372036854775807)];obtain e4|e4:=tfp ((xA h.got j).nu=(xA h.got i).nu)<;>simp only[e4,AT,Ae]<;>rfl) (by simp[bP])
    rw[hin];obtain e4|e4:=tf (BK i λj=> !decide ((xA h.got j).nu=(xA h.got i).nu))
    .simp only[e4,A2,DT,BI hi hl]
    .simp only[e4,A4,Jh]) (by simp[bQ])
 unfold cN Ft;simp only[Jd,Hn,A6];obtain e|e:=tf (isN h.fr)<;>simp only[e,AA,AG,A2,A4,AR,AM];obtain e|e:=tf (isN h.to)<;>simp only[e,AA,AG,A2,A4,AR,AM];obtain e|e:=tf (inB h.nu 1 99)<;>simp only[e,AA,AG,A2,A4,AR,AM];obtain e|e:=tf (inB h.un 1 999)<;>simp only[e,AA,AG,A2,A4,AR,AM];obtain e|e:=tf (inB h.sz 1 24)<;>simp only[e,AA,AG,A2,A4,AR,AM];rw[Gq e];obtain⟨e1,e2⟩|⟨e1,e2⟩:=Eg (j8 h.got:Int) 14<;>simp only[e1,e2,AT,Ae,A2,A4,AR,AM];obtain e|e:=tf (BK h.got.length<|I3 h.got)<;>simp only[e,A2,A4]<;>rfl
def EG(l:List AE)(f n:Int):Int:=Fw l.length λi=>U ((hA l i).fr=f)&&U ((hA l i).nu=n)
def yo{l:List AE}{f n:Int}(hl:l.length<=1048576):Rr (l,f,n,())=I ((EG l f n,()),()):=by
 unfold Rr;have:=Pm (b:=VJ) (λi=>(f,n,l,(j8 l:Int),(i:Int),())) l.length (λi=>U ((hA l i).fr=f)&&U ((hA l i).nu=n)) (λr=>(r,())) () (λi hi=>by
  unfold VJ;simp only[BQ hi,AW hi,A2,YH,BI hi (by omega:l.length<=9223372036854775807)];obtain e|e:=tfp ((hA l i).fr=f)<;>obtain e2|e2:=tfp ((hA l i).nu=n)<;>simp only[e,e2,AT,Ae]<;>rfl) (by simp[VJ])
 rw[show qg (f,n,l,(j8 l:Int),0,())=_ from this];exact SG
def auT{n:Nat}{p:Nat->Bool}{i:Nat}(hi:i<n)(hp:p i=Y):U (Fw n p<(i:Int))= !(BK i λj=> !p j):=by
 obtain⟨_,h2⟩|⟨c,h1,h2,h3,h4⟩:=G6 n p
 .rw[h2 i hi]at hp;cases hp
 .rw[h1];by_cases hc:c<i
  .have:BK i (λj=> !p j)=A0:=by
    rw[Bool.eq_false_iff];intro h;have:=DB.1 h c hc;simp[h3]at this
   rw[this];simpa using hc
  .have:BK i (λj=> !p j)=Y:=DB.2 λj hj=>by rw[h4 j J];rfl
   rw[this];simp;omega
def Ff(l:List AE)(i:Nat):Bool:=Ft (hA l i)&&BK i λj=> !(U ((hA l j).fr=(hA l i).fr)&&U ((hA l j).nu=(hA l i).nu))
def Ad(k:A8):Bool:=isN k.id&&(DI k.log k.fo&&(U ((k.AH.length:Int)<=3)&&((k.up||decide (k.AH.length=0))&&(((DU k.id k.log).isSome&&(DU k.id<|k.log.extract 0 k.fo.toNat).isSome)&&BK k.AH.length (Ff k.AH)))))
abbrev tKp(k:A8):Int×Bool×A1×Int×List AE×D:=(k.id,k.up,k.log,k.fo,k.AH,())
def abk{l:List AE}(h:∀x∈l,OL x)(i:Nat):OL (hA l i):=by
 unfold hA;obtain hi|hi:=GN i l.length
 .rw[OF<|Au hi];exact h _ (Cg hi)
 .rw[B8,Hc hi];exact⟨by decide,λm hm=>by cases hm⟩
def KR{k:A8}(sm:FY k):Hm (tKp k,())=I ((Ad k,()),()):=by
 obtain⟨id,up,lg,fo,hv⟩:=k;obtain⟨sl,hl,hs⟩:=sm;simp only at sl hl hs;have Gq:ab ((id,up,lg,fo,hv,()),hv,(j8 hv:Int),0,())=I (if BK hv.length (Ff hv) then .inr () else .inl (A0,())):=
  Dv (λi=>((id,up,lg,fo,hv,()),hv,(j8 hv:Int),(i:Int),())) hv.length (Ff hv) (A0,()) () (λi hi=>by
   unfold cK Ff;simp only[BQ hi,AW hi,A2,YH,anX<|abk hs i,yo hl,A6,Dt,Df,IM,BI hi (by omega:hv.length<=9223372036854775807)];obtain e|e:=tf (Ft<|hA hv i)
   .have hf:=auT (p:=λj=>U ((hA hv j).fr=(hA hv i).fr)&&U ((hA hv j).nu=(hA hv i).nu)) hi y9;unfold EG;simp only[e,AA,Bq,AR,hf];cases BK i (λj=> !(U ((hA hv j).fr=(hA hv i).fr)&&U ((hA hv j).nu=(hA hv i).nu)))<;>rfl
   .simp only[e,AG,Bt,A2,AM,A4]) (by simp[cK])
 unfold Hm Ad;simp only[Je,A6,VK sl];obtain e|e:=tf (isN id)<;>simp only[e,AA,AG,A2,A4,AR,AM,Ny];obtain e2|e2:=tf (DI lg fo)<;>simp only[e2,AA,AG,A2,A4,AR,AM,Ny];have e3:0<=fo/\fo<=(lg.size:Int):=by
  unfold DI at e2;simp only[AD]at e2;exact AY.1 e2.2.1
 have e4:(U (0<=fo)&&U (fo<=(lg.size:Int)))=Y:=by simp;omega
 obtain⟨e5,e6⟩|⟨e5,e6⟩:=Eg (j8 hv:Int) 3<;>simp only[e5,e6,AT,Ae,A2,A4,AR,AM,Ny];have IF:∀b:Bool,(b=Y)->BT (X:=(Int×Bool×A1×Int×List AE×D)×D) (λj5=>
   (LP (j5.1.1,j5.1.2.2.1,())).bind λr8=>
   (if(U (0<=j5.1.2.2.2.1)&&U (j5.1.2.2.2.1<=(j5.1.2.2.1.size:Int))) then
   (LP (j5.1.1,(j5.1.2.2.1.extract (0)<|AK j5.1.2.2.2.1),())).bind λr9=>
   (if((!r8.1.2.1)||(!r9.1.2.1)) then
   I ((A0,()),())
   else
   (AP (ab (j5.1,j5.1.2.2.2.2.1,(j8 j5.1.2.2.2.2.1:Int),0,()))
   (λy56=>I (y56,()))
   (λy56=>I ((Y,()),()))))
   else G)) (I<|.inr ((id,up,lg,fo,hv,()),()))=I ((b&&(((DU id lg).isSome&&(DU id<|lg.extract 0 fo.toNat).isSome)&&BK hv.length (Ff hv)),()),()):=by
  rintro b rfl;simp only[Bd,dj sl,A6,e4,A2];rw[dj (by rw[G8 J];omega)];simp only[A6,Gq,AR];obtain e|e:=tf (DU id lg).isSome<;>obtain e2|e2:=tf (DU id<|lg.extract 0 fo.toNat).isSome<;>simp only[e,e2,AA,AG,GM,Bt,DN,A2,A4,EZ,BY,AM,AR];obtain e|e:=tf (BK hv.length<|Ff hv)<;>simp only[e,A2,A4]<;>rfl
 obtain e7|e7:=tf up
 .simp only[e7,AA,A4,Bt];rw[e7]at IF;exact IF Y rfl
 .simp only[e7,AG,A2,Bq];rw[e7]at IF;by_cases e8:hv.length=0
  .have e9:U (0<(j8 hv:Int))=A0:=by rw[e8];rfl
   simp only[e9,A4,e8,AT];rw[e8]at IF;exact IF Y rfl
  .have e9:U (0<(j8 hv:Int))=Y:=by simp;omega
   simp only[e9,A2,e8,Ae,AM,Ny]
def LU{k:A8}(sm:FY k):Iv (tKp k,())=I ((Ad k,()),()):=by
 obtain⟨id,up,lg,fo,hv⟩:=k;obtain⟨sl,hl,hs⟩:=sm;simp only at sl hl hs;have Gq:aV ((id,up,lg,fo,hv,()),0,())=I (if BK hv.length (Ff hv) then .inr () else .inl (A0,())):=
  Dv (λi=>((id,up,lg,fo,hv,()),(i:Int),())) hv.length (Ff hv) (A0,()) () (λi hi=>by
   unfold bq Ff;simp only[BQ hi,AW hi,A2,YH,aoB<|abk hs i,A6,BI hi (by omega:hv.length<=9223372036854775807)];obtain e|e:=tf (Ft<|hA hv i)
   .simp only[e,AA,A4,AR];have hin:pH ((id,up,lg,fo,hv,()),(i:Int),0,())=I (if BK i (λj=> !(U ((hA hv j).fr=(hA hv i).fr)&&U ((hA hv j).nu=(hA hv i).nu))) then .inr ((id,up,lg,fo,hv,()),(i:Int),()) else .inl (A0,())):=
     Dv (λj=>((id,up,lg,fo,hv,()),(i:Int),(j:Int),())) i (λj=> !(U ((hA hv j).fr=(hA hv i).fr)&&U ((hA hv j).nu=(hA hv i).nu))) (A0,()) _ (λj hj=>by
      unfold cV;simp only[BQ hj,AW hi,AW<|Yb hj hi,A2,YH,IM,BI hj (by omega:i<=9223372036854775807)];obtain e|e:=tfp ((hA hv j).fr=(hA hv i).fr)<;>obtain e2|e2:=tfp ((hA hv j).nu=(hA hv i).nu)<;>simp only[e,e2,AT,Ae]<;>rfl) (by simp[cV])
    rw[hin];obtain e4|e4:=tf (BK i λj=> !(U ((hA hv j).fr=(hA hv i).fr)&&U ((hA hv j).nu=(hA hv i).nu)))
    .simp only[e4,A2,DT,BI hi (by omega:hv.length<=9223372036854775807)]
    .simp only[e4,A4,Jh]
   .simp only[e,AG,A2,AM,A4]) (by simp[bq])
 unfold Iv Ad;simp only[Jd,A6,VU sl];obtain e|e:=tf (isN id)<;>simp only[e,AA,AG,A2,A4,AR,AM,Ny];obtain e2|e2:=tf (DI lg fo)<;>simp only[e2,AA,AG,A2,A4,AR,AM,Ny];have e3:0<=fo/\fo<=(lg.size:Int):=by
  unfold DI at e2;simp only[AD]at e2;exact AY.1 e2.2.1
 have e4:(U (0<=fo)&&U (fo<=(lg.size:Int)))=Y:=by simp;omega
 obtain⟨e5,e6⟩|⟨e5,e6⟩:=Eg (j8 hv:Int) 3<;>simp only[e5,e6,AT,Ae,A2,A4,AR,AM,Ny];have IF:∀b:Bool,(b=Y)->BT (X:=(Int×Bool×A1×Int×List AE×D)×D) (λj5=>
   (if(U (0<=j5.1.2.2.2.1)&&U (j5.1.2.2.2.1<=(j5.1.2.2.1.size:Int))) then
   (LH ((j5.1.2.2.1.extract (0)<|AK j5.1.2.2.2.1),())).bind λr8=>
   (Rm (j5.1.1,r8.1.1,())).bind λr9=>
   (G7 j5).bind λr10=>
   (if((!r10.1.2.1)||(!r9.1.2.1)) then
   I ((A0,()),())
   else
   (AP (aV (j5.1,0,()))
   (λy27=>I (y27,()))
   (λy27=>I ((Y,()),()))))
   else G)) (I<|.inr ((id,up,lg,fo,hv,()),()))=I ((b&&(((DU id lg).isSome&&(DU id<|lg.extract 0 fo.toNat).isSome)&&BK hv.length (Ff hv)),()),()):=by
  rintro b rfl;have hz:(lg.extract 0 fo.toNat).size<=1048576:=by rw[G8 J];omega
  have hg:=Pe<|lg.extract 0 fo.toNat;simp only[Bd,e4,A2,Ud hz,A6,ye (id:=id) (show(D4<|lg.extract 0 fo.toNat).1.length<=1048576 by omega) (λr hr=>by have:=hg.2.2 r hr;omega),ic sl,Gq,AR];rw[show CY id (D4<|lg.extract 0 fo.toNat).1=DU id (lg.extract 0 fo.toNat) from rfl];obtain e|e:=tf (DU id lg).isSome<;>obtain e2|e2:=tf (DU id<|lg.extract 0 fo.toNat).isSome<;>simp only[e,e2,AA,AG,GM,Bt,DN,A2,A4,EZ,BY,AM,AR];obtain e|e:=tf (BK hv.length<|Ff hv)<;>simp only[e,A2,A4]<;>rfl
 obtain e7|e7:=tf up
 .simp only[e7,AA,A4,Bt];rw[e7]at IF;exact IF Y rfl
 .simp only[e7,AG,A2,Bq];rw[e7]at IF;by_cases e8:hv.length=0
  .have e9:U (0<(j8 hv:Int))=A0:=by rw[e8];rfl
   simp only[e9,A4,e8,AT];rw[e8]at IF;exact IF Y rfl
  .have e9:U (0<(j8 hv:Int))=Y:=by simp;omega
   simp only[e9,A2,e8,Ae,AM,Ny]
abbrev YR:=Int×List A8×List Bool×List AL×List A3×List A3×D
def kA(l:List A8)(i:Nat):A8:=l.getD i<|dfl .AX
def pA(l:List AL)(i:Nat):AL:=l.getD i<|dfl .Aj
def bA(l:List Bool)(i:Nat):Bool:=l.getD i<|dfl .bool
def SH(l:List A8)(i:Nat): @rd A8 aEm l (i:Int)=kA l i:=rfl
def aBZ(l:List AL)(i:Nat): @rd AL aEq l (i:Int)=pA l i:=rfl
def HA(l:List A3):Bool:=BK l.length λi=>At<|nA l i
def E0(p:AL):Bool:=isN p.src&&(isN p.dst&&((U (p.src - p.dst=1)||decide (p.dst - p.src=1))&&U ((p.data.size:Int)<=40)))
def Jy(l:List A8)(i:Nat):Bool:=U ((kA l i).id=(i:Int))&&Ad (kA l i)
def J5(ti:Int)(ks:List A8)(ls:List Bool)(ra:List AL)(se go:List A3):Bool:=
 inB ti 0 99999&&(U ((j8 ks:Int)=4)&&(U ((j8 ls:Int)=3)&&(U ((j8 ra:Int)<=30)&&((HA se&&U ((j8 se:Int)<=6))&&((HA go&&U ((j8 go:Int)<=6))&&
  (BK ks.length (Jy ks)&&BK ra.length (λi=>E0<|pA ra i)))))))
def Te{l:List A8}(h:∀x∈l,FY x)(i:Nat):FY (kA l i):=by
 unfold kA;obtain hi|hi:=GN i l.length
 .rw[OF<|Au hi];exact h _ (Cg hi)
 .rw[B8,Hc hi];exact⟨by decide,by decide,λm hm=>by cases hm⟩
def zx{l:List A3}(hl:l.length<=1048576)(h:∀x∈l,GC x):Vv (l,())=I ((HA l&&U ((j8 l:Int)<=6),()),()):=by
 have Gq:qu (l,l,(j8 l:Int),0,())=I (if HA l then .inr (l,()) else .inl (A0,())):=
  Dv (λi=>(l,l,(j8 l:Int),(i:Int),())) l.length (λi=>At<|nA l i) (A0,()) (l,()) (λi hi=>by
   unfold fH;simp only[BQ hi,AW hi,A2,Dc,Vh<|Td h i,A6,BI hi (by omega:l.length<=9223372036854775807)];obtain e|e:=tf (At<|nA l i)<;>simp only[e]<;>rfl) (by simp[fH])
 unfold Vv;simp only[Gq];obtain e|e:=tf (HA l)<;>simp only[e]<;>rfl
def E7{n:Int}(h:isN n=Y):0<=n/\n<=3:=AY.1 h
def XJ{a b:Int}(ha:isN a=Y)(hb:isN b=Y):w64 (a - b)=a - b:=by
 have:=E7 ha;have:=E7 hb;exact Aa J J
def akJ{w:YR}{ks:List A8}(kl:ks.length<=1048576)(k:∀x∈ks,FY x):
  pg (w,ks,(j8 ks:Int),0,())=I (if BK ks.length (Jy ks) then .inr (w,()) else .inl (A0,())):=
 Dv (λi=>(w,ks,(j8 ks:Int),(i:Int),())) ks.length (Jy ks) (A0,()) (w,()) (λi hi=>by
  have hk:=KR<|Te k i;unfold cf Jy;simp only[BQ hi,AW hi,A2,SH,hk,Dt,Df,IM,BI hi (by omega:ks.length<=9223372036854775807)];obtain e|e:=tfp ((kA ks i).id=(i:Int))<;>obtain e2|e2:=tf (Ad<|kA ks i)<;>simp only[e,e2,AT,Ae]<;>rfl) (by simp[cf])
def wa{ra:List AL}(rl:ra.length<=1048576):
  pf (ra,(j8 ra:Int),0,())=I (if BK ra.length (λi=>E0<|pA ra i) then .inr () else .inl (A0,())):=
 Dv (λi=>(ra,(j8 ra:Int),(i:Int),())) ra.length (λi=>E0<|pA ra i) (A0,()) () (λi hi=>by
  unfold cd E0;simp only[BQ hi,AW hi,A2,aBZ,Je,A6,BI hi (by omega:ra.length<=9223372036854775807)];obtain e|e:=tf (isN (pA ra i).src)<;>obtain e2|e2:=tf (isN (pA ra i).dst)<;>simp only[e,e2,AA,AG,A2,A4,AR,AM];simp only[XJ e e2,XJ e2 e];obtain e3|e3:=tfp ((pA ra i).src - (pA ra i).dst=1)<;>obtain e4|e4:=tfp ((pA ra i).dst - (pA ra i).src=1)<;>obtain⟨e5,e6⟩|⟨e5,e6⟩:=Eg ((pA ra i).data.size:Int) 40<;>simp only[e3,e4,e5,e6,AT,Ae]<;>rfl) (by simp[cd])
def xI{ti:Int}{ks:List A8}{ls:List Bool}{ra:List AL}{se go:List A3}(sm:P4 ks ls ra se go):
  PU ((ti,ks,ls,ra,se,go,()),())=I ((J5 ti ks ls ra se go,()),()):=by
 unfold PU J5;simp only[EM,zx sm.sl sm.s,zx sm.gl sm.g,akJ sm.kl sm.k,wa sm.rl,A6];obtain e|e:=tf (inB ti 0 99999)<;>simp only[e,AA,AG,A2,A4,AR,AM];obtain e|e:=tfp ((j8 ks:Int)=4)<;>simp only[e,AT,Ae,AA,AG,A2,A4,AR,AM];obtain e|e:=tfp ((j8 ls:Int)=3)<;>simp only[e,AT,Ae,AA,AG,A2,A4,AR,AM];obtain⟨e1,e2⟩|⟨e1,e2⟩:=Eg (j8 ra:Int) 30<;>simp only[e1,e2,AT,Ae,A2,A4,AR,AM];obtain e|e:=tf (HA se&&U ((j8 se:Int)<=6))<;>simp only[e,AA,AG,A2,A4,AR,AM];obtain e|e:=tf (HA go&&U ((j8 go:Int)<=6))<;>simp only[e,AA,AG,A2,A4,AR,AM];obtain e|e:=tf (BK ks.length<|Jy ks)<;>simp only[e,A2,A4,AR,AM,Jh,DT];rw[wa sm.rl];obtain e|e:=tf (BK ra.length λi=>E0<|pA ra i)<;>simp only[e,A2,A4,Jh,DT]
def ajx{ti:Int}{ks:List A8}{ls:List Bool}{ra:List AL}{se go:List A3}(sm:P4 ks ls ra se go):
  pY ((ti,ks,ls,ra,se,go,()),0,())=I (if BK ks.length (Jy ks) then .inr ((ti,ks,ls,ra,se,go,()),()) else .inl (A0,())):=
 Dv (λi=>((ti,ks,ls,ra,se,go,()),(i:Int),())) ks.length (Jy ks) (A0,()) _ (λi hi=>by
  have hk:=LU<|Te sm.k i;unfold dJ Jy;have kl:=sm.kl;simp only[BQ hi,AW hi,A2,SH,hk,A6,IM,BI hi (by omega:ks.length<=9223372036854775807)];obtain e|e:=tfp ((kA ks i).id=(i:Int))<;>obtain e2|e2:=tf (Ad<|kA ks i)<;>simp only[e,e2,AT,Ae]<;>rfl) (by simp[dJ])
def ajw{ti:Int}{ks:List A8}{ls:List Bool}{ra:List AL}{se go:List A3}(sm:P4 ks ls ra se go):
  pX ((ti,ks,ls,ra,se,go,()),0,())=I (if BK ra.length (λi=>E0<|pA ra i) then .inr ((ti,ks,ls,ra,se,go,()),()) else .inl (A0,())):=
 Dv (λi=>((ti,ks,ls,ra,se,go,()),(i:Int),())) ra.length (λi=>E0<|pA ra i) (A0,()) _ (λi hi=>by
  have rl:=sm.rl;unfold dI E0;simp only[BQ hi,AW hi,A2,aBZ,Jd,A6,BI hi (by omega:ra.length<=9223372036854775807)];obtain e|e:=tf (isN (pA ra i).src)<;>obtain e2|e2:=tf (isN (pA ra i).dst)<;>simp only[e,e2,AA,AG,A2,A4,AR,AM];simp only[XJ e e2,XJ e2 e];obtain e3|e3:=tfp ((pA ra i).src - (pA ra i).dst=1)<;>obtain e4|e4:=tfp ((pA ra i).dst - (pA ra i).src=1)<;>obtain⟨e5,e6⟩|⟨e5,e6⟩:=Eg ((pA ra i).data.size:Int) 40<;>simp only[e3,e4,e5,e6,AT,Ae]<;>rfl) (by simp[dI])
def ajv{ti:Int}{ks:List A8}{ls:List Bool}{ra:List AL}{se go:List A3}(sm:P4 ks ls ra se go):
  pW ((ti,ks,ls,ra,se,go,()),0,())=I (if HA se then .inr ((ti,ks,ls,ra,se,go,()),()) else .inl (A0,())):=
 Dv (λi=>((ti,ks,ls,ra,se,go,()),(i:Int),())) se.length (λi=>At<|nA se i) (A0,()) _ (λi hi=>by
  have rl:=sm.sl;unfold dH;simp only[BQ hi,AW hi,A2,Dc,VZ<|Td sm.s i,A6,BI hi (by omega:se.length<=9223372036854775807)];obtain e|e:=tf (At<|nA se i)<;>simp only[e]<;>rfl) (by simp[dH])
def aju{ti:Int}{ks:List A8}{ls:List Bool}{ra:List AL}{se go:List A3}(sm:P4 ks ls ra se go):
  pV ((ti,ks,ls,ra,se,go,()),0,())=I (if HA go then .inr () else .inl (A0,())):=
 Dv (λi=>((ti,ks,ls,ra,se,go,()),(i:Int),())) go.length (λi=>At<|nA go i) (A0,()) _ (λi hi=>by
  have rl:=sm.gl;unfold dG;simp only[BQ hi,AW hi,A2,Dc,VZ<|Td sm.g i,A6,BI hi (by omega:go.length<=9223372036854775807)];obtain e|e:=tf (At<|nA go i)<;>simp only[e]<;>rfl) (by simp[dG])
def sA{ti:Int}{ks:List A8}{ls:List Bool}{ra:List AL}{se go:List A3}(sm:P4 ks ls ra se go):
  PS ((ti,ks,ls,ra,se,go,()),())=I ((J5 ti ks ls ra se go,()),()):=by
 unfold PS J5;simp only[Hn,A6];obtain e|e:=tf (inB ti 0 99999)<;>simp only[e,AA,AG,A2,A4,AR,AM];obtain e|e:=tfp ((j8 ks:Int)=4)<;>simp only[e,AT,Ae,AA,AG,A2,A4,AR,AM];obtain e|e:=tfp ((j8 ls:Int)=3)<;>simp only[e,AT,Ae,AA,AG,A2,A4,AR,AM];obtain⟨e1,e2⟩|⟨e1,e2⟩:=Eg (j8 ra:Int) 30<;>simp only[e1,e2,AT,Ae,A2,A4,AR,AM];obtain⟨e1,e2⟩|⟨e1,e2⟩:=Eg (j8 se:Int) 6<;>simp only[e1,e2,AT,Ae,A2,A4,Kr,BY,AM];obtain⟨e1,e2⟩|⟨e1,e2⟩:=Eg (j8 go:Int) 6<;>simp only[e1,e2,AT,Ae,A2,A4,Kr,BY,AM];rw[ajx sm];obtain e|e:=tf (BK ks.length<|Jy ks)<;>simp only[e,A2,A4,AR,AM,BY,Jh,DT];rw[ajw sm];obtain e|e:=tf (BK ra.length λi=>E0<|pA ra i)<;>simp only[e,A2,A4,Jh,DT,BY,Kr];rw[ajv sm];obtain e|e:=tf (HA se)<;>simp only[e,A2,A4,Jh,DT,BY,Kr,AR,AM];rw[aju sm];obtain e|e:=tf (HA go)<;>simp only[e,A2,A4,Jh,DT,BY,Kr]
def Br(a t:Int):Int:=if !isN a||(!isN t||decide (a=t)) then -1 else if a<t then a+1 else a - 1
def XK{a:Int}(h:isN a=Y):w64 (a+1)=a+1/\w64 (a - 1)=a - 1:=by
 have:=E7 h;exact⟨Aa J J,Aa J J⟩
def wb{a t:Int}:Jb (a,t,())=I ((Br a t,()),()):=by
 unfold Jb Br;simp only[Je,A6];obtain e|e:=tf (isN a)
 .rcases tf (isN t) with e2|e2
  .rcases tfp (a=t) with e3|e3
   .simp only[e,e2,e3,AT];rfl
   .rcases tfp (a<t) with e4|e4<;>simp only[e,e2,e3,e4,Ae,AT,AA,A4,Bd,A2,if_false,GM,(XK e).1,(XK e).2]
  .simp only[e,e2];rfl
 .simp only[e];rfl
def rM{a t:Int}:RV (a,t,())=I ((Br a t,()),()):=by
 unfold RV Br;simp only[Jd,A6];obtain e|e:=tf (isN a)
 .rcases tf (isN t) with e2|e2
  .rcases tfp (a=t) with e3|e3
   .simp only[e,e2,e3,AT];rfl
   .rcases tfp (a<t) with e4|e4<;>simp only[e,e2,e3,e4,Ae,AT,AA,A4,Bd,A2,if_false,GM,(XK e).1,(XK e).2]
  .simp only[e,e2];rfl
 .simp only[e];rfl
def asY{a t:Int}(ha:isN a=Y)(ht:isN t=Y)(hne:a≠t):isN (Br a t)=Y:=by
 have:=E7 ha;have:=E7 ht;have e3:U (a=t)=A0:=by simpa using hne
 unfold Br;simp only[ha,ht,e3,AA,GM,A4];rw[AY];split<;>omega
def stT(k:A8):AJ:=(DU k.id k.log).getD zK
def W7(l:List A8)(i:Int): @rd A8 aEm l i=kA l i.toNat:=rfl
structure az0 (k:A8):Prop where
 id:isN k.id=Y
 sh:DI k.log k.fo=Y
 hl:k.AH.length<=3
 up:k.up=Y\/k.AH.length=0
 st:DU k.id k.log=I (stT k)
 ok:As (stT k)=Y
 sid:(stT k).id=k.id
 fo:(DU k.id<|k.log.extract 0 k.fo.toNat).isSome=Y
 hv:∀i,i<k.AH.length->Ff k.AH i=Y
def FJ{k:A8}(h:Ad k=Y):az0 k:=by
 unfold Ad at h;simp only[AD,C0,decide_eq_true_eq,DB]at h;obtain⟨a,b,c,d,⟨e,f⟩,g⟩:=h;have hs:DU k.id k.log=I (stT k):=by
  unfold stT;cases hh:DU k.id k.log with
  | none=>rw[hh]at e;cases e
  | some o=>rfl
 exact⟨a,b,J,d,hs,SK hs,je hs,f,g⟩
structure aEi (ti:Int) (ks:List A8) (ls:List Bool) (ra:List AL) (se go:List A3):Prop where
 t0:0<=ti
 t1:ti<=99999
 kl:ks.length=4
 ll:ls.length=3
 rl:ra.length<=30
 s:HA se=Y
 sl:se.length<=6
 g:HA go=Y
 gl:go.length<=6
 k:∀i,i<4->(kA ks i).id=(i:Int)/\Ad (kA ks i)=Y
 r:∀i,i<ra.length->E0 (pA ra i)=Y
def aC2{k:AJ}{n:A3}(h:As k=Y)(hn:n∈k.held):isN (Br k.id n.to)=Y:=by
 have hf:=Bu h;obtain⟨i,hi,rfl⟩:=Ct hn;have h1:=Gs hf.h hi;rw[DW<|Au hi]at h1;have h2:=IU h1;have h3:=hf.ho i hi;unfold Gy Dz at h3;rw[DW<|Au hi]at h3;simp only[AD,CE,decide_eq_false_iff_not]at h3;exact asY (AY.2 ⟨hf.id0,hf.id1⟩) (AY.2 ⟨h2.t0,h2.t1⟩) h3.2.2.1.1
section
variable {ti:Int} {ks:List A8} {ls:List Bool} {ra:List AL} {se go:List A3}
def Gx{l:List A3}{j:Nat}(h:j<l.length):nA l j∈l:=by
 rw[DW<|Au h];exact Cg h
end
end Go.VS
namespace Go.VS
open Go
def SN{a b c d e f:Int}(h:bef a b c d=Y)(k:bef c d e f=Y):bef a b e f=Y:=by
 unfold bef at *;simp only[C0,AD,decide_eq_true_eq]at *;omega
def OQ{a b:Int}:bef a b a b=A0:=by
 unfold bef;simp
def Ry{l:List A3}(h:DJ l=Y):∀(j i:Nat),i<j->j<l.length->bef (nA l i).fr (nA l i).nu (nA l j).fr (nA l j).nu=Y
 | j+1,i,hij,hj=>by
  have h1:=DB.1 h (j+1) hj;simp only[AD,C0,decide_eq_true_eq]at h1;have h2:bef (nA l j).fr (nA l j).nu (nA l<|j+1).fr (nA l<|j+1).nu=Y:=h1.2.resolve_left J;obtain h3|h3:=GN i j
  .exact SN (Ry h j i h3 J) h2
  .rwa[show i=j by omega]
def nC(a t:Int):Nat:=(a - t).natAbs
def aBh{a t:Int}(ha:isN a=Y)(ht:isN t=Y)(hne:a≠t):nC (Br a t) t+1=nC a t:=by
 have:=E7 ha;have:=E7 ht;have e3:U (a=t)=A0:=by simpa using hne
 unfold Br nC;simp only[ha,ht,e3,AA,GM,A4];split<;>omega
def stD(k:A8):AJ:=(DU k.id<|k.log.extract 0 k.fo.toNat).getD zK
def Cu(r:A1):A1:=((BX (r.size:Int)++B [58])++r)++B [59]
def lY(r:A1):L (Cu r)=dcm r.size++58::(L r++[59]):=by
 unfold Cu;rw[aDy];simp only[Fz,L_B,nD,C3,Ky,Eb]
def WN(r:A1):(Cu r).size=(dcm r.size).length+2+r.size:=by
 rw[← Aw,lY];simp only[Aq,Bl,CR,Aw];omega
def cat(rs:List A1):List UInt8:=rs.flatMap λr=>L<|Cu r
def Jj:cat []=[]:=rfl
def Ho(r:A1)(rs:List A1):cat (r::rs)=L (Cu r)++cat rs:=rfl
def KW(rs ts:List A1):cat (rs++ts)=cat rs++cat ts:=lF
def Hu(rs:List A1):Prop:=∀r∈rs,1<=r.size/\r.size<=60
def ax4(b:UInt8)(h:dig b=Y):b≠58:=by
 rintro rfl;revert h;decide
def aak{n:Nat}(h:n<=60):(dcm n).length<=2:=Lf 2 n J J
def aal(n:Nat):1<=(dcm n).length:=by
 have:=mR n;cases h:dcm n with
 | nil=>exact absurd h this
 | cons b l=>simp
def aa3{l m:List UInt8}{b:UInt8}{i:Nat}(h:i=l.length):(l++b::m).getD i 0=b:=by
 subst h;simp
def XY{s r:A1}{t:List UInt8}(h:L s=L (Cu r)++t)(h1:1<=r.size)(h2:r.size<=60):Dd s=I (r,(Cu r).size):=by
 rw[lY]at h;have hs:s.size=(dcm r.size).length+2+r.size+t.length:=by
  rw[← Aw,h];simp only[Aq,Bl,CR,Aw];omega
 have hd:=aak h2;have hp:=aal r.size;generalize hc:(dcm r.size).length=c at *;have hL:L s=dcm r.size++58::(L r++59::t):=by rw[h];simp
 have azE:Tm s=(c:Int):=by
  refine aDn J ?_ (λj hj=> ?_)
  .rw[decide_eq_true_eq,Jn,hL,aa3 hc.symm];rfl
  .rw[decide_eq_false_iff_not,Jn,hL];have hlt:j<(dcm r.size).length:=J
   have hm:(dcm r.size++58::(L r++59::t)).getD j 0∈dcm r.size:=aa2 hlt;have hdg:=Xw (r.size+1) r.size J _ hm;have hne:=ax4 _ hdg;generalize (dcm r.size++58::(L r++59::t)).getD j 0=b at *;intro e;apply hne;have e:b.toNat=58:=J
   exact QO.1 e
 have he:L (s.extract 0 c)=dcm r.size:=by
  rw[EB,hL];simp[← hc]
 have hn:Ac (s.extract 0 c)=(r.size:Int):=kX (by rw[← Aw,he];omega) he;have h59:bt s ((c+1+r.size:Nat):Int)=59:=by
  have e:(L s).getD (c+1+r.size) 0=59:=by
   have:dcm r.size++58::(L r++59::t)=(dcm r.size++58::L r)++59::t:=by simp
   rw[hL,this];exact aa3 (by simp[hc];omega)
  rw[Jn,e];rfl
 have hx:s.extract (c+1) (c+1+r.size)=r:=by
  refine Fy ?_;rw[EB,hL];have:(dcm r.size++58::(L r++59::t)).drop (c+1)=L r++59::t:=by
   have e:dcm r.size++58::(L r++59::t)=(dcm r.size++[58])++(L r++59::t):=by simp
   rw[e,QP<|by simp[hc]]
  rw[this,show c+1+r.size - (c+1)=(L r).length by rw[Aw];omega,OY rfl]
 unfold Dd;rw[azE];simp only[Bf,hn];rw[A9 J,A9 J,A9 J,A9 J,h59];simp only[AT,AA,A4,hx];rw[WN,hc]
def aw4{s r:A1}{n:Nat}(h:Dd s=I (r,n)):1<=r.size/\r.size<=60/\n=(Cu r).size/\ ∃t,L s=L (Cu r)++t:=by
 have hsm:=SJ h;unfold Dd at h;split at h
 .cases h
 rename_i hc0;obtain⟨h1,_⟩|⟨c,h1,h2,h3,h4,_⟩:=WM s
 .omega
 rw[h1]at h;simp only[Bf]at h;split at h
 .cases h
 rename_i hn1;split at h
 .cases h
 rename_i hn2;split at h
 .cases h
 rename_i hn3;split at h
 .cases h
 rename_i hn4;cases h;have hz:(s.extract 0 c).size=c:=by rw[G8 J];omega
 obtain⟨h9,_⟩|⟨k,h9,h10,h11⟩:=S5 (s.extract 0 c)
 .omega
 simp only[h9,Bf]at hn1 hn2 hn3 hn4 hsm ⊢;have hrs:(s.extract (c+1)<|c+1+k).size=k:=by rw[G8 J];omega
 have h5:bt s ((c+1+k:Nat):Int)=59:=by
  cases hd:U (bt s ((c+1+k:Nat):Int)=59) with
  | true=>simpa using hd
  | false=>rw[hd]at hn4;exact absurd rfl hn4
 have g1:(L s).getD c 0=58:=by
  rw[Jn]at h4;exact QO.1 (by have:(58:UInt8).toNat=58:=rfl;omega)
 have g2:(L s).getD (c+1+k) 0=59:=by
  rw[Jn]at h5;exact QO.1 (by have:(59:UInt8).toNat=59:=rfl;omega)
 have hlen:(L s).length=s.size:=Aw s;have t1:(L s).take c=dcm k:=by
  rw[← h11,EB];simp
 have hcl:(dcm k).length=c:=by rw[← t1,Dg];omega
 have hsp:L s=dcm k++58::((L<|s.extract (c+1)<|c+1+k)++59::(L s).drop (c+1+k+1)):=by
  conv=>lhs;rw[← JO c<|L s,t1]
  congr 1;rw[TH J];congr 1
  .rw[← g1,B8,Au J];rfl
  .rw[EB]
   conv=>lhs;rw[← JO k<|(L s).drop<|c+1]
   rw[show c+1+k - (c+1)=k by omega];congr 1;rw[Il,TH J];congr 1;rw[← g2,B8,Au J];rfl
 refine⟨J,J, ?_,(L s).drop<|c+1+k+1, ?_⟩
 .rw[WN,hrs,hcl]
 .rw[lY,hrs]
  conv=>lhs;rw[hsp]
  simp
def Wg(r:A1):3<=(Cu r).size:=by
 rw[WN];have:=aal r.size;omega
def aDP{log:A1}:∀(rs:List A1) (f:Nat) (out:List A1) (at_:Nat),Hu rs->(L log).drop at_=cat rs->at_<=log.size->log.size<at_+f->Ev log f out at_=(out++rs,log.size)
 | [],0,out,at_,_,_,h3,h4=>J
 | [],f+1,out,at_,_,h2,h3,h4=>by
  have:log.size<=at_:=by
   have e:=congrArg JL h2;rw[EI,Aw,Jj]at e;simp at e;omega
  unfold Ev;rw[A9 J,CK];rw[show at_=log.size by omega]
 | r::rs,0,out,at_,_,_,h3,h4=>J
 | r::rs,f+1,out,at_,h1,h2,h3,h4=>by
  have hr:=h1 r Am;rw[Ho]at h2;have hlen:log.size - at_=(Cu r).size+(cat rs).length:=by
   have e:=congrArg JL h2;rwa[EI,Aw,Aq,Aw]at e
  have hp:=Wg r;have D8:Dd (log.extract at_ log.size)=I (r,(Cu r).size):=by
   refine XY (t:=cat rs) ?_ hr.1 hr.2;rw[EB,h2];refine K6 ?_;rw[Aq,Aw];omega
  unfold Ev;rw[A5 J,D8];simp only;have:=aDP (log:=log) rs f (out++[r]) (at_+(Cu r).size) (λx hx=>h1 x<|Ai _ hx) (by
   rw[← Il,h2,QP<|by rw[Aw]]) J J
  rw[this];simp
def XD{log:A1}{rs:List A1}(h1:Hu rs)(h2:L log=cat rs):D4 log=(rs,log.size):=by
 have:=aDP (log:=log) rs (log.size+1) [] 0 h1 (by simpa using h2) (Cz _) J;exact this
def jx{log:A1}:∀(f:Nat) (out:List A1) (at_:Nat),at_<=log.size->∃rs,(Ev log f out at_).1=out++rs/\Hu rs/\ ∃t,(L log).drop at_=cat rs++t/\(Ev log f out at_).2=at_+(cat rs).length
 | 0,out,at_,_=>⟨[],by simp[Ev],(λr hr=>nomatch hr),(L log).drop at_,rfl,rfl⟩
 | f+1,out,at_,h=>by
  unfold Ev;split
  .rename_i hlt;cases D8:Dd (log.extract at_ log.size) with
   | none=>exact⟨[],by simp,(λr hr=>nomatch hr),(L log).drop at_,rfl,rfl⟩
   | some p=>
    obtain⟨r,n⟩:=p;obtain⟨k1,k2,k3,t,k4⟩:=aw4 D8;have hsm:=SJ D8;rw[G8<|Ar _]at hsm;simp only at hsm ⊢;obtain⟨rs,g1,g2,t',g3,g4⟩:=jx (log:=log) f (out++[r]) (at_+n) J;have e:L (log.extract at_ log.size)=(L log).drop at_:=by
     rw[EB];exact K6 (by rw[EI,Aw];omega)
    rw[e]at k4;have ht:t=cat rs++t':=by
     rw[← g3,← Il,k4,k3,QP<|by rw[Aw]]
    refine⟨r::rs,by rw[g1];simp,λx hx=> ?_,t',by rw[k4,ht,Ho,C3], ?_⟩
    .rcases Bm.1 hx with rfl|hx
     .exact⟨k1,k2⟩
     .exact g2 x hx
    .rw[g4,Ho,Aq,Aw,k3];omega
  .exact⟨[],by simp,(λr hr=>nomatch hr),(L log).drop at_,rfl,rfl⟩
def j9(log:A1):Hu (D4 log).1/\(D4 log).2=(cat (D4 log).1).length/\ ∃t,L log=cat (D4 log).1++t:=by
 obtain⟨rs,g1,g2,t,g3,g4⟩:=jx (log:=log) (log.size+1) [] 0<|Cz _;have e:(D4 log).1=rs:=by
  show(Ev log (log.size+1) [] 0).1=rs;simpa using g1
 rw[e];refine⟨g2, ?_,t,by simpa using g3⟩;show(Ev log (log.size+1) [] 0).2=_;rw[g4,DZ]
def mN:∀(rs ts:List A1) (t:List UInt8),Hu rs->Hu ts->cat rs=cat ts++t->∃us,rs=ts++us
 | rs,[],t,_,_,_=>⟨rs,rfl⟩
 | [],s::ts,t,_,_,h=>by
  have e:=congrArg JL h;rw[Ho,Jj]at e;have:=Wg s;simp only[CR,Aq,Aw]at e;omega
 | r::rs,s::ts,t,h1,h2,h=>by
  rw[Ho,Ho,C3]at h;have hr:=h1 r Am;have hs:=h2 s Am;have o1:=XY (s:=B<|L (Cu r)++cat rs) (r:=r) (t:=cat rs) (L_B _) hr.1 hr.2;have o2:=XY (s:=B<|L (Cu r)++cat rs) (r:=s) (t:=cat ts++t) (by rw[L_B,h]) hs.1 hs.2;rw[o1]at o2;simp only[Bs,CL]at o2;obtain⟨rfl,_⟩:=o2;obtain⟨us,hu⟩:=mN rs ts t (λx hx=>h1 x<|Ai _ hx) (λx hx=>h2 x<|Ai _ hx)<|aBJ h;exact⟨us,by rw[hu];rfl⟩
def aBW{lg:A1}{fo:Int}:DI lg fo=Y↔lg.size<=2400/\ ∃rs ts,Hu (rs++ts)/\L lg=cat (rs++ts)/\fo=((cat rs).length:Int):=by
 unfold DI;simp only[AD,decide_eq_true_eq];constructor
 .rintro⟨h1,h2,h3,h4⟩;have h2:=AY.1 h2;obtain⟨a1,a2,t,a3⟩:=j9 lg;obtain⟨b1,b2,t',b3⟩:=j9<|lg.extract 0 fo.toNat;have ht:t=[]:=by
   have e:=congrArg JL a3;rw[Aw,Aq]at e;exact Du J
  rw[ht,CK]at a3;have hz:(lg.extract 0 fo.toNat).size=fo.toNat:=by rw[G8 J];omega
  have ht':t'=[]:=by
   have e:=congrArg JL b3;rw[Aw,Aq,hz]at e;exact Du J
  rw[ht',CK]at b3;have hp:cat (D4 lg).1=cat (D4<|lg.extract 0 fo.toNat).1++(L lg).drop fo.toNat:=by
   rw[← a3,← b3,EB,JN,Io,JO]
  obtain⟨us,hu⟩:=mN _ _ _ a1 b1 hp;refine⟨h1,(D4<|lg.extract 0 fo.toNat).1,us,by rw[← hu];exact a1,by rw[← hu];exact a3, ?_⟩;rw[← b2];exact h4.symm
 .rintro⟨h1,rs,ts,h2,h3,rfl⟩;have hsz:lg.size=(cat rs).length+(cat ts).length:=by rw[← Aw,h3,KW,Aq]
  have hrs:Hu rs:=λr hr=>h2 r<|Bw _ hr;have he:L (lg.extract 0 (cat rs).length)=cat rs:=by
   rw[EB,h3,KW,JN,Io,OY rfl]
  have e1:=XD h2 h3;have e2:=XD hrs he;refine⟨h1,AY.2 ⟨J,J⟩,by rw[e1], ?_⟩;rw[Bf,e2];simp only;rw[← Aw,he]
def Dj(k:AJ):Prop:=∀n∈k.held,∀m∈k.inbox,¬(n.fr=m.fr/\n.nu=m.nu)
def SR{l:List A3}{f n:Int}(h:AU l f n<0):∀x∈l,¬(x.fr=f/\x.nu=n):=by
 intro x hx hc;obtain⟨_,h2⟩|⟨i,h1,_⟩:=G6 l.length (λi=>U ((nA l i).fr=f)&&U ((nA l i).nu=n))
 .obtain⟨j,hj,rfl⟩:=Ct hx;have:=h2 j hj;rw[DW<|Au hj]at this;simp[hc.1,hc.2]at this
 .unfold AU at h;omega
def Wr{l:List A3}{f n:Int}(h:∀x∈l,¬(x.fr=f/\x.nu=n)):AU l f n= -1:=by
 obtain h1|h1:=aAq l f n
 .exact h1
 .obtain⟨h2,_,h3,h4⟩:=Eo h1;exact absurd ⟨h3,h4⟩<|h _<|Gx h2
def kJ{l:List Mark}{f n:Int}(h:Bj l f n<0):∀x∈l,¬(x.mf=f/\x.mn=n):=by
 intro x hx hc;obtain⟨_,h2⟩|⟨i,h1,_⟩:=G6 l.length (λi=>U ((mA l i).mf=f)&&U ((mA l i).mn=n))
 .obtain⟨j,hj,rfl⟩:=Ct hx;have:=h2 j hj;rw[Fe<|Au hj]at this;simp[hc.1,hc.2]at this
 .unfold Bj at h;omega
def TB{l:List Mark}{j:Nat}(h:j<l.length):mA l j∈l:=by
 rw[Fe<|Au h];exact Cg h
def jb{l:List Mark}{f n:Int}(h:∀x∈l,¬(x.mf=f/\x.mn=n)):Bj l f n= -1:=by
 obtain⟨h1,_⟩|⟨i,_,h2,h3,_⟩:=G6 l.length (λi=>U ((mA l i).mf=f)&&U ((mA l i).mn=n))
 .exact h1
 .simp only[AD,decide_eq_true_eq]at h3;exact absurd h3<|h _<|TB h2
def aav{k o:AJ}{n:A3}(h:EV k n=I o)(hd:Dj k):Dj o:=by
 unfold EV at h;split at h
 .cases h
 split at h
 .cases h
 split at h
 .cases h
 rename_i h1;split at h
 .cases h
 rename_i h2;split at h
 .cases h
 split at h
 .cases h
 have a1:=SR (l:=k.held) (f:=n.fr) (n:=n.nu) (by simpa using h1);have a2:=SR (l:=k.inbox) (f:=n.fr) (n:=n.nu) (by simpa using h2);split at h<;>cases h
 .intro x hx m hm;obtain rfl|hm:=GA _ hm
  .exact a1 x hx
  .exact hd x hx m hm
 .intro x hx m hm;obtain rfl|hx:=GA _ hx
  .exact λhc=>a2 m hm ⟨hc.1.symm,hc.2.symm⟩
  .exact hd x hx m hm
def O4{l:List A3}{i:Nat}{x:A3}(h:x∈EX l i):x∈l:=by
 unfold EX at h;obtain h|h:=BL.1 h
 .exact I9 h
 .exact Ku h
def aw8{k o:AJ}{w:A1}{n:Int}(h:HZ k w n=I o)(hd:Dj k):Dj o:=by
 unfold HZ at h;split at h
 .cases h;intro x hx m hm;exact hd x (FQ.1 hx).1 m hm
 split at h
 .cases h;exact hd
 .cases h
def aqE{k o:AJ}{w:A1}{n:A3}(h:GB k w n=I o)(hd:Dj k):Dj o:=by
 unfold GB at h;split at h
 .exact aav h hd
 split at h
 .exact aav h hd
 split at h
 .cases h
 rename_i hn;simp only[C0,decide_eq_true_eq,not_or]at hn;have a1:=SR (l:=k.held) (f:=n.fr) (n:=n.nu) J;have a2:=SR (l:=k.inbox) (f:=n.fr) (n:=n.nu) J;split at h
 .cases h;intro x hx m hm;obtain rfl|hx:=GA _ hx
  .exact λhc=>a2 m hm ⟨hc.1.symm,hc.2.symm⟩
  .exact hd x hx m hm
 split at h
 .cases h;intro x hx m hm;obtain rfl|hm:=GA _ hm
  .exact a1 x hx
  .exact hd x hx m hm
 .cases h
def aqH{k o:AJ}{w:A1}{m:Mark}(h:Er k w m=I o)(hd:Dj k):Dj o:=by
 unfold Er at h;split at h
 .cases h;exact λx hx m hm=>hd x (O4 hx) m hm
 split at h
 .cases h;exact λx hx m hm=>hd x hx m<|O4 hm
 split at h
 .cases h;exact hd
 .cases h
def ase{k o:AJ}{w r:A1}(h:BV k w r=I o)(hd:Dj k):Dj o:=by
 unfold BV at h;split at h
 .split at h
  .exact aw8 h hd
  .cases h
 split at h
 .split at h
  .exact aqE h hd
  .cases h
 split at h
 .split at h
  .exact aqH h hd
  .cases h
 .cases h
def HN{k o:AJ}{r:A1}(hk:As k=Y):BE k r=I o↔GD k r=I o/\As o=Y:=by
 unfold BE FP;simp only[hk,A2];constructor
 .intro h;cases hf:(GD k r).filter As with
  | none=>rw[hf]at h;cases h
  | some o'=>
   rw[hf]at h;cases h;exact Ii.1 hf
 .intro h;rw[Ii.2 h];rfl
def aub{k o:AJ}{r:A1}(hk:As k=Y)(h:BE k r=I o)(hd:Dj k):Dj o:=by
 have h1:=((HN hk).1 h).1;unfold GD at h1;split at h1
 .cases h1
 .exact ase h1 hd
def aAm:∀ {rs:List A1} {k o:AJ},As k=Y->Dj k->Ep k rs=I o->Dj o
 | [],k,o,_,hd,h=>by cases h;exact hd
 | r::rs,k,o,hk,hd,h=>by
  unfold Ep at h;rw[TW]at h;cases hs:BE k r with
  | none=>rw[hs]at h;cases h
  | some k'=>rw[hs]at h;exact aAm (rs:=rs) (SS hs) (aub hk hs hd) h
def aBq{id:Int}{rs:List A1}{o:AJ}(h:CY id rs=I o):Dj o:=by
 unfold CY at h;split at h
 .exact aAm (Rw<|by assumption) (λn hn=>by cases hn) h
 .cases h
def MM(k:AJ)(rs ts:List A1):Ep k (rs++ts)=(Ep k rs).bind λo=>Ep o ts:=List.foldlM_append
def Rz(k:AJ)(r:A1):Ep k [r]=BE k r:=by
 unfold Ep;rw[TW];cases BE k r<;>rfl
def FZ(t:Int):A1:=B [116,105,109,101,32]++BX t
def Kc(n:Int):A1:=B [110,101,120,116,32]++BX n
def CX(w:A1)(a b c:Int):A1:=((((((w++B [32])++BX a)++B [32])++BX b)++B [32])++BX c)
def Me(n:A3):A1:=B [104,101,108,100,32]++wr n
def Ma(n:A3):A1:=B [105,110,98,111,120,32]++wr n
def C9(k:AJ):List A1:=
 ((((if 0<k.ti then [FZ k.ti] else [])++(if 1<k.nx then [Kc k.nx] else []))++k.marks.map λm=>CX D3 m.mf m.mn m.mu)++k.held.map Me)++k.inbox.map Ma
def Gu{k:AJ}{rec:A1}{w r:List UInt8}(hw:CU w)(e:L rec=w++32::r):GD k rec=BV k (B w) (B r):=by
 unfold GD;rw[e,Sy hw,Kl hw e];rfl
def Wh{k:AJ}{t:Int}(h0:0<=t)(h1:t<100000)(h:k.ti<t):BV k Dx (B<|B2 t)=I ⟨k.id,t,k.nx,H7 t k.held,Jq t k.marks,k.inbox⟩:=by
 unfold BV HZ;simp only[J0 h0 h1,Bt,A2,AR,h,AT]
def apm{k:AJ}{n:Int}(h0:0<=n)(h1:n<100000)(h:k.nx<n):BV k Eu (B<|B2 n)=I ⟨k.id,k.ti,n,k.held,k.marks,k.inbox⟩:=by
 unfold BV HZ;simp[xK,J0 h0 h1,DN,A2,AM,AR,h,AT,A4]
def apn{k:AJ}{m:Mark}{r:A1}(ht:Gz r=I m)(h:Bj k.marks m.mf m.mn<0):BV k D3 r=I ⟨k.id,k.ti,k.nx,k.held,EE k.marks m,k.inbox⟩:=by
 have e:U (0<=Bj k.marks m.mf m.mn)=A0:=by simp;omega
 unfold BV Er;simp[rr,ry,gQ,ru,rz,rP,gR,gS,GM,Bq,DN,A2,A4,ht,AM,AR,e,AG]
def apo{k:AJ}{n:A3}(hn:At n=Y)(h1:AU k.held n.fr n.nu<0)(h2:AU k.inbox n.fr n.nu<0):BV k ER (wr n)=I ⟨k.id,k.ti,k.nx,DY k.held n,k.marks,k.inbox⟩:=by
 have e1:U (0<=AU k.held n.fr n.nu)=A0:=by simp;omega
 have e2:U (0<=AU k.inbox n.fr n.nu)=A0:=by simp;omega
 unfold BV GB;simp[xM,xO,yk,xN,GM,Bq,Bt,A2,A4,Pj hn,AM,e1,e2]
def apH{k:AJ}{n:A3}(hn:At n=Y)(h1:AU k.held n.fr n.nu<0)(h2:AU k.inbox n.fr n.nu<0):BV k Ed (wr n)=I ⟨k.id,k.ti,k.nx,k.held,k.marks,DY k.inbox n⟩:=by
 have e1:U (0<=AU k.held n.fr n.nu)=A0:=by simp;omega
 have e2:U (0<=AU k.inbox n.fr n.nu)=A0:=by simp;omega
 unfold BV GB;simp[wJ,wL,xL,wK,wM,GM,Bq,DN,A2,A4,Pj hn,AM,e1,e2]
def XG:CU [116,105,109,101]:=by unfold CU;decide
def asV:CU [110,101,120,116]:=by unfold CU;decide
def asW:CU [109,97,114,107]:=by unfold CU;decide
def asX:CU [104,101,108,100]:=by unfold CU;decide
def aqt:CU [105,110,98,111,120]:=by unfold CU;decide
def SP(t:Int):L (FZ t)=[116,105,109,101]++32::B2 t:=by unfold FZ;simp only[Fz,L_B,Tc];rfl
def aCb(t:Int):L (Kc t)=[110,101,120,116]++32::B2 t:=by unfold Kc;simp only[Fz,L_B,Tc];rfl
def Pn(w:A1)(a b c:Int):L (CX w a b c)=L w++32::(B2 a++32::(B2 b++32::B2 c)):=by
 unfold CX;simp only[Fz,L_B,Tc,C3,Ky,Eb]
def aCc(n:A3):L (Me n)=[104,101,108,100]++32::L (wr n):=by unfold Me;simp only[Fz,L_B];rfl
def aBQ(n:A3):L (Ma n)=[105,110,98,111,120]++32::L (wr n):=by unfold Ma;simp only[Fz,L_B];rfl
def Nw{k:AJ}(h:El k):As k=Y:=by
 have a:=h.hl;have b:=h.ml;have c:=h.il;unfold As;simp only[AD,AY,decide_eq_true_eq,DB];exact⟨⟨h.id0,h.id1⟩,⟨h.t0,h.t1⟩,⟨h.n0,h.n1⟩,⟨J,h.h⟩,⟨J,h.m⟩,⟨J,h.i⟩,h.ho,h.mo,h.io⟩
def Xq{l:List A3}{a i:Nat}(h:i<a):nA (l.take a) i=nA l i:=by
 unfold nA;simp[B8,h]
def lv{l:List Mark}{a i:Nat}(h:i<a):mA (l.take a) i=mA l i:=by
 unfold mA;simp[B8,h]
def zp{l:List A3}(h:DJ l=Y)(a:Nat):DJ (l.take a)=Y:=by
 refine DB.2 λi hi=> ?_;rw[Dg]at hi;have:=DB.1 h i J;rw[Xq J,Xq J];exact this
def ap7{l:List Mark}(h:FM l=Y)(a:Nat):FM (l.take a)=Y:=by
 refine DB.2 λi hi=> ?_;rw[Dg]at hi;have:=DB.1 h i J;rw[lv J,lv J];exact this
def aAP{l:List Mark}(h:FM l=Y):∀(j i:Nat),i<j->j<l.length->bef (mA l i).mf (mA l i).mn (mA l j).mf (mA l j).mn=Y
 | j+1,i,hij,hj=>by
  have h1:=DB.1 h (j+1) hj;simp only[AD,C0,decide_eq_true_eq]at h1;have h2:bef (mA l j).mf (mA l j).mn (mA l<|j+1).mf (mA l<|j+1).mn=Y:=h1.2.resolve_left J;obtain h3|h3:=GN i j
  .exact SN (aAP h j i h3 J) h2
  .rwa[show i=j by omega]
def Pu{k:AJ}(hf:El k)(a b c:Nat)(hc:c=0\/k.marks.length<=b):El ⟨k.id,k.ti,k.nx,k.held.take a,k.marks.take b,k.inbox.take c⟩:=by
 have hl:=hf.hl;have ml:=hf.ml;have il:=hf.il;refine⟨hf.id0,hf.id1,hf.t0,hf.t1,hf.n0,hf.n1,by simp;omega,zp hf.h a,by simp;omega,ap7 hf.m b,by simp;omega,zp hf.i c,λi hi=> ?_,λi hi=> ?_,λi hi=> ?_⟩
 .simp only[Dg]at hi;have:=hf.ho i J;unfold Gy at this ⊢;simp only[AD,decide_eq_true_eq]at this ⊢;rw[Xq J];refine⟨this.1,this.2.1,this.2.2.1, ?_⟩;rw[jb λx hx=>kJ this.2.2.2 x<|I9 hx];omega
 .simp only[Dg]at hi;have:=hf.mo i J;unfold J3 at this ⊢;rw[lv J];exact this
 .simp only[Dg]at hi;obtain hc|hc:=hc
  .omega
  .have:=hf.io i J;simp only;rw[K6 hc];unfold IV at this ⊢;rw[Xq J];exact this
def lZ{α:Type}{f:α->Bool}{l:List α}{n:α}(h:∀x∈l,f x=Y):ins f l n=l++[n]:=by
 unfold ins;have h1:l.takeWhile f=l:=by
  induction l with
  | nil=>rfl
  | cons x l ih=>rw[QH,h x Am];simp only[A2];rw[ih λy hy=>h y<|Ai _ hy]
 have h2:l.dropWhile f=[]:=by
  induction l with
  | nil=>rfl
  | cons x l ih=>rw[kq,h x Am];simp only[A2];exact ih (λy hy=>h y<|Ai _ hy) (by
    have:=h1;rw[QH,h x Am]at this;simpa using this)
 rw[h1,h2]
def MU{α:Type}{l:List α}{j:Nat}(h:j<l.length):l.take (j+1)=l.take j++[l[j]]:=by
 rw[JP,Au h];rfl
def vQ{k:AJ}(hk:As k=Y)(hd:Dj k):CY k.id (C9 k)=I k:=by
 have hf:=Bu hk;have hid:isN k.id=Y:=AY.2 ⟨hf.id0,hf.id1⟩;have t0:=hf.t0;have t1:=hf.t1;have n0:=hf.n0;have n1:=hf.n1;have kT:As ⟨k.id,k.ti,1,[],[],[]⟩=Y:=by
  refine Nw ⟨hf.id0,hf.id1,t0,t1,(by decide:(1:Int)<=1),(by decide:(1:Int)<=100),by simp,rfl,by simp,rfl,by simp,rfl,λi hi=>by simp at hi,λi hi=>by simp at hi,λi hi=>by simp at hi⟩
 have kN:As ⟨k.id,k.ti,k.nx,[],[],[]⟩=Y:=by
  refine Nw ⟨hf.id0,hf.id1,t0,t1,n0,n1,by simp,rfl,by simp,rfl,by simp,rfl,λi hi=>by simp at hi,λi hi=>by simp at hi,λi hi=>by simp at hi⟩
 have s1:Ep ⟨k.id,0,1,[],[],[]⟩ (if 0<k.ti then [FZ k.ti] else [])=I ⟨k.id,k.ti,1,[],[],[]⟩:=by
  by_cases h:0<k.ti
  .rw[A5 h,Rz,(HN<|Rw hid).2 ⟨?_,kT⟩];rw[Gu XG<|SP _];exact Wh t0 J h
  .rw[A9 h,show k.ti=0 by omega];rfl
 have s2:Ep ⟨k.id,k.ti,1,[],[],[]⟩ (if 1<k.nx then [Kc k.nx] else [])=I ⟨k.id,k.ti,k.nx,[],[],[]⟩:=by
  by_cases h:1<k.nx
  .rw[A5 h,Rz,(HN kT).2 ⟨?_,kN⟩];rw[Gu asV<|aCb _];exact apm J J h
  .rw[A9 h,show k.nx=1 by omega];rfl
 have s3:∀j,j<=k.marks.length->Ep ⟨k.id,k.ti,k.nx,[],[],[]⟩ ((k.marks.take j).map λm=>CX D3 m.mf m.mn m.mu)=I ⟨k.id,k.ti,k.nx,[],k.marks.take j,[]⟩:=by
  intro j
  induction j with
  | zero=>intro _;rfl
  | succ j ih=>
   intro hj;have hjl:j<k.marks.length:=J
   have hm:=W9 hf.m hjl;rw[Fe<|Au hjl]at hm;have hr:=Pp hm;have g1:=Nw<|Pu hf 0 j 0<|.inl rfl;have g2:=Nw<|Pu hf 0 (j+1) 0<|.inl rfl;have g3:As ⟨k.id,k.ti,k.nx,[],k.marks.take j++[k.marks[j]'hjl],[]⟩=Y:=by
    rw[← MU hjl];simpa using g2
   have NP:∀x∈k.marks.take j,bef x.mf x.mn k.marks[j].mf k.marks[j].mn=Y:=λx hx=>by
    obtain⟨i,hi,rfl⟩:=Ct hx;rw[Dg]at hi;have:=aAP hf.m j i J hjl;rw[Fe<|Au hjl,Fe<|Au (by omega:i<k.marks.length)]at this;simpa using this
   rw[MU hjl,Ek,MM,ih J];simp only[A6,DO,JM];rw[Rz,(HN<|by simpa using g1).2 ⟨?_,g3⟩];have h3:=YD (r:=B<|B2 (k.marks[j]'hjl).mf++32::(B2 (k.marks[j]'hjl).mn++32::B2 (k.marks[j]'hjl).mu)) (a:=(k.marks[j]'hjl).mf) (b:=(k.marks[j]'hjl).mn) (c:=(k.marks[j]'hjl).mu) J J J J J J<|L_B _;rw[Gu asW<|Pn _ _ _ _,apn h3 ?_]
   .simp only;rw[show EE (k.marks.take j) k.marks[j]=k.marks.take j++[k.marks[j]] from lZ NP]
   .simp only;rw[jb λx hx hc=>by
     have:=NP x hx;rw[hc.1,hc.2,OQ]at this;cases this]
    omega
 have s4:∀j,j<=k.held.length->Ep ⟨k.id,k.ti,k.nx,[],k.marks,[]⟩ ((k.held.take j).map Me)=I ⟨k.id,k.ti,k.nx,k.held.take j,k.marks,[]⟩:=by
  intro j
  induction j with
  | zero=>intro _;rfl
  | succ j ih=>
   intro hj;have hjl:j<k.held.length:=J
   have hm:=Gs hf.h hjl;rw[DW<|Au hjl]at hm;have g1:=Nw<|Pu hf j k.marks.length 0<|.inl rfl;have g2:=Nw<|Pu hf (j+1) k.marks.length 0<|.inl rfl;rw[E4]at g1 g2;have g3:As ⟨k.id,k.ti,k.nx,k.held.take j++[k.held[j]'hjl],k.marks,[]⟩=Y:=by
    rw[← MU hjl];simpa using g2
   have NP:∀x∈k.held.take j,bef x.fr x.nu k.held[j].fr k.held[j].nu=Y:=λx hx=>by
    obtain⟨i,hi,rfl⟩:=Ct hx;rw[Dg]at hi;have:=Ry hf.h j i J hjl;rw[DW<|Au hjl,DW<|Au (by omega:i<k.held.length)]at this;simpa using this
   rw[MU hjl,Ek,MM,ih J];simp only[A6,DO,JM];rw[Rz,(HN<|by simpa using g1).2 ⟨?_,g3⟩];rw[Gu asX<|aCc _,B_L,apo hm ?_ ?_]
   .simp only;rw[show DY (k.held.take j) k.held[j]=k.held.take j++[k.held[j]] from lZ NP]
   .simp only;rw[Wr λx hx hc=>by
     have:=NP x hx;rw[hc.1,hc.2,OQ]at this;cases this]
    omega
   .simp only;rw[Wr λx hx=>by cases hx];omega
 have s5:∀j,j<=k.inbox.length->Ep ⟨k.id,k.ti,k.nx,k.held,k.marks,[]⟩ ((k.inbox.take j).map Ma)=I ⟨k.id,k.ti,k.nx,k.held,k.marks,k.inbox.take j⟩:=by
  intro j
  induction j with
  | zero=>intro _;rfl
  | succ j ih=>
   intro hj;have hjl:j<k.inbox.length:=J
   have hm:=Gs hf.i hjl;rw[DW<|Au hjl]at hm;have g1:=Nw<|Pu hf k.held.length k.marks.length j<|.inr<|Ar _;have g2:=Nw<|Pu hf k.held.length k.marks.length (j+1)<|.inr<|Ar _;rw[E4,E4]at g1 g2;have g3:As ⟨k.id,k.ti,k.nx,k.held,k.marks,k.inbox.take j++[k.inbox[j]'hjl]⟩=Y:=by
    rw[← MU hjl];simpa using g2
   have NP:∀x∈k.inbox.take j,bef x.fr x.nu k.inbox[j].fr k.inbox[j].nu=Y:=λx hx=>by
    obtain⟨i,hi,rfl⟩:=Ct hx;rw[Dg]at hi;have:=Ry hf.i j i J hjl;rw[DW<|Au hjl,DW<|Au (by omega:i<k.inbox.length)]at this;simpa using this
   rw[MU hjl,Ek,MM,ih J];simp only[A6,DO,JM];rw[Rz,(HN<|by simpa using g1).2 ⟨?_,g3⟩];rw[Gu aqt<|aBQ _,B_L,apH hm ?_ ?_]
   .simp only;rw[show DY (k.inbox.take j) k.inbox[j]=k.inbox.take j++[k.inbox[j]] from lZ NP]
   .simp only;rw[Wr λx hx=>hd x hx _<|Cg hjl];omega
   .simp only;rw[Wr λx hx hc=>by
     have:=NP x hx;rw[hc.1,hc.2,OQ]at this;cases this]
    omega
 have e3:=s3 k.marks.length<|Ar _;have e4:=s4 k.held.length<|Ar _;have e5:=s5 k.inbox.length<|Ar _;rw[E4]at e3 e4 e5;unfold CY C9;rw[A5 hid,MM,MM,MM,MM,s1];simp only[A6,s2,e3,e4,e5]
structure C7 (lg:A1) (fo:Int) (rs ts:List A1):Prop where
 ok:Hu (rs++ts)
 sz:lg.size<=2400
 eq:L lg=cat (rs++ts)
 fo:fo=((cat rs).length:Int)
def abt{lg:A1}{fo:Int}(h:DI lg fo=Y):∃rs ts,C7 lg fo rs ts:=by
 obtain⟨h1,rs,ts,h2,h3,h4⟩:=aBW.1 h;exact⟨rs,ts,h2,h1,h3,h4⟩
def C7.nX{lg:A1}{fo:Int}{rs ts:List A1}(h:C7 lg fo rs ts):DI lg fo=Y:=
 aBW.2 ⟨h.sz,rs,ts,h.ok,h.eq,h.fo⟩
def C7.read{lg:A1}{fo:Int}{rs ts:List A1}(h:C7 lg fo rs ts):D4 lg=(rs++ts,lg.size):=XD h.ok h.eq
def aAM{rs ts:List A1}(h:Hu (rs++ts)):Hu rs:=λr hr=>h r<|Bw _ hr
def C7.az1{lg:A1}{fo:Int}{rs ts:List A1}(h:C7 lg fo rs ts):L (lg.extract 0 fo.toNat)=cat rs:=by
 rw[EB,h.eq,h.fo,Bf,KW,JN,Io,OY rfl]
def C7.ayD{lg:A1}{fo:Int}{rs ts:List A1}(h:C7 lg fo rs ts):(D4<|lg.extract 0 fo.toNat).1=rs:=by
 rw[XD (aAM h.ok) h.az1]
def C7.size_eq{lg:A1}{fo:Int}{rs ts:List A1}(h:C7 lg fo rs ts):lg.size=(cat rs).length+(cat ts).length:=by
 rw[← Aw,h.eq,KW,Aq]
def C7.state{lg:A1}{fo:Int}{rs ts:List A1}(h:C7 lg fo rs ts)(id:Int):DU id lg=CY id (rs++ts):=by
 unfold DU;rw[h.read]
def C7.acD{lg:A1}{fo:Int}{rs ts:List A1}(h:C7 lg fo rs ts)(id:Int):DU id (lg.extract 0 fo.toNat)=CY id rs:=by
 unfold DU;rw[h.ayD]
def WO(id:Int)(rs ts:List A1):CY id (rs++ts)=(CY id rs).bind λk=>Ep k ts:=by
 unfold CY;split
 .exact MM _ _ _
 .rfl
def aAj(id:Int)(rs:List A1)(r:A1):CY id (rs++[r])=(CY id rs).bind λk=>BE k r:=by
 rw[WO];congr 1;funext k;exact Rz k r
def aAQ{id:Int}{rs ts:List A1}(h:(CY id<|rs++ts).isSome=Y):(CY id rs).isSome=Y:=by
 rw[WO]at h;cases e:CY id rs with
 | none=>rw[e]at h;exact h
 | some k=>rfl
def C7.add{lg r:A1}{fo:Int}{rs ts:List A1}(h:C7 lg fo rs ts)(h1:1<=r.size)(h2:r.size<=60)(h3:lg.size+(Cu r).size<=2400):C7 (lg++Cu r) fo rs (ts++[r]):=by
 refine⟨?_, ?_, ?_,h.fo⟩
 .intro x hx;rw[← C3]at hx;obtain hx|hx:=BL.1 hx
  .exact h.ok x hx
  .rw[CN.1 hx];exact⟨h1,h2⟩
 .rw[← Aw,Fz,Aq,Aw,Aw];exact h3
 .rw[Fz,h.eq,← C3,KW (rs++ts) [r]];congr 1;rw[Ho,Jj,CK]
def C7.force{lg:A1}{fo:Int}{rs ts:List A1}(h:C7 lg fo rs ts):C7 lg (lg.size:Int) (rs++ts) []:=by
 refine⟨by simpa using h.ok,h.sz,by simpa using h.eq, ?_⟩;rw[← Aw,h.eq]
def C7.pack{lg:A1}{rs:List A1}(h:Hu rs)(e:L lg=cat rs)(hz:lg.size<=2400):C7 lg (lg.size:Int) rs []:=by
 refine⟨by simpa using h,hz,by simpa using e, ?_⟩;rw[← Aw,e]
def aDO{log:A1}:∀(qs:List A1) (f:Nat) (out:List A1) (at_:Nat) (t:List UInt8),Hu qs->(L log).drop at_=cat qs++t->at_<=log.size->log.size<at_+f->
  ∃f',Ev log f out at_=Ev log f' (out++qs) (at_+(cat qs).length)/\at_+(cat qs).length<=log.size
 | [],f,out,at_,t,_,_,h3,_=>⟨f,by simp[Jj],by simpa[Jj] using h3⟩
 | r::qs,0,out,at_,t,_,_,h3,h4=>J
 | r::qs,f+1,out,at_,t,h1,h2,h3,h4=>by
  have hr:=h1 r Am;rw[Ho,C3]at h2;have hlen:log.size - at_=(Cu r).size+(cat qs++t).length:=by
   have e:=congrArg JL h2;rwa[EI,Aw,Aq,Aw]at e
  have hp:=Wg r;have D8:Dd (log.extract at_ log.size)=I (r,(Cu r).size):=by
   refine XY (t:=cat qs++t) ?_ hr.1 hr.2;rw[EB,h2];refine K6 ?_;rw[Aq,Aw];omega
  obtain⟨f',g1,g2⟩:=aDO (log:=log) qs f (out++[r]) (at_+(Cu r).size) t (λx hx=>h1 x<|Ai _ hx) (by
   rw[← Il,h2,QP<|by rw[Aw]]) J J
  refine⟨f', ?_, ?_⟩
  .conv=>lhs;unfold Ev
   rw[A5 J,D8];simp only;rw[g1];simp only[Ho,Aq,Aw,C3,Ky,Eb,D6]
  .simp only[Ho,Aq,Aw];omega
def asE{log:A1}{qs:List A1}{t:List UInt8}(h:Hu qs)(e:L log=cat qs++t):∃us,(D4 log).1=qs++us:=by
 obtain⟨f',g1,g2⟩:=aDO (log:=log) qs (log.size+1) [] 0 t h (by simpa using e) (Cz _) J;obtain⟨us,k1,_⟩:=jx (log:=log) f' ([]++qs) (0+(cat qs).length) g2;refine⟨us, ?_⟩;show(Ev log (log.size+1) [] 0).1=_;rw[g1,k1];rfl
def C7.UC{lg:A1}{fo:Int}{rs ts:List A1}(h:C7 lg fo rs ts)(n:Nat)(hn:(cat rs).length<=n):
  ∃us vs,ts=us++vs/\C7 ((lg.extract 0 n).extract 0 (D4<|lg.extract 0 n).2) ((D4<|lg.extract 0 n).2:Int) (rs++us) []:=by
 obtain⟨a1,a2,t,a3⟩:=j9<|lg.extract 0 n;have e0:L (lg.extract 0 n)=(cat<|rs++ts).take n:=by rw[EB,h.eq,JN,Io]
 have e:cat (rs++ts)=cat (D4<|lg.extract 0 n).1++(t++(cat<|rs++ts).drop n):=by
  rw[← C3,← a3,e0,JO]
 obtain⟨vs,hv⟩:=mN _ _ _ h.ok a1 e;obtain⟨us,hu⟩:=asE (log:=lg.extract 0 n) (qs:=rs) (t:=(cat ts).take<|n - (cat rs).length) (aAM h.ok) (by
  rw[e0,KW,List.take_append,K6 hn])
 rw[hu]at hv a1 a2 a3;rw[C3]at hv;refine⟨us,vs,aBJ hv,by simpa using a1, ?_, ?_,by rw[a2]⟩
 .have:=h.sz;rw[← Aw,EB,EB];simp only[Dg,EI,Aw];omega
 .rw[EB,a3,a2,JN,Io,OY rfl,CK]
def Lc{x:Int}(h0:0<=x)(k:Nat)(hk:1<=k)(h:x<(10 ^ k:Nat)):(B2 x).length<=k:=by
 obtain⟨u,rfl⟩:=HD h0;rw[J4];exact Lf k u hk<|by exact_mod_cast h
def Qb{n:A3}(h:At n=Y):(wr n).size<=35:=by
 obtain⟨f0,f1,t0,t1,n0,n1,u0,u1,s0,s1⟩:=IU h;have a:=Lc f0 1 J J;have b:=Lc (J:0<=n.nu) 2 J J;have c:=Lc t0 1 J J;have d:=Lc (J:0<=n.un) 3 J J;rw[← Aw,Qs];unfold wrL;simp only[Aq,Bl,Aw];omega
def asw{r:A1}{m:Mark}(h:Gz r=I m):r.size<=17:=by
 unfold Gz at h;have hj:=iQ ((L r).count 32)<|L r;have hn:∀ {p:List UInt8},(Ap<|B p).2=Y->p.length<=5:=fun {p} hp=>by
  obtain h1|⟨n,_,h2,_⟩:=S2 (B p)
  .rw[h1]at hp;cases hp
  .exact h2
 split at h
 .rename_i p q t hp;rw[hp]at hj;split at h
  .rename_i hc;simp only[AD]at hc;have h1:=hn hc.1;have h2:=hn hc.2.1;have h3:=hn hc.2.2.1;have hj2:p++32::(q++32::t)=L r:=hj;rw[← Aw,← hj2];simp only[Aq,Bl];omega
  .cases h
 .cases h
def asc{k o:AJ}{w r:A1}(h:BV k w r=I o):w.size<=5/\r.size<=35:=by
 unfold BV at h;split at h
 .rename_i hw;simp only[C0,decide_eq_true_eq]at hw;split at h
  .rename_i hr;refine⟨by obtain rfl|rfl:=hw<;>decide, ?_⟩;obtain h1|⟨n,_,h2,_⟩:=S2 r
   .rw[h1]at hr;cases hr
   .omega
  .cases h
 split at h
 .rename_i hw;simp only[C0,decide_eq_true_eq]at hw;cases hn:DC r with
  | none=>rw[hn]at h;cases h
  | some n=>
   obtain⟨h1,h2⟩:=Jf hn;refine⟨by obtain rfl|rfl|rfl|rfl:=hw<;>decide, ?_⟩;rw[← h2];exact Qb h1
 split at h
 .rename_i hw;simp only[C0,decide_eq_true_eq]at hw;cases hn:Gz r with
  | none=>rw[hn]at h;cases h
  | some n=>
   refine⟨by obtain rfl|rfl|rfl:=hw<;>decide, ?_⟩;have:=asw hn;omega
 .cases h
def kM{k o:AJ}{r:A1}(hk:As k=Y)(h:BE k r=I o):1<=r.size/\r.size<=60:=by
 have h:=((HN hk).1 h).1;obtain hs|⟨w,t,hs,e⟩:=LZ (L r)
 .unfold GD at h;rw[Sx hs]at h;cases h
 .rw[Gu hs e]at h;have:=asc h;have hw:(B w).size=w.length:=rfl;have ht:(B t).size=t.length:=rfl;rw[← Aw,e];simp only[Aq,Bl];omega
def TE{rs:List A1}{c:Nat}(h:∀r∈rs,(Cu r).size<=c):(cat rs).length<=rs.length * c:=by
 induction rs with
 | nil=>simp[Jj]
 | cons r rs ih=>
  have:=ih λx hx=>h x<|Ai _ hx;have:=h r Am;rw[Ho,Aq,Aw,Bl,Nat.succ_mul];omega
def MX{r:A1}(h:r.size<=60):(Cu r).size<=r.size+4:=by
 rw[WN];have:=aak h;omega
def W3{k:AJ}(hk:As k=Y):Hu (C9 k)/\(cat<|C9 k).length<=800:=by
 have hf:=Bu hk;have t1:=hf.t1;have n1:=hf.n1;have hl:=hf.hl;have ml:=hf.ml;have il:=hf.il;have sT:∀r∈(if 0<k.ti then [FZ k.ti] else []),1<=r.size/\r.size<=8:=by
  intro r hr;split at hr
  .rw[CN.1 hr,← Aw,SP];have:=Lc hf.t0 3 J J;simp only[Aq,Bl,CR];omega
  .cases hr
 have sN:∀r∈(if 1<k.nx then [Kc k.nx] else []),1<=r.size/\r.size<=8:=by
  intro r hr;split at hr
  .rw[CN.1 hr,← Aw,aCb];have:=Lc (show 0<=k.nx by have:=hf.n0;omega) 3 J J;simp only[Aq,Bl,CR];omega
  .cases hr
 have sM:∀r∈k.marks.map (λm=>CX D3 m.mf m.mn m.mu),1<=r.size/\r.size<=13:=by
  intro r hr;obtain⟨m,hm,rfl⟩:=Bv.1 hr;obtain⟨i,hi,rfl⟩:=Ct hm;have:=Pp<|W9 hf.m hi;rw[Fe<|Au hi]at this;have a:=Lc this.1 1 J J;have b:=Lc (J:0<=k.marks[i].mn) 2 J J;have c:=Lc (J:0<=k.marks[i].mu) 3 J J;rw[← Aw,Pn];simp only[Aq,Bl,L_B,CR];omega
 have sH:∀r∈k.held.map Me,1<=r.size/\r.size<=40:=by
  intro r hr;obtain⟨m,hm,rfl⟩:=Bv.1 hr;obtain⟨i,hi,rfl⟩:=Ct hm;have:=Gs hf.h hi;rw[DW<|Au hi]at this;have:=Qb this;rw[← Aw,aCc];simp only[Aq,Bl,Aw,CR];omega
 have sI:∀r∈k.inbox.map Ma,1<=r.size/\r.size<=41:=by
  intro r hr;obtain⟨m,hm,rfl⟩:=Bv.1 hr;obtain⟨i,hi,rfl⟩:=Ct hm;have:=Gs hf.i hi;rw[DW<|Au hi]at this;have:=Qb this;rw[← Aw,aBQ];simp only[Aq,Bl,Aw,CR];omega
 refine⟨?_, ?_⟩
 .intro r hr;unfold C9 at hr;simp only[BL]at hr;obtain(((hr|hr)|hr)|hr)|hr:=hr
  .have:=sT r hr;omega
  .have:=sN r hr;omega
  .have:=sM r hr;omega
  .have:=sH r hr;omega
  .have:=sI r hr;omega
 .unfold C9;simp only[KW,Aq];have a:=TE (c:=12) λr hr=>by have:=sT r hr;have:=MX (r:=r) J;omega
  have b:=TE (c:=12) λr hr=>by have:=sN r hr;have:=MX (r:=r) J;omega
  have c:=TE (c:=17) λr hr=>by have:=sM r hr;have:=MX (r:=r) J;omega
  have d:=TE (c:=44) λr hr=>by have:=sH r hr;have:=MX (r:=r) J;omega
  have e:=TE (c:=45) λr hr=>by have:=sI r hr;have:=MX (r:=r) J;omega
  rw[DL]at c d e;have a2:(if 0<k.ti then [FZ k.ti] else []).length<=1:=by split<;>simp
  have b2:(if 1<k.nx then [Kc k.nx] else []).length<=1:=by split<;>simp
  omega
def D1(rs:List A1):A1:=B<|cat rs
def Q8{k:AJ}(hk:As k=Y):C7 (D1<|C9 k) ((D1<|C9 k).size:Int) (C9 k) []:=by
 have:=W3 hk;refine C7.pack this.1 (by unfold D1;rw[L_B]) ?_;show(cat<|C9 k).length<=2400;omega
def Cw(k:AJ)(lg:A1)(fo:Int)(r:A1):A1×Int:=
 if lg.size+(Cu r).size<=2400 then(lg++Cu r,fo) else(D1 (C9 k)++Cu r,((D1<|C9 k).size:Int))
def aaL{k o:AJ}{id:Int}{lg r:A1}{fo:Int}{rs ts:List A1}(h:C7 lg fo rs ts)(hs:CY id (rs++ts)=I k)(hr:BE k r=I o):
  ∃rs' ts',C7 (Cw k lg fo r).1 (Cw k lg fo r).2 rs' ts'/\CY id (rs'++ts')=I o:=by
 have hk:=SK hs;have hz:=kM hk hr;unfold Cw;split
 .rename_i hc;refine⟨rs,ts++[r],h.add hz.1 hz.2 hc, ?_⟩;rw[← C3,aAj,hs];exact hr
 .have hp:=Q8 hk;have hsz:=W3 hk;have hl:=MX hz.2;refine⟨C9 k,[]++[r],hp.add hz.1 hz.2 ?_, ?_⟩
  .show(cat<|C9 k).length+_<=2400;omega
  .rw[Eb,aAj];have:=vQ hk<|aBq hs;rw[je hs]at this;rw[this];exact hr
structure D9 (k:A8) (st:AJ):Prop where
 ok:Ad k=Y
 st:DU k.id k.log=I st
def C5{k:A8}(h:Ad k=Y):D9 k (stT k):=⟨h,(FJ h).st⟩
def D9.kok{k:A8}{st:AJ}(h:D9 k st):As st=Y:=SK h.st
def D9.id{k:A8}{st:AJ}(h:D9 k st):st.id=k.id:=je h.st
def D9.stT{k:A8}{st:AJ}(h:D9 k st):stT k=st:=by
 unfold Go.VS.stT;rw[h.st];rfl
def W2{k:A8}{rs ts:List A1}(id:isN k.id=Y)(l:C7 k.log k.fo rs ts)(hl:k.AH.length<=3)(up:k.up=Y\/k.AH.length=0)(st:(CY k.id<|rs++ts).isSome=Y)(hv:∀i,i<k.AH.length->Ff k.AH i=Y):Ad k=Y:=by
 unfold Ad;simp only[AD,C0,decide_eq_true_eq,DB];refine⟨id,l.nX,J,up,⟨?_, ?_⟩,hv⟩
 .rw[l.state];exact st
 .rw[l.acD];exact aAQ st
def D9.lg{k:A8}{st:AJ}(h:D9 k st):∃rs ts,C7 k.log k.fo rs ts/\CY k.id (rs++ts)=I st:=by
 obtain⟨rs,ts,hl⟩:=abt (FJ h.ok).sh;exact⟨rs,ts,hl,by rw[← hl.state];exact h.st⟩
def D9.nZ{k:A8}{st o:AJ}{lg:A1}{fo:Int}{rs ts:List A1}(h:D9 k st)(l:C7 lg fo rs ts)(e:CY k.id (rs++ts)=I o):D9 ⟨k.id,k.up,lg,fo,k.AH⟩ o:=by
 have hf:=FJ h.ok;refine⟨W2 (k:=⟨k.id,k.up,lg,fo,k.AH⟩) hf.id l hf.hl hf.up ?_ hf.hv, ?_⟩
 .simp only[e];rfl
 .simp only[l.state];exact e
def wrM(k:A8)(r:A1):A8:=⟨k.id,k.up,(Cw (stT k) k.log k.fo r).1,(Cw (stT k) k.log k.fo r).2,k.AH⟩
def OH{k:A8}{st o:AJ}{r:A1}(h:D9 k st)(hr:BE st r=I o):D9 (wrM k r) o:=by
 obtain⟨rs,ts,hl,hs⟩:=h.lg;obtain⟨rs',ts',h1,h2⟩:=aaL hl hs hr;have:=h.nZ h1 h2;unfold wrM;rw[h.stT];exact this
def foM(k:A8):A8:=⟨k.id,k.up,k.log,(k.log.size:Int),k.AH⟩
def QG{k:A8}{st:AJ}(h:D9 k st):D9 (foM k) st:=by
 obtain⟨rs,ts,hl,hs⟩:=h.lg;exact h.nZ hl.force<|by simpa using hs
def pkM(k:A8):A8:=⟨k.id,k.up,D1<|C9<|stT k,((D1<|C9<|stT k).size:Int),k.AH⟩
def Yo{k:A8}{st:AJ}(h:D9 k st):D9 (pkM k) st:=by
 have:=h.nZ (Q8 h.kok) (o:=st) (by
  have:=vQ h.kok<|aBq h.st;rw[h.id]at this;simpa using this)
 unfold pkM;rw[h.stT];exact this
def faM(k:A8)(keep:Int):A8:=
 let n:=(k.fo+max 0 (min keep<|(k.log.size:Int) - k.fo)).toNat
 ⟨k.id,A0,(k.log.extract 0 n).extract 0 (D4<|k.log.extract 0 n).2,((D4<|k.log.extract 0 n).2:Int),[]⟩
def mV{k:A8}(h:Ad k=Y)(keep:Int):Ad (faM k keep)=Y:=by
 have hf:=FJ h;obtain⟨rs,ts,hl,hs⟩:=(C5 h).lg;have hfo:=hl.fo;obtain⟨us,vs,e,l⟩:=hl.UC (k.fo+max 0 (min keep<|(k.log.size:Int) - k.fo)).toNat J;refine W2 (k:=faM k keep) hf.id l (by show 0<=3;omega) (.inr rfl) ?_ (λi hi=>by cases hi);show(CY k.id<|(rs++us)++[]).isSome=Y;rw[CK];refine aAQ (ts:=vs) ?_;rw[C3,← e,hs];rfl
def aqZ{k:A8}{st:AJ}(h:D9 k st)(hf:k.fo=(k.log.size:Int))(keep:Int):D9 (faM k keep) st/\(faM k keep).log=k.log/\(faM k keep).fo=k.fo:=by
 obtain⟨rs,ts,hl,hs⟩:=h.lg;have e:(k.fo+max 0 (min keep<|(k.log.size:Int) - k.fo)).toNat=k.log.size:=J
 have e2:k.log.extract 0 k.log.size=k.log:=by
  apply Fy;rw[EB,JN,Io];exact K6 (by rw[Aw];omega)
 have hk:faM k keep=⟨k.id,A0,k.log,(k.log.size:Int),[]⟩:=by
  unfold faM;simp only[e,e2,hl.read]
 have ok:=mV h.ok keep;rw[hk]at ok ⊢;exact⟨⟨ok,h.st⟩,rfl,hf.symm⟩
def riM(k:A8):A8:=⟨k.id,Y,k.log,k.fo,k.AH⟩
def awk{k:A8}{st:AJ}(h:D9 k st):D9 (riM k) st:=by
 have hf:=FJ h.ok;obtain⟨rs,ts,hl,hs⟩:=h.lg;refine⟨W2 (k:=riM k) hf.id hl hf.hl (.inl rfl) ?_ hf.hv,h.st⟩;show(CY k.id<|rs++ts).isSome=Y;rw[hs];rfl
def C4(a b:List UInt8):List UInt8:=List.zipWith (· ^^^ ·) a b
def Pq{a b:List UInt8}(h:a.length=b.length):(C4 a b).length=a.length:=by
 unfold C4;rw[kr];omega
def X6(a b:List UInt8):C4 a b=C4 b a:=by
 unfold C4
 induction a generalizing b with
 | nil=>cases b<;>rfl
 | cons x a ih=>
  cases b with
  | nil=>rfl
  | cons y b=>rw[Oc,Oc,ih,UInt8.xor_comm]
def WA(a b c:List UInt8):C4 (C4 a b) c=C4 a (C4 b c):=by
 unfold C4
 induction a generalizing b c with
 | nil=>cases b<;>cases c<;>rfl
 | cons x a ih=>
  cases b with
  | nil=>cases c<;>rfl
  | cons y b=>
   cases c with
   | nil=>rfl
   | cons z c=>simp only[Oc,ih,UInt8.xor_assoc]
def ara{a b:List UInt8}(h:a.length=b.length):C4 (C4 a b) b=a:=by
 unfold C4
 induction a generalizing b with
 | nil=>rfl
 | cons x a ih=>
  cases b with
  | nil=>cases h
  | cons y b=>rw[Oc,Oc,ih<|by simpa using h,UInt8.xor_assoc,UInt8.xor_self,UInt8.xor_zero]
def nul(n:Nat):List UInt8:=BS n 0
def XI{a:List UInt8}{n:Nat}(h:a.length=n):C4 (nul n) a=a:=by
 unfold C4 nul
 induction a generalizing n with
 | nil=>subst h;rfl
 | cons x a ih=>
  subst h;rw[Bl,aBH,Oc,ih rfl,UInt8.zero_xor]
def Dn(n:Nat)(bl:Nat->List UInt8):List Nat->List UInt8
 | []=>nul n
 | k::ks=>C4 (bl k) (Dn n bl ks)
def Py{n:Nat}{bl:Nat->List UInt8}:∀ {ks:List Nat},(∀k∈ks,(bl k).length=n)->(Dn n bl ks).length=n
 | [],_=>by simp[Dn,nul]
 | k::ks,h=>by
  have a:=h k Am;have b:=Py λx hx=>h x<|Ai k hx;rw[Dn,Pq J,a]
def kc{n:Nat}{bl:Nat->List UInt8}:∀ {ks:List Nat} {y:List UInt8},y.length=n->ks.foldl (λx k=>C4 x<|bl k) y=C4 y (Dn n bl ks)
 | [],y,h=>by
  rw[Dn,X6,XI h];rfl
 | k::ks,y,h=>by
  rw[Dr,Dn,← WA];by_cases hk:(C4 y<|bl k).length=n
  .exact kc hk
  ·
   have key:∀(ks:List Nat) (y z:List UInt8),y.length<=n->ks.foldl (λx k=>C4 x<|bl k) y=C4 y (Dn n bl ks):=by
    intro ks
    induction ks with
    | nil=>
     intro y z hy;rw[K7,Dn,X6];unfold C4 nul;clear hk h z
     induction y generalizing n with
     | nil=>simp
     | cons x y ih=>
      cases n with
      | zero=>simp at hy
      | succ n=>rw[aBH,Oc,UInt8.zero_xor,← ih<|by simpa using hy]
    | cons k ks ih=>
     intro y z hy;rw[Dr,Dn,← WA];refine ih _ z ?_;unfold C4;rw[kr];omega
   refine key ks _ [] ?_;unfold C4;rw[kr];omega
def auA{n:Nat}{bl:Nat->List UInt8}{p:Nat->Bool}{ks:List Nat}{u:Nat}(hb:∀k∈ks,(bl k).length=n)(hf:(ks.filter λk=> !p k)=[u]):
  ks.foldl (λx k=>if p k then C4 x (bl k) else x) (Dn n bl ks)=bl u:=by
 have h1:∀(ks:List Nat) (y:List UInt8),ks.foldl (λx k=>if p k then C4 x (bl k) else x) y=(ks.filter p).foldl (λx k=>C4 x<|bl k) y:=by
  intro ks
  induction ks with
  | nil=>intro y;rfl
  | cons k ks ih=>
   intro y;rw[Dr,K9];split<;>simp[ih]
 have h2:∀(ks:List Nat),(∀k∈ks,(bl k).length=n)->Dn n bl ks=C4 (Dn n bl<|ks.filter λk=> !p k) (Dn n bl<|ks.filter p):=by
  intro ks
  induction ks with
  | nil=>intro _;simp[Dn,XI (n:=n) (a:=nul n) (by simp[nul])]
  | cons k ks ih=>
   intro hb;have:=ih λx hx=>hb x<|Ai _ hx;rw[Dn,this,K9,K9];cases p k
   .simp only[AG,A2,A4,Dn,WA]
   .simp only[AA,A2,A4,Dn];rw[← WA,X6<|bl k,WA]
 have hlen:(Dn n bl<|ks.filter p).length=n:=Py λk hk=>hb k (FQ.1 hk).1;have hu:(bl u).length=n:=hb u (FQ.1 (hf▸Od u:u∈ks.filter λk=> !p k)).1;rw[h1,kc<|Py hb,h2 ks hb,hf];rw[ara (by rw[hlen];exact Py λk hk=>by rw[CN.1 hk];exact hu)];rw[Dn,Dn,X6,XI hu]
def rnd(x:Int):Int:=if inB x 0 65535 then BJ (25173 * x+13849) 65536 else 0
def So(x:Int):0<=rnd x/\rnd x<=65535:=by
 unfold rnd;split
 .rename_i h;have:=AY.1 h;rw[Kq J];omega
 .omega
def rR(x:Int):PN (x,())=I ((rnd x,()),()):=by
 unfold PN rnd;simp only[EM,A6];obtain e|e:=tf (inB x 0 65535)
 .have:=AY.1 e;simp only[e,AA,A4,A2];rw[Aa (n:=25173 * x) J J,Aa J J]
 .simp only[e,AG,A4,A2]
def rL(x:Int):PK (x,())=I ((rnd x,()),()):=by
 unfold PK rnd;simp only[Hn,A6];obtain e|e:=tf (inB x 0 65535)
 .have:=AY.1 e;simp only[e,AA,A4,A2];rw[Aa (n:=x * 25173) J J,Aa J J,QK]
 .simp only[e,AG,A4,A2]
def Dm(b n:Int):Bool:=inB b 1 6&&inB n 0 999
def zi(b n:Int):Vy (b,n,())=I ((Dm b n,()),()):=by
 unfold Vy Dm;simp only[EM,A6,Dt,Df];cases inB b 1 6<;>rfl
def WH(b n:Int):MS (b,n,())=I ((Dm b n,()),()):=by
 unfold MS Dm;simp only[Hn,A6,Dt,Df];cases inB b 1 6<;>rfl
def wgt(b d:Int):Int:=if d=1 then Ay 60 b+10 else Ay 60 (d * (d - 1))
def ajs{b d:Int}(hb:inB b 1 6=Y)(hd:inB d 1 6=Y):cr (b,d,())=I ((wgt b d,()),()):=by
 have h1:=AY.1 hb;have h2:=AY.1 hd;have h3:b=1\/b=2\/b=3\/b=4\/b=5\/b=6:=J
 have h4:d=1\/d=2\/d=3\/d=4\/d=5\/d=6:=J
 obtain rfl|rfl|rfl|rfl|rfl|rfl:=h3<;>obtain rfl|rfl|rfl|rfl|rfl|rfl:=h4<;>rfl
def asi(b n:Int)(hb:inB b 1 6=Y):aO (b,n,0,1,())=I (.inr (b,n,70,())):=by
 have h1:=AY.1 hb;have h3:b=1\/b=2\/b=3\/b=4\/b=5\/b=6:=J
 unfold aO;obtain rfl|rfl|rfl|rfl|rfl|rfl:=h3
 .exact Av rfl (BH rfl)
 .exact Av rfl (Av rfl (BH rfl))
 .exact Av rfl (Av rfl (Av rfl (BH rfl)))
 .exact Av rfl (Av rfl (Av rfl (Av rfl (BH rfl))))
 .exact Av rfl (Av rfl (Av rfl (Av rfl (Av rfl (BH rfl)))))
 .exact Av rfl (Av rfl (Av rfl (Av rfl (Av rfl (Av rfl (BH rfl))))))
def wts(b:Int):List Int:=if b=1 then [70] else if b=2 then [40,30] else if b=3 then [30,30,10] else if b=4 then [25,30,10,5] else if b=5 then [22,30,10,5,3] else [20,30,10,5,3,2]
def auc(b n:Int)(hb:inB b 1 6=Y):an (b,n,[0,w64<|w64 (Ay 60 b)+10],rd aEo ([0,w64<|w64 (Ay 60 b)+10]:List Int) 1,2,())=I (.inr (b,n,0::wts b,70,())):=by
 have h1:=AY.1 hb;have h3:b=1\/b=2\/b=3\/b=4\/b=5\/b=6:=J
 unfold an;obtain rfl|rfl|rfl|rfl|rfl|rfl:=h3
 .exact BH rfl
 .exact Av rfl (BH rfl)
 .exact Av rfl (Av rfl (BH rfl))
 .exact Av rfl (Av rfl (Av rfl (BH rfl)))
 .exact Av rfl (Av rfl (Av rfl (Av rfl (BH rfl))))
 .exact Av rfl (Av rfl (Av rfl (Av rfl (Av rfl (BH rfl)))))
def FN{σ ρ:Type}{b:σ->Option (σ ⊕ ρ)}{x x':σ}{y z:ρ}{c:Bool}(h:b x=if c then I (.inr y) else I (.inl x'))(hz:AZ b x'=I z):AZ b x=I (if c then y else z):=by
 cases c
 .exact Av h hz
 .exact BH h
def L4(b r:Int):List Int->Int->Int->(Int×D) ⊕ (Int×D)
 | [],_,_=> .inr (b,())
 | w::ws,acc,d=>if U (r<acc+w) then .inl (d,()) else L4 b r ws (acc+w) (d+1)
def aud(b r:Int)(hb:inB b 1 6=Y):al (b,0::wts b,r,0,1,())=I (L4 b r (wts b) 0 1):=by
 have h1:=AY.1 hb;have h3:b=1\/b=2\/b=3\/b=4\/b=5\/b=6:=J
 unfold al;obtain rfl|rfl|rfl|rfl|rfl|rfl:=h3
 .exact FN rfl (BH rfl)
 .exact FN rfl (FN rfl (BH rfl))
 .exact FN rfl (FN rfl (FN rfl (BH rfl)))
 .exact FN rfl (FN rfl (FN rfl (FN rfl (BH rfl))))
 .exact FN rfl (FN rfl (FN rfl (FN rfl (FN rfl (BH rfl)))))
 .exact FN rfl (FN rfl (FN rfl (FN rfl (FN rfl (FN rfl (BH rfl))))))
def aaT{b d:Int}(hb:inB b 1 6=Y)(hd:inB d 1 6=Y):0<=wgt b d/\wgt b d<=70:=by
 have h1:=AY.1 hb;have h2:=AY.1 hd;have h3:b=1\/b=2\/b=3\/b=4\/b=5\/b=6:=J
 have h4:d=1\/d=2\/d=3\/d=4\/d=5\/d=6:=J
 obtain rfl|rfl|rfl|rfl|rfl|rfl:=h3<;>obtain rfl|rfl|rfl|rfl|rfl|rfl:=h4<;>decide
def ale{b x d:Int}(hb:inB b 1 6=Y)(hd:inB d 1 6=Y)(hlt:d<b)(h0: -1000<=x)(h1:x<=1000):
  UU (b,x,d,())=if U (x - wgt b d<0) then I (.inr<|.inl (d,())) else I (.inl (b,x - wgt b d,d+1,())):=by
 have hw:=aaT hb hd;have h2:=AY.1 hd;unfold UU;simp only[AQ hlt,A2,ajs hb hd,A6];rw[Aa (n:=x - wgt b d) J J,Aa (n:=d+1) J J]
def M8:(Int×D) ⊕ (Int×D)->Int
 | .inl y=>y.1
 | .inr y=>y.1
def ZT(b x:Int):Nat->Int->(Int×D) ⊕ (Int×D)
 | 0,_=> .inr (b,())
 | n+1,d=>if U (x - wgt b d<0) then .inl (d,()) else ZT b (x - wgt b d) n (d+1)
def aCh{b:Int}(hb:inB b 1 6=Y):∀(n:Nat) (x d:Int),1<=d->d+n=b-> -70 * d<=x->x<=100->aN (b,x,d,())=I (ZT b x n d)
 | 0,x,d,_,h,_,_=>by
  unfold aN;refine BH ?_;unfold UU;simp only[show U (d<b)=A0 from B1 J,A4];rfl
 | n+1,x,d,h1,h,h2,h3=>by
  have hb':=AY.1 hb;have hd:inB d 1 6=Y:=AY.2 ⟨h1,J⟩;have hw:=aaT hb hd;exact FN (ale hb hd J J J)<|aCh hb n (x - wgt b d) (d+1) J J J J
def avY:∀b:Fin 6,∀r:Fin 70,M8 (ZT ((b.1+1:Nat):Int) (r.1:Int) b.1 1)=M8 (L4 ((b.1+1:Nat):Int) (r.1:Int) (wts ((b.1+1:Nat):Int)) 0 1):=by decide+kernel
def auG{b r:Int}(hb:inB b 1 6=Y)(h0:0<=r)(h1:r<70):M8 (ZT b r (b - 1).toNat 1)=M8 (L4 b r (wts b) 0 1):=by
 have h2:=AY.1 hb;have:=avY ⟨(b - 1).toNat,J⟩ ⟨r.toNat,J⟩;rw[show(((b - 1).toNat+1:Nat):Int)=b by omega,show((r.toNat:Nat):Int)=r by omega]at this;exact this
def G1(b n:Int):Int:=if Dm b n then(if U (n<b) then 1 else M8 (L4 b (BJ (Ay (rnd<|rnd<|31 * n+b) 16) 70) (wts b) 0 1)) else 0
def aab(s:(Int×D) ⊕ (Int×D)):AP (I s) (λy=>I (y,())) (λy=>I (y,()))=I ((M8 s,()),()):=by
 cases s<;>rfl
def aik(b n:Int):cJ (b,n,())=I ((G1 b n,()),()):=by
 unfold cJ G1;rw[zi];simp only[A6];obtain e|e:=tf (Dm b n)
 .have e2:=e;unfold Dm at e2;rw[AD]at e2;have h1:=AY.1 e2.1;have h2:=AY.1 e2.2;simp only[e,AA,A4,A2];obtain e3|e3:=tf (U<|n<b)
  .simp only[e3,A2]
  .have hr:=So<|rnd<|31 * n+b;have hz:Ay (rnd<|rnd<|31 * n+b) 16=rnd (rnd<|31 * n+b) / 16:=HC hr.1;simp only[e3,A4,show U (b=0)=A0 from B1 J,AG,A2,auc b n e2.1];rw[A5<|by rfl];simp only[AP,rR,A6];rw[Aa (n:=31 * n) J J,Aa (n:=31 * n+b) J J,Aa (n:=Ay _ 16) J J];rw[aud b _ e2.1];exact aab _
 .simp only[e,AG,A2,A4]
def ai7(b n:Int):cU (b,n,())=I ((G1 b n,()),()):=by
 unfold cU G1;rw[WH];simp only[A6];obtain e|e:=tf (Dm b n)
 .have e2:=e;unfold Dm at e2;rw[AD]at e2;have h1:=AY.1 e2.1;have h2:=AY.1 e2.2;simp only[e,AA,A4,A2];obtain e3|e3:=tf (U<|n<b)
  .simp only[e3,A2]
  .have hr:=So<|rnd<|31 * n+b;have hz:Ay (rnd<|rnd<|31 * n+b) 16=rnd (rnd<|31 * n+b) / 16:=HC hr.1;have hm:BJ (Ay (rnd<|rnd<|31 * n+b) 16) 70=(rnd (rnd<|31 * n+b) / 16) % 70:=by rw[hz];exact Kq J
   simp only[e3,A4,asi b n e2.1];simp only[AP,rL,A6];rw[Aa (n:=n * 31) J J,Aa (n:=n * 31+b) J J,QK n 31,Aa (n:=Ay _ 16) J J];rw[aCh e2.1 (b - 1).toNat _ 1 J J J J,A5<|by rfl];rw[← auG e2.1 J J];exact aab _
 .simp only[e,AG,A2,A4]
def ah6{l:List Int}(hl:l.length<=1048576):qi (l,())=I ((l,()),()):=Lg hl
def ag1{l:List Int}(hl:l.length<=1048576):bM (l,())=I ((l,()),()):=Lg hl
def Ey(b:Nat)(f:Nat->Bool):Nat->Nat->Nat
 | 0,a=>a
 | k+1,a=>if f a then Ey b f k ((a+1) % b) else a
def Rep(u:List Bool)(f:Nat->Bool):Prop:=∀i,u.getD i A0=f i
def rdB(u:List Bool)(i:Nat): @rd Bool aEz u (i:Int)=u.getD i A0:=rfl
def Sc{b:Nat}{f:Nat->Bool}:∀(k a:Nat),a<b->Ey b f k a<b
 | 0,_,h=>h
 | k+1,a,h=>by
  unfold Ey;split
  .exact Sc k _ (Og _ J)
  .exact h
def jt{a b k:Nat}:((a+1) % b+k) % b=(a+(k+1)) % b:=by
 rw[Nat.mod_add_mod,D6,N6 1 k]
def jJ{b:Nat}{f:Nat->Bool}:∀(k a m:Nat),a<b->f ((a+k) % b)=A0->k<=m->Ey b f m a=Ey b f k a
 | 0,a,m,h,e,_=>by
  rw[He,OW h]at e;cases m with
  | zero=>rfl
  | succ m=>
   simp only[Ey,e,A4]
 | k+1,a,m,h,e,hm=>by
  cases m with
  | zero=>omega
  | succ m=>
   rw[Ey,Ey];rw[jJ k ((a+1) % b) m (Og _ J) (by rw[jt];exact e) J]
def reach{a b j:Nat}(ha:a<b)(hj:j<b):∃k,k<=b/\(a+k) % b=j:=by
 by_cases h:a<=j
 .exact⟨j - a,J,by rw[show a+(j - a)=j by omega];exact OW hj⟩
 .exact⟨j+b - a,J,by rw[show a+(j+b - a)=j+b by omega,Nat.add_mod_right];exact OW hj⟩
def cnt(f:Nat->Bool):Nat->Nat
 | 0=>0
 | k+1=>cnt f k+(if f k then 1 else 0)
def kh{f:Nat->Bool}:∀(k:Nat),cnt f k<k->∃j,j<k/\f j=A0
 | 0,h=>J
 | k+1,h=>by
  rw[cnt]at h;obtain e|e:=tf (f k)
  .rw[e,A5 rfl]at h;obtain⟨j,h1,h2⟩:=kh (f:=f) k J;exact⟨j,J,h2⟩
  .exact⟨k,J,e⟩
def I4(f:Nat->Bool)(a:Nat):Nat->Bool:=λj=>if j=a then Y else f j
def mL{f:Nat->Bool}{a:Nat}:∀(k:Nat),(k<=a->cnt (I4 f a) k=cnt f k)/\cnt (I4 f a) k<=cnt f k+1
 | 0=>⟨λ_=>rfl,by rw[cnt,cnt];omega⟩
 | k+1=>by
  obtain⟨h1,h2⟩:=mL (f:=f) (a:=a) k;rw[cnt,cnt];constructor
  .intro h;rw[h1 J,show I4 f a k=f k from A9 J]
  .by_cases h:k=a
   .rw[h1 J];unfold I4;rw[A5 h];cases f k<;>simp
   .unfold I4;rw[A9 h];unfold I4 at h2;omega
def kg:∀(k:Nat),cnt (λ_=>A0) k=0
 | 0=>rfl
 | k+1=>by rw[cnt,kg k];rfl
def Rep.set{u:List Bool}{f:Nat->Bool}{a:Nat}(h:Rep u f)(ha:a<u.length):Rep (u.set a Y) (I4 f a):=by
 intro i;unfold I4;rw[B8,Oj];by_cases e:i=a
 .subst e;simp[ha]
 .rw[A9<|L0 e,A9 e,← h i,B8]
def Rep.new(n:Nat):Rep (BS n A0) (λ_=>A0):=by
 intro i;rw[B8,YQ];split<;>rfl
def JC(b:Nat):Nat->(Nat->Bool)->Int->Nat->Bool
 | 0,f,_=>f
 | n+1,f,x=>JC b n (I4 f<|Ey b f b (BJ (Ay (rnd x) 16) (b:Int)).toNat) (rnd x)
def aCp{b:Nat}(hb:0<b):∀(n:Nat) (f:Nat->Bool) (x:Int),(∀i,b<=i->f i=A0)->∀i,b<=i->JC b n f x i=A0
 | 0,_,_,h=>h
 | n+1,f,x,h=>by
  refine aCp hb n _ _ ?_;intro i hi;unfold I4;rw[A9,h i hi];have:Ey b f b (BJ (Ay (rnd x) 16) (b:Int)).toNat<b:=by
   refine Sc _ _ ?_;have:=So x;rw[HC this.1,Kq J];have h1:=Int.emod_lt_of_pos (rnd x / 16) (show(0:Int)<b by omega);have h2:=Int.emod_nonneg (rnd x / 16) (show(b:Int)≠0 by omega);omega
  omega
def Hx(f:Nat->Bool)(m:Nat):List Nat:=(B7 m).filter f
def iq(f:Nat->Bool)(m:Nat):Hx f (m+1)=Hx f m++if f m then [m] else []:=by
 unfold Hx;rw[ID,Oi];congr 1;simp only[K9,Yh]
def XW(f:Nat->Bool)(m:Nat):(Hx f m).length<=m:=by
 unfold Hx;exact CP (Ij _ _)<|by simp
def au8{f:Nat->Bool}{m k:Nat}(h:k∈Hx f m):k<m:=by
 unfold Hx at h;exact Cs.1 (FQ.1 h).1
def aCK{f:Nat->Bool}{b:Nat}(h:∀i,b<=i->f i=A0):∀(m:Nat),b<=m->Hx f m=Hx f b
 | 0,hm=>by rw[show b=0 by omega]
 | m+1,hm=>by
  by_cases e:b=m+1
  .rw[e]
  .rw[iq,h m J,A4,CK,aCK h m J]
abbrev BW(l:List Nat):List Int:=l.map λi:Nat=>(i:Int)
def aDu{b r:Int}(hb:0<=b):∀(ws:List Int) (acc d:Int),0<=d->d+ws.length<=b+1->0<=M8 (L4 b r ws acc d)/\M8 (L4 b r ws acc d)<=b
 | [],_,_,_,_=>by
  show 0<=b/\b<=b;omega
 | w::ws,acc,d,h0,h1=>by
  rw[Bl]at h1;unfold L4;split
  .show 0<=d/\d<=b;omega
  .exact aDu hb ws _ _ J J
def aDv{b n:Int}(h:Dm b n=Y):0<=G1 b n/\G1 b n<=b:=by
 unfold G1;rw[A5 h];unfold Dm at h;rw[AD]at h;have h1:=AY.1 h.1;split
 .omega
 .refine aDu J _ _ _ J ?_;have h3:b=1\/b=2\/b=3\/b=4\/b=5\/b=6:=J
  obtain rfl|rfl|rfl|rfl|rfl|rfl:=h3<;>exact D0 _
def Bg(b n:Int):List Nat:=
 if Dm b n then(if U (n<b) then [n.toNat] else Hx (JC b.toNat (G1 b n).toNat (λ_=>A0)<|rnd<|7 * n+1) b.toNat) else []
def LX{b n:Int}{k:Nat}(h:k∈Bg b n):(k:Int)<b:=by
 unfold Bg at h;split at h
 .rename_i h0;unfold Dm at h0;rw[AD]at h0;have h1:=AY.1 h0.1;have h2:=AY.1 h0.2;split at h
  .rename_i h3;have:=Bc h3;have:=CN.1 h;omega
  .have:=au8 h;omega
 .cases h
def Wb(b n:Int):(Bg b n).length<=6:=by
 unfold Bg;split
 .rename_i h0;unfold Dm at h0;rw[AD]at h0;have h1:=AY.1 h0.1;split
  .simp
  .exact CP (XW _ _) J
 .simp
section
variable {bn:Nat} (hb:0<bn) (h6:bn<=6) {u:List Bool} {f:Nat->Bool} (hu:Rep u f) (hl:bn<=u.length)
include hb h6 hu hl
def aBy(x n:Int):∀(k a:Nat),a<bn->f ((a+k) % bn)=A0->
  cI ((bn:Int),u,x,n,(a:Int),())=I (.inr ((bn:Int),u,x,n,((Ey bn f k a:Nat):Int),()))
 | 0,a,ha,e=>by
  rw[He,OW ha]at e;refine BH ?_;unfold Vj;simp only[rdB,hu a,e,AW (J:a<u.length),A2,A4];rfl
 | k+1,a,ha,e=>by
  unfold cI at *;unfold Ey;obtain e1|e1:=tf (f a)
  .rw[e1,A5 rfl];refine Av ?_ (aBy x n k ((a+1) % bn) (Og _ hb) (by rw[jt];exact e));unfold Vj;simp only[rdB,hu a,e1,AW (J:a<u.length),A2,show U ((bn:Int)=0)=A0 from B1 J,AG];rw[Aa J J];rfl
  .rw[e1,A4];refine BH ?_;unfold Vj;simp only[rdB,hu a,e1,AW (J:a<u.length),A2,A4]
def aBT(o:List Int)(x n:Int):∀(k a:Nat),a<bn->f ((a+k) % bn)=A0->
  cT ((bn:Int),o,u,x,n,(a:Int),())=I (.inr ((bn:Int),o,u,x,n,((Ey bn f k a:Nat):Int),()))
 | 0,a,ha,e=>by
  rw[He,OW ha]at e;refine BH ?_;unfold Va;simp only[rdB,hu a,e,AW (J:a<u.length),A2,A4];rfl
 | k+1,a,ha,e=>by
  unfold cT at *;unfold Ey;obtain e1|e1:=tf (f a)
  .rw[e1,A5 rfl];refine Av ?_ (aBT o x n k ((a+1) % bn) (Og _ hb) (by rw[jt];exact e));unfold Va;simp only[rdB,hu a,e1,AW (J:a<u.length),A2,show U ((bn:Int)=0)=A0 from B1 J,AG];rw[Aa J J];rfl
  .rw[e1,A4];refine BH ?_;unfold Va;simp only[rdB,hu a,e1,AW (J:a<u.length),A2,A4]
end
section
variable {bn:Nat} (hb:0<bn) (h6:bn<=6)
include hb h6
def aa6(x:Int):∃a:Nat,BJ (w64<|Ay (rnd x) 16) (bn:Int)=(a:Int)/\(BJ (Ay (rnd x) 16) (bn:Int)).toNat=a/\a<bn:=by
 have h:=So x;have hd:Ay (rnd x) 16=rnd x / 16:=HC h.1;rw[hd,Aa J J,Kq J];have h1:=Int.emod_lt_of_pos (rnd x / 16) (show(0:Int)<bn by omega);have h2:=Int.emod_nonneg (rnd x / 16) (show(bn:Int)≠0 by omega);exact⟨(rnd x / 16 % (bn:Int)).toNat,J,rfl,J⟩
def aDH:∀(n:Nat) (u:List Bool) (f:Nat->Bool) (x:Int),Rep u f->bn<=u.length->cnt f bn+n<=bn->
  ∃u',qw ((bn:Int),u,x,(n:Int),())=I (.inr (u',()))/\Rep u' (JC bn n f x)/\u'.length=u.length
 | 0,u,f,x,hu,_,_=>by
  refine⟨u,BH ?_,hu,rfl⟩;rfl
 | n+1,u,f,x,hu,hl,hc=>by
  obtain⟨a,ea,eb,ha⟩:=aa6 hb h6 x;obtain⟨j,hj,ej⟩:=kh (f:=f) bn J;obtain⟨k,hk,ek⟩:=reach ha hj;have es:=aBy hb h6 hu hl (rnd x) ((n+1:Nat):Int) k a ha (by rw[ek];exact ej);have em:=jJ (f:=f) k a bn ha (by rw[ek];exact ej) hk;have hs:Ey bn f k a<bn:=Sc k a ha;obtain⟨u',h1,h2,h3⟩:=aDH n (u.set (Ey bn f k a) Y) (I4 f<|Ey bn f k a) (rnd x) (hu.set J) (by rw[GP];exact hl)
   (by have:=(mL (f:=f) (a:=Ey bn f k a) bn).2;omega)
  refine⟨u',Av ?_ h1, ?_,by rw[h3,GP]⟩
  .unfold gk;simp only[rR,A6,show U ((0:Int)<((n+1:Nat):Int))=Y from AQ J,A2,show U ((bn:Int)=0)=A0 from B1 J,AG,ea,es];simp only[AP,A6,AW (J:Ey bn f k a<u.length),A2,Bf];rw[Aa J J,show((n+1:Nat):Int) - 1=(n:Int) by omega]
  .rw[JC,eb,em];exact h2
def aCg(o:List Int):∀(n:Nat) (u:List Bool) (f:Nat->Bool) (x:Int),Rep u f->bn<=u.length->cnt f bn+n<=bn->
  ∃u',qo ((bn:Int),o,u,x,(n:Int),())=I (.inr ((bn:Int),o,u',()))/\Rep u' (JC bn n f x)/\u'.length=u.length
 | 0,u,f,x,hu,_,_=>by
  refine⟨u,BH ?_,hu,rfl⟩;rfl
 | n+1,u,f,x,hu,hl,hc=>by
  obtain⟨a,ea,eb,ha⟩:=aa6 hb h6 x;obtain⟨j,hj,ej⟩:=kh (f:=f) bn J;obtain⟨k,hk,ek⟩:=reach ha hj;have es:=aBT hb h6 hu hl o (rnd x) ((n+1:Nat):Int) k a ha (by rw[ek];exact ej);have em:=jJ (f:=f) k a bn ha (by rw[ek];exact ej) hk;have hs:Ey bn f k a<bn:=Sc k a ha;obtain⟨u',h1,h2,h3⟩:=aCg o n (u.set (Ey bn f k a) Y) (I4 f<|Ey bn f k a) (rnd x) (hu.set J) (by rw[GP];exact hl)
   (by have:=(mL (f:=f) (a:=Ey bn f k a) bn).2;omega)
  refine⟨u',Av ?_ h1, ?_,by rw[h3,GP]⟩
  .unfold fw;simp only[rL,A6,show U ((0:Int)<((n+1:Nat):Int))=Y from AQ J,A2,show U ((bn:Int)=0)=A0 from B1 J,AG,ea,es];simp only[AP,A6,AW (J:Ey bn f k a<u.length),A2,Bf];rw[Aa J J,show((n+1:Nat):Int) - 1=(n:Int) by omega]
  .rw[JC,eb,em];exact h2
end
def as2{u:List Bool}{f:Nat->Bool}(hu:Rep u f)(hl:u.length=6):qv ([],u,0,())=I (.inr (BW<|Hx f 6,())):=by
 refine Ch (λi=>(BW<|Hx f i,u,(i:Int),())) 6 ?_ rfl;intro i hi;unfold gj;simp only[rdB,hu i,AW (J:i<u.length),AW hi,Kr,A2,show U ((i:Int)<6)=Y from AQ J];rw[Aa (n:=(i:Int)+1) J J,iq];have:=XW f i;obtain e|e:=tf (f i)
 .simp only[e,A2];rw[A5<|BD o5];simp[BW]
 .simp only[e,A4,CK];rfl
def arW{bn:Nat}(h6:bn<=6){u:List Bool}{f:Nat->Bool}(hu:Rep u f)(hl:u.length=bn):qn ((bn:Int),[],u,0,())=I (.inr (BW<|Hx f bn,())):=by
 refine Ch (λi=>((bn:Int),BW<|Hx f i,u,(i:Int),())) bn ?_ ?_
 .intro i hi;unfold eu;simp only[rdB,hu i,AW (J:i<u.length),A2,show U ((i:Int)<(bn:Int))=Y from AQ J];rw[Aa (n:=(i:Int)+1) J J,iq];have:=XW f i;obtain e|e:=tf (f i)
  .simp only[e,A2];rw[A5<|BD o5];simp[BW]
  .simp only[e,A4,CK];rfl
 .unfold eu;simp only[show U ((bn:Int)<(bn:Int))=A0 from B1 J,A4]
def gv(b n:Int):Vw (b,n,())=I ((BW<|Bg b n,()),()):=by
 unfold Vw Bg;rw[zi];simp only[A6];obtain e|e:=tf (Dm b n)
 .have e2:=e;unfold Dm at e2;rw[AD]at e2;have h1:=AY.1 e2.1;have h2:=AY.1 e2.2;simp only[e,AA,A4,A2];obtain e3|e3:=tf (U<|n<b)
  .simp only[e3,A2];rw[show BW [n.toNat]=[n] from by simp[BW];omega]
  .have hd:=aDv e;simp only[e3,A4,rR,aik,A6];rw[Aa (n:=7 * n) J J,Aa (n:=7 * n+1) J J];obtain⟨u,g1,g2,g3⟩:=aDH (bn:=b.toNat) J J (G1 b n).toNat (BS 6 A0) (λ_=>A0) (rnd<|7 * n+1) (Rep.new 6) o5 (by rw[kg];omega);rw[show((b.toNat:Nat):Int)=b by omega,show(((G1 b n).toNat:Nat):Int)=G1 b n by omega]at g1;rw[show(dfl .bool:Bool)=A0 from rfl,g1];simp only[AP,A6];rw[as2 g2 (by rw[g3];rfl),aCK (b:=b.toNat) (aCp J _ _ _ λ_ _=>rfl) 6 J];simp only[A6];rw[ah6 (by have:=XW (JC b.toNat (G1 b n).toNat (λ_=>A0)<|rnd<|7 * n+1) b.toNat;simp;omega)];rfl
 .simp only[e,AG,A2,A4];rfl
def zh(b n:Int):Vq (b,n,())=I ((BW<|Bg b n,()),()):=by
 unfold Vq Bg;rw[WH];simp only[A6];obtain e|e:=tf (Dm b n)
 .have e2:=e;unfold Dm at e2;rw[AD]at e2;have h1:=AY.1 e2.1;have h2:=AY.1 e2.2;simp only[e,AA,A4,A2];obtain e3|e3:=tf (U<|n<b)
  .simp only[e3,A2];rw[show BW [n.toNat]=[n] from by simp[BW];omega];rfl
  .have hd:=aDv e;simp only[e3,A4,rL,ai7,A6];rw[A5 o5];rw[Aa (n:=n * 7) J J,Aa (n:=n * 7+1) J J,QK n 7];obtain⟨u,g1,g2,g3⟩:=aCg (bn:=b.toNat) J J [] (G1 b n).toNat (BS b.toNat A0) (λ_=>A0) (rnd<|7 * n+1) (Rep.new _) y9 (by rw[kg];omega);rw[show((b.toNat:Nat):Int)=b by omega,show(((G1 b n).toNat:Nat):Int)=G1 b n by omega]at g1;rw[show(dfl .bool:Bool)=A0 from rfl,g1];simp only[AP,A6];have g4:=arW (bn:=b.toNat) J g2 (by rw[g3];simp);rw[show((b.toNat:Nat):Int)=b by omega]at g4;rw[g4];rfl
 .simp only[e,AG,A2,A4];rfl
end Go.VS
namespace Go.VS
open Go
abbrev bI(l:List UInt8):List Int:=l.map λb=>(b.toNat:Int)
def SL(s:A1):BA s=bI (L s):=rfl
def Sf(l:List UInt8):BF (bI l)=B l:=by
 unfold BF bI B;rw[IE];congr 2;rw[Gg (g:=id) (by intro b _;simp),Yk]
def aaM(a b:UInt8):Dp .u8 (a.toNat:Int) (b.toNat:Int)=((a ^^^ b).toNat:Int):=by
 have h1:∀c:UInt8,FH (IntKind.bits .u8) (c.toNat:Int)=c.toBitVec:=by
  intro c;apply l7;rw[QQ];have:=c.toNat_lt;show((c.toNat:Int) % (2 ^ 8:Nat)).toNat=c.toBitVec.toNat;rw[lI J J];rfl
 unfold Dp;rw[h1 a,h1 b];have:=(a ^^^ b).toNat_lt;show Ya .u8 (((a ^^^ b).toNat:Nat):Int)=_;have h3:∀n:Int,Ya .u8 n=n % 256:=Mr;rw[h3];omega
def axn{l:List UInt8}(h:l.length=4):∃a b c d,l=[a,b,c,d]:=by
 obtain _|⟨a,_|⟨b,_|⟨c,_|⟨d,_|⟨e,l⟩⟩⟩⟩⟩:=l
 all_goals simp at h
 exact⟨a,b,c,d,rfl⟩
def sz4{s:A1}(h:s.size=4):∃a b c d,s=B [a,b,c,d]:=by
 obtain⟨a,b,c,d,e⟩:=axn (l:=L s) h;exact⟨a,b,c,d,by rw[← e,B_L]⟩
def zm{a b:A1}(ha:a.size=4)(hb:b.size=4):Vr (a,b,())=I ((B<|C4 (L a)<|L b,()),()):=by
 obtain⟨a0,a1,a2,a3,rfl⟩:=sz4 ha;obtain⟨b0,b1,b2,b3,rfl⟩:=sz4 hb;unfold Vr;rw[A5<|by rfl];have h:qp (B [b0,b1,b2,b3],BA<|B [a0,a1,a2,a3],((BA<|B [a0,a1,a2,a3]).length:Int),0,())=
   I (.inr ([Dp .u8 (a0.toNat:Int) (b0.toNat:Int),Dp .u8 (a1.toNat:Int) (b1.toNat:Int),Dp .u8 (a2.toNat:Int) (b2.toNat:Int),Dp .u8 (a3.toNat:Int) (b3.toNat:Int)],())):=
  Av rfl (Av rfl (Av rfl (Av rfl (BH rfl))))
 rw[h];simp only[aaM,AP,A6];exact congrArg (λz=>I ((z,()),()))<|Sf [a0 ^^^ b0,a1 ^^^ b1,a2 ^^^ b2,a3 ^^^ b3]
def zf{a b:A1}(ha:a.size=4)(hb:b.size=4):Vp (a,b,())=I ((B<|C4 (L a)<|L b,()),()):=by
 obtain⟨a0,a1,a2,a3,rfl⟩:=sz4 ha;obtain⟨b0,b1,b2,b3,rfl⟩:=sz4 hb;unfold Vp;have h:qm (B [a0,a1,a2,a3],B [b0,b1,b2,b3],[],0,())=
   I (.inr ([Dp .u8 (a0.toNat:Int) (b0.toNat:Int),Dp .u8 (a1.toNat:Int) (b1.toNat:Int),Dp .u8 (a2.toNat:Int) (b2.toNat:Int),Dp .u8 (a3.toNat:Int) (b3.toNat:Int)],())):=
  Av rfl (Av rfl (Av rfl (Av rfl (BH rfl))))
 rw[h];simp only[aaM,AP,A6];exact congrArg (λz=>I ((z,()),()))<|Sf [a0 ^^^ b0,a1 ^^^ b1,a2 ^^^ b2,a3 ^^^ b3]
def ck{n:Int}(h0:0<=n)(h1:n<=1000):LS (n,())=I ((Ay (n+3) 4,()),()):=by
 unfold LS;simp only;rw[Aa (n:=n+4) J J,Aa (n:=n+4 - 1) J J,show n+4 - 1=n+3 by omega];rw[HC J,Aa J J]
def ao8:ft ()=I ((B<|nul 4,()),()):=rfl
def G0(t:List UInt8)(i:Nat):List UInt8:=(B7 4).map λj=>t.getD (4 * i+j) 0
def O9(t:List UInt8)(i:Nat):(G0 t i).length=4:=by simp[G0]
def DF(t:A1):List A1:=if inB t.size 1 24 then(B7<|(t.size+3) / 4).map λi=>B (G0 (L t) i) else []
def ava(l:List UInt8):BR (BS (AK 4)<|dfl .u8).length (bI l)++Bo (bI l).length (BS (AK 4)<|dfl .u8)=bI ((B7 4).map λj=>l.getD j 0):=by
 obtain _|⟨a,_|⟨b,_|⟨c,_|⟨d,l⟩⟩⟩⟩:=l
 .rfl
 .rfl
 .rfl
 .rfl
 .rw[Lu y9,CK];rfl
def at5(l:List UInt8)(k:Nat):(B7 4).map (λj=>(l.drop k).getD j 0)=(B7 4).map λj=>l.getD (k+j) 0:=by
 refine Gg ?_;intro j _;rw[B8,B8,Hb]
def axB(s:A1)(k:Nat):L (s.extract k s.size)=(L s).drop k:=by
 rw[EB,K6];rw[EI,Aw];exact Ar _
def yr(t:A1):Vk (t,())=I ((DF t,()),()):=by
 unfold Vk DF;simp only[EM,A6];obtain e|e:=tf (inB t.size 1 24)
 .have h1:=AY.1 e;simp only[e,AA,A4,A2];have h:qO (t,[],0,())=I (.inr ((B7<|(t.size+3) / 4).map λi=>B<|G0 (L t) i,())):=by
   refine Ch (λi=>(t,(B7 i).map λi=>B<|G0 (L t) i,((4 * i:Nat):Int),())) ((t.size+3) / 4) ?_ ?_
   .intro i hi;unfold eB;simp only[show U (((4 * i:Nat):Int)<(t.size:Int))=Y from AQ J,A2];rw[A5<|by rfl,A5 o5,A5<|BD o5];rw[Bf,SL,axB,ava,Sf,at5,Aa J J,ID (n:=i),Ek];rw[show((4 * i:Nat):Int)+4=((4 * (i+1):Nat):Int) by omega];rfl
   .unfold eB;simp only[show U (((4 * ((t.size+3) / 4):Nat):Int)<(t.size:Int))=A0 from B1 J,A4]
  rw[h];simp only[AP,A6];rw[oh o5];rfl
 .simp only[e,AG,A2,A4]
def ar4(t:A1)(o:List A1)(i:Nat)(hi:i<=100):
  qH (t,o,(i:Int),[],w64<|(i:Int) * 4,())=I (.inr (t,o,(i:Int),bI<|G0 (L t) i,())):=by
 rw[Aa J J,show(i:Int) * 4=((4 * i+0:Nat):Int) by omega];refine Ch (λj=>(t,o,(i:Int),bI<|(B7 j).map λm=>(L t).getD (4 * i+m) 0,((4 * i+j:Nat):Int),())) 4 ?_ ?_
 .intro j hj;unfold dR;simp only;rw[Aa (n:=(i:Int)+1) J J,Aa (n:=((i:Int)+1) * 4) J J];rw[A5<|AQ J,Aa (n:=((4 * i+j:Nat):Int)+1) J J];rw[ID,Ek];by_cases h:4 * i+j<t.size
  .rw[A5<|AQ J,A5<|AW h,A5<|BD o5,Jn];simp only[Ek,DO,JM];rfl
  .rw[A9 o5,A5<|BD o5];have:(L t).getD (4 * i+j) 0=0:=by
    rw[B8,Hc (by rw[Aw];omega)];rfl
   simp only[Ek,DO,JM,this];rfl
 .unfold dR;simp only;rw[Aa (n:=(i:Int)+1) J J,Aa (n:=((i:Int)+1) * 4) J J];rw[A9 o5];rfl
def aoC(t:A1):ez (t,())=I ((DF t,()),()):=by
 unfold ez DF;obtain e|e:=tf (inB t.size 1 24)
 .have h1:=AY.1 e;rw[A9 o5,A5 e];have h:qA (t,[],0,())=I (.inr ((B7<|(t.size+3) / 4).map λi=>B<|G0 (L t) i,())):=by
   refine Ch (λi=>(t,(B7 i).map λi=>B<|G0 (L t) i,(i:Int),())) ((t.size+3) / 4) ?_ ?_
   .intro i hi;unfold dS;simp only[ck (n:=(t.size:Int)) J J,A6];rw[HC J,A5<|AQ J,ar4 t _ i J];simp only[AP,A6];rw[A5<|BD o5,Sf,Aa J J,ID,Ek];rfl
   .unfold dS;simp only[ck (n:=(t.size:Int)) J J,A6];rw[HC J,A9 y9]
  rw[h];rfl
 .rw[A5,A9 (by rw[e];exact CM)];by_cases h:(1:Int)<=t.size/\(t.size:Int)<=24
  .rw[AY.2 h]at e;cases e
  .simp;omega
abbrev bsA(l:List A1)(k:Nat):A1:=l.getD k noB
def ON(l:List A1)(k:Nat): @rd A1 aEv l (k:Int)=bsA l k:=rfl
def OB(pre:List Nat)(k:Nat)(post:List Nat): @rd Int aEo (BW<|pre++k::post) (j8 pre:Int)=(k:Int):=by
 rw[OM,BW,Ek,DO,B8,F1 y9];simp
def snoc{α:Type}(pre:List α)(k:α)(post:List α):pre++k::post=(pre++[k])++post:=by simp
def Db{n m:Nat}(h:n<m)(hm:m<=1048576):w64 ((n:Int)+1)=((n+1:Nat):Int):=BI h J
section
variable {bs:List A1} (hbs:∀k,k<bs.length->(bsA bs k).size=4)
include hbs
def as4(post:List Nat):∀(pre:List Nat) (y:A1),pre≠[]->y.size=4->(pre++post).length<=1048576->(∀k∈post,k<bs.length)->
  UR (bs,y,BW<|pre++post,((BW<|pre++post).length:Int),(j8 pre:Int),())=I (.inr (B<|post.foldl (λx k=>C4 x<|L<|bsA bs k)<|L y,())):=by
 induction post with
 | nil=>
  intro pre y _ _ _ _;refine BH ?_;unfold VF;simp only[CK,DL,show U ((j8 pre:Int)<(j8 pre:Int))=A0 from B1 J,A4,K7,B_L]
 | cons k post ih=>
  intro pre y hp hy hl hk;have h1:=hk k Am;have hne:pre.length≠0:=λh=>hp<|Du h;have hlen:pre.length<(BW<|pre++k::post).length:=by simp
  refine Av (x':=(bs,B<|C4 (L y)<|L<|bsA bs k,BW<|pre++k::post,((BW<|pre++k::post).length:Int),((pre++[k]).length:Int),())) ?_ ?_
  .unfold VF;simp only[show U ((j8 pre:Int)<((BW<|pre++k::post).length:Int))=Y from AQ J,A2,AW hlen,OB,show U ((j8 pre:Int)=0)=A0 from B1 J,A4,AW h1,ON,zm hy<|hbs k h1,A6];rw[Db hlen<|by simpa using hl,Aq];rfl
  .have:=ih (pre++[k]) (B<|C4 (L y)<|L<|bsA bs k) y9 (by rw[BP,Pq<|by rw[Aw,Aw,hy,hbs k h1],Aw,hy]) (by rw[← snoc];exact hl) λx hx=>hk x<|Ai k hx;rw[← snoc]at this;exact this
def arZ(post:List Nat):∀(pre:List Nat) (y:A1),y.size=4->(pre++post).length<=1048576->(∀k∈post,k<bs.length)->
  bH (bs,BW<|pre++post,y,(j8 pre:Int),())=I (.inr (B<|post.foldl (λx k=>C4 x<|L<|bsA bs k)<|L y,())):=by
 induction post with
 | nil=>
  intro pre y _ _ _;refine BH ?_;unfold dL;simp only[CK,DL,show U ((j8 pre:Int)<(j8 pre:Int))=A0 from B1 J,A4,K7,B_L]
 | cons k post ih=>
  intro pre y hy hl hk;have h1:=hk k Am;have hlen:pre.length<(BW<|pre++k::post).length:=by simp
  refine Av (x':=(bs,BW<|pre++k::post,B<|C4 (L y)<|L<|bsA bs k,((pre++[k]).length:Int),())) ?_ ?_
  .unfold dL;simp only[show U ((j8 pre:Int)<((BW<|pre++k::post).length:Int))=Y from AQ J,A2,AW hlen,OB,AW h1,ON,zf hy<|hbs k h1,A6];rw[Db hlen<|by simpa using hl,Aq];rfl
  .have:=ih (pre++[k]) (B<|C4 (L y)<|L<|bsA bs k) (by rw[BP,Pq<|by rw[Aw,Aw,hy,hbs k h1],Aw,hy]) (by rw[← snoc];exact hl) λx hx=>hk x<|Ai k hx;rw[← snoc]at this;exact this
end
def Xl{t:A1}{k:Nat}(h:k<(DF t).length):bsA (DF t) k=B (G0 (L t) k):=by
 unfold DF at h ⊢;split
 .rename_i e;rw[A5 e]at h;simp at h;rw[bsA,B8,D5,Gh h];rfl
 .rename_i e;rw[A9 e]at h;cases h
def GH(t:A1)(n:Int):A1:=
 if(Bg (DF t).length n).isEmpty then noB else B (Dn 4 (G0<|L t)<|Bg (DF t).length n)
def aDA{t:A1}{n:Int}{y:List UInt8}{ks:List Nat}(hy:y.length=4)(hk:∀k∈ks,k<(DF t).length):
  ks.foldl (λx k=>C4 x<|L<|bsA (DF t) k) y=C4 y (Dn 4 (G0<|L t) ks):=by
 rw[← kc hy];have:∀(ks:List Nat) (y:List UInt8),(∀k∈ks,k<(DF t).length)->ks.foldl (λx k=>C4 x<|L<|bsA (DF t) k) y=ks.foldl (λx k=>C4 x<|G0 (L t) k) y:=by
  intro ks
  induction ks with
  | nil=>intro _ _;rfl
  | cons k ks ih=>
   intro y h;rw[Dr,Dr,Xl (h k Am),ih _ λx hx=>h x<|Ai k hx];rfl
 exact this ks y hk
def YJ{t:A1}:∀k,k<(DF t).length->(bsA (DF t) k).size=4:=by
 intro k h;rw[Xl h,BP,O9]
def amn(t:A1)(n:Int):eA (t,n,())=I ((GH t n,()),()):=by
 unfold eA GH;simp only[yr,gv,A6];have hk:∀k∈Bg (DF t).length n,k<(DF t).length:=λk h=>by
  have:=LX h;omega
 have hl:=Wb (DF t).length n;revert hk hl;generalize Bg (DF t).length n=ks;intro hk hl;cases ks with
 | nil=>
  rw[show UR (DF t,noB,BW [],((BW []).length:Int),0,())=I (.inr (noB,())) from BH rfl];rfl
 | cons k ks=>
  have h1:=hk k Am;rw[A9 y9];have hlen:0<(BW<|k::ks).length:=by simp
  have hrd: @rd Int aEo (BW<|k::ks) 0=(k:Int):=OB [] k ks;have h:UR (DF t,noB,BW<|k::ks,((BW<|k::ks).length:Int),0,())=I (.inr (B<|Dn 4 (G0<|L t)<|k::ks,())):=by
   refine Av (x':=(DF t,bsA (DF t) k,BW<|[k]++ks,((BW<|[k]++ks).length:Int),(([k]:List Nat).length:Int),())) ?_ ?_
   .unfold VF;simp only[show U ((0:Int)<((BW<|k::ks).length:Int))=Y from AQ J,A2,AW (i:=0) hlen,show inb 0 (BW<|k::ks).length=Y from AW (i:=0) hlen,hrd,show U ((0:Int)=0)=Y from rfl,AW h1,ON];rfl
   .have:=as4 YJ ks [k] (bsA (DF t) k) y9 (YJ k h1) (by simpa using (by simp at hl;omega:ks.length+1<=1048576)) λx hx=>hk x<|Ai k hx;rw[aDA (n:=n) (by rw[Aw];exact YJ k h1) λx hx=>hk x<|Ai k hx,Xl h1]at this;rw[Xl h1];exact this
  rw[h];rfl
def ali(t:A1)(n:Int):de (t,n,())=I ((GH t n,()),()):=by
 unfold de GH;simp only[aoC,zh,A6];have hk:∀k∈Bg (DF t).length n,k<(DF t).length:=λk h=>by
  have:=LX h;omega
 have hl:=Wb (DF t).length n;revert hk hl;generalize Bg (DF t).length n=ks;intro hk hl;cases ks with
 | nil=>rw[A5 y9,A5 y9]
 | cons k ks=>
  have h1:=hk k Am;have hc:(DF t).length≠0:=J
  rw[A9 (by simp;exact⟨λh=>hc (by rw[h];rfl),J⟩),A9 y9,ao8];simp only[A6];have:=arZ (bs:=DF t) YJ (k::ks) [] (B<|nul 4) (by rfl) (by simpa using (by simp at hl;omega:ks.length+1<=1048576)) hk;rw[aDA (n:=n) (by rfl) hk]at this;rw[show bH (DF t,BW<|k::ks,B<|nul 4,0,())=_ from this];simp only[AP,A6];rw[L_B,XI<|Py λx _=>O9 _ x]
end Go.VS
namespace Go.VS
open Go
def unk(kn:List A1)(k:Nat):Bool:=U<|bsA kn k=noB
def DE(kn:List A1)(of:List Nat):List Nat:=of.filter<|unk kn
def ET(kn:List A1)(of:List Nat)(y:List UInt8):List UInt8:=of.foldl (λx k=>if unk kn k then x else C4 x (L<|bsA kn k)) y
def CV(b:Nat)(kn:List A1):Prop:=kn.length=b/\ ∀k,k<b->bsA kn k=noB\/(bsA kn k).size=4
def jL{b:Nat}{kn:List A1}(h:CV b kn):∀ {of:List Nat} {y:List UInt8},y.length=4->(∀k∈of,k<b)->(ET kn of y).length=4
 | [],_,hy,_=>hy
 | k::of,y,hy,hk=>by
  unfold ET;rw[Dr];refine jL (of:=of) h ?_ λx hx=>hk x<|Ai k hx;obtain e|e:=tf (unk kn k)
  .rw[e];exact hy
  .rw[e,A4];obtain h1|h1:=h.2 k (hk k Am)
   .unfold unk at e;exact absurd h1 (It e)
   .rw[Pq<|by rw[hy,Aw,h1],hy]
def abu(d:Int)(l:List Nat):Int:=l.foldl (fun(_:Int) (k:Nat)=>(k:Int)) d
section
variable {b:Nat} {kn:List A1} (hkn:CV b kn)
include hkn
def as5(bi:Int)(list l2:List AN)(ag:Bool)(n i:Int)(post:List Nat):∀(pre:List Nat) (y:A1) (u:Int) (m:Nat),y.size=4->(pre++post).length<=1048576->m<=pre.length->(∀k∈post,k<b)->
  az (bi,list,kn,ag,y,u,(m:Int),l2,n,i,BW<|pre++post,((BW<|pre++post).length:Int),(j8 pre:Int),())=
   I (.inr (bi,list,kn,ag,B<|ET kn post<|L y,abu u<|DE kn post,((m+(DE kn post).length:Nat):Int),l2,n,i,())):=by
 induction post with
 | nil=>
  intro pre y u m _ _ _ _;refine BH ?_;unfold VE;simp only[CK,DL,show U ((j8 pre:Int)<(j8 pre:Int))=A0 from B1 J,A4];show _=I (Sum.inr<|Sum.inr (bi,list,kn,ag,B<|L y,u,(m:Int),l2,n,i,()));rw[B_L]
 | cons k post ih=>
  intro pre y u m hy hl hm hk;have h1:=hk k Am;have hlen:pre.length<(BW<|pre++k::post).length:=by simp
  have hb:k<kn.length:=by rw[hkn.1];exact h1
  have hl2:(pre++[k]++post).length<=1048576:=by rw[← snoc];exact hl
  obtain e|e:=tf (unk kn k)
  .refine Av (x':=(bi,list,kn,ag,y,(k:Int),((m+1:Nat):Int),l2,n,i,BW<|pre++k::post,((BW<|pre++k::post).length:Int),((pre++[k]).length:Int),())) ?_ ?_
   .unfold VE;simp only[show U ((j8 pre:Int)<((BW<|pre++k::post).length:Int))=Y from AQ J,A2,AW hlen,OB,AW hb,ON];rw[A5<|show U (bsA kn k=noB)=Y from e,Db hlen<|by simpa using hl,Aq,Aa (n:=(m:Int)+1) J (by simp at hl;omega)];rfl
   .have:=ih (pre++[k]) y (k:Int) (m+1) hy hl2 o5 λx hx=>hk x<|Ai k hx;rw[← snoc]at this;rw[show DE kn (k::post)=k::DE kn post by unfold DE;rw[K9,e,A5 rfl]];rw[show ET kn (k::post) (L y)=ET kn post (L y) by unfold ET;rw[Dr,e,A5 rfl]];rw[Bl,show m+((DE kn post).length+1)=m+1+(DE kn post).length by omega];exact this
  .have hs:(bsA kn k).size=4:=by
    obtain h2|h2:=hkn.2 k h1
    .exact absurd h2 (It e)
    .exact h2
   refine Av (x':=(bi,list,kn,ag,B<|C4 (L y)<|L<|bsA kn k,u,(m:Int),l2,n,i,BW<|pre++k::post,((BW<|pre++k::post).length:Int),((pre++[k]).length:Int),())) ?_ ?_
   .unfold VE;simp only[show U ((j8 pre:Int)<((BW<|pre++k::post).length:Int))=Y from AQ J,A2,AW hlen,OB,AW hb,ON];rw[A9 (by intro h;unfold unk at e;rw[h]at e;cases e),zm hy hs,Db hlen (by simpa using hl),Aq];rfl
   .have:=ih (pre++[k]) (B<|C4 (L y)<|L<|bsA kn k) u m (by rw[BP,Pq<|by rw[Aw,Aw,hy,hs],Aw,hy]) hl2 o5 λx hx=>hk x<|Ai k hx;rw[← snoc]at this;rw[show DE kn (k::post)=DE kn post by unfold DE;rw[K9,e,A4]];rw[show ET kn (k::post) (L y)=ET kn post (C4 (L y)<|L<|bsA kn k) by unfold ET;rw[Dr,e,A4]];exact this
def ar1(post:List Nat):∀(pre:List Nat) (y:A1) (o:List Nat),y.size=4->(pre++post).length<=1048576->o.length<=pre.length->(∀k∈post,k<b)->
  bO (kn,BW o,y,BW<|pre++post,(j8 pre:Int),())=I (.inr (BW<|o++DE kn post,B<|ET kn post<|L y,())):=by
 induction post with
 | nil=>
  intro pre y o _ _ _ _;refine BH ?_;unfold VR;simp only[CK,DL,show U ((j8 pre:Int)<(j8 pre:Int))=A0 from B1 J,A4];show _=I (Sum.inr<|Sum.inr (BW<|o++[],B<|L y,()));rw[B_L,CK]
 | cons k post ih=>
  intro pre y o hy hl hm hk;have h1:=hk k Am;have hlen:pre.length<(BW<|pre++k::post).length:=by simp
  have hb:k<kn.length:=by rw[hkn.1];exact h1
  have hl2:(pre++[k]++post).length<=1048576:=by rw[← snoc];exact hl
  obtain e|e:=tf (unk kn k)
  .refine Av (x':=(kn,BW<|o++[k],y,BW<|pre++k::post,((pre++[k]).length:Int),())) ?_ ?_
   .unfold VR;simp only[show U ((j8 pre:Int)<((BW<|pre++k::post).length:Int))=Y from AQ J,A2,AW hlen,OB,AW hb,ON];rw[A5<|show U (bsA kn k=noB)=Y from e,A5<|BD (by simp;simp at hl;omega),Db hlen<|by simpa using hl,Aq];simp[BW]
   .have:=ih (pre++[k]) y (o++[k]) hy hl2 o5 λx hx=>hk x<|Ai k hx;rw[← snoc]at this;rw[show DE kn (k::post)=k::DE kn post by unfold DE;rw[K9,e,A5 rfl]];rw[show ET kn (k::post) (L y)=ET kn post (L y) by unfold ET;rw[Dr,e,A5 rfl]];rw[snoc o k<|DE kn post];exact this
  .have hs:(bsA kn k).size=4:=by
    obtain h2|h2:=hkn.2 k h1
    .exact absurd h2 (It e)
    .exact h2
   refine Av (x':=(kn,BW o,B<|C4 (L y)<|L<|bsA kn k,BW<|pre++k::post,((pre++[k]).length:Int),())) ?_ ?_
   .unfold VR;simp only[show U ((j8 pre:Int)<((BW<|pre++k::post).length:Int))=Y from AQ J,A2,AW hlen,OB,AW hb,ON];rw[A9 (by intro h;unfold unk at e;rw[h]at e;cases e),zf hy hs,Db hlen (by simpa using hl),Aq];rfl
   .have:=ih (pre++[k]) (B<|C4 (L y)<|L<|bsA kn k) o (by rw[BP,Pq<|by rw[Aw,Aw,hy,hs],Aw,hy]) hl2 o5 λx hx=>hk x<|Ai k hx;rw[← snoc]at this;rw[show DE kn (k::post)=DE kn post by unfold DE;rw[K9,e,A4]];rw[show ET kn (k::post) (L y)=ET kn post (C4 (L y)<|L<|bsA kn k) by unfold ET;rw[Dr,e,A4]];exact this
end
def FE(b:Nat)(kn:List A1)(m:AN):Option (List A1):=
 if inB m.nu 0 999&&U ((m.da.size:Int)=4) then
  (match DE kn (Bg (b:Int) m.nu) with
   | [u]=>I (kn.set u<|B<|ET kn (Bg (b:Int) m.nu)<|L m.da)
   | _=>G)
 else G
def CF(b:Nat)(s:List A1×Bool)(m:AN):List A1×Bool:=match FE b s.1 m with|some kn=>(kn,Y)|none=>s
def IZ(b:Nat)(list:List AN)(kn:List A1):List A1×Bool:=list.foldl (CF b) (kn,A0)
def Gb(b:Nat)(list:List AN):Nat->List A1->List A1
 | 0,kn=>kn
 | n+1,kn=>if(IZ b list kn).2 then Gb b list n (IZ b list kn).1 else(IZ b list kn).1
def Su{kn:List A1}{u:Nat}(v:A1)(hu:u<kn.length)(k:Nat):bsA (kn.set u v) k=if k=u then v else bsA kn k:=by
 rw[bsA,B8,Oj];by_cases h:u=k
 .subst h;simp[hu]
 .rw[A9 h,A9<|L0 h,← B8]
def aba{f g:Nat->Bool}(h:∀i,g i=Y->f i=Y):∀k,cnt g k<=cnt f k
 | 0=>Ar _
 | k+1=>by
  have:=aba h k;rw[cnt,cnt];obtain e|e:=tf (g k)
  .rw[e,h k e];omega
  .rw[e,A4];omega
def abZ{f g:Nat->Bool}(h:∀i,g i=Y->f i=Y){u:Nat}(hf:f u=Y)(hg:g u=A0):∀k,u<k->cnt g k<cnt f k
 | 0,h=>J
 | k+1,hk=>by
  rw[cnt,cnt];by_cases e:u=k
  .subst e;rw[hf,hg,A5 rfl,A4];have:=aba h u;omega
  .have:=abZ h hf hg k J;obtain e|e:=tf (g k)
   .rw[e,h k e];omega
   .rw[e,A4];omega
def Sp{b:Nat}{kn kn':List A1}{m:AN}(h:CV b kn)(e:FE b kn m=I kn'):
  CV b kn'/\(∀k,unk kn' k=Y->unk kn k=Y)/\cnt (unk kn') b<cnt (unk kn) b:=by
 unfold FE at e;split at e
 .rename_i hc;rw[AD]at hc;have hs:=Bc hc.2;split at e
  .rename_i u hu;injection e with e;subst e;have F8:u∈DE kn (Bg (b:Int) m.nu):=by rw[hu];exact Od u
   obtain⟨h1,h2⟩:=FQ.1 F8;have h3:=LX h1;have hub:u<b:=J
   have hul:u<kn.length:=by rw[h.1];exact hub
   have hlen:(B<|ET kn (Bg (b:Int) m.nu)<|L m.da).size=4:=by
    rw[BP,jL h (by rw[Aw];omega) λk hk=>by have:=LX hk;omega]
   have hno:B (ET kn (Bg (b:Int) m.nu)<|L m.da)≠noB:=by
    intro hh;rw[hh]at hlen;cases hlen
   have acH:∀k,unk (kn.set u<|B<|ET kn (Bg (b:Int) m.nu)<|L m.da) k=Y->unk kn k=Y:=by
    intro k hk;unfold unk at hk;rw[Su _ hul]at hk;by_cases ek:k=u
    .rw[A5 ek]at hk;exact absurd (Bc hk) hno
    .rw[A9 ek]at hk;exact hk
   refine⟨⟨by rw[GP,h.1], ?_⟩,acH,abZ acH h2 ?_ b hub⟩
   .intro k hk;rw[Su _ hul];by_cases ek:k=u
    .rw[A5 ek];exact N8 hlen
    .rw[A9 ek];exact h.2 k hk
   .unfold unk;rw[Su _ hul,A5 rfl];exact B1 hno
  .cases e
 .cases e
def MW{b:Nat}:∀(list:List AN) (s:List A1×Bool),CV b s.1->
  CV b (list.foldl (CF b) s).1/\(∀k,unk (list.foldl (CF b) s).1 k=Y->unk s.1 k=Y)/\cnt (unk (list.foldl (CF b) s).1) b<=cnt (unk s.1) b/\
  ((list.foldl (CF b) s).2=Y->s.2=Y\/cnt (unk (list.foldl (CF b) s).1) b<cnt (unk s.1) b)
 | [],s,h=>⟨h,λ_ hk=>hk,Ar _,λhs=>N9 hs⟩
 | m::list,s,h=>by
  rw[Dr];cases e:FE b s.1 m with
  | none=>
   rw[show CF b s m=s by unfold CF;rw[e]];exact MW list s h
  | some kn=>
   rw[show CF b s m=(kn,Y) by unfold CF;rw[e]];obtain⟨a1,a2,a3⟩:=Sp h e;obtain⟨b1,b2,b3,_⟩:=MW list (kn,Y) a1;have b4:cnt (unk (list.foldl (CF b) (kn,Y)).1) b<=cnt (unk kn) b:=b3;exact⟨b1,λk hk=>a2 k<|b2 k hk,J,λ_=>N8 J⟩
end Go.VS
namespace Go.VS
open Go
def Lo(pre:List AN)(m:AN)(post:List AN): @rd AN aEx (pre++m::post) (j8 pre:Int)=m:=by
 rw[OM,B8,F1<|Ar _];simp
def arw(u:Nat):abu (-1) [u]=(u:Int):=rfl
def aAg{b:Nat}{kn kn':List A1}{m:AN}(ag:Bool)(h:FE b kn m=I kn'):CF b (kn,ag) m=(kn',Y):=by unfold CF;rw[h]
def WC{b:Nat}{kn:List A1}{m:AN}(ag:Bool)(h:FE b kn m=G):CF b (kn,ag) m=(kn,ag):=by unfold CF;rw[h]
def aDE{b:Nat}{kn:List A1}{n:Int}{u:Nat}(h:DE kn (Bg (b:Int) n)=[u]):u<b:=by
 have:u∈DE kn (Bg (b:Int) n):=by rw[h];exact Od u
 have:=LX (FQ.1 this).1;omega
def aqP{b:Nat}(h6:b<=6)(list:List AN)(post:List AN):∀(pre:List AN) (kn:List A1) (ag:Bool),CV b kn->(pre++post).length<=1048576->
  UQ ((b:Int),list,kn,ag,pre++post,((pre++post).length:Int),(j8 pre:Int),())=
   I (.inr ((b:Int),list,(post.foldl (CF b) (kn,ag)).1,(post.foldl (CF b) (kn,ag)).2,())):=by
 induction post with
 | nil=>
  intro pre kn ag _ _;refine BH ?_;unfold Nb;simp only[CK,show U ((j8 pre:Int)<(j8 pre:Int))=A0 from B1 J,A4];rfl
 | cons m post ih=>
  intro pre kn ag hk hl;have hlen:pre.length<(pre++m::post).length:=by simp
  have hw:=Db hlen hl;have nxt:∀(kn':List A1) (ag':Bool),CV b kn'->CF b (kn,ag) m=(kn',ag')->
    Nb ((b:Int),list,kn,ag,pre++m::post,((pre++m::post).length:Int),(j8 pre:Int),())=I (.inl ((b:Int),list,kn',ag',pre++m::post,((pre++m::post).length:Int),((pre.length+1:Nat):Int),()))->
    UQ ((b:Int),list,kn,ag,pre++m::post,((pre++m::post).length:Int),(j8 pre:Int),())=
     I (.inr ((b:Int),list,((m::post).foldl (CF b) (kn,ag)).1,((m::post).foldl (CF b) (kn,ag)).2,())):=by
   intro kn' ag' h1 h2 h3;refine Av h3 ?_;have:=ih (pre++[m]) kn' ag' h1 (by rw[← snoc];exact hl);rw[← snoc,@Aq _ pre [m]]at this;rw[Dr,h2];exact this
  obtain e1|e1:=tf (inB m.nu 0 999)
  .by_cases e2:(m.da.size:Int)=4
   .have hh:FE b kn m=(match DE kn (Bg (b:Int) m.nu) with|[u]=>I (kn.set u<|B<|ET kn (Bg (b:Int) m.nu)<|L m.da)|_=>G):=by
     unfold FE;rw[A5<|by rw[e1,AQ e2]<;>rfl]<;>rfl
    have hlo:(Bg (b:Int) m.nu).length<=1048576:=CP (Wb _ _) J;have hi:=as5 hk (b:Int) list (pre++m::post) ag ((pre++m::post).length:Int) (j8 pre:Int) (Bg (b:Int) m.nu) [] m.da (-1) 0 J hlo (Ar _) λk h=>by have:=LX h;omega
    have hi2:az ((b:Int),list,kn,ag,m.da,-1,0,pre++m::post,((pre++m::post).length:Int),(j8 pre:Int),BW<|Bg (b:Int) m.nu,((BW<|Bg (b:Int) m.nu).length:Int),0,())=_:=hi;by_cases e3:(DE kn<|Bg (b:Int) m.nu).length=1
    .obtain⟨u,hu⟩:=aBL.1 e3;rw[hu]at hh;have hub:=aDE hu;refine nxt _ Y (Sp hk hh).1 (aAg ag hh) ?_;unfold Nb;simp only[show U ((j8 pre:Int)<((pre++m::post).length:Int))=Y from AQ J,A2,AW hlen,Lo,EM,A6,e1,e2,AA,AT,EY,A4,gv,hi2,hu];simp only[AP,A6,arw,AW (show u<kn.length by rw[hk.1];exact hub),A2,Bf,hw];rfl
    .have hn:FE b kn m=G:=by
      rw[hh];split
      .rename_i u hu;rw[hu]at e3;exact absurd rfl e3
      .rfl
     refine nxt kn ag hk (WC ag hn) ?_;unfold Nb;simp only[show U ((j8 pre:Int)<((pre++m::post).length:Int))=Y from AQ J,A2,AW hlen,Lo,EM,A6,e1,e2,AA,AT,EY,A4,gv,hi2];simp only[AP,A6,DZ,show U (((DE kn<|Bg (b:Int) m.nu).length:Int)=1)=A0 from B1 J,A4,hw]
   .have hn:FE b kn m=G:=by
     unfold FE;rw[A9 (by rw[B1 e2,BY];exact CM)]
    refine nxt kn ag hk (WC ag hn) ?_;unfold Nb;simp only[show U ((j8 pre:Int)<((pre++m::post).length:Int))=Y from AQ J,A2,AW hlen,Lo,EM,A6,B1 e2,AG,DN,hw]
  .have hn:FE b kn m=G:=by
    unfold FE;rw[A9 (by rw[e1,AM];exact CM)]
   refine nxt kn ag hk (WC ag hn) ?_;unfold Nb;simp only[show U ((j8 pre:Int)<((pre++m::post).length:Int))=Y from AQ J,A2,AW hlen,Lo,EM,A6,e1,AG,Bt,hw]
def lr{b:Nat}(h0:0<b)(h6:b<=6)(n:Int):Dm (b:Int) n=inB n 0 999:=by
 unfold Dm;rw[AY.2 J,AR]
def ao9{b:Nat}{kn:List A1}(hk:CV b kn)(n:Int){d:A1}(hd:d.size=4):
  eX ((b:Int),(n,d,()),kn,())=I ((BW<|DE kn<|Bg (b:Int) n,B<|ET kn (Bg (b:Int) n)<|L d,()),()):=by
 unfold eX;simp only[zh,A6];have hlo:(Bg (b:Int) n).length<=1048576:=CP (Wb _ _) J;have hi:=ar1 hk (Bg (b:Int) n) [] d [] hd hlo (Ar _) λk h=>by have:=LX h;omega
 have hi2:bO (kn,[],d,BW<|Bg (b:Int) n,0,())=_:=hi;rw[hi2];rfl
def s9(b n:Int)(d:A1):Re (b,(n,d,()),())=I ((Dm b n&&U ((d.size:Int)=4),()),()):=by
 unfold Re;simp only[WH,A6]
def apr{b:Nat}(h0:0<b)(h6:b<=6)(post:List AN):∀(pre:List AN) (kn:List A1) (ag:Bool),CV b kn->(pre++post).length<=1048576->
  UL ((b:Int),pre++post,kn,ag,(j8 pre:Int),())=
   I (.inr ((b:Int),pre++post,(post.foldl (CF b) (kn,ag)).1,(post.foldl (CF b) (kn,ag)).2,())):=by
 induction post with
 | nil=>
  intro pre kn ag _ _;refine BH ?_;unfold PL;simp only[CK,show U ((j8 pre:Int)<(j8 pre:Int))=A0 from B1 J,A4];rfl
 | cons m post ih=>
  intro pre kn ag hk hl;have hlen:pre.length<(pre++m::post).length:=by simp
  have hw:=Db hlen hl;have nxt:∀(kn':List A1) (ag':Bool),CV b kn'->CF b (kn,ag) m=(kn',ag')->
    PL ((b:Int),pre++m::post,kn,ag,(j8 pre:Int),())=I (.inl ((b:Int),pre++m::post,kn',ag',((pre.length+1:Nat):Int),()))->
    UL ((b:Int),pre++m::post,kn,ag,(j8 pre:Int),())=
     I (.inr ((b:Int),pre++m::post,((m::post).foldl (CF b) (kn,ag)).1,((m::post).foldl (CF b) (kn,ag)).2,())):=by
   intro kn' ag' h1 h2 h3;refine Av h3 ?_;have:=ih (pre++[m]) kn' ag' h1 (by rw[← snoc];exact hl);rw[← snoc,@Aq _ pre [m]]at this;rw[Dr,h2];exact this
  obtain e|e:=tf (inB m.nu 0 999&&U ((m.da.size:Int)=4))
  .have e':=e;rw[AD]at e';have e2:=Bc e'.2;have hh:FE b kn m=(match DE kn (Bg (b:Int) m.nu) with|[u]=>I (kn.set u<|B<|ET kn (Bg (b:Int) m.nu)<|L m.da)|_=>G):=by
    unfold FE;rw[A5 e]<;>rfl
   have hL:=ao9 hk m.nu (d:=m.da) J;by_cases e3:(DE kn<|Bg (b:Int) m.nu).length=1
   .obtain⟨u,hu⟩:=aBL.1 e3;rw[hu]at hh;have hub:=aDE hu;refine nxt _ Y (Sp hk hh).1 (aAg ag hh) ?_;unfold PL;simp only[show U ((j8 pre:Int)<((pre++m::post).length:Int))=Y from AQ J,A2,AW hlen,Lo,s9,lr h0 h6,A6,e,AA,A4,hL,hu];rw[A5<|by rfl,A5<|by rfl,show @rd Int aEo (BW [u]) 0=(u:Int) from rfl,A5<|AW (show u<kn.length by rw[hk.1];exact hub),hw];rfl
   .have hn:FE b kn m=G:=by
     rw[hh];split
     .rename_i u hu;rw[hu]at e3;exact absurd rfl e3
     .rfl
    refine nxt kn ag hk (WC ag hn) ?_;unfold PL;simp only[show U ((j8 pre:Int)<((pre++m::post).length:Int))=Y from AQ J,A2,AW hlen,Lo,s9,lr h0 h6,A6,e,AA,A4,hL,DL,
     show U (((DE kn<|Bg (b:Int) m.nu).length:Int)=1)=A0 from B1 J,hw]
  .have hn:FE b kn m=G:=by
    unfold FE;rw[A9 (by rw[e];exact CM)]
   refine nxt kn ag hk (WC ag hn) ?_;unfold PL;simp only[show U ((j8 pre:Int)<((pre++m::post).length:Int))=Y from AQ J,A2,AW hlen,Lo,s9,lr h0 h6,A6,e,AG,hw]
def aBz{b:Nat}(h6:b<=6)(list:List AN)(hl:list.length<=1048576):∀(n:Nat) (kn:List A1),CV b kn->cnt (unk kn) b<n->
  pj ((b:Int),list,kn,Y,())=I (.inr (Gb b list n kn,()))
 | 0,_,_,h=>J
 | n+1,kn,hk,h=>by
  have hr:=aqP h6 list list [] kn A0 hk hl;have hr2:UQ ((b:Int),list,kn,A0,list,(list.length:Int),0,())=I (.inr ((b:Int),list,(IZ b list kn).1,(IZ b list kn).2,())):=hr;obtain⟨g1,g2,g3,g4⟩:=MW list (kn,A0) hk;refine Av (x':=((b:Int),list,(IZ b list kn).1,(IZ b list kn).2,())) ?_ ?_
  .unfold rS;simp only[A2,hr2];rfl
  .rw[Gb];obtain e|e:=tf (IZ b list kn).2
   .rw[e,A5 rfl];obtain g|g:=g4 e
    .cases g
    .exact aBz h6 list hl n _ g1 (Gj g<|Nat.le_of_lt_succ h)
   .rw[e,A4];exact BH rfl
def aBU{b:Nat}(h0:0<b)(h6:b<=6)(list:List AN)(hl:list.length<=1048576):∀(n:Nat) (kn:List A1),CV b kn->cnt (unk kn) b<n->
  pa ((b:Int),list,kn,Y,())=I (.inr (Gb b list n kn,()))
 | 0,_,_,h=>J
 | n+1,kn,hk,h=>by
  have hr:=apr h0 h6 list [] kn A0 hk hl;have hr2:UL ((b:Int),list,kn,A0,0,())=I (.inr ((b:Int),list,(IZ b list kn).1,(IZ b list kn).2,())):=hr;obtain⟨g1,g2,g3,g4⟩:=MW list (kn,A0) hk;refine Av (x':=((b:Int),list,(IZ b list kn).1,(IZ b list kn).2,())) ?_ ?_
  .unfold rN;simp only[A2,hr2];rfl
  .rw[Gb];obtain e|e:=tf (IZ b list kn).2
   .rw[e,A5 rfl];obtain g|g:=g4 e
    .cases g
    .exact aBU h0 h6 list hl n _ g1 (Gj g<|Nat.le_of_lt_succ h)
   .rw[e,A4];exact BH rfl
def mM(f:Nat->Bool):∀k,cnt f k<=k
 | 0=>Ar _
 | k+1=>by
  have:=mM f k;rw[cnt];split<;>omega
def CV.new(b:Nat):CV b (BS b noB):=by
 refine⟨by simp,λk hk=>N9 ?_⟩;rw[bsA,B8,YQ,A5 hk];rfl
def Hy(b:Int)(list:List AN):List A1:=if inB b 1 6 then Gb b.toNat list 7 (BS b.toNat noB) else []
def amm(b:Int)(list:List AN)(hl:list.length<=1048576):dz (b,list,())=I ((Hy b list,()),()):=by
 unfold dz Hy;simp only[EM,A6];obtain e|e:=tf (inB b 1 6)
 .have h1:=AY.1 e;simp only[e,AA,A4,A2];rw[A5 o5];have:=aBz (b:=b.toNat) J list hl 7 _ (CV.new _) (by have:=mM (unk<|BS b.toNat noB) b.toNat;omega);rw[show((b.toNat:Nat):Int)=b by omega]at this;rw[show(dfl .str:A1)=noB from rfl,this];rfl
 .simp only[e,AG,A2,A4]
def alh(b:Int)(list:List AN)(hl:list.length<=1048576):dd (b,list,())=I ((Hy b list,()),()):=by
 unfold dd Hy;simp only[Hn,A6];obtain e|e:=tf (inB b 1 6)
 .have h1:=AY.1 e;simp only[e,AA,A4,A2];rw[A5 o5];have:=aBU (b:=b.toNat) J J list hl 7 _ (CV.new _) (by have:=mM (unk<|BS b.toNat noB) b.toNat;omega);rw[show((b.toNat:Nat):Int)=b by omega]at this;rw[show(dfl .str:A1)=noB from rfl,this];rfl
 .simp only[e,AG,A2,A4]
def G2:List A1->A1->Option A1
 | [],a=>I a
 | x::r,a=>if x=noB then G else G2 r (a++x)
def X3:∀ {l:List A1} {a c:A1},(∀x∈l,x=noB\/x.size=4)->G2 l a=I c->c.size=a.size+4 * l.length
 | [],a,c,_,h=>by
  injection h with h;rw[h];rfl
 | x::r,a,c,hx,h=>by
  unfold G2 at h;split at h
  .cases h
  .rename_i hne;rw[X3 (λy hy=>hx y<|Ai x hy) h,Bz,Bl];obtain h1|h1:=hx x Am
   .exact absurd h1 hne
   .omega
def Ms(pre:List A1)(x:A1)(post:List A1): @rd A1 aEv (pre++x::post) (j8 pre:Int)=x:=by
 rw[OM,B8,F1<|Ar _];simp
abbrev ZV(s:Int)(o:Option A1):(A1×Bool×D) ⊕ (Int×A1×D):=match o with|none=> .inl (noB,A0,())|some c=> .inr (s,c,())
def aue(s:Int)(post:List A1):∀(pre:List A1) (a:A1),(pre++post).length<=1048576->(∀x∈post,x.size<=4)->a.size<=4 * pre.length->
  ay (s,a,pre++post,((pre++post).length:Int),(j8 pre:Int),())=I (ZV s<|G2 post a):=by
 induction post with
 | nil=>
  intro pre a _ _ _;refine BH ?_;unfold VD;simp only[CK,show U ((j8 pre:Int)<(j8 pre:Int))=A0 from B1 J,A4];rfl
 | cons x post ih=>
  intro pre a hl hx ha;have hlen:pre.length<(pre++x::post).length:=by simp
  have hw:=Db hlen hl;have hx4:=hx x Am;by_cases e:x=noB
  .refine BH ?_;unfold VD G2;simp only[show U ((j8 pre:Int)<((pre++x::post).length:Int))=Y from AQ J,A2,AW hlen,Ms];rw[A5<|AQ e,A5 e]
  .refine Av (x':=(s,a++x,pre++x::post,((pre++x::post).length:Int),((pre++[x]).length:Int),())) ?_ ?_
   .unfold VD;simp only[show U ((j8 pre:Int)<((pre++x::post).length:Int))=Y from AQ J,A2,AW hlen,Ms];rw[A9 (by rw[B1 e];exact CM),A5<|AQ (by simp at hl;omega),hw,@Aq _ pre [x]];rfl
   .have:=ih (pre++[x]) (a++x) (by rw[← snoc];exact hl) (λy hy=>hx y<|Ai x hy) (by rw[Bz,Aq,JJ];omega);rw[← snoc]at this;rw[show G2 (x::post) a=G2 post (a++x) from A9 e];exact this
def asj(s:Int)(post:List A1):∀(pre:List A1) (a:A1),(pre++post).length<=1048576->(∀x∈post,x.size<=4)->a.size<=4 * pre.length->
  bG (s,pre++post,a,(j8 pre:Int),())=I (ZV s<|G2 post a):=by
 induction post with
 | nil=>
  intro pre a _ _ _;refine BH ?_;unfold V6;simp only[CK,show U ((j8 pre:Int)<(j8 pre:Int))=A0 from B1 J,A4];rfl
 | cons x post ih=>
  intro pre a hl hx ha;have hlen:pre.length<(pre++x::post).length:=by simp
  have hw:=Db hlen hl;have hx4:=hx x Am;by_cases e:x=noB
  .refine BH ?_;unfold V6 G2;simp only[show U ((j8 pre:Int)<((pre++x::post).length:Int))=Y from AQ J,A2,AW hlen,Ms];rw[A5<|AQ e,A5 e]
  .refine Av (x':=(s,pre++x::post,a++x,((pre++[x]).length:Int),())) ?_ ?_
   .unfold V6;simp only[show U ((j8 pre:Int)<((pre++x::post).length:Int))=Y from AQ J,A2,AW hlen,Ms];rw[A9 (by rw[B1 e];exact CM),A5<|AQ (by simp at hl;omega),hw,@Aq _ pre [x]];rfl
   .have:=ih (pre++[x]) (a++x) (by rw[← snoc];exact hl) (λy hy=>hx y<|Ai x hy) (by rw[Bz,Aq,JJ];omega);rw[← snoc]at this;rw[show G2 (x::post) a=G2 post (a++x) from A9 e];exact this
def Mq(c:A1)(s:Nat):Bool:=BK (c.size - s) λi=>U<|bt c ((s+i:Nat):Int)=0
def as1{c:A1}{s:Nat}(h:s<=c.size)(hc:c.size<=1048576):ph ((s:Int),c,(s:Int),())=I (if Mq c s then .inr ((s:Int),c,()) else .inl (noB,A0,())):=by
 refine Dv (λi=>((s:Int),c,((s+i:Nat):Int),())) (c.size - s) _ _ _ ?_ ?_
 .intro i hi;unfold cg;simp only[show U (((s+i:Nat):Int)<(c.size:Int))=Y from AQ J,A2,AW (J:s+i<c.size)];rw[Aa J J];obtain e|e:=tf (U<|bt c ((s+i:Nat):Int)=0)
  .simp only[e,AA,A4,A2];rfl
  .simp only[e,AG,A4,A2]
 .unfold cg;simp only[show U (((s+(c.size - s):Nat):Int)<(c.size:Int))=A0 from B1 J,A4]
def arV{c:A1}{s:Nat}(h:s<=c.size)(hc:c.size<=1048576):pZ ((s:Int),c,(s:Int),())=I (if Mq c s then .inr ((s:Int),c,()) else .inl (noB,A0,())):=by
 refine Dv (λi=>((s:Int),c,((s+i:Nat):Int),())) (c.size - s) _ _ _ ?_ ?_
 .intro i hi;unfold dK;simp only[show U (((s+i:Nat):Int)<(c.size:Int))=Y from AQ J,A2,AW (J:s+i<c.size)];rw[Aa J J];obtain e|e:=tf (U<|bt c ((s+i:Nat):Int)=0)
  .simp only[e,AA,A4,A2];rfl
  .simp only[e,AG,A4,A2]
 .unfold dK;simp only[show U (((s+(c.size - s):Nat):Int)<(c.size:Int))=A0 from B1 J,A4]
def XX{b:Nat}(list:List AN):∀(n:Nat) (kn:List A1),CV b kn->CV b (Gb b list n kn)
 | 0,_,h=>h
 | n+1,kn,h=>by
  have:=(MW list (kn,A0) h).1;unfold Gb;split
  .exact XX list n _ this
  .exact this
def CV.all{b:Nat}{kn:List A1}(h:CV b kn):∀x∈kn,x=noB\/x.size=4:=by
 intro x hx;obtain⟨k,hk,rfl⟩:=YO.1 hx;have:=h.2 k (by rw[← h.1];exact hk);rw[bsA,B8,Au hk]at this;exact this
def jq{b:Int}(hb:inB b 1 6=Y)(list:List AN):CV b.toNat (Hy b list):=by
 unfold Hy;rw[A5 hb];exact XX list 7 _<|CV.new _
def CV.le{b:Nat}{kn:List A1}(h:CV b kn):∀x∈kn,x.size<=4:=by
 intro x hx;obtain h1|h1:=h.all x hx
 .rw[h1];exact Cz _
 .omega
def FA(s:Int)(list:List AN):A1×Bool:=
 if inB s 1 24 then(match G2 (Hy (Ay (s+3) 4) list) noB with
  | none=>(noB,A0)
  | some c=>if Mq c s.toNat then(c.extract 0 s.toNat,Y) else(noB,A0)) else(noB,A0)
def aAG(s:Int)(hs:0<=s)(c:A1)(hc:s<=c.size)(b:Bool):
  AP (I<|if b then(.inr (s,c,()):(A1×Bool×D) ⊕ (Int×A1×D)) else .inl (noB,A0,())) (λy=>I (y,()))
   (λy=>if(U (0<=y.1)&&U (y.1<=(y.2.1.size:Int))) then I ((y.2.1.extract 0<|AK y.1,Y,()),()) else G)=
   I (((if b then(c.extract 0 s.toNat,Y) else(noB,A0)).1,(if b then(c.extract 0 s.toNat,Y) else(noB,A0)).2,()),()):=by
 cases b
 .rfl
 .show(if(U (0<=s)&&U (s<=(c.size:Int))) then _ else _)=_;rw[A5 o5];rfl
def aml(s:Int)(list:List AN)(hl:list.length<=1048576):dy (s,list,())=I (((FA s list).1,(FA s list).2,()),()):=by
 unfold dy FA;simp only[EM,A6];obtain e|e:=tf (inB s 1 24)
 .have h1:=AY.1 e;have hd:Ay (s+3) 4=(s+3) / 4:=HC J;simp only[e,AA,A4,A2];rw[Aa (n:=s+4) J J,Aa (n:=s+4 - 1) J J,show s+4 - 1=s+3 by omega,Aa J J,amm _ _ hl];simp only[A6];have hb:inB (Ay (s+3) 4) 1 6=Y:=AY.2 J;have hk:=jq hb list;have oJ:=aue s (Hy (Ay (s+3) 4) list) [] noB (by rw[Eb,hk.1];omega) (CV.le hk)<|Ar _;have nU:ay (s,noB,Hy (Ay (s+3) 4) list,((Hy (Ay (s+3) 4) list).length:Int),0,())=_:=oJ;rw[nU];cases hc:G2 (Hy (Ay (s+3) 4) list) noB with
  | none=>rfl
  | some c=>
   have hz:=X3 hk.all hc;have hz0:noB.size=0:=rfl;rw[hk.1,hz0]at hz;have hzero:=as1 (c:=c) (s:=s.toNat) J J;rw[show((s.toNat:Nat):Int)=s by omega]at hzero;simp only[AP,A6,ZV];rw[hzero];exact aAG s J c J _
 .simp only[e,AG,A2,A4]
def alg(s:Int)(list:List AN)(hl:list.length<=1048576):db (s,list,())=I (((FA s list).1,(FA s list).2,()),()):=by
 unfold db FA;simp only[Hn,A6];obtain e|e:=tf (inB s 1 24)
 .have h1:=AY.1 e;have hd:Ay (s+3) 4=(s+3) / 4:=HC J;simp only[e,AA,A4,A2,ck (n:=s) J J,A6];rw[alh _ _ hl];simp only[A6];have hb:inB (Ay (s+3) 4) 1 6=Y:=AY.2 J;have hk:=jq hb list;have oJ:=asj s (Hy (Ay (s+3) 4) list) [] noB (by rw[Eb,hk.1];omega) (CV.le hk)<|Ar _;have nU:bG (s,Hy (Ay (s+3) 4) list,noB,0,())=_:=oJ;rw[nU];cases hc:G2 (Hy (Ay (s+3) 4) list) noB with
  | none=>rfl
  | some c=>
   have hz:=X3 hk.all hc;have hz0:noB.size=0:=rfl;rw[hk.1,hz0]at hz;have hzero:=arV (c:=c) (s:=s.toNat) J J;rw[show((s.toNat:Nat):Int)=s by omega]at hzero;simp only[AP,A6,ZV];rw[hzero];exact aAG s J c J _
 .simp only[e,AG,A2,A4]
abbrev tF(f:Frame):Int×Int×Int×Int×Int×Int×Int×Int×Int×A1×D:=(f.ki,f.src,f.dst,f.fr,f.nu,f.to,f.un,f.sz,f.mix,f.da,())
def Jl(f:Frame):Bool:=
 if U (f.ki=1) then inB f.sz 1 24&&(inB f.mix 0 999&&(U ((f.da.size:Int)=4)&&U (f.dst=Br f.src f.to)))
 else(U (f.ki=2)||decide (f.ki=3))&&(U (f.sz=0)&&(U (f.mix=0)&&(U (f.da=noB)&&U (f.src=Br f.dst f.to))))
def By(f:Frame):Bool:=isN f.src&&(isN f.dst&&(isN f.fr&&(isN f.to&&(inB f.nu 1 99&&(inB f.un 1 999&&Jl f)))))
def yK(f:Frame):VM (tF f,())=I ((By f,()),()):=by
 obtain⟨ki,src,dst,fr,nu,t',un,sz,mix,da⟩:=f;unfold VM By;simp only[Je,EM,A6];obtain e|e:=tf (isN src)<;>simp only[e,AA,AG,A2,A4,AR,AM];obtain e|e:=tf (isN dst)<;>simp only[e,AA,AG,A2,A4,AR,AM];obtain e|e:=tf (isN fr)<;>simp only[e,AA,AG,A2,A4,AR,AM];obtain e|e:=tf (isN t')<;>simp only[e,AA,AG,A2,A4,AR,AM];obtain e|e:=tf (inB nu 1 99)<;>simp only[e,AA,AG,A2,A4,AR,AM];obtain e|e:=tf (inB un 1 999)<;>simp only[e,AA,AG,A2,A4,AR,AM];unfold Jl;simp only[wb,Dt,Df,IM,A2];obtain e|e:=tfp (ki=1)<;>simp only[e,AT,Ae,A2,A4]
 .rcases tf (inB sz 1 24) with e|e<;>simp only[e,A2,A4,AR,AM];obtain e|e:=tf (inB mix 0 999)<;>simp only[e,A2,A4,AR,AM]
 .rcases tfp (ki=2) with e|e<;>simp only[e,AT,Ae,A2,A4,Bd,Bt,Bq,AR]
  .rcases tfp (sz=0) with e|e<;>simp only[e,AT,Ae,A2,A4,AR,AM];obtain e|e:=tfp (mix=0)<;>simp only[e,AT,Ae,A2,A4,AR,AM]
  .rcases tfp (ki=3) with e|e<;>simp only[e,AT,Ae,A2,A4,AR,AM];obtain e|e:=tfp (sz=0)<;>simp only[e,AT,Ae,A2,A4,AR,AM];obtain e|e:=tfp (mix=0)<;>simp only[e,AT,Ae,A2,A4,AR,AM]
def awu{ki:Int}(h1:(ki=1)=False):inB ki 1 3=(U (ki=2)||decide (ki=3)):=by
 have h1:ki≠1:=of_eq_false h1;rw[OZ,AY,C0,decide_eq_true_iff,decide_eq_true_iff];omega
def xc(f:Frame):VW (tF f,())=I ((By f,()),()):=by
 obtain⟨ki,src,dst,fr,nu,t',un,sz,mix,da⟩:=f;unfold VW By;simp only[Jd,Hn,A6];have hk:inB ki 1 3=(U (ki=1)||(U (ki=2)||decide (ki=3))):=by
  obtain e|e:=tfp (ki=1)
  .have:ki=1:=of_eq_true e;subst this;rfl
  .rw[awu e];simp only[e,Ae,Bq]
 rw[hk];unfold Jl;obtain e0|e0:=tfp (ki=1)<;>simp only[e0,AT,Ae,Bt,Bq,AA,AG,A2,A4]
 .rcases tf (isN src) with e|e<;>simp only[e,AA,AG,A2,A4,AR,AM];obtain e|e:=tf (isN dst)<;>simp only[e,AA,AG,A2,A4,AR,AM];obtain e|e:=tf (isN fr)<;>simp only[e,AA,AG,A2,A4,AR,AM];obtain e|e:=tf (isN t')<;>simp only[e,AA,AG,A2,A4,AR,AM];obtain e|e:=tf (inB nu 1 99)<;>simp only[e,AA,AG,A2,A4,AR,AM];obtain e|e:=tf (inB un 1 999)<;>simp only[e,AA,AG,A2,A4,AR,AM];simp only[rM,A6];rw[show U (Br src t'=dst)=U (dst=Br src t') from decide_eq_decide.2 eq_comm];obtain e|e:=tf (inB sz 1 24)<;>obtain e1|e1:=tf (inB mix 0 999)<;>obtain e2|e2:=tf (U<|(da.size:Int)=4)<;>obtain e3|e3:=tfp (dst=Br src t')<;>simp only[e,e1,e2,e3,AT,Ae,A2,A4,AR,AM,EZ,BY]
 .rcases tf (U (ki=2)||decide (ki=3)) with e9|e9<;>simp only[e9,AA,AG,A2,A4,AR,AM,BY];obtain e|e:=tf (isN src)<;>simp only[e,AA,AG,A2,A4,AR,AM];obtain e|e:=tf (isN dst)<;>simp only[e,AA,AG,A2,A4,AR,AM];obtain e|e:=tf (isN fr)<;>simp only[e,AA,AG,A2,A4,AR,AM];obtain e|e:=tf (isN t')<;>simp only[e,AA,AG,A2,A4,AR,AM];obtain e|e:=tf (inB nu 1 99)<;>simp only[e,AA,AG,A2,A4,AR,AM];obtain e|e:=tf (inB un 1 999)<;>simp only[e,AA,AG,A2,A4,AR,AM];simp only[rM,A6];rw[show U (Br dst t'=src)=U (src=Br dst t') from decide_eq_decide.2 eq_comm];obtain e|e:=tfp (sz=0)<;>obtain e1|e1:=tfp (mix=0)<;>obtain e2|e2:=tfp (da=noB)<;>obtain e3|e3:=tfp (src=Br dst t')<;>simp only[e,e1,e2,e3,AT,Ae,A2,A4,AR,AM,EZ,BY]
def BOk(l:List Int):Prop:=∀x∈l,0<=x/\x<=255
def BOk.rd{l:List Int}(h:BOk l)(i:Int):0<= @rd Int aEt l i/\ @rd Int aEt l i<=255:=by
 show 0<=l.getD i.toNat 0/\l.getD i.toNat 0<=255;rw[B8];cases e:l[i.toNat]? with
 | none=>exact⟨by decide,by decide⟩
 | some x=>exact h x<|Cl e
def BOk.str(s:A1):BOk (BA s):=by
 intro x hx;obtain⟨b,_,rfl⟩:=Bv.1 hx;have:=b.toNat_lt;omega
def BOk.app{a b:List Int}(ha:BOk a)(hb:BOk b):BOk (a++b):=by
 intro x hx;obtain h|h:=BL.1 hx
 .exact ha x h
 .exact hb x h
def awa(n:Int):0<=w8 n/\w8 n<=255:=by
 rw[Mr];omega
def BOk.nil:BOk []:=λx hx=>by cases hx
def BOk.cons(n:Int){l:List Int}(h:BOk l):BOk (w8 n::l):=by
 intro x hx;obtain h1|h1:=Bm.1 hx
 .rw[h1];exact awa n
 .exact h x h1
def FD:List Int->Nat->Int->Int
 | [],_,n=>n
 | x::r,i,n=>FD r (i+1) (BJ (n+x * ((i % 1000:Nat)+1)) 65521)
def kG:∀ {l:List Int} {i:Nat} {n:Int},BOk l->0<=n->n<65521->0<=FD l i n/\FD l i n<65521
 | [],_,_,_,h0,h1=>⟨h0,h1⟩
 | x::r,i,n,hb,h0,h1=>by
  have hx:=hb x Am;have hp:0<=x * ((i % 1000:Nat)+1:Int):=Yd hx.1 J;unfold FD;rw[Kq J];exact kG (λy hy=>hb y<|Ai x hy) J J
def aaF{x:Int}(i:Nat)(h:0<=x/\x<=255):0<=x * ((i % 1000:Nat)+1:Int)/\x * ((i % 1000:Nat)+1:Int)<=255000:=by
 refine⟨Yd h.1 J, ?_⟩;have h1:x * ((i % 1000:Nat)+1:Int)<=255 * ((i % 1000:Nat)+1:Int):=YV h.2 J;omega
def abm(pre:List Int)(x:Int)(post:List Int): @rd Int aEt (pre++x::post) (j8 pre:Int)=x:=by
 rw[OM,B8,F1<|Ar _];simp
def as6(post:List Int):∀(pre:List Int) (n:Int),BOk post->0<=n->n<65521->(pre++post).length<=1048576->
  ai (n,pre++post,((pre++post).length:Int),(j8 pre:Int),())=I (.inr (FD post pre.length n,())):=by
 induction post with
 | nil=>
  intro pre n _ _ _ _;refine BH ?_;unfold bk;simp only[CK,show U ((j8 pre:Int)<(j8 pre:Int))=A0 from B1 J,A4];rfl
 | cons x post ih=>
  intro pre n hb h0 h1 hl;have hlen:pre.length<(pre++x::post).length:=by simp
  have hw:=Db hlen hl;have hx:=hb x Am;have hm:=aaF pre.length hx;have ht:BJ (j8 pre:Int) 1000=((pre.length % 1000:Nat):Int):=rfl;refine Av (x':=(BJ (n+x * ((pre.length % 1000:Nat)+1)) 65521,pre++x::post,((pre++x::post).length:Int),((pre++[x]).length:Int),())) ?_ ?_
  .unfold bk;simp only[show U ((j8 pre:Int)<((pre++x::post).length:Int))=Y from AQ J,A2,AW hlen,abm,ht];rw[Aa (n:=x) J J,Aa (n:=((pre.length % 1000:Nat):Int)+1) J J,Aa (n:=x * _) J J,Aa (n:=n+_) J J,hw,@Aq _ pre [x]];rfl
  .have hr:0<=BJ (n+x * ((pre.length % 1000:Nat)+1)) 65521/\BJ (n+x * ((pre.length % 1000:Nat)+1)) 65521<65521:=by
    rw[Kq J];omega
   have:=ih (pre++[x]) _ (λy hy=>hb y<|Ai x hy) hr.1 hr.2 (by rw[← snoc];exact hl);rw[← snoc]at this;rw[FD];rw[show(pre++[x]).length=pre.length+1 by simp]at this ⊢;exact this
def ar2(post:List Int):∀(pre:List Int) (n:Int),BOk post->0<=n->n<65521->(pre++post).length<=1048576->
  aZ (pre++post,n,(j8 pre:Int),())=I (.inr (FD post pre.length n,())):=by
 induction post with
 | nil=>
  intro pre n _ _ _ _;refine BH ?_;unfold c8;simp only[CK,show U ((j8 pre:Int)<(j8 pre:Int))=A0 from B1 J,A4];rfl
 | cons x post ih=>
  intro pre n hb h0 h1 hl;have hlen:pre.length<(pre++x::post).length:=by simp
  have hw:=Db hlen hl;have hx:=hb x Am;have hm:=aaF pre.length hx;have ht:BJ (j8 pre:Int) 1000=((pre.length % 1000:Nat):Int):=rfl;refine Av (x':=(pre++x::post,BJ (n+x * ((pre.length % 1000:Nat)+1)) 65521,((pre++[x]).length:Int),())) ?_ ?_
  .unfold c8;simp only[show U ((j8 pre:Int)<((pre++x::post).length:Int))=Y from AQ J,A2,AW hlen,abm,ht];rw[Aa (n:=x) J J,Aa (n:=((pre.length % 1000:Nat):Int)+1) J J,QK _ x,Aa (n:=x * _) J J,Aa (n:=n+_) J J,hw,@Aq _ pre [x]];rfl
  .have hr:0<=BJ (n+x * ((pre.length % 1000:Nat)+1)) 65521/\BJ (n+x * ((pre.length % 1000:Nat)+1)) 65521<65521:=by
    rw[Kq J];omega
   have:=ih (pre++[x]) _ (λy hy=>hb y<|Ai x hy) hr.1 hr.2 (by rw[← snoc];exact hl);rw[← snoc]at this;rw[FD];rw[show(pre++[x]).length=pre.length+1 by simp]at this ⊢;exact this
def akM{l:List Int}(h:BOk l)(hl:l.length<=1048576):Uz (l,())=I ((FD l 0 0,()),()):=by
 unfold Uz;have h1:ai (0,l,(j8 l:Int),0,())=I (.inr (FD l 0 0,())):=as6 l [] 0 h J J hl;rw[h1];rfl
def ajy{l:List Int}(h:BOk l)(hl:l.length<=1048576):RW (l,())=I ((FD l 0 0,()),()):=by
 unfold RW;have h1:aZ (l,0,0,())=I (.inr (FD l 0 0,())):=ar2 l [] 0 h J J hl;rw[h1];rfl
end Go.VS
end
