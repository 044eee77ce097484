/- Part 8. -/
import Derived.Test.YtgjljlpdfceilaaGreatDoorQAQ
import Derived.Lib.ItoaMem
open BitVec renaming eq_of_toNat_eq->lq,ofInt->FC,toNat_ofInt->QO
open Bool renaming and_eq_true->AD,and_false->BZ,and_self->EW,and_true->Ks,eq_iff_iff->Mz,false->A0,false_and->AM,false_ne_true->CQ,false_or->Bk,not_eq_true'->CE,not_false->AG,not_true->AB,or_eq_false_iff->Mx,or_eq_true->C1,or_false->EV,or_self->GM,or_true->DL,true->Y,true_and->AP,true_or->Bt
open ByteArray renaming data_extract->Yj
open Classical renaming choose->My,choose_spec->Il
open Decidable renaming decide->U
open Eq renaming trans->Kw
open Go.IntKind renaming wrap->Yn
open Go.Lib renaming cut->FQ,decDigits->mB,index_one->TV,itoa->B3,itoa_neg->lb,splitB->Ip,splitK->GN
open Int renaming emod_eq_of_lt->lT,eq_ofNat_of_zero_le->HB,le_refl->Ct,mul_comm->QT,tdiv->B0,tdiv_eq_ediv_of_nonneg->H9,tmod->BK,tmod_eq_emod_of_nonneg->Ko,toNat->AK,toNat_natCast->Bc
open List renaming all_eq_true->DK,append_assoc->C2,append_cancel_left->aBR,append_nil->CJ,concat_eq_append->aBd,cons_append->Kr,count_cons_self->aBf,drop->Bp,dropWhile_cons->lQ,drop_append_of_le_length->TJ,drop_drop->Iq,drop_eq_getElem_cons->TH,drop_eq_nil_of_le->M0,drop_left'->QN,drop_zero->Ik,eq_nil_of_length_eq_zero->Dw,eq_nil_or_concat->aBc,filter_append->QX,filter_cons->Jz,filter_nil->Yc,flatMap_append->lW,foldlM_cons->TF,foldl_cons->Dv,foldl_nil->K7,getD_eq_getElem?_getD->B9,getElem?_append_left->IE,getElem?_append_right->FO,getElem?_drop->Hd,getElem?_eq_getElem->Av,getElem?_eq_none->He,getElem?_eq_some_iff->BO,getElem?_map->D7,getElem?_range->Gj,getElem?_replicate->Yh,getElem?_set->Of,getElem_mem->Cd,getElem_of_mem->D0,length->JP,length->j8,length_append->Au,length_cons->Bj,length_drop->EF,length_eq_one_iff->aBY,length_filter_le->Io,length_map->DV,length_nil->CO,length_set->GP,length_singleton->Im,length_take->Dh,length_zipWith->lR,map_append->Eg,map_congr_left->Gi,map_cons->DM,map_id->Yq,map_map->I9,map_nil->JQ,mem_append->BM,mem_append_left->Bv,mem_cons->Bl,mem_cons_of_mem->Ai,mem_cons_self->An,mem_filter->FP,mem_iff_getElem->Yd,mem_map->Bu,mem_of_getElem?->Ci,mem_of_mem_drop->Kq,mem_of_mem_take->IF,mem_range->Cu,mem_singleton->CL,mem_singleton_self->Og,nil_append->EU,range->B7,range_succ->IC,replicate->BS,replicate_succ->aBW,take->BR,takeWhile_append_dropWhile->YZ,takeWhile_cons->QR,takeWhile_sublist->aBX,take_add_one->JJ,take_append_drop->JK,take_left'->Oe,take_length->E5,take_of_length_le->K4,take_take->Ys,zipWith_cons_cons->Oa
open List.cons renaming injEq->Ly
open Nat renaming add_assoc->D8,add_comm->N2,add_zero->Hh,eq_zero_or_pos->TS,le_refl->Ar,le_trans->CV,lt_of_lt_of_le->Gf,lt_or_ge->HA,lt_trans->Yo,lt_trichotomy->IA,mod_eq_of_lt->Oc,mod_lt->Oj,pow_succ->la,sub_self->Ol,sub_zero->JR,zero_add->DY,zero_le->D1
open Ne renaming symm->Ku
open Option renaming bind_eq_some_iff->Ah,bind_some->A6,filter_eq_some_iff->JL,getD_some->DX,isSome_some->Dg,none->G,some->I
open Option.some renaming injEq->Bs
open Or renaming inl->N7,inr->N6
open Prod.mk renaming injEq->CK
open UInt8 renaming ofNat->K5,toNat_inj->QM
set_option linter.all false
noncomputable section
namespace Go.VS
open Go
section
variable {σ ρ β γ:Type} {b:σ->Option (σ ⊕ ρ)}
def BF{x:σ}{y:ρ}(h:b x=I (.inr y)):AW b x=I y:=aB6 (n:=1)<|by simp[HY,h]
def As{x x':σ}{y:ρ}(h:b x=I (.inl x'))(hy:AW b x'=I y):AW b x=I y:=by
 obtain⟨n,hn⟩:=aCm hy;exact aB6 (n:=n+1)<|by simp[HY,h,hn]
def CS(st:Nat->σ)(n:Nat){y:ρ}(h:∀i,i<n->b (st i)=I (.inl<|st<|i+1))(hn:b (st n)=I (.inr y)):AW b (st 0)=I y:=by
 have:∀k,k<=n->AW b (st<|n - k)=I y:=by
  intro k
  induction k with
  | zero=>intro _;exact BF hn
  | succ k ih=>
   intro hk;refine As (h (n - (k+1)) J) ?_;rw[show n - (k+1)+1=n - k by omega];exact ih J
 have:=this n<|Ar _;rwa[Ol]at this
def avD(Inv:Nat->σ->Prop)(NT:ρ->Prop)(n:Nat)(o6:∀i s,i<n->Inv i s->(∃s',b s=I (.inl s')/\Inv (i+1) s')\/(∃r,b s=I (.inr r)/\NT r))
  (oR:∀s,Inv n s->∃r,b s=I (.inr r)/\NT r){s0:σ}(h0:Inv 0 s0):∃r,AW b s0=I r/\NT r:=by
 have:∀k,k<=n->∀s,Inv (n - k) s->∃r,AW b s=I r/\NT r:=by
  intro k
  induction k with
  | zero=>
   intro _ s hs;obtain⟨r,h1,h2⟩:=oR s hs;exact⟨r,BF h1,h2⟩
  | succ k ih=>
   intro hk s hs;obtain⟨s',h1,h2⟩|⟨r,h1,h2⟩:=o6 _ s J hs
   .rw[show n - (k+1)+1=n - k by omega]at h2;obtain⟨r,h3,h4⟩:=ih J s' h2;exact⟨r,As h1 h3,h4⟩
   .exact⟨r,BF h1,h2⟩
 exact this n (Ar _) s0<|by rwa[Ol]
end
def Gc{β:Type}(q:Nat->Option β):Nat->Nat->Option β
 | 0,_=>G
 | k+1,i=>match q i with
  | some r=>I r
  | none=>Gc q k (i+1)
section
variable {σ β γ:Type} {b:σ->Option (σ ⊕ (β ⊕ γ))}
def aCn(st:Nat->σ)(n:Nat)(q:Nat->Option β)(fin:γ)
  (h:∀i,i<n->b (st i)=I (match q i with|none=> .inl (st<|i+1)|some r=> .inr<|.inl r))
  (hn:b (st n)=I (.inr<|.inr fin)):AW b (st 0)=I (match Gc q n 0 with|none=> .inr fin|some r=> .inl r):=by
 have:∀k,k<=n->AW b (st<|n - k)=I (match Gc q k (n - k) with|none=> .inr fin|some r=> .inl r):=by
  intro k
  induction k with
  | zero=>intro _;exact BF hn
  | succ k ih=>
   intro hk;have h1:=h (n - (k+1)) J;unfold Gc;cases hq:q (n - (k+1)) with
   | some r=>rw[hq]at h1;exact BF h1
   | none=>
    rw[hq]at h1;refine As h1 ?_;rw[show n - (k+1)+1=n - k by omega];exact ih J
 have:=this n<|Ar _;rwa[Ol]at this
def Lh(p:Nat->Bool):Nat->Nat->Bool
 | 0,_=>Y
 | k+1,i=>p i&&Lh p k (i+1)
def B6(n:Nat)(p:Nat->Bool):Bool:=Lh p n 0
def aDF{p:Nat->Bool}{r:β}:∀(k i:Nat),Gc (λi=>if p i then G else I r) k i=if Lh p k i then G else I r
 | 0,_=>rfl
 | k+1,i=>by
  unfold Gc Lh;cases hp:p i
  .simp
  .simpa using aDF k<|i+1
def DR(st:Nat->σ)(n:Nat)(p:Nat->Bool)(r:β)(fin:γ)
  (h:∀i,i<n->b (st i)=I (if p i then .inl (st<|i+1) else .inr (.inl r)))
  (hn:b (st n)=I (.inr<|.inr fin)):AW b (st 0)=I (if B6 n p then .inr fin else .inl r):=by
 rw[aCn st n (λi=>if p i then G else I r) fin (λi hi=>by rw[h i hi];cases p i<;>rfl) hn,aDF,B6];cases Lh p n 0<;>rfl
def Fv(n:Nat)(p:Nat->Bool):Int:=(Gc (λi=>if p i then I (i:Int) else G) n 0).getD (-1)
def aDE{p:Nat->Bool}{f:Int->β}:∀(k i:Nat),Gc (λi=>if p i then I (f (i:Int)) else G) k i=(Gc (λi=>if p i then I (i:Int) else G) k i).map f
 | 0,_=>rfl
 | k+1,i=>by
  unfold Gc;cases hp:p i
  .simpa using aDE k (i+1)
  .simp
def js{q:Nat->Option β}{r:β}:∀(k i:Nat),Gc q k i=I r->∃j,i<=j/\j<i+k/\q j=I r/\ ∀l,i<=l->l<j->q l=G
 | 0,_,h=>by cases h
 | k+1,i,h=>by
  unfold Gc at h;split at h
  .rename_i r' hr;cases h;exact⟨i,Ar _,J,hr,λl h1 h2=>by omega⟩
  .rename_i hr;obtain⟨j,h1,h2,h3,h4⟩:=js k (i+1) h;exact⟨j,J,J,h3,λl h5 h6=>by
    obtain h7|h7:=HA i l
    .exact h4 l h7 h6
    .rw[show l=i by omega];exact hr⟩
def aC7{q:Nat->Option β}:∀(k i:Nat),Gc q k i=G->∀l,i<=l->l<i+k->q l=G
 | 0,_,_,l,h1,h2=>J
 | k+1,i,h,l,h1,h2=>by
  unfold Gc at h;split at h
  .cases h
  .rename_i hr;obtain h7|h7:=HA i l
   .exact aC7 k (i+1) h l h7 J
   .rw[show l=i by omega];exact hr
def G6(n:Nat)(p:Nat->Bool):(Fv n p= -1/\ ∀i,i<n->p i=A0)\/ ∃i:Nat,Fv n p=i/\i<n/\p i=Y/\ ∀l,l<i->p l=A0:=by
 unfold Fv;cases h:Gc (λi=>if p i then I (i:Int) else G) n 0 with
 | none=>
  refine .inl ⟨rfl,λi hi=> ?_⟩;have:=aC7 n 0 h i (D1 _) J;cases hp:p i<;>simp[hp]at this ⊢
 | some r=>
  obtain⟨j,h1,h2,h3,h4⟩:=js n 0 h;refine .inr ⟨j, ?_,J, ?_,λl hl=> ?_⟩
  .cases hp:p j<;>simp[hp]at h3;simp[h3]
  .cases hp:p j<;>simp[hp]at h3 ⊢
  .have:=h4 l (D1 _) hl;cases hp:p l<;>simp[hp]at this ⊢
def Pl(st:Nat->σ)(n:Nat)(p:Nat->Bool)(f:Int->β)(fin:γ)
  (h:∀i,i<n->b (st i)=I (if p i then .inr (.inl<|f (i:Int)) else .inl (st<|i+1)))
  (hn:b (st n)=I (.inr<|.inr fin)):AW b (st 0)=I (if Fv n p<0 then .inr fin else .inl (f<|Fv n p)):=by
 rw[aCn st n (λi=>if p i then I (f (i:Int)) else G) fin (λi hi=>by rw[h i hi];cases p i<;>rfl) hn,aDE];obtain⟨h1,_⟩|⟨i,h1,_⟩:=G6 n p
 .rw[h1];unfold Fv at h1;cases h2:Gc (λi=>if p i then I (i:Int) else G) n 0 with
  | none=>simp
  | some r=>
   obtain⟨j,_,_,h3,_⟩:=js n 0 h2;cases hp:p j<;>simp[hp]at h3;rw[h2]at h1;simp at h1;omega
 .rw[h1];unfold Fv at h1;cases h2:Gc (λi=>if p i then I (i:Int) else G) n 0 with
  | none=>rw[h2]at h1;simp at h1
  | some r=>
   rw[h2]at h1;simp at h1;subst h1;simp
end
def aAo{p:Nat->Bool}:∀(k i:Nat),Lh p k i=Y↔ ∀j,i<=j->j<i+k->p j=Y
 | 0,_=>by simp only[Lh,true_iff];intro j h1 h2;omega
 | k+1,i=>by
  unfold Lh;rw[AD,aAo k<|i+1];constructor
  .rintro⟨h1,h2⟩ j h3 h4;obtain h7|h7:=HA i j
   .exact h2 j h7 J
   .rw[show j=i by omega];exact h1
  .intro h;exact⟨h i (Ar _) J,λj h1 h2=>h j J J⟩
def Cp{n:Nat}{p:Nat->Bool}:B6 n p=Y↔ ∀i,i<n->p i=Y:=by
 unfold B6;rw[aAo];exact⟨λh i hi=>h i (D1 _) J,λh j _ h2=>h j J⟩
def Co{A B4 Ω:Type}{f:A->Option Ω}{g:B4->Option Ω}{y:B4}:AO (I<|.inr y) f g=g y:=rfl
def Hu{A B4 Ω:Type}{f:A->Option Ω}{g:B4->Option Ω}{y:A}:AO (I<|.inl y) f g=f y:=rfl
def Be{X Ω:Type}{f:X->Option Ω}{y:X}:BT f (I<|.inr y)=f y:=rfl
def O0{X Ω:Type}{f:X->Option Ω}{y:Ω}:BT f (I<|.inl y)=I y:=rfl
def AZ{n:Int}(h0: -9223372036854775808<=n)(h1:n<=9223372036854775807):w64 n=n:=by
 unfold w64;rw[IntKind.wrap_i64];omega
def Mp(n:Int):w8 n=n % 256:=by
 unfold w8 Yn;simp[IntKind.signed,IntKind.bits]
def BC{i n:Nat}(h:i<n)(hn:n<=9223372036854775807):w64 ((i:Int)+1)=((i+1:Nat):Int):=by
 rw[AZ J J];omega
def OL{α:Type}(d:α)(xs:List α)(i:Nat):rd d xs (i:Int)=xs.getD i d:=rfl
def avE(i n:Nat):inb (i:Int) n=U (i<n):=by
 unfold inb;by_cases h:i<n
 .simp[h]
 .simp[h]
def AU{i n:Nat}(h:i<n):inb (i:Int) n=Y:=by rw[avE];simpa using h
abbrev L(s:A1):List UInt8:=s.data.toList
def Aw(s:A1):(L s).length=s.size:=rfl
def Fw{s t:A1}(h:L s=L t):s=t:=by
 cases s;cases t;simp[L]at h;exact congrArg _ h
def GI(s t:A1):L (s++t)=L s++L t:=by simp[L,ByteArray.data_append]
def EA(s:A1)(a b:Nat):L (s.extract a b)=((L s).drop a).take (b - a):=by
 simp[L,Yj,Array.toList_extract,List.extract_eq_take_drop]
def By(s t:A1):(s++t).size=s.size+t.size:=ByteArray.size_append ..
def L_B(l:List UInt8):L (B l)=l:=rfl
def BQ(l:List UInt8):(B l).size=l.length:=rfl
def ng(l:List UInt8):L ⟨l.toArray⟩=l:=rfl
def Jm(s:A1)(i:Nat):bt s (i:Int)=(((L s).getD i 0).toNat:Int):=rfl
def axN(s:A1)(i:Int):0<=bt s i:=by unfold bt;omega
def axO(s:A1)(i:Int):bt s i<=255:=by
 unfold bt;have:=(s.data.toList.getD i.toNat 0).toNat_lt;omega
end Go.VS
namespace Go.VS
open Go
def avs(m:AN):Prop:=m.da.size<=1048576
def OK(h:AE):Prop:=h.got.length<=1048576/\ ∀m∈h.got,avs m
def FF(k:A7):Prop:=k.log.size<=1048576/\k.AH.length<=1048576/\ ∀h∈k.AH,OK h
def aDA(p:AL):Prop:=p.data.size<=1048576
def GA(n:A3):Prop:=n.tx.size<=1048576
def OF{α:Type}{l:List α}{i:Nat}{x d:α}(h:l[i]? =I x):l.getD i d=x:=by simp[h]
def BL{i n:Nat}(h:i<n):U ((i:Int)<(n:Int))=Y:=by simpa using h
structure L8 (ks:List A7) (ls:List Bool) (ra:List AL) (se go:List A3):Prop where
 kl:ks.length<=1048576
 k:∀x∈ks,FF x
 l:ls.length<=1048576
 rl:ra.length<=1048576
 r:∀x∈ra,aDA x
 sl:se.length<=1048576
 s:∀x∈se,GA x
 gl:go.length<=1048576
 g:∀x∈go,GA x
@[simp] theorem HJ (q:Bool):Al A0 q=Y:=by cases q<;>rfl
@[simp] theorem IT (q:Bool):Al Y q=q:=by cases q<;>rfl
def tf(b:Bool):b=Y\/b=A0:=by cases b<;>simp
def inB(n lo hi:Int):Bool:=U (lo<=n)&&U (n<=hi)
def Aa{n lo hi:Int}:inB n lo hi=Y↔lo<=n/\n<=hi:=by simp[inB]
abbrev isN(n:Int):Bool:=inB n 0 3
@[simp] theorem EJ {n lo hi:Int} :C5 (n,lo,hi,())=I ((inB n lo hi,()),()):=rfl
@[simp] theorem Hr {n lo hi:Int} :D9 (n,lo,hi,())=I ((inB n lo hi,()),()):=rfl
@[simp] theorem Je {n:Int} :FT (n,())=I ((isN n,()),()):=rfl
@[simp] theorem Jd {n:Int} :FR (n,())=I ((isN n,()),()):=rfl
abbrev tin(s:A1):Bool:=B6 s.size λi=>inB (bt s i) 32 126
def Ky(s:A1):Bool:=inB s.size 1 24&&tin s
def aan{s:A1}{i:Int}:w64 (bt s i)=bt s i:=AZ (by have:=axN s i;omega) (by have:=axO s i;omega)
@[simp] theorem anu {s:A1} (hs:s.size<=1048576):Nl (s,())=I ((Ky s,()),()):=by
 have h:rE (s,0,())=I (if tin s then .inr (s,()) else .inl (A0,())):=
  DR (λi=>(s,(i:Int),())) s.size (λi=>inB (bt s i) 32 126) (A0,()) (s,()) (λi hi=>by
   unfold eY;simp only[AU hi,BL hi,aan,EJ,A6,BC hi (by omega:s.size<=9223372036854775807)];cases inB (bt s i) 32 126<;>rfl) (by simp[eY])
 unfold Nl;simp only[h];unfold Ky;cases tin s<;>simp[AO]
def Ax(n:A3):Bool:=isN n.fr&&(isN n.to&&(inB n.nu 1 99&&(inB n.un 1 999&&Ky n.tx)))
@[simp] theorem Ve {fr nu tt un:Int} {tx:A1} (hs:tx.size<=1048576):No ((fr,nu,tt,un,tx,()),())=I ((Ax ⟨fr,nu,tt,un,tx⟩,()),()):=by
 unfold No Ax;simp only[anu hs,EJ,Je,A6];cases isN fr<;>cases isN tt<;>cases inB nu 1 99<;>cases inB un 1 999<;>simp[Al]
@[simp] theorem Vh {fr nu tt un:Int} {tx:A1} (hs:tx.size<=1048576):Nk ((fr,nu,tt,un,tx,()),())=I ((Ax ⟨fr,nu,tt,un,tx⟩,()),()):=by
 have h:qn ((fr,nu,tt,un,tx,()),0,())=I (if tin tx then .inr () else .inl (A0,())):=
  DR (λi=>((fr,nu,tt,un,tx,()),(i:Int),())) tx.size (λi=>inB (bt tx i) 32 126) (A0,()) () (λi hi=>by
   unfold eA;simp only[AU hi,BL hi,BC hi (by omega:tx.size<=9223372036854775807)];unfold inB;by_cases h1:bt tx i<32<;>by_cases h2:126<bt tx i<;>simp[h1,h2,Al]<;>omega) (by simp[eA])
 unfold Nk Ax;simp only[h,Hr,Jd,A6];unfold Ky;by_cases h1:(tx.size:Int)<1<;>by_cases h2:(24:Int)<tx.size<;>cases isN fr<;>cases isN tt<;>cases inB nu 1 99<;>cases inB un 1 999<;>cases tin tx<;>simp[h1,h2,AO,inB]<;>omega
def Ew(m:Mark):Bool:=isN m.mf&&(inB m.mn 1 99&&inB m.mu 1 999)
@[simp] theorem anw {a b c:Int} :fP ((a,b,c,()),())=I ((Ew ⟨a,b,c⟩,()),()):=by
 unfold fP Ew;simp only[EJ,Je,A6];cases isN a<;>cases inB b 1 99<;>simp[Al]
def bef(a b c d:Int):Bool:=U (a<c)||(U (a=c)&&U (b<d))
@[simp] theorem Rt {a b c d:Int} :LR (a,b,c,d,())=I ((bef a b c d,()),()):=rfl
@[simp] theorem WT {a b c d:Int} :MK (a,b,c,d,())=I ((bef a b c d,()),()):=rfl
def nA(l:List A3)(i:Nat):A3:=l.getD i<|dfl .note
def mA(l:List Mark)(i:Nat):Mark:=l.getD i<|dfl .mark
def Da(l:List A3)(i:Nat): @rd A3 aE3 l (i:Int)=nA l i:=rfl
def FJ(l:List Mark)(i:Nat): @rd Mark aFc l (i:Int)=mA l i:=rfl
def DI(l:List A3):Bool:=B6 l.length λi=>Ax (nA l i)&&(U (i=0)||bef (nA l<|i - 1).fr (nA l<|i - 1).nu (nA l i).fr (nA l i).nu)
def FH(l:List Mark):Bool:=B6 l.length λi=>Ew (mA l i)&&(U (i=0)||bef (mA l<|i - 1).mf (mA l<|i - 1).mn (mA l i).mf (mA l i).mn)
def Ta{l:List A3}(h:∀x∈l,GA x)(i:Nat):(nA l i).tx.size<=1048576:=by
 unfold nA;cases hx:l[i]? with
 | none=>simp[hx,dfl];decide
 | some x=>
  have h1:x.tx.size<=1048576:=h x<|Ci hx;rw[B9,hx];exact h1
def Xg{i n:Nat}(h:i<n)(hn:n<=9223372036854775807):w64 ((i:Int) - 1)=(i:Int) - 1:=AZ J J
def yT{l:List A3}(hl:l.length<=1048576)(h:∀x∈l,GA x):VR (l,())=I ((DI l,()),()):=by
 have h:qF (l,l,(j8 l:Int),0,())=I (if DI l then .inr () else .inl (A0,())):=
  DR (λi=>(l,l,(j8 l:Int),(i:Int),())) l.length (λi=>Ax (nA l i)&&(U (i=0)||bef (nA l<|i - 1).fr (nA l<|i - 1).nu (nA l i).fr (nA l i).nu)) (A0,()) () (λi hi=>by
   unfold dF;simp only[AU hi,BL hi,Da,Ve<|Ta h i,A6,Rt,BC hi (by omega:l.length<=9223372036854775807)];cases i with
   | zero=>obtain h1|h1:=tf (Ax<|nA l 0)<;>simp only[h1]<;>simp
   | succ j=>
    rw[Xg hi J,show((j+1:Nat):Int) - 1=(j:Int) by omega,AU (J:j<l.length)];simp only[Da];obtain h1|h1:=tf (Ax<|nA l<|j+1)<;>obtain h2|h2:=tf (bef (nA l j).fr (nA l j).nu (nA l<|j+1).fr (nA l<|j+1).nu)<;>simp only[h1,h2]<;>simp[h2]) (by simp[dF])
 unfold VR;simp only[h];cases DI l<;>simp[AO]
def xC{l:List A3}{Dy:Int}(hl:l.length<=1048576)(h:∀x∈l,GA x):VA (l,Dy,())=I ((U ((j8 l:Int)<=Dy)&&DI l,()),()):=by
 have h:pb (l,0,())=I (if DI l then .inr () else .inl (A0,())):=
  DR (λi=>(l,(i:Int),())) l.length (λi=>Ax (nA l i)&&(U (i=0)||bef (nA l<|i - 1).fr (nA l<|i - 1).nu (nA l i).fr (nA l i).nu)) (A0,()) () (λi hi=>by
   unfold cL;simp only[AU hi,BL hi,Da,Vh<|Ta h i,A6,WT,BC hi (by omega:l.length<=9223372036854775807)];cases i with
   | zero=>obtain h1|h1:=tf (Ax<|nA l 0)<;>simp only[h1]<;>simp
   | succ j=>
    rw[Xg hi J,show((j+1:Nat):Int) - 1=(j:Int) by omega,AU (J:j<l.length)];simp only[Da];obtain h1|h1:=tf (Ax<|nA l<|j+1)<;>obtain h2|h2:=tf (bef (nA l j).fr (nA l j).nu (nA l<|j+1).fr (nA l<|j+1).nu)<;>simp only[h1,h2]<;>simp[h2]) (by simp[cL])
 unfold VA;simp only[h];by_cases hm:(j8 l:Int)<=Dy
 .rw[show U (Dy<(j8 l:Int))=A0 by simpa using hm];cases DI l<;>simp[AO,hm]
 .rw[show U (Dy<(j8 l:Int))=Y by simpa using hm];simp[hm]
def amF{l:List Mark}(hl:l.length<=1048576):eh (l,())=I ((FH l,()),()):=by
 have h:qI (l,l,(j8 l:Int),0,())=I (if FH l then .inr () else .inl (A0,())):=
  DR (λi=>(l,l,(j8 l:Int),(i:Int),())) l.length (λi=>Ew (mA l i)&&(U (i=0)||bef (mA l<|i - 1).mf (mA l<|i - 1).mn (mA l i).mf (mA l i).mn)) (A0,()) () (λi hi=>by
   unfold dH;simp only[AU hi,BL hi,FJ,anw,A6,Rt,BC hi (by omega:l.length<=9223372036854775807)];cases i with
   | zero=>obtain h1|h1:=tf (Ew<|mA l 0)<;>simp only[h1]<;>simp
   | succ j=>
    rw[Xg hi J,show((j+1:Nat):Int) - 1=(j:Int) by omega,AU (J:j<l.length)];simp only[FJ];obtain h1|h1:=tf (Ew<|mA l<|j+1)<;>obtain h2|h2:=tf (bef (mA l j).mf (mA l j).mn (mA l<|j+1).mf (mA l<|j+1).mn)<;>simp only[h1,h2]<;>simp[h2]) (by simp[dH])
 unfold eh;simp only[h];cases FH l<;>simp[AO]
def akK{l:List Mark}(hl:l.length<=1048576):db (l,())=I ((U ((j8 l:Int)<=12)&&FH l,()),()):=by
 have h:pd (l,0,())=I (if FH l then .inr () else .inl (A0,())):=
  DR (λi=>(l,(i:Int),())) l.length (λi=>Ew (mA l i)&&(U (i=0)||bef (mA l<|i - 1).mf (mA l<|i - 1).mn (mA l i).mf (mA l i).mn)) (A0,()) () (λi hi=>by
   unfold cM Ew;simp only[AU hi,BL hi,FJ,Hr,Jd,A6,WT,BC hi (by omega:l.length<=9223372036854775807)];cases i with
   | zero=>obtain h1|h1:=tf (isN (mA l 0).mf)<;>obtain h2|h2:=tf (inB (mA l 0).mn 1 99)<;>obtain h3|h3:=tf (inB (mA l 0).mu 1 999)<;>simp only[h1,h2,h3]<;>simp
   | succ j=>
    rw[Xg hi J,show((j+1:Nat):Int) - 1=(j:Int) by omega,AU (J:j<l.length)];simp only[FJ];obtain h1|h1:=tf (isN (mA l<|j+1).mf)<;>obtain h2|h2:=tf (inB (mA l<|j+1).mn 1 99)<;>obtain h3|h3:=tf (inB (mA l<|j+1).mu 1 999)<;>obtain h4|h4:=tf (bef (mA l j).mf (mA l j).mn (mA l<|j+1).mf (mA l<|j+1).mn)<;>simp only[h1,h2,h3]<;>simp[h4]<;>omega) (by simp[cM])
 unfold db;simp only[h];by_cases hm:(j8 l:Int)<=12
 .rw[show U ((12:Int)<(j8 l:Int))=A0 by simpa using hm];cases FH l<;>simp[AO,hm]
 .rw[show U ((12:Int)<(j8 l:Int))=Y by simpa using hm];simp[hm]
def AX(l:List A3)(f n:Int):Int:=Fv l.length λi=>U ((nA l i).fr=f)&&U ((nA l i).nu=n)
def Bo(l:List Mark)(f n:Int):Int:=Fv l.length λi=>U ((mA l i).mf=f)&&U ((mA l i).mn=n)
def SM{n:Nat}{p:Nat->Bool}:AO (I<|if Fv n p<0 then(.inr ():(Int×D) ⊕ D) else .inl (Fv n p,())) (λy=>I ((y.1,()),())) (λ_=>I ((-1,()),()))=I ((Fv n p,()),()):=by
 obtain⟨h,_⟩|⟨i,h,_⟩:=G6 n p
 .rw[h];rfl
 .rw[A8 J];rfl
def LQ{l:List A3}{f n:Int}(hl:l.length<=1048576):IQ (l,f,n,())=I ((AX l f n,()),()):=by
 have h:rG (f,n,l,(j8 l:Int),0,())=I (if AX l f n<0 then .inr () else .inl (AX l f n,())):=
  Pl (λi=>(f,n,l,(j8 l:Int),(i:Int),())) l.length (λi=>U ((nA l i).fr=f)&&U ((nA l i).nu=n)) (λi=>(i,())) () (λi hi=>by
   unfold ec;simp only[AU hi,BL hi,Da,BC hi (by omega:l.length<=9223372036854775807)];by_cases h1:(nA l i).fr=f<;>by_cases h2:(nA l i).nu=n<;>simp[h1,h2]) (by simp[ec])
 unfold IQ;simp only[h];exact SM
def Ja{l:List A3}{f n:Int}(hl:l.length<=1048576):G2 (l,f,n,())=I ((AX l f n,()),()):=by
 have h:q5 (l,f,n,0,())=I (if AX l f n<0 then .inr () else .inl (AX l f n,())):=
  Pl (λi=>(l,f,n,(i:Int),())) l.length (λi=>U ((nA l i).fr=f)&&U ((nA l i).nu=n)) (λi=>(i,())) () (λi hi=>by
   unfold de;simp only[AU hi,BL hi,Da,BC hi (by omega:l.length<=9223372036854775807)];by_cases h1:(nA l i).fr=f<;>by_cases h2:(nA l i).nu=n<;>simp[h1,h2]) (by simp[de])
 unfold G2;simp only[h];exact SM
def Rr{l:List Mark}{f n:Int}(hl:l.length<=1048576):KR (l,f,n,())=I ((Bo l f n,()),()):=by
 have h:qu (f,n,l,(j8 l:Int),0,())=I (if Bo l f n<0 then .inr () else .inl (Bo l f n,())):=
  Pl (λi=>(f,n,l,(j8 l:Int),(i:Int),())) l.length (λi=>U ((mA l i).mf=f)&&U ((mA l i).mn=n)) (λi=>(i,())) () (λi hi=>by
   unfold eL;simp only[AU hi,BL hi,FJ,BC hi (by omega:l.length<=9223372036854775807)];by_cases h1:(mA l i).mf=f<;>by_cases h2:(mA l i).mn=n<;>simp[h1,h2]) (by simp[eL])
 unfold KR;simp only[h];exact SM
def Rh{l:List Mark}{f n:Int}(hl:l.length<=1048576):KM (l,f,n,())=I ((Bo l f n,()),()):=by
 have h:pz (l,f,n,0,())=I (if Bo l f n<0 then .inr () else .inl (Bo l f n,())):=
  Pl (λi=>(l,f,n,(i:Int),())) l.length (λi=>U ((mA l i).mf=f)&&U ((mA l i).mn=n)) (λi=>(i,())) () (λi hi=>by
   unfold dd;simp only[AU hi,BL hi,FJ,BC hi (by omega:l.length<=9223372036854775807)];by_cases h1:(mA l i).mf=f<;>by_cases h2:(mA l i).mn=n<;>simp[h1,h2]) (by simp[dd])
 unfold KM;simp only[h];exact SM
def Ec(id:Int)(fr tt:Int):Bool:= !decide (id=tt)&&(inB id fr tt||inB id tt fr)
def iV{id fr nu tt un:Int}{tx:A1}:W3 (id,(fr,nu,tt,un,tx,()),())=I ((Ec id fr tt,()),()):=by
 unfold W3 Ec;simp only[EJ];by_cases h:id=tt<;>cases inB id fr tt<;>simp[h]
def iK{id fr nu tt un:Int}{tx:A1}:fH ((fr,nu,tt,un,tx,()),id,())=I ((Ec id fr tt,()),()):=by
 unfold fH Ec inB;by_cases h1:fr<=id
 .simp only[h1,AT,A2];congr 3;rw[Mz];simp;omega
 .have e:(U (tt<id)&&U (id<=fr))=(!decide (id=tt)&&(U (fr<=id)&&U (id<=tt)||decide (tt<=id)&&U (id<=fr))):=by
   rw[Mz];simp only[AD,C1,CE,decide_eq_true_eq,decide_eq_false_iff_not];omega
  rw[← e];simp[h1]
structure DP (held:List A3) (marks:List Mark) (inbox:List A3):Prop where
 hl:held.length<=1048576
 h:∀x∈held,GA x
 ml:marks.length<=1048576
 il:inbox.length<=1048576
 i:∀x∈inbox,GA x
def Gx(id ti nx:Int)(held:List A3)(marks:List Mark)(i:Nat):Bool:= !(U ((nA held i).fr=id)&&U (nx<=(nA held i).nu))&&(U (ti<(nA held i).un)&&(Ec id (nA held i).fr (nA held i).to&&U (Bo marks (nA held i).fr (nA held i).nu<0)))
def J4(id ti nx:Int)(marks:List Mark)(i:Nat):Bool:=U (ti<(mA marks i).mu)&& !(U ((mA marks i).mf=id)&&U (nx<=(mA marks i).mn))
def IY(id ti nx:Int)(marks:List Mark)(inbox:List A3)(i:Nat):Bool:=U ((nA inbox i).to=id)&&(!(U ((nA inbox i).fr=id)&&U (nx<=(nA inbox i).nu))&&(!decide (ti<(nA inbox i).un)||decide (0<=Bo marks (nA inbox i).fr (nA inbox i).nu)))
def At(k:AJ):Bool:=isN k.id&&(inB k.ti 0 999&&(inB k.nx 1 100&&((U ((j8 k.held:Int)<=6)&&DI k.held)&&((U ((j8 k.marks:Int)<=12)&&FH k.marks)&&((U ((j8 k.inbox:Int)<=6)&&DI k.inbox)&&
 (B6 k.held.length (Gx k.id k.ti k.nx k.held k.marks)&&(B6 k.marks.length (J4 k.id k.ti k.nx k.marks)&&B6 k.inbox.length (IY k.id k.ti k.nx k.marks k.inbox))))))))
def aqo(l:List Mark)(f n:Int):Bo l f n= -1\/0<=Bo l f n:=by
 obtain⟨h,_⟩|⟨i,h,_⟩:=G6 l.length (λi=>U ((mA l i).mf=f)&&U ((mA l i).mn=n))
 .exact .inl h
 .exact .inr (by unfold Bo;omega)
def tfp(p:Prop):(p=True)\/(p=False):=by
 by_cases h:p
 .exact .inl (eq_true h)
 .exact .inr<|eq_false h
def sgn(n:Int):((n<0)=True/\(0<=n)=False)\/((n<0)=False/\(0<=n)=True):=by
 by_cases h:n<0
 .exact .inl ⟨eq_true h,eq_false J⟩
 .exact .inr ⟨eq_false h,eq_true J⟩
def EP(a b:Int):((a<=b)=True/\(b<a)=False)\/((a<=b)=False/\(b<a)=True):=by
 by_cases h:a<=b
 .exact .inl ⟨eq_true h,eq_false J⟩
 .exact .inr ⟨eq_false h,eq_true J⟩
def aAu(l:List A3)(f n:Int):AX l f n= -1\/0<=AX l f n:=by
 obtain⟨h,_⟩|⟨i,h,_⟩:=G6 l.length (λi=>U ((nA l i).fr=f)&&U ((nA l i).nu=n))
 .exact .inl h
 .exact .inr (by unfold AX;omega)
def amv{id ti nx:Int}{held:List A3}{marks:List Mark}{inbox:List A3}(sm:DP held marks inbox):
  rD ((id,ti,nx,held,marks,inbox,()),held,(held.length:Int),0,())=I (if B6 held.length (Gx id ti nx held marks) then .inr ((id,ti,nx,held,marks,inbox,()),()) else .inl (A0,())):=
 DR (λi=>((id,ti,nx,held,marks,inbox,()),held,(held.length:Int),(i:Int),())) held.length (Gx id ti nx held marks) (A0,()) ((id,ti,nx,held,marks,inbox,()),()) (λi hi=>by
  unfold er Gx;have hl:held.length<=9223372036854775807:=by have:=sm.hl;omega
  simp only[AU hi,BL hi,Da,FJ,Rr sm.ml,iV,A6,BC hi hl];have h4:=sgn<|Bo marks (nA held i).fr (nA held i).nu;obtain h1|h1:=tfp ((nA held i).fr=id)<;>obtain h2|h2:=tfp (nx<=(nA held i).nu)<;>obtain h3|h3:=EP (nA held i).un ti<;>obtain h4|h4:=h4<;>obtain h5|h5:=tf (Ec id (nA held i).fr (nA held i).to)<;>simp[h1,h2,h5,h4,h3]) (by simp[er])
def yF{id ti nx:Int}{held:List A3}{marks:List Mark}{inbox:List A3}(sm:DP held marks inbox):
  rC ((id,ti,nx,held,marks,inbox,()),marks,(marks.length:Int),0,())=I (if B6 marks.length (J4 id ti nx marks) then .inr ((id,ti,nx,held,marks,inbox,()),()) else .inl (A0,())):=
 DR (λi=>((id,ti,nx,held,marks,inbox,()),marks,(marks.length:Int),(i:Int),())) marks.length (J4 id ti nx marks) (A0,()) ((id,ti,nx,held,marks,inbox,()),()) (λi hi=>by
  unfold eJ J4;have hl:marks.length<=9223372036854775807:=by have:=sm.ml;omega
  simp only[AU hi,BL hi,Da,FJ,Rr sm.ml,iV,A6,BC hi hl];obtain h1|h1:=tfp ((mA marks i).mf=id)<;>obtain h2|h2:=tfp (nx<=(mA marks i).mn)<;>obtain h3|h3:=EP (mA marks i).mu ti<;>simp[h1,h2,h3]) (by simp[eJ])
def yE{id ti nx:Int}{held:List A3}{marks:List Mark}{inbox:List A3}(sm:DP held marks inbox):
  rB ((id,ti,nx,held,marks,inbox,()),inbox,(inbox.length:Int),0,())=I (if B6 inbox.length (IY id ti nx marks inbox) then .inr () else .inl (A0,())):=
 DR (λi=>((id,ti,nx,held,marks,inbox,()),inbox,(inbox.length:Int),(i:Int),())) inbox.length (IY id ti nx marks inbox) (A0,()) () (λi hi=>by
  unfold eH IY;have hl:inbox.length<=9223372036854775807:=by have:=sm.il;omega
  simp only[AU hi,BL hi,Da,FJ,Rr sm.ml,iV,A6,BC hi hl];have h4:=sgn<|Bo marks (nA inbox i).fr (nA inbox i).nu;obtain h1|h1:=tfp ((nA inbox i).fr=id)<;>obtain h2|h2:=tfp (nx<=(nA inbox i).nu)<;>obtain h3|h3:=EP (nA inbox i).un ti<;>obtain h0|h0:=tfp ((nA inbox i).to=id)<;>obtain h4|h4:=h4<;>simp[h1,h2,h0,h4,h3]) (by simp[eH])
def alx{id ti nx:Int}{held:List A3}{marks:List Mark}{inbox:List A3}(sm:DP held marks inbox):
  ql ((id,ti,nx,held,marks,inbox,()),0,())=I (if B6 held.length (Gx id ti nx held marks) then .inr ((id,ti,nx,held,marks,inbox,()),()) else .inl (A0,())):=
 DR (λi=>((id,ti,nx,held,marks,inbox,()),(i:Int),())) held.length (Gx id ti nx held marks) (A0,()) ((id,ti,nx,held,marks,inbox,()),()) (λi hi=>by
  unfold dy Gx;have hl:held.length<=9223372036854775807:=by have:=sm.hl;omega
  simp only[AU hi,BL hi,Da,FJ,Rh sm.ml,iK,A6,BC hi hl];have h4:=sgn<|Bo marks (nA held i).fr (nA held i).nu;obtain h1|h1:=tfp ((nA held i).fr=id)<;>obtain h2|h2:=tfp (nx<=(nA held i).nu)<;>obtain h3|h3:=EP (nA held i).un ti<;>obtain h4|h4:=h4<;>obtain h5|h5:=tf (Ec id (nA held i).fr (nA held i).to)<;>simp[h1,h2,h5,h4,h3]) (by simp[dy])
def xl{id ti nx:Int}{held:List A3}{marks:List Mark}{inbox:List A3}(sm:DP held marks inbox):
  qk ((id,ti,nx,held,marks,inbox,()),0,())=I (if B6 marks.length (J4 id ti nx marks) then .inr ((id,ti,nx,held,marks,inbox,()),()) else .inl (A0,())):=
 DR (λi=>((id,ti,nx,held,marks,inbox,()),(i:Int),())) marks.length (J4 id ti nx marks) (A0,()) ((id,ti,nx,held,marks,inbox,()),()) (λi hi=>by
  unfold dx J4;have hl:marks.length<=9223372036854775807:=by have:=sm.ml;omega
  simp only[AU hi,BL hi,Da,FJ,Rh sm.ml,iK,A6,BC hi hl];obtain h1|h1:=tfp ((mA marks i).mf=id)<;>obtain h2|h2:=tfp (nx<=(mA marks i).mn)<;>obtain h3|h3:=EP (mA marks i).mu ti<;>simp[h1,h2,h3]) (by simp[dx])
def xk{id ti nx:Int}{held:List A3}{marks:List Mark}{inbox:List A3}(sm:DP held marks inbox):
  qj ((id,ti,nx,held,marks,inbox,()),0,())=I (if B6 inbox.length (IY id ti nx marks inbox) then .inr () else .inl (A0,())):=
 DR (λi=>((id,ti,nx,held,marks,inbox,()),(i:Int),())) inbox.length (IY id ti nx marks inbox) (A0,()) () (λi hi=>by
  unfold dw IY;have hl:inbox.length<=9223372036854775807:=by have:=sm.il;omega
  simp only[AU hi,BL hi,Da,FJ,Rh sm.ml,iK,A6,BC hi hl];have h4:=sgn<|Bo marks (nA inbox i).fr (nA inbox i).nu;obtain h1|h1:=tfp ((nA inbox i).fr=id)<;>obtain h2|h2:=tfp (nx<=(nA inbox i).nu)<;>obtain h3|h3:=EP (nA inbox i).un ti<;>obtain h0|h0:=tfp ((nA inbox i).to=id)<;>obtain h4|h4:=h4<;>simp[h1,h2,h0,h4,h3]) (by simp[dw])
def iE{id ti nx:Int}{held:List A3}{marks:List Mark}{inbox:List A3}(sm:DP held marks inbox):Pa ((id,ti,nx,held,marks,inbox,()),())=I ((At ⟨id,ti,nx,held,marks,inbox⟩,()),()):=by
 unfold Pa At;simp only[EJ,Je,yT sm.hl sm.h,yT sm.il sm.i,amF sm.ml,amv sm,yF sm,yE sm,A6];obtain h1|h1:=tf (isN id)<;>simp only[h1,AB,AG,A2,AM,AP,A4];obtain h2|h2:=tf (inB ti 0 999)<;>simp only[h2,AB,AG,A2,AM,AP,A4];obtain h3|h3:=tf (inB nx 1 100)<;>simp only[h3,AB,AG,A2,AM,AP,A4];obtain h4|h4:=EP (held.length:Int) 6<;>obtain h5|h5:=EP (marks.length:Int) 12<;>obtain h6|h6:=EP (inbox.length:Int) 6<;>simp only[h4,h5,h6,AT,Af,A2,AM,BZ,AP,A4];obtain h7|h7:=tf (DI held)<;>obtain h8|h8:=tf (FH marks)<;>obtain h9|h9:=tf (DI inbox)<;>simp only[h7,h8,h9,AB,AG,A2,AM,BZ,AP,A4];obtain h10|h10:=tf (B6 held.length<|Gx id ti nx held marks)<;>obtain h11|h11:=tf (B6 marks.length<|J4 id ti nx marks)<;>obtain h12|h12:=tf (B6 inbox.length<|IY id ti nx marks inbox)<;>simp only[h10,h11,h12,A2,Co,Hu,A4,yF sm,yE sm]<;>rfl
def iM{id ti nx:Int}{held:List A3}{marks:List Mark}{inbox:List A3}(sm:DP held marks inbox):PX ((id,ti,nx,held,marks,inbox,()),())=I ((At ⟨id,ti,nx,held,marks,inbox⟩,()),()):=by
 unfold PX At;simp only[Hr,Jd,xC sm.hl sm.h,xC sm.il sm.i,akK sm.ml,alx sm,xl sm,xk sm,A6];obtain h1|h1:=tf (isN id)<;>simp only[h1,AB,AG,A2,AM,AP,A4];obtain h2|h2:=tf (inB ti 0 999)<;>simp only[h2,AB,AG,A2,AM,AP,A4];obtain h3|h3:=tf (inB nx 1 100)<;>simp only[h3,AB,AG,A2,AM,AP,A4];obtain h7|h7:=tf (U ((held.length:Int)<=6)&&DI held)<;>obtain h8|h8:=tf (U ((marks.length:Int)<=12)&&FH marks)<;>obtain h9|h9:=tf (U ((inbox.length:Int)<=6)&&DI inbox)<;>simp only[h7,h8,h9,AB,AG,A2,AM,BZ,AP,A4];obtain h10|h10:=tf (B6 held.length<|Gx id ti nx held marks)<;>obtain h11|h11:=tf (B6 marks.length<|J4 id ti nx marks)<;>obtain h12|h12:=tf (B6 inbox.length<|IY id ti nx marks inbox)<;>simp only[h10,h11,h12,A2,Co,Hu,A4,xl sm,xk sm]<;>rfl
def Lg{α:Type}{l:List α}{d:α}(hl:l.length<=1048576):
  (if U ((j8 l:Int)=0) then I ((([]:List α),()),()) else if U (0<=(j8 l:Int))&&U ((j8 l:Int)<=4294967296) then I (((BR (BS (AK (j8 l:Int)) d).length l++Bp l.length (BS (AK (j8 l:Int)) d)),()),()) else G)=I ((l,()),()):=by
 by_cases h:(j8 l:Int)=0
 .have:l=[]:=Dw J;subst this;rfl
 .have h1:(j8 l:Int)<=4294967296:=J
  have h2:0<=(j8 l:Int):=J
  simp[h1]
def bK{l:List A3}(hl:l.length<=1048576):NY (l,())=I ((l,()),()):=Lg hl
def agU{l:List Mark}(hl:l.length<=1048576):qK (l,())=I ((l,()),()):=Lg hl
def pT{l:List A1}(hl:l.length<=1048576):R9 (l,())=I ((l,()),()):=Lg hl
def xY{id ti nx:Int}{held:List A3}{marks:List Mark}{inbox:List A3}(sm:DP held marks inbox):Rc ((id,ti,nx,held,marks,inbox,()),())=I (((id,ti,nx,held,marks,inbox,()),()),()):=by
 unfold Rc;simp only[bK sm.hl,agU sm.ml,bK sm.il,A6]
def BG{n:Nat}(h:n<=4294967296):Ac n=Y:=by simpa[Ac] using h
def xg{id ti nx:Int}{held:List A3}{marks:List Mark}{inbox:List A3}(sm:DP held marks inbox):Ri ((id,ti,nx,held,marks,inbox,()),())=I (((id,ti,nx,held,marks,inbox,()),()),()):=by
 unfold Ri;have h1:=sm.hl;have h2:=sm.ml;have h3:=sm.il;simp only[CO,DY,EU,BG (J:held.length<=4294967296),BG (J:marks.length<=4294967296),BG (J:inbox.length<=4294967296),A2]
def ajH{id:Int}:cg (id,())=I ((if isN id then(id,0,1,[],[],[],()) else(0,0,0,[],[],[],()),()),()):=by
 unfold cg;simp only[Je,A6];cases isN id<;>rfl
def aiZ{id:Int}:cT (id,())=I ((if isN id then(id,0,1,[],[],[],()) else(0,0,0,[],[],[],()),()),()):=by
 unfold cT;simp only[Jd,A6];cases isN id<;>rfl
end Go.VS
end
noncomputable section
namespace Go.VS
open Go
def awJ{A R:Type}{t:(A->Option R)->A->Option R}{x:A}{v:R}(hv:∀k r,Bh t k x=I r->r=v)(he:∃k,Bh t k x=I v):NH t x=I v:=by
 cases h:NH t x with
 | none=>
  exfalso;obtain⟨k,hk⟩:=he;unfold NH at h;rw[dif_pos ⟨k,v,hk⟩]at h;cases h
 | some r=>
  obtain⟨k,hk⟩:=aCI h;rw[hv k r hk]
def kI{σ β γ:Type}{b:σ->Option (σ ⊕ (β ⊕ γ))}(st:Nat->σ)(n:Nat)(p:Nat->Bool)(r:β)(fin:γ)
  (h:∀i,i<n->(∀j,j<i->p j=Y)->b (st i)=I (if p i then .inl (st<|i+1) else .inr (.inl r)))
  (hn:(∀j,j<n->p j=Y)->b (st n)=I (.inr<|.inr fin)):AW b (st 0)=I (if B6 n p then .inr fin else .inl r):=by
 have:∀k,k<=n->(∀j,j<n - k->p j=Y)->AW b (st<|n - k)=I (if Lh p k (n - k) then .inr fin else .inl r):=by
  intro k
  induction k with
  | zero=>intro _ hp;exact BF<|hn hp
  | succ k ih=>
   intro hk hp;have h1:=h (n - (k+1)) J hp;unfold Lh;obtain hq|hq:=tf (p<|n - (k+1))
   .rw[hq]at h1;rw[hq,AP];refine As h1 ?_;rw[show n - (k+1)+1=n - k by omega];exact ih J (λj hj=>by
     obtain h2|h2:=HA j (n - (k+1))
     .exact hp j h2
     .rw[show j=n - (k+1) by omega];exact hq)
   .rw[hq]at h1;rw[hq,AM];exact BF h1
 have:=this n (Ar _) (λj hj=>by omega);rwa[Ol]at this
abbrev dcm(u:Nat):List UInt8:=mB u
def KW{u:Nat}(h:u<10):dcm u=[K5 (48+u)]:=Lib.decDigits_one h
def Mh{u:Nat}(h:¬u<10):dcm u=dcm (u / 10)++[K5 (48+u % 10)]:=by rw[dcm,mB,dif_neg h]
def Lf:∀(k u:Nat),1<=k->u<10 ^ k->(dcm u).length<=k
 | 0,_,h,_=>J
 | 1,u,_,h=>by rw[KW J];simp
 | k+2,u,_,h=>by
  by_cases h1:u<10
  .rw[KW h1];simp
  .rw[Mh h1];have:=Lf (k+1) (u / 10) J (by rw[la]at h;omega);simp;omega
def J5(u:Nat):B3 (u:Int)=dcm u:=Lib.itoa_nonneg u
def BW(n:Int):A1:=⟨(B3 n).toArray⟩
def kU{n:Nat}(h:n<10):BH [w8<|w64<|48+(n:Int)]=⟨(dcm n).toArray⟩:=by
 rw[KW h,AZ J J,Mp,show(48+(n:Int)) % 256=((48+n:Nat):Int) by omega];rfl
def aD5(u:Nat):B0 (u:Int) 10=((u / 10:Nat):Int):=rfl
def aDX(u:Nat):BK (u:Int) 10=((u % 10:Nat):Int):=rfl
def kV(u:Nat):BH [w8<|w64<|48+((u % 10:Nat):Int)]=⟨[K5 (48+u % 10)].toArray⟩:=by
 rw[kU J,KW J]
def nD(a b:List UInt8):(⟨a.toArray⟩:A1)++⟨b.toArray⟩=⟨(a++b).toArray⟩:=by
 apply Fw;rw[GI]
def apf:mB 9223372036854775808=[57,50,50,51,51,55,50,48,51,54,56,53,52,55,55,53,56,48,56]:=by
 show dcm _=_
 repeat (first|rw[KW J]|rw[Mh J])
 rfl
def X1:∀(k:Nat) (n:Int),-9223372036854775808<=n->n<=9223372036854775807->∀r,Bh (λg=>GU g) k (n,())=I r->r=((BW n,()),())
 | 0,_,_,_,r,h=>by cases h
 | k+1,n,h0,h1,r,h=>by
  have ih:=X1 k
  replace h:GU (Bh (λg=>GU g) k) (n,())=I r:=h
  generalize Bh (λg=>GU g) k=GJ at ih h;unfold GU at h;by_cases hn:n < -9223372036854775807
  .simp only[hn,AT,A2]at h;cases h;obtain rfl:n= -9223372036854775808:=J
   have:BW (-9223372036854775808)=B [45,57,50,50,51,51,55,50,48,51,54,56,53,52,55,55,53,56,48,56]:=by
    apply Fw;show B3 (-9223372036854775808)=_;rw[show(-9223372036854775808:Int)= -((9223372036854775808:Nat):Int) by rfl,lb _ J];rw[L_B];rw[apf]
   rw[this]
  .rw[A8<|by simpa using hn]at h;by_cases NO:n<0
   .rw[A5<|by simpa using NO]at h;simp only at h;rw[AZ J J]at h;obtain⟨r4,e4,h⟩:=Ah.1 h;have:=ih (0 - n) J J r4 e4;subst this;split at h
    .cases h;obtain⟨u,hu⟩:=HB (J:0<= -n);obtain rfl:n= -(u:Int):=J
     have:BW (-(u:Int))=B [45]++BW (0 - -(u:Int)):=by
      unfold BW;rw[lb _ J,show(0:Int) - -(u:Int)=(u:Int) by omega,J5];rw[B,nD];rfl
     rw[this]
    .cases h
   .rw[A8<|by simpa using NO]at h;obtain⟨u,hu⟩:=HB (J:0<=n);obtain rfl:n=(u:Int):=hu;by_cases hs:u<10
    .rw[A5 y7]at h;simp only at h;cases h;rw[kU hs,BW,J5]
    .rw[A8 y7]at h;simp only[aD5,aDX]at h;rw[AZ J J]at h;obtain⟨r7,e7,h⟩:=Ah.1 h;have:=ih ((u / 10:Nat):Int) J J r7 e7;subst this;split at h
     .cases h;rw[kV,BW,BW,J5,J5,nD,← Mh hs]
     .cases h
def jm:∀(k u:Nat),1<=k->k<=19->u<10 ^ k->u<=9223372036854775807->Bh (λg=>GU g) k ((u:Int),())=I ((⟨(dcm u).toArray⟩,()),())
 | 0,_,h,_,_,_=>J
 | k+1,u,_,hk,h,h63=>by
  have e1:U ((u:Int) < -9223372036854775807)=A0:=by simp
  have e2:U ((u:Int)<0)=A0:=by simp
  have ih:=jm k<|u / 10;show GU (Bh (λg=>GU g) k) _=_;generalize Bh (λg=>GU g) k=GJ at ih;unfold GU;simp only[e1,e2,aD5,aDX,A4];by_cases hs:u<10
  .rw[A5 y7,kU hs]
  .rw[A8 y7,AZ J J];have hk0:1<=k:=by
    obtain rfl|h':=TS k
    .simp at h;omega
    .exact h'
   have hlt:u / 10<10 ^ k:=by rw[la]at h;omega
   have hl:=Lf k (u / 10) hk0 hlt;rw[ih hk0 J hlt J];simp only[A6];rw[A5,kV,nD,← Mh hs];have:(⟨(dcm<|u / 10).toArray⟩:A1).size=(dcm<|u / 10).length:=rfl;rw[decide_eq_true_eq,this,kV];show _+1<=_;omega
def Fm{n:Int}(h0: -9223372036854775808<=n)(h1:n<=9223372036854775807):DN (n,())=I ((BW n,()),()):=by
 refine awJ (λk r h=>X1 k n h0 h1 r h) ?_;have oV:∀u:Nat,u<=9223372036854775807->u<10 ^ 19:=λu hu=>J
 by_cases hn:n < -9223372036854775807
 .refine⟨1, ?_⟩;cases h:Bh (λg=>GU g) 1 (n,()) with
  | none=>simp only[Bh]at h;unfold GU at h;rw[A5<|by simpa using hn]at h;cases h
  | some r=>rw[X1 1 n h0 h1 r h]
 .by_cases NO:n<0
  .refine⟨20, ?_⟩;cases h:Bh (λg=>GU g) 20 (n,()) with
   | none=>
    obtain⟨u,hu⟩:=HB (J:0<= -n);have ih:=jm 19 u J J (oV u J) J
    replace h:GU (Bh (λg=>GU g) 19) (n,())=G:=h
    generalize Bh (λg=>GU g) 19=GJ at ih h;unfold GU at h;rw[A8<|by simpa using hn,A5<|by simpa using NO]at h;simp only at h;rw[AZ J J,show 0 - n=(u:Int) by omega,ih]at h;simp only[A6]at h;rw[A5]at h
    .cases h
    .have hl:=Lf 19 u J<|oV u J;have e:(⟨(dcm u).toArray⟩:A1).size=(dcm u).length:=rfl;rw[decide_eq_true_eq,e];show 1+_<=_;omega
   | some r=>rw[X1 20 n h0 h1 r h]
  .obtain⟨u,hu⟩:=HB (J:0<=n);obtain rfl:n=(u:Int):=hu;exact⟨19,by rw[jm 19 u J J (oV u J) J,BW,J5]⟩
def J8{n:Int}(h0: -9223372036854775808<=n)(h1:n<=9223372036854775807):Iz (n,())=I ((BW n,()),()):=by
 show Th _=_;unfold Th;rw[A5 ⟨h0,h1⟩];rfl
def dig(b:UInt8):Bool:=inB (b.toNat:Int) 48 57
def val(l:List UInt8):Nat:=l.foldl (λa b=>10 * a+(b.toNat - 48)) 0
def Xh(l:List UInt8)(b:UInt8):val (l++[b])=10 * val l+(b.toNat - 48):=by simp[val]
def arm{l:List UInt8}{i:Nat}(h:i<l.length):l.take (i+1)=l.take i++[l.getD i 0]:=by
 rw[JJ,Av h];simp[h]
def Yt:∀(k:Nat) (l:List UInt8),l.length<=k->(∀b∈l,dig b=Y)->val l<10 ^ k:=by
 intro k
 induction k with
 | zero=>
  intro l hl _;obtain rfl:l=[]:=Dw J;decide
 | succ k ih=>
  intro l hl hd;obtain rfl|⟨m,b,rfl⟩:=aBc l
  .exact Nat.pow_pos aE9
  .simp at hl hd;have h1:=ih m J (λx hx=>hd x<|.inl hx);have h2:=hd b<|.inr rfl;rw[aBd,Xh,la];have h3:=Aa.1 h2;omega
def avi{m:List UInt8}:∀ {b:UInt8},dig b=Y->b≠48->(∀x∈m,dig x=Y)->1<=val (b::m):=by
 intro b hb hne hd;have h0:1<=val [b]:=by
  have:=Aa.1 hb;have hn:b.toNat≠48:=λh=>hne<|QM.1 h;simp[val];omega
 have:∀(m:List UInt8) (a:Nat),1<=a->1<=m.foldl (λa b=>10 * a+(b.toNat - 48)) a:=by
  intro m
  induction m with
  | nil=>intro a h;exact h
  | cons x m ih=>intro a h;exact ih _<|show 1<=10 * a+(x.toNat - 48) by omega
 exact this m _<|by simpa[val] using h0
def JE(l:List UInt8):Bool:=match l with
 | []=>A0
 | [_]=>Y
 | b::_::_=> !decide (b=48)
def aa5:∀(k:Nat) (l:List UInt8),l.length=k->(∀b∈l,dig b=Y)->JE l=Y->dcm (val l)=l:=by
 intro k
 induction k with
 | zero=>intro l hl _ h;obtain rfl:l=[]:=Dw hl;cases h
 | succ k ih=>
  intro l hl hd aby;obtain rfl|⟨m,b,rfl⟩:=aBc l
  .cases aby
  .rw[aBd]at *;simp at hl;have hb:=hd b aE4;have hb2:=Aa.1 hb;have hof:∀n,b.toNat=n->K5 n=b:=λn h=>by rw[← h];simp
   cases m with
   | nil=>
    have:val ([]++[b])=b.toNat - 48:=by simp[val]
    rw[this,KW J,hof _ J];rfl
   | cons c m=>
    have hc:c≠48:=by
     cases m<;>simpa[JE] using aby
    have h1:=avi (m:=m) (hd c aE4) hc (λx hx=>hd x<|by simp[hx]);rw[Xh,Mh J,show(10 * val (c::m)+(b.toNat - 48)) / 10=val (c::m) by omega,show(10 * val (c::m)+(b.toNat - 48)) % 10=b.toNat - 48 by omega,
     ih (c::m) hl (λx hx=>hd x<|Bv _ hx) (by cases m<;>simp[JE,hc]),hof _ J]
def YE:∀(k u:Nat),u<k->∀b∈dcm u,dig b=Y:=by
 intro k
 induction k with
 | zero=>intro u h;omega
 | succ k ih=>
  intro u h b hb;have hd:∀n,n<10->dig (K5<|48+n)=Y:=λn hn=>by
   have:(K5<|48+n).toNat=48+n:=by simp;omega
   unfold dig;rw[this];exact Aa.2 ⟨J,J⟩
  by_cases hu:u<10
  .rw[KW hu]at hb;obtain rfl:=CL.1 hb;exact hd u hu
  .rw[Mh hu]at hb;obtain hb|hb:=BM.1 hb
   .exact ih (u / 10) J b hb
   .obtain rfl:=CL.1 hb;exact hd _ J
def YK:∀(k u:Nat),u<k->val (dcm u)=u:=by
 intro k
 induction k with
 | zero=>intro u h;omega
 | succ k ih=>
  intro u h;by_cases hu:u<10
  .rw[KW hu];have:(K5<|48+u).toNat=48+u:=by simp;omega
   simp only[val,Dv,K7,this];omega
  .rw[Mh hu,Xh,ih (u / 10) J];have:(K5<|48+u % 10).toNat=48+u % 10:=by simp;omega
   rw[this];omega
def n8(u:Nat):dcm u≠[]:=by
 by_cases hu:u<10
 .rw[KW hu];simp
 .rw[Mh hu];simp
def aDg:∀(k u:Nat),u<k->JE (dcm u)=Y/\(1<=u->∃b m,dcm u=b::m/\b≠48):=by
 intro k
 induction k with
 | zero=>intro u h;omega
 | succ k ih=>
  intro u h;by_cases hu:u<10
  .rw[KW hu];refine⟨rfl,λh1=>⟨_,_,rfl,λh2=> ?_⟩⟩;have:(K5<|48+u).toNat=48+u:=by simp;omega
   rw[h2]at this;simp at this;omega
  .obtain⟨b,m,h1,h2⟩:=(ih (u / 10) J).2 J;rw[Mh hu,h1];refine⟨?_,λ_=>⟨b,_,rfl,h2⟩⟩;cases m<;>simp[JE,h2]
def Jt(l:List UInt8):Option Nat:=if l.all dig&&JE l then I (val l) else G
def Po{l:List UInt8}{n:Nat}:Jt l=I n↔l=dcm n:=by
 unfold Jt;constructor
 .intro h;split at h
  .rename_i hc;simp at hc;cases h;exact(aa5 _ l rfl hc.1 hc.2).symm
  .cases h
 .rintro rfl;rw[A5,YK (n+1) n J];simp only[AD,DK];exact⟨YE (n+1) n J,(aDg (n+1) n J).1⟩
def axg{s:A1}{i:Nat}:inB (bt s i) 48 57=dig ((L s).getD i 0):=rfl
def aEm{l:List UInt8}{f:UInt8->Bool}:B6 l.length (λi=>f<|l.getD i 0)=l.all f:=by
 rw[Mz,Cp,DK];constructor
 .intro h x hx;obtain⟨i,hi,rfl⟩:=D0 hx;have:=h i hi;simpa[hi] using this
 .intro h i hi;simpa[hi] using h _<|Cd hi
def aAT{s:A1}{i:Nat}(h:∀j,j<i->inB (bt s j) 48 57=Y)(hi:i<=s.size):∀b∈(L s).take i,dig b=Y:=by
 intro b hb;obtain⟨j,hj,rfl⟩:=D0 hb;simp at hj;have h1:=h j J;rw[axg]at h1;have h2:j<(L s).length:=by rw[Aw];omega
 rw[List.getElem_take];have e:(L s).getD j 0=(L s)[j]:=by rw[B9,Av h2];rfl
 rwa[e]at h1
def aDU{s:A1}{i:Nat}(hi:i<s.size):val ((L s).take<|i+1)=10 * val ((L s).take i)+(((L s).getD i 0).toNat - 48):=by
 rw[arm (by rw[Aw];exact hi),Xh]
def Aq(s:A1):Int×Bool:=if s.size<=5 then(match Jt (L s) with|some n=>((n:Int),Y)|none=>(0,A0)) else(0,A0)
def avA{s:A1}(h:1<=s.size):JE (L s)= !(U (bt s 0=48)&&U (1<(s.size:Int))):=by
 rw[show s.size=(L s).length from rfl]at *;unfold bt;show _= !(U ((((L s).getD 0 0).toNat:Int)=48)&&_);generalize L s=l at *
 match l with
 | []=>simp at h
 | [b]=>simp[JE]
 | b::c::m=>
  have:(((b:UInt8).toNat:Int)=48)↔b=48:=⟨λh=>QM.1 (by show b.toNat=48;omega),λh=>by subst h;rfl⟩;simp only[JE,List.getD_cons_zero,this];simp;omega
def aAr(s:A1):(L s).take s.size=L s:=K4 (by rw[Aw];exact Ar _)
def ee{s:A1}(hs:s.size<=9223372036854775807):PU (s,())=I (((Aq s).1,(Aq s).2,()),()):=by
 unfold PU Aq;simp only[EJ,A6];by_cases h5:s.size<=5
 .by_cases h1:1<=s.size
  .have e1:inB (s.size:Int) 1 5=Y:=Aa.2 ⟨J,J⟩;have e2:inb 0 s.size=Y:=by have:=AU (J:0<s.size);simpa using this
   have Gm:qH (s,0,0,())=I (if B6 s.size (λi=>inB (bt s i) 48 57) then .inr ((val (L s):Int),()) else .inl (0,A0,())):=by
    rw[← aAr s];refine kI (λi=>(s,(val ((L s).take i):Int),(i:Int),())) s.size (λi=>inB (bt s i) 48 57) (0,A0,()) ((val ((L s).take s.size):Int),()) (λi hi hp=> ?_) (λ_=>by simp[dG]);unfold dG;simp only[AU hi,BL hi,aan,EJ,A6,BC hi (by omega:s.size<=9223372036854775807)];obtain h|h:=tf (inB (bt s i) 48 57)
    .have hv:=Yt 5 _ y7<|aAT hp J;have hb:=Aa.1 h;have e:w64 (w64 (10 * (val ((L s).take i):Int))+w64 (w8<|bt s i - 48))=(val ((L s).take<|i+1):Int):=by
      rw[aDU hi,Mp,AZ (n:=10 * _) J J,lT J J,AZ (n:=bt s i - 48) J J,AZ J J];rw[Jm]at hb ⊢;omega
     simp only[h,e];rfl
    .simp only[h];rfl
   rw[e1,e2,A5 h5];simp only[Gm,AB,AG,Bk,IT,A2];have It:B6 s.size (λi=>inB (bt s i) 48 57)=(L s).all dig:=aEm (l:=L s) (f:=dig);rw[It];unfold Jt;rw[avA h1];obtain h|h:=tf (U (bt s 0=48)&&U (1<(s.size:Int)))
   .rw[h];simp
   .rw[h];obtain h'|h':=tf ((L s).all dig)
    .rw[h'];rfl
    .rw[h'];rfl
  .have e1:inB (s.size:Int) 1 5=A0:=by simp[inB];omega
   have:L s=[]:=Dw (by rw[Aw];omega);rw[e1,A5 h5,this];simp[Jt,JE]
 .have e1:inB (s.size:Int) 1 5=A0:=by simp[inB];omega
  rw[e1,A8 h5];simp
def Ad(s:A1):Int:=if s.size<=4 then(match Jt (L s) with|some n=>(n:Int)|none=> -1) else -1
def aDh(u:Nat):BW (u:Int)=⟨(dcm u).toArray⟩:=by rw[BW,J5]
def iQ{s:A1}(hs:s.size<=9223372036854775807):Pb (s,())=I ((Ad s,()),()):=by
 unfold Pb Ad;by_cases h5:s.size<=4
 .by_cases h1:1<=s.size
  .have e1:(U ((s.size:Int)<1)||decide (4<(s.size:Int)))=A0:=by simp;omega
   have Gm:rJ (s,0,0,())=I (if B6 s.size (λi=>inB (bt s i) 48 57) then .inr (s,(val (L s):Int),()) else .inl (-1,())):=by
    rw[← aAr s];refine kI (λi=>(s,(val ((L s).take i):Int),(i:Int),())) s.size (λi=>inB (bt s i) 48 57) (-1,()) (s,(val ((L s).take s.size):Int),()) (λi hi hp=> ?_) (λ_=>by simp[fE]);unfold fE;simp only[AU hi,BL hi,BC hi (by omega:s.size<=9223372036854775807)];obtain h|h:=tf (inB (bt s i) 48 57)
    .have hv:=Yt 5 _ y7<|aAT hp J;have hb:=Aa.1 h;have e:w64 (w64 ((val ((L s).take i):Int) * 10)+w64 (w8<|bt s i - 48))=(val ((L s).take<|i+1):Int):=by
      rw[aDU hi,Mp,AZ (n:=_ * 10) J J,lT J J,AZ (n:=bt s i - 48) J J,AZ J J];rw[Jm]at hb ⊢;omega
     have e2:U (bt s i<48)=A0:=by simp;omega
     have e3:U (57<bt s i)=A0:=by simp;omega
     simp only[h,e,e2,e3];rfl
    .have hb:bt s i<48\/57<bt s i:=by
      have:=mt Aa.2 (by rw[h];simp);omega
     simp only[h];obtain hb|hb:=hb
     .simp[hb]
     .have:¬bt s i<48:=J
      simp[hb,this]
   rw[e1,A5 h5];simp only[Gm,A4];have It:B6 s.size (λi=>inB (bt s i) 48 57)=(L s).all dig:=aEm (l:=L s) (f:=dig);rw[It];unfold Jt;obtain h'|h':=tf ((L s).all dig)
   .have hd:=DK.1 h';have hv:=Yt 5 (L s) (by rw[Aw];omega) hd;simp only[h',A2,Co,AP,Fm (n:=(val (L s):Int)) J J,A6,aDh];obtain hl|hl:=tf (JE<|L s)
    .have:(⟨(dcm<|val<|L s).toArray⟩:A1)=s:=by
      apply Fw;rw[ng,aa5 _ _ rfl hd hl]
     simp[this,hl]
    .have:¬(⟨(dcm<|val<|L s).toArray⟩:A1)=s:=λh=>by
      have h2:=congrArg L h;rw[ng]at h2;rw[← h2,(aDg (val (L s)+1) _ J).1]at hl;cases hl
     simp[this,hl]
   .rw[h'];rfl
  .have e1:(U ((s.size:Int)<1)||decide (4<(s.size:Int)))=Y:=by simp;omega
   have:L s=[]:=Dw (by rw[Aw];omega);rw[e1,A5 h5,this];simp[Jt,JE]
 .have e1:(U ((s.size:Int)<1)||decide (4<(s.size:Int)))=Y:=by simp;omega
  rw[e1,A8 h5];simp
def auO{s:A1}{n:Nat}:Aq s=((n:Int),Y)↔s.size<=5/\L s=dcm n:=by
 unfold Aq;by_cases h:s.size<=5
 .rw[A5 h];constructor
  .intro h2;cases h3:Jt (L s) with
   | none=>rw[h3]at h2;cases h2
   | some m=>
    rw[h3]at h2;simp at h2;exact⟨h,by rw[Po.1 h3,show m=n by omega]⟩
  .rintro⟨_,h2⟩;rw[Po.2 h2]
 .rw[A8 h];constructor
  .intro h2;cases h2
  .rintro⟨h2,_⟩;exact absurd h2 h
def S5(s:A1):Aq s=(0,A0)\/ ∃n:Nat,Aq s=((n:Int),Y)/\s.size<=5/\L s=dcm n:=by
 unfold Aq;by_cases h:s.size<=5
 .rw[A5 h];cases h2:Jt (L s) with
  | none=>exact .inl rfl
  | some n=>exact .inr ⟨n,rfl,h,Po.1 h2⟩
 .rw[A8 h];exact .inl rfl
def S2(s:A1):(Ad s= -1/\ ∀n,L s=dcm n->4<s.size)\/ ∃n:Nat,Ad s=(n:Int)/\s.size<=4/\L s=dcm n:=by
 unfold Ad;by_cases h:s.size<=4
 .rw[A5 h];cases h2:Jt (L s) with
  | none=>exact .inl ⟨rfl,λn hn=>by rw[Po.2 hn]at h2;cases h2⟩
  | some n=>exact .inr ⟨n,rfl,h,Po.1 h2⟩
 .rw[A8 h];exact .inl ⟨rfl,λn _=>by omega⟩
def lG{s:A1}{n:Nat}(h:s.size<=4)(hn:L s=dcm n):Ad s=(n:Int):=by
 unfold Ad;rw[A5 h,Po.2 hn]
def jd{s:A1}{n:Nat}(h:s.size<=5)(hn:L s=dcm n):Aq s=((n:Int),Y):=auO.2 ⟨h,hn⟩
section
variable {α:Type} (f:α->Bool)
def ins(l:List α)(n:α):List α:=l.takeWhile f++n::l.dropWhile f
abbrev tw(l:List α):Nat:=(l.takeWhile f).length
def Qc(l:List α):tw f l<=l.length:=by
 exact(aBX f).length_le
def YL(l:List α):l.take (tw f l)=l.takeWhile f:=by
 have:=List.take_left (l₁:=l.takeWhile f) (l₂:=l.dropWhile f);rwa[YZ]at this
def YM(l:List α):l.drop (tw f l)=l.dropWhile f:=by
 have:=List.drop_left (l₁:=l.takeWhile f) (l₂:=l.dropWhile f);rwa[YZ]at this
def Tc:∀ {l:List α} {i:Nat} {x:α},i<tw f l->l[i]? =I x->f x=Y
 | [],i,x,h,hx=>by simp at hx
 | y::l,i,x,h,hx=>by
  unfold tw at h;rw[QR]at h;split at h
  .rename_i hy;cases i with
   | zero=>simp at hx;subst hx;exact hy
   | succ i=>exact Tc (l:=l) (i:=i) (by simpa using h) (by simpa using hx)
  .simp at h
def Td:∀ {l:List α} {x:α},l[tw f l]? =I x->f x=A0
 | [],x,hx=>by simp at hx
 | y::l,x,hx=>by
  unfold tw at hx;rw[QR]at hx;split at hx
  .exact Td (l:=l) (by simpa using hx)
  .rename_i hy;simp at hx;subst hx;simpa using hy
def Nw(l:List α)(n:α):(ins f l n).length=l.length+1:=by
 have:=congrArg JP<|YZ (p:=f) (l:=l);rw[Au]at this;simp only[ins,Au,Bj];omega
def GX{l:List α}{n x:α}(h:x∈ins f l n):x=n\/x∈l:=by
 unfold ins at h;rw[BM,Bl]at h;obtain h|h|h:=h
 .exact .inr ((aBX f).mem h)
 .exact .inl h
 .exact .inr<|(List.dropWhile_sublist f).mem h
def Ka{l:List α}{n x:α}(h:x=n\/x∈l):x∈ins f l n:=by
 unfold ins;rw[BM,Bl];obtain h|h:=h
 .exact .inr (.inl h)
 .rw[← YZ (p:=f) (l:=l),BM]at h;obtain h|h:=h
  .exact .inl h
  .exact .inr<|.inr h
end
def kQ{α:Type}{f g:α->Bool}:∀ {l:List α},(∀x∈l,f x=g x)->l.takeWhile f=l.takeWhile g/\l.dropWhile f=l.dropWhile g
 | [],_=>⟨rfl,rfl⟩
 | x::l,h=>by
  have ih:=kQ (l:=l) (λy hy=>h y<|Ai _ hy);rw[QR,QR,lQ,lQ,h x An,ih.1,ih.2];exact⟨rfl,rfl⟩
def aCp{α:Type}{f g:α->Bool}{l:List α}{n:α}(h:∀x∈l,f x=g x):ins f l n=ins g l n:=by
 unfold ins;rw[(kQ h).1,(kQ h).2]
def DT{l:List A3}{i:Nat}{x:A3}(h:l[i]? =I x):nA l i=x:=OF h
def Fc{l:List Mark}{i:Nat}{x:Mark}(h:l[i]? =I x):mA l i=x:=OF h
def Du(l:List A3)(n:A3):List A3:=ins (λx=>bef x.fr x.nu n.fr n.nu) l n
def ED(l:List Mark)(n:Mark):List Mark:=ins (λx=>bef x.mf x.mn n.mf n.mn) l n
def X7{α:Type}{l:List α}{i:Nat}{x:α}(h:l[i]? =I x):l.take i++[x]=l.take (i+1):=by
 rw[JJ,h];rfl
def aC4{α:Type}{l:List α}{i j:Nat}{x:α}(h:l[i]? =I x)(hj:j<=i):(l.take i).drop j++[x]=(l.take<|i+1).drop j:=by
 have hi:=(BO.1 h).1;rw[← X7 h,TJ y7]
def DJ{α:Type}(g:α->Bool)(l:List α)(n:α)(i:Nat):List α:=if i<=tw g l then l.take i else l.take (tw g l)++n::(l.take i).drop (tw g l)
def XC{α:Type}(g:α->Bool)(l:List α)(n:α)(i:Nat):(DJ g l n i).length<=l.length+1:=by
 have:=Qc g l;unfold DJ;split<;>simp<;>omega
def aCA{α:Type}(g:α->Bool)(l:List α)(n:α):(if tw g l<l.length then DJ g l n l.length else DJ g l n l.length++[n])=ins g l n:=by
 have h:=Qc g l;unfold DJ ins;split
 .rw[A8 J,E5,YL,YM]
 .rw[A5 J,E5];have:tw g l=l.length:=J
  rw[← YL,← YM,this];simp
def aDN{α:Type}{g:α->Bool}{l:List α}{n x:α}{i:Nat}(h:l[i]? =I x)(hi:i<tw g l):DJ g l n i++[x]=DJ g l n (i+1):=by
 unfold DJ;rw[A5 J,A5 J,X7 h]
def aCy{α:Type}{g:α->Bool}{l:List α}{n x:α}{i:Nat}(h:l[i]? =I x)(hi:i=tw g l):DJ g l n i++[n]++[x]=DJ g l n (i+1):=by
 subst hi;unfold DJ;rw[A5<|Ar _,A8 J,← aC4 h<|Ar _];simp
def aCx{α:Type}{g:α->Bool}{l:List α}{n x:α}{i:Nat}(h:l[i]? =I x)(hi:tw g l<i):DJ g l n i++[x]=DJ g l n (i+1):=by
 unfold DJ;rw[A8 J,A8 J,← aC4 h J];simp
def fO{l:List A3}{fr nu tt un:Int}{tx:A1}(hl:l.length<=1048576):PZ (l,(fr,nu,tt,un,tx,()),())=I ((Du l ⟨fr,nu,tt,un,tx⟩,()),()):=by
 have ht:=Qc (λx:A3=>bef x.fr x.nu fr nu) l;have h:rF (l,(fr,nu,tt,un,tx,()),0,())=I (.inr (l,(fr,nu,tt,un,tx,()),((tw (λx:A3=>bef x.fr x.nu fr nu) l:Nat):Int),())):=
  CS (λi=>(l,(fr,nu,tt,un,tx,()),(i:Int),())) (tw (λx:A3=>bef x.fr x.nu fr nu) l) (λi hi=>by
   have hi':i<l.length:=J
   have hx:=Av hi';unfold eZ;simp only[AU hi',BL hi',Da,Rt,BC hi' (by omega:l.length<=9223372036854775807),DT hx,Tc (λx:A3=>bef x.fr x.nu fr nu) hi hx];rfl) (by
   unfold eZ;generalize ht2:tw (λx:A3=>bef x.fr x.nu fr nu) l=t at *;obtain hlt|hge:=HA t l.length
   .have hx:=Av hlt;have:=Td (λx:A3=>bef x.fr x.nu fr nu) (l:=l) (x:=l[t]) (by rw[ht2];exact hx);simp only[AU hlt,BL hlt,Da,Rt,DT hx,this];rfl
   .have e:U ((t:Int)<(j8 l:Int))=A0:=by simp;omega
    simp only[e,HJ,A2,AM,A4])
 unfold PZ;have hb:(U (0<=((tw (λx:A3=>bef x.fr x.nu fr nu) l:Nat):Int))&&U (((tw (λx:A3=>bef x.fr x.nu fr nu) l:Nat):Int)<=(j8 l:Int)))=Y:=by simp;omega
 simp only[h,Co,hb,A2,Bc,EU,CO,DY,Au,Bj,Dh,EF];rw[A5<|BG J,A5<|BG J,A5<|BG J,YL,YM];simp[Du,ins]
def Ou(l:List A3)(n:A3):List A3:=ins (λx=> !bef n.fr n.nu x.fr x.nu) l n
def bk{l:List A3}{fr nu tt un:Int}{tx:A1}(hl:l.length<=1048576):PC (l,(fr,nu,tt,un,tx,()),())=I ((Ou l ⟨fr,nu,tt,un,tx⟩,()),()):=by
 let g:A3->Bool:=λx=> !bef fr nu x.fr x.nu
 have ht:=Qc g l;have h:pN (l,(fr,nu,tt,un,tx,()),[],A0,0,())=I (.inr ((fr,nu,tt,un,tx,()),DJ g l ⟨fr,nu,tt,un,tx⟩ l.length,U<|tw g l<l.length,())):=by
  refine CS (λi=>(l,(fr,nu,tt,un,tx,()),DJ g l ⟨fr,nu,tt,un,tx⟩ i,U<|tw g l<i,(i:Int),())) l.length (λi hi=> ?_) (by simp[bS]);have hx:=Av hi;have hr:=XC g l ⟨fr,nu,tt,un,tx⟩ i;unfold bS;simp only[AU hi,BL hi,Da,WT,BC hi (by omega:l.length<=9223372036854775807),DT hx,Bj,CO,DY,BG<|show(DJ g l ⟨fr,nu,tt,un,tx⟩ i).length+1<=4294967296 by omega];obtain hlt|heq|hgt:=IA i (tw g l)
  .have h1:bef fr nu l[i].fr l[i].nu=A0:=by simpa[g] using Tc g hlt hx
   have h2:U (tw g l<i)=A0:=by simp;omega
   have h3:U (tw g l<i+1)=A0:=by simp;omega
   simp only[h1,h2,h3,IT,AG,A2,Dg,DX,BZ,A4,Be,Da,DT hx,AU hi,BG<|show(DJ g l ⟨fr,nu,tt,un,tx⟩ i).length+1<=4294967296 by omega,aDN hx hlt,BC hi (by omega:l.length<=9223372036854775807)]
  .have hx2:l[tw g l]? =I l[i]:=by rw[← heq];exact hx
   have h1:bef fr nu l[i].fr l[i].nu=Y:=by simpa[g] using Td g hx2
   have h2:U (tw g l<i)=A0:=by simp;omega
   have h3:U (tw g l<i+1)=Y:=by simp;omega
   have h4:DJ g l ⟨fr,nu,tt,un,tx⟩ i++[⟨fr,nu,tt,un,tx⟩]++[l[i]]=DJ g l ⟨fr,nu,tt,un,tx⟩ (i+1):=aCy hx heq;simp only[h1,h2,h3,h4,IT,AG,A2,Dg,DX,EW,Be,Da,DT hx,AU hi,Au,Bj,CO,DY,BG<|show(DJ g l ⟨fr,nu,tt,un,tx⟩ i).length+1+1<=4294967296 by omega,BC hi (by omega:l.length<=9223372036854775807)]
  .have h2:U (tw g l<i)=Y:=by simp;omega
   have h3:U (tw g l<i+1)=Y:=by simp;omega
   simp only[h2,h3,HJ,AB,A2,AM,A4,Be,Da,DT hx,AU hi,BG<|show(DJ g l ⟨fr,nu,tt,un,tx⟩ i).length+1<=4294967296 by omega,aCx hx hgt,BC hi (by omega:l.length<=9223372036854775807)]
 unfold PC;simp only[h,Co];have he:=aCA g l ⟨fr,nu,tt,un,tx⟩;have hr:=XC g l ⟨fr,nu,tt,un,tx⟩ l.length;unfold Ou;show _=I ((ins g l _,()),());rw[← he];by_cases hc:tw g l<l.length
 .simp[hc]
 .simp[hc,BG<|show(DJ g l ⟨fr,nu,tt,un,tx⟩ l.length).length+1<=4294967296 by omega]
def Gy(t:Int)(l:List A3):List A3:=l.filter λx=>U<|t<x.un
def iB{l:List Mark}{mf mn mu:Int}(hl:l.length<=1048576):Rq (l,(mf,mn,mu,()),())=I ((ED l ⟨mf,mn,mu⟩,()),()):=by
 have ht:=Qc (λx:Mark=>bef x.mf x.mn mf mn) l;have h:qt (l,(mf,mn,mu,()),0,())=I (.inr (l,(mf,mn,mu,()),((tw (λx:Mark=>bef x.mf x.mn mf mn) l:Nat):Int),())):=
  CS (λi=>(l,(mf,mn,mu,()),(i:Int),())) (tw (λx:Mark=>bef x.mf x.mn mf mn) l) (λi hi=>by
   have hi':i<l.length:=J
   have hx:=Av hi';unfold eK;simp only[AU hi',BL hi',FJ,Rt,BC hi' (by omega:l.length<=9223372036854775807),Fc hx,Tc (λx:Mark=>bef x.mf x.mn mf mn) hi hx];rfl) (by
   unfold eK;generalize ht2:tw (λx:Mark=>bef x.mf x.mn mf mn) l=t at *;obtain hlt|hge:=HA t l.length
   .have hx:=Av hlt;have:=Td (λx:Mark=>bef x.mf x.mn mf mn) (l:=l) (x:=l[t]) (by rw[ht2];exact hx);simp only[AU hlt,BL hlt,FJ,Rt,Fc hx,this];rfl
   .have e:U ((t:Int)<(j8 l:Int))=A0:=by simp;omega
    simp only[e,HJ,A2,AM,A4])
 unfold Rq;have hb:(U (0<=((tw (λx:Mark=>bef x.mf x.mn mf mn) l:Nat):Int))&&U (((tw (λx:Mark=>bef x.mf x.mn mf mn) l:Nat):Int)<=(j8 l:Int)))=Y:=by simp;omega
 simp only[h,Co,hb,A2,Bc,EU,CO,DY,Au,Bj,Dh,EF];rw[A5<|BG J,A5<|BG J,A5<|BG J,YL,YM];simp[ED,ins]
def Ov(l:List Mark)(n:Mark):List Mark:=ins (λx=> !bef n.mf n.mn x.mf x.mn) l n
def qe{l:List Mark}{mf mn mu:Int}(hl:l.length<=1048576):RH (l,(mf,mn,mu,()),())=I ((Ov l ⟨mf,mn,mu⟩,()),()):=by
 let g:Mark->Bool:=λx=> !bef mf mn x.mf x.mn
 have ht:=Qc g l;have h:pF (l,(mf,mn,mu,()),[],A0,0,())=I (.inr ((mf,mn,mu,()),DJ g l ⟨mf,mn,mu⟩ l.length,U<|tw g l<l.length,())):=by
  refine CS (λi=>(l,(mf,mn,mu,()),DJ g l ⟨mf,mn,mu⟩ i,U<|tw g l<i,(i:Int),())) l.length (λi hi=> ?_) (by simp[bT]);have hx:=Av hi;have hr:=XC g l ⟨mf,mn,mu⟩ i;unfold bT;simp only[AU hi,BL hi,FJ,WT,BC hi (by omega:l.length<=9223372036854775807),Fc hx,Bj,CO,DY,BG<|show(DJ g l ⟨mf,mn,mu⟩ i).length+1<=4294967296 by omega];obtain hlt|heq|hgt:=IA i (tw g l)
  .have h1:bef mf mn l[i].mf l[i].mn=A0:=by simpa[g] using Tc g hlt hx
   have h2:U (tw g l<i)=A0:=by simp;omega
   have h3:U (tw g l<i+1)=A0:=by simp;omega
   simp only[h1,h2,h3,IT,AG,A2,Dg,DX,BZ,A4,Be,FJ,Fc hx,AU hi,BG<|show(DJ g l ⟨mf,mn,mu⟩ i).length+1<=4294967296 by omega,aDN hx hlt,BC hi (by omega:l.length<=9223372036854775807)]
  .have hx2:l[tw g l]? =I l[i]:=by rw[← heq];exact hx
   have h1:bef mf mn l[i].mf l[i].mn=Y:=by simpa[g] using Td g hx2
   have h2:U (tw g l<i)=A0:=by simp;omega
   have h3:U (tw g l<i+1)=Y:=by simp;omega
   have h4:DJ g l ⟨mf,mn,mu⟩ i++[⟨mf,mn,mu⟩]++[l[i]]=DJ g l ⟨mf,mn,mu⟩ (i+1):=aCy hx heq;simp only[h1,h2,h3,h4,IT,AG,A2,Dg,DX,EW,Be,FJ,Fc hx,AU hi,Au,Bj,CO,DY,BG<|show(DJ g l ⟨mf,mn,mu⟩ i).length+1+1<=4294967296 by omega,BC hi (by omega:l.length<=9223372036854775807)]
  .have h2:U (tw g l<i)=Y:=by simp;omega
   have h3:U (tw g l<i+1)=Y:=by simp;omega
   simp only[h2,h3,HJ,AB,A2,AM,A4,Be,FJ,Fc hx,AU hi,BG<|show(DJ g l ⟨mf,mn,mu⟩ i).length+1<=4294967296 by omega,aCx hx hgt,BC hi (by omega:l.length<=9223372036854775807)]
 unfold RH;simp only[h,Co];have he:=aCA g l ⟨mf,mn,mu⟩;have hr:=XC g l ⟨mf,mn,mu⟩ l.length;unfold Ov;show _=I ((ins g l _,()),());rw[← he];by_cases hc:tw g l<l.length
 .simp[hc]
 .simp[hc,BG<|show(DJ g l ⟨mf,mn,mu⟩ l.length).length+1<=4294967296 by omega]
def Jn(t:Int)(l:List Mark):List Mark:=l.filter λx=>U<|t<x.mu
def WL{α:Type}{l:List α}{f:α->Bool}{i:Nat}{x:α}(h:l[i]? =I x):(l.take<|i+1).filter f=(l.take i).filter f++(if f x then [x] else []):=by
 rw[← X7 h,QX];congr 1;cases hf:f x<;>simp[hf]
def Wm{α:Type}{l:List α}{f:α->Bool}{i:Nat}:((l.take i).filter f).length<=l.length:=by
 have:=Io f<|l.take i;simp at this;omega
def amG{id ti nx t:Int}{held:List A3}{marks:List Mark}{inbox:List A3}(sm:DP held marks inbox):eR ((id,ti,nx,held,marks,inbox,()),t,())=I (((id,t,nx,Gy t held,Jn t marks,inbox,()),()),()):=by
 have hl:=sm.hl;have ml:=sm.ml;have h0:qN (t,(id,ti,nx,held,marks,inbox,()),(0,0,0,[],[],[],()),(id,t,nx,[],[],inbox,()),held,(held.length:Int),0,())=I (.inr (t,(id,ti,nx,held,marks,inbox,()),(0,0,0,[],[],[],()),(id,t,nx,Gy t held,[],inbox,()),())):=by
  rw[show Gy t held=(held.take held.length).filter (λx=>U<|t<x.un) by rw[E5];rfl];refine CS (λi=>(t,(id,ti,nx,held,marks,inbox,()),(0,0,0,[],[],[],()),(id,t,nx,(held.take i).filter λx=>U<|t<x.un,[],inbox,()),held,(held.length:Int),(i:Int),())) held.length (λi hi=> ?_) (by simp[dK]);have hx:=Av hi;have hr:=Wm (l:=held) (f:=λx=>U<|t<x.un) (i:=i);unfold dK;simp only[AU hi,BL hi,Da,DT hx,BC hi (by omega:held.length<=9223372036854775807),WL hx,Bj,CO,DY,BG<|show((held.take i).filter λx=>U<|t<x.un).length+1<=4294967296 by omega];by_cases hc:t<held[i].un<;>simp[hc]
 have h1:qM (t,(0,0,0,[],[],[],()),(id,t,nx,Gy t held,[],inbox,()),marks,(marks.length:Int),0,())=I (.inr ((0,0,0,[],[],[],()),(id,t,nx,Gy t held,Jn t marks,inbox,()),())):=by
  rw[show Jn t marks=(marks.take marks.length).filter (λx=>U<|t<x.mu) by rw[E5];rfl];refine CS (λi=>(t,(0,0,0,[],[],[],()),(id,t,nx,Gy t held,(marks.take i).filter λx=>U<|t<x.mu,inbox,()),marks,(marks.length:Int),(i:Int),())) marks.length (λi hi=> ?_) (by simp[dJ]);have hx:=Av hi;have hr:=Wm (l:=marks) (f:=λx=>U<|t<x.mu) (i:=i);unfold dJ;simp only[AU hi,BL hi,FJ,Fc hx,BC hi (by omega:marks.length<=9223372036854775807),WL hx,Bj,CO,DY,BG<|show((marks.take i).filter λx=>U<|t<x.mu).length+1<=4294967296 by omega];by_cases hc:t<marks[i].mu<;>simp[hc]
 unfold eR;simp only[h0,h1,Co]
def alq{id ti nx t:Int}{held:List A3}{marks:List Mark}{inbox:List A3}(sm:DP held marks inbox):dj ((id,ti,nx,held,marks,inbox,()),t,())=I (((id,t,nx,Gy t held,Jn t marks,inbox,()),()),()):=by
 have hl:=sm.hl;have ml:=sm.ml;have h0:py (t,(id,ti,nx,held,marks,inbox,()),(0,0,0,[],[],[],()),[],0,())=I (.inr (t,(id,ti,nx,held,marks,inbox,()),(0,0,0,[],[],[],()),Gy t held,())):=by
  rw[show Gy t held=(held.take held.length).filter (λx=>U<|t<x.un) by rw[E5];rfl];refine CS (λi=>(t,(id,ti,nx,held,marks,inbox,()),(0,0,0,[],[],[],()),(held.take i).filter λx=>U<|t<x.un,(i:Int),())) held.length (λi hi=> ?_) (by simp[dZ]);have hx:=Av hi;have hr:=Wm (l:=held) (f:=λx=>U<|t<x.un) (i:=i);unfold dZ;simp only[AU hi,BL hi,Da,DT hx,BC hi (by omega:held.length<=9223372036854775807),WL hx,Bj,CO,DY,BG<|show((held.take i).filter λx=>U<|t<x.un).length+1<=4294967296 by omega];by_cases hc:t<held[i].un<;>simp[hc]
 have h1:qB (t,(id,ti,nx,held,marks,inbox,()),(0,0,0,[],[],[],()),Gy t held,[],0,())=I (.inr (t,(id,ti,nx,held,marks,inbox,()),(0,0,0,[],[],[],()),Gy t held,Jn t marks,())):=by
  rw[show Jn t marks=(marks.take marks.length).filter (λx=>U<|t<x.mu) by rw[E5];rfl];refine CS (λi=>(t,(id,ti,nx,held,marks,inbox,()),(0,0,0,[],[],[],()),Gy t held,(marks.take i).filter λx=>U<|t<x.mu,(i:Int),())) marks.length (λi hi=> ?_) (by simp[dY]);have hx:=Av hi;have hr:=Wm (l:=marks) (f:=λx=>U<|t<x.mu) (i:=i);unfold dY;simp only[AU hi,BL hi,FJ,Fc hx,BC hi (by omega:marks.length<=9223372036854775807),WL hx,Bj,CO,DY,BG<|show((marks.take i).filter λx=>U<|t<x.mu).length+1<=4294967296 by omega];by_cases hc:t<marks[i].mu<;>simp[hc]
 unfold dj;simp only[h0,h1,Co]
def ER(l:List A3)(i:Nat):List A3:=l.take i++l.drop (i+1)
def amE{l:List A3}{i:Nat}(hl:l.length<=1048576)(hi:i<l.length):Rm (l,(i:Int),())=I ((ER l i,()),()):=by
 unfold Rm;have h1:(U (0<=(i:Int))&&U ((i:Int)<=(j8 l:Int)))=Y:=by simp;omega
 have h2:(U (0<=((i+1:Nat):Int))&&U (((i+1:Nat):Int)<=(j8 l:Int)))=Y:=by simp;omega
 simp only[BC hi (by omega:l.length<=9223372036854775807),h1,h2,A2,Bc,EU,CO,DY,Dh,EF];rw[A5<|BG J,A5<|BG J];rfl
end Go.VS
namespace Go.VS
open Go
def B_L(s:A1):B (L s)=s:=Fw rfl
def CU(l:List UInt8):Prop:=∀b∈l,b≠32
def LZ:∀(l:List UInt8),CU l\/ ∃w r,CU w/\l=w++32::r
 | []=> .inl (λ_ h=>by cases h)
 | b::l=>by
  by_cases h:b=32
  .exact .inr ⟨[],l,(λ_ h=>by cases h),by rw[h];rfl⟩
  .rcases LZ l with h1|⟨w,r,h1,h2⟩
   .refine .inl (λx hx=> ?_);obtain rfl|hx:=Bl.1 hx
    .exact h
    .exact h1 x hx
   .refine .inr ⟨b::w,r,λx hx=> ?_,by rw[h2];rfl⟩;obtain rfl|hx:=Bl.1 hx
    .exact h
    .exact h1 x hx
def kv:∀ {l:List UInt8},CU l->Lib.index l [32]= -1
 | [],_=>rfl
 | b::l,h=>by
  rw[TV];unfold Lib.indexByte;have h1:=h b An;rw[A8<|by simpa using h1,← TV,kv λx hx=>h x<|Ai _ hx];rfl
def l4:∀ {w r:List UInt8},CU w->Lib.index (w++32::r) [32]=w.length
 | [],r,_=>by rw[TV];rfl
 | b::w,r,h=>by
  rw[TV,Kr];unfold Lib.indexByte;have h1:=h b An;rw[A8<|by simpa using h1,← TV,l4 λx hx=>h x<|Ai _ hx,A8 aE4];simp
def axe{l:List UInt8}(h:CU l):FQ l [32]=(l,[],A0):=by
 unfold FQ;rw[kv h,A8 J]
def axf{w r:List UInt8}(h:CU w):FQ (w++32::r) [32]=(w,r,Y):=by
 unfold FQ;rw[l4 h,A5 J];simp
def aui{s:A1}(hs:s.size<=1048576)(h:CU (L s)):Vf (s,B [32],())=I ((s,noB,A0,()),()):=by
 show P0 _=_;unfold P0;rw[A5 (by show s.size<_;omega)];show I ((B (FQ (L s) [32]).1,B (FQ (L s) [32]).2.1,(FQ (L s) [32]).2.2,()),())=_;rw[axe h];show I ((B<|L s,noB,A0,()),())=_;rw[B_L]
def auj{s:A1}{w r:List UInt8}(hs:s.size<=1048576)(h:CU w)(e:L s=w++32::r):Vf (s,B [32],())=I ((B w,B r,Y,()),()):=by
 show P0 _=_;unfold P0;rw[A5 (by show s.size<_;omega)];show I ((B (FQ (L s) [32]).1,B (FQ (L s) [32]).2.1,(FQ (L s) [32]).2.2,()),())=_;rw[e,axf h]
def nN{s:A1}{i:Nat}:U (bt s i=32)=U ((L s).getD i 0=32):=by
 rw[decide_eq_decide,Jm];exact⟨λh=>QM.1 (by show _=32;omega),λh=>by rw[h];rfl⟩
def aBw{s:A1}(hs:s.size<=1048576):qh (s,0,())=I (if Fv s.size (λi=>U<|bt s i=32)<0 then .inr (s,()) else
  .inl (s.extract 0 (Fv s.size λi=>U<|bt s i=32).toNat,s.extract ((Fv s.size λi=>U<|bt s i=32).toNat+1) s.size,())):=
 Pl (λi=>(s,(i:Int),())) s.size (λi=>U<|bt s i=32) (λi=>(s.extract 0 i.toNat,s.extract (i.toNat+1) s.size,())) (s,()) (λi hi=>by
  have h1:(U (0<=(i:Int))&&U ((i:Int)<=(s.size:Int)))=Y:=by simp;omega
  have h2:(U (0<=((i+1:Nat):Int))&&U (((i+1:Nat):Int)<=(s.size:Int)))=Y:=by simp;omega
  unfold dq;simp only[AU hi,BL hi,BC hi (by omega:s.size<=9223372036854775807),h1,h2,A2,Bc];cases U (bt s i=32)<;>rfl) (by simp[dq])
def av1{n:Nat}{p:Nat->Bool}(h:∀i,i<n->p i=A0):Fv n p= -1:=by
 obtain⟨h1,_⟩|⟨i,h1,h2,h3,_⟩:=G6 n p
 .exact h1
 .rw[h i h2]at h3;cases h3
def aDq{n i:Nat}{p:Nat->Bool}(hi:i<n)(hp:p i=Y)(h:∀j,j<i->p j=A0):Fv n p=i:=by
 obtain⟨_,h1⟩|⟨j,h1,h2,h3,h4⟩:=G6 n p
 .rw[h1 i hi]at hp;cases hp
 .rcases IA i j with h5|h5|h5
  .rw[h4 i h5]at hp;cases hp
  .rw[h1,h5]
  .rw[h j h5]at h3;cases h3
def auv{w r:List UInt8}{b:UInt8}:(w++b::r).getD w.length 0=b:=by simp
def aEz{w r:List UInt8}{j:Nat}(h:j<w.length):(w++r).getD j 0∈w:=by
 rw[B9,IE h,Av h];exact Cd h
def auu{l:List UInt8}{j:Nat}(h:j<l.length):l.getD j 0∈l:=by
 rw[B9,Av h];exact Cd h
def arf{s:A1}(hs:s.size<=1048576)(h:CU (L s)):Nh (s,())=I ((s,noB,()),()):=by
 unfold Nh;simp only[aBw hs];rw[av1 (λi hi=>by rw[nN];simpa using h _<|auu (by rw[Aw];exact hi))];rfl
def arh{s:A1}{w r:List UInt8}(hs:s.size<=1048576)(h:CU w)(e:L s=w++32::r):Nh (s,())=I ((B w,B r,()),()):=by
 have hl:s.size=w.length+1+r.length:=by
  have:=congrArg JP e;rw[Aw]at this;simp at this;omega
 unfold Nh;simp only[aBw hs];rw[aDq (i:=w.length) J (by rw[nN,e,auv];rfl) (λj hj=>by rw[nN,e];simpa using h _<|aEz hj),A8 J];have e1:s.extract 0 w.length=B w:=Fw (by rw[EA,e,L_B];simp);have e2:s.extract (w.length+1) s.size=B r:=Fw (by rw[EA,e,L_B,hl,show w++32::r=(w++[32])++r by simp,QN aE4,show w.length+1+r.length - (w.length+1)=r.length by omega,E5]);simp only[Hu,Bc,e1,e2]
def wr(n:A3):A1:=((((((((BW n.fr++B [32])++BW n.nu)++B [32])++BW n.to)++B [32])++BW n.un)++B [32])++n.tx)
def wrL(n:A3):List UInt8:=B3 n.fr++32::(B3 n.nu++32::(B3 n.to++32::(B3 n.un++32::L n.tx)))
def TY(n:Int):L (BW n)=B3 n:=rfl
def Qt(n:A3):L (wr n)=wrL n:=by
 unfold wr wrL;simp only[GI,TY,L_B,C2,Kr,EU]
def aqr{n:Int}{k:Nat}(h0:0<=n)(h1:n<10 ^ k)(hk:1<=k):B3 n=dcm n.toNat/\(B3 n).length<=k:=by
 obtain⟨u,rfl⟩:=HB h0;rw[J5];refine⟨rfl,Lf k u hk ?_⟩;have:((10 ^ k:Nat):Int)=(10:Int) ^ k:=by simp
 omega
structure Tr (n:A3):Prop where
 f0:0<=n.fr
 f1:n.fr<=3
 t0:0<=n.to
 t1:n.to<=3
 n0:1<=n.nu
 n1:n.nu<=99
 u0:1<=n.un
 u1:n.un<=999
 s0:1<=n.tx.size
 s1:n.tx.size<=24
def IX{n:A3}(h:Ax n=Y):Tr n:=by
 unfold Ax Ky at h;simp only[AD,Aa]at h;obtain⟨⟨a,b⟩,⟨c,d⟩,⟨e,f⟩,⟨g,i⟩,⟨j,k⟩,_⟩:=h;exact⟨a,b,c,d,e,f,g,i,J,J⟩
def MS{n:Int}{k:Nat}(h0:0<=n)(h1:n<10 ^ k)(hk:1<=k):(BW n).size<=k:=(aqr h0 h1 hk).2
def Ux{fr nu tt un:Int}{tx:A1}(hs:tx.size<=1048576):MN ((fr,nu,tt,un,tx,()),())=I ((if Ax ⟨fr,nu,tt,un,tx⟩ then wr ⟨fr,nu,tt,un,tx⟩ else noB,()),()):=by
 unfold MN;simp only[Ve hs,A6];obtain h|h:=tf (Ax ⟨fr,nu,tt,un,tx⟩)
 .have hf:=IX h;obtain⟨f0,f1,t0,t1,n0,n1,u0,u1,s0,s1⟩:=hf;simp only at f0 f1 t0 t1 n0 n1 u0 u1 s0 s1;have a1:=MS (n:=fr) (k:=1) f0 J J;have a2:=MS (n:=nu) (k:=2) J J J;have a3:=MS (n:=tt) (k:=1) t0 J J;have a4:=MS (n:=un) (k:=3) J J J;have b:(B [32]).size=1:=rfl;simp only[h,AB,A4,J8 (n:=fr) J J,J8 (n:=nu) J J,J8 (n:=tt) J J,J8 (n:=un) J J,A6,By,b]
  repeat rw[A5 (by rw[decide_eq_true_eq];omega)]
  rfl
 .simp only[h,AG,A2,A4]
def Ue{fr nu tt un:Int}{tx:A1}(hs:tx.size<=1048576):MM ((fr,nu,tt,un,tx,()),())=I ((if Ax ⟨fr,nu,tt,un,tx⟩ then wr ⟨fr,nu,tt,un,tx⟩ else noB,()),()):=by
 unfold MM;simp only[Vh hs,A6];obtain h|h:=tf (Ax ⟨fr,nu,tt,un,tx⟩)
 .have hf:=IX h;obtain⟨f0,f1,t0,t1,n0,n1,u0,u1,s0,s1⟩:=hf;simp only at f0 f1 t0 t1 n0 n1 u0 u1 s0 s1;have a1:=MS (n:=fr) (k:=1) f0 J J;have a2:=MS (n:=nu) (k:=2) J J J;have a3:=MS (n:=tt) (k:=1) t0 J J;have a4:=MS (n:=un) (k:=3) J J J;have b:(B [32]).size=1:=rfl;simp only[h,AB,A4,Fm (n:=fr) J J,Fm (n:=nu) J J,Fm (n:=tt) J J,Fm (n:=un) J J,A6,By,b]
  repeat rw[A5 (by rw[decide_eq_true_eq];omega)]
  rfl
 .simp only[h,AG,A2,A4]
def NB:List UInt8->Option (List UInt8×List UInt8)
 | []=>G
 | b::l=>if b=32 then I ([],l) else(NB l).map λp=>(b::p.1,p.2)
def Su:∀ {l:List UInt8},CU l->NB l=G
 | [],_=>rfl
 | b::l,h=>by
  unfold NB;rw[A8<|h b An,Su λx hx=>h x<|Ai _ hx];rfl
def Sv:∀ {w r:List UInt8},CU w->NB (w++32::r)=I (w,r)
 | [],r,_=>rfl
 | b::w,r,h=>by
  rw[Kr];unfold NB;rw[A8<|h b An,Sv λx hx=>h x<|Ai _ hx];rfl
def wd(s:A1):A1×A1:=match NB (L s) with
 | some p=>(B p.1,B p.2)
 | none=>(s,noB)
def Tb{s:A1}(h:CU (L s)):wd s=(s,noB):=by unfold wd;rw[Su h]
def Kk{s:A1}{w r:List UInt8}(h:CU w)(e:L s=w++32::r):wd s=(B w,B r):=by unfold wd;rw[e,Sv h]
def Sd(s:A1):(wd s).1.size<=s.size/\(wd s).2.size<=s.size:=by
 obtain h|⟨w,r,h,e⟩:=LZ (L s)
 .rw[Tb h];exact⟨Ar _,D1 _⟩
 .rw[Kk h e];have:=congrArg JP e;rw[Aw]at this;simp at this;rw[BQ,BQ];exact⟨by show w.length<=_;omega,by show r.length<=_;omega⟩
def aak{s:A1}(hs:s.size<=1048576):Nh (s,())=I (((wd s).1,(wd s).2,()),()):=by
 obtain h|⟨w,r,h,e⟩:=LZ (L s)
 .rw[Tb h,arf hs h]
 .rw[Kk h e,arh hs h e]
def axL{s:A1}(hs:s.size<=1048576):Vf (s,B [32],())=I (((wd s).1,(wd s).2,(NB<|L s).isSome,()),()):=by
 obtain h|⟨w,r,h,e⟩:=LZ (L s)
 .rw[Tb h,aui hs h,Su h];rfl
 .rw[Kk h e,auj hs h e,e,Sv h];rfl
def E9(s:A1):Nat->A1
 | 0=>s
 | i+1=>(wd<|E9 s i).2
def Am(s:A1)(i:Nat):A1:=(wd<|E9 s i).1
def Wo(s:A1):∀i,(E9 s i).size<=s.size
 | 0=>Ar _
 | i+1=>CV (Sd<|E9 s i).2 (Wo s i)
def aqT(s:A1)(i:Nat):(Am s i).size<=s.size:=CV (Sd _).1<|Wo s i
def aay{s:A1}{n:Nat}(hs:s.size<=1048576)(hn:n<=10):PV (s,(n:Int),())=I (((B7 n).map λi=>Ad<|Am s i,E9 s n,()),()):=by
 have h:qi (s,(n:Int),[],0,())=I (.inr (E9 s n,(B7 n).map λi=>Ad<|Am s i,())):=by
  refine CS (λi=>(E9 s i,(n:Int),(B7 i).map λi=>Ad<|Am s i,(i:Int),())) n (λi hi=> ?_) (by simp[dr]);have h1:=Wo s i;have h2:=aqT s i;unfold dr;simp only[BL hi,aak<|show(E9 s i).size<=1048576 by omega,A6,A2,iQ (show(wd<|E9 s i).1.size<=9223372036854775807 by have:=(Sd<|E9 s i).1;omega),
   DV,List.length_range,Bj,CO,DY,BG (J:i+1<=4294967296),BC hi (by omega:n<=9223372036854775807),IC,Eg,DM,JQ]
  rfl
 unfold PV;simp only[h,Co]
def aAt{ws:List A1}(hl:ws.length<=1048577)(hw:∀w∈ws,w.size<=1048576):
  Rb (ws,())=I ((if B6 ws.length (λi=>(Aq<|ws.getD i noB).2) then(ws.map λw=>(Aq w).1,Y,()) else([],A0,())),()):=by
 have h:ph ([],ws,(j8 ws:Int),0,())=I (if B6 ws.length (λi=>(Aq<|ws.getD i noB).2) then .inr (ws.map λw=>(Aq w).1,()) else .inl ([],A0,())):=by
  rw[show ws.map (λw=>(Aq w).1)=(ws.take ws.length).map (λw=>(Aq w).1) by rw[E5]];refine kI (λi=>((ws.take i).map λw=>(Aq w).1,ws,(j8 ws:Int),(i:Int),())) ws.length (λi=>(Aq<|ws.getD i noB).2) ([],A0,()) ((ws.take ws.length).map λw=>(Aq w).1,()) (λi hi _=> ?_) (λ_=>by simp[cf]);have hx:=Av hi;have hs:=hw _<|Cd hi;unfold cf;simp only[AU hi,BL hi,OL,OF hx,ee (J:ws[i].size<=9223372036854775807),A6,DV,Dh,Bj,CO,DY,
   BG (J:min i ws.length+1<=4294967296),BC hi (by omega:ws.length<=9223372036854775807)]
  rw[← X7 hx,Eg];obtain h|h:=tf (Aq ws[i]).2<;>simp[h]
 unfold Rb;simp only[h];cases B6 ws.length (λi=>(Aq<|ws.getD i noB).2)<;>rfl
def LX{w r:List UInt8}{k:Nat}(h:CU w):GN [32] 0 (k+1) (w++32::r)=w::GN [32] 0 k r:=by
 conv=>lhs;unfold GN
 rw[l4 h,A8 aE4];show(w++32::r).take (w.length+0)::GN [32] 0 k ((w++32::r).drop<|w.length+1)=_;rw[Hh,Oe rfl,show w++32::r=(w++[32])++r by simp,QN aE4]
def X6{l:List UInt8}{k:Nat}(h:CU l):GN [32] 0 k l=[l]:=by
 cases k with
 | zero=>rfl
 | succ k=>
  unfold GN;rw[kv h];rfl
def join:List (List UInt8)->List UInt8
 | []=>[]
 | [x]=>x
 | x::y::l=>x++32::join (y::l)
def as3(k:Nat)(l:List UInt8):∃x m,GN [32] 0 k l=x::m:=by
 cases k with
 | zero=>exact⟨l,[],rfl⟩
 | succ k=>
  obtain h|⟨w,r,h,rfl⟩:=LZ l
  .exact⟨l,[],X6 h⟩
  .exact⟨w,_,LX h⟩
def iy:∀(k:Nat) (l:List UInt8),join (GN [32] 0 k l)=l
 | 0,_=>rfl
 | k+1,l=>by
  obtain h|⟨w,r,h,rfl⟩:=LZ l
  .rw[X6 h];rfl
  .rw[LX h];have ih:=iy k r;obtain⟨x,m,e⟩:=as3 k r;rw[e]at ih ⊢;show w++32::join (x::m)=_;rw[ih]
def axs{ps:List A1}{ls:List (List UInt8)}(h:ps.map (·.data.toList)=ls):ps=ls.map B:=by
 subst h;rw[I9]
 conv=>lhs;rw[← Yq ps]
 exact Gi λs _=>(B_L s).symm
def aD7(k:Nat)(s:A1):Ip (B [32]) 0 k s=(GN [32] 0 k<|L s).map B:=axs<|Lib.splitB_data (B [32]) 0 k s
def avp{s:A1}(hs:s.size<=1048576):dR (s,B [32],())=I (((GN [32] 0 ((L s).count 32)<|L s).map B,()),()):=by
 show T8 _=_;unfold T8;rw[A5 ⟨by show s.size<_;omega,by show 1<=1;omega⟩];show I ((Ip (B [32]) 0 (Lib.count (L s) [32]) s,()),())=_;rw[aD7,Lib.count_one]
def atH{s:A1}(hs:s.size<=1048576):rH (s,B [32],5,())=I (((GN [32] 0 (min 5 (s.size+1) - 1)<|L s).map B,()),()):=by
 show Sk _=_;unfold Sk;rw[A5 ⟨by show s.size<_;omega,by show 1<=1;omega,by show(1:Int)<=5;omega,by show(5:Int)<=_;omega⟩];show I ((Ip (B [32]) 0 (min 5 (s.size+1) - 1) s,()),())=_;rw[aD7]
def auN(u:Nat):CU (dcm u):=λb hb h=>by
 have:=Aa.1<|YE (u+1) u J b hb;subst h;simp at this
def HK{n:Int}(h0:0<=n):CU (B3 n):=by
 obtain⟨u,rfl⟩:=HB h0;rw[J5];exact auN u
def MW{n:Int}(h0:0<=n)(h1:n<10000):Ad (B<|B3 n)=n:=by
 obtain⟨u,rfl⟩:=HB h0;rw[J5];exact lG (by rw[BQ];exact Lf 4 u J J)<|L_B _
def J1{n:Int}(h0:0<=n)(h1:n<100000):Aq (B<|B3 n)=(n,Y):=by
 obtain⟨u,rfl⟩:=HB h0;rw[J5];exact jd (by rw[BQ];exact Lf 5 u J J)<|L_B _
open Classical in
def DC (s:A1):Option A3:=if h:∃n,Ax n=Y/\wr n=s then I (My h) else G
def Jj{s t:A1}{x:Int}{r:List UInt8}(h:wd s=(B<|B3 x,B r)):(wd s).1=B (B3 x)/\L (wd s).2=r:=by rw[h];exact⟨rfl,rfl⟩
def kP{n:A3}(hf:Tr n){s:A1}(e:L s=wrL n):Am s 0=B (B3 n.fr)/\Am s 1=B (B3 n.nu)/\Am s 2=B (B3 n.to)/\Am s 3=B (B3 n.un)/\E9 s 4=n.tx:=by
 obtain⟨f0,f1,t0,t1,n0,n1,u0,u1,s0,s1⟩:=hf;unfold wrL at e;have e0:=Kk (HK f0) e;have c1:L (E9 s 1)=_:=(Jj (t:=s) e0).2;have e1:=Kk (HK (J:0<=n.nu)) c1;have c2:L (E9 s 2)=_:=(Jj (t:=s) e1).2;have e2:=Kk (HK t0) c2;have c3:L (E9 s 3)=_:=(Jj (t:=s) e2).2;have e3:=Kk (HK (J:0<=n.un)) c3;have c4:L (E9 s 4)=_:=(Jj (t:=s) e3).2;exact⟨(Jj (t:=s) e0).1,(Jj (t:=s) e1).1,(Jj (t:=s) e2).1,(Jj (t:=s) e3).1,Fw c4⟩
def atd{n:A3}(hf:Tr n):Am (wr n) 0=B (B3 n.fr)/\Am (wr n) 1=B (B3 n.nu)/\Am (wr n) 2=B (B3 n.to)/\Am (wr n) 3=B (B3 n.un)/\E9 (wr n) 4=n.tx:=kP hf<|Qt n
def auM{n m:A3}(h1:n.fr=m.fr)(h2:n.nu=m.nu)(h3:n.to=m.to)(h4:n.un=m.un)(h5:n.tx=m.tx):n=m:=by
 cases n;cases m;simp only at h1 h2 h3 h4 h5;subst h1 h2 h3 h4 h5;rfl
def Xn{x y:Int}(h0:0<=x)(h1:x<10000)(h2:0<=y)(h3:y<10000)(h:B (B3 x)=B (B3 y)):x=y:=by
 rw[← MW h0 h1,← MW h2 h3,h]
def ax2{n m:A3}(hn:Ax n=Y)(hm:Ax m=Y)(h:wr n=wr m):n=m:=by
 have fn:=IX hn;have fm:=IX hm;have a:=kP fn (s:=wr n)<|Qt n;have b:=kP fm (s:=wr n) (by rw[h];exact Qt m);clear h hn hm;generalize wr n=s at a b;obtain⟨a0,a1,a2,a3,a4⟩:=a;obtain⟨b0,b1,b2,b3,b4⟩:=b;obtain⟨f0,f1,t0,t1,n0,n1,u0,u1,s0,s1⟩:=fn;obtain⟨g0,g1,v0,v1,m0,m1,w0,w1,z0,z1⟩:=fm;exact auM (Xn J J J J<|a0.symm.trans b0) (Xn J J J J<|a1.symm.trans b1) (Xn J J J J<|a2.symm.trans b2)
  (Xn J J J J<|a3.symm.trans b3) (a4.symm.trans b4)
def Ph{n:A3}(h:Ax n=Y):DC (wr n)=I n:=by
 unfold DC;have hex:∃m,Ax m=Y/\wr m=wr n:=⟨n,h,rfl⟩;rw[dif_pos hex];have:=Il hex;rw[ax2 this.1 h this.2]
def Jf{s:A1}{n:A3}(h:DC s=I n):Ax n=Y/\wr n=s:=by
 unfold DC at h;split at h
 .rename_i hex;cases h;exact Il hex
 .cases h
def mL{n:A3}(hf:Tr n):9<=(wr n).size:=by
 obtain⟨f0,f1,t0,t1,n0,n1,u0,u1,s0,s1⟩:=hf;have h:∀ {x:Int},0<=x->1<=(B3 x).length:=fun {x} h0=>by
  obtain⟨u,rfl⟩:=HB h0;rw[J5];exact List.length_pos_iff.2<|n8 u
 rw[← Aw,Qt];unfold wrL;have a:=h f0;have b:=h (J:0<=n.nu);have c:=h t0;have d:=h (J:0<=n.un);have e:(L n.tx).length=n.tx.size:=rfl;simp only[Au,Bj];omega
def Tf(o:Option A3):(Int×Int×Int×Int×A1×D)×Bool×D:=match o with
 | some n=>((n.fr,n.nu,n.to,n.un,n.tx,()),Y,())
 | none=>((0,0,0,0,noB,()),A0,())
def xF{s:A1}(hs:s.size<=1048576):RY (s,())=I (Tf<|DC s,()):=by
 unfold RY;have e4:PV (s,4,())=I (([Ad<|Am s 0,Ad<|Am s 1,Ad<|Am s 2,Ad<|Am s 3],E9 s 4,()),()):=aay (n:=4) hs J;have hr:=Wo s 4;have i0:inb 0 [Ad<|Am s 0,Ad<|Am s 1,Ad<|Am s 2,Ad<|Am s 3].length=Y:=rfl;have i1:inb 1 [Ad<|Am s 0,Ad<|Am s 1,Ad<|Am s 2,Ad<|Am s 3].length=Y:=rfl;have i2:inb 2 [Ad<|Am s 0,Ad<|Am s 1,Ad<|Am s 2,Ad<|Am s 3].length=Y:=rfl;have i3:inb 3 [Ad<|Am s 0,Ad<|Am s 1,Ad<|Am s 2,Ad<|Am s 3].length=Y:=rfl;have r0: @rd Int aE8 [Ad<|Am s 0,Ad<|Am s 1,Ad<|Am s 2,Ad<|Am s 3] 0=Ad (Am s 0):=rfl;have r1: @rd Int aE8 [Ad<|Am s 0,Ad<|Am s 1,Ad<|Am s 2,Ad<|Am s 3] 1=Ad (Am s 1):=rfl;have r2: @rd Int aE8 [Ad<|Am s 0,Ad<|Am s 1,Ad<|Am s 2,Ad<|Am s 3] 2=Ad (Am s 2):=rfl;have r3: @rd Int aE8 [Ad<|Am s 0,Ad<|Am s 1,Ad<|Am s 2,Ad<|Am s 3] 3=Ad (Am s 3):=rfl;simp only[e4,A6,i0,i1,i2,i3,r0,r1,r2,r3,Ue<|show(E9 s 4).size<=1048576 by omega,Dg,DX,A2,show ∀c,Al c Y=Y from λc=>rfl];generalize hx:(⟨Ad<|Am s 0,Ad<|Am s 1,Ad<|Am s 2,Ad<|Am s 3,E9 s 4⟩:A3)=x at *;by_cases hc:s≠noB/\(if Ax x then wr x else noB)=s
 .obtain⟨h1,h2⟩:=hc;have hok:Ax x=Y:=by
   obtain h|h:=tf (Ax x)
   .exact h
   .rw[h]at h2;exact absurd h2.symm h1
  rw[hok]at h2;simp only[A2]at h2;rw[A8<|by simp[h1,hok,h2],← h2,Ph hok];subst hx;simp only[h2];rfl
 .rw[A5 (by
   by_cases h1:s=noB
   .simp[h1]
   .have h2:¬(if Ax x then wr x else noB)=s:=λh=>hc ⟨h1,h⟩;simp[h1,h2])]
  cases h:DC s with
  | none=>rfl
  | some n=>
   exfalso;obtain⟨h1,h2⟩:=Jf h;have hf:=IX h1;obtain⟨a0,a1,a2,a3,a4⟩:=atd hf;have hsz:=mL hf;obtain⟨f0,f1,t0,t1,n0,n1,u0,u1,s0,s1⟩:=hf;rw[h2]at a0 a1 a2 a3 a4;rw[a0,a1,a2,a3,a4,MW J J,MW J J,MW J J,MW J J]at hx;have hx:n=x:=hx;subst hx;refine hc ⟨λe=> ?_,by rw[h1];exact h2⟩;rw[h2,e]at hsz;exact absurd hsz<|by decide
def as2{n:A3}(hf:Tr n):GN [32] 0 4 (wrL n)=[B3 n.fr,B3 n.nu,B3 n.to,B3 n.un,L n.tx]:=by
 obtain⟨f0,f1,t0,t1,n0,n1,u0,u1,s0,s1⟩:=hf;unfold wrL;rw[LX<|HK f0,LX<|HK J,LX<|HK t0,LX<|HK J];rfl
def iw:∀(k:Nat) (l:List UInt8),∀p∈GN [32] 0 k l,p.length<=l.length
 | 0,l,p,hp=>by
  obtain rfl:=CL.1 hp;exact Ar _
 | k+1,l,p,hp=>by
  obtain h|⟨w,r,h,rfl⟩:=LZ l
  .rw[X6 h]at hp;obtain rfl:=CL.1 hp;exact Ar _
  .rw[LX h]at hp;obtain rfl|hp:=Bl.1 hp
   .simp
   .have:=iw k r p hp;simp;omega
def jS:∀(k:Nat) (l:List UInt8),(GN [32] 0 k l).length<=k+1
 | 0,l=>Ar _
 | k+1,l=>by
  obtain h|⟨w,r,h,rfl⟩:=LZ l
  .rw[X6 h];simp
  .rw[LX h];have:=jS k r;simp;omega
def al7{s:A1}(hs:s.size<=1048576):V0 (s,())=I (Tf<|DC s,()):=by
 unfold V0;simp only[atH hs,A6];generalize hk:min 5 (s.size+1) - 1=k;have hsz:=iw k<|L s;have hln:=jS k<|L s;have hwr:∀n,DC s=I n->GN [32] 0 k (L s)=[B3 n.fr,B3 n.nu,B3 n.to,B3 n.un,L n.tx]:=λn hn=>by
  obtain⟨h1,h2⟩:=Jf hn;have:=mL<|IX h1;rw[h2]at this;obtain rfl:k=4:=J
  rw[← h2,Qt];exact as2<|IX h1
 generalize GN [32] 0 k (L s)=ps at *;by_cases h5:ps.length=5
 .match ps,h5 with
  | [p0,p1,p2,p3,p4],_=>
   have hb:∀p∈[p0,p1,p2,p3,p4],(B p).size<=1048576:=λp hp=>by
    have:=hsz p hp;rw[Aw]at this;rw[BQ];omega
   have e5:(!decide (((([p0,p1,p2,p3,p4]:List (List UInt8)).map B).length:Int)=5))=A0:=rfl;have e6:(U (0<=4)&&U ((4:Int)<=((([p0,p1,p2,p3,p4]:List (List UInt8)).map B).length:Int)))=Y:=rfl;have e7:BR (AK 4) (([p0,p1,p2,p3,p4]:List (List UInt8)).map B)=[B p0,B p1,B p2,B p3]:=rfl;simp only[e5,e6,e7,A2,A4];rw[aAt aE4 (λw hw=>by
    simp only[Bl,List.not_mem_nil,or_false]at hw;obtain rfl|rfl|rfl|rfl:=hw
    .exact hb p0 aE4
    .exact hb p1 aE4
    .exact hb p2 aE4
    .exact hb p3 aE4)]
   have oZ:B6 [B p0,B p1,B p2,B p3].length (λi=>(Aq<|[B p0,B p1,B p2,B p3].getD i noB).2)=((Aq<|B p0).2&&((Aq<|B p1).2&&((Aq<|B p2).2&&((Aq<|B p3).2&&Y)))):=rfl;rw[oZ];obtain ha|ha:=tf ((Aq<|B p0).2&&((Aq<|B p1).2&&((Aq<|B p2).2&&((Aq<|B p3).2&&Y))))
   .rw[ha];simp only[A2,A6,AB,A4,DM,JQ];have i0:inb 0 [(Aq<|B p0).1,(Aq<|B p1).1,(Aq<|B p2).1,(Aq<|B p3).1].length=Y:=rfl;have i1:inb 1 [(Aq<|B p0).1,(Aq<|B p1).1,(Aq<|B p2).1,(Aq<|B p3).1].length=Y:=rfl;have i2:inb 2 [(Aq<|B p0).1,(Aq<|B p1).1,(Aq<|B p2).1,(Aq<|B p3).1].length=Y:=rfl;have i3:inb 3 [(Aq<|B p0).1,(Aq<|B p1).1,(Aq<|B p2).1,(Aq<|B p3).1].length=Y:=rfl;have i4:inb 4 [B p0,B p1,B p2,B p3,B p4].length=Y:=rfl;have r0: @rd Int aE8 [(Aq<|B p0).1,(Aq<|B p1).1,(Aq<|B p2).1,(Aq<|B p3).1] 0=(Aq<|B p0).1:=rfl;have r1: @rd Int aE8 [(Aq<|B p0).1,(Aq<|B p1).1,(Aq<|B p2).1,(Aq<|B p3).1] 1=(Aq<|B p1).1:=rfl;have r2: @rd Int aE8 [(Aq<|B p0).1,(Aq<|B p1).1,(Aq<|B p2).1,(Aq<|B p3).1] 2=(Aq<|B p2).1:=rfl;have r3: @rd Int aE8 [(Aq<|B p0).1,(Aq<|B p1).1,(Aq<|B p2).1,(Aq<|B p3).1] 3=(Aq<|B p3).1:=rfl;have r4: @rd A1 aFf [B p0,B p1,B p2,B p3,B p4] 4=B p4:=rfl;have hp4:=hb p4 aE4;simp only[i0,i1,i2,i3,i4,r0,r1,r2,r3,r4,A2,Ve hp4,Ux hp4,A6,Dg,DX,show ∀c,Al c Y=Y from λc=>rfl];generalize hx:(⟨(Aq<|B p0).1,(Aq<|B p1).1,(Aq<|B p2).1,(Aq<|B p3).1,B p4⟩:A3)=x at *;by_cases hc:Ax x=Y/\wr x=s
    .obtain⟨h1,h2⟩:=hc;rw[A8<|by simp[h1,h2],← h2,Ph h1];subst hx;rfl
    .rw[A5 (by
      obtain h1|h1:=tf (Ax x)
      .have h2:¬wr x=s:=λh=>hc ⟨h1,h⟩;simp[h1,h2]
      .simp[h1])]
     cases h:DC s with
     | none=>rfl
     | some n=>
      exfalso;obtain⟨h1,h2⟩:=Jf h;have hf:=IX h1;have hp:=hwr n h;simp only[Ly,and_true]at hp;obtain⟨rfl,rfl,rfl,rfl,rfl⟩:=hp;obtain⟨f0,f1,t0,t1,n0,n1,u0,u1,s0,s1⟩:=hf;rw[J1 J J,J1 J J,J1 J J,J1 J J,B_L]at hx;have hx:n=x:=hx;subst hx;exact hc ⟨h1,h2⟩
   .rw[ha];simp only[A6,AG,A2,A4];cases h:DC s with
    | none=>rfl
    | some n=>
     exfalso;obtain⟨h1,h2⟩:=Jf h;have hf:=IX h1;have hp:=hwr n h;simp only[Ly,and_true]at hp;obtain⟨rfl,rfl,rfl,rfl,rfl⟩:=hp;obtain⟨f0,f1,t0,t1,n0,n1,u0,u1,s0,s1⟩:=hf;rw[J1 J J,J1 J J,J1 J J,J1 J J]at ha;cases ha
 .have e5:(!decide (((ps.map B).length:Int)=5))=Y:=by simp;omega
  simp only[e5,A2];cases h:DC s with
  | none=>rfl
  | some n=>
   have:=congrArg JP<|hwr n h;simp at this;exact absurd this h5
abbrev KL:=Int×Int×Int×List A3×List Mark×List A3×D
abbrev tK(k:AJ):KL:=(k.id,k.ti,k.nx,k.held,k.marks,k.inbox,())
def B2(r:Option ((KL×Bool×D)×D))(o:Option AJ):Prop:=match o with
 | some k=>r=I ((tK k,Y,()),())
 | none=>∃t,r=I ((t,A0,()),())
def B2.no{t:KL}:B2 (I ((t,A0,()),())) G:=⟨t,rfl⟩
def B2.eta{r:Option ((KL×Bool×D)×D)}{o:Option AJ}(h:B2 r o):
  B2 (r.bind λr=>I (((r.1.1.1,r.1.1.2.1,r.1.1.2.2.1,r.1.1.2.2.2.1,r.1.1.2.2.2.2.1,r.1.1.2.2.2.2.2.1,()),r.1.2.1,()),())) o:=by
 cases o with
 | some k=>
  have:r=_:=h;subst this;rfl
 | none=>
  obtain⟨t,rfl⟩:=h;exact⟨t,rfl⟩
def B2.ite{c:Bool}{a b:Option ((KL×Bool×D)×D)}{x y:Option AJ}(h1:c=Y->B2 a x)(h2:c=A0->B2 b y):B2 (if c then a else b) (if c then x else y):=by
 cases c
 .exact h2 rfl
 .exact h1 rfl
def B2.neg{c:Bool}{t:KL}{b:Option ((KL×Bool×D)×D)}{y:Option AJ}(h2:c=A0->B2 b y):B2 (if c then I ((t,A0,()),()) else b) (if c then G else y):=B2.ite (λ_=>B2.no) h2
def Ed(k:AJ)(n:A3):Option AJ:=
 if !Ax n then G else if U (n.un<=k.ti) then G else if U (0<=AX k.held n.fr n.nu) then G else if U (0<=AX k.inbox n.fr n.nu) then G else if U (0<=Bo k.marks n.fr n.nu) then G else
 if U (12<(j8 k.held:Int)+k.marks.length+1) then G else
 if U (n.to=k.id) then I ⟨k.id,k.ti,k.nx,k.held,ED k.marks ⟨n.fr,n.nu,n.un⟩,Du k.inbox n⟩ else I ⟨k.id,k.ti,k.nx,Du k.held n,k.marks,k.inbox⟩
def zk{id ti nx fr nu tt un:Int}{tx:A1}{held:List A3}{marks:List Mark}{inbox:List A3}(sm:DP held marks inbox)(hs:tx.size<=1048576):
  B2 (Vd ((id,ti,nx,held,marks,inbox,()),(fr,nu,tt,un,tx,()),())) (Ed ⟨id,ti,nx,held,marks,inbox⟩ ⟨fr,nu,tt,un,tx⟩):=by
 have hl:=sm.hl;have ml:=sm.ml;unfold Vd Ed;simp only[Ve hs,LQ sm.hl,LQ sm.il,Rr sm.ml,fO sm.hl,fO sm.il,iB sm.ml,A6,
  AZ (n:=(held.length:Int)+marks.length) J J,AZ (n:=(held.length:Int)+marks.length+1) J J]
 exact B2.neg λ_=>B2.neg λ_=>B2.neg λ_=>B2.neg λ_=>B2.neg λ_=>B2.neg λ_=>B2.ite (λ_=>rfl) λ_=>rfl
def YW{l:List A3}{n:A3}(h:AX l n.fr n.nu<0):Ou l n=Du l n:=by
 refine aCp λx hx=> ?_;have hne:¬(x.fr=n.fr/\x.nu=n.nu):=λhc=>by
  obtain⟨_,h2⟩|⟨i,h1,_⟩:=G6 l.length (λi=>U ((nA l i).fr=n.fr)&&U ((nA l i).nu=n.nu))
  .obtain⟨j,hj,rfl⟩:=D0 hx;have:=h2 j hj;rw[DT<|Av hj]at this;simp[hc.1,hc.2]at this
  .unfold AX at h;omega
 unfold bef;rw[Mz];simp;omega
def kY{l:List Mark}{n:Mark}(h:Bo l n.mf n.mn<0):Ov l n=ED l n:=by
 refine aCp λx hx=> ?_;have hne:¬(x.mf=n.mf/\x.mn=n.mn):=λhc=>by
  obtain⟨_,h2⟩|⟨i,h1,_⟩:=G6 l.length (λi=>U ((mA l i).mf=n.mf)&&U ((mA l i).mn=n.mn))
  .obtain⟨j,hj,rfl⟩:=D0 hx;have:=h2 j hj;rw[Fc<|Av hj]at this;simp[hc.1,hc.2]at this
  .unfold Bo at h;omega
 unfold bef;rw[Mz];simp;omega
def aAZ{id ti nx fr nu tt un:Int}{tx:A1}{held:List A3}{marks:List Mark}{inbox:List A3}(sm:DP held marks inbox)(hs:tx.size<=1048576):
  B2 (VL ((id,ti,nx,held,marks,inbox,()),(fr,nu,tt,un,tx,()),())) (Ed ⟨id,ti,nx,held,marks,inbox⟩ ⟨fr,nu,tt,un,tx⟩):=by
 have hl:=sm.hl;have ml:=sm.ml;have ayE:df ((id,ti,nx,held,marks,inbox,()),(fr,nu,tt,un,tx,()),())=
   I ((Ax ⟨fr,nu,tt,un,tx⟩&&(U (ti<un)&&(U (AX held fr nu<0)&&(U (Bo marks fr nu<0)&&U (AX inbox fr nu<0)))),()),()):=by
  unfold df;simp only[Vh hs,Ja sm.hl,Ja sm.il,Rh sm.ml,A6,Dg,DX,show ∀c,Al c Y=Y from λc=>rfl,A2];obtain h1|h1:=tf (Ax ⟨fr,nu,tt,un,tx⟩)<;>obtain h2|h2:=tf (U<|ti<un)<;>obtain h3|h3:=tf (U<|AX held fr nu<0)<;>simp only[h1,h2,h3,A2,A4,AP,AM]
 unfold VL Ed;have Ei:=bk (l:=held) (fr:=fr) (nu:=nu) (tt:=tt) (un:=un) (tx:=tx) sm.hl;have Zw:=bk (l:=inbox) (fr:=fr) (nu:=nu) (tt:=tt) (un:=un) (tx:=tx) sm.il;have ayf:=qe (l:=marks) (mf:=fr) (mn:=nu) (mu:=un) sm.ml;simp only[ayE,Ei,Zw,ayf,A6];obtain h1|h1:=tf (Ax ⟨fr,nu,tt,un,tx⟩)
 .rcases EP un ti with h2|h2
  .simp only[h1,h2,AT,Af,AP,AM,AG,AB,A2,A4];exact B2.no
  .rcases sgn (AX held fr nu) with h3|h3
   .rcases sgn (Bo marks fr nu) with h4|h4
    .rcases sgn (AX inbox fr nu) with h5|h5
     .have q1:AX held fr nu<0:=of_eq_true h3.1;have q2:Bo marks fr nu<0:=of_eq_true h4.1;have q3:AX inbox fr nu<0:=of_eq_true h5.1;have lN:=Nw (λx:A3=>bef x.fr x.nu fr nu) held ⟨fr,nu,tt,un,tx⟩;have lM:=Nw (λx:Mark=>bef x.mf x.mn fr nu) marks ⟨fr,nu,un⟩;have eN:Ou held ⟨fr,nu,tt,un,tx⟩=Du held ⟨fr,nu,tt,un,tx⟩:=YW q1;have eI:Ou inbox ⟨fr,nu,tt,un,tx⟩=Du inbox ⟨fr,nu,tt,un,tx⟩:=YW q3;have eM:Ov marks ⟨fr,nu,un⟩=ED marks ⟨fr,nu,un⟩:=kY q2;have l1:((Du held ⟨fr,nu,tt,un,tx⟩).length:Int)=held.length+1:=by unfold Du;rw[lN];omega
      have l2:((ED marks ⟨fr,nu,un⟩).length:Int)=marks.length+1:=by unfold ED;rw[lM];omega
      simp only[h1,h2,h3,h4,h5,eN,eI,eM,l1,l2,AT,Af,AP,AB,A4,
       AZ (n:=(held.length:Int)+1+marks.length) J J,AZ (n:=(held.length:Int)+(marks.length+1)) J J]
      obtain h6|h6:=EP ((held.length:Int)+marks.length+1) 12
      .have a1:U ((held.length:Int)+1+marks.length<=12)=Y:=by have:=of_eq_true h6.1;simp;omega
       have a2:U ((held.length:Int)+(marks.length+1)<=12)=Y:=by have:=of_eq_true h6.1;simp;omega
       simp only[a1,a2,h6,Af,A4];by_cases h7:tt=id
       .simp only[h7,AT,AB,A4,A2];rfl
       .simp only[h7,Af,AG,A4,A2];rfl
      .have a1:U ((held.length:Int)+1+marks.length<=12)=A0:=by have:=of_eq_true h6.2;simp;omega
       have a2:U ((held.length:Int)+(marks.length+1)<=12)=A0:=by have:=of_eq_true h6.2;simp;omega
       simp only[a1,a2,h6,AT,A2];by_cases h7:tt=id
       .simp only[h7,AT,AB,A4];exact B2.no
       .simp only[h7,Af,AG,A2];exact B2.no
     .simp only[h1,h2,h3,h4,h5,AT,Af,AP,AM,AG,AB,A2,A4];exact B2.no
    .simp only[h1,h2,h3,h4,AT,Af,AP,AM,AG,AB,A2,A4,ite_self];exact B2.no
   .simp only[h1,h2,h3,AT,Af,AP,AM,AG,AB,A2,A4];exact B2.no
 .simp only[h1,AM,AG,A2];exact B2.no
abbrev E0:A1:=B [116,105,109,101]
abbrev Ep:A1:=B [110,101,120,116]
abbrev Dd:A1:=B [111,119,110]
abbrev EM:A1:=B [116,97,107,101]
abbrev EN:A1:=B [104,101,108,100]
abbrev EY:A1:=B [105,110,98,111,120]
abbrev Bw:A1:=B [108,101,116]
abbrev CH:A1:=B [101,97,116]
abbrev D3:A1:=B [109,97,114,107]
def Hb(k:AJ)(w:A1)(n:Int):Option AJ:=
 if U (w=E0)&&U (k.ti<n) then I ⟨k.id,n,k.nx,Gy n k.held,Jn n k.marks,k.inbox⟩ else if U (w=Ep)&&U (k.nx<n) then I ⟨k.id,k.ti,n,k.held,k.marks,k.inbox⟩ else G
def apG{id ti nx n:Int}{w:A1}{held:List A3}{marks:List Mark}{inbox:List A3}(sm:DP held marks inbox):
  B2 (Vw ((id,ti,nx,held,marks,inbox,()),w,n,())) (Hb ⟨id,ti,nx,held,marks,inbox⟩ w n):=by
 unfold Vw Hb;simp only[amG sm,A6];exact B2.ite (λ_=>rfl) λ_=>B2.ite (λ_=>rfl) λ_=>B2.no
def G9(k:AJ)(w:A1)(n:A3):Option AJ:=
 if U (w=Dd)&&(U (n.fr=k.id)&&U (n.nu=k.nx)) then Ed ⟨k.id,k.ti,k.nx+1,k.held,k.marks,k.inbox⟩ n else if U (w=EM)&& !decide (n.fr=k.id) then Ed k n else
 if U (0<=AX k.held n.fr n.nu)||decide (0<=AX k.inbox n.fr n.nu) then G else if U (w=EN) then I ⟨k.id,k.ti,k.nx,Du k.held n,k.marks,k.inbox⟩ else if U (w=EY) then I ⟨k.id,k.ti,k.nx,k.held,k.marks,Du k.inbox n⟩ else G
def anz{id ti nx fr nu tt un:Int}{w tx:A1}{held:List A3}{marks:List Mark}{inbox:List A3}(sm:DP held marks inbox)(hs:tx.size<=1048576)(h0:0<=nx)(h1:nx<=1000):
  B2 (Vb ((id,ti,nx,held,marks,inbox,()),w,(fr,nu,tt,un,tx,()),())) (G9 ⟨id,ti,nx,held,marks,inbox⟩ w ⟨fr,nu,tt,un,tx⟩):=by
 have hj:(if U (w=Dd) then(I (.inr (w,(id,ti,nx,held,marks,inbox,()),(fr,nu,tt,un,tx,()),(0,0,0,([]:List A3),([]:List Mark),([]:List A3),()),U (fr=id)&&U (nu=nx),())):Option (((KL×Bool×D)×D) ⊕ (A1×KL×(Int×Int×Int×Int×A1×D)×KL×Bool×D))) else
   I (.inr (w,(id,ti,nx,held,marks,inbox,()),(fr,nu,tt,un,tx,()),(0,0,0,([]:List A3),([]:List Mark),([]:List A3),()),A0,())))=
   I (.inr (w,(id,ti,nx,held,marks,inbox,()),(fr,nu,tt,un,tx,()),(0,0,0,([]:List A3),([]:List Mark),([]:List A3),()),U (w=Dd)&&(U (fr=id)&&U (nu=nx)),())):=by
  cases U (w=Dd)<;>rfl
 unfold Vb G9;simp only[hj,Be];refine B2.ite (λ_=> ?_) λ_=> ?_
 .rw[AZ J J];exact(zk sm hs).eta
 refine B2.ite (λ_=>(zk sm hs).eta) λ_=> ?_;simp only[LQ sm.hl,LQ sm.il,A6,Dg,DX,show ∀c,Al c Y=Y from λc=>rfl,A2];refine B2.neg λ_=> ?_;simp only[fO sm.hl,fO sm.il,A6];exact B2.ite (λ_=>rfl) λ_=>B2.ite (λ_=>rfl) λ_=>B2.no
def FG{l:List A3}{f n:Int}(h:0<=AX l f n):(AX l f n).toNat<l.length/\((AX l f n).toNat:Int)=AX l f n/\(nA l (AX l f n).toNat).fr=f/\(nA l (AX l f n).toNat).nu=n:=by
 obtain⟨h1,_⟩|⟨i,h1,h2,h3,_⟩:=G6 l.length (λi=>U ((nA l i).fr=f)&&U ((nA l i).nu=n))
 .unfold AX at h;omega
 .have e:AX l f n=(i:Int):=h1;rw[e];simp at h3;exact⟨h2,rfl,h3.1,h3.2⟩
def Xw{l:List Mark}{f n:Int}(h:0<=Bo l f n):(Bo l f n).toNat<l.length/\((Bo l f n).toNat:Int)=Bo l f n/\(mA l (Bo l f n).toNat).mf=f/\(mA l (Bo l f n).toNat).mn=n:=by
 obtain⟨h1,_⟩|⟨i,h1,h2,h3,_⟩:=G6 l.length (λi=>U ((mA l i).mf=f)&&U ((mA l i).mn=n))
 .unfold Bo at h;omega
 .have e:Bo l f n=(i:Int):=h1;rw[e];simp at h3;exact⟨h2,rfl,h3.1,h3.2⟩
def Ma{l:List A3}{f n:Int}(h:0<=AX l f n):inb (AX l f n) l.length=Y:=by
 obtain⟨h1,h2,_⟩:=FG h;rw[← h2];exact AU h1
def aCs{l:List A3}{f n:Int}:Al (U<|0<=AX l f n) (inb (AX l f n) l.length)=Y:=by
 obtain h|h:=tf (U<|0<=AX l f n)
 .rw[h,IT,Ma<|Bd h]
 .rw[h,HJ]
def EE(l:List A3)(m:Mark):Bool:=U (0<=AX l m.mf m.mn)&&U ((nA l (AX l m.mf m.mn).toNat).un=m.mu)
def En(k:AJ)(w:A1)(m:Mark):Option AJ:=
 if U (w=Bw)&&EE k.held m then I ⟨k.id,k.ti,k.nx,ER k.held (AX k.held m.mf m.mn).toNat,ED k.marks m,k.inbox⟩ else
 if U (w=CH)&&EE k.inbox m then I ⟨k.id,k.ti,k.nx,k.held,k.marks,ER k.inbox (AX k.inbox m.mf m.mn).toNat⟩ else
 if U (w=D3)&& !decide (0<=Bo k.marks m.mf m.mn) then I ⟨k.id,k.ti,k.nx,k.held,ED k.marks m,k.inbox⟩ else G
def abJ{l:List A3}{f n:Int}(hl:l.length<=1048576)(h:0<=AX l f n):Rm (l,AX l f n,())=I ((ER l (AX l f n).toNat,()),()):=by
 obtain⟨h1,h2,_⟩:=FG h
 conv=>lhs;rw[← h2]
 exact amE hl h1
def ao0{id ti nx a b c:Int}{w:A1}{held:List A3}{marks:List Mark}{inbox:List A3}(sm:DP held marks inbox):
  B2 (Vc ((id,ti,nx,held,marks,inbox,()),w,(a,b,c,()),())) (En ⟨id,ti,nx,held,marks,inbox⟩ w ⟨a,b,c⟩):=by
 unfold Vc En;simp only[LQ sm.hl,LQ sm.il,Rr sm.ml,A6,aCs,HJ,A2];have hj:(if U (w=Bw) then(I (.inr (w,(id,ti,nx,held,marks,inbox,()),(a,b,c,()),(0,0,0,([]:List A3),([]:List Mark),([]:List A3),()),AX held a b,AX inbox a b,U<|0<=Bo marks a b,U (0<=AX held a b)&&U ((@rd A3 aE3 held<|AX held a b).un=c),())):Option (((KL×Bool×D)×D) ⊕ (A1×KL×(Int×Int×Int×D)×KL×Int×Int×Bool×Bool×D))) else
   I (.inr (w,(id,ti,nx,held,marks,inbox,()),(a,b,c,()),(0,0,0,([]:List A3),([]:List Mark),([]:List A3),()),AX held a b,AX inbox a b,U<|0<=Bo marks a b,A0,())))=
   I (.inr (w,(id,ti,nx,held,marks,inbox,()),(a,b,c,()),(0,0,0,([]:List A3),([]:List Mark),([]:List A3),()),AX held a b,AX inbox a b,U<|0<=Bo marks a b,U (w=Bw)&&EE held ⟨a,b,c⟩,())):=by
  cases U (w=Bw)<;>rfl
 simp only[hj,Be];refine B2.ite (λh=> ?_) λ_=> ?_
 .simp only[EE,AD,decide_eq_true_eq]at h;simp only[abJ sm.hl h.2.1,iB sm.ml,A6];rfl
 simp only[aCs,HJ,A2];have hj2:(if U (w=CH) then(I (.inr (w,(id,ti,nx,held,marks,inbox,()),(a,b,c,()),(0,0,0,([]:List A3),([]:List Mark),([]:List A3),()),AX inbox a b,U<|0<=Bo marks a b,U (0<=AX inbox a b)&&U ((@rd A3 aE3 inbox<|AX inbox a b).un=c),())):Option (((KL×Bool×D)×D) ⊕ (A1×KL×(Int×Int×Int×D)×KL×Int×Bool×Bool×D))) else
   I (.inr (w,(id,ti,nx,held,marks,inbox,()),(a,b,c,()),(0,0,0,([]:List A3),([]:List Mark),([]:List A3),()),AX inbox a b,U<|0<=Bo marks a b,A0,())))=
   I (.inr (w,(id,ti,nx,held,marks,inbox,()),(a,b,c,()),(0,0,0,([]:List A3),([]:List Mark),([]:List A3),()),AX inbox a b,U<|0<=Bo marks a b,U (w=CH)&&EE inbox ⟨a,b,c⟩,())):=by
  cases U (w=CH)<;>rfl
 simp only[hj2,Be];refine B2.ite (λh=> ?_) λ_=> ?_
 .simp only[EE,AD,decide_eq_true_eq]at h;simp only[abJ sm.il h.2.1,A6];rfl
 simp only[iB sm.ml,A6];exact B2.ite (λ_=>rfl) λ_=>B2.no
structure Ek (k:AJ):Prop where
 id0:0<=k.id
 id1:k.id<=3
 t0:0<=k.ti
 t1:k.ti<=999
 n0:1<=k.nx
 n1:k.nx<=100
 hl:k.held.length<=6
 h:DI k.held=Y
 ml:k.marks.length<=12
 m:FH k.marks=Y
 il:k.inbox.length<=6
 i:DI k.inbox=Y
 ho:∀i,i<k.held.length->Gx k.id k.ti k.nx k.held k.marks i=Y
 mo:∀i,i<k.marks.length->J4 k.id k.ti k.nx k.marks i=Y
 io:∀i,i<k.inbox.length->IY k.id k.ti k.nx k.marks k.inbox i=Y
def C3{k:AJ}(h:At k=Y):Ek k:=by
 unfold At at h;simp only[AD,Aa,decide_eq_true_eq,Cp]at h;obtain⟨⟨a,b⟩,⟨c,d⟩,⟨e,f⟩,⟨g,i⟩,⟨j,l⟩,⟨m,n⟩,o,p,q⟩:=h;exact⟨a,b,c,d,e,f,J,i,J,l,J,n,o,p,q⟩
def Gs{l:List A3}(h:DI l=Y){i:Nat}(hi:i<l.length):Ax (nA l i)=Y:=by
 have:=Cp.1 h i hi;simp only[AD]at this;exact this.1
def SG{l:List Mark}(h:FH l=Y){i:Nat}(hi:i<l.length):Ew (mA l i)=Y:=by
 have:=Cp.1 h i hi;simp only[AD]at this;exact this.1
def Pc{l:List A3}(h:DI l=Y){x:A3}(hx:x∈l):Ax x=Y:=by
 obtain⟨i,hi,rfl⟩:=D0 hx;have:=Gs h hi;rwa[DT<|Av hi]at this
def aAf{l:List Mark}(h:FH l=Y){x:Mark}(hx:x∈l):Ew x=Y:=by
 obtain⟨i,hi,rfl⟩:=D0 hx;have:=SG h hi;rwa[Fc<|Av hi]at this
def KU{n:A3}(h:Ax n=Y):GA n:=by
 have:=(IX h).s1;unfold GA;omega
def Ek.sm{k:AJ}(h:Ek k):DP k.held k.marks k.inbox:=by
 obtain⟨id0,id1,t0,t1,n0,n1,hl,hh,ml,m,il,hi,ho,mo,io⟩:=h;exact⟨J,λx hx=>KU<|Pc hh hx,J,J,λx hx=>KU<|Pc hi hx⟩
def Py{l:List A3}{n:A3}(hl:l.length<=6)(h:∀x∈l,GA x)(hn:GA n):(Du l n).length<=1048576/\ ∀x∈Du l n,GA x:=by
 refine⟨by unfold Du;rw[Nw];omega,λx hx=> ?_⟩;obtain rfl|hx:=GX _ hx
 .exact hn
 .exact h x hx
def Sq{l:List Mark}{n:Mark}(hl:l.length<=12):(ED l n).length<=1048576:=by unfold ED;rw[Nw];omega
def Xr{l:List A3}{i:Nat}(hl:l.length<=6)(h:∀x∈l,GA x):(ER l i).length<=1048576/\ ∀x∈ER l i,GA x:=by
 refine⟨by unfold ER;simp;omega,λx hx=> ?_⟩;unfold ER at hx;obtain hx|hx:=BM.1 hx
 .exact h x (IF hx)
 .exact h x<|Kq hx
abbrev SmK(k:AJ):Prop:=DP k.held k.marks k.inbox
def YH{k k':AJ}{n:A3}(hf:Ek k)(hk:k'.held=k.held/\k'.marks=k.marks/\k'.inbox=k.inbox){o:AJ}(h:Ed k' n=I o):SmK o:=by
 have sm:=hf.sm;have l1:=hf.hl;have l2:=hf.ml;have l3:=hf.il;unfold Ed at h;rw[hk.1,hk.2.1,hk.2.2]at h;split at h
 .cases h
 rename_i hn;have hn:GA n:=KU (by simpa using hn)
 iterate 5 (split at h;· cases h)
 split at h<;>cases h
 .have a:=Py l3 sm.i hn;exact⟨sm.hl,sm.h,Sq l2,a.1,a.2⟩
 .have a:=Py l1 sm.h hn;exact⟨a.1,a.2,sm.ml,sm.il,sm.i⟩
def avU{k:AJ}{w:A1}{n:Int}(hf:Ek k){o:AJ}(h:Hb k w n=I o):SmK o:=by
 have sm:=hf.sm;have l1:=hf.hl;have l2:=hf.ml;unfold Hb at h;split at h
 .cases h;have a:=Io (λx:A3=>U<|n<x.un) k.held;have b:=Io (λx:Mark=>U<|n<x.mu) k.marks;exact⟨by unfold Gy;simp only;omega,λx hx=>sm.h x (FP.1 hx).1,by unfold Jn;simp only;omega,sm.il,sm.i⟩
 .split at h<;>cases h;exact sm
def aqZ{k:AJ}{w:A1}{n:A3}(hf:Ek k)(hn:Ax n=Y){o:AJ}(h:G9 k w n=I o):SmK o:=by
 have sm:=hf.sm;unfold G9 at h;split at h
 .exact YH (k':=⟨k.id,k.ti,k.nx+1,k.held,k.marks,k.inbox⟩) hf ⟨rfl,rfl,rfl⟩ h
 split at h
 .exact YH (k':=k) hf ⟨rfl,rfl,rfl⟩ h
 split at h
 .cases h
 split at h
 .cases h;have a:=Py hf.hl sm.h<|KU hn;exact⟨a.1,a.2,sm.ml,sm.il,sm.i⟩
 split at h<;>cases h;have a:=Py hf.il sm.i<|KU hn;exact⟨sm.hl,sm.h,sm.ml,a.1,a.2⟩
def aqc{k:AJ}{w:A1}{m:Mark}(hf:Ek k){o:AJ}(h:En k w m=I o):SmK o:=by
 have sm:=hf.sm;unfold En at h;split at h
 .cases h;have a:=Xr (i:=(AX k.held m.mf m.mn).toNat) hf.hl sm.h;exact⟨a.1,a.2,Sq hf.ml,sm.il,sm.i⟩
 split at h
 .cases h;have a:=Xr (i:=(AX k.inbox m.mf m.mn).toNat) hf.il sm.i;exact⟨sm.hl,sm.h,sm.ml,a.1,a.2⟩
 split at h<;>cases h;exact⟨sm.hl,sm.h,Sq hf.ml,sm.il,sm.i⟩
def jG{k:AJ}{w:A1}{m:Mark}(hf:Ek k)(hm:Ew m=A0):En k w m=G\/ ∃o,En k w m=I o/\At o=A0:=by
 have hit:∀l,DI l=Y->EE l m=A0:=λl hl=>by
  unfold EE;obtain h|h:=tf (U<|0<=AX l m.mf m.mn)
  .obtain⟨h1,_,h2,h3⟩:=FG<|Bd h;rw[h,AP,decide_eq_false_iff_not];intro h4;have h5:=IX<|Gs hl h1;have:Ew m=Y:=by
    unfold Ew;simp only[AD,Aa];have:=h5.f0;have:=h5.f1;have:=h5.n0;have:=h5.n1;have:=h5.u0;have:=h5.u1;omega
   rw[this]at hm;cases hm
  .rw[h];rfl
 unfold En;rw[hit _ hf.h,hit _ hf.i,BZ,BZ,A4,A4];split
 .refine .inr ⟨_,rfl, ?_⟩;obtain h|h:=tf (At ⟨k.id,k.ti,k.nx,k.held,ED k.marks m,k.inbox⟩)
  .have:=aAf (C3 h).m (Ka (λx=>bef x.mf x.mn m.mf m.mn) (l:=k.marks) (n:=m)<|.inl rfl);rw[hm]at this;cases this
  .exact h
 .exact .inl rfl
def Gv(r:A1):Option Mark:=match GN [32] 0 ((L r).count 32) (L r) with
 | [p,q,t]=>if(Aq<|B p).2&&((Aq<|B q).2&&((Aq<|B t).2&&Y)) then I ⟨(Aq<|B p).1,(Aq<|B q).1,(Aq<|B t).1⟩ else G
 | _=>G
def BX(k:AJ)(w r:A1):Option AJ:=
 if U (w=E0)||decide (w=Ep) then(if(Aq r).2 then Hb k w (Aq r).1 else G) else
 if U (w=Dd)||(U (w=EM)||(U (w=EN)||decide (w=EY))) then(match DC r with|some n=>G9 k w n|none=>G) else
 if U (w=Bw)||(U (w=CH)||decide (w=D3)) then(match Gv r with|some m=>En k w m|none=>G) else G
def GC(k:AJ)(rec:A1):Option AJ:=if !(NB<|L rec).isSome then G else BX k (wd rec).1 (wd rec).2
def atk{id ti nx:Int}{w r:A1}{held:List A3}{marks:List Mark}{inbox:List A3}(sm:DP held marks inbox)(hr:r.size<=1048576):
  B2 ((dR (r,B [32],())).bind λr46=>(Rb (r46.1.1,())).bind λr47=>
   if r47.1.2.1&&U ((j8 r47.1.1:Int)=3) then(if inb 0 r47.1.1.length then(if inb 1 r47.1.1.length then(if inb 2 r47.1.1.length then
    (Vc ((id,ti,nx,held,marks,inbox,()),w,((@rd Int aE8 r47.1.1 0),(@rd Int aE8 r47.1.1 1),(@rd Int aE8 r47.1.1 2),()),())).bind λr48=>I (((r48.1.1.1,r48.1.1.2.1,r48.1.1.2.2.1,r48.1.1.2.2.2.1,r48.1.1.2.2.2.2.1,r48.1.1.2.2.2.2.2.1,()),r48.1.2.1,()),())
    else G) else G) else G)
   else I (((id,ti,nx,held,marks,inbox,()),A0,()),())) (match Gv r with|some m=>En ⟨id,ti,nx,held,marks,inbox⟩ w m|none=>G):=by
 unfold Gv;simp only[avp hr,A6];have hsz:=iw ((L r).count 32)<|L r;have hln:=jS ((L r).count 32)<|L r;have aEV:(L r).count 32<=r.size:=List.count_le_length;generalize GN [32] 0 ((L r).count 32) (L r)=ps at *;have hb:∀p∈ps,(B p).size<=1048576:=λp hp=>by
  have:=hsz p hp;rw[Aw]at this;rw[BQ];omega
 rw[aAt y7 (λw hw=>by
  obtain⟨p,hp,rfl⟩:=Bu.1 hw;exact hb p hp)]
 simp only[A6];by_cases h3:ps.length=3
 .match ps,h3 with
  | [p,q,t],_=>
   have oZ:B6 (([p,q,t]:List (List UInt8)).map B).length (λi=>(Aq<|(([p,q,t]:List (List UInt8)).map B).getD i noB).2)=((Aq<|B p).2&&((Aq<|B q).2&&((Aq<|B t).2&&Y))):=rfl;rw[oZ];obtain h|h:=tf ((Aq<|B p).2&&((Aq<|B q).2&&((Aq<|B t).2&&Y)))
   .simp only[h,A2];exact(ao0 sm).eta
   .simp only[h,A4,AM];exact B2.no
 .have e1:∀c:Bool,(((if c then(((ps.map B).map λw=>(Aq w).1),Y,()) else(([]:List Int),A0,())).2.1&&U ((((if c then(((ps.map B).map λw=>(Aq w).1),Y,()) else(([]:List Int),A0,())):List Int×Bool×D).1.length:Int)=3))=A0):=by
   intro c;cases c
   .rfl
   .simp;omega
  rw[A8 (by rw[e1];simp)];have e2:(match ps with|[p,q,t]=>if(Aq<|B p).2&&((Aq<|B q).2&&((Aq<|B t).2&&Y)) then I (⟨(Aq<|B p).1,(Aq<|B q).1,(Aq<|B t).1⟩:Mark) else G|_=>G)=G:=by
   split
   .exact absurd rfl h3
   .rfl
  rw[e2];exact B2.no
def awp{id ti nx:Int}{w r:A1}{held:List A3}{marks:List Mark}{inbox:List A3}(sm:DP held marks inbox)(hr:r.size<=1048576){t:KL}:
  B2 ((PU (r,())).bind λr33=>if r33.1.2.1 then(Vw ((id,ti,nx,held,marks,inbox,()),w,r33.1.1,())).bind λr34=>I (((r34.1.1.1,r34.1.1.2.1,r34.1.1.2.2.1,r34.1.1.2.2.2.1,r34.1.1.2.2.2.2.1,r34.1.1.2.2.2.2.2.1,()),r34.1.2.1,()),())
   else I ((t,A0,()),())) (if(Aq r).2 then Hb ⟨id,ti,nx,held,marks,inbox⟩ w (Aq r).1 else G):=by
 simp only[ee (J:r.size<=9223372036854775807),A6];exact B2.ite (λ_=>(apG sm).eta) λ_=>B2.no
def axp{id ti nx:Int}{w r:A1}{held:List A3}{marks:List Mark}{inbox:List A3}(sm:DP held marks inbox)(hr:r.size<=1048576)(h0:0<=nx)(h1:nx<=1000){t:KL}:
  B2 ((V0 (r,())).bind λr40=>if r40.1.2.1 then(Vb ((id,ti,nx,held,marks,inbox,()),w,(r40.1.1.1,r40.1.1.2.1,r40.1.1.2.2.1,r40.1.1.2.2.2.1,r40.1.1.2.2.2.2.1,()),())).bind λr41=>
    I (((r41.1.1.1,r41.1.1.2.1,r41.1.1.2.2.1,r41.1.1.2.2.2.1,r41.1.1.2.2.2.2.1,r41.1.1.2.2.2.2.2.1,()),r41.1.2.1,()),())
   else I ((t,A0,()),())) (match DC r with|some n=>G9 ⟨id,ti,nx,held,marks,inbox⟩ w n|none=>G):=by
 simp only[al7 hr,A6];cases h:DC r with
 | none=>exact B2.no
 | some n=>
  have:=KU (Jf h).1;exact(anz sm this h0 h1).eta
def or3{a b c:Bool}{Ω X:Type}{f:Bool->X}:(if a then(I (.inr<|f a):Option (Ω ⊕ X)) else if b then I (.inr<|f b) else I (.inr<|f c))=I (.inr<|f<|a||(b||c)):=by cases a<;>cases b<;>rfl
def or2{a b:Bool}{Ω X:Type}{f:Bool->X}:(if a then(I (.inr<|f a):Option (Ω ⊕ X)) else I (.inr<|f b))=I (.inr<|f<|a||b):=by cases a<;>rfl
def or4{a b c d:Bool}{Ω X:Type}{f:Bool->X}:(if a then(I (.inr<|f a):Option (Ω ⊕ X)) else if b then I (.inr<|f b) else if c then I (.inr<|f c) else I (.inr<|f d))=I (.inr<|f<|a||(b||(c||d))):=by cases a<;>cases b<;>cases c<;>rfl
def aCl{a b:Bool}{Ω X:Type}{f:Bool->X}{g:X->Option Ω}{m:Option (Ω ⊕ X)}(h:m=(if a then(I (.inr<|f a):Option (Ω ⊕ X)) else I (.inr<|f b))):BT g m=g (f<|a||b):=by rw[h,or2];rfl
def ast{a b c:Bool}{Ω X:Type}{f:Bool->X}{g:X->Option Ω}{m:Option (Ω ⊕ X)}(h:m=(if a then(I (.inr<|f a):Option (Ω ⊕ X)) else if b then I (.inr<|f b) else I (.inr<|f c))):BT g m=g (f<|a||(b||c)):=by rw[h,or3];rfl
def ass{a b c d:Bool}{Ω X:Type}{f:Bool->X}{g:X->Option Ω}{m:Option (Ω ⊕ X)}(h:m=(if a then(I (.inr<|f a):Option (Ω ⊕ X)) else if b then I (.inr<|f b) else if c then I (.inr<|f c) else I (.inr<|f d))):BT g m=g (f<|a||(b||(c||d))):=by rw[h,or4];rfl
def apH{id ti nx:Int}{rec:A1}{held:List A3}{marks:List Mark}{inbox:List A3}(sm:DP held marks inbox)(hr:rec.size<=1048576)(h0:0<=nx)(h1:nx<=1000):
  B2 (Vy ((id,ti,nx,held,marks,inbox,()),rec,())) (GC ⟨id,ti,nx,held,marks,inbox⟩ rec):=by
 have hr2:(wd rec).2.size<=1048576:=by have:=(Sd rec).2;omega
 unfold Vy GC BX;simp only[axL hr,A6];refine B2.neg λ_=> ?_;rw[aCl (a:=U<|(wd rec).1=E0) (b:=U<|(wd rec).1=Ep) (f:=λv=>((id,ti,nx,held,marks,inbox,()),(0,0,0,[],[],[],()),(wd rec).1,(wd rec).2,(wd rec).1,v,())) rfl];refine B2.ite (λ_=>awp sm hr2) λ_=> ?_;simp only;rw[ass (a:=U<|(wd rec).1=Dd) (b:=U<|(wd rec).1=EM) (c:=U<|(wd rec).1=EN) (d:=U<|(wd rec).1=EY) (f:=λv=>((id,ti,nx,held,marks,inbox,()),(0,0,0,[],[],[],()),(wd rec).1,(wd rec).2,(wd rec).1,v,())) rfl];refine B2.ite (λ_=>axp sm hr2 h0 h1) λ_=> ?_;simp only;rw[ast (a:=U<|(wd rec).1=Bw) (b:=U<|(wd rec).1=CH) (c:=U<|(wd rec).1=D3) (f:=λv=>((id,ti,nx,held,marks,inbox,()),(0,0,0,[],[],[],()),(wd rec).1,(wd rec).2,v,())) rfl];exact B2.ite (λ_=>atk sm hr2) λ_=>B2.no
def atG{k:AJ}{rec:A1}(hf:Ek k){o:AJ}(h:GC k rec=I o):SmK o:=by
 unfold GC at h;split at h
 .cases h
 unfold BX at h;split at h
 .split at h
  .exact avU hf h
  .cases h
 split at h
 .cases hn:DC (wd rec).2 with
  | none=>rw[hn]at h;cases h
  | some n=>rw[hn]at h;exact aqZ hf (Jf hn).1 h
 split at h
 .cases hn:Gv (wd rec).2 with
  | none=>rw[hn]at h;cases h
  | some n=>rw[hn]at h;exact aqc hf h
 .cases h
def FL(k:AJ)(rec:A1):AJ×Bool:=
 if At k then(match (GC k rec).filter At with|some k'=>(k',Y)|none=>(k,A0)) else(⟨0,0,0,[],[],[]⟩,A0)
def zo{id ti nx:Int}{rec:A1}{held:List A3}{marks:List Mark}{inbox:List A3}(sm:DP held marks inbox)(hr:rec.size<=1048576):
  Rv ((id,ti,nx,held,marks,inbox,()),rec,())=I ((tK (FL ⟨id,ti,nx,held,marks,inbox⟩ rec).1,(FL ⟨id,ti,nx,held,marks,inbox⟩ rec).2,()),()):=by
 unfold Rv FL;simp only[iE sm,xY sm,A6];obtain h|h:=tf (At ⟨id,ti,nx,held,marks,inbox⟩)
 .have hf:=C3 h;have ha:=apH (id:=id) (ti:=ti) (nx:=nx) sm hr (by have:=hf.n0;simp only at this;omega) (by have:=hf.n1;simp only at this;omega);simp only[h,AB,A4,A2];cases hst:GC ⟨id,ti,nx,held,marks,inbox⟩ rec with
  | none=>
   rw[hst]at ha;obtain⟨t,ht⟩:=ha;simp only[ht,A6,AG,AB,HJ,A2,Bt];rfl
  | some o=>
   rw[hst]at ha;have sm':=atG hf hst;rw[show Vy ((id,ti,nx,held,marks,inbox,()),rec,())=I ((tK o,Y,()),()) from ha];simp only[A6,AB,AG,IT,iE sm',xY sm',Dg,DX,A2,Bk,Option.filter_some];obtain h2|h2:=tf (At o)
   .simp only[h2,AB,A4,A2]
   .simp only[h2,AG,A4,A2]
 .simp only[h,AG,A4,A2]
def aqF{id ti nx a b:Int}{held:List A3}{marks:List Mark}{inbox:List A3}(sm:DP held marks inbox)(h:0<=AX held a b):
  fI ((id,ti,nx,held,marks,inbox,()),a,b,())=I (((id,ti,nx,ER held (AX held a b).toNat,Ov marks ⟨a,b,(nA held (AX held a b).toNat).un⟩,inbox,()),Y,()),()):=by
 obtain⟨h1,h2,_⟩:=FG h;have hl:=sm.hl;unfold fI;have NO:U (AX held a b<0)=A0:=by simp;omega
 simp only[Ja sm.hl,A6,NO,A4,Ma h,A2];generalize hi:(AX held a b).toNat=i at *;rw[← h2];have e1:(U (0<=(i:Int))&&U ((i:Int)<=(held.length:Int)))=Y:=by simp;omega
 have e2:(U (0<=((i+1:Nat):Int))&&U (((i+1:Nat):Int)<=(held.length:Int)))=Y:=by simp;omega
 simp only[BC h1 (by omega:held.length<=9223372036854775807),e1,e2,A2,Bc,EU,CO,DY,Dh,EF,Da,qe sm.ml,A6];rw[A5<|BG J,A5<|BG J];rfl
def aqG{id ti nx a b:Int}{held:List A3}{marks:List Mark}{inbox:List A3}(sm:DP held marks inbox)(h:0<=AX inbox a b):
  fJ ((id,ti,nx,held,marks,inbox,()),a,b,())=I (((id,ti,nx,held,marks,ER inbox (AX inbox a b).toNat,()),Y,()),()):=by
 obtain⟨h1,h2,_⟩:=FG h;have hl:=sm.il;unfold fJ;have NO:U (AX inbox a b<0)=A0:=by simp;omega
 simp only[Ja sm.il,A6,NO,A4];generalize hi:(AX inbox a b).toNat=i at *;rw[← h2];have e1:(U (0<=(i:Int))&&U ((i:Int)<=(inbox.length:Int)))=Y:=by simp;omega
 have e2:(U (0<=((i+1:Nat):Int))&&U (((i+1:Nat):Int)<=(inbox.length:Int)))=Y:=by simp;omega
 simp only[BC h1 (by omega:inbox.length<=9223372036854775807),e1,e2,A2,Bc,EU,CO,DY,Dh,EF];rw[A5<|BG J,A5<|BG J];rfl
def L0(r:A1):Bool:= !decide (E9 r 3=noB)|| !decide (r=((((BW (Ad<|Am r 0)++B [32])++BW (Ad<|Am r 1))++B [32])++BW (Ad<|Am r 2)))
def mk3(r:A1):Mark:=⟨Ad<|Am r 0,Ad<|Am r 1,Ad<|Am r 2⟩
def Dl(k:AJ)(w r:A1):Option AJ:=
 if U (w=E0) then(if U (Ad r<=k.ti) then G else I ⟨k.id,Ad r,k.nx,Gy (Ad r) k.held,Jn (Ad r) k.marks,k.inbox⟩) else
 if U (w=Dd) then(match DC r with|some n=>if !decide (n.fr=k.id) then G else if !decide (n.nu=k.nx) then G else Ed ⟨k.id,k.ti,k.nx+1,k.held,k.marks,k.inbox⟩ n|none=>G) else
 if U (w=EM) then(match DC r with|some n=>if U (n.fr=k.id) then G else Ed k n|none=>G) else
 if U (w=Ep) then(if U (Ad r<=k.nx) then G else I ⟨k.id,k.ti,Ad r,k.held,k.marks,k.inbox⟩) else
 if U (w=EN)||decide (w=EY) then(match DC r with|some n=>if U (0<=AX k.held n.fr n.nu) then G else if U (0<=AX k.inbox n.fr n.nu) then G else if U (w=EN) then I ⟨k.id,k.ti,k.nx,Du k.held n,k.marks,k.inbox⟩ else I ⟨k.id,k.ti,k.nx,k.held,k.marks,Du k.inbox n⟩|none=>G) else
 if L0 r then G else
 if U (w=Bw) then(if !EE k.held (mk3 r) then G else I ⟨k.id,k.ti,k.nx,ER k.held (AX k.held (mk3 r).mf (mk3 r).mn).toNat,ED k.marks<|mk3 r,k.inbox⟩) else
 if U (w=CH) then(if !EE k.inbox (mk3 r) then G else I ⟨k.id,k.ti,k.nx,k.held,k.marks,ER k.inbox (AX k.inbox (mk3 r).mf (mk3 r).mn).toNat⟩) else
 if U (w=D3) then(if U (0<=Bo k.marks (mk3 r).mf (mk3 r).mn) then G else I ⟨k.id,k.ti,k.nx,k.held,ED k.marks<|mk3 r,k.inbox⟩) else G
def Wn(s:A1): -1<=Ad s/\Ad s<10000:=by
 obtain⟨h,_⟩|⟨n,h,h1,h2⟩:=S2 s
 .omega
 .have:n<10000:=by
   have hv:=Yt 4 (L s) (by rw[Aw];omega) (by rw[h2];exact YE (n+1) n J);rw[h2,YK (n+1) n J]at hv;omega
  omega
def jK{n:Int}(h0: -1<=n)(h1:n<10000):(BW n).size<=4:=by
 by_cases h:0<=n
 .exact MS h J J
 .obtain rfl:n= -1:=J
  have:BW (-1)=B [45,49]:=by
   apply Fw;show B3 (-1)=_;rw[show(-1:Int)= -((1:Nat):Int) by rfl,lb _ J];show 45::dcm 1=_;rw[KW J];rfl
  rw[this];decide
def aap{l:List A3}{m:Mark}:(U (AX l m.mf m.mn<0)|| !decide ((@rd A3 aE3 l<|AX l m.mf m.mn).un=m.mu))= !EE l m:=by
 unfold EE;obtain h|h:=sgn (AX l m.mf m.mn)
 .simp only[h,AT,Af,Bt,AM,AG]
 .simp only[h,AT,Af,Bk,AP];rfl
def auE{l:List A3}{f n:Int}:Al (!(U<|AX l f n<0)) (inb (AX l f n) l.length)=Y:=by
 obtain h|h:=sgn (AX l f n)
 .simp only[h,AT,AB,HJ]
 .simp only[h,Af,AG,IT,Ma<|of_eq_true h.2]
def aqD{id ti nx:Int}{rec:A1}{held:List A3}{marks:List Mark}{inbox:List A3}(hf:Ek ⟨id,ti,nx,held,marks,inbox⟩)(hr:rec.size<=1048576):
  B2 (Vg ((id,ti,nx,held,marks,inbox,()),rec,())) (Dl ⟨id,ti,nx,held,marks,inbox⟩ (wd rec).1 (wd rec).2):=by
 have sm:DP held marks inbox:=hf.sm;have hn0:1<=nx:=hf.n0;have hn1:nx<=100:=hf.n1;have hr2:(wd rec).2.size<=1048576:=by have:=(Sd rec).2;omega
 unfold Vg Dl;simp only[aak hr,A6];generalize (wd rec).1=w;generalize (wd rec).2=r at *;simp only[iQ (J:r.size<=9223372036854775807),xF hr2,alq sm,A6];refine B2.ite (λ_=>B2.neg λ_=>rfl) λ_=> ?_;refine B2.ite (λ_=> ?_) λ_=> ?_
 .cases h:DC r with
  | none=>exact B2.no
  | some n=>
   have:=KU (Jf h).1;simp only[Tf,AB,A4];refine B2.neg λ_=>B2.neg λ_=> ?_;rw[AZ J J];exact(aAZ sm this).eta
 refine B2.ite (λ_=> ?_) λ_=> ?_
 .cases h:DC r with
  | none=>exact B2.no
  | some n=>
   have:=KU (Jf h).1;simp only[Tf,AB,Bk];exact B2.neg λ_=>(aAZ sm this).eta
 refine B2.ite (λ_=>B2.neg λ_=>rfl) λ_=> ?_;rw[aCl (a:=U<|w=EN) (b:=U<|w=EY) (f:=λv=>((id,ti,nx,held,marks,inbox,()),(0,0,0,[],[],[],()),w,r,v,())) rfl];refine B2.ite (λ_=> ?_) λ_=> ?_
 .simp only[xF hr2,A6];cases h:DC r with
  | none=>exact B2.no
  | some n=>
   have:=KU (Jf h).1;simp only[Tf,AB,A4,Ja sm.hl,Ja sm.il,A6];refine B2.neg λh1=>B2.neg λh2=> ?_;have e1:Ou held n=Du held n:=YW (by simpa using h1);have e2:Ou inbox n=Du inbox n:=YW (by simpa using h2);have Ei:=bk (l:=held) (fr:=n.fr) (nu:=n.nu) (tt:=n.to) (un:=n.un) (tx:=n.tx) sm.hl;have Zw:=bk (l:=inbox) (fr:=n.fr) (nu:=n.nu) (tt:=n.to) (un:=n.un) (tx:=n.tx) sm.il;rw[show(⟨n.fr,n.nu,n.to,n.un,n.tx⟩:A3)=n from rfl]at Ei Zw;simp only[Ei,Zw,e1,e2,A6];exact B2.ite (λ_=>rfl) λ_=>rfl
 have e3:PV (r,3,())=I (([Ad<|Am r 0,Ad<|Am r 1,Ad<|Am r 2],E9 r 3,()),()):=aay (n:=3) hr2 J;have i0:inb 0 [Ad<|Am r 0,Ad<|Am r 1,Ad<|Am r 2].length=Y:=rfl;have i1:inb 1 [Ad<|Am r 0,Ad<|Am r 1,Ad<|Am r 2].length=Y:=rfl;have i2:inb 2 [Ad<|Am r 0,Ad<|Am r 1,Ad<|Am r 2].length=Y:=rfl;have r0: @rd Int aE8 [Ad<|Am r 0,Ad<|Am r 1,Ad<|Am r 2] 0=Ad (Am r 0):=rfl;have r1: @rd Int aE8 [Ad<|Am r 0,Ad<|Am r 1,Ad<|Am r 2] 1=Ad (Am r 1):=rfl;have r2: @rd Int aE8 [Ad<|Am r 0,Ad<|Am r 1,Ad<|Am r 2] 2=Ad (Am r 2):=rfl;have q0:=Wn<|Am r 0;have q1:=Wn<|Am r 1;have q2:=Wn<|Am r 2;have z0:=jK q0.1 q0.2;have z1:=jK q1.1 q1.2;have z2:=jK q2.1 q2.2;have zb:(B [32]).size=1:=rfl;have d1:U ((BW<|Ad<|Am r 0).size+(B [32]).size<=4611686018427387904)=Y:=by rw[zb,decide_eq_true_eq];omega
 have d2:U ((BW (Ad<|Am r 0)++B [32]).size+(BW<|Ad<|Am r 1).size<=4611686018427387904)=Y:=by rw[By,zb,decide_eq_true_eq];omega
 have d3:U (((BW (Ad<|Am r 0)++B [32])++BW (Ad<|Am r 1)).size+(B [32]).size<=4611686018427387904)=Y:=by rw[By,By,zb,decide_eq_true_eq];omega
 have d4:U ((((BW (Ad<|Am r 0)++B [32])++BW (Ad<|Am r 1))++B [32]).size+(BW<|Ad<|Am r 2).size<=4611686018427387904)=Y:=by rw[By,By,By,zb,decide_eq_true_eq];omega
 simp only[e3,A6,i0,i1,i2,r0,r1,r2,Fm (n:=Ad<|Am r 0) J J,Fm (n:=Ad<|Am r 1) J J,Fm (n:=Ad<|Am r 2) J J,
  Dg,DX,show ∀c,Al c Y=Y from λc=>rfl,A2,d1,d2,d3,d4]
 refine B2.neg λ_=> ?_;have hmk:mk3 r=⟨Ad<|Am r 0,Ad<|Am r 1,Ad<|Am r 2⟩:=rfl;generalize Ad (Am r 0)=a at *;generalize Ad (Am r 1)=b at *;generalize Ad (Am r 2)=c at *;rw[hmk];simp only[Ja sm.hl,Ja sm.il,Rh sm.ml,A6,auE,A2];refine B2.ite (λ_=> ?_) λ_=> ?_
 .rw[aap (m:=⟨a,b,c⟩)];refine B2.neg λh=> ?_;have hh:EE held ⟨a,b,c⟩=Y:=by simpa using h
  simp only[EE,AD,decide_eq_true_eq]at hh;obtain⟨g1,g2,g3,g4⟩:=FG hh.1;have ho:=hf.ho _ g1;unfold Gx at ho;simp only[AD,decide_eq_true_eq]at ho;have hm:Bo marks a b<0:=by
   have:=ho.2.2.2;simp only[g3,g4]at this;exact this
  have hM:Ov marks ⟨a,b,c⟩=ED marks ⟨a,b,c⟩:=kY hm;simp only[aqF sm hh.1,A6,hh.2,hM];rfl
 refine B2.ite (λ_=> ?_) λ_=> ?_
 .rw[aap (m:=⟨a,b,c⟩)];refine B2.neg λh=> ?_;have hh:EE inbox ⟨a,b,c⟩=Y:=by simpa using h
  simp only[EE,AD,decide_eq_true_eq]at hh;simp only[aqG sm hh.1,A6];rfl
 refine B2.ite (λ_=> ?_) λ_=>B2.no;refine B2.neg λh=> ?_;have hM:Ov marks ⟨a,b,c⟩=ED marks ⟨a,b,c⟩:=kY (by simpa using h);simp only[qe sm.ml,A6,hM];rfl
def alh:U (E0=Ep)=A0:=by decide
def an7:U (E0=Dd)=A0:=by decide
def alg:U (E0=EM)=A0:=by decide
def alj:U (E0=EN)=A0:=by decide
def akQ:U (E0=EY)=A0:=by decide
def an8:U (E0=Bw)=A0:=by decide
def an9:U (E0=CH)=A0:=by decide
def ali:U (E0=D3)=A0:=by decide
def xZ:U (Ep=E0)=A0:=by decide
def aoM:U (Ep=Dd)=A0:=by decide
def alm:U (Ep=EM)=A0:=by decide
def alc:U (Ep=EN)=A0:=by decide
def akR:U (Ep=EY)=A0:=by decide
def aoN:U (Ep=Bw)=A0:=by decide
def aoO:U (Ep=CH)=A0:=by decide
def aln:U (Ep=D3)=A0:=by decide
def aoJ:U (Dd=E0)=A0:=by decide
def aoK:U (Dd=Ep)=A0:=by decide
def zc:U (Dd=EM)=A0:=by decide
def zd:U (Dd=EN)=A0:=by decide
def xo:U (Dd=EY)=A0:=by decide
def apS:U (Dd=Bw)=A0:=by decide
def apT:U (Dd=CH)=A0:=by decide
def aoL:U (Dd=D3)=A0:=by decide
def gD:U (EM=E0)=A0:=by decide
def gE:U (EM=Ep)=A0:=by decide
def gi:U (EM=Dd)=A0:=by decide
def gF:U (EM=EN)=A0:=by decide
def sC:U (EM=EY)=A0:=by decide
def anA:U (EM=Bw)=A0:=by decide
def aoI:U (EM=CH)=A0:=by decide
def alk:U (EM=D3)=A0:=by decide
def xb:U (EN=E0)=A0:=by decide
def xd:U (EN=Ep)=A0:=by decide
def ze:U (EN=Dd)=A0:=by decide
def xc:U (EN=EM)=A0:=by decide
def akT:U (EN=EY)=A0:=by decide
def aoP:U (EN=Bw)=A0:=by decide
def aoQ:U (EN=CH)=A0:=by decide
def alf:U (EN=D3)=A0:=by decide
def xO:U (EY=E0)=A0:=by decide
def xQ:U (EY=Ep)=A0:=by decide
def xa:U (EY=Dd)=A0:=by decide
def xP:U (EY=EM)=A0:=by decide
def xR:U (EY=EN)=A0:=by decide
def ald:U (EY=Bw)=A0:=by decide
def ale:U (EY=CH)=A0:=by decide
def akS:U (EY=D3)=A0:=by decide
def gq:U (Bw=E0)=A0:=by decide
def gu:U (Bw=Ep)=A0:=by decide
def ig:U (Bw=Dd)=A0:=by decide
def gr:U (Bw=EM)=A0:=by decide
def gw:U (Bw=EN)=A0:=by decide
def gK:U (Bw=EY)=A0:=by decide
def ij:U (Bw=CH)=A0:=by decide
def gv:U (Bw=D3)=A0:=by decide
def gx:U (CH=E0)=A0:=by decide
def gz:U (CH=Ep)=A0:=by decide
def ik:U (CH=Dd)=A0:=by decide
def gy:U (CH=EM)=A0:=by decide
def iA:U (CH=EN)=A0:=by decide
def gL:U (CH=EY)=A0:=by decide
def im:U (CH=Bw)=A0:=by decide
def hY:U (CH=D3)=A0:=by decide
def gG:U (D3=E0)=A0:=by decide
def gI:U (D3=Ep)=A0:=by decide
def gj:U (D3=Dd)=A0:=by decide
def gH:U (D3=EM)=A0:=by decide
def gJ:U (D3=EN)=A0:=by decide
def sE:U (D3=EY)=A0:=by decide
def gk:U (D3=Bw)=A0:=by decide
def gn:U (D3=CH)=A0:=by decide
abbrev flt(o:Option AJ):Option AJ:=o.filter At
def Sm{o:Option AJ}(h:o=G\/ ∃k,o=I k/\At k=A0):flt o=G:=by
 obtain rfl|⟨k,rfl,h⟩:=h
 .rfl
 .simp[flt,Option.filter,h]
def apw:DC noB=G:=by
 cases h:DC noB with
 | none=>rfl
 | some n=>
  obtain⟨h1,h2⟩:=Jf h;have:=mL<|IX h1;rw[h2]at this;exact absurd this<|by decide
def auh:Ad noB= -1:=by
 obtain⟨h,_⟩|⟨n,_,_,h⟩:=S2 noB
 .exact h
 .exact absurd h.symm (n8 n)
def aBt(r:A1):(Aq r=(0,A0)/\Ad r= -1)\/ ∃n:Nat,Aq r=((n:Int),Y)/\(Ad r=n\/(Ad r= -1/\10000<=n)):=by
 obtain h|⟨n,h1,h2,h3⟩:=S5 r
 .refine .inl ⟨h, ?_⟩;obtain⟨h4,_⟩|⟨n,_,h5,h6⟩:=S2 r
  .exact h4
  .rw[jd J h6]at h;cases h
 .refine .inr ⟨n,h1, ?_⟩;obtain⟨h4,h5⟩|⟨m,h4,_,h6⟩:=S2 r
  .refine .inr ⟨h4, ?_⟩;have h7:=h5 n h3;obtain h8|h8:=HA n 10000
   .have:=Lf 4 n J J;rw[← h3,Aw]at this;omega
   .exact h8
  .left;have e:dcm n=dcm m:=h3.symm.trans h6;have:=congrArg val e;rw[YK (n+1) n J,YK (m+1) m J]at this;omega
def aEr(a b c:Int):L ((((BW a++B [32])++BW b)++B [32])++BW c)=B3 a++32::(B3 b++32::B3 c):=by
 simp only[GI,TY,L_B,C2,Kr,EU]
def mG{l:List UInt8}(h:CU l):l.count 32=0:=List.count_eq_zero.2 λhm=>h 32 hm rfl
def YO{r:A1}{a b c:Int}(ha:0<=a)(ha2:a<100000)(hb:0<=b)(hb2:b<100000)(hc:0<=c)(hc2:c<100000)(e:L r=B3 a++32::(B3 b++32::B3 c)):Gv r=I ⟨a,b,c⟩:=by
 unfold Gv;have h2:(L r).count 32=1+1:=by
  rw[e,List.count_append,aBf,List.count_append,aBf,mG<|HK ha,mG<|HK hb,mG<|HK hc]
 rw[h2,e,LX<|HK ha,LX<|HK hb];show(if(Aq<|B<|B3 a).2&&((Aq<|B<|B3 b).2&&((Aq<|B<|B3 c).2&&Y)) then I (⟨(Aq<|B<|B3 a).1,(Aq<|B<|B3 b).1,(Aq<|B<|B3 c).1⟩:Mark) else G)=_;rw[J1 ha ha2,J1 hb hb2,J1 hc hc2];rfl
def mg{p:List UInt8}(h:(Aq<|B p).2=Y):0<=(Aq<|B p).1/\p=B3 (Aq<|B p).1:=by
 obtain h1|⟨n,h1,_,h3⟩:=S5 (B p)
 .rw[h1]at h;cases h
 .rw[h1];exact⟨by simp,by rw[J5];exact h3⟩
def aEh{r:A1}{m:Mark}(h:Gv r=I m):0<=m.mf/\0<=m.mn/\0<=m.mu/\L r=B3 m.mf++32::(B3 m.mn++32::B3 m.mu):=by
 unfold Gv at h;have hj:=iy ((L r).count 32)<|L r;split at h
 .rename_i p q t hp;rw[hp]at hj;split at h
  .rename_i hc;simp only[AD]at hc;cases h;have h1:=mg hc.1;have h2:=mg hc.2.1;have h3:=mg hc.2.2.1;refine⟨h1.1,h2.1,h3.1, ?_⟩;simp only;rw[← h1.2,← h2.2,← h3.2];exact hj.symm
  .cases h
 .cases h
def aC0{r:A1}{a b c:Int}(ha:0<=a)(ha2:a<10000)(hb:0<=b)(hb2:b<10000)(hc:0<=c)(hc2:c<10000)(e:L r=B3 a++32::(B3 b++32::B3 c)):L0 r=A0/\mk3 r=⟨a,b,c⟩:=by
 have e0:=Kk (HK ha) e;have c1:L (E9 r 1)=_:=(Jj (t:=r) e0).2;have e1:=Kk (HK hb) c1;have c2:L (E9 r 2)=_:=(Jj (t:=r) e1).2;have e2:=Tb (s:=E9 r 2) (by rw[c2];exact HK hc);have w0:Am r 0=B (B3 a):=(Jj (t:=r) e0).1;have w1:Am r 1=B (B3 b):=(Jj (t:=r) e1).1;have w2:Am r 2=B (B3 c):=by
  show(wd<|E9 r 2).1=_;rw[e2];apply Fw;rw[c2,L_B]
 have t3:E9 r 3=noB:=by
  show(wd<|E9 r 2).2=_;rw[e2]
 have d0:=MW ha ha2;have d1:=MW hb hb2;have d2:=MW hc hc2;refine⟨?_, ?_⟩
 .unfold L0;rw[t3,w0,w1,w2,d0,d1,d2];have:r=((((BW a++B [32])++BW b)++B [32])++BW c):=Fw (by rw[e,aEr]);rw[← this];simp
 .unfold mk3;rw[w0,w1,w2,d0,d1,d2]
def OC{m:Mark}(h:Ew m=Y):0<=m.mf/\m.mf<=3/\1<=m.mn/\m.mn<=99/\1<=m.mu/\m.mu<=999:=by
 unfold Ew at h;simp only[AD,Aa]at h;omega
def kR{k:AJ}(hf:Ek k)(w r:A1):flt (if L0 r then G else En k w (mk3 r))=flt (match Gv r with|some m=>En k w m|none=>G):=by
 obtain hm|hm:=tf (Ew<|mk3 r)
 .obtain⟨a0,a1,b0,b1,c0,c1⟩:=OC hm;obtain hc|hc:=tf (L0 r)
  .rw[hc];simp only[A2];cases h:Gv r with
   | none=>rfl
   | some m=>
    simp only;obtain h2|h2:=tf (Ew m)
    .obtain⟨p0,p1,q0,q1,s0,s1⟩:=OC h2;obtain⟨_,_,_,e⟩:=aEh h;rw[(aC0 J J J J J J e).1]at hc;cases hc
    .exact(Sm<|jG hf h2).symm
  .have hc2:=hc;unfold L0 at hc;simp only[Mx,Bool.not_eq_false',decide_eq_true_eq]at hc;have e:L r=_:=(congrArg L hc.2).trans<|aEr _ _ _;have:=YO (a:=(mk3 r).mf) (b:=(mk3 r).mn) (c:=(mk3 r).mu) J J J J J J e;rw[hc2,this];rfl
 .have hL:flt (if L0 r then G else En k w (mk3 r))=G:=by
   cases L0 r
   .exact Sm (jG hf hm)
   .rfl
  rw[hL];cases h:Gv r with
  | none=>rfl
  | some m=>
   simp only;obtain h2|h2:=tf (Ew m)
   .obtain⟨p0,p1,q0,q1,s0,s1⟩:=OC h2;obtain⟨_,_,_,e⟩:=aEh h;have:=(aC0 J J J J J J e).2;rw[this]at hm;have hm:Ew m=A0:=hm;rw[h2]at hm;cases hm
   .exact(Sm<|jG hf h2).symm
def ax7{k:AJ}{n nx:Int}{a b:List A3}{m:List Mark}(hn:999<n):At ⟨k.id,n,nx,a,m,b⟩=A0:=by
 obtain h|h:=tf (At ⟨k.id,n,nx,a,m,b⟩)
 .have:=(C3 h).t1;simp only at this;omega
 .exact h
def awo{k:AJ}{n ti:Int}{a b:List A3}{m:List Mark}(hn:100<n):At ⟨k.id,ti,n,a,m,b⟩=A0:=by
 obtain h|h:=tf (At ⟨k.id,ti,n,a,m,b⟩)
 .have:=(C3 h).n1;simp only at this;omega
 .exact h
def arw{k:AJ}(hf:Ek k)(r:A1):flt (Dl k E0 r)=flt (BX k E0 r):=by
 have h0:=hf.t0;unfold Dl BX Hb;simp only[alh,an7,alg,alj,akQ,an8,an9,ali,AT,BZ,EV,DL,Bk,Bt,AM,AP,A2,A4];obtain⟨h1,h2⟩|⟨n,h1,h2|⟨h2,h3⟩⟩:=aBt r
 .rw[h1,h2,A5 y7];rfl
 .rw[h1,h2];obtain h4|h4:=EP (n:Int) k.ti<;>simp only[h4,AT,Af,A2,A4]
 .rw[h1,h2,A5 y7];obtain h4|h4:=EP (n:Int) k.ti<;>simp only[h4,AT,Af,A2,A4];exact(Sm<|.inr ⟨_,rfl,ax7 J⟩).symm
def arx{k:AJ}(hf:Ek k)(r:A1):flt (Dl k Ep r)=flt (BX k Ep r):=by
 have h0:=hf.n0;unfold Dl BX Hb;simp only[xZ,aoM,alm,alc,akR,aoN,aoO,aln,AT,BZ,EV,DL,Bk,Bt,AM,AP,A2,A4];obtain⟨h1,h2⟩|⟨n,h1,h2|⟨h2,h3⟩⟩:=aBt r
 .rw[h1,h2,A5 y7];rfl
 .rw[h1,h2];obtain h4|h4:=EP (n:Int) k.nx<;>simp only[h4,AT,Af,A2,A4]
 .rw[h1,h2,A5 y7];obtain h4|h4:=EP (n:Int) k.nx<;>simp only[h4,AT,Af,A2,A4];exact(Sm<|.inr ⟨_,rfl,awo J⟩).symm
def art{k:AJ}(r:A1):Dl k Dd r=BX k Dd r:=by
 unfold Dl BX G9;simp only[aoJ,aoK,zc,zd,xo,apS,apT,aoL,AT,BZ,EV,DL,Bk,Bt,AM,AP,A2,A4];cases DC r with
 | none=>rfl
 | some n=>
  simp only;obtain h1|h1:=tf (U<|n.fr=k.id)<;>obtain h2|h2:=tf (U<|n.nu=k.nx)<;>simp only[h1,h2,AB,AG,ite_self,AT,BZ,EV,DL,Bk,Bt,AM,AP,A2,A4]
def aq0{k:AJ}(r:A1):Dl k EM r=BX k EM r:=by
 unfold Dl BX G9;simp only[gD,gE,gi,gF,sC,anA,aoI,alk,AT,BZ,EV,DL,Bk,Bt,AM,AP,A2,A4];cases DC r with
 | none=>rfl
 | some n=>
  simp only;obtain h1|h1:=tf (U<|n.fr=k.id)<;>simp only[h1,AB,AG,ite_self,AT,BZ,EV,DL,Bk,Bt,AM,AP,A2,A4]
def aq2{k:AJ}(r:A1):Dl k EN r=BX k EN r:=by
 unfold Dl BX G9;simp only[xb,xd,ze,xc,akT,aoP,aoQ,alf,AT,BZ,EV,DL,Bk,Bt,AM,AP,A2,A4];cases DC r with
 | none=>rfl
 | some n=>
  simp only;obtain h1|h1:=tf (U<|0<=AX k.held n.fr n.nu)<;>obtain h2|h2:=tf (U<|0<=AX k.inbox n.fr n.nu)<;>simp only[h1,h2,AB,AG,ite_self,AT,BZ,EV,DL,Bk,Bt,AM,AP,A2,A4]
def apY{k:AJ}(r:A1):Dl k EY r=BX k EY r:=by
 unfold Dl BX G9;simp only[xO,xQ,xa,xP,xR,ald,ale,akS,AT,BZ,EV,DL,Bk,Bt,AM,AP,A2,A4];cases DC r with
 | none=>rfl
 | some n=>
  simp only;obtain h1|h1:=tf (U<|0<=AX k.held n.fr n.nu)<;>obtain h2|h2:=tf (U<|0<=AX k.inbox n.fr n.nu)<;>simp only[h1,h2,AB,AG,ite_self,AT,BZ,EV,DL,Bk,Bt,AM,AP,A2,A4]
def aru{k:AJ}(hf:Ek k)(r:A1):flt (Dl k Bw r)=flt (BX k Bw r):=by
 have h:=kR hf Bw r;unfold Dl BX;simp only[gq,gu,ig,gr,gw,gK,ij,gv,AT,BZ,EV,DL,Bk,Bt,AM,AP,A2,A4];refine Kw ?_ h;unfold En;simp only[gq,gu,ig,gr,gw,gK,ij,gv,AT,BZ,EV,DL,Bk,Bt,AM,AP,A2,A4];congr 1;refine ite_congr rfl (λ_=>rfl) λ_=> ?_;cases EE k.held (mk3 r)<;>rfl
def arv{k:AJ}(hf:Ek k)(r:A1):flt (Dl k CH r)=flt (BX k CH r):=by
 have h:=kR hf CH r;unfold Dl BX;simp only[gx,gz,ik,gy,iA,gL,im,hY,AT,BZ,EV,DL,Bk,Bt,AM,AP,A2,A4];refine Kw ?_ h;unfold En;simp only[gx,gz,ik,gy,iA,gL,im,hY,AT,BZ,EV,DL,Bk,Bt,AM,AP,A2,A4];congr 1;refine ite_congr rfl (λ_=>rfl) λ_=> ?_;cases EE k.inbox (mk3 r)<;>rfl
def aq1{k:AJ}(hf:Ek k)(r:A1):flt (Dl k D3 r)=flt (BX k D3 r):=by
 have h:=kR hf D3 r;unfold Dl BX;simp only[gG,gI,gj,gH,gJ,sE,gk,gn,AT,BZ,EV,DL,Bk,Bt,AM,AP,A2,A4];refine Kw ?_ h;unfold En;simp only[gG,gI,gj,gH,gJ,sE,gk,gn,AT,BZ,EV,DL,Bk,Bt,AM,AP,A2,A4];congr 1;refine ite_congr rfl (λ_=>rfl) λ_=> ?_;cases U (0<=Bo k.marks (mk3 r).mf (mk3 r).mn)<;>rfl
def avn{k:AJ}(hf:Ek k)(w r:A1):flt (Dl k w r)=flt (BX k w r):=by
 by_cases ni:w=E0
 .subst ni;exact arw hf r
 by_cases nk:w=Ep
 .subst nk;exact arx hf r
 by_cases ny:w=Dd
 .subst ny;exact congrArg flt<|art r
 by_cases nj:w=EM
 .subst nj;exact congrArg flt<|aq0 r
 by_cases nq:w=EN
 .subst nq;exact congrArg flt<|aq2 r
 by_cases ns:w=EY
 .subst ns;exact congrArg flt<|apY r
 by_cases o4:w=Bw
 .subst o4;exact aru hf r
 by_cases o5:w=CH
 .subst o5;exact arv hf r
 by_cases np:w=D3
 .subst np;exact aq1 hf r
 have e1:Dl k w r=G:=by
  unfold Dl;simp only[ni,nk,ny,nj,nq,ns,o4,o5,np,Af,AT,BZ,EV,DL,Bk,Bt,AM,AP,A2,A4,ite_self]
 have e2:BX k w r=G:=by
  unfold BX;simp only[ni,nk,ny,nj,nq,ns,o4,o5,np,Af,AT,BZ,EV,DL,Bk,Bt,AM,AP,A2,A4]
 rw[e1,e2]
def arH{k:AJ}(hf:Ek k)(w:A1):Dl k w noB=G:=by
 have h0:=hf.t0;have h1:=hf.n0;have hc:L0 noB=Y:=by
  unfold L0;have:¬noB=((((BW (Ad<|Am noB 0)++B [32])++BW (Ad<|Am noB 1))++B [32])++BW (Ad<|Am noB 2)):=λh=>by
   have:=congrArg ByteArray.size h;rw[By,By,By,By]at this;have e:noB.size=0:=rfl;have e2:(B [32]).size=1:=rfl;omega
  simp[this]
 unfold Dl;rw[auh,apw,hc];have a1:U (-1<=k.ti)=Y:=by simp;omega
 have a2:U (-1<=k.nx)=Y:=by simp;omega
 simp only[a1,a2,A2,ite_self]
def awf{k:AJ}(hf:Ek k)(rec:A1):flt (Dl k (wd rec).1 (wd rec).2)=flt (GC k rec):=by
 unfold GC;obtain h|⟨w,r,h,e⟩:=LZ (L rec)
 .rw[Tb h,Su h,arH hf];rfl
 .rw[e,Sv h];exact avn hf _ _
def avq{k:AJ}{w r:A1}(hf:Ek k){o:AJ}(h:Dl k w r=I o):SmK o:=by
 have sm:=hf.sm;unfold Dl at h;split at h
 .split at h<;>cases h;have a:=Io (λx:A3=>U<|Ad r<x.un) k.held;have b:=Io (λx:Mark=>U<|Ad r<x.mu) k.marks;have l1:=hf.hl;have l2:=hf.ml;exact⟨by unfold Gy;simp only;omega,λx hx=>sm.h x (FP.1 hx).1,by unfold Jn;simp only;omega,sm.il,sm.i⟩
 split at h
 .cases hn:DC r with
  | none=>rw[hn]at h;cases h
  | some n=>
   rw[hn]at h;simp only at h;split at h
   .cases h
   split at h
   .cases h
   exact YH (k':=⟨k.id,k.ti,k.nx+1,k.held,k.marks,k.inbox⟩) hf ⟨rfl,rfl,rfl⟩ h
 split at h
 .cases hn:DC r with
  | none=>rw[hn]at h;cases h
  | some n=>
   rw[hn]at h;simp only at h;split at h
   .cases h
   exact YH (k':=k) hf ⟨rfl,rfl,rfl⟩ h
 split at h
 .split at h<;>cases h;exact sm
 split at h
 .cases hn:DC r with
  | none=>rw[hn]at h;cases h
  | some n=>
   have hok:=KU (Jf hn).1;rw[hn]at h;simp only at h;split at h
   .cases h
   split at h
   .cases h
   split at h<;>cases h
   .have a:=Py hf.hl sm.h hok;exact⟨a.1,a.2,sm.ml,sm.il,sm.i⟩
   .have a:=Py hf.il sm.i hok;exact⟨sm.hl,sm.h,sm.ml,a.1,a.2⟩
 split at h
 .cases h
 split at h
 .split at h<;>cases h;have a:=Xr (i:=(AX k.held (mk3 r).mf (mk3 r).mn).toNat) hf.hl sm.h;exact⟨a.1,a.2,Sq hf.ml,sm.il,sm.i⟩
 split at h
 .split at h<;>cases h;have a:=Xr (i:=(AX k.inbox (mk3 r).mf (mk3 r).mn).toNat) hf.il sm.i;exact⟨sm.hl,sm.h,sm.ml,a.1,a.2⟩
 split at h
 .split at h<;>cases h;exact⟨sm.hl,sm.h,Sq hf.ml,sm.il,sm.i⟩
 .cases h
def zY{id ti nx:Int}{rec:A1}{held:List A3}{marks:List Mark}{inbox:List A3}(sm:DP held marks inbox)(hr:rec.size<=1048576):
  Rp ((id,ti,nx,held,marks,inbox,()),rec,())=I ((tK (FL ⟨id,ti,nx,held,marks,inbox⟩ rec).1,(FL ⟨id,ti,nx,held,marks,inbox⟩ rec).2,()),()):=by
 unfold Rp FL;simp only[iM sm,xg sm,A6];obtain h|h:=tf (At ⟨id,ti,nx,held,marks,inbox⟩)
 .have hf:=C3 h;have ha:=aqD hf hr;have hko:=awf hf rec;unfold flt at hko;simp only[h,AB,A4,A2];rw[← hko];cases hst:Dl ⟨id,ti,nx,held,marks,inbox⟩ (wd rec).1 (wd rec).2 with
  | none=>
   rw[hst]at ha;obtain⟨t,ht⟩:=ha;simp only[ht,A6,AG,AB,HJ,A2,Bt];rfl
  | some o=>
   rw[hst]at ha;have sm':=avq hf hst;rw[show Vg ((id,ti,nx,held,marks,inbox,()),rec,())=I ((tK o,Y,()),()) from ha];simp only[A6,AB,AG,IT,iM sm',xg sm',Dg,DX,A2,Bk,Option.filter_some];obtain h2|h2:=tf (At o)
   .simp only[h2,AB,A4,A2]
   .simp only[h2,AG,A4,A2]
 .simp only[h,AG,A4,A2]
def ZK{s:A1}{a i:Nat}(h:a+i<s.size):bt (s.extract a s.size) i=bt s ((a+i:Nat):Int):=by
 rw[Jm,Jm,EA];congr 2;rw[B9,B9,List.getElem?_take_of_lt J,Hd]
def aa1{s:A1}{a i j:Nat}(h:a+j<=s.size):(s.extract a s.size).extract i j=s.extract (a+i) (a+j):=by
 apply Fw;rw[EA,EA,EA];rw[List.drop_take,Iq,Ys];congr 1;omega
def G7{s:A1}{a b:Nat}(hb:b<=s.size):(s.extract a b).size=b - a:=by
 rw[← Aw,EA,Dh,EF,Aw];omega
def Ti(s:A1):Int:=Fv (min s.size 3) λi=>U<|bt s i=58
def De(s:A1):Option (A1×Nat):=
 if Ti s<0 then G else
 let c:=(Ti s).toNat
 let n:=Ad (s.extract 0 c)
 if n<1 then G else if 60<n then G else
 if(s.size:Int)<c+2+n then G else
 if !decide (bt s ((c+1+n.toNat:Nat):Int)=59) then G else I (s.extract (c+1)<|c+1+n.toNat,c+2+n.toNat)
def WW(s:A1):(Ti s= -1/\ ∀i,i<min s.size 3->bt s (i:Int)≠58)\/ ∃c:Nat,Ti s=c/\c<s.size/\c<3/\bt s (c:Int)=58/\ ∀i,i<c->bt s (i:Int)≠58:=by
 obtain⟨h1,h2⟩|⟨c,h1,h2,h3,h4⟩:=G6 (min s.size 3) (λi=>U<|bt s i=58)
 .exact .inl ⟨h1,λi hi=>by simpa using h2 i hi⟩
 .exact .inr ⟨c,h1,J,J,by simpa using h3,λi hi=>by simpa using h4 i hi⟩
def aqE{s:A1}(hs:s.size<=1048576):fK (s,())=I ((match De s with|some p=>(p.1,(p.2:Int),())|none=>(noB,0,())),()):=by
 have hb:∀i,i<min s.size 3->NZ (s,(i:Int),())=if U (bt s (i:Int)=58) then NZ (s,(i:Int),()) else I (.inl (s,((i+1:Nat):Int),())):=λi hi=>by
  have hi2:i<s.size:=J
  obtain h|h:=tf (U<|bt s (i:Int)=58)
  .rw[h];rfl
  .rw[h];have e1:U ((i:Int)<3)=Y:=by simp;omega
   unfold NZ;simp only[AU hi2,BL hi2,h,BC hi2 (by omega:s.size<=9223372036854775807),e1];rfl
 have Gm:∃y,qf (s,0,())=I y/\((De s=G/\(y= .inl (noB,0,())\/y= .inr ()))\/ ∃p,De s=I p/\y= .inl (p.1,(p.2:Int),())):=by
  obtain⟨h1,h2⟩|⟨c,h1,h2,h3,h4,h5⟩:=WW s
  .refine⟨.inr (), ?_,.inl ⟨by unfold De;rw[h1,A5 J],.inr rfl⟩⟩;refine CS (λi=>(s,(i:Int),())) (min s.size 3) (λi hi=> ?_) ?_
   .rw[hb i hi,show U (bt s (i:Int)=58)=A0 by simpa using h2 i hi];rfl
   .unfold NZ;have e:(U (((min s.size 3:Nat):Int)<(s.size:Int))&&U (((min s.size 3:Nat):Int)<3))=A0:=by
     rw[Bool.eq_false_iff];simp only[ne_eq,AD,decide_eq_true_eq];omega
    simp only[e];rfl
  .have DA:De s=(let n:=Ad<|s.extract 0 c;if n<1 then G else if 60<n then G else if(s.size:Int)<c+2+n then G else
     if !decide (bt s ((c+1+n.toNat:Nat):Int)=59) then G else I (s.extract (c+1)<|c+1+n.toNat,c+2+n.toNat)):=by
    unfold De;rw[h1,A8 J];rfl
   have ay8:∃y,NZ (s,(c:Int),())=I (.inr y)/\((De s=G/\(y= .inl (noB,0,())\/y= .inr ()))\/ ∃p,De s=I p/\y= .inl (p.1,(p.2:Int),())):=by
    rw[DA];unfold NZ;have e1:U ((c:Int)<3)=Y:=by simp;omega
    have e2:(U (0<=(c:Int))&&U ((c:Int)<=(s.size:Int)))=Y:=by simp;omega
    have e3:(!decide (bt s (c:Int)=58))=A0:=by simp[h4]
    have hse:(s.extract 0 c).size=c:=G7 J;simp only[AU h2,BL h2,e1,e2,e3,Bc,A4,EW,A2,iQ<|show(s.extract 0 c).size<=9223372036854775807 by omega,A6];have hrg:=Wn<|s.extract 0 c;generalize Ad (s.extract 0 c)=n at *;by_cases k1:n<1
    .exact⟨.inl (noB,0,()),by simp[k1],.inl ⟨by simp[k1],.inl rfl⟩⟩
    by_cases k2:60<n
    .exact⟨.inl (noB,0,()),by simp[k1,k2],.inl ⟨by simp[k1,k2],.inl rfl⟩⟩
    obtain⟨m,hm⟩:=HB (J:0<=n);subst hm;have w1:w64 ((c:Int)+2)=(c:Int)+2:=AZ J J;have w2:w64 ((c:Int)+1)=((c+1:Nat):Int):=by rw[AZ J J];omega
    have w3:w64 ((c:Int)+2+(m:Int))=((c+2+m:Nat):Int):=by rw[AZ J J];omega
    have w4:w64 (((c+1:Nat):Int)+(m:Int))=((c+1+m:Nat):Int):=by rw[AZ J J];omega
    simp only[w1,w2,w3,w4,Bc];by_cases k3:(s.size:Int)<(c:Int)+2+m
    .have k3':(s.size:Int)<((c+2+m:Nat):Int):=J
     exact⟨.inl (noB,0,()),by simp only[k1,k2,k3',AT,Af,A2,A4],.inl ⟨by simp[k1,k2,k3],.inl rfl⟩⟩
    have k3':¬(s.size:Int)<((c+2+m:Nat):Int):=J
    have k4:c+1+m<s.size:=J
    have e5:((U (0<=((c+1+m:Nat):Int))&&U (((c+1+m:Nat):Int)<=(s.size:Int)))&&(U (0<=((c+1:Nat):Int))&&U (((c+1:Nat):Int)<=((c+1+m:Nat):Int))))=Y:=by
     simp only[AD,decide_eq_true_eq];omega
    simp only[k1,k2,k3,k3',Af,A4,if_false,AU k4,A2,e5];obtain k5|k5:=tf (!decide (bt s ((c+1+m:Nat):Int)=59))
    .exact⟨.inl (noB,0,()),by simp only[k5,A2],.inl ⟨by simp only[k5,A2],.inl rfl⟩⟩
    .exact⟨.inl (s.extract (c+1)<|c+1+m,((c+2+m:Nat):Int),()),by simp only[k5,A4],.inr ⟨(s.extract (c+1)<|c+1+m,c+2+m),by simp only[k5,A4],rfl⟩⟩
   obtain⟨y,hy,hy2⟩:=ay8;refine⟨y, ?_,hy2⟩;refine CS (λi=>(s,(i:Int),())) c (λi hi=> ?_) hy;rw[hb i J,show U (bt s (i:Int)=58)=A0 by simpa using h5 i hi];rfl
 obtain⟨y,hy,hy2⟩:=Gm;unfold fK;simp only[hy];obtain⟨h1,rfl|rfl⟩|⟨p,h1,rfl⟩:=hy2<;>rw[h1]<;>rfl
def SK{s:A1}{p:A1×Nat}(h:De s=I p):3<=p.2/\p.2<=s.size/\p.1.size<=60/\1<=p.1.size:=by
 unfold De at h;split at h
 .cases h
 rename_i hc;obtain⟨h1,_⟩|⟨c,h1,h2,h3,h4,h5⟩:=WW s
 .omega
 rw[h1]at h;simp only[Bc]at h;split at h
 .cases h
 split at h
 .cases h
 split at h
 .cases h
 split at h
 .cases h
 cases h;simp only;rw[G7 J];omega
def Er(log:A1):Nat->List A1->Nat->List A1×Nat
 | 0,out,at_=>(out,at_)
 | f+1,out,at_=>if at_<log.size then(match De (log.extract at_ log.size) with
  | none=>(out,at_)
  | some p=>Er log f (out++[p.1]) (at_+p.2)) else(out,at_)
def aB3{log:A1}:∀(f:Nat) (out:List A1) (at_:Nat),at_<=log.size->out.length<=at_->(∀r∈out,r.size<=60/\1<=r.size)->
  (Er log f out at_).2<=log.size/\(Er log f out at_).1.length<=(Er log f out at_).2/\ ∀r∈(Er log f out at_).1,r.size<=60/\1<=r.size
 | 0,out,at_,h1,h2,h3=>⟨h1,h2,h3⟩
 | f+1,out,at_,h1,h2,h3=>by
  unfold Er;split
  .rename_i hlt;cases h:De (log.extract at_ log.size) with
   | none=>exact⟨h1,h2,h3⟩
   | some p=>
    obtain⟨a,b,c,d⟩:=SK h;rw[G7<|Ar _]at b;exact aB3 f _ _ J y7 (λr hr=>by
     obtain hr|hr:=BM.1 hr
     .exact h3 r hr
     .obtain rfl:=CL.1 hr;exact⟨c,d⟩)
  .exact⟨h1,h2,h3⟩
def D4(log:A1):List A1×Nat:=Er log (log.size+1) [] 0
def Pe(log:A1):(D4 log).2<=log.size/\(D4 log).1.length<=log.size/\ ∀r∈(D4 log).1,r.size<=60/\1<=r.size:=by
 have:=aB3 (log:=log) (log.size+1) [] 0 (D1 _) (D1 _) (λr hr=>by cases hr);exact⟨this.1,CV this.2.1 this.1,this.2.2⟩
def ju{ρ:Type}{log:A1}{b:(A1×List A1×Int×D)->Option ((A1×List A1×Int×D) ⊕ ρ)}(ok:List A1->Nat->ρ->Prop)
  (h:∀(out:List A1) (at_:Nat),at_<log.size->out.length<=at_->match De (log.extract at_ log.size) with
   | some p=>b (log,out,(at_:Int),())=I (.inl (log,out++[p.1],((at_+p.2:Nat):Int),()))
   | none=>∃y,b (log,out,(at_:Int),())=I (.inr y)/\ok out at_ y)
  (hn:∀(out:List A1) (at_:Nat),log.size<=at_->∃y,b (log,out,(at_:Int),())=I (.inr y)/\ok out at_ y):
  ∀(f:Nat) (out:List A1) (at_:Nat),log.size<at_+f->at_<=log.size->out.length<=at_->∃y,AW b (log,out,(at_:Int),())=I y/\ok (Er log f out at_).1 (Er log f out at_).2 y
 | 0,out,at_,h1,h2,h3=>J
 | f+1,out,at_,h1,h2,h3=>by
  unfold Er;by_cases hlt:at_<log.size
  .rw[A5 hlt];have hb:=h out at_ hlt h3;cases DA:De (log.extract at_ log.size) with
   | none=>
    rw[DA]at hb;obtain⟨y,h4,h5⟩:=hb;exact⟨y,BF h4,h5⟩
   | some p=>
    rw[DA]at hb;obtain⟨a,c,_,_⟩:=SK DA;rw[G7<|Ar _]at c;obtain⟨y,h4,h5⟩:=ju ok h hn f (out++[p.1]) (at_+p.2) J J y7;exact⟨y,As hb h4,h5⟩
  .rw[A8 hlt];obtain⟨y,h4,h5⟩:=hn out at_ J;exact⟨y,BF h4,h5⟩
def Ud{log:A1}(hs:log.size<=1048576):LJ (log,())=I (((D4 log).1,((D4 log).2:Int),()),()):=by
 obtain⟨y,h1,h2⟩:=ju (log:=log) (b:=RI) (λout at_ y=>y= .inl (out,(at_:Int),())\/y= .inr (out,(at_:Int),())) (λout at_ hlt hl=>by
  have hse:(log.extract at_ log.size).size=log.size - at_:=G7<|Ar _;have e1:(U (0<=(at_:Int))&&U ((at_:Int)<=(log.size:Int)))=Y:=by simp;omega
  have hb:RI (log,out,(at_:Int),())=(match De (log.extract at_ log.size) with|some p=>I (.inl (log,out++[p.1],((at_+p.2:Nat):Int),()))|none=>I<|.inr<|.inl (out,(at_:Int),())):=by
   unfold RI;simp only[BL hlt,e1,A2,Bc,aqE<|show(log.extract at_ log.size).size<=1048576 by omega,A6];cases DA:De (log.extract at_ log.size) with
   | none=>rfl
   | some p=>
    obtain⟨a,c,_,_⟩:=SK DA;have e2:U (((p.2:Nat):Int)=0)=A0:=by simp;omega
    have e3:w64 ((at_:Int)+(p.2:Int))=((at_+p.2:Nat):Int):=by rw[AZ J J];omega
    simp only[e2,e3,A4,Bj,CO,DY,BG (J:out.length+1<=4294967296),A2]
  rw[hb];cases De (log.extract at_ log.size) with
  | none=>exact⟨_,rfl,.inl rfl⟩
  | some p=>rfl) (λout at_ hge=>by
  refine⟨.inr (out,(at_:Int),()), ?_,.inr rfl⟩;unfold RI;have e:U ((at_:Int)<(log.size:Int))=A0:=by simp;omega
  simp only[e];rfl) (log.size+1) [] 0 J (D1 _) (D1 _)
 unfold LJ;rw[show pQ (log,[],0,())=I y from h1];obtain rfl|rfl:=h2<;>rfl
def aBj{log:A1}{out:List A1}{at_ n:Nat}(hs:log.size<=1048576)(h:∀i,i<n->at_+i<log.size/\bt log ((at_+i:Nat):Int)≠58)(hn:n<=3)(hle:at_+n<=log.size)
  (oR:log.size<=at_+n\/n=3\/bt log ((at_+n:Nat):Int)=58):pV (log,out,(at_:Int),(at_:Int),())=I (.inr (log,out,(at_:Int),((at_+n:Nat):Int),())):=by
 have e3:w64 ((at_:Int)+3)=((at_+3:Nat):Int):=by rw[AZ J J];omega
 refine CS (λi=>(log,out,(at_:Int),((at_+i:Nat):Int),())) n (λi hi=> ?_) ?_
 .obtain⟨h1,h2⟩:=h i hi;unfold bu;have e2:U (bt log ((at_+i:Nat):Int)=58)=A0:=by simpa using h2
  simp only[BL h1,AU h1,e3,BL (J:at_+i<at_+3),e2,BC h1 (by omega:log.size<=9223372036854775807)];rfl
 .unfold bu;by_cases h1:at_+n<log.size
  .simp only[BL h1,AU h1,e3];obtain h2|h2|h2:=oR
   .omega
   .have:U (((at_+n:Nat):Int)<((at_+3:Nat):Int))=A0:=by simp;omega
    rw[this];rfl
   .rw[show U (bt log ((at_+n:Nat):Int)=58)=Y by simpa using h2];cases U (((at_+n:Nat):Int)<((at_+3:Nat):Int))<;>rfl
  .have e1:U (((at_+n:Nat):Int)<(log.size:Int))=A0:=by simp;omega
   simp only[e1,A4,HJ,A2]
def ajt{log:A1}{out:List A1}{at_:Nat}(hs:log.size<=1048576)(hlt:at_<log.size)(hl:out.length<=at_):
  RD (log,out,(at_:Int),())=I (match De (log.extract at_ log.size) with|some p=> .inl (log,out++[p.1],((at_+p.2:Nat):Int),())|none=> .inr<|.inr (out,(at_:Int),())):=by
 have hse:(log.extract at_ log.size).size=log.size - at_:=G7<|Ar _;unfold RD;simp only[BL hlt,A2];obtain⟨h1,h2⟩|⟨c,h1,h2,h3,h4,h5⟩:=WW (log.extract at_ log.size)
 .have DA:De (log.extract at_ log.size)=G:=by unfold De;rw[h1,A5 J]
  have hb:∀i,i<min (log.size - at_) 3->at_+i<log.size/\bt log ((at_+i:Nat):Int)≠58:=λi hi=>by
   refine⟨J, ?_⟩;rw[← ZK J];exact h2 i (by rw[hse];exact hi)
  rw[DA,aBj (n:=min (log.size - at_) 3) hs hb J J J];simp only[Co];by_cases h6:log.size<=at_+min (log.size - at_) 3
  .have e:U ((log.size:Int)<=((at_+min (log.size - at_) 3:Nat):Int))=Y:=by simp;omega
   simp only[e,AB,HJ,A2,Bt]
  .have e:U ((log.size:Int)<=((at_+min (log.size - at_) 3:Nat):Int))=A0:=by simp;omega
   have hm:min (log.size - at_) 3=3:=J
   rw[hm]at e h6 ⊢;simp only[e,AU (J:at_+3<log.size),AG,IT,A2,Bk];obtain h7|h7:=tf (U<|bt log ((at_+3:Nat):Int)=58)
   .simp only[h7,AB,A4];have e4:((U (0<=((at_+3:Nat):Int))&&U (((at_+3:Nat):Int)<=(log.size:Int)))&&(U (0<=(at_:Int))&&U ((at_:Int)<=((at_+3:Nat):Int))))=Y:=by simp;omega
    simp only[e4,A2,Bc];have hz:(log.extract at_<|at_+3).size=3:=by rw[G7 J];omega
    rw[ee J];simp only[A6];obtain h8|⟨n,h8,h9,h10⟩:=S5 (log.extract at_<|at_+3)
    .simp only[h8];rfl
    .have h11:100<=n:=by
      obtain h12|h12:=HA n 100
      .have:=Lf 2 n J J;rw[← h10,Aw]at this;omega
      .exact h12
     have e5:inB (n:Int) 1 60=A0:=by simp[inB];omega
     simp only[h8,EJ,A6,e5];rfl
   .simp only[h7];rfl
 .have hb:∀i,i<c->at_+i<log.size/\bt log ((at_+i:Nat):Int)≠58:=λi hi=>by
   refine⟨J, ?_⟩;rw[← ZK J];exact h5 i hi
  have h4':bt log ((at_+c:Nat):Int)=58:=by rw[← ZK J];exact h4
  have hc:at_+c<log.size:=J
  rw[aBj (n:=c) hs hb J J<|.inr<|.inr h4'];simp only[Co];have e:U ((log.size:Int)<=((at_+c:Nat):Int))=A0:=by simp;omega
  have e4:((U (0<=((at_+c:Nat):Int))&&U (((at_+c:Nat):Int)<=(log.size:Int)))&&(U (0<=(at_:Int))&&U ((at_:Int)<=((at_+c:Nat):Int))))=Y:=by simp;omega
  simp only[e,AU hc,AG,IT,A2,Bk,show U (bt log ((at_+c:Nat):Int)=58)=Y by simpa using h4',AB,A4,e4,Bc];have hz:(log.extract at_<|at_+c).size=c:=by rw[G7 J];omega
  have hz2:(log.extract at_ log.size).extract 0 c=log.extract at_ (at_+c):=by rw[aa1 J];simp
  rw[ee J];have DA:De (log.extract at_ log.size)=(let n:=Ad<|log.extract at_<|at_+c;if n<1 then G else if 60<n then G else if((log.extract at_ log.size).size:Int)<c+2+n then G else
    if !decide (bt (log.extract at_ log.size) ((c+1+n.toNat:Nat):Int)=59) then G else I ((log.extract at_ log.size).extract (c+1)<|c+1+n.toNat,c+2+n.toNat)):=by
   unfold De;rw[h1,A8 J,Bc];simp only[hz2]
  rw[DA];simp only[A6];obtain h8|⟨n,h8,h9,h10⟩:=S5 (log.extract at_<|at_+c)
  .have hd:Ad (log.extract at_<|at_+c)= -1:=by
    obtain⟨h9,_⟩|⟨n,h9,h10,h11⟩:=S2 (log.extract at_<|at_+c)
    .exact h9
    .rw[jd J h11]at h8;cases h8
   simp only[h8,hd];rfl
  .rw[lG J h10];simp only[h8,EJ,A6,AB,A4,Bc,hse];by_cases h11:(n:Int)<1
   .rw[A5 h11,show inB (n:Int) 1 60=A0 by simp[inB];omega];rfl
   .rw[A8 h11];by_cases h12:60<(n:Int)
    .rw[A5 h12,show inB (n:Int) 1 60=A0 by simp[inB];omega];rfl
    .rw[A8 h12,show inB (n:Int) 1 60=Y by simp[inB];omega];have e5:w64 (((at_+c:Nat):Int)+1)=((at_+c+1:Nat):Int):=by rw[AZ J J];omega
     have e6:w64 (((at_+c+1:Nat):Int)+(n:Int))=((at_+c+1+n:Nat):Int):=by rw[AZ J J];omega
     simp only[e5,e6,AB,A4];by_cases h13:at_+c+1+n<log.size
     .rw[A8<|show ¬(((log.size - at_:Nat):Int)<c+2+n) by omega];have e7:U ((log.size:Int)<=((at_+c+1+n:Nat):Int))=A0:=by simp;omega
      simp only[e7,A4,AU h13,A2];have e10:bt (log.extract at_ log.size) ((c+1+n:Nat):Int)=bt log ((at_+c+1+n:Nat):Int):=by rw[ZK (J:at_+(c+1+n)<log.size),show at_+(c+1+n)=at_+c+1+n by omega]
      simp only[e10];obtain h14|h14:=tf (U<|bt log ((at_+c+1+n:Nat):Int)=59)
      .have e8:((U (0<=((at_+c+1+n:Nat):Int))&&U (((at_+c+1+n:Nat):Int)<=(log.size:Int)))&&(U (0<=((at_+c+1:Nat):Int))&&U (((at_+c+1:Nat):Int)<=((at_+c+1+n:Nat):Int))))=Y:=by simp;omega
       have e9:w64 (((at_+c+1+n:Nat):Int)+1)=((at_+(c+2+n):Nat):Int):=by rw[AZ J J];omega
       simp only[h14,AB,A4,e8,A2,Bj,CO,DY,BG (J:out.length+1<=4294967296),Bc,e9,aa1 (J:at_+(c+1+n)<=log.size)];rw[show at_+(c+1)=at_+c+1 by omega,show at_+(c+1+n)=at_+c+1+n by omega]
      .simp only[h14,AG,A2]
     .rw[A5<|show(((log.size - at_:Nat):Int)<c+2+n) by omega];have e7:U ((log.size:Int)<=((at_+c+1+n:Nat):Int))=Y:=by simp;omega
      simp only[e7,A2]
def cD{log:A1}(hs:log.size<=1048576):PJ (log,())=I (((D4 log).1,((D4 log).2:Int),()),()):=by
 obtain⟨y,h1,h2⟩:=ju (log:=log) (b:=RD) (λout at_ y=>y= .inr (out,(at_:Int),())) (λout at_ hlt hl=>by
  rw[ajt hs hlt hl];cases De (log.extract at_ log.size) with
  | none=>exact⟨_,rfl,rfl⟩
  | some p=>rfl) (λout at_ hge=>by
  refine⟨.inr (out,(at_:Int),()), ?_,rfl⟩;unfold RD;have e:U ((at_:Int)<(log.size:Int))=A0:=by simp;omega
  simp only[e];rfl) (log.size+1) [] 0 J (D1 _) (D1 _)
 unfold PJ;rw[show pW (log,[],0,())=I y from h1];subst h2;have h3:=Pe log;simp only[Co];rw[show(Er log (log.size+1) [] 0)=D4 log from rfl,pT J];rfl
abbrev zK:AJ:=⟨0,0,0,[],[],[]⟩
def BJ(k:AJ)(r:A1):Option AJ:=if(FL k r).2 then I (FL k r).1 else G
def Em(k:AJ)(rs:List A1):Option AJ:=rs.foldlM BJ k
def CZ(id:Int)(rs:List A1):Option AJ:=if isN id then Em ⟨id,0,1,[],[],[]⟩ rs else G
def aCo{σ β γ κ α:Type}{b:σ->Option (σ ⊕ (β ⊕ γ))}(st:Nat->κ->σ)(l:List α)(f:κ->α->Option κ)(bad:β)(fin:κ->γ)(SB:κ->Prop)
  (h:∀i k x,l[i]? =I x->SB k->b (st i k)=I (match f k x with|some k'=> .inl (st (i+1) k')|none=> .inr<|.inl bad))
  (hn:∀k,SB k->b (st l.length k)=I (.inr<|.inr<|fin k))(hI:∀k x k',SB k->f k x=I k'->SB k'):
  ∀k,SB k->AW b (st 0 k)=I (match l.foldlM f k with|some k'=> .inr (fin k')|none=> .inl bad):=by
 have:∀(m i:Nat),i+m=l.length->∀k,SB k->AW b (st i k)=I (match (l.drop i).foldlM f k with|some k'=> .inr (fin k')|none=> .inl bad):=by
  intro m
  induction m with
  | zero=>
   intro i hi k hk;rw[List.drop_of_length_le J,show i=l.length by omega];exact BF<|hn k hk
  | succ m ih=>
   intro i hi k hk;have hlt:i<l.length:=J
   rw[TH hlt,TF];have hb:=h i k l[i] (Av hlt) hk;cases hf:f k l[i]with
   | none=>rw[hf]at hb;exact BF hb
   | some k'=>rw[hf]at hb;exact As hb<|ih (i+1) J k'<|hI k _ k' hk hf
 intro k hk;have:=this l.length 0 J k hk;rwa[Ik]at this
def asq{k:AJ}{r:A1}(h:(FL k r).2=Y):At (FL k r).1=Y:=by
 unfold FL at h ⊢;split at h<;>rename_i hk
 .rw[A5 hk];cases hs:(GC k r).filter At with
  | none=>rw[hs]at h;cases h
  | some o=>exact(JL.1 hs).2
 .cases h
def Sb{k o:AJ}{r:A1}(h:BJ k r=I o):At o=Y:=by
 unfold BJ at h;split at h
 .cases h;exact asq (by assumption)
 .cases h
def aCh{k:AJ}(h:At k=Y):SmK k:=by
 have hf:=C3 h;have hn:∀ {l:List A3},DI l=Y->∀x∈l,GA x:=fun {l} hl x hx=>by
  obtain⟨i,hi,rfl⟩:=D0 hx;have:=Gs hl hi;rw[DT<|Av hi]at this;exact KU this
 exact⟨by have:=hf.hl;omega,hn hf.h,by have:=hf.ml;omega,by have:=hf.il;omega,hn hf.i⟩
def Rx{id:Int}(h:isN id=Y):At ⟨id,0,1,[],[],[]⟩=Y:=by
 unfold At;simp only[h];rfl
def aBC:∀ {rs:List A1} {k o:AJ},At k=Y->Em k rs=I o->At o=Y
 | [],k,o,hk,h=>by cases h;exact hk
 | r::rs,k,o,hk,h=>by
  unfold Em at h;rw[TF]at h;cases hs:BJ k r with
  | none=>rw[hs]at h;cases h
  | some k'=>rw[hs]at h;exact aBC (rs:=rs) (Sb hs) h
def SL{id:Int}{rs:List A1}{o:AJ}(h:CZ id rs=I o):At o=Y:=by
 unfold CZ at h;split at h
 .exact aBC (Rx<|by assumption) h
 .cases h
def ao6{id:Int}{rs:List A1}(hl:rs.length<=1048576)(hr:∀r∈rs,r.size<=1048576):fV (id,rs,())=I ((tK<|(CZ id rs).getD zK,(CZ id rs).isSome,()),()):=by
 unfold fV CZ;simp only[Je,A6,ajH];obtain h|h:=tf (isN id)
 .simp only[h,AB,A4,A2];have:=aCo (b:=VK) (λi (k:AJ)=>(tK zK,tK k,rs,(j8 rs:Int),(i:Int),())) rs BJ (tK zK,A0,()) (λk=>(tK zK,tK k,())) (λk=>At k=Y) (λi k x hx hk=>by
   have hi:=(BO.1 hx).1;have hxs:=hr x<|Ci hx;unfold VK;simp only[BL hi,AU hi,OL,OF hx,A2];rw[zo (aCh hk) hxs];unfold BJ;simp only[A6];obtain h2|h2:=tf (FL k x).2
   .simp only[h2,AB,A4,A2,BC hi (by omega:rs.length<=9223372036854775807)]
   .simp only[h2,AG,A4,A2]) (λk hk=>by simp[VK]) (λk x k' _ hs=>Sb hs) ⟨id,0,1,[],[],[]⟩ (Rx h)
  rw[show rN ((0,0,0,[],[],[],()),(id,0,1,[],[],[],()),rs,(j8 rs:Int),0,())=_ from this];unfold Em;cases rs.foldlM BJ ⟨id,0,1,[],[],[]⟩<;>rfl
 .simp only[h,AG,A4,A2];rfl
def zX{id:Int}{rs:List A1}(hl:rs.length<=1048576)(hr:∀r∈rs,r.size<=1048576):Ro (id,rs,())=I ((tK<|(CZ id rs).getD zK,(CZ id rs).isSome,()),()):=by
 unfold Ro CZ;simp only[Jd,A6,aiZ];obtain h|h:=tf (isN id)
 .simp only[h,AB,A4,A2];have:=aCo (b:=VN) (λi (k:AJ)=>(rs,tK zK,tK k,(i:Int),())) rs BJ (tK zK,A0,()) (λk=>(tK zK,tK k,())) (λk=>At k=Y) (λi k x hx hk=>by
   have hi:=(BO.1 hx).1;have hxs:=hr x<|Ci hx;unfold VN;simp only[BL hi,AU hi,OL,OF hx,A2];rw[zY (aCh hk) hxs];unfold BJ;simp only[A6];obtain h2|h2:=tf (FL k x).2
   .simp only[h2,AB,A4,A2,BC hi (by omega:rs.length<=9223372036854775807)]
   .simp only[h2,AG,A4,A2]) (λk hk=>by simp[VN]) (λk x k' _ hs=>Sb hs) ⟨id,0,1,[],[],[]⟩ (Rx h)
  rw[show qm (rs,(0,0,0,[],[],[],()),(id,0,1,[],[],[],()),0,())=_ from this];unfold Em;cases rs.foldlM BJ ⟨id,0,1,[],[],[]⟩<;>rfl
 .simp only[h,AG,A4,A2];rfl
def DS(id:Int)(log:A1):Option AJ:=CZ id (D4 log).1
def VQ{id:Int}{log:A1}(hs:log.size<=1048576):LV (id,log,())=I ((tK<|(DS id log).getD zK,(DS id log).isSome,()),()):=by
 have h:=Pe log;unfold LV DS;rw[cD hs];simp only[A6];rw[ao6 J (λr hr=>by have:=h.2.2 r hr;omega)];rfl
def jJ{id fo:Int}{up:Bool}{log:A1}{hv:List AE}(hs:log.size<=1048576):G5 ((id,up,log,fo,hv,()),())=I ((tK<|(DS id log).getD zK,(DS id log).isSome,()),()):=by
 have h:=Pe log;unfold G5 DS;rw[Ud hs];simp only[A6];rw[zX J (λr hr=>by have:=h.2.2 r hr;omega)];rfl
def DH(lg:A1)(fo:Int):Bool:=U (lg.size<=2400)&&(inB fo 0 lg.size&&(U (((D4 lg).2:Int)=lg.size)&&U (((D4<|lg.extract 0 fo.toNat).2:Int)=fo)))
def VU{lg:A1}{fo:Int}(hs:lg.size<=1048576):Nf ((lg,fo,()),())=I ((DH lg fo,()),()):=by
 unfold Nf DH;simp only[EJ,cD hs,A6,Dg,DX];by_cases h1:lg.size<=2400
 .have e1:U (2400<(lg.size:Int))=A0:=by simp;omega
  simp only[e1,h1,AG,IT,A2,Bk,AT,AP];obtain h2|h2:=tf (inB fo 0 lg.size)
  .have h3:=Aa.1 h2;have e2:(U (0<=fo)&&U (fo<=(lg.size:Int)))=Y:=by simp;omega
   simp only[h2,AB,A4,e2,A2,AP];rw[cD (by rw[G7 J];omega)];rfl
  .simp only[h2,AG,A2,AM]
 .have e1:U (2400<(lg.size:Int))=Y:=by simp;omega
  simp only[e1,h1,AB,HJ,A2,Bt,Af,AM]
def VM{lg:A1}{fo:Int}(hs:lg.size<=1048576):Na ((lg,fo,()),())=I ((DH lg fo,()),()):=by
 unfold Na DH;simp only[Hr,Ud hs,A6,Dg,DX];by_cases h1:lg.size<=2400
 .have e1:U (2400<(lg.size:Int))=A0:=by simp;omega
  simp only[e1,h1,AG,IT,A2,Bk,AT,AP];obtain h2|h2:=tf (inB fo 0 lg.size)
  .have h3:=Aa.1 h2;have e2:(U (0<=fo)&&U (fo<=(lg.size:Int)))=Y:=by simp;omega
   simp only[h2,AB,A4,e2,A2,AP];rw[Ud (by rw[G7 J];omega)];rfl
  .simp only[h2,AG,A2,AM]
 .have e1:U (2400<(lg.size:Int))=Y:=by simp;omega
  simp only[e1,h1,AB,HJ,A2,Bt,Af,AM]
def Hq(p:Bool):Al p Y=Y:=by cases p<;>rfl
def avV{k o:AJ}{w:A1}{n:Int}(h:Hb k w n=I o):o.id=k.id:=by
 unfold Hb at h
 repeat' split at h
 all_goals first|(cases h;done)|(cases h;rfl)
def aEp{k o:AJ}{n:A3}(h:Ed k n=I o):o.id=k.id:=by
 unfold Ed at h
 repeat' split at h
 all_goals first|(cases h;done)|(cases h;rfl)
def aqa{k o:AJ}{w:A1}{n:A3}(h:G9 k w n=I o):o.id=k.id:=by
 unfold G9 at h;split at h
 .exact(aEp h).trans rfl
 split at h
 .exact aEp h
 split at h
 .cases h
 repeat' split at h
 all_goals first|(cases h;done)|(cases h;rfl)
def aqd{k o:AJ}{w:A1}{m:Mark}(h:En k w m=I o):o.id=k.id:=by
 unfold En at h
 repeat' split at h
 all_goals first|(cases h;done)|(cases h;rfl)
def atE{k o:AJ}{w r:A1}(h:BX k w r=I o):o.id=k.id:=by
 unfold BX at h;split at h
 .split at h
  .exact avV h
  .cases h
 split at h
 .split at h
  .exact aqa h
  .cases h
 split at h
 .split at h
  .exact aqd h
  .cases h
 .cases h
def au8{k o:AJ}{r:A1}(h:BJ k r=I o)(hk:At k=Y):o.id=k.id:=by
 unfold BJ at h;split at h
 case isFalse=>cases h
 rename_i h2;cases h;unfold FL at h2 ⊢;simp only[hk,A2]at h2 ⊢;cases hs:(GC k r).filter At with
 | none=>rfl
 | some o=>
  simp only;have:=(JL.1 hs).1;unfold GC at this;split at this
  .cases this
  .exact atE this
def aBD:∀ {rs:List A1} {k o:AJ},At k=Y->Em k rs=I o->o.id=k.id
 | [],k,o,_,h=>by cases h;rfl
 | r::rs,k,o,hk,h=>by
  unfold Em at h;rw[TF]at h;cases hs:BJ k r with
  | none=>rw[hs]at h;cases h
  | some k'=>rw[hs]at h;exact(aBD (rs:=rs) (Sb hs) h).trans<|au8 hs hk
def jn{id:Int}{rs:List A1}{o:AJ}(h:CZ id rs=I o):o.id=id:=by
 unfold CZ at h;split at h
 .exact aBD (k:=⟨id,0,1,[],[],[]⟩) (Rx<|by assumption) h
 .cases h
def xA(l:List AN)(i:Nat):AN:=l.getD i<|dfl .mixed
def hA(l:List AE)(i:Nat):AE:=l.getD i<|dfl .half
def XZ(l:List AN)(i:Nat): @rd AN aFh l (i:Int)=xA l i:=rfl
def YV(l:List AE)(i:Nat): @rd AE aE6 l (i:Int)=hA l i:=rfl
def ave{l:List AN}{i j:Nat}(h:j<i):xA (l.take i) j=xA l j:=by
 unfold xA;simp[B9,h]
def I6(l:List AN)(i:Nat):Bool:=(inB (xA l i).nu 0 999&&U (((xA l i).da.size:Int)=4))&&B6 i λj=> !decide ((xA l j).nu=(xA l i).nu)
def Fs(h:AE):Bool:=isN h.fr&&(isN h.to&&(inB h.nu 1 99&&(inB h.un 1 999&&(inB h.sz 1 24&&(U ((j8 h.got:Int)<=14)&&B6 h.got.length (I6 h.got))))))
def anx{h:AE}(sm:OK h):fQ ((h.fr,h.nu,h.to,h.un,h.sz,h.got,()),())=I ((Fs h,()),()):=by
 have hl:h.got.length<=9223372036854775807:=by have:=sm.1;omega
 have Gm:qw ((h.fr,h.nu,h.to,h.un,h.sz,h.got,()),h.got,(j8 h.got:Int),0,())=I (if B6 h.got.length (I6 h.got) then .inr () else .inl (A0,())):=
  DR (λi=>((h.fr,h.nu,h.to,h.un,h.sz,h.got,()),h.got,(j8 h.got:Int),(i:Int),())) h.got.length (I6 h.got) (A0,()) () (λi hi=>by
   unfold eQ I6;simp only[BL hi,AU hi,A2,XZ,EJ,A6];obtain e|e:=tf (inB (xA h.got i).nu 0 999)<;>obtain e'|e':=tfp (((xA h.got i).da.size:Int)=4)
   rotate_left
   .simp only[e,e',Af,BZ,AG,DL,AM,A2,A4]
   .simp only[e,AM,AG,Bt,A2,A4]
   .simp only[e,AM,AG,Bt,A2,A4]
   .have e2:(U (0<=(i:Int))&&U ((i:Int)<=(j8 h.got:Int)))=Y:=by simp;omega
    have e3:(BR i h.got).length=i:=by simp;omega
    simp only[e,e',AT,AB,GM,A4,e2,A2,Bc,e3,AP];have hin:qv ((h.fr,h.nu,h.to,h.un,h.sz,h.got,()),((xA h.got i).nu,(xA h.got i).da,()),h.got,(j8 h.got:Int),(i:Int),BR i h.got,(i:Int),0,())=
      I (if B6 i (λj=> !decide ((xA h.got j).nu=(xA h.got i).nu)) then .inr ((h.fr,h.nu,h.to,h.un,h.sz,h.got,()),h.got,(j8 h.got:Int),(i:Int),()) else .inl (A0,())):=
     DR (λj=>((h.fr,h.nu,h.to,h.un,h.sz,h.got,()),((xA h.got i).nu,(xA h.got i).da,()),h.got,(j8 h.got:Int),(i:Int),BR i h.got,(i:Int),(j:Int),())) i (λj=> !decide ((xA h.got j).nu=(xA h.got i).nu)) (A0,()) _ (λj hj=>by
      unfold eP;simp only[BL hj,e3,AU hj,A2,XZ,ave hj,BC hj (by omega:i<=9223372036854775807)];obtain e4|e4:=tfp ((xA h.got j).nu=(xA h.got i).nu)<;>simp only[e4,AT,Af]<;>rfl) (by simp[eP])
    rw[hin];obtain e4|e4:=tf (B6 i λj=> !decide ((xA h.got j).nu=(xA h.got i).nu))
    .simp only[e4,A2,Co,BC hi hl]
    .simp only[e4,A4,Hu]) (by simp[eQ])
 unfold fQ Fs;simp only[Je,EJ,A6,Gm];obtain e|e:=tf (isN h.fr)<;>simp only[e,AB,AG,A2,A4,AP,AM];obtain e|e:=tf (isN h.to)<;>simp only[e,AB,AG,A2,A4,AP,AM];obtain e|e:=tf (inB h.nu 1 99)<;>simp only[e,AB,AG,A2,A4,AP,AM];obtain e|e:=tf (inB h.un 1 999)<;>simp only[e,AB,AG,A2,A4,AP,AM];obtain e|e:=tf (inB h.sz 1 24)<;>simp only[e,AB,AG,A2,A4,AP,AM];obtain⟨e1,e2⟩|⟨e1,e2⟩:=EP (j8 h.got:Int) 14<;>simp only[e1,e2,AT,Af,A2,A4,AP,AM];obtain e|e:=tf (B6 h.got.length<|I6 h.got)<;>simp only[e,A2,A4]<;>rfl
def asD{sz:Int}(h:inB sz 1 24=Y):inB (w64<|B0 (w64<|w64 (sz+4) - 1) 4) 1 6=Y:=by
 have h:=Aa.1 h;rw[AZ (n:=sz+4) J J,AZ (n:=sz+4 - 1) J J];have e:B0 (sz+4 - 1) 4=(sz+4 - 1) / 4:=H9 J;rw[e,AZ J J,Aa];omega
def an2{h:AE}(sm:OK h):cJ ((h.fr,h.nu,h.to,h.un,h.sz,h.got,()),())=I ((Fs h,()),()):=by
 have hl:h.got.length<=9223372036854775807:=by have:=sm.1;omega
 have Gm:inB h.sz 1 24=Y->pP ((h.fr,h.nu,h.to,h.un,h.sz,h.got,()),0,())=I (if B6 h.got.length (I6 h.got) then .inr () else .inl (A0,())):=λhz=>
  DR (λi=>((h.fr,h.nu,h.to,h.un,h.sz,h.got,()),(i:Int),())) h.got.length (I6 h.got) (A0,()) () (λi hi=>by
   unfold bh I6 LS Rg MR;simp only[BL hi,AU hi,A2,XZ,Hr,A6,asD hz,IT,Dg,DX,AP];obtain e|e:=tf (inB (xA h.got i).nu 0 999)<;>obtain e'|e':=tfp (((xA h.got i).da.size:Int)=4)
   rotate_left
   .simp only[e,e',Af,BZ,AG,AM,A2,A4]
   .simp only[e,AM,AG,A2,A4]
   .simp only[e,AM,AG,A2,A4]
   .simp only[e,e',AT,EW,AB,A4,AP];have hin:pO ((h.fr,h.nu,h.to,h.un,h.sz,h.got,()),(i:Int),0,())=
      I (if B6 i (λj=> !decide ((xA h.got j).nu=(xA h.got i).nu)) then .inr ((h.fr,h.nu,h.to,h.un,h.sz,h.got,()),(i:Int),()) else .inl (A0,())):=
     DR (λj=>((h.fr,h.nu,h.to,h.un,h.sz,h.got,()),(i:Int),(j:Int),())) i (λj=> !decide ((xA h.got j).nu=(xA h.got i).nu)) (A0,()) _ (λj hj=>by
      unfold bg;simp only[BL hj,AU hi,AU<|Yo hj hi,A2,XZ,BC hj (by omega:i<=9223372036854775807)];obtain e4|e4:=tfp ((xA h.got j).nu=(xA h.got i).nu)<;>simp only[e4,AT,Af]<;>rfl) (by simp[bg])
    rw[hin];obtain e4|e4:=tf (B6 i λj=> !decide ((xA h.got j).nu=(xA h.got i).nu))
    .simp only[e4,A2,Co,BC hi hl]
    .simp only[e4,A4,Hu]) (by simp[bh])
 unfold cJ Fs;simp only[Jd,Hr,A6];obtain e|e:=tf (isN h.fr)<;>simp only[e,AB,AG,A2,A4,AP,AM];obtain e|e:=tf (isN h.to)<;>simp only[e,AB,AG,A2,A4,AP,AM];obtain e|e:=tf (inB h.nu 1 99)<;>simp only[e,AB,AG,A2,A4,AP,AM];obtain e|e:=tf (inB h.un 1 999)<;>simp only[e,AB,AG,A2,A4,AP,AM];obtain e|e:=tf (inB h.sz 1 24)<;>simp only[e,AB,AG,A2,A4,AP,AM];rw[Gm e];obtain⟨e1,e2⟩|⟨e1,e2⟩:=EP (j8 h.got:Int) 14<;>simp only[e1,e2,AT,Af,A2,A4,AP,AM];obtain e|e:=tf (B6 h.got.length<|I6 h.got)<;>simp only[e,A2,A4]<;>rfl
def EB(l:List AE)(f n:Int):Int:=Fv l.length λi=>U ((hA l i).fr=f)&&U ((hA l i).nu=n)
def zi{l:List AE}{f n:Int}(hl:l.length<=1048576):Rs (l,f,n,())=I ((EB l f n,()),()):=by
 unfold Rs;have:=Pl (b:=VT) (λi=>(f,n,l,(j8 l:Int),(i:Int),())) l.length (λi=>U ((hA l i).fr=f)&&U ((hA l i).nu=n)) (λr=>(r,())) () (λi hi=>by
  unfold VT;simp only[BL hi,AU hi,A2,YV,BC hi (by omega:l.length<=9223372036854775807)];obtain e|e:=tfp ((hA l i).fr=f)<;>obtain e2|e2:=tfp ((hA l i).nu=n)<;>simp only[e,e2,AT,Af]<;>rfl) (by simp[VT])
 rw[show qx (f,n,l,(j8 l:Int),0,())=_ from this];exact SM
def av2{n:Nat}{p:Nat->Bool}{i:Nat}(hi:i<n)(hp:p i=Y):U (Fv n p<(i:Int))= !(B6 i λj=> !p j):=by
 obtain⟨_,h2⟩|⟨c,h1,h2,h3,h4⟩:=G6 n p
 .rw[h2 i hi]at hp;cases hp
 .rw[h1];by_cases hc:c<i
  .have:B6 i (λj=> !p j)=A0:=by
    rw[Bool.eq_false_iff];intro h;have:=Cp.1 h c hc;simp[h3]at this
   rw[this];simpa using hc
  .have:B6 i (λj=> !p j)=Y:=Cp.2 λj hj=>by rw[h4 j J];rfl
   rw[this];simp;omega
def Fg(l:List AE)(i:Nat):Bool:=Fs (hA l i)&&B6 i λj=> !(U ((hA l j).fr=(hA l i).fr)&&U ((hA l j).nu=(hA l i).nu))
def Ae(k:A7):Bool:=isN k.id&&(DH k.log k.fo&&(U ((k.AH.length:Int)<=3)&&((k.up||decide (k.AH.length=0))&&(((DS k.id k.log).isSome&&(DS k.id<|k.log.extract 0 k.fo.toNat).isSome)&&B6 k.AH.length (Fg k.AH)))))
abbrev tKp(k:A7):Int×Bool×A1×Int×List AE×D:=(k.id,k.up,k.log,k.fo,k.AH,())
def abV{l:List AE}(h:∀x∈l,OK x)(i:Nat):OK (hA l i):=by
 unfold hA;obtain hi|hi:=HA i l.length
 .rw[OF<|Av hi];exact h _ (Cd hi)
 .rw[B9,He hi];exact⟨by decide,λm hm=>by cases hm⟩
def Jb{k:A7}(sm:FF k):Ho (tKp k,())=I ((Ae k,()),()):=by
 obtain⟨id,up,lg,fo,hv⟩:=k;obtain⟨sl,hl,hs⟩:=sm;simp only at sl hl hs;have Gm:ao ((id,up,lg,fo,hv,()),hv,(j8 hv:Int),0,())=I (if B6 hv.length (Fg hv) then .inr () else .inl (A0,())):=
  DR (λi=>((id,up,lg,fo,hv,()),hv,(j8 hv:Int),(i:Int),())) hv.length (Fg hv) (A0,()) () (λi hi=>by
   unfold cI Fg;simp only[BL hi,AU hi,A2,YV,anx<|abV hs i,zi hl,A6,Dg,DX,Hq,BC hi (by omega:hv.length<=9223372036854775807)];obtain e|e:=tf (Fs<|hA hv i)
   .have hf:=av2 (p:=λj=>U ((hA hv j).fr=(hA hv i).fr)&&U ((hA hv j).nu=(hA hv i).nu)) hi aE4;unfold EB;simp only[e,AB,Bk,AP,hf];cases B6 i (λj=> !(U ((hA hv j).fr=(hA hv i).fr)&&U ((hA hv j).nu=(hA hv i).nu)))<;>rfl
   .simp only[e,AG,Bt,A2,AM,A4]) (by simp[cI])
 unfold Ho Ae;simp only[Je,A6,VU sl];obtain e|e:=tf (isN id)<;>simp only[e,AB,AG,A2,A4,AP,AM,O0];obtain e2|e2:=tf (DH lg fo)<;>simp only[e2,AB,AG,A2,A4,AP,AM,O0];have e3:0<=fo/\fo<=(lg.size:Int):=by
  unfold DH at e2;simp only[AD]at e2;exact Aa.1 e2.2.1
 have e4:(U (0<=fo)&&U (fo<=(lg.size:Int)))=Y:=by simp;omega
 obtain⟨e5,e6⟩|⟨e5,e6⟩:=EP (j8 hv:Int) 3<;>simp only[e5,e6,AT,Af,A2,A4,AP,AM,O0];have IJ:∀b:Bool,(b=Y)->BT (X:=(Int×Bool×A1×Int×List AE×D)×D) (λj5=>
   (LV (j5.1.1,j5.1.2.2.1,())).bind λr8=>
   (if(U (0<=j5.1.2.2.2.1)&&U (j5.1.2.2.2.1<=(j5.1.2.2.1.size:Int))) then
   (LV (j5.1.1,(j5.1.2.2.1.extract (0)<|AK j5.1.2.2.2.1),())).bind λr9=>
   (if((!r8.1.2.1)||(!r9.1.2.1)) then
   I ((A0,()),())
   else
   (AO (ao (j5.1,j5.1.2.2.2.2.1,(j8 j5.1.2.2.2.2.1:Int),0,()))
   (λy56=>I (y56,()))
   (λy56=>I ((Y,()),()))))
   else G)) (I<|.inr ((id,up,lg,fo,hv,()),()))=I ((b&&(((DS id lg).isSome&&(DS id<|lg.extract 0 fo.toNat).isSome)&&B6 hv.length (Fg hv)),()),()):=by
  rintro b rfl;simp only[Be,VQ sl,A6,e4,A2];rw[VQ (by rw[G7 J];omega)];simp only[A6,Gm,AP];obtain e|e:=tf (DS id lg).isSome<;>obtain e2|e2:=tf (DS id<|lg.extract 0 fo.toNat).isSome<;>simp only[e,e2,AB,AG,GM,Bt,DL,A2,A4,EW,BZ,AM,AP];obtain e|e:=tf (B6 hv.length<|Fg hv)<;>simp only[e,A2,A4]<;>rfl
 obtain e7|e7:=tf up
 .simp only[e7,AB,A4,Bt];rw[e7]at IJ;exact IJ Y rfl
 .simp only[e7,AG,A2,Bk];rw[e7]at IJ;by_cases e8:hv.length=0
  .have e9:U (0<(j8 hv:Int))=A0:=by rw[e8];rfl
   simp only[e9,A4,e8,AT];rw[e8]at IJ;exact IJ Y rfl
  .have e9:U (0<(j8 hv:Int))=Y:=by simp;omega
   simp only[e9,A2,e8,Af,AM,O0]
def LU{k:A7}(sm:FF k):Iu (tKp k,())=I ((Ae k,()),()):=by
 obtain⟨id,up,lg,fo,hv⟩:=k;obtain⟨sl,hl,hs⟩:=sm;simp only at sl hl hs;have Gm:ai ((id,up,lg,fo,hv,()),0,())=I (if B6 hv.length (Fg hv) then .inr () else .inl (A0,())):=
  DR (λi=>((id,up,lg,fo,hv,()),(i:Int),())) hv.length (Fg hv) (A0,()) () (λi hi=>by
   unfold cS Fg;simp only[BL hi,AU hi,A2,YV,an2<|abV hs i,A6,BC hi (by omega:hv.length<=9223372036854775807)];obtain e|e:=tf (Fs<|hA hv i)
   .simp only[e,AB,A4,AP];have hin:pe ((id,up,lg,fo,hv,()),(i:Int),0,())=I (if B6 i (λj=> !(U ((hA hv j).fr=(hA hv i).fr)&&U ((hA hv j).nu=(hA hv i).nu))) then .inr ((id,up,lg,fo,hv,()),(i:Int),()) else .inl (A0,())):=
     DR (λj=>((id,up,lg,fo,hv,()),(i:Int),(j:Int),())) i (λj=> !(U ((hA hv j).fr=(hA hv i).fr)&&U ((hA hv j).nu=(hA hv i).nu))) (A0,()) _ (λj hj=>by
      unfold cR;simp only[BL hj,AU hi,AU<|Yo hj hi,A2,YV,Hq,BC hj (by omega:i<=9223372036854775807)];obtain e|e:=tfp ((hA hv j).fr=(hA hv i).fr)<;>obtain e2|e2:=tfp ((hA hv j).nu=(hA hv i).nu)<;>simp only[e,e2,AT,Af]<;>rfl) (by simp[cR])
    rw[hin];obtain e4|e4:=tf (B6 i λj=> !(U ((hA hv j).fr=(hA hv i).fr)&&U ((hA hv j).nu=(hA hv i).nu)))
    .simp only[e4,A2,Co,BC hi (by omega:hv.length<=9223372036854775807)]
    .simp only[e4,A4,Hu]
   .simp only[e,AG,A2,AM,A4]) (by simp[cS])
 unfold Iu Ae;simp only[Jd,A6,VM sl];obtain e|e:=tf (isN id)<;>simp only[e,AB,AG,A2,A4,AP,AM,O0];obtain e2|e2:=tf (DH lg fo)<;>simp only[e2,AB,AG,A2,A4,AP,AM,O0];have e3:0<=fo/\fo<=(lg.size:Int):=by
  unfold DH at e2;simp only[AD]at e2;exact Aa.1 e2.2.1
 have e4:(U (0<=fo)&&U (fo<=(lg.size:Int)))=Y:=by simp;omega
 obtain⟨e5,e6⟩|⟨e5,e6⟩:=EP (j8 hv:Int) 3<;>simp only[e5,e6,AT,Af,A2,A4,AP,AM,O0];have IJ:∀b:Bool,(b=Y)->BT (X:=(Int×Bool×A1×Int×List AE×D)×D) (λj5=>
   (if(U (0<=j5.1.2.2.2.1)&&U (j5.1.2.2.2.1<=(j5.1.2.2.1.size:Int))) then
   (LJ ((j5.1.2.2.1.extract (0)<|AK j5.1.2.2.2.1),())).bind λr8=>
   (Ro (j5.1.1,r8.1.1,())).bind λr9=>
   (G5 j5).bind λr10=>
   (if((!r10.1.2.1)||(!r9.1.2.1)) then
   I ((A0,()),())
   else
   (AO (ai (j5.1,0,()))
   (λy27=>I (y27,()))
   (λy27=>I ((Y,()),()))))
   else G)) (I<|.inr ((id,up,lg,fo,hv,()),()))=I ((b&&(((DS id lg).isSome&&(DS id<|lg.extract 0 fo.toNat).isSome)&&B6 hv.length (Fg hv)),()),()):=by
  rintro b rfl;have hz:(lg.extract 0 fo.toNat).size<=1048576:=by rw[G7 J];omega
  have hg:=Pe<|lg.extract 0 fo.toNat;simp only[Be,e4,A2,Ud hz,A6,zX (id:=id) (show(D4<|lg.extract 0 fo.toNat).1.length<=1048576 by omega) (λr hr=>by have:=hg.2.2 r hr;omega),jJ sl,Gm,AP];rw[show CZ id (D4<|lg.extract 0 fo.toNat).1=DS id (lg.extract 0 fo.toNat) from rfl];obtain e|e:=tf (DS id lg).isSome<;>obtain e2|e2:=tf (DS id<|lg.extract 0 fo.toNat).isSome<;>simp only[e,e2,AB,AG,GM,Bt,DL,A2,A4,EW,BZ,AM,AP];obtain e|e:=tf (B6 hv.length<|Fg hv)<;>simp only[e,A2,A4]<;>rfl
 obtain e7|e7:=tf up
 .simp only[e7,AB,A4,Bt];rw[e7]at IJ;exact IJ Y rfl
 .simp only[e7,AG,A2,Bk];rw[e7]at IJ;by_cases e8:hv.length=0
  .have e9:U (0<(j8 hv:Int))=A0:=by rw[e8];rfl
   simp only[e9,A4,e8,AT];rw[e8]at IJ;exact IJ Y rfl
  .have e9:U (0<(j8 hv:Int))=Y:=by simp;omega
   simp only[e9,A2,e8,Af,AM,O0]
abbrev YR:=Int×List A7×List Bool×List AL×List A3×List A3×D
def kA(l:List A7)(i:Nat):A7:=l.getD i<|dfl .AQ
def pA(l:List AL)(i:Nat):AL:=l.getD i<|dfl .Ak
def bA(l:List Bool)(i:Nat):Bool:=l.getD i<|dfl .bool
def Pg(l:List A7)(i:Nat): @rd A7 aE5 l (i:Int)=kA l i:=rfl
def aC8(l:List AL)(i:Nat): @rd AL aFa l (i:Int)=pA l i:=rfl
def avJ(l:List Bool)(i:Nat): @rd Bool aFj l (i:Int)=bA l i:=rfl
def H8(l:List A3):Bool:=B6 l.length λi=>Ax<|nA l i
def E3(p:AL):Bool:=isN p.src&&(isN p.dst&&((U (p.src - p.dst=1)||decide (p.dst - p.src=1))&&U ((p.data.size:Int)<=40)))
def JF(l:List A7)(i:Nat):Bool:=U ((kA l i).id=(i:Int))&&Ae (kA l i)
def Gt(ti:Int)(ks:List A7)(ls:List Bool)(ra:List AL)(se go:List A3):Bool:=
 inB ti 0 99999&&(U ((j8 ks:Int)=4)&&(U ((j8 ls:Int)=3)&&(U ((j8 ra:Int)<=30)&&((H8 se&&U ((j8 se:Int)<=6))&&((H8 go&&U ((j8 go:Int)<=6))&&
  (B6 ks.length (JF ks)&&B6 ra.length (λi=>E3<|pA ra i)))))))
def OY{l:List A7}(h:∀x∈l,FF x)(i:Nat):FF (kA l i):=by
 unfold kA;obtain hi|hi:=HA i l.length
 .rw[OF<|Av hi];exact h _ (Cd hi)
 .rw[B9,He hi];exact⟨by decide,by decide,λm hm=>by cases hm⟩
def aAG{l:List A3}(hl:l.length<=1048576)(h:∀x∈l,GA x):Vz (l,())=I ((H8 l&&U ((j8 l:Int)<=6),()),()):=by
 have Gm:rz (l,l,(j8 l:Int),0,())=I (if H8 l then .inr (l,()) else .inl (A0,())):=
  DR (λi=>(l,l,(j8 l:Int),(i:Int),())) l.length (λi=>Ax<|nA l i) (A0,()) (l,()) (λi hi=>by
   unfold fU;simp only[BL hi,AU hi,A2,Da,Ve<|Ta h i,A6,BC hi (by omega:l.length<=9223372036854775807)];obtain e|e:=tf (Ax<|nA l i)<;>simp only[e]<;>rfl) (by simp[fU])
 unfold Vz;simp only[Gm];obtain e|e:=tf (H8 l)<;>simp only[e]<;>rfl
def F6{n:Int}(h:isN n=Y):0<=n/\n<=3:=Aa.1 h
def XN{a b:Int}(ha:isN a=Y)(hb:isN b=Y):w64 (a - b)=a - b:=by
 have:=F6 ha;have:=F6 hb;exact AZ J J
def ajs{w:YR}{ks:List A7}(kl:ks.length<=1048576)(k:∀x∈ks,FF x):
  qQ (w,ks,(j8 ks:Int),0,())=I (if B6 ks.length (JF ks) then .inr (w,()) else .inl (A0,())):=
 DR (λi=>(w,ks,(j8 ks:Int),(i:Int),())) ks.length (JF ks) (A0,()) (w,()) (λi hi=>by
  have hk:=Jb<|OY k i;unfold dM JF;simp only[BL hi,AU hi,A2,Pg,hk,Dg,DX,Hq,BC hi (by omega:ks.length<=9223372036854775807)];obtain e|e:=tfp ((kA ks i).id=(i:Int))<;>obtain e2|e2:=tf (Ae<|kA ks i)<;>simp only[e,e2,AT,Af]<;>rfl) (by simp[dM])
def wZ{ra:List AL}(rl:ra.length<=1048576):
  qP (ra,(j8 ra:Int),0,())=I (if B6 ra.length (λi=>E3<|pA ra i) then .inr () else .inl (A0,())):=
 DR (λi=>(ra,(j8 ra:Int),(i:Int),())) ra.length (λi=>E3<|pA ra i) (A0,()) () (λi hi=>by
  unfold dL E3;simp only[BL hi,AU hi,A2,aC8,Je,A6,BC hi (by omega:ra.length<=9223372036854775807)];obtain e|e:=tf (isN (pA ra i).src)<;>obtain e2|e2:=tf (isN (pA ra i).dst)<;>simp only[e,e2,AB,AG,A2,A4,AP,AM];simp only[XN e e2,XN e2 e];obtain e3|e3:=tfp ((pA ra i).src - (pA ra i).dst=1)<;>obtain e4|e4:=tfp ((pA ra i).dst - (pA ra i).src=1)<;>obtain⟨e5,e6⟩|⟨e5,e6⟩:=EP ((pA ra i).data.size:Int) 40<;>simp only[e3,e4,e5,e6,AT,Af]<;>rfl) (by simp[dL])
def gN{ti:Int}{ks:List A7}{ls:List Bool}{ra:List AL}{se go:List A3}(sm:L8 ks ls ra se go):
  Ng ((ti,ks,ls,ra,se,go,()),())=I ((Gt ti ks ls ra se go,()),()):=by
 unfold Ng Gt;simp only[EJ,aAG sm.sl sm.s,aAG sm.gl sm.g,ajs sm.kl sm.k,wZ sm.rl,A6];obtain e|e:=tf (inB ti 0 99999)<;>simp only[e,AB,AG,A2,A4,AP,AM];obtain e|e:=tfp ((j8 ks:Int)=4)<;>simp only[e,AT,Af,AB,AG,A2,A4,AP,AM];obtain e|e:=tfp ((j8 ls:Int)=3)<;>simp only[e,AT,Af,AB,AG,A2,A4,AP,AM];obtain⟨e1,e2⟩|⟨e1,e2⟩:=EP (j8 ra:Int) 30<;>simp only[e1,e2,AT,Af,A2,A4,AP,AM];obtain e|e:=tf (H8 se&&U ((j8 se:Int)<=6))<;>simp only[e,AB,AG,A2,A4,AP,AM];obtain e|e:=tf (H8 go&&U ((j8 go:Int)<=6))<;>simp only[e,AB,AG,A2,A4,AP,AM];obtain e|e:=tf (B6 ks.length<|JF ks)<;>simp only[e,A2,A4,AP,AM,Hu,Co];rw[wZ sm.rl];obtain e|e:=tf (B6 ra.length λi=>E3<|pA ra i)<;>simp only[e,A2,A4,Hu,Co]
def akO{ti:Int}{ks:List A7}{ls:List Bool}{ra:List AL}{se go:List A3}(sm:L8 ks ls ra se go):
  qY ((ti,ks,ls,ra,se,go,()),0,())=I (if B6 ks.length (JF ks) then .inr ((ti,ks,ls,ra,se,go,()),()) else .inl (A0,())):=
 DR (λi=>((ti,ks,ls,ra,se,go,()),(i:Int),())) ks.length (JF ks) (A0,()) _ (λi hi=>by
  have hk:=LU<|OY sm.k i;unfold dA JF;have kl:=sm.kl;simp only[BL hi,AU hi,A2,Pg,hk,A6,Hq,BC hi (by omega:ks.length<=9223372036854775807)];obtain e|e:=tfp ((kA ks i).id=(i:Int))<;>obtain e2|e2:=tf (Ae<|kA ks i)<;>simp only[e,e2,AT,Af]<;>rfl) (by simp[dA])
def akN{ti:Int}{ks:List A7}{ls:List Bool}{ra:List AL}{se go:List A3}(sm:L8 ks ls ra se go):
  qX ((ti,ks,ls,ra,se,go,()),0,())=I (if B6 ra.length (λi=>E3<|pA ra i) then .inr ((ti,ks,ls,ra,se,go,()),()) else .inl (A0,())):=
 DR (λi=>((ti,ks,ls,ra,se,go,()),(i:Int),())) ra.length (λi=>E3<|pA ra i) (A0,()) _ (λi hi=>by
  have rl:=sm.rl;unfold cy E3;simp only[BL hi,AU hi,A2,aC8,Jd,A6,BC hi (by omega:ra.length<=9223372036854775807)];obtain e|e:=tf (isN (pA ra i).src)<;>obtain e2|e2:=tf (isN (pA ra i).dst)<;>simp only[e,e2,AB,AG,A2,A4,AP,AM];simp only[XN e e2,XN e2 e];obtain e3|e3:=tfp ((pA ra i).src - (pA ra i).dst=1)<;>obtain e4|e4:=tfp ((pA ra i).dst - (pA ra i).src=1)<;>obtain⟨e5,e6⟩|⟨e5,e6⟩:=EP ((pA ra i).data.size:Int) 40<;>simp only[e3,e4,e5,e6,AT,Af]<;>rfl) (by simp[cy])
def akM{ti:Int}{ks:List A7}{ls:List Bool}{ra:List AL}{se go:List A3}(sm:L8 ks ls ra se go):
  q7 ((ti,ks,ls,ra,se,go,()),0,())=I (if H8 se then .inr ((ti,ks,ls,ra,se,go,()),()) else .inl (A0,())):=
 DR (λi=>((ti,ks,ls,ra,se,go,()),(i:Int),())) se.length (λi=>Ax<|nA se i) (A0,()) _ (λi hi=>by
  have rl:=sm.sl;unfold cw;simp only[BL hi,AU hi,A2,Da,Vh<|Ta sm.s i,A6,BC hi (by omega:se.length<=9223372036854775807)];obtain e|e:=tf (Ax<|nA se i)<;>simp only[e]<;>rfl) (by simp[cw])
def akL{ti:Int}{ks:List A7}{ls:List Bool}{ra:List AL}{se go:List A3}(sm:L8 ks ls ra se go):
  q6 ((ti,ks,ls,ra,se,go,()),0,())=I (if H8 go then .inr () else .inl (A0,())):=
 DR (λi=>((ti,ks,ls,ra,se,go,()),(i:Int),())) go.length (λi=>Ax<|nA go i) (A0,()) _ (λi hi=>by
  have rl:=sm.gl;unfold di;simp only[BL hi,AU hi,A2,Da,Vh<|Ta sm.g i,A6,BC hi (by omega:go.length<=9223372036854775807)];obtain e|e:=tf (Ax<|nA go i)<;>simp only[e]<;>rfl) (by simp[di])
def sa{ti:Int}{ks:List A7}{ls:List Bool}{ra:List AL}{se go:List A3}(sm:L8 ks ls ra se go):
  PT ((ti,ks,ls,ra,se,go,()),())=I ((Gt ti ks ls ra se go,()),()):=by
 unfold PT Gt;simp only[Hr,A6];obtain e|e:=tf (inB ti 0 99999)<;>simp only[e,AB,AG,A2,A4,AP,AM];obtain e|e:=tfp ((j8 ks:Int)=4)<;>simp only[e,AT,Af,AB,AG,A2,A4,AP,AM];obtain e|e:=tfp ((j8 ls:Int)=3)<;>simp only[e,AT,Af,AB,AG,A2,A4,AP,AM];obtain⟨e1,e2⟩|⟨e1,e2⟩:=EP (j8 ra:Int) 30<;>simp only[e1,e2,AT,Af,A2,A4,AP,AM];obtain⟨e1,e2⟩|⟨e1,e2⟩:=EP (j8 se:Int) 6<;>simp only[e1,e2,AT,Af,A2,A4,Ks,BZ,AM];obtain⟨e1,e2⟩|⟨e1,e2⟩:=EP (j8 go:Int) 6<;>simp only[e1,e2,AT,Af,A2,A4,Ks,BZ,AM];rw[akO sm];obtain e|e:=tf (B6 ks.length<|JF ks)<;>simp only[e,A2,A4,AP,AM,BZ,Hu,Co];rw[akN sm];obtain e|e:=tf (B6 ra.length λi=>E3<|pA ra i)<;>simp only[e,A2,A4,Hu,Co,BZ,Ks];rw[akM sm];obtain e|e:=tf (H8 se)<;>simp only[e,A2,A4,Hu,Co,BZ,Ks,AP,AM];rw[akL sm];obtain e|e:=tf (H8 go)<;>simp only[e,A2,A4,Hu,Co,BZ,Ks]
def Br(a t:Int):Int:=if !isN a||(!isN t||decide (a=t)) then -1 else if a<t then a+1 else a - 1
def Xf{a:Int}(h:isN a=Y):w64 (a+1)=a+1/\w64 (a - 1)=a - 1:=by
 have:=F6 h;exact⟨AZ J J,AZ J J⟩
def sJ{a t:Int}:Iv (a,t,())=I ((Br a t,()),()):=by
 unfold Iv Br;simp only[Je,A6];obtain e|e:=tf (isN a)
 .rcases tf (isN t) with e2|e2
  .rcases tfp (a=t) with e3|e3
   .simp only[e,e2,e3,AT];rfl
   .rcases tfp (a<t) with e4|e4<;>simp only[e,e2,e3,e4,Af,AT,AB,A4,Be,A2,if_false,GM,(Xf e).1,(Xf e).2]
  .simp only[e,e2];rfl
 .simp only[e];rfl
def sA{a t:Int}:RZ (a,t,())=I ((Br a t,()),()):=by
 unfold RZ Br;simp only[Jd,A6];obtain e|e:=tf (isN a)
 .rcases tf (isN t) with e2|e2
  .rcases tfp (a=t) with e3|e3
   .simp only[e,e2,e3,AT];rfl
   .rcases tfp (a<t) with e4|e4<;>simp only[e,e2,e3,e4,Af,AT,AB,A4,Be,A2,if_false,GM,(Xf e).1,(Xf e).2]
  .simp only[e,e2];rfl
 .simp only[e];rfl
def ase{a t:Int}(ha:isN a=Y)(ht:isN t=Y)(hne:a≠t):isN (Br a t)=Y:=by
 have:=F6 ha;have:=F6 ht;have e3:U (a=t)=A0:=by simpa using hne
 unfold Br;simp only[ha,ht,e3,AB,GM,A4];rw[Aa];split<;>omega
def stT(k:A7):AJ:=(DS k.id k.log).getD zK
def WD(l:List A7)(i:Int): @rd A7 aE5 l i=kA l i.toNat:=rfl
structure ayL (k:A7):Prop where
 id:isN k.id=Y
 sh:DH k.log k.fo=Y
 hl:k.AH.length<=3
 up:k.up=Y\/k.AH.length=0
 st:DS k.id k.log=I (stT k)
 ok:At (stT k)=Y
 sid:(stT k).id=k.id
 fo:(DS k.id<|k.log.extract 0 k.fo.toNat).isSome=Y
 hv:∀i,i<k.AH.length->Fg k.AH i=Y
def El{k:A7}(h:Ae k=Y):ayL k:=by
 unfold Ae at h;simp only[AD,C1,decide_eq_true_eq,Cp]at h;obtain⟨a,b,c,d,⟨e,f⟩,g⟩:=h;have hs:DS k.id k.log=I (stT k):=by
  unfold stT;cases hh:DS k.id k.log with
  | none=>rw[hh]at e;cases e
  | some o=>rfl
 exact⟨a,b,J,d,hs,SL hs,jn hs,f,g⟩
structure Zu (ti:Int) (ks:List A7) (ls:List Bool) (ra:List AL) (se go:List A3):Prop where
 t0:0<=ti
 t1:ti<=99999
 kl:ks.length=4
 ll:ls.length=3
 rl:ra.length<=30
 s:H8 se=Y
 sl:se.length<=6
 g:H8 go=Y
 gl:go.length<=6
 k:∀i,i<4->(kA ks i).id=(i:Int)/\Ae (kA ks i)=Y
 r:∀i,i<ra.length->E3 (pA ra i)=Y
def atW{ti:Int}{ks:List A7}{ls:List Bool}{ra:List AL}{se go:List A3}(h:Gt ti ks ls ra se go=Y):Zu ti ks ls ra se go:=by
 unfold Gt at h;simp only[AD,decide_eq_true_eq,Cp]at h;obtain⟨a,b,c,d,⟨e,f⟩,⟨g,i⟩,j,l⟩:=h;have a:=Aa.1 a;refine⟨a.1,a.2,J,J,J,e,J,g,J,λm hm=> ?_,l⟩;have:=j m J;unfold JF at this;simp only[AD,decide_eq_true_eq]at this;exact this
def kJ{k:AJ}{n:A3}(h:At k=Y)(hn:n∈k.held):isN (Br k.id n.to)=Y:=by
 have hf:=C3 h;obtain⟨i,hi,rfl⟩:=D0 hn;have h1:=Gs hf.h hi;rw[DT<|Av hi]at h1;have h2:=IX h1;have h3:=hf.ho i hi;unfold Gx Ec at h3;rw[DT<|Av hi]at h3;simp only[AD,CE,decide_eq_false_iff_not]at h3;exact ase (Aa.2 ⟨hf.id0,hf.id1⟩) (Aa.2 ⟨h2.t0,h2.t1⟩) h3.2.2.1.1
section
variable {ti:Int} {ks:List A7} {ls:List Bool} {ra:List AL} {se go:List A3}
def I3{l:List A3}{j:Nat}(h:j<l.length):nA l j∈l:=by
 rw[DT<|Av h];exact Cd h
def arF(hf:Zu ti ks ls ra se go){i:Nat}(hi:i<4){j:Nat}(hj:j<(stT<|kA ks i).held.length):
  ∃m:Nat,m<4/\Br (kA ks i).id (nA (stT<|kA ks i).held j).to=(m:Int):=by
 have h1:=El (hf.k i hi).2;have h2:=kJ h1.ok<|I3 hj;rw[h1.sid]at h2;have:=F6 h2;exact⟨(Br (kA ks i).id (nA (stT<|kA ks i).held j).to).toNat,J,J⟩
end
end Go.VS
namespace Go.VS
open Go
def SP{a b c d e f:Int}(h:bef a b c d=Y)(k:bef c d e f=Y):bef a b e f=Y:=by
 unfold bef at *;simp only[C1,AD,decide_eq_true_eq]at *;omega
def OS{a b:Int}:bef a b a b=A0:=by
 unfold bef;simp
def Rz{l:List A3}(h:DI l=Y):∀(j i:Nat),i<j->j<l.length->bef (nA l i).fr (nA l i).nu (nA l j).fr (nA l j).nu=Y
 | j+1,i,hij,hj=>by
  have h1:=Cp.1 h (j+1) hj;simp only[AD,C1,decide_eq_true_eq]at h1;have h2:bef (nA l j).fr (nA l j).nu (nA l<|j+1).fr (nA l<|j+1).nu=Y:=h1.2.resolve_left J;obtain h3|h3:=HA i j
  .exact SP (Rz h j i h3 J) h2
  .rwa[show i=j by omega]
def nf(a t:Int):Nat:=(a - t).natAbs
def aCP{a t:Int}(ha:isN a=Y)(ht:isN t=Y)(hne:a≠t):nf (Br a t) t+1=nf a t:=by
 have:=F6 ha;have:=F6 ht;have e3:U (a=t)=A0:=by simpa using hne
 unfold Br nf;simp only[ha,ht,e3,AB,GM,A4];split<;>omega
def stD(k:A7):AJ:=(DS k.id<|k.log.extract 0 k.fo.toNat).getD zK
def vn{k:A7}(sm:FF k)(h:Ae k=Y):Gk (tKp k,())=I ((tK<|stT k,()),()):=by
 unfold Gk;rw[Jb sm];simp only[A6,h,AB,A4];rw[VQ sm.1];rfl
def QC(ks:List A7)(id:Int)(l:List A3)(j:Nat):Bool:=U<|(nA l j).un<=(stT<|kA ks (Br id (nA l j).to).toNat).ti
def QB(ks:List A7)(i:Nat):Bool:=(kA ks i).up&&B6 (stT<|kA ks i).held.length (QC ks (kA ks i).id (stT<|kA ks i).held)
def Wb(ti:Int)(ks:List A7)(ls:List Bool)(ra:List AL)(se go:List A3):Bool:=
 Gt ti ks ls ra se go&&(U (ra.length=0)&&(B6 ls.length (bA ls)&&B6 ks.length (QB ks)))
section
variable {ti:Int} {ks:List A7} {ls:List Bool} {ra:List AL} {se go:List A3}
def ao3(sm:L8 ks ls ra se go)(hf:Zu ti ks ls ra se go){w:YR}(hw:w=(ti,ks,ls,ra,se,go,())){i:Nat}(hi:i<4){len:Int}{ii:Int}:
  pK (w,tKp<|kA ks i,ks,len,ii,(stT<|kA ks i).held,((stT<|kA ks i).held.length:Int),0,())=
   I (if B6 (stT<|kA ks i).held.length (QC ks (kA ks i).id (stT<|kA ks i).held) then .inr (w,ks,len,ii,()) else .inl (A0,())):=by
 subst hw;exact DR (λj=>((ti,ks,ls,ra,se,go,()),tKp<|kA ks i,ks,len,ii,(stT<|kA ks i).held,((stT<|kA ks i).held.length:Int),(j:Int),())) (stT<|kA ks i).held.length (QC ks (kA ks i).id (stT<|kA ks i).held) (A0,()) _ (λj hj=>by
  obtain⟨m,hm,e⟩:=arF hf hi hj;have hl:=(C3 (El (hf.k i hi).2).ok).hl;unfold bL QC;simp only[BL hj,AU hj,A2,Da,sJ,A6,e,AU (show m<ks.length by rw[hf.kl];exact hm),Pg,Bc];rw[vn (OY sm.k m) (hf.k m hm).2];simp only[A6,BC hj (by omega:(stT<|kA ks i).held.length<=9223372036854775807)];obtain⟨e5,e6⟩|⟨e5,e6⟩:=EP (nA (stT<|kA ks i).held j).un (stT<|kA ks m).ti<;>simp only[e5,e6,AT,Af]<;>rfl) (by simp[bL])
def ao4(sm:L8 ks ls ra se go)(hf:Zu ti ks ls ra se go):
  pL ((ti,ks,ls,ra,se,go,()),ks,(j8 ks:Int),0,())=I (if B6 ks.length (QB ks) then .inr () else .inl (A0,())):=
 DR (λi=>((ti,ks,ls,ra,se,go,()),ks,(j8 ks:Int),(i:Int),())) ks.length (QB ks) (A0,()) () (λi hi=>by
  have hi4:i<4:=by rw[← hf.kl];exact hi
  have h2:=ao3 (i:=i) (len:=(j8 ks:Int)) (ii:=(i:Int)) sm hf rfl hi4;have h3:=vn (OY sm.k i) (hf.k i hi4).2;unfold bM QB;simp only[BL hi,AU hi,A2,Pg,h3,A6];obtain e|e:=tf (kA ks i).up
  .simp only[tKp,e]at h2;simp only[e,AB,A4,AP,h2];obtain e2|e2:=tf (B6 (stT<|kA ks i).held.length<|QC ks (kA ks i).id (stT<|kA ks i).held)
   .simp only[e2,A2,Co,BC hi (by rw[hf.kl];decide:ks.length<=9223372036854775807)]
   .simp only[e2,A4,Hu]
  .simp only[e,AG,A2,AM,A4]) (by simp[bM])
def ao5{w:YR}(hl:ls.length<=1048576):
  pM (w,ls,(j8 ls:Int),0,())=I (if B6 ls.length (bA ls) then .inr (w,()) else .inl (A0,())):=
 DR (λi=>(w,ls,(j8 ls:Int),(i:Int),())) ls.length (bA ls) (A0,()) _ (λi hi=>by
  unfold bN;simp only[BL hi,AU hi,A2,avJ,BC hi (by omega:ls.length<=9223372036854775807)];obtain e|e:=tf (bA ls i)<;>simp only[e]<;>rfl) (by simp[bN])
def ah9(sm:L8 ks ls ra se go):Uc ((ti,ks,ls,ra,se,go,()),())=I ((Wb ti ks ls ra se go,()),()):=by
 unfold Uc Wb;rw[gN sm];simp only[A6];obtain e|e:=tf (Gt ti ks ls ra se go)
 .have hf:=atW e;simp only[e,AB,Bk,AP];by_cases e2:ra.length=0
  .have e3:U (0<(j8 ra:Int))=A0:=by rw[e2];rfl
   have e2':U (ra.length=0)=Y:=by rw[e2];rfl
   simp only[e3,e2',A4,AP,ao5 sm.l];obtain e4|e4:=tf (B6 ls.length<|bA ls)<;>simp only[e4,A2,A4,Co,Hu,AP,AM];rw[ao4 sm hf];obtain e5|e5:=tf (B6 ks.length<|QB ks)<;>simp only[e5,A2,A4,Co,Hu]
  .have e3:U (0<(j8 ra:Int))=Y:=by simp;omega
   simp only[e3,e2,Af,A2,AM]
 .simp only[e,AG,Bt,A2,AM]
end
end Go.VS
namespace Go.VS
open Go
def Cv(r:A1):A1:=((BW (r.size:Int)++B [58])++r)++B [59]
def mF(r:A1):L (Cv r)=dcm r.size++58::(L r++[59]):=by
 unfold Cv;rw[aDh];simp only[GI,L_B,ng,C2,Kr,EU]
def WM(r:A1):(Cv r).size=(dcm r.size).length+2+r.size:=by
 rw[← Aw,mF];simp only[Au,Bj,CO,Aw];omega
def cat(rs:List A1):List UInt8:=rs.flatMap λr=>L<|Cv r
def Jh:cat []=[]:=rfl
def Hv(r:A1)(rs:List A1):cat (r::rs)=L (Cv r)++cat rs:=rfl
def KT(rs ts:List A1):cat (rs++ts)=cat rs++cat ts:=lW
def I1(rs:List A1):Prop:=∀r∈rs,1<=r.size/\r.size<=60
def axc(b:UInt8)(h:dig b=Y):b≠58:=by
 rintro rfl;revert h;decide
def aa6{n:Nat}(h:n<=60):(dcm n).length<=2:=Lf 2 n J J
def aa7(n:Nat):1<=(dcm n).length:=by
 have:=n8 n;cases h:dcm n with
 | nil=>exact absurd h this
 | cons b l=>simp
def aa0{l m:List UInt8}{b:UInt8}{i:Nat}(h:i=l.length):(l++b::m).getD i 0=b:=by
 subst h;simp
def Xe{s r:A1}{t:List UInt8}(h:L s=L (Cv r)++t)(h1:1<=r.size)(h2:r.size<=60):De s=I (r,(Cv r).size):=by
 rw[mF]at h;have hs:s.size=(dcm r.size).length+2+r.size+t.length:=by
  rw[← Aw,h];simp only[Au,Bj,CO,Aw];omega
 have hd:=aa6 h2;have hp:=aa7 r.size;generalize hc:(dcm r.size).length=c at *;have hL:L s=dcm r.size++58::(L r++59::t):=by rw[h];simp
 have azk:Ti s=(c:Int):=by
  refine aDq J ?_ (λj hj=> ?_)
  .rw[decide_eq_true_eq,Jm,hL,aa0 hc.symm];rfl
  .rw[decide_eq_false_iff_not,Jm,hL];have hlt:j<(dcm r.size).length:=J
   have hm:(dcm r.size++58::(L r++59::t)).getD j 0∈dcm r.size:=aEz hlt;have hdg:=YE (r.size+1) r.size J _ hm;have hne:=axc _ hdg;generalize (dcm r.size++58::(L r++59::t)).getD j 0=b at *;intro e;apply hne;have e:b.toNat=58:=J
   exact QM.1 e
 have he:L (s.extract 0 c)=dcm r.size:=by
  rw[EA,hL];simp[← hc]
 have hn:Ad (s.extract 0 c)=(r.size:Int):=lG (by rw[← Aw,he];omega) he;have h59:bt s ((c+1+r.size:Nat):Int)=59:=by
  have e:(L s).getD (c+1+r.size) 0=59:=by
   have:dcm r.size++58::(L r++59::t)=(dcm r.size++58::L r)++59::t:=by simp
   rw[hL,this];exact aa0 (by simp[hc];omega)
  rw[Jm,e];rfl
 have hx:s.extract (c+1) (c+1+r.size)=r:=by
  refine Fw ?_;rw[EA,hL];have:(dcm r.size++58::(L r++59::t)).drop (c+1)=L r++59::t:=by
   have e:dcm r.size++58::(L r++59::t)=(dcm r.size++[58])++(L r++59::t):=by simp
   rw[e,QN<|by simp[hc]]
  rw[this,show c+1+r.size - (c+1)=(L r).length by rw[Aw];omega,Oe rfl]
 unfold De;rw[azk];simp only[Bc,hn];rw[A8 J,A8 J,A8 J,A8 J,h59];simp only[AT,AB,A4,hx];rw[WM,hc]
def avS{s r:A1}{n:Nat}(h:De s=I (r,n)):1<=r.size/\r.size<=60/\n=(Cv r).size/\ ∃t,L s=L (Cv r)++t:=by
 have hsm:=SK h;unfold De at h;split at h
 .cases h
 rename_i hc0;obtain⟨h1,_⟩|⟨c,h1,h2,h3,h4,_⟩:=WW s
 .omega
 rw[h1]at h;simp only[Bc]at h;split at h
 .cases h
 rename_i hn1;split at h
 .cases h
 rename_i hn2;split at h
 .cases h
 rename_i hn3;split at h
 .cases h
 rename_i hn4;cases h;have hz:(s.extract 0 c).size=c:=by rw[G7 J];omega
 obtain⟨h9,_⟩|⟨k,h9,h10,h11⟩:=S2 (s.extract 0 c)
 .omega
 simp only[h9,Bc]at hn1 hn2 hn3 hn4 hsm ⊢;have hrs:(s.extract (c+1)<|c+1+k).size=k:=by rw[G7 J];omega
 have h5:bt s ((c+1+k:Nat):Int)=59:=by
  cases hd:U (bt s ((c+1+k:Nat):Int)=59) with
  | true=>simpa using hd
  | false=>rw[hd]at hn4;exact absurd rfl hn4
 have g1:(L s).getD c 0=58:=by
  rw[Jm]at h4;exact QM.1 (by have:(58:UInt8).toNat=58:=rfl;omega)
 have g2:(L s).getD (c+1+k) 0=59:=by
  rw[Jm]at h5;exact QM.1 (by have:(59:UInt8).toNat=59:=rfl;omega)
 have hlen:(L s).length=s.size:=Aw s;have t1:(L s).take c=dcm k:=by
  rw[← h11,EA];simp
 have hcl:(dcm k).length=c:=by rw[← t1,Dh];omega
 have hsp:L s=dcm k++58::((L<|s.extract (c+1)<|c+1+k)++59::(L s).drop (c+1+k+1)):=by
  conv=>lhs;rw[← JK c<|L s,t1]
  congr 1;rw[TH J];congr 1
  .rw[← g1,B9,Av J];rfl
  .rw[EA]
   conv=>lhs;rw[← JK k<|(L s).drop<|c+1]
   rw[show c+1+k - (c+1)=k by omega];congr 1;rw[Iq,TH J];congr 1;rw[← g2,B9,Av J];rfl
 refine⟨J,J, ?_,(L s).drop<|c+1+k+1, ?_⟩
 .rw[WM,hrs,hcl]
 .rw[mF,hrs]
  conv=>lhs;rw[hsp]
  simp
def Wf(r:A1):3<=(Cv r).size:=by
 rw[WM];have:=aa7 r.size;omega
def aDI{log:A1}:∀(rs:List A1) (f:Nat) (out:List A1) (at_:Nat),I1 rs->(L log).drop at_=cat rs->at_<=log.size->log.size<at_+f->Er log f out at_=(out++rs,log.size)
 | [],0,out,at_,_,_,h3,h4=>J
 | [],f+1,out,at_,_,h2,h3,h4=>by
  have:log.size<=at_:=by
   have e:=congrArg JP h2;rw[EF,Aw,Jh]at e;simp at e;omega
  unfold Er;rw[A8 J,CJ];rw[show at_=log.size by omega]
 | r::rs,0,out,at_,_,_,h3,h4=>J
 | r::rs,f+1,out,at_,h1,h2,h3,h4=>by
  have hr:=h1 r An;rw[Hv]at h2;have hlen:log.size - at_=(Cv r).size+(cat rs).length:=by
   have e:=congrArg JP h2;rwa[EF,Aw,Au,Aw]at e
  have hp:=Wf r;have DA:De (log.extract at_ log.size)=I (r,(Cv r).size):=by
   refine Xe (t:=cat rs) ?_ hr.1 hr.2;rw[EA,h2];refine K4 ?_;rw[Au,Aw];omega
  unfold Er;rw[A5 J,DA];simp only;have:=aDI (log:=log) rs f (out++[r]) (at_+(Cv r).size) (λx hx=>h1 x<|Ai _ hx) (by
   rw[← Iq,h2,QN<|by rw[Aw]]) J J
  rw[this];simp
def XB{log:A1}{rs:List A1}(h1:I1 rs)(h2:L log=cat rs):D4 log=(rs,log.size):=by
 have:=aDI (log:=log) rs (log.size+1) [] 0 h1 (by simpa using h2) (D1 _) J;exact this
def kt{log:A1}:∀(f:Nat) (out:List A1) (at_:Nat),at_<=log.size->∃rs,(Er log f out at_).1=out++rs/\I1 rs/\ ∃t,(L log).drop at_=cat rs++t/\(Er log f out at_).2=at_+(cat rs).length
 | 0,out,at_,_=>⟨[],by simp[Er],(λr hr=>nomatch hr),(L log).drop at_,rfl,rfl⟩
 | f+1,out,at_,h=>by
  unfold Er;split
  .rename_i hlt;cases DA:De (log.extract at_ log.size) with
   | none=>exact⟨[],by simp,(λr hr=>nomatch hr),(L log).drop at_,rfl,rfl⟩
   | some p=>
    obtain⟨r,n⟩:=p;obtain⟨k1,k2,k3,t,k4⟩:=avS DA;have hsm:=SK DA;rw[G7<|Ar _]at hsm;simp only at hsm ⊢;obtain⟨rs,g1,g2,t',g3,g4⟩:=kt (log:=log) f (out++[r]) (at_+n) J;have e:L (log.extract at_ log.size)=(L log).drop at_:=by
     rw[EA];exact K4 (by rw[EF,Aw];omega)
    rw[e]at k4;have ht:t=cat rs++t':=by
     rw[← g3,← Iq,k4,k3,QN<|by rw[Aw]]
    refine⟨r::rs,by rw[g1];simp,λx hx=> ?_,t',by rw[k4,ht,Hv,C2], ?_⟩
    .rcases Bl.1 hx with rfl|hx
     .exact⟨k1,k2⟩
     .exact g2 x hx
    .rw[g4,Hv,Au,Aw,k3];omega
  .exact⟨[],by simp,(λr hr=>nomatch hr),(L log).drop at_,rfl,rfl⟩
def jv(log:A1):I1 (D4 log).1/\(D4 log).2=(cat (D4 log).1).length/\ ∃t,L log=cat (D4 log).1++t:=by
 obtain⟨rs,g1,g2,t,g3,g4⟩:=kt (log:=log) (log.size+1) [] 0<|D1 _;have e:(D4 log).1=rs:=by
  show(Er log (log.size+1) [] 0).1=rs;simpa using g1
 rw[e];refine⟨g2, ?_,t,by simpa using g3⟩;show(Er log (log.size+1) [] 0).2=_;rw[g4,DY]
def mR:∀(rs ts:List A1) (t:List UInt8),I1 rs->I1 ts->cat rs=cat ts++t->∃us,rs=ts++us
 | rs,[],t,_,_,_=>⟨rs,rfl⟩
 | [],s::ts,t,_,_,h=>by
  have e:=congrArg JP h;rw[Hv,Jh]at e;have:=Wf s;simp only[CO,Au,Aw]at e;omega
 | r::rs,s::ts,t,h1,h2,h=>by
  rw[Hv,Hv,C2]at h;have hr:=h1 r An;have hs:=h2 s An;have o1:=Xe (s:=B<|L (Cv r)++cat rs) (r:=r) (t:=cat rs) (L_B _) hr.1 hr.2;have o2:=Xe (s:=B<|L (Cv r)++cat rs) (r:=s) (t:=cat ts++t) (by rw[L_B,h]) hs.1 hs.2;rw[o1]at o2;simp only[Bs,CK]at o2;obtain⟨rfl,_⟩:=o2;obtain⟨us,hu⟩:=mR rs ts t (λx hx=>h1 x<|Ai _ hx) (λx hx=>h2 x<|Ai _ hx)<|aBR h;exact⟨us,by rw[hu];rfl⟩
def aC5{lg:A1}{fo:Int}:DH lg fo=Y↔lg.size<=2400/\ ∃rs ts,I1 (rs++ts)/\L lg=cat (rs++ts)/\fo=((cat rs).length:Int):=by
 unfold DH;simp only[AD,decide_eq_true_eq];constructor
 .rintro⟨h1,h2,h3,h4⟩;have h2:=Aa.1 h2;obtain⟨a1,a2,t,a3⟩:=jv lg;obtain⟨b1,b2,t',b3⟩:=jv<|lg.extract 0 fo.toNat;have ht:t=[]:=by
   have e:=congrArg JP a3;rw[Aw,Au]at e;exact Dw J
  rw[ht,CJ]at a3;have hz:(lg.extract 0 fo.toNat).size=fo.toNat:=by rw[G7 J];omega
  have ht':t'=[]:=by
   have e:=congrArg JP b3;rw[Aw,Au,hz]at e;exact Dw J
  rw[ht',CJ]at b3;have hp:cat (D4 lg).1=cat (D4<|lg.extract 0 fo.toNat).1++(L lg).drop fo.toNat:=by
   rw[← a3,← b3,EA,JR,Ik,JK]
  obtain⟨us,hu⟩:=mR _ _ _ a1 b1 hp;refine⟨h1,(D4<|lg.extract 0 fo.toNat).1,us,by rw[← hu];exact a1,by rw[← hu];exact a3, ?_⟩;rw[← b2];exact h4.symm
 .rintro⟨h1,rs,ts,h2,h3,rfl⟩;have hsz:lg.size=(cat rs).length+(cat ts).length:=by rw[← Aw,h3,KT,Au]
  have hrs:I1 rs:=λr hr=>h2 r<|Bv _ hr;have he:L (lg.extract 0 (cat rs).length)=cat rs:=by
   rw[EA,h3,KT,JR,Ik,Oe rfl]
  have e1:=XB h2 h3;have e2:=XB hrs he;refine⟨h1,Aa.2 ⟨J,J⟩,by rw[e1], ?_⟩;rw[Bc,e2];simp only;rw[← Aw,he]
def Dj(k:AJ):Prop:=∀n∈k.held,∀m∈k.inbox,¬(n.fr=m.fr/\n.nu=m.nu)
def SS{l:List A3}{f n:Int}(h:AX l f n<0):∀x∈l,¬(x.fr=f/\x.nu=n):=by
 intro x hx hc;obtain⟨_,h2⟩|⟨i,h1,_⟩:=G6 l.length (λi=>U ((nA l i).fr=f)&&U ((nA l i).nu=n))
 .obtain⟨j,hj,rfl⟩:=D0 hx;have:=h2 j hj;rw[DT<|Av hj]at this;simp[hc.1,hc.2]at this
 .unfold AX at h;omega
def Wv{l:List A3}{f n:Int}(h:∀x∈l,¬(x.fr=f/\x.nu=n)):AX l f n= -1:=by
 obtain h1|h1:=aAu l f n
 .exact h1
 .obtain⟨h2,_,h3,h4⟩:=FG h1;exact absurd ⟨h3,h4⟩<|h _<|I3 h2
def l6{l:List Mark}{f n:Int}(h:Bo l f n<0):∀x∈l,¬(x.mf=f/\x.mn=n):=by
 intro x hx hc;obtain⟨_,h2⟩|⟨i,h1,_⟩:=G6 l.length (λi=>U ((mA l i).mf=f)&&U ((mA l i).mn=n))
 .obtain⟨j,hj,rfl⟩:=D0 hx;have:=h2 j hj;rw[Fc<|Av hj]at this;simp[hc.1,hc.2]at this
 .unfold Bo at h;omega
def Yx{l:List Mark}{j:Nat}(h:j<l.length):mA l j∈l:=by
 rw[Fc<|Av h];exact Cd h
def jk{l:List Mark}{f n:Int}(h:∀x∈l,¬(x.mf=f/\x.mn=n)):Bo l f n= -1:=by
 obtain⟨h1,_⟩|⟨i,_,h2,h3,_⟩:=G6 l.length (λi=>U ((mA l i).mf=f)&&U ((mA l i).mn=n))
 .exact h1
 .simp only[AD,decide_eq_true_eq]at h3;exact absurd h3<|h _<|Yx h2
def aEq{k o:AJ}{n:A3}(h:Ed k n=I o)(hd:Dj k):Dj o:=by
 unfold Ed at h;split at h
 .cases h
 split at h
 .cases h
 split at h
 .cases h
 rename_i h1;split at h
 .cases h
 rename_i h2;split at h
 .cases h
 split at h
 .cases h
 have a1:=SS (l:=k.held) (f:=n.fr) (n:=n.nu) (by simpa using h1);have a2:=SS (l:=k.inbox) (f:=n.fr) (n:=n.nu) (by simpa using h2);split at h<;>cases h
 .intro x hx m hm;obtain rfl|hm:=GX _ hm
  .exact a1 x hx
  .exact hd x hx m hm
 .intro x hx m hm;obtain rfl|hx:=GX _ hx
  .exact λhc=>a2 m hm ⟨hc.1.symm,hc.2.symm⟩
  .exact hd x hx m hm
def O4{l:List A3}{i:Nat}{x:A3}(h:x∈ER l i):x∈l:=by
 unfold ER at h;obtain h|h:=BM.1 h
 .exact IF h
 .exact Kq h
def avW{k o:AJ}{w:A1}{n:Int}(h:Hb k w n=I o)(hd:Dj k):Dj o:=by
 unfold Hb at h;split at h
 .cases h;intro x hx m hm;exact hd x (FP.1 hx).1 m hm
 split at h
 .cases h;exact hd
 .cases h
def aqb{k o:AJ}{w:A1}{n:A3}(h:G9 k w n=I o)(hd:Dj k):Dj o:=by
 unfold G9 at h;split at h
 .exact aEq h hd
 split at h
 .exact aEq h hd
 split at h
 .cases h
 rename_i hn;simp only[C1,decide_eq_true_eq,not_or]at hn;have a1:=SS (l:=k.held) (f:=n.fr) (n:=n.nu) J;have a2:=SS (l:=k.inbox) (f:=n.fr) (n:=n.nu) J;split at h
 .cases h;intro x hx m hm;obtain rfl|hx:=GX _ hx
  .exact λhc=>a2 m hm ⟨hc.1.symm,hc.2.symm⟩
  .exact hd x hx m hm
 split at h
 .cases h;intro x hx m hm;obtain rfl|hm:=GX _ hm
  .exact a1 x hx
  .exact hd x hx m hm
 .cases h
def aqe{k o:AJ}{w:A1}{m:Mark}(h:En k w m=I o)(hd:Dj k):Dj o:=by
 unfold En at h;split at h
 .cases h;exact λx hx m hm=>hd x (O4 hx) m hm
 split at h
 .cases h;exact λx hx m hm=>hd x hx m<|O4 hm
 split at h
 .cases h;exact hd
 .cases h
def atF{k o:AJ}{w r:A1}(h:BX k w r=I o)(hd:Dj k):Dj o:=by
 unfold BX at h;split at h
 .split at h
  .exact avW h hd
  .cases h
 split at h
 .split at h
  .exact aqb h hd
  .cases h
 split at h
 .split at h
  .exact aqe h hd
  .cases h
 .cases h
def Ht{k o:AJ}{r:A1}(hk:At k=Y):BJ k r=I o↔GC k r=I o/\At o=Y:=by
 unfold BJ FL;simp only[hk,A2];constructor
 .intro h;cases hf:(GC k r).filter At with
  | none=>rw[hf]at h;cases h
  | some o'=>
   rw[hf]at h;cases h;exact JL.1 hf
 .intro h;rw[JL.2 h];rfl
def au9{k o:AJ}{r:A1}(hk:At k=Y)(h:BJ k r=I o)(hd:Dj k):Dj o:=by
 have h1:=((Ht hk).1 h).1;unfold GC at h1;split at h1
 .cases h1
 .exact atF h1 hd
def aBE:∀ {rs:List A1} {k o:AJ},At k=Y->Dj k->Em k rs=I o->Dj o
 | [],k,o,_,hd,h=>by cases h;exact hd
 | r::rs,k,o,hk,hd,h=>by
  unfold Em at h;rw[TF]at h;cases hs:BJ k r with
  | none=>rw[hs]at h;cases h
  | some k'=>rw[hs]at h;exact aBE (rs:=rs) (Sb hs) (au9 hk hs hd) h
def aCi{id:Int}{rs:List A1}{o:AJ}(h:CZ id rs=I o):Dj o:=by
 unfold CZ at h;split at h
 .exact aBE (Rx<|by assumption) (λn hn=>by cases hn) h
 .cases h
def ML(k:AJ)(rs ts:List A1):Em k (rs++ts)=(Em k rs).bind λo=>Em o ts:=List.foldlM_append
def S1(k:AJ)(r:A1):Em k [r]=BJ k r:=by
 unfold Em;rw[TF];cases BJ k r<;>rfl
def FX(t:Int):A1:=B [116,105,109,101,32]++BW t
def KZ(n:Int):A1:=B [110,101,120,116,32]++BW n
def CY(w:A1)(a b c:Int):A1:=((((((w++B [32])++BW a)++B [32])++BW b)++B [32])++BW c)
def Md(n:A3):A1:=B [104,101,108,100,32]++wr n
def MX(n:A3):A1:=B [105,110,98,111,120,32]++wr n
def C9(k:AJ):List A1:=
 ((((if 0<k.ti then [FX k.ti] else [])++(if 1<k.nx then [KZ k.nx] else []))++k.marks.map λm=>CY D3 m.mf m.mn m.mu)++k.held.map Md)++k.inbox.map MX
def Hx{k:AJ}{rec:A1}{w r:List UInt8}(hw:CU w)(e:L rec=w++32::r):GC k rec=BX k (B w) (B r):=by
 unfold GC;rw[e,Sv hw,Kk hw e];rfl
def jR{k:AJ}{t:Int}(h0:0<=t)(h1:t<100000)(h:k.ti<t):BX k E0 (B<|B3 t)=I ⟨k.id,t,k.nx,Gy t k.held,Jn t k.marks,k.inbox⟩:=by
 unfold BX Hb;simp only[J1 h0 h1,Bt,A2,AP,h,AT]
def aq4{k:AJ}{n:Int}(h0:0<=n)(h1:n<100000)(h:k.nx<n):BX k Ep (B<|B3 n)=I ⟨k.id,k.ti,n,k.held,k.marks,k.inbox⟩:=by
 unfold BX Hb;simp[xZ,J1 h0 h1,DL,A2,AM,AP,h,AT,A4]
def aq5{k:AJ}{m:Mark}{r:A1}(ht:Gv r=I m)(h:Bo k.marks m.mf m.mn<0):BX k D3 r=I ⟨k.id,k.ti,k.nx,k.held,ED k.marks m,k.inbox⟩:=by
 have e:U (0<=Bo k.marks m.mf m.mn)=A0:=by simp;omega
 unfold BX En;simp[gG,gI,gj,gH,gJ,sE,gk,gn,GM,Bk,DL,A2,A4,ht,AM,AP,e,AG]
def aq6{k:AJ}{n:A3}(hn:Ax n=Y)(h1:AX k.held n.fr n.nu<0)(h2:AX k.inbox n.fr n.nu<0):BX k EN (wr n)=I ⟨k.id,k.ti,k.nx,Du k.held n,k.marks,k.inbox⟩:=by
 have e1:U (0<=AX k.held n.fr n.nu)=A0:=by simp;omega
 have e2:U (0<=AX k.inbox n.fr n.nu)=A0:=by simp;omega
 unfold BX G9;simp[xb,xd,ze,xc,GM,Bk,Bt,A2,A4,Ph hn,AM,e1,e2]
def apZ{k:AJ}{n:A3}(hn:Ax n=Y)(h1:AX k.held n.fr n.nu<0)(h2:AX k.inbox n.fr n.nu<0):BX k EY (wr n)=I ⟨k.id,k.ti,k.nx,k.held,k.marks,Du k.inbox n⟩:=by
 have e1:U (0<=AX k.held n.fr n.nu)=A0:=by simp;omega
 have e2:U (0<=AX k.inbox n.fr n.nu)=A0:=by simp;omega
 unfold BX G9;simp[xO,xQ,xa,xP,xR,GM,Bk,DL,A2,A4,Ph hn,AM,e1,e2]
def jb:CU [116,105,109,101]:=by unfold CU;decide
def arC:CU [110,101,120,116]:=by unfold CU;decide
def arD:CU [109,97,114,107]:=by unfold CU;decide
def arE:CU [104,101,108,100]:=by unfold CU;decide
def aqm:CU [105,110,98,111,120]:=by unfold CU;decide
def XL(t:Int):L (FX t)=[116,105,109,101]++32::B3 t:=by unfold FX;simp only[GI,L_B,TY];rfl
def aCZ(t:Int):L (KZ t)=[110,101,120,116]++32::B3 t:=by unfold KZ;simp only[GI,L_B,TY];rfl
def SA(w:A1)(a b c:Int):L (CY w a b c)=L w++32::(B3 a++32::(B3 b++32::B3 c)):=by
 unfold CY;simp only[GI,L_B,TY,C2,Kr,EU]
def aCa(n:A3):L (Md n)=[104,101,108,100]++32::L (wr n):=by unfold Md;simp only[GI,L_B];rfl
def aBk(n:A3):L (MX n)=[105,110,98,111,120]++32::L (wr n):=by unfold MX;simp only[GI,L_B];rfl
def Nz{k:AJ}(h:Ek k):At k=Y:=by
 have a:=h.hl;have b:=h.ml;have c:=h.il;unfold At;simp only[AD,Aa,decide_eq_true_eq,Cp];exact⟨⟨h.id0,h.id1⟩,⟨h.t0,h.t1⟩,⟨h.n0,h.n1⟩,⟨J,h.h⟩,⟨J,h.m⟩,⟨J,h.i⟩,h.ho,h.mo,h.io⟩
def Xu{l:List A3}{a i:Nat}(h:i<a):nA (l.take a) i=nA l i:=by
 unfold nA;simp[B9,h]
def mj{l:List Mark}{a i:Nat}(h:i<a):mA (l.take a) i=mA l i:=by
 unfold mA;simp[B9,h]
def aA3{l:List A3}(h:DI l=Y)(a:Nat):DI (l.take a)=Y:=by
 refine Cp.2 λi hi=> ?_;rw[Dh]at hi;have:=Cp.1 h i J;rw[Xu J,Xu J];exact this
def apU{l:List Mark}(h:FH l=Y)(a:Nat):FH (l.take a)=Y:=by
 refine Cp.2 λi hi=> ?_;rw[Dh]at hi;have:=Cp.1 h i J;rw[mj J,mj J];exact this
def aAg{l:List Mark}(h:FH l=Y):∀(j i:Nat),i<j->j<l.length->bef (mA l i).mf (mA l i).mn (mA l j).mf (mA l j).mn=Y
 | j+1,i,hij,hj=>by
  have h1:=Cp.1 h (j+1) hj;simp only[AD,C1,decide_eq_true_eq]at h1;have h2:bef (mA l j).mf (mA l j).mn (mA l<|j+1).mf (mA l<|j+1).mn=Y:=h1.2.resolve_left J;obtain h3|h3:=HA i j
  .exact SP (aAg h j i h3 J) h2
  .rwa[show i=j by omega]
def Px{k:AJ}(hf:Ek k)(a b c:Nat)(hc:c=0\/k.marks.length<=b):Ek ⟨k.id,k.ti,k.nx,k.held.take a,k.marks.take b,k.inbox.take c⟩:=by
 have hl:=hf.hl;have ml:=hf.ml;have il:=hf.il;refine⟨hf.id0,hf.id1,hf.t0,hf.t1,hf.n0,hf.n1,by simp;omega,aA3 hf.h a,by simp;omega,apU hf.m b,by simp;omega,aA3 hf.i c,λi hi=> ?_,λi hi=> ?_,λi hi=> ?_⟩
 .simp only[Dh]at hi;have:=hf.ho i J;unfold Gx at this ⊢;simp only[AD,decide_eq_true_eq]at this ⊢;rw[Xu J];refine⟨this.1,this.2.1,this.2.2.1, ?_⟩;rw[jk λx hx=>l6 this.2.2.2 x<|IF hx];omega
 .simp only[Dh]at hi;have:=hf.mo i J;unfold J4 at this ⊢;rw[mj J];exact this
 .simp only[Dh]at hi;obtain hc|hc:=hc
  .omega
  .have:=hf.io i J;simp only;rw[K4 hc];unfold IY at this ⊢;rw[Xu J];exact this
def mT{α:Type}{f:α->Bool}{l:List α}{n:α}(h:∀x∈l,f x=Y):ins f l n=l++[n]:=by
 unfold ins;have h1:l.takeWhile f=l:=by
  induction l with
  | nil=>rfl
  | cons x l ih=>rw[QR,h x An];simp only[A2];rw[ih λy hy=>h y<|Ai _ hy]
 have h2:l.dropWhile f=[]:=by
  induction l with
  | nil=>rfl
  | cons x l ih=>rw[lQ,h x An];simp only[A2];exact ih (λy hy=>h y<|Ai _ hy) (by
    have:=h1;rw[QR,h x An]at this;simpa using this)
 rw[h1,h2]
def MU{α:Type}{l:List α}{j:Nat}(h:j<l.length):l.take (j+1)=l.take j++[l[j]]:=by
 rw[JJ,Av h];rfl
def uy{k:AJ}(hk:At k=Y)(hd:Dj k):CZ k.id (C9 k)=I k:=by
 have hf:=C3 hk;have hid:isN k.id=Y:=Aa.2 ⟨hf.id0,hf.id1⟩;have t0:=hf.t0;have t1:=hf.t1;have n0:=hf.n0;have n1:=hf.n1;have kT:At ⟨k.id,k.ti,1,[],[],[]⟩=Y:=by
  refine Nz ⟨hf.id0,hf.id1,t0,t1,(by decide:(1:Int)<=1),(by decide:(1:Int)<=100),by simp,rfl,by simp,rfl,by simp,rfl,λi hi=>by simp at hi,λi hi=>by simp at hi,λi hi=>by simp at hi⟩
 have kN:At ⟨k.id,k.ti,k.nx,[],[],[]⟩=Y:=by
  refine Nz ⟨hf.id0,hf.id1,t0,t1,n0,n1,by simp,rfl,by simp,rfl,by simp,rfl,λi hi=>by simp at hi,λi hi=>by simp at hi,λi hi=>by simp at hi⟩
 have s1:Em ⟨k.id,0,1,[],[],[]⟩ (if 0<k.ti then [FX k.ti] else [])=I ⟨k.id,k.ti,1,[],[],[]⟩:=by
  by_cases h:0<k.ti
  .rw[A5 h,S1,(Ht<|Rx hid).2 ⟨?_,kT⟩];rw[Hx jb<|XL _];exact jR t0 J h
  .rw[A8 h,show k.ti=0 by omega];rfl
 have s2:Em ⟨k.id,k.ti,1,[],[],[]⟩ (if 1<k.nx then [KZ k.nx] else [])=I ⟨k.id,k.ti,k.nx,[],[],[]⟩:=by
  by_cases h:1<k.nx
  .rw[A5 h,S1,(Ht kT).2 ⟨?_,kN⟩];rw[Hx arC<|aCZ _];exact aq4 J J h
  .rw[A8 h,show k.nx=1 by omega];rfl
 have s3:∀j,j<=k.marks.length->Em ⟨k.id,k.ti,k.nx,[],[],[]⟩ ((k.marks.take j).map λm=>CY D3 m.mf m.mn m.mu)=I ⟨k.id,k.ti,k.nx,[],k.marks.take j,[]⟩:=by
  intro j
  induction j with
  | zero=>intro _;rfl
  | succ j ih=>
   intro hj;have hjl:j<k.marks.length:=J
   have hm:=SG hf.m hjl;rw[Fc<|Av hjl]at hm;have hr:=OC hm;have g1:=Nz<|Px hf 0 j 0<|.inl rfl;have g2:=Nz<|Px hf 0 (j+1) 0<|.inl rfl;have g3:At ⟨k.id,k.ti,k.nx,[],k.marks.take j++[k.marks[j]'hjl],[]⟩=Y:=by
    rw[← MU hjl];simpa using g2
   have NP:∀x∈k.marks.take j,bef x.mf x.mn k.marks[j].mf k.marks[j].mn=Y:=λx hx=>by
    obtain⟨i,hi,rfl⟩:=D0 hx;rw[Dh]at hi;have:=aAg hf.m j i J hjl;rw[Fc<|Av hjl,Fc<|Av (by omega:i<k.marks.length)]at this;simpa using this
   rw[MU hjl,Eg,ML,ih J];simp only[A6,DM,JQ];rw[S1,(Ht<|by simpa using g1).2 ⟨?_,g3⟩];have h3:=YO (r:=B<|B3 (k.marks[j]'hjl).mf++32::(B3 (k.marks[j]'hjl).mn++32::B3 (k.marks[j]'hjl).mu)) (a:=(k.marks[j]'hjl).mf) (b:=(k.marks[j]'hjl).mn) (c:=(k.marks[j]'hjl).mu) J J J J J J<|L_B _;rw[Hx arD<|SA _ _ _ _,aq5 h3 ?_]
   .simp only;rw[show ED (k.marks.take j) k.marks[j]=k.marks.take j++[k.marks[j]] from mT NP]
   .simp only;rw[jk λx hx hc=>by
     have:=NP x hx;rw[hc.1,hc.2,OS]at this;cases this]
    omega
 have s4:∀j,j<=k.held.length->Em ⟨k.id,k.ti,k.nx,[],k.marks,[]⟩ ((k.held.take j).map Md)=I ⟨k.id,k.ti,k.nx,k.held.take j,k.marks,[]⟩:=by
  intro j
  induction j with
  | zero=>intro _;rfl
  | succ j ih=>
   intro hj;have hjl:j<k.held.length:=J
   have hm:=Gs hf.h hjl;rw[DT<|Av hjl]at hm;have g1:=Nz<|Px hf j k.marks.length 0<|.inl rfl;have g2:=Nz<|Px hf (j+1) k.marks.length 0<|.inl rfl;rw[E5]at g1 g2;have g3:At ⟨k.id,k.ti,k.nx,k.held.take j++[k.held[j]'hjl],k.marks,[]⟩=Y:=by
    rw[← MU hjl];simpa using g2
   have NP:∀x∈k.held.take j,bef x.fr x.nu k.held[j].fr k.held[j].nu=Y:=λx hx=>by
    obtain⟨i,hi,rfl⟩:=D0 hx;rw[Dh]at hi;have:=Rz hf.h j i J hjl;rw[DT<|Av hjl,DT<|Av (by omega:i<k.held.length)]at this;simpa using this
   rw[MU hjl,Eg,ML,ih J];simp only[A6,DM,JQ];rw[S1,(Ht<|by simpa using g1).2 ⟨?_,g3⟩];rw[Hx arE<|aCa _,B_L,aq6 hm ?_ ?_]
   .simp only;rw[show Du (k.held.take j) k.held[j]=k.held.take j++[k.held[j]] from mT NP]
   .simp only;rw[Wv λx hx hc=>by
     have:=NP x hx;rw[hc.1,hc.2,OS]at this;cases this]
    omega
   .simp only;rw[Wv λx hx=>by cases hx];omega
 have s5:∀j,j<=k.inbox.length->Em ⟨k.id,k.ti,k.nx,k.held,k.marks,[]⟩ ((k.inbox.take j).map MX)=I ⟨k.id,k.ti,k.nx,k.held,k.marks,k.inbox.take j⟩:=by
  intro j
  induction j with
  | zero=>intro _;rfl
  | succ j ih=>
   intro hj;have hjl:j<k.inbox.length:=J
   have hm:=Gs hf.i hjl;rw[DT<|Av hjl]at hm;have g1:=Nz<|Px hf k.held.length k.marks.length j<|.inr<|Ar _;have g2:=Nz<|Px hf k.held.length k.marks.length (j+1)<|.inr<|Ar _;rw[E5,E5]at g1 g2;have g3:At ⟨k.id,k.ti,k.nx,k.held,k.marks,k.inbox.take j++[k.inbox[j]'hjl]⟩=Y:=by
    rw[← MU hjl];simpa using g2
   have NP:∀x∈k.inbox.take j,bef x.fr x.nu k.inbox[j].fr k.inbox[j].nu=Y:=λx hx=>by
    obtain⟨i,hi,rfl⟩:=D0 hx;rw[Dh]at hi;have:=Rz hf.i j i J hjl;rw[DT<|Av hjl,DT<|Av (by omega:i<k.inbox.length)]at this;simpa using this
   rw[MU hjl,Eg,ML,ih J];simp only[A6,DM,JQ];rw[S1,(Ht<|by simpa using g1).2 ⟨?_,g3⟩];rw[Hx aqm<|aBk _,B_L,apZ hm ?_ ?_]
   .simp only;rw[show Du (k.inbox.take j) k.inbox[j]=k.inbox.take j++[k.inbox[j]] from mT NP]
   .simp only;rw[Wv λx hx=>hd x hx _<|Cd hjl];omega
   .simp only;rw[Wv λx hx hc=>by
     have:=NP x hx;rw[hc.1,hc.2,OS]at this;cases this]
    omega
 have e3:=s3 k.marks.length<|Ar _;have e4:=s4 k.held.length<|Ar _;have e5:=s5 k.inbox.length<|Ar _;rw[E5]at e3 e4 e5;unfold CZ C9;rw[A5 hid,ML,ML,ML,ML,s1];simp only[A6,s2,e3,e4,e5]
structure C6 (lg:A1) (fo:Int) (rs ts:List A1):Prop where
 ok:I1 (rs++ts)
 sz:lg.size<=2400
 eq:L lg=cat (rs++ts)
 fo:fo=((cat rs).length:Int)
def abN{lg:A1}{fo:Int}(h:DH lg fo=Y):∃rs ts,C6 lg fo rs ts:=by
 obtain⟨h1,rs,ts,h2,h3,h4⟩:=aC5.1 h;exact⟨rs,ts,h2,h1,h3,h4⟩
def C6.oA{lg:A1}{fo:Int}{rs ts:List A1}(h:C6 lg fo rs ts):DH lg fo=Y:=
 aC5.2 ⟨h.sz,rs,ts,h.ok,h.eq,h.fo⟩
def C6.read{lg:A1}{fo:Int}{rs ts:List A1}(h:C6 lg fo rs ts):D4 lg=(rs++ts,lg.size):=XB h.ok h.eq
def aAd{rs ts:List A1}(h:I1 (rs++ts)):I1 rs:=λr hr=>h r<|Bv _ hr
def C6.azO{lg:A1}{fo:Int}{rs ts:List A1}(h:C6 lg fo rs ts):L (lg.extract 0 fo.toNat)=cat rs:=by
 rw[EA,h.eq,h.fo,Bc,KT,JR,Ik,Oe rfl]
def C6.axz{lg:A1}{fo:Int}{rs ts:List A1}(h:C6 lg fo rs ts):(D4<|lg.extract 0 fo.toNat).1=rs:=by
 rw[XB (aAd h.ok) h.azO]
def C6.size_eq{lg:A1}{fo:Int}{rs ts:List A1}(h:C6 lg fo rs ts):lg.size=(cat rs).length+(cat ts).length:=by
 rw[← Aw,h.eq,KT,Au]
def C6.state{lg:A1}{fo:Int}{rs ts:List A1}(h:C6 lg fo rs ts)(id:Int):DS id lg=CZ id (rs++ts):=by
 unfold DS;rw[h.read]
def C6.abo{lg:A1}{fo:Int}{rs ts:List A1}(h:C6 lg fo rs ts)(id:Int):DS id (lg.extract 0 fo.toNat)=CZ id rs:=by
 unfold DS;rw[h.axz]
def WN(id:Int)(rs ts:List A1):CZ id (rs++ts)=(CZ id rs).bind λk=>Em k ts:=by
 unfold CZ;split
 .exact ML _ _ _
 .rfl
def aBB(id:Int)(rs:List A1)(r:A1):CZ id (rs++[r])=(CZ id rs).bind λk=>BJ k r:=by
 rw[WN];congr 1;funext k;exact S1 k r
def aAh{id:Int}{rs ts:List A1}(h:(CZ id<|rs++ts).isSome=Y):(CZ id rs).isSome=Y:=by
 rw[WN]at h;cases e:CZ id rs with
 | none=>rw[e]at h;exact h
 | some k=>rfl
def C6.add{lg r:A1}{fo:Int}{rs ts:List A1}(h:C6 lg fo rs ts)(h1:1<=r.size)(h2:r.size<=60)(h3:lg.size+(Cv r).size<=2400):C6 (lg++Cv r) fo rs (ts++[r]):=by
 refine⟨?_, ?_, ?_,h.fo⟩
 .intro x hx;rw[← C2]at hx;obtain hx|hx:=BM.1 hx
  .exact h.ok x hx
  .rw[CL.1 hx];exact⟨h1,h2⟩
 .rw[← Aw,GI,Au,Aw,Aw];exact h3
 .rw[GI,h.eq,← C2,KT (rs++ts) [r]];congr 1;rw[Hv,Jh,CJ]
def C6.force{lg:A1}{fo:Int}{rs ts:List A1}(h:C6 lg fo rs ts):C6 lg (lg.size:Int) (rs++ts) []:=by
 refine⟨by simpa using h.ok,h.sz,by simpa using h.eq, ?_⟩;rw[← Aw,h.eq]
def C6.pack{lg:A1}{rs:List A1}(h:I1 rs)(e:L lg=cat rs)(hz:lg.size<=2400):C6 lg (lg.size:Int) rs []:=by
 refine⟨by simpa using h,hz,by simpa using e, ?_⟩;rw[← Aw,e]
def aDH{log:A1}:∀(qs:List A1) (f:Nat) (out:List A1) (at_:Nat) (t:List UInt8),I1 qs->(L log).drop at_=cat qs++t->at_<=log.size->log.size<at_+f->
  ∃f',Er log f out at_=Er log f' (out++qs) (at_+(cat qs).length)/\at_+(cat qs).length<=log.size
 | [],f,out,at_,t,_,_,h3,_=>⟨f,by simp[Jh],by simpa[Jh] using h3⟩
 | r::qs,0,out,at_,t,_,_,h3,h4=>J
 | r::qs,f+1,out,at_,t,h1,h2,h3,h4=>by
  have hr:=h1 r An;rw[Hv,C2]at h2;have hlen:log.size - at_=(Cv r).size+(cat qs++t).length:=by
   have e:=congrArg JP h2;rwa[EF,Aw,Au,Aw]at e
  have hp:=Wf r;have DA:De (log.extract at_ log.size)=I (r,(Cv r).size):=by
   refine Xe (t:=cat qs++t) ?_ hr.1 hr.2;rw[EA,h2];refine K4 ?_;rw[Au,Aw];omega
  obtain⟨f',g1,g2⟩:=aDH (log:=log) qs f (out++[r]) (at_+(Cv r).size) t (λx hx=>h1 x<|Ai _ hx) (by
   rw[← Iq,h2,QN<|by rw[Aw]]) J J
  refine⟨f', ?_, ?_⟩
  .conv=>lhs;unfold Er
   rw[A5 J,DA];simp only;rw[g1];simp only[Hv,Au,Aw,C2,Kr,EU,D8]
  .simp only[Hv,Au,Aw];omega
def arU{log:A1}{qs:List A1}{t:List UInt8}(h:I1 qs)(e:L log=cat qs++t):∃us,(D4 log).1=qs++us:=by
 obtain⟨f',g1,g2⟩:=aDH (log:=log) qs (log.size+1) [] 0 t h (by simpa using e) (D1 _) J;obtain⟨us,k1,_⟩:=kt (log:=log) f' ([]++qs) (0+(cat qs).length) g2;refine⟨us, ?_⟩;show(Er log (log.size+1) [] 0).1=_;rw[g1,k1];rfl
def C6.U4{lg:A1}{fo:Int}{rs ts:List A1}(h:C6 lg fo rs ts)(n:Nat)(hn:(cat rs).length<=n):
  ∃us vs,ts=us++vs/\C6 ((lg.extract 0 n).extract 0 (D4<|lg.extract 0 n).2) ((D4<|lg.extract 0 n).2:Int) (rs++us) []:=by
 obtain⟨a1,a2,t,a3⟩:=jv<|lg.extract 0 n;have e0:L (lg.extract 0 n)=(cat<|rs++ts).take n:=by rw[EA,h.eq,JR,Ik]
 have e:cat (rs++ts)=cat (D4<|lg.extract 0 n).1++(t++(cat<|rs++ts).drop n):=by
  rw[← C2,← a3,e0,JK]
 obtain⟨vs,hv⟩:=mR _ _ _ h.ok a1 e;obtain⟨us,hu⟩:=arU (log:=lg.extract 0 n) (qs:=rs) (t:=(cat ts).take<|n - (cat rs).length) (aAd h.ok) (by
  rw[e0,KT,List.take_append,K4 hn])
 rw[hu]at hv a1 a2 a3;rw[C2]at hv;refine⟨us,vs,aBR hv,by simpa using a1, ?_, ?_,by rw[a2]⟩
 .have:=h.sz;rw[← Aw,EA,EA];simp only[Dh,EF,Aw];omega
 .rw[EA,a3,a2,JR,Ik,Oe rfl,CJ]
def La{x:Int}(h0:0<=x)(k:Nat)(hk:1<=k)(h:x<(10 ^ k:Nat)):(B3 x).length<=k:=by
 obtain⟨u,rfl⟩:=HB h0;rw[J5];exact Lf k u hk<|by exact_mod_cast h
def Qb{n:A3}(h:Ax n=Y):(wr n).size<=35:=by
 obtain⟨f0,f1,t0,t1,n0,n1,u0,u1,s0,s1⟩:=IX h;have a:=La f0 1 J J;have b:=La (J:0<=n.nu) 2 J J;have c:=La t0 1 J J;have d:=La (J:0<=n.un) 3 J J;rw[← Aw,Qt];unfold wrL;simp only[Au,Bj,Aw];omega
def atj{r:A1}{m:Mark}(h:Gv r=I m):r.size<=17:=by
 unfold Gv at h;have hj:=iy ((L r).count 32)<|L r;have hn:∀ {p:List UInt8},(Aq<|B p).2=Y->p.length<=5:=fun {p} hp=>by
  obtain h1|⟨n,_,h2,_⟩:=S5 (B p)
  .rw[h1]at hp;cases hp
  .exact h2
 split at h
 .rename_i p q t hp;rw[hp]at hj;split at h
  .rename_i hc;simp only[AD]at hc;have h1:=hn hc.1;have h2:=hn hc.2.1;have h3:=hn hc.2.2.1;have hj2:p++32::(q++32::t)=L r:=hj;rw[← Aw,← hj2];simp only[Au,Bj];omega
  .cases h
 .cases h
def atD{k o:AJ}{w r:A1}(h:BX k w r=I o):w.size<=5/\r.size<=35:=by
 unfold BX at h;split at h
 .rename_i hw;simp only[C1,decide_eq_true_eq]at hw;split at h
  .rename_i hr;refine⟨by obtain rfl|rfl:=hw<;>decide, ?_⟩;obtain h1|⟨n,_,h2,_⟩:=S5 r
   .rw[h1]at hr;cases hr
   .omega
  .cases h
 split at h
 .rename_i hw;simp only[C1,decide_eq_true_eq]at hw;cases hn:DC r with
  | none=>rw[hn]at h;cases h
  | some n=>
   obtain⟨h1,h2⟩:=Jf hn;refine⟨by obtain rfl|rfl|rfl|rfl:=hw<;>decide, ?_⟩;rw[← h2];exact Qb h1
 split at h
 .rename_i hw;simp only[C1,decide_eq_true_eq]at hw;cases hn:Gv r with
  | none=>rw[hn]at h;cases h
  | some n=>
   refine⟨by obtain rfl|rfl|rfl:=hw<;>decide, ?_⟩;have:=atj hn;omega
 .cases h
def lA{k o:AJ}{r:A1}(hk:At k=Y)(h:BJ k r=I o):1<=r.size/\r.size<=60:=by
 have h:=((Ht hk).1 h).1;obtain hs|⟨w,t,hs,e⟩:=LZ (L r)
 .unfold GC at h;rw[Su hs]at h;cases h
 .rw[Hx hs e]at h;have:=atD h;have hw:(B w).size=w.length:=rfl;have ht:(B t).size=t.length:=rfl;rw[← Aw,e];simp only[Au,Bj];omega
def TZ{rs:List A1}{c:Nat}(h:∀r∈rs,(Cv r).size<=c):(cat rs).length<=rs.length * c:=by
 induction rs with
 | nil=>simp[Jh]
 | cons r rs ih=>
  have:=ih λx hx=>h x<|Ai _ hx;have:=h r An;rw[Hv,Au,Aw,Bj,Nat.succ_mul];omega
def MV{r:A1}(h:r.size<=60):(Cv r).size<=r.size+4:=by
 rw[WM];have:=aa6 h;omega
def W9{k:AJ}(hk:At k=Y):I1 (C9 k)/\(cat<|C9 k).length<=800:=by
 have hf:=C3 hk;have t1:=hf.t1;have n1:=hf.n1;have hl:=hf.hl;have ml:=hf.ml;have il:=hf.il;have sT:∀r∈(if 0<k.ti then [FX k.ti] else []),1<=r.size/\r.size<=8:=by
  intro r hr;split at hr
  .rw[CL.1 hr,← Aw,XL];have:=La hf.t0 3 J J;simp only[Au,Bj,CO];omega
  .cases hr
 have sN:∀r∈(if 1<k.nx then [KZ k.nx] else []),1<=r.size/\r.size<=8:=by
  intro r hr;split at hr
  .rw[CL.1 hr,← Aw,aCZ];have:=La (show 0<=k.nx by have:=hf.n0;omega) 3 J J;simp only[Au,Bj,CO];omega
  .cases hr
 have sM:∀r∈k.marks.map (λm=>CY D3 m.mf m.mn m.mu),1<=r.size/\r.size<=13:=by
  intro r hr;obtain⟨m,hm,rfl⟩:=Bu.1 hr;obtain⟨i,hi,rfl⟩:=D0 hm;have:=OC<|SG hf.m hi;rw[Fc<|Av hi]at this;have a:=La this.1 1 J J;have b:=La (J:0<=k.marks[i].mn) 2 J J;have c:=La (J:0<=k.marks[i].mu) 3 J J;rw[← Aw,SA];simp only[Au,Bj,L_B,CO];omega
 have sH:∀r∈k.held.map Md,1<=r.size/\r.size<=40:=by
  intro r hr;obtain⟨m,hm,rfl⟩:=Bu.1 hr;obtain⟨i,hi,rfl⟩:=D0 hm;have:=Gs hf.h hi;rw[DT<|Av hi]at this;have:=Qb this;rw[← Aw,aCa];simp only[Au,Bj,Aw,CO];omega
 have sI:∀r∈k.inbox.map MX,1<=r.size/\r.size<=41:=by
  intro r hr;obtain⟨m,hm,rfl⟩:=Bu.1 hr;obtain⟨i,hi,rfl⟩:=D0 hm;have:=Gs hf.i hi;rw[DT<|Av hi]at this;have:=Qb this;rw[← Aw,aBk];simp only[Au,Bj,Aw,CO];omega
 refine⟨?_, ?_⟩
 .intro r hr;unfold C9 at hr;simp only[BM]at hr;obtain(((hr|hr)|hr)|hr)|hr:=hr
  .have:=sT r hr;omega
  .have:=sN r hr;omega
  .have:=sM r hr;omega
  .have:=sH r hr;omega
  .have:=sI r hr;omega
 .unfold C9;simp only[KT,Au];have a:=TZ (c:=12) λr hr=>by have:=sT r hr;have:=MV (r:=r) J;omega
  have b:=TZ (c:=12) λr hr=>by have:=sN r hr;have:=MV (r:=r) J;omega
  have c:=TZ (c:=17) λr hr=>by have:=sM r hr;have:=MV (r:=r) J;omega
  have d:=TZ (c:=44) λr hr=>by have:=sH r hr;have:=MV (r:=r) J;omega
  have e:=TZ (c:=45) λr hr=>by have:=sI r hr;have:=MV (r:=r) J;omega
  rw[DV]at c d e;have a2:(if 0<k.ti then [FX k.ti] else []).length<=1:=by split<;>simp
  have b2:(if 1<k.nx then [KZ k.nx] else []).length<=1:=by split<;>simp
  omega
def D5(rs:List A1):A1:=B<|cat rs
def Q4{k:AJ}(hk:At k=Y):C6 (D5<|C9 k) ((D5<|C9 k).size:Int) (C9 k) []:=by
 have:=W9 hk;refine C6.pack this.1 (by unfold D5;rw[L_B]) ?_;show(cat<|C9 k).length<=2400;omega
def Cw(k:AJ)(lg:A1)(fo:Int)(r:A1):A1×Int:=
 if lg.size+(Cv r).size<=2400 then(lg++Cv r,fo) else(D5 (C9 k)++Cv r,((D5<|C9 k).size:Int))
def aaW{k o:AJ}{id:Int}{lg r:A1}{fo:Int}{rs ts:List A1}(h:C6 lg fo rs ts)(hs:CZ id (rs++ts)=I k)(hr:BJ k r=I o):
  ∃rs' ts',C6 (Cw k lg fo r).1 (Cw k lg fo r).2 rs' ts'/\CZ id (rs'++ts')=I o:=by
 have hk:=SL hs;have hz:=lA hk hr;unfold Cw;split
 .rename_i hc;refine⟨rs,ts++[r],h.add hz.1 hz.2 hc, ?_⟩;rw[← C2,aBB,hs];exact hr
 .have hp:=Q4 hk;have hsz:=W9 hk;have hl:=MV hz.2;refine⟨C9 k,[]++[r],hp.add hz.1 hz.2 ?_, ?_⟩
  .show(cat<|C9 k).length+_<=2400;omega
  .rw[EU,aBB];have:=uy hk<|aCi hs;rw[jn hs]at this;rw[this];exact hr
structure DB (k:A7) (st:AJ):Prop where
 ok:Ae k=Y
 st:DS k.id k.log=I st
def C8{k:A7}(h:Ae k=Y):DB k (stT k):=⟨h,(El h).st⟩
def DB.kok{k:A7}{st:AJ}(h:DB k st):At st=Y:=SL h.st
def DB.id{k:A7}{st:AJ}(h:DB k st):st.id=k.id:=jn h.st
def DB.stT{k:A7}{st:AJ}(h:DB k st):stT k=st:=by
 unfold Go.VS.stT;rw[h.st];rfl
def W8{k:A7}{rs ts:List A1}(id:isN k.id=Y)(l:C6 k.log k.fo rs ts)(hl:k.AH.length<=3)(up:k.up=Y\/k.AH.length=0)(st:(CZ k.id<|rs++ts).isSome=Y)(hv:∀i,i<k.AH.length->Fg k.AH i=Y):Ae k=Y:=by
 unfold Ae;simp only[AD,C1,decide_eq_true_eq,Cp];refine⟨id,l.oA,J,up,⟨?_, ?_⟩,hv⟩
 .rw[l.state];exact st
 .rw[l.abo];exact aAh st
def DB.lg{k:A7}{st:AJ}(h:DB k st):∃rs ts,C6 k.log k.fo rs ts/\CZ k.id (rs++ts)=I st:=by
 obtain⟨rs,ts,hl⟩:=abN (El h.ok).sh;exact⟨rs,ts,hl,by rw[← hl.state];exact h.st⟩
def DB.oC{k:A7}{st o:AJ}{lg:A1}{fo:Int}{rs ts:List A1}(h:DB k st)(l:C6 lg fo rs ts)(e:CZ k.id (rs++ts)=I o):DB ⟨k.id,k.up,lg,fo,k.AH⟩ o:=by
 have hf:=El h.ok;refine⟨W8 (k:=⟨k.id,k.up,lg,fo,k.AH⟩) hf.id l hf.hl hf.up ?_ hf.hv, ?_⟩
 .simp only[e];rfl
 .simp only[l.state];exact e
def wrM(k:A7)(r:A1):A7:=⟨k.id,k.up,(Cw (stT k) k.log k.fo r).1,(Cw (stT k) k.log k.fo r).2,k.AH⟩
def Q9{k:A7}{st o:AJ}{r:A1}(h:DB k st)(hr:BJ st r=I o):DB (wrM k r) o:=by
 obtain⟨rs,ts,hl,hs⟩:=h.lg;obtain⟨rs',ts',h1,h2⟩:=aaW hl hs hr;have:=h.oC h1 h2;unfold wrM;rw[h.stT];exact this
def foM(k:A7):A7:=⟨k.id,k.up,k.log,(k.log.size:Int),k.AH⟩
def QG{k:A7}{st:AJ}(h:DB k st):DB (foM k) st:=by
 obtain⟨rs,ts,hl,hs⟩:=h.lg;exact h.oC hl.force<|by simpa using hs
def pkM(k:A7):A7:=⟨k.id,k.up,D5<|C9<|stT k,((D5<|C9<|stT k).size:Int),k.AH⟩
def mv{k:A7}{st:AJ}(h:DB k st):DB (pkM k) st:=by
 have:=h.oC (Q4 h.kok) (o:=st) (by
  have:=uy h.kok<|aCi h.st;rw[h.id]at this;simpa using this)
 unfold pkM;rw[h.stT];exact this
def faM(k:A7)(keep:Int):A7:=
 let n:=(k.fo+max 0 (min keep<|(k.log.size:Int) - k.fo)).toNat
 ⟨k.id,A0,(k.log.extract 0 n).extract 0 (D4<|k.log.extract 0 n).2,((D4<|k.log.extract 0 n).2:Int),[]⟩
def nH{k:A7}(h:Ae k=Y)(keep:Int):Ae (faM k keep)=Y:=by
 have hf:=El h;obtain⟨rs,ts,hl,hs⟩:=(C8 h).lg;have hfo:=hl.fo;obtain⟨us,vs,e,l⟩:=hl.U4 (k.fo+max 0 (min keep<|(k.log.size:Int) - k.fo)).toNat J;refine W8 (k:=faM k keep) hf.id l (by show 0<=3;omega) (.inr rfl) ?_ (λi hi=>by cases hi);show(CZ k.id<|(rs++us)++[]).isSome=Y;rw[CJ];refine aAh (ts:=vs) ?_;rw[C2,← e,hs];rfl
def aBM{k:A7}{st:AJ}(h:DB k st)(hf:k.fo=(k.log.size:Int))(keep:Int):DB (faM k keep) st/\(faM k keep).log=k.log/\(faM k keep).fo=k.fo:=by
 obtain⟨rs,ts,hl,hs⟩:=h.lg;have e:(k.fo+max 0 (min keep<|(k.log.size:Int) - k.fo)).toNat=k.log.size:=J
 have e2:k.log.extract 0 k.log.size=k.log:=by
  apply Fw;rw[EA,JR,Ik];exact K4 (by rw[Aw];omega)
 have hk:faM k keep=⟨k.id,A0,k.log,(k.log.size:Int),[]⟩:=by
  unfold faM;simp only[e,e2,hl.read]
 have ok:=nH h.ok keep;rw[hk]at ok ⊢;exact⟨⟨ok,h.st⟩,rfl,hf.symm⟩
def riM(k:A7):A7:=⟨k.id,Y,k.log,k.fo,k.AH⟩
def axE{k:A7}{st:AJ}(h:DB k st):DB (riM k) st:=by
 have hf:=El h.ok;obtain⟨rs,ts,hl,hs⟩:=h.lg;refine⟨W8 (k:=riM k) hf.id hl hf.hl (.inl rfl) ?_ hf.hv,h.st⟩;show(CZ k.id<|rs++ts).isSome=Y;rw[hs];rfl
def C4(a b:List UInt8):List UInt8:=List.zipWith (· ^^^ ·) a b
def Pu{a b:List UInt8}(h:a.length=b.length):(C4 a b).length=a.length:=by
 unfold C4;rw[lR];omega
def X4(a b:List UInt8):C4 a b=C4 b a:=by
 unfold C4
 induction a generalizing b with
 | nil=>cases b<;>rfl
 | cons x a ih=>
  cases b with
  | nil=>rfl
  | cons y b=>rw[Oa,Oa,ih,UInt8.xor_comm]
def WE(a b c:List UInt8):C4 (C4 a b) c=C4 a (C4 b c):=by
 unfold C4
 induction a generalizing b c with
 | nil=>cases b<;>cases c<;>rfl
 | cons x a ih=>
  cases b with
  | nil=>cases c<;>rfl
  | cons y b=>
   cases c with
   | nil=>rfl
   | cons z c=>simp only[Oa,ih,UInt8.xor_assoc]
def ar4{a b:List UInt8}(h:a.length=b.length):C4 (C4 a b) b=a:=by
 unfold C4
 induction a generalizing b with
 | nil=>rfl
 | cons x a ih=>
  cases b with
  | nil=>cases h
  | cons y b=>rw[Oa,Oa,ih<|by simpa using h,UInt8.xor_assoc,UInt8.xor_self,UInt8.xor_zero]
def nul(n:Nat):List UInt8:=BS n 0
def XM{a:List UInt8}{n:Nat}(h:a.length=n):C4 (nul n) a=a:=by
 unfold C4 nul
 induction a generalizing n with
 | nil=>subst h;rfl
 | cons x a ih=>
  subst h;rw[Bj,aBW,Oa,ih rfl,UInt8.zero_xor]
def Ds(n:Nat)(bl:Nat->List UInt8):List Nat->List UInt8
 | []=>nul n
 | k::ks=>C4 (bl k) (Ds n bl ks)
def Pq{n:Nat}{bl:Nat->List UInt8}:∀ {ks:List Nat},(∀k∈ks,(bl k).length=n)->(Ds n bl ks).length=n
 | [],_=>by simp[Ds,nul]
 | k::ks,h=>by
  have a:=h k An;have b:=Pq λx hx=>h x<|Ai k hx;rw[Ds,Pu J,a]
def lC{n:Nat}{bl:Nat->List UInt8}:∀ {ks:List Nat} {y:List UInt8},y.length=n->ks.foldl (λx k=>C4 x<|bl k) y=C4 y (Ds n bl ks)
 | [],y,h=>by
  rw[Ds,X4,XM h];rfl
 | k::ks,y,h=>by
  rw[Dv,Ds,← WE];by_cases hk:(C4 y<|bl k).length=n
  .exact lC hk
  ·
   have key:∀(ks:List Nat) (y z:List UInt8),y.length<=n->ks.foldl (λx k=>C4 x<|bl k) y=C4 y (Ds n bl ks):=by
    intro ks
    induction ks with
    | nil=>
     intro y z hy;rw[K7,Ds,X4];unfold C4 nul;clear hk h z
     induction y generalizing n with
     | nil=>simp
     | cons x y ih=>
      cases n with
      | zero=>simp at hy
      | succ n=>rw[aBW,Oa,UInt8.zero_xor,← ih<|by simpa using hy]
    | cons k ks ih=>
     intro y z hy;rw[Dv,Ds,← WE];refine ih _ z ?_;unfold C4;rw[lR];omega
   refine key ks _ [] ?_;unfold C4;rw[lR];omega
def auF{n:Nat}{bl:Nat->List UInt8}{p:Nat->Bool}{ks:List Nat}{u:Nat}(hb:∀k∈ks,(bl k).length=n)(hf:(ks.filter λk=> !p k)=[u]):
  ks.foldl (λx k=>if p k then C4 x (bl k) else x) (Ds n bl ks)=bl u:=by
 have h1:∀(ks:List Nat) (y:List UInt8),ks.foldl (λx k=>if p k then C4 x (bl k) else x) y=(ks.filter p).foldl (λx k=>C4 x<|bl k) y:=by
  intro ks
  induction ks with
  | nil=>intro y;rfl
  | cons k ks ih=>
   intro y;rw[Dv,Jz];split<;>simp[ih]
 have h2:∀(ks:List Nat),(∀k∈ks,(bl k).length=n)->Ds n bl ks=C4 (Ds n bl<|ks.filter λk=> !p k) (Ds n bl<|ks.filter p):=by
  intro ks
  induction ks with
  | nil=>intro _;simp[Ds,XM (n:=n) (a:=nul n) (by simp[nul])]
  | cons k ks ih=>
   intro hb;have:=ih λx hx=>hb x<|Ai _ hx;rw[Ds,this,Jz,Jz];cases p k
   .simp only[AG,A2,A4,Ds,WE]
   .simp only[AB,A2,A4,Ds];rw[← WE,X4<|bl k,WE]
 have hlen:(Ds n bl<|ks.filter p).length=n:=Pq λk hk=>hb k (FP.1 hk).1;have hu:(bl u).length=n:=hb u (FP.1 (hf▸Og u:u∈ks.filter λk=> !p k)).1;rw[h1,lC<|Pq hb,h2 ks hb,hf];rw[ar4 (by rw[hlen];exact Pq λk hk=>by rw[CL.1 hk];exact hu)];rw[Ds,Ds,X4,XM hu]
def rnd(x:Int):Int:=if inB x 0 65535 then BK (25173 * x+13849) 65536 else 0
def Sg(x:Int):0<=rnd x/\rnd x<=65535:=by
 unfold rnd;split
 .rename_i h;have:=Aa.1 h;rw[Ko J];omega
 .omega
def sG(x:Int):PO (x,())=I ((rnd x,()),()):=by
 unfold PO rnd;simp only[EJ,A6];obtain e|e:=tf (inB x 0 65535)
 .have:=Aa.1 e;simp only[e,AB,A4,A2];rw[AZ (n:=25173 * x) J J,AZ J J]
 .simp only[e,AG,A4,A2]
def s9(x:Int):PL (x,())=I ((rnd x,()),()):=by
 unfold PL rnd;simp only[Hr,A6];obtain e|e:=tf (inB x 0 65535)
 .have:=Aa.1 e;simp only[e,AB,A4,A2];rw[AZ (n:=x * 25173) J J,AZ J J,QT]
 .simp only[e,AG,A4,A2]
def Dr(b n:Int):Bool:=inB b 1 6&&inB n 0 999
def aAF(b n:Int):W4 (b,n,())=I ((Dr b n,()),()):=by
 unfold W4 Dr;simp only[EJ,A6,Dg,DX];cases inB b 1 6<;>rfl
def WU(b n:Int):MR (b,n,())=I ((Dr b n,()),()):=by
 unfold MR Dr;simp only[Hr,A6,Dg,DX];cases inB b 1 6<;>rfl
def wgt(b d:Int):Int:=if d=1 then B0 60 b+10 else B0 60 (d * (d - 1))
def akJ{b d:Int}(hb:inB b 1 6=Y)(hd:inB d 1 6=Y):dW (b,d,())=I ((wgt b d,()),()):=by
 have h1:=Aa.1 hb;have h2:=Aa.1 hd;have h3:b=1\/b=2\/b=3\/b=4\/b=5\/b=6:=J
 have h4:d=1\/d=2\/d=3\/d=4\/d=5\/d=6:=J
 obtain rfl|rfl|rfl|rfl|rfl|rfl:=h3<;>obtain rfl|rfl|rfl|rfl|rfl|rfl:=h4<;>rfl
def atI(b n:Int)(hb:inB b 1 6=Y):aY (b,n,0,1,())=I (.inr (b,n,70,())):=by
 have h1:=Aa.1 hb;have h3:b=1\/b=2\/b=3\/b=4\/b=5\/b=6:=J
 unfold aY;obtain rfl|rfl|rfl|rfl|rfl|rfl:=h3
 .exact As rfl (BF rfl)
 .exact As rfl (As rfl (BF rfl))
 .exact As rfl (As rfl (As rfl (BF rfl)))
 .exact As rfl (As rfl (As rfl (As rfl (BF rfl))))
 .exact As rfl (As rfl (As rfl (As rfl (As rfl (BF rfl)))))
 .exact As rfl (As rfl (As rfl (As rfl (As rfl (As rfl (BF rfl))))))
def wts(b:Int):List Int:=if b=1 then [70] else if b=2 then [40,30] else if b=3 then [30,30,10] else if b=4 then [25,30,10,5] else if b=5 then [22,30,10,5,3] else [20,30,10,5,3,2]
def auB(b n:Int)(hb:inB b 1 6=Y):bB (b,n,[0,w64<|w64 (B0 60 b)+10],rd aE8 ([0,w64<|w64 (B0 60 b)+10]:List Int) 1,2,())=I (.inr (b,n,0::wts b,70,())):=by
 have h1:=Aa.1 hb;have h3:b=1\/b=2\/b=3\/b=4\/b=5\/b=6:=J
 unfold bB;obtain rfl|rfl|rfl|rfl|rfl|rfl:=h3
 .exact BF rfl
 .exact As rfl (BF rfl)
 .exact As rfl (As rfl (BF rfl))
 .exact As rfl (As rfl (As rfl (BF rfl)))
 .exact As rfl (As rfl (As rfl (As rfl (BF rfl))))
 .exact As rfl (As rfl (As rfl (As rfl (As rfl (BF rfl)))))
def FI{σ ρ:Type}{b:σ->Option (σ ⊕ ρ)}{x x':σ}{y z:ρ}{c:Bool}(h:b x=if c then I (.inr y) else I (.inl x'))(hz:AW b x'=I z):AW b x=I (if c then y else z):=by
 cases c
 .exact As h hz
 .exact BF h
def L4(b r:Int):List Int->Int->Int->(Int×D) ⊕ (Int×D)
 | [],_,_=> .inr (b,())
 | w::ws,acc,d=>if U (r<acc+w) then .inl (d,()) else L4 b r ws (acc+w) (d+1)
def auC(b r:Int)(hb:inB b 1 6=Y):az (b,0::wts b,r,0,1,())=I (L4 b r (wts b) 0 1):=by
 have h1:=Aa.1 hb;have h3:b=1\/b=2\/b=3\/b=4\/b=5\/b=6:=J
 unfold az;obtain rfl|rfl|rfl|rfl|rfl|rfl:=h3
 .exact FI rfl (BF rfl)
 .exact FI rfl (FI rfl (BF rfl))
 .exact FI rfl (FI rfl (FI rfl (BF rfl)))
 .exact FI rfl (FI rfl (FI rfl (FI rfl (BF rfl))))
 .exact FI rfl (FI rfl (FI rfl (FI rfl (FI rfl (BF rfl)))))
 .exact FI rfl (FI rfl (FI rfl (FI rfl (FI rfl (FI rfl (BF rfl))))))
def aEc{b d:Int}(hb:inB b 1 6=Y)(hd:inB d 1 6=Y):0<=wgt b d/\wgt b d<=70:=by
 have h1:=Aa.1 hb;have h2:=Aa.1 hd;have h3:b=1\/b=2\/b=3\/b=4\/b=5\/b=6:=J
 have h4:d=1\/d=2\/d=3\/d=4\/d=5\/d=6:=J
 obtain rfl|rfl|rfl|rfl|rfl|rfl:=h3<;>obtain rfl|rfl|rfl|rfl|rfl|rfl:=h4<;>decide
def alr{b x d:Int}(hb:inB b 1 6=Y)(hd:inB d 1 6=Y)(hlt:d<b)(h0: -1000<=x)(h1:x<=1000):
  UW (b,x,d,())=if U (x - wgt b d<0) then I (.inr<|.inl (d,())) else I (.inl (b,x - wgt b d,d+1,())):=by
 have hw:=aEc hb hd;have h2:=Aa.1 hd;unfold UW;simp only[AR hlt,A2,akJ hb hd,A6];rw[AZ (n:=x - wgt b d) J J,AZ (n:=d+1) J J]
def M7:(Int×D) ⊕ (Int×D)->Int
 | .inl y=>y.1
 | .inr y=>y.1
def Zb(b x:Int):Nat->Int->(Int×D) ⊕ (Int×D)
 | 0,_=> .inr (b,())
 | n+1,d=>if U (x - wgt b d<0) then .inl (d,()) else Zb b (x - wgt b d) n (d+1)
def aD9{b:Int}(hb:inB b 1 6=Y):∀(n:Nat) (x d:Int),1<=d->d+n=b-> -70 * d<=x->x<=100->aX (b,x,d,())=I (Zb b x n d)
 | 0,x,d,_,h,_,_=>by
  unfold aX;refine BF ?_;unfold UW;simp only[show U (d<b)=A0 from BE J,A4];rfl
 | n+1,x,d,h1,h,h2,h3=>by
  have hb':=Aa.1 hb;have hd:inB d 1 6=Y:=Aa.2 ⟨h1,J⟩;have hw:=aEc hb hd;exact FI (alr hb hd J J J)<|aD9 hb n (x - wgt b d) (d+1) J J J J
def awV:∀b:Fin 6,∀r:Fin 70,M7 (Zb ((b.1+1:Nat):Int) (r.1:Int) b.1 1)=M7 (L4 ((b.1+1:Nat):Int) (r.1:Int) (wts ((b.1+1:Nat):Int)) 0 1):=by decide+kernel
def aue{b r:Int}(hb:inB b 1 6=Y)(h0:0<=r)(h1:r<70):M7 (Zb b r (b - 1).toNat 1)=M7 (L4 b r (wts b) 0 1):=by
 have h2:=Aa.1 hb;have:=awV ⟨(b - 1).toNat,J⟩ ⟨r.toNat,J⟩;rw[show(((b - 1).toNat+1:Nat):Int)=b by omega,show((r.toNat:Nat):Int)=r by omega]at this;exact this
def G0(b n:Int):Int:=if Dr b n then(if U (n<b) then 1 else M7 (L4 b (BK (B0 (rnd<|rnd<|31 * n+b) 16) 70) (wts b) 0 1)) else 0
def aEk(s:(Int×D) ⊕ (Int×D)):AO (I s) (λy=>I (y,())) (λy=>I (y,()))=I ((M7 s,()),()):=by
 cases s<;>rfl
def ajD(b n:Int):cH (b,n,())=I ((G0 b n,()),()):=by
 unfold cH G0;rw[aAF];simp only[A6];obtain e|e:=tf (Dr b n)
 .have e2:=e;unfold Dr at e2;rw[AD]at e2;have h1:=Aa.1 e2.1;have h2:=Aa.1 e2.2;simp only[e,AB,A4,A2];obtain e3|e3:=tf (U<|n<b)
  .simp only[e3,A2]
  .have hr:=Sg<|rnd<|31 * n+b;have hz:B0 (rnd<|rnd<|31 * n+b) 16=rnd (rnd<|31 * n+b) / 16:=H9 hr.1;simp only[e3,A4,show U (b=0)=A0 from BE J,AG,A2,auB b n e2.1];rw[A5<|by rfl];simp only[AO,sG,A6];rw[AZ (n:=31 * n) J J,AZ (n:=31 * n+b) J J,AZ (n:=B0 _ 16) J J];rw[auC b _ e2.1];exact aEk _
 .simp only[e,AG,A2,A4]
def aiV(b n:Int):cQ (b,n,())=I ((G0 b n,()),()):=by
 unfold cQ G0;rw[WU];simp only[A6];obtain e|e:=tf (Dr b n)
 .have e2:=e;unfold Dr at e2;rw[AD]at e2;have h1:=Aa.1 e2.1;have h2:=Aa.1 e2.2;simp only[e,AB,A4,A2];obtain e3|e3:=tf (U<|n<b)
  .simp only[e3,A2]
  .have hr:=Sg<|rnd<|31 * n+b;have hz:B0 (rnd<|rnd<|31 * n+b) 16=rnd (rnd<|31 * n+b) / 16:=H9 hr.1;have hm:BK (B0 (rnd<|rnd<|31 * n+b) 16) 70=(rnd (rnd<|31 * n+b) / 16) % 70:=by rw[hz];exact Ko J
   simp only[e3,A4,atI b n e2.1];simp only[AO,s9,A6];rw[AZ (n:=n * 31) J J,AZ (n:=n * 31+b) J J,QT n 31,AZ (n:=B0 _ 16) J J];rw[aD9 e2.1 (b - 1).toNat _ 1 J J J J,A5<|by rfl];rw[← aue e2.1 J J];exact aEk _
 .simp only[e,AG,A2,A4]
def ah3{l:List Int}(hl:l.length<=1048576):qz (l,())=I ((l,()),()):=Lg hl
def agS{l:List Int}(hl:l.length<=1048576):bH (l,())=I ((l,()),()):=Lg hl
def Eu(b:Nat)(f:Nat->Bool):Nat->Nat->Nat
 | 0,a=>a
 | k+1,a=>if f a then Eu b f k ((a+1) % b) else a
def Rep(u:List Bool)(f:Nat->Bool):Prop:=∀i,u.getD i A0=f i
def rdB(u:List Bool)(i:Nat): @rd Bool aFj u (i:Int)=u.getD i A0:=rfl
def Sf{b:Nat}{f:Nat->Bool}:∀(k a:Nat),a<b->Eu b f k a<b
 | 0,_,h=>h
 | k+1,a,h=>by
  unfold Eu;split
  .exact Sf k _ (Oj _ J)
  .exact h
def ko{a b k:Nat}:((a+1) % b+k) % b=(a+(k+1)) % b:=by
 rw[Nat.mod_add_mod,D8,N2 1 k]
def jr{b:Nat}{f:Nat->Bool}:∀(k a m:Nat),a<b->f ((a+k) % b)=A0->k<=m->Eu b f m a=Eu b f k a
 | 0,a,m,h,e,_=>by
  rw[Hh,Oc h]at e;cases m with
  | zero=>rfl
  | succ m=>
   simp only[Eu,e,A4]
 | k+1,a,m,h,e,hm=>by
  cases m with
  | zero=>omega
  | succ m=>
   rw[Eu,Eu];rw[jr k ((a+1) % b) m (Oj _ J) (by rw[ko];exact e) J]
def reach{a b j:Nat}(ha:a<b)(hj:j<b):∃k,k<=b/\(a+k) % b=j:=by
 by_cases h:a<=j
 .exact⟨j - a,J,by rw[show a+(j - a)=j by omega];exact Oc hj⟩
 .exact⟨j+b - a,J,by rw[show a+(j+b - a)=j+b by omega,Nat.add_mod_right];exact Oc hj⟩
def cnt(f:Nat->Bool):Nat->Nat
 | 0=>0
 | k+1=>cnt f k+(if f k then 1 else 0)
def mJ{f:Nat->Bool}:∀(k:Nat),cnt f k<k->∃j,j<k/\f j=A0
 | 0,h=>J
 | k+1,h=>by
  rw[cnt]at h;obtain e|e:=tf (f k)
  .rw[e,A5 rfl]at h;obtain⟨j,h1,h2⟩:=mJ (f:=f) k J;exact⟨j,J,h2⟩
  .exact⟨k,J,e⟩
def I8(f:Nat->Bool)(a:Nat):Nat->Bool:=λj=>if j=a then Y else f j
def mP{f:Nat->Bool}{a:Nat}:∀(k:Nat),(k<=a->cnt (I8 f a) k=cnt f k)/\cnt (I8 f a) k<=cnt f k+1
 | 0=>⟨λ_=>rfl,by rw[cnt,cnt];omega⟩
 | k+1=>by
  obtain⟨h1,h2⟩:=mP (f:=f) (a:=a) k;rw[cnt,cnt];constructor
  .intro h;rw[h1 J,show I8 f a k=f k from A8 J]
  .by_cases h:k=a
   .rw[h1 J];unfold I8;rw[A5 h];cases f k<;>simp
   .unfold I8;rw[A8 h];unfold I8 at h2;omega
def mI:∀(k:Nat),cnt (λ_=>A0) k=0
 | 0=>rfl
 | k+1=>by rw[cnt,mI k];rfl
def Rep.set{u:List Bool}{f:Nat->Bool}{a:Nat}(h:Rep u f)(ha:a<u.length):Rep (u.set a Y) (I8 f a):=by
 intro i;unfold I8;rw[B9,Of];by_cases e:i=a
 .subst e;simp[ha]
 .rw[A8<|Ku e,A8 e,← h i,B9]
def Rep.new(n:Nat):Rep (BS n A0) (λ_=>A0):=by
 intro i;rw[B9,Yh];split<;>rfl
def JC(b:Nat):Nat->(Nat->Bool)->Int->Nat->Bool
 | 0,f,_=>f
 | n+1,f,x=>JC b n (I8 f<|Eu b f b (BK (B0 (rnd x) 16) (b:Int)).toNat) (rnd x)
def aDV{b:Nat}(hb:0<b):∀(n:Nat) (f:Nat->Bool) (x:Int),(∀i,b<=i->f i=A0)->∀i,b<=i->JC b n f x i=A0
 | 0,_,_,h=>h
 | n+1,f,x,h=>by
  refine aDV hb n _ _ ?_;intro i hi;unfold I8;rw[A8,h i hi];have:Eu b f b (BK (B0 (rnd x) 16) (b:Int)).toNat<b:=by
   refine Sf _ _ ?_;have:=Sg x;rw[H9 this.1,Ko J];have h1:=Int.emod_lt_of_pos (rnd x / 16) (show(0:Int)<b by omega);have h2:=Int.emod_nonneg (rnd x / 16) (show(b:Int)≠0 by omega);omega
  omega
def HW(f:Nat->Bool)(m:Nat):List Nat:=(B7 m).filter f
def jL(f:Nat->Bool)(m:Nat):HW f (m+1)=HW f m++if f m then [m] else []:=by
 unfold HW;rw[IC,QX];congr 1;simp only[Jz,Yc]
def Xc(f:Nat->Bool)(m:Nat):(HW f m).length<=m:=by
 unfold HW;exact CV (Io _ _)<|by simp
def at4{f:Nat->Bool}{m k:Nat}(h:k∈HW f m):k<m:=by
 unfold HW at h;exact Cu.1 (FP.1 h).1
def aBm{f:Nat->Bool}{b:Nat}(h:∀i,b<=i->f i=A0):∀(m:Nat),b<=m->HW f m=HW f b
 | 0,hm=>by rw[show b=0 by omega]
 | m+1,hm=>by
  by_cases e:b=m+1
  .rw[e]
  .rw[jL,h m J,A4,CJ,aBm h m J]
abbrev BV(l:List Nat):List Int:=l.map λi:Nat=>(i:Int)
def aDd{b r:Int}(hb:0<=b):∀(ws:List Int) (acc d:Int),0<=d->d+ws.length<=b+1->0<=M7 (L4 b r ws acc d)/\M7 (L4 b r ws acc d)<=b
 | [],_,_,_,_=>by
  show 0<=b/\b<=b;omega
 | w::ws,acc,d,h0,h1=>by
  rw[Bj]at h1;unfold L4;split
  .show 0<=d/\d<=b;omega
  .exact aDd hb ws _ _ J J
def aDe{b n:Int}(h:Dr b n=Y):0<=G0 b n/\G0 b n<=b:=by
 unfold G0;rw[A5 h];unfold Dr at h;rw[AD]at h;have h1:=Aa.1 h.1;split
 .omega
 .refine aDd J _ _ _ J ?_;have h3:b=1\/b=2\/b=3\/b=4\/b=5\/b=6:=J
  obtain rfl|rfl|rfl|rfl|rfl|rfl:=h3<;>exact Ct _
def Bg(b n:Int):List Nat:=
 if Dr b n then(if U (n<b) then [n.toNat] else HW (JC b.toNat (G0 b n).toNat (λ_=>A0)<|rnd<|7 * n+1) b.toNat) else []
def LY{b n:Int}{k:Nat}(h:k∈Bg b n):(k:Int)<b:=by
 unfold Bg at h;split at h
 .rename_i h0;unfold Dr at h0;rw[AD]at h0;have h1:=Aa.1 h0.1;have h2:=Aa.1 h0.2;split at h
  .rename_i h3;have:=Bd h3;have:=CL.1 h;omega
  .have:=at4 h;omega
 .cases h
def Wt(b n:Int):(Bg b n).length<=6:=by
 unfold Bg;split
 .rename_i h0;unfold Dr at h0;rw[AD]at h0;have h1:=Aa.1 h0.1;split
  .simp
  .exact CV (Xc _ _) J
 .simp
section
variable {bn:Nat} (hb:0<bn) (h6:bn<=6) {u:List Bool} {f:Nat->Bool} (hu:Rep u f) (hl:bn<=u.length)
include hb h6 hu hl
def aCq(x n:Int):∀(k a:Nat),a<bn->f ((a+k) % bn)=A0->
  cG ((bn:Int),u,x,n,(a:Int),())=I (.inr ((bn:Int),u,x,n,((Eu bn f k a:Nat):Int),()))
 | 0,a,ha,e=>by
  rw[Hh,Oc ha]at e;refine BF ?_;unfold Vo;simp only[rdB,hu a,e,AU (J:a<u.length),A2,A4];rfl
 | k+1,a,ha,e=>by
  unfold cG at *;unfold Eu;obtain e1|e1:=tf (f a)
  .rw[e1,A5 rfl];refine As ?_ (aCq x n k ((a+1) % bn) (Oj _ hb) (by rw[ko];exact e));unfold Vo;simp only[rdB,hu a,e1,AU (J:a<u.length),A2,show U ((bn:Int)=0)=A0 from BE J,AG];rw[AZ J J];rfl
  .rw[e1,A4];refine BF ?_;unfold Vo;simp only[rdB,hu a,e1,AU (J:a<u.length),A2,A4]
def aC2(o:List Int)(x n:Int):∀(k a:Nat),a<bn->f ((a+k) % bn)=A0->
  cP ((bn:Int),o,u,x,n,(a:Int),())=I (.inr ((bn:Int),o,u,x,n,((Eu bn f k a:Nat):Int),()))
 | 0,a,ha,e=>by
  rw[Hh,Oc ha]at e;refine BF ?_;unfold Vj;simp only[rdB,hu a,e,AU (J:a<u.length),A2,A4];rfl
 | k+1,a,ha,e=>by
  unfold cP at *;unfold Eu;obtain e1|e1:=tf (f a)
  .rw[e1,A5 rfl];refine As ?_ (aC2 o x n k ((a+1) % bn) (Oj _ hb) (by rw[ko];exact e));unfold Vj;simp only[rdB,hu a,e1,AU (J:a<u.length),A2,show U ((bn:Int)=0)=A0 from BE J,AG];rw[AZ J J];rfl
  .rw[e1,A4];refine BF ?_;unfold Vj;simp only[rdB,hu a,e1,AU (J:a<u.length),A2,A4]
end
section
variable {bn:Nat} (hb:0<bn) (h6:bn<=6)
include hb h6
def aaI(x:Int):∃a:Nat,BK (w64<|B0 (rnd x) 16) (bn:Int)=(a:Int)/\(BK (B0 (rnd x) 16) (bn:Int)).toNat=a/\a<bn:=by
 have h:=Sg x;have hd:B0 (rnd x) 16=rnd x / 16:=H9 h.1;rw[hd,AZ J J,Ko J];have h1:=Int.emod_lt_of_pos (rnd x / 16) (show(0:Int)<bn by omega);have h2:=Int.emod_nonneg (rnd x / 16) (show(bn:Int)≠0 by omega);exact⟨(rnd x / 16 % (bn:Int)).toNat,J,rfl,J⟩
def aDj:∀(n:Nat) (u:List Bool) (f:Nat->Bool) (x:Int),Rep u f->bn<=u.length->cnt f bn+n<=bn->
  ∃u',s7 ((bn:Int),u,x,(n:Int),())=I (.inr (u',()))/\Rep u' (JC bn n f x)/\u'.length=u.length
 | 0,u,f,x,hu,_,_=>by
  refine⟨u,BF ?_,hu,rfl⟩;rfl
 | n+1,u,f,x,hu,hl,hc=>by
  obtain⟨a,ea,eb,ha⟩:=aaI hb h6 x;obtain⟨j,hj,ej⟩:=mJ (f:=f) bn J;obtain⟨k,hk,ek⟩:=reach ha hj;have es:=aCq hb h6 hu hl (rnd x) ((n+1:Nat):Int) k a ha (by rw[ek];exact ej);have em:=jr (f:=f) k a bn ha (by rw[ek];exact ej) hk;have hs:Eu bn f k a<bn:=Sf k a ha;obtain⟨u',h1,h2,h3⟩:=aDj n (u.set (Eu bn f k a) Y) (I8 f<|Eu bn f k a) (rnd x) (hu.set J) (by rw[GP];exact hl)
   (by have:=(mP (f:=f) (a:=Eu bn f k a) bn).2;omega)
  refine⟨u',As ?_ h1, ?_,by rw[h3,GP]⟩
  .unfold iD;simp only[sG,A6,show U ((0:Int)<((n+1:Nat):Int))=Y from AR J,A2,show U ((bn:Int)=0)=A0 from BE J,AG,ea,es];simp only[AO,A6,AU (J:Eu bn f k a<u.length),A2,Bc];rw[AZ J J,show((n+1:Nat):Int) - 1=(n:Int) by omega]
  .rw[JC,eb,em];exact h2
def aD8(o:List Int):∀(n:Nat) (u:List Bool) (f:Nat->Bool) (x:Int),Rep u f->bn<=u.length->cnt f bn+n<=bn->
  ∃u',rM ((bn:Int),o,u,x,(n:Int),())=I (.inr ((bn:Int),o,u',()))/\Rep u' (JC bn n f x)/\u'.length=u.length
 | 0,u,f,x,hu,_,_=>by
  refine⟨u,BF ?_,hu,rfl⟩;rfl
 | n+1,u,f,x,hu,hl,hc=>by
  obtain⟨a,ea,eb,ha⟩:=aaI hb h6 x;obtain⟨j,hj,ej⟩:=mJ (f:=f) bn J;obtain⟨k,hk,ek⟩:=reach ha hj;have es:=aC2 hb h6 hu hl o (rnd x) ((n+1:Nat):Int) k a ha (by rw[ek];exact ej);have em:=jr (f:=f) k a bn ha (by rw[ek];exact ej) hk;have hs:Eu bn f k a<bn:=Sf k a ha;obtain⟨u',h1,h2,h3⟩:=aD8 o n (u.set (Eu bn f k a) Y) (I8 f<|Eu bn f k a) (rnd x) (hu.set J) (by rw[GP];exact hl)
   (by have:=(mP (f:=f) (a:=Eu bn f k a) bn).2;omega)
  refine⟨u',As ?_ h1, ?_,by rw[h3,GP]⟩
  .unfold iL;simp only[s9,A6,show U ((0:Int)<((n+1:Nat):Int))=Y from AR J,A2,show U ((bn:Int)=0)=A0 from BE J,AG,ea,es];simp only[AO,A6,AU (J:Eu bn f k a<u.length),A2,Bc];rw[AZ J J,show((n+1:Nat):Int) - 1=(n:Int) by omega]
  .rw[JC,eb,em];exact h2
end
def asv{u:List Bool}{f:Nat->Bool}(hu:Rep u f)(hl:u.length=6):s6 ([],u,0,())=I (.inr (BV<|HW f 6,())):=by
 refine CS (λi=>(BV<|HW f i,u,(i:Int),())) 6 ?_ rfl;intro i hi;unfold iC;simp only[rdB,hu i,AU (J:i<u.length),AU hi,Ks,A2,show U ((i:Int)<6)=Y from AR J];rw[AZ (n:=(i:Int)+1) J J,jL];have:=Xc f i;obtain e|e:=tf (f i)
 .simp only[e,A2];rw[A5<|BG y7];simp[BV]
 .simp only[e,A4,CJ];rfl
def as5{bn:Nat}(h6:bn<=6){u:List Bool}{f:Nat->Bool}(hu:Rep u f)(hl:u.length=bn):rL ((bn:Int),[],u,0,())=I (.inr (BV<|HW f bn,())):=by
 refine CS (λi=>((bn:Int),BV<|HW f i,u,(i:Int),())) bn ?_ ?_
 .intro i hi;unfold fL;simp only[rdB,hu i,AU (J:i<u.length),A2,show U ((i:Int)<(bn:Int))=Y from AR J];rw[AZ (n:=(i:Int)+1) J J,jL];have:=Xc f i;obtain e|e:=tf (f i)
  .simp only[e,A2];rw[A5<|BG y7];simp[BV]
  .simp only[e,A4,CJ];rfl
 .unfold fL;simp only[show U ((bn:Int)<(bn:Int))=A0 from BE J,A4]
def iW(b n:Int):W0 (b,n,())=I ((BV<|Bg b n,()),()):=by
 unfold W0 Bg;rw[aAF];simp only[A6];obtain e|e:=tf (Dr b n)
 .have e2:=e;unfold Dr at e2;rw[AD]at e2;have h1:=Aa.1 e2.1;have h2:=Aa.1 e2.2;simp only[e,AB,A4,A2];obtain e3|e3:=tf (U<|n<b)
  .simp only[e3,A2];rw[show BV [n.toNat]=[n] from by simp[BV];omega]
  .have hd:=aDe e;simp only[e3,A4,sG,ajD,A6];rw[AZ (n:=7 * n) J J,AZ (n:=7 * n+1) J J];obtain⟨u,g1,g2,g3⟩:=aDj (bn:=b.toNat) J J (G0 b n).toNat (BS 6 A0) (λ_=>A0) (rnd<|7 * n+1) (Rep.new 6) y7 (by rw[mI];omega);rw[show((b.toNat:Nat):Int)=b by omega,show(((G0 b n).toNat:Nat):Int)=G0 b n by omega]at g1;rw[show(dfl .bool:Bool)=A0 from rfl,g1];simp only[AO,A6];rw[asv g2 (by rw[g3];rfl),aBm (b:=b.toNat) (aDV J _ _ _ λ_ _=>rfl) 6 J];simp only[A6];rw[ah3 (by have:=Xc (JC b.toNat (G0 b n).toNat (λ_=>A0)<|rnd<|7 * n+1) b.toNat;simp;omega)];rfl
 .simp only[e,AG,A2,A4];rfl
def aA4(b n:Int):Vv (b,n,())=I ((BV<|Bg b n,()),()):=by
 unfold Vv Bg;rw[WU];simp only[A6];obtain e|e:=tf (Dr b n)
 .have e2:=e;unfold Dr at e2;rw[AD]at e2;have h1:=Aa.1 e2.1;have h2:=Aa.1 e2.2;simp only[e,AB,A4,A2];obtain e3|e3:=tf (U<|n<b)
  .simp only[e3,A2];rw[show BV [n.toNat]=[n] from by simp[BV];omega];rfl
  .have hd:=aDe e;simp only[e3,A4,s9,aiV,A6];rw[A5 y7];rw[AZ (n:=n * 7) J J,AZ (n:=n * 7+1) J J,QT n 7];obtain⟨u,g1,g2,g3⟩:=aD8 (bn:=b.toNat) J J [] (G0 b n).toNat (BS b.toNat A0) (λ_=>A0) (rnd<|7 * n+1) (Rep.new _) aE4 (by rw[mI];omega);rw[show((b.toNat:Nat):Int)=b by omega,show(((G0 b n).toNat:Nat):Int)=G0 b n by omega]at g1;rw[show(dfl .bool:Bool)=A0 from rfl,g1];simp only[AO,A6];have g4:=as5 (bn:=b.toNat) J g2 (by rw[g3];simp);rw[show((b.toNat:Nat):Int)=b by omega]at g4;rw[g4];rfl
 .simp only[e,AG,A2,A4];rfl
end Go.VS
namespace Go.VS
open Go
abbrev bI(l:List UInt8):List Int:=l.map λb=>(b.toNat:Int)
def SN(s:A1):BA s=bI (L s):=rfl
def Si(l:List UInt8):BH (bI l)=B l:=by
 unfold BH bI B;rw[I9];congr 2;rw[Gi (g:=id) (by intro b _;simp),Yq]
def aaX(a b:UInt8):Dt .u8 (a.toNat:Int) (b.toNat:Int)=((a ^^^ b).toNat:Int):=by
 have h1:∀c:UInt8,FC (IntKind.bits .u8) (c.toNat:Int)=c.toBitVec:=by
  intro c;apply lq;rw[QO];have:=c.toNat_lt;show((c.toNat:Int) % (2 ^ 8:Nat)).toNat=c.toBitVec.toNat;rw[lT J J];rfl
 unfold Dt;rw[h1 a,h1 b];have:=(a ^^^ b).toNat_lt;show Yn .u8 (((a ^^^ b).toNat:Nat):Int)=_;have h3:∀n:Int,Yn .u8 n=n % 256:=Mp;rw[h3];omega
def axV{l:List UInt8}(h:l.length=4):∃a b c d,l=[a,b,c,d]:=by
 obtain _|⟨a,_|⟨b,_|⟨c,_|⟨d,_|⟨e,l⟩⟩⟩⟩⟩:=l
 all_goals simp at h
 exact⟨a,b,c,d,rfl⟩
def sz4{s:A1}(h:s.size=4):∃a b c d,s=B [a,b,c,d]:=by
 obtain⟨a,b,c,d,e⟩:=axV (l:=L s) h;exact⟨a,b,c,d,by rw[← e,B_L]⟩
def aAJ{a b:A1}(ha:a.size=4)(hb:b.size=4):W1 (a,b,())=I ((B<|C4 (L a)<|L b,()),()):=by
 obtain⟨a0,a1,a2,a3,rfl⟩:=sz4 ha;obtain⟨b0,b1,b2,b3,rfl⟩:=sz4 hb;unfold W1;rw[A5<|by rfl];have h:ru (B [b0,b1,b2,b3],BA<|B [a0,a1,a2,a3],((BA<|B [a0,a1,a2,a3]).length:Int),0,())=
   I (.inr ([Dt .u8 (a0.toNat:Int) (b0.toNat:Int),Dt .u8 (a1.toNat:Int) (b1.toNat:Int),Dt .u8 (a2.toNat:Int) (b2.toNat:Int),Dt .u8 (a3.toNat:Int) (b3.toNat:Int)],())):=
  As rfl (As rfl (As rfl (As rfl (BF rfl))))
 rw[h];simp only[aaX,AO,A6];exact congrArg (λz=>I ((z,()),()))<|Si [a0 ^^^ b0,a1 ^^^ b1,a2 ^^^ b2,a3 ^^^ b3]
def aA8{a b:A1}(ha:a.size=4)(hb:b.size=4):Vu (a,b,())=I ((B<|C4 (L a)<|L b,()),()):=by
 obtain⟨a0,a1,a2,a3,rfl⟩:=sz4 ha;obtain⟨b0,b1,b2,b3,rfl⟩:=sz4 hb;unfold Vu;have h:rK (B [a0,a1,a2,a3],B [b0,b1,b2,b3],[],0,())=
   I (.inr ([Dt .u8 (a0.toNat:Int) (b0.toNat:Int),Dt .u8 (a1.toNat:Int) (b1.toNat:Int),Dt .u8 (a2.toNat:Int) (b2.toNat:Int),Dt .u8 (a3.toNat:Int) (b3.toNat:Int)],())):=
  As rfl (As rfl (As rfl (As rfl (BF rfl))))
 rw[h];simp only[aaX,AO,A6];exact congrArg (λz=>I ((z,()),()))<|Si [a0 ^^^ b0,a1 ^^^ b1,a2 ^^^ b2,a3 ^^^ b3]
def dT{n:Int}(h0:0<=n)(h1:n<=1000):LS (n,())=I ((B0 (n+3) 4,()),()):=by
 unfold LS;simp only;rw[AZ (n:=n+4) J J,AZ (n:=n+4 - 1) J J,show n+4 - 1=n+3 by omega];rw[H9 J,AZ J J]
def anM:iI ()=I ((B<|nul 4,()),()):=rfl
def Fz(t:List UInt8)(i:Nat):List UInt8:=(B7 4).map λj=>t.getD (4 * i+j) 0
def OD(t:List UInt8)(i:Nat):(Fz t i).length=4:=by simp[Fz]
def DF(t:A1):List A1:=if inB t.size 1 24 then(B7<|(t.size+3) / 4).map λi=>B (Fz (L t) i) else []
def avx(l:List UInt8):BR (BS (AK 4)<|dfl .u8).length (bI l)++Bp (bI l).length (BS (AK 4)<|dfl .u8)=bI ((B7 4).map λj=>l.getD j 0):=by
 obtain _|⟨a,_|⟨b,_|⟨c,_|⟨d,l⟩⟩⟩⟩:=l
 .rfl
 .rfl
 .rfl
 .rfl
 .rw[M0 aE4,CJ];rfl
def asY(l:List UInt8)(k:Nat):(B7 4).map (λj=>(l.drop k).getD j 0)=(B7 4).map λj=>l.getD (k+j) 0:=by
 refine Gi ?_;intro j _;rw[B9,B9,Hd]
def axl(s:A1)(k:Nat):L (s.extract k s.size)=(L s).drop k:=by
 rw[EA,K4];rw[EF,Aw];exact Ar _
def zm(t:A1):Vp (t,())=I ((DF t,()),()):=by
 unfold Vp DF;simp only[EJ,A6];obtain e|e:=tf (inB t.size 1 24)
 .have h1:=Aa.1 e;simp only[e,AB,A4,A2];have h:rA (t,[],0,())=I (.inr ((B7<|(t.size+3) / 4).map λi=>B<|Fz (L t) i,())):=by
   refine CS (λi=>(t,(B7 i).map λi=>B<|Fz (L t) i,((4 * i:Nat):Int),())) ((t.size+3) / 4) ?_ ?_
   .intro i hi;unfold eW;simp only[show U (((4 * i:Nat):Int)<(t.size:Int))=Y from AR J,A2];rw[A5<|by rfl,A5 y7,A5<|BG y7];rw[Bc,SN,axl,avx,Si,asY,AZ J J,IC (n:=i),Eg];rw[show((4 * i:Nat):Int)+4=((4 * (i+1):Nat):Int) by omega];rfl
   .unfold eW;simp only[show U (((4 * ((t.size+3) / 4):Nat):Int)<(t.size:Int))=A0 from BE J,A4]
  rw[h];simp only[AO,A6];rw[pT y7];rfl
 .simp only[e,AG,A2,A4]
def arM(t:A1)(o:List A1)(i:Nat)(hi:i<=100):
  qo (t,o,(i:Int),[],w64<|(i:Int) * 4,())=I (.inr (t,o,(i:Int),bI<|Fz (L t) i,())):=by
 rw[AZ J J,show(i:Int) * 4=((4 * i+0:Nat):Int) by omega];refine CS (λj=>(t,o,(i:Int),bI<|(B7 j).map λm=>(L t).getD (4 * i+m) 0,((4 * i+j:Nat):Int),())) 4 ?_ ?_
 .intro j hj;unfold eF;simp only;rw[AZ (n:=(i:Int)+1) J J,AZ (n:=((i:Int)+1) * 4) J J];rw[A5<|AR J,AZ (n:=((4 * i+j:Nat):Int)+1) J J];rw[IC,Eg];by_cases h:4 * i+j<t.size
  .rw[A5<|AR J,A5<|AU h,A5<|BG y7,Jm];simp only[Eg,DM,JQ];rfl
  .rw[A8 y7,A5<|BG y7];have:(L t).getD (4 * i+j) 0=0:=by
    rw[B9,He (by rw[Aw];omega)];rfl
   simp only[Eg,DM,JQ,this];rfl
 .unfold eF;simp only;rw[AZ (n:=(i:Int)+1) J J,AZ (n:=((i:Int)+1) * 4) J J];rw[A8 y7];rfl
def an3(t:A1):fM (t,())=I ((DF t,()),()):=by
 unfold fM DF;obtain e|e:=tf (inB t.size 1 24)
 .have h1:=Aa.1 e;rw[A8 y7,A5 e];have h:qp (t,[],0,())=I (.inr ((B7<|(t.size+3) / 4).map λi=>B<|Fz (L t) i,())):=by
   refine CS (λi=>(t,(B7 i).map λi=>B<|Fz (L t) i,(i:Int),())) ((t.size+3) / 4) ?_ ?_
   .intro i hi;unfold eG;simp only[dT (n:=(t.size:Int)) J J,A6];rw[H9 J,A5<|AR J,arM t _ i J];simp only[AO,A6];rw[A5<|BG y7,Si,AZ J J,IC,Eg];rfl
   .unfold eG;simp only[dT (n:=(t.size:Int)) J J,A6];rw[H9 J,A8 aE4]
  rw[h];rfl
 .rw[A5,A8 (by rw[e];exact CQ)];by_cases h:(1:Int)<=t.size/\(t.size:Int)<=24
  .rw[Aa.2 h]at e;cases e
  .simp;omega
abbrev bsA(l:List A1)(k:Nat):A1:=l.getD k noB
def OM(l:List A1)(k:Nat): @rd A1 aFf l (k:Int)=bsA l k:=rfl
def OG(pre:List Nat)(k:Nat)(post:List Nat): @rd Int aE8 (BV<|pre++k::post) (j8 pre:Int)=(k:Int):=by
 rw[OL,BV,Eg,DM,B9,FO aE4];simp
def snoc{α:Type}(pre:List α)(k:α)(post:List α):pre++k::post=(pre++[k])++post:=by simp
def DZ{n m:Nat}(h:n<m)(hm:m<=1048576):w64 ((n:Int)+1)=((n+1:Nat):Int):=BC h J
section
variable {bs:List A1} (hbs:∀k,k<bs.length->(bsA bs k).size=4)
include hbs
def asx(post:List Nat):∀(pre:List Nat) (y:A1),pre≠[]->y.size=4->(pre++post).length<=1048576->(∀k∈post,k<bs.length)->
  UR (bs,y,BV<|pre++post,((BV<|pre++post).length:Int),(j8 pre:Int),())=I (.inr (B<|post.foldl (λx k=>C4 x<|L<|bsA bs k)<|L y,())):=by
 induction post with
 | nil=>
  intro pre y _ _ _ _;refine BF ?_;unfold V3;simp only[CJ,DV,show U ((j8 pre:Int)<(j8 pre:Int))=A0 from BE J,A4,K7,B_L]
 | cons k post ih=>
  intro pre y hp hy hl hk;have h1:=hk k An;have hne:pre.length≠0:=λh=>hp<|Dw h;have hlen:pre.length<(BV<|pre++k::post).length:=by simp
  refine As (x':=(bs,B<|C4 (L y)<|L<|bsA bs k,BV<|pre++k::post,((BV<|pre++k::post).length:Int),((pre++[k]).length:Int),())) ?_ ?_
  .unfold V3;simp only[show U ((j8 pre:Int)<((BV<|pre++k::post).length:Int))=Y from AR J,A2,AU hlen,OG,show U ((j8 pre:Int)=0)=A0 from BE J,A4,AU h1,OM,aAJ hy<|hbs k h1,A6];rw[DZ hlen<|by simpa using hl,Au];rfl
  .have:=ih (pre++[k]) (B<|C4 (L y)<|L<|bsA bs k) aE4 (by rw[BQ,Pu<|by rw[Aw,Aw,hy,hbs k h1],Aw,hy]) (by rw[← snoc];exact hl) λx hx=>hk x<|Ai k hx;rw[← snoc]at this;exact this
def arI(post:List Nat):∀(pre:List Nat) (y:A1),y.size=4->(pre++post).length<=1048576->(∀k∈post,k<bs.length)->
  bY (bs,BV<|pre++post,y,(j8 pre:Int),())=I (.inr (B<|post.foldl (λx k=>C4 x<|L<|bsA bs k)<|L y,())):=by
 induction post with
 | nil=>
  intro pre y _ _ _;refine BF ?_;unfold dC;simp only[CJ,DV,show U ((j8 pre:Int)<(j8 pre:Int))=A0 from BE J,A4,K7,B_L]
 | cons k post ih=>
  intro pre y hy hl hk;have h1:=hk k An;have hlen:pre.length<(BV<|pre++k::post).length:=by simp
  refine As (x':=(bs,BV<|pre++k::post,B<|C4 (L y)<|L<|bsA bs k,((pre++[k]).length:Int),())) ?_ ?_
  .unfold dC;simp only[show U ((j8 pre:Int)<((BV<|pre++k::post).length:Int))=Y from AR J,A2,AU hlen,OG,AU h1,OM,aA8 hy<|hbs k h1,A6];rw[DZ hlen<|by simpa using hl,Au];rfl
  .have:=ih (pre++[k]) (B<|C4 (L y)<|L<|bsA bs k) (by rw[BQ,Pu<|by rw[Aw,Aw,hy,hbs k h1],Aw,hy]) (by rw[← snoc];exact hl) λx hx=>hk x<|Ai k hx;rw[← snoc]at this;exact this
end
def Xp{t:A1}{k:Nat}(h:k<(DF t).length):bsA (DF t) k=B (Fz (L t) k):=by
 unfold DF at h ⊢;split
 .rename_i e;rw[A5 e]at h;simp at h;rw[bsA,B9,D7,Gj h];rfl
 .rename_i e;rw[A8 e]at h;cases h
def GG(t:A1)(n:Int):A1:=
 if(Bg (DF t).length n).isEmpty then noB else B (Ds 4 (Fz<|L t)<|Bg (DF t).length n)
def aEJ{t:A1}{n:Int}{y:List UInt8}{ks:List Nat}(hy:y.length=4)(hk:∀k∈ks,k<(DF t).length):
  ks.foldl (λx k=>C4 x<|L<|bsA (DF t) k) y=C4 y (Ds 4 (Fz<|L t) ks):=by
 rw[← lC hy];have:∀(ks:List Nat) (y:List UInt8),(∀k∈ks,k<(DF t).length)->ks.foldl (λx k=>C4 x<|L<|bsA (DF t) k) y=ks.foldl (λx k=>C4 x<|Fz (L t) k) y:=by
  intro ks
  induction ks with
  | nil=>intro _ _;rfl
  | cons k ks ih=>
   intro y h;rw[Dv,Dv,Xp (h k An),ih _ λx hx=>h x<|Ai k hx];rfl
 exact this ks y hk
def YF{t:A1}:∀k,k<(DF t).length->(bsA (DF t) k).size=4:=by
 intro k h;rw[Xp h,BQ,OD]
def amu(t:A1)(n:Int):eV (t,n,())=I ((GG t n,()),()):=by
 unfold eV GG;simp only[zm,iW,A6];have hk:∀k∈Bg (DF t).length n,k<(DF t).length:=λk h=>by
  have:=LY h;omega
 have hl:=Wt (DF t).length n;revert hk hl;generalize Bg (DF t).length n=ks;intro hk hl;cases ks with
 | nil=>
  rw[show UR (DF t,noB,BV [],((BV []).length:Int),0,())=I (.inr (noB,())) from BF rfl];rfl
 | cons k ks=>
  have h1:=hk k An;rw[A8 aE4];have hlen:0<(BV<|k::ks).length:=by simp
  have hrd: @rd Int aE8 (BV<|k::ks) 0=(k:Int):=OG [] k ks;have h:UR (DF t,noB,BV<|k::ks,((BV<|k::ks).length:Int),0,())=I (.inr (B<|Ds 4 (Fz<|L t)<|k::ks,())):=by
   refine As (x':=(DF t,bsA (DF t) k,BV<|[k]++ks,((BV<|[k]++ks).length:Int),(([k]:List Nat).length:Int),())) ?_ ?_
   .unfold V3;simp only[show U ((0:Int)<((BV<|k::ks).length:Int))=Y from AR J,A2,AU (i:=0) hlen,show inb 0 (BV<|k::ks).length=Y from AU (i:=0) hlen,hrd,show U ((0:Int)=0)=Y from rfl,AU h1,OM];rfl
   .have:=asx YF ks [k] (bsA (DF t) k) aE4 (YF k h1) (by simpa using (by simp at hl;omega:ks.length+1<=1048576)) λx hx=>hk x<|Ai k hx;rw[aEJ (n:=n) (by rw[Aw];exact YF k h1) λx hx=>hk x<|Ai k hx,Xp h1]at this;rw[Xp h1];exact this
  rw[h];rfl
def alw(t:A1)(n:Int):eE (t,n,())=I ((GG t n,()),()):=by
 unfold eE GG;simp only[an3,aA4,A6];have hk:∀k∈Bg (DF t).length n,k<(DF t).length:=λk h=>by
  have:=LY h;omega
 have hl:=Wt (DF t).length n;revert hk hl;generalize Bg (DF t).length n=ks;intro hk hl;cases ks with
 | nil=>rw[A5 aE4,A5 aE4]
 | cons k ks=>
  have h1:=hk k An;have hc:(DF t).length≠0:=J
  rw[A8 (by simp;exact⟨λh=>hc (by rw[h];rfl),J⟩),A8 aE4,anM];simp only[A6];have:=arI (bs:=DF t) YF (k::ks) [] (B<|nul 4) (by rfl) (by simpa using (by simp at hl;omega:ks.length+1<=1048576)) hk;rw[aEJ (n:=n) (by rfl) hk]at this;rw[show bY (DF t,BV<|k::ks,B<|nul 4,0,())=_ from this];simp only[AO,A6];rw[L_B,XM<|Pq λx _=>OD _ x]
end Go.VS
namespace Go.VS
open Go
def unk(kn:List A1)(k:Nat):Bool:=U<|bsA kn k=noB
def DE(kn:List A1)(of:List Nat):List Nat:=of.filter<|unk kn
def EO(kn:List A1)(of:List Nat)(y:List UInt8):List UInt8:=of.foldl (λx k=>if unk kn k then x else C4 x (L<|bsA kn k)) y
def CW(b:Nat)(kn:List A1):Prop:=kn.length=b/\ ∀k,k<b->bsA kn k=noB\/(bsA kn k).size=4
def jt{b:Nat}{kn:List A1}(h:CW b kn):∀ {of:List Nat} {y:List UInt8},y.length=4->(∀k∈of,k<b)->(EO kn of y).length=4
 | [],_,hy,_=>hy
 | k::of,y,hy,hk=>by
  unfold EO;rw[Dv];refine jt (of:=of) h ?_ λx hx=>hk x<|Ai k hx;obtain e|e:=tf (unk kn k)
  .rw[e];exact hy
  .rw[e,A4];obtain h1|h1:=h.2 k (hk k An)
   .unfold unk at e;exact absurd h1 (LG e)
   .rw[Pu<|by rw[hy,Aw,h1],hy]
def abO(d:Int)(l:List Nat):Int:=l.foldl (fun(_:Int) (k:Nat)=>(k:Int)) d
section
variable {b:Nat} {kn:List A1} (hkn:CW b kn)
include hkn
def asy(bi:Int)(list l2:List AN)(ag:Bool)(n i:Int)(post:List Nat):∀(pre:List Nat) (y:A1) (u:Int) (m:Nat),y.size=4->(pre++post).length<=1048576->m<=pre.length->(∀k∈post,k<b)->
  bP (bi,list,kn,ag,y,u,(m:Int),l2,n,i,BV<|pre++post,((BV<|pre++post).length:Int),(j8 pre:Int),())=
   I (.inr (bi,list,kn,ag,B<|EO kn post<|L y,abO u<|DE kn post,((m+(DE kn post).length:Nat):Int),l2,n,i,())):=by
 induction post with
 | nil=>
  intro pre y u m _ _ _ _;refine BF ?_;unfold V2;simp only[CJ,DV,show U ((j8 pre:Int)<(j8 pre:Int))=A0 from BE J,A4];show _=I (Sum.inr<|Sum.inr (bi,list,kn,ag,B<|L y,u,(m:Int),l2,n,i,()));rw[B_L]
 | cons k post ih=>
  intro pre y u m hy hl hm hk;have h1:=hk k An;have hlen:pre.length<(BV<|pre++k::post).length:=by simp
  have hb:k<kn.length:=by rw[hkn.1];exact h1
  have hl2:(pre++[k]++post).length<=1048576:=by rw[← snoc];exact hl
  obtain e|e:=tf (unk kn k)
  .refine As (x':=(bi,list,kn,ag,y,(k:Int),((m+1:Nat):Int),l2,n,i,BV<|pre++k::post,((BV<|pre++k::post).length:Int),((pre++[k]).length:Int),())) ?_ ?_
   .unfold V2;simp only[show U ((j8 pre:Int)<((BV<|pre++k::post).length:Int))=Y from AR J,A2,AU hlen,OG,AU hb,OM];rw[A5<|show U (bsA kn k=noB)=Y from e,DZ hlen<|by simpa using hl,Au,AZ (n:=(m:Int)+1) J (by simp at hl;omega)];rfl
   .have:=ih (pre++[k]) y (k:Int) (m+1) hy hl2 y7 λx hx=>hk x<|Ai k hx;rw[← snoc]at this;rw[show DE kn (k::post)=k::DE kn post by unfold DE;rw[Jz,e,A5 rfl]];rw[show EO kn (k::post) (L y)=EO kn post (L y) by unfold EO;rw[Dv,e,A5 rfl]];rw[Bj,show m+((DE kn post).length+1)=m+1+(DE kn post).length by omega];exact this
  .have hs:(bsA kn k).size=4:=by
    obtain h2|h2:=hkn.2 k h1
    .exact absurd h2 (LG e)
    .exact h2
   refine As (x':=(bi,list,kn,ag,B<|C4 (L y)<|L<|bsA kn k,u,(m:Int),l2,n,i,BV<|pre++k::post,((BV<|pre++k::post).length:Int),((pre++[k]).length:Int),())) ?_ ?_
   .unfold V2;simp only[show U ((j8 pre:Int)<((BV<|pre++k::post).length:Int))=Y from AR J,A2,AU hlen,OG,AU hb,OM];rw[A8 (by intro h;unfold unk at e;rw[h]at e;cases e),aAJ hy hs,DZ hlen (by simpa using hl),Au];rfl
   .have:=ih (pre++[k]) (B<|C4 (L y)<|L<|bsA kn k) u m (by rw[BQ,Pu<|by rw[Aw,Aw,hy,hs],Aw,hy]) hl2 y7 λx hx=>hk x<|Ai k hx;rw[← snoc]at this;rw[show DE kn (k::post)=DE kn post by unfold DE;rw[Jz,e,A4]];rw[show EO kn (k::post) (L y)=EO kn post (C4 (L y)<|L<|bsA kn k) by unfold EO;rw[Dv,e,A4]];exact this
def arJ(post:List Nat):∀(pre:List Nat) (y:A1) (o:List Nat),y.size=4->(pre++post).length<=1048576->o.length<=pre.length->(∀k∈post,k<b)->
  bf (kn,BV o,y,BV<|pre++post,(j8 pre:Int),())=I (.inr (BV<|o++DE kn post,B<|EO kn post<|L y,())):=by
 induction post with
 | nil=>
  intro pre y o _ _ _ _;refine BF ?_;unfold VV;simp only[CJ,DV,show U ((j8 pre:Int)<(j8 pre:Int))=A0 from BE J,A4];show _=I (Sum.inr<|Sum.inr (BV<|o++[],B<|L y,()));rw[B_L,CJ]
 | cons k post ih=>
  intro pre y o hy hl hm hk;have h1:=hk k An;have hlen:pre.length<(BV<|pre++k::post).length:=by simp
  have hb:k<kn.length:=by rw[hkn.1];exact h1
  have hl2:(pre++[k]++post).length<=1048576:=by rw[← snoc];exact hl
  obtain e|e:=tf (unk kn k)
  .refine As (x':=(kn,BV<|o++[k],y,BV<|pre++k::post,((pre++[k]).length:Int),())) ?_ ?_
   .unfold VV;simp only[show U ((j8 pre:Int)<((BV<|pre++k::post).length:Int))=Y from AR J,A2,AU hlen,OG,AU hb,OM];rw[A5<|show U (bsA kn k=noB)=Y from e,A5<|BG (by simp;simp at hl;omega),DZ hlen<|by simpa using hl,Au];simp[BV]
   .have:=ih (pre++[k]) y (o++[k]) hy hl2 y7 λx hx=>hk x<|Ai k hx;rw[← snoc]at this;rw[show DE kn (k::post)=k::DE kn post by unfold DE;rw[Jz,e,A5 rfl]];rw[show EO kn (k::post) (L y)=EO kn post (L y) by unfold EO;rw[Dv,e,A5 rfl]];rw[snoc o k<|DE kn post];exact this
  .have hs:(bsA kn k).size=4:=by
    obtain h2|h2:=hkn.2 k h1
    .exact absurd h2 (LG e)
    .exact h2
   refine As (x':=(kn,BV o,B<|C4 (L y)<|L<|bsA kn k,BV<|pre++k::post,((pre++[k]).length:Int),())) ?_ ?_
   .unfold VV;simp only[show U ((j8 pre:Int)<((BV<|pre++k::post).length:Int))=Y from AR J,A2,AU hlen,OG,AU hb,OM];rw[A8 (by intro h;unfold unk at e;rw[h]at e;cases e),aA8 hy hs,DZ hlen (by simpa using hl),Au];rfl
   .have:=ih (pre++[k]) (B<|C4 (L y)<|L<|bsA kn k) o (by rw[BQ,Pu<|by rw[Aw,Aw,hy,hs],Aw,hy]) hl2 y7 λx hx=>hk x<|Ai k hx;rw[← snoc]at this;rw[show DE kn (k::post)=DE kn post by unfold DE;rw[Jz,e,A4]];rw[show EO kn (k::post) (L y)=EO kn post (C4 (L y)<|L<|bsA kn k) by unfold EO;rw[Dv,e,A4]];exact this
end
def F9(b:Nat)(kn:List A1)(m:AN):Option (List A1):=
 if inB m.nu 0 999&&U ((m.da.size:Int)=4) then
  (match DE kn (Bg (b:Int) m.nu) with
   | [u]=>I (kn.set u<|B<|EO kn (Bg (b:Int) m.nu)<|L m.da)
   | _=>G)
 else G
def CF(b:Nat)(s:List A1×Bool)(m:AN):List A1×Bool:=match F9 b s.1 m with|some kn=>(kn,Y)|none=>s
def Ib(b:Nat)(list:List AN)(kn:List A1):List A1×Bool:=list.foldl (CF b) (kn,A0)
def Gb(b:Nat)(list:List AN):Nat->List A1->List A1
 | 0,kn=>kn
 | n+1,kn=>if(Ib b list kn).2 then Gb b list n (Ib b list kn).1 else(Ib b list kn).1
def Sr{kn:List A1}{u:Nat}(v:A1)(hu:u<kn.length)(k:Nat):bsA (kn.set u v) k=if k=u then v else bsA kn k:=by
 rw[bsA,B9,Of];by_cases h:u=k
 .subst h;simp[hu]
 .rw[A8 h,A8<|Ku h,← B9]
def ab7{f g:Nat->Bool}(h:∀i,g i=Y->f i=Y):∀k,cnt g k<=cnt f k
 | 0=>Ar _
 | k+1=>by
  have:=ab7 h k;rw[cnt,cnt];obtain e|e:=tf (g k)
  .rw[e,h k e];omega
  .rw[e,A4];omega
def ab6{f g:Nat->Bool}(h:∀i,g i=Y->f i=Y){u:Nat}(hf:f u=Y)(hg:g u=A0):∀k,u<k->cnt g k<cnt f k
 | 0,h=>J
 | k+1,hk=>by
  rw[cnt,cnt];by_cases e:u=k
  .subst e;rw[hf,hg,A5 rfl,A4];have:=ab7 h u;omega
  .have:=ab6 h hf hg k J;obtain e|e:=tf (g k)
   .rw[e,h k e];omega
   .rw[e,A4];omega
def Se{b:Nat}{kn kn':List A1}{m:AN}(h:CW b kn)(e:F9 b kn m=I kn'):
  CW b kn'/\(∀k,unk kn' k=Y->unk kn k=Y)/\cnt (unk kn') b<cnt (unk kn) b:=by
 unfold F9 at e;split at e
 .rename_i hc;rw[AD]at hc;have hs:=Bd hc.2;split at e
  .rename_i u hu;injection e with e;subst e;have FW:u∈DE kn (Bg (b:Int) m.nu):=by rw[hu];exact Og u
   obtain⟨h1,h2⟩:=FP.1 FW;have h3:=LY h1;have hub:u<b:=J
   have hul:u<kn.length:=by rw[h.1];exact hub
   have hlen:(B<|EO kn (Bg (b:Int) m.nu)<|L m.da).size=4:=by
    rw[BQ,jt h (by rw[Aw];omega) λk hk=>by have:=LY hk;omega]
   have hno:B (EO kn (Bg (b:Int) m.nu)<|L m.da)≠noB:=by
    intro hh;rw[hh]at hlen;cases hlen
   have abw:∀k,unk (kn.set u<|B<|EO kn (Bg (b:Int) m.nu)<|L m.da) k=Y->unk kn k=Y:=by
    intro k hk;unfold unk at hk;rw[Sr _ hul]at hk;by_cases ek:k=u
    .rw[A5 ek]at hk;exact absurd (Bd hk) hno
    .rw[A8 ek]at hk;exact hk
   refine⟨⟨by rw[GP,h.1], ?_⟩,abw,ab6 abw h2 ?_ b hub⟩
   .intro k hk;rw[Sr _ hul];by_cases ek:k=u
    .rw[A5 ek];exact N6 hlen
    .rw[A8 ek];exact h.2 k hk
   .unfold unk;rw[Sr _ hul,A5 rfl];exact BE hno
  .cases e
 .cases e
def MT{b:Nat}:∀(list:List AN) (s:List A1×Bool),CW b s.1->
  CW b (list.foldl (CF b) s).1/\(∀k,unk (list.foldl (CF b) s).1 k=Y->unk s.1 k=Y)/\cnt (unk (list.foldl (CF b) s).1) b<=cnt (unk s.1) b/\
  ((list.foldl (CF b) s).2=Y->s.2=Y\/cnt (unk (list.foldl (CF b) s).1) b<cnt (unk s.1) b)
 | [],s,h=>⟨h,λ_ hk=>hk,Ar _,λhs=>N7 hs⟩
 | m::list,s,h=>by
  rw[Dv];cases e:F9 b s.1 m with
  | none=>
   rw[show CF b s m=s by unfold CF;rw[e]];exact MT list s h
  | some kn=>
   rw[show CF b s m=(kn,Y) by unfold CF;rw[e]];obtain⟨a1,a2,a3⟩:=Se h e;obtain⟨b1,b2,b3,_⟩:=MT list (kn,Y) a1;have b4:cnt (unk (list.foldl (CF b) (kn,Y)).1) b<=cnt (unk kn) b:=b3;exact⟨b1,λk hk=>a2 k<|b2 k hk,J,λ_=>N6 J⟩
end Go.VS
namespace Go.VS
open Go
def Lo(pre:List AN)(m:AN)(post:List AN): @rd AN aFh (pre++m::post) (j8 pre:Int)=m:=by
 rw[OL,B9,FO<|Ar _];simp
def asp(u:Nat):abO (-1) [u]=(u:Int):=rfl
def aB0{b:Nat}{kn kn':List A1}{m:AN}(ag:Bool)(h:F9 b kn m=I kn'):CF b (kn,ag) m=(kn',Y):=by unfold CF;rw[h]
def WI{b:Nat}{kn:List A1}{m:AN}(ag:Bool)(h:F9 b kn m=G):CF b (kn,ag) m=(kn,ag):=by unfold CF;rw[h]
def aEM{b:Nat}{kn:List A1}{n:Int}{u:Nat}(h:DE kn (Bg (b:Int) n)=[u]):u<b:=by
 have:u∈DE kn (Bg (b:Int) n):=by rw[h];exact Og u
 have:=LY (FP.1 this).1;omega
def aqu{b:Nat}(h6:b<=6)(list:List AN)(post:List AN):∀(pre:List AN) (kn:List A1) (ag:Bool),CW b kn->(pre++post).length<=1048576->
  UQ ((b:Int),list,kn,ag,pre++post,((pre++post).length:Int),(j8 pre:Int),())=
   I (.inr ((b:Int),list,(post.foldl (CF b) (kn,ag)).1,(post.foldl (CF b) (kn,ag)).2,())):=by
 induction post with
 | nil=>
  intro pre kn ag _ _;refine BF ?_;unfold Nb;simp only[CJ,show U ((j8 pre:Int)<(j8 pre:Int))=A0 from BE J,A4];rfl
 | cons m post ih=>
  intro pre kn ag hk hl;have hlen:pre.length<(pre++m::post).length:=by simp
  have hw:=DZ hlen hl;have nxt:∀(kn':List A1) (ag':Bool),CW b kn'->CF b (kn,ag) m=(kn',ag')->
    Nb ((b:Int),list,kn,ag,pre++m::post,((pre++m::post).length:Int),(j8 pre:Int),())=I (.inl ((b:Int),list,kn',ag',pre++m::post,((pre++m::post).length:Int),((pre.length+1:Nat):Int),()))->
    UQ ((b:Int),list,kn,ag,pre++m::post,((pre++m::post).length:Int),(j8 pre:Int),())=
     I (.inr ((b:Int),list,((m::post).foldl (CF b) (kn,ag)).1,((m::post).foldl (CF b) (kn,ag)).2,())):=by
   intro kn' ag' h1 h2 h3;refine As h3 ?_;have:=ih (pre++[m]) kn' ag' h1 (by rw[← snoc];exact hl);rw[← snoc,@Au _ pre [m]]at this;rw[Dv,h2];exact this
  obtain e1|e1:=tf (inB m.nu 0 999)
  .by_cases e2:(m.da.size:Int)=4
   .have hh:F9 b kn m=(match DE kn (Bg (b:Int) m.nu) with|[u]=>I (kn.set u<|B<|EO kn (Bg (b:Int) m.nu)<|L m.da)|_=>G):=by
     unfold F9;rw[A5<|by rw[e1,AR e2]<;>rfl]<;>rfl
    have hlo:(Bg (b:Int) m.nu).length<=1048576:=CV (Wt _ _) J;have hi:=asy hk (b:Int) list (pre++m::post) ag ((pre++m::post).length:Int) (j8 pre:Int) (Bg (b:Int) m.nu) [] m.da (-1) 0 J hlo (Ar _) λk h=>by have:=LY h;omega
    have hi2:bP ((b:Int),list,kn,ag,m.da,-1,0,pre++m::post,((pre++m::post).length:Int),(j8 pre:Int),BV<|Bg (b:Int) m.nu,((BV<|Bg (b:Int) m.nu).length:Int),0,())=_:=hi;by_cases e3:(DE kn<|Bg (b:Int) m.nu).length=1
    .obtain⟨u,hu⟩:=aBY.1 e3;rw[hu]at hh;have hub:=aEM hu;refine nxt _ Y (Se hk hh).1 (aB0 ag hh) ?_;unfold Nb;simp only[show U ((j8 pre:Int)<((pre++m::post).length:Int))=Y from AR J,A2,AU hlen,Lo,EJ,A6,e1,e2,AB,AT,EV,A4,iW,hi2,hu];simp only[AO,A6,asp,AU (show u<kn.length by rw[hk.1];exact hub),A2,Bc,hw];rfl
    .have hn:F9 b kn m=G:=by
      rw[hh];split
      .rename_i u hu;rw[hu]at e3;exact absurd rfl e3
      .rfl
     refine nxt kn ag hk (WI ag hn) ?_;unfold Nb;simp only[show U ((j8 pre:Int)<((pre++m::post).length:Int))=Y from AR J,A2,AU hlen,Lo,EJ,A6,e1,e2,AB,AT,EV,A4,iW,hi2];simp only[AO,A6,DY,show U (((DE kn<|Bg (b:Int) m.nu).length:Int)=1)=A0 from BE J,A4,hw]
   .have hn:F9 b kn m=G:=by
     unfold F9;rw[A8 (by rw[BE e2,BZ];exact CQ)]
    refine nxt kn ag hk (WI ag hn) ?_;unfold Nb;simp only[show U ((j8 pre:Int)<((pre++m::post).length:Int))=Y from AR J,A2,AU hlen,Lo,EJ,A6,BE e2,AG,DL,hw]
  .have hn:F9 b kn m=G:=by
    unfold F9;rw[A8 (by rw[e1,AM];exact CQ)]
   refine nxt kn ag hk (WI ag hn) ?_;unfold Nb;simp only[show U ((j8 pre:Int)<((pre++m::post).length:Int))=Y from AR J,A2,AU hlen,Lo,EJ,A6,e1,AG,Bt,hw]
def mh{b:Nat}(h0:0<b)(h6:b<=6)(n:Int):Dr (b:Int) n=inB n 0 999:=by
 unfold Dr;rw[Aa.2 J,AP]
def anN{b:Nat}{kn:List A1}(hk:CW b kn)(n:Int){d:A1}(hd:d.size=4):
  fF ((b:Int),(n,d,()),kn,())=I ((BV<|DE kn<|Bg (b:Int) n,B<|EO kn (Bg (b:Int) n)<|L d,()),()):=by
 unfold fF;simp only[aA4,A6];have hlo:(Bg (b:Int) n).length<=1048576:=CV (Wt _ _) J;have hi:=arJ hk (Bg (b:Int) n) [] d [] hd hlo (Ar _) λk h=>by have:=LY h;omega
 have hi2:bf (kn,[],d,BV<|Bg (b:Int) n,0,())=_:=hi;rw[hi2];rfl
def sZ(b n:Int)(d:A1):Rg (b,(n,d,()),())=I ((Dr b n&&U ((d.size:Int)=4),()),()):=by
 unfold Rg;simp only[WU,A6]
def aq8{b:Nat}(h0:0<b)(h6:b<=6)(post:List AN):∀(pre:List AN) (kn:List A1) (ag:Bool),CW b kn->(pre++post).length<=1048576->
  UK ((b:Int),pre++post,kn,ag,(j8 pre:Int),())=
   I (.inr ((b:Int),pre++post,(post.foldl (CF b) (kn,ag)).1,(post.foldl (CF b) (kn,ag)).2,())):=by
 induction post with
 | nil=>
  intro pre kn ag _ _;refine BF ?_;unfold PM;simp only[CJ,show U ((j8 pre:Int)<(j8 pre:Int))=A0 from BE J,A4];rfl
 | cons m post ih=>
  intro pre kn ag hk hl;have hlen:pre.length<(pre++m::post).length:=by simp
  have hw:=DZ hlen hl;have nxt:∀(kn':List A1) (ag':Bool),CW b kn'->CF b (kn,ag) m=(kn',ag')->
    PM ((b:Int),pre++m::post,kn,ag,(j8 pre:Int),())=I (.inl ((b:Int),pre++m::post,kn',ag',((pre.length+1:Nat):Int),()))->
    UK ((b:Int),pre++m::post,kn,ag,(j8 pre:Int),())=
     I (.inr ((b:Int),pre++m::post,((m::post).foldl (CF b) (kn,ag)).1,((m::post).foldl (CF b) (kn,ag)).2,())):=by
   intro kn' ag' h1 h2 h3;refine As h3 ?_;have:=ih (pre++[m]) kn' ag' h1 (by rw[← snoc];exact hl);rw[← snoc,@Au _ pre [m]]at this;rw[Dv,h2];exact this
  obtain e|e:=tf (inB m.nu 0 999&&U ((m.da.size:Int)=4))
  .have e':=e;rw[AD]at e';have e2:=Bd e'.2;have hh:F9 b kn m=(match DE kn (Bg (b:Int) m.nu) with|[u]=>I (kn.set u<|B<|EO kn (Bg (b:Int) m.nu)<|L m.da)|_=>G):=by
    unfold F9;rw[A5 e]<;>rfl
   have hL:=anN hk m.nu (d:=m.da) J;by_cases e3:(DE kn<|Bg (b:Int) m.nu).length=1
   .obtain⟨u,hu⟩:=aBY.1 e3;rw[hu]at hh;have hub:=aEM hu;refine nxt _ Y (Se hk hh).1 (aB0 ag hh) ?_;unfold PM;simp only[show U ((j8 pre:Int)<((pre++m::post).length:Int))=Y from AR J,A2,AU hlen,Lo,sZ,mh h0 h6,A6,e,AB,A4,hL,hu];rw[A5<|by rfl,A5<|by rfl,show @rd Int aE8 (BV [u]) 0=(u:Int) from rfl,A5<|AU (show u<kn.length by rw[hk.1];exact hub),hw];rfl
   .have hn:F9 b kn m=G:=by
     rw[hh];split
     .rename_i u hu;rw[hu]at e3;exact absurd rfl e3
     .rfl
    refine nxt kn ag hk (WI ag hn) ?_;unfold PM;simp only[show U ((j8 pre:Int)<((pre++m::post).length:Int))=Y from AR J,A2,AU hlen,Lo,sZ,mh h0 h6,A6,e,AB,A4,hL,DV,
     show U (((DE kn<|Bg (b:Int) m.nu).length:Int)=1)=A0 from BE J,hw]
  .have hn:F9 b kn m=G:=by
    unfold F9;rw[A8 (by rw[e];exact CQ)]
   refine nxt kn ag hk (WI ag hn) ?_;unfold PM;simp only[show U ((j8 pre:Int)<((pre++m::post).length:Int))=Y from AR J,A2,AU hlen,Lo,sZ,mh h0 h6,A6,e,AG,hw]
def aCr{b:Nat}(h6:b<=6)(list:List AN)(hl:list.length<=1048576):∀(n:Nat) (kn:List A1),CW b kn->cnt (unk kn) b<n->
  qS ((b:Int),list,kn,Y,())=I (.inr (Gb b list n kn,()))
 | 0,_,_,h=>J
 | n+1,kn,hk,h=>by
  have hr:=aqu h6 list list [] kn A0 hk hl;have hr2:UQ ((b:Int),list,kn,A0,list,(list.length:Int),0,())=I (.inr ((b:Int),list,(Ib b list kn).1,(Ib b list kn).2,())):=hr;obtain⟨g1,g2,g3,g4⟩:=MT list (kn,A0) hk;refine As (x':=((b:Int),list,(Ib b list kn).1,(Ib b list kn).2,())) ?_ ?_
  .unfold sK;simp only[A2,hr2];rfl
  .rw[Gb];obtain e|e:=tf (Ib b list kn).2
   .rw[e,A5 rfl];obtain g|g:=g4 e
    .cases g
    .exact aCr h6 list hl n _ g1 (Gf g<|Nat.le_of_lt_succ h)
   .rw[e,A4];exact BF rfl
def aC3{b:Nat}(h0:0<b)(h6:b<=6)(list:List AN)(hl:list.length<=1048576):∀(n:Nat) (kn:List A1),CW b kn->cnt (unk kn) b<n->
  qa ((b:Int),list,kn,Y,())=I (.inr (Gb b list n kn,()))
 | 0,_,_,h=>J
 | n+1,kn,hk,h=>by
  have hr:=aq8 h0 h6 list [] kn A0 hk hl;have hr2:UK ((b:Int),list,kn,A0,0,())=I (.inr ((b:Int),list,(Ib b list kn).1,(Ib b list kn).2,())):=hr;obtain⟨g1,g2,g3,g4⟩:=MT list (kn,A0) hk;refine As (x':=((b:Int),list,(Ib b list kn).1,(Ib b list kn).2,())) ?_ ?_
  .unfold sB;simp only[A2,hr2];rfl
  .rw[Gb];obtain e|e:=tf (Ib b list kn).2
   .rw[e,A5 rfl];obtain g|g:=g4 e
    .cases g
    .exact aC3 h0 h6 list hl n _ g1 (Gf g<|Nat.le_of_lt_succ h)
   .rw[e,A4];exact BF rfl
def mQ(f:Nat->Bool):∀k,cnt f k<=k
 | 0=>Ar _
 | k+1=>by
  have:=mQ f k;rw[cnt];split<;>omega
def CW.new(b:Nat):CW b (BS b noB):=by
 refine⟨by simp,λk hk=>N7 ?_⟩;rw[bsA,B9,Yh,A5 hk];rfl
def HX(b:Int)(list:List AN):List A1:=if inB b 1 6 then Gb b.toNat list 7 (BS b.toNat noB) else []
def amJ(b:Int)(list:List AN)(hl:list.length<=1048576):eU (b,list,())=I ((HX b list,()),()):=by
 unfold eU HX;simp only[EJ,A6];obtain e|e:=tf (inB b 1 6)
 .have h1:=Aa.1 e;simp only[e,AB,A4,A2];rw[A5 y7];have:=aCr (b:=b.toNat) J list hl 7 _ (CW.new _) (by have:=mQ (unk<|BS b.toNat noB) b.toNat;omega);rw[show((b.toNat:Nat):Int)=b by omega]at this;rw[show(dfl .str:A1)=noB from rfl,this];rfl
 .simp only[e,AG,A2,A4]
def alv(b:Int)(list:List AN)(hl:list.length<=1048576):eC (b,list,())=I ((HX b list,()),()):=by
 unfold eC HX;simp only[Hr,A6];obtain e|e:=tf (inB b 1 6)
 .have h1:=Aa.1 e;simp only[e,AB,A4,A2];rw[A5 y7];have:=aC3 (b:=b.toNat) J J list hl 7 _ (CW.new _) (by have:=mQ (unk<|BS b.toNat noB) b.toNat;omega);rw[show((b.toNat:Nat):Int)=b by omega]at this;rw[show(dfl .str:A1)=noB from rfl,this];rfl
 .simp only[e,AG,A2,A4]
def Fy:List A1->A1->Option A1
 | [],a=>I a
 | x::r,a=>if x=noB then G else Fy r (a++x)
def XI:∀ {l:List A1} {a c:A1},(∀x∈l,x=noB\/x.size=4)->Fy l a=I c->c.size=a.size+4 * l.length
 | [],a,c,_,h=>by
  injection h with h;rw[h];rfl
 | x::r,a,c,hx,h=>by
  unfold Fy at h;split at h
  .cases h
  .rename_i hne;rw[XI (λy hy=>hx y<|Ai x hy) h,By,Bj];obtain h1|h1:=hx x An
   .exact absurd h1 hne
   .omega
def Mq(pre:List A1)(x:A1)(post:List A1): @rd A1 aFf (pre++x::post) (j8 pre:Int)=x:=by
 rw[OL,B9,FO<|Ar _];simp
abbrev Ze(s:Int)(o:Option A1):(A1×Bool×D) ⊕ (Int×A1×D):=match o with|none=> .inl (noB,A0,())|some c=> .inr (s,c,())
def auD(s:Int)(post:List A1):∀(pre:List A1) (a:A1),(pre++post).length<=1048576->(∀x∈post,x.size<=4)->a.size<=4 * pre.length->
  bO (s,a,pre++post,((pre++post).length:Int),(j8 pre:Int),())=I (Ze s<|Fy post a):=by
 induction post with
 | nil=>
  intro pre a _ _ _;refine BF ?_;unfold V1;simp only[CJ,show U ((j8 pre:Int)<(j8 pre:Int))=A0 from BE J,A4];rfl
 | cons x post ih=>
  intro pre a hl hx ha;have hlen:pre.length<(pre++x::post).length:=by simp
  have hw:=DZ hlen hl;have hx4:=hx x An;by_cases e:x=noB
  .refine BF ?_;unfold V1 Fy;simp only[show U ((j8 pre:Int)<((pre++x::post).length:Int))=Y from AR J,A2,AU hlen,Mq];rw[A5<|AR e,A5 e]
  .refine As (x':=(s,a++x,pre++x::post,((pre++x::post).length:Int),((pre++[x]).length:Int),())) ?_ ?_
   .unfold V1;simp only[show U ((j8 pre:Int)<((pre++x::post).length:Int))=Y from AR J,A2,AU hlen,Mq];rw[A8 (by rw[BE e];exact CQ),A5<|AR (by simp at hl;omega),hw,@Au _ pre [x]];rfl
   .have:=ih (pre++[x]) (a++x) (by rw[← snoc];exact hl) (λy hy=>hx y<|Ai x hy) (by rw[By,Au,Im];omega);rw[← snoc]at this;rw[show Fy (x::post) a=Fy post (a++x) from A8 e];exact this
def atJ(s:Int)(post:List A1):∀(pre:List A1) (a:A1),(pre++post).length<=1048576->(∀x∈post,x.size<=4)->a.size<=4 * pre.length->
  bX (s,pre++post,a,(j8 pre:Int),())=I (Ze s<|Fy post a):=by
 induction post with
 | nil=>
  intro pre a _ _ _;refine BF ?_;unfold VB;simp only[CJ,show U ((j8 pre:Int)<(j8 pre:Int))=A0 from BE J,A4];rfl
 | cons x post ih=>
  intro pre a hl hx ha;have hlen:pre.length<(pre++x::post).length:=by simp
  have hw:=DZ hlen hl;have hx4:=hx x An;by_cases e:x=noB
  .refine BF ?_;unfold VB Fy;simp only[show U ((j8 pre:Int)<((pre++x::post).length:Int))=Y from AR J,A2,AU hlen,Mq];rw[A5<|AR e,A5 e]
  .refine As (x':=(s,pre++x::post,a++x,((pre++[x]).length:Int),())) ?_ ?_
   .unfold VB;simp only[show U ((j8 pre:Int)<((pre++x::post).length:Int))=Y from AR J,A2,AU hlen,Mq];rw[A8 (by rw[BE e];exact CQ),A5<|AR (by simp at hl;omega),hw,@Au _ pre [x]];rfl
   .have:=ih (pre++[x]) (a++x) (by rw[← snoc];exact hl) (λy hy=>hx y<|Ai x hy) (by rw[By,Au,Im];omega);rw[← snoc]at this;rw[show Fy (x::post) a=Fy post (a++x) from A8 e];exact this
def Mo(c:A1)(s:Nat):Bool:=B6 (c.size - s) λi=>U<|bt c ((s+i:Nat):Int)=0
def asu{c:A1}{s:Nat}(h:s<=c.size)(hc:c.size<=1048576):qR ((s:Int),c,(s:Int),())=I (if Mo c s then .inr ((s:Int),c,()) else .inl (noB,A0,())):=by
 refine DR (λi=>((s:Int),c,((s+i:Nat):Int),())) (c.size - s) _ _ _ ?_ ?_
 .intro i hi;unfold dN;simp only[show U (((s+i:Nat):Int)<(c.size:Int))=Y from AR J,A2,AU (J:s+i<c.size)];rw[AZ J J];obtain e|e:=tf (U<|bt c ((s+i:Nat):Int)=0)
  .simp only[e,AB,A4,A2];rfl
  .simp only[e,AG,A4,A2]
 .unfold dN;simp only[show U (((s+(c.size - s):Nat):Int)<(c.size:Int))=A0 from BE J,A4]
def as4{c:A1}{s:Nat}(h:s<=c.size)(hc:c.size<=1048576):qZ ((s:Int),c,(s:Int),())=I (if Mo c s then .inr ((s:Int),c,()) else .inl (noB,A0,())):=by
 refine DR (λi=>((s:Int),c,((s+i:Nat):Int),())) (c.size - s) _ _ _ ?_ ?_
 .intro i hi;unfold dB;simp only[show U (((s+i:Nat):Int)<(c.size:Int))=Y from AR J,A2,AU (J:s+i<c.size)];rw[AZ J J];obtain e|e:=tf (U<|bt c ((s+i:Nat):Int)=0)
  .simp only[e,AB,A4,A2];rfl
  .simp only[e,AG,A4,A2]
 .unfold dB;simp only[show U (((s+(c.size - s):Nat):Int)<(c.size:Int))=A0 from BE J,A4]
def Xd{b:Nat}(list:List AN):∀(n:Nat) (kn:List A1),CW b kn->CW b (Gb b list n kn)
 | 0,_,h=>h
 | n+1,kn,h=>by
  have:=(MT list (kn,A0) h).1;unfold Gb;split
  .exact Xd list n _ this
  .exact this
def CW.all{b:Nat}{kn:List A1}(h:CW b kn):∀x∈kn,x=noB\/x.size=4:=by
 intro x hx;obtain⟨k,hk,rfl⟩:=Yd.1 hx;have:=h.2 k (by rw[← h.1];exact hk);rw[bsA,B9,Av hk]at this;exact this
def ka{b:Int}(hb:inB b 1 6=Y)(list:List AN):CW b.toNat (HX b list):=by
 unfold HX;rw[A5 hb];exact Xd list 7 _<|CW.new _
def CW.le{b:Nat}{kn:List A1}(h:CW b kn):∀x∈kn,x.size<=4:=by
 intro x hx;obtain h1|h1:=h.all x hx
 .rw[h1];exact D1 _
 .omega
def F7(s:Int)(list:List AN):A1×Bool:=
 if inB s 1 24 then(match Fy (HX (B0 (s+3) 4) list) noB with
  | none=>(noB,A0)
  | some c=>if Mo c s.toNat then(c.extract 0 s.toNat,Y) else(noB,A0)) else(noB,A0)
def aAq(s:Int)(hs:0<=s)(c:A1)(hc:s<=c.size)(b:Bool):
  AO (I<|if b then(.inr (s,c,()):(A1×Bool×D) ⊕ (Int×A1×D)) else .inl (noB,A0,())) (λy=>I (y,()))
   (λy=>if(U (0<=y.1)&&U (y.1<=(y.2.1.size:Int))) then I ((y.2.1.extract 0<|AK y.1,Y,()),()) else G)=
   I (((if b then(c.extract 0 s.toNat,Y) else(noB,A0)).1,(if b then(c.extract 0 s.toNat,Y) else(noB,A0)).2,()),()):=by
 cases b
 .rfl
 .show(if(U (0<=s)&&U (s<=(c.size:Int))) then _ else _)=_;rw[A5 y7];rfl
def amI(s:Int)(list:List AN)(hl:list.length<=1048576):eS (s,list,())=I (((F7 s list).1,(F7 s list).2,()),()):=by
 unfold eS F7;simp only[EJ,A6];obtain e|e:=tf (inB s 1 24)
 .have h1:=Aa.1 e;have hd:B0 (s+3) 4=(s+3) / 4:=H9 J;simp only[e,AB,A4,A2];rw[AZ (n:=s+4) J J,AZ (n:=s+4 - 1) J J,show s+4 - 1=s+3 by omega,AZ J J,amJ _ _ hl];simp only[A6];have hb:inB (B0 (s+3) 4) 1 6=Y:=Aa.2 J;have hk:=ka hb list;have oU:=auD s (HX (B0 (s+3) 4) list) [] noB (by rw[EU,hk.1];omega) (CW.le hk)<|Ar _;have oI:bO (s,noB,HX (B0 (s+3) 4) list,((HX (B0 (s+3) 4) list).length:Int),0,())=_:=oU;rw[oI];cases hc:Fy (HX (B0 (s+3) 4) list) noB with
  | none=>rfl
  | some c=>
   have hz:=XI hk.all hc;have hz0:noB.size=0:=rfl;rw[hk.1,hz0]at hz;have hzero:=asu (c:=c) (s:=s.toNat) J J;rw[show((s.toNat:Nat):Int)=s by omega]at hzero;simp only[AO,A6,Ze];rw[hzero];exact aAq s J c J _
 .simp only[e,AG,A2,A4]
def alu(s:Int)(list:List AN)(hl:list.length<=1048576):eB (s,list,())=I (((F7 s list).1,(F7 s list).2,()),()):=by
 unfold eB F7;simp only[Hr,A6];obtain e|e:=tf (inB s 1 24)
 .have h1:=Aa.1 e;have hd:B0 (s+3) 4=(s+3) / 4:=H9 J;simp only[e,AB,A4,A2,dT (n:=s) J J,A6];rw[alv _ _ hl];simp only[A6];have hb:inB (B0 (s+3) 4) 1 6=Y:=Aa.2 J;have hk:=ka hb list;have oU:=atJ s (HX (B0 (s+3) 4) list) [] noB (by rw[EU,hk.1];omega) (CW.le hk)<|Ar _;have oI:bX (s,HX (B0 (s+3) 4) list,noB,0,())=_:=oU;rw[oI];cases hc:Fy (HX (B0 (s+3) 4) list) noB with
  | none=>rfl
  | some c=>
   have hz:=XI hk.all hc;have hz0:noB.size=0:=rfl;rw[hk.1,hz0]at hz;have hzero:=as4 (c:=c) (s:=s.toNat) J J;rw[show((s.toNat:Nat):Int)=s by omega]at hzero;simp only[AO,A6,Ze];rw[hzero];exact aAq s J c J _
 .simp only[e,AG,A2,A4]
end Go.VS
end
