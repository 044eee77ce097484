/- Part 8. -/
import Derived.Test.YtcdeafiabojglaaGreatDoorQAQ
import Derived.Lib.ItoaMem
open BitVec renaming eq_of_toNat_eq->mz,ofInt->F9,toNat_ofInt->Qn
open Bool renaming and_eq_true->AE,and_false->BX,and_self->EY,and_true->KJ,eq_iff_iff->NL,false->A0,false_and->AO,false_ne_true->CF,false_or->Bn,not_eq_true'->CM,not_false->AH,not_true->AB,or_eq_false_iff->NJ,or_eq_true->C8,or_false->EX,or_self->GL,or_true->DU,true->Y,true_and->AS,true_or->Bw
open ByteArray renaming data_extract->Zs,size->aB
open Classical renaming choose->NK,choose_spec->J3
open Decidable renaming decide->U
open Eq renaming trans->LM
open Go.IntKind renaming wrap->Zv
open Go.Lib renaming cut->FO,decDigits->mZ,index_one->UA,itoa->B6,itoa_neg->mh,splitB->J6,splitK->GN
open Int renaming emod_eq_of_lt->mT,eq_ofNat_of_zero_le->HG,le_refl->Dw,mul_comm->Qw,tdiv->Ay,tdiv_eq_ediv_of_nonneg->Fh,tmod->BJ,tmod_eq_emod_of_nonneg->LI,toNat->AJ,toNat_natCast->Bc
open List renaming all_eq_true->DB,append_assoc->C7,append_cancel_left->aD7,append_nil->CE,concat_eq_append->aDK,cons_append->LH,count_cons_self->aDN,drop->Bp,dropWhile_cons->mP,drop_append_of_le_length->Tu,drop_drop->J5,drop_eq_getElem_cons->Tt,drop_eq_nil_of_le->KI,drop_left'->Qm,drop_zero->Iy,eq_nil_of_length_eq_zero->Df,eq_nil_or_concat->aDJ,filter_append->P5,filter_cons->JY,filter_nil->Zz,flatMap_append->mb,foldlM_cons->Ts,foldl_cons->Du,foldl_nil->KK,getD_eq_getElem?_getD->BG,getElem?_append_left->II,getElem?_append_right->FN,getElem?_drop->Hk,getElem?_eq_getElem->Av,getElem?_eq_none->Hm,getElem?_eq_some_iff->BR,getElem?_map->DA,getElem?_range->Gj,getElem?_replicate->Zq,getElem?_set->U8,getElem_mem->Ci,getElem_of_mem->Cz,length->Jd,length->j8,length_append->Am,length_cons->Bm,length_drop->E4,length_eq_one_iff->aDG,length_filter_le->J1,length_map->De,length_nil->CL,length_range->R0,length_set->G2,length_singleton->KH,length_take->DW,length_zipWith->mQ,map_append->Eg,map_congr_left->Gi,map_cons->DV,map_id->Zy,map_map->IF,map_nil->IK,mem_append->BN,mem_append_left->Bz,mem_cons->Bj,mem_cons_of_mem->Ah,mem_cons_self->Ao,mem_filter->F8,mem_iff_getElem->Zo,mem_map->C0,mem_of_getElem?->Cp,mem_of_mem_drop->Iz,mem_of_mem_take->HI,mem_range->Cy,mem_singleton->C1,mem_singleton_self->MP,nil_append->EV,not_mem_nil->Zn,range->B1,range_succ->Hl,replicate->BZ,replicate_succ->aDE,take->BV,takeWhile_append_dropWhile->Zk,takeWhile_cons->Qr,takeWhile_sublist->aDF,take_add_one->JW,take_append_drop->JZ,take_left'->P4,take_length->EG,take_of_length_le->J2,take_take->aC,zipWith_cons_cons->Oz
open List.cons renaming injEq->MR
open Nat renaming add_assoc->D8,add_comm->NR,add_zero->Ho,eq_zero_or_pos->U6,le_refl->Ar,le_trans->C6,lt_of_lt_of_le->Gl,lt_or_ge->GM,lt_trans->Zw,lt_trichotomy->J0,mod_eq_of_lt->P2,mod_lt->P7,pow_succ->Qv,sub_self->LJ,sub_zero->Je,zero_add->DM,zero_le->Ch
open Ne renaming symm->LL
open Option renaming bind_eq_some_iff->Ag,bind_some->A6,filter_eq_some_iff->Ja,getD_some->Dd,isSome_some->Dk,none->G,some->I
open Option.some renaming injEq->Bv
open Or renaming inl->NX,inr->NV
open Prod.mk renaming injEq->CS
open UInt8 renaming ofNat->KM,toNat_inj->Ql
set_option linter.all false
noncomputable section
namespace Go.VS
open Go
section
variable {σ ρ β γ:Type} {b:σ->Option (σ ⊕ ρ)}
def BC{x:σ}{y:ρ}(h:b x=I (.inr y)):AT b x=I y:=aDY (n:=1)<|by simp[Hg,h]
def At{x x':σ}{y:ρ}(h:b x=I (.inl x'))(hy:AT b x'=I y):AT b x=I y:=by
 obtain⟨n,hn⟩:=aE7 hy;exact aDY (n:=n+1)<|by simp[Hg,h,hn]
def CX(st:Nat->σ)(n:Nat){y:ρ}(h:∀i,i<n->b (st i)=I (.inl<|st<|i+1))(hn:b (st n)=I (.inr y)):AT b (st 0)=I y:=by
 have:∀k,k<=n->AT b (st<|n - k)=I y:=by
  intro k
  induction k with
  | zero=>intro _;exact BC hn
  | succ k ih=>
   intro hk;refine At (h (n - (k+1)) J) ?_;rw[show n - (k+1)+1=n - k by omega];exact ih J
 have:=this n<|Ar _;rwa[LJ]at this
def aws(Inv:Nat->σ->Prop)(Nr:ρ->Prop)(n:Nat)(pX:∀i s,i<n->Inv i s->(∃s',b s=I (.inl s')/\Inv (i+1) s')\/(∃r,b s=I (.inr r)/\Nr r))
  (py:∀s,Inv n s->∃r,b s=I (.inr r)/\Nr r){s0:σ}(h0:Inv 0 s0):∃r,AT b s0=I r/\Nr r:=by
 have:∀k,k<=n->∀s,Inv (n - k) s->∃r,AT b s=I r/\Nr r:=by
  intro k
  induction k with
  | zero=>
   intro _ s hs;obtain⟨r,h1,h2⟩:=py s hs;exact⟨r,BC h1,h2⟩
  | succ k ih=>
   intro hk s hs;obtain⟨s',h1,h2⟩|⟨r,h1,h2⟩:=pX _ s J hs
   .rw[show n - (k+1)+1=n - k by omega]at h2;obtain⟨r,h3,h4⟩:=ih J s' h2;exact⟨r,At h1 h3,h4⟩
   .exact⟨r,BC h1,h2⟩
 exact this n (Ar _) s0<|by rwa[LJ]
end
def Gf{β:Type}(q:Nat->Option β):Nat->Nat->Option β
 | 0,_=>G
 | k+1,i=>match q i with
  | some r=>I r
  | none=>Gf q k (i+1)
section
variable {σ β γ:Type} {b:σ->Option (σ ⊕ (β ⊕ γ))}
def aE8(st:Nat->σ)(n:Nat)(q:Nat->Option β)(fin:γ)
  (h:∀i,i<n->b (st i)=I (match q i with|none=> .inl (st<|i+1)|some r=> .inr<|.inl r))
  (hn:b (st n)=I (.inr<|.inr fin)):AT b (st 0)=I (match Gf q n 0 with|none=> .inr fin|some r=> .inl r):=by
 have:∀k,k<=n->AT b (st<|n - k)=I (match Gf q k (n - k) with|none=> .inr fin|some r=> .inl r):=by
  intro k
  induction k with
  | zero=>intro _;exact BC hn
  | succ k ih=>
   intro hk;have h1:=h (n - (k+1)) J;unfold Gf;cases hq:q (n - (k+1)) with
   | some r=>rw[hq]at h1;exact BC h1
   | none=>
    rw[hq]at h1;refine At h1 ?_;rw[show n - (k+1)+1=n - k by omega];exact ih J
 have:=this n<|Ar _;rwa[LJ]at this
def M0(p:Nat->Bool):Nat->Nat->Bool
 | 0,_=>Y
 | k+1,i=>p i&&M0 p k (i+1)
def B5(n:Nat)(p:Nat->Bool):Bool:=M0 p n 0
def aFi{p:Nat->Bool}{r:β}:∀(k i:Nat),Gf (λi=>if p i then G else I r) k i=if M0 p k i then G else I r
 | 0,_=>rfl
 | k+1,i=>by
  unfold Gf M0;cases hp:p i
  .simp
  .simpa using aFi k<|i+1
def D4(st:Nat->σ)(n:Nat)(p:Nat->Bool)(r:β)(fin:γ)
  (h:∀i,i<n->b (st i)=I (if p i then .inl (st<|i+1) else .inr (.inl r)))
  (hn:b (st n)=I (.inr<|.inr fin)):AT b (st 0)=I (if B5 n p then .inr fin else .inl r):=by
 rw[aE8 st n (λi=>if p i then G else I r) fin (λi hi=>by rw[h i hi];cases p i<;>rfl) hn,aFi,B5];cases M0 p n 0<;>rfl
def Fy(n:Nat)(p:Nat->Bool):Int:=(Gf (λi=>if p i then I (i:Int) else G) n 0).getD (-1)
def aFh{p:Nat->Bool}{f:Int->β}:∀(k i:Nat),Gf (λi=>if p i then I (f (i:Int)) else G) k i=(Gf (λi=>if p i then I (i:Int) else G) k i).map f
 | 0,_=>rfl
 | k+1,i=>by
  unfold Gf;cases hp:p i
  .simpa using aFh k (i+1)
  .simp
def l5{q:Nat->Option β}{r:β}:∀(k i:Nat),Gf q k i=I r->∃j,i<=j/\j<i+k/\q j=I r/\ ∀l,i<=l->l<j->q l=G
 | 0,_,h=>by cases h
 | k+1,i,h=>by
  unfold Gf at h;split at h
  .rename_i r' hr;cases h;exact⟨i,Ar _,J,hr,λl h1 h2=>by omega⟩
  .rename_i hr;obtain⟨j,h1,h2,h3,h4⟩:=l5 k (i+1) h;exact⟨j,J,J,h3,λl h5 h6=>by
    obtain h7|h7:=GM i l
    .exact h4 l h7 h6
    .rw[show l=i by omega];exact hr⟩
def aEO{q:Nat->Option β}:∀(k i:Nat),Gf q k i=G->∀l,i<=l->l<i+k->q l=G
 | 0,_,_,l,h1,h2=>J
 | k+1,i,h,l,h1,h2=>by
  unfold Gf at h;split at h
  .cases h
  .rename_i hr;obtain h7|h7:=GM i l
   .exact aEO k (i+1) h l h7 J
   .rw[show l=i by omega];exact hr
def G6(n:Nat)(p:Nat->Bool):(Fy n p= -1/\ ∀i,i<n->p i=A0)\/ ∃i:Nat,Fy n p=i/\i<n/\p i=Y/\ ∀l,l<i->p l=A0:=by
 unfold Fy;cases h:Gf (λi=>if p i then I (i:Int) else G) n 0 with
 | none=>
  refine .inl ⟨rfl,λi hi=> ?_⟩;have:=aEO n 0 h i (Ch _) J;cases hp:p i<;>simp[hp]at this ⊢
 | some r=>
  obtain⟨j,h1,h2,h3,h4⟩:=l5 n 0 h;refine .inr ⟨j, ?_,J, ?_,λl hl=> ?_⟩
  .cases hp:p j<;>simp[hp]at h3;simp[h3]
  .cases hp:p j<;>simp[hp]at h3 ⊢
  .have:=h4 l (Ch _) hl;cases hp:p l<;>simp[hp]at this ⊢
def Q8(st:Nat->σ)(n:Nat)(p:Nat->Bool)(f:Int->β)(fin:γ)
  (h:∀i,i<n->b (st i)=I (if p i then .inr (.inl<|f (i:Int)) else .inl (st<|i+1)))
  (hn:b (st n)=I (.inr<|.inr fin)):AT b (st 0)=I (if Fy n p<0 then .inr fin else .inl (f<|Fy n p)):=by
 rw[aE8 st n (λi=>if p i then I (f (i:Int)) else G) fin (λi hi=>by rw[h i hi];cases p i<;>rfl) hn,aFh];obtain⟨h1,_⟩|⟨i,h1,_⟩:=G6 n p
 .rw[h1];unfold Fy at h1;cases h2:Gf (λi=>if p i then I (i:Int) else G) n 0 with
  | none=>simp
  | some r=>
   obtain⟨j,_,_,h3,_⟩:=l5 n 0 h2;cases hp:p j<;>simp[hp]at h3;rw[h2]at h1;simp at h1;omega
 .rw[h1];unfold Fy at h1;cases h2:Gf (λi=>if p i then I (i:Int) else G) n 0 with
  | none=>rw[h2]at h1;simp at h1
  | some r=>
   rw[h2]at h1;simp at h1;subst h1;simp
end
def aCA{p:Nat->Bool}:∀(k i:Nat),M0 p k i=Y↔ ∀j,i<=j->j<i+k->p j=Y
 | 0,_=>by simp only[M0,true_iff];intro j h1 h2;omega
 | k+1,i=>by
  unfold M0;rw[AE,aCA k<|i+1];constructor
  .rintro⟨h1,h2⟩ j h3 h4;obtain h7|h7:=GM i j
   .exact h2 j h7 J
   .rw[show j=i by omega];exact h1
  .intro h;exact⟨h i (Ar _) J,λj h1 h2=>h j J J⟩
def Cq{n:Nat}{p:Nat->Bool}:B5 n p=Y↔ ∀i,i<n->p i=Y:=by
 unfold B5;rw[aCA];exact⟨λh i hi=>h i (Ch _) J,λh j _ h2=>h j J⟩
def CU{A B7 Ω:Type}{f:A->Option Ω}{g:B7->Option Ω}{y:B7}:AP (I<|.inr y) f g=g y:=rfl
def GX{A B7 Ω:Type}{f:A->Option Ω}{g:B7->Option Ω}{y:A}:AP (I<|.inl y) f g=f y:=rfl
def Bk{X Ω:Type}{f:X->Option Ω}{y:X}:BU f (I<|.inr y)=f y:=rfl
def OL{X Ω:Type}{f:X->Option Ω}{y:Ω}:BU f (I<|.inl y)=I y:=rfl
def AU{n:Int}(h0: -9223372036854775808<=n)(h1:n<=9223372036854775807):w64 n=n:=by
 unfold w64;rw[IntKind.wrap_i64];omega
def ND(n:Int):w8 n=n % 256:=by
 unfold w8 Zv;simp[IntKind.signed,IntKind.bits]
def BA{i n:Nat}(h:i<n)(hn:n<=9223372036854775807):w64 ((i:Int)+1)=((i+1:Nat):Int):=by
 rw[AU J J];omega
def Oi{α:Type}(d:α)(xs:List α)(i:Nat):rd d xs (i:Int)=xs.getD i d:=rfl
def awt(i n:Nat):inb (i:Int) n=U (i<n):=by
 unfold inb;by_cases h:i<n
 .simp[h]
 .simp[h]
def AY{i n:Nat}(h:i<n):inb (i:Int) n=Y:=by rw[awt];simpa using h
abbrev L(s:A1):List UInt8:=s.data.toList
def Ax(s:A1):(L s).length=s.size:=rfl
def Fu{s t:A1}(h:L s=L t):s=t:=by
 cases s;cases t;simp[L]at h;exact congrArg _ h
def GG(s t:A1):L (s++t)=L s++L t:=by simp[L,ByteArray.data_append]
def E9(s:A1)(a b:Nat):L (s.extract a b)=((L s).drop a).take (b - a):=by
 simp[L,Zs,Array.toList_extract,List.extract_eq_take_drop]
def Bf(s t:A1):(s++t).size=s.size+t.size:=ByteArray.size_append ..
def L_B(l:List UInt8):L (B l)=l:=rfl
def BP(l:List UInt8):(B l).size=l.length:=rfl
def oy(l:List UInt8):L ⟨l.toArray⟩=l:=rfl
def K4(s:A1)(i:Nat):bt s (i:Int)=(((L s).getD i 0).toNat:Int):=rfl
def ayz(s:A1)(i:Int):0<=bt s i:=by unfold bt;omega
def az0(s:A1)(i:Int):bt s i<=255:=by
 unfold bt;have:=(s.data.toList.getD i.toNat 0).toNat_lt;omega
end Go.VS
namespace Go.VS
open Go
def ax7(m:AQ):Prop:=m.da.size<=1048576
def Oh(h:AD):Prop:=h.got.length<=1048576/\ ∀m∈h.got,ax7 m
def F5(k:A7):Prop:=k.log.size<=1048576/\k.AG.length<=1048576/\ ∀h∈k.AG,Oh h
def lb(p:AK):Prop:=p.data.size<=1048576
def G9(n:A3):Prop:=n.tx.size<=1048576
def Oe{α:Type}{l:List α}{i:Nat}{x d:α}(h:l[i]? =I x):l.getD i d=x:=by simp[h]
def BK{i n:Nat}(h:i<n):U ((i:Int)<(n:Int))=Y:=by simpa using h
structure J8 (ks:List A7) (ls:List Bool) (ra:List AK) (se go:List A3):Prop where
 kl:ks.length<=1048576
 k:∀x∈ks,F5 x
 l:ls.length<=1048576
 rl:ra.length<=1048576
 r:∀x∈ra,lb x
 sl:se.length<=1048576
 s:∀x∈se,G9 x
 gl:go.length<=1048576
 g:∀x∈go,G9 x
@[simp] theorem HR (q:Bool):Ak A0 q=Y:=by cases q<;>rfl
@[simp] theorem Ia (q:Bool):Ak Y q=q:=by cases q<;>rfl
def tf(b:Bool):b=Y\/b=A0:=by cases b<;>simp
def inB(n lo hi:Int):Bool:=U (lo<=n)&&U (n<=hi)
def Aa{n lo hi:Int}:inB n lo hi=Y↔lo<=n/\n<=hi:=by simp[inB]
abbrev isN(n:Int):Bool:=inB n 0 3
@[simp] theorem EK {n lo hi:Int} :CA (n,lo,hi,())=I ((inB n lo hi,()),()):=rfl
@[simp] theorem I0 {n lo hi:Int} :DC (n,lo,hi,())=I ((inB n lo hi,()),()):=rfl
@[simp] theorem Kk {n:Int} :Fm (n,())=I ((isN n,()),()):=rfl
@[simp] theorem Jq {n:Int} :FQ (n,())=I ((isN n,()),()):=rfl
abbrev tin(s:A1):Bool:=B5 s.size λi=>inB (bt s i) 32 126
def LN(s:A1):Bool:=inB s.size 1 24&&tin s
def aas{s:A1}{i:Int}:w64 (bt s i)=bt s i:=AU (by have:=ayz s i;omega) (by have:=az0 s i;omega)
@[simp] theorem aoo {s:A1} (hs:s.size<=1048576):O9 (s,())=I ((LN s,()),()):=by
 have h:sG (s,0,())=I (if tin s then .inr (s,()) else .inl (A0,())):=
  D4 (λi=>(s,(i:Int),())) s.size (λi=>inB (bt s i) 32 126) (A0,()) (s,()) (λi hi=>by
   unfold fZ;simp only[AY hi,BK hi,aas,EK,A6,BA hi (by omega:s.size<=9223372036854775807)];cases inB (bt s i) 32 126<;>rfl) (by simp[fZ])
 unfold O9;simp only[h];unfold LN;cases tin s<;>simp[AP]
def Aw(n:A3):Bool:=isN n.fr&&(isN n.to&&(inB n.nu 1 99&&(inB n.un 1 999&&LN n.tx)))
@[simp] theorem Wh {fr nu tt un:Int} {tx:A1} (hs:tx.size<=1048576):OB ((fr,nu,tt,un,tx,()),())=I ((Aw ⟨fr,nu,tt,un,tx⟩,()),()):=by
 unfold OB Aw;simp only[aoo hs,EK,Kk,A6];cases isN fr<;>cases isN tt<;>cases inB nu 1 99<;>cases inB un 1 999<;>simp[Ak]
@[simp] theorem Wv {fr nu tt un:Int} {tx:A1} (hs:tx.size<=1048576):O8 ((fr,nu,tt,un,tx,()),())=I ((Aw ⟨fr,nu,tt,un,tx⟩,()),()):=by
 have h:sQ ((fr,nu,tt,un,tx,()),0,())=I (if tin tx then .inr () else .inl (A0,())):=
  D4 (λi=>((fr,nu,tt,un,tx,()),(i:Int),())) tx.size (λi=>inB (bt tx i) 32 126) (A0,()) () (λi hi=>by
   unfold fl;simp only[AY hi,BK hi,BA hi (by omega:tx.size<=9223372036854775807)];unfold inB;by_cases h1:bt tx i<32<;>by_cases h2:126<bt tx i<;>simp[h1,h2,Ak]<;>omega) (by simp[fl])
 unfold O8 Aw;simp only[h,I0,Jq,A6];unfold LN;by_cases h1:(tx.size:Int)<1<;>by_cases h2:(24:Int)<tx.size<;>cases isN fr<;>cases isN tt<;>cases inB nu 1 99<;>cases inB un 1 999<;>cases tin tx<;>simp[h1,h2,AP,inB]<;>omega
def Ev(m:Mark):Bool:=isN m.mf&&(inB m.mn 1 99&&inB m.mu 1 999)
@[simp] theorem apw {a b c:Int} :gw ((a,b,c,()),())=I ((Ev ⟨a,b,c⟩,()),()):=by
 unfold gw Ev;simp only[EK,Kk,A6];cases isN a<;>cases inB b 1 99<;>simp[Ak]
def bef(a b c d:Int):Bool:=U (a<c)||(U (a=c)&&U (b<d))
@[simp] theorem SV {a b c d:Int} :Lo (a,b,c,d,())=I ((bef a b c d,()),()):=rfl
@[simp] theorem XY {a b c d:Int} :Mr (a,b,c,d,())=I ((bef a b c d,()),()):=rfl
def nA(l:List A3)(i:Nat):A3:=l.getD i<|dfl .note
def mA(l:List Mark)(i:Nat):Mark:=l.getD i<|dfl .mark
def DQ(l:List A3)(i:Nat): @rd A3 aG6 l (i:Int)=nA l i:=rfl
def FD(l:List Mark)(i:Nat): @rd Mark aHg l (i:Int)=mA l i:=rfl
def DR(l:List A3):Bool:=B5 l.length λi=>Aw (nA l i)&&(U (i=0)||bef (nA l<|i - 1).fr (nA l<|i - 1).nu (nA l i).fr (nA l i).nu)
def FF(l:List Mark):Bool:=B5 l.length λi=>Ev (mA l i)&&(U (i=0)||bef (mA l<|i - 1).mf (mA l<|i - 1).mn (mA l i).mf (mA l i).mn)
def UN{l:List A3}(h:∀x∈l,G9 x)(i:Nat):(nA l i).tx.size<=1048576:=by
 unfold nA;cases hx:l[i]? with
 | none=>simp[hx,dfl];decide
 | some x=>
  have h1:x.tx.size<=1048576:=h x<|Cp hx;rw[BG,hx];exact h1
def Yf{i n:Nat}(h:i<n)(hn:n<=9223372036854775807):w64 ((i:Int) - 1)=(i:Int) - 1:=AU J J
def zt{l:List A3}(hl:l.length<=1048576)(h:∀x∈l,G9 x):WM (l,())=I ((DR l,()),()):=by
 have h:rU (l,l,(j8 l:Int),0,())=I (if DR l then .inr () else .inl (A0,())):=
  D4 (λi=>(l,l,(j8 l:Int),(i:Int),())) l.length (λi=>Aw (nA l i)&&(U (i=0)||bef (nA l<|i - 1).fr (nA l<|i - 1).nu (nA l i).fr (nA l i).nu)) (A0,()) () (λi hi=>by
   unfold er;simp only[AY hi,BK hi,DQ,Wh<|UN h i,A6,SV,BA hi (by omega:l.length<=9223372036854775807)];cases i with
   | zero=>obtain h1|h1:=tf (Aw<|nA l 0)<;>simp only[h1]<;>simp
   | succ j=>
    rw[Yf hi J,show((j+1:Nat):Int) - 1=(j:Int) by omega,AY (J:j<l.length)];simp only[DQ];obtain h1|h1:=tf (Aw<|nA l<|j+1)<;>obtain h2|h2:=tf (bef (nA l j).fr (nA l j).nu (nA l<|j+1).fr (nA l<|j+1).nu)<;>simp only[h1,h2]<;>simp[h2]) (by simp[er])
 unfold WM;simp only[h];cases DR l<;>simp[AP]
def yy{l:List A3}{DN:Int}(hl:l.length<=1048576)(h:∀x∈l,G9 x):W8 (l,DN,())=I ((U ((j8 l:Int)<=DN)&&DR l,()),()):=by
 have h:qw (l,0,())=I (if DR l then .inr () else .inl (A0,())):=
  D4 (λi=>(l,(i:Int),())) l.length (λi=>Aw (nA l i)&&(U (i=0)||bef (nA l<|i - 1).fr (nA l<|i - 1).nu (nA l i).fr (nA l i).nu)) (A0,()) () (λi hi=>by
   unfold dx;simp only[AY hi,BK hi,DQ,Wv<|UN h i,A6,XY,BA hi (by omega:l.length<=9223372036854775807)];cases i with
   | zero=>obtain h1|h1:=tf (Aw<|nA l 0)<;>simp only[h1]<;>simp
   | succ j=>
    rw[Yf hi J,show((j+1:Nat):Int) - 1=(j:Int) by omega,AY (J:j<l.length)];simp only[DQ];obtain h1|h1:=tf (Aw<|nA l<|j+1)<;>obtain h2|h2:=tf (bef (nA l j).fr (nA l j).nu (nA l<|j+1).fr (nA l<|j+1).nu)<;>simp only[h1,h2]<;>simp[h2]) (by simp[dx])
 unfold W8;simp only[h];by_cases hm:(j8 l:Int)<=DN
 .rw[show U (DN<(j8 l:Int))=A0 by simpa using hm];cases DR l<;>simp[AP,hm]
 .rw[show U (DN<(j8 l:Int))=Y by simpa using hm];simp[hm]
def anI{l:List Mark}(hl:l.length<=1048576):gM (l,())=I ((FF l,()),()):=by
 have h:rX (l,l,(j8 l:Int),0,())=I (if FF l then .inr () else .inl (A0,())):=
  D4 (λi=>(l,l,(j8 l:Int),(i:Int),())) l.length (λi=>Ev (mA l i)&&(U (i=0)||bef (mA l<|i - 1).mf (mA l<|i - 1).mn (mA l i).mf (mA l i).mn)) (A0,()) () (λi hi=>by
   unfold ey;simp only[AY hi,BK hi,FD,apw,A6,SV,BA hi (by omega:l.length<=9223372036854775807)];cases i with
   | zero=>obtain h1|h1:=tf (Ev<|mA l 0)<;>simp only[h1]<;>simp
   | succ j=>
    rw[Yf hi J,show((j+1:Nat):Int) - 1=(j:Int) by omega,AY (J:j<l.length)];simp only[FD];obtain h1|h1:=tf (Ev<|mA l<|j+1)<;>obtain h2|h2:=tf (bef (mA l j).mf (mA l j).mn (mA l<|j+1).mf (mA l<|j+1).mn)<;>simp only[h1,h2]<;>simp[h2]) (by simp[ey])
 unfold gM;simp only[h];cases FF l<;>simp[AP]
def aji{l:List Mark}(hl:l.length<=1048576):eR (l,())=I ((U ((j8 l:Int)<=12)&&FF l,()),()):=by
 have h:qx (l,0,())=I (if FF l then .inr () else .inl (A0,())):=
  D4 (λi=>(l,(i:Int),())) l.length (λi=>Ev (mA l i)&&(U (i=0)||bef (mA l<|i - 1).mf (mA l<|i - 1).mn (mA l i).mf (mA l i).mn)) (A0,()) () (λi hi=>by
   unfold dy Ev;simp only[AY hi,BK hi,FD,I0,Jq,A6,XY,BA hi (by omega:l.length<=9223372036854775807)];cases i with
   | zero=>obtain h1|h1:=tf (isN (mA l 0).mf)<;>obtain h2|h2:=tf (inB (mA l 0).mn 1 99)<;>obtain h3|h3:=tf (inB (mA l 0).mu 1 999)<;>simp only[h1,h2,h3]<;>simp
   | succ j=>
    rw[Yf hi J,show((j+1:Nat):Int) - 1=(j:Int) by omega,AY (J:j<l.length)];simp only[FD];obtain h1|h1:=tf (isN (mA l<|j+1).mf)<;>obtain h2|h2:=tf (inB (mA l<|j+1).mn 1 99)<;>obtain h3|h3:=tf (inB (mA l<|j+1).mu 1 999)<;>obtain h4|h4:=tf (bef (mA l j).mf (mA l j).mn (mA l<|j+1).mf (mA l<|j+1).mn)<;>simp only[h1,h2,h3]<;>simp[h4]<;>omega) (by simp[dy])
 unfold eR;simp only[h];by_cases hm:(j8 l:Int)<=12
 .rw[show U ((12:Int)<(j8 l:Int))=A0 by simpa using hm];cases FF l<;>simp[AP,hm]
 .rw[show U ((12:Int)<(j8 l:Int))=Y by simpa using hm];simp[hm]
def AZ(l:List A3)(f n:Int):Int:=Fy l.length λi=>U ((nA l i).fr=f)&&U ((nA l i).nu=n)
def Bt(l:List Mark)(f n:Int):Int:=Fy l.length λi=>U ((mA l i).mf=f)&&U ((mA l i).mn=n)
def T3{n:Nat}{p:Nat->Bool}:AP (I<|if Fy n p<0 then(.inr ():(Int×D) ⊕ D) else .inl (Fy n p,())) (λy=>I ((y.1,()),())) (λ_=>I ((-1,()),()))=I ((Fy n p,()),()):=by
 obtain⟨h,_⟩|⟨i,h,_⟩:=G6 n p
 .rw[h];rfl
 .rw[A9 J];rfl
def Ln{l:List A3}{f n:Int}(hl:l.length<=1048576):IW (l,f,n,())=I ((AZ l f n,()),()):=by
 have h:sn (f,n,l,(j8 l:Int),0,())=I (if AZ l f n<0 then .inr () else .inl (AZ l f n,())):=
  Q8 (λi=>(f,n,l,(j8 l:Int),(i:Int),())) l.length (λi=>U ((nA l i).fr=f)&&U ((nA l i).nu=n)) (λi=>(i,())) () (λi hi=>by
   unfold gK;simp only[AY hi,BK hi,DQ,BA hi (by omega:l.length<=9223372036854775807)];by_cases h1:(nA l i).fr=f<;>by_cases h2:(nA l i).nu=n<;>simp[h1,h2]) (by simp[gK])
 unfold IW;simp only[h];exact T3
def Jl{l:List A3}{f n:Int}(hl:l.length<=1048576):G5 (l,f,n,())=I ((AZ l f n,()),()):=by
 have h:ru (l,f,n,0,())=I (if AZ l f n<0 then .inr () else .inl (AZ l f n,())):=
  Q8 (λi=>(l,f,n,(i:Int),())) l.length (λi=>U ((nA l i).fr=f)&&U ((nA l i).nu=n)) (λi=>(i,())) () (λi hi=>by
   unfold fL;simp only[AY hi,BK hi,DQ,BA hi (by omega:l.length<=9223372036854775807)];by_cases h1:(nA l i).fr=f<;>by_cases h2:(nA l i).nu=n<;>simp[h1,h2]) (by simp[fL])
 unfold G5;simp only[h];exact T3
def SS{l:List Mark}{f n:Int}(hl:l.length<=1048576):Kj (l,f,n,())=I ((Bt l f n,()),()):=by
 have h:ss (f,n,l,(j8 l:Int),0,())=I (if Bt l f n<0 then .inr () else .inl (Bt l f n,())):=
  Q8 (λi=>(f,n,l,(j8 l:Int),(i:Int),())) l.length (λi=>U ((mA l i).mf=f)&&U ((mA l i).mn=n)) (λi=>(i,())) () (λi hi=>by
   unfold gO;simp only[AY hi,BK hi,FD,BA hi (by omega:l.length<=9223372036854775807)];by_cases h1:(mA l i).mf=f<;>by_cases h2:(mA l i).mn=n<;>simp[h1,h2]) (by simp[gO])
 unfold Kj;simp only[h];exact T3
def SF{l:List Mark}{f n:Int}(hl:l.length<=1048576):Ko (l,f,n,())=I ((Bt l f n,()),()):=by
 have h:rL (l,f,n,0,())=I (if Bt l f n<0 then .inr () else .inl (Bt l f n,())):=
  Q8 (λi=>(l,f,n,(i:Int),())) l.length (λi=>U ((mA l i).mf=f)&&U ((mA l i).mn=n)) (λi=>(i,())) () (λi hi=>by
   unfold fK;simp only[AY hi,BK hi,FD,BA hi (by omega:l.length<=9223372036854775807)];by_cases h1:(mA l i).mf=f<;>by_cases h2:(mA l i).mn=n<;>simp[h1,h2]) (by simp[fK])
 unfold Ko;simp only[h];exact T3
def Ed(id:Int)(fr tt:Int):Bool:= !decide (id=tt)&&(inB id fr tt||inB id tt fr)
def jo{id fr nu tt un:Int}{tx:A1}:X6 (id,(fr,nu,tt,un,tx,()),())=I ((Ed id fr tt,()),()):=by
 unfold X6 Ed;simp only[EK];by_cases h:id=tt<;>cases inB id fr tt<;>simp[h]
def jA{id fr nu tt un:Int}{tx:A1}:gh ((fr,nu,tt,un,tx,()),id,())=I ((Ed id fr tt,()),()):=by
 unfold gh Ed inB;by_cases h1:fr<=id
 .simp only[h1,AW,A2];congr 3;rw[NL];simp;omega
 .have e:(U (tt<id)&&U (id<=fr))=(!decide (id=tt)&&(U (fr<=id)&&U (id<=tt)||decide (tt<=id)&&U (id<=fr))):=by
   rw[NL];simp only[AE,C8,CM,decide_eq_true_eq,decide_eq_false_iff_not];omega
  rw[← e];simp[h1]
structure DX (held:List A3) (marks:List Mark) (inbox:List A3):Prop where
 hl:held.length<=1048576
 h:∀x∈held,G9 x
 ml:marks.length<=1048576
 il:inbox.length<=1048576
 i:∀x∈inbox,G9 x
def H4(id ti nx:Int)(held:List A3)(marks:List Mark)(i:Nat):Bool:= !(U ((nA held i).fr=id)&&U (nx<=(nA held i).nu))&&(U (ti<(nA held i).un)&&(Ed id (nA held i).fr (nA held i).to&&U (Bt marks (nA held i).fr (nA held i).nu<0)))
def JH(id ti nx:Int)(marks:List Mark)(i:Nat):Bool:=U (ti<(mA marks i).mu)&& !(U ((mA marks i).mf=id)&&U (nx<=(mA marks i).mn))
def Ii(id ti nx:Int)(marks:List Mark)(inbox:List A3)(i:Nat):Bool:=U ((nA inbox i).to=id)&&(!(U ((nA inbox i).fr=id)&&U (nx<=(nA inbox i).nu))&&(!decide (ti<(nA inbox i).un)||decide (0<=Bt marks (nA inbox i).fr (nA inbox i).nu)))
def Au(k:AL):Bool:=isN k.id&&(inB k.ti 0 999&&(inB k.nx 1 100&&((U ((j8 k.held:Int)<=6)&&DR k.held)&&((U ((j8 k.marks:Int)<=12)&&FF k.marks)&&((U ((j8 k.inbox:Int)<=6)&&DR k.inbox)&&
 (B5 k.held.length (H4 k.id k.ti k.nx k.held k.marks)&&(B5 k.marks.length (JH k.id k.ti k.nx k.marks)&&B5 k.inbox.length (Ii k.id k.ti k.nx k.marks k.inbox))))))))
def arW(l:List Mark)(f n:Int):Bt l f n= -1\/0<=Bt l f n:=by
 obtain⟨h,_⟩|⟨i,h,_⟩:=G6 l.length (λi=>U ((mA l i).mf=f)&&U ((mA l i).mn=n))
 .exact .inl h
 .exact .inr (by unfold Bt;omega)
def tfp(p:Prop):(p=True)\/(p=False):=by
 by_cases h:p
 .exact .inl (eq_true h)
 .exact .inr<|eq_false h
def sgn(n:Int):((n<0)=True/\(0<=n)=False)\/((n<0)=False/\(0<=n)=True):=by
 by_cases h:n<0
 .exact .inl ⟨eq_true h,eq_false J⟩
 .exact .inr ⟨eq_false h,eq_true J⟩
def EQ(a b:Int):((a<=b)=True/\(b<a)=False)\/((a<=b)=False/\(b<a)=True):=by
 by_cases h:a<=b
 .exact .inl ⟨eq_true h,eq_false J⟩
 .exact .inr ⟨eq_false h,eq_true J⟩
def aCf(l:List A3)(f n:Int):AZ l f n= -1\/0<=AZ l f n:=by
 obtain⟨h,_⟩|⟨i,h,_⟩:=G6 l.length (λi=>U ((nA l i).fr=f)&&U ((nA l i).nu=n))
 .exact .inl h
 .exact .inr (by unfold AZ;omega)
def anO{id ti nx:Int}{held:List A3}{marks:List Mark}{inbox:List A3}(sm:DX held marks inbox):
  sZ ((id,ti,nx,held,marks,inbox,()),held,(held.length:Int),0,())=I (if B5 held.length (H4 id ti nx held marks) then .inr ((id,ti,nx,held,marks,inbox,()),()) else .inl (A0,())):=
 D4 (λi=>((id,ti,nx,held,marks,inbox,()),held,(held.length:Int),(i:Int),())) held.length (H4 id ti nx held marks) (A0,()) ((id,ti,nx,held,marks,inbox,()),()) (λi hi=>by
  unfold gG H4;have hl:held.length<=9223372036854775807:=by have:=sm.hl;omega
  simp only[AY hi,BK hi,DQ,FD,SS sm.ml,jo,A6,BA hi hl];have h4:=sgn<|Bt marks (nA held i).fr (nA held i).nu;obtain h1|h1:=tfp ((nA held i).fr=id)<;>obtain h2|h2:=tfp (nx<=(nA held i).nu)<;>obtain h3|h3:=EQ (nA held i).un ti<;>obtain h4|h4:=h4<;>obtain h5|h5:=tf (Ed id (nA held i).fr (nA held i).to)<;>simp[h1,h2,h5,h4,h3]) (by simp[gG])
def zj{id ti nx:Int}{held:List A3}{marks:List Mark}{inbox:List A3}(sm:DX held marks inbox):
  sY ((id,ti,nx,held,marks,inbox,()),marks,(marks.length:Int),0,())=I (if B5 marks.length (JH id ti nx marks) then .inr ((id,ti,nx,held,marks,inbox,()),()) else .inl (A0,())):=
 D4 (λi=>((id,ti,nx,held,marks,inbox,()),marks,(marks.length:Int),(i:Int),())) marks.length (JH id ti nx marks) (A0,()) ((id,ti,nx,held,marks,inbox,()),()) (λi hi=>by
  unfold gF JH;have hl:marks.length<=9223372036854775807:=by have:=sm.ml;omega
  simp only[AY hi,BK hi,DQ,FD,SS sm.ml,jo,A6,BA hi hl];obtain h1|h1:=tfp ((mA marks i).mf=id)<;>obtain h2|h2:=tfp (nx<=(mA marks i).mn)<;>obtain h3|h3:=EQ (mA marks i).mu ti<;>simp[h1,h2,h3]) (by simp[gF])
def zi{id ti nx:Int}{held:List A3}{marks:List Mark}{inbox:List A3}(sm:DX held marks inbox):
  sX ((id,ti,nx,held,marks,inbox,()),inbox,(inbox.length:Int),0,())=I (if B5 inbox.length (Ii id ti nx marks inbox) then .inr () else .inl (A0,())):=
 D4 (λi=>((id,ti,nx,held,marks,inbox,()),inbox,(inbox.length:Int),(i:Int),())) inbox.length (Ii id ti nx marks inbox) (A0,()) () (λi hi=>by
  unfold gE Ii;have hl:inbox.length<=9223372036854775807:=by have:=sm.il;omega
  simp only[AY hi,BK hi,DQ,FD,SS sm.ml,jo,A6,BA hi hl];have h4:=sgn<|Bt marks (nA inbox i).fr (nA inbox i).nu;obtain h1|h1:=tfp ((nA inbox i).fr=id)<;>obtain h2|h2:=tfp (nx<=(nA inbox i).nu)<;>obtain h3|h3:=EQ (nA inbox i).un ti<;>obtain h0|h0:=tfp ((nA inbox i).to=id)<;>obtain h4|h4:=h4<;>simp[h1,h2,h0,h4,h3]) (by simp[gE])
def alZ{id ti nx:Int}{held:List A3}{marks:List Mark}{inbox:List A3}(sm:DX held marks inbox):
  sK ((id,ti,nx,held,marks,inbox,()),0,())=I (if B5 held.length (H4 id ti nx held marks) then .inr ((id,ti,nx,held,marks,inbox,()),()) else .inl (A0,())):=
 D4 (λi=>((id,ti,nx,held,marks,inbox,()),(i:Int),())) held.length (H4 id ti nx held marks) (A0,()) ((id,ti,nx,held,marks,inbox,()),()) (λi hi=>by
  unfold fc H4;have hl:held.length<=9223372036854775807:=by have:=sm.hl;omega
  simp only[AY hi,BK hi,DQ,FD,SF sm.ml,jA,A6,BA hi hl];have h4:=sgn<|Bt marks (nA held i).fr (nA held i).nu;obtain h1|h1:=tfp ((nA held i).fr=id)<;>obtain h2|h2:=tfp (nx<=(nA held i).nu)<;>obtain h3|h3:=EQ (nA held i).un ti<;>obtain h4|h4:=h4<;>obtain h5|h5:=tf (Ed id (nA held i).fr (nA held i).to)<;>simp[h1,h2,h5,h4,h3]) (by simp[fc])
def aA2{id ti nx:Int}{held:List A3}{marks:List Mark}{inbox:List A3}(sm:DX held marks inbox):
  sJ ((id,ti,nx,held,marks,inbox,()),0,())=I (if B5 marks.length (JH id ti nx marks) then .inr ((id,ti,nx,held,marks,inbox,()),()) else .inl (A0,())):=
 D4 (λi=>((id,ti,nx,held,marks,inbox,()),(i:Int),())) marks.length (JH id ti nx marks) (A0,()) ((id,ti,nx,held,marks,inbox,()),()) (λi hi=>by
  unfold fb JH;have hl:marks.length<=9223372036854775807:=by have:=sm.ml;omega
  simp only[AY hi,BK hi,DQ,FD,SF sm.ml,jA,A6,BA hi hl];obtain h1|h1:=tfp ((mA marks i).mf=id)<;>obtain h2|h2:=tfp (nx<=(mA marks i).mn)<;>obtain h3|h3:=EQ (mA marks i).mu ti<;>simp[h1,h2,h3]) (by simp[fb])
def aA1{id ti nx:Int}{held:List A3}{marks:List Mark}{inbox:List A3}(sm:DX held marks inbox):
  sU ((id,ti,nx,held,marks,inbox,()),0,())=I (if B5 inbox.length (Ii id ti nx marks inbox) then .inr () else .inl (A0,())):=
 D4 (λi=>((id,ti,nx,held,marks,inbox,()),(i:Int),())) inbox.length (Ii id ti nx marks inbox) (A0,()) () (λi hi=>by
  unfold fa Ii;have hl:inbox.length<=9223372036854775807:=by have:=sm.il;omega
  simp only[AY hi,BK hi,DQ,FD,SF sm.ml,jA,A6,BA hi hl];have h4:=sgn<|Bt marks (nA inbox i).fr (nA inbox i).nu;obtain h1|h1:=tfp ((nA inbox i).fr=id)<;>obtain h2|h2:=tfp (nx<=(nA inbox i).nu)<;>obtain h3|h3:=EQ (nA inbox i).un ti<;>obtain h0|h0:=tfp ((nA inbox i).to=id)<;>obtain h4|h4:=h4<;>simp[h1,h2,h0,h4,h3]) (by simp[fa])
def jN{id ti nx:Int}{held:List A3}{marks:List Mark}{inbox:List A3}(sm:DX held marks inbox):Q0 ((id,ti,nx,held,marks,inbox,()),())=I ((Au ⟨id,ti,nx,held,marks,inbox⟩,()),()):=by
 unfold Q0 Au;simp only[EK,Kk,zt sm.hl sm.h,zt sm.il sm.i,anI sm.ml,anO sm,zj sm,zi sm,A6];obtain h1|h1:=tf (isN id)<;>simp only[h1,AB,AH,A2,AO,AS,A4];obtain h2|h2:=tf (inB ti 0 999)<;>simp only[h2,AB,AH,A2,AO,AS,A4];obtain h3|h3:=tf (inB nx 1 100)<;>simp only[h3,AB,AH,A2,AO,AS,A4];obtain h4|h4:=EQ (held.length:Int) 6<;>obtain h5|h5:=EQ (marks.length:Int) 12<;>obtain h6|h6:=EQ (inbox.length:Int) 6<;>simp only[h4,h5,h6,AW,Ad,A2,AO,BX,AS,A4];obtain h7|h7:=tf (DR held)<;>obtain h8|h8:=tf (FF marks)<;>obtain h9|h9:=tf (DR inbox)<;>simp only[h7,h8,h9,AB,AH,A2,AO,BX,AS,A4];obtain h10|h10:=tf (B5 held.length<|H4 id ti nx held marks)<;>obtain h11|h11:=tf (B5 marks.length<|JH id ti nx marks)<;>obtain h12|h12:=tf (B5 inbox.length<|Ii id ti nx marks inbox)<;>simp only[h10,h11,h12,A2,CU,GX,A4,zj sm,zi sm]<;>rfl
def jC{id ti nx:Int}{held:List A3}{marks:List Mark}{inbox:List A3}(sm:DX held marks inbox):Px ((id,ti,nx,held,marks,inbox,()),())=I ((Au ⟨id,ti,nx,held,marks,inbox⟩,()),()):=by
 unfold Px Au;simp only[I0,Jq,yy sm.hl sm.h,yy sm.il sm.i,aji sm.ml,alZ sm,aA2 sm,aA1 sm,A6];obtain h1|h1:=tf (isN id)<;>simp only[h1,AB,AH,A2,AO,AS,A4];obtain h2|h2:=tf (inB ti 0 999)<;>simp only[h2,AB,AH,A2,AO,AS,A4];obtain h3|h3:=tf (inB nx 1 100)<;>simp only[h3,AB,AH,A2,AO,AS,A4];obtain h7|h7:=tf (U ((held.length:Int)<=6)&&DR held)<;>obtain h8|h8:=tf (U ((marks.length:Int)<=12)&&FF marks)<;>obtain h9|h9:=tf (U ((inbox.length:Int)<=6)&&DR inbox)<;>simp only[h7,h8,h9,AB,AH,A2,AO,BX,AS,A4];obtain h10|h10:=tf (B5 held.length<|H4 id ti nx held marks)<;>obtain h11|h11:=tf (B5 marks.length<|JH id ti nx marks)<;>obtain h12|h12:=tf (B5 inbox.length<|Ii id ti nx marks inbox)<;>simp only[h10,h11,h12,A2,CU,GX,A4,aA2 sm,aA1 sm]<;>rfl
def Lz{α:Type}{l:List α}{d:α}(hl:l.length<=1048576):
  (if U ((j8 l:Int)=0) then I ((([]:List α),()),()) else if U (0<=(j8 l:Int))&&U ((j8 l:Int)<=4294967296) then I (((BV (BZ (AJ (j8 l:Int)) d).length l++Bp l.length (BZ (AJ (j8 l:Int)) d)),()),()) else G)=I ((l,()),()):=by
 by_cases h:(j8 l:Int)=0
 .have:l=[]:=Df J;subst this;rfl
 .have h1:(j8 l:Int)<=4294967296:=J
  have h2:0<=(j8 l:Int):=J
  simp[h1]
def cy{l:List A3}(hl:l.length<=1048576):Ny (l,())=I ((l,()),()):=Lz hl
def afd{l:List Mark}(hl:l.length<=1048576):rZ (l,())=I ((l,()),()):=Lz hl
def qd{l:List A1}(hl:l.length<=1048576):Rk (l,())=I ((l,()),()):=Lz hl
def yh{id ti nx:Int}{held:List A3}{marks:List Mark}{inbox:List A3}(sm:DX held marks inbox):S9 ((id,ti,nx,held,marks,inbox,()),())=I (((id,ti,nx,held,marks,inbox,()),()),()):=by
 unfold S9;simp only[cy sm.hl,afd sm.ml,cy sm.il,A6]
def BD{n:Nat}(h:n<=4294967296):Ab n=Y:=by simpa[Ab] using h
def zG{id ti nx:Int}{held:List A3}{marks:List Mark}{inbox:List A3}(sm:DX held marks inbox):SG ((id,ti,nx,held,marks,inbox,()),())=I (((id,ti,nx,held,marks,inbox,()),()),()):=by
 unfold SG;have h1:=sm.hl;have h2:=sm.ml;have h3:=sm.il;simp only[CL,DM,EV,BD (J:held.length<=4294967296),BD (J:marks.length<=4294967296),BD (J:inbox.length<=4294967296),A2]
def aiJ{id:Int}:dk (id,())=I ((if isN id then(id,0,1,[],[],[],()) else(0,0,0,[],[],[],()),()),()):=by
 unfold dk;simp only[Kk,A6];cases isN id<;>rfl
def ahm{id:Int}:eF (id,())=I ((if isN id then(id,0,1,[],[],[],()) else(0,0,0,[],[],[],()),()),()):=by
 unfold eF;simp only[Jq,A6];cases isN id<;>rfl
end Go.VS
end
noncomputable section
namespace Go.VS
open Go
def axV{A R:Type}{t:(A->Option R)->A->Option R}{x:A}{v:R}(hv:∀k r,Bl t k x=I r->r=v)(he:∃k,Bl t k x=I v):Nj t x=I v:=by
 cases h:Nj t x with
 | none=>
  exfalso;obtain⟨k,hk⟩:=he;unfold Nj at h;rw[dif_pos ⟨k,v,hk⟩]at h;cases h
 | some r=>
  obtain⟨k,hk⟩:=aDm h;rw[hv k r hk]
def lH{σ β γ:Type}{b:σ->Option (σ ⊕ (β ⊕ γ))}(st:Nat->σ)(n:Nat)(p:Nat->Bool)(r:β)(fin:γ)
  (h:∀i,i<n->(∀j,j<i->p j=Y)->b (st i)=I (if p i then .inl (st<|i+1) else .inr (.inl r)))
  (hn:(∀j,j<n->p j=Y)->b (st n)=I (.inr<|.inr fin)):AT b (st 0)=I (if B5 n p then .inr fin else .inl r):=by
 have:∀k,k<=n->(∀j,j<n - k->p j=Y)->AT b (st<|n - k)=I (if M0 p k (n - k) then .inr fin else .inl r):=by
  intro k
  induction k with
  | zero=>intro _ hp;exact BC<|hn hp
  | succ k ih=>
   intro hk hp;have h1:=h (n - (k+1)) J hp;unfold M0;obtain hq|hq:=tf (p<|n - (k+1))
   .rw[hq]at h1;rw[hq,AS];refine At h1 ?_;rw[show n - (k+1)+1=n - k by omega];exact ih J (λj hj=>by
     obtain h2|h2:=GM j (n - (k+1))
     .exact hp j h2
     .rw[show j=n - (k+1) by omega];exact hq)
   .rw[hq]at h1;rw[hq,AO];exact BC h1
 have:=this n (Ar _) (λj hj=>by omega);rwa[LJ]at this
abbrev dcm(u:Nat):List UInt8:=mZ u
def Kw{u:Nat}(h:u<10):dcm u=[KM (48+u)]:=Lib.decDigits_one h
def M6{u:Nat}(h:¬u<10):dcm u=dcm (u / 10)++[KM (48+u % 10)]:=by rw[dcm,mZ,dif_neg h]
def Ly:∀(k u:Nat),1<=k->u<10 ^ k->(dcm u).length<=k
 | 0,_,h,_=>J
 | 1,u,_,h=>by rw[Kw J];simp
 | k+2,u,_,h=>by
  by_cases h1:u<10
  .rw[Kw h1];simp
  .rw[M6 h1];have:=Ly (k+1) (u / 10) J (by rw[Qv]at h;omega);simp;omega
def JI(u:Nat):B6 (u:Int)=dcm u:=Lib.itoa_nonneg u
def BM(n:Int):A1:=⟨(B6 n).toArray⟩
def lv{n:Nat}(h:n<10):BF [w8<|w64<|48+(n:Int)]=⟨(dcm n).toArray⟩:=by
 rw[Kw h,AU J J,ND,show(48+(n:Int)) % 256=((48+n:Nat):Int) by omega];rfl
def aFZ(u:Nat):Ay (u:Int) 10=((u / 10:Nat):Int):=rfl
def aEv(u:Nat):BJ (u:Int) 10=((u % 10:Nat):Int):=rfl
def la(u:Nat):BF [w8<|w64<|48+((u % 10:Nat):Int)]=⟨[KM (48+u % 10)].toArray⟩:=by
 rw[lv J,Kw J]
def oM(a b:List UInt8):(⟨a.toArray⟩:A1)++⟨b.toArray⟩=⟨(a++b).toArray⟩:=by
 apply Fu;rw[GG]
def ar5:mZ 9223372036854775808=[57,50,50,51,51,55,50,48,51,54,56,53,52,55,55,53,56,48,56]:=by
 show dcm _=_
 repeat (first|rw[Kw J]|rw[M6 J])
 rfl
def YT:∀(k:Nat) (n:Int),-9223372036854775808<=n->n<=9223372036854775807->∀r,Bl (λg=>GW g) k (n,())=I r->r=((BM n,()),())
 | 0,_,_,_,r,h=>by cases h
 | k+1,n,h0,h1,r,h=>by
  have ih:=YT k
  replace h:GW (Bl (λg=>GW g) k) (n,())=I r:=h
  generalize Bl (λg=>GW g) k=GH at ih h;unfold GW at h;by_cases hn:n < -9223372036854775807
  .simp only[hn,AW,A2]at h;cases h;obtain rfl:n= -9223372036854775808:=J
   have:BM (-9223372036854775808)=B [45,57,50,50,51,51,55,50,48,51,54,56,53,52,55,55,53,56,48,56]:=by
    apply Fu;show B6 (-9223372036854775808)=_;rw[show(-9223372036854775808:Int)= -((9223372036854775808:Nat):Int) by rfl,mh _ J];rw[L_B];rw[ar5]
   rw[this]
  .rw[A9<|by simpa using hn]at h;by_cases Nn:n<0
   .rw[A5<|by simpa using Nn]at h;simp only at h;rw[AU J J]at h;obtain⟨r4,e4,h⟩:=Ag.1 h;have:=ih (0 - n) J J r4 e4;subst this;split at h
    .cases h;obtain⟨u,hu⟩:=HG (J:0<= -n);obtain rfl:n= -(u:Int):=J
     have:BM (-(u:Int))=B [45]++BM (0 - -(u:Int)):=by
      unfold BM;rw[mh _ J,show(0:Int) - -(u:Int)=(u:Int) by omega,JI];rw[B,oM];rfl
     rw[this]
    .cases h
   .rw[A9<|by simpa using Nn]at h;obtain⟨u,hu⟩:=HG (J:0<=n);obtain rfl:n=(u:Int):=hu;by_cases hs:u<10
    .rw[A5 y8]at h;simp only at h;cases h;rw[lv hs,BM,JI]
    .rw[A9 y8]at h;simp only[aFZ,aEv]at h;rw[AU J J]at h;obtain⟨r7,e7,h⟩:=Ag.1 h;have:=ih ((u / 10:Nat):Int) J J r7 e7;subst this;split at h
     .cases h;rw[la,BM,BM,JI,JI,oM,← M6 hs]
     .cases h
def lS:∀(k u:Nat),1<=k->k<=19->u<10 ^ k->u<=9223372036854775807->Bl (λg=>GW g) k ((u:Int),())=I ((⟨(dcm u).toArray⟩,()),())
 | 0,_,h,_,_,_=>J
 | k+1,u,_,hk,h,h63=>by
  have e1:U ((u:Int) < -9223372036854775807)=A0:=by simp
  have e2:U ((u:Int)<0)=A0:=by simp
  have ih:=lS k<|u / 10;show GW (Bl (λg=>GW g) k) _=_;generalize Bl (λg=>GW g) k=GH at ih;unfold GW;simp only[e1,e2,aFZ,aEv,A4];by_cases hs:u<10
  .rw[A5 y8,lv hs]
  .rw[A9 y8,AU J J];have hk0:1<=k:=by
    obtain rfl|h':=U6 k
    .simp at h;omega
    .exact h'
   have hlt:u / 10<10 ^ k:=by rw[Qv]at h;omega
   have hl:=Ly k (u / 10) hk0 hlt;rw[ih hk0 J hlt J];simp only[A6];rw[A5,la,oM,← M6 hs];have:(⟨(dcm<|u / 10).toArray⟩:A1).size=(dcm<|u / 10).length:=rfl;rw[decide_eq_true_eq,this,la];show _+1<=_;omega
def FV{n:Int}(h0: -9223372036854775808<=n)(h1:n<=9223372036854775807):DK (n,())=I ((BM n,()),()):=by
 refine axV (λk r h=>YT k n h0 h1 r h) ?_;have Um:∀u:Nat,u<=9223372036854775807->u<10 ^ 19:=λu hu=>J
 by_cases hn:n < -9223372036854775807
 .refine⟨1, ?_⟩;cases h:Bl (λg=>GW g) 1 (n,()) with
  | none=>simp only[Bl]at h;unfold GW at h;rw[A5<|by simpa using hn]at h;cases h
  | some r=>rw[YT 1 n h0 h1 r h]
 .by_cases Nn:n<0
  .refine⟨20, ?_⟩;cases h:Bl (λg=>GW g) 20 (n,()) with
   | none=>
    obtain⟨u,hu⟩:=HG (J:0<= -n);have ih:=lS 19 u J J (Um u J) J
    replace h:GW (Bl (λg=>GW g) 19) (n,())=G:=h
    generalize Bl (λg=>GW g) 19=GH at ih h;unfold GW at h;rw[A9<|by simpa using hn,A5<|by simpa using Nn]at h;simp only at h;rw[AU J J,show 0 - n=(u:Int) by omega,ih]at h;simp only[A6]at h;rw[A5]at h
    .cases h
    .have hl:=Ly 19 u J<|Um u J;have e:(⟨(dcm u).toArray⟩:A1).size=(dcm u).length:=rfl;rw[decide_eq_true_eq,e];show 1+_<=_;omega
   | some r=>rw[YT 20 n h0 h1 r h]
  .obtain⟨u,hu⟩:=HG (J:0<=n);obtain rfl:n=(u:Int):=hu;exact⟨19,by rw[lS 19 u J J (Um u J) J,BM,JI]⟩
def JM{n:Int}(h0: -9223372036854775808<=n)(h1:n<=9223372036854775807):JC (n,())=I ((BM n,()),()):=by
 show UQ _=_;unfold UQ;rw[A5 ⟨h0,h1⟩];rfl
def dig(b:UInt8):Bool:=inB (b.toNat:Int) 48 57
def val(l:List UInt8):Nat:=l.foldl (λa b=>10 * a+(b.toNat - 48)) 0
def Yg(l:List UInt8)(b:UInt8):val (l++[b])=10 * val l+(b.toNat - 48):=by simp[val]
def asb{l:List UInt8}{i:Nat}(h:i<l.length):l.take (i+1)=l.take i++[l.getD i 0]:=by
 rw[JW,Av h];simp[h]
def aF:∀(k:Nat) (l:List UInt8),l.length<=k->(∀b∈l,dig b=Y)->val l<10 ^ k:=by
 intro k
 induction k with
 | zero=>
  intro l hl _;obtain rfl:l=[]:=Df J;decide
 | succ k ih=>
  intro l hl hd;obtain rfl|⟨m,b,rfl⟩:=aDJ l
  .exact Nat.pow_pos aHd
  .simp at hl hd;have h1:=ih m J (λx hx=>hd x<|.inl hx);have h2:=hd b<|.inr rfl;rw[aDK,Yg,Qv];have h3:=Aa.1 h2;omega
def avv{m:List UInt8}:∀ {b:UInt8},dig b=Y->b≠48->(∀x∈m,dig x=Y)->1<=val (b::m):=by
 intro b hb hne hd;have h0:1<=val [b]:=by
  have:=Aa.1 hb;have hn:b.toNat≠48:=λh=>hne<|Ql.1 h;simp[val];omega
 have:∀(m:List UInt8) (a:Nat),1<=a->1<=m.foldl (λa b=>10 * a+(b.toNat - 48)) a:=by
  intro m
  induction m with
  | nil=>intro a h;exact h
  | cons x m ih=>intro a h;exact ih _<|show 1<=10 * a+(x.toNat - 48) by omega
 exact this m _<|by simpa[val] using h0
def JR(l:List UInt8):Bool:=match l with
 | []=>A0
 | [_]=>Y
 | b::_::_=> !decide (b=48)
def aa1:∀(k:Nat) (l:List UInt8),l.length=k->(∀b∈l,dig b=Y)->JR l=Y->dcm (val l)=l:=by
 intro k
 induction k with
 | zero=>intro l hl _ h;obtain rfl:l=[]:=Df hl;cases h
 | succ k ih=>
  intro l hl hd ac7;obtain rfl|⟨m,b,rfl⟩:=aDJ l
  .cases ac7
  .rw[aDK]at *;simp at hl;have hb:=hd b aG9;have hb2:=Aa.1 hb;have hof:∀n,b.toNat=n->KM n=b:=λn h=>by rw[← h];simp
   cases m with
   | nil=>
    have:val ([]++[b])=b.toNat - 48:=by simp[val]
    rw[this,Kw J,hof _ J];rfl
   | cons c m=>
    have hc:c≠48:=by
     cases m<;>simpa[JR] using ac7
    have h1:=avv (m:=m) (hd c aG9) hc (λx hx=>hd x<|by simp[hx]);rw[Yg,M6 J,show(10 * val (c::m)+(b.toNat - 48)) / 10=val (c::m) by omega,show(10 * val (c::m)+(b.toNat - 48)) % 10=b.toNat - 48 by omega,
     ih (c::m) hl (λx hx=>hd x<|Bz _ hx) (by cases m<;>simp[JR,hc]),hof _ J]
def Zd:∀(k u:Nat),u<k->∀b∈dcm u,dig b=Y:=by
 intro k
 induction k with
 | zero=>intro u h;omega
 | succ k ih=>
  intro u h b hb;have hd:∀n,n<10->dig (KM<|48+n)=Y:=λn hn=>by
   have:(KM<|48+n).toNat=48+n:=by simp;omega
   unfold dig;rw[this];exact Aa.2 ⟨J,J⟩
  by_cases hu:u<10
  .rw[Kw hu]at hb;obtain rfl:=C1.1 hb;exact hd u hu
  .rw[M6 hu]at hb;obtain hb|hb:=BN.1 hb
   .exact ih (u / 10) J b hb
   .obtain rfl:=C1.1 hb;exact hd _ J
def ZQ:∀(k u:Nat),u<k->val (dcm u)=u:=by
 intro k
 induction k with
 | zero=>intro u h;omega
 | succ k ih=>
  intro u h;by_cases hu:u<10
  .rw[Kw hu];have:(KM<|48+u).toNat=48+u:=by simp;omega
   simp only[val,Du,KK,this];omega
  .rw[M6 hu,Yg,ih (u / 10) J];have:(KM<|48+u % 10).toNat=48+u % 10:=by simp;omega
   rw[this];omega
def oR(u:Nat):dcm u≠[]:=by
 by_cases hu:u<10
 .rw[Kw hu];simp
 .rw[M6 hu];simp
def aFx:∀(k u:Nat),u<k->JR (dcm u)=Y/\(1<=u->∃b m,dcm u=b::m/\b≠48):=by
 intro k
 induction k with
 | zero=>intro u h;omega
 | succ k ih=>
  intro u h;by_cases hu:u<10
  .rw[Kw hu];refine⟨rfl,λh1=>⟨_,_,rfl,λh2=> ?_⟩⟩;have:(KM<|48+u).toNat=48+u:=by simp;omega
   rw[h2]at this;simp at this;omega
  .obtain⟨b,m,h1,h2⟩:=(ih (u / 10) J).2 J;rw[M6 hu,h1];refine⟨?_,λ_=>⟨b,_,rfl,h2⟩⟩;cases m<;>simp[JR,h2]
def KB(l:List UInt8):Option Nat:=if l.all dig&&JR l then I (val l) else G
def QE{l:List UInt8}{n:Nat}:KB l=I n↔l=dcm n:=by
 unfold KB;constructor
 .intro h;split at h
  .rename_i hc;simp at hc;cases h;exact(aa1 _ l rfl hc.1 hc.2).symm
  .cases h
 .rintro rfl;rw[A5,ZQ (n+1) n J];simp only[AE,DB];exact⟨Zd (n+1) n J,(aFx (n+1) n J).1⟩
def ayE{s:A1}{i:Nat}:inB (bt s i) 48 57=dig ((L s).getD i 0):=rfl
def aa9{l:List UInt8}{f:UInt8->Bool}:B5 l.length (λi=>f<|l.getD i 0)=l.all f:=by
 rw[NL,Cq,DB];constructor
 .intro h x hx;obtain⟨i,hi,rfl⟩:=Cz hx;have:=h i hi;simpa[hi] using this
 .intro h i hi;simpa[hi] using h _<|Ci hi
def aCU{s:A1}{i:Nat}(h:∀j,j<i->inB (bt s j) 48 57=Y)(hi:i<=s.size):∀b∈(L s).take i,dig b=Y:=by
 intro b hb;obtain⟨j,hj,rfl⟩:=Cz hb;simp at hj;have h1:=h j J;rw[ayE]at h1;have h2:j<(L s).length:=by rw[Ax];omega
 rw[List.getElem_take];have e:(L s).getD j 0=(L s)[j]:=by rw[BG,Av h2];rfl
 rwa[e]at h1
def aEs{s:A1}{i:Nat}(hi:i<s.size):val ((L s).take<|i+1)=10 * val ((L s).take i)+(((L s).getD i 0).toNat - 48):=by
 rw[asb (by rw[Ax];exact hi),Yg]
def Aq(s:A1):Int×Bool:=if s.size<=5 then(match KB (L s) with|some n=>((n:Int),Y)|none=>(0,A0)) else(0,A0)
def awq{s:A1}(h:1<=s.size):JR (L s)= !(U (bt s 0=48)&&U (1<(s.size:Int))):=by
 rw[show s.size=(L s).length from rfl]at *;unfold bt;show _= !(U ((((L s).getD 0 0).toNat:Int)=48)&&_);generalize L s=l at *
 match l with
 | []=>simp at h
 | [b]=>simp[JR]
 | b::c::m=>
  have:(((b:UInt8).toNat:Int)=48)↔b=48:=⟨λh=>Ql.1 (by show b.toNat=48;omega),λh=>by subst h;rfl⟩;simp only[JR,List.getD_cons_zero,this];simp;omega
def aCD(s:A1):(L s).take s.size=L s:=J2 (by rw[Ax];exact Ar _)
def gL{s:A1}(hs:s.size<=9223372036854775807):Pv (s,())=I (((Aq s).1,(Aq s).2,()),()):=by
 unfold Pv Aq;simp only[EK,A6];by_cases h5:s.size<=5
 .by_cases h1:1<=s.size
  .have e1:inB (s.size:Int) 1 5=Y:=Aa.2 ⟨J,J⟩;have e2:inb 0 s.size=Y:=by have:=AY (J:0<s.size);simpa using this
   have Gs:rW (s,0,0,())=I (if B5 s.size (λi=>inB (bt s i) 48 57) then .inr ((val (L s):Int),()) else .inl (0,A0,())):=by
    rw[← aCD s];refine lH (λi=>(s,(val ((L s).take i):Int),(i:Int),())) s.size (λi=>inB (bt s i) 48 57) (0,A0,()) ((val ((L s).take s.size):Int),()) (λi hi hp=> ?_) (λ_=>by simp[eu]);unfold eu;simp only[AY hi,BK hi,aas,EK,A6,BA hi (by omega:s.size<=9223372036854775807)];obtain h|h:=tf (inB (bt s i) 48 57)
    .have hv:=aF 5 _ y8<|aCU hp J;have hb:=Aa.1 h;have e:w64 (w64 (10 * (val ((L s).take i):Int))+w64 (w8<|bt s i - 48))=(val ((L s).take<|i+1):Int):=by
      rw[aEs hi,ND,AU (n:=10 * _) J J,mT J J,AU (n:=bt s i - 48) J J,AU J J];rw[K4]at hb ⊢;omega
     simp only[h,e];rfl
    .simp only[h];rfl
   rw[e1,e2,A5 h5];simp only[Gs,AB,AH,Bn,Ia,A2];have Ht:B5 s.size (λi=>inB (bt s i) 48 57)=(L s).all dig:=aa9 (l:=L s) (f:=dig);rw[Ht];unfold KB;rw[awq h1];obtain h|h:=tf (U (bt s 0=48)&&U (1<(s.size:Int)))
   .rw[h];simp
   .rw[h];obtain h'|h':=tf ((L s).all dig)
    .rw[h'];rfl
    .rw[h'];rfl
  .have e1:inB (s.size:Int) 1 5=A0:=by simp[inB];omega
   have:L s=[]:=Df (by rw[Ax];omega);rw[e1,A5 h5,this];simp[KB,JR]
 .have e1:inB (s.size:Int) 1 5=A0:=by simp[inB];omega
  rw[e1,A9 h5];simp
def Ac(s:A1):Int:=if s.size<=4 then(match KB (L s) with|some n=>(n:Int)|none=> -1) else -1
def aFy(u:Nat):BM (u:Int)=⟨(dcm u).toArray⟩:=by rw[BM,JI]
def jr{s:A1}(hs:s.size<=9223372036854775807):Q1 (s,())=I ((Ac s,()),()):=by
 unfold Q1 Ac;by_cases h5:s.size<=4
 .by_cases h1:1<=s.size
  .have e1:(U ((s.size:Int)<1)||decide (4<(s.size:Int)))=A0:=by simp;omega
   have Gs:tI (s,0,0,())=I (if B5 s.size (λi=>inB (bt s i) 48 57) then .inr (s,(val (L s):Int),()) else .inl (-1,())):=by
    rw[← aCD s];refine lH (λi=>(s,(val ((L s).take i):Int),(i:Int),())) s.size (λi=>inB (bt s i) 48 57) (-1,()) (s,(val ((L s).take s.size):Int),()) (λi hi hp=> ?_) (λ_=>by simp[ga]);unfold ga;simp only[AY hi,BK hi,BA hi (by omega:s.size<=9223372036854775807)];obtain h|h:=tf (inB (bt s i) 48 57)
    .have hv:=aF 5 _ y8<|aCU hp J;have hb:=Aa.1 h;have e:w64 (w64 ((val ((L s).take i):Int) * 10)+w64 (w8<|bt s i - 48))=(val ((L s).take<|i+1):Int):=by
      rw[aEs hi,ND,AU (n:=_ * 10) J J,mT J J,AU (n:=bt s i - 48) J J,AU J J];rw[K4]at hb ⊢;omega
     have e2:U (bt s i<48)=A0:=by simp;omega
     have e3:U (57<bt s i)=A0:=by simp;omega
     simp only[h,e,e2,e3];rfl
    .have hb:bt s i<48\/57<bt s i:=by
      have:=mt Aa.2 (by rw[h];simp);omega
     simp only[h];obtain hb|hb:=hb
     .simp[hb]
     .have:¬bt s i<48:=J
      simp[hb,this]
   rw[e1,A5 h5];simp only[Gs,A4];have Ht:B5 s.size (λi=>inB (bt s i) 48 57)=(L s).all dig:=aa9 (l:=L s) (f:=dig);rw[Ht];unfold KB;obtain h'|h':=tf ((L s).all dig)
   .have hd:=DB.1 h';have hv:=aF 5 (L s) (by rw[Ax];omega) hd;simp only[h',A2,CU,AS,FV (n:=(val (L s):Int)) J J,A6,aFy];obtain hl|hl:=tf (JR<|L s)
    .have:(⟨(dcm<|val<|L s).toArray⟩:A1)=s:=by
      apply Fu;rw[oy,aa1 _ _ rfl hd hl]
     simp[this,hl]
    .have:¬(⟨(dcm<|val<|L s).toArray⟩:A1)=s:=λh=>by
      have h2:=congrArg L h;rw[oy]at h2;rw[← h2,(aFx (val (L s)+1) _ J).1]at hl;cases hl
     simp[this,hl]
   .rw[h'];rfl
  .have e1:(U ((s.size:Int)<1)||decide (4<(s.size:Int)))=Y:=by simp;omega
   have:L s=[]:=Df (by rw[Ax];omega);rw[e1,A5 h5,this];simp[KB,JR]
 .have e1:(U ((s.size:Int)<1)||decide (4<(s.size:Int)))=Y:=by simp;omega
  rw[e1,A9 h5];simp
def avV{s:A1}{n:Nat}:Aq s=((n:Int),Y)↔s.size<=5/\L s=dcm n:=by
 unfold Aq;by_cases h:s.size<=5
 .rw[A5 h];constructor
  .intro h2;cases h3:KB (L s) with
   | none=>rw[h3]at h2;cases h2
   | some m=>
    rw[h3]at h2;simp at h2;exact⟨h,by rw[QE.1 h3,show m=n by omega]⟩
  .rintro⟨_,h2⟩;rw[QE.2 h2]
 .rw[A9 h];constructor
  .intro h2;cases h2
  .rintro⟨h2,_⟩;exact absurd h2 h
def Sf(s:A1):Aq s=(0,A0)\/ ∃n:Nat,Aq s=((n:Int),Y)/\s.size<=5/\L s=dcm n:=by
 unfold Aq;by_cases h:s.size<=5
 .rw[A5 h];cases h2:KB (L s) with
  | none=>exact .inl rfl
  | some n=>exact .inr ⟨n,rfl,h,QE.1 h2⟩
 .rw[A9 h];exact .inl rfl
def Sd(s:A1):(Ac s= -1/\ ∀n,L s=dcm n->4<s.size)\/ ∃n:Nat,Ac s=(n:Int)/\s.size<=4/\L s=dcm n:=by
 unfold Ac;by_cases h:s.size<=4
 .rw[A5 h];cases h2:KB (L s) with
  | none=>exact .inl ⟨rfl,λn hn=>by rw[QE.2 hn]at h2;cases h2⟩
  | some n=>exact .inr ⟨n,rfl,h,QE.1 h2⟩
 .rw[A9 h];exact .inl ⟨rfl,λn _=>by omega⟩
def nK{s:A1}{n:Nat}(h:s.size<=4)(hn:L s=dcm n):Ac s=(n:Int):=by
 unfold Ac;rw[A5 h,QE.2 hn]
def kq{s:A1}{n:Nat}(h:s.size<=5)(hn:L s=dcm n):Aq s=((n:Int),Y):=avV.2 ⟨h,hn⟩
section
variable {α:Type} (f:α->Bool)
def ins(l:List α)(n:α):List α:=l.takeWhile f++n::l.dropWhile f
abbrev tw(l:List α):Nat:=(l.takeWhile f).length
def R9(l:List α):tw f l<=l.length:=by
 exact(aDF f).length_le
def ZR(l:List α):l.take (tw f l)=l.takeWhile f:=by
 have:=List.take_left (l₁:=l.takeWhile f) (l₂:=l.dropWhile f);rwa[Zk]at this
def ZS(l:List α):l.drop (tw f l)=l.dropWhile f:=by
 have:=List.drop_left (l₁:=l.takeWhile f) (l₂:=l.dropWhile f);rwa[Zk]at this
def UI:∀ {l:List α} {i:Nat} {x:α},i<tw f l->l[i]? =I x->f x=Y
 | [],i,x,h,hx=>by simp at hx
 | y::l,i,x,h,hx=>by
  unfold tw at h;rw[Qr]at h;split at h
  .rename_i hy;cases i with
   | zero=>simp at hx;subst hx;exact hy
   | succ i=>exact UI (l:=l) (i:=i) (by simpa using h) (by simpa using hx)
  .simp at h
def UJ:∀ {l:List α} {x:α},l[tw f l]? =I x->f x=A0
 | [],x,hx=>by simp at hx
 | y::l,x,hx=>by
  unfold tw at hx;rw[Qr]at hx;split at hx
  .exact UJ (l:=l) (by simpa using hx)
  .rename_i hy;simp at hx;subst hx;simpa using hy
def OI(l:List α)(n:α):(ins f l n).length=l.length+1:=by
 have:=congrArg Jd<|Zk (p:=f) (l:=l);rw[Am]at this;simp only[ins,Am,Bm];omega
def GY{l:List α}{n x:α}(h:x∈ins f l n):x=n\/x∈l:=by
 unfold ins at h;rw[BN,Bj]at h;obtain h|h|h:=h
 .exact .inr ((aDF f).mem h)
 .exact .inl h
 .exact .inr<|(List.dropWhile_sublist f).mem h
def L5{l:List α}{n x:α}(h:x=n\/x∈l):x∈ins f l n:=by
 unfold ins;rw[BN,Bj];obtain h|h:=h
 .exact .inr (.inl h)
 .rw[← Zk (p:=f) (l:=l),BN]at h;obtain h|h:=h
  .exact .inl h
  .exact .inr<|.inr h
end
def lq{α:Type}{f g:α->Bool}:∀ {l:List α},(∀x∈l,f x=g x)->l.takeWhile f=l.takeWhile g/\l.dropWhile f=l.dropWhile g
 | [],_=>⟨rfl,rfl⟩
 | x::l,h=>by
  have ih:=lq (l:=l) (λy hy=>h y<|Ah _ hy);rw[Qr,Qr,mP,mP,h x Ao,ih.1,ih.2];exact⟨rfl,rfl⟩
def aEA{α:Type}{f g:α->Bool}{l:List α}{n:α}(h:∀x∈l,f x=g x):ins f l n=ins g l n:=by
 unfold ins;rw[(lq h).1,(lq h).2]
def DT{l:List A3}{i:Nat}{x:A3}(h:l[i]? =I x):nA l i=x:=Oe h
def Fa{l:List Mark}{i:Nat}{x:Mark}(h:l[i]? =I x):mA l i=x:=Oe h
def Dt(l:List A3)(n:A3):List A3:=ins (λx=>bef x.fr x.nu n.fr n.nu) l n
def ED(l:List Mark)(n:Mark):List Mark:=ins (λx=>bef x.mf x.mn n.mf n.mn) l n
def YF{α:Type}{l:List α}{i:Nat}{x:α}(h:l[i]? =I x):l.take i++[x]=l.take (i+1):=by
 rw[JW,h];rfl
def aEL{α:Type}{l:List α}{i j:Nat}{x:α}(h:l[i]? =I x)(hj:j<=i):(l.take i).drop j++[x]=(l.take<|i+1).drop j:=by
 have hi:=(BR.1 h).1;rw[← YF h,Tu y8]
def DS{α:Type}(g:α->Bool)(l:List α)(n:α)(i:Nat):List α:=if i<=tw g l then l.take i else l.take (tw g l)++n::(l.take i).drop (tw g l)
def YK{α:Type}(g:α->Bool)(l:List α)(n:α)(i:Nat):(DS g l n i).length<=l.length+1:=by
 have:=R9 g l;unfold DS;split<;>simp<;>omega
def aER{α:Type}(g:α->Bool)(l:List α)(n:α):(if tw g l<l.length then DS g l n l.length else DS g l n l.length++[n])=ins g l n:=by
 have h:=R9 g l;unfold DS ins;split
 .rw[A9 J,EG,ZR,ZS]
 .rw[A5 J,EG];have:tw g l=l.length:=J
  rw[← ZR,← ZS,this];simp
def aFG{α:Type}{g:α->Bool}{l:List α}{n x:α}{i:Nat}(h:l[i]? =I x)(hi:i<tw g l):DS g l n i++[x]=DS g l n (i+1):=by
 unfold DS;rw[A5 J,A5 J,YF h]
def aFI{α:Type}{g:α->Bool}{l:List α}{n x:α}{i:Nat}(h:l[i]? =I x)(hi:i=tw g l):DS g l n i++[n]++[x]=DS g l n (i+1):=by
 subst hi;unfold DS;rw[A5<|Ar _,A9 J,← aEL h<|Ar _];simp
def aFH{α:Type}{g:α->Bool}{l:List α}{n x:α}{i:Nat}(h:l[i]? =I x)(hi:tw g l<i):DS g l n i++[x]=DS g l n (i+1):=by
 unfold DS;rw[A9 J,A9 J,← aEL h J];simp
def gv{l:List A3}{fr nu tt un:Int}{tx:A1}(hl:l.length<=1048576):Pz (l,(fr,nu,tt,un,tx,()),())=I ((Dt l ⟨fr,nu,tt,un,tx⟩,()),()):=by
 have ht:=R9 (λx:A3=>bef x.fr x.nu fr nu) l;have h:sj (l,(fr,nu,tt,un,tx,()),0,())=I (.inr (l,(fr,nu,tt,un,tx,()),((tw (λx:A3=>bef x.fr x.nu fr nu) l:Nat):Int),())):=
  CX (λi=>(l,(fr,nu,tt,un,tx,()),(i:Int),())) (tw (λx:A3=>bef x.fr x.nu fr nu) l) (λi hi=>by
   have hi':i<l.length:=J
   have hx:=Av hi';unfold gJ;simp only[AY hi',BK hi',DQ,SV,BA hi' (by omega:l.length<=9223372036854775807),DT hx,UI (λx:A3=>bef x.fr x.nu fr nu) hi hx];rfl) (by
   unfold gJ;generalize ht2:tw (λx:A3=>bef x.fr x.nu fr nu) l=t at *;obtain hlt|hge:=GM t l.length
   .have hx:=Av hlt;have:=UJ (λx:A3=>bef x.fr x.nu fr nu) (l:=l) (x:=l[t]) (by rw[ht2];exact hx);simp only[AY hlt,BK hlt,DQ,SV,DT hx,this];rfl
   .have e:U ((t:Int)<(j8 l:Int))=A0:=by simp;omega
    simp only[e,HR,A2,AO,A4])
 unfold Pz;have hb:(U (0<=((tw (λx:A3=>bef x.fr x.nu fr nu) l:Nat):Int))&&U (((tw (λx:A3=>bef x.fr x.nu fr nu) l:Nat):Int)<=(j8 l:Int)))=Y:=by simp;omega
 simp only[h,CU,hb,A2,Bc,EV,CL,DM,Am,Bm,DW,E4];rw[A5<|BD J,A5<|BD J,A5<|BD J,ZR,ZS];simp[Dt,ins]
def PH(l:List A3)(n:A3):List A3:=ins (λx=> !bef n.fr n.nu x.fr x.nu) l n
def dG{l:List A3}{fr nu tt un:Int}{tx:A1}(hl:l.length<=1048576):Pe (l,(fr,nu,tt,un,tx,()),())=I ((PH l ⟨fr,nu,tt,un,tx⟩,()),()):=by
 let g:A3->Bool:=λx=> !bef fr nu x.fr x.nu
 have ht:=R9 g l;have h:qQ (l,(fr,nu,tt,un,tx,()),[],A0,0,())=I (.inr ((fr,nu,tt,un,tx,()),DS g l ⟨fr,nu,tt,un,tx⟩ l.length,U<|tw g l<l.length,())):=by
  refine CX (λi=>(l,(fr,nu,tt,un,tx,()),DS g l ⟨fr,nu,tt,un,tx⟩ i,U<|tw g l<i,(i:Int),())) l.length (λi hi=> ?_) (by simp[cZ]);have hx:=Av hi;have hr:=YK g l ⟨fr,nu,tt,un,tx⟩ i;unfold cZ;simp only[AY hi,BK hi,DQ,XY,BA hi (by omega:l.length<=9223372036854775807),DT hx,Bm,CL,DM,BD<|show(DS g l ⟨fr,nu,tt,un,tx⟩ i).length+1<=4294967296 by omega];obtain hlt|heq|hgt:=J0 i (tw g l)
  .have h1:bef fr nu l[i].fr l[i].nu=A0:=by simpa[g] using UI g hlt hx
   have h2:U (tw g l<i)=A0:=by simp;omega
   have h3:U (tw g l<i+1)=A0:=by simp;omega
   simp only[h1,h2,h3,Ia,AH,A2,Dk,Dd,BX,A4,Bk,DQ,DT hx,AY hi,BD<|show(DS g l ⟨fr,nu,tt,un,tx⟩ i).length+1<=4294967296 by omega,aFG hx hlt,BA hi (by omega:l.length<=9223372036854775807)]
  .have hx2:l[tw g l]? =I l[i]:=by rw[← heq];exact hx
   have h1:bef fr nu l[i].fr l[i].nu=Y:=by simpa[g] using UJ g hx2
   have h2:U (tw g l<i)=A0:=by simp;omega
   have h3:U (tw g l<i+1)=Y:=by simp;omega
   have h4:DS g l ⟨fr,nu,tt,un,tx⟩ i++[⟨fr,nu,tt,un,tx⟩]++[l[i]]=DS g l ⟨fr,nu,tt,un,tx⟩ (i+1):=aFI hx heq;simp only[h1,h2,h3,h4,Ia,AH,A2,Dk,Dd,EY,Bk,DQ,DT hx,AY hi,Am,Bm,CL,DM,BD<|show(DS g l ⟨fr,nu,tt,un,tx⟩ i).length+1+1<=4294967296 by omega,BA hi (by omega:l.length<=9223372036854775807)]
  .have h2:U (tw g l<i)=Y:=by simp;omega
   have h3:U (tw g l<i+1)=Y:=by simp;omega
   simp only[h2,h3,HR,AB,A2,AO,A4,Bk,DQ,DT hx,AY hi,BD<|show(DS g l ⟨fr,nu,tt,un,tx⟩ i).length+1<=4294967296 by omega,aFH hx hgt,BA hi (by omega:l.length<=9223372036854775807)]
 unfold Pe;simp only[h,CU];have he:=aER g l ⟨fr,nu,tt,un,tx⟩;have hr:=YK g l ⟨fr,nu,tt,un,tx⟩ l.length;unfold PH;show _=I ((ins g l _,()),());rw[← he];by_cases hc:tw g l<l.length
 .simp[hc]
 .simp[hc,BD<|show(DS g l ⟨fr,nu,tt,un,tx⟩ l.length).length+1<=4294967296 by omega]
def H8(t:Int)(l:List A3):List A3:=l.filter λx=>U<|t<x.un
def iw{l:List Mark}{mf mn mu:Int}(hl:l.length<=1048576):SR (l,(mf,mn,mu,()),())=I ((ED l ⟨mf,mn,mu⟩,()),()):=by
 have ht:=R9 (λx:Mark=>bef x.mf x.mn mf mn) l;have h:sr (l,(mf,mn,mu,()),0,())=I (.inr (l,(mf,mn,mu,()),((tw (λx:Mark=>bef x.mf x.mn mf mn) l:Nat):Int),())):=
  CX (λi=>(l,(mf,mn,mu,()),(i:Int),())) (tw (λx:Mark=>bef x.mf x.mn mf mn) l) (λi hi=>by
   have hi':i<l.length:=J
   have hx:=Av hi';unfold gN;simp only[AY hi',BK hi',FD,SV,BA hi' (by omega:l.length<=9223372036854775807),Fa hx,UI (λx:Mark=>bef x.mf x.mn mf mn) hi hx];rfl) (by
   unfold gN;generalize ht2:tw (λx:Mark=>bef x.mf x.mn mf mn) l=t at *;obtain hlt|hge:=GM t l.length
   .have hx:=Av hlt;have:=UJ (λx:Mark=>bef x.mf x.mn mf mn) (l:=l) (x:=l[t]) (by rw[ht2];exact hx);simp only[AY hlt,BK hlt,FD,SV,Fa hx,this];rfl
   .have e:U ((t:Int)<(j8 l:Int))=A0:=by simp;omega
    simp only[e,HR,A2,AO,A4])
 unfold SR;have hb:(U (0<=((tw (λx:Mark=>bef x.mf x.mn mf mn) l:Nat):Int))&&U (((tw (λx:Mark=>bef x.mf x.mn mf mn) l:Nat):Int)<=(j8 l:Int)))=Y:=by simp;omega
 simp only[h,CU,hb,A2,Bc,EV,CL,DM,Am,Bm,DW,E4];rw[A5<|BD J,A5<|BD J,A5<|BD J,ZR,ZS];simp[ED,ins]
def PI(l:List Mark)(n:Mark):List Mark:=ins (λx=> !bef n.mf n.mn x.mf x.mn) l n
def sO{l:List Mark}{mf mn mu:Int}(hl:l.length<=1048576):Rm (l,(mf,mn,mu,()),())=I ((PI l ⟨mf,mn,mu⟩,()),()):=by
 let g:Mark->Bool:=λx=> !bef mf mn x.mf x.mn
 have ht:=R9 g l;have h:qS (l,(mf,mn,mu,()),[],A0,0,())=I (.inr ((mf,mn,mu,()),DS g l ⟨mf,mn,mu⟩ l.length,U<|tw g l<l.length,())):=by
  refine CX (λi=>(l,(mf,mn,mu,()),DS g l ⟨mf,mn,mu⟩ i,U<|tw g l<i,(i:Int),())) l.length (λi hi=> ?_) (by simp[cb]);have hx:=Av hi;have hr:=YK g l ⟨mf,mn,mu⟩ i;unfold cb;simp only[AY hi,BK hi,FD,XY,BA hi (by omega:l.length<=9223372036854775807),Fa hx,Bm,CL,DM,BD<|show(DS g l ⟨mf,mn,mu⟩ i).length+1<=4294967296 by omega];obtain hlt|heq|hgt:=J0 i (tw g l)
  .have h1:bef mf mn l[i].mf l[i].mn=A0:=by simpa[g] using UI g hlt hx
   have h2:U (tw g l<i)=A0:=by simp;omega
   have h3:U (tw g l<i+1)=A0:=by simp;omega
   simp only[h1,h2,h3,Ia,AH,A2,Dk,Dd,BX,A4,Bk,FD,Fa hx,AY hi,BD<|show(DS g l ⟨mf,mn,mu⟩ i).length+1<=4294967296 by omega,aFG hx hlt,BA hi (by omega:l.length<=9223372036854775807)]
  .have hx2:l[tw g l]? =I l[i]:=by rw[← heq];exact hx
   have h1:bef mf mn l[i].mf l[i].mn=Y:=by simpa[g] using UJ g hx2
   have h2:U (tw g l<i)=A0:=by simp;omega
   have h3:U (tw g l<i+1)=Y:=by simp;omega
   have h4:DS g l ⟨mf,mn,mu⟩ i++[⟨mf,mn,mu⟩]++[l[i]]=DS g l ⟨mf,mn,mu⟩ (i+1):=aFI hx heq;simp only[h1,h2,h3,h4,Ia,AH,A2,Dk,Dd,EY,Bk,FD,Fa hx,AY hi,Am,Bm,CL,DM,BD<|show(DS g l ⟨mf,mn,mu⟩ i).length+1+1<=4294967296 by omega,BA hi (by omega:l.length<=9223372036854775807)]
  .have h2:U (tw g l<i)=Y:=by simp;omega
   have h3:U (tw g l<i+1)=Y:=by simp;omega
   simp only[h2,h3,HR,AB,A2,AO,A4,Bk,FD,Fa hx,AY hi,BD<|show(DS g l ⟨mf,mn,mu⟩ i).length+1<=4294967296 by omega,aFH hx hgt,BA hi (by omega:l.length<=9223372036854775807)]
 unfold Rm;simp only[h,CU];have he:=aER g l ⟨mf,mn,mu⟩;have hr:=YK g l ⟨mf,mn,mu⟩ l.length;unfold PI;show _=I ((ins g l _,()),());rw[← he];by_cases hc:tw g l<l.length
 .simp[hc]
 .simp[hc,BD<|show(DS g l ⟨mf,mn,mu⟩ l.length).length+1<=4294967296 by omega]
def K7(t:Int)(l:List Mark):List Mark:=l.filter λx=>U<|t<x.mu
def Xd{α:Type}{l:List α}{f:α->Bool}{i:Nat}{x:α}(h:l[i]? =I x):(l.take<|i+1).filter f=(l.take i).filter f++(if f x then [x] else []):=by
 rw[← YF h,P5];congr 1;cases hf:f x<;>simp[hf]
def Xh{α:Type}{l:List α}{f:α->Bool}{i:Nat}:((l.take i).filter f).length<=l.length:=by
 have:=J1 f<|l.take i;simp at this;omega
def anK{id ti nx t:Int}{held:List A3}{marks:List Mark}{inbox:List A3}(sm:DX held marks inbox):fw ((id,ti,nx,held,marks,inbox,()),t,())=I (((id,t,nx,H8 t held,K7 t marks,inbox,()),()),()):=by
 have hl:=sm.hl;have ml:=sm.ml;have h0:rh (t,(id,ti,nx,held,marks,inbox,()),(0,0,0,[],[],[],()),(id,t,nx,[],[],inbox,()),held,(held.length:Int),0,())=I (.inr (t,(id,ti,nx,held,marks,inbox,()),(0,0,0,[],[],[],()),(id,t,nx,H8 t held,[],inbox,()),())):=by
  rw[show H8 t held=(held.take held.length).filter (λx=>U<|t<x.un) by rw[EG];rfl];refine CX (λi=>(t,(id,ti,nx,held,marks,inbox,()),(0,0,0,[],[],[],()),(id,t,nx,(held.take i).filter λx=>U<|t<x.un,[],inbox,()),held,(held.length:Int),(i:Int),())) held.length (λi hi=> ?_) (by simp[fB]);have hx:=Av hi;have hr:=Xh (l:=held) (f:=λx=>U<|t<x.un) (i:=i);unfold fB;simp only[AY hi,BK hi,DQ,DT hx,BA hi (by omega:held.length<=9223372036854775807),Xd hx,Bm,CL,DM,BD<|show((held.take i).filter λx=>U<|t<x.un).length+1<=4294967296 by omega];by_cases hc:t<held[i].un<;>simp[hc]
 have h1:re (t,(0,0,0,[],[],[],()),(id,t,nx,H8 t held,[],inbox,()),marks,(marks.length:Int),0,())=I (.inr ((0,0,0,[],[],[],()),(id,t,nx,H8 t held,K7 t marks,inbox,()),())):=by
  rw[show K7 t marks=(marks.take marks.length).filter (λx=>U<|t<x.mu) by rw[EG];rfl];refine CX (λi=>(t,(0,0,0,[],[],[],()),(id,t,nx,H8 t held,(marks.take i).filter λx=>U<|t<x.mu,inbox,()),marks,(marks.length:Int),(i:Int),())) marks.length (λi hi=> ?_) (by simp[fA]);have hx:=Av hi;have hr:=Xh (l:=marks) (f:=λx=>U<|t<x.mu) (i:=i);unfold fA;simp only[AY hi,BK hi,FD,Fa hx,BA hi (by omega:marks.length<=9223372036854775807),Xd hx,Bm,CL,DM,BD<|show((marks.take i).filter λx=>U<|t<x.mu).length+1<=4294967296 by omega];by_cases hc:t<marks[i].mu<;>simp[hc]
 unfold fw;simp only[h0,h1,CU]
def alU{id ti nx t:Int}{held:List A3}{marks:List Mark}{inbox:List A3}(sm:DX held marks inbox):fj ((id,ti,nx,held,marks,inbox,()),t,())=I (((id,t,nx,H8 t held,K7 t marks,inbox,()),()),()):=by
 have hl:=sm.hl;have ml:=sm.ml;have h0:rK (t,(id,ti,nx,held,marks,inbox,()),(0,0,0,[],[],[],()),[],0,())=I (.inr (t,(id,ti,nx,held,marks,inbox,()),(0,0,0,[],[],[],()),H8 t held,())):=by
  rw[show H8 t held=(held.take held.length).filter (λx=>U<|t<x.un) by rw[EG];rfl];refine CX (λi=>(t,(id,ti,nx,held,marks,inbox,()),(0,0,0,[],[],[],()),(held.take i).filter λx=>U<|t<x.un,(i:Int),())) held.length (λi hi=> ?_) (by simp[eQ]);have hx:=Av hi;have hr:=Xh (l:=held) (f:=λx=>U<|t<x.un) (i:=i);unfold eQ;simp only[AY hi,BK hi,DQ,DT hx,BA hi (by omega:held.length<=9223372036854775807),Xd hx,Bm,CL,DM,BD<|show((held.take i).filter λx=>U<|t<x.un).length+1<=4294967296 by omega];by_cases hc:t<held[i].un<;>simp[hc]
 have h1:rJ (t,(id,ti,nx,held,marks,inbox,()),(0,0,0,[],[],[],()),H8 t held,[],0,())=I (.inr (t,(id,ti,nx,held,marks,inbox,()),(0,0,0,[],[],[],()),H8 t held,K7 t marks,())):=by
  rw[show K7 t marks=(marks.take marks.length).filter (λx=>U<|t<x.mu) by rw[EG];rfl];refine CX (λi=>(t,(id,ti,nx,held,marks,inbox,()),(0,0,0,[],[],[],()),H8 t held,(marks.take i).filter λx=>U<|t<x.mu,(i:Int),())) marks.length (λi hi=> ?_) (by simp[eP]);have hx:=Av hi;have hr:=Xh (l:=marks) (f:=λx=>U<|t<x.mu) (i:=i);unfold eP;simp only[AY hi,BK hi,FD,Fa hx,BA hi (by omega:marks.length<=9223372036854775807),Xd hx,Bm,CL,DM,BD<|show((marks.take i).filter λx=>U<|t<x.mu).length+1<=4294967296 by omega];by_cases hc:t<marks[i].mu<;>simp[hc]
 unfold fj;simp only[h0,h1,CU]
def ER(l:List A3)(i:Nat):List A3:=l.take i++l.drop (i+1)
def ann{l:List A3}{i:Nat}(hl:l.length<=1048576)(hi:i<l.length):SH (l,(i:Int),())=I ((ER l i,()),()):=by
 unfold SH;have h1:(U (0<=(i:Int))&&U ((i:Int)<=(j8 l:Int)))=Y:=by simp;omega
 have h2:(U (0<=((i+1:Nat):Int))&&U (((i+1:Nat):Int)<=(j8 l:Int)))=Y:=by simp;omega
 simp only[BA hi (by omega:l.length<=9223372036854775807),h1,h2,A2,Bc,EV,CL,DM,DW,E4];rw[A5<|BD J,A5<|BD J];rfl
end Go.VS
namespace Go.VS
open Go
def B_L(s:A1):B (L s)=s:=Fu rfl
def Cn(l:List UInt8):Prop:=∀b∈l,b≠32
def Lw:∀(l:List UInt8),Cn l\/ ∃w r,Cn w/\l=w++32::r
 | []=> .inl (λ_ h=>by cases h)
 | b::l=>by
  by_cases h:b=32
  .exact .inr ⟨[],l,(λ_ h=>by cases h),by rw[h];rfl⟩
  .rcases Lw l with h1|⟨w,r,h1,h2⟩
   .refine .inl (λx hx=> ?_);obtain rfl|hx:=Bj.1 hx
    .exact h
    .exact h1 x hx
   .refine .inr ⟨b::w,r,λx hx=> ?_,by rw[h2];rfl⟩;obtain rfl|hx:=Bj.1 hx
    .exact h
    .exact h1 x hx
def nL:∀ {l:List UInt8},Cn l->Lib.index l [32]= -1
 | [],_=>rfl
 | b::l,h=>by
  rw[UA];unfold Lib.indexByte;have h1:=h b Ao;rw[A9<|by simpa using h1,← UA,nL λx hx=>h x<|Ah _ hx];rfl
def nM:∀ {w r:List UInt8},Cn w->Lib.index (w++32::r) [32]=w.length
 | [],r,_=>by rw[UA];rfl
 | b::w,r,h=>by
  rw[UA,LH];unfold Lib.indexByte;have h1:=h b Ao;rw[A9<|by simpa using h1,← UA,nM λx hx=>h x<|Ah _ hx,A9 aG9];simp
def ayC{l:List UInt8}(h:Cn l):FO l [32]=(l,[],A0):=by
 unfold FO;rw[nL h,A9 J]
def ayD{w r:List UInt8}(h:Cn w):FO (w++32::r) [32]=(w,r,Y):=by
 unfold FO;rw[nM h,A5 J];simp
def avw{s:A1}(hs:s.size<=1048576)(h:Cn (L s)):Wr (s,B [32],())=I ((s,noB,A0,()),()):=by
 show PM _=_;unfold PM;rw[A5 (by show s.size<_;omega)];show I ((B (FO (L s) [32]).1,B (FO (L s) [32]).2.1,(FO (L s) [32]).2.2,()),())=_;rw[ayC h];show I ((B<|L s,noB,A0,()),())=_;rw[B_L]
def avx{s:A1}{w r:List UInt8}(hs:s.size<=1048576)(h:Cn w)(e:L s=w++32::r):Wr (s,B [32],())=I ((B w,B r,Y,()),()):=by
 show PM _=_;unfold PM;rw[A5 (by show s.size<_;omega)];show I ((B (FO (L s) [32]).1,B (FO (L s) [32]).2.1,(FO (L s) [32]).2.2,()),())=_;rw[e,ayD h]
def oq{s:A1}{i:Nat}:U (bt s i=32)=U ((L s).getD i 0=32):=by
 rw[decide_eq_decide,K4];exact⟨λh=>Ql.1 (by show _=32;omega),λh=>by rw[h];rfl⟩
def aED{s:A1}(hs:s.size<=1048576):sC (s,0,())=I (if Fy s.size (λi=>U<|bt s i=32)<0 then .inr (s,()) else
  .inl (s.extract 0 (Fy s.size λi=>U<|bt s i=32).toNat,s.extract ((Fy s.size λi=>U<|bt s i=32).toNat+1) s.size,())):=
 Q8 (λi=>(s,(i:Int),())) s.size (λi=>U<|bt s i=32) (λi=>(s.extract 0 i.toNat,s.extract (i.toNat+1) s.size,())) (s,()) (λi hi=>by
  have h1:(U (0<=(i:Int))&&U ((i:Int)<=(s.size:Int)))=Y:=by simp;omega
  have h2:(U (0<=((i+1:Nat):Int))&&U (((i+1:Nat):Int)<=(s.size:Int)))=Y:=by simp;omega
  unfold fY;simp only[AY hi,BK hi,BA hi (by omega:s.size<=9223372036854775807),h1,h2,A2,Bc];cases U (bt s i=32)<;>rfl) (by simp[fY])
def avA{n:Nat}{p:Nat->Bool}(h:∀i,i<n->p i=A0):Fy n p= -1:=by
 obtain⟨h1,_⟩|⟨i,h1,h2,h3,_⟩:=G6 n p
 .exact h1
 .rw[h i h2]at h3;cases h3
def aGO{n i:Nat}{p:Nat->Bool}(hi:i<n)(hp:p i=Y)(h:∀j,j<i->p j=A0):Fy n p=i:=by
 obtain⟨_,h1⟩|⟨j,h1,h2,h3,h4⟩:=G6 n p
 .rw[h1 i hi]at hp;cases hp
 .rcases J0 i j with h5|h5|h5
  .rw[h4 i h5]at hp;cases hp
  .rw[h1,h5]
  .rw[h j h5]at h3;cases h3
def av6{w r:List UInt8}{b:UInt8}:(w++b::r).getD w.length 0=b:=by simp
def aaT{w r:List UInt8}{j:Nat}(h:j<w.length):(w++r).getD j 0∈w:=by
 rw[BG,II h,Av h];exact Ci h
def avU{l:List UInt8}{j:Nat}(h:j<l.length):l.getD j 0∈l:=by
 rw[BG,Av h];exact Ci h
def asV{s:A1}(hs:s.size<=1048576)(h:Cn (L s)):O6 (s,())=I ((s,noB,()),()):=by
 unfold O6;simp only[aED hs];rw[avA (λi hi=>by rw[oq];simpa using h _<|avU (by rw[Ax];exact hi))];rfl
def asW{s:A1}{w r:List UInt8}(hs:s.size<=1048576)(h:Cn w)(e:L s=w++32::r):O6 (s,())=I ((B w,B r,()),()):=by
 have hl:s.size=w.length+1+r.length:=by
  have:=congrArg Jd e;rw[Ax]at this;simp at this;omega
 unfold O6;simp only[aED hs];rw[aGO (i:=w.length) J (by rw[oq,e,av6];rfl) (λj hj=>by rw[oq,e];simpa using h _<|aaT hj),A9 J];have e1:s.extract 0 w.length=B w:=Fu (by rw[E9,e,L_B];simp);have e2:s.extract (w.length+1) s.size=B r:=Fu (by rw[E9,e,L_B,hl,show w++32::r=(w++[32])++r by simp,Qm aG9,show w.length+1+r.length - (w.length+1)=r.length by omega,EG]);simp only[GX,Bc,e1,e2]
def wr(n:A3):A1:=((((((((BM n.fr++B [32])++BM n.nu)++B [32])++BM n.to)++B [32])++BM n.un)++B [32])++n.tx)
def wrL(n:A3):List UInt8:=B6 n.fr++32::(B6 n.nu++32::(B6 n.to++32::(B6 n.un++32::L n.tx)))
def UG(n:Int):L (BM n)=B6 n:=rfl
def RS(n:A3):L (wr n)=wrL n:=by
 unfold wr wrL;simp only[GG,UG,L_B,C7,LH,EV]
def arZ{n:Int}{k:Nat}(h0:0<=n)(h1:n<10 ^ k)(hk:1<=k):B6 n=dcm n.toNat/\(B6 n).length<=k:=by
 obtain⟨u,rfl⟩:=HG h0;rw[JI];refine⟨rfl,Ly k u hk ?_⟩;have:((10 ^ k:Nat):Int)=(10:Int) ^ k:=by simp
 omega
structure Ud (n:A3):Prop where
 f0:0<=n.fr
 f1:n.fr<=3
 t0:0<=n.to
 t1:n.to<=3
 n0:1<=n.nu
 n1:n.nu<=99
 u0:1<=n.un
 u1:n.un<=999
 s0:1<=n.tx.size
 s1:n.tx.size<=24
def Ie{n:A3}(h:Aw n=Y):Ud n:=by
 unfold Aw LN at h;simp only[AE,Aa]at h;obtain⟨⟨a,b⟩,⟨c,d⟩,⟨e,f⟩,⟨g,i⟩,⟨j,k⟩,_⟩:=h;exact⟨a,b,c,d,e,f,g,i,J,J⟩
def Gw{n:Int}{k:Nat}(h0:0<=n)(h1:n<10 ^ k)(hk:1<=k):(BM n).size<=k:=(arZ h0 h1 hk).2
def Vj{fr nu tt un:Int}{tx:A1}(hs:tx.size<=1048576):Ml ((fr,nu,tt,un,tx,()),())=I ((if Aw ⟨fr,nu,tt,un,tx⟩ then wr ⟨fr,nu,tt,un,tx⟩ else noB,()),()):=by
 unfold Ml;simp only[Wh hs,A6];obtain h|h:=tf (Aw ⟨fr,nu,tt,un,tx⟩)
 .have hf:=Ie h;obtain⟨f0,f1,t0,t1,n0,n1,u0,u1,s0,s1⟩:=hf;simp only at f0 f1 t0 t1 n0 n1 u0 u1 s0 s1;have a1:=Gw (n:=fr) (k:=1) f0 J J;have a2:=Gw (n:=nu) (k:=2) J J J;have a3:=Gw (n:=tt) (k:=1) t0 J J;have a4:=Gw (n:=un) (k:=3) J J J;have b:(B [32]).size=1:=rfl;simp only[h,AB,A4,JM (n:=fr) J J,JM (n:=nu) J J,JM (n:=tt) J J,JM (n:=un) J J,A6,Bf,b]
  repeat rw[A5 (by rw[decide_eq_true_eq];omega)]
  rfl
 .simp only[h,AH,A2,A4]
def Rx{fr nu tt un:Int}{tx:A1}(hs:tx.size<=1048576):KZ ((fr,nu,tt,un,tx,()),())=I ((if Aw ⟨fr,nu,tt,un,tx⟩ then wr ⟨fr,nu,tt,un,tx⟩ else noB,()),()):=by
 unfold KZ;simp only[Wv hs,A6];obtain h|h:=tf (Aw ⟨fr,nu,tt,un,tx⟩)
 .have hf:=Ie h;obtain⟨f0,f1,t0,t1,n0,n1,u0,u1,s0,s1⟩:=hf;simp only at f0 f1 t0 t1 n0 n1 u0 u1 s0 s1;have a1:=Gw (n:=fr) (k:=1) f0 J J;have a2:=Gw (n:=nu) (k:=2) J J J;have a3:=Gw (n:=tt) (k:=1) t0 J J;have a4:=Gw (n:=un) (k:=3) J J J;have b:(B [32]).size=1:=rfl;simp only[h,AB,A4,FV (n:=fr) J J,FV (n:=nu) J J,FV (n:=tt) J J,FV (n:=un) J J,A6,Bf,b]
  repeat rw[A5 (by rw[decide_eq_true_eq];omega)]
  rfl
 .simp only[h,AH,A2,A4]
def Nc:List UInt8->Option (List UInt8×List UInt8)
 | []=>G
 | b::l=>if b=32 then I ([],l) else(Nc l).map λp=>(b::p.1,p.2)
def TZ:∀ {l:List UInt8},Cn l->Nc l=G
 | [],_=>rfl
 | b::l,h=>by
  unfold Nc;rw[A9<|h b Ao,TZ λx hx=>h x<|Ah _ hx];rfl
def Ta:∀ {w r:List UInt8},Cn w->Nc (w++32::r)=I (w,r)
 | [],r,_=>rfl
 | b::w,r,h=>by
  rw[LH];unfold Nc;rw[A9<|h b Ao,Ta λx hx=>h x<|Ah _ hx];rfl
def wd(s:A1):A1×A1:=match Nc (L s) with
 | some p=>(B p.1,B p.2)
 | none=>(s,noB)
def UH{s:A1}(h:Cn (L s)):wd s=(s,noB):=by unfold wd;rw[TZ h]
def LB{s:A1}{w r:List UInt8}(h:Cn w)(e:L s=w++32::r):wd s=(B w,B r):=by unfold wd;rw[e,Ta h]
def TR(s:A1):(wd s).1.size<=s.size/\(wd s).2.size<=s.size:=by
 obtain h|⟨w,r,h,e⟩:=Lw (L s)
 .rw[UH h];exact⟨Ar _,Ch _⟩
 .rw[LB h e];have:=congrArg Jd e;rw[Ax]at this;simp at this;rw[BP,BP];exact⟨by show w.length<=_;omega,by show r.length<=_;omega⟩
def aac{s:A1}(hs:s.size<=1048576):O6 (s,())=I (((wd s).1,(wd s).2,()),()):=by
 obtain h|⟨w,r,h,e⟩:=Lw (L s)
 .rw[UH h,asV hs h]
 .rw[LB h e,asW hs h e]
def ayy{s:A1}(hs:s.size<=1048576):Wr (s,B [32],())=I (((wd s).1,(wd s).2,(Nc<|L s).isSome,()),()):=by
 obtain h|⟨w,r,h,e⟩:=Lw (L s)
 .rw[UH h,avw hs h,TZ h];rfl
 .rw[LB h e,avx hs h e,e,Ta h];rfl
def E8(s:A1):Nat->A1
 | 0=>s
 | i+1=>(wd<|E8 s i).2
def Al(s:A1)(i:Nat):A1:=(wd<|E8 s i).1
def Xu(s:A1):∀i,(E8 s i).size<=s.size
 | 0=>Ar _
 | i+1=>C6 (TR<|E8 s i).2 (Xu s i)
def ar0(s:A1)(i:Nat):(Al s i).size<=s.size:=C6 (TR _).1<|Xu s i
def aag{s:A1}{n:Nat}(hs:s.size<=1048576)(hn:n<=10):Pw (s,(n:Int),())=I (((B1 n).map λi=>Ac<|Al s i,E8 s n,()),()):=by
 have h:sE (s,(n:Int),[],0,())=I (.inr (E8 s n,(B1 n).map λi=>Ac<|Al s i,())):=by
  refine CX (λi=>(E8 s i,(n:Int),(B1 i).map λi=>Ac<|Al s i,(i:Int),())) n (λi hi=> ?_) (by simp[ff]);have h1:=Xu s i;have h2:=ar0 s i;unfold ff;simp only[BK hi,aac<|show(E8 s i).size<=1048576 by omega,A6,A2,jr (show(wd<|E8 s i).1.size<=9223372036854775807 by have:=(TR<|E8 s i).1;omega),
   De,R0,Bm,CL,DM,BD (J:i+1<=4294967296),BA hi (by omega:n<=9223372036854775807),Hl,Eg,DV,IK]
  rfl
 unfold Pw;simp only[h,CU]
def aCu{ws:List A1}(hl:ws.length<=1048577)(hw:∀w∈ws,w.size<=1048576):
  S8 (ws,())=I ((if B5 ws.length (λi=>(Aq<|ws.getD i noB).2) then(ws.map λw=>(Aq w).1,Y,()) else([],A0,())),()):=by
 have h:rC ([],ws,(j8 ws:Int),0,())=I (if B5 ws.length (λi=>(Aq<|ws.getD i noB).2) then .inr (ws.map λw=>(Aq w).1,()) else .inl ([],A0,())):=by
  rw[show ws.map (λw=>(Aq w).1)=(ws.take ws.length).map (λw=>(Aq w).1) by rw[EG]];refine lH (λi=>((ws.take i).map λw=>(Aq w).1,ws,(j8 ws:Int),(i:Int),())) ws.length (λi=>(Aq<|ws.getD i noB).2) ([],A0,()) ((ws.take ws.length).map λw=>(Aq w).1,()) (λi hi _=> ?_) (λ_=>by simp[db]);have hx:=Av hi;have hs:=hw _<|Ci hi;unfold db;simp only[AY hi,BK hi,Oi,Oe hx,gL (J:ws[i].size<=9223372036854775807),A6,De,DW,Bm,CL,DM,
   BD (J:min i ws.length+1<=4294967296),BA hi (by omega:ws.length<=9223372036854775807)]
  rw[← YF hx,Eg];obtain h|h:=tf (Aq ws[i]).2<;>simp[h]
 unfold S8;simp only[h];cases B5 ws.length (λi=>(Aq<|ws.getD i noB).2)<;>rfl
def Lp{w r:List UInt8}{k:Nat}(h:Cn w):GN [32] 0 (k+1) (w++32::r)=w::GN [32] 0 k r:=by
 conv=>lhs;unfold GN
 rw[nM h,A9 aG9];show(w++32::r).take (w.length+0)::GN [32] 0 k ((w++32::r).drop<|w.length+1)=_;rw[Ho,P4 rfl,show w++32::r=(w++[32])++r by simp,Qm aG9]
def YE{l:List UInt8}{k:Nat}(h:Cn l):GN [32] 0 k l=[l]:=by
 cases k with
 | zero=>rfl
 | succ k=>
  unfold GN;rw[nL h];rfl
def join:List (List UInt8)->List UInt8
 | []=>[]
 | [x]=>x
 | x::y::l=>x++32::join (y::l)
def atI(k:Nat)(l:List UInt8):∃x m,GN [32] 0 k l=x::m:=by
 cases k with
 | zero=>exact⟨l,[],rfl⟩
 | succ k=>
  obtain h|⟨w,r,h,rfl⟩:=Lw l
  .exact⟨l,[],YE h⟩
  .exact⟨w,_,Lp h⟩
def k9:∀(k:Nat) (l:List UInt8),join (GN [32] 0 k l)=l
 | 0,_=>rfl
 | k+1,l=>by
  obtain h|⟨w,r,h,rfl⟩:=Lw l
  .rw[YE h];rfl
  .rw[Lp h];have ih:=k9 k r;obtain⟨x,m,e⟩:=atI k r;rw[e]at ih ⊢;show w++32::join (x::m)=_;rw[ih]
def ayt{ps:List A1}{ls:List (List UInt8)}(h:ps.map (·.data.toList)=ls):ps=ls.map B:=by
 subst h;rw[IF]
 conv=>lhs;rw[← Zy ps]
 exact Gi λs _=>(B_L s).symm
def aFc(k:Nat)(s:A1):J6 (B [32]) 0 k s=(GN [32] 0 k<|L s).map B:=ayt<|Lib.splitB_data (B [32]) 0 k s
def ax4{s:A1}(hs:s.size<=1048576):eS (s,B [32],())=I (((GN [32] 0 ((L s).count 32)<|L s).map B,()),()):=by
 show Th _=_;unfold Th;rw[A5 ⟨by show s.size<_;omega,by show 1<=1;omega⟩];show I ((J6 (B [32]) 0 (Lib.count (L s) [32]) s,()),())=_;rw[aFc,Lib.count_one]
def av2{s:A1}(hs:s.size<=1048576):tA (s,B [32],5,())=I (((GN [32] 0 (min 5 (s.size+1) - 1)<|L s).map B,()),()):=by
 show TQ _=_;unfold TQ;rw[A5 ⟨by show s.size<_;omega,by show 1<=1;omega,by show(1:Int)<=5;omega,by show(5:Int)<=_;omega⟩];show I ((J6 (B [32]) 0 (min 5 (s.size+1) - 1) s,()),())=_;rw[aFc]
def auU(u:Nat):Cn (dcm u):=λb hb h=>by
 have:=Aa.1<|Zd (u+1) u J b hb;subst h;simp at this
def HT{n:Int}(h0:0<=n):Cn (B6 n):=by
 obtain⟨u,rfl⟩:=HG h0;rw[JI];exact auU u
def N0{n:Int}(h0:0<=n)(h1:n<10000):Ac (B<|B6 n)=n:=by
 obtain⟨u,rfl⟩:=HG h0;rw[JI];exact nK (by rw[BP];exact Ly 4 u J J)<|L_B _
def JE{n:Int}(h0:0<=n)(h1:n<100000):Aq (B<|B6 n)=(n,Y):=by
 obtain⟨u,rfl⟩:=HG h0;rw[JI];exact kq (by rw[BP];exact Ly 5 u J J)<|L_B _
open Classical in
def DG (s:A1):Option A3:=if h:∃n,Aw n=Y/\wr n=s then I (NK h) else G
def Ju{s t:A1}{x:Int}{r:List UInt8}(h:wd s=(B<|B6 x,B r)):(wd s).1=B (B6 x)/\L (wd s).2=r:=by rw[h];exact⟨rfl,rfl⟩
def ln{n:A3}(hf:Ud n){s:A1}(e:L s=wrL n):Al s 0=B (B6 n.fr)/\Al s 1=B (B6 n.nu)/\Al s 2=B (B6 n.to)/\Al s 3=B (B6 n.un)/\E8 s 4=n.tx:=by
 obtain⟨f0,f1,t0,t1,n0,n1,u0,u1,s0,s1⟩:=hf;unfold wrL at e;have e0:=LB (HT f0) e;have c1:L (E8 s 1)=_:=(Ju (t:=s) e0).2;have e1:=LB (HT (J:0<=n.nu)) c1;have c2:L (E8 s 2)=_:=(Ju (t:=s) e1).2;have e2:=LB (HT t0) c2;have c3:L (E8 s 3)=_:=(Ju (t:=s) e2).2;have e3:=LB (HT (J:0<=n.un)) c3;have c4:L (E8 s 4)=_:=(Ju (t:=s) e3).2;exact⟨(Ju (t:=s) e0).1,(Ju (t:=s) e1).1,(Ju (t:=s) e2).1,(Ju (t:=s) e3).1,Fu c4⟩
def atd{n:A3}(hf:Ud n):Al (wr n) 0=B (B6 n.fr)/\Al (wr n) 1=B (B6 n.nu)/\Al (wr n) 2=B (B6 n.to)/\Al (wr n) 3=B (B6 n.un)/\E8 (wr n) 4=n.tx:=ln hf<|RS n
def auS{n m:A3}(h1:n.fr=m.fr)(h2:n.nu=m.nu)(h3:n.to=m.to)(h4:n.un=m.un)(h5:n.tx=m.tx):n=m:=by
 cases n;cases m;simp only at h1 h2 h3 h4 h5;subst h1 h2 h3 h4 h5;rfl
def Yi{x y:Int}(h0:0<=x)(h1:x<10000)(h2:0<=y)(h3:y<10000)(h:B (B6 x)=B (B6 y)):x=y:=by
 rw[← N0 h0 h1,← N0 h2 h3,h]
def axJ{n m:A3}(hn:Aw n=Y)(hm:Aw m=Y)(h:wr n=wr m):n=m:=by
 have fn:=Ie hn;have fm:=Ie hm;have a:=ln fn (s:=wr n)<|RS n;have b:=ln fm (s:=wr n) (by rw[h];exact RS m);clear h hn hm;generalize wr n=s at a b;obtain⟨a0,a1,a2,a3,a4⟩:=a;obtain⟨b0,b1,b2,b3,b4⟩:=b;obtain⟨f0,f1,t0,t1,n0,n1,u0,u1,s0,s1⟩:=fn;obtain⟨g0,g1,v0,v1,m0,m1,w0,w1,z0,z1⟩:=fm;exact auS (Yi J J J J<|a0.symm.trans b0) (Yi J J J J<|a1.symm.trans b1) (Yi J J J J<|a2.symm.trans b2)
  (Yi J J J J<|a3.symm.trans b3) (a4.symm.trans b4)
def Q6{n:A3}(h:Aw n=Y):DG (wr n)=I n:=by
 unfold DG;have hex:∃m,Aw m=Y/\wr m=wr n:=⟨n,h,rfl⟩;rw[dif_pos hex];have:=J3 hex;rw[axJ this.1 h this.2]
def Js{s:A1}{n:A3}(h:DG s=I n):Aw n=Y/\wr n=s:=by
 unfold DG at h;split at h
 .rename_i hex;cases h;exact J3 hex
 .cases h
def nj{n:A3}(hf:Ud n):9<=(wr n).size:=by
 obtain⟨f0,f1,t0,t1,n0,n1,u0,u1,s0,s1⟩:=hf;have h:∀ {x:Int},0<=x->1<=(B6 x).length:=fun {x} h0=>by
  obtain⟨u,rfl⟩:=HG h0;rw[JI];exact List.length_pos_iff.2<|oR u
 rw[← Ax,RS];unfold wrL;have a:=h f0;have b:=h (J:0<=n.nu);have c:=h t0;have d:=h (J:0<=n.un);have e:(L n.tx).length=n.tx.size:=rfl;simp only[Am,Bm];omega
def UM(o:Option A3):(Int×Int×Int×Int×A1×D)×Bool×D:=match o with
 | some n=>((n.fr,n.nu,n.to,n.un,n.tx,()),Y,())
 | none=>((0,0,0,0,noB,()),A0,())
def z6{s:A1}(hs:s.size<=1048576):S6 (s,())=I (UM<|DG s,()):=by
 unfold S6;have e4:Pw (s,4,())=I (([Ac<|Al s 0,Ac<|Al s 1,Ac<|Al s 2,Ac<|Al s 3],E8 s 4,()),()):=aag (n:=4) hs J;have hr:=Xu s 4;have i0:inb 0 [Ac<|Al s 0,Ac<|Al s 1,Ac<|Al s 2,Ac<|Al s 3].length=Y:=rfl;have i1:inb 1 [Ac<|Al s 0,Ac<|Al s 1,Ac<|Al s 2,Ac<|Al s 3].length=Y:=rfl;have i2:inb 2 [Ac<|Al s 0,Ac<|Al s 1,Ac<|Al s 2,Ac<|Al s 3].length=Y:=rfl;have i3:inb 3 [Ac<|Al s 0,Ac<|Al s 1,Ac<|Al s 2,Ac<|Al s 3].length=Y:=rfl;have r0: @rd Int aHb [Ac<|Al s 0,Ac<|Al s 1,Ac<|Al s 2,Ac<|Al s 3] 0=Ac (Al s 0):=rfl;have r1: @rd Int aHb [Ac<|Al s 0,Ac<|Al s 1,Ac<|Al s 2,Ac<|Al s 3] 1=Ac (Al s 1):=rfl;have r2: @rd Int aHb [Ac<|Al s 0,Ac<|Al s 1,Ac<|Al s 2,Ac<|Al s 3] 2=Ac (Al s 2):=rfl;have r3: @rd Int aHb [Ac<|Al s 0,Ac<|Al s 1,Ac<|Al s 2,Ac<|Al s 3] 3=Ac (Al s 3):=rfl;simp only[e4,A6,i0,i1,i2,i3,r0,r1,r2,r3,Rx<|show(E8 s 4).size<=1048576 by omega,Dk,Dd,A2,show ∀c,Ak c Y=Y from λc=>rfl];generalize hx:(⟨Ac<|Al s 0,Ac<|Al s 1,Ac<|Al s 2,Ac<|Al s 3,E8 s 4⟩:A3)=x at *;by_cases hc:s≠noB/\(if Aw x then wr x else noB)=s
 .obtain⟨h1,h2⟩:=hc;have hok:Aw x=Y:=by
   obtain h|h:=tf (Aw x)
   .exact h
   .rw[h]at h2;exact absurd h2.symm h1
  rw[hok]at h2;simp only[A2]at h2;rw[A9<|by simp[h1,hok,h2],← h2,Q6 hok];subst hx;simp only[h2];rfl
 .rw[A5 (by
   by_cases h1:s=noB
   .simp[h1]
   .have h2:¬(if Aw x then wr x else noB)=s:=λh=>hc ⟨h1,h⟩;simp[h1,h2])]
  cases h:DG s with
  | none=>rfl
  | some n=>
   exfalso;obtain⟨h1,h2⟩:=Js h;have hf:=Ie h1;obtain⟨a0,a1,a2,a3,a4⟩:=atd hf;have hsz:=nj hf;obtain⟨f0,f1,t0,t1,n0,n1,u0,u1,s0,s1⟩:=hf;rw[h2]at a0 a1 a2 a3 a4;rw[a0,a1,a2,a3,a4,N0 J J,N0 J J,N0 J J,N0 J J]at hx;have hx:n=x:=hx;subst hx;refine hc ⟨λe=> ?_,by rw[h1];exact h2⟩;rw[h2,e]at hsz;exact absurd hsz<|by decide
def atH{n:A3}(hf:Ud n):GN [32] 0 4 (wrL n)=[B6 n.fr,B6 n.nu,B6 n.to,B6 n.un,L n.tx]:=by
 obtain⟨f0,f1,t0,t1,n0,n1,u0,u1,s0,s1⟩:=hf;unfold wrL;rw[Lp<|HT f0,Lp<|HT J,Lp<|HT t0,Lp<|HT J];rfl
def kD:∀(k:Nat) (l:List UInt8),∀p∈GN [32] 0 k l,p.length<=l.length
 | 0,l,p,hp=>by
  obtain rfl:=C1.1 hp;exact Ar _
 | k+1,l,p,hp=>by
  obtain h|⟨w,r,h,rfl⟩:=Lw l
  .rw[YE h]at hp;obtain rfl:=C1.1 hp;exact Ar _
  .rw[Lp h]at hp;obtain rfl|hp:=Bj.1 hp
   .simp
   .have:=kD k r p hp;simp;omega
def kY:∀(k:Nat) (l:List UInt8),(GN [32] 0 k l).length<=k+1
 | 0,l=>Ar _
 | k+1,l=>by
  obtain h|⟨w,r,h,rfl⟩:=Lw l
  .rw[YE h];simp
  .rw[Lp h];have:=kY k r;simp;omega
def akA{s:A1}(hs:s.size<=1048576):Vv (s,())=I (UM<|DG s,()):=by
 unfold Vv;simp only[av2 hs,A6];generalize hk:min 5 (s.size+1) - 1=k;have hsz:=kD k<|L s;have hln:=kY k<|L s;have hwr:∀n,DG s=I n->GN [32] 0 k (L s)=[B6 n.fr,B6 n.nu,B6 n.to,B6 n.un,L n.tx]:=λn hn=>by
  obtain⟨h1,h2⟩:=Js hn;have:=nj<|Ie h1;rw[h2]at this;obtain rfl:k=4:=J
  rw[← h2,RS];exact atH<|Ie h1
 generalize GN [32] 0 k (L s)=ps at *;by_cases h5:ps.length=5
 .match ps,h5 with
  | [p0,p1,p2,p3,p4],_=>
   have hb:∀p∈[p0,p1,p2,p3,p4],(B p).size<=1048576:=λp hp=>by
    have:=hsz p hp;rw[Ax]at this;rw[BP];omega
   have e5:(!decide (((([p0,p1,p2,p3,p4]:List (List UInt8)).map B).length:Int)=5))=A0:=rfl;have e6:(U (0<=4)&&U ((4:Int)<=((([p0,p1,p2,p3,p4]:List (List UInt8)).map B).length:Int)))=Y:=rfl;have e7:BV (AJ 4) (([p0,p1,p2,p3,p4]:List (List UInt8)).map B)=[B p0,B p1,B p2,B p3]:=rfl;simp only[e5,e6,e7,A2,A4];rw[aCu aG9 (λw hw=>by
    simp only[Bj,Zn,or_false]at hw;obtain rfl|rfl|rfl|rfl:=hw
    .exact hb p0 aG9
    .exact hb p1 aG9
    .exact hb p2 aG9
    .exact hb p3 aG9)]
   have qA:B5 [B p0,B p1,B p2,B p3].length (λi=>(Aq<|[B p0,B p1,B p2,B p3].getD i noB).2)=((Aq<|B p0).2&&((Aq<|B p1).2&&((Aq<|B p2).2&&((Aq<|B p3).2&&Y)))):=rfl;rw[qA];obtain ha|ha:=tf ((Aq<|B p0).2&&((Aq<|B p1).2&&((Aq<|B p2).2&&((Aq<|B p3).2&&Y))))
   .rw[ha];simp only[A2,A6,AB,A4,DV,IK];have i0:inb 0 [(Aq<|B p0).1,(Aq<|B p1).1,(Aq<|B p2).1,(Aq<|B p3).1].length=Y:=rfl;have i1:inb 1 [(Aq<|B p0).1,(Aq<|B p1).1,(Aq<|B p2).1,(Aq<|B p3).1].length=Y:=rfl;have i2:inb 2 [(Aq<|B p0).1,(Aq<|B p1).1,(Aq<|B p2).1,(Aq<|B p3).1].length=Y:=rfl;have i3:inb 3 [(Aq<|B p0).1,(Aq<|B p1).1,(Aq<|B p2).1,(Aq<|B p3).1].length=Y:=rfl;have i4:inb 4 [B p0,B p1,B p2,B p3,B p4].length=Y:=rfl;have r0: @rd Int aHb [(Aq<|B p0).1,(Aq<|B p1).1,(Aq<|B p2).1,(Aq<|B p3).1] 0=(Aq<|B p0).1:=rfl;have r1: @rd Int aHb [(Aq<|B p0).1,(Aq<|B p1).1,(Aq<|B p2).1,(Aq<|B p3).1] 1=(Aq<|B p1).1:=rfl;have r2: @rd Int aHb [(Aq<|B p0).1,(Aq<|B p1).1,(Aq<|B p2).1,(Aq<|B p3).1] 2=(Aq<|B p2).1:=rfl;have r3: @rd Int aHb [(Aq<|B p0).1,(Aq<|B p1).1,(Aq<|B p2).1,(Aq<|B p3).1] 3=(Aq<|B p3).1:=rfl;have r4: @rd A1 aHj [B p0,B p1,B p2,B p3,B p4] 4=B p4:=rfl;have hp4:=hb p4 aG9;simp only[i0,i1,i2,i3,i4,r0,r1,r2,r3,r4,A2,Wh hp4,Vj hp4,A6,Dk,Dd,show ∀c,Ak c Y=Y from λc=>rfl];generalize hx:(⟨(Aq<|B p0).1,(Aq<|B p1).1,(Aq<|B p2).1,(Aq<|B p3).1,B p4⟩:A3)=x at *;by_cases hc:Aw x=Y/\wr x=s
    .obtain⟨h1,h2⟩:=hc;rw[A9<|by simp[h1,h2],← h2,Q6 h1];subst hx;rfl
    .rw[A5 (by
      obtain h1|h1:=tf (Aw x)
      .have h2:¬wr x=s:=λh=>hc ⟨h1,h⟩;simp[h1,h2]
      .simp[h1])]
     cases h:DG s with
     | none=>rfl
     | some n=>
      exfalso;obtain⟨h1,h2⟩:=Js h;have hf:=Ie h1;have hp:=hwr n h;simp only[MR,and_true]at hp;obtain⟨rfl,rfl,rfl,rfl,rfl⟩:=hp;obtain⟨f0,f1,t0,t1,n0,n1,u0,u1,s0,s1⟩:=hf;rw[JE J J,JE J J,JE J J,JE J J,B_L]at hx;have hx:n=x:=hx;subst hx;exact hc ⟨h1,h2⟩
   .rw[ha];simp only[A6,AH,A2,A4];cases h:DG s with
    | none=>rfl
    | some n=>
     exfalso;obtain⟨h1,h2⟩:=Js h;have hf:=Ie h1;have hp:=hwr n h;simp only[MR,and_true]at hp;obtain⟨rfl,rfl,rfl,rfl,rfl⟩:=hp;obtain⟨f0,f1,t0,t1,n0,n1,u0,u1,s0,s1⟩:=hf;rw[JE J J,JE J J,JE J J,JE J J]at ha;cases ha
 .have e5:(!decide (((ps.map B).length:Int)=5))=Y:=by simp;omega
  simp only[e5,A2];cases h:DG s with
  | none=>rfl
  | some n=>
   have:=congrArg Jd<|hwr n h;simp at this;exact absurd this h5
abbrev KL:=Int×Int×Int×List A3×List Mark×List A3×D
abbrev tK(k:AL):KL:=(k.id,k.ti,k.nx,k.held,k.marks,k.inbox,())
def B3(r:Option ((KL×Bool×D)×D))(o:Option AL):Prop:=match o with
 | some k=>r=I ((tK k,Y,()),())
 | none=>∃t,r=I ((t,A0,()),())
def B3.no{t:KL}:B3 (I ((t,A0,()),())) G:=⟨t,rfl⟩
def B3.eta{r:Option ((KL×Bool×D)×D)}{o:Option AL}(h:B3 r o):
  B3 (r.bind λr=>I (((r.1.1.1,r.1.1.2.1,r.1.1.2.2.1,r.1.1.2.2.2.1,r.1.1.2.2.2.2.1,r.1.1.2.2.2.2.2.1,()),r.1.2.1,()),())) o:=by
 cases o with
 | some k=>
  have:r=_:=h;subst this;rfl
 | none=>
  obtain⟨t,rfl⟩:=h;exact⟨t,rfl⟩
def B3.ite{c:Bool}{a b:Option ((KL×Bool×D)×D)}{x y:Option AL}(h1:c=Y->B3 a x)(h2:c=A0->B3 b y):B3 (if c then a else b) (if c then x else y):=by
 cases c
 .exact h2 rfl
 .exact h1 rfl
def B3.neg{c:Bool}{t:KL}{b:Option ((KL×Bool×D)×D)}{y:Option AL}(h2:c=A0->B3 b y):B3 (if c then I ((t,A0,()),()) else b) (if c then G else y):=B3.ite (λ_=>B3.no) h2
def Ex(k:AL)(n:A3):Option AL:=
 if !Aw n then G else if U (n.un<=k.ti) then G else if U (0<=AZ k.held n.fr n.nu) then G else if U (0<=AZ k.inbox n.fr n.nu) then G else if U (0<=Bt k.marks n.fr n.nu) then G else
 if U (12<(j8 k.held:Int)+k.marks.length+1) then G else
 if U (n.to=k.id) then I ⟨k.id,k.ti,k.nx,k.held,ED k.marks ⟨n.fr,n.nu,n.un⟩,Dt k.inbox n⟩ else I ⟨k.id,k.ti,k.nx,Dt k.held n,k.marks,k.inbox⟩
def aB7{id ti nx fr nu tt un:Int}{tx:A1}{held:List A3}{marks:List Mark}{inbox:List A3}(sm:DX held marks inbox)(hs:tx.size<=1048576):
  B3 (Wg ((id,ti,nx,held,marks,inbox,()),(fr,nu,tt,un,tx,()),())) (Ex ⟨id,ti,nx,held,marks,inbox⟩ ⟨fr,nu,tt,un,tx⟩):=by
 have hl:=sm.hl;have ml:=sm.ml;unfold Wg Ex;simp only[Wh hs,Ln sm.hl,Ln sm.il,SS sm.ml,gv sm.hl,gv sm.il,iw sm.ml,A6,
  AU (n:=(held.length:Int)+marks.length) J J,AU (n:=(held.length:Int)+marks.length+1) J J]
 exact B3.neg λ_=>B3.neg λ_=>B3.neg λ_=>B3.neg λ_=>B3.neg λ_=>B3.neg λ_=>B3.ite (λ_=>rfl) λ_=>rfl
def ZN{l:List A3}{n:A3}(h:AZ l n.fr n.nu<0):PH l n=Dt l n:=by
 refine aEA λx hx=> ?_;have hne:¬(x.fr=n.fr/\x.nu=n.nu):=λhc=>by
  obtain⟨_,h2⟩|⟨i,h1,_⟩:=G6 l.length (λi=>U ((nA l i).fr=n.fr)&&U ((nA l i).nu=n.nu))
  .obtain⟨j,hj,rfl⟩:=Cz hx;have:=h2 j hj;rw[DT<|Av hj]at this;simp[hc.1,hc.2]at this
  .unfold AZ at h;omega
 unfold bef;rw[NL];simp;omega
def mD{l:List Mark}{n:Mark}(h:Bt l n.mf n.mn<0):PI l n=ED l n:=by
 refine aEA λx hx=> ?_;have hne:¬(x.mf=n.mf/\x.mn=n.mn):=λhc=>by
  obtain⟨_,h2⟩|⟨i,h1,_⟩:=G6 l.length (λi=>U ((mA l i).mf=n.mf)&&U ((mA l i).mn=n.mn))
  .obtain⟨j,hj,rfl⟩:=Cz hx;have:=h2 j hj;rw[Fa<|Av hj]at this;simp[hc.1,hc.2]at this
  .unfold Bt at h;omega
 unfold bef;rw[NL];simp;omega
def aCE{id ti nx fr nu tt un:Int}{tx:A1}{held:List A3}{marks:List Mark}{inbox:List A3}(sm:DX held marks inbox)(hs:tx.size<=1048576):
  B3 (WX ((id,ti,nx,held,marks,inbox,()),(fr,nu,tt,un,tx,()),())) (Ex ⟨id,ti,nx,held,marks,inbox⟩ ⟨fr,nu,tt,un,tx⟩):=by
 have hl:=sm.hl;have ml:=sm.ml;have azL:fM ((id,ti,nx,held,marks,inbox,()),(fr,nu,tt,un,tx,()),())=
   I ((Aw ⟨fr,nu,tt,un,tx⟩&&(U (ti<un)&&(U (AZ held fr nu<0)&&(U (Bt marks fr nu<0)&&U (AZ inbox fr nu<0)))),()),()):=by
  unfold fM;simp only[Wv hs,Jl sm.hl,Jl sm.il,SF sm.ml,A6,Dk,Dd,show ∀c,Ak c Y=Y from λc=>rfl,A2];obtain h1|h1:=tf (Aw ⟨fr,nu,tt,un,tx⟩)<;>obtain h2|h2:=tf (U<|ti<un)<;>obtain h3|h3:=tf (U<|AZ held fr nu<0)<;>simp only[h1,h2,h3,A2,A4,AS,AO]
 unfold WX Ex;have Ej:=dG (l:=held) (fr:=fr) (nu:=nu) (tt:=tt) (un:=un) (tx:=tx) sm.hl;have bH:=dG (l:=inbox) (fr:=fr) (nu:=nu) (tt:=tt) (un:=un) (tx:=tx) sm.il;have azf:=sO (l:=marks) (mf:=fr) (mn:=nu) (mu:=un) sm.ml;simp only[azL,Ej,bH,azf,A6];obtain h1|h1:=tf (Aw ⟨fr,nu,tt,un,tx⟩)
 .rcases EQ un ti with h2|h2
  .simp only[h1,h2,AW,Ad,AS,AO,AH,AB,A2,A4];exact B3.no
  .rcases sgn (AZ held fr nu) with h3|h3
   .rcases sgn (Bt marks fr nu) with h4|h4
    .rcases sgn (AZ inbox fr nu) with h5|h5
     .have q1:AZ held fr nu<0:=of_eq_true h3.1;have q2:Bt marks fr nu<0:=of_eq_true h4.1;have q3:AZ inbox fr nu<0:=of_eq_true h5.1;have lN:=OI (λx:A3=>bef x.fr x.nu fr nu) held ⟨fr,nu,tt,un,tx⟩;have lM:=OI (λx:Mark=>bef x.mf x.mn fr nu) marks ⟨fr,nu,un⟩;have eN:PH held ⟨fr,nu,tt,un,tx⟩=Dt held ⟨fr,nu,tt,un,tx⟩:=ZN q1;have eI:PH inbox ⟨fr,nu,tt,un,tx⟩=Dt inbox ⟨fr,nu,tt,un,tx⟩:=ZN q3;have eM:PI marks ⟨fr,nu,un⟩=ED marks ⟨fr,nu,un⟩:=mD q2;have l1:((Dt held ⟨fr,nu,tt,un,tx⟩).length:Int)=held.length+1:=by unfold Dt;rw[lN];omega
      have l2:((ED marks ⟨fr,nu,un⟩).length:Int)=marks.length+1:=by unfold ED;rw[lM];omega
      simp only[h1,h2,h3,h4,h5,eN,eI,eM,l1,l2,AW,Ad,AS,AB,A4,
       AU (n:=(held.length:Int)+1+marks.length) J J,AU (n:=(held.length:Int)+(marks.length+1)) J J]
      obtain h6|h6:=EQ ((held.length:Int)+marks.length+1) 12
      .have a1:U ((held.length:Int)+1+marks.length<=12)=Y:=by have:=of_eq_true h6.1;simp;omega
       have a2:U ((held.length:Int)+(marks.length+1)<=12)=Y:=by have:=of_eq_true h6.1;simp;omega
       simp only[a1,a2,h6,Ad,A4];by_cases h7:tt=id
       .simp only[h7,AW,AB,A4,A2];rfl
       .simp only[h7,Ad,AH,A4,A2];rfl
      .have a1:U ((held.length:Int)+1+marks.length<=12)=A0:=by have:=of_eq_true h6.2;simp;omega
       have a2:U ((held.length:Int)+(marks.length+1)<=12)=A0:=by have:=of_eq_true h6.2;simp;omega
       simp only[a1,a2,h6,AW,A2];by_cases h7:tt=id
       .simp only[h7,AW,AB,A4];exact B3.no
       .simp only[h7,Ad,AH,A2];exact B3.no
     .simp only[h1,h2,h3,h4,h5,AW,Ad,AS,AO,AH,AB,A2,A4];exact B3.no
    .simp only[h1,h2,h3,h4,AW,Ad,AS,AO,AH,AB,A2,A4,ite_self];exact B3.no
   .simp only[h1,h2,h3,AW,Ad,AS,AO,AH,AB,A2,A4];exact B3.no
 .simp only[h1,AO,AH,A2];exact B3.no
abbrev Ec:A1:=B [116,105,109,101]
abbrev Er:A1:=B [110,101,120,116]
abbrev Dh:A1:=B [111,119,110]
abbrev EN:A1:=B [116,97,107,101]
abbrev EO:A1:=B [104,101,108,100]
abbrev Ea:A1:=B [105,110,98,111,120]
abbrev C3:A1:=B [108,101,116]
abbrev CO:A1:=B [101,97,116]
abbrev D5:A1:=B [109,97,114,107]
def IC(k:AL)(w:A1)(n:Int):Option AL:=
 if U (w=Ec)&&U (k.ti<n) then I ⟨k.id,n,k.nx,H8 n k.held,K7 n k.marks,k.inbox⟩ else if U (w=Er)&&U (k.nx<n) then I ⟨k.id,k.ti,n,k.held,k.marks,k.inbox⟩ else G
def aqk{id ti nx n:Int}{w:A1}{held:List A3}{marks:List Mark}{inbox:List A3}(sm:DX held marks inbox):
  B3 (X8 ((id,ti,nx,held,marks,inbox,()),w,n,())) (IC ⟨id,ti,nx,held,marks,inbox⟩ w n):=by
 unfold X8 IC;simp only[anK sm,A6];exact B3.ite (λ_=>rfl) λ_=>B3.ite (λ_=>rfl) λ_=>B3.no
def GZ(k:AL)(w:A1)(n:A3):Option AL:=
 if U (w=Dh)&&(U (n.fr=k.id)&&U (n.nu=k.nx)) then Ex ⟨k.id,k.ti,k.nx+1,k.held,k.marks,k.inbox⟩ n else if U (w=EN)&& !decide (n.fr=k.id) then Ex k n else
 if U (0<=AZ k.held n.fr n.nu)||decide (0<=AZ k.inbox n.fr n.nu) then G else if U (w=EO) then I ⟨k.id,k.ti,k.nx,Dt k.held n,k.marks,k.inbox⟩ else if U (w=Ea) then I ⟨k.id,k.ti,k.nx,k.held,k.marks,Dt k.inbox n⟩ else G
def apy{id ti nx fr nu tt un:Int}{w tx:A1}{held:List A3}{marks:List Mark}{inbox:List A3}(sm:DX held marks inbox)(hs:tx.size<=1048576)(h0:0<=nx)(h1:nx<=1000):
  B3 (We ((id,ti,nx,held,marks,inbox,()),w,(fr,nu,tt,un,tx,()),())) (GZ ⟨id,ti,nx,held,marks,inbox⟩ w ⟨fr,nu,tt,un,tx⟩):=by
 have hj:(if U (w=Dh) then(I (.inr (w,(id,ti,nx,held,marks,inbox,()),(fr,nu,tt,un,tx,()),(0,0,0,([]:List A3),([]:List Mark),([]:List A3),()),U (fr=id)&&U (nu=nx),())):Option (((KL×Bool×D)×D) ⊕ (A1×KL×(Int×Int×Int×Int×A1×D)×KL×Bool×D))) else
   I (.inr (w,(id,ti,nx,held,marks,inbox,()),(fr,nu,tt,un,tx,()),(0,0,0,([]:List A3),([]:List Mark),([]:List A3),()),A0,())))=
   I (.inr (w,(id,ti,nx,held,marks,inbox,()),(fr,nu,tt,un,tx,()),(0,0,0,([]:List A3),([]:List Mark),([]:List A3),()),U (w=Dh)&&(U (fr=id)&&U (nu=nx)),())):=by
  cases U (w=Dh)<;>rfl
 unfold We GZ;simp only[hj,Bk];refine B3.ite (λ_=> ?_) λ_=> ?_
 .rw[AU J J];exact(aB7 sm hs).eta
 refine B3.ite (λ_=>(aB7 sm hs).eta) λ_=> ?_;simp only[Ln sm.hl,Ln sm.il,A6,Dk,Dd,show ∀c,Ak c Y=Y from λc=>rfl,A2];refine B3.neg λ_=> ?_;simp only[gv sm.hl,gv sm.il,A6];exact B3.ite (λ_=>rfl) λ_=>B3.ite (λ_=>rfl) λ_=>B3.no
def FE{l:List A3}{f n:Int}(h:0<=AZ l f n):(AZ l f n).toNat<l.length/\((AZ l f n).toNat:Int)=AZ l f n/\(nA l (AZ l f n).toNat).fr=f/\(nA l (AZ l f n).toNat).nu=n:=by
 obtain⟨h1,_⟩|⟨i,h1,h2,h3,_⟩:=G6 l.length (λi=>U ((nA l i).fr=f)&&U ((nA l i).nu=n))
 .unfold AZ at h;omega
 .have e:AZ l f n=(i:Int):=h1;rw[e];simp at h3;exact⟨h2,rfl,h3.1,h3.2⟩
def ZY{l:List Mark}{f n:Int}(h:0<=Bt l f n):(Bt l f n).toNat<l.length/\((Bt l f n).toNat:Int)=Bt l f n/\(mA l (Bt l f n).toNat).mf=f/\(mA l (Bt l f n).toNat).mn=n:=by
 obtain⟨h1,_⟩|⟨i,h1,h2,h3,_⟩:=G6 l.length (λi=>U ((mA l i).mf=f)&&U ((mA l i).mn=n))
 .unfold Bt at h;omega
 .have e:Bt l f n=(i:Int):=h1;rw[e];simp at h3;exact⟨h2,rfl,h3.1,h3.2⟩
def N5{l:List A3}{f n:Int}(h:0<=AZ l f n):inb (AZ l f n) l.length=Y:=by
 obtain⟨h1,h2,_⟩:=FE h;rw[← h2];exact AY h1
def aDf{l:List A3}{f n:Int}:Ak (U<|0<=AZ l f n) (inb (AZ l f n) l.length)=Y:=by
 obtain h|h:=tf (U<|0<=AZ l f n)
 .rw[h,Ia,N5<|BW h]
 .rw[h,HR]
def EE(l:List A3)(m:Mark):Bool:=U (0<=AZ l m.mf m.mn)&&U ((nA l (AZ l m.mf m.mn).toNat).un=m.mu)
def F6(k:AL)(w:A1)(m:Mark):Option AL:=
 if U (w=C3)&&EE k.held m then I ⟨k.id,k.ti,k.nx,ER k.held (AZ k.held m.mf m.mn).toNat,ED k.marks m,k.inbox⟩ else
 if U (w=CO)&&EE k.inbox m then I ⟨k.id,k.ti,k.nx,k.held,k.marks,ER k.inbox (AZ k.inbox m.mf m.mn).toNat⟩ else
 if U (w=D5)&& !decide (0<=Bt k.marks m.mf m.mn) then I ⟨k.id,k.ti,k.nx,k.held,ED k.marks m,k.inbox⟩ else G
def abU{l:List A3}{f n:Int}(hl:l.length<=1048576)(h:0<=AZ l f n):SH (l,AZ l f n,())=I ((ER l (AZ l f n).toNat,()),()):=by
 obtain⟨h1,h2,_⟩:=FE h
 conv=>lhs;rw[← h2]
 exact ann hl h1
def apz{id ti nx a b c:Int}{w:A1}{held:List A3}{marks:List Mark}{inbox:List A3}(sm:DX held marks inbox):
  B3 (Wf ((id,ti,nx,held,marks,inbox,()),w,(a,b,c,()),())) (F6 ⟨id,ti,nx,held,marks,inbox⟩ w ⟨a,b,c⟩):=by
 unfold Wf F6;simp only[Ln sm.hl,Ln sm.il,SS sm.ml,A6,aDf,HR,A2];have hj:(if U (w=C3) then(I (.inr (w,(id,ti,nx,held,marks,inbox,()),(a,b,c,()),(0,0,0,([]:List A3),([]:List Mark),([]:List A3),()),AZ held a b,AZ inbox a b,U<|0<=Bt marks a b,U (0<=AZ held a b)&&U ((@rd A3 aG6 held<|AZ held a b).un=c),())):Option (((KL×Bool×D)×D) ⊕ (A1×KL×(Int×Int×Int×D)×KL×Int×Int×Bool×Bool×D))) else
   I (.inr (w,(id,ti,nx,held,marks,inbox,()),(a,b,c,()),(0,0,0,([]:List A3),([]:List Mark),([]:List A3),()),AZ held a b,AZ inbox a b,U<|0<=Bt marks a b,A0,())))=
   I (.inr (w,(id,ti,nx,held,marks,inbox,()),(a,b,c,()),(0,0,0,([]:List A3),([]:List Mark),([]:List A3),()),AZ held a b,AZ inbox a b,U<|0<=Bt marks a b,U (w=C3)&&EE held ⟨a,b,c⟩,())):=by
  cases U (w=C3)<;>rfl
 simp only[hj,Bk];refine B3.ite (λh=> ?_) λ_=> ?_
 .simp only[EE,AE,decide_eq_true_eq]at h;simp only[abU sm.hl h.2.1,iw sm.ml,A6];rfl
 simp only[aDf,HR,A2];have hj2:(if U (w=CO) then(I (.inr (w,(id,ti,nx,held,marks,inbox,()),(a,b,c,()),(0,0,0,([]:List A3),([]:List Mark),([]:List A3),()),AZ inbox a b,U<|0<=Bt marks a b,U (0<=AZ inbox a b)&&U ((@rd A3 aG6 inbox<|AZ inbox a b).un=c),())):Option (((KL×Bool×D)×D) ⊕ (A1×KL×(Int×Int×Int×D)×KL×Int×Bool×Bool×D))) else
   I (.inr (w,(id,ti,nx,held,marks,inbox,()),(a,b,c,()),(0,0,0,([]:List A3),([]:List Mark),([]:List A3),()),AZ inbox a b,U<|0<=Bt marks a b,A0,())))=
   I (.inr (w,(id,ti,nx,held,marks,inbox,()),(a,b,c,()),(0,0,0,([]:List A3),([]:List Mark),([]:List A3),()),AZ inbox a b,U<|0<=Bt marks a b,U (w=CO)&&EE inbox ⟨a,b,c⟩,())):=by
  cases U (w=CO)<;>rfl
 simp only[hj2,Bk];refine B3.ite (λh=> ?_) λ_=> ?_
 .simp only[EE,AE,decide_eq_true_eq]at h;simp only[abU sm.il h.2.1,A6];rfl
 simp only[iw sm.ml,A6];exact B3.ite (λ_=>rfl) λ_=>B3.no
structure Ei (k:AL):Prop where
 id0:0<=k.id
 id1:k.id<=3
 t0:0<=k.ti
 t1:k.ti<=999
 n0:1<=k.nx
 n1:k.nx<=100
 hl:k.held.length<=6
 h:DR k.held=Y
 ml:k.marks.length<=12
 m:FF k.marks=Y
 il:k.inbox.length<=6
 i:DR k.inbox=Y
 ho:∀i,i<k.held.length->H4 k.id k.ti k.nx k.held k.marks i=Y
 mo:∀i,i<k.marks.length->JH k.id k.ti k.nx k.marks i=Y
 io:∀i,i<k.inbox.length->Ii k.id k.ti k.nx k.marks k.inbox i=Y
def C2{k:AL}(h:Au k=Y):Ei k:=by
 unfold Au at h;simp only[AE,Aa,decide_eq_true_eq,Cq]at h;obtain⟨⟨a,b⟩,⟨c,d⟩,⟨e,f⟩,⟨g,i⟩,⟨j,l⟩,⟨m,n⟩,o,p,q⟩:=h;exact⟨a,b,c,d,e,f,J,i,J,l,J,n,o,p,q⟩
def Gx{l:List A3}(h:DR l=Y){i:Nat}(hi:i<l.length):Aw (nA l i)=Y:=by
 have:=Cq.1 h i hi;simp only[AE]at this;exact this.1
def Su{l:List Mark}(h:FF l=Y){i:Nat}(hi:i<l.length):Ev (mA l i)=Y:=by
 have:=Cq.1 h i hi;simp only[AE]at this;exact this.1
def OD{l:List A3}(h:DR l=Y){x:A3}(hx:x∈l):Aw x=Y:=by
 obtain⟨i,hi,rfl⟩:=Cz hx;have:=Gx h hi;rwa[DT<|Av hi]at this
def aCL{l:List Mark}(h:FF l=Y){x:Mark}(hx:x∈l):Ev x=Y:=by
 obtain⟨i,hi,rfl⟩:=Cz hx;have:=Su h hi;rwa[Fa<|Av hi]at this
def Ku{n:A3}(h:Aw n=Y):G9 n:=by
 have:=(Ie h).s1;unfold G9;omega
def Ei.sm{k:AL}(h:Ei k):DX k.held k.marks k.inbox:=by
 obtain⟨id0,id1,t0,t1,n0,n1,hl,hh,ml,m,il,hi,ho,mo,io⟩:=h;exact⟨J,λx hx=>Ku<|OD hh hx,J,J,λx hx=>Ku<|OD hi hx⟩
def QU{l:List A3}{n:A3}(hl:l.length<=6)(h:∀x∈l,G9 x)(hn:G9 n):(Dt l n).length<=1048576/\ ∀x∈Dt l n,G9 x:=by
 refine⟨by unfold Dt;rw[OI];omega,λx hx=> ?_⟩;obtain rfl|hx:=GY _ hx
 .exact hn
 .exact h x hx
def TU{l:List Mark}{n:Mark}(hl:l.length<=12):(ED l n).length<=1048576:=by unfold ED;rw[OI];omega
def ZU{l:List A3}{i:Nat}(hl:l.length<=6)(h:∀x∈l,G9 x):(ER l i).length<=1048576/\ ∀x∈ER l i,G9 x:=by
 refine⟨by unfold ER;simp;omega,λx hx=> ?_⟩;unfold ER at hx;obtain hx|hx:=BN.1 hx
 .exact h x (HI hx)
 .exact h x<|Iz hx
abbrev SmK(k:AL):Prop:=DX k.held k.marks k.inbox
def Zg{k k':AL}{n:A3}(hf:Ei k)(hk:k'.held=k.held/\k'.marks=k.marks/\k'.inbox=k.inbox){o:AL}(h:Ex k' n=I o):SmK o:=by
 have sm:=hf.sm;have l1:=hf.hl;have l2:=hf.ml;have l3:=hf.il;unfold Ex at h;rw[hk.1,hk.2.1,hk.2.2]at h;split at h
 .cases h
 rename_i hn;have hn:G9 n:=Ku (by simpa using hn)
 iterate 5 (split at h;· cases h)
 split at h<;>cases h
 .have a:=QU l3 sm.i hn;exact⟨sm.hl,sm.h,TU l2,a.1,a.2⟩
 .have a:=QU l1 sm.h hn;exact⟨a.1,a.2,sm.ml,sm.il,sm.i⟩
def awd{k:AL}{w:A1}{n:Int}(hf:Ei k){o:AL}(h:IC k w n=I o):SmK o:=by
 have sm:=hf.sm;have l1:=hf.hl;have l2:=hf.ml;unfold IC at h;split at h
 .cases h;have a:=J1 (λx:A3=>U<|n<x.un) k.held;have b:=J1 (λx:Mark=>U<|n<x.mu) k.marks;exact⟨by unfold H8;simp only;omega,λx hx=>sm.h x (F8.1 hx).1,by unfold K7;simp only;omega,sm.il,sm.i⟩
 .split at h<;>cases h;exact sm
def as7{k:AL}{w:A1}{n:A3}(hf:Ei k)(hn:Aw n=Y){o:AL}(h:GZ k w n=I o):SmK o:=by
 have sm:=hf.sm;unfold GZ at h;split at h
 .exact Zg (k':=⟨k.id,k.ti,k.nx+1,k.held,k.marks,k.inbox⟩) hf ⟨rfl,rfl,rfl⟩ h
 split at h
 .exact Zg (k':=k) hf ⟨rfl,rfl,rfl⟩ h
 split at h
 .cases h
 split at h
 .cases h;have a:=QU hf.hl sm.h<|Ku hn;exact⟨a.1,a.2,sm.ml,sm.il,sm.i⟩
 split at h<;>cases h;have a:=QU hf.il sm.i<|Ku hn;exact⟨sm.hl,sm.h,sm.ml,a.1,a.2⟩
def asA{k:AL}{w:A1}{m:Mark}(hf:Ei k){o:AL}(h:F6 k w m=I o):SmK o:=by
 have sm:=hf.sm;unfold F6 at h;split at h
 .cases h;have a:=ZU (i:=(AZ k.held m.mf m.mn).toNat) hf.hl sm.h;exact⟨a.1,a.2,TU hf.ml,sm.il,sm.i⟩
 split at h
 .cases h;have a:=ZU (i:=(AZ k.inbox m.mf m.mn).toNat) hf.il sm.i;exact⟨sm.hl,sm.h,sm.ml,a.1,a.2⟩
 split at h<;>cases h;exact⟨sm.hl,sm.h,TU hf.ml,sm.il,sm.i⟩
def kO{k:AL}{w:A1}{m:Mark}(hf:Ei k)(hm:Ev m=A0):F6 k w m=G\/ ∃o,F6 k w m=I o/\Au o=A0:=by
 have hit:∀l,DR l=Y->EE l m=A0:=λl hl=>by
  unfold EE;obtain h|h:=tf (U<|0<=AZ l m.mf m.mn)
  .obtain⟨h1,_,h2,h3⟩:=FE<|BW h;rw[h,AS,decide_eq_false_iff_not];intro h4;have h5:=Ie<|Gx hl h1;have:Ev m=Y:=by
    unfold Ev;simp only[AE,Aa];have:=h5.f0;have:=h5.f1;have:=h5.n0;have:=h5.n1;have:=h5.u0;have:=h5.u1;omega
   rw[this]at hm;cases hm
  .rw[h];rfl
 unfold F6;rw[hit _ hf.h,hit _ hf.i,BX,BX,A4,A4];split
 .refine .inr ⟨_,rfl, ?_⟩;obtain h|h:=tf (Au ⟨k.id,k.ti,k.nx,k.held,ED k.marks m,k.inbox⟩)
  .have:=aCL (C2 h).m (L5 (λx=>bef x.mf x.mn m.mf m.mn) (l:=k.marks) (n:=m)<|.inl rfl);rw[hm]at this;cases this
  .exact h
 .exact .inl rfl
def Gz(r:A1):Option Mark:=match GN [32] 0 ((L r).count 32) (L r) with
 | [p,q,t]=>if(Aq<|B p).2&&((Aq<|B q).2&&((Aq<|B t).2&&Y)) then I ⟨(Aq<|B p).1,(Aq<|B q).1,(Aq<|B t).1⟩ else G
 | _=>G
def Bh(k:AL)(w r:A1):Option AL:=
 if U (w=Ec)||decide (w=Er) then(if(Aq r).2 then IC k w (Aq r).1 else G) else
 if U (w=Dh)||(U (w=EN)||(U (w=EO)||decide (w=Ea))) then(match DG r with|some n=>GZ k w n|none=>G) else
 if U (w=C3)||(U (w=CO)||decide (w=D5)) then(match Gz r with|some m=>F6 k w m|none=>G) else G
def GB(k:AL)(rec:A1):Option AL:=if !(Nc<|L rec).isSome then G else Bh k (wd rec).1 (wd rec).2
def auq{id ti nx:Int}{w r:A1}{held:List A3}{marks:List Mark}{inbox:List A3}(sm:DX held marks inbox)(hr:r.size<=1048576):
  B3 ((eS (r,B [32],())).bind λr46=>(S8 (r46.1.1,())).bind λr47=>
   if r47.1.2.1&&U ((j8 r47.1.1:Int)=3) then(if inb 0 r47.1.1.length then(if inb 1 r47.1.1.length then(if inb 2 r47.1.1.length then
    (Wf ((id,ti,nx,held,marks,inbox,()),w,((@rd Int aHb r47.1.1 0),(@rd Int aHb r47.1.1 1),(@rd Int aHb r47.1.1 2),()),())).bind λr48=>I (((r48.1.1.1,r48.1.1.2.1,r48.1.1.2.2.1,r48.1.1.2.2.2.1,r48.1.1.2.2.2.2.1,r48.1.1.2.2.2.2.2.1,()),r48.1.2.1,()),())
    else G) else G) else G)
   else I (((id,ti,nx,held,marks,inbox,()),A0,()),())) (match Gz r with|some m=>F6 ⟨id,ti,nx,held,marks,inbox⟩ w m|none=>G):=by
 unfold Gz;simp only[ax4 hr,A6];have hsz:=kD ((L r).count 32)<|L r;have hln:=kY ((L r).count 32)<|L r;have azw:(L r).count 32<=r.size:=List.count_le_length;generalize GN [32] 0 ((L r).count 32) (L r)=ps at *;have hb:∀p∈ps,(B p).size<=1048576:=λp hp=>by
  have:=hsz p hp;rw[Ax]at this;rw[BP];omega
 rw[aCu y8 (λw hw=>by
  obtain⟨p,hp,rfl⟩:=C0.1 hw;exact hb p hp)]
 simp only[A6];by_cases h3:ps.length=3
 .match ps,h3 with
  | [p,q,t],_=>
   have qA:B5 (([p,q,t]:List (List UInt8)).map B).length (λi=>(Aq<|(([p,q,t]:List (List UInt8)).map B).getD i noB).2)=((Aq<|B p).2&&((Aq<|B q).2&&((Aq<|B t).2&&Y))):=rfl;rw[qA];obtain h|h:=tf ((Aq<|B p).2&&((Aq<|B q).2&&((Aq<|B t).2&&Y)))
   .simp only[h,A2];exact(apz sm).eta
   .simp only[h,A4,AO];exact B3.no
 .have e1:∀c:Bool,(((if c then(((ps.map B).map λw=>(Aq w).1),Y,()) else(([]:List Int),A0,())).2.1&&U ((((if c then(((ps.map B).map λw=>(Aq w).1),Y,()) else(([]:List Int),A0,())):List Int×Bool×D).1.length:Int)=3))=A0):=by
   intro c;cases c
   .rfl
   .simp;omega
  rw[A9 (by rw[e1];simp)];have e2:(match ps with|[p,q,t]=>if(Aq<|B p).2&&((Aq<|B q).2&&((Aq<|B t).2&&Y)) then I (⟨(Aq<|B p).1,(Aq<|B q).1,(Aq<|B t).1⟩:Mark) else G|_=>G)=G:=by
   split
   .exact absurd rfl h3
   .rfl
  rw[e2];exact B3.no
def ayY{id ti nx:Int}{w r:A1}{held:List A3}{marks:List Mark}{inbox:List A3}(sm:DX held marks inbox)(hr:r.size<=1048576){t:KL}:
  B3 ((Pv (r,())).bind λr33=>if r33.1.2.1 then(X8 ((id,ti,nx,held,marks,inbox,()),w,r33.1.1,())).bind λr34=>I (((r34.1.1.1,r34.1.1.2.1,r34.1.1.2.2.1,r34.1.1.2.2.2.1,r34.1.1.2.2.2.2.1,r34.1.1.2.2.2.2.2.1,()),r34.1.2.1,()),())
   else I ((t,A0,()),())) (if(Aq r).2 then IC ⟨id,ti,nx,held,marks,inbox⟩ w (Aq r).1 else G):=by
 simp only[gL (J:r.size<=9223372036854775807),A6];exact B3.ite (λ_=>(aqk sm).eta) λ_=>B3.no
def ayq{id ti nx:Int}{w r:A1}{held:List A3}{marks:List Mark}{inbox:List A3}(sm:DX held marks inbox)(hr:r.size<=1048576)(h0:0<=nx)(h1:nx<=1000){t:KL}:
  B3 ((Vv (r,())).bind λr40=>if r40.1.2.1 then(We ((id,ti,nx,held,marks,inbox,()),w,(r40.1.1.1,r40.1.1.2.1,r40.1.1.2.2.1,r40.1.1.2.2.2.1,r40.1.1.2.2.2.2.1,()),())).bind λr41=>
    I (((r41.1.1.1,r41.1.1.2.1,r41.1.1.2.2.1,r41.1.1.2.2.2.1,r41.1.1.2.2.2.2.1,r41.1.1.2.2.2.2.2.1,()),r41.1.2.1,()),())
   else I ((t,A0,()),())) (match DG r with|some n=>GZ ⟨id,ti,nx,held,marks,inbox⟩ w n|none=>G):=by
 simp only[akA hr,A6];cases h:DG r with
 | none=>exact B3.no
 | some n=>
  have:=Ku (Js h).1;exact(apy sm this h0 h1).eta
def or3{a b c:Bool}{Ω X:Type}{f:Bool->X}:(if a then(I (.inr<|f a):Option (Ω ⊕ X)) else if b then I (.inr<|f b) else I (.inr<|f c))=I (.inr<|f<|a||(b||c)):=by cases a<;>cases b<;>rfl
def or2{a b:Bool}{Ω X:Type}{f:Bool->X}:(if a then(I (.inr<|f a):Option (Ω ⊕ X)) else I (.inr<|f b))=I (.inr<|f<|a||b):=by cases a<;>rfl
def or4{a b c d:Bool}{Ω X:Type}{f:Bool->X}:(if a then(I (.inr<|f a):Option (Ω ⊕ X)) else if b then I (.inr<|f b) else if c then I (.inr<|f c) else I (.inr<|f d))=I (.inr<|f<|a||(b||(c||d))):=by cases a<;>cases b<;>cases c<;>rfl
def aE6{a b:Bool}{Ω X:Type}{f:Bool->X}{g:X->Option Ω}{m:Option (Ω ⊕ X)}(h:m=(if a then(I (.inr<|f a):Option (Ω ⊕ X)) else I (.inr<|f b))):BU g m=g (f<|a||b):=by rw[h,or2];rfl
def asi{a b c:Bool}{Ω X:Type}{f:Bool->X}{g:X->Option Ω}{m:Option (Ω ⊕ X)}(h:m=(if a then(I (.inr<|f a):Option (Ω ⊕ X)) else if b then I (.inr<|f b) else I (.inr<|f c))):BU g m=g (f<|a||(b||c)):=by rw[h,or3];rfl
def ash{a b c d:Bool}{Ω X:Type}{f:Bool->X}{g:X->Option Ω}{m:Option (Ω ⊕ X)}(h:m=(if a then(I (.inr<|f a):Option (Ω ⊕ X)) else if b then I (.inr<|f b) else if c then I (.inr<|f c) else I (.inr<|f d))):BU g m=g (f<|a||(b||(c||d))):=by rw[h,or4];rfl
def aql{id ti nx:Int}{rec:A1}{held:List A3}{marks:List Mark}{inbox:List A3}(sm:DX held marks inbox)(hr:rec.size<=1048576)(h0:0<=nx)(h1:nx<=1000):
  B3 (X2 ((id,ti,nx,held,marks,inbox,()),rec,())) (GB ⟨id,ti,nx,held,marks,inbox⟩ rec):=by
 have hr2:(wd rec).2.size<=1048576:=by have:=(TR rec).2;omega
 unfold X2 GB Bh;simp only[ayy hr,A6];refine B3.neg λ_=> ?_;rw[aE6 (a:=U<|(wd rec).1=Ec) (b:=U<|(wd rec).1=Er) (f:=λv=>((id,ti,nx,held,marks,inbox,()),(0,0,0,[],[],[],()),(wd rec).1,(wd rec).2,(wd rec).1,v,())) rfl];refine B3.ite (λ_=>ayY sm hr2) λ_=> ?_;simp only;rw[ash (a:=U<|(wd rec).1=Dh) (b:=U<|(wd rec).1=EN) (c:=U<|(wd rec).1=EO) (d:=U<|(wd rec).1=Ea) (f:=λv=>((id,ti,nx,held,marks,inbox,()),(0,0,0,[],[],[],()),(wd rec).1,(wd rec).2,(wd rec).1,v,())) rfl];refine B3.ite (λ_=>ayq sm hr2 h0 h1) λ_=> ?_;simp only;rw[asi (a:=U<|(wd rec).1=C3) (b:=U<|(wd rec).1=CO) (c:=U<|(wd rec).1=D5) (f:=λv=>((id,ti,nx,held,marks,inbox,()),(0,0,0,[],[],[],()),(wd rec).1,(wd rec).2,v,())) rfl];exact B3.ite (λ_=>auq sm hr2) λ_=>B3.no
def av1{k:AL}{rec:A1}(hf:Ei k){o:AL}(h:GB k rec=I o):SmK o:=by
 unfold GB at h;split at h
 .cases h
 unfold Bh at h;split at h
 .split at h
  .exact awd hf h
  .cases h
 split at h
 .cases hn:DG (wd rec).2 with
  | none=>rw[hn]at h;cases h
  | some n=>rw[hn]at h;exact as7 hf (Js hn).1 h
 split at h
 .cases hn:Gz (wd rec).2 with
  | none=>rw[hn]at h;cases h
  | some n=>rw[hn]at h;exact asA hf h
 .cases h
def FJ(k:AL)(rec:A1):AL×Bool:=
 if Au k then(match (GB k rec).filter Au with|some k'=>(k',Y)|none=>(k,A0)) else(⟨0,0,0,[],[],[]⟩,A0)
def aB9{id ti nx:Int}{rec:A1}{held:List A3}{marks:List Mark}{inbox:List A3}(sm:DX held marks inbox)(hr:rec.size<=1048576):
  SX ((id,ti,nx,held,marks,inbox,()),rec,())=I ((tK (FJ ⟨id,ti,nx,held,marks,inbox⟩ rec).1,(FJ ⟨id,ti,nx,held,marks,inbox⟩ rec).2,()),()):=by
 unfold SX FJ;simp only[jN sm,yh sm,A6];obtain h|h:=tf (Au ⟨id,ti,nx,held,marks,inbox⟩)
 .have hf:=C2 h;have ha:=aql (id:=id) (ti:=ti) (nx:=nx) sm hr (by have:=hf.n0;simp only at this;omega) (by have:=hf.n1;simp only at this;omega);simp only[h,AB,A4,A2];cases hst:GB ⟨id,ti,nx,held,marks,inbox⟩ rec with
  | none=>
   rw[hst]at ha;obtain⟨t,ht⟩:=ha;simp only[ht,A6,AH,AB,HR,A2,Bw];rfl
  | some o=>
   rw[hst]at ha;have sm':=av1 hf hst;rw[show X2 ((id,ti,nx,held,marks,inbox,()),rec,())=I ((tK o,Y,()),()) from ha];simp only[A6,AB,AH,Ia,jN sm',yh sm',Dk,Dd,A2,Bn,Option.filter_some];obtain h2|h2:=tf (Au o)
   .simp only[h2,AB,A4,A2]
   .simp only[h2,AH,A4,A2]
 .simp only[h,AH,A4,A2]
def arz{id ti nx a b:Int}{held:List A3}{marks:List Mark}{inbox:List A3}(sm:DX held marks inbox)(h:0<=AZ held a b):
  gi ((id,ti,nx,held,marks,inbox,()),a,b,())=I (((id,ti,nx,ER held (AZ held a b).toNat,PI marks ⟨a,b,(nA held (AZ held a b).toNat).un⟩,inbox,()),Y,()),()):=by
 obtain⟨h1,h2,_⟩:=FE h;have hl:=sm.hl;unfold gi;have Nn:U (AZ held a b<0)=A0:=by simp;omega
 simp only[Jl sm.hl,A6,Nn,A4,N5 h,A2];generalize hi:(AZ held a b).toNat=i at *;rw[← h2];have e1:(U (0<=(i:Int))&&U ((i:Int)<=(held.length:Int)))=Y:=by simp;omega
 have e2:(U (0<=((i+1:Nat):Int))&&U (((i+1:Nat):Int)<=(held.length:Int)))=Y:=by simp;omega
 simp only[BA h1 (by omega:held.length<=9223372036854775807),e1,e2,A2,Bc,EV,CL,DM,DW,E4,DQ,sO sm.ml,A6];rw[A5<|BD J,A5<|BD J];rfl
def as0{id ti nx a b:Int}{held:List A3}{marks:List Mark}{inbox:List A3}(sm:DX held marks inbox)(h:0<=AZ inbox a b):
  gj ((id,ti,nx,held,marks,inbox,()),a,b,())=I (((id,ti,nx,held,marks,ER inbox (AZ inbox a b).toNat,()),Y,()),()):=by
 obtain⟨h1,h2,_⟩:=FE h;have hl:=sm.il;unfold gj;have Nn:U (AZ inbox a b<0)=A0:=by simp;omega
 simp only[Jl sm.il,A6,Nn,A4];generalize hi:(AZ inbox a b).toNat=i at *;rw[← h2];have e1:(U (0<=(i:Int))&&U ((i:Int)<=(inbox.length:Int)))=Y:=by simp;omega
 have e2:(U (0<=((i+1:Nat):Int))&&U (((i+1:Nat):Int)<=(inbox.length:Int)))=Y:=by simp;omega
 simp only[BA h1 (by omega:inbox.length<=9223372036854775807),e1,e2,A2,Bc,EV,CL,DM,DW,E4];rw[A5<|BD J,A5<|BD J];rfl
def LR(r:A1):Bool:= !decide (E8 r 3=noB)|| !decide (r=((((BM (Ac<|Al r 0)++B [32])++BM (Ac<|Al r 1))++B [32])++BM (Ac<|Al r 2)))
def mk3(r:A1):Mark:=⟨Ac<|Al r 0,Ac<|Al r 1,Ac<|Al r 2⟩
def Dm(k:AL)(w r:A1):Option AL:=
 if U (w=Ec) then(if U (Ac r<=k.ti) then G else I ⟨k.id,Ac r,k.nx,H8 (Ac r) k.held,K7 (Ac r) k.marks,k.inbox⟩) else
 if U (w=Dh) then(match DG r with|some n=>if !decide (n.fr=k.id) then G else if !decide (n.nu=k.nx) then G else Ex ⟨k.id,k.ti,k.nx+1,k.held,k.marks,k.inbox⟩ n|none=>G) else
 if U (w=EN) then(match DG r with|some n=>if U (n.fr=k.id) then G else Ex k n|none=>G) else
 if U (w=Er) then(if U (Ac r<=k.nx) then G else I ⟨k.id,k.ti,Ac r,k.held,k.marks,k.inbox⟩) else
 if U (w=EO)||decide (w=Ea) then(match DG r with|some n=>if U (0<=AZ k.held n.fr n.nu) then G else if U (0<=AZ k.inbox n.fr n.nu) then G else if U (w=EO) then I ⟨k.id,k.ti,k.nx,Dt k.held n,k.marks,k.inbox⟩ else I ⟨k.id,k.ti,k.nx,k.held,k.marks,Dt k.inbox n⟩|none=>G) else
 if LR r then G else
 if U (w=C3) then(if !EE k.held (mk3 r) then G else I ⟨k.id,k.ti,k.nx,ER k.held (AZ k.held (mk3 r).mf (mk3 r).mn).toNat,ED k.marks<|mk3 r,k.inbox⟩) else
 if U (w=CO) then(if !EE k.inbox (mk3 r) then G else I ⟨k.id,k.ti,k.nx,k.held,k.marks,ER k.inbox (AZ k.inbox (mk3 r).mf (mk3 r).mn).toNat⟩) else
 if U (w=D5) then(if U (0<=Bt k.marks (mk3 r).mf (mk3 r).mn) then G else I ⟨k.id,k.ti,k.nx,k.held,ED k.marks<|mk3 r,k.inbox⟩) else G
def Xv(s:A1): -1<=Ac s/\Ac s<10000:=by
 obtain⟨h,_⟩|⟨n,h,h1,h2⟩:=Sd s
 .omega
 .have:n<10000:=by
   have hv:=aF 4 (L s) (by rw[Ax];omega) (by rw[h2];exact Zd (n+1) n J);rw[h2,ZQ (n+1) n J]at hv;omega
  omega
def kR{n:Int}(h0: -1<=n)(h1:n<10000):(BM n).size<=4:=by
 by_cases h:0<=n
 .exact Gw h J J
 .obtain rfl:n= -1:=J
  have:BM (-1)=B [45,49]:=by
   apply Fu;show B6 (-1)=_;rw[show(-1:Int)= -((1:Nat):Int) by rfl,mh _ J];show 45::dcm 1=_;rw[Kw J];rfl
  rw[this];decide
def aax{l:List A3}{m:Mark}:(U (AZ l m.mf m.mn<0)|| !decide ((@rd A3 aG6 l<|AZ l m.mf m.mn).un=m.mu))= !EE l m:=by
 unfold EE;obtain h|h:=sgn (AZ l m.mf m.mn)
 .simp only[h,AW,Ad,Bw,AO,AH]
 .simp only[h,AW,Ad,Bn,AS];rfl
def avG{l:List A3}{f n:Int}:Ak (!(U<|AZ l f n<0)) (inb (AZ l f n) l.length)=Y:=by
 obtain h|h:=sgn (AZ l f n)
 .simp only[h,AW,AB,HR]
 .simp only[h,Ad,AH,Ia,N5<|of_eq_true h.2]
def arx{id ti nx:Int}{rec:A1}{held:List A3}{marks:List Mark}{inbox:List A3}(hf:Ei ⟨id,ti,nx,held,marks,inbox⟩)(hr:rec.size<=1048576):
  B3 (Wu ((id,ti,nx,held,marks,inbox,()),rec,())) (Dm ⟨id,ti,nx,held,marks,inbox⟩ (wd rec).1 (wd rec).2):=by
 have sm:DX held marks inbox:=hf.sm;have hn0:1<=nx:=hf.n0;have hn1:nx<=100:=hf.n1;have hr2:(wd rec).2.size<=1048576:=by have:=(TR rec).2;omega
 unfold Wu Dm;simp only[aac hr,A6];generalize (wd rec).1=w;generalize (wd rec).2=r at *;simp only[jr (J:r.size<=9223372036854775807),z6 hr2,alU sm,A6];refine B3.ite (λ_=>B3.neg λ_=>rfl) λ_=> ?_;refine B3.ite (λ_=> ?_) λ_=> ?_
 .cases h:DG r with
  | none=>exact B3.no
  | some n=>
   have:=Ku (Js h).1;simp only[UM,AB,A4];refine B3.neg λ_=>B3.neg λ_=> ?_;rw[AU J J];exact(aCE sm this).eta
 refine B3.ite (λ_=> ?_) λ_=> ?_
 .cases h:DG r with
  | none=>exact B3.no
  | some n=>
   have:=Ku (Js h).1;simp only[UM,AB,Bn];exact B3.neg λ_=>(aCE sm this).eta
 refine B3.ite (λ_=>B3.neg λ_=>rfl) λ_=> ?_;rw[aE6 (a:=U<|w=EO) (b:=U<|w=Ea) (f:=λv=>((id,ti,nx,held,marks,inbox,()),(0,0,0,[],[],[],()),w,r,v,())) rfl];refine B3.ite (λ_=> ?_) λ_=> ?_
 .simp only[z6 hr2,A6];cases h:DG r with
  | none=>exact B3.no
  | some n=>
   have:=Ku (Js h).1;simp only[UM,AB,A4,Jl sm.hl,Jl sm.il,A6];refine B3.neg λh1=>B3.neg λh2=> ?_;have e1:PH held n=Dt held n:=ZN (by simpa using h1);have e2:PH inbox n=Dt inbox n:=ZN (by simpa using h2);have Ej:=dG (l:=held) (fr:=n.fr) (nu:=n.nu) (tt:=n.to) (un:=n.un) (tx:=n.tx) sm.hl;have bH:=dG (l:=inbox) (fr:=n.fr) (nu:=n.nu) (tt:=n.to) (un:=n.un) (tx:=n.tx) sm.il;rw[show(⟨n.fr,n.nu,n.to,n.un,n.tx⟩:A3)=n from rfl]at Ej bH;simp only[Ej,bH,e1,e2,A6];exact B3.ite (λ_=>rfl) λ_=>rfl
 have e3:Pw (r,3,())=I (([Ac<|Al r 0,Ac<|Al r 1,Ac<|Al r 2],E8 r 3,()),()):=aag (n:=3) hr2 J;have i0:inb 0 [Ac<|Al r 0,Ac<|Al r 1,Ac<|Al r 2].length=Y:=rfl;have i1:inb 1 [Ac<|Al r 0,Ac<|Al r 1,Ac<|Al r 2].length=Y:=rfl;have i2:inb 2 [Ac<|Al r 0,Ac<|Al r 1,Ac<|Al r 2].length=Y:=rfl;have r0: @rd Int aHb [Ac<|Al r 0,Ac<|Al r 1,Ac<|Al r 2] 0=Ac (Al r 0):=rfl;have r1: @rd Int aHb [Ac<|Al r 0,Ac<|Al r 1,Ac<|Al r 2] 1=Ac (Al r 1):=rfl;have r2: @rd Int aHb [Ac<|Al r 0,Ac<|Al r 1,Ac<|Al r 2] 2=Ac (Al r 2):=rfl;have q0:=Xv<|Al r 0;have q1:=Xv<|Al r 1;have q2:=Xv<|Al r 2;have z0:=kR q0.1 q0.2;have z1:=kR q1.1 q1.2;have z2:=kR q2.1 q2.2;have zb:(B [32]).size=1:=rfl;have d1:U ((BM<|Ac<|Al r 0).size+(B [32]).size<=4611686018427387904)=Y:=by rw[zb,decide_eq_true_eq];omega
 have d2:U ((BM (Ac<|Al r 0)++B [32]).size+(BM<|Ac<|Al r 1).size<=4611686018427387904)=Y:=by rw[Bf,zb,decide_eq_true_eq];omega
 have d3:U (((BM (Ac<|Al r 0)++B [32])++BM (Ac<|Al r 1)).size+(B [32]).size<=4611686018427387904)=Y:=by rw[Bf,Bf,zb,decide_eq_true_eq];omega
 have d4:U ((((BM (Ac<|Al r 0)++B [32])++BM (Ac<|Al r 1))++B [32]).size+(BM<|Ac<|Al r 2).size<=4611686018427387904)=Y:=by rw[Bf,Bf,Bf,zb,decide_eq_true_eq];omega
 simp only[e3,A6,i0,i1,i2,r0,r1,r2,FV (n:=Ac<|Al r 0) J J,FV (n:=Ac<|Al r 1) J J,FV (n:=Ac<|Al r 2) J J,
  Dk,Dd,show ∀c,Ak c Y=Y from λc=>rfl,A2,d1,d2,d3,d4]
 refine B3.neg λ_=> ?_;have hmk:mk3 r=⟨Ac<|Al r 0,Ac<|Al r 1,Ac<|Al r 2⟩:=rfl;generalize Ac (Al r 0)=a at *;generalize Ac (Al r 1)=b at *;generalize Ac (Al r 2)=c at *;rw[hmk];simp only[Jl sm.hl,Jl sm.il,SF sm.ml,A6,avG,A2];refine B3.ite (λ_=> ?_) λ_=> ?_
 .rw[aax (m:=⟨a,b,c⟩)];refine B3.neg λh=> ?_;have hh:EE held ⟨a,b,c⟩=Y:=by simpa using h
  simp only[EE,AE,decide_eq_true_eq]at hh;obtain⟨g1,g2,g3,g4⟩:=FE hh.1;have ho:=hf.ho _ g1;unfold H4 at ho;simp only[AE,decide_eq_true_eq]at ho;have hm:Bt marks a b<0:=by
   have:=ho.2.2.2;simp only[g3,g4]at this;exact this
  have hM:PI marks ⟨a,b,c⟩=ED marks ⟨a,b,c⟩:=mD hm;simp only[arz sm hh.1,A6,hh.2,hM];rfl
 refine B3.ite (λ_=> ?_) λ_=> ?_
 .rw[aax (m:=⟨a,b,c⟩)];refine B3.neg λh=> ?_;have hh:EE inbox ⟨a,b,c⟩=Y:=by simpa using h
  simp only[EE,AE,decide_eq_true_eq]at hh;simp only[as0 sm hh.1,A6];rfl
 refine B3.ite (λ_=> ?_) λ_=>B3.no;refine B3.neg λh=> ?_;have hM:PI marks ⟨a,b,c⟩=ED marks ⟨a,b,c⟩:=mD (by simpa using h);simp only[sO sm.ml,A6,hM];rfl
def alh:U (Ec=Er)=A0:=by decide
def aou:U (Ec=Dh)=A0:=by decide
def alg:U (Ec=EN)=A0:=by decide
def alj:U (Ec=EO)=A0:=by decide
def ajo:U (Ec=Ea)=A0:=by decide
def aov:U (Ec=C3)=A0:=by decide
def aow:U (Ec=CO)=A0:=by decide
def ali:U (Ec=D5)=A0:=by decide
def aA6:U (Er=Ec)=A0:=by decide
def ap2:U (Er=Dh)=A0:=by decide
def alm:U (Er=EN)=A0:=by decide
def alo:U (Er=EO)=A0:=by decide
def ajp:U (Er=Ea)=A0:=by decide
def ap3:U (Er=C3)=A0:=by decide
def ap4:U (Er=CO)=A0:=by decide
def aln:U (Er=D5)=A0:=by decide
def aoz:U (Dh=Ec)=A0:=by decide
def ap0:U (Dh=Er)=A0:=by decide
def aAz:U (Dh=EN)=A0:=by decide
def aB0:U (Dh=EO)=A0:=by decide
def aA5:U (Dh=Ea)=A0:=by decide
def aqI:U (Dh=C3)=A0:=by decide
def aqJ:U (Dh=CO)=A0:=by decide
def ap1:U (Dh=D5)=A0:=by decide
def iR:U (EN=Ec)=A0:=by decide
def iS:U (EN=Er)=A0:=by decide
def jE:U (EN=Dh)=A0:=by decide
def iT:U (EN=EO)=A0:=by decide
def uD:U (EN=Ea)=A0:=by decide
def aox:U (EN=C3)=A0:=by decide
def aoy:U (EN=CO)=A0:=by decide
def alk:U (EN=D5)=A0:=by decide
def aA8:U (EO=Ec)=A0:=by decide
def aAA:U (EO=Er)=A0:=by decide
def aB1:U (EO=Dh)=A0:=by decide
def aA9:U (EO=EN)=A0:=by decide
def ajr:U (EO=Ea)=A0:=by decide
def ap5:U (EO=C3)=A0:=by decide
def ap6:U (EO=CO)=A0:=by decide
def alr:U (EO=D5)=A0:=by decide
def yX:U (Ea=Ec)=A0:=by decide
def yZ:U (Ea=Er)=A0:=by decide
def aA7:U (Ea=Dh)=A0:=by decide
def yY:U (Ea=EN)=A0:=by decide
def ya:U (Ea=EO)=A0:=by decide
def alp:U (Ea=C3)=A0:=by decide
def alq:U (Ea=CO)=A0:=by decide
def ajq:U (Ea=D5)=A0:=by decide
def jI:U (C3=Ec)=A0:=by decide
def jK:U (C3=Er)=A0:=by decide
def ji:U (C3=Dh)=A0:=by decide
def jJ:U (C3=EN)=A0:=by decide
def ik:U (C3=EO)=A0:=by decide
def iY:U (C3=Ea)=A0:=by decide
def jk:U (C3=CO)=A0:=by decide
def jL:U (C3=D5)=A0:=by decide
def im:U (CO=Ec)=A0:=by decide
def ir:U (CO=Er)=A0:=by decide
def jl:U (CO=Dh)=A0:=by decide
def iq:U (CO=EN)=A0:=by decide
def iv:U (CO=EO)=A0:=by decide
def iZ:U (CO=Ea)=A0:=by decide
def jm:U (CO=C3)=A0:=by decide
def iu:U (CO=D5)=A0:=by decide
def iU:U (D5=Ec)=A0:=by decide
def iW:U (D5=Er)=A0:=by decide
def jF:U (D5=Dh)=A0:=by decide
def iV:U (D5=EN)=A0:=by decide
def iX:U (D5=EO)=A0:=by decide
def uE:U (D5=Ea)=A0:=by decide
def jG:U (D5=C3)=A0:=by decide
def jH:U (D5=CO)=A0:=by decide
abbrev flt(o:Option AL):Option AL:=o.filter Au
def Tc{o:Option AL}(h:o=G\/ ∃k,o=I k/\Au k=A0):flt o=G:=by
 obtain rfl|⟨k,rfl,h⟩:=h
 .rfl
 .simp[flt,Option.filter,h]
def arS:DG noB=G:=by
 cases h:DG noB with
 | none=>rfl
 | some n=>
  obtain⟨h1,h2⟩:=Js h;have:=nj<|Ie h1;rw[h2]at this;exact absurd this<|by decide
def awN:Ac noB= -1:=by
 obtain⟨h,_⟩|⟨n,_,_,h⟩:=Sd noB
 .exact h
 .exact absurd h.symm (oR n)
def aDt(r:A1):(Aq r=(0,A0)/\Ac r= -1)\/ ∃n:Nat,Aq r=((n:Int),Y)/\(Ac r=n\/(Ac r= -1/\10000<=n)):=by
 obtain h|⟨n,h1,h2,h3⟩:=Sf r
 .refine .inl ⟨h, ?_⟩;obtain⟨h4,_⟩|⟨n,_,h5,h6⟩:=Sd r
  .exact h4
  .rw[kq J h6]at h;cases h
 .refine .inr ⟨n,h1, ?_⟩;obtain⟨h4,h5⟩|⟨m,h4,_,h6⟩:=Sd r
  .refine .inr ⟨h4, ?_⟩;have h7:=h5 n h3;obtain h8|h8:=GM n 10000
   .have:=Ly 4 n J J;rw[← h3,Ax]at this;omega
   .exact h8
  .left;have e:dcm n=dcm m:=h3.symm.trans h6;have:=congrArg val e;rw[ZQ (n+1) n J,ZQ (m+1) m J]at this;omega
def aaF(a b c:Int):L ((((BM a++B [32])++BM b)++B [32])++BM c)=B6 a++32::(B6 b++32::B6 c):=by
 simp only[GG,UG,L_B,C7,LH,EV]
def nN{l:List UInt8}(h:Cn l):l.count 32=0:=List.count_eq_zero.2 λhm=>h 32 hm rfl
def ZD{r:A1}{a b c:Int}(ha:0<=a)(ha2:a<100000)(hb:0<=b)(hb2:b<100000)(hc:0<=c)(hc2:c<100000)(e:L r=B6 a++32::(B6 b++32::B6 c)):Gz r=I ⟨a,b,c⟩:=by
 unfold Gz;have h2:(L r).count 32=1+1:=by
  rw[e,List.count_append,aDN,List.count_append,aDN,nN<|HT ha,nN<|HT hb,nN<|HT hc]
 rw[h2,e,Lp<|HT ha,Lp<|HT hb];show(if(Aq<|B<|B6 a).2&&((Aq<|B<|B6 b).2&&((Aq<|B<|B6 c).2&&Y)) then I (⟨(Aq<|B<|B6 a).1,(Aq<|B<|B6 b).1,(Aq<|B<|B6 c).1⟩:Mark) else G)=_;rw[JE ha ha2,JE hb hb2,JE hc hc2];rfl
def nU{p:List UInt8}(h:(Aq<|B p).2=Y):0<=(Aq<|B p).1/\p=B6 (Aq<|B p).1:=by
 obtain h1|⟨n,h1,_,h3⟩:=Sf (B p)
 .rw[h1]at h;cases h
 .rw[h1];exact⟨by simp,by rw[JI];exact h3⟩
def aGi{r:A1}{m:Mark}(h:Gz r=I m):0<=m.mf/\0<=m.mn/\0<=m.mu/\L r=B6 m.mf++32::(B6 m.mn++32::B6 m.mu):=by
 unfold Gz at h;have hj:=k9 ((L r).count 32)<|L r;split at h
 .rename_i p q t hp;rw[hp]at hj;split at h
  .rename_i hc;simp only[AE]at hc;cases h;have h1:=nU hc.1;have h2:=nU hc.2.1;have h3:=nU hc.2.2.1;refine⟨h1.1,h2.1,h3.1, ?_⟩;simp only;rw[← h1.2,← h2.2,← h3.2];exact hj.symm
  .cases h
 .cases h
def aEH{r:A1}{a b c:Int}(ha:0<=a)(ha2:a<10000)(hb:0<=b)(hb2:b<10000)(hc:0<=c)(hc2:c<10000)(e:L r=B6 a++32::(B6 b++32::B6 c)):LR r=A0/\mk3 r=⟨a,b,c⟩:=by
 have e0:=LB (HT ha) e;have c1:L (E8 r 1)=_:=(Ju (t:=r) e0).2;have e1:=LB (HT hb) c1;have c2:L (E8 r 2)=_:=(Ju (t:=r) e1).2;have e2:=UH (s:=E8 r 2) (by rw[c2];exact HT hc);have w0:Al r 0=B (B6 a):=(Ju (t:=r) e0).1;have w1:Al r 1=B (B6 b):=(Ju (t:=r) e1).1;have w2:Al r 2=B (B6 c):=by
  show(wd<|E8 r 2).1=_;rw[e2];apply Fu;rw[c2,L_B]
 have t3:E8 r 3=noB:=by
  show(wd<|E8 r 2).2=_;rw[e2]
 have d0:=N0 ha ha2;have d1:=N0 hb hb2;have d2:=N0 hc hc2;refine⟨?_, ?_⟩
 .unfold LR;rw[t3,w0,w1,w2,d0,d1,d2];have:r=((((BM a++B [32])++BM b)++B [32])++BM c):=Fu (by rw[e,aaF]);rw[← this];simp
 .unfold mk3;rw[w0,w1,w2,d0,d1,d2]
def Oa{m:Mark}(h:Ev m=Y):0<=m.mf/\m.mf<=3/\1<=m.mn/\m.mn<=99/\1<=m.mu/\m.mu<=999:=by
 unfold Ev at h;simp only[AE,Aa]at h;omega
def lr{k:AL}(hf:Ei k)(w r:A1):flt (if LR r then G else F6 k w (mk3 r))=flt (match Gz r with|some m=>F6 k w m|none=>G):=by
 obtain hm|hm:=tf (Ev<|mk3 r)
 .obtain⟨a0,a1,b0,b1,c0,c1⟩:=Oa hm;obtain hc|hc:=tf (LR r)
  .rw[hc];simp only[A2];cases h:Gz r with
   | none=>rfl
   | some m=>
    simp only;obtain h2|h2:=tf (Ev m)
    .obtain⟨p0,p1,q0,q1,s0,s1⟩:=Oa h2;obtain⟨_,_,_,e⟩:=aGi h;rw[(aEH J J J J J J e).1]at hc;cases hc
    .exact(Tc<|kO hf h2).symm
  .have hc2:=hc;unfold LR at hc;simp only[NJ,Bool.not_eq_false',decide_eq_true_eq]at hc;have e:L r=_:=(congrArg L hc.2).trans<|aaF _ _ _;have:=ZD (a:=(mk3 r).mf) (b:=(mk3 r).mn) (c:=(mk3 r).mu) J J J J J J e;rw[hc2,this];rfl
 .have hL:flt (if LR r then G else F6 k w (mk3 r))=G:=by
   cases LR r
   .exact Tc (kO hf hm)
   .rfl
  rw[hL];cases h:Gz r with
  | none=>rfl
  | some m=>
   simp only;obtain h2|h2:=tf (Ev m)
   .obtain⟨p0,p1,q0,q1,s0,s1⟩:=Oa h2;obtain⟨_,_,_,e⟩:=aGi h;have:=(aEH J J J J J J e).2;rw[this]at hm;have hm:Ev m=A0:=hm;rw[h2]at hm;cases hm
   .exact(Tc<|kO hf h2).symm
def ayF{k:AL}{n nx:Int}{a b:List A3}{m:List Mark}(hn:999<n):Au ⟨k.id,n,nx,a,m,b⟩=A0:=by
 obtain h|h:=tf (Au ⟨k.id,n,nx,a,m,b⟩)
 .have:=(C2 h).t1;simp only at this;omega
 .exact h
def ayX{k:AL}{n ti:Int}{a b:List A3}{m:List Mark}(hn:100<n):Au ⟨k.id,ti,n,a,m,b⟩=A0:=by
 obtain h|h:=tf (Au ⟨k.id,ti,n,a,m,b⟩)
 .have:=(C2 h).n1;simp only at this;omega
 .exact h
def asS{k:AL}(hf:Ei k)(r:A1):flt (Dm k Ec r)=flt (Bh k Ec r):=by
 have h0:=hf.t0;unfold Dm Bh IC;simp only[alh,aou,alg,alj,ajo,aov,aow,ali,AW,BX,EX,DU,Bn,Bw,AO,AS,A2,A4];obtain⟨h1,h2⟩|⟨n,h1,h2|⟨h2,h3⟩⟩:=aDt r
 .rw[h1,h2,A5 y8];rfl
 .rw[h1,h2];obtain h4|h4:=EQ (n:Int) k.ti<;>simp only[h4,AW,Ad,A2,A4]
 .rw[h1,h2,A5 y8];obtain h4|h4:=EQ (n:Int) k.ti<;>simp only[h4,AW,Ad,A2,A4];exact(Tc<|.inr ⟨_,rfl,ayF J⟩).symm
def atB{k:AL}(hf:Ei k)(r:A1):flt (Dm k Er r)=flt (Bh k Er r):=by
 have h0:=hf.n0;unfold Dm Bh IC;simp only[aA6,ap2,alm,alo,ajp,ap3,ap4,aln,AW,BX,EX,DU,Bn,Bw,AO,AS,A2,A4];obtain⟨h1,h2⟩|⟨n,h1,h2|⟨h2,h3⟩⟩:=aDt r
 .rw[h1,h2,A5 y8];rfl
 .rw[h1,h2];obtain h4|h4:=EQ (n:Int) k.nx<;>simp only[h4,AW,Ad,A2,A4]
 .rw[h1,h2,A5 y8];obtain h4|h4:=EQ (n:Int) k.nx<;>simp only[h4,AW,Ad,A2,A4];exact(Tc<|.inr ⟨_,rfl,ayX J⟩).symm
def asP{k:AL}(r:A1):Dm k Dh r=Bh k Dh r:=by
 unfold Dm Bh GZ;simp only[aoz,ap0,aAz,aB0,aA5,aqI,aqJ,ap1,AW,BX,EX,DU,Bn,Bw,AO,AS,A2,A4];cases DG r with
 | none=>rfl
 | some n=>
  simp only;obtain h1|h1:=tf (U<|n.fr=k.id)<;>obtain h2|h2:=tf (U<|n.nu=k.nx)<;>simp only[h1,h2,AB,AH,ite_self,AW,BX,EX,DU,Bn,Bw,AO,AS,A2,A4]
def ark{k:AL}(r:A1):Dm k EN r=Bh k EN r:=by
 unfold Dm Bh GZ;simp only[iR,iS,jE,iT,uD,aox,aoy,alk,AW,BX,EX,DU,Bn,Bw,AO,AS,A2,A4];cases DG r with
 | none=>rfl
 | some n=>
  simp only;obtain h1|h1:=tf (U<|n.fr=k.id)<;>simp only[h1,AB,AH,ite_self,AW,BX,EX,DU,Bn,Bw,AO,AS,A2,A4]
def arm{k:AL}(r:A1):Dm k EO r=Bh k EO r:=by
 unfold Dm Bh GZ;simp only[aA8,aAA,aB1,aA9,ajr,ap5,ap6,alr,AW,BX,EX,DU,Bn,Bw,AO,AS,A2,A4];cases DG r with
 | none=>rfl
 | some n=>
  simp only;obtain h1|h1:=tf (U<|0<=AZ k.held n.fr n.nu)<;>obtain h2|h2:=tf (U<|0<=AZ k.inbox n.fr n.nu)<;>simp only[h1,h2,AB,AH,ite_self,AW,BX,EX,DU,Bn,Bw,AO,AS,A2,A4]
def aqv{k:AL}(r:A1):Dm k Ea r=Bh k Ea r:=by
 unfold Dm Bh GZ;simp only[yX,yZ,aA7,yY,ya,alp,alq,ajq,AW,BX,EX,DU,Bn,Bw,AO,AS,A2,A4];cases DG r with
 | none=>rfl
 | some n=>
  simp only;obtain h1|h1:=tf (U<|0<=AZ k.held n.fr n.nu)<;>obtain h2|h2:=tf (U<|0<=AZ k.inbox n.fr n.nu)<;>simp only[h1,h2,AB,AH,ite_self,AW,BX,EX,DU,Bn,Bw,AO,AS,A2,A4]
def asQ{k:AL}(hf:Ei k)(r:A1):flt (Dm k C3 r)=flt (Bh k C3 r):=by
 have h:=lr hf C3 r;unfold Dm Bh;simp only[jI,jK,ji,jJ,ik,iY,jk,jL,AW,BX,EX,DU,Bn,Bw,AO,AS,A2,A4];refine LM ?_ h;unfold F6;simp only[jI,jK,ji,jJ,ik,iY,jk,jL,AW,BX,EX,DU,Bn,Bw,AO,AS,A2,A4];congr 1;refine ite_congr rfl (λ_=>rfl) λ_=> ?_;cases EE k.held (mk3 r)<;>rfl
def asR{k:AL}(hf:Ei k)(r:A1):flt (Dm k CO r)=flt (Bh k CO r):=by
 have h:=lr hf CO r;unfold Dm Bh;simp only[im,ir,jl,iq,iv,iZ,jm,iu,AW,BX,EX,DU,Bn,Bw,AO,AS,A2,A4];refine LM ?_ h;unfold F6;simp only[im,ir,jl,iq,iv,iZ,jm,iu,AW,BX,EX,DU,Bn,Bw,AO,AS,A2,A4];congr 1;refine ite_congr rfl (λ_=>rfl) λ_=> ?_;cases EE k.inbox (mk3 r)<;>rfl
def arl{k:AL}(hf:Ei k)(r:A1):flt (Dm k D5 r)=flt (Bh k D5 r):=by
 have h:=lr hf D5 r;unfold Dm Bh;simp only[iU,iW,jF,iV,iX,uE,jG,jH,AW,BX,EX,DU,Bn,Bw,AO,AS,A2,A4];refine LM ?_ h;unfold F6;simp only[iU,iW,jF,iV,iX,uE,jG,jH,AW,BX,EX,DU,Bn,Bw,AO,AS,A2,A4];congr 1;refine ite_congr rfl (λ_=>rfl) λ_=> ?_;cases U (0<=Bt k.marks (mk3 r).mf (mk3 r).mn)<;>rfl
def ax0{k:AL}(hf:Ei k)(w r:A1):flt (Dm k w r)=flt (Bh k w r):=by
 by_cases pG:w=Ec
 .subst pG;exact asS hf r
 by_cases pI:w=Er
 .subst pI;exact atB hf r
 by_cases pT:w=Dh
 .subst pT;exact congrArg flt<|asP r
 by_cases pH:w=EN
 .subst pH;exact congrArg flt<|ark r
 by_cases pK:w=EO
 .subst pK;exact congrArg flt<|arm r
 by_cases pP:w=Ea
 .subst pP;exact congrArg flt<|aqv r
 by_cases pU:w=C3
 .subst pU;exact asQ hf r
 by_cases pV:w=CO
 .subst pV;exact asR hf r
 by_cases pJ:w=D5
 .subst pJ;exact arl hf r
 have e1:Dm k w r=G:=by
  unfold Dm;simp only[pG,pI,pT,pH,pK,pP,pU,pV,pJ,Ad,AW,BX,EX,DU,Bn,Bw,AO,AS,A2,A4,ite_self]
 have e2:Bh k w r=G:=by
  unfold Bh;simp only[pG,pI,pT,pH,pK,pP,pU,pV,pJ,Ad,AW,BX,EX,DU,Bn,Bw,AO,AS,A2,A4]
 rw[e1,e2]
def atM{k:AL}(hf:Ei k)(w:A1):Dm k w noB=G:=by
 have h0:=hf.t0;have h1:=hf.n0;have hc:LR noB=Y:=by
  unfold LR;have:¬noB=((((BM (Ac<|Al noB 0)++B [32])++BM (Ac<|Al noB 1))++B [32])++BM (Ac<|Al noB 2)):=λh=>by
   have:=congrArg aB h;rw[Bf,Bf,Bf,Bf]at this;have e:noB.size=0:=rfl;have e2:(B [32]).size=1:=rfl;omega
  simp[this]
 unfold Dm;rw[awN,arS,hc];have a1:U (-1<=k.ti)=Y:=by simp;omega
 have a2:U (-1<=k.nx)=Y:=by simp;omega
 simp only[a1,a2,A2,ite_self]
def ayQ{k:AL}(hf:Ei k)(rec:A1):flt (Dm k (wd rec).1 (wd rec).2)=flt (GB k rec):=by
 unfold GB;obtain h|⟨w,r,h,e⟩:=Lw (L rec)
 .rw[UH h,TZ h,atM hf];rfl
 .rw[e,Ta h];exact ax0 hf _ _
def ax5{k:AL}{w r:A1}(hf:Ei k){o:AL}(h:Dm k w r=I o):SmK o:=by
 have sm:=hf.sm;unfold Dm at h;split at h
 .split at h<;>cases h;have a:=J1 (λx:A3=>U<|Ac r<x.un) k.held;have b:=J1 (λx:Mark=>U<|Ac r<x.mu) k.marks;have l1:=hf.hl;have l2:=hf.ml;exact⟨by unfold H8;simp only;omega,λx hx=>sm.h x (F8.1 hx).1,by unfold K7;simp only;omega,sm.il,sm.i⟩
 split at h
 .cases hn:DG r with
  | none=>rw[hn]at h;cases h
  | some n=>
   rw[hn]at h;simp only at h;split at h
   .cases h
   split at h
   .cases h
   exact Zg (k':=⟨k.id,k.ti,k.nx+1,k.held,k.marks,k.inbox⟩) hf ⟨rfl,rfl,rfl⟩ h
 split at h
 .cases hn:DG r with
  | none=>rw[hn]at h;cases h
  | some n=>
   rw[hn]at h;simp only at h;split at h
   .cases h
   exact Zg (k':=k) hf ⟨rfl,rfl,rfl⟩ h
 split at h
 .split at h<;>cases h;exact sm
 split at h
 .cases hn:DG r with
  | none=>rw[hn]at h;cases h
  | some n=>
   have hok:=Ku (Js hn).1;rw[hn]at h;simp only at h;split at h
   .cases h
   split at h
   .cases h
   split at h<;>cases h
   .have a:=QU hf.hl sm.h hok;exact⟨a.1,a.2,sm.ml,sm.il,sm.i⟩
   .have a:=QU hf.il sm.i hok;exact⟨sm.hl,sm.h,sm.ml,a.1,a.2⟩
 split at h
 .cases h
 split at h
 .split at h<;>cases h;have a:=ZU (i:=(AZ k.held (mk3 r).mf (mk3 r).mn).toNat) hf.hl sm.h;exact⟨a.1,a.2,TU hf.ml,sm.il,sm.i⟩
 split at h
 .split at h<;>cases h;have a:=ZU (i:=(AZ k.inbox (mk3 r).mf (mk3 r).mn).toNat) hf.il sm.i;exact⟨sm.hl,sm.h,sm.ml,a.1,a.2⟩
 split at h
 .split at h<;>cases h;exact⟨sm.hl,sm.h,TU hf.ml,sm.il,sm.i⟩
 .cases h
def aAw{id ti nx:Int}{rec:A1}{held:List A3}{marks:List Mark}{inbox:List A3}(sm:DX held marks inbox)(hr:rec.size<=1048576):
  SP ((id,ti,nx,held,marks,inbox,()),rec,())=I ((tK (FJ ⟨id,ti,nx,held,marks,inbox⟩ rec).1,(FJ ⟨id,ti,nx,held,marks,inbox⟩ rec).2,()),()):=by
 unfold SP FJ;simp only[jC sm,zG sm,A6];obtain h|h:=tf (Au ⟨id,ti,nx,held,marks,inbox⟩)
 .have hf:=C2 h;have ha:=arx hf hr;have hko:=ayQ hf rec;unfold flt at hko;simp only[h,AB,A4,A2];rw[← hko];cases hst:Dm ⟨id,ti,nx,held,marks,inbox⟩ (wd rec).1 (wd rec).2 with
  | none=>
   rw[hst]at ha;obtain⟨t,ht⟩:=ha;simp only[ht,A6,AH,AB,HR,A2,Bw];rfl
  | some o=>
   rw[hst]at ha;have sm':=ax5 hf hst;rw[show Wu ((id,ti,nx,held,marks,inbox,()),rec,())=I ((tK o,Y,()),()) from ha];simp only[A6,AB,AH,Ia,jC sm',zG sm',Dk,Dd,A2,Bn,Option.filter_some];obtain h2|h2:=tf (Au o)
   .simp only[h2,AB,A4,A2]
   .simp only[h2,AH,A4,A2]
 .simp only[h,AH,A4,A2]
def aO{s:A1}{a i:Nat}(h:a+i<s.size):bt (s.extract a s.size) i=bt s ((a+i:Nat):Int):=by
 rw[K4,K4,E9];congr 2;rw[BG,BG,List.getElem?_take_of_lt J,Hk]
def aaV{s:A1}{a i j:Nat}(h:a+j<=s.size):(s.extract a s.size).extract i j=s.extract (a+i) (a+j):=by
 apply Fu;rw[E9,E9,E9];rw[List.drop_take,J5,aC];congr 1;omega
def G8{s:A1}{a b:Nat}(hb:b<=s.size):(s.extract a b).size=b - a:=by
 rw[← Ax,E9,DW,E4,Ax];omega
def UP(s:A1):Int:=Fy (min s.size 3) λi=>U<|bt s i=58
def Di(s:A1):Option (A1×Nat):=
 if UP s<0 then G else
 let c:=(UP s).toNat
 let n:=Ac (s.extract 0 c)
 if n<1 then G else if 60<n then G else
 if(s.size:Int)<c+2+n then G else
 if !decide (bt s ((c+1+n.toNat:Nat):Int)=59) then G else I (s.extract (c+1)<|c+1+n.toNat,c+2+n.toNat)
def XZ(s:A1):(UP s= -1/\ ∀i,i<min s.size 3->bt s (i:Int)≠58)\/ ∃c:Nat,UP s=c/\c<s.size/\c<3/\bt s (c:Int)=58/\ ∀i,i<c->bt s (i:Int)≠58:=by
 obtain⟨h1,h2⟩|⟨c,h1,h2,h3,h4⟩:=G6 (min s.size 3) (λi=>U<|bt s i=58)
 .exact .inl ⟨h1,λi hi=>by simpa using h2 i hi⟩
 .exact .inr ⟨c,h1,J,J,by simpa using h3,λi hi=>by simpa using h4 i hi⟩
def ary{s:A1}(hs:s.size<=1048576):gn (s,())=I ((match Di s with|some p=>(p.1,(p.2:Int),())|none=>(noB,0,())),()):=by
 have hb:∀i,i<min s.size 3->O2 (s,(i:Int),())=if U (bt s (i:Int)=58) then O2 (s,(i:Int),()) else I (.inl (s,((i+1:Nat):Int),())):=λi hi=>by
  have hi2:i<s.size:=J
  obtain h|h:=tf (U<|bt s (i:Int)=58)
  .rw[h];rfl
  .rw[h];have e1:U ((i:Int)<3)=Y:=by simp;omega
   unfold O2;simp only[AY hi2,BK hi2,h,BA hi2 (by omega:s.size<=9223372036854775807),e1];rfl
 have Gs:∃y,sP (s,0,())=I y/\((Di s=G/\(y= .inl (noB,0,())\/y= .inr ()))\/ ∃p,Di s=I p/\y= .inl (p.1,(p.2:Int),())):=by
  obtain⟨h1,h2⟩|⟨c,h1,h2,h3,h4,h5⟩:=XZ s
  .refine⟨.inr (), ?_,.inl ⟨by unfold Di;rw[h1,A5 J],.inr rfl⟩⟩;refine CX (λi=>(s,(i:Int),())) (min s.size 3) (λi hi=> ?_) ?_
   .rw[hb i hi,show U (bt s (i:Int)=58)=A0 by simpa using h2 i hi];rfl
   .unfold O2;have e:(U (((min s.size 3:Nat):Int)<(s.size:Int))&&U (((min s.size 3:Nat):Int)<3))=A0:=by
     rw[Bool.eq_false_iff];simp only[ne_eq,AE,decide_eq_true_eq];omega
    simp only[e];rfl
  .have DD:Di s=(let n:=Ac<|s.extract 0 c;if n<1 then G else if 60<n then G else if(s.size:Int)<c+2+n then G else
     if !decide (bt s ((c+1+n.toNat:Nat):Int)=59) then G else I (s.extract (c+1)<|c+1+n.toNat,c+2+n.toNat)):=by
    unfold Di;rw[h1,A9 J];rfl
   have azR:∃y,O2 (s,(c:Int),())=I (.inr y)/\((Di s=G/\(y= .inl (noB,0,())\/y= .inr ()))\/ ∃p,Di s=I p/\y= .inl (p.1,(p.2:Int),())):=by
    rw[DD];unfold O2;have e1:U ((c:Int)<3)=Y:=by simp;omega
    have e2:(U (0<=(c:Int))&&U ((c:Int)<=(s.size:Int)))=Y:=by simp;omega
    have e3:(!decide (bt s (c:Int)=58))=A0:=by simp[h4]
    have hse:(s.extract 0 c).size=c:=G8 J;simp only[AY h2,BK h2,e1,e2,e3,Bc,A4,EY,A2,jr<|show(s.extract 0 c).size<=9223372036854775807 by omega,A6];have hrg:=Xv<|s.extract 0 c;generalize Ac (s.extract 0 c)=n at *;by_cases k1:n<1
    .exact⟨.inl (noB,0,()),by simp[k1],.inl ⟨by simp[k1],.inl rfl⟩⟩
    by_cases k2:60<n
    .exact⟨.inl (noB,0,()),by simp[k1,k2],.inl ⟨by simp[k1,k2],.inl rfl⟩⟩
    obtain⟨m,hm⟩:=HG (J:0<=n);subst hm;have w1:w64 ((c:Int)+2)=(c:Int)+2:=AU J J;have w2:w64 ((c:Int)+1)=((c+1:Nat):Int):=by rw[AU J J];omega
    have w3:w64 ((c:Int)+2+(m:Int))=((c+2+m:Nat):Int):=by rw[AU J J];omega
    have w4:w64 (((c+1:Nat):Int)+(m:Int))=((c+1+m:Nat):Int):=by rw[AU J J];omega
    simp only[w1,w2,w3,w4,Bc];by_cases k3:(s.size:Int)<(c:Int)+2+m
    .have k3':(s.size:Int)<((c+2+m:Nat):Int):=J
     exact⟨.inl (noB,0,()),by simp only[k1,k2,k3',AW,Ad,A2,A4],.inl ⟨by simp[k1,k2,k3],.inl rfl⟩⟩
    have k3':¬(s.size:Int)<((c+2+m:Nat):Int):=J
    have k4:c+1+m<s.size:=J
    have e5:((U (0<=((c+1+m:Nat):Int))&&U (((c+1+m:Nat):Int)<=(s.size:Int)))&&(U (0<=((c+1:Nat):Int))&&U (((c+1:Nat):Int)<=((c+1+m:Nat):Int))))=Y:=by
     simp only[AE,decide_eq_true_eq];omega
    simp only[k1,k2,k3,k3',Ad,A4,if_false,AY k4,A2,e5];obtain k5|k5:=tf (!decide (bt s ((c+1+m:Nat):Int)=59))
    .exact⟨.inl (noB,0,()),by simp only[k5,A2],.inl ⟨by simp only[k5,A2],.inl rfl⟩⟩
    .exact⟨.inl (s.extract (c+1)<|c+1+m,((c+2+m:Nat):Int),()),by simp only[k5,A4],.inr ⟨(s.extract (c+1)<|c+1+m,c+2+m),by simp only[k5,A4],rfl⟩⟩
   obtain⟨y,hy,hy2⟩:=azR;refine⟨y, ?_,hy2⟩;refine CX (λi=>(s,(i:Int),())) c (λi hi=> ?_) hy;rw[hb i J,show U (bt s (i:Int)=58)=A0 by simpa using h5 i hi];rfl
 obtain⟨y,hy,hy2⟩:=Gs;unfold gn;simp only[hy];obtain⟨h1,rfl|rfl⟩|⟨p,h1,rfl⟩:=hy2<;>rw[h1]<;>rfl
def Sy{s:A1}{p:A1×Nat}(h:Di s=I p):3<=p.2/\p.2<=s.size/\p.1.size<=60/\1<=p.1.size:=by
 unfold Di at h;split at h
 .cases h
 rename_i hc;obtain⟨h1,_⟩|⟨c,h1,h2,h3,h4,h5⟩:=XZ s
 .omega
 rw[h1]at h;simp only[Bc]at h;split at h
 .cases h
 split at h
 .cases h
 split at h
 .cases h
 split at h
 .cases h
 cases h;simp only;rw[G8 J];omega
def Eo(log:A1):Nat->List A1->Nat->List A1×Nat
 | 0,out,at_=>(out,at_)
 | f+1,out,at_=>if at_<log.size then(match Di (log.extract at_ log.size) with
  | none=>(out,at_)
  | some p=>Eo log f (out++[p.1]) (at_+p.2)) else(out,at_)
def aCb{log:A1}:∀(f:Nat) (out:List A1) (at_:Nat),at_<=log.size->out.length<=at_->(∀r∈out,r.size<=60/\1<=r.size)->
  (Eo log f out at_).2<=log.size/\(Eo log f out at_).1.length<=(Eo log f out at_).2/\ ∀r∈(Eo log f out at_).1,r.size<=60/\1<=r.size
 | 0,out,at_,h1,h2,h3=>⟨h1,h2,h3⟩
 | f+1,out,at_,h1,h2,h3=>by
  unfold Eo;split
  .rename_i hlt;cases h:Di (log.extract at_ log.size) with
   | none=>exact⟨h1,h2,h3⟩
   | some p=>
    obtain⟨a,b,c,d⟩:=Sy h;rw[G8<|Ar _]at b;exact aCb f _ _ J y8 (λr hr=>by
     obtain hr|hr:=BN.1 hr
     .exact h3 r hr
     .obtain rfl:=C1.1 hr;exact⟨c,d⟩)
  .exact⟨h1,h2,h3⟩
def D6(log:A1):List A1×Nat:=Eo log (log.size+1) [] 0
def Q4(log:A1):(D6 log).2<=log.size/\(D6 log).1.length<=log.size/\ ∀r∈(D6 log).1,r.size<=60/\1<=r.size:=by
 have:=aCb (log:=log) (log.size+1) [] 0 (Ch _) (Ch _) (λr hr=>by cases hr);exact⟨this.1,C6 this.2.1 this.1,this.2.2⟩
def l7{ρ:Type}{log:A1}{b:(A1×List A1×Int×D)->Option ((A1×List A1×Int×D) ⊕ ρ)}(ok:List A1->Nat->ρ->Prop)
  (h:∀(out:List A1) (at_:Nat),at_<log.size->out.length<=at_->match Di (log.extract at_ log.size) with
   | some p=>b (log,out,(at_:Int),())=I (.inl (log,out++[p.1],((at_+p.2:Nat):Int),()))
   | none=>∃y,b (log,out,(at_:Int),())=I (.inr y)/\ok out at_ y)
  (hn:∀(out:List A1) (at_:Nat),log.size<=at_->∃y,b (log,out,(at_:Int),())=I (.inr y)/\ok out at_ y):
  ∀(f:Nat) (out:List A1) (at_:Nat),log.size<at_+f->at_<=log.size->out.length<=at_->∃y,AT b (log,out,(at_:Int),())=I y/\ok (Eo log f out at_).1 (Eo log f out at_).2 y
 | 0,out,at_,h1,h2,h3=>J
 | f+1,out,at_,h1,h2,h3=>by
  unfold Eo;by_cases hlt:at_<log.size
  .rw[A5 hlt];have hb:=h out at_ hlt h3;cases DD:Di (log.extract at_ log.size) with
   | none=>
    rw[DD]at hb;obtain⟨y,h4,h5⟩:=hb;exact⟨y,BC h4,h5⟩
   | some p=>
    rw[DD]at hb;obtain⟨a,c,_,_⟩:=Sy DD;rw[G8<|Ar _]at c;obtain⟨y,h4,h5⟩:=l7 ok h hn f (out++[p.1]) (at_+p.2) J J y8;exact⟨y,At hb h4,h5⟩
  .rw[A9 hlt];obtain⟨y,h4,h5⟩:=hn out at_ J;exact⟨y,BC h4,h5⟩
def Va{log:A1}(hs:log.size<=1048576):Lg (log,())=I (((D6 log).1,((D6 log).2:Int),()),()):=by
 obtain⟨y,h1,h2⟩:=l7 (log:=log) (b:=Ro) (λout at_ y=>y= .inl (out,(at_:Int),())\/y= .inr (out,(at_:Int),())) (λout at_ hlt hl=>by
  have hse:(log.extract at_ log.size).size=log.size - at_:=G8<|Ar _;have e1:(U (0<=(at_:Int))&&U ((at_:Int)<=(log.size:Int)))=Y:=by simp;omega
  have hb:Ro (log,out,(at_:Int),())=(match Di (log.extract at_ log.size) with|some p=>I (.inl (log,out++[p.1],((at_+p.2:Nat):Int),()))|none=>I<|.inr<|.inl (out,(at_:Int),())):=by
   unfold Ro;simp only[BK hlt,e1,A2,Bc,ary<|show(log.extract at_ log.size).size<=1048576 by omega,A6];cases DD:Di (log.extract at_ log.size) with
   | none=>rfl
   | some p=>
    obtain⟨a,c,_,_⟩:=Sy DD;have e2:U (((p.2:Nat):Int)=0)=A0:=by simp;omega
    have e3:w64 ((at_:Int)+(p.2:Int))=((at_+p.2:Nat):Int):=by rw[AU J J];omega
    simp only[e2,e3,A4,Bm,CL,DM,BD (J:out.length+1<=4294967296),A2]
  rw[hb];cases Di (log.extract at_ log.size) with
  | none=>exact⟨_,rfl,.inl rfl⟩
  | some p=>rfl) (λout at_ hge=>by
  refine⟨.inr (out,(at_:Int),()), ?_,.inr rfl⟩;unfold Ro;have e:U ((at_:Int)<(log.size:Int))=A0:=by simp;omega
  simp only[e];rfl) (log.size+1) [] 0 J (Ch _) (Ch _)
 unfold Lg;rw[show ql (log,[],0,())=I y from h1];obtain rfl|rfl:=h2<;>rfl
def aDd{log:A1}{out:List A1}{at_ n:Nat}(hs:log.size<=1048576)(h:∀i,i<n->at_+i<log.size/\bt log ((at_+i:Nat):Int)≠58)(hn:n<=3)(hle:at_+n<=log.size)
  (py:log.size<=at_+n\/n=3\/bt log ((at_+n:Nat):Int)=58):qf (log,out,(at_:Int),(at_:Int),())=I (.inr (log,out,(at_:Int),((at_+n:Nat):Int),())):=by
 have e3:w64 ((at_:Int)+3)=((at_+3:Nat):Int):=by rw[AU J J];omega
 refine CX (λi=>(log,out,(at_:Int),((at_+i:Nat):Int),())) n (λi hi=> ?_) ?_
 .obtain⟨h1,h2⟩:=h i hi;unfold dP;have e2:U (bt log ((at_+i:Nat):Int)=58)=A0:=by simpa using h2
  simp only[BK h1,AY h1,e3,BK (J:at_+i<at_+3),e2,BA h1 (by omega:log.size<=9223372036854775807)];rfl
 .unfold dP;by_cases h1:at_+n<log.size
  .simp only[BK h1,AY h1,e3];obtain h2|h2|h2:=py
   .omega
   .have:U (((at_+n:Nat):Int)<((at_+3:Nat):Int))=A0:=by simp;omega
    rw[this];rfl
   .rw[show U (bt log ((at_+n:Nat):Int)=58)=Y by simpa using h2];cases U (((at_+n:Nat):Int)<((at_+3:Nat):Int))<;>rfl
  .have e1:U (((at_+n:Nat):Int)<(log.size:Int))=A0:=by simp;omega
   simp only[e1,A4,HR,A2]
def ak9{log:A1}{out:List A1}{at_:Nat}(hs:log.size<=1048576)(hlt:at_<log.size)(hl:out.length<=at_):
  Rs (log,out,(at_:Int),())=I (match Di (log.extract at_ log.size) with|some p=> .inl (log,out++[p.1],((at_+p.2:Nat):Int),())|none=> .inr<|.inr (out,(at_:Int),())):=by
 have hse:(log.extract at_ log.size).size=log.size - at_:=G8<|Ar _;unfold Rs;simp only[BK hlt,A2];obtain⟨h1,h2⟩|⟨c,h1,h2,h3,h4,h5⟩:=XZ (log.extract at_ log.size)
 .have DD:Di (log.extract at_ log.size)=G:=by unfold Di;rw[h1,A5 J]
  have hb:∀i,i<min (log.size - at_) 3->at_+i<log.size/\bt log ((at_+i:Nat):Int)≠58:=λi hi=>by
   refine⟨J, ?_⟩;rw[← aO J];exact h2 i (by rw[hse];exact hi)
  rw[DD,aDd (n:=min (log.size - at_) 3) hs hb J J J];simp only[CU];by_cases h6:log.size<=at_+min (log.size - at_) 3
  .have e:U ((log.size:Int)<=((at_+min (log.size - at_) 3:Nat):Int))=Y:=by simp;omega
   simp only[e,AB,HR,A2,Bw]
  .have e:U ((log.size:Int)<=((at_+min (log.size - at_) 3:Nat):Int))=A0:=by simp;omega
   have hm:min (log.size - at_) 3=3:=J
   rw[hm]at e h6 ⊢;simp only[e,AY (J:at_+3<log.size),AH,Ia,A2,Bn];obtain h7|h7:=tf (U<|bt log ((at_+3:Nat):Int)=58)
   .simp only[h7,AB,A4];have e4:((U (0<=((at_+3:Nat):Int))&&U (((at_+3:Nat):Int)<=(log.size:Int)))&&(U (0<=(at_:Int))&&U ((at_:Int)<=((at_+3:Nat):Int))))=Y:=by simp;omega
    simp only[e4,A2,Bc];have hz:(log.extract at_<|at_+3).size=3:=by rw[G8 J];omega
    rw[gL J];simp only[A6];obtain h8|⟨n,h8,h9,h10⟩:=Sf (log.extract at_<|at_+3)
    .simp only[h8];rfl
    .have h11:100<=n:=by
      obtain h12|h12:=GM n 100
      .have:=Ly 2 n J J;rw[← h10,Ax]at this;omega
      .exact h12
     have e5:inB (n:Int) 1 60=A0:=by simp[inB];omega
     simp only[h8,EK,A6,e5];rfl
   .simp only[h7];rfl
 .have hb:∀i,i<c->at_+i<log.size/\bt log ((at_+i:Nat):Int)≠58:=λi hi=>by
   refine⟨J, ?_⟩;rw[← aO J];exact h5 i hi
  have h4':bt log ((at_+c:Nat):Int)=58:=by rw[← aO J];exact h4
  have hc:at_+c<log.size:=J
  rw[aDd (n:=c) hs hb J J<|.inr<|.inr h4'];simp only[CU];have e:U ((log.size:Int)<=((at_+c:Nat):Int))=A0:=by simp;omega
  have e4:((U (0<=((at_+c:Nat):Int))&&U (((at_+c:Nat):Int)<=(log.size:Int)))&&(U (0<=(at_:Int))&&U ((at_:Int)<=((at_+c:Nat):Int))))=Y:=by simp;omega
  simp only[e,AY hc,AH,Ia,A2,Bn,show U (bt log ((at_+c:Nat):Int)=58)=Y by simpa using h4',AB,A4,e4,Bc];have hz:(log.extract at_<|at_+c).size=c:=by rw[G8 J];omega
  have hz2:(log.extract at_ log.size).extract 0 c=log.extract at_ (at_+c):=by rw[aaV J];simp
  rw[gL J];have DD:Di (log.extract at_ log.size)=(let n:=Ac<|log.extract at_<|at_+c;if n<1 then G else if 60<n then G else if((log.extract at_ log.size).size:Int)<c+2+n then G else
    if !decide (bt (log.extract at_ log.size) ((c+1+n.toNat:Nat):Int)=59) then G else I ((log.extract at_ log.size).extract (c+1)<|c+1+n.toNat,c+2+n.toNat)):=by
   unfold Di;rw[h1,A9 J,Bc];simp only[hz2]
  rw[DD];simp only[A6];obtain h8|⟨n,h8,h9,h10⟩:=Sf (log.extract at_<|at_+c)
  .have hd:Ac (log.extract at_<|at_+c)= -1:=by
    obtain⟨h9,_⟩|⟨n,h9,h10,h11⟩:=Sd (log.extract at_<|at_+c)
    .exact h9
    .rw[kq J h11]at h8;cases h8
   simp only[h8,hd];rfl
  .rw[nK J h10];simp only[h8,EK,A6,AB,A4,Bc,hse];by_cases h11:(n:Int)<1
   .rw[A5 h11,show inB (n:Int) 1 60=A0 by simp[inB];omega];rfl
   .rw[A9 h11];by_cases h12:60<(n:Int)
    .rw[A5 h12,show inB (n:Int) 1 60=A0 by simp[inB];omega];rfl
    .rw[A9 h12,show inB (n:Int) 1 60=Y by simp[inB];omega];have e5:w64 (((at_+c:Nat):Int)+1)=((at_+c+1:Nat):Int):=by rw[AU J J];omega
     have e6:w64 (((at_+c+1:Nat):Int)+(n:Int))=((at_+c+1+n:Nat):Int):=by rw[AU J J];omega
     simp only[e5,e6,AB,A4];by_cases h13:at_+c+1+n<log.size
     .rw[A9<|show ¬(((log.size - at_:Nat):Int)<c+2+n) by omega];have e7:U ((log.size:Int)<=((at_+c+1+n:Nat):Int))=A0:=by simp;omega
      simp only[e7,A4,AY h13,A2];have e10:bt (log.extract at_ log.size) ((c+1+n:Nat):Int)=bt log ((at_+c+1+n:Nat):Int):=by rw[aO (J:at_+(c+1+n)<log.size),show at_+(c+1+n)=at_+c+1+n by omega]
      simp only[e10];obtain h14|h14:=tf (U<|bt log ((at_+c+1+n:Nat):Int)=59)
      .have e8:((U (0<=((at_+c+1+n:Nat):Int))&&U (((at_+c+1+n:Nat):Int)<=(log.size:Int)))&&(U (0<=((at_+c+1:Nat):Int))&&U (((at_+c+1:Nat):Int)<=((at_+c+1+n:Nat):Int))))=Y:=by simp;omega
       have e9:w64 (((at_+c+1+n:Nat):Int)+1)=((at_+(c+2+n):Nat):Int):=by rw[AU J J];omega
       simp only[h14,AB,A4,e8,A2,Bm,CL,DM,BD (J:out.length+1<=4294967296),Bc,e9,aaV (J:at_+(c+1+n)<=log.size)];rw[show at_+(c+1)=at_+c+1 by omega,show at_+(c+1+n)=at_+c+1+n by omega]
      .simp only[h14,AH,A2]
     .rw[A5<|show(((log.size - at_:Nat):Int)<c+2+n) by omega];have e7:U ((log.size:Int)<=((at_+c+1+n:Nat):Int))=Y:=by simp;omega
      simp only[e7,A2]
def dd{log:A1}(hs:log.size<=1048576):Ph (log,())=I (((D6 log).1,((D6 log).2:Int),()),()):=by
 obtain⟨y,h1,h2⟩:=l7 (log:=log) (b:=Rs) (λout at_ y=>y= .inr (out,(at_:Int),())) (λout at_ hlt hl=>by
  rw[ak9 hs hlt hl];cases Di (log.extract at_ log.size) with
  | none=>exact⟨_,rfl,rfl⟩
  | some p=>rfl) (λout at_ hge=>by
  refine⟨.inr (out,(at_:Int),()), ?_,rfl⟩;unfold Rs;have e:U ((at_:Int)<(log.size:Int))=A0:=by simp;omega
  simp only[e];rfl) (log.size+1) [] 0 J (Ch _) (Ch _)
 unfold Ph;rw[show qg (log,[],0,())=I y from h1];subst h2;have h3:=Q4 log;simp only[CU];rw[show(Eo log (log.size+1) [] 0)=D6 log from rfl,qd J];rfl
abbrev zK:AL:=⟨0,0,0,[],[],[]⟩
def BO(k:AL)(r:A1):Option AL:=if(FJ k r).2 then I (FJ k r).1 else G
def El(k:AL)(rs:List A1):Option AL:=rs.foldlM BO k
def Cd(id:Int)(rs:List A1):Option AL:=if isN id then El ⟨id,0,1,[],[],[]⟩ rs else G
def aE9{σ β γ κ α:Type}{b:σ->Option (σ ⊕ (β ⊕ γ))}(st:Nat->κ->σ)(l:List α)(f:κ->α->Option κ)(bad:β)(fin:κ->γ)(Si:κ->Prop)
  (h:∀i k x,l[i]? =I x->Si k->b (st i k)=I (match f k x with|some k'=> .inl (st (i+1) k')|none=> .inr<|.inl bad))
  (hn:∀k,Si k->b (st l.length k)=I (.inr<|.inr<|fin k))(hI:∀k x k',Si k->f k x=I k'->Si k'):
  ∀k,Si k->AT b (st 0 k)=I (match l.foldlM f k with|some k'=> .inr (fin k')|none=> .inl bad):=by
 have:∀(m i:Nat),i+m=l.length->∀k,Si k->AT b (st i k)=I (match (l.drop i).foldlM f k with|some k'=> .inr (fin k')|none=> .inl bad):=by
  intro m
  induction m with
  | zero=>
   intro i hi k hk;rw[List.drop_of_length_le J,show i=l.length by omega];exact BC<|hn k hk
  | succ m ih=>
   intro i hi k hk;have hlt:i<l.length:=J
   rw[Tt hlt,Ts];have hb:=h i k l[i] (Av hlt) hk;cases hf:f k l[i]with
   | none=>rw[hf]at hb;exact BC hb
   | some k'=>rw[hf]at hb;exact At hb<|ih (i+1) J k'<|hI k _ k' hk hf
 intro k hk;have:=this l.length 0 J k hk;rwa[Iy]at this
def asf{k:AL}{r:A1}(h:(FJ k r).2=Y):Au (FJ k r).1=Y:=by
 unfold FJ at h ⊢;split at h<;>rename_i hk
 .rw[A5 hk];cases hs:(GB k r).filter Au with
  | none=>rw[hs]at h;cases h
  | some o=>exact(Ja.1 hs).2
 .cases h
def TF{k o:AL}{r:A1}(h:BO k r=I o):Au o=Y:=by
 unfold BO at h;split at h
 .cases h;exact asf (by assumption)
 .cases h
def aE2{k:AL}(h:Au k=Y):SmK k:=by
 have hf:=C2 h;have hn:∀ {l:List A3},DR l=Y->∀x∈l,G9 x:=fun {l} hl x hx=>by
  obtain⟨i,hi,rfl⟩:=Cz hx;have:=Gx hl hi;rw[DT<|Av hi]at this;exact Ku this
 exact⟨by have:=hf.hl;omega,hn hf.h,by have:=hf.ml;omega,by have:=hf.il;omega,hn hf.i⟩
def SZ{id:Int}(h:isN id=Y):Au ⟨id,0,1,[],[],[]⟩=Y:=by
 unfold Au;simp only[h];rfl
def aCo:∀ {rs:List A1} {k o:AL},Au k=Y->El k rs=I o->Au o=Y
 | [],k,o,hk,h=>by cases h;exact hk
 | r::rs,k,o,hk,h=>by
  unfold El at h;rw[Ts]at h;cases hs:BO k r with
  | none=>rw[hs]at h;cases h
  | some k'=>rw[hs]at h;exact aCo (rs:=rs) (TF hs) h
def T5{id:Int}{rs:List A1}{o:AL}(h:Cd id rs=I o):Au o=Y:=by
 unfold Cd at h;split at h
 .exact aCo (SZ<|by assumption) h
 .cases h
def aq7{id:Int}{rs:List A1}(hl:rs.length<=1048576)(hr:∀r∈rs,r.size<=1048576):hY (id,rs,())=I ((tK<|(Cd id rs).getD zK,(Cd id rs).isSome,()),()):=by
 unfold hY Cd;simp only[Kk,A6,aiJ];obtain h|h:=tf (isN id)
 .simp only[h,AB,A4,A2];have:=aE9 (b:=WR) (λi (k:AL)=>(tK zK,tK k,rs,(j8 rs:Int),(i:Int),())) rs BO (tK zK,A0,()) (λk=>(tK zK,tK k,())) (λk=>Au k=Y) (λi k x hx hk=>by
   have hi:=(BR.1 hx).1;have hxs:=hr x<|Cp hx;unfold WR;simp only[BK hi,AY hi,Oi,Oe hx,A2];rw[aB9 (aE2 hk) hxs];unfold BO;simp only[A6];obtain h2|h2:=tf (FJ k x).2
   .simp only[h2,AB,A4,A2,BA hi (by omega:rs.length<=9223372036854775807)]
   .simp only[h2,AH,A4,A2]) (λk hk=>by simp[WR]) (λk x k' _ hs=>TF hs) ⟨id,0,1,[],[],[]⟩ (SZ h)
  rw[show sa ((0,0,0,[],[],[],()),(id,0,1,[],[],[],()),rs,(j8 rs:Int),0,())=_ from this];unfold El;cases rs.foldlM BO ⟨id,0,1,[],[],[]⟩<;>rfl
 .simp only[h,AH,A4,A2];rfl
def aAv{id:Int}{rs:List A1}(hl:rs.length<=1048576)(hr:∀r∈rs,r.size<=1048576):SO (id,rs,())=I ((tK<|(Cd id rs).getD zK,(Cd id rs).isSome,()),()):=by
 unfold SO Cd;simp only[Jq,A6,ahm];obtain h|h:=tf (isN id)
 .simp only[h,AB,A4,A2];have:=aE9 (b:=WI) (λi (k:AL)=>(rs,tK zK,tK k,(i:Int),())) rs BO (tK zK,A0,()) (λk=>(tK zK,tK k,())) (λk=>Au k=Y) (λi k x hx hk=>by
   have hi:=(BR.1 hx).1;have hxs:=hr x<|Cp hx;unfold WI;simp only[BK hi,AY hi,Oi,Oe hx,A2];rw[aAw (aE2 hk) hxs];unfold BO;simp only[A6];obtain h2|h2:=tf (FJ k x).2
   .simp only[h2,AB,A4,A2,BA hi (by omega:rs.length<=9223372036854775807)]
   .simp only[h2,AH,A4,A2]) (λk hk=>by simp[WI]) (λk x k' _ hs=>TF hs) ⟨id,0,1,[],[],[]⟩ (SZ h)
  rw[show sL (rs,(0,0,0,[],[],[],()),(id,0,1,[],[],[],()),0,())=_ from this];unfold El;cases rs.foldlM BO ⟨id,0,1,[],[],[]⟩<;>rfl
 .simp only[h,AH,A4,A2];rfl
def DF(id:Int)(log:A1):Option AL:=Cd id (D6 log).1
def WL{id:Int}{log:A1}(hs:log.size<=1048576):Lk (id,log,())=I ((tK<|(DF id log).getD zK,(DF id log).isSome,()),()):=by
 have h:=Q4 log;unfold Lk DF;rw[dd hs];simp only[A6];rw[aq7 J (λr hr=>by have:=h.2.2 r hr;omega)];rfl
def Sk{id fo:Int}{up:Bool}{log:A1}{hv:List AD}(hs:log.size<=1048576):FA ((id,up,log,fo,hv,()),())=I ((tK<|(DF id log).getD zK,(DF id log).isSome,()),()):=by
 have h:=Q4 log;unfold FA DF;rw[Va hs];simp only[A6];rw[aAv J (λr hr=>by have:=h.2.2 r hr;omega)];rfl
def DP(lg:A1)(fo:Int):Bool:=U (lg.size<=2400)&&(inB fo 0 lg.size&&(U (((D6 lg).2:Int)=lg.size)&&U (((D6<|lg.extract 0 fo.toNat).2:Int)=fo)))
def WO{lg:A1}{fo:Int}(hs:lg.size<=1048576):O5 ((lg,fo,()),())=I ((DP lg fo,()),()):=by
 unfold O5 DP;simp only[EK,dd hs,A6,Dk,Dd];by_cases h1:lg.size<=2400
 .have e1:U (2400<(lg.size:Int))=A0:=by simp;omega
  simp only[e1,h1,AH,Ia,A2,Bn,AW,AS];obtain h2|h2:=tf (inB fo 0 lg.size)
  .have h3:=Aa.1 h2;have e2:(U (0<=fo)&&U (fo<=(lg.size:Int)))=Y:=by simp;omega
   simp only[h2,AB,A4,e2,A2,AS];rw[dd (by rw[G8 J];omega)];rfl
  .simp only[h2,AH,A2,AO]
 .have e1:U (2400<(lg.size:Int))=Y:=by simp;omega
  simp only[e1,h1,AB,HR,A2,Bw,Ad,AO]
def WZ{lg:A1}{fo:Int}(hs:lg.size<=1048576):O3 ((lg,fo,()),())=I ((DP lg fo,()),()):=by
 unfold O3 DP;simp only[I0,Va hs,A6,Dk,Dd];by_cases h1:lg.size<=2400
 .have e1:U (2400<(lg.size:Int))=A0:=by simp;omega
  simp only[e1,h1,AH,Ia,A2,Bn,AW,AS];obtain h2|h2:=tf (inB fo 0 lg.size)
  .have h3:=Aa.1 h2;have e2:(U (0<=fo)&&U (fo<=(lg.size:Int)))=Y:=by simp;omega
   simp only[h2,AB,A4,e2,A2,AS];rw[Va (by rw[G8 J];omega)];rfl
  .simp only[h2,AH,A2,AO]
 .have e1:U (2400<(lg.size:Int))=Y:=by simp;omega
  simp only[e1,h1,AB,HR,A2,Bw,Ad,AO]
def Hz(p:Bool):Ak p Y=Y:=by cases p<;>rfl
def awe{k o:AL}{w:A1}{n:Int}(h:IC k w n=I o):o.id=k.id:=by
 unfold IC at h
 repeat' split at h
 all_goals first|(cases h;done)|(cases h;rfl)
def aaD{k o:AL}{n:A3}(h:Ex k n=I o):o.id=k.id:=by
 unfold Ex at h
 repeat' split at h
 all_goals first|(cases h;done)|(cases h;rfl)
def as8{k o:AL}{w:A1}{n:A3}(h:GZ k w n=I o):o.id=k.id:=by
 unfold GZ at h;split at h
 .exact(aaD h).trans rfl
 split at h
 .exact aaD h
 split at h
 .cases h
 repeat' split at h
 all_goals first|(cases h;done)|(cases h;rfl)
def asB{k o:AL}{w:A1}{m:Mark}(h:F6 k w m=I o):o.id=k.id:=by
 unfold F6 at h
 repeat' split at h
 all_goals first|(cases h;done)|(cases h;rfl)
def auz{k o:AL}{w r:A1}(h:Bh k w r=I o):o.id=k.id:=by
 unfold Bh at h;split at h
 .split at h
  .exact awe h
  .cases h
 split at h
 .split at h
  .exact as8 h
  .cases h
 split at h
 .split at h
  .exact asB h
  .cases h
 .cases h
def avp{k o:AL}{r:A1}(h:BO k r=I o)(hk:Au k=Y):o.id=k.id:=by
 unfold BO at h;split at h
 case isFalse=>cases h
 rename_i h2;cases h;unfold FJ at h2 ⊢;simp only[hk,A2]at h2 ⊢;cases hs:(GB k r).filter Au with
 | none=>rfl
 | some o=>
  simp only;have:=(Ja.1 hs).1;unfold GB at this;split at this
  .cases this
  .exact auz this
def aCp:∀ {rs:List A1} {k o:AL},Au k=Y->El k rs=I o->o.id=k.id
 | [],k,o,_,h=>by cases h;rfl
 | r::rs,k,o,hk,h=>by
  unfold El at h;rw[Ts]at h;cases hs:BO k r with
  | none=>rw[hs]at h;cases h
  | some k'=>rw[hs]at h;exact(aCp (rs:=rs) (TF hs) h).trans<|avp hs hk
def lT{id:Int}{rs:List A1}{o:AL}(h:Cd id rs=I o):o.id=id:=by
 unfold Cd at h;split at h
 .exact aCp (k:=⟨id,0,1,[],[],[]⟩) (SZ<|by assumption) h
 .cases h
def xA(l:List AQ)(i:Nat):AQ:=l.getD i<|dfl .mixed
def hA(l:List AD)(i:Nat):AD:=l.getD i<|dfl .half
def Ya(l:List AQ)(i:Nat): @rd AQ aHl l (i:Int)=xA l i:=rfl
def ZM(l:List AD)(i:Nat): @rd AD aHa l (i:Int)=hA l i:=rfl
def avr{l:List AQ}{i j:Nat}(h:j<i):xA (l.take i) j=xA l j:=by
 unfold xA;simp[BG,h]
def IA(l:List AQ)(i:Nat):Bool:=(inB (xA l i).nu 0 999&&U (((xA l i).da.size:Int)=4))&&B5 i λj=> !decide ((xA l j).nu=(xA l i).nu)
def Fs(h:AD):Bool:=isN h.fr&&(isN h.to&&(inB h.nu 1 99&&(inB h.un 1 999&&(inB h.sz 1 24&&(U ((j8 h.got:Int)<=14)&&B5 h.got.length (IA h.got))))))
def apx{h:AD}(sm:Oh h):gx ((h.fr,h.nu,h.to,h.un,h.sz,h.got,()),())=I ((Fs h,()),()):=by
 have hl:h.got.length<=9223372036854775807:=by have:=sm.1;omega
 have Gs:sv ((h.fr,h.nu,h.to,h.un,h.sz,h.got,()),h.got,(j8 h.got:Int),0,())=I (if B5 h.got.length (IA h.got) then .inr () else .inl (A0,())):=
  D4 (λi=>((h.fr,h.nu,h.to,h.un,h.sz,h.got,()),h.got,(j8 h.got:Int),(i:Int),())) h.got.length (IA h.got) (A0,()) () (λi hi=>by
   unfold gR IA;simp only[BK hi,AY hi,A2,Ya,EK,A6];obtain e|e:=tf (inB (xA h.got i).nu 0 999)<;>obtain e'|e':=tfp (((xA h.got i).da.size:Int)=4)
   rotate_left
   .simp only[e,e',Ad,BX,AH,DU,AO,A2,A4]
   .simp only[e,AO,AH,Bw,A2,A4]
   .simp only[e,AO,AH,Bw,A2,A4]
   .have e2:(U (0<=(i:Int))&&U ((i:Int)<=(j8 h.got:Int)))=Y:=by simp;omega
    have e3:(BV i h.got).length=i:=by simp;omega
    simp only[e,e',AW,AB,GL,A4,e2,A2,Bc,e3,AS];have hin:su ((h.fr,h.nu,h.to,h.un,h.sz,h.got,()),((xA h.got i).nu,(xA h.got i).da,()),h.got,(j8 h.got:Int),(i:Int),BV i h.got,(i:Int),0,())=
      I (if B5 i (λj=> !decide ((xA h.got j).nu=(xA h.got i).nu)) then .inr ((h.fr,h.nu,h.to,h.un,h.sz,h.got,()),h.got,(j8 h.got:Int),(i:Int),()) else .inl (A0,())):=
     D4 (λj=>((h.fr,h.nu,h.to,h.un,h.sz,h.got,()),((xA h.got i).nu,(xA h.got i).da,()),h.got,(j8 h.got:Int),(i:Int),BV i h.got,(i:Int),(j:Int),())) i (λj=> !decide ((xA h.got j).nu=(xA h.got i).nu)) (A0,()) _ (λj hj=>by
      unfold gQ;simp only[BK hj,e3,AY hj,A2,Ya,avr hj,BA hj (by omega:i<=9223372036854775807)];obtain e4|e4:=tfp ((xA h.got j).nu=(xA h.got i).nu)<;>simp only[e4,AW,Ad]<;>rfl) (by simp[gQ])
    rw[hin];obtain e4|e4:=tf (B5 i λj=> !decide ((xA h.got j).nu=(xA h.got i).nu))
    .simp only[e4,A2,CU,BA hi hl]
    .simp only[e4,A4,GX]) (by simp[gR])
 unfold gx Fs;simp only[Kk,EK,A6,Gs];obtain e|e:=tf (isN h.fr)<;>simp only[e,AB,AH,A2,A4,AS,AO];obtain e|e:=tf (isN h.to)<;>simp only[e,AB,AH,A2,A4,AS,AO];obtain e|e:=tf (inB h.nu 1 99)<;>simp only[e,AB,AH,A2,A4,AS,AO];obtain e|e:=tf (inB h.un 1 999)<;>simp only[e,AB,AH,A2,A4,AS,AO];obtain e|e:=tf (inB h.sz 1 24)<;>simp only[e,AB,AH,A2,A4,AS,AO];obtain⟨e1,e2⟩|⟨e1,e2⟩:=EQ (j8 h.got:Int) 14<;>simp only[e1,e2,AW,Ad,A2,A4,AS,AO];obtain e|e:=tf (B5 h.got.length<|IA h.got)<;>simp only[e,A2,A4]<;>rfl
def atu{sz:Int}(h:inB sz 1 24=Y):inB (w64<|Ay (w64<|w64 (sz+4) - 1) 4) 1 6=Y:=by
 have h:=Aa.1 h;rw[AU (n:=sz+4) J J,AU (n:=sz+4 - 1) J J];have e:Ay (sz+4 - 1) 4=(sz+4 - 1) / 4:=Fh J;rw[e,AU J J,Aa];omega
def apK{h:AD}(sm:Oh h):dV ((h.fr,h.nu,h.to,h.un,h.sz,h.got,()),())=I ((Fs h,()),()):=by
 have hl:h.got.length<=9223372036854775807:=by have:=sm.1;omega
 have Gs:inB h.sz 1 24=Y->qk ((h.fr,h.nu,h.to,h.un,h.sz,h.got,()),0,())=I (if B5 h.got.length (IA h.got) then .inr () else .inl (A0,())):=λhz=>
  D4 (λi=>((h.fr,h.nu,h.to,h.un,h.sz,h.got,()),(i:Int),())) h.got.length (IA h.got) (A0,()) () (λi hi=>by
   unfold dE IA Kb SL Mv;simp only[BK hi,AY hi,A2,Ya,I0,A6,atu hz,Ia,Dk,Dd,AS];obtain e|e:=tf (inB (xA h.got i).nu 0 999)<;>obtain e'|e':=tfp (((xA h.got i).da.size:Int)=4)
   rotate_left
   .simp only[e,e',Ad,BX,AH,AO,A2,A4]
   .simp only[e,AO,AH,A2,A4]
   .simp only[e,AO,AH,A2,A4]
   .simp only[e,e',AW,EY,AB,A4,AS];have hin:qj ((h.fr,h.nu,h.to,h.un,h.sz,h.got,()),(i:Int),0,())=
      I (if B5 i (λj=> !decide ((xA h.got j).nu=(xA h.got i).nu)) then .inr ((h.fr,h.nu,h.to,h.un,h.sz,h.got,()),(i:Int),()) else .inl (A0,())):=
     D4 (λj=>((h.fr,h.nu,h.to,h.un,h.sz,h.got,()),(i:Int),(j:Int),())) i (λj=> !decide ((xA h.got j).nu=(xA h.got i).nu)) (A0,()) _ (λj hj=>by
      unfold dD;simp only[BK hj,AY hi,AY<|Zw hj hi,A2,Ya,BA hj (by omega:i<=9223372036854775807)];obtain e4|e4:=tfp ((xA h.got j).nu=(xA h.got i).nu)<;>simp only[e4,AW,Ad]<;>rfl) (by simp[dD])
    rw[hin];obtain e4|e4:=tf (B5 i λj=> !decide ((xA h.got j).nu=(xA h.got i).nu))
    .simp only[e4,A2,CU,BA hi hl]
    .simp only[e4,A4,GX]) (by simp[dE])
 unfold dV Fs;simp only[Jq,I0,A6];obtain e|e:=tf (isN h.fr)<;>simp only[e,AB,AH,A2,A4,AS,AO];obtain e|e:=tf (isN h.to)<;>simp only[e,AB,AH,A2,A4,AS,AO];obtain e|e:=tf (inB h.nu 1 99)<;>simp only[e,AB,AH,A2,A4,AS,AO];obtain e|e:=tf (inB h.un 1 999)<;>simp only[e,AB,AH,A2,A4,AS,AO];obtain e|e:=tf (inB h.sz 1 24)<;>simp only[e,AB,AH,A2,A4,AS,AO];rw[Gs e];obtain⟨e1,e2⟩|⟨e1,e2⟩:=EQ (j8 h.got:Int) 14<;>simp only[e1,e2,AW,Ad,A2,A4,AS,AO];obtain e|e:=tf (B5 h.got.length<|IA h.got)<;>simp only[e,A2,A4]<;>rfl
def EF(l:List AD)(f n:Int):Int:=Fy l.length λi=>U ((hA l i).fr=f)&&U ((hA l i).nu=n)
def aB5{l:List AD}{f n:Int}(hl:l.length<=1048576):SU (l,f,n,())=I ((EF l f n,()),()):=by
 unfold SU;have:=Q8 (b:=WN) (λi=>(f,n,l,(j8 l:Int),(i:Int),())) l.length (λi=>U ((hA l i).fr=f)&&U ((hA l i).nu=n)) (λr=>(r,())) () (λi hi=>by
  unfold WN;simp only[BK hi,AY hi,A2,ZM,BA hi (by omega:l.length<=9223372036854775807)];obtain e|e:=tfp ((hA l i).fr=f)<;>obtain e2|e2:=tfp ((hA l i).nu=n)<;>simp only[e,e2,AW,Ad]<;>rfl) (by simp[WN])
 rw[show sw (f,n,l,(j8 l:Int),0,())=_ from this];exact T3
def avB{n:Nat}{p:Nat->Bool}{i:Nat}(hi:i<n)(hp:p i=Y):U (Fy n p<(i:Int))= !(B5 i λj=> !p j):=by
 obtain⟨_,h2⟩|⟨c,h1,h2,h3,h4⟩:=G6 n p
 .rw[h2 i hi]at hp;cases hp
 .rw[h1];by_cases hc:c<i
  .have:B5 i (λj=> !p j)=A0:=by
    rw[Bool.eq_false_iff];intro h;have:=Cq.1 h c hc;simp[h3]at this
   rw[this];simpa using hc
  .have:B5 i (λj=> !p j)=Y:=Cq.2 λj hj=>by rw[h4 j J];rfl
   rw[this];simp;omega
def Fe(l:List AD)(i:Nat):Bool:=Fs (hA l i)&&B5 i λj=> !(U ((hA l j).fr=(hA l i).fr)&&U ((hA l j).nu=(hA l i).nu))
def Ae(k:A7):Bool:=isN k.id&&(DP k.log k.fo&&(U ((k.AG.length:Int)<=3)&&((k.up||decide (k.AG.length=0))&&(((DF k.id k.log).isSome&&(DF k.id<|k.log.extract 0 k.fo.toNat).isSome)&&B5 k.AG.length (Fe k.AG)))))
abbrev tKp(k:A7):Int×Bool×A1×Int×List AD×D:=(k.id,k.up,k.log,k.fo,k.AG,())
def abP{l:List AD}(h:∀x∈l,Oh x)(i:Nat):Oh (hA l i):=by
 unfold hA;obtain hi|hi:=GM i l.length
 .rw[Oe<|Av hi];exact h _ (Ci hi)
 .rw[BG,Hm hi];exact⟨by decide,λm hm=>by cases hm⟩
def Jo{k:A7}(sm:F5 k):Hv (tKp k,())=I ((Ae k,()),()):=by
 obtain⟨id,up,lg,fo,hv⟩:=k;obtain⟨sl,hl,hs⟩:=sm;simp only at sl hl hs;have Gs:c9 ((id,up,lg,fo,hv,()),hv,(j8 hv:Int),0,())=I (if B5 hv.length (Fe hv) then .inr () else .inl (A0,())):=
  D4 (λi=>((id,up,lg,fo,hv,()),hv,(j8 hv:Int),(i:Int),())) hv.length (Fe hv) (A0,()) () (λi hi=>by
   unfold dj Fe;simp only[BK hi,AY hi,A2,ZM,apx<|abP hs i,aB5 hl,A6,Dk,Dd,Hz,BA hi (by omega:hv.length<=9223372036854775807)];obtain e|e:=tf (Fs<|hA hv i)
   .have hf:=avB (p:=λj=>U ((hA hv j).fr=(hA hv i).fr)&&U ((hA hv j).nu=(hA hv i).nu)) hi aG9;unfold EF;simp only[e,AB,Bn,AS,hf];cases B5 i (λj=> !(U ((hA hv j).fr=(hA hv i).fr)&&U ((hA hv j).nu=(hA hv i).nu)))<;>rfl
   .simp only[e,AH,Bw,A2,AO,A4]) (by simp[dj])
 unfold Hv Ae;simp only[Kk,A6,WO sl];obtain e|e:=tf (isN id)<;>simp only[e,AB,AH,A2,A4,AS,AO,OL];obtain e2|e2:=tf (DP lg fo)<;>simp only[e2,AB,AH,A2,A4,AS,AO,OL];have e3:0<=fo/\fo<=(lg.size:Int):=by
  unfold DP at e2;simp only[AE]at e2;exact Aa.1 e2.2.1
 have e4:(U (0<=fo)&&U (fo<=(lg.size:Int)))=Y:=by simp;omega
 obtain⟨e5,e6⟩|⟨e5,e6⟩:=EQ (j8 hv:Int) 3<;>simp only[e5,e6,AW,Ad,A2,A4,AS,AO,OL];have IM:∀b:Bool,(b=Y)->BU (X:=(Int×Bool×A1×Int×List AD×D)×D) (λj5=>
   (Lk (j5.1.1,j5.1.2.2.1,())).bind λr8=>
   (if(U (0<=j5.1.2.2.2.1)&&U (j5.1.2.2.2.1<=(j5.1.2.2.1.size:Int))) then
   (Lk (j5.1.1,(j5.1.2.2.1.extract (0)<|AJ j5.1.2.2.2.1),())).bind λr9=>
   (if((!r8.1.2.1)||(!r9.1.2.1)) then
   I ((A0,()),())
   else
   (AP (c9 (j5.1,j5.1.2.2.2.2.1,(j8 j5.1.2.2.2.2.1:Int),0,()))
   (λy56=>I (y56,()))
   (λy56=>I ((Y,()),()))))
   else G)) (I<|.inr ((id,up,lg,fo,hv,()),()))=I ((b&&(((DF id lg).isSome&&(DF id<|lg.extract 0 fo.toNat).isSome)&&B5 hv.length (Fe hv)),()),()):=by
  rintro b rfl;simp only[Bk,WL sl,A6,e4,A2];rw[WL (by rw[G8 J];omega)];simp only[A6,Gs,AS];obtain e|e:=tf (DF id lg).isSome<;>obtain e2|e2:=tf (DF id<|lg.extract 0 fo.toNat).isSome<;>simp only[e,e2,AB,AH,GL,Bw,DU,A2,A4,EY,BX,AO,AS];obtain e|e:=tf (B5 hv.length<|Fe hv)<;>simp only[e,A2,A4]<;>rfl
 obtain e7|e7:=tf up
 .simp only[e7,AB,A4,Bw];rw[e7]at IM;exact IM Y rfl
 .simp only[e7,AH,A2,Bn];rw[e7]at IM;by_cases e8:hv.length=0
  .have e9:U (0<(j8 hv:Int))=A0:=by rw[e8];rfl
   simp only[e9,A4,e8,AW];rw[e8]at IM;exact IM Y rfl
  .have e9:U (0<(j8 hv:Int))=Y:=by simp;omega
   simp only[e9,A2,e8,Ad,AO,OL]
def Lm{k:A7}(sm:F5 k):J9 (tKp k,())=I ((Ae k,()),()):=by
 obtain⟨id,up,lg,fo,hv⟩:=k;obtain⟨sl,hl,hs⟩:=sm;simp only at sl hl hs;have Gs:br ((id,up,lg,fo,hv,()),0,())=I (if B5 hv.length (Fe hv) then .inr () else .inl (A0,())):=
  D4 (λi=>((id,up,lg,fo,hv,()),(i:Int),())) hv.length (Fe hv) (A0,()) () (λi hi=>by
   unfold eE Fe;simp only[BK hi,AY hi,A2,ZM,apK<|abP hs i,A6,BA hi (by omega:hv.length<=9223372036854775807)];obtain e|e:=tf (Fs<|hA hv i)
   .simp only[e,AB,A4,AS];have hin:qz ((id,up,lg,fo,hv,()),(i:Int),0,())=I (if B5 i (λj=> !(U ((hA hv j).fr=(hA hv i).fr)&&U ((hA hv j).nu=(hA hv i).nu))) then .inr ((id,up,lg,fo,hv,()),(i:Int),()) else .inl (A0,())):=
     D4 (λj=>((id,up,lg,fo,hv,()),(i:Int),(j:Int),())) i (λj=> !(U ((hA hv j).fr=(hA hv i).fr)&&U ((hA hv j).nu=(hA hv i).nu))) (A0,()) _ (λj hj=>by
      unfold eC;simp only[BK hj,AY hi,AY<|Zw hj hi,A2,ZM,Hz,BA hj (by omega:i<=9223372036854775807)];obtain e|e:=tfp ((hA hv j).fr=(hA hv i).fr)<;>obtain e2|e2:=tfp ((hA hv j).nu=(hA hv i).nu)<;>simp only[e,e2,AW,Ad]<;>rfl) (by simp[eC])
    rw[hin];obtain e4|e4:=tf (B5 i λj=> !(U ((hA hv j).fr=(hA hv i).fr)&&U ((hA hv j).nu=(hA hv i).nu)))
    .simp only[e4,A2,CU,BA hi (by omega:hv.length<=9223372036854775807)]
    .simp only[e4,A4,GX]
   .simp only[e,AH,A2,AO,A4]) (by simp[eE])
 unfold J9 Ae;simp only[Jq,A6,WZ sl];obtain e|e:=tf (isN id)<;>simp only[e,AB,AH,A2,A4,AS,AO,OL];obtain e2|e2:=tf (DP lg fo)<;>simp only[e2,AB,AH,A2,A4,AS,AO,OL];have e3:0<=fo/\fo<=(lg.size:Int):=by
  unfold DP at e2;simp only[AE]at e2;exact Aa.1 e2.2.1
 have e4:(U (0<=fo)&&U (fo<=(lg.size:Int)))=Y:=by simp;omega
 obtain⟨e5,e6⟩|⟨e5,e6⟩:=EQ (j8 hv:Int) 3<;>simp only[e5,e6,AW,Ad,A2,A4,AS,AO,OL];have IM:∀b:Bool,(b=Y)->BU (X:=(Int×Bool×A1×Int×List AD×D)×D) (λj5=>
   (if(U (0<=j5.1.2.2.2.1)&&U (j5.1.2.2.2.1<=(j5.1.2.2.1.size:Int))) then
   (Lg ((j5.1.2.2.1.extract (0)<|AJ j5.1.2.2.2.1),())).bind λr8=>
   (SO (j5.1.1,r8.1.1,())).bind λr9=>
   (FA j5).bind λr10=>
   (if((!r10.1.2.1)||(!r9.1.2.1)) then
   I ((A0,()),())
   else
   (AP (br (j5.1,0,()))
   (λy27=>I (y27,()))
   (λy27=>I ((Y,()),()))))
   else G)) (I<|.inr ((id,up,lg,fo,hv,()),()))=I ((b&&(((DF id lg).isSome&&(DF id<|lg.extract 0 fo.toNat).isSome)&&B5 hv.length (Fe hv)),()),()):=by
  rintro b rfl;have hz:(lg.extract 0 fo.toNat).size<=1048576:=by rw[G8 J];omega
  have hg:=Q4<|lg.extract 0 fo.toNat;simp only[Bk,e4,A2,Va hz,A6,aAv (id:=id) (show(D6<|lg.extract 0 fo.toNat).1.length<=1048576 by omega) (λr hr=>by have:=hg.2.2 r hr;omega),Sk sl,Gs,AS];rw[show Cd id (D6<|lg.extract 0 fo.toNat).1=DF id (lg.extract 0 fo.toNat) from rfl];obtain e|e:=tf (DF id lg).isSome<;>obtain e2|e2:=tf (DF id<|lg.extract 0 fo.toNat).isSome<;>simp only[e,e2,AB,AH,GL,Bw,DU,A2,A4,EY,BX,AO,AS];obtain e|e:=tf (B5 hv.length<|Fe hv)<;>simp only[e,A2,A4]<;>rfl
 obtain e7|e7:=tf up
 .simp only[e7,AB,A4,Bw];rw[e7]at IM;exact IM Y rfl
 .simp only[e7,AH,A2,Bn];rw[e7]at IM;by_cases e8:hv.length=0
  .have e9:U (0<(j8 hv:Int))=A0:=by rw[e8];rfl
   simp only[e9,A4,e8,AW];rw[e8]at IM;exact IM Y rfl
  .have e9:U (0<(j8 hv:Int))=Y:=by simp;omega
   simp only[e9,A2,e8,Ad,AO,OL]
abbrev YR:=Int×List A7×List Bool×List AK×List A3×List A3×D
def kA(l:List A7)(i:Nat):A7:=l.getD i<|dfl .AN
def pA(l:List AK)(i:Nat):AK:=l.getD i<|dfl .Ai
def bA(l:List Bool)(i:Nat):Bool:=l.getD i<|dfl .bool
def N2(l:List A7)(i:Nat): @rd A7 aG8 l (i:Int)=kA l i:=rfl
def aEP(l:List AK)(i:Nat): @rd AK aHe l (i:Int)=pA l i:=rfl
def HF(l:List A3):Bool:=B5 l.length λi=>Aw<|nA l i
def EA(p:AK):Bool:=isN p.src&&(isN p.dst&&((U (p.src - p.dst=1)||decide (p.dst - p.src=1))&&U ((p.data.size:Int)<=40)))
def JS(l:List A7)(i:Nat):Bool:=U ((kA l i).id=(i:Int))&&Ae (kA l i)
def FW(ti:Int)(ks:List A7)(ls:List Bool)(ra:List AK)(se go:List A3):Bool:=
 inB ti 0 99999&&(U ((j8 ks:Int)=4)&&(U ((j8 ls:Int)=3)&&(U ((j8 ra:Int)<=30)&&((HF se&&U ((j8 se:Int)<=6))&&((HF go&&U ((j8 go:Int)<=6))&&
  (B5 ks.length (JS ks)&&B5 ra.length (λi=>EA<|pA ra i)))))))
def MF{l:List A7}(h:∀x∈l,F5 x)(i:Nat):F5 (kA l i):=by
 unfold kA;obtain hi|hi:=GM i l.length
 .rw[Oe<|Av hi];exact h _ (Ci hi)
 .rw[BG,Hm hi];exact⟨by decide,by decide,λm hm=>by cases hm⟩
def aBo{l:List A3}(hl:l.length<=1048576)(h:∀x∈l,G9 x):X3 (l,())=I ((HF l&&U ((j8 l:Int)<=6),()),()):=by
 have Gs:te (l,l,(j8 l:Int),0,())=I (if HF l then .inr (l,()) else .inl (A0,())):=
  D4 (λi=>(l,l,(j8 l:Int),(i:Int),())) l.length (λi=>Aw<|nA l i) (A0,()) (l,()) (λi hi=>by
   unfold gz;simp only[BK hi,AY hi,A2,DQ,Wh<|UN h i,A6,BA hi (by omega:l.length<=9223372036854775807)];obtain e|e:=tf (Aw<|nA l i)<;>simp only[e]<;>rfl) (by simp[gz])
 unfold X3;simp only[Gs];obtain e|e:=tf (HF l)<;>simp only[e]<;>rfl
def Em{n:Int}(h:isN n=Y):0<=n/\n<=3:=Aa.1 h
def Yd{a b:Int}(ha:isN a=Y)(hb:isN b=Y):w64 (a - b)=a - b:=by
 have:=Em ha;have:=Em hb;exact AU J J
def ak8{w:YR}{ks:List A7}(kl:ks.length<=1048576)(k:∀x∈ks,F5 x):
  rp (w,ks,(j8 ks:Int),0,())=I (if B5 ks.length (JS ks) then .inr (w,()) else .inl (A0,())):=
 D4 (λi=>(w,ks,(j8 ks:Int),(i:Int),())) ks.length (JS ks) (A0,()) (w,()) (λi hi=>by
  have hk:=Jo<|MF k i;unfold fD JS;simp only[BK hi,AY hi,A2,N2,hk,Dk,Dd,Hz,BA hi (by omega:ks.length<=9223372036854775807)];obtain e|e:=tfp ((kA ks i).id=(i:Int))<;>obtain e2|e2:=tf (Ae<|kA ks i)<;>simp only[e,e2,AW,Ad]<;>rfl) (by simp[fD])
def ym{ra:List AK}(rl:ra.length<=1048576):
  rk (ra,(j8 ra:Int),0,())=I (if B5 ra.length (λi=>EA<|pA ra i) then .inr () else .inl (A0,())):=
 D4 (λi=>(ra,(j8 ra:Int),(i:Int),())) ra.length (λi=>EA<|pA ra i) (A0,()) () (λi hi=>by
  unfold fC EA;simp only[BK hi,AY hi,A2,aEP,Kk,A6,BA hi (by omega:ra.length<=9223372036854775807)];obtain e|e:=tf (isN (pA ra i).src)<;>obtain e2|e2:=tf (isN (pA ra i).dst)<;>simp only[e,e2,AB,AH,A2,A4,AS,AO];simp only[Yd e e2,Yd e2 e];obtain e3|e3:=tfp ((pA ra i).src - (pA ra i).dst=1)<;>obtain e4|e4:=tfp ((pA ra i).dst - (pA ra i).src=1)<;>obtain⟨e5,e6⟩|⟨e5,e6⟩:=EQ ((pA ra i).data.size:Int) 40<;>simp only[e3,e4,e5,e6,AW,Ad]<;>rfl) (by simp[fC])
def WQ{ti:Int}{ks:List A7}{ls:List Bool}{ra:List AK}{se go:List A3}(sm:J8 ks ls ra se go):
  Mp ((ti,ks,ls,ra,se,go,()),())=I ((FW ti ks ls ra se go,()),()):=by
 unfold Mp FW;simp only[EK,aBo sm.sl sm.s,aBo sm.gl sm.g,ak8 sm.kl sm.k,ym sm.rl,A6];obtain e|e:=tf (inB ti 0 99999)<;>simp only[e,AB,AH,A2,A4,AS,AO];obtain e|e:=tfp ((j8 ks:Int)=4)<;>simp only[e,AW,Ad,AB,AH,A2,A4,AS,AO];obtain e|e:=tfp ((j8 ls:Int)=3)<;>simp only[e,AW,Ad,AB,AH,A2,A4,AS,AO];obtain⟨e1,e2⟩|⟨e1,e2⟩:=EQ (j8 ra:Int) 30<;>simp only[e1,e2,AW,Ad,A2,A4,AS,AO];obtain e|e:=tf (HF se&&U ((j8 se:Int)<=6))<;>simp only[e,AB,AH,A2,A4,AS,AO];obtain e|e:=tf (HF go&&U ((j8 go:Int)<=6))<;>simp only[e,AB,AH,A2,A4,AS,AO];obtain e|e:=tf (B5 ks.length<|JS ks)<;>simp only[e,A2,A4,AS,AO,GX,CU];rw[ym sm.rl];obtain e|e:=tf (B5 ra.length λi=>EA<|pA ra i)<;>simp only[e,A2,A4,GX,CU]
def ajm{ti:Int}{ks:List A7}{ls:List Bool}{ra:List AK}{se go:List A3}(sm:J8 ks ls ra se go):
  s8 ((ti,ks,ls,ra,se,go,()),0,())=I (if B5 ks.length (JS ks) then .inr ((ti,ks,ls,ra,se,go,()),()) else .inl (A0,())):=
 D4 (λi=>((ti,ks,ls,ra,se,go,()),(i:Int),())) ks.length (JS ks) (A0,()) _ (λi hi=>by
  have hk:=Lm<|MF sm.k i;unfold fR JS;have kl:=sm.kl;simp only[BK hi,AY hi,A2,N2,hk,A6,Hz,BA hi (by omega:ks.length<=9223372036854775807)];obtain e|e:=tfp ((kA ks i).id=(i:Int))<;>obtain e2|e2:=tf (Ae<|kA ks i)<;>simp only[e,e2,AW,Ad]<;>rfl) (by simp[fR])
def ajl{ti:Int}{ks:List A7}{ls:List Bool}{ra:List AK}{se go:List A3}(sm:J8 ks ls ra se go):
  s7 ((ti,ks,ls,ra,se,go,()),0,())=I (if B5 ra.length (λi=>EA<|pA ra i) then .inr ((ti,ks,ls,ra,se,go,()),()) else .inl (A0,())):=
 D4 (λi=>((ti,ks,ls,ra,se,go,()),(i:Int),())) ra.length (λi=>EA<|pA ra i) (A0,()) _ (λi hi=>by
  have rl:=sm.rl;unfold fQ EA;simp only[BK hi,AY hi,A2,aEP,Jq,A6,BA hi (by omega:ra.length<=9223372036854775807)];obtain e|e:=tf (isN (pA ra i).src)<;>obtain e2|e2:=tf (isN (pA ra i).dst)<;>simp only[e,e2,AB,AH,A2,A4,AS,AO];simp only[Yd e e2,Yd e2 e];obtain e3|e3:=tfp ((pA ra i).src - (pA ra i).dst=1)<;>obtain e4|e4:=tfp ((pA ra i).dst - (pA ra i).src=1)<;>obtain⟨e5,e6⟩|⟨e5,e6⟩:=EQ ((pA ra i).data.size:Int) 40<;>simp only[e3,e4,e5,e6,AW,Ad]<;>rfl) (by simp[fQ])
def ajk{ti:Int}{ks:List A7}{ls:List Bool}{ra:List AK}{se go:List A3}(sm:J8 ks ls ra se go):
  s6 ((ti,ks,ls,ra,se,go,()),0,())=I (if HF se then .inr ((ti,ks,ls,ra,se,go,()),()) else .inl (A0,())):=
 D4 (λi=>((ti,ks,ls,ra,se,go,()),(i:Int),())) se.length (λi=>Aw<|nA se i) (A0,()) _ (λi hi=>by
  have rl:=sm.sl;unfold fP;simp only[BK hi,AY hi,A2,DQ,Wv<|UN sm.s i,A6,BA hi (by omega:se.length<=9223372036854775807)];obtain e|e:=tf (Aw<|nA se i)<;>simp only[e]<;>rfl) (by simp[fP])
def ajj{ti:Int}{ks:List A7}{ls:List Bool}{ra:List AK}{se go:List A3}(sm:J8 ks ls ra se go):
  rz ((ti,ks,ls,ra,se,go,()),0,())=I (if HF go then .inr () else .inl (A0,())):=
 D4 (λi=>((ti,ks,ls,ra,se,go,()),(i:Int),())) go.length (λi=>Aw<|nA go i) (A0,()) _ (λi hi=>by
  have rl:=sm.gl;unfold fO;simp only[BK hi,AY hi,A2,DQ,Wv<|UN sm.g i,A6,BA hi (by omega:go.length<=9223372036854775807)];obtain e|e:=tf (Aw<|nA go i)<;>simp only[e]<;>rfl) (by simp[fO])
def Pt{ti:Int}{ks:List A7}{ls:List Bool}{ra:List AK}{se go:List A3}(sm:J8 ks ls ra se go):
  Ms ((ti,ks,ls,ra,se,go,()),())=I ((FW ti ks ls ra se go,()),()):=by
 unfold Ms FW;simp only[I0,A6];obtain e|e:=tf (inB ti 0 99999)<;>simp only[e,AB,AH,A2,A4,AS,AO];obtain e|e:=tfp ((j8 ks:Int)=4)<;>simp only[e,AW,Ad,AB,AH,A2,A4,AS,AO];obtain e|e:=tfp ((j8 ls:Int)=3)<;>simp only[e,AW,Ad,AB,AH,A2,A4,AS,AO];obtain⟨e1,e2⟩|⟨e1,e2⟩:=EQ (j8 ra:Int) 30<;>simp only[e1,e2,AW,Ad,A2,A4,AS,AO];obtain⟨e1,e2⟩|⟨e1,e2⟩:=EQ (j8 se:Int) 6<;>simp only[e1,e2,AW,Ad,A2,A4,KJ,BX,AO];obtain⟨e1,e2⟩|⟨e1,e2⟩:=EQ (j8 go:Int) 6<;>simp only[e1,e2,AW,Ad,A2,A4,KJ,BX,AO];rw[ajm sm];obtain e|e:=tf (B5 ks.length<|JS ks)<;>simp only[e,A2,A4,AS,AO,BX,GX,CU];rw[ajl sm];obtain e|e:=tf (B5 ra.length λi=>EA<|pA ra i)<;>simp only[e,A2,A4,GX,CU,BX,KJ];rw[ajk sm];obtain e|e:=tf (HF se)<;>simp only[e,A2,A4,GX,CU,BX,KJ,AS,AO];rw[ajj sm];obtain e|e:=tf (HF go)<;>simp only[e,A2,A4,GX,CU,BX,KJ]
def Bu(a t:Int):Int:=if !isN a||(!isN t||decide (a=t)) then -1 else if a<t then a+1 else a - 1
def Ye{a:Int}(h:isN a=Y):w64 (a+1)=a+1/\w64 (a - 1)=a - 1:=by
 have:=Em h;exact⟨AU J J,AU J J⟩
def uH{a t:Int}:JB (a,t,())=I ((Bu a t,()),()):=by
 unfold JB Bu;simp only[Kk,A6];obtain e|e:=tf (isN a)
 .rcases tf (isN t) with e2|e2
  .rcases tfp (a=t) with e3|e3
   .simp only[e,e2,e3,AW];rfl
   .rcases tfp (a<t) with e4|e4<;>simp only[e,e2,e3,e4,Ad,AW,AB,A4,Bk,A2,if_false,GL,(Ye e).1,(Ye e).2]
  .simp only[e,e2];rfl
 .simp only[e];rfl
def fS{a t:Int}:Pm (a,t,())=I ((Bu a t,()),()):=by
 unfold Pm Bu;simp only[Jq,A6];obtain e|e:=tf (isN a)
 .rcases tf (isN t) with e2|e2
  .rcases tfp (a=t) with e3|e3
   .simp only[e,e2,e3,AW];rfl
   .rcases tfp (a<t) with e4|e4<;>simp only[e,e2,e3,e4,Ad,AW,AB,A4,Bk,A2,if_false,GL,(Ye e).1,(Ye e).2]
  .simp only[e,e2];rfl
 .simp only[e];rfl
def at1{a t:Int}(ha:isN a=Y)(ht:isN t=Y)(hne:a≠t):isN (Bu a t)=Y:=by
 have:=Em ha;have:=Em ht;have e3:U (a=t)=A0:=by simpa using hne
 unfold Bu;simp only[ha,ht,e3,AB,GL,A4];rw[Aa];split<;>omega
def stT(k:A7):AL:=(DF k.id k.log).getD zK
def Sr(l:List A7)(i:Int): @rd A7 aG8 l i=kA l i.toNat:=rfl
structure azZ (k:A7):Prop where
 id:isN k.id=Y
 sh:DP k.log k.fo=Y
 hl:k.AG.length<=3
 up:k.up=Y\/k.AG.length=0
 st:DF k.id k.log=I (stT k)
 ok:Au (stT k)=Y
 sid:(stT k).id=k.id
 fo:(DF k.id<|k.log.extract 0 k.fo.toNat).isSome=Y
 hv:∀i,i<k.AG.length->Fe k.AG i=Y
def E7{k:A7}(h:Ae k=Y):azZ k:=by
 unfold Ae at h;simp only[AE,C8,decide_eq_true_eq,Cq]at h;obtain⟨a,b,c,d,⟨e,f⟩,g⟩:=h;have hs:DF k.id k.log=I (stT k):=by
  unfold stT;cases hh:DF k.id k.log with
  | none=>rw[hh]at e;cases e
  | some o=>rfl
 exact⟨a,b,J,d,hs,T5 hs,lT hs,f,g⟩
structure Ra (ti:Int) (ks:List A7) (ls:List Bool) (ra:List AK) (se go:List A3):Prop where
 t0:0<=ti
 t1:ti<=99999
 kl:ks.length=4
 ll:ls.length=3
 rl:ra.length<=30
 s:HF se=Y
 sl:se.length<=6
 g:HF go=Y
 gl:go.length<=6
 k:∀i,i<4->(kA ks i).id=(i:Int)/\Ae (kA ks i)=Y
 r:∀i,i<ra.length->EA (pA ra i)=Y
def lI{k:AL}{n:A3}(h:Au k=Y)(hn:n∈k.held):isN (Bu k.id n.to)=Y:=by
 have hf:=C2 h;obtain⟨i,hi,rfl⟩:=Cz hn;have h1:=Gx hf.h hi;rw[DT<|Av hi]at h1;have h2:=Ie h1;have h3:=hf.ho i hi;unfold H4 Ed at h3;rw[DT<|Av hi]at h3;simp only[AE,CM,decide_eq_false_iff_not]at h3;exact at1 (Aa.2 ⟨hf.id0,hf.id1⟩) (Aa.2 ⟨h2.t0,h2.t1⟩) h3.2.2.1.1
section
variable {ti:Int} {ks:List A7} {ls:List Bool} {ra:List AK} {se go:List A3}
def HU{l:List A3}{j:Nat}(h:j<l.length):nA l j∈l:=by
 rw[DT<|Av h];exact Ci h
end
end Go.VS
namespace Go.VS
open Go
def T8{a b c d e f:Int}(h:bef a b c d=Y)(k:bef c d e f=Y):bef a b e f=Y:=by
 unfold bef at *;simp only[C8,AE,decide_eq_true_eq]at *;omega
def Ou{a b:Int}:bef a b a b=A0:=by
 unfold bef;simp
def Sa{l:List A3}(h:DR l=Y):∀(j i:Nat),i<j->j<l.length->bef (nA l i).fr (nA l i).nu (nA l j).fr (nA l j).nu=Y
 | j+1,i,hij,hj=>by
  have h1:=Cq.1 h (j+1) hj;simp only[AE,C8,decide_eq_true_eq]at h1;have h2:bef (nA l j).fr (nA l j).nu (nA l<|j+1).fr (nA l<|j+1).nu=Y:=h1.2.resolve_left J;obtain h3|h3:=GM i j
  .exact T8 (Sa h j i h3 J) h2
  .rwa[show i=j by omega]
def stD(k:A7):AL:=(DF k.id<|k.log.extract 0 k.fo.toNat).getD zK
def CY(r:A1):A1:=((BM (r.size:Int)++B [58])++r)++B [59]
def nT(r:A1):L (CY r)=dcm r.size++58::(L r++[59]):=by
 unfold CY;rw[aFy];simp only[GG,L_B,oy,C7,LH,EV]
def XW(r:A1):(CY r).size=(dcm r.size).length+2+r.size:=by
 rw[← Ax,nT];simp only[Am,Bm,CL,Ax];omega
def cat(rs:List A1):List UInt8:=rs.flatMap λr=>L<|CY r
def Jv:cat []=[]:=rfl
def I1(r:A1)(rs:List A1):cat (r::rs)=L (CY r)++cat rs:=rfl
def Ks(rs ts:List A1):cat (rs++ts)=cat rs++cat ts:=mb
def I5(rs:List A1):Prop:=∀r∈rs,1<=r.size/\r.size<=60
def ayA(b:UInt8)(h:dig b=Y):b≠58:=by
 rintro rfl;revert h;decide
def aa2{n:Nat}(h:n<=60):(dcm n).length<=2:=Ly 2 n J J
def aa3(n:Nat):1<=(dcm n).length:=by
 have:=oR n;cases h:dcm n with
 | nil=>exact absurd h this
 | cons b l=>simp
def aaU{l m:List UInt8}{b:UInt8}{i:Nat}(h:i=l.length):(l++b::m).getD i 0=b:=by
 subst h;simp
def Ym{s r:A1}{t:List UInt8}(h:L s=L (CY r)++t)(h1:1<=r.size)(h2:r.size<=60):Di s=I (r,(CY r).size):=by
 rw[nT]at h;have hs:s.size=(dcm r.size).length+2+r.size+t.length:=by
  rw[← Ax,h];simp only[Am,Bm,CL,Ax];omega
 have hd:=aa2 h2;have hp:=aa3 r.size;generalize hc:(dcm r.size).length=c at *;have hL:L s=dcm r.size++58::(L r++59::t):=by rw[h];simp
 have amz:UP s=(c:Int):=by
  refine aGO J ?_ (λj hj=> ?_)
  .rw[decide_eq_true_eq,K4,hL,aaU hc.symm];rfl
  .rw[decide_eq_false_iff_not,K4,hL];have hlt:j<(dcm r.size).length:=J
   have hm:(dcm r.size++58::(L r++59::t)).getD j 0∈dcm r.size:=aaT hlt;have hdg:=Zd (r.size+1) r.size J _ hm;have hne:=ayA _ hdg;generalize (dcm r.size++58::(L r++59::t)).getD j 0=b at *;intro e;apply hne;have e:b.toNat=58:=J
   exact Ql.1 e
 have he:L (s.extract 0 c)=dcm r.size:=by
  rw[E9,hL];simp[← hc]
 have hn:Ac (s.extract 0 c)=(r.size:Int):=nK (by rw[← Ax,he];omega) he;have h59:bt s ((c+1+r.size:Nat):Int)=59:=by
  have e:(L s).getD (c+1+r.size) 0=59:=by
   have:dcm r.size++58::(L r++59::t)=(dcm r.size++58::L r)++59::t:=by simp
   rw[hL,this];exact aaU (by simp[hc];omega)
  rw[K4,e];rfl
 have hx:s.extract (c+1) (c+1+r.size)=r:=by
  refine Fu ?_;rw[E9,hL];have:(dcm r.size++58::(L r++59::t)).drop (c+1)=L r++59::t:=by
   have e:dcm r.size++58::(L r++59::t)=(dcm r.size++[58])++(L r++59::t):=by simp
   rw[e,Qm<|by simp[hc]]
  rw[this,show c+1+r.size - (c+1)=(L r).length by rw[Ax];omega,P4 rfl]
 unfold Di;rw[amz];simp only[Bc,hn];rw[A9 J,A9 J,A9 J,A9 J,h59];simp only[AW,AB,A4,hx];rw[XW,hc]
def awZ{s r:A1}{n:Nat}(h:Di s=I (r,n)):1<=r.size/\r.size<=60/\n=(CY r).size/\ ∃t,L s=L (CY r)++t:=by
 have hsm:=Sy h;unfold Di at h;split at h
 .cases h
 rename_i hc0;obtain⟨h1,_⟩|⟨c,h1,h2,h3,h4,_⟩:=XZ s
 .omega
 rw[h1]at h;simp only[Bc]at h;split at h
 .cases h
 rename_i hn1;split at h
 .cases h
 rename_i hn2;split at h
 .cases h
 rename_i hn3;split at h
 .cases h
 rename_i hn4;cases h;have hz:(s.extract 0 c).size=c:=by rw[G8 J];omega
 obtain⟨h9,_⟩|⟨k,h9,h10,h11⟩:=Sd (s.extract 0 c)
 .omega
 simp only[h9,Bc]at hn1 hn2 hn3 hn4 hsm ⊢;have hrs:(s.extract (c+1)<|c+1+k).size=k:=by rw[G8 J];omega
 have h5:bt s ((c+1+k:Nat):Int)=59:=by
  cases hd:U (bt s ((c+1+k:Nat):Int)=59) with
  | true=>simpa using hd
  | false=>rw[hd]at hn4;exact absurd rfl hn4
 have g1:(L s).getD c 0=58:=by
  rw[K4]at h4;exact Ql.1 (by have:(58:UInt8).toNat=58:=rfl;omega)
 have g2:(L s).getD (c+1+k) 0=59:=by
  rw[K4]at h5;exact Ql.1 (by have:(59:UInt8).toNat=59:=rfl;omega)
 have hlen:(L s).length=s.size:=Ax s;have t1:(L s).take c=dcm k:=by
  rw[← h11,E9];simp
 have hcl:(dcm k).length=c:=by rw[← t1,DW];omega
 have hsp:L s=dcm k++58::((L<|s.extract (c+1)<|c+1+k)++59::(L s).drop (c+1+k+1)):=by
  conv=>lhs;rw[← JZ c<|L s,t1]
  congr 1;rw[Tt J];congr 1
  .rw[← g1,BG,Av J];rfl
  .rw[E9]
   conv=>lhs;rw[← JZ k<|(L s).drop<|c+1]
   rw[show c+1+k - (c+1)=k by omega];congr 1;rw[J5,Tt J];congr 1;rw[← g2,BG,Av J];rfl
 refine⟨J,J, ?_,(L s).drop<|c+1+k+1, ?_⟩
 .rw[XW,hrs,hcl]
 .rw[nT,hrs]
  conv=>lhs;rw[hsp]
  simp
def Xr(r:A1):3<=(CY r).size:=by
 rw[XW];have:=aa3 r.size;omega
def aFC{log:A1}:∀(rs:List A1) (f:Nat) (out:List A1) (at_:Nat),I5 rs->(L log).drop at_=cat rs->at_<=log.size->log.size<at_+f->Eo log f out at_=(out++rs,log.size)
 | [],0,out,at_,_,_,h3,h4=>J
 | [],f+1,out,at_,_,h2,h3,h4=>by
  have:log.size<=at_:=by
   have e:=congrArg Jd h2;rw[E4,Ax,Jv]at e;simp at e;omega
  unfold Eo;rw[A9 J,CE];rw[show at_=log.size by omega]
 | r::rs,0,out,at_,_,_,h3,h4=>J
 | r::rs,f+1,out,at_,h1,h2,h3,h4=>by
  have hr:=h1 r Ao;rw[I1]at h2;have hlen:log.size - at_=(CY r).size+(cat rs).length:=by
   have e:=congrArg Jd h2;rwa[E4,Ax,Am,Ax]at e
  have hp:=Xr r;have DD:Di (log.extract at_ log.size)=I (r,(CY r).size):=by
   refine Ym (t:=cat rs) ?_ hr.1 hr.2;rw[E9,h2];refine J2 ?_;rw[Am,Ax];omega
  unfold Eo;rw[A5 J,DD];simp only;have:=aFC (log:=log) rs f (out++[r]) (at_+(CY r).size) (λx hx=>h1 x<|Ah _ hx) (by
   rw[← J5,h2,Qm<|by rw[Ax]]) J J
  rw[this];simp
def YI{log:A1}{rs:List A1}(h1:I5 rs)(h2:L log=cat rs):D6 log=(rs,log.size):=by
 have:=aFC (log:=log) rs (log.size+1) [] 0 h1 (by simpa using h2) (Ch _) J;exact this
def lh{log:A1}:∀(f:Nat) (out:List A1) (at_:Nat),at_<=log.size->∃rs,(Eo log f out at_).1=out++rs/\I5 rs/\ ∃t,(L log).drop at_=cat rs++t/\(Eo log f out at_).2=at_+(cat rs).length
 | 0,out,at_,_=>⟨[],by simp[Eo],(λr hr=>nomatch hr),(L log).drop at_,rfl,rfl⟩
 | f+1,out,at_,h=>by
  unfold Eo;split
  .rename_i hlt;cases DD:Di (log.extract at_ log.size) with
   | none=>exact⟨[],by simp,(λr hr=>nomatch hr),(L log).drop at_,rfl,rfl⟩
   | some p=>
    obtain⟨r,n⟩:=p;obtain⟨k1,k2,k3,t,k4⟩:=awZ DD;have hsm:=Sy DD;rw[G8<|Ar _]at hsm;simp only at hsm ⊢;obtain⟨rs,g1,g2,t',g3,g4⟩:=lh (log:=log) f (out++[r]) (at_+n) J;have e:L (log.extract at_ log.size)=(L log).drop at_:=by
     rw[E9];exact J2 (by rw[E4,Ax];omega)
    rw[e]at k4;have ht:t=cat rs++t':=by
     rw[← g3,← J5,k4,k3,Qm<|by rw[Ax]]
    refine⟨r::rs,by rw[g1];simp,λx hx=> ?_,t',by rw[k4,ht,I1,C7], ?_⟩
    .rcases Bj.1 hx with rfl|hx
     .exact⟨k1,k2⟩
     .exact g2 x hx
    .rw[g4,I1,Am,Ax,k3];omega
  .exact⟨[],by simp,(λr hr=>nomatch hr),(L log).drop at_,rfl,rfl⟩
def l8(log:A1):I5 (D6 log).1/\(D6 log).2=(cat (D6 log).1).length/\ ∃t,L log=cat (D6 log).1++t:=by
 obtain⟨rs,g1,g2,t,g3,g4⟩:=lh (log:=log) (log.size+1) [] 0<|Ch _;have e:(D6 log).1=rs:=by
  show(Eo log (log.size+1) [] 0).1=rs;simpa using g1
 rw[e];refine⟨g2, ?_,t,by simpa using g3⟩;show(Eo log (log.size+1) [] 0).2=_;rw[g4,DM]
def nr:∀(rs ts:List A1) (t:List UInt8),I5 rs->I5 ts->cat rs=cat ts++t->∃us,rs=ts++us
 | rs,[],t,_,_,_=>⟨rs,rfl⟩
 | [],s::ts,t,_,_,h=>by
  have e:=congrArg Jd h;rw[I1,Jv]at e;have:=Xr s;simp only[CL,Am,Ax]at e;omega
 | r::rs,s::ts,t,h1,h2,h=>by
  rw[I1,I1,C7]at h;have hr:=h1 r Ao;have hs:=h2 s Ao;have o1:=Ym (s:=B<|L (CY r)++cat rs) (r:=r) (t:=cat rs) (L_B _) hr.1 hr.2;have o2:=Ym (s:=B<|L (CY r)++cat rs) (r:=s) (t:=cat ts++t) (by rw[L_B,h]) hs.1 hs.2;rw[o1]at o2;simp only[Bv,CS]at o2;obtain⟨rfl,_⟩:=o2;obtain⟨us,hu⟩:=nr rs ts t (λx hx=>h1 x<|Ah _ hx) (λx hx=>h2 x<|Ah _ hx)<|aD7 h;exact⟨us,by rw[hu];rfl⟩
def aEM{lg:A1}{fo:Int}:DP lg fo=Y↔lg.size<=2400/\ ∃rs ts,I5 (rs++ts)/\L lg=cat (rs++ts)/\fo=((cat rs).length:Int):=by
 unfold DP;simp only[AE,decide_eq_true_eq];constructor
 .rintro⟨h1,h2,h3,h4⟩;have h2:=Aa.1 h2;obtain⟨a1,a2,t,a3⟩:=l8 lg;obtain⟨b1,b2,t',b3⟩:=l8<|lg.extract 0 fo.toNat;have ht:t=[]:=by
   have e:=congrArg Jd a3;rw[Ax,Am]at e;exact Df J
  rw[ht,CE]at a3;have hz:(lg.extract 0 fo.toNat).size=fo.toNat:=by rw[G8 J];omega
  have ht':t'=[]:=by
   have e:=congrArg Jd b3;rw[Ax,Am,hz]at e;exact Df J
  rw[ht',CE]at b3;have hp:cat (D6 lg).1=cat (D6<|lg.extract 0 fo.toNat).1++(L lg).drop fo.toNat:=by
   rw[← a3,← b3,E9,Je,Iy,JZ]
  obtain⟨us,hu⟩:=nr _ _ _ a1 b1 hp;refine⟨h1,(D6<|lg.extract 0 fo.toNat).1,us,by rw[← hu];exact a1,by rw[← hu];exact a3, ?_⟩;rw[← b2];exact h4.symm
 .rintro⟨h1,rs,ts,h2,h3,rfl⟩;have hsz:lg.size=(cat rs).length+(cat ts).length:=by rw[← Ax,h3,Ks,Am]
  have hrs:I5 rs:=λr hr=>h2 r<|Bz _ hr;have he:L (lg.extract 0 (cat rs).length)=cat rs:=by
   rw[E9,h3,Ks,Je,Iy,P4 rfl]
  have e1:=YI h2 h3;have e2:=YI hrs he;refine⟨h1,Aa.2 ⟨J,J⟩,by rw[e1], ?_⟩;rw[Bc,e2];simp only;rw[← Ax,he]
def Dj(k:AL):Prop:=∀n∈k.held,∀m∈k.inbox,¬(n.fr=m.fr/\n.nu=m.nu)
def TM{l:List A3}{f n:Int}(h:AZ l f n<0):∀x∈l,¬(x.fr=f/\x.nu=n):=by
 intro x hx hc;obtain⟨_,h2⟩|⟨i,h1,_⟩:=G6 l.length (λi=>U ((nA l i).fr=f)&&U ((nA l i).nu=n))
 .obtain⟨j,hj,rfl⟩:=Cz hx;have:=h2 j hj;rw[DT<|Av hj]at this;simp[hc.1,hc.2]at this
 .unfold AZ at h;omega
def YN{l:List A3}{f n:Int}(h:∀x∈l,¬(x.fr=f/\x.nu=n)):AZ l f n= -1:=by
 obtain h1|h1:=aCf l f n
 .exact h1
 .obtain⟨h2,_,h3,h4⟩:=FE h1;exact absurd ⟨h3,h4⟩<|h _<|HU h2
def ly{l:List Mark}{f n:Int}(h:Bt l f n<0):∀x∈l,¬(x.mf=f/\x.mn=n):=by
 intro x hx hc;obtain⟨_,h2⟩|⟨i,h1,_⟩:=G6 l.length (λi=>U ((mA l i).mf=f)&&U ((mA l i).mn=n))
 .obtain⟨j,hj,rfl⟩:=Cz hx;have:=h2 j hj;rw[Fa<|Av hj]at this;simp[hc.1,hc.2]at this
 .unfold Bt at h;omega
def aE{l:List Mark}{j:Nat}(h:j<l.length):mA l j∈l:=by
 rw[Fa<|Av h];exact Ci h
def lQ{l:List Mark}{f n:Int}(h:∀x∈l,¬(x.mf=f/\x.mn=n)):Bt l f n= -1:=by
 obtain⟨h1,_⟩|⟨i,_,h2,h3,_⟩:=G6 l.length (λi=>U ((mA l i).mf=f)&&U ((mA l i).mn=n))
 .exact h1
 .simp only[AE,decide_eq_true_eq]at h3;exact absurd h3<|h _<|aE h2
def aaE{k o:AL}{n:A3}(h:Ex k n=I o)(hd:Dj k):Dj o:=by
 unfold Ex at h;split at h
 .cases h
 split at h
 .cases h
 split at h
 .cases h
 rename_i h1;split at h
 .cases h
 rename_i h2;split at h
 .cases h
 split at h
 .cases h
 have a1:=TM (l:=k.held) (f:=n.fr) (n:=n.nu) (by simpa using h1);have a2:=TM (l:=k.inbox) (f:=n.fr) (n:=n.nu) (by simpa using h2);split at h<;>cases h
 .intro x hx m hm;obtain rfl|hm:=GY _ hm
  .exact a1 x hx
  .exact hd x hx m hm
 .intro x hx m hm;obtain rfl|hx:=GY _ hx
  .exact λhc=>a2 m hm ⟨hc.1.symm,hc.2.symm⟩
  .exact hd x hx m hm
def OP{l:List A3}{i:Nat}{x:A3}(h:x∈ER l i):x∈l:=by
 unfold ER at h;obtain h|h:=BN.1 h
 .exact HI h
 .exact Iz h
def awf{k o:AL}{w:A1}{n:Int}(h:IC k w n=I o)(hd:Dj k):Dj o:=by
 unfold IC at h;split at h
 .cases h;intro x hx m hm;exact hd x (F8.1 hx).1 m hm
 split at h
 .cases h;exact hd
 .cases h
def as9{k o:AL}{w:A1}{n:A3}(h:GZ k w n=I o)(hd:Dj k):Dj o:=by
 unfold GZ at h;split at h
 .exact aaE h hd
 split at h
 .exact aaE h hd
 split at h
 .cases h
 rename_i hn;simp only[C8,decide_eq_true_eq,not_or]at hn;have a1:=TM (l:=k.held) (f:=n.fr) (n:=n.nu) J;have a2:=TM (l:=k.inbox) (f:=n.fr) (n:=n.nu) J;split at h
 .cases h;intro x hx m hm;obtain rfl|hx:=GY _ hx
  .exact λhc=>a2 m hm ⟨hc.1.symm,hc.2.symm⟩
  .exact hd x hx m hm
 split at h
 .cases h;intro x hx m hm;obtain rfl|hm:=GY _ hm
  .exact a1 x hx
  .exact hd x hx m hm
 .cases h
def asC{k o:AL}{w:A1}{m:Mark}(h:F6 k w m=I o)(hd:Dj k):Dj o:=by
 unfold F6 at h;split at h
 .cases h;exact λx hx m hm=>hd x (OP hx) m hm
 split at h
 .cases h;exact λx hx m hm=>hd x hx m<|OP hm
 split at h
 .cases h;exact hd
 .cases h
def av0{k o:AL}{w r:A1}(h:Bh k w r=I o)(hd:Dj k):Dj o:=by
 unfold Bh at h;split at h
 .split at h
  .exact awf h hd
  .cases h
 split at h
 .split at h
  .exact as9 h hd
  .cases h
 split at h
 .split at h
  .exact asC h hd
  .cases h
 .cases h
def IZ{k o:AL}{r:A1}(hk:Au k=Y):BO k r=I o↔GB k r=I o/\Au o=Y:=by
 unfold BO FJ;simp only[hk,A2];constructor
 .intro h;cases hf:(GB k r).filter Au with
  | none=>rw[hf]at h;cases h
  | some o'=>
   rw[hf]at h;cases h;exact Ja.1 hf
 .intro h;rw[Ja.2 h];rfl
def avq{k o:AL}{r:A1}(hk:Au k=Y)(h:BO k r=I o)(hd:Dj k):Dj o:=by
 have h1:=((IZ hk).1 h).1;unfold GB at h1;split at h1
 .cases h1
 .exact av0 h1 hd
def aCq:∀ {rs:List A1} {k o:AL},Au k=Y->Dj k->El k rs=I o->Dj o
 | [],k,o,_,hd,h=>by cases h;exact hd
 | r::rs,k,o,hk,hd,h=>by
  unfold El at h;rw[Ts]at h;cases hs:BO k r with
  | none=>rw[hs]at h;cases h
  | some k'=>rw[hs]at h;exact aCq (rs:=rs) (TF hs) (avq hk hs hd) h
def aE3{id:Int}{rs:List A1}{o:AL}(h:Cd id rs=I o):Dj o:=by
 unfold Cd at h;split at h
 .exact aCq (SZ<|by assumption) (λn hn=>by cases hn) h
 .cases h
def Mo(k:AL)(rs ts:List A1):El k (rs++ts)=(El k rs).bind λo=>El o ts:=List.foldlM_append
def Sb(k:AL)(r:A1):El k [r]=BO k r:=by
 unfold El;rw[Ts];cases BO k r<;>rfl
def FX(t:Int):A1:=B [116,105,109,101,32]++BM t
def L3(n:Int):A1:=B [110,101,120,116,32]++BM n
def Cc(w:A1)(a b c:Int):A1:=((((((w++B [32])++BM a)++B [32])++BM b)++B [32])++BM c)
def M3(n:A3):A1:=B [104,101,108,100,32]++wr n
def N3(n:A3):A1:=B [105,110,98,111,120,32]++wr n
def CG(k:AL):List A1:=
 ((((if 0<k.ti then [FX k.ti] else [])++(if 1<k.nx then [L3 k.nx] else []))++k.marks.map λm=>Cc D5 m.mf m.mn m.mu)++k.held.map M3)++k.inbox.map N3
def Ij{k:AL}{rec:A1}{w r:List UInt8}(hw:Cn w)(e:L rec=w++32::r):GB k rec=Bh k (B w) (B r):=by
 unfold GB;rw[e,Ta hw,LB hw e];rfl
def kX{k:AL}{t:Int}(h0:0<=t)(h1:t<100000)(h:k.ti<t):Bh k Ec (B<|B6 t)=I ⟨k.id,t,k.nx,H8 t k.held,K7 t k.marks,k.inbox⟩:=by
 unfold Bh IC;simp only[JE h0 h1,Bw,A2,AS,h,AW]
def aro{k:AL}{n:Int}(h0:0<=n)(h1:n<100000)(h:k.nx<n):Bh k Er (B<|B6 n)=I ⟨k.id,k.ti,n,k.held,k.marks,k.inbox⟩:=by
 unfold Bh IC;simp[aA6,JE h0 h1,DU,A2,AO,AS,h,AW,A4]
def arp{k:AL}{m:Mark}{r:A1}(ht:Gz r=I m)(h:Bt k.marks m.mf m.mn<0):Bh k D5 r=I ⟨k.id,k.ti,k.nx,k.held,ED k.marks m,k.inbox⟩:=by
 have e:U (0<=Bt k.marks m.mf m.mn)=A0:=by simp;omega
 unfold Bh F6;simp[iU,iW,jF,iV,iX,uE,jG,jH,GL,Bn,DU,A2,A4,ht,AO,AS,e,AH]
def arq{k:AL}{n:A3}(hn:Aw n=Y)(h1:AZ k.held n.fr n.nu<0)(h2:AZ k.inbox n.fr n.nu<0):Bh k EO (wr n)=I ⟨k.id,k.ti,k.nx,Dt k.held n,k.marks,k.inbox⟩:=by
 have e1:U (0<=AZ k.held n.fr n.nu)=A0:=by simp;omega
 have e2:U (0<=AZ k.inbox n.fr n.nu)=A0:=by simp;omega
 unfold Bh GZ;simp[aA8,aAA,aB1,aA9,GL,Bn,Bw,A2,A4,Q6 hn,AO,e1,e2]
def aqw{k:AL}{n:A3}(hn:Aw n=Y)(h1:AZ k.held n.fr n.nu<0)(h2:AZ k.inbox n.fr n.nu<0):Bh k Ea (wr n)=I ⟨k.id,k.ti,k.nx,k.held,k.marks,Dt k.inbox n⟩:=by
 have e1:U (0<=AZ k.held n.fr n.nu)=A0:=by simp;omega
 have e2:U (0<=AZ k.inbox n.fr n.nu)=A0:=by simp;omega
 unfold Bh GZ;simp[yX,yZ,aA7,yY,ya,GL,Bn,DU,A2,A4,Q6 hn,AO,e1,e2]
def ko:Cn [116,105,109,101]:=by unfold Cn;decide
def asy:Cn [110,101,120,116]:=by unfold Cn;decide
def asz:Cn [109,97,114,107]:=by unfold Cn;decide
def at0:Cn [104,101,108,100]:=by unfold Cn;decide
def arT:Cn [105,110,98,111,120]:=by unfold Cn;decide
def YC(t:Int):L (FX t)=[116,105,109,101]++32::B6 t:=by unfold FX;simp only[GG,L_B,UG];rfl
def aEq(t:Int):L (L3 t)=[110,101,120,116]++32::B6 t:=by unfold L3;simp only[GG,L_B,UG];rfl
def TA(w:A1)(a b c:Int):L (Cc w a b c)=L w++32::(B6 a++32::(B6 b++32::B6 c)):=by
 unfold Cc;simp only[GG,L_B,UG,C7,LH,EV]
def aEr(n:A3):L (M3 n)=[104,101,108,100]++32::L (wr n):=by unfold M3;simp only[GG,L_B];rfl
def aDe(n:A3):L (N3 n)=[105,110,98,111,120]++32::L (wr n):=by unfold N3;simp only[GG,L_B];rfl
def OK{k:AL}(h:Ei k):Au k=Y:=by
 have a:=h.hl;have b:=h.ml;have c:=h.il;unfold Au;simp only[AE,Aa,decide_eq_true_eq,Cq];exact⟨⟨h.id0,h.id1⟩,⟨h.t0,h.t1⟩,⟨h.n0,h.n1⟩,⟨J,h.h⟩,⟨J,h.m⟩,⟨J,h.i⟩,h.ho,h.mo,h.io⟩
def ZW{l:List A3}{a i:Nat}(h:i<a):nA (l.take a) i=nA l i:=by
 unfold nA;simp[BG,h]
def nX{l:List Mark}{a i:Nat}(h:i<a):mA (l.take a) i=mA l i:=by
 unfold mA;simp[BG,h]
def aBq{l:List A3}(h:DR l=Y)(a:Nat):DR (l.take a)=Y:=by
 refine Cq.2 λi hi=> ?_;rw[DW]at hi;have:=Cq.1 h i J;rw[ZW J,ZW J];exact this
def aqK{l:List Mark}(h:FF l=Y)(a:Nat):FF (l.take a)=Y:=by
 refine Cq.2 λi hi=> ?_;rw[DW]at hi;have:=Cq.1 h i J;rw[nX J,nX J];exact this
def aCM{l:List Mark}(h:FF l=Y):∀(j i:Nat),i<j->j<l.length->bef (mA l i).mf (mA l i).mn (mA l j).mf (mA l j).mn=Y
 | j+1,i,hij,hj=>by
  have h1:=Cq.1 h (j+1) hj;simp only[AE,C8,decide_eq_true_eq]at h1;have h2:bef (mA l j).mf (mA l j).mn (mA l<|j+1).mf (mA l<|j+1).mn=Y:=h1.2.resolve_left J;obtain h3|h3:=GM i j
  .exact T8 (aCM h j i h3 J) h2
  .rwa[show i=j by omega]
def QM{k:AL}(hf:Ei k)(a b c:Nat)(hc:c=0\/k.marks.length<=b):Ei ⟨k.id,k.ti,k.nx,k.held.take a,k.marks.take b,k.inbox.take c⟩:=by
 have hl:=hf.hl;have ml:=hf.ml;have il:=hf.il;refine⟨hf.id0,hf.id1,hf.t0,hf.t1,hf.n0,hf.n1,by simp;omega,aBq hf.h a,by simp;omega,aqK hf.m b,by simp;omega,aBq hf.i c,λi hi=> ?_,λi hi=> ?_,λi hi=> ?_⟩
 .simp only[DW]at hi;have:=hf.ho i J;unfold H4 at this ⊢;simp only[AE,decide_eq_true_eq]at this ⊢;rw[ZW J];refine⟨this.1,this.2.1,this.2.2.1, ?_⟩;rw[lQ λx hx=>ly this.2.2.2 x<|HI hx];omega
 .simp only[DW]at hi;have:=hf.mo i J;unfold JH at this ⊢;rw[nX J];exact this
 .simp only[DW]at hi;obtain hc|hc:=hc
  .omega
  .have:=hf.io i J;simp only;rw[J2 hc];unfold Ii at this ⊢;rw[ZW J];exact this
def o5{α:Type}{f:α->Bool}{l:List α}{n:α}(h:∀x∈l,f x=Y):ins f l n=l++[n]:=by
 unfold ins;have h1:l.takeWhile f=l:=by
  induction l with
  | nil=>rfl
  | cons x l ih=>rw[Qr,h x Ao];simp only[A2];rw[ih λy hy=>h y<|Ah _ hy]
 have h2:l.dropWhile f=[]:=by
  induction l with
  | nil=>rfl
  | cons x l ih=>rw[mP,h x Ao];simp only[A2];exact ih (λy hy=>h y<|Ah _ hy) (by
    have:=h1;rw[Qr,h x Ao]at this;simpa using this)
 rw[h1,h2]
def My{α:Type}{l:List α}{j:Nat}(h:j<l.length):l.take (j+1)=l.take j++[l[j]]:=by
 rw[JW,Av h];rfl
def xy{k:AL}(hk:Au k=Y)(hd:Dj k):Cd k.id (CG k)=I k:=by
 have hf:=C2 hk;have hid:isN k.id=Y:=Aa.2 ⟨hf.id0,hf.id1⟩;have t0:=hf.t0;have t1:=hf.t1;have n0:=hf.n0;have n1:=hf.n1;have kT:Au ⟨k.id,k.ti,1,[],[],[]⟩=Y:=by
  refine OK ⟨hf.id0,hf.id1,t0,t1,(by decide:(1:Int)<=1),(by decide:(1:Int)<=100),by simp,rfl,by simp,rfl,by simp,rfl,λi hi=>by simp at hi,λi hi=>by simp at hi,λi hi=>by simp at hi⟩
 have kN:Au ⟨k.id,k.ti,k.nx,[],[],[]⟩=Y:=by
  refine OK ⟨hf.id0,hf.id1,t0,t1,n0,n1,by simp,rfl,by simp,rfl,by simp,rfl,λi hi=>by simp at hi,λi hi=>by simp at hi,λi hi=>by simp at hi⟩
 have s1:El ⟨k.id,0,1,[],[],[]⟩ (if 0<k.ti then [FX k.ti] else [])=I ⟨k.id,k.ti,1,[],[],[]⟩:=by
  by_cases h:0<k.ti
  .rw[A5 h,Sb,(IZ<|SZ hid).2 ⟨?_,kT⟩];rw[Ij ko<|YC _];exact kX t0 J h
  .rw[A9 h,show k.ti=0 by omega];rfl
 have s2:El ⟨k.id,k.ti,1,[],[],[]⟩ (if 1<k.nx then [L3 k.nx] else [])=I ⟨k.id,k.ti,k.nx,[],[],[]⟩:=by
  by_cases h:1<k.nx
  .rw[A5 h,Sb,(IZ kT).2 ⟨?_,kN⟩];rw[Ij asy<|aEq _];exact aro J J h
  .rw[A9 h,show k.nx=1 by omega];rfl
 have s3:∀j,j<=k.marks.length->El ⟨k.id,k.ti,k.nx,[],[],[]⟩ ((k.marks.take j).map λm=>Cc D5 m.mf m.mn m.mu)=I ⟨k.id,k.ti,k.nx,[],k.marks.take j,[]⟩:=by
  intro j
  induction j with
  | zero=>intro _;rfl
  | succ j ih=>
   intro hj;have hjl:j<k.marks.length:=J
   have hm:=Su hf.m hjl;rw[Fa<|Av hjl]at hm;have hr:=Oa hm;have g1:=OK<|QM hf 0 j 0<|.inl rfl;have g2:=OK<|QM hf 0 (j+1) 0<|.inl rfl;have g3:Au ⟨k.id,k.ti,k.nx,[],k.marks.take j++[k.marks[j]'hjl],[]⟩=Y:=by
    rw[← My hjl];simpa using g2
   have No:∀x∈k.marks.take j,bef x.mf x.mn k.marks[j].mf k.marks[j].mn=Y:=λx hx=>by
    obtain⟨i,hi,rfl⟩:=Cz hx;rw[DW]at hi;have:=aCM hf.m j i J hjl;rw[Fa<|Av hjl,Fa<|Av (by omega:i<k.marks.length)]at this;simpa using this
   rw[My hjl,Eg,Mo,ih J];simp only[A6,DV,IK];rw[Sb,(IZ<|by simpa using g1).2 ⟨?_,g3⟩];have h3:=ZD (r:=B<|B6 (k.marks[j]'hjl).mf++32::(B6 (k.marks[j]'hjl).mn++32::B6 (k.marks[j]'hjl).mu)) (a:=(k.marks[j]'hjl).mf) (b:=(k.marks[j]'hjl).mn) (c:=(k.marks[j]'hjl).mu) J J J J J J<|L_B _;rw[Ij asz<|TA _ _ _ _,arp h3 ?_]
   .simp only;rw[show ED (k.marks.take j) k.marks[j]=k.marks.take j++[k.marks[j]] from o5 No]
   .simp only;rw[lQ λx hx hc=>by
     have:=No x hx;rw[hc.1,hc.2,Ou]at this;cases this]
    omega
 have s4:∀j,j<=k.held.length->El ⟨k.id,k.ti,k.nx,[],k.marks,[]⟩ ((k.held.take j).map M3)=I ⟨k.id,k.ti,k.nx,k.held.take j,k.marks,[]⟩:=by
  intro j
  induction j with
  | zero=>intro _;rfl
  | succ j ih=>
   intro hj;have hjl:j<k.held.length:=J
   have hm:=Gx hf.h hjl;rw[DT<|Av hjl]at hm;have g1:=OK<|QM hf j k.marks.length 0<|.inl rfl;have g2:=OK<|QM hf (j+1) k.marks.length 0<|.inl rfl;rw[EG]at g1 g2;have g3:Au ⟨k.id,k.ti,k.nx,k.held.take j++[k.held[j]'hjl],k.marks,[]⟩=Y:=by
    rw[← My hjl];simpa using g2
   have No:∀x∈k.held.take j,bef x.fr x.nu k.held[j].fr k.held[j].nu=Y:=λx hx=>by
    obtain⟨i,hi,rfl⟩:=Cz hx;rw[DW]at hi;have:=Sa hf.h j i J hjl;rw[DT<|Av hjl,DT<|Av (by omega:i<k.held.length)]at this;simpa using this
   rw[My hjl,Eg,Mo,ih J];simp only[A6,DV,IK];rw[Sb,(IZ<|by simpa using g1).2 ⟨?_,g3⟩];rw[Ij at0<|aEr _,B_L,arq hm ?_ ?_]
   .simp only;rw[show Dt (k.held.take j) k.held[j]=k.held.take j++[k.held[j]] from o5 No]
   .simp only;rw[YN λx hx hc=>by
     have:=No x hx;rw[hc.1,hc.2,Ou]at this;cases this]
    omega
   .simp only;rw[YN λx hx=>by cases hx];omega
 have s5:∀j,j<=k.inbox.length->El ⟨k.id,k.ti,k.nx,k.held,k.marks,[]⟩ ((k.inbox.take j).map N3)=I ⟨k.id,k.ti,k.nx,k.held,k.marks,k.inbox.take j⟩:=by
  intro j
  induction j with
  | zero=>intro _;rfl
  | succ j ih=>
   intro hj;have hjl:j<k.inbox.length:=J
   have hm:=Gx hf.i hjl;rw[DT<|Av hjl]at hm;have g1:=OK<|QM hf k.held.length k.marks.length j<|.inr<|Ar _;have g2:=OK<|QM hf k.held.length k.marks.length (j+1)<|.inr<|Ar _;rw[EG,EG]at g1 g2;have g3:Au ⟨k.id,k.ti,k.nx,k.held,k.marks,k.inbox.take j++[k.inbox[j]'hjl]⟩=Y:=by
    rw[← My hjl];simpa using g2
   have No:∀x∈k.inbox.take j,bef x.fr x.nu k.inbox[j].fr k.inbox[j].nu=Y:=λx hx=>by
    obtain⟨i,hi,rfl⟩:=Cz hx;rw[DW]at hi;have:=Sa hf.i j i J hjl;rw[DT<|Av hjl,DT<|Av (by omega:i<k.inbox.length)]at this;simpa using this
   rw[My hjl,Eg,Mo,ih J];simp only[A6,DV,IK];rw[Sb,(IZ<|by simpa using g1).2 ⟨?_,g3⟩];rw[Ij arT<|aDe _,B_L,aqw hm ?_ ?_]
   .simp only;rw[show Dt (k.inbox.take j) k.inbox[j]=k.inbox.take j++[k.inbox[j]] from o5 No]
   .simp only;rw[YN λx hx=>hd x hx _<|Ci hjl];omega
   .simp only;rw[YN λx hx hc=>by
     have:=No x hx;rw[hc.1,hc.2,Ou]at this;cases this]
    omega
 have e3:=s3 k.marks.length<|Ar _;have e4:=s4 k.held.length<|Ar _;have e5:=s5 k.inbox.length<|Ar _;rw[EG]at e3 e4 e5;unfold Cd CG;rw[A5 hid,Mo,Mo,Mo,Mo,s1];simp only[A6,s2,e3,e4,e5]
structure CB (lg:A1) (fo:Int) (rs ts:List A1):Prop where
 ok:I5 (rs++ts)
 sz:lg.size<=2400
 eq:L lg=cat (rs++ts)
 fo:fo=((cat rs).length:Int)
def abY{lg:A1}{fo:Int}(h:DP lg fo=Y):∃rs ts,CB lg fo rs ts:=by
 obtain⟨h1,rs,ts,h2,h3,h4⟩:=aEM.1 h;exact⟨rs,ts,h2,h1,h3,h4⟩
def CB.pf{lg:A1}{fo:Int}{rs ts:List A1}(h:CB lg fo rs ts):DP lg fo=Y:=
 aEM.2 ⟨h.sz,rs,ts,h.ok,h.eq,h.fo⟩
def CB.read{lg:A1}{fo:Int}{rs ts:List A1}(h:CB lg fo rs ts):D6 lg=(rs++ts,lg.size):=YI h.ok h.eq
def aCI{rs ts:List A1}(h:I5 (rs++ts)):I5 rs:=λr hr=>h r<|Bz _ hr
def CB.ami{lg:A1}{fo:Int}{rs ts:List A1}(h:CB lg fo rs ts):L (lg.extract 0 fo.toNat)=cat rs:=by
 rw[E9,h.eq,h.fo,Bc,Ks,Je,Iy,P4 rfl]
def CB.azA{lg:A1}{fo:Int}{rs ts:List A1}(h:CB lg fo rs ts):(D6<|lg.extract 0 fo.toNat).1=rs:=by
 rw[YI (aCI h.ok) h.ami]
def CB.size_eq{lg:A1}{fo:Int}{rs ts:List A1}(h:CB lg fo rs ts):lg.size=(cat rs).length+(cat ts).length:=by
 rw[← Ax,h.eq,Ks,Am]
def CB.state{lg:A1}{fo:Int}{rs ts:List A1}(h:CB lg fo rs ts)(id:Int):DF id lg=Cd id (rs++ts):=by
 unfold DF;rw[h.read]
def CB.abr{lg:A1}{fo:Int}{rs ts:List A1}(h:CB lg fo rs ts)(id:Int):DF id (lg.extract 0 fo.toNat)=Cd id rs:=by
 unfold DF;rw[h.azA]
def XT(id:Int)(rs ts:List A1):Cd id (rs++ts)=(Cd id rs).bind λk=>El k ts:=by
 unfold Cd;split
 .exact Mo _ _ _
 .rfl
def aCn(id:Int)(rs:List A1)(r:A1):Cd id (rs++[r])=(Cd id rs).bind λk=>BO k r:=by
 rw[XT];congr 1;funext k;exact Sb k r
def aCN{id:Int}{rs ts:List A1}(h:(Cd id<|rs++ts).isSome=Y):(Cd id rs).isSome=Y:=by
 rw[XT]at h;cases e:Cd id rs with
 | none=>rw[e]at h;exact h
 | some k=>rfl
def CB.add{lg r:A1}{fo:Int}{rs ts:List A1}(h:CB lg fo rs ts)(h1:1<=r.size)(h2:r.size<=60)(h3:lg.size+(CY r).size<=2400):CB (lg++CY r) fo rs (ts++[r]):=by
 refine⟨?_, ?_, ?_,h.fo⟩
 .intro x hx;rw[← C7]at hx;obtain hx|hx:=BN.1 hx
  .exact h.ok x hx
  .rw[C1.1 hx];exact⟨h1,h2⟩
 .rw[← Ax,GG,Am,Ax,Ax];exact h3
 .rw[GG,h.eq,← C7,Ks (rs++ts) [r]];congr 1;rw[I1,Jv,CE]
def CB.force{lg:A1}{fo:Int}{rs ts:List A1}(h:CB lg fo rs ts):CB lg (lg.size:Int) (rs++ts) []:=by
 refine⟨by simpa using h.ok,h.sz,by simpa using h.eq, ?_⟩;rw[← Ax,h.eq]
def CB.pack{lg:A1}{rs:List A1}(h:I5 rs)(e:L lg=cat rs)(hz:lg.size<=2400):CB lg (lg.size:Int) rs []:=by
 refine⟨by simpa using h,hz,by simpa using e, ?_⟩;rw[← Ax,e]
def aFB{log:A1}:∀(qs:List A1) (f:Nat) (out:List A1) (at_:Nat) (t:List UInt8),I5 qs->(L log).drop at_=cat qs++t->at_<=log.size->log.size<at_+f->
  ∃f',Eo log f out at_=Eo log f' (out++qs) (at_+(cat qs).length)/\at_+(cat qs).length<=log.size
 | [],f,out,at_,t,_,_,h3,_=>⟨f,by simp[Jv],by simpa[Jv] using h3⟩
 | r::qs,0,out,at_,t,_,_,h3,h4=>J
 | r::qs,f+1,out,at_,t,h1,h2,h3,h4=>by
  have hr:=h1 r Ao;rw[I1,C7]at h2;have hlen:log.size - at_=(CY r).size+(cat qs++t).length:=by
   have e:=congrArg Jd h2;rwa[E4,Ax,Am,Ax]at e
  have hp:=Xr r;have DD:Di (log.extract at_ log.size)=I (r,(CY r).size):=by
   refine Ym (t:=cat qs++t) ?_ hr.1 hr.2;rw[E9,h2];refine J2 ?_;rw[Am,Ax];omega
  obtain⟨f',g1,g2⟩:=aFB (log:=log) qs f (out++[r]) (at_+(CY r).size) t (λx hx=>h1 x<|Ah _ hx) (by
   rw[← J5,h2,Qm<|by rw[Ax]]) J J
  refine⟨f', ?_, ?_⟩
  .conv=>lhs;unfold Eo
   rw[A5 J,DD];simp only;rw[g1];simp only[I1,Am,Ax,C7,LH,EV,D8]
  .simp only[I1,Am,Ax];omega
def atY{log:A1}{qs:List A1}{t:List UInt8}(h:I5 qs)(e:L log=cat qs++t):∃us,(D6 log).1=qs++us:=by
 obtain⟨f',g1,g2⟩:=aFB (log:=log) qs (log.size+1) [] 0 t h (by simpa using e) (Ch _) J;obtain⟨us,k1,_⟩:=lh (log:=log) f' ([]++qs) (0+(cat qs).length) g2;refine⟨us, ?_⟩;show(Eo log (log.size+1) [] 0).1=_;rw[g1,k1];rfl
def CB.Uo{lg:A1}{fo:Int}{rs ts:List A1}(h:CB lg fo rs ts)(n:Nat)(hn:(cat rs).length<=n):
  ∃us vs,ts=us++vs/\CB ((lg.extract 0 n).extract 0 (D6<|lg.extract 0 n).2) ((D6<|lg.extract 0 n).2:Int) (rs++us) []:=by
 obtain⟨a1,a2,t,a3⟩:=l8<|lg.extract 0 n;have e0:L (lg.extract 0 n)=(cat<|rs++ts).take n:=by rw[E9,h.eq,Je,Iy]
 have e:cat (rs++ts)=cat (D6<|lg.extract 0 n).1++(t++(cat<|rs++ts).drop n):=by
  rw[← C7,← a3,e0,JZ]
 obtain⟨vs,hv⟩:=nr _ _ _ h.ok a1 e;obtain⟨us,hu⟩:=atY (log:=lg.extract 0 n) (qs:=rs) (t:=(cat ts).take<|n - (cat rs).length) (aCI h.ok) (by
  rw[e0,Ks,List.take_append,J2 hn])
 rw[hu]at hv a1 a2 a3;rw[C7]at hv;refine⟨us,vs,aD7 hv,by simpa using a1, ?_, ?_,by rw[a2]⟩
 .have:=h.sz;rw[← Ax,E9,E9];simp only[DW,E4,Ax];omega
 .rw[E9,a3,a2,Je,Iy,P4 rfl,CE]
def Ls{x:Int}(h0:0<=x)(k:Nat)(hk:1<=k)(h:x<(10 ^ k:Nat)):(B6 x).length<=k:=by
 obtain⟨u,rfl⟩:=HG h0;rw[JI];exact Ly k u hk<|by exact_mod_cast h
def R6{n:A3}(h:Aw n=Y):(wr n).size<=35:=by
 obtain⟨f0,f1,t0,t1,n0,n1,u0,u1,s0,s1⟩:=Ie h;have a:=Ls f0 1 J J;have b:=Ls (J:0<=n.nu) 2 J J;have c:=Ls t0 1 J J;have d:=Ls (J:0<=n.un) 3 J J;rw[← Ax,RS];unfold wrL;simp only[Am,Bm,Ax];omega
def aup{r:A1}{m:Mark}(h:Gz r=I m):r.size<=17:=by
 unfold Gz at h;have hj:=k9 ((L r).count 32)<|L r;have hn:∀ {p:List UInt8},(Aq<|B p).2=Y->p.length<=5:=fun {p} hp=>by
  obtain h1|⟨n,_,h2,_⟩:=Sf (B p)
  .rw[h1]at hp;cases hp
  .exact h2
 split at h
 .rename_i p q t hp;rw[hp]at hj;split at h
  .rename_i hc;simp only[AE]at hc;have h1:=hn hc.1;have h2:=hn hc.2.1;have h3:=hn hc.2.2.1;have hj2:p++32::(q++32::t)=L r:=hj;rw[← Ax,← hj2];simp only[Am,Bm];omega
  .cases h
 .cases h
def auy{k o:AL}{w r:A1}(h:Bh k w r=I o):w.size<=5/\r.size<=35:=by
 unfold Bh at h;split at h
 .rename_i hw;simp only[C8,decide_eq_true_eq]at hw;split at h
  .rename_i hr;refine⟨by obtain rfl|rfl:=hw<;>decide, ?_⟩;obtain h1|⟨n,_,h2,_⟩:=Sf r
   .rw[h1]at hr;cases hr
   .omega
  .cases h
 split at h
 .rename_i hw;simp only[C8,decide_eq_true_eq]at hw;cases hn:DG r with
  | none=>rw[hn]at h;cases h
  | some n=>
   obtain⟨h1,h2⟩:=Js hn;refine⟨by obtain rfl|rfl|rfl|rfl:=hw<;>decide, ?_⟩;rw[← h2];exact R6 h1
 split at h
 .rename_i hw;simp only[C8,decide_eq_true_eq]at hw;cases hn:Gz r with
  | none=>rw[hn]at h;cases h
  | some n=>
   refine⟨by obtain rfl|rfl|rfl:=hw<;>decide, ?_⟩;have:=aup hn;omega
 .cases h
def mC{k o:AL}{r:A1}(hk:Au k=Y)(h:BO k r=I o):1<=r.size/\r.size<=60:=by
 have h:=((IZ hk).1 h).1;obtain hs|⟨w,t,hs,e⟩:=Lw (L r)
 .unfold GB at h;rw[TZ hs]at h;cases h
 .rw[Ij hs e]at h;have:=auy h;have hw:(B w).size=w.length:=rfl;have ht:(B t).size=t.length:=rfl;rw[← Ax,e];simp only[Am,Bm];omega
def UE{rs:List A1}{c:Nat}(h:∀r∈rs,(CY r).size<=c):(cat rs).length<=rs.length * c:=by
 induction rs with
 | nil=>simp[Jv]
 | cons r rs ih=>
  have:=ih λx hx=>h x<|Ah _ hx;have:=h r Ao;rw[I1,Am,Ax,Bm,Nat.succ_mul];omega
def Mz{r:A1}(h:r.size<=60):(CY r).size<=r.size+4:=by
 rw[XW];have:=aa2 h;omega
def XC{k:AL}(hk:Au k=Y):I5 (CG k)/\(cat<|CG k).length<=800:=by
 have hf:=C2 hk;have t1:=hf.t1;have n1:=hf.n1;have hl:=hf.hl;have ml:=hf.ml;have il:=hf.il;have sT:∀r∈(if 0<k.ti then [FX k.ti] else []),1<=r.size/\r.size<=8:=by
  intro r hr;split at hr
  .rw[C1.1 hr,← Ax,YC];have:=Ls hf.t0 3 J J;simp only[Am,Bm,CL];omega
  .cases hr
 have sN:∀r∈(if 1<k.nx then [L3 k.nx] else []),1<=r.size/\r.size<=8:=by
  intro r hr;split at hr
  .rw[C1.1 hr,← Ax,aEq];have:=Ls (show 0<=k.nx by have:=hf.n0;omega) 3 J J;simp only[Am,Bm,CL];omega
  .cases hr
 have sM:∀r∈k.marks.map (λm=>Cc D5 m.mf m.mn m.mu),1<=r.size/\r.size<=13:=by
  intro r hr;obtain⟨m,hm,rfl⟩:=C0.1 hr;obtain⟨i,hi,rfl⟩:=Cz hm;have:=Oa<|Su hf.m hi;rw[Fa<|Av hi]at this;have a:=Ls this.1 1 J J;have b:=Ls (J:0<=k.marks[i].mn) 2 J J;have c:=Ls (J:0<=k.marks[i].mu) 3 J J;rw[← Ax,TA];simp only[Am,Bm,L_B,CL];omega
 have sH:∀r∈k.held.map M3,1<=r.size/\r.size<=40:=by
  intro r hr;obtain⟨m,hm,rfl⟩:=C0.1 hr;obtain⟨i,hi,rfl⟩:=Cz hm;have:=Gx hf.h hi;rw[DT<|Av hi]at this;have:=R6 this;rw[← Ax,aEr];simp only[Am,Bm,Ax,CL];omega
 have sI:∀r∈k.inbox.map N3,1<=r.size/\r.size<=41:=by
  intro r hr;obtain⟨m,hm,rfl⟩:=C0.1 hr;obtain⟨i,hi,rfl⟩:=Cz hm;have:=Gx hf.i hi;rw[DT<|Av hi]at this;have:=R6 this;rw[← Ax,aDe];simp only[Am,Bm,Ax,CL];omega
 refine⟨?_, ?_⟩
 .intro r hr;unfold CG at hr;simp only[BN]at hr;obtain(((hr|hr)|hr)|hr)|hr:=hr
  .have:=sT r hr;omega
  .have:=sN r hr;omega
  .have:=sM r hr;omega
  .have:=sH r hr;omega
  .have:=sI r hr;omega
 .unfold CG;simp only[Ks,Am];have a:=UE (c:=12) λr hr=>by have:=sT r hr;have:=Mz (r:=r) J;omega
  have b:=UE (c:=12) λr hr=>by have:=sN r hr;have:=Mz (r:=r) J;omega
  have c:=UE (c:=17) λr hr=>by have:=sM r hr;have:=Mz (r:=r) J;omega
  have d:=UE (c:=44) λr hr=>by have:=sH r hr;have:=Mz (r:=r) J;omega
  have e:=UE (c:=45) λr hr=>by have:=sI r hr;have:=Mz (r:=r) J;omega
  rw[De]at c d e;have a2:(if 0<k.ti then [FX k.ti] else []).length<=1:=by split<;>simp
  have b2:(if 1<k.nx then [L3 k.nx] else []).length<=1:=by split<;>simp
  omega
def D7(rs:List A1):A1:=B<|cat rs
def QS{k:AL}(hk:Au k=Y):CB (D7<|CG k) ((D7<|CG k).size:Int) (CG k) []:=by
 have:=XC hk;refine CB.pack this.1 (by unfold D7;rw[L_B]) ?_;show(cat<|CG k).length<=2400;omega
def D2(k:AL)(lg:A1)(fo:Int)(r:A1):A1×Int:=
 if lg.size+(CY r).size<=2400 then(lg++CY r,fo) else(D7 (CG k)++CY r,((D7<|CG k).size:Int))
def aaH{k o:AL}{id:Int}{lg r:A1}{fo:Int}{rs ts:List A1}(h:CB lg fo rs ts)(hs:Cd id (rs++ts)=I k)(hr:BO k r=I o):
  ∃rs' ts',CB (D2 k lg fo r).1 (D2 k lg fo r).2 rs' ts'/\Cd id (rs'++ts')=I o:=by
 have hk:=T5 hs;have hz:=mC hk hr;unfold D2;split
 .rename_i hc;refine⟨rs,ts++[r],h.add hz.1 hz.2 hc, ?_⟩;rw[← C7,aCn,hs];exact hr
 .have hp:=QS hk;have hsz:=XC hk;have hl:=Mz hz.2;refine⟨CG k,[]++[r],hp.add hz.1 hz.2 ?_, ?_⟩
  .show(cat<|CG k).length+_<=2400;omega
  .rw[EV,aCn];have:=xy hk<|aE3 hs;rw[lT hs]at this;rw[this];exact hr
structure DE (k:A7) (st:AL):Prop where
 ok:Ae k=Y
 st:DF k.id k.log=I st
def CQ{k:A7}(h:Ae k=Y):DE k (stT k):=⟨h,(E7 h).st⟩
def DE.kok{k:A7}{st:AL}(h:DE k st):Au st=Y:=T5 h.st
def DE.id{k:A7}{st:AL}(h:DE k st):st.id=k.id:=lT h.st
def DE.stT{k:A7}{st:AL}(h:DE k st):stT k=st:=by
 unfold Go.VS.stT;rw[h.st];rfl
def XB{k:A7}{rs ts:List A1}(id:isN k.id=Y)(l:CB k.log k.fo rs ts)(hl:k.AG.length<=3)(up:k.up=Y\/k.AG.length=0)(st:(Cd k.id<|rs++ts).isSome=Y)(hv:∀i,i<k.AG.length->Fe k.AG i=Y):Ae k=Y:=by
 unfold Ae;simp only[AE,C8,decide_eq_true_eq,Cq];refine⟨id,l.pf,J,up,⟨?_, ?_⟩,hv⟩
 .rw[l.state];exact st
 .rw[l.abr];exact aCN st
def DE.lg{k:A7}{st:AL}(h:DE k st):∃rs ts,CB k.log k.fo rs ts/\Cd k.id (rs++ts)=I st:=by
 obtain⟨rs,ts,hl⟩:=abY (E7 h.ok).sh;exact⟨rs,ts,hl,by rw[← hl.state];exact h.st⟩
def DE.pQ{k:A7}{st o:AL}{lg:A1}{fo:Int}{rs ts:List A1}(h:DE k st)(l:CB lg fo rs ts)(e:Cd k.id (rs++ts)=I o):DE ⟨k.id,k.up,lg,fo,k.AG⟩ o:=by
 have hf:=E7 h.ok;refine⟨XB (k:=⟨k.id,k.up,lg,fo,k.AG⟩) hf.id l hf.hl hf.up ?_ hf.hv, ?_⟩
 .simp only[e];rfl
 .simp only[l.state];exact e
def wrM(k:A7)(r:A1):A7:=⟨k.id,k.up,(D2 (stT k) k.log k.fo r).1,(D2 (stT k) k.log k.fo r).2,k.AG⟩
def Tl{k:A7}{st o:AL}{r:A1}(h:DE k st)(hr:BO st r=I o):DE (wrM k r) o:=by
 obtain⟨rs,ts,hl,hs⟩:=h.lg;obtain⟨rs',ts',h1,h2⟩:=aaH hl hs hr;have:=h.pQ h1 h2;unfold wrM;rw[h.stT];exact this
def foM(k:A7):A7:=⟨k.id,k.up,k.log,(k.log.size:Int),k.AG⟩
def Qc{k:A7}{st:AL}(h:DE k st):DE (foM k) st:=by
 obtain⟨rs,ts,hl,hs⟩:=h.lg;exact h.pQ hl.force<|by simpa using hs
def pkM(k:A7):A7:=⟨k.id,k.up,D7<|CG<|stT k,((D7<|CG<|stT k).size:Int),k.AG⟩
def oJ{k:A7}{st:AL}(h:DE k st):DE (pkM k) st:=by
 have:=h.pQ (QS h.kok) (o:=st) (by
  have:=xy h.kok<|aE3 h.st;rw[h.id]at this;simpa using this)
 unfold pkM;rw[h.stT];exact this
def faM(k:A7)(keep:Int):A7:=
 let n:=(k.fo+max 0 (min keep<|(k.log.size:Int) - k.fo)).toNat
 ⟨k.id,A0,(k.log.extract 0 n).extract 0 (D6<|k.log.extract 0 n).2,((D6<|k.log.extract 0 n).2:Int),[]⟩
def oH{k:A7}(h:Ae k=Y)(keep:Int):Ae (faM k keep)=Y:=by
 have hf:=E7 h;obtain⟨rs,ts,hl,hs⟩:=(CQ h).lg;have hfo:=hl.fo;obtain⟨us,vs,e,l⟩:=hl.Uo (k.fo+max 0 (min keep<|(k.log.size:Int) - k.fo)).toNat J;refine XB (k:=faM k keep) hf.id l (by show 0<=3;omega) (.inr rfl) ?_ (λi hi=>by cases hi);show(Cd k.id<|(rs++us)++[]).isSome=Y;rw[CE];refine aCN (ts:=vs) ?_;rw[C7,← e,hs];rfl
def arO{k:A7}{st:AL}(h:DE k st)(hf:k.fo=(k.log.size:Int))(keep:Int):DE (faM k keep) st/\(faM k keep).log=k.log/\(faM k keep).fo=k.fo:=by
 obtain⟨rs,ts,hl,hs⟩:=h.lg;have e:(k.fo+max 0 (min keep<|(k.log.size:Int) - k.fo)).toNat=k.log.size:=J
 have e2:k.log.extract 0 k.log.size=k.log:=by
  apply Fu;rw[E9,Je,Iy];exact J2 (by rw[Ax];omega)
 have hk:faM k keep=⟨k.id,A0,k.log,(k.log.size:Int),[]⟩:=by
  unfold faM;simp only[e,e2,hl.read]
 have ok:=oH h.ok keep;rw[hk]at ok ⊢;exact⟨⟨ok,h.st⟩,rfl,hf.symm⟩
def riM(k:A7):A7:=⟨k.id,Y,k.log,k.fo,k.AG⟩
def ayO{k:A7}{st:AL}(h:DE k st):DE (riM k) st:=by
 have hf:=E7 h.ok;obtain⟨rs,ts,hl,hs⟩:=h.lg;refine⟨XB (k:=riM k) hf.id hl hf.hl (.inl rfl) ?_ hf.hv,h.st⟩;show(Cd k.id<|rs++ts).isSome=Y;rw[hs];rfl
def C9(a b:List UInt8):List UInt8:=List.zipWith (· ^^^ ·) a b
def QK{a b:List UInt8}(h:a.length=b.length):(C9 a b).length=a.length:=by
 unfold C9;rw[mQ];omega
def YD(a b:List UInt8):C9 a b=C9 b a:=by
 unfold C9
 induction a generalizing b with
 | nil=>cases b<;>rfl
 | cons x a ih=>
  cases b with
  | nil=>rfl
  | cons y b=>rw[Oz,Oz,ih,UInt8.xor_comm]
def Sl(a b c:List UInt8):C9 (C9 a b) c=C9 a (C9 b c):=by
 unfold C9
 induction a generalizing b c with
 | nil=>cases b<;>cases c<;>rfl
 | cons x a ih=>
  cases b with
  | nil=>cases c<;>rfl
  | cons y b=>
   cases c with
   | nil=>rfl
   | cons z c=>simp only[Oz,ih,UInt8.xor_assoc]
def asT{a b:List UInt8}(h:a.length=b.length):C9 (C9 a b) b=a:=by
 unfold C9
 induction a generalizing b with
 | nil=>rfl
 | cons x a ih=>
  cases b with
  | nil=>cases h
  | cons y b=>rw[Oz,Oz,ih<|by simpa using h,UInt8.xor_assoc,UInt8.xor_self,UInt8.xor_zero]
def nul(n:Nat):List UInt8:=BZ n 0
def Yc{a:List UInt8}{n:Nat}(h:a.length=n):C9 (nul n) a=a:=by
 unfold C9 nul
 induction a generalizing n with
 | nil=>subst h;rfl
 | cons x a ih=>
  subst h;rw[Bm,aDE,Oz,ih rfl,UInt8.zero_xor]
def Dr(n:Nat)(bl:Nat->List UInt8):List Nat->List UInt8
 | []=>nul n
 | k::ks=>C9 (bl k) (Dr n bl ks)
def QG{n:Nat}{bl:Nat->List UInt8}:∀ {ks:List Nat},(∀k∈ks,(bl k).length=n)->(Dr n bl ks).length=n
 | [],_=>by simp[Dr,nul]
 | k::ks,h=>by
  have a:=h k Ao;have b:=QG λx hx=>h x<|Ah k hx;rw[Dr,QK J,a]
def nF{n:Nat}{bl:Nat->List UInt8}:∀ {ks:List Nat} {y:List UInt8},y.length=n->ks.foldl (λx k=>C9 x<|bl k) y=C9 y (Dr n bl ks)
 | [],y,h=>by
  rw[Dr,YD,Yc h];rfl
 | k::ks,y,h=>by
  rw[Du,Dr,← Sl];by_cases hk:(C9 y<|bl k).length=n
  .exact nF hk
  ·
   have key:∀(ks:List Nat) (y z:List UInt8),y.length<=n->ks.foldl (λx k=>C9 x<|bl k) y=C9 y (Dr n bl ks):=by
    intro ks
    induction ks with
    | nil=>
     intro y z hy;rw[KK,Dr,YD];unfold C9 nul;clear hk h z
     induction y generalizing n with
     | nil=>simp
     | cons x y ih=>
      cases n with
      | zero=>simp at hy
      | succ n=>rw[aDE,Oz,UInt8.zero_xor,← ih<|by simpa using hy]
    | cons k ks ih=>
     intro y z hy;rw[Du,Dr,← Sl];refine ih _ z ?_;unfold C9;rw[mQ];omega
   refine key ks _ [] ?_;unfold C9;rw[mQ];omega
def auh{n:Nat}{bl:Nat->List UInt8}{p:Nat->Bool}{ks:List Nat}{u:Nat}(hb:∀k∈ks,(bl k).length=n)(hf:(ks.filter λk=> !p k)=[u]):
  ks.foldl (λx k=>if p k then C9 x (bl k) else x) (Dr n bl ks)=bl u:=by
 have h1:∀(ks:List Nat) (y:List UInt8),ks.foldl (λx k=>if p k then C9 x (bl k) else x) y=(ks.filter p).foldl (λx k=>C9 x<|bl k) y:=by
  intro ks
  induction ks with
  | nil=>intro y;rfl
  | cons k ks ih=>
   intro y;rw[Du,JY];split<;>simp[ih]
 have h2:∀(ks:List Nat),(∀k∈ks,(bl k).length=n)->Dr n bl ks=C9 (Dr n bl<|ks.filter λk=> !p k) (Dr n bl<|ks.filter p):=by
  intro ks
  induction ks with
  | nil=>intro _;simp[Dr,Yc (n:=n) (a:=nul n) (by simp[nul])]
  | cons k ks ih=>
   intro hb;have:=ih λx hx=>hb x<|Ah _ hx;rw[Dr,this,JY,JY];cases p k
   .simp only[AH,A2,A4,Dr,Sl]
   .simp only[AB,A2,A4,Dr];rw[← Sl,YD<|bl k,Sl]
 have hlen:(Dr n bl<|ks.filter p).length=n:=QG λk hk=>hb k (F8.1 hk).1;have hu:(bl u).length=n:=hb u (F8.1 (hf▸MP u:u∈ks.filter λk=> !p k)).1;rw[h1,nF<|QG hb,h2 ks hb,hf];rw[asT (by rw[hlen];exact QG λk hk=>by rw[C1.1 hk];exact hu)];rw[Dr,Dr,YD,Yc hu]
def rnd(x:Int):Int:=if inB x 0 65535 then BJ (25173 * x+13849) 65536 else 0
def TP(x:Int):0<=rnd x/\rnd x<=65535:=by
 unfold rnd;split
 .rename_i h;have:=Aa.1 h;rw[LI J];omega
 .omega
def uG(x:Int):Pp (x,())=I ((rnd x,()),()):=by
 unfold Pp rnd;simp only[EK,A6];obtain e|e:=tf (inB x 0 65535)
 .have:=Aa.1 e;simp only[e,AB,A4,A2];rw[AU (n:=25173 * x) J J,AU J J]
 .simp only[e,AH,A4,A2]
def u7(x:Int):Pl (x,())=I ((rnd x,()),()):=by
 unfold Pl rnd;simp only[I0,A6];obtain e|e:=tf (inB x 0 65535)
 .have:=Aa.1 e;simp only[e,AB,A4,A2];rw[AU (n:=x * 25173) J J,AU J J,Qw]
 .simp only[e,AH,A4,A2]
def Dc(b n:Int):Bool:=inB b 1 6&&inB n 0 999
def aBn(b n:Int):X7 (b,n,())=I ((Dc b n,()),()):=by
 unfold X7 Dc;simp only[EK,A6,Dk,Dd];cases inB b 1 6<;>rfl
def XV(b n:Int):Mv (b,n,())=I ((Dc b n,()),()):=by
 unfold Mv Dc;simp only[I0,A6,Dk,Dd];cases inB b 1 6<;>rfl
def wgt(b d:Int):Int:=if d=1 then Ay 60 b+10 else Ay 60 (d * (d - 1))
def ajh{b d:Int}(hb:inB b 1 6=Y)(hd:inB d 1 6=Y):eZ (b,d,())=I ((wgt b d,()),()):=by
 have h1:=Aa.1 hb;have h2:=Aa.1 hd;have h3:b=1\/b=2\/b=3\/b=4\/b=5\/b=6:=J
 have h4:d=1\/d=2\/d=3\/d=4\/d=5\/d=6:=J
 obtain rfl|rfl|rfl|rfl|rfl|rfl:=h3<;>obtain rfl|rfl|rfl|rfl|rfl|rfl:=h4<;>rfl
def av3(b n:Int)(hb:inB b 1 6=Y):cE (b,n,0,1,())=I (.inr (b,n,70,())):=by
 have h1:=Aa.1 hb;have h3:b=1\/b=2\/b=3\/b=4\/b=5\/b=6:=J
 unfold cE;obtain rfl|rfl|rfl|rfl|rfl|rfl:=h3
 .exact At rfl (BC rfl)
 .exact At rfl (At rfl (BC rfl))
 .exact At rfl (At rfl (At rfl (BC rfl)))
 .exact At rfl (At rfl (At rfl (At rfl (BC rfl))))
 .exact At rfl (At rfl (At rfl (At rfl (At rfl (BC rfl)))))
 .exact At rfl (At rfl (At rfl (At rfl (At rfl (At rfl (BC rfl))))))
def wts(b:Int):List Int:=if b=1 then [70] else if b=2 then [40,30] else if b=3 then [30,30,10] else if b=4 then [25,30,10,5] else if b=5 then [22,30,10,5,3] else [20,30,10,5,3,2]
def avD(b n:Int)(hb:inB b 1 6=Y):cK (b,n,[0,w64<|w64 (Ay 60 b)+10],rd aHb ([0,w64<|w64 (Ay 60 b)+10]:List Int) 1,2,())=I (.inr (b,n,0::wts b,70,())):=by
 have h1:=Aa.1 hb;have h3:b=1\/b=2\/b=3\/b=4\/b=5\/b=6:=J
 unfold cK;obtain rfl|rfl|rfl|rfl|rfl|rfl:=h3
 .exact BC rfl
 .exact At rfl (BC rfl)
 .exact At rfl (At rfl (BC rfl))
 .exact At rfl (At rfl (At rfl (BC rfl)))
 .exact At rfl (At rfl (At rfl (At rfl (BC rfl))))
 .exact At rfl (At rfl (At rfl (At rfl (At rfl (BC rfl)))))
def FG{σ ρ:Type}{b:σ->Option (σ ⊕ ρ)}{x x':σ}{y z:ρ}{c:Bool}(h:b x=if c then I (.inr y) else I (.inl x'))(hz:AT b x'=I z):AT b x=I (if c then y else z):=by
 cases c
 .exact At h hz
 .exact BC h
def LU(b r:Int):List Int->Int->Int->(Int×D) ⊕ (Int×D)
 | [],_,_=> .inr (b,())
 | w::ws,acc,d=>if U (r<acc+w) then .inl (d,()) else LU b r ws (acc+w) (d+1)
def avE(b r:Int)(hb:inB b 1 6=Y):cJ (b,0::wts b,r,0,1,())=I (LU b r (wts b) 0 1):=by
 have h1:=Aa.1 hb;have h3:b=1\/b=2\/b=3\/b=4\/b=5\/b=6:=J
 unfold cJ;obtain rfl|rfl|rfl|rfl|rfl|rfl:=h3
 .exact FG rfl (BC rfl)
 .exact FG rfl (FG rfl (BC rfl))
 .exact FG rfl (FG rfl (FG rfl (BC rfl)))
 .exact FG rfl (FG rfl (FG rfl (FG rfl (BC rfl))))
 .exact FG rfl (FG rfl (FG rfl (FG rfl (FG rfl (BC rfl)))))
 .exact FG rfl (FG rfl (FG rfl (FG rfl (FG rfl (FG rfl (BC rfl))))))
def aGd{b d:Int}(hb:inB b 1 6=Y)(hd:inB d 1 6=Y):0<=wgt b d/\wgt b d<=70:=by
 have h1:=Aa.1 hb;have h2:=Aa.1 hd;have h3:b=1\/b=2\/b=3\/b=4\/b=5\/b=6:=J
 have h4:d=1\/d=2\/d=3\/d=4\/d=5\/d=6:=J
 obtain rfl|rfl|rfl|rfl|rfl|rfl:=h3<;>obtain rfl|rfl|rfl|rfl|rfl|rfl:=h4<;>decide
def alV{b x d:Int}(hb:inB b 1 6=Y)(hd:inB d 1 6=Y)(hlt:d<b)(h0: -1000<=x)(h1:x<=1000):
  VQ (b,x,d,())=if U (x - wgt b d<0) then I (.inr<|.inl (d,())) else I (.inl (b,x - wgt b d,d+1,())):=by
 have hw:=aGd hb hd;have h2:=Aa.1 hd;unfold VQ;simp only[AR hlt,A2,ajh hb hd,A6];rw[AU (n:=x - wgt b d) J J,AU (n:=d+1) J J]
def Mc:(Int×D) ⊕ (Int×D)->Int
 | .inl y=>y.1
 | .inr y=>y.1
def aw(b x:Int):Nat->Int->(Int×D) ⊕ (Int×D)
 | 0,_=> .inr (b,())
 | n+1,d=>if U (x - wgt b d<0) then .inl (d,()) else aw b (x - wgt b d) n (d+1)
def aFe{b:Int}(hb:inB b 1 6=Y):∀(n:Nat) (x d:Int),1<=d->d+n=b-> -70 * d<=x->x<=100->cD (b,x,d,())=I (aw b x n d)
 | 0,x,d,_,h,_,_=>by
  unfold cD;refine BC ?_;unfold VQ;simp only[show U (d<b)=A0 from BH J,A4];rfl
 | n+1,x,d,h1,h,h2,h3=>by
  have hb':=Aa.1 hb;have hd:inB d 1 6=Y:=Aa.2 ⟨h1,J⟩;have hw:=aGd hb hd;exact FG (alV hb hd J J J)<|aFe hb n (x - wgt b d) (d+1) J J J J
def axh:∀b:Fin 6,∀r:Fin 70,Mc (aw ((b.1+1:Nat):Int) (r.1:Int) b.1 1)=Mc (LU ((b.1+1:Nat):Int) (r.1:Int) (wts ((b.1+1:Nat):Int)) 0 1):=by decide+kernel
def awK{b r:Int}(hb:inB b 1 6=Y)(h0:0<=r)(h1:r<70):Mc (aw b r (b - 1).toNat 1)=Mc (LU b r (wts b) 0 1):=by
 have h2:=Aa.1 hb;have:=axh ⟨(b - 1).toNat,J⟩ ⟨r.toNat,J⟩;rw[show(((b - 1).toNat+1:Nat):Int)=b by omega,show((r.toNat:Nat):Int)=r by omega]at this;exact this
def Fz(b n:Int):Int:=if Dc b n then(if U (n<b) then 1 else Mc (LU b (BJ (Ay (rnd<|rnd<|31 * n+b) 16) 70) (wts b) 0 1)) else 0
def aGl(s:(Int×D) ⊕ (Int×D)):AP (I s) (λy=>I (y,())) (λy=>I (y,()))=I ((Mc s,()),()):=by
 cases s<;>rfl
def aiF(b n:Int):di (b,n,())=I ((Fz b n,()),()):=by
 unfold di Fz;rw[aBn];simp only[A6];obtain e|e:=tf (Dc b n)
 .have e2:=e;unfold Dc at e2;rw[AE]at e2;have h1:=Aa.1 e2.1;have h2:=Aa.1 e2.2;simp only[e,AB,A4,A2];obtain e3|e3:=tf (U<|n<b)
  .simp only[e3,A2]
  .have hr:=TP<|rnd<|31 * n+b;have hz:Ay (rnd<|rnd<|31 * n+b) 16=rnd (rnd<|31 * n+b) / 16:=Fh hr.1;simp only[e3,A4,show U (b=0)=A0 from BH J,AH,A2,avD b n e2.1];rw[A5<|by rfl];simp only[AP,uG,A6];rw[AU (n:=31 * n) J J,AU (n:=31 * n+b) J J,AU (n:=Ay _ 16) J J];rw[avE b _ e2.1];exact aGl _
 .simp only[e,AH,A2,A4]
def ahi(b n:Int):eB (b,n,())=I ((Fz b n,()),()):=by
 unfold eB Fz;rw[XV];simp only[A6];obtain e|e:=tf (Dc b n)
 .have e2:=e;unfold Dc at e2;rw[AE]at e2;have h1:=Aa.1 e2.1;have h2:=Aa.1 e2.2;simp only[e,AB,A4,A2];obtain e3|e3:=tf (U<|n<b)
  .simp only[e3,A2]
  .have hr:=TP<|rnd<|31 * n+b;have hz:Ay (rnd<|rnd<|31 * n+b) 16=rnd (rnd<|31 * n+b) / 16:=Fh hr.1;have hm:BJ (Ay (rnd<|rnd<|31 * n+b) 16) 70=(rnd (rnd<|31 * n+b) / 16) % 70:=by rw[hz];exact LI J
   simp only[e3,A4,av3 b n e2.1];simp only[AP,u7,A6];rw[AU (n:=n * 31) J J,AU (n:=n * 31+b) J J,Qw n 31,AU (n:=Ay _ 16) J J];rw[aFe e2.1 (b - 1).toNat _ 1 J J J J,A5<|by rfl];rw[← awK e2.1 J J];exact aGl _
 .simp only[e,AH,A2,A4]
def ah3{l:List Int}(hl:l.length<=1048576):sV (l,())=I ((l,()),()):=Lz hl
def afb{l:List Int}(hl:l.length<=1048576):ct (l,())=I ((l,()),()):=Lz hl
def Ef(b:Nat)(f:Nat->Bool):Nat->Nat->Nat
 | 0,a=>a
 | k+1,a=>if f a then Ef b f k ((a+1) % b) else a
def Rep(u:List Bool)(f:Nat->Bool):Prop:=∀i,u.getD i A0=f i
def rdB(u:List Bool)(i:Nat): @rd Bool aHm u (i:Int)=u.getD i A0:=rfl
def TO{b:Nat}{f:Nat->Bool}:∀(k a:Nat),a<b->Ef b f k a<b
 | 0,_,h=>h
 | k+1,a,h=>by
  unfold Ef;split
  .exact TO k _ (P7 _ J)
  .exact h
def lc{a b k:Nat}:((a+1) % b+k) % b=(a+(k+1)) % b:=by
 rw[Nat.mod_add_mod,D8,NR 1 k]
def l4{b:Nat}{f:Nat->Bool}:∀(k a m:Nat),a<b->f ((a+k) % b)=A0->k<=m->Ef b f m a=Ef b f k a
 | 0,a,m,h,e,_=>by
  rw[Ho,P2 h]at e;cases m with
  | zero=>rfl
  | succ m=>
   simp only[Ef,e,A4]
 | k+1,a,m,h,e,hm=>by
  cases m with
  | zero=>omega
  | succ m=>
   rw[Ef,Ef];rw[l4 k ((a+1) % b) m (P7 _ J) (by rw[lc];exact e) J]
def reach{a b j:Nat}(ha:a<b)(hj:j<b):∃k,k<=b/\(a+k) % b=j:=by
 by_cases h:a<=j
 .exact⟨j - a,J,by rw[show a+(j - a)=j by omega];exact P2 hj⟩
 .exact⟨j+b - a,J,by rw[show a+(j+b - a)=j+b by omega,Nat.add_mod_right];exact P2 hj⟩
def cnt(f:Nat->Bool):Nat->Nat
 | 0=>0
 | k+1=>cnt f k+(if f k then 1 else 0)
def nP{f:Nat->Bool}:∀(k:Nat),cnt f k<k->∃j,j<k/\f j=A0
 | 0,h=>J
 | k+1,h=>by
  rw[cnt]at h;obtain e|e:=tf (f k)
  .rw[e,A5 rfl]at h;obtain⟨j,h1,h2⟩:=nP (f:=f) k J;exact⟨j,J,h2⟩
  .exact⟨k,J,e⟩
def IB(f:Nat->Bool)(a:Nat):Nat->Bool:=λj=>if j=a then Y else f j
def np{f:Nat->Bool}{a:Nat}:∀(k:Nat),(k<=a->cnt (IB f a) k=cnt f k)/\cnt (IB f a) k<=cnt f k+1
 | 0=>⟨λ_=>rfl,by rw[cnt,cnt];omega⟩
 | k+1=>by
  obtain⟨h1,h2⟩:=np (f:=f) (a:=a) k;rw[cnt,cnt];constructor
  .intro h;rw[h1 J,show IB f a k=f k from A9 J]
  .by_cases h:k=a
   .rw[h1 J];unfold IB;rw[A5 h];cases f k<;>simp
   .unfold IB;rw[A9 h];unfold IB at h2;omega
def nO:∀(k:Nat),cnt (λ_=>A0) k=0
 | 0=>rfl
 | k+1=>by rw[cnt,nO k];rfl
def Rep.set{u:List Bool}{f:Nat->Bool}{a:Nat}(h:Rep u f)(ha:a<u.length):Rep (u.set a Y) (IB f a):=by
 intro i;unfold IB;rw[BG,U8];by_cases e:i=a
 .subst e;simp[ha]
 .rw[A9<|LL e,A9 e,← h i,BG]
def Rep.new(n:Nat):Rep (BZ n A0) (λ_=>A0):=by
 intro i;rw[BG,Zq];split<;>rfl
def JP(b:Nat):Nat->(Nat->Bool)->Int->Nat->Bool
 | 0,f,_=>f
 | n+1,f,x=>JP b n (IB f<|Ef b f b (BJ (Ay (rnd x) 16) (b:Int)).toNat) (rnd x)
def aEt{b:Nat}(hb:0<b):∀(n:Nat) (f:Nat->Bool) (x:Int),(∀i,b<=i->f i=A0)->∀i,b<=i->JP b n f x i=A0
 | 0,_,_,h=>h
 | n+1,f,x,h=>by
  refine aEt hb n _ _ ?_;intro i hi;unfold IB;rw[A9,h i hi];have:Ef b f b (BJ (Ay (rnd x) 16) (b:Int)).toNat<b:=by
   refine TO _ _ ?_;have:=TP x;rw[Fh this.1,LI J];have h1:=Int.emod_lt_of_pos (rnd x / 16) (show(0:Int)<b by omega);have h2:=Int.emod_nonneg (rnd x / 16) (show(b:Int)≠0 by omega);omega
  omega
def HY(f:Nat->Bool)(m:Nat):List Nat:=(B1 m).filter f
def kU(f:Nat->Bool)(m:Nat):HY f (m+1)=HY f m++if f m then [m] else []:=by
 unfold HY;rw[Hl,P5];congr 1;simp only[JY,Zz]
def Yk(f:Nat->Bool)(m:Nat):(HY f m).length<=m:=by
 unfold HY;exact C6 (J1 _ _)<|by simp
def auf{f:Nat->Bool}{m k:Nat}(h:k∈HY f m):k<m:=by
 unfold HY at h;exact Cy.1 (F8.1 h).1
def aEX{f:Nat->Bool}{b:Nat}(h:∀i,b<=i->f i=A0):∀(m:Nat),b<=m->HY f m=HY f b
 | 0,hm=>by rw[show b=0 by omega]
 | m+1,hm=>by
  by_cases e:b=m+1
  .rw[e]
  .rw[kU,h m J,A4,CE,aEX h m J]
abbrev Ba(l:List Nat):List Int:=l.map λi:Nat=>(i:Int)
def aFu{b r:Int}(hb:0<=b):∀(ws:List Int) (acc d:Int),0<=d->d+ws.length<=b+1->0<=Mc (LU b r ws acc d)/\Mc (LU b r ws acc d)<=b
 | [],_,_,_,_=>by
  show 0<=b/\b<=b;omega
 | w::ws,acc,d,h0,h1=>by
  rw[Bm]at h1;unfold LU;split
  .show 0<=d/\d<=b;omega
  .exact aFu hb ws _ _ J J
def aFv{b n:Int}(h:Dc b n=Y):0<=Fz b n/\Fz b n<=b:=by
 unfold Fz;rw[A5 h];unfold Dc at h;rw[AE]at h;have h1:=Aa.1 h.1;split
 .omega
 .refine aFu J _ _ _ J ?_;have h3:b=1\/b=2\/b=3\/b=4\/b=5\/b=6:=J
  obtain rfl|rfl|rfl|rfl|rfl|rfl:=h3<;>exact Dw _
def Bg(b n:Int):List Nat:=
 if Dc b n then(if U (n<b) then [n.toNat] else HY (JP b.toNat (Fz b n).toNat (λ_=>A0)<|rnd<|7 * n+1) b.toNat) else []
def Lq{b n:Int}{k:Nat}(h:k∈Bg b n):(k:Int)<b:=by
 unfold Bg at h;split at h
 .rename_i h0;unfold Dc at h0;rw[AE]at h0;have h1:=Aa.1 h0.1;have h2:=Aa.1 h0.2;split at h
  .rename_i h3;have:=BW h3;have:=C1.1 h;omega
  .have:=auf h;omega
 .cases h
def Xm(b n:Int):(Bg b n).length<=6:=by
 unfold Bg;split
 .rename_i h0;unfold Dc at h0;rw[AE]at h0;have h1:=Aa.1 h0.1;split
  .simp
  .exact C6 (Yk _ _) J
 .simp
section
variable {bn:Nat} (hb:0<bn) (h6:bn<=6) {u:List Bool} {f:Nat->Bool} (hu:Rep u f) (hl:bn<=u.length)
include hb h6 hu hl
def aEB(x n:Int):∀(k a:Nat),a<bn->f ((a+k) % bn)=A0->
  dh ((bn:Int),u,x,n,(a:Int),())=I (.inr ((bn:Int),u,x,n,((Ef bn f k a:Nat):Int),()))
 | 0,a,ha,e=>by
  rw[Ho,P2 ha]at e;refine BC ?_;unfold Wj;simp only[rdB,hu a,e,AY (J:a<u.length),A2,A4];rfl
 | k+1,a,ha,e=>by
  unfold dh at *;unfold Ef;obtain e1|e1:=tf (f a)
  .rw[e1,A5 rfl];refine At ?_ (aEB x n k ((a+1) % bn) (P7 _ hb) (by rw[lc];exact e));unfold Wj;simp only[rdB,hu a,e1,AY (J:a<u.length),A2,show U ((bn:Int)=0)=A0 from BH J,AH];rw[AU J J];rfl
  .rw[e1,A4];refine BC ?_;unfold Wj;simp only[rdB,hu a,e1,AY (J:a<u.length),A2,A4]
def aEJ(o:List Int)(x n:Int):∀(k a:Nat),a<bn->f ((a+k) % bn)=A0->
  eA ((bn:Int),o,u,x,n,(a:Int),())=I (.inr ((bn:Int),o,u,x,n,((Ef bn f k a:Nat):Int),()))
 | 0,a,ha,e=>by
  rw[Ho,P2 ha]at e;refine BC ?_;unfold Ww;simp only[rdB,hu a,e,AY (J:a<u.length),A2,A4];rfl
 | k+1,a,ha,e=>by
  unfold eA at *;unfold Ef;obtain e1|e1:=tf (f a)
  .rw[e1,A5 rfl];refine At ?_ (aEJ o x n k ((a+1) % bn) (P7 _ hb) (by rw[lc];exact e));unfold Ww;simp only[rdB,hu a,e1,AY (J:a<u.length),A2,show U ((bn:Int)=0)=A0 from BH J,AH];rw[AU J J];rfl
  .rw[e1,A4];refine BC ?_;unfold Ww;simp only[rdB,hu a,e1,AY (J:a<u.length),A2,A4]
end
section
variable {bn:Nat} (hb:0<bn) (h6:bn<=6)
include hb h6
def aGr(x:Int):∃a:Nat,BJ (w64<|Ay (rnd x) 16) (bn:Int)=(a:Int)/\(BJ (Ay (rnd x) 16) (bn:Int)).toNat=a/\a<bn:=by
 have h:=TP x;have hd:Ay (rnd x) 16=rnd x / 16:=Fh h.1;rw[hd,AU J J,LI J];have h1:=Int.emod_lt_of_pos (rnd x / 16) (show(0:Int)<bn by omega);have h2:=Int.emod_nonneg (rnd x / 16) (show(bn:Int)≠0 by omega);exact⟨(rnd x / 16 % (bn:Int)).toNat,J,rfl,J⟩
def aGG:∀(n:Nat) (u:List Bool) (f:Nat->Bool) (x:Int),Rep u f->bn<=u.length->cnt f bn+n<=bn->
  ∃u',tj ((bn:Int),u,x,(n:Int),())=I (.inr (u',()))/\Rep u' (JP bn n f x)/\u'.length=u.length
 | 0,u,f,x,hu,_,_=>by
  refine⟨u,BC ?_,hu,rfl⟩;rfl
 | n+1,u,f,x,hu,hl,hc=>by
  obtain⟨a,ea,eb,ha⟩:=aGr hb h6 x;obtain⟨j,hj,ej⟩:=nP (f:=f) bn J;obtain⟨k,hk,ek⟩:=reach ha hj;have es:=aEB hb h6 hu hl (rnd x) ((n+1:Nat):Int) k a ha (by rw[ek];exact ej);have em:=l4 (f:=f) k a bn ha (by rw[ek];exact ej) hk;have hs:Ef bn f k a<bn:=TO k a ha;obtain⟨u',h1,h2,h3⟩:=aGG n (u.set (Ef bn f k a) Y) (IB f<|Ef bn f k a) (rnd x) (hu.set J) (by rw[G2];exact hl)
   (by have:=(np (f:=f) (a:=Ef bn f k a) bn).2;omega)
  refine⟨u',At ?_ h1, ?_,by rw[h3,G2]⟩
  .unfold jM;simp only[uG,A6,show U ((0:Int)<((n+1:Nat):Int))=Y from AR J,A2,show U ((bn:Int)=0)=A0 from BH J,AH,ea,es];simp only[AP,A6,AY (J:Ef bn f k a<u.length),A2,Bc];rw[AU J J,show((n+1:Nat):Int) - 1=(n:Int) by omega]
  .rw[JP,eb,em];exact h2
def aFd(o:List Int):∀(n:Nat) (u:List Bool) (f:Nat->Bool) (x:Int),Rep u f->bn<=u.length->cnt f bn+n<=bn->
  ∃u',tM ((bn:Int),o,u,x,(n:Int),())=I (.inr ((bn:Int),o,u',()))/\Rep u' (JP bn n f x)/\u'.length=u.length
 | 0,u,f,x,hu,_,_=>by
  refine⟨u,BC ?_,hu,rfl⟩;rfl
 | n+1,u,f,x,hu,hl,hc=>by
  obtain⟨a,ea,eb,ha⟩:=aGr hb h6 x;obtain⟨j,hj,ej⟩:=nP (f:=f) bn J;obtain⟨k,hk,ek⟩:=reach ha hj;have es:=aEJ hb h6 hu hl o (rnd x) ((n+1:Nat):Int) k a ha (by rw[ek];exact ej);have em:=l4 (f:=f) k a bn ha (by rw[ek];exact ej) hk;have hs:Ef bn f k a<bn:=TO k a ha;obtain⟨u',h1,h2,h3⟩:=aFd o n (u.set (Ef bn f k a) Y) (IB f<|Ef bn f k a) (rnd x) (hu.set J) (by rw[G2];exact hl)
   (by have:=(np (f:=f) (a:=Ef bn f k a) bn).2;omega)
  refine⟨u',At ?_ h1, ?_,by rw[h3,G2]⟩
  .unfold jB;simp only[u7,A6,show U ((0:Int)<((n+1:Nat):Int))=Y from AR J,A2,show U ((bn:Int)=0)=A0 from BH J,AH,ea,es];simp only[AP,A6,AY (J:Ef bn f k a<u.length),A2,Bc];rw[AU J J,show((n+1:Nat):Int) - 1=(n:Int) by omega]
  .rw[JP,eb,em];exact h2
end
def au3{u:List Bool}{f:Nat->Bool}(hu:Rep u f)(hl:u.length=6):th ([],u,0,())=I (.inr (Ba<|HY f 6,())):=by
 refine CX (λi=>(Ba<|HY f i,u,(i:Int),())) 6 ?_ rfl;intro i hi;unfold iy;simp only[rdB,hu i,AY (J:i<u.length),AY hi,KJ,A2,show U ((i:Int)<6)=Y from AR J];rw[AU (n:=(i:Int)+1) J J,kU];have:=Yk f i;obtain e|e:=tf (f i)
 .simp only[e,A2];rw[A5<|BD y8];simp[Ba]
 .simp only[e,A4,CE];rfl
def atK{bn:Nat}(h6:bn<=6){u:List Bool}{f:Nat->Bool}(hu:Rep u f)(hl:u.length=bn):tL ((bn:Int),[],u,0,())=I (.inr (Ba<|HY f bn,())):=by
 refine CX (λi=>((bn:Int),Ba<|HY f i,u,(i:Int),())) bn ?_ ?_
 .intro i hi;unfold gq;simp only[rdB,hu i,AY (J:i<u.length),A2,show U ((i:Int)<(bn:Int))=Y from AR J];rw[AU (n:=(i:Int)+1) J J,kU];have:=Yk f i;obtain e|e:=tf (f i)
  .simp only[e,A2];rw[A5<|BD y8];simp[Ba]
  .simp only[e,A4,CE];rfl
 .unfold gq;simp only[show U ((bn:Int)<(bn:Int))=A0 from BH J,A4]
def jq(b n:Int):X4 (b,n,())=I ((Ba<|Bg b n,()),()):=by
 unfold X4 Bg;rw[aBn];simp only[A6];obtain e|e:=tf (Dc b n)
 .have e2:=e;unfold Dc at e2;rw[AE]at e2;have h1:=Aa.1 e2.1;have h2:=Aa.1 e2.2;simp only[e,AB,A4,A2];obtain e3|e3:=tf (U<|n<b)
  .simp only[e3,A2];rw[show Ba [n.toNat]=[n] from by simp[Ba];omega]
  .have hd:=aFv e;simp only[e3,A4,uG,aiF,A6];rw[AU (n:=7 * n) J J,AU (n:=7 * n+1) J J];obtain⟨u,g1,g2,g3⟩:=aGG (bn:=b.toNat) J J (Fz b n).toNat (BZ 6 A0) (λ_=>A0) (rnd<|7 * n+1) (Rep.new 6) y8 (by rw[nO];omega);rw[show((b.toNat:Nat):Int)=b by omega,show(((Fz b n).toNat:Nat):Int)=Fz b n by omega]at g1;rw[show(dfl .bool:Bool)=A0 from rfl,g1];simp only[AP,A6];rw[au3 g2 (by rw[g3];rfl),aEX (b:=b.toNat) (aEt J _ _ _ λ_ _=>rfl) 6 J];simp only[A6];rw[ah3 (by have:=Yk (JP b.toNat (Fz b n).toNat (λ_=>A0)<|rnd<|7 * n+1) b.toNat;simp;omega)];rfl
 .simp only[e,AH,A2,A4];rfl
def aBi(b n:Int):X1 (b,n,())=I ((Ba<|Bg b n,()),()):=by
 unfold X1 Bg;rw[XV];simp only[A6];obtain e|e:=tf (Dc b n)
 .have e2:=e;unfold Dc at e2;rw[AE]at e2;have h1:=Aa.1 e2.1;have h2:=Aa.1 e2.2;simp only[e,AB,A4,A2];obtain e3|e3:=tf (U<|n<b)
  .simp only[e3,A2];rw[show Ba [n.toNat]=[n] from by simp[Ba];omega];rfl
  .have hd:=aFv e;simp only[e3,A4,u7,ahi,A6];rw[A5 y8];rw[AU (n:=n * 7) J J,AU (n:=n * 7+1) J J,Qw n 7];obtain⟨u,g1,g2,g3⟩:=aFd (bn:=b.toNat) J J [] (Fz b n).toNat (BZ b.toNat A0) (λ_=>A0) (rnd<|7 * n+1) (Rep.new _) aG9 (by rw[nO];omega);rw[show((b.toNat:Nat):Int)=b by omega,show(((Fz b n).toNat:Nat):Int)=Fz b n by omega]at g1;rw[show(dfl .bool:Bool)=A0 from rfl,g1];simp only[AP,A6];have g4:=atK (bn:=b.toNat) J g2 (by rw[g3];simp);rw[show((b.toNat:Nat):Int)=b by omega]at g4;rw[g4];rfl
 .simp only[e,AH,A2,A4];rfl
end Go.VS
namespace Go.VS
open Go
abbrev bI(l:List UInt8):List Int:=l.map λb=>(b.toNat:Int)
def T6(s:A1):B9 s=bI (L s):=rfl
def TS(l:List UInt8):BF (bI l)=B l:=by
 unfold BF bI B;rw[IF];congr 2;rw[Gi (g:=id) (by intro b _;simp),Zy]
def aaJ(a b:UInt8):Ds .u8 (a.toNat:Int) (b.toNat:Int)=((a ^^^ b).toNat:Int):=by
 have h1:∀c:UInt8,F9 (IntKind.bits .u8) (c.toNat:Int)=c.toBitVec:=by
  intro c;apply mz;rw[Qn];have:=c.toNat_lt;show((c.toNat:Int) % (2 ^ 8:Nat)).toNat=c.toBitVec.toNat;rw[mT J J];rfl
 unfold Ds;rw[h1 a,h1 b];have:=(a ^^^ b).toNat_lt;show Zv .u8 (((a ^^^ b).toNat:Nat):Int)=_;have h3:∀n:Int,Zv .u8 n=n % 256:=ND;rw[h3];omega
def ayf{l:List UInt8}(h:l.length=4):∃a b c d,l=[a,b,c,d]:=by
 obtain _|⟨a,_|⟨b,_|⟨c,_|⟨d,_|⟨e,l⟩⟩⟩⟩⟩:=l
 all_goals simp at h
 exact⟨a,b,c,d,rfl⟩
def sz4{s:A1}(h:s.size=4):∃a b c d,s=B [a,b,c,d]:=by
 obtain⟨a,b,c,d,e⟩:=ayf (l:=L s) h;exact⟨a,b,c,d,by rw[← e,B_L]⟩
def aBm{a b:A1}(ha:a.size=4)(hb:b.size=4):Wz (a,b,())=I ((B<|C9 (L a)<|L b,()),()):=by
 obtain⟨a0,a1,a2,a3,rfl⟩:=sz4 ha;obtain⟨b0,b1,b2,b3,rfl⟩:=sz4 hb;unfold Wz;rw[A5<|by rfl];have h:tb (B [b0,b1,b2,b3],B9<|B [a0,a1,a2,a3],((B9<|B [a0,a1,a2,a3]).length:Int),0,())=
   I (.inr ([Ds .u8 (a0.toNat:Int) (b0.toNat:Int),Ds .u8 (a1.toNat:Int) (b1.toNat:Int),Ds .u8 (a2.toNat:Int) (b2.toNat:Int),Ds .u8 (a3.toNat:Int) (b3.toNat:Int)],())):=
  At rfl (At rfl (At rfl (At rfl (BC rfl))))
 rw[h];simp only[aaJ,AP,A6];exact congrArg (λz=>I ((z,()),()))<|TS [a0 ^^^ b0,a1 ^^^ b1,a2 ^^^ b2,a3 ^^^ b3]
def aBg{a b:A1}(ha:a.size=4)(hb:b.size=4):X0 (a,b,())=I ((B<|C9 (L a)<|L b,()),()):=by
 obtain⟨a0,a1,a2,a3,rfl⟩:=sz4 ha;obtain⟨b0,b1,b2,b3,rfl⟩:=sz4 hb;unfold X0;have h:tJ (B [a0,a1,a2,a3],B [b0,b1,b2,b3],[],0,())=
   I (.inr ([Ds .u8 (a0.toNat:Int) (b0.toNat:Int),Ds .u8 (a1.toNat:Int) (b1.toNat:Int),Ds .u8 (a2.toNat:Int) (b2.toNat:Int),Ds .u8 (a3.toNat:Int) (b3.toNat:Int)],())):=
  At rfl (At rfl (At rfl (At rfl (BC rfl))))
 rw[h];simp only[aaJ,AP,A6];exact congrArg (λz=>I ((z,()),()))<|TS [a0 ^^^ b0,a1 ^^^ b1,a2 ^^^ b2,a3 ^^^ b3]
def W5{n:Int}(h0:0<=n)(h1:n<=1000):Kb (n,())=I ((Ay (n+3) 4,()),()):=by
 unfold Kb;simp only;rw[AU (n:=n+4) J J,AU (n:=n+4 - 1) J J,show n+4 - 1=n+3 by omega];rw[Fh J,AU J J]
def apH:iz ()=I ((B<|nul 4,()),()):=rfl
def G1(t:List UInt8)(i:Nat):List UInt8:=(B1 4).map λj=>t.getD (4 * i+j) 0
def Oc(t:List UInt8)(i:Nat):(G1 t i).length=4:=by simp[G1]
def DJ(t:A1):List A1:=if inB t.size 1 24 then(B1<|(t.size+3) / 4).map λi=>B (G1 (L t) i) else []
def axj(l:List UInt8):BV (BZ (AJ 4)<|dfl .u8).length (bI l)++Bp (bI l).length (BZ (AJ 4)<|dfl .u8)=bI ((B1 4).map λj=>l.getD j 0):=by
 obtain _|⟨a,_|⟨b,_|⟨c,_|⟨d,l⟩⟩⟩⟩:=l
 .rfl
 .rfl
 .rfl
 .rfl
 .rw[KI aG9,CE];rfl
def ati(l:List UInt8)(k:Nat):(B1 4).map (λj=>(l.drop k).getD j 0)=(B1 4).map λj=>l.getD (k+j) 0:=by
 refine Gi ?_;intro j _;rw[BG,BG,Hk]
def axs(s:A1)(k:Nat):L (s.extract k s.size)=(L s).drop k:=by
 rw[E9,J2];rw[E4,Ax];exact Ar _
def aB8(t:A1):Wl (t,())=I ((DJ t,()),()):=by
 unfold Wl DJ;simp only[EK,A6];obtain e|e:=tf (inB t.size 1 24)
 .have h1:=Aa.1 e;simp only[e,AB,A4,A2];have h:sW (t,[],0,())=I (.inr ((B1<|(t.size+3) / 4).map λi=>B<|G1 (L t) i,())):=by
   refine CX (λi=>(t,(B1 i).map λi=>B<|G1 (L t) i,((4 * i:Nat):Int),())) ((t.size+3) / 4) ?_ ?_
   .intro i hi;unfold gD;simp only[show U (((4 * i:Nat):Int)<(t.size:Int))=Y from AR J,A2];rw[A5<|by rfl,A5 y8,A5<|BD y8];rw[Bc,T6,axs,axj,TS,ati,AU J J,Hl (n:=i),Eg];rw[show((4 * i:Nat):Int)+4=((4 * (i+1):Nat):Int) by omega];rfl
   .unfold gD;simp only[show U (((4 * ((t.size+3) / 4):Nat):Int)<(t.size:Int))=A0 from BH J,A4]
  rw[h];simp only[AP,A6];rw[qd y8];rfl
 .simp only[e,AH,A2,A4]
def atS(t:A1)(o:List A1)(i:Nat)(hi:i<=100):
  sR (t,o,(i:Int),[],w64<|(i:Int) * 4,())=I (.inr (t,o,(i:Int),bI<|G1 (L t) i,())):=by
 rw[AU J J,show(i:Int) * 4=((4 * i+0:Nat):Int) by omega];refine CX (λj=>(t,o,(i:Int),bI<|(B1 j).map λm=>(L t).getD (4 * i+m) 0,((4 * i+j:Nat):Int),())) 4 ?_ ?_
 .intro j hj;unfold fu;simp only;rw[AU (n:=(i:Int)+1) J J,AU (n:=((i:Int)+1) * 4) J J];rw[A5<|AR J,AU (n:=((4 * i+j:Nat):Int)+1) J J];rw[Hl,Eg];by_cases h:4 * i+j<t.size
  .rw[A5<|AR J,A5<|AY h,A5<|BD y8,K4];simp only[Eg,DV,IK];rfl
  .rw[A9 y8,A5<|BD y8];have:(L t).getD (4 * i+j) 0=0:=by
    rw[BG,Hm (by rw[Ax];omega)];rfl
   simp only[Eg,DV,IK,this];rfl
 .unfold fu;simp only;rw[AU (n:=(i:Int)+1) J J,AU (n:=((i:Int)+1) * 4) J J];rw[A9 y8];rfl
def aoq(t:A1):gr (t,())=I ((DJ t,()),()):=by
 unfold gr DJ;obtain e|e:=tf (inB t.size 1 24)
 .have h1:=Aa.1 e;rw[A9 y8,A5 e];have h:sS (t,[],0,())=I (.inr ((B1<|(t.size+3) / 4).map λi=>B<|G1 (L t) i,())):=by
   refine CX (λi=>(t,(B1 i).map λi=>B<|G1 (L t) i,(i:Int),())) ((t.size+3) / 4) ?_ ?_
   .intro i hi;unfold fv;simp only[W5 (n:=(t.size:Int)) J J,A6];rw[Fh J,A5<|AR J,atS t _ i J];simp only[AP,A6];rw[A5<|BD y8,TS,AU J J,Hl,Eg];rfl
   .unfold fv;simp only[W5 (n:=(t.size:Int)) J J,A6];rw[Fh J,A9 aG9]
  rw[h];rfl
 .rw[A5,A9 (by rw[e];exact CF)];by_cases h:(1:Int)<=t.size/\(t.size:Int)<=24
  .rw[Aa.2 h]at e;cases e
  .simp;omega
abbrev bsA(l:List A1)(k:Nat):A1:=l.getD k noB
def Oj(l:List A1)(k:Nat): @rd A1 aHj l (k:Int)=bsA l k:=rfl
def Of(pre:List Nat)(k:Nat)(post:List Nat): @rd Int aHb (Ba<|pre++k::post) (j8 pre:Int)=(k:Int):=by
 rw[Oi,Ba,Eg,DV,BG,FN aG9];simp
def snoc{α:Type}(pre:List α)(k:α)(post:List α):pre++k::post=(pre++[k])++post:=by simp
def Dg{n m:Nat}(h:n<m)(hm:m<=1048576):w64 ((n:Int)+1)=((n+1:Nat):Int):=BA h J
section
variable {bs:List A1} (hbs:∀k,k<bs.length->(bsA bs k).size=4)
include hbs
def au5(post:List Nat):∀(pre:List Nat) (y:A1),pre≠[]->y.size=4->(pre++post).length<=1048576->(∀k∈post,k<bs.length)->
  V8 (bs,y,Ba<|pre++post,((Ba<|pre++post).length:Int),(j8 pre:Int),())=I (.inr (B<|post.foldl (λx k=>C9 x<|L<|bsA bs k)<|L y,())):=by
 induction post with
 | nil=>
  intro pre y _ _ _ _;refine BC ?_;unfold Vz;simp only[CE,De,show U ((j8 pre:Int)<(j8 pre:Int))=A0 from BH J,A4,KK,B_L]
 | cons k post ih=>
  intro pre y hp hy hl hk;have h1:=hk k Ao;have hne:pre.length≠0:=λh=>hp<|Df h;have hlen:pre.length<(Ba<|pre++k::post).length:=by simp
  refine At (x':=(bs,B<|C9 (L y)<|L<|bsA bs k,Ba<|pre++k::post,((Ba<|pre++k::post).length:Int),((pre++[k]).length:Int),())) ?_ ?_
  .unfold Vz;simp only[show U ((j8 pre:Int)<((Ba<|pre++k::post).length:Int))=Y from AR J,A2,AY hlen,Of,show U ((j8 pre:Int)=0)=A0 from BH J,A4,AY h1,Oj,aBm hy<|hbs k h1,A6];rw[Dg hlen<|by simpa using hl,Am];rfl
  .have:=ih (pre++[k]) (B<|C9 (L y)<|L<|bsA bs k) aG9 (by rw[BP,QK<|by rw[Ax,Ax,hy,hbs k h1],Ax,hy]) (by rw[← snoc];exact hl) λx hx=>hk x<|Ah k hx;rw[← snoc]at this;exact this
def atN(post:List Nat):∀(pre:List Nat) (y:A1),y.size=4->(pre++post).length<=1048576->(∀k∈post,k<bs.length)->
  cn (bs,Ba<|pre++post,y,(j8 pre:Int),())=I (.inr (B<|post.foldl (λx k=>C9 x<|L<|bsA bs k)<|L y,())):=by
 induction post with
 | nil=>
  intro pre y _ _ _;refine BC ?_;unfold fU;simp only[CE,De,show U ((j8 pre:Int)<(j8 pre:Int))=A0 from BH J,A4,KK,B_L]
 | cons k post ih=>
  intro pre y hy hl hk;have h1:=hk k Ao;have hlen:pre.length<(Ba<|pre++k::post).length:=by simp
  refine At (x':=(bs,Ba<|pre++k::post,B<|C9 (L y)<|L<|bsA bs k,((pre++[k]).length:Int),())) ?_ ?_
  .unfold fU;simp only[show U ((j8 pre:Int)<((Ba<|pre++k::post).length:Int))=Y from AR J,A2,AY hlen,Of,AY h1,Oj,aBg hy<|hbs k h1,A6];rw[Dg hlen<|by simpa using hl,Am];rfl
  .have:=ih (pre++[k]) (B<|C9 (L y)<|L<|bsA bs k) (by rw[BP,QK<|by rw[Ax,Ax,hy,hbs k h1],Ax,hy]) (by rw[← snoc];exact hl) λx hx=>hk x<|Ah k hx;rw[← snoc]at this;exact this
end
def Yx{t:A1}{k:Nat}(h:k<(DJ t).length):bsA (DJ t) k=B (G1 (L t) k):=by
 unfold DJ at h ⊢;split
 .rename_i e;rw[A5 e]at h;simp at h;rw[bsA,BG,DA,Gj h];rfl
 .rename_i e;rw[A9 e]at h;cases h
def Fw(t:A1)(n:Int):A1:=
 if(Bg (DJ t).length n).isEmpty then noB else B (Dr 4 (G1<|L t)<|Bg (DJ t).length n)
def aF6{t:A1}{n:Int}{y:List UInt8}{ks:List Nat}(hy:y.length=4)(hk:∀k∈ks,k<(DJ t).length):
  ks.foldl (λx k=>C9 x<|L<|bsA (DJ t) k) y=C9 y (Dr 4 (G1<|L t) ks):=by
 rw[← nF hy];have:∀(ks:List Nat) (y:List UInt8),(∀k∈ks,k<(DJ t).length)->ks.foldl (λx k=>C9 x<|L<|bsA (DJ t) k) y=ks.foldl (λx k=>C9 x<|G1 (L t) k) y:=by
  intro ks
  induction ks with
  | nil=>intro _ _;rfl
  | cons k ks ih=>
   intro y h;rw[Du,Du,Yx (h k Ao),ih _ λx hx=>h x<|Ah k hx];rfl
 exact this ks y hk
def Ze{t:A1}:∀k,k<(DJ t).length->(bsA (DJ t) k).size=4:=by
 intro k h;rw[Yx h,BP,Oc]
def anN(t:A1)(n:Int):gB (t,n,())=I ((Fw t n,()),()):=by
 unfold gB Fw;simp only[aB8,jq,A6];have hk:∀k∈Bg (DJ t).length n,k<(DJ t).length:=λk h=>by
  have:=Lq h;omega
 have hl:=Xm (DJ t).length n;revert hk hl;generalize Bg (DJ t).length n=ks;intro hk hl;cases ks with
 | nil=>
  rw[show V8 (DJ t,noB,Ba [],((Ba []).length:Int),0,())=I (.inr (noB,())) from BC rfl];rfl
 | cons k ks=>
  have h1:=hk k Ao;rw[A9 aG9];have hlen:0<(Ba<|k::ks).length:=by simp
  have hrd: @rd Int aHb (Ba<|k::ks) 0=(k:Int):=Of [] k ks;have h:V8 (DJ t,noB,Ba<|k::ks,((Ba<|k::ks).length:Int),0,())=I (.inr (B<|Dr 4 (G1<|L t)<|k::ks,())):=by
   refine At (x':=(DJ t,bsA (DJ t) k,Ba<|[k]++ks,((Ba<|[k]++ks).length:Int),(([k]:List Nat).length:Int),())) ?_ ?_
   .unfold Vz;simp only[show U ((0:Int)<((Ba<|k::ks).length:Int))=Y from AR J,A2,AY (i:=0) hlen,show inb 0 (Ba<|k::ks).length=Y from AY (i:=0) hlen,hrd,show U ((0:Int)=0)=Y from rfl,AY h1,Oj];rfl
   .have:=au5 Ze ks [k] (bsA (DJ t) k) aG9 (Ze k h1) (by simpa using (by simp at hl;omega:ks.length+1<=1048576)) λx hx=>hk x<|Ah k hx;rw[aF6 (n:=n) (by rw[Ax];exact Ze k h1) λx hx=>hk x<|Ah k hx,Yx h1]at this;rw[Yx h1];exact this
  rw[h];rfl
def alY(t:A1)(n:Int):ft (t,n,())=I ((Fw t n,()),()):=by
 unfold ft Fw;simp only[aoq,aBi,A6];have hk:∀k∈Bg (DJ t).length n,k<(DJ t).length:=λk h=>by
  have:=Lq h;omega
 have hl:=Xm (DJ t).length n;revert hk hl;generalize Bg (DJ t).length n=ks;intro hk hl;cases ks with
 | nil=>rw[A5 aG9,A5 aG9]
 | cons k ks=>
  have h1:=hk k Ao;have hc:(DJ t).length≠0:=J
  rw[A9 (by simp;exact⟨λh=>hc (by rw[h];rfl),J⟩),A9 aG9,apH];simp only[A6];have:=atN (bs:=DJ t) Ze (k::ks) [] (B<|nul 4) (by rfl) (by simpa using (by simp at hl;omega:ks.length+1<=1048576)) hk;rw[aF6 (n:=n) (by rfl) hk]at this;rw[show cn (DJ t,Ba<|k::ks,B<|nul 4,0,())=_ from this];simp only[AP,A6];rw[L_B,Yc<|QG λx _=>Oc _ x]
end Go.VS
namespace Go.VS
open Go
def unk(kn:List A1)(k:Nat):Bool:=U<|bsA kn k=noB
def DI(kn:List A1)(of:List Nat):List Nat:=of.filter<|unk kn
def EP(kn:List A1)(of:List Nat)(y:List UInt8):List UInt8:=of.foldl (λx k=>if unk kn k then x else C9 x (L<|bsA kn k)) y
def Ca(b:Nat)(kn:List A1):Prop:=kn.length=b/\ ∀k,k<b->bsA kn k=noB\/(bsA kn k).size=4
def l6{b:Nat}{kn:List A1}(h:Ca b kn):∀ {of:List Nat} {y:List UInt8},y.length=4->(∀k∈of,k<b)->(EP kn of y).length=4
 | [],_,hy,_=>hy
 | k::of,y,hy,hk=>by
  unfold EP;rw[Du];refine l6 (of:=of) h ?_ λx hx=>hk x<|Ah k hx;obtain e|e:=tf (unk kn k)
  .rw[e];exact hy
  .rw[e,A4];obtain h1|h1:=h.2 k (hk k Ao)
   .unfold unk at e;exact absurd h1 (JV e)
   .rw[QK<|by rw[hy,Ax,h1],hy]
def abZ(d:Int)(l:List Nat):Int:=l.foldl (fun(_:Int) (k:Nat)=>(k:Int)) d
section
variable {b:Nat} {kn:List A1} (hkn:Ca b kn)
include hkn
def au6(bi:Int)(list l2:List AQ)(ag:Bool)(n i:Int)(post:List Nat):∀(pre:List Nat) (y:A1) (u:Int) (m:Nat),y.size=4->(pre++post).length<=1048576->m<=pre.length->(∀k∈post,k<b)->
  cU (bi,list,kn,ag,y,u,(m:Int),l2,n,i,Ba<|pre++post,((Ba<|pre++post).length:Int),(j8 pre:Int),())=
   I (.inr (bi,list,kn,ag,B<|EP kn post<|L y,abZ u<|DI kn post,((m+(DI kn post).length:Nat):Int),l2,n,i,())):=by
 induction post with
 | nil=>
  intro pre y u m _ _ _ _;refine BC ?_;unfold Vy;simp only[CE,De,show U ((j8 pre:Int)<(j8 pre:Int))=A0 from BH J,A4];show _=I (Sum.inr<|Sum.inr (bi,list,kn,ag,B<|L y,u,(m:Int),l2,n,i,()));rw[B_L]
 | cons k post ih=>
  intro pre y u m hy hl hm hk;have h1:=hk k Ao;have hlen:pre.length<(Ba<|pre++k::post).length:=by simp
  have hb:k<kn.length:=by rw[hkn.1];exact h1
  have hl2:(pre++[k]++post).length<=1048576:=by rw[← snoc];exact hl
  obtain e|e:=tf (unk kn k)
  .refine At (x':=(bi,list,kn,ag,y,(k:Int),((m+1:Nat):Int),l2,n,i,Ba<|pre++k::post,((Ba<|pre++k::post).length:Int),((pre++[k]).length:Int),())) ?_ ?_
   .unfold Vy;simp only[show U ((j8 pre:Int)<((Ba<|pre++k::post).length:Int))=Y from AR J,A2,AY hlen,Of,AY hb,Oj];rw[A5<|show U (bsA kn k=noB)=Y from e,Dg hlen<|by simpa using hl,Am,AU (n:=(m:Int)+1) J (by simp at hl;omega)];rfl
   .have:=ih (pre++[k]) y (k:Int) (m+1) hy hl2 y8 λx hx=>hk x<|Ah k hx;rw[← snoc]at this;rw[show DI kn (k::post)=k::DI kn post by unfold DI;rw[JY,e,A5 rfl]];rw[show EP kn (k::post) (L y)=EP kn post (L y) by unfold EP;rw[Du,e,A5 rfl]];rw[Bm,show m+((DI kn post).length+1)=m+1+(DI kn post).length by omega];exact this
  .have hs:(bsA kn k).size=4:=by
    obtain h2|h2:=hkn.2 k h1
    .exact absurd h2 (JV e)
    .exact h2
   refine At (x':=(bi,list,kn,ag,B<|C9 (L y)<|L<|bsA kn k,u,(m:Int),l2,n,i,Ba<|pre++k::post,((Ba<|pre++k::post).length:Int),((pre++[k]).length:Int),())) ?_ ?_
   .unfold Vy;simp only[show U ((j8 pre:Int)<((Ba<|pre++k::post).length:Int))=Y from AR J,A2,AY hlen,Of,AY hb,Oj];rw[A9 (by intro h;unfold unk at e;rw[h]at e;cases e),aBm hy hs,Dg hlen (by simpa using hl),Am];rfl
   .have:=ih (pre++[k]) (B<|C9 (L y)<|L<|bsA kn k) u m (by rw[BP,QK<|by rw[Ax,Ax,hy,hs],Ax,hy]) hl2 y8 λx hx=>hk x<|Ah k hx;rw[← snoc]at this;rw[show DI kn (k::post)=DI kn post by unfold DI;rw[JY,e,A4]];rw[show EP kn (k::post) (L y)=EP kn post (C9 (L y)<|L<|bsA kn k) by unfold EP;rw[Du,e,A4]];exact this
def atO(post:List Nat):∀(pre:List Nat) (y:A1) (o:List Nat),y.size=4->(pre++post).length<=1048576->o.length<=pre.length->(∀k∈post,k<b)->
  dC (kn,Ba o,y,Ba<|pre++post,(j8 pre:Int),())=I (.inr (Ba<|o++DI kn post,B<|EP kn post<|L y,())):=by
 induction post with
 | nil=>
  intro pre y o _ _ _ _;refine BC ?_;unfold WW;simp only[CE,De,show U ((j8 pre:Int)<(j8 pre:Int))=A0 from BH J,A4];show _=I (Sum.inr<|Sum.inr (Ba<|o++[],B<|L y,()));rw[B_L,CE]
 | cons k post ih=>
  intro pre y o hy hl hm hk;have h1:=hk k Ao;have hlen:pre.length<(Ba<|pre++k::post).length:=by simp
  have hb:k<kn.length:=by rw[hkn.1];exact h1
  have hl2:(pre++[k]++post).length<=1048576:=by rw[← snoc];exact hl
  obtain e|e:=tf (unk kn k)
  .refine At (x':=(kn,Ba<|o++[k],y,Ba<|pre++k::post,((pre++[k]).length:Int),())) ?_ ?_
   .unfold WW;simp only[show U ((j8 pre:Int)<((Ba<|pre++k::post).length:Int))=Y from AR J,A2,AY hlen,Of,AY hb,Oj];rw[A5<|show U (bsA kn k=noB)=Y from e,A5<|BD (by simp;simp at hl;omega),Dg hlen<|by simpa using hl,Am];simp[Ba]
   .have:=ih (pre++[k]) y (o++[k]) hy hl2 y8 λx hx=>hk x<|Ah k hx;rw[← snoc]at this;rw[show DI kn (k::post)=k::DI kn post by unfold DI;rw[JY,e,A5 rfl]];rw[show EP kn (k::post) (L y)=EP kn post (L y) by unfold EP;rw[Du,e,A5 rfl]];rw[snoc o k<|DI kn post];exact this
  .have hs:(bsA kn k).size=4:=by
    obtain h2|h2:=hkn.2 k h1
    .exact absurd h2 (JV e)
    .exact h2
   refine At (x':=(kn,Ba o,B<|C9 (L y)<|L<|bsA kn k,Ba<|pre++k::post,((pre++[k]).length:Int),())) ?_ ?_
   .unfold WW;simp only[show U ((j8 pre:Int)<((Ba<|pre++k::post).length:Int))=Y from AR J,A2,AY hlen,Of,AY hb,Oj];rw[A9 (by intro h;unfold unk at e;rw[h]at e;cases e),aBg hy hs,Dg hlen (by simpa using hl),Am];rfl
   .have:=ih (pre++[k]) (B<|C9 (L y)<|L<|bsA kn k) o (by rw[BP,QK<|by rw[Ax,Ax,hy,hs],Ax,hy]) hl2 y8 λx hx=>hk x<|Ah k hx;rw[← snoc]at this;rw[show DI kn (k::post)=DI kn post by unfold DI;rw[JY,e,A4]];rw[show EP kn (k::post) (L y)=EP kn post (C9 (L y)<|L<|bsA kn k) by unfold EP;rw[Du,e,A4]];exact this
end
def F7(b:Nat)(kn:List A1)(m:AQ):Option (List A1):=
 if inB m.nu 0 999&&U ((m.da.size:Int)=4) then
  (match DI kn (Bg (b:Int) m.nu) with
   | [u]=>I (kn.set u<|B<|EP kn (Bg (b:Int) m.nu)<|L m.da)
   | _=>G)
 else G
def CN(b:Nat)(s:List A1×Bool)(m:AQ):List A1×Bool:=match F7 b s.1 m with|some kn=>(kn,Y)|none=>s
def Im(b:Nat)(list:List AQ)(kn:List A1):List A1×Bool:=list.foldl (CN b) (kn,A0)
def Ge(b:Nat)(list:List AQ):Nat->List A1->List A1
 | 0,kn=>kn
 | n+1,kn=>if(Im b list kn).2 then Ge b list n (Im b list kn).1 else(Im b list kn).1
def Tf{kn:List A1}{u:Nat}(v:A1)(hu:u<kn.length)(k:Nat):bsA (kn.set u v) k=if k=u then v else bsA kn k:=by
 rw[bsA,BG,U8];by_cases h:u=k
 .subst h;simp[hu]
 .rw[A9 h,A9<|LL h,← BG]
def ab6{f g:Nat->Bool}(h:∀i,g i=Y->f i=Y):∀k,cnt g k<=cnt f k
 | 0=>Ar _
 | k+1=>by
  have:=ab6 h k;rw[cnt,cnt];obtain e|e:=tf (g k)
  .rw[e,h k e];omega
  .rw[e,A4];omega
def ab5{f g:Nat->Bool}(h:∀i,g i=Y->f i=Y){u:Nat}(hf:f u=Y)(hg:g u=A0):∀k,u<k->cnt g k<cnt f k
 | 0,h=>J
 | k+1,hk=>by
  rw[cnt,cnt];by_cases e:u=k
  .subst e;rw[hf,hg,A5 rfl,A4];have:=ab6 h u;omega
  .have:=ab5 h hf hg k J;obtain e|e:=tf (g k)
   .rw[e,h k e];omega
   .rw[e,A4];omega
def TV{b:Nat}{kn kn':List A1}{m:AQ}(h:Ca b kn)(e:F7 b kn m=I kn'):
  Ca b kn'/\(∀k,unk kn' k=Y->unk kn k=Y)/\cnt (unk kn') b<cnt (unk kn) b:=by
 unfold F7 at e;split at e
 .rename_i hc;rw[AE]at hc;have hs:=BW hc.2;split at e
  .rename_i u hu;injection e with e;subst e;have FR:u∈DI kn (Bg (b:Int) m.nu):=by rw[hu];exact MP u
   obtain⟨h1,h2⟩:=F8.1 FR;have h3:=Lq h1;have hub:u<b:=J
   have hul:u<kn.length:=by rw[h.1];exact hub
   have hlen:(B<|EP kn (Bg (b:Int) m.nu)<|L m.da).size=4:=by
    rw[BP,l6 h (by rw[Ax];omega) λk hk=>by have:=Lq hk;omega]
   have hno:B (EP kn (Bg (b:Int) m.nu)<|L m.da)≠noB:=by
    intro hh;rw[hh]at hlen;cases hlen
   have ac6:∀k,unk (kn.set u<|B<|EP kn (Bg (b:Int) m.nu)<|L m.da) k=Y->unk kn k=Y:=by
    intro k hk;unfold unk at hk;rw[Tf _ hul]at hk;by_cases ek:k=u
    .rw[A5 ek]at hk;exact absurd (BW hk) hno
    .rw[A9 ek]at hk;exact hk
   refine⟨⟨by rw[G2,h.1], ?_⟩,ac6,ab5 ac6 h2 ?_ b hub⟩
   .intro k hk;rw[Tf _ hul];by_cases ek:k=u
    .rw[A5 ek];exact NV hlen
    .rw[A9 ek];exact h.2 k hk
   .unfold unk;rw[Tf _ hul,A5 rfl];exact BH hno
  .cases e
 .cases e
def N1{b:Nat}:∀(list:List AQ) (s:List A1×Bool),Ca b s.1->
  Ca b (list.foldl (CN b) s).1/\(∀k,unk (list.foldl (CN b) s).1 k=Y->unk s.1 k=Y)/\cnt (unk (list.foldl (CN b) s).1) b<=cnt (unk s.1) b/\
  ((list.foldl (CN b) s).2=Y->s.2=Y\/cnt (unk (list.foldl (CN b) s).1) b<cnt (unk s.1) b)
 | [],s,h=>⟨h,λ_ hk=>hk,Ar _,λhs=>NX hs⟩
 | m::list,s,h=>by
  rw[Du];cases e:F7 b s.1 m with
  | none=>
   rw[show CN b s m=s by unfold CN;rw[e]];exact N1 list s h
  | some kn=>
   rw[show CN b s m=(kn,Y) by unfold CN;rw[e]];obtain⟨a1,a2,a3⟩:=TV h e;obtain⟨b1,b2,b3,_⟩:=N1 list (kn,Y) a1;have b4:cnt (unk (list.foldl (CN b) (kn,Y)).1) b<=cnt (unk kn) b:=b3;exact⟨b1,λk hk=>a2 k<|b2 k hk,J,λ_=>NV J⟩
end Go.VS
namespace Go.VS
open Go
def ME(pre:List AQ)(m:AQ)(post:List AQ): @rd AQ aHl (pre++m::post) (j8 pre:Int)=m:=by
 rw[Oi,BG,FN<|Ar _];simp
def ase(u:Nat):abZ (-1) [u]=(u:Int):=rfl
def aCX{b:Nat}{kn kn':List A1}{m:AQ}(ag:Bool)(h:F7 b kn m=I kn'):CN b (kn,ag) m=(kn',Y):=by unfold CN;rw[h]
def Sn{b:Nat}{kn:List A1}{m:AQ}(ag:Bool)(h:F7 b kn m=G):CN b (kn,ag) m=(kn,ag):=by unfold CN;rw[h]
def aF8{b:Nat}{kn:List A1}{n:Int}{u:Nat}(h:DI kn (Bg (b:Int) n)=[u]):u<b:=by
 have:u∈DI kn (Bg (b:Int) n):=by rw[h];exact MP u
 have:=Lq (F8.1 this).1;omega
def arc{b:Nat}(h6:b<=6)(list:List AQ)(post:List AQ):∀(pre:List AQ) (kn:List A1) (ag:Bool),Ca b kn->(pre++post).length<=1048576->
  V7 ((b:Int),list,kn,ag,pre++post,((pre++post).length:Int),(j8 pre:Int),())=
   I (.inr ((b:Int),list,(post.foldl (CN b) (kn,ag)).1,(post.foldl (CN b) (kn,ag)).2,())):=by
 induction post with
 | nil=>
  intro pre kn ag _ _;refine BC ?_;unfold O1;simp only[CE,show U ((j8 pre:Int)<(j8 pre:Int))=A0 from BH J,A4];rfl
 | cons m post ih=>
  intro pre kn ag hk hl;have hlen:pre.length<(pre++m::post).length:=by simp
  have hw:=Dg hlen hl;have nxt:∀(kn':List A1) (ag':Bool),Ca b kn'->CN b (kn,ag) m=(kn',ag')->
    O1 ((b:Int),list,kn,ag,pre++m::post,((pre++m::post).length:Int),(j8 pre:Int),())=I (.inl ((b:Int),list,kn',ag',pre++m::post,((pre++m::post).length:Int),((pre.length+1:Nat):Int),()))->
    V7 ((b:Int),list,kn,ag,pre++m::post,((pre++m::post).length:Int),(j8 pre:Int),())=
     I (.inr ((b:Int),list,((m::post).foldl (CN b) (kn,ag)).1,((m::post).foldl (CN b) (kn,ag)).2,())):=by
   intro kn' ag' h1 h2 h3;refine At h3 ?_;have:=ih (pre++[m]) kn' ag' h1 (by rw[← snoc];exact hl);rw[← snoc,@Am _ pre [m]]at this;rw[Du,h2];exact this
  obtain e1|e1:=tf (inB m.nu 0 999)
  .by_cases e2:(m.da.size:Int)=4
   .have hh:F7 b kn m=(match DI kn (Bg (b:Int) m.nu) with|[u]=>I (kn.set u<|B<|EP kn (Bg (b:Int) m.nu)<|L m.da)|_=>G):=by
     unfold F7;rw[A5<|by rw[e1,AR e2]<;>rfl]<;>rfl
    have hlo:(Bg (b:Int) m.nu).length<=1048576:=C6 (Xm _ _) J;have hi:=au6 hk (b:Int) list (pre++m::post) ag ((pre++m::post).length:Int) (j8 pre:Int) (Bg (b:Int) m.nu) [] m.da (-1) 0 J hlo (Ar _) λk h=>by have:=Lq h;omega
    have hi2:cU ((b:Int),list,kn,ag,m.da,-1,0,pre++m::post,((pre++m::post).length:Int),(j8 pre:Int),Ba<|Bg (b:Int) m.nu,((Ba<|Bg (b:Int) m.nu).length:Int),0,())=_:=hi;by_cases e3:(DI kn<|Bg (b:Int) m.nu).length=1
    .obtain⟨u,hu⟩:=aDG.1 e3;rw[hu]at hh;have hub:=aF8 hu;refine nxt _ Y (TV hk hh).1 (aCX ag hh) ?_;unfold O1;simp only[show U ((j8 pre:Int)<((pre++m::post).length:Int))=Y from AR J,A2,AY hlen,ME,EK,A6,e1,e2,AB,AW,EX,A4,jq,hi2,hu];simp only[AP,A6,ase,AY (show u<kn.length by rw[hk.1];exact hub),A2,Bc,hw];rfl
    .have hn:F7 b kn m=G:=by
      rw[hh];split
      .rename_i u hu;rw[hu]at e3;exact absurd rfl e3
      .rfl
     refine nxt kn ag hk (Sn ag hn) ?_;unfold O1;simp only[show U ((j8 pre:Int)<((pre++m::post).length:Int))=Y from AR J,A2,AY hlen,ME,EK,A6,e1,e2,AB,AW,EX,A4,jq,hi2];simp only[AP,A6,DM,show U (((DI kn<|Bg (b:Int) m.nu).length:Int)=1)=A0 from BH J,A4,hw]
   .have hn:F7 b kn m=G:=by
     unfold F7;rw[A9 (by rw[BH e2,BX];exact CF)]
    refine nxt kn ag hk (Sn ag hn) ?_;unfold O1;simp only[show U ((j8 pre:Int)<((pre++m::post).length:Int))=Y from AR J,A2,AY hlen,ME,EK,A6,BH e2,AH,DU,hw]
  .have hn:F7 b kn m=G:=by
    unfold F7;rw[A9 (by rw[e1,AO];exact CF)]
   refine nxt kn ag hk (Sn ag hn) ?_;unfold O1;simp only[show U ((j8 pre:Int)<((pre++m::post).length:Int))=Y from AR J,A2,AY hlen,ME,EK,A6,e1,AH,Bw,hw]
def nV{b:Nat}(h0:0<b)(h6:b<=6)(n:Int):Dc (b:Int) n=inB n 0 999:=by
 unfold Dc;rw[Aa.2 J,AS]
def apI{b:Nat}{kn:List A1}(hk:Ca b kn)(n:Int){d:A1}(hd:d.size=4):
  gb ((b:Int),(n,d,()),kn,())=I ((Ba<|DI kn<|Bg (b:Int) n,B<|EP kn (Bg (b:Int) n)<|L d,()),()):=by
 unfold gb;simp only[aBi,A6];have hlo:(Bg (b:Int) n).length<=1048576:=C6 (Xm _ _) J;have hi:=atO hk (Bg (b:Int) n) [] d [] hd hlo (Ar _) λk h=>by have:=Lq h;omega
 have hi2:dC (kn,[],d,Ba<|Bg (b:Int) n,0,())=_:=hi;rw[hi2];rfl
def iG(b n:Int)(d:A1):SL (b,(n,d,()),())=I ((Dc b n&&U ((d.size:Int)=4),()),()):=by
 unfold SL;simp only[XV,A6]
def art{b:Nat}(h0:0<b)(h6:b<=6)(post:List AQ):∀(pre:List AQ) (kn:List A1) (ag:Bool),Ca b kn->(pre++post).length<=1048576->
  VH ((b:Int),pre++post,kn,ag,(j8 pre:Int),())=
   I (.inr ((b:Int),pre++post,(post.foldl (CN b) (kn,ag)).1,(post.foldl (CN b) (kn,ag)).2,())):=by
 induction post with
 | nil=>
  intro pre kn ag _ _;refine BC ?_;unfold Pn;simp only[CE,show U ((j8 pre:Int)<(j8 pre:Int))=A0 from BH J,A4];rfl
 | cons m post ih=>
  intro pre kn ag hk hl;have hlen:pre.length<(pre++m::post).length:=by simp
  have hw:=Dg hlen hl;have nxt:∀(kn':List A1) (ag':Bool),Ca b kn'->CN b (kn,ag) m=(kn',ag')->
    Pn ((b:Int),pre++m::post,kn,ag,(j8 pre:Int),())=I (.inl ((b:Int),pre++m::post,kn',ag',((pre.length+1:Nat):Int),()))->
    VH ((b:Int),pre++m::post,kn,ag,(j8 pre:Int),())=
     I (.inr ((b:Int),pre++m::post,((m::post).foldl (CN b) (kn,ag)).1,((m::post).foldl (CN b) (kn,ag)).2,())):=by
   intro kn' ag' h1 h2 h3;refine At h3 ?_;have:=ih (pre++[m]) kn' ag' h1 (by rw[← snoc];exact hl);rw[← snoc,@Am _ pre [m]]at this;rw[Du,h2];exact this
  obtain e|e:=tf (inB m.nu 0 999&&U ((m.da.size:Int)=4))
  .have e':=e;rw[AE]at e';have e2:=BW e'.2;have hh:F7 b kn m=(match DI kn (Bg (b:Int) m.nu) with|[u]=>I (kn.set u<|B<|EP kn (Bg (b:Int) m.nu)<|L m.da)|_=>G):=by
    unfold F7;rw[A5 e]<;>rfl
   have hL:=apI hk m.nu (d:=m.da) J;by_cases e3:(DI kn<|Bg (b:Int) m.nu).length=1
   .obtain⟨u,hu⟩:=aDG.1 e3;rw[hu]at hh;have hub:=aF8 hu;refine nxt _ Y (TV hk hh).1 (aCX ag hh) ?_;unfold Pn;simp only[show U ((j8 pre:Int)<((pre++m::post).length:Int))=Y from AR J,A2,AY hlen,ME,iG,nV h0 h6,A6,e,AB,A4,hL,hu];rw[A5<|by rfl,A5<|by rfl,show @rd Int aHb (Ba [u]) 0=(u:Int) from rfl,A5<|AY (show u<kn.length by rw[hk.1];exact hub),hw];rfl
   .have hn:F7 b kn m=G:=by
     rw[hh];split
     .rename_i u hu;rw[hu]at e3;exact absurd rfl e3
     .rfl
    refine nxt kn ag hk (Sn ag hn) ?_;unfold Pn;simp only[show U ((j8 pre:Int)<((pre++m::post).length:Int))=Y from AR J,A2,AY hlen,ME,iG,nV h0 h6,A6,e,AB,A4,hL,De,
     show U (((DI kn<|Bg (b:Int) m.nu).length:Int)=1)=A0 from BH J,hw]
  .have hn:F7 b kn m=G:=by
    unfold F7;rw[A9 (by rw[e];exact CF)]
   refine nxt kn ag hk (Sn ag hn) ?_;unfold Pn;simp only[show U ((j8 pre:Int)<((pre++m::post).length:Int))=Y from AR J,A2,AY hlen,ME,iG,nV h0 h6,A6,e,AH,hw]
def aEC{b:Nat}(h6:b<=6)(list:List AQ)(hl:list.length<=1048576):∀(n:Nat) (kn:List A1),Ca b kn->cnt (unk kn) b<n->
  rr ((b:Int),list,kn,Y,())=I (.inr (Ge b list n kn,()))
 | 0,_,_,h=>J
 | n+1,kn,hk,h=>by
  have hr:=arc h6 list list [] kn A0 hk hl;have hr2:V7 ((b:Int),list,kn,A0,list,(list.length:Int),0,())=I (.inr ((b:Int),list,(Im b list kn).1,(Im b list kn).2,())):=hr;obtain⟨g1,g2,g3,g4⟩:=N1 list (kn,A0) hk;refine At (x':=((b:Int),list,(Im b list kn).1,(Im b list kn).2,())) ?_ ?_
  .unfold uI;simp only[A2,hr2];rfl
  .rw[Ge];obtain e|e:=tf (Im b list kn).2
   .rw[e,A5 rfl];obtain g|g:=g4 e
    .cases g
    .exact aEC h6 list hl n _ g1 (Gl g<|Nat.le_of_lt_succ h)
   .rw[e,A4];exact BC rfl
def aEK{b:Nat}(h0:0<b)(h6:b<=6)(list:List AQ)(hl:list.length<=1048576):∀(n:Nat) (kn:List A1),Ca b kn->cnt (unk kn) b<n->
  sA ((b:Int),list,kn,Y,())=I (.inr (Ge b list n kn,()))
 | 0,_,_,h=>J
 | n+1,kn,hk,h=>by
  have hr:=art h0 h6 list [] kn A0 hk hl;have hr2:VH ((b:Int),list,kn,A0,0,())=I (.inr ((b:Int),list,(Im b list kn).1,(Im b list kn).2,())):=hr;obtain⟨g1,g2,g3,g4⟩:=N1 list (kn,A0) hk;refine At (x':=((b:Int),list,(Im b list kn).1,(Im b list kn).2,())) ?_ ?_
  .unfold uC;simp only[A2,hr2];rfl
  .rw[Ge];obtain e|e:=tf (Im b list kn).2
   .rw[e,A5 rfl];obtain g|g:=g4 e
    .cases g
    .exact aEK h0 h6 list hl n _ g1 (Gl g<|Nat.le_of_lt_succ h)
   .rw[e,A4];exact BC rfl
def nq(f:Nat->Bool):∀k,cnt f k<=k
 | 0=>Ar _
 | k+1=>by
  have:=nq f k;rw[cnt];split<;>omega
def Ca.new(b:Nat):Ca b (BZ b noB):=by
 refine⟨by simp,λk hk=>NX ?_⟩;rw[bsA,BG,Zq,A5 hk];rfl
def He(b:Int)(list:List AQ):List A1:=if inB b 1 6 then Ge b.toNat list 7 (BZ b.toNat noB) else []
def anM(b:Int)(list:List AQ)(hl:list.length<=1048576):gA (b,list,())=I ((He b list,()),()):=by
 unfold gA He;simp only[EK,A6];obtain e|e:=tf (inB b 1 6)
 .have h1:=Aa.1 e;simp only[e,AB,A4,A2];rw[A5 y8];have:=aEC (b:=b.toNat) J list hl 7 _ (Ca.new _) (by have:=nq (unk<|BZ b.toNat noB) b.toNat;omega);rw[show((b.toNat:Nat):Int)=b by omega]at this;rw[show(dfl .str:A1)=noB from rfl,this];rfl
 .simp only[e,AH,A2,A4]
def alX(b:Int)(list:List AQ)(hl:list.length<=1048576):fq (b,list,())=I ((He b list,()),()):=by
 unfold fq He;simp only[I0,A6];obtain e|e:=tf (inB b 1 6)
 .have h1:=Aa.1 e;simp only[e,AB,A4,A2];rw[A5 y8];have:=aEK (b:=b.toNat) J J list hl 7 _ (Ca.new _) (by have:=nq (unk<|BZ b.toNat noB) b.toNat;omega);rw[show((b.toNat:Nat):Int)=b by omega]at this;rw[show(dfl .str:A1)=noB from rfl,this];rfl
 .simp only[e,AH,A2,A4]
def G0:List A1->A1->Option A1
 | [],a=>I a
 | x::r,a=>if x=noB then G else G0 r (a++x)
def YA:∀ {l:List A1} {a c:A1},(∀x∈l,x=noB\/x.size=4)->G0 l a=I c->c.size=a.size+4 * l.length
 | [],a,c,_,h=>by
  injection h with h;rw[h];rfl
 | x::r,a,c,hx,h=>by
  unfold G0 at h;split at h
  .cases h
  .rename_i hne;rw[YA (λy hy=>hx y<|Ah x hy) h,Bf,Bm];obtain h1|h1:=hx x Ao
   .exact absurd h1 hne
   .omega
def NE(pre:List A1)(x:A1)(post:List A1): @rd A1 aHj (pre++x::post) (j8 pre:Int)=x:=by
 rw[Oi,BG,FN<|Ar _];simp
abbrev ay(s:Int)(o:Option A1):(A1×Bool×D) ⊕ (Int×A1×D):=match o with|none=> .inl (noB,A0,())|some c=> .inr (s,c,())
def avF(s:Int)(post:List A1):∀(pre:List A1) (a:A1),(pre++post).length<=1048576->(∀x∈post,x.size<=4)->a.size<=4 * pre.length->
  cT (s,a,pre++post,((pre++post).length:Int),(j8 pre:Int),())=I (ay s<|G0 post a):=by
 induction post with
 | nil=>
  intro pre a _ _ _;refine BC ?_;unfold Vw;simp only[CE,show U ((j8 pre:Int)<(j8 pre:Int))=A0 from BH J,A4];rfl
 | cons x post ih=>
  intro pre a hl hx ha;have hlen:pre.length<(pre++x::post).length:=by simp
  have hw:=Dg hlen hl;have hx4:=hx x Ao;by_cases e:x=noB
  .refine BC ?_;unfold Vw G0;simp only[show U ((j8 pre:Int)<((pre++x::post).length:Int))=Y from AR J,A2,AY hlen,NE];rw[A5<|AR e,A5 e]
  .refine At (x':=(s,a++x,pre++x::post,((pre++x::post).length:Int),((pre++[x]).length:Int),())) ?_ ?_
   .unfold Vw;simp only[show U ((j8 pre:Int)<((pre++x::post).length:Int))=Y from AR J,A2,AY hlen,NE];rw[A9 (by rw[BH e];exact CF),A5<|AR (by simp at hl;omega),hw,@Am _ pre [x]];rfl
   .have:=ih (pre++[x]) (a++x) (by rw[← snoc];exact hl) (λy hy=>hx y<|Ah x hy) (by rw[Bf,Am,KH];omega);rw[← snoc]at this;rw[show G0 (x::post) a=G0 post (a++x) from A9 e];exact this
def av4(s:Int)(post:List A1):∀(pre:List A1) (a:A1),(pre++post).length<=1048576->(∀x∈post,x.size<=4)->a.size<=4 * pre.length->
  ck (s,pre++post,a,(j8 pre:Int),())=I (ay s<|G0 post a):=by
 induction post with
 | nil=>
  intro pre a _ _ _;refine BC ?_;unfold W9;simp only[CE,show U ((j8 pre:Int)<(j8 pre:Int))=A0 from BH J,A4];rfl
 | cons x post ih=>
  intro pre a hl hx ha;have hlen:pre.length<(pre++x::post).length:=by simp
  have hw:=Dg hlen hl;have hx4:=hx x Ao;by_cases e:x=noB
  .refine BC ?_;unfold W9 G0;simp only[show U ((j8 pre:Int)<((pre++x::post).length:Int))=Y from AR J,A2,AY hlen,NE];rw[A5<|AR e,A5 e]
  .refine At (x':=(s,pre++x::post,a++x,((pre++[x]).length:Int),())) ?_ ?_
   .unfold W9;simp only[show U ((j8 pre:Int)<((pre++x::post).length:Int))=Y from AR J,A2,AY hlen,NE];rw[A9 (by rw[BH e];exact CF),A5<|AR (by simp at hl;omega),hw,@Am _ pre [x]];rfl
   .have:=ih (pre++[x]) (a++x) (by rw[← snoc];exact hl) (λy hy=>hx y<|Ah x hy) (by rw[Bf,Am,KH];omega);rw[← snoc]at this;rw[show G0 (x::post) a=G0 post (a++x) from A9 e];exact this
def NC(c:A1)(s:Nat):Bool:=B5 (c.size - s) λi=>U<|bt c ((s+i:Nat):Int)=0
def asj{c:A1}{s:Nat}(h:s<=c.size)(hc:c.size<=1048576):rq ((s:Int),c,(s:Int),())=I (if NC c s then .inr ((s:Int),c,()) else .inl (noB,A0,())):=by
 refine D4 (λi=>((s:Int),c,((s+i:Nat):Int),())) (c.size - s) _ _ _ ?_ ?_
 .intro i hi;unfold fE;simp only[show U (((s+i:Nat):Int)<(c.size:Int))=Y from AR J,A2,AY (J:s+i<c.size)];rw[AU J J];obtain e|e:=tf (U<|bt c ((s+i:Nat):Int)=0)
  .simp only[e,AB,A4,A2];rfl
  .simp only[e,AH,A4,A2]
 .unfold fE;simp only[show U (((s+(c.size - s):Nat):Int)<(c.size:Int))=A0 from BH J,A4]
def atJ{c:A1}{s:Nat}(h:s<=c.size)(hc:c.size<=1048576):s9 ((s:Int),c,(s:Int),())=I (if NC c s then .inr ((s:Int),c,()) else .inl (noB,A0,())):=by
 refine D4 (λi=>((s:Int),c,((s+i:Nat):Int),())) (c.size - s) _ _ _ ?_ ?_
 .intro i hi;unfold fT;simp only[show U (((s+i:Nat):Int)<(c.size:Int))=Y from AR J,A2,AY (J:s+i<c.size)];rw[AU J J];obtain e|e:=tf (U<|bt c ((s+i:Nat):Int)=0)
  .simp only[e,AB,A4,A2];rfl
  .simp only[e,AH,A4,A2]
 .unfold fT;simp only[show U (((s+(c.size - s):Nat):Int)<(c.size:Int))=A0 from BH J,A4]
def Yl{b:Nat}(list:List AQ):∀(n:Nat) (kn:List A1),Ca b kn->Ca b (Ge b list n kn)
 | 0,_,h=>h
 | n+1,kn,h=>by
  have:=(N1 list (kn,A0) h).1;unfold Ge;split
  .exact Yl list n _ this
  .exact this
def Ca.all{b:Nat}{kn:List A1}(h:Ca b kn):∀x∈kn,x=noB\/x.size=4:=by
 intro x hx;obtain⟨k,hk,rfl⟩:=Zo.1 hx;have:=h.2 k (by rw[← h.1];exact hk);rw[bsA,BG,Av hk]at this;exact this
def mE{b:Int}(hb:inB b 1 6=Y)(list:List AQ):Ca b.toNat (He b list):=by
 unfold He;rw[A5 hb];exact Yl list 7 _<|Ca.new _
def Ca.le{b:Nat}{kn:List A1}(h:Ca b kn):∀x∈kn,x.size<=4:=by
 intro x hx;obtain h1|h1:=h.all x hx
 .rw[h1];exact Ch _
 .omega
def Es(s:Int)(list:List AQ):A1×Bool:=
 if inB s 1 24 then(match G0 (He (Ay (s+3) 4) list) noB with
  | none=>(noB,A0)
  | some c=>if NC c s.toNat then(c.extract 0 s.toNat,Y) else(noB,A0)) else(noB,A0)
def aCC(s:Int)(hs:0<=s)(c:A1)(hc:s<=c.size)(b:Bool):
  AP (I<|if b then(.inr (s,c,()):(A1×Bool×D) ⊕ (Int×A1×D)) else .inl (noB,A0,())) (λy=>I (y,()))
   (λy=>if(U (0<=y.1)&&U (y.1<=(y.2.1.size:Int))) then I ((y.2.1.extract 0<|AJ y.1,Y,()),()) else G)=
   I (((if b then(c.extract 0 s.toNat,Y) else(noB,A0)).1,(if b then(c.extract 0 s.toNat,Y) else(noB,A0)).2,()),()):=by
 cases b
 .rfl
 .show(if(U (0<=s)&&U (s<=(c.size:Int))) then _ else _)=_;rw[A5 y8];rfl
def anL(s:Int)(list:List AQ)(hl:list.length<=1048576):fy (s,list,())=I (((Es s list).1,(Es s list).2,()),()):=by
 unfold fy Es;simp only[EK,A6];obtain e|e:=tf (inB s 1 24)
 .have h1:=Aa.1 e;have hd:Ay (s+3) 4=(s+3) / 4:=Fh J;simp only[e,AB,A4,A2];rw[AU (n:=s+4) J J,AU (n:=s+4 - 1) J J,show s+4 - 1=s+3 by omega,AU J J,anM _ _ hl];simp only[A6];have hb:inB (Ay (s+3) 4) 1 6=Y:=Aa.2 J;have hk:=mE hb list;have q6:=avF s (He (Ay (s+3) 4) list) [] noB (by rw[EV,hk.1];omega) (Ca.le hk)<|Ar _;have pb:cT (s,noB,He (Ay (s+3) 4) list,((He (Ay (s+3) 4) list).length:Int),0,())=_:=q6;rw[pb];cases hc:G0 (He (Ay (s+3) 4) list) noB with
  | none=>rfl
  | some c=>
   have hz:=YA hk.all hc;have hz0:noB.size=0:=rfl;rw[hk.1,hz0]at hz;have hzero:=asj (c:=c) (s:=s.toNat) J J;rw[show((s.toNat:Nat):Int)=s by omega]at hzero;simp only[AP,A6,ay];rw[hzero];exact aCC s J c J _
 .simp only[e,AH,A2,A4]
def alW(s:Int)(list:List AQ)(hl:list.length<=1048576):fp (s,list,())=I (((Es s list).1,(Es s list).2,()),()):=by
 unfold fp Es;simp only[I0,A6];obtain e|e:=tf (inB s 1 24)
 .have h1:=Aa.1 e;have hd:Ay (s+3) 4=(s+3) / 4:=Fh J;simp only[e,AB,A4,A2,W5 (n:=s) J J,A6];rw[alX _ _ hl];simp only[A6];have hb:inB (Ay (s+3) 4) 1 6=Y:=Aa.2 J;have hk:=mE hb list;have q6:=av4 s (He (Ay (s+3) 4) list) [] noB (by rw[EV,hk.1];omega) (Ca.le hk)<|Ar _;have pb:ck (s,He (Ay (s+3) 4) list,noB,0,())=_:=q6;rw[pb];cases hc:G0 (He (Ay (s+3) 4) list) noB with
  | none=>rfl
  | some c=>
   have hz:=YA hk.all hc;have hz0:noB.size=0:=rfl;rw[hk.1,hz0]at hz;have hzero:=atJ (c:=c) (s:=s.toNat) J J;rw[show((s.toNat:Nat):Int)=s by omega]at hzero;simp only[AP,A6,ay];rw[hzero];exact aCC s J c J _
 .simp only[e,AH,A2,A4]
end Go.VS
end
