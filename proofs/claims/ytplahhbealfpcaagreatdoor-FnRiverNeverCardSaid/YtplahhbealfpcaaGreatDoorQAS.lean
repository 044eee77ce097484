/- Part 19. -/
import Derived.Lib.ItoaMem
import Derived.Test.YtplahhbealfpcaaGreatDoorQAR
open BitVec renaming eq_of_toNat_eq->lQ,ofInt->F1,toNat_ofInt->QY
open Bool renaming and_eq_true->AE,and_false->Bc,and_self->Du,and_true->M6,eq_iff_iff->M5,false->A3,false_and->AO,false_ne_true->Cg,false_or->Bi,not_eq_true'->CL,not_false->AI,not_true->AB,or_eq_false_iff->NC,or_eq_true->CB,or_false->EK,or_self->FU,or_true->Cv,true->A0,true_and->AW,true_or->Bo
open Classical renaming choose->ND,choose_spec->Ig
open Decidable renaming decide->A1
open Eq renaming trans->Jw
open Go.IntKind renaming wrap->Yr
open Go.Lib renaming cut->FH,decDigits->lW,index_one->Td,itoa->B6,itoa_neg->lH,splitB->Ih,splitK->GB
open Int renaming emod_eq_of_lt->lB,eq_ofNat_of_zero_le->Gy,le_refl->E7,mul_comm->Qe,tdiv->Ax,tdiv_eq_ediv_of_nonneg->Fv,tmod->BG,tmod_eq_emod_of_nonneg->Kr,toNat->AL,toNat_natCast->Bb
open List renaming all_eq_true->C0,append_assoc->Bw,append_cancel_left->aBQ,append_nil->CM,concat_eq_append->aBb,cons_append->Ko,count_cons_self->aBd,drop->Bm,dropWhile_cons->l8,drop_append_of_le_length->l6,drop_drop->Jx,drop_eq_getElem_cons->TP,drop_eq_nil_of_le->Ly,drop_left'->QX,drop_zero->Ib,eq_nil_of_length_eq_zero->E6,eq_nil_or_concat->aBa,filter_append->Yd,filter_cons->Kq,flatMap_append->lX,foldlM_cons->TO,foldl_cons->EL,foldl_nil->M4,getD_eq_getElem?_getD->B9,getElem?_append_left->I9,getElem?_append_right->FG,getElem?_drop->Ha,getElem?_eq_getElem->Av,getElem?_eq_none->HV,getElem?_eq_some_iff->BL,getElem?_map->D2,getElem?_range->GY,getElem?_replicate->Yh,getElem?_set->NB,getElem_mem->CJ,getElem_of_mem->DG,length->JL,length_append->Ar,length_cons->Bt,length_drop->E4,length_eq_one_iff->aBS,length_filter_le->Ic,length_map->E5,length_nil->CA,length_set->GA,length_take->Cw,length_zipWith->l9,map_append->Es,map_congr_left->GS,map_cons->DP,map_id->Yo,map_map->I7,map_nil->JM,mem_append->BM,mem_append_left->Bq,mem_cons->Bj,mem_cons_of_mem->Am,mem_cons_self->Ap,mem_filter->FF,mem_map->DE,mem_of_getElem?->Cb,mem_of_mem_drop->Kl,mem_of_mem_take->Gx,mem_range->DD,mem_singleton->C9,mem_singleton_self->N9,nil_append->EM,range->BJ,range_succ->Ku,replicate->BT,replicate_succ->aBg,take->BH,takeWhile_append_dropWhile->Yb,takeWhile_cons->Qb,takeWhile_sublist->aBR,take_add_one->JI,take_append_drop->JH,take_left'->P1,take_length->Dw,take_of_length_le->Ie,take_take->Yp,zipWith_cons_cons->Ov
open List.cons renaming injEq->M3
open Nat renaming add_assoc->D3,add_comm->NA,add_zero->HP,le_refl->As,le_trans->Ca,lt_of_lt_of_le->Ga,lt_or_ge->HU,lt_trans->Ym,lt_trichotomy->Jv,mod_eq_of_lt->Oz,mod_lt->P9,pow_succ->lG,sub_self->TZ,sub_zero->JN,zero_add->DF,zero_le->Cu
open Ne renaming symm->Ky
open Option renaming bind_eq_some_iff->Aj,bind_some->A9,filter_eq_some_iff->Ow,getD_some->DO,isSome_some->DY,none->U,some->I
open Option.some renaming injEq->Bp
open Or renaming inl->NQ,inr->NP
open Prod.mk renaming injEq->CG
open UInt8 renaming ofNat->Jy,toNat_inj->QW
set_option linter.all false
noncomputable section
namespace Go.VS
open Go
def avf{A R:Type}{t:(A->Option R)->A->Option R}{x:A}{v:R}(hv:∀k r,Bg t k x=I r->r=v)(he:∃k,Bg t k x=I v):NS t x=I v:=by
 cases h:NS t x with
 | none=>
  exfalso;obtain⟨k,hk⟩:=he;unfold NS at h;rw[dif_pos ⟨k,v,hk⟩]at h;cases h
 | some r=>
  obtain⟨k,hk⟩:=aCM h;rw[hv k r hk]
def je{σ β γ:Type}{b:σ->Option (σ ⊕ (β ⊕ γ))}(st:Nat->σ)(n:Nat)(p:Nat->Bool)(r:β)(fin:γ)
  (h:∀i,i<n->(∀j,j<i->p j=A0)->b (st i)=I (if p i then .inl (st<|i+1) else .inr (.inl r)))
  (hn:(∀j,j<n->p j=A0)->b (st n)=I (.inr<|.inr fin)):AR b (st 0)=I (if At n p then .inr fin else .inl r):=by
 have:∀k,k<=n->(∀j,j<n - k->p j=A0)->AR b (st<|n - k)=I (if Lg p k (n - k) then .inr fin else .inl r):=by
  intro k
  induction k with
  | zero=>intro _ hp;exact BP<|hn hp
  | succ k ih=>
   intro hk hp;have h1:=h (n - (k+1)) J hp;unfold Lg;rcases tf (p<|n - (k+1)) with hq|hq
   .rw[hq]at h1;rw[hq,AW];refine B0 h1 ?_;rw[show n - (k+1)+1=n - k by omega];exact ih J (λj hj=>by
     rcases HU j (n - (k+1)) with h2|h2
     .exact hp j h2
     .rw[show j=n - (k+1) by omega];exact hq)
   .rw[hq]at h1;rw[hq,AO];exact BP h1
 have:=this n (As _) (λj hj=>by omega);rwa[TZ]at this
abbrev dcm(u:Nat):List UInt8:=lW u
def KR{u:Nat}(h:u<10):dcm u=[Jy (48+u)]:=Lib.decDigits_one h
def Mr{u:Nat}(h:¬u<10):dcm u=dcm (u / 10)++[Jy (48+u % 10)]:=by rw[dcm,lW,dif_neg h]
def Le:∀(k u:Nat),1<=k->u<10 ^ k->(dcm u).length<=k
 | 0,_,h,_=>J
 | 1,u,_,h=>by rw[KR J];simp
 | k+2,u,_,h=>by
  by_cases h1:u<10
  .rw[KR h1];simp
  .rw[Mr h1];have:=Le (k+1) (u / 10) J (by rw[lG]at h;omega);simp;omega
def Ix(u:Nat):B6 (u:Int)=dcm u:=Lib.itoa_nonneg u
def BW(n:Int):A4:=⟨(B6 n).toArray⟩
def kQ{n:Nat}(h:n<10):BF [w8<|w64<|48+(n:Int)]=⟨(dcm n).toArray⟩:=by
 rw[KR h,AZ J J,N4,show(48+(n:Int)) % 256=((48+n:Nat):Int) by omega];rfl
def aDA(u:Nat):Ax (u:Int) 10=((u / 10:Nat):Int):=rfl
def aD8(u:Nat):BG (u:Int) 10=((u % 10:Nat):Int):=rfl
def kR(u:Nat):BF [w8<|w64<|48+((u % 10:Nat):Int)]=⟨[Jy (48+u % 10)].toArray⟩:=by
 rw[kQ J,KR J]
def mc(a b:List UInt8):(⟨a.toArray⟩:A4)++⟨b.toArray⟩=⟨(a++b).toArray⟩:=by
 apply Fl;rw[G7]
def aqQ:lW 9223372036854775808=[57,50,50,51,51,55,50,48,51,54,56,53,52,55,55,53,56,48,56]:=by
 show dcm _=_
 repeat (first|rw[KR J]|rw[Mr J])
 rfl
def X7:∀(k:Nat) (n:Int),-9223372036854775808<=n->n<=9223372036854775807->∀r,Bg (λg=>GJ g) k (n,())=I r->r=((BW n,()),())
 | 0,_,_,_,r,h=>by cases h
 | k+1,n,h0,h1,r,h=>by
  have ih:=X7 k
  replace h:GJ (Bg (λg=>GJ g) k) (n,())=I r:=h
  generalize Bg (λg=>GJ g) k=G at ih h;unfold GJ at h;by_cases hn:n < -9223372036854775807
  .simp only[hn,AU,A5]at h;cases h;obtain rfl:n= -9223372036854775808:=J
   have:BW (-9223372036854775808)=B [45,57,50,50,51,51,55,50,48,51,54,56,53,52,55,55,53,56,48,56]:=by
    apply Fl;show B6 (-9223372036854775808)=_;rw[show(-9223372036854775808:Int)= -((9223372036854775808:Nat):Int) by rfl,lH _ J];rw[L_B];rw[aqQ]
   rw[this]
  .rw[AD<|by simpa using hn]at h;by_cases Nj:n<0
   .rw[A8<|by simpa using Nj]at h;simp only at h;rw[AZ J J]at h;obtain⟨r4,e4,h⟩:=Aj.1 h;have:=ih (0 - n) J J r4 e4;subst this;split at h
    .cases h;obtain⟨u,hu⟩:=Gy (show 0<= -n by omega);obtain rfl:n= -(u:Int):=J
     have:BW (-(u:Int))=B [45]++BW (0 - -(u:Int)):=by
      unfold BW;rw[lH _ J,show(0:Int) - -(u:Int)=(u:Int) by omega,Ix];rw[B,mc];rfl
     rw[this]
    .cases h
   .rw[AD<|by simpa using Nj]at h;obtain⟨u,hu⟩:=Gy (show 0<=n by omega);obtain rfl:n=(u:Int):=hu;by_cases hs:u<10
    .rw[A8 (by simp;omega)]at h;simp only at h;cases h;rw[kQ hs,BW,Ix]
    .rw[AD (by simp;omega)]at h;simp only[aDA,aD8]at h;rw[AZ J J]at h;obtain⟨r7,e7,h⟩:=Aj.1 h;have:=ih ((u / 10:Nat):Int) J J r7 e7;subst this;split at h
     .cases h;rw[kR,BW,BW,Ix,Ix,mc,← Mr hs]
     .cases h
def jc:∀(k u:Nat),1<=k->k<=19->u<10 ^ k->u<=9223372036854775807->Bg (λg=>GJ g) k ((u:Int),())=I ((⟨(dcm u).toArray⟩,()),())
 | 0,_,h,_,_,_=>J
 | k+1,u,_,hk,h,h63=>by
  have e1:A1 ((u:Int) < -9223372036854775807)=A3:=by simp
  have e2:A1 ((u:Int)<0)=A3:=by simp
  have ih:=jc k<|u / 10;show GJ (Bg (λg=>GJ g) k) _=_;generalize Bg (λg=>GJ g) k=G at ih;unfold GJ;simp only[e1,e2,aDA,aD8,A7];by_cases hs:u<10
  .rw[A8 (by simp;omega),kQ hs]
  .rw[AD (by simp;omega),AZ J J];have hk0:1<=k:=by
    rcases Nat.eq_zero_or_pos k with rfl|h'
    .simp at h;omega
    .exact h'
   have hlt:u / 10<10 ^ k:=by rw[lG]at h;omega
   have hl:=Le k (u / 10) hk0 hlt;rw[ih hk0 J hlt J];simp only[A9];rw[A8,kR,mc,← Mr hs];have:(⟨(dcm<|u / 10).toArray⟩:A4).size=(dcm<|u / 10).length:=rfl;rw[decide_eq_true_eq,this,kR];show _+1<=_;omega
def FY{n:Int}(h0: -9223372036854775808<=n)(h1:n<=9223372036854775807):DQ (n,())=I ((BW n,()),()):=by
 refine avf (λk r h=>X7 k n h0 h1 r h) ?_;have oO:∀u:Nat,u<=9223372036854775807->u<10 ^ 19:=λu hu=>J
 by_cases hn:n < -9223372036854775807
 .refine⟨1, ?_⟩;cases h:Bg (λg=>GJ g) 1 (n,()) with
  | none=>simp only[Bg]at h;unfold GJ at h;rw[A8<|by simpa using hn]at h;cases h
  | some r=>rw[X7 1 n h0 h1 r h]
 .by_cases Nj:n<0
  .refine⟨20, ?_⟩;cases h:Bg (λg=>GJ g) 20 (n,()) with
   | none=>
    obtain⟨u,hu⟩:=Gy (show 0<= -n by omega);have ih:=jc 19 u J J (oO u J) J
    replace h:GJ (Bg (λg=>GJ g) 19) (n,())=U:=h
    generalize Bg (λg=>GJ g) 19=G at ih h;unfold GJ at h;rw[AD<|by simpa using hn,A8<|by simpa using Nj]at h;simp only at h;rw[AZ J J,show 0 - n=(u:Int) by omega,ih]at h;simp only[A9]at h;rw[A8]at h
    .cases h
    .have hl:=Le 19 u J<|oO u J;have e:(⟨(dcm u).toArray⟩:A4).size=(dcm u).length:=rfl;rw[decide_eq_true_eq,e];show 1+_<=_;omega
   | some r=>rw[X7 20 n h0 h1 r h]
  .obtain⟨u,hu⟩:=Gy (show 0<=n by omega);obtain rfl:n=(u:Int):=hu;exact⟨19,by rw[jc 19 u J J (oO u J) J,BW,Ix]⟩
def J3{n:Int}(h0: -9223372036854775808<=n)(h1:n<=9223372036854775807):Is (n,())=I ((BW n,()),()):=by
 show To _=_;unfold To;rw[A8 ⟨h0,h1⟩];rfl
def dig(b:UInt8):Bool:=inB (b.toNat:Int) 48 57
def val(l:List UInt8):Nat:=l.foldl (λa b=>10 * a+(b.toNat - 48)) 0
def XY(l:List UInt8)(b:UInt8):val (l++[b])=10 * val l+(b.toNat - 48):=by simp[val]
def ars{l:List UInt8}{i:Nat}(h:i<l.length):l.take (i+1)=l.take i++[l.getD i 0]:=by
 rw[JI,Av h];simp[h]
def Yz:∀(k:Nat) (l:List UInt8),l.length<=k->(∀b∈l,dig b=A0)->val l<10 ^ k:=by
 intro k
 induction k with
 | zero=>
  intro l hl _;obtain rfl:l=[]:=E6 J;decide
 | succ k ih=>
  intro l hl hd;rcases aBa l with rfl|⟨m,b,rfl⟩
  .exact Nat.pow_pos (by decide)
  .simp at hl hd;have h1:=ih m J (λx hx=>hd x<|.inl hx);have h2:=hd b<|.inr rfl;rw[aBb,XY,lG];have h3:=Af.1 h2;omega
def auT{m:List UInt8}:∀ {b:UInt8},dig b=A0->b≠48->(∀x∈m,dig x=A0)->1<=val (b::m):=by
 intro b hb hne hd;have h0:1<=val [b]:=by
  have:=Af.1 hb;have hn:b.toNat≠48:=λh=>hne<|QW.1 h;simp[val];omega
 have:∀(m:List UInt8) (a:Nat),1<=a->1<=m.foldl (λa b=>10 * a+(b.toNat - 48)) a:=by
  intro m
  induction m with
  | nil=>intro a h;exact h
  | cons x m ih=>intro a h;exact ih _<|show 1<=10 * a+(x.toNat - 48) by omega
 exact this m _<|by simpa[val] using h0
def J9(l:List UInt8):Bool:=match l with
 | []=>A3
 | [_]=>A0
 | b::_::_=> !decide (b=48)
def aEd:∀(k:Nat) (l:List UInt8),l.length=k->(∀b∈l,dig b=A0)->J9 l=A0->dcm (val l)=l:=by
 intro k
 induction k with
 | zero=>intro l hl _ h;obtain rfl:l=[]:=E6 hl;cases h
 | succ k ih=>
  intro l hl hd abh;rcases aBa l with rfl|⟨m,b,rfl⟩
  .cases abh
  .rw[aBb]at *;simp at hl;have hb:=hd b (by simp);have hb2:=Af.1 hb;have hof:∀n,b.toNat=n->Jy n=b:=λn h=>by rw[← h];simp
   cases m with
   | nil=>
    have:val ([]++[b])=b.toNat - 48:=by simp[val]
    rw[this,KR J,hof _ J];rfl
   | cons c m=>
    have hc:c≠48:=by
     cases m<;>simpa[J9] using abh
    have h1:=auT (m:=m) (hd c<|by simp) hc (λx hx=>hd x<|by simp[hx]);rw[XY,Mr J,show(10 * val (c::m)+(b.toNat - 48)) / 10=val (c::m) by omega,show(10 * val (c::m)+(b.toNat - 48)) % 10=b.toNat - 48 by omega,
     ih (c::m) hl (λx hx=>hd x<|Bq _ hx) (by cases m<;>simp[J9,hc]),hof _ J]
def YS:∀(k u:Nat),u<k->∀b∈dcm u,dig b=A0:=by
 intro k
 induction k with
 | zero=>intro u h;omega
 | succ k ih=>
  intro u h b hb;have hd:∀n,n<10->dig (Jy<|48+n)=A0:=λn hn=>by
   have:(Jy<|48+n).toNat=48+n:=by simp;omega
   unfold dig;rw[this];exact Af.2 ⟨J,J⟩
  by_cases hu:u<10
  .rw[KR hu]at hb;obtain rfl:=C9.1 hb;exact hd u hu
  .rw[Mr hu]at hb;rcases BM.1 hb with hb|hb
   .exact ih (u / 10) J b hb
   .obtain rfl:=C9.1 hb;exact hd _ J
def Xy:∀(k u:Nat),u<k->val (dcm u)=u:=by
 intro k
 induction k with
 | zero=>intro u h;omega
 | succ k ih=>
  intro u h;by_cases hu:u<10
  .rw[KR hu];have:(Jy<|48+u).toNat=48+u:=by simp;omega
   simp only[val,EL,M4,this];omega
  .rw[Mr hu,XY,ih (u / 10) J];have:(Jy<|48+u % 10).toNat=48+u % 10:=by simp;omega
   rw[this];omega
def ma(u:Nat):dcm u≠[]:=by
 by_cases hu:u<10
 .rw[KR hu];simp
 .rw[Mr hu];simp
def aEC:∀(k u:Nat),u<k->J9 (dcm u)=A0/\(1<=u->∃b m,dcm u=b::m/\b≠48):=by
 intro k
 induction k with
 | zero=>intro u h;omega
 | succ k ih=>
  intro u h;by_cases hu:u<10
  .rw[KR hu];refine⟨rfl,λh1=>⟨_,_,rfl,λh2=> ?_⟩⟩;have:(Jy<|48+u).toNat=48+u:=by simp;omega
   rw[h2]at this;simp at this;omega
  .obtain⟨b,m,h1,h2⟩:=(ih (u / 10) J).2 J;rw[Mr hu,h1];refine⟨?_,λ_=>⟨b,_,rfl,h2⟩⟩;cases m<;>simp[J9,h2]
def Ju(l:List UInt8):Option Nat:=if l.all dig&&J9 l then I (val l) else U
def Q5{l:List UInt8}{n:Nat}:Ju l=I n↔l=dcm n:=by
 unfold Ju;constructor
 .intro h;split at h
  .rename_i hc;simp at hc;cases h;exact(aEd _ l rfl hc.1 hc.2).symm
  .cases h
 .rintro rfl;rw[A8,Xy (n+1) n J];simp only[AE,C0];exact⟨YS (n+1) n J,(aEC (n+1) n J).1⟩
def awZ{s:A4}{i:Nat}:inB (bt s i) 48 57=dig ((L s).getD i 0):=rfl
def aEj{l:List UInt8}{f:UInt8->Bool}:At l.length (λi=>f<|l.getD i 0)=l.all f:=by
 rw[M5,CS,C0];constructor
 .intro h x hx;obtain⟨i,hi,rfl⟩:=DG hx;have:=h i hi;simpa[hi] using this
 .intro h i hi;simpa[hi] using h _<|CJ hi
def aAS{s:A4}{i:Nat}(h:∀j,j<i->inB (bt s j) 48 57=A0)(hi:i<=s.size):∀b∈(L s).take i,dig b=A0:=by
 intro b hb;obtain⟨j,hj,rfl⟩:=DG hb;simp at hj;have h1:=h j J;rw[awZ]at h1;have h2:j<(L s).length:=by rw[Ay];omega
 rw[List.getElem_take];have e:(L s).getD j 0=(L s)[j]:=by rw[B9,Av h2];rfl
 rwa[e]at h1
def aD5{s:A4}{i:Nat}(hi:i<s.size):val ((L s).take<|i+1)=10 * val ((L s).take i)+(((L s).getD i 0).toNat - 48):=by
 rw[ars (by rw[Ay];exact hi),XY]
def Aq(s:A4):Int×Bool:=if s.size<=5 then(match Ju (L s) with|some n=>((n:Int),A0)|none=>(0,A3)) else(0,A3)
def avR{s:A4}(h:1<=s.size):J9 (L s)= !(A1 (bt s 0=48)&&A1 (1<(s.size:Int))):=by
 rw[show s.size=(L s).length from rfl]at *;unfold bt;show _= !(A1 ((((L s).getD 0 0).toNat:Int)=48)&&_);generalize L s=l at *
 match l with
 | []=>simp at h
 | [b]=>simp[J9]
 | b::c::m=>
  have:(((b:UInt8).toNat:Int)=48)↔b=48:=⟨λh=>QW.1 (by show b.toNat=48;omega),λh=>by subst h;rfl⟩;simp only[J9,List.getD_cons_zero,this];simp;omega
def aAe(s:A4):(L s).take s.size=L s:=Ie (by rw[Ay];exact As _)
def eB{s:A4}(hs:s.size<=9223372036854775807):Pn (s,())=I (((Aq s).1,(Aq s).2,()),()):=by
 unfold Pn Aq;simp only[ED,A9];by_cases h5:s.size<=5
 .by_cases h1:1<=s.size
  .have e1:inB (s.size:Int) 1 5=A0:=Af.2 ⟨J,J⟩;have e2:inb 0 s.size=A0:=by have:=AP (show 0<s.size by omega);simpa using this
   have Fz:pv (s,0,0,())=I (if At s.size (λi=>inB (bt s i) 48 57) then .inr ((val (L s):Int),()) else .inl (0,A3,())):=by
    rw[← aAe s];refine je (λi=>(s,(val ((L s).take i):Int),(i:Int),())) s.size (λi=>inB (bt s i) 48 57) (0,A3,()) ((val ((L s).take s.size):Int),()) (λi hi hp=> ?_) (λ_=>by simp[dF]);unfold dF;simp only[AP hi,B7 hi,aak,ED,A9,B5 hi (by omega:s.size<=9223372036854775807)];rcases tf (inB (bt s i) 48 57) with h|h
    .have hv:=Yz 5 _ (by simp;omega)<|aAS hp J;have hb:=Af.1 h;have e:w64 (w64 (10 * (val ((L s).take i):Int))+w64 (w8<|bt s i - 48))=(val ((L s).take<|i+1):Int):=by
      rw[aD5 hi,N4,AZ (n:=10 * _) J J,lB J J,AZ (n:=bt s i - 48) J J,AZ J J];rw[Jj]at hb ⊢;omega
     simp only[h,e];rfl
    .simp only[h];rfl
   rw[e1,e2,A8 h5];simp only[Fz,AB,AI,Bi,IL,A5];have DT:At s.size (λi=>inB (bt s i) 48 57)=(L s).all dig:=aEj (l:=L s) (f:=dig);rw[DT];unfold Ju;rw[avR h1];rcases tf (A1 (bt s 0=48)&&A1 (1<(s.size:Int))) with h|h
   .rw[h];simp
   .rw[h];rcases tf ((L s).all dig) with h'|h'
    .rw[h'];rfl
    .rw[h'];rfl
  .have e1:inB (s.size:Int) 1 5=A3:=by simp[inB];omega
   have:L s=[]:=E6 (by rw[Ay];omega);rw[e1,A8 h5,this];simp[Ju,J9]
 .have e1:inB (s.size:Int) 1 5=A3:=by simp[inB];omega
  rw[e1,AD h5];simp
def Ad(s:A4):Int:=if s.size<=4 then(match Ju (L s) with|some n=>(n:Int)|none=> -1) else -1
def aED(u:Nat):BW (u:Int)=⟨(dcm u).toArray⟩:=by rw[BW,Ix]
def iZ{s:A4}(hs:s.size<=9223372036854775807):Pv (s,())=I ((Ad s,()),()):=by
 unfold Pv Ad;by_cases h5:s.size<=4
 .by_cases h1:1<=s.size
  .have e1:(A1 ((s.size:Int)<1)||decide (4<(s.size:Int)))=A3:=by simp;omega
   have Fz:rW (s,0,0,())=I (if At s.size (λi=>inB (bt s i) 48 57) then .inr (s,(val (L s):Int),()) else .inl (-1,())):=by
    rw[← aAe s];refine je (λi=>(s,(val ((L s).take i):Int),(i:Int),())) s.size (λi=>inB (bt s i) 48 57) (-1,()) (s,(val ((L s).take s.size):Int),()) (λi hi hp=> ?_) (λ_=>by simp[er]);unfold er;simp only[AP hi,B7 hi,B5 hi (by omega:s.size<=9223372036854775807)];rcases tf (inB (bt s i) 48 57) with h|h
    .have hv:=Yz 5 _ (by simp;omega)<|aAS hp J;have hb:=Af.1 h;have e:w64 (w64 ((val ((L s).take i):Int) * 10)+w64 (w8<|bt s i - 48))=(val ((L s).take<|i+1):Int):=by
      rw[aD5 hi,N4,AZ (n:=_ * 10) J J,lB J J,AZ (n:=bt s i - 48) J J,AZ J J];rw[Jj]at hb ⊢;omega
     have e2:A1 (bt s i<48)=A3:=by simp;omega
     have e3:A1 (57<bt s i)=A3:=by simp;omega
     simp only[h,e,e2,e3];rfl
    .have hb:bt s i<48\/57<bt s i:=by
      have:=mt Af.2 (by rw[h];simp);omega
     simp only[h];obtain hb|hb:=hb
     .simp[hb]
     .have:¬bt s i<48:=J
      simp[hb,this]
   rw[e1,A8 h5];simp only[Fz,A7];have DT:At s.size (λi=>inB (bt s i) 48 57)=(L s).all dig:=aEj (l:=L s) (f:=dig);rw[DT];unfold Ju;rcases tf ((L s).all dig) with h'|h'
   .have hd:=C0.1 h';have hv:=Yz 5 (L s) (by rw[Ay];omega) hd;simp only[h',A5,CR,AW,FY (n:=(val (L s):Int)) J J,A9,aED];rcases tf (J9<|L s) with hl|hl
    .have:(⟨(dcm<|val<|L s).toArray⟩:A4)=s:=by
      apply Fl;rw[n8,aEd _ _ rfl hd hl]
     simp[this,hl]
    .have:¬(⟨(dcm<|val<|L s).toArray⟩:A4)=s:=λh=>by
      have h2:=congrArg L h;rw[n8]at h2;rw[← h2,(aEC (val (L s)+1) _ J).1]at hl;cases hl
     simp[this,hl]
   .rw[h'];rfl
  .have e1:(A1 ((s.size:Int)<1)||decide (4<(s.size:Int)))=A0:=by simp;omega
   have:L s=[]:=E6 (by rw[Ay];omega);rw[e1,A8 h5,this];simp[Ju,J9]
 .have e1:(A1 ((s.size:Int)<1)||decide (4<(s.size:Int)))=A0:=by simp;omega
  rw[e1,AD h5];simp
def auF{s:A4}{n:Nat}:Aq s=((n:Int),A0)↔s.size<=5/\L s=dcm n:=by
 unfold Aq;by_cases h:s.size<=5
 .rw[A8 h];constructor
  .intro h2;cases h3:Ju (L s) with
   | none=>rw[h3]at h2;cases h2
   | some m=>
    rw[h3]at h2;simp at h2;exact⟨h,by rw[Q5.1 h3,show m=n by omega]⟩
  .rintro⟨_,h2⟩;rw[Q5.2 h2]
 .rw[AD h];constructor
  .intro h2;cases h2
  .rintro⟨h2,_⟩;exact absurd h2 h
def SE(s:A4):Aq s=(0,A3)\/ ∃n:Nat,Aq s=((n:Int),A0)/\s.size<=5/\L s=dcm n:=by
 unfold Aq;by_cases h:s.size<=5
 .rw[A8 h];cases h2:Ju (L s) with
  | none=>exact .inl rfl
  | some n=>exact .inr ⟨n,rfl,h,Q5.1 h2⟩
 .rw[AD h];exact .inl rfl
def SC(s:A4):(Ad s= -1/\ ∀n,L s=dcm n->4<s.size)\/ ∃n:Nat,Ad s=(n:Int)/\s.size<=4/\L s=dcm n:=by
 unfold Ad;by_cases h:s.size<=4
 .rw[A8 h];cases h2:Ju (L s) with
  | none=>exact .inl ⟨rfl,λn hn=>by rw[Q5.2 hn]at h2;cases h2⟩
  | some n=>exact .inr ⟨n,rfl,h,Q5.1 h2⟩
 .rw[AD h];exact .inl ⟨rfl,λn _=>by omega⟩
def kq{s:A4}{n:Nat}(h:s.size<=4)(hn:L s=dcm n):Ad s=(n:Int):=by
 unfold Ad;rw[A8 h,Q5.2 hn]
def jo{s:A4}{n:Nat}(h:s.size<=5)(hn:L s=dcm n):Aq s=((n:Int),A0):=auF.2 ⟨h,hn⟩
section
variable {α:Type} (f:α->Bool)
def ins(l:List α)(n:α):List α:=l.takeWhile f++n::l.dropWhile f
abbrev tw(l:List α):Nat:=(l.takeWhile f).length
def Ql(l:List α):tw f l<=l.length:=by
 exact(aBR f).length_le
def Xz(l:List α):l.take (tw f l)=l.takeWhile f:=by
 have:=List.take_left (l₁:=l.takeWhile f) (l₂:=l.dropWhile f);rwa[Yb]at this
def YA(l:List α):l.drop (tw f l)=l.dropWhile f:=by
 have:=List.drop_left (l₁:=l.takeWhile f) (l₂:=l.dropWhile f);rwa[Yb]at this
def Tl:∀ {l:List α} {i:Nat} {x:α},i<tw f l->l[i]? =I x->f x=A0
 | [],i,x,h,hx=>by simp at hx
 | y::l,i,x,h,hx=>by
  unfold tw at h;rw[Qb]at h;split at h
  .rename_i hy;cases i with
   | zero=>simp at hx;subst hx;exact hy
   | succ i=>exact Tl (l:=l) (i:=i) (by simpa using h) (by simpa using hx)
  .simp at h
def Tm:∀ {l:List α} {x:α},l[tw f l]? =I x->f x=A3
 | [],x,hx=>by simp at hx
 | y::l,x,hx=>by
  unfold tw at hx;rw[Qb]at hx;split at hx
  .exact Tm (l:=l) (by simpa using hx)
  .rename_i hy;simp at hx;subst hx;simpa using hy
def Wq(l:List α)(n:α):(ins f l n).length=l.length+1:=by
 have:=congrArg JL<|Yb (p:=f) (l:=l);rw[Ar]at this;simp only[ins,Ar,Bt];omega
def Mx{l:List α}{n x:α}(h:x∈ins f l n):x=n\/x∈l:=by
 unfold ins at h;rw[BM,Bj]at h;obtain h|h|h:=h
 .exact .inr ((aBR f).mem h)
 .exact .inl h
 .exact .inr<|(List.dropWhile_sublist f).mem h
def Mz{l:List α}{n x:α}(h:x=n\/x∈l):x∈ins f l n:=by
 unfold ins;rw[BM,Bj];obtain h|h:=h
 .exact .inr (.inl h)
 .rw[← Yb (p:=f) (l:=l),BM]at h;obtain h|h:=h
  .exact .inl h
  .exact .inr<|.inr h
end
def kM{α:Type}{f g:α->Bool}:∀ {l:List α},(∀x∈l,f x=g x)->l.takeWhile f=l.takeWhile g/\l.dropWhile f=l.dropWhile g
 | [],_=>⟨rfl,rfl⟩
 | x::l,h=>by
  have ih:=kM (l:=l) (λy hy=>h y<|Am _ hy);rw[Qb,Qb,l8,l8,h x Ap,ih.1,ih.2];exact⟨rfl,rfl⟩
def aCD{α:Type}{f g:α->Bool}{l:List α}{n:α}(h:∀x∈l,f x=g x):ins f l n=ins g l n:=by
 unfold ins;rw[(kM h).1,(kM h).2]
def Dh{l:List A6}{i:Nat}{x:A6}(h:l[i]? =I x):nA l i=x:=Iz h
def Gr{l:List Mark}{i:Nat}{x:Mark}(h:l[i]? =I x):mA l i=x:=Iz h
def Ek(l:List A6)(n:A6):List A6:=ins (λx=>bef x.fr x.nu n.fr n.nu) l n
def Ez(l:List Mark)(n:Mark):List Mark:=ins (λx=>bef x.mf x.mn n.mf n.mn) l n
def XG{α:Type}{l:List α}{i:Nat}{x:α}(h:l[i]? =I x):l.take i++[x]=l.take (i+1):=by
 rw[JI,h];rfl
def aBs{α:Type}{l:List α}{i j:Nat}{x:α}(h:l[i]? =I x)(hj:j<=i):(l.take i).drop j++[x]=(l.take<|i+1).drop j:=by
 have hi:=(BL.1 h).1;rw[← XG h,l6 (by simp;omega)]
def DL{α:Type}(g:α->Bool)(l:List α)(n:α)(i:Nat):List α:=if i<=tw g l then l.take i else l.take (tw g l)++n::(l.take i).drop (tw g l)
def XM{α:Type}(g:α->Bool)(l:List α)(n:α)(i:Nat):(DL g l n i).length<=l.length+1:=by
 have:=Ql g l;unfold DL;split<;>simp<;>omega
def aCW{α:Type}(g:α->Bool)(l:List α)(n:α):(if tw g l<l.length then DL g l n l.length else DL g l n l.length++[n])=ins g l n:=by
 have h:=Ql g l;unfold DL ins;split
 .rw[AD J,Dw,Xz,YA]
 .rw[A8 J,Dw];have:tw g l=l.length:=J
  rw[← Xz,← YA,this];simp
def aDf{α:Type}{g:α->Bool}{l:List α}{n x:α}{i:Nat}(h:l[i]? =I x)(hi:i<tw g l):DL g l n i++[x]=DL g l n (i+1):=by
 unfold DL;rw[A8 J,A8 J,XG h]
def aDh{α:Type}{g:α->Bool}{l:List α}{n x:α}{i:Nat}(h:l[i]? =I x)(hi:i=tw g l):DL g l n i++[n]++[x]=DL g l n (i+1):=by
 subst hi;unfold DL;rw[A8<|As _,AD J,← aBs h<|As _];simp
def aDg{α:Type}{g:α->Bool}{l:List α}{n x:α}{i:Nat}(h:l[i]? =I x)(hi:tw g l<i):DL g l n i++[x]=DL g l n (i+1):=by
 unfold DL;rw[AD J,AD J,← aBs h J];simp
def fF{l:List A6}{fr nu tt un:Int}{tx:A4}(hl:l.length<=1048576):Pr (l,(fr,nu,tt,un,tx,()),())=I ((Ek l ⟨fr,nu,tt,un,tx⟩,()),()):=by
 have ht:=Ql (λx:A6=>bef x.fr x.nu fr nu) l;have h:qm (l,(fr,nu,tt,un,tx,()),0,())=I (.inr (l,(fr,nu,tt,un,tx,()),((tw (λx:A6=>bef x.fr x.nu fr nu) l:Nat):Int),())):=
  C2 (λi=>(l,(fr,nu,tt,un,tx,()),(i:Int),())) (tw (λx:A6=>bef x.fr x.nu fr nu) l) (λi hi=>by
   have hi':i<l.length:=J
   have hx:=Av hi';unfold eR;simp only[AP hi',B7 hi',Cc,S3,B5 hi' (by omega:l.length<=9223372036854775807),Dh hx,Tl (λx:A6=>bef x.fr x.nu fr nu) hi hx];rfl) (by
   unfold eR;generalize ht2:tw (λx:A6=>bef x.fr x.nu fr nu) l=t at *;rcases HU t l.length with hlt|hge
   .have hx:=Av hlt;have:=Tm (λx:A6=>bef x.fr x.nu fr nu) (l:=l) (x:=l[t]) (by rw[ht2];exact hx);simp only[AP hlt,B7 hlt,Cc,S3,Dh hx,this];rfl
   .have e:A1 ((t:Int)<(l.length:Int))=A3:=by simp;omega
    simp only[e,HB,A5,AO,A7])
 unfold Pr;have hb:(A1 (0<=((tw (λx:A6=>bef x.fr x.nu fr nu) l:Nat):Int))&&A1 (((tw (λx:A6=>bef x.fr x.nu fr nu) l:Nat):Int)<=(l.length:Int)))=A0:=by simp;omega
 simp only[h,CR,hb,A5,Bb,EM,CA,DF,Ar,Bt,Cw,E4];rw[A8<|B8 J,A8<|B8 J,A8<|B8 J,Xz,YA];simp[Ek,ins]
def PJ(l:List A6)(n:A6):List A6:=ins (λx=> !bef n.fr n.nu x.fr x.nu) l n
def bo{l:List A6}{fr nu tt un:Int}{tx:A4}(hl:l.length<=1048576):PV (l,(fr,nu,tt,un,tx,()),())=I ((PJ l ⟨fr,nu,tt,un,tx⟩,()),()):=by
 let g:A6->Bool:=λx=> !bef fr nu x.fr x.nu
 have ht:=Ql g l;have h:oZ (l,(fr,nu,tt,un,tx,()),[],A3,0,())=I (.inr ((fr,nu,tt,un,tx,()),DL g l ⟨fr,nu,tt,un,tx⟩ l.length,A1<|tw g l<l.length,())):=by
  refine C2 (λi=>(l,(fr,nu,tt,un,tx,()),DL g l ⟨fr,nu,tt,un,tx⟩ i,A1<|tw g l<i,(i:Int),())) l.length (λi hi=> ?_) (by simp[bV]);have hx:=Av hi;have hr:=XM g l ⟨fr,nu,tt,un,tx⟩ i;unfold bV;simp only[AP hi,B7 hi,Cc,WW,B5 hi (by omega:l.length<=9223372036854775807),Dh hx,Bt,CA,DF,B8<|show(DL g l ⟨fr,nu,tt,un,tx⟩ i).length+1<=4294967296 by omega];rcases Jv i (tw g l) with hlt|heq|hgt
  .have h1:bef fr nu l[i].fr l[i].nu=A3:=by simpa[g] using Tl g hlt hx
   have h2:A1 (tw g l<i)=A3:=by simp;omega
   have h3:A1 (tw g l<i+1)=A3:=by simp;omega
   simp only[h1,h2,h3,IL,AI,A5,DY,DO,Bc,A7,Be,Cc,Dh hx,AP hi,B8<|show(DL g l ⟨fr,nu,tt,un,tx⟩ i).length+1<=4294967296 by omega,aDf hx hlt,B5 hi (by omega:l.length<=9223372036854775807)]
  .have hx2:l[tw g l]? =I l[i]:=by rw[← heq];exact hx
   have h1:bef fr nu l[i].fr l[i].nu=A0:=by simpa[g] using Tm g hx2
   have h2:A1 (tw g l<i)=A3:=by simp;omega
   have h3:A1 (tw g l<i+1)=A0:=by simp;omega
   have h4:DL g l ⟨fr,nu,tt,un,tx⟩ i++[⟨fr,nu,tt,un,tx⟩]++[l[i]]=DL g l ⟨fr,nu,tt,un,tx⟩ (i+1):=aDh hx heq;simp only[h1,h2,h3,h4,IL,AI,A5,DY,DO,Du,Be,Cc,Dh hx,AP hi,Ar,Bt,CA,DF,B8<|show(DL g l ⟨fr,nu,tt,un,tx⟩ i).length+1+1<=4294967296 by omega,B5 hi (by omega:l.length<=9223372036854775807)]
  .have h2:A1 (tw g l<i)=A0:=by simp;omega
   have h3:A1 (tw g l<i+1)=A0:=by simp;omega
   simp only[h2,h3,HB,AB,A5,AO,A7,Be,Cc,Dh hx,AP hi,B8<|show(DL g l ⟨fr,nu,tt,un,tx⟩ i).length+1<=4294967296 by omega,aDg hx hgt,B5 hi (by omega:l.length<=9223372036854775807)]
 unfold PV;simp only[h,CR];have he:=aCW g l ⟨fr,nu,tt,un,tx⟩;have hr:=XM g l ⟨fr,nu,tt,un,tx⟩ l.length;unfold PJ;show _=I ((ins g l _,()),());rw[← he];by_cases hc:tw g l<l.length
 .simp[hc]
 .simp[hc,B8<|show(DL g l ⟨fr,nu,tt,un,tx⟩ l.length).length+1<=4294967296 by omega]
def Gp(t:Int)(l:List A6):List A6:=l.filter λx=>A1<|t<x.un
def gU{l:List Mark}{mf mn mu:Int}(hl:l.length<=1048576):Rz (l,(mf,mn,mu,()),())=I ((Ez l ⟨mf,mn,mu⟩,()),()):=by
 have ht:=Ql (λx:Mark=>bef x.mf x.mn mf mn) l;have h:qd (l,(mf,mn,mu,()),0,())=I (.inr (l,(mf,mn,mu,()),((tw (λx:Mark=>bef x.mf x.mn mf mn) l:Nat):Int),())):=
  C2 (λi=>(l,(mf,mn,mu,()),(i:Int),())) (tw (λx:Mark=>bef x.mf x.mn mf mn) l) (λi hi=>by
   have hi':i<l.length:=J
   have hx:=Av hi';unfold eE;simp only[AP hi',B7 hi',F4,S3,B5 hi' (by omega:l.length<=9223372036854775807),Gr hx,Tl (λx:Mark=>bef x.mf x.mn mf mn) hi hx];rfl) (by
   unfold eE;generalize ht2:tw (λx:Mark=>bef x.mf x.mn mf mn) l=t at *;rcases HU t l.length with hlt|hge
   .have hx:=Av hlt;have:=Tm (λx:Mark=>bef x.mf x.mn mf mn) (l:=l) (x:=l[t]) (by rw[ht2];exact hx);simp only[AP hlt,B7 hlt,F4,S3,Gr hx,this];rfl
   .have e:A1 ((t:Int)<(l.length:Int))=A3:=by simp;omega
    simp only[e,HB,A5,AO,A7])
 unfold Rz;have hb:(A1 (0<=((tw (λx:Mark=>bef x.mf x.mn mf mn) l:Nat):Int))&&A1 (((tw (λx:Mark=>bef x.mf x.mn mf mn) l:Nat):Int)<=(l.length:Int)))=A0:=by simp;omega
 simp only[h,CR,hb,A5,Bb,EM,CA,DF,Ar,Bt,Cw,E4];rw[A8<|B8 J,A8<|B8 J,A8<|B8 J,Xz,YA];simp[Ez,ins]
def PK(l:List Mark)(n:Mark):List Mark:=ins (λx=> !bef n.mf n.mn x.mf x.mn) l n
def qY{l:List Mark}{mf mn mu:Int}(hl:l.length<=1048576):RS (l,(mf,mn,mu,()),())=I ((PK l ⟨mf,mn,mu⟩,()),()):=by
 let g:Mark->Bool:=λx=> !bef mf mn x.mf x.mn
 have ht:=Ql g l;have h:oe (l,(mf,mn,mu,()),[],A3,0,())=I (.inr ((mf,mn,mu,()),DL g l ⟨mf,mn,mu⟩ l.length,A1<|tw g l<l.length,())):=by
  refine C2 (λi=>(l,(mf,mn,mu,()),DL g l ⟨mf,mn,mu⟩ i,A1<|tw g l<i,(i:Int),())) l.length (λi hi=> ?_) (by simp[bW]);have hx:=Av hi;have hr:=XM g l ⟨mf,mn,mu⟩ i;unfold bW;simp only[AP hi,B7 hi,F4,WW,B5 hi (by omega:l.length<=9223372036854775807),Gr hx,Bt,CA,DF,B8<|show(DL g l ⟨mf,mn,mu⟩ i).length+1<=4294967296 by omega];rcases Jv i (tw g l) with hlt|heq|hgt
  .have h1:bef mf mn l[i].mf l[i].mn=A3:=by simpa[g] using Tl g hlt hx
   have h2:A1 (tw g l<i)=A3:=by simp;omega
   have h3:A1 (tw g l<i+1)=A3:=by simp;omega
   simp only[h1,h2,h3,IL,AI,A5,DY,DO,Bc,A7,Be,F4,Gr hx,AP hi,B8<|show(DL g l ⟨mf,mn,mu⟩ i).length+1<=4294967296 by omega,aDf hx hlt,B5 hi (by omega:l.length<=9223372036854775807)]
  .have hx2:l[tw g l]? =I l[i]:=by rw[← heq];exact hx
   have h1:bef mf mn l[i].mf l[i].mn=A0:=by simpa[g] using Tm g hx2
   have h2:A1 (tw g l<i)=A3:=by simp;omega
   have h3:A1 (tw g l<i+1)=A0:=by simp;omega
   have h4:DL g l ⟨mf,mn,mu⟩ i++[⟨mf,mn,mu⟩]++[l[i]]=DL g l ⟨mf,mn,mu⟩ (i+1):=aDh hx heq;simp only[h1,h2,h3,h4,IL,AI,A5,DY,DO,Du,Be,F4,Gr hx,AP hi,Ar,Bt,CA,DF,B8<|show(DL g l ⟨mf,mn,mu⟩ i).length+1+1<=4294967296 by omega,B5 hi (by omega:l.length<=9223372036854775807)]
  .have h2:A1 (tw g l<i)=A0:=by simp;omega
   have h3:A1 (tw g l<i+1)=A0:=by simp;omega
   simp only[h2,h3,HB,AB,A5,AO,A7,Be,F4,Gr hx,AP hi,B8<|show(DL g l ⟨mf,mn,mu⟩ i).length+1<=4294967296 by omega,aDg hx hgt,B5 hi (by omega:l.length<=9223372036854775807)]
 unfold RS;simp only[h,CR];have he:=aCW g l ⟨mf,mn,mu⟩;have hr:=XM g l ⟨mf,mn,mu⟩ l.length;unfold PK;show _=I ((ins g l _,()),());rw[← he];by_cases hc:tw g l<l.length
 .simp[hc]
 .simp[hc,B8<|show(DL g l ⟨mf,mn,mu⟩ l.length).length+1<=4294967296 by omega]
def Jl(t:Int)(l:List Mark):List Mark:=l.filter λx=>A1<|t<x.mu
def Wd{α:Type}{l:List α}{f:α->Bool}{i:Nat}{x:α}(h:l[i]? =I x):(l.take<|i+1).filter f=(l.take i).filter f++(if f x then [x] else []):=by
 rw[← XG h,Yd];congr 1;cases hf:f x<;>simp[hf]
def Wm{α:Type}{l:List α}{f:α->Bool}{i:Nat}:((l.take i).filter f).length<=l.length:=by
 have:=Ic f<|l.take i;simp at this;omega
def ame{id ti nx t:Int}{held:List A6}{marks:List Mark}{inbox:List A6}(sm:DR held marks inbox):eK ((id,ti,nx,held,marks,inbox,()),t,())=I (((id,t,nx,Gp t held,Jl t marks,inbox,()),()),()):=by
 have hl:=sm.hl;have ml:=sm.ml;have h0:q6 (t,(id,ti,nx,held,marks,inbox,()),(0,0,0,[],[],[],()),(id,t,nx,[],[],inbox,()),held,(held.length:Int),0,())=I (.inr (t,(id,ti,nx,held,marks,inbox,()),(0,0,0,[],[],[],()),(id,t,nx,Gp t held,[],inbox,()),())):=by
  rw[show Gp t held=(held.take held.length).filter (λx=>A1<|t<x.un) by rw[Dw];rfl];refine C2 (λi=>(t,(id,ti,nx,held,marks,inbox,()),(0,0,0,[],[],[],()),(id,t,nx,(held.take i).filter λx=>A1<|t<x.un,[],inbox,()),held,(held.length:Int),(i:Int),())) held.length (λi hi=> ?_) (by simp[dJ]);have hx:=Av hi;have hr:=Wm (l:=held) (f:=λx=>A1<|t<x.un) (i:=i);unfold dJ;simp only[AP hi,B7 hi,Cc,Dh hx,B5 hi (by omega:held.length<=9223372036854775807),Wd hx,Bt,CA,DF,B8<|show((held.take i).filter λx=>A1<|t<x.un).length+1<=4294967296 by omega];by_cases hc:t<held[i].un<;>simp[hc]
 have h1:q5 (t,(0,0,0,[],[],[],()),(id,t,nx,Gp t held,[],inbox,()),marks,(marks.length:Int),0,())=I (.inr ((0,0,0,[],[],[],()),(id,t,nx,Gp t held,Jl t marks,inbox,()),())):=by
  rw[show Jl t marks=(marks.take marks.length).filter (λx=>A1<|t<x.mu) by rw[Dw];rfl];refine C2 (λi=>(t,(0,0,0,[],[],[],()),(id,t,nx,Gp t held,(marks.take i).filter λx=>A1<|t<x.mu,inbox,()),marks,(marks.length:Int),(i:Int),())) marks.length (λi hi=> ?_) (by simp[dI]);have hx:=Av hi;have hr:=Wm (l:=marks) (f:=λx=>A1<|t<x.mu) (i:=i);unfold dI;simp only[AP hi,B7 hi,F4,Gr hx,B5 hi (by omega:marks.length<=9223372036854775807),Wd hx,Bt,CA,DF,B8<|show((marks.take i).filter λx=>A1<|t<x.mu).length+1<=4294967296 by omega];by_cases hc:t<marks[i].mu<;>simp[hc]
 unfold eK;simp only[h0,h1,CR]
def ali{id ti nx t:Int}{held:List A6}{marks:List Mark}{inbox:List A6}(sm:DR held marks inbox):du ((id,ti,nx,held,marks,inbox,()),t,())=I (((id,t,nx,Gp t held,Jl t marks,inbox,()),()),()):=by
 have hl:=sm.hl;have ml:=sm.ml;have h0:qF (t,(id,ti,nx,held,marks,inbox,()),(0,0,0,[],[],[],()),[],0,())=I (.inr (t,(id,ti,nx,held,marks,inbox,()),(0,0,0,[],[],[],()),Gp t held,())):=by
  rw[show Gp t held=(held.take held.length).filter (λx=>A1<|t<x.un) by rw[Dw];rfl];refine C2 (λi=>(t,(id,ti,nx,held,marks,inbox,()),(0,0,0,[],[],[],()),(held.take i).filter λx=>A1<|t<x.un,(i:Int),())) held.length (λi hi=> ?_) (by simp[dY]);have hx:=Av hi;have hr:=Wm (l:=held) (f:=λx=>A1<|t<x.un) (i:=i);unfold dY;simp only[AP hi,B7 hi,Cc,Dh hx,B5 hi (by omega:held.length<=9223372036854775807),Wd hx,Bt,CA,DF,B8<|show((held.take i).filter λx=>A1<|t<x.un).length+1<=4294967296 by omega];by_cases hc:t<held[i].un<;>simp[hc]
 have h1:pg (t,(id,ti,nx,held,marks,inbox,()),(0,0,0,[],[],[],()),Gp t held,[],0,())=I (.inr (t,(id,ti,nx,held,marks,inbox,()),(0,0,0,[],[],[],()),Gp t held,Jl t marks,())):=by
  rw[show Jl t marks=(marks.take marks.length).filter (λx=>A1<|t<x.mu) by rw[Dw];rfl];refine C2 (λi=>(t,(id,ti,nx,held,marks,inbox,()),(0,0,0,[],[],[],()),Gp t held,(marks.take i).filter λx=>A1<|t<x.mu,(i:Int),())) marks.length (λi hi=> ?_) (by simp[dX]);have hx:=Av hi;have hr:=Wm (l:=marks) (f:=λx=>A1<|t<x.mu) (i:=i);unfold dX;simp only[AP hi,B7 hi,F4,Gr hx,B5 hi (by omega:marks.length<=9223372036854775807),Wd hx,Bt,CA,DF,B8<|show((marks.take i).filter λx=>A1<|t<x.mu).length+1<=4294967296 by omega];by_cases hc:t<marks[i].mu<;>simp[hc]
 unfold du;simp only[h0,h1,CR]
def Ey(l:List A6)(i:Nat):List A6:=l.take i++l.drop (i+1)
def amc{l:List A6}{i:Nat}(hl:l.length<=1048576)(hi:i<l.length):Rl (l,(i:Int),())=I ((Ey l i,()),()):=by
 unfold Rl;have h1:(A1 (0<=(i:Int))&&A1 ((i:Int)<=(l.length:Int)))=A0:=by simp;omega
 have h2:(A1 (0<=((i+1:Nat):Int))&&A1 (((i+1:Nat):Int)<=(l.length:Int)))=A0:=by simp;omega
 simp only[B5 hi (by omega:l.length<=9223372036854775807),h1,h2,A5,Bb,EM,CA,DF,Cw,E4];rw[A8<|B8 J,A8<|B8 J];rfl
end Go.VS
namespace Go.VS
open Go
def B_L(s:A4):B (L s)=s:=Fl rfl
def CZ(l:List UInt8):Prop:=∀b∈l,b≠32
def LX:∀(l:List UInt8),CZ l\/ ∃w r,CZ w/\l=w++32::r
 | []=> .inl (λ_ h=>by cases h)
 | b::l=>by
  by_cases h:b=32
  .exact .inr ⟨[],l,(λ_ h=>by cases h),by rw[h];rfl⟩
  .rcases LX l with h1|⟨w,r,h1,h2⟩
   .refine .inl (λx hx=> ?_);rcases Bj.1 hx with rfl|hx
    .exact h
    .exact h1 x hx
   .refine .inr ⟨b::w,r,λx hx=> ?_,by rw[h2];rfl⟩;rcases Bj.1 hx with rfl|hx
    .exact h
    .exact h1 x hx
def kr:∀ {l:List UInt8},CZ l->Lib.index l [32]= -1
 | [],_=>rfl
 | b::l,h=>by
  rw[Td];unfold Lib.indexByte;have h1:=h b Ap;rw[AD<|by simpa using h1,← Td,kr λx hx=>h x<|Am _ hx];rfl
def kt:∀ {w r:List UInt8},CZ w->Lib.index (w++32::r) [32]=w.length
 | [],r,_=>by rw[Td];rfl
 | b::w,r,h=>by
  rw[Td,Ko];unfold Lib.indexByte;have h1:=h b Ap;rw[AD<|by simpa using h1,← Td,kt λx hx=>h x<|Am _ hx,AD<|by simp];simp
def awz{l:List UInt8}(h:CZ l):FH l [32]=(l,[],A3):=by
 unfold FH;rw[kr h,AD J]
def ax0{w r:List UInt8}(h:CZ w):FH (w++32::r) [32]=(w,r,A0):=by
 unfold FH;rw[kt h,A8 J];simp
def av8{s:A4}(hs:s.size<=1048576)(h:CZ (L s)):Vr (s,B [32],())=I ((s,noB,A3,()),()):=by
 show PI _=_;unfold PI;rw[A8 (by show s.size<_;omega)];show I ((B (FH (L s) [32]).1,B (FH (L s) [32]).2.1,(FH (L s) [32]).2.2,()),())=_;rw[awz h];show I ((B<|L s,noB,A3,()),())=_;rw[B_L]
def aub{s:A4}{w r:List UInt8}(hs:s.size<=1048576)(h:CZ w)(e:L s=w++32::r):Vr (s,B [32],())=I ((B w,B r,A0,()),()):=by
 show PI _=_;unfold PI;rw[A8 (by show s.size<_;omega)];show I ((B (FH (L s) [32]).1,B (FH (L s) [32]).2.1,(FH (L s) [32]).2.2,()),())=_;rw[e,ax0 h]
def mj{s:A4}{i:Nat}:A1 (bt s i=32)=A1 ((L s).getD i 0=32):=by
 rw[decide_eq_decide,Jj];exact⟨λh=>QW.1 (by show _=32;omega),λh=>by rw[h];rfl⟩
def aBx{s:A4}(hs:s.size<=1048576):qO (s,0,())=I (if Fj s.size (λi=>A1<|bt s i=32)<0 then .inr (s,()) else
  .inl (s.extract 0 (Fj s.size λi=>A1<|bt s i=32).toNat,s.extract ((Fj s.size λi=>A1<|bt s i=32).toNat+1) s.size,())):=
 Q1 (λi=>(s,(i:Int),())) s.size (λi=>A1<|bt s i=32) (λi=>(s.extract 0 i.toNat,s.extract (i.toNat+1) s.size,())) (s,()) (λi hi=>by
  have h1:(A1 (0<=(i:Int))&&A1 ((i:Int)<=(s.size:Int)))=A0:=by simp;omega
  have h2:(A1 (0<=((i+1:Nat):Int))&&A1 (((i+1:Nat):Int)<=(s.size:Int)))=A0:=by simp;omega
  unfold de;simp only[AP hi,B7 hi,B5 hi (by omega:s.size<=9223372036854775807),h1,h2,A5,Bb];cases A1 (bt s i=32)<;>rfl) (by simp[de])
def aut{n:Nat}{p:Nat->Bool}(h:∀i,i<n->p i=A3):Fj n p= -1:=by
 rcases GL n p with⟨h1,_⟩|⟨i,h1,h2,h3,_⟩
 .exact h1
 .rw[h i h2]at h3;cases h3
def aDJ{n i:Nat}{p:Nat->Bool}(hi:i<n)(hp:p i=A0)(h:∀j,j<i->p j=A3):Fj n p=i:=by
 rcases GL n p with⟨_,h1⟩|⟨j,h1,h2,h3,h4⟩
 .rw[h1 i hi]at hp;cases hp
 .rcases Jv i j with h5|h5|h5
  .rw[h4 i h5]at hp;cases hp
  .rw[h1,h5]
  .rw[h j h5]at h3;cases h3
def atm{w r:List UInt8}{b:UInt8}:(w++b::r).getD w.length 0=b:=by simp
def aa2{w r:List UInt8}{j:Nat}(h:j<w.length):(w++r).getD j 0∈w:=by
 rw[B9,I9 h,Av h];exact CJ h
def atl{l:List UInt8}{j:Nat}(h:j<l.length):l.getD j 0∈l:=by
 rw[B9,Av h];exact CJ h
def arm{s:A4}(hs:s.size<=1048576)(h:CZ (L s)):O5 (s,())=I ((s,noB,()),()):=by
 unfold O5;simp only[aBx hs];rw[aut (λi hi=>by rw[mj];simpa using h _<|atl (by rw[Ay];exact hi))];rfl
def arn{s:A4}{w r:List UInt8}(hs:s.size<=1048576)(h:CZ w)(e:L s=w++32::r):O5 (s,())=I ((B w,B r,()),()):=by
 have hl:s.size=w.length+1+r.length:=by
  have:=congrArg JL e;rw[Ay]at this;simp at this;omega
 unfold O5;simp only[aBx hs];rw[aDJ (i:=w.length) J (by rw[mj,e,atm];rfl) (λj hj=>by rw[mj,e];simpa using h _<|aa2 hj),AD J];have e1:s.extract 0 w.length=B w:=Fl (by rw[Dz,e,L_B];simp);have e2:s.extract (w.length+1) s.size=B r:=Fl (by rw[Dz,e,L_B,hl,show w++32::r=(w++[32])++r by simp,QX<|by simp,show w.length+1+r.length - (w.length+1)=r.length by omega,Dw]);simp only[Gk,Bb,e1,e2]
def wr(n:A6):A4:=((((((((BW n.fr++B [32])++BW n.nu)++B [32])++BW n.to)++B [32])++BW n.un)++B [32])++n.tx)
def wrL(n:A6):List UInt8:=B6 n.fr++32::(B6 n.nu++32::(B6 n.to++32::(B6 n.un++32::L n.tx)))
def Ti(n:Int):L (BW n)=B6 n:=rfl
def R6(n:A6):L (wr n)=wrL n:=by
 unfold wr wrL;simp only[G7,Ti,L_B,Bw,Ko,EM]
def ar5{n:Int}{k:Nat}(h0:0<=n)(h1:n<10 ^ k)(hk:1<=k):B6 n=dcm n.toNat/\(B6 n).length<=k:=by
 obtain⟨u,rfl⟩:=Gy h0;rw[Ix];refine⟨rfl,Le k u hk ?_⟩;have:((10 ^ k:Nat):Int)=(10:Int) ^ k:=by simp
 omega
structure U6 (n:A6):Prop where
 f0:0<=n.fr
 f1:n.fr<=3
 t0:0<=n.to
 t1:n.to<=3
 n0:1<=n.nu
 n1:n.nu<=99
 u0:1<=n.un
 u1:n.un<=999
 s0:1<=n.tx.size
 s1:n.tx.size<=24
def Ho{n:A6}(h:B4 n=A0):U6 n:=by
 unfold B4 MD at h;simp only[AE,Af]at h;obtain⟨⟨a,b⟩,⟨c,d⟩,⟨e,f⟩,⟨g,i⟩,⟨j,k⟩,_⟩:=h;exact⟨a,b,c,d,e,f,g,i,J,J⟩
def Mf{n:Int}{k:Nat}(h0:0<=n)(h1:n<10 ^ k)(hk:1<=k):(BW n).size<=k:=(ar5 h0 h1 hk).2
def V3{fr nu tt un:Int}{tx:A4}(hs:tx.size<=1048576):Mb ((fr,nu,tt,un,tx,()),())=I ((if B4 ⟨fr,nu,tt,un,tx⟩ then wr ⟨fr,nu,tt,un,tx⟩ else noB,()),()):=by
 unfold Mb;simp only[Vy hs,A9];rcases tf (B4 ⟨fr,nu,tt,un,tx⟩) with h|h
 .have hf:=Ho h;obtain⟨f0,f1,t0,t1,n0,n1,u0,u1,s0,s1⟩:=hf;simp only at f0 f1 t0 t1 n0 n1 u0 u1 s0 s1;have a1:=Mf (n:=fr) (k:=1) f0 J J;have a2:=Mf (n:=nu) (k:=2) J J J;have a3:=Mf (n:=tt) (k:=1) t0 J J;have a4:=Mf (n:=un) (k:=3) J J J;have b:(B [32]).size=1:=rfl;simp only[h,AB,A7,J3 (n:=fr) J J,J3 (n:=nu) J J,J3 (n:=tt) J J,J3 (n:=un) J J,A9,Bu,b]
  repeat rw[A8 (by rw[decide_eq_true_eq];omega)]
  rfl
 .simp only[h,AI,A5,A7]
def VB{fr nu tt un:Int}{tx:A4}(hs:tx.size<=1048576):MY ((fr,nu,tt,un,tx,()),())=I ((if B4 ⟨fr,nu,tt,un,tx⟩ then wr ⟨fr,nu,tt,un,tx⟩ else noB,()),()):=by
 unfold MY;simp only[Vt hs,A9];rcases tf (B4 ⟨fr,nu,tt,un,tx⟩) with h|h
 .have hf:=Ho h;obtain⟨f0,f1,t0,t1,n0,n1,u0,u1,s0,s1⟩:=hf;simp only at f0 f1 t0 t1 n0 n1 u0 u1 s0 s1;have a1:=Mf (n:=fr) (k:=1) f0 J J;have a2:=Mf (n:=nu) (k:=2) J J J;have a3:=Mf (n:=tt) (k:=1) t0 J J;have a4:=Mf (n:=un) (k:=3) J J J;have b:(B [32]).size=1:=rfl;simp only[h,AB,A7,FY (n:=fr) J J,FY (n:=nu) J J,FY (n:=tt) J J,FY (n:=un) J J,A9,Bu,b]
  repeat rw[A8 (by rw[decide_eq_true_eq];omega)]
  rfl
 .simp only[h,AI,A5,A7]
def Nc:List UInt8->Option (List UInt8×List UInt8)
 | []=>U
 | b::l=>if b=32 then I ([],l) else(Nc l).map λp=>(b::p.1,p.2)
def T7:∀ {l:List UInt8},CZ l->Nc l=U
 | [],_=>rfl
 | b::l,h=>by
  unfold Nc;rw[AD<|h b Ap,T7 λx hx=>h x<|Am _ hx];rfl
def T8:∀ {w r:List UInt8},CZ w->Nc (w++32::r)=I (w,r)
 | [],r,_=>rfl
 | b::w,r,h=>by
  rw[Ko];unfold Nc;rw[AD<|h b Ap,T8 λx hx=>h x<|Am _ hx];rfl
def wd(s:A4):A4×A4:=match Nc (L s) with
 | some p=>(B p.1,B p.2)
 | none=>(s,noB)
def Tk{s:A4}(h:CZ (L s)):wd s=(s,noB):=by unfold wd;rw[T7 h]
def Kh{s:A4}{w r:List UInt8}(h:CZ w)(e:L s=w++32::r):wd s=(B w,B r):=by unfold wd;rw[e,T8 h]
def Sp(s:A4):(wd s).1.size<=s.size/\(wd s).2.size<=s.size:=by
 rcases LX (L s) with h|⟨w,r,h,e⟩
 .rw[Tk h];exact⟨As _,Cu _⟩
 .rw[Kh h e];have:=congrArg JL e;rw[Ay]at this;simp at this;rw[BQ,BQ];exact⟨by show w.length<=_;omega,by show r.length<=_;omega⟩
def aah{s:A4}(hs:s.size<=1048576):O5 (s,())=I (((wd s).1,(wd s).2,()),()):=by
 rcases LX (L s) with h|⟨w,r,h,e⟩
 .rw[Tk h,arm hs h]
 .rw[Kh h e,arn hs h e]
def axY{s:A4}(hs:s.size<=1048576):Vr (s,B [32],())=I (((wd s).1,(wd s).2,(Nc<|L s).isSome,()),()):=by
 rcases LX (L s) with h|⟨w,r,h,e⟩
 .rw[Tk h,av8 hs h,T7 h];rfl
 .rw[Kh h e,aub hs h e,e,T8 h];rfl
def E0(s:A4):Nat->A4
 | 0=>s
 | i+1=>(wd<|E0 s i).2
def Ao(s:A4)(i:Nat):A4:=(wd<|E0 s i).1
def Wv(s:A4):∀i,(E0 s i).size<=s.size
 | 0=>As _
 | i+1=>Ca (Sp<|E0 s i).2 (Wv s i)
def aq9(s:A4)(i:Nat):(Ao s i).size<=s.size:=Ca (Sp _).1<|Wv s i
def aaq{s:A4}{n:Nat}(hs:s.size<=1048576)(hn:n<=10):Pt (s,(n:Int),())=I (((BJ n).map λi=>Ad<|Ao s i,E0 s n,()),()):=by
 have h:qX (s,(n:Int),[],0,())=I (.inr (E0 s n,(BJ n).map λi=>Ad<|Ao s i,())):=by
  refine C2 (λi=>(E0 s i,(n:Int),(BJ i).map λi=>Ad<|Ao s i,(i:Int),())) n (λi hi=> ?_) (by simp[dq]);have h1:=Wv s i;have h2:=aq9 s i;unfold dq;simp only[B7 hi,aah<|show(E0 s i).size<=1048576 by omega,A9,A5,iZ (show(wd<|E0 s i).1.size<=9223372036854775807 by have:=(Sp<|E0 s i).1;omega),
   E5,List.length_range,Bt,CA,DF,B8<|show i+1<=4294967296 by omega,B5 hi (by omega:n<=9223372036854775807),Ku,Es,DP,JM]
  rfl
 unfold Pt;simp only[h,CR]
def aBC{ws:List A4}(hl:ws.length<=1048577)(hw:∀w∈ws,w.size<=1048576):
  Re (ws,())=I ((if At ws.length (λi=>(Aq<|ws.getD i noB).2) then(ws.map λw=>(Aq w).1,A0,()) else([],A3,())),()):=by
 have h:pV ([],ws,(ws.length:Int),0,())=I (if At ws.length (λi=>(Aq<|ws.getD i noB).2) then .inr (ws.map λw=>(Aq w).1,()) else .inl ([],A3,())):=by
  rw[show ws.map (λw=>(Aq w).1)=(ws.take ws.length).map (λw=>(Aq w).1) by rw[Dw]];refine je (λi=>((ws.take i).map λw=>(Aq w).1,ws,(ws.length:Int),(i:Int),())) ws.length (λi=>(Aq<|ws.getD i noB).2) ([],A3,()) ((ws.take ws.length).map λw=>(Aq w).1,()) (λi hi _=> ?_) (λ_=>by simp[cJ]);have hx:=Av hi;have hs:=hw _<|CJ hi;unfold cJ;simp only[AP hi,B7 hi,Oh,Iz hx,eB<|show ws[i].size<=9223372036854775807 by omega,A9,E5,Cw,Bt,CA,DF,
   B8 (show min i ws.length+1<=4294967296 by omega),B5 hi (by omega:ws.length<=9223372036854775807)]
  rw[← XG hx,Es];rcases tf (Aq ws[i]).2 with h|h<;>simp[h]
 unfold Re;simp only[h];cases At ws.length (λi=>(Aq<|ws.getD i noB).2)<;>rfl
def LV{w r:List UInt8}{k:Nat}(h:CZ w):GB [32] 0 (k+1) (w++32::r)=w::GB [32] 0 k r:=by
 conv=>lhs;unfold GB
 rw[kt h,AD<|by simp];show(w++32::r).take (w.length+0)::GB [32] 0 k ((w++32::r).drop<|w.length+1)=_;rw[HP,P1 rfl,show w++32::r=(w++[32])++r by simp,QX<|by simp]
def X4{l:List UInt8}{k:Nat}(h:CZ l):GB [32] 0 k l=[l]:=by
 cases k with
 | zero=>rfl
 | succ k=>
  unfold GB;rw[kr h];rfl
def join:List (List UInt8)->List UInt8
 | []=>[]
 | [x]=>x
 | x::y::l=>x++32::join (y::l)
def arN(k:Nat)(l:List UInt8):∃x m,GB [32] 0 k l=x::m:=by
 cases k with
 | zero=>exact⟨l,[],rfl⟩
 | succ k=>
  rcases LX l with h|⟨w,r,h,rfl⟩
  .exact⟨l,[],X4 h⟩
  .exact⟨w,_,LV h⟩
def iq:∀(k:Nat) (l:List UInt8),join (GB [32] 0 k l)=l
 | 0,_=>rfl
 | k+1,l=>by
  rcases LX l with h|⟨w,r,h,rfl⟩
  .rw[X4 h];rfl
  .rw[LV h];have ih:=iq k r;obtain⟨x,m,e⟩:=arN k r;rw[e]at ih ⊢;show w++32::join (x::m)=_;rw[ih]
def axR{ps:List A4}{ls:List (List UInt8)}(h:ps.map (·.data.toList)=ls):ps=ls.map B:=by
 subst h;rw[I7]
 conv=>lhs;rw[← Yo ps]
 exact GS λs _=>(B_L s).symm
def aDC(k:Nat)(s:A4):Ih (B [32]) 0 k s=(GB [32] 0 k<|L s).map B:=axR<|Lib.splitB_data (B [32]) 0 k s
def avg{s:A4}(hs:s.size<=1048576):dQ (s,B [32],())=I (((GB [32] 0 ((L s).count 32)<|L s).map B,()),()):=by
 show TA _=_;unfold TA;rw[A8 ⟨by show s.size<_;omega,by show 1<=1;omega⟩];show I ((Ih (B [32]) 0 (Lib.count (L s) [32]) s,()),())=_;rw[aDC,Lib.count_one]
def atF{s:A4}(hs:s.size<=1048576):rU (s,B [32],5,())=I (((GB [32] 0 (min 5 (s.size+1) - 1)<|L s).map B,()),()):=by
 show Sr _=_;unfold Sr;rw[A8 ⟨by show s.size<_;omega,by show 1<=1;omega,by show(1:Int)<=5;omega,by show(5:Int)<=_;omega⟩];show I ((Ih (B [32]) 0 (min 5 (s.size+1) - 1) s,()),())=_;rw[aDC]
def auE(u:Nat):CZ (dcm u):=λb hb h=>by
 have:=Af.1<|YS (u+1) u J b hb;subst h;simp at this
def HC{n:Int}(h0:0<=n):CZ (B6 n):=by
 obtain⟨u,rfl⟩:=Gy h0;rw[Ix];exact auE u
def Mj{n:Int}(h0:0<=n)(h1:n<10000):Ad (B<|B6 n)=n:=by
 obtain⟨u,rfl⟩:=Gy h0;rw[Ix];exact kq (by rw[BQ];exact Le 4 u J J)<|L_B _
def Iw{n:Int}(h0:0<=n)(h1:n<100000):Aq (B<|B6 n)=(n,A0):=by
 obtain⟨u,rfl⟩:=Gy h0;rw[Ix];exact jo (by rw[BQ];exact Le 5 u J J)<|L_B _
open Classical in
def DA (s:A4):Option A6:=if h:∃n,B4 n=A0/\wr n=s then I (ND h) else U
def Jh{s t:A4}{x:Int}{r:List UInt8}(h:wd s=(B<|B6 x,B r)):(wd s).1=B (B6 x)/\L (wd s).2=r:=by rw[h];exact⟨rfl,rfl⟩
def kW{n:A6}(hf:U6 n){s:A4}(e:L s=wrL n):Ao s 0=B (B6 n.fr)/\Ao s 1=B (B6 n.nu)/\Ao s 2=B (B6 n.to)/\Ao s 3=B (B6 n.un)/\E0 s 4=n.tx:=by
 obtain⟨f0,f1,t0,t1,n0,n1,u0,u1,s0,s1⟩:=hf;unfold wrL at e;have e0:=Kh (HC f0) e;have c1:L (E0 s 1)=_:=(Jh (t:=s) e0).2;have e1:=Kh (HC<|show 0<=n.nu by omega) c1;have c2:L (E0 s 2)=_:=(Jh (t:=s) e1).2;have e2:=Kh (HC t0) c2;have c3:L (E0 s 3)=_:=(Jh (t:=s) e2).2;have e3:=Kh (HC<|show 0<=n.un by omega) c3;have c4:L (E0 s 4)=_:=(Jh (t:=s) e3).2;exact⟨(Jh (t:=s) e0).1,(Jh (t:=s) e1).1,(Jh (t:=s) e2).1,(Jh (t:=s) e3).1,Fl c4⟩
def atY{n:A6}(hf:U6 n):Ao (wr n) 0=B (B6 n.fr)/\Ao (wr n) 1=B (B6 n.nu)/\Ao (wr n) 2=B (B6 n.to)/\Ao (wr n) 3=B (B6 n.un)/\E0 (wr n) 4=n.tx:=kW hf<|R6 n
def auC{n m:A6}(h1:n.fr=m.fr)(h2:n.nu=m.nu)(h3:n.to=m.to)(h4:n.un=m.un)(h5:n.tx=m.tx):n=m:=by
 cases n;cases m;simp only at h1 h2 h3 h4 h5;subst h1 h2 h3 h4 h5;rfl
def Xr{x y:Int}(h0:0<=x)(h1:x<10000)(h2:0<=y)(h3:y<10000)(h:B (B6 x)=B (B6 y)):x=y:=by
 rw[← Mj h0 h1,← Mj h2 h3,h]
def awD{n m:A6}(hn:B4 n=A0)(hm:B4 m=A0)(h:wr n=wr m):n=m:=by
 have fn:=Ho hn;have fm:=Ho hm;have a:=kW fn (s:=wr n)<|R6 n;have b:=kW fm (s:=wr n) (by rw[h];exact R6 m);clear h hn hm;generalize wr n=s at a b;obtain⟨a0,a1,a2,a3,a4⟩:=a;obtain⟨b0,b1,b2,b3,b4⟩:=b;obtain⟨f0,f1,t0,t1,n0,n1,u0,u1,s0,s1⟩:=fn;obtain⟨g0,g1,v0,v1,m0,m1,w0,w1,z0,z1⟩:=fm;exact auC (Xr J J J J<|a0.symm.trans b0) (Xr J J J J<|a1.symm.trans b1) (Xr J J J J<|a2.symm.trans b2)
  (Xr J J J J<|a3.symm.trans b3) (a4.symm.trans b4)
def Pz{n:A6}(h:B4 n=A0):DA (wr n)=I n:=by
 unfold DA;have hex:∃m,B4 m=A0/\wr m=wr n:=⟨n,h,rfl⟩;rw[dif_pos hex];have:=Ig hex;rw[awD this.1 h this.2]
def Jc{s:A4}{n:A6}(h:DA s=I n):B4 n=A0/\wr n=s:=by
 unfold DA at h;split at h
 .rename_i hex;cases h;exact Ig hex
 .cases h
def mB{n:A6}(hf:U6 n):9<=(wr n).size:=by
 obtain⟨f0,f1,t0,t1,n0,n1,u0,u1,s0,s1⟩:=hf;have h:∀ {x:Int},0<=x->1<=(B6 x).length:=fun {x} h0=>by
  obtain⟨u,rfl⟩:=Gy h0;rw[Ix];exact List.length_pos_iff.2<|ma u
 rw[← Ay,R6];unfold wrL;have a:=h f0;have b:=h (show 0<=n.nu by omega);have c:=h t0;have d:=h (show 0<=n.un by omega);have e:(L n.tx).length=n.tx.size:=rfl;simp only[Ar,Bt];omega
def Tr(o:Option A6):(Int×Int×Int×Int×A4×A2)×Bool×A2:=match o with
 | some n=>((n.fr,n.nu,n.to,n.un,n.tx,()),A0,())
 | none=>((0,0,0,0,noB,()),A3,())
def wv{s:A4}(hs:s.size<=1048576):Ra (s,())=I (Tr<|DA s,()):=by
 unfold Ra;have e4:Pt (s,4,())=I (([Ad<|Ao s 0,Ad<|Ao s 1,Ad<|Ao s 2,Ad<|Ao s 3],E0 s 4,()),()):=aaq (n:=4) hs J;have hr:=Wv s 4;have i0:inb 0 [Ad<|Ao s 0,Ad<|Ao s 1,Ad<|Ao s 2,Ad<|Ao s 3].length=A0:=rfl;have i1:inb 1 [Ad<|Ao s 0,Ad<|Ao s 1,Ad<|Ao s 2,Ad<|Ao s 3].length=A0:=rfl;have i2:inb 2 [Ad<|Ao s 0,Ad<|Ao s 1,Ad<|Ao s 2,Ad<|Ao s 3].length=A0:=rfl;have i3:inb 3 [Ad<|Ao s 0,Ad<|Ao s 1,Ad<|Ao s 2,Ad<|Ao s 3].length=A0:=rfl;have r0: @rd Int (dfl .int) [Ad<|Ao s 0,Ad<|Ao s 1,Ad<|Ao s 2,Ad<|Ao s 3] 0=Ad (Ao s 0):=rfl;have r1: @rd Int (dfl .int) [Ad<|Ao s 0,Ad<|Ao s 1,Ad<|Ao s 2,Ad<|Ao s 3] 1=Ad (Ao s 1):=rfl;have r2: @rd Int (dfl .int) [Ad<|Ao s 0,Ad<|Ao s 1,Ad<|Ao s 2,Ad<|Ao s 3] 2=Ad (Ao s 2):=rfl;have r3: @rd Int (dfl .int) [Ad<|Ao s 0,Ad<|Ao s 1,Ad<|Ao s 2,Ad<|Ao s 3] 3=Ad (Ao s 3):=rfl;simp only[e4,A9,i0,i1,i2,i3,r0,r1,r2,r3,VB<|show(E0 s 4).size<=1048576 by omega,DY,DO,A5,show ∀c,Ak c A0=A0 from λc=>rfl];generalize hx:(⟨Ad<|Ao s 0,Ad<|Ao s 1,Ad<|Ao s 2,Ad<|Ao s 3,E0 s 4⟩:A6)=x at *;by_cases hc:s≠noB/\(if B4 x then wr x else noB)=s
 .obtain⟨h1,h2⟩:=hc;have hok:B4 x=A0:=by
   rcases tf (B4 x) with h|h
   .exact h
   .rw[h]at h2;exact absurd h2.symm h1
  rw[hok]at h2;simp only[A5]at h2;rw[AD<|by simp[h1,hok,h2],← h2,Pz hok];subst hx;simp only[h2];rfl
 .rw[A8 (by
   by_cases h1:s=noB
   .simp[h1]
   .have h2:¬(if B4 x then wr x else noB)=s:=λh=>hc ⟨h1,h⟩;simp[h1,h2])]
  cases h:DA s with
  | none=>rfl
  | some n=>
   exfalso;obtain⟨h1,h2⟩:=Jc h;have hf:=Ho h1;obtain⟨a0,a1,a2,a3,a4⟩:=atY hf;have hsz:=mB hf;obtain⟨f0,f1,t0,t1,n0,n1,u0,u1,s0,s1⟩:=hf;rw[h2]at a0 a1 a2 a3 a4;rw[a0,a1,a2,a3,a4,Mj J J,Mj J J,Mj J J,Mj J J]at hx;have hx:n=x:=hx;subst hx;refine hc ⟨λe=> ?_,by rw[h1];exact h2⟩;rw[h2,e]at hsz;exact absurd hsz<|by decide
def arM{n:A6}(hf:U6 n):GB [32] 0 4 (wrL n)=[B6 n.fr,B6 n.nu,B6 n.to,B6 n.un,L n.tx]:=by
 obtain⟨f0,f1,t0,t1,n0,n1,u0,u1,s0,s1⟩:=hf;unfold wrL;rw[LV<|HC f0,LV<|HC J,LV<|HC t0,LV<|HC J];rfl
def im:∀(k:Nat) (l:List UInt8),∀p∈GB [32] 0 k l,p.length<=l.length
 | 0,l,p,hp=>by
  obtain rfl:=C9.1 hp;exact As _
 | k+1,l,p,hp=>by
  rcases LX l with h|⟨w,r,h,rfl⟩
  .rw[X4 h]at hp;obtain rfl:=C9.1 hp;exact As _
  .rw[LV h]at hp;rcases Bj.1 hp with rfl|hp
   .simp
   .have:=im k r p hp;simp;omega
def jI:∀(k:Nat) (l:List UInt8),(GB [32] 0 k l).length<=k+1
 | 0,l=>As _
 | k+1,l=>by
  rcases LX l with h|⟨w,r,h,rfl⟩
  .rw[X4 h];simp
  .rw[LV h];have:=jI k r;simp;omega
def akQ{s:A4}(hs:s.size<=1048576):VR (s,())=I (Tr<|DA s,()):=by
 unfold VR;simp only[atF hs,A9];generalize hk:min 5 (s.size+1) - 1=k;have hsz:=im k<|L s;have hln:=jI k<|L s;have hwr:∀n,DA s=I n->GB [32] 0 k (L s)=[B6 n.fr,B6 n.nu,B6 n.to,B6 n.un,L n.tx]:=λn hn=>by
  obtain⟨h1,h2⟩:=Jc hn;have:=mB<|Ho h1;rw[h2]at this;obtain rfl:k=4:=J
  rw[← h2,R6];exact arM<|Ho h1
 generalize GB [32] 0 k (L s)=ps at *;by_cases h5:ps.length=5
 .match ps,h5 with
  | [p0,p1,p2,p3,p4],_=>
   have hb:∀p∈[p0,p1,p2,p3,p4],(B p).size<=1048576:=λp hp=>by
    have:=hsz p hp;rw[Ay]at this;rw[BQ];omega
   have e5:(!decide (((([p0,p1,p2,p3,p4]:List (List UInt8)).map B).length:Int)=5))=A3:=rfl;have e6:(A1 (0<=4)&&A1 ((4:Int)<=((([p0,p1,p2,p3,p4]:List (List UInt8)).map B).length:Int)))=A0:=rfl;have e7:BH (AL 4) (([p0,p1,p2,p3,p4]:List (List UInt8)).map B)=[B p0,B p1,B p2,B p3]:=rfl;simp only[e5,e6,e7,A5,A7];rw[aBC (by simp) (λw hw=>by
    simp only[Bj,List.not_mem_nil,or_false]at hw;obtain rfl|rfl|rfl|rfl:=hw
    .exact hb p0 (by simp)
    .exact hb p1 (by simp)
    .exact hb p2 (by simp)
    .exact hb p3<|by simp)]
   have oS:At [B p0,B p1,B p2,B p3].length (λi=>(Aq<|[B p0,B p1,B p2,B p3].getD i noB).2)=((Aq<|B p0).2&&((Aq<|B p1).2&&((Aq<|B p2).2&&((Aq<|B p3).2&&A0)))):=rfl;rw[oS];rcases tf ((Aq<|B p0).2&&((Aq<|B p1).2&&((Aq<|B p2).2&&((Aq<|B p3).2&&A0)))) with ha|ha
   .rw[ha];simp only[A5,A9,AB,A7,DP,JM];have i0:inb 0 [(Aq<|B p0).1,(Aq<|B p1).1,(Aq<|B p2).1,(Aq<|B p3).1].length=A0:=rfl;have i1:inb 1 [(Aq<|B p0).1,(Aq<|B p1).1,(Aq<|B p2).1,(Aq<|B p3).1].length=A0:=rfl;have i2:inb 2 [(Aq<|B p0).1,(Aq<|B p1).1,(Aq<|B p2).1,(Aq<|B p3).1].length=A0:=rfl;have i3:inb 3 [(Aq<|B p0).1,(Aq<|B p1).1,(Aq<|B p2).1,(Aq<|B p3).1].length=A0:=rfl;have i4:inb 4 [B p0,B p1,B p2,B p3,B p4].length=A0:=rfl;have r0: @rd Int (dfl .int) [(Aq<|B p0).1,(Aq<|B p1).1,(Aq<|B p2).1,(Aq<|B p3).1] 0=(Aq<|B p0).1:=rfl;have r1: @rd Int (dfl .int) [(Aq<|B p0).1,(Aq<|B p1).1,(Aq<|B p2).1,(Aq<|B p3).1] 1=(Aq<|B p1).1:=rfl;have r2: @rd Int (dfl .int) [(Aq<|B p0).1,(Aq<|B p1).1,(Aq<|B p2).1,(Aq<|B p3).1] 2=(Aq<|B p2).1:=rfl;have r3: @rd Int (dfl .int) [(Aq<|B p0).1,(Aq<|B p1).1,(Aq<|B p2).1,(Aq<|B p3).1] 3=(Aq<|B p3).1:=rfl;have r4: @rd A4 (dfl .str) [B p0,B p1,B p2,B p3,B p4] 4=B p4:=rfl;have hp4:=hb p4 (by simp);simp only[i0,i1,i2,i3,i4,r0,r1,r2,r3,r4,A5,Vy hp4,V3 hp4,A9,DY,DO,show ∀c,Ak c A0=A0 from λc=>rfl];generalize hx:(⟨(Aq<|B p0).1,(Aq<|B p1).1,(Aq<|B p2).1,(Aq<|B p3).1,B p4⟩:A6)=x at *;by_cases hc:B4 x=A0/\wr x=s
    .obtain⟨h1,h2⟩:=hc;rw[AD<|by simp[h1,h2],← h2,Pz h1];subst hx;rfl
    .rw[A8 (by
      rcases tf (B4 x) with h1|h1
      .have h2:¬wr x=s:=λh=>hc ⟨h1,h⟩;simp[h1,h2]
      .simp[h1])]
     cases h:DA s with
     | none=>rfl
     | some n=>
      exfalso;obtain⟨h1,h2⟩:=Jc h;have hf:=Ho h1;have hp:=hwr n h;simp only[M3,and_true]at hp;obtain⟨rfl,rfl,rfl,rfl,rfl⟩:=hp;obtain⟨f0,f1,t0,t1,n0,n1,u0,u1,s0,s1⟩:=hf;rw[Iw J J,Iw J J,Iw J J,Iw J J,B_L]at hx;have hx:n=x:=hx;subst hx;exact hc ⟨h1,h2⟩
   .rw[ha];simp only[A9,AI,A5,A7];cases h:DA s with
    | none=>rfl
    | some n=>
     exfalso;obtain⟨h1,h2⟩:=Jc h;have hf:=Ho h1;have hp:=hwr n h;simp only[M3,and_true]at hp;obtain⟨rfl,rfl,rfl,rfl,rfl⟩:=hp;obtain⟨f0,f1,t0,t1,n0,n1,u0,u1,s0,s1⟩:=hf;rw[Iw J J,Iw J J,Iw J J,Iw J J]at ha;cases ha
 .have e5:(!decide (((ps.map B).length:Int)=5))=A0:=by simp;omega
  simp only[e5,A5];cases h:DA s with
  | none=>rfl
  | some n=>
   have:=congrArg JL<|hwr n h;simp at this;exact absurd this h5
abbrev KL:=Int×Int×Int×List A6×List Mark×List A6×A2
abbrev tK(k:AG):KL:=(k.id,k.ti,k.nx,k.held,k.marks,k.inbox,())
def B3(r:Option ((KL×Bool×A2)×A2))(o:Option AG):Prop:=match o with
 | some k=>r=I ((tK k,A0,()),())
 | none=>∃t,r=I ((t,A3,()),())
def B3.no{t:KL}:B3 (I ((t,A3,()),())) U:=⟨t,rfl⟩
def B3.eta{r:Option ((KL×Bool×A2)×A2)}{o:Option AG}(h:B3 r o):
  B3 (r.bind λr=>I (((r.1.1.1,r.1.1.2.1,r.1.1.2.2.1,r.1.1.2.2.2.1,r.1.1.2.2.2.2.1,r.1.1.2.2.2.2.2.1,()),r.1.2.1,()),())) o:=by
 cases o with
 | some k=>
  have:r=_:=h;subst this;rfl
 | none=>
  obtain⟨t,rfl⟩:=h;exact⟨t,rfl⟩
def B3.ite{c:Bool}{a b:Option ((KL×Bool×A2)×A2)}{x y:Option AG}(h1:c=A0->B3 a x)(h2:c=A3->B3 b y):B3 (if c then a else b) (if c then x else y):=by
 cases c
 .exact h2 rfl
 .exact h1 rfl
def B3.neg{c:Bool}{t:KL}{b:Option ((KL×Bool×A2)×A2)}{y:Option AG}(h2:c=A3->B3 b y):B3 (if c then I ((t,A3,()),()) else b) (if c then U else y):=B3.ite (λ_=>B3.no) h2
def FE(k:AG)(n:A6):Option AG:=
 if !B4 n then U else if A1 (n.un<=k.ti) then U else if A1 (0<=AY k.held n.fr n.nu) then U else if A1 (0<=AY k.inbox n.fr n.nu) then U else if A1 (0<=Bs k.marks n.fr n.nu) then U else
 if A1 (12<(k.held.length:Int)+k.marks.length+1) then U else
 if A1 (n.to=k.id) then I ⟨k.id,k.ti,k.nx,k.held,Ez k.marks ⟨n.fr,n.nu,n.un⟩,Ek k.inbox n⟩ else I ⟨k.id,k.ti,k.nx,Ek k.held n,k.marks,k.inbox⟩
def yl{id ti nx fr nu tt un:Int}{tx:A4}{held:List A6}{marks:List Mark}{inbox:List A6}(sm:DR held marks inbox)(hs:tx.size<=1048576):
  B3 (Vw ((id,ti,nx,held,marks,inbox,()),(fr,nu,tt,un,tx,()),())) (FE ⟨id,ti,nx,held,marks,inbox⟩ ⟨fr,nu,tt,un,tx⟩):=by
 have hl:=sm.hl;have ml:=sm.ml;unfold Vw FE;simp only[Vy hs,Ja sm.hl,Ja sm.il,S1 sm.ml,fF sm.hl,fF sm.il,gU sm.ml,A9,
  AZ (n:=(held.length:Int)+marks.length) J J,AZ (n:=(held.length:Int)+marks.length+1) J J]
 exact B3.neg λ_=>B3.neg λ_=>B3.neg λ_=>B3.neg λ_=>B3.neg λ_=>B3.neg λ_=>B3.ite (λ_=>rfl) λ_=>rfl
def YG{l:List A6}{n:A6}(h:AY l n.fr n.nu<0):PJ l n=Ek l n:=by
 refine aCD λx hx=> ?_;have hne:¬(x.fr=n.fr/\x.nu=n.nu):=λhc=>by
  rcases GL l.length (λi=>A1 ((nA l i).fr=n.fr)&&A1 ((nA l i).nu=n.nu)) with⟨_,h2⟩|⟨i,h1,_⟩
  .obtain⟨j,hj,rfl⟩:=DG hx;have:=h2 j hj;rw[Dh<|Av hj]at this;simp[hc.1,hc.2]at this
  .unfold AY at h;omega
 unfold bef;rw[M5];simp;omega
def kJ{l:List Mark}{n:Mark}(h:Bs l n.mf n.mn<0):PK l n=Ez l n:=by
 refine aCD λx hx=> ?_;have hne:¬(x.mf=n.mf/\x.mn=n.mn):=λhc=>by
  rcases GL l.length (λi=>A1 ((mA l i).mf=n.mf)&&A1 ((mA l i).mn=n.mn)) with⟨_,h2⟩|⟨i,h1,_⟩
  .obtain⟨j,hj,rfl⟩:=DG hx;have:=h2 j hj;rw[Gr<|Av hj]at this;simp[hc.1,hc.2]at this
  .unfold Bs at h;omega
 unfold bef;rw[M5];simp;omega
def aAg{id ti nx fr nu tt un:Int}{tx:A4}{held:List A6}{marks:List Mark}{inbox:List A6}(sm:DR held marks inbox)(hs:tx.size<=1048576):
  B3 (Vb ((id,ti,nx,held,marks,inbox,()),(fr,nu,tt,un,tx,()),())) (FE ⟨id,ti,nx,held,marks,inbox⟩ ⟨fr,nu,tt,un,tx⟩):=by
 have hl:=sm.hl;have ml:=sm.ml;have ayG:cn ((id,ti,nx,held,marks,inbox,()),(fr,nu,tt,un,tx,()),())=
   I ((B4 ⟨fr,nu,tt,un,tx⟩&&(A1 (ti<un)&&(A1 (AY held fr nu<0)&&(A1 (Bs marks fr nu<0)&&A1 (AY inbox fr nu<0)))),()),()):=by
  unfold cn;simp only[Vt hs,JW sm.hl,JW sm.il,Ru sm.ml,A9,DY,DO,show ∀c,Ak c A0=A0 from λc=>rfl,A5];rcases tf (B4 ⟨fr,nu,tt,un,tx⟩) with h1|h1<;>rcases tf (A1<|ti<un) with h2|h2<;>rcases tf (A1<|AY held fr nu<0) with h3|h3<;>simp only[h1,h2,h3,A5,A7,AW,AO]
 unfold Vb FE;have Ec:=bo (l:=held) (fr:=fr) (nu:=nu) (tt:=tt) (un:=un) (tx:=tx) sm.hl;have Zh:=bo (l:=inbox) (fr:=fr) (nu:=nu) (tt:=tt) (un:=un) (tx:=tx) sm.il;have ayA:=qY (l:=marks) (mf:=fr) (mn:=nu) (mu:=un) sm.ml;simp only[ayG,Ec,Zh,ayA,A9];rcases tf (B4 ⟨fr,nu,tt,un,tx⟩) with h1|h1
 .rcases ET un ti with h2|h2
  .simp only[h1,h2,AU,Ae,AW,AO,AI,AB,A5,A7];exact B3.no
  .rcases sgn (AY held fr nu) with h3|h3
   .rcases sgn (Bs marks fr nu) with h4|h4
    .rcases sgn (AY inbox fr nu) with h5|h5
     .have q1:AY held fr nu<0:=of_eq_true h3.1;have q2:Bs marks fr nu<0:=of_eq_true h4.1;have q3:AY inbox fr nu<0:=of_eq_true h5.1;have lN:=Wq (λx:A6=>bef x.fr x.nu fr nu) held ⟨fr,nu,tt,un,tx⟩;have lM:=Wq (λx:Mark=>bef x.mf x.mn fr nu) marks ⟨fr,nu,un⟩;have eN:PJ held ⟨fr,nu,tt,un,tx⟩=Ek held ⟨fr,nu,tt,un,tx⟩:=YG q1;have eI:PJ inbox ⟨fr,nu,tt,un,tx⟩=Ek inbox ⟨fr,nu,tt,un,tx⟩:=YG q3;have eM:PK marks ⟨fr,nu,un⟩=Ez marks ⟨fr,nu,un⟩:=kJ q2;have l1:((Ek held ⟨fr,nu,tt,un,tx⟩).length:Int)=held.length+1:=by unfold Ek;rw[lN];omega
      have l2:((Ez marks ⟨fr,nu,un⟩).length:Int)=marks.length+1:=by unfold Ez;rw[lM];omega
      simp only[h1,h2,h3,h4,h5,eN,eI,eM,l1,l2,AU,Ae,AW,AB,A7,
       AZ (n:=(held.length:Int)+1+marks.length) J J,AZ (n:=(held.length:Int)+(marks.length+1)) J J]
      rcases ET ((held.length:Int)+marks.length+1) 12 with h6|h6
      .have a1:A1 ((held.length:Int)+1+marks.length<=12)=A0:=by have:=of_eq_true h6.1;simp;omega
       have a2:A1 ((held.length:Int)+(marks.length+1)<=12)=A0:=by have:=of_eq_true h6.1;simp;omega
       simp only[a1,a2,h6,Ae,A7];by_cases h7:tt=id
       .simp only[h7,AU,AB,A7,A5];rfl
       .simp only[h7,Ae,AI,A7,A5];rfl
      .have a1:A1 ((held.length:Int)+1+marks.length<=12)=A3:=by have:=of_eq_true h6.2;simp;omega
       have a2:A1 ((held.length:Int)+(marks.length+1)<=12)=A3:=by have:=of_eq_true h6.2;simp;omega
       simp only[a1,a2,h6,AU,A5];by_cases h7:tt=id
       .simp only[h7,AU,AB,A7];exact B3.no
       .simp only[h7,Ae,AI,A5];exact B3.no
     .simp only[h1,h2,h3,h4,h5,AU,Ae,AW,AO,AI,AB,A5,A7];exact B3.no
    .simp only[h1,h2,h3,h4,AU,Ae,AW,AO,AI,AB,A5,A7,ite_self];exact B3.no
   .simp only[h1,h2,h3,AU,Ae,AW,AO,AI,AB,A5,A7];exact B3.no
 .simp only[h1,AO,AI,A5];exact B3.no
abbrev ES:A4:=B [116,105,109,101]
abbrev Eg:A4:=B [110,101,120,116]
abbrev Dd:A4:=B [111,119,110]
abbrev EG:A4:=B [116,97,107,101]
abbrev EH:A4:=B [104,101,108,100]
abbrev EO:A4:=B [105,110,98,111,120]
abbrev C3:A4:=B [108,101,116]
abbrev CF:A4:=B [101,97,116]
abbrev D0:A4:=B [109,97,114,107]
def I5(k:AG)(w:A4)(n:Int):Option AG:=
 if A1 (w=ES)&&A1 (k.ti<n) then I ⟨k.id,n,k.nx,Gp n k.held,Jl n k.marks,k.inbox⟩ else if A1 (w=Eg)&&A1 (k.nx<n) then I ⟨k.id,k.ti,n,k.held,k.marks,k.inbox⟩ else U
def apG{id ti nx n:Int}{w:A4}{held:List A6}{marks:List Mark}{inbox:List A6}(sm:DR held marks inbox):
  B3 (W7 ((id,ti,nx,held,marks,inbox,()),w,n,())) (I5 ⟨id,ti,nx,held,marks,inbox⟩ w n):=by
 unfold W7 I5;simp only[ame sm,A9];exact B3.ite (λ_=>rfl) λ_=>B3.ite (λ_=>rfl) λ_=>B3.no
def GN(k:AG)(w:A4)(n:A6):Option AG:=
 if A1 (w=Dd)&&(A1 (n.fr=k.id)&&A1 (n.nu=k.nx)) then FE ⟨k.id,k.ti,k.nx+1,k.held,k.marks,k.inbox⟩ n else if A1 (w=EG)&& !decide (n.fr=k.id) then FE k n else
 if A1 (0<=AY k.held n.fr n.nu)||decide (0<=AY k.inbox n.fr n.nu) then U else if A1 (w=EH) then I ⟨k.id,k.ti,k.nx,Ek k.held n,k.marks,k.inbox⟩ else if A1 (w=EO) then I ⟨k.id,k.ti,k.nx,k.held,k.marks,Ek k.inbox n⟩ else U
def anY{id ti nx fr nu tt un:Int}{w tx:A4}{held:List A6}{marks:List Mark}{inbox:List A6}(sm:DR held marks inbox)(hs:tx.size<=1048576)(h0:0<=nx)(h1:nx<=1000):
  B3 (Vq ((id,ti,nx,held,marks,inbox,()),w,(fr,nu,tt,un,tx,()),())) (GN ⟨id,ti,nx,held,marks,inbox⟩ w ⟨fr,nu,tt,un,tx⟩):=by
 have hj:(if A1 (w=Dd) then(I (.inr (w,(id,ti,nx,held,marks,inbox,()),(fr,nu,tt,un,tx,()),(0,0,0,([]:List A6),([]:List Mark),([]:List A6),()),A1 (fr=id)&&A1 (nu=nx),())):Option (((KL×Bool×A2)×A2) ⊕ (A4×KL×(Int×Int×Int×Int×A4×A2)×KL×Bool×A2))) else
   I (.inr (w,(id,ti,nx,held,marks,inbox,()),(fr,nu,tt,un,tx,()),(0,0,0,([]:List A6),([]:List Mark),([]:List A6),()),A3,())))=
   I (.inr (w,(id,ti,nx,held,marks,inbox,()),(fr,nu,tt,un,tx,()),(0,0,0,([]:List A6),([]:List Mark),([]:List A6),()),A1 (w=Dd)&&(A1 (fr=id)&&A1 (nu=nx)),())):=by
  cases A1 (w=Dd)<;>rfl
 unfold Vq GN;simp only[hj,Be];refine B3.ite (λ_=> ?_) λ_=> ?_
 .rw[AZ J J];exact(yl sm hs).eta
 refine B3.ite (λ_=>(yl sm hs).eta) λ_=> ?_;simp only[Ja sm.hl,Ja sm.il,A9,DY,DO,show ∀c,Ak c A0=A0 from λc=>rfl,A5];refine B3.neg λ_=> ?_;simp only[fF sm.hl,fF sm.il,A9];exact B3.ite (λ_=>rfl) λ_=>B3.ite (λ_=>rfl) λ_=>B3.no
def GM{l:List A6}{f n:Int}(h:0<=AY l f n):(AY l f n).toNat<l.length/\((AY l f n).toNat:Int)=AY l f n/\(nA l (AY l f n).toNat).fr=f/\(nA l (AY l f n).toNat).nu=n:=by
 rcases GL l.length (λi=>A1 ((nA l i).fr=f)&&A1 ((nA l i).nu=n)) with⟨h1,_⟩|⟨i,h1,h2,h3,_⟩
 .unfold AY at h;omega
 .have e:AY l f n=(i:Int):=h1;rw[e];simp at h3;exact⟨h2,rfl,h3.1,h3.2⟩
def aEo{l:List Mark}{f n:Int}(h:0<=Bs l f n):(Bs l f n).toNat<l.length/\((Bs l f n).toNat:Int)=Bs l f n/\(mA l (Bs l f n).toNat).mf=f/\(mA l (Bs l f n).toNat).mn=n:=by
 rcases GL l.length (λi=>A1 ((mA l i).mf=f)&&A1 ((mA l i).mn=n)) with⟨h1,_⟩|⟨i,h1,h2,h3,_⟩
 .unfold Bs at h;omega
 .have e:Bs l f n=(i:Int):=h1;rw[e];simp at h3;exact⟨h2,rfl,h3.1,h3.2⟩
def Mo{l:List A6}{f n:Int}(h:0<=AY l f n):inb (AY l f n) l.length=A0:=by
 obtain⟨h1,h2,_⟩:=GM h;rw[← h2];exact AP h1
def aCG{l:List A6}{f n:Int}:Ak (A1<|0<=AY l f n) (inb (AY l f n) l.length)=A0:=by
 rcases tf (A1<|0<=AY l f n) with h|h
 .rw[h,IL,Mo<|BX h]
 .rw[h,HB]
def EX(l:List A6)(m:Mark):Bool:=A1 (0<=AY l m.mf m.mn)&&A1 ((nA l (AY l m.mf m.mn).toNat).un=m.mu)
def Ew(k:AG)(w:A4)(m:Mark):Option AG:=
 if A1 (w=C3)&&EX k.held m then I ⟨k.id,k.ti,k.nx,Ey k.held (AY k.held m.mf m.mn).toNat,Ez k.marks m,k.inbox⟩ else
 if A1 (w=CF)&&EX k.inbox m then I ⟨k.id,k.ti,k.nx,k.held,k.marks,Ey k.inbox (AY k.inbox m.mf m.mn).toNat⟩ else
 if A1 (w=D0)&& !decide (0<=Bs k.marks m.mf m.mn) then I ⟨k.id,k.ti,k.nx,k.held,Ez k.marks m,k.inbox⟩ else U
def ab6{l:List A6}{f n:Int}(hl:l.length<=1048576)(h:0<=AY l f n):Rl (l,AY l f n,())=I ((Ey l (AY l f n).toNat,()),()):=by
 obtain⟨h1,h2,_⟩:=GM h
 conv=>lhs;rw[← h2]
 exact amc hl h1
def anZ{id ti nx a b c:Int}{w:A4}{held:List A6}{marks:List Mark}{inbox:List A6}(sm:DR held marks inbox):
  B3 (Vv ((id,ti,nx,held,marks,inbox,()),w,(a,b,c,()),())) (Ew ⟨id,ti,nx,held,marks,inbox⟩ w ⟨a,b,c⟩):=by
 unfold Vv Ew;simp only[Ja sm.hl,Ja sm.il,S1 sm.ml,A9,aCG,HB,A5];have hj:(if A1 (w=C3) then(I (.inr (w,(id,ti,nx,held,marks,inbox,()),(a,b,c,()),(0,0,0,([]:List A6),([]:List Mark),([]:List A6),()),AY held a b,AY inbox a b,A1<|0<=Bs marks a b,A1 (0<=AY held a b)&&A1 ((@rd A6 (dfl .note) held<|AY held a b).un=c),())):Option (((KL×Bool×A2)×A2) ⊕ (A4×KL×(Int×Int×Int×A2)×KL×Int×Int×Bool×Bool×A2))) else
   I (.inr (w,(id,ti,nx,held,marks,inbox,()),(a,b,c,()),(0,0,0,([]:List A6),([]:List Mark),([]:List A6),()),AY held a b,AY inbox a b,A1<|0<=Bs marks a b,A3,())))=
   I (.inr (w,(id,ti,nx,held,marks,inbox,()),(a,b,c,()),(0,0,0,([]:List A6),([]:List Mark),([]:List A6),()),AY held a b,AY inbox a b,A1<|0<=Bs marks a b,A1 (w=C3)&&EX held ⟨a,b,c⟩,())):=by
  cases A1 (w=C3)<;>rfl
 simp only[hj,Be];refine B3.ite (λh=> ?_) λ_=> ?_
 .simp only[EX,AE,decide_eq_true_eq]at h;simp only[ab6 sm.hl h.2.1,gU sm.ml,A9];rfl
 simp only[aCG,HB,A5];have hj2:(if A1 (w=CF) then(I (.inr (w,(id,ti,nx,held,marks,inbox,()),(a,b,c,()),(0,0,0,([]:List A6),([]:List Mark),([]:List A6),()),AY inbox a b,A1<|0<=Bs marks a b,A1 (0<=AY inbox a b)&&A1 ((@rd A6 (dfl .note) inbox<|AY inbox a b).un=c),())):Option (((KL×Bool×A2)×A2) ⊕ (A4×KL×(Int×Int×Int×A2)×KL×Int×Bool×Bool×A2))) else
   I (.inr (w,(id,ti,nx,held,marks,inbox,()),(a,b,c,()),(0,0,0,([]:List A6),([]:List Mark),([]:List A6),()),AY inbox a b,A1<|0<=Bs marks a b,A3,())))=
   I (.inr (w,(id,ti,nx,held,marks,inbox,()),(a,b,c,()),(0,0,0,([]:List A6),([]:List Mark),([]:List A6),()),AY inbox a b,A1<|0<=Bs marks a b,A1 (w=CF)&&EX inbox ⟨a,b,c⟩,())):=by
  cases A1 (w=CF)<;>rfl
 simp only[hj2,Be];refine B3.ite (λh=> ?_) λ_=> ?_
 .simp only[EX,AE,decide_eq_true_eq]at h;simp only[ab6 sm.il h.2.1,A9];rfl
 simp only[gU sm.ml,A9];exact B3.ite (λ_=>rfl) λ_=>B3.no
structure Eb (k:AG):Prop where
 id0:0<=k.id
 id1:k.id<=3
 t0:0<=k.ti
 t1:k.ti<=999
 n0:1<=k.nx
 n1:k.nx<=100
 hl:k.held.length<=6
 h:F5 k.held=A0
 ml:k.marks.length<=12
 m:Hq k.marks=A0
 il:k.inbox.length<=6
 i:F5 k.inbox=A0
 ho:∀i,i<k.held.length->IV k.id k.ti k.nx k.held k.marks i=A0
 mo:∀i,i<k.marks.length->KV k.id k.ti k.nx k.marks i=A0
 io:∀i,i<k.inbox.length->Je k.id k.ti k.nx k.marks k.inbox i=A0
def CY{k:AG}(h:Aw k=A0):Eb k:=by
 unfold Aw at h;simp only[AE,Af,decide_eq_true_eq,CS]at h;obtain⟨⟨a,b⟩,⟨c,d⟩,⟨e,f⟩,⟨g,i⟩,⟨j,l⟩,⟨m,n⟩,o,p,q⟩:=h;exact⟨a,b,c,d,e,f,J,i,J,l,J,n,o,p,q⟩
def Gj{l:List A6}(h:F5 l=A0){i:Nat}(hi:i<l.length):B4 (nA l i)=A0:=by
 have:=CS.1 h i hi;simp only[AE]at this;exact this.1
def SN{l:List Mark}(h:Hq l=A0){i:Nat}(hi:i<l.length):Fp (mA l i)=A0:=by
 have:=CS.1 h i hi;simp only[AE]at this;exact this.1
def iw{l:List A6}(h:F5 l=A0){x:A6}(hx:x∈l):B4 x=A0:=by
 obtain⟨i,hi,rfl⟩:=DG hx;have:=Gj h hi;rwa[Dh<|Av hi]at this
def apn{l:List Mark}(h:Hq l=A0){x:Mark}(hx:x∈l):Fp x=A0:=by
 obtain⟨i,hi,rfl⟩:=DG hx;have:=SN h hi;rwa[Gr<|Av hi]at this
def KS{n:A6}(h:B4 n=A0):G2 n:=by
 have:=(Ho h).s1;unfold G2;omega
def Eb.sm{k:AG}(h:Eb k):DR k.held k.marks k.inbox:=by
 obtain⟨id0,id1,t0,t1,n0,n1,hl,hh,ml,m,il,hi,ho,mo,io⟩:=h;exact⟨J,λx hx=>KS<|iw hh hx,J,J,λx hx=>KS<|iw hi hx⟩
def QD{l:List A6}{n:A6}(hl:l.length<=6)(h:∀x∈l,G2 x)(hn:G2 n):(Ek l n).length<=1048576/\ ∀x∈Ek l n,G2 x:=by
 refine⟨by unfold Ek;rw[Wq];omega,λx hx=> ?_⟩;rcases Mx _ hx with rfl|hx
 .exact hn
 .exact h x hx
def T4{l:List Mark}{n:Mark}(hl:l.length<=12):(Ez l n).length<=1048576:=by unfold Ez;rw[Wq];omega
def YH{l:List A6}{i:Nat}(hl:l.length<=6)(h:∀x∈l,G2 x):(Ey l i).length<=1048576/\ ∀x∈Ey l i,G2 x:=by
 refine⟨by unfold Ey;simp;omega,λx hx=> ?_⟩;unfold Ey at hx;rcases BM.1 hx with hx|hx
 .exact h x (Gx hx)
 .exact h x<|Kl hx
abbrev SmK(k:AG):Prop:=DR k.held k.marks k.inbox
def YX{k k':AG}{n:A6}(hf:Eb k)(hk:k'.held=k.held/\k'.marks=k.marks/\k'.inbox=k.inbox){o:AG}(h:FE k' n=I o):SmK o:=by
 have sm:=hf.sm;have l1:=hf.hl;have l2:=hf.ml;have l3:=hf.il;unfold FE at h;rw[hk.1,hk.2.1,hk.2.2]at h;split at h
 .cases h
 rename_i hn;have hn:G2 n:=KS (by simpa using hn)
 iterate 5 (split at h;· cases h)
 split at h<;>cases h
 .have a:=QD l3 sm.i hn;exact⟨sm.hl,sm.h,T4 l2,a.1,a.2⟩
 .have a:=QD l1 sm.h hn;exact⟨a.1,a.2,sm.ml,sm.il,sm.i⟩
def avy{k:AG}{w:A4}{n:Int}(hf:Eb k){o:AG}(h:I5 k w n=I o):SmK o:=by
 have sm:=hf.sm;have l1:=hf.hl;have l2:=hf.ml;unfold I5 at h;split at h
 .cases h;have a:=Ic (λx:A6=>A1<|n<x.un) k.held;have b:=Ic (λx:Mark=>A1<|n<x.mu) k.marks;exact⟨by unfold Gp;simp only;omega,λx hx=>sm.h x (FF.1 hx).1,by unfold Jl;simp only;omega,sm.il,sm.i⟩
 .split at h<;>cases h;exact sm
def aqi{k:AG}{w:A4}{n:A6}(hf:Eb k)(hn:B4 n=A0){o:AG}(h:GN k w n=I o):SmK o:=by
 have sm:=hf.sm;unfold GN at h;split at h
 .exact YX (k':=⟨k.id,k.ti,k.nx+1,k.held,k.marks,k.inbox⟩) hf ⟨rfl,rfl,rfl⟩ h
 split at h
 .exact YX (k':=k) hf ⟨rfl,rfl,rfl⟩ h
 split at h
 .cases h
 split at h
 .cases h;have a:=QD hf.hl sm.h<|KS hn;exact⟨a.1,a.2,sm.ml,sm.il,sm.i⟩
 split at h<;>cases h;have a:=QD hf.il sm.i<|KS hn;exact⟨sm.hl,sm.h,sm.ml,a.1,a.2⟩
def aql{k:AG}{w:A4}{m:Mark}(hf:Eb k){o:AG}(h:Ew k w m=I o):SmK o:=by
 have sm:=hf.sm;unfold Ew at h;split at h
 .cases h;have a:=YH (i:=(AY k.held m.mf m.mn).toNat) hf.hl sm.h;exact⟨a.1,a.2,T4 hf.ml,sm.il,sm.i⟩
 split at h
 .cases h;have a:=YH (i:=(AY k.inbox m.mf m.mn).toNat) hf.il sm.i;exact⟨sm.hl,sm.h,sm.ml,a.1,a.2⟩
 split at h<;>cases h;exact⟨sm.hl,sm.h,T4 hf.ml,sm.il,sm.i⟩
def jC{k:AG}{w:A4}{m:Mark}(hf:Eb k)(hm:Fp m=A3):Ew k w m=U\/ ∃o,Ew k w m=I o/\Aw o=A3:=by
 have hit:∀l,F5 l=A0->EX l m=A3:=λl hl=>by
  unfold EX;rcases tf (A1<|0<=AY l m.mf m.mn) with h|h
  .obtain⟨h1,_,h2,h3⟩:=GM<|BX h;rw[h,AW,decide_eq_false_iff_not];intro h4;have h5:=Ho<|Gj hl h1;have:Fp m=A0:=by
    unfold Fp;simp only[AE,Af];have:=h5.f0;have:=h5.f1;have:=h5.n0;have:=h5.n1;have:=h5.u0;have:=h5.u1;omega
   rw[this]at hm;cases hm
  .rw[h];rfl
 unfold Ew;rw[hit _ hf.h,hit _ hf.i,Bc,Bc,A7,A7];split
 .refine .inr ⟨_,rfl, ?_⟩;rcases tf (Aw ⟨k.id,k.ti,k.nx,k.held,Ez k.marks m,k.inbox⟩) with h|h
  .have:=apn (CY h).m (Mz (λx=>bef x.mf x.mn m.mf m.mn) (l:=k.marks) (n:=m)<|.inl rfl);rw[hm]at this;cases this
  .exact h
 .exact .inl rfl
def Gm(r:A4):Option Mark:=match GB [32] 0 ((L r).count 32) (L r) with
 | [p,q,t]=>if(Aq<|B p).2&&((Aq<|B q).2&&((Aq<|B t).2&&A0)) then I ⟨(Aq<|B p).1,(Aq<|B q).1,(Aq<|B t).1⟩ else U
 | _=>U
def Bd(k:AG)(w r:A4):Option AG:=
 if A1 (w=ES)||decide (w=Eg) then(if(Aq r).2 then I5 k w (Aq r).1 else U) else
 if A1 (w=Dd)||(A1 (w=EG)||(A1 (w=EH)||decide (w=EO))) then(match DA r with|some n=>GN k w n|none=>U) else
 if A1 (w=C3)||(A1 (w=CF)||decide (w=D0)) then(match Gm r with|some m=>Ew k w m|none=>U) else U
def G3(k:AG)(rec:A4):Option AG:=if !(Nc<|L rec).isSome then U else Bd k (wd rec).1 (wd rec).2
def atg{id ti nx:Int}{w r:A4}{held:List A6}{marks:List Mark}{inbox:List A6}(sm:DR held marks inbox)(hr:r.size<=1048576):
  B3 ((dQ (r,B [32],())).bind λr46=>(Re (r46.1.1,())).bind λr47=>
   if r47.1.2.1&&A1 ((r47.1.1.length:Int)=3) then(if inb 0 r47.1.1.length then(if inb 1 r47.1.1.length then(if inb 2 r47.1.1.length then
    (Vv ((id,ti,nx,held,marks,inbox,()),w,((@rd Int (dfl .int) r47.1.1 0),(@rd Int (dfl .int) r47.1.1 1),(@rd Int (dfl .int) r47.1.1 2),()),())).bind λr48=>I (((r48.1.1.1,r48.1.1.2.1,r48.1.1.2.2.1,r48.1.1.2.2.2.1,r48.1.1.2.2.2.2.1,r48.1.1.2.2.2.2.2.1,()),r48.1.2.1,()),())
    else U) else U) else U)
   else I (((id,ti,nx,held,marks,inbox,()),A3,()),())) (match Gm r with|some m=>Ew ⟨id,ti,nx,held,marks,inbox⟩ w m|none=>U):=by
 unfold Gm;simp only[avg hr,A9];have hsz:=im ((L r).count 32)<|L r;have hln:=jI ((L r).count 32)<|L r;have aEL:(L r).count 32<=r.size:=List.count_le_length;generalize GB [32] 0 ((L r).count 32) (L r)=ps at *;have hb:∀p∈ps,(B p).size<=1048576:=λp hp=>by
  have:=hsz p hp;rw[Ay]at this;rw[BQ];omega
 rw[aBC (by simp;omega) (λw hw=>by
  obtain⟨p,hp,rfl⟩:=DE.1 hw;exact hb p hp)]
 simp only[A9];by_cases h3:ps.length=3
 .match ps,h3 with
  | [p,q,t],_=>
   have oS:At (([p,q,t]:List (List UInt8)).map B).length (λi=>(Aq<|(([p,q,t]:List (List UInt8)).map B).getD i noB).2)=((Aq<|B p).2&&((Aq<|B q).2&&((Aq<|B t).2&&A0))):=rfl;rw[oS];rcases tf ((Aq<|B p).2&&((Aq<|B q).2&&((Aq<|B t).2&&A0))) with h|h
   .simp only[h,A5];exact(anZ sm).eta
   .simp only[h,A7,AO];exact B3.no
 .have e1:∀c:Bool,(((if c then(((ps.map B).map λw=>(Aq w).1),A0,()) else(([]:List Int),A3,())).2.1&&A1 ((((if c then(((ps.map B).map λw=>(Aq w).1),A0,()) else(([]:List Int),A3,())):List Int×Bool×A2).1.length:Int)=3))=A3):=by
   intro c;cases c
   .rfl
   .simp;omega
  rw[AD (by rw[e1];simp)];have e2:(match ps with|[p,q,t]=>if(Aq<|B p).2&&((Aq<|B q).2&&((Aq<|B t).2&&A0)) then I (⟨(Aq<|B p).1,(Aq<|B q).1,(Aq<|B t).1⟩:Mark) else U|_=>U)=U:=by
   split
   .exact absurd rfl h3
   .rfl
  rw[e2];exact B3.no
def axH{id ti nx:Int}{w r:A4}{held:List A6}{marks:List Mark}{inbox:List A6}(sm:DR held marks inbox)(hr:r.size<=1048576){t:KL}:
  B3 ((Pn (r,())).bind λr33=>if r33.1.2.1 then(W7 ((id,ti,nx,held,marks,inbox,()),w,r33.1.1,())).bind λr34=>I (((r34.1.1.1,r34.1.1.2.1,r34.1.1.2.2.1,r34.1.1.2.2.2.1,r34.1.1.2.2.2.2.1,r34.1.1.2.2.2.2.2.1,()),r34.1.2.1,()),())
   else I ((t,A3,()),())) (if(Aq r).2 then I5 ⟨id,ti,nx,held,marks,inbox⟩ w (Aq r).1 else U):=by
 simp only[eB<|show r.size<=9223372036854775807 by omega,A9];exact B3.ite (λ_=>(apG sm).eta) λ_=>B3.no
def axQ{id ti nx:Int}{w r:A4}{held:List A6}{marks:List Mark}{inbox:List A6}(sm:DR held marks inbox)(hr:r.size<=1048576)(h0:0<=nx)(h1:nx<=1000){t:KL}:
  B3 ((VR (r,())).bind λr40=>if r40.1.2.1 then(Vq ((id,ti,nx,held,marks,inbox,()),w,(r40.1.1.1,r40.1.1.2.1,r40.1.1.2.2.1,r40.1.1.2.2.2.1,r40.1.1.2.2.2.2.1,()),())).bind λr41=>
    I (((r41.1.1.1,r41.1.1.2.1,r41.1.1.2.2.1,r41.1.1.2.2.2.1,r41.1.1.2.2.2.2.1,r41.1.1.2.2.2.2.2.1,()),r41.1.2.1,()),())
   else I ((t,A3,()),())) (match DA r with|some n=>GN ⟨id,ti,nx,held,marks,inbox⟩ w n|none=>U):=by
 simp only[akQ hr,A9];cases h:DA r with
 | none=>exact B3.no
 | some n=>
  have:=KS (Jc h).1;exact(anY sm this h0 h1).eta
def or3{a b c:Bool}{Ω X:Type}{f:Bool->X}:(if a then(I (.inr<|f a):Option (Ω ⊕ X)) else if b then I (.inr<|f b) else I (.inr<|f c))=I (.inr<|f<|a||(b||c)):=by cases a<;>cases b<;>rfl
def or2{a b:Bool}{Ω X:Type}{f:Bool->X}:(if a then(I (.inr<|f a):Option (Ω ⊕ X)) else I (.inr<|f b))=I (.inr<|f<|a||b):=by cases a<;>rfl
def or4{a b c d:Bool}{Ω X:Type}{f:Bool->X}:(if a then(I (.inr<|f a):Option (Ω ⊕ X)) else if b then I (.inr<|f b) else if c then I (.inr<|f c) else I (.inr<|f d))=I (.inr<|f<|a||(b||(c||d))):=by cases a<;>cases b<;>cases c<;>rfl
def aC9{a b:Bool}{Ω X:Type}{f:Bool->X}{g:X->Option Ω}{m:Option (Ω ⊕ X)}(h:m=(if a then(I (.inr<|f a):Option (Ω ⊕ X)) else I (.inr<|f b))):BS g m=g (f<|a||b):=by rw[h,or2];rfl
def asr{a b c:Bool}{Ω X:Type}{f:Bool->X}{g:X->Option Ω}{m:Option (Ω ⊕ X)}(h:m=(if a then(I (.inr<|f a):Option (Ω ⊕ X)) else if b then I (.inr<|f b) else I (.inr<|f c))):BS g m=g (f<|a||(b||c)):=by rw[h,or3];rfl
def asq{a b c d:Bool}{Ω X:Type}{f:Bool->X}{g:X->Option Ω}{m:Option (Ω ⊕ X)}(h:m=(if a then(I (.inr<|f a):Option (Ω ⊕ X)) else if b then I (.inr<|f b) else if c then I (.inr<|f c) else I (.inr<|f d))):BS g m=g (f<|a||(b||(c||d))):=by rw[h,or4];rfl
def apH{id ti nx:Int}{rec:A4}{held:List A6}{marks:List Mark}{inbox:List A6}(sm:DR held marks inbox)(hr:rec.size<=1048576)(h0:0<=nx)(h1:nx<=1000):
  B3 (W8 ((id,ti,nx,held,marks,inbox,()),rec,())) (G3 ⟨id,ti,nx,held,marks,inbox⟩ rec):=by
 have hr2:(wd rec).2.size<=1048576:=by have:=(Sp rec).2;omega
 unfold W8 G3 Bd;simp only[axY hr,A9];refine B3.neg λ_=> ?_;rw[aC9 (a:=A1<|(wd rec).1=ES) (b:=A1<|(wd rec).1=Eg) (f:=λv=>((id,ti,nx,held,marks,inbox,()),(0,0,0,[],[],[],()),(wd rec).1,(wd rec).2,(wd rec).1,v,())) rfl];refine B3.ite (λ_=>axH sm hr2) λ_=> ?_;simp only;rw[asq (a:=A1<|(wd rec).1=Dd) (b:=A1<|(wd rec).1=EG) (c:=A1<|(wd rec).1=EH) (d:=A1<|(wd rec).1=EO) (f:=λv=>((id,ti,nx,held,marks,inbox,()),(0,0,0,[],[],[],()),(wd rec).1,(wd rec).2,(wd rec).1,v,())) rfl];refine B3.ite (λ_=>axQ sm hr2 h0 h1) λ_=> ?_;simp only;rw[asr (a:=A1<|(wd rec).1=C3) (b:=A1<|(wd rec).1=CF) (c:=A1<|(wd rec).1=D0) (f:=λv=>((id,ti,nx,held,marks,inbox,()),(0,0,0,[],[],[],()),(wd rec).1,(wd rec).2,v,())) rfl];exact B3.ite (λ_=>atg sm hr2) λ_=>B3.no
def atE{k:AG}{rec:A4}(hf:Eb k){o:AG}(h:G3 k rec=I o):SmK o:=by
 unfold G3 at h;split at h
 .cases h
 unfold Bd at h;split at h
 .split at h
  .exact avy hf h
  .cases h
 split at h
 .cases hn:DA (wd rec).2 with
  | none=>rw[hn]at h;cases h
  | some n=>rw[hn]at h;exact aqi hf (Jc hn).1 h
 split at h
 .cases hn:Gm (wd rec).2 with
  | none=>rw[hn]at h;cases h
  | some n=>rw[hn]at h;exact aql hf h
 .cases h
def F8(k:AG)(rec:A4):AG×Bool:=
 if Aw k then(match (G3 k rec).filter Aw with|some k'=>(k',A0)|none=>(k,A3)) else(⟨0,0,0,[],[],[]⟩,A3)
def ym{id ti nx:Int}{rec:A4}{held:List A6}{marks:List Mark}{inbox:List A6}(sm:DR held marks inbox)(hr:rec.size<=1048576):
  S5 ((id,ti,nx,held,marks,inbox,()),rec,())=I ((tK (F8 ⟨id,ti,nx,held,marks,inbox⟩ rec).1,(F8 ⟨id,ti,nx,held,marks,inbox⟩ rec).2,()),()):=by
 unfold S5 F8;simp only[gx sm,wT sm,A9];rcases tf (Aw ⟨id,ti,nx,held,marks,inbox⟩) with h|h
 .have hf:=CY h;have ha:=apH (id:=id) (ti:=ti) (nx:=nx) sm hr (by have:=hf.n0;simp only at this;omega) (by have:=hf.n1;simp only at this;omega);simp only[h,AB,A7,A5];cases hst:G3 ⟨id,ti,nx,held,marks,inbox⟩ rec with
  | none=>
   rw[hst]at ha;obtain⟨t,ht⟩:=ha;simp only[ht,A9,AI,AB,HB,A5,Bo];rfl
  | some o=>
   rw[hst]at ha;have sm':=atE hf hst;rw[show W8 ((id,ti,nx,held,marks,inbox,()),rec,())=I ((tK o,A0,()),()) from ha];simp only[A9,AB,AI,IL,gx sm',wT sm',DY,DO,A5,Bi,Option.filter_some];rcases tf (Aw o) with h2|h2
   .simp only[h2,AB,A7,A5]
   .simp only[h2,AI,A7,A5]
 .simp only[h,AI,A7,A5]
def aq3{id ti nx a b:Int}{held:List A6}{marks:List Mark}{inbox:List A6}(sm:DR held marks inbox)(h:0<=AY held a b):
  fA ((id,ti,nx,held,marks,inbox,()),a,b,())=I (((id,ti,nx,Ey held (AY held a b).toNat,PK marks ⟨a,b,(nA held (AY held a b).toNat).un⟩,inbox,()),A0,()),()):=by
 obtain⟨h1,h2,_⟩:=GM h;have hl:=sm.hl;unfold fA;have Nj:A1 (AY held a b<0)=A3:=by simp;omega
 simp only[JW sm.hl,A9,Nj,A7,Mo h,A5];generalize hi:(AY held a b).toNat=i at *;rw[← h2];have e1:(A1 (0<=(i:Int))&&A1 ((i:Int)<=(held.length:Int)))=A0:=by simp;omega
 have e2:(A1 (0<=((i+1:Nat):Int))&&A1 (((i+1:Nat):Int)<=(held.length:Int)))=A0:=by simp;omega
 simp only[B5 h1 (by omega:held.length<=9223372036854775807),e1,e2,A5,Bb,EM,CA,DF,Cw,E4,Cc,qY sm.ml,A9];rw[A8<|B8 J,A8<|B8 J];rfl
def aq4{id ti nx a b:Int}{held:List A6}{marks:List Mark}{inbox:List A6}(sm:DR held marks inbox)(h:0<=AY inbox a b):
  fB ((id,ti,nx,held,marks,inbox,()),a,b,())=I (((id,ti,nx,held,marks,Ey inbox (AY inbox a b).toNat,()),A0,()),()):=by
 obtain⟨h1,h2,_⟩:=GM h;have hl:=sm.il;unfold fB;have Nj:A1 (AY inbox a b<0)=A3:=by simp;omega
 simp only[JW sm.il,A9,Nj,A7];generalize hi:(AY inbox a b).toNat=i at *;rw[← h2];have e1:(A1 (0<=(i:Int))&&A1 ((i:Int)<=(inbox.length:Int)))=A0:=by simp;omega
 have e2:(A1 (0<=((i+1:Nat):Int))&&A1 (((i+1:Nat):Int)<=(inbox.length:Int)))=A0:=by simp;omega
 simp only[B5 h1 (by omega:inbox.length<=9223372036854775807),e1,e2,A5,Bb,EM,CA,DF,Cw,E4];rw[A8<|B8 J,A8<|B8 J];rfl
def L7(r:A4):Bool:= !decide (E0 r 3=noB)|| !decide (r=((((BW (Ad<|Ao r 0)++B [32])++BW (Ad<|Ao r 1))++B [32])++BW (Ad<|Ao r 2)))
def mk3(r:A4):Mark:=⟨Ad<|Ao r 0,Ad<|Ao r 1,Ad<|Ao r 2⟩
def Dg(k:AG)(w r:A4):Option AG:=
 if A1 (w=ES) then(if A1 (Ad r<=k.ti) then U else I ⟨k.id,Ad r,k.nx,Gp (Ad r) k.held,Jl (Ad r) k.marks,k.inbox⟩) else
 if A1 (w=Dd) then(match DA r with|some n=>if !decide (n.fr=k.id) then U else if !decide (n.nu=k.nx) then U else FE ⟨k.id,k.ti,k.nx+1,k.held,k.marks,k.inbox⟩ n|none=>U) else
 if A1 (w=EG) then(match DA r with|some n=>if A1 (n.fr=k.id) then U else FE k n|none=>U) else
 if A1 (w=Eg) then(if A1 (Ad r<=k.nx) then U else I ⟨k.id,k.ti,Ad r,k.held,k.marks,k.inbox⟩) else
 if A1 (w=EH)||decide (w=EO) then(match DA r with|some n=>if A1 (0<=AY k.held n.fr n.nu) then U else if A1 (0<=AY k.inbox n.fr n.nu) then U else if A1 (w=EH) then I ⟨k.id,k.ti,k.nx,Ek k.held n,k.marks,k.inbox⟩ else I ⟨k.id,k.ti,k.nx,k.held,k.marks,Ek k.inbox n⟩|none=>U) else
 if L7 r then U else
 if A1 (w=C3) then(if !EX k.held (mk3 r) then U else I ⟨k.id,k.ti,k.nx,Ey k.held (AY k.held (mk3 r).mf (mk3 r).mn).toNat,Ez k.marks<|mk3 r,k.inbox⟩) else
 if A1 (w=CF) then(if !EX k.inbox (mk3 r) then U else I ⟨k.id,k.ti,k.nx,k.held,k.marks,Ey k.inbox (AY k.inbox (mk3 r).mf (mk3 r).mn).toNat⟩) else
 if A1 (w=D0) then(if A1 (0<=Bs k.marks (mk3 r).mf (mk3 r).mn) then U else I ⟨k.id,k.ti,k.nx,k.held,Ez k.marks<|mk3 r,k.inbox⟩) else U
def X0(s:A4): -1<=Ad s/\Ad s<10000:=by
 rcases SC s with⟨h,_⟩|⟨n,h,h1,h2⟩
 .omega
 .have:n<10000:=by
   have hv:=Yz 4 (L s) (by rw[Ay];omega) (by rw[h2];exact YS (n+1) n J);rw[h2,Xy (n+1) n J]at hv;omega
  omega
def jP{n:Int}(h0: -1<=n)(h1:n<10000):(BW n).size<=4:=by
 by_cases h:0<=n
 .exact Mf h J J
 .obtain rfl:n= -1:=J
  have:BW (-1)=B [45,49]:=by
   apply Fl;show B6 (-1)=_;rw[show(-1:Int)= -((1:Nat):Int) by rfl,lH _ J];show 45::dcm 1=_;rw[KR J];rfl
  rw[this];decide
def aao{l:List A6}{m:Mark}:(A1 (AY l m.mf m.mn<0)|| !decide ((@rd A6 (dfl .note) l<|AY l m.mf m.mn).un=m.mu))= !EX l m:=by
 unfold EX;rcases sgn (AY l m.mf m.mn) with h|h
 .simp only[h,AU,Ae,Bo,AO,AI]
 .simp only[h,AU,Ae,Bi,AW];rfl
def au2{l:List A6}{f n:Int}:Ak (!(A1<|AY l f n<0)) (inb (AY l f n) l.length)=A0:=by
 rcases sgn (AY l f n) with h|h
 .simp only[h,AU,AB,HB]
 .simp only[h,Ae,AI,IL,Mo<|of_eq_true h.2]
def aq1{id ti nx:Int}{rec:A4}{held:List A6}{marks:List Mark}{inbox:List A6}(hf:Eb ⟨id,ti,nx,held,marks,inbox⟩)(hr:rec.size<=1048576):
  B3 (Vs ((id,ti,nx,held,marks,inbox,()),rec,())) (Dg ⟨id,ti,nx,held,marks,inbox⟩ (wd rec).1 (wd rec).2):=by
 have sm:DR held marks inbox:=hf.sm;have hn0:1<=nx:=hf.n0;have hn1:nx<=100:=hf.n1;have hr2:(wd rec).2.size<=1048576:=by have:=(Sp rec).2;omega
 unfold Vs Dg;simp only[aah hr,A9];generalize (wd rec).1=w;generalize (wd rec).2=r at *;simp only[iZ<|show r.size<=9223372036854775807 by omega,wv hr2,ali sm,A9];refine B3.ite (λ_=>B3.neg λ_=>rfl) λ_=> ?_;refine B3.ite (λ_=> ?_) λ_=> ?_
 .cases h:DA r with
  | none=>exact B3.no
  | some n=>
   have:=KS (Jc h).1;simp only[Tr,AB,A7];refine B3.neg λ_=>B3.neg λ_=> ?_;rw[AZ J J];exact(aAg sm this).eta
 refine B3.ite (λ_=> ?_) λ_=> ?_
 .cases h:DA r with
  | none=>exact B3.no
  | some n=>
   have:=KS (Jc h).1;simp only[Tr,AB,Bi];exact B3.neg λ_=>(aAg sm this).eta
 refine B3.ite (λ_=>B3.neg λ_=>rfl) λ_=> ?_;rw[aC9 (a:=A1<|w=EH) (b:=A1<|w=EO) (f:=λv=>((id,ti,nx,held,marks,inbox,()),(0,0,0,[],[],[],()),w,r,v,())) rfl];refine B3.ite (λ_=> ?_) λ_=> ?_
 .simp only[wv hr2,A9];cases h:DA r with
  | none=>exact B3.no
  | some n=>
   have:=KS (Jc h).1;simp only[Tr,AB,A7,JW sm.hl,JW sm.il,A9];refine B3.neg λh1=>B3.neg λh2=> ?_;have e1:PJ held n=Ek held n:=YG (by simpa using h1);have e2:PJ inbox n=Ek inbox n:=YG (by simpa using h2);have Ec:=bo (l:=held) (fr:=n.fr) (nu:=n.nu) (tt:=n.to) (un:=n.un) (tx:=n.tx) sm.hl;have Zh:=bo (l:=inbox) (fr:=n.fr) (nu:=n.nu) (tt:=n.to) (un:=n.un) (tx:=n.tx) sm.il;rw[show(⟨n.fr,n.nu,n.to,n.un,n.tx⟩:A6)=n from rfl]at Ec Zh;simp only[Ec,Zh,e1,e2,A9];exact B3.ite (λ_=>rfl) λ_=>rfl
 have e3:Pt (r,3,())=I (([Ad<|Ao r 0,Ad<|Ao r 1,Ad<|Ao r 2],E0 r 3,()),()):=aaq (n:=3) hr2 J;have i0:inb 0 [Ad<|Ao r 0,Ad<|Ao r 1,Ad<|Ao r 2].length=A0:=rfl;have i1:inb 1 [Ad<|Ao r 0,Ad<|Ao r 1,Ad<|Ao r 2].length=A0:=rfl;have i2:inb 2 [Ad<|Ao r 0,Ad<|Ao r 1,Ad<|Ao r 2].length=A0:=rfl;have r0: @rd Int (dfl .int) [Ad<|Ao r 0,Ad<|Ao r 1,Ad<|Ao r 2] 0=Ad (Ao r 0):=rfl;have r1: @rd Int (dfl .int) [Ad<|Ao r 0,Ad<|Ao r 1,Ad<|Ao r 2] 1=Ad (Ao r 1):=rfl;have r2: @rd Int (dfl .int) [Ad<|Ao r 0,Ad<|Ao r 1,Ad<|Ao r 2] 2=Ad (Ao r 2):=rfl;have q0:=X0<|Ao r 0;have q1:=X0<|Ao r 1;have q2:=X0<|Ao r 2;have z0:=jP q0.1 q0.2;have z1:=jP q1.1 q1.2;have z2:=jP q2.1 q2.2;have zb:(B [32]).size=1:=rfl;have d1:A1 ((BW<|Ad<|Ao r 0).size+(B [32]).size<=4611686018427387904)=A0:=by rw[zb,decide_eq_true_eq];omega
 have d2:A1 ((BW (Ad<|Ao r 0)++B [32]).size+(BW<|Ad<|Ao r 1).size<=4611686018427387904)=A0:=by rw[Bu,zb,decide_eq_true_eq];omega
 have d3:A1 (((BW (Ad<|Ao r 0)++B [32])++BW (Ad<|Ao r 1)).size+(B [32]).size<=4611686018427387904)=A0:=by rw[Bu,Bu,zb,decide_eq_true_eq];omega
 have d4:A1 ((((BW (Ad<|Ao r 0)++B [32])++BW (Ad<|Ao r 1))++B [32]).size+(BW<|Ad<|Ao r 2).size<=4611686018427387904)=A0:=by rw[Bu,Bu,Bu,zb,decide_eq_true_eq];omega
 simp only[e3,A9,i0,i1,i2,r0,r1,r2,FY (n:=Ad<|Ao r 0) J J,FY (n:=Ad<|Ao r 1) J J,FY (n:=Ad<|Ao r 2) J J,
  DY,DO,show ∀c,Ak c A0=A0 from λc=>rfl,A5,d1,d2,d3,d4]
 refine B3.neg λ_=> ?_;have hmk:mk3 r=⟨Ad<|Ao r 0,Ad<|Ao r 1,Ad<|Ao r 2⟩:=rfl;generalize Ad (Ao r 0)=a at *;generalize Ad (Ao r 1)=b at *;generalize Ad (Ao r 2)=c at *;rw[hmk];simp only[JW sm.hl,JW sm.il,Ru sm.ml,A9,au2,A5];refine B3.ite (λ_=> ?_) λ_=> ?_
 .rw[aao (m:=⟨a,b,c⟩)];refine B3.neg λh=> ?_;have hh:EX held ⟨a,b,c⟩=A0:=by simpa using h
  simp only[EX,AE,decide_eq_true_eq]at hh;obtain⟨g1,g2,g3,g4⟩:=GM hh.1;have ho:=hf.ho _ g1;unfold IV at ho;simp only[AE,decide_eq_true_eq]at ho;have hm:Bs marks a b<0:=by
   have:=ho.2.2.2;simp only[g3,g4]at this;exact this
  have hM:PK marks ⟨a,b,c⟩=Ez marks ⟨a,b,c⟩:=kJ hm;simp only[aq3 sm hh.1,A9,hh.2,hM];rfl
 refine B3.ite (λ_=> ?_) λ_=> ?_
 .rw[aao (m:=⟨a,b,c⟩)];refine B3.neg λh=> ?_;have hh:EX inbox ⟨a,b,c⟩=A0:=by simpa using h
  simp only[EX,AE,decide_eq_true_eq]at hh;simp only[aq4 sm hh.1,A9];rfl
 refine B3.ite (λ_=> ?_) λ_=>B3.no;refine B3.neg λh=> ?_;have hM:PK marks ⟨a,b,c⟩=Ez marks ⟨a,b,c⟩:=kJ (by simpa using h);simp only[qY sm.ml,A9,hM];rfl
def am5:A1 (ES=Eg)=A3:=by decide
def aoI:A1 (ES=Dd)=A3:=by decide
def am4:A1 (ES=EG)=A3:=by decide
def am7:A1 (ES=EH)=A3:=by decide
def ajj:A1 (ES=EO)=A3:=by decide
def aoJ:A1 (ES=C3)=A3:=by decide
def aoK:A1 (ES=CF)=A3:=by decide
def am6:A1 (ES=D0)=A3:=by decide
def xr:A1 (Eg=ES)=A3:=by decide
def anj:A1 (Eg=Dd)=A3:=by decide
def am9:A1 (Eg=EG)=A3:=by decide
def amB:A1 (Eg=EH)=A3:=by decide
def ajk:A1 (Eg=EO)=A3:=by decide
def ank:A1 (Eg=C3)=A3:=by decide
def anl:A1 (Eg=CF)=A3:=by decide
def amA:A1 (Eg=D0)=A3:=by decide
def aoN:A1 (Dd=ES)=A3:=by decide
def aoO:A1 (Dd=Eg)=A3:=by decide
def yu:A1 (Dd=EG)=A3:=by decide
def yv:A1 (Dd=EH)=A3:=by decide
def xq:A1 (Dd=EO)=A3:=by decide
def ap7:A1 (Dd=C3)=A3:=by decide
def ap8:A1 (Dd=CF)=A3:=by decide
def ani:A1 (Dd=D0)=A3:=by decide
def ft:A1 (EG=ES)=A3:=by decide
def fu:A1 (EG=Eg)=A3:=by decide
def gh:A1 (EG=Dd)=A3:=by decide
def fv:A1 (EG=EH)=A3:=by decide
def rz:A1 (EG=EO)=A3:=by decide
def aoL:A1 (EG=C3)=A3:=by decide
def aoM:A1 (EG=CF)=A3:=by decide
def am8:A1 (EG=D0)=A3:=by decide
def xu:A1 (EH=ES)=A3:=by decide
def xw:A1 (EH=Eg)=A3:=by decide
def yw:A1 (EH=Dd)=A3:=by decide
def xv:A1 (EH=EG)=A3:=by decide
def ajm:A1 (EH=EO)=A3:=by decide
def anm:A1 (EH=C3)=A3:=by decide
def ann:A1 (EH=CF)=A3:=by decide
def amE:A1 (EH=D0)=A3:=by decide
def wJ:A1 (EO=ES)=A3:=by decide
def wL:A1 (EO=Eg)=A3:=by decide
def xt:A1 (EO=Dd)=A3:=by decide
def wK:A1 (EO=EG)=A3:=by decide
def wM:A1 (EO=EH)=A3:=by decide
def amC:A1 (EO=C3)=A3:=by decide
def amD:A1 (EO=CF)=A3:=by decide
def ajl:A1 (EO=D0)=A3:=by decide
def gn:A1 (C3=ES)=A3:=by decide
def gr:A1 (C3=Eg)=A3:=by decide
def ie:A1 (C3=Dd)=A3:=by decide
def gq:A1 (C3=EG)=A3:=by decide
def gv:A1 (C3=EH)=A3:=by decide
def gD:A1 (C3=EO)=A3:=by decide
def iT:A1 (C3=CF)=A3:=by decide
def gu:A1 (C3=D0)=A3:=by decide
def gw:A1 (CF=ES)=A3:=by decide
def gQ:A1 (CF=Eg)=A3:=by decide
def iU:A1 (CF=Dd)=A3:=by decide
def gP:A1 (CF=EG)=A3:=by decide
def gS:A1 (CF=EH)=A3:=by decide
def gE:A1 (CF=EO)=A3:=by decide
def iV:A1 (CF=C3)=A3:=by decide
def gR:A1 (CF=D0)=A3:=by decide
def fw:A1 (D0=ES)=A3:=by decide
def gA:A1 (D0=Eg)=A3:=by decide
def gi:A1 (D0=Dd)=A3:=by decide
def fy:A1 (D0=EG)=A3:=by decide
def gB:A1 (D0=EH)=A3:=by decide
def s6:A1 (D0=EO)=A3:=by decide
def gj:A1 (D0=C3)=A3:=by decide
def gk:A1 (D0=CF)=A3:=by decide
abbrev flt(o:Option AG):Option AG:=o.filter Aw
def Sy{o:Option AG}(h:o=U\/ ∃k,o=I k/\Aw k=A3):flt o=U:=by
 obtain rfl|⟨k,rfl,h⟩:=h
 .rfl
 .simp[flt,Option.filter,h]
def aqx:DA noB=U:=by
 cases h:DA noB with
 | none=>rfl
 | some n=>
  obtain⟨h1,h2⟩:=Jc h;have:=mB<|Ho h1;rw[h2]at this;exact absurd this<|by decide
def av7:Ad noB= -1:=by
 rcases SC noB with⟨h,_⟩|⟨n,_,_,h⟩
 .exact h
 .exact absurd h.symm (ma n)
def aCh(r:A4):(Aq r=(0,A3)/\Ad r= -1)\/ ∃n:Nat,Aq r=((n:Int),A0)/\(Ad r=n\/(Ad r= -1/\10000<=n)):=by
 rcases SE r with h|⟨n,h1,h2,h3⟩
 .refine .inl ⟨h, ?_⟩;rcases SC r with⟨h4,_⟩|⟨n,_,h5,h6⟩
  .exact h4
  .rw[jo J h6]at h;cases h
 .refine .inr ⟨n,h1, ?_⟩;rcases SC r with⟨h4,h5⟩|⟨m,h4,_,h6⟩
  .refine .inr ⟨h4, ?_⟩;have h7:=h5 n h3;rcases HU n 10000 with h8|h8
   .have:=Le 4 n J J;rw[← h3,Ay]at this;omega
   .exact h8
  .left;have e:dcm n=dcm m:=h3.symm.trans h6;have:=congrArg val e;rw[Xy (n+1) n J,Xy (m+1) m J]at this;omega
def aaX(a b c:Int):L ((((BW a++B [32])++BW b)++B [32])++BW c)=B6 a++32::(B6 b++32::B6 c):=by
 simp only[G7,Ti,L_B,Bw,Ko,EM]
def lb{l:List UInt8}(h:CZ l):l.count 32=0:=List.count_eq_zero.2 λhm=>h 32 hm rfl
def YB{r:A4}{a b c:Int}(ha:0<=a)(ha2:a<100000)(hb:0<=b)(hb2:b<100000)(hc:0<=c)(hc2:c<100000)(e:L r=B6 a++32::(B6 b++32::B6 c)):Gm r=I ⟨a,b,c⟩:=by
 unfold Gm;have h2:(L r).count 32=1+1:=by
  rw[e,List.count_append,aBd,List.count_append,aBd,lb<|HC ha,lb<|HC hb,lb<|HC hc]
 rw[h2,e,LV<|HC ha,LV<|HC hb];show(if(Aq<|B<|B6 a).2&&((Aq<|B<|B6 b).2&&((Aq<|B<|B6 c).2&&A0)) then I (⟨(Aq<|B<|B6 a).1,(Aq<|B<|B6 b).1,(Aq<|B<|B6 c).1⟩:Mark) else U)=_;rw[Iw ha ha2,Iw hb hb2,Iw hc hc2];rfl
def lr{p:List UInt8}(h:(Aq<|B p).2=A0):0<=(Aq<|B p).1/\p=B6 (Aq<|B p).1:=by
 rcases SE (B p) with h1|⟨n,h1,_,h3⟩
 .rw[h1]at h;cases h
 .rw[h1];exact⟨by simp,by rw[Ix];exact h3⟩
def aaC{r:A4}{m:Mark}(h:Gm r=I m):0<=m.mf/\0<=m.mn/\0<=m.mu/\L r=B6 m.mf++32::(B6 m.mn++32::B6 m.mu):=by
 unfold Gm at h;have hj:=iq ((L r).count 32)<|L r;split at h
 .rename_i p q t hp;rw[hp]at hj;split at h
  .rename_i hc;simp only[AE]at hc;cases h;have h1:=lr hc.1;have h2:=lr hc.2.1;have h3:=lr hc.2.2.1;refine⟨h1.1,h2.1,h3.1, ?_⟩;simp only;rw[← h1.2,← h2.2,← h3.2];exact hj.symm
  .cases h
 .cases h
def aBo{r:A4}{a b c:Int}(ha:0<=a)(ha2:a<10000)(hb:0<=b)(hb2:b<10000)(hc:0<=c)(hc2:c<10000)(e:L r=B6 a++32::(B6 b++32::B6 c)):L7 r=A3/\mk3 r=⟨a,b,c⟩:=by
 have e0:=Kh (HC ha) e;have c1:L (E0 r 1)=_:=(Jh (t:=r) e0).2;have e1:=Kh (HC hb) c1;have c2:L (E0 r 2)=_:=(Jh (t:=r) e1).2;have e2:=Tk (s:=E0 r 2) (by rw[c2];exact HC hc);have w0:Ao r 0=B (B6 a):=(Jh (t:=r) e0).1;have w1:Ao r 1=B (B6 b):=(Jh (t:=r) e1).1;have w2:Ao r 2=B (B6 c):=by
  show(wd<|E0 r 2).1=_;rw[e2];apply Fl;rw[c2,L_B]
 have t3:E0 r 3=noB:=by
  show(wd<|E0 r 2).2=_;rw[e2]
 have d0:=Mj ha ha2;have d1:=Mj hb hb2;have d2:=Mj hc hc2;refine⟨?_, ?_⟩
 .unfold L7;rw[t3,w0,w1,w2,d0,d1,d2];have:r=((((BW a++B [32])++BW b)++B [32])++BW c):=Fl (by rw[e,aaX]);rw[← this];simp
 .unfold mk3;rw[w0,w1,w2,d0,d1,d2]
def OW{m:Mark}(h:Fp m=A0):0<=m.mf/\m.mf<=3/\1<=m.mn/\m.mn<=99/\1<=m.mu/\m.mu<=999:=by
 unfold Fp at h;simp only[AE,Af]at h;omega
def kO{k:AG}(hf:Eb k)(w r:A4):flt (if L7 r then U else Ew k w (mk3 r))=flt (match Gm r with|some m=>Ew k w m|none=>U):=by
 rcases tf (Fp<|mk3 r) with hm|hm
 .obtain⟨a0,a1,b0,b1,c0,c1⟩:=OW hm;rcases tf (L7 r) with hc|hc
  .rw[hc];simp only[A5];cases h:Gm r with
   | none=>rfl
   | some m=>
    simp only;rcases tf (Fp m) with h2|h2
    .obtain⟨p0,p1,q0,q1,s0,s1⟩:=OW h2;obtain⟨_,_,_,e⟩:=aaC h;rw[(aBo J J J J J J e).1]at hc;cases hc
    .exact(Sy<|jC hf h2).symm
  .have hc2:=hc;unfold L7 at hc;simp only[NC,Bool.not_eq_false',decide_eq_true_eq]at hc;have e:L r=_:=(congrArg L hc.2).trans<|aaX _ _ _;have:=YB (a:=(mk3 r).mf) (b:=(mk3 r).mn) (c:=(mk3 r).mu) J J J J J J e;rw[hc2,this];rfl
 .have hL:flt (if L7 r then U else Ew k w (mk3 r))=U:=by
   cases L7 r
   .exact Sy (jC hf hm)
   .rfl
  rw[hL];cases h:Gm r with
  | none=>rfl
  | some m=>
   simp only;rcases tf (Fp m) with h2|h2
   .obtain⟨p0,p1,q0,q1,s0,s1⟩:=OW h2;obtain⟨_,_,_,e⟩:=aaC h;have:=(aBo J J J J J J e).2;rw[this]at hm;have hm:Fp m=A3:=hm;rw[h2]at hm;cases hm
   .exact(Sy<|jC hf h2).symm
def awI{k:AG}{n nx:Int}{a b:List A6}{m:List Mark}(hn:999<n):Aw ⟨k.id,n,nx,a,m,b⟩=A3:=by
 rcases tf (Aw ⟨k.id,n,nx,a,m,b⟩) with h|h
 .have:=(CY h).t1;simp only at this;omega
 .exact h
def axG{k:AG}{n ti:Int}{a b:List A6}{m:List Mark}(hn:100<n):Aw ⟨k.id,ti,n,a,m,b⟩=A3:=by
 rcases tf (Aw ⟨k.id,ti,n,a,m,b⟩) with h|h
 .have:=(CY h).n1;simp only at this;omega
 .exact h
def as0{k:AG}(hf:Eb k)(r:A4):flt (Dg k ES r)=flt (Bd k ES r):=by
 have h0:=hf.t0;unfold Dg Bd I5;simp only[am5,aoI,am4,am7,ajj,aoJ,aoK,am6,AU,Bc,EK,Cv,Bi,Bo,AO,AW,A5,A7];rcases aCh r with⟨h1,h2⟩|⟨n,h1,h2|⟨h2,h3⟩⟩
 .rw[h1,h2,A8 (by simp;omega)];rfl
 .rw[h1,h2];rcases ET (n:Int) k.ti with h4|h4<;>simp only[h4,AU,Ae,A5,A7]
 .rw[h1,h2,A8 (by simp;omega)];rcases ET (n:Int) k.ti with h4|h4<;>simp only[h4,AU,Ae,A5,A7];exact(Sy<|.inr ⟨_,rfl,awI J⟩).symm
def as1{k:AG}(hf:Eb k)(r:A4):flt (Dg k Eg r)=flt (Bd k Eg r):=by
 have h0:=hf.n0;unfold Dg Bd I5;simp only[xr,anj,am9,amB,ajk,ank,anl,amA,AU,Bc,EK,Cv,Bi,Bo,AO,AW,A5,A7];rcases aCh r with⟨h1,h2⟩|⟨n,h1,h2|⟨h2,h3⟩⟩
 .rw[h1,h2,A8 (by simp;omega)];rfl
 .rw[h1,h2];rcases ET (n:Int) k.nx with h4|h4<;>simp only[h4,AU,Ae,A5,A7]
 .rw[h1,h2,A8 (by simp;omega)];rcases ET (n:Int) k.nx with h4|h4<;>simp only[h4,AU,Ae,A5,A7];exact(Sy<|.inr ⟨_,rfl,axG J⟩).symm
def arx{k:AG}(r:A4):Dg k Dd r=Bd k Dd r:=by
 unfold Dg Bd GN;simp only[aoN,aoO,yu,yv,xq,ap7,ap8,ani,AU,Bc,EK,Cv,Bi,Bo,AO,AW,A5,A7];cases DA r with
 | none=>rfl
 | some n=>
  simp only;rcases tf (A1<|n.fr=k.id) with h1|h1<;>rcases tf (A1<|n.nu=k.nx) with h2|h2<;>simp only[h1,h2,AB,AI,ite_self,AU,Bc,EK,Cv,Bi,Bo,AO,AW,A5,A7]
def aqG{k:AG}(r:A4):Dg k EG r=Bd k EG r:=by
 unfold Dg Bd GN;simp only[ft,fu,gh,fv,rz,aoL,aoM,am8,AU,Bc,EK,Cv,Bi,Bo,AO,AW,A5,A7];cases DA r with
 | none=>rfl
 | some n=>
  simp only;rcases tf (A1<|n.fr=k.id) with h1|h1<;>simp only[h1,AB,AI,ite_self,AU,Bc,EK,Cv,Bi,Bo,AO,AW,A5,A7]
def aqI{k:AG}(r:A4):Dg k EH r=Bd k EH r:=by
 unfold Dg Bd GN;simp only[xu,xw,yw,xv,ajm,anm,ann,amE,AU,Bc,EK,Cv,Bi,Bo,AO,AW,A5,A7];cases DA r with
 | none=>rfl
 | some n=>
  simp only;rcases tf (A1<|0<=AY k.held n.fr n.nu) with h1|h1<;>rcases tf (A1<|0<=AY k.inbox n.fr n.nu) with h2|h2<;>simp only[h1,h2,AB,AI,ite_self,AU,Bc,EK,Cv,Bi,Bo,AO,AW,A5,A7]
def apV{k:AG}(r:A4):Dg k EO r=Bd k EO r:=by
 unfold Dg Bd GN;simp only[wJ,wL,xt,wK,wM,amC,amD,ajl,AU,Bc,EK,Cv,Bi,Bo,AO,AW,A5,A7];cases DA r with
 | none=>rfl
 | some n=>
  simp only;rcases tf (A1<|0<=AY k.held n.fr n.nu) with h1|h1<;>rcases tf (A1<|0<=AY k.inbox n.fr n.nu) with h2|h2<;>simp only[h1,h2,AB,AI,ite_self,AU,Bc,EK,Cv,Bi,Bo,AO,AW,A5,A7]
def ary{k:AG}(hf:Eb k)(r:A4):flt (Dg k C3 r)=flt (Bd k C3 r):=by
 have h:=kO hf C3 r;unfold Dg Bd;simp only[gn,gr,ie,gq,gv,gD,iT,gu,AU,Bc,EK,Cv,Bi,Bo,AO,AW,A5,A7];refine Jw ?_ h;unfold Ew;simp only[gn,gr,ie,gq,gv,gD,iT,gu,AU,Bc,EK,Cv,Bi,Bo,AO,AW,A5,A7];congr 1;refine ite_congr rfl (λ_=>rfl) λ_=> ?_;cases EX k.held (mk3 r)<;>rfl
def arz{k:AG}(hf:Eb k)(r:A4):flt (Dg k CF r)=flt (Bd k CF r):=by
 have h:=kO hf CF r;unfold Dg Bd;simp only[gw,gQ,iU,gP,gS,gE,iV,gR,AU,Bc,EK,Cv,Bi,Bo,AO,AW,A5,A7];refine Jw ?_ h;unfold Ew;simp only[gw,gQ,iU,gP,gS,gE,iV,gR,AU,Bc,EK,Cv,Bi,Bo,AO,AW,A5,A7];congr 1;refine ite_congr rfl (λ_=>rfl) λ_=> ?_;cases EX k.inbox (mk3 r)<;>rfl
def aqH{k:AG}(hf:Eb k)(r:A4):flt (Dg k D0 r)=flt (Bd k D0 r):=by
 have h:=kO hf D0 r;unfold Dg Bd;simp only[fw,gA,gi,fy,gB,s6,gj,gk,AU,Bc,EK,Cv,Bi,Bo,AO,AW,A5,A7];refine Jw ?_ h;unfold Ew;simp only[fw,gA,gi,fy,gB,s6,gj,gk,AU,Bc,EK,Cv,Bi,Bo,AO,AW,A5,A7];congr 1;refine ite_congr rfl (λ_=>rfl) λ_=> ?_;cases A1 (0<=Bs k.marks (mk3 r).mf (mk3 r).mn)<;>rfl
def auZ{k:AG}(hf:Eb k)(w r:A4):flt (Dg k w r)=flt (Bd k w r):=by
 by_cases nI:w=ES
 .subst nI;exact as0 hf r
 by_cases nK:w=Eg
 .subst nK;exact as1 hf r
 by_cases nk:w=Dd
 .subst nk;exact congrArg flt<|arx r
 by_cases nJ:w=EG
 .subst nJ;exact congrArg flt<|aqG r
 by_cases nM:w=EH
 .subst nM;exact congrArg flt<|aqI r
 by_cases nS:w=EO
 .subst nS;exact congrArg flt<|apV r
 by_cases nT:w=C3
 .subst nT;exact ary hf r
 by_cases nU:w=CF
 .subst nU;exact arz hf r
 by_cases nL:w=D0
 .subst nL;exact aqH hf r
 have e1:Dg k w r=U:=by
  unfold Dg;simp only[nI,nK,nk,nJ,nM,nS,nT,nU,nL,Ae,AU,Bc,EK,Cv,Bi,Bo,AO,AW,A5,A7,ite_self]
 have e2:Bd k w r=U:=by
  unfold Bd;simp only[nI,nK,nk,nJ,nM,nS,nT,nU,nL,Ae,AU,Bc,EK,Cv,Bi,Bo,AO,AW,A5,A7]
 rw[e1,e2]
def arR{k:AG}(hf:Eb k)(w:A4):Dg k w noB=U:=by
 have h0:=hf.t0;have h1:=hf.n0;have hc:L7 noB=A0:=by
  unfold L7;have:¬noB=((((BW (Ad<|Ao noB 0)++B [32])++BW (Ad<|Ao noB 1))++B [32])++BW (Ad<|Ao noB 2)):=λh=>by
   have:=congrArg ByteArray.size h;rw[Bu,Bu,Bu,Bu]at this;have e:noB.size=0:=rfl;have e2:(B [32]).size=1:=rfl;omega
  simp[this]
 unfold Dg;rw[av7,aqx,hc];have a1:A1 (-1<=k.ti)=A0:=by simp;omega
 have a2:A1 (-1<=k.nx)=A0:=by simp;omega
 simp only[a1,a2,A5,ite_self]
def ax4{k:AG}(hf:Eb k)(rec:A4):flt (Dg k (wd rec).1 (wd rec).2)=flt (G3 k rec):=by
 unfold G3;rcases LX (L rec) with h|⟨w,r,h,e⟩
 .rw[Tk h,T7 h,arR hf];rfl
 .rw[e,T8 h];exact auZ hf _ _
def avh{k:AG}{w r:A4}(hf:Eb k){o:AG}(h:Dg k w r=I o):SmK o:=by
 have sm:=hf.sm;unfold Dg at h;split at h
 .split at h<;>cases h;have a:=Ic (λx:A6=>A1<|Ad r<x.un) k.held;have b:=Ic (λx:Mark=>A1<|Ad r<x.mu) k.marks;have l1:=hf.hl;have l2:=hf.ml;exact⟨by unfold Gp;simp only;omega,λx hx=>sm.h x (FF.1 hx).1,by unfold Jl;simp only;omega,sm.il,sm.i⟩
 split at h
 .cases hn:DA r with
  | none=>rw[hn]at h;cases h
  | some n=>
   rw[hn]at h;simp only at h;split at h
   .cases h
   split at h
   .cases h
   exact YX (k':=⟨k.id,k.ti,k.nx+1,k.held,k.marks,k.inbox⟩) hf ⟨rfl,rfl,rfl⟩ h
 split at h
 .cases hn:DA r with
  | none=>rw[hn]at h;cases h
  | some n=>
   rw[hn]at h;simp only at h;split at h
   .cases h
   exact YX (k':=k) hf ⟨rfl,rfl,rfl⟩ h
 split at h
 .split at h<;>cases h;exact sm
 split at h
 .cases hn:DA r with
  | none=>rw[hn]at h;cases h
  | some n=>
   have hok:=KS (Jc hn).1;rw[hn]at h;simp only at h;split at h
   .cases h
   split at h
   .cases h
   split at h<;>cases h
   .have a:=QD hf.hl sm.h hok;exact⟨a.1,a.2,sm.ml,sm.il,sm.i⟩
   .have a:=QD hf.il sm.i hok;exact⟨sm.hl,sm.h,sm.ml,a.1,a.2⟩
 split at h
 .cases h
 split at h
 .split at h<;>cases h;have a:=YH (i:=(AY k.held (mk3 r).mf (mk3 r).mn).toNat) hf.hl sm.h;exact⟨a.1,a.2,T4 hf.ml,sm.il,sm.i⟩
 split at h
 .split at h<;>cases h;have a:=YH (i:=(AY k.inbox (mk3 r).mf (mk3 r).mn).toNat) hf.il sm.i;exact⟨sm.hl,sm.h,sm.ml,a.1,a.2⟩
 split at h
 .split at h<;>cases h;exact⟨sm.hl,sm.h,T4 hf.ml,sm.il,sm.i⟩
 .cases h
def yq{id ti nx:Int}{rec:A4}{held:List A6}{marks:List Mark}{inbox:List A6}(sm:DR held marks inbox)(hr:rec.size<=1048576):
  Ry ((id,ti,nx,held,marks,inbox,()),rec,())=I ((tK (F8 ⟨id,ti,nx,held,marks,inbox⟩ rec).1,(F8 ⟨id,ti,nx,held,marks,inbox⟩ rec).2,()),()):=by
 unfold Ry F8;simp only[gb sm,xJ sm,A9];rcases tf (Aw ⟨id,ti,nx,held,marks,inbox⟩) with h|h
 .have hf:=CY h;have ha:=aq1 hf hr;have hko:=ax4 hf rec;unfold flt at hko;simp only[h,AB,A7,A5];rw[← hko];cases hst:Dg ⟨id,ti,nx,held,marks,inbox⟩ (wd rec).1 (wd rec).2 with
  | none=>
   rw[hst]at ha;obtain⟨t,ht⟩:=ha;simp only[ht,A9,AI,AB,HB,A5,Bo];rfl
  | some o=>
   rw[hst]at ha;have sm':=avh hf hst;rw[show Vs ((id,ti,nx,held,marks,inbox,()),rec,())=I ((tK o,A0,()),()) from ha];simp only[A9,AB,AI,IL,gb sm',xJ sm',DY,DO,A5,Bi,Option.filter_some];rcases tf (Aw o) with h2|h2
   .simp only[h2,AB,A7,A5]
   .simp only[h2,AI,A7,A5]
 .simp only[h,AI,A7,A5]
def ZI{s:A4}{a i:Nat}(h:a+i<s.size):bt (s.extract a s.size) i=bt s ((a+i:Nat):Int):=by
 rw[Jj,Jj,Dz];congr 2;rw[B9,B9,List.getElem?_take_of_lt J,Ha]
def aa5{s:A4}{a i j:Nat}(h:a+j<=s.size):(s.extract a s.size).extract i j=s.extract (a+i) (a+j):=by
 apply Fl;rw[Dz,Dz,Dz];rw[List.drop_take,Jx,Yp];congr 1;omega
def FZ{s:A4}{a b:Nat}(hb:b<=s.size):(s.extract a b).size=b - a:=by
 rw[← Ay,Dz,Cw,E4,Ay];omega
def Ts(s:A4):Int:=Fj (min s.size 3) λi=>A1<|bt s i=58
def De(s:A4):Option (A4×Nat):=
 if Ts s<0 then U else
 let c:=(Ts s).toNat
 let n:=Ad (s.extract 0 c)
 if n<1 then U else if 60<n then U else
 if(s.size:Int)<c+2+n then U else
 if !decide (bt s ((c+1+n.toNat:Nat):Int)=59) then U else I (s.extract (c+1)<|c+1+n.toNat,c+2+n.toNat)
def Wf(s:A4):(Ts s= -1/\ ∀i,i<min s.size 3->bt s (i:Int)≠58)\/ ∃c:Nat,Ts s=c/\c<s.size/\c<3/\bt s (c:Int)=58/\ ∀i,i<c->bt s (i:Int)≠58:=by
 rcases GL (min s.size 3) (λi=>A1<|bt s i=58) with⟨h1,h2⟩|⟨c,h1,h2,h3,h4⟩
 .exact .inl ⟨h1,λi hi=>by simpa using h2 i hi⟩
 .exact .inr ⟨c,h1,J,J,by simpa using h3,λi hi=>by simpa using h4 i hi⟩
def aq2{s:A4}(hs:s.size<=1048576):fC (s,())=I ((match De s with|some p=>(p.1,(p.2:Int),())|none=>(noB,0,())),()):=by
 have hb:∀i,i<min s.size 3->O0 (s,(i:Int),())=if A1 (bt s (i:Int)=58) then O0 (s,(i:Int),()) else I (.inl (s,((i+1:Nat):Int),())):=λi hi=>by
  have hi2:i<s.size:=J
  rcases tf (A1<|bt s (i:Int)=58) with h|h
  .rw[h];rfl
  .rw[h];have e1:A1 ((i:Int)<3)=A0:=by simp;omega
   unfold O0;simp only[AP hi2,B7 hi2,h,B5 hi2 (by omega:s.size<=9223372036854775807),e1];rfl
 have Fz:∃y,qZ (s,0,())=I y/\((De s=U/\(y= .inl (noB,0,())\/y= .inr ()))\/ ∃p,De s=I p/\y= .inl (p.1,(p.2:Int),())):=by
  rcases Wf s with⟨h1,h2⟩|⟨c,h1,h2,h3,h4,h5⟩
  .refine⟨.inr (), ?_,.inl ⟨by unfold De;rw[h1,A8 J],.inr rfl⟩⟩;refine C2 (λi=>(s,(i:Int),())) (min s.size 3) (λi hi=> ?_) ?_
   .rw[hb i hi,show A1 (bt s (i:Int)=58)=A3 by simpa using h2 i hi];rfl
   .unfold O0;have e:(A1 (((min s.size 3:Nat):Int)<(s.size:Int))&&A1 (((min s.size 3:Nat):Int)<3))=A3:=by
     rw[Bool.eq_false_iff];simp only[ne_eq,AE,decide_eq_true_eq];omega
    simp only[e];rfl
  .have D6:De s=(let n:=Ad<|s.extract 0 c;if n<1 then U else if 60<n then U else if(s.size:Int)<c+2+n then U else
     if !decide (bt s ((c+1+n.toNat:Nat):Int)=59) then U else I (s.extract (c+1)<|c+1+n.toNat,c+2+n.toNat)):=by
    unfold De;rw[h1,AD J];rfl
   have axu:∃y,O0 (s,(c:Int),())=I (.inr y)/\((De s=U/\(y= .inl (noB,0,())\/y= .inr ()))\/ ∃p,De s=I p/\y= .inl (p.1,(p.2:Int),())):=by
    rw[D6];unfold O0;have e1:A1 ((c:Int)<3)=A0:=by simp;omega
    have e2:(A1 (0<=(c:Int))&&A1 ((c:Int)<=(s.size:Int)))=A0:=by simp;omega
    have e3:(!decide (bt s (c:Int)=58))=A3:=by simp[h4]
    have hse:(s.extract 0 c).size=c:=FZ J;simp only[AP h2,B7 h2,e1,e2,e3,Bb,A7,Du,A5,iZ<|show(s.extract 0 c).size<=9223372036854775807 by omega,A9];have hrg:=X0<|s.extract 0 c;generalize Ad (s.extract 0 c)=n at *;by_cases k1:n<1
    .exact⟨.inl (noB,0,()),by simp[k1],.inl ⟨by simp[k1],.inl rfl⟩⟩
    by_cases k2:60<n
    .exact⟨.inl (noB,0,()),by simp[k1,k2],.inl ⟨by simp[k1,k2],.inl rfl⟩⟩
    obtain⟨m,hm⟩:=Gy (show 0<=n by omega);subst hm;have w1:w64 ((c:Int)+2)=(c:Int)+2:=AZ J J;have w2:w64 ((c:Int)+1)=((c+1:Nat):Int):=by rw[AZ J J];omega
    have w3:w64 ((c:Int)+2+(m:Int))=((c+2+m:Nat):Int):=by rw[AZ J J];omega
    have w4:w64 (((c+1:Nat):Int)+(m:Int))=((c+1+m:Nat):Int):=by rw[AZ J J];omega
    simp only[w1,w2,w3,w4,Bb];by_cases k3:(s.size:Int)<(c:Int)+2+m
    .have k3':(s.size:Int)<((c+2+m:Nat):Int):=J
     exact⟨.inl (noB,0,()),by simp only[k1,k2,k3',AU,Ae,A5,A7],.inl ⟨by simp[k1,k2,k3],.inl rfl⟩⟩
    have k3':¬(s.size:Int)<((c+2+m:Nat):Int):=J
    have k4:c+1+m<s.size:=J
    have e5:((A1 (0<=((c+1+m:Nat):Int))&&A1 (((c+1+m:Nat):Int)<=(s.size:Int)))&&(A1 (0<=((c+1:Nat):Int))&&A1 (((c+1:Nat):Int)<=((c+1+m:Nat):Int))))=A0:=by
     simp only[AE,decide_eq_true_eq];omega
    simp only[k1,k2,k3,k3',Ae,A7,if_false,AP k4,A5,e5];rcases tf (!decide (bt s ((c+1+m:Nat):Int)=59)) with k5|k5
    .exact⟨.inl (noB,0,()),by simp only[k5,A5],.inl ⟨by simp only[k5,A5],.inl rfl⟩⟩
    .exact⟨.inl (s.extract (c+1)<|c+1+m,((c+2+m:Nat):Int),()),by simp only[k5,A7],.inr ⟨(s.extract (c+1)<|c+1+m,c+2+m),by simp only[k5,A7],rfl⟩⟩
   obtain⟨y,hy,hy2⟩:=axu;refine⟨y, ?_,hy2⟩;refine C2 (λi=>(s,(i:Int),())) c (λi hi=> ?_) hy;rw[hb i J,show A1 (bt s (i:Int)=58)=A3 by simpa using h5 i hi];rfl
 obtain⟨y,hy,hy2⟩:=Fz;unfold fC;simp only[hy];obtain⟨h1,rfl|rfl⟩|⟨p,h1,rfl⟩:=hy2<;>rw[h1]<;>rfl
def SX{s:A4}{p:A4×Nat}(h:De s=I p):3<=p.2/\p.2<=s.size/\p.1.size<=60/\1<=p.1.size:=by
 unfold De at h;split at h
 .cases h
 rename_i hc;rcases Wf s with⟨h1,_⟩|⟨c,h1,h2,h3,h4,h5⟩
 .omega
 rw[h1]at h;simp only[Bb]at h;split at h
 .cases h
 split at h
 .cases h
 split at h
 .cases h
 split at h
 .cases h
 cases h;simp only;rw[FZ J];omega
def Ei(log:A4):Nat->List A4->Nat->List A4×Nat
 | 0,out,at_=>(out,at_)
 | f+1,out,at_=>if at_<log.size then(match De (log.extract at_ log.size) with
  | none=>(out,at_)
  | some p=>Ei log f (out++[p.1]) (at_+p.2)) else(out,at_)
def aAt{log:A4}:∀(f:Nat) (out:List A4) (at_:Nat),at_<=log.size->out.length<=at_->(∀r∈out,r.size<=60/\1<=r.size)->
  (Ei log f out at_).2<=log.size/\(Ei log f out at_).1.length<=(Ei log f out at_).2/\ ∀r∈(Ei log f out at_).1,r.size<=60/\1<=r.size
 | 0,out,at_,h1,h2,h3=>⟨h1,h2,h3⟩
 | f+1,out,at_,h1,h2,h3=>by
  unfold Ei;split
  .rename_i hlt;cases h:De (log.extract at_ log.size) with
   | none=>exact⟨h1,h2,h3⟩
   | some p=>
    obtain⟨a,b,c,d⟩:=SX h;rw[FZ<|As _]at b;exact aAt f _ _ J (by simp;omega) (λr hr=>by
     rcases BM.1 hr with hr|hr
     .exact h3 r hr
     .obtain rfl:=C9.1 hr;exact⟨c,d⟩)
  .exact⟨h1,h2,h3⟩
def D1(log:A4):List A4×Nat:=Ei log (log.size+1) [] 0
def Py(log:A4):(D1 log).2<=log.size/\(D1 log).1.length<=log.size/\ ∀r∈(D1 log).1,r.size<=60/\1<=r.size:=by
 have:=aAt (log:=log) (log.size+1) [] 0 (Cu _) (Cu _) (λr hr=>by cases hr);exact⟨this.1,Ca this.2.1 this.1,this.2.2⟩
def jh{ρ:Type}{log:A4}{b:(A4×List A4×Int×A2)->Option ((A4×List A4×Int×A2) ⊕ ρ)}(ok:List A4->Nat->ρ->Prop)
  (h:∀(out:List A4) (at_:Nat),at_<log.size->out.length<=at_->match De (log.extract at_ log.size) with
   | some p=>b (log,out,(at_:Int),())=I (.inl (log,out++[p.1],((at_+p.2:Nat):Int),()))
   | none=>∃y,b (log,out,(at_:Int),())=I (.inr y)/\ok out at_ y)
  (hn:∀(out:List A4) (at_:Nat),log.size<=at_->∃y,b (log,out,(at_:Int),())=I (.inr y)/\ok out at_ y):
  ∀(f:Nat) (out:List A4) (at_:Nat),log.size<at_+f->at_<=log.size->out.length<=at_->∃y,AR b (log,out,(at_:Int),())=I y/\ok (Ei log f out at_).1 (Ei log f out at_).2 y
 | 0,out,at_,h1,h2,h3=>J
 | f+1,out,at_,h1,h2,h3=>by
  unfold Ei;by_cases hlt:at_<log.size
  .rw[A8 hlt];have hb:=h out at_ hlt h3;cases D6:De (log.extract at_ log.size) with
   | none=>
    rw[D6]at hb;obtain⟨y,h4,h5⟩:=hb;exact⟨y,BP h4,h5⟩
   | some p=>
    rw[D6]at hb;obtain⟨a,c,_,_⟩:=SX D6;rw[FZ<|As _]at c;obtain⟨y,h4,h5⟩:=jh ok h hn f (out++[p.1]) (at_+p.2) J J (by simp;omega);exact⟨y,B0 hb h4,h5⟩
  .rw[AD hlt];obtain⟨y,h4,h5⟩:=hn out at_ J;exact⟨y,BP h4,h5⟩
def VA{log:A4}(hs:log.size<=1048576):LJ (log,())=I (((D1 log).1,((D1 log).2:Int),()),()):=by
 obtain⟨y,h1,h2⟩:=jh (log:=log) (b:=RU) (λout at_ y=>y= .inl (out,(at_:Int),())\/y= .inr (out,(at_:Int),())) (λout at_ hlt hl=>by
  have hse:(log.extract at_ log.size).size=log.size - at_:=FZ<|As _;have e1:(A1 (0<=(at_:Int))&&A1 ((at_:Int)<=(log.size:Int)))=A0:=by simp;omega
  have hb:RU (log,out,(at_:Int),())=(match De (log.extract at_ log.size) with|some p=>I (.inl (log,out++[p.1],((at_+p.2:Nat):Int),()))|none=>I<|.inr<|.inl (out,(at_:Int),())):=by
   unfold RU;simp only[B7 hlt,e1,A5,Bb,aq2<|show(log.extract at_ log.size).size<=1048576 by omega,A9];cases D6:De (log.extract at_ log.size) with
   | none=>rfl
   | some p=>
    obtain⟨a,c,_,_⟩:=SX D6;have e2:A1 (((p.2:Nat):Int)=0)=A3:=by simp;omega
    have e3:w64 ((at_:Int)+(p.2:Int))=((at_+p.2:Nat):Int):=by rw[AZ J J];omega
    simp only[e2,e3,A7,Bt,CA,DF,B8<|show out.length+1<=4294967296 by omega,A5]
  rw[hb];cases De (log.extract at_ log.size) with
  | none=>exact⟨_,rfl,.inl rfl⟩
  | some p=>rfl) (λout at_ hge=>by
  refine⟨.inr (out,(at_:Int),()), ?_,.inr rfl⟩;unfold RU;have e:A1 ((at_:Int)<(log.size:Int))=A3:=by simp;omega
  simp only[e];rfl) (log.size+1) [] 0 J (Cu _) (Cu _)
 unfold LJ;rw[show oz (log,[],0,())=I y from h1];obtain rfl|rfl:=h2<;>rfl
def aBm{log:A4}{out:List A4}{at_ n:Nat}(hs:log.size<=1048576)(h:∀i,i<n->at_+i<log.size/\bt log ((at_+i:Nat):Int)≠58)(hn:n<=3)(hle:at_+n<=log.size)
  (oL:log.size<=at_+n\/n=3\/bt log ((at_+n:Nat):Int)=58):pB (log,out,(at_:Int),(at_:Int),())=I (.inr (log,out,(at_:Int),((at_+n:Nat):Int),())):=by
 have e3:w64 ((at_:Int)+3)=((at_+3:Nat):Int):=by rw[AZ J J];omega
 refine C2 (λi=>(log,out,(at_:Int),((at_+i:Nat):Int),())) n (λi hi=> ?_) ?_
 .obtain⟨h1,h2⟩:=h i hi;unfold bz;have e2:A1 (bt log ((at_+i:Nat):Int)=58)=A3:=by simpa using h2
  simp only[B7 h1,AP h1,e3,B7<|show at_+i<at_+3 by omega,e2,B5 h1 (by omega:log.size<=9223372036854775807)];rfl
 .unfold bz;by_cases h1:at_+n<log.size
  .simp only[B7 h1,AP h1,e3];obtain h2|h2|h2:=oL
   .omega
   .have:A1 (((at_+n:Nat):Int)<((at_+3:Nat):Int))=A3:=by simp;omega
    rw[this];rfl
   .rw[show A1 (bt log ((at_+n:Nat):Int)=58)=A0 by simpa using h2];cases A1 (((at_+n:Nat):Int)<((at_+3:Nat):Int))<;>rfl
  .have e1:A1 (((at_+n:Nat):Int)<(log.size:Int))=A3:=by simp;omega
   simp only[e1,A7,HB,A5]
def akP{log:A4}{out:List A4}{at_:Nat}(hs:log.size<=1048576)(hlt:at_<log.size)(hl:out.length<=at_):
  RO (log,out,(at_:Int),())=I (match De (log.extract at_ log.size) with|some p=> .inl (log,out++[p.1],((at_+p.2:Nat):Int),())|none=> .inr<|.inr (out,(at_:Int),())):=by
 have hse:(log.extract at_ log.size).size=log.size - at_:=FZ<|As _;unfold RO;simp only[B7 hlt,A5];rcases Wf (log.extract at_ log.size) with⟨h1,h2⟩|⟨c,h1,h2,h3,h4,h5⟩
 .have D6:De (log.extract at_ log.size)=U:=by unfold De;rw[h1,A8 J]
  have hb:∀i,i<min (log.size - at_) 3->at_+i<log.size/\bt log ((at_+i:Nat):Int)≠58:=λi hi=>by
   refine⟨J, ?_⟩;rw[← ZI J];exact h2 i (by rw[hse];exact hi)
  rw[D6,aBm (n:=min (log.size - at_) 3) hs hb J J J];simp only[CR];by_cases h6:log.size<=at_+min (log.size - at_) 3
  .have e:A1 ((log.size:Int)<=((at_+min (log.size - at_) 3:Nat):Int))=A0:=by simp;omega
   simp only[e,AB,HB,A5,Bo]
  .have e:A1 ((log.size:Int)<=((at_+min (log.size - at_) 3:Nat):Int))=A3:=by simp;omega
   have hm:min (log.size - at_) 3=3:=J
   rw[hm]at e h6 ⊢;simp only[e,AP<|show at_+3<log.size by omega,AI,IL,A5,Bi];rcases tf (A1<|bt log ((at_+3:Nat):Int)=58) with h7|h7
   .simp only[h7,AB,A7];have e4:((A1 (0<=((at_+3:Nat):Int))&&A1 (((at_+3:Nat):Int)<=(log.size:Int)))&&(A1 (0<=(at_:Int))&&A1 ((at_:Int)<=((at_+3:Nat):Int))))=A0:=by simp;omega
    simp only[e4,A5,Bb];have hz:(log.extract at_<|at_+3).size=3:=by rw[FZ J];omega
    rw[eB J];simp only[A9];rcases SE (log.extract at_<|at_+3) with h8|⟨n,h8,h9,h10⟩
    .simp only[h8];rfl
    .have h11:100<=n:=by
      rcases HU n 100 with h12|h12
      .have:=Le 2 n J J;rw[← h10,Ay]at this;omega
      .exact h12
     have e5:inB (n:Int) 1 60=A3:=by simp[inB];omega
     simp only[h8,ED,A9,e5];rfl
   .simp only[h7];rfl
 .have hb:∀i,i<c->at_+i<log.size/\bt log ((at_+i:Nat):Int)≠58:=λi hi=>by
   refine⟨J, ?_⟩;rw[← ZI J];exact h5 i hi
  have h4':bt log ((at_+c:Nat):Int)=58:=by rw[← ZI J];exact h4
  have hc:at_+c<log.size:=J
  rw[aBm (n:=c) hs hb J J<|.inr<|.inr h4'];simp only[CR];have e:A1 ((log.size:Int)<=((at_+c:Nat):Int))=A3:=by simp;omega
  have e4:((A1 (0<=((at_+c:Nat):Int))&&A1 (((at_+c:Nat):Int)<=(log.size:Int)))&&(A1 (0<=(at_:Int))&&A1 ((at_:Int)<=((at_+c:Nat):Int))))=A0:=by simp;omega
  simp only[e,AP hc,AI,IL,A5,Bi,show A1 (bt log ((at_+c:Nat):Int)=58)=A0 by simpa using h4',AB,A7,e4,Bb];have hz:(log.extract at_<|at_+c).size=c:=by rw[FZ J];omega
  have hz2:(log.extract at_ log.size).extract 0 c=log.extract at_ (at_+c):=by rw[aa5 J];simp
  rw[eB J];have D6:De (log.extract at_ log.size)=(let n:=Ad<|log.extract at_<|at_+c;if n<1 then U else if 60<n then U else if((log.extract at_ log.size).size:Int)<c+2+n then U else
    if !decide (bt (log.extract at_ log.size) ((c+1+n.toNat:Nat):Int)=59) then U else I ((log.extract at_ log.size).extract (c+1)<|c+1+n.toNat,c+2+n.toNat)):=by
   unfold De;rw[h1,AD J,Bb];simp only[hz2]
  rw[D6];simp only[A9];rcases SE (log.extract at_<|at_+c) with h8|⟨n,h8,h9,h10⟩
  .have hd:Ad (log.extract at_<|at_+c)= -1:=by
    rcases SC (log.extract at_<|at_+c) with⟨h9,_⟩|⟨n,h9,h10,h11⟩
    .exact h9
    .rw[jo J h11]at h8;cases h8
   simp only[h8,hd];rfl
  .rw[kq J h10];simp only[h8,ED,A9,AB,A7,Bb,hse];by_cases h11:(n:Int)<1
   .rw[A8 h11,show inB (n:Int) 1 60=A3 by simp[inB];omega];rfl
   .rw[AD h11];by_cases h12:60<(n:Int)
    .rw[A8 h12,show inB (n:Int) 1 60=A3 by simp[inB];omega];rfl
    .rw[AD h12,show inB (n:Int) 1 60=A0 by simp[inB];omega];have e5:w64 (((at_+c:Nat):Int)+1)=((at_+c+1:Nat):Int):=by rw[AZ J J];omega
     have e6:w64 (((at_+c+1:Nat):Int)+(n:Int))=((at_+c+1+n:Nat):Int):=by rw[AZ J J];omega
     simp only[e5,e6,AB,A7];by_cases h13:at_+c+1+n<log.size
     .rw[AD<|show ¬(((log.size - at_:Nat):Int)<c+2+n) by omega];have e7:A1 ((log.size:Int)<=((at_+c+1+n:Nat):Int))=A3:=by simp;omega
      simp only[e7,A7,AP h13,A5];have e10:bt (log.extract at_ log.size) ((c+1+n:Nat):Int)=bt log ((at_+c+1+n:Nat):Int):=by rw[ZI<|show at_+(c+1+n)<log.size by omega,show at_+(c+1+n)=at_+c+1+n by omega]
      simp only[e10];rcases tf (A1<|bt log ((at_+c+1+n:Nat):Int)=59) with h14|h14
      .have e8:((A1 (0<=((at_+c+1+n:Nat):Int))&&A1 (((at_+c+1+n:Nat):Int)<=(log.size:Int)))&&(A1 (0<=((at_+c+1:Nat):Int))&&A1 (((at_+c+1:Nat):Int)<=((at_+c+1+n:Nat):Int))))=A0:=by simp;omega
       have e9:w64 (((at_+c+1+n:Nat):Int)+1)=((at_+(c+2+n):Nat):Int):=by rw[AZ J J];omega
       simp only[h14,AB,A7,e8,A5,Bt,CA,DF,B8<|show out.length+1<=4294967296 by omega,Bb,e9,aa5<|show at_+(c+1+n)<=log.size by omega];rw[show at_+(c+1)=at_+c+1 by omega,show at_+(c+1+n)=at_+c+1+n by omega]
      .simp only[h14,AI,A5]
     .rw[A8<|show(((log.size - at_:Nat):Int)<c+2+n) by omega];have e7:A1 ((log.size:Int)<=((at_+c+1+n:Nat):Int))=A0:=by simp;omega
      simp only[e7,A5]
def cW{log:A4}(hs:log.size<=1048576):Pb (log,())=I (((D1 log).1,((D1 log).2:Int),()),()):=by
 obtain⟨y,h1,h2⟩:=jh (log:=log) (b:=RO) (λout at_ y=>y= .inr (out,(at_:Int),())) (λout at_ hlt hl=>by
  rw[akP hs hlt hl];cases De (log.extract at_ log.size) with
  | none=>exact⟨_,rfl,rfl⟩
  | some p=>rfl) (λout at_ hge=>by
  refine⟨.inr (out,(at_:Int),()), ?_,rfl⟩;unfold RO;have e:A1 ((at_:Int)<(log.size:Int))=A3:=by simp;omega
  simp only[e];rfl) (log.size+1) [] 0 J (Cu _) (Cu _)
 unfold Pb;rw[show pC (log,[],0,())=I y from h1];subst h2;have h3:=Py log;simp only[CR];rw[show(Ei log (log.size+1) [] 0)=D1 log from rfl,p8 J];rfl
abbrev zK:AG:=⟨0,0,0,[],[],[]⟩
def BO(k:AG)(r:A4):Option AG:=if(F8 k r).2 then I (F8 k r).1 else U
def Ee(k:AG)(rs:List A4):Option AG:=rs.foldlM BO k
def CO(id:Int)(rs:List A4):Option AG:=if isN id then Ee ⟨id,0,1,[],[],[]⟩ rs else U
def aCC{σ β γ κ α:Type}{b:σ->Option (σ ⊕ (β ⊕ γ))}(st:Nat->κ->σ)(l:List α)(f:κ->α->Option κ)(bad:β)(fin:κ->γ)(SL:κ->Prop)
  (h:∀i k x,l[i]? =I x->SL k->b (st i k)=I (match f k x with|some k'=> .inl (st (i+1) k')|none=> .inr<|.inl bad))
  (hn:∀k,SL k->b (st l.length k)=I (.inr<|.inr<|fin k))(hI:∀k x k',SL k->f k x=I k'->SL k'):
  ∀k,SL k->AR b (st 0 k)=I (match l.foldlM f k with|some k'=> .inr (fin k')|none=> .inl bad):=by
 have:∀(m i:Nat),i+m=l.length->∀k,SL k->AR b (st i k)=I (match (l.drop i).foldlM f k with|some k'=> .inr (fin k')|none=> .inl bad):=by
  intro m
  induction m with
  | zero=>
   intro i hi k hk;rw[List.drop_of_length_le J,show i=l.length by omega];exact BP<|hn k hk
  | succ m ih=>
   intro i hi k hk;have hlt:i<l.length:=J
   rw[TP hlt,TO];have hb:=h i k l[i] (Av hlt) hk;cases hf:f k l[i]with
   | none=>rw[hf]at hb;exact BP hb
   | some k'=>rw[hf]at hb;exact B0 hb<|ih (i+1) J k'<|hI k _ k' hk hf
 intro k hk;have:=this l.length 0 J k hk;rwa[Ib]at this
def asn{k:AG}{r:A4}(h:(F8 k r).2=A0):Aw (F8 k r).1=A0:=by
 unfold F8 at h ⊢;split at h<;>rename_i hk
 .rw[A8 hk];cases hs:(G3 k r).filter Aw with
  | none=>rw[hs]at h;cases h
  | some o=>exact(Ow.1 hs).2
 .cases h
def Sd{k o:AG}{r:A4}(h:BO k r=I o):Aw o=A0:=by
 unfold BO at h;split at h
 .cases h;exact asn (by assumption)
 .cases h
def aCo{k:AG}(h:Aw k=A0):SmK k:=by
 have hf:=CY h;have hn:∀ {l:List A6},F5 l=A0->∀x∈l,G2 x:=fun {l} hl x hx=>by
  obtain⟨i,hi,rfl⟩:=DG hx;have:=Gj hl hi;rw[Dh<|Av hi]at this;exact KS this
 exact⟨by have:=hf.hl;omega,hn hf.h,by have:=hf.ml;omega,by have:=hf.il;omega,hn hf.i⟩
def S7{id:Int}(h:isN id=A0):Aw ⟨id,0,1,[],[],[]⟩=A0:=by
 unfold Aw;simp only[h];rfl
def aB6:∀ {rs:List A4} {k o:AG},Aw k=A0->Ee k rs=I o->Aw o=A0
 | [],k,o,hk,h=>by cases h;exact hk
 | r::rs,k,o,hk,h=>by
  unfold Ee at h;rw[TO]at h;cases hs:BO k r with
  | none=>rw[hs]at h;cases h
  | some k'=>rw[hs]at h;exact aB6 (rs:=rs) (Sd hs) h
def SJ{id:Int}{rs:List A4}{o:AG}(h:CO id rs=I o):Aw o=A0:=by
 unfold CO at h;split at h
 .exact aB6 (S7<|by assumption) h
 .cases h
def anf{id:Int}{rs:List A4}(hl:rs.length<=1048576)(hr:∀r∈rs,r.size<=1048576):fO (id,rs,())=I ((tK<|(CO id rs).getD zK,(CO id rs).isSome,()),()):=by
 unfold fO CO;simp only[Jb,A9,ajU];rcases tf (isN id) with h|h
 .simp only[h,AB,A7,A5];have:=aCC (b:=Vg) (λi (k:AG)=>(tK zK,tK k,rs,(rs.length:Int),(i:Int),())) rs BO (tK zK,A3,()) (λk=>(tK zK,tK k,())) (λk=>Aw k=A0) (λi k x hx hk=>by
   have hi:=(BL.1 hx).1;have hxs:=hr x<|Cb hx;unfold Vg;simp only[B7 hi,AP hi,Oh,Iz hx,A5];rw[ym (aCo hk) hxs];unfold BO;simp only[A9];rcases tf (F8 k x).2 with h2|h2
   .simp only[h2,AB,A7,A5,B5 hi (by omega:rs.length<=9223372036854775807)]
   .simp only[h2,AI,A7,A5]) (λk hk=>by simp[Vg]) (λk x k' _ hs=>Sd hs) ⟨id,0,1,[],[],[]⟩ (S7 h)
  rw[show qt ((0,0,0,[],[],[],()),(id,0,1,[],[],[],()),rs,(rs.length:Int),0,())=_ from this];unfold Ee;cases rs.foldlM BO ⟨id,0,1,[],[],[]⟩<;>rfl
 .simp only[h,AI,A7,A5];rfl
def yp{id:Int}{rs:List A4}(hl:rs.length<=1048576)(hr:∀r∈rs,r.size<=1048576):Rx (id,rs,())=I ((tK<|(CO id rs).getD zK,(CO id rs).isSome,()),()):=by
 unfold Rx CO;simp only[JZ,A9,aix];rcases tf (isN id) with h|h
 .simp only[h,AB,A7,A5];have:=aCC (b:=Vd) (λi (k:AG)=>(rs,tK zK,tK k,(i:Int),())) rs BO (tK zK,A3,()) (λk=>(tK zK,tK k,())) (λk=>Aw k=A0) (λi k x hx hk=>by
   have hi:=(BL.1 hx).1;have hxs:=hr x<|Cb hx;unfold Vd;simp only[B7 hi,AP hi,Oh,Iz hx,A5];rw[yq (aCo hk) hxs];unfold BO;simp only[A9];rcases tf (F8 k x).2 with h2|h2
   .simp only[h2,AB,A7,A5,B5 hi (by omega:rs.length<=9223372036854775807)]
   .simp only[h2,AI,A7,A5]) (λk hk=>by simp[Vd]) (λk x k' _ hs=>Sd hs) ⟨id,0,1,[],[],[]⟩ (S7 h)
  rw[show qW (rs,(0,0,0,[],[],[],()),(id,0,1,[],[],[],()),0,())=_ from this];unfold Ee;cases rs.foldlM BO ⟨id,0,1,[],[],[]⟩<;>rfl
 .simp only[h,AI,A7,A5];rfl
def DK(id:Int)(log:A4):Option AG:=CO id (D1 log).1
def Rk{id:Int}{log:A4}(hs:log.size<=1048576):JX (id,log,())=I ((tK<|(DK id log).getD zK,(DK id log).isSome,()),()):=by
 have h:=Py log;unfold JX DK;rw[cW hs];simp only[A9];rw[anf J (λr hr=>by have:=h.2.2 r hr;omega)];rfl
def jF{id fo:Int}{up:Bool}{log:A4}{hv:List AH}(hs:log.size<=1048576):G0 ((id,up,log,fo,hv,()),())=I ((tK<|(DK id log).getD zK,(DK id log).isSome,()),()):=by
 have h:=Py log;unfold G0 DK;rw[VA hs];simp only[A9];rw[yp J (λr hr=>by have:=h.2.2 r hr;omega)];rfl
def D9(lg:A4)(fo:Int):Bool:=A1 (lg.size<=2400)&&(inB fo 0 lg.size&&(A1 (((D1 lg).2:Int)=lg.size)&&A1 (((D1<|lg.extract 0 fo.toNat).2:Int)=fo)))
def Vo{lg:A4}{fo:Int}(hs:lg.size<=1048576):O4 ((lg,fo,()),())=I ((D9 lg fo,()),()):=by
 unfold O4 D9;simp only[ED,cW hs,A9,DY,DO];by_cases h1:lg.size<=2400
 .have e1:A1 (2400<(lg.size:Int))=A3:=by simp;omega
  simp only[e1,h1,AI,IL,A5,Bi,AU,AW];rcases tf (inB fo 0 lg.size) with h2|h2
  .have h3:=Af.1 h2;have e2:(A1 (0<=fo)&&A1 (fo<=(lg.size:Int)))=A0:=by simp;omega
   simp only[h2,AB,A7,e2,A5,AW];rw[cW (by rw[FZ J];omega)];rfl
  .simp only[h2,AI,A5,AO]
 .have e1:A1 (2400<(lg.size:Int))=A0:=by simp;omega
  simp only[e1,h1,AB,HB,A5,Bo,Ae,AO]
def Vc{lg:A4}{fo:Int}(hs:lg.size<=1048576):O1 ((lg,fo,()),())=I ((D9 lg fo,()),()):=by
 unfold O1 D9;simp only[Hl,VA hs,A9,DY,DO];by_cases h1:lg.size<=2400
 .have e1:A1 (2400<(lg.size:Int))=A3:=by simp;omega
  simp only[e1,h1,AI,IL,A5,Bi,AU,AW];rcases tf (inB fo 0 lg.size) with h2|h2
  .have h3:=Af.1 h2;have e2:(A1 (0<=fo)&&A1 (fo<=(lg.size:Int)))=A0:=by simp;omega
   simp only[h2,AB,A7,e2,A5,AW];rw[VA (by rw[FZ J];omega)];rfl
  .simp only[h2,AI,A5,AO]
 .have e1:A1 (2400<(lg.size:Int))=A0:=by simp;omega
  simp only[e1,h1,AB,HB,A5,Bo,Ae,AO]
def GK(p:Bool):Ak p A0=A0:=by cases p<;>rfl
def avz{k o:AG}{w:A4}{n:Int}(h:I5 k w n=I o):o.id=k.id:=by
 unfold I5 at h
 repeat' split at h
 all_goals first|(cases h;done)|(cases h;rfl)
def aaV{k o:AG}{n:A6}(h:FE k n=I o):o.id=k.id:=by
 unfold FE at h
 repeat' split at h
 all_goals first|(cases h;done)|(cases h;rfl)
def aqj{k o:AG}{w:A4}{n:A6}(h:GN k w n=I o):o.id=k.id:=by
 unfold GN at h;split at h
 .exact(aaV h).trans rfl
 split at h
 .exact aaV h
 split at h
 .cases h
 repeat' split at h
 all_goals first|(cases h;done)|(cases h;rfl)
def aqm{k o:AG}{w:A4}{m:Mark}(h:Ew k w m=I o):o.id=k.id:=by
 unfold Ew at h
 repeat' split at h
 all_goals first|(cases h;done)|(cases h;rfl)
def atC{k o:AG}{w r:A4}(h:Bd k w r=I o):o.id=k.id:=by
 unfold Bd at h;split at h
 .split at h
  .exact avz h
  .cases h
 split at h
 .split at h
  .exact aqj h
  .cases h
 split at h
 .split at h
  .exact aqm h
  .cases h
 .cases h
def atw{k o:AG}{r:A4}(h:BO k r=I o)(hk:Aw k=A0):o.id=k.id:=by
 unfold BO at h;split at h
 case isFalse=>cases h
 rename_i h2;cases h;unfold F8 at h2 ⊢;simp only[hk,A5]at h2 ⊢;cases hs:(G3 k r).filter Aw with
 | none=>rfl
 | some o=>
  simp only;have:=(Ow.1 hs).1;unfold G3 at this;split at this
  .cases this
  .exact atC this
def aB7:∀ {rs:List A4} {k o:AG},Aw k=A0->Ee k rs=I o->o.id=k.id
 | [],k,o,_,h=>by cases h;rfl
 | r::rs,k,o,hk,h=>by
  unfold Ee at h;rw[TO]at h;cases hs:BO k r with
  | none=>rw[hs]at h;cases h
  | some k'=>rw[hs]at h;exact(aB7 (rs:=rs) (Sd hs) h).trans<|atw hs hk
def jd{id:Int}{rs:List A4}{o:AG}(h:CO id rs=I o):o.id=id:=by
 unfold CO at h;split at h
 .exact aB7 (k:=⟨id,0,1,[],[],[]⟩) (S7<|by assumption) h
 .cases h
def xA(l:List AT)(i:Nat):AT:=l.getD i<|dfl .mixed
def hA(l:List AH)(i:Nat):AH:=l.getD i<|dfl .half
def Xk(l:List AT)(i:Nat): @rd AT (dfl .mixed) l (i:Int)=xA l i:=rfl
def YF(l:List AH)(i:Nat): @rd AH (dfl .half) l (i:Int)=hA l i:=rfl
def auo{l:List AT}{i j:Nat}(h:j<i):xA (l.take i) j=xA l j:=by
 unfold xA;simp[B9,h]
def I3(l:List AT)(i:Nat):Bool:=(inB (xA l i).nu 0 999&&A1 (((xA l i).da.size:Int)=4))&&At i λj=> !decide ((xA l j).nu=(xA l i).nu)
def Fh(h:AH):Bool:=isN h.fr&&(isN h.to&&(inB h.nu 1 99&&(inB h.un 1 999&&(inB h.sz 1 24&&(A1 ((h.got.length:Int)<=14)&&At h.got.length (I3 h.got))))))
def ao8{h:AH}(sm:Of h):fH ((h.fr,h.nu,h.to,h.un,h.sz,h.got,()),())=I ((Fh h,()),()):=by
 have hl:h.got.length<=9223372036854775807:=by have:=sm.1;omega
 have Fz:qg ((h.fr,h.nu,h.to,h.un,h.sz,h.got,()),h.got,(h.got.length:Int),0,())=I (if At h.got.length (I3 h.got) then .inr () else .inl (A3,())):=
  Cm (λi=>((h.fr,h.nu,h.to,h.un,h.sz,h.got,()),h.got,(h.got.length:Int),(i:Int),())) h.got.length (I3 h.got) (A3,()) () (λi hi=>by
   unfold eJ I3;simp only[B7 hi,AP hi,A5,Xk,ED,A9];rcases tf (inB (xA h.got i).nu 0 999) with e|e<;>rcases tfp (((xA h.got i).da.size:Int)=4) with e'|e'
   rotate_left
   .simp only[e,e',Ae,Bc,AI,Cv,AO,A5,A7]
   .simp only[e,AO,AI,Bo,A5,A7]
   .simp only[e,AO,AI,Bo,A5,A7]
   .have e2:(A1 (0<=(i:Int))&&A1 ((i:Int)<=(h.got.length:Int)))=A0:=by simp;omega
    have e3:(BH i h.got).length=i:=by simp;omega
    simp only[e,e',AU,AB,FU,A7,e2,A5,Bb,e3,AW];have hin:qf ((h.fr,h.nu,h.to,h.un,h.sz,h.got,()),((xA h.got i).nu,(xA h.got i).da,()),h.got,(h.got.length:Int),(i:Int),BH i h.got,(i:Int),0,())=
      I (if At i (λj=> !decide ((xA h.got j).nu=(xA h.got i).nu)) then .inr ((h.fr,h.nu,h.to,h.un,h.sz,h.got,()),h.got,(h.got.length:Int),(i:Int),()) else .inl (A3,())):=
     Cm (λj=>((h.fr,h.nu,h.to,h.un,h.sz,h.got,()),((xA h.got i).nu,(xA h.got i).da,()),h.got,(h.got.length:Int),(i:Int),BH i h.got,(i:Int),(j:Int),())) i (λj=> !decide ((xA h.got j).nu=(xA h.got i).nu)) (A3,()) _ (λj hj=>by
      unfold eH;simp only[B7 hj,e3,AP hj,A5,Xk,auo hj,B5 hj (by omega:i<=9223372036854775807)];rcases tfp ((xA h.got j).nu=(xA h.got i).nu) with e4|e4<;>simp only[e4,AU,Ae]<;>rfl) (by simp[eH])
    rw[hin];rcases tf (At i λj=> !decide ((xA h.got j).nu=(xA h.got i).nu)) with e4|e4
    .simp only[e4,A5,CR,B5 hi hl]
    .simp only[e4,A7,Gk]) (by simp[eJ])
 unfold fH Fh;simp only[Jb,ED,A9,Fz];rcases tf (isN h.fr) with e|e<;>simp only[e,AB,AI,A5,A7,AW,AO];rcases tf (isN h.to) with e|e<;>simp only[e,AB,AI,A5,A7,AW,AO];rcases tf (inB h.nu 1 99) with e|e<;>simp only[e,AB,AI,A5,A7,AW,AO];rcases tf (inB h.un 1 999) with e|e<;>simp only[e,AB,AI,A5,A7,AW,AO];rcases tf (inB h.sz 1 24) with e|e<;>simp only[e,AB,AI,A5,A7,AW,AO];rcases ET (h.got.length:Int) 14 with⟨e1,e2⟩|⟨e1,e2⟩<;>simp only[e1,e2,AU,Ae,A5,A7,AW,AO];rcases tf (At h.got.length<|I3 h.got) with e|e<;>simp only[e,A5,A7]<;>rfl
def asB{sz:Int}(h:inB sz 1 24=A0):inB (w64<|Ax (w64<|w64 (sz+4) - 1) 4) 1 6=A0:=by
 have h:=Af.1 h;rw[AZ (n:=sz+4) J J,AZ (n:=sz+4 - 1) J J];have e:Ax (sz+4 - 1) 4=(sz+4 - 1) / 4:=Fv J;rw[e,AZ J J,Af];omega
def aoD{h:AH}(sm:Of h):cK ((h.fr,h.nu,h.to,h.un,h.sz,h.got,()),())=I ((Fh h,()),()):=by
 have hl:h.got.length<=9223372036854775807:=by have:=sm.1;omega
 have Fz:inB h.sz 1 24=A0->oy ((h.fr,h.nu,h.to,h.un,h.sz,h.got,()),0,())=I (if At h.got.length (I3 h.got) then .inr () else .inl (A3,())):=λhz=>
  Cm (λi=>((h.fr,h.nu,h.to,h.un,h.sz,h.got,()),(i:Int),())) h.got.length (I3 h.got) (A3,()) () (λi hi=>by
   unfold bf I3 LR Rt Me;simp only[B7 hi,AP hi,A5,Xk,Hl,A9,asB hz,IL,DY,DO,AW];rcases tf (inB (xA h.got i).nu 0 999) with e|e<;>rcases tfp (((xA h.got i).da.size:Int)=4) with e'|e'
   rotate_left
   .simp only[e,e',Ae,Bc,AI,AO,A5,A7]
   .simp only[e,AO,AI,A5,A7]
   .simp only[e,AO,AI,A5,A7]
   .simp only[e,e',AU,Du,AB,A7,AW];have hin:ow ((h.fr,h.nu,h.to,h.un,h.sz,h.got,()),(i:Int),0,())=
      I (if At i (λj=> !decide ((xA h.got j).nu=(xA h.got i).nu)) then .inr ((h.fr,h.nu,h.to,h.un,h.sz,h.got,()),(i:Int),()) else .inl (A3,())):=
     Cm (λj=>((h.fr,h.nu,h.to,h.un,h.sz,h.got,()),(i:Int),(j:Int),())) i (λj=> !decide ((xA h.got j).nu=(xA h.got i).nu)) (A3,()) _ (λj hj=>by
      unfold bd;simp only[B7 hj,AP hi,AP<|Ym hj hi,A5,Xk,B5 hj (by omega:i<=9223372036854775807)];rcases tfp ((xA h.got j).nu=(xA h.got i).nu) with e4|e4<;>simp only[e4,AU,Ae]<;>rfl) (by simp[bd])
    rw[hin];rcases tf (At i λj=> !decide ((xA h.got j).nu=(xA h.got i).nu)) with e4|e4
    .simp only[e4,A5,CR,B5 hi hl]
    .simp only[e4,A7,Gk]) (by simp[bf])
 unfold cK Fh;simp only[JZ,Hl,A9];rcases tf (isN h.fr) with e|e<;>simp only[e,AB,AI,A5,A7,AW,AO];rcases tf (isN h.to) with e|e<;>simp only[e,AB,AI,A5,A7,AW,AO];rcases tf (inB h.nu 1 99) with e|e<;>simp only[e,AB,AI,A5,A7,AW,AO];rcases tf (inB h.un 1 999) with e|e<;>simp only[e,AB,AI,A5,A7,AW,AO];rcases tf (inB h.sz 1 24) with e|e<;>simp only[e,AB,AI,A5,A7,AW,AO];rw[Fz e];rcases ET (h.got.length:Int) 14 with⟨e1,e2⟩|⟨e1,e2⟩<;>simp only[e1,e2,AU,Ae,A5,A7,AW,AO];rcases tf (At h.got.length<|I3 h.got) with e|e<;>simp only[e,A5,A7]<;>rfl
def EZ(l:List AH)(f n:Int):Int:=Fj l.length λi=>A1 ((hA l i).fr=f)&&A1 ((hA l i).nu=n)
def yj{l:List AH}{f n:Int}(hl:l.length<=1048576):S2 (l,f,n,())=I ((EZ l f n,()),()):=by
 unfold S2;have:=Q1 (b:=Vn) (λi=>(f,n,l,(l.length:Int),(i:Int),())) l.length (λi=>A1 ((hA l i).fr=f)&&A1 ((hA l i).nu=n)) (λr=>(r,())) () (λi hi=>by
  unfold Vn;simp only[B7 hi,AP hi,A5,YF,B5 hi (by omega:l.length<=9223372036854775807)];rcases tfp ((hA l i).fr=f) with e|e<;>rcases tfp ((hA l i).nu=n) with e2|e2<;>simp only[e,e2,AU,Ae]<;>rfl) (by simp[Vn])
 rw[show qh (f,n,l,(l.length:Int),0,())=_ from this];exact SY
def aDI{n:Nat}{p:Nat->Bool}{i:Nat}(hi:i<n)(hp:p i=A0):A1 (Fj n p<(i:Int))= !(At i λj=> !p j):=by
 rcases GL n p with⟨_,h2⟩|⟨c,h1,h2,h3,h4⟩
 .rw[h2 i hi]at hp;cases hp
 .rw[h1];by_cases hc:c<i
  .have:At i (λj=> !p j)=A3:=by
    rw[Bool.eq_false_iff];intro h;have:=CS.1 h c hc;simp[h3]at this
   rw[this];simpa using hc
  .have:At i (λj=> !p j)=A0:=CS.2 λj hj=>by rw[h4 j J];rfl
   rw[this];simp;omega
def Fq(l:List AH)(i:Nat):Bool:=Fh (hA l i)&&At i λj=> !(A1 ((hA l j).fr=(hA l i).fr)&&A1 ((hA l j).nu=(hA l i).nu))
def Ah(k:AA):Bool:=isN k.id&&(D9 k.log k.fo&&(A1 ((k.AN.length:Int)<=3)&&((k.up||decide (k.AN.length=0))&&(((DK k.id k.log).isSome&&(DK k.id<|k.log.extract 0 k.fo.toNat).isSome)&&At k.AN.length (Fq k.AN)))))
abbrev tKp(k:AA):Int×Bool×A4×Int×List AH×A2:=(k.id,k.up,k.log,k.fo,k.AN,())
def abK{l:List AH}(h:∀x∈l,Of x)(i:Nat):Of (hA l i):=by
 unfold hA;rcases HU i l.length with hi|hi
 .rw[Iz<|Av hi];exact h _ (CJ hi)
 .rw[B9,HV hi];exact⟨by decide,λm hm=>by cases hm⟩
def KG{k:AA}(sm:FN k):Hk (tKp k,())=I ((Ah k,()),()):=by
 obtain⟨id,up,lg,fo,hv⟩:=k;obtain⟨sl,hl,hs⟩:=sm;simp only at sl hl hs;have Fz:ak ((id,up,lg,fo,hv,()),hv,(hv.length:Int),0,())=I (if At hv.length (Fq hv) then .inr () else .inl (A3,())):=
  Cm (λi=>((id,up,lg,fo,hv,()),hv,(hv.length:Int),(i:Int),())) hv.length (Fq hv) (A3,()) () (λi hi=>by
   unfold cb Fq;simp only[B7 hi,AP hi,A5,YF,ao8<|abK hs i,yj hl,A9,DY,DO,GK,B5 hi (by omega:hv.length<=9223372036854775807)];rcases tf (Fh<|hA hv i) with e|e
   .have hf:=aDI (p:=λj=>A1 ((hA hv j).fr=(hA hv i).fr)&&A1 ((hA hv j).nu=(hA hv i).nu)) hi (by simp);unfold EZ;simp only[e,AB,Bi,AW,hf];cases At i (λj=> !(A1 ((hA hv j).fr=(hA hv i).fr)&&A1 ((hA hv j).nu=(hA hv i).nu)))<;>rfl
   .simp only[e,AI,Bo,A5,AO,A7]) (by simp[cb])
 unfold Hk Ah;simp only[Jb,A9,Vo sl];rcases tf (isN id) with e|e<;>simp only[e,AB,AI,A5,A7,AW,AO,OK];rcases tf (D9 lg fo) with e2|e2<;>simp only[e2,AB,AI,A5,A7,AW,AO,OK];have e3:0<=fo/\fo<=(lg.size:Int):=by
  unfold D9 at e2;simp only[AE]at e2;exact Af.1 e2.2.1
 have e4:(A1 (0<=fo)&&A1 (fo<=(lg.size:Int)))=A0:=by simp;omega
 rcases ET (hv.length:Int) 3 with⟨e5,e6⟩|⟨e5,e6⟩<;>simp only[e5,e6,AU,Ae,A5,A7,AW,AO,OK];have ID:∀b:Bool,(b=A0)->BS (X:=(Int×Bool×A4×Int×List AH×A2)×A2) (λj5=>
   (JX (j5.1.1,j5.1.2.2.1,())).bind λr8=>
   (if(A1 (0<=j5.1.2.2.2.1)&&A1 (j5.1.2.2.2.1<=(j5.1.2.2.1.size:Int))) then
   (JX (j5.1.1,(j5.1.2.2.1.extract (0)<|AL j5.1.2.2.2.1),())).bind λr9=>
   (if((!r8.1.2.1)||(!r9.1.2.1)) then
   I ((A3,()),())
   else
   (AM (ak (j5.1,j5.1.2.2.2.2.1,(j5.1.2.2.2.2.1.length:Int),0,()))
   (λy56=>I (y56,()))
   (λy56=>I ((A0,()),()))))
   else U)) (I<|.inr ((id,up,lg,fo,hv,()),()))=I ((b&&(((DK id lg).isSome&&(DK id<|lg.extract 0 fo.toNat).isSome)&&At hv.length (Fq hv)),()),()):=by
  rintro b rfl;simp only[Be,Rk sl,A9,e4,A5];rw[Rk (by rw[FZ J];omega)];simp only[A9,Fz,AW];rcases tf (DK id lg).isSome with e|e<;>rcases tf (DK id<|lg.extract 0 fo.toNat).isSome with e2|e2<;>simp only[e,e2,AB,AI,FU,Bo,Cv,A5,A7,Du,Bc,AO,AW];rcases tf (At hv.length<|Fq hv) with e|e<;>simp only[e,A5,A7]<;>rfl
 rcases tf up with e7|e7
 .simp only[e7,AB,A7,Bo];rw[e7]at ID;exact ID A0 rfl
 .simp only[e7,AI,A5,Bi];rw[e7]at ID;by_cases e8:hv.length=0
  .have e9:A1 (0<(hv.length:Int))=A3:=by rw[e8];rfl
   simp only[e9,A7,e8,AU];rw[e8]at ID;exact ID A0 rfl
  .have e9:A1 (0<(hv.length:Int))=A0:=by simp;omega
   simp only[e9,A5,e8,Ae,AO,OK]
def LS{k:AA}(sm:FN k):Io (tKp k,())=I ((Ah k,()),()):=by
 obtain⟨id,up,lg,fo,hv⟩:=k;obtain⟨sl,hl,hs⟩:=sm;simp only at sl hl hs;have Fz:aZ ((id,up,lg,fo,hv,()),0,())=I (if At hv.length (Fq hv) then .inr () else .inl (A3,())):=
  Cm (λi=>((id,up,lg,fo,hv,()),(i:Int),())) hv.length (Fq hv) (A3,()) () (λi hi=>by
   unfold cS Fq;simp only[B7 hi,AP hi,A5,YF,aoD<|abK hs i,A9,B5 hi (by omega:hv.length<=9223372036854775807)];rcases tf (Fh<|hA hv i) with e|e
   .simp only[e,AB,A7,AW];have hin:pQ ((id,up,lg,fo,hv,()),(i:Int),0,())=I (if At i (λj=> !(A1 ((hA hv j).fr=(hA hv i).fr)&&A1 ((hA hv j).nu=(hA hv i).nu))) then .inr ((id,up,lg,fo,hv,()),(i:Int),()) else .inl (A3,())):=
     Cm (λj=>((id,up,lg,fo,hv,()),(i:Int),(j:Int),())) i (λj=> !(A1 ((hA hv j).fr=(hA hv i).fr)&&A1 ((hA hv j).nu=(hA hv i).nu))) (A3,()) _ (λj hj=>by
      unfold cR;simp only[B7 hj,AP hi,AP<|Ym hj hi,A5,YF,GK,B5 hj (by omega:i<=9223372036854775807)];rcases tfp ((hA hv j).fr=(hA hv i).fr) with e|e<;>rcases tfp ((hA hv j).nu=(hA hv i).nu) with e2|e2<;>simp only[e,e2,AU,Ae]<;>rfl) (by simp[cR])
    rw[hin];rcases tf (At i λj=> !(A1 ((hA hv j).fr=(hA hv i).fr)&&A1 ((hA hv j).nu=(hA hv i).nu))) with e4|e4
    .simp only[e4,A5,CR,B5 hi (by omega:hv.length<=9223372036854775807)]
    .simp only[e4,A7,Gk]
   .simp only[e,AI,A5,AO,A7]) (by simp[cS])
 unfold Io Ah;simp only[JZ,A9,Vc sl];rcases tf (isN id) with e|e<;>simp only[e,AB,AI,A5,A7,AW,AO,OK];rcases tf (D9 lg fo) with e2|e2<;>simp only[e2,AB,AI,A5,A7,AW,AO,OK];have e3:0<=fo/\fo<=(lg.size:Int):=by
  unfold D9 at e2;simp only[AE]at e2;exact Af.1 e2.2.1
 have e4:(A1 (0<=fo)&&A1 (fo<=(lg.size:Int)))=A0:=by simp;omega
 rcases ET (hv.length:Int) 3 with⟨e5,e6⟩|⟨e5,e6⟩<;>simp only[e5,e6,AU,Ae,A5,A7,AW,AO,OK];have ID:∀b:Bool,(b=A0)->BS (X:=(Int×Bool×A4×Int×List AH×A2)×A2) (λj5=>
   (if(A1 (0<=j5.1.2.2.2.1)&&A1 (j5.1.2.2.2.1<=(j5.1.2.2.1.size:Int))) then
   (LJ ((j5.1.2.2.1.extract (0)<|AL j5.1.2.2.2.1),())).bind λr8=>
   (Rx (j5.1.1,r8.1.1,())).bind λr9=>
   (G0 j5).bind λr10=>
   (if((!r10.1.2.1)||(!r9.1.2.1)) then
   I ((A3,()),())
   else
   (AM (aZ (j5.1,0,()))
   (λy27=>I (y27,()))
   (λy27=>I ((A0,()),()))))
   else U)) (I<|.inr ((id,up,lg,fo,hv,()),()))=I ((b&&(((DK id lg).isSome&&(DK id<|lg.extract 0 fo.toNat).isSome)&&At hv.length (Fq hv)),()),()):=by
  rintro b rfl;have hz:(lg.extract 0 fo.toNat).size<=1048576:=by rw[FZ J];omega
  have hg:=Py<|lg.extract 0 fo.toNat;simp only[Be,e4,A5,VA hz,A9,yp (id:=id) (show(D1<|lg.extract 0 fo.toNat).1.length<=1048576 by omega) (λr hr=>by have:=hg.2.2 r hr;omega),jF sl,Fz,AW];rw[show CO id (D1<|lg.extract 0 fo.toNat).1=DK id (lg.extract 0 fo.toNat) from rfl];rcases tf (DK id lg).isSome with e|e<;>rcases tf (DK id<|lg.extract 0 fo.toNat).isSome with e2|e2<;>simp only[e,e2,AB,AI,FU,Bo,Cv,A5,A7,Du,Bc,AO,AW];rcases tf (At hv.length<|Fq hv) with e|e<;>simp only[e,A5,A7]<;>rfl
 rcases tf up with e7|e7
 .simp only[e7,AB,A7,Bo];rw[e7]at ID;exact ID A0 rfl
 .simp only[e7,AI,A5,Bi];rw[e7]at ID;by_cases e8:hv.length=0
  .have e9:A1 (0<(hv.length:Int))=A3:=by rw[e8];rfl
   simp only[e9,A7,e8,AU];rw[e8]at ID;exact ID A0 rfl
  .have e9:A1 (0<(hv.length:Int))=A0:=by simp;omega
   simp only[e9,A5,e8,Ae,AO,OK]
abbrev YR:=Int×List AA×List Bool×List AS×List A6×List A6×A2
def kA(l:List AA)(i:Nat):AA:=l.getD i<|dfl .AQ
def pA(l:List AS)(i:Nat):AS:=l.getD i<|dfl .An
def bA(l:List Bool)(i:Nat):Bool:=l.getD i<|dfl .bool
def SH(l:List AA)(i:Nat): @rd AA (dfl .AQ) l (i:Int)=kA l i:=rfl
def aBw(l:List AS)(i:Nat): @rd AS (dfl .An) l (i:Int)=pA l i:=rfl
def Gt(l:List A6):Bool:=At l.length λi=>B4<|nA l i
def E3(p:AS):Bool:=isN p.src&&(isN p.dst&&((A1 (p.src - p.dst=1)||decide (p.dst - p.src=1))&&A1 ((p.data.size:Int)<=40)))
def JA(l:List AA)(i:Nat):Bool:=A1 ((kA l i).id=(i:Int))&&Ah (kA l i)
def HD(ti:Int)(ks:List AA)(ls:List Bool)(ra:List AS)(se go:List A6):Bool:=
 inB ti 0 99999&&(A1 ((ks.length:Int)=4)&&(A1 ((ls.length:Int)=3)&&(A1 ((ra.length:Int)<=30)&&((Gt se&&A1 ((se.length:Int)<=6))&&((Gt go&&A1 ((go.length:Int)<=6))&&
  (At ks.length (JA ks)&&At ra.length (λi=>E3<|pA ra i)))))))
def Qj{l:List AA}(h:∀x∈l,FN x)(i:Nat):FN (kA l i):=by
 unfold kA;rcases HU i l.length with hi|hi
 .rw[Iz<|Av hi];exact h _ (CJ hi)
 .rw[B9,HV hi];exact⟨by decide,by decide,λm hm=>by cases hm⟩
def Ff{n:Int}(h:isN n=A0):0<=n/\n<=3:=Af.1 h
def XV{a b:Int}(ha:isN a=A0)(hb:isN b=A0):w64 (a - b)=a - b:=by
 have:=Ff ha;have:=Ff hb;exact AZ J J
def ajw{ti:Int}{ks:List AA}{ls:List Bool}{ra:List AS}{se go:List A6}(sm:IC ks ls ra se go):
  qL ((ti,ks,ls,ra,se,go,()),0,())=I (if At ks.length (JA ks) then .inr ((ti,ks,ls,ra,se,go,()),()) else .inl (A3,())):=
 Cm (λi=>((ti,ks,ls,ra,se,go,()),(i:Int),())) ks.length (JA ks) (A3,()) _ (λi hi=>by
  have hk:=LS<|Qj sm.k i;unfold cy JA;have kl:=sm.kl;simp only[B7 hi,AP hi,A5,SH,hk,A9,GK,B5 hi (by omega:ks.length<=9223372036854775807)];rcases tfp ((kA ks i).id=(i:Int)) with e|e<;>rcases tf (Ah<|kA ks i) with e2|e2<;>simp only[e,e2,AU,Ae]<;>rfl) (by simp[cy])
def ajv{ti:Int}{ks:List AA}{ls:List Bool}{ra:List AS}{se go:List A6}(sm:IC ks ls ra se go):
  qK ((ti,ks,ls,ra,se,go,()),0,())=I (if At ra.length (λi=>E3<|pA ra i) then .inr ((ti,ks,ls,ra,se,go,()),()) else .inl (A3,())):=
 Cm (λi=>((ti,ks,ls,ra,se,go,()),(i:Int),())) ra.length (λi=>E3<|pA ra i) (A3,()) _ (λi hi=>by
  have rl:=sm.rl;unfold cw E3;simp only[B7 hi,AP hi,A5,aBw,JZ,A9,B5 hi (by omega:ra.length<=9223372036854775807)];rcases tf (isN (pA ra i).src) with e|e<;>rcases tf (isN (pA ra i).dst) with e2|e2<;>simp only[e,e2,AB,AI,A5,A7,AW,AO];simp only[XV e e2,XV e2 e];rcases tfp ((pA ra i).src - (pA ra i).dst=1) with e3|e3<;>rcases tfp ((pA ra i).dst - (pA ra i).src=1) with e4|e4<;>rcases ET ((pA ra i).data.size:Int) 40 with⟨e5,e6⟩|⟨e5,e6⟩<;>simp only[e3,e4,e5,e6,AU,Ae]<;>rfl) (by simp[cw])
def aju{ti:Int}{ks:List AA}{ls:List Bool}{ra:List AS}{se go:List A6}(sm:IC ks ls ra se go):
  qJ ((ti,ks,ls,ra,se,go,()),0,())=I (if Gt se then .inr ((ti,ks,ls,ra,se,go,()),()) else .inl (A3,())):=
 Cm (λi=>((ti,ks,ls,ra,se,go,()),(i:Int),())) se.length (λi=>B4<|nA se i) (A3,()) _ (λi hi=>by
  have rl:=sm.sl;unfold ct;simp only[B7 hi,AP hi,A5,Cc,Vt<|Tj sm.s i,A9,B5 hi (by omega:se.length<=9223372036854775807)];rcases tf (B4<|nA se i) with e|e<;>simp only[e]<;>rfl) (by simp[ct])
def ajt{ti:Int}{ks:List AA}{ls:List Bool}{ra:List AS}{se go:List A6}(sm:IC ks ls ra se go):
  qI ((ti,ks,ls,ra,se,go,()),0,())=I (if Gt go then .inr () else .inl (A3,())):=
 Cm (λi=>((ti,ks,ls,ra,se,go,()),(i:Int),())) go.length (λi=>B4<|nA go i) (A3,()) _ (λi hi=>by
  have rl:=sm.gl;unfold cr;simp only[B7 hi,AP hi,A5,Cc,Vt<|Tj sm.g i,A9,B5 hi (by omega:go.length<=9223372036854775807)];rcases tf (B4<|nA go i) with e|e<;>simp only[e]<;>rfl) (by simp[cr])
def fq{ti:Int}{ks:List AA}{ls:List Bool}{ra:List AS}{se go:List A6}(sm:IC ks ls ra se go):
  Pm ((ti,ks,ls,ra,se,go,()),())=I ((HD ti ks ls ra se go,()),()):=by
 unfold Pm HD;simp only[Hl,A9];rcases tf (inB ti 0 99999) with e|e<;>simp only[e,AB,AI,A5,A7,AW,AO];rcases tfp ((ks.length:Int)=4) with e|e<;>simp only[e,AU,Ae,AB,AI,A5,A7,AW,AO];rcases tfp ((ls.length:Int)=3) with e|e<;>simp only[e,AU,Ae,AB,AI,A5,A7,AW,AO];rcases ET (ra.length:Int) 30 with⟨e1,e2⟩|⟨e1,e2⟩<;>simp only[e1,e2,AU,Ae,A5,A7,AW,AO];rcases ET (se.length:Int) 6 with⟨e1,e2⟩|⟨e1,e2⟩<;>simp only[e1,e2,AU,Ae,A5,A7,M6,Bc,AO];rcases ET (go.length:Int) 6 with⟨e1,e2⟩|⟨e1,e2⟩<;>simp only[e1,e2,AU,Ae,A5,A7,M6,Bc,AO];rw[ajw sm];rcases tf (At ks.length<|JA ks) with e|e<;>simp only[e,A5,A7,AW,AO,Bc,Gk,CR];rw[ajv sm];rcases tf (At ra.length λi=>E3<|pA ra i) with e|e<;>simp only[e,A5,A7,Gk,CR,Bc,M6];rw[aju sm];rcases tf (Gt se) with e|e<;>simp only[e,A5,A7,Gk,CR,Bc,M6,AW,AO];rw[ajt sm];rcases tf (Gt go) with e|e<;>simp only[e,A5,A7,Gk,CR,Bc,M6]
def Co(a t:Int):Int:=if !isN a||(!isN t||decide (a=t)) then -1 else if a<t then a+1 else a - 1
def XW{a:Int}(h:isN a=A0):w64 (a+1)=a+1/\w64 (a - 1)=a - 1:=by
 have:=Ff h;exact⟨AZ J J,AZ J J⟩
def sA{a t:Int}:Ip (a,t,())=I ((Co a t,()),()):=by
 unfold Ip Co;simp only[Jb,A9];rcases tf (isN a) with e|e
 .rcases tf (isN t) with e2|e2
  .rcases tfp (a=t) with e3|e3
   .simp only[e,e2,e3,AU];rfl
   .rcases tfp (a<t) with e4|e4<;>simp only[e,e2,e3,e4,Ae,AU,AB,A7,Be,A5,if_false,FU,(XW e).1,(XW e).2]
  .simp only[e,e2];rfl
 .simp only[e];rfl
def rv{a t:Int}:Rb (a,t,())=I ((Co a t,()),()):=by
 unfold Rb Co;simp only[JZ,A9];rcases tf (isN a) with e|e
 .rcases tf (isN t) with e2|e2
  .rcases tfp (a=t) with e3|e3
   .simp only[e,e2,e3,AU];rfl
   .rcases tfp (a<t) with e4|e4<;>simp only[e,e2,e3,e4,Ae,AU,AB,A7,Be,A5,if_false,FU,(XW e).1,(XW e).2]
  .simp only[e,e2];rfl
 .simp only[e];rfl
def jq{a t:Int}(ha:isN a=A0)(ht:isN t=A0)(hne:a≠t):isN (Co a t)=A0:=by
 have:=Ff ha;have:=Ff ht;have e3:A1 (a=t)=A3:=by simpa using hne
 unfold Co;simp only[ha,ht,e3,AB,FU,A7];rw[Af];split<;>omega
def stT(k:AA):AG:=(DK k.id k.log).getD zK
def SP(l:List AA)(i:Int): @rd AA (dfl .AQ) l i=kA l i.toNat:=rfl
structure ayQ (k:AA):Prop where
 id:isN k.id=A0
 sh:D9 k.log k.fo=A0
 hl:k.AN.length<=3
 up:k.up=A0\/k.AN.length=0
 st:DK k.id k.log=I (stT k)
 ok:Aw (stT k)=A0
 sid:(stT k).id=k.id
 fo:(DK k.id<|k.log.extract 0 k.fo.toNat).isSome=A0
 hv:∀i,i<k.AN.length->Fq k.AN i=A0
def EC{k:AA}(h:Ah k=A0):ayQ k:=by
 unfold Ah at h;simp only[AE,CB,decide_eq_true_eq,CS]at h;obtain⟨a,b,c,d,⟨e,f⟩,g⟩:=h;have hs:DK k.id k.log=I (stT k):=by
  unfold stT;cases hh:DK k.id k.log with
  | none=>rw[hh]at e;cases e
  | some o=>rfl
 exact⟨a,b,J,d,hs,SJ hs,jd hs,f,g⟩
structure UB (ti:Int) (ks:List AA) (ls:List Bool) (ra:List AS) (se go:List A6):Prop where
 t0:0<=ti
 t1:ti<=99999
 kl:ks.length=4
 ll:ls.length=3
 rl:ra.length<=30
 s:Gt se=A0
 sl:se.length<=6
 g:Gt go=A0
 gl:go.length<=6
 k:∀i,i<4->(kA ks i).id=(i:Int)/\Ah (kA ks i)=A0
 r:∀i,i<ra.length->E3 (pA ra i)=A0
def aCH{k:AG}{n:A6}(h:Aw k=A0)(hn:n∈k.held):isN (Co k.id n.to)=A0:=by
 have hf:=CY h;obtain⟨i,hi,rfl⟩:=DG hn;have h1:=Gj hf.h hi;rw[Dh<|Av hi]at h1;have h2:=Ho h1;have h3:=hf.ho i hi;unfold IV Lm at h3;rw[Dh<|Av hi]at h3;simp only[AE,CL,decide_eq_false_iff_not]at h3;exact jq (Af.2 ⟨hf.id0,hf.id1⟩) (Af.2 ⟨h2.t0,h2.t1⟩) h3.2.2.1.1
section
variable {ti:Int} {ks:List AA} {ls:List Bool} {ra:List AS} {se go:List A6}
def Hx{l:List A6}{j:Nat}(h:j<l.length):nA l j∈l:=by
 rw[Dh<|Av h];exact CJ h
end
end Go.VS
namespace Go.VS
open Go
def aC3{a b c d e f:Int}(h:bef a b c d=A0)(k:bef c d e f=A0):bef a b e f=A0:=by
 unfold bef at *;simp only[CB,AE,decide_eq_true_eq]at *;omega
def mS{a b:Int}:bef a b a b=A3:=by
 unfold bef;simp
def WK{l:List A6}(h:F5 l=A0):∀(j i:Nat),i<j->j<l.length->bef (nA l i).fr (nA l i).nu (nA l j).fr (nA l j).nu=A0
 | j+1,i,hij,hj=>by
  have h1:=CS.1 h (j+1) hj;simp only[AE,CB,decide_eq_true_eq]at h1;have h2:bef (nA l j).fr (nA l j).nu (nA l<|j+1).fr (nA l<|j+1).nu=A0:=h1.2.resolve_left J;rcases HU i j with h3|h3
  .exact aC3 (WK h j i h3 J) h2
  .rwa[show i=j by omega]
def stD(k:AA):AG:=(DK k.id<|k.log.extract 0 k.fo.toNat).getD zK
def Cq(r:A4):A4:=((BW (r.size:Int)++B [58])++r)++B [59]
def lh(r:A4):L (Cq r)=dcm r.size++58::(L r++[59]):=by
 unfold Cq;rw[aED];simp only[G7,L_B,n8,Bw,Ko,EM]
def WZ(r:A4):(Cq r).size=(dcm r.size).length+2+r.size:=by
 rw[← Ay,lh];simp only[Ar,Bt,CA,Ay];omega
def cat(rs:List A4):List UInt8:=rs.flatMap λr=>L<|Cq r
def Jf:cat []=[]:=rfl
def Hm(r:A4)(rs:List A4):cat (r::rs)=L (Cq r)++cat rs:=rfl
def KQ(rs ts:List A4):cat (rs++ts)=cat rs++cat ts:=lX
def Hv(rs:List A4):Prop:=∀r∈rs,1<=r.size/\r.size<=60
def awx(b:UInt8)(h:dig b=A0):b≠58:=by
 rintro rfl;revert h;decide
def aEe{n:Nat}(h:n<=60):(dcm n).length<=2:=Le 2 n J J
def aEf(n:Nat):1<=(dcm n).length:=by
 have:=ma n;cases h:dcm n with
 | nil=>exact absurd h this
 | cons b l=>simp
def aa3{l m:List UInt8}{b:UInt8}{i:Nat}(h:i=l.length):(l++b::m).getD i 0=b:=by
 subst h;simp
def Xn{s r:A4}{t:List UInt8}(h:L s=L (Cq r)++t)(h1:1<=r.size)(h2:r.size<=60):De s=I (r,(Cq r).size):=by
 rw[lh]at h;have hs:s.size=(dcm r.size).length+2+r.size+t.length:=by
  rw[← Ay,h];simp only[Ar,Bt,CA,Ay];omega
 have hd:=aEe h2;have hp:=aEf r.size;generalize hc:(dcm r.size).length=c at *;have hL:L s=dcm r.size++58::(L r++59::t):=by rw[h];simp
 have aze:Ts s=(c:Int):=by
  refine aDJ J ?_ (λj hj=> ?_)
  .rw[decide_eq_true_eq,Jj,hL,aa3 hc.symm];rfl
  .rw[decide_eq_false_iff_not,Jj,hL];have hlt:j<(dcm r.size).length:=J
   have hm:(dcm r.size++58::(L r++59::t)).getD j 0∈dcm r.size:=aa2 hlt;have hdg:=YS (r.size+1) r.size J _ hm;have hne:=awx _ hdg;generalize (dcm r.size++58::(L r++59::t)).getD j 0=b at *;intro e;apply hne;have e:b.toNat=58:=J
   exact QW.1 e
 have he:L (s.extract 0 c)=dcm r.size:=by
  rw[Dz,hL];simp[← hc]
 have hn:Ad (s.extract 0 c)=(r.size:Int):=kq (by rw[← Ay,he];omega) he;have h59:bt s ((c+1+r.size:Nat):Int)=59:=by
  have e:(L s).getD (c+1+r.size) 0=59:=by
   have:dcm r.size++58::(L r++59::t)=(dcm r.size++58::L r)++59::t:=by simp
   rw[hL,this];exact aa3 (by simp[hc];omega)
  rw[Jj,e];rfl
 have hx:s.extract (c+1) (c+1+r.size)=r:=by
  refine Fl ?_;rw[Dz,hL];have:(dcm r.size++58::(L r++59::t)).drop (c+1)=L r++59::t:=by
   have e:dcm r.size++58::(L r++59::t)=(dcm r.size++[58])++(L r++59::t):=by simp
   rw[e,QX<|by simp[hc]]
  rw[this,show c+1+r.size - (c+1)=(L r).length by rw[Ay];omega,P1 rfl]
 unfold De;rw[aze];simp only[Bb,hn];rw[AD J,AD J,AD J,AD J,h59];simp only[AU,AB,A7,hx];rw[WZ,hc]
def avw{s r:A4}{n:Nat}(h:De s=I (r,n)):1<=r.size/\r.size<=60/\n=(Cq r).size/\ ∃t,L s=L (Cq r)++t:=by
 have hsm:=SX h;unfold De at h;split at h
 .cases h
 rename_i hc0;rcases Wf s with⟨h1,_⟩|⟨c,h1,h2,h3,h4,_⟩
 .omega
 rw[h1]at h;simp only[Bb]at h;split at h
 .cases h
 rename_i hn1;split at h
 .cases h
 rename_i hn2;split at h
 .cases h
 rename_i hn3;split at h
 .cases h
 rename_i hn4;cases h;have hz:(s.extract 0 c).size=c:=by rw[FZ J];omega
 rcases SC (s.extract 0 c) with⟨h9,_⟩|⟨k,h9,h10,h11⟩
 .omega
 simp only[h9,Bb]at hn1 hn2 hn3 hn4 hsm ⊢;have hrs:(s.extract (c+1)<|c+1+k).size=k:=by rw[FZ J];omega
 have h5:bt s ((c+1+k:Nat):Int)=59:=by
  cases hd:A1 (bt s ((c+1+k:Nat):Int)=59) with
  | true=>simpa using hd
  | false=>rw[hd]at hn4;exact absurd rfl hn4
 have g1:(L s).getD c 0=58:=by
  rw[Jj]at h4;exact QW.1 (by have:(58:UInt8).toNat=58:=rfl;omega)
 have g2:(L s).getD (c+1+k) 0=59:=by
  rw[Jj]at h5;exact QW.1 (by have:(59:UInt8).toNat=59:=rfl;omega)
 have hlen:(L s).length=s.size:=Ay s;have t1:(L s).take c=dcm k:=by
  rw[← h11,Dz];simp
 have hcl:(dcm k).length=c:=by rw[← t1,Cw];omega
 have hsp:L s=dcm k++58::((L<|s.extract (c+1)<|c+1+k)++59::(L s).drop (c+1+k+1)):=by
  conv=>lhs;rw[← JH c<|L s,t1]
  congr 1;rw[TP J];congr 1
  .rw[← g1,B9,Av J];rfl
  .rw[Dz]
   conv=>lhs;rw[← JH k<|(L s).drop<|c+1]
   rw[show c+1+k - (c+1)=k by omega];congr 1;rw[Jx,TP J];congr 1;rw[← g2,B9,Av J];rfl
 refine⟨J,J, ?_,(L s).drop<|c+1+k+1, ?_⟩
 .rw[WZ,hrs,hcl]
 .rw[lh,hrs]
  conv=>lhs;rw[hsp]
  simp
def Wl(r:A4):3<=(Cq r).size:=by
 rw[WZ];have:=aEf r.size;omega
def aDa{log:A4}:∀(rs:List A4) (f:Nat) (out:List A4) (at_:Nat),Hv rs->(L log).drop at_=cat rs->at_<=log.size->log.size<at_+f->Ei log f out at_=(out++rs,log.size)
 | [],0,out,at_,_,_,h3,h4=>J
 | [],f+1,out,at_,_,h2,h3,h4=>by
  have:log.size<=at_:=by
   have e:=congrArg JL h2;rw[E4,Ay,Jf]at e;simp at e;omega
  unfold Ei;rw[AD J,CM];rw[show at_=log.size by omega]
 | r::rs,0,out,at_,_,_,h3,h4=>J
 | r::rs,f+1,out,at_,h1,h2,h3,h4=>by
  have hr:=h1 r Ap;rw[Hm]at h2;have hlen:log.size - at_=(Cq r).size+(cat rs).length:=by
   have e:=congrArg JL h2;rwa[E4,Ay,Ar,Ay]at e
  have hp:=Wl r;have D6:De (log.extract at_ log.size)=I (r,(Cq r).size):=by
   refine Xn (t:=cat rs) ?_ hr.1 hr.2;rw[Dz,h2];refine Ie ?_;rw[Ar,Ay];omega
  unfold Ei;rw[A8 J,D6];simp only;have:=aDa (log:=log) rs f (out++[r]) (at_+(Cq r).size) (λx hx=>h1 x<|Am _ hx) (by
   rw[← Jx,h2,QX<|by rw[Ay]]) J J
  rw[this];simp
def XL{log:A4}{rs:List A4}(h1:Hv rs)(h2:L log=cat rs):D1 log=(rs,log.size):=by
 have:=aDa (log:=log) rs (log.size+1) [] 0 h1 (by simpa using h2) (Cu _) J;exact this
def kH{log:A4}:∀(f:Nat) (out:List A4) (at_:Nat),at_<=log.size->∃rs,(Ei log f out at_).1=out++rs/\Hv rs/\ ∃t,(L log).drop at_=cat rs++t/\(Ei log f out at_).2=at_+(cat rs).length
 | 0,out,at_,_=>⟨[],by simp[Ei],(λr hr=>nomatch hr),(L log).drop at_,rfl,rfl⟩
 | f+1,out,at_,h=>by
  unfold Ei;split
  .rename_i hlt;cases D6:De (log.extract at_ log.size) with
   | none=>exact⟨[],by simp,(λr hr=>nomatch hr),(L log).drop at_,rfl,rfl⟩
   | some p=>
    obtain⟨r,n⟩:=p;obtain⟨k1,k2,k3,t,k4⟩:=avw D6;have hsm:=SX D6;rw[FZ<|As _]at hsm;simp only at hsm ⊢;obtain⟨rs,g1,g2,t',g3,g4⟩:=kH (log:=log) f (out++[r]) (at_+n) J;have e:L (log.extract at_ log.size)=(L log).drop at_:=by
     rw[Dz];exact Ie (by rw[E4,Ay];omega)
    rw[e]at k4;have ht:t=cat rs++t':=by
     rw[← g3,← Jx,k4,k3,QX<|by rw[Ay]]
    refine⟨r::rs,by rw[g1];simp,λx hx=> ?_,t',by rw[k4,ht,Hm,Bw], ?_⟩
    .rcases Bj.1 hx with rfl|hx
     .exact⟨k1,k2⟩
     .exact g2 x hx
    .rw[g4,Hm,Ar,Ay,k3];omega
  .exact⟨[],by simp,(λr hr=>nomatch hr),(L log).drop at_,rfl,rfl⟩
def ji(log:A4):Hv (D1 log).1/\(D1 log).2=(cat (D1 log).1).length/\ ∃t,L log=cat (D1 log).1++t:=by
 obtain⟨rs,g1,g2,t,g3,g4⟩:=kH (log:=log) (log.size+1) [] 0<|Cu _;have e:(D1 log).1=rs:=by
  show(Ei log (log.size+1) [] 0).1=rs;simpa using g1
 rw[e];refine⟨g2, ?_,t,by simpa using g3⟩;show(Ei log (log.size+1) [] 0).2=_;rw[g4,DF]
def mQ:∀(rs ts:List A4) (t:List UInt8),Hv rs->Hv ts->cat rs=cat ts++t->∃us,rs=ts++us
 | rs,[],t,_,_,_=>⟨rs,rfl⟩
 | [],s::ts,t,_,_,h=>by
  have e:=congrArg JL h;rw[Hm,Jf]at e;have:=Wl s;simp only[CA,Ar,Ay]at e;omega
 | r::rs,s::ts,t,h1,h2,h=>by
  rw[Hm,Hm,Bw]at h;have hr:=h1 r Ap;have hs:=h2 s Ap;have o1:=Xn (s:=B<|L (Cq r)++cat rs) (r:=r) (t:=cat rs) (L_B _) hr.1 hr.2;have o2:=Xn (s:=B<|L (Cq r)++cat rs) (r:=s) (t:=cat ts++t) (by rw[L_B,h]) hs.1 hs.2;rw[o1]at o2;simp only[Bp,CG]at o2;obtain⟨rfl,_⟩:=o2;obtain⟨us,hu⟩:=mQ rs ts t (λx hx=>h1 x<|Am _ hx) (λx hx=>h2 x<|Am _ hx)<|aBQ h;exact⟨us,by rw[hu];rfl⟩
def aBt{lg:A4}{fo:Int}:D9 lg fo=A0↔lg.size<=2400/\ ∃rs ts,Hv (rs++ts)/\L lg=cat (rs++ts)/\fo=((cat rs).length:Int):=by
 unfold D9;simp only[AE,decide_eq_true_eq];constructor
 .rintro⟨h1,h2,h3,h4⟩;have h2:=Af.1 h2;obtain⟨a1,a2,t,a3⟩:=ji lg;obtain⟨b1,b2,t',b3⟩:=ji<|lg.extract 0 fo.toNat;have ht:t=[]:=by
   have e:=congrArg JL a3;rw[Ay,Ar]at e;exact E6 J
  rw[ht,CM]at a3;have hz:(lg.extract 0 fo.toNat).size=fo.toNat:=by rw[FZ J];omega
  have ht':t'=[]:=by
   have e:=congrArg JL b3;rw[Ay,Ar,hz]at e;exact E6 J
  rw[ht',CM]at b3;have hp:cat (D1 lg).1=cat (D1<|lg.extract 0 fo.toNat).1++(L lg).drop fo.toNat:=by
   rw[← a3,← b3,Dz,JN,Ib,JH]
  obtain⟨us,hu⟩:=mQ _ _ _ a1 b1 hp;refine⟨h1,(D1<|lg.extract 0 fo.toNat).1,us,by rw[← hu];exact a1,by rw[← hu];exact a3, ?_⟩;rw[← b2];exact h4.symm
 .rintro⟨h1,rs,ts,h2,h3,rfl⟩;have hsz:lg.size=(cat rs).length+(cat ts).length:=by rw[← Ay,h3,KQ,Ar]
  have hrs:Hv rs:=λr hr=>h2 r<|Bq _ hr;have he:L (lg.extract 0 (cat rs).length)=cat rs:=by
   rw[Dz,h3,KQ,JN,Ib,P1 rfl]
  have e1:=XL h2 h3;have e2:=XL hrs he;refine⟨h1,Af.2 ⟨J,J⟩,by rw[e1], ?_⟩;rw[Bb,e2];simp only;rw[← Ay,he]
def Dj(k:AG):Prop:=∀n∈k.held,∀m∈k.inbox,¬(n.fr=m.fr/\n.nu=m.nu)
def Xb{l:List A6}{f n:Int}(h:AY l f n<0):∀x∈l,¬(x.fr=f/\x.nu=n):=by
 intro x hx hc;rcases GL l.length (λi=>A1 ((nA l i).fr=f)&&A1 ((nA l i).nu=n)) with⟨_,h2⟩|⟨i,h1,_⟩
 .obtain⟨j,hj,rfl⟩:=DG hx;have:=h2 j hj;rw[Dh<|Av hj]at this;simp[hc.1,hc.2]at this
 .unfold AY at h;omega
def XR{l:List A6}{f n:Int}(h:∀x∈l,¬(x.fr=f/\x.nu=n)):AY l f n= -1:=by
 rcases aBD l f n with h1|h1
 .exact h1
 .obtain⟨h2,_,h3,h4⟩:=GM h1;exact absurd ⟨h3,h4⟩<|h _<|Hx h2
def aDQ{l:List Mark}{f n:Int}(h:Bs l f n<0):∀x∈l,¬(x.mf=f/\x.mn=n):=by
 intro x hx hc;rcases GL l.length (λi=>A1 ((mA l i).mf=f)&&A1 ((mA l i).mn=n)) with⟨_,h2⟩|⟨i,h1,_⟩
 .obtain⟨j,hj,rfl⟩:=DG hx;have:=h2 j hj;rw[Gr<|Av hj]at this;simp[hc.1,hc.2]at this
 .unfold Bs at h;omega
def axL{l:List Mark}{j:Nat}(h:j<l.length):mA l j∈l:=by
 rw[Gr<|Av h];exact CJ h
def aCk{l:List Mark}{f n:Int}(h:∀x∈l,¬(x.mf=f/\x.mn=n)):Bs l f n= -1:=by
 rcases GL l.length (λi=>A1 ((mA l i).mf=f)&&A1 ((mA l i).mn=n)) with⟨h1,_⟩|⟨i,_,h2,h3,_⟩
 .exact h1
 .simp only[AE,decide_eq_true_eq]at h3;exact absurd h3<|h _<|axL h2
def aaW{k o:AG}{n:A6}(h:FE k n=I o)(hd:Dj k):Dj o:=by
 unfold FE at h;split at h
 .cases h
 split at h
 .cases h
 split at h
 .cases h
 rename_i h1;split at h
 .cases h
 rename_i h2;split at h
 .cases h
 split at h
 .cases h
 have a1:=Xb (l:=k.held) (f:=n.fr) (n:=n.nu) (by simpa using h1);have a2:=Xb (l:=k.inbox) (f:=n.fr) (n:=n.nu) (by simpa using h2);split at h<;>cases h
 .intro x hx m hm;rcases Mx _ hm with rfl|hm
  .exact a1 x hx
  .exact hd x hx m hm
 .intro x hx m hm;rcases Mx _ hx with rfl|hx
  .exact λhc=>a2 m hm ⟨hc.1.symm,hc.2.symm⟩
  .exact hd x hx m hm
def Sj{l:List A6}{i:Nat}{x:A6}(h:x∈Ey l i):x∈l:=by
 unfold Ey at h;rcases BM.1 h with h|h
 .exact Gx h
 .exact Kl h
def aw0{k o:AG}{w:A4}{n:Int}(h:I5 k w n=I o)(hd:Dj k):Dj o:=by
 unfold I5 at h;split at h
 .cases h;intro x hx m hm;exact hd x (FF.1 hx).1 m hm
 split at h
 .cases h;exact hd
 .cases h
def aqk{k o:AG}{w:A4}{n:A6}(h:GN k w n=I o)(hd:Dj k):Dj o:=by
 unfold GN at h;split at h
 .exact aaW h hd
 split at h
 .exact aaW h hd
 split at h
 .cases h
 rename_i hn;simp only[CB,decide_eq_true_eq,not_or]at hn;have a1:=Xb (l:=k.held) (f:=n.fr) (n:=n.nu) J;have a2:=Xb (l:=k.inbox) (f:=n.fr) (n:=n.nu) J;split at h
 .cases h;intro x hx m hm;rcases Mx _ hx with rfl|hx
  .exact λhc=>a2 m hm ⟨hc.1.symm,hc.2.symm⟩
  .exact hd x hx m hm
 split at h
 .cases h;intro x hx m hm;rcases Mx _ hm with rfl|hm
  .exact a1 x hx
  .exact hd x hx m hm
 .cases h
def aqn{k o:AG}{w:A4}{m:Mark}(h:Ew k w m=I o)(hd:Dj k):Dj o:=by
 unfold Ew at h;split at h
 .cases h;exact λx hx m hm=>hd x (Sj hx) m hm
 split at h
 .cases h;exact λx hx m hm=>hd x hx m<|Sj hm
 split at h
 .cases h;exact hd
 .cases h
def atD{k o:AG}{w r:A4}(h:Bd k w r=I o)(hd:Dj k):Dj o:=by
 unfold Bd at h;split at h
 .split at h
  .exact aw0 h hd
  .cases h
 split at h
 .split at h
  .exact aqk h hd
  .cases h
 split at h
 .split at h
  .exact aqn h hd
  .cases h
 .cases h
def IK{k o:AG}{r:A4}(hk:Aw k=A0):BO k r=I o↔G3 k r=I o/\Aw o=A0:=by
 unfold BO F8;simp only[hk,A5];constructor
 .intro h;cases hf:(G3 k r).filter Aw with
  | none=>rw[hf]at h;cases h
  | some o'=>
   rw[hf]at h;cases h;exact Ow.1 hf
 .intro h;rw[Ow.2 h];rfl
def atx{k o:AG}{r:A4}(hk:Aw k=A0)(h:BO k r=I o)(hd:Dj k):Dj o:=by
 have h1:=((IK hk).1 h).1;unfold G3 at h1;split at h1
 .cases h1
 .exact atD h1 hd
def aB8:∀ {rs:List A4} {k o:AG},Aw k=A0->Dj k->Ee k rs=I o->Dj o
 | [],k,o,_,hd,h=>by cases h;exact hd
 | r::rs,k,o,hk,hd,h=>by
  unfold Ee at h;rw[TO]at h;cases hs:BO k r with
  | none=>rw[hs]at h;cases h
  | some k'=>rw[hs]at h;exact aB8 (rs:=rs) (Sd hs) (atx hk hs hd) h
def aCp{id:Int}{rs:List A4}{o:AG}(h:CO id rs=I o):Dj o:=by
 unfold CO at h;split at h
 .exact aB8 (S7<|by assumption) (λn hn=>by cases hn) h
 .cases h
def MU(k:AG)(rs ts:List A4):Ee k (rs++ts)=(Ee k rs).bind λo=>Ee o ts:=List.foldlM_append
def SA(k:AG)(r:A4):Ee k [r]=BO k r:=by
 unfold Ee;rw[TO];cases BO k r<;>rfl
def FO(t:Int):A4:=B [116,105,109,101,32]++BW t
def KX(n:Int):A4:=B [110,101,120,116,32]++BW n
def Cl(w:A4)(a b c:Int):A4:=((((((w++B [32])++BW a)++B [32])++BW b)++B [32])++BW c)
def Mu(n:A6):A4:=B [104,101,108,100,32]++wr n
def Mk(n:A6):A4:=B [105,110,98,111,120,32]++wr n
def C4(k:AG):List A4:=
 ((((if 0<k.ti then [FO k.ti] else [])++(if 1<k.nx then [KX k.nx] else []))++k.marks.map λm=>Cl D0 m.mf m.mn m.mu)++k.held.map Mu)++k.inbox.map Mk
def IQ{k:AG}{rec:A4}{w r:List UInt8}(hw:CZ w)(e:L rec=w++32::r):G3 k rec=Bd k (B w) (B r):=by
 unfold G3;rw[e,T8 hw,Kh hw e];rfl
def jH{k:AG}{t:Int}(h0:0<=t)(h1:t<100000)(h:k.ti<t):Bd k ES (B<|B6 t)=I ⟨k.id,t,k.nx,Gp t k.held,Jl t k.marks,k.inbox⟩:=by
 unfold Bd I5;simp only[Iw h0 h1,Bo,A5,AW,h,AU]
def aqK{k:AG}{n:Int}(h0:0<=n)(h1:n<100000)(h:k.nx<n):Bd k Eg (B<|B6 n)=I ⟨k.id,k.ti,n,k.held,k.marks,k.inbox⟩:=by
 unfold Bd I5;simp[xr,Iw h0 h1,Cv,A5,AO,AW,h,AU,A7]
def aqL{k:AG}{m:Mark}{r:A4}(ht:Gm r=I m)(h:Bs k.marks m.mf m.mn<0):Bd k D0 r=I ⟨k.id,k.ti,k.nx,k.held,Ez k.marks m,k.inbox⟩:=by
 have e:A1 (0<=Bs k.marks m.mf m.mn)=A3:=by simp;omega
 unfold Bd Ew;simp[fw,gA,gi,fy,gB,s6,gj,gk,FU,Bi,Cv,A5,A7,ht,AO,AW,e,AI]
def aqM{k:AG}{n:A6}(hn:B4 n=A0)(h1:AY k.held n.fr n.nu<0)(h2:AY k.inbox n.fr n.nu<0):Bd k EH (wr n)=I ⟨k.id,k.ti,k.nx,Ek k.held n,k.marks,k.inbox⟩:=by
 have e1:A1 (0<=AY k.held n.fr n.nu)=A3:=by simp;omega
 have e2:A1 (0<=AY k.inbox n.fr n.nu)=A3:=by simp;omega
 unfold Bd GN;simp[xu,xw,yw,xv,FU,Bi,Bo,A5,A7,Pz hn,AO,e1,e2]
def apW{k:AG}{n:A6}(hn:B4 n=A0)(h1:AY k.held n.fr n.nu<0)(h2:AY k.inbox n.fr n.nu<0):Bd k EO (wr n)=I ⟨k.id,k.ti,k.nx,k.held,k.marks,Ek k.inbox n⟩:=by
 have e1:A1 (0<=AY k.held n.fr n.nu)=A3:=by simp;omega
 have e2:A1 (0<=AY k.inbox n.fr n.nu)=A3:=by simp;omega
 unfold Bd GN;simp[wJ,wL,xt,wK,wM,FU,Bi,Cv,A5,A7,Pz hn,AO,e1,e2]
def jn:CZ [116,105,109,101]:=by unfold CZ;decide
def arI:CZ [110,101,120,116]:=by unfold CZ;decide
def arJ:CZ [109,97,114,107]:=by unfold CZ;decide
def asb:CZ [104,101,108,100]:=by unfold CZ;decide
def aqy:CZ [105,110,98,111,120]:=by unfold CZ;decide
def XF(t:Int):L (FO t)=[116,105,109,101]++32::B6 t:=by unfold FO;simp only[G7,L_B,Ti];rfl
def aC6(t:Int):L (KX t)=[110,101,120,116]++32::B6 t:=by unfold KX;simp only[G7,L_B,Ti];rfl
def Sa(w:A4)(a b c:Int):L (Cl w a b c)=L w++32::(B6 a++32::(B6 b++32::B6 c)):=by
 unfold Cl;simp only[G7,L_B,Ti,Bw,Ko,EM]
def aC7(n:A6):L (Mu n)=[104,101,108,100]++32::L (wr n):=by unfold Mu;simp only[G7,L_B];rfl
def aBn(n:A6):L (Mk n)=[105,110,98,111,120]++32::L (wr n):=by unfold Mk;simp only[G7,L_B];rfl
def OO{k:AG}(h:Eb k):Aw k=A0:=by
 have a:=h.hl;have b:=h.ml;have c:=h.il;unfold Aw;simp only[AE,Af,decide_eq_true_eq,CS];exact⟨⟨h.id0,h.id1⟩,⟨h.t0,h.t1⟩,⟨h.n0,h.n1⟩,⟨J,h.h⟩,⟨J,h.m⟩,⟨J,h.i⟩,h.ho,h.mo,h.io⟩
def YL{l:List A6}{a i:Nat}(h:i<a):nA (l.take a) i=nA l i:=by
 unfold nA;simp[B9,h]
def lx{l:List Mark}{a i:Nat}(h:i<a):mA (l.take a) i=mA l i:=by
 unfold mA;simp[B9,h]
def zv{l:List A6}(h:F5 l=A0)(a:Nat):F5 (l.take a)=A0:=by
 refine CS.2 λi hi=> ?_;rw[Cw]at hi;have:=CS.1 h i J;rw[YL J,YL J];exact this
def ap9{l:List Mark}(h:Hq l=A0)(a:Nat):Hq (l.take a)=A0:=by
 refine CS.2 λi hi=> ?_;rw[Cw]at hi;have:=CS.1 h i J;rw[lx J,lx J];exact this
def aAm{l:List Mark}(h:Hq l=A0):∀(j i:Nat),i<j->j<l.length->bef (mA l i).mf (mA l i).mn (mA l j).mf (mA l j).mn=A0
 | j+1,i,hij,hj=>by
  have h1:=CS.1 h (j+1) hj;simp only[AE,CB,decide_eq_true_eq]at h1;have h2:bef (mA l j).mf (mA l j).mn (mA l<|j+1).mf (mA l<|j+1).mn=A0:=h1.2.resolve_left J;rcases HU i j with h3|h3
  .exact aC3 (aAm h j i h3 J) h2
  .rwa[show i=j by omega]
def Q8{k:AG}(hf:Eb k)(a b c:Nat)(hc:c=0\/k.marks.length<=b):Eb ⟨k.id,k.ti,k.nx,k.held.take a,k.marks.take b,k.inbox.take c⟩:=by
 have hl:=hf.hl;have ml:=hf.ml;have il:=hf.il;refine⟨hf.id0,hf.id1,hf.t0,hf.t1,hf.n0,hf.n1,by simp;omega,zv hf.h a,by simp;omega,ap9 hf.m b,by simp;omega,zv hf.i c,λi hi=> ?_,λi hi=> ?_,λi hi=> ?_⟩
 .simp only[Cw]at hi;have:=hf.ho i J;unfold IV at this ⊢;simp only[AE,decide_eq_true_eq]at this ⊢;rw[YL J];refine⟨this.1,this.2.1,this.2.2.1, ?_⟩;rw[aCk λx hx=>aDQ this.2.2.2 x<|Gx hx];omega
 .simp only[Cw]at hi;have:=hf.mo i J;unfold KV at this ⊢;rw[lx J];exact this
 .simp only[Cw]at hi;obtain hc|hc:=hc
  .omega
  .have:=hf.io i J;simp only;rw[Ie hc];unfold Je at this ⊢;rw[YL J];exact this
def lz{α:Type}{f:α->Bool}{l:List α}{n:α}(h:∀x∈l,f x=A0):ins f l n=l++[n]:=by
 unfold ins;have h1:l.takeWhile f=l:=by
  induction l with
  | nil=>rfl
  | cons x l ih=>rw[Qb,h x Ap];simp only[A5];rw[ih λy hy=>h y<|Am _ hy]
 have h2:l.dropWhile f=[]:=by
  induction l with
  | nil=>rfl
  | cons x l ih=>rw[l8,h x Ap];simp only[A5];exact ih (λy hy=>h y<|Am _ hy) (by
    have:=h1;rw[Qb,h x Ap]at this;simpa using this)
 rw[h1,h2]
def Mh{α:Type}{l:List α}{j:Nat}(h:j<l.length):l.take (j+1)=l.take j++[l[j]]:=by
 rw[JI,Av h];rfl
def vZ{k:AG}(hk:Aw k=A0)(hd:Dj k):CO k.id (C4 k)=I k:=by
 have hf:=CY hk;have hid:isN k.id=A0:=Af.2 ⟨hf.id0,hf.id1⟩;have t0:=hf.t0;have t1:=hf.t1;have n0:=hf.n0;have n1:=hf.n1;have kT:Aw ⟨k.id,k.ti,1,[],[],[]⟩=A0:=by
  refine OO ⟨hf.id0,hf.id1,t0,t1,(by decide:(1:Int)<=1),(by decide:(1:Int)<=100),by simp,rfl,by simp,rfl,by simp,rfl,λi hi=>by simp at hi,λi hi=>by simp at hi,λi hi=>by simp at hi⟩
 have kN:Aw ⟨k.id,k.ti,k.nx,[],[],[]⟩=A0:=by
  refine OO ⟨hf.id0,hf.id1,t0,t1,n0,n1,by simp,rfl,by simp,rfl,by simp,rfl,λi hi=>by simp at hi,λi hi=>by simp at hi,λi hi=>by simp at hi⟩
 have s1:Ee ⟨k.id,0,1,[],[],[]⟩ (if 0<k.ti then [FO k.ti] else [])=I ⟨k.id,k.ti,1,[],[],[]⟩:=by
  by_cases h:0<k.ti
  .rw[A8 h,SA,(IK<|S7 hid).2 ⟨?_,kT⟩];rw[IQ jn<|XF _];exact jH t0 J h
  .rw[AD h,show k.ti=0 by omega];rfl
 have s2:Ee ⟨k.id,k.ti,1,[],[],[]⟩ (if 1<k.nx then [KX k.nx] else [])=I ⟨k.id,k.ti,k.nx,[],[],[]⟩:=by
  by_cases h:1<k.nx
  .rw[A8 h,SA,(IK kT).2 ⟨?_,kN⟩];rw[IQ arI<|aC6 _];exact aqK J J h
  .rw[AD h,show k.nx=1 by omega];rfl
 have s3:∀j,j<=k.marks.length->Ee ⟨k.id,k.ti,k.nx,[],[],[]⟩ ((k.marks.take j).map λm=>Cl D0 m.mf m.mn m.mu)=I ⟨k.id,k.ti,k.nx,[],k.marks.take j,[]⟩:=by
  intro j
  induction j with
  | zero=>intro _;rfl
  | succ j ih=>
   intro hj;have hjl:j<k.marks.length:=J
   have hm:=SN hf.m hjl;rw[Gr<|Av hjl]at hm;have hr:=OW hm;have g1:=OO<|Q8 hf 0 j 0<|.inl rfl;have g2:=OO<|Q8 hf 0 (j+1) 0<|.inl rfl;have g3:Aw ⟨k.id,k.ti,k.nx,[],k.marks.take j++[k.marks[j]'hjl],[]⟩=A0:=by
    rw[← Mh hjl];simpa using g2
   have Nk:∀x∈k.marks.take j,bef x.mf x.mn k.marks[j].mf k.marks[j].mn=A0:=λx hx=>by
    obtain⟨i,hi,rfl⟩:=DG hx;rw[Cw]at hi;have:=aAm hf.m j i J hjl;rw[Gr<|Av hjl,Gr<|Av (by omega:i<k.marks.length)]at this;simpa using this
   rw[Mh hjl,Es,MU,ih J];simp only[A9,DP,JM];rw[SA,(IK<|by simpa using g1).2 ⟨?_,g3⟩];have h3:=YB (r:=B<|B6 (k.marks[j]'hjl).mf++32::(B6 (k.marks[j]'hjl).mn++32::B6 (k.marks[j]'hjl).mu)) (a:=(k.marks[j]'hjl).mf) (b:=(k.marks[j]'hjl).mn) (c:=(k.marks[j]'hjl).mu) J J J J J J<|L_B _;rw[IQ arJ<|Sa _ _ _ _,aqL h3 ?_]
   .simp only;rw[show Ez (k.marks.take j) k.marks[j]=k.marks.take j++[k.marks[j]] from lz Nk]
   .simp only;rw[aCk λx hx hc=>by
     have:=Nk x hx;rw[hc.1,hc.2,mS]at this;cases this]
    omega
 have s4:∀j,j<=k.held.length->Ee ⟨k.id,k.ti,k.nx,[],k.marks,[]⟩ ((k.held.take j).map Mu)=I ⟨k.id,k.ti,k.nx,k.held.take j,k.marks,[]⟩:=by
  intro j
  induction j with
  | zero=>intro _;rfl
  | succ j ih=>
   intro hj;have hjl:j<k.held.length:=J
   have hm:=Gj hf.h hjl;rw[Dh<|Av hjl]at hm;have g1:=OO<|Q8 hf j k.marks.length 0<|.inl rfl;have g2:=OO<|Q8 hf (j+1) k.marks.length 0<|.inl rfl;rw[Dw]at g1 g2;have g3:Aw ⟨k.id,k.ti,k.nx,k.held.take j++[k.held[j]'hjl],k.marks,[]⟩=A0:=by
    rw[← Mh hjl];simpa using g2
   have Nk:∀x∈k.held.take j,bef x.fr x.nu k.held[j].fr k.held[j].nu=A0:=λx hx=>by
    obtain⟨i,hi,rfl⟩:=DG hx;rw[Cw]at hi;have:=WK hf.h j i J hjl;rw[Dh<|Av hjl,Dh<|Av (by omega:i<k.held.length)]at this;simpa using this
   rw[Mh hjl,Es,MU,ih J];simp only[A9,DP,JM];rw[SA,(IK<|by simpa using g1).2 ⟨?_,g3⟩];rw[IQ asb<|aC7 _,B_L,aqM hm ?_ ?_]
   .simp only;rw[show Ek (k.held.take j) k.held[j]=k.held.take j++[k.held[j]] from lz Nk]
   .simp only;rw[XR λx hx hc=>by
     have:=Nk x hx;rw[hc.1,hc.2,mS]at this;cases this]
    omega
   .simp only;rw[XR λx hx=>by cases hx];omega
 have s5:∀j,j<=k.inbox.length->Ee ⟨k.id,k.ti,k.nx,k.held,k.marks,[]⟩ ((k.inbox.take j).map Mk)=I ⟨k.id,k.ti,k.nx,k.held,k.marks,k.inbox.take j⟩:=by
  intro j
  induction j with
  | zero=>intro _;rfl
  | succ j ih=>
   intro hj;have hjl:j<k.inbox.length:=J
   have hm:=Gj hf.i hjl;rw[Dh<|Av hjl]at hm;have g1:=OO<|Q8 hf k.held.length k.marks.length j<|.inr<|As _;have g2:=OO<|Q8 hf k.held.length k.marks.length (j+1)<|.inr<|As _;rw[Dw,Dw]at g1 g2;have g3:Aw ⟨k.id,k.ti,k.nx,k.held,k.marks,k.inbox.take j++[k.inbox[j]'hjl]⟩=A0:=by
    rw[← Mh hjl];simpa using g2
   have Nk:∀x∈k.inbox.take j,bef x.fr x.nu k.inbox[j].fr k.inbox[j].nu=A0:=λx hx=>by
    obtain⟨i,hi,rfl⟩:=DG hx;rw[Cw]at hi;have:=WK hf.i j i J hjl;rw[Dh<|Av hjl,Dh<|Av (by omega:i<k.inbox.length)]at this;simpa using this
   rw[Mh hjl,Es,MU,ih J];simp only[A9,DP,JM];rw[SA,(IK<|by simpa using g1).2 ⟨?_,g3⟩];rw[IQ aqy<|aBn _,B_L,apW hm ?_ ?_]
   .simp only;rw[show Ek (k.inbox.take j) k.inbox[j]=k.inbox.take j++[k.inbox[j]] from lz Nk]
   .simp only;rw[XR λx hx=>hd x hx _<|CJ hjl];omega
   .simp only;rw[XR λx hx hc=>by
     have:=Nk x hx;rw[hc.1,hc.2,mS]at this;cases this]
    omega
 have e3:=s3 k.marks.length<|As _;have e4:=s4 k.held.length<|As _;have e5:=s5 k.inbox.length<|As _;rw[Dw]at e3 e4 e5;unfold CO C4;rw[A8 hid,MU,MU,MU,MU,s1];simp only[A9,s2,e3,e4,e5]
structure Bz (lg:A4) (fo:Int) (rs ts:List A4):Prop where
 ok:Hv (rs++ts)
 sz:lg.size<=2400
 eq:L lg=cat (rs++ts)
 fo:fo=((cat rs).length:Int)
def abA{lg:A4}{fo:Int}(h:D9 lg fo=A0):∃rs ts,Bz lg fo rs ts:=by
 obtain⟨h1,rs,ts,h2,h3,h4⟩:=aBt.1 h;exact⟨rs,ts,h2,h1,h3,h4⟩
def Bz.nf{lg:A4}{fo:Int}{rs ts:List A4}(h:Bz lg fo rs ts):D9 lg fo=A0:=
 aBt.2 ⟨h.sz,rs,ts,h.ok,h.eq,h.fo⟩
def Bz.read{lg:A4}{fo:Int}{rs ts:List A4}(h:Bz lg fo rs ts):D1 lg=(rs++ts,lg.size):=XL h.ok h.eq
def aAk{rs ts:List A4}(h:Hv (rs++ts)):Hv rs:=λr hr=>h r<|Bq _ hr
def Bz.azn{lg:A4}{fo:Int}{rs ts:List A4}(h:Bz lg fo rs ts):L (lg.extract 0 fo.toNat)=cat rs:=by
 rw[Dz,h.eq,h.fo,Bb,KQ,JN,Ib,P1 rfl]
def Bz.axz{lg:A4}{fo:Int}{rs ts:List A4}(h:Bz lg fo rs ts):(D1<|lg.extract 0 fo.toNat).1=rs:=by
 rw[XL (aAk h.ok) h.azn]
def Bz.size_eq{lg:A4}{fo:Int}{rs ts:List A4}(h:Bz lg fo rs ts):lg.size=(cat rs).length+(cat ts).length:=by
 rw[← Ay,h.eq,KQ,Ar]
def Bz.state{lg:A4}{fo:Int}{rs ts:List A4}(h:Bz lg fo rs ts)(id:Int):DK id lg=CO id (rs++ts):=by
 unfold DK;rw[h.read]
def Bz.abY{lg:A4}{fo:Int}{rs ts:List A4}(h:Bz lg fo rs ts)(id:Int):DK id (lg.extract 0 fo.toNat)=CO id rs:=by
 unfold DK;rw[h.axz]
def WR(id:Int)(rs ts:List A4):CO id (rs++ts)=(CO id rs).bind λk=>Ee k ts:=by
 unfold CO;split
 .exact MU _ _ _
 .rfl
def aB5(id:Int)(rs:List A4)(r:A4):CO id (rs++[r])=(CO id rs).bind λk=>BO k r:=by
 rw[WR];congr 1;funext k;exact SA k r
def aAn{id:Int}{rs ts:List A4}(h:(CO id<|rs++ts).isSome=A0):(CO id rs).isSome=A0:=by
 rw[WR]at h;cases e:CO id rs with
 | none=>rw[e]at h;exact h
 | some k=>rfl
def Bz.add{lg r:A4}{fo:Int}{rs ts:List A4}(h:Bz lg fo rs ts)(h1:1<=r.size)(h2:r.size<=60)(h3:lg.size+(Cq r).size<=2400):Bz (lg++Cq r) fo rs (ts++[r]):=by
 refine⟨?_, ?_, ?_,h.fo⟩
 .intro x hx;rw[← Bw]at hx;rcases BM.1 hx with hx|hx
  .exact h.ok x hx
  .rw[C9.1 hx];exact⟨h1,h2⟩
 .rw[← Ay,G7,Ar,Ay,Ay];exact h3
 .rw[G7,h.eq,← Bw,KQ (rs++ts) [r]];congr 1;rw[Hm,Jf,CM]
def Bz.force{lg:A4}{fo:Int}{rs ts:List A4}(h:Bz lg fo rs ts):Bz lg (lg.size:Int) (rs++ts) []:=by
 refine⟨by simpa using h.ok,h.sz,by simpa using h.eq, ?_⟩;rw[← Ay,h.eq]
def Bz.pack{lg:A4}{rs:List A4}(h:Hv rs)(e:L lg=cat rs)(hz:lg.size<=2400):Bz lg (lg.size:Int) rs []:=by
 refine⟨by simpa using h,hz,by simpa using e, ?_⟩;rw[← Ay,e]
def aDZ{log:A4}:∀(qs:List A4) (f:Nat) (out:List A4) (at_:Nat) (t:List UInt8),Hv qs->(L log).drop at_=cat qs++t->at_<=log.size->log.size<at_+f->
  ∃f',Ei log f out at_=Ei log f' (out++qs) (at_+(cat qs).length)/\at_+(cat qs).length<=log.size
 | [],f,out,at_,t,_,_,h3,_=>⟨f,by simp[Jf],by simpa[Jf] using h3⟩
 | r::qs,0,out,at_,t,_,_,h3,h4=>J
 | r::qs,f+1,out,at_,t,h1,h2,h3,h4=>by
  have hr:=h1 r Ap;rw[Hm,Bw]at h2;have hlen:log.size - at_=(Cq r).size+(cat qs++t).length:=by
   have e:=congrArg JL h2;rwa[E4,Ay,Ar,Ay]at e
  have hp:=Wl r;have D6:De (log.extract at_ log.size)=I (r,(Cq r).size):=by
   refine Xn (t:=cat qs++t) ?_ hr.1 hr.2;rw[Dz,h2];refine Ie ?_;rw[Ar,Ay];omega
  obtain⟨f',g1,g2⟩:=aDZ (log:=log) qs f (out++[r]) (at_+(Cq r).size) t (λx hx=>h1 x<|Am _ hx) (by
   rw[← Jx,h2,QX<|by rw[Ay]]) J J
  refine⟨f', ?_, ?_⟩
  .conv=>lhs;unfold Ei
   rw[A8 J,D6];simp only;rw[g1];simp only[Hm,Ar,Ay,Bw,Ko,EM,D3]
  .simp only[Hm,Ar,Ay];omega
def arc{log:A4}{qs:List A4}{t:List UInt8}(h:Hv qs)(e:L log=cat qs++t):∃us,(D1 log).1=qs++us:=by
 obtain⟨f',g1,g2⟩:=aDZ (log:=log) qs (log.size+1) [] 0 t h (by simpa using e) (Cu _) J;obtain⟨us,k1,_⟩:=kH (log:=log) f' ([]++qs) (0+(cat qs).length) g2;refine⟨us, ?_⟩;show(Ei log (log.size+1) [] 0).1=_;rw[g1,k1];rfl
def Bz.UK{lg:A4}{fo:Int}{rs ts:List A4}(h:Bz lg fo rs ts)(n:Nat)(hn:(cat rs).length<=n):
  ∃us vs,ts=us++vs/\Bz ((lg.extract 0 n).extract 0 (D1<|lg.extract 0 n).2) ((D1<|lg.extract 0 n).2:Int) (rs++us) []:=by
 obtain⟨a1,a2,t,a3⟩:=ji<|lg.extract 0 n;have e0:L (lg.extract 0 n)=(cat<|rs++ts).take n:=by rw[Dz,h.eq,JN,Ib]
 have e:cat (rs++ts)=cat (D1<|lg.extract 0 n).1++(t++(cat<|rs++ts).drop n):=by
  rw[← Bw,← a3,e0,JH]
 obtain⟨vs,hv⟩:=mQ _ _ _ h.ok a1 e;obtain⟨us,hu⟩:=arc (log:=lg.extract 0 n) (qs:=rs) (t:=(cat ts).take<|n - (cat rs).length) (aAk h.ok) (by
  rw[e0,KQ,List.take_append,Ie hn])
 rw[hu]at hv a1 a2 a3;rw[Bw]at hv;refine⟨us,vs,aBQ hv,by simpa using a1, ?_, ?_,by rw[a2]⟩
 .have:=h.sz;rw[← Ay,Dz,Dz];simp only[Cw,E4,Ay];omega
 .rw[Dz,a3,a2,JN,Ib,P1 rfl,CM]
def LW{x:Int}(h0:0<=x)(k:Nat)(hk:1<=k)(h:x<(10 ^ k:Nat)):(B6 x).length<=k:=by
 obtain⟨u,rfl⟩:=Gy h0;rw[Ix];exact Le k u hk<|by exact_mod_cast h
def Qk{n:A6}(h:B4 n=A0):(wr n).size<=35:=by
 obtain⟨f0,f1,t0,t1,n0,n1,u0,u1,s0,s1⟩:=Ho h;have a:=LW f0 1 J J;have b:=LW (show 0<=n.nu by omega) 2 J J;have c:=LW t0 1 J J;have d:=LW (show 0<=n.un by omega) 3 J J;rw[← Ay,R6];unfold wrL;simp only[Ar,Bt,Ay];omega
def atf{r:A4}{m:Mark}(h:Gm r=I m):r.size<=17:=by
 unfold Gm at h;have hj:=iq ((L r).count 32)<|L r;have hn:∀ {p:List UInt8},(Aq<|B p).2=A0->p.length<=5:=fun {p} hp=>by
  rcases SE (B p) with h1|⟨n,_,h2,_⟩
  .rw[h1]at hp;cases hp
  .exact h2
 split at h
 .rename_i p q t hp;rw[hp]at hj;split at h
  .rename_i hc;simp only[AE]at hc;have h1:=hn hc.1;have h2:=hn hc.2.1;have h3:=hn hc.2.2.1;have hj2:p++32::(q++32::t)=L r:=hj;rw[← Ay,← hj2];simp only[Ar,Bt];omega
  .cases h
 .cases h
def atB{k o:AG}{w r:A4}(h:Bd k w r=I o):w.size<=5/\r.size<=35:=by
 unfold Bd at h;split at h
 .rename_i hw;simp only[CB,decide_eq_true_eq]at hw;split at h
  .rename_i hr;refine⟨by obtain rfl|rfl:=hw<;>decide, ?_⟩;rcases SE r with h1|⟨n,_,h2,_⟩
   .rw[h1]at hr;cases hr
   .omega
  .cases h
 split at h
 .rename_i hw;simp only[CB,decide_eq_true_eq]at hw;cases hn:DA r with
  | none=>rw[hn]at h;cases h
  | some n=>
   obtain⟨h1,h2⟩:=Jc hn;refine⟨by obtain rfl|rfl|rfl|rfl:=hw<;>decide, ?_⟩;rw[← h2];exact Qk h1
 split at h
 .rename_i hw;simp only[CB,decide_eq_true_eq]at hw;cases hn:Gm r with
  | none=>rw[hn]at h;cases h
  | some n=>
   refine⟨by obtain rfl|rfl|rfl:=hw<;>decide, ?_⟩;have:=atf hn;omega
 .cases h
def kZ{k o:AG}{r:A4}(hk:Aw k=A0)(h:BO k r=I o):1<=r.size/\r.size<=60:=by
 have h:=((IK hk).1 h).1;rcases LX (L r) with hs|⟨w,t,hs,e⟩
 .unfold G3 at h;rw[T7 hs]at h;cases h
 .rw[IQ hs e]at h;have:=atB h;have hw:(B w).size=w.length:=rfl;have ht:(B t).size=t.length:=rfl;rw[← Ay,e];simp only[Ar,Bt];omega
def Tg{rs:List A4}{c:Nat}(h:∀r∈rs,(Cq r).size<=c):(cat rs).length<=rs.length * c:=by
 induction rs with
 | nil=>simp[Jf]
 | cons r rs ih=>
  have:=ih λx hx=>h x<|Am _ hx;have:=h r Ap;rw[Hm,Ar,Ay,Bt,Nat.succ_mul];omega
def Mi{r:A4}(h:r.size<=60):(Cq r).size<=r.size+4:=by
 rw[WZ];have:=aEe h;omega
def WI{k:AG}(hk:Aw k=A0):Hv (C4 k)/\(cat<|C4 k).length<=800:=by
 have hf:=CY hk;have t1:=hf.t1;have n1:=hf.n1;have hl:=hf.hl;have ml:=hf.ml;have il:=hf.il;have sT:∀r∈(if 0<k.ti then [FO k.ti] else []),1<=r.size/\r.size<=8:=by
  intro r hr;split at hr
  .rw[C9.1 hr,← Ay,XF];have:=LW hf.t0 3 J J;simp only[Ar,Bt,CA];omega
  .cases hr
 have sN:∀r∈(if 1<k.nx then [KX k.nx] else []),1<=r.size/\r.size<=8:=by
  intro r hr;split at hr
  .rw[C9.1 hr,← Ay,aC6];have:=LW (show 0<=k.nx by have:=hf.n0;omega) 3 J J;simp only[Ar,Bt,CA];omega
  .cases hr
 have sM:∀r∈k.marks.map (λm=>Cl D0 m.mf m.mn m.mu),1<=r.size/\r.size<=13:=by
  intro r hr;obtain⟨m,hm,rfl⟩:=DE.1 hr;obtain⟨i,hi,rfl⟩:=DG hm;have:=OW<|SN hf.m hi;rw[Gr<|Av hi]at this;have a:=LW this.1 1 J J;have b:=LW (show 0<=k.marks[i].mn by omega) 2 J J;have c:=LW (show 0<=k.marks[i].mu by omega) 3 J J;rw[← Ay,Sa];simp only[Ar,Bt,L_B,CA];omega
 have sH:∀r∈k.held.map Mu,1<=r.size/\r.size<=40:=by
  intro r hr;obtain⟨m,hm,rfl⟩:=DE.1 hr;obtain⟨i,hi,rfl⟩:=DG hm;have:=Gj hf.h hi;rw[Dh<|Av hi]at this;have:=Qk this;rw[← Ay,aC7];simp only[Ar,Bt,Ay,CA];omega
 have sI:∀r∈k.inbox.map Mk,1<=r.size/\r.size<=41:=by
  intro r hr;obtain⟨m,hm,rfl⟩:=DE.1 hr;obtain⟨i,hi,rfl⟩:=DG hm;have:=Gj hf.i hi;rw[Dh<|Av hi]at this;have:=Qk this;rw[← Ay,aBn];simp only[Ar,Bt,Ay,CA];omega
 refine⟨?_, ?_⟩
 .intro r hr;unfold C4 at hr;simp only[BM]at hr;obtain(((hr|hr)|hr)|hr)|hr:=hr
  .have:=sT r hr;omega
  .have:=sN r hr;omega
  .have:=sM r hr;omega
  .have:=sH r hr;omega
  .have:=sI r hr;omega
 .unfold C4;simp only[KQ,Ar];have a:=Tg (c:=12) λr hr=>by have:=sT r hr;have:=Mi (r:=r) J;omega
  have b:=Tg (c:=12) λr hr=>by have:=sN r hr;have:=Mi (r:=r) J;omega
  have c:=Tg (c:=17) λr hr=>by have:=sM r hr;have:=Mi (r:=r) J;omega
  have d:=Tg (c:=44) λr hr=>by have:=sH r hr;have:=Mi (r:=r) J;omega
  have e:=Tg (c:=45) λr hr=>by have:=sI r hr;have:=Mi (r:=r) J;omega
  rw[E5]at c d e;have a2:(if 0<k.ti then [FO k.ti] else []).length<=1:=by split<;>simp
  have b2:(if 1<k.nx then [KX k.nx] else []).length<=1:=by split<;>simp
  omega
def Cy(rs:List A4):A4:=B<|cat rs
def QI{k:AG}(hk:Aw k=A0):Bz (Cy<|C4 k) ((Cy<|C4 k).size:Int) (C4 k) []:=by
 have:=WI hk;refine Bz.pack this.1 (by unfold Cy;rw[L_B]) ?_;show(cat<|C4 k).length<=2400;omega
def Cs(k:AG)(lg:A4)(fo:Int)(r:A4):A4×Int:=
 if lg.size+(Cq r).size<=2400 then(lg++Cq r,fo) else(Cy (C4 k)++Cq r,((Cy<|C4 k).size:Int))
def aEp{k o:AG}{id:Int}{lg r:A4}{fo:Int}{rs ts:List A4}(h:Bz lg fo rs ts)(hs:CO id (rs++ts)=I k)(hr:BO k r=I o):
  ∃rs' ts',Bz (Cs k lg fo r).1 (Cs k lg fo r).2 rs' ts'/\CO id (rs'++ts')=I o:=by
 have hk:=SJ hs;have hz:=kZ hk hr;unfold Cs;split
 .rename_i hc;refine⟨rs,ts++[r],h.add hz.1 hz.2 hc, ?_⟩;rw[← Bw,aB5,hs];exact hr
 .have hp:=QI hk;have hsz:=WI hk;have hl:=Mi hz.2;refine⟨C4 k,[]++[r],hp.add hz.1 hz.2 ?_, ?_⟩
  .show(cat<|C4 k).length+_<=2400;omega
  .rw[EM,aB5];have:=vZ hk<|aCp hs;rw[jd hs]at this;rw[this];exact hr
structure D7 (k:AA) (st:AG):Prop where
 ok:Ah k=A0
 st:DK k.id k.log=I st
def CI{k:AA}(h:Ah k=A0):D7 k (stT k):=⟨h,(EC h).st⟩
def D7.kok{k:AA}{st:AG}(h:D7 k st):Aw st=A0:=SJ h.st
def D7.id{k:AA}{st:AG}(h:D7 k st):st.id=k.id:=jd h.st
def D7.stT{k:AA}{st:AG}(h:D7 k st):stT k=st:=by
 unfold Go.VS.stT;rw[h.st];rfl
def WL{k:AA}{rs ts:List A4}(id:isN k.id=A0)(l:Bz k.log k.fo rs ts)(hl:k.AN.length<=3)(up:k.up=A0\/k.AN.length=0)(st:(CO k.id<|rs++ts).isSome=A0)(hv:∀i,i<k.AN.length->Fq k.AN i=A0):Ah k=A0:=by
 unfold Ah;simp only[AE,CB,decide_eq_true_eq,CS];refine⟨id,l.nf,J,up,⟨?_, ?_⟩,hv⟩
 .rw[l.state];exact st
 .rw[l.abY];exact aAn st
def D7.lg{k:AA}{st:AG}(h:D7 k st):∃rs ts,Bz k.log k.fo rs ts/\CO k.id (rs++ts)=I st:=by
 obtain⟨rs,ts,hl⟩:=abA (EC h.ok).sh;exact⟨rs,ts,hl,by rw[← hl.state];exact h.st⟩
def D7.nh{k:AA}{st o:AG}{lg:A4}{fo:Int}{rs ts:List A4}(h:D7 k st)(l:Bz lg fo rs ts)(e:CO k.id (rs++ts)=I o):D7 ⟨k.id,k.up,lg,fo,k.AN⟩ o:=by
 have hf:=EC h.ok;refine⟨WL (k:=⟨k.id,k.up,lg,fo,k.AN⟩) hf.id l hf.hl hf.up ?_ hf.hv, ?_⟩
 .simp only[e];rfl
 .simp only[l.state];exact e
def wrM(k:AA)(r:A4):AA:=⟨k.id,k.up,(Cs (stT k) k.log k.fo r).1,(Cs (stT k) k.log k.fo r).2,k.AN⟩
def TI{k:AA}{st o:AG}{r:A4}(h:D7 k st)(hr:BO st r=I o):D7 (wrM k r) o:=by
 obtain⟨rs,ts,hl,hs⟩:=h.lg;obtain⟨rs',ts',h1,h2⟩:=aEp hl hs hr;have:=h.nh h1 h2;unfold wrM;rw[h.stT];exact this
def foM(k:AA):AA:=⟨k.id,k.up,k.log,(k.log.size:Int),k.AN⟩
def QQ{k:AA}{st:AG}(h:D7 k st):D7 (foM k) st:=by
 obtain⟨rs,ts,hl,hs⟩:=h.lg;exact h.nh hl.force<|by simpa using hs
def pkM(k:AA):AA:=⟨k.id,k.up,Cy<|C4<|stT k,((Cy<|C4<|stT k).size:Int),k.AN⟩
def mb{k:AA}{st:AG}(h:D7 k st):D7 (pkM k) st:=by
 have:=h.nh (QI h.kok) (o:=st) (by
  have:=vZ h.kok<|aCp h.st;rw[h.id]at this;simpa using this)
 unfold pkM;rw[h.stT];exact this
def faM(k:AA)(keep:Int):AA:=
 let n:=(k.fo+max 0 (min keep<|(k.log.size:Int) - k.fo)).toNat
 ⟨k.id,A3,(k.log.extract 0 n).extract 0 (D1<|k.log.extract 0 n).2,((D1<|k.log.extract 0 n).2:Int),[]⟩
def mW{k:AA}(h:Ah k=A0)(keep:Int):Ah (faM k keep)=A0:=by
 have hf:=EC h;obtain⟨rs,ts,hl,hs⟩:=(CI h).lg;have hfo:=hl.fo;obtain⟨us,vs,e,l⟩:=hl.UK (k.fo+max 0 (min keep<|(k.log.size:Int) - k.fo)).toNat J;refine WL (k:=faM k keep) hf.id l (by show 0<=3;omega) (.inr rfl) ?_ (λi hi=>by cases hi);show(CO k.id<|(rs++us)++[]).isSome=A0;rw[CM];refine aAn (ts:=vs) ?_;rw[Bw,← e,hs];rfl
def aqh{k:AA}{st:AG}(h:D7 k st)(hf:k.fo=(k.log.size:Int))(keep:Int):D7 (faM k keep) st/\(faM k keep).log=k.log/\(faM k keep).fo=k.fo:=by
 obtain⟨rs,ts,hl,hs⟩:=h.lg;have e:(k.fo+max 0 (min keep<|(k.log.size:Int) - k.fo)).toNat=k.log.size:=J
 have e2:k.log.extract 0 k.log.size=k.log:=by
  apply Fl;rw[Dz,JN,Ib];exact Ie (by rw[Ay];omega)
 have hk:faM k keep=⟨k.id,A3,k.log,(k.log.size:Int),[]⟩:=by
  unfold faM;simp only[e,e2,hl.read]
 have ok:=mW h.ok keep;rw[hk]at ok ⊢;exact⟨⟨ok,h.st⟩,rfl,hf.symm⟩
def riM(k:AA):AA:=⟨k.id,A0,k.log,k.fo,k.AN⟩
def ax2{k:AA}{st:AG}(h:D7 k st):D7 (riM k) st:=by
 have hf:=EC h.ok;obtain⟨rs,ts,hl,hs⟩:=h.lg;refine⟨WL (k:=riM k) hf.id hl hf.hl (.inl rfl) ?_ hf.hv,h.st⟩;show(CO k.id<|rs++ts).isSome=A0;rw[hs];rfl
def Bx(a b:List UInt8):List UInt8:=List.zipWith (· ^^^ ·) a b
def Q7{a b:List UInt8}(h:a.length=b.length):(Bx a b).length=a.length:=by
 unfold Bx;rw[l9];omega
def X2(a b:List UInt8):Bx a b=Bx b a:=by
 unfold Bx
 induction a generalizing b with
 | nil=>cases b<;>rfl
 | cons x a ih=>
  cases b with
  | nil=>rfl
  | cons y b=>rw[Ov,Ov,ih,UInt8.xor_comm]
def WN(a b c:List UInt8):Bx (Bx a b) c=Bx a (Bx b c):=by
 unfold Bx
 induction a generalizing b c with
 | nil=>cases b<;>cases c<;>rfl
 | cons x a ih=>
  cases b with
  | nil=>cases c<;>rfl
  | cons y b=>
   cases c with
   | nil=>rfl
   | cons z c=>simp only[Ov,ih,UInt8.xor_assoc]
def ark{a b:List UInt8}(h:a.length=b.length):Bx (Bx a b) b=a:=by
 unfold Bx
 induction a generalizing b with
 | nil=>rfl
 | cons x a ih=>
  cases b with
  | nil=>cases h
  | cons y b=>rw[Ov,Ov,ih<|by simpa using h,UInt8.xor_assoc,UInt8.xor_self,UInt8.xor_zero]
def nul(n:Nat):List UInt8:=BT n 0
def XU{a:List UInt8}{n:Nat}(h:a.length=n):Bx (nul n) a=a:=by
 unfold Bx nul
 induction a generalizing n with
 | nil=>subst h;rfl
 | cons x a ih=>
  subst h;rw[Bt,aBg,Ov,ih rfl,UInt8.zero_xor]
def Dm(n:Nat)(bl:Nat->List UInt8):List Nat->List UInt8
 | []=>nul n
 | k::ks=>Bx (bl k) (Dm n bl ks)
def Sk{n:Nat}{bl:Nat->List UInt8}:∀ {ks:List Nat},(∀k∈ks,(bl k).length=n)->(Dm n bl ks).length=n
 | [],_=>by simp[Dm,nul]
 | k::ks,h=>by
  have a:=h k Ap;have b:=Sk λx hx=>h x<|Am k hx;rw[Dm,Q7 J,a]
def kj{n:Nat}{bl:Nat->List UInt8}:∀ {ks:List Nat} {y:List UInt8},y.length=n->ks.foldl (λx k=>Bx x<|bl k) y=Bx y (Dm n bl ks)
 | [],y,h=>by
  rw[Dm,X2,XU h];rfl
 | k::ks,y,h=>by
  rw[EL,Dm,← WN];by_cases hk:(Bx y<|bl k).length=n
  .exact kj hk
  ·
   have key:∀(ks:List Nat) (y z:List UInt8),y.length<=n->ks.foldl (λx k=>Bx x<|bl k) y=Bx y (Dm n bl ks):=by
    intro ks
    induction ks with
    | nil=>
     intro y z hy;rw[M4,Dm,X2];unfold Bx nul;clear hk h z
     induction y generalizing n with
     | nil=>simp
     | cons x y ih=>
      cases n with
      | zero=>simp at hy
      | succ n=>rw[aBg,Ov,UInt8.zero_xor,← ih<|by simpa using hy]
    | cons k ks ih=>
     intro y z hy;rw[EL,Dm,← WN];refine ih _ z ?_;unfold Bx;rw[l9];omega
   refine key ks _ [] ?_;unfold Bx;rw[l9];omega
def asy{n:Nat}{bl:Nat->List UInt8}{p:Nat->Bool}{ks:List Nat}{u:Nat}(hb:∀k∈ks,(bl k).length=n)(hf:(ks.filter λk=> !p k)=[u]):
  ks.foldl (λx k=>if p k then Bx x (bl k) else x) (Dm n bl ks)=bl u:=by
 have h1:∀(ks:List Nat) (y:List UInt8),ks.foldl (λx k=>if p k then Bx x (bl k) else x) y=(ks.filter p).foldl (λx k=>Bx x<|bl k) y:=by
  intro ks
  induction ks with
  | nil=>intro y;rfl
  | cons k ks ih=>
   intro y;rw[EL,Kq];split<;>simp[ih]
 have h2:∀(ks:List Nat),(∀k∈ks,(bl k).length=n)->Dm n bl ks=Bx (Dm n bl<|ks.filter λk=> !p k) (Dm n bl<|ks.filter p):=by
  intro ks
  induction ks with
  | nil=>intro _;simp[Dm,XU (n:=n) (a:=nul n) (by simp[nul])]
  | cons k ks ih=>
   intro hb;have:=ih λx hx=>hb x<|Am _ hx;rw[Dm,this,Kq,Kq];cases p k
   .simp only[AI,A5,A7,Dm,WN]
   .simp only[AB,A5,A7,Dm];rw[← WN,X2<|bl k,WN]
 have hlen:(Dm n bl<|ks.filter p).length=n:=Sk λk hk=>hb k (FF.1 hk).1;have hu:(bl u).length=n:=hb u (FF.1 (hf▸N9 u:u∈ks.filter λk=> !p k)).1;rw[h1,kj<|Sk hb,h2 ks hb,hf];rw[ark (by rw[hlen];exact Sk λk hk=>by rw[C9.1 hk];exact hu)];rw[Dm,Dm,X2,XU hu]
def rnd(x:Int):Int:=if inB x 0 65535 then BG (25173 * x+13849) 65536 else 0
def Sw(x:Int):0<=rnd x/\rnd x<=65535:=by
 unfold rnd;split
 .rename_i h;have:=Af.1 h;rw[Kr J];omega
 .omega
def s9(x:Int):Ph (x,())=I ((rnd x,()),()):=by
 unfold Ph rnd;simp only[ED,A9];rcases tf (inB x 0 65535) with e|e
 .have:=Af.1 e;simp only[e,AB,A7,A5];rw[AZ (n:=25173 * x) J J,AZ J J]
 .simp only[e,AI,A7,A5]
def ru(x:Int):Pe (x,())=I ((rnd x,()),()):=by
 unfold Pe rnd;simp only[Hl,A9];rcases tf (inB x 0 65535) with e|e
 .have:=Af.1 e;simp only[e,AB,A7,A5];rw[AZ (n:=x * 25173) J J,AZ J J,Qe]
 .simp only[e,AI,A7,A5]
def Ds(b n:Int):Bool:=inB b 1 6&&inB n 0 999
def aAD(b n:Int):W6 (b,n,())=I ((Ds b n,()),()):=by
 unfold W6 Ds;simp only[ED,A9,DY,DO];cases inB b 1 6<;>rfl
def WX(b n:Int):Me (b,n,())=I ((Ds b n,()),()):=by
 unfold Me Ds;simp only[Hl,A9,DY,DO];cases inB b 1 6<;>rfl
def wgt(b d:Int):Int:=if d=1 then Ax 60 b+10 else Ax 60 (d * (d - 1))
def ajr{b d:Int}(hb:inB b 1 6=A0)(hd:inB d 1 6=A0):dV (b,d,())=I ((wgt b d,()),()):=by
 have h1:=Af.1 hb;have h2:=Af.1 hd;have h3:b=1\/b=2\/b=3\/b=4\/b=5\/b=6:=J
 have h4:d=1\/d=2\/d=3\/d=4\/d=5\/d=6:=J
 obtain rfl|rfl|rfl|rfl|rfl|rfl:=h3<;>obtain rfl|rfl|rfl|rfl|rfl|rfl:=h4<;>rfl
def atG(b n:Int)(hb:inB b 1 6=A0):aS (b,n,0,1,())=I (.inr (b,n,70,())):=by
 have h1:=Af.1 hb;have h3:b=1\/b=2\/b=3\/b=4\/b=5\/b=6:=J
 unfold aS;obtain rfl|rfl|rfl|rfl|rfl|rfl:=h3
 .exact B0 rfl (BP rfl)
 .exact B0 rfl (B0 rfl (BP rfl))
 .exact B0 rfl (B0 rfl (B0 rfl (BP rfl)))
 .exact B0 rfl (B0 rfl (B0 rfl (B0 rfl (BP rfl))))
 .exact B0 rfl (B0 rfl (B0 rfl (B0 rfl (B0 rfl (BP rfl)))))
 .exact B0 rfl (B0 rfl (B0 rfl (B0 rfl (B0 rfl (B0 rfl (BP rfl))))))
def wts(b:Int):List Int:=if b=1 then [70] else if b=2 then [40,30] else if b=3 then [30,30,10] else if b=4 then [25,30,10,5] else if b=5 then [22,30,10,5,3] else [20,30,10,5,3,2]
def atz(b n:Int)(hb:inB b 1 6=A0):bB (b,n,[0,w64<|w64 (Ax 60 b)+10],rd (dfl .int) ([0,w64<|w64 (Ax 60 b)+10]:List Int) 1,2,())=I (.inr (b,n,0::wts b,70,())):=by
 have h1:=Af.1 hb;have h3:b=1\/b=2\/b=3\/b=4\/b=5\/b=6:=J
 unfold bB;obtain rfl|rfl|rfl|rfl|rfl|rfl:=h3
 .exact BP rfl
 .exact B0 rfl (BP rfl)
 .exact B0 rfl (B0 rfl (BP rfl))
 .exact B0 rfl (B0 rfl (B0 rfl (BP rfl)))
 .exact B0 rfl (B0 rfl (B0 rfl (B0 rfl (BP rfl))))
 .exact B0 rfl (B0 rfl (B0 rfl (B0 rfl (B0 rfl (BP rfl)))))
def F6{σ ρ:Type}{b:σ->Option (σ ⊕ ρ)}{x x':σ}{y z:ρ}{c:Bool}(h:b x=if c then I (.inr y) else I (.inl x'))(hz:AR b x'=I z):AR b x=I (if c then y else z):=by
 cases c
 .exact B0 h hz
 .exact BP h
def L3(b r:Int):List Int->Int->Int->(Int×A2) ⊕ (Int×A2)
 | [],_,_=> .inr (b,())
 | w::ws,acc,d=>if A1 (r<acc+w) then .inl (d,()) else L3 b r ws (acc+w) (d+1)
def au0(b r:Int)(hb:inB b 1 6=A0):az (b,0::wts b,r,0,1,())=I (L3 b r (wts b) 0 1):=by
 have h1:=Af.1 hb;have h3:b=1\/b=2\/b=3\/b=4\/b=5\/b=6:=J
 unfold az;obtain rfl|rfl|rfl|rfl|rfl|rfl:=h3
 .exact F6 rfl (BP rfl)
 .exact F6 rfl (F6 rfl (BP rfl))
 .exact F6 rfl (F6 rfl (F6 rfl (BP rfl)))
 .exact F6 rfl (F6 rfl (F6 rfl (F6 rfl (BP rfl))))
 .exact F6 rfl (F6 rfl (F6 rfl (F6 rfl (F6 rfl (BP rfl)))))
 .exact F6 rfl (F6 rfl (F6 rfl (F6 rfl (F6 rfl (F6 rfl (BP rfl))))))
def aa7{b d:Int}(hb:inB b 1 6=A0)(hd:inB d 1 6=A0):0<=wgt b d/\wgt b d<=70:=by
 have h1:=Af.1 hb;have h2:=Af.1 hd;have h3:b=1\/b=2\/b=3\/b=4\/b=5\/b=6:=J
 have h4:d=1\/d=2\/d=3\/d=4\/d=5\/d=6:=J
 obtain rfl|rfl|rfl|rfl|rfl|rfl:=h3<;>obtain rfl|rfl|rfl|rfl|rfl|rfl:=h4<;>decide
def alj{b x d:Int}(hb:inB b 1 6=A0)(hd:inB d 1 6=A0)(hlt:d<b)(h0: -1000<=x)(h1:x<=1000):
  Uk (b,x,d,())=if A1 (x - wgt b d<0) then I (.inr<|.inl (d,())) else I (.inl (b,x - wgt b d,d+1,())):=by
 have hw:=aa7 hb hd;have h2:=Af.1 hd;unfold Uk;simp only[Aa hlt,A5,ajr hb hd,A9];rw[AZ (n:=x - wgt b d) J J,AZ (n:=d+1) J J]
def MG:(Int×A2) ⊕ (Int×A2)->Int
 | .inl y=>y.1
 | .inr y=>y.1
def Za(b x:Int):Nat->Int->(Int×A2) ⊕ (Int×A2)
 | 0,_=> .inr (b,())
 | n+1,d=>if A1 (x - wgt b d<0) then .inl (d,()) else Za b (x - wgt b d) n (d+1)
def aCr{b:Int}(hb:inB b 1 6=A0):∀(n:Nat) (x d:Int),1<=d->d+n=b-> -70 * d<=x->x<=100->aR (b,x,d,())=I (Za b x n d)
 | 0,x,d,_,h,_,_=>by
  unfold aR;refine BP ?_;unfold Uk;simp only[show A1 (d<b)=A3 from BR J,A7];rfl
 | n+1,x,d,h1,h,h2,h3=>by
  have hb':=Af.1 hb;have hd:inB d 1 6=A0:=Af.2 ⟨h1,J⟩;have hw:=aa7 hb hd;exact F6 (alj hb hd J J J)<|aCr hb n (x - wgt b d) (d+1) J J J J
def awM:∀b:Fin 6,∀r:Fin 70,MG (Za ((b.1+1:Nat):Int) (r.1:Int) b.1 1)=MG (L3 ((b.1+1:Nat):Int) (r.1:Int) (wts ((b.1+1:Nat):Int)) 0 1):=by decide+kernel
def av4{b r:Int}(hb:inB b 1 6=A0)(h0:0<=r)(h1:r<70):MG (Za b r (b - 1).toNat 1)=MG (L3 b r (wts b) 0 1):=by
 have h2:=Af.1 hb;have:=awM ⟨(b - 1).toNat,J⟩ ⟨r.toNat,J⟩;rw[show(((b - 1).toNat+1:Nat):Int)=b by omega,show((r.toNat:Nat):Int)=r by omega]at this;exact this
def Fs(b n:Int):Int:=if Ds b n then(if A1 (n<b) then 1 else MG (L3 b (BG (Ax (rnd<|rnd<|31 * n+b) 16) 70) (wts b) 0 1)) else 0
def aaE(s:(Int×A2) ⊕ (Int×A2)):AM (I s) (λy=>I (y,())) (λy=>I (y,()))=I ((MG s,()),()):=by
 cases s<;>rfl
def aiX(b n:Int):ca (b,n,())=I ((Fs b n,()),()):=by
 unfold ca Fs;rw[aAD];simp only[A9];rcases tf (Ds b n) with e|e
 .have e2:=e;unfold Ds at e2;rw[AE]at e2;have h1:=Af.1 e2.1;have h2:=Af.1 e2.2;simp only[e,AB,A7,A5];rcases tf (A1<|n<b) with e3|e3
  .simp only[e3,A5]
  .have hr:=Sw<|rnd<|31 * n+b;have hz:Ax (rnd<|rnd<|31 * n+b) 16=rnd (rnd<|31 * n+b) / 16:=Fv hr.1;simp only[e3,A7,show A1 (b=0)=A3 from BR J,AI,A5,atz b n e2.1];rw[A8<|by rfl];simp only[AM,s9,A9];rw[AZ (n:=31 * n) J J,AZ (n:=31 * n+b) J J,AZ (n:=Ax _ 16) J J];rw[au0 b _ e2.1];exact aaE _
 .simp only[e,AI,A5,A7]
def ait(b n:Int):cQ (b,n,())=I ((Fs b n,()),()):=by
 unfold cQ Fs;rw[WX];simp only[A9];rcases tf (Ds b n) with e|e
 .have e2:=e;unfold Ds at e2;rw[AE]at e2;have h1:=Af.1 e2.1;have h2:=Af.1 e2.2;simp only[e,AB,A7,A5];rcases tf (A1<|n<b) with e3|e3
  .simp only[e3,A5]
  .have hr:=Sw<|rnd<|31 * n+b;have hz:Ax (rnd<|rnd<|31 * n+b) 16=rnd (rnd<|31 * n+b) / 16:=Fv hr.1;have hm:BG (Ax (rnd<|rnd<|31 * n+b) 16) 70=(rnd (rnd<|31 * n+b) / 16) % 70:=by rw[hz];exact Kr J
   simp only[e3,A7,atG b n e2.1];simp only[AM,ru,A9];rw[AZ (n:=n * 31) J J,AZ (n:=n * 31+b) J J,Qe n 31,AZ (n:=Ax _ 16) J J];rw[aCr e2.1 (b - 1).toNat _ 1 J J J J,A8<|by rfl];rw[← av4 e2.1 J J];exact aaE _
 .simp only[e,AI,A5,A7]
def ahi{l:List Int}(hl:l.length<=1048576):qj (l,())=I ((l,()),()):=Lf hl
def afx{l:List Int}(hl:l.length<=1048576):bL (l,())=I ((l,()),()):=Lf hl
def Ej(b:Nat)(f:Nat->Bool):Nat->Nat->Nat
 | 0,a=>a
 | k+1,a=>if f a then Ej b f k ((a+1) % b) else a
def Rep(u:List Bool)(f:Nat->Bool):Prop:=∀i,u.getD i A3=f i
def rdB(u:List Bool)(i:Nat): @rd Bool (dfl .bool) u (i:Int)=u.getD i A3:=rfl
def Sv{b:Nat}{f:Nat->Bool}:∀(k a:Nat),a<b->Ej b f k a<b
 | 0,_,h=>h
 | k+1,a,h=>by
  unfold Ej;split
  .exact Sv k _ (P9 _ J)
  .exact h
def kS{a b k:Nat}:((a+1) % b+k) % b=(a+(k+1)) % b:=by
 rw[Nat.mod_add_mod,D3,NA 1 k]
def jf{b:Nat}{f:Nat->Bool}:∀(k a m:Nat),a<b->f ((a+k) % b)=A3->k<=m->Ej b f m a=Ej b f k a
 | 0,a,m,h,e,_=>by
  rw[HP,Oz h]at e;cases m with
  | zero=>rfl
  | succ m=>
   simp only[Ej,e,A7]
 | k+1,a,m,h,e,hm=>by
  cases m with
  | zero=>omega
  | succ m=>
   rw[Ej,Ej];rw[jf k ((a+1) % b) m (P9 _ J) (by rw[kS];exact e) J]
def abM{a b j:Nat}(ha:a<b)(hj:j<b):∃k,k<=b/\(a+k) % b=j:=by
 by_cases h:a<=j
 .exact⟨j - a,J,by rw[show a+(j - a)=j by omega];exact Oz hj⟩
 .exact⟨j+b - a,J,by rw[show a+(j+b - a)=j+b by omega,Nat.add_mod_right];exact Oz hj⟩
def cnt(f:Nat->Bool):Nat->Nat
 | 0=>0
 | k+1=>cnt f k+(if f k then 1 else 0)
def ld{f:Nat->Bool}:∀(k:Nat),cnt f k<k->∃j,j<k/\f j=A3
 | 0,h=>J
 | k+1,h=>by
  rw[cnt]at h;rcases tf (f k) with e|e
  .rw[e,A8 rfl]at h;obtain⟨j,h1,h2⟩:=ld (f:=f) k J;exact⟨j,J,h2⟩
  .exact⟨k,J,e⟩
def I4(f:Nat->Bool)(a:Nat):Nat->Bool:=λj=>if j=a then A0 else f j
def mO{f:Nat->Bool}{a:Nat}:∀(k:Nat),(k<=a->cnt (I4 f a) k=cnt f k)/\cnt (I4 f a) k<=cnt f k+1
 | 0=>⟨λ_=>rfl,by rw[cnt,cnt];omega⟩
 | k+1=>by
  obtain⟨h1,h2⟩:=mO (f:=f) (a:=a) k;rw[cnt,cnt];constructor
  .intro h;rw[h1 J,show I4 f a k=f k from AD J]
  .by_cases h:k=a
   .rw[h1 J];unfold I4;rw[A8 h];cases f k<;>simp
   .unfold I4;rw[AD h];unfold I4 at h2;omega
def lc:∀(k:Nat),cnt (λ_=>A3) k=0
 | 0=>rfl
 | k+1=>by rw[cnt,lc k];rfl
def Rep.set{u:List Bool}{f:Nat->Bool}{a:Nat}(h:Rep u f)(ha:a<u.length):Rep (u.set a A0) (I4 f a):=by
 intro i;unfold I4;rw[B9,NB];by_cases e:i=a
 .subst e;simp[ha]
 .rw[AD<|Ky e,AD e,← h i,B9]
def Rep.new(n:Nat):Rep (BT n A3) (λ_=>A3):=by
 intro i;rw[B9,Yh];split<;>rfl
def JB(b:Nat):Nat->(Nat->Bool)->Int->Nat->Bool
 | 0,f,_=>f
 | n+1,f,x=>JB b n (I4 f<|Ej b f b (BG (Ax (rnd x) 16) (b:Int)).toNat) (rnd x)
def aD6{b:Nat}(hb:0<b):∀(n:Nat) (f:Nat->Bool) (x:Int),(∀i,b<=i->f i=A3)->∀i,b<=i->JB b n f x i=A3
 | 0,_,_,h=>h
 | n+1,f,x,h=>by
  refine aD6 hb n _ _ ?_;intro i hi;unfold I4;rw[AD,h i hi];have:Ej b f b (BG (Ax (rnd x) 16) (b:Int)).toNat<b:=by
   refine Sv _ _ ?_;have:=Sw x;rw[Fv this.1,Kr J];have h1:=Int.emod_lt_of_pos (rnd x / 16) (show(0:Int)<b by omega);have h2:=Int.emod_nonneg (rnd x / 16) (show(b:Int)≠0 by omega);omega
  omega
def HK(f:Nat->Bool)(m:Nat):List Nat:=(BJ m).filter f
def jS(f:Nat->Bool)(m:Nat):HK f (m+1)=HK f m++if f m then [m] else []:=by
 unfold HK;rw[Ku,Yd];congr 1;simp only[Kq,List.filter_nil]
def Xm(f:Nat->Bool)(m:Nat):(HK f m).length<=m:=by
 unfold HK;exact Ca (Ic _ _)<|by simp
def atP{f:Nat->Bool}{m k:Nat}(h:k∈HK f m):k<m:=by
 unfold HK at h;exact DD.1 (FF.1 h).1
def aCZ{f:Nat->Bool}{b:Nat}(h:∀i,b<=i->f i=A3):∀(m:Nat),b<=m->HK f m=HK f b
 | 0,hm=>by rw[show b=0 by omega]
 | m+1,hm=>by
  by_cases e:b=m+1
  .rw[e]
  .rw[jS,h m J,A7,CM,aCZ h m J]
abbrev BV(l:List Nat):List Int:=l.map λi:Nat=>(i:Int)
def aDz{b r:Int}(hb:0<=b):∀(ws:List Int) (acc d:Int),0<=d->d+ws.length<=b+1->0<=MG (L3 b r ws acc d)/\MG (L3 b r ws acc d)<=b
 | [],_,_,_,_=>by
  show 0<=b/\b<=b;omega
 | w::ws,acc,d,h0,h1=>by
  rw[Bt]at h1;unfold L3;split
  .show 0<=d/\d<=b;omega
  .exact aDz hb ws _ _ J J
def aEA{b n:Int}(h:Ds b n=A0):0<=Fs b n/\Fs b n<=b:=by
 unfold Fs;rw[A8 h];unfold Ds at h;rw[AE]at h;have h1:=Af.1 h.1;split
 .omega
 .refine aDz J _ _ _ J ?_;have h3:b=1\/b=2\/b=3\/b=4\/b=5\/b=6:=J
  obtain rfl|rfl|rfl|rfl|rfl|rfl:=h3<;>exact E7 _
def Br(b n:Int):List Nat:=
 if Ds b n then(if A1 (n<b) then [n.toNat] else HK (JB b.toNat (Fs b n).toNat (λ_=>A3)<|rnd<|7 * n+1) b.toNat) else []
def Mg{b n:Int}{k:Nat}(h:k∈Br b n):(k:Int)<b:=by
 unfold Br at h;split at h
 .rename_i h0;unfold Ds at h0;rw[AE]at h0;have h1:=Af.1 h0.1;have h2:=Af.1 h0.2;split at h
  .rename_i h3;have:=BX h3;have:=C9.1 h;omega
  .have:=atP h;omega
 .cases h
def Wo(b n:Int):(Br b n).length<=6:=by
 unfold Br;split
 .rename_i h0;unfold Ds at h0;rw[AE]at h0;have h1:=Af.1 h0.1;split
  .simp
  .exact Ca (Xm _ _) J
 .simp
section
variable {bn:Nat} (hb:0<bn) (h6:bn<=6) {u:List Bool} {f:Nat->Bool} (hu:Rep u f) (hl:bn<=u.length)
include hb h6 hu hl
def aCE(x n:Int):∀(k a:Nat),a<bn->f ((a+k) % bn)=A3->
  cZ ((bn:Int),u,x,n,(a:Int),())=I (.inr ((bn:Int),u,x,n,((Ej bn f k a:Nat):Int),()))
 | 0,a,ha,e=>by
  rw[HP,Oz ha]at e;refine BP ?_;unfold Vz;simp only[rdB,hu a,e,AP<|show a<u.length by omega,A5,A7];rfl
 | k+1,a,ha,e=>by
  unfold cZ at *;unfold Ej;rcases tf (f a) with e1|e1
  .rw[e1,A8 rfl];refine B0 ?_ (aCE x n k ((a+1) % bn) (P9 _ hb) (by rw[kS];exact e));unfold Vz;simp only[rdB,hu a,e1,AP<|show a<u.length by omega,A5,show A1 ((bn:Int)=0)=A3 from BR J,AI];rw[AZ J J];rfl
  .rw[e1,A7];refine BP ?_;unfold Vz;simp only[rdB,hu a,e1,AP<|show a<u.length by omega,A5,A7]
def aBq(o:List Int)(x n:Int):∀(k a:Nat),a<bn->f ((a+k) % bn)=A3->
  cP ((bn:Int),o,u,x,n,(a:Int),())=I (.inr ((bn:Int),o,u,x,n,((Ej bn f k a:Nat):Int),()))
 | 0,a,ha,e=>by
  rw[HP,Oz ha]at e;refine BP ?_;unfold Vu;simp only[rdB,hu a,e,AP<|show a<u.length by omega,A5,A7];rfl
 | k+1,a,ha,e=>by
  unfold cP at *;unfold Ej;rcases tf (f a) with e1|e1
  .rw[e1,A8 rfl];refine B0 ?_ (aBq o x n k ((a+1) % bn) (P9 _ hb) (by rw[kS];exact e));unfold Vu;simp only[rdB,hu a,e1,AP<|show a<u.length by omega,A5,show A1 ((bn:Int)=0)=A3 from BR J,AI];rw[AZ J J];rfl
  .rw[e1,A7];refine BP ?_;unfold Vu;simp only[rdB,hu a,e1,AP<|show a<u.length by omega,A5,A7]
end
section
variable {bn:Nat} (hb:0<bn) (h6:bn<=6)
include hb h6
def aaJ(x:Int):∃a:Nat,BG (w64<|Ax (rnd x) 16) (bn:Int)=(a:Int)/\(BG (Ax (rnd x) 16) (bn:Int)).toNat=a/\a<bn:=by
 have h:=Sw x;have hd:Ax (rnd x) 16=rnd x / 16:=Fv h.1;rw[hd,AZ J J,Kr J];have h1:=Int.emod_lt_of_pos (rnd x / 16) (show(0:Int)<bn by omega);have h2:=Int.emod_nonneg (rnd x / 16) (show(bn:Int)≠0 by omega);exact⟨(rnd x / 16 % (bn:Int)).toNat,J,rfl,J⟩
def aDX:∀(n:Nat) (u:List Bool) (f:Nat->Bool) (x:Int),Rep u f->bn<=u.length->cnt f bn+n<=bn->
  ∃u',rH ((bn:Int),u,x,(n:Int),())=I (.inr (u',()))/\Rep u' (JB bn n f x)/\u'.length=u.length
 | 0,u,f,x,hu,_,_=>by
  refine⟨u,BP ?_,hu,rfl⟩;rfl
 | n+1,u,f,x,hu,hl,hc=>by
  obtain⟨a,ea,eb,ha⟩:=aaJ hb h6 x;obtain⟨j,hj,ej⟩:=ld (f:=f) bn J;obtain⟨k,hk,ek⟩:=abM ha hj;have es:=aCE hb h6 hu hl (rnd x) ((n+1:Nat):Int) k a ha (by rw[ek];exact ej);have em:=jf (f:=f) k a bn ha (by rw[ek];exact ej) hk;have hs:Ej bn f k a<bn:=Sv k a ha;obtain⟨u',h1,h2,h3⟩:=aDX n (u.set (Ej bn f k a) A0) (I4 f<|Ej bn f k a) (rnd x) (hu.set J) (by rw[GA];exact hl)
   (by have:=(mO (f:=f) (a:=Ej bn f k a) bn).2;omega)
  refine⟨u',B0 ?_ h1, ?_,by rw[h3,GA]⟩
  .unfold gW;simp only[s9,A9,show A1 ((0:Int)<((n+1:Nat):Int))=A0 from Aa J,A5,show A1 ((bn:Int)=0)=A3 from BR J,AI,ea,es];simp only[AM,A9,AP<|show Ej bn f k a<u.length by omega,A5,Bb];rw[AZ J J,show((n+1:Nat):Int) - 1=(n:Int) by omega]
  .rw[JB,eb,em];exact h2
def aCq(o:List Int):∀(n:Nat) (u:List Bool) (f:Nat->Bool) (x:Int),Rep u f->bn<=u.length->cnt f bn+n<=bn->
  ∃u',rZ ((bn:Int),o,u,x,(n:Int),())=I (.inr ((bn:Int),o,u',()))/\Rep u' (JB bn n f x)/\u'.length=u.length
 | 0,u,f,x,hu,_,_=>by
  refine⟨u,BP ?_,hu,rfl⟩;rfl
 | n+1,u,f,x,hu,hl,hc=>by
  obtain⟨a,ea,eb,ha⟩:=aaJ hb h6 x;obtain⟨j,hj,ej⟩:=ld (f:=f) bn J;obtain⟨k,hk,ek⟩:=abM ha hj;have es:=aBq hb h6 hu hl o (rnd x) ((n+1:Nat):Int) k a ha (by rw[ek];exact ej);have em:=jf (f:=f) k a bn ha (by rw[ek];exact ej) hk;have hs:Ej bn f k a<bn:=Sv k a ha;obtain⟨u',h1,h2,h3⟩:=aCq o n (u.set (Ej bn f k a) A0) (I4 f<|Ej bn f k a) (rnd x) (hu.set J) (by rw[GA];exact hl)
   (by have:=(mO (f:=f) (a:=Ej bn f k a) bn).2;omega)
  refine⟨u',B0 ?_ h1, ?_,by rw[h3,GA]⟩
  .unfold ga;simp only[ru,A9,show A1 ((0:Int)<((n+1:Nat):Int))=A0 from Aa J,A5,show A1 ((bn:Int)=0)=A3 from BR J,AI,ea,es];simp only[AM,A9,AP<|show Ej bn f k a<u.length by omega,A5,Bb];rw[AZ J J,show((n+1:Nat):Int) - 1=(n:Int) by omega]
  .rw[JB,eb,em];exact h2
end
def ast{u:List Bool}{f:Nat->Bool}(hu:Rep u f)(hl:u.length=6):rG ([],u,0,())=I (.inr (BV<|HK f 6,())):=by
 refine C2 (λi=>(BV<|HK f i,u,(i:Int),())) 6 ?_ rfl;intro i hi;unfold gV;simp only[rdB,hu i,AP (show i<u.length by omega),AP hi,M6,A5,show A1 ((i:Int)<6)=A0 from Aa J];rw[AZ (n:=(i:Int)+1) J J,jS];have:=Xm f i;rcases tf (f i) with e|e
 .simp only[e,A5];rw[A8<|B8 (by simp;omega)];simp[BV]
 .simp only[e,A7,CM];rfl
def arP{bn:Nat}(h6:bn<=6){u:List Bool}{f:Nat->Bool}(hu:Rep u f)(hl:u.length=bn):rY ((bn:Int),[],u,0,())=I (.inr (BV<|HK f bn,())):=by
 refine C2 (λi=>((bn:Int),BV<|HK f i,u,(i:Int),())) bn ?_ ?_
 .intro i hi;unfold fD;simp only[rdB,hu i,AP (show i<u.length by omega),A5,show A1 ((i:Int)<(bn:Int))=A0 from Aa J];rw[AZ (n:=(i:Int)+1) J J,jS];have:=Xm f i;rcases tf (f i) with e|e
  .simp only[e,A5];rw[A8<|B8 (by simp;omega)];simp[BV]
  .simp only[e,A7,CM];rfl
 .unfold fD;simp only[show A1 ((bn:Int)<(bn:Int))=A3 from BR J,A7]
def iY(b n:Int):WB (b,n,())=I ((BV<|Br b n,()),()):=by
 unfold WB Br;rw[aAD];simp only[A9];rcases tf (Ds b n) with e|e
 .have e2:=e;unfold Ds at e2;rw[AE]at e2;have h1:=Af.1 e2.1;have h2:=Af.1 e2.2;simp only[e,AB,A7,A5];rcases tf (A1<|n<b) with e3|e3
  .simp only[e3,A5];rw[show BV [n.toNat]=[n] from by simp[BV];omega]
  .have hd:=aEA e;simp only[e3,A7,s9,aiX,A9];rw[AZ (n:=7 * n) J J,AZ (n:=7 * n+1) J J];obtain⟨u,g1,g2,g3⟩:=aDX (bn:=b.toNat) J J (Fs b n).toNat (BT 6 A3) (λ_=>A3) (rnd<|7 * n+1) (Rep.new 6) (by simp;omega) (by rw[lc];omega);rw[show((b.toNat:Nat):Int)=b by omega,show(((Fs b n).toNat:Nat):Int)=Fs b n by omega]at g1;rw[show(dfl .bool:Bool)=A3 from rfl,g1];simp only[AM,A9];rw[ast g2 (by rw[g3];rfl),aCZ (b:=b.toNat) (aD6 J _ _ _ λ_ _=>rfl) 6 J];simp only[A9];rw[ahi (by have:=Xm (JB b.toNat (Fs b n).toNat (λ_=>A3)<|rnd<|7 * n+1) b.toNat;simp;omega)];rfl
 .simp only[e,AI,A5,A7];rfl
def zx(b n:Int):W5 (b,n,())=I ((BV<|Br b n,()),()):=by
 unfold W5 Br;rw[WX];simp only[A9];rcases tf (Ds b n) with e|e
 .have e2:=e;unfold Ds at e2;rw[AE]at e2;have h1:=Af.1 e2.1;have h2:=Af.1 e2.2;simp only[e,AB,A7,A5];rcases tf (A1<|n<b) with e3|e3
  .simp only[e3,A5];rw[show BV [n.toNat]=[n] from by simp[BV];omega];rfl
  .have hd:=aEA e;simp only[e3,A7,ru,ait,A9];rw[A8 (by simp;omega)];rw[AZ (n:=n * 7) J J,AZ (n:=n * 7+1) J J,Qe n 7];obtain⟨u,g1,g2,g3⟩:=aCq (bn:=b.toNat) J J [] (Fs b n).toNat (BT b.toNat A3) (λ_=>A3) (rnd<|7 * n+1) (Rep.new _) (by simp) (by rw[lc];omega);rw[show((b.toNat:Nat):Int)=b by omega,show(((Fs b n).toNat:Nat):Int)=Fs b n by omega]at g1;rw[show(dfl .bool:Bool)=A3 from rfl,g1];simp only[AM,A9];have g4:=arP (bn:=b.toNat) J g2 (by rw[g3];simp);rw[show((b.toNat:Nat):Int)=b by omega]at g4;rw[g4];rfl
 .simp only[e,AI,A5,A7];rfl
end Go.VS
namespace Go.VS
open Go
abbrev bI(l:List UInt8):List Int:=l.map λb=>(b.toNat:Int)
def Sb(s:A4):BE s=bI (L s):=rfl
def Sq(l:List UInt8):BF (bI l)=B l:=by
 unfold BF bI B;rw[I7];congr 2;rw[GS (g:=id) (by intro b _;simp),Yo]
def aEs(a b:UInt8):Dn .u8 (a.toNat:Int) (b.toNat:Int)=((a ^^^ b).toNat:Int):=by
 have h1:∀c:UInt8,F1 (IntKind.bits .u8) (c.toNat:Int)=c.toBitVec:=by
  intro c;apply lQ;rw[QY];have:=c.toNat_lt;show((c.toNat:Int) % (2 ^ 8:Nat)).toNat=c.toBitVec.toNat;rw[lB J J];rfl
 unfold Dn;rw[h1 a,h1 b];have:=(a ^^^ b).toNat_lt;show Yr .u8 (((a ^^^ b).toNat:Nat):Int)=_;have h3:∀n:Int,Yr .u8 n=n % 256:=N4;rw[h3];omega
def axg{l:List UInt8}(h:l.length=4):∃a b c d,l=[a,b,c,d]:=by
 obtain _|⟨a,_|⟨b,_|⟨c,_|⟨d,_|⟨e,l⟩⟩⟩⟩⟩:=l
 all_goals simp at h
 exact⟨a,b,c,d,rfl⟩
def sz4{s:A4}(h:s.size=4):∃a b c d,s=B [a,b,c,d]:=by
 obtain⟨a,b,c,d,e⟩:=axg (l:=L s) h;exact⟨a,b,c,d,by rw[← e,B_L]⟩
def aAC{a b:A4}(ha:a.size=4)(hb:b.size=4):WD (a,b,())=I ((B<|Bx (L a)<|L b,()),()):=by
 obtain⟨a0,a1,a2,a3,rfl⟩:=sz4 ha;obtain⟨b0,b1,b2,b3,rfl⟩:=sz4 hb;unfold WD;rw[A8<|by rfl];have h:rb (B [b0,b1,b2,b3],BE<|B [a0,a1,a2,a3],((BE<|B [a0,a1,a2,a3]).length:Int),0,())=
   I (.inr ([Dn .u8 (a0.toNat:Int) (b0.toNat:Int),Dn .u8 (a1.toNat:Int) (b1.toNat:Int),Dn .u8 (a2.toNat:Int) (b2.toNat:Int),Dn .u8 (a3.toNat:Int) (b3.toNat:Int)],())):=
  B0 rfl (B0 rfl (B0 rfl (B0 rfl (BP rfl))))
 rw[h];simp only[aEs,AM,A9];exact congrArg (λz=>I ((z,()),()))<|Sq [a0 ^^^ b0,a1 ^^^ b1,a2 ^^^ b2,a3 ^^^ b3]
def zu{a b:A4}(ha:a.size=4)(hb:b.size=4):W4 (a,b,())=I ((B<|Bx (L a)<|L b,()),()):=by
 obtain⟨a0,a1,a2,a3,rfl⟩:=sz4 ha;obtain⟨b0,b1,b2,b3,rfl⟩:=sz4 hb;unfold W4;have h:rX (B [a0,a1,a2,a3],B [b0,b1,b2,b3],[],0,())=
   I (.inr ([Dn .u8 (a0.toNat:Int) (b0.toNat:Int),Dn .u8 (a1.toNat:Int) (b1.toNat:Int),Dn .u8 (a2.toNat:Int) (b2.toNat:Int),Dn .u8 (a3.toNat:Int) (b3.toNat:Int)],())):=
  B0 rfl (B0 rfl (B0 rfl (B0 rfl (BP rfl))))
 rw[h];simp only[aEs,AM,A9];exact congrArg (λz=>I ((z,()),()))<|Sq [a0 ^^^ b0,a1 ^^^ b1,a2 ^^^ b2,a3 ^^^ b3]
def dS{n:Int}(h0:0<=n)(h1:n<=1000):LR (n,())=I ((Ax (n+3) 4,()),()):=by
 unfold LR;simp only;rw[AZ (n:=n+4) J J,AZ (n:=n+4 - 1) J J,show n+4 - 1=n+3 by omega];rw[Fv J,AZ J J]
def aoA:gX ()=I ((B<|nul 4,()),()):=rfl
def Fu(t:List UInt8)(i:Nat):List UInt8:=(BJ 4).map λj=>t.getD (4 * i+j) 0
def Xs(t:List UInt8)(i:Nat):(Fu t i).length=4:=by simp[Fu]
def DC(t:A4):List A4:=if inB t.size 1 24 then(BJ<|(t.size+3) / 4).map λi=>B (Fu (L t) i) else []
def awO(l:List UInt8):BH (BT (AL 4)<|dfl .u8).length (bI l)++Bm (bI l).length (BT (AL 4)<|dfl .u8)=bI ((BJ 4).map λj=>l.getD j 0):=by
 obtain _|⟨a,_|⟨b,_|⟨c,_|⟨d,l⟩⟩⟩⟩:=l
 .rfl
 .rfl
 .rfl
 .rfl
 .rw[Ly<|by simp,CM];rfl
def asV(l:List UInt8)(k:Nat):(BJ 4).map (λj=>(l.drop k).getD j 0)=(BJ 4).map λj=>l.getD (k+j) 0:=by
 refine GS ?_;intro j _;rw[B9,B9,Ha]
def awd(s:A4)(k:Nat):L (s.extract k s.size)=(L s).drop k:=by
 rw[Dz,Ie];rw[E4,Ay];exact As _
def ane(t:A4):fN (t,())=I ((DC t,()),()):=by
 unfold fN DC;simp only[ED,A9];rcases tf (inB t.size 1 24) with e|e
 .have h1:=Af.1 e;simp only[e,AB,A7,A5];have h:qk (t,[],0,())=I (.inr ((BJ<|(t.size+3) / 4).map λi=>B<|Fu (L t) i,())):=by
   refine C2 (λi=>(t,(BJ i).map λi=>B<|Fu (L t) i,((4 * i:Nat):Int),())) ((t.size+3) / 4) ?_ ?_
   .intro i hi;unfold eA;simp only[show A1 (((4 * i:Nat):Int)<(t.size:Int))=A0 from Aa J,A5];rw[A8<|by rfl,A8 (by simp;omega),A8<|B8 (by simp;omega)];rw[Bb,Sb,awd,awO,Sq,asV,AZ J J,Ku (n:=i),Es];rw[show((4 * i:Nat):Int)+4=((4 * (i+1):Nat):Int) by omega];rfl
   .unfold eA;simp only[show A1 (((4 * ((t.size+3) / 4):Nat):Int)<(t.size:Int))=A3 from BR J,A7]
  rw[h];simp only[AM,A9];rw[p8 (by simp;omega)];rfl
 .simp only[e,AI,A5,A7]
def arW(t:A4)(o:List A4)(i:Nat)(hi:i<=100):
  qR (t,o,(i:Int),[],w64<|(i:Int) * 4,())=I (.inr (t,o,(i:Int),bI<|Fu (L t) i,())):=by
 rw[AZ J J,show(i:Int) * 4=((4 * i+0:Nat):Int) by omega];refine C2 (λj=>(t,o,(i:Int),bI<|(BJ j).map λm=>(L t).getD (4 * i+m) 0,((4 * i+j:Nat):Int),())) 4 ?_ ?_
 .intro j hj;unfold di;simp only;rw[AZ (n:=(i:Int)+1) J J,AZ (n:=((i:Int)+1) * 4) J J];rw[A8<|Aa J,AZ (n:=((4 * i+j:Nat):Int)+1) J J];rw[Ku,Es];by_cases h:4 * i+j<t.size
  .rw[A8<|Aa J,A8<|AP h,A8<|B8 (by simp;omega),Jj];simp only[Es,DP,JM];rfl
  .rw[AD (by simp;omega),A8<|B8 (by simp;omega)];have:(L t).getD (4 * i+j) 0=0:=by
    rw[B9,HV (by rw[Ay];omega)];rfl
   simp only[Es,DP,JM,this];rfl
 .unfold di;simp only;rw[AZ (n:=(i:Int)+1) J J,AZ (n:=((i:Int)+1) * 4) J J];rw[AD (by simp;omega)];rfl
def aoE(t:A4):fE (t,())=I ((DC t,()),()):=by
 unfold fE DC;rcases tf (inB t.size 1 24) with e|e
 .have h1:=Af.1 e;rw[AD (by simp;omega),A8 e];have h:qS (t,[],0,())=I (.inr ((BJ<|(t.size+3) / 4).map λi=>B<|Fu (L t) i,())):=by
   refine C2 (λi=>(t,(BJ i).map λi=>B<|Fu (L t) i,(i:Int),())) ((t.size+3) / 4) ?_ ?_
   .intro i hi;unfold dj;simp only[dS (n:=(t.size:Int)) J J,A9];rw[Fv J,A8<|Aa J,arW t _ i J];simp only[AM,A9];rw[A8<|B8 (by simp;omega),Sq,AZ J J,Ku,Es];rfl
   .unfold dj;simp only[dS (n:=(t.size:Int)) J J,A9];rw[Fv J,AD<|by simp]
  rw[h];rfl
 .rw[A8,AD (by rw[e];exact Cg)];by_cases h:(1:Int)<=t.size/\(t.size:Int)<=24
  .rw[Af.2 h]at e;cases e
  .simp;omega
abbrev bsA(l:List A4)(k:Nat):A4:=l.getD k noB
def Oi(l:List A4)(k:Nat): @rd A4 (dfl .str) l (k:Int)=bsA l k:=rfl
def Oa(pre:List Nat)(k:Nat)(post:List Nat): @rd Int (dfl .int) (BV<|pre++k::post) (pre.length:Int)=(k:Int):=by
 rw[Oh,BV,Es,DP,B9,FG<|by simp];simp
def snoc{α:Type}(pre:List α)(k:α)(post:List α):pre++k::post=(pre++[k])++post:=by simp
def DZ{n m:Nat}(h:n<m)(hm:m<=1048576):w64 ((n:Int)+1)=((n+1:Nat):Int):=B5 h J
section
variable {bs:List A4} (hbs:∀k,k<bs.length->(bsA bs k).size=4)
include hbs
def asv(post:List Nat):∀(pre:List Nat) (y:A4),pre≠[]->y.size=4->(pre++post).length<=1048576->(∀k∈post,k<bs.length)->
  Ug (bs,y,BV<|pre++post,((BV<|pre++post).length:Int),(pre.length:Int),())=I (.inr (B<|post.foldl (λx k=>Bx x<|L<|bsA bs k)<|L y,())):=by
 induction post with
 | nil=>
  intro pre y _ _ _ _;refine BP ?_;unfold VV;simp only[CM,E5,show A1 ((pre.length:Int)<(pre.length:Int))=A3 from BR J,A7,M4,B_L]
 | cons k post ih=>
  intro pre y hp hy hl hk;have h1:=hk k Ap;have hne:pre.length≠0:=λh=>hp<|E6 h;have hlen:pre.length<(BV<|pre++k::post).length:=by simp
  refine B0 (x':=(bs,B<|Bx (L y)<|L<|bsA bs k,BV<|pre++k::post,((BV<|pre++k::post).length:Int),((pre++[k]).length:Int),())) ?_ ?_
  .unfold VV;simp only[show A1 ((pre.length:Int)<((BV<|pre++k::post).length:Int))=A0 from Aa J,A5,AP hlen,Oa,show A1 ((pre.length:Int)=0)=A3 from BR J,A7,AP h1,Oi,aAC hy<|hbs k h1,A9];rw[DZ hlen<|by simpa using hl,Ar];rfl
  .have:=ih (pre++[k]) (B<|Bx (L y)<|L<|bsA bs k) (by simp) (by rw[BQ,Q7<|by rw[Ay,Ay,hy,hbs k h1],Ay,hy]) (by rw[← snoc];exact hl) λx hx=>hk x<|Am k hx;rw[← snoc]at this;exact this
def arS(post:List Nat):∀(pre:List Nat) (y:A4),y.size=4->(pre++post).length<=1048576->(∀k∈post,k<bs.length)->
  bE (bs,BV<|pre++post,y,(pre.length:Int),())=I (.inr (B<|post.foldl (λx k=>Bx x<|L<|bsA bs k)<|L y,())):=by
 induction post with
 | nil=>
  intro pre y _ _ _;refine BP ?_;unfold dB;simp only[CM,E5,show A1 ((pre.length:Int)<(pre.length:Int))=A3 from BR J,A7,M4,B_L]
 | cons k post ih=>
  intro pre y hy hl hk;have h1:=hk k Ap;have hlen:pre.length<(BV<|pre++k::post).length:=by simp
  refine B0 (x':=(bs,BV<|pre++k::post,B<|Bx (L y)<|L<|bsA bs k,((pre++[k]).length:Int),())) ?_ ?_
  .unfold dB;simp only[show A1 ((pre.length:Int)<((BV<|pre++k::post).length:Int))=A0 from Aa J,A5,AP hlen,Oa,AP h1,Oi,zu hy<|hbs k h1,A9];rw[DZ hlen<|by simpa using hl,Ar];rfl
  .have:=ih (pre++[k]) (B<|Bx (L y)<|L<|bsA bs k) (by rw[BQ,Q7<|by rw[Ay,Ay,hy,hbs k h1],Ay,hy]) (by rw[← snoc];exact hl) λx hx=>hk x<|Am k hx;rw[← snoc]at this;exact this
end
def Xu{t:A4}{k:Nat}(h:k<(DC t).length):bsA (DC t) k=B (Fu (L t) k):=by
 unfold DC at h ⊢;split
 .rename_i e;rw[A8 e]at h;simp at h;rw[bsA,B9,D2,GY h];rfl
 .rename_i e;rw[AD e]at h;cases h
def Jo(t:A4)(n:Int):A4:=
 if(Br (DC t).length n).isEmpty then noB else B (Dm 4 (Fu<|L t)<|Br (DC t).length n)
def aDP{t:A4}{n:Int}{y:List UInt8}{ks:List Nat}(hy:y.length=4)(hk:∀k∈ks,k<(DC t).length):
  ks.foldl (λx k=>Bx x<|L<|bsA (DC t) k) y=Bx y (Dm 4 (Fu<|L t) ks):=by
 rw[← kj hy];have:∀(ks:List Nat) (y:List UInt8),(∀k∈ks,k<(DC t).length)->ks.foldl (λx k=>Bx x<|L<|bsA (DC t) k) y=ks.foldl (λx k=>Bx x<|Fu (L t) k) y:=by
  intro ks
  induction ks with
  | nil=>intro _ _;rfl
  | cons k ks ih=>
   intro y h;rw[EL,EL,Xu (h k Ap),ih _ λx hx=>h x<|Am k hx];rfl
 exact this ks y hk
def YT{t:A4}:∀k,k<(DC t).length->(bsA (DC t) k).size=4:=by
 intro k h;rw[Xu h,BQ,Xs]
def ami(t:A4)(n:Int):eP (t,n,())=I ((Jo t n,()),()):=by
 unfold eP Jo;simp only[ane,iY,A9];have hk:∀k∈Br (DC t).length n,k<(DC t).length:=λk h=>by
  have:=Mg h;omega
 have hl:=Wo (DC t).length n;revert hk hl;generalize Br (DC t).length n=ks;intro hk hl;cases ks with
 | nil=>
  rw[show Ug (DC t,noB,BV [],((BV []).length:Int),0,())=I (.inr (noB,())) from BP rfl];rfl
 | cons k ks=>
  have h1:=hk k Ap;rw[AD<|by simp];have hlen:0<(BV<|k::ks).length:=by simp
  have hrd: @rd Int (dfl .int) (BV<|k::ks) 0=(k:Int):=Oa [] k ks;have h:Ug (DC t,noB,BV<|k::ks,((BV<|k::ks).length:Int),0,())=I (.inr (B<|Dm 4 (Fu<|L t)<|k::ks,())):=by
   refine B0 (x':=(DC t,bsA (DC t) k,BV<|[k]++ks,((BV<|[k]++ks).length:Int),(([k]:List Nat).length:Int),())) ?_ ?_
   .unfold VV;simp only[show A1 ((0:Int)<((BV<|k::ks).length:Int))=A0 from Aa J,A5,AP (i:=0) hlen,show inb 0 (BV<|k::ks).length=A0 from AP (i:=0) hlen,hrd,show A1 ((0:Int)=0)=A0 from rfl,AP h1,Oi];rfl
   .have:=asv YT ks [k] (bsA (DC t) k) (by simp) (YT k h1) (by simpa using (by simp at hl;omega:ks.length+1<=1048576)) λx hx=>hk x<|Am k hx;rw[aDP (n:=n) (by rw[Ay];exact YT k h1) λx hx=>hk x<|Am k hx,Xu h1]at this;rw[Xu h1];exact this
  rw[h];rfl
def alo(t:A4)(n:Int):dz (t,n,())=I ((Jo t n,()),()):=by
 unfold dz Jo;simp only[aoE,zx,A9];have hk:∀k∈Br (DC t).length n,k<(DC t).length:=λk h=>by
  have:=Mg h;omega
 have hl:=Wo (DC t).length n;revert hk hl;generalize Br (DC t).length n=ks;intro hk hl;cases ks with
 | nil=>rw[A8<|by simp,A8<|by simp]
 | cons k ks=>
  have h1:=hk k Ap;have hc:(DC t).length≠0:=J
  rw[AD (by simp;exact⟨λh=>hc (by rw[h];rfl),J⟩),AD<|by simp,aoA];simp only[A9];have:=arS (bs:=DC t) YT (k::ks) [] (B<|nul 4) (by rfl) (by simpa using (by simp at hl;omega:ks.length+1<=1048576)) hk;rw[aDP (n:=n) (by rfl) hk]at this;rw[show bE (DC t,BV<|k::ks,B<|nul 4,0,())=_ from this];simp only[AM,A9];rw[L_B,XU<|Sk λx _=>Xs _ x]
end Go.VS
namespace Go.VS
open Go
def unk(kn:List A4)(k:Nat):Bool:=A1<|bsA kn k=noB
def DM(kn:List A4)(of:List Nat):List Nat:=of.filter<|unk kn
def EQ(kn:List A4)(of:List Nat)(y:List UInt8):List UInt8:=of.foldl (λx k=>if unk kn k then x else Bx x (L<|bsA kn k)) y
def D8(b:Nat)(kn:List A4):Prop:=kn.length=b/\ ∀k,k<b->bsA kn k=noB\/(bsA kn k).size=4
def aBv{b:Nat}{kn:List A4}(h:D8 b kn):∀ {of:List Nat} {y:List UInt8},y.length=4->(∀k∈of,k<b)->(EQ kn of y).length=4
 | [],_,hy,_=>hy
 | k::of,y,hy,hk=>by
  unfold EQ;rw[EL];refine aBv (of:=of) h ?_ λx hx=>hk x<|Am k hx;rcases tf (unk kn k) with e|e
  .rw[e];exact hy
  .rw[e,A7];rcases h.2 k (hk k Ap) with h1|h1
   .unfold unk at e;exact absurd h1 (KC e)
   .rw[Q7<|by rw[hy,Ay,h1],hy]
def abB(d:Int)(l:List Nat):Int:=l.foldl (fun(_:Int) (k:Nat)=>(k:Int)) d
section
variable {b:Nat} {kn:List A4} (hkn:D8 b kn)
include hkn
def asw(bi:Int)(list l2:List AT)(ag:Bool)(n i:Int)(post:List Nat):∀(pre:List Nat) (y:A4) (u:Int) (m:Nat),y.size=4->(pre++post).length<=1048576->m<=pre.length->(∀k∈post,k<b)->
  bP (bi,list,kn,ag,y,u,(m:Int),l2,n,i,BV<|pre++post,((BV<|pre++post).length:Int),(pre.length:Int),())=
   I (.inr (bi,list,kn,ag,B<|EQ kn post<|L y,abB u<|DM kn post,((m+(DM kn post).length:Nat):Int),l2,n,i,())):=by
 induction post with
 | nil=>
  intro pre y u m _ _ _ _;refine BP ?_;unfold VU;simp only[CM,E5,show A1 ((pre.length:Int)<(pre.length:Int))=A3 from BR J,A7];show _=I (Sum.inr<|Sum.inr (bi,list,kn,ag,B<|L y,u,(m:Int),l2,n,i,()));rw[B_L]
 | cons k post ih=>
  intro pre y u m hy hl hm hk;have h1:=hk k Ap;have hlen:pre.length<(BV<|pre++k::post).length:=by simp
  have hb:k<kn.length:=by rw[hkn.1];exact h1
  have hl2:(pre++[k]++post).length<=1048576:=by rw[← snoc];exact hl
  rcases tf (unk kn k) with e|e
  .refine B0 (x':=(bi,list,kn,ag,y,(k:Int),((m+1:Nat):Int),l2,n,i,BV<|pre++k::post,((BV<|pre++k::post).length:Int),((pre++[k]).length:Int),())) ?_ ?_
   .unfold VU;simp only[show A1 ((pre.length:Int)<((BV<|pre++k::post).length:Int))=A0 from Aa J,A5,AP hlen,Oa,AP hb,Oi];rw[A8<|show A1 (bsA kn k=noB)=A0 from e,DZ hlen<|by simpa using hl,Ar,AZ (n:=(m:Int)+1) J (by simp at hl;omega)];rfl
   .have:=ih (pre++[k]) y (k:Int) (m+1) hy hl2 (by simp;omega) λx hx=>hk x<|Am k hx;rw[← snoc]at this;rw[show DM kn (k::post)=k::DM kn post by unfold DM;rw[Kq,e,A8 rfl]];rw[show EQ kn (k::post) (L y)=EQ kn post (L y) by unfold EQ;rw[EL,e,A8 rfl]];rw[Bt,show m+((DM kn post).length+1)=m+1+(DM kn post).length by omega];exact this
  .have hs:(bsA kn k).size=4:=by
    rcases hkn.2 k h1 with h2|h2
    .exact absurd h2 (KC e)
    .exact h2
   refine B0 (x':=(bi,list,kn,ag,B<|Bx (L y)<|L<|bsA kn k,u,(m:Int),l2,n,i,BV<|pre++k::post,((BV<|pre++k::post).length:Int),((pre++[k]).length:Int),())) ?_ ?_
   .unfold VU;simp only[show A1 ((pre.length:Int)<((BV<|pre++k::post).length:Int))=A0 from Aa J,A5,AP hlen,Oa,AP hb,Oi];rw[AD (by intro h;unfold unk at e;rw[h]at e;cases e),aAC hy hs,DZ hlen (by simpa using hl),Ar];rfl
   .have:=ih (pre++[k]) (B<|Bx (L y)<|L<|bsA kn k) u m (by rw[BQ,Q7<|by rw[Ay,Ay,hy,hs],Ay,hy]) hl2 (by simp;omega) λx hx=>hk x<|Am k hx;rw[← snoc]at this;rw[show DM kn (k::post)=DM kn post by unfold DM;rw[Kq,e,A7]];rw[show EQ kn (k::post) (L y)=EQ kn post (Bx (L y)<|L<|bsA kn k) by unfold EQ;rw[EL,e,A7]];exact this
def arT(post:List Nat):∀(pre:List Nat) (y:A4) (o:List Nat),y.size=4->(pre++post).length<=1048576->o.length<=pre.length->(∀k∈post,k<b)->
  ba (kn,BV o,y,BV<|pre++post,(pre.length:Int),())=I (.inr (BV<|o++DM kn post,B<|EQ kn post<|L y,())):=by
 induction post with
 | nil=>
  intro pre y o _ _ _ _;refine BP ?_;unfold Va;simp only[CM,E5,show A1 ((pre.length:Int)<(pre.length:Int))=A3 from BR J,A7];show _=I (Sum.inr<|Sum.inr (BV<|o++[],B<|L y,()));rw[B_L,CM]
 | cons k post ih=>
  intro pre y o hy hl hm hk;have h1:=hk k Ap;have hlen:pre.length<(BV<|pre++k::post).length:=by simp
  have hb:k<kn.length:=by rw[hkn.1];exact h1
  have hl2:(pre++[k]++post).length<=1048576:=by rw[← snoc];exact hl
  rcases tf (unk kn k) with e|e
  .refine B0 (x':=(kn,BV<|o++[k],y,BV<|pre++k::post,((pre++[k]).length:Int),())) ?_ ?_
   .unfold Va;simp only[show A1 ((pre.length:Int)<((BV<|pre++k::post).length:Int))=A0 from Aa J,A5,AP hlen,Oa,AP hb,Oi];rw[A8<|show A1 (bsA kn k=noB)=A0 from e,A8<|B8 (by simp;simp at hl;omega),DZ hlen<|by simpa using hl,Ar];simp[BV]
   .have:=ih (pre++[k]) y (o++[k]) hy hl2 (by simp;omega) λx hx=>hk x<|Am k hx;rw[← snoc]at this;rw[show DM kn (k::post)=k::DM kn post by unfold DM;rw[Kq,e,A8 rfl]];rw[show EQ kn (k::post) (L y)=EQ kn post (L y) by unfold EQ;rw[EL,e,A8 rfl]];rw[snoc o k<|DM kn post];exact this
  .have hs:(bsA kn k).size=4:=by
    rcases hkn.2 k h1 with h2|h2
    .exact absurd h2 (KC e)
    .exact h2
   refine B0 (x':=(kn,BV o,B<|Bx (L y)<|L<|bsA kn k,BV<|pre++k::post,((pre++[k]).length:Int),())) ?_ ?_
   .unfold Va;simp only[show A1 ((pre.length:Int)<((BV<|pre++k::post).length:Int))=A0 from Aa J,A5,AP hlen,Oa,AP hb,Oi];rw[AD (by intro h;unfold unk at e;rw[h]at e;cases e),zu hy hs,DZ hlen (by simpa using hl),Ar];rfl
   .have:=ih (pre++[k]) (B<|Bx (L y)<|L<|bsA kn k) o (by rw[BQ,Q7<|by rw[Ay,Ay,hy,hs],Ay,hy]) hl2 (by simp;omega) λx hx=>hk x<|Am k hx;rw[← snoc]at this;rw[show DM kn (k::post)=DM kn post by unfold DM;rw[Kq,e,A7]];rw[show EQ kn (k::post) (L y)=EQ kn post (Bx (L y)<|L<|bsA kn k) by unfold EQ;rw[EL,e,A7]];exact this
end
def FC(b:Nat)(kn:List A4)(m:AT):Option (List A4):=
 if inB m.nu 0 999&&A1 ((m.da.size:Int)=4) then
  (match DM kn (Br (b:Int) m.nu) with
   | [u]=>I (kn.set u<|B<|EQ kn (Br (b:Int) m.nu)<|L m.da)
   | _=>U)
 else U
def Cr(b:Nat)(s:List A4×Bool)(m:AT):List A4×Bool:=match FC b s.1 m with|some kn=>(kn,A0)|none=>s
def J1(b:Nat)(list:List AT)(kn:List A4):List A4×Bool:=list.foldl (Cr b) (kn,A3)
def J4(b:Nat)(list:List AT):Nat->List A4->List A4
 | 0,kn=>kn
 | n+1,kn=>if(J1 b list kn).2 then J4 b list n (J1 b list kn).1 else(J1 b list kn).1
def YU{kn:List A4}{u:Nat}(v:A4)(hu:u<kn.length)(k:Nat):bsA (kn.set u v) k=if k=u then v else bsA kn k:=by
 rw[bsA,B9,NB];by_cases h:u=k
 .subst h;simp[hu]
 .rw[AD h,AD<|Ky h,← B9]
def aav{f g:Nat->Bool}(h:∀i,g i=A0->f i=A0):∀k,cnt g k<=cnt f k
 | 0=>As _
 | k+1=>by
  have:=aav h k;rw[cnt,cnt];rcases tf (g k) with e|e
  .rw[e,h k e];omega
  .rw[e,A7];omega
def aau{f g:Nat->Bool}(h:∀i,g i=A0->f i=A0){u:Nat}(hf:f u=A0)(hg:g u=A3):∀k,u<k->cnt g k<cnt f k
 | 0,h=>J
 | k+1,hk=>by
  rw[cnt,cnt];by_cases e:u=k
  .subst e;rw[hf,hg,A8 rfl,A7];have:=aav h u;omega
  .have:=aau h hf hg k J;rcases tf (g k) with e|e
   .rw[e,h k e];omega
   .rw[e,A7];omega
def YI{b:Nat}{kn kn':List A4}{m:AT}(h:D8 b kn)(e:FC b kn m=I kn'):
  D8 b kn'/\(∀k,unk kn' k=A0->unk kn k=A0)/\cnt (unk kn') b<cnt (unk kn) b:=by
 unfold FC at e;split at e
 .rename_i hc;rw[AE]at hc;have hs:=BX hc.2;split at e
  .rename_i u hu;injection e with e;subst e;have FM:u∈DM kn (Br (b:Int) m.nu):=by rw[hu];exact N9 u
   obtain⟨h1,h2⟩:=FF.1 FM;have h3:=Mg h1;have hub:u<b:=J
   have hul:u<kn.length:=by rw[h.1];exact hub
   have hlen:(B<|EQ kn (Br (b:Int) m.nu)<|L m.da).size=4:=by
    rw[BQ,aBv h (by rw[Ay];omega) λk hk=>by have:=Mg hk;omega]
   have hno:B (EQ kn (Br (b:Int) m.nu)<|L m.da)≠noB:=by
    intro hh;rw[hh]at hlen;cases hlen
   have abg:∀k,unk (kn.set u<|B<|EQ kn (Br (b:Int) m.nu)<|L m.da) k=A0->unk kn k=A0:=by
    intro k hk;unfold unk at hk;rw[YU _ hul]at hk;by_cases ek:k=u
    .rw[A8 ek]at hk;exact absurd (BX hk) hno
    .rw[AD ek]at hk;exact hk
   refine⟨⟨by rw[GA,h.1], ?_⟩,abg,aau abg h2 ?_ b hub⟩
   .intro k hk;rw[YU _ hul];by_cases ek:k=u
    .rw[A8 ek];exact NP hlen
    .rw[AD ek];exact h.2 k hk
   .unfold unk;rw[YU _ hul,A8 rfl];exact BR hno
  .cases e
 .cases e
def SG{b:Nat}:∀(list:List AT) (s:List A4×Bool),D8 b s.1->
  D8 b (list.foldl (Cr b) s).1/\(∀k,unk (list.foldl (Cr b) s).1 k=A0->unk s.1 k=A0)/\cnt (unk (list.foldl (Cr b) s).1) b<=cnt (unk s.1) b/\
  ((list.foldl (Cr b) s).2=A0->s.2=A0\/cnt (unk (list.foldl (Cr b) s).1) b<cnt (unk s.1) b)
 | [],s,h=>⟨h,λ_ hk=>hk,As _,λhs=>NQ hs⟩
 | m::list,s,h=>by
  rw[EL];cases e:FC b s.1 m with
  | none=>
   rw[show Cr b s m=s by unfold Cr;rw[e]];exact SG list s h
  | some kn=>
   rw[show Cr b s m=(kn,A0) by unfold Cr;rw[e]];obtain⟨a1,a2,a3⟩:=YI h e;obtain⟨b1,b2,b3,_⟩:=SG list (kn,A0) a1;have b4:cnt (unk (list.foldl (Cr b) (kn,A0)).1) b<=cnt (unk kn) b:=b3;exact⟨b1,λk hk=>a2 k<|b2 k hk,J,λ_=>NP J⟩
end Go.VS
namespace Go.VS
open Go
def Lr(pre:List AT)(m:AT)(post:List AT): @rd AT (dfl .mixed) (pre++m::post) (pre.length:Int)=m:=by
 rw[Oh,B9,FG<|As _];simp
def asm(u:Nat):abB (-1) [u]=(u:Int):=rfl
def aAw{b:Nat}{kn kn':List A4}{m:AT}(ag:Bool)(h:FC b kn m=I kn'):Cr b (kn,ag) m=(kn',A0):=by unfold Cr;rw[h]
def WQ{b:Nat}{kn:List A4}{m:AT}(ag:Bool)(h:FC b kn m=U):Cr b (kn,ag) m=(kn,ag):=by unfold Cr;rw[h]
def aDS{b:Nat}{kn:List A4}{n:Int}{u:Nat}(h:DM kn (Br (b:Int) n)=[u]):u<b:=by
 have:u∈DM kn (Br (b:Int) n):=by rw[h];exact N9 u
 have:=Mg (FF.1 this).1;omega
def ar8{b:Nat}(h6:b<=6)(list:List AT)(post:List AT):∀(pre:List AT) (kn:List A4) (ag:Bool),D8 b kn->(pre++post).length<=1048576->
  Uf ((b:Int),list,kn,ag,pre++post,((pre++post).length:Int),(pre.length:Int),())=
   I (.inr ((b:Int),list,(post.foldl (Cr b) (kn,ag)).1,(post.foldl (Cr b) (kn,ag)).2,())):=by
 induction post with
 | nil=>
  intro pre kn ag _ _;refine BP ?_;unfold Nz;simp only[CM,show A1 ((pre.length:Int)<(pre.length:Int))=A3 from BR J,A7];rfl
 | cons m post ih=>
  intro pre kn ag hk hl;have hlen:pre.length<(pre++m::post).length:=by simp
  have hw:=DZ hlen hl;have nxt:∀(kn':List A4) (ag':Bool),D8 b kn'->Cr b (kn,ag) m=(kn',ag')->
    Nz ((b:Int),list,kn,ag,pre++m::post,((pre++m::post).length:Int),(pre.length:Int),())=I (.inl ((b:Int),list,kn',ag',pre++m::post,((pre++m::post).length:Int),((pre.length+1:Nat):Int),()))->
    Uf ((b:Int),list,kn,ag,pre++m::post,((pre++m::post).length:Int),(pre.length:Int),())=
     I (.inr ((b:Int),list,((m::post).foldl (Cr b) (kn,ag)).1,((m::post).foldl (Cr b) (kn,ag)).2,())):=by
   intro kn' ag' h1 h2 h3;refine B0 h3 ?_;have:=ih (pre++[m]) kn' ag' h1 (by rw[← snoc];exact hl);rw[← snoc,@Ar _ pre [m]]at this;rw[EL,h2];exact this
  rcases tf (inB m.nu 0 999) with e1|e1
  .by_cases e2:(m.da.size:Int)=4
   .have hh:FC b kn m=(match DM kn (Br (b:Int) m.nu) with|[u]=>I (kn.set u<|B<|EQ kn (Br (b:Int) m.nu)<|L m.da)|_=>U):=by
     unfold FC;rw[A8<|by rw[e1,Aa e2]<;>rfl]<;>rfl
    have hlo:(Br (b:Int) m.nu).length<=1048576:=Ca (Wo _ _) J;have hi:=asw hk (b:Int) list (pre++m::post) ag ((pre++m::post).length:Int) (pre.length:Int) (Br (b:Int) m.nu) [] m.da (-1) 0 J hlo (As _) λk h=>by have:=Mg h;omega
    have hi2:bP ((b:Int),list,kn,ag,m.da,-1,0,pre++m::post,((pre++m::post).length:Int),(pre.length:Int),BV<|Br (b:Int) m.nu,((BV<|Br (b:Int) m.nu).length:Int),0,())=_:=hi;by_cases e3:(DM kn<|Br (b:Int) m.nu).length=1
    .obtain⟨u,hu⟩:=aBS.1 e3;rw[hu]at hh;have hub:=aDS hu;refine nxt _ A0 (YI hk hh).1 (aAw ag hh) ?_;unfold Nz;simp only[show A1 ((pre.length:Int)<((pre++m::post).length:Int))=A0 from Aa J,A5,AP hlen,Lr,ED,A9,e1,e2,AB,AU,EK,A7,iY,hi2,hu];simp only[AM,A9,asm,AP (show u<kn.length by rw[hk.1];exact hub),A5,Bb,hw];rfl
    .have hn:FC b kn m=U:=by
      rw[hh];split
      .rename_i u hu;rw[hu]at e3;exact absurd rfl e3
      .rfl
     refine nxt kn ag hk (WQ ag hn) ?_;unfold Nz;simp only[show A1 ((pre.length:Int)<((pre++m::post).length:Int))=A0 from Aa J,A5,AP hlen,Lr,ED,A9,e1,e2,AB,AU,EK,A7,iY,hi2];simp only[AM,A9,DF,show A1 (((DM kn<|Br (b:Int) m.nu).length:Int)=1)=A3 from BR J,A7,hw]
   .have hn:FC b kn m=U:=by
     unfold FC;rw[AD (by rw[BR e2,Bc];exact Cg)]
    refine nxt kn ag hk (WQ ag hn) ?_;unfold Nz;simp only[show A1 ((pre.length:Int)<((pre++m::post).length:Int))=A0 from Aa J,A5,AP hlen,Lr,ED,A9,BR e2,AI,Cv,hw]
  .have hn:FC b kn m=U:=by
    unfold FC;rw[AD (by rw[e1,AO];exact Cg)]
   refine nxt kn ag hk (WQ ag hn) ?_;unfold Nz;simp only[show A1 ((pre.length:Int)<((pre++m::post).length:Int))=A0 from Aa J,A5,AP hlen,Lr,ED,A9,e1,AI,Bo,hw]
def lu{b:Nat}(h0:0<b)(h6:b<=6)(n:Int):Ds (b:Int) n=inB n 0 999:=by
 unfold Ds;rw[Af.2 J,AW]
def aoB{b:Nat}{kn:List A4}(hk:D8 b kn)(n:Int){d:A4}(hd:d.size=4):
  eu ((b:Int),(n,d,()),kn,())=I ((BV<|DM kn<|Br (b:Int) n,B<|EQ kn (Br (b:Int) n)<|L d,()),()):=by
 unfold eu;simp only[zx,A9];have hlo:(Br (b:Int) n).length<=1048576:=Ca (Wo _ _) J;have hi:=arT hk (Br (b:Int) n) [] d [] hd hlo (As _) λk h=>by have:=Mg h;omega
 have hi2:ba (kn,[],d,BV<|Br (b:Int) n,0,())=_:=hi;rw[hi2];rfl
def sF(b n:Int)(d:A4):Rt (b,(n,d,()),())=I ((Ds b n&&A1 ((d.size:Int)=4),()),()):=by
 unfold Rt;simp only[WX,A9]
def aqO{b:Nat}(h0:0<b)(h6:b<=6)(post:List AT):∀(pre:List AT) (kn:List A4) (ag:Bool),D8 b kn->(pre++post).length<=1048576->
  UW ((b:Int),pre++post,kn,ag,(pre.length:Int),())=
   I (.inr ((b:Int),pre++post,(post.foldl (Cr b) (kn,ag)).1,(post.foldl (Cr b) (kn,ag)).2,())):=by
 induction post with
 | nil=>
  intro pre kn ag _ _;refine BP ?_;unfold Pf;simp only[CM,show A1 ((pre.length:Int)<(pre.length:Int))=A3 from BR J,A7];rfl
 | cons m post ih=>
  intro pre kn ag hk hl;have hlen:pre.length<(pre++m::post).length:=by simp
  have hw:=DZ hlen hl;have nxt:∀(kn':List A4) (ag':Bool),D8 b kn'->Cr b (kn,ag) m=(kn',ag')->
    Pf ((b:Int),pre++m::post,kn,ag,(pre.length:Int),())=I (.inl ((b:Int),pre++m::post,kn',ag',((pre.length+1:Nat):Int),()))->
    UW ((b:Int),pre++m::post,kn,ag,(pre.length:Int),())=
     I (.inr ((b:Int),pre++m::post,((m::post).foldl (Cr b) (kn,ag)).1,((m::post).foldl (Cr b) (kn,ag)).2,())):=by
   intro kn' ag' h1 h2 h3;refine B0 h3 ?_;have:=ih (pre++[m]) kn' ag' h1 (by rw[← snoc];exact hl);rw[← snoc,@Ar _ pre [m]]at this;rw[EL,h2];exact this
  rcases tf (inB m.nu 0 999&&A1 ((m.da.size:Int)=4)) with e|e
  .have e':=e;rw[AE]at e';have e2:=BX e'.2;have hh:FC b kn m=(match DM kn (Br (b:Int) m.nu) with|[u]=>I (kn.set u<|B<|EQ kn (Br (b:Int) m.nu)<|L m.da)|_=>U):=by
    unfold FC;rw[A8 e]<;>rfl
   have hL:=aoB hk m.nu (d:=m.da) J;by_cases e3:(DM kn<|Br (b:Int) m.nu).length=1
   .obtain⟨u,hu⟩:=aBS.1 e3;rw[hu]at hh;have hub:=aDS hu;refine nxt _ A0 (YI hk hh).1 (aAw ag hh) ?_;unfold Pf;simp only[show A1 ((pre.length:Int)<((pre++m::post).length:Int))=A0 from Aa J,A5,AP hlen,Lr,sF,lu h0 h6,A9,e,AB,A7,hL,hu];rw[A8<|by rfl,A8<|by rfl,show @rd Int (dfl .int) (BV [u]) 0=(u:Int) from rfl,A8<|AP (show u<kn.length by rw[hk.1];exact hub),hw];rfl
   .have hn:FC b kn m=U:=by
     rw[hh];split
     .rename_i u hu;rw[hu]at e3;exact absurd rfl e3
     .rfl
    refine nxt kn ag hk (WQ ag hn) ?_;unfold Pf;simp only[show A1 ((pre.length:Int)<((pre++m::post).length:Int))=A0 from Aa J,A5,AP hlen,Lr,sF,lu h0 h6,A9,e,AB,A7,hL,E5,
     show A1 (((DM kn<|Br (b:Int) m.nu).length:Int)=1)=A3 from BR J,hw]
  .have hn:FC b kn m=U:=by
    unfold FC;rw[AD (by rw[e];exact Cg)]
   refine nxt kn ag hk (WQ ag hn) ?_;unfold Pf;simp only[show A1 ((pre.length:Int)<((pre++m::post).length:Int))=A0 from Aa J,A5,AP hlen,Lr,sF,lu h0 h6,A9,e,AI,hw]
def aCF{b:Nat}(h6:b<=6)(list:List AT)(hl:list.length<=1048576):∀(n:Nat) (kn:List A4),D8 b kn->cnt (unk kn) b<n->
  qA ((b:Int),list,kn,A0,())=I (.inr (J4 b list n kn,()))
 | 0,_,_,h=>J
 | n+1,kn,hk,h=>by
  have hr:=ar8 h6 list list [] kn A3 hk hl;have hr2:Uf ((b:Int),list,kn,A3,list,(list.length:Int),0,())=I (.inr ((b:Int),list,(J1 b list kn).1,(J1 b list kn).2,())):=hr;obtain⟨g1,g2,g3,g4⟩:=SG list (kn,A3) hk;refine B0 (x':=((b:Int),list,(J1 b list kn).1,(J1 b list kn).2,())) ?_ ?_
  .unfold sB;simp only[A5,hr2];rfl
  .rw[J4];rcases tf (J1 b list kn).2 with e|e
   .rw[e,A8 rfl];rcases g4 e with g|g
    .cases g
    .exact aCF h6 list hl n _ g1 (Ga g<|Nat.le_of_lt_succ h)
   .rw[e,A7];exact BP rfl
def aBr{b:Nat}(h0:0<b)(h6:b<=6)(list:List AT)(hl:list.length<=1048576):∀(n:Nat) (kn:List A4),D8 b kn->cnt (unk kn) b<n->
  qN ((b:Int),list,kn,A0,())=I (.inr (J4 b list n kn,()))
 | 0,_,_,h=>J
 | n+1,kn,hk,h=>by
  have hr:=aqO h0 h6 list [] kn A3 hk hl;have hr2:UW ((b:Int),list,kn,A3,0,())=I (.inr ((b:Int),list,(J1 b list kn).1,(J1 b list kn).2,())):=hr;obtain⟨g1,g2,g3,g4⟩:=SG list (kn,A3) hk;refine B0 (x':=((b:Int),list,(J1 b list kn).1,(J1 b list kn).2,())) ?_ ?_
  .unfold ry;simp only[A5,hr2];rfl
  .rw[J4];rcases tf (J1 b list kn).2 with e|e
   .rw[e,A8 rfl];rcases g4 e with g|g
    .cases g
    .exact aBr h0 h6 list hl n _ g1 (Ga g<|Nat.le_of_lt_succ h)
   .rw[e,A7];exact BP rfl
def mP(f:Nat->Bool):∀k,cnt f k<=k
 | 0=>As _
 | k+1=>by
  have:=mP f k;rw[cnt];split<;>omega
def D8.new(b:Nat):D8 b (BT b noB):=by
 refine⟨by simp,λk hk=>NQ ?_⟩;rw[bsA,B9,Yh,A8 hk];rfl
def HL(b:Int)(list:List AT):List A4:=if inB b 1 6 then J4 b.toNat list 7 (BT b.toNat noB) else []
def amh(b:Int)(list:List AT)(hl:list.length<=1048576):eO (b,list,())=I ((HL b list,()),()):=by
 unfold eO HL;simp only[ED,A9];rcases tf (inB b 1 6) with e|e
 .have h1:=Af.1 e;simp only[e,AB,A7,A5];rw[A8 (by simp;omega)];have:=aCF (b:=b.toNat) J list hl 7 _ (D8.new _) (by have:=mP (unk<|BT b.toNat noB) b.toNat;omega);rw[show((b.toNat:Nat):Int)=b by omega]at this;rw[show(dfl .str:A4)=noB from rfl,this];rfl
 .simp only[e,AI,A5,A7]
def aln(b:Int)(list:List AT)(hl:list.length<=1048576):dy (b,list,())=I ((HL b list,()),()):=by
 unfold dy HL;simp only[Hl,A9];rcases tf (inB b 1 6) with e|e
 .have h1:=Af.1 e;simp only[e,AB,A7,A5];rw[A8 (by simp;omega)];have:=aBr (b:=b.toNat) J J list hl 7 _ (D8.new _) (by have:=mP (unk<|BT b.toNat noB) b.toNat;omega);rw[show((b.toNat:Nat):Int)=b by omega]at this;rw[show(dfl .str:A4)=noB from rfl,this];rfl
 .simp only[e,AI,A5,A7]
end Go.VS
end
