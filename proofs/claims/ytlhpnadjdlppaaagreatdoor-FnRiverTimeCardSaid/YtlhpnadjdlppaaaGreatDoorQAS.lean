/- Part 19. -/
import Derived.Lib.ItoaMem
import Derived.Test.YtlhpnadjdlppaaaGreatDoorQAR
open BitVec renaming eq_of_toNat_eq->jU,ofInt->Ez,toNat_ofInt->RG
open Bool renaming and_eq_true->AI,and_false->BZ,and_self->Cd,and_true->M4,eq_iff_iff->Og,false->A3,false_and->AN,false_ne_true->CV,false_or->Bo,not_eq_true'->Df,not_false->AE,not_true->AB,or_eq_false_iff->NO,or_eq_true->Cj,or_false->EN,or_self->Fa,or_true->DL,true->A1,true_and->AW,true_or->Bq
open ByteArray renaming size->Vq
open Classical renaming choose->OB,choose_spec->Ig
open Decidable renaming decide->A0
open Eq renaming trans->Kl
open Go.IntKind renaming wrap->WC
open Go.Lib renaming cut->FB,decDigits->jl,index_one->UW,itoa->B6,itoa_neg->pS,splitB->Ix,splitK->G4
open Int renaming emod_eq_of_lt->gS,eq_ofNat_of_zero_le->Gx,le_refl->Ja,mul_comm->QZ,mul_le_mul_of_nonneg_right->cO,mul_nonneg->XR,tdiv->Ay,tdiv_eq_ediv_of_nonneg->G5,tmod->B5,tmod_eq_emod_of_nonneg->KE,toNat->AK,toNat_natCast->Bw
open List renaming all_eq_true->C0,append_assoc->C2,append_cancel_left->wQ,append_nil->C1,concat_eq_append->ab9,cons_append->LB,count_cons_self->abp,drop->Bp,dropWhile_cons->jz,drop_append_of_le_length->oh,drop_drop->Jw,drop_eq_getElem_cons->Rt,drop_eq_nil_of_le->KH,drop_left'->R4,drop_zero->Ib,eq_nil_of_length_eq_zero->E9,eq_nil_or_concat->vg,filter_append->Xf,filter_cons->J7,filter_nil->aD,flatMap_append->oG,foldlM_cons->SG,foldl_cons->E6,foldl_nil->Mk,getD_eq_getElem?_getD->BG,getElem?_append_left->I6,getElem?_append_right->Ek,getElem?_drop->HW,getElem?_eq_getElem->B3,getElem?_eq_none->I0,getElem?_eq_some_iff->BM,getElem?_map->D5,getElem?_range->Gg,getElem?_replicate->WQ,getElem?_set->To,getElem_mem->Cm,getElem_of_mem->Dm,length->JC,length_append->Ap,length_cons->Bt,length_drop->Dc,length_eq_one_iff->ub,length_filter_le->IZ,length_map->EG,length_nil->CB,length_set->FK,length_singleton->JW,length_take->DN,length_zipWith->fK,map_append->F1,map_congr_left->GM,map_cons->DI,map_id->S1,map_map->HY,map_nil->JV,mem_append->Bk,mem_append_left->C5,mem_cons->Bj,mem_cons_of_mem->Aj,mem_cons_self->An,mem_filter->Hg,mem_iff_getElem->Wq,mem_map->DF,mem_of_getElem?->CZ,mem_of_mem_drop->Jm,mem_of_mem_take->ID,mem_range->D7,mem_singleton->DG,mem_singleton_self->OK,nil_append->Ef,not_mem_nil->NN,range->BO,range_succ->Kw,replicate->BX,replicate_succ->ae7,take->BH,takeWhile_append_dropWhile->YE,takeWhile_cons->RJ,takeWhile_sublist->aAQ,take_add_one->Lm,take_append_drop->Kk,take_left'->Ke,take_length->Ep,take_of_length_le->K8,take_take->aY,zipWith_cons_cons->PY
open List.cons renaming injEq->Ln
open Nat renaming add_assoc->Ct,add_comm->NL,add_zero->HN,le_refl->Ar,le_trans->C7,lt_of_lt_of_le->Gd,lt_or_ge->GO,lt_trichotomy->MU,mod_eq_of_lt->OM,mod_lt->P9,pow_succ->Re,sub_self->Ls,sub_zero->JR,zero_add->DS,zero_le->Ce
open Ne renaming symm->LA
open Option renaming bind_eq_some_iff->Al,bind_some->A9,filter_eq_some_iff->YO,getD_some->CF,isSome_some->CE,none->U,some->I
open Option.some renaming injEq->Br
open Or renaming inl->Nv,inr->Nh
open Prod.mk renaming injEq->CD
open UInt8 renaming ofNat->Jq,toNat_inj->Qh
set_option linter.all false
noncomputable section
namespace Go.VS
open Go
def atM{A R:Type}{t:(A->Option R)->A->Option R}{x:A}{v:R}(hv:∀k r,Be t k x=I r->r=v)(he:∃k,Be t k x=I v):O6 t x=I v:=by
 cases h:O6 t x with
 | none=>
  exfalso;obtain⟨k,hk⟩:=he;unfold O6 at h;rw[dif_pos ⟨k,v,hk⟩]at h;cases h
 | some r=>
  obtain⟨k,hk⟩:=xB h;rw[hv k r hk]
def gB{σ β γ:Type}{b:σ->Option (σ ⊕ (β ⊕ γ))}(st:Nat->σ)(n:Nat)(p:Nat->Bool)(r:β)(fin:γ)
  (h:∀i,i<n->(∀j,j<i->p j=A1)->b (st i)=I (if p i then .inl (st<|i+1) else .inr (.inl r)))
  (hn:(∀j,j<n->p j=A1)->b (st n)=I (.inr<|.inr fin)):AZ b (st 0)=I (if BJ n p then .inr fin else .inl r):=by
 have:∀k,k<=n->(∀j,j<n - k->p j=A1)->AZ b (st<|n - k)=I (if LX p k (n - k) then .inr fin else .inl r):=by
  intro k
  induction k with
  | zero=>intro _ hp;exact BT<|hn hp
  | succ k ih=>
   intro hk hp;have h1:=h (n - (k+1)) J hp;unfold LX;rcases tf (p<|n - (k+1)) with hq|hq
   .rw[hq]at h1;rw[hq,AW];refine B4 h1 ?_;rw[show n - (k+1)+1=n - k by omega];exact ih J (λj hj=>by
     rcases GO j (n - (k+1)) with h2|h2
     .exact hp j h2
     .rw[show j=n - (k+1) by omega];exact hq)
   .rw[hq]at h1;rw[hq,AN];exact BT h1
 have:=this n (Ar _) (λj hj=>by omega);rwa[Ls]at this
abbrev dcm(u:Nat):List UInt8:=jl u
def KP{u:Nat}(h:u<10):dcm u=[Jq (48+u)]:=Lib.decDigits_one h
def Lt{u:Nat}(h:¬u<10):dcm u=dcm (u / 10)++[Jq (48+u % 10)]:=by rw[dcm,jl,dif_neg h]
def LO:∀(k u:Nat),1<=k->u<10 ^ k->(dcm u).length<=k
 | 0,_,h,_=>J
 | 1,u,_,h=>by rw[KP J];simp
 | k+2,u,_,h=>by
  by_cases h1:u<10
  .rw[KP h1];simp
  .rw[Lt h1];have:=LO (k+1) (u / 10) J (by rw[Re]at h;omega);simp;omega
def Iy(u:Nat):B6 (u:Int)=dcm u:=Lib.itoa_nonneg u
def BF(n:Int):A4:=⟨(B6 n).toArray⟩
def mw{n:Nat}(h:n<10):BA [w8<|w64<|48+(n:Int)]=⟨(dcm n).toArray⟩:=by
 rw[KP h,AY J J,N9,show(48+(n:Int)) % 256=((48+n:Nat):Int) by omega];rfl
def uL(u:Nat):Ay (u:Int) 10=((u / 10:Nat):Int):=rfl
def abU(u:Nat):B5 (u:Int) 10=((u % 10:Nat):Int):=rfl
def ot(u:Nat):BA [w8<|w64<|48+((u % 10:Nat):Int)]=⟨[Jq (48+u % 10)].toArray⟩:=by
 rw[mw J,KP J]
def np(a b:List UInt8):(⟨a.toArray⟩:A4)++⟨b.toArray⟩=⟨(a++b).toArray⟩:=by
 apply F9;rw[Fp]
def ahP:jl 9223372036854775808=[57,50,50,51,51,55,50,48,51,54,56,53,52,55,55,53,56,48,56]:=by
 show dcm _=_
 repeat (first|rw[KP J]|rw[Lt J])
 rfl
def bU:∀(k:Nat) (n:Int),-9223372036854775808<=n->n<=9223372036854775807->∀r,Be (λg=>GC g) k (n,())=I r->r=((BF n,()),())
 | 0,_,_,_,r,h=>by cases h
 | k+1,n,h0,h1,r,h=>by
  have ih:=bU k
  replace h:GC (Be (λg=>GC g) k) (n,())=I r:=h
  generalize Be (λg=>GC g) k=G at ih h;unfold GC at h;by_cases hn:n < -9223372036854775807
  .simp only[hn,AO,A5]at h;cases h;obtain rfl:n= -9223372036854775808:=J
   have:BF (-9223372036854775808)=B [45,57,50,50,51,51,55,50,48,51,54,56,53,52,55,55,53,56,48,56]:=by
    apply F9;show B6 (-9223372036854775808)=_;rw[show(-9223372036854775808:Int)= -((9223372036854775808:Nat):Int) by rfl,pS _ J];rw[L_B];rw[ahP]
   rw[this]
  .rw[AD<|by simpa using hn]at h;by_cases NI:n<0
   .rw[A8<|by simpa using NI]at h;simp only at h;rw[AY J J]at h;obtain⟨r4,e4,h⟩:=Al.1 h;have:=ih (0 - n) J J r4 e4;subst this;split at h
    .cases h;obtain⟨u,hu⟩:=Gx (show 0<= -n by omega);obtain rfl:n= -(u:Int):=J
     have:BF (-(u:Int))=B [45]++BF (0 - -(u:Int)):=by
      unfold BF;rw[pS _ J,show(0:Int) - -(u:Int)=(u:Int) by omega,Iy];rw[B,np];rfl
     rw[this]
    .cases h
   .rw[AD<|by simpa using NI]at h;obtain⟨u,hu⟩:=Gx (show 0<=n by omega);obtain rfl:n=(u:Int):=hu;by_cases hs:u<10
    .rw[A8 (by simp;omega)]at h;simp only at h;cases h;rw[mw hs,BF,Iy]
    .rw[AD (by simp;omega)]at h;simp only[uL,abU]at h;rw[AY J J]at h;obtain⟨r7,e7,h⟩:=Al.1 h;have:=ih ((u / 10:Nat):Int) J J r7 e7;subst this;split at h
     .cases h;rw[ot,BF,BF,Iy,Iy,np,← Lt hs]
     .cases h
def pZ:∀(k u:Nat),1<=k->k<=19->u<10 ^ k->u<=9223372036854775807->Be (λg=>GC g) k ((u:Int),())=I ((⟨(dcm u).toArray⟩,()),())
 | 0,_,h,_,_,_=>J
 | k+1,u,_,hk,h,h63=>by
  have e1:A0 ((u:Int) < -9223372036854775807)=A3:=by simp
  have e2:A0 ((u:Int)<0)=A3:=by simp
  have ih:=pZ k<|u / 10;show GC (Be (λg=>GC g) k) _=_;generalize Be (λg=>GC g) k=G at ih;unfold GC;simp only[e1,e2,uL,abU,A6];by_cases hs:u<10
  .rw[A8 (by simp;omega),mw hs]
  .rw[AD (by simp;omega),AY J J];have hk0:1<=k:=by
    rcases Nat.eq_zero_or_pos k with rfl|h'
    .simp at h;omega
    .exact h'
   have hlt:u / 10<10 ^ k:=by rw[Re]at h;omega
   have hl:=LO k (u / 10) hk0 hlt;rw[ih hk0 J hlt J];simp only[A9];rw[A8,ot,np,← Lt hs];have:(⟨(dcm<|u / 10).toArray⟩:A4).size=(dcm<|u / 10).length:=rfl;rw[decide_eq_true_eq,this,ot];show _+1<=_;omega
def FE{n:Int}(h0: -9223372036854775808<=n)(h1:n<=9223372036854775807):D6 (n,())=I ((BF n,()),()):=by
 refine atM (λk r h=>bU k n h0 h1 r h) ?_;have Sb:∀u:Nat,u<=9223372036854775807->u<10 ^ 19:=λu hu=>J
 by_cases hn:n < -9223372036854775807
 .refine⟨1, ?_⟩;cases h:Be (λg=>GC g) 1 (n,()) with
  | none=>simp only[Be]at h;unfold GC at h;rw[A8<|by simpa using hn]at h;cases h
  | some r=>rw[bU 1 n h0 h1 r h]
 .by_cases NI:n<0
  .refine⟨20, ?_⟩;cases h:Be (λg=>GC g) 20 (n,()) with
   | none=>
    obtain⟨u,hu⟩:=Gx (show 0<= -n by omega);have ih:=pZ 19 u J J (Sb u J) J
    replace h:GC (Be (λg=>GC g) 19) (n,())=U:=h
    generalize Be (λg=>GC g) 19=G at ih h;unfold GC at h;rw[AD<|by simpa using hn,A8<|by simpa using NI]at h;simp only at h;rw[AY J J,show 0 - n=(u:Int) by omega,ih]at h;simp only[A9]at h;rw[A8]at h
    .cases h
    .have hl:=LO 19 u J<|Sb u J;have e:(⟨(dcm u).toArray⟩:A4).size=(dcm u).length:=rfl;rw[decide_eq_true_eq,e];show 1+_<=_;omega
   | some r=>rw[bU 20 n h0 h1 r h]
  .obtain⟨u,hu⟩:=Gx (show 0<=n by omega);obtain rfl:n=(u:Int):=hu;exact⟨19,by rw[pZ 19 u J J (Sb u J) J,BF,Iy]⟩
def Ip{n:Int}(h0: -9223372036854775808<=n)(h1:n<=9223372036854775807):Iu (n,())=I ((BF n,()),()):=by
 show V6 _=_;unfold V6;rw[A8 ⟨h0,h1⟩];rfl
def dig(b:UInt8):Bool:=inB (b.toNat:Int) 48 57
def val(l:List UInt8):Nat:=l.foldl (λa b=>10 * a+(b.toNat - 48)) 0
def c8(l:List UInt8)(b:UInt8):val (l++[b])=10 * val l+(b.toNat - 48):=by simp[val]
def aq3{l:List UInt8}{i:Nat}(h:i<l.length):l.take (i+1)=l.take i++[l.getD i 0]:=by
 rw[Lm,B3 h];simp[h]
def Zq:∀(k:Nat) (l:List UInt8),l.length<=k->(∀b∈l,dig b=A1)->val l<10 ^ k:=by
 intro k
 induction k with
 | zero=>
  intro l hl _;obtain rfl:l=[]:=E9 J;decide
 | succ k ih=>
  intro l hl hd;rcases vg l with rfl|⟨m,b,rfl⟩
  .exact Nat.pow_pos (by decide)
  .simp at hl hd;have h1:=ih m J (λx hx=>hd x<|.inl hx);have h2:=hd b<|.inr rfl;rw[ab9,c8,Re];have h3:=Ae.1 h2;omega
def alH{m:List UInt8}:∀ {b:UInt8},dig b=A1->b≠48->(∀x∈m,dig x=A1)->1<=val (b::m):=by
 intro b hb hne hd;have h0:1<=val [b]:=by
  have:=Ae.1 hb;have hn:b.toNat≠48:=λh=>hne<|Qh.1 h;simp[val];omega
 have:∀(m:List UInt8) (a:Nat),1<=a->1<=m.foldl (λa b=>10 * a+(b.toNat - 48)) a:=by
  intro m
  induction m with
  | nil=>intro a h;exact h
  | cons x m ih=>intro a h;exact ih _<|show 1<=10 * a+(x.toNat - 48) by omega
 exact this m _<|by simpa[val] using h0
def JI(l:List UInt8):Bool:=match l with
 | []=>A3
 | [_]=>A1
 | b::_::_=> !decide (b=48)
def aed:∀(k:Nat) (l:List UInt8),l.length=k->(∀b∈l,dig b=A1)->JI l=A1->dcm (val l)=l:=by
 intro k
 induction k with
 | zero=>intro l hl _ h;obtain rfl:l=[]:=E9 hl;cases h
 | succ k ih=>
  intro l hl hd th;rcases vg l with rfl|⟨m,b,rfl⟩
  .cases th
  .rw[ab9]at *;simp at hl;have hb:=hd b (by simp);have hb2:=Ae.1 hb;have hof:∀n,b.toNat=n->Jq n=b:=λn h=>by rw[← h];simp
   cases m with
   | nil=>
    have:val ([]++[b])=b.toNat - 48:=by simp[val]
    rw[this,KP J,hof _ J];rfl
   | cons c m=>
    have hc:c≠48:=by
     cases m<;>simpa[JI] using th
    have h1:=alH (m:=m) (hd c<|by simp) hc (λx hx=>hd x<|by simp[hx]);rw[c8,Lt J,show(10 * val (c::m)+(b.toNat - 48)) / 10=val (c::m) by omega,show(10 * val (c::m)+(b.toNat - 48)) % 10=b.toNat - 48 by omega,
     ih (c::m) hl (λx hx=>hd x<|C5 _ hx) (by cases m<;>simp[JI,hc]),hof _ J]
def cq:∀(k u:Nat),u<k->∀b∈dcm u,dig b=A1:=by
 intro k
 induction k with
 | zero=>intro u h;omega
 | succ k ih=>
  intro u h b hb;have hd:∀n,n<10->dig (Jq<|48+n)=A1:=λn hn=>by
   have:(Jq<|48+n).toNat=48+n:=by simp;omega
   unfold dig;rw[this];exact Ae.2 ⟨J,J⟩
  by_cases hu:u<10
  .rw[KP hu]at hb;obtain rfl:=DG.1 hb;exact hd u hu
  .rw[Lt hu]at hb;rcases Bk.1 hb with hb|hb
   .exact ih (u / 10) J b hb
   .obtain rfl:=DG.1 hb;exact hd _ J
def dL:∀(k u:Nat),u<k->val (dcm u)=u:=by
 intro k
 induction k with
 | zero=>intro u h;omega
 | succ k ih=>
  intro u h;by_cases hu:u<10
  .rw[KP hu];have:(Jq<|48+u).toNat=48+u:=by simp;omega
   simp only[val,E6,Mk,this];omega
  .rw[Lt hu,c8,ih (u / 10) J];have:(Jq<|48+u % 10).toNat=48+u % 10:=by simp;omega
   rw[this];omega
def la(u:Nat):dcm u≠[]:=by
 by_cases hu:u<10
 .rw[KP hu];simp
 .rw[Lt hu];simp
def rC:∀(k u:Nat),u<k->JI (dcm u)=A1/\(1<=u->∃b m,dcm u=b::m/\b≠48):=by
 intro k
 induction k with
 | zero=>intro u h;omega
 | succ k ih=>
  intro u h;by_cases hu:u<10
  .rw[KP hu];refine⟨rfl,λh1=>⟨_,_,rfl,λh2=> ?_⟩⟩;have:(Jq<|48+u).toNat=48+u:=by simp;omega
   rw[h2]at this;simp at this;omega
  .obtain⟨b,m,h1,h2⟩:=(ih (u / 10) J).2 J;rw[Lt hu,h1];refine⟨?_,λ_=>⟨b,_,rfl,h2⟩⟩;cases m<;>simp[JI,h2]
def KU(l:List UInt8):Option Nat:=if l.all dig&&JI l then I (val l) else U
def Qo{l:List UInt8}{n:Nat}:KU l=I n↔l=dcm n:=by
 unfold KU;constructor
 .intro h;split at h
  .rename_i hc;simp at hc;cases h;exact(aed _ l rfl hc.1 hc.2).symm
  .cases h
 .rintro rfl;rw[A8,dL (n+1) n J];simp only[AI,C0];exact⟨cq (n+1) n J,(rC (n+1) n J).1⟩
def apa{s:A4}{i:Nat}:inB (bt s i) 48 57=dig ((L s).getD i 0):=rfl
def aaV{l:List UInt8}{f:UInt8->Bool}:BJ l.length (λi=>f<|l.getD i 0)=l.all f:=by
 rw[Og,Dq,C0];constructor
 .intro h x hx;obtain⟨i,hi,rfl⟩:=Dm hx;have:=h i hi;simpa[hi] using this
 .intro h i hi;simpa[hi] using h _<|Cm hi
def vD{s:A4}{i:Nat}(h:∀j,j<i->inB (bt s j) 48 57=A1)(hi:i<=s.size):∀b∈(L s).take i,dig b=A1:=by
 intro b hb;obtain⟨j,hj,rfl⟩:=Dm hb;simp at hj;have h1:=h j J;rw[apa]at h1;have h2:j<(L s).length:=by rw[Av];omega
 rw[List.getElem_take];have e:(L s).getD j 0=(L s)[j]:=by rw[BG,B3 h2];rfl
 rwa[e]at h1
def pw{s:A4}{i:Nat}(hi:i<s.size):val ((L s).take<|i+1)=10 * val ((L s).take i)+(((L s).getD i 0).toNat - 48):=by
 rw[aq3 (by rw[Av];exact hi),c8]
def Ao(s:A4):Int×Bool:=if s.size<=5 then(match KU (L s) with|some n=>((n:Int),A1)|none=>(0,A3)) else(0,A3)
def apA{s:A4}(h:1<=s.size):JI (L s)= !(A0 (bt s 0=48)&&A0 (1<(s.size:Int))):=by
 rw[show s.size=(L s).length from rfl]at *;unfold bt;show _= !(A0 ((((L s).getD 0 0).toNat:Int)=48)&&_);generalize L s=l at *
 match l with
 | []=>simp at h
 | [b]=>simp[JI]
 | b::c::m=>
  have:(((b:UInt8).toNat:Int)=48)↔b=48:=⟨λh=>Qh.1 (by show b.toNat=48;omega),λh=>by subst h;rfl⟩;simp only[JI,List.getD_cons_zero,this];simp;omega
def uI(s:A4):(L s).take s.size=L s:=K8 (by rw[Av];exact Ar _)
def dI{s:A4}(hs:s.size<=9223372036854775807):PF (s,())=I (((Ao s).1,(Ao s).2,()),()):=by
 unfold PF Ao;simp only[ED,A9];by_cases h5:s.size<=5
 .by_cases h1:1<=s.size
  .have e1:inB (s.size:Int) 1 5=A1:=Ae.2 ⟨J,J⟩;have e2:inb 0 s.size=A1:=by have:=AX (show 0<s.size by omega);simpa using this
   have GZ:nb (s,0,0,())=I (if BJ s.size (λi=>inB (bt s i) 48 57) then .inr ((val (L s):Int),()) else .inl (0,A3,())):=by
    rw[← uI s];refine gB (λi=>(s,(val ((L s).take i):Int),(i:Int),())) s.size (λi=>inB (bt s i) 48 57) (0,A3,()) ((val ((L s).take s.size):Int),()) (λi hi hp=> ?_) (λ_=>by simp[XA]);unfold XA;simp only[AX hi,BS hi,aan,ED,A9,BL hi (by omega:s.size<=9223372036854775807)];rcases tf (inB (bt s i) 48 57) with h|h
    .have hv:=Zq 5 _ (by simp;omega)<|vD hp J;have hb:=Ae.1 h;have e:w64 (w64 (10 * (val ((L s).take i):Int))+w64 (w8<|bt s i - 48))=(val ((L s).take<|i+1):Int):=by
      rw[pw hi,N9,AY (n:=10 * _) J J,gS J J,AY (n:=bt s i - 48) J J,AY J J];rw[KV]at hb ⊢;omega
     simp only[h,e];rfl
    .simp only[h];rfl
   rw[e1,e2,A8 h5];simp only[GZ,AB,AE,Bo,II,A5];have Du:BJ s.size (λi=>inB (bt s i) 48 57)=(L s).all dig:=aaV (l:=L s) (f:=dig);rw[Du];unfold KU;rw[apA h1];rcases tf (A0 (bt s 0=48)&&A0 (1<(s.size:Int))) with h|h
   .rw[h];simp
   .rw[h];rcases tf ((L s).all dig) with h'|h'
    .rw[h'];rfl
    .rw[h'];rfl
  .have e1:inB (s.size:Int) 1 5=A3:=by simp[inB];omega
   have:L s=[]:=E9 (by rw[Av];omega);rw[e1,A8 h5,this];simp[KU,JI]
 .have e1:inB (s.size:Int) 1 5=A3:=by simp[inB];omega
  rw[e1,AD h5];simp
def Ac(s:A4):Int:=if s.size<=4 then(match KU (L s) with|some n=>(n:Int)|none=> -1) else -1
def rI(u:Nat):BF (u:Int)=⟨(dcm u).toArray⟩:=by rw[BF,Iy]
def lv{s:A4}(hs:s.size<=9223372036854775807):P8 (s,())=I ((Ac s,()),()):=by
 unfold P8 Ac;by_cases h5:s.size<=4
 .by_cases h1:1<=s.size
  .have e1:(A0 ((s.size:Int)<1)||decide (4<(s.size:Int)))=A3:=by simp;omega
   have GZ:fM (s,0,0,())=I (if BJ s.size (λi=>inB (bt s i) 48 57) then .inr (s,(val (L s):Int),()) else .inl (-1,())):=by
    rw[← uI s];refine gB (λi=>(s,(val ((L s).take i):Int),(i:Int),())) s.size (λi=>inB (bt s i) 48 57) (-1,()) (s,(val ((L s).take s.size):Int),()) (λi hi hp=> ?_) (λ_=>by simp[bL]);unfold bL;simp only[AX hi,BS hi,BL hi (by omega:s.size<=9223372036854775807)];rcases tf (inB (bt s i) 48 57) with h|h
    .have hv:=Zq 5 _ (by simp;omega)<|vD hp J;have hb:=Ae.1 h;have e:w64 (w64 ((val ((L s).take i):Int) * 10)+w64 (w8<|bt s i - 48))=(val ((L s).take<|i+1):Int):=by
      rw[pw hi,N9,AY (n:=_ * 10) J J,gS J J,AY (n:=bt s i - 48) J J,AY J J];rw[KV]at hb ⊢;omega
     have e2:A0 (bt s i<48)=A3:=by simp;omega
     have e3:A0 (57<bt s i)=A3:=by simp;omega
     simp only[h,e,e2,e3];rfl
    .have hb:bt s i<48\/57<bt s i:=by
      have:=mt Ae.2 (by rw[h];simp);omega
     simp only[h];obtain hb|hb:=hb
     .simp[hb]
     .have:¬bt s i<48:=J
      simp[hb,this]
   rw[e1,A8 h5];simp only[GZ,A6];have Du:BJ s.size (λi=>inB (bt s i) 48 57)=(L s).all dig:=aaV (l:=L s) (f:=dig);rw[Du];unfold KU;rcases tf ((L s).all dig) with h'|h'
   .have hd:=C0.1 h';have hv:=Zq 5 (L s) (by rw[Av];omega) hd;simp only[h',A5,De,AW,FE (n:=(val (L s):Int)) J J,A9,rI];rcases tf (JI<|L s) with hl|hl
    .have:(⟨(dcm<|val<|L s).toArray⟩:A4)=s:=by
      apply F9;rw[oY,aed _ _ rfl hd hl]
     simp[this,hl]
    .have:¬(⟨(dcm<|val<|L s).toArray⟩:A4)=s:=λh=>by
      have h2:=congrArg L h;rw[oY]at h2;rw[← h2,(rC (val (L s)+1) _ J).1]at hl;cases hl
     simp[this,hl]
   .rw[h'];rfl
  .have e1:(A0 ((s.size:Int)<1)||decide (4<(s.size:Int)))=A1:=by simp;omega
   have:L s=[]:=E9 (by rw[Av];omega);rw[e1,A8 h5,this];simp[KU,JI]
 .have e1:(A0 ((s.size:Int)<1)||decide (4<(s.size:Int)))=A1:=by simp;omega
  rw[e1,AD h5];simp
def aqC{s:A4}{n:Nat}:Ao s=((n:Int),A1)↔s.size<=5/\L s=dcm n:=by
 unfold Ao;by_cases h:s.size<=5
 .rw[A8 h];constructor
  .intro h2;cases h3:KU (L s) with
   | none=>rw[h3]at h2;cases h2
   | some m=>
    rw[h3]at h2;simp at h2;exact⟨h,by rw[Qo.1 h3,show m=n by omega]⟩
  .rintro⟨_,h2⟩;rw[Qo.2 h2]
 .rw[AD h];constructor
  .intro h2;cases h2
  .rintro⟨h2,_⟩;exact absurd h2 h
def QC(s:A4):Ao s=(0,A3)\/ ∃n:Nat,Ao s=((n:Int),A1)/\s.size<=5/\L s=dcm n:=by
 unfold Ao;by_cases h:s.size<=5
 .rw[A8 h];cases h2:KU (L s) with
  | none=>exact .inl rfl
  | some n=>exact .inr ⟨n,rfl,h,Qo.1 h2⟩
 .rw[AD h];exact .inl rfl
def QR(s:A4):(Ac s= -1/\ ∀n,L s=dcm n->4<s.size)\/ ∃n:Nat,Ac s=(n:Int)/\s.size<=4/\L s=dcm n:=by
 unfold Ac;by_cases h:s.size<=4
 .rw[A8 h];cases h2:KU (L s) with
  | none=>exact .inl ⟨rfl,λn hn=>by rw[Qo.2 hn]at h2;cases h2⟩
  | some n=>exact .inr ⟨n,rfl,h,Qo.1 h2⟩
 .rw[AD h];exact .inl ⟨rfl,λn _=>by omega⟩
def iI{s:A4}{n:Nat}(h:s.size<=4)(hn:L s=dcm n):Ac s=(n:Int):=by
 unfold Ac;rw[A8 h,Qo.2 hn]
def gk{s:A4}{n:Nat}(h:s.size<=5)(hn:L s=dcm n):Ao s=((n:Int),A1):=aqC.2 ⟨h,hn⟩
section
variable {α:Type} (f:α->Bool)
def ins(l:List α)(n:α):List α:=l.takeWhile f++n::l.dropWhile f
abbrev tw(l:List α):Nat:=(l.takeWhile f).length
def Ql(l:List α):tw f l<=l.length:=by
 exact(aAQ f).length_le
def Zu(l:List α):l.take (tw f l)=l.takeWhile f:=by
 have:=List.take_left (l₁:=l.takeWhile f) (l₂:=l.dropWhile f);rwa[YE]at this
def aC(l:List α):l.drop (tw f l)=l.dropWhile f:=by
 have:=List.drop_left (l₁:=l.takeWhile f) (l₂:=l.dropWhile f);rwa[YE]at this
def UX:∀ {l:List α} {i:Nat} {x:α},i<tw f l->l[i]? =I x->f x=A1
 | [],i,x,h,hx=>by simp at hx
 | y::l,i,x,h,hx=>by
  unfold tw at h;rw[RJ]at h;split at h
  .rename_i hy;cases i with
   | zero=>simp at hx;subst hx;exact hy
   | succ i=>exact UX (l:=l) (i:=i) (by simpa using h) (by simpa using hx)
  .simp at h
def Vg:∀ {l:List α} {x:α},l[tw f l]? =I x->f x=A3
 | [],x,hx=>by simp at hx
 | y::l,x,hx=>by
  unfold tw at hx;rw[RJ]at hx;split at hx
  .exact Vg (l:=l) (by simpa using hx)
  .rename_i hy;simp at hx;subst hx;simpa using hy
def W5(l:List α)(n:α):(ins f l n).length=l.length+1:=by
 have:=congrArg JC<|YE (p:=f) (l:=l);rw[Ap]at this;simp only[ins,Ap,Bt];omega
def Ux{l:List α}{n x:α}(h:x∈ins f l n):x=n\/x∈l:=by
 unfold ins at h;rw[Bk,Bj]at h;obtain h|h|h:=h
 .exact .inr ((aAQ f).mem h)
 .exact .inl h
 .exact .inr<|(List.dropWhile_sublist f).mem h
def auR{l:List α}{n x:α}(h:x=n\/x∈l):x∈ins f l n:=by
 unfold ins;rw[Bk,Bj];obtain h|h:=h
 .exact .inr (.inl h)
 .rw[← YE (p:=f) (l:=l),Bk]at h;obtain h|h:=h
  .exact .inl h
  .exact .inr<|.inr h
end
def jD{α:Type}{f g:α->Bool}:∀ {l:List α},(∀x∈l,f x=g x)->l.takeWhile f=l.takeWhile g/\l.dropWhile f=l.dropWhile g
 | [],_=>⟨rfl,rfl⟩
 | x::l,h=>by
  have ih:=jD (l:=l) (λy hy=>h y<|Aj _ hy);rw[RJ,RJ,jz,jz,h x An,ih.1,ih.2];exact⟨rfl,rfl⟩
def aA5{α:Type}{f g:α->Bool}{l:List α}{n:α}(h:∀x∈l,f x=g x):ins f l n=ins g l n:=by
 unfold ins;rw[(jD h).1,(jD h).2]
def EF{l:List A7}{i:Nat}{x:A7}(h:l[i]? =I x):nA l i=x:=PA h
def Ge{l:List Mark}{i:Nat}{x:Mark}(h:l[i]? =I x):mA l i=x:=PA h
def Eg(l:List A7)(n:A7):List A7:=ins (λx=>bef x.fr x.nu n.fr n.nu) l n
def Fm(l:List Mark)(n:Mark):List Mark:=ins (λx=>bef x.mf x.mn n.mf n.mn) l n
def dd{α:Type}{l:List α}{i:Nat}{x:α}(h:l[i]? =I x):l.take i++[x]=l.take (i+1):=by
 rw[Lm,h];rfl
def aal{α:Type}{l:List α}{i j:Nat}{x:α}(h:l[i]? =I x)(hj:j<=i):(l.take i).drop j++[x]=(l.take<|i+1).drop j:=by
 have hi:=(BM.1 h).1;rw[← dd h,oh (by simp;omega)]
def D9{α:Type}(g:α->Bool)(l:List α)(n:α)(i:Nat):List α:=if i<=tw g l then l.take i else l.take (tw g l)++n::(l.take i).drop (tw g l)
def XK{α:Type}(g:α->Bool)(l:List α)(n:α)(i:Nat):(D9 g l n i).length<=l.length+1:=by
 have:=Ql g l;unfold D9;split<;>simp<;>omega
def aA9{α:Type}(g:α->Bool)(l:List α)(n:α):(if tw g l<l.length then D9 g l n l.length else D9 g l n l.length++[n])=ins g l n:=by
 have h:=Ql g l;unfold D9 ins;split
 .rw[AD J,Ep,Zu,aC]
 .rw[A8 J,Ep];have:tw g l=l.length:=J
  rw[← Zu,← aC,this];simp
def yK{α:Type}{g:α->Bool}{l:List α}{n x:α}{i:Nat}(h:l[i]? =I x)(hi:i<tw g l):D9 g l n i++[x]=D9 g l n (i+1):=by
 unfold D9;rw[A8 J,A8 J,dd h]
def aaF{α:Type}{g:α->Bool}{l:List α}{n x:α}{i:Nat}(h:l[i]? =I x)(hi:i=tw g l):D9 g l n i++[n]++[x]=D9 g l n (i+1):=by
 subst hi;unfold D9;rw[A8<|Ar _,AD J,← aal h<|Ar _];simp
def acW{α:Type}{g:α->Bool}{l:List α}{n x:α}{i:Nat}(h:l[i]? =I x)(hi:tw g l<i):D9 g l n i++[x]=D9 g l n (i+1):=by
 unfold D9;rw[AD J,AD J,← aal h J];simp
def ai{l:List A7}{fr nu tt un:Int}{tx:A4}(hl:l.length<=1048576):P7 (l,(fr,nu,tt,un,tx,()),())=I ((Eg l ⟨fr,nu,tt,un,tx⟩,()),()):=by
 have ht:=Ql (λx:A7=>bef x.fr x.nu fr nu) l;have h:mS (l,(fr,nu,tt,un,tx,()),0,())=I (.inr (l,(fr,nu,tt,un,tx,()),((tw (λx:A7=>bef x.fr x.nu fr nu) l:Nat):Int),())):=
  Ca (λi=>(l,(fr,nu,tt,un,tx,()),(i:Int),())) (tw (λx:A7=>bef x.fr x.nu fr nu) l) (λi hi=>by
   have hi':i<l.length:=J
   have hx:=B3 hi';unfold bf;simp only[AX hi',BS hi',Dd,Qg,BL hi' (by omega:l.length<=9223372036854775807),EF hx,UX (λx:A7=>bef x.fr x.nu fr nu) hi hx];rfl) (by
   unfold bf;generalize ht2:tw (λx:A7=>bef x.fr x.nu fr nu) l=t at *;rcases GO t l.length with hlt|hge
   .have hx:=B3 hlt;have:=Vg (λx:A7=>bef x.fr x.nu fr nu) (l:=l) (x:=l[t]) (by rw[ht2];exact hx);simp only[AX hlt,BS hlt,Dd,Qg,EF hx,this];rfl
   .have e:A0 ((t:Int)<(l.length:Int))=A3:=by simp;omega
    simp only[e,HF,A5,AN,A6])
 unfold P7;have hb:(A0 (0<=((tw (λx:A7=>bef x.fr x.nu fr nu) l:Nat):Int))&&A0 (((tw (λx:A7=>bef x.fr x.nu fr nu) l:Nat):Int)<=(l.length:Int)))=A1:=by simp;omega
 simp only[h,De,hb,A5,Bw,Ef,CB,DS,Ap,Bt,DN,Dc];rw[A8<|B7 J,A8<|B7 J,A8<|B7 J,Zu,aC];simp[Eg,ins]
def Oy(l:List A7)(n:A7):List A7:=ins (λx=> !bef n.fr n.nu x.fr x.nu) l n
def YM{l:List A7}{fr nu tt un:Int}{tx:A4}(hl:l.length<=1048576):OL (l,(fr,nu,tt,un,tx,()),())=I ((Oy l ⟨fr,nu,tt,un,tx⟩,()),()):=by
 let g:A7->Bool:=λx=> !bef fr nu x.fr x.nu
 have ht:=Ql g l;have h:gJ (l,(fr,nu,tt,un,tx,()),[],A3,0,())=I (.inr ((fr,nu,tt,un,tx,()),D9 g l ⟨fr,nu,tt,un,tx⟩ l.length,A0<|tw g l<l.length,())):=by
  refine Ca (λi=>(l,(fr,nu,tt,un,tx,()),D9 g l ⟨fr,nu,tt,un,tx⟩ i,A0<|tw g l<i,(i:Int),())) l.length (λi hi=> ?_) (by simp[XV]);have hx:=B3 hi;have hr:=XK g l ⟨fr,nu,tt,un,tx⟩ i;unfold XV;simp only[AX hi,BS hi,Dd,W6,BL hi (by omega:l.length<=9223372036854775807),EF hx,Bt,CB,DS,B7<|show(D9 g l ⟨fr,nu,tt,un,tx⟩ i).length+1<=4294967296 by omega];rcases MU i (tw g l) with hlt|heq|hgt
  .have h1:bef fr nu l[i].fr l[i].nu=A3:=by simpa[g] using UX g hlt hx
   have h2:A0 (tw g l<i)=A3:=by simp;omega
   have h3:A0 (tw g l<i+1)=A3:=by simp;omega
   simp only[h1,h2,h3,II,AE,A5,CE,CF,BZ,A6,Bg,Dd,EF hx,AX hi,B7<|show(D9 g l ⟨fr,nu,tt,un,tx⟩ i).length+1<=4294967296 by omega,yK hx hlt,BL hi (by omega:l.length<=9223372036854775807)]
  .have hx2:l[tw g l]? =I l[i]:=by rw[← heq];exact hx
   have h1:bef fr nu l[i].fr l[i].nu=A1:=by simpa[g] using Vg g hx2
   have h2:A0 (tw g l<i)=A3:=by simp;omega
   have h3:A0 (tw g l<i+1)=A1:=by simp;omega
   have h4:D9 g l ⟨fr,nu,tt,un,tx⟩ i++[⟨fr,nu,tt,un,tx⟩]++[l[i]]=D9 g l ⟨fr,nu,tt,un,tx⟩ (i+1):=aaF hx heq;simp only[h1,h2,h3,h4,II,AE,A5,CE,CF,Cd,Bg,Dd,EF hx,AX hi,Ap,Bt,CB,DS,B7<|show(D9 g l ⟨fr,nu,tt,un,tx⟩ i).length+1+1<=4294967296 by omega,BL hi (by omega:l.length<=9223372036854775807)]
  .have h2:A0 (tw g l<i)=A1:=by simp;omega
   have h3:A0 (tw g l<i+1)=A1:=by simp;omega
   simp only[h2,h3,HF,AB,A5,AN,A6,Bg,Dd,EF hx,AX hi,B7<|show(D9 g l ⟨fr,nu,tt,un,tx⟩ i).length+1<=4294967296 by omega,acW hx hgt,BL hi (by omega:l.length<=9223372036854775807)]
 unfold OL;simp only[h,De];have he:=aA9 g l ⟨fr,nu,tt,un,tx⟩;have hr:=XK g l ⟨fr,nu,tt,un,tx⟩ l.length;unfold Oy;show _=I ((ins g l _,()),());rw[← he];by_cases hc:tw g l<l.length
 .simp[hc]
 .simp[hc,B7<|show(D9 g l ⟨fr,nu,tt,un,tx⟩ l.length).length+1<=4294967296 by omega]
def Gh(t:Int)(l:List A7):List A7:=l.filter λx=>A0<|t<x.un
def mV{l:List Mark}{mf mn mu:Int}(hl:l.length<=1048576):RF (l,(mf,mn,mu,()),())=I ((Fm l ⟨mf,mn,mu⟩,()),()):=by
 have ht:=Ql (λx:Mark=>bef x.mf x.mn mf mn) l;have h:eV (l,(mf,mn,mu,()),0,())=I (.inr (l,(mf,mn,mu,()),((tw (λx:Mark=>bef x.mf x.mn mf mn) l:Nat):Int),())):=
  Ca (λi=>(l,(mf,mn,mu,()),(i:Int),())) (tw (λx:Mark=>bef x.mf x.mn mf mn) l) (λi hi=>by
   have hi':i<l.length:=J
   have hx:=B3 hi';unfold Xk;simp only[AX hi',BS hi',Eu,Qg,BL hi' (by omega:l.length<=9223372036854775807),Ge hx,UX (λx:Mark=>bef x.mf x.mn mf mn) hi hx];rfl) (by
   unfold Xk;generalize ht2:tw (λx:Mark=>bef x.mf x.mn mf mn) l=t at *;rcases GO t l.length with hlt|hge
   .have hx:=B3 hlt;have:=Vg (λx:Mark=>bef x.mf x.mn mf mn) (l:=l) (x:=l[t]) (by rw[ht2];exact hx);simp only[AX hlt,BS hlt,Eu,Qg,Ge hx,this];rfl
   .have e:A0 ((t:Int)<(l.length:Int))=A3:=by simp;omega
    simp only[e,HF,A5,AN,A6])
 unfold RF;have hb:(A0 (0<=((tw (λx:Mark=>bef x.mf x.mn mf mn) l:Nat):Int))&&A0 (((tw (λx:Mark=>bef x.mf x.mn mf mn) l:Nat):Int)<=(l.length:Int)))=A1:=by simp;omega
 simp only[h,De,hb,A5,Bw,Ef,CB,DS,Ap,Bt,DN,Dc];rw[A8<|B7 J,A8<|B7 J,A8<|B7 J,Zu,aC];simp[Fm,ins]
def PC(l:List Mark)(n:Mark):List Mark:=ins (λx=> !bef n.mf n.mn x.mf x.mn) l n
def pN{l:List Mark}{mf mn mu:Int}(hl:l.length<=1048576):Q5 (l,(mf,mn,mu,()),())=I ((PC l ⟨mf,mn,mu⟩,()),()):=by
 let g:Mark->Bool:=λx=> !bef mf mn x.mf x.mn
 have ht:=Ql g l;have h:fg (l,(mf,mn,mu,()),[],A3,0,())=I (.inr ((mf,mn,mu,()),D9 g l ⟨mf,mn,mu⟩ l.length,A0<|tw g l<l.length,())):=by
  refine Ca (λi=>(l,(mf,mn,mu,()),D9 g l ⟨mf,mn,mu⟩ i,A0<|tw g l<i,(i:Int),())) l.length (λi hi=> ?_) (by simp[bE]);have hx:=B3 hi;have hr:=XK g l ⟨mf,mn,mu⟩ i;unfold bE;simp only[AX hi,BS hi,Eu,W6,BL hi (by omega:l.length<=9223372036854775807),Ge hx,Bt,CB,DS,B7<|show(D9 g l ⟨mf,mn,mu⟩ i).length+1<=4294967296 by omega];rcases MU i (tw g l) with hlt|heq|hgt
  .have h1:bef mf mn l[i].mf l[i].mn=A3:=by simpa[g] using UX g hlt hx
   have h2:A0 (tw g l<i)=A3:=by simp;omega
   have h3:A0 (tw g l<i+1)=A3:=by simp;omega
   simp only[h1,h2,h3,II,AE,A5,CE,CF,BZ,A6,Bg,Eu,Ge hx,AX hi,B7<|show(D9 g l ⟨mf,mn,mu⟩ i).length+1<=4294967296 by omega,yK hx hlt,BL hi (by omega:l.length<=9223372036854775807)]
  .have hx2:l[tw g l]? =I l[i]:=by rw[← heq];exact hx
   have h1:bef mf mn l[i].mf l[i].mn=A1:=by simpa[g] using Vg g hx2
   have h2:A0 (tw g l<i)=A3:=by simp;omega
   have h3:A0 (tw g l<i+1)=A1:=by simp;omega
   have h4:D9 g l ⟨mf,mn,mu⟩ i++[⟨mf,mn,mu⟩]++[l[i]]=D9 g l ⟨mf,mn,mu⟩ (i+1):=aaF hx heq;simp only[h1,h2,h3,h4,II,AE,A5,CE,CF,Cd,Bg,Eu,Ge hx,AX hi,Ap,Bt,CB,DS,B7<|show(D9 g l ⟨mf,mn,mu⟩ i).length+1+1<=4294967296 by omega,BL hi (by omega:l.length<=9223372036854775807)]
  .have h2:A0 (tw g l<i)=A1:=by simp;omega
   have h3:A0 (tw g l<i+1)=A1:=by simp;omega
   simp only[h2,h3,HF,AB,A5,AN,A6,Bg,Eu,Ge hx,AX hi,B7<|show(D9 g l ⟨mf,mn,mu⟩ i).length+1<=4294967296 by omega,acW hx hgt,BL hi (by omega:l.length<=9223372036854775807)]
 unfold Q5;simp only[h,De];have he:=aA9 g l ⟨mf,mn,mu⟩;have hr:=XK g l ⟨mf,mn,mu⟩ l.length;unfold PC;show _=I ((ins g l _,()),());rw[← he];by_cases hc:tw g l<l.length
 .simp[hc]
 .simp[hc,B7<|show(D9 g l ⟨mf,mn,mu⟩ l.length).length+1<=4294967296 by omega]
def Js(t:Int)(l:List Mark):List Mark:=l.filter λx=>A0<|t<x.mu
def XP{α:Type}{l:List α}{f:α->Bool}{i:Nat}{x:α}(h:l[i]? =I x):(l.take<|i+1).filter f=(l.take i).filter f++(if f x then [x] else []):=by
 rw[← dd h,Xf];congr 1;cases hf:f x<;>simp[hf]
def Yn{α:Type}{l:List α}{f:α->Bool}{i:Nat}:((l.take i).filter f).length<=l.length:=by
 have:=IZ f<|l.take i;simp at this;omega
def apH{id ti nx t:Int}{held:List A7}{marks:List Mark}{inbox:List A7}(sm:DM held marks inbox):au ((id,ti,nx,held,marks,inbox,()),t,())=I (((id,t,nx,Gh t held,Js t marks,inbox,()),()),()):=by
 have hl:=sm.hl;have ml:=sm.ml;have h0:pD (t,(id,ti,nx,held,marks,inbox,()),(0,0,0,[],[],[],()),(id,t,nx,[],[],inbox,()),held,(held.length:Int),0,())=I (.inr (t,(id,ti,nx,held,marks,inbox,()),(0,0,0,[],[],[],()),(id,t,nx,Gh t held,[],inbox,()),())):=by
  rw[show Gh t held=(held.take held.length).filter (λx=>A0<|t<x.un) by rw[Ep];rfl];refine Ca (λi=>(t,(id,ti,nx,held,marks,inbox,()),(0,0,0,[],[],[],()),(id,t,nx,(held.take i).filter λx=>A0<|t<x.un,[],inbox,()),held,(held.length:Int),(i:Int),())) held.length (λi hi=> ?_) (by simp[WU]);have hx:=B3 hi;have hr:=Yn (l:=held) (f:=λx=>A0<|t<x.un) (i:=i);unfold WU;simp only[AX hi,BS hi,Dd,EF hx,BL hi (by omega:held.length<=9223372036854775807),XP hx,Bt,CB,DS,B7<|show((held.take i).filter λx=>A0<|t<x.un).length+1<=4294967296 by omega];by_cases hc:t<held[i].un<;>simp[hc]
 have h1:gy (t,(0,0,0,[],[],[],()),(id,t,nx,Gh t held,[],inbox,()),marks,(marks.length:Int),0,())=I (.inr ((0,0,0,[],[],[],()),(id,t,nx,Gh t held,Js t marks,inbox,()),())):=by
  rw[show Js t marks=(marks.take marks.length).filter (λx=>A0<|t<x.mu) by rw[Ep];rfl];refine Ca (λi=>(t,(0,0,0,[],[],[],()),(id,t,nx,Gh t held,(marks.take i).filter λx=>A0<|t<x.mu,inbox,()),marks,(marks.length:Int),(i:Int),())) marks.length (λi hi=> ?_) (by simp[Yc]);have hx:=B3 hi;have hr:=Yn (l:=marks) (f:=λx=>A0<|t<x.mu) (i:=i);unfold Yc;simp only[AX hi,BS hi,Eu,Ge hx,BL hi (by omega:marks.length<=9223372036854775807),XP hx,Bt,CB,DS,B7<|show((marks.take i).filter λx=>A0<|t<x.mu).length+1<=4294967296 by omega];by_cases hc:t<marks[i].mu<;>simp[hc]
 unfold au;simp only[h0,h1,De]
def ax9{id ti nx t:Int}{held:List A7}{marks:List Mark}{inbox:List A7}(sm:DM held marks inbox):bz ((id,ti,nx,held,marks,inbox,()),t,())=I (((id,t,nx,Gh t held,Js t marks,inbox,()),()),()):=by
 have hl:=sm.hl;have ml:=sm.ml;have h0:pf (t,(id,ti,nx,held,marks,inbox,()),(0,0,0,[],[],[],()),[],0,())=I (.inr (t,(id,ti,nx,held,marks,inbox,()),(0,0,0,[],[],[],()),Gh t held,())):=by
  rw[show Gh t held=(held.take held.length).filter (λx=>A0<|t<x.un) by rw[Ep];rfl];refine Ca (λi=>(t,(id,ti,nx,held,marks,inbox,()),(0,0,0,[],[],[],()),(held.take i).filter λx=>A0<|t<x.un,(i:Int),())) held.length (λi hi=> ?_) (by simp[de]);have hx:=B3 hi;have hr:=Yn (l:=held) (f:=λx=>A0<|t<x.un) (i:=i);unfold de;simp only[AX hi,BS hi,Dd,EF hx,BL hi (by omega:held.length<=9223372036854775807),XP hx,Bt,CB,DS,B7<|show((held.take i).filter λx=>A0<|t<x.un).length+1<=4294967296 by omega];by_cases hc:t<held[i].un<;>simp[hc]
 have h1:nU (t,(id,ti,nx,held,marks,inbox,()),(0,0,0,[],[],[],()),Gh t held,[],0,())=I (.inr (t,(id,ti,nx,held,marks,inbox,()),(0,0,0,[],[],[],()),Gh t held,Js t marks,())):=by
  rw[show Js t marks=(marks.take marks.length).filter (λx=>A0<|t<x.mu) by rw[Ep];rfl];refine Ca (λi=>(t,(id,ti,nx,held,marks,inbox,()),(0,0,0,[],[],[],()),Gh t held,(marks.take i).filter λx=>A0<|t<x.mu,(i:Int),())) marks.length (λi hi=> ?_) (by simp[dR]);have hx:=B3 hi;have hr:=Yn (l:=marks) (f:=λx=>A0<|t<x.mu) (i:=i);unfold dR;simp only[AX hi,BS hi,Eu,Ge hx,BL hi (by omega:marks.length<=9223372036854775807),XP hx,Bt,CB,DS,B7<|show((marks.take i).filter λx=>A0<|t<x.mu).length+1<=4294967296 by omega];by_cases hc:t<marks[i].mu<;>simp[hc]
 unfold bz;simp only[h0,h1,De]
def Gf(l:List A7)(i:Nat):List A7:=l.take i++l.drop (i+1)
def afM{l:List A7}{i:Nat}(hl:l.length<=1048576)(hi:i<l.length):Q3 (l,(i:Int),())=I ((Gf l i,()),()):=by
 unfold Q3;have h1:(A0 (0<=(i:Int))&&A0 ((i:Int)<=(l.length:Int)))=A1:=by simp;omega
 have h2:(A0 (0<=((i+1:Nat):Int))&&A0 (((i+1:Nat):Int)<=(l.length:Int)))=A1:=by simp;omega
 simp only[BL hi (by omega:l.length<=9223372036854775807),h1,h2,A5,Bw,Ef,CB,DS,DN,Dc];rw[A8<|B7 J,A8<|B7 J];rfl
end Go.VS
namespace Go.VS
open Go
def B_L(s:A4):B (L s)=s:=F9 rfl
def CH(l:List UInt8):Prop:=∀b∈l,b≠32
def LH:∀(l:List UInt8),CH l\/ ∃w r,CH w/\l=w++32::r
 | []=> .inl (λ_ h=>by cases h)
 | b::l=>by
  by_cases h:b=32
  .exact .inr ⟨[],l,(λ_ h=>by cases h),by rw[h];rfl⟩
  .rcases LH l with h1|⟨w,r,h1,h2⟩
   .refine .inl (λx hx=> ?_);rcases Bj.1 hx with rfl|hx
    .exact h
    .exact h1 x hx
   .refine .inr ⟨b::w,r,λx hx=> ?_,by rw[h2];rfl⟩;rcases Bj.1 hx with rfl|hx
    .exact h
    .exact h1 x hx
def po:∀ {l:List UInt8},CH l->Lib.index l [32]= -1
 | [],_=>rfl
 | b::l,h=>by
  rw[UW];unfold Lib.indexByte;have h1:=h b An;rw[AD<|by simpa using h1,← UW,po λx hx=>h x<|Aj _ hx];rfl
def jA:∀ {w r:List UInt8},CH w->Lib.index (w++32::r) [32]=w.length
 | [],r,_=>by rw[UW];rfl
 | b::w,r,h=>by
  rw[UW,LB];unfold Lib.indexByte;have h1:=h b An;rw[AD<|by simpa using h1,← UW,jA λx hx=>h x<|Aj _ hx,AD<|by simp];simp
def ar5{l:List UInt8}(h:CH l):FB l [32]=(l,[],A3):=by
 unfold FB;rw[po h,AD J]
def aiC{w r:List UInt8}(h:CH w):FB (w++32::r) [32]=(w,r,A1):=by
 unfold FB;rw[jA h,A8 J];simp
def at7{s:A4}(hs:s.size<=1048576)(h:CH (L s)):TB (s,B [32],())=I ((s,noB,A3,()),()):=by
 show Oc _=_;unfold Oc;rw[A8 (by show s.size<_;omega)];show I ((B (FB (L s) [32]).1,B (FB (L s) [32]).2.1,(FB (L s) [32]).2.2,()),())=_;rw[ar5 h];show I ((B<|L s,noB,A3,()),())=_;rw[B_L]
def anA{s:A4}{w r:List UInt8}(hs:s.size<=1048576)(h:CH w)(e:L s=w++32::r):TB (s,B [32],())=I ((B w,B r,A1,()),()):=by
 show Oc _=_;unfold Oc;rw[A8 (by show s.size<_;omega)];show I ((B (FB (L s) [32]).1,B (FB (L s) [32]).2.1,(FB (L s) [32]).2.2,()),())=_;rw[e,aiC h]
def ia{s:A4}{i:Nat}:A0 (bt s i=32)=A0 ((L s).getD i 0=32):=by
 rw[decide_eq_decide,KV];exact⟨λh=>Qh.1 (by show _=32;omega),λh=>by rw[h];rfl⟩
def ur{s:A4}(hs:s.size<=1048576):gh (s,0,())=I (if FL s.size (λi=>A0<|bt s i=32)<0 then .inr (s,()) else
  .inl (s.extract 0 (FL s.size λi=>A0<|bt s i=32).toNat,s.extract ((FL s.size λi=>A0<|bt s i=32).toNat+1) s.size,())):=
 OZ (λi=>(s,(i:Int),())) s.size (λi=>A0<|bt s i=32) (λi=>(s.extract 0 i.toNat,s.extract (i.toNat+1) s.size,())) (s,()) (λi hi=>by
  have h1:(A0 (0<=(i:Int))&&A0 ((i:Int)<=(s.size:Int)))=A1:=by simp;omega
  have h2:(A0 (0<=((i+1:Nat):Int))&&A0 (((i+1:Nat):Int)<=(s.size:Int)))=A1:=by simp;omega
  unfold dQ;simp only[AX hi,BS hi,BL hi (by omega:s.size<=9223372036854775807),h1,h2,A5,Bw];cases A0 (bt s i=32)<;>rfl) (by simp[dQ])
def ahW{n:Nat}{p:Nat->Bool}(h:∀i,i<n->p i=A3):FL n p= -1:=by
 rcases Gw n p with⟨h1,_⟩|⟨i,h1,h2,h3,_⟩
 .exact h1
 .rw[h i h2]at h3;cases h3
def aaW{n i:Nat}{p:Nat->Bool}(hi:i<n)(hp:p i=A1)(h:∀j,j<i->p j=A3):FL n p=i:=by
 rcases Gw n p with⟨_,h1⟩|⟨j,h1,h2,h3,h4⟩
 .rw[h1 i hi]at hp;cases hp
 .rcases MU i j with h5|h5|h5
  .rw[h4 i h5]at hp;cases hp
  .rw[h1,h5]
  .rw[h j h5]at h3;cases h3
def awJ{w r:List UInt8}{b:UInt8}:(w++b::r).getD w.length 0=b:=by simp
def xO{w r:List UInt8}{j:Nat}(h:j<w.length):(w++r).getD j 0∈w:=by
 rw[BG,I6 h,B3 h];exact Cm h
def amy{l:List UInt8}{j:Nat}(h:j<l.length):l.getD j 0∈l:=by
 rw[BG,B3 h];exact Cm h
def ayF{s:A4}(hs:s.size<=1048576)(h:CH (L s)):Nw (s,())=I ((s,noB,()),()):=by
 unfold Nw;simp only[ur hs];rw[ahW (λi hi=>by rw[ia];simpa using h _<|amy (by rw[Av];exact hi))];rfl
def af5{s:A4}{w r:List UInt8}(hs:s.size<=1048576)(h:CH w)(e:L s=w++32::r):Nw (s,())=I ((B w,B r,()),()):=by
 have hl:s.size=w.length+1+r.length:=by
  have:=congrArg JC e;rw[Av]at this;simp at this;omega
 unfold Nw;simp only[ur hs];rw[aaW (i:=w.length) J (by rw[ia,e,awJ];rfl) (λj hj=>by rw[ia,e];simpa using h _<|xO hj),AD J];have e1:s.extract 0 w.length=B w:=F9 (by rw[Ds,e,L_B];simp);have e2:s.extract (w.length+1) s.size=B r:=F9 (by rw[Ds,e,L_B,hl,show w++32::r=(w++[32])++r by simp,R4<|by simp,show w.length+1+r.length - (w.length+1)=r.length by omega,Ep]);simp only[JP,Bw,e1,e2]
def wr(n:A7):A4:=((((((((BF n.fr++B [32])++BF n.nu)++B [32])++BF n.to)++B [32])++BF n.un)++B [32])++n.tx)
def wrL(n:A7):List UInt8:=B6 n.fr++32::(B6 n.nu++32::(B6 n.to++32::(B6 n.un++32::L n.tx)))
def VF(n:Int):L (BF n)=B6 n:=rfl
def QK(n:A7):L (wr n)=wrL n:=by
 unfold wr wrL;simp only[Fp,VF,L_B,C2,LB,Ef]
def ard{n:Int}{k:Nat}(h0:0<=n)(h1:n<10 ^ k)(hk:1<=k):B6 n=dcm n.toNat/\(B6 n).length<=k:=by
 obtain⟨u,rfl⟩:=Gx h0;rw[Iy];refine⟨rfl,LO k u hk ?_⟩;have:((10 ^ k:Nat):Int)=(10:Int) ^ k:=by simp
 omega
structure VX (n:A7):Prop where
 f0:0<=n.fr
 f1:n.fr<=3
 t0:0<=n.to
 t1:n.to<=3
 n0:1<=n.nu
 n1:n.nu<=99
 u0:1<=n.un
 u1:n.un<=999
 s0:1<=n.tx.size
 s1:n.tx.size<=24
def I5{n:A7}(h:B9 n=A1):VX n:=by
 unfold B9 Lx at h;simp only[AI,Ae]at h;obtain⟨⟨a,b⟩,⟨c,d⟩,⟨e,f⟩,⟨g,i⟩,⟨j,k⟩,_⟩:=h;exact⟨a,b,c,d,e,f,g,i,J,J⟩
def GU{n:Int}{k:Nat}(h0:0<=n)(h1:n<10 ^ k)(hk:1<=k):(BF n).size<=k:=(ard h0 h1 hk).2
def Ta{fr nu tt un:Int}{tx:A4}(hs:tx.size<=1048576):M9 ((fr,nu,tt,un,tx,()),())=I ((if B9 ⟨fr,nu,tt,un,tx⟩ then wr ⟨fr,nu,tt,un,tx⟩ else noB,()),()):=by
 unfold M9;simp only[SJ hs,A9];rcases tf (B9 ⟨fr,nu,tt,un,tx⟩) with h|h
 .have hf:=I5 h;obtain⟨f0,f1,t0,t1,n0,n1,u0,u1,s0,s1⟩:=hf;simp only at f0 f1 t0 t1 n0 n1 u0 u1 s0 s1;have a1:=GU (n:=fr) (k:=1) f0 J J;have a2:=GU (n:=nu) (k:=2) J J J;have a3:=GU (n:=tt) (k:=1) t0 J J;have a4:=GU (n:=un) (k:=3) J J J;have b:(B [32]).size=1:=rfl;simp only[h,AB,A6,Ip (n:=fr) J J,Ip (n:=nu) J J,Ip (n:=tt) J J,Ip (n:=un) J J,A9,Bb,b]
  repeat rw[A8 (by rw[decide_eq_true_eq];omega)]
  rfl
 .simp only[h,AE,A5,A6]
def RR{fr nu tt un:Int}{tx:A4}(hs:tx.size<=1048576):Ju ((fr,nu,tt,un,tx,()),())=I ((if B9 ⟨fr,nu,tt,un,tx⟩ then wr ⟨fr,nu,tt,un,tx⟩ else noB,()),()):=by
 unfold Ju;simp only[Sc hs,A9];rcases tf (B9 ⟨fr,nu,tt,un,tx⟩) with h|h
 .have hf:=I5 h;obtain⟨f0,f1,t0,t1,n0,n1,u0,u1,s0,s1⟩:=hf;simp only at f0 f1 t0 t1 n0 n1 u0 u1 s0 s1;have a1:=GU (n:=fr) (k:=1) f0 J J;have a2:=GU (n:=nu) (k:=2) J J J;have a3:=GU (n:=tt) (k:=1) t0 J J;have a4:=GU (n:=un) (k:=3) J J J;have b:(B [32]).size=1:=rfl;simp only[h,AB,A6,FE (n:=fr) J J,FE (n:=nu) J J,FE (n:=tt) J J,FE (n:=un) J J,A9,Bb,b]
  repeat rw[A8 (by rw[decide_eq_true_eq];omega)]
  rfl
 .simp only[h,AE,A5,A6]
def NT:List UInt8->Option (List UInt8×List UInt8)
 | []=>U
 | b::l=>if b=32 then I ([],l) else(NT l).map λp=>(b::p.1,p.2)
def Sx:∀ {l:List UInt8},CH l->NT l=U
 | [],_=>rfl
 | b::l,h=>by
  unfold NT;rw[AD<|h b An,Sx λx hx=>h x<|Aj _ hx];rfl
def Uc:∀ {w r:List UInt8},CH w->NT (w++32::r)=I (w,r)
 | [],r,_=>rfl
 | b::w,r,h=>by
  rw[LB];unfold NT;rw[AD<|h b An,Uc λx hx=>h x<|Aj _ hx];rfl
def wd(s:A4):A4×A4:=match NT (L s) with
 | some p=>(B p.1,B p.2)
 | none=>(s,noB)
def TT{s:A4}(h:CH (L s)):wd s=(s,noB):=by unfold wd;rw[Sx h]
def Lc{s:A4}{w r:List UInt8}(h:CH w)(e:L s=w++32::r):wd s=(B w,B r):=by unfold wd;rw[e,Uc h]
def TN(s:A4):(wd s).1.size<=s.size/\(wd s).2.size<=s.size:=by
 rcases LH (L s) with h|⟨w,r,h,e⟩
 .rw[TT h];exact⟨Ar _,Ce _⟩
 .rw[Lc h e];have:=congrArg JC e;rw[Av]at this;simp at this;rw[BK,BK];exact⟨by show w.length<=_;omega,by show r.length<=_;omega⟩
def y0{s:A4}(hs:s.size<=1048576):Nw (s,())=I (((wd s).1,(wd s).2,()),()):=by
 rcases LH (L s) with h|⟨w,r,h,e⟩
 .rw[TT h,ayF hs h]
 .rw[Lc h e,af5 hs h e]
def apo{s:A4}(hs:s.size<=1048576):TB (s,B [32],())=I (((wd s).1,(wd s).2,(NT<|L s).isSome,()),()):=by
 rcases LH (L s) with h|⟨w,r,h,e⟩
 .rw[TT h,at7 hs h,Sx h];rfl
 .rw[Lc h e,anA hs h e,e,Uc h];rfl
def Dv(s:A4):Nat->A4
 | 0=>s
 | i+1=>(wd<|Dv s i).2
def Am(s:A4)(i:Nat):A4:=(wd<|Dv s i).1
def ZC(s:A4):∀i,(Dv s i).size<=s.size
 | 0=>Ar _
 | i+1=>C7 (TN<|Dv s i).2 (ZC s i)
def aob(s:A4)(i:Nat):(Am s i).size<=s.size:=C7 (TN _).1<|ZC s i
def adx{s:A4}{n:Nat}(hs:s.size<=1048576)(hn:n<=10):OU (s,(n:Int),())=I (((BO n).map λi=>Ac<|Am s i,Dv s n,()),()):=by
 have h:oN (s,(n:Int),[],0,())=I (.inr (Dv s n,(BO n).map λi=>Ac<|Am s i,())):=by
  refine Ca (λi=>(Dv s i,(n:Int),(BO i).map λi=>Ac<|Am s i,(i:Int),())) n (λi hi=> ?_) (by simp[dF]);have h1:=ZC s i;have h2:=aob s i;unfold dF;simp only[BS hi,y0<|show(Dv s i).size<=1048576 by omega,A9,A5,lv (show(wd<|Dv s i).1.size<=9223372036854775807 by have:=(TN<|Dv s i).1;omega),
   EG,List.length_range,Bt,CB,DS,B7<|show i+1<=4294967296 by omega,BL hi (by omega:n<=9223372036854775807),Kw,F1,DI,JV]
  rfl
 unfold OU;simp only[h,De]
def abi{ws:List A4}(hl:ws.length<=1048577)(hw:∀w∈ws,w.size<=1048576):
  Rk (ws,())=I ((if BJ ws.length (λi=>(Ao<|ws.getD i noB).2) then(ws.map λw=>(Ao w).1,A1,()) else([],A3,())),()):=by
 have h:nL ([],ws,(ws.length:Int),0,())=I (if BJ ws.length (λi=>(Ao<|ws.getD i noB).2) then .inr (ws.map λw=>(Ao w).1,()) else .inl ([],A3,())):=by
  rw[show ws.map (λw=>(Ao w).1)=(ws.take ws.length).map (λw=>(Ao w).1) by rw[Ep]];refine gB (λi=>((ws.take i).map λw=>(Ao w).1,ws,(ws.length:Int),(i:Int),())) ws.length (λi=>(Ao<|ws.getD i noB).2) ([],A3,()) ((ws.take ws.length).map λw=>(Ao w).1,()) (λi hi _=> ?_) (λ_=>by simp[bR]);have hx:=B3 hi;have hs:=hw _<|Cm hi;unfold bR;simp only[AX hi,BS hi,Oz,PA hx,dI<|show ws[i].size<=9223372036854775807 by omega,A9,EG,DN,Bt,CB,DS,
   B7 (show min i ws.length+1<=4294967296 by omega),BL hi (by omega:ws.length<=9223372036854775807)]
  rw[← dd hx,F1];rcases tf (Ao ws[i]).2 with h|h<;>simp[h]
 unfold Rk;simp only[h];cases BJ ws.length (λi=>(Ao<|ws.getD i noB).2)<;>rfl
def LN{w r:List UInt8}{k:Nat}(h:CH w):G4 [32] 0 (k+1) (w++32::r)=w::G4 [32] 0 k r:=by
 conv=>lhs;unfold G4
 rw[jA h,AD<|by simp];show(w++32::r).take (w.length+0)::G4 [32] 0 k ((w++32::r).drop<|w.length+1)=_;rw[HN,Ke rfl,show w++32::r=(w++[32])++r by simp,R4<|by simp]
def Wt{l:List UInt8}{k:Nat}(h:CH l):G4 [32] 0 k l=[l]:=by
 cases k with
 | zero=>rfl
 | succ k=>
  unfold G4;rw[po h];rfl
def join:List (List UInt8)->List UInt8
 | []=>[]
 | [x]=>x
 | x::y::l=>x++32::join (y::l)
def awe(k:Nat)(l:List UInt8):∃x m,G4 [32] 0 k l=x::m:=by
 cases k with
 | zero=>exact⟨l,[],rfl⟩
 | succ k=>
  rcases LH l with h|⟨w,r,h,rfl⟩
  .exact⟨l,[],Wt h⟩
  .exact⟨w,_,LN h⟩
def p9:∀(k:Nat) (l:List UInt8),join (G4 [32] 0 k l)=l
 | 0,_=>rfl
 | k+1,l=>by
  rcases LH l with h|⟨w,r,h,rfl⟩
  .rw[Wt h];rfl
  .rw[LN h];have ih:=p9 k r;obtain⟨x,m,e⟩:=awe k r;rw[e]at ih ⊢;show w++32::join (x::m)=_;rw[ih]
def am7{ps:List A4}{ls:List (List UInt8)}(h:ps.map (·.data.toList)=ls):ps=ls.map B:=by
 subst h;rw[HY]
 conv=>lhs;rw[← S1 ps]
 exact GM λs _=>(B_L s).symm
def qF(k:Nat)(s:A4):Ix (B [32]) 0 k s=(G4 [32] 0 k<|L s).map B:=am7<|Lib.splitB_data (B [32]) 0 k s
def avO{s:A4}(hs:s.size<=1048576):dT (s,B [32],())=I (((G4 [32] 0 ((L s).count 32)<|L s).map B,()),()):=by
 show TF _=_;unfold TF;rw[A8 ⟨by show s.size<_;omega,by show 1<=1;omega⟩];show I ((Ix (B [32]) 0 (Lib.count (L s) [32]) s,()),())=_;rw[qF,Lib.count_one]
def ap3{s:A4}(hs:s.size<=1048576):eF (s,B [32],5,())=I (((G4 [32] 0 (min 5 (s.size+1) - 1)<|L s).map B,()),()):=by
 show UG _=_;unfold UG;rw[A8 ⟨by show s.size<_;omega,by show 1<=1;omega,by show(1:Int)<=5;omega,by show(5:Int)<=_;omega⟩];show I ((Ix (B [32]) 0 (min 5 (s.size+1) - 1) s,()),())=_;rw[qF]
def aiX(u:Nat):CH (dcm u):=λb hb h=>by
 have:=Ae.1<|cq (u+1) u J b hb;subst h;simp at this
def H9{n:Int}(h0:0<=n):CH (B6 n):=by
 obtain⟨u,rfl⟩:=Gx h0;rw[Iy];exact aiX u
def MS{n:Int}(h0:0<=n)(h1:n<10000):Ac (B<|B6 n)=n:=by
 obtain⟨u,rfl⟩:=Gx h0;rw[Iy];exact iI (by rw[BK];exact LO 4 u J J)<|L_B _
def Im{n:Int}(h0:0<=n)(h1:n<100000):Ao (B<|B6 n)=(n,A1):=by
 obtain⟨u,rfl⟩:=Gx h0;rw[Iy];exact gk (by rw[BK];exact LO 5 u J J)<|L_B _
open Classical in
def D0 (s:A4):Option A7:=if h:∃n,B9 n=A1/\wr n=s then I (OB h) else U
def J3{s t:A4}{x:Int}{r:List UInt8}(h:wd s=(B<|B6 x,B r)):(wd s).1=B (B6 x)/\L (wd s).2=r:=by rw[h];exact⟨rfl,rfl⟩
def eu{n:A7}(hf:VX n){s:A4}(e:L s=wrL n):Am s 0=B (B6 n.fr)/\Am s 1=B (B6 n.nu)/\Am s 2=B (B6 n.to)/\Am s 3=B (B6 n.un)/\Dv s 4=n.tx:=by
 obtain⟨f0,f1,t0,t1,n0,n1,u0,u1,s0,s1⟩:=hf;unfold wrL at e;have e0:=Lc (H9 f0) e;have c1:L (Dv s 1)=_:=(J3 (t:=s) e0).2;have e1:=Lc (H9<|show 0<=n.nu by omega) c1;have c2:L (Dv s 2)=_:=(J3 (t:=s) e1).2;have e2:=Lc (H9 t0) c2;have c3:L (Dv s 3)=_:=(J3 (t:=s) e2).2;have e3:=Lc (H9<|show 0<=n.un by omega) c3;have c4:L (Dv s 4)=_:=(J3 (t:=s) e3).2;exact⟨(J3 (t:=s) e0).1,(J3 (t:=s) e1).1,(J3 (t:=s) e2).1,(J3 (t:=s) e3).1,F9 c4⟩
def amf{n:A7}(hf:VX n):Am (wr n) 0=B (B6 n.fr)/\Am (wr n) 1=B (B6 n.nu)/\Am (wr n) 2=B (B6 n.to)/\Am (wr n) 3=B (B6 n.un)/\Dv (wr n) 4=n.tx:=eu hf<|QK n
def aqt{n m:A7}(h1:n.fr=m.fr)(h2:n.nu=m.nu)(h3:n.to=m.to)(h4:n.un=m.un)(h5:n.tx=m.tx):n=m:=by
 cases n;cases m;simp only at h1 h2 h3 h4 h5;subst h1 h2 h3 h4 h5;rfl
def XL{x y:Int}(h0:0<=x)(h1:x<10000)(h2:0<=y)(h3:y<10000)(h:B (B6 x)=B (B6 y)):x=y:=by
 rw[← MS h0 h1,← MS h2 h3,h]
def atN{n m:A7}(hn:B9 n=A1)(hm:B9 m=A1)(h:wr n=wr m):n=m:=by
 have fn:=I5 hn;have fm:=I5 hm;have a:=eu fn (s:=wr n)<|QK n;have b:=eu fm (s:=wr n) (by rw[h];exact QK m);clear h hn hm;generalize wr n=s at a b;obtain⟨a0,a1,a2,a3,a4⟩:=a;obtain⟨b0,b1,b2,b3,b4⟩:=b;obtain⟨f0,f1,t0,t1,n0,n1,u0,u1,s0,s1⟩:=fn;obtain⟨g0,g1,v0,v1,m0,m1,w0,w1,z0,z1⟩:=fm;exact aqt (XL J J J J<|a0.symm.trans b0) (XL J J J J<|a1.symm.trans b1) (XL J J J J<|a2.symm.trans b2)
  (XL J J J J<|a3.symm.trans b3) (a4.symm.trans b4)
def Yi{n:A7}(h:B9 n=A1):D0 (wr n)=I n:=by
 unfold D0;have hex:∃m,B9 m=A1/\wr m=wr n:=⟨n,h,rfl⟩;rw[dif_pos hex];have:=Ig hex;rw[atN this.1 h this.2]
def J6{s:A4}{n:A7}(h:D0 s=I n):B9 n=A1/\wr n=s:=by
 unfold D0 at h;split at h
 .rename_i hex;cases h;exact Ig hex
 .cases h
def oB{n:A7}(hf:VX n):9<=(wr n).size:=by
 obtain⟨f0,f1,t0,t1,n0,n1,u0,u1,s0,s1⟩:=hf;have h:∀ {x:Int},0<=x->1<=(B6 x).length:=fun {x} h0=>by
  obtain⟨u,rfl⟩:=Gx h0;rw[Iy];exact List.length_pos_iff.2<|la u
 rw[← Av,QK];unfold wrL;have a:=h f0;have b:=h (show 0<=n.nu by omega);have c:=h t0;have d:=h (show 0<=n.un by omega);have e:(L n.tx).length=n.tx.size:=rfl;simp only[Ap,Bt];omega
def Tx(o:Option A7):(Int×Int×Int×Int×A4×A2)×Bool×A2:=match o with
 | some n=>((n.fr,n.nu,n.to,n.un,n.tx,()),A1,())
 | none=>((0,0,0,0,noB,()),A3,())
def acv{s:A4}(hs:s.size<=1048576):Pl (s,())=I (Tx<|D0 s,()):=by
 unfold Pl;have e4:OU (s,4,())=I (([Ac<|Am s 0,Ac<|Am s 1,Ac<|Am s 2,Ac<|Am s 3],Dv s 4,()),()):=adx (n:=4) hs J;have hr:=ZC s 4;have i0:inb 0 [Ac<|Am s 0,Ac<|Am s 1,Ac<|Am s 2,Ac<|Am s 3].length=A1:=rfl;have i1:inb 1 [Ac<|Am s 0,Ac<|Am s 1,Ac<|Am s 2,Ac<|Am s 3].length=A1:=rfl;have i2:inb 2 [Ac<|Am s 0,Ac<|Am s 1,Ac<|Am s 2,Ac<|Am s 3].length=A1:=rfl;have i3:inb 3 [Ac<|Am s 0,Ac<|Am s 1,Ac<|Am s 2,Ac<|Am s 3].length=A1:=rfl;have r0: @rd Int (dfl .int) [Ac<|Am s 0,Ac<|Am s 1,Ac<|Am s 2,Ac<|Am s 3] 0=Ac (Am s 0):=rfl;have r1: @rd Int (dfl .int) [Ac<|Am s 0,Ac<|Am s 1,Ac<|Am s 2,Ac<|Am s 3] 1=Ac (Am s 1):=rfl;have r2: @rd Int (dfl .int) [Ac<|Am s 0,Ac<|Am s 1,Ac<|Am s 2,Ac<|Am s 3] 2=Ac (Am s 2):=rfl;have r3: @rd Int (dfl .int) [Ac<|Am s 0,Ac<|Am s 1,Ac<|Am s 2,Ac<|Am s 3] 3=Ac (Am s 3):=rfl;simp only[e4,A9,i0,i1,i2,i3,r0,r1,r2,r3,RR<|show(Dv s 4).size<=1048576 by omega,CE,CF,A5,show ∀c,Ah c A1=A1 from λc=>rfl];generalize hx:(⟨Ac<|Am s 0,Ac<|Am s 1,Ac<|Am s 2,Ac<|Am s 3,Dv s 4⟩:A7)=x at *;by_cases hc:s≠noB/\(if B9 x then wr x else noB)=s
 .obtain⟨h1,h2⟩:=hc;have hok:B9 x=A1:=by
   rcases tf (B9 x) with h|h
   .exact h
   .rw[h]at h2;exact absurd h2.symm h1
  rw[hok]at h2;simp only[A5]at h2;rw[AD<|by simp[h1,hok,h2],← h2,Yi hok];subst hx;simp only[h2];rfl
 .rw[A8 (by
   by_cases h1:s=noB
   .simp[h1]
   .have h2:¬(if B9 x then wr x else noB)=s:=λh=>hc ⟨h1,h⟩;simp[h1,h2])]
  cases h:D0 s with
  | none=>rfl
  | some n=>
   exfalso;obtain⟨h1,h2⟩:=J6 h;have hf:=I5 h1;obtain⟨a0,a1,a2,a3,a4⟩:=amf hf;have hsz:=oB hf;obtain⟨f0,f1,t0,t1,n0,n1,u0,u1,s0,s1⟩:=hf;rw[h2]at a0 a1 a2 a3 a4;rw[a0,a1,a2,a3,a4,MS J J,MS J J,MS J J,MS J J]at hx;have hx:n=x:=hx;subst hx;refine hc ⟨λe=> ?_,by rw[h1];exact h2⟩;rw[h2,e]at hsz;exact absurd hsz<|by decide
def af8{n:A7}(hf:VX n):G4 [32] 0 4 (wrL n)=[B6 n.fr,B6 n.nu,B6 n.to,B6 n.un,L n.tx]:=by
 obtain⟨f0,f1,t0,t1,n0,n1,u0,u1,s0,s1⟩:=hf;unfold wrL;rw[LN<|H9 f0,LN<|H9 J,LN<|H9 t0,LN<|H9 J];rfl
def fq:∀(k:Nat) (l:List UInt8),∀p∈G4 [32] 0 k l,p.length<=l.length
 | 0,l,p,hp=>by
  obtain rfl:=DG.1 hp;exact Ar _
 | k+1,l,p,hp=>by
  rcases LH l with h|⟨w,r,h,rfl⟩
  .rw[Wt h]at hp;obtain rfl:=DG.1 hp;exact Ar _
  .rw[LN h]at hp;rcases Bj.1 hp with rfl|hp
   .simp
   .have:=fq k r p hp;simp;omega
def oZ:∀(k:Nat) (l:List UInt8),(G4 [32] 0 k l).length<=k+1
 | 0,l=>Ar _
 | k+1,l=>by
  rcases LH l with h|⟨w,r,h,rfl⟩
  .rw[Wt h];simp
  .rw[LN h];have:=oZ k r;simp;omega
def axg{s:A4}(hs:s.size<=1048576):VA (s,())=I (Tx<|D0 s,()):=by
 unfold VA;simp only[ap3 hs,A9];generalize hk:min 5 (s.size+1) - 1=k;have hsz:=fq k<|L s;have hln:=oZ k<|L s;have hwr:∀n,D0 s=I n->G4 [32] 0 k (L s)=[B6 n.fr,B6 n.nu,B6 n.to,B6 n.un,L n.tx]:=λn hn=>by
  obtain⟨h1,h2⟩:=J6 hn;have:=oB<|I5 h1;rw[h2]at this;obtain rfl:k=4:=J
  rw[← h2,QK];exact af8<|I5 h1
 generalize G4 [32] 0 k (L s)=ps at *;by_cases h5:ps.length=5
 .match ps,h5 with
  | [p0,p1,p2,p3,p4],_=>
   have hb:∀p∈[p0,p1,p2,p3,p4],(B p).size<=1048576:=λp hp=>by
    have:=hsz p hp;rw[Av]at this;rw[BK];omega
   have e5:(!decide (((([p0,p1,p2,p3,p4]:List (List UInt8)).map B).length:Int)=5))=A3:=rfl;have e6:(A0 (0<=4)&&A0 ((4:Int)<=((([p0,p1,p2,p3,p4]:List (List UInt8)).map B).length:Int)))=A1:=rfl;have e7:BH (AK 4) (([p0,p1,p2,p3,p4]:List (List UInt8)).map B)=[B p0,B p1,B p2,B p3]:=rfl;simp only[e5,e6,e7,A5,A6];rw[abi (by simp) (λw hw=>by
    simp only[Bj,NN,or_false]at hw;obtain rfl|rfl|rfl|rfl:=hw
    .exact hb p0 (by simp)
    .exact hb p1 (by simp)
    .exact hb p2 (by simp)
    .exact hb p3<|by simp)]
   have fO:BJ [B p0,B p1,B p2,B p3].length (λi=>(Ao<|[B p0,B p1,B p2,B p3].getD i noB).2)=((Ao<|B p0).2&&((Ao<|B p1).2&&((Ao<|B p2).2&&((Ao<|B p3).2&&A1)))):=rfl;rw[fO];rcases tf ((Ao<|B p0).2&&((Ao<|B p1).2&&((Ao<|B p2).2&&((Ao<|B p3).2&&A1)))) with ha|ha
   .rw[ha];simp only[A5,A9,AB,A6,DI,JV];have i0:inb 0 [(Ao<|B p0).1,(Ao<|B p1).1,(Ao<|B p2).1,(Ao<|B p3).1].length=A1:=rfl;have i1:inb 1 [(Ao<|B p0).1,(Ao<|B p1).1,(Ao<|B p2).1,(Ao<|B p3).1].length=A1:=rfl;have i2:inb 2 [(Ao<|B p0).1,(Ao<|B p1).1,(Ao<|B p2).1,(Ao<|B p3).1].length=A1:=rfl;have i3:inb 3 [(Ao<|B p0).1,(Ao<|B p1).1,(Ao<|B p2).1,(Ao<|B p3).1].length=A1:=rfl;have i4:inb 4 [B p0,B p1,B p2,B p3,B p4].length=A1:=rfl;have r0: @rd Int (dfl .int) [(Ao<|B p0).1,(Ao<|B p1).1,(Ao<|B p2).1,(Ao<|B p3).1] 0=(Ao<|B p0).1:=rfl;have r1: @rd Int (dfl .int) [(Ao<|B p0).1,(Ao<|B p1).1,(Ao<|B p2).1,(Ao<|B p3).1] 1=(Ao<|B p1).1:=rfl;have r2: @rd Int (dfl .int) [(Ao<|B p0).1,(Ao<|B p1).1,(Ao<|B p2).1,(Ao<|B p3).1] 2=(Ao<|B p2).1:=rfl;have r3: @rd Int (dfl .int) [(Ao<|B p0).1,(Ao<|B p1).1,(Ao<|B p2).1,(Ao<|B p3).1] 3=(Ao<|B p3).1:=rfl;have r4: @rd A4 (dfl .str) [B p0,B p1,B p2,B p3,B p4] 4=B p4:=rfl;have hp4:=hb p4 (by simp);simp only[i0,i1,i2,i3,i4,r0,r1,r2,r3,r4,A5,SJ hp4,Ta hp4,A9,CE,CF,show ∀c,Ah c A1=A1 from λc=>rfl];generalize hx:(⟨(Ao<|B p0).1,(Ao<|B p1).1,(Ao<|B p2).1,(Ao<|B p3).1,B p4⟩:A7)=x at *;by_cases hc:B9 x=A1/\wr x=s
    .obtain⟨h1,h2⟩:=hc;rw[AD<|by simp[h1,h2],← h2,Yi h1];subst hx;rfl
    .rw[A8 (by
      rcases tf (B9 x) with h1|h1
      .have h2:¬wr x=s:=λh=>hc ⟨h1,h⟩;simp[h1,h2]
      .simp[h1])]
     cases h:D0 s with
     | none=>rfl
     | some n=>
      exfalso;obtain⟨h1,h2⟩:=J6 h;have hf:=I5 h1;have hp:=hwr n h;simp only[Ln,and_true]at hp;obtain⟨rfl,rfl,rfl,rfl,rfl⟩:=hp;obtain⟨f0,f1,t0,t1,n0,n1,u0,u1,s0,s1⟩:=hf;rw[Im J J,Im J J,Im J J,Im J J,B_L]at hx;have hx:n=x:=hx;subst hx;exact hc ⟨h1,h2⟩
   .rw[ha];simp only[A9,AE,A5,A6];cases h:D0 s with
    | none=>rfl
    | some n=>
     exfalso;obtain⟨h1,h2⟩:=J6 h;have hf:=I5 h1;have hp:=hwr n h;simp only[Ln,and_true]at hp;obtain⟨rfl,rfl,rfl,rfl,rfl⟩:=hp;obtain⟨f0,f1,t0,t1,n0,n1,u0,u1,s0,s1⟩:=hf;rw[Im J J,Im J J,Im J J,Im J J]at ha;cases ha
 .have e5:(!decide (((ps.map B).length:Int)=5))=A1:=by simp;omega
  simp only[e5,A5];cases h:D0 s with
  | none=>rfl
  | some n=>
   have:=congrArg JC<|hwr n h;simp at this;exact absurd this h5
abbrev KL:=Int×Int×Int×List A7×List Mark×List A7×A2
abbrev tK(k:AU):KL:=(k.id,k.ti,k.nx,k.held,k.marks,k.inbox,())
def B2(r:Option ((KL×Bool×A2)×A2))(o:Option AU):Prop:=match o with
 | some k=>r=I ((tK k,A1,()),())
 | none=>∃t,r=I ((t,A3,()),())
def B2.no{t:KL}:B2 (I ((t,A3,()),())) U:=⟨t,rfl⟩
def B2.eta{r:Option ((KL×Bool×A2)×A2)}{o:Option AU}(h:B2 r o):
  B2 (r.bind λr=>I (((r.1.1.1,r.1.1.2.1,r.1.1.2.2.1,r.1.1.2.2.2.1,r.1.1.2.2.2.2.1,r.1.1.2.2.2.2.2.1,()),r.1.2.1,()),())) o:=by
 cases o with
 | some k=>
  have:r=_:=h;subst this;rfl
 | none=>
  obtain⟨t,rfl⟩:=h;exact⟨t,rfl⟩
def B2.ite{c:Bool}{a b:Option ((KL×Bool×A2)×A2)}{x y:Option AU}(h1:c=A1->B2 a x)(h2:c=A3->B2 b y):B2 (if c then a else b) (if c then x else y):=by
 cases c
 .exact h2 rfl
 .exact h1 rfl
def B2.neg{c:Bool}{t:KL}{b:Option ((KL×Bool×A2)×A2)}{y:Option AU}(h2:c=A3->B2 b y):B2 (if c then I ((t,A3,()),()) else b) (if c then U else y):=B2.ite (λ_=>B2.no) h2
def HB(k:AU)(n:A7):Option AU:=
 if !B9 n then U else if A0 (n.un<=k.ti) then U else if A0 (0<=Aa k.held n.fr n.nu) then U else if A0 (0<=Aa k.inbox n.fr n.nu) then U else if A0 (0<=Cf k.marks n.fr n.nu) then U else
 if A0 (12<(k.held.length:Int)+k.marks.length+1) then U else
 if A0 (n.to=k.id) then I ⟨k.id,k.ti,k.nx,k.held,Fm k.marks ⟨n.fr,n.nu,n.un⟩,Eg k.inbox n⟩ else I ⟨k.id,k.ti,k.nx,Eg k.held n,k.marks,k.inbox⟩
def adq{id ti nx fr nu tt un:Int}{tx:A4}{held:List A7}{marks:List Mark}{inbox:List A7}(sm:DM held marks inbox)(hs:tx.size<=1048576):
  B2 (Tf ((id,ti,nx,held,marks,inbox,()),(fr,nu,tt,un,tx,()),())) (HB ⟨id,ti,nx,held,marks,inbox⟩ ⟨fr,nu,tt,un,tx⟩):=by
 have hl:=sm.hl;have ml:=sm.ml;unfold Tf HB;simp only[SJ hs,L9 sm.hl,L9 sm.il,RO sm.ml,ai sm.hl,ai sm.il,mV sm.ml,A9,
  AY (n:=(held.length:Int)+marks.length) J J,AY (n:=(held.length:Int)+marks.length+1) J J]
 exact B2.neg λ_=>B2.neg λ_=>B2.neg λ_=>B2.neg λ_=>B2.neg λ_=>B2.neg λ_=>B2.ite (λ_=>rfl) λ_=>rfl
def ab{l:List A7}{n:A7}(h:Aa l n.fr n.nu<0):Oy l n=Eg l n:=by
 refine aA5 λx hx=> ?_;have hne:¬(x.fr=n.fr/\x.nu=n.nu):=λhc=>by
  rcases Gw l.length (λi=>A0 ((nA l i).fr=n.fr)&&A0 ((nA l i).nu=n.nu)) with⟨_,h2⟩|⟨i,h1,_⟩
  .obtain⟨j,hj,rfl⟩:=Dm hx;have:=h2 j hj;rw[EF<|B3 hj]at this;simp[hc.1,hc.2]at this
  .unfold Aa at h;omega
 unfold bef;rw[Og];simp;omega
def nK{l:List Mark}{n:Mark}(h:Cf l n.mf n.mn<0):PC l n=Fm l n:=by
 refine aA5 λx hx=> ?_;have hne:¬(x.mf=n.mf/\x.mn=n.mn):=λhc=>by
  rcases Gw l.length (λi=>A0 ((mA l i).mf=n.mf)&&A0 ((mA l i).mn=n.mn)) with⟨_,h2⟩|⟨i,h1,_⟩
  .obtain⟨j,hj,rfl⟩:=Dm hx;have:=h2 j hj;rw[Ge<|B3 hj]at this;simp[hc.1,hc.2]at this
  .unfold Cf at h;omega
 unfold bef;rw[Og];simp;omega
def acm{id ti nx fr nu tt un:Int}{tx:A4}{held:List A7}{marks:List Mark}{inbox:List A7}(sm:DM held marks inbox)(hs:tx.size<=1048576):
  B2 (Sn ((id,ti,nx,held,marks,inbox,()),(fr,nu,tt,un,tx,()),())) (HB ⟨id,ti,nx,held,marks,inbox⟩ ⟨fr,nu,tt,un,tx⟩):=by
 have hl:=sm.hl;have ml:=sm.ml;have axU:WR ((id,ti,nx,held,marks,inbox,()),(fr,nu,tt,un,tx,()),())=
   I ((B9 ⟨fr,nu,tt,un,tx⟩&&(A0 (ti<un)&&(A0 (Aa held fr nu<0)&&(A0 (Cf marks fr nu<0)&&A0 (Aa inbox fr nu<0)))),()),()):=by
  unfold WR;simp only[Sc hs,J4 sm.hl,J4 sm.il,Pt sm.ml,A9,CE,CF,show ∀c,Ah c A1=A1 from λc=>rfl,A5];rcases tf (B9 ⟨fr,nu,tt,un,tx⟩) with h1|h1<;>rcases tf (A0<|ti<un) with h2|h2<;>rcases tf (A0<|Aa held fr nu<0) with h3|h3<;>simp only[h1,h2,h3,A5,A6,AW,AN]
 unfold Sn HB;have EX:=YM (l:=held) (fr:=fr) (nu:=nu) (tt:=tt) (un:=un) (tx:=tx) sm.hl;have ct:=YM (l:=inbox) (fr:=fr) (nu:=nu) (tt:=tt) (un:=un) (tx:=tx) sm.il;have ajT:=pN (l:=marks) (mf:=fr) (mn:=nu) (mu:=un) sm.ml;simp only[axU,EX,ct,ajT,A9];rcases tf (B9 ⟨fr,nu,tt,un,tx⟩) with h1|h1
 .rcases EK un ti with h2|h2
  .simp only[h1,h2,AO,Af,AW,AN,AE,AB,A5,A6];exact B2.no
  .rcases sgn (Aa held fr nu) with h3|h3
   .rcases sgn (Cf marks fr nu) with h4|h4
    .rcases sgn (Aa inbox fr nu) with h5|h5
     .have q1:Aa held fr nu<0:=of_eq_true h3.1;have q2:Cf marks fr nu<0:=of_eq_true h4.1;have q3:Aa inbox fr nu<0:=of_eq_true h5.1;have lN:=W5 (λx:A7=>bef x.fr x.nu fr nu) held ⟨fr,nu,tt,un,tx⟩;have lM:=W5 (λx:Mark=>bef x.mf x.mn fr nu) marks ⟨fr,nu,un⟩;have eN:Oy held ⟨fr,nu,tt,un,tx⟩=Eg held ⟨fr,nu,tt,un,tx⟩:=ab q1;have eI:Oy inbox ⟨fr,nu,tt,un,tx⟩=Eg inbox ⟨fr,nu,tt,un,tx⟩:=ab q3;have eM:PC marks ⟨fr,nu,un⟩=Fm marks ⟨fr,nu,un⟩:=nK q2;have l1:((Eg held ⟨fr,nu,tt,un,tx⟩).length:Int)=held.length+1:=by unfold Eg;rw[lN];omega
      have l2:((Fm marks ⟨fr,nu,un⟩).length:Int)=marks.length+1:=by unfold Fm;rw[lM];omega
      simp only[h1,h2,h3,h4,h5,eN,eI,eM,l1,l2,AO,Af,AW,AB,A6,
       AY (n:=(held.length:Int)+1+marks.length) J J,AY (n:=(held.length:Int)+(marks.length+1)) J J]
      rcases EK ((held.length:Int)+marks.length+1) 12 with h6|h6
      .have a1:A0 ((held.length:Int)+1+marks.length<=12)=A1:=by have:=of_eq_true h6.1;simp;omega
       have a2:A0 ((held.length:Int)+(marks.length+1)<=12)=A1:=by have:=of_eq_true h6.1;simp;omega
       simp only[a1,a2,h6,Af,A6];by_cases h7:tt=id
       .simp only[h7,AO,AB,A6,A5];rfl
       .simp only[h7,Af,AE,A6,A5];rfl
      .have a1:A0 ((held.length:Int)+1+marks.length<=12)=A3:=by have:=of_eq_true h6.2;simp;omega
       have a2:A0 ((held.length:Int)+(marks.length+1)<=12)=A3:=by have:=of_eq_true h6.2;simp;omega
       simp only[a1,a2,h6,AO,A5];by_cases h7:tt=id
       .simp only[h7,AO,AB,A6];exact B2.no
       .simp only[h7,Af,AE,A5];exact B2.no
     .simp only[h1,h2,h3,h4,h5,AO,Af,AW,AN,AE,AB,A5,A6];exact B2.no
    .simp only[h1,h2,h3,h4,AO,Af,AW,AN,AE,AB,A5,A6,ite_self];exact B2.no
   .simp only[h1,h2,h3,AO,Af,AW,AN,AE,AB,A5,A6];exact B2.no
 .simp only[h1,AN,AE,A5];exact B2.no
abbrev Dk:A4:=B [116,105,109,101]
abbrev Ec:A4:=B [110,101,120,116]
abbrev Di:A4:=B [111,119,110]
abbrev EM:A4:=B [116,97,107,101]
abbrev Dz:A4:=B [104,101,108,100]
abbrev EI:A4:=B [105,110,98,111,120]
abbrev Cs:A4:=B [108,101,116]
abbrev CM:A4:=B [101,97,116]
abbrev D3:A4:=B [109,97,114,107]
def Hy(k:AU)(w:A4)(n:Int):Option AU:=
 if A0 (w=Dk)&&A0 (k.ti<n) then I ⟨k.id,n,k.nx,Gh n k.held,Js n k.marks,k.inbox⟩ else if A0 (w=Ec)&&A0 (k.nx<n) then I ⟨k.id,k.ti,n,k.held,k.marks,k.inbox⟩ else U
def ak5{id ti nx n:Int}{w:A4}{held:List A7}{marks:List Mark}{inbox:List A7}(sm:DM held marks inbox):
  B2 (Uk ((id,ti,nx,held,marks,inbox,()),w,n,())) (Hy ⟨id,ti,nx,held,marks,inbox⟩ w n):=by
 unfold Uk Hy;simp only[apH sm,A9];exact B2.ite (λ_=>rfl) λ_=>B2.ite (λ_=>rfl) λ_=>B2.no
def Gn(k:AU)(w:A4)(n:A7):Option AU:=
 if A0 (w=Di)&&(A0 (n.fr=k.id)&&A0 (n.nu=k.nx)) then HB ⟨k.id,k.ti,k.nx+1,k.held,k.marks,k.inbox⟩ n else if A0 (w=EM)&& !decide (n.fr=k.id) then HB k n else
 if A0 (0<=Aa k.held n.fr n.nu)||decide (0<=Aa k.inbox n.fr n.nu) then U else if A0 (w=Dz) then I ⟨k.id,k.ti,k.nx,Eg k.held n,k.marks,k.inbox⟩ else if A0 (w=EI) then I ⟨k.id,k.ti,k.nx,k.held,k.marks,Eg k.inbox n⟩ else U
def atE{id ti nx fr nu tt un:Int}{w tx:A4}{held:List A7}{marks:List Mark}{inbox:List A7}(sm:DM held marks inbox)(hs:tx.size<=1048576)(h0:0<=nx)(h1:nx<=1000):
  B2 (UY ((id,ti,nx,held,marks,inbox,()),w,(fr,nu,tt,un,tx,()),())) (Gn ⟨id,ti,nx,held,marks,inbox⟩ w ⟨fr,nu,tt,un,tx⟩):=by
 have hj:(if A0 (w=Di) then(I (.inr (w,(id,ti,nx,held,marks,inbox,()),(fr,nu,tt,un,tx,()),(0,0,0,([]:List A7),([]:List Mark),([]:List A7),()),A0 (fr=id)&&A0 (nu=nx),())):Option (((KL×Bool×A2)×A2) ⊕ (A4×KL×(Int×Int×Int×Int×A4×A2)×KL×Bool×A2))) else
   I (.inr (w,(id,ti,nx,held,marks,inbox,()),(fr,nu,tt,un,tx,()),(0,0,0,([]:List A7),([]:List Mark),([]:List A7),()),A3,())))=
   I (.inr (w,(id,ti,nx,held,marks,inbox,()),(fr,nu,tt,un,tx,()),(0,0,0,([]:List A7),([]:List Mark),([]:List A7),()),A0 (w=Di)&&(A0 (fr=id)&&A0 (nu=nx)),())):=by
  cases A0 (w=Di)<;>rfl
 unfold UY Gn;simp only[hj,Bg];refine B2.ite (λ_=> ?_) λ_=> ?_
 .rw[AY J J];exact(adq sm hs).eta
 refine B2.ite (λ_=>(adq sm hs).eta) λ_=> ?_;simp only[L9 sm.hl,L9 sm.il,A9,CE,CF,show ∀c,Ah c A1=A1 from λc=>rfl,A5];refine B2.neg λ_=> ?_;simp only[ai sm.hl,ai sm.il,A9];exact B2.ite (λ_=>rfl) λ_=>B2.ite (λ_=>rfl) λ_=>B2.no
def Ii{l:List A7}{f n:Int}(h:0<=Aa l f n):(Aa l f n).toNat<l.length/\((Aa l f n).toNat:Int)=Aa l f n/\(nA l (Aa l f n).toNat).fr=f/\(nA l (Aa l f n).toNat).nu=n:=by
 rcases Gw l.length (λi=>A0 ((nA l i).fr=f)&&A0 ((nA l i).nu=n)) with⟨h1,_⟩|⟨i,h1,h2,h3,_⟩
 .unfold Aa at h;omega
 .have e:Aa l f n=(i:Int):=h1;rw[e];simp at h3;exact⟨h2,rfl,h3.1,h3.2⟩
def MM{l:List A7}{f n:Int}(h:0<=Aa l f n):inb (Aa l f n) l.length=A1:=by
 obtain⟨h1,h2,_⟩:=Ii h;rw[← h2];exact AX h1
def sS{l:List A7}{f n:Int}:Ah (A0<|0<=Aa l f n) (inb (Aa l f n) l.length)=A1:=by
 rcases tf (A0<|0<=Aa l f n) with h|h
 .rw[h,II,MM<|BP h]
 .rw[h,HF]
def FO(l:List A7)(m:Mark):Bool:=A0 (0<=Aa l m.mf m.mn)&&A0 ((nA l (Aa l m.mf m.mn).toNat).un=m.mu)
def Ey(k:AU)(w:A4)(m:Mark):Option AU:=
 if A0 (w=Cs)&&FO k.held m then I ⟨k.id,k.ti,k.nx,Gf k.held (Aa k.held m.mf m.mn).toNat,Fm k.marks m,k.inbox⟩ else
 if A0 (w=CM)&&FO k.inbox m then I ⟨k.id,k.ti,k.nx,k.held,k.marks,Gf k.inbox (Aa k.inbox m.mf m.mn).toNat⟩ else
 if A0 (w=D3)&& !decide (0<=Cf k.marks m.mf m.mn) then I ⟨k.id,k.ti,k.nx,k.held,Fm k.marks m,k.inbox⟩ else U
def wq{l:List A7}{f n:Int}(hl:l.length<=1048576)(h:0<=Aa l f n):Q3 (l,Aa l f n,())=I ((Gf l (Aa l f n).toNat,()),()):=by
 obtain⟨h1,h2,_⟩:=Ii h
 conv=>lhs;rw[← h2]
 exact afM hl h1
def ams{id ti nx a b c:Int}{w:A4}{held:List A7}{marks:List Mark}{inbox:List A7}(sm:DM held marks inbox):
  B2 (Ss ((id,ti,nx,held,marks,inbox,()),w,(a,b,c,()),())) (Ey ⟨id,ti,nx,held,marks,inbox⟩ w ⟨a,b,c⟩):=by
 unfold Ss Ey;simp only[L9 sm.hl,L9 sm.il,RO sm.ml,A9,sS,HF,A5];have hj:(if A0 (w=Cs) then(I (.inr (w,(id,ti,nx,held,marks,inbox,()),(a,b,c,()),(0,0,0,([]:List A7),([]:List Mark),([]:List A7),()),Aa held a b,Aa inbox a b,A0<|0<=Cf marks a b,A0 (0<=Aa held a b)&&A0 ((@rd A7 (dfl .note) held<|Aa held a b).un=c),())):Option (((KL×Bool×A2)×A2) ⊕ (A4×KL×(Int×Int×Int×A2)×KL×Int×Int×Bool×Bool×A2))) else
   I (.inr (w,(id,ti,nx,held,marks,inbox,()),(a,b,c,()),(0,0,0,([]:List A7),([]:List Mark),([]:List A7),()),Aa held a b,Aa inbox a b,A0<|0<=Cf marks a b,A3,())))=
   I (.inr (w,(id,ti,nx,held,marks,inbox,()),(a,b,c,()),(0,0,0,([]:List A7),([]:List Mark),([]:List A7),()),Aa held a b,Aa inbox a b,A0<|0<=Cf marks a b,A0 (w=Cs)&&FO held ⟨a,b,c⟩,())):=by
  cases A0 (w=Cs)<;>rfl
 simp only[hj,Bg];refine B2.ite (λh=> ?_) λ_=> ?_
 .simp only[FO,AI,decide_eq_true_eq]at h;simp only[wq sm.hl h.2.1,mV sm.ml,A9];rfl
 simp only[sS,HF,A5];have hj2:(if A0 (w=CM) then(I (.inr (w,(id,ti,nx,held,marks,inbox,()),(a,b,c,()),(0,0,0,([]:List A7),([]:List Mark),([]:List A7),()),Aa inbox a b,A0<|0<=Cf marks a b,A0 (0<=Aa inbox a b)&&A0 ((@rd A7 (dfl .note) inbox<|Aa inbox a b).un=c),())):Option (((KL×Bool×A2)×A2) ⊕ (A4×KL×(Int×Int×Int×A2)×KL×Int×Bool×Bool×A2))) else
   I (.inr (w,(id,ti,nx,held,marks,inbox,()),(a,b,c,()),(0,0,0,([]:List A7),([]:List Mark),([]:List A7),()),Aa inbox a b,A0<|0<=Cf marks a b,A3,())))=
   I (.inr (w,(id,ti,nx,held,marks,inbox,()),(a,b,c,()),(0,0,0,([]:List A7),([]:List Mark),([]:List A7),()),Aa inbox a b,A0<|0<=Cf marks a b,A0 (w=CM)&&FO inbox ⟨a,b,c⟩,())):=by
  cases A0 (w=CM)<;>rfl
 simp only[hj2,Bg];refine B2.ite (λh=> ?_) λ_=> ?_
 .simp only[FO,AI,decide_eq_true_eq]at h;simp only[wq sm.il h.2.1,A9];rfl
 simp only[mV sm.ml,A9];exact B2.ite (λ_=>rfl) λ_=>B2.no
structure EU (k:AU):Prop where
 id0:0<=k.id
 id1:k.id<=3
 t0:0<=k.ti
 t1:k.ti<=999
 n0:1<=k.nx
 n1:k.nx<=100
 hl:k.held.length<=6
 h:F3 k.held=A1
 ml:k.marks.length<=12
 m:Hi k.marks=A1
 il:k.inbox.length<=6
 i:F3 k.inbox=A1
 ho:∀i,i<k.held.length->IX k.id k.ti k.nx k.held k.marks i=A1
 mo:∀i,i<k.marks.length->Jj k.id k.ti k.nx k.marks i=A1
 io:∀i,i<k.inbox.length->KS k.id k.ti k.nx k.marks k.inbox i=A1
def Ci{k:AU}(h:BI k=A1):EU k:=by
 unfold BI at h;simp only[AI,Ae,decide_eq_true_eq,Dq]at h;obtain⟨⟨a,b⟩,⟨c,d⟩,⟨e,f⟩,⟨g,i⟩,⟨j,l⟩,⟨m,n⟩,o,p,q⟩:=h;exact⟨a,b,c,d,e,f,J,i,J,l,J,n,o,p,q⟩
def G7{l:List A7}(h:F3 l=A1){i:Nat}(hi:i<l.length):B9 (nA l i)=A1:=by
 have:=Dq.1 h i hi;simp only[AI]at this;exact this.1
def Sy{l:List Mark}(h:Hi l=A1){i:Nat}(hi:i<l.length):G1 (mA l i)=A1:=by
 have:=Dq.1 h i hi;simp only[AI]at this;exact this.1
def wW{l:List A7}(h:F3 l=A1){x:A7}(hx:x∈l):B9 x=A1:=by
 obtain⟨i,hi,rfl⟩:=Dm hx;have:=G7 h hi;rwa[EF<|B3 hi]at this
def akR{l:List Mark}(h:Hi l=A1){x:Mark}(hx:x∈l):G1 x=A1:=by
 obtain⟨i,hi,rfl⟩:=Dm hx;have:=Sy h hi;rwa[Ge<|B3 hi]at this
def Je{n:A7}(h:B9 n=A1):Fj n:=by
 have:=(I5 h).s1;unfold Fj;omega
def EU.sm{k:AU}(h:EU k):DM k.held k.marks k.inbox:=by
 obtain⟨id0,id1,t0,t1,n0,n1,hl,hh,ml,m,il,hi,ho,mo,io⟩:=h;exact⟨J,λx hx=>Je<|wW hh hx,J,J,λx hx=>Je<|wW hi hx⟩
def RE{l:List A7}{n:A7}(hl:l.length<=6)(h:∀x∈l,Fj x)(hn:Fj n):(Eg l n).length<=1048576/\ ∀x∈Eg l n,Fj x:=by
 refine⟨by unfold Eg;rw[W5];omega,λx hx=> ?_⟩;rcases Ux _ hx with rfl|hx
 .exact hn
 .exact h x hx
def T9{l:List Mark}{n:Mark}(hl:l.length<=12):(Fm l n).length<=1048576:=by unfold Fm;rw[W5];omega
def dU{l:List A7}{i:Nat}(hl:l.length<=6)(h:∀x∈l,Fj x):(Gf l i).length<=1048576/\ ∀x∈Gf l i,Fj x:=by
 refine⟨by unfold Gf;simp;omega,λx hx=> ?_⟩;unfold Gf at hx;rcases Bk.1 hx with hx|hx
 .exact h x (ID hx)
 .exact h x<|Jm hx
abbrev SmK(k:AU):Prop:=DM k.held k.marks k.inbox
def bd{k k':AU}{n:A7}(hf:EU k)(hk:k'.held=k.held/\k'.marks=k.marks/\k'.inbox=k.inbox){o:AU}(h:HB k' n=I o):SmK o:=by
 have sm:=hf.sm;have l1:=hf.hl;have l2:=hf.ml;have l3:=hf.il;unfold HB at h;rw[hk.1,hk.2.1,hk.2.2]at h;split at h
 .cases h
 rename_i hn;have hn:Fj n:=Je (by simpa using hn)
 iterate 5 (split at h;· cases h)
 split at h<;>cases h
 .have a:=RE l3 sm.i hn;exact⟨sm.hl,sm.h,T9 l2,a.1,a.2⟩
 .have a:=RE l1 sm.h hn;exact⟨a.1,a.2,sm.ml,sm.il,sm.i⟩
def axo{k:AU}{w:A4}{n:Int}(hf:EU k){o:AU}(h:Hy k w n=I o):SmK o:=by
 have sm:=hf.sm;have l1:=hf.hl;have l2:=hf.ml;unfold Hy at h;split at h
 .cases h;have a:=IZ (λx:A7=>A0<|n<x.un) k.held;have b:=IZ (λx:Mark=>A0<|n<x.mu) k.marks;exact⟨by unfold Gh;simp only;omega,λx hx=>sm.h x (Hg.1 hx).1,by unfold Js;simp only;omega,sm.il,sm.i⟩
 .split at h<;>cases h;exact sm
def af9{k:AU}{w:A4}{n:A7}(hf:EU k)(hn:B9 n=A1){o:AU}(h:Gn k w n=I o):SmK o:=by
 have sm:=hf.sm;unfold Gn at h;split at h
 .exact bd (k':=⟨k.id,k.ti,k.nx+1,k.held,k.marks,k.inbox⟩) hf ⟨rfl,rfl,rfl⟩ h
 split at h
 .exact bd (k':=k) hf ⟨rfl,rfl,rfl⟩ h
 split at h
 .cases h
 split at h
 .cases h;have a:=RE hf.hl sm.h<|Je hn;exact⟨a.1,a.2,sm.ml,sm.il,sm.i⟩
 split at h<;>cases h;have a:=RE hf.il sm.i<|Je hn;exact⟨sm.hl,sm.h,sm.ml,a.1,a.2⟩
def agd{k:AU}{w:A4}{m:Mark}(hf:EU k){o:AU}(h:Ey k w m=I o):SmK o:=by
 have sm:=hf.sm;unfold Ey at h;split at h
 .cases h;have a:=dU (i:=(Aa k.held m.mf m.mn).toNat) hf.hl sm.h;exact⟨a.1,a.2,T9 hf.ml,sm.il,sm.i⟩
 split at h
 .cases h;have a:=dU (i:=(Aa k.inbox m.mf m.mn).toNat) hf.il sm.i;exact⟨sm.hl,sm.h,sm.ml,a.1,a.2⟩
 split at h<;>cases h;exact⟨sm.hl,sm.h,T9 hf.ml,sm.il,sm.i⟩
def pT{k:AU}{w:A4}{m:Mark}(hf:EU k)(hm:G1 m=A3):Ey k w m=U\/ ∃o,Ey k w m=I o/\BI o=A3:=by
 have hit:∀l,F3 l=A1->FO l m=A3:=λl hl=>by
  unfold FO;rcases tf (A0<|0<=Aa l m.mf m.mn) with h|h
  .obtain⟨h1,_,h2,h3⟩:=Ii<|BP h;rw[h,AW,decide_eq_false_iff_not];intro h4;have h5:=I5<|G7 hl h1;have:G1 m=A1:=by
    unfold G1;simp only[AI,Ae];have:=h5.f0;have:=h5.f1;have:=h5.n0;have:=h5.n1;have:=h5.u0;have:=h5.u1;omega
   rw[this]at hm;cases hm
  .rw[h];rfl
 unfold Ey;rw[hit _ hf.h,hit _ hf.i,BZ,BZ,A6,A6];split
 .refine .inr ⟨_,rfl, ?_⟩;rcases tf (BI ⟨k.id,k.ti,k.nx,k.held,Fm k.marks m,k.inbox⟩) with h|h
  .have:=akR (Ci h).m (auR (λx=>bef x.mf x.mn m.mf m.mn) (l:=k.marks) (n:=m)<|.inl rfl);rw[hm]at this;cases this
  .exact h
 .exact .inl rfl
def Gv(r:A4):Option Mark:=match G4 [32] 0 ((L r).count 32) (L r) with
 | [p,q,t]=>if(Ao<|B p).2&&((Ao<|B q).2&&((Ao<|B t).2&&A1)) then I ⟨(Ao<|B p).1,(Ao<|B q).1,(Ao<|B t).1⟩ else U
 | _=>U
def Bs(k:AU)(w r:A4):Option AU:=
 if A0 (w=Dk)||decide (w=Ec) then(if(Ao r).2 then Hy k w (Ao r).1 else U) else
 if A0 (w=Di)||(A0 (w=EM)||(A0 (w=Dz)||decide (w=EI))) then(match D0 r with|some n=>Gn k w n|none=>U) else
 if A0 (w=Cs)||(A0 (w=CM)||decide (w=D3)) then(match Gv r with|some m=>Ey k w m|none=>U) else U
def Ga(k:AU)(rec:A4):Option AU:=if !(NT<|L rec).isSome then U else Bs k (wd rec).1 (wd rec).2
def aoO{id ti nx:Int}{w r:A4}{held:List A7}{marks:List Mark}{inbox:List A7}(sm:DM held marks inbox)(hr:r.size<=1048576):
  B2 ((dT (r,B [32],())).bind λr46=>(Rk (r46.1.1,())).bind λr47=>
   if r47.1.2.1&&A0 ((r47.1.1.length:Int)=3) then(if inb 0 r47.1.1.length then(if inb 1 r47.1.1.length then(if inb 2 r47.1.1.length then
    (Ss ((id,ti,nx,held,marks,inbox,()),w,((@rd Int (dfl .int) r47.1.1 0),(@rd Int (dfl .int) r47.1.1 1),(@rd Int (dfl .int) r47.1.1 2),()),())).bind λr48=>I (((r48.1.1.1,r48.1.1.2.1,r48.1.1.2.2.1,r48.1.1.2.2.2.1,r48.1.1.2.2.2.2.1,r48.1.1.2.2.2.2.2.1,()),r48.1.2.1,()),())
    else U) else U) else U)
   else I (((id,ti,nx,held,marks,inbox,()),A3,()),())) (match Gv r with|some m=>Ey ⟨id,ti,nx,held,marks,inbox⟩ w m|none=>U):=by
 unfold Gv;simp only[avO hr,A9];have hsz:=fq ((L r).count 32)<|L r;have hln:=oZ ((L r).count 32)<|L r;have azw:(L r).count 32<=r.size:=List.count_le_length;generalize G4 [32] 0 ((L r).count 32) (L r)=ps at *;have hb:∀p∈ps,(B p).size<=1048576:=λp hp=>by
  have:=hsz p hp;rw[Av]at this;rw[BK];omega
 rw[abi (by simp;omega) (λw hw=>by
  obtain⟨p,hp,rfl⟩:=DF.1 hw;exact hb p hp)]
 simp only[A9];by_cases h3:ps.length=3
 .match ps,h3 with
  | [p,q,t],_=>
   have fO:BJ (([p,q,t]:List (List UInt8)).map B).length (λi=>(Ao<|(([p,q,t]:List (List UInt8)).map B).getD i noB).2)=((Ao<|B p).2&&((Ao<|B q).2&&((Ao<|B t).2&&A1))):=rfl;rw[fO];rcases tf ((Ao<|B p).2&&((Ao<|B q).2&&((Ao<|B t).2&&A1))) with h|h
   .simp only[h,A5];exact(ams sm).eta
   .simp only[h,A6,AN];exact B2.no
 .have e1:∀c:Bool,(((if c then(((ps.map B).map λw=>(Ao w).1),A1,()) else(([]:List Int),A3,())).2.1&&A0 ((((if c then(((ps.map B).map λw=>(Ao w).1),A1,()) else(([]:List Int),A3,())):List Int×Bool×A2).1.length:Int)=3))=A3):=by
   intro c;cases c
   .rfl
   .simp;omega
  rw[AD (by rw[e1];simp)];have e2:(match ps with|[p,q,t]=>if(Ao<|B p).2&&((Ao<|B q).2&&((Ao<|B t).2&&A1)) then I (⟨(Ao<|B p).1,(Ao<|B q).1,(Ao<|B t).1⟩:Mark) else U|_=>U)=U:=by
   split
   .exact absurd rfl h3
   .rfl
  rw[e2];exact B2.no
def am5{id ti nx:Int}{w r:A4}{held:List A7}{marks:List Mark}{inbox:List A7}(sm:DM held marks inbox)(hr:r.size<=1048576){t:KL}:
  B2 ((PF (r,())).bind λr33=>if r33.1.2.1 then(Uk ((id,ti,nx,held,marks,inbox,()),w,r33.1.1,())).bind λr34=>I (((r34.1.1.1,r34.1.1.2.1,r34.1.1.2.2.1,r34.1.1.2.2.2.1,r34.1.1.2.2.2.2.1,r34.1.1.2.2.2.2.2.1,()),r34.1.2.1,()),())
   else I ((t,A3,()),())) (if(Ao r).2 then Hy ⟨id,ti,nx,held,marks,inbox⟩ w (Ao r).1 else U):=by
 simp only[dI<|show r.size<=9223372036854775807 by omega,A9];exact B2.ite (λ_=>(ak5 sm).eta) λ_=>B2.no
def auo{id ti nx:Int}{w r:A4}{held:List A7}{marks:List Mark}{inbox:List A7}(sm:DM held marks inbox)(hr:r.size<=1048576)(h0:0<=nx)(h1:nx<=1000){t:KL}:
  B2 ((VA (r,())).bind λr40=>if r40.1.2.1 then(UY ((id,ti,nx,held,marks,inbox,()),w,(r40.1.1.1,r40.1.1.2.1,r40.1.1.2.2.1,r40.1.1.2.2.2.1,r40.1.1.2.2.2.2.1,()),())).bind λr41=>
    I (((r41.1.1.1,r41.1.1.2.1,r41.1.1.2.2.1,r41.1.1.2.2.2.1,r41.1.1.2.2.2.2.1,r41.1.1.2.2.2.2.2.1,()),r41.1.2.1,()),())
   else I ((t,A3,()),())) (match D0 r with|some n=>Gn ⟨id,ti,nx,held,marks,inbox⟩ w n|none=>U):=by
 simp only[axg hr,A9];cases h:D0 r with
 | none=>exact B2.no
 | some n=>
  have:=Je (J6 h).1;exact(atE sm this h0 h1).eta
def or3{a b c:Bool}{Ω X:Type}{f:Bool->X}:(if a then(I (.inr<|f a):Option (Ω ⊕ X)) else if b then I (.inr<|f b) else I (.inr<|f c))=I (.inr<|f<|a||(b||c)):=by cases a<;>cases b<;>rfl
def or2{a b:Bool}{Ω X:Type}{f:Bool->X}:(if a then(I (.inr<|f a):Option (Ω ⊕ X)) else I (.inr<|f b))=I (.inr<|f<|a||b):=by cases a<;>rfl
def or4{a b c d:Bool}{Ω X:Type}{f:Bool->X}:(if a then(I (.inr<|f a):Option (Ω ⊕ X)) else if b then I (.inr<|f b) else if c then I (.inr<|f c) else I (.inr<|f d))=I (.inr<|f<|a||(b||(c||d))):=by cases a<;>cases b<;>cases c<;>rfl
def xH{a b:Bool}{Ω X:Type}{f:Bool->X}{g:X->Option Ω}{m:Option (Ω ⊕ X)}(h:m=(if a then(I (.inr<|f a):Option (Ω ⊕ X)) else I (.inr<|f b))):B8 g m=g (f<|a||b):=by rw[h,or2];rfl
def afR{a b c:Bool}{Ω X:Type}{f:Bool->X}{g:X->Option Ω}{m:Option (Ω ⊕ X)}(h:m=(if a then(I (.inr<|f a):Option (Ω ⊕ X)) else if b then I (.inr<|f b) else I (.inr<|f c))):B8 g m=g (f<|a||(b||c)):=by rw[h,or3];rfl
def asy{a b c d:Bool}{Ω X:Type}{f:Bool->X}{g:X->Option Ω}{m:Option (Ω ⊕ X)}(h:m=(if a then(I (.inr<|f a):Option (Ω ⊕ X)) else if b then I (.inr<|f b) else if c then I (.inr<|f c) else I (.inr<|f d))):B8 g m=g (f<|a||(b||(c||d))):=by rw[h,or4];rfl
def akM{id ti nx:Int}{rec:A4}{held:List A7}{marks:List Mark}{inbox:List A7}(sm:DM held marks inbox)(hr:rec.size<=1048576)(h0:0<=nx)(h1:nx<=1000):
  B2 (Vc ((id,ti,nx,held,marks,inbox,()),rec,())) (Ga ⟨id,ti,nx,held,marks,inbox⟩ rec):=by
 have hr2:(wd rec).2.size<=1048576:=by have:=(TN rec).2;omega
 unfold Vc Ga Bs;simp only[apo hr,A9];refine B2.neg λ_=> ?_;rw[xH (a:=A0<|(wd rec).1=Dk) (b:=A0<|(wd rec).1=Ec) (f:=λv=>((id,ti,nx,held,marks,inbox,()),(0,0,0,[],[],[],()),(wd rec).1,(wd rec).2,(wd rec).1,v,())) rfl];refine B2.ite (λ_=>am5 sm hr2) λ_=> ?_;simp only;rw[asy (a:=A0<|(wd rec).1=Di) (b:=A0<|(wd rec).1=EM) (c:=A0<|(wd rec).1=Dz) (d:=A0<|(wd rec).1=EI) (f:=λv=>((id,ti,nx,held,marks,inbox,()),(0,0,0,[],[],[],()),(wd rec).1,(wd rec).2,(wd rec).1,v,())) rfl];refine B2.ite (λ_=>auo sm hr2 h0 h1) λ_=> ?_;simp only;rw[afR (a:=A0<|(wd rec).1=Cs) (b:=A0<|(wd rec).1=CM) (c:=A0<|(wd rec).1=D3) (f:=λv=>((id,ti,nx,held,marks,inbox,()),(0,0,0,[],[],[],()),(wd rec).1,(wd rec).2,v,())) rfl];exact B2.ite (λ_=>aoO sm hr2) λ_=>B2.no
def avU{k:AU}{rec:A4}(hf:EU k){o:AU}(h:Ga k rec=I o):SmK o:=by
 unfold Ga at h;split at h
 .cases h
 unfold Bs at h;split at h
 .split at h
  .exact axo hf h
  .cases h
 split at h
 .cases hn:D0 (wd rec).2 with
  | none=>rw[hn]at h;cases h
  | some n=>rw[hn]at h;exact af9 hf (J6 hn).1 h
 split at h
 .cases hn:Gv (wd rec).2 with
  | none=>rw[hn]at h;cases h
  | some n=>rw[hn]at h;exact agd hf h
 .cases h
def FA(k:AU)(rec:A4):AU×Bool:=
 if BI k then(match (Ga k rec).filter BI with|some k'=>(k',A1)|none=>(k,A3)) else(⟨0,0,0,[],[],[]⟩,A3)
def yQ{id ti nx:Int}{rec:A4}{held:List A7}{marks:List Mark}{inbox:List A7}(sm:DM held marks inbox)(hr:rec.size<=1048576):
  RZ ((id,ti,nx,held,marks,inbox,()),rec,())=I ((tK (FA ⟨id,ti,nx,held,marks,inbox⟩ rec).1,(FA ⟨id,ti,nx,held,marks,inbox⟩ rec).2,()),()):=by
 unfold RZ FA;simp only[oE sm,qB sm,A9];rcases tf (BI ⟨id,ti,nx,held,marks,inbox⟩) with h|h
 .have hf:=Ci h;have ha:=akM (id:=id) (ti:=ti) (nx:=nx) sm hr (by have:=hf.n0;simp only at this;omega) (by have:=hf.n1;simp only at this;omega);simp only[h,AB,A6,A5];cases hst:Ga ⟨id,ti,nx,held,marks,inbox⟩ rec with
  | none=>
   rw[hst]at ha;obtain⟨t,ht⟩:=ha;simp only[ht,A9,AE,AB,HF,A5,Bq];rfl
  | some o=>
   rw[hst]at ha;have sm':=avU hf hst;rw[show Vc ((id,ti,nx,held,marks,inbox,()),rec,())=I ((tK o,A1,()),()) from ha];simp only[A9,AB,AE,II,oE sm',qB sm',CE,CF,A5,Bo,Option.filter_some];rcases tf (BI o) with h2|h2
   .simp only[h2,AB,A6,A5]
   .simp only[h2,AE,A6,A5]
 .simp only[h,AE,A6,A5]
def avm{id ti nx a b:Int}{held:List A7}{marks:List Mark}{inbox:List A7}(sm:DM held marks inbox)(h:0<=Aa held a b):
  bM ((id,ti,nx,held,marks,inbox,()),a,b,())=I (((id,ti,nx,Gf held (Aa held a b).toNat,PC marks ⟨a,b,(nA held (Aa held a b).toNat).un⟩,inbox,()),A1,()),()):=by
 obtain⟨h1,h2,_⟩:=Ii h;have hl:=sm.hl;unfold bM;have NI:A0 (Aa held a b<0)=A3:=by simp;omega
 simp only[J4 sm.hl,A9,NI,A6,MM h,A5];generalize hi:(Aa held a b).toNat=i at *;rw[← h2];have e1:(A0 (0<=(i:Int))&&A0 ((i:Int)<=(held.length:Int)))=A1:=by simp;omega
 have e2:(A0 (0<=((i+1:Nat):Int))&&A0 (((i+1:Nat):Int)<=(held.length:Int)))=A1:=by simp;omega
 simp only[BL h1 (by omega:held.length<=9223372036854775807),e1,e2,A5,Bw,Ef,CB,DS,DN,Dc,Dd,pN sm.ml,A9];rw[A8<|B7 J,A8<|B7 J];rfl
def avN{id ti nx a b:Int}{held:List A7}{marks:List Mark}{inbox:List A7}(sm:DM held marks inbox)(h:0<=Aa inbox a b):
  cQ ((id,ti,nx,held,marks,inbox,()),a,b,())=I (((id,ti,nx,held,marks,Gf inbox (Aa inbox a b).toNat,()),A1,()),()):=by
 obtain⟨h1,h2,_⟩:=Ii h;have hl:=sm.il;unfold cQ;have NI:A0 (Aa inbox a b<0)=A3:=by simp;omega
 simp only[J4 sm.il,A9,NI,A6];generalize hi:(Aa inbox a b).toNat=i at *;rw[← h2];have e1:(A0 (0<=(i:Int))&&A0 ((i:Int)<=(inbox.length:Int)))=A1:=by simp;omega
 have e2:(A0 (0<=((i+1:Nat):Int))&&A0 (((i+1:Nat):Int)<=(inbox.length:Int)))=A1:=by simp;omega
 simp only[BL h1 (by omega:inbox.length<=9223372036854775807),e1,e2,A5,Bw,Ef,CB,DS,DN,Dc];rw[A8<|B7 J,A8<|B7 J];rfl
def LZ(r:A4):Bool:= !decide (Dv r 3=noB)|| !decide (r=((((BF (Ac<|Am r 0)++B [32])++BF (Ac<|Am r 1))++B [32])++BF (Ac<|Am r 2)))
def mk3(r:A4):Mark:=⟨Ac<|Am r 0,Ac<|Am r 1,Ac<|Am r 2⟩
def Da(k:AU)(w r:A4):Option AU:=
 if A0 (w=Dk) then(if A0 (Ac r<=k.ti) then U else I ⟨k.id,Ac r,k.nx,Gh (Ac r) k.held,Js (Ac r) k.marks,k.inbox⟩) else
 if A0 (w=Di) then(match D0 r with|some n=>if !decide (n.fr=k.id) then U else if !decide (n.nu=k.nx) then U else HB ⟨k.id,k.ti,k.nx+1,k.held,k.marks,k.inbox⟩ n|none=>U) else
 if A0 (w=EM) then(match D0 r with|some n=>if A0 (n.fr=k.id) then U else HB k n|none=>U) else
 if A0 (w=Ec) then(if A0 (Ac r<=k.nx) then U else I ⟨k.id,k.ti,Ac r,k.held,k.marks,k.inbox⟩) else
 if A0 (w=Dz)||decide (w=EI) then(match D0 r with|some n=>if A0 (0<=Aa k.held n.fr n.nu) then U else if A0 (0<=Aa k.inbox n.fr n.nu) then U else if A0 (w=Dz) then I ⟨k.id,k.ti,k.nx,Eg k.held n,k.marks,k.inbox⟩ else I ⟨k.id,k.ti,k.nx,k.held,k.marks,Eg k.inbox n⟩|none=>U) else
 if LZ r then U else
 if A0 (w=Cs) then(if !FO k.held (mk3 r) then U else I ⟨k.id,k.ti,k.nx,Gf k.held (Aa k.held (mk3 r).mf (mk3 r).mn).toNat,Fm k.marks<|mk3 r,k.inbox⟩) else
 if A0 (w=CM) then(if !FO k.inbox (mk3 r) then U else I ⟨k.id,k.ti,k.nx,k.held,k.marks,Gf k.inbox (Aa k.inbox (mk3 r).mf (mk3 r).mn).toNat⟩) else
 if A0 (w=D3) then(if A0 (0<=Cf k.marks (mk3 r).mf (mk3 r).mn) then U else I ⟨k.id,k.ti,k.nx,k.held,Fm k.marks<|mk3 r,k.inbox⟩) else U
def XE(s:A4): -1<=Ac s/\Ac s<10000:=by
 rcases QR s with⟨h,_⟩|⟨n,h,h1,h2⟩
 .omega
 .have:n<10000:=by
   have hv:=Zq 4 (L s) (by rw[Av];omega) (by rw[h2];exact cq (n+1) n J);rw[h2,dL (n+1) n J]at hv;omega
  omega
def fb{n:Int}(h0: -1<=n)(h1:n<10000):(BF n).size<=4:=by
 by_cases h:0<=n
 .exact GU h J J
 .obtain rfl:n= -1:=J
  have:BF (-1)=B [45,49]:=by
   apply F9;show B6 (-1)=_;rw[show(-1:Int)= -((1:Nat):Int) by rfl,pS _ J];show 45::dcm 1=_;rw[KP J];rfl
  rw[this];decide
def acp{l:List A7}{m:Mark}:(A0 (Aa l m.mf m.mn<0)|| !decide ((@rd A7 (dfl .note) l<|Aa l m.mf m.mn).un=m.mu))= !FO l m:=by
 unfold FO;rcases sgn (Aa l m.mf m.mn) with h|h
 .simp only[h,AO,Af,Bq,AN,AE]
 .simp only[h,AO,Af,Bo,AW];rfl
def az4{l:List A7}{f n:Int}:Ah (!(A0<|Aa l f n<0)) (inb (Aa l f n) l.length)=A1:=by
 rcases sgn (Aa l f n) with h|h
 .simp only[h,AO,AB,HF]
 .simp only[h,Af,AE,II,MM<|of_eq_true h.2]
def akI{id ti nx:Int}{rec:A4}{held:List A7}{marks:List Mark}{inbox:List A7}(hf:EU ⟨id,ti,nx,held,marks,inbox⟩)(hr:rec.size<=1048576):
  B2 (VC ((id,ti,nx,held,marks,inbox,()),rec,())) (Da ⟨id,ti,nx,held,marks,inbox⟩ (wd rec).1 (wd rec).2):=by
 have sm:DM held marks inbox:=hf.sm;have hn0:1<=nx:=hf.n0;have hn1:nx<=100:=hf.n1;have hr2:(wd rec).2.size<=1048576:=by have:=(TN rec).2;omega
 unfold VC Da;simp only[y0 hr,A9];generalize (wd rec).1=w;generalize (wd rec).2=r at *;simp only[lv<|show r.size<=9223372036854775807 by omega,acv hr2,ax9 sm,A9];refine B2.ite (λ_=>B2.neg λ_=>rfl) λ_=> ?_;refine B2.ite (λ_=> ?_) λ_=> ?_
 .cases h:D0 r with
  | none=>exact B2.no
  | some n=>
   have:=Je (J6 h).1;simp only[Tx,AB,A6];refine B2.neg λ_=>B2.neg λ_=> ?_;rw[AY J J];exact(acm sm this).eta
 refine B2.ite (λ_=> ?_) λ_=> ?_
 .cases h:D0 r with
  | none=>exact B2.no
  | some n=>
   have:=Je (J6 h).1;simp only[Tx,AB,Bo];exact B2.neg λ_=>(acm sm this).eta
 refine B2.ite (λ_=>B2.neg λ_=>rfl) λ_=> ?_;rw[xH (a:=A0<|w=Dz) (b:=A0<|w=EI) (f:=λv=>((id,ti,nx,held,marks,inbox,()),(0,0,0,[],[],[],()),w,r,v,())) rfl];refine B2.ite (λ_=> ?_) λ_=> ?_
 .simp only[acv hr2,A9];cases h:D0 r with
  | none=>exact B2.no
  | some n=>
   have:=Je (J6 h).1;simp only[Tx,AB,A6,J4 sm.hl,J4 sm.il,A9];refine B2.neg λh1=>B2.neg λh2=> ?_;have e1:Oy held n=Eg held n:=ab (by simpa using h1);have e2:Oy inbox n=Eg inbox n:=ab (by simpa using h2);have EX:=YM (l:=held) (fr:=n.fr) (nu:=n.nu) (tt:=n.to) (un:=n.un) (tx:=n.tx) sm.hl;have ct:=YM (l:=inbox) (fr:=n.fr) (nu:=n.nu) (tt:=n.to) (un:=n.un) (tx:=n.tx) sm.il;rw[show(⟨n.fr,n.nu,n.to,n.un,n.tx⟩:A7)=n from rfl]at EX ct;simp only[EX,ct,e1,e2,A9];exact B2.ite (λ_=>rfl) λ_=>rfl
 have e3:OU (r,3,())=I (([Ac<|Am r 0,Ac<|Am r 1,Ac<|Am r 2],Dv r 3,()),()):=adx (n:=3) hr2 J;have i0:inb 0 [Ac<|Am r 0,Ac<|Am r 1,Ac<|Am r 2].length=A1:=rfl;have i1:inb 1 [Ac<|Am r 0,Ac<|Am r 1,Ac<|Am r 2].length=A1:=rfl;have i2:inb 2 [Ac<|Am r 0,Ac<|Am r 1,Ac<|Am r 2].length=A1:=rfl;have r0: @rd Int (dfl .int) [Ac<|Am r 0,Ac<|Am r 1,Ac<|Am r 2] 0=Ac (Am r 0):=rfl;have r1: @rd Int (dfl .int) [Ac<|Am r 0,Ac<|Am r 1,Ac<|Am r 2] 1=Ac (Am r 1):=rfl;have r2: @rd Int (dfl .int) [Ac<|Am r 0,Ac<|Am r 1,Ac<|Am r 2] 2=Ac (Am r 2):=rfl;have q0:=XE<|Am r 0;have q1:=XE<|Am r 1;have q2:=XE<|Am r 2;have z0:=fb q0.1 q0.2;have z1:=fb q1.1 q1.2;have z2:=fb q2.1 q2.2;have zb:(B [32]).size=1:=rfl;have d1:A0 ((BF<|Ac<|Am r 0).size+(B [32]).size<=4611686018427387904)=A1:=by rw[zb,decide_eq_true_eq];omega
 have d2:A0 ((BF (Ac<|Am r 0)++B [32]).size+(BF<|Ac<|Am r 1).size<=4611686018427387904)=A1:=by rw[Bb,zb,decide_eq_true_eq];omega
 have d3:A0 (((BF (Ac<|Am r 0)++B [32])++BF (Ac<|Am r 1)).size+(B [32]).size<=4611686018427387904)=A1:=by rw[Bb,Bb,zb,decide_eq_true_eq];omega
 have d4:A0 ((((BF (Ac<|Am r 0)++B [32])++BF (Ac<|Am r 1))++B [32]).size+(BF<|Ac<|Am r 2).size<=4611686018427387904)=A1:=by rw[Bb,Bb,Bb,zb,decide_eq_true_eq];omega
 simp only[e3,A9,i0,i1,i2,r0,r1,r2,FE (n:=Ac<|Am r 0) J J,FE (n:=Ac<|Am r 1) J J,FE (n:=Ac<|Am r 2) J J,
  CE,CF,show ∀c,Ah c A1=A1 from λc=>rfl,A5,d1,d2,d3,d4]
 refine B2.neg λ_=> ?_;have hmk:mk3 r=⟨Ac<|Am r 0,Ac<|Am r 1,Ac<|Am r 2⟩:=rfl;generalize Ac (Am r 0)=a at *;generalize Ac (Am r 1)=b at *;generalize Ac (Am r 2)=c at *;rw[hmk];simp only[J4 sm.hl,J4 sm.il,Pt sm.ml,A9,az4,A5];refine B2.ite (λ_=> ?_) λ_=> ?_
 .rw[acp (m:=⟨a,b,c⟩)];refine B2.neg λh=> ?_;have hh:FO held ⟨a,b,c⟩=A1:=by simpa using h
  simp only[FO,AI,decide_eq_true_eq]at hh;obtain⟨g1,g2,g3,g4⟩:=Ii hh.1;have ho:=hf.ho _ g1;unfold IX at ho;simp only[AI,decide_eq_true_eq]at ho;have hm:Cf marks a b<0:=by
   have:=ho.2.2.2;simp only[g3,g4]at this;exact this
  have hM:PC marks ⟨a,b,c⟩=Fm marks ⟨a,b,c⟩:=nK hm;simp only[avm sm hh.1,A9,hh.2,hM];rfl
 refine B2.ite (λ_=> ?_) λ_=> ?_
 .rw[acp (m:=⟨a,b,c⟩)];refine B2.neg λh=> ?_;have hh:FO inbox ⟨a,b,c⟩=A1:=by simpa using h
  simp only[FO,AI,decide_eq_true_eq]at hh;simp only[avN sm hh.1,A9];rfl
 refine B2.ite (λ_=> ?_) λ_=>B2.no;refine B2.neg λh=> ?_;have hM:PC marks ⟨a,b,c⟩=Fm marks ⟨a,b,c⟩:=nK (by simpa using h);simp only[pN sm.ml,A9,hM];rfl
def ayD:A0 (Dk=Ec)=A3:=by decide
def aik:A0 (Dk=Di)=A3:=by decide
def aiH:A0 (Dk=EM)=A3:=by decide
def aiu:A0 (Dk=Dz)=A3:=by decide
def anJ:A0 (Dk=EI)=A3:=by decide
def ahM:A0 (Dk=Cs)=A3:=by decide
def akp:A0 (Dk=CM)=A3:=by decide
def aim:A0 (Dk=D3)=A3:=by decide
def su:A0 (Ec=Dk)=A3:=by decide
def akF:A0 (Ec=Di)=A3:=by decide
def alN:A0 (Ec=EM)=A3:=by decide
def ax0:A0 (Ec=Dz)=A3:=by decide
def ao3:A0 (Ec=EI)=A3:=by decide
def arR:A0 (Ec=Cs)=A3:=by decide
def apj:A0 (Ec=CM)=A3:=by decide
def ao9:A0 (Ec=D3)=A3:=by decide
def azM:A0 (Di=Dk)=A3:=by decide
def avG:A0 (Di=Ec)=A3:=by decide
def az8:A0 (Di=EM)=A3:=by decide
def ayp:A0 (Di=Dz)=A3:=by decide
def apY:A0 (Di=EI)=A3:=by decide
def aze:A0 (Di=Cs)=A3:=by decide
def aqY:A0 (Di=CM)=A3:=by decide
def atY:A0 (Di=D3)=A3:=by decide
def ak1:A0 (EM=Dk)=A3:=by decide
def aya:A0 (EM=Ec)=A3:=by decide
def ayM:A0 (EM=Di)=A3:=by decide
def azr:A0 (EM=Dz)=A3:=by decide
def aiO:A0 (EM=EI)=A3:=by decide
def asT:A0 (EM=Cs)=A3:=by decide
def asG:A0 (EM=CM)=A3:=by decide
def ann:A0 (EM=D3)=A3:=by decide
def aAD:A0 (Dz=Dk)=A3:=by decide
def adb:A0 (Dz=Ec)=A3:=by decide
def yA:A0 (Dz=Di)=A3:=by decide
def sf:A0 (Dz=EM)=A3:=by decide
def aij:A0 (Dz=EI)=A3:=by decide
def ak8:A0 (Dz=Cs)=A3:=by decide
def ajA:A0 (Dz=CM)=A3:=by decide
def asu:A0 (Dz=D3)=A3:=by decide
def rb:A0 (EI=Dk)=A3:=by decide
def adU:A0 (EI=Ec)=A3:=by decide
def zx:A0 (EI=Di)=A3:=by decide
def vw:A0 (EI=EM)=A3:=by decide
def zt:A0 (EI=Dz)=A3:=by decide
def av5:A0 (EI=Cs)=A3:=by decide
def avx:A0 (EI=CM)=A3:=by decide
def aqI:A0 (EI=D3)=A3:=by decide
def xF:A0 (Cs=Dk)=A3:=by decide
def adA:A0 (Cs=Ec)=A3:=by decide
def uM:A0 (Cs=Di)=A3:=by decide
def zX:A0 (Cs=EM)=A3:=by decide
def acf:A0 (Cs=Dz)=A3:=by decide
def rX:A0 (Cs=EI)=A3:=by decide
def qc:A0 (Cs=CM)=A3:=by decide
def zr:A0 (Cs=D3)=A3:=by decide
def lR:A0 (CM=Dk)=A3:=by decide
def iT:A0 (CM=Ec)=A3:=by decide
def mT:A0 (CM=Di)=A3:=by decide
def kh:A0 (CM=EM)=A3:=by decide
def eJ:A0 (CM=Dz)=A3:=by decide
def lZ:A0 (CM=EI)=A3:=by decide
def pL:A0 (CM=Cs)=A3:=by decide
def iN:A0 (CM=D3)=A3:=by decide
def eD:A0 (D3=Dk)=A3:=by decide
def ni:A0 (D3=Ec)=A3:=by decide
def oL:A0 (D3=Di)=A3:=by decide
def fC:A0 (D3=EM)=A3:=by decide
def oX:A0 (D3=Dz)=A3:=by decide
def ga:A0 (D3=EI)=A3:=by decide
def kv:A0 (D3=Cs)=A3:=by decide
def mC:A0 (D3=CM)=A3:=by decide
abbrev flt(o:Option AU):Option AU:=o.filter BI
def TY{o:Option AU}(h:o=U\/ ∃k,o=I k/\BI k=A3):flt o=U:=by
 obtain rfl|⟨k,rfl,h⟩:=h
 .rfl
 .simp[flt,Option.filter,h]
def aj7:D0 noB=U:=by
 cases h:D0 noB with
 | none=>rfl
 | some n=>
  obtain⟨h1,h2⟩:=J6 h;have:=oB<|I5 h1;rw[h2]at this;exact absurd this<|by decide
def aky:Ac noB= -1:=by
 rcases QR noB with⟨h,_⟩|⟨n,_,_,h⟩
 .exact h
 .exact absurd h.symm (la n)
def adC(r:A4):(Ao r=(0,A3)/\Ac r= -1)\/ ∃n:Nat,Ao r=((n:Int),A1)/\(Ac r=n\/(Ac r= -1/\10000<=n)):=by
 rcases QC r with h|⟨n,h1,h2,h3⟩
 .refine .inl ⟨h, ?_⟩;rcases QR r with⟨h4,_⟩|⟨n,_,h5,h6⟩
  .exact h4
  .rw[gk J h6]at h;cases h
 .refine .inr ⟨n,h1, ?_⟩;rcases QR r with⟨h4,h5⟩|⟨m,h4,_,h6⟩
  .refine .inr ⟨h4, ?_⟩;have h7:=h5 n h3;rcases GO n 10000 with h8|h8
   .have:=LO 4 n J J;rw[← h3,Av]at this;omega
   .exact h8
  .left;have e:dcm n=dcm m:=h3.symm.trans h6;have:=congrArg val e;rw[dL (n+1) n J,dL (m+1) m J]at this;omega
def aAH(a b c:Int):L ((((BF a++B [32])++BF b)++B [32])++BF c)=B6 a++32::(B6 b++32::B6 c):=by
 simp only[Fp,VF,L_B,C2,LB,Ef]
def im{l:List UInt8}(h:CH l):l.count 32=0:=List.count_eq_zero.2 λhm=>h 32 hm rfl
def gF{r:A4}{a b c:Int}(ha:0<=a)(ha2:a<100000)(hb:0<=b)(hb2:b<100000)(hc:0<=c)(hc2:c<100000)(e:L r=B6 a++32::(B6 b++32::B6 c)):Gv r=I ⟨a,b,c⟩:=by
 unfold Gv;have h2:(L r).count 32=1+1:=by
  rw[e,List.count_append,abp,List.count_append,abp,im<|H9 ha,im<|H9 hb,im<|H9 hc]
 rw[h2,e,LN<|H9 ha,LN<|H9 hb];show(if(Ao<|B<|B6 a).2&&((Ao<|B<|B6 b).2&&((Ao<|B<|B6 c).2&&A1)) then I (⟨(Ao<|B<|B6 a).1,(Ao<|B<|B6 b).1,(Ao<|B<|B6 c).1⟩:Mark) else U)=_;rw[Im ha ha2,Im hb hb2,Im hc hc2];rfl
def lO{p:List UInt8}(h:(Ao<|B p).2=A1):0<=(Ao<|B p).1/\p=B6 (Ao<|B p).1:=by
 rcases QC (B p) with h1|⟨n,h1,_,h3⟩
 .rw[h1]at h;cases h
 .rw[h1];exact⟨by simp,by rw[Iy];exact h3⟩
def qa{r:A4}{m:Mark}(h:Gv r=I m):0<=m.mf/\0<=m.mn/\0<=m.mu/\L r=B6 m.mf++32::(B6 m.mn++32::B6 m.mu):=by
 unfold Gv at h;have hj:=p9 ((L r).count 32)<|L r;split at h
 .rename_i p q t hp;rw[hp]at hj;split at h
  .rename_i hc;simp only[AI]at hc;cases h;have h1:=lO hc.1;have h2:=lO hc.2.1;have h3:=lO hc.2.2.1;refine⟨h1.1,h2.1,h3.1, ?_⟩;simp only;rw[← h1.2,← h2.2,← h3.2];exact hj.symm
  .cases h
 .cases h
def abD{r:A4}{a b c:Int}(ha:0<=a)(ha2:a<10000)(hb:0<=b)(hb2:b<10000)(hc:0<=c)(hc2:c<10000)(e:L r=B6 a++32::(B6 b++32::B6 c)):LZ r=A3/\mk3 r=⟨a,b,c⟩:=by
 have e0:=Lc (H9 ha) e;have c1:L (Dv r 1)=_:=(J3 (t:=r) e0).2;have e1:=Lc (H9 hb) c1;have c2:L (Dv r 2)=_:=(J3 (t:=r) e1).2;have e2:=TT (s:=Dv r 2) (by rw[c2];exact H9 hc);have w0:Am r 0=B (B6 a):=(J3 (t:=r) e0).1;have w1:Am r 1=B (B6 b):=(J3 (t:=r) e1).1;have w2:Am r 2=B (B6 c):=by
  show(wd<|Dv r 2).1=_;rw[e2];apply F9;rw[c2,L_B]
 have t3:Dv r 3=noB:=by
  show(wd<|Dv r 2).2=_;rw[e2]
 have d0:=MS ha ha2;have d1:=MS hb hb2;have d2:=MS hc hc2;refine⟨?_, ?_⟩
 .unfold LZ;rw[t3,w0,w1,w2,d0,d1,d2];have:r=((((BF a++B [32])++BF b)++B [32])++BF c):=F9 (by rw[e,aAH]);rw[← this];simp
 .unfold mk3;rw[w0,w1,w2,d0,d1,d2]
def PI{m:Mark}(h:G1 m=A1):0<=m.mf/\m.mf<=3/\1<=m.mn/\m.mn<=99/\1<=m.mu/\m.mu<=999:=by
 unfold G1 at h;simp only[AI,Ae]at h;omega
def o9{k:AU}(hf:EU k)(w r:A4):flt (if LZ r then U else Ey k w (mk3 r))=flt (match Gv r with|some m=>Ey k w m|none=>U):=by
 rcases tf (G1<|mk3 r) with hm|hm
 .obtain⟨a0,a1,b0,b1,c0,c1⟩:=PI hm;rcases tf (LZ r) with hc|hc
  .rw[hc];simp only[A5];cases h:Gv r with
   | none=>rfl
   | some m=>
    simp only;rcases tf (G1 m) with h2|h2
    .obtain⟨p0,p1,q0,q1,s0,s1⟩:=PI h2;obtain⟨_,_,_,e⟩:=qa h;rw[(abD J J J J J J e).1]at hc;cases hc
    .exact(TY<|pT hf h2).symm
  .have hc2:=hc;unfold LZ at hc;simp only[NO,Bool.not_eq_false',decide_eq_true_eq]at hc;have e:L r=_:=(congrArg L hc.2).trans<|aAH _ _ _;have:=gF (a:=(mk3 r).mf) (b:=(mk3 r).mn) (c:=(mk3 r).mu) J J J J J J e;rw[hc2,this];rfl
 .have hL:flt (if LZ r then U else Ey k w (mk3 r))=U:=by
   cases LZ r
   .exact TY (pT hf hm)
   .rfl
  rw[hL];cases h:Gv r with
  | none=>rfl
  | some m=>
   simp only;rcases tf (G1 m) with h2|h2
   .obtain⟨p0,p1,q0,q1,s0,s1⟩:=PI h2;obtain⟨_,_,_,e⟩:=qa h;have:=(abD J J J J J J e).2;rw[this]at hm;have hm:G1 m=A3:=hm;rw[h2]at hm;cases hm
   .exact(TY<|pT hf h2).symm
def atP{k:AU}{n nx:Int}{a b:List A7}{m:List Mark}(hn:999<n):BI ⟨k.id,n,nx,a,m,b⟩=A3:=by
 rcases tf (BI ⟨k.id,n,nx,a,m,b⟩) with h|h
 .have:=(Ci h).t1;simp only at this;omega
 .exact h
def ayE{k:AU}{n ti:Int}{a b:List A7}{m:List Mark}(hn:100<n):BI ⟨k.id,ti,n,a,m,b⟩=A3:=by
 rcases tf (BI ⟨k.id,ti,n,a,m,b⟩) with h|h
 .have:=(Ci h).n1;simp only at this;omega
 .exact h
def aw8{k:AU}(hf:EU k)(r:A4):flt (Da k Dk r)=flt (Bs k Dk r):=by
 have h0:=hf.t0;unfold Da Bs Hy;simp only[ayD,aik,aiH,aiu,anJ,ahM,akp,aim,AO,BZ,EN,DL,Bo,Bq,AN,AW,A5,A6];rcases adC r with⟨h1,h2⟩|⟨n,h1,h2|⟨h2,h3⟩⟩
 .rw[h1,h2,A8 (by simp;omega)];rfl
 .rw[h1,h2];rcases EK (n:Int) k.ti with h4|h4<;>simp only[h4,AO,Af,A5,A6]
 .rw[h1,h2,A8 (by simp;omega)];rcases EK (n:Int) k.ti with h4|h4<;>simp only[h4,AO,Af,A5,A6];exact(TY<|.inr ⟨_,rfl,atP J⟩).symm
def amd{k:AU}(hf:EU k)(r:A4):flt (Da k Ec r)=flt (Bs k Ec r):=by
 have h0:=hf.n0;unfold Da Bs Hy;simp only[su,akF,alN,ax0,ao3,arR,apj,ao9,AO,BZ,EN,DL,Bo,Bq,AN,AW,A5,A6];rcases adC r with⟨h1,h2⟩|⟨n,h1,h2|⟨h2,h3⟩⟩
 .rw[h1,h2,A8 (by simp;omega)];rfl
 .rw[h1,h2];rcases EK (n:Int) k.nx with h4|h4<;>simp only[h4,AO,Af,A5,A6]
 .rw[h1,h2,A8 (by simp;omega)];rcases EK (n:Int) k.nx with h4|h4<;>simp only[h4,AO,Af,A5,A6];exact(TY<|.inr ⟨_,rfl,ayE J⟩).symm
def ai4{k:AU}(r:A4):Da k Di r=Bs k Di r:=by
 unfold Da Bs Gn;simp only[azM,avG,az8,ayp,apY,aze,aqY,atY,AO,BZ,EN,DL,Bo,Bq,AN,AW,A5,A6];cases D0 r with
 | none=>rfl
 | some n=>
  simp only;rcases tf (A0<|n.fr=k.id) with h1|h1<;>rcases tf (A0<|n.nu=k.nx) with h2|h2<;>simp only[h1,h2,AB,AE,ite_self,AO,BZ,EN,DL,Bo,Bq,AN,AW,A5,A6]
def ajw{k:AU}(r:A4):Da k EM r=Bs k EM r:=by
 unfold Da Bs Gn;simp only[ak1,aya,ayM,azr,aiO,asT,asG,ann,AO,BZ,EN,DL,Bo,Bq,AN,AW,A5,A6];cases D0 r with
 | none=>rfl
 | some n=>
  simp only;rcases tf (A0<|n.fr=k.id) with h1|h1<;>simp only[h1,AB,AE,ite_self,AO,BZ,EN,DL,Bo,Bq,AN,AW,A5,A6]
def ayx{k:AU}(r:A4):Da k Dz r=Bs k Dz r:=by
 unfold Da Bs Gn;simp only[aAD,adb,yA,sf,aij,ak8,ajA,asu,AO,BZ,EN,DL,Bo,Bq,AN,AW,A5,A6];cases D0 r with
 | none=>rfl
 | some n=>
  simp only;rcases tf (A0<|0<=Aa k.held n.fr n.nu) with h1|h1<;>rcases tf (A0<|0<=Aa k.inbox n.fr n.nu) with h2|h2<;>simp only[h1,h2,AB,AE,ite_self,AO,BZ,EN,DL,Bo,Bq,AN,AW,A5,A6]
def atx{k:AU}(r:A4):Da k EI r=Bs k EI r:=by
 unfold Da Bs Gn;simp only[rb,adU,zx,vw,zt,av5,avx,aqI,AO,BZ,EN,DL,Bo,Bq,AN,AW,A5,A6];cases D0 r with
 | none=>rfl
 | some n=>
  simp only;rcases tf (A0<|0<=Aa k.held n.fr n.nu) with h1|h1<;>rcases tf (A0<|0<=Aa k.inbox n.fr n.nu) with h2|h2<;>simp only[h1,h2,AB,AE,ite_self,AO,BZ,EN,DL,Bo,Bq,AN,AW,A5,A6]
def alq{k:AU}(hf:EU k)(r:A4):flt (Da k Cs r)=flt (Bs k Cs r):=by
 have h:=o9 hf Cs r;unfold Da Bs;simp only[xF,adA,uM,zX,acf,rX,qc,zr,AO,BZ,EN,DL,Bo,Bq,AN,AW,A5,A6];refine Kl ?_ h;unfold Ey;simp only[xF,adA,uM,zX,acf,rX,qc,zr,AO,BZ,EN,DL,Bo,Bq,AN,AW,A5,A6];congr 1;refine ite_congr rfl (λ_=>rfl) λ_=> ?_;cases FO k.held (mk3 r)<;>rfl
def ayL{k:AU}(hf:EU k)(r:A4):flt (Da k CM r)=flt (Bs k CM r):=by
 have h:=o9 hf CM r;unfold Da Bs;simp only[lR,iT,mT,kh,eJ,lZ,pL,iN,AO,BZ,EN,DL,Bo,Bq,AN,AW,A5,A6];refine Kl ?_ h;unfold Ey;simp only[lR,iT,mT,kh,eJ,lZ,pL,iN,AO,BZ,EN,DL,Bo,Bq,AN,AW,A5,A6];congr 1;refine ite_congr rfl (λ_=>rfl) λ_=> ?_;cases FO k.inbox (mk3 r)<;>rfl
def azT{k:AU}(hf:EU k)(r:A4):flt (Da k D3 r)=flt (Bs k D3 r):=by
 have h:=o9 hf D3 r;unfold Da Bs;simp only[eD,ni,oL,fC,oX,ga,kv,mC,AO,BZ,EN,DL,Bo,Bq,AN,AW,A5,A6];refine Kl ?_ h;unfold Ey;simp only[eD,ni,oL,fC,oX,ga,kv,mC,AO,BZ,EN,DL,Bo,Bq,AN,AW,A5,A6];congr 1;refine ite_congr rfl (λ_=>rfl) λ_=> ?_;cases A0 (0<=Cf k.marks (mk3 r).mf (mk3 r).mn)<;>rfl
def ah8{k:AU}(hf:EU k)(w r:A4):flt (Da k w r)=flt (Bs k w r):=by
 by_cases oI:w=Dk
 .subst oI;exact aw8 hf r
 by_cases mG:w=Ec
 .subst mG;exact amd hf r
 by_cases ko:w=Di
 .subst ko;exact congrArg flt<|ai4 r
 by_cases mg:w=EM
 .subst mg;exact congrArg flt<|ajw r
 by_cases nP:w=Dz
 .subst nP;exact congrArg flt<|ayx r
 by_cases mL:w=EI
 .subst mL;exact congrArg flt<|atx r
 by_cases iQ:w=Cs
 .subst iQ;exact alq hf r
 by_cases gK:w=CM
 .subst gK;exact ayL hf r
 by_cases js:w=D3
 .subst js;exact azT hf r
 have e1:Da k w r=U:=by
  unfold Da;simp only[oI,mG,ko,mg,nP,mL,iQ,gK,js,Af,AO,BZ,EN,DL,Bo,Bq,AN,AW,A5,A6,ite_self]
 have e2:Bs k w r=U:=by
  unfold Bs;simp only[oI,mG,ko,mg,nP,mL,iQ,gK,js,Af,AO,BZ,EN,DL,Bo,Bq,AN,AW,A5,A6]
 rw[e1,e2]
def arp{k:AU}(hf:EU k)(w:A4):Da k w noB=U:=by
 have h0:=hf.t0;have h1:=hf.n0;have hc:LZ noB=A1:=by
  unfold LZ;have:¬noB=((((BF (Ac<|Am noB 0)++B [32])++BF (Ac<|Am noB 1))++B [32])++BF (Ac<|Am noB 2)):=λh=>by
   have:=congrArg Vq h;rw[Bb,Bb,Bb,Bb]at this;have e:noB.size=0:=rfl;have e2:(B [32]).size=1:=rfl;omega
  simp[this]
 unfold Da;rw[aky,aj7,hc];have a1:A0 (-1<=k.ti)=A1:=by simp;omega
 have a2:A0 (-1<=k.nx)=A1:=by simp;omega
 simp only[a1,a2,A5,ite_self]
def anM{k:AU}(hf:EU k)(rec:A4):flt (Da k (wd rec).1 (wd rec).2)=flt (Ga k rec):=by
 unfold Ga;rcases LH (L rec) with h|⟨w,r,h,e⟩
 .rw[TT h,Sx h,arp hf];rfl
 .rw[e,Uc h];exact ah8 hf _ _
def atw{k:AU}{w r:A4}(hf:EU k){o:AU}(h:Da k w r=I o):SmK o:=by
 have sm:=hf.sm;unfold Da at h;split at h
 .split at h<;>cases h;have a:=IZ (λx:A7=>A0<|Ac r<x.un) k.held;have b:=IZ (λx:Mark=>A0<|Ac r<x.mu) k.marks;have l1:=hf.hl;have l2:=hf.ml;exact⟨by unfold Gh;simp only;omega,λx hx=>sm.h x (Hg.1 hx).1,by unfold Js;simp only;omega,sm.il,sm.i⟩
 split at h
 .cases hn:D0 r with
  | none=>rw[hn]at h;cases h
  | some n=>
   rw[hn]at h;simp only at h;split at h
   .cases h
   split at h
   .cases h
   exact bd (k':=⟨k.id,k.ti,k.nx+1,k.held,k.marks,k.inbox⟩) hf ⟨rfl,rfl,rfl⟩ h
 split at h
 .cases hn:D0 r with
  | none=>rw[hn]at h;cases h
  | some n=>
   rw[hn]at h;simp only at h;split at h
   .cases h
   exact bd (k':=k) hf ⟨rfl,rfl,rfl⟩ h
 split at h
 .split at h<;>cases h;exact sm
 split at h
 .cases hn:D0 r with
  | none=>rw[hn]at h;cases h
  | some n=>
   have hok:=Je (J6 hn).1;rw[hn]at h;simp only at h;split at h
   .cases h
   split at h
   .cases h
   split at h<;>cases h
   .have a:=RE hf.hl sm.h hok;exact⟨a.1,a.2,sm.ml,sm.il,sm.i⟩
   .have a:=RE hf.il sm.i hok;exact⟨sm.hl,sm.h,sm.ml,a.1,a.2⟩
 split at h
 .cases h
 split at h
 .split at h<;>cases h;have a:=dU (i:=(Aa k.held (mk3 r).mf (mk3 r).mn).toNat) hf.hl sm.h;exact⟨a.1,a.2,T9 hf.ml,sm.il,sm.i⟩
 split at h
 .split at h<;>cases h;have a:=dU (i:=(Aa k.inbox (mk3 r).mf (mk3 r).mn).toNat) hf.il sm.i;exact⟨sm.hl,sm.h,sm.ml,a.1,a.2⟩
 split at h
 .split at h<;>cases h;exact⟨sm.hl,sm.h,T9 hf.ml,sm.il,sm.i⟩
 .cases h
def aa5{id ti nx:Int}{rec:A4}{held:List A7}{marks:List Mark}{inbox:List A7}(sm:DM held marks inbox)(hr:rec.size<=1048576):
  RP ((id,ti,nx,held,marks,inbox,()),rec,())=I ((tK (FA ⟨id,ti,nx,held,marks,inbox⟩ rec).1,(FA ⟨id,ti,nx,held,marks,inbox⟩ rec).2,()),()):=by
 unfold RP FA;simp only[oz sm,abm sm,A9];rcases tf (BI ⟨id,ti,nx,held,marks,inbox⟩) with h|h
 .have hf:=Ci h;have ha:=akI hf hr;have hko:=anM hf rec;unfold flt at hko;simp only[h,AB,A6,A5];rw[← hko];cases hst:Da ⟨id,ti,nx,held,marks,inbox⟩ (wd rec).1 (wd rec).2 with
  | none=>
   rw[hst]at ha;obtain⟨t,ht⟩:=ha;simp only[ht,A9,AE,AB,HF,A5,Bq];rfl
  | some o=>
   rw[hst]at ha;have sm':=atw hf hst;rw[show VC ((id,ti,nx,held,marks,inbox,()),rec,())=I ((tK o,A1,()),()) from ha];simp only[A9,AB,AE,II,oz sm',abm sm',CE,CF,A5,Bo,Option.filter_some];rcases tf (BI o) with h2|h2
   .simp only[h2,AB,A6,A5]
   .simp only[h2,AE,A6,A5]
 .simp only[h,AE,A6,A5]
def dr{s:A4}{a i:Nat}(h:a+i<s.size):bt (s.extract a s.size) i=bt s ((a+i:Nat):Int):=by
 rw[KV,KV,Ds];congr 2;rw[BG,BG,List.getElem?_take_of_lt J,HW]
def acg{s:A4}{a i j:Nat}(h:a+j<=s.size):(s.extract a s.size).extract i j=s.extract (a+i) (a+j):=by
 apply F9;rw[Ds,Ds,Ds];rw[List.drop_take,Jw,aY];congr 1;omega
def G0{s:A4}{a b:Nat}(hb:b<=s.size):(s.extract a b).size=b - a:=by
 rw[← Av,Ds,DN,Dc,Av];omega
def V7(s:A4):Int:=FL (min s.size 3) λi=>A0<|bt s i=58
def DT(s:A4):Option (A4×Nat):=
 if V7 s<0 then U else
 let c:=(V7 s).toNat
 let n:=Ac (s.extract 0 c)
 if n<1 then U else if 60<n then U else
 if(s.size:Int)<c+2+n then U else
 if !decide (bt s ((c+1+n.toNat:Nat):Int)=59) then U else I (s.extract (c+1)<|c+1+n.toNat,c+2+n.toNat)
def aO(s:A4):(V7 s= -1/\ ∀i,i<min s.size 3->bt s (i:Int)≠58)\/ ∃c:Nat,V7 s=c/\c<s.size/\c<3/\bt s (c:Int)=58/\ ∀i,i<c->bt s (i:Int)≠58:=by
 rcases Gw (min s.size 3) (λi=>A0<|bt s i=58) with⟨h1,h2⟩|⟨c,h1,h2,h3,h4⟩
 .exact .inl ⟨h1,λi hi=>by simpa using h2 i hi⟩
 .exact .inr ⟨c,h1,J,J,by simpa using h3,λi hi=>by simpa using h4 i hi⟩
def af3{s:A4}(hs:s.size<=1048576):Xi (s,())=I ((match DT s with|some p=>(p.1,(p.2:Int),())|none=>(noB,0,())),()):=by
 have hb:∀i,i<min s.size 3->Nl (s,(i:Int),())=if A0 (bt s (i:Int)=58) then Nl (s,(i:Int),()) else I (.inl (s,((i+1:Nat):Int),())):=λi hi=>by
  have hi2:i<s.size:=J
  rcases tf (A0<|bt s (i:Int)=58) with h|h
  .rw[h];rfl
  .rw[h];have e1:A0 ((i:Int)<3)=A1:=by simp;omega
   unfold Nl;simp only[AX hi2,BS hi2,h,BL hi2 (by omega:s.size<=9223372036854775807),e1];rfl
 have GZ:∃y,ma (s,0,())=I y/\((DT s=U/\(y= .inl (noB,0,())\/y= .inr ()))\/ ∃p,DT s=I p/\y= .inl (p.1,(p.2:Int),())):=by
  rcases aO s with⟨h1,h2⟩|⟨c,h1,h2,h3,h4,h5⟩
  .refine⟨.inr (), ?_,.inl ⟨by unfold DT;rw[h1,A8 J],.inr rfl⟩⟩;refine Ca (λi=>(s,(i:Int),())) (min s.size 3) (λi hi=> ?_) ?_
   .rw[hb i hi,show A0 (bt s (i:Int)=58)=A3 by simpa using h2 i hi];rfl
   .unfold Nl;have e:(A0 (((min s.size 3:Nat):Int)<(s.size:Int))&&A0 (((min s.size 3:Nat):Int)<3))=A3:=by
     rw[Bool.eq_false_iff];simp only[ne_eq,AI,decide_eq_true_eq];omega
    simp only[e];rfl
  .have D4:DT s=(let n:=Ac<|s.extract 0 c;if n<1 then U else if 60<n then U else if(s.size:Int)<c+2+n then U else
     if !decide (bt s ((c+1+n.toNat:Nat):Int)=59) then U else I (s.extract (c+1)<|c+1+n.toNat,c+2+n.toNat)):=by
    unfold DT;rw[h1,AD J];rfl
   have amD:∃y,Nl (s,(c:Int),())=I (.inr y)/\((DT s=U/\(y= .inl (noB,0,())\/y= .inr ()))\/ ∃p,DT s=I p/\y= .inl (p.1,(p.2:Int),())):=by
    rw[D4];unfold Nl;have e1:A0 ((c:Int)<3)=A1:=by simp;omega
    have e2:(A0 (0<=(c:Int))&&A0 ((c:Int)<=(s.size:Int)))=A1:=by simp;omega
    have e3:(!decide (bt s (c:Int)=58))=A3:=by simp[h4]
    have hse:(s.extract 0 c).size=c:=G0 J;simp only[AX h2,BS h2,e1,e2,e3,Bw,A6,Cd,A5,lv<|show(s.extract 0 c).size<=9223372036854775807 by omega,A9];have hrg:=XE<|s.extract 0 c;generalize Ac (s.extract 0 c)=n at *;by_cases k1:n<1
    .exact⟨.inl (noB,0,()),by simp[k1],.inl ⟨by simp[k1],.inl rfl⟩⟩
    by_cases k2:60<n
    .exact⟨.inl (noB,0,()),by simp[k1,k2],.inl ⟨by simp[k1,k2],.inl rfl⟩⟩
    obtain⟨m,hm⟩:=Gx (show 0<=n by omega);subst hm;have w1:w64 ((c:Int)+2)=(c:Int)+2:=AY J J;have w2:w64 ((c:Int)+1)=((c+1:Nat):Int):=by rw[AY J J];omega
    have w3:w64 ((c:Int)+2+(m:Int))=((c+2+m:Nat):Int):=by rw[AY J J];omega
    have w4:w64 (((c+1:Nat):Int)+(m:Int))=((c+1+m:Nat):Int):=by rw[AY J J];omega
    simp only[w1,w2,w3,w4,Bw];by_cases k3:(s.size:Int)<(c:Int)+2+m
    .have k3':(s.size:Int)<((c+2+m:Nat):Int):=J
     exact⟨.inl (noB,0,()),by simp only[k1,k2,k3',AO,Af,A5,A6],.inl ⟨by simp[k1,k2,k3],.inl rfl⟩⟩
    have k3':¬(s.size:Int)<((c+2+m:Nat):Int):=J
    have k4:c+1+m<s.size:=J
    have e5:((A0 (0<=((c+1+m:Nat):Int))&&A0 (((c+1+m:Nat):Int)<=(s.size:Int)))&&(A0 (0<=((c+1:Nat):Int))&&A0 (((c+1:Nat):Int)<=((c+1+m:Nat):Int))))=A1:=by
     simp only[AI,decide_eq_true_eq];omega
    simp only[k1,k2,k3,k3',Af,A6,if_false,AX k4,A5,e5];rcases tf (!decide (bt s ((c+1+m:Nat):Int)=59)) with k5|k5
    .exact⟨.inl (noB,0,()),by simp only[k5,A5],.inl ⟨by simp only[k5,A5],.inl rfl⟩⟩
    .exact⟨.inl (s.extract (c+1)<|c+1+m,((c+2+m:Nat):Int),()),by simp only[k5,A6],.inr ⟨(s.extract (c+1)<|c+1+m,c+2+m),by simp only[k5,A6],rfl⟩⟩
   obtain⟨y,hy,hy2⟩:=amD;refine⟨y, ?_,hy2⟩;refine Ca (λi=>(s,(i:Int),())) c (λi hi=> ?_) hy;rw[hb i J,show A0 (bt s (i:Int)=58)=A3 by simpa using h5 i hi];rfl
 obtain⟨y,hy,hy2⟩:=GZ;unfold Xi;simp only[hy];obtain⟨h1,rfl|rfl⟩|⟨p,h1,rfl⟩:=hy2<;>rw[h1]<;>rfl
def VT{s:A4}{p:A4×Nat}(h:DT s=I p):3<=p.2/\p.2<=s.size/\p.1.size<=60/\1<=p.1.size:=by
 unfold DT at h;split at h
 .cases h
 rename_i hc;rcases aO s with⟨h1,_⟩|⟨c,h1,h2,h3,h4,h5⟩
 .omega
 rw[h1]at h;simp only[Bw]at h;split at h
 .cases h
 split at h
 .cases h
 split at h
 .cases h
 split at h
 .cases h
 cases h;simp only;rw[G0 J];omega
def EV(log:A4):Nat->List A4->Nat->List A4×Nat
 | 0,out,at_=>(out,at_)
 | f+1,out,at_=>if at_<log.size then(match DT (log.extract at_ log.size) with
  | none=>(out,at_)
  | some p=>EV log f (out++[p.1]) (at_+p.2)) else(out,at_)
def uU{log:A4}:∀(f:Nat) (out:List A4) (at_:Nat),at_<=log.size->out.length<=at_->(∀r∈out,r.size<=60/\1<=r.size)->
  (EV log f out at_).2<=log.size/\(EV log f out at_).1.length<=(EV log f out at_).2/\ ∀r∈(EV log f out at_).1,r.size<=60/\1<=r.size
 | 0,out,at_,h1,h2,h3=>⟨h1,h2,h3⟩
 | f+1,out,at_,h1,h2,h3=>by
  unfold EV;split
  .rename_i hlt;cases h:DT (log.extract at_ log.size) with
   | none=>exact⟨h1,h2,h3⟩
   | some p=>
    obtain⟨a,b,c,d⟩:=VT h;rw[G0<|Ar _]at b;exact uU f _ _ J (by simp;omega) (λr hr=>by
     rcases Bk.1 hr with hr|hr
     .exact h3 r hr
     .obtain rfl:=DG.1 hr;exact⟨c,d⟩)
  .exact⟨h1,h2,h3⟩
def Cq(log:A4):List A4×Nat:=EV log (log.size+1) [] 0
def PN(log:A4):(Cq log).2<=log.size/\(Cq log).1.length<=log.size/\ ∀r∈(Cq log).1,r.size<=60/\1<=r.size:=by
 have:=uU (log:=log) (log.size+1) [] 0 (Ce _) (Ce _) (λr hr=>by cases hr);exact⟨this.1,C7 this.2.1 this.1,this.2.2⟩
def mi{ρ:Type}{log:A4}{b:(A4×List A4×Int×A2)->Option ((A4×List A4×Int×A2) ⊕ ρ)}(ok:List A4->Nat->ρ->Prop)
  (h:∀(out:List A4) (at_:Nat),at_<log.size->out.length<=at_->match DT (log.extract at_ log.size) with
   | some p=>b (log,out,(at_:Int),())=I (.inl (log,out++[p.1],((at_+p.2:Nat):Int),()))
   | none=>∃y,b (log,out,(at_:Int),())=I (.inr y)/\ok out at_ y)
  (hn:∀(out:List A4) (at_:Nat),log.size<=at_->∃y,b (log,out,(at_:Int),())=I (.inr y)/\ok out at_ y):
  ∀(f:Nat) (out:List A4) (at_:Nat),log.size<at_+f->at_<=log.size->out.length<=at_->∃y,AZ b (log,out,(at_:Int),())=I y/\ok (EV log f out at_).1 (EV log f out at_).2 y
 | 0,out,at_,h1,h2,h3=>J
 | f+1,out,at_,h1,h2,h3=>by
  unfold EV;by_cases hlt:at_<log.size
  .rw[A8 hlt];have hb:=h out at_ hlt h3;cases D4:DT (log.extract at_ log.size) with
   | none=>
    rw[D4]at hb;obtain⟨y,h4,h5⟩:=hb;exact⟨y,BT h4,h5⟩
   | some p=>
    rw[D4]at hb;obtain⟨a,c,_,_⟩:=VT D4;rw[G0<|Ar _]at c;obtain⟨y,h4,h5⟩:=mi ok h hn f (out++[p.1]) (at_+p.2) J J (by simp;omega);exact⟨y,B4 hb h4,h5⟩
  .rw[AD hlt];obtain⟨y,h4,h5⟩:=hn out at_ J;exact⟨y,BT h4,h5⟩
def VL{log:A4}(hs:log.size<=1048576):Ky (log,())=I (((Cq log).1,((Cq log).2:Int),()),()):=by
 obtain⟨y,h1,h2⟩:=mi (log:=log) (b:=RM) (λout at_ y=>y= .inl (out,(at_:Int),())\/y= .inr (out,(at_:Int),())) (λout at_ hlt hl=>by
  have hse:(log.extract at_ log.size).size=log.size - at_:=G0<|Ar _;have e1:(A0 (0<=(at_:Int))&&A0 ((at_:Int)<=(log.size:Int)))=A1:=by simp;omega
  have hb:RM (log,out,(at_:Int),())=(match DT (log.extract at_ log.size) with|some p=>I (.inl (log,out++[p.1],((at_+p.2:Nat):Int),()))|none=>I<|.inr<|.inl (out,(at_:Int),())):=by
   unfold RM;simp only[BS hlt,e1,A5,Bw,af3<|show(log.extract at_ log.size).size<=1048576 by omega,A9];cases D4:DT (log.extract at_ log.size) with
   | none=>rfl
   | some p=>
    obtain⟨a,c,_,_⟩:=VT D4;have e2:A0 (((p.2:Nat):Int)=0)=A3:=by simp;omega
    have e3:w64 ((at_:Int)+(p.2:Int))=((at_+p.2:Nat):Int):=by rw[AY J J];omega
    simp only[e2,e3,A6,Bt,CB,DS,B7<|show out.length+1<=4294967296 by omega,A5]
  rw[hb];cases DT (log.extract at_ log.size) with
  | none=>exact⟨_,rfl,.inl rfl⟩
  | some p=>rfl) (λout at_ hge=>by
  refine⟨.inr (out,(at_:Int),()), ?_,.inr rfl⟩;unfold RM;have e:A0 ((at_:Int)<(log.size:Int))=A3:=by simp;omega
  simp only[e];rfl) (log.size+1) [] 0 J (Ce _) (Ce _)
 unfold Ky;rw[show ee (log,[],0,())=I y from h1];obtain rfl|rfl:=h2<;>rfl
def rh{log:A4}{out:List A4}{at_ n:Nat}(hs:log.size<=1048576)(h:∀i,i<n->at_+i<log.size/\bt log ((at_+i:Nat):Int)≠58)(hn:n<=3)(hle:at_+n<=log.size)
  (kF:log.size<=at_+n\/n=3\/bt log ((at_+n:Nat):Int)=58):kX (log,out,(at_:Int),(at_:Int),())=I (.inr (log,out,(at_:Int),((at_+n:Nat):Int),())):=by
 have e3:w64 ((at_:Int)+3)=((at_+3:Nat):Int):=by rw[AY J J];omega
 refine Ca (λi=>(log,out,(at_:Int),((at_+i:Nat):Int),())) n (λi hi=> ?_) ?_
 .obtain⟨h1,h2⟩:=h i hi;unfold ZV;have e2:A0 (bt log ((at_+i:Nat):Int)=58)=A3:=by simpa using h2
  simp only[BS h1,AX h1,e3,BS<|show at_+i<at_+3 by omega,e2,BL h1 (by omega:log.size<=9223372036854775807)];rfl
 .unfold ZV;by_cases h1:at_+n<log.size
  .simp only[BS h1,AX h1,e3];obtain h2|h2|h2:=kF
   .omega
   .have:A0 (((at_+n:Nat):Int)<((at_+3:Nat):Int))=A3:=by simp;omega
    rw[this];rfl
   .rw[show A0 (bt log ((at_+n:Nat):Int)=58)=A1 by simpa using h2];cases A0 (((at_+n:Nat):Int)<((at_+3:Nat):Int))<;>rfl
  .have e1:A0 (((at_+n:Nat):Int)<(log.size:Int))=A3:=by simp;omega
   simp only[e1,A6,HF,A5]
def ar3{log:A4}{out:List A4}{at_:Nat}(hs:log.size<=1048576)(hlt:at_<log.size)(hl:out.length<=at_):
  Qq (log,out,(at_:Int),())=I (match DT (log.extract at_ log.size) with|some p=> .inl (log,out++[p.1],((at_+p.2:Nat):Int),())|none=> .inr<|.inr (out,(at_:Int),())):=by
 have hse:(log.extract at_ log.size).size=log.size - at_:=G0<|Ar _;unfold Qq;simp only[BS hlt,A5];rcases aO (log.extract at_ log.size) with⟨h1,h2⟩|⟨c,h1,h2,h3,h4,h5⟩
 .have D4:DT (log.extract at_ log.size)=U:=by unfold DT;rw[h1,A8 J]
  have hb:∀i,i<min (log.size - at_) 3->at_+i<log.size/\bt log ((at_+i:Nat):Int)≠58:=λi hi=>by
   refine⟨J, ?_⟩;rw[← dr J];exact h2 i (by rw[hse];exact hi)
  rw[D4,rh (n:=min (log.size - at_) 3) hs hb J J J];simp only[De];by_cases h6:log.size<=at_+min (log.size - at_) 3
  .have e:A0 ((log.size:Int)<=((at_+min (log.size - at_) 3:Nat):Int))=A1:=by simp;omega
   simp only[e,AB,HF,A5,Bq]
  .have e:A0 ((log.size:Int)<=((at_+min (log.size - at_) 3:Nat):Int))=A3:=by simp;omega
   have hm:min (log.size - at_) 3=3:=J
   rw[hm]at e h6 ⊢;simp only[e,AX<|show at_+3<log.size by omega,AE,II,A5,Bo];rcases tf (A0<|bt log ((at_+3:Nat):Int)=58) with h7|h7
   .simp only[h7,AB,A6];have e4:((A0 (0<=((at_+3:Nat):Int))&&A0 (((at_+3:Nat):Int)<=(log.size:Int)))&&(A0 (0<=(at_:Int))&&A0 ((at_:Int)<=((at_+3:Nat):Int))))=A1:=by simp;omega
    simp only[e4,A5,Bw];have hz:(log.extract at_<|at_+3).size=3:=by rw[G0 J];omega
    rw[dI J];simp only[A9];rcases QC (log.extract at_<|at_+3) with h8|⟨n,h8,h9,h10⟩
    .simp only[h8];rfl
    .have h11:100<=n:=by
      rcases GO n 100 with h12|h12
      .have:=LO 2 n J J;rw[← h10,Av]at this;omega
      .exact h12
     have e5:inB (n:Int) 1 60=A3:=by simp[inB];omega
     simp only[h8,ED,A9,e5];rfl
   .simp only[h7];rfl
 .have hb:∀i,i<c->at_+i<log.size/\bt log ((at_+i:Nat):Int)≠58:=λi hi=>by
   refine⟨J, ?_⟩;rw[← dr J];exact h5 i hi
  have h4':bt log ((at_+c:Nat):Int)=58:=by rw[← dr J];exact h4
  have hc:at_+c<log.size:=J
  rw[rh (n:=c) hs hb J J<|.inr<|.inr h4'];simp only[De];have e:A0 ((log.size:Int)<=((at_+c:Nat):Int))=A3:=by simp;omega
  have e4:((A0 (0<=((at_+c:Nat):Int))&&A0 (((at_+c:Nat):Int)<=(log.size:Int)))&&(A0 (0<=(at_:Int))&&A0 ((at_:Int)<=((at_+c:Nat):Int))))=A1:=by simp;omega
  simp only[e,AX hc,AE,II,A5,Bo,show A0 (bt log ((at_+c:Nat):Int)=58)=A1 by simpa using h4',AB,A6,e4,Bw];have hz:(log.extract at_<|at_+c).size=c:=by rw[G0 J];omega
  have hz2:(log.extract at_ log.size).extract 0 c=log.extract at_ (at_+c):=by rw[acg J];simp
  rw[dI J];have D4:DT (log.extract at_ log.size)=(let n:=Ac<|log.extract at_<|at_+c;if n<1 then U else if 60<n then U else if((log.extract at_ log.size).size:Int)<c+2+n then U else
    if !decide (bt (log.extract at_ log.size) ((c+1+n.toNat:Nat):Int)=59) then U else I ((log.extract at_ log.size).extract (c+1)<|c+1+n.toNat,c+2+n.toNat)):=by
   unfold DT;rw[h1,AD J,Bw];simp only[hz2]
  rw[D4];simp only[A9];rcases QC (log.extract at_<|at_+c) with h8|⟨n,h8,h9,h10⟩
  .have hd:Ac (log.extract at_<|at_+c)= -1:=by
    rcases QR (log.extract at_<|at_+c) with⟨h9,_⟩|⟨n,h9,h10,h11⟩
    .exact h9
    .rw[gk J h11]at h8;cases h8
   simp only[h8,hd];rfl
  .rw[iI J h10];simp only[h8,ED,A9,AB,A6,Bw,hse];by_cases h11:(n:Int)<1
   .rw[A8 h11,show inB (n:Int) 1 60=A3 by simp[inB];omega];rfl
   .rw[AD h11];by_cases h12:60<(n:Int)
    .rw[A8 h12,show inB (n:Int) 1 60=A3 by simp[inB];omega];rfl
    .rw[AD h12,show inB (n:Int) 1 60=A1 by simp[inB];omega];have e5:w64 (((at_+c:Nat):Int)+1)=((at_+c+1:Nat):Int):=by rw[AY J J];omega
     have e6:w64 (((at_+c+1:Nat):Int)+(n:Int))=((at_+c+1+n:Nat):Int):=by rw[AY J J];omega
     simp only[e5,e6,AB,A6];by_cases h13:at_+c+1+n<log.size
     .rw[AD<|show ¬(((log.size - at_:Nat):Int)<c+2+n) by omega];have e7:A0 ((log.size:Int)<=((at_+c+1+n:Nat):Int))=A3:=by simp;omega
      simp only[e7,A6,AX h13,A5];have e10:bt (log.extract at_ log.size) ((c+1+n:Nat):Int)=bt log ((at_+c+1+n:Nat):Int):=by rw[dr<|show at_+(c+1+n)<log.size by omega,show at_+(c+1+n)=at_+c+1+n by omega]
      simp only[e10];rcases tf (A0<|bt log ((at_+c+1+n:Nat):Int)=59) with h14|h14
      .have e8:((A0 (0<=((at_+c+1+n:Nat):Int))&&A0 (((at_+c+1+n:Nat):Int)<=(log.size:Int)))&&(A0 (0<=((at_+c+1:Nat):Int))&&A0 (((at_+c+1:Nat):Int)<=((at_+c+1+n:Nat):Int))))=A1:=by simp;omega
       have e9:w64 (((at_+c+1+n:Nat):Int)+1)=((at_+(c+2+n):Nat):Int):=by rw[AY J J];omega
       simp only[h14,AB,A6,e8,A5,Bt,CB,DS,B7<|show out.length+1<=4294967296 by omega,Bw,e9,acg<|show at_+(c+1+n)<=log.size by omega];rw[show at_+(c+1)=at_+c+1 by omega,show at_+(c+1+n)=at_+c+1+n by omega]
      .simp only[h14,AE,A5]
     .rw[A8<|show(((log.size - at_:Nat):Int)<c+2+n) by omega];have e7:A0 ((log.size:Int)<=((at_+c+1+n:Nat):Int))=A1:=by simp;omega
      simp only[e7,A5]
def ZY{log:A4}(hs:log.size<=1048576):P2 (log,())=I (((Cq log).1,((Cq log).2:Int),()),()):=by
 obtain⟨y,h1,h2⟩:=mi (log:=log) (b:=Qq) (λout at_ y=>y= .inr (out,(at_:Int),())) (λout at_ hlt hl=>by
  rw[ar3 hs hlt hl];cases DT (log.extract at_ log.size) with
  | none=>exact⟨_,rfl,rfl⟩
  | some p=>rfl) (λout at_ hge=>by
  refine⟨.inr (out,(at_:Int),()), ?_,rfl⟩;unfold Qq;have e:A0 ((at_:Int)<(log.size:Int))=A3:=by simp;omega
  simp only[e];rfl) (log.size+1) [] 0 J (Ce _) (Ce _)
 unfold P2;rw[show oA (log,[],0,())=I y from h1];subst h2;have h3:=PN log;simp only[De];rw[show(EV log (log.size+1) [] 0)=Cq log from rfl,pW J];rfl
abbrev zK:AU:=⟨0,0,0,[],[],[]⟩
def C6(k:AU)(r:A4):Option AU:=if(FA k r).2 then I (FA k r).1 else U
def FV(k:AU)(rs:List A4):Option AU:=rs.foldlM C6 k
def Cr(id:Int)(rs:List A4):Option AU:=if isN id then FV ⟨id,0,1,[],[],[]⟩ rs else U
def ac9{σ β γ κ α:Type}{b:σ->Option (σ ⊕ (β ⊕ γ))}(st:Nat->κ->σ)(l:List α)(f:κ->α->Option κ)(bad:β)(fin:κ->γ)(Rp:κ->Prop)
  (h:∀i k x,l[i]? =I x->Rp k->b (st i k)=I (match f k x with|some k'=> .inl (st (i+1) k')|none=> .inr<|.inl bad))
  (hn:∀k,Rp k->b (st l.length k)=I (.inr<|.inr<|fin k))(hI:∀k x k',Rp k->f k x=I k'->Rp k'):
  ∀k,Rp k->AZ b (st 0 k)=I (match l.foldlM f k with|some k'=> .inr (fin k')|none=> .inl bad):=by
 have:∀(m i:Nat),i+m=l.length->∀k,Rp k->AZ b (st i k)=I (match (l.drop i).foldlM f k with|some k'=> .inr (fin k')|none=> .inl bad):=by
  intro m
  induction m with
  | zero=>
   intro i hi k hk;rw[List.drop_of_length_le J,show i=l.length by omega];exact BT<|hn k hk
  | succ m ih=>
   intro i hi k hk;have hlt:i<l.length:=J
   rw[Rt hlt,SG];have hb:=h i k l[i] (B3 hlt) hk;cases hf:f k l[i]with
   | none=>rw[hf]at hb;exact BT hb
   | some k'=>rw[hf]at hb;exact B4 hb<|ih (i+1) J k'<|hI k _ k' hk hf
 intro k hk;have:=this l.length 0 J k hk;rwa[Ib]at this
def arl{k:AU}{r:A4}(h:(FA k r).2=A1):BI (FA k r).1=A1:=by
 unfold FA at h ⊢;split at h<;>rename_i hk
 .rw[A8 hk];cases hs:(Ga k r).filter BI with
  | none=>rw[hs]at h;cases h
  | some o=>exact(YO.1 hs).2
 .cases h
def SB{k o:AU}{r:A4}(h:C6 k r=I o):BI o=A1:=by
 unfold C6 at h;split at h
 .cases h;exact arl (by assumption)
 .cases h
def aeJ{k:AU}(h:BI k=A1):SmK k:=by
 have hf:=Ci h;have hn:∀ {l:List A7},F3 l=A1->∀x∈l,Fj x:=fun {l} hl x hx=>by
  obtain⟨i,hi,rfl⟩:=Dm hx;have:=G7 hl hi;rw[EF<|B3 hi]at this;exact Je this
 exact⟨by have:=hf.hl;omega,hn hf.h,by have:=hf.ml;omega,by have:=hf.il;omega,hn hf.i⟩
def Qi{id:Int}(h:isN id=A1):BI ⟨id,0,1,[],[],[]⟩=A1:=by
 unfold BI;simp only[h];rfl
def adv:∀ {rs:List A4} {k o:AU},BI k=A1->FV k rs=I o->BI o=A1
 | [],k,o,hk,h=>by cases h;exact hk
 | r::rs,k,o,hk,h=>by
  unfold FV at h;rw[SG]at h;cases hs:C6 k r with
  | none=>rw[hs]at h;cases h
  | some k'=>rw[hs]at h;exact adv (rs:=rs) (SB hs) h
def W1{id:Int}{rs:List A4}{o:AU}(h:Cr id rs=I o):BI o=A1:=by
 unfold Cr at h;split at h
 .exact adv (Qi<|by assumption) h
 .cases h
def ayJ{id:Int}{rs:List A4}(hl:rs.length<=1048576)(hr:∀r∈rs,r.size<=1048576):bp (id,rs,())=I ((tK<|(Cr id rs).getD zK,(Cr id rs).isSome,()),()):=by
 unfold bp Cr;simp only[KI,A9,ayk];rcases tf (isN id) with h|h
 .simp only[h,AB,A6,A5];have:=ac9 (b:=S3) (λi (k:AU)=>(tK zK,tK k,rs,(rs.length:Int),(i:Int),())) rs C6 (tK zK,A3,()) (λk=>(tK zK,tK k,())) (λk=>BI k=A1) (λi k x hx hk=>by
   have hi:=(BM.1 hx).1;have hxs:=hr x<|CZ hx;unfold S3;simp only[BS hi,AX hi,Oz,PA hx,A5];rw[yQ (aeJ hk) hxs];unfold C6;simp only[A9];rcases tf (FA k x).2 with h2|h2
   .simp only[h2,AB,A6,A5,BL hi (by omega:rs.length<=9223372036854775807)]
   .simp only[h2,AE,A6,A5]) (λk hk=>by simp[S3]) (λk x k' _ hs=>SB hs) ⟨id,0,1,[],[],[]⟩ (Qi h)
  rw[show mY ((0,0,0,[],[],[],()),(id,0,1,[],[],[],()),rs,(rs.length:Int),0,())=_ from this];unfold FV;cases rs.foldlM C6 ⟨id,0,1,[],[],[]⟩<;>rfl
 .simp only[h,AE,A6,A5];rfl
def abO{id:Int}{rs:List A4}(hl:rs.length<=1048576)(hr:∀r∈rs,r.size<=1048576):Py (id,rs,())=I ((tK<|(Cr id rs).getD zK,(Cr id rs).isSome,()),()):=by
 unfold Py Cr;simp only[JA,A9,agC];rcases tf (isN id) with h|h
 .simp only[h,AB,A6,A5];have:=ac9 (b:=TP) (λi (k:AU)=>(rs,tK zK,tK k,(i:Int),())) rs C6 (tK zK,A3,()) (λk=>(tK zK,tK k,())) (λk=>BI k=A1) (λi k x hx hk=>by
   have hi:=(BM.1 hx).1;have hxs:=hr x<|CZ hx;unfold TP;simp only[BS hi,AX hi,Oz,PA hx,A5];rw[aa5 (aeJ hk) hxs];unfold C6;simp only[A9];rcases tf (FA k x).2 with h2|h2
   .simp only[h2,AB,A6,A5,BL hi (by omega:rs.length<=9223372036854775807)]
   .simp only[h2,AE,A6,A5]) (λk hk=>by simp[TP]) (λk x k' _ hs=>SB hs) ⟨id,0,1,[],[],[]⟩ (Qi h)
  rw[show l8 (rs,(0,0,0,[],[],[],()),(id,0,1,[],[],[],()),0,())=_ from this];unfold FV;cases rs.foldlM C6 ⟨id,0,1,[],[],[]⟩<;>rfl
 .simp only[h,AE,A6,A5];rfl
def DR(id:Int)(log:A4):Option AU:=Cr id (Cq log).1
def aq{id:Int}{log:A4}(hs:log.size<=1048576):Le (id,log,())=I ((tK<|(DR id log).getD zK,(DR id log).isSome,()),()):=by
 have h:=PN log;unfold Le DR;rw[ZY hs];simp only[A9];rw[ayJ J (λr hr=>by have:=h.2.2 r hr;omega)];rfl
def pC{id fo:Int}{up:Bool}{log:A4}{hv:List AG}(hs:log.size<=1048576):FN ((id,up,log,fo,hv,()),())=I ((tK<|(DR id log).getD zK,(DR id log).isSome,()),()):=by
 have h:=PN log;unfold FN DR;rw[VL hs];simp only[A9];rw[abO J (λr hr=>by have:=h.2.2 r hr;omega)];rfl
def DB(lg:A4)(fo:Int):Bool:=A0 (lg.size<=2400)&&(inB fo 0 lg.size&&(A0 (((Cq lg).2:Int)=lg.size)&&A0 (((Cq<|lg.extract 0 fo.toNat).2:Int)=fo)))
def SU{lg:A4}{fo:Int}(hs:lg.size<=1048576):Nr ((lg,fo,()),())=I ((DB lg fo,()),()):=by
 unfold Nr DB;simp only[ED,ZY hs,A9,CE,CF];by_cases h1:lg.size<=2400
 .have e1:A0 (2400<(lg.size:Int))=A3:=by simp;omega
  simp only[e1,h1,AE,II,A5,Bo,AO,AW];rcases tf (inB fo 0 lg.size) with h2|h2
  .have h3:=Ae.1 h2;have e2:(A0 (0<=fo)&&A0 (fo<=(lg.size:Int)))=A1:=by simp;omega
   simp only[h2,AB,A6,e2,A5,AW];rw[ZY (by rw[G0 J];omega)];rfl
  .simp only[h2,AE,A5,AN]
 .have e1:A0 (2400<(lg.size:Int))=A1:=by simp;omega
  simp only[e1,h1,AB,HF,A5,Bq,Af,AN]
def UF{lg:A4}{fo:Int}(hs:lg.size<=1048576):Mz ((lg,fo,()),())=I ((DB lg fo,()),()):=by
 unfold Mz DB;simp only[HZ,VL hs,A9,CE,CF];by_cases h1:lg.size<=2400
 .have e1:A0 (2400<(lg.size:Int))=A3:=by simp;omega
  simp only[e1,h1,AE,II,A5,Bo,AO,AW];rcases tf (inB fo 0 lg.size) with h2|h2
  .have h3:=Ae.1 h2;have e2:(A0 (0<=fo)&&A0 (fo<=(lg.size:Int)))=A1:=by simp;omega
   simp only[h2,AB,A6,e2,A5,AW];rw[VL (by rw[G0 J];omega)];rfl
  .simp only[h2,AE,A5,AN]
 .have e1:A0 (2400<(lg.size:Int))=A1:=by simp;omega
  simp only[e1,h1,AB,HF,A5,Bq,Af,AN]
def Dr(p:Bool):Ah p A1=A1:=by cases p<;>rfl
def amx{k o:AU}{w:A4}{n:Int}(h:Hy k w n=I o):o.id=k.id:=by
 unfold Hy at h
 repeat' split at h
 all_goals first|(cases h;done)|(cases h;rfl)
def sb{k o:AU}{n:A7}(h:HB k n=I o):o.id=k.id:=by
 unfold HB at h
 repeat' split at h
 all_goals first|(cases h;done)|(cases h;rfl)
def at1{k o:AU}{w:A4}{n:A7}(h:Gn k w n=I o):o.id=k.id:=by
 unfold Gn at h;split at h
 .exact(sb h).trans rfl
 split at h
 .exact sb h
 split at h
 .cases h
 repeat' split at h
 all_goals first|(cases h;done)|(cases h;rfl)
def awR{k o:AU}{w:A4}{m:Mark}(h:Ey k w m=I o):o.id=k.id:=by
 unfold Ey at h
 repeat' split at h
 all_goals first|(cases h;done)|(cases h;rfl)
def azW{k o:AU}{w r:A4}(h:Bs k w r=I o):o.id=k.id:=by
 unfold Bs at h;split at h
 .split at h
  .exact amx h
  .cases h
 split at h
 .split at h
  .exact at1 h
  .cases h
 split at h
 .split at h
  .exact awR h
  .cases h
 .cases h
def aee{k o:AU}{r:A4}(h:C6 k r=I o)(hk:BI k=A1):o.id=k.id:=by
 unfold C6 at h;split at h
 case isFalse=>cases h
 rename_i h2;cases h;unfold FA at h2 ⊢;simp only[hk,A5]at h2 ⊢;cases hs:(Ga k r).filter BI with
 | none=>rfl
 | some o=>
  simp only;have:=(YO.1 hs).1;unfold Ga at this;split at this
  .cases this
  .exact azW this
def xM:∀ {rs:List A4} {k o:AU},BI k=A1->FV k rs=I o->o.id=k.id
 | [],k,o,_,h=>by cases h;rfl
 | r::rs,k,o,hk,h=>by
  unfold FV at h;rw[SG]at h;cases hs:C6 k r with
  | none=>rw[hs]at h;cases h
  | some k'=>rw[hs]at h;exact(xM (rs:=rs) (SB hs) h).trans<|aee hs hk
def iU{id:Int}{rs:List A4}{o:AU}(h:Cr id rs=I o):o.id=id:=by
 unfold Cr at h;split at h
 .exact xM (k:=⟨id,0,1,[],[],[]⟩) (Qi<|by assumption) h
 .cases h
def xA(l:List AQ)(i:Nat):AQ:=l.getD i<|dfl .mixed
def hA(l:List AG)(i:Nat):AG:=l.getD i<|dfl .half
def bg(l:List AQ)(i:Nat): @rd AQ (dfl .mixed) l (i:Int)=xA l i:=rfl
def Wl(l:List AG)(i:Nat): @rd AG (dfl .half) l (i:Int)=hA l i:=rfl
def avn{l:List AQ}{i j:Nat}(h:j<i):xA (l.take i) j=xA l j:=by
 unfold xA;simp[BG,h]
def IL(l:List AQ)(i:Nat):Bool:=(inB (xA l i).nu 0 999&&A0 (((xA l i).da.size:Int)=4))&&BJ i λj=> !decide ((xA l j).nu=(xA l i).nu)
def FW(h:AG):Bool:=isN h.fr&&(isN h.to&&(inB h.nu 1 99&&(inB h.un 1 999&&(inB h.sz 1 24&&(A0 ((h.got.length:Int)<=14)&&BJ h.got.length (IL h.got))))))
def asE{h:AG}(sm:NM h):dV ((h.fr,h.nu,h.to,h.un,h.sz,h.got,()),())=I ((FW h,()),()):=by
 have hl:h.got.length<=9223372036854775807:=by have:=sm.1;omega
 have GZ:gf ((h.fr,h.nu,h.to,h.un,h.sz,h.got,()),h.got,(h.got.length:Int),0,())=I (if BJ h.got.length (IL h.got) then .inr () else .inl (A3,())):=
  Dp (λi=>((h.fr,h.nu,h.to,h.un,h.sz,h.got,()),h.got,(h.got.length:Int),(i:Int),())) h.got.length (IL h.got) (A3,()) () (λi hi=>by
   unfold bq IL;simp only[BS hi,AX hi,A5,bg,ED,A9];rcases tf (inB (xA h.got i).nu 0 999) with e|e<;>rcases tfp (((xA h.got i).da.size:Int)=4) with e'|e'
   rotate_left
   .simp only[e,e',Af,BZ,AE,DL,AN,A5,A6]
   .simp only[e,AN,AE,Bq,A5,A6]
   .simp only[e,AN,AE,Bq,A5,A6]
   .have e2:(A0 (0<=(i:Int))&&A0 ((i:Int)<=(h.got.length:Int)))=A1:=by simp;omega
    have e3:(BH i h.got).length=i:=by simp;omega
    simp only[e,e',AO,AB,Fa,A6,e2,A5,Bw,e3,AW];have hin:oq ((h.fr,h.nu,h.to,h.un,h.sz,h.got,()),((xA h.got i).nu,(xA h.got i).da,()),h.got,(h.got.length:Int),(i:Int),BH i h.got,(i:Int),0,())=
      I (if BJ i (λj=> !decide ((xA h.got j).nu=(xA h.got i).nu)) then .inr ((h.fr,h.nu,h.to,h.un,h.sz,h.got,()),h.got,(h.got.length:Int),(i:Int),()) else .inl (A3,())):=
     Dp (λj=>((h.fr,h.nu,h.to,h.un,h.sz,h.got,()),((xA h.got i).nu,(xA h.got i).da,()),h.got,(h.got.length:Int),(i:Int),BH i h.got,(i:Int),(j:Int),())) i (λj=> !decide ((xA h.got j).nu=(xA h.got i).nu)) (A3,()) _ (λj hj=>by
      unfold av;simp only[BS hj,e3,AX hj,A5,bg,avn hj,BL hj (by omega:i<=9223372036854775807)];rcases tfp ((xA h.got j).nu=(xA h.got i).nu) with e4|e4<;>simp only[e4,AO,Af]<;>rfl) (by simp[av])
    rw[hin];rcases tf (BJ i λj=> !decide ((xA h.got j).nu=(xA h.got i).nu)) with e4|e4
    .simp only[e4,A5,De,BL hi hl]
    .simp only[e4,A6,JP]) (by simp[bq])
 unfold dV FW;simp only[KI,ED,A9,GZ];rcases tf (isN h.fr) with e|e<;>simp only[e,AB,AE,A5,A6,AW,AN];rcases tf (isN h.to) with e|e<;>simp only[e,AB,AE,A5,A6,AW,AN];rcases tf (inB h.nu 1 99) with e|e<;>simp only[e,AB,AE,A5,A6,AW,AN];rcases tf (inB h.un 1 999) with e|e<;>simp only[e,AB,AE,A5,A6,AW,AN];rcases tf (inB h.sz 1 24) with e|e<;>simp only[e,AB,AE,A5,A6,AW,AN];rcases EK (h.got.length:Int) 14 with⟨e1,e2⟩|⟨e1,e2⟩<;>simp only[e1,e2,AO,Af,A5,A6,AW,AN];rcases tf (BJ h.got.length<|IL h.got) with e|e<;>simp only[e,A5,A6]<;>rfl
def agR{sz:Int}(h:inB sz 1 24=A1):inB (w64<|Ay (w64<|w64 (sz+4) - 1) 4) 1 6=A1:=by
 have h:=Ae.1 h;rw[AY (n:=sz+4) J J,AY (n:=sz+4 - 1) J J];have e:Ay (sz+4 - 1) 4=(sz+4 - 1) / 4:=G5 J;rw[e,AY J J,Ae];omega
def av8{h:AG}(sm:NM h):an ((h.fr,h.nu,h.to,h.un,h.sz,h.got,()),())=I ((FW h,()),()):=by
 have hl:h.got.length<=9223372036854775807:=by have:=sm.1;omega
 have GZ:inB h.sz 1 24=A1->lB ((h.fr,h.nu,h.to,h.un,h.sz,h.got,()),0,())=I (if BJ h.got.length (IL h.got) then .inr () else .inl (A3,())):=λhz=>
  Dp (λi=>((h.fr,h.nu,h.to,h.un,h.sz,h.got,()),(i:Int),())) h.got.length (IL h.got) (A3,()) () (λi hi=>by
   unfold bZ IL LI RV M7;simp only[BS hi,AX hi,A5,bg,HZ,A9,agR hz,II,CE,CF,AW];rcases tf (inB (xA h.got i).nu 0 999) with e|e<;>rcases tfp (((xA h.got i).da.size:Int)=4) with e'|e'
   rotate_left
   .simp only[e,e',Af,BZ,AE,AN,A5,A6]
   .simp only[e,AN,AE,A5,A6]
   .simp only[e,AN,AE,A5,A6]
   .simp only[e,e',AO,Cd,AB,A6,AW];have hin:ld ((h.fr,h.nu,h.to,h.un,h.sz,h.got,()),(i:Int),0,())=
      I (if BJ i (λj=> !decide ((xA h.got j).nu=(xA h.got i).nu)) then .inr ((h.fr,h.nu,h.to,h.un,h.sz,h.got,()),(i:Int),()) else .inl (A3,())):=
     Dp (λj=>((h.fr,h.nu,h.to,h.un,h.sz,h.got,()),(i:Int),(j:Int),())) i (λj=> !decide ((xA h.got j).nu=(xA h.got i).nu)) (A3,()) _ (λj hj=>by
      unfold cm;simp only[BS hj,AX hi,AX<|Nat.lt_trans hj hi,A5,bg,BL hj (by omega:i<=9223372036854775807)];rcases tfp ((xA h.got j).nu=(xA h.got i).nu) with e4|e4<;>simp only[e4,AO,Af]<;>rfl) (by simp[cm])
    rw[hin];rcases tf (BJ i λj=> !decide ((xA h.got j).nu=(xA h.got i).nu)) with e4|e4
    .simp only[e4,A5,De,BL hi hl]
    .simp only[e4,A6,JP]) (by simp[bZ])
 unfold an FW;simp only[JA,HZ,A9];rcases tf (isN h.fr) with e|e<;>simp only[e,AB,AE,A5,A6,AW,AN];rcases tf (isN h.to) with e|e<;>simp only[e,AB,AE,A5,A6,AW,AN];rcases tf (inB h.nu 1 99) with e|e<;>simp only[e,AB,AE,A5,A6,AW,AN];rcases tf (inB h.un 1 999) with e|e<;>simp only[e,AB,AE,A5,A6,AW,AN];rcases tf (inB h.sz 1 24) with e|e<;>simp only[e,AB,AE,A5,A6,AW,AN];rw[GZ e];rcases EK (h.got.length:Int) 14 with⟨e1,e2⟩|⟨e1,e2⟩<;>simp only[e1,e2,AO,Af,A5,A6,AW,AN];rcases tf (BJ h.got.length<|IL h.got) with e|e<;>simp only[e,A5,A6]<;>rfl
def ER(l:List AG)(f n:Int):Int:=FL l.length λi=>A0 ((hA l i).fr=f)&&A0 ((hA l i).nu=n)
def uR{l:List AG}{f n:Int}(hl:l.length<=1048576):Ri (l,f,n,())=I ((ER l f n,()),()):=by
 unfold Ri;have:=OZ (b:=VO) (λi=>(f,n,l,(l.length:Int),(i:Int),())) l.length (λi=>A0 ((hA l i).fr=f)&&A0 ((hA l i).nu=n)) (λr=>(r,())) () (λi hi=>by
  unfold VO;simp only[BS hi,AX hi,A5,Wl,BL hi (by omega:l.length<=9223372036854775807)];rcases tfp ((hA l i).fr=f) with e|e<;>rcases tfp ((hA l i).nu=n) with e2|e2<;>simp only[e,e2,AO,Af]<;>rfl) (by simp[VO])
 rw[show fc (f,n,l,(l.length:Int),0,())=_ from this];exact TR
def amM{n:Nat}{p:Nat->Bool}{i:Nat}(hi:i<n)(hp:p i=A1):A0 (FL n p<(i:Int))= !(BJ i λj=> !p j):=by
 rcases Gw n p with⟨_,h2⟩|⟨c,h1,h2,h3,h4⟩
 .rw[h2 i hi]at hp;cases hp
 .rw[h1];by_cases hc:c<i
  .have:BJ i (λj=> !p j)=A3:=by
    rw[Bool.eq_false_iff];intro h;have:=Dq.1 h c hc;simp[h3]at this
   rw[this];simpa using hc
  .have:BJ i (λj=> !p j)=A1:=Dq.2 λj hj=>by rw[h4 j J];rfl
   rw[this];simp;omega
def G2(l:List AG)(i:Nat):Bool:=FW (hA l i)&&BJ i λj=> !(A0 ((hA l j).fr=(hA l i).fr)&&A0 ((hA l j).nu=(hA l i).nu))
def Au(k:AA):Bool:=isN k.id&&(DB k.log k.fo&&(A0 ((k.AM.length:Int)<=3)&&((k.up||decide (k.AM.length=0))&&(((DR k.id k.log).isSome&&(DR k.id<|k.log.extract 0 k.fo.toNat).isSome)&&BJ k.AM.length (G2 k.AM)))))
abbrev tKp(k:AA):Int×Bool×A4×Int×List AG×A2:=(k.id,k.up,k.log,k.fo,k.AM,())
def aac{l:List AG}(h:∀x∈l,NM x)(i:Nat):NM (hA l i):=by
 unfold hA;rcases GO i l.length with hi|hi
 .rw[PA<|B3 hi];exact h _ (Cm hi)
 .rw[BG,I0 hi];exact⟨by decide,λm hm=>by cases hm⟩
def Jb{k:AA}(sm:EL k):I2 (tKp k,())=I ((Au k,()),()):=by
 obtain⟨id,up,lg,fo,hv⟩:=k;obtain⟨sl,hl,hs⟩:=sm;simp only at sl hl hs;have GZ:aw ((id,up,lg,fo,hv,()),hv,(hv.length:Int),0,())=I (if BJ hv.length (G2 hv) then .inr () else .inl (A3,())):=
  Dp (λi=>((id,up,lg,fo,hv,()),hv,(hv.length:Int),(i:Int),())) hv.length (G2 hv) (A3,()) () (λi hi=>by
   unfold YB G2;simp only[BS hi,AX hi,A5,Wl,asE<|aac hs i,uR hl,A9,CE,CF,Dr,BL hi (by omega:hv.length<=9223372036854775807)];rcases tf (FW<|hA hv i) with e|e
   .have hf:=amM (p:=λj=>A0 ((hA hv j).fr=(hA hv i).fr)&&A0 ((hA hv j).nu=(hA hv i).nu)) hi (by simp);unfold ER;simp only[e,AB,Bo,AW,hf];cases BJ i (λj=> !(A0 ((hA hv j).fr=(hA hv i).fr)&&A0 ((hA hv j).nu=(hA hv i).nu)))<;>rfl
   .simp only[e,AE,Bq,A5,AN,A6]) (by simp[YB])
 unfold I2 Au;simp only[KI,A9,SU sl];rcases tf (isN id) with e|e<;>simp only[e,AB,AE,A5,A6,AW,AN,O8];rcases tf (DB lg fo) with e2|e2<;>simp only[e2,AB,AE,A5,A6,AW,AN,O8];have e3:0<=fo/\fo<=(lg.size:Int):=by
  unfold DB at e2;simp only[AI]at e2;exact Ae.1 e2.2.1
 have e4:(A0 (0<=fo)&&A0 (fo<=(lg.size:Int)))=A1:=by simp;omega
 rcases EK (hv.length:Int) 3 with⟨e5,e6⟩|⟨e5,e6⟩<;>simp only[e5,e6,AO,Af,A5,A6,AW,AN,O8];have IA:∀b:Bool,(b=A1)->B8 (X:=(Int×Bool×A4×Int×List AG×A2)×A2) (λj5=>
   (Le (j5.1.1,j5.1.2.2.1,())).bind λr8=>
   (if(A0 (0<=j5.1.2.2.2.1)&&A0 (j5.1.2.2.2.1<=(j5.1.2.2.1.size:Int))) then
   (Le (j5.1.1,(j5.1.2.2.1.extract (0)<|AK j5.1.2.2.2.1),())).bind λr9=>
   (if((!r8.1.2.1)||(!r9.1.2.1)) then
   I ((A3,()),())
   else
   (AS (aw (j5.1,j5.1.2.2.2.2.1,(j5.1.2.2.2.2.1.length:Int),0,()))
   (λy56=>I (y56,()))
   (λy56=>I ((A1,()),()))))
   else U)) (I<|.inr ((id,up,lg,fo,hv,()),()))=I ((b&&(((DR id lg).isSome&&(DR id<|lg.extract 0 fo.toNat).isSome)&&BJ hv.length (G2 hv)),()),()):=by
  rintro b rfl;simp only[Bg,aq sl,A9,e4,A5];rw[aq (by rw[G0 J];omega)];simp only[A9,GZ,AW];rcases tf (DR id lg).isSome with e|e<;>rcases tf (DR id<|lg.extract 0 fo.toNat).isSome with e2|e2<;>simp only[e,e2,AB,AE,Fa,Bq,DL,A5,A6,Cd,BZ,AN,AW];rcases tf (BJ hv.length<|G2 hv) with e|e<;>simp only[e,A5,A6]<;>rfl
 rcases tf up with e7|e7
 .simp only[e7,AB,A6,Bq];rw[e7]at IA;exact IA A1 rfl
 .simp only[e7,AE,A5,Bo];rw[e7]at IA;by_cases e8:hv.length=0
  .have e9:A0 (0<(hv.length:Int))=A3:=by rw[e8];rfl
   simp only[e9,A6,e8,AO];rw[e8]at IA;exact IA A1 rfl
  .have e9:A0 (0<(hv.length:Int))=A1:=by simp;omega
   simp only[e9,A5,e8,Af,AN,O8]
def LS{k:AA}(sm:EL k):It (tKp k,())=I ((Au k,()),()):=by
 obtain⟨id,up,lg,fo,hv⟩:=k;obtain⟨sl,hl,hs⟩:=sm;simp only at sl hl hs;have GZ:aE ((id,up,lg,fo,hv,()),0,())=I (if BJ hv.length (G2 hv) then .inr () else .inl (A3,())):=
  Dp (λi=>((id,up,lg,fo,hv,()),(i:Int),())) hv.length (G2 hv) (A3,()) () (λi hi=>by
   unfold az G2;simp only[BS hi,AX hi,A5,Wl,av8<|aac hs i,A9,BL hi (by omega:hv.length<=9223372036854775807)];rcases tf (FW<|hA hv i) with e|e
   .simp only[e,AB,A6,AW];have hin:kH ((id,up,lg,fo,hv,()),(i:Int),0,())=I (if BJ i (λj=> !(A0 ((hA hv j).fr=(hA hv i).fr)&&A0 ((hA hv j).nu=(hA hv i).nu))) then .inr ((id,up,lg,fo,hv,()),(i:Int),()) else .inl (A3,())):=
     Dp (λj=>((id,up,lg,fo,hv,()),(i:Int),(j:Int),())) i (λj=> !(A0 ((hA hv j).fr=(hA hv i).fr)&&A0 ((hA hv j).nu=(hA hv i).nu))) (A3,()) _ (λj hj=>by
      unfold Vt;simp only[BS hj,AX hi,AX<|Nat.lt_trans hj hi,A5,Wl,Dr,BL hj (by omega:i<=9223372036854775807)];rcases tfp ((hA hv j).fr=(hA hv i).fr) with e|e<;>rcases tfp ((hA hv j).nu=(hA hv i).nu) with e2|e2<;>simp only[e,e2,AO,Af]<;>rfl) (by simp[Vt])
    rw[hin];rcases tf (BJ i λj=> !(A0 ((hA hv j).fr=(hA hv i).fr)&&A0 ((hA hv j).nu=(hA hv i).nu))) with e4|e4
    .simp only[e4,A5,De,BL hi (by omega:hv.length<=9223372036854775807)]
    .simp only[e4,A6,JP]
   .simp only[e,AE,A5,AN,A6]) (by simp[az])
 unfold It Au;simp only[JA,A9,UF sl];rcases tf (isN id) with e|e<;>simp only[e,AB,AE,A5,A6,AW,AN,O8];rcases tf (DB lg fo) with e2|e2<;>simp only[e2,AB,AE,A5,A6,AW,AN,O8];have e3:0<=fo/\fo<=(lg.size:Int):=by
  unfold DB at e2;simp only[AI]at e2;exact Ae.1 e2.2.1
 have e4:(A0 (0<=fo)&&A0 (fo<=(lg.size:Int)))=A1:=by simp;omega
 rcases EK (hv.length:Int) 3 with⟨e5,e6⟩|⟨e5,e6⟩<;>simp only[e5,e6,AO,Af,A5,A6,AW,AN,O8];have IA:∀b:Bool,(b=A1)->B8 (X:=(Int×Bool×A4×Int×List AG×A2)×A2) (λj5=>
   (if(A0 (0<=j5.1.2.2.2.1)&&A0 (j5.1.2.2.2.1<=(j5.1.2.2.1.size:Int))) then
   (Ky ((j5.1.2.2.1.extract (0)<|AK j5.1.2.2.2.1),())).bind λr8=>
   (Py (j5.1.1,r8.1.1,())).bind λr9=>
   (FN j5).bind λr10=>
   (if((!r10.1.2.1)||(!r9.1.2.1)) then
   I ((A3,()),())
   else
   (AS (aE (j5.1,0,()))
   (λy27=>I (y27,()))
   (λy27=>I ((A1,()),()))))
   else U)) (I<|.inr ((id,up,lg,fo,hv,()),()))=I ((b&&(((DR id lg).isSome&&(DR id<|lg.extract 0 fo.toNat).isSome)&&BJ hv.length (G2 hv)),()),()):=by
  rintro b rfl;have hz:(lg.extract 0 fo.toNat).size<=1048576:=by rw[G0 J];omega
  have hg:=PN<|lg.extract 0 fo.toNat;simp only[Bg,e4,A5,VL hz,A9,abO (id:=id) (show(Cq<|lg.extract 0 fo.toNat).1.length<=1048576 by omega) (λr hr=>by have:=hg.2.2 r hr;omega),pC sl,GZ,AW];rw[show Cr id (Cq<|lg.extract 0 fo.toNat).1=DR id (lg.extract 0 fo.toNat) from rfl];rcases tf (DR id lg).isSome with e|e<;>rcases tf (DR id<|lg.extract 0 fo.toNat).isSome with e2|e2<;>simp only[e,e2,AB,AE,Fa,Bq,DL,A5,A6,Cd,BZ,AN,AW];rcases tf (BJ hv.length<|G2 hv) with e|e<;>simp only[e,A5,A6]<;>rfl
 rcases tf up with e7|e7
 .simp only[e7,AB,A6,Bq];rw[e7]at IA;exact IA A1 rfl
 .simp only[e7,AE,A5,Bo];rw[e7]at IA;by_cases e8:hv.length=0
  .have e9:A0 (0<(hv.length:Int))=A3:=by rw[e8];rfl
   simp only[e9,A6,e8,AO];rw[e8]at IA;exact IA A1 rfl
  .have e9:A0 (0<(hv.length:Int))=A1:=by simp;omega
   simp only[e9,A5,e8,Af,AN,O8]
abbrev YR:=Int×List AA×List Bool×List AR×List A7×List A7×A2
def kA(l:List AA)(i:Nat):AA:=l.getD i<|dfl .AL
def pA(l:List AR)(i:Nat):AR:=l.getD i<|dfl .Ad
def bA(l:List Bool)(i:Nat):Bool:=l.getD i<|dfl .bool
def NU(l:List AA)(i:Nat): @rd AA (dfl .AL) l (i:Int)=kA l i:=rfl
def vO(l:List AR)(i:Nat): @rd AR (dfl .Ad) l (i:Int)=pA l i:=rfl
def H8(l:List A7):Bool:=BJ l.length λi=>B9<|nA l i
def Dw(p:AR):Bool:=isN p.src&&(isN p.dst&&((A0 (p.src - p.dst=1)||decide (p.dst - p.src=1))&&A0 ((p.data.size:Int)<=40)))
def KJ(l:List AA)(i:Nat):Bool:=A0 ((kA l i).id=(i:Int))&&Au (kA l i)
def Fs(ti:Int)(ks:List AA)(ls:List Bool)(ra:List AR)(se go:List A7):Bool:=
 inB ti 0 99999&&(A0 ((ks.length:Int)=4)&&(A0 ((ls.length:Int)=3)&&(A0 ((ra.length:Int)<=30)&&((H8 se&&A0 ((se.length:Int)<=6))&&((H8 go&&A0 ((go.length:Int)<=6))&&
  (BJ ks.length (KJ ks)&&BJ ra.length (λi=>Dw<|pA ra i)))))))
def Qz{l:List AA}(h:∀x∈l,EL x)(i:Nat):EL (kA l i):=by
 unfold kA;rcases GO i l.length with hi|hi
 .rw[PA<|B3 hi];exact h _ (Cm hi)
 .rw[BG,I0 hi];exact⟨by decide,by decide,λm hm=>by cases hm⟩
def adW{l:List A7}(hl:l.length<=1048576)(h:∀x∈l,Fj x):S8 (l,())=I ((H8 l&&A0 ((l.length:Int)<=6),()),()):=by
 have GZ:kV (l,l,(l.length:Int),0,())=I (if H8 l then .inr (l,()) else .inl (A3,())):=
  Dp (λi=>(l,l,(l.length:Int),(i:Int),())) l.length (λi=>B9<|nA l i) (A3,()) (l,()) (λi hi=>by
   unfold Vz;simp only[BS hi,AX hi,A5,Dd,SJ<|SK h i,A9,BL hi (by omega:l.length<=9223372036854775807)];rcases tf (B9<|nA l i) with e|e<;>simp only[e]<;>rfl) (by simp[Vz])
 unfold S8;simp only[GZ];rcases tf (H8 l) with e|e<;>simp only[e]<;>rfl
def Gq{n:Int}(h:isN n=A1):0<=n/\n<=3:=Ae.1 h
def bG{a b:Int}(ha:isN a=A1)(hb:isN b=A1):w64 (a - b)=a - b:=by
 have:=Gq ha;have:=Gq hb;exact AY J J
def ajI{w:YR}{ks:List AA}(kl:ks.length<=1048576)(k:∀x∈ks,EL x):
  pH (w,ks,(ks.length:Int),0,())=I (if BJ ks.length (KJ ks) then .inr (w,()) else .inl (A3,())):=
 Dp (λi=>(w,ks,(ks.length:Int),(i:Int),())) ks.length (KJ ks) (A3,()) (w,()) (λi hi=>by
  have hk:=Jb<|Qz k i;unfold Wb KJ;simp only[BS hi,AX hi,A5,NU,hk,CE,CF,Dr,BL hi (by omega:ks.length<=9223372036854775807)];rcases tfp ((kA ks i).id=(i:Int)) with e|e<;>rcases tf (Au<|kA ks i) with e2|e2<;>simp only[e,e2,AO,Af]<;>rfl) (by simp[Wb])
def adZ{ra:List AR}(rl:ra.length<=1048576):
  jL (ra,(ra.length:Int),0,())=I (if BJ ra.length (λi=>Dw<|pA ra i) then .inr () else .inl (A3,())):=
 Dp (λi=>(ra,(ra.length:Int),(i:Int),())) ra.length (λi=>Dw<|pA ra i) (A3,()) () (λi hi=>by
  unfold Wy Dw;simp only[BS hi,AX hi,A5,vO,KI,A9,BL hi (by omega:ra.length<=9223372036854775807)];rcases tf (isN (pA ra i).src) with e|e<;>rcases tf (isN (pA ra i).dst) with e2|e2<;>simp only[e,e2,AB,AE,A5,A6,AW,AN];simp only[bG e e2,bG e2 e];rcases tfp ((pA ra i).src - (pA ra i).dst=1) with e3|e3<;>rcases tfp ((pA ra i).dst - (pA ra i).src=1) with e4|e4<;>rcases EK ((pA ra i).data.size:Int) 40 with⟨e5,e6⟩|⟨e5,e6⟩<;>simp only[e3,e4,e5,e6,AO,Af]<;>rfl) (by simp[Wy])
def qt{ti:Int}{ks:List AA}{ls:List Bool}{ra:List AR}{se go:List A7}(sm:PQ ks ls ra se go):
  Pg ((ti,ks,ls,ra,se,go,()),())=I ((Fs ti ks ls ra se go,()),()):=by
 unfold Pg Fs;simp only[ED,adW sm.sl sm.s,adW sm.gl sm.g,ajI sm.kl sm.k,adZ sm.rl,A9];rcases tf (inB ti 0 99999) with e|e<;>simp only[e,AB,AE,A5,A6,AW,AN];rcases tfp ((ks.length:Int)=4) with e|e<;>simp only[e,AO,Af,AB,AE,A5,A6,AW,AN];rcases tfp ((ls.length:Int)=3) with e|e<;>simp only[e,AO,Af,AB,AE,A5,A6,AW,AN];rcases EK (ra.length:Int) 30 with⟨e1,e2⟩|⟨e1,e2⟩<;>simp only[e1,e2,AO,Af,A5,A6,AW,AN];rcases tf (H8 se&&A0 ((se.length:Int)<=6)) with e|e<;>simp only[e,AB,AE,A5,A6,AW,AN];rcases tf (H8 go&&A0 ((go.length:Int)<=6)) with e|e<;>simp only[e,AB,AE,A5,A6,AW,AN];rcases tf (BJ ks.length<|KJ ks) with e|e<;>simp only[e,A5,A6,AW,AN,JP,De];rw[adZ sm.rl];rcases tf (BJ ra.length λi=>Dw<|pA ra i) with e|e<;>simp only[e,A5,A6,JP,De]
def auz{ti:Int}{ks:List AA}{ls:List Bool}{ra:List AR}{se go:List A7}(sm:PQ ks ls ra se go):
  kW ((ti,ks,ls,ra,se,go,()),0,())=I (if BJ ks.length (KJ ks) then .inr ((ti,ks,ls,ra,se,go,()),()) else .inl (A3,())):=
 Dp (λi=>((ti,ks,ls,ra,se,go,()),(i:Int),())) ks.length (KJ ks) (A3,()) _ (λi hi=>by
  have hk:=LS<|Qz sm.k i;unfold Yt KJ;have kl:=sm.kl;simp only[BS hi,AX hi,A5,NU,hk,A9,Dr,BL hi (by omega:ks.length<=9223372036854775807)];rcases tfp ((kA ks i).id=(i:Int)) with e|e<;>rcases tf (Au<|kA ks i) with e2|e2<;>simp only[e,e2,AO,Af]<;>rfl) (by simp[Yt])
def avF{ti:Int}{ks:List AA}{ls:List Bool}{ra:List AR}{se go:List A7}(sm:PQ ks ls ra se go):
  kY ((ti,ks,ls,ra,se,go,()),0,())=I (if BJ ra.length (λi=>Dw<|pA ra i) then .inr ((ti,ks,ls,ra,se,go,()),()) else .inl (A3,())):=
 Dp (λi=>((ti,ks,ls,ra,se,go,()),(i:Int),())) ra.length (λi=>Dw<|pA ra i) (A3,()) _ (λi hi=>by
  have rl:=sm.rl;unfold bo Dw;simp only[BS hi,AX hi,A5,vO,JA,A9,BL hi (by omega:ra.length<=9223372036854775807)];rcases tf (isN (pA ra i).src) with e|e<;>rcases tf (isN (pA ra i).dst) with e2|e2<;>simp only[e,e2,AB,AE,A5,A6,AW,AN];simp only[bG e e2,bG e2 e];rcases tfp ((pA ra i).src - (pA ra i).dst=1) with e3|e3<;>rcases tfp ((pA ra i).dst - (pA ra i).src=1) with e4|e4<;>rcases EK ((pA ra i).data.size:Int) 40 with⟨e5,e6⟩|⟨e5,e6⟩<;>simp only[e3,e4,e5,e6,AO,Af]<;>rfl) (by simp[bo])
def as0{ti:Int}{ks:List AA}{ls:List Bool}{ra:List AR}{se go:List A7}(sm:PQ ks ls ra se go):
  mU ((ti,ks,ls,ra,se,go,()),0,())=I (if H8 se then .inr ((ti,ks,ls,ra,se,go,()),()) else .inl (A3,())):=
 Dp (λi=>((ti,ks,ls,ra,se,go,()),(i:Int),())) se.length (λi=>B9<|nA se i) (A3,()) _ (λi hi=>by
  have rl:=sm.sl;unfold bm;simp only[BS hi,AX hi,A5,Dd,Sc<|SK sm.s i,A9,BL hi (by omega:se.length<=9223372036854775807)];rcases tf (B9<|nA se i) with e|e<;>simp only[e]<;>rfl) (by simp[bm])
def asO{ti:Int}{ks:List AA}{ls:List Bool}{ra:List AR}{se go:List A7}(sm:PQ ks ls ra se go):
  kO ((ti,ks,ls,ra,se,go,()),0,())=I (if H8 go then .inr () else .inl (A3,())):=
 Dp (λi=>((ti,ks,ls,ra,se,go,()),(i:Int),())) go.length (λi=>B9<|nA go i) (A3,()) _ (λi hi=>by
  have rl:=sm.gl;unfold XC;simp only[BS hi,AX hi,A5,Dd,Sc<|SK sm.g i,A9,BL hi (by omega:go.length<=9223372036854775807)];rcases tf (B9<|nA go i) with e|e<;>simp only[e]<;>rfl) (by simp[XC])
def Rm{ti:Int}{ks:List AA}{ls:List Bool}{ra:List AR}{se go:List A7}(sm:PQ ks ls ra se go):
  LG ((ti,ks,ls,ra,se,go,()),())=I ((Fs ti ks ls ra se go,()),()):=by
 unfold LG Fs;simp only[HZ,A9];rcases tf (inB ti 0 99999) with e|e<;>simp only[e,AB,AE,A5,A6,AW,AN];rcases tfp ((ks.length:Int)=4) with e|e<;>simp only[e,AO,Af,AB,AE,A5,A6,AW,AN];rcases tfp ((ls.length:Int)=3) with e|e<;>simp only[e,AO,Af,AB,AE,A5,A6,AW,AN];rcases EK (ra.length:Int) 30 with⟨e1,e2⟩|⟨e1,e2⟩<;>simp only[e1,e2,AO,Af,A5,A6,AW,AN];rcases EK (se.length:Int) 6 with⟨e1,e2⟩|⟨e1,e2⟩<;>simp only[e1,e2,AO,Af,A5,A6,M4,BZ,AN];rcases EK (go.length:Int) 6 with⟨e1,e2⟩|⟨e1,e2⟩<;>simp only[e1,e2,AO,Af,A5,A6,M4,BZ,AN];rw[auz sm];rcases tf (BJ ks.length<|KJ ks) with e|e<;>simp only[e,A5,A6,AW,AN,BZ,JP,De];rw[avF sm];rcases tf (BJ ra.length λi=>Dw<|pA ra i) with e|e<;>simp only[e,A5,A6,JP,De,BZ,M4];rw[as0 sm];rcases tf (H8 se) with e|e<;>simp only[e,A5,A6,JP,De,BZ,M4,AW,AN];rw[asO sm];rcases tf (H8 go) with e|e<;>simp only[e,A5,A6,JP,De,BZ,M4]
def EH(a t:Int):Int:=if !isN a||(!isN t||decide (a=t)) then -1 else if a<t then a+1 else a - 1
def YY{a:Int}(h:isN a=A1):w64 (a+1)=a+1/\w64 (a - 1)=a - 1:=by
 have:=Gq h;exact⟨AY J J,AY J J⟩
def yJ{a t:Int}:J5 (a,t,())=I ((EH a t,()),()):=by
 unfold J5 EH;simp only[KI,A9];rcases tf (isN a) with e|e
 .rcases tf (isN t) with e2|e2
  .rcases tfp (a=t) with e3|e3
   .simp only[e,e2,e3,AO];rfl
   .rcases tfp (a<t) with e4|e4<;>simp only[e,e2,e3,e4,Af,AO,AB,A6,Bg,A5,if_false,Fa,(YY e).1,(YY e).2]
  .simp only[e,e2];rfl
 .simp only[e];rfl
def lm{a t:Int}:Q1 (a,t,())=I ((EH a t,()),()):=by
 unfold Q1 EH;simp only[JA,A9];rcases tf (isN a) with e|e
 .rcases tf (isN t) with e2|e2
  .rcases tfp (a=t) with e3|e3
   .simp only[e,e2,e3,AO];rfl
   .rcases tfp (a<t) with e4|e4<;>simp only[e,e2,e3,e4,Af,AO,AB,A6,Bg,A5,if_false,Fa,(YY e).1,(YY e).2]
  .simp only[e,e2];rfl
 .simp only[e];rfl
def avR{a t:Int}(ha:isN a=A1)(ht:isN t=A1)(hne:a≠t):isN (EH a t)=A1:=by
 have:=Gq ha;have:=Gq ht;have e3:A0 (a=t)=A3:=by simpa using hne
 unfold EH;simp only[ha,ht,e3,AB,Fa,A6];rw[Ae];split<;>omega
def stT(k:AA):AU:=(DR k.id k.log).getD zK
def Pe(l:List AA)(i:Int): @rd AA (dfl .AL) l i=kA l i.toNat:=rfl
structure agY (k:AA):Prop where
 id:isN k.id=A1
 sh:DB k.log k.fo=A1
 hl:k.AM.length<=3
 up:k.up=A1\/k.AM.length=0
 st:DR k.id k.log=I (stT k)
 ok:BI (stT k)=A1
 sid:(stT k).id=k.id
 fo:(DR k.id<|k.log.extract 0 k.fo.toNat).isSome=A1
 hv:∀i,i<k.AM.length->G2 k.AM i=A1
def FH{k:AA}(h:Au k=A1):agY k:=by
 unfold Au at h;simp only[AI,Cj,decide_eq_true_eq,Dq]at h;obtain⟨a,b,c,d,⟨e,f⟩,g⟩:=h;have hs:DR k.id k.log=I (stT k):=by
  unfold stT;cases hh:DR k.id k.log with
  | none=>rw[hh]at e;cases e
  | some o=>rfl
 exact⟨a,b,J,d,hs,W1 hs,iU hs,f,g⟩
structure aBj (ti:Int) (ks:List AA) (ls:List Bool) (ra:List AR) (se go:List A7):Prop where
 t0:0<=ti
 t1:ti<=99999
 kl:ks.length=4
 ll:ls.length=3
 rl:ra.length<=30
 s:H8 se=A1
 sl:se.length<=6
 g:H8 go=A1
 gl:go.length<=6
 k:∀i,i<4->(kA ks i).id=(i:Int)/\Au (kA ks i)=A1
 r:∀i,i<ra.length->Dw (pA ra i)=A1
def fY{k:AU}{n:A7}(h:BI k=A1)(hn:n∈k.held):isN (EH k.id n.to)=A1:=by
 have hf:=Ci h;obtain⟨i,hi,rfl⟩:=Dm hn;have h1:=G7 hf.h hi;rw[EF<|B3 hi]at h1;have h2:=I5 h1;have h3:=hf.ho i hi;unfold IX Mu at h3;rw[EF<|B3 hi]at h3;simp only[AI,Df,decide_eq_false_iff_not]at h3;exact avR (Ae.2 ⟨hf.id0,hf.id1⟩) (Ae.2 ⟨h2.t0,h2.t1⟩) h3.2.2.1.1
section
variable {ti:Int} {ks:List AA} {ls:List Bool} {ra:List AR} {se go:List A7}
def iw{l:List A7}{j:Nat}(h:j<l.length):nA l j∈l:=by
 rw[EF<|B3 h];exact Cm h
end
end Go.VS
namespace Go.VS
open Go
def aeE{a b c d e f:Int}(h:bef a b c d=A1)(k:bef c d e f=A1):bef a b e f=A1:=by
 unfold bef at *;simp only[Cj,AI,decide_eq_true_eq]at *;omega
def fe{a b:Int}:bef a b a b=A3:=by
 unfold bef;simp
def Uh{l:List A7}(h:F3 l=A1):∀(j i:Nat),i<j->j<l.length->bef (nA l i).fr (nA l i).nu (nA l j).fr (nA l j).nu=A1
 | j+1,i,hij,hj=>by
  have h1:=Dq.1 h (j+1) hj;simp only[AI,Cj,decide_eq_true_eq]at h1;have h2:bef (nA l j).fr (nA l j).nu (nA l<|j+1).fr (nA l<|j+1).nu=A1:=h1.2.resolve_left J;rcases GO i j with h3|h3
  .exact aeE (Uh h j i h3 J) h2
  .rwa[show i=j by omega]
def CR(r:A4):A4:=((BF (r.size:Int)++B [58])++r)++B [59]
def mW(r:A4):L (CR r)=dcm r.size++58::(L r++[59]):=by
 unfold CR;rw[rI];simp only[Fp,L_B,oY,C2,LB,Ef]
def Yv(r:A4):(CR r).size=(dcm r.size).length+2+r.size:=by
 rw[← Av,mW];simp only[Ap,Bt,CB,Av];omega
def cat(rs:List A4):List UInt8:=rs.flatMap λr=>L<|CR r
def KA:cat []=[]:=rfl
def IV(r:A4)(rs:List A4):cat (r::rs)=L (CR r)++cat rs:=rfl
def LC(rs ts:List A4):cat (rs++ts)=cat rs++cat ts:=oG
def HU(rs:List A4):Prop:=∀r∈rs,1<=r.size/\r.size<=60
def apW(b:UInt8)(h:dig b=A1):b≠58:=by
 rintro rfl;revert h;decide
def wF{n:Nat}(h:n<=60):(dcm n).length<=2:=LO 2 n J J
def aaG(n:Nat):1<=(dcm n).length:=by
 have:=la n;cases h:dcm n with
 | nil=>exact absurd h this
 | cons b l=>simp
def qS{l m:List UInt8}{b:UInt8}{i:Nat}(h:i=l.length):(l++b::m).getD i 0=b:=by
 subst h;simp
def Zn{s r:A4}{t:List UInt8}(h:L s=L (CR r)++t)(h1:1<=r.size)(h2:r.size<=60):DT s=I (r,(CR r).size):=by
 rw[mW]at h;have hs:s.size=(dcm r.size).length+2+r.size+t.length:=by
  rw[← Av,h];simp only[Ap,Bt,CB,Av];omega
 have hd:=wF h2;have hp:=aaG r.size;generalize hc:(dcm r.size).length=c at *;have hL:L s=dcm r.size++58::(L r++59::t):=by rw[h];simp
 have avk:V7 s=(c:Int):=by
  refine aaW J ?_ (λj hj=> ?_)
  .rw[decide_eq_true_eq,KV,hL,qS hc.symm];rfl
  .rw[decide_eq_false_iff_not,KV,hL];have hlt:j<(dcm r.size).length:=J
   have hm:(dcm r.size++58::(L r++59::t)).getD j 0∈dcm r.size:=xO hlt;have hdg:=cq (r.size+1) r.size J _ hm;have hne:=apW _ hdg;generalize (dcm r.size++58::(L r++59::t)).getD j 0=b at *;intro e;apply hne;have e:b.toNat=58:=J
   exact Qh.1 e
 have he:L (s.extract 0 c)=dcm r.size:=by
  rw[Ds,hL];simp[← hc]
 have hn:Ac (s.extract 0 c)=(r.size:Int):=iI (by rw[← Av,he];omega) he;have h59:bt s ((c+1+r.size:Nat):Int)=59:=by
  have e:(L s).getD (c+1+r.size) 0=59:=by
   have:dcm r.size++58::(L r++59::t)=(dcm r.size++58::L r)++59::t:=by simp
   rw[hL,this];exact qS (by simp[hc];omega)
  rw[KV,e];rfl
 have hx:s.extract (c+1) (c+1+r.size)=r:=by
  refine F9 ?_;rw[Ds,hL];have:(dcm r.size++58::(L r++59::t)).drop (c+1)=L r++59::t:=by
   have e:dcm r.size++58::(L r++59::t)=(dcm r.size++[58])++(L r++59::t):=by simp
   rw[e,R4<|by simp[hc]]
  rw[this,show c+1+r.size - (c+1)=(L r).length by rw[Av];omega,Ke rfl]
 unfold DT;rw[avk];simp only[Bw,hn];rw[AD J,AD J,AD J,AD J,h59];simp only[AO,AB,A6,hx];rw[Yv,hc]
def ajX{s r:A4}{n:Nat}(h:DT s=I (r,n)):1<=r.size/\r.size<=60/\n=(CR r).size/\ ∃t,L s=L (CR r)++t:=by
 have hsm:=VT h;unfold DT at h;split at h
 .cases h
 rename_i hc0;rcases aO s with⟨h1,_⟩|⟨c,h1,h2,h3,h4,_⟩
 .omega
 rw[h1]at h;simp only[Bw]at h;split at h
 .cases h
 rename_i hn1;split at h
 .cases h
 rename_i hn2;split at h
 .cases h
 rename_i hn3;split at h
 .cases h
 rename_i hn4;cases h;have hz:(s.extract 0 c).size=c:=by rw[G0 J];omega
 rcases QR (s.extract 0 c) with⟨h9,_⟩|⟨k,h9,h10,h11⟩
 .omega
 simp only[h9,Bw]at hn1 hn2 hn3 hn4 hsm ⊢;have hrs:(s.extract (c+1)<|c+1+k).size=k:=by rw[G0 J];omega
 have h5:bt s ((c+1+k:Nat):Int)=59:=by
  cases hd:A0 (bt s ((c+1+k:Nat):Int)=59) with
  | true=>simpa using hd
  | false=>rw[hd]at hn4;exact absurd rfl hn4
 have g1:(L s).getD c 0=58:=by
  rw[KV]at h4;exact Qh.1 (by have:(58:UInt8).toNat=58:=rfl;omega)
 have g2:(L s).getD (c+1+k) 0=59:=by
  rw[KV]at h5;exact Qh.1 (by have:(59:UInt8).toNat=59:=rfl;omega)
 have hlen:(L s).length=s.size:=Av s;have t1:(L s).take c=dcm k:=by
  rw[← h11,Ds];simp
 have hcl:(dcm k).length=c:=by rw[← t1,DN];omega
 have hsp:L s=dcm k++58::((L<|s.extract (c+1)<|c+1+k)++59::(L s).drop (c+1+k+1)):=by
  conv=>lhs;rw[← Kk c<|L s,t1]
  congr 1;rw[Rt J];congr 1
  .rw[← g1,BG,B3 J];rfl
  .rw[Ds]
   conv=>lhs;rw[← Kk k<|(L s).drop<|c+1]
   rw[show c+1+k - (c+1)=k by omega];congr 1;rw[Jw,Rt J];congr 1;rw[← g2,BG,B3 J];rfl
 refine⟨J,J, ?_,(L s).drop<|c+1+k+1, ?_⟩
 .rw[Yv,hrs,hcl]
 .rw[mW,hrs]
  conv=>lhs;rw[hsp]
  simp
def oo(r:A4):3<=(CR r).size:=by
 rw[Yv];have:=aaG r.size;omega
def abP{log:A4}:∀(rs:List A4) (f:Nat) (out:List A4) (at_:Nat),HU rs->(L log).drop at_=cat rs->at_<=log.size->log.size<at_+f->EV log f out at_=(out++rs,log.size)
 | [],0,out,at_,_,_,h3,h4=>J
 | [],f+1,out,at_,_,h2,h3,h4=>by
  have:log.size<=at_:=by
   have e:=congrArg JC h2;rw[Dc,Av,KA]at e;simp at e;omega
  unfold EV;rw[AD J,C1];rw[show at_=log.size by omega]
 | r::rs,0,out,at_,_,_,h3,h4=>J
 | r::rs,f+1,out,at_,h1,h2,h3,h4=>by
  have hr:=h1 r An;rw[IV]at h2;have hlen:log.size - at_=(CR r).size+(cat rs).length:=by
   have e:=congrArg JC h2;rwa[Dc,Av,Ap,Av]at e
  have hp:=oo r;have D4:DT (log.extract at_ log.size)=I (r,(CR r).size):=by
   refine Zn (t:=cat rs) ?_ hr.1 hr.2;rw[Ds,h2];refine K8 ?_;rw[Ap,Av];omega
  unfold EV;rw[A8 J,D4];simp only;have:=abP (log:=log) rs f (out++[r]) (at_+(CR r).size) (λx hx=>h1 x<|Aj _ hx) (by
   rw[← Jw,h2,R4<|by rw[Av]]) J J
  rw[this];simp
def c9{log:A4}{rs:List A4}(h1:HU rs)(h2:L log=cat rs):Cq log=(rs,log.size):=by
 have:=abP (log:=log) rs (log.size+1) [] 0 h1 (by simpa using h2) (Ce _) J;exact this
def kD{log:A4}:∀(f:Nat) (out:List A4) (at_:Nat),at_<=log.size->∃rs,(EV log f out at_).1=out++rs/\HU rs/\ ∃t,(L log).drop at_=cat rs++t/\(EV log f out at_).2=at_+(cat rs).length
 | 0,out,at_,_=>⟨[],by simp[EV],(λr hr=>nomatch hr),(L log).drop at_,rfl,rfl⟩
 | f+1,out,at_,h=>by
  unfold EV;split
  .rename_i hlt;cases D4:DT (log.extract at_ log.size) with
   | none=>exact⟨[],by simp,(λr hr=>nomatch hr),(L log).drop at_,rfl,rfl⟩
   | some p=>
    obtain⟨r,n⟩:=p;obtain⟨k1,k2,k3,t,k4⟩:=ajX D4;have hsm:=VT D4;rw[G0<|Ar _]at hsm;simp only at hsm ⊢;obtain⟨rs,g1,g2,t',g3,g4⟩:=kD (log:=log) f (out++[r]) (at_+n) J;have e:L (log.extract at_ log.size)=(L log).drop at_:=by
     rw[Ds];exact K8 (by rw[Dc,Av];omega)
    rw[e]at k4;have ht:t=cat rs++t':=by
     rw[← g3,← Jw,k4,k3,R4<|by rw[Av]]
    refine⟨r::rs,by rw[g1];simp,λx hx=> ?_,t',by rw[k4,ht,IV,C2], ?_⟩
    .rcases Bj.1 hx with rfl|hx
     .exact⟨k1,k2⟩
     .exact g2 x hx
    .rw[g4,IV,Ap,Av,k3];omega
  .exact⟨[],by simp,(λr hr=>nomatch hr),(L log).drop at_,rfl,rfl⟩
def nc(log:A4):HU (Cq log).1/\(Cq log).2=(cat (Cq log).1).length/\ ∃t,L log=cat (Cq log).1++t:=by
 obtain⟨rs,g1,g2,t,g3,g4⟩:=kD (log:=log) (log.size+1) [] 0<|Ce _;have e:(Cq log).1=rs:=by
  show(EV log (log.size+1) [] 0).1=rs;simpa using g1
 rw[e];refine⟨g2, ?_,t,by simpa using g3⟩;show(EV log (log.size+1) [] 0).2=_;rw[g4,DS]
def eR:∀(rs ts:List A4) (t:List UInt8),HU rs->HU ts->cat rs=cat ts++t->∃us,rs=ts++us
 | rs,[],t,_,_,_=>⟨rs,rfl⟩
 | [],s::ts,t,_,_,h=>by
  have e:=congrArg JC h;rw[IV,KA]at e;have:=oo s;simp only[CB,Ap,Av]at e;omega
 | r::rs,s::ts,t,h1,h2,h=>by
  rw[IV,IV,C2]at h;have hr:=h1 r An;have hs:=h2 s An;have o1:=Zn (s:=B<|L (CR r)++cat rs) (r:=r) (t:=cat rs) (L_B _) hr.1 hr.2;have o2:=Zn (s:=B<|L (CR r)++cat rs) (r:=s) (t:=cat ts++t) (by rw[L_B,h]) hs.1 hs.2;rw[o1]at o2;simp only[Br,CD]at o2;obtain⟨rfl,_⟩:=o2;obtain⟨us,hu⟩:=eR rs ts t (λx hx=>h1 x<|Aj _ hx) (λx hx=>h2 x<|Aj _ hx)<|wQ h;exact⟨us,by rw[hu];rfl⟩
def vb{lg:A4}{fo:Int}:DB lg fo=A1↔lg.size<=2400/\ ∃rs ts,HU (rs++ts)/\L lg=cat (rs++ts)/\fo=((cat rs).length:Int):=by
 unfold DB;simp only[AI,decide_eq_true_eq];constructor
 .rintro⟨h1,h2,h3,h4⟩;have h2:=Ae.1 h2;obtain⟨a1,a2,t,a3⟩:=nc lg;obtain⟨b1,b2,t',b3⟩:=nc<|lg.extract 0 fo.toNat;have ht:t=[]:=by
   have e:=congrArg JC a3;rw[Av,Ap]at e;exact E9 J
  rw[ht,C1]at a3;have hz:(lg.extract 0 fo.toNat).size=fo.toNat:=by rw[G0 J];omega
  have ht':t'=[]:=by
   have e:=congrArg JC b3;rw[Av,Ap,hz]at e;exact E9 J
  rw[ht',C1]at b3;have hp:cat (Cq lg).1=cat (Cq<|lg.extract 0 fo.toNat).1++(L lg).drop fo.toNat:=by
   rw[← a3,← b3,Ds,JR,Ib,Kk]
  obtain⟨us,hu⟩:=eR _ _ _ a1 b1 hp;refine⟨h1,(Cq<|lg.extract 0 fo.toNat).1,us,by rw[← hu];exact a1,by rw[← hu];exact a3, ?_⟩;rw[← b2];exact h4.symm
 .rintro⟨h1,rs,ts,h2,h3,rfl⟩;have hsz:lg.size=(cat rs).length+(cat ts).length:=by rw[← Av,h3,LC,Ap]
  have hrs:HU rs:=λr hr=>h2 r<|C5 _ hr;have he:L (lg.extract 0 (cat rs).length)=cat rs:=by
   rw[Ds,h3,LC,JR,Ib,Ke rfl]
  have e1:=c9 h2 h3;have e2:=c9 hrs he;refine⟨h1,Ae.2 ⟨J,J⟩,by rw[e1], ?_⟩;rw[Bw,e2];simp only;rw[← Av,he]
def Dj(k:AU):Prop:=∀n∈k.held,∀m∈k.inbox,¬(n.fr=m.fr/\n.nu=m.nu)
def Xm{l:List A7}{f n:Int}(h:Aa l f n<0):∀x∈l,¬(x.fr=f/\x.nu=n):=by
 intro x hx hc;rcases Gw l.length (λi=>A0 ((nA l i).fr=f)&&A0 ((nA l i).nu=n)) with⟨_,h2⟩|⟨i,h1,_⟩
 .obtain⟨j,hj,rfl⟩:=Dm hx;have:=h2 j hj;rw[EF<|B3 hj]at this;simp[hc.1,hc.2]at this
 .unfold Aa at h;omega
def bD{l:List A7}{f n:Int}(h:∀x∈l,¬(x.fr=f/\x.nu=n)):Aa l f n= -1:=by
 rcases at5 l f n with h1|h1
 .exact h1
 .obtain⟨h2,_,h3,h4⟩:=Ii h1;exact absurd ⟨h3,h4⟩<|h _<|iw h2
def afP{l:List Mark}{f n:Int}(h:Cf l f n<0):∀x∈l,¬(x.mf=f/\x.mn=n):=by
 intro x hx hc;rcases Gw l.length (λi=>A0 ((mA l i).mf=f)&&A0 ((mA l i).mn=n)) with⟨_,h2⟩|⟨i,h1,_⟩
 .obtain⟨j,hj,rfl⟩:=Dm hx;have:=h2 j hj;rw[Ge<|B3 hj]at this;simp[hc.1,hc.2]at this
 .unfold Cf at h;omega
def ahq{l:List Mark}{j:Nat}(h:j<l.length):mA l j∈l:=by
 rw[Ge<|B3 h];exact Cm h
def vZ{l:List Mark}{f n:Int}(h:∀x∈l,¬(x.mf=f/\x.mn=n)):Cf l f n= -1:=by
 rcases Gw l.length (λi=>A0 ((mA l i).mf=f)&&A0 ((mA l i).mn=n)) with⟨h1,_⟩|⟨i,_,h2,h3,_⟩
 .exact h1
 .simp only[AI,decide_eq_true_eq]at h3;exact absurd h3<|h _<|ahq h2
def acL{k o:AU}{n:A7}(h:HB k n=I o)(hd:Dj k):Dj o:=by
 unfold HB at h;split at h
 .cases h
 split at h
 .cases h
 split at h
 .cases h
 rename_i h1;split at h
 .cases h
 rename_i h2;split at h
 .cases h
 split at h
 .cases h
 have a1:=Xm (l:=k.held) (f:=n.fr) (n:=n.nu) (by simpa using h1);have a2:=Xm (l:=k.inbox) (f:=n.fr) (n:=n.nu) (by simpa using h2);split at h<;>cases h
 .intro x hx m hm;rcases Ux _ hm with rfl|hm
  .exact a1 x hx
  .exact hd x hx m hm
 .intro x hx m hm;rcases Ux _ hx with rfl|hx
  .exact λhc=>a2 m hm ⟨hc.1.symm,hc.2.symm⟩
  .exact hd x hx m hm
def yS{l:List A7}{i:Nat}{x:A7}(h:x∈Gf l i):x∈l:=by
 unfold Gf at h;rcases Bk.1 h with h|h
 .exact ID h
 .exact Jm h
def azX{k o:AU}{w:A4}{n:Int}(h:Hy k w n=I o)(hd:Dj k):Dj o:=by
 unfold Hy at h;split at h
 .cases h;intro x hx m hm;exact hd x (Hg.1 hx).1 m hm
 split at h
 .cases h;exact hd
 .cases h
def an2{k o:AU}{w:A4}{n:A7}(h:Gn k w n=I o)(hd:Dj k):Dj o:=by
 unfold Gn at h;split at h
 .exact acL h hd
 split at h
 .exact acL h hd
 split at h
 .cases h
 rename_i hn;simp only[Cj,decide_eq_true_eq,not_or]at hn;have a1:=Xm (l:=k.held) (f:=n.fr) (n:=n.nu) J;have a2:=Xm (l:=k.inbox) (f:=n.fr) (n:=n.nu) J;split at h
 .cases h;intro x hx m hm;rcases Ux _ hx with rfl|hx
  .exact λhc=>a2 m hm ⟨hc.1.symm,hc.2.symm⟩
  .exact hd x hx m hm
 split at h
 .cases h;intro x hx m hm;rcases Ux _ hm with rfl|hm
  .exact a1 x hx
  .exact hd x hx m hm
 .cases h
def alO{k o:AU}{w:A4}{m:Mark}(h:Ey k w m=I o)(hd:Dj k):Dj o:=by
 unfold Ey at h;split at h
 .cases h;exact λx hx m hm=>hd x (yS hx) m hm
 split at h
 .cases h;exact λx hx m hm=>hd x hx m<|yS hm
 split at h
 .cases h;exact hd
 .cases h
def aqD{k o:AU}{w r:A4}(h:Bs k w r=I o)(hd:Dj k):Dj o:=by
 unfold Bs at h;split at h
 .split at h
  .exact azX h hd
  .cases h
 split at h
 .split at h
  .exact an2 h hd
  .cases h
 split at h
 .split at h
  .exact alO h hd
  .cases h
 .cases h
def JJ{k o:AU}{r:A4}(hk:BI k=A1):C6 k r=I o↔Ga k r=I o/\BI o=A1:=by
 unfold C6 FA;simp only[hk,A5];constructor
 .intro h;cases hf:(Ga k r).filter BI with
  | none=>rw[hf]at h;cases h
  | some o'=>
   rw[hf]at h;cases h;exact YO.1 hf
 .intro h;rw[YO.2 h];rfl
def aoG{k o:AU}{r:A4}(hk:BI k=A1)(h:C6 k r=I o)(hd:Dj k):Dj o:=by
 have h1:=((JJ hk).1 h).1;unfold Ga at h1;split at h1
 .cases h1
 .exact aqD h1 hd
def aA7:∀ {rs:List A4} {k o:AU},BI k=A1->Dj k->FV k rs=I o->Dj o
 | [],k,o,_,hd,h=>by cases h;exact hd
 | r::rs,k,o,hk,hd,h=>by
  unfold FV at h;rw[SG]at h;cases hs:C6 k r with
  | none=>rw[hs]at h;cases h
  | some k'=>rw[hs]at h;exact aA7 (rs:=rs) (SB hs) (aoG hk hs hd) h
def pz{id:Int}{rs:List A4}{o:AU}(h:Cr id rs=I o):Dj o:=by
 unfold Cr at h;split at h
 .exact aA7 (Qi<|by assumption) (λn hn=>by cases hn) h
 .cases h
def NH(k:AU)(rs ts:List A4):FV k (rs++ts)=(FV k rs).bind λo=>FV o ts:=List.foldlM_append
def Q2(k:AU)(r:A4):FV k [r]=C6 k r:=by
 unfold FV;rw[SG];cases C6 k r<;>rfl
def Fz(t:Int):A4:=B [116,105,109,101,32]++BF t
def KD(n:Int):A4:=B [110,101,120,116,32]++BF n
def EA(w:A4)(a b c:Int):A4:=((((((w++B [32])++BF a)++B [32])++BF b)++B [32])++BF c)
def ML(n:A7):A4:=B [104,101,108,100,32]++wr n
def M3(n:A7):A4:=B [105,110,98,111,120,32]++wr n
def CS(k:AU):List A4:=
 ((((if 0<k.ti then [Fz k.ti] else [])++(if 1<k.nx then [KD k.nx] else []))++k.marks.map λm=>EA D3 m.mf m.mn m.mu)++k.held.map ML)++k.inbox.map M3
def KQ{k:AU}{rec:A4}{w r:List UInt8}(hw:CH w)(e:L rec=w++32::r):Ga k rec=Bs k (B w) (B r):=by
 unfold Ga;rw[e,Uc hw,Lc hw e];rfl
def jH{k:AU}{t:Int}(h0:0<=t)(h1:t<100000)(h:k.ti<t):Bs k Dk (B<|B6 t)=I ⟨k.id,t,k.nx,Gh t k.held,Js t k.marks,k.inbox⟩:=by
 unfold Bs Hy;simp only[Im h0 h1,Bq,A5,AW,h,AO]
def apS{k:AU}{n:Int}(h0:0<=n)(h1:n<100000)(h:k.nx<n):Bs k Ec (B<|B6 n)=I ⟨k.id,k.ti,n,k.held,k.marks,k.inbox⟩:=by
 unfold Bs Hy;simp[su,Im h0 h1,DL,A5,AN,AW,h,AO,A6]
def awr{k:AU}{m:Mark}{r:A4}(ht:Gv r=I m)(h:Cf k.marks m.mf m.mn<0):Bs k D3 r=I ⟨k.id,k.ti,k.nx,k.held,Fm k.marks m,k.inbox⟩:=by
 have e:A0 (0<=Cf k.marks m.mf m.mn)=A3:=by simp;omega
 unfold Bs Ey;simp[eD,ni,oL,fC,oX,ga,kv,mC,Fa,Bo,DL,A5,A6,ht,AN,AW,e,AE]
def azI{k:AU}{n:A7}(hn:B9 n=A1)(h1:Aa k.held n.fr n.nu<0)(h2:Aa k.inbox n.fr n.nu<0):Bs k Dz (wr n)=I ⟨k.id,k.ti,k.nx,Eg k.held n,k.marks,k.inbox⟩:=by
 have e1:A0 (0<=Aa k.held n.fr n.nu)=A3:=by simp;omega
 have e2:A0 (0<=Aa k.inbox n.fr n.nu)=A3:=by simp;omega
 unfold Bs Gn;simp[aAD,adb,yA,sf,Fa,Bo,Bq,A5,A6,Yi hn,AN,e1,e2]
def auL{k:AU}{n:A7}(hn:B9 n=A1)(h1:Aa k.held n.fr n.nu<0)(h2:Aa k.inbox n.fr n.nu<0):Bs k EI (wr n)=I ⟨k.id,k.ti,k.nx,k.held,k.marks,Eg k.inbox n⟩:=by
 have e1:A0 (0<=Aa k.held n.fr n.nu)=A3:=by simp;omega
 have e2:A0 (0<=Aa k.inbox n.fr n.nu)=A3:=by simp;omega
 unfold Bs Gn;simp[rb,adU,zx,vw,zt,Fa,Bo,DL,A5,A6,Yi hn,AN,e1,e2]
def fF:CH [116,105,109,101]:=by unfold CH;decide
def ajh:CH [110,101,120,116]:=by unfold CH;decide
def akl:CH [109,97,114,107]:=by unfold CH;decide
def atl:CH [104,101,108,100]:=by unfold CH;decide
def auO:CH [105,110,98,111,120]:=by unfold CH;decide
def XY(t:Int):L (Fz t)=[116,105,109,101]++32::B6 t:=by unfold Fz;simp only[Fp,L_B,VF];rfl
def aeC(t:Int):L (KD t)=[110,101,120,116]++32::B6 t:=by unfold KD;simp only[Fp,L_B,VF];rfl
def TA(w:A4)(a b c:Int):L (EA w a b c)=L w++32::(B6 a++32::(B6 b++32::B6 c)):=by
 unfold EA;simp only[Fp,L_B,VF,C2,LB,Ef]
def abM(n:A7):L (ML n)=[104,101,108,100]++32::L (wr n):=by unfold ML;simp only[Fp,L_B];rfl
def xS(n:A7):L (M3 n)=[105,110,98,111,120]++32::L (wr n):=by unfold M3;simp only[Fp,L_B];rfl
def NR{k:AU}(h:EU k):BI k=A1:=by
 have a:=h.hl;have b:=h.ml;have c:=h.il;unfold BI;simp only[AI,Ae,decide_eq_true_eq,Dq];exact⟨⟨h.id0,h.id1⟩,⟨h.t0,h.t1⟩,⟨h.n0,h.n1⟩,⟨J,h.h⟩,⟨J,h.m⟩,⟨J,h.i⟩,h.ho,h.mo,h.io⟩
def Vy{l:List A7}{a i:Nat}(h:i<a):nA (l.take a) i=nA l i:=by
 unfold nA;simp[BG,h]
def lS{l:List Mark}{a i:Nat}(h:i<a):mA (l.take a) i=mA l i:=by
 unfold mA;simp[BG,h]
def sZ{l:List A7}(h:F3 l=A1)(a:Nat):F3 (l.take a)=A1:=by
 refine Dq.2 λi hi=> ?_;rw[DN]at hi;have:=Dq.1 h i J;rw[Vy J,Vy J];exact this
def aoY{l:List Mark}(h:Hi l=A1)(a:Nat):Hi (l.take a)=A1:=by
 refine Dq.2 λi hi=> ?_;rw[DN]at hi;have:=Dq.1 h i J;rw[lS J,lS J];exact this
def wE{l:List Mark}(h:Hi l=A1):∀(j i:Nat),i<j->j<l.length->bef (mA l i).mf (mA l i).mn (mA l j).mf (mA l j).mn=A1
 | j+1,i,hij,hj=>by
  have h1:=Dq.1 h (j+1) hj;simp only[AI,Cj,decide_eq_true_eq]at h1;have h2:bef (mA l j).mf (mA l j).mn (mA l<|j+1).mf (mA l<|j+1).mn=A1:=h1.2.resolve_left J;rcases GO i j with h3|h3
  .exact aeE (wE h j i h3 J) h2
  .rwa[show i=j by omega]
def Q7{k:AU}(hf:EU k)(a b c:Nat)(hc:c=0\/k.marks.length<=b):EU ⟨k.id,k.ti,k.nx,k.held.take a,k.marks.take b,k.inbox.take c⟩:=by
 have hl:=hf.hl;have ml:=hf.ml;have il:=hf.il;refine⟨hf.id0,hf.id1,hf.t0,hf.t1,hf.n0,hf.n1,by simp;omega,sZ hf.h a,by simp;omega,aoY hf.m b,by simp;omega,sZ hf.i c,λi hi=> ?_,λi hi=> ?_,λi hi=> ?_⟩
 .simp only[DN]at hi;have:=hf.ho i J;unfold IX at this ⊢;simp only[AI,decide_eq_true_eq]at this ⊢;rw[Vy J];refine⟨this.1,this.2.1,this.2.2.1, ?_⟩;rw[vZ λx hx=>afP this.2.2.2 x<|ID hx];omega
 .simp only[DN]at hi;have:=hf.mo i J;unfold Jj at this ⊢;rw[lS J];exact this
 .simp only[DN]at hi;obtain hc|hc:=hc
  .omega
  .have:=hf.io i J;simp only;rw[K8 hc];unfold KS at this ⊢;rw[Vy J];exact this
def iC{α:Type}{f:α->Bool}{l:List α}{n:α}(h:∀x∈l,f x=A1):ins f l n=l++[n]:=by
 unfold ins;have h1:l.takeWhile f=l:=by
  induction l with
  | nil=>rfl
  | cons x l ih=>rw[RJ,h x An];simp only[A5];rw[ih λy hy=>h y<|Aj _ hy]
 have h2:l.dropWhile f=[]:=by
  induction l with
  | nil=>rfl
  | cons x l ih=>rw[jz,h x An];simp only[A5];exact ih (λy hy=>h y<|Aj _ hy) (by
    have:=h1;rw[RJ,h x An]at this;simpa using this)
 rw[h1,h2]
def Mo{α:Type}{l:List α}{j:Nat}(h:j<l.length):l.take (j+1)=l.take j++[l[j]]:=by
 rw[Lm,B3 h];rfl
def sD{k:AU}(hk:BI k=A1)(hd:Dj k):Cr k.id (CS k)=I k:=by
 have hf:=Ci hk;have hid:isN k.id=A1:=Ae.2 ⟨hf.id0,hf.id1⟩;have t0:=hf.t0;have t1:=hf.t1;have n0:=hf.n0;have n1:=hf.n1;have kT:BI ⟨k.id,k.ti,1,[],[],[]⟩=A1:=by
  refine NR ⟨hf.id0,hf.id1,t0,t1,(by decide:(1:Int)<=1),(by decide:(1:Int)<=100),by simp,rfl,by simp,rfl,by simp,rfl,λi hi=>by simp at hi,λi hi=>by simp at hi,λi hi=>by simp at hi⟩
 have kN:BI ⟨k.id,k.ti,k.nx,[],[],[]⟩=A1:=by
  refine NR ⟨hf.id0,hf.id1,t0,t1,n0,n1,by simp,rfl,by simp,rfl,by simp,rfl,λi hi=>by simp at hi,λi hi=>by simp at hi,λi hi=>by simp at hi⟩
 have s1:FV ⟨k.id,0,1,[],[],[]⟩ (if 0<k.ti then [Fz k.ti] else [])=I ⟨k.id,k.ti,1,[],[],[]⟩:=by
  by_cases h:0<k.ti
  .rw[A8 h,Q2,(JJ<|Qi hid).2 ⟨?_,kT⟩];rw[KQ fF<|XY _];exact jH t0 J h
  .rw[AD h,show k.ti=0 by omega];rfl
 have s2:FV ⟨k.id,k.ti,1,[],[],[]⟩ (if 1<k.nx then [KD k.nx] else [])=I ⟨k.id,k.ti,k.nx,[],[],[]⟩:=by
  by_cases h:1<k.nx
  .rw[A8 h,Q2,(JJ kT).2 ⟨?_,kN⟩];rw[KQ ajh<|aeC _];exact apS J J h
  .rw[AD h,show k.nx=1 by omega];rfl
 have s3:∀j,j<=k.marks.length->FV ⟨k.id,k.ti,k.nx,[],[],[]⟩ ((k.marks.take j).map λm=>EA D3 m.mf m.mn m.mu)=I ⟨k.id,k.ti,k.nx,[],k.marks.take j,[]⟩:=by
  intro j
  induction j with
  | zero=>intro _;rfl
  | succ j ih=>
   intro hj;have hjl:j<k.marks.length:=J
   have hm:=Sy hf.m hjl;rw[Ge<|B3 hjl]at hm;have hr:=PI hm;have g1:=NR<|Q7 hf 0 j 0<|.inl rfl;have g2:=NR<|Q7 hf 0 (j+1) 0<|.inl rfl;have g3:BI ⟨k.id,k.ti,k.nx,[],k.marks.take j++[k.marks[j]'hjl],[]⟩=A1:=by
    rw[← Mo hjl];simpa using g2
   have N7:∀x∈k.marks.take j,bef x.mf x.mn k.marks[j].mf k.marks[j].mn=A1:=λx hx=>by
    obtain⟨i,hi,rfl⟩:=Dm hx;rw[DN]at hi;have:=wE hf.m j i J hjl;rw[Ge<|B3 hjl,Ge<|B3 (by omega:i<k.marks.length)]at this;simpa using this
   rw[Mo hjl,F1,NH,ih J];simp only[A9,DI,JV];rw[Q2,(JJ<|by simpa using g1).2 ⟨?_,g3⟩];have h3:=gF (r:=B<|B6 (k.marks[j]'hjl).mf++32::(B6 (k.marks[j]'hjl).mn++32::B6 (k.marks[j]'hjl).mu)) (a:=(k.marks[j]'hjl).mf) (b:=(k.marks[j]'hjl).mn) (c:=(k.marks[j]'hjl).mu) J J J J J J<|L_B _;rw[KQ akl<|TA _ _ _ _,awr h3 ?_]
   .simp only;rw[show Fm (k.marks.take j) k.marks[j]=k.marks.take j++[k.marks[j]] from iC N7]
   .simp only;rw[vZ λx hx hc=>by
     have:=N7 x hx;rw[hc.1,hc.2,fe]at this;cases this]
    omega
 have s4:∀j,j<=k.held.length->FV ⟨k.id,k.ti,k.nx,[],k.marks,[]⟩ ((k.held.take j).map ML)=I ⟨k.id,k.ti,k.nx,k.held.take j,k.marks,[]⟩:=by
  intro j
  induction j with
  | zero=>intro _;rfl
  | succ j ih=>
   intro hj;have hjl:j<k.held.length:=J
   have hm:=G7 hf.h hjl;rw[EF<|B3 hjl]at hm;have g1:=NR<|Q7 hf j k.marks.length 0<|.inl rfl;have g2:=NR<|Q7 hf (j+1) k.marks.length 0<|.inl rfl;rw[Ep]at g1 g2;have g3:BI ⟨k.id,k.ti,k.nx,k.held.take j++[k.held[j]'hjl],k.marks,[]⟩=A1:=by
    rw[← Mo hjl];simpa using g2
   have N7:∀x∈k.held.take j,bef x.fr x.nu k.held[j].fr k.held[j].nu=A1:=λx hx=>by
    obtain⟨i,hi,rfl⟩:=Dm hx;rw[DN]at hi;have:=Uh hf.h j i J hjl;rw[EF<|B3 hjl,EF<|B3 (by omega:i<k.held.length)]at this;simpa using this
   rw[Mo hjl,F1,NH,ih J];simp only[A9,DI,JV];rw[Q2,(JJ<|by simpa using g1).2 ⟨?_,g3⟩];rw[KQ atl<|abM _,B_L,azI hm ?_ ?_]
   .simp only;rw[show Eg (k.held.take j) k.held[j]=k.held.take j++[k.held[j]] from iC N7]
   .simp only;rw[bD λx hx hc=>by
     have:=N7 x hx;rw[hc.1,hc.2,fe]at this;cases this]
    omega
   .simp only;rw[bD λx hx=>by cases hx];omega
 have s5:∀j,j<=k.inbox.length->FV ⟨k.id,k.ti,k.nx,k.held,k.marks,[]⟩ ((k.inbox.take j).map M3)=I ⟨k.id,k.ti,k.nx,k.held,k.marks,k.inbox.take j⟩:=by
  intro j
  induction j with
  | zero=>intro _;rfl
  | succ j ih=>
   intro hj;have hjl:j<k.inbox.length:=J
   have hm:=G7 hf.i hjl;rw[EF<|B3 hjl]at hm;have g1:=NR<|Q7 hf k.held.length k.marks.length j<|.inr<|Ar _;have g2:=NR<|Q7 hf k.held.length k.marks.length (j+1)<|.inr<|Ar _;rw[Ep,Ep]at g1 g2;have g3:BI ⟨k.id,k.ti,k.nx,k.held,k.marks,k.inbox.take j++[k.inbox[j]'hjl]⟩=A1:=by
    rw[← Mo hjl];simpa using g2
   have N7:∀x∈k.inbox.take j,bef x.fr x.nu k.inbox[j].fr k.inbox[j].nu=A1:=λx hx=>by
    obtain⟨i,hi,rfl⟩:=Dm hx;rw[DN]at hi;have:=Uh hf.i j i J hjl;rw[EF<|B3 hjl,EF<|B3 (by omega:i<k.inbox.length)]at this;simpa using this
   rw[Mo hjl,F1,NH,ih J];simp only[A9,DI,JV];rw[Q2,(JJ<|by simpa using g1).2 ⟨?_,g3⟩];rw[KQ auO<|xS _,B_L,auL hm ?_ ?_]
   .simp only;rw[show Eg (k.inbox.take j) k.inbox[j]=k.inbox.take j++[k.inbox[j]] from iC N7]
   .simp only;rw[bD λx hx=>hd x hx _<|Cm hjl];omega
   .simp only;rw[bD λx hx hc=>by
     have:=N7 x hx;rw[hc.1,hc.2,fe]at this;cases this]
    omega
 have e3:=s3 k.marks.length<|Ar _;have e4:=s4 k.held.length<|Ar _;have e5:=s5 k.inbox.length<|Ar _;rw[Ep]at e3 e4 e5;unfold Cr CS;rw[A8 hid,NH,NH,NH,NH,s1];simp only[A9,s2,e3,e4,e5]
structure DO (lg:A4) (fo:Int) (rs ts:List A4):Prop where
 ok:HU (rs++ts)
 sz:lg.size<=2400
 eq:L lg=cat (rs++ts)
 fo:fo=((cat rs).length:Int)
def xw{lg:A4}{fo:Int}(h:DB lg fo=A1):∃rs ts,DO lg fo rs ts:=by
 obtain⟨h1,rs,ts,h2,h3,h4⟩:=vb.1 h;exact⟨rs,ts,h2,h1,h3,h4⟩
def DO.mj{lg:A4}{fo:Int}{rs ts:List A4}(h:DO lg fo rs ts):DB lg fo=A1:=
 vb.2 ⟨h.sz,rs,ts,h.ok,h.eq,h.fo⟩
def DO.read{lg:A4}{fo:Int}{rs ts:List A4}(h:DO lg fo rs ts):Cq lg=(rs++ts,lg.size):=c9 h.ok h.eq
def wj{rs ts:List A4}(h:HU (rs++ts)):HU rs:=λr hr=>h r<|C5 _ hr
def DO.ajZ{lg:A4}{fo:Int}{rs ts:List A4}(h:DO lg fo rs ts):L (lg.extract 0 fo.toNat)=cat rs:=by
 rw[Ds,h.eq,h.fo,Bw,LC,JR,Ib,Ke rfl]
def DO.alG{lg:A4}{fo:Int}{rs ts:List A4}(h:DO lg fo rs ts):(Cq<|lg.extract 0 fo.toNat).1=rs:=by
 rw[c9 (wj h.ok) h.ajZ]
def DO.state{lg:A4}{fo:Int}{rs ts:List A4}(h:DO lg fo rs ts)(id:Int):DR id lg=Cr id (rs++ts):=by
 unfold DR;rw[h.read]
def DO.aif{lg:A4}{fo:Int}{rs ts:List A4}(h:DO lg fo rs ts)(id:Int):DR id (lg.extract 0 fo.toNat)=Cr id rs:=by
 unfold DR;rw[h.alG]
def yd(id:Int)(rs ts:List A4):Cr id (rs++ts)=(Cr id rs).bind λk=>FV k ts:=by
 unfold Cr;split
 .exact NH _ _ _
 .rfl
def vh(id:Int)(rs:List A4)(r:A4):Cr id (rs++[r])=(Cr id rs).bind λk=>C6 k r:=by
 rw[yd];congr 1;funext k;exact Q2 k r
def xz{id:Int}{rs ts:List A4}(h:(Cr id<|rs++ts).isSome=A1):(Cr id rs).isSome=A1:=by
 rw[yd]at h;cases e:Cr id rs with
 | none=>rw[e]at h;exact h
 | some k=>rfl
def DO.add{lg r:A4}{fo:Int}{rs ts:List A4}(h:DO lg fo rs ts)(h1:1<=r.size)(h2:r.size<=60)(h3:lg.size+(CR r).size<=2400):DO (lg++CR r) fo rs (ts++[r]):=by
 refine⟨?_, ?_, ?_,h.fo⟩
 .intro x hx;rw[← C2]at hx;rcases Bk.1 hx with hx|hx
  .exact h.ok x hx
  .rw[DG.1 hx];exact⟨h1,h2⟩
 .rw[← Av,Fp,Ap,Av,Av];exact h3
 .rw[Fp,h.eq,← C2,LC (rs++ts) [r]];congr 1;rw[IV,KA,C1]
def DO.force{lg:A4}{fo:Int}{rs ts:List A4}(h:DO lg fo rs ts):DO lg (lg.size:Int) (rs++ts) []:=by
 refine⟨by simpa using h.ok,h.sz,by simpa using h.eq, ?_⟩;rw[← Av,h.eq]
def DO.pack{lg:A4}{rs:List A4}(h:HU rs)(e:L lg=cat rs)(hz:lg.size<=2400):DO lg (lg.size:Int) rs []:=by
 refine⟨by simpa using h,hz,by simpa using e, ?_⟩;rw[← Av,e]
def ad3{log:A4}:∀(qs:List A4) (f:Nat) (out:List A4) (at_:Nat) (t:List UInt8),HU qs->(L log).drop at_=cat qs++t->at_<=log.size->log.size<at_+f->
  ∃f',EV log f out at_=EV log f' (out++qs) (at_+(cat qs).length)/\at_+(cat qs).length<=log.size
 | [],f,out,at_,t,_,_,h3,_=>⟨f,by simp[KA],by simpa[KA] using h3⟩
 | r::qs,0,out,at_,t,_,_,h3,h4=>J
 | r::qs,f+1,out,at_,t,h1,h2,h3,h4=>by
  have hr:=h1 r An;rw[IV,C2]at h2;have hlen:log.size - at_=(CR r).size+(cat qs++t).length:=by
   have e:=congrArg JC h2;rwa[Dc,Av,Ap,Av]at e
  have hp:=oo r;have D4:DT (log.extract at_ log.size)=I (r,(CR r).size):=by
   refine Zn (t:=cat qs++t) ?_ hr.1 hr.2;rw[Ds,h2];refine K8 ?_;rw[Ap,Av];omega
  obtain⟨f',g1,g2⟩:=ad3 (log:=log) qs f (out++[r]) (at_+(CR r).size) t (λx hx=>h1 x<|Aj _ hx) (by
   rw[← Jw,h2,R4<|by rw[Av]]) J J
  refine⟨f', ?_, ?_⟩
  .conv=>lhs;unfold EV
   rw[A8 J,D4];simp only;rw[g1];simp only[IV,Ap,Av,C2,LB,Ef,Ct]
  .simp only[IV,Ap,Av];omega
def are{log:A4}{qs:List A4}{t:List UInt8}(h:HU qs)(e:L log=cat qs++t):∃us,(Cq log).1=qs++us:=by
 obtain⟨f',g1,g2⟩:=ad3 (log:=log) qs (log.size+1) [] 0 t h (by simpa using e) (Ce _) J;obtain⟨us,k1,_⟩:=kD (log:=log) f' ([]++qs) (0+(cat qs).length) g2;refine⟨us, ?_⟩;show(EV log (log.size+1) [] 0).1=_;rw[g1,k1];rfl
def DO.W7{lg:A4}{fo:Int}{rs ts:List A4}(h:DO lg fo rs ts)(n:Nat)(hn:(cat rs).length<=n):
  ∃us vs,ts=us++vs/\DO ((lg.extract 0 n).extract 0 (Cq<|lg.extract 0 n).2) ((Cq<|lg.extract 0 n).2:Int) (rs++us) []:=by
 obtain⟨a1,a2,t,a3⟩:=nc<|lg.extract 0 n;have e0:L (lg.extract 0 n)=(cat<|rs++ts).take n:=by rw[Ds,h.eq,JR,Ib]
 have e:cat (rs++ts)=cat (Cq<|lg.extract 0 n).1++(t++(cat<|rs++ts).drop n):=by
  rw[← C2,← a3,e0,Kk]
 obtain⟨vs,hv⟩:=eR _ _ _ h.ok a1 e;obtain⟨us,hu⟩:=are (log:=lg.extract 0 n) (qs:=rs) (t:=(cat ts).take<|n - (cat rs).length) (wj h.ok) (by
  rw[e0,LC,List.take_append,K8 hn])
 rw[hu]at hv a1 a2 a3;rw[C2]at hv;refine⟨us,vs,wQ hv,by simpa using a1, ?_, ?_,by rw[a2]⟩
 .have:=h.sz;rw[← Av,Ds,Ds];simp only[DN,Dc,Av];omega
 .rw[Ds,a3,a2,JR,Ib,Ke rfl,C1]
def Ka{x:Int}(h0:0<=x)(k:Nat)(hk:1<=k)(h:x<(10 ^ k:Nat)):(B6 x).length<=k:=by
 obtain⟨u,rfl⟩:=Gx h0;rw[Iy];exact LO k u hk<|by exact_mod_cast h
def Pq{n:A7}(h:B9 n=A1):(wr n).size<=35:=by
 obtain⟨f0,f1,t0,t1,n0,n1,u0,u1,s0,s1⟩:=I5 h;have a:=Ka f0 1 J J;have b:=Ka (show 0<=n.nu by omega) 2 J J;have c:=Ka t0 1 J J;have d:=Ka (show 0<=n.un by omega) 3 J J;rw[← Av,QK];unfold wrL;simp only[Ap,Bt,Av];omega
def ahZ{r:A4}{m:Mark}(h:Gv r=I m):r.size<=17:=by
 unfold Gv at h;have hj:=p9 ((L r).count 32)<|L r;have hn:∀ {p:List UInt8},(Ao<|B p).2=A1->p.length<=5:=fun {p} hp=>by
  rcases QC (B p) with h1|⟨n,_,h2,_⟩
  .rw[h1]at hp;cases hp
  .exact h2
 split at h
 .rename_i p q t hp;rw[hp]at hj;split at h
  .rename_i hc;simp only[AI]at hc;have h1:=hn hc.1;have h2:=hn hc.2.1;have h3:=hn hc.2.2.1;have hj2:p++32::(q++32::t)=L r:=hj;rw[← Av,← hj2];simp only[Ap,Bt];omega
  .cases h
 .cases h
def afV{k o:AU}{w r:A4}(h:Bs k w r=I o):w.size<=5/\r.size<=35:=by
 unfold Bs at h;split at h
 .rename_i hw;simp only[Cj,decide_eq_true_eq]at hw;split at h
  .rename_i hr;refine⟨by obtain rfl|rfl:=hw<;>decide, ?_⟩;rcases QC r with h1|⟨n,_,h2,_⟩
   .rw[h1]at hr;cases hr
   .omega
  .cases h
 split at h
 .rename_i hw;simp only[Cj,decide_eq_true_eq]at hw;cases hn:D0 r with
  | none=>rw[hn]at h;cases h
  | some n=>
   obtain⟨h1,h2⟩:=J6 hn;refine⟨by obtain rfl|rfl|rfl|rfl:=hw<;>decide, ?_⟩;rw[← h2];exact Pq h1
 split at h
 .rename_i hw;simp only[Cj,decide_eq_true_eq]at hw;cases hn:Gv r with
  | none=>rw[hn]at h;cases h
  | some n=>
   refine⟨by obtain rfl|rfl|rfl:=hw<;>decide, ?_⟩;have:=ahZ hn;omega
 .cases h
def yP{k o:AU}{r:A4}(hk:BI k=A1)(h:C6 k r=I o):1<=r.size/\r.size<=60:=by
 have h:=((JJ hk).1 h).1;rcases LH (L r) with hs|⟨w,t,hs,e⟩
 .unfold Ga at h;rw[Sx hs]at h;cases h
 .rw[KQ hs e]at h;have:=afV h;have hw:(B w).size=w.length:=rfl;have ht:(B t).size=t.length:=rfl;rw[← Av,e];simp only[Ap,Bt];omega
def T8{rs:List A4}{c:Nat}(h:∀r∈rs,(CR r).size<=c):(cat rs).length<=rs.length * c:=by
 induction rs with
 | nil=>simp[KA]
 | cons r rs ih=>
  have:=ih λx hx=>h x<|Aj _ hx;have:=h r An;rw[IV,Ap,Av,Bt,Nat.succ_mul];omega
def PG{r:A4}(h:r.size<=60):(CR r).size<=r.size+4:=by
 rw[Yv];have:=wF h;omega
def Sq{k:AU}(hk:BI k=A1):HU (CS k)/\(cat<|CS k).length<=800:=by
 have hf:=Ci hk;have t1:=hf.t1;have n1:=hf.n1;have hl:=hf.hl;have ml:=hf.ml;have il:=hf.il;have sT:∀r∈(if 0<k.ti then [Fz k.ti] else []),1<=r.size/\r.size<=8:=by
  intro r hr;split at hr
  .rw[DG.1 hr,← Av,XY];have:=Ka hf.t0 3 J J;simp only[Ap,Bt,CB];omega
  .cases hr
 have sN:∀r∈(if 1<k.nx then [KD k.nx] else []),1<=r.size/\r.size<=8:=by
  intro r hr;split at hr
  .rw[DG.1 hr,← Av,aeC];have:=Ka (show 0<=k.nx by have:=hf.n0;omega) 3 J J;simp only[Ap,Bt,CB];omega
  .cases hr
 have sM:∀r∈k.marks.map (λm=>EA D3 m.mf m.mn m.mu),1<=r.size/\r.size<=13:=by
  intro r hr;obtain⟨m,hm,rfl⟩:=DF.1 hr;obtain⟨i,hi,rfl⟩:=Dm hm;have:=PI<|Sy hf.m hi;rw[Ge<|B3 hi]at this;have a:=Ka this.1 1 J J;have b:=Ka (show 0<=k.marks[i].mn by omega) 2 J J;have c:=Ka (show 0<=k.marks[i].mu by omega) 3 J J;rw[← Av,TA];simp only[Ap,Bt,L_B,CB];omega
 have sH:∀r∈k.held.map ML,1<=r.size/\r.size<=40:=by
  intro r hr;obtain⟨m,hm,rfl⟩:=DF.1 hr;obtain⟨i,hi,rfl⟩:=Dm hm;have:=G7 hf.h hi;rw[EF<|B3 hi]at this;have:=Pq this;rw[← Av,abM];simp only[Ap,Bt,Av,CB];omega
 have sI:∀r∈k.inbox.map M3,1<=r.size/\r.size<=41:=by
  intro r hr;obtain⟨m,hm,rfl⟩:=DF.1 hr;obtain⟨i,hi,rfl⟩:=Dm hm;have:=G7 hf.i hi;rw[EF<|B3 hi]at this;have:=Pq this;rw[← Av,xS];simp only[Ap,Bt,Av,CB];omega
 refine⟨?_, ?_⟩
 .intro r hr;unfold CS at hr;simp only[Bk]at hr;obtain(((hr|hr)|hr)|hr)|hr:=hr
  .have:=sT r hr;omega
  .have:=sN r hr;omega
  .have:=sM r hr;omega
  .have:=sH r hr;omega
  .have:=sI r hr;omega
 .unfold CS;simp only[LC,Ap];have a:=T8 (c:=12) λr hr=>by have:=sT r hr;have:=PG (r:=r) J;omega
  have b:=T8 (c:=12) λr hr=>by have:=sN r hr;have:=PG (r:=r) J;omega
  have c:=T8 (c:=17) λr hr=>by have:=sM r hr;have:=PG (r:=r) J;omega
  have d:=T8 (c:=44) λr hr=>by have:=sH r hr;have:=PG (r:=r) J;omega
  have e:=T8 (c:=45) λr hr=>by have:=sI r hr;have:=PG (r:=r) J;omega
  rw[EG]at c d e;have a2:(if 0<k.ti then [Fz k.ti] else []).length<=1:=by split<;>simp
  have b2:(if 1<k.nx then [KD k.nx] else []).length<=1:=by split<;>simp
  omega
def Cp(rs:List A4):A4:=B<|cat rs
def ph{k:AU}(hk:BI k=A1):DO (Cp<|CS k) ((Cp<|CS k).size:Int) (CS k) []:=by
 have:=Sq hk;refine DO.pack this.1 (by unfold Cp;rw[L_B]) ?_;show(cat<|CS k).length<=2400;omega
def Ej(k:AU)(lg:A4)(fo:Int)(r:A4):A4×Int:=
 if lg.size+(CR r).size<=2400 then(lg++CR r,fo) else(Cp (CS k)++CR r,((Cp<|CS k).size:Int))
def abe{k o:AU}{id:Int}{lg r:A4}{fo:Int}{rs ts:List A4}(h:DO lg fo rs ts)(hs:Cr id (rs++ts)=I k)(hr:C6 k r=I o):
  ∃rs' ts',DO (Ej k lg fo r).1 (Ej k lg fo r).2 rs' ts'/\Cr id (rs'++ts')=I o:=by
 have hk:=W1 hs;have hz:=yP hk hr;unfold Ej;split
 .rename_i hc;refine⟨rs,ts++[r],h.add hz.1 hz.2 hc, ?_⟩;rw[← C2,vh,hs];exact hr
 .have hp:=ph hk;have hsz:=Sq hk;have hl:=PG hz.2;refine⟨CS k,[]++[r],hp.add hz.1 hz.2 ?_, ?_⟩
  .show(cat<|CS k).length+_<=2400;omega
  .rw[Ef,vh];have:=sD hk<|pz hs;rw[iU hs]at this;rw[this];exact hr
structure DJ (k:AA) (st:AU):Prop where
 ok:Au k=A1
 st:DR k.id k.log=I st
def Cb{k:AA}(h:Au k=A1):DJ k (stT k):=⟨h,(FH h).st⟩
def DJ.kok{k:AA}{st:AU}(h:DJ k st):BI st=A1:=W1 h.st
def DJ.id{k:AA}{st:AU}(h:DJ k st):st.id=k.id:=iU h.st
def DJ.stT{k:AA}{st:AU}(h:DJ k st):stT k=st:=by
 unfold Go.VS.stT;rw[h.st];rfl
def SO{k:AA}{rs ts:List A4}(id:isN k.id=A1)(l:DO k.log k.fo rs ts)(hl:k.AM.length<=3)(up:k.up=A1\/k.AM.length=0)(st:(Cr k.id<|rs++ts).isSome=A1)(hv:∀i,i<k.AM.length->G2 k.AM i=A1):Au k=A1:=by
 unfold Au;simp only[AI,Cj,decide_eq_true_eq,Dq];refine⟨id,l.mj,J,up,⟨?_, ?_⟩,hv⟩
 .rw[l.state];exact st
 .rw[l.aif];exact xz st
def DJ.lg{k:AA}{st:AU}(h:DJ k st):∃rs ts,DO k.log k.fo rs ts/\Cr k.id (rs++ts)=I st:=by
 obtain⟨rs,ts,hl⟩:=xw (FH h.ok).sh;exact⟨rs,ts,hl,by rw[← hl.state];exact h.st⟩
def DJ.od{k:AA}{st o:AU}{lg:A4}{fo:Int}{rs ts:List A4}(h:DJ k st)(l:DO lg fo rs ts)(e:Cr k.id (rs++ts)=I o):DJ ⟨k.id,k.up,lg,fo,k.AM⟩ o:=by
 have hf:=FH h.ok;refine⟨SO (k:=⟨k.id,k.up,lg,fo,k.AM⟩) hf.id l hf.hl hf.up ?_ hf.hv, ?_⟩
 .simp only[e];rfl
 .simp only[l.state];exact e
def wrM(k:AA)(r:A4):AA:=⟨k.id,k.up,(Ej (stT k) k.log k.fo r).1,(Ej (stT k) k.log k.fo r).2,k.AM⟩
def QA{k:AA}{st o:AU}{r:A4}(h:DJ k st)(hr:C6 st r=I o):DJ (wrM k r) o:=by
 obtain⟨rs,ts,hl,hs⟩:=h.lg;obtain⟨rs',ts',h1,h2⟩:=abe hl hs hr;have:=h.od h1 h2;unfold wrM;rw[h.stT];exact this
def foM(k:AA):AA:=⟨k.id,k.up,k.log,(k.log.size:Int),k.AM⟩
def Ye{k:AA}{st:AU}(h:DJ k st):DJ (foM k) st:=by
 obtain⟨rs,ts,hl,hs⟩:=h.lg;exact h.od hl.force<|by simpa using hs
def pkM(k:AA):AA:=⟨k.id,k.up,Cp<|CS<|stT k,((Cp<|CS<|stT k).size:Int),k.AM⟩
def yO{k:AA}{st:AU}(h:DJ k st):DJ (pkM k) st:=by
 have:=h.od (ph h.kok) (o:=st) (by
  have:=sD h.kok<|pz h.st;rw[h.id]at this;simpa using this)
 unfold pkM;rw[h.stT];exact this
def faM(k:AA)(keep:Int):AA:=
 let n:=(k.fo+max 0 (min keep<|(k.log.size:Int) - k.fo)).toNat
 ⟨k.id,A3,(k.log.extract 0 n).extract 0 (Cq<|k.log.extract 0 n).2,((Cq<|k.log.extract 0 n).2:Int),[]⟩
def yy{k:AA}(h:Au k=A1)(keep:Int):Au (faM k keep)=A1:=by
 have hf:=FH h;obtain⟨rs,ts,hl,hs⟩:=(Cb h).lg;have hfo:=hl.fo;obtain⟨us,vs,e,l⟩:=hl.W7 (k.fo+max 0 (min keep<|(k.log.size:Int) - k.fo)).toNat J;refine SO (k:=faM k keep) hf.id l (by show 0<=3;omega) (.inr rfl) ?_ (λi hi=>by cases hi);show(Cr k.id<|(rs++us)++[]).isSome=A1;rw[C1];refine xz (ts:=vs) ?_;rw[C2,← e,hs];rfl
def amk{k:AA}{st:AU}(h:DJ k st)(hf:k.fo=(k.log.size:Int))(keep:Int):DJ (faM k keep) st/\(faM k keep).log=k.log/\(faM k keep).fo=k.fo:=by
 obtain⟨rs,ts,hl,hs⟩:=h.lg;have e:(k.fo+max 0 (min keep<|(k.log.size:Int) - k.fo)).toNat=k.log.size:=J
 have e2:k.log.extract 0 k.log.size=k.log:=by
  apply F9;rw[Ds,JR,Ib];exact K8 (by rw[Av];omega)
 have hk:faM k keep=⟨k.id,A3,k.log,(k.log.size:Int),[]⟩:=by
  unfold faM;simp only[e,e2,hl.read]
 have ok:=yy h.ok keep;rw[hk]at ok ⊢;exact⟨⟨ok,h.st⟩,rfl,hf.symm⟩
def riM(k:AA):AA:=⟨k.id,A1,k.log,k.fo,k.AM⟩
def axL{k:AA}{st:AU}(h:DJ k st):DJ (riM k) st:=by
 have hf:=FH h.ok;obtain⟨rs,ts,hl,hs⟩:=h.lg;refine⟨SO (k:=riM k) hf.id hl hf.hl (.inl rfl) ?_ hf.hv,h.st⟩;show(Cr k.id<|rs++ts).isSome=A1;rw[hs];rfl
def Bv(a b:List UInt8):List UInt8:=List.zipWith (· ^^^ ·) a b
def Pv{a b:List UInt8}(h:a.length=b.length):(Bv a b).length=a.length:=by
 unfold Bv;rw[fK];omega
def cc(a b:List UInt8):Bv a b=Bv b a:=by
 unfold Bv
 induction a generalizing b with
 | nil=>cases b<;>rfl
 | cons x a ih=>
  cases b with
  | nil=>rfl
  | cons y b=>rw[PY,PY,ih,UInt8.xor_comm]
def Tw(a b c:List UInt8):Bv (Bv a b) c=Bv a (Bv b c):=by
 unfold Bv
 induction a generalizing b c with
 | nil=>cases b<;>cases c<;>rfl
 | cons x a ih=>
  cases b with
  | nil=>cases c<;>rfl
  | cons y b=>
   cases c with
   | nil=>rfl
   | cons z c=>simp only[PY,ih,UInt8.xor_assoc]
def amV{a b:List UInt8}(h:a.length=b.length):Bv (Bv a b) b=a:=by
 unfold Bv
 induction a generalizing b with
 | nil=>rfl
 | cons x a ih=>
  cases b with
  | nil=>cases h
  | cons y b=>rw[PY,PY,ih<|by simpa using h,UInt8.xor_assoc,UInt8.xor_self,UInt8.xor_zero]
def nul(n:Nat):List UInt8:=BX n 0
def cR{a:List UInt8}{n:Nat}(h:a.length=n):Bv (nul n) a=a:=by
 unfold Bv nul
 induction a generalizing n with
 | nil=>subst h;rfl
 | cons x a ih=>
  subst h;rw[Bt,ae7,PY,ih rfl,UInt8.zero_xor]
def DX(n:Nat)(bl:Nat->List UInt8):List Nat->List UInt8
 | []=>nul n
 | k::ks=>Bv (bl k) (DX n bl ks)
def Qj{n:Nat}{bl:Nat->List UInt8}:∀ {ks:List Nat},(∀k∈ks,(bl k).length=n)->(DX n bl ks).length=n
 | [],_=>by simp[DX,nul]
 | k::ks,h=>by
  have a:=h k An;have b:=Qj λx hx=>h x<|Aj k hx;rw[DX,Pv J,a]
def kU{n:Nat}{bl:Nat->List UInt8}:∀ {ks:List Nat} {y:List UInt8},y.length=n->ks.foldl (λx k=>Bv x<|bl k) y=Bv y (DX n bl ks)
 | [],y,h=>by
  rw[DX,cc,cR h];rfl
 | k::ks,y,h=>by
  rw[E6,DX,← Tw];by_cases hk:(Bv y<|bl k).length=n
  .exact kU hk
  ·
   have key:∀(ks:List Nat) (y z:List UInt8),y.length<=n->ks.foldl (λx k=>Bv x<|bl k) y=Bv y (DX n bl ks):=by
    intro ks
    induction ks with
    | nil=>
     intro y z hy;rw[Mk,DX,cc];unfold Bv nul;clear hk h z
     induction y generalizing n with
     | nil=>simp
     | cons x y ih=>
      cases n with
      | zero=>simp at hy
      | succ n=>rw[ae7,PY,UInt8.zero_xor,← ih<|by simpa using hy]
    | cons k ks ih=>
     intro y z hy;rw[E6,DX,← Tw];refine ih _ z ?_;unfold Bv;rw[fK];omega
   refine key ks _ [] ?_;unfold Bv;rw[fK];omega
def aoe{n:Nat}{bl:Nat->List UInt8}{p:Nat->Bool}{ks:List Nat}{u:Nat}(hb:∀k∈ks,(bl k).length=n)(hf:(ks.filter λk=> !p k)=[u]):
  ks.foldl (λx k=>if p k then Bv x (bl k) else x) (DX n bl ks)=bl u:=by
 have h1:∀(ks:List Nat) (y:List UInt8),ks.foldl (λx k=>if p k then Bv x (bl k) else x) y=(ks.filter p).foldl (λx k=>Bv x<|bl k) y:=by
  intro ks
  induction ks with
  | nil=>intro y;rfl
  | cons k ks ih=>
   intro y;rw[E6,J7];split<;>simp[ih]
 have h2:∀(ks:List Nat),(∀k∈ks,(bl k).length=n)->DX n bl ks=Bv (DX n bl<|ks.filter λk=> !p k) (DX n bl<|ks.filter p):=by
  intro ks
  induction ks with
  | nil=>intro _;simp[DX,cR (n:=n) (a:=nul n) (by simp[nul])]
  | cons k ks ih=>
   intro hb;have:=ih λx hx=>hb x<|Aj _ hx;rw[DX,this,J7,J7];cases p k
   .simp only[AE,A5,A6,DX,Tw]
   .simp only[AB,A5,A6,DX];rw[← Tw,cc<|bl k,Tw]
 have hlen:(DX n bl<|ks.filter p).length=n:=Qj λk hk=>hb k (Hg.1 hk).1;have hu:(bl u).length=n:=hb u (Hg.1 (hf▸OK u:u∈ks.filter λk=> !p k)).1;rw[h1,kU<|Qj hb,h2 ks hb,hf];rw[amV (by rw[hlen];exact Qj λk hk=>by rw[DG.1 hk];exact hu)];rw[DX,DX,cc,cR hu]
def rnd(x:Int):Int:=if inB x 0 65535 then B5 (25173 * x+13849) 65536 else 0
def V5(x:Int):0<=rnd x/\rnd x<=65535:=by
 unfold rnd;split
 .rename_i h;have:=Ae.1 h;rw[KE J];omega
 .omega
def lX(x:Int):Ot (x,())=I ((rnd x,()),()):=by
 unfold Ot rnd;simp only[ED,A9];rcases tf (inB x 0 65535) with e|e
 .have:=Ae.1 e;simp only[e,AB,A6,A5];rw[AY (n:=25173 * x) J J,AY J J]
 .simp only[e,AE,A6,A5]
def kg(x:Int):Ol (x,())=I ((rnd x,()),()):=by
 unfold Ol rnd;simp only[HZ,A9];rcases tf (inB x 0 65535) with e|e
 .have:=Ae.1 e;simp only[e,AB,A6,A5];rw[AY (n:=x * 25173) J J,AY J J,QZ]
 .simp only[e,AE,A6,A5]
def DU(b n:Int):Bool:=inB b 1 6&&inB n 0 999
def qL(b n:Int):Ui (b,n,())=I ((DU b n,()),()):=by
 unfold Ui DU;simp only[ED,A9,CE,CF];cases inB b 1 6<;>rfl
def Zt(b n:Int):M7 (b,n,())=I ((DU b n,()),()):=by
 unfold M7 DU;simp only[HZ,A9,CE,CF];cases inB b 1 6<;>rfl
def wgt(b d:Int):Int:=if d=1 then Ay 60 b+10 else Ay 60 (d * (d - 1))
def akv{b d:Int}(hb:inB b 1 6=A1)(hd:inB d 1 6=A1):Ws (b,d,())=I ((wgt b d,()),()):=by
 have h1:=Ae.1 hb;have h2:=Ae.1 hd;have h3:b=1\/b=2\/b=3\/b=4\/b=5\/b=6:=J
 have h4:d=1\/d=2\/d=3\/d=4\/d=5\/d=6:=J
 obtain rfl|rfl|rfl|rfl|rfl|rfl:=h3<;>obtain rfl|rfl|rfl|rfl|rfl|rfl:=h4<;>rfl
def ass(b n:Int)(hb:inB b 1 6=A1):YF (b,n,0,1,())=I (.inr (b,n,70,())):=by
 have h1:=Ae.1 hb;have h3:b=1\/b=2\/b=3\/b=4\/b=5\/b=6:=J
 unfold YF;obtain rfl|rfl|rfl|rfl|rfl|rfl:=h3
 .exact B4 rfl (BT rfl)
 .exact B4 rfl (B4 rfl (BT rfl))
 .exact B4 rfl (B4 rfl (B4 rfl (BT rfl)))
 .exact B4 rfl (B4 rfl (B4 rfl (B4 rfl (BT rfl))))
 .exact B4 rfl (B4 rfl (B4 rfl (B4 rfl (B4 rfl (BT rfl)))))
 .exact B4 rfl (B4 rfl (B4 rfl (B4 rfl (B4 rfl (B4 rfl (BT rfl))))))
def wts(b:Int):List Int:=if b=1 then [70] else if b=2 then [40,30] else if b=3 then [30,30,10] else if b=4 then [25,30,10,5] else if b=5 then [22,30,10,5,3] else [20,30,10,5,3,2]
def aub(b n:Int)(hb:inB b 1 6=A1):bW (b,n,[0,w64<|w64 (Ay 60 b)+10],rd (dfl .int) ([0,w64<|w64 (Ay 60 b)+10]:List Int) 1,2,())=I (.inr (b,n,0::wts b,70,())):=by
 have h1:=Ae.1 hb;have h3:b=1\/b=2\/b=3\/b=4\/b=5\/b=6:=J
 unfold bW;obtain rfl|rfl|rfl|rfl|rfl|rfl:=h3
 .exact BT rfl
 .exact B4 rfl (BT rfl)
 .exact B4 rfl (B4 rfl (BT rfl))
 .exact B4 rfl (B4 rfl (B4 rfl (BT rfl)))
 .exact B4 rfl (B4 rfl (B4 rfl (B4 rfl (BT rfl))))
 .exact B4 rfl (B4 rfl (B4 rfl (B4 rfl (B4 rfl (BT rfl)))))
def F5{σ ρ:Type}{b:σ->Option (σ ⊕ ρ)}{x x':σ}{y z:ρ}{c:Bool}(h:b x=if c then I (.inr y) else I (.inl x'))(hz:AZ b x'=I z):AZ b x=I (if c then y else z):=by
 cases c
 .exact B4 h hz
 .exact BT h
def Kj(b r:Int):List Int->Int->Int->(Int×A2) ⊕ (Int×A2)
 | [],_,_=> .inr (b,())
 | w::ws,acc,d=>if A0 (r<acc+w) then .inl (d,()) else Kj b r ws (acc+w) (d+1)
def agG(b r:Int)(hb:inB b 1 6=A1):Zg (b,0::wts b,r,0,1,())=I (Kj b r (wts b) 0 1):=by
 have h1:=Ae.1 hb;have h3:b=1\/b=2\/b=3\/b=4\/b=5\/b=6:=J
 unfold Zg;obtain rfl|rfl|rfl|rfl|rfl|rfl:=h3
 .exact F5 rfl (BT rfl)
 .exact F5 rfl (F5 rfl (BT rfl))
 .exact F5 rfl (F5 rfl (F5 rfl (BT rfl)))
 .exact F5 rfl (F5 rfl (F5 rfl (F5 rfl (BT rfl))))
 .exact F5 rfl (F5 rfl (F5 rfl (F5 rfl (F5 rfl (BT rfl)))))
 .exact F5 rfl (F5 rfl (F5 rfl (F5 rfl (F5 rfl (F5 rfl (BT rfl))))))
def aba{b d:Int}(hb:inB b 1 6=A1)(hd:inB d 1 6=A1):0<=wgt b d/\wgt b d<=70:=by
 have h1:=Ae.1 hb;have h2:=Ae.1 hd;have h3:b=1\/b=2\/b=3\/b=4\/b=5\/b=6:=J
 have h4:d=1\/d=2\/d=3\/d=4\/d=5\/d=6:=J
 obtain rfl|rfl|rfl|rfl|rfl|rfl:=h3<;>obtain rfl|rfl|rfl|rfl|rfl|rfl:=h4<;>decide
def arj{b x d:Int}(hb:inB b 1 6=A1)(hd:inB d 1 6=A1)(hlt:d<b)(h0: -1000<=x)(h1:x<=1000):
  Tr (b,x,d,())=if A0 (x - wgt b d<0) then I (.inr<|.inl (d,())) else I (.inl (b,x - wgt b d,d+1,())):=by
 have hw:=aba hb hd;have h2:=Ae.1 hd;unfold Tr;simp only[AT hlt,A5,akv hb hd,A9];rw[AY (n:=x - wgt b d) J J,AY (n:=d+1) J J]
def Lu:(Int×A2) ⊕ (Int×A2)->Int
 | .inl y=>y.1
 | .inr y=>y.1
def Yb(b x:Int):Nat->Int->(Int×A2) ⊕ (Int×A2)
 | 0,_=> .inr (b,())
 | n+1,d=>if A0 (x - wgt b d<0) then .inl (d,()) else Yb b (x - wgt b d) n (d+1)
def xT{b:Int}(hb:inB b 1 6=A1):∀(n:Nat) (x d:Int),1<=d->d+n=b-> -70 * d<=x->x<=100->Xw (b,x,d,())=I (Yb b x n d)
 | 0,x,d,_,h,_,_=>by
  unfold Xw;refine BT ?_;unfold Tr;simp only[show A0 (d<b)=A3 from BV J,A6];rfl
 | n+1,x,d,h1,h,h2,h3=>by
  have hb':=Ae.1 hb;have hd:inB d 1 6=A1:=Ae.2 ⟨h1,J⟩;have hw:=aba hb hd;exact F5 (arj hb hd J J J)<|xT hb n (x - wgt b d) (d+1) J J J J
def au4:∀b:Fin 6,∀r:Fin 70,Lu (Yb ((b.1+1:Nat):Int) (r.1:Int) b.1 1)=Lu (Kj ((b.1+1:Nat):Int) (r.1:Int) (wts ((b.1+1:Nat):Int)) 0 1):=by decide+kernel
def asz{b r:Int}(hb:inB b 1 6=A1)(h0:0<=r)(h1:r<70):Lu (Yb b r (b - 1).toNat 1)=Lu (Kj b r (wts b) 0 1):=by
 have h2:=Ae.1 hb;have:=au4 ⟨(b - 1).toNat,J⟩ ⟨r.toNat,J⟩;rw[show(((b - 1).toNat+1:Nat):Int)=b by omega,show((r.toNat:Nat):Int)=r by omega]at this;exact this
def Ft(b n:Int):Int:=if DU b n then(if A0 (n<b) then 1 else Lu (Kj b (B5 (Ay (rnd<|rnd<|31 * n+b) 16) 70) (wts b) 0 1)) else 0
def aeQ(s:(Int×A2) ⊕ (Int×A2)):AS (I s) (λy=>I (y,())) (λy=>I (y,()))=I ((Lu s,()),()):=by
 cases s<;>rfl
def azc(b n:Int):Wu (b,n,())=I ((Ft b n,()),()):=by
 unfold Wu Ft;rw[qL];simp only[A9];rcases tf (DU b n) with e|e
 .have e2:=e;unfold DU at e2;rw[AI]at e2;have h1:=Ae.1 e2.1;have h2:=Ae.1 e2.2;simp only[e,AB,A6,A5];rcases tf (A0<|n<b) with e3|e3
  .simp only[e3,A5]
  .have hr:=V5<|rnd<|31 * n+b;have hz:Ay (rnd<|rnd<|31 * n+b) 16=rnd (rnd<|31 * n+b) / 16:=G5 hr.1;simp only[e3,A6,show A0 (b=0)=A3 from BV J,AE,A5,aub b n e2.1];rw[A8<|by rfl];simp only[AS,lX,A9];rw[AY (n:=31 * n) J J,AY (n:=31 * n+b) J J,AY (n:=Ay _ 16) J J];rw[agG b _ e2.1];exact aeQ _
 .simp only[e,AE,A5,A6]
def arV(b n:Int):Xr (b,n,())=I ((Ft b n,()),()):=by
 unfold Xr Ft;rw[Zt];simp only[A9];rcases tf (DU b n) with e|e
 .have e2:=e;unfold DU at e2;rw[AI]at e2;have h1:=Ae.1 e2.1;have h2:=Ae.1 e2.2;simp only[e,AB,A6,A5];rcases tf (A0<|n<b) with e3|e3
  .simp only[e3,A5]
  .have hr:=V5<|rnd<|31 * n+b;have hz:Ay (rnd<|rnd<|31 * n+b) 16=rnd (rnd<|31 * n+b) / 16:=G5 hr.1;have hm:B5 (Ay (rnd<|rnd<|31 * n+b) 16) 70=(rnd (rnd<|31 * n+b) / 16) % 70:=by rw[hz];exact KE J
   simp only[e3,A6,ass b n e2.1];simp only[AS,kg,A9];rw[AY (n:=n * 31) J J,AY (n:=n * 31+b) J J,QZ n 31,AY (n:=Ay _ 16) J J];rw[xT e2.1 (b - 1).toNat _ 1 J J J J,A8<|by rfl];rw[← asz e2.1 J J];exact aeQ _
 .simp only[e,AE,A5,A6]
def aes{l:List Int}(hl:l.length<=1048576):hY (l,())=I ((l,()),()):=Kb hl
def agV{l:List Int}(hl:l.length<=1048576):aM (l,())=I ((l,()),()):=Kb hl
def Eh(b:Nat)(f:Nat->Bool):Nat->Nat->Nat
 | 0,a=>a
 | k+1,a=>if f a then Eh b f k ((a+1) % b) else a
def Rep(u:List Bool)(f:Nat->Bool):Prop:=∀i,u.getD i A3=f i
def rdB(u:List Bool)(i:Nat): @rd Bool (dfl .bool) u (i:Int)=u.getD i A3:=rfl
def S6{b:Nat}{f:Nat->Bool}:∀(k a:Nat),a<b->Eh b f k a<b
 | 0,_,h=>h
 | k+1,a,h=>by
  unfold Eh;split
  .exact S6 k _ (P9 _ J)
  .exact h
def jV{a b k:Nat}:((a+1) % b+k) % b=(a+(k+1)) % b:=by
 rw[Nat.mod_add_mod,Ct,NL 1 k]
def mb{b:Nat}{f:Nat->Bool}:∀(k a m:Nat),a<b->f ((a+k) % b)=A3->k<=m->Eh b f m a=Eh b f k a
 | 0,a,m,h,e,_=>by
  rw[HN,OM h]at e;cases m with
  | zero=>rfl
  | succ m=>
   simp only[Eh,e,A6]
 | k+1,a,m,h,e,hm=>by
  cases m with
  | zero=>omega
  | succ m=>
   rw[Eh,Eh];rw[mb k ((a+1) % b) m (P9 _ J) (by rw[jV];exact e) J]
def aAo{a b j:Nat}(ha:a<b)(hj:j<b):∃k,k<=b/\(a+k) % b=j:=by
 by_cases h:a<=j
 .exact⟨j - a,J,by rw[show a+(j - a)=j by omega];exact OM hj⟩
 .exact⟨j+b - a,J,by rw[show a+(j+b - a)=j+b by omega,Nat.add_mod_right];exact OM hj⟩
def cnt(f:Nat->Bool):Nat->Nat
 | 0=>0
 | k+1=>cnt f k+(if f k then 1 else 0)
def pj{f:Nat->Bool}:∀(k:Nat),cnt f k<k->∃j,j<k/\f j=A3
 | 0,h=>J
 | k+1,h=>by
  rw[cnt]at h;rcases tf (f k) with e|e
  .rw[e,A8 rfl]at h;obtain⟨j,h1,h2⟩:=pj (f:=f) k J;exact⟨j,J,h2⟩
  .exact⟨k,J,e⟩
def IK(f:Nat->Bool)(a:Nat):Nat->Bool:=λj=>if j=a then A1 else f j
def n8{f:Nat->Bool}{a:Nat}:∀(k:Nat),(k<=a->cnt (IK f a) k=cnt f k)/\cnt (IK f a) k<=cnt f k+1
 | 0=>⟨λ_=>rfl,by rw[cnt,cnt];omega⟩
 | k+1=>by
  obtain⟨h1,h2⟩:=n8 (f:=f) (a:=a) k;rw[cnt,cnt];constructor
  .intro h;rw[h1 J,show IK f a k=f k from AD J]
  .by_cases h:k=a
   .rw[h1 J];unfold IK;rw[A8 h];cases f k<;>simp
   .unfold IK;rw[AD h];unfold IK at h2;omega
def lb:∀(k:Nat),cnt (λ_=>A3) k=0
 | 0=>rfl
 | k+1=>by rw[cnt,lb k];rfl
def Rep.set{u:List Bool}{f:Nat->Bool}{a:Nat}(h:Rep u f)(ha:a<u.length):Rep (u.set a A1) (IK f a):=by
 intro i;unfold IK;rw[BG,To];by_cases e:i=a
 .subst e;simp[ha]
 .rw[AD<|LA e,AD e,← h i,BG]
def Rep.new(n:Nat):Rep (BX n A3) (λ_=>A3):=by
 intro i;rw[BG,WQ];split<;>rfl
def JT(b:Nat):Nat->(Nat->Bool)->Int->Nat->Bool
 | 0,f,_=>f
 | n+1,f,x=>JT b n (IK f<|Eh b f b (B5 (Ay (rnd x) 16) (b:Int)).toNat) (rnd x)
def abv{b:Nat}(hb:0<b):∀(n:Nat) (f:Nat->Bool) (x:Int),(∀i,b<=i->f i=A3)->∀i,b<=i->JT b n f x i=A3
 | 0,_,_,h=>h
 | n+1,f,x,h=>by
  refine abv hb n _ _ ?_;intro i hi;unfold IK;rw[AD,h i hi];have:Eh b f b (B5 (Ay (rnd x) 16) (b:Int)).toNat<b:=by
   refine S6 _ _ ?_;have:=V5 x;rw[G5 this.1,KE J];have h1:=Int.emod_lt_of_pos (rnd x / 16) (show(0:Int)<b by omega);have h2:=Int.emod_nonneg (rnd x / 16) (show(b:Int)≠0 by omega);omega
  omega
def H4(f:Nat->Bool)(m:Nat):List Nat:=(BO m).filter f
def mQ(f:Nat->Bool)(m:Nat):H4 f (m+1)=H4 f m++if f m then [m] else []:=by
 unfold H4;rw[Kw,Xf];congr 1;simp only[J7,aD]
def Vs(f:Nat->Bool)(m:Nat):(H4 f m).length<=m:=by
 unfold H4;exact C7 (IZ _ _)<|by simp
def apK{f:Nat->Bool}{m k:Nat}(h:k∈H4 f m):k<m:=by
 unfold H4 at h;exact D7.1 (Hg.1 h).1
def wC{f:Nat->Bool}{b:Nat}(h:∀i,b<=i->f i=A3):∀(m:Nat),b<=m->H4 f m=H4 f b
 | 0,hm=>by rw[show b=0 by omega]
 | m+1,hm=>by
  by_cases e:b=m+1
  .rw[e]
  .rw[mQ,h m J,A6,C1,wC h m J]
abbrev BW(l:List Nat):List Int:=l.map λi:Nat=>(i:Int)
def uw{b r:Int}(hb:0<=b):∀(ws:List Int) (acc d:Int),0<=d->d+ws.length<=b+1->0<=Lu (Kj b r ws acc d)/\Lu (Kj b r ws acc d)<=b
 | [],_,_,_,_=>by
  show 0<=b/\b<=b;omega
 | w::ws,acc,d,h0,h1=>by
  rw[Bt]at h1;unfold Kj;split
  .show 0<=d/\d<=b;omega
  .exact uw hb ws _ _ J J
def vn{b n:Int}(h:DU b n=A1):0<=Ft b n/\Ft b n<=b:=by
 unfold Ft;rw[A8 h];unfold DU at h;rw[AI]at h;have h1:=Ae.1 h.1;split
 .omega
 .refine uw J _ _ _ J ?_;have h3:b=1\/b=2\/b=3\/b=4\/b=5\/b=6:=J
  obtain rfl|rfl|rfl|rfl|rfl|rfl:=h3<;>exact Ja _
def Bh(b n:Int):List Nat:=
 if DU b n then(if A0 (n<b) then [n.toNat] else H4 (JT b.toNat (Ft b n).toNat (λ_=>A3)<|rnd<|7 * n+1) b.toNat) else []
def Lg{b n:Int}{k:Nat}(h:k∈Bh b n):(k:Int)<b:=by
 unfold Bh at h;split at h
 .rename_i h0;unfold DU at h0;rw[AI]at h0;have h1:=Ae.1 h0.1;have h2:=Ae.1 h0.2;split at h
  .rename_i h3;have:=BP h3;have:=DG.1 h;omega
  .have:=apK h;omega
 .cases h
def ZO(b n:Int):(Bh b n).length<=6:=by
 unfold Bh;split
 .rename_i h0;unfold DU at h0;rw[AI]at h0;have h1:=Ae.1 h0.1;split
  .simp
  .exact C7 (Vs _ _) J
 .simp
section
variable {bn:Nat} (hb:0<bn) (h6:bn<=6) {u:List Bool} {f:Nat->Bool} (hu:Rep u f) (hl:bn<=u.length)
include hb h6 hu hl
def yq(x n:Int):∀(k a:Nat),a<bn->f ((a+k) % bn)=A3->
  XN ((bn:Int),u,x,n,(a:Int),())=I (.inr ((bn:Int),u,x,n,((Eh bn f k a:Nat):Int),()))
 | 0,a,ha,e=>by
  rw[HN,OM ha]at e;refine BT ?_;unfold Tq;simp only[rdB,hu a,e,AX<|show a<u.length by omega,A5,A6];rfl
 | k+1,a,ha,e=>by
  unfold XN at *;unfold Eh;rcases tf (f a) with e1|e1
  .rw[e1,A8 rfl];refine B4 ?_ (yq x n k ((a+1) % bn) (P9 _ hb) (by rw[jV];exact e));unfold Tq;simp only[rdB,hu a,e1,AX<|show a<u.length by omega,A5,show A0 ((bn:Int)=0)=A3 from BV J,AE];rw[AY J J];rfl
  .rw[e1,A6];refine BT ?_;unfold Tq;simp only[rdB,hu a,e1,AX<|show a<u.length by omega,A5,A6]
def sw(o:List Int)(x n:Int):∀(k a:Nat),a<bn->f ((a+k) % bn)=A3->
  ba ((bn:Int),o,u,x,n,(a:Int),())=I (.inr ((bn:Int),o,u,x,n,((Eh bn f k a:Nat):Int),()))
 | 0,a,ha,e=>by
  rw[HN,OM ha]at e;refine BT ?_;unfold Th;simp only[rdB,hu a,e,AX<|show a<u.length by omega,A5,A6];rfl
 | k+1,a,ha,e=>by
  unfold ba at *;unfold Eh;rcases tf (f a) with e1|e1
  .rw[e1,A8 rfl];refine B4 ?_ (sw o x n k ((a+1) % bn) (P9 _ hb) (by rw[jV];exact e));unfold Th;simp only[rdB,hu a,e1,AX<|show a<u.length by omega,A5,show A0 ((bn:Int)=0)=A3 from BV J,AE];rw[AY J J];rfl
  .rw[e1,A6];refine BT ?_;unfold Th;simp only[rdB,hu a,e1,AX<|show a<u.length by omega,A5,A6]
end
section
variable {bn:Nat} (hb:0<bn) (h6:bn<=6)
include hb h6
def abH(x:Int):∃a:Nat,B5 (w64<|Ay (rnd x) 16) (bn:Int)=(a:Int)/\(B5 (Ay (rnd x) 16) (bn:Int)).toNat=a/\a<bn:=by
 have h:=V5 x;have hd:Ay (rnd x) 16=rnd x / 16:=G5 h.1;rw[hd,AY J J,KE J];have h1:=Int.emod_lt_of_pos (rnd x / 16) (show(0:Int)<bn by omega);have h2:=Int.emod_nonneg (rnd x / 16) (show(bn:Int)≠0 by omega);exact⟨(rnd x / 16 % (bn:Int)).toNat,J,rfl,J⟩
def qu:∀(n:Nat) (u:List Bool) (f:Nat->Bool) (x:Int),Rep u f->bn<=u.length->cnt f bn+n<=bn->
  ∃u',iR ((bn:Int),u,x,(n:Int),())=I (.inr (u',()))/\Rep u' (JT bn n f x)/\u'.length=u.length
 | 0,u,f,x,hu,_,_=>by
  refine⟨u,BT ?_,hu,rfl⟩;rfl
 | n+1,u,f,x,hu,hl,hc=>by
  obtain⟨a,ea,eb,ha⟩:=abH hb h6 x;obtain⟨j,hj,ej⟩:=pj (f:=f) bn J;obtain⟨k,hk,ek⟩:=aAo ha hj;have es:=yq hb h6 hu hl (rnd x) ((n+1:Nat):Int) k a ha (by rw[ek];exact ej);have em:=mb (f:=f) k a bn ha (by rw[ek];exact ej) hk;have hs:Eh bn f k a<bn:=S6 k a ha;obtain⟨u',h1,h2,h3⟩:=qu n (u.set (Eh bn f k a) A1) (IK f<|Eh bn f k a) (rnd x) (hu.set J) (by rw[FK];exact hl)
   (by have:=(n8 (f:=f) (a:=Eh bn f k a) bn).2;omega)
  refine⟨u',B4 ?_ h1, ?_,by rw[h3,FK]⟩
  .unfold fH;simp only[lX,A9,show A0 ((0:Int)<((n+1:Nat):Int))=A1 from AT J,A5,show A0 ((bn:Int)=0)=A3 from BV J,AE,ea,es];simp only[AS,A9,AX<|show Eh bn f k a<u.length by omega,A5,Bw];rw[AY J J,show((n+1:Nat):Int) - 1=(n:Int) by omega]
  .rw[JT,eb,em];exact h2
def zZ(o:List Int):∀(n:Nat) (u:List Bool) (f:Nat->Bool) (x:Int),Rep u f->bn<=u.length->cnt f bn+n<=bn->
  ∃u',gZ ((bn:Int),o,u,x,(n:Int),())=I (.inr ((bn:Int),o,u',()))/\Rep u' (JT bn n f x)/\u'.length=u.length
 | 0,u,f,x,hu,_,_=>by
  refine⟨u,BT ?_,hu,rfl⟩;rfl
 | n+1,u,f,x,hu,hl,hc=>by
  obtain⟨a,ea,eb,ha⟩:=abH hb h6 x;obtain⟨j,hj,ej⟩:=pj (f:=f) bn J;obtain⟨k,hk,ek⟩:=aAo ha hj;have es:=sw hb h6 hu hl o (rnd x) ((n+1:Nat):Int) k a ha (by rw[ek];exact ej);have em:=mb (f:=f) k a bn ha (by rw[ek];exact ej) hk;have hs:Eh bn f k a<bn:=S6 k a ha;obtain⟨u',h1,h2,h3⟩:=zZ o n (u.set (Eh bn f k a) A1) (IK f<|Eh bn f k a) (rnd x) (hu.set J) (by rw[FK];exact hl)
   (by have:=(n8 (f:=f) (a:=Eh bn f k a) bn).2;omega)
  refine⟨u',B4 ?_ h1, ?_,by rw[h3,FK]⟩
  .unfold ow;simp only[kg,A9,show A0 ((0:Int)<((n+1:Nat):Int))=A1 from AT J,A5,show A0 ((bn:Int)=0)=A3 from BV J,AE,ea,es];simp only[AS,A9,AX<|show Eh bn f k a<u.length by omega,A5,Bw];rw[AY J J,show((n+1:Nat):Int) - 1=(n:Int) by omega]
  .rw[JT,eb,em];exact h2
end
def awb{u:List Bool}{f:Nat->Bool}(hu:Rep u f)(hl:u.length=6):jW ([],u,0,())=I (.inr (BW<|H4 f 6,())):=by
 refine Ca (λi=>(BW<|H4 f i,u,(i:Int),())) 6 ?_ rfl;intro i hi;unfold kI;simp only[rdB,hu i,AX (show i<u.length by omega),AX hi,M4,A5,show A0 ((i:Int)<6)=A1 from AT J];rw[AY (n:=(i:Int)+1) J J,mQ];have:=Vs f i;rcases tf (f i) with e|e
 .simp only[e,A5];rw[A8<|B7 (by simp;omega)];simp[BW]
 .simp only[e,A6,C1];rfl
def ap8{bn:Nat}(h6:bn<=6){u:List Bool}{f:Nat->Bool}(hu:Rep u f)(hl:u.length=bn):kJ ((bn:Int),[],u,0,())=I (.inr (BW<|H4 f bn,())):=by
 refine Ca (λi=>((bn:Int),BW<|H4 f i,u,(i:Int),())) bn ?_ ?_
 .intro i hi;unfold YH;simp only[rdB,hu i,AX (show i<u.length by omega),A5,show A0 ((i:Int)<(bn:Int))=A1 from AT J];rw[AY (n:=(i:Int)+1) J J,mQ];have:=Vs f i;rcases tf (f i) with e|e
  .simp only[e,A5];rw[A8<|B7 (by simp;omega)];simp[BW]
  .simp only[e,A6,C1];rfl
 .unfold YH;simp only[show A0 ((bn:Int)<(bn:Int))=A3 from BV J,A6]
def oC(b n:Int):US (b,n,())=I ((BW<|Bh b n,()),()):=by
 unfold US Bh;rw[qL];simp only[A9];rcases tf (DU b n) with e|e
 .have e2:=e;unfold DU at e2;rw[AI]at e2;have h1:=Ae.1 e2.1;have h2:=Ae.1 e2.2;simp only[e,AB,A6,A5];rcases tf (A0<|n<b) with e3|e3
  .simp only[e3,A5];rw[show BW [n.toNat]=[n] from by simp[BW];omega]
  .have hd:=vn e;simp only[e3,A6,lX,azc,A9];rw[AY (n:=7 * n) J J,AY (n:=7 * n+1) J J];obtain⟨u,g1,g2,g3⟩:=qu (bn:=b.toNat) J J (Ft b n).toNat (BX 6 A3) (λ_=>A3) (rnd<|7 * n+1) (Rep.new 6) (by simp;omega) (by rw[lb];omega);rw[show((b.toNat:Nat):Int)=b by omega,show(((Ft b n).toNat:Nat):Int)=Ft b n by omega]at g1;rw[show(dfl .bool:Bool)=A3 from rfl,g1];simp only[AS,A9];rw[awb g2 (by rw[g3];rfl),wC (b:=b.toNat) (abv J _ _ _ λ_ _=>rfl) 6 J];simp only[A9];rw[aes (by have:=Vs (JT b.toNat (Ft b n).toNat (λ_=>A3)<|rnd<|7 * n+1) b.toNat;simp;omega)];rfl
 .simp only[e,AE,A5,A6];rfl
def vY(b n:Int):SA (b,n,())=I ((BW<|Bh b n,()),()):=by
 unfold SA Bh;rw[Zt];simp only[A9];rcases tf (DU b n) with e|e
 .have e2:=e;unfold DU at e2;rw[AI]at e2;have h1:=Ae.1 e2.1;have h2:=Ae.1 e2.2;simp only[e,AB,A6,A5];rcases tf (A0<|n<b) with e3|e3
  .simp only[e3,A5];rw[show BW [n.toNat]=[n] from by simp[BW];omega];rfl
  .have hd:=vn e;simp only[e3,A6,kg,arV,A9];rw[A8 (by simp;omega)];rw[AY (n:=n * 7) J J,AY (n:=n * 7+1) J J,QZ n 7];obtain⟨u,g1,g2,g3⟩:=zZ (bn:=b.toNat) J J [] (Ft b n).toNat (BX b.toNat A3) (λ_=>A3) (rnd<|7 * n+1) (Rep.new _) (by simp) (by rw[lb];omega);rw[show((b.toNat:Nat):Int)=b by omega,show(((Ft b n).toNat:Nat):Int)=Ft b n by omega]at g1;rw[show(dfl .bool:Bool)=A3 from rfl,g1];simp only[AS,A9];have g4:=ap8 (bn:=b.toNat) J g2 (by rw[g3];simp);rw[show((b.toNat:Nat):Int)=b by omega]at g4;rw[g4];rfl
 .simp only[e,AE,A5,A6];rfl
end Go.VS
namespace Go.VS
open Go
abbrev bI(l:List UInt8):List Int:=l.map λb=>(b.toNat:Int)
def Sp(s:A4):BB s=bI (L s):=rfl
def Tn(l:List UInt8):BA (bI l)=B l:=by
 unfold BA bI B;rw[HY];congr 2;rw[GM (g:=id) (by intro b _;simp),S1]
def abr(a b:UInt8):DY .u8 (a.toNat:Int) (b.toNat:Int)=((a ^^^ b).toNat:Int):=by
 have h1:∀c:UInt8,Ez (IntKind.bits .u8) (c.toNat:Int)=c.toBitVec:=by
  intro c;apply jU;rw[RG];have:=c.toNat_lt;show((c.toNat:Int) % (2 ^ 8:Nat)).toNat=c.toBitVec.toNat;rw[gS J J];rfl
 unfold DY;rw[h1 a,h1 b];have:=(a ^^^ b).toNat_lt;show WC .u8 (((a ^^^ b).toNat:Nat):Int)=_;have h3:∀n:Int,WC .u8 n=n % 256:=N9;rw[h3];omega
def atB{l:List UInt8}(h:l.length=4):∃a b c d,l=[a,b,c,d]:=by
 obtain _|⟨a,_|⟨b,_|⟨c,_|⟨d,_|⟨e,l⟩⟩⟩⟩⟩:=l
 all_goals simp at h
 exact⟨a,b,c,d,rfl⟩
def sz4{s:A4}(h:s.size=4):∃a b c d,s=B [a,b,c,d]:=by
 obtain⟨a,b,c,d,e⟩:=atB (l:=L s) h;exact⟨a,b,c,d,by rw[← e,B_L]⟩
def wJ{a b:A4}(ha:a.size=4)(hb:b.size=4):U2 (a,b,())=I ((B<|Bv (L a)<|L b,()),()):=by
 obtain⟨a0,a1,a2,a3,rfl⟩:=sz4 ha;obtain⟨b0,b1,b2,b3,rfl⟩:=sz4 hb;unfold U2;rw[A8<|by rfl];have h:pM (B [b0,b1,b2,b3],BB<|B [a0,a1,a2,a3],((BB<|B [a0,a1,a2,a3]).length:Int),0,())=
   I (.inr ([DY .u8 (a0.toNat:Int) (b0.toNat:Int),DY .u8 (a1.toNat:Int) (b1.toNat:Int),DY .u8 (a2.toNat:Int) (b2.toNat:Int),DY .u8 (a3.toNat:Int) (b3.toNat:Int)],())):=
  B4 rfl (B4 rfl (B4 rfl (B4 rfl (BT rfl))))
 rw[h];simp only[abr,AS,A9];exact congrArg (λz=>I ((z,()),()))<|Tn [a0 ^^^ b0,a1 ^^^ b1,a2 ^^^ b2,a3 ^^^ b3]
def vI{a b:A4}(ha:a.size=4)(hb:b.size=4):TI (a,b,())=I ((B<|Bv (L a)<|L b,()),()):=by
 obtain⟨a0,a1,a2,a3,rfl⟩:=sz4 ha;obtain⟨b0,b1,b2,b3,rfl⟩:=sz4 hb;unfold TI;have h:pn (B [a0,a1,a2,a3],B [b0,b1,b2,b3],[],0,())=
   I (.inr ([DY .u8 (a0.toNat:Int) (b0.toNat:Int),DY .u8 (a1.toNat:Int) (b1.toNat:Int),DY .u8 (a2.toNat:Int) (b2.toNat:Int),DY .u8 (a3.toNat:Int) (b3.toNat:Int)],())):=
  B4 rfl (B4 rfl (B4 rfl (B4 rfl (BT rfl))))
 rw[h];simp only[abr,AS,A9];exact congrArg (λz=>I ((z,()),()))<|Tn [a0 ^^^ b0,a1 ^^^ b1,a2 ^^^ b2,a3 ^^^ b3]
def ZR{n:Int}(h0:0<=n)(h1:n<=1000):LI (n,())=I ((Ay (n+3) 4,()),()):=by
 unfold LI;simp only;rw[AY (n:=n+4) J J,AY (n:=n+4 - 1) J J,show n+4 - 1=n+3 by omega];rw[G5 J,AY J J]
def aqn:jM ()=I ((B<|nul 4,()),()):=rfl
def Ff(t:List UInt8)(i:Nat):List UInt8:=(BO 4).map λj=>t.getD (4 * i+j) 0
def Tb(t:List UInt8)(i:Nat):(Ff t i).length=4:=by simp[Ff]
def Cy(t:A4):List A4:=if inB t.size 1 24 then(BO<|(t.size+3) / 4).map λi=>B (Ff (L t) i) else []
def atn(l:List UInt8):BH (BX (AK 4)<|dfl .u8).length (bI l)++Bp (bI l).length (BX (AK 4)<|dfl .u8)=bI ((BO 4).map λj=>l.getD j 0):=by
 obtain _|⟨a,_|⟨b,_|⟨c,_|⟨d,l⟩⟩⟩⟩:=l
 .rfl
 .rfl
 .rfl
 .rfl
 .rw[KH<|by simp,C1];rfl
def avf(l:List UInt8)(k:Nat):(BO 4).map (λj=>(l.drop k).getD j 0)=(BO 4).map λj=>l.getD (k+j) 0:=by
 refine GM ?_;intro j _;rw[BG,BG,HW]
def aor(s:A4)(k:Nat):L (s.extract k s.size)=(L s).drop k:=by
 rw[Ds,K8];rw[Dc,Av];exact Ar _
def aq0(t:A4):dG (t,())=I ((Cy t,()),()):=by
 unfold dG Cy;simp only[ED,A9];rcases tf (inB t.size 1 24) with e|e
 .have h1:=Ae.1 e;simp only[e,AB,A6,A5];have h:jt (t,[],0,())=I (.inr ((BO<|(t.size+3) / 4).map λi=>B<|Ff (L t) i,())):=by
   refine Ca (λi=>(t,(BO i).map λi=>B<|Ff (L t) i,((4 * i:Nat):Int),())) ((t.size+3) / 4) ?_ ?_
   .intro i hi;unfold dj;simp only[show A0 (((4 * i:Nat):Int)<(t.size:Int))=A1 from AT J,A5];rw[A8<|by rfl,A8 (by simp;omega),A8<|B7 (by simp;omega)];rw[Bw,Sp,aor,atn,Tn,avf,AY J J,Kw (n:=i),F1];rw[show((4 * i:Nat):Int)+4=((4 * (i+1):Nat):Int) by omega];rfl
   .unfold dj;simp only[show A0 (((4 * ((t.size+3) / 4):Nat):Int)<(t.size:Int))=A3 from BV J,A6]
  rw[h];simp only[AS,A9];rw[pW (by simp;omega)];rfl
 .simp only[e,AE,A5,A6]
def alo(t:A4)(o:List A4)(i:Nat)(hi:i<=100):
  mO (t,o,(i:Int),[],w64<|(i:Int) * 4,())=I (.inr (t,o,(i:Int),bI<|Ff (L t) i,())):=by
 rw[AY J J,show(i:Int) * 4=((4 * i+0:Nat):Int) by omega];refine Ca (λj=>(t,o,(i:Int),bI<|(BO j).map λm=>(L t).getD (4 * i+m) 0,((4 * i+j:Nat):Int),())) 4 ?_ ?_
 .intro j hj;unfold Yh;simp only;rw[AY (n:=(i:Int)+1) J J,AY (n:=((i:Int)+1) * 4) J J];rw[A8<|AT J,AY (n:=((4 * i+j:Nat):Int)+1) J J];rw[Kw,F1];by_cases h:4 * i+j<t.size
  .rw[A8<|AT J,A8<|AX h,A8<|B7 (by simp;omega),KV];simp only[F1,DI,JV];rfl
  .rw[AD (by simp;omega),A8<|B7 (by simp;omega)];have:(L t).getD (4 * i+j) 0=0:=by
    rw[BG,I0 (by rw[Av];omega)];rfl
   simp only[F1,DI,JV,this];rfl
 .unfold Yh;simp only;rw[AY (n:=(i:Int)+1) J J,AY (n:=((i:Int)+1) * 4) J J];rw[AD (by simp;omega)];rfl
def ajC(t:A4):Xg (t,())=I ((Cy t,()),()):=by
 unfold Xg Cy;rcases tf (inB t.size 1 24) with e|e
 .have h1:=Ae.1 e;rw[AD (by simp;omega),A8 e];have h:gW (t,[],0,())=I (.inr ((BO<|(t.size+3) / 4).map λi=>B<|Ff (L t) i,())):=by
   refine Ca (λi=>(t,(BO i).map λi=>B<|Ff (L t) i,(i:Int),())) ((t.size+3) / 4) ?_ ?_
   .intro i hi;unfold cb;simp only[ZR (n:=(t.size:Int)) J J,A9];rw[G5 J,A8<|AT J,alo t _ i J];simp only[AS,A9];rw[A8<|B7 (by simp;omega),Tn,AY J J,Kw,F1];rfl
   .unfold cb;simp only[ZR (n:=(t.size:Int)) J J,A9];rw[G5 J,AD<|by simp]
  rw[h];rfl
 .rw[A8,AD (by rw[e];exact CV)];by_cases h:(1:Int)<=t.size/\(t.size:Int)<=24
  .rw[Ae.2 h]at e;cases e
  .simp;omega
abbrev bsA(l:List A4)(k:Nat):A4:=l.getD k noB
def PM(l:List A4)(k:Nat): @rd A4 (dfl .str) l (k:Int)=bsA l k:=rfl
def Pb(pre:List Nat)(k:Nat)(post:List Nat): @rd Int (dfl .int) (BW<|pre++k::post) (pre.length:Int)=(k:Int):=by
 rw[Oz,BW,F1,DI,BG,Ek<|by simp];simp
def snoc{α:Type}(pre:List α)(k:α)(post:List α):pre++k::post=(pre++[k])++post:=by simp
def DV{n m:Nat}(h:n<m)(hm:m<=1048576):w64 ((n:Int)+1)=((n+1:Nat):Int):=BL h J
section
variable {bs:List A4} (hbs:∀k,k<bs.length->(bsA bs k).size=4)
include hbs
def ahL(post:List Nat):∀(pre:List Nat) (y:A4),pre≠[]->y.size=4->(pre++post).length<=1048576->(∀k∈post,k<bs.length)->
  SX (bs,y,BW<|pre++post,((BW<|pre++post).length:Int),(pre.length:Int),())=I (.inr (B<|post.foldl (λx k=>Bv x<|L<|bsA bs k)<|L y,())):=by
 induction post with
 | nil=>
  intro pre y _ _ _ _;refine BT ?_;unfold TS;simp only[C1,EG,show A0 ((pre.length:Int)<(pre.length:Int))=A3 from BV J,A6,Mk,B_L]
 | cons k post ih=>
  intro pre y hp hy hl hk;have h1:=hk k An;have hne:pre.length≠0:=λh=>hp<|E9 h;have hlen:pre.length<(BW<|pre++k::post).length:=by simp
  refine B4 (x':=(bs,B<|Bv (L y)<|L<|bsA bs k,BW<|pre++k::post,((BW<|pre++k::post).length:Int),((pre++[k]).length:Int),())) ?_ ?_
  .unfold TS;simp only[show A0 ((pre.length:Int)<((BW<|pre++k::post).length:Int))=A1 from AT J,A5,AX hlen,Pb,show A0 ((pre.length:Int)=0)=A3 from BV J,A6,AX h1,PM,wJ hy<|hbs k h1,A9];rw[DV hlen<|by simpa using hl,Ap];rfl
  .have:=ih (pre++[k]) (B<|Bv (L y)<|L<|bsA bs k) (by simp) (by rw[BK,Pv<|by rw[Av,Av,hy,hbs k h1],Av,hy]) (by rw[← snoc];exact hl) λx hx=>hk x<|Aj k hx;rw[← snoc]at this;exact this
def ahQ(post:List Nat):∀(pre:List Nat) (y:A4),y.size=4->(pre++post).length<=1048576->(∀k∈post,k<bs.length)->
  X5 (bs,BW<|pre++post,y,(pre.length:Int),())=I (.inr (B<|post.foldl (λx k=>Bv x<|L<|bsA bs k)<|L y,())):=by
 induction post with
 | nil=>
  intro pre y _ _ _;refine BT ?_;unfold ZL;simp only[C1,EG,show A0 ((pre.length:Int)<(pre.length:Int))=A3 from BV J,A6,Mk,B_L]
 | cons k post ih=>
  intro pre y hy hl hk;have h1:=hk k An;have hlen:pre.length<(BW<|pre++k::post).length:=by simp
  refine B4 (x':=(bs,BW<|pre++k::post,B<|Bv (L y)<|L<|bsA bs k,((pre++[k]).length:Int),())) ?_ ?_
  .unfold ZL;simp only[show A0 ((pre.length:Int)<((BW<|pre++k::post).length:Int))=A1 from AT J,A5,AX hlen,Pb,AX h1,PM,vI hy<|hbs k h1,A9];rw[DV hlen<|by simpa using hl,Ap];rfl
  .have:=ih (pre++[k]) (B<|Bv (L y)<|L<|bsA bs k) (by rw[BK,Pv<|by rw[Av,Av,hy,hbs k h1],Av,hy]) (by rw[← snoc];exact hl) λx hx=>hk x<|Aj k hx;rw[← snoc]at this;exact this
end
def Wf{t:A4}{k:Nat}(h:k<(Cy t).length):bsA (Cy t) k=B (Ff (L t) k):=by
 unfold Cy at h ⊢;split
 .rename_i e;rw[A8 e]at h;simp at h;rw[bsA,BG,D5,Gg h];rfl
 .rename_i e;rw[AD e]at h;cases h
def IY(t:A4)(n:Int):A4:=
 if(Bh (Cy t).length n).isEmpty then noB else B (DX 4 (Ff<|L t)<|Bh (Cy t).length n)
def aAz{t:A4}{n:Int}{y:List UInt8}{ks:List Nat}(hy:y.length=4)(hk:∀k∈ks,k<(Cy t).length):
  ks.foldl (λx k=>Bv x<|L<|bsA (Cy t) k) y=Bv y (DX 4 (Ff<|L t) ks):=by
 rw[← kU hy];have:∀(ks:List Nat) (y:List UInt8),(∀k∈ks,k<(Cy t).length)->ks.foldl (λx k=>Bv x<|L<|bsA (Cy t) k) y=ks.foldl (λx k=>Bv x<|Ff (L t) k) y:=by
  intro ks
  induction ks with
  | nil=>intro _ _;rfl
  | cons k ks ih=>
   intro y h;rw[E6,E6,Wf (h k An),ih _ λx hx=>h x<|Aj k hx];rfl
 exact this ks y hk
def Ze{t:A4}:∀k,k<(Cy t).length->(bsA (Cy t) k).size=4:=by
 intro k h;rw[Wf h,BK,Tb]
def amm(t:A4)(n:Int):W4 (t,n,())=I ((IY t n,()),()):=by
 unfold W4 IY;simp only[aq0,oC,A9];have hk:∀k∈Bh (Cy t).length n,k<(Cy t).length:=λk h=>by
  have:=Lg h;omega
 have hl:=ZO (Cy t).length n;revert hk hl;generalize Bh (Cy t).length n=ks;intro hk hl;cases ks with
 | nil=>
  rw[show SX (Cy t,noB,BW [],((BW []).length:Int),0,())=I (.inr (noB,())) from BT rfl];rfl
 | cons k ks=>
  have h1:=hk k An;rw[AD<|by simp];have hlen:0<(BW<|k::ks).length:=by simp
  have hrd: @rd Int (dfl .int) (BW<|k::ks) 0=(k:Int):=Pb [] k ks;have h:SX (Cy t,noB,BW<|k::ks,((BW<|k::ks).length:Int),0,())=I (.inr (B<|DX 4 (Ff<|L t)<|k::ks,())):=by
   refine B4 (x':=(Cy t,bsA (Cy t) k,BW<|[k]++ks,((BW<|[k]++ks).length:Int),(([k]:List Nat).length:Int),())) ?_ ?_
   .unfold TS;simp only[show A0 ((0:Int)<((BW<|k::ks).length:Int))=A1 from AT J,A5,AX (i:=0) hlen,show inb 0 (BW<|k::ks).length=A1 from AX (i:=0) hlen,hrd,show A0 ((0:Int)=0)=A1 from rfl,AX h1,PM];rfl
   .have:=ahL Ze ks [k] (bsA (Cy t) k) (by simp) (Ze k h1) (by simpa using (by simp at hl;omega:ks.length+1<=1048576)) λx hx=>hk x<|Aj k hx;rw[aAz (n:=n) (by rw[Av];exact Ze k h1) λx hx=>hk x<|Aj k hx,Wf h1]at this;rw[Wf h1];exact this
  rw[h];rfl
def aqT(t:A4)(n:Int):W3 (t,n,())=I ((IY t n,()),()):=by
 unfold W3 IY;simp only[ajC,vY,A9];have hk:∀k∈Bh (Cy t).length n,k<(Cy t).length:=λk h=>by
  have:=Lg h;omega
 have hl:=ZO (Cy t).length n;revert hk hl;generalize Bh (Cy t).length n=ks;intro hk hl;cases ks with
 | nil=>rw[A8<|by simp,A8<|by simp]
 | cons k ks=>
  have h1:=hk k An;have hc:(Cy t).length≠0:=J
  rw[AD (by simp;exact⟨λh=>hc (by rw[h];rfl),J⟩),AD<|by simp,aqn];simp only[A9];have:=ahQ (bs:=Cy t) Ze (k::ks) [] (B<|nul 4) (by rfl) (by simpa using (by simp at hl;omega:ks.length+1<=1048576)) hk;rw[aAz (n:=n) (by rfl) hk]at this;rw[show X5 (Cy t,BW<|k::ks,B<|nul 4,0,())=_ from this];simp only[AS,A9];rw[L_B,cR<|Qj λx _=>Tb _ x]
end Go.VS
namespace Go.VS
open Go
def unk(kn:List A4)(k:Nat):Bool:=A0<|bsA kn k=noB
def D1(kn:List A4)(of:List Nat):List Nat:=of.filter<|unk kn
def E7(kn:List A4)(of:List Nat)(y:List UInt8):List UInt8:=of.foldl (λx k=>if unk kn k then x else Bv x (L<|bsA kn k)) y
def CU(b:Nat)(kn:List A4):Prop:=kn.length=b/\ ∀k,k<b->bsA kn k=noB\/(bsA kn k).size=4
def gA{b:Nat}{kn:List A4}(h:CU b kn):∀ {of:List Nat} {y:List UInt8},y.length=4->(∀k∈of,k<b)->(E7 kn of y).length=4
 | [],_,hy,_=>hy
 | k::of,y,hy,hk=>by
  unfold E7;rw[E6];refine gA (of:=of) h ?_ λx hx=>hk x<|Aj k hx;rcases tf (unk kn k) with e|e
  .rw[e];exact hy
  .rw[e,A6];rcases h.2 k (hk k An) with h1|h1
   .unfold unk at e;exact absurd h1 (GI e)
   .rw[Pv<|by rw[hy,Av,h1],hy]
def wB(d:Int)(l:List Nat):Int:=l.foldl (fun(_:Int) (k:Nat)=>(k:Int)) d
section
variable {b:Nat} {kn:List A4} (hkn:CU b kn)
include hkn
def aua(bi:Int)(list l2:List AQ)(ag:Bool)(n i:Int)(post:List Nat):∀(pre:List Nat) (y:A4) (u:Int) (m:Nat),y.size=4->(pre++post).length<=1048576->m<=pre.length->(∀k∈post,k<b)->
  dk (bi,list,kn,ag,y,u,(m:Int),l2,n,i,BW<|pre++post,((BW<|pre++post).length:Int),(pre.length:Int),())=
   I (.inr (bi,list,kn,ag,B<|E7 kn post<|L y,wB u<|D1 kn post,((m+(D1 kn post).length:Nat):Int),l2,n,i,())):=by
 induction post with
 | nil=>
  intro pre y u m _ _ _ _;refine BT ?_;unfold TJ;simp only[C1,EG,show A0 ((pre.length:Int)<(pre.length:Int))=A3 from BV J,A6];show _=I (Sum.inr<|Sum.inr (bi,list,kn,ag,B<|L y,u,(m:Int),l2,n,i,()));rw[B_L]
 | cons k post ih=>
  intro pre y u m hy hl hm hk;have h1:=hk k An;have hlen:pre.length<(BW<|pre++k::post).length:=by simp
  have hb:k<kn.length:=by rw[hkn.1];exact h1
  have hl2:(pre++[k]++post).length<=1048576:=by rw[← snoc];exact hl
  rcases tf (unk kn k) with e|e
  .refine B4 (x':=(bi,list,kn,ag,y,(k:Int),((m+1:Nat):Int),l2,n,i,BW<|pre++k::post,((BW<|pre++k::post).length:Int),((pre++[k]).length:Int),())) ?_ ?_
   .unfold TJ;simp only[show A0 ((pre.length:Int)<((BW<|pre++k::post).length:Int))=A1 from AT J,A5,AX hlen,Pb,AX hb,PM];rw[A8<|show A0 (bsA kn k=noB)=A1 from e,DV hlen<|by simpa using hl,Ap,AY (n:=(m:Int)+1) J (by simp at hl;omega)];rfl
   .have:=ih (pre++[k]) y (k:Int) (m+1) hy hl2 (by simp;omega) λx hx=>hk x<|Aj k hx;rw[← snoc]at this;rw[show D1 kn (k::post)=k::D1 kn post by unfold D1;rw[J7,e,A8 rfl]];rw[show E7 kn (k::post) (L y)=E7 kn post (L y) by unfold E7;rw[E6,e,A8 rfl]];rw[Bt,show m+((D1 kn post).length+1)=m+1+(D1 kn post).length by omega];exact this
  .have hs:(bsA kn k).size=4:=by
    rcases hkn.2 k h1 with h2|h2
    .exact absurd h2 (GI e)
    .exact h2
   refine B4 (x':=(bi,list,kn,ag,B<|Bv (L y)<|L<|bsA kn k,u,(m:Int),l2,n,i,BW<|pre++k::post,((BW<|pre++k::post).length:Int),((pre++[k]).length:Int),())) ?_ ?_
   .unfold TJ;simp only[show A0 ((pre.length:Int)<((BW<|pre++k::post).length:Int))=A1 from AT J,A5,AX hlen,Pb,AX hb,PM];rw[AD (by intro h;unfold unk at e;rw[h]at e;cases e),wJ hy hs,DV hlen (by simpa using hl),Ap];rfl
   .have:=ih (pre++[k]) (B<|Bv (L y)<|L<|bsA kn k) u m (by rw[BK,Pv<|by rw[Av,Av,hy,hs],Av,hy]) hl2 (by simp;omega) λx hx=>hk x<|Aj k hx;rw[← snoc]at this;rw[show D1 kn (k::post)=D1 kn post by unfold D1;rw[J7,e,A6]];rw[show E7 kn (k::post) (L y)=E7 kn post (Bv (L y)<|L<|bsA kn k) by unfold E7;rw[E6,e,A6]];exact this
def axJ(post:List Nat):∀(pre:List Nat) (y:A4) (o:List Nat),y.size=4->(pre++post).length<=1048576->o.length<=pre.length->(∀k∈post,k<b)->
  cV (kn,BW o,y,BW<|pre++post,(pre.length:Int),())=I (.inr (BW<|o++D1 kn post,B<|E7 kn post<|L y,())):=by
 induction post with
 | nil=>
  intro pre y o _ _ _ _;refine BT ?_;unfold V8;simp only[C1,EG,show A0 ((pre.length:Int)<(pre.length:Int))=A3 from BV J,A6];show _=I (Sum.inr<|Sum.inr (BW<|o++[],B<|L y,()));rw[B_L,C1]
 | cons k post ih=>
  intro pre y o hy hl hm hk;have h1:=hk k An;have hlen:pre.length<(BW<|pre++k::post).length:=by simp
  have hb:k<kn.length:=by rw[hkn.1];exact h1
  have hl2:(pre++[k]++post).length<=1048576:=by rw[← snoc];exact hl
  rcases tf (unk kn k) with e|e
  .refine B4 (x':=(kn,BW<|o++[k],y,BW<|pre++k::post,((pre++[k]).length:Int),())) ?_ ?_
   .unfold V8;simp only[show A0 ((pre.length:Int)<((BW<|pre++k::post).length:Int))=A1 from AT J,A5,AX hlen,Pb,AX hb,PM];rw[A8<|show A0 (bsA kn k=noB)=A1 from e,A8<|B7 (by simp;simp at hl;omega),DV hlen<|by simpa using hl,Ap];simp[BW]
   .have:=ih (pre++[k]) y (o++[k]) hy hl2 (by simp;omega) λx hx=>hk x<|Aj k hx;rw[← snoc]at this;rw[show D1 kn (k::post)=k::D1 kn post by unfold D1;rw[J7,e,A8 rfl]];rw[show E7 kn (k::post) (L y)=E7 kn post (L y) by unfold E7;rw[E6,e,A8 rfl]];rw[snoc o k<|D1 kn post];exact this
  .have hs:(bsA kn k).size=4:=by
    rcases hkn.2 k h1 with h2|h2
    .exact absurd h2 (GI e)
    .exact h2
   refine B4 (x':=(kn,BW o,B<|Bv (L y)<|L<|bsA kn k,BW<|pre++k::post,((pre++[k]).length:Int),())) ?_ ?_
   .unfold V8;simp only[show A0 ((pre.length:Int)<((BW<|pre++k::post).length:Int))=A1 from AT J,A5,AX hlen,Pb,AX hb,PM];rw[AD (by intro h;unfold unk at e;rw[h]at e;cases e),vI hy hs,DV hlen (by simpa using hl),Ap];rfl
   .have:=ih (pre++[k]) (B<|Bv (L y)<|L<|bsA kn k) o (by rw[BK,Pv<|by rw[Av,Av,hy,hs],Av,hy]) hl2 (by simp;omega) λx hx=>hk x<|Aj k hx;rw[← snoc]at this;rw[show D1 kn (k::post)=D1 kn post by unfold D1;rw[J7,e,A6]];rw[show E7 kn (k::post) (L y)=E7 kn post (Bv (L y)<|L<|bsA kn k) by unfold E7;rw[E6,e,A6]];exact this
end
def F4(b:Nat)(kn:List A4)(m:AQ):Option (List A4):=
 if inB m.nu 0 999&&A0 ((m.da.size:Int)=4) then
  (match D1 kn (Bh (b:Int) m.nu) with
   | [u]=>I (kn.set u<|B<|E7 kn (Bh (b:Int) m.nu)<|L m.da)
   | _=>U)
 else U
def C9(b:Nat)(s:List A4×Bool)(m:AQ):List A4×Bool:=match F4 b s.1 m with|some kn=>(kn,A1)|none=>s
def IE(b:Nat)(list:List AQ)(kn:List A4):List A4×Bool:=list.foldl (C9 b) (kn,A3)
def Gj(b:Nat)(list:List AQ):Nat->List A4->List A4
 | 0,kn=>kn
 | n+1,kn=>if(IE b list kn).2 then Gj b list n (IE b list kn).1 else(IE b list kn).1
def TX{kn:List A4}{u:Nat}(v:A4)(hu:u<kn.length)(k:Nat):bsA (kn.set u v) k=if k=u then v else bsA kn k:=by
 rw[bsA,BG,To];by_cases h:u=k
 .subst h;simp[hu]
 .rw[AD h,AD<|LA h,← BG]
def xc{f g:Nat->Bool}(h:∀i,g i=A1->f i=A1):∀k,cnt g k<=cnt f k
 | 0=>Ar _
 | k+1=>by
  have:=xc h k;rw[cnt,cnt];rcases tf (g k) with e|e
  .rw[e,h k e];omega
  .rw[e,A6];omega
def aaq{f g:Nat->Bool}(h:∀i,g i=A1->f i=A1){u:Nat}(hf:f u=A1)(hg:g u=A3):∀k,u<k->cnt g k<cnt f k
 | 0,h=>J
 | k+1,hk=>by
  rw[cnt,cnt];by_cases e:u=k
  .subst e;rw[hf,hg,A8 rfl,A6];have:=xc h u;omega
  .have:=aaq h hf hg k J;rcases tf (g k) with e|e
   .rw[e,h k e];omega
   .rw[e,A6];omega
def Tp{b:Nat}{kn kn':List A4}{m:AQ}(h:CU b kn)(e:F4 b kn m=I kn'):
  CU b kn'/\(∀k,unk kn' k=A1->unk kn k=A1)/\cnt (unk kn') b<cnt (unk kn) b:=by
 unfold F4 at e;split at e
 .rename_i hc;rw[AI]at hc;have hs:=BP hc.2;split at e
  .rename_i u hu;injection e with e;subst e;have FG:u∈D1 kn (Bh (b:Int) m.nu):=by rw[hu];exact OK u
   obtain⟨h1,h2⟩:=Hg.1 FG;have h3:=Lg h1;have hub:u<b:=J
   have hul:u<kn.length:=by rw[h.1];exact hub
   have hlen:(B<|E7 kn (Bh (b:Int) m.nu)<|L m.da).size=4:=by
    rw[BK,gA h (by rw[Av];omega) λk hk=>by have:=Lg hk;omega]
   have hno:B (E7 kn (Bh (b:Int) m.nu)<|L m.da)≠noB:=by
    intro hh;rw[hh]at hlen;cases hlen
   have adV:∀k,unk (kn.set u<|B<|E7 kn (Bh (b:Int) m.nu)<|L m.da) k=A1->unk kn k=A1:=by
    intro k hk;unfold unk at hk;rw[TX _ hul]at hk;by_cases ek:k=u
    .rw[A8 ek]at hk;exact absurd (BP hk) hno
    .rw[AD ek]at hk;exact hk
   refine⟨⟨by rw[FK,h.1], ?_⟩,adV,aaq adV h2 ?_ b hub⟩
   .intro k hk;rw[TX _ hul];by_cases ek:k=u
    .rw[A8 ek];exact Nh hlen
    .rw[AD ek];exact h.2 k hk
   .unfold unk;rw[TX _ hul,A8 rfl];exact BV hno
  .cases e
 .cases e
def Lp{b:Nat}:∀(list:List AQ) (s:List A4×Bool),CU b s.1->
  CU b (list.foldl (C9 b) s).1/\(∀k,unk (list.foldl (C9 b) s).1 k=A1->unk s.1 k=A1)/\cnt (unk (list.foldl (C9 b) s).1) b<=cnt (unk s.1) b/\
  ((list.foldl (C9 b) s).2=A1->s.2=A1\/cnt (unk (list.foldl (C9 b) s).1) b<cnt (unk s.1) b)
 | [],s,h=>⟨h,λ_ hk=>hk,Ar _,λhs=>Nv hs⟩
 | m::list,s,h=>by
  rw[E6];cases e:F4 b s.1 m with
  | none=>
   rw[show C9 b s m=s by unfold C9;rw[e]];exact Lp list s h
  | some kn=>
   rw[show C9 b s m=(kn,A1) by unfold C9;rw[e]];obtain⟨a1,a2,a3⟩:=Tp h e;obtain⟨b1,b2,b3,_⟩:=Lp list (kn,A1) a1;have b4:cnt (unk (list.foldl (C9 b) (kn,A1)).1) b<=cnt (unk kn) b:=b3;exact⟨b1,λk hk=>a2 k<|b2 k hk,J,λ_=>Nh J⟩
end Go.VS
namespace Go.VS
open Go
def MW(pre:List AQ)(m:AQ)(post:List AQ): @rd AQ (dfl .mixed) (pre++m::post) (pre.length:Int)=m:=by
 rw[Oz,BG,Ek<|Ar _];simp
def as2(u:Nat):wB (-1) [u]=(u:Int):=rfl
def qw{b:Nat}{kn kn':List A4}{m:AQ}(ag:Bool)(h:F4 b kn m=I kn'):C9 b (kn,ag) m=(kn',A1):=by unfold C9;rw[h]
def T3{b:Nat}{kn:List A4}{m:AQ}(ag:Bool)(h:F4 b kn m=U):C9 b (kn,ag) m=(kn,ag):=by unfold C9;rw[h]
def aAU{b:Nat}{kn:List A4}{n:Int}{u:Nat}(h:D1 kn (Bh (b:Int) n)=[u]):u<b:=by
 have:u∈D1 kn (Bh (b:Int) n):=by rw[h];exact OK u
 have:=Lg (Hg.1 this).1;omega
def alI{b:Nat}(h6:b<=6)(list:List AQ)(post:List AQ):∀(pre:List AQ) (kn:List A4) (ag:Bool),CU b kn->(pre++post).length<=1048576->
  Sa ((b:Int),list,kn,ag,pre++post,((pre++post).length:Int),(pre.length:Int),())=
   I (.inr ((b:Int),list,(post.foldl (C9 b) (kn,ag)).1,(post.foldl (C9 b) (kn,ag)).2,())):=by
 induction post with
 | nil=>
  intro pre kn ag _ _;refine BT ?_;unfold N5;simp only[C1,show A0 ((pre.length:Int)<(pre.length:Int))=A3 from BV J,A6];rfl
 | cons m post ih=>
  intro pre kn ag hk hl;have hlen:pre.length<(pre++m::post).length:=by simp
  have hw:=DV hlen hl;have nxt:∀(kn':List A4) (ag':Bool),CU b kn'->C9 b (kn,ag) m=(kn',ag')->
    N5 ((b:Int),list,kn,ag,pre++m::post,((pre++m::post).length:Int),(pre.length:Int),())=I (.inl ((b:Int),list,kn',ag',pre++m::post,((pre++m::post).length:Int),((pre.length+1:Nat):Int),()))->
    Sa ((b:Int),list,kn,ag,pre++m::post,((pre++m::post).length:Int),(pre.length:Int),())=
     I (.inr ((b:Int),list,((m::post).foldl (C9 b) (kn,ag)).1,((m::post).foldl (C9 b) (kn,ag)).2,())):=by
   intro kn' ag' h1 h2 h3;refine B4 h3 ?_;have:=ih (pre++[m]) kn' ag' h1 (by rw[← snoc];exact hl);rw[← snoc,@Ap _ pre [m]]at this;rw[E6,h2];exact this
  rcases tf (inB m.nu 0 999) with e1|e1
  .by_cases e2:(m.da.size:Int)=4
   .have hh:F4 b kn m=(match D1 kn (Bh (b:Int) m.nu) with|[u]=>I (kn.set u<|B<|E7 kn (Bh (b:Int) m.nu)<|L m.da)|_=>U):=by
     unfold F4;rw[A8<|by rw[e1,AT e2]<;>rfl]<;>rfl
    have hlo:(Bh (b:Int) m.nu).length<=1048576:=C7 (ZO _ _) J;have hi:=aua hk (b:Int) list (pre++m::post) ag ((pre++m::post).length:Int) (pre.length:Int) (Bh (b:Int) m.nu) [] m.da (-1) 0 J hlo (Ar _) λk h=>by have:=Lg h;omega
    have hi2:dk ((b:Int),list,kn,ag,m.da,-1,0,pre++m::post,((pre++m::post).length:Int),(pre.length:Int),BW<|Bh (b:Int) m.nu,((BW<|Bh (b:Int) m.nu).length:Int),0,())=_:=hi;by_cases e3:(D1 kn<|Bh (b:Int) m.nu).length=1
    .obtain⟨u,hu⟩:=ub.1 e3;rw[hu]at hh;have hub:=aAU hu;refine nxt _ A1 (Tp hk hh).1 (qw ag hh) ?_;unfold N5;simp only[show A0 ((pre.length:Int)<((pre++m::post).length:Int))=A1 from AT J,A5,AX hlen,MW,ED,A9,e1,e2,AB,AO,EN,A6,oC,hi2,hu];simp only[AS,A9,as2,AX (show u<kn.length by rw[hk.1];exact hub),A5,Bw,hw];rfl
    .have hn:F4 b kn m=U:=by
      rw[hh];split
      .rename_i u hu;rw[hu]at e3;exact absurd rfl e3
      .rfl
     refine nxt kn ag hk (T3 ag hn) ?_;unfold N5;simp only[show A0 ((pre.length:Int)<((pre++m::post).length:Int))=A1 from AT J,A5,AX hlen,MW,ED,A9,e1,e2,AB,AO,EN,A6,oC,hi2];simp only[AS,A9,DS,show A0 (((D1 kn<|Bh (b:Int) m.nu).length:Int)=1)=A3 from BV J,A6,hw]
   .have hn:F4 b kn m=U:=by
     unfold F4;rw[AD (by rw[BV e2,BZ];exact CV)]
    refine nxt kn ag hk (T3 ag hn) ?_;unfold N5;simp only[show A0 ((pre.length:Int)<((pre++m::post).length:Int))=A1 from AT J,A5,AX hlen,MW,ED,A9,BV e2,AE,DL,hw]
  .have hn:F4 b kn m=U:=by
    unfold F4;rw[AD (by rw[e1,AN];exact CV)]
   refine nxt kn ag hk (T3 ag hn) ?_;unfold N5;simp only[show A0 ((pre.length:Int)<((pre++m::post).length:Int))=A1 from AT J,A5,AX hlen,MW,ED,A9,e1,AE,Bq,hw]
def nj{b:Nat}(h0:0<b)(h6:b<=6)(n:Int):DU (b:Int) n=inB n 0 999:=by
 unfold DU;rw[Ae.2 J,AW]
def aox{b:Nat}{kn:List A4}(hk:CU b kn)(n:Int){d:A4}(hd:d.size=4):
  cC ((b:Int),(n,d,()),kn,())=I ((BW<|D1 kn<|Bh (b:Int) n,B<|E7 kn (Bh (b:Int) n)<|L d,()),()):=by
 unfold cC;simp only[vY,A9];have hlo:(Bh (b:Int) n).length<=1048576:=C7 (ZO _ _) J;have hi:=axJ hk (Bh (b:Int) n) [] d [] hd hlo (Ar _) λk h=>by have:=Lg h;omega
 have hi2:cV (kn,[],d,BW<|Bh (b:Int) n,0,())=_:=hi;rw[hi2];rfl
def eB(b n:Int)(d:A4):RV (b,(n,d,()),())=I ((DU b n&&A0 ((d.size:Int)=4),()),()):=by
 unfold RV;simp only[Zt,A9]
def auW{b:Nat}(h0:0<b)(h6:b<=6)(post:List AQ):∀(pre:List AQ) (kn:List A4) (ag:Bool),CU b kn->(pre++post).length<=1048576->
  VI ((b:Int),pre++post,kn,ag,(pre.length:Int),())=
   I (.inr ((b:Int),pre++post,(post.foldl (C9 b) (kn,ag)).1,(post.foldl (C9 b) (kn,ag)).2,())):=by
 induction post with
 | nil=>
  intro pre kn ag _ _;refine BT ?_;unfold PH;simp only[C1,show A0 ((pre.length:Int)<(pre.length:Int))=A3 from BV J,A6];rfl
 | cons m post ih=>
  intro pre kn ag hk hl;have hlen:pre.length<(pre++m::post).length:=by simp
  have hw:=DV hlen hl;have nxt:∀(kn':List A4) (ag':Bool),CU b kn'->C9 b (kn,ag) m=(kn',ag')->
    PH ((b:Int),pre++m::post,kn,ag,(pre.length:Int),())=I (.inl ((b:Int),pre++m::post,kn',ag',((pre.length+1:Nat):Int),()))->
    VI ((b:Int),pre++m::post,kn,ag,(pre.length:Int),())=
     I (.inr ((b:Int),pre++m::post,((m::post).foldl (C9 b) (kn,ag)).1,((m::post).foldl (C9 b) (kn,ag)).2,())):=by
   intro kn' ag' h1 h2 h3;refine B4 h3 ?_;have:=ih (pre++[m]) kn' ag' h1 (by rw[← snoc];exact hl);rw[← snoc,@Ap _ pre [m]]at this;rw[E6,h2];exact this
  rcases tf (inB m.nu 0 999&&A0 ((m.da.size:Int)=4)) with e|e
  .have e':=e;rw[AI]at e';have e2:=BP e'.2;have hh:F4 b kn m=(match D1 kn (Bh (b:Int) m.nu) with|[u]=>I (kn.set u<|B<|E7 kn (Bh (b:Int) m.nu)<|L m.da)|_=>U):=by
    unfold F4;rw[A8 e]<;>rfl
   have hL:=aox hk m.nu (d:=m.da) J;by_cases e3:(D1 kn<|Bh (b:Int) m.nu).length=1
   .obtain⟨u,hu⟩:=ub.1 e3;rw[hu]at hh;have hub:=aAU hu;refine nxt _ A1 (Tp hk hh).1 (qw ag hh) ?_;unfold PH;simp only[show A0 ((pre.length:Int)<((pre++m::post).length:Int))=A1 from AT J,A5,AX hlen,MW,eB,nj h0 h6,A9,e,AB,A6,hL,hu];rw[A8<|by rfl,A8<|by rfl,show @rd Int (dfl .int) (BW [u]) 0=(u:Int) from rfl,A8<|AX (show u<kn.length by rw[hk.1];exact hub),hw];rfl
   .have hn:F4 b kn m=U:=by
     rw[hh];split
     .rename_i u hu;rw[hu]at e3;exact absurd rfl e3
     .rfl
    refine nxt kn ag hk (T3 ag hn) ?_;unfold PH;simp only[show A0 ((pre.length:Int)<((pre++m::post).length:Int))=A1 from AT J,A5,AX hlen,MW,eB,nj h0 h6,A9,e,AB,A6,hL,EG,
     show A0 (((D1 kn<|Bh (b:Int) m.nu).length:Int)=1)=A3 from BV J,hw]
  .have hn:F4 b kn m=U:=by
    unfold F4;rw[AD (by rw[e];exact CV)]
   refine nxt kn ag hk (T3 ag hn) ?_;unfold PH;simp only[show A0 ((pre.length:Int)<((pre++m::post).length:Int))=A1 from AT J,A5,AX hlen,MW,eB,nj h0 h6,A9,e,AE,hw]
def rN{b:Nat}(h6:b<=6)(list:List AQ)(hl:list.length<=1048576):∀(n:Nat) (kn:List A4),CU b kn->cnt (unk kn) b<n->
  pI ((b:Int),list,kn,A1,())=I (.inr (Gj b list n kn,()))
 | 0,_,_,h=>J
 | n+1,kn,hk,h=>by
  have hr:=alI h6 list list [] kn A3 hk hl;have hr2:Sa ((b:Int),list,kn,A3,list,(list.length:Int),0,())=I (.inr ((b:Int),list,(IE b list kn).1,(IE b list kn).2,())):=hr;obtain⟨g1,g2,g3,g4⟩:=Lp list (kn,A3) hk;refine B4 (x':=((b:Int),list,(IE b list kn).1,(IE b list kn).2,())) ?_ ?_
  .unfold lG;simp only[A5,hr2];rfl
  .rw[Gj];rcases tf (IE b list kn).2 with e|e
   .rw[e,A8 rfl];rcases g4 e with g|g
    .cases g
    .exact rN h6 list hl n _ g1 (Gd g<|Nat.le_of_lt_succ h)
   .rw[e,A6];exact BT rfl
def xK{b:Nat}(h0:0<b)(h6:b<=6)(list:List AQ)(hl:list.length<=1048576):∀(n:Nat) (kn:List A4),CU b kn->cnt (unk kn) b<n->
  jY ((b:Int),list,kn,A1,())=I (.inr (Gj b list n kn,()))
 | 0,_,_,h=>J
 | n+1,kn,hk,h=>by
  have hr:=auW h0 h6 list [] kn A3 hk hl;have hr2:VI ((b:Int),list,kn,A3,0,())=I (.inr ((b:Int),list,(IE b list kn).1,(IE b list kn).2,())):=hr;obtain⟨g1,g2,g3,g4⟩:=Lp list (kn,A3) hk;refine B4 (x':=((b:Int),list,(IE b list kn).1,(IE b list kn).2,())) ?_ ?_
  .unfold jT;simp only[A5,hr2];rfl
  .rw[Gj];rcases tf (IE b list kn).2 with e|e
   .rw[e,A8 rfl];rcases g4 e with g|g
    .cases g
    .exact xK h0 h6 list hl n _ g1 (Gd g<|Nat.le_of_lt_succ h)
   .rw[e,A6];exact BT rfl
def lQ(f:Nat->Bool):∀k,cnt f k<=k
 | 0=>Ar _
 | k+1=>by
  have:=lQ f k;rw[cnt];split<;>omega
def CU.new(b:Nat):CU b (BX b noB):=by
 refine⟨by simp,λk hk=>Nv ?_⟩;rw[bsA,BG,WQ,A8 hk];rfl
def HM(b:Int)(list:List AQ):List A4:=if inB b 1 6 then Gj b.toNat list 7 (BX b.toNat noB) else []
def avX(b:Int)(list:List AQ)(hl:list.length<=1048576):WE (b,list,())=I ((HM b list,()),()):=by
 unfold WE HM;simp only[ED,A9];rcases tf (inB b 1 6) with e|e
 .have h1:=Ae.1 e;simp only[e,AB,A6,A5];rw[A8 (by simp;omega)];have:=rN (b:=b.toNat) J list hl 7 _ (CU.new _) (by have:=lQ (unk<|BX b.toNat noB) b.toNat;omega);rw[show((b.toNat:Nat):Int)=b by omega]at this;rw[show(dfl .str:A4)=noB from rfl,this];rfl
 .simp only[e,AE,A5,A6]
def agL(b:Int)(list:List AQ)(hl:list.length<=1048576):ZM (b,list,())=I ((HM b list,()),()):=by
 unfold ZM HM;simp only[HZ,A9];rcases tf (inB b 1 6) with e|e
 .have h1:=Ae.1 e;simp only[e,AB,A6,A5];rw[A8 (by simp;omega)];have:=xK (b:=b.toNat) J J list hl 7 _ (CU.new _) (by have:=lQ (unk<|BX b.toNat noB) b.toNat;omega);rw[show((b.toNat:Nat):Int)=b by omega]at this;rw[show(dfl .str:A4)=noB from rfl,this];rfl
 .simp only[e,AE,A5,A6]
def GW:List A4->A4->Option A4
 | [],a=>I a
 | x::r,a=>if x=noB then U else GW r (a++x)
def cH:∀ {l:List A4} {a c:A4},(∀x∈l,x=noB\/x.size=4)->GW l a=I c->c.size=a.size+4 * l.length
 | [],a,c,_,h=>by
  injection h with h;rw[h];rfl
 | x::r,a,c,hx,h=>by
  unfold GW at h;split at h
  .cases h
  .rename_i hne;rw[cH (λy hy=>hx y<|Aj x hy) h,Bb,Bt];rcases hx x An with h1|h1
   .exact absurd h1 hne
   .omega
def O2(pre:List A4)(x:A4)(post:List A4): @rd A4 (dfl .str) (pre++x::post) (pre.length:Int)=x:=by
 rw[Oz,BG,Ek<|Ar _];simp
abbrev Yj(s:Int)(o:Option A4):(A4×Bool×A2) ⊕ (Int×A4×A2):=match o with|none=> .inl (noB,A3,())|some c=> .inr (s,c,())
def alX(s:Int)(post:List A4):∀(pre:List A4) (a:A4),(pre++post).length<=1048576->(∀x∈post,x.size<=4)->a.size<=4 * pre.length->
  WL (s,a,pre++post,((pre++post).length:Int),(pre.length:Int),())=I (Yj s<|GW post a):=by
 induction post with
 | nil=>
  intro pre a _ _ _;refine BT ?_;unfold S4;simp only[C1,show A0 ((pre.length:Int)<(pre.length:Int))=A3 from BV J,A6];rfl
 | cons x post ih=>
  intro pre a hl hx ha;have hlen:pre.length<(pre++x::post).length:=by simp
  have hw:=DV hlen hl;have hx4:=hx x An;by_cases e:x=noB
  .refine BT ?_;unfold S4 GW;simp only[show A0 ((pre.length:Int)<((pre++x::post).length:Int))=A1 from AT J,A5,AX hlen,O2];rw[A8<|AT e,A8 e]
  .refine B4 (x':=(s,a++x,pre++x::post,((pre++x::post).length:Int),((pre++[x]).length:Int),())) ?_ ?_
   .unfold S4;simp only[show A0 ((pre.length:Int)<((pre++x::post).length:Int))=A1 from AT J,A5,AX hlen,O2];rw[AD (by rw[BV e];exact CV),A8<|AT (by simp at hl;omega),hw,@Ap _ pre [x]];rfl
   .have:=ih (pre++[x]) (a++x) (by rw[← snoc];exact hl) (λy hy=>hx y<|Aj x hy) (by rw[Bb,Ap,JW];omega);rw[← snoc]at this;rw[show GW (x::post) a=GW post (a++x) from AD e];exact this
def aoq(s:Int)(post:List A4):∀(pre:List A4) (a:A4),(pre++post).length<=1048576->(∀x∈post,x.size<=4)->a.size<=4 * pre.length->
  bP (s,pre++post,a,(pre.length:Int),())=I (Yj s<|GW post a):=by
 induction post with
 | nil=>
  intro pre a _ _ _;refine BT ?_;unfold SF;simp only[C1,show A0 ((pre.length:Int)<(pre.length:Int))=A3 from BV J,A6];rfl
 | cons x post ih=>
  intro pre a hl hx ha;have hlen:pre.length<(pre++x::post).length:=by simp
  have hw:=DV hlen hl;have hx4:=hx x An;by_cases e:x=noB
  .refine BT ?_;unfold SF GW;simp only[show A0 ((pre.length:Int)<((pre++x::post).length:Int))=A1 from AT J,A5,AX hlen,O2];rw[A8<|AT e,A8 e]
  .refine B4 (x':=(s,pre++x::post,a++x,((pre++[x]).length:Int),())) ?_ ?_
   .unfold SF;simp only[show A0 ((pre.length:Int)<((pre++x::post).length:Int))=A1 from AT J,A5,AX hlen,O2];rw[AD (by rw[BV e];exact CV),A8<|AT (by simp at hl;omega),hw,@Ap _ pre [x]];rfl
   .have:=ih (pre++[x]) (a++x) (by rw[← snoc];exact hl) (λy hy=>hx y<|Aj x hy) (by rw[Bb,Ap,JW];omega);rw[← snoc]at this;rw[show GW (x::post) a=GW post (a++x) from AD e];exact this
def Mw(c:A4)(s:Nat):Bool:=BJ (c.size - s) λi=>A0<|bt c ((s+i:Nat):Int)=0
def ah1{c:A4}{s:Nat}(h:s<=c.size)(hc:c.size<=1048576):pQ ((s:Int),c,(s:Int),())=I (if Mw c s then .inr ((s:Int),c,()) else .inl (noB,A3,())):=by
 refine Dp (λi=>((s:Int),c,((s+i:Nat):Int),())) (c.size - s) _ _ _ ?_ ?_
 .intro i hi;unfold ZQ;simp only[show A0 (((s+i:Nat):Int)<(c.size:Int))=A1 from AT J,A5,AX<|show s+i<c.size by omega];rw[AY J J];rcases tf (A0<|bt c ((s+i:Nat):Int)=0) with e|e
  .simp only[e,AB,A6,A5];rfl
  .simp only[e,AE,A6,A5]
 .unfold ZQ;simp only[show A0 (((s+(c.size - s):Nat):Int)<(c.size:Int))=A3 from BV J,A6]
def aqJ{c:A4}{s:Nat}(h:s<=c.size)(hc:c.size<=1048576):nC ((s:Int),c,(s:Int),())=I (if Mw c s then .inr ((s:Int),c,()) else .inl (noB,A3,())):=by
 refine Dp (λi=>((s:Int),c,((s+i:Nat):Int),())) (c.size - s) _ _ _ ?_ ?_
 .intro i hi;unfold YK;simp only[show A0 (((s+i:Nat):Int)<(c.size:Int))=A1 from AT J,A5,AX<|show s+i<c.size by omega];rw[AY J J];rcases tf (A0<|bt c ((s+i:Nat):Int)=0) with e|e
  .simp only[e,AB,A6,A5];rfl
  .simp only[e,AE,A6,A5]
 .unfold YK;simp only[show A0 (((s+(c.size - s):Nat):Int)<(c.size:Int))=A3 from BV J,A6]
def pE{b:Nat}(list:List AQ):∀(n:Nat) (kn:List A4),CU b kn->CU b (Gj b list n kn)
 | 0,_,h=>h
 | n+1,kn,h=>by
  have:=(Lp list (kn,A3) h).1;unfold Gj;split
  .exact pE list n _ this
  .exact this
def CU.all{b:Nat}{kn:List A4}(h:CU b kn):∀x∈kn,x=noB\/x.size=4:=by
 intro x hx;obtain⟨k,hk,rfl⟩:=Wq.1 hx;have:=h.2 k (by rw[← h.1];exact hk);rw[bsA,BG,B3 hk]at this;exact this
def gG{b:Int}(hb:inB b 1 6=A1)(list:List AQ):CU b.toNat (HM b list):=by
 unfold HM;rw[A8 hb];exact pE list 7 _<|CU.new _
def CU.le{b:Nat}{kn:List A4}(h:CU b kn):∀x∈kn,x.size<=4:=by
 intro x hx;rcases h.all x hx with h1|h1
 .rw[h1];exact Ce _
 .omega
def Fh(s:Int)(list:List AQ):A4×Bool:=
 if inB s 1 24 then(match GW (HM (Ay (s+3) 4) list) noB with
  | none=>(noB,A3)
  | some c=>if Mw c s.toNat then(c.extract 0 s.toNat,A1) else(noB,A3)) else(noB,A3)
def aAx(s:Int)(hs:0<=s)(c:A4)(hc:s<=c.size)(b:Bool):
  AS (I<|if b then(.inr (s,c,()):(A4×Bool×A2) ⊕ (Int×A4×A2)) else .inl (noB,A3,())) (λy=>I (y,()))
   (λy=>if(A0 (0<=y.1)&&A0 (y.1<=(y.2.1.size:Int))) then I ((y.2.1.extract 0<|AK y.1,A1,()),()) else U)=
   I (((if b then(c.extract 0 s.toNat,A1) else(noB,A3)).1,(if b then(c.extract 0 s.toNat,A1) else(noB,A3)).2,()),()):=by
 cases b
 .rfl
 .show(if(A0 (0<=s)&&A0 (s<=(c.size:Int))) then _ else _)=_;rw[A8 (by simp;omega)];rfl
def awP(s:Int)(list:List AQ)(hl:list.length<=1048576):Xx (s,list,())=I (((Fh s list).1,(Fh s list).2,()),()):=by
 unfold Xx Fh;simp only[ED,A9];rcases tf (inB s 1 24) with e|e
 .have h1:=Ae.1 e;have hd:Ay (s+3) 4=(s+3) / 4:=G5 J;simp only[e,AB,A6,A5];rw[AY (n:=s+4) J J,AY (n:=s+4 - 1) J J,show s+4 - 1=s+3 by omega,AY J J,avX _ _ hl];simp only[A9];have hb:inB (Ay (s+3) 4) 1 6=A1:=Ae.2 J;have hk:=gG hb list;have mr:=alX s (HM (Ay (s+3) 4) list) [] noB (by rw[Ef,hk.1];omega) (CU.le hk)<|Ar _;have jq:WL (s,noB,HM (Ay (s+3) 4) list,((HM (Ay (s+3) 4) list).length:Int),0,())=_:=mr;rw[jq];cases hc:GW (HM (Ay (s+3) 4) list) noB with
  | none=>rfl
  | some c=>
   have hz:=cH hk.all hc;have hz0:noB.size=0:=rfl;rw[hk.1,hz0]at hz;have hzero:=ah1 (c:=c) (s:=s.toNat) J J;rw[show((s.toNat:Nat):Int)=s by omega]at hzero;simp only[AS,A9,Yj];rw[hzero];exact aAx s J c J _
 .simp only[e,AE,A5,A6]
def aqL(s:Int)(list:List AQ)(hl:list.length<=1048576):Xn (s,list,())=I (((Fh s list).1,(Fh s list).2,()),()):=by
 unfold Xn Fh;simp only[HZ,A9];rcases tf (inB s 1 24) with e|e
 .have h1:=Ae.1 e;have hd:Ay (s+3) 4=(s+3) / 4:=G5 J;simp only[e,AB,A6,A5,ZR (n:=s) J J,A9];rw[agL _ _ hl];simp only[A9];have hb:inB (Ay (s+3) 4) 1 6=A1:=Ae.2 J;have hk:=gG hb list;have mr:=aoq s (HM (Ay (s+3) 4) list) [] noB (by rw[Ef,hk.1];omega) (CU.le hk)<|Ar _;have jq:bP (s,HM (Ay (s+3) 4) list,noB,0,())=_:=mr;rw[jq];cases hc:GW (HM (Ay (s+3) 4) list) noB with
  | none=>rfl
  | some c=>
   have hz:=cH hk.all hc;have hz0:noB.size=0:=rfl;rw[hk.1,hz0]at hz;have hzero:=aqJ (c:=c) (s:=s.toNat) J J;rw[show((s.toNat:Nat):Int)=s by omega]at hzero;simp only[AS,A9,Yj];rw[hzero];exact aAx s J c J _
 .simp only[e,AE,A5,A6]
abbrev tF(f:Frame):Int×Int×Int×Int×Int×Int×Int×Int×Int×A4×A2:=(f.ki,f.src,f.dst,f.fr,f.nu,f.to,f.un,f.sz,f.mix,f.da,())
def Mp(f:Frame):Bool:=
 if A0 (f.ki=1) then inB f.sz 1 24&&(inB f.mix 0 999&&(A0 ((f.da.size:Int)=4)&&A0 (f.dst=EH f.src f.to)))
 else(A0 (f.ki=2)||decide (f.ki=3))&&(A0 (f.sz=0)&&(A0 (f.mix=0)&&(A0 (f.da=noB)&&A0 (f.src=EH f.dst f.to))))
def Co(f:Frame):Bool:=isN f.src&&(isN f.dst&&(isN f.fr&&(isN f.to&&(inB f.nu 1 99&&(inB f.un 1 999&&Mp f)))))
def qz(f:Frame):SI (tF f,())=I ((Co f,()),()):=by
 obtain⟨ki,src,dst,fr,nu,t',un,sz,mix,da⟩:=f;unfold SI Co;simp only[KI,ED,A9];rcases tf (isN src) with e|e<;>simp only[e,AB,AE,A5,A6,AW,AN];rcases tf (isN dst) with e|e<;>simp only[e,AB,AE,A5,A6,AW,AN];rcases tf (isN fr) with e|e<;>simp only[e,AB,AE,A5,A6,AW,AN];rcases tf (isN t') with e|e<;>simp only[e,AB,AE,A5,A6,AW,AN];rcases tf (inB nu 1 99) with e|e<;>simp only[e,AB,AE,A5,A6,AW,AN];rcases tf (inB un 1 999) with e|e<;>simp only[e,AB,AE,A5,A6,AW,AN];unfold Mp;simp only[yJ,CE,CF,Dr,A5];rcases tfp (ki=1) with e|e<;>simp only[e,AO,Af,A5,A6]
 .rcases tf (inB sz 1 24) with e|e<;>simp only[e,A5,A6,AW,AN];rcases tf (inB mix 0 999) with e|e<;>simp only[e,A5,A6,AW,AN]
 .rcases tfp (ki=2) with e|e<;>simp only[e,AO,Af,A5,A6,Bg,Bq,Bo,AW]
  .rcases tfp (sz=0) with e|e<;>simp only[e,AO,Af,A5,A6,AW,AN];rcases tfp (mix=0) with e|e<;>simp only[e,AO,Af,A5,A6,AW,AN]
  .rcases tfp (ki=3) with e|e<;>simp only[e,AO,Af,A5,A6,AW,AN];rcases tfp (sz=0) with e|e<;>simp only[e,AO,Af,A5,A6,AW,AN];rcases tfp (mix=0) with e|e<;>simp only[e,AO,Af,A5,A6,AW,AN]
def aiD{ki:Int}(h1:(ki=1)=False):inB ki 1 3=(A0 (ki=2)||decide (ki=3)):=by
 have h1:ki≠1:=of_eq_false h1;rw[Og,Ae,Cj,decide_eq_true_iff,decide_eq_true_iff];omega
def aaN(f:Frame):UL (tF f,())=I ((Co f,()),()):=by
 obtain⟨ki,src,dst,fr,nu,t',un,sz,mix,da⟩:=f;unfold UL Co;simp only[JA,HZ,A9];have hk:inB ki 1 3=(A0 (ki=1)||(A0 (ki=2)||decide (ki=3))):=by
  rcases tfp (ki=1) with e|e
  .have:ki=1:=of_eq_true e;subst this;rfl
  .rw[aiD e];simp only[e,Af,Bo]
 rw[hk];unfold Mp;rcases tfp (ki=1) with e0|e0<;>simp only[e0,AO,Af,Bq,Bo,AB,AE,A5,A6]
 .rcases tf (isN src) with e|e<;>simp only[e,AB,AE,A5,A6,AW,AN];rcases tf (isN dst) with e|e<;>simp only[e,AB,AE,A5,A6,AW,AN];rcases tf (isN fr) with e|e<;>simp only[e,AB,AE,A5,A6,AW,AN];rcases tf (isN t') with e|e<;>simp only[e,AB,AE,A5,A6,AW,AN];rcases tf (inB nu 1 99) with e|e<;>simp only[e,AB,AE,A5,A6,AW,AN];rcases tf (inB un 1 999) with e|e<;>simp only[e,AB,AE,A5,A6,AW,AN];simp only[lm,A9];rw[show A0 (EH src t'=dst)=A0 (dst=EH src t') from decide_eq_decide.2 eq_comm];rcases tf (inB sz 1 24) with e|e<;>rcases tf (inB mix 0 999) with e1|e1<;>rcases tf (A0<|(da.size:Int)=4) with e2|e2<;>rcases tfp (dst=EH src t') with e3|e3<;>simp only[e,e1,e2,e3,AO,Af,A5,A6,AW,AN,Cd,BZ]
 .rcases tf (A0 (ki=2)||decide (ki=3)) with e9|e9<;>simp only[e9,AB,AE,A5,A6,AW,AN,BZ];rcases tf (isN src) with e|e<;>simp only[e,AB,AE,A5,A6,AW,AN];rcases tf (isN dst) with e|e<;>simp only[e,AB,AE,A5,A6,AW,AN];rcases tf (isN fr) with e|e<;>simp only[e,AB,AE,A5,A6,AW,AN];rcases tf (isN t') with e|e<;>simp only[e,AB,AE,A5,A6,AW,AN];rcases tf (inB nu 1 99) with e|e<;>simp only[e,AB,AE,A5,A6,AW,AN];rcases tf (inB un 1 999) with e|e<;>simp only[e,AB,AE,A5,A6,AW,AN];simp only[lm,A9];rw[show A0 (EH dst t'=src)=A0 (src=EH dst t') from decide_eq_decide.2 eq_comm];rcases tfp (sz=0) with e|e<;>rcases tfp (mix=0) with e1|e1<;>rcases tfp (da=noB) with e2|e2<;>rcases tfp (src=EH dst t') with e3|e3<;>simp only[e,e1,e2,e3,AO,Af,A5,A6,AW,AN,Cd,BZ]
def BOk(l:List Int):Prop:=∀x∈l,0<=x/\x<=255
def BOk.rd{l:List Int}(h:BOk l)(i:Int):0<= @rd Int (dfl .u8) l i/\ @rd Int (dfl .u8) l i<=255:=by
 show 0<=l.getD i.toNat 0/\l.getD i.toNat 0<=255;rw[BG];cases e:l[i.toNat]? with
 | none=>exact⟨by decide,by decide⟩
 | some x=>exact h x<|CZ e
def BOk.str(s:A4):BOk (BB s):=by
 intro x hx;obtain⟨b,_,rfl⟩:=DF.1 hx;have:=b.toNat_lt;omega
def BOk.app{a b:List Int}(ha:BOk a)(hb:BOk b):BOk (a++b):=by
 intro x hx;rcases Bk.1 hx with h|h
 .exact ha x h
 .exact hb x h
def av2(n:Int):0<=w8 n/\w8 n<=255:=by
 rw[N9];omega
def BOk.nil:BOk []:=λx hx=>by cases hx
def BOk.cons(n:Int){l:List Int}(h:BOk l):BOk (w8 n::l):=by
 intro x hx;rcases Bj.1 hx with h1|h1
 .rw[h1];exact av2 n
 .exact h x h1
def Es:List Int->Nat->Int->Int
 | [],_,n=>n
 | x::r,i,n=>Es r (i+1) (B5 (n+x * ((i % 1000:Nat)+1)) 65521)
def nq:∀ {l:List Int} {i:Nat} {n:Int},BOk l->0<=n->n<65521->0<=Es l i n/\Es l i n<65521
 | [],_,_,_,h0,h1=>⟨h0,h1⟩
 | x::r,i,n,hb,h0,h1=>by
  have hx:=hb x An;have hp:0<=x * ((i % 1000:Nat)+1:Int):=XR hx.1 J;unfold Es;rw[KE J];exact nq (λy hy=>hb y<|Aj x hy) J J
def aAy{x:Int}(i:Nat)(h:0<=x/\x<=255):0<=x * ((i % 1000:Nat)+1:Int)/\x * ((i % 1000:Nat)+1:Int)<=255000:=by
 refine⟨XR h.1 J, ?_⟩;have h1:x * ((i % 1000:Nat)+1:Int)<=255 * ((i % 1000:Nat)+1:Int):=cO h.2 J;omega
def xZ(pre:List Int)(x:Int)(post:List Int): @rd Int (dfl .u8) (pre++x::post) (pre.length:Int)=x:=by
 rw[Oz,BG,Ek<|Ar _];simp
def aji(post:List Int):∀(pre:List Int) (n:Int),BOk post->0<=n->n<65521->(pre++post).length<=1048576->
  Yr (n,pre++post,((pre++post).length:Int),(pre.length:Int),())=I (.inr (Es post pre.length n,())):=by
 induction post with
 | nil=>
  intro pre n _ _ _ _;refine BT ?_;unfold cM;simp only[C1,show A0 ((pre.length:Int)<(pre.length:Int))=A3 from BV J,A6];rfl
 | cons x post ih=>
  intro pre n hb h0 h1 hl;have hlen:pre.length<(pre++x::post).length:=by simp
  have hw:=DV hlen hl;have hx:=hb x An;have hm:=aAy pre.length hx;have ht:B5 (pre.length:Int) 1000=((pre.length % 1000:Nat):Int):=rfl;refine B4 (x':=(B5 (n+x * ((pre.length % 1000:Nat)+1)) 65521,pre++x::post,((pre++x::post).length:Int),((pre++[x]).length:Int),())) ?_ ?_
  .unfold cM;simp only[show A0 ((pre.length:Int)<((pre++x::post).length:Int))=A1 from AT J,A5,AX hlen,xZ,ht];rw[AY (n:=x) J J,AY (n:=((pre.length % 1000:Nat):Int)+1) J J,AY (n:=x * _) J J,AY (n:=n+_) J J,hw,@Ap _ pre [x]];rfl
  .have hr:0<=B5 (n+x * ((pre.length % 1000:Nat)+1)) 65521/\B5 (n+x * ((pre.length % 1000:Nat)+1)) 65521<65521:=by
    rw[KE J];omega
   have:=ih (pre++[x]) _ (λy hy=>hb y<|Aj x hy) hr.1 hr.2 (by rw[← snoc];exact hl);rw[← snoc]at this;rw[Es];rw[show(pre++[x]).length=pre.length+1 by simp]at this ⊢;exact this
def anW(post:List Int):∀(pre:List Int) (n:Int),BOk post->0<=n->n<65521->(pre++post).length<=1048576->
  Zi (pre++post,n,(pre.length:Int),())=I (.inr (Es post pre.length n,())):=by
 induction post with
 | nil=>
  intro pre n _ _ _ _;refine BT ?_;unfold Yu;simp only[C1,show A0 ((pre.length:Int)<(pre.length:Int))=A3 from BV J,A6];rfl
 | cons x post ih=>
  intro pre n hb h0 h1 hl;have hlen:pre.length<(pre++x::post).length:=by simp
  have hw:=DV hlen hl;have hx:=hb x An;have hm:=aAy pre.length hx;have ht:B5 (pre.length:Int) 1000=((pre.length % 1000:Nat):Int):=rfl;refine B4 (x':=(pre++x::post,B5 (n+x * ((pre.length % 1000:Nat)+1)) 65521,((pre++[x]).length:Int),())) ?_ ?_
  .unfold Yu;simp only[show A0 ((pre.length:Int)<((pre++x::post).length:Int))=A1 from AT J,A5,AX hlen,xZ,ht];rw[AY (n:=x) J J,AY (n:=((pre.length % 1000:Nat):Int)+1) J J,QZ _ x,AY (n:=x * _) J J,AY (n:=n+_) J J,hw,@Ap _ pre [x]];rfl
  .have hr:0<=B5 (n+x * ((pre.length % 1000:Nat)+1)) 65521/\B5 (n+x * ((pre.length % 1000:Nat)+1)) 65521<65521:=by
    rw[KE J];omega
   have:=ih (pre++[x]) _ (λy hy=>hb y<|Aj x hy) hr.1 hr.2 (by rw[← snoc];exact hl);rw[← snoc]at this;rw[Es];rw[show(pre++[x]).length=pre.length+1 by simp]at this ⊢;exact this
def aqF{l:List Int}(h:BOk l)(hl:l.length<=1048576):UP (l,())=I ((Es l 0 0,()),()):=by
 unfold UP;have h1:Yr (0,l,(l.length:Int),0,())=I (.inr (Es l 0 0,())):=aji l [] 0 h J J hl;rw[h1];rfl
def afC{l:List Int}(h:BOk l)(hl:l.length<=1048576):Pp (l,())=I ((Es l 0 0,()),()):=by
 unfold Pp;have h1:Zi (l,0,0,())=I (.inr (Es l 0 0,())):=anW l [] 0 h J J hl;rw[h1];rfl
end Go.VS
end
