/- Part 19. -/
import Derived.Lib.ItoaMem
import Derived.Test.YtadnafhbeojhoaaGreatDoorQAR
open BitVec renaming eq_of_toNat_eq->pO,ofInt->FE,toNat_ofInt->Qm
open Bool renaming and_eq_true->AI,and_false->Bb,and_self->CZ,and_true->L8,eq_iff_iff->Iz,false->A3,false_and->AP,false_ne_true->D0,false_or->BY,not_eq_true'->DR,not_false->AG,not_true->AD,or_eq_false_iff->RW,or_eq_true->Ci,or_false->EX,or_self->Fa,or_true->D3,true->A1,true_and->AX,true_or->Bh
open ByteArray renaming size->Zq
open Classical renaming choose->NT,choose_spec->It
open Decidable renaming decide->A0
open Eq renaming trans->Jn
open Go.IntKind renaming wrap->cq
open Go.Lib renaming cut->FV,decDigits->lm,index_one->Vg,itoa->BB,itoa_neg->iw,splitB->J9,splitK->GR
open Int renaming emod_eq_of_lt->p9,eq_ofNat_of_zero_le->HO,le_refl->Jk,mul_comm->Ql,tdiv->B0,tdiv_eq_ediv_of_nonneg->GF,tmod->BC,tmod_eq_emod_of_nonneg->LH,toNat->AM,toNat_natCast->Bu
open List renaming all_eq_true->Cr,append_assoc->C7,append_cancel_left->aBm,append_nil->CH,concat_eq_append->aAx,cons_append->L4,count_cons_self->aCB,drop->Bs,dropWhile_cons->jS,drop_append_of_le_length->lJ,drop_drop->Js,drop_eq_getElem_cons->VB,drop_eq_nil_of_le->KR,drop_left'->R5,drop_zero->J0,eq_nil_of_length_eq_zero->EE,eq_nil_or_concat->adH,filter_append->bm,filter_cons->J6,filter_nil->Ti,flatMap_append->qB,foldlM_cons->SN,foldl_cons->Dx,foldl_nil->MX,getD_eq_getElem?_getD->BD,getElem?_append_left->G0,getElem?_append_right->EC,getElem?_drop->Hd,getElem?_eq_getElem->Ax,getElem?_eq_none->I7,getElem?_eq_some_iff->BP,getElem?_map->DE,getElem?_range->Gd,getElem?_replicate->UP,getElem?_set->Tt,getElem_mem->CQ,getElem_of_mem->Dt,length->JT,length_append->Ar,length_cons->Bw,length_drop->Dd,length_filter_le->IG,length_map->EM,length_nil->C2,length_set->Es,length_take->DX,length_zipWith->ir,map_append->Ev,map_congr_left->Gz,map_cons->DW,map_id->eG,map_map->IQ,map_nil->IJ,mem_append->Br,mem_append_left->CE,mem_cons->Bk,mem_cons_of_mem->Al,mem_cons_self->Ap,mem_filter->Gy,mem_map->DP,mem_of_getElem?->Cg,mem_of_mem_drop->Io,mem_of_mem_take->Ib,mem_range->DV,mem_singleton->DB,mem_singleton_self->LN,nil_append->EW,not_mem_nil->M7,range->BN,range_succ->L5,replicate->BW,replicate_succ->ac2,take->BU,takeWhile_append_dropWhile->Yg,takeWhile_cons->Rf,takeWhile_sublist->aDi,take_add_one->K5,take_append_drop->Kh,take_left'->Pp,take_length->Ec,take_of_length_le->J8,take_take->dq,zipWith_cons_cons->OT
open List.cons renaming injEq->MC
open Nat renaming add_assoc->DH,add_comm->N5,add_zero->Hn,le_refl->As,le_trans->CB,lt_or_ge->GN,lt_trans->aY,lt_trichotomy->I8,mod_eq_of_lt->P7,mod_lt->PB,pow_succ->Qz,sub_self->Mj,sub_zero->JM,zero_add->DJ,zero_le->Cw
open Ne renaming symm->LQ
open Option renaming bind_eq_some_iff->An,bind_some->A9,filter_eq_some_iff->Po,getD_some->C8,isSome_some->CG,none->U,some->I
open Option.some renaming injEq->Bv
open Or renaming inl->Mt,inr->NH
open Prod.mk renaming injEq->CM
open UInt8 renaming ofNat->KF,toNat_inj->R0
set_option linter.all false
noncomputable section
namespace Go.VS
open Go
def az3{A R:Type}{t:(A->Option R)->A->Option R}{x:A}{v:R}(hv:∀k r,Bj t k x=I r->r=v)(he:∃k,Bj t k x=I v):O9 t x=I v:=by
 cases h:O9 t x with
 | none=>
  exfalso;obtain⟨k,hk⟩:=he;unfold O9 at h;rw[dif_pos ⟨k,v,hk⟩]at h;cases h
 | some r=>
  obtain⟨k,hk⟩:=aCf h;rw[hv k r hk]
def iK{σ β γ:Type}{b:σ->Option (σ ⊕ (β ⊕ γ))}(st:Nat->σ)(n:Nat)(p:Nat->Bool)(r:β)(fin:γ)
  (h:∀i,i<n->(∀j,j<i->p j=A1)->b (st i)=I (if p i then .inl (st<|i+1) else .inr (.inl r)))
  (hn:(∀j,j<n->p j=A1)->b (st n)=I (.inr<|.inr fin)):AW b (st 0)=I (if Ae n p then .inr fin else .inl r):=by
 have:∀k,k<=n->(∀j,j<n - k->p j=A1)->AW b (st<|n - k)=I (if LS p k (n - k) then .inr fin else .inl r):=by
  intro k
  induction k with
  | zero=>intro _ hp;exact BR<|hn hp
  | succ k ih=>
   intro hk hp;have h1:=h (n - (k+1)) J hp;unfold LS;rcases tf (p<|n - (k+1)) with hq|hq
   .rw[hq]at h1;rw[hq,AX];refine B4 h1 ?_;rw[show n - (k+1)+1=n - k by omega];exact ih J (λj hj=>by
     rcases GN j (n - (k+1)) with h2|h2
     .exact hp j h2
     .rw[show j=n - (k+1) by omega];exact hq)
   .rw[hq]at h1;rw[hq,AP];exact BR h1
 have:=this n (As _) (λj hj=>by omega);rwa[Mj]at this
abbrev dcm(u:Nat):List UInt8:=lm u
def K4{u:Nat}(h:u<10):dcm u=[KF (48+u)]:=Lib.decDigits_one h
def Ll{u:Nat}(h:¬u<10):dcm u=dcm (u / 10)++[KF (48+u % 10)]:=by rw[dcm,lm,dif_neg h]
def LL:∀(k u:Nat),1<=k->u<10 ^ k->(dcm u).length<=k
 | 0,_,h,_=>J
 | 1,u,_,h=>by rw[K4 J];simp
 | k+2,u,_,h=>by
  by_cases h1:u<10
  .rw[K4 h1];simp
  .rw[Ll h1];have:=LL (k+1) (u / 10) J (by rw[Qz]at h;omega);simp;omega
def J1(u:Nat):BB (u:Int)=dcm u:=Lib.itoa_nonneg u
def BK(n:Int):A4:=⟨(BB n).toArray⟩
def qX{n:Nat}(h:n<10):BH [w8<|w64<|48+(n:Int)]=⟨(dcm n).toArray⟩:=by
 rw[K4 h,Aa J J,NX,show(48+(n:Int)) % 256=((48+n:Nat):Int) by omega];rfl
def acu(u:Nat):B0 (u:Int) 10=((u / 10:Nat):Int):=rfl
def aAt(u:Nat):BC (u:Int) 10=((u % 10:Nat):Int):=rfl
def gI(u:Nat):BH [w8<|w64<|48+((u % 10:Nat):Int)]=⟨[KF (48+u % 10)].toArray⟩:=by
 rw[qX J,K4 J]
def qc(a b:List UInt8):(⟨a.toArray⟩:A4)++⟨b.toArray⟩=⟨(a++b).toArray⟩:=by
 apply Fm;rw[GL]
def azU:lm 9223372036854775808=[57,50,50,51,51,55,50,48,51,54,56,53,52,55,55,53,56,48,56]:=by
 show dcm _=_
 repeat (first|rw[K4 J]|rw[Ll J])
 rfl
def fv:∀(k:Nat) (n:Int),-9223372036854775808<=n->n<=9223372036854775807->∀r,Bj (λg=>Ga g) k (n,())=I r->r=((BK n,()),())
 | 0,_,_,_,r,h=>by cases h
 | k+1,n,h0,h1,r,h=>by
  have ih:=fv k
  replace h:Ga (Bj (λg=>Ga g) k) (n,())=I r:=h
  generalize Bj (λg=>Ga g) k=G at ih h;unfold Ga at h;by_cases hn:n < -9223372036854775807
  .simp only[hn,AS,A5]at h;cases h;obtain rfl:n= -9223372036854775808:=J
   have:BK (-9223372036854775808)=B [45,57,50,50,51,51,55,50,48,51,54,56,53,52,55,55,53,56,48,56]:=by
    apply Fm;show BB (-9223372036854775808)=_;rw[show(-9223372036854775808:Int)= -((9223372036854775808:Nat):Int) by rfl,iw _ J];rw[L_B];rw[azU]
   rw[this]
  .rw[AB<|by simpa using hn]at h;by_cases Lh:n<0
   .rw[A8<|by simpa using Lh]at h;simp only at h;rw[Aa J J]at h;obtain⟨r4,e4,h⟩:=An.1 h;have:=ih (0 - n) J J r4 e4;subst this;split at h
    .cases h;obtain⟨u,hu⟩:=HO (show 0<= -n by omega);obtain rfl:n= -(u:Int):=J
     have:BK (-(u:Int))=B [45]++BK (0 - -(u:Int)):=by
      unfold BK;rw[iw _ J,show(0:Int) - -(u:Int)=(u:Int) by omega,J1];rw[B,qc];rfl
     rw[this]
    .cases h
   .rw[AB<|by simpa using Lh]at h;obtain⟨u,hu⟩:=HO (show 0<=n by omega);obtain rfl:n=(u:Int):=hu;by_cases hs:u<10
    .rw[A8 (by simp;omega)]at h;simp only at h;cases h;rw[qX hs,BK,J1]
    .rw[AB (by simp;omega)]at h;simp only[acu,aAt]at h;rw[Aa J J]at h;obtain⟨r7,e7,h⟩:=An.1 h;have:=ih ((u / 10:Nat):Int) J J r7 e7;subst this;split at h
     .cases h;rw[gI,BK,BK,J1,J1,qc,← Ll hs]
     .cases h
def mE:∀(k u:Nat),1<=k->k<=19->u<10 ^ k->u<=9223372036854775807->Bj (λg=>Ga g) k ((u:Int),())=I ((⟨(dcm u).toArray⟩,()),())
 | 0,_,h,_,_,_=>J
 | k+1,u,_,hk,h,h63=>by
  have e1:A0 ((u:Int) < -9223372036854775807)=A3:=by simp
  have e2:A0 ((u:Int)<0)=A3:=by simp
  have ih:=mE k<|u / 10;show Ga (Bj (λg=>Ga g) k) _=_;generalize Bj (λg=>Ga g) k=G at ih;unfold Ga;simp only[e1,e2,acu,aAt,A6];by_cases hs:u<10
  .rw[A8 (by simp;omega),qX hs]
  .rw[AB (by simp;omega),Aa J J];have hk0:1<=k:=by
    rcases Nat.eq_zero_or_pos k with rfl|h'
    .simp at h;omega
    .exact h'
   have hlt:u / 10<10 ^ k:=by rw[Qz]at h;omega
   have hl:=LL k (u / 10) hk0 hlt;rw[ih hk0 J hlt J];simp only[A9];rw[A8,gI,qc,← Ll hs];have:(⟨(dcm<|u / 10).toArray⟩:A4).size=(dcm<|u / 10).length:=rfl;rw[decide_eq_true_eq,this,gI];show _+1<=_;omega
def FG{n:Int}(h0: -9223372036854775808<=n)(h1:n<=9223372036854775807):DO (n,())=I ((BK n,()),()):=by
 refine az3 (λk r h=>fv k n h0 h1 r h) ?_;have Sr:∀u:Nat,u<=9223372036854775807->u<10 ^ 19:=λu hu=>J
 by_cases hn:n < -9223372036854775807
 .refine⟨1, ?_⟩;cases h:Bj (λg=>Ga g) 1 (n,()) with
  | none=>simp only[Bj]at h;unfold Ga at h;rw[A8<|by simpa using hn]at h;cases h
  | some r=>rw[fv 1 n h0 h1 r h]
 .by_cases Lh:n<0
  .refine⟨20, ?_⟩;cases h:Bj (λg=>Ga g) 20 (n,()) with
   | none=>
    obtain⟨u,hu⟩:=HO (show 0<= -n by omega);have ih:=mE 19 u J J (Sr u J) J
    replace h:Ga (Bj (λg=>Ga g) 19) (n,())=U:=h
    generalize Bj (λg=>Ga g) 19=G at ih h;unfold Ga at h;rw[AB<|by simpa using hn,A8<|by simpa using Lh]at h;simp only at h;rw[Aa J J,show 0 - n=(u:Int) by omega,ih]at h;simp only[A9]at h;rw[A8]at h
    .cases h
    .have hl:=LL 19 u J<|Sr u J;have e:(⟨(dcm u).toArray⟩:A4).size=(dcm u).length:=rfl;rw[decide_eq_true_eq,e];show 1+_<=_;omega
   | some r=>rw[fv 20 n h0 h1 r h]
  .obtain⟨u,hu⟩:=HO (show 0<=n by omega);obtain rfl:n=(u:Int):=hu;exact⟨19,by rw[mE 19 u J J (Sr u J) J,BK,J1]⟩
def Ik{n:Int}(h0: -9223372036854775808<=n)(h1:n<=9223372036854775807):J2 (n,())=I ((BK n,()),()):=by
 show Tk _=_;unfold Tk;rw[A8 ⟨h0,h1⟩];rfl
def dig(b:UInt8):Bool:=inB (b.toNat:Int) 48 57
def val(l:List UInt8):Nat:=l.foldl (λa b=>10 * a+(b.toNat - 48)) 0
def WZ(l:List UInt8)(b:UInt8):val (l++[b])=10 * val l+(b.toNat - 48):=by simp[val]
def anY{l:List UInt8}{i:Nat}(h:i<l.length):l.take (i+1)=l.take i++[l.getD i 0]:=by
 rw[K5,Ax h];simp[h]
def dJ:∀(k:Nat) (l:List UInt8),l.length<=k->(∀b∈l,dig b=A1)->val l<10 ^ k:=by
 intro k
 induction k with
 | zero=>
  intro l hl _;obtain rfl:l=[]:=EE J;decide
 | succ k ih=>
  intro l hl hd;rcases adH l with rfl|⟨m,b,rfl⟩
  .exact Nat.pow_pos (by decide)
  .simp at hl hd;have h1:=ih m J (λx hx=>hd x<|.inl hx);have h2:=hd b<|.inr rfl;rw[aAx,WZ,Qz];have h3:=Af.1 h2;omega
def azc{m:List UInt8}:∀ {b:UInt8},dig b=A1->b≠48->(∀x∈m,dig x=A1)->1<=val (b::m):=by
 intro b hb hne hd;have h0:1<=val [b]:=by
  have:=Af.1 hb;have hn:b.toNat≠48:=λh=>hne<|R0.1 h;simp[val];omega
 have:∀(m:List UInt8) (a:Nat),1<=a->1<=m.foldl (λa b=>10 * a+(b.toNat - 48)) a:=by
  intro m
  induction m with
  | nil=>intro a h;exact h
  | cons x m ih=>intro a h;exact ih _<|show 1<=10 * a+(x.toNat - 48) by omega
 exact this m _<|by simpa[val] using h0
def JN(l:List UInt8):Bool:=match l with
 | []=>A3
 | [_]=>A1
 | b::_::_=> !decide (b=48)
def wb:∀(k:Nat) (l:List UInt8),l.length=k->(∀b∈l,dig b=A1)->JN l=A1->dcm (val l)=l:=by
 intro k
 induction k with
 | zero=>intro l hl _ h;obtain rfl:l=[]:=EE hl;cases h
 | succ k ih=>
  intro l hl hd aDt;rcases adH l with rfl|⟨m,b,rfl⟩
  .cases aDt
  .rw[aAx]at *;simp at hl;have hb:=hd b (by simp);have hb2:=Af.1 hb;have hof:∀n,b.toNat=n->KF n=b:=λn h=>by rw[← h];simp
   cases m with
   | nil=>
    have:val ([]++[b])=b.toNat - 48:=by simp[val]
    rw[this,K4 J,hof _ J];rfl
   | cons c m=>
    have hc:c≠48:=by
     cases m<;>simpa[JN] using aDt
    have h1:=azc (m:=m) (hd c<|by simp) hc (λx hx=>hd x<|by simp[hx]);rw[WZ,Ll J,show(10 * val (c::m)+(b.toNat - 48)) / 10=val (c::m) by omega,show(10 * val (c::m)+(b.toNat - 48)) % 10=b.toNat - 48 by omega,
     ih (c::m) hl (λx hx=>hd x<|CE _ hx) (by cases m<;>simp[JN,hc]),hof _ J]
def ZR:∀(k u:Nat),u<k->∀b∈dcm u,dig b=A1:=by
 intro k
 induction k with
 | zero=>intro u h;omega
 | succ k ih=>
  intro u h b hb;have hd:∀n,n<10->dig (KF<|48+n)=A1:=λn hn=>by
   have:(KF<|48+n).toNat=48+n:=by simp;omega
   unfold dig;rw[this];exact Af.2 ⟨J,J⟩
  by_cases hu:u<10
  .rw[K4 hu]at hb;obtain rfl:=DB.1 hb;exact hd u hu
  .rw[Ll hu]at hb;rcases Br.1 hb with hb|hb
   .exact ih (u / 10) J b hb
   .obtain rfl:=DB.1 hb;exact hd _ J
def eZ:∀(k u:Nat),u<k->val (dcm u)=u:=by
 intro k
 induction k with
 | zero=>intro u h;omega
 | succ k ih=>
  intro u h;by_cases hu:u<10
  .rw[K4 hu];have:(KF<|48+u).toNat=48+u:=by simp;omega
   simp only[val,Dx,MX,this];omega
  .rw[Ll hu,WZ,ih (u / 10) J];have:(KF<|48+u % 10).toNat=48+u % 10:=by simp;omega
   rw[this];omega
def je(u:Nat):dcm u≠[]:=by
 by_cases hu:u<10
 .rw[K4 hu];simp
 .rw[Ll hu];simp
def aE4:∀(k u:Nat),u<k->JN (dcm u)=A1/\(1<=u->∃b m,dcm u=b::m/\b≠48):=by
 intro k
 induction k with
 | zero=>intro u h;omega
 | succ k ih=>
  intro u h;by_cases hu:u<10
  .rw[K4 hu];refine⟨rfl,λh1=>⟨_,_,rfl,λh2=> ?_⟩⟩;have:(KF<|48+u).toNat=48+u:=by simp;omega
   rw[h2]at this;simp at this;omega
  .obtain⟨b,m,h1,h2⟩:=(ih (u / 10) J).2 J;rw[Ll hu,h1];refine⟨?_,λ_=>⟨b,_,rfl,h2⟩⟩;cases m<;>simp[JN,h2]
def Jm(l:List UInt8):Option Nat:=if l.all dig&&JN l then I (val l) else U
def Q3{l:List UInt8}{n:Nat}:Jm l=I n↔l=dcm n:=by
 unfold Jm;constructor
 .intro h;split at h
  .rename_i hc;simp at hc;cases h;exact(wb _ l rfl hc.1 hc.2).symm
  .cases h
 .rintro rfl;rw[A8,eZ (n+1) n J];simp only[AI,Cr];exact⟨ZR (n+1) n J,(aE4 (n+1) n J).1⟩
def afm{s:A4}{i:Nat}:inB (bt s i) 48 57=dig ((L s).getD i 0):=rfl
def aau{l:List UInt8}{f:UInt8->Bool}:Ae l.length (λi=>f<|l.getD i 0)=l.all f:=by
 rw[Iz,CO,Cr];constructor
 .intro h x hx;obtain⟨i,hi,rfl⟩:=Dt hx;have:=h i hi;simpa[hi] using this
 .intro h i hi;simpa[hi] using h _<|CQ hi
def abz{s:A4}{i:Nat}(h:∀j,j<i->inB (bt s j) 48 57=A1)(hi:i<=s.size):∀b∈(L s).take i,dig b=A1:=by
 intro b hb;obtain⟨j,hj,rfl⟩:=Dt hb;simp at hj;have h1:=h j J;rw[afm]at h1;have h2:j<(L s).length:=by rw[Ay];omega
 rw[List.getElem_take];have e:(L s).getD j 0=(L s)[j]:=by rw[BD,Ax h2];rfl
 rwa[e]at h1
def aDH{s:A4}{i:Nat}(hi:i<s.size):val ((L s).take<|i+1)=10 * val ((L s).take i)+(((L s).getD i 0).toNat - 48):=by
 rw[anY (by rw[Ay];exact hi),WZ]
def Aq(s:A4):Int×Bool:=if s.size<=5 then(match Jm (L s) with|some n=>((n:Int),A1)|none=>(0,A3)) else(0,A3)
def asm{s:A4}(h:1<=s.size):JN (L s)= !(A0 (bt s 0=48)&&A0 (1<(s.size:Int))):=by
 rw[show s.size=(L s).length from rfl]at *;unfold bt;show _= !(A0 ((((L s).getD 0 0).toNat:Int)=48)&&_);generalize L s=l at *
 match l with
 | []=>simp at h
 | [b]=>simp[JN]
 | b::c::m=>
  have:(((b:UInt8).toNat:Int)=48)↔b=48:=⟨λh=>R0.1 (by show b.toNat=48;omega),λh=>by subst h;rfl⟩;simp only[JN,List.getD_cons_zero,this];simp;omega
def aC0(s:A4):(L s).take s.size=L s:=J8 (by rw[Ay];exact As _)
def aX{s:A4}(hs:s.size<=9223372036854775807):Od (s,())=I (((Aq s).1,(Aq s).2,()),()):=by
 unfold Od Aq;simp only[EF,A9];by_cases h5:s.size<=5
 .by_cases h1:1<=s.size
  .have e1:inB (s.size:Int) 1 5=A1:=Af.2 ⟨J,J⟩;have e2:inb 0 s.size=A1:=by have:=AR (show 0<s.size by omega);simpa using this
   have FW:sS (s,0,0,())=I (if Ae s.size (λi=>inB (bt s i) 48 57) then .inr ((val (L s):Int),()) else .inl (0,A3,())):=by
    rw[← aC0 s];refine iK (λi=>(s,(val ((L s).take i):Int),(i:Int),())) s.size (λi=>inB (bt s i) 48 57) (0,A3,()) ((val ((L s).take s.size):Int),()) (λi hi hp=> ?_) (λ_=>by simp[cU]);unfold cU;simp only[AR hi,B7 hi,tG,EF,A9,B2 hi (by omega:s.size<=9223372036854775807)];rcases tf (inB (bt s i) 48 57) with h|h
    .have hv:=dJ 5 _ (by simp;omega)<|abz hp J;have hb:=Af.1 h;have e:w64 (w64 (10 * (val ((L s).take i):Int))+w64 (w8<|bt s i - 48))=(val ((L s).take<|i+1):Int):=by
      rw[aDH hi,NX,Aa (n:=10 * _) J J,p9 J J,Aa (n:=bt s i - 48) J J,Aa J J];rw[Kb]at hb ⊢;omega
     simp only[h,e];rfl
    .simp only[h];rfl
   rw[e1,e2,A8 h5];simp only[FW,AD,AG,BY,IA,A5];have F3:Ae s.size (λi=>inB (bt s i) 48 57)=(L s).all dig:=aau (l:=L s) (f:=dig);rw[F3];unfold Jm;rw[asm h1];rcases tf (A0 (bt s 0=48)&&A0 (1<(s.size:Int))) with h|h
   .rw[h];simp
   .rw[h];rcases tf ((L s).all dig) with h'|h'
    .rw[h'];rfl
    .rw[h'];rfl
  .have e1:inB (s.size:Int) 1 5=A3:=by simp[inB];omega
   have:L s=[]:=EE (by rw[Ay];omega);rw[e1,A8 h5,this];simp[Jm,JN]
 .have e1:inB (s.size:Int) 1 5=A3:=by simp[inB];omega
  rw[e1,AB h5];simp
def Ah(s:A4):Int:=if s.size<=4 then(match Jm (L s) with|some n=>(n:Int)|none=> -1) else -1
def aA7(u:Nat):BK (u:Int)=⟨(dcm u).toArray⟩:=by rw[BK,J1]
def pJ{s:A4}(hs:s.size<=9223372036854775807):PQ (s,())=I ((Ah s,()),()):=by
 unfold PQ Ah;by_cases h5:s.size<=4
 .by_cases h1:1<=s.size
  .have e1:(A0 ((s.size:Int)<1)||decide (4<(s.size:Int)))=A3:=by simp;omega
   have FW:pS (s,0,0,())=I (if Ae s.size (λi=>inB (bt s i) 48 57) then .inr (s,(val (L s):Int),()) else .inl (-1,())):=by
    rw[← aC0 s];refine iK (λi=>(s,(val ((L s).take i):Int),(i:Int),())) s.size (λi=>inB (bt s i) 48 57) (-1,()) (s,(val ((L s).take s.size):Int),()) (λi hi hp=> ?_) (λ_=>by simp[cR]);unfold cR;simp only[AR hi,B7 hi,B2 hi (by omega:s.size<=9223372036854775807)];rcases tf (inB (bt s i) 48 57) with h|h
    .have hv:=dJ 5 _ (by simp;omega)<|abz hp J;have hb:=Af.1 h;have e:w64 (w64 ((val ((L s).take i):Int) * 10)+w64 (w8<|bt s i - 48))=(val ((L s).take<|i+1):Int):=by
      rw[aDH hi,NX,Aa (n:=_ * 10) J J,p9 J J,Aa (n:=bt s i - 48) J J,Aa J J];rw[Kb]at hb ⊢;omega
     have e2:A0 (bt s i<48)=A3:=by simp;omega
     have e3:A0 (57<bt s i)=A3:=by simp;omega
     simp only[h,e,e2,e3];rfl
    .have hb:bt s i<48\/57<bt s i:=by
      have:=mt Af.2 (by rw[h];simp);omega
     simp only[h];obtain hb|hb:=hb
     .simp[hb]
     .have:¬bt s i<48:=J
      simp[hb,this]
   rw[e1,A8 h5];simp only[FW,A6];have F3:Ae s.size (λi=>inB (bt s i) 48 57)=(L s).all dig:=aau (l:=L s) (f:=dig);rw[F3];unfold Jm;rcases tf ((L s).all dig) with h'|h'
   .have hd:=Cr.1 h';have hv:=dJ 5 (L s) (by rw[Ay];omega) hd;simp only[h',A5,C9,AX,FG (n:=(val (L s):Int)) J J,A9,aA7];rcases tf (JN<|L s) with hl|hl
    .have:(⟨(dcm<|val<|L s).toArray⟩:A4)=s:=by
      apply Fm;rw[p7,wb _ _ rfl hd hl]
     simp[this,hl]
    .have:¬(⟨(dcm<|val<|L s).toArray⟩:A4)=s:=λh=>by
      have h2:=congrArg L h;rw[p7]at h2;rw[← h2,(aE4 (val (L s)+1) _ J).1]at hl;cases hl
     simp[this,hl]
   .rw[h'];rfl
  .have e1:(A0 ((s.size:Int)<1)||decide (4<(s.size:Int)))=A1:=by simp;omega
   have:L s=[]:=EE (by rw[Ay];omega);rw[e1,A8 h5,this];simp[Jm,JN]
 .have e1:(A0 ((s.size:Int)<1)||decide (4<(s.size:Int)))=A1:=by simp;omega
  rw[e1,AB h5];simp
def alk{s:A4}{n:Nat}:Aq s=((n:Int),A1)↔s.size<=5/\L s=dcm n:=by
 unfold Aq;by_cases h:s.size<=5
 .rw[A8 h];constructor
  .intro h2;cases h3:Jm (L s) with
   | none=>rw[h3]at h2;cases h2
   | some m=>
    rw[h3]at h2;simp at h2;exact⟨h,by rw[Q3.1 h3,show m=n by omega]⟩
  .rintro⟨_,h2⟩;rw[Q3.2 h2]
 .rw[AB h];constructor
  .intro h2;cases h2
  .rintro⟨h2,_⟩;exact absurd h2 h
def Q2(s:A4):Aq s=(0,A3)\/ ∃n:Nat,Aq s=((n:Int),A1)/\s.size<=5/\L s=dcm n:=by
 unfold Aq;by_cases h:s.size<=5
 .rw[A8 h];cases h2:Jm (L s) with
  | none=>exact .inl rfl
  | some n=>exact .inr ⟨n,rfl,h,Q3.1 h2⟩
 .rw[AB h];exact .inl rfl
def RI(s:A4):(Ah s= -1/\ ∀n,L s=dcm n->4<s.size)\/ ∃n:Nat,Ah s=(n:Int)/\s.size<=4/\L s=dcm n:=by
 unfold Ah;by_cases h:s.size<=4
 .rw[A8 h];cases h2:Jm (L s) with
  | none=>exact .inl ⟨rfl,λn hn=>by rw[Q3.2 hn]at h2;cases h2⟩
  | some n=>exact .inr ⟨n,rfl,h,Q3.1 h2⟩
 .rw[AB h];exact .inl ⟨rfl,λn _=>by omega⟩
def o5{s:A4}{n:Nat}(h:s.size<=4)(hn:L s=dcm n):Ah s=(n:Int):=by
 unfold Ah;rw[A8 h,Q3.2 hn]
def qd{s:A4}{n:Nat}(h:s.size<=5)(hn:L s=dcm n):Aq s=((n:Int),A1):=alk.2 ⟨h,hn⟩
section
variable {α:Type} (f:α->Bool)
def ins(l:List α)(n:α):List α:=l.takeWhile f++n::l.dropWhile f
abbrev tw(l:List α):Nat:=(l.takeWhile f).length
def RQ(l:List α):tw f l<=l.length:=by
 exact(aDi f).length_le
def bE(l:List α):l.take (tw f l)=l.takeWhile f:=by
 have:=List.take_left (l₁:=l.takeWhile f) (l₂:=l.dropWhile f);rwa[Yg]at this
def bw(l:List α):l.drop (tw f l)=l.dropWhile f:=by
 have:=List.drop_left (l₁:=l.takeWhile f) (l₂:=l.dropWhile f);rwa[Yg]at this
def Si:∀ {l:List α} {i:Nat} {x:α},i<tw f l->l[i]? =I x->f x=A1
 | [],i,x,h,hx=>by simp at hx
 | y::l,i,x,h,hx=>by
  unfold tw at h;rw[Rf]at h;split at h
  .rename_i hy;cases i with
   | zero=>simp at hx;subst hx;exact hy
   | succ i=>exact Si (l:=l) (i:=i) (by simpa using h) (by simpa using hx)
  .simp at h
def VV:∀ {l:List α} {x:α},l[tw f l]? =I x->f x=A3
 | [],x,hx=>by simp at hx
 | y::l,x,hx=>by
  unfold tw at hx;rw[Rf]at hx;split at hx
  .exact VV (l:=l) (by simpa using hx)
  .rename_i hy;simp at hx;subst hx;simpa using hy
def Xu(l:List α)(n:α):(ins f l n).length=l.length+1:=by
 have:=congrArg JT<|Yg (p:=f) (l:=l);rw[Ar]at this;simp only[ins,Ar,Bw];omega
def UB{l:List α}{n x:α}(h:x∈ins f l n):x=n\/x∈l:=by
 unfold ins at h;rw[Br,Bk]at h;obtain h|h|h:=h
 .exact .inr ((aDi f).mem h)
 .exact .inl h
 .exact .inr<|(List.dropWhile_sublist f).mem h
def Xp{l:List α}{n x:α}(h:x=n\/x∈l):x∈ins f l n:=by
 unfold ins;rw[Br,Bk];obtain h|h:=h
 .exact .inr (.inl h)
 .rw[← Yg (p:=f) (l:=l),Br]at h;obtain h|h:=h
  .exact .inl h
  .exact .inr<|.inr h
end
def kc{α:Type}{f g:α->Bool}:∀ {l:List α},(∀x∈l,f x=g x)->l.takeWhile f=l.takeWhile g/\l.dropWhile f=l.dropWhile g
 | [],_=>⟨rfl,rfl⟩
 | x::l,h=>by
  have ih:=kc (l:=l) (λy hy=>h y<|Al _ hy);rw[Rf,Rf,jS,jS,h x Ap,ih.1,ih.2];exact⟨rfl,rfl⟩
def ab1{α:Type}{f g:α->Bool}{l:List α}{n:α}(h:∀x∈l,f x=g x):ins f l n=ins g l n:=by
 unfold ins;rw[(kc h).1,(kc h).2]
def Dq{l:List A7}{i:Nat}{x:A7}(h:l[i]? =I x):nA l i=x:=Ir h
def Ge{l:List Mark}{i:Nat}{x:Mark}(h:l[i]? =I x):mA l i=x:=Ir h
def Cu(l:List A7)(n:A7):List A7:=ins (λx=>bef x.fr x.nu n.fr n.nu) l n
def ET(l:List Mark)(n:Mark):List Mark:=ins (λx=>bef x.mf x.mn n.mf n.mn) l n
def XV{α:Type}{l:List α}{i:Nat}{x:α}(h:l[i]? =I x):l.take i++[x]=l.take (i+1):=by
 rw[K5,h];rfl
def acY{α:Type}{l:List α}{i j:Nat}{x:α}(h:l[i]? =I x)(hj:j<=i):(l.take i).drop j++[x]=(l.take<|i+1).drop j:=by
 have hi:=(BP.1 h).1;rw[← XV h,lJ (by simp;omega)]
def DS{α:Type}(g:α->Bool)(l:List α)(n:α)(i:Nat):List α:=if i<=tw g l then l.take i else l.take (tw g l)++n::(l.take i).drop (tw g l)
def cn{α:Type}(g:α->Bool)(l:List α)(n:α)(i:Nat):(DS g l n i).length<=l.length+1:=by
 have:=RQ g l;unfold DS;split<;>simp<;>omega
def acR{α:Type}(g:α->Bool)(l:List α)(n:α):(if tw g l<l.length then DS g l n l.length else DS g l n l.length++[n])=ins g l n:=by
 have h:=RQ g l;unfold DS ins;split
 .rw[AB J,Ec,bE,bw]
 .rw[A8 J,Ec];have:tw g l=l.length:=J
  rw[← bE,← bw,this];simp
def uf{α:Type}{g:α->Bool}{l:List α}{n x:α}{i:Nat}(h:l[i]? =I x)(hi:i<tw g l):DS g l n i++[x]=DS g l n (i+1):=by
 unfold DS;rw[A8 J,A8 J,XV h]
def zW{α:Type}{g:α->Bool}{l:List α}{n x:α}{i:Nat}(h:l[i]? =I x)(hi:i=tw g l):DS g l n i++[n]++[x]=DS g l n (i+1):=by
 subst hi;unfold DS;rw[A8<|As _,AB J,← acY h<|As _];simp
def aAB{α:Type}{g:α->Bool}{l:List α}{n x:α}{i:Nat}(h:l[i]? =I x)(hi:tw g l<i):DS g l n i++[x]=DS g l n (i+1):=by
 unfold DS;rw[AB J,AB J,← acY h J];simp
def bX{l:List A7}{fr nu tt un:Int}{tx:A4}(hl:l.length<=1048576):PV (l,(fr,nu,tt,un,tx,()),())=I ((Cu l ⟨fr,nu,tt,un,tx⟩,()),()):=by
 have ht:=RQ (λx:A7=>bef x.fr x.nu fr nu) l;have h:mN (l,(fr,nu,tt,un,tx,()),0,())=I (.inr (l,(fr,nu,tt,un,tx,()),((tw (λx:A7=>bef x.fr x.nu fr nu) l:Nat):Int),())):=
  CS (λi=>(l,(fr,nu,tt,un,tx,()),(i:Int),())) (tw (λx:A7=>bef x.fr x.nu fr nu) l) (λi hi=>by
   have hi':i<l.length:=J
   have hx:=Ax hi';unfold Wq;simp only[AR hi',B7 hi',CK,RN,B2 hi' (by omega:l.length<=9223372036854775807),Dq hx,Si (λx:A7=>bef x.fr x.nu fr nu) hi hx];rfl) (by
   unfold Wq;generalize ht2:tw (λx:A7=>bef x.fr x.nu fr nu) l=t at *;rcases GN t l.length with hlt|hge
   .have hx:=Ax hlt;have:=VV (λx:A7=>bef x.fr x.nu fr nu) (l:=l) (x:=l[t]) (by rw[ht2];exact hx);simp only[AR hlt,B7 hlt,CK,RN,Dq hx,this];rfl
   .have e:A0 ((t:Int)<(l.length:Int))=A3:=by simp;omega
    simp only[e,HF,A5,AP,A6])
 unfold PV;have hb:(A0 (0<=((tw (λx:A7=>bef x.fr x.nu fr nu) l:Nat):Int))&&A0 (((tw (λx:A7=>bef x.fr x.nu fr nu) l:Nat):Int)<=(l.length:Int)))=A1:=by simp;omega
 simp only[h,C9,hb,A5,Bu,EW,C2,DJ,Ar,Bw,DX,Dd];rw[A8<|B9 J,A8<|B9 J,A8<|B9 J,bE,bw];simp[Cu,ins]
def Pb(l:List A7)(n:A7):List A7:=ins (λx=> !bef n.fr n.nu x.fr x.nu) l n
def YI{l:List A7}{fr nu tt un:Int}{tx:A4}(hl:l.length<=1048576):On (l,(fr,nu,tt,un,tx,()),())=I ((Pb l ⟨fr,nu,tt,un,tx⟩,()),()):=by
 let g:A7->Bool:=λx=> !bef fr nu x.fr x.nu
 have ht:=RQ g l;have h:kO (l,(fr,nu,tt,un,tx,()),[],A3,0,())=I (.inr ((fr,nu,tt,un,tx,()),DS g l ⟨fr,nu,tt,un,tx⟩ l.length,A0<|tw g l<l.length,())):=by
  refine CS (λi=>(l,(fr,nu,tt,un,tx,()),DS g l ⟨fr,nu,tt,un,tx⟩ i,A0<|tw g l<i,(i:Int),())) l.length (λi hi=> ?_) (by simp[dx]);have hx:=Ax hi;have hr:=cn g l ⟨fr,nu,tt,un,tx⟩ i;unfold dx;simp only[AR hi,B7 hi,CK,aD,B2 hi (by omega:l.length<=9223372036854775807),Dq hx,Bw,C2,DJ,B9<|show(DS g l ⟨fr,nu,tt,un,tx⟩ i).length+1<=4294967296 by omega];rcases I8 i (tw g l) with hlt|heq|hgt
  .have h1:bef fr nu l[i].fr l[i].nu=A3:=by simpa[g] using Si g hlt hx
   have h2:A0 (tw g l<i)=A3:=by simp;omega
   have h3:A0 (tw g l<i+1)=A3:=by simp;omega
   simp only[h1,h2,h3,IA,AG,A5,CG,C8,Bb,A6,Bi,CK,Dq hx,AR hi,B9<|show(DS g l ⟨fr,nu,tt,un,tx⟩ i).length+1<=4294967296 by omega,uf hx hlt,B2 hi (by omega:l.length<=9223372036854775807)]
  .have hx2:l[tw g l]? =I l[i]:=by rw[← heq];exact hx
   have h1:bef fr nu l[i].fr l[i].nu=A1:=by simpa[g] using VV g hx2
   have h2:A0 (tw g l<i)=A3:=by simp;omega
   have h3:A0 (tw g l<i+1)=A1:=by simp;omega
   have h4:DS g l ⟨fr,nu,tt,un,tx⟩ i++[⟨fr,nu,tt,un,tx⟩]++[l[i]]=DS g l ⟨fr,nu,tt,un,tx⟩ (i+1):=zW hx heq;simp only[h1,h2,h3,h4,IA,AG,A5,CG,C8,CZ,Bi,CK,Dq hx,AR hi,Ar,Bw,C2,DJ,B9<|show(DS g l ⟨fr,nu,tt,un,tx⟩ i).length+1+1<=4294967296 by omega,B2 hi (by omega:l.length<=9223372036854775807)]
  .have h2:A0 (tw g l<i)=A1:=by simp;omega
   have h3:A0 (tw g l<i+1)=A1:=by simp;omega
   simp only[h2,h3,HF,AD,A5,AP,A6,Bi,CK,Dq hx,AR hi,B9<|show(DS g l ⟨fr,nu,tt,un,tx⟩ i).length+1<=4294967296 by omega,aAB hx hgt,B2 hi (by omega:l.length<=9223372036854775807)]
 unfold On;simp only[h,C9];have he:=acR g l ⟨fr,nu,tt,un,tx⟩;have hr:=cn g l ⟨fr,nu,tt,un,tx⟩ l.length;unfold Pb;show _=I ((ins g l _,()),());rw[← he];by_cases hc:tw g l<l.length
 .simp[hc]
 .simp[hc,B9<|show(DS g l ⟨fr,nu,tt,un,tx⟩ l.length).length+1<=4294967296 by omega]
def Gg(t:Int)(l:List A7):List A7:=l.filter λx=>A0<|t<x.un
def mr{l:List Mark}{mf mn mu:Int}(hl:l.length<=1048576):Qd (l,(mf,mn,mu,()),())=I ((ET l ⟨mf,mn,mu⟩,()),()):=by
 have ht:=RQ (λx:Mark=>bef x.mf x.mn mf mn) l;have h:mX (l,(mf,mn,mu,()),0,())=I (.inr (l,(mf,mn,mu,()),((tw (λx:Mark=>bef x.mf x.mn mf mn) l:Nat):Int),())):=
  CS (λi=>(l,(mf,mn,mu,()),(i:Int),())) (tw (λx:Mark=>bef x.mf x.mn mf mn) l) (λi hi=>by
   have hi':i<l.length:=J
   have hx:=Ax hi';unfold ZZ;simp only[AR hi',B7 hi',F8,RN,B2 hi' (by omega:l.length<=9223372036854775807),Ge hx,Si (λx:Mark=>bef x.mf x.mn mf mn) hi hx];rfl) (by
   unfold ZZ;generalize ht2:tw (λx:Mark=>bef x.mf x.mn mf mn) l=t at *;rcases GN t l.length with hlt|hge
   .have hx:=Ax hlt;have:=VV (λx:Mark=>bef x.mf x.mn mf mn) (l:=l) (x:=l[t]) (by rw[ht2];exact hx);simp only[AR hlt,B7 hlt,F8,RN,Ge hx,this];rfl
   .have e:A0 ((t:Int)<(l.length:Int))=A3:=by simp;omega
    simp only[e,HF,A5,AP,A6])
 unfold Qd;have hb:(A0 (0<=((tw (λx:Mark=>bef x.mf x.mn mf mn) l:Nat):Int))&&A0 (((tw (λx:Mark=>bef x.mf x.mn mf mn) l:Nat):Int)<=(l.length:Int)))=A1:=by simp;omega
 simp only[h,C9,hb,A5,Bu,EW,C2,DJ,Ar,Bw,DX,Dd];rw[A8<|B9 J,A8<|B9 J,A8<|B9 J,bE,bw];simp[ET,ins]
def Ow(l:List Mark)(n:Mark):List Mark:=ins (λx=> !bef n.mf n.mn x.mf x.mn) l n
def iP{l:List Mark}{mf mn mu:Int}(hl:l.length<=1048576):Q7 (l,(mf,mn,mu,()),())=I ((Ow l ⟨mf,mn,mu⟩,()),()):=by
 let g:Mark->Bool:=λx=> !bef mf mn x.mf x.mn
 have ht:=RQ g l;have h:ko (l,(mf,mn,mu,()),[],A3,0,())=I (.inr ((mf,mn,mu,()),DS g l ⟨mf,mn,mu⟩ l.length,A0<|tw g l<l.length,())):=by
  refine CS (λi=>(l,(mf,mn,mu,()),DS g l ⟨mf,mn,mu⟩ i,A0<|tw g l<i,(i:Int),())) l.length (λi hi=> ?_) (by simp[cM]);have hx:=Ax hi;have hr:=cn g l ⟨mf,mn,mu⟩ i;unfold cM;simp only[AR hi,B7 hi,F8,aD,B2 hi (by omega:l.length<=9223372036854775807),Ge hx,Bw,C2,DJ,B9<|show(DS g l ⟨mf,mn,mu⟩ i).length+1<=4294967296 by omega];rcases I8 i (tw g l) with hlt|heq|hgt
  .have h1:bef mf mn l[i].mf l[i].mn=A3:=by simpa[g] using Si g hlt hx
   have h2:A0 (tw g l<i)=A3:=by simp;omega
   have h3:A0 (tw g l<i+1)=A3:=by simp;omega
   simp only[h1,h2,h3,IA,AG,A5,CG,C8,Bb,A6,Bi,F8,Ge hx,AR hi,B9<|show(DS g l ⟨mf,mn,mu⟩ i).length+1<=4294967296 by omega,uf hx hlt,B2 hi (by omega:l.length<=9223372036854775807)]
  .have hx2:l[tw g l]? =I l[i]:=by rw[← heq];exact hx
   have h1:bef mf mn l[i].mf l[i].mn=A1:=by simpa[g] using VV g hx2
   have h2:A0 (tw g l<i)=A3:=by simp;omega
   have h3:A0 (tw g l<i+1)=A1:=by simp;omega
   have h4:DS g l ⟨mf,mn,mu⟩ i++[⟨mf,mn,mu⟩]++[l[i]]=DS g l ⟨mf,mn,mu⟩ (i+1):=zW hx heq;simp only[h1,h2,h3,h4,IA,AG,A5,CG,C8,CZ,Bi,F8,Ge hx,AR hi,Ar,Bw,C2,DJ,B9<|show(DS g l ⟨mf,mn,mu⟩ i).length+1+1<=4294967296 by omega,B2 hi (by omega:l.length<=9223372036854775807)]
  .have h2:A0 (tw g l<i)=A1:=by simp;omega
   have h3:A0 (tw g l<i+1)=A1:=by simp;omega
   simp only[h2,h3,HF,AD,A5,AP,A6,Bi,F8,Ge hx,AR hi,B9<|show(DS g l ⟨mf,mn,mu⟩ i).length+1<=4294967296 by omega,aAB hx hgt,B2 hi (by omega:l.length<=9223372036854775807)]
 unfold Q7;simp only[h,C9];have he:=acR g l ⟨mf,mn,mu⟩;have hr:=cn g l ⟨mf,mn,mu⟩ l.length;unfold Ow;show _=I ((ins g l _,()),());rw[← he];by_cases hc:tw g l<l.length
 .simp[hc]
 .simp[hc,B9<|show(DS g l ⟨mf,mn,mu⟩ l.length).length+1<=4294967296 by omega]
def KN(t:Int)(l:List Mark):List Mark:=l.filter λx=>A0<|t<x.mu
def Wg{α:Type}{l:List α}{f:α->Bool}{i:Nat}{x:α}(h:l[i]? =I x):(l.take<|i+1).filter f=(l.take i).filter f++(if f x then [x] else []):=by
 rw[← XV h,bm];congr 1;cases hf:f x<;>simp[hf]
def aF{α:Type}{l:List α}{f:α->Bool}{i:Nat}:((l.take i).filter f).length<=l.length:=by
 have:=IG f<|l.take i;simp at this;omega
def adj{id ti nx t:Int}{held:List A7}{marks:List Mark}{inbox:List A7}(sm:Dc held marks inbox):Zh ((id,ti,nx,held,marks,inbox,()),t,())=I (((id,t,nx,Gg t held,KN t marks,inbox,()),()),()):=by
 have hl:=sm.hl;have ml:=sm.ml;have h0:nP (t,(id,ti,nx,held,marks,inbox,()),(0,0,0,[],[],[],()),(id,t,nx,[],[],inbox,()),held,(held.length:Int),0,())=I (.inr (t,(id,ti,nx,held,marks,inbox,()),(0,0,0,[],[],[],()),(id,t,nx,Gg t held,[],inbox,()),())):=by
  rw[show Gg t held=(held.take held.length).filter (λx=>A0<|t<x.un) by rw[Ec];rfl];refine CS (λi=>(t,(id,ti,nx,held,marks,inbox,()),(0,0,0,[],[],[],()),(id,t,nx,(held.take i).filter λx=>A0<|t<x.un,[],inbox,()),held,(held.length:Int),(i:Int),())) held.length (λi hi=> ?_) (by simp[bB]);have hx:=Ax hi;have hr:=aF (l:=held) (f:=λx=>A0<|t<x.un) (i:=i);unfold bB;simp only[AR hi,B7 hi,CK,Dq hx,B2 hi (by omega:held.length<=9223372036854775807),Wg hx,Bw,C2,DJ,B9<|show((held.take i).filter λx=>A0<|t<x.un).length+1<=4294967296 by omega];by_cases hc:t<held[i].un<;>simp[hc]
 have h1:gw (t,(0,0,0,[],[],[],()),(id,t,nx,Gg t held,[],inbox,()),marks,(marks.length:Int),0,())=I (.inr ((0,0,0,[],[],[],()),(id,t,nx,Gg t held,KN t marks,inbox,()),())):=by
  rw[show KN t marks=(marks.take marks.length).filter (λx=>A0<|t<x.mu) by rw[Ec];rfl];refine CS (λi=>(t,(0,0,0,[],[],[],()),(id,t,nx,Gg t held,(marks.take i).filter λx=>A0<|t<x.mu,inbox,()),marks,(marks.length:Int),(i:Int),())) marks.length (λi hi=> ?_) (by simp[Zm]);have hx:=Ax hi;have hr:=aF (l:=marks) (f:=λx=>A0<|t<x.mu) (i:=i);unfold Zm;simp only[AR hi,B7 hi,F8,Ge hx,B2 hi (by omega:marks.length<=9223372036854775807),Wg hx,Bw,C2,DJ,B9<|show((marks.take i).filter λx=>A0<|t<x.mu).length+1<=4294967296 by omega];by_cases hc:t<marks[i].mu<;>simp[hc]
 unfold Zh;simp only[h0,h1,C9]
def awX{id ti nx t:Int}{held:List A7}{marks:List Mark}{inbox:List A7}(sm:Dc held marks inbox):dI ((id,ti,nx,held,marks,inbox,()),t,())=I (((id,t,nx,Gg t held,KN t marks,inbox,()),()),()):=by
 have hl:=sm.hl;have ml:=sm.ml;have h0:nV (t,(id,ti,nx,held,marks,inbox,()),(0,0,0,[],[],[],()),[],0,())=I (.inr (t,(id,ti,nx,held,marks,inbox,()),(0,0,0,[],[],[],()),Gg t held,())):=by
  rw[show Gg t held=(held.take held.length).filter (λx=>A0<|t<x.un) by rw[Ec];rfl];refine CS (λi=>(t,(id,ti,nx,held,marks,inbox,()),(0,0,0,[],[],[],()),(held.take i).filter λx=>A0<|t<x.un,(i:Int),())) held.length (λi hi=> ?_) (by simp[ZB]);have hx:=Ax hi;have hr:=aF (l:=held) (f:=λx=>A0<|t<x.un) (i:=i);unfold ZB;simp only[AR hi,B7 hi,CK,Dq hx,B2 hi (by omega:held.length<=9223372036854775807),Wg hx,Bw,C2,DJ,B9<|show((held.take i).filter λx=>A0<|t<x.un).length+1<=4294967296 by omega];by_cases hc:t<held[i].un<;>simp[hc]
 have h1:oP (t,(id,ti,nx,held,marks,inbox,()),(0,0,0,[],[],[],()),Gg t held,[],0,())=I (.inr (t,(id,ti,nx,held,marks,inbox,()),(0,0,0,[],[],[],()),Gg t held,KN t marks,())):=by
  rw[show KN t marks=(marks.take marks.length).filter (λx=>A0<|t<x.mu) by rw[Ec];rfl];refine CS (λi=>(t,(id,ti,nx,held,marks,inbox,()),(0,0,0,[],[],[],()),Gg t held,(marks.take i).filter λx=>A0<|t<x.mu,(i:Int),())) marks.length (λi hi=> ?_) (by simp[Xn]);have hx:=Ax hi;have hr:=aF (l:=marks) (f:=λx=>A0<|t<x.mu) (i:=i);unfold Xn;simp only[AR hi,B7 hi,F8,Ge hx,B2 hi (by omega:marks.length<=9223372036854775807),Wg hx,Bw,C2,DJ,B9<|show((marks.take i).filter λx=>A0<|t<x.mu).length+1<=4294967296 by omega];by_cases hc:t<marks[i].mu<;>simp[hc]
 unfold dI;simp only[h0,h1,C9]
def H8(l:List A7)(i:Nat):List A7:=l.take i++l.drop (i+1)
def aye{l:List A7}{i:Nat}(hl:l.length<=1048576)(hi:i<l.length):S8 (l,(i:Int),())=I ((H8 l i,()),()):=by
 unfold S8;have h1:(A0 (0<=(i:Int))&&A0 ((i:Int)<=(l.length:Int)))=A1:=by simp;omega
 have h2:(A0 (0<=((i+1:Nat):Int))&&A0 (((i+1:Nat):Int)<=(l.length:Int)))=A1:=by simp;omega
 simp only[B2 hi (by omega:l.length<=9223372036854775807),h1,h2,A5,Bu,EW,C2,DJ,DX,Dd];rw[A8<|B9 J,A8<|B9 J];rfl
end Go.VS
namespace Go.VS
open Go
def B_L(s:A4):B (L s)=s:=Fm rfl
def Cs(l:List UInt8):Prop:=∀b∈l,b≠32
def LY:∀(l:List UInt8),Cs l\/ ∃w r,Cs w/\l=w++32::r
 | []=> .inl (λ_ h=>by cases h)
 | b::l=>by
  by_cases h:b=32
  .exact .inr ⟨[],l,(λ_ h=>by cases h),by rw[h];rfl⟩
  .rcases LY l with h1|⟨w,r,h1,h2⟩
   .refine .inl (λx hx=> ?_);rcases Bk.1 hx with rfl|hx
    .exact h
    .exact h1 x hx
   .refine .inr ⟨b::w,r,λx hx=> ?_,by rw[h2];rfl⟩;rcases Bk.1 hx with rfl|hx
    .exact h
    .exact h1 x hx
def l7:∀ {l:List UInt8},Cs l->Lib.index l [32]= -1
 | [],_=>rfl
 | b::l,h=>by
  rw[Vg];unfold Lib.indexByte;have h1:=h b Ap;rw[AB<|by simpa using h1,← Vg,l7 λx hx=>h x<|Al _ hx];rfl
def kS:∀ {w r:List UInt8},Cs w->Lib.index (w++32::r) [32]=w.length
 | [],r,_=>by rw[Vg];rfl
 | b::w,r,h=>by
  rw[Vg,L4];unfold Lib.indexByte;have h1:=h b Ap;rw[AB<|by simpa using h1,← Vg,kS λx hx=>h x<|Al _ hx,AB<|by simp];simp
def ah3{l:List UInt8}(h:Cs l):FV l [32]=(l,[],A3):=by
 unfold FV;rw[l7 h,AB J]
def ako{w r:List UInt8}(h:Cs w):FV (w++32::r) [32]=(w,r,A1):=by
 unfold FV;rw[kS h,A8 J];simp
def agB{s:A4}(hs:s.size<=1048576)(h:Cs (L s)):Uk (s,B [32],())=I ((s,noB,A3,()),()):=by
 show OQ _=_;unfold OQ;rw[A8 (by show s.size<_;omega)];show I ((B (FV (L s) [32]).1,B (FV (L s) [32]).2.1,(FV (L s) [32]).2.2,()),())=_;rw[ah3 h];show I ((B<|L s,noB,A3,()),())=_;rw[B_L]
def auN{s:A4}{w r:List UInt8}(hs:s.size<=1048576)(h:Cs w)(e:L s=w++32::r):Uk (s,B [32],())=I ((B w,B r,A1,()),()):=by
 show OQ _=_;unfold OQ;rw[A8 (by show s.size<_;omega)];show I ((B (FV (L s) [32]).1,B (FV (L s) [32]).2.1,(FV (L s) [32]).2.2,()),())=_;rw[e,ako h]
def mH{s:A4}{i:Nat}:A0 (bt s i=32)=A0 ((L s).getD i 0=32):=by
 rw[decide_eq_decide,Kb];exact⟨λh=>R0.1 (by show _=32;omega),λh=>by rw[h];rfl⟩
def aEt{s:A4}(hs:s.size<=1048576):mR (s,0,())=I (if FH s.size (λi=>A0<|bt s i=32)<0 then .inr (s,()) else
  .inl (s.extract 0 (FH s.size λi=>A0<|bt s i=32).toNat,s.extract ((FH s.size λi=>A0<|bt s i=32).toNat+1) s.size,())):=
 PJ (λi=>(s,(i:Int),())) s.size (λi=>A0<|bt s i=32) (λi=>(s.extract 0 i.toNat,s.extract (i.toNat+1) s.size,())) (s,()) (λi hi=>by
  have h1:(A0 (0<=(i:Int))&&A0 ((i:Int)<=(s.size:Int)))=A1:=by simp;omega
  have h2:(A0 (0<=((i+1:Nat):Int))&&A0 (((i+1:Nat):Int)<=(s.size:Int)))=A1:=by simp;omega
  unfold cm;simp only[AR hi,B7 hi,B2 hi (by omega:s.size<=9223372036854775807),h1,h2,A5,Bu];cases A0 (bt s i=32)<;>rfl) (by simp[cm])
def adb{n:Nat}{p:Nat->Bool}(h:∀i,i<n->p i=A3):FH n p= -1:=by
 rcases FO n p with⟨h1,_⟩|⟨i,h1,h2,h3,_⟩
 .exact h1
 .rw[h i h2]at h3;cases h3
def aEO{n i:Nat}{p:Nat->Bool}(hi:i<n)(hp:p i=A1)(h:∀j,j<i->p j=A3):FH n p=i:=by
 rcases FO n p with⟨_,h1⟩|⟨j,h1,h2,h3,h4⟩
 .rw[h1 i hi]at hp;cases hp
 .rcases I8 i j with h5|h5|h5
  .rw[h4 i h5]at hp;cases hp
  .rw[h1,h5]
  .rw[h j h5]at h3;cases h3
def ams{w r:List UInt8}{b:UInt8}:(w++b::r).getD w.length 0=b:=by simp
def yr{w r:List UInt8}{j:Nat}(h:j<w.length):(w++r).getD j 0∈w:=by
 rw[BD,G0 h,Ax h];exact CQ h
def aro{l:List UInt8}{j:Nat}(h:j<l.length):l.getD j 0∈l:=by
 rw[BD,Ax h];exact CQ h
def awT{s:A4}(hs:s.size<=1048576)(h:Cs (L s)):NM (s,())=I ((s,noB,()),()):=by
 unfold NM;simp only[aEt hs];rw[adb (λi hi=>by rw[mH];simpa using h _<|aro (by rw[Ay];exact hi))];rfl
def aiO{s:A4}{w r:List UInt8}(hs:s.size<=1048576)(h:Cs w)(e:L s=w++32::r):NM (s,())=I ((B w,B r,()),()):=by
 have hl:s.size=w.length+1+r.length:=by
  have:=congrArg JT e;rw[Ay]at this;simp at this;omega
 unfold NM;simp only[aEt hs];rw[aEO (i:=w.length) J (by rw[mH,e,ams];rfl) (λj hj=>by rw[mH,e];simpa using h _<|yr hj),AB J];have e1:s.extract 0 w.length=B w:=Fm (by rw[E5,e,L_B];simp);have e2:s.extract (w.length+1) s.size=B r:=Fm (by rw[E5,e,L_B,hl,show w++32::r=(w++[32])++r by simp,R5<|by simp,show w.length+1+r.length - (w.length+1)=r.length by omega,Ec]);simp only[Ea,Bu,e1,e2]
def wr(n:A7):A4:=((((((((BK n.fr++B [32])++BK n.nu)++B [32])++BK n.to)++B [32])++BK n.un)++B [32])++n.tx)
def wrL(n:A7):List UInt8:=BB n.fr++32::(BB n.nu++32::(BB n.to++32::(BB n.un++32::L n.tx)))
def Sj(n:Int):L (BK n)=BB n:=rfl
def QZ(n:A7):L (wr n)=wrL n:=by
 unfold wr wrL;simp only[GL,Sj,L_B,C7,L4,EW]
def ajj{n:Int}{k:Nat}(h0:0<=n)(h1:n<10 ^ k)(hk:1<=k):BB n=dcm n.toNat/\(BB n).length<=k:=by
 obtain⟨u,rfl⟩:=HO h0;rw[J1];refine⟨rfl,LL k u hk ?_⟩;have:((10 ^ k:Nat):Int)=(10:Int) ^ k:=by simp
 omega
structure Tz (n:A7):Prop where
 f0:0<=n.fr
 f1:n.fr<=3
 t0:0<=n.to
 t1:n.to<=3
 n0:1<=n.nu
 n1:n.nu<=99
 u0:1<=n.un
 u1:n.un<=999
 s0:1<=n.tx.size
 s1:n.tx.size<=24
def HL{n:A7}(h:B3 n=A1):Tz n:=by
 unfold B3 LC at h;simp only[AI,Af]at h;obtain⟨⟨a,b⟩,⟨c,d⟩,⟨e,f⟩,⟨g,i⟩,⟨j,k⟩,_⟩:=h;exact⟨a,b,c,d,e,f,g,i,J,J⟩
def H5{n:Int}{k:Nat}(h0:0<=n)(h1:n<10 ^ k)(hk:1<=k):(BK n).size<=k:=(ajj h0 h1 hk).2
def W7{fr nu tt un:Int}{tx:A4}(hs:tx.size<=1048576):Ma ((fr,nu,tt,un,tx,()),())=I ((if B3 ⟨fr,nu,tt,un,tx⟩ then wr ⟨fr,nu,tt,un,tx⟩ else noB,()),()):=by
 unfold Ma;simp only[Td hs,A9];rcases tf (B3 ⟨fr,nu,tt,un,tx⟩) with h|h
 .have hf:=HL h;obtain⟨f0,f1,t0,t1,n0,n1,u0,u1,s0,s1⟩:=hf;simp only at f0 f1 t0 t1 n0 n1 u0 u1 s0 s1;have a1:=H5 (n:=fr) (k:=1) f0 J J;have a2:=H5 (n:=nu) (k:=2) J J J;have a3:=H5 (n:=tt) (k:=1) t0 J J;have a4:=H5 (n:=un) (k:=3) J J J;have b:(B [32]).size=1:=rfl;simp only[h,AD,A6,Ik (n:=fr) J J,Ik (n:=nu) J J,Ik (n:=tt) J J,Ik (n:=un) J J,A9,Bg,b]
  repeat rw[A8 (by rw[decide_eq_true_eq];omega)]
  rfl
 .simp only[h,AG,A5,A6]
def Q8{fr nu tt un:Int}{tx:A4}(hs:tx.size<=1048576):KZ ((fr,nu,tt,un,tx,()),())=I ((if B3 ⟨fr,nu,tt,un,tx⟩ then wr ⟨fr,nu,tt,un,tx⟩ else noB,()),()):=by
 unfold KZ;simp only[Sx hs,A9];rcases tf (B3 ⟨fr,nu,tt,un,tx⟩) with h|h
 .have hf:=HL h;obtain⟨f0,f1,t0,t1,n0,n1,u0,u1,s0,s1⟩:=hf;simp only at f0 f1 t0 t1 n0 n1 u0 u1 s0 s1;have a1:=H5 (n:=fr) (k:=1) f0 J J;have a2:=H5 (n:=nu) (k:=2) J J J;have a3:=H5 (n:=tt) (k:=1) t0 J J;have a4:=H5 (n:=un) (k:=3) J J J;have b:(B [32]).size=1:=rfl;simp only[h,AD,A6,FG (n:=fr) J J,FG (n:=nu) J J,FG (n:=tt) J J,FG (n:=un) J J,A9,Bg,b]
  repeat rw[A8 (by rw[decide_eq_true_eq];omega)]
  rfl
 .simp only[h,AG,A5,A6]
def NG:List UInt8->Option (List UInt8×List UInt8)
 | []=>U
 | b::l=>if b=32 then I ([],l) else(NG l).map λp=>(b::p.1,p.2)
def TT:∀ {l:List UInt8},Cs l->NG l=U
 | [],_=>rfl
 | b::l,h=>by
  unfold NG;rw[AB<|h b Ap,TT λx hx=>h x<|Al _ hx];rfl
def Sm:∀ {w r:List UInt8},Cs w->NG (w++32::r)=I (w,r)
 | [],r,_=>rfl
 | b::w,r,h=>by
  rw[L4];unfold NG;rw[AB<|h b Ap,Sm λx hx=>h x<|Al _ hx];rfl
def wd(s:A4):A4×A4:=match NG (L s) with
 | some p=>(B p.1,B p.2)
 | none=>(s,noB)
def SK{s:A4}(h:Cs (L s)):wd s=(s,noB):=by unfold wd;rw[TT h]
def Lj{s:A4}{w r:List UInt8}(h:Cs w)(e:L s=w++32::r):wd s=(B w,B r):=by unfold wd;rw[e,Sm h]
def Sd(s:A4):(wd s).1.size<=s.size/\(wd s).2.size<=s.size:=by
 rcases LY (L s) with h|⟨w,r,h,e⟩
 .rw[SK h];exact⟨As _,Cw _⟩
 .rw[Lj h e];have:=congrArg JT e;rw[Ay]at this;simp at this;rw[BM,BM];exact⟨by show w.length<=_;omega,by show r.length<=_;omega⟩
def aEy{s:A4}(hs:s.size<=1048576):NM (s,())=I (((wd s).1,(wd s).2,()),()):=by
 rcases LY (L s) with h|⟨w,r,h,e⟩
 .rw[SK h,awT hs h]
 .rw[Lj h e,aiO hs h e]
def apx{s:A4}(hs:s.size<=1048576):Uk (s,B [32],())=I (((wd s).1,(wd s).2,(NG<|L s).isSome,()),()):=by
 rcases LY (L s) with h|⟨w,r,h,e⟩
 .rw[SK h,agB hs h,TT h];rfl
 .rw[Lj h e,auN hs h e,e,Sm h];rfl
def ED(s:A4):Nat->A4
 | 0=>s
 | i+1=>(wd<|ED s i).2
def Ao(s:A4)(i:Nat):A4:=(wd<|ED s i).1
def ay(s:A4):∀i,(ED s i).size<=s.size
 | 0=>As _
 | i+1=>CB (Sd<|ED s i).2 (ay s i)
def anm(s:A4)(i:Nat):(Ao s i).size<=s.size:=CB (Sd _).1<|ay s i
def ace{s:A4}{n:Nat}(hs:s.size<=1048576)(hn:n<=10):PL (s,(n:Int),())=I (((BN n).map λi=>Ah<|Ao s i,ED s n,()),()):=by
 have h:gb (s,(n:Int),[],0,())=I (.inr (ED s n,(BN n).map λi=>Ah<|Ao s i,())):=by
  refine CS (λi=>(ED s i,(n:Int),(BN i).map λi=>Ah<|Ao s i,(i:Int),())) n (λi hi=> ?_) (by simp[Xk]);have h1:=ay s i;have h2:=anm s i;unfold Xk;simp only[B7 hi,aEy<|show(ED s i).size<=1048576 by omega,A9,A5,pJ (show(wd<|ED s i).1.size<=9223372036854775807 by have:=(Sd<|ED s i).1;omega),
   EM,List.length_range,Bw,C2,DJ,B9<|show i+1<=4294967296 by omega,B2 hi (by omega:n<=9223372036854775807),L5,Ev,DW,IJ]
  rfl
 unfold PL;simp only[h,C9]
def abu{ws:List A4}(hl:ws.length<=1048577)(hw:∀w∈ws,w.size<=1048576):
  QY (ws,())=I ((if Ae ws.length (λi=>(Aq<|ws.getD i noB).2) then(ws.map λw=>(Aq w).1,A1,()) else([],A3,())),()):=by
 have h:mY ([],ws,(ws.length:Int),0,())=I (if Ae ws.length (λi=>(Aq<|ws.getD i noB).2) then .inr (ws.map λw=>(Aq w).1,()) else .inl ([],A3,())):=by
  rw[show ws.map (λw=>(Aq w).1)=(ws.take ws.length).map (λw=>(Aq w).1) by rw[Ec]];refine iK (λi=>((ws.take i).map λw=>(Aq w).1,ws,(ws.length:Int),(i:Int),())) ws.length (λi=>(Aq<|ws.getD i noB).2) ([],A3,()) ((ws.take ws.length).map λw=>(Aq w).1,()) (λi hi _=> ?_) (λ_=>by simp[cr]);have hx:=Ax hi;have hs:=hw _<|CQ hi;unfold cr;simp only[AR hi,B7 hi,OS,Ir hx,aX<|show ws[i].size<=9223372036854775807 by omega,A9,EM,DX,Bw,C2,DJ,
   B9 (show min i ws.length+1<=4294967296 by omega),B2 hi (by omega:ws.length<=9223372036854775807)]
  rw[← XV hx,Ev];rcases tf (Aq ws[i]).2 with h|h<;>simp[h]
 unfold QY;simp only[h];cases Ae ws.length (λi=>(Aq<|ws.getD i noB).2)<;>rfl
def Kq{w r:List UInt8}{k:Nat}(h:Cs w):GR [32] 0 (k+1) (w++32::r)=w::GR [32] 0 k r:=by
 conv=>lhs;unfold GR
 rw[kS h,AB<|by simp];show(w++32::r).take (w.length+0)::GR [32] 0 k ((w++32::r).drop<|w.length+1)=_;rw[Hn,Pp rfl,show w++32::r=(w++[32])++r by simp,R5<|by simp]
def bC{l:List UInt8}{k:Nat}(h:Cs l):GR [32] 0 k l=[l]:=by
 cases k with
 | zero=>rfl
 | succ k=>
  unfold GR;rw[l7 h];rfl
def join:List (List UInt8)->List UInt8
 | []=>[]
 | [x]=>x
 | x::y::l=>x++32::join (y::l)
def ah7(k:Nat)(l:List UInt8):∃x m,GR [32] 0 k l=x::m:=by
 cases k with
 | zero=>exact⟨l,[],rfl⟩
 | succ k=>
  rcases LY l with h|⟨w,r,h,rfl⟩
  .exact⟨l,[],bC h⟩
  .exact⟨w,_,Kq h⟩
def hY:∀(k:Nat) (l:List UInt8),join (GR [32] 0 k l)=l
 | 0,_=>rfl
 | k+1,l=>by
  rcases LY l with h|⟨w,r,h,rfl⟩
  .rw[bC h];rfl
  .rw[Kq h];have ih:=hY k r;obtain⟨x,m,e⟩:=ah7 k r;rw[e]at ih ⊢;show w++32::join (x::m)=_;rw[ih]
def avJ{ps:List A4}{ls:List (List UInt8)}(h:ps.map (·.data.toList)=ls):ps=ls.map B:=by
 subst h;rw[IQ]
 conv=>lhs;rw[← eG ps]
 exact Gz λs _=>(B_L s).symm
def yR(k:Nat)(s:A4):J9 (B [32]) 0 k s=(GR [32] 0 k<|L s).map B:=avJ<|Lib.splitB_data (B [32]) 0 k s
def awd{s:A4}(hs:s.size<=1048576):Zz (s,B [32],())=I (((GR [32] 0 ((L s).count 32)<|L s).map B,()),()):=by
 show V2 _=_;unfold V2;rw[A8 ⟨by show s.size<_;omega,by show 1<=1;omega⟩];show I ((J9 (B [32]) 0 (Lib.count (L s) [32]) s,()),())=_;rw[yR,Lib.count_one]
def aea{s:A4}(hs:s.size<=1048576):iS (s,B [32],5,())=I (((GR [32] 0 (min 5 (s.size+1) - 1)<|L s).map B,()),()):=by
 show Vf _=_;unfold Vf;rw[A8 ⟨by show s.size<_;omega,by show 1<=1;omega,by show(1:Int)<=5;omega,by show(5:Int)<=_;omega⟩];show I ((J9 (B [32]) 0 (min 5 (s.size+1) - 1) s,()),())=_;rw[yR]
def ady(u:Nat):Cs (dcm u):=λb hb h=>by
 have:=Af.1<|ZR (u+1) u J b hb;subst h;simp at this
def HS{n:Int}(h0:0<=n):Cs (BB n):=by
 obtain⟨u,rfl⟩:=HO h0;rw[J1];exact ady u
def MV{n:Int}(h0:0<=n)(h1:n<10000):Ah (B<|BB n)=n:=by
 obtain⟨u,rfl⟩:=HO h0;rw[J1];exact o5 (by rw[BM];exact LL 4 u J J)<|L_B _
def Im{n:Int}(h0:0<=n)(h1:n<100000):Aq (B<|BB n)=(n,A1):=by
 obtain⟨u,rfl⟩:=HO h0;rw[J1];exact qd (by rw[BM];exact LL 5 u J J)<|L_B _
open Classical in
def DI (s:A4):Option A7:=if h:∃n,B3 n=A1/\wr n=s then I (NT h) else U
def JX{s t:A4}{x:Int}{r:List UInt8}(h:wd s=(B<|BB x,B r)):(wd s).1=B (BB x)/\L (wd s).2=r:=by rw[h];exact⟨rfl,rfl⟩
def pW{n:A7}(hf:Tz n){s:A4}(e:L s=wrL n):Ao s 0=B (BB n.fr)/\Ao s 1=B (BB n.nu)/\Ao s 2=B (BB n.to)/\Ao s 3=B (BB n.un)/\ED s 4=n.tx:=by
 obtain⟨f0,f1,t0,t1,n0,n1,u0,u1,s0,s1⟩:=hf;unfold wrL at e;have e0:=Lj (HS f0) e;have c1:L (ED s 1)=_:=(JX (t:=s) e0).2;have e1:=Lj (HS<|show 0<=n.nu by omega) c1;have c2:L (ED s 2)=_:=(JX (t:=s) e1).2;have e2:=Lj (HS t0) c2;have c3:L (ED s 3)=_:=(JX (t:=s) e2).2;have e3:=Lj (HS<|show 0<=n.un by omega) c3;have c4:L (ED s 4)=_:=(JX (t:=s) e3).2;exact⟨(JX (t:=s) e0).1,(JX (t:=s) e1).1,(JX (t:=s) e2).1,(JX (t:=s) e3).1,Fm c4⟩
def afw{n:A7}(hf:Tz n):Ao (wr n) 0=B (BB n.fr)/\Ao (wr n) 1=B (BB n.nu)/\Ao (wr n) 2=B (BB n.to)/\Ao (wr n) 3=B (BB n.un)/\ED (wr n) 4=n.tx:=pW hf<|QZ n
def ae0{n m:A7}(h1:n.fr=m.fr)(h2:n.nu=m.nu)(h3:n.to=m.to)(h4:n.un=m.un)(h5:n.tx=m.tx):n=m:=by
 cases n;cases m;simp only at h1 h2 h3 h4 h5;subst h1 h2 h3 h4 h5;rfl
def YT{x y:Int}(h0:0<=x)(h1:x<10000)(h2:0<=y)(h3:y<10000)(h:B (BB x)=B (BB y)):x=y:=by
 rw[← MV h0 h1,← MV h2 h3,h]
def aek{n m:A7}(hn:B3 n=A1)(hm:B3 m=A1)(h:wr n=wr m):n=m:=by
 have fn:=HL hn;have fm:=HL hm;have a:=pW fn (s:=wr n)<|QZ n;have b:=pW fm (s:=wr n) (by rw[h];exact QZ m);clear h hn hm;generalize wr n=s at a b;obtain⟨a0,a1,a2,a3,a4⟩:=a;obtain⟨b0,b1,b2,b3,b4⟩:=b;obtain⟨f0,f1,t0,t1,n0,n1,u0,u1,s0,s1⟩:=fn;obtain⟨g0,g1,v0,v1,m0,m1,w0,w1,z0,z1⟩:=fm;exact ae0 (YT J J J J<|a0.symm.trans b0) (YT J J J J<|a1.symm.trans b1) (YT J J J J<|a2.symm.trans b2)
  (YT J J J J<|a3.symm.trans b3) (a4.symm.trans b4)
def RE{n:A7}(h:B3 n=A1):DI (wr n)=I n:=by
 unfold DI;have hex:∃m,B3 m=A1/\wr m=wr n:=⟨n,h,rfl⟩;rw[dif_pos hex];have:=It hex;rw[aek this.1 h this.2]
def JZ{s:A4}{n:A7}(h:DI s=I n):B3 n=A1/\wr n=s:=by
 unfold DI at h;split at h
 .rename_i hex;cases h;exact It hex
 .cases h
def jU{n:A7}(hf:Tz n):9<=(wr n).size:=by
 obtain⟨f0,f1,t0,t1,n0,n1,u0,u1,s0,s1⟩:=hf;have h:∀ {x:Int},0<=x->1<=(BB x).length:=fun {x} h0=>by
  obtain⟨u,rfl⟩:=HO h0;rw[J1];exact List.length_pos_iff.2<|je u
 rw[← Ay,QZ];unfold wrL;have a:=h f0;have b:=h (show 0<=n.nu by omega);have c:=h t0;have d:=h (show 0<=n.un by omega);have e:(L n.tx).length=n.tx.size:=rfl;simp only[Ar,Bw];omega
def UR(o:Option A7):(Int×Int×Int×Int×A4×A2)×Bool×A2:=match o with
 | some n=>((n.fr,n.nu,n.to,n.un,n.tx,()),A1,())
 | none=>((0,0,0,0,noB,()),A3,())
def xG{s:A4}(hs:s.size<=1048576):Rg (s,())=I (UR<|DI s,()):=by
 unfold Rg;have e4:PL (s,4,())=I (([Ah<|Ao s 0,Ah<|Ao s 1,Ah<|Ao s 2,Ah<|Ao s 3],ED s 4,()),()):=ace (n:=4) hs J;have hr:=ay s 4;have i0:inb 0 [Ah<|Ao s 0,Ah<|Ao s 1,Ah<|Ao s 2,Ah<|Ao s 3].length=A1:=rfl;have i1:inb 1 [Ah<|Ao s 0,Ah<|Ao s 1,Ah<|Ao s 2,Ah<|Ao s 3].length=A1:=rfl;have i2:inb 2 [Ah<|Ao s 0,Ah<|Ao s 1,Ah<|Ao s 2,Ah<|Ao s 3].length=A1:=rfl;have i3:inb 3 [Ah<|Ao s 0,Ah<|Ao s 1,Ah<|Ao s 2,Ah<|Ao s 3].length=A1:=rfl;have r0: @rd Int (dfl .int) [Ah<|Ao s 0,Ah<|Ao s 1,Ah<|Ao s 2,Ah<|Ao s 3] 0=Ah (Ao s 0):=rfl;have r1: @rd Int (dfl .int) [Ah<|Ao s 0,Ah<|Ao s 1,Ah<|Ao s 2,Ah<|Ao s 3] 1=Ah (Ao s 1):=rfl;have r2: @rd Int (dfl .int) [Ah<|Ao s 0,Ah<|Ao s 1,Ah<|Ao s 2,Ah<|Ao s 3] 2=Ah (Ao s 2):=rfl;have r3: @rd Int (dfl .int) [Ah<|Ao s 0,Ah<|Ao s 1,Ah<|Ao s 2,Ah<|Ao s 3] 3=Ah (Ao s 3):=rfl;simp only[e4,A9,i0,i1,i2,i3,r0,r1,r2,r3,Q8<|show(ED s 4).size<=1048576 by omega,CG,C8,A5,show ∀c,Ad c A1=A1 from λc=>rfl];generalize hx:(⟨Ah<|Ao s 0,Ah<|Ao s 1,Ah<|Ao s 2,Ah<|Ao s 3,ED s 4⟩:A7)=x at *;by_cases hc:s≠noB/\(if B3 x then wr x else noB)=s
 .obtain⟨h1,h2⟩:=hc;have hok:B3 x=A1:=by
   rcases tf (B3 x) with h|h
   .exact h
   .rw[h]at h2;exact absurd h2.symm h1
  rw[hok]at h2;simp only[A5]at h2;rw[AB<|by simp[h1,hok,h2],← h2,RE hok];subst hx;simp only[h2];rfl
 .rw[A8 (by
   by_cases h1:s=noB
   .simp[h1]
   .have h2:¬(if B3 x then wr x else noB)=s:=λh=>hc ⟨h1,h⟩;simp[h1,h2])]
  cases h:DI s with
  | none=>rfl
  | some n=>
   exfalso;obtain⟨h1,h2⟩:=JZ h;have hf:=HL h1;obtain⟨a0,a1,a2,a3,a4⟩:=afw hf;have hsz:=jU hf;obtain⟨f0,f1,t0,t1,n0,n1,u0,u1,s0,s1⟩:=hf;rw[h2]at a0 a1 a2 a3 a4;rw[a0,a1,a2,a3,a4,MV J J,MV J J,MV J J,MV J J]at hx;have hx:n=x:=hx;subst hx;refine hc ⟨λe=> ?_,by rw[h1];exact h2⟩;rw[h2,e]at hsz;exact absurd hsz<|by decide
def avg{n:A7}(hf:Tz n):GR [32] 0 4 (wrL n)=[BB n.fr,BB n.nu,BB n.to,BB n.un,L n.tx]:=by
 obtain⟨f0,f1,t0,t1,n0,n1,u0,u1,s0,s1⟩:=hf;unfold wrL;rw[Kq<|HS f0,Kq<|HS J,Kq<|HS t0,Kq<|HS J];rfl
def kI:∀(k:Nat) (l:List UInt8),∀p∈GR [32] 0 k l,p.length<=l.length
 | 0,l,p,hp=>by
  obtain rfl:=DB.1 hp;exact As _
 | k+1,l,p,hp=>by
  rcases LY l with h|⟨w,r,h,rfl⟩
  .rw[bC h]at hp;obtain rfl:=DB.1 hp;exact As _
  .rw[Kq h]at hp;rcases Bk.1 hp with rfl|hp
   .simp
   .have:=kI k r p hp;simp;omega
def pC:∀(k:Nat) (l:List UInt8),(GR [32] 0 k l).length<=k+1
 | 0,l=>As _
 | k+1,l=>by
  rcases LY l with h|⟨w,r,h,rfl⟩
  .rw[bC h];simp
  .rw[Kq h];have:=pC k r;simp;omega
def ahG{s:A4}(hs:s.size<=1048576):VH (s,())=I (UR<|DI s,()):=by
 unfold VH;simp only[aea hs,A9];generalize hk:min 5 (s.size+1) - 1=k;have hsz:=kI k<|L s;have hln:=pC k<|L s;have hwr:∀n,DI s=I n->GR [32] 0 k (L s)=[BB n.fr,BB n.nu,BB n.to,BB n.un,L n.tx]:=λn hn=>by
  obtain⟨h1,h2⟩:=JZ hn;have:=jU<|HL h1;rw[h2]at this;obtain rfl:k=4:=J
  rw[← h2,QZ];exact avg<|HL h1
 generalize GR [32] 0 k (L s)=ps at *;by_cases h5:ps.length=5
 .match ps,h5 with
  | [p0,p1,p2,p3,p4],_=>
   have hb:∀p∈[p0,p1,p2,p3,p4],(B p).size<=1048576:=λp hp=>by
    have:=hsz p hp;rw[Ay]at this;rw[BM];omega
   have e5:(!decide (((([p0,p1,p2,p3,p4]:List (List UInt8)).map B).length:Int)=5))=A3:=rfl;have e6:(A0 (0<=4)&&A0 ((4:Int)<=((([p0,p1,p2,p3,p4]:List (List UInt8)).map B).length:Int)))=A1:=rfl;have e7:BU (AM 4) (([p0,p1,p2,p3,p4]:List (List UInt8)).map B)=[B p0,B p1,B p2,B p3]:=rfl;simp only[e5,e6,e7,A5,A6];rw[abu (by simp) (λw hw=>by
    simp only[Bk,M7,or_false]at hw;obtain rfl|rfl|rfl|rfl:=hw
    .exact hb p0 (by simp)
    .exact hb p1 (by simp)
    .exact hb p2 (by simp)
    .exact hb p3<|by simp)]
   have sV:Ae [B p0,B p1,B p2,B p3].length (λi=>(Aq<|[B p0,B p1,B p2,B p3].getD i noB).2)=((Aq<|B p0).2&&((Aq<|B p1).2&&((Aq<|B p2).2&&((Aq<|B p3).2&&A1)))):=rfl;rw[sV];rcases tf ((Aq<|B p0).2&&((Aq<|B p1).2&&((Aq<|B p2).2&&((Aq<|B p3).2&&A1)))) with ha|ha
   .rw[ha];simp only[A5,A9,AD,A6,DW,IJ];have i0:inb 0 [(Aq<|B p0).1,(Aq<|B p1).1,(Aq<|B p2).1,(Aq<|B p3).1].length=A1:=rfl;have i1:inb 1 [(Aq<|B p0).1,(Aq<|B p1).1,(Aq<|B p2).1,(Aq<|B p3).1].length=A1:=rfl;have i2:inb 2 [(Aq<|B p0).1,(Aq<|B p1).1,(Aq<|B p2).1,(Aq<|B p3).1].length=A1:=rfl;have i3:inb 3 [(Aq<|B p0).1,(Aq<|B p1).1,(Aq<|B p2).1,(Aq<|B p3).1].length=A1:=rfl;have i4:inb 4 [B p0,B p1,B p2,B p3,B p4].length=A1:=rfl;have r0: @rd Int (dfl .int) [(Aq<|B p0).1,(Aq<|B p1).1,(Aq<|B p2).1,(Aq<|B p3).1] 0=(Aq<|B p0).1:=rfl;have r1: @rd Int (dfl .int) [(Aq<|B p0).1,(Aq<|B p1).1,(Aq<|B p2).1,(Aq<|B p3).1] 1=(Aq<|B p1).1:=rfl;have r2: @rd Int (dfl .int) [(Aq<|B p0).1,(Aq<|B p1).1,(Aq<|B p2).1,(Aq<|B p3).1] 2=(Aq<|B p2).1:=rfl;have r3: @rd Int (dfl .int) [(Aq<|B p0).1,(Aq<|B p1).1,(Aq<|B p2).1,(Aq<|B p3).1] 3=(Aq<|B p3).1:=rfl;have r4: @rd A4 (dfl .str) [B p0,B p1,B p2,B p3,B p4] 4=B p4:=rfl;have hp4:=hb p4 (by simp);simp only[i0,i1,i2,i3,i4,r0,r1,r2,r3,r4,A5,Td hp4,W7 hp4,A9,CG,C8,show ∀c,Ad c A1=A1 from λc=>rfl];generalize hx:(⟨(Aq<|B p0).1,(Aq<|B p1).1,(Aq<|B p2).1,(Aq<|B p3).1,B p4⟩:A7)=x at *;by_cases hc:B3 x=A1/\wr x=s
    .obtain⟨h1,h2⟩:=hc;rw[AB<|by simp[h1,h2],← h2,RE h1];subst hx;rfl
    .rw[A8 (by
      rcases tf (B3 x) with h1|h1
      .have h2:¬wr x=s:=λh=>hc ⟨h1,h⟩;simp[h1,h2]
      .simp[h1])]
     cases h:DI s with
     | none=>rfl
     | some n=>
      exfalso;obtain⟨h1,h2⟩:=JZ h;have hf:=HL h1;have hp:=hwr n h;simp only[MC,and_true]at hp;obtain⟨rfl,rfl,rfl,rfl,rfl⟩:=hp;obtain⟨f0,f1,t0,t1,n0,n1,u0,u1,s0,s1⟩:=hf;rw[Im J J,Im J J,Im J J,Im J J,B_L]at hx;have hx:n=x:=hx;subst hx;exact hc ⟨h1,h2⟩
   .rw[ha];simp only[A9,AG,A5,A6];cases h:DI s with
    | none=>rfl
    | some n=>
     exfalso;obtain⟨h1,h2⟩:=JZ h;have hf:=HL h1;have hp:=hwr n h;simp only[MC,and_true]at hp;obtain⟨rfl,rfl,rfl,rfl,rfl⟩:=hp;obtain⟨f0,f1,t0,t1,n0,n1,u0,u1,s0,s1⟩:=hf;rw[Im J J,Im J J,Im J J,Im J J]at ha;cases ha
 .have e5:(!decide (((ps.map B).length:Int)=5))=A1:=by simp;omega
  simp only[e5,A5];cases h:DI s with
  | none=>rfl
  | some n=>
   have:=congrArg JT<|hwr n h;simp at this;exact absurd this h5
abbrev KL:=Int×Int×Int×List A7×List Mark×List A7×A2
abbrev tK(k:AJ):KL:=(k.id,k.ti,k.nx,k.held,k.marks,k.inbox,())
def B5(r:Option ((KL×Bool×A2)×A2))(o:Option AJ):Prop:=match o with
 | some k=>r=I ((tK k,A1,()),())
 | none=>∃t,r=I ((t,A3,()),())
def B5.no{t:KL}:B5 (I ((t,A3,()),())) U:=⟨t,rfl⟩
def B5.eta{r:Option ((KL×Bool×A2)×A2)}{o:Option AJ}(h:B5 r o):
  B5 (r.bind λr=>I (((r.1.1.1,r.1.1.2.1,r.1.1.2.2.1,r.1.1.2.2.2.1,r.1.1.2.2.2.2.1,r.1.1.2.2.2.2.2.1,()),r.1.2.1,()),())) o:=by
 cases o with
 | some k=>
  have:r=_:=h;subst this;rfl
 | none=>
  obtain⟨t,rfl⟩:=h;exact⟨t,rfl⟩
def B5.ite{c:Bool}{a b:Option ((KL×Bool×A2)×A2)}{x y:Option AJ}(h1:c=A1->B5 a x)(h2:c=A3->B5 b y):B5 (if c then a else b) (if c then x else y):=by
 cases c
 .exact h2 rfl
 .exact h1 rfl
def B5.neg{c:Bool}{t:KL}{b:Option ((KL×Bool×A2)×A2)}{y:Option AJ}(h2:c=A3->B5 b y):B5 (if c then I ((t,A3,()),()) else b) (if c then U else y):=B5.ite (λ_=>B5.no) h2
def Fj(k:AJ)(n:A7):Option AJ:=
 if !B3 n then U else if A0 (n.un<=k.ti) then U else if A0 (0<=AY k.held n.fr n.nu) then U else if A0 (0<=AY k.inbox n.fr n.nu) then U else if A0 (0<=Bo k.marks n.fr n.nu) then U else
 if A0 (12<(k.held.length:Int)+k.marks.length+1) then U else
 if A0 (n.to=k.id) then I ⟨k.id,k.ti,k.nx,k.held,ET k.marks ⟨n.fr,n.nu,n.un⟩,Cu k.inbox n⟩ else I ⟨k.id,k.ti,k.nx,Cu k.held n,k.marks,k.inbox⟩
def acj{id ti nx fr nu tt un:Int}{tx:A4}{held:List A7}{marks:List Mark}{inbox:List A7}(sm:Dc held marks inbox)(hs:tx.size<=1048576):
  B5 (UT ((id,ti,nx,held,marks,inbox,()),(fr,nu,tt,un,tx,()),())) (Fj ⟨id,ti,nx,held,marks,inbox⟩ ⟨fr,nu,tt,un,tx⟩):=by
 have hl:=sm.hl;have ml:=sm.ml;unfold UT Fj;simp only[Td hs,Ja sm.hl,Ja sm.il,Rm sm.ml,bX sm.hl,bX sm.il,mr sm.ml,A9,
  Aa (n:=(held.length:Int)+marks.length) J J,Aa (n:=(held.length:Int)+marks.length+1) J J]
 exact B5.neg λ_=>B5.neg λ_=>B5.neg λ_=>B5.neg λ_=>B5.neg λ_=>B5.neg λ_=>B5.ite (λ_=>rfl) λ_=>rfl
def XG{l:List A7}{n:A7}(h:AY l n.fr n.nu<0):Pb l n=Cu l n:=by
 refine ab1 λx hx=> ?_;have hne:¬(x.fr=n.fr/\x.nu=n.nu):=λhc=>by
  rcases FO l.length (λi=>A0 ((nA l i).fr=n.fr)&&A0 ((nA l i).nu=n.nu)) with⟨_,h2⟩|⟨i,h1,_⟩
  .obtain⟨j,hj,rfl⟩:=Dt hx;have:=h2 j hj;rw[Dq<|Ax hj]at this;simp[hc.1,hc.2]at this
  .unfold AY at h;omega
 unfold bef;rw[Iz];simp;omega
def gZ{l:List Mark}{n:Mark}(h:Bo l n.mf n.mn<0):Ow l n=ET l n:=by
 refine ab1 λx hx=> ?_;have hne:¬(x.mf=n.mf/\x.mn=n.mn):=λhc=>by
  rcases FO l.length (λi=>A0 ((mA l i).mf=n.mf)&&A0 ((mA l i).mn=n.mn)) with⟨_,h2⟩|⟨i,h1,_⟩
  .obtain⟨j,hj,rfl⟩:=Dt hx;have:=h2 j hj;rw[Ge<|Ax hj]at this;simp[hc.1,hc.2]at this
  .unfold Bo at h;omega
 unfold bef;rw[Iz];simp;omega
def x7{id ti nx fr nu tt un:Int}{tx:A4}{held:List A7}{marks:List Mark}{inbox:List A7}(sm:Dc held marks inbox)(hs:tx.size<=1048576):
  B5 (Tw ((id,ti,nx,held,marks,inbox,()),(fr,nu,tt,un,tx,()),())) (Fj ⟨id,ti,nx,held,marks,inbox⟩ ⟨fr,nu,tt,un,tx⟩):=by
 have hl:=sm.hl;have ml:=sm.ml;have aE8:cQ ((id,ti,nx,held,marks,inbox,()),(fr,nu,tt,un,tx,()),())=
   I ((B3 ⟨fr,nu,tt,un,tx⟩&&(A0 (ti<un)&&(A0 (AY held fr nu<0)&&(A0 (Bo marks fr nu<0)&&A0 (AY inbox fr nu<0)))),()),()):=by
  unfold cQ;simp only[Sx hs,Hj sm.hl,Hj sm.il,R7 sm.ml,A9,CG,C8,show ∀c,Ad c A1=A1 from λc=>rfl,A5];rcases tf (B3 ⟨fr,nu,tt,un,tx⟩) with h1|h1<;>rcases tf (A0<|ti<un) with h2|h2<;>rcases tf (A0<|AY held fr nu<0) with h3|h3<;>simp only[h1,h2,h3,A5,A6,AX,AP]
 unfold Tw Fj;have Dg:=YI (l:=held) (fr:=fr) (nu:=nu) (tt:=tt) (un:=un) (tx:=tx) sm.hl;have Wv:=YI (l:=inbox) (fr:=fr) (nu:=nu) (tt:=tt) (un:=un) (tx:=tx) sm.il;have auf:=iP (l:=marks) (mf:=fr) (mn:=nu) (mu:=un) sm.ml;simp only[aE8,Dg,Wv,auf,A9];rcases tf (B3 ⟨fr,nu,tt,un,tx⟩) with h1|h1
 .rcases Ed un ti with h2|h2
  .simp only[h1,h2,AS,Ag,AX,AP,AG,AD,A5,A6];exact B5.no
  .rcases sgn (AY held fr nu) with h3|h3
   .rcases sgn (Bo marks fr nu) with h4|h4
    .rcases sgn (AY inbox fr nu) with h5|h5
     .have q1:AY held fr nu<0:=of_eq_true h3.1;have q2:Bo marks fr nu<0:=of_eq_true h4.1;have q3:AY inbox fr nu<0:=of_eq_true h5.1;have lN:=Xu (λx:A7=>bef x.fr x.nu fr nu) held ⟨fr,nu,tt,un,tx⟩;have lM:=Xu (λx:Mark=>bef x.mf x.mn fr nu) marks ⟨fr,nu,un⟩;have eN:Pb held ⟨fr,nu,tt,un,tx⟩=Cu held ⟨fr,nu,tt,un,tx⟩:=XG q1;have eI:Pb inbox ⟨fr,nu,tt,un,tx⟩=Cu inbox ⟨fr,nu,tt,un,tx⟩:=XG q3;have eM:Ow marks ⟨fr,nu,un⟩=ET marks ⟨fr,nu,un⟩:=gZ q2;have l1:((Cu held ⟨fr,nu,tt,un,tx⟩).length:Int)=held.length+1:=by unfold Cu;rw[lN];omega
      have l2:((ET marks ⟨fr,nu,un⟩).length:Int)=marks.length+1:=by unfold ET;rw[lM];omega
      simp only[h1,h2,h3,h4,h5,eN,eI,eM,l1,l2,AS,Ag,AX,AD,A6,
       Aa (n:=(held.length:Int)+1+marks.length) J J,Aa (n:=(held.length:Int)+(marks.length+1)) J J]
      rcases Ed ((held.length:Int)+marks.length+1) 12 with h6|h6
      .have a1:A0 ((held.length:Int)+1+marks.length<=12)=A1:=by have:=of_eq_true h6.1;simp;omega
       have a2:A0 ((held.length:Int)+(marks.length+1)<=12)=A1:=by have:=of_eq_true h6.1;simp;omega
       simp only[a1,a2,h6,Ag,A6];by_cases h7:tt=id
       .simp only[h7,AS,AD,A6,A5];rfl
       .simp only[h7,Ag,AG,A6,A5];rfl
      .have a1:A0 ((held.length:Int)+1+marks.length<=12)=A3:=by have:=of_eq_true h6.2;simp;omega
       have a2:A0 ((held.length:Int)+(marks.length+1)<=12)=A3:=by have:=of_eq_true h6.2;simp;omega
       simp only[a1,a2,h6,AS,A5];by_cases h7:tt=id
       .simp only[h7,AS,AD,A6];exact B5.no
       .simp only[h7,Ag,AG,A5];exact B5.no
     .simp only[h1,h2,h3,h4,h5,AS,Ag,AX,AP,AG,AD,A5,A6];exact B5.no
    .simp only[h1,h2,h3,h4,AS,Ag,AX,AP,AG,AD,A5,A6,ite_self];exact B5.no
   .simp only[h1,h2,h3,AS,Ag,AX,AP,AG,AD,A5,A6];exact B5.no
 .simp only[h1,AP,AG,A5];exact B5.no
abbrev Eb:A4:=B [116,105,109,101]
abbrev Ej:A4:=B [110,101,120,116]
abbrev Dw:A4:=B [111,119,110]
abbrev EO:A4:=B [116,97,107,101]
abbrev EG:A4:=B [104,101,108,100]
abbrev EV:A4:=B [105,110,98,111,120]
abbrev CY:A4:=B [108,101,116]
abbrev Ck:A4:=B [101,97,116]
abbrev DD:A4:=B [109,97,114,107]
def Ih(k:AJ)(w:A4)(n:Int):Option AJ:=
 if A0 (w=Eb)&&A0 (k.ti<n) then I ⟨k.id,n,k.nx,Gg n k.held,KN n k.marks,k.inbox⟩ else if A0 (w=Ej)&&A0 (k.nx<n) then I ⟨k.id,k.ti,n,k.held,k.marks,k.inbox⟩ else U
def awz{id ti nx n:Int}{w:A4}{held:List A7}{marks:List Mark}{inbox:List A7}(sm:Dc held marks inbox):
  B5 (Vr ((id,ti,nx,held,marks,inbox,()),w,n,())) (Ih ⟨id,ti,nx,held,marks,inbox⟩ w n):=by
 unfold Vr Ih;simp only[adj sm,A9];exact B5.ite (λ_=>rfl) λ_=>B5.ite (λ_=>rfl) λ_=>B5.no
def Gx(k:AJ)(w:A4)(n:A7):Option AJ:=
 if A0 (w=Dw)&&(A0 (n.fr=k.id)&&A0 (n.nu=k.nx)) then Fj ⟨k.id,k.ti,k.nx+1,k.held,k.marks,k.inbox⟩ n else if A0 (w=EO)&& !decide (n.fr=k.id) then Fj k n else
 if A0 (0<=AY k.held n.fr n.nu)||decide (0<=AY k.inbox n.fr n.nu) then U else if A0 (w=EG) then I ⟨k.id,k.ti,k.nx,Cu k.held n,k.marks,k.inbox⟩ else if A0 (w=EV) then I ⟨k.id,k.ti,k.nx,k.held,k.marks,Cu k.inbox n⟩ else U
def ahN{id ti nx fr nu tt un:Int}{w tx:A4}{held:List A7}{marks:List Mark}{inbox:List A7}(sm:Dc held marks inbox)(hs:tx.size<=1048576)(h0:0<=nx)(h1:nx<=1000):
  B5 (WQ ((id,ti,nx,held,marks,inbox,()),w,(fr,nu,tt,un,tx,()),())) (Gx ⟨id,ti,nx,held,marks,inbox⟩ w ⟨fr,nu,tt,un,tx⟩):=by
 have hj:(if A0 (w=Dw) then(I (.inr (w,(id,ti,nx,held,marks,inbox,()),(fr,nu,tt,un,tx,()),(0,0,0,([]:List A7),([]:List Mark),([]:List A7),()),A0 (fr=id)&&A0 (nu=nx),())):Option (((KL×Bool×A2)×A2) ⊕ (A4×KL×(Int×Int×Int×Int×A4×A2)×KL×Bool×A2))) else
   I (.inr (w,(id,ti,nx,held,marks,inbox,()),(fr,nu,tt,un,tx,()),(0,0,0,([]:List A7),([]:List Mark),([]:List A7),()),A3,())))=
   I (.inr (w,(id,ti,nx,held,marks,inbox,()),(fr,nu,tt,un,tx,()),(0,0,0,([]:List A7),([]:List Mark),([]:List A7),()),A0 (w=Dw)&&(A0 (fr=id)&&A0 (nu=nx)),())):=by
  cases A0 (w=Dw)<;>rfl
 unfold WQ Gx;simp only[hj,Bi];refine B5.ite (λ_=> ?_) λ_=> ?_
 .rw[Aa J J];exact(acj sm hs).eta
 refine B5.ite (λ_=>(acj sm hs).eta) λ_=> ?_;simp only[Ja sm.hl,Ja sm.il,A9,CG,C8,show ∀c,Ad c A1=A1 from λc=>rfl,A5];refine B5.neg λ_=> ?_;simp only[bX sm.hl,bX sm.il,A9];exact B5.ite (λ_=>rfl) λ_=>B5.ite (λ_=>rfl) λ_=>B5.no
def HM{l:List A7}{f n:Int}(h:0<=AY l f n):(AY l f n).toNat<l.length/\((AY l f n).toNat:Int)=AY l f n/\(nA l (AY l f n).toNat).fr=f/\(nA l (AY l f n).toNat).nu=n:=by
 rcases FO l.length (λi=>A0 ((nA l i).fr=f)&&A0 ((nA l i).nu=n)) with⟨h1,_⟩|⟨i,h1,h2,h3,_⟩
 .unfold AY at h;omega
 .have e:AY l f n=(i:Int):=h1;rw[e];simp at h3;exact⟨h2,rfl,h3.1,h3.2⟩
def Lm{l:List A7}{f n:Int}(h:0<=AY l f n):inb (AY l f n) l.length=A1:=by
 obtain⟨h1,h2,_⟩:=HM h;rw[← h2];exact AR h1
def qv{l:List A7}{f n:Int}:Ad (A0<|0<=AY l f n) (inb (AY l f n) l.length)=A1:=by
 rcases tf (A0<|0<=AY l f n) with h|h
 .rw[h,IA,Lm<|BT h]
 .rw[h,HF]
def FQ(l:List A7)(m:Mark):Bool:=A0 (0<=AY l m.mf m.mn)&&A0 ((nA l (AY l m.mf m.mn).toNat).un=m.mu)
def FM(k:AJ)(w:A4)(m:Mark):Option AJ:=
 if A0 (w=CY)&&FQ k.held m then I ⟨k.id,k.ti,k.nx,H8 k.held (AY k.held m.mf m.mn).toNat,ET k.marks m,k.inbox⟩ else
 if A0 (w=Ck)&&FQ k.inbox m then I ⟨k.id,k.ti,k.nx,k.held,k.marks,H8 k.inbox (AY k.inbox m.mf m.mn).toNat⟩ else
 if A0 (w=DD)&& !decide (0<=Bo k.marks m.mf m.mn) then I ⟨k.id,k.ti,k.nx,k.held,ET k.marks m,k.inbox⟩ else U
def zz{l:List A7}{f n:Int}(hl:l.length<=1048576)(h:0<=AY l f n):S8 (l,AY l f n,())=I ((H8 l (AY l f n).toNat,()),()):=by
 obtain⟨h1,h2,_⟩:=HM h
 conv=>lhs;rw[← h2]
 exact aye hl h1
def axA{id ti nx a b c:Int}{w:A4}{held:List A7}{marks:List Mark}{inbox:List A7}(sm:Dc held marks inbox):
  B5 (Uw ((id,ti,nx,held,marks,inbox,()),w,(a,b,c,()),())) (FM ⟨id,ti,nx,held,marks,inbox⟩ w ⟨a,b,c⟩):=by
 unfold Uw FM;simp only[Ja sm.hl,Ja sm.il,Rm sm.ml,A9,qv,HF,A5];have hj:(if A0 (w=CY) then(I (.inr (w,(id,ti,nx,held,marks,inbox,()),(a,b,c,()),(0,0,0,([]:List A7),([]:List Mark),([]:List A7),()),AY held a b,AY inbox a b,A0<|0<=Bo marks a b,A0 (0<=AY held a b)&&A0 ((@rd A7 (dfl .note) held<|AY held a b).un=c),())):Option (((KL×Bool×A2)×A2) ⊕ (A4×KL×(Int×Int×Int×A2)×KL×Int×Int×Bool×Bool×A2))) else
   I (.inr (w,(id,ti,nx,held,marks,inbox,()),(a,b,c,()),(0,0,0,([]:List A7),([]:List Mark),([]:List A7),()),AY held a b,AY inbox a b,A0<|0<=Bo marks a b,A3,())))=
   I (.inr (w,(id,ti,nx,held,marks,inbox,()),(a,b,c,()),(0,0,0,([]:List A7),([]:List Mark),([]:List A7),()),AY held a b,AY inbox a b,A0<|0<=Bo marks a b,A0 (w=CY)&&FQ held ⟨a,b,c⟩,())):=by
  cases A0 (w=CY)<;>rfl
 simp only[hj,Bi];refine B5.ite (λh=> ?_) λ_=> ?_
 .simp only[FQ,AI,decide_eq_true_eq]at h;simp only[zz sm.hl h.2.1,mr sm.ml,A9];rfl
 simp only[qv,HF,A5];have hj2:(if A0 (w=Ck) then(I (.inr (w,(id,ti,nx,held,marks,inbox,()),(a,b,c,()),(0,0,0,([]:List A7),([]:List Mark),([]:List A7),()),AY inbox a b,A0<|0<=Bo marks a b,A0 (0<=AY inbox a b)&&A0 ((@rd A7 (dfl .note) inbox<|AY inbox a b).un=c),())):Option (((KL×Bool×A2)×A2) ⊕ (A4×KL×(Int×Int×Int×A2)×KL×Int×Bool×Bool×A2))) else
   I (.inr (w,(id,ti,nx,held,marks,inbox,()),(a,b,c,()),(0,0,0,([]:List A7),([]:List Mark),([]:List A7),()),AY inbox a b,A0<|0<=Bo marks a b,A3,())))=
   I (.inr (w,(id,ti,nx,held,marks,inbox,()),(a,b,c,()),(0,0,0,([]:List A7),([]:List Mark),([]:List A7),()),AY inbox a b,A0<|0<=Bo marks a b,A0 (w=Ck)&&FQ inbox ⟨a,b,c⟩,())):=by
  cases A0 (w=Ck)<;>rfl
 simp only[hj2,Bi];refine B5.ite (λh=> ?_) λ_=> ?_
 .simp only[FQ,AI,decide_eq_true_eq]at h;simp only[zz sm.il h.2.1,A9];rfl
 simp only[mr sm.ml,A9];exact B5.ite (λ_=>rfl) λ_=>B5.no
structure Ek (k:AJ):Prop where
 id0:0<=k.id
 id1:k.id<=3
 t0:0<=k.ti
 t1:k.ti<=999
 n0:1<=k.nx
 n1:k.nx<=100
 hl:k.held.length<=6
 h:EL k.held=A1
 ml:k.marks.length<=12
 m:Hm k.marks=A1
 il:k.inbox.length<=6
 i:EL k.inbox=A1
 ho:∀i,i<k.held.length->Gj k.id k.ti k.nx k.held k.marks i=A1
 mo:∀i,i<k.marks.length->Jo k.id k.ti k.nx k.marks i=A1
 io:∀i,i<k.inbox.length->IM k.id k.ti k.nx k.marks k.inbox i=A1
def Cl{k:AJ}(h:Aw k=A1):Ek k:=by
 unfold Aw at h;simp only[AI,Af,decide_eq_true_eq,CO]at h;obtain⟨⟨a,b⟩,⟨c,d⟩,⟨e,f⟩,⟨g,i⟩,⟨j,l⟩,⟨m,n⟩,o,p,q⟩:=h;exact⟨a,b,c,d,e,f,J,i,J,l,J,n,o,p,q⟩
def Gi{l:List A7}(h:EL l=A1){i:Nat}(hi:i<l.length):B3 (nA l i)=A1:=by
 have:=CO.1 h i hi;simp only[AI]at this;exact this.1
def Uo{l:List Mark}(h:Hm l=A1){i:Nat}(hi:i<l.length):G3 (mA l i)=A1:=by
 have:=CO.1 h i hi;simp only[AI]at this;exact this.1
def aaG{l:List A7}(h:EL l=A1){x:A7}(hx:x∈l):B3 x=A1:=by
 obtain⟨i,hi,rfl⟩:=Dt hx;have:=Gi h hi;rwa[Dq<|Ax hi]at this
def ape{l:List Mark}(h:Hm l=A1){x:Mark}(hx:x∈l):G3 x=A1:=by
 obtain⟨i,hi,rfl⟩:=Dt hx;have:=Uo h hi;rwa[Ge<|Ax hi]at this
def KY{n:A7}(h:B3 n=A1):Fu n:=by
 have:=(HL h).s1;unfold Fu;omega
def Ek.sm{k:AJ}(h:Ek k):Dc k.held k.marks k.inbox:=by
 obtain⟨id0,id1,t0,t1,n0,n1,hl,hh,ml,m,il,hi,ho,mo,io⟩:=h;exact⟨J,λx hx=>KY<|aaG hh hx,J,J,λx hx=>KY<|aaG hi hx⟩
def Pv{l:List A7}{n:A7}(hl:l.length<=6)(h:∀x∈l,Fu x)(hn:Fu n):(Cu l n).length<=1048576/\ ∀x∈Cu l n,Fu x:=by
 refine⟨by unfold Cu;rw[Xu];omega,λx hx=> ?_⟩;rcases UB _ hx with rfl|hx
 .exact hn
 .exact h x hx
def V8{l:List Mark}{n:Mark}(hl:l.length<=12):(ET l n).length<=1048576:=by unfold ET;rw[Xu];omega
def cH{l:List A7}{i:Nat}(hl:l.length<=6)(h:∀x∈l,Fu x):(H8 l i).length<=1048576/\ ∀x∈H8 l i,Fu x:=by
 refine⟨by unfold H8;simp;omega,λx hx=> ?_⟩;unfold H8 at hx;rcases Br.1 hx with hx|hx
 .exact h x (Ib hx)
 .exact h x<|Io hx
abbrev SmK(k:AJ):Prop:=Dc k.held k.marks k.inbox
def fY{k k':AJ}{n:A7}(hf:Ek k)(hk:k'.held=k.held/\k'.marks=k.marks/\k'.inbox=k.inbox){o:AJ}(h:Fj k' n=I o):SmK o:=by
 have sm:=hf.sm;have l1:=hf.hl;have l2:=hf.ml;have l3:=hf.il;unfold Fj at h;rw[hk.1,hk.2.1,hk.2.2]at h;split at h
 .cases h
 rename_i hn;have hn:Fu n:=KY (by simpa using hn)
 iterate 5 (split at h;· cases h)
 split at h<;>cases h
 .have a:=Pv l3 sm.i hn;exact⟨sm.hl,sm.h,V8 l2,a.1,a.2⟩
 .have a:=Pv l1 sm.h hn;exact⟨a.1,a.2,sm.ml,sm.il,sm.i⟩
def ayX{k:AJ}{w:A4}{n:Int}(hf:Ek k){o:AJ}(h:Ih k w n=I o):SmK o:=by
 have sm:=hf.sm;have l1:=hf.hl;have l2:=hf.ml;unfold Ih at h;split at h
 .cases h;have a:=IG (λx:A7=>A0<|n<x.un) k.held;have b:=IG (λx:Mark=>A0<|n<x.mu) k.marks;exact⟨by unfold Gg;simp only;omega,λx hx=>sm.h x (Gy.1 hx).1,by unfold KN;simp only;omega,sm.il,sm.i⟩
 .split at h<;>cases h;exact sm
def axH{k:AJ}{w:A4}{n:A7}(hf:Ek k)(hn:B3 n=A1){o:AJ}(h:Gx k w n=I o):SmK o:=by
 have sm:=hf.sm;unfold Gx at h;split at h
 .exact fY (k':=⟨k.id,k.ti,k.nx+1,k.held,k.marks,k.inbox⟩) hf ⟨rfl,rfl,rfl⟩ h
 split at h
 .exact fY (k':=k) hf ⟨rfl,rfl,rfl⟩ h
 split at h
 .cases h
 split at h
 .cases h;have a:=Pv hf.hl sm.h<|KY hn;exact⟨a.1,a.2,sm.ml,sm.il,sm.i⟩
 split at h<;>cases h;have a:=Pv hf.il sm.i<|KY hn;exact⟨sm.hl,sm.h,sm.ml,a.1,a.2⟩
def axB{k:AJ}{w:A4}{m:Mark}(hf:Ek k){o:AJ}(h:FM k w m=I o):SmK o:=by
 have sm:=hf.sm;unfold FM at h;split at h
 .cases h;have a:=cH (i:=(AY k.held m.mf m.mn).toNat) hf.hl sm.h;exact⟨a.1,a.2,V8 hf.ml,sm.il,sm.i⟩
 split at h
 .cases h;have a:=cH (i:=(AY k.inbox m.mf m.mn).toNat) hf.il sm.i;exact⟨sm.hl,sm.h,sm.ml,a.1,a.2⟩
 split at h<;>cases h;exact⟨sm.hl,sm.h,V8 hf.ml,sm.il,sm.i⟩
def nv{k:AJ}{w:A4}{m:Mark}(hf:Ek k)(hm:G3 m=A3):FM k w m=U\/ ∃o,FM k w m=I o/\Aw o=A3:=by
 have hit:∀l,EL l=A1->FQ l m=A3:=λl hl=>by
  unfold FQ;rcases tf (A0<|0<=AY l m.mf m.mn) with h|h
  .obtain⟨h1,_,h2,h3⟩:=HM<|BT h;rw[h,AX,decide_eq_false_iff_not];intro h4;have h5:=HL<|Gi hl h1;have:G3 m=A1:=by
    unfold G3;simp only[AI,Af];have:=h5.f0;have:=h5.f1;have:=h5.n0;have:=h5.n1;have:=h5.u0;have:=h5.u1;omega
   rw[this]at hm;cases hm
  .rw[h];rfl
 unfold FM;rw[hit _ hf.h,hit _ hf.i,Bb,Bb,A6,A6];split
 .refine .inr ⟨_,rfl, ?_⟩;rcases tf (Aw ⟨k.id,k.ti,k.nx,k.held,ET k.marks m,k.inbox⟩) with h|h
  .have:=ape (Cl h).m (Xp (λx=>bef x.mf x.mn m.mf m.mn) (l:=k.marks) (n:=m)<|.inl rfl);rw[hm]at this;cases this
  .exact h
 .exact .inl rfl
def HD(r:A4):Option Mark:=match GR [32] 0 ((L r).count 32) (L r) with
 | [p,q,t]=>if(Aq<|B p).2&&((Aq<|B q).2&&((Aq<|B t).2&&A1)) then I ⟨(Aq<|B p).1,(Aq<|B q).1,(Aq<|B t).1⟩ else U
 | _=>U
def Bx(k:AJ)(w r:A4):Option AJ:=
 if A0 (w=Eb)||decide (w=Ej) then(if(Aq r).2 then Ih k w (Aq r).1 else U) else
 if A0 (w=Dw)||(A0 (w=EO)||(A0 (w=EG)||decide (w=EV))) then(match DI r with|some n=>Gx k w n|none=>U) else
 if A0 (w=CY)||(A0 (w=Ck)||decide (w=DD)) then(match HD r with|some m=>FM k w m|none=>U) else U
def G8(k:AJ)(rec:A4):Option AJ:=if !(NG<|L rec).isSome then U else Bx k (wd rec).1 (wd rec).2
def auj{id ti nx:Int}{w r:A4}{held:List A7}{marks:List Mark}{inbox:List A7}(sm:Dc held marks inbox)(hr:r.size<=1048576):
  B5 ((Zz (r,B [32],())).bind λr46=>(QY (r46.1.1,())).bind λr47=>
   if r47.1.2.1&&A0 ((r47.1.1.length:Int)=3) then(if inb 0 r47.1.1.length then(if inb 1 r47.1.1.length then(if inb 2 r47.1.1.length then
    (Uw ((id,ti,nx,held,marks,inbox,()),w,((@rd Int (dfl .int) r47.1.1 0),(@rd Int (dfl .int) r47.1.1 1),(@rd Int (dfl .int) r47.1.1 2),()),())).bind λr48=>I (((r48.1.1.1,r48.1.1.2.1,r48.1.1.2.2.1,r48.1.1.2.2.2.1,r48.1.1.2.2.2.2.1,r48.1.1.2.2.2.2.2.1,()),r48.1.2.1,()),())
    else U) else U) else U)
   else I (((id,ti,nx,held,marks,inbox,()),A3,()),())) (match HD r with|some m=>FM ⟨id,ti,nx,held,marks,inbox⟩ w m|none=>U):=by
 unfold HD;simp only[awd hr,A9];have hsz:=kI ((L r).count 32)<|L r;have hln:=pC ((L r).count 32)<|L r;have azz:(L r).count 32<=r.size:=List.count_le_length;generalize GR [32] 0 ((L r).count 32) (L r)=ps at *;have hb:∀p∈ps,(B p).size<=1048576:=λp hp=>by
  have:=hsz p hp;rw[Ay]at this;rw[BM];omega
 rw[abu (by simp;omega) (λw hw=>by
  obtain⟨p,hp,rfl⟩:=DP.1 hw;exact hb p hp)]
 simp only[A9];by_cases h3:ps.length=3
 .match ps,h3 with
  | [p,q,t],_=>
   have sV:Ae (([p,q,t]:List (List UInt8)).map B).length (λi=>(Aq<|(([p,q,t]:List (List UInt8)).map B).getD i noB).2)=((Aq<|B p).2&&((Aq<|B q).2&&((Aq<|B t).2&&A1))):=rfl;rw[sV];rcases tf ((Aq<|B p).2&&((Aq<|B q).2&&((Aq<|B t).2&&A1))) with h|h
   .simp only[h,A5];exact(axA sm).eta
   .simp only[h,A6,AP];exact B5.no
 .have e1:∀c:Bool,(((if c then(((ps.map B).map λw=>(Aq w).1),A1,()) else(([]:List Int),A3,())).2.1&&A0 ((((if c then(((ps.map B).map λw=>(Aq w).1),A1,()) else(([]:List Int),A3,())):List Int×Bool×A2).1.length:Int)=3))=A3):=by
   intro c;cases c
   .rfl
   .simp;omega
  rw[AB (by rw[e1];simp)];have e2:(match ps with|[p,q,t]=>if(Aq<|B p).2&&((Aq<|B q).2&&((Aq<|B t).2&&A1)) then I (⟨(Aq<|B p).1,(Aq<|B q).1,(Aq<|B t).1⟩:Mark) else U|_=>U)=U:=by
   split
   .exact absurd rfl h3
   .rfl
  rw[e2];exact B5.no
def aqB{id ti nx:Int}{w r:A4}{held:List A7}{marks:List Mark}{inbox:List A7}(sm:Dc held marks inbox)(hr:r.size<=1048576){t:KL}:
  B5 ((Od (r,())).bind λr33=>if r33.1.2.1 then(Vr ((id,ti,nx,held,marks,inbox,()),w,r33.1.1,())).bind λr34=>I (((r34.1.1.1,r34.1.1.2.1,r34.1.1.2.2.1,r34.1.1.2.2.2.1,r34.1.1.2.2.2.2.1,r34.1.1.2.2.2.2.2.1,()),r34.1.2.1,()),())
   else I ((t,A3,()),())) (if(Aq r).2 then Ih ⟨id,ti,nx,held,marks,inbox⟩ w (Aq r).1 else U):=by
 simp only[aX<|show r.size<=9223372036854775807 by omega,A9];exact B5.ite (λ_=>(awz sm).eta) λ_=>B5.no
def apf{id ti nx:Int}{w r:A4}{held:List A7}{marks:List Mark}{inbox:List A7}(sm:Dc held marks inbox)(hr:r.size<=1048576)(h0:0<=nx)(h1:nx<=1000){t:KL}:
  B5 ((VH (r,())).bind λr40=>if r40.1.2.1 then(WQ ((id,ti,nx,held,marks,inbox,()),w,(r40.1.1.1,r40.1.1.2.1,r40.1.1.2.2.1,r40.1.1.2.2.2.1,r40.1.1.2.2.2.2.1,()),())).bind λr41=>
    I (((r41.1.1.1,r41.1.1.2.1,r41.1.1.2.2.1,r41.1.1.2.2.2.1,r41.1.1.2.2.2.2.1,r41.1.1.2.2.2.2.2.1,()),r41.1.2.1,()),())
   else I ((t,A3,()),())) (match DI r with|some n=>Gx ⟨id,ti,nx,held,marks,inbox⟩ w n|none=>U):=by
 simp only[ahG hr,A9];cases h:DI r with
 | none=>exact B5.no
 | some n=>
  have:=KY (JZ h).1;exact(ahN sm this h0 h1).eta
def or3{a b c:Bool}{Ω X:Type}{f:Bool->X}:(if a then(I (.inr<|f a):Option (Ω ⊕ X)) else if b then I (.inr<|f b) else I (.inr<|f c))=I (.inr<|f<|a||(b||c)):=by cases a<;>cases b<;>rfl
def or2{a b:Bool}{Ω X:Type}{f:Bool->X}:(if a then(I (.inr<|f a):Option (Ω ⊕ X)) else I (.inr<|f b))=I (.inr<|f<|a||b):=by cases a<;>rfl
def or4{a b c d:Bool}{Ω X:Type}{f:Bool->X}:(if a then(I (.inr<|f a):Option (Ω ⊕ X)) else if b then I (.inr<|f b) else if c then I (.inr<|f c) else I (.inr<|f d))=I (.inr<|f<|a||(b||(c||d))):=by cases a<;>cases b<;>cases c<;>rfl
def yg{a b:Bool}{Ω X:Type}{f:Bool->X}{g:X->Option Ω}{m:Option (Ω ⊕ X)}(h:m=(if a then(I (.inr<|f a):Option (Ω ⊕ X)) else I (.inr<|f b))):BF g m=g (f<|a||b):=by rw[h,or2];rfl
def aec{a b c:Bool}{Ω X:Type}{f:Bool->X}{g:X->Option Ω}{m:Option (Ω ⊕ X)}(h:m=(if a then(I (.inr<|f a):Option (Ω ⊕ X)) else if b then I (.inr<|f b) else I (.inr<|f c))):BF g m=g (f<|a||(b||c)):=by rw[h,or3];rfl
def ar5{a b c d:Bool}{Ω X:Type}{f:Bool->X}{g:X->Option Ω}{m:Option (Ω ⊕ X)}(h:m=(if a then(I (.inr<|f a):Option (Ω ⊕ X)) else if b then I (.inr<|f b) else if c then I (.inr<|f c) else I (.inr<|f d))):BF g m=g (f<|a||(b||(c||d))):=by rw[h,or4];rfl
def azj{id ti nx:Int}{rec:A4}{held:List A7}{marks:List Mark}{inbox:List A7}(sm:Dc held marks inbox)(hr:rec.size<=1048576)(h0:0<=nx)(h1:nx<=1000):
  B5 (W9 ((id,ti,nx,held,marks,inbox,()),rec,())) (G8 ⟨id,ti,nx,held,marks,inbox⟩ rec):=by
 have hr2:(wd rec).2.size<=1048576:=by have:=(Sd rec).2;omega
 unfold W9 G8 Bx;simp only[apx hr,A9];refine B5.neg λ_=> ?_;rw[yg (a:=A0<|(wd rec).1=Eb) (b:=A0<|(wd rec).1=Ej) (f:=λv=>((id,ti,nx,held,marks,inbox,()),(0,0,0,[],[],[],()),(wd rec).1,(wd rec).2,(wd rec).1,v,())) rfl];refine B5.ite (λ_=>aqB sm hr2) λ_=> ?_;simp only;rw[ar5 (a:=A0<|(wd rec).1=Dw) (b:=A0<|(wd rec).1=EO) (c:=A0<|(wd rec).1=EG) (d:=A0<|(wd rec).1=EV) (f:=λv=>((id,ti,nx,held,marks,inbox,()),(0,0,0,[],[],[],()),(wd rec).1,(wd rec).2,(wd rec).1,v,())) rfl];refine B5.ite (λ_=>apf sm hr2 h0 h1) λ_=> ?_;simp only;rw[aec (a:=A0<|(wd rec).1=CY) (b:=A0<|(wd rec).1=Ck) (c:=A0<|(wd rec).1=DD) (f:=λv=>((id,ti,nx,held,marks,inbox,()),(0,0,0,[],[],[],()),(wd rec).1,(wd rec).2,v,())) rfl];exact B5.ite (λ_=>auj sm hr2) λ_=>B5.no
def aod{k:AJ}{rec:A4}(hf:Ek k){o:AJ}(h:G8 k rec=I o):SmK o:=by
 unfold G8 at h;split at h
 .cases h
 unfold Bx at h;split at h
 .split at h
  .exact ayX hf h
  .cases h
 split at h
 .cases hn:DI (wd rec).2 with
  | none=>rw[hn]at h;cases h
  | some n=>rw[hn]at h;exact axH hf (JZ hn).1 h
 split at h
 .cases hn:HD (wd rec).2 with
  | none=>rw[hn]at h;cases h
  | some n=>rw[hn]at h;exact axB hf h
 .cases h
def FC(k:AJ)(rec:A4):AJ×Bool:=
 if Aw k then(match (G8 k rec).filter Aw with|some k'=>(k',A1)|none=>(k,A3)) else(⟨0,0,0,[],[],[]⟩,A3)
def aCJ{id ti nx:Int}{rec:A4}{held:List A7}{marks:List Mark}{inbox:List A7}(sm:Dc held marks inbox)(hr:rec.size<=1048576):
  Pu ((id,ti,nx,held,marks,inbox,()),rec,())=I ((tK (FC ⟨id,ti,nx,held,marks,inbox⟩ rec).1,(FC ⟨id,ti,nx,held,marks,inbox⟩ rec).2,()),()):=by
 unfold Pu FC;simp only[kU sm,aaU sm,A9];rcases tf (Aw ⟨id,ti,nx,held,marks,inbox⟩) with h|h
 .have hf:=Cl h;have ha:=azj (id:=id) (ti:=ti) (nx:=nx) sm hr (by have:=hf.n0;simp only at this;omega) (by have:=hf.n1;simp only at this;omega);simp only[h,AD,A6,A5];cases hst:G8 ⟨id,ti,nx,held,marks,inbox⟩ rec with
  | none=>
   rw[hst]at ha;obtain⟨t,ht⟩:=ha;simp only[ht,A9,AG,AD,HF,A5,Bh];rfl
  | some o=>
   rw[hst]at ha;have sm':=aod hf hst;rw[show W9 ((id,ti,nx,held,marks,inbox,()),rec,())=I ((tK o,A1,()),()) from ha];simp only[A9,AD,AG,IA,kU sm',aaU sm',CG,C8,A5,BY,Option.filter_some];rcases tf (Aw o) with h2|h2
   .simp only[h2,AD,A6,A5]
   .simp only[h2,AG,A6,A5]
 .simp only[h,AG,A6,A5]
def ayS{id ti nx a b:Int}{held:List A7}{marks:List Mark}{inbox:List A7}(sm:Dc held marks inbox)(h:0<=AY held a b):
  fD ((id,ti,nx,held,marks,inbox,()),a,b,())=I (((id,ti,nx,H8 held (AY held a b).toNat,Ow marks ⟨a,b,(nA held (AY held a b).toNat).un⟩,inbox,()),A1,()),()):=by
 obtain⟨h1,h2,_⟩:=HM h;have hl:=sm.hl;unfold fD;have Lh:A0 (AY held a b<0)=A3:=by simp;omega
 simp only[Hj sm.hl,A9,Lh,A6,Lm h,A5];generalize hi:(AY held a b).toNat=i at *;rw[← h2];have e1:(A0 (0<=(i:Int))&&A0 ((i:Int)<=(held.length:Int)))=A1:=by simp;omega
 have e2:(A0 (0<=((i+1:Nat):Int))&&A0 (((i+1:Nat):Int)<=(held.length:Int)))=A1:=by simp;omega
 simp only[B2 h1 (by omega:held.length<=9223372036854775807),e1,e2,A5,Bu,EW,C2,DJ,DX,Dd,CK,iP sm.ml,A9];rw[A8<|B9 J,A8<|B9 J];rfl
def alQ{id ti nx a b:Int}{held:List A7}{marks:List Mark}{inbox:List A7}(sm:Dc held marks inbox)(h:0<=AY inbox a b):
  cc ((id,ti,nx,held,marks,inbox,()),a,b,())=I (((id,ti,nx,held,marks,H8 inbox (AY inbox a b).toNat,()),A1,()),()):=by
 obtain⟨h1,h2,_⟩:=HM h;have hl:=sm.il;unfold cc;have Lh:A0 (AY inbox a b<0)=A3:=by simp;omega
 simp only[Hj sm.il,A9,Lh,A6];generalize hi:(AY inbox a b).toNat=i at *;rw[← h2];have e1:(A0 (0<=(i:Int))&&A0 ((i:Int)<=(inbox.length:Int)))=A1:=by simp;omega
 have e2:(A0 (0<=((i+1:Nat):Int))&&A0 (((i+1:Nat):Int)<=(inbox.length:Int)))=A1:=by simp;omega
 simp only[B2 h1 (by omega:inbox.length<=9223372036854775807),e1,e2,A5,Bu,EW,C2,DJ,DX,Dd];rw[A8<|B9 J,A8<|B9 J];rfl
def L0(r:A4):Bool:= !decide (ED r 3=noB)|| !decide (r=((((BK (Ah<|Ao r 0)++B [32])++BK (Ah<|Ao r 1))++B [32])++BK (Ah<|Ao r 2)))
def mk3(r:A4):Mark:=⟨Ah<|Ao r 0,Ah<|Ao r 1,Ah<|Ao r 2⟩
def Dr(k:AJ)(w r:A4):Option AJ:=
 if A0 (w=Eb) then(if A0 (Ah r<=k.ti) then U else I ⟨k.id,Ah r,k.nx,Gg (Ah r) k.held,KN (Ah r) k.marks,k.inbox⟩) else
 if A0 (w=Dw) then(match DI r with|some n=>if !decide (n.fr=k.id) then U else if !decide (n.nu=k.nx) then U else Fj ⟨k.id,k.ti,k.nx+1,k.held,k.marks,k.inbox⟩ n|none=>U) else
 if A0 (w=EO) then(match DI r with|some n=>if A0 (n.fr=k.id) then U else Fj k n|none=>U) else
 if A0 (w=Ej) then(if A0 (Ah r<=k.nx) then U else I ⟨k.id,k.ti,Ah r,k.held,k.marks,k.inbox⟩) else
 if A0 (w=EG)||decide (w=EV) then(match DI r with|some n=>if A0 (0<=AY k.held n.fr n.nu) then U else if A0 (0<=AY k.inbox n.fr n.nu) then U else if A0 (w=EG) then I ⟨k.id,k.ti,k.nx,Cu k.held n,k.marks,k.inbox⟩ else I ⟨k.id,k.ti,k.nx,k.held,k.marks,Cu k.inbox n⟩|none=>U) else
 if L0 r then U else
 if A0 (w=CY) then(if !FQ k.held (mk3 r) then U else I ⟨k.id,k.ti,k.nx,H8 k.held (AY k.held (mk3 r).mf (mk3 r).mn).toNat,ET k.marks<|mk3 r,k.inbox⟩) else
 if A0 (w=Ck) then(if !FQ k.inbox (mk3 r) then U else I ⟨k.id,k.ti,k.nx,k.held,k.marks,H8 k.inbox (AY k.inbox (mk3 r).mf (mk3 r).mn).toNat⟩) else
 if A0 (w=DD) then(if A0 (0<=Bo k.marks (mk3 r).mf (mk3 r).mn) then U else I ⟨k.id,k.ti,k.nx,k.held,ET k.marks<|mk3 r,k.inbox⟩) else U
def bN(s:A4): -1<=Ah s/\Ah s<10000:=by
 rcases RI s with⟨h,_⟩|⟨n,h,h1,h2⟩
 .omega
 .have:n<10000:=by
   have hv:=dJ 4 (L s) (by rw[Ay];omega) (by rw[h2];exact ZR (n+1) n J);rw[h2,eZ (n+1) n J]at hv;omega
  omega
def lP{n:Int}(h0: -1<=n)(h1:n<10000):(BK n).size<=4:=by
 by_cases h:0<=n
 .exact H5 h J J
 .obtain rfl:n= -1:=J
  have:BK (-1)=B [45,49]:=by
   apply Fm;show BB (-1)=_;rw[show(-1:Int)= -((1:Nat):Int) by rfl,iw _ J];show 45::dcm 1=_;rw[K4 J];rfl
  rw[this];decide
def aES{l:List A7}{m:Mark}:(A0 (AY l m.mf m.mn<0)|| !decide ((@rd A7 (dfl .note) l<|AY l m.mf m.mn).un=m.mu))= !FQ l m:=by
 unfold FQ;rcases sgn (AY l m.mf m.mn) with h|h
 .simp only[h,AS,Ag,Bh,AP,AG]
 .simp only[h,AS,Ag,BY,AX];rfl
def asQ{l:List A7}{f n:Int}:Ad (!(A0<|AY l f n<0)) (inb (AY l f n) l.length)=A1:=by
 rcases sgn (AY l f n) with h|h
 .simp only[h,AS,AD,HF]
 .simp only[h,Ag,AG,IA,Lm<|of_eq_true h.2]
def auV{id ti nx:Int}{rec:A4}{held:List A7}{marks:List Mark}{inbox:List A7}(hf:Ek ⟨id,ti,nx,held,marks,inbox⟩)(hr:rec.size<=1048576):
  B5 (Vy ((id,ti,nx,held,marks,inbox,()),rec,())) (Dr ⟨id,ti,nx,held,marks,inbox⟩ (wd rec).1 (wd rec).2):=by
 have sm:Dc held marks inbox:=hf.sm;have hn0:1<=nx:=hf.n0;have hn1:nx<=100:=hf.n1;have hr2:(wd rec).2.size<=1048576:=by have:=(Sd rec).2;omega
 unfold Vy Dr;simp only[aEy hr,A9];generalize (wd rec).1=w;generalize (wd rec).2=r at *;simp only[pJ<|show r.size<=9223372036854775807 by omega,xG hr2,awX sm,A9];refine B5.ite (λ_=>B5.neg λ_=>rfl) λ_=> ?_;refine B5.ite (λ_=> ?_) λ_=> ?_
 .cases h:DI r with
  | none=>exact B5.no
  | some n=>
   have:=KY (JZ h).1;simp only[UR,AD,A6];refine B5.neg λ_=>B5.neg λ_=> ?_;rw[Aa J J];exact(x7 sm this).eta
 refine B5.ite (λ_=> ?_) λ_=> ?_
 .cases h:DI r with
  | none=>exact B5.no
  | some n=>
   have:=KY (JZ h).1;simp only[UR,AD,BY];exact B5.neg λ_=>(x7 sm this).eta
 refine B5.ite (λ_=>B5.neg λ_=>rfl) λ_=> ?_;rw[yg (a:=A0<|w=EG) (b:=A0<|w=EV) (f:=λv=>((id,ti,nx,held,marks,inbox,()),(0,0,0,[],[],[],()),w,r,v,())) rfl];refine B5.ite (λ_=> ?_) λ_=> ?_
 .simp only[xG hr2,A9];cases h:DI r with
  | none=>exact B5.no
  | some n=>
   have:=KY (JZ h).1;simp only[UR,AD,A6,Hj sm.hl,Hj sm.il,A9];refine B5.neg λh1=>B5.neg λh2=> ?_;have e1:Pb held n=Cu held n:=XG (by simpa using h1);have e2:Pb inbox n=Cu inbox n:=XG (by simpa using h2);have Dg:=YI (l:=held) (fr:=n.fr) (nu:=n.nu) (tt:=n.to) (un:=n.un) (tx:=n.tx) sm.hl;have Wv:=YI (l:=inbox) (fr:=n.fr) (nu:=n.nu) (tt:=n.to) (un:=n.un) (tx:=n.tx) sm.il;rw[show(⟨n.fr,n.nu,n.to,n.un,n.tx⟩:A7)=n from rfl]at Dg Wv;simp only[Dg,Wv,e1,e2,A9];exact B5.ite (λ_=>rfl) λ_=>rfl
 have e3:PL (r,3,())=I (([Ah<|Ao r 0,Ah<|Ao r 1,Ah<|Ao r 2],ED r 3,()),()):=ace (n:=3) hr2 J;have i0:inb 0 [Ah<|Ao r 0,Ah<|Ao r 1,Ah<|Ao r 2].length=A1:=rfl;have i1:inb 1 [Ah<|Ao r 0,Ah<|Ao r 1,Ah<|Ao r 2].length=A1:=rfl;have i2:inb 2 [Ah<|Ao r 0,Ah<|Ao r 1,Ah<|Ao r 2].length=A1:=rfl;have r0: @rd Int (dfl .int) [Ah<|Ao r 0,Ah<|Ao r 1,Ah<|Ao r 2] 0=Ah (Ao r 0):=rfl;have r1: @rd Int (dfl .int) [Ah<|Ao r 0,Ah<|Ao r 1,Ah<|Ao r 2] 1=Ah (Ao r 1):=rfl;have r2: @rd Int (dfl .int) [Ah<|Ao r 0,Ah<|Ao r 1,Ah<|Ao r 2] 2=Ah (Ao r 2):=rfl;have q0:=bN<|Ao r 0;have q1:=bN<|Ao r 1;have q2:=bN<|Ao r 2;have z0:=lP q0.1 q0.2;have z1:=lP q1.1 q1.2;have z2:=lP q2.1 q2.2;have zb:(B [32]).size=1:=rfl;have d1:A0 ((BK<|Ah<|Ao r 0).size+(B [32]).size<=4611686018427387904)=A1:=by rw[zb,decide_eq_true_eq];omega
 have d2:A0 ((BK (Ah<|Ao r 0)++B [32]).size+(BK<|Ah<|Ao r 1).size<=4611686018427387904)=A1:=by rw[Bg,zb,decide_eq_true_eq];omega
 have d3:A0 (((BK (Ah<|Ao r 0)++B [32])++BK (Ah<|Ao r 1)).size+(B [32]).size<=4611686018427387904)=A1:=by rw[Bg,Bg,zb,decide_eq_true_eq];omega
 have d4:A0 ((((BK (Ah<|Ao r 0)++B [32])++BK (Ah<|Ao r 1))++B [32]).size+(BK<|Ah<|Ao r 2).size<=4611686018427387904)=A1:=by rw[Bg,Bg,Bg,zb,decide_eq_true_eq];omega
 simp only[e3,A9,i0,i1,i2,r0,r1,r2,FG (n:=Ah<|Ao r 0) J J,FG (n:=Ah<|Ao r 1) J J,FG (n:=Ah<|Ao r 2) J J,
  CG,C8,show ∀c,Ad c A1=A1 from λc=>rfl,A5,d1,d2,d3,d4]
 refine B5.neg λ_=> ?_;have hmk:mk3 r=⟨Ah<|Ao r 0,Ah<|Ao r 1,Ah<|Ao r 2⟩:=rfl;generalize Ah (Ao r 0)=a at *;generalize Ah (Ao r 1)=b at *;generalize Ah (Ao r 2)=c at *;rw[hmk];simp only[Hj sm.hl,Hj sm.il,R7 sm.ml,A9,asQ,A5];refine B5.ite (λ_=> ?_) λ_=> ?_
 .rw[aES (m:=⟨a,b,c⟩)];refine B5.neg λh=> ?_;have hh:FQ held ⟨a,b,c⟩=A1:=by simpa using h
  simp only[FQ,AI,decide_eq_true_eq]at hh;obtain⟨g1,g2,g3,g4⟩:=HM hh.1;have ho:=hf.ho _ g1;unfold Gj at ho;simp only[AI,decide_eq_true_eq]at ho;have hm:Bo marks a b<0:=by
   have:=ho.2.2.2;simp only[g3,g4]at this;exact this
  have hM:Ow marks ⟨a,b,c⟩=ET marks ⟨a,b,c⟩:=gZ hm;simp only[ayS sm hh.1,A9,hh.2,hM];rfl
 refine B5.ite (λ_=> ?_) λ_=> ?_
 .rw[aES (m:=⟨a,b,c⟩)];refine B5.neg λh=> ?_;have hh:FQ inbox ⟨a,b,c⟩=A1:=by simpa using h
  simp only[FQ,AI,decide_eq_true_eq]at hh;simp only[alQ sm hh.1,A9];rfl
 refine B5.ite (λ_=> ?_) λ_=>B5.no;refine B5.neg λh=> ?_;have hM:Ow marks ⟨a,b,c⟩=ET marks ⟨a,b,c⟩:=gZ (by simpa using h);simp only[iP sm.ml,A9,hM];rfl
def afP:A0 (Eb=Ej)=A3:=by decide
def aee:A0 (Eb=Dw)=A3:=by decide
def azE:A0 (Eb=EO)=A3:=by decide
def aw1:A0 (Eb=EG)=A3:=by decide
def awi:A0 (Eb=EV)=A3:=by decide
def aso:A0 (Eb=CY)=A3:=by decide
def alB:A0 (Eb=Ck)=A3:=by decide
def afq:A0 (Eb=DD)=A3:=by decide
def tC:A0 (Ej=Eb)=A3:=by decide
def axZ:A0 (Ej=Dw)=A3:=by decide
def ahJ:A0 (Ej=EO)=A3:=by decide
def axM:A0 (Ej=EG)=A3:=by decide
def aqU:A0 (Ej=EV)=A3:=by decide
def avo:A0 (Ej=CY)=A3:=by decide
def afX:A0 (Ej=Ck)=A3:=by decide
def axJ:A0 (Ej=DD)=A3:=by decide
def axn:A0 (Dw=Eb)=A3:=by decide
def afy:A0 (Dw=Ej)=A3:=by decide
def ahm:A0 (Dw=EO)=A3:=by decide
def ao8:A0 (Dw=EG)=A3:=by decide
def alw:A0 (Dw=EV)=A3:=by decide
def akF:A0 (Dw=CY)=A3:=by decide
def ap3:A0 (Dw=Ck)=A3:=by decide
def ajZ:A0 (Dw=DD)=A3:=by decide
def nW:A0 (EO=Eb)=A3:=by decide
def lC:A0 (EO=Ej)=A3:=by decide
def mw:A0 (EO=Dw)=A3:=by decide
def pr:A0 (EO=EG)=A3:=by decide
def rW:A0 (EO=EV)=A3:=by decide
def ay6:A0 (EO=CY)=A3:=by decide
def af2:A0 (EO=Ck)=A3:=by decide
def au8:A0 (EO=DD)=A3:=by decide
def yI:A0 (EG=Eb)=A3:=by decide
def zJ:A0 (EG=Ej)=A3:=by decide
def abT:A0 (EG=Dw)=A3:=by decide
def aAk:A0 (EG=EO)=A3:=by decide
def ap4:A0 (EG=EV)=A3:=by decide
def awl:A0 (EG=CY)=A3:=by decide
def aoY:A0 (EG=Ck)=A3:=by decide
def aj6:A0 (EG=DD)=A3:=by decide
def abE:A0 (EV=Eb)=A3:=by decide
def aCp:A0 (EV=Ej)=A3:=by decide
def acQ:A0 (EV=Dw)=A3:=by decide
def uh:A0 (EV=EO)=A3:=by decide
def aEx:A0 (EV=EG)=A3:=by decide
def arM:A0 (EV=CY)=A3:=by decide
def aoj:A0 (EV=Ck)=A3:=by decide
def aou:A0 (EV=DD)=A3:=by decide
def jM:A0 (CY=Eb)=A3:=by decide
def rJ:A0 (CY=Ej)=A3:=by decide
def sL:A0 (CY=Dw)=A3:=by decide
def iq:A0 (CY=EO)=A3:=by decide
def gO:A0 (CY=EG)=A3:=by decide
def iJ:A0 (CY=EV)=A3:=by decide
def gV:A0 (CY=Ck)=A3:=by decide
def lY:A0 (CY=DD)=A3:=by decide
def aa2:A0 (Ck=Eb)=A3:=by decide
def tb:A0 (Ck=Ej)=A3:=by decide
def aCk:A0 (Ck=Dw)=A3:=by decide
def aE9:A0 (Ck=EO)=A3:=by decide
def aBS:A0 (Ck=EG)=A3:=by decide
def aCd:A0 (Ck=EV)=A3:=by decide
def aDd:A0 (Ck=CY)=A3:=by decide
def aDW:A0 (Ck=DD)=A3:=by decide
def oF:A0 (DD=Eb)=A3:=by decide
def sO:A0 (DD=Ej)=A3:=by decide
def pB:A0 (DD=Dw)=A3:=by decide
def o6:A0 (DD=EO)=A3:=by decide
def gH:A0 (DD=EG)=A3:=by decide
def jV:A0 (DD=EV)=A3:=by decide
def me:A0 (DD=CY)=A3:=by decide
def nB:A0 (DD=Ck)=A3:=by decide
abbrev flt(o:Option AJ):Option AJ:=o.filter Aw
def US{o:Option AJ}(h:o=U\/ ∃k,o=I k/\Aw k=A3):flt o=U:=by
 obtain rfl|⟨k,rfl,h⟩:=h
 .rfl
 .simp[flt,Option.filter,h]
def ajx:DI noB=U:=by
 cases h:DI noB with
 | none=>rfl
 | some n=>
  obtain⟨h1,h2⟩:=JZ h;have:=jU<|HL h1;rw[h2]at this;exact absurd this<|by decide
def axY:Ah noB= -1:=by
 rcases RI noB with⟨h,_⟩|⟨n,_,_,h⟩
 .exact h
 .exact absurd h.symm (je n)
def acL(r:A4):(Aq r=(0,A3)/\Ah r= -1)\/ ∃n:Nat,Aq r=((n:Int),A1)/\(Ah r=n\/(Ah r= -1/\10000<=n)):=by
 rcases Q2 r with h|⟨n,h1,h2,h3⟩
 .refine .inl ⟨h, ?_⟩;rcases RI r with⟨h4,_⟩|⟨n,_,h5,h6⟩
  .exact h4
  .rw[qd J h6]at h;cases h
 .refine .inr ⟨n,h1, ?_⟩;rcases RI r with⟨h4,h5⟩|⟨m,h4,_,h6⟩
  .refine .inr ⟨h4, ?_⟩;have h7:=h5 n h3;rcases GN n 10000 with h8|h8
   .have:=LL 4 n J J;rw[← h3,Ay]at this;omega
   .exact h8
  .left;have e:dcm n=dcm m:=h3.symm.trans h6;have:=congrArg val e;rw[eZ (n+1) n J,eZ (m+1) m J]at this;omega
def aaX(a b c:Int):L ((((BK a++B [32])++BK b)++B [32])++BK c)=BB a++32::(BB b++32::BB c):=by
 simp only[GL,Sj,L_B,C7,L4,EW]
def nH{l:List UInt8}(h:Cs l):l.count 32=0:=List.count_eq_zero.2 λhm=>h 32 hm rfl
def rO{r:A4}{a b c:Int}(ha:0<=a)(ha2:a<100000)(hb:0<=b)(hb2:b<100000)(hc:0<=c)(hc2:c<100000)(e:L r=BB a++32::(BB b++32::BB c)):HD r=I ⟨a,b,c⟩:=by
 unfold HD;have h2:(L r).count 32=1+1:=by
  rw[e,List.count_append,aCB,List.count_append,aCB,nH<|HS ha,nH<|HS hb,nH<|HS hc]
 rw[h2,e,Kq<|HS ha,Kq<|HS hb];show(if(Aq<|B<|BB a).2&&((Aq<|B<|BB b).2&&((Aq<|B<|BB c).2&&A1)) then I (⟨(Aq<|B<|BB a).1,(Aq<|B<|BB b).1,(Aq<|B<|BB c).1⟩:Mark) else U)=_;rw[Im ha ha2,Im hb hb2,Im hc hc2];rfl
def q7{p:List UInt8}(h:(Aq<|B p).2=A1):0<=(Aq<|B p).1/\p=BB (Aq<|B p).1:=by
 rcases Q2 (B p) with h1|⟨n,h1,_,h3⟩
 .rw[h1]at h;cases h
 .rw[h1];exact⟨by simp,by rw[J1];exact h3⟩
def xt{r:A4}{m:Mark}(h:HD r=I m):0<=m.mf/\0<=m.mn/\0<=m.mu/\L r=BB m.mf++32::(BB m.mn++32::BB m.mu):=by
 unfold HD at h;have hj:=hY ((L r).count 32)<|L r;split at h
 .rename_i p q t hp;rw[hp]at hj;split at h
  .rename_i hc;simp only[AI]at hc;cases h;have h1:=q7 hc.1;have h2:=q7 hc.2.1;have h3:=q7 hc.2.2.1;refine⟨h1.1,h2.1,h3.1, ?_⟩;simp only;rw[← h1.2,← h2.2,← h3.2];exact hj.symm
  .cases h
 .cases h
def wJ{r:A4}{a b c:Int}(ha:0<=a)(ha2:a<10000)(hb:0<=b)(hb2:b<10000)(hc:0<=c)(hc2:c<10000)(e:L r=BB a++32::(BB b++32::BB c)):L0 r=A3/\mk3 r=⟨a,b,c⟩:=by
 have e0:=Lj (HS ha) e;have c1:L (ED r 1)=_:=(JX (t:=r) e0).2;have e1:=Lj (HS hb) c1;have c2:L (ED r 2)=_:=(JX (t:=r) e1).2;have e2:=SK (s:=ED r 2) (by rw[c2];exact HS hc);have w0:Ao r 0=B (BB a):=(JX (t:=r) e0).1;have w1:Ao r 1=B (BB b):=(JX (t:=r) e1).1;have w2:Ao r 2=B (BB c):=by
  show(wd<|ED r 2).1=_;rw[e2];apply Fm;rw[c2,L_B]
 have t3:ED r 3=noB:=by
  show(wd<|ED r 2).2=_;rw[e2]
 have d0:=MV ha ha2;have d1:=MV hb hb2;have d2:=MV hc hc2;refine⟨?_, ?_⟩
 .unfold L0;rw[t3,w0,w1,w2,d0,d1,d2];have:r=((((BK a++B [32])++BK b)++B [32])++BK c):=Fm (by rw[e,aaX]);rw[← this];simp
 .unfold mk3;rw[w0,w1,w2,d0,d1,d2]
def PE{m:Mark}(h:G3 m=A1):0<=m.mf/\m.mf<=3/\1<=m.mn/\m.mn<=99/\1<=m.mu/\m.mu<=999:=by
 unfold G3 at h;simp only[AI,Af]at h;omega
def oE{k:AJ}(hf:Ek k)(w r:A4):flt (if L0 r then U else FM k w (mk3 r))=flt (match HD r with|some m=>FM k w m|none=>U):=by
 rcases tf (G3<|mk3 r) with hm|hm
 .obtain⟨a0,a1,b0,b1,c0,c1⟩:=PE hm;rcases tf (L0 r) with hc|hc
  .rw[hc];simp only[A5];cases h:HD r with
   | none=>rfl
   | some m=>
    simp only;rcases tf (G3 m) with h2|h2
    .obtain⟨p0,p1,q0,q1,s0,s1⟩:=PE h2;obtain⟨_,_,_,e⟩:=xt h;rw[(wJ J J J J J J e).1]at hc;cases hc
    .exact(US<|nv hf h2).symm
  .have hc2:=hc;unfold L0 at hc;simp only[RW,Bool.not_eq_false',decide_eq_true_eq]at hc;have e:L r=_:=(congrArg L hc.2).trans<|aaX _ _ _;have:=rO (a:=(mk3 r).mf) (b:=(mk3 r).mn) (c:=(mk3 r).mu) J J J J J J e;rw[hc2,this];rfl
 .have hL:flt (if L0 r then U else FM k w (mk3 r))=U:=by
   cases L0 r
   .exact US (nv hf hm)
   .rfl
  rw[hL];cases h:HD r with
  | none=>rfl
  | some m=>
   simp only;rcases tf (G3 m) with h2|h2
   .obtain⟨p0,p1,q0,q1,s0,s1⟩:=PE h2;obtain⟨_,_,_,e⟩:=xt h;have:=(wJ J J J J J J e).2;rw[this]at hm;have hm:G3 m=A3:=hm;rw[h2]at hm;cases hm
   .exact(US<|nv hf h2).symm
def af5{k:AJ}{n nx:Int}{a b:List A7}{m:List Mark}(hn:999<n):Aw ⟨k.id,n,nx,a,m,b⟩=A3:=by
 rcases tf (Aw ⟨k.id,n,nx,a,m,b⟩) with h|h
 .have:=(Cl h).t1;simp only at this;omega
 .exact h
def ay5{k:AJ}{n ti:Int}{a b:List A7}{m:List Mark}(hn:100<n):Aw ⟨k.id,ti,n,a,m,b⟩=A3:=by
 rcases tf (Aw ⟨k.id,ti,n,a,m,b⟩) with h|h
 .have:=(Cl h).n1;simp only at this;omega
 .exact h
def aj1{k:AJ}(hf:Ek k)(r:A4):flt (Dr k Eb r)=flt (Bx k Eb r):=by
 have h0:=hf.t0;unfold Dr Bx Ih;simp only[afP,aee,azE,aw1,awi,aso,alB,afq,AS,Bb,EX,D3,BY,Bh,AP,AX,A5,A6];rcases acL r with⟨h1,h2⟩|⟨n,h1,h2|⟨h2,h3⟩⟩
 .rw[h1,h2,A8 (by simp;omega)];rfl
 .rw[h1,h2];rcases Ed (n:Int) k.ti with h4|h4<;>simp only[h4,AS,Ag,A5,A6]
 .rw[h1,h2,A8 (by simp;omega)];rcases Ed (n:Int) k.ti with h4|h4<;>simp only[h4,AS,Ag,A5,A6];exact(US<|.inr ⟨_,rfl,af5 J⟩).symm
def at2{k:AJ}(hf:Ek k)(r:A4):flt (Dr k Ej r)=flt (Bx k Ej r):=by
 have h0:=hf.n0;unfold Dr Bx Ih;simp only[tC,axZ,ahJ,axM,aqU,avo,afX,axJ,AS,Bb,EX,D3,BY,Bh,AP,AX,A5,A6];rcases acL r with⟨h1,h2⟩|⟨n,h1,h2|⟨h2,h3⟩⟩
 .rw[h1,h2,A8 (by simp;omega)];rfl
 .rw[h1,h2];rcases Ed (n:Int) k.nx with h4|h4<;>simp only[h4,AS,Ag,A5,A6]
 .rw[h1,h2,A8 (by simp;omega)];rcases Ed (n:Int) k.nx with h4|h4<;>simp only[h4,AS,Ag,A5,A6];exact(US<|.inr ⟨_,rfl,ay5 J⟩).symm
def auG{k:AJ}(r:A4):Dr k Dw r=Bx k Dw r:=by
 unfold Dr Bx Gx;simp only[axn,afy,ahm,ao8,alw,akF,ap3,ajZ,AS,Bb,EX,D3,BY,Bh,AP,AX,A5,A6];cases DI r with
 | none=>rfl
 | some n=>
  simp only;rcases tf (A0<|n.fr=k.id) with h1|h1<;>rcases tf (A0<|n.nu=k.nx) with h2|h2<;>simp only[h1,h2,AD,AG,ite_self,AS,Bb,EX,D3,BY,Bh,AP,AX,A5,A6]
def alT{k:AJ}(r:A4):Dr k EO r=Bx k EO r:=by
 unfold Dr Bx Gx;simp only[nW,lC,mw,pr,rW,ay6,af2,au8,AS,Bb,EX,D3,BY,Bh,AP,AX,A5,A6];cases DI r with
 | none=>rfl
 | some n=>
  simp only;rcases tf (A0<|n.fr=k.id) with h1|h1<;>simp only[h1,AD,AG,ite_self,AS,Bb,EX,D3,BY,Bh,AP,AX,A5,A6]
def ajM{k:AJ}(r:A4):Dr k EG r=Bx k EG r:=by
 unfold Dr Bx Gx;simp only[yI,zJ,abT,aAk,ap4,awl,aoY,aj6,AS,Bb,EX,D3,BY,Bh,AP,AX,A5,A6];cases DI r with
 | none=>rfl
 | some n=>
  simp only;rcases tf (A0<|0<=AY k.held n.fr n.nu) with h1|h1<;>rcases tf (A0<|0<=AY k.inbox n.fr n.nu) with h2|h2<;>simp only[h1,h2,AD,AG,ite_self,AS,Bb,EX,D3,BY,Bh,AP,AX,A5,A6]
def alC{k:AJ}(r:A4):Dr k EV r=Bx k EV r:=by
 unfold Dr Bx Gx;simp only[abE,aCp,acQ,uh,aEx,arM,aoj,aou,AS,Bb,EX,D3,BY,Bh,AP,AX,A5,A6];cases DI r with
 | none=>rfl
 | some n=>
  simp only;rcases tf (A0<|0<=AY k.held n.fr n.nu) with h1|h1<;>rcases tf (A0<|0<=AY k.inbox n.fr n.nu) with h2|h2<;>simp only[h1,h2,AD,AG,ite_self,AS,Bb,EX,D3,BY,Bh,AP,AX,A5,A6]
def anH{k:AJ}(hf:Ek k)(r:A4):flt (Dr k CY r)=flt (Bx k CY r):=by
 have h:=oE hf CY r;unfold Dr Bx;simp only[jM,rJ,sL,iq,gO,iJ,gV,lY,AS,Bb,EX,D3,BY,Bh,AP,AX,A5,A6];refine Jn ?_ h;unfold FM;simp only[jM,rJ,sL,iq,gO,iJ,gV,lY,AS,Bb,EX,D3,BY,Bh,AP,AX,A5,A6];congr 1;refine ite_congr rfl (λ_=>rfl) λ_=> ?_;cases FQ k.held (mk3 r)<;>rfl
def ayB{k:AJ}(hf:Ek k)(r:A4):flt (Dr k Ck r)=flt (Bx k Ck r):=by
 have h:=oE hf Ck r;unfold Dr Bx;simp only[aa2,tb,aCk,aE9,aBS,aCd,aDd,aDW,AS,Bb,EX,D3,BY,Bh,AP,AX,A5,A6];refine Jn ?_ h;unfold FM;simp only[aa2,tb,aCk,aE9,aBS,aCd,aDd,aDW,AS,Bb,EX,D3,BY,Bh,AP,AX,A5,A6];congr 1;refine ite_congr rfl (λ_=>rfl) λ_=> ?_;cases FQ k.inbox (mk3 r)<;>rfl
def arQ{k:AJ}(hf:Ek k)(r:A4):flt (Dr k DD r)=flt (Bx k DD r):=by
 have h:=oE hf DD r;unfold Dr Bx;simp only[oF,sO,pB,o6,gH,jV,me,nB,AS,Bb,EX,D3,BY,Bh,AP,AX,A5,A6];refine Jn ?_ h;unfold FM;simp only[oF,sO,pB,o6,gH,jV,me,nB,AS,Bb,EX,D3,BY,Bh,AP,AX,A5,A6];congr 1;refine ite_congr rfl (λ_=>rfl) λ_=> ?_;cases A0 (0<=Bo k.marks (mk3 r).mf (mk3 r).mn)<;>rfl
def ats{k:AJ}(hf:Ek k)(w r:A4):flt (Dr k w r)=flt (Bx k w r):=by
 by_cases kL:w=Eb
 .subst kL;exact aj1 hf r
 by_cases rN:w=Ej
 .subst rN;exact at2 hf r
 by_cases ot:w=Dw
 .subst ot;exact congrArg flt<|auG r
 by_cases pU:w=EO
 .subst pU;exact congrArg flt<|alT r
 by_cases ie:w=EG
 .subst ie;exact congrArg flt<|ajM r
 by_cases lA:w=EV
 .subst lA;exact congrArg flt<|alC r
 by_cases jl:w=CY
 .subst jl;exact anH hf r
 by_cases ql:w=Ck
 .subst ql;exact ayB hf r
 by_cases sb:w=DD
 .subst sb;exact arQ hf r
 have e1:Dr k w r=U:=by
  unfold Dr;simp only[kL,rN,ot,pU,ie,lA,jl,ql,sb,Ag,AS,Bb,EX,D3,BY,Bh,AP,AX,A5,A6,ite_self]
 have e2:Bx k w r=U:=by
  unfold Bx;simp only[kL,rN,ot,pU,ie,lA,jl,ql,sb,Ag,AS,Bb,EX,D3,BY,Bh,AP,AX,A5,A6]
 rw[e1,e2]
def ajT{k:AJ}(hf:Ek k)(w:A4):Dr k w noB=U:=by
 have h0:=hf.t0;have h1:=hf.n0;have hc:L0 noB=A1:=by
  unfold L0;have:¬noB=((((BK (Ah<|Ao noB 0)++B [32])++BK (Ah<|Ao noB 1))++B [32])++BK (Ah<|Ao noB 2)):=λh=>by
   have:=congrArg Zq h;rw[Bg,Bg,Bg,Bg]at this;have e:noB.size=0:=rfl;have e2:(B [32]).size=1:=rfl;omega
  simp[this]
 unfold Dr;rw[axY,ajx,hc];have a1:A0 (-1<=k.ti)=A1:=by simp;omega
 have a2:A0 (-1<=k.nx)=A1:=by simp;omega
 simp only[a1,a2,A5,ite_self]
def amw{k:AJ}(hf:Ek k)(rec:A4):flt (Dr k (wd rec).1 (wd rec).2)=flt (G8 k rec):=by
 unfold G8;rcases LY (L rec) with h|⟨w,r,h,e⟩
 .rw[SK h,TT h,ajT hf];rfl
 .rw[e,Sm h];exact ats hf _ _
def auL{k:AJ}{w r:A4}(hf:Ek k){o:AJ}(h:Dr k w r=I o):SmK o:=by
 have sm:=hf.sm;unfold Dr at h;split at h
 .split at h<;>cases h;have a:=IG (λx:A7=>A0<|Ah r<x.un) k.held;have b:=IG (λx:Mark=>A0<|Ah r<x.mu) k.marks;have l1:=hf.hl;have l2:=hf.ml;exact⟨by unfold Gg;simp only;omega,λx hx=>sm.h x (Gy.1 hx).1,by unfold KN;simp only;omega,sm.il,sm.i⟩
 split at h
 .cases hn:DI r with
  | none=>rw[hn]at h;cases h
  | some n=>
   rw[hn]at h;simp only at h;split at h
   .cases h
   split at h
   .cases h
   exact fY (k':=⟨k.id,k.ti,k.nx+1,k.held,k.marks,k.inbox⟩) hf ⟨rfl,rfl,rfl⟩ h
 split at h
 .cases hn:DI r with
  | none=>rw[hn]at h;cases h
  | some n=>
   rw[hn]at h;simp only at h;split at h
   .cases h
   exact fY (k':=k) hf ⟨rfl,rfl,rfl⟩ h
 split at h
 .split at h<;>cases h;exact sm
 split at h
 .cases hn:DI r with
  | none=>rw[hn]at h;cases h
  | some n=>
   have hok:=KY (JZ hn).1;rw[hn]at h;simp only at h;split at h
   .cases h
   split at h
   .cases h
   split at h<;>cases h
   .have a:=Pv hf.hl sm.h hok;exact⟨a.1,a.2,sm.ml,sm.il,sm.i⟩
   .have a:=Pv hf.il sm.i hok;exact⟨sm.hl,sm.h,sm.ml,a.1,a.2⟩
 split at h
 .cases h
 split at h
 .split at h<;>cases h;have a:=cH (i:=(AY k.held (mk3 r).mf (mk3 r).mn).toNat) hf.hl sm.h;exact⟨a.1,a.2,V8 hf.ml,sm.il,sm.i⟩
 split at h
 .split at h<;>cases h;have a:=cH (i:=(AY k.inbox (mk3 r).mf (mk3 r).mn).toNat) hf.il sm.i;exact⟨sm.hl,sm.h,sm.ml,a.1,a.2⟩
 split at h
 .split at h<;>cases h;exact⟨sm.hl,sm.h,V8 hf.ml,sm.il,sm.i⟩
 .cases h
def aDn{id ti nx:Int}{rec:A4}{held:List A7}{marks:List Mark}{inbox:List A7}(sm:Dc held marks inbox)(hr:rec.size<=1048576):
  RB ((id,ti,nx,held,marks,inbox,()),rec,())=I ((tK (FC ⟨id,ti,nx,held,marks,inbox⟩ rec).1,(FC ⟨id,ti,nx,held,marks,inbox⟩ rec).2,()),()):=by
 unfold RB FC;simp only[l4 sm,wM sm,A9];rcases tf (Aw ⟨id,ti,nx,held,marks,inbox⟩) with h|h
 .have hf:=Cl h;have ha:=auV hf hr;have hko:=amw hf rec;unfold flt at hko;simp only[h,AD,A6,A5];rw[← hko];cases hst:Dr ⟨id,ti,nx,held,marks,inbox⟩ (wd rec).1 (wd rec).2 with
  | none=>
   rw[hst]at ha;obtain⟨t,ht⟩:=ha;simp only[ht,A9,AG,AD,HF,A5,Bh];rfl
  | some o=>
   rw[hst]at ha;have sm':=auL hf hst;rw[show Vy ((id,ti,nx,held,marks,inbox,()),rec,())=I ((tK o,A1,()),()) from ha];simp only[A9,AD,AG,IA,l4 sm',wM sm',CG,C8,A5,BY,Option.filter_some];rcases tf (Aw o) with h2|h2
   .simp only[h2,AD,A6,A5]
   .simp only[h2,AG,A6,A5]
 .simp only[h,AG,A6,A5]
def aO{s:A4}{a i:Nat}(h:a+i<s.size):bt (s.extract a s.size) i=bt s ((a+i:Nat):Int):=by
 rw[Kb,Kb,E5];congr 2;rw[BD,BD,List.getElem?_take_of_lt J,Hd]
def uW{s:A4}{a i j:Nat}(h:a+j<=s.size):(s.extract a s.size).extract i j=s.extract (a+i) (a+j):=by
 apply Fm;rw[E5,E5,E5];rw[List.drop_take,Js,dq];congr 1;omega
def FT{s:A4}{a b:Nat}(hb:b<=s.size):(s.extract a b).size=b - a:=by
 rw[← Ay,E5,DX,Dd,Ay];omega
def Sq(s:A4):Int:=FH (min s.size 3) λi=>A0<|bt s i=58
def Dk(s:A4):Option (A4×Nat):=
 if Sq s<0 then U else
 let c:=(Sq s).toNat
 let n:=Ah (s.extract 0 c)
 if n<1 then U else if 60<n then U else
 if(s.size:Int)<c+2+n then U else
 if !decide (bt s ((c+1+n.toNat:Nat):Int)=59) then U else I (s.extract (c+1)<|c+1+n.toNat,c+2+n.toNat)
def dM(s:A4):(Sq s= -1/\ ∀i,i<min s.size 3->bt s (i:Int)≠58)\/ ∃c:Nat,Sq s=c/\c<s.size/\c<3/\bt s (c:Int)=58/\ ∀i,i<c->bt s (i:Int)≠58:=by
 rcases FO (min s.size 3) (λi=>A0<|bt s i=58) with⟨h1,h2⟩|⟨c,h1,h2,h3,h4⟩
 .exact .inl ⟨h1,λi hi=>by simpa using h2 i hi⟩
 .exact .inr ⟨c,h1,J,J,by simpa using h3,λi hi=>by simpa using h4 i hi⟩
def akl{s:A4}(hs:s.size<=1048576):Wn (s,())=I ((match Dk s with|some p=>(p.1,(p.2:Int),())|none=>(noB,0,())),()):=by
 have hb:∀i,i<min s.size 3->NK (s,(i:Int),())=if A0 (bt s (i:Int)=58) then NK (s,(i:Int),()) else I (.inl (s,((i+1:Nat):Int),())):=λi hi=>by
  have hi2:i<s.size:=J
  rcases tf (A0<|bt s (i:Int)=58) with h|h
  .rw[h];rfl
  .rw[h];have e1:A0 ((i:Int)<3)=A1:=by simp;omega
   unfold NK;simp only[AR hi2,B7 hi2,h,B2 hi2 (by omega:s.size<=9223372036854775807),e1];rfl
 have FW:∃y,l5 (s,0,())=I y/\((Dk s=U/\(y= .inl (noB,0,())\/y= .inr ()))\/ ∃p,Dk s=I p/\y= .inl (p.1,(p.2:Int),())):=by
  rcases dM s with⟨h1,h2⟩|⟨c,h1,h2,h3,h4,h5⟩
  .refine⟨.inr (), ?_,.inl ⟨by unfold Dk;rw[h1,A8 J],.inr rfl⟩⟩;refine CS (λi=>(s,(i:Int),())) (min s.size 3) (λi hi=> ?_) ?_
   .rw[hb i hi,show A0 (bt s (i:Int)=58)=A3 by simpa using h2 i hi];rfl
   .unfold NK;have e:(A0 (((min s.size 3:Nat):Int)<(s.size:Int))&&A0 (((min s.size 3:Nat):Int)<3))=A3:=by
     rw[Bool.eq_false_iff];simp only[ne_eq,AI,decide_eq_true_eq];omega
    simp only[e];rfl
  .have DM:Dk s=(let n:=Ah<|s.extract 0 c;if n<1 then U else if 60<n then U else if(s.size:Int)<c+2+n then U else
     if !decide (bt s ((c+1+n.toNat:Nat):Int)=59) then U else I (s.extract (c+1)<|c+1+n.toNat,c+2+n.toNat)):=by
    unfold Dk;rw[h1,AB J];rfl
   have ajn:∃y,NK (s,(c:Int),())=I (.inr y)/\((Dk s=U/\(y= .inl (noB,0,())\/y= .inr ()))\/ ∃p,Dk s=I p/\y= .inl (p.1,(p.2:Int),())):=by
    rw[DM];unfold NK;have e1:A0 ((c:Int)<3)=A1:=by simp;omega
    have e2:(A0 (0<=(c:Int))&&A0 ((c:Int)<=(s.size:Int)))=A1:=by simp;omega
    have e3:(!decide (bt s (c:Int)=58))=A3:=by simp[h4]
    have hse:(s.extract 0 c).size=c:=FT J;simp only[AR h2,B7 h2,e1,e2,e3,Bu,A6,CZ,A5,pJ<|show(s.extract 0 c).size<=9223372036854775807 by omega,A9];have hrg:=bN<|s.extract 0 c;generalize Ah (s.extract 0 c)=n at *;by_cases k1:n<1
    .exact⟨.inl (noB,0,()),by simp[k1],.inl ⟨by simp[k1],.inl rfl⟩⟩
    by_cases k2:60<n
    .exact⟨.inl (noB,0,()),by simp[k1,k2],.inl ⟨by simp[k1,k2],.inl rfl⟩⟩
    obtain⟨m,hm⟩:=HO (show 0<=n by omega);subst hm;have w1:w64 ((c:Int)+2)=(c:Int)+2:=Aa J J;have w2:w64 ((c:Int)+1)=((c+1:Nat):Int):=by rw[Aa J J];omega
    have w3:w64 ((c:Int)+2+(m:Int))=((c+2+m:Nat):Int):=by rw[Aa J J];omega
    have w4:w64 (((c+1:Nat):Int)+(m:Int))=((c+1+m:Nat):Int):=by rw[Aa J J];omega
    simp only[w1,w2,w3,w4,Bu];by_cases k3:(s.size:Int)<(c:Int)+2+m
    .have k3':(s.size:Int)<((c+2+m:Nat):Int):=J
     exact⟨.inl (noB,0,()),by simp only[k1,k2,k3',AS,Ag,A5,A6],.inl ⟨by simp[k1,k2,k3],.inl rfl⟩⟩
    have k3':¬(s.size:Int)<((c+2+m:Nat):Int):=J
    have k4:c+1+m<s.size:=J
    have e5:((A0 (0<=((c+1+m:Nat):Int))&&A0 (((c+1+m:Nat):Int)<=(s.size:Int)))&&(A0 (0<=((c+1:Nat):Int))&&A0 (((c+1:Nat):Int)<=((c+1+m:Nat):Int))))=A1:=by
     simp only[AI,decide_eq_true_eq];omega
    simp only[k1,k2,k3,k3',Ag,A6,if_false,AR k4,A5,e5];rcases tf (!decide (bt s ((c+1+m:Nat):Int)=59)) with k5|k5
    .exact⟨.inl (noB,0,()),by simp only[k5,A5],.inl ⟨by simp only[k5,A5],.inl rfl⟩⟩
    .exact⟨.inl (s.extract (c+1)<|c+1+m,((c+2+m:Nat):Int),()),by simp only[k5,A6],.inr ⟨(s.extract (c+1)<|c+1+m,c+2+m),by simp only[k5,A6],rfl⟩⟩
   obtain⟨y,hy,hy2⟩:=ajn;refine⟨y, ?_,hy2⟩;refine CS (λi=>(s,(i:Int),())) c (λi hi=> ?_) hy;rw[hb i J,show A0 (bt s (i:Int)=58)=A3 by simpa using h5 i hi];rfl
 obtain⟨y,hy,hy2⟩:=FW;unfold Wn;simp only[hy];obtain⟨h1,rfl|rfl⟩|⟨p,h1,rfl⟩:=hy2<;>rw[h1]<;>rfl
def UH{s:A4}{p:A4×Nat}(h:Dk s=I p):3<=p.2/\p.2<=s.size/\p.1.size<=60/\1<=p.1.size:=by
 unfold Dk at h;split at h
 .cases h
 rename_i hc;rcases dM s with⟨h1,_⟩|⟨c,h1,h2,h3,h4,h5⟩
 .omega
 rw[h1]at h;simp only[Bu]at h;split at h
 .cases h
 split at h
 .cases h
 split at h
 .cases h
 split at h
 .cases h
 cases h;simp only;rw[FT J];omega
def Eh(log:A4):Nat->List A4->Nat->List A4×Nat
 | 0,out,at_=>(out,at_)
 | f+1,out,at_=>if at_<log.size then(match Dk (log.extract at_ log.size) with
  | none=>(out,at_)
  | some p=>Eh log f (out++[p.1]) (at_+p.2)) else(out,at_)
def te{log:A4}:∀(f:Nat) (out:List A4) (at_:Nat),at_<=log.size->out.length<=at_->(∀r∈out,r.size<=60/\1<=r.size)->
  (Eh log f out at_).2<=log.size/\(Eh log f out at_).1.length<=(Eh log f out at_).2/\ ∀r∈(Eh log f out at_).1,r.size<=60/\1<=r.size
 | 0,out,at_,h1,h2,h3=>⟨h1,h2,h3⟩
 | f+1,out,at_,h1,h2,h3=>by
  unfold Eh;split
  .rename_i hlt;cases h:Dk (log.extract at_ log.size) with
   | none=>exact⟨h1,h2,h3⟩
   | some p=>
    obtain⟨a,b,c,d⟩:=UH h;rw[FT<|As _]at b;exact te f _ _ J (by simp;omega) (λr hr=>by
     rcases Br.1 hr with hr|hr
     .exact h3 r hr
     .obtain rfl:=DB.1 hr;exact⟨c,d⟩)
  .exact⟨h1,h2,h3⟩
def D6(log:A4):List A4×Nat:=Eh log (log.size+1) [] 0
def NY(log:A4):(D6 log).2<=log.size/\(D6 log).1.length<=log.size/\ ∀r∈(D6 log).1,r.size<=60/\1<=r.size:=by
 have:=te (log:=log) (log.size+1) [] 0 (Cw _) (Cw _) (λr hr=>by cases hr);exact⟨this.1,CB this.2.1 this.1,this.2.2⟩
def kH{ρ:Type}{log:A4}{b:(A4×List A4×Int×A2)->Option ((A4×List A4×Int×A2) ⊕ ρ)}(ok:List A4->Nat->ρ->Prop)
  (h:∀(out:List A4) (at_:Nat),at_<log.size->out.length<=at_->match Dk (log.extract at_ log.size) with
   | some p=>b (log,out,(at_:Int),())=I (.inl (log,out++[p.1],((at_+p.2:Nat):Int),()))
   | none=>∃y,b (log,out,(at_:Int),())=I (.inr y)/\ok out at_ y)
  (hn:∀(out:List A4) (at_:Nat),log.size<=at_->∃y,b (log,out,(at_:Int),())=I (.inr y)/\ok out at_ y):
  ∀(f:Nat) (out:List A4) (at_:Nat),log.size<at_+f->at_<=log.size->out.length<=at_->∃y,AW b (log,out,(at_:Int),())=I y/\ok (Eh log f out at_).1 (Eh log f out at_).2 y
 | 0,out,at_,h1,h2,h3=>J
 | f+1,out,at_,h1,h2,h3=>by
  unfold Eh;by_cases hlt:at_<log.size
  .rw[A8 hlt];have hb:=h out at_ hlt h3;cases DM:Dk (log.extract at_ log.size) with
   | none=>
    rw[DM]at hb;obtain⟨y,h4,h5⟩:=hb;exact⟨y,BR h4,h5⟩
   | some p=>
    rw[DM]at hb;obtain⟨a,c,_,_⟩:=UH DM;rw[FT<|As _]at c;obtain⟨y,h4,h5⟩:=kH ok h hn f (out++[p.1]) (at_+p.2) J J (by simp;omega);exact⟨y,B4 hb h4,h5⟩
  .rw[AB hlt];obtain⟨y,h4,h5⟩:=hn out at_ J;exact⟨y,BR h4,h5⟩
def Qh{log:A4}(hs:log.size<=1048576):Jz (log,())=I (((D6 log).1,((D6 log).2:Int),()),()):=by
 obtain⟨y,h1,h2⟩:=kH (log:=log) (b:=Ri) (λout at_ y=>y= .inl (out,(at_:Int),())\/y= .inr (out,(at_:Int),())) (λout at_ hlt hl=>by
  have hse:(log.extract at_ log.size).size=log.size - at_:=FT<|As _;have e1:(A0 (0<=(at_:Int))&&A0 ((at_:Int)<=(log.size:Int)))=A1:=by simp;omega
  have hb:Ri (log,out,(at_:Int),())=(match Dk (log.extract at_ log.size) with|some p=>I (.inl (log,out++[p.1],((at_+p.2:Nat):Int),()))|none=>I<|.inr<|.inl (out,(at_:Int),())):=by
   unfold Ri;simp only[B7 hlt,e1,A5,Bu,akl<|show(log.extract at_ log.size).size<=1048576 by omega,A9];cases DM:Dk (log.extract at_ log.size) with
   | none=>rfl
   | some p=>
    obtain⟨a,c,_,_⟩:=UH DM;have e2:A0 (((p.2:Nat):Int)=0)=A3:=by simp;omega
    have e3:w64 ((at_:Int)+(p.2:Int))=((at_+p.2:Nat):Int):=by rw[Aa J J];omega
    simp only[e2,e3,A6,Bw,C2,DJ,B9<|show out.length+1<=4294967296 by omega,A5]
  rw[hb];cases Dk (log.extract at_ log.size) with
  | none=>exact⟨_,rfl,.inl rfl⟩
  | some p=>rfl) (λout at_ hge=>by
  refine⟨.inr (out,(at_:Int),()), ?_,.inr rfl⟩;unfold Ri;have e:A0 ((at_:Int)<(log.size:Int))=A3:=by simp;omega
  simp only[e];rfl) (log.size+1) [] 0 J (Cw _) (Cw _)
 unfold Jz;rw[show rR (log,[],0,())=I y from h1];obtain rfl|rfl:=h2<;>rfl
def wX{log:A4}{out:List A4}{at_ n:Nat}(hs:log.size<=1048576)(h:∀i,i<n->at_+i<log.size/\bt log ((at_+i:Nat):Int)≠58)(hn:n<=3)(hle:at_+n<=log.size)
  (gX:log.size<=at_+n\/n=3\/bt log ((at_+n:Nat):Int)=58):lc (log,out,(at_:Int),(at_:Int),())=I (.inr (log,out,(at_:Int),((at_+n:Nat):Int),())):=by
 have e3:w64 ((at_:Int)+3)=((at_+3:Nat):Int):=by rw[Aa J J];omega
 refine CS (λi=>(log,out,(at_:Int),((at_+i:Nat):Int),())) n (λi hi=> ?_) ?_
 .obtain⟨h1,h2⟩:=h i hi;unfold aq;have e2:A0 (bt log ((at_+i:Nat):Int)=58)=A3:=by simpa using h2
  simp only[B7 h1,AR h1,e3,B7<|show at_+i<at_+3 by omega,e2,B2 h1 (by omega:log.size<=9223372036854775807)];rfl
 .unfold aq;by_cases h1:at_+n<log.size
  .simp only[B7 h1,AR h1,e3];obtain h2|h2|h2:=gX
   .omega
   .have:A0 (((at_+n:Nat):Int)<((at_+3:Nat):Int))=A3:=by simp;omega
    rw[this];rfl
   .rw[show A0 (bt log ((at_+n:Nat):Int)=58)=A1 by simpa using h2];cases A0 (((at_+n:Nat):Int)<((at_+3:Nat):Int))<;>rfl
  .have e1:A0 (((at_+n:Nat):Int)<(log.size:Int))=A3:=by simp;omega
   simp only[e1,A6,HF,A5]
def aj0{log:A4}{out:List A4}{at_:Nat}(hs:log.size<=1048576)(hlt:at_<log.size)(hl:out.length<=at_):
  RV (log,out,(at_:Int),())=I (match Dk (log.extract at_ log.size) with|some p=> .inl (log,out++[p.1],((at_+p.2:Nat):Int),())|none=> .inr<|.inr (out,(at_:Int),())):=by
 have hse:(log.extract at_ log.size).size=log.size - at_:=FT<|As _;unfold RV;simp only[B7 hlt,A5];rcases dM (log.extract at_ log.size) with⟨h1,h2⟩|⟨c,h1,h2,h3,h4,h5⟩
 .have DM:Dk (log.extract at_ log.size)=U:=by unfold Dk;rw[h1,A8 J]
  have hb:∀i,i<min (log.size - at_) 3->at_+i<log.size/\bt log ((at_+i:Nat):Int)≠58:=λi hi=>by
   refine⟨J, ?_⟩;rw[← aO J];exact h2 i (by rw[hse];exact hi)
  rw[DM,wX (n:=min (log.size - at_) 3) hs hb J J J];simp only[C9];by_cases h6:log.size<=at_+min (log.size - at_) 3
  .have e:A0 ((log.size:Int)<=((at_+min (log.size - at_) 3:Nat):Int))=A1:=by simp;omega
   simp only[e,AD,HF,A5,Bh]
  .have e:A0 ((log.size:Int)<=((at_+min (log.size - at_) 3:Nat):Int))=A3:=by simp;omega
   have hm:min (log.size - at_) 3=3:=J
   rw[hm]at e h6 ⊢;simp only[e,AR<|show at_+3<log.size by omega,AG,IA,A5,BY];rcases tf (A0<|bt log ((at_+3:Nat):Int)=58) with h7|h7
   .simp only[h7,AD,A6];have e4:((A0 (0<=((at_+3:Nat):Int))&&A0 (((at_+3:Nat):Int)<=(log.size:Int)))&&(A0 (0<=(at_:Int))&&A0 ((at_:Int)<=((at_+3:Nat):Int))))=A1:=by simp;omega
    simp only[e4,A5,Bu];have hz:(log.extract at_<|at_+3).size=3:=by rw[FT J];omega
    rw[aX J];simp only[A9];rcases Q2 (log.extract at_<|at_+3) with h8|⟨n,h8,h9,h10⟩
    .simp only[h8];rfl
    .have h11:100<=n:=by
      rcases GN n 100 with h12|h12
      .have:=LL 2 n J J;rw[← h10,Ay]at this;omega
      .exact h12
     have e5:inB (n:Int) 1 60=A3:=by simp[inB];omega
     simp only[h8,EF,A9,e5];rfl
   .simp only[h7];rfl
 .have hb:∀i,i<c->at_+i<log.size/\bt log ((at_+i:Nat):Int)≠58:=λi hi=>by
   refine⟨J, ?_⟩;rw[← aO J];exact h5 i hi
  have h4':bt log ((at_+c:Nat):Int)=58:=by rw[← aO J];exact h4
  have hc:at_+c<log.size:=J
  rw[wX (n:=c) hs hb J J<|.inr<|.inr h4'];simp only[C9];have e:A0 ((log.size:Int)<=((at_+c:Nat):Int))=A3:=by simp;omega
  have e4:((A0 (0<=((at_+c:Nat):Int))&&A0 (((at_+c:Nat):Int)<=(log.size:Int)))&&(A0 (0<=(at_:Int))&&A0 ((at_:Int)<=((at_+c:Nat):Int))))=A1:=by simp;omega
  simp only[e,AR hc,AG,IA,A5,BY,show A0 (bt log ((at_+c:Nat):Int)=58)=A1 by simpa using h4',AD,A6,e4,Bu];have hz:(log.extract at_<|at_+c).size=c:=by rw[FT J];omega
  have hz2:(log.extract at_ log.size).extract 0 c=log.extract at_ (at_+c):=by rw[uW J];simp
  rw[aX J];have DM:Dk (log.extract at_ log.size)=(let n:=Ah<|log.extract at_<|at_+c;if n<1 then U else if 60<n then U else if((log.extract at_ log.size).size:Int)<c+2+n then U else
    if !decide (bt (log.extract at_ log.size) ((c+1+n.toNat:Nat):Int)=59) then U else I ((log.extract at_ log.size).extract (c+1)<|c+1+n.toNat,c+2+n.toNat)):=by
   unfold Dk;rw[h1,AB J,Bu];simp only[hz2]
  rw[DM];simp only[A9];rcases Q2 (log.extract at_<|at_+c) with h8|⟨n,h8,h9,h10⟩
  .have hd:Ah (log.extract at_<|at_+c)= -1:=by
    rcases RI (log.extract at_<|at_+c) with⟨h9,_⟩|⟨n,h9,h10,h11⟩
    .exact h9
    .rw[qd J h11]at h8;cases h8
   simp only[h8,hd];rfl
  .rw[o5 J h10];simp only[h8,EF,A9,AD,A6,Bu,hse];by_cases h11:(n:Int)<1
   .rw[A8 h11,show inB (n:Int) 1 60=A3 by simp[inB];omega];rfl
   .rw[AB h11];by_cases h12:60<(n:Int)
    .rw[A8 h12,show inB (n:Int) 1 60=A3 by simp[inB];omega];rfl
    .rw[AB h12,show inB (n:Int) 1 60=A1 by simp[inB];omega];have e5:w64 (((at_+c:Nat):Int)+1)=((at_+c+1:Nat):Int):=by rw[Aa J J];omega
     have e6:w64 (((at_+c+1:Nat):Int)+(n:Int))=((at_+c+1+n:Nat):Int):=by rw[Aa J J];omega
     simp only[e5,e6,AD,A6];by_cases h13:at_+c+1+n<log.size
     .rw[AB<|show ¬(((log.size - at_:Nat):Int)<c+2+n) by omega];have e7:A0 ((log.size:Int)<=((at_+c+1+n:Nat):Int))=A3:=by simp;omega
      simp only[e7,A6,AR h13,A5];have e10:bt (log.extract at_ log.size) ((c+1+n:Nat):Int)=bt log ((at_+c+1+n:Nat):Int):=by rw[aO<|show at_+(c+1+n)<log.size by omega,show at_+(c+1+n)=at_+c+1+n by omega]
      simp only[e10];rcases tf (A0<|bt log ((at_+c+1+n:Nat):Int)=59) with h14|h14
      .have e8:((A0 (0<=((at_+c+1+n:Nat):Int))&&A0 (((at_+c+1+n:Nat):Int)<=(log.size:Int)))&&(A0 (0<=((at_+c+1:Nat):Int))&&A0 (((at_+c+1:Nat):Int)<=((at_+c+1+n:Nat):Int))))=A1:=by simp;omega
       have e9:w64 (((at_+c+1+n:Nat):Int)+1)=((at_+(c+2+n):Nat):Int):=by rw[Aa J J];omega
       simp only[h14,AD,A6,e8,A5,Bw,C2,DJ,B9<|show out.length+1<=4294967296 by omega,Bu,e9,uW<|show at_+(c+1+n)<=log.size by omega];rw[show at_+(c+1)=at_+c+1 by omega,show at_+(c+1+n)=at_+c+1+n by omega]
      .simp only[h14,AG,A5]
     .rw[A8<|show(((log.size - at_:Nat):Int)<c+2+n) by omega];have e7:A0 ((log.size:Int)<=((at_+c+1+n:Nat):Int))=A1:=by simp;omega
      simp only[e7,A5]
def XL{log:A4}(hs:log.size<=1048576):PK (log,())=I (((D6 log).1,((D6 log).2:Int),()),()):=by
 obtain⟨y,h1,h2⟩:=kH (log:=log) (b:=RV) (λout at_ y=>y= .inr (out,(at_:Int),())) (λout at_ hlt hl=>by
  rw[aj0 hs hlt hl];cases Dk (log.extract at_ log.size) with
  | none=>exact⟨_,rfl,rfl⟩
  | some p=>rfl) (λout at_ hge=>by
  refine⟨.inr (out,(at_:Int),()), ?_,rfl⟩;unfold RV;have e:A0 ((at_:Int)<(log.size:Int))=A3:=by simp;omega
  simp only[e];rfl) (log.size+1) [] 0 J (Cw _) (Cw _)
 unfold PK;rw[show pn (log,[],0,())=I y from h1];subst h2;have h3:=NY log;simp only[C9];rw[show(Eh log (log.size+1) [] 0)=D6 log from rfl,oN J];rfl
abbrev zK:AJ:=⟨0,0,0,[],[],[]⟩
def Bd(k:AJ)(r:A4):Option AJ:=if(FC k r).2 then I (FC k r).1 else U
def FY(k:AJ)(rs:List A4):Option AJ:=rs.foldlM Bd k
def D8(id:Int)(rs:List A4):Option AJ:=if isN id then FY ⟨id,0,1,[],[],[]⟩ rs else U
def y6{σ β γ κ α:Type}{b:σ->Option (σ ⊕ (β ⊕ γ))}(st:Nat->κ->σ)(l:List α)(f:κ->α->Option κ)(bad:β)(fin:κ->γ)(SB:κ->Prop)
  (h:∀i k x,l[i]? =I x->SB k->b (st i k)=I (match f k x with|some k'=> .inl (st (i+1) k')|none=> .inr<|.inl bad))
  (hn:∀k,SB k->b (st l.length k)=I (.inr<|.inr<|fin k))(hI:∀k x k',SB k->f k x=I k'->SB k'):
  ∀k,SB k->AW b (st 0 k)=I (match l.foldlM f k with|some k'=> .inr (fin k')|none=> .inl bad):=by
 have:∀(m i:Nat),i+m=l.length->∀k,SB k->AW b (st i k)=I (match (l.drop i).foldlM f k with|some k'=> .inr (fin k')|none=> .inl bad):=by
  intro m
  induction m with
  | zero=>
   intro i hi k hk;rw[List.drop_of_length_le J,show i=l.length by omega];exact BR<|hn k hk
  | succ m ih=>
   intro i hi k hk;have hlt:i<l.length:=J
   rw[VB hlt,SN];have hb:=h i k l[i] (Ax hlt) hk;cases hf:f k l[i]with
   | none=>rw[hf]at hb;exact BR hb
   | some k'=>rw[hf]at hb;exact B4 hb<|ih (i+1) J k'<|hI k _ k' hk hf
 intro k hk;have:=this l.length 0 J k hk;rwa[J0]at this
def ahI{k:AJ}{r:A4}(h:(FC k r).2=A1):Aw (FC k r).1=A1:=by
 unfold FC at h ⊢;split at h<;>rename_i hk
 .rw[A8 hk];cases hs:(G8 k r).filter Aw with
  | none=>rw[hs]at h;cases h
  | some o=>exact(Po.1 hs).2
 .cases h
def TE{k o:AJ}{r:A4}(h:Bd k r=I o):Aw o=A1:=by
 unfold Bd at h;split at h
 .cases h;exact ahI (by assumption)
 .cases h
def aCR{k:AJ}(h:Aw k=A1):SmK k:=by
 have hf:=Cl h;have hn:∀ {l:List A7},EL l=A1->∀x∈l,Fu x:=fun {l} hl x hx=>by
  obtain⟨i,hi,rfl⟩:=Dt hx;have:=Gi hl hi;rw[Dq<|Ax hi]at this;exact KY this
 exact⟨by have:=hf.hl;omega,hn hf.h,by have:=hf.ml;omega,by have:=hf.il;omega,hn hf.i⟩
def Rl{id:Int}(h:isN id=A1):Aw ⟨id,0,1,[],[],[]⟩=A1:=by
 unfold Aw;simp only[h];rfl
def aDQ:∀ {rs:List A4} {k o:AJ},Aw k=A1->FY k rs=I o->Aw o=A1
 | [],k,o,hk,h=>by cases h;exact hk
 | r::rs,k,o,hk,h=>by
  unfold FY at h;rw[SN]at h;cases hs:Bd k r with
  | none=>rw[hs]at h;cases h
  | some k'=>rw[hs]at h;exact aDQ (rs:=rs) (TE hs) h
def Uh{id:Int}{rs:List A4}{o:AJ}(h:D8 id rs=I o):Aw o=A1:=by
 unfold D8 at h;split at h
 .exact aDQ (Rl<|by assumption) h
 .cases h
def atS{id:Int}{rs:List A4}(hl:rs.length<=1048576)(hr:∀r∈rs,r.size<=1048576):eg (id,rs,())=I ((tK<|(D8 id rs).getD zK,(D8 id rs).isSome,()),()):=by
 unfold eg D8;simp only[KI,A9,avS];rcases tf (isN id) with h|h
 .simp only[h,AD,A6,A5];have:=y6 (b:=WN) (λi (k:AJ)=>(tK zK,tK k,rs,(rs.length:Int),(i:Int),())) rs Bd (tK zK,A3,()) (λk=>(tK zK,tK k,())) (λk=>Aw k=A1) (λi k x hx hk=>by
   have hi:=(BP.1 hx).1;have hxs:=hr x<|Cg hx;unfold WN;simp only[B7 hi,AR hi,OS,Ir hx,A5];rw[aCJ (aCR hk) hxs];unfold Bd;simp only[A9];rcases tf (FC k x).2 with h2|h2
   .simp only[h2,AD,A6,A5,B2 hi (by omega:rs.length<=9223372036854775807)]
   .simp only[h2,AG,A6,A5]) (λk hk=>by simp[WN]) (λk x k' _ hs=>TE hs) ⟨id,0,1,[],[],[]⟩ (Rl h)
  rw[show pD ((0,0,0,[],[],[],()),(id,0,1,[],[],[],()),rs,(rs.length:Int),0,())=_ from this];unfold FY;cases rs.foldlM Bd ⟨id,0,1,[],[],[]⟩<;>rfl
 .simp only[h,AG,A6,A5];rfl
def pe{id:Int}{rs:List A4}(hl:rs.length<=1048576)(hr:∀r∈rs,r.size<=1048576):Om (id,rs,())=I ((tK<|(D8 id rs).getD zK,(D8 id rs).isSome,()),()):=by
 unfold Om D8;simp only[JE,A9,asI];rcases tf (isN id) with h|h
 .simp only[h,AD,A6,A5];have:=y6 (b:=Vv) (λi (k:AJ)=>(rs,tK zK,tK k,(i:Int),())) rs Bd (tK zK,A3,()) (λk=>(tK zK,tK k,())) (λk=>Aw k=A1) (λi k x hx hk=>by
   have hi:=(BP.1 hx).1;have hxs:=hr x<|Cg hx;unfold Vv;simp only[B7 hi,AR hi,OS,Ir hx,A5];rw[aDn (aCR hk) hxs];unfold Bd;simp only[A9];rcases tf (FC k x).2 with h2|h2
   .simp only[h2,AD,A6,A5,B2 hi (by omega:rs.length<=9223372036854775807)]
   .simp only[h2,AG,A6,A5]) (λk hk=>by simp[Vv]) (λk x k' _ hs=>TE hs) ⟨id,0,1,[],[],[]⟩ (Rl h)
  rw[show nh (rs,(0,0,0,[],[],[],()),(id,0,1,[],[],[],()),0,())=_ from this];unfold FY;cases rs.foldlM Bd ⟨id,0,1,[],[],[]⟩<;>rfl
 .simp only[h,AG,A6,A5];rfl
def D4(id:Int)(log:A4):Option AJ:=D8 id (D6 log).1
def QN{id:Int}{log:A4}(hs:log.size<=1048576):JK (id,log,())=I ((tK<|(D4 id log).getD zK,(D4 id log).isSome,()),()):=by
 have h:=NY log;unfold JK D4;rw[XL hs];simp only[A9];rw[atS J (λr hr=>by have:=h.2.2 r hr;omega)];rfl
def RS{id fo:Int}{up:Bool}{log:A4}{hv:List AH}(hs:log.size<=1048576):Ey ((id,up,log,fo,hv,()),())=I ((tK<|(D4 id log).getD zK,(D4 id log).isSome,()),()):=by
 have h:=NY log;unfold Ey D4;rw[Qh hs];simp only[A9];rw[pe J (λr hr=>by have:=h.2.2 r hr;omega)];rfl
def DN(lg:A4)(fo:Int):Bool:=A0 (lg.size<=2400)&&(inB fo 0 lg.size&&(A0 (((D6 lg).2:Int)=lg.size)&&A0 (((D6<|lg.extract 0 fo.toNat).2:Int)=fo)))
def U8{lg:A4}{fo:Int}(hs:lg.size<=1048576):O1 ((lg,fo,()),())=I ((DN lg fo,()),()):=by
 unfold O1 DN;simp only[EF,XL hs,A9,CG,C8];by_cases h1:lg.size<=2400
 .have e1:A0 (2400<(lg.size:Int))=A3:=by simp;omega
  simp only[e1,h1,AG,IA,A5,BY,AS,AX];rcases tf (inB fo 0 lg.size) with h2|h2
  .have h3:=Af.1 h2;have e2:(A0 (0<=fo)&&A0 (fo<=(lg.size:Int)))=A1:=by simp;omega
   simp only[h2,AD,A6,e2,A5,AX];rw[XL (by rw[FT J];omega)];rfl
  .simp only[h2,AG,A5,AP]
 .have e1:A0 (2400<(lg.size:Int))=A1:=by simp;omega
  simp only[e1,h1,AD,HF,A5,Bh,Ag,AP]
def U5{lg:A4}{fo:Int}(hs:lg.size<=1048576):N2 ((lg,fo,()),())=I ((DN lg fo,()),()):=by
 unfold N2 DN;simp only[Hx,Qh hs,A9,CG,C8];by_cases h1:lg.size<=2400
 .have e1:A0 (2400<(lg.size:Int))=A3:=by simp;omega
  simp only[e1,h1,AG,IA,A5,BY,AS,AX];rcases tf (inB fo 0 lg.size) with h2|h2
  .have h3:=Af.1 h2;have e2:(A0 (0<=fo)&&A0 (fo<=(lg.size:Int)))=A1:=by simp;omega
   simp only[h2,AD,A6,e2,A5,AX];rw[Qh (by rw[FT J];omega)];rfl
  .simp only[h2,AG,A5,AP]
 .have e1:A0 (2400<(lg.size:Int))=A1:=by simp;omega
  simp only[e1,h1,AD,HF,A5,Bh,Ag,AP]
def Cp(p:Bool):Ad p A1=A1:=by cases p<;>rfl
def ak4{k o:AJ}{w:A4}{n:Int}(h:Ih k w n=I o):o.id=k.id:=by
 unfold Ih at h
 repeat' split at h
 all_goals first|(cases h;done)|(cases h;rfl)
def yD{k o:AJ}{n:A7}(h:Fj k n=I o):o.id=k.id:=by
 unfold Fj at h
 repeat' split at h
 all_goals first|(cases h;done)|(cases h;rfl)
def amr{k o:AJ}{w:A4}{n:A7}(h:Gx k w n=I o):o.id=k.id:=by
 unfold Gx at h;split at h
 .exact(yD h).trans rfl
 split at h
 .exact yD h
 split at h
 .cases h
 repeat' split at h
 all_goals first|(cases h;done)|(cases h;rfl)
def axk{k o:AJ}{w:A4}{m:Mark}(h:FM k w m=I o):o.id=k.id:=by
 unfold FM at h
 repeat' split at h
 all_goals first|(cases h;done)|(cases h;rfl)
def aeb{k o:AJ}{w r:A4}(h:Bx k w r=I o):o.id=k.id:=by
 unfold Bx at h;split at h
 .split at h
  .exact ak4 h
  .cases h
 split at h
 .split at h
  .exact amr h
  .cases h
 split at h
 .split at h
  .exact axk h
  .cases h
 .cases h
def av2{k o:AJ}{r:A4}(h:Bd k r=I o)(hk:Aw k=A1):o.id=k.id:=by
 unfold Bd at h;split at h
 case isFalse=>cases h
 rename_i h2;cases h;unfold FC at h2 ⊢;simp only[hk,A5]at h2 ⊢;cases hs:(G8 k r).filter Aw with
 | none=>rfl
 | some o=>
  simp only;have:=(Po.1 hs).1;unfold G8 at this;split at this
  .cases this
  .exact aeb this
def aBe:∀ {rs:List A4} {k o:AJ},Aw k=A1->FY k rs=I o->o.id=k.id
 | [],k,o,_,h=>by cases h;rfl
 | r::rs,k,o,hk,h=>by
  unfold FY at h;rw[SN]at h;cases hs:Bd k r with
  | none=>rw[hs]at h;cases h
  | some k'=>rw[hs]at h;exact(aBe (rs:=rs) (TE hs) h).trans<|av2 hs hk
def iB{id:Int}{rs:List A4}{o:AJ}(h:D8 id rs=I o):o.id=id:=by
 unfold D8 at h;split at h
 .exact aBe (k:=⟨id,0,1,[],[],[]⟩) (Rl<|by assumption) h
 .cases h
def xA(l:List AQ)(i:Nat):AQ:=l.getD i<|dfl .mixed
def hA(l:List AH)(i:Nat):AH:=l.getD i<|dfl .half
def Yj(l:List AQ)(i:Nat): @rd AQ (dfl .mixed) l (i:Int)=xA l i:=rfl
def ZM(l:List AH)(i:Nat): @rd AH (dfl .half) l (i:Int)=hA l i:=rfl
def ajP{l:List AQ}{i j:Nat}(h:j<i):xA (l.take i) j=xA l j:=by
 unfold xA;simp[BD,h]
def IV(l:List AQ)(i:Nat):Bool:=(inB (xA l i).nu 0 999&&A0 (((xA l i).da.size:Int)=4))&&Ae i λj=> !decide ((xA l j).nu=(xA l i).nu)
def Fp(h:AH):Bool:=isN h.fr&&(isN h.to&&(inB h.nu 1 99&&(inB h.un 1 999&&(inB h.sz 1 24&&(A0 ((h.got.length:Int)<=14)&&Ae h.got.length (IV h.got))))))
def ar4{h:AH}(sm:Pn h):Ws ((h.fr,h.nu,h.to,h.un,h.sz,h.got,()),())=I ((Fp h,()),()):=by
 have hl:h.got.length<=9223372036854775807:=by have:=sm.1;omega
 have FW:iA ((h.fr,h.nu,h.to,h.un,h.sz,h.got,()),h.got,(h.got.length:Int),0,())=I (if Ae h.got.length (IV h.got) then .inr () else .inl (A3,())):=
  C3 (λi=>((h.fr,h.nu,h.to,h.un,h.sz,h.got,()),h.got,(h.got.length:Int),(i:Int),())) h.got.length (IV h.got) (A3,()) () (λi hi=>by
   unfold dZ IV;simp only[B7 hi,AR hi,A5,Yj,EF,A9];rcases tf (inB (xA h.got i).nu 0 999) with e|e<;>rcases tfp (((xA h.got i).da.size:Int)=4) with e'|e'
   rotate_left
   .simp only[e,e',Ag,Bb,AG,D3,AP,A5,A6]
   .simp only[e,AP,AG,Bh,A5,A6]
   .simp only[e,AP,AG,Bh,A5,A6]
   .have e2:(A0 (0<=(i:Int))&&A0 ((i:Int)<=(h.got.length:Int)))=A1:=by simp;omega
    have e3:(BU i h.got).length=i:=by simp;omega
    simp only[e,e',AS,AD,Fa,A6,e2,A5,Bu,e3,AX];have hin:nE ((h.fr,h.nu,h.to,h.un,h.sz,h.got,()),((xA h.got i).nu,(xA h.got i).da,()),h.got,(h.got.length:Int),(i:Int),BU i h.got,(i:Int),0,())=
      I (if Ae i (λj=> !decide ((xA h.got j).nu=(xA h.got i).nu)) then .inr ((h.fr,h.nu,h.to,h.un,h.sz,h.got,()),h.got,(h.got.length:Int),(i:Int),()) else .inl (A3,())):=
     C3 (λj=>((h.fr,h.nu,h.to,h.un,h.sz,h.got,()),((xA h.got i).nu,(xA h.got i).da,()),h.got,(h.got.length:Int),(i:Int),BU i h.got,(i:Int),(j:Int),())) i (λj=> !decide ((xA h.got j).nu=(xA h.got i).nu)) (A3,()) _ (λj hj=>by
      unfold aA;simp only[B7 hj,e3,AR hj,A5,Yj,ajP hj,B2 hj (by omega:i<=9223372036854775807)];rcases tfp ((xA h.got j).nu=(xA h.got i).nu) with e4|e4<;>simp only[e4,AS,Ag]<;>rfl) (by simp[aA])
    rw[hin];rcases tf (Ae i λj=> !decide ((xA h.got j).nu=(xA h.got i).nu)) with e4|e4
    .simp only[e4,A5,C9,B2 hi hl]
    .simp only[e4,A6,Ea]) (by simp[dZ])
 unfold Ws Fp;simp only[KI,EF,A9,FW];rcases tf (isN h.fr) with e|e<;>simp only[e,AD,AG,A5,A6,AX,AP];rcases tf (isN h.to) with e|e<;>simp only[e,AD,AG,A5,A6,AX,AP];rcases tf (inB h.nu 1 99) with e|e<;>simp only[e,AD,AG,A5,A6,AX,AP];rcases tf (inB h.un 1 999) with e|e<;>simp only[e,AD,AG,A5,A6,AX,AP];rcases tf (inB h.sz 1 24) with e|e<;>simp only[e,AD,AG,A5,A6,AX,AP];rcases Ed (h.got.length:Int) 14 with⟨e1,e2⟩|⟨e1,e2⟩<;>simp only[e1,e2,AS,Ag,A5,A6,AX,AP];rcases tf (Ae h.got.length<|IV h.got) with e|e<;>simp only[e,A5,A6]<;>rfl
def axs{sz:Int}(h:inB sz 1 24=A1):inB (w64<|B0 (w64<|w64 (sz+4) - 1) 4) 1 6=A1:=by
 have h:=Af.1 h;rw[Aa (n:=sz+4) J J,Aa (n:=sz+4 - 1) J J];have e:B0 (sz+4 - 1) 4=(sz+4 - 1) / 4:=GF J;rw[e,Aa J J,Af];omega
def aeD{h:AH}(sm:Pn h):Zf ((h.fr,h.nu,h.to,h.un,h.sz,h.got,()),())=I ((Fp h,()),()):=by
 have hl:h.got.length<=9223372036854775807:=by have:=sm.1;omega
 have FW:inB h.sz 1 24=A1->mK ((h.fr,h.nu,h.to,h.un,h.sz,h.got,()),0,())=I (if Ae h.got.length (IV h.got) then .inr () else .inl (A3,())):=λhz=>
  C3 (λi=>((h.fr,h.nu,h.to,h.un,h.sz,h.got,()),(i:Int),())) h.got.length (IV h.got) (A3,()) () (λi hi=>by
   unfold fL IV LW Q4 Mg;simp only[B7 hi,AR hi,A5,Yj,Hx,A9,axs hz,IA,CG,C8,AX];rcases tf (inB (xA h.got i).nu 0 999) with e|e<;>rcases tfp (((xA h.got i).da.size:Int)=4) with e'|e'
   rotate_left
   .simp only[e,e',Ag,Bb,AG,AP,A5,A6]
   .simp only[e,AP,AG,A5,A6]
   .simp only[e,AP,AG,A5,A6]
   .simp only[e,e',AS,CZ,AD,A6,AX];have hin:nF ((h.fr,h.nu,h.to,h.un,h.sz,h.got,()),(i:Int),0,())=
      I (if Ae i (λj=> !decide ((xA h.got j).nu=(xA h.got i).nu)) then .inr ((h.fr,h.nu,h.to,h.un,h.sz,h.got,()),(i:Int),()) else .inl (A3,())):=
     C3 (λj=>((h.fr,h.nu,h.to,h.un,h.sz,h.got,()),(i:Int),(j:Int),())) i (λj=> !decide ((xA h.got j).nu=(xA h.got i).nu)) (A3,()) _ (λj hj=>by
      unfold ZC;simp only[B7 hj,AR hi,AR<|aY hj hi,A5,Yj,B2 hj (by omega:i<=9223372036854775807)];rcases tfp ((xA h.got j).nu=(xA h.got i).nu) with e4|e4<;>simp only[e4,AS,Ag]<;>rfl) (by simp[ZC])
    rw[hin];rcases tf (Ae i λj=> !decide ((xA h.got j).nu=(xA h.got i).nu)) with e4|e4
    .simp only[e4,A5,C9,B2 hi hl]
    .simp only[e4,A6,Ea]) (by simp[fL])
 unfold Zf Fp;simp only[JE,Hx,A9];rcases tf (isN h.fr) with e|e<;>simp only[e,AD,AG,A5,A6,AX,AP];rcases tf (isN h.to) with e|e<;>simp only[e,AD,AG,A5,A6,AX,AP];rcases tf (inB h.nu 1 99) with e|e<;>simp only[e,AD,AG,A5,A6,AX,AP];rcases tf (inB h.un 1 999) with e|e<;>simp only[e,AD,AG,A5,A6,AX,AP];rcases tf (inB h.sz 1 24) with e|e<;>simp only[e,AD,AG,A5,A6,AX,AP];rw[FW e];rcases Ed (h.got.length:Int) 14 with⟨e1,e2⟩|⟨e1,e2⟩<;>simp only[e1,e2,AS,Ag,A5,A6,AX,AP];rcases tf (Ae h.got.length<|IV h.got) with e|e<;>simp only[e,A5,A6]<;>rfl
def Du(l:List AH)(f n:Int):Int:=FH l.length λi=>A0 ((hA l i).fr=f)&&A0 ((hA l i).nu=n)
def abF{l:List AH}{f n:Int}(hl:l.length<=1048576):S5 (l,f,n,())=I ((Du l f n,()),()):=by
 unfold S5;have:=PJ (b:=So) (λi=>(f,n,l,(l.length:Int),(i:Int),())) l.length (λi=>A0 ((hA l i).fr=f)&&A0 ((hA l i).nu=n)) (λr=>(r,())) () (λi hi=>by
  unfold So;simp only[B7 hi,AR hi,A5,ZM,B2 hi (by omega:l.length<=9223372036854775807)];rcases tfp ((hA l i).fr=f) with e|e<;>rcases tfp ((hA l i).nu=n) with e2|e2<;>simp only[e,e2,AS,Ag]<;>rfl) (by simp[So])
 rw[show jy (f,n,l,(l.length:Int),0,())=_ from this];exact TM
def yS{n:Nat}{p:Nat->Bool}{i:Nat}(hi:i<n)(hp:p i=A1):A0 (FH n p<(i:Int))= !(Ae i λj=> !p j):=by
 rcases FO n p with⟨_,h2⟩|⟨c,h1,h2,h3,h4⟩
 .rw[h2 i hi]at hp;cases hp
 .rw[h1];by_cases hc:c<i
  .have:Ae i (λj=> !p j)=A3:=by
    rw[Bool.eq_false_iff];intro h;have:=CO.1 h c hc;simp[h3]at this
   rw[this];simpa using hc
  .have:Ae i (λj=> !p j)=A1:=CO.2 λj hj=>by rw[h4 j J];rfl
   rw[this];simp;omega
def Fy(l:List AH)(i:Nat):Bool:=Fp (hA l i)&&Ae i λj=> !(A0 ((hA l j).fr=(hA l i).fr)&&A0 ((hA l j).nu=(hA l i).nu))
def Av(k:AA):Bool:=isN k.id&&(DN k.log k.fo&&(A0 ((k.AE.length:Int)<=3)&&((k.up||decide (k.AE.length=0))&&(((D4 k.id k.log).isSome&&(D4 k.id<|k.log.extract 0 k.fo.toNat).isSome)&&Ae k.AE.length (Fy k.AE)))))
abbrev tKp(k:AA):Int×Bool×A4×Int×List AH×A2:=(k.id,k.up,k.log,k.fo,k.AE,())
def aEA{l:List AH}(h:∀x∈l,Pn x)(i:Nat):Pn (hA l i):=by
 unfold hA;rcases GN i l.length with hi|hi
 .rw[Ir<|Ax hi];exact h _ (CQ hi)
 .rw[BD,I7 hi];exact⟨by decide,λm hm=>by cases hm⟩
def K6{k:AA}(sm:Eo k):I6 (tKp k,())=I ((Av k,()),()):=by
 obtain⟨id,up,lg,fo,hv⟩:=k;obtain⟨sl,hl,hs⟩:=sm;simp only at sl hl hs;have FW:aT ((id,up,lg,fo,hv,()),hv,(hv.length:Int),0,())=I (if Ae hv.length (Fy hv) then .inr () else .inl (A3,())):=
  C3 (λi=>((id,up,lg,fo,hv,()),hv,(hv.length:Int),(i:Int),())) hv.length (Fy hv) (A3,()) () (λi hi=>by
   unfold XZ Fy;simp only[B7 hi,AR hi,A5,ZM,ar4<|aEA hs i,abF hl,A9,CG,C8,Cp,B2 hi (by omega:hv.length<=9223372036854775807)];rcases tf (Fp<|hA hv i) with e|e
   .have hf:=yS (p:=λj=>A0 ((hA hv j).fr=(hA hv i).fr)&&A0 ((hA hv j).nu=(hA hv i).nu)) hi (by simp);unfold Du;simp only[e,AD,BY,AX,hf];cases Ae i (λj=> !(A0 ((hA hv j).fr=(hA hv i).fr)&&A0 ((hA hv j).nu=(hA hv i).nu)))<;>rfl
   .simp only[e,AG,Bh,A5,AP,A6]) (by simp[XZ])
 unfold I6 Av;simp only[KI,A9,U8 sl];rcases tf (isN id) with e|e<;>simp only[e,AD,AG,A5,A6,AX,AP,NJ];rcases tf (DN lg fo) with e2|e2<;>simp only[e2,AD,AG,A5,A6,AX,AP,NJ];have e3:0<=fo/\fo<=(lg.size:Int):=by
  unfold DN at e2;simp only[AI]at e2;exact Af.1 e2.2.1
 have e4:(A0 (0<=fo)&&A0 (fo<=(lg.size:Int)))=A1:=by simp;omega
 rcases Ed (hv.length:Int) 3 with⟨e5,e6⟩|⟨e5,e6⟩<;>simp only[e5,e6,AS,Ag,A5,A6,AX,AP,NJ];have Ig:∀b:Bool,(b=A1)->BF (X:=(Int×Bool×A4×Int×List AH×A2)×A2) (λj5=>
   (JK (j5.1.1,j5.1.2.2.1,())).bind λr8=>
   (if(A0 (0<=j5.1.2.2.2.1)&&A0 (j5.1.2.2.2.1<=(j5.1.2.2.1.size:Int))) then
   (JK (j5.1.1,(j5.1.2.2.1.extract (0)<|AM j5.1.2.2.2.1),())).bind λr9=>
   (if((!r8.1.2.1)||(!r9.1.2.1)) then
   I ((A3,()),())
   else
   (AO (aT (j5.1,j5.1.2.2.2.2.1,(j5.1.2.2.2.2.1.length:Int),0,()))
   (λy56=>I (y56,()))
   (λy56=>I ((A1,()),()))))
   else U)) (I<|.inr ((id,up,lg,fo,hv,()),()))=I ((b&&(((D4 id lg).isSome&&(D4 id<|lg.extract 0 fo.toNat).isSome)&&Ae hv.length (Fy hv)),()),()):=by
  rintro b rfl;simp only[Bi,QN sl,A9,e4,A5];rw[QN (by rw[FT J];omega)];simp only[A9,FW,AX];rcases tf (D4 id lg).isSome with e|e<;>rcases tf (D4 id<|lg.extract 0 fo.toNat).isSome with e2|e2<;>simp only[e,e2,AD,AG,Fa,Bh,D3,A5,A6,CZ,Bb,AP,AX];rcases tf (Ae hv.length<|Fy hv) with e|e<;>simp only[e,A5,A6]<;>rfl
 rcases tf up with e7|e7
 .simp only[e7,AD,A6,Bh];rw[e7]at Ig;exact Ig A1 rfl
 .simp only[e7,AG,A5,BY];rw[e7]at Ig;by_cases e8:hv.length=0
  .have e9:A0 (0<(hv.length:Int))=A3:=by rw[e8];rfl
   simp only[e9,A6,e8,AS];rw[e8]at Ig;exact Ig A1 rfl
  .have e9:A0 (0<(hv.length:Int))=A1:=by simp;omega
   simp only[e9,A5,e8,Ag,AP,NJ]
def Kk{k:AA}(sm:Eo k):Ip (tKp k,())=I ((Av k,()),()):=by
 obtain⟨id,up,lg,fo,hv⟩:=k;obtain⟨sl,hl,hs⟩:=sm;simp only at sl hl hs;have FW:XD ((id,up,lg,fo,hv,()),0,())=I (if Ae hv.length (Fy hv) then .inr () else .inl (A3,())):=
  C3 (λi=>((id,up,lg,fo,hv,()),(i:Int),())) hv.length (Fy hv) (A3,()) () (λi hi=>by
   unfold WW Fy;simp only[B7 hi,AR hi,A5,ZM,aeD<|aEA hs i,A9,B2 hi (by omega:hv.length<=9223372036854775807)];rcases tf (Fp<|hA hv i) with e|e
   .simp only[e,AD,A6,AX];have hin:jg ((id,up,lg,fo,hv,()),(i:Int),0,())=I (if Ae i (λj=> !(A0 ((hA hv j).fr=(hA hv i).fr)&&A0 ((hA hv j).nu=(hA hv i).nu))) then .inr ((id,up,lg,fo,hv,()),(i:Int),()) else .inl (A3,())):=
     C3 (λj=>((id,up,lg,fo,hv,()),(i:Int),(j:Int),())) i (λj=> !(A0 ((hA hv j).fr=(hA hv i).fr)&&A0 ((hA hv j).nu=(hA hv i).nu))) (A3,()) _ (λj hj=>by
      unfold XJ;simp only[B7 hj,AR hi,AR<|aY hj hi,A5,ZM,Cp,B2 hj (by omega:i<=9223372036854775807)];rcases tfp ((hA hv j).fr=(hA hv i).fr) with e|e<;>rcases tfp ((hA hv j).nu=(hA hv i).nu) with e2|e2<;>simp only[e,e2,AS,Ag]<;>rfl) (by simp[XJ])
    rw[hin];rcases tf (Ae i λj=> !(A0 ((hA hv j).fr=(hA hv i).fr)&&A0 ((hA hv j).nu=(hA hv i).nu))) with e4|e4
    .simp only[e4,A5,C9,B2 hi (by omega:hv.length<=9223372036854775807)]
    .simp only[e4,A6,Ea]
   .simp only[e,AG,A5,AP,A6]) (by simp[WW])
 unfold Ip Av;simp only[JE,A9,U5 sl];rcases tf (isN id) with e|e<;>simp only[e,AD,AG,A5,A6,AX,AP,NJ];rcases tf (DN lg fo) with e2|e2<;>simp only[e2,AD,AG,A5,A6,AX,AP,NJ];have e3:0<=fo/\fo<=(lg.size:Int):=by
  unfold DN at e2;simp only[AI]at e2;exact Af.1 e2.2.1
 have e4:(A0 (0<=fo)&&A0 (fo<=(lg.size:Int)))=A1:=by simp;omega
 rcases Ed (hv.length:Int) 3 with⟨e5,e6⟩|⟨e5,e6⟩<;>simp only[e5,e6,AS,Ag,A5,A6,AX,AP,NJ];have Ig:∀b:Bool,(b=A1)->BF (X:=(Int×Bool×A4×Int×List AH×A2)×A2) (λj5=>
   (if(A0 (0<=j5.1.2.2.2.1)&&A0 (j5.1.2.2.2.1<=(j5.1.2.2.1.size:Int))) then
   (Jz ((j5.1.2.2.1.extract (0)<|AM j5.1.2.2.2.1),())).bind λr8=>
   (Om (j5.1.1,r8.1.1,())).bind λr9=>
   (Ey j5).bind λr10=>
   (if((!r10.1.2.1)||(!r9.1.2.1)) then
   I ((A3,()),())
   else
   (AO (XD (j5.1,0,()))
   (λy27=>I (y27,()))
   (λy27=>I ((A1,()),()))))
   else U)) (I<|.inr ((id,up,lg,fo,hv,()),()))=I ((b&&(((D4 id lg).isSome&&(D4 id<|lg.extract 0 fo.toNat).isSome)&&Ae hv.length (Fy hv)),()),()):=by
  rintro b rfl;have hz:(lg.extract 0 fo.toNat).size<=1048576:=by rw[FT J];omega
  have hg:=NY<|lg.extract 0 fo.toNat;simp only[Bi,e4,A5,Qh hz,A9,pe (id:=id) (show(D6<|lg.extract 0 fo.toNat).1.length<=1048576 by omega) (λr hr=>by have:=hg.2.2 r hr;omega),RS sl,FW,AX];rw[show D8 id (D6<|lg.extract 0 fo.toNat).1=D4 id (lg.extract 0 fo.toNat) from rfl];rcases tf (D4 id lg).isSome with e|e<;>rcases tf (D4 id<|lg.extract 0 fo.toNat).isSome with e2|e2<;>simp only[e,e2,AD,AG,Fa,Bh,D3,A5,A6,CZ,Bb,AP,AX];rcases tf (Ae hv.length<|Fy hv) with e|e<;>simp only[e,A5,A6]<;>rfl
 rcases tf up with e7|e7
 .simp only[e7,AD,A6,Bh];rw[e7]at Ig;exact Ig A1 rfl
 .simp only[e7,AG,A5,BY];rw[e7]at Ig;by_cases e8:hv.length=0
  .have e9:A0 (0<(hv.length:Int))=A3:=by rw[e8];rfl
   simp only[e9,A6,e8,AS];rw[e8]at Ig;exact Ig A1 rfl
  .have e9:A0 (0<(hv.length:Int))=A1:=by simp;omega
   simp only[e9,A5,e8,Ag,AP,NJ]
abbrev YR:=Int×List AA×List Bool×List AT×List A7×List A7×A2
def kA(l:List AA)(i:Nat):AA:=l.getD i<|dfl .AN
def pA(l:List AT)(i:Nat):AT:=l.getD i<|dfl .Ai
def bA(l:List Bool)(i:Nat):Bool:=l.getD i<|dfl .bool
def JL(l:List AA)(i:Nat): @rd AA (dfl .AN) l (i:Int)=kA l i:=rfl
def aAi(l:List AT)(i:Nat): @rd AT (dfl .Ai) l (i:Int)=pA l i:=rfl
def HK(l:List A7):Bool:=Ae l.length λi=>B3<|nA l i
def Dy(p:AT):Bool:=isN p.src&&(isN p.dst&&((A0 (p.src - p.dst=1)||decide (p.dst - p.src=1))&&A0 ((p.data.size:Int)<=40)))
def Jb(l:List AA)(i:Nat):Bool:=A0 ((kA l i).id=(i:Int))&&Av (kA l i)
def GW(ti:Int)(ks:List AA)(ls:List Bool)(ra:List AT)(se go:List A7):Bool:=
 inB ti 0 99999&&(A0 ((ks.length:Int)=4)&&(A0 ((ls.length:Int)=3)&&(A0 ((ra.length:Int)<=30)&&((HK se&&A0 ((se.length:Int)<=6))&&((HK go&&A0 ((go.length:Int)<=6))&&
  (Ae ks.length (Jb ks)&&Ae ra.length (λi=>Dy<|pA ra i)))))))
def Kw{l:List AA}(h:∀x∈l,Eo x)(i:Nat):Eo (kA l i):=by
 unfold kA;rcases GN i l.length with hi|hi
 .rw[Ir<|Ax hi];exact h _ (CQ hi)
 .rw[BD,I7 hi];exact⟨by decide,by decide,λm hm=>by cases hm⟩
def aCm{l:List A7}(hl:l.length<=1048576)(h:∀x∈l,Fu x):V9 (l,())=I ((HK l&&A0 ((l.length:Int)<=6),()),()):=by
 have FW:py (l,l,(l.length:Int),0,())=I (if HK l then .inr (l,()) else .inl (A3,())):=
  C3 (λi=>(l,l,(l.length:Int),(i:Int),())) l.length (λi=>B3<|nA l i) (A3,()) (l,()) (λi hi=>by
   unfold aE;simp only[B7 hi,AR hi,A5,CK,Td<|TV h i,A9,B2 hi (by omega:l.length<=9223372036854775807)];rcases tf (B3<|nA l i) with e|e<;>simp only[e]<;>rfl) (by simp[aE])
 unfold V9;simp only[FW];rcases tf (HK l) with e|e<;>simp only[e]<;>rfl
def Fh{n:Int}(h:isN n=A1):0<=n/\n<=3:=Af.1 h
def fg{a b:Int}(ha:isN a=A1)(hb:isN b=A1):w64 (a - b)=a - b:=by
 have:=Fh ha;have:=Fh hb;exact Aa J J
def av4{w:YR}{ks:List AA}(kl:ks.length<=1048576)(k:∀x∈ks,Eo x):
  qn (w,ks,(ks.length:Int),0,())=I (if Ae ks.length (Jb ks) then .inr (w,()) else .inl (A3,())):=
 C3 (λi=>(w,ks,(ks.length:Int),(i:Int),())) ks.length (Jb ks) (A3,()) (w,()) (λi hi=>by
  have hk:=K6<|Kw k i;unfold dA Jb;simp only[B7 hi,AR hi,A5,JL,hk,CG,C8,Cp,B2 hi (by omega:ks.length<=9223372036854775807)];rcases tfp ((kA ks i).id=(i:Int)) with e|e<;>rcases tf (Av<|kA ks i) with e2|e2<;>simp only[e,e2,AS,Ag]<;>rfl) (by simp[dA])
def aD1{ra:List AT}(rl:ra.length<=1048576):
  rK (ra,(ra.length:Int),0,())=I (if Ae ra.length (λi=>Dy<|pA ra i) then .inr () else .inl (A3,())):=
 C3 (λi=>(ra,(ra.length:Int),(i:Int),())) ra.length (λi=>Dy<|pA ra i) (A3,()) () (λi hi=>by
  unfold aL Dy;simp only[B7 hi,AR hi,A5,aAi,KI,A9,B2 hi (by omega:ra.length<=9223372036854775807)];rcases tf (isN (pA ra i).src) with e|e<;>rcases tf (isN (pA ra i).dst) with e2|e2<;>simp only[e,e2,AD,AG,A5,A6,AX,AP];simp only[fg e e2,fg e2 e];rcases tfp ((pA ra i).src - (pA ra i).dst=1) with e3|e3<;>rcases tfp ((pA ra i).dst - (pA ra i).src=1) with e4|e4<;>rcases Ed ((pA ra i).data.size:Int) 40 with⟨e5,e6⟩|⟨e5,e6⟩<;>simp only[e3,e4,e5,e6,AS,Ag]<;>rfl) (by simp[aL])
def aEp{ti:Int}{ks:List AA}{ls:List Bool}{ra:List AT}{se go:List A7}(sm:E4 ks ls ra se go):
  Rv ((ti,ks,ls,ra,se,go,()),())=I ((GW ti ks ls ra se go,()),()):=by
 unfold Rv GW;simp only[EF,aCm sm.sl sm.s,aCm sm.gl sm.g,av4 sm.kl sm.k,aD1 sm.rl,A9];rcases tf (inB ti 0 99999) with e|e<;>simp only[e,AD,AG,A5,A6,AX,AP];rcases tfp ((ks.length:Int)=4) with e|e<;>simp only[e,AS,Ag,AD,AG,A5,A6,AX,AP];rcases tfp ((ls.length:Int)=3) with e|e<;>simp only[e,AS,Ag,AD,AG,A5,A6,AX,AP];rcases Ed (ra.length:Int) 30 with⟨e1,e2⟩|⟨e1,e2⟩<;>simp only[e1,e2,AS,Ag,A5,A6,AX,AP];rcases tf (HK se&&A0 ((se.length:Int)<=6)) with e|e<;>simp only[e,AD,AG,A5,A6,AX,AP];rcases tf (HK go&&A0 ((go.length:Int)<=6)) with e|e<;>simp only[e,AD,AG,A5,A6,AX,AP];rcases tf (Ae ks.length<|Jb ks) with e|e<;>simp only[e,A5,A6,AX,AP,Ea,C9];rw[aD1 sm.rl];rcases tf (Ae ra.length λi=>Dy<|pA ra i) with e|e<;>simp only[e,A5,A6,Ea,C9]
def ag1{ti:Int}{ks:List AA}{ls:List Bool}{ra:List AT}{se go:List A7}(sm:E4 ks ls ra se go):
  mM ((ti,ks,ls,ra,se,go,()),0,())=I (if Ae ks.length (Jb ks) then .inr ((ti,ks,ls,ra,se,go,()),()) else .inl (A3,())):=
 C3 (λi=>((ti,ks,ls,ra,se,go,()),(i:Int),())) ks.length (Jb ks) (A3,()) _ (λi hi=>by
  have hk:=Kk<|Kw sm.k i;unfold dK Jb;have kl:=sm.kl;simp only[B7 hi,AR hi,A5,JL,hk,A9,Cp,B2 hi (by omega:ks.length<=9223372036854775807)];rcases tfp ((kA ks i).id=(i:Int)) with e|e<;>rcases tf (Av<|kA ks i) with e2|e2<;>simp only[e,e2,AS,Ag]<;>rfl) (by simp[dK])
def an4{ti:Int}{ks:List AA}{ls:List Bool}{ra:List AT}{se go:List A7}(sm:E4 ks ls ra se go):
  nX ((ti,ks,ls,ra,se,go,()),0,())=I (if Ae ra.length (λi=>Dy<|pA ra i) then .inr ((ti,ks,ls,ra,se,go,()),()) else .inl (A3,())):=
 C3 (λi=>((ti,ks,ls,ra,se,go,()),(i:Int),())) ra.length (λi=>Dy<|pA ra i) (A3,()) _ (λi hi=>by
  have rl:=sm.rl;unfold fO Dy;simp only[B7 hi,AR hi,A5,aAi,JE,A9,B2 hi (by omega:ra.length<=9223372036854775807)];rcases tf (isN (pA ra i).src) with e|e<;>rcases tf (isN (pA ra i).dst) with e2|e2<;>simp only[e,e2,AD,AG,A5,A6,AX,AP];simp only[fg e e2,fg e2 e];rcases tfp ((pA ra i).src - (pA ra i).dst=1) with e3|e3<;>rcases tfp ((pA ra i).dst - (pA ra i).src=1) with e4|e4<;>rcases Ed ((pA ra i).data.size:Int) 40 with⟨e5,e6⟩|⟨e5,e6⟩<;>simp only[e3,e4,e5,e6,AS,Ag]<;>rfl) (by simp[fO])
def ajd{ti:Int}{ks:List AA}{ls:List Bool}{ra:List AT}{se go:List A7}(sm:E4 ks ls ra se go):
  sX ((ti,ks,ls,ra,se,go,()),0,())=I (if HK se then .inr ((ti,ks,ls,ra,se,go,()),()) else .inl (A3,())):=
 C3 (λi=>((ti,ks,ls,ra,se,go,()),(i:Int),())) se.length (λi=>B3<|nA se i) (A3,()) _ (λi hi=>by
  have rl:=sm.sl;unfold aN;simp only[B7 hi,AR hi,A5,CK,Sx<|TV sm.s i,A9,B2 hi (by omega:se.length<=9223372036854775807)];rcases tf (B3<|nA se i) with e|e<;>simp only[e]<;>rfl) (by simp[aN])
def awo{ti:Int}{ks:List AA}{ls:List Bool}{ra:List AT}{se go:List A7}(sm:E4 ks ls ra se go):
  pF ((ti,ks,ls,ra,se,go,()),0,())=I (if HK go then .inr () else .inl (A3,())):=
 C3 (λi=>((ti,ks,ls,ra,se,go,()),(i:Int),())) go.length (λi=>B3<|nA go i) (A3,()) _ (λi hi=>by
  have rl:=sm.gl;unfold di;simp only[B7 hi,AR hi,A5,CK,Sx<|TV sm.g i,A9,B2 hi (by omega:go.length<=9223372036854775807)];rcases tf (B3<|nA go i) with e|e<;>simp only[e]<;>rfl) (by simp[di])
def bh{ti:Int}{ks:List AA}{ls:List Bool}{ra:List AT}{se go:List A7}(sm:E4 ks ls ra se go):
  Nd ((ti,ks,ls,ra,se,go,()),())=I ((GW ti ks ls ra se go,()),()):=by
 unfold Nd GW;simp only[Hx,A9];rcases tf (inB ti 0 99999) with e|e<;>simp only[e,AD,AG,A5,A6,AX,AP];rcases tfp ((ks.length:Int)=4) with e|e<;>simp only[e,AS,Ag,AD,AG,A5,A6,AX,AP];rcases tfp ((ls.length:Int)=3) with e|e<;>simp only[e,AS,Ag,AD,AG,A5,A6,AX,AP];rcases Ed (ra.length:Int) 30 with⟨e1,e2⟩|⟨e1,e2⟩<;>simp only[e1,e2,AS,Ag,A5,A6,AX,AP];rcases Ed (se.length:Int) 6 with⟨e1,e2⟩|⟨e1,e2⟩<;>simp only[e1,e2,AS,Ag,A5,A6,L8,Bb,AP];rcases Ed (go.length:Int) 6 with⟨e1,e2⟩|⟨e1,e2⟩<;>simp only[e1,e2,AS,Ag,A5,A6,L8,Bb,AP];rw[ag1 sm];rcases tf (Ae ks.length<|Jb ks) with e|e<;>simp only[e,A5,A6,AX,AP,Bb,Ea,C9];rw[an4 sm];rcases tf (Ae ra.length λi=>Dy<|pA ra i) with e|e<;>simp only[e,A5,A6,Ea,C9,Bb,L8];rw[ajd sm];rcases tf (HK se) with e|e<;>simp only[e,A5,A6,Ea,C9,Bb,L8,AX,AP];rw[awo sm];rcases tf (HK go) with e|e<;>simp only[e,A5,A6,Ea,C9,Bb,L8]
def Ca(a t:Int):Int:=if !isN a||(!isN t||decide (a=t)) then -1 else if a<t then a+1 else a - 1
def fC{a:Int}(h:isN a=A1):w64 (a+1)=a+1/\w64 (a - 1)=a - 1:=by
 have:=Fh h;exact⟨Aa J J,Aa J J⟩
def iz{a t:Int}:Ii (a,t,())=I ((Ca a t,()),()):=by
 unfold Ii Ca;simp only[KI,A9];rcases tf (isN a) with e|e
 .rcases tf (isN t) with e2|e2
  .rcases tfp (a=t) with e3|e3
   .simp only[e,e2,e3,AS];rfl
   .rcases tfp (a<t) with e4|e4<;>simp only[e,e2,e3,e4,Ag,AS,AD,A6,Bi,A5,if_false,Fa,(fC e).1,(fC e).2]
  .simp only[e,e2];rfl
 .simp only[e];rfl
def ax{a t:Int}:L3 (a,t,())=I ((Ca a t,()),()):=by
 unfold L3 Ca;simp only[JE,A9];rcases tf (isN a) with e|e
 .rcases tf (isN t) with e2|e2
  .rcases tfp (a=t) with e3|e3
   .simp only[e,e2,e3,AS];rfl
   .rcases tfp (a<t) with e4|e4<;>simp only[e,e2,e3,e4,Ag,AS,AD,A6,Bi,A5,if_false,Fa,(fC e).1,(fC e).2]
  .simp only[e,e2];rfl
 .simp only[e];rfl
def Wy{a t:Int}(ha:isN a=A1)(ht:isN t=A1)(hne:a≠t):isN (Ca a t)=A1:=by
 have:=Fh ha;have:=Fh ht;have e3:A0 (a=t)=A3:=by simpa using hne
 unfold Ca;simp only[ha,ht,e3,AD,Fa,A6];rw[Af];split<;>omega
def stT(k:AA):AJ:=(D4 k.id k.log).getD zK
def Ur(l:List AA)(i:Int): @rd AA (dfl .AN) l i=kA l i.toNat:=rfl
structure aqW (k:AA):Prop where
 id:isN k.id=A1
 sh:DN k.log k.fo=A1
 hl:k.AE.length<=3
 up:k.up=A1\/k.AE.length=0
 st:D4 k.id k.log=I (stT k)
 ok:Aw (stT k)=A1
 sid:(stT k).id=k.id
 fo:(D4 k.id<|k.log.extract 0 k.fo.toNat).isSome=A1
 hv:∀i,i<k.AE.length->Fy k.AE i=A1
def Df{k:AA}(h:Av k=A1):aqW k:=by
 unfold Av at h;simp only[AI,Ci,decide_eq_true_eq,CO]at h;obtain⟨a,b,c,d,⟨e,f⟩,g⟩:=h;have hs:D4 k.id k.log=I (stT k):=by
  unfold stT;cases hh:D4 k.id k.log with
  | none=>rw[hh]at e;cases e
  | some o=>rfl
 exact⟨a,b,J,d,hs,Uh hs,iB hs,f,g⟩
structure JR (ti:Int) (ks:List AA) (ls:List Bool) (ra:List AT) (se go:List A7):Prop where
 t0:0<=ti
 t1:ti<=99999
 kl:ks.length=4
 ll:ls.length=3
 rl:ra.length<=30
 s:HK se=A1
 sl:se.length<=6
 g:HK go=A1
 gl:go.length<=6
 k:∀i,i<4->(kA ks i).id=(i:Int)/\Av (kA ks i)=A1
 r:∀i,i<ra.length->Dy (pA ra i)=A1
def gp{k:AJ}{n:A7}(h:Aw k=A1)(hn:n∈k.held):isN (Ca k.id n.to)=A1:=by
 have hf:=Cl h;obtain⟨i,hi,rfl⟩:=Dt hn;have h1:=Gi hf.h hi;rw[Dq<|Ax hi]at h1;have h2:=HL h1;have h3:=hf.ho i hi;unfold Gj OA at h3;rw[Dq<|Ax hi]at h3;simp only[AI,DR,decide_eq_false_iff_not]at h3;exact Wy (Af.2 ⟨hf.id0,hf.id1⟩) (Af.2 ⟨h2.t0,h2.t1⟩) h3.2.2.1.1
section
variable {ti:Int} {ks:List AA} {ls:List Bool} {ra:List AT} {se go:List A7}
def gL{l:List A7}{j:Nat}(h:j<l.length):nA l j∈l:=by
 rw[Dq<|Ax h];exact CQ h
end
end Go.VS
namespace Go.VS
open Go
def aao{a b c d e f:Int}(h:bef a b c d=A1)(k:bef c d e f=A1):bef a b e f=A1:=by
 unfold bef at *;simp only[Ci,AI,decide_eq_true_eq]at *;omega
def TX{a b:Int}:bef a b a b=A3:=by
 unfold bef;simp
def Vd{l:List A7}(h:EL l=A1):∀(j i:Nat),i<j->j<l.length->bef (nA l i).fr (nA l i).nu (nA l j).fr (nA l j).nu=A1
 | j+1,i,hij,hj=>by
  have h1:=CO.1 h (j+1) hj;simp only[AI,Ci,decide_eq_true_eq]at h1;have h2:bef (nA l j).fr (nA l j).nu (nA l<|j+1).fr (nA l<|j+1).nu=A1:=h1.2.resolve_left J;rcases GN i j with h3|h3
  .exact aao (Vd h j i h3 J) h2
  .rwa[show i=j by omega]
def Ce(r:A4):A4:=((BK (r.size:Int)++B [58])++r)++B [59]
def lD(r:A4):L (Ce r)=dcm r.size++58::(L r++[59]):=by
 unfold Ce;rw[aA7];simp only[GL,L_B,p7,C7,L4,EW]
def aQ(r:A4):(Ce r).size=(dcm r.size).length+2+r.size:=by
 rw[← Ay,lD];simp only[Ar,Bw,C2,Ay];omega
def cat(rs:List A4):List UInt8:=rs.flatMap λr=>L<|Ce r
def KU:cat []=[]:=rfl
def IS(r:A4)(rs:List A4):cat (r::rs)=L (Ce r)++cat rs:=rfl
def Kg(rs ts:List A4):cat (rs++ts)=cat rs++cat ts:=qB
def He(rs:List A4):Prop:=∀r∈rs,1<=r.size/\r.size<=60
def arm(b:UInt8)(h:dig b=A1):b≠58:=by
 rintro rfl;revert h;decide
def aBc{n:Nat}(h:n<=60):(dcm n).length<=2:=LL 2 n J J
def aaR(n:Nat):1<=(dcm n).length:=by
 have:=je n;cases h:dcm n with
 | nil=>exact absurd h this
 | cons b l=>simp
def zE{l m:List UInt8}{b:UInt8}{i:Nat}(h:i=l.length):(l++b::m).getD i 0=b:=by
 subst h;simp
def Xm{s r:A4}{t:List UInt8}(h:L s=L (Ce r)++t)(h1:1<=r.size)(h2:r.size<=60):Dk s=I (r,(Ce r).size):=by
 rw[lD]at h;have hs:s.size=(dcm r.size).length+2+r.size+t.length:=by
  rw[← Ay,h];simp only[Ar,Bw,C2,Ay];omega
 have hd:=aBc h2;have hp:=aaR r.size;generalize hc:(dcm r.size).length=c at *;have hL:L s=dcm r.size++58::(L r++59::t):=by rw[h];simp
 have apI:Sq s=(c:Int):=by
  refine aEO J ?_ (λj hj=> ?_)
  .rw[decide_eq_true_eq,Kb,hL,zE hc.symm];rfl
  .rw[decide_eq_false_iff_not,Kb,hL];have hlt:j<(dcm r.size).length:=J
   have hm:(dcm r.size++58::(L r++59::t)).getD j 0∈dcm r.size:=yr hlt;have hdg:=ZR (r.size+1) r.size J _ hm;have hne:=arm _ hdg;generalize (dcm r.size++58::(L r++59::t)).getD j 0=b at *;intro e;apply hne;have e:b.toNat=58:=J
   exact R0.1 e
 have he:L (s.extract 0 c)=dcm r.size:=by
  rw[E5,hL];simp[← hc]
 have hn:Ah (s.extract 0 c)=(r.size:Int):=o5 (by rw[← Ay,he];omega) he;have h59:bt s ((c+1+r.size:Nat):Int)=59:=by
  have e:(L s).getD (c+1+r.size) 0=59:=by
   have:dcm r.size++58::(L r++59::t)=(dcm r.size++58::L r)++59::t:=by simp
   rw[hL,this];exact zE (by simp[hc];omega)
  rw[Kb,e];rfl
 have hx:s.extract (c+1) (c+1+r.size)=r:=by
  refine Fm ?_;rw[E5,hL];have:(dcm r.size++58::(L r++59::t)).drop (c+1)=L r++59::t:=by
   have e:dcm r.size++58::(L r++59::t)=(dcm r.size++[58])++(L r++59::t):=by simp
   rw[e,R5<|by simp[hc]]
  rw[this,show c+1+r.size - (c+1)=(L r).length by rw[Ay];omega,Pp rfl]
 unfold Dk;rw[apI];simp only[Bu,hn];rw[AB J,AB J,AB J,AB J,h59];simp only[AS,AD,A6,hx];rw[aQ,hc]
def apL{s r:A4}{n:Nat}(h:Dk s=I (r,n)):1<=r.size/\r.size<=60/\n=(Ce r).size/\ ∃t,L s=L (Ce r)++t:=by
 have hsm:=UH h;unfold Dk at h;split at h
 .cases h
 rename_i hc0;rcases dM s with⟨h1,_⟩|⟨c,h1,h2,h3,h4,_⟩
 .omega
 rw[h1]at h;simp only[Bu]at h;split at h
 .cases h
 rename_i hn1;split at h
 .cases h
 rename_i hn2;split at h
 .cases h
 rename_i hn3;split at h
 .cases h
 rename_i hn4;cases h;have hz:(s.extract 0 c).size=c:=by rw[FT J];omega
 rcases RI (s.extract 0 c) with⟨h9,_⟩|⟨k,h9,h10,h11⟩
 .omega
 simp only[h9,Bu]at hn1 hn2 hn3 hn4 hsm ⊢;have hrs:(s.extract (c+1)<|c+1+k).size=k:=by rw[FT J];omega
 have h5:bt s ((c+1+k:Nat):Int)=59:=by
  cases hd:A0 (bt s ((c+1+k:Nat):Int)=59) with
  | true=>simpa using hd
  | false=>rw[hd]at hn4;exact absurd rfl hn4
 have g1:(L s).getD c 0=58:=by
  rw[Kb]at h4;exact R0.1 (by have:(58:UInt8).toNat=58:=rfl;omega)
 have g2:(L s).getD (c+1+k) 0=59:=by
  rw[Kb]at h5;exact R0.1 (by have:(59:UInt8).toNat=59:=rfl;omega)
 have hlen:(L s).length=s.size:=Ay s;have t1:(L s).take c=dcm k:=by
  rw[← h11,E5];simp
 have hcl:(dcm k).length=c:=by rw[← t1,DX];omega
 have hsp:L s=dcm k++58::((L<|s.extract (c+1)<|c+1+k)++59::(L s).drop (c+1+k+1)):=by
  conv=>lhs;rw[← Kh c<|L s,t1]
  congr 1;rw[VB J];congr 1
  .rw[← g1,BD,Ax J];rfl
  .rw[E5]
   conv=>lhs;rw[← Kh k<|(L s).drop<|c+1]
   rw[show c+1+k - (c+1)=k by omega];congr 1;rw[Js,VB J];congr 1;rw[← g2,BD,Ax J];rfl
 refine⟨J,J, ?_,(L s).drop<|c+1+k+1, ?_⟩
 .rw[aQ,hrs,hcl]
 .rw[lD,hrs]
  conv=>lhs;rw[hsp]
  simp
def jb(r:A4):3<=(Ce r).size:=by
 rw[aQ];have:=aaR r.size;omega
def tT{log:A4}:∀(rs:List A4) (f:Nat) (out:List A4) (at_:Nat),He rs->(L log).drop at_=cat rs->at_<=log.size->log.size<at_+f->Eh log f out at_=(out++rs,log.size)
 | [],0,out,at_,_,_,h3,h4=>J
 | [],f+1,out,at_,_,h2,h3,h4=>by
  have:log.size<=at_:=by
   have e:=congrArg JT h2;rw[Dd,Ay,KU]at e;simp at e;omega
  unfold Eh;rw[AB J,CH];rw[show at_=log.size by omega]
 | r::rs,0,out,at_,_,_,h3,h4=>J
 | r::rs,f+1,out,at_,h1,h2,h3,h4=>by
  have hr:=h1 r Ap;rw[IS]at h2;have hlen:log.size - at_=(Ce r).size+(cat rs).length:=by
   have e:=congrArg JT h2;rwa[Dd,Ay,Ar,Ay]at e
  have hp:=jb r;have DM:Dk (log.extract at_ log.size)=I (r,(Ce r).size):=by
   refine Xm (t:=cat rs) ?_ hr.1 hr.2;rw[E5,h2];refine J8 ?_;rw[Ar,Ay];omega
  unfold Eh;rw[A8 J,DM];simp only;have:=tT (log:=log) rs f (out++[r]) (at_+(Ce r).size) (λx hx=>h1 x<|Al _ hx) (by
   rw[← Js,h2,R5<|by rw[Ay]]) J J
  rw[this];simp
def cB{log:A4}{rs:List A4}(h1:He rs)(h2:L log=cat rs):D6 log=(rs,log.size):=by
 have:=tT (log:=log) rs (log.size+1) [] 0 h1 (by simpa using h2) (Cw _) J;exact this
def oG{log:A4}:∀(f:Nat) (out:List A4) (at_:Nat),at_<=log.size->∃rs,(Eh log f out at_).1=out++rs/\He rs/\ ∃t,(L log).drop at_=cat rs++t/\(Eh log f out at_).2=at_+(cat rs).length
 | 0,out,at_,_=>⟨[],by simp[Eh],(λr hr=>nomatch hr),(L log).drop at_,rfl,rfl⟩
 | f+1,out,at_,h=>by
  unfold Eh;split
  .rename_i hlt;cases DM:Dk (log.extract at_ log.size) with
   | none=>exact⟨[],by simp,(λr hr=>nomatch hr),(L log).drop at_,rfl,rfl⟩
   | some p=>
    obtain⟨r,n⟩:=p;obtain⟨k1,k2,k3,t,k4⟩:=apL DM;have hsm:=UH DM;rw[FT<|As _]at hsm;simp only at hsm ⊢;obtain⟨rs,g1,g2,t',g3,g4⟩:=oG (log:=log) f (out++[r]) (at_+n) J;have e:L (log.extract at_ log.size)=(L log).drop at_:=by
     rw[E5];exact J8 (by rw[Dd,Ay];omega)
    rw[e]at k4;have ht:t=cat rs++t':=by
     rw[← g3,← Js,k4,k3,R5<|by rw[Ay]]
    refine⟨r::rs,by rw[g1];simp,λx hx=> ?_,t',by rw[k4,ht,IS,C7], ?_⟩
    .rcases Bk.1 hx with rfl|hx
     .exact⟨k1,k2⟩
     .exact g2 x hx
    .rw[g4,IS,Ar,Ay,k3];omega
  .exact⟨[],by simp,(λr hr=>nomatch hr),(L log).drop at_,rfl,rfl⟩
def rh(log:A4):He (D6 log).1/\(D6 log).2=(cat (D6 log).1).length/\ ∃t,L log=cat (D6 log).1++t:=by
 obtain⟨rs,g1,g2,t,g3,g4⟩:=oG (log:=log) (log.size+1) [] 0<|Cw _;have e:(D6 log).1=rs:=by
  show(Eh log (log.size+1) [] 0).1=rs;simpa using g1
 rw[e];refine⟨g2, ?_,t,by simpa using g3⟩;show(Eh log (log.size+1) [] 0).2=_;rw[g4,DJ]
def rE:∀(rs ts:List A4) (t:List UInt8),He rs->He ts->cat rs=cat ts++t->∃us,rs=ts++us
 | rs,[],t,_,_,_=>⟨rs,rfl⟩
 | [],s::ts,t,_,_,h=>by
  have e:=congrArg JT h;rw[IS,KU]at e;have:=jb s;simp only[C2,Ar,Ay]at e;omega
 | r::rs,s::ts,t,h1,h2,h=>by
  rw[IS,IS,C7]at h;have hr:=h1 r Ap;have hs:=h2 s Ap;have o1:=Xm (s:=B<|L (Ce r)++cat rs) (r:=r) (t:=cat rs) (L_B _) hr.1 hr.2;have o2:=Xm (s:=B<|L (Ce r)++cat rs) (r:=s) (t:=cat ts++t) (by rw[L_B,h]) hs.1 hs.2;rw[o1]at o2;simp only[Bv,CM]at o2;obtain⟨rfl,_⟩:=o2;obtain⟨us,hu⟩:=rE rs ts t (λx hx=>h1 x<|Al _ hx) (λx hx=>h2 x<|Al _ hx)<|aBm h;exact⟨us,by rw[hu];rfl⟩
def abM{lg:A4}{fo:Int}:DN lg fo=A1↔lg.size<=2400/\ ∃rs ts,He (rs++ts)/\L lg=cat (rs++ts)/\fo=((cat rs).length:Int):=by
 unfold DN;simp only[AI,decide_eq_true_eq];constructor
 .rintro⟨h1,h2,h3,h4⟩;have h2:=Af.1 h2;obtain⟨a1,a2,t,a3⟩:=rh lg;obtain⟨b1,b2,t',b3⟩:=rh<|lg.extract 0 fo.toNat;have ht:t=[]:=by
   have e:=congrArg JT a3;rw[Ay,Ar]at e;exact EE J
  rw[ht,CH]at a3;have hz:(lg.extract 0 fo.toNat).size=fo.toNat:=by rw[FT J];omega
  have ht':t'=[]:=by
   have e:=congrArg JT b3;rw[Ay,Ar,hz]at e;exact EE J
  rw[ht',CH]at b3;have hp:cat (D6 lg).1=cat (D6<|lg.extract 0 fo.toNat).1++(L lg).drop fo.toNat:=by
   rw[← a3,← b3,E5,JM,J0,Kh]
  obtain⟨us,hu⟩:=rE _ _ _ a1 b1 hp;refine⟨h1,(D6<|lg.extract 0 fo.toNat).1,us,by rw[← hu];exact a1,by rw[← hu];exact a3, ?_⟩;rw[← b2];exact h4.symm
 .rintro⟨h1,rs,ts,h2,h3,rfl⟩;have hsz:lg.size=(cat rs).length+(cat ts).length:=by rw[← Ay,h3,Kg,Ar]
  have hrs:He rs:=λr hr=>h2 r<|CE _ hr;have he:L (lg.extract 0 (cat rs).length)=cat rs:=by
   rw[E5,h3,Kg,JM,J0,Pp rfl]
  have e1:=cB h2 h3;have e2:=cB hrs he;refine⟨h1,Af.2 ⟨J,J⟩,by rw[e1], ?_⟩;rw[Bu,e2];simp only;rw[← Ay,he]
def Dj(k:AJ):Prop:=∀n∈k.held,∀m∈k.inbox,¬(n.fr=m.fr/\n.nu=m.nu)
def TY{l:List A7}{f n:Int}(h:AY l f n<0):∀x∈l,¬(x.fr=f/\x.nu=n):=by
 intro x hx hc;rcases FO l.length (λi=>A0 ((nA l i).fr=f)&&A0 ((nA l i).nu=n)) with⟨_,h2⟩|⟨i,h1,_⟩
 .obtain⟨j,hj,rfl⟩:=Dt hx;have:=h2 j hj;rw[Dq<|Ax hj]at this;simp[hc.1,hc.2]at this
 .unfold AY at h;omega
def aM{l:List A7}{f n:Int}(h:∀x∈l,¬(x.fr=f/\x.nu=n)):AY l f n= -1:=by
 rcases Vc l f n with h1|h1
 .exact h1
 .obtain⟨h2,_,h3,h4⟩:=HM h1;exact absurd ⟨h3,h4⟩<|h _<|gL h2
def aEI{l:List Mark}{f n:Int}(h:Bo l f n<0):∀x∈l,¬(x.mf=f/\x.mn=n):=by
 intro x hx hc;rcases FO l.length (λi=>A0 ((mA l i).mf=f)&&A0 ((mA l i).mn=n)) with⟨_,h2⟩|⟨i,h1,_⟩
 .obtain⟨j,hj,rfl⟩:=Dt hx;have:=h2 j hj;rw[Ge<|Ax hj]at this;simp[hc.1,hc.2]at this
 .unfold Bo at h;omega
def ak7{l:List Mark}{j:Nat}(h:j<l.length):mA l j∈l:=by
 rw[Ge<|Ax h];exact CQ h
def aAX{l:List Mark}{f n:Int}(h:∀x∈l,¬(x.mf=f/\x.mn=n)):Bo l f n= -1:=by
 rcases FO l.length (λi=>A0 ((mA l i).mf=f)&&A0 ((mA l i).mn=n)) with⟨h1,_⟩|⟨i,_,h2,h3,_⟩
 .exact h1
 .simp only[AI,decide_eq_true_eq]at h3;exact absurd h3<|h _<|ak7 h2
def ac5{k o:AJ}{n:A7}(h:Fj k n=I o)(hd:Dj k):Dj o:=by
 unfold Fj at h;split at h
 .cases h
 split at h
 .cases h
 split at h
 .cases h
 rename_i h1;split at h
 .cases h
 rename_i h2;split at h
 .cases h
 split at h
 .cases h
 have a1:=TY (l:=k.held) (f:=n.fr) (n:=n.nu) (by simpa using h1);have a2:=TY (l:=k.inbox) (f:=n.fr) (n:=n.nu) (by simpa using h2);split at h<;>cases h
 .intro x hx m hm;rcases UB _ hm with rfl|hm
  .exact a1 x hx
  .exact hd x hx m hm
 .intro x hx m hm;rcases UB _ hx with rfl|hx
  .exact λhc=>a2 m hm ⟨hc.1.symm,hc.2.symm⟩
  .exact hd x hx m hm
def vl{l:List A7}{i:Nat}{x:A7}(h:x∈H8 l i):x∈l:=by
 unfold H8 at h;rcases Br.1 h with h|h
 .exact Ib h
 .exact Io h
def ao0{k o:AJ}{w:A4}{n:Int}(h:Ih k w n=I o)(hd:Dj k):Dj o:=by
 unfold Ih at h;split at h
 .cases h;intro x hx m hm;exact hd x (Gy.1 hx).1 m hm
 split at h
 .cases h;exact hd
 .cases h
def agS{k o:AJ}{w:A4}{n:A7}(h:Gx k w n=I o)(hd:Dj k):Dj o:=by
 unfold Gx at h;split at h
 .exact ac5 h hd
 split at h
 .exact ac5 h hd
 split at h
 .cases h
 rename_i hn;simp only[Ci,decide_eq_true_eq,not_or]at hn;have a1:=TY (l:=k.held) (f:=n.fr) (n:=n.nu) J;have a2:=TY (l:=k.inbox) (f:=n.fr) (n:=n.nu) J;split at h
 .cases h;intro x hx m hm;rcases UB _ hx with rfl|hx
  .exact λhc=>a2 m hm ⟨hc.1.symm,hc.2.symm⟩
  .exact hd x hx m hm
 split at h
 .cases h;intro x hx m hm;rcases UB _ hm with rfl|hm
  .exact a1 x hx
  .exact hd x hx m hm
 .cases h
def asW{k o:AJ}{w:A4}{m:Mark}(h:FM k w m=I o)(hd:Dj k):Dj o:=by
 unfold FM at h;split at h
 .cases h;exact λx hx m hm=>hd x (vl hx) m hm
 split at h
 .cases h;exact λx hx m hm=>hd x hx m<|vl hm
 split at h
 .cases h;exact hd
 .cases h
def amA{k o:AJ}{w r:A4}(h:Bx k w r=I o)(hd:Dj k):Dj o:=by
 unfold Bx at h;split at h
 .split at h
  .exact ao0 h hd
  .cases h
 split at h
 .split at h
  .exact agS h hd
  .cases h
 split at h
 .split at h
  .exact asW h hd
  .cases h
 .cases h
def Mf{k o:AJ}{r:A4}(hk:Aw k=A1):Bd k r=I o↔G8 k r=I o/\Aw o=A1:=by
 unfold Bd FC;simp only[hk,A5];constructor
 .intro h;cases hf:(G8 k r).filter Aw with
  | none=>rw[hf]at h;cases h
  | some o'=>
   rw[hf]at h;cases h;exact Po.1 hf
 .intro h;rw[Po.2 h];rfl
def avN{k o:AJ}{r:A4}(hk:Aw k=A1)(h:Bd k r=I o)(hd:Dj k):Dj o:=by
 have h1:=((Mf hk).1 h).1;unfold G8 at h1;split at h1
 .cases h1
 .exact amA h1 hd
def aCw:∀ {rs:List A4} {k o:AJ},Aw k=A1->Dj k->FY k rs=I o->Dj o
 | [],k,o,_,hd,h=>by cases h;exact hd
 | r::rs,k,o,hk,hd,h=>by
  unfold FY at h;rw[SN]at h;cases hs:Bd k r with
  | none=>rw[hs]at h;cases h
  | some k'=>rw[hs]at h;exact aCw (rs:=rs) (TE hs) (avN hk hs hd) h
def ac7{id:Int}{rs:List A4}{o:AJ}(h:D8 id rs=I o):Dj o:=by
 unfold D8 at h;split at h
 .exact aCw (Rl<|by assumption) (λn hn=>by cases hn) h
 .cases h
def N6(k:AJ)(rs ts:List A4):FY k (rs++ts)=(FY k rs).bind λo=>FY o ts:=List.foldlM_append
def RU(k:AJ)(r:A4):FY k [r]=Bd k r:=by
 unfold FY;rw[SN];cases Bd k r<;>rfl
def G1(t:Int):A4:=B [116,105,109,101,32]++BK t
def KM(n:Int):A4:=B [110,101,120,116,32]++BK n
def Dh(w:A4)(a b c:Int):A4:=((((((w++B [32])++BK a)++B [32])++BK b)++B [32])++BK c)
def MA(n:A7):A4:=B [104,101,108,100,32]++wr n
def Me(n:A7):A4:=B [105,110,98,111,120,32]++wr n
def Cd(k:AJ):List A4:=
 ((((if 0<k.ti then [G1 k.ti] else [])++(if 1<k.nx then [KM k.nx] else []))++k.marks.map λm=>Dh DD m.mf m.mn m.mu)++k.held.map MA)++k.inbox.map Me
def Ko{k:AJ}{rec:A4}{w r:List UInt8}(hw:Cs w)(e:L rec=w++32::r):G8 k rec=Bx k (B w) (B r):=by
 unfold G8;rw[e,Sm hw,Lj hw e];rfl
def vh{k:AJ}{t:Int}(h0:0<=t)(h1:t<100000)(h:k.ti<t):Bx k Eb (B<|BB t)=I ⟨k.id,t,k.nx,Gg t k.held,KN t k.marks,k.inbox⟩:=by
 unfold Bx Ih;simp only[Im h0 h1,Bh,A5,AX,h,AS]
def aos{k:AJ}{n:Int}(h0:0<=n)(h1:n<100000)(h:k.nx<n):Bx k Ej (B<|BB n)=I ⟨k.id,k.ti,n,k.held,k.marks,k.inbox⟩:=by
 unfold Bx Ih;simp[tC,Im h0 h1,D3,A5,AP,AX,h,AS,A6]
def azG{k:AJ}{m:Mark}{r:A4}(ht:HD r=I m)(h:Bo k.marks m.mf m.mn<0):Bx k DD r=I ⟨k.id,k.ti,k.nx,k.held,ET k.marks m,k.inbox⟩:=by
 have e:A0 (0<=Bo k.marks m.mf m.mn)=A3:=by simp;omega
 unfold Bx FM;simp[oF,sO,pB,o6,gH,jV,me,nB,Fa,BY,D3,A5,A6,ht,AP,AX,e,AG]
def azV{k:AJ}{n:A7}(hn:B3 n=A1)(h1:AY k.held n.fr n.nu<0)(h2:AY k.inbox n.fr n.nu<0):Bx k EG (wr n)=I ⟨k.id,k.ti,k.nx,Cu k.held n,k.marks,k.inbox⟩:=by
 have e1:A0 (0<=AY k.held n.fr n.nu)=A3:=by simp;omega
 have e2:A0 (0<=AY k.inbox n.fr n.nu)=A3:=by simp;omega
 unfold Bx Gx;simp[yI,zJ,abT,aAk,Fa,BY,Bh,A5,A6,RE hn,AP,e1,e2]
def apq{k:AJ}{n:A7}(hn:B3 n=A1)(h1:AY k.held n.fr n.nu<0)(h2:AY k.inbox n.fr n.nu<0):Bx k EV (wr n)=I ⟨k.id,k.ti,k.nx,k.held,k.marks,Cu k.inbox n⟩:=by
 have e1:A0 (0<=AY k.held n.fr n.nu)=A3:=by simp;omega
 have e2:A0 (0<=AY k.inbox n.fr n.nu)=A3:=by simp;omega
 unfold Bx Gx;simp[abE,aCp,acQ,uh,aEx,Fa,BY,D3,A5,A6,RE hn,AP,e1,e2]
def aAY:Cs [116,105,109,101]:=by unfold Cs;decide
def awb:Cs [110,101,120,116]:=by unfold Cs;decide
def axw:Cs [109,97,114,107]:=by unfold Cs;decide
def awh:Cs [104,101,108,100]:=by unfold Cs;decide
def ax3:Cs [105,110,98,111,120]:=by unfold Cs;decide
def n8(t:Int):L (G1 t)=[116,105,109,101]++32::BB t:=by unfold G1;simp only[GL,L_B,Sj];rfl
def xo(t:Int):L (KM t)=[110,101,120,116]++32::BB t:=by unfold KM;simp only[GL,L_B,Sj];rfl
def ji(w:A4)(a b c:Int):L (Dh w a b c)=L w++32::(BB a++32::(BB b++32::BB c)):=by
 unfold Dh;simp only[GL,L_B,Sj,C7,L4,EW]
def yC(n:A7):L (MA n)=[104,101,108,100]++32::L (wr n):=by unfold MA;simp only[GL,L_B];rfl
def aaV(n:A7):L (Me n)=[105,110,98,111,120]++32::L (wr n):=by unfold Me;simp only[GL,L_B];rfl
def O2{k:AJ}(h:Ek k):Aw k=A1:=by
 have a:=h.hl;have b:=h.ml;have c:=h.il;unfold Aw;simp only[AI,Af,decide_eq_true_eq,CO];exact⟨⟨h.id0,h.id1⟩,⟨h.t0,h.t1⟩,⟨h.n0,h.n1⟩,⟨J,h.h⟩,⟨J,h.m⟩,⟨J,h.i⟩,h.ho,h.mo,h.io⟩
def eB{l:List A7}{a i:Nat}(h:i<a):nA (l.take a) i=nA l i:=by
 unfold nA;simp[BD,h]
def rm{l:List Mark}{a i:Nat}(h:i<a):mA (l.take a) i=mA l i:=by
 unfold mA;simp[BD,h]
def aAI{l:List A7}(h:EL l=A1)(a:Nat):EL (l.take a)=A1:=by
 refine CO.2 λi hi=> ?_;rw[DX]at hi;have:=CO.1 h i J;rw[eB J,eB J];exact this
def ag3{l:List Mark}(h:Hm l=A1)(a:Nat):Hm (l.take a)=A1:=by
 refine CO.2 λi hi=> ?_;rw[DX]at hi;have:=CO.1 h i J;rw[rm J,rm J];exact this
def acE{l:List Mark}(h:Hm l=A1):∀(j i:Nat),i<j->j<l.length->bef (mA l i).mf (mA l i).mn (mA l j).mf (mA l j).mn=A1
 | j+1,i,hij,hj=>by
  have h1:=CO.1 h (j+1) hj;simp only[AI,Ci,decide_eq_true_eq]at h1;have h2:bef (mA l j).mf (mA l j).mn (mA l<|j+1).mf (mA l<|j+1).mn=A1:=h1.2.resolve_left J;rcases GN i j with h3|h3
  .exact aao (acE h j i h3 J) h2
  .rwa[show i=j by omega]
def S7{k:AJ}(hf:Ek k)(a b c:Nat)(hc:c=0\/k.marks.length<=b):Ek ⟨k.id,k.ti,k.nx,k.held.take a,k.marks.take b,k.inbox.take c⟩:=by
 have hl:=hf.hl;have ml:=hf.ml;have il:=hf.il;refine⟨hf.id0,hf.id1,hf.t0,hf.t1,hf.n0,hf.n1,by simp;omega,aAI hf.h a,by simp;omega,ag3 hf.m b,by simp;omega,aAI hf.i c,λi hi=> ?_,λi hi=> ?_,λi hi=> ?_⟩
 .simp only[DX]at hi;have:=hf.ho i J;unfold Gj at this ⊢;simp only[AI,decide_eq_true_eq]at this ⊢;rw[eB J];refine⟨this.1,this.2.1,this.2.2.1, ?_⟩;rw[aAX λx hx=>aEI this.2.2.2 x<|Ib hx];omega
 .simp only[DX]at hi;have:=hf.mo i J;unfold Jo at this ⊢;rw[rm J];exact this
 .simp only[DX]at hi;obtain hc|hc:=hc
  .omega
  .have:=hf.io i J;simp only;rw[J8 hc];unfold IM at this ⊢;rw[eB J];exact this
def iU{α:Type}{f:α->Bool}{l:List α}{n:α}(h:∀x∈l,f x=A1):ins f l n=l++[n]:=by
 unfold ins;have h1:l.takeWhile f=l:=by
  induction l with
  | nil=>rfl
  | cons x l ih=>rw[Rf,h x Ap];simp only[A5];rw[ih λy hy=>h y<|Al _ hy]
 have h2:l.dropWhile f=[]:=by
  induction l with
  | nil=>rfl
  | cons x l ih=>rw[jS,h x Ap];simp only[A5];exact ih (λy hy=>h y<|Al _ hy) (by
    have:=h1;rw[Rf,h x Ap]at this;simpa using this)
 rw[h1,h2]
def M9{α:Type}{l:List α}{j:Nat}(h:j<l.length):l.take (j+1)=l.take j++[l[j]]:=by
 rw[K5,Ax h];rfl
def yy{k:AJ}(hk:Aw k=A1)(hd:Dj k):D8 k.id (Cd k)=I k:=by
 have hf:=Cl hk;have hid:isN k.id=A1:=Af.2 ⟨hf.id0,hf.id1⟩;have t0:=hf.t0;have t1:=hf.t1;have n0:=hf.n0;have n1:=hf.n1;have kT:Aw ⟨k.id,k.ti,1,[],[],[]⟩=A1:=by
  refine O2 ⟨hf.id0,hf.id1,t0,t1,(by decide:(1:Int)<=1),(by decide:(1:Int)<=100),by simp,rfl,by simp,rfl,by simp,rfl,λi hi=>by simp at hi,λi hi=>by simp at hi,λi hi=>by simp at hi⟩
 have kN:Aw ⟨k.id,k.ti,k.nx,[],[],[]⟩=A1:=by
  refine O2 ⟨hf.id0,hf.id1,t0,t1,n0,n1,by simp,rfl,by simp,rfl,by simp,rfl,λi hi=>by simp at hi,λi hi=>by simp at hi,λi hi=>by simp at hi⟩
 have s1:FY ⟨k.id,0,1,[],[],[]⟩ (if 0<k.ti then [G1 k.ti] else [])=I ⟨k.id,k.ti,1,[],[],[]⟩:=by
  by_cases h:0<k.ti
  .rw[A8 h,RU,(Mf<|Rl hid).2 ⟨?_,kT⟩];rw[Ko aAY<|n8 _];exact vh t0 J h
  .rw[AB h,show k.ti=0 by omega];rfl
 have s2:FY ⟨k.id,k.ti,1,[],[],[]⟩ (if 1<k.nx then [KM k.nx] else [])=I ⟨k.id,k.ti,k.nx,[],[],[]⟩:=by
  by_cases h:1<k.nx
  .rw[A8 h,RU,(Mf kT).2 ⟨?_,kN⟩];rw[Ko awb<|xo _];exact aos J J h
  .rw[AB h,show k.nx=1 by omega];rfl
 have s3:∀j,j<=k.marks.length->FY ⟨k.id,k.ti,k.nx,[],[],[]⟩ ((k.marks.take j).map λm=>Dh DD m.mf m.mn m.mu)=I ⟨k.id,k.ti,k.nx,[],k.marks.take j,[]⟩:=by
  intro j
  induction j with
  | zero=>intro _;rfl
  | succ j ih=>
   intro hj;have hjl:j<k.marks.length:=J
   have hm:=Uo hf.m hjl;rw[Ge<|Ax hjl]at hm;have hr:=PE hm;have g1:=O2<|S7 hf 0 j 0<|.inl rfl;have g2:=O2<|S7 hf 0 (j+1) 0<|.inl rfl;have g3:Aw ⟨k.id,k.ti,k.nx,[],k.marks.take j++[k.marks[j]'hjl],[]⟩=A1:=by
    rw[← M9 hjl];simpa using g2
   have N8:∀x∈k.marks.take j,bef x.mf x.mn k.marks[j].mf k.marks[j].mn=A1:=λx hx=>by
    obtain⟨i,hi,rfl⟩:=Dt hx;rw[DX]at hi;have:=acE hf.m j i J hjl;rw[Ge<|Ax hjl,Ge<|Ax (by omega:i<k.marks.length)]at this;simpa using this
   rw[M9 hjl,Ev,N6,ih J];simp only[A9,DW,IJ];rw[RU,(Mf<|by simpa using g1).2 ⟨?_,g3⟩];have h3:=rO (r:=B<|BB (k.marks[j]'hjl).mf++32::(BB (k.marks[j]'hjl).mn++32::BB (k.marks[j]'hjl).mu)) (a:=(k.marks[j]'hjl).mf) (b:=(k.marks[j]'hjl).mn) (c:=(k.marks[j]'hjl).mu) J J J J J J<|L_B _;rw[Ko axw<|ji _ _ _ _,azG h3 ?_]
   .simp only;rw[show ET (k.marks.take j) k.marks[j]=k.marks.take j++[k.marks[j]] from iU N8]
   .simp only;rw[aAX λx hx hc=>by
     have:=N8 x hx;rw[hc.1,hc.2,TX]at this;cases this]
    omega
 have s4:∀j,j<=k.held.length->FY ⟨k.id,k.ti,k.nx,[],k.marks,[]⟩ ((k.held.take j).map MA)=I ⟨k.id,k.ti,k.nx,k.held.take j,k.marks,[]⟩:=by
  intro j
  induction j with
  | zero=>intro _;rfl
  | succ j ih=>
   intro hj;have hjl:j<k.held.length:=J
   have hm:=Gi hf.h hjl;rw[Dq<|Ax hjl]at hm;have g1:=O2<|S7 hf j k.marks.length 0<|.inl rfl;have g2:=O2<|S7 hf (j+1) k.marks.length 0<|.inl rfl;rw[Ec]at g1 g2;have g3:Aw ⟨k.id,k.ti,k.nx,k.held.take j++[k.held[j]'hjl],k.marks,[]⟩=A1:=by
    rw[← M9 hjl];simpa using g2
   have N8:∀x∈k.held.take j,bef x.fr x.nu k.held[j].fr k.held[j].nu=A1:=λx hx=>by
    obtain⟨i,hi,rfl⟩:=Dt hx;rw[DX]at hi;have:=Vd hf.h j i J hjl;rw[Dq<|Ax hjl,Dq<|Ax (by omega:i<k.held.length)]at this;simpa using this
   rw[M9 hjl,Ev,N6,ih J];simp only[A9,DW,IJ];rw[RU,(Mf<|by simpa using g1).2 ⟨?_,g3⟩];rw[Ko awh<|yC _,B_L,azV hm ?_ ?_]
   .simp only;rw[show Cu (k.held.take j) k.held[j]=k.held.take j++[k.held[j]] from iU N8]
   .simp only;rw[aM λx hx hc=>by
     have:=N8 x hx;rw[hc.1,hc.2,TX]at this;cases this]
    omega
   .simp only;rw[aM λx hx=>by cases hx];omega
 have s5:∀j,j<=k.inbox.length->FY ⟨k.id,k.ti,k.nx,k.held,k.marks,[]⟩ ((k.inbox.take j).map Me)=I ⟨k.id,k.ti,k.nx,k.held,k.marks,k.inbox.take j⟩:=by
  intro j
  induction j with
  | zero=>intro _;rfl
  | succ j ih=>
   intro hj;have hjl:j<k.inbox.length:=J
   have hm:=Gi hf.i hjl;rw[Dq<|Ax hjl]at hm;have g1:=O2<|S7 hf k.held.length k.marks.length j<|.inr<|As _;have g2:=O2<|S7 hf k.held.length k.marks.length (j+1)<|.inr<|As _;rw[Ec,Ec]at g1 g2;have g3:Aw ⟨k.id,k.ti,k.nx,k.held,k.marks,k.inbox.take j++[k.inbox[j]'hjl]⟩=A1:=by
    rw[← M9 hjl];simpa using g2
   have N8:∀x∈k.inbox.take j,bef x.fr x.nu k.inbox[j].fr k.inbox[j].nu=A1:=λx hx=>by
    obtain⟨i,hi,rfl⟩:=Dt hx;rw[DX]at hi;have:=Vd hf.i j i J hjl;rw[Dq<|Ax hjl,Dq<|Ax (by omega:i<k.inbox.length)]at this;simpa using this
   rw[M9 hjl,Ev,N6,ih J];simp only[A9,DW,IJ];rw[RU,(Mf<|by simpa using g1).2 ⟨?_,g3⟩];rw[Ko ax3<|aaV _,B_L,apq hm ?_ ?_]
   .simp only;rw[show Cu (k.inbox.take j) k.inbox[j]=k.inbox.take j++[k.inbox[j]] from iU N8]
   .simp only;rw[aM λx hx=>hd x hx _<|CQ hjl];omega
   .simp only;rw[aM λx hx hc=>by
     have:=N8 x hx;rw[hc.1,hc.2,TX]at this;cases this]
    omega
 have e3:=s3 k.marks.length<|As _;have e4:=s4 k.held.length<|As _;have e5:=s5 k.inbox.length<|As _;rw[Ec]at e3 e4 e5;unfold D8 Cd;rw[A8 hid,N6,N6,N6,N6,s1];simp only[A9,s2,e3,e4,e5]
structure DZ (lg:A4) (fo:Int) (rs ts:List A4):Prop where
 ok:He (rs++ts)
 sz:lg.size<=2400
 eq:L lg=cat (rs++ts)
 fo:fo=((cat rs).length:Int)
def aCC{lg:A4}{fo:Int}(h:DN lg fo=A1):∃rs ts,DZ lg fo rs ts:=by
 obtain⟨h1,rs,ts,h2,h3,h4⟩:=abM.1 h;exact⟨rs,ts,h2,h1,h3,h4⟩
def DZ.sg{lg:A4}{fo:Int}{rs ts:List A4}(h:DZ lg fo rs ts):DN lg fo=A1:=
 abM.2 ⟨h.sz,rs,ts,h.ok,h.eq,h.fo⟩
def DZ.read{lg:A4}{fo:Int}{rs ts:List A4}(h:DZ lg fo rs ts):D6 lg=(rs++ts,lg.size):=cB h.ok h.eq
def abq{rs ts:List A4}(h:He (rs++ts)):He rs:=λr hr=>h r<|CE _ hr
def DZ.amK{lg:A4}{fo:Int}{rs ts:List A4}(h:DZ lg fo rs ts):L (lg.extract 0 fo.toNat)=cat rs:=by
 rw[E5,h.eq,h.fo,Bu,Kg,JM,J0,Pp rfl]
def DZ.agl{lg:A4}{fo:Int}{rs ts:List A4}(h:DZ lg fo rs ts):(D6<|lg.extract 0 fo.toNat).1=rs:=by
 rw[cB (abq h.ok) h.amK]
def DZ.state{lg:A4}{fo:Int}{rs ts:List A4}(h:DZ lg fo rs ts)(id:Int):D4 id lg=D8 id (rs++ts):=by
 unfold D4;rw[h.read]
def DZ.axP{lg:A4}{fo:Int}{rs ts:List A4}(h:DZ lg fo rs ts)(id:Int):D4 id (lg.extract 0 fo.toNat)=D8 id rs:=by
 unfold D4;rw[h.agl]
def aFo(id:Int)(rs ts:List A4):D8 id (rs++ts)=(D8 id rs).bind λk=>FY k ts:=by
 unfold D8;split
 .exact N6 _ _ _
 .rfl
def zc(id:Int)(rs:List A4)(r:A4):D8 id (rs++[r])=(D8 id rs).bind λk=>Bd k r:=by
 rw[aFo];congr 1;funext k;exact RU k r
def aBJ{id:Int}{rs ts:List A4}(h:(D8 id<|rs++ts).isSome=A1):(D8 id rs).isSome=A1:=by
 rw[aFo]at h;cases e:D8 id rs with
 | none=>rw[e]at h;exact h
 | some k=>rfl
def DZ.add{lg r:A4}{fo:Int}{rs ts:List A4}(h:DZ lg fo rs ts)(h1:1<=r.size)(h2:r.size<=60)(h3:lg.size+(Ce r).size<=2400):DZ (lg++Ce r) fo rs (ts++[r]):=by
 refine⟨?_, ?_, ?_,h.fo⟩
 .intro x hx;rw[← C7]at hx;rcases Br.1 hx with hx|hx
  .exact h.ok x hx
  .rw[DB.1 hx];exact⟨h1,h2⟩
 .rw[← Ay,GL,Ar,Ay,Ay];exact h3
 .rw[GL,h.eq,← C7,Kg (rs++ts) [r]];congr 1;rw[IS,KU,CH]
def DZ.force{lg:A4}{fo:Int}{rs ts:List A4}(h:DZ lg fo rs ts):DZ lg (lg.size:Int) (rs++ts) []:=by
 refine⟨by simpa using h.ok,h.sz,by simpa using h.eq, ?_⟩;rw[← Ay,h.eq]
def DZ.pack{lg:A4}{rs:List A4}(h:He rs)(e:L lg=cat rs)(hz:lg.size<=2400):DZ lg (lg.size:Int) rs []:=by
 refine⟨by simpa using h,hz,by simpa using e, ?_⟩;rw[← Ay,e]
def acz{log:A4}:∀(qs:List A4) (f:Nat) (out:List A4) (at_:Nat) (t:List UInt8),He qs->(L log).drop at_=cat qs++t->at_<=log.size->log.size<at_+f->
  ∃f',Eh log f out at_=Eh log f' (out++qs) (at_+(cat qs).length)/\at_+(cat qs).length<=log.size
 | [],f,out,at_,t,_,_,h3,_=>⟨f,by simp[KU],by simpa[KU] using h3⟩
 | r::qs,0,out,at_,t,_,_,h3,h4=>J
 | r::qs,f+1,out,at_,t,h1,h2,h3,h4=>by
  have hr:=h1 r Ap;rw[IS,C7]at h2;have hlen:log.size - at_=(Ce r).size+(cat qs++t).length:=by
   have e:=congrArg JT h2;rwa[Dd,Ay,Ar,Ay]at e
  have hp:=jb r;have DM:Dk (log.extract at_ log.size)=I (r,(Ce r).size):=by
   refine Xm (t:=cat qs++t) ?_ hr.1 hr.2;rw[E5,h2];refine J8 ?_;rw[Ar,Ay];omega
  obtain⟨f',g1,g2⟩:=acz (log:=log) qs f (out++[r]) (at_+(Ce r).size) t (λx hx=>h1 x<|Al _ hx) (by
   rw[← Js,h2,R5<|by rw[Ay]]) J J
  refine⟨f', ?_, ?_⟩
  .conv=>lhs;unfold Eh
   rw[A8 J,DM];simp only;rw[g1];simp only[IS,Ar,Ay,C7,L4,EW,DH]
  .simp only[IS,Ar,Ay];omega
def aoH{log:A4}{qs:List A4}{t:List UInt8}(h:He qs)(e:L log=cat qs++t):∃us,(D6 log).1=qs++us:=by
 obtain⟨f',g1,g2⟩:=acz (log:=log) qs (log.size+1) [] 0 t h (by simpa using e) (Cw _) J;obtain⟨us,k1,_⟩:=oG (log:=log) f' ([]++qs) (0+(cat qs).length) g2;refine⟨us, ?_⟩;show(Eh log (log.size+1) [] 0).1=_;rw[g1,k1];rfl
def DZ.eT{lg:A4}{fo:Int}{rs ts:List A4}(h:DZ lg fo rs ts)(n:Nat)(hn:(cat rs).length<=n):
  ∃us vs,ts=us++vs/\DZ ((lg.extract 0 n).extract 0 (D6<|lg.extract 0 n).2) ((D6<|lg.extract 0 n).2:Int) (rs++us) []:=by
 obtain⟨a1,a2,t,a3⟩:=rh<|lg.extract 0 n;have e0:L (lg.extract 0 n)=(cat<|rs++ts).take n:=by rw[E5,h.eq,JM,J0]
 have e:cat (rs++ts)=cat (D6<|lg.extract 0 n).1++(t++(cat<|rs++ts).drop n):=by
  rw[← C7,← a3,e0,Kh]
 obtain⟨vs,hv⟩:=rE _ _ _ h.ok a1 e;obtain⟨us,hu⟩:=aoH (log:=lg.extract 0 n) (qs:=rs) (t:=(cat ts).take<|n - (cat rs).length) (abq h.ok) (by
  rw[e0,Kg,List.take_append,J8 hn])
 rw[hu]at hv a1 a2 a3;rw[C7]at hv;refine⟨us,vs,aBm hv,by simpa using a1, ?_, ?_,by rw[a2]⟩
 .have:=h.sz;rw[← Ay,E5,E5];simp only[DX,Dd,Ay];omega
 .rw[E5,a3,a2,JM,J0,Pp rfl,CH]
def Li{x:Int}(h0:0<=x)(k:Nat)(hk:1<=k)(h:x<(10 ^ k:Nat)):(BB x).length<=k:=by
 obtain⟨u,rfl⟩:=HO h0;rw[J1];exact LL k u hk<|by exact_mod_cast h
def RY{n:A7}(h:B3 n=A1):(wr n).size<=35:=by
 obtain⟨f0,f1,t0,t1,n0,n1,u0,u1,s0,s1⟩:=HL h;have a:=Li f0 1 J J;have b:=Li (show 0<=n.nu by omega) 2 J J;have c:=Li t0 1 J J;have d:=Li (show 0<=n.un by omega) 3 J J;rw[← Ay,QZ];unfold wrL;simp only[Ar,Bw,Ay];omega
def arB{r:A4}{m:Mark}(h:HD r=I m):r.size<=17:=by
 unfold HD at h;have hj:=hY ((L r).count 32)<|L r;have hn:∀ {p:List UInt8},(Aq<|B p).2=A1->p.length<=5:=fun {p} hp=>by
  rcases Q2 (B p) with h1|⟨n,_,h2,_⟩
  .rw[h1]at hp;cases hp
  .exact h2
 split at h
 .rename_i p q t hp;rw[hp]at hj;split at h
  .rename_i hc;simp only[AI]at hc;have h1:=hn hc.1;have h2:=hn hc.2.1;have h3:=hn hc.2.2.1;have hj2:p++32::(q++32::t)=L r:=hj;rw[← Ay,← hj2];simp only[Ar,Bw];omega
  .cases h
 .cases h
def adW{k o:AJ}{w r:A4}(h:Bx k w r=I o):w.size<=5/\r.size<=35:=by
 unfold Bx at h;split at h
 .rename_i hw;simp only[Ci,decide_eq_true_eq]at hw;split at h
  .rename_i hr;refine⟨by obtain rfl|rfl:=hw<;>decide, ?_⟩;rcases Q2 r with h1|⟨n,_,h2,_⟩
   .rw[h1]at hr;cases hr
   .omega
  .cases h
 split at h
 .rename_i hw;simp only[Ci,decide_eq_true_eq]at hw;cases hn:DI r with
  | none=>rw[hn]at h;cases h
  | some n=>
   obtain⟨h1,h2⟩:=JZ hn;refine⟨by obtain rfl|rfl|rfl|rfl:=hw<;>decide, ?_⟩;rw[← h2];exact RY h1
 split at h
 .rename_i hw;simp only[Ci,decide_eq_true_eq]at hw;cases hn:HD r with
  | none=>rw[hn]at h;cases h
  | some n=>
   refine⟨by obtain rfl|rfl|rfl:=hw<;>decide, ?_⟩;have:=arB hn;omega
 .cases h
def zv{k o:AJ}{r:A4}(hk:Aw k=A1)(h:Bd k r=I o):1<=r.size/\r.size<=60:=by
 have h:=((Mf hk).1 h).1;rcases LY (L r) with hs|⟨w,t,hs,e⟩
 .unfold G8 at h;rw[TT hs]at h;cases h
 .rw[Ko hs e]at h;have:=adW h;have hw:(B w).size=w.length:=rfl;have ht:(B t).size=t.length:=rfl;rw[← Ay,e];simp only[Ar,Bw];omega
def WM{rs:List A4}{c:Nat}(h:∀r∈rs,(Ce r).size<=c):(cat rs).length<=rs.length * c:=by
 induction rs with
 | nil=>simp[KU]
 | cons r rs ih=>
  have:=ih λx hx=>h x<|Al _ hx;have:=h r Ap;rw[IS,Ar,Ay,Bw,Nat.succ_mul];omega
def Ok{r:A4}(h:r.size<=60):(Ce r).size<=r.size+4:=by
 rw[aQ];have:=aBc h;omega
def Sk{k:AJ}(hk:Aw k=A1):He (Cd k)/\(cat<|Cd k).length<=800:=by
 have hf:=Cl hk;have t1:=hf.t1;have n1:=hf.n1;have hl:=hf.hl;have ml:=hf.ml;have il:=hf.il;have sT:∀r∈(if 0<k.ti then [G1 k.ti] else []),1<=r.size/\r.size<=8:=by
  intro r hr;split at hr
  .rw[DB.1 hr,← Ay,n8];have:=Li hf.t0 3 J J;simp only[Ar,Bw,C2];omega
  .cases hr
 have sN:∀r∈(if 1<k.nx then [KM k.nx] else []),1<=r.size/\r.size<=8:=by
  intro r hr;split at hr
  .rw[DB.1 hr,← Ay,xo];have:=Li (show 0<=k.nx by have:=hf.n0;omega) 3 J J;simp only[Ar,Bw,C2];omega
  .cases hr
 have sM:∀r∈k.marks.map (λm=>Dh DD m.mf m.mn m.mu),1<=r.size/\r.size<=13:=by
  intro r hr;obtain⟨m,hm,rfl⟩:=DP.1 hr;obtain⟨i,hi,rfl⟩:=Dt hm;have:=PE<|Uo hf.m hi;rw[Ge<|Ax hi]at this;have a:=Li this.1 1 J J;have b:=Li (show 0<=k.marks[i].mn by omega) 2 J J;have c:=Li (show 0<=k.marks[i].mu by omega) 3 J J;rw[← Ay,ji];simp only[Ar,Bw,L_B,C2];omega
 have sH:∀r∈k.held.map MA,1<=r.size/\r.size<=40:=by
  intro r hr;obtain⟨m,hm,rfl⟩:=DP.1 hr;obtain⟨i,hi,rfl⟩:=Dt hm;have:=Gi hf.h hi;rw[Dq<|Ax hi]at this;have:=RY this;rw[← Ay,yC];simp only[Ar,Bw,Ay,C2];omega
 have sI:∀r∈k.inbox.map Me,1<=r.size/\r.size<=41:=by
  intro r hr;obtain⟨m,hm,rfl⟩:=DP.1 hr;obtain⟨i,hi,rfl⟩:=Dt hm;have:=Gi hf.i hi;rw[Dq<|Ax hi]at this;have:=RY this;rw[← Ay,aaV];simp only[Ar,Bw,Ay,C2];omega
 refine⟨?_, ?_⟩
 .intro r hr;unfold Cd at hr;simp only[Br]at hr;obtain(((hr|hr)|hr)|hr)|hr:=hr
  .have:=sT r hr;omega
  .have:=sN r hr;omega
  .have:=sM r hr;omega
  .have:=sH r hr;omega
  .have:=sI r hr;omega
 .unfold Cd;simp only[Kg,Ar];have a:=WM (c:=12) λr hr=>by have:=sT r hr;have:=Ok (r:=r) J;omega
  have b:=WM (c:=12) λr hr=>by have:=sN r hr;have:=Ok (r:=r) J;omega
  have c:=WM (c:=17) λr hr=>by have:=sM r hr;have:=Ok (r:=r) J;omega
  have d:=WM (c:=44) λr hr=>by have:=sH r hr;have:=Ok (r:=r) J;omega
  have e:=WM (c:=45) λr hr=>by have:=sI r hr;have:=Ok (r:=r) J;omega
  rw[EM]at c d e;have a2:(if 0<k.ti then [G1 k.ti] else []).length<=1:=by split<;>simp
  have b2:(if 1<k.nx then [KM k.nx] else []).length<=1:=by split<;>simp
  omega
def D9(rs:List A4):A4:=B<|cat rs
def qI{k:AJ}(hk:Aw k=A1):DZ (D9<|Cd k) ((D9<|Cd k).size:Int) (Cd k) []:=by
 have:=Sk hk;refine DZ.pack this.1 (by unfold D9;rw[L_B]) ?_;show(cat<|Cd k).length<=2400;omega
def Et(k:AJ)(lg:A4)(fo:Int)(r:A4):A4×Int:=
 if lg.size+(Ce r).size<=2400 then(lg++Ce r,fo) else(D9 (Cd k)++Ce r,((D9<|Cd k).size:Int))
def aCl{k o:AJ}{id:Int}{lg r:A4}{fo:Int}{rs ts:List A4}(h:DZ lg fo rs ts)(hs:D8 id (rs++ts)=I k)(hr:Bd k r=I o):
  ∃rs' ts',DZ (Et k lg fo r).1 (Et k lg fo r).2 rs' ts'/\D8 id (rs'++ts')=I o:=by
 have hk:=Uh hs;have hz:=zv hk hr;unfold Et;split
 .rename_i hc;refine⟨rs,ts++[r],h.add hz.1 hz.2 hc, ?_⟩;rw[← C7,zc,hs];exact hr
 .have hp:=qI hk;have hsz:=Sk hk;have hl:=Ok hz.2;refine⟨Cd k,[]++[r],hp.add hz.1 hz.2 ?_, ?_⟩
  .show(cat<|Cd k).length+_<=2400;omega
  .rw[EW,zc];have:=yy hk<|ac7 hs;rw[iB hs]at this;rw[this];exact hr
structure Cj (k:AA) (st:AJ):Prop where
 ok:Av k=A1
 st:D4 k.id k.log=I st
def Co{k:AA}(h:Av k=A1):Cj k (stT k):=⟨h,(Df h).st⟩
def Cj.kok{k:AA}{st:AJ}(h:Cj k st):Aw st=A1:=Uh h.st
def Cj.id{k:AA}{st:AJ}(h:Cj k st):st.id=k.id:=iB h.st
def Cj.stT{k:AA}{st:AJ}(h:Cj k st):stT k=st:=by
 unfold Go.VS.stT;rw[h.st];rfl
def Ub{k:AA}{rs ts:List A4}(id:isN k.id=A1)(l:DZ k.log k.fo rs ts)(hl:k.AE.length<=3)(up:k.up=A1\/k.AE.length=0)(st:(D8 k.id<|rs++ts).isSome=A1)(hv:∀i,i<k.AE.length->Fy k.AE i=A1):Av k=A1:=by
 unfold Av;simp only[AI,Ci,decide_eq_true_eq,CO];refine⟨id,l.sg,J,up,⟨?_, ?_⟩,hv⟩
 .rw[l.state];exact st
 .rw[l.axP];exact aBJ st
def Cj.lg{k:AA}{st:AJ}(h:Cj k st):∃rs ts,DZ k.log k.fo rs ts/\D8 k.id (rs++ts)=I st:=by
 obtain⟨rs,ts,hl⟩:=aCC (Df h.ok).sh;exact⟨rs,ts,hl,by rw[← hl.state];exact h.st⟩
def Cj.oM{k:AA}{st o:AJ}{lg:A4}{fo:Int}{rs ts:List A4}(h:Cj k st)(l:DZ lg fo rs ts)(e:D8 k.id (rs++ts)=I o):Cj ⟨k.id,k.up,lg,fo,k.AE⟩ o:=by
 have hf:=Df h.ok;refine⟨Ub (k:=⟨k.id,k.up,lg,fo,k.AE⟩) hf.id l hf.hl hf.up ?_ hf.hv, ?_⟩
 .simp only[e];rfl
 .simp only[l.state];exact e
def wrM(k:AA)(r:A4):AA:=⟨k.id,k.up,(Et (stT k) k.log k.fo r).1,(Et (stT k) k.log k.fo r).2,k.AE⟩
def X4{k:AA}{st o:AJ}{r:A4}(h:Cj k st)(hr:Bd st r=I o):Cj (wrM k r) o:=by
 obtain⟨rs,ts,hl,hs⟩:=h.lg;obtain⟨rs',ts',h1,h2⟩:=aCl hl hs hr;have:=h.oM h1 h2;unfold wrM;rw[h.stT];exact this
def foM(k:AA):AA:=⟨k.id,k.up,k.log,(k.log.size:Int),k.AE⟩
def Rs{k:AA}{st:AJ}(h:Cj k st):Cj (foM k) st:=by
 obtain⟨rs,ts,hl,hs⟩:=h.lg;exact h.oM hl.force<|by simpa using hs
def pkM(k:AA):AA:=⟨k.id,k.up,D9<|Cd<|stT k,((D9<|Cd<|stT k).size:Int),k.AE⟩
def aC7{k:AA}{st:AJ}(h:Cj k st):Cj (pkM k) st:=by
 have:=h.oM (qI h.kok) (o:=st) (by
  have:=yy h.kok<|ac7 h.st;rw[h.id]at this;simpa using this)
 unfold pkM;rw[h.stT];exact this
def faM(k:AA)(keep:Int):AA:=
 let n:=(k.fo+max 0 (min keep<|(k.log.size:Int) - k.fo)).toNat
 ⟨k.id,A3,(k.log.extract 0 n).extract 0 (D6<|k.log.extract 0 n).2,((D6<|k.log.extract 0 n).2:Int),[]⟩
def yL{k:AA}(h:Av k=A1)(keep:Int):Av (faM k keep)=A1:=by
 have hf:=Df h;obtain⟨rs,ts,hl,hs⟩:=(Co h).lg;have hfo:=hl.fo;obtain⟨us,vs,e,l⟩:=hl.eT (k.fo+max 0 (min keep<|(k.log.size:Int) - k.fo)).toNat J;refine Ub (k:=faM k keep) hf.id l (by show 0<=3;omega) (.inr rfl) ?_ (λi hi=>by cases hi);show(D8 k.id<|(rs++us)++[]).isSome=A1;rw[CH];refine aBJ (ts:=vs) ?_;rw[C7,← e,hs];rfl
def xu{k:AA}{st:AJ}(h:Cj k st)(hf:k.fo=(k.log.size:Int))(keep:Int):Cj (faM k keep) st/\(faM k keep).log=k.log/\(faM k keep).fo=k.fo:=by
 obtain⟨rs,ts,hl,hs⟩:=h.lg;have e:(k.fo+max 0 (min keep<|(k.log.size:Int) - k.fo)).toNat=k.log.size:=J
 have e2:k.log.extract 0 k.log.size=k.log:=by
  apply Fm;rw[E5,JM,J0];exact J8 (by rw[Ay];omega)
 have hk:faM k keep=⟨k.id,A3,k.log,(k.log.size:Int),[]⟩:=by
  unfold faM;simp only[e,e2,hl.read]
 have ok:=yL h.ok keep;rw[hk]at ok ⊢;exact⟨⟨ok,h.st⟩,rfl,hf.symm⟩
def riM(k:AA):AA:=⟨k.id,A1,k.log,k.fo,k.AE⟩
def uZ{k:AA}{st:AJ}(h:Cj k st):Cj (riM k) st:=by
 have hf:=Df h.ok;obtain⟨rs,ts,hl,hs⟩:=h.lg;refine⟨Ub (k:=riM k) hf.id hl hf.hl (.inl rfl) ?_ hf.hv,h.st⟩;show(D8 k.id<|rs++ts).isSome=A1;rw[hs];rfl
def C0(a b:List UInt8):List UInt8:=List.zipWith (· ^^^ ·) a b
def Rb{a b:List UInt8}(h:a.length=b.length):(C0 a b).length=a.length:=by
 unfold C0;rw[ir];omega
def fw(a b:List UInt8):C0 a b=C0 b a:=by
 unfold C0
 induction a generalizing b with
 | nil=>cases b<;>rfl
 | cons x a ih=>
  cases b with
  | nil=>rfl
  | cons y b=>rw[OT,OT,ih,UInt8.xor_comm]
def Tp(a b c:List UInt8):C0 (C0 a b) c=C0 a (C0 b c):=by
 unfold C0
 induction a generalizing b c with
 | nil=>cases b<;>cases c<;>rfl
 | cons x a ih=>
  cases b with
  | nil=>cases c<;>rfl
  | cons y b=>
   cases c with
   | nil=>rfl
   | cons z c=>simp only[OT,ih,UInt8.xor_assoc]
def aoI{a b:List UInt8}(h:a.length=b.length):C0 (C0 a b) b=a:=by
 unfold C0
 induction a generalizing b with
 | nil=>rfl
 | cons x a ih=>
  cases b with
  | nil=>cases h
  | cons y b=>rw[OT,OT,ih<|by simpa using h,UInt8.xor_assoc,UInt8.xor_self,UInt8.xor_zero]
def nul(n:Nat):List UInt8:=BW n 0
def Yh{a:List UInt8}{n:Nat}(h:a.length=n):C0 (nul n) a=a:=by
 unfold C0 nul
 induction a generalizing n with
 | nil=>subst h;rfl
 | cons x a ih=>
  subst h;rw[Bw,ac2,OT,ih rfl,UInt8.zero_xor]
def Dn(n:Nat)(bl:Nat->List UInt8):List Nat->List UInt8
 | []=>nul n
 | k::ks=>C0 (bl k) (Dn n bl ks)
def Rw{n:Nat}{bl:Nat->List UInt8}:∀ {ks:List Nat},(∀k∈ks,(bl k).length=n)->(Dn n bl ks).length=n
 | [],_=>by simp[Dn,nul]
 | k::ks,h=>by
  have a:=h k Ap;have b:=Rw λx hx=>h x<|Al k hx;rw[Dn,Rb J,a]
def lR{n:Nat}{bl:Nat->List UInt8}:∀ {ks:List Nat} {y:List UInt8},y.length=n->ks.foldl (λx k=>C0 x<|bl k) y=C0 y (Dn n bl ks)
 | [],y,h=>by
  rw[Dn,fw,Yh h];rfl
 | k::ks,y,h=>by
  rw[Dx,Dn,← Tp];by_cases hk:(C0 y<|bl k).length=n
  .exact lR hk
  ·
   have key:∀(ks:List Nat) (y z:List UInt8),y.length<=n->ks.foldl (λx k=>C0 x<|bl k) y=C0 y (Dn n bl ks):=by
    intro ks
    induction ks with
    | nil=>
     intro y z hy;rw[MX,Dn,fw];unfold C0 nul;clear hk h z
     induction y generalizing n with
     | nil=>simp
     | cons x y ih=>
      cases n with
      | zero=>simp at hy
      | succ n=>rw[ac2,OT,UInt8.zero_xor,← ih<|by simpa using hy]
    | cons k ks ih=>
     intro y z hy;rw[Dx,Dn,← Tp];refine ih _ z ?_;unfold C0;rw[ir];omega
   refine key ks _ [] ?_;unfold C0;rw[ir];omega
def atO{n:Nat}{bl:Nat->List UInt8}{p:Nat->Bool}{ks:List Nat}{u:Nat}(hb:∀k∈ks,(bl k).length=n)(hf:(ks.filter λk=> !p k)=[u]):
  ks.foldl (λx k=>if p k then C0 x (bl k) else x) (Dn n bl ks)=bl u:=by
 have h1:∀(ks:List Nat) (y:List UInt8),ks.foldl (λx k=>if p k then C0 x (bl k) else x) y=(ks.filter p).foldl (λx k=>C0 x<|bl k) y:=by
  intro ks
  induction ks with
  | nil=>intro y;rfl
  | cons k ks ih=>
   intro y;rw[Dx,J6];split<;>simp[ih]
 have h2:∀(ks:List Nat),(∀k∈ks,(bl k).length=n)->Dn n bl ks=C0 (Dn n bl<|ks.filter λk=> !p k) (Dn n bl<|ks.filter p):=by
  intro ks
  induction ks with
  | nil=>intro _;simp[Dn,Yh (n:=n) (a:=nul n) (by simp[nul])]
  | cons k ks ih=>
   intro hb;have:=ih λx hx=>hb x<|Al _ hx;rw[Dn,this,J6,J6];cases p k
   .simp only[AG,A5,A6,Dn,Tp]
   .simp only[AD,A5,A6,Dn];rw[← Tp,fw<|bl k,Tp]
 have hlen:(Dn n bl<|ks.filter p).length=n:=Rw λk hk=>hb k (Gy.1 hk).1;have hu:(bl u).length=n:=hb u (Gy.1 (hf▸LN u:u∈ks.filter λk=> !p k)).1;rw[h1,lR<|Rw hb,h2 ks hb,hf];rw[aoI (by rw[hlen];exact Rw λk hk=>by rw[DB.1 hk];exact hu)];rw[Dn,Dn,fw,Yh hu]
def rnd(x:Int):Int:=if inB x 0 65535 then BC (25173 * x+13849) 65536 else 0
def TD(x:Int):0<=rnd x/\rnd x<=65535:=by
 unfold rnd;split
 .rename_i h;have:=Af.1 h;rw[LH J];omega
 .omega
def sU(x:Int):OR (x,())=I ((rnd x,()),()):=by
 unfold OR rnd;simp only[EF,A9];rcases tf (inB x 0 65535) with e|e
 .have:=Af.1 e;simp only[e,AD,A6,A5];rw[Aa (n:=25173 * x) J J,Aa J J]
 .simp only[e,AG,A6,A5]
def ov(x:Int):Oq (x,())=I ((rnd x,()),()):=by
 unfold Oq rnd;simp only[Hx,A9];rcases tf (inB x 0 65535) with e|e
 .have:=Af.1 e;simp only[e,AD,A6,A5];rw[Aa (n:=x * 25173) J J,Aa J J,Ql]
 .simp only[e,AG,A6,A5]
def De(b n:Int):Bool:=inB b 1 6&&inB n 0 999
def aDr(b n:Int):Vj (b,n,())=I ((De b n,()),()):=by
 unfold Vj De;simp only[EF,A9,CG,C8];cases inB b 1 6<;>rfl
def bz(b n:Int):Mg (b,n,())=I ((De b n,()),()):=by
 unfold Mg De;simp only[Hx,A9,CG,C8];cases inB b 1 6<;>rfl
def wgt(b d:Int):Int:=if d=1 then B0 60 b+10 else B0 60 (d * (d - 1))
def axo{b d:Int}(hb:inB b 1 6=A1)(hd:inB d 1 6=A1):cW (b,d,())=I ((wgt b d,()),()):=by
 have h1:=Af.1 hb;have h2:=Af.1 hd;have h3:b=1\/b=2\/b=3\/b=4\/b=5\/b=6:=J
 have h4:d=1\/d=2\/d=3\/d=4\/d=5\/d=6:=J
 obtain rfl|rfl|rfl|rfl|rfl|rfl:=h3<;>obtain rfl|rfl|rfl|rfl|rfl|rfl:=h4<;>rfl
def al1(b n:Int)(hb:inB b 1 6=A1):ee (b,n,0,1,())=I (.inr (b,n,70,())):=by
 have h1:=Af.1 hb;have h3:b=1\/b=2\/b=3\/b=4\/b=5\/b=6:=J
 unfold ee;obtain rfl|rfl|rfl|rfl|rfl|rfl:=h3
 .exact B4 rfl (BR rfl)
 .exact B4 rfl (B4 rfl (BR rfl))
 .exact B4 rfl (B4 rfl (B4 rfl (BR rfl)))
 .exact B4 rfl (B4 rfl (B4 rfl (B4 rfl (BR rfl))))
 .exact B4 rfl (B4 rfl (B4 rfl (B4 rfl (B4 rfl (BR rfl)))))
 .exact B4 rfl (B4 rfl (B4 rfl (B4 rfl (B4 rfl (B4 rfl (BR rfl))))))
def wts(b:Int):List Int:=if b=1 then [70] else if b=2 then [40,30] else if b=3 then [30,30,10] else if b=4 then [25,30,10,5] else if b=5 then [22,30,10,5,3] else [20,30,10,5,3,2]
def aj3(b n:Int)(hb:inB b 1 6=A1):Zn (b,n,[0,w64<|w64 (B0 60 b)+10],rd (dfl .int) ([0,w64<|w64 (B0 60 b)+10]:List Int) 1,2,())=I (.inr (b,n,0::wts b,70,())):=by
 have h1:=Af.1 hb;have h3:b=1\/b=2\/b=3\/b=4\/b=5\/b=6:=J
 unfold Zn;obtain rfl|rfl|rfl|rfl|rfl|rfl:=h3
 .exact BR rfl
 .exact B4 rfl (BR rfl)
 .exact B4 rfl (B4 rfl (BR rfl))
 .exact B4 rfl (B4 rfl (B4 rfl (BR rfl)))
 .exact B4 rfl (B4 rfl (B4 rfl (B4 rfl (BR rfl))))
 .exact B4 rfl (B4 rfl (B4 rfl (B4 rfl (B4 rfl (BR rfl)))))
def F9{σ ρ:Type}{b:σ->Option (σ ⊕ ρ)}{x x':σ}{y z:ρ}{c:Bool}(h:b x=if c then I (.inr y) else I (.inl x'))(hz:AW b x'=I z):AW b x=I (if c then y else z):=by
 cases c
 .exact B4 h hz
 .exact BR h
def LR(b r:Int):List Int->Int->Int->(Int×A2) ⊕ (Int×A2)
 | [],_,_=> .inr (b,())
 | w::ws,acc,d=>if A0 (r<acc+w) then .inl (d,()) else LR b r ws (acc+w) (d+1)
def af4(b r:Int)(hb:inB b 1 6=A1):Yv (b,0::wts b,r,0,1,())=I (LR b r (wts b) 0 1):=by
 have h1:=Af.1 hb;have h3:b=1\/b=2\/b=3\/b=4\/b=5\/b=6:=J
 unfold Yv;obtain rfl|rfl|rfl|rfl|rfl|rfl:=h3
 .exact F9 rfl (BR rfl)
 .exact F9 rfl (F9 rfl (BR rfl))
 .exact F9 rfl (F9 rfl (F9 rfl (BR rfl)))
 .exact F9 rfl (F9 rfl (F9 rfl (F9 rfl (BR rfl))))
 .exact F9 rfl (F9 rfl (F9 rfl (F9 rfl (F9 rfl (BR rfl)))))
 .exact F9 rfl (F9 rfl (F9 rfl (F9 rfl (F9 rfl (F9 rfl (BR rfl))))))
def xH{b d:Int}(hb:inB b 1 6=A1)(hd:inB d 1 6=A1):0<=wgt b d/\wgt b d<=70:=by
 have h1:=Af.1 hb;have h2:=Af.1 hd;have h3:b=1\/b=2\/b=3\/b=4\/b=5\/b=6:=J
 have h4:d=1\/d=2\/d=3\/d=4\/d=5\/d=6:=J
 obtain rfl|rfl|rfl|rfl|rfl|rfl:=h3<;>obtain rfl|rfl|rfl|rfl|rfl|rfl:=h4<;>decide
def atp{b x d:Int}(hb:inB b 1 6=A1)(hd:inB d 1 6=A1)(hlt:d<b)(h0: -1000<=x)(h1:x<=1000):
  TF (b,x,d,())=if A0 (x - wgt b d<0) then I (.inr<|.inl (d,())) else I (.inl (b,x - wgt b d,d+1,())):=by
 have hw:=xH hb hd;have h2:=Af.1 hd;unfold TF;simp only[AZ hlt,A5,axo hb hd,A9];rw[Aa (n:=x - wgt b d) J J,Aa (n:=d+1) J J]
def MS:(Int×A2) ⊕ (Int×A2)->Int
 | .inl y=>y.1
 | .inr y=>y.1
def cD(b x:Int):Nat->Int->(Int×A2) ⊕ (Int×A2)
 | 0,_=> .inr (b,())
 | n+1,d=>if A0 (x - wgt b d<0) then .inl (d,()) else cD b (x - wgt b d) n (d+1)
def aBi{b:Int}(hb:inB b 1 6=A1):∀(n:Nat) (x d:Int),1<=d->d+n=b-> -70 * d<=x->x<=100->aH (b,x,d,())=I (cD b x n d)
 | 0,x,d,_,h,_,_=>by
  unfold aH;refine BR ?_;unfold TF;simp only[show A0 (d<b)=A3 from Bf J,A6];rfl
 | n+1,x,d,h1,h,h2,h3=>by
  have hb':=Af.1 hb;have hd:inB d 1 6=A1:=Af.2 ⟨h1,J⟩;have hw:=xH hb hd;exact F9 (atp hb hd J J J)<|aBi hb n (x - wgt b d) (d+1) J J J J
def ak8:∀b:Fin 6,∀r:Fin 70,MS (cD ((b.1+1:Nat):Int) (r.1:Int) b.1 1)=MS (LR ((b.1+1:Nat):Int) (r.1:Int) (wts ((b.1+1:Nat):Int)) 0 1):=by decide+kernel
def ap1{b r:Int}(hb:inB b 1 6=A1)(h0:0<=r)(h1:r<70):MS (cD b r (b - 1).toNat 1)=MS (LR b r (wts b) 0 1):=by
 have h2:=Af.1 hb;have:=ak8 ⟨(b - 1).toNat,J⟩ ⟨r.toNat,J⟩;rw[show(((b - 1).toNat+1:Nat):Int)=b by omega,show((r.toNat:Nat):Int)=r by omega]at this;exact this
def Fz(b n:Int):Int:=if De b n then(if A0 (n<b) then 1 else MS (LR b (BC (B0 (rnd<|rnd<|31 * n+b) 16) 70) (wts b) 0 1)) else 0
def aBY(s:(Int×A2) ⊕ (Int×A2)):AO (I s) (λy=>I (y,())) (λy=>I (y,()))=I ((MS s,()),()):=by
 cases s<;>rfl
def az9(b n:Int):Zl (b,n,())=I ((Fz b n,()),()):=by
 unfold Zl Fz;rw[aDr];simp only[A9];rcases tf (De b n) with e|e
 .have e2:=e;unfold De at e2;rw[AI]at e2;have h1:=Af.1 e2.1;have h2:=Af.1 e2.2;simp only[e,AD,A6,A5];rcases tf (A0<|n<b) with e3|e3
  .simp only[e3,A5]
  .have hr:=TD<|rnd<|31 * n+b;have hz:B0 (rnd<|rnd<|31 * n+b) 16=rnd (rnd<|31 * n+b) / 16:=GF hr.1;simp only[e3,A6,show A0 (b=0)=A3 from Bf J,AG,A5,aj3 b n e2.1];rw[A8<|by rfl];simp only[AO,sU,A9];rw[Aa (n:=31 * n) J J,Aa (n:=31 * n+b) J J,Aa (n:=B0 _ 16) J J];rw[af4 b _ e2.1];exact aBY _
 .simp only[e,AG,A5,A6]
def atm(b n:Int):fp (b,n,())=I ((Fz b n,()),()):=by
 unfold fp Fz;rw[bz];simp only[A9];rcases tf (De b n) with e|e
 .have e2:=e;unfold De at e2;rw[AI]at e2;have h1:=Af.1 e2.1;have h2:=Af.1 e2.2;simp only[e,AD,A6,A5];rcases tf (A0<|n<b) with e3|e3
  .simp only[e3,A5]
  .have hr:=TD<|rnd<|31 * n+b;have hz:B0 (rnd<|rnd<|31 * n+b) 16=rnd (rnd<|31 * n+b) / 16:=GF hr.1;have hm:BC (B0 (rnd<|rnd<|31 * n+b) 16) 70=(rnd (rnd<|31 * n+b) / 16) % 70:=by rw[hz];exact LH J
   simp only[e3,A6,al1 b n e2.1];simp only[AO,ov,A9];rw[Aa (n:=n * 31) J J,Aa (n:=n * 31+b) J J,Ql n 31,Aa (n:=B0 _ 16) J J];rw[aBi e2.1 (b - 1).toNat _ 1 J J J J,A8<|by rfl];rw[← ap1 e2.1 J J];exact aBY _
 .simp only[e,AG,A5,A6]
def api{l:List Int}(hl:l.length<=1048576):gi (l,())=I ((l,()),()):=LU hl
def arn{l:List Int}(hl:l.length<=1048576):ZA (l,())=I ((l,()),()):=LU hl
def Ef(b:Nat)(f:Nat->Bool):Nat->Nat->Nat
 | 0,a=>a
 | k+1,a=>if f a then Ef b f k ((a+1) % b) else a
def Rep(u:List Bool)(f:Nat->Bool):Prop:=∀i,u.getD i A3=f i
def rdB(u:List Bool)(i:Nat): @rd Bool (dfl .bool) u (i:Int)=u.getD i A3:=rfl
def Ta{b:Nat}{f:Nat->Bool}:∀(k a:Nat),a<b->Ef b f k a<b
 | 0,_,h=>h
 | k+1,a,h=>by
  unfold Ef;split
  .exact Ta k _ (PB _ J)
  .exact h
def ja{a b k:Nat}:((a+1) % b+k) % b=(a+(k+1)) % b:=by
 rw[Nat.mod_add_mod,DH,N5 1 k]
def ni{b:Nat}{f:Nat->Bool}:∀(k a m:Nat),a<b->f ((a+k) % b)=A3->k<=m->Ef b f m a=Ef b f k a
 | 0,a,m,h,e,_=>by
  rw[Hn,P7 h]at e;cases m with
  | zero=>rfl
  | succ m=>
   simp only[Ef,e,A6]
 | k+1,a,m,h,e,hm=>by
  cases m with
  | zero=>omega
  | succ m=>
   rw[Ef,Ef];rw[ni k ((a+1) % b) m (PB _ J) (by rw[ja];exact e) J]
def uS{a b j:Nat}(ha:a<b)(hj:j<b):∃k,k<=b/\(a+k) % b=j:=by
 by_cases h:a<=j
 .exact⟨j - a,J,by rw[show a+(j - a)=j by omega];exact P7 hj⟩
 .exact⟨j+b - a,J,by rw[show a+(j+b - a)=j+b by omega,Nat.add_mod_right];exact P7 hj⟩
def cnt(f:Nat->Bool):Nat->Nat
 | 0=>0
 | k+1=>cnt f k+(if f k then 1 else 0)
def iD{f:Nat->Bool}:∀(k:Nat),cnt f k<k->∃j,j<k/\f j=A3
 | 0,h=>J
 | k+1,h=>by
  rw[cnt]at h;rcases tf (f k) with e|e
  .rw[e,A8 rfl]at h;obtain⟨j,h1,h2⟩:=iD (f:=f) k J;exact⟨j,J,h2⟩
  .exact⟨k,J,e⟩
def IH(f:Nat->Bool)(a:Nat):Nat->Bool:=λj=>if j=a then A1 else f j
def jF{f:Nat->Bool}{a:Nat}:∀(k:Nat),(k<=a->cnt (IH f a) k=cnt f k)/\cnt (IH f a) k<=cnt f k+1
 | 0=>⟨λ_=>rfl,by rw[cnt,cnt];omega⟩
 | k+1=>by
  obtain⟨h1,h2⟩:=jF (f:=f) (a:=a) k;rw[cnt,cnt];constructor
  .intro h;rw[h1 J,show IH f a k=f k from AB J]
  .by_cases h:k=a
   .rw[h1 J];unfold IH;rw[A8 h];cases f k<;>simp
   .unfold IH;rw[AB h];unfold IH at h2;omega
def mD:∀(k:Nat),cnt (λ_=>A3) k=0
 | 0=>rfl
 | k+1=>by rw[cnt,mD k];rfl
def Rep.set{u:List Bool}{f:Nat->Bool}{a:Nat}(h:Rep u f)(ha:a<u.length):Rep (u.set a A1) (IH f a):=by
 intro i;unfold IH;rw[BD,Tt];by_cases e:i=a
 .subst e;simp[ha]
 .rw[AB<|LQ e,AB e,← h i,BD]
def Rep.new(n:Nat):Rep (BW n A3) (λ_=>A3):=by
 intro i;rw[BD,UP];split<;>rfl
def JJ(b:Nat):Nat->(Nat->Bool)->Int->Nat->Bool
 | 0,f,_=>f
 | n+1,f,x=>JJ b n (IH f<|Ef b f b (BC (B0 (rnd x) 16) (b:Int)).toNat) (rnd x)
def acF{b:Nat}(hb:0<b):∀(n:Nat) (f:Nat->Bool) (x:Int),(∀i,b<=i->f i=A3)->∀i,b<=i->JJ b n f x i=A3
 | 0,_,_,h=>h
 | n+1,f,x,h=>by
  refine acF hb n _ _ ?_;intro i hi;unfold IH;rw[AB,h i hi];have:Ef b f b (BC (B0 (rnd x) 16) (b:Int)).toNat<b:=by
   refine Ta _ _ ?_;have:=TD x;rw[GF this.1,LH J];have h1:=Int.emod_lt_of_pos (rnd x / 16) (show(0:Int)<b by omega);have h2:=Int.emod_nonneg (rnd x / 16) (show(b:Int)≠0 by omega);omega
  omega
def HJ(f:Nat->Bool)(m:Nat):List Nat:=(BN m).filter f
def kV(f:Nat->Bool)(m:Nat):HJ f (m+1)=HJ f m++if f m then [m] else []:=by
 unfold HJ;rw[L5,bm];congr 1;simp only[J6,Ti]
def cT(f:Nat->Bool)(m:Nat):(HJ f m).length<=m:=by
 unfold HJ;exact CB (IG _ _)<|by simp
def ajg{f:Nat->Bool}{m k:Nat}(h:k∈HJ f m):k<m:=by
 unfold HJ at h;exact DV.1 (Gy.1 h).1
def aEZ{f:Nat->Bool}{b:Nat}(h:∀i,b<=i->f i=A3):∀(m:Nat),b<=m->HJ f m=HJ f b
 | 0,hm=>by rw[show b=0 by omega]
 | m+1,hm=>by
  by_cases e:b=m+1
  .rw[e]
  .rw[kV,h m J,A6,CH,aEZ h m J]
abbrev BZ(l:List Nat):List Int:=l.map λi:Nat=>(i:Int)
def aA4{b r:Int}(hb:0<=b):∀(ws:List Int) (acc d:Int),0<=d->d+ws.length<=b+1->0<=MS (LR b r ws acc d)/\MS (LR b r ws acc d)<=b
 | [],_,_,_,_=>by
  show 0<=b/\b<=b;omega
 | w::ws,acc,d,h0,h1=>by
  rw[Bw]at h1;unfold LR;split
  .show 0<=d/\d<=b;omega
  .exact aA4 hb ws _ _ J J
def aCT{b n:Int}(h:De b n=A1):0<=Fz b n/\Fz b n<=b:=by
 unfold Fz;rw[A8 h];unfold De at h;rw[AI]at h;have h1:=Af.1 h.1;split
 .omega
 .refine aA4 J _ _ _ J ?_;have h3:b=1\/b=2\/b=3\/b=4\/b=5\/b=6:=J
  obtain rfl|rfl|rfl|rfl|rfl|rfl:=h3<;>exact Jk _
def BV(b n:Int):List Nat:=
 if De b n then(if A0 (n<b) then [n.toNat] else HJ (JJ b.toNat (Fz b n).toNat (λ_=>A3)<|rnd<|7 * n+1) b.toNat) else []
def KA{b n:Int}{k:Nat}(h:k∈BV b n):(k:Int)<b:=by
 unfold BV at h;split at h
 .rename_i h0;unfold De at h0;rw[AI]at h0;have h1:=Af.1 h0.1;have h2:=Af.1 h0.2;split at h
  .rename_i h3;have:=BT h3;have:=DB.1 h;omega
  .have:=ajg h;omega
 .cases h
def dR(b n:Int):(BV b n).length<=6:=by
 unfold BV;split
 .rename_i h0;unfold De at h0;rw[AI]at h0;have h1:=Af.1 h0.1;split
  .simp
  .exact CB (cT _ _) J
 .simp
section
variable {bn:Nat} (hb:0<bn) (h6:bn<=6) {u:List Bool} {f:Nat->Bool} (hu:Rep u f) (hl:bn<=u.length)
include hb h6 hu hl
def aak(x n:Int):∀(k a:Nat),a<bn->f ((a+k) % bn)=A3->
  Xj ((bn:Int),u,x,n,(a:Int),())=I (.inr ((bn:Int),u,x,n,((Ef bn f k a:Nat):Int),()))
 | 0,a,ha,e=>by
  rw[Hn,P7 ha]at e;refine BR ?_;unfold Su;simp only[rdB,hu a,e,AR<|show a<u.length by omega,A5,A6];rfl
 | k+1,a,ha,e=>by
  unfold Xj at *;unfold Ef;rcases tf (f a) with e1|e1
  .rw[e1,A8 rfl];refine B4 ?_ (aak x n k ((a+1) % bn) (PB _ hb) (by rw[ja];exact e));unfold Su;simp only[rdB,hu a,e1,AR<|show a<u.length by omega,A5,show A0 ((bn:Int)=0)=A3 from Bf J,AG];rw[Aa J J];rfl
  .rw[e1,A6];refine BR ?_;unfold Su;simp only[rdB,hu a,e1,AR<|show a<u.length by omega,A5,A6]
def wQ(o:List Int)(x n:Int):∀(k a:Nat),a<bn->f ((a+k) % bn)=A3->
  ZU ((bn:Int),o,u,x,n,(a:Int),())=I (.inr ((bn:Int),o,u,x,n,((Ef bn f k a:Nat):Int),()))
 | 0,a,ha,e=>by
  rw[Hn,P7 ha]at e;refine BR ?_;unfold U9;simp only[rdB,hu a,e,AR<|show a<u.length by omega,A5,A6];rfl
 | k+1,a,ha,e=>by
  unfold ZU at *;unfold Ef;rcases tf (f a) with e1|e1
  .rw[e1,A8 rfl];refine B4 ?_ (wQ o x n k ((a+1) % bn) (PB _ hb) (by rw[ja];exact e));unfold U9;simp only[rdB,hu a,e1,AR<|show a<u.length by omega,A5,show A0 ((bn:Int)=0)=A3 from Bf J,AG];rw[Aa J J];rfl
  .rw[e1,A6];refine BR ?_;unfold U9;simp only[rdB,hu a,e1,AR<|show a<u.length by omega,A5,A6]
end
section
variable {bn:Nat} (hb:0<bn) (h6:bn<=6)
include hb h6
def abA(x:Int):∃a:Nat,BC (w64<|B0 (rnd x) 16) (bn:Int)=(a:Int)/\(BC (B0 (rnd x) 16) (bn:Int)).toNat=a/\a<bn:=by
 have h:=TD x;have hd:B0 (rnd x) 16=rnd x / 16:=GF h.1;rw[hd,Aa J J,LH J];have h1:=Int.emod_lt_of_pos (rnd x / 16) (show(0:Int)<bn by omega);have h2:=Int.emod_nonneg (rnd x / 16) (show(bn:Int)≠0 by omega);exact⟨(rnd x / 16 % (bn:Int)).toNat,J,rfl,J⟩
def ad3:∀(n:Nat) (u:List Bool) (f:Nat->Bool) (x:Int),Rep u f->bn<=u.length->cnt f bn+n<=bn->
  ∃u',lf ((bn:Int),u,x,(n:Int),())=I (.inr (u',()))/\Rep u' (JJ bn n f x)/\u'.length=u.length
 | 0,u,f,x,hu,_,_=>by
  refine⟨u,BR ?_,hu,rfl⟩;rfl
 | n+1,u,f,x,hu,hl,hc=>by
  obtain⟨a,ea,eb,ha⟩:=abA hb h6 x;obtain⟨j,hj,ej⟩:=iD (f:=f) bn J;obtain⟨k,hk,ek⟩:=uS ha hj;have es:=aak hb h6 hu hl (rnd x) ((n+1:Nat):Int) k a ha (by rw[ek];exact ej);have em:=ni (f:=f) k a bn ha (by rw[ek];exact ej) hk;have hs:Ef bn f k a<bn:=Ta k a ha;obtain⟨u',h1,h2,h3⟩:=ad3 n (u.set (Ef bn f k a) A1) (IH f<|Ef bn f k a) (rnd x) (hu.set J) (by rw[Es];exact hl)
   (by have:=(jF (f:=f) (a:=Ef bn f k a) bn).2;omega)
  refine⟨u',B4 ?_ h1, ?_,by rw[h3,Es]⟩
  .unfold jE;simp only[sU,A9,show A0 ((0:Int)<((n+1:Nat):Int))=A1 from AZ J,A5,show A0 ((bn:Int)=0)=A3 from Bf J,AG,ea,es];simp only[AO,A9,AR<|show Ef bn f k a<u.length by omega,A5,Bu];rw[Aa J J,show((n+1:Nat):Int) - 1=(n:Int) by omega]
  .rw[JJ,eb,em];exact h2
def aCy(o:List Int):∀(n:Nat) (u:List Bool) (f:Nat->Bool) (x:Int),Rep u f->bn<=u.length->cnt f bn+n<=bn->
  ∃u',oS ((bn:Int),o,u,x,(n:Int),())=I (.inr ((bn:Int),o,u',()))/\Rep u' (JJ bn n f x)/\u'.length=u.length
 | 0,u,f,x,hu,_,_=>by
  refine⟨u,BR ?_,hu,rfl⟩;rfl
 | n+1,u,f,x,hu,hl,hc=>by
  obtain⟨a,ea,eb,ha⟩:=abA hb h6 x;obtain⟨j,hj,ej⟩:=iD (f:=f) bn J;obtain⟨k,hk,ek⟩:=uS ha hj;have es:=wQ hb h6 hu hl o (rnd x) ((n+1:Nat):Int) k a ha (by rw[ek];exact ej);have em:=ni (f:=f) k a bn ha (by rw[ek];exact ej) hk;have hs:Ef bn f k a<bn:=Ta k a ha;obtain⟨u',h1,h2,h3⟩:=aCy o n (u.set (Ef bn f k a) A1) (IH f<|Ef bn f k a) (rnd x) (hu.set J) (by rw[Es];exact hl)
   (by have:=(jF (f:=f) (a:=Ef bn f k a) bn).2;omega)
  refine⟨u',B4 ?_ h1, ?_,by rw[h3,Es]⟩
  .unfold qK;simp only[ov,A9,show A0 ((0:Int)<((n+1:Nat):Int))=A1 from AZ J,A5,show A0 ((bn:Int)=0)=A3 from Bf J,AG,ea,es];simp only[AO,A9,AR<|show Ef bn f k a<u.length by omega,A5,Bu];rw[Aa J J,show((n+1:Nat):Int) - 1=(n:Int) by omega]
  .rw[JJ,eb,em];exact h2
end
def avV{u:List Bool}{f:Nat->Bool}(hu:Rep u f)(hl:u.length=6):jP ([],u,0,())=I (.inr (BZ<|HJ f 6,())):=by
 refine CS (λi=>(BZ<|HJ f i,u,(i:Int),())) 6 ?_ rfl;intro i hi;unfold mq;simp only[rdB,hu i,AR (show i<u.length by omega),AR hi,L8,A5,show A0 ((i:Int)<6)=A1 from AZ J];rw[Aa (n:=(i:Int)+1) J J,kV];have:=cT f i;rcases tf (f i) with e|e
 .simp only[e,A5];rw[A8<|B9 (by simp;omega)];simp[BZ]
 .simp only[e,A6,CH];rfl
def amH{bn:Nat}(h6:bn<=6){u:List Bool}{f:Nat->Bool}(hu:Rep u f)(hl:u.length=bn):rP ((bn:Int),[],u,0,())=I (.inr (BZ<|HJ f bn,())):=by
 refine CS (λi=>((bn:Int),BZ<|HJ f i,u,(i:Int),())) bn ?_ ?_
 .intro i hi;unfold YY;simp only[rdB,hu i,AR (show i<u.length by omega),A5,show A0 ((i:Int)<(bn:Int))=A1 from AZ J];rw[Aa (n:=(i:Int)+1) J J,kV];have:=cT f i;rcases tf (f i) with e|e
  .simp only[e,A5];rw[A8<|B9 (by simp;omega)];simp[BZ]
  .simp only[e,A6,CH];rfl
 .unfold YY;simp only[show A0 ((bn:Int)<(bn:Int))=A3 from Bf J,A6]
def jN(b n:Int):Uf (b,n,())=I ((BZ<|BV b n,()),()):=by
 unfold Uf BV;rw[aDr];simp only[A9];rcases tf (De b n) with e|e
 .have e2:=e;unfold De at e2;rw[AI]at e2;have h1:=Af.1 e2.1;have h2:=Af.1 e2.2;simp only[e,AD,A6,A5];rcases tf (A0<|n<b) with e3|e3
  .simp only[e3,A5];rw[show BZ [n.toNat]=[n] from by simp[BZ];omega]
  .have hd:=aCT e;simp only[e3,A6,sU,az9,A9];rw[Aa (n:=7 * n) J J,Aa (n:=7 * n+1) J J];obtain⟨u,g1,g2,g3⟩:=ad3 (bn:=b.toNat) J J (Fz b n).toNat (BW 6 A3) (λ_=>A3) (rnd<|7 * n+1) (Rep.new 6) (by simp;omega) (by rw[mD];omega);rw[show((b.toNat:Nat):Int)=b by omega,show(((Fz b n).toNat:Nat):Int)=Fz b n by omega]at g1;rw[show(dfl .bool:Bool)=A3 from rfl,g1];simp only[AO,A9];rw[avV g2 (by rw[g3];rfl),aEZ (b:=b.toNat) (acF J _ _ _ λ_ _=>rfl) 6 J];simp only[A9];rw[api (by have:=cT (JJ b.toNat (Fz b n).toNat (λ_=>A3)<|rnd<|7 * n+1) b.toNat;simp;omega)];rfl
 .simp only[e,AG,A5,A6];rfl
def tJ(b n:Int):SI (b,n,())=I ((BZ<|BV b n,()),()):=by
 unfold SI BV;rw[bz];simp only[A9];rcases tf (De b n) with e|e
 .have e2:=e;unfold De at e2;rw[AI]at e2;have h1:=Af.1 e2.1;have h2:=Af.1 e2.2;simp only[e,AD,A6,A5];rcases tf (A0<|n<b) with e3|e3
  .simp only[e3,A5];rw[show BZ [n.toNat]=[n] from by simp[BZ];omega];rfl
  .have hd:=aCT e;simp only[e3,A6,ov,atm,A9];rw[A8 (by simp;omega)];rw[Aa (n:=n * 7) J J,Aa (n:=n * 7+1) J J,Ql n 7];obtain⟨u,g1,g2,g3⟩:=aCy (bn:=b.toNat) J J [] (Fz b n).toNat (BW b.toNat A3) (λ_=>A3) (rnd<|7 * n+1) (Rep.new _) (by simp) (by rw[mD];omega);rw[show((b.toNat:Nat):Int)=b by omega,show(((Fz b n).toNat:Nat):Int)=Fz b n by omega]at g1;rw[show(dfl .bool:Bool)=A3 from rfl,g1];simp only[AO,A9];have g4:=amH (bn:=b.toNat) J g2 (by rw[g3];simp);rw[show((b.toNat:Nat):Int)=b by omega]at g4;rw[g4];rfl
 .simp only[e,AG,A5,A6];rfl
end Go.VS
namespace Go.VS
open Go
abbrev bI(l:List UInt8):List Int:=l.map λb=>(b.toNat:Int)
def Vl(s:A4):BA s=bI (L s):=rfl
def T4(l:List UInt8):BH (bI l)=B l:=by
 unfold BH bI B;rw[IQ];congr 2;rw[Gz (g:=id) (by intro b _;simp),eG]
def aCA(a b:UInt8):Dm .u8 (a.toNat:Int) (b.toNat:Int)=((a ^^^ b).toNat:Int):=by
 have h1:∀c:UInt8,FE (IntKind.bits .u8) (c.toNat:Int)=c.toBitVec:=by
  intro c;apply pO;rw[Qm];have:=c.toNat_lt;show((c.toNat:Int) % (2 ^ 8:Nat)).toNat=c.toBitVec.toNat;rw[p9 J J];rfl
 unfold Dm;rw[h1 a,h1 b];have:=(a ^^^ b).toNat_lt;show cq .u8 (((a ^^^ b).toNat:Nat):Int)=_;have h3:∀n:Int,cq .u8 n=n % 256:=NX;rw[h3];omega
def akB{l:List UInt8}(h:l.length=4):∃a b c d,l=[a,b,c,d]:=by
 obtain _|⟨a,_|⟨b,_|⟨c,_|⟨d,_|⟨e,l⟩⟩⟩⟩⟩:=l
 all_goals simp at h
 exact⟨a,b,c,d,rfl⟩
def sz4{s:A4}(h:s.size=4):∃a b c d,s=B [a,b,c,d]:=by
 obtain⟨a,b,c,d,e⟩:=akB (l:=L s) h;exact⟨a,b,c,d,by rw[← e,B_L]⟩
def aDq{a b:A4}(ha:a.size=4)(hb:b.size=4):SH (a,b,())=I ((B<|C0 (L a)<|L b,()),()):=by
 obtain⟨a0,a1,a2,a3,rfl⟩:=sz4 ha;obtain⟨b0,b1,b2,b3,rfl⟩:=sz4 hb;unfold SH;rw[A8<|by rfl];have h:rp (B [b0,b1,b2,b3],BA<|B [a0,a1,a2,a3],((BA<|B [a0,a1,a2,a3]).length:Int),0,())=
   I (.inr ([Dm .u8 (a0.toNat:Int) (b0.toNat:Int),Dm .u8 (a1.toNat:Int) (b1.toNat:Int),Dm .u8 (a2.toNat:Int) (b2.toNat:Int),Dm .u8 (a3.toNat:Int) (b3.toNat:Int)],())):=
  B4 rfl (B4 rfl (B4 rfl (B4 rfl (BR rfl))))
 rw[h];simp only[aCA,AO,A9];exact congrArg (λz=>I ((z,()),()))<|T4 [a0 ^^^ b0,a1 ^^^ b1,a2 ^^^ b2,a3 ^^^ b3]
def ue{a b:A4}(ha:a.size=4)(hb:b.size=4):Se (a,b,())=I ((B<|C0 (L a)<|L b,()),()):=by
 obtain⟨a0,a1,a2,a3,rfl⟩:=sz4 ha;obtain⟨b0,b1,b2,b3,rfl⟩:=sz4 hb;unfold Se;have h:kR (B [a0,a1,a2,a3],B [b0,b1,b2,b3],[],0,())=
   I (.inr ([Dm .u8 (a0.toNat:Int) (b0.toNat:Int),Dm .u8 (a1.toNat:Int) (b1.toNat:Int),Dm .u8 (a2.toNat:Int) (b2.toNat:Int),Dm .u8 (a3.toNat:Int) (b3.toNat:Int)],())):=
  B4 rfl (B4 rfl (B4 rfl (B4 rfl (BR rfl))))
 rw[h];simp only[aCA,AO,A9];exact congrArg (λz=>I ((z,()),()))<|T4 [a0 ^^^ b0,a1 ^^^ b1,a2 ^^^ b2,a3 ^^^ b3]
def db{n:Int}(h0:0<=n)(h1:n<=1000):LW (n,())=I ((B0 (n+3) 4,()),()):=by
 unfold LW;simp only;rw[Aa (n:=n+4) J J,Aa (n:=n+4 - 1) J J,show n+4 - 1=n+3 by omega];rw[GF J,Aa J J]
def azq:la ()=I ((B<|nul 4,()),()):=rfl
def GC(t:List UInt8)(i:Nat):List UInt8:=(BN 4).map λj=>t.getD (4 * i+j) 0
def Uz(t:List UInt8)(i:Nat):(GC t i).length=4:=by simp[GC]
def DG(t:A4):List A4:=if inB t.size 1 24 then(BN<|(t.size+3) / 4).map λi=>B (GC (L t) i) else []
def aqu(l:List UInt8):BU (BW (AM 4)<|dfl .u8).length (bI l)++Bs (bI l).length (BW (AM 4)<|dfl .u8)=bI ((BN 4).map λj=>l.getD j 0):=by
 obtain _|⟨a,_|⟨b,_|⟨c,_|⟨d,l⟩⟩⟩⟩:=l
 .rfl
 .rfl
 .rfl
 .rfl
 .rw[KR<|by simp,CH];rfl
def ajE(l:List UInt8)(k:Nat):(BN 4).map (λj=>(l.drop k).getD j 0)=(BN 4).map λj=>l.getD (k+j) 0:=by
 refine Gz ?_;intro j _;rw[BD,BD,Hd]
def asV(s:A4)(k:Nat):L (s.extract k s.size)=(L s).drop k:=by
 rw[E5,J8];rw[Dd,Ay];exact As _
def aht(t:A4):Yy (t,())=I ((DG t,()),()):=by
 unfold Yy DG;simp only[EF,A9];rcases tf (inB t.size 1 24) with e|e
 .have h1:=Af.1 e;simp only[e,AD,A6,A5];have h:nC (t,[],0,())=I (.inr ((BN<|(t.size+3) / 4).map λi=>B<|GC (L t) i,())):=by
   refine CS (λi=>(t,(BN i).map λi=>B<|GC (L t) i,((4 * i:Nat):Int),())) ((t.size+3) / 4) ?_ ?_
   .intro i hi;unfold Yr;simp only[show A0 (((4 * i:Nat):Int)<(t.size:Int))=A1 from AZ J,A5];rw[A8<|by rfl,A8 (by simp;omega),A8<|B9 (by simp;omega)];rw[Bu,Vl,asV,aqu,T4,ajE,Aa J J,L5 (n:=i),Ev];rw[show((4 * i:Nat):Int)+4=((4 * (i+1):Nat):Int) by omega];rfl
   .unfold Yr;simp only[show A0 (((4 * ((t.size+3) / 4):Nat):Int)<(t.size:Int))=A3 from Bf J,A6]
  rw[h];simp only[AO,A9];rw[oN (by simp;omega)];rfl
 .simp only[e,AG,A5,A6]
def arG(t:A4)(o:List A4)(i:Nat)(hi:i<=100):
  sQ (t,o,(i:Int),[],w64<|(i:Int) * 4,())=I (.inr (t,o,(i:Int),bI<|GC (L t) i,())):=by
 rw[Aa J J,show(i:Int) * 4=((4 * i+0:Nat):Int) by omega];refine CS (λj=>(t,o,(i:Int),bI<|(BN j).map λm=>(L t).getD (4 * i+m) 0,((4 * i+j:Nat):Int),())) 4 ?_ ?_
 .intro j hj;unfold YH;simp only;rw[Aa (n:=(i:Int)+1) J J,Aa (n:=((i:Int)+1) * 4) J J];rw[A8<|AZ J,Aa (n:=((4 * i+j:Nat):Int)+1) J J];rw[L5,Ev];by_cases h:4 * i+j<t.size
  .rw[A8<|AZ J,A8<|AR h,A8<|B9 (by simp;omega),Kb];simp only[Ev,DW,IJ];rfl
  .rw[AB (by simp;omega),A8<|B9 (by simp;omega)];have:(L t).getD (4 * i+j) 0=0:=by
    rw[BD,I7 (by rw[Ay];omega)];rfl
   simp only[Ev,DW,IJ,this];rfl
 .unfold YH;simp only;rw[Aa (n:=(i:Int)+1) J J,Aa (n:=((i:Int)+1) * 4) J J];rw[AB (by simp;omega)];rfl
def anF(t:A4):eW (t,())=I ((DG t,()),()):=by
 unfold eW DG;rcases tf (inB t.size 1 24) with e|e
 .have h1:=Af.1 e;rw[AB (by simp;omega),A8 e];have h:nY (t,[],0,())=I (.inr ((BN<|(t.size+3) / 4).map λi=>B<|GC (L t) i,())):=by
   refine CS (λi=>(t,(BN i).map λi=>B<|GC (L t) i,(i:Int),())) ((t.size+3) / 4) ?_ ?_
   .intro i hi;unfold Wl;simp only[db (n:=(t.size:Int)) J J,A9];rw[GF J,A8<|AZ J,arG t _ i J];simp only[AO,A9];rw[A8<|B9 (by simp;omega),T4,Aa J J,L5,Ev];rfl
   .unfold Wl;simp only[db (n:=(t.size:Int)) J J,A9];rw[GF J,AB<|by simp]
  rw[h];rfl
 .rw[A8,AB (by rw[e];exact D0)];by_cases h:(1:Int)<=t.size/\(t.size:Int)<=24
  .rw[Af.2 h]at e;cases e
  .simp;omega
abbrev bsA(l:List A4)(k:Nat):A4:=l.getD k noB
def P1(l:List A4)(k:Nat): @rd A4 (dfl .str) l (k:Int)=bsA l k:=rfl
def PF(pre:List Nat)(k:Nat)(post:List Nat): @rd Int (dfl .int) (BZ<|pre++k::post) (pre.length:Int)=(k:Int):=by
 rw[OS,BZ,Ev,DW,BD,EC<|by simp];simp
def snoc{α:Type}(pre:List α)(k:α)(post:List α):pre++k::post=(pre++[k])++post:=by simp
def Di{n m:Nat}(h:n<m)(hm:m<=1048576):w64 ((n:Int)+1)=((n+1:Nat):Int):=B2 h J
section
variable {bs:List A4} (hbs:∀k,k<bs.length->(bsA bs k).size=4)
include hbs
def ag2(post:List Nat):∀(pre:List Nat) (y:A4),pre≠[]->y.size=4->(pre++post).length<=1048576->(∀k∈post,k<bs.length)->
  Vu (bs,y,BZ<|pre++post,((BZ<|pre++post).length:Int),(pre.length:Int),())=I (.inr (B<|post.foldl (λx k=>C0 x<|L<|bsA bs k)<|L y,())):=by
 induction post with
 | nil=>
  intro pre y _ _ _ _;refine BR ?_;unfold UC;simp only[CH,EM,show A0 ((pre.length:Int)<(pre.length:Int))=A3 from Bf J,A6,MX,B_L]
 | cons k post ih=>
  intro pre y hp hy hl hk;have h1:=hk k Ap;have hne:pre.length≠0:=λh=>hp<|EE h;have hlen:pre.length<(BZ<|pre++k::post).length:=by simp
  refine B4 (x':=(bs,B<|C0 (L y)<|L<|bsA bs k,BZ<|pre++k::post,((BZ<|pre++k::post).length:Int),((pre++[k]).length:Int),())) ?_ ?_
  .unfold UC;simp only[show A0 ((pre.length:Int)<((BZ<|pre++k::post).length:Int))=A1 from AZ J,A5,AR hlen,PF,show A0 ((pre.length:Int)=0)=A3 from Bf J,A6,AR h1,P1,aDq hy<|hbs k h1,A9];rw[Di hlen<|by simpa using hl,Ar];rfl
  .have:=ih (pre++[k]) (B<|C0 (L y)<|L<|bsA bs k) (by simp) (by rw[BM,Rb<|by rw[Ay,Ay,hy,hbs k h1],Ay,hy]) (by rw[← snoc];exact hl) λx hx=>hk x<|Al k hx;rw[← snoc]at this;exact this
def akP(post:List Nat):∀(pre:List Nat) (y:A4),y.size=4->(pre++post).length<=1048576->(∀k∈post,k<bs.length)->
  cL (bs,BZ<|pre++post,y,(pre.length:Int),())=I (.inr (B<|post.foldl (λx k=>C0 x<|L<|bsA bs k)<|L y,())):=by
 induction post with
 | nil=>
  intro pre y _ _ _;refine BR ?_;unfold cb;simp only[CH,EM,show A0 ((pre.length:Int)<(pre.length:Int))=A3 from Bf J,A6,MX,B_L]
 | cons k post ih=>
  intro pre y hy hl hk;have h1:=hk k Ap;have hlen:pre.length<(BZ<|pre++k::post).length:=by simp
  refine B4 (x':=(bs,BZ<|pre++k::post,B<|C0 (L y)<|L<|bsA bs k,((pre++[k]).length:Int),())) ?_ ?_
  .unfold cb;simp only[show A0 ((pre.length:Int)<((BZ<|pre++k::post).length:Int))=A1 from AZ J,A5,AR hlen,PF,AR h1,P1,ue hy<|hbs k h1,A9];rw[Di hlen<|by simpa using hl,Ar];rfl
  .have:=ih (pre++[k]) (B<|C0 (L y)<|L<|bsA bs k) (by rw[BM,Rb<|by rw[Ay,Ay,hy,hbs k h1],Ay,hy]) (by rw[← snoc];exact hl) λx hx=>hk x<|Al k hx;rw[← snoc]at this;exact this
end
def dL{t:A4}{k:Nat}(h:k<(DG t).length):bsA (DG t) k=B (GC (L t) k):=by
 unfold DG at h ⊢;split
 .rename_i e;rw[A8 e]at h;simp at h;rw[bsA,BD,DE,Gd h];rfl
 .rename_i e;rw[AB e]at h;cases h
def JA(t:A4)(n:Int):A4:=
 if(BV (DG t).length n).isEmpty then noB else B (Dn 4 (GC<|L t)<|BV (DG t).length n)
def aEM{t:A4}{n:Int}{y:List UInt8}{ks:List Nat}(hy:y.length=4)(hk:∀k∈ks,k<(DG t).length):
  ks.foldl (λx k=>C0 x<|L<|bsA (DG t) k) y=C0 y (Dn 4 (GC<|L t) ks):=by
 rw[← lR hy];have:∀(ks:List Nat) (y:List UInt8),(∀k∈ks,k<(DG t).length)->ks.foldl (λx k=>C0 x<|L<|bsA (DG t) k) y=ks.foldl (λx k=>C0 x<|GC (L t) k) y:=by
  intro ks
  induction ks with
  | nil=>intro _ _;rfl
  | cons k ks ih=>
   intro y h;rw[Dx,Dx,dL (h k Ap),ih _ λx hx=>h x<|Al k hx];rfl
 exact this ks y hk
def bO{t:A4}:∀k,k<(DG t).length->(bsA (DG t) k).size=4:=by
 intro k h;rw[dL h,BM,Uz]
def alo(t:A4)(n:Int):Wc (t,n,())=I ((JA t n,()),()):=by
 unfold Wc JA;simp only[aht,jN,A9];have hk:∀k∈BV (DG t).length n,k<(DG t).length:=λk h=>by
  have:=KA h;omega
 have hl:=dR (DG t).length n;revert hk hl;generalize BV (DG t).length n=ks;intro hk hl;cases ks with
 | nil=>
  rw[show Vu (DG t,noB,BZ [],((BZ []).length:Int),0,())=I (.inr (noB,())) from BR rfl];rfl
 | cons k ks=>
  have h1:=hk k Ap;rw[AB<|by simp];have hlen:0<(BZ<|k::ks).length:=by simp
  have hrd: @rd Int (dfl .int) (BZ<|k::ks) 0=(k:Int):=PF [] k ks;have h:Vu (DG t,noB,BZ<|k::ks,((BZ<|k::ks).length:Int),0,())=I (.inr (B<|Dn 4 (GC<|L t)<|k::ks,())):=by
   refine B4 (x':=(DG t,bsA (DG t) k,BZ<|[k]++ks,((BZ<|[k]++ks).length:Int),(([k]:List Nat).length:Int),())) ?_ ?_
   .unfold UC;simp only[show A0 ((0:Int)<((BZ<|k::ks).length:Int))=A1 from AZ J,A5,AR (i:=0) hlen,show inb 0 (BZ<|k::ks).length=A1 from AR (i:=0) hlen,hrd,show A0 ((0:Int)=0)=A1 from rfl,AR h1,P1];rfl
   .have:=ag2 bO ks [k] (bsA (DG t) k) (by simp) (bO k h1) (by simpa using (by simp at hl;omega:ks.length+1<=1048576)) λx hx=>hk x<|Al k hx;rw[aEM (n:=n) (by rw[Ay];exact bO k h1) λx hx=>hk x<|Al k hx,dL h1]at this;rw[dL h1];exact this
  rw[h];rfl
def ary(t:A4)(n:Int):YU (t,n,())=I ((JA t n,()),()):=by
 unfold YU JA;simp only[anF,tJ,A9];have hk:∀k∈BV (DG t).length n,k<(DG t).length:=λk h=>by
  have:=KA h;omega
 have hl:=dR (DG t).length n;revert hk hl;generalize BV (DG t).length n=ks;intro hk hl;cases ks with
 | nil=>rw[A8<|by simp,A8<|by simp]
 | cons k ks=>
  have h1:=hk k Ap;have hc:(DG t).length≠0:=J
  rw[AB (by simp;exact⟨λh=>hc (by rw[h];rfl),J⟩),AB<|by simp,azq];simp only[A9];have:=akP (bs:=DG t) bO (k::ks) [] (B<|nul 4) (by rfl) (by simpa using (by simp at hl;omega:ks.length+1<=1048576)) hk;rw[aEM (n:=n) (by rfl) hk]at this;rw[show cL (DG t,BZ<|k::ks,B<|nul 4,0,())=_ from this];simp only[AO,A9];rw[L_B,Yh<|Rw λx _=>Uz _ x]
end Go.VS
namespace Go.VS
open Go
def unk(kn:List A4)(k:Nat):Bool:=A0<|bsA kn k=noB
def Cm(kn:List A4)(of:List Nat):List Nat:=of.filter<|unk kn
def E8(kn:List A4)(of:List Nat)(y:List UInt8):List UInt8:=of.foldl (λx k=>if unk kn k then x else C0 x (L<|bsA kn k)) y
def CN(b:Nat)(kn:List A4):Prop:=kn.length=b/\ ∀k,k<b->bsA kn k=noB\/(bsA kn k).size=4
def rk{b:Nat}{kn:List A4}(h:CN b kn):∀ {of:List Nat} {y:List UInt8},y.length=4->(∀k∈of,k<b)->(E8 kn of y).length=4
 | [],_,hy,_=>hy
 | k::of,y,hy,hk=>by
  unfold E8;rw[Dx];refine rk (of:=of) h ?_ λx hx=>hk x<|Al k hx;rcases tf (unk kn k) with e|e
  .rw[e];exact hy
  .rw[e,A6];rcases h.2 k (hk k Ap) with h1|h1
   .unfold unk at e;exact absurd h1 (IP e)
   .rw[Rb<|by rw[hy,Ay,h1],hy]
def aE7(d:Int)(l:List Nat):Int:=l.foldl (fun(_:Int) (k:Nat)=>(k:Int)) d
section
variable {b:Nat} {kn:List A4} (hkn:CN b kn)
include hkn
def akL(bi:Int)(list l2:List AQ)(ag:Bool)(n i:Int)(post:List Nat):∀(pre:List Nat) (y:A4) (u:Int) (m:Nat),y.size=4->(pre++post).length<=1048576->m<=pre.length->(∀k∈post,k<b)->
  dF (bi,list,kn,ag,y,u,(m:Int),l2,n,i,BZ<|pre++post,((BZ<|pre++post).length:Int),(pre.length:Int),())=
   I (.inr (bi,list,kn,ag,B<|E8 kn post<|L y,aE7 u<|Cm kn post,((m+(Cm kn post).length:Nat):Int),l2,n,i,())):=by
 induction post with
 | nil=>
  intro pre y u m _ _ _ _;refine BR ?_;unfold VF;simp only[CH,EM,show A0 ((pre.length:Int)<(pre.length:Int))=A3 from Bf J,A6];show _=I (Sum.inr<|Sum.inr (bi,list,kn,ag,B<|L y,u,(m:Int),l2,n,i,()));rw[B_L]
 | cons k post ih=>
  intro pre y u m hy hl hm hk;have h1:=hk k Ap;have hlen:pre.length<(BZ<|pre++k::post).length:=by simp
  have hb:k<kn.length:=by rw[hkn.1];exact h1
  have hl2:(pre++[k]++post).length<=1048576:=by rw[← snoc];exact hl
  rcases tf (unk kn k) with e|e
  .refine B4 (x':=(bi,list,kn,ag,y,(k:Int),((m+1:Nat):Int),l2,n,i,BZ<|pre++k::post,((BZ<|pre++k::post).length:Int),((pre++[k]).length:Int),())) ?_ ?_
   .unfold VF;simp only[show A0 ((pre.length:Int)<((BZ<|pre++k::post).length:Int))=A1 from AZ J,A5,AR hlen,PF,AR hb,P1];rw[A8<|show A0 (bsA kn k=noB)=A1 from e,Di hlen<|by simpa using hl,Ar,Aa (n:=(m:Int)+1) J (by simp at hl;omega)];rfl
   .have:=ih (pre++[k]) y (k:Int) (m+1) hy hl2 (by simp;omega) λx hx=>hk x<|Al k hx;rw[← snoc]at this;rw[show Cm kn (k::post)=k::Cm kn post by unfold Cm;rw[J6,e,A8 rfl]];rw[show E8 kn (k::post) (L y)=E8 kn post (L y) by unfold E8;rw[Dx,e,A8 rfl]];rw[Bw,show m+((Cm kn post).length+1)=m+1+(Cm kn post).length by omega];exact this
  .have hs:(bsA kn k).size=4:=by
    rcases hkn.2 k h1 with h2|h2
    .exact absurd h2 (IP e)
    .exact h2
   refine B4 (x':=(bi,list,kn,ag,B<|C0 (L y)<|L<|bsA kn k,u,(m:Int),l2,n,i,BZ<|pre++k::post,((BZ<|pre++k::post).length:Int),((pre++[k]).length:Int),())) ?_ ?_
   .unfold VF;simp only[show A0 ((pre.length:Int)<((BZ<|pre++k::post).length:Int))=A1 from AZ J,A5,AR hlen,PF,AR hb,P1];rw[AB (by intro h;unfold unk at e;rw[h]at e;cases e),aDq hy hs,Di hlen (by simpa using hl),Ar];rfl
   .have:=ih (pre++[k]) (B<|C0 (L y)<|L<|bsA kn k) u m (by rw[BM,Rb<|by rw[Ay,Ay,hy,hs],Ay,hy]) hl2 (by simp;omega) λx hx=>hk x<|Al k hx;rw[← snoc]at this;rw[show Cm kn (k::post)=Cm kn post by unfold Cm;rw[J6,e,A6]];rw[show E8 kn (k::post) (L y)=E8 kn post (C0 (L y)<|L<|bsA kn k) by unfold E8;rw[Dx,e,A6]];exact this
def age(post:List Nat):∀(pre:List Nat) (y:A4) (o:List Nat),y.size=4->(pre++post).length<=1048576->o.length<=pre.length->(∀k∈post,k<b)->
  bK (kn,BZ o,y,BZ<|pre++post,(pre.length:Int),())=I (.inr (BZ<|o++Cm kn post,B<|E8 kn post<|L y,())):=by
 induction post with
 | nil=>
  intro pre y o _ _ _ _;refine BR ?_;unfold Tb;simp only[CH,EM,show A0 ((pre.length:Int)<(pre.length:Int))=A3 from Bf J,A6];show _=I (Sum.inr<|Sum.inr (BZ<|o++[],B<|L y,()));rw[B_L,CH]
 | cons k post ih=>
  intro pre y o hy hl hm hk;have h1:=hk k Ap;have hlen:pre.length<(BZ<|pre++k::post).length:=by simp
  have hb:k<kn.length:=by rw[hkn.1];exact h1
  have hl2:(pre++[k]++post).length<=1048576:=by rw[← snoc];exact hl
  rcases tf (unk kn k) with e|e
  .refine B4 (x':=(kn,BZ<|o++[k],y,BZ<|pre++k::post,((pre++[k]).length:Int),())) ?_ ?_
   .unfold Tb;simp only[show A0 ((pre.length:Int)<((BZ<|pre++k::post).length:Int))=A1 from AZ J,A5,AR hlen,PF,AR hb,P1];rw[A8<|show A0 (bsA kn k=noB)=A1 from e,A8<|B9 (by simp;simp at hl;omega),Di hlen<|by simpa using hl,Ar];simp[BZ]
   .have:=ih (pre++[k]) y (o++[k]) hy hl2 (by simp;omega) λx hx=>hk x<|Al k hx;rw[← snoc]at this;rw[show Cm kn (k::post)=k::Cm kn post by unfold Cm;rw[J6,e,A8 rfl]];rw[show E8 kn (k::post) (L y)=E8 kn post (L y) by unfold E8;rw[Dx,e,A8 rfl]];rw[snoc o k<|Cm kn post];exact this
  .have hs:(bsA kn k).size=4:=by
    rcases hkn.2 k h1 with h2|h2
    .exact absurd h2 (IP e)
    .exact h2
   refine B4 (x':=(kn,BZ o,B<|C0 (L y)<|L<|bsA kn k,BZ<|pre++k::post,((pre++[k]).length:Int),())) ?_ ?_
   .unfold Tb;simp only[show A0 ((pre.length:Int)<((BZ<|pre++k::post).length:Int))=A1 from AZ J,A5,AR hlen,PF,AR hb,P1];rw[AB (by intro h;unfold unk at e;rw[h]at e;cases e),ue hy hs,Di hlen (by simpa using hl),Ar];rfl
   .have:=ih (pre++[k]) (B<|C0 (L y)<|L<|bsA kn k) o (by rw[BM,Rb<|by rw[Ay,Ay,hy,hs],Ay,hy]) hl2 (by simp;omega) λx hx=>hk x<|Al k hx;rw[← snoc]at this;rw[show Cm kn (k::post)=Cm kn post by unfold Cm;rw[J6,e,A6]];rw[show E8 kn (k::post) (L y)=E8 kn post (C0 (L y)<|L<|bsA kn k) by unfold E8;rw[Dx,e,A6]];exact this
end
def Dl(b:Nat)(kn:List A4)(m:AQ):Option (List A4):=
 if inB m.nu 0 999&&A0 ((m.da.size:Int)=4) then
  (match Cm kn (BV (b:Int) m.nu) with
   | [u]=>I (kn.set u<|B<|E8 kn (BV (b:Int) m.nu)<|L m.da)
   | _=>U)
 else U
def C5(b:Nat)(s:List A4×Bool)(m:AQ):List A4×Bool:=match Dl b s.1 m with|some kn=>(kn,A1)|none=>s
def FR(b:Nat)(list:List AQ)(kn:List A4):List A4×Bool:=list.foldl (C5 b) (kn,A3)
def F2(b:Nat)(list:List AQ):Nat->List A4->List A4
 | 0,kn=>kn
 | n+1,kn=>if(FR b list kn).2 then F2 b list n (FR b list kn).1 else(FR b list kn).1
def RD{kn:List A4}{u:Nat}(v:A4)(hu:u<kn.length)(k:Nat):bsA (kn.set u v) k=if k=u then v else bsA kn k:=by
 rw[bsA,BD,Tt];by_cases h:u=k
 .subst h;simp[hu]
 .rw[AB h,AB<|LQ h,← BD]
def aBq{f g:Nat->Bool}(h:∀i,g i=A1->f i=A1):∀k,cnt g k<=cnt f k
 | 0=>As _
 | k+1=>by
  have:=aBq h k;rw[cnt,cnt];rcases tf (g k) with e|e
  .rw[e,h k e];omega
  .rw[e,A6];omega
def aCH{f g:Nat->Bool}(h:∀i,g i=A1->f i=A1){u:Nat}(hf:f u=A1)(hg:g u=A3):∀k,u<k->cnt g k<cnt f k
 | 0,h=>J
 | k+1,hk=>by
  rw[cnt,cnt];by_cases e:u=k
  .subst e;rw[hf,hg,A8 rfl,A6];have:=aBq h u;omega
  .have:=aCH h hf hg k J;rcases tf (g k) with e|e
   .rw[e,h k e];omega
   .rw[e,A6];omega
def QT{b:Nat}{kn kn':List A4}{m:AQ}(h:CN b kn)(e:Dl b kn m=I kn'):
  CN b kn'/\(∀k,unk kn' k=A1->unk kn k=A1)/\cnt (unk kn') b<cnt (unk kn) b:=by
 unfold Dl at e;split at e
 .rename_i hc;rw[AI]at hc;have hs:=BT hc.2;split at e
  .rename_i u hu;injection e with e;subst e;have Eu:u∈Cm kn (BV (b:Int) m.nu):=by rw[hu];exact LN u
   obtain⟨h1,h2⟩:=Gy.1 Eu;have h3:=KA h1;have hub:u<b:=J
   have hul:u<kn.length:=by rw[h.1];exact hub
   have hlen:(B<|E8 kn (BV (b:Int) m.nu)<|L m.da).size=4:=by
    rw[BM,rk h (by rw[Ay];omega) λk hk=>by have:=KA hk;omega]
   have hno:B (E8 kn (BV (b:Int) m.nu)<|L m.da)≠noB:=by
    intro hh;rw[hh]at hlen;cases hlen
   have aaL:∀k,unk (kn.set u<|B<|E8 kn (BV (b:Int) m.nu)<|L m.da) k=A1->unk kn k=A1:=by
    intro k hk;unfold unk at hk;rw[RD _ hul]at hk;by_cases ek:k=u
    .rw[A8 ek]at hk;exact absurd (BT hk) hno
    .rw[AB ek]at hk;exact hk
   refine⟨⟨by rw[Es,h.1], ?_⟩,aaL,aCH aaL h2 ?_ b hub⟩
   .intro k hk;rw[RD _ hul];by_cases ek:k=u
    .rw[A8 ek];exact NH hlen
    .rw[AB ek];exact h.2 k hk
   .unfold unk;rw[RD _ hul,A8 rfl];exact Bf hno
  .cases e
 .cases e
def Lt{b:Nat}:∀(list:List AQ) (s:List A4×Bool),CN b s.1->
  CN b (list.foldl (C5 b) s).1/\(∀k,unk (list.foldl (C5 b) s).1 k=A1->unk s.1 k=A1)/\cnt (unk (list.foldl (C5 b) s).1) b<=cnt (unk s.1) b/\
  ((list.foldl (C5 b) s).2=A1->s.2=A1\/cnt (unk (list.foldl (C5 b) s).1) b<cnt (unk s.1) b)
 | [],s,h=>⟨h,λ_ hk=>hk,As _,λhs=>Mt hs⟩
 | m::list,s,h=>by
  rw[Dx];cases e:Dl b s.1 m with
  | none=>
   rw[show C5 b s m=s by unfold C5;rw[e]];exact Lt list s h
  | some kn=>
   rw[show C5 b s m=(kn,A1) by unfold C5;rw[e]];obtain⟨a1,a2,a3⟩:=QT h e;obtain⟨b1,b2,b3,_⟩:=Lt list (kn,A1) a1;have b4:cnt (unk (list.foldl (C5 b) (kn,A1)).1) b<=cnt (unk kn) b:=b3;exact⟨b1,λk hk=>a2 k<|b2 k hk,J,λ_=>NH J⟩
end Go.VS
end
