/- Part 19. -/
import Derived.Lib.ItoaMem
import Derived.Test.YtgjljlpdfceilaaGreatDoorQAR
open BitVec renaming eq_of_toNat_eq->pR,ofInt->FV,toNat_ofInt->Rp
open Bool renaming and_eq_true->AG,and_false->Bc,and_self->Dq,and_true->Lh,eq_iff_iff->Ke,false->A3,false_and->AS,false_ne_true->Ca,false_or->Bn,not_eq_true'->C1,not_false->AK,not_true->AF,or_eq_false_iff->Mk,or_eq_true->Br,or_false->Ep,or_self->Gl,or_true->Da,true->U,true_and->AY,true_or->C0
open Classical renaming choose->Nt,choose_spec->J9
open Decidable renaming decide->A1
open Eq renaming trans->Kb
open Go.IntKind renaming wrap->bT
open Go.Lib renaming cut->Fp,decDigits->pX,index_one->Ux,itoa->BA,itoa_neg->pe,splitB->JD,splitK->Gn
open Int renaming emod_eq_of_lt->pC,eq_ofNat_of_zero_le->HZ,le_refl->Ct,mul_comm->S5,tdiv->B5,tdiv_eq_ediv_of_nonneg->Gj,tmod->BO,tmod_eq_emod_of_nonneg->Lg,toNat->AR,toNat_natCast->BZ
open List renaming all_eq_true->Cb,append_assoc->C9,append_cancel_left->aFK,append_nil->CW,concat_eq_append->aFH,cons_append->Lf,count_cons_self->aFP,drop->Bv,dropWhile_cons->pM,drop_append_of_le_length->Uj,drop_drop->J5,drop_eq_getElem_cons->Up,drop_eq_nil_of_le->Mq,drop_left'->Ro,drop_zero->J6,eq_nil_of_length_eq_zero->E7,eq_nil_or_concat->aFG,filter_append->Rl,filter_cons->KT,filter_nil->bJ,flatMap_append->pZ,foldlM_cons->Un,foldl_cons->E6,foldl_nil->KR,getD_eq_getElem?_getD->BC,getElem?_append_left->IT,getElem?_append_right->Fo,getElem?_drop->I2,getElem?_eq_getElem->Au,getElem?_eq_none->Hz,getElem?_eq_some_iff->BP,getElem?_map->DK,getElem?_range->H7,getElem?_replicate->bM,getElem?_set->Pa,getElem_mem->CV,getElem_of_mem->Cy,length->Jl,length_append->B0,length_cons->Bh,length_drop->ES,length_eq_one_iff->aFC,length_filter_le->J4,length_map->Dh,length_nil->CN,length_set->Gi,length_take->DU,length_zipWith->pN,map_append->Eo,map_congr_left->H9,map_cons->Db,map_id->bR,map_map->IV,map_nil->Jm,mem_append->BN,mem_append_left->By,mem_cons->Bo,mem_cons_of_mem->An,mem_cons_self->Av,mem_filter->FW,mem_map->C3,mem_of_getElem?->Cu,mem_of_mem_drop->Jr,mem_of_mem_take->Hb,mem_range->D6,mem_singleton->CA,mem_singleton_self->Ml,nil_append->En,range->BB,range_succ->IU,replicate->BV,replicate_succ->aFS,take->BS,takeWhile_append_dropWhile->bB,takeWhile_cons->Rw,takeWhile_sublist->aFL,take_add_one->JC,take_append_drop->JA,take_left'->Pg,take_length->E8,take_of_length_le->KY,take_take->bF,zipWith_cons_cons->PX
open List.cons renaming injEq->Mt
open Nat renaming add_assoc->DI,add_comm->Nl,add_zero->I0,eq_zero_or_pos->Ui,le_refl->Az,le_trans->Ce,lt_of_lt_of_le->HA,lt_or_ge->Gm,lt_trans->bU,lt_trichotomy->IX,mod_eq_of_lt->Pe,mod_lt->Pj,pow_succ->pd,sub_self->Pm,sub_zero->Js,zero_add->DT,zero_le->D7
open Ne renaming symm->Li
open Option renaming bind_eq_some_iff->Am,bind_some->A9,filter_eq_some_iff->Jk,getD_some->D0,isSome_some->D8,none->A0,some->I
open Option.some renaming injEq->Bz
open Or renaming inl->Ny,inr->Nw
open Prod.mk renaming injEq->CX
open UInt8 renaming ofNat->Kh,toNat_inj->Rm
set_option linter.all false
noncomputable section
namespace Go.VS
open Go
def awr{A R:Type}{t:(A->Option R)->A->Option R}{x:A}{v:R}(hv:∀k r,Bm t k x=I r->r=v)(he:∃k,Bm t k x=I v):OA t x=I v:=by
 cases h:OA t x with
 | none=>
  exfalso;obtain⟨k,hk⟩:=he;unfold OA at h;rw[dif_pos ⟨k,v,hk⟩]at h;cases h
 | some r=>
  obtain⟨k,hk⟩:=aGl h;rw[hv k r hk]
def oA{σ β γ:Type}{b:σ->Option (σ ⊕ (β ⊕ γ))}(st:Nat->σ)(n:Nat)(p:Nat->Bool)(r:β)(fin:γ)
  (h:∀i,i<n->(∀j,j<i->p j=U)->b (st i)=I (if p i then .inl (st<|i+1) else .inr (.inl r)))
  (hn:(∀j,j<n->p j=U)->b (st n)=I (.inr<|.inr fin)):AW b (st 0)=I (if As n p then .inr fin else .inl r):=by
 have:∀k,k<=n->(∀j,j<n - k->p j=U)->AW b (st<|n - k)=I (if MN p k (n - k) then .inr fin else .inl r):=by
  intro k
  induction k with
  | zero=>intro _ hp;exact BE<|hn hp
  | succ k ih=>
   intro hk hp;have h1:=h (n - (k+1)) J hp;unfold MN;rcases tf (p<|n - (k+1)) with hq|hq
   .rw[hq]at h1;rw[hq,AY];refine Ap h1 ?_;rw[show n - (k+1)+1=n - k by omega];exact ih J (λj hj=>by
     rcases Gm j (n - (k+1)) with h2|h2
     .exact hp j h2
     .rw[show j=n - (k+1) by omega];exact hq)
   .rw[hq]at h1;rw[hq,AS];exact BE h1
 have:=this n (Az _) (λj hj=>by omega);rwa[Pm]at this
abbrev dcm(u:Nat):List UInt8:=pX u
def LL{u:Nat}(h:u<10):dcm u=[Kh (48+u)]:=Lib.decDigits_one h
def MU{u:Nat}(h:¬u<10):dcm u=dcm (u / 10)++[Kh (48+u % 10)]:=by rw[dcm,pX,dif_neg h]
def ML:∀(k u:Nat),1<=k->u<10 ^ k->(dcm u).length<=k
 | 0,_,h,_=>J
 | 1,u,_,h=>by rw[LL J];simp
 | k+2,u,_,h=>by
  by_cases h1:u<10
  .rw[LL h1];simp
  .rw[MU h1];have:=ML (k+1) (u / 10) J (by rw[pd]at h;omega);simp;omega
def JQ(u:Nat):BA (u:Int)=dcm u:=Lib.itoa_nonneg u
def Bb(n:Int):A4:=⟨(BA n).toArray⟩
def px{n:Nat}(h:n<10):BK [w8<|w64<|48+(n:Int)]=⟨(dcm n).toArray⟩:=by
 rw[LL h,Ac J J,Nb,show(48+(n:Int)) % 256=((48+n:Nat):Int) by omega];rfl
def aHL(u:Nat):B5 (u:Int) 10=((u / 10:Nat):Int):=rfl
def aHW(u:Nat):BO (u:Int) 10=((u % 10:Nat):Int):=rfl
def py(u:Nat):BK [w8<|w64<|48+((u % 10:Nat):Int)]=⟨[Kh (48+u % 10)].toArray⟩:=by
 rw[px J,LL J]
def rO(a b:List UInt8):(⟨a.toArray⟩:A4)++⟨b.toArray⟩=⟨(a++b).toArray⟩:=by
 apply GG;rw[Ge]
def arG:pX 9223372036854775808=[57,50,50,51,51,55,50,48,51,54,56,53,52,55,55,53,56,48,56]:=by
 show dcm _=_
 repeat (first|rw[LL J]|rw[MU J])
 rfl
def ZL:∀(k:Nat) (n:Int),-9223372036854775808<=n->n<=9223372036854775807->∀r,Bm (λg=>Gt g) k (n,())=I r->r=((Bb n,()),())
 | 0,_,_,_,r,h=>by cases h
 | k+1,n,h0,h1,r,h=>by
  have ih:=ZL k
  replace h:Gt (Bm (λg=>Gt g) k) (n,())=I r:=h
  generalize Bm (λg=>Gt g) k=G at ih h;unfold Gt at h;by_cases hn:n < -9223372036854775807
  .simp only[hn,Aa,A5]at h;cases h;obtain rfl:n= -9223372036854775808:=J
   have:Bb (-9223372036854775808)=B [45,57,50,50,51,51,55,50,48,51,54,56,53,52,55,55,53,56,48,56]:=by
    apply GG;show BA (-9223372036854775808)=_;rw[show(-9223372036854775808:Int)= -((9223372036854775808:Nat):Int) by rfl,pe _ J];rw[L_B];rw[arG]
   rw[this]
  .rw[AD<|by simpa using hn]at h;by_cases OF:n<0
   .rw[A8<|by simpa using OF]at h;simp only at h;rw[Ac J J]at h;obtain⟨r4,e4,h⟩:=Am.1 h;have:=ih (0 - n) J J r4 e4;subst this;split at h
    .cases h;obtain⟨u,hu⟩:=HZ (show 0<= -n by omega);obtain rfl:n= -(u:Int):=J
     have:Bb (-(u:Int))=B [45]++Bb (0 - -(u:Int)):=by
      unfold Bb;rw[pe _ J,show(0:Int) - -(u:Int)=(u:Int) by omega,JQ];rw[B,rO];rfl
     rw[this]
    .cases h
   .rw[AD<|by simpa using OF]at h;obtain⟨u,hu⟩:=HZ (show 0<=n by omega);obtain rfl:n=(u:Int):=hu;by_cases hs:u<10
    .rw[A8 (by simp;omega)]at h;simp only at h;cases h;rw[px hs,Bb,JQ]
    .rw[AD (by simp;omega)]at h;simp only[aHL,aHW]at h;rw[Ac J J]at h;obtain⟨r7,e7,h⟩:=Am.1 h;have:=ih ((u / 10:Nat):Int) J J r7 e7;subst this;split at h
     .cases h;rw[py,Bb,Bb,JQ,JQ,rO,← MU hs]
     .cases h
def o8:∀(k u:Nat),1<=k->k<=19->u<10 ^ k->u<=9223372036854775807->Bm (λg=>Gt g) k ((u:Int),())=I ((⟨(dcm u).toArray⟩,()),())
 | 0,_,h,_,_,_=>J
 | k+1,u,_,hk,h,h63=>by
  have e1:A1 ((u:Int) < -9223372036854775807)=A3:=by simp
  have e2:A1 ((u:Int)<0)=A3:=by simp
  have ih:=o8 k<|u / 10;show Gt (Bm (λg=>Gt g) k) _=_;generalize Bm (λg=>Gt g) k=G at ih;unfold Gt;simp only[e1,e2,aHL,aHW,A7];by_cases hs:u<10
  .rw[A8 (by simp;omega),px hs]
  .rw[AD (by simp;omega),Ac J J];have hk0:1<=k:=by
    rcases Ui k with rfl|h'
    .simp at h;omega
    .exact h'
   have hlt:u / 10<10 ^ k:=by rw[pd]at h;omega
   have hl:=ML k (u / 10) hk0 hlt;rw[ih hk0 J hlt J];simp only[A9];rw[A8,py,rO,← MU hs];have:(⟨(dcm<|u / 10).toArray⟩:A4).size=(dcm<|u / 10).length:=rfl;rw[decide_eq_true_eq,this,py];show _+1<=_;omega
def G7{n:Int}(h0: -9223372036854775808<=n)(h1:n<=9223372036854775807):Dc (n,())=I ((Bb n,()),()):=by
 refine awr (λk r h=>ZL k n h0 h1 r h) ?_;have oU:∀u:Nat,u<=9223372036854775807->u<10 ^ 19:=λu hu=>J
 by_cases hn:n < -9223372036854775807
 .refine⟨1, ?_⟩;cases h:Bm (λg=>Gt g) 1 (n,()) with
  | none=>simp only[Bm]at h;unfold Gt at h;rw[A8<|by simpa using hn]at h;cases h
  | some r=>rw[ZL 1 n h0 h1 r h]
 .by_cases OF:n<0
  .refine⟨20, ?_⟩;cases h:Bm (λg=>Gt g) 20 (n,()) with
   | none=>
    obtain⟨u,hu⟩:=HZ (show 0<= -n by omega);have ih:=o8 19 u J J (oU u J) J
    replace h:Gt (Bm (λg=>Gt g) 19) (n,())=A0:=h
    generalize Bm (λg=>Gt g) 19=G at ih h;unfold Gt at h;rw[AD<|by simpa using hn,A8<|by simpa using OF]at h;simp only at h;rw[Ac J J,show 0 - n=(u:Int) by omega,ih]at h;simp only[A9]at h;rw[A8]at h
    .cases h
    .have hl:=ML 19 u J<|oU u J;have e:(⟨(dcm u).toArray⟩:A4).size=(dcm u).length:=rfl;rw[decide_eq_true_eq,e];show 1+_<=_;omega
   | some r=>rw[ZL 20 n h0 h1 r h]
  .obtain⟨u,hu⟩:=HZ (show 0<=n by omega);obtain rfl:n=(u:Int):=hu;exact⟨19,by rw[o8 19 u J J (oU u J) J,Bb,JQ]⟩
def JU{n:Int}(h0: -9223372036854775808<=n)(h1:n<=9223372036854775807):JH (n,())=I ((Bb n,()),()):=by
 show VK _=_;unfold VK;rw[A8 ⟨h0,h1⟩];rfl
def dig(b:UInt8):Bool:=inB (b.toNat:Int) 48 57
def val(l:List UInt8):Nat:=l.foldl (λa b=>10 * a+(b.toNat - 48)) 0
def Zi(l:List UInt8)(b:UInt8):val (l++[b])=10 * val l+(b.toNat - 48):=by simp[val]
def aso{l:List UInt8}{i:Nat}(h:i<l.length):l.take (i+1)=l.take i++[l.getD i 0]:=by
 rw[JC,Au h];simp[h]
def cF:∀(k:Nat) (l:List UInt8),l.length<=k->(∀b∈l,dig b=U)->val l<10 ^ k:=by
 intro k
 induction k with
 | zero=>
  intro l hl _;obtain rfl:l=[]:=E7 J;decide
 | succ k ih=>
  intro l hl hd;rcases aFG l with rfl|⟨m,b,rfl⟩
  .exact Nat.pow_pos (by decide)
  .simp at hl hd;have h1:=ih m J (λx hx=>hd x<|.inl hx);have h2:=hd b<|.inr rfl;rw[aFH,Zi,pd];have h3:=Ad.1 h2;omega
def awC{m:List UInt8}:∀ {b:UInt8},dig b=U->b≠48->(∀x∈m,dig x=U)->1<=val (b::m):=by
 intro b hb hne hd;have h0:1<=val [b]:=by
  have:=Ad.1 hb;have hn:b.toNat≠48:=λh=>hne<|Rm.1 h;simp[val];omega
 have:∀(m:List UInt8) (a:Nat),1<=a->1<=m.foldl (λa b=>10 * a+(b.toNat - 48)) a:=by
  intro m
  induction m with
  | nil=>intro a h;exact h
  | cons x m ih=>intro a h;exact ih _<|show 1<=10 * a+(x.toNat - 48) by omega
 exact this m _<|by simpa[val] using h0
def Jd(l:List UInt8):Bool:=match l with
 | []=>A3
 | [_]=>U
 | b::_::_=> !decide (b=48)
def aaG:∀(k:Nat) (l:List UInt8),l.length=k->(∀b∈l,dig b=U)->Jd l=U->dcm (val l)=l:=by
 intro k
 induction k with
 | zero=>intro l hl _ h;obtain rfl:l=[]:=E7 hl;cases h
 | succ k ih=>
  intro l hl hd aEU;rcases aFG l with rfl|⟨m,b,rfl⟩
  .cases aEU
  .rw[aFH]at *;simp at hl;have hb:=hd b (by simp);have hb2:=Ad.1 hb;have hof:∀n,b.toNat=n->Kh n=b:=λn h=>by rw[← h];simp
   cases m with
   | nil=>
    have:val ([]++[b])=b.toNat - 48:=by simp[val]
    rw[this,LL J,hof _ J];rfl
   | cons c m=>
    have hc:c≠48:=by
     cases m<;>simpa[Jd] using aEU
    have h1:=awC (m:=m) (hd c<|by simp) hc (λx hx=>hd x<|by simp[hx]);rw[Zi,MU J,show(10 * val (c::m)+(b.toNat - 48)) / 10=val (c::m) by omega,show(10 * val (c::m)+(b.toNat - 48)) % 10=b.toNat - 48 by omega,
     ih (c::m) hl (λx hx=>hd x<|By _ hx) (by cases m<;>simp[Jd,hc]),hof _ J]
def bq:∀(k u:Nat),u<k->∀b∈dcm u,dig b=U:=by
 intro k
 induction k with
 | zero=>intro u h;omega
 | succ k ih=>
  intro u h b hb;have hd:∀n,n<10->dig (Kh<|48+n)=U:=λn hn=>by
   have:(Kh<|48+n).toNat=48+n:=by simp;omega
   unfold dig;rw[this];exact Ad.2 ⟨J,J⟩
  by_cases hu:u<10
  .rw[LL hu]at hb;obtain rfl:=CA.1 hb;exact hd u hu
  .rw[MU hu]at hb;rcases BN.1 hb with hb|hb
   .exact ih (u / 10) J b hb
   .obtain rfl:=CA.1 hb;exact hd _ J
def aO:∀(k u:Nat),u<k->val (dcm u)=u:=by
 intro k
 induction k with
 | zero=>intro u h;omega
 | succ k ih=>
  intro u h;by_cases hu:u<10
  .rw[LL hu];have:(Kh<|48+u).toNat=48+u:=by simp;omega
   simp only[val,E6,KR,this];omega
  .rw[MU hu,Zi,ih (u / 10) J];have:(Kh<|48+u % 10).toNat=48+u % 10:=by simp;omega
   rw[this];omega
def rR(u:Nat):dcm u≠[]:=by
 by_cases hu:u<10
 .rw[LL hu];simp
 .rw[MU hu];simp
def aIK:∀(k u:Nat),u<k->Jd (dcm u)=U/\(1<=u->∃b m,dcm u=b::m/\b≠48):=by
 intro k
 induction k with
 | zero=>intro u h;omega
 | succ k ih=>
  intro u h;by_cases hu:u<10
  .rw[LL hu];refine⟨rfl,λh1=>⟨_,_,rfl,λh2=> ?_⟩⟩;have:(Kh<|48+u).toNat=48+u:=by simp;omega
   rw[h2]at this;simp at this;omega
  .obtain⟨b,m,h1,h2⟩:=(ih (u / 10) J).2 J;rw[MU hu,h1];refine⟨?_,λ_=>⟨b,_,rfl,h2⟩⟩;cases m<;>simp[Jd,h2]
def Kl(l:List UInt8):Option Nat:=if l.all dig&&Jd l then I (val l) else A0
def Qw{l:List UInt8}{n:Nat}:Kl l=I n↔l=dcm n:=by
 unfold Kl;constructor
 .intro h;split at h
  .rename_i hc;simp at hc;cases h;exact(aaG _ l rfl hc.1 hc.2).symm
  .cases h
 .rintro rfl;rw[A8,aO (n+1) n J];simp only[AG,Cb];exact⟨bq (n+1) n J,(aIK (n+1) n J).1⟩
def azJ{s:A4}{i:Nat}:inB (bt s i) 48 57=dig ((L s).getD i 0):=rfl
def aJv{l:List UInt8}{f:UInt8->Bool}:As l.length (λi=>f<|l.getD i 0)=l.all f:=by
 rw[Ke,CE,Cb];constructor
 .intro h x hx;obtain⟨i,hi,rfl⟩:=Cy hx;have:=h i hi;simpa[hi] using this
 .intro h i hi;simpa[hi] using h _<|CV hi
def aEF{s:A4}{i:Nat}(h:∀j,j<i->inB (bt s j) 48 57=U)(hi:i<=s.size):∀b∈(L s).take i,dig b=U:=by
 intro b hb;obtain⟨j,hj,rfl⟩:=Cy hb;simp at hj;have h1:=h j J;rw[azJ]at h1;have h2:j<(L s).length:=by rw[B2];omega
 rw[List.getElem_take];have e:(L s).getD j 0=(L s)[j]:=by rw[BC,Au h2];rfl
 rwa[e]at h1
def aHT{s:A4}{i:Nat}(hi:i<s.size):val ((L s).take<|i+1)=10 * val ((L s).take i)+(((L s).getD i 0).toNat - 48):=by
 rw[aso (by rw[B2];exact hi),Zi]
def Ax(s:A4):Int×Bool:=if s.size<=5 then(match Kl (L s) with|some n=>((n:Int),U)|none=>(0,A3)) else(0,A3)
def ax2{s:A4}(h:1<=s.size):Jd (L s)= !(A1 (bt s 0=48)&&A1 (1<(s.size:Int))):=by
 rw[show s.size=(L s).length from rfl]at *;unfold bt;show _= !(A1 ((((L s).getD 0 0).toNat:Int)=48)&&_);generalize L s=l at *
 match l with
 | []=>simp at h
 | [b]=>simp[Jd]
 | b::c::m=>
  have:(((b:UInt8).toNat:Int)=48)↔b=48:=⟨λh=>Rm.1 (by show b.toNat=48;omega),λh=>by subst h;rfl⟩;simp only[Jd,List.getD_cons_zero,this];simp;omega
def aER(s:A4):(L s).take s.size=L s:=KY (by rw[B2];exact Az _)
def jH{s:A4}(hs:s.size<=9223372036854775807):QZ (s,())=I (((Ax s).1,(Ax s).2,()),()):=by
 unfold QZ Ax;simp only[EW,A9];by_cases h5:s.size<=5
 .by_cases h1:1<=s.size
  .have e1:inB (s.size:Int) 1 5=U:=Ad.2 ⟨J,J⟩;have e2:inb 0 s.size=U:=by have:=AU (show 0<s.size by omega);simpa using this
   have GL:ub (s,0,0,())=I (if As s.size (λi=>inB (bt s i) 48 57) then .inr ((val (L s):Int),()) else .inl (0,A3,())):=by
    rw[← aER s];refine oA (λi=>(s,(val ((L s).take i):Int),(i:Int),())) s.size (λi=>inB (bt s i) 48 57) (0,A3,()) ((val ((L s).take s.size):Int),()) (λi hi hp=> ?_) (λ_=>by simp[gu]);unfold gu;simp only[AU hi,B9 hi,aaN,EW,A9,B4 hi (by omega:s.size<=9223372036854775807)];rcases tf (inB (bt s i) 48 57) with h|h
    .have hv:=cF 5 _ (by simp;omega)<|aEF hp J;have hb:=Ad.1 h;have e:w64 (w64 (10 * (val ((L s).take i):Int))+w64 (w8<|bt s i - 48))=(val ((L s).take<|i+1):Int):=by
      rw[aHT hi,Nb,Ac (n:=10 * _) J J,pC J J,Ac (n:=bt s i - 48) J J,Ac J J];rw[KI]at hb ⊢;omega
     simp only[h,e];rfl
    .simp only[h];rfl
   rw[e1,e2,A8 h5];simp only[GL,AF,AK,Bn,Im,A5];have EI:As s.size (λi=>inB (bt s i) 48 57)=(L s).all dig:=aJv (l:=L s) (f:=dig);rw[EI];unfold Kl;rw[ax2 h1];rcases tf (A1 (bt s 0=48)&&A1 (1<(s.size:Int))) with h|h
   .rw[h];simp
   .rw[h];rcases tf ((L s).all dig) with h'|h'
    .rw[h'];rfl
    .rw[h'];rfl
  .have e1:inB (s.size:Int) 1 5=A3:=by simp[inB];omega
   have:L s=[]:=E7 (by rw[B2];omega);rw[e1,A8 h5,this];simp[Kl,Jd]
 .have e1:inB (s.size:Int) 1 5=A3:=by simp[inB];omega
  rw[e1,AD h5];simp
def Ai(s:A4):Int:=if s.size<=4 then(match Kl (L s) with|some n=>(n:Int)|none=> -1) else -1
def aIL(u:Nat):Bb (u:Int)=⟨(dcm u).toArray⟩:=by rw[Bb,JQ]
def mG{s:A4}(hs:s.size<=9223372036854775807):Qh (s,())=I ((Ai s,()),()):=by
 unfold Qh Ai;by_cases h5:s.size<=4
 .by_cases h1:1<=s.size
  .have e1:(A1 ((s.size:Int)<1)||decide (4<(s.size:Int)))=A3:=by simp;omega
   have GL:vh (s,0,0,())=I (if As s.size (λi=>inB (bt s i) 48 57) then .inr (s,(val (L s):Int),()) else .inl (-1,())):=by
    rw[← aER s];refine oA (λi=>(s,(val ((L s).take i):Int),(i:Int),())) s.size (λi=>inB (bt s i) 48 57) (-1,()) (s,(val ((L s).take s.size):Int),()) (λi hi hp=> ?_) (λ_=>by simp[jV]);unfold jV;simp only[AU hi,B9 hi,B4 hi (by omega:s.size<=9223372036854775807)];rcases tf (inB (bt s i) 48 57) with h|h
    .have hv:=cF 5 _ (by simp;omega)<|aEF hp J;have hb:=Ad.1 h;have e:w64 (w64 ((val ((L s).take i):Int) * 10)+w64 (w8<|bt s i - 48))=(val ((L s).take<|i+1):Int):=by
      rw[aHT hi,Nb,Ac (n:=_ * 10) J J,pC J J,Ac (n:=bt s i - 48) J J,Ac J J];rw[KI]at hb ⊢;omega
     have e2:A1 (bt s i<48)=A3:=by simp;omega
     have e3:A1 (57<bt s i)=A3:=by simp;omega
     simp only[h,e,e2,e3];rfl
    .have hb:bt s i<48\/57<bt s i:=by
      have:=mt Ad.2 (by rw[h];simp);omega
     simp only[h];obtain hb|hb:=hb
     .simp[hb]
     .have:¬bt s i<48:=J
      simp[hb,this]
   rw[e1,A8 h5];simp only[GL,A7];have EI:As s.size (λi=>inB (bt s i) 48 57)=(L s).all dig:=aJv (l:=L s) (f:=dig);rw[EI];unfold Kl;rcases tf ((L s).all dig) with h'|h'
   .have hd:=Cb.1 h';have hv:=cF 5 (L s) (by rw[B2];omega) hd;simp only[h',A5,CB,AY,G7 (n:=(val (L s):Int)) J J,A9,aIL];rcases tf (Jd<|L s) with hl|hl
    .have:(⟨(dcm<|val<|L s).toArray⟩:A4)=s:=by
      apply GG;rw[sB,aaG _ _ rfl hd hl]
     simp[this,hl]
    .have:¬(⟨(dcm<|val<|L s).toArray⟩:A4)=s:=λh=>by
      have h2:=congrArg L h;rw[sB]at h2;rw[← h2,(aIK (val (L s)+1) _ J).1]at hl;cases hl
     simp[this,hl]
   .rw[h'];rfl
  .have e1:(A1 ((s.size:Int)<1)||decide (4<(s.size:Int)))=U:=by simp;omega
   have:L s=[]:=E7 (by rw[B2];omega);rw[e1,A8 h5,this];simp[Kl,Jd]
 .have e1:(A1 ((s.size:Int)<1)||decide (4<(s.size:Int)))=U:=by simp;omega
  rw[e1,AD h5];simp
def aue{s:A4}{n:Nat}:Ax s=((n:Int),U)↔s.size<=5/\L s=dcm n:=by
 unfold Ax;by_cases h:s.size<=5
 .rw[A8 h];constructor
  .intro h2;cases h3:Kl (L s) with
   | none=>rw[h3]at h2;cases h2
   | some m=>
    rw[h3]at h2;simp at h2;exact⟨h,by rw[Qw.1 h3,show m=n by omega]⟩
  .rintro⟨_,h2⟩;rw[Qw.2 h2]
 .rw[AD h];constructor
  .intro h2;cases h2
  .rintro⟨h2,_⟩;exact absurd h2 h
def TZ(s:A4):Ax s=(0,A3)\/ ∃n:Nat,Ax s=((n:Int),U)/\s.size<=5/\L s=dcm n:=by
 unfold Ax;by_cases h:s.size<=5
 .rw[A8 h];cases h2:Kl (L s) with
  | none=>exact .inl rfl
  | some n=>exact .inr ⟨n,rfl,h,Qw.1 h2⟩
 .rw[AD h];exact .inl rfl
def TW(s:A4):(Ai s= -1/\ ∀n,L s=dcm n->4<s.size)\/ ∃n:Nat,Ai s=(n:Int)/\s.size<=4/\L s=dcm n:=by
 unfold Ai;by_cases h:s.size<=4
 .rw[A8 h];cases h2:Kl (L s) with
  | none=>exact .inl ⟨rfl,λn hn=>by rw[Qw.2 hn]at h2;cases h2⟩
  | some n=>exact .inr ⟨n,rfl,h,Qw.1 h2⟩
 .rw[AD h];exact .inl ⟨rfl,λn _=>by omega⟩
def qT{s:A4}{n:Nat}(h:s.size<=4)(hn:L s=dcm n):Ai s=(n:Int):=by
 unfold Ai;rw[A8 h,Qw.2 hn]
def nL{s:A4}{n:Nat}(h:s.size<=5)(hn:L s=dcm n):Ax s=((n:Int),U):=aue.2 ⟨h,hn⟩
section
variable {α:Type} (f:α->Bool)
def ins(l:List α)(n:α):List α:=l.takeWhile f++n::l.dropWhile f
abbrev tw(l:List α):Nat:=(l.takeWhile f).length
def S6(l:List α):tw f l<=l.length:=by
 exact(aFL f).length_le
def aP(l:List α):l.take (tw f l)=l.takeWhile f:=by
 have:=List.take_left (l₁:=l.takeWhile f) (l₂:=l.dropWhile f);rwa[bB]at this
def aQ(l:List α):l.drop (tw f l)=l.dropWhile f:=by
 have:=List.drop_left (l₁:=l.takeWhile f) (l₂:=l.dropWhile f);rwa[bB]at this
def VI:∀ {l:List α} {i:Nat} {x:α},i<tw f l->l[i]? =I x->f x=U
 | [],i,x,h,hx=>by simp at hx
 | y::l,i,x,h,hx=>by
  unfold tw at h;rw[Rw]at h;split at h
  .rename_i hy;cases i with
   | zero=>simp at hx;subst hx;exact hy
   | succ i=>exact VI (l:=l) (i:=i) (by simpa using h) (by simpa using hx)
  .simp at h
def VJ:∀ {l:List α} {x:α},l[tw f l]? =I x->f x=A3
 | [],x,hx=>by simp at hx
 | y::l,x,hx=>by
  unfold tw at hx;rw[Rw]at hx;split at hx
  .exact VJ (l:=l) (by simpa using hx)
  .rename_i hy;simp at hx;subst hx;simpa using hy
def Om(l:List α)(n:α):(ins f l n).length=l.length+1:=by
 have:=congrArg Jl<|bB (p:=f) (l:=l);rw[B0]at this;simp only[ins,B0,Bh];omega
def Gv{l:List α}{n x:α}(h:x∈ins f l n):x=n\/x∈l:=by
 unfold ins at h;rw[BN,Bo]at h;obtain h|h|h:=h
 .exact .inr ((aFL f).mem h)
 .exact .inl h
 .exact .inr<|(List.dropWhile_sublist f).mem h
def Is{l:List α}{n x:α}(h:x=n\/x∈l):x∈ins f l n:=by
 unfold ins;rw[BN,Bo];obtain h|h:=h
 .exact .inr (.inl h)
 .rw[← bB (p:=f) (l:=l),BN]at h;obtain h|h:=h
  .exact .inl h
  .exact .inr<|.inr h
end
def pq{α:Type}{f g:α->Bool}:∀ {l:List α},(∀x∈l,f x=g x)->l.takeWhile f=l.takeWhile g/\l.dropWhile f=l.dropWhile g
 | [],_=>⟨rfl,rfl⟩
 | x::l,h=>by
  have ih:=pq (l:=l) (λy hy=>h y<|An _ hy);rw[Rw,Rw,pM,pM,h x Av,ih.1,ih.2];exact⟨rfl,rfl⟩
def aGc{α:Type}{f g:α->Bool}{l:List α}{n:α}(h:∀x∈l,f x=g x):ins f l n=ins g l n:=by
 unfold ins;rw[(pq h).1,(pq h).2]
def DH{l:List A6}{i:Nat}{x:A6}(h:l[i]? =I x):nA l i=x:=JR h
def Fz{l:List Mark}{i:Nat}{x:Mark}(h:l[i]? =I x):mA l i=x:=JR h
def E5(l:List A6)(n:A6):List A6:=ins (λx=>bef x.fr x.nu n.fr n.nu) l n
def EN(l:List Mark)(n:Mark):List Mark:=ins (λx=>bef x.mf x.mn n.mf n.mn) l n
def ZZ{α:Type}{l:List α}{i:Nat}{x:α}(h:l[i]? =I x):l.take i++[x]=l.take (i+1):=by
 rw[JC,h];rfl
def aGE{α:Type}{l:List α}{i j:Nat}{x:α}(h:l[i]? =I x)(hj:j<=i):(l.take i).drop j++[x]=(l.take<|i+1).drop j:=by
 have hi:=(BP.1 h).1;rw[← ZZ h,Uj (by simp;omega)]
def DY{α:Type}(g:α->Bool)(l:List α)(n:α)(i:Nat):List α:=if i<=tw g l then l.take i else l.take (tw g l)++n::(l.take i).drop (tw g l)
def Zg{α:Type}(g:α->Bool)(l:List α)(n:α)(i:Nat):(DY g l n i).length<=l.length+1:=by
 have:=S6 g l;unfold DY;split<;>simp<;>omega
def aGu{α:Type}(g:α->Bool)(l:List α)(n:α):(if tw g l<l.length then DY g l n l.length else DY g l n l.length++[n])=ins g l n:=by
 have h:=S6 g l;unfold DY ins;split
 .rw[AD J,E8,aP,aQ]
 .rw[A8 J,E8];have:tw g l=l.length:=J
  rw[← aP,← aQ,this];simp
def aIC{α:Type}{g:α->Bool}{l:List α}{n x:α}{i:Nat}(h:l[i]? =I x)(hi:i<tw g l):DY g l n i++[x]=DY g l n (i+1):=by
 unfold DY;rw[A8 J,A8 J,ZZ h]
def aIE{α:Type}{g:α->Bool}{l:List α}{n x:α}{i:Nat}(h:l[i]? =I x)(hi:i=tw g l):DY g l n i++[n]++[x]=DY g l n (i+1):=by
 subst hi;unfold DY;rw[A8<|Az _,AD J,← aGE h<|Az _];simp
def aID{α:Type}{g:α->Bool}{l:List α}{n x:α}{i:Nat}(h:l[i]? =I x)(hi:tw g l<i):DY g l n i++[x]=DY g l n (i+1):=by
 unfold DY;rw[AD J,AD J,← aGE h J];simp
def jf{l:List A6}{fr nu tt un:Int}{tx:A4}(hl:l.length<=1048576):Qf (l,(fr,nu,tt,un,tx,()),())=I ((E5 l ⟨fr,nu,tt,un,tx⟩,()),()):=by
 have ht:=S6 (λx:A6=>bef x.fr x.nu fr nu) l;have h:ve (l,(fr,nu,tt,un,tx,()),0,())=I (.inr (l,(fr,nu,tt,un,tx,()),((tw (λx:A6=>bef x.fr x.nu fr nu) l:Nat):Int),())):=
  CG (λi=>(l,(fr,nu,tt,un,tx,()),(i:Int),())) (tw (λx:A6=>bef x.fr x.nu fr nu) l) (λi hi=>by
   have hi':i<l.length:=J
   have hx:=Au hi';unfold jF;simp only[AU hi',B9 hi',Ch,TK,B4 hi' (by omega:l.length<=9223372036854775807),DH hx,VI (λx:A6=>bef x.fr x.nu fr nu) hi hx];rfl) (by
   unfold jF;generalize ht2:tw (λx:A6=>bef x.fr x.nu fr nu) l=t at *;rcases Gm t l.length with hlt|hge
   .have hx:=Au hlt;have:=VJ (λx:A6=>bef x.fr x.nu fr nu) (l:=l) (x:=l[t]) (by rw[ht2];exact hx);simp only[AU hlt,B9 hlt,Ch,TK,DH hx,this];rfl
   .have e:A1 ((t:Int)<(l.length:Int))=A3:=by simp;omega
    simp only[e,Hl,A5,AS,A7])
 unfold Qf;have hb:(A1 (0<=((tw (λx:A6=>bef x.fr x.nu fr nu) l:Nat):Int))&&A1 (((tw (λx:A6=>bef x.fr x.nu fr nu) l:Nat):Int)<=(l.length:Int)))=U:=by simp;omega
 simp only[h,CB,hb,A5,BZ,En,CN,DT,B0,Bh,DU,ES];rw[A8<|BG J,A8<|BG J,A8<|BG J,aP,aQ];simp[E5,ins]
def Pu(l:List A6)(n:A6):List A6:=ins (λx=> !bef n.fr n.nu x.fr x.nu) l n
def fH{l:List A6}{fr nu tt un:Int}{tx:A4}(hl:l.length<=1048576):QE (l,(fr,nu,tt,un,tx,()),())=I ((Pu l ⟨fr,nu,tt,un,tx⟩,()),()):=by
 let g:A6->Bool:=λx=> !bef fr nu x.fr x.nu
 have ht:=S6 g l;have h:tH (l,(fr,nu,tt,un,tx,()),[],A3,0,())=I (.inr ((fr,nu,tt,un,tx,()),DY g l ⟨fr,nu,tt,un,tx⟩ l.length,A1<|tw g l<l.length,())):=by
  refine CG (λi=>(l,(fr,nu,tt,un,tx,()),DY g l ⟨fr,nu,tt,un,tx⟩ i,A1<|tw g l<i,(i:Int),())) l.length (λi hi=> ?_) (by simp[fB]);have hx:=Au hi;have hr:=Zg g l ⟨fr,nu,tt,un,tx⟩ i;unfold fB;simp only[AU hi,B9 hi,Ch,YZ,B4 hi (by omega:l.length<=9223372036854775807),DH hx,Bh,CN,DT,BG<|show(DY g l ⟨fr,nu,tt,un,tx⟩ i).length+1<=4294967296 by omega];rcases IX i (tw g l) with hlt|heq|hgt
  .have h1:bef fr nu l[i].fr l[i].nu=A3:=by simpa[g] using VI g hlt hx
   have h2:A1 (tw g l<i)=A3:=by simp;omega
   have h3:A1 (tw g l<i+1)=A3:=by simp;omega
   simp only[h1,h2,h3,Im,AK,A5,D8,D0,Bc,A7,Bj,Ch,DH hx,AU hi,BG<|show(DY g l ⟨fr,nu,tt,un,tx⟩ i).length+1<=4294967296 by omega,aIC hx hlt,B4 hi (by omega:l.length<=9223372036854775807)]
  .have hx2:l[tw g l]? =I l[i]:=by rw[← heq];exact hx
   have h1:bef fr nu l[i].fr l[i].nu=U:=by simpa[g] using VJ g hx2
   have h2:A1 (tw g l<i)=A3:=by simp;omega
   have h3:A1 (tw g l<i+1)=U:=by simp;omega
   have h4:DY g l ⟨fr,nu,tt,un,tx⟩ i++[⟨fr,nu,tt,un,tx⟩]++[l[i]]=DY g l ⟨fr,nu,tt,un,tx⟩ (i+1):=aIE hx heq;simp only[h1,h2,h3,h4,Im,AK,A5,D8,D0,Dq,Bj,Ch,DH hx,AU hi,B0,Bh,CN,DT,BG<|show(DY g l ⟨fr,nu,tt,un,tx⟩ i).length+1+1<=4294967296 by omega,B4 hi (by omega:l.length<=9223372036854775807)]
  .have h2:A1 (tw g l<i)=U:=by simp;omega
   have h3:A1 (tw g l<i+1)=U:=by simp;omega
   simp only[h2,h3,Hl,AF,A5,AS,A7,Bj,Ch,DH hx,AU hi,BG<|show(DY g l ⟨fr,nu,tt,un,tx⟩ i).length+1<=4294967296 by omega,aID hx hgt,B4 hi (by omega:l.length<=9223372036854775807)]
 unfold QE;simp only[h,CB];have he:=aGu g l ⟨fr,nu,tt,un,tx⟩;have hr:=Zg g l ⟨fr,nu,tt,un,tx⟩ l.length;unfold Pu;show _=I ((ins g l _,()),());rw[← he];by_cases hc:tw g l<l.length
 .simp[hc]
 .simp[hc,BG<|show(DY g l ⟨fr,nu,tt,un,tx⟩ l.length).length+1<=4294967296 by omega]
def HQ(t:Int)(l:List A6):List A6:=l.filter λx=>A1<|t<x.un
def lb{l:List Mark}{mf mn mu:Int}(hl:l.length<=1048576):TG (l,(mf,mn,mu,()),())=I ((EN l ⟨mf,mn,mu⟩,()),()):=by
 have ht:=S6 (λx:Mark=>bef x.mf x.mn mf mn) l;have h:vV (l,(mf,mn,mu,()),0,())=I (.inr (l,(mf,mn,mu,()),((tw (λx:Mark=>bef x.mf x.mn mf mn) l:Nat):Int),())):=
  CG (λi=>(l,(mf,mn,mu,()),(i:Int),())) (tw (λx:Mark=>bef x.mf x.mn mf mn) l) (λi hi=>by
   have hi':i<l.length:=J
   have hx:=Au hi';unfold iu;simp only[AU hi',B9 hi',FL,TK,B4 hi' (by omega:l.length<=9223372036854775807),Fz hx,VI (λx:Mark=>bef x.mf x.mn mf mn) hi hx];rfl) (by
   unfold iu;generalize ht2:tw (λx:Mark=>bef x.mf x.mn mf mn) l=t at *;rcases Gm t l.length with hlt|hge
   .have hx:=Au hlt;have:=VJ (λx:Mark=>bef x.mf x.mn mf mn) (l:=l) (x:=l[t]) (by rw[ht2];exact hx);simp only[AU hlt,B9 hlt,FL,TK,Fz hx,this];rfl
   .have e:A1 ((t:Int)<(l.length:Int))=A3:=by simp;omega
    simp only[e,Hl,A5,AS,A7])
 unfold TG;have hb:(A1 (0<=((tw (λx:Mark=>bef x.mf x.mn mf mn) l:Nat):Int))&&A1 (((tw (λx:Mark=>bef x.mf x.mn mf mn) l:Nat):Int)<=(l.length:Int)))=U:=by simp;omega
 simp only[h,CB,hb,A5,BZ,En,CN,DT,B0,Bh,DU,ES];rw[A8<|BG J,A8<|BG J,A8<|BG J,aP,aQ];simp[EN,ins]
def Pv(l:List Mark)(n:Mark):List Mark:=ins (λx=> !bef n.mf n.mn x.mf x.mn) l n
def vP{l:List Mark}{mf mn mu:Int}(hl:l.length<=1048576):Se (l,(mf,mn,mu,()),())=I ((Pv l ⟨mf,mn,mu⟩,()),()):=by
 let g:Mark->Bool:=λx=> !bef mf mn x.mf x.mn
 have ht:=S6 g l;have h:tJ (l,(mf,mn,mu,()),[],A3,0,())=I (.inr ((mf,mn,mu,()),DY g l ⟨mf,mn,mu⟩ l.length,A1<|tw g l<l.length,())):=by
  refine CG (λi=>(l,(mf,mn,mu,()),DY g l ⟨mf,mn,mu⟩ i,A1<|tw g l<i,(i:Int),())) l.length (λi hi=> ?_) (by simp[fC]);have hx:=Au hi;have hr:=Zg g l ⟨mf,mn,mu⟩ i;unfold fC;simp only[AU hi,B9 hi,FL,YZ,B4 hi (by omega:l.length<=9223372036854775807),Fz hx,Bh,CN,DT,BG<|show(DY g l ⟨mf,mn,mu⟩ i).length+1<=4294967296 by omega];rcases IX i (tw g l) with hlt|heq|hgt
  .have h1:bef mf mn l[i].mf l[i].mn=A3:=by simpa[g] using VI g hlt hx
   have h2:A1 (tw g l<i)=A3:=by simp;omega
   have h3:A1 (tw g l<i+1)=A3:=by simp;omega
   simp only[h1,h2,h3,Im,AK,A5,D8,D0,Bc,A7,Bj,FL,Fz hx,AU hi,BG<|show(DY g l ⟨mf,mn,mu⟩ i).length+1<=4294967296 by omega,aIC hx hlt,B4 hi (by omega:l.length<=9223372036854775807)]
  .have hx2:l[tw g l]? =I l[i]:=by rw[← heq];exact hx
   have h1:bef mf mn l[i].mf l[i].mn=U:=by simpa[g] using VJ g hx2
   have h2:A1 (tw g l<i)=A3:=by simp;omega
   have h3:A1 (tw g l<i+1)=U:=by simp;omega
   have h4:DY g l ⟨mf,mn,mu⟩ i++[⟨mf,mn,mu⟩]++[l[i]]=DY g l ⟨mf,mn,mu⟩ (i+1):=aIE hx heq;simp only[h1,h2,h3,h4,Im,AK,A5,D8,D0,Dq,Bj,FL,Fz hx,AU hi,B0,Bh,CN,DT,BG<|show(DY g l ⟨mf,mn,mu⟩ i).length+1+1<=4294967296 by omega,B4 hi (by omega:l.length<=9223372036854775807)]
  .have h2:A1 (tw g l<i)=U:=by simp;omega
   have h3:A1 (tw g l<i+1)=U:=by simp;omega
   simp only[h2,h3,Hl,AF,A5,AS,A7,Bj,FL,Fz hx,AU hi,BG<|show(DY g l ⟨mf,mn,mu⟩ i).length+1<=4294967296 by omega,aID hx hgt,B4 hi (by omega:l.length<=9223372036854775807)]
 unfold Se;simp only[h,CB];have he:=aGu g l ⟨mf,mn,mu⟩;have hr:=Zg g l ⟨mf,mn,mu⟩ l.length;unfold Pv;show _=I ((ins g l _,()),());rw[← he];by_cases hc:tw g l<l.length
 .simp[hc]
 .simp[hc,BG<|show(DY g l ⟨mf,mn,mu⟩ l.length).length+1<=4294967296 by omega]
def KK(t:Int)(l:List Mark):List Mark:=l.filter λx=>A1<|t<x.mu
def Yc{α:Type}{l:List α}{f:α->Bool}{i:Nat}{x:α}(h:l[i]? =I x):(l.take<|i+1).filter f=(l.take i).filter f++(if f x then [x] else []):=by
 rw[← ZZ h,Rl];congr 1;cases hf:f x<;>simp[hf]
def Yy{α:Type}{l:List α}{f:α->Bool}{i:Nat}:((l.take i).filter f).length<=l.length:=by
 have:=J4 f<|l.take i;simp at this;omega
def anv{id ti nx t:Int}{held:List A6}{marks:List Mark}{inbox:List A6}(sm:De held marks inbox):j9 ((id,ti,nx,held,marks,inbox,()),t,())=I (((id,t,nx,HQ t held,KK t marks,inbox,()),()),()):=by
 have hl:=sm.hl;have ml:=sm.ml;have h0:vA (t,(id,ti,nx,held,marks,inbox,()),(0,0,0,[],[],[],()),(id,t,nx,[],[],inbox,()),held,(held.length:Int),0,())=I (.inr (t,(id,ti,nx,held,marks,inbox,()),(0,0,0,[],[],[],()),(id,t,nx,HQ t held,[],inbox,()),())):=by
  rw[show HQ t held=(held.take held.length).filter (λx=>A1<|t<x.un) by rw[E8];rfl];refine CG (λi=>(t,(id,ti,nx,held,marks,inbox,()),(0,0,0,[],[],[],()),(id,t,nx,(held.take i).filter λx=>A1<|t<x.un,[],inbox,()),held,(held.length:Int),(i:Int),())) held.length (λi hi=> ?_) (by simp[gz]);have hx:=Au hi;have hr:=Yy (l:=held) (f:=λx=>A1<|t<x.un) (i:=i);unfold gz;simp only[AU hi,B9 hi,Ch,DH hx,B4 hi (by omega:held.length<=9223372036854775807),Yc hx,Bh,CN,DT,BG<|show((held.take i).filter λx=>A1<|t<x.un).length+1<=4294967296 by omega];by_cases hc:t<held[i].un<;>simp[hc]
 have h1:ui (t,(0,0,0,[],[],[],()),(id,t,nx,HQ t held,[],inbox,()),marks,(marks.length:Int),0,())=I (.inr ((0,0,0,[],[],[],()),(id,t,nx,HQ t held,KK t marks,inbox,()),())):=by
  rw[show KK t marks=(marks.take marks.length).filter (λx=>A1<|t<x.mu) by rw[E8];rfl];refine CG (λi=>(t,(0,0,0,[],[],[],()),(id,t,nx,HQ t held,(marks.take i).filter λx=>A1<|t<x.mu,inbox,()),marks,(marks.length:Int),(i:Int),())) marks.length (λi hi=> ?_) (by simp[gy]);have hx:=Au hi;have hr:=Yy (l:=marks) (f:=λx=>A1<|t<x.mu) (i:=i);unfold gy;simp only[AU hi,B9 hi,FL,Fz hx,B4 hi (by omega:marks.length<=9223372036854775807),Yc hx,Bh,CN,DT,BG<|show((marks.take i).filter λx=>A1<|t<x.mu).length+1<=4294967296 by omega];by_cases hc:t<marks[i].mu<;>simp[hc]
 unfold j9;simp only[h0,h1,CB]
def amq{id ti nx t:Int}{held:List A6}{marks:List Mark}{inbox:List A6}(sm:De held marks inbox):ic ((id,ti,nx,held,marks,inbox,()),t,())=I (((id,t,nx,HQ t held,KK t marks,inbox,()),()),()):=by
 have hl:=sm.hl;have ml:=sm.ml;have h0:um (t,(id,ti,nx,held,marks,inbox,()),(0,0,0,[],[],[],()),[],0,())=I (.inr (t,(id,ti,nx,held,marks,inbox,()),(0,0,0,[],[],[],()),HQ t held,())):=by
  rw[show HQ t held=(held.take held.length).filter (λx=>A1<|t<x.un) by rw[E8];rfl];refine CG (λi=>(t,(id,ti,nx,held,marks,inbox,()),(0,0,0,[],[],[],()),(held.take i).filter λx=>A1<|t<x.un,(i:Int),())) held.length (λi hi=> ?_) (by simp[iL]);have hx:=Au hi;have hr:=Yy (l:=held) (f:=λx=>A1<|t<x.un) (i:=i);unfold iL;simp only[AU hi,B9 hi,Ch,DH hx,B4 hi (by omega:held.length<=9223372036854775807),Yc hx,Bh,CN,DT,BG<|show((held.take i).filter λx=>A1<|t<x.un).length+1<=4294967296 by omega];by_cases hc:t<held[i].un<;>simp[hc]
 have h1:uk (t,(id,ti,nx,held,marks,inbox,()),(0,0,0,[],[],[],()),HQ t held,[],0,())=I (.inr (t,(id,ti,nx,held,marks,inbox,()),(0,0,0,[],[],[],()),HQ t held,KK t marks,())):=by
  rw[show KK t marks=(marks.take marks.length).filter (λx=>A1<|t<x.mu) by rw[E8];rfl];refine CG (λi=>(t,(id,ti,nx,held,marks,inbox,()),(0,0,0,[],[],[],()),HQ t held,(marks.take i).filter λx=>A1<|t<x.mu,(i:Int),())) marks.length (λi hi=> ?_) (by simp[iK]);have hx:=Au hi;have hr:=Yy (l:=marks) (f:=λx=>A1<|t<x.mu) (i:=i);unfold iK;simp only[AU hi,B9 hi,FL,Fz hx,B4 hi (by omega:marks.length<=9223372036854775807),Yc hx,Bh,CN,DT,BG<|show((marks.take i).filter λx=>A1<|t<x.mu).length+1<=4294967296 by omega];by_cases hc:t<marks[i].mu<;>simp[hc]
 unfold ic;simp only[h0,h1,CB]
def Eh(l:List A6)(i:Nat):List A6:=l.take i++l.drop (i+1)
def ant{l:List A6}{i:Nat}(hl:l.length<=1048576)(hi:i<l.length):T6 (l,(i:Int),())=I ((Eh l i,()),()):=by
 unfold T6;have h1:(A1 (0<=(i:Int))&&A1 ((i:Int)<=(l.length:Int)))=U:=by simp;omega
 have h2:(A1 (0<=((i+1:Nat):Int))&&A1 (((i+1:Nat):Int)<=(l.length:Int)))=U:=by simp;omega
 simp only[B4 hi (by omega:l.length<=9223372036854775807),h1,h2,A5,BZ,En,CN,DT,DU,ES];rw[A8<|BG J,A8<|BG J];rfl
end Go.VS
namespace Go.VS
open Go
def B_L(s:A4):B (L s)=s:=GG rfl
def Cd(l:List UInt8):Prop:=∀b∈l,b≠32
def ME:∀(l:List UInt8),Cd l\/ ∃w r,Cd w/\l=w++32::r
 | []=> .inl (λ_ h=>by cases h)
 | b::l=>by
  by_cases h:b=32
  .exact .inr ⟨[],l,(λ_ h=>by cases h),by rw[h];rfl⟩
  .rcases ME l with h1|⟨w,r,h1,h2⟩
   .refine .inl (λx hx=> ?_);rcases Bo.1 hx with rfl|hx
    .exact h
    .exact h1 x hx
   .refine .inr ⟨b::w,r,λx hx=> ?_,by rw[h2];rfl⟩;rcases Bo.1 hx with rfl|hx
    .exact h
    .exact h1 x hx
def qV:∀ {l:List UInt8},Cd l->Lib.index l [32]= -1
 | [],_=>rfl
 | b::l,h=>by
  rw[Ux];unfold Lib.indexByte;have h1:=h b Av;rw[AD<|by simpa using h1,← Ux,qV λx hx=>h x<|An _ hx];rfl
def qW:∀ {w r:List UInt8},Cd w->Lib.index (w++32::r) [32]=w.length
 | [],r,_=>by rw[Ux];rfl
 | b::w,r,h=>by
  rw[Ux,Lf];unfold Lib.indexByte;have h1:=h b Av;rw[AD<|by simpa using h1,← Ux,qW λx hx=>h x<|An _ hx,AD<|by simp];simp
def azG{l:List UInt8}(h:Cd l):Fp l [32]=(l,[],A3):=by
 unfold Fp;rw[qV h,AD J]
def azH{w r:List UInt8}(h:Cd w):Fp (w++32::r) [32]=(w,r,U):=by
 unfold Fp;rw[qW h,A8 J];simp
def awg{s:A4}(hs:s.size<=1048576)(h:Cd (L s)):XS (s,B [32],())=I ((s,noB,A3,()),()):=by
 show Q2 _=_;unfold Q2;rw[A8 (by show s.size<_;omega)];show I ((B (Fp (L s) [32]).1,B (Fp (L s) [32]).2.1,(Fp (L s) [32]).2.2,()),())=_;rw[azG h];show I ((B<|L s,noB,A3,()),())=_;rw[B_L]
def awh{s:A4}{w r:List UInt8}(hs:s.size<=1048576)(h:Cd w)(e:L s=w++32::r):XS (s,B [32],())=I ((B w,B r,U,()),()):=by
 show Q2 _=_;unfold Q2;rw[A8 (by show s.size<_;omega)];show I ((B (Fp (L s) [32]).1,B (Fp (L s) [32]).2.1,(Fp (L s) [32]).2.2,()),())=_;rw[e,azH h]
def re{s:A4}{i:Nat}:A1 (bt s i=32)=A1 ((L s).getD i 0=32):=by
 rw[decide_eq_decide,KI];exact⟨λh=>Rm.1 (by show _=32;omega),λh=>by rw[h];rfl⟩
def aGG{s:A4}(hs:s.size<=1048576):uz (s,0,())=I (if GF s.size (λi=>A1<|bt s i=32)<0 then .inr (s,()) else
  .inl (s.extract 0 (GF s.size λi=>A1<|bt s i=32).toNat,s.extract ((GF s.size λi=>A1<|bt s i=32).toNat+1) s.size,())):=
 Qo (λi=>(s,(i:Int),())) s.size (λi=>A1<|bt s i=32) (λi=>(s.extract 0 i.toNat,s.extract (i.toNat+1) s.size,())) (s,()) (λi hi=>by
  have h1:(A1 (0<=(i:Int))&&A1 ((i:Int)<=(s.size:Int)))=U:=by simp;omega
  have h2:(A1 (0<=((i+1:Nat):Int))&&A1 (((i+1:Nat):Int)<=(s.size:Int)))=U:=by simp;omega
  unfold iY;simp only[AU hi,B9 hi,B4 hi (by omega:s.size<=9223372036854775807),h1,h2,A5,BZ];cases A1 (bt s i=32)<;>rfl) (by simp[iY])
def avT{n:Nat}{p:Nat->Bool}(h:∀i,i<n->p i=A3):GF n p= -1:=by
 rcases GR n p with⟨h1,_⟩|⟨i,h1,h2,h3,_⟩
 .exact h1
 .rw[h i h2]at h3;cases h3
def aId{n i:Nat}{p:Nat->Bool}(hi:i<n)(hp:p i=U)(h:∀j,j<i->p j=A3):GF n p=i:=by
 rcases GR n p with⟨_,h1⟩|⟨j,h1,h2,h3,h4⟩
 .rw[h1 i hi]at hp;cases hp
 .rcases IX i j with h5|h5|h5
  .rw[h4 i h5]at hp;cases hp
  .rw[h1,h5]
  .rw[h j h5]at h3;cases h3
def avn{w r:List UInt8}{b:UInt8}:(w++b::r).getD w.length 0=b:=by simp
def aa9{w r:List UInt8}{j:Nat}(h:j<w.length):(w++r).getD j 0∈w:=by
 rw[BC,IT h,Au h];exact CV h
def avm{l:List UInt8}{j:Nat}(h:j<l.length):l.getD j 0∈l:=by
 rw[BC,Au h];exact CV h
def ash{s:A4}(hs:s.size<=1048576)(h:Cd (L s)):Oa (s,())=I ((s,noB,()),()):=by
 unfold Oa;simp only[aGG hs];rw[avT (λi hi=>by rw[re];simpa using h _<|avm (by rw[B2];exact hi))];rfl
def asi{s:A4}{w r:List UInt8}(hs:s.size<=1048576)(h:Cd w)(e:L s=w++32::r):Oa (s,())=I ((B w,B r,()),()):=by
 have hl:s.size=w.length+1+r.length:=by
  have:=congrArg Jl e;rw[B2]at this;simp at this;omega
 unfold Oa;simp only[aGG hs];rw[aId (i:=w.length) J (by rw[re,e,avn];rfl) (λj hj=>by rw[re,e];simpa using h _<|aa9 hj),AD J];have e1:s.extract 0 w.length=B w:=GG (by rw[EK,e,L_B];simp);have e2:s.extract (w.length+1) s.size=B r:=GG (by rw[EK,e,L_B,hl,show w++32::r=(w++[32])++r by simp,Ro<|by simp,show w.length+1+r.length - (w.length+1)=r.length by omega,E8]);simp only[G8,BZ,e1,e2]
def wr(n:A6):A4:=((((((((Bb n.fr++B [32])++Bb n.nu)++B [32])++Bb n.to)++B [32])++Bb n.un)++B [32])++n.tx)
def wrL(n:A6):List UInt8:=BA n.fr++32::(BA n.nu++32::(BA n.to++32::(BA n.un++32::L n.tx)))
def VG(n:Int):L (Bb n)=BA n:=rfl
def SM(n:A6):L (wr n)=wrL n:=by
 unfold wr wrL;simp only[Ge,VG,L_B,C9,Lf,En]
def arn{n:Int}{k:Nat}(h0:0<=n)(h1:n<10 ^ k)(hk:1<=k):BA n=dcm n.toNat/\(BA n).length<=k:=by
 obtain⟨u,rfl⟩:=HZ h0;rw[JQ];refine⟨rfl,ML k u hk ?_⟩;have:((10 ^ k:Nat):Int)=(10:Int) ^ k:=by simp
 omega
structure VZ (n:A6):Prop where
 f0:0<=n.fr
 f1:n.fr<=3
 t0:0<=n.to
 t1:n.to<=3
 n0:1<=n.nu
 n1:n.nu<=99
 u0:1<=n.un
 u1:n.un<=999
 s0:1<=n.tx.size
 s1:n.tx.size<=24
def IF{n:A6}(h:B1 n=U):VZ n:=by
 unfold B1 Lk at h;simp only[AG,Ad]at h;obtain⟨⟨a,b⟩,⟨c,d⟩,⟨e,f⟩,⟨g,i⟩,⟨j,k⟩,_⟩:=h;exact⟨a,b,c,d,e,f,g,i,J,J⟩
def NO{n:Int}{k:Nat}(h0:0<=n)(h1:n<10 ^ k)(hk:1<=k):(Bb n).size<=k:=(arn h0 h1 hk).2
def Wc{fr nu tt un:Int}{tx:A4}(hs:tx.size<=1048576):NB ((fr,nu,tt,un,tx,()),())=I ((if B1 ⟨fr,nu,tt,un,tx⟩ then wr ⟨fr,nu,tt,un,tx⟩ else noB,()),()):=by
 unfold NB;simp only[Xe hs,A9];rcases tf (B1 ⟨fr,nu,tt,un,tx⟩) with h|h
 .have hf:=IF h;obtain⟨f0,f1,t0,t1,n0,n1,u0,u1,s0,s1⟩:=hf;simp only at f0 f1 t0 t1 n0 n1 u0 u1 s0 s1;have a1:=NO (n:=fr) (k:=1) f0 J J;have a2:=NO (n:=nu) (k:=2) J J J;have a3:=NO (n:=tt) (k:=1) t0 J J;have a4:=NO (n:=un) (k:=3) J J J;have b:(B [32]).size=1:=rfl;simp only[h,AF,A7,JU (n:=fr) J J,JU (n:=nu) J J,JU (n:=tt) J J,JU (n:=un) J J,A9,C5,b]
  repeat rw[A8 (by rw[decide_eq_true_eq];omega)]
  rfl
 .simp only[h,AK,A5,A7]
def Wm{fr nu tt un:Int}{tx:A4}(hs:tx.size<=1048576):NA ((fr,nu,tt,un,tx,()),())=I ((if B1 ⟨fr,nu,tt,un,tx⟩ then wr ⟨fr,nu,tt,un,tx⟩ else noB,()),()):=by
 unfold NA;simp only[XU hs,A9];rcases tf (B1 ⟨fr,nu,tt,un,tx⟩) with h|h
 .have hf:=IF h;obtain⟨f0,f1,t0,t1,n0,n1,u0,u1,s0,s1⟩:=hf;simp only at f0 f1 t0 t1 n0 n1 u0 u1 s0 s1;have a1:=NO (n:=fr) (k:=1) f0 J J;have a2:=NO (n:=nu) (k:=2) J J J;have a3:=NO (n:=tt) (k:=1) t0 J J;have a4:=NO (n:=un) (k:=3) J J J;have b:(B [32]).size=1:=rfl;simp only[h,AF,A7,G7 (n:=fr) J J,G7 (n:=nu) J J,G7 (n:=tt) J J,G7 (n:=un) J J,A9,C5,b]
  repeat rw[A8 (by rw[decide_eq_true_eq];omega)]
  rfl
 .simp only[h,AK,A5,A7]
def O5:List UInt8->Option (List UInt8×List UInt8)
 | []=>A0
 | b::l=>if b=32 then I ([],l) else(O5 l).map λp=>(b::p.1,p.2)
def UN:∀ {l:List UInt8},Cd l->O5 l=A0
 | [],_=>rfl
 | b::l,h=>by
  unfold O5;rw[AD<|h b Av,UN λx hx=>h x<|An _ hx];rfl
def UO:∀ {w r:List UInt8},Cd w->O5 (w++32::r)=I (w,r)
 | [],r,_=>rfl
 | b::w,r,h=>by
  rw[Lf];unfold O5;rw[AD<|h b Av,UO λx hx=>h x<|An _ hx];rfl
def wd(s:A4):A4×A4:=match O5 (L s) with
 | some p=>(B p.1,B p.2)
 | none=>(s,noB)
def VH{s:A4}(h:Cd (L s)):wd s=(s,noB):=by unfold wd;rw[UN h]
def La{s:A4}{w r:List UInt8}(h:Cd w)(e:L s=w++32::r):wd s=(B w,B r):=by unfold wd;rw[e,UO h]
def UC(s:A4):(wd s).1.size<=s.size/\(wd s).2.size<=s.size:=by
 rcases ME (L s) with h|⟨w,r,h,e⟩
 .rw[VH h];exact⟨Az _,D7 _⟩
 .rw[La h e];have:=congrArg Jl e;rw[B2]at this;simp at this;rw[BU,BU];exact⟨by show w.length<=_;omega,by show r.length<=_;omega⟩
def aaK{s:A4}(hs:s.size<=1048576):Oa (s,())=I (((wd s).1,(wd s).2,()),()):=by
 rcases ME (L s) with h|⟨w,r,h,e⟩
 .rw[VH h,ash hs h]
 .rw[La h e,asi hs h e]
def az0{s:A4}(hs:s.size<=1048576):XS (s,B [32],())=I (((wd s).1,(wd s).2,(O5<|L s).isSome,()),()):=by
 rcases ME (L s) with h|⟨w,r,h,e⟩
 .rw[VH h,awg hs h,UN h];rfl
 .rw[La h e,awh hs h e,e,UO h];rfl
def EL(s:A4):Nat->A4
 | 0=>s
 | i+1=>(wd<|EL s i).2
def Ar(s:A4)(i:Nat):A4:=(wd<|EL s i).1
def Yh(s:A4):∀i,(EL s i).size<=s.size
 | 0=>Az _
 | i+1=>Ce (UC<|EL s i).2 (Yh s i)
def arA(s:A4)(i:Nat):(Ar s i).size<=s.size:=Ce (UC _).1<|Yh s i
def aaR{s:A4}{n:Nat}(hs:s.size<=1048576)(hn:n<=10):Qb (s,(n:Int),())=I (((BB n).map λi=>Ai<|Ar s i,EL s n,()),()):=by
 have h:vO (s,(n:Int),[],0,())=I (.inr (EL s n,(BB n).map λi=>Ai<|Ar s i,())):=by
  refine CG (λi=>(EL s i,(n:Int),(BB i).map λi=>Ai<|Ar s i,(i:Int),())) n (λi hi=> ?_) (by simp[iZ]);have h1:=Yh s i;have h2:=arA s i;unfold iZ;simp only[B9 hi,aaK<|show(EL s i).size<=1048576 by omega,A9,A5,mG (show(wd<|EL s i).1.size<=9223372036854775807 by have:=(UC<|EL s i).1;omega),
   Dh,List.length_range,Bh,CN,DT,BG<|show i+1<=4294967296 by omega,B4 hi (by omega:n<=9223372036854775807),IU,Eo,Db,Jm]
  rfl
 unfold Qb;simp only[h,CB]
def aFc{ws:List A4}(hl:ws.length<=1048577)(hw:∀w∈ws,w.size<=1048576):
  Sr (ws,())=I ((if As ws.length (λi=>(Ax<|ws.getD i noB).2) then(ws.map λw=>(Ax w).1,U,()) else([],A3,())),()):=by
 have h:uN ([],ws,(ws.length:Int),0,())=I (if As ws.length (λi=>(Ax<|ws.getD i noB).2) then .inr (ws.map λw=>(Ax w).1,()) else .inl ([],A3,())):=by
  rw[show ws.map (λw=>(Ax w).1)=(ws.take ws.length).map (λw=>(Ax w).1) by rw[E8]];refine oA (λi=>((ws.take i).map λw=>(Ax w).1,ws,(ws.length:Int),(i:Int),())) ws.length (λi=>(Ax<|ws.getD i noB).2) ([],A3,()) ((ws.take ws.length).map λw=>(Ax w).1,()) (λi hi _=> ?_) (λ_=>by simp[fj]);have hx:=Au hi;have hs:=hw _<|CV hi;unfold fj;simp only[AU hi,B9 hi,PI,JR hx,jH<|show ws[i].size<=9223372036854775807 by omega,A9,Dh,DU,Bh,CN,DT,
   BG (show min i ws.length+1<=4294967296 by omega),B4 hi (by omega:ws.length<=9223372036854775807)]
  rw[← ZZ hx,Eo];rcases tf (Ax ws[i]).2 with h|h<;>simp[h]
 unfold Sr;simp only[h];cases As ws.length (λi=>(Ax<|ws.getD i noB).2)<;>rfl
def MC{w r:List UInt8}{k:Nat}(h:Cd w):Gn [32] 0 (k+1) (w++32::r)=w::Gn [32] 0 k r:=by
 conv=>lhs;unfold Gn
 rw[qW h,AD<|by simp];show(w++32::r).take (w.length+0)::Gn [32] 0 k ((w++32::r).drop<|w.length+1)=_;rw[I0,Pg rfl,show w++32::r=(w++[32])++r by simp,Ro<|by simp]
def ZY{l:List UInt8}{k:Nat}(h:Cd l):Gn [32] 0 k l=[l]:=by
 cases k with
 | zero=>rfl
 | succ k=>
  unfold Gn;rw[qV h];rfl
def join:List (List UInt8)->List UInt8
 | []=>[]
 | [x]=>x
 | x::y::l=>x++32::join (y::l)
def atU(k:Nat)(l:List UInt8):∃x m,Gn [32] 0 k l=x::m:=by
 cases k with
 | zero=>exact⟨l,[],rfl⟩
 | succ k=>
  rcases ME l with h|⟨w,r,h,rfl⟩
  .exact⟨l,[],ZY h⟩
  .exact⟨w,_,MC h⟩
def mV:∀(k:Nat) (l:List UInt8),join (Gn [32] 0 k l)=l
 | 0,_=>rfl
 | k+1,l=>by
  rcases ME l with h|⟨w,r,h,rfl⟩
  .rw[ZY h];rfl
  .rw[MC h];have ih:=mV k r;obtain⟨x,m,e⟩:=atU k r;rw[e]at ih ⊢;show w++32::join (x::m)=_;rw[ih]
def azW{ps:List A4}{ls:List (List UInt8)}(h:ps.map (·.data.toList)=ls):ps=ls.map B:=by
 subst h;rw[IV]
 conv=>lhs;rw[← bR ps]
 exact H9 λs _=>(B_L s).symm
def aHv(k:Nat)(s:A4):JD (B [32]) 0 k s=(Gn [32] 0 k<|L s).map B:=azW<|Lib.splitB_data (B [32]) 0 k s
def axF{s:A4}(hs:s.size<=1048576):iD (s,B [32],())=I (((Gn [32] 0 ((L s).count 32)<|L s).map B,()),()):=by
 show V4 _=_;unfold V4;rw[A8 ⟨by show s.size<_;omega,by show 1<=1;omega⟩];show I ((JD (B [32]) 0 (Lib.count (L s) [32]) s,()),())=_;rw[aHv,Lib.count_one]
def avF{s:A4}(hs:s.size<=1048576):vj (s,B [32],5,())=I (((Gn [32] 0 (min 5 (s.size+1) - 1)<|L s).map B,()),()):=by
 show UB _=_;unfold UB;rw[A8 ⟨by show s.size<_;omega,by show 1<=1;omega,by show(1:Int)<=5;omega,by show(5:Int)<=_;omega⟩];show I ((JD (B [32]) 0 (min 5 (s.size+1) - 1) s,()),())=_;rw[aHv]
def aud(u:Nat):Cd (dcm u):=λb hb h=>by
 have:=Ad.1<|bq (u+1) u J b hb;subst h;simp at this
def Hm{n:Int}(h0:0<=n):Cd (BA n):=by
 obtain⟨u,rfl⟩:=HZ h0;rw[JQ];exact aud u
def NL{n:Int}(h0:0<=n)(h1:n<10000):Ai (B<|BA n)=n:=by
 obtain⟨u,rfl⟩:=HZ h0;rw[JQ];exact qT (by rw[BU];exact ML 4 u J J)<|L_B _
def JL{n:Int}(h0:0<=n)(h1:n<100000):Ax (B<|BA n)=(n,U):=by
 obtain⟨u,rfl⟩:=HZ h0;rw[JQ];exact nL (by rw[BU];exact ML 5 u J J)<|L_B _
open Classical in
def DP (s:A4):Option A6:=if h:∃n,B1 n=U/\wr n=s then I (Nt h) else A0
def KG{s t:A4}{x:Int}{r:List UInt8}(h:wd s=(B<|BA x,B r)):(wd s).1=B (BA x)/\L (wd s).2=r:=by rw[h];exact⟨rfl,rfl⟩
def q9{n:A6}(hf:VZ n){s:A4}(e:L s=wrL n):Ar s 0=B (BA n.fr)/\Ar s 1=B (BA n.nu)/\Ar s 2=B (BA n.to)/\Ar s 3=B (BA n.un)/\EL s 4=n.tx:=by
 obtain⟨f0,f1,t0,t1,n0,n1,u0,u1,s0,s1⟩:=hf;unfold wrL at e;have e0:=La (Hm f0) e;have c1:L (EL s 1)=_:=(KG (t:=s) e0).2;have e1:=La (Hm<|show 0<=n.nu by omega) c1;have c2:L (EL s 2)=_:=(KG (t:=s) e1).2;have e2:=La (Hm t0) c2;have c3:L (EL s 3)=_:=(KG (t:=s) e2).2;have e3:=La (Hm<|show 0<=n.un by omega) c3;have c4:L (EL s 4)=_:=(KG (t:=s) e3).2;exact⟨(KG (t:=s) e0).1,(KG (t:=s) e1).1,(KG (t:=s) e2).1,(KG (t:=s) e3).1,GG c4⟩
def auF{n:A6}(hf:VZ n):Ar (wr n) 0=B (BA n.fr)/\Ar (wr n) 1=B (BA n.nu)/\Ar (wr n) 2=B (BA n.to)/\Ar (wr n) 3=B (BA n.un)/\EL (wr n) 4=n.tx:=q9 hf<|SM n
def auc{n m:A6}(h1:n.fr=m.fr)(h2:n.nu=m.nu)(h3:n.to=m.to)(h4:n.un=m.un)(h5:n.tx=m.tx):n=m:=by
 cases n;cases m;simp only at h1 h2 h3 h4 h5;subst h1 h2 h3 h4 h5;rfl
def aI{x y:Int}(h0:0<=x)(h1:x<10000)(h2:0<=y)(h3:y<10000)(h:B (BA x)=B (BA y)):x=y:=by
 rw[← NL h0 h1,← NL h2 h3,h]
def ayc{n m:A6}(hn:B1 n=U)(hm:B1 m=U)(h:wr n=wr m):n=m:=by
 have fn:=IF hn;have fm:=IF hm;have a:=q9 fn (s:=wr n)<|SM n;have b:=q9 fm (s:=wr n) (by rw[h];exact SM m);clear h hn hm;generalize wr n=s at a b;obtain⟨a0,a1,a2,a3,a4⟩:=a;obtain⟨b0,b1,b2,b3,b4⟩:=b;obtain⟨f0,f1,t0,t1,n0,n1,u0,u1,s0,s1⟩:=fn;obtain⟨g0,g1,v0,v1,m0,m1,w0,w1,z0,z1⟩:=fm;exact auc (aI J J J J<|a0.symm.trans b0) (aI J J J J<|a1.symm.trans b1) (aI J J J J<|a2.symm.trans b2)
  (aI J J J J<|a3.symm.trans b3) (a4.symm.trans b4)
def Qm{n:A6}(h:B1 n=U):DP (wr n)=I n:=by
 unfold DP;have hex:∃m,B1 m=U/\wr m=wr n:=⟨n,h,rfl⟩;rw[dif_pos hex];have:=J9 hex;rw[ayc this.1 h this.2]
def KB{s:A4}{n:A6}(h:DP s=I n):B1 n=U/\wr n=s:=by
 unfold DP at h;split at h
 .rename_i hex;cases h;exact J9 hex
 .cases h
def qt{n:A6}(hf:VZ n):9<=(wr n).size:=by
 obtain⟨f0,f1,t0,t1,n0,n1,u0,u1,s0,s1⟩:=hf;have h:∀ {x:Int},0<=x->1<=(BA x).length:=fun {x} h0=>by
  obtain⟨u,rfl⟩:=HZ h0;rw[JQ];exact List.length_pos_iff.2<|rR u
 rw[← B2,SM];unfold wrL;have a:=h f0;have b:=h (show 0<=n.nu by omega);have c:=h t0;have d:=h (show 0<=n.un by omega);have e:(L n.tx).length=n.tx.size:=rfl;simp only[B0,Bh];omega
def VM(o:Option A6):(Int×Int×Int×Int×A4×A2)×Bool×A2:=match o with
 | some n=>((n.fr,n.nu,n.to,n.un,n.tx,()),U,())
 | none=>((0,0,0,0,noB,()),A3,())
def aAc{s:A4}(hs:s.size<=1048576):T3 (s,())=I (VM<|DP s,()):=by
 unfold T3;have e4:Qb (s,4,())=I (([Ai<|Ar s 0,Ai<|Ar s 1,Ai<|Ar s 2,Ai<|Ar s 3],EL s 4,()),()):=aaR (n:=4) hs J;have hr:=Yh s 4;have i0:inb 0 [Ai<|Ar s 0,Ai<|Ar s 1,Ai<|Ar s 2,Ai<|Ar s 3].length=U:=rfl;have i1:inb 1 [Ai<|Ar s 0,Ai<|Ar s 1,Ai<|Ar s 2,Ai<|Ar s 3].length=U:=rfl;have i2:inb 2 [Ai<|Ar s 0,Ai<|Ar s 1,Ai<|Ar s 2,Ai<|Ar s 3].length=U:=rfl;have i3:inb 3 [Ai<|Ar s 0,Ai<|Ar s 1,Ai<|Ar s 2,Ai<|Ar s 3].length=U:=rfl;have r0: @rd Int (dfl .int) [Ai<|Ar s 0,Ai<|Ar s 1,Ai<|Ar s 2,Ai<|Ar s 3] 0=Ai (Ar s 0):=rfl;have r1: @rd Int (dfl .int) [Ai<|Ar s 0,Ai<|Ar s 1,Ai<|Ar s 2,Ai<|Ar s 3] 1=Ai (Ar s 1):=rfl;have r2: @rd Int (dfl .int) [Ai<|Ar s 0,Ai<|Ar s 1,Ai<|Ar s 2,Ai<|Ar s 3] 2=Ai (Ar s 2):=rfl;have r3: @rd Int (dfl .int) [Ai<|Ar s 0,Ai<|Ar s 1,Ai<|Ar s 2,Ai<|Ar s 3] 3=Ai (Ar s 3):=rfl;simp only[e4,A9,i0,i1,i2,i3,r0,r1,r2,r3,Wm<|show(EL s 4).size<=1048576 by omega,D8,D0,A5,show ∀c,Ah c U=U from λc=>rfl];generalize hx:(⟨Ai<|Ar s 0,Ai<|Ar s 1,Ai<|Ar s 2,Ai<|Ar s 3,EL s 4⟩:A6)=x at *;by_cases hc:s≠noB/\(if B1 x then wr x else noB)=s
 .obtain⟨h1,h2⟩:=hc;have hok:B1 x=U:=by
   rcases tf (B1 x) with h|h
   .exact h
   .rw[h]at h2;exact absurd h2.symm h1
  rw[hok]at h2;simp only[A5]at h2;rw[AD<|by simp[h1,hok,h2],← h2,Qm hok];subst hx;simp only[h2];rfl
 .rw[A8 (by
   by_cases h1:s=noB
   .simp[h1]
   .have h2:¬(if B1 x then wr x else noB)=s:=λh=>hc ⟨h1,h⟩;simp[h1,h2])]
  cases h:DP s with
  | none=>rfl
  | some n=>
   exfalso;obtain⟨h1,h2⟩:=KB h;have hf:=IF h1;obtain⟨a0,a1,a2,a3,a4⟩:=auF hf;have hsz:=qt hf;obtain⟨f0,f1,t0,t1,n0,n1,u0,u1,s0,s1⟩:=hf;rw[h2]at a0 a1 a2 a3 a4;rw[a0,a1,a2,a3,a4,NL J J,NL J J,NL J J,NL J J]at hx;have hx:n=x:=hx;subst hx;refine hc ⟨λe=> ?_,by rw[h1];exact h2⟩;rw[h2,e]at hsz;exact absurd hsz<|by decide
def atT{n:A6}(hf:VZ n):Gn [32] 0 4 (wrL n)=[BA n.fr,BA n.nu,BA n.to,BA n.un,L n.tx]:=by
 obtain⟨f0,f1,t0,t1,n0,n1,u0,u1,s0,s1⟩:=hf;unfold wrL;rw[MC<|Hm f0,MC<|Hm J,MC<|Hm t0,MC<|Hm J];rfl
def mU:∀(k:Nat) (l:List UInt8),∀p∈Gn [32] 0 k l,p.length<=l.length
 | 0,l,p,hp=>by
  obtain rfl:=CA.1 hp;exact Az _
 | k+1,l,p,hp=>by
  rcases ME l with h|⟨w,r,h,rfl⟩
  .rw[ZY h]at hp;obtain rfl:=CA.1 hp;exact Az _
  .rw[MC h]at hp;rcases Bo.1 hp with rfl|hp
   .simp
   .have:=mU k r p hp;simp;omega
def nD:∀(k:Nat) (l:List UInt8),(Gn [32] 0 k l).length<=k+1
 | 0,l=>Az _
 | k+1,l=>by
  rcases ME l with h|⟨w,r,h,rfl⟩
  .rw[ZY h];simp
  .rw[MC h];have:=nD k r;simp;omega
def ak1{s:A4}(hs:s.size<=1048576):XA (s,())=I (VM<|DP s,()):=by
 unfold XA;simp only[avF hs,A9];generalize hk:min 5 (s.size+1) - 1=k;have hsz:=mU k<|L s;have hln:=nD k<|L s;have hwr:∀n,DP s=I n->Gn [32] 0 k (L s)=[BA n.fr,BA n.nu,BA n.to,BA n.un,L n.tx]:=λn hn=>by
  obtain⟨h1,h2⟩:=KB hn;have:=qt<|IF h1;rw[h2]at this;obtain rfl:k=4:=J
  rw[← h2,SM];exact atT<|IF h1
 generalize Gn [32] 0 k (L s)=ps at *;by_cases h5:ps.length=5
 .match ps,h5 with
  | [p0,p1,p2,p3,p4],_=>
   have hb:∀p∈[p0,p1,p2,p3,p4],(B p).size<=1048576:=λp hp=>by
    have:=hsz p hp;rw[B2]at this;rw[BU];omega
   have e5:(!decide (((([p0,p1,p2,p3,p4]:List (List UInt8)).map B).length:Int)=5))=A3:=rfl;have e6:(A1 (0<=4)&&A1 ((4:Int)<=((([p0,p1,p2,p3,p4]:List (List UInt8)).map B).length:Int)))=U:=rfl;have e7:BS (AR 4) (([p0,p1,p2,p3,p4]:List (List UInt8)).map B)=[B p0,B p1,B p2,B p3]:=rfl;simp only[e5,e6,e7,A5,A7];rw[aFc (by simp) (λw hw=>by
    simp only[Bo,List.not_mem_nil,or_false]at hw;obtain rfl|rfl|rfl|rfl:=hw
    .exact hb p0 (by simp)
    .exact hb p1 (by simp)
    .exact hb p2 (by simp)
    .exact hb p3<|by simp)]
   have oH:As [B p0,B p1,B p2,B p3].length (λi=>(Ax<|[B p0,B p1,B p2,B p3].getD i noB).2)=((Ax<|B p0).2&&((Ax<|B p1).2&&((Ax<|B p2).2&&((Ax<|B p3).2&&U)))):=rfl;rw[oH];rcases tf ((Ax<|B p0).2&&((Ax<|B p1).2&&((Ax<|B p2).2&&((Ax<|B p3).2&&U)))) with ha|ha
   .rw[ha];simp only[A5,A9,AF,A7,Db,Jm];have i0:inb 0 [(Ax<|B p0).1,(Ax<|B p1).1,(Ax<|B p2).1,(Ax<|B p3).1].length=U:=rfl;have i1:inb 1 [(Ax<|B p0).1,(Ax<|B p1).1,(Ax<|B p2).1,(Ax<|B p3).1].length=U:=rfl;have i2:inb 2 [(Ax<|B p0).1,(Ax<|B p1).1,(Ax<|B p2).1,(Ax<|B p3).1].length=U:=rfl;have i3:inb 3 [(Ax<|B p0).1,(Ax<|B p1).1,(Ax<|B p2).1,(Ax<|B p3).1].length=U:=rfl;have i4:inb 4 [B p0,B p1,B p2,B p3,B p4].length=U:=rfl;have r0: @rd Int (dfl .int) [(Ax<|B p0).1,(Ax<|B p1).1,(Ax<|B p2).1,(Ax<|B p3).1] 0=(Ax<|B p0).1:=rfl;have r1: @rd Int (dfl .int) [(Ax<|B p0).1,(Ax<|B p1).1,(Ax<|B p2).1,(Ax<|B p3).1] 1=(Ax<|B p1).1:=rfl;have r2: @rd Int (dfl .int) [(Ax<|B p0).1,(Ax<|B p1).1,(Ax<|B p2).1,(Ax<|B p3).1] 2=(Ax<|B p2).1:=rfl;have r3: @rd Int (dfl .int) [(Ax<|B p0).1,(Ax<|B p1).1,(Ax<|B p2).1,(Ax<|B p3).1] 3=(Ax<|B p3).1:=rfl;have r4: @rd A4 (dfl .str) [B p0,B p1,B p2,B p3,B p4] 4=B p4:=rfl;have hp4:=hb p4 (by simp);simp only[i0,i1,i2,i3,i4,r0,r1,r2,r3,r4,A5,Xe hp4,Wc hp4,A9,D8,D0,show ∀c,Ah c U=U from λc=>rfl];generalize hx:(⟨(Ax<|B p0).1,(Ax<|B p1).1,(Ax<|B p2).1,(Ax<|B p3).1,B p4⟩:A6)=x at *;by_cases hc:B1 x=U/\wr x=s
    .obtain⟨h1,h2⟩:=hc;rw[AD<|by simp[h1,h2],← h2,Qm h1];subst hx;rfl
    .rw[A8 (by
      rcases tf (B1 x) with h1|h1
      .have h2:¬wr x=s:=λh=>hc ⟨h1,h⟩;simp[h1,h2]
      .simp[h1])]
     cases h:DP s with
     | none=>rfl
     | some n=>
      exfalso;obtain⟨h1,h2⟩:=KB h;have hf:=IF h1;have hp:=hwr n h;simp only[Mt,and_true]at hp;obtain⟨rfl,rfl,rfl,rfl,rfl⟩:=hp;obtain⟨f0,f1,t0,t1,n0,n1,u0,u1,s0,s1⟩:=hf;rw[JL J J,JL J J,JL J J,JL J J,B_L]at hx;have hx:n=x:=hx;subst hx;exact hc ⟨h1,h2⟩
   .rw[ha];simp only[A9,AK,A5,A7];cases h:DP s with
    | none=>rfl
    | some n=>
     exfalso;obtain⟨h1,h2⟩:=KB h;have hf:=IF h1;have hp:=hwr n h;simp only[Mt,and_true]at hp;obtain⟨rfl,rfl,rfl,rfl,rfl⟩:=hp;obtain⟨f0,f1,t0,t1,n0,n1,u0,u1,s0,s1⟩:=hf;rw[JL J J,JL J J,JL J J,JL J J]at ha;cases ha
 .have e5:(!decide (((ps.map B).length:Int)=5))=U:=by simp;omega
  simp only[e5,A5];cases h:DP s with
  | none=>rfl
  | some n=>
   have:=congrArg Jl<|hwr n h;simp at this;exact absurd this h5
abbrev KL:=Int×Int×Int×List A6×List Mark×List A6×A2
abbrev tK(k:AH):KL:=(k.id,k.ti,k.nx,k.held,k.marks,k.inbox,())
def B8(r:Option ((KL×Bool×A2)×A2))(o:Option AH):Prop:=match o with
 | some k=>r=I ((tK k,U,()),())
 | none=>∃t,r=I ((t,A3,()),())
def B8.no{t:KL}:B8 (I ((t,A3,()),())) A0:=⟨t,rfl⟩
def B8.eta{r:Option ((KL×Bool×A2)×A2)}{o:Option AH}(h:B8 r o):
  B8 (r.bind λr=>I (((r.1.1.1,r.1.1.2.1,r.1.1.2.2.1,r.1.1.2.2.2.1,r.1.1.2.2.2.2.1,r.1.1.2.2.2.2.2.1,()),r.1.2.1,()),())) o:=by
 cases o with
 | some k=>
  have:r=_:=h;subst this;rfl
 | none=>
  obtain⟨t,rfl⟩:=h;exact⟨t,rfl⟩
def B8.ite{c:Bool}{a b:Option ((KL×Bool×A2)×A2)}{x y:Option AH}(h1:c=U->B8 a x)(h2:c=A3->B8 b y):B8 (if c then a else b) (if c then x else y):=by
 cases c
 .exact h2 rfl
 .exact h1 rfl
def B8.neg{c:Bool}{t:KL}{b:Option ((KL×Bool×A2)×A2)}{y:Option AH}(h2:c=A3->B8 b y):B8 (if c then I ((t,A3,()),()) else b) (if c then A0 else y):=B8.ite (λ_=>B8.no) h2
def Ej(k:AH)(n:A6):Option AH:=
 if !B1 n then A0 else if A1 (n.un<=k.ti) then A0 else if A1 (0<=Ab k.held n.fr n.nu) then A0 else if A1 (0<=Ab k.inbox n.fr n.nu) then A0 else if A1 (0<=Bt k.marks n.fr n.nu) then A0 else
 if A1 (12<(k.held.length:Int)+k.marks.length+1) then A0 else
 if A1 (n.to=k.id) then I ⟨k.id,k.ti,k.nx,k.held,EN k.marks ⟨n.fr,n.nu,n.un⟩,E5 k.inbox n⟩ else I ⟨k.id,k.ti,k.nx,E5 k.held n,k.marks,k.inbox⟩
def aDJ{id ti nx fr nu tt un:Int}{tx:A4}{held:List A6}{marks:List Mark}{inbox:List A6}(sm:De held marks inbox)(hs:tx.size<=1048576):
  B8 (Xd ((id,ti,nx,held,marks,inbox,()),(fr,nu,tt,un,tx,()),())) (Ej ⟨id,ti,nx,held,marks,inbox⟩ ⟨fr,nu,tt,un,tx⟩):=by
 have hl:=sm.hl;have ml:=sm.ml;unfold Xd Ej;simp only[Xe hs,KA sm.hl,KA sm.il,TH sm.ml,jf sm.hl,jf sm.il,lb sm.ml,A9,
  Ac (n:=(held.length:Int)+marks.length) J J,Ac (n:=(held.length:Int)+marks.length+1) J J]
 exact B8.neg λ_=>B8.neg λ_=>B8.neg λ_=>B8.neg λ_=>B8.neg λ_=>B8.neg λ_=>B8.ite (λ_=>rfl) λ_=>rfl
def bV{l:List A6}{n:A6}(h:Ab l n.fr n.nu<0):Pu l n=E5 l n:=by
 refine aGc λx hx=> ?_;have hne:¬(x.fr=n.fr/\x.nu=n.nu):=λhc=>by
  rcases GR l.length (λi=>A1 ((nA l i).fr=n.fr)&&A1 ((nA l i).nu=n.nu)) with⟨_,h2⟩|⟨i,h1,_⟩
  .obtain⟨j,hj,rfl⟩:=Cy hx;have:=h2 j hj;rw[DH<|Au hj]at this;simp[hc.1,hc.2]at this
  .unfold Ab at h;omega
 unfold bef;rw[Ke];simp;omega
def qG{l:List Mark}{n:Mark}(h:Bt l n.mf n.mn<0):Pv l n=EN l n:=by
 refine aGc λx hx=> ?_;have hne:¬(x.mf=n.mf/\x.mn=n.mn):=λhc=>by
  rcases GR l.length (λi=>A1 ((mA l i).mf=n.mf)&&A1 ((mA l i).mn=n.mn)) with⟨_,h2⟩|⟨i,h1,_⟩
  .obtain⟨j,hj,rfl⟩:=Cy hx;have:=h2 j hj;rw[Fz<|Au hj]at this;simp[hc.1,hc.2]at this
  .unfold Bt at h;omega
 unfold bef;rw[Ke];simp;omega
def aE0{id ti nx fr nu tt un:Int}{tx:A4}{held:List A6}{marks:List Mark}{inbox:List A6}(sm:De held marks inbox)(hs:tx.size<=1048576):
  B8 (XO ((id,ti,nx,held,marks,inbox,()),(fr,nu,tt,un,tx,()),())) (Ej ⟨id,ti,nx,held,marks,inbox⟩ ⟨fr,nu,tt,un,tx⟩):=by
 have hl:=sm.hl;have ml:=sm.ml;have akm:iP ((id,ti,nx,held,marks,inbox,()),(fr,nu,tt,un,tx,()),())=
   I ((B1 ⟨fr,nu,tt,un,tx⟩&&(A1 (ti<un)&&(A1 (Ab held fr nu<0)&&(A1 (Bt marks fr nu<0)&&A1 (Ab inbox fr nu<0)))),()),()):=by
  unfold iP;simp only[XU hs,K4 sm.hl,K4 sm.il,TC sm.ml,A9,D8,D0,show ∀c,Ah c U=U from λc=>rfl,A5];rcases tf (B1 ⟨fr,nu,tt,un,tx⟩) with h1|h1<;>rcases tf (A1<|ti<un) with h2|h2<;>rcases tf (A1<|Ab held fr nu<0) with h3|h3<;>simp only[h1,h2,h3,A5,A7,AY,AS]
 unfold XO Ej;have Ey:=fH (l:=held) (fr:=fr) (nu:=nu) (tt:=tt) (un:=un) (tx:=tx) sm.hl;have dM:=fH (l:=inbox) (fr:=fr) (nu:=nu) (tt:=tt) (un:=un) (tx:=tx) sm.il;have akv:=vP (l:=marks) (mf:=fr) (mn:=nu) (mu:=un) sm.ml;simp only[akm,Ey,dM,akv,A9];rcases tf (B1 ⟨fr,nu,tt,un,tx⟩) with h1|h1
 .rcases Ef un ti with h2|h2
  .simp only[h1,h2,Aa,Ag,AY,AS,AK,AF,A5,A7];exact B8.no
  .rcases sgn (Ab held fr nu) with h3|h3
   .rcases sgn (Bt marks fr nu) with h4|h4
    .rcases sgn (Ab inbox fr nu) with h5|h5
     .have q1:Ab held fr nu<0:=of_eq_true h3.1;have q2:Bt marks fr nu<0:=of_eq_true h4.1;have q3:Ab inbox fr nu<0:=of_eq_true h5.1;have lN:=Om (λx:A6=>bef x.fr x.nu fr nu) held ⟨fr,nu,tt,un,tx⟩;have lM:=Om (λx:Mark=>bef x.mf x.mn fr nu) marks ⟨fr,nu,un⟩;have eN:Pu held ⟨fr,nu,tt,un,tx⟩=E5 held ⟨fr,nu,tt,un,tx⟩:=bV q1;have eI:Pu inbox ⟨fr,nu,tt,un,tx⟩=E5 inbox ⟨fr,nu,tt,un,tx⟩:=bV q3;have eM:Pv marks ⟨fr,nu,un⟩=EN marks ⟨fr,nu,un⟩:=qG q2;have l1:((E5 held ⟨fr,nu,tt,un,tx⟩).length:Int)=held.length+1:=by unfold E5;rw[lN];omega
      have l2:((EN marks ⟨fr,nu,un⟩).length:Int)=marks.length+1:=by unfold EN;rw[lM];omega
      simp only[h1,h2,h3,h4,h5,eN,eI,eM,l1,l2,Aa,Ag,AY,AF,A7,
       Ac (n:=(held.length:Int)+1+marks.length) J J,Ac (n:=(held.length:Int)+(marks.length+1)) J J]
      rcases Ef ((held.length:Int)+marks.length+1) 12 with h6|h6
      .have a1:A1 ((held.length:Int)+1+marks.length<=12)=U:=by have:=of_eq_true h6.1;simp;omega
       have a2:A1 ((held.length:Int)+(marks.length+1)<=12)=U:=by have:=of_eq_true h6.1;simp;omega
       simp only[a1,a2,h6,Ag,A7];by_cases h7:tt=id
       .simp only[h7,Aa,AF,A7,A5];rfl
       .simp only[h7,Ag,AK,A7,A5];rfl
      .have a1:A1 ((held.length:Int)+1+marks.length<=12)=A3:=by have:=of_eq_true h6.2;simp;omega
       have a2:A1 ((held.length:Int)+(marks.length+1)<=12)=A3:=by have:=of_eq_true h6.2;simp;omega
       simp only[a1,a2,h6,Aa,A5];by_cases h7:tt=id
       .simp only[h7,Aa,AF,A7];exact B8.no
       .simp only[h7,Ag,AK,A5];exact B8.no
     .simp only[h1,h2,h3,h4,h5,Aa,Ag,AY,AS,AK,AF,A5,A7];exact B8.no
    .simp only[h1,h2,h3,h4,Aa,Ag,AY,AS,AK,AF,A5,A7,ite_self];exact B8.no
   .simp only[h1,h2,h3,Aa,Ag,AY,AS,AK,AF,A5,A7];exact B8.no
 .simp only[h1,AS,AK,A5];exact B8.no
abbrev EF:A4:=B [116,105,109,101]
abbrev F9:A4:=B [110,101,120,116]
abbrev Dm:A4:=B [111,119,110]
abbrev Ea:A4:=B [116,97,107,101]
abbrev Eb:A4:=B [104,101,108,100]
abbrev Et:A4:=B [105,110,98,111,120]
abbrev C2:A4:=B [108,101,116]
abbrev CQ:A4:=B [101,97,116]
abbrev DD:A4:=B [109,97,114,107]
def Hy(k:AH)(w:A4)(n:Int):Option AH:=
 if A1 (w=EF)&&A1 (k.ti<n) then I ⟨k.id,n,k.nx,HQ n k.held,KK n k.marks,k.inbox⟩ else if A1 (w=F9)&&A1 (k.nx<n) then I ⟨k.id,k.ti,n,k.held,k.marks,k.inbox⟩ else A0
def aqM{id ti nx n:Int}{w:A4}{held:List A6}{marks:List Mark}{inbox:List A6}(sm:De held marks inbox):
  B8 (Xp ((id,ti,nx,held,marks,inbox,()),w,n,())) (Hy ⟨id,ti,nx,held,marks,inbox⟩ w n):=by
 unfold Xp Hy;simp only[anv sm,A9];exact B8.ite (λ_=>rfl) λ_=>B8.ite (λ_=>rfl) λ_=>B8.no
def GW(k:AH)(w:A4)(n:A6):Option AH:=
 if A1 (w=Dm)&&(A1 (n.fr=k.id)&&A1 (n.nu=k.nx)) then Ej ⟨k.id,k.ti,k.nx+1,k.held,k.marks,k.inbox⟩ n else if A1 (w=Ea)&& !decide (n.fr=k.id) then Ej k n else
 if A1 (0<=Ab k.held n.fr n.nu)||decide (0<=Ab k.inbox n.fr n.nu) then A0 else if A1 (w=Eb) then I ⟨k.id,k.ti,k.nx,E5 k.held n,k.marks,k.inbox⟩ else if A1 (w=Et) then I ⟨k.id,k.ti,k.nx,k.held,k.marks,E5 k.inbox n⟩ else A0
def aoi{id ti nx fr nu tt un:Int}{w tx:A4}{held:List A6}{marks:List Mark}{inbox:List A6}(sm:De held marks inbox)(hs:tx.size<=1048576)(h0:0<=nx)(h1:nx<=1000):
  B8 (Xb ((id,ti,nx,held,marks,inbox,()),w,(fr,nu,tt,un,tx,()),())) (GW ⟨id,ti,nx,held,marks,inbox⟩ w ⟨fr,nu,tt,un,tx⟩):=by
 have hj:(if A1 (w=Dm) then(I (.inr (w,(id,ti,nx,held,marks,inbox,()),(fr,nu,tt,un,tx,()),(0,0,0,([]:List A6),([]:List Mark),([]:List A6),()),A1 (fr=id)&&A1 (nu=nx),())):Option (((KL×Bool×A2)×A2) ⊕ (A4×KL×(Int×Int×Int×Int×A4×A2)×KL×Bool×A2))) else
   I (.inr (w,(id,ti,nx,held,marks,inbox,()),(fr,nu,tt,un,tx,()),(0,0,0,([]:List A6),([]:List Mark),([]:List A6),()),A3,())))=
   I (.inr (w,(id,ti,nx,held,marks,inbox,()),(fr,nu,tt,un,tx,()),(0,0,0,([]:List A6),([]:List Mark),([]:List A6),()),A1 (w=Dm)&&(A1 (fr=id)&&A1 (nu=nx)),())):=by
  cases A1 (w=Dm)<;>rfl
 unfold Xb GW;simp only[hj,Bj];refine B8.ite (λ_=> ?_) λ_=> ?_
 .rw[Ac J J];exact(aDJ sm hs).eta
 refine B8.ite (λ_=>(aDJ sm hs).eta) λ_=> ?_;simp only[KA sm.hl,KA sm.il,A9,D8,D0,show ∀c,Ah c U=U from λc=>rfl,A5];refine B8.neg λ_=> ?_;simp only[jf sm.hl,jf sm.il,A9];exact B8.ite (λ_=>rfl) λ_=>B8.ite (λ_=>rfl) λ_=>B8.no
def FM{l:List A6}{f n:Int}(h:0<=Ab l f n):(Ab l f n).toNat<l.length/\((Ab l f n).toNat:Int)=Ab l f n/\(nA l (Ab l f n).toNat).fr=f/\(nA l (Ab l f n).toNat).nu=n:=by
 rcases GR l.length (λi=>A1 ((nA l i).fr=f)&&A1 ((nA l i).nu=n)) with⟨h1,_⟩|⟨i,h1,h2,h3,_⟩
 .unfold Ab at h;omega
 .have e:Ab l f n=(i:Int):=h1;rw[e];simp at h3;exact⟨h2,rfl,h3.1,h3.2⟩
def bf{l:List Mark}{f n:Int}(h:0<=Bt l f n):(Bt l f n).toNat<l.length/\((Bt l f n).toNat:Int)=Bt l f n/\(mA l (Bt l f n).toNat).mf=f/\(mA l (Bt l f n).toNat).mn=n:=by
 rcases GR l.length (λi=>A1 ((mA l i).mf=f)&&A1 ((mA l i).mn=n)) with⟨h1,_⟩|⟨i,h1,h2,h3,_⟩
 .unfold Bt at h;omega
 .have e:Bt l f n=(i:Int):=h1;rw[e];simp at h3;exact⟨h2,rfl,h3.1,h3.2⟩
def NS{l:List A6}{f n:Int}(h:0<=Ab l f n):inb (Ab l f n) l.length=U:=by
 obtain⟨h1,h2,_⟩:=FM h;rw[← h2];exact AU h1
def aGf{l:List A6}{f n:Int}:Ah (A1<|0<=Ab l f n) (inb (Ab l f n) l.length)=U:=by
 rcases tf (A1<|0<=Ab l f n) with h|h
 .rw[h,Im,NS<|BX h]
 .rw[h,Hl]
def EO(l:List A6)(m:Mark):Bool:=A1 (0<=Ab l m.mf m.mn)&&A1 ((nA l (Ab l m.mf m.mn).toNat).un=m.mu)
def F3(k:AH)(w:A4)(m:Mark):Option AH:=
 if A1 (w=C2)&&EO k.held m then I ⟨k.id,k.ti,k.nx,Eh k.held (Ab k.held m.mf m.mn).toNat,EN k.marks m,k.inbox⟩ else
 if A1 (w=CQ)&&EO k.inbox m then I ⟨k.id,k.ti,k.nx,k.held,k.marks,Eh k.inbox (Ab k.inbox m.mf m.mn).toNat⟩ else
 if A1 (w=DD)&& !decide (0<=Bt k.marks m.mf m.mn) then I ⟨k.id,k.ti,k.nx,k.held,EN k.marks m,k.inbox⟩ else A0
def abD{l:List A6}{f n:Int}(hl:l.length<=1048576)(h:0<=Ab l f n):T6 (l,Ab l f n,())=I ((Eh l (Ab l f n).toNat,()),()):=by
 obtain⟨h1,h2,_⟩:=FM h
 conv=>lhs;rw[← h2]
 exact ant hl h1
def aoj{id ti nx a b c:Int}{w:A4}{held:List A6}{marks:List Mark}{inbox:List A6}(sm:De held marks inbox):
  B8 (Xc ((id,ti,nx,held,marks,inbox,()),w,(a,b,c,()),())) (F3 ⟨id,ti,nx,held,marks,inbox⟩ w ⟨a,b,c⟩):=by
 unfold Xc F3;simp only[KA sm.hl,KA sm.il,TH sm.ml,A9,aGf,Hl,A5];have hj:(if A1 (w=C2) then(I (.inr (w,(id,ti,nx,held,marks,inbox,()),(a,b,c,()),(0,0,0,([]:List A6),([]:List Mark),([]:List A6),()),Ab held a b,Ab inbox a b,A1<|0<=Bt marks a b,A1 (0<=Ab held a b)&&A1 ((@rd A6 (dfl .note) held<|Ab held a b).un=c),())):Option (((KL×Bool×A2)×A2) ⊕ (A4×KL×(Int×Int×Int×A2)×KL×Int×Int×Bool×Bool×A2))) else
   I (.inr (w,(id,ti,nx,held,marks,inbox,()),(a,b,c,()),(0,0,0,([]:List A6),([]:List Mark),([]:List A6),()),Ab held a b,Ab inbox a b,A1<|0<=Bt marks a b,A3,())))=
   I (.inr (w,(id,ti,nx,held,marks,inbox,()),(a,b,c,()),(0,0,0,([]:List A6),([]:List Mark),([]:List A6),()),Ab held a b,Ab inbox a b,A1<|0<=Bt marks a b,A1 (w=C2)&&EO held ⟨a,b,c⟩,())):=by
  cases A1 (w=C2)<;>rfl
 simp only[hj,Bj];refine B8.ite (λh=> ?_) λ_=> ?_
 .simp only[EO,AG,decide_eq_true_eq]at h;simp only[abD sm.hl h.2.1,lb sm.ml,A9];rfl
 simp only[aGf,Hl,A5];have hj2:(if A1 (w=CQ) then(I (.inr (w,(id,ti,nx,held,marks,inbox,()),(a,b,c,()),(0,0,0,([]:List A6),([]:List Mark),([]:List A6),()),Ab inbox a b,A1<|0<=Bt marks a b,A1 (0<=Ab inbox a b)&&A1 ((@rd A6 (dfl .note) inbox<|Ab inbox a b).un=c),())):Option (((KL×Bool×A2)×A2) ⊕ (A4×KL×(Int×Int×Int×A2)×KL×Int×Bool×Bool×A2))) else
   I (.inr (w,(id,ti,nx,held,marks,inbox,()),(a,b,c,()),(0,0,0,([]:List A6),([]:List Mark),([]:List A6),()),Ab inbox a b,A1<|0<=Bt marks a b,A3,())))=
   I (.inr (w,(id,ti,nx,held,marks,inbox,()),(a,b,c,()),(0,0,0,([]:List A6),([]:List Mark),([]:List A6),()),Ab inbox a b,A1<|0<=Bt marks a b,A1 (w=CQ)&&EO inbox ⟨a,b,c⟩,())):=by
  cases A1 (w=CQ)<;>rfl
 simp only[hj2,Bj];refine B8.ite (λh=> ?_) λ_=> ?_
 .simp only[EO,AG,decide_eq_true_eq]at h;simp only[abD sm.il h.2.1,A9];rfl
 simp only[lb sm.ml,A9];exact B8.ite (λ_=>rfl) λ_=>B8.no
structure F1 (k:AH):Prop where
 id0:0<=k.id
 id1:k.id<=3
 t0:0<=k.ti
 t1:k.ti<=999
 n0:1<=k.nx
 n1:k.nx<=100
 hl:k.held.length<=6
 h:DX k.held=U
 ml:k.marks.length<=12
 m:Fe k.marks=U
 il:k.inbox.length<=6
 i:DX k.inbox=U
 ho:∀i,i<k.held.length->HP k.id k.ti k.nx k.held k.marks i=U
 mo:∀i,i<k.marks.length->JP k.id k.ti k.nx k.marks i=U
 io:∀i,i<k.inbox.length->It k.id k.ti k.nx k.marks k.inbox i=U
def Bx{k:AH}(h:Ay k=U):F1 k:=by
 unfold Ay at h;simp only[AG,Ad,decide_eq_true_eq,CE]at h;obtain⟨⟨a,b⟩,⟨c,d⟩,⟨e,f⟩,⟨g,i⟩,⟨j,l⟩,⟨m,n⟩,o,p,q⟩:=h;exact⟨a,b,c,d,e,f,J,i,J,l,J,n,o,p,q⟩
def HL{l:List A6}(h:DX l=U){i:Nat}(hi:i<l.length):B1 (nA l i)=U:=by
 have:=CE.1 h i hi;simp only[AG]at this;exact this.1
def Tn{l:List Mark}(h:Fe l=U){i:Nat}(hi:i<l.length):FC (mA l i)=U:=by
 have:=CE.1 h i hi;simp only[AG]at this;exact this.1
def Qi{l:List A6}(h:DX l=U){x:A6}(hx:x∈l):B1 x=U:=by
 obtain⟨i,hi,rfl⟩:=Cy hx;have:=HL h hi;rwa[DH<|Au hi]at this
def aE6{l:List Mark}(h:Fe l=U){x:Mark}(hx:x∈l):FC x=U:=by
 obtain⟨i,hi,rfl⟩:=Cy hx;have:=Tn h hi;rwa[Fz<|Au hi]at this
def LM{n:A6}(h:B1 n=U):GX n:=by
 have:=(IF h).s1;unfold GX;omega
def F1.sm{k:AH}(h:F1 k):De k.held k.marks k.inbox:=by
 obtain⟨id0,id1,t0,t1,n0,n1,hl,hh,ml,m,il,hi,ho,mo,io⟩:=h;exact⟨J,λx hx=>LM<|Qi hh hx,J,J,λx hx=>LM<|Qi hi hx⟩
def RB{l:List A6}{n:A6}(hl:l.length<=6)(h:∀x∈l,GX x)(hn:GX n):(E5 l n).length<=1048576/\ ∀x∈E5 l n,GX x:=by
 refine⟨by unfold E5;rw[Om];omega,λx hx=> ?_⟩;rcases Gv _ hx with rfl|hx
 .exact hn
 .exact h x hx
def UL{l:List Mark}{n:Mark}(hl:l.length<=12):(EN l n).length<=1048576:=by unfold EN;rw[Om];omega
def bW{l:List A6}{i:Nat}(hl:l.length<=6)(h:∀x∈l,GX x):(Eh l i).length<=1048576/\ ∀x∈Eh l i,GX x:=by
 refine⟨by unfold Eh;simp;omega,λx hx=> ?_⟩;unfold Eh at hx;rcases BN.1 hx with hx|hx
 .exact h x (Hb hx)
 .exact h x<|Jr hx
abbrev SmK(k:AH):Prop:=De k.held k.marks k.inbox
def bz{k k':AH}{n:A6}(hf:F1 k)(hk:k'.held=k.held/\k'.marks=k.marks/\k'.inbox=k.inbox){o:AH}(h:Ej k' n=I o):SmK o:=by
 have sm:=hf.sm;have l1:=hf.hl;have l2:=hf.ml;have l3:=hf.il;unfold Ej at h;rw[hk.1,hk.2.1,hk.2.2]at h;split at h
 .cases h
 rename_i hn;have hn:GX n:=LM (by simpa using hn)
 iterate 5 (split at h;· cases h)
 split at h<;>cases h
 .have a:=RB l3 sm.i hn;exact⟨sm.hl,sm.h,UL l2,a.1,a.2⟩
 .have a:=RB l1 sm.h hn;exact⟨a.1,a.2,sm.ml,sm.il,sm.i⟩
def axa{k:AH}{w:A4}{n:Int}(hf:F1 k){o:AH}(h:Hy k w n=I o):SmK o:=by
 have sm:=hf.sm;have l1:=hf.hl;have l2:=hf.ml;unfold Hy at h;split at h
 .cases h;have a:=J4 (λx:A6=>A1<|n<x.un) k.held;have b:=J4 (λx:Mark=>A1<|n<x.mu) k.marks;exact⟨by unfold HQ;simp only;omega,λx hx=>sm.h x (FW.1 hx).1,by unfold KK;simp only;omega,sm.il,sm.i⟩
 .split at h<;>cases h;exact sm
def asI{k:AH}{w:A4}{n:A6}(hf:F1 k)(hn:B1 n=U){o:AH}(h:GW k w n=I o):SmK o:=by
 have sm:=hf.sm;unfold GW at h;split at h
 .exact bz (k':=⟨k.id,k.ti,k.nx+1,k.held,k.marks,k.inbox⟩) hf ⟨rfl,rfl,rfl⟩ h
 split at h
 .exact bz (k':=k) hf ⟨rfl,rfl,rfl⟩ h
 split at h
 .cases h
 split at h
 .cases h;have a:=RB hf.hl sm.h<|LM hn;exact⟨a.1,a.2,sm.ml,sm.il,sm.i⟩
 split at h<;>cases h;have a:=RB hf.il sm.i<|LM hn;exact⟨sm.hl,sm.h,sm.ml,a.1,a.2⟩
def asL{k:AH}{w:A4}{m:Mark}(hf:F1 k){o:AH}(h:F3 k w m=I o):SmK o:=by
 have sm:=hf.sm;unfold F3 at h;split at h
 .cases h;have a:=bW (i:=(Ab k.held m.mf m.mn).toNat) hf.hl sm.h;exact⟨a.1,a.2,UL hf.ml,sm.il,sm.i⟩
 split at h
 .cases h;have a:=bW (i:=(Ab k.inbox m.mf m.mn).toNat) hf.il sm.i;exact⟨sm.hl,sm.h,sm.ml,a.1,a.2⟩
 split at h<;>cases h;exact⟨sm.hl,sm.h,UL hf.ml,sm.il,sm.i⟩
def me{k:AH}{w:A4}{m:Mark}(hf:F1 k)(hm:FC m=A3):F3 k w m=A0\/ ∃o,F3 k w m=I o/\Ay o=A3:=by
 have hit:∀l,DX l=U->EO l m=A3:=λl hl=>by
  unfold EO;rcases tf (A1<|0<=Ab l m.mf m.mn) with h|h
  .obtain⟨h1,_,h2,h3⟩:=FM<|BX h;rw[h,AY,decide_eq_false_iff_not];intro h4;have h5:=IF<|HL hl h1;have:FC m=U:=by
    unfold FC;simp only[AG,Ad];have:=h5.f0;have:=h5.f1;have:=h5.n0;have:=h5.n1;have:=h5.u0;have:=h5.u1;omega
   rw[this]at hm;cases hm
  .rw[h];rfl
 unfold F3;rw[hit _ hf.h,hit _ hf.i,Bc,Bc,A7,A7];split
 .refine .inr ⟨_,rfl, ?_⟩;rcases tf (Ay ⟨k.id,k.ti,k.nx,k.held,EN k.marks m,k.inbox⟩) with h|h
  .have:=aE6 (Bx h).m (Is (λx=>bef x.mf x.mn m.mf m.mn) (l:=k.marks) (n:=m)<|.inl rfl);rw[hm]at this;cases this
  .exact h
 .exact .inl rfl
def HN(r:A4):Option Mark:=match Gn [32] 0 ((L r).count 32) (L r) with
 | [p,q,t]=>if(Ax<|B p).2&&((Ax<|B q).2&&((Ax<|B t).2&&U)) then I ⟨(Ax<|B p).1,(Ax<|B q).1,(Ax<|B t).1⟩ else A0
 | _=>A0
def Bd(k:AH)(w r:A4):Option AH:=
 if A1 (w=EF)||decide (w=F9) then(if(Ax r).2 then Hy k w (Ax r).1 else A0) else
 if A1 (w=Dm)||(A1 (w=Ea)||(A1 (w=Eb)||decide (w=Et))) then(match DP r with|some n=>GW k w n|none=>A0) else
 if A1 (w=C2)||(A1 (w=CQ)||decide (w=DD)) then(match HN r with|some m=>F3 k w m|none=>A0) else A0
def GY(k:AH)(rec:A4):Option AH:=if !(O5<|L rec).isSome then A0 else Bd k (wd rec).1 (wd rec).2
def av3{id ti nx:Int}{w r:A4}{held:List A6}{marks:List Mark}{inbox:List A6}(sm:De held marks inbox)(hr:r.size<=1048576):
  B8 ((iD (r,B [32],())).bind λr46=>(Sr (r46.1.1,())).bind λr47=>
   if r47.1.2.1&&A1 ((r47.1.1.length:Int)=3) then(if inb 0 r47.1.1.length then(if inb 1 r47.1.1.length then(if inb 2 r47.1.1.length then
    (Xc ((id,ti,nx,held,marks,inbox,()),w,((@rd Int (dfl .int) r47.1.1 0),(@rd Int (dfl .int) r47.1.1 1),(@rd Int (dfl .int) r47.1.1 2),()),())).bind λr48=>I (((r48.1.1.1,r48.1.1.2.1,r48.1.1.2.2.1,r48.1.1.2.2.2.1,r48.1.1.2.2.2.2.1,r48.1.1.2.2.2.2.2.1,()),r48.1.2.1,()),())
    else A0) else A0) else A0)
   else I (((id,ti,nx,held,marks,inbox,()),A3,()),())) (match HN r with|some m=>F3 ⟨id,ti,nx,held,marks,inbox⟩ w m|none=>A0):=by
 unfold HN;simp only[axF hr,A9];have hsz:=mU ((L r).count 32)<|L r;have hln:=nD ((L r).count 32)<|L r;have azx:(L r).count 32<=r.size:=List.count_le_length;generalize Gn [32] 0 ((L r).count 32) (L r)=ps at *;have hb:∀p∈ps,(B p).size<=1048576:=λp hp=>by
  have:=hsz p hp;rw[B2]at this;rw[BU];omega
 rw[aFc (by simp;omega) (λw hw=>by
  obtain⟨p,hp,rfl⟩:=C3.1 hw;exact hb p hp)]
 simp only[A9];by_cases h3:ps.length=3
 .match ps,h3 with
  | [p,q,t],_=>
   have oH:As (([p,q,t]:List (List UInt8)).map B).length (λi=>(Ax<|(([p,q,t]:List (List UInt8)).map B).getD i noB).2)=((Ax<|B p).2&&((Ax<|B q).2&&((Ax<|B t).2&&U))):=rfl;rw[oH];rcases tf ((Ax<|B p).2&&((Ax<|B q).2&&((Ax<|B t).2&&U))) with h|h
   .simp only[h,A5];exact(aoj sm).eta
   .simp only[h,A7,AS];exact B8.no
 .have e1:∀c:Bool,(((if c then(((ps.map B).map λw=>(Ax w).1),U,()) else(([]:List Int),A3,())).2.1&&A1 ((((if c then(((ps.map B).map λw=>(Ax w).1),U,()) else(([]:List Int),A3,())):List Int×Bool×A2).1.length:Int)=3))=A3):=by
   intro c;cases c
   .rfl
   .simp;omega
  rw[AD (by rw[e1];simp)];have e2:(match ps with|[p,q,t]=>if(Ax<|B p).2&&((Ax<|B q).2&&((Ax<|B t).2&&U)) then I (⟨(Ax<|B p).1,(Ax<|B q).1,(Ax<|B t).1⟩:Mark) else A0|_=>A0)=A0:=by
   split
   .exact absurd rfl h3
   .rfl
  rw[e2];exact B8.no
def ayK{id ti nx:Int}{w r:A4}{held:List A6}{marks:List Mark}{inbox:List A6}(sm:De held marks inbox)(hr:r.size<=1048576){t:KL}:
  B8 ((QZ (r,())).bind λr33=>if r33.1.2.1 then(Xp ((id,ti,nx,held,marks,inbox,()),w,r33.1.1,())).bind λr34=>I (((r34.1.1.1,r34.1.1.2.1,r34.1.1.2.2.1,r34.1.1.2.2.2.1,r34.1.1.2.2.2.2.1,r34.1.1.2.2.2.2.2.1,()),r34.1.2.1,()),())
   else I ((t,A3,()),())) (if(Ax r).2 then Hy ⟨id,ti,nx,held,marks,inbox⟩ w (Ax r).1 else A0):=by
 simp only[jH<|show r.size<=9223372036854775807 by omega,A9];exact B8.ite (λ_=>(aqM sm).eta) λ_=>B8.no
def azT{id ti nx:Int}{w r:A4}{held:List A6}{marks:List Mark}{inbox:List A6}(sm:De held marks inbox)(hr:r.size<=1048576)(h0:0<=nx)(h1:nx<=1000){t:KL}:
  B8 ((XA (r,())).bind λr40=>if r40.1.2.1 then(Xb ((id,ti,nx,held,marks,inbox,()),w,(r40.1.1.1,r40.1.1.2.1,r40.1.1.2.2.1,r40.1.1.2.2.2.1,r40.1.1.2.2.2.2.1,()),())).bind λr41=>
    I (((r41.1.1.1,r41.1.1.2.1,r41.1.1.2.2.1,r41.1.1.2.2.2.1,r41.1.1.2.2.2.2.1,r41.1.1.2.2.2.2.2.1,()),r41.1.2.1,()),())
   else I ((t,A3,()),())) (match DP r with|some n=>GW ⟨id,ti,nx,held,marks,inbox⟩ w n|none=>A0):=by
 simp only[ak1 hr,A9];cases h:DP r with
 | none=>exact B8.no
 | some n=>
  have:=LM (KB h).1;exact(aoi sm this h0 h1).eta
def or3{a b c:Bool}{Ω X:Type}{f:Bool->X}:(if a then(I (.inr<|f a):Option (Ω ⊕ X)) else if b then I (.inr<|f b) else I (.inr<|f c))=I (.inr<|f<|a||(b||c)):=by cases a<;>cases b<;>rfl
def or2{a b:Bool}{Ω X:Type}{f:Bool->X}:(if a then(I (.inr<|f a):Option (Ω ⊕ X)) else I (.inr<|f b))=I (.inr<|f<|a||b):=by cases a<;>rfl
def or4{a b c d:Bool}{Ω X:Type}{f:Bool->X}:(if a then(I (.inr<|f a):Option (Ω ⊕ X)) else if b then I (.inr<|f b) else if c then I (.inr<|f c) else I (.inr<|f d))=I (.inr<|f<|a||(b||(c||d))):=by cases a<;>cases b<;>cases c<;>rfl
def aGY{a b:Bool}{Ω X:Type}{f:Bool->X}{g:X->Option Ω}{m:Option (Ω ⊕ X)}(h:m=(if a then(I (.inr<|f a):Option (Ω ⊕ X)) else I (.inr<|f b))):BW g m=g (f<|a||b):=by rw[h,or2];rfl
def asv{a b c:Bool}{Ω X:Type}{f:Bool->X}{g:X->Option Ω}{m:Option (Ω ⊕ X)}(h:m=(if a then(I (.inr<|f a):Option (Ω ⊕ X)) else if b then I (.inr<|f b) else I (.inr<|f c))):BW g m=g (f<|a||(b||c)):=by rw[h,or3];rfl
def asu{a b c d:Bool}{Ω X:Type}{f:Bool->X}{g:X->Option Ω}{m:Option (Ω ⊕ X)}(h:m=(if a then(I (.inr<|f a):Option (Ω ⊕ X)) else if b then I (.inr<|f b) else if c then I (.inr<|f c) else I (.inr<|f d))):BW g m=g (f<|a||(b||(c||d))):=by rw[h,or4];rfl
def aqN{id ti nx:Int}{rec:A4}{held:List A6}{marks:List Mark}{inbox:List A6}(sm:De held marks inbox)(hr:rec.size<=1048576)(h0:0<=nx)(h1:nx<=1000):
  B8 (Xq ((id,ti,nx,held,marks,inbox,()),rec,())) (GY ⟨id,ti,nx,held,marks,inbox⟩ rec):=by
 have hr2:(wd rec).2.size<=1048576:=by have:=(UC rec).2;omega
 unfold Xq GY Bd;simp only[az0 hr,A9];refine B8.neg λ_=> ?_;rw[aGY (a:=A1<|(wd rec).1=EF) (b:=A1<|(wd rec).1=F9) (f:=λv=>((id,ti,nx,held,marks,inbox,()),(0,0,0,[],[],[],()),(wd rec).1,(wd rec).2,(wd rec).1,v,())) rfl];refine B8.ite (λ_=>ayK sm hr2) λ_=> ?_;simp only;rw[asu (a:=A1<|(wd rec).1=Dm) (b:=A1<|(wd rec).1=Ea) (c:=A1<|(wd rec).1=Eb) (d:=A1<|(wd rec).1=Et) (f:=λv=>((id,ti,nx,held,marks,inbox,()),(0,0,0,[],[],[],()),(wd rec).1,(wd rec).2,(wd rec).1,v,())) rfl];refine B8.ite (λ_=>azT sm hr2 h0 h1) λ_=> ?_;simp only;rw[asv (a:=A1<|(wd rec).1=C2) (b:=A1<|(wd rec).1=CQ) (c:=A1<|(wd rec).1=DD) (f:=λv=>((id,ti,nx,held,marks,inbox,()),(0,0,0,[],[],[],()),(wd rec).1,(wd rec).2,v,())) rfl];exact B8.ite (λ_=>av3 sm hr2) λ_=>B8.no
def avE{k:AH}{rec:A4}(hf:F1 k){o:AH}(h:GY k rec=I o):SmK o:=by
 unfold GY at h;split at h
 .cases h
 unfold Bd at h;split at h
 .split at h
  .exact axa hf h
  .cases h
 split at h
 .cases hn:DP (wd rec).2 with
  | none=>rw[hn]at h;cases h
  | some n=>rw[hn]at h;exact asI hf (KB hn).1 h
 split at h
 .cases hn:HN (wd rec).2 with
  | none=>rw[hn]at h;cases h
  | some n=>rw[hn]at h;exact asL hf h
 .cases h
def Fj(k:AH)(rec:A4):AH×Bool:=
 if Ay k then(match (GY k rec).filter Ay with|some k'=>(k',U)|none=>(k,A3)) else(⟨0,0,0,[],[],[]⟩,A3)
def aDL{id ti nx:Int}{rec:A4}{held:List A6}{marks:List Mark}{inbox:List A6}(sm:De held marks inbox)(hr:rec.size<=1048576):
  TM ((id,ti,nx,held,marks,inbox,()),rec,())=I ((tK (Fj ⟨id,ti,nx,held,marks,inbox⟩ rec).1,(Fj ⟨id,ti,nx,held,marks,inbox⟩ rec).2,()),()):=by
 unfold TM Fj;simp only[lA sm,aAO sm,A9];rcases tf (Ay ⟨id,ti,nx,held,marks,inbox⟩) with h|h
 .have hf:=Bx h;have ha:=aqN (id:=id) (ti:=ti) (nx:=nx) sm hr (by have:=hf.n0;simp only at this;omega) (by have:=hf.n1;simp only at this;omega);simp only[h,AF,A7,A5];cases hst:GY ⟨id,ti,nx,held,marks,inbox⟩ rec with
  | none=>
   rw[hst]at ha;obtain⟨t,ht⟩:=ha;simp only[ht,A9,AK,AF,Hl,A5,C0];rfl
  | some o=>
   rw[hst]at ha;have sm':=avE hf hst;rw[show Xq ((id,ti,nx,held,marks,inbox,()),rec,())=I ((tK o,U,()),()) from ha];simp only[A9,AF,AK,Im,lA sm',aAO sm',D8,D0,A5,Bn,Option.filter_some];rcases tf (Ay o) with h2|h2
   .simp only[h2,AF,A7,A5]
   .simp only[h2,AK,A7,A5]
 .simp only[h,AK,A7,A5]
def asC{id ti nx a b:Int}{held:List A6}{marks:List Mark}{inbox:List A6}(sm:De held marks inbox)(h:0<=Ab held a b):
  jZ ((id,ti,nx,held,marks,inbox,()),a,b,())=I (((id,ti,nx,Eh held (Ab held a b).toNat,Pv marks ⟨a,b,(nA held (Ab held a b).toNat).un⟩,inbox,()),U,()),()):=by
 obtain⟨h1,h2,_⟩:=FM h;have hl:=sm.hl;unfold jZ;have OF:A1 (Ab held a b<0)=A3:=by simp;omega
 simp only[K4 sm.hl,A9,OF,A7,NS h,A5];generalize hi:(Ab held a b).toNat=i at *;rw[← h2];have e1:(A1 (0<=(i:Int))&&A1 ((i:Int)<=(held.length:Int)))=U:=by simp;omega
 have e2:(A1 (0<=((i+1:Nat):Int))&&A1 (((i+1:Nat):Int)<=(held.length:Int)))=U:=by simp;omega
 simp only[B4 h1 (by omega:held.length<=9223372036854775807),e1,e2,A5,BZ,En,CN,DT,DU,ES,Ch,vP sm.ml,A9];rw[A8<|BG J,A8<|BG J];rfl
def asD{id ti nx a b:Int}{held:List A6}{marks:List Mark}{inbox:List A6}(sm:De held marks inbox)(h:0<=Ab inbox a b):
  ja ((id,ti,nx,held,marks,inbox,()),a,b,())=I (((id,ti,nx,held,marks,Eh inbox (Ab inbox a b).toNat,()),U,()),()):=by
 obtain⟨h1,h2,_⟩:=FM h;have hl:=sm.il;unfold ja;have OF:A1 (Ab inbox a b<0)=A3:=by simp;omega
 simp only[K4 sm.il,A9,OF,A7];generalize hi:(Ab inbox a b).toNat=i at *;rw[← h2];have e1:(A1 (0<=(i:Int))&&A1 ((i:Int)<=(inbox.length:Int)))=U:=by simp;omega
 have e2:(A1 (0<=((i+1:Nat):Int))&&A1 (((i+1:Nat):Int)<=(inbox.length:Int)))=U:=by simp;omega
 simp only[B4 h1 (by omega:inbox.length<=9223372036854775807),e1,e2,A5,BZ,En,CN,DT,DU,ES];rw[A8<|BG J,A8<|BG J];rfl
def Lo(r:A4):Bool:= !decide (EL r 3=noB)|| !decide (r=((((Bb (Ai<|Ar r 0)++B [32])++Bb (Ai<|Ar r 1))++B [32])++Bb (Ai<|Ar r 2)))
def mk3(r:A4):Mark:=⟨Ai<|Ar r 0,Ai<|Ar r 1,Ai<|Ar r 2⟩
def Du(k:AH)(w r:A4):Option AH:=
 if A1 (w=EF) then(if A1 (Ai r<=k.ti) then A0 else I ⟨k.id,Ai r,k.nx,HQ (Ai r) k.held,KK (Ai r) k.marks,k.inbox⟩) else
 if A1 (w=Dm) then(match DP r with|some n=>if !decide (n.fr=k.id) then A0 else if !decide (n.nu=k.nx) then A0 else Ej ⟨k.id,k.ti,k.nx+1,k.held,k.marks,k.inbox⟩ n|none=>A0) else
 if A1 (w=Ea) then(match DP r with|some n=>if A1 (n.fr=k.id) then A0 else Ej k n|none=>A0) else
 if A1 (w=F9) then(if A1 (Ai r<=k.nx) then A0 else I ⟨k.id,k.ti,Ai r,k.held,k.marks,k.inbox⟩) else
 if A1 (w=Eb)||decide (w=Et) then(match DP r with|some n=>if A1 (0<=Ab k.held n.fr n.nu) then A0 else if A1 (0<=Ab k.inbox n.fr n.nu) then A0 else if A1 (w=Eb) then I ⟨k.id,k.ti,k.nx,E5 k.held n,k.marks,k.inbox⟩ else I ⟨k.id,k.ti,k.nx,k.held,k.marks,E5 k.inbox n⟩|none=>A0) else
 if Lo r then A0 else
 if A1 (w=C2) then(if !EO k.held (mk3 r) then A0 else I ⟨k.id,k.ti,k.nx,Eh k.held (Ab k.held (mk3 r).mf (mk3 r).mn).toNat,EN k.marks<|mk3 r,k.inbox⟩) else
 if A1 (w=CQ) then(if !EO k.inbox (mk3 r) then A0 else I ⟨k.id,k.ti,k.nx,k.held,k.marks,Eh k.inbox (Ab k.inbox (mk3 r).mf (mk3 r).mn).toNat⟩) else
 if A1 (w=DD) then(if A1 (0<=Bt k.marks (mk3 r).mf (mk3 r).mn) then A0 else I ⟨k.id,k.ti,k.nx,k.held,EN k.marks<|mk3 r,k.inbox⟩) else A0
def Yz(s:A4): -1<=Ai s/\Ai s<10000:=by
 rcases TW s with⟨h,_⟩|⟨n,h,h1,h2⟩
 .omega
 .have:n<10000:=by
   have hv:=cF 4 (L s) (by rw[B2];omega) (by rw[h2];exact bq (n+1) n J);rw[h2,aO (n+1) n J]at hv;omega
  omega
def mq{n:Int}(h0: -1<=n)(h1:n<10000):(Bb n).size<=4:=by
 by_cases h:0<=n
 .exact NO h J J
 .obtain rfl:n= -1:=J
  have:Bb (-1)=B [45,49]:=by
   apply GG;show BA (-1)=_;rw[show(-1:Int)= -((1:Nat):Int) by rfl,pe _ J];show 45::dcm 1=_;rw[LL J];rfl
  rw[this];decide
def aae{l:List A6}{m:Mark}:(A1 (Ab l m.mf m.mn<0)|| !decide ((@rd A6 (dfl .note) l<|Ab l m.mf m.mn).un=m.mu))= !EO l m:=by
 unfold EO;rcases sgn (Ab l m.mf m.mn) with h|h
 .simp only[h,Aa,Ag,C0,AS,AK]
 .simp only[h,Aa,Ag,Bn,AY];rfl
def ava{l:List A6}{f n:Int}:Ah (!(A1<|Ab l f n<0)) (inb (Ab l f n) l.length)=U:=by
 rcases sgn (Ab l f n) with h|h
 .simp only[h,Aa,AF,Hl]
 .simp only[h,Ag,AK,Im,NS<|of_eq_true h.2]
def asA{id ti nx:Int}{rec:A4}{held:List A6}{marks:List Mark}{inbox:List A6}(hf:F1 ⟨id,ti,nx,held,marks,inbox⟩)(hr:rec.size<=1048576):
  B8 (XT ((id,ti,nx,held,marks,inbox,()),rec,())) (Du ⟨id,ti,nx,held,marks,inbox⟩ (wd rec).1 (wd rec).2):=by
 have sm:De held marks inbox:=hf.sm;have hn0:1<=nx:=hf.n0;have hn1:nx<=100:=hf.n1;have hr2:(wd rec).2.size<=1048576:=by have:=(UC rec).2;omega
 unfold XT Du;simp only[aaK hr,A9];generalize (wd rec).1=w;generalize (wd rec).2=r at *;simp only[mG<|show r.size<=9223372036854775807 by omega,aAc hr2,amq sm,A9];refine B8.ite (λ_=>B8.neg λ_=>rfl) λ_=> ?_;refine B8.ite (λ_=> ?_) λ_=> ?_
 .cases h:DP r with
  | none=>exact B8.no
  | some n=>
   have:=LM (KB h).1;simp only[VM,AF,A7];refine B8.neg λ_=>B8.neg λ_=> ?_;rw[Ac J J];exact(aE0 sm this).eta
 refine B8.ite (λ_=> ?_) λ_=> ?_
 .cases h:DP r with
  | none=>exact B8.no
  | some n=>
   have:=LM (KB h).1;simp only[VM,AF,Bn];exact B8.neg λ_=>(aE0 sm this).eta
 refine B8.ite (λ_=>B8.neg λ_=>rfl) λ_=> ?_;rw[aGY (a:=A1<|w=Eb) (b:=A1<|w=Et) (f:=λv=>((id,ti,nx,held,marks,inbox,()),(0,0,0,[],[],[],()),w,r,v,())) rfl];refine B8.ite (λ_=> ?_) λ_=> ?_
 .simp only[aAc hr2,A9];cases h:DP r with
  | none=>exact B8.no
  | some n=>
   have:=LM (KB h).1;simp only[VM,AF,A7,K4 sm.hl,K4 sm.il,A9];refine B8.neg λh1=>B8.neg λh2=> ?_;have e1:Pu held n=E5 held n:=bV (by simpa using h1);have e2:Pu inbox n=E5 inbox n:=bV (by simpa using h2);have Ey:=fH (l:=held) (fr:=n.fr) (nu:=n.nu) (tt:=n.to) (un:=n.un) (tx:=n.tx) sm.hl;have dM:=fH (l:=inbox) (fr:=n.fr) (nu:=n.nu) (tt:=n.to) (un:=n.un) (tx:=n.tx) sm.il;rw[show(⟨n.fr,n.nu,n.to,n.un,n.tx⟩:A6)=n from rfl]at Ey dM;simp only[Ey,dM,e1,e2,A9];exact B8.ite (λ_=>rfl) λ_=>rfl
 have e3:Qb (r,3,())=I (([Ai<|Ar r 0,Ai<|Ar r 1,Ai<|Ar r 2],EL r 3,()),()):=aaR (n:=3) hr2 J;have i0:inb 0 [Ai<|Ar r 0,Ai<|Ar r 1,Ai<|Ar r 2].length=U:=rfl;have i1:inb 1 [Ai<|Ar r 0,Ai<|Ar r 1,Ai<|Ar r 2].length=U:=rfl;have i2:inb 2 [Ai<|Ar r 0,Ai<|Ar r 1,Ai<|Ar r 2].length=U:=rfl;have r0: @rd Int (dfl .int) [Ai<|Ar r 0,Ai<|Ar r 1,Ai<|Ar r 2] 0=Ai (Ar r 0):=rfl;have r1: @rd Int (dfl .int) [Ai<|Ar r 0,Ai<|Ar r 1,Ai<|Ar r 2] 1=Ai (Ar r 1):=rfl;have r2: @rd Int (dfl .int) [Ai<|Ar r 0,Ai<|Ar r 1,Ai<|Ar r 2] 2=Ai (Ar r 2):=rfl;have q0:=Yz<|Ar r 0;have q1:=Yz<|Ar r 1;have q2:=Yz<|Ar r 2;have z0:=mq q0.1 q0.2;have z1:=mq q1.1 q1.2;have z2:=mq q2.1 q2.2;have zb:(B [32]).size=1:=rfl;have d1:A1 ((Bb<|Ai<|Ar r 0).size+(B [32]).size<=4611686018427387904)=U:=by rw[zb,decide_eq_true_eq];omega
 have d2:A1 ((Bb (Ai<|Ar r 0)++B [32]).size+(Bb<|Ai<|Ar r 1).size<=4611686018427387904)=U:=by rw[C5,zb,decide_eq_true_eq];omega
 have d3:A1 (((Bb (Ai<|Ar r 0)++B [32])++Bb (Ai<|Ar r 1)).size+(B [32]).size<=4611686018427387904)=U:=by rw[C5,C5,zb,decide_eq_true_eq];omega
 have d4:A1 ((((Bb (Ai<|Ar r 0)++B [32])++Bb (Ai<|Ar r 1))++B [32]).size+(Bb<|Ai<|Ar r 2).size<=4611686018427387904)=U:=by rw[C5,C5,C5,zb,decide_eq_true_eq];omega
 simp only[e3,A9,i0,i1,i2,r0,r1,r2,G7 (n:=Ai<|Ar r 0) J J,G7 (n:=Ai<|Ar r 1) J J,G7 (n:=Ai<|Ar r 2) J J,
  D8,D0,show ∀c,Ah c U=U from λc=>rfl,A5,d1,d2,d3,d4]
 refine B8.neg λ_=> ?_;have hmk:mk3 r=⟨Ai<|Ar r 0,Ai<|Ar r 1,Ai<|Ar r 2⟩:=rfl;generalize Ai (Ar r 0)=a at *;generalize Ai (Ar r 1)=b at *;generalize Ai (Ar r 2)=c at *;rw[hmk];simp only[K4 sm.hl,K4 sm.il,TC sm.ml,A9,ava,A5];refine B8.ite (λ_=> ?_) λ_=> ?_
 .rw[aae (m:=⟨a,b,c⟩)];refine B8.neg λh=> ?_;have hh:EO held ⟨a,b,c⟩=U:=by simpa using h
  simp only[EO,AG,decide_eq_true_eq]at hh;obtain⟨g1,g2,g3,g4⟩:=FM hh.1;have ho:=hf.ho _ g1;unfold HP at ho;simp only[AG,decide_eq_true_eq]at ho;have hm:Bt marks a b<0:=by
   have:=ho.2.2.2;simp only[g3,g4]at this;exact this
  have hM:Pv marks ⟨a,b,c⟩=EN marks ⟨a,b,c⟩:=qG hm;simp only[asC sm hh.1,A9,hh.2,hM];rfl
 refine B8.ite (λ_=> ?_) λ_=> ?_
 .rw[aae (m:=⟨a,b,c⟩)];refine B8.neg λh=> ?_;have hh:EO inbox ⟨a,b,c⟩=U:=by simpa using h
  simp only[EO,AG,decide_eq_true_eq]at hh;simp only[asD sm hh.1,A9];rfl
 refine B8.ite (λ_=> ?_) λ_=>B8.no;refine B8.neg λh=> ?_;have hM:Pv marks ⟨a,b,c⟩=EN marks ⟨a,b,c⟩:=qG (by simpa using h);simp only[vP sm.ml,A9,hM];rfl
def anE:A1 (EF=F9)=A3:=by decide
def apQ:A1 (EF=Dm)=A3:=by decide
def anD:A1 (EF=Ea)=A3:=by decide
def anG:A1 (EF=Eb)=A3:=by decide
def aj0:A1 (EF=Et)=A3:=by decide
def apR:A1 (EF=C2)=A3:=by decide
def apS:A1 (EF=CQ)=A3:=by decide
def anF:A1 (EF=DD)=A3:=by decide
def aBn:A1 (F9=EF)=A3:=by decide
def apY:A1 (F9=Dm)=A3:=by decide
def anI:A1 (F9=Ea)=A3:=by decide
def anK:A1 (F9=Eb)=A3:=by decide
def aj1:A1 (F9=Et)=A3:=by decide
def apZ:A1 (F9=C2)=A3:=by decide
def aor:A1 (F9=CQ)=A3:=by decide
def anJ:A1 (F9=DD)=A3:=by decide
def apV:A1 (Dm=EF)=A3:=by decide
def apW:A1 (Dm=F9)=A3:=by decide
def aDA:A1 (Dm=Ea)=A3:=by decide
def aDB:A1 (Dm=Eb)=A3:=by decide
def aBm:A1 (Dm=Et)=A3:=by decide
def aqS:A1 (Dm=C2)=A3:=by decide
def aqT:A1 (Dm=CQ)=A3:=by decide
def apX:A1 (Dm=DD)=A3:=by decide
def kP:A1 (Ea=EF)=A3:=by decide
def kQ:A1 (Ea=F9)=A3:=by decide
def lK:A1 (Ea=Dm)=A3:=by decide
def kR:A1 (Ea=Eb)=A3:=by decide
def kF:A1 (Ea=Et)=A3:=by decide
def apT:A1 (Ea=C2)=A3:=by decide
def apU:A1 (Ea=CQ)=A3:=by decide
def anH:A1 (Ea=DD)=A3:=by decide
def aBp:A1 (Eb=EF)=A3:=by decide
def aBr:A1 (Eb=F9)=A3:=by decide
def aDC:A1 (Eb=Dm)=A3:=by decide
def aBq:A1 (Eb=Ea)=A3:=by decide
def aj3:A1 (Eb=Et)=A3:=by decide
def aos:A1 (Eb=C2)=A3:=by decide
def aot:A1 (Eb=CQ)=A3:=by decide
def anA:A1 (Eb=DD)=A3:=by decide
def aAl:A1 (Et=EF)=A3:=by decide
def aAn:A1 (Et=F9)=A3:=by decide
def aBo:A1 (Et=Dm)=A3:=by decide
def aAm:A1 (Et=Ea)=A3:=by decide
def aAo:A1 (Et=Eb)=A3:=by decide
def an8:A1 (Et=C2)=A3:=by decide
def an9:A1 (Et=CQ)=A3:=by decide
def aj2:A1 (Et=DD)=A3:=by decide
def lQ:A1 (C2=EF)=A3:=by decide
def lS:A1 (C2=F9)=A3:=by decide
def lz:A1 (C2=Dm)=A3:=by decide
def lR:A1 (C2=Ea)=A3:=by decide
def lU:A1 (C2=Eb)=A3:=by decide
def km:A1 (C2=Et)=A3:=by decide
def mB:A1 (C2=CQ)=A3:=by decide
def lT:A1 (C2=DD)=A3:=by decide
def lV:A1 (CQ=EF)=A3:=by decide
def lX:A1 (CQ=F9)=A3:=by decide
def mC:A1 (CQ=Dm)=A3:=by decide
def lW:A1 (CQ=Ea)=A3:=by decide
def lZ:A1 (CQ=Eb)=A3:=by decide
def ko:A1 (CQ=Et)=A3:=by decide
def mD:A1 (CQ=C2)=A3:=by decide
def lY:A1 (CQ=DD)=A3:=by decide
def kc:A1 (DD=EF)=A3:=by decide
def kg:A1 (DD=F9)=A3:=by decide
def lL:A1 (DD=Dm)=A3:=by decide
def ke:A1 (DD=Ea)=A3:=by decide
def kh:A1 (DD=Eb)=A3:=by decide
def kG:A1 (DD=Et)=A3:=by decide
def lO:A1 (DD=C2)=A3:=by decide
def lP:A1 (DD=CQ)=A3:=by decide
abbrev flt(o:Option AH):Option AH:=o.filter Ay
def UK{o:Option AH}(h:o=A0\/ ∃k,o=I k/\Ay k=A3):flt o=A0:=by
 obtain rfl|⟨k,rfl,h⟩:=h
 .rfl
 .simp[flt,Option.filter,h]
def arh:DP noB=A0:=by
 cases h:DP noB with
 | none=>rfl
 | some n=>
  obtain⟨h1,h2⟩:=KB h;have:=qt<|IF h1;rw[h2]at this;exact absurd this<|by decide
def awf:Ai noB= -1:=by
 rcases TW noB with⟨h,_⟩|⟨n,_,_,h⟩
 .exact h
 .exact absurd h.symm (rR n)
def aH5(r:A4):(Ax r=(0,A3)/\Ai r= -1)\/ ∃n:Nat,Ax r=((n:Int),U)/\(Ai r=n\/(Ai r= -1/\10000<=n)):=by
 rcases TZ r with h|⟨n,h1,h2,h3⟩
 .refine .inl ⟨h, ?_⟩;rcases TW r with⟨h4,_⟩|⟨n,_,h5,h6⟩
  .exact h4
  .rw[nL J h6]at h;cases h
 .refine .inr ⟨n,h1, ?_⟩;rcases TW r with⟨h4,h5⟩|⟨m,h4,_,h6⟩
  .refine .inr ⟨h4, ?_⟩;have h7:=h5 n h3;rcases Gm n 10000 with h8|h8
   .have:=ML 4 n J J;rw[← h3,B2]at this;omega
   .exact h8
  .left;have e:dcm n=dcm m:=h3.symm.trans h6;have:=congrArg val e;rw[aO (n+1) n J,aO (m+1) m J]at this;omega
def aa0(a b c:Int):L ((((Bb a++B [32])++Bb b)++B [32])++Bb c)=BA a++32::(BA b++32::BA c):=by
 simp only[Ge,VG,L_B,C9,Lf,En]
def qZ{l:List UInt8}(h:Cd l):l.count 32=0:=List.count_eq_zero.2 λhm=>h 32 hm rfl
def aS{r:A4}{a b c:Int}(ha:0<=a)(ha2:a<100000)(hb:0<=b)(hb2:b<100000)(hc:0<=c)(hc2:c<100000)(e:L r=BA a++32::(BA b++32::BA c)):HN r=I ⟨a,b,c⟩:=by
 unfold HN;have h2:(L r).count 32=1+1:=by
  rw[e,List.count_append,aFP,List.count_append,aFP,qZ<|Hm ha,qZ<|Hm hb,qZ<|Hm hc]
 rw[h2,e,MC<|Hm ha,MC<|Hm hb];show(if(Ax<|B<|BA a).2&&((Ax<|B<|BA b).2&&((Ax<|B<|BA c).2&&U)) then I (⟨(Ax<|B<|BA a).1,(Ax<|B<|BA b).1,(Ax<|B<|BA c).1⟩:Mark) else A0)=_;rw[JL ha ha2,JL hb hb2,JL hc hc2];rfl
def ql{p:List UInt8}(h:(Ax<|B p).2=U):0<=(Ax<|B p).1/\p=BA (Ax<|B p).1:=by
 rcases TZ (B p) with h1|⟨n,h1,_,h3⟩
 .rw[h1]at h;cases h
 .rw[h1];exact⟨by simp,by rw[JQ];exact h3⟩
def aJA{r:A4}{m:Mark}(h:HN r=I m):0<=m.mf/\0<=m.mn/\0<=m.mu/\L r=BA m.mf++32::(BA m.mn++32::BA m.mu):=by
 unfold HN at h;have hj:=mV ((L r).count 32)<|L r;split at h
 .rename_i p q t hp;rw[hp]at hj;split at h
  .rename_i hc;simp only[AG]at hc;cases h;have h1:=ql hc.1;have h2:=ql hc.2.1;have h3:=ql hc.2.2.1;refine⟨h1.1,h2.1,h3.1, ?_⟩;simp only;rw[← h1.2,← h2.2,← h3.2];exact hj.symm
  .cases h
 .cases h
def aGA{r:A4}{a b c:Int}(ha:0<=a)(ha2:a<10000)(hb:0<=b)(hb2:b<10000)(hc:0<=c)(hc2:c<10000)(e:L r=BA a++32::(BA b++32::BA c)):Lo r=A3/\mk3 r=⟨a,b,c⟩:=by
 have e0:=La (Hm ha) e;have c1:L (EL r 1)=_:=(KG (t:=r) e0).2;have e1:=La (Hm hb) c1;have c2:L (EL r 2)=_:=(KG (t:=r) e1).2;have e2:=VH (s:=EL r 2) (by rw[c2];exact Hm hc);have w0:Ar r 0=B (BA a):=(KG (t:=r) e0).1;have w1:Ar r 1=B (BA b):=(KG (t:=r) e1).1;have w2:Ar r 2=B (BA c):=by
  show(wd<|EL r 2).1=_;rw[e2];apply GG;rw[c2,L_B]
 have t3:EL r 3=noB:=by
  show(wd<|EL r 2).2=_;rw[e2]
 have d0:=NL ha ha2;have d1:=NL hb hb2;have d2:=NL hc hc2;refine⟨?_, ?_⟩
 .unfold Lo;rw[t3,w0,w1,w2,d0,d1,d2];have:r=((((Bb a++B [32])++Bb b)++B [32])++Bb c):=GG (by rw[e,aa0]);rw[← this];simp
 .unfold mk3;rw[w0,w1,w2,d0,d1,d2]
def P6{m:Mark}(h:FC m=U):0<=m.mf/\m.mf<=3/\1<=m.mn/\m.mn<=99/\1<=m.mu/\m.mu<=999:=by
 unfold FC at h;simp only[AG,Ad]at h;omega
def pr{k:AH}(hf:F1 k)(w r:A4):flt (if Lo r then A0 else F3 k w (mk3 r))=flt (match HN r with|some m=>F3 k w m|none=>A0):=by
 rcases tf (FC<|mk3 r) with hm|hm
 .obtain⟨a0,a1,b0,b1,c0,c1⟩:=P6 hm;rcases tf (Lo r) with hc|hc
  .rw[hc];simp only[A5];cases h:HN r with
   | none=>rfl
   | some m=>
    simp only;rcases tf (FC m) with h2|h2
    .obtain⟨p0,p1,q0,q1,s0,s1⟩:=P6 h2;obtain⟨_,_,_,e⟩:=aJA h;rw[(aGA J J J J J J e).1]at hc;cases hc
    .exact(UK<|me hf h2).symm
  .have hc2:=hc;unfold Lo at hc;simp only[Mk,Bool.not_eq_false',decide_eq_true_eq]at hc;have e:L r=_:=(congrArg L hc.2).trans<|aa0 _ _ _;have:=aS (a:=(mk3 r).mf) (b:=(mk3 r).mn) (c:=(mk3 r).mu) J J J J J J e;rw[hc2,this];rfl
 .have hL:flt (if Lo r then A0 else F3 k w (mk3 r))=A0:=by
   cases Lo r
   .exact UK (me hf hm)
   .rfl
  rw[hL];cases h:HN r with
  | none=>rfl
  | some m=>
   simp only;rcases tf (FC m) with h2|h2
   .obtain⟨p0,p1,q0,q1,s0,s1⟩:=P6 h2;obtain⟨_,_,_,e⟩:=aJA h;have:=(aGA J J J J J J e).2;rw[this]at hm;have hm:FC m=A3:=hm;rw[h2]at hm;cases hm
   .exact(UK<|me hf h2).symm
def ayh{k:AH}{n nx:Int}{a b:List A6}{m:List Mark}(hn:999<n):Ay ⟨k.id,n,nx,a,m,b⟩=A3:=by
 rcases tf (Ay ⟨k.id,n,nx,a,m,b⟩) with h|h
 .have:=(Bx h).t1;simp only at this;omega
 .exact h
def ayJ{k:AH}{n ti:Int}{a b:List A6}{m:List Mark}(hn:100<n):Ay ⟨k.id,ti,n,a,m,b⟩=A3:=by
 rcases tf (Ay ⟨k.id,ti,n,a,m,b⟩) with h|h
 .have:=(Bx h).n1;simp only at this;omega
 .exact h
def asb{k:AH}(hf:F1 k)(r:A4):flt (Du k EF r)=flt (Bd k EF r):=by
 have h0:=hf.t0;unfold Du Bd Hy;simp only[anE,apQ,anD,anG,aj0,apR,apS,anF,Aa,Bc,Ep,Da,Bn,C0,AS,AY,A5,A7];rcases aH5 r with⟨h1,h2⟩|⟨n,h1,h2|⟨h2,h3⟩⟩
 .rw[h1,h2,A8 (by simp;omega)];rfl
 .rw[h1,h2];rcases Ef (n:Int) k.ti with h4|h4<;>simp only[h4,Aa,Ag,A5,A7]
 .rw[h1,h2,A8 (by simp;omega)];rcases Ef (n:Int) k.ti with h4|h4<;>simp only[h4,Aa,Ag,A5,A7];exact(UK<|.inr ⟨_,rfl,ayh J⟩).symm
def asc{k:AH}(hf:F1 k)(r:A4):flt (Du k F9 r)=flt (Bd k F9 r):=by
 have h0:=hf.n0;unfold Du Bd Hy;simp only[aBn,apY,anI,anK,aj1,apZ,aor,anJ,Aa,Bc,Ep,Da,Bn,C0,AS,AY,A5,A7];rcases aH5 r with⟨h1,h2⟩|⟨n,h1,h2|⟨h2,h3⟩⟩
 .rw[h1,h2,A8 (by simp;omega)];rfl
 .rw[h1,h2];rcases Ef (n:Int) k.nx with h4|h4<;>simp only[h4,Aa,Ag,A5,A7]
 .rw[h1,h2,A8 (by simp;omega)];rcases Ef (n:Int) k.nx with h4|h4<;>simp only[h4,Aa,Ag,A5,A7];exact(UK<|.inr ⟨_,rfl,ayJ J⟩).symm
def asY{k:AH}(r:A4):Du k Dm r=Bd k Dm r:=by
 unfold Du Bd GW;simp only[apV,apW,aDA,aDB,aBm,aqS,aqT,apX,Aa,Bc,Ep,Da,Bn,C0,AS,AY,A5,A7];cases DP r with
 | none=>rfl
 | some n=>
  simp only;rcases tf (A1<|n.fr=k.id) with h1|h1<;>rcases tf (A1<|n.nu=k.nx) with h2|h2<;>simp only[h1,h2,AF,AK,ite_self,Aa,Bc,Ep,Da,Bn,C0,AS,AY,A5,A7]
def arx{k:AH}(r:A4):Du k Ea r=Bd k Ea r:=by
 unfold Du Bd GW;simp only[kP,kQ,lK,kR,kF,apT,apU,anH,Aa,Bc,Ep,Da,Bn,C0,AS,AY,A5,A7];cases DP r with
 | none=>rfl
 | some n=>
  simp only;rcases tf (A1<|n.fr=k.id) with h1|h1<;>simp only[h1,AF,AK,ite_self,Aa,Bc,Ep,Da,Bn,C0,AS,AY,A5,A7]
def arz{k:AH}(r:A4):Du k Eb r=Bd k Eb r:=by
 unfold Du Bd GW;simp only[aBp,aBr,aDC,aBq,aj3,aos,aot,anA,Aa,Bc,Ep,Da,Bn,C0,AS,AY,A5,A7];cases DP r with
 | none=>rfl
 | some n=>
  simp only;rcases tf (A1<|0<=Ab k.held n.fr n.nu) with h1|h1<;>rcases tf (A1<|0<=Ab k.inbox n.fr n.nu) with h2|h2<;>simp only[h1,h2,AF,AK,ite_self,Aa,Bc,Ep,Da,Bn,C0,AS,AY,A5,A7]
def aqi{k:AH}(r:A4):Du k Et r=Bd k Et r:=by
 unfold Du Bd GW;simp only[aAl,aAn,aBo,aAm,aAo,an8,an9,aj2,Aa,Bc,Ep,Da,Bn,C0,AS,AY,A5,A7];cases DP r with
 | none=>rfl
 | some n=>
  simp only;rcases tf (A1<|0<=Ab k.held n.fr n.nu) with h1|h1<;>rcases tf (A1<|0<=Ab k.inbox n.fr n.nu) with h2|h2<;>simp only[h1,h2,AF,AK,ite_self,Aa,Bc,Ep,Da,Bn,C0,AS,AY,A5,A7]
def asZ{k:AH}(hf:F1 k)(r:A4):flt (Du k C2 r)=flt (Bd k C2 r):=by
 have h:=pr hf C2 r;unfold Du Bd;simp only[lQ,lS,lz,lR,lU,km,mB,lT,Aa,Bc,Ep,Da,Bn,C0,AS,AY,A5,A7];refine Kb ?_ h;unfold F3;simp only[lQ,lS,lz,lR,lU,km,mB,lT,Aa,Bc,Ep,Da,Bn,C0,AS,AY,A5,A7];congr 1;refine ite_congr rfl (λ_=>rfl) λ_=> ?_;cases EO k.held (mk3 r)<;>rfl
def asa{k:AH}(hf:F1 k)(r:A4):flt (Du k CQ r)=flt (Bd k CQ r):=by
 have h:=pr hf CQ r;unfold Du Bd;simp only[lV,lX,mC,lW,lZ,ko,mD,lY,Aa,Bc,Ep,Da,Bn,C0,AS,AY,A5,A7];refine Kb ?_ h;unfold F3;simp only[lV,lX,mC,lW,lZ,ko,mD,lY,Aa,Bc,Ep,Da,Bn,C0,AS,AY,A5,A7];congr 1;refine ite_congr rfl (λ_=>rfl) λ_=> ?_;cases EO k.inbox (mk3 r)<;>rfl
def ary{k:AH}(hf:F1 k)(r:A4):flt (Du k DD r)=flt (Bd k DD r):=by
 have h:=pr hf DD r;unfold Du Bd;simp only[kc,kg,lL,ke,kh,kG,lO,lP,Aa,Bc,Ep,Da,Bn,C0,AS,AY,A5,A7];refine Kb ?_ h;unfold F3;simp only[kc,kg,lL,ke,kh,kG,lO,lP,Aa,Bc,Ep,Da,Bn,C0,AS,AY,A5,A7];congr 1;refine ite_congr rfl (λ_=>rfl) λ_=> ?_;cases A1 (0<=Bt k.marks (mk3 r).mf (mk3 r).mn)<;>rfl
def awH{k:AH}(hf:F1 k)(w r:A4):flt (Du k w r)=flt (Bd k w r):=by
 by_cases sO:w=EF
 .subst sO;exact asb hf r
 by_cases sQ:w=F9
 .subst sQ;exact asc hf r
 by_cases sg:w=Dm
 .subst sg;exact congrArg flt<|asY r
 by_cases sP:w=Ea
 .subst sP;exact congrArg flt<|arx r
 by_cases sF:w=Eb
 .subst sF;exact congrArg flt<|arz r
 by_cases sS:w=Et
 .subst sS;exact congrArg flt<|aqi r
 by_cases si:w=C2
 .subst si;exact asZ hf r
 by_cases sj:w=CQ
 .subst sj;exact asa hf r
 by_cases sE:w=DD
 .subst sE;exact ary hf r
 have e1:Du k w r=A0:=by
  unfold Du;simp only[sO,sQ,sg,sP,sF,sS,si,sj,sE,Ag,Aa,Bc,Ep,Da,Bn,C0,AS,AY,A5,A7,ite_self]
 have e2:Bd k w r=A0:=by
  unfold Bd;simp only[sO,sQ,sg,sP,sF,sS,si,sj,sE,Ag,Aa,Bc,Ep,Da,Bn,C0,AS,AY,A5,A7]
 rw[e1,e2]
def atY{k:AH}(hf:F1 k)(w:A4):Du k w noB=A0:=by
 have h0:=hf.t0;have h1:=hf.n0;have hc:Lo noB=U:=by
  unfold Lo;have:¬noB=((((Bb (Ai<|Ar noB 0)++B [32])++Bb (Ai<|Ar noB 1))++B [32])++Bb (Ai<|Ar noB 2)):=λh=>by
   have:=congrArg ByteArray.size h;rw[C5,C5,C5,C5]at this;have e:noB.size=0:=rfl;have e2:(B [32]).size=1:=rfl;omega
  simp[this]
 unfold Du;rw[awf,arh,hc];have a1:A1 (-1<=k.ti)=U:=by simp;omega
 have a2:A1 (-1<=k.nx)=U:=by simp;omega
 simp only[a1,a2,A5,ite_self]
def ayr{k:AH}(hf:F1 k)(rec:A4):flt (Du k (wd rec).1 (wd rec).2)=flt (GY k rec):=by
 unfold GY;rcases ME (L rec) with h|⟨w,r,h,e⟩
 .rw[VH h,UN h,atY hf];rfl
 .rw[e,UO h];exact awH hf _ _
def axG{k:AH}{w r:A4}(hf:F1 k){o:AH}(h:Du k w r=I o):SmK o:=by
 have sm:=hf.sm;unfold Du at h;split at h
 .split at h<;>cases h;have a:=J4 (λx:A6=>A1<|Ai r<x.un) k.held;have b:=J4 (λx:Mark=>A1<|Ai r<x.mu) k.marks;have l1:=hf.hl;have l2:=hf.ml;exact⟨by unfold HQ;simp only;omega,λx hx=>sm.h x (FW.1 hx).1,by unfold KK;simp only;omega,sm.il,sm.i⟩
 split at h
 .cases hn:DP r with
  | none=>rw[hn]at h;cases h
  | some n=>
   rw[hn]at h;simp only at h;split at h
   .cases h
   split at h
   .cases h
   exact bz (k':=⟨k.id,k.ti,k.nx+1,k.held,k.marks,k.inbox⟩) hf ⟨rfl,rfl,rfl⟩ h
 split at h
 .cases hn:DP r with
  | none=>rw[hn]at h;cases h
  | some n=>
   rw[hn]at h;simp only at h;split at h
   .cases h
   exact bz (k':=k) hf ⟨rfl,rfl,rfl⟩ h
 split at h
 .split at h<;>cases h;exact sm
 split at h
 .cases hn:DP r with
  | none=>rw[hn]at h;cases h
  | some n=>
   have hok:=LM (KB hn).1;rw[hn]at h;simp only at h;split at h
   .cases h
   split at h
   .cases h
   split at h<;>cases h
   .have a:=RB hf.hl sm.h hok;exact⟨a.1,a.2,sm.ml,sm.il,sm.i⟩
   .have a:=RB hf.il sm.i hok;exact⟨sm.hl,sm.h,sm.ml,a.1,a.2⟩
 split at h
 .cases h
 split at h
 .split at h<;>cases h;have a:=bW (i:=(Ab k.held (mk3 r).mf (mk3 r).mn).toNat) hf.hl sm.h;exact⟨a.1,a.2,UL hf.ml,sm.il,sm.i⟩
 split at h
 .split at h<;>cases h;have a:=bW (i:=(Ab k.inbox (mk3 r).mf (mk3 r).mn).toNat) hf.il sm.i;exact⟨sm.hl,sm.h,sm.ml,a.1,a.2⟩
 split at h
 .split at h<;>cases h;exact⟨sm.hl,sm.h,UL hf.ml,sm.il,sm.i⟩
 .cases h
def aD7{id ti nx:Int}{rec:A4}{held:List A6}{marks:List Mark}{inbox:List A6}(sm:De held marks inbox)(hr:rec.size<=1048576):
  TF ((id,ti,nx,held,marks,inbox,()),rec,())=I ((tK (Fj ⟨id,ti,nx,held,marks,inbox⟩ rec).1,(Fj ⟨id,ti,nx,held,marks,inbox⟩ rec).2,()),()):=by
 unfold TF Fj;simp only[lI sm,aB6 sm,A9];rcases tf (Ay ⟨id,ti,nx,held,marks,inbox⟩) with h|h
 .have hf:=Bx h;have ha:=asA hf hr;have hko:=ayr hf rec;unfold flt at hko;simp only[h,AF,A7,A5];rw[← hko];cases hst:Du ⟨id,ti,nx,held,marks,inbox⟩ (wd rec).1 (wd rec).2 with
  | none=>
   rw[hst]at ha;obtain⟨t,ht⟩:=ha;simp only[ht,A9,AK,AF,Hl,A5,C0];rfl
  | some o=>
   rw[hst]at ha;have sm':=axG hf hst;rw[show XT ((id,ti,nx,held,marks,inbox,()),rec,())=I ((tK o,U,()),()) from ha];simp only[A9,AF,AK,Im,lI sm',aB6 sm',D8,D0,A5,Bn,Option.filter_some];rcases tf (Ay o) with h2|h2
   .simp only[h2,AF,A7,A5]
   .simp only[h2,AK,A7,A5]
 .simp only[h,AK,A7,A5]
def cK{s:A4}{a i:Nat}(h:a+i<s.size):bt (s.extract a s.size) i=bt s ((a+i:Nat):Int):=by
 rw[KI,KI,EK];congr 2;rw[BC,BC,List.getElem?_take_of_lt J,I2]
def aaB{s:A4}{a i j:Nat}(h:a+j<=s.size):(s.extract a s.size).extract i j=s.extract (a+i) (a+j):=by
 apply GG;rw[EK,EK,EK];rw[List.drop_take,J5,bF];congr 1;omega
def G9{s:A4}{a b:Nat}(hb:b<=s.size):(s.extract a b).size=b - a:=by
 rw[← B2,EK,DU,ES,B2];omega
def VP(s:A4):Int:=GF (min s.size 3) λi=>A1<|bt s i=58
def Dn(s:A4):Option (A4×Nat):=
 if VP s<0 then A0 else
 let c:=(VP s).toNat
 let n:=Ai (s.extract 0 c)
 if n<1 then A0 else if 60<n then A0 else
 if(s.size:Int)<c+2+n then A0 else
 if !decide (bt s ((c+1+n.toNat:Nat):Int)=59) then A0 else I (s.extract (c+1)<|c+1+n.toNat,c+2+n.toNat)
def Ye(s:A4):(VP s= -1/\ ∀i,i<min s.size 3->bt s (i:Int)≠58)\/ ∃c:Nat,VP s=c/\c<s.size/\c<3/\bt s (c:Int)=58/\ ∀i,i<c->bt s (i:Int)≠58:=by
 rcases GR (min s.size 3) (λi=>A1<|bt s i=58) with⟨h1,h2⟩|⟨c,h1,h2,h3,h4⟩
 .exact .inl ⟨h1,λi hi=>by simpa using h2 i hi⟩
 .exact .inr ⟨c,h1,J,J,by simpa using h3,λi hi=>by simpa using h4 i hi⟩
def asB{s:A4}(hs:s.size<=1048576):jb (s,())=I ((match Dn s with|some p=>(p.1,(p.2:Int),())|none=>(noB,0,())),()):=by
 have hb:∀i,i<min s.size 3->OU (s,(i:Int),())=if A1 (bt s (i:Int)=58) then OU (s,(i:Int),()) else I (.inl (s,((i+1:Nat):Int),())):=λi hi=>by
  have hi2:i<s.size:=J
  rcases tf (A1<|bt s (i:Int)=58) with h|h
  .rw[h];rfl
  .rw[h];have e1:A1 ((i:Int)<3)=U:=by simp;omega
   unfold OU;simp only[AU hi2,B9 hi2,h,B4 hi2 (by omega:s.size<=9223372036854775807),e1];rfl
 have GL:∃y,vQ (s,0,())=I y/\((Dn s=A0/\(y= .inl (noB,0,())\/y= .inr ()))\/ ∃p,Dn s=I p/\y= .inl (p.1,(p.2:Int),())):=by
  rcases Ye s with⟨h1,h2⟩|⟨c,h1,h2,h3,h4,h5⟩
  .refine⟨.inr (), ?_,.inl ⟨by unfold Dn;rw[h1,A8 J],.inr rfl⟩⟩;refine CG (λi=>(s,(i:Int),())) (min s.size 3) (λi hi=> ?_) ?_
   .rw[hb i hi,show A1 (bt s (i:Int)=58)=A3 by simpa using h2 i hi];rfl
   .unfold OU;have e:(A1 (((min s.size 3:Nat):Int)<(s.size:Int))&&A1 (((min s.size 3:Nat):Int)<3))=A3:=by
     rw[Bool.eq_false_iff];simp only[ne_eq,AG,decide_eq_true_eq];omega
    simp only[e];rfl
  .have DM:Dn s=(let n:=Ai<|s.extract 0 c;if n<1 then A0 else if 60<n then A0 else if(s.size:Int)<c+2+n then A0 else
     if !decide (bt s ((c+1+n.toNat:Nat):Int)=59) then A0 else I (s.extract (c+1)<|c+1+n.toNat,c+2+n.toNat)):=by
    unfold Dn;rw[h1,AD J];rfl
   have akg:∃y,OU (s,(c:Int),())=I (.inr y)/\((Dn s=A0/\(y= .inl (noB,0,())\/y= .inr ()))\/ ∃p,Dn s=I p/\y= .inl (p.1,(p.2:Int),())):=by
    rw[DM];unfold OU;have e1:A1 ((c:Int)<3)=U:=by simp;omega
    have e2:(A1 (0<=(c:Int))&&A1 ((c:Int)<=(s.size:Int)))=U:=by simp;omega
    have e3:(!decide (bt s (c:Int)=58))=A3:=by simp[h4]
    have hse:(s.extract 0 c).size=c:=G9 J;simp only[AU h2,B9 h2,e1,e2,e3,BZ,A7,Dq,A5,mG<|show(s.extract 0 c).size<=9223372036854775807 by omega,A9];have hrg:=Yz<|s.extract 0 c;generalize Ai (s.extract 0 c)=n at *;by_cases k1:n<1
    .exact⟨.inl (noB,0,()),by simp[k1],.inl ⟨by simp[k1],.inl rfl⟩⟩
    by_cases k2:60<n
    .exact⟨.inl (noB,0,()),by simp[k1,k2],.inl ⟨by simp[k1,k2],.inl rfl⟩⟩
    obtain⟨m,hm⟩:=HZ (show 0<=n by omega);subst hm;have w1:w64 ((c:Int)+2)=(c:Int)+2:=Ac J J;have w2:w64 ((c:Int)+1)=((c+1:Nat):Int):=by rw[Ac J J];omega
    have w3:w64 ((c:Int)+2+(m:Int))=((c+2+m:Nat):Int):=by rw[Ac J J];omega
    have w4:w64 (((c+1:Nat):Int)+(m:Int))=((c+1+m:Nat):Int):=by rw[Ac J J];omega
    simp only[w1,w2,w3,w4,BZ];by_cases k3:(s.size:Int)<(c:Int)+2+m
    .have k3':(s.size:Int)<((c+2+m:Nat):Int):=J
     exact⟨.inl (noB,0,()),by simp only[k1,k2,k3',Aa,Ag,A5,A7],.inl ⟨by simp[k1,k2,k3],.inl rfl⟩⟩
    have k3':¬(s.size:Int)<((c+2+m:Nat):Int):=J
    have k4:c+1+m<s.size:=J
    have e5:((A1 (0<=((c+1+m:Nat):Int))&&A1 (((c+1+m:Nat):Int)<=(s.size:Int)))&&(A1 (0<=((c+1:Nat):Int))&&A1 (((c+1:Nat):Int)<=((c+1+m:Nat):Int))))=U:=by
     simp only[AG,decide_eq_true_eq];omega
    simp only[k1,k2,k3,k3',Ag,A7,if_false,AU k4,A5,e5];rcases tf (!decide (bt s ((c+1+m:Nat):Int)=59)) with k5|k5
    .exact⟨.inl (noB,0,()),by simp only[k5,A5],.inl ⟨by simp only[k5,A5],.inl rfl⟩⟩
    .exact⟨.inl (s.extract (c+1)<|c+1+m,((c+2+m:Nat):Int),()),by simp only[k5,A7],.inr ⟨(s.extract (c+1)<|c+1+m,c+2+m),by simp only[k5,A7],rfl⟩⟩
   obtain⟨y,hy,hy2⟩:=akg;refine⟨y, ?_,hy2⟩;refine CG (λi=>(s,(i:Int),())) c (λi hi=> ?_) hy;rw[hb i J,show A1 (bt s (i:Int)=58)=A3 by simpa using h5 i hi];rfl
 obtain⟨y,hy,hy2⟩:=GL;unfold jb;simp only[hy];obtain⟨h1,rfl|rfl⟩|⟨p,h1,rfl⟩:=hy2<;>rw[h1]<;>rfl
def Tq{s:A4}{p:A4×Nat}(h:Dn s=I p):3<=p.2/\p.2<=s.size/\p.1.size<=60/\1<=p.1.size:=by
 unfold Dn at h;split at h
 .cases h
 rename_i hc;rcases Ye s with⟨h1,_⟩|⟨c,h1,h2,h3,h4,h5⟩
 .omega
 rw[h1]at h;simp only[BZ]at h;split at h
 .cases h
 split at h
 .cases h
 split at h
 .cases h
 split at h
 .cases h
 cases h;simp only;rw[G9 J];omega
def F6(log:A4):Nat->List A4->Nat->List A4×Nat
 | 0,out,at_=>(out,at_)
 | f+1,out,at_=>if at_<log.size then(match Dn (log.extract at_ log.size) with
  | none=>(out,at_)
  | some p=>F6 log f (out++[p.1]) (at_+p.2)) else(out,at_)
def aFV{log:A4}:∀(f:Nat) (out:List A4) (at_:Nat),at_<=log.size->out.length<=at_->(∀r∈out,r.size<=60/\1<=r.size)->
  (F6 log f out at_).2<=log.size/\(F6 log f out at_).1.length<=(F6 log f out at_).2/\ ∀r∈(F6 log f out at_).1,r.size<=60/\1<=r.size
 | 0,out,at_,h1,h2,h3=>⟨h1,h2,h3⟩
 | f+1,out,at_,h1,h2,h3=>by
  unfold F6;split
  .rename_i hlt;cases h:Dn (log.extract at_ log.size) with
   | none=>exact⟨h1,h2,h3⟩
   | some p=>
    obtain⟨a,b,c,d⟩:=Tq h;rw[G9<|Az _]at b;exact aFV f _ _ J (by simp;omega) (λr hr=>by
     rcases BN.1 hr with hr|hr
     .exact h3 r hr
     .obtain rfl:=CA.1 hr;exact⟨c,d⟩)
  .exact⟨h1,h2,h3⟩
def DE(log:A4):List A4×Nat:=F6 log (log.size+1) [] 0
def Qk(log:A4):(DE log).2<=log.size/\(DE log).1.length<=log.size/\ ∀r∈(DE log).1,r.size<=60/\1<=r.size:=by
 have:=aFV (log:=log) (log.size+1) [] 0 (D7 _) (D7 _) (λr hr=>by cases hr);exact⟨this.1,Ce this.2.1 this.1,this.2.2⟩
def nY{ρ:Type}{log:A4}{b:(A4×List A4×Int×A2)->Option ((A4×List A4×Int×A2) ⊕ ρ)}(ok:List A4->Nat->ρ->Prop)
  (h:∀(out:List A4) (at_:Nat),at_<log.size->out.length<=at_->match Dn (log.extract at_ log.size) with
   | some p=>b (log,out,(at_:Int),())=I (.inl (log,out++[p.1],((at_+p.2:Nat):Int),()))
   | none=>∃y,b (log,out,(at_:Int),())=I (.inr y)/\ok out at_ y)
  (hn:∀(out:List A4) (at_:Nat),log.size<=at_->∃y,b (log,out,(at_:Int),())=I (.inr y)/\ok out at_ y):
  ∀(f:Nat) (out:List A4) (at_:Nat),log.size<at_+f->at_<=log.size->out.length<=at_->∃y,AW b (log,out,(at_:Int),())=I y/\ok (F6 log f out at_).1 (F6 log f out at_).2 y
 | 0,out,at_,h1,h2,h3=>J
 | f+1,out,at_,h1,h2,h3=>by
  unfold F6;by_cases hlt:at_<log.size
  .rw[A8 hlt];have hb:=h out at_ hlt h3;cases DM:Dn (log.extract at_ log.size) with
   | none=>
    rw[DM]at hb;obtain⟨y,h4,h5⟩:=hb;exact⟨y,BE h4,h5⟩
   | some p=>
    rw[DM]at hb;obtain⟨a,c,_,_⟩:=Tq DM;rw[G9<|Az _]at c;obtain⟨y,h4,h5⟩:=nY ok h hn f (out++[p.1]) (at_+p.2) J J (by simp;omega);exact⟨y,Ap hb h4,h5⟩
  .rw[AD hlt];obtain⟨y,h4,h5⟩:=hn out at_ J;exact⟨y,BE h4,h5⟩
def Wl{log:A4}(hs:log.size<=1048576):Lz (log,())=I (((DE log).1,((DE log).2:Int),()),()):=by
 obtain⟨y,h1,h2⟩:=nY (log:=log) (b:=Sf) (λout at_ y=>y= .inl (out,(at_:Int),())\/y= .inr (out,(at_:Int),())) (λout at_ hlt hl=>by
  have hse:(log.extract at_ log.size).size=log.size - at_:=G9<|Az _;have e1:(A1 (0<=(at_:Int))&&A1 ((at_:Int)<=(log.size:Int)))=U:=by simp;omega
  have hb:Sf (log,out,(at_:Int),())=(match Dn (log.extract at_ log.size) with|some p=>I (.inl (log,out++[p.1],((at_+p.2:Nat):Int),()))|none=>I<|.inr<|.inl (out,(at_:Int),())):=by
   unfold Sf;simp only[B9 hlt,e1,A5,BZ,asB<|show(log.extract at_ log.size).size<=1048576 by omega,A9];cases DM:Dn (log.extract at_ log.size) with
   | none=>rfl
   | some p=>
    obtain⟨a,c,_,_⟩:=Tq DM;have e2:A1 (((p.2:Nat):Int)=0)=A3:=by simp;omega
    have e3:w64 ((at_:Int)+(p.2:Int))=((at_+p.2:Nat):Int):=by rw[Ac J J];omega
    simp only[e2,e3,A7,Bh,CN,DT,BG<|show out.length+1<=4294967296 by omega,A5]
  rw[hb];cases Dn (log.extract at_ log.size) with
  | none=>exact⟨_,rfl,.inl rfl⟩
  | some p=>rfl) (λout at_ hge=>by
  refine⟨.inr (out,(at_:Int),()), ?_,.inr rfl⟩;unfold Sf;have e:A1 ((at_:Int)<(log.size:Int))=A3:=by simp;omega
  simp only[e];rfl) (log.size+1) [] 0 J (D7 _) (D7 _)
 unfold Lz;rw[show u7 (log,[],0,())=I y from h1];obtain rfl|rfl:=h2<;>rfl
def aG6{log:A4}{out:List A4}{at_ n:Nat}(hs:log.size<=1048576)(h:∀i,i<n->at_+i<log.size/\bt log ((at_+i:Nat):Int)≠58)(hn:n<=3)(hle:at_+n<=log.size)
  (oQ:log.size<=at_+n\/n=3\/bt log ((at_+n:Nat):Int)=58):tZ (log,out,(at_:Int),(at_:Int),())=I (.inr (log,out,(at_:Int),((at_+n:Nat):Int),())):=by
 have e3:w64 ((at_:Int)+3)=((at_+3:Nat):Int):=by rw[Ac J J];omega
 refine CG (λi=>(log,out,(at_:Int),((at_+i:Nat):Int),())) n (λi hi=> ?_) ?_
 .obtain⟨h1,h2⟩:=h i hi;unfold fN;have e2:A1 (bt log ((at_+i:Nat):Int)=58)=A3:=by simpa using h2
  simp only[B9 h1,AU h1,e3,B9<|show at_+i<at_+3 by omega,e2,B4 h1 (by omega:log.size<=9223372036854775807)];rfl
 .unfold fN;by_cases h1:at_+n<log.size
  .simp only[B9 h1,AU h1,e3];obtain h2|h2|h2:=oQ
   .omega
   .have:A1 (((at_+n:Nat):Int)<((at_+3:Nat):Int))=A3:=by simp;omega
    rw[this];rfl
   .rw[show A1 (bt log ((at_+n:Nat):Int)=58)=U by simpa using h2];cases A1 (((at_+n:Nat):Int)<((at_+3:Nat):Int))<;>rfl
  .have e1:A1 (((at_+n:Nat):Int)<(log.size:Int))=A3:=by simp;omega
   simp only[e1,A7,Hl,A5]
def ak0{log:A4}{out:List A4}{at_:Nat}(hs:log.size<=1048576)(hlt:at_<log.size)(hl:out.length<=at_):
  Sk (log,out,(at_:Int),())=I (match Dn (log.extract at_ log.size) with|some p=> .inl (log,out++[p.1],((at_+p.2:Nat):Int),())|none=> .inr<|.inr (out,(at_:Int),())):=by
 have hse:(log.extract at_ log.size).size=log.size - at_:=G9<|Az _;unfold Sk;simp only[B9 hlt,A5];rcases Ye (log.extract at_ log.size) with⟨h1,h2⟩|⟨c,h1,h2,h3,h4,h5⟩
 .have DM:Dn (log.extract at_ log.size)=A0:=by unfold Dn;rw[h1,A8 J]
  have hb:∀i,i<min (log.size - at_) 3->at_+i<log.size/\bt log ((at_+i:Nat):Int)≠58:=λi hi=>by
   refine⟨J, ?_⟩;rw[← cK J];exact h2 i (by rw[hse];exact hi)
  rw[DM,aG6 (n:=min (log.size - at_) 3) hs hb J J J];simp only[CB];by_cases h6:log.size<=at_+min (log.size - at_) 3
  .have e:A1 ((log.size:Int)<=((at_+min (log.size - at_) 3:Nat):Int))=U:=by simp;omega
   simp only[e,AF,Hl,A5,C0]
  .have e:A1 ((log.size:Int)<=((at_+min (log.size - at_) 3:Nat):Int))=A3:=by simp;omega
   have hm:min (log.size - at_) 3=3:=J
   rw[hm]at e h6 ⊢;simp only[e,AU<|show at_+3<log.size by omega,AK,Im,A5,Bn];rcases tf (A1<|bt log ((at_+3:Nat):Int)=58) with h7|h7
   .simp only[h7,AF,A7];have e4:((A1 (0<=((at_+3:Nat):Int))&&A1 (((at_+3:Nat):Int)<=(log.size:Int)))&&(A1 (0<=(at_:Int))&&A1 ((at_:Int)<=((at_+3:Nat):Int))))=U:=by simp;omega
    simp only[e4,A5,BZ];have hz:(log.extract at_<|at_+3).size=3:=by rw[G9 J];omega
    rw[jH J];simp only[A9];rcases TZ (log.extract at_<|at_+3) with h8|⟨n,h8,h9,h10⟩
    .simp only[h8];rfl
    .have h11:100<=n:=by
      rcases Gm n 100 with h12|h12
      .have:=ML 2 n J J;rw[← h10,B2]at this;omega
      .exact h12
     have e5:inB (n:Int) 1 60=A3:=by simp[inB];omega
     simp only[h8,EW,A9,e5];rfl
   .simp only[h7];rfl
 .have hb:∀i,i<c->at_+i<log.size/\bt log ((at_+i:Nat):Int)≠58:=λi hi=>by
   refine⟨J, ?_⟩;rw[← cK J];exact h5 i hi
  have h4':bt log ((at_+c:Nat):Int)=58:=by rw[← cK J];exact h4
  have hc:at_+c<log.size:=J
  rw[aG6 (n:=c) hs hb J J<|.inr<|.inr h4'];simp only[CB];have e:A1 ((log.size:Int)<=((at_+c:Nat):Int))=A3:=by simp;omega
  have e4:((A1 (0<=((at_+c:Nat):Int))&&A1 (((at_+c:Nat):Int)<=(log.size:Int)))&&(A1 (0<=(at_:Int))&&A1 ((at_:Int)<=((at_+c:Nat):Int))))=U:=by simp;omega
  simp only[e,AU hc,AK,Im,A5,Bn,show A1 (bt log ((at_+c:Nat):Int)=58)=U by simpa using h4',AF,A7,e4,BZ];have hz:(log.extract at_<|at_+c).size=c:=by rw[G9 J];omega
  have hz2:(log.extract at_ log.size).extract 0 c=log.extract at_ (at_+c):=by rw[aaB J];simp
  rw[jH J];have DM:Dn (log.extract at_ log.size)=(let n:=Ai<|log.extract at_<|at_+c;if n<1 then A0 else if 60<n then A0 else if((log.extract at_ log.size).size:Int)<c+2+n then A0 else
    if !decide (bt (log.extract at_ log.size) ((c+1+n.toNat:Nat):Int)=59) then A0 else I ((log.extract at_ log.size).extract (c+1)<|c+1+n.toNat,c+2+n.toNat)):=by
   unfold Dn;rw[h1,AD J,BZ];simp only[hz2]
  rw[DM];simp only[A9];rcases TZ (log.extract at_<|at_+c) with h8|⟨n,h8,h9,h10⟩
  .have hd:Ai (log.extract at_<|at_+c)= -1:=by
    rcases TW (log.extract at_<|at_+c) with⟨h9,_⟩|⟨n,h9,h10,h11⟩
    .exact h9
    .rw[nL J h11]at h8;cases h8
   simp only[h8,hd];rfl
  .rw[qT J h10];simp only[h8,EW,A9,AF,A7,BZ,hse];by_cases h11:(n:Int)<1
   .rw[A8 h11,show inB (n:Int) 1 60=A3 by simp[inB];omega];rfl
   .rw[AD h11];by_cases h12:60<(n:Int)
    .rw[A8 h12,show inB (n:Int) 1 60=A3 by simp[inB];omega];rfl
    .rw[AD h12,show inB (n:Int) 1 60=U by simp[inB];omega];have e5:w64 (((at_+c:Nat):Int)+1)=((at_+c+1:Nat):Int):=by rw[Ac J J];omega
     have e6:w64 (((at_+c+1:Nat):Int)+(n:Int))=((at_+c+1+n:Nat):Int):=by rw[Ac J J];omega
     simp only[e5,e6,AF,A7];by_cases h13:at_+c+1+n<log.size
     .rw[AD<|show ¬(((log.size - at_:Nat):Int)<c+2+n) by omega];have e7:A1 ((log.size:Int)<=((at_+c+1+n:Nat):Int))=A3:=by simp;omega
      simp only[e7,A7,AU h13,A5];have e10:bt (log.extract at_ log.size) ((c+1+n:Nat):Int)=bt log ((at_+c+1+n:Nat):Int):=by rw[cK<|show at_+(c+1+n)<log.size by omega,show at_+(c+1+n)=at_+c+1+n by omega]
      simp only[e10];rcases tf (A1<|bt log ((at_+c+1+n:Nat):Int)=59) with h14|h14
      .have e8:((A1 (0<=((at_+c+1+n:Nat):Int))&&A1 (((at_+c+1+n:Nat):Int)<=(log.size:Int)))&&(A1 (0<=((at_+c+1:Nat):Int))&&A1 (((at_+c+1:Nat):Int)<=((at_+c+1+n:Nat):Int))))=U:=by simp;omega
       have e9:w64 (((at_+c+1+n:Nat):Int)+1)=((at_+(c+2+n):Nat):Int):=by rw[Ac J J];omega
       simp only[h14,AF,A7,e8,A5,Bh,CN,DT,BG<|show out.length+1<=4294967296 by omega,BZ,e9,aaB<|show at_+(c+1+n)<=log.size by omega];rw[show at_+(c+1)=at_+c+1 by omega,show at_+(c+1+n)=at_+c+1+n by omega]
      .simp only[h14,AK,A5]
     .rw[A8<|show(((log.size - at_:Nat):Int)<c+2+n) by omega];have e7:A1 ((log.size:Int)<=((at_+c+1+n:Nat):Int))=U:=by simp;omega
      simp only[e7,A5]
def fl{log:A4}(hs:log.size<=1048576):QQ (log,())=I (((DE log).1,((DE log).2:Int),()),()):=by
 obtain⟨y,h1,h2⟩:=nY (log:=log) (b:=Sk) (λout at_ y=>y= .inr (out,(at_:Int),())) (λout at_ hlt hl=>by
  rw[ak0 hs hlt hl];cases Dn (log.extract at_ log.size) with
  | none=>exact⟨_,rfl,rfl⟩
  | some p=>rfl) (λout at_ hge=>by
  refine⟨.inr (out,(at_:Int),()), ?_,rfl⟩;unfold Sk;have e:A1 ((at_:Int)<(log.size:Int))=A3:=by simp;omega
  simp only[e];rfl) (log.size+1) [] 0 J (D7 _) (D7 _)
 unfold QQ;rw[show td (log,[],0,())=I y from h1];subst h2;have h3:=Qk log;simp only[CB];rw[show(F6 log (log.size+1) [] 0)=DE log from rfl,tX J];rfl
abbrev zK:AH:=⟨0,0,0,[],[],[]⟩
def BM(k:AH)(r:A4):Option AH:=if(Fj k r).2 then I (Fj k r).1 else A0
def F2(k:AH)(rs:List A4):Option AH:=rs.foldlM BM k
def Ci(id:Int)(rs:List A4):Option AH:=if isN id then F2 ⟨id,0,1,[],[],[]⟩ rs else A0
def aGb{σ β γ κ α:Type}{b:σ->Option (σ ⊕ (β ⊕ γ))}(st:Nat->κ->σ)(l:List α)(f:κ->α->Option κ)(bad:β)(fin:κ->γ)(Tc:κ->Prop)
  (h:∀i k x,l[i]? =I x->Tc k->b (st i k)=I (match f k x with|some k'=> .inl (st (i+1) k')|none=> .inr<|.inl bad))
  (hn:∀k,Tc k->b (st l.length k)=I (.inr<|.inr<|fin k))(hI:∀k x k',Tc k->f k x=I k'->Tc k'):
  ∀k,Tc k->AW b (st 0 k)=I (match l.foldlM f k with|some k'=> .inr (fin k')|none=> .inl bad):=by
 have:∀(m i:Nat),i+m=l.length->∀k,Tc k->AW b (st i k)=I (match (l.drop i).foldlM f k with|some k'=> .inr (fin k')|none=> .inl bad):=by
  intro m
  induction m with
  | zero=>
   intro i hi k hk;rw[List.drop_of_length_le J,show i=l.length by omega];exact BE<|hn k hk
  | succ m ih=>
   intro i hi k hk;have hlt:i<l.length:=J
   rw[Up hlt,Un];have hb:=h i k l[i] (Au hlt) hk;cases hf:f k l[i]with
   | none=>rw[hf]at hb;exact BE hb
   | some k'=>rw[hf]at hb;exact Ap hb<|ih (i+1) J k'<|hI k _ k' hk hf
 intro k hk;have:=this l.length 0 J k hk;rwa[J6]at this
def ass{k:AH}{r:A4}(h:(Fj k r).2=U):Ay (Fj k r).1=U:=by
 unfold Fj at h ⊢;split at h<;>rename_i hk
 .rw[A8 hk];cases hs:(GY k r).filter Ay with
  | none=>rw[hs]at h;cases h
  | some o=>exact(Jk.1 hs).2
 .cases h
def Ty{k o:AH}{r:A4}(h:BM k r=I o):Ay o=U:=by
 unfold BM at h;split at h
 .cases h;exact ass (by assumption)
 .cases h
def aGU{k:AH}(h:Ay k=U):SmK k:=by
 have hf:=Bx h;have hn:∀ {l:List A6},DX l=U->∀x∈l,GX x:=fun {l} hl x hx=>by
  obtain⟨i,hi,rfl⟩:=Cy hx;have:=HL hl hi;rw[DH<|Au hi]at this;exact LM this
 exact⟨by have:=hf.hl;omega,hn hf.h,by have:=hf.ml;omega,by have:=hf.il;omega,hn hf.i⟩
def TP{id:Int}(h:isN id=U):Ay ⟨id,0,1,[],[],[]⟩=U:=by
 unfold Ay;simp only[h];rfl
def aFk:∀ {rs:List A4} {k o:AH},Ay k=U->F2 k rs=I o->Ay o=U
 | [],k,o,hk,h=>by cases h;exact hk
 | r::rs,k,o,hk,h=>by
  unfold F2 at h;rw[Un]at h;cases hs:BM k r with
  | none=>rw[hs]at h;cases h
  | some k'=>rw[hs]at h;exact aFk (rs:=rs) (Ty hs) h
def Qr{id:Int}{rs:List A4}{o:AH}(h:Ci id rs=I o):Ay o=U:=by
 unfold Ci at h;split at h
 .exact aFk (TP<|by assumption) h
 .cases h
def aop{id:Int}{rs:List A4}(hl:rs.length<=1048576)(hr:∀r∈rs,r.size<=1048576):jm (id,rs,())=I ((tK<|(Ci id rs).getD zK,(Ci id rs).isSome,()),()):=by
 unfold jm Ci;simp only[K7,A9,ahk];rcases tf (isN id) with h|h
 .simp only[h,AF,A7,A5];have:=aGb (b:=XI) (λi (k:AH)=>(tK zK,tK k,rs,(rs.length:Int),(i:Int),())) rs BM (tK zK,A3,()) (λk=>(tK zK,tK k,())) (λk=>Ay k=U) (λi k x hx hk=>by
   have hi:=(BP.1 hx).1;have hxs:=hr x<|Cu hx;unfold XI;simp only[B9 hi,AU hi,PI,JR hx,A5];rw[aDL (aGU hk) hxs];unfold BM;simp only[A9];rcases tf (Fj k x).2 with h2|h2
   .simp only[h2,AF,A7,A5,B4 hi (by omega:rs.length<=9223372036854775807)]
   .simp only[h2,AK,A7,A5]) (λk hk=>by simp[XI]) (λk x k' _ hs=>Ty hs) ⟨id,0,1,[],[],[]⟩ (TP h)
  rw[show vn ((0,0,0,[],[],[],()),(id,0,1,[],[],[],()),rs,(rs.length:Int),0,())=_ from this];unfold F2;cases rs.foldlM BM ⟨id,0,1,[],[],[]⟩<;>rfl
 .simp only[h,AK,A7,A5];rfl
def aCY{id:Int}{rs:List A4}(hl:rs.length<=1048576)(hr:∀r∈rs,r.size<=1048576):TE (id,rs,())=I ((tK<|(Ci id rs).getD zK,(Ci id rs).isSome,()),()):=by
 unfold TE Ci;simp only[K9,A9,ahC];rcases tf (isN id) with h|h
 .simp only[h,AF,A7,A5];have:=aGb (b:=XQ) (λi (k:AH)=>(rs,tK zK,tK k,(i:Int),())) rs BM (tK zK,A3,()) (λk=>(tK zK,tK k,())) (λk=>Ay k=U) (λi k x hx hk=>by
   have hi:=(BP.1 hx).1;have hxs:=hr x<|Cu hx;unfold XQ;simp only[B9 hi,AU hi,PI,JR hx,A5];rw[aD7 (aGU hk) hxs];unfold BM;simp only[A9];rcases tf (Fj k x).2 with h2|h2
   .simp only[h2,AF,A7,A5,B4 hi (by omega:rs.length<=9223372036854775807)]
   .simp only[h2,AK,A7,A5]) (λk hk=>by simp[XQ]) (λk x k' _ hs=>Ty hs) ⟨id,0,1,[],[],[]⟩ (TP h)
  rw[show vN (rs,(0,0,0,[],[],[],()),(id,0,1,[],[],[],()),0,())=_ from this];unfold F2;cases rs.foldlM BM ⟨id,0,1,[],[],[]⟩<;>rfl
 .simp only[h,AK,A7,A5];rfl
def DW(id:Int)(log:A4):Option AH:=Ci id (DE log).1
def QY{id:Int}{log:A4}(hs:log.size<=1048576):K5 (id,log,())=I ((tK<|(DW id log).getD zK,(DW id log).isSome,()),()):=by
 have h:=Qk log;unfold K5 DW;rw[fl hs];simp only[A9];rw[aop J (λr hr=>by have:=h.2.2 r hr;omega)];rfl
def nE{id fo:Int}{up:Bool}{log:A4}{hv:List AJ}(hs:log.size<=1048576):GQ ((id,up,log,fo,hv,()),())=I ((tK<|(DW id log).getD zK,(DW id log).isSome,()),()):=by
 have h:=Qk log;unfold GQ DW;rw[Wl hs];simp only[A9];rw[aCY J (λr hr=>by have:=h.2.2 r hr;omega)];rfl
def DO(lg:A4)(fo:Int):Bool:=A1 (lg.size<=2400)&&(inB fo 0 lg.size&&(A1 (((DE lg).2:Int)=lg.size)&&A1 (((DE<|lg.extract 0 fo.toNat).2:Int)=fo)))
def XH{lg:A4}{fo:Int}(hs:lg.size<=1048576):OY ((lg,fo,()),())=I ((DO lg fo,()),()):=by
 unfold OY DO;simp only[EW,fl hs,A9,D8,D0];by_cases h1:lg.size<=2400
 .have e1:A1 (2400<(lg.size:Int))=A3:=by simp;omega
  simp only[e1,h1,AK,Im,A5,Bn,Aa,AY];rcases tf (inB fo 0 lg.size) with h2|h2
  .have h3:=Ad.1 h2;have e2:(A1 (0<=fo)&&A1 (fo<=(lg.size:Int)))=U:=by simp;omega
   simp only[h2,AF,A7,e2,A5,AY];rw[fl (by rw[G9 J];omega)];rfl
  .simp only[h2,AK,A5,AS]
 .have e1:A1 (2400<(lg.size:Int))=U:=by simp;omega
  simp only[e1,h1,AF,Hl,A5,C0,Ag,AS]
def XP{lg:A4}{fo:Int}(hs:lg.size<=1048576):OV ((lg,fo,()),())=I ((DO lg fo,()),()):=by
 unfold OV DO;simp only[IB,Wl hs,A9,D8,D0];by_cases h1:lg.size<=2400
 .have e1:A1 (2400<(lg.size:Int))=A3:=by simp;omega
  simp only[e1,h1,AK,Im,A5,Bn,Aa,AY];rcases tf (inB fo 0 lg.size) with h2|h2
  .have h3:=Ad.1 h2;have e2:(A1 (0<=fo)&&A1 (fo<=(lg.size:Int)))=U:=by simp;omega
   simp only[h2,AF,A7,e2,A5,AY];rw[Wl (by rw[G9 J];omega)];rfl
  .simp only[h2,AK,A5,AS]
 .have e1:A1 (2400<(lg.size:Int))=U:=by simp;omega
  simp only[e1,h1,AF,Hl,A5,C0,Ag,AS]
def Fa(p:Bool):Ah p U=U:=by cases p<;>rfl
def axb{k o:AH}{w:A4}{n:Int}(h:Hy k w n=I o):o.id=k.id:=by
 unfold Hy at h
 repeat' split at h
 all_goals first|(cases h;done)|(cases h;rfl)
def aJy{k o:AH}{n:A6}(h:Ej k n=I o):o.id=k.id:=by
 unfold Ej at h
 repeat' split at h
 all_goals first|(cases h;done)|(cases h;rfl)
def asJ{k o:AH}{w:A4}{n:A6}(h:GW k w n=I o):o.id=k.id:=by
 unfold GW at h;split at h
 .exact(aJy h).trans rfl
 split at h
 .exact aJy h
 split at h
 .cases h
 repeat' split at h
 all_goals first|(cases h;done)|(cases h;rfl)
def asM{k o:AH}{w:A4}{m:Mark}(h:F3 k w m=I o):o.id=k.id:=by
 unfold F3 at h
 repeat' split at h
 all_goals first|(cases h;done)|(cases h;rfl)
def avC{k o:AH}{w r:A4}(h:Bd k w r=I o):o.id=k.id:=by
 unfold Bd at h;split at h
 .split at h
  .exact axb h
  .cases h
 split at h
 .split at h
  .exact asJ h
  .cases h
 split at h
 .split at h
  .exact asM h
  .cases h
 .cases h
def aw7{k o:AH}{r:A4}(h:BM k r=I o)(hk:Ay k=U):o.id=k.id:=by
 unfold BM at h;split at h
 case isFalse=>cases h
 rename_i h2;cases h;unfold Fj at h2 ⊢;simp only[hk,A5]at h2 ⊢;cases hs:(GY k r).filter Ay with
 | none=>rfl
 | some o=>
  simp only;have:=(Jk.1 hs).1;unfold GY at this;split at this
  .cases this
  .exact avC this
def aFl:∀ {rs:List A4} {k o:AH},Ay k=U->F2 k rs=I o->o.id=k.id
 | [],k,o,_,h=>by cases h;rfl
 | r::rs,k,o,hk,h=>by
  unfold F2 at h;rw[Un]at h;cases hs:BM k r with
  | none=>rw[hs]at h;cases h
  | some k'=>rw[hs]at h;exact(aFl (rs:=rs) (Ty hs) h).trans<|aw7 hs hk
def o9{id:Int}{rs:List A4}{o:AH}(h:Ci id rs=I o):o.id=id:=by
 unfold Ci at h;split at h
 .exact aFl (k:=⟨id,0,1,[],[],[]⟩) (TP<|by assumption) h
 .cases h
def xA(l:List AX)(i:Nat):AX:=l.getD i<|dfl .mixed
def hA(l:List AJ)(i:Nat):AJ:=l.getD i<|dfl .half
def Zu(l:List AX)(i:Nat): @rd AX (dfl .mixed) l (i:Int)=xA l i:=rfl
def aY(l:List AJ)(i:Nat): @rd AJ (dfl .half) l (i:Int)=hA l i:=rfl
def awU{l:List AX}{i j:Nat}(h:j<i):xA (l.take i) j=xA l j:=by
 unfold xA;simp[BC,h]
def IP(l:List AX)(i:Nat):Bool:=(inB (xA l i).nu 0 999&&A1 (((xA l i).da.size:Int)=4))&&As i λj=> !decide ((xA l j).nu=(xA l i).nu)
def GD(h:AJ):Bool:=isN h.fr&&(isN h.to&&(inB h.nu 1 99&&(inB h.un 1 999&&(inB h.sz 1 24&&(A1 ((h.got.length:Int)<=14)&&As h.got.length (IP h.got))))))
def aoh{h:AJ}(sm:PT h):jS ((h.fr,h.nu,h.to,h.un,h.sz,h.got,()),())=I ((GD h,()),()):=by
 have hl:h.got.length<=9223372036854775807:=by have:=sm.1;omega
 have GL:vY ((h.fr,h.nu,h.to,h.un,h.sz,h.got,()),h.got,(h.got.length:Int),0,())=I (if As h.got.length (IP h.got) then .inr () else .inl (A3,())):=
  Cs (λi=>((h.fr,h.nu,h.to,h.un,h.sz,h.got,()),h.got,(h.got.length:Int),(i:Int),())) h.got.length (IP h.got) (A3,()) () (λi hi=>by
   unfold iz IP;simp only[B9 hi,AU hi,A5,Zu,EW,A9];rcases tf (inB (xA h.got i).nu 0 999) with e|e<;>rcases tfp (((xA h.got i).da.size:Int)=4) with e'|e'
   rotate_left
   .simp only[e,e',Ag,Bc,AK,Da,AS,A5,A7]
   .simp only[e,AS,AK,C0,A5,A7]
   .simp only[e,AS,AK,C0,A5,A7]
   .have e2:(A1 (0<=(i:Int))&&A1 ((i:Int)<=(h.got.length:Int)))=U:=by simp;omega
    have e3:(BS i h.got).length=i:=by simp;omega
    simp only[e,e',Aa,AF,Gl,A7,e2,A5,BZ,e3,AY];have hin:vX ((h.fr,h.nu,h.to,h.un,h.sz,h.got,()),((xA h.got i).nu,(xA h.got i).da,()),h.got,(h.got.length:Int),(i:Int),BS i h.got,(i:Int),0,())=
      I (if As i (λj=> !decide ((xA h.got j).nu=(xA h.got i).nu)) then .inr ((h.fr,h.nu,h.to,h.un,h.sz,h.got,()),h.got,(h.got.length:Int),(i:Int),()) else .inl (A3,())):=
     Cs (λj=>((h.fr,h.nu,h.to,h.un,h.sz,h.got,()),((xA h.got i).nu,(xA h.got i).da,()),h.got,(h.got.length:Int),(i:Int),BS i h.got,(i:Int),(j:Int),())) i (λj=> !decide ((xA h.got j).nu=(xA h.got i).nu)) (A3,()) _ (λj hj=>by
      unfold iy;simp only[B9 hj,e3,AU hj,A5,Zu,awU hj,B4 hj (by omega:i<=9223372036854775807)];rcases tfp ((xA h.got j).nu=(xA h.got i).nu) with e4|e4<;>simp only[e4,Aa,Ag]<;>rfl) (by simp[iy])
    rw[hin];rcases tf (As i λj=> !decide ((xA h.got j).nu=(xA h.got i).nu)) with e4|e4
    .simp only[e4,A5,CB,B4 hi hl]
    .simp only[e4,A7,G8]) (by simp[iz])
 unfold jS GD;simp only[K7,EW,A9,GL];rcases tf (isN h.fr) with e|e<;>simp only[e,AF,AK,A5,A7,AY,AS];rcases tf (isN h.to) with e|e<;>simp only[e,AF,AK,A5,A7,AY,AS];rcases tf (inB h.nu 1 99) with e|e<;>simp only[e,AF,AK,A5,A7,AY,AS];rcases tf (inB h.un 1 999) with e|e<;>simp only[e,AF,AK,A5,A7,AY,AS];rcases tf (inB h.sz 1 24) with e|e<;>simp only[e,AF,AK,A5,A7,AY,AS];rcases Ef (h.got.length:Int) 14 with⟨e1,e2⟩|⟨e1,e2⟩<;>simp only[e1,e2,Aa,Ag,A5,A7,AY,AS];rcases tf (As h.got.length<|IP h.got) with e|e<;>simp only[e,A5,A7]<;>rfl
def au6{sz:Int}(h:inB sz 1 24=U):inB (w64<|B5 (w64<|w64 (sz+4) - 1) 4) 1 6=U:=by
 have h:=Ad.1 h;rw[Ac (n:=sz+4) J J,Ac (n:=sz+4 - 1) J J];have e:B5 (sz+4 - 1) 4=(sz+4 - 1) / 4:=Gj J;rw[e,Ac J J,Ad];omega
def apL{h:AJ}(sm:PT h):gI ((h.fr,h.nu,h.to,h.un,h.sz,h.got,()),())=I ((GD h,()),()):=by
 have hl:h.got.length<=9223372036854775807:=by have:=sm.1;omega
 have GL:inB h.sz 1 24=U->tv ((h.fr,h.nu,h.to,h.un,h.sz,h.got,()),0,())=I (if As h.got.length (IP h.got) then .inr () else .inl (A3,())):=λhz=>
  Cs (λi=>((h.fr,h.nu,h.to,h.un,h.sz,h.got,()),(i:Int),())) h.got.length (IP h.got) (A3,()) () (λi hi=>by
   unfold fc IP M6 TB NK;simp only[B9 hi,AU hi,A5,Zu,IB,A9,au6 hz,Im,D8,D0,AY];rcases tf (inB (xA h.got i).nu 0 999) with e|e<;>rcases tfp (((xA h.got i).da.size:Int)=4) with e'|e'
   rotate_left
   .simp only[e,e',Ag,Bc,AK,AS,A5,A7]
   .simp only[e,AS,AK,A5,A7]
   .simp only[e,AS,AK,A5,A7]
   .simp only[e,e',Aa,Dq,AF,A7,AY];have hin:tu ((h.fr,h.nu,h.to,h.un,h.sz,h.got,()),(i:Int),0,())=
      I (if As i (λj=> !decide ((xA h.got j).nu=(xA h.got i).nu)) then .inr ((h.fr,h.nu,h.to,h.un,h.sz,h.got,()),(i:Int),()) else .inl (A3,())):=
     Cs (λj=>((h.fr,h.nu,h.to,h.un,h.sz,h.got,()),(i:Int),(j:Int),())) i (λj=> !decide ((xA h.got j).nu=(xA h.got i).nu)) (A3,()) _ (λj hj=>by
      unfold fb;simp only[B9 hj,AU hi,AU<|bU hj hi,A5,Zu,B4 hj (by omega:i<=9223372036854775807)];rcases tfp ((xA h.got j).nu=(xA h.got i).nu) with e4|e4<;>simp only[e4,Aa,Ag]<;>rfl) (by simp[fb])
    rw[hin];rcases tf (As i λj=> !decide ((xA h.got j).nu=(xA h.got i).nu)) with e4|e4
    .simp only[e4,A5,CB,B4 hi hl]
    .simp only[e4,A7,G8]) (by simp[fc])
 unfold gI GD;simp only[K9,IB,A9];rcases tf (isN h.fr) with e|e<;>simp only[e,AF,AK,A5,A7,AY,AS];rcases tf (isN h.to) with e|e<;>simp only[e,AF,AK,A5,A7,AY,AS];rcases tf (inB h.nu 1 99) with e|e<;>simp only[e,AF,AK,A5,A7,AY,AS];rcases tf (inB h.un 1 999) with e|e<;>simp only[e,AF,AK,A5,A7,AY,AS];rcases tf (inB h.sz 1 24) with e|e<;>simp only[e,AF,AK,A5,A7,AY,AS];rw[GL e];rcases Ef (h.got.length:Int) 14 with⟨e1,e2⟩|⟨e1,e2⟩<;>simp only[e1,e2,Aa,Ag,A5,A7,AY,AS];rcases tf (As h.got.length<|IP h.got) with e|e<;>simp only[e,A5,A7]<;>rfl
def EP(l:List AJ)(f n:Int):Int:=GF l.length λi=>A1 ((hA l i).fr=f)&&A1 ((hA l i).nu=n)
def aDH{l:List AJ}{f n:Int}(hl:l.length<=1048576):TJ (l,f,n,())=I ((EP l f n,()),()):=by
 unfold TJ;have:=Qo (b:=XG) (λi=>(f,n,l,(l.length:Int),(i:Int),())) l.length (λi=>A1 ((hA l i).fr=f)&&A1 ((hA l i).nu=n)) (λr=>(r,())) () (λi hi=>by
  unfold XG;simp only[B9 hi,AU hi,A5,aY,B4 hi (by omega:l.length<=9223372036854775807)];rcases tfp ((hA l i).fr=f) with e|e<;>rcases tfp ((hA l i).nu=n) with e2|e2<;>simp only[e,e2,Aa,Ag]<;>rfl) (by simp[XG])
 rw[show vZ (f,n,l,(l.length:Int),0,())=_ from this];exact Tt
def aIc{n:Nat}{p:Nat->Bool}{i:Nat}(hi:i<n)(hp:p i=U):A1 (GF n p<(i:Int))= !(As i λj=> !p j):=by
 rcases GR n p with⟨_,h2⟩|⟨c,h1,h2,h3,h4⟩
 .rw[h2 i hi]at hp;cases hp
 .rw[h1];by_cases hc:c<i
  .have:As i (λj=> !p j)=A3:=by
    rw[Bool.eq_false_iff];intro h;have:=CE.1 h c hc;simp[h3]at this
   rw[this];simpa using hc
  .have:As i (λj=> !p j)=U:=CE.2 λj hj=>by rw[h4 j J];rfl
   rw[this];simp;omega
def G2(l:List AJ)(i:Nat):Bool:=GD (hA l i)&&As i λj=> !(A1 ((hA l j).fr=(hA l i).fr)&&A1 ((hA l j).nu=(hA l i).nu))
def Aj(k:AA):Bool:=isN k.id&&(DO k.log k.fo&&(A1 ((k.AM.length:Int)<=3)&&((k.up||decide (k.AM.length=0))&&(((DW k.id k.log).isSome&&(DW k.id<|k.log.extract 0 k.fo.toNat).isSome)&&As k.AM.length (G2 k.AM)))))
abbrev tKp(k:AA):Int×Bool×A4×Int×List AJ×A2:=(k.id,k.up,k.log,k.fo,k.AM,())
def ab9{l:List AJ}(h:∀x∈l,PT x)(i:Nat):PT (hA l i):=by
 unfold hA;rcases Gm i l.length with hi|hi
 .rw[JR<|Au hi];exact h _ (CV hi)
 .rw[BC,Hz hi];exact⟨by decide,λm hm=>by cases hm⟩
def K0{k:AA}(sm:Fc k):I7 (tKp k,())=I ((Aj k,()),()):=by
 obtain⟨id,up,lg,fo,hv⟩:=k;obtain⟨sl,hl,hs⟩:=sm;simp only at sl hl hs;have GL:di ((id,up,lg,fo,hv,()),hv,(hv.length:Int),0,())=I (if As hv.length (G2 hv) then .inr () else .inl (A3,())):=
  Cs (λi=>((id,up,lg,fo,hv,()),hv,(hv.length:Int),(i:Int),())) hv.length (G2 hv) (A3,()) () (λi hi=>by
   unfold fu G2;simp only[B9 hi,AU hi,A5,aY,aoh<|ab9 hs i,aDH hl,A9,D8,D0,Fa,B4 hi (by omega:hv.length<=9223372036854775807)];rcases tf (GD<|hA hv i) with e|e
   .have hf:=aIc (p:=λj=>A1 ((hA hv j).fr=(hA hv i).fr)&&A1 ((hA hv j).nu=(hA hv i).nu)) hi (by simp);unfold EP;simp only[e,AF,Bn,AY,hf];cases As i (λj=> !(A1 ((hA hv j).fr=(hA hv i).fr)&&A1 ((hA hv j).nu=(hA hv i).nu)))<;>rfl
   .simp only[e,AK,C0,A5,AS,A7]) (by simp[fu])
 unfold I7 Aj;simp only[K7,A9,XH sl];rcases tf (isN id) with e|e<;>simp only[e,AF,AK,A5,A7,AY,AS,Ou];rcases tf (DO lg fo) with e2|e2<;>simp only[e2,AF,AK,A5,A7,AY,AS,Ou];have e3:0<=fo/\fo<=(lg.size:Int):=by
  unfold DO at e2;simp only[AG]at e2;exact Ad.1 e2.2.1
 have e4:(A1 (0<=fo)&&A1 (fo<=(lg.size:Int)))=U:=by simp;omega
 rcases Ef (hv.length:Int) 3 with⟨e5,e6⟩|⟨e5,e6⟩<;>simp only[e5,e6,Aa,Ag,A5,A7,AY,AS,Ou];have Ie:∀b:Bool,(b=U)->BW (X:=(Int×Bool×A4×Int×List AJ×A2)×A2) (λj5=>
   (K5 (j5.1.1,j5.1.2.2.1,())).bind λr8=>
   (if(A1 (0<=j5.1.2.2.2.1)&&A1 (j5.1.2.2.2.1<=(j5.1.2.2.1.size:Int))) then
   (K5 (j5.1.1,(j5.1.2.2.1.extract (0)<|AR j5.1.2.2.2.1),())).bind λr9=>
   (if((!r8.1.2.1)||(!r9.1.2.1)) then
   I ((A3,()),())
   else
   (AP (di (j5.1,j5.1.2.2.2.2.1,(j5.1.2.2.2.2.1.length:Int),0,()))
   (λy56=>I (y56,()))
   (λy56=>I ((U,()),()))))
   else A0)) (I<|.inr ((id,up,lg,fo,hv,()),()))=I ((b&&(((DW id lg).isSome&&(DW id<|lg.extract 0 fo.toNat).isSome)&&As hv.length (G2 hv)),()),()):=by
  rintro b rfl;simp only[Bj,QY sl,A9,e4,A5];rw[QY (by rw[G9 J];omega)];simp only[A9,GL,AY];rcases tf (DW id lg).isSome with e|e<;>rcases tf (DW id<|lg.extract 0 fo.toNat).isSome with e2|e2<;>simp only[e,e2,AF,AK,Gl,C0,Da,A5,A7,Dq,Bc,AS,AY];rcases tf (As hv.length<|G2 hv) with e|e<;>simp only[e,A5,A7]<;>rfl
 rcases tf up with e7|e7
 .simp only[e7,AF,A7,C0];rw[e7]at Ie;exact Ie U rfl
 .simp only[e7,AK,A5,Bn];rw[e7]at Ie;by_cases e8:hv.length=0
  .have e9:A1 (0<(hv.length:Int))=A3:=by rw[e8];rfl
   simp only[e9,A7,e8,Aa];rw[e8]at Ie;exact Ie U rfl
  .have e9:A1 (0<(hv.length:Int))=U:=by simp;omega
   simp only[e9,A5,e8,Ag,AS,Ou]
def M7{k:AA}(sm:Fc k):JJ (tKp k,())=I ((Aj k,()),()):=by
 obtain⟨id,up,lg,fo,hv⟩:=k;obtain⟨sl,hl,hs⟩:=sm;simp only at sl hl hs;have GL:dm ((id,up,lg,fo,hv,()),0,())=I (if As hv.length (G2 hv) then .inr () else .inl (A3,())):=
  Cs (λi=>((id,up,lg,fo,hv,()),(i:Int),())) hv.length (G2 hv) (A3,()) () (λi hi=>by
   unfold gQ G2;simp only[B9 hi,AU hi,A5,aY,apL<|ab9 hs i,A9,B4 hi (by omega:hv.length<=9223372036854775807)];rcases tf (GD<|hA hv i) with e|e
   .simp only[e,AF,A7,AY];have hin:uH ((id,up,lg,fo,hv,()),(i:Int),0,())=I (if As i (λj=> !(A1 ((hA hv j).fr=(hA hv i).fr)&&A1 ((hA hv j).nu=(hA hv i).nu))) then .inr ((id,up,lg,fo,hv,()),(i:Int),()) else .inl (A3,())):=
     Cs (λj=>((id,up,lg,fo,hv,()),(i:Int),(j:Int),())) i (λj=> !(A1 ((hA hv j).fr=(hA hv i).fr)&&A1 ((hA hv j).nu=(hA hv i).nu))) (A3,()) _ (λj hj=>by
      unfold gP;simp only[B9 hj,AU hi,AU<|bU hj hi,A5,aY,Fa,B4 hj (by omega:i<=9223372036854775807)];rcases tfp ((hA hv j).fr=(hA hv i).fr) with e|e<;>rcases tfp ((hA hv j).nu=(hA hv i).nu) with e2|e2<;>simp only[e,e2,Aa,Ag]<;>rfl) (by simp[gP])
    rw[hin];rcases tf (As i λj=> !(A1 ((hA hv j).fr=(hA hv i).fr)&&A1 ((hA hv j).nu=(hA hv i).nu))) with e4|e4
    .simp only[e4,A5,CB,B4 hi (by omega:hv.length<=9223372036854775807)]
    .simp only[e4,A7,G8]
   .simp only[e,AK,A5,AS,A7]) (by simp[gQ])
 unfold JJ Aj;simp only[K9,A9,XP sl];rcases tf (isN id) with e|e<;>simp only[e,AF,AK,A5,A7,AY,AS,Ou];rcases tf (DO lg fo) with e2|e2<;>simp only[e2,AF,AK,A5,A7,AY,AS,Ou];have e3:0<=fo/\fo<=(lg.size:Int):=by
  unfold DO at e2;simp only[AG]at e2;exact Ad.1 e2.2.1
 have e4:(A1 (0<=fo)&&A1 (fo<=(lg.size:Int)))=U:=by simp;omega
 rcases Ef (hv.length:Int) 3 with⟨e5,e6⟩|⟨e5,e6⟩<;>simp only[e5,e6,Aa,Ag,A5,A7,AY,AS,Ou];have Ie:∀b:Bool,(b=U)->BW (X:=(Int×Bool×A4×Int×List AJ×A2)×A2) (λj5=>
   (if(A1 (0<=j5.1.2.2.2.1)&&A1 (j5.1.2.2.2.1<=(j5.1.2.2.1.size:Int))) then
   (Lz ((j5.1.2.2.1.extract (0)<|AR j5.1.2.2.2.1),())).bind λr8=>
   (TE (j5.1.1,r8.1.1,())).bind λr9=>
   (GQ j5).bind λr10=>
   (if((!r10.1.2.1)||(!r9.1.2.1)) then
   I ((A3,()),())
   else
   (AP (dm (j5.1,0,()))
   (λy27=>I (y27,()))
   (λy27=>I ((U,()),()))))
   else A0)) (I<|.inr ((id,up,lg,fo,hv,()),()))=I ((b&&(((DW id lg).isSome&&(DW id<|lg.extract 0 fo.toNat).isSome)&&As hv.length (G2 hv)),()),()):=by
  rintro b rfl;have hz:(lg.extract 0 fo.toNat).size<=1048576:=by rw[G9 J];omega
  have hg:=Qk<|lg.extract 0 fo.toNat;simp only[Bj,e4,A5,Wl hz,A9,aCY (id:=id) (show(DE<|lg.extract 0 fo.toNat).1.length<=1048576 by omega) (λr hr=>by have:=hg.2.2 r hr;omega),nE sl,GL,AY];rw[show Ci id (DE<|lg.extract 0 fo.toNat).1=DW id (lg.extract 0 fo.toNat) from rfl];rcases tf (DW id lg).isSome with e|e<;>rcases tf (DW id<|lg.extract 0 fo.toNat).isSome with e2|e2<;>simp only[e,e2,AF,AK,Gl,C0,Da,A5,A7,Dq,Bc,AS,AY];rcases tf (As hv.length<|G2 hv) with e|e<;>simp only[e,A5,A7]<;>rfl
 rcases tf up with e7|e7
 .simp only[e7,AF,A7,C0];rw[e7]at Ie;exact Ie U rfl
 .simp only[e7,AK,A5,Bn];rw[e7]at Ie;by_cases e8:hv.length=0
  .have e9:A1 (0<(hv.length:Int))=A3:=by rw[e8];rfl
   simp only[e9,A7,e8,Aa];rw[e8]at Ie;exact Ie U rfl
  .have e9:A1 (0<(hv.length:Int))=U:=by simp;omega
   simp only[e9,A5,e8,Ag,AS,Ou]
abbrev YR:=Int×List AA×List Bool×List AO×List A6×List A6×A2
def kA(l:List AA)(i:Nat):AA:=l.getD i<|dfl .AN
def pA(l:List AO)(i:Nat):AO:=l.getD i<|dfl .Ak
def bA(l:List Bool)(i:Nat):Bool:=l.getD i<|dfl .bool
def Ox(l:List AA)(i:Nat): @rd AA (dfl .AN) l (i:Int)=kA l i:=rfl
def aGs(l:List AO)(i:Nat): @rd AO (dfl .Ak) l (i:Int)=pA l i:=rfl
def HW(l:List A6):Bool:=As l.length λi=>B1<|nA l i
def Dy(p:AO):Bool:=isN p.src&&(isN p.dst&&((A1 (p.src - p.dst=1)||decide (p.dst - p.src=1))&&A1 ((p.data.size:Int)<=40)))
def Je(l:List AA)(i:Nat):Bool:=A1 ((kA l i).id=(i:Int))&&Aj (kA l i)
def GU(ti:Int)(ks:List AA)(ls:List Bool)(ra:List AO)(se go:List A6):Bool:=
 inB ti 0 99999&&(A1 ((ks.length:Int)=4)&&(A1 ((ls.length:Int)=3)&&(A1 ((ra.length:Int)<=30)&&((HW se&&A1 ((se.length:Int)<=6))&&((HW go&&A1 ((go.length:Int)<=6))&&
  (As ks.length (Je ks)&&As ra.length (λi=>Dy<|pA ra i)))))))
def Nc{l:List AA}(h:∀x∈l,Fc x)(i:Nat):Fc (kA l i):=by
 unfold kA;rcases Gm i l.length with hi|hi
 .rw[JR<|Au hi];exact h _ (CV hi)
 .rw[BC,Hz hi];exact⟨by decide,by decide,λm hm=>by cases hm⟩
def aDg{l:List A6}(hl:l.length<=1048576)(h:∀x∈l,GX x):Xs (l,())=I ((HW l&&A1 ((l.length:Int)<=6),()),()):=by
 have GL:wR (l,l,(l.length:Int),0,())=I (if HW l then .inr (l,()) else .inl (A3,())):=
  Cs (λi=>(l,l,(l.length:Int),(i:Int),())) l.length (λi=>B1<|nA l i) (A3,()) (l,()) (λi hi=>by
   unfold jl;simp only[B9 hi,AU hi,A5,Ch,Xe<|VO h i,A9,B4 hi (by omega:l.length<=9223372036854775807)];rcases tf (B1<|nA l i) with e|e<;>simp only[e]<;>rfl) (by simp[jl])
 unfold Xs;simp only[GL];rcases tf (HW l) with e|e<;>simp only[e]<;>rfl
def EB{n:Int}(h:isN n=U):0<=n/\n<=3:=Ad.1 h
def Zl{a b:Int}(ha:isN a=U)(hb:isN b=U):w64 (a - b)=a - b:=by
 have:=EB ha;have:=EB hb;exact Ac J J
def ajz{w:YR}{ks:List AA}(kl:ks.length<=1048576)(k:∀x∈ks,Fc x):
  vC (w,ks,(ks.length:Int),0,())=I (if As ks.length (Je ks) then .inr (w,()) else .inl (A3,())):=
 Cs (λi=>(w,ks,(ks.length:Int),(i:Int),())) ks.length (Je ks) (A3,()) (w,()) (λi hi=>by
  have hk:=K0<|Nc k i;unfold iA Je;simp only[B9 hi,AU hi,A5,Ox,hk,D8,D0,Fa,B4 hi (by omega:ks.length<=9223372036854775807)];rcases tfp ((kA ks i).id=(i:Int)) with e|e<;>rcases tf (Aj<|kA ks i) with e2|e2<;>simp only[e,e2,Aa,Ag]<;>rfl) (by simp[iA])
def aAT{ra:List AO}(rl:ra.length<=1048576):
  vB (ra,(ra.length:Int),0,())=I (if As ra.length (λi=>Dy<|pA ra i) then .inr () else .inl (A3,())):=
 Cs (λi=>(ra,(ra.length:Int),(i:Int),())) ra.length (λi=>Dy<|pA ra i) (A3,()) () (λi hi=>by
  unfold hY Dy;simp only[B9 hi,AU hi,A5,aGs,K7,A9,B4 hi (by omega:ra.length<=9223372036854775807)];rcases tf (isN (pA ra i).src) with e|e<;>rcases tf (isN (pA ra i).dst) with e2|e2<;>simp only[e,e2,AF,AK,A5,A7,AY,AS];simp only[Zl e e2,Zl e2 e];rcases tfp ((pA ra i).src - (pA ra i).dst=1) with e3|e3<;>rcases tfp ((pA ra i).dst - (pA ra i).src=1) with e4|e4<;>rcases Ef ((pA ra i).data.size:Int) 40 with⟨e5,e6⟩|⟨e5,e6⟩<;>simp only[e3,e4,e5,e6,Aa,Ag]<;>rfl) (by simp[hY])
def jA{ti:Int}{ks:List AA}{ls:List Bool}{ra:List AO}{se go:List A6}(sm:HF ks ls ra se go):
  NH ((ti,ks,ls,ra,se,go,()),())=I ((GU ti ks ls ra se go,()),()):=by
 unfold NH GU;simp only[EW,aDg sm.sl sm.s,aDg sm.gl sm.g,ajz sm.kl sm.k,aAT sm.rl,A9];rcases tf (inB ti 0 99999) with e|e<;>simp only[e,AF,AK,A5,A7,AY,AS];rcases tfp ((ks.length:Int)=4) with e|e<;>simp only[e,Aa,Ag,AF,AK,A5,A7,AY,AS];rcases tfp ((ls.length:Int)=3) with e|e<;>simp only[e,Aa,Ag,AF,AK,A5,A7,AY,AS];rcases Ef (ra.length:Int) 30 with⟨e1,e2⟩|⟨e1,e2⟩<;>simp only[e1,e2,Aa,Ag,A5,A7,AY,AS];rcases tf (HW se&&A1 ((se.length:Int)<=6)) with e|e<;>simp only[e,AF,AK,A5,A7,AY,AS];rcases tf (HW go&&A1 ((go.length:Int)<=6)) with e|e<;>simp only[e,AF,AK,A5,A7,AY,AS];rcases tf (As ks.length<|Je ks) with e|e<;>simp only[e,A5,A7,AY,AS,G8,CB];rw[aAT sm.rl];rcases tf (As ra.length λi=>Dy<|pA ra i) with e|e<;>simp only[e,A5,A7,G8,CB]
def aiy{ti:Int}{ks:List AA}{ls:List Bool}{ra:List AO}{se go:List A6}(sm:HF ks ls ra se go):
  uw ((ti,ks,ls,ra,se,go,()),0,())=I (if As ks.length (Je ks) then .inr ((ti,ks,ls,ra,se,go,()),()) else .inl (A3,())):=
 Cs (λi=>((ti,ks,ls,ra,se,go,()),(i:Int),())) ks.length (Je ks) (A3,()) _ (λi hi=>by
  have hk:=M7<|Nc sm.k i;unfold gi Je;have kl:=sm.kl;simp only[B9 hi,AU hi,A5,Ox,hk,A9,Fa,B4 hi (by omega:ks.length<=9223372036854775807)];rcases tfp ((kA ks i).id=(i:Int)) with e|e<;>rcases tf (Aj<|kA ks i) with e2|e2<;>simp only[e,e2,Aa,Ag]<;>rfl) (by simp[gi])
def aix{ti:Int}{ks:List AA}{ls:List Bool}{ra:List AO}{se go:List A6}(sm:HF ks ls ra se go):
  uv ((ti,ks,ls,ra,se,go,()),0,())=I (if As ra.length (λi=>Dy<|pA ra i) then .inr ((ti,ks,ls,ra,se,go,()),()) else .inl (A3,())):=
 Cs (λi=>((ti,ks,ls,ra,se,go,()),(i:Int),())) ra.length (λi=>Dy<|pA ra i) (A3,()) _ (λi hi=>by
  have rl:=sm.rl;unfold gh Dy;simp only[B9 hi,AU hi,A5,aGs,K9,A9,B4 hi (by omega:ra.length<=9223372036854775807)];rcases tf (isN (pA ra i).src) with e|e<;>rcases tf (isN (pA ra i).dst) with e2|e2<;>simp only[e,e2,AF,AK,A5,A7,AY,AS];simp only[Zl e e2,Zl e2 e];rcases tfp ((pA ra i).src - (pA ra i).dst=1) with e3|e3<;>rcases tfp ((pA ra i).dst - (pA ra i).src=1) with e4|e4<;>rcases Ef ((pA ra i).data.size:Int) 40 with⟨e5,e6⟩|⟨e5,e6⟩<;>simp only[e3,e4,e5,e6,Aa,Ag]<;>rfl) (by simp[gh])
def aiw{ti:Int}{ks:List AA}{ls:List Bool}{ra:List AO}{se go:List A6}(sm:HF ks ls ra se go):
  uu ((ti,ks,ls,ra,se,go,()),0,())=I (if HW se then .inr ((ti,ks,ls,ra,se,go,()),()) else .inl (A3,())):=
 Cs (λi=>((ti,ks,ls,ra,se,go,()),(i:Int),())) se.length (λi=>B1<|nA se i) (A3,()) _ (λi hi=>by
  have rl:=sm.sl;unfold gf;simp only[B9 hi,AU hi,A5,Ch,XU<|VO sm.s i,A9,B4 hi (by omega:se.length<=9223372036854775807)];rcases tf (B1<|nA se i) with e|e<;>simp only[e]<;>rfl) (by simp[gf])
def aiv{ti:Int}{ks:List AA}{ls:List Bool}{ra:List AO}{se go:List A6}(sm:HF ks ls ra se go):
  ur ((ti,ks,ls,ra,se,go,()),0,())=I (if HW go then .inr () else .inl (A3,())):=
 Cs (λi=>((ti,ks,ls,ra,se,go,()),(i:Int),())) go.length (λi=>B1<|nA go i) (A3,()) _ (λi hi=>by
  have rl:=sm.gl;unfold gb;simp only[B9 hi,AU hi,A5,Ch,XU<|VO sm.g i,A9,B4 hi (by omega:go.length<=9223372036854775807)];rcases tf (B1<|nA go i) with e|e<;>simp only[e]<;>rfl) (by simp[gb])
def kV{ti:Int}{ks:List AA}{ls:List Bool}{ra:List AO}{se go:List A6}(sm:HF ks ls ra se go):
  QX ((ti,ks,ls,ra,se,go,()),())=I ((GU ti ks ls ra se go,()),()):=by
 unfold QX GU;simp only[IB,A9];rcases tf (inB ti 0 99999) with e|e<;>simp only[e,AF,AK,A5,A7,AY,AS];rcases tfp ((ks.length:Int)=4) with e|e<;>simp only[e,Aa,Ag,AF,AK,A5,A7,AY,AS];rcases tfp ((ls.length:Int)=3) with e|e<;>simp only[e,Aa,Ag,AF,AK,A5,A7,AY,AS];rcases Ef (ra.length:Int) 30 with⟨e1,e2⟩|⟨e1,e2⟩<;>simp only[e1,e2,Aa,Ag,A5,A7,AY,AS];rcases Ef (se.length:Int) 6 with⟨e1,e2⟩|⟨e1,e2⟩<;>simp only[e1,e2,Aa,Ag,A5,A7,Lh,Bc,AS];rcases Ef (go.length:Int) 6 with⟨e1,e2⟩|⟨e1,e2⟩<;>simp only[e1,e2,Aa,Ag,A5,A7,Lh,Bc,AS];rw[aiy sm];rcases tf (As ks.length<|Je ks) with e|e<;>simp only[e,A5,A7,AY,AS,Bc,G8,CB];rw[aix sm];rcases tf (As ra.length λi=>Dy<|pA ra i) with e|e<;>simp only[e,A5,A7,G8,CB,Bc,Lh];rw[aiw sm];rcases tf (HW se) with e|e<;>simp only[e,A5,A7,G8,CB,Bc,Lh,AY,AS];rw[aiv sm];rcases tf (HW go) with e|e<;>simp only[e,A5,A7,G8,CB,Bc,Lh]
def BT(a t:Int):Int:=if !isN a||(!isN t||decide (a=t)) then -1 else if a<t then a+1 else a - 1
def Zm{a:Int}(h:isN a=U):w64 (a+1)=a+1/\w64 (a - 1)=a - 1:=by
 have:=EB h;exact⟨Ac J J,Ac J J⟩
def Wq{a t:Int}:I6 (a,t,())=I ((BT a t,()),()):=by
 unfold I6 BT;simp only[K7,A9];rcases tf (isN a) with e|e
 .rcases tf (isN t) with e2|e2
  .rcases tfp (a=t) with e3|e3
   .simp only[e,e2,e3,Aa];rfl
   .rcases tfp (a<t) with e4|e4<;>simp only[e,e2,e3,e4,Ag,Aa,AF,A7,Bj,A5,if_false,Gl,(Zm e).1,(Zm e).2]
  .simp only[e,e2];rfl
 .simp only[e];rfl
def kD{a t:Int}:T4 (a,t,())=I ((BT a t,()),()):=by
 unfold T4 BT;simp only[K9,A9];rcases tf (isN a) with e|e
 .rcases tf (isN t) with e2|e2
  .rcases tfp (a=t) with e3|e3
   .simp only[e,e2,e3,Aa];rfl
   .rcases tfp (a<t) with e4|e4<;>simp only[e,e2,e3,e4,Ag,Aa,AF,A7,Bj,A5,if_false,Gl,(Zm e).1,(Zm e).2]
  .simp only[e,e2];rfl
 .simp only[e];rfl
def nM{a t:Int}(ha:isN a=U)(ht:isN t=U)(hne:a≠t):isN (BT a t)=U:=by
 have:=EB ha;have:=EB ht;have e3:A1 (a=t)=A3:=by simpa using hne
 unfold BT;simp only[ha,ht,e3,AF,Gl,A7];rw[Ad];split<;>omega
def stT(k:AA):AH:=(DW k.id k.log).getD zK
def Tg(l:List AA)(i:Int): @rd AA (dfl .AN) l i=kA l i.toNat:=rfl
structure akt (k:AA):Prop where
 id:isN k.id=U
 sh:DO k.log k.fo=U
 hl:k.AM.length<=3
 up:k.up=U\/k.AM.length=0
 st:DW k.id k.log=I (stT k)
 ok:Ay (stT k)=U
 sid:(stT k).id=k.id
 fo:(DW k.id<|k.log.extract 0 k.fo.toNat).isSome=U
 hv:∀i,i<k.AM.length->G2 k.AM i=U
def Ds{k:AA}(h:Aj k=U):akt k:=by
 unfold Aj at h;simp only[AG,Br,decide_eq_true_eq,CE]at h;obtain⟨a,b,c,d,⟨e,f⟩,g⟩:=h;have hs:DW k.id k.log=I (stT k):=by
  unfold stT;cases hh:DW k.id k.log with
  | none=>rw[hh]at e;cases e
  | some o=>rfl
 exact⟨a,b,J,d,hs,Qr hs,o9 hs,f,g⟩
structure OD (ti:Int) (ks:List AA) (ls:List Bool) (ra:List AO) (se go:List A6):Prop where
 t0:0<=ti
 t1:ti<=99999
 kl:ks.length=4
 ll:ls.length=3
 rl:ra.length<=30
 s:HW se=U
 sl:se.length<=6
 g:HW go=U
 gl:go.length<=6
 k:∀i,i<4->(kA ks i).id=(i:Int)/\Aj (kA ks i)=U
 r:∀i,i<ra.length->Dy (pA ra i)=U
def nr{k:AH}{n:A6}(h:Ay k=U)(hn:n∈k.held):isN (BT k.id n.to)=U:=by
 have hf:=Bx h;obtain⟨i,hi,rfl⟩:=Cy hn;have h1:=HL hf.h hi;rw[DH<|Au hi]at h1;have h2:=IF h1;have h3:=hf.ho i hi;unfold HP Ee at h3;rw[DH<|Au hi]at h3;simp only[AG,C1,decide_eq_false_iff_not]at h3;exact nM (Ad.2 ⟨hf.id0,hf.id1⟩) (Ad.2 ⟨h2.t0,h2.t1⟩) h3.2.2.1.1
section
variable {ti:Int} {ks:List AA} {ls:List Bool} {ra:List AO} {se go:List A6}
def EZ{l:List A6}{j:Nat}(h:j<l.length):nA l j∈l:=by
 rw[DH<|Au h];exact CV h
end
end Go.VS
namespace Go.VS
open Go
def Tw{a b c d e f:Int}(h:bef a b c d=U)(k:bef c d e f=U):bef a b e f=U:=by
 unfold bef at *;simp only[Br,AG,decide_eq_true_eq]at *;omega
def PU{a b:Int}:bef a b a b=A3:=by
 unfold bef;simp
def TU{l:List A6}(h:DX l=U):∀(j i:Nat),i<j->j<l.length->bef (nA l i).fr (nA l i).nu (nA l j).fr (nA l j).nu=U
 | j+1,i,hij,hj=>by
  have h1:=CE.1 h (j+1) hj;simp only[AG,Br,decide_eq_true_eq]at h1;have h2:bef (nA l j).fr (nA l j).nu (nA l<|j+1).fr (nA l<|j+1).nu=U:=h1.2.resolve_left J;rcases Gm i j with h3|h3
  .exact Tw (TU h j i h3 J) h2
  .rwa[show i=j by omega]
def stD(k:AA):AH:=(DW k.id<|k.log.extract 0 k.fo.toNat).getD zK
def D9(r:A4):A4:=((Bb (r.size:Int)++B [58])++r)++B [59]
def qd(r:A4):L (D9 r)=dcm r.size++58::(L r++[59]):=by
 unfold D9;rw[aIL];simp only[Ge,L_B,sB,C9,Lf,En]
def YU(r:A4):(D9 r).size=(dcm r.size).length+2+r.size:=by
 rw[← B2,qd];simp only[B0,Bh,CN,B2];omega
def cat(rs:List A4):List UInt8:=rs.flatMap λr=>L<|D9 r
def KE:cat []=[]:=rfl
def ID(r:A4)(rs:List A4):cat (r::rs)=L (D9 r)++cat rs:=rfl
def LI(rs ts:List A4):cat (rs++ts)=cat rs++cat ts:=pZ
def II(rs:List A4):Prop:=∀r∈rs,1<=r.size/\r.size<=60
def ayE(b:UInt8)(h:dig b=U):b≠58:=by
 rintro rfl;revert h;decide
def aaH{n:Nat}(h:n<=60):(dcm n).length<=2:=ML 2 n J J
def aaI(n:Nat):1<=(dcm n).length:=by
 have:=rR n;cases h:dcm n with
 | nil=>exact absurd h this
 | cons b l=>simp
def aaA{l m:List UInt8}{b:UInt8}{i:Nat}(h:i=l.length):(l++b::m).getD i 0=b:=by
 subst h;simp
def Zz{s r:A4}{t:List UInt8}(h:L s=L (D9 r)++t)(h1:1<=r.size)(h2:r.size<=60):Dn s=I (r,(D9 r).size):=by
 rw[qd]at h;have hs:s.size=(dcm r.size).length+2+r.size+t.length:=by
  rw[← B2,h];simp only[B0,Bh,CN,B2];omega
 have hd:=aaH h2;have hp:=aaI r.size;generalize hc:(dcm r.size).length=c at *;have hL:L s=dcm r.size++58::(L r++59::t):=by rw[h];simp
 have alm:VP s=(c:Int):=by
  refine aId J ?_ (λj hj=> ?_)
  .rw[decide_eq_true_eq,KI,hL,aaA hc.symm];rfl
  .rw[decide_eq_false_iff_not,KI,hL];have hlt:j<(dcm r.size).length:=J
   have hm:(dcm r.size++58::(L r++59::t)).getD j 0∈dcm r.size:=aa9 hlt;have hdg:=bq (r.size+1) r.size J _ hm;have hne:=ayE _ hdg;generalize (dcm r.size++58::(L r++59::t)).getD j 0=b at *;intro e;apply hne;have e:b.toNat=58:=J
   exact Rm.1 e
 have he:L (s.extract 0 c)=dcm r.size:=by
  rw[EK,hL];simp[← hc]
 have hn:Ai (s.extract 0 c)=(r.size:Int):=qT (by rw[← B2,he];omega) he;have h59:bt s ((c+1+r.size:Nat):Int)=59:=by
  have e:(L s).getD (c+1+r.size) 0=59:=by
   have:dcm r.size++58::(L r++59::t)=(dcm r.size++58::L r)++59::t:=by simp
   rw[hL,this];exact aaA (by simp[hc];omega)
  rw[KI,e];rfl
 have hx:s.extract (c+1) (c+1+r.size)=r:=by
  refine GG ?_;rw[EK,hL];have:(dcm r.size++58::(L r++59::t)).drop (c+1)=L r++59::t:=by
   have e:dcm r.size++58::(L r++59::t)=(dcm r.size++[58])++(L r++59::t):=by simp
   rw[e,Ro<|by simp[hc]]
  rw[this,show c+1+r.size - (c+1)=(L r).length by rw[B2];omega,Pg rfl]
 unfold Dn;rw[alm];simp only[BZ,hn];rw[AD J,AD J,AD J,AD J,h59];simp only[Aa,AF,A7,hx];rw[YU,hc]
def axY{s r:A4}{n:Nat}(h:Dn s=I (r,n)):1<=r.size/\r.size<=60/\n=(D9 r).size/\ ∃t,L s=L (D9 r)++t:=by
 have hsm:=Tq h;unfold Dn at h;split at h
 .cases h
 rename_i hc0;rcases Ye s with⟨h1,_⟩|⟨c,h1,h2,h3,h4,_⟩
 .omega
 rw[h1]at h;simp only[BZ]at h;split at h
 .cases h
 rename_i hn1;split at h
 .cases h
 rename_i hn2;split at h
 .cases h
 rename_i hn3;split at h
 .cases h
 rename_i hn4;cases h;have hz:(s.extract 0 c).size=c:=by rw[G9 J];omega
 rcases TW (s.extract 0 c) with⟨h9,_⟩|⟨k,h9,h10,h11⟩
 .omega
 simp only[h9,BZ]at hn1 hn2 hn3 hn4 hsm ⊢;have hrs:(s.extract (c+1)<|c+1+k).size=k:=by rw[G9 J];omega
 have h5:bt s ((c+1+k:Nat):Int)=59:=by
  cases hd:A1 (bt s ((c+1+k:Nat):Int)=59) with
  | true=>simpa using hd
  | false=>rw[hd]at hn4;exact absurd rfl hn4
 have g1:(L s).getD c 0=58:=by
  rw[KI]at h4;exact Rm.1 (by have:(58:UInt8).toNat=58:=rfl;omega)
 have g2:(L s).getD (c+1+k) 0=59:=by
  rw[KI]at h5;exact Rm.1 (by have:(59:UInt8).toNat=59:=rfl;omega)
 have hlen:(L s).length=s.size:=B2 s;have t1:(L s).take c=dcm k:=by
  rw[← h11,EK];simp
 have hcl:(dcm k).length=c:=by rw[← t1,DU];omega
 have hsp:L s=dcm k++58::((L<|s.extract (c+1)<|c+1+k)++59::(L s).drop (c+1+k+1)):=by
  conv=>lhs;rw[← JA c<|L s,t1]
  congr 1;rw[Up J];congr 1
  .rw[← g1,BC,Au J];rfl
  .rw[EK]
   conv=>lhs;rw[← JA k<|(L s).drop<|c+1]
   rw[show c+1+k - (c+1)=k by omega];congr 1;rw[J5,Up J];congr 1;rw[← g2,BC,Au J];rfl
 refine⟨J,J, ?_,(L s).drop<|c+1+k+1, ?_⟩
 .rw[YU,hrs,hcl]
 .rw[qd,hrs]
  conv=>lhs;rw[hsp]
  simp
def Ys(r:A4):3<=(D9 r).size:=by
 rw[YU];have:=aaI r.size;omega
def aI7{log:A4}:∀(rs:List A4) (f:Nat) (out:List A4) (at_:Nat),II rs->(L log).drop at_=cat rs->at_<=log.size->log.size<at_+f->F6 log f out at_=(out++rs,log.size)
 | [],0,out,at_,_,_,h3,h4=>J
 | [],f+1,out,at_,_,h2,h3,h4=>by
  have:log.size<=at_:=by
   have e:=congrArg Jl h2;rw[ES,B2,KE]at e;simp at e;omega
  unfold F6;rw[AD J,CW];rw[show at_=log.size by omega]
 | r::rs,0,out,at_,_,_,h3,h4=>J
 | r::rs,f+1,out,at_,h1,h2,h3,h4=>by
  have hr:=h1 r Av;rw[ID]at h2;have hlen:log.size - at_=(D9 r).size+(cat rs).length:=by
   have e:=congrArg Jl h2;rwa[ES,B2,B0,B2]at e
  have hp:=Ys r;have DM:Dn (log.extract at_ log.size)=I (r,(D9 r).size):=by
   refine Zz (t:=cat rs) ?_ hr.1 hr.2;rw[EK,h2];refine KY ?_;rw[B0,B2];omega
  unfold F6;rw[A8 J,DM];simp only;have:=aI7 (log:=log) rs f (out++[r]) (at_+(D9 r).size) (λx hx=>h1 x<|An _ hx) (by
   rw[← J5,h2,Ro<|by rw[B2]]) J J
  rw[this];simp
def Zf{log:A4}{rs:List A4}(h1:II rs)(h2:L log=cat rs):DE log=(rs,log.size):=by
 have:=aI7 (log:=log) rs (log.size+1) [] 0 h1 (by simpa using h2) (D7 _) J;exact this
def pn{log:A4}:∀(f:Nat) (out:List A4) (at_:Nat),at_<=log.size->∃rs,(F6 log f out at_).1=out++rs/\II rs/\ ∃t,(L log).drop at_=cat rs++t/\(F6 log f out at_).2=at_+(cat rs).length
 | 0,out,at_,_=>⟨[],by simp[F6],(λr hr=>nomatch hr),(L log).drop at_,rfl,rfl⟩
 | f+1,out,at_,h=>by
  unfold F6;split
  .rename_i hlt;cases DM:Dn (log.extract at_ log.size) with
   | none=>exact⟨[],by simp,(λr hr=>nomatch hr),(L log).drop at_,rfl,rfl⟩
   | some p=>
    obtain⟨r,n⟩:=p;obtain⟨k1,k2,k3,t,k4⟩:=axY DM;have hsm:=Tq DM;rw[G9<|Az _]at hsm;simp only at hsm ⊢;obtain⟨rs,g1,g2,t',g3,g4⟩:=pn (log:=log) f (out++[r]) (at_+n) J;have e:L (log.extract at_ log.size)=(L log).drop at_:=by
     rw[EK];exact KY (by rw[ES,B2];omega)
    rw[e]at k4;have ht:t=cat rs++t':=by
     rw[← g3,← J5,k4,k3,Ro<|by rw[B2]]
    refine⟨r::rs,by rw[g1];simp,λx hx=> ?_,t',by rw[k4,ht,ID,C9], ?_⟩
    .rcases Bo.1 hx with rfl|hx
     .exact⟨k1,k2⟩
     .exact g2 x hx
    .rw[g4,ID,B0,B2,k3];omega
  .exact⟨[],by simp,(λr hr=>nomatch hr),(L log).drop at_,rfl,rfl⟩
def nZ(log:A4):II (DE log).1/\(DE log).2=(cat (DE log).1).length/\ ∃t,L log=cat (DE log).1++t:=by
 obtain⟨rs,g1,g2,t,g3,g4⟩:=pn (log:=log) (log.size+1) [] 0<|D7 _;have e:(DE log).1=rs:=by
  show(F6 log (log.size+1) [] 0).1=rs;simpa using g1
 rw[e];refine⟨g2, ?_,t,by simpa using g3⟩;show(F6 log (log.size+1) [] 0).2=_;rw[g4,DT]
def rG:∀(rs ts:List A4) (t:List UInt8),II rs->II ts->cat rs=cat ts++t->∃us,rs=ts++us
 | rs,[],t,_,_,_=>⟨rs,rfl⟩
 | [],s::ts,t,_,_,h=>by
  have e:=congrArg Jl h;rw[ID,KE]at e;have:=Ys s;simp only[CN,B0,B2]at e;omega
 | r::rs,s::ts,t,h1,h2,h=>by
  rw[ID,ID,C9]at h;have hr:=h1 r Av;have hs:=h2 s Av;have o1:=Zz (s:=B<|L (D9 r)++cat rs) (r:=r) (t:=cat rs) (L_B _) hr.1 hr.2;have o2:=Zz (s:=B<|L (D9 r)++cat rs) (r:=s) (t:=cat ts++t) (by rw[L_B,h]) hs.1 hs.2;rw[o1]at o2;simp only[Bz,CX]at o2;obtain⟨rfl,_⟩:=o2;obtain⟨us,hu⟩:=rG rs ts t (λx hx=>h1 x<|An _ hx) (λx hx=>h2 x<|An _ hx)<|aFK h;exact⟨us,by rw[hu];rfl⟩
def aGF{lg:A4}{fo:Int}:DO lg fo=U↔lg.size<=2400/\ ∃rs ts,II (rs++ts)/\L lg=cat (rs++ts)/\fo=((cat rs).length:Int):=by
 unfold DO;simp only[AG,decide_eq_true_eq];constructor
 .rintro⟨h1,h2,h3,h4⟩;have h2:=Ad.1 h2;obtain⟨a1,a2,t,a3⟩:=nZ lg;obtain⟨b1,b2,t',b3⟩:=nZ<|lg.extract 0 fo.toNat;have ht:t=[]:=by
   have e:=congrArg Jl a3;rw[B2,B0]at e;exact E7 J
  rw[ht,CW]at a3;have hz:(lg.extract 0 fo.toNat).size=fo.toNat:=by rw[G9 J];omega
  have ht':t'=[]:=by
   have e:=congrArg Jl b3;rw[B2,B0,hz]at e;exact E7 J
  rw[ht',CW]at b3;have hp:cat (DE lg).1=cat (DE<|lg.extract 0 fo.toNat).1++(L lg).drop fo.toNat:=by
   rw[← a3,← b3,EK,Js,J6,JA]
  obtain⟨us,hu⟩:=rG _ _ _ a1 b1 hp;refine⟨h1,(DE<|lg.extract 0 fo.toNat).1,us,by rw[← hu];exact a1,by rw[← hu];exact a3, ?_⟩;rw[← b2];exact h4.symm
 .rintro⟨h1,rs,ts,h2,h3,rfl⟩;have hsz:lg.size=(cat rs).length+(cat ts).length:=by rw[← B2,h3,LI,B0]
  have hrs:II rs:=λr hr=>h2 r<|By _ hr;have he:L (lg.extract 0 (cat rs).length)=cat rs:=by
   rw[EK,h3,LI,Js,J6,Pg rfl]
  have e1:=Zf h2 h3;have e2:=Zf hrs he;refine⟨h1,Ad.2 ⟨J,J⟩,by rw[e1], ?_⟩;rw[BZ,e2];simp only;rw[← B2,he]
def Dj(k:AH):Prop:=∀n∈k.held,∀m∈k.inbox,¬(n.fr=m.fr/\n.nu=m.nu)
def U4{l:List A6}{f n:Int}(h:Ab l f n<0):∀x∈l,¬(x.fr=f/\x.nu=n):=by
 intro x hx hc;rcases GR l.length (λi=>A1 ((nA l i).fr=f)&&A1 ((nA l i).nu=n)) with⟨_,h2⟩|⟨i,h1,_⟩
 .obtain⟨j,hj,rfl⟩:=Cy hx;have:=h2 j hj;rw[DH<|Au hj]at this;simp[hc.1,hc.2]at this
 .unfold Ab at h;omega
def ZG{l:List A6}{f n:Int}(h:∀x∈l,¬(x.fr=f/\x.nu=n)):Ab l f n= -1:=by
 rcases mw l f n with h1|h1
 .exact h1
 .obtain⟨h2,_,h3,h4⟩:=FM h1;exact absurd ⟨h3,h4⟩<|h _<|EZ h2
def qC{l:List Mark}{f n:Int}(h:Bt l f n<0):∀x∈l,¬(x.mf=f/\x.mn=n):=by
 intro x hx hc;rcases GR l.length (λi=>A1 ((mA l i).mf=f)&&A1 ((mA l i).mn=n)) with⟨_,h2⟩|⟨i,h1,_⟩
 .obtain⟨j,hj,rfl⟩:=Cy hx;have:=h2 j hj;rw[Fz<|Au hj]at this;simp[hc.1,hc.2]at this
 .unfold Bt at h;omega
def V9{l:List Mark}{j:Nat}(h:j<l.length):mA l j∈l:=by
 rw[Fz<|Au h];exact CV h
def nS{l:List Mark}{f n:Int}(h:∀x∈l,¬(x.mf=f/\x.mn=n)):Bt l f n= -1:=by
 rcases GR l.length (λi=>A1 ((mA l i).mf=f)&&A1 ((mA l i).mn=n)) with⟨h1,_⟩|⟨i,_,h2,h3,_⟩
 .exact h1
 .simp only[AG,decide_eq_true_eq]at h3;exact absurd h3<|h _<|V9 h2
def aJz{k o:AH}{n:A6}(h:Ej k n=I o)(hd:Dj k):Dj o:=by
 unfold Ej at h;split at h
 .cases h
 split at h
 .cases h
 split at h
 .cases h
 rename_i h1;split at h
 .cases h
 rename_i h2;split at h
 .cases h
 split at h
 .cases h
 have a1:=U4 (l:=k.held) (f:=n.fr) (n:=n.nu) (by simpa using h1);have a2:=U4 (l:=k.inbox) (f:=n.fr) (n:=n.nu) (by simpa using h2);split at h<;>cases h
 .intro x hx m hm;rcases Gv _ hm with rfl|hm
  .exact a1 x hx
  .exact hd x hx m hm
 .intro x hx m hm;rcases Gv _ hx with rfl|hx
  .exact λhc=>a2 m hm ⟨hc.1.symm,hc.2.symm⟩
  .exact hd x hx m hm
def Oz{l:List A6}{i:Nat}{x:A6}(h:x∈Eh l i):x∈l:=by
 unfold Eh at h;rcases BN.1 h with h|h
 .exact Hb h
 .exact Jr h
def axc{k o:AH}{w:A4}{n:Int}(h:Hy k w n=I o)(hd:Dj k):Dj o:=by
 unfold Hy at h;split at h
 .cases h;intro x hx m hm;exact hd x (FW.1 hx).1 m hm
 split at h
 .cases h;exact hd
 .cases h
def asK{k o:AH}{w:A4}{n:A6}(h:GW k w n=I o)(hd:Dj k):Dj o:=by
 unfold GW at h;split at h
 .exact aJz h hd
 split at h
 .exact aJz h hd
 split at h
 .cases h
 rename_i hn;simp only[Br,decide_eq_true_eq,not_or]at hn;have a1:=U4 (l:=k.held) (f:=n.fr) (n:=n.nu) J;have a2:=U4 (l:=k.inbox) (f:=n.fr) (n:=n.nu) J;split at h
 .cases h;intro x hx m hm;rcases Gv _ hx with rfl|hx
  .exact λhc=>a2 m hm ⟨hc.1.symm,hc.2.symm⟩
  .exact hd x hx m hm
 split at h
 .cases h;intro x hx m hm;rcases Gv _ hm with rfl|hm
  .exact a1 x hx
  .exact hd x hx m hm
 .cases h
def asN{k o:AH}{w:A4}{m:Mark}(h:F3 k w m=I o)(hd:Dj k):Dj o:=by
 unfold F3 at h;split at h
 .cases h;exact λx hx m hm=>hd x (Oz hx) m hm
 split at h
 .cases h;exact λx hx m hm=>hd x hx m<|Oz hm
 split at h
 .cases h;exact hd
 .cases h
def avD{k o:AH}{w r:A4}(h:Bd k w r=I o)(hd:Dj k):Dj o:=by
 unfold Bd at h;split at h
 .split at h
  .exact axc h hd
  .cases h
 split at h
 .split at h
  .exact asK h hd
  .cases h
 split at h
 .split at h
  .exact asN h hd
  .cases h
 .cases h
def IC{k o:AH}{r:A4}(hk:Ay k=U):BM k r=I o↔GY k r=I o/\Ay o=U:=by
 unfold BM Fj;simp only[hk,A5];constructor
 .intro h;cases hf:(GY k r).filter Ay with
  | none=>rw[hf]at h;cases h
  | some o'=>
   rw[hf]at h;cases h;exact Jk.1 hf
 .intro h;rw[Jk.2 h];rfl
def aw8{k o:AH}{r:A4}(hk:Ay k=U)(h:BM k r=I o)(hd:Dj k):Dj o:=by
 have h1:=((IC hk).1 h).1;unfold GY at h1;split at h1
 .cases h1
 .exact avD h1 hd
def aFm:∀ {rs:List A4} {k o:AH},Ay k=U->Dj k->F2 k rs=I o->Dj o
 | [],k,o,_,hd,h=>by cases h;exact hd
 | r::rs,k,o,hk,hd,h=>by
  unfold F2 at h;rw[Un]at h;cases hs:BM k r with
  | none=>rw[hs]at h;cases h
  | some k'=>rw[hs]at h;exact aFm (rs:=rs) (Ty hs) (aw8 hk hs hd) h
def aGV{id:Int}{rs:List A4}{o:AH}(h:Ci id rs=I o):Dj o:=by
 unfold Ci at h;split at h
 .exact aFm (TP<|by assumption) (λn hn=>by cases hn) h
 .cases h
def NG(k:AH)(rs ts:List A4):F2 k (rs++ts)=(F2 k rs).bind λo=>F2 o ts:=List.foldlM_append
def TR(k:AH)(r:A4):F2 k [r]=BM k r:=by
 unfold F2;rw[Un];cases BM k r<;>rfl
def Fw(t:Int):A4:=B [116,105,109,101,32]++Bb t
def LR(n:Int):A4:=B [110,101,120,116,32]++Bb n
def Cc(w:A4)(a b c:Int):A4:=((((((w++B [32])++Bb a)++B [32])++Bb b)++B [32])++Bb c)
def MP(n:A6):A4:=B [104,101,108,100,32]++wr n
def NQ(n:A6):A4:=B [105,110,98,111,120,32]++wr n
def CJ(k:AH):List A4:=
 ((((if 0<k.ti then [Fw k.ti] else [])++(if 1<k.nx then [LR k.nx] else []))++k.marks.map λm=>Cc DD m.mf m.mn m.mu)++k.held.map MP)++k.inbox.map NQ
def IH{k:AH}{rec:A4}{w r:List UInt8}(hw:Cd w)(e:L rec=w++32::r):GY k rec=Bd k (B w) (B r):=by
 unfold GY;rw[e,UO hw,La hw e];rfl
def nC{k:AH}{t:Int}(h0:0<=t)(h1:t<100000)(h:k.ti<t):Bd k EF (B<|BA t)=I ⟨k.id,t,k.nx,HQ t k.held,KK t k.marks,k.inbox⟩:=by
 unfold Bd Hy;simp only[JL h0 h1,C0,A5,AY,h,Aa]
def as1{k:AH}{n:Int}(h0:0<=n)(h1:n<100000)(h:k.nx<n):Bd k F9 (B<|BA n)=I ⟨k.id,k.ti,n,k.held,k.marks,k.inbox⟩:=by
 unfold Bd Hy;simp[aBn,JL h0 h1,Da,A5,AS,AY,h,Aa,A7]
def as2{k:AH}{m:Mark}{r:A4}(ht:HN r=I m)(h:Bt k.marks m.mf m.mn<0):Bd k DD r=I ⟨k.id,k.ti,k.nx,k.held,EN k.marks m,k.inbox⟩:=by
 have e:A1 (0<=Bt k.marks m.mf m.mn)=A3:=by simp;omega
 unfold Bd F3;simp[kc,kg,lL,ke,kh,kG,lO,lP,Gl,Bn,Da,A5,A7,ht,AS,AY,e,AK]
def as3{k:AH}{n:A6}(hn:B1 n=U)(h1:Ab k.held n.fr n.nu<0)(h2:Ab k.inbox n.fr n.nu<0):Bd k Eb (wr n)=I ⟨k.id,k.ti,k.nx,E5 k.held n,k.marks,k.inbox⟩:=by
 have e1:A1 (0<=Ab k.held n.fr n.nu)=A3:=by simp;omega
 have e2:A1 (0<=Ab k.inbox n.fr n.nu)=A3:=by simp;omega
 unfold Bd GW;simp[aBp,aBr,aDC,aBq,Gl,Bn,C0,A5,A7,Qm hn,AS,e1,e2]
def aqj{k:AH}{n:A6}(hn:B1 n=U)(h1:Ab k.held n.fr n.nu<0)(h2:Ab k.inbox n.fr n.nu<0):Bd k Et (wr n)=I ⟨k.id,k.ti,k.nx,k.held,k.marks,E5 k.inbox n⟩:=by
 have e1:A1 (0<=Ab k.held n.fr n.nu)=A3:=by simp;omega
 have e2:A1 (0<=Ab k.inbox n.fr n.nu)=A3:=by simp;omega
 unfold Bd GW;simp[aAl,aAn,aBo,aAm,aAo,Gl,Bn,Da,A5,A7,Qm hn,AS,e1,e2]
def np:Cd [116,105,109,101]:=by unfold Cd;decide
def atD:Cd [110,101,120,116]:=by unfold Cd;decide
def atE:Cd [109,97,114,107]:=by unfold Cd;decide
def atF:Cd [104,101,108,100]:=by unfold Cd;decide
def ari:Cd [105,110,98,111,120]:=by unfold Cd;decide
def ZC(t:Int):L (Fw t)=[116,105,109,101]++32::BA t:=by unfold Fw;simp only[Ge,L_B,VG];rfl
def aHF(t:Int):L (LR t)=[110,101,120,116]++32::BA t:=by unfold LR;simp only[Ge,L_B,VG];rfl
def Qt(w:A4)(a b c:Int):L (Cc w a b c)=L w++32::(BA a++32::(BA b++32::BA c)):=by
 unfold Cc;simp only[Ge,L_B,VG,C9,Lf,En]
def aHG(n:A6):L (MP n)=[104,101,108,100]++32::L (wr n):=by unfold MP;simp only[Ge,L_B];rfl
def aG7(n:A6):L (NQ n)=[105,110,98,111,120]++32::L (wr n):=by unfold NQ;simp only[Ge,L_B];rfl
def Ot{k:AH}(h:F1 k):Ay k=U:=by
 have a:=h.hl;have b:=h.ml;have c:=h.il;unfold Ay;simp only[AG,Ad,decide_eq_true_eq,CE];exact⟨⟨h.id0,h.id1⟩,⟨h.t0,h.t1⟩,⟨h.n0,h.n1⟩,⟨J,h.h⟩,⟨J,h.m⟩,⟨J,h.i⟩,h.ho,h.mo,h.io⟩
def ba{l:List A6}{a i:Nat}(h:i<a):nA (l.take a) i=nA l i:=by
 unfold nA;simp[BC,h]
def qo{l:List Mark}{a i:Nat}(h:i<a):mA (l.take a) i=mA l i:=by
 unfold mA;simp[BC,h]
def aDU{l:List A6}(h:DX l=U)(a:Nat):DX (l.take a)=U:=by
 refine CE.2 λi hi=> ?_;rw[DU]at hi;have:=CE.1 h i J;rw[ba J,ba J];exact this
def aqU{l:List Mark}(h:Fe l=U)(a:Nat):Fe (l.take a)=U:=by
 refine CE.2 λi hi=> ?_;rw[DU]at hi;have:=CE.1 h i J;rw[qo J,qo J];exact this
def aE7{l:List Mark}(h:Fe l=U):∀(j i:Nat),i<j->j<l.length->bef (mA l i).mf (mA l i).mn (mA l j).mf (mA l j).mn=U
 | j+1,i,hij,hj=>by
  have h1:=CE.1 h (j+1) hj;simp only[AG,Br,decide_eq_true_eq]at h1;have h2:bef (mA l j).mf (mA l j).mn (mA l<|j+1).mf (mA l<|j+1).mn=U:=h1.2.resolve_left J;rcases Gm i j with h3|h3
  .exact Tw (aE7 h j i h3 J) h2
  .rwa[show i=j by omega]
def R7{k:AH}(hf:F1 k)(a b c:Nat)(hc:c=0\/k.marks.length<=b):F1 ⟨k.id,k.ti,k.nx,k.held.take a,k.marks.take b,k.inbox.take c⟩:=by
 have hl:=hf.hl;have ml:=hf.ml;have il:=hf.il;refine⟨hf.id0,hf.id1,hf.t0,hf.t1,hf.n0,hf.n1,by simp;omega,aDU hf.h a,by simp;omega,aqU hf.m b,by simp;omega,aDU hf.i c,λi hi=> ?_,λi hi=> ?_,λi hi=> ?_⟩
 .simp only[DU]at hi;have:=hf.ho i J;unfold HP at this ⊢;simp only[AG,decide_eq_true_eq]at this ⊢;rw[ba J];refine⟨this.1,this.2.1,this.2.2.1, ?_⟩;rw[nS λx hx=>qC this.2.2.2 x<|Hb hx];omega
 .simp only[DU]at hi;have:=hf.mo i J;unfold JP at this ⊢;rw[qo J];exact this
 .simp only[DU]at hi;obtain hc|hc:=hc
  .omega
  .have:=hf.io i J;simp only;rw[KY hc];unfold It at this ⊢;rw[ba J];exact this
def qe{α:Type}{f:α->Bool}{l:List α}{n:α}(h:∀x∈l,f x=U):ins f l n=l++[n]:=by
 unfold ins;have h1:l.takeWhile f=l:=by
  induction l with
  | nil=>rfl
  | cons x l ih=>rw[Rw,h x Av];simp only[A5];rw[ih λy hy=>h y<|An _ hy]
 have h2:l.dropWhile f=[]:=by
  induction l with
  | nil=>rfl
  | cons x l ih=>rw[pM,h x Av];simp only[A5];exact ih (λy hy=>h y<|An _ hy) (by
    have:=h1;rw[Rw,h x Av]at this;simpa using this)
 rw[h1,h2]
def NM{α:Type}{l:List α}{j:Nat}(h:j<l.length):l.take (j+1)=l.take j++[l[j]]:=by
 rw[JC,Au h];rfl
def aA5{k:AH}(hk:Ay k=U)(hd:Dj k):Ci k.id (CJ k)=I k:=by
 have hf:=Bx hk;have hid:isN k.id=U:=Ad.2 ⟨hf.id0,hf.id1⟩;have t0:=hf.t0;have t1:=hf.t1;have n0:=hf.n0;have n1:=hf.n1;have kT:Ay ⟨k.id,k.ti,1,[],[],[]⟩=U:=by
  refine Ot ⟨hf.id0,hf.id1,t0,t1,(by decide:(1:Int)<=1),(by decide:(1:Int)<=100),by simp,rfl,by simp,rfl,by simp,rfl,λi hi=>by simp at hi,λi hi=>by simp at hi,λi hi=>by simp at hi⟩
 have kN:Ay ⟨k.id,k.ti,k.nx,[],[],[]⟩=U:=by
  refine Ot ⟨hf.id0,hf.id1,t0,t1,n0,n1,by simp,rfl,by simp,rfl,by simp,rfl,λi hi=>by simp at hi,λi hi=>by simp at hi,λi hi=>by simp at hi⟩
 have s1:F2 ⟨k.id,0,1,[],[],[]⟩ (if 0<k.ti then [Fw k.ti] else [])=I ⟨k.id,k.ti,1,[],[],[]⟩:=by
  by_cases h:0<k.ti
  .rw[A8 h,TR,(IC<|TP hid).2 ⟨?_,kT⟩];rw[IH np<|ZC _];exact nC t0 J h
  .rw[AD h,show k.ti=0 by omega];rfl
 have s2:F2 ⟨k.id,k.ti,1,[],[],[]⟩ (if 1<k.nx then [LR k.nx] else [])=I ⟨k.id,k.ti,k.nx,[],[],[]⟩:=by
  by_cases h:1<k.nx
  .rw[A8 h,TR,(IC kT).2 ⟨?_,kN⟩];rw[IH atD<|aHF _];exact as1 J J h
  .rw[AD h,show k.nx=1 by omega];rfl
 have s3:∀j,j<=k.marks.length->F2 ⟨k.id,k.ti,k.nx,[],[],[]⟩ ((k.marks.take j).map λm=>Cc DD m.mf m.mn m.mu)=I ⟨k.id,k.ti,k.nx,[],k.marks.take j,[]⟩:=by
  intro j
  induction j with
  | zero=>intro _;rfl
  | succ j ih=>
   intro hj;have hjl:j<k.marks.length:=J
   have hm:=Tn hf.m hjl;rw[Fz<|Au hjl]at hm;have hr:=P6 hm;have g1:=Ot<|R7 hf 0 j 0<|.inl rfl;have g2:=Ot<|R7 hf 0 (j+1) 0<|.inl rfl;have g3:Ay ⟨k.id,k.ti,k.nx,[],k.marks.take j++[k.marks[j]'hjl],[]⟩=U:=by
    rw[← NM hjl];simpa using g2
   have OG:∀x∈k.marks.take j,bef x.mf x.mn k.marks[j].mf k.marks[j].mn=U:=λx hx=>by
    obtain⟨i,hi,rfl⟩:=Cy hx;rw[DU]at hi;have:=aE7 hf.m j i J hjl;rw[Fz<|Au hjl,Fz<|Au (by omega:i<k.marks.length)]at this;simpa using this
   rw[NM hjl,Eo,NG,ih J];simp only[A9,Db,Jm];rw[TR,(IC<|by simpa using g1).2 ⟨?_,g3⟩];have h3:=aS (r:=B<|BA (k.marks[j]'hjl).mf++32::(BA (k.marks[j]'hjl).mn++32::BA (k.marks[j]'hjl).mu)) (a:=(k.marks[j]'hjl).mf) (b:=(k.marks[j]'hjl).mn) (c:=(k.marks[j]'hjl).mu) J J J J J J<|L_B _;rw[IH atE<|Qt _ _ _ _,as2 h3 ?_]
   .simp only;rw[show EN (k.marks.take j) k.marks[j]=k.marks.take j++[k.marks[j]] from qe OG]
   .simp only;rw[nS λx hx hc=>by
     have:=OG x hx;rw[hc.1,hc.2,PU]at this;cases this]
    omega
 have s4:∀j,j<=k.held.length->F2 ⟨k.id,k.ti,k.nx,[],k.marks,[]⟩ ((k.held.take j).map MP)=I ⟨k.id,k.ti,k.nx,k.held.take j,k.marks,[]⟩:=by
  intro j
  induction j with
  | zero=>intro _;rfl
  | succ j ih=>
   intro hj;have hjl:j<k.held.length:=J
   have hm:=HL hf.h hjl;rw[DH<|Au hjl]at hm;have g1:=Ot<|R7 hf j k.marks.length 0<|.inl rfl;have g2:=Ot<|R7 hf (j+1) k.marks.length 0<|.inl rfl;rw[E8]at g1 g2;have g3:Ay ⟨k.id,k.ti,k.nx,k.held.take j++[k.held[j]'hjl],k.marks,[]⟩=U:=by
    rw[← NM hjl];simpa using g2
   have OG:∀x∈k.held.take j,bef x.fr x.nu k.held[j].fr k.held[j].nu=U:=λx hx=>by
    obtain⟨i,hi,rfl⟩:=Cy hx;rw[DU]at hi;have:=TU hf.h j i J hjl;rw[DH<|Au hjl,DH<|Au (by omega:i<k.held.length)]at this;simpa using this
   rw[NM hjl,Eo,NG,ih J];simp only[A9,Db,Jm];rw[TR,(IC<|by simpa using g1).2 ⟨?_,g3⟩];rw[IH atF<|aHG _,B_L,as3 hm ?_ ?_]
   .simp only;rw[show E5 (k.held.take j) k.held[j]=k.held.take j++[k.held[j]] from qe OG]
   .simp only;rw[ZG λx hx hc=>by
     have:=OG x hx;rw[hc.1,hc.2,PU]at this;cases this]
    omega
   .simp only;rw[ZG λx hx=>by cases hx];omega
 have s5:∀j,j<=k.inbox.length->F2 ⟨k.id,k.ti,k.nx,k.held,k.marks,[]⟩ ((k.inbox.take j).map NQ)=I ⟨k.id,k.ti,k.nx,k.held,k.marks,k.inbox.take j⟩:=by
  intro j
  induction j with
  | zero=>intro _;rfl
  | succ j ih=>
   intro hj;have hjl:j<k.inbox.length:=J
   have hm:=HL hf.i hjl;rw[DH<|Au hjl]at hm;have g1:=Ot<|R7 hf k.held.length k.marks.length j<|.inr<|Az _;have g2:=Ot<|R7 hf k.held.length k.marks.length (j+1)<|.inr<|Az _;rw[E8,E8]at g1 g2;have g3:Ay ⟨k.id,k.ti,k.nx,k.held,k.marks,k.inbox.take j++[k.inbox[j]'hjl]⟩=U:=by
    rw[← NM hjl];simpa using g2
   have OG:∀x∈k.inbox.take j,bef x.fr x.nu k.inbox[j].fr k.inbox[j].nu=U:=λx hx=>by
    obtain⟨i,hi,rfl⟩:=Cy hx;rw[DU]at hi;have:=TU hf.i j i J hjl;rw[DH<|Au hjl,DH<|Au (by omega:i<k.inbox.length)]at this;simpa using this
   rw[NM hjl,Eo,NG,ih J];simp only[A9,Db,Jm];rw[TR,(IC<|by simpa using g1).2 ⟨?_,g3⟩];rw[IH ari<|aG7 _,B_L,aqj hm ?_ ?_]
   .simp only;rw[show E5 (k.inbox.take j) k.inbox[j]=k.inbox.take j++[k.inbox[j]] from qe OG]
   .simp only;rw[ZG λx hx=>hd x hx _<|CV hjl];omega
   .simp only;rw[ZG λx hx hc=>by
     have:=OG x hx;rw[hc.1,hc.2,PU]at this;cases this]
    omega
 have e3:=s3 k.marks.length<|Az _;have e4:=s4 k.held.length<|Az _;have e5:=s5 k.inbox.length<|Az _;rw[E8]at e3 e4 e5;unfold Ci CJ;rw[A8 hid,NG,NG,NG,NG,s1];simp only[A9,s2,e3,e4,e5]
structure CF (lg:A4) (fo:Int) (rs ts:List A4):Prop where
 ok:II (rs++ts)
 sz:lg.size<=2400
 eq:L lg=cat (rs++ts)
 fo:fo=((cat rs).length:Int)
def abH{lg:A4}{fo:Int}(h:DO lg fo=U):∃rs ts,CF lg fo rs ts:=by
 obtain⟨h1,rs,ts,h2,h3,h4⟩:=aGF.1 h;exact⟨rs,ts,h2,h1,h3,h4⟩
def CF.sZ{lg:A4}{fo:Int}{rs ts:List A4}(h:CF lg fo rs ts):DO lg fo=U:=
 aGF.2 ⟨h.sz,rs,ts,h.ok,h.eq,h.fo⟩
def CF.read{lg:A4}{fo:Int}{rs ts:List A4}(h:CF lg fo rs ts):DE lg=(rs++ts,lg.size):=Zf h.ok h.eq
def aE4{rs ts:List A4}(h:II (rs++ts)):II rs:=λr hr=>h r<|By _ hr
def CF.amn{lg:A4}{fo:Int}{rs ts:List A4}(h:CF lg fo rs ts):L (lg.extract 0 fo.toNat)=cat rs:=by
 rw[EK,h.eq,h.fo,BZ,LI,Js,J6,Pg rfl]
def CF.azf{lg:A4}{fo:Int}{rs ts:List A4}(h:CF lg fo rs ts):(DE<|lg.extract 0 fo.toNat).1=rs:=by
 rw[Zf (aE4 h.ok) h.amn]
def CF.size_eq{lg:A4}{fo:Int}{rs ts:List A4}(h:CF lg fo rs ts):lg.size=(cat rs).length+(cat ts).length:=by
 rw[← B2,h.eq,LI,B0]
def CF.state{lg:A4}{fo:Int}{rs ts:List A4}(h:CF lg fo rs ts)(id:Int):DW id lg=Ci id (rs++ts):=by
 unfold DW;rw[h.read]
def CF.abS{lg:A4}{fo:Int}{rs ts:List A4}(h:CF lg fo rs ts)(id:Int):DW id (lg.extract 0 fo.toNat)=Ci id rs:=by
 unfold DW;rw[h.azf]
def YV(id:Int)(rs ts:List A4):Ci id (rs++ts)=(Ci id rs).bind λk=>F2 k ts:=by
 unfold Ci;split
 .exact NG _ _ _
 .rfl
def aFj(id:Int)(rs:List A4)(r:A4):Ci id (rs++[r])=(Ci id rs).bind λk=>BM k r:=by
 rw[YV];congr 1;funext k;exact TR k r
def aE8{id:Int}{rs ts:List A4}(h:(Ci id<|rs++ts).isSome=U):(Ci id rs).isSome=U:=by
 rw[YV]at h;cases e:Ci id rs with
 | none=>rw[e]at h;exact h
 | some k=>rfl
def CF.add{lg r:A4}{fo:Int}{rs ts:List A4}(h:CF lg fo rs ts)(h1:1<=r.size)(h2:r.size<=60)(h3:lg.size+(D9 r).size<=2400):CF (lg++D9 r) fo rs (ts++[r]):=by
 refine⟨?_, ?_, ?_,h.fo⟩
 .intro x hx;rw[← C9]at hx;rcases BN.1 hx with hx|hx
  .exact h.ok x hx
  .rw[CA.1 hx];exact⟨h1,h2⟩
 .rw[← B2,Ge,B0,B2,B2];exact h3
 .rw[Ge,h.eq,← C9,LI (rs++ts) [r]];congr 1;rw[ID,KE,CW]
def CF.force{lg:A4}{fo:Int}{rs ts:List A4}(h:CF lg fo rs ts):CF lg (lg.size:Int) (rs++ts) []:=by
 refine⟨by simpa using h.ok,h.sz,by simpa using h.eq, ?_⟩;rw[← B2,h.eq]
def CF.pack{lg:A4}{rs:List A4}(h:II rs)(e:L lg=cat rs)(hz:lg.size<=2400):CF lg (lg.size:Int) rs []:=by
 refine⟨by simpa using h,hz,by simpa using e, ?_⟩;rw[← B2,e]
def aI6{log:A4}:∀(qs:List A4) (f:Nat) (out:List A4) (at_:Nat) (t:List UInt8),II qs->(L log).drop at_=cat qs++t->at_<=log.size->log.size<at_+f->
  ∃f',F6 log f out at_=F6 log f' (out++qs) (at_+(cat qs).length)/\at_+(cat qs).length<=log.size
 | [],f,out,at_,t,_,_,h3,_=>⟨f,by simp[KE],by simpa[KE] using h3⟩
 | r::qs,0,out,at_,t,_,_,h3,h4=>J
 | r::qs,f+1,out,at_,t,h1,h2,h3,h4=>by
  have hr:=h1 r Av;rw[ID,C9]at h2;have hlen:log.size - at_=(D9 r).size+(cat qs++t).length:=by
   have e:=congrArg Jl h2;rwa[ES,B2,B0,B2]at e
  have hp:=Ys r;have DM:Dn (log.extract at_ log.size)=I (r,(D9 r).size):=by
   refine Zz (t:=cat qs++t) ?_ hr.1 hr.2;rw[EK,h2];refine KY ?_;rw[B0,B2];omega
  obtain⟨f',g1,g2⟩:=aI6 (log:=log) qs f (out++[r]) (at_+(D9 r).size) t (λx hx=>h1 x<|An _ hx) (by
   rw[← J5,h2,Ro<|by rw[B2]]) J J
  refine⟨f', ?_, ?_⟩
  .conv=>lhs;unfold F6
   rw[A8 J,DM];simp only;rw[g1];simp only[ID,B0,B2,C9,Lf,En,DI]
  .simp only[ID,B0,B2];omega
def atm{log:A4}{qs:List A4}{t:List UInt8}(h:II qs)(e:L log=cat qs++t):∃us,(DE log).1=qs++us:=by
 obtain⟨f',g1,g2⟩:=aI6 (log:=log) qs (log.size+1) [] 0 t h (by simpa using e) (D7 _) J;obtain⟨us,k1,_⟩:=pn (log:=log) f' ([]++qs) (0+(cat qs).length) g2;refine⟨us, ?_⟩;show(F6 log (log.size+1) [] 0).1=_;rw[g1,k1];rfl
def CF.UZ{lg:A4}{fo:Int}{rs ts:List A4}(h:CF lg fo rs ts)(n:Nat)(hn:(cat rs).length<=n):
  ∃us vs,ts=us++vs/\CF ((lg.extract 0 n).extract 0 (DE<|lg.extract 0 n).2) ((DE<|lg.extract 0 n).2:Int) (rs++us) []:=by
 obtain⟨a1,a2,t,a3⟩:=nZ<|lg.extract 0 n;have e0:L (lg.extract 0 n)=(cat<|rs++ts).take n:=by rw[EK,h.eq,Js,J6]
 have e:cat (rs++ts)=cat (DE<|lg.extract 0 n).1++(t++(cat<|rs++ts).drop n):=by
  rw[← C9,← a3,e0,JA]
 obtain⟨vs,hv⟩:=rG _ _ _ h.ok a1 e;obtain⟨us,hu⟩:=atm (log:=lg.extract 0 n) (qs:=rs) (t:=(cat ts).take<|n - (cat rs).length) (aE4 h.ok) (by
  rw[e0,LI,List.take_append,KY hn])
 rw[hu]at hv a1 a2 a3;rw[C9]at hv;refine⟨us,vs,aFK hv,by simpa using a1, ?_, ?_,by rw[a2]⟩
 .have:=h.sz;rw[← B2,EK,EK];simp only[DU,ES,B2];omega
 .rw[EK,a3,a2,Js,J6,Pg rfl,CW]
def MG{x:Int}(h0:0<=x)(k:Nat)(hk:1<=k)(h:x<(10 ^ k:Nat)):(BA x).length<=k:=by
 obtain⟨u,rfl⟩:=HZ h0;rw[JQ];exact ML k u hk<|by exact_mod_cast h
def S8{n:A6}(h:B1 n=U):(wr n).size<=35:=by
 obtain⟨f0,f1,t0,t1,n0,n1,u0,u1,s0,s1⟩:=IF h;have a:=MG f0 1 J J;have b:=MG (show 0<=n.nu by omega) 2 J J;have c:=MG t0 1 J J;have d:=MG (show 0<=n.un by omega) 3 J J;rw[← B2,SM];unfold wrL;simp only[B0,Bh,B2];omega
def av2{r:A4}{m:Mark}(h:HN r=I m):r.size<=17:=by
 unfold HN at h;have hj:=mV ((L r).count 32)<|L r;have hn:∀ {p:List UInt8},(Ax<|B p).2=U->p.length<=5:=fun {p} hp=>by
  rcases TZ (B p) with h1|⟨n,_,h2,_⟩
  .rw[h1]at hp;cases hp
  .exact h2
 split at h
 .rename_i p q t hp;rw[hp]at hj;split at h
  .rename_i hc;simp only[AG]at hc;have h1:=hn hc.1;have h2:=hn hc.2.1;have h3:=hn hc.2.2.1;have hj2:p++32::(q++32::t)=L r:=hj;rw[← B2,← hj2];simp only[B0,Bh];omega
  .cases h
 .cases h
def avB{k o:AH}{w r:A4}(h:Bd k w r=I o):w.size<=5/\r.size<=35:=by
 unfold Bd at h;split at h
 .rename_i hw;simp only[Br,decide_eq_true_eq]at hw;split at h
  .rename_i hr;refine⟨by obtain rfl|rfl:=hw<;>decide, ?_⟩;rcases TZ r with h1|⟨n,_,h2,_⟩
   .rw[h1]at hr;cases hr
   .omega
  .cases h
 split at h
 .rename_i hw;simp only[Br,decide_eq_true_eq]at hw;cases hn:DP r with
  | none=>rw[hn]at h;cases h
  | some n=>
   obtain⟨h1,h2⟩:=KB hn;refine⟨by obtain rfl|rfl|rfl|rfl:=hw<;>decide, ?_⟩;rw[← h2];exact S8 h1
 split at h
 .rename_i hw;simp only[Br,decide_eq_true_eq]at hw;cases hn:HN r with
  | none=>rw[hn]at h;cases h
  | some n=>
   refine⟨by obtain rfl|rfl|rfl:=hw<;>decide, ?_⟩;have:=av2 hn;omega
 .cases h
def qF{k o:AH}{r:A4}(hk:Ay k=U)(h:BM k r=I o):1<=r.size/\r.size<=60:=by
 have h:=((IC hk).1 h).1;rcases ME (L r) with hs|⟨w,t,hs,e⟩
 .unfold GY at h;rw[UN hs]at h;cases h
 .rw[IH hs e]at h;have:=avB h;have hw:(B w).size=w.length:=rfl;have ht:(B t).size=t.length:=rfl;rw[← B2,e];simp only[B0,Bh];omega
def VF{rs:List A4}{c:Nat}(h:∀r∈rs,(D9 r).size<=c):(cat rs).length<=rs.length * c:=by
 induction rs with
 | nil=>simp[KE]
 | cons r rs ih=>
  have:=ih λx hx=>h x<|An _ hx;have:=h r Av;rw[ID,B0,B2,Bh,Nat.succ_mul];omega
def NN{r:A4}(h:r.size<=60):(D9 r).size<=r.size+4:=by
 rw[YU];have:=aaH h;omega
def YA{k:AH}(hk:Ay k=U):II (CJ k)/\(cat<|CJ k).length<=800:=by
 have hf:=Bx hk;have t1:=hf.t1;have n1:=hf.n1;have hl:=hf.hl;have ml:=hf.ml;have il:=hf.il;have sT:∀r∈(if 0<k.ti then [Fw k.ti] else []),1<=r.size/\r.size<=8:=by
  intro r hr;split at hr
  .rw[CA.1 hr,← B2,ZC];have:=MG hf.t0 3 J J;simp only[B0,Bh,CN];omega
  .cases hr
 have sN:∀r∈(if 1<k.nx then [LR k.nx] else []),1<=r.size/\r.size<=8:=by
  intro r hr;split at hr
  .rw[CA.1 hr,← B2,aHF];have:=MG (show 0<=k.nx by have:=hf.n0;omega) 3 J J;simp only[B0,Bh,CN];omega
  .cases hr
 have sM:∀r∈k.marks.map (λm=>Cc DD m.mf m.mn m.mu),1<=r.size/\r.size<=13:=by
  intro r hr;obtain⟨m,hm,rfl⟩:=C3.1 hr;obtain⟨i,hi,rfl⟩:=Cy hm;have:=P6<|Tn hf.m hi;rw[Fz<|Au hi]at this;have a:=MG this.1 1 J J;have b:=MG (show 0<=k.marks[i].mn by omega) 2 J J;have c:=MG (show 0<=k.marks[i].mu by omega) 3 J J;rw[← B2,Qt];simp only[B0,Bh,L_B,CN];omega
 have sH:∀r∈k.held.map MP,1<=r.size/\r.size<=40:=by
  intro r hr;obtain⟨m,hm,rfl⟩:=C3.1 hr;obtain⟨i,hi,rfl⟩:=Cy hm;have:=HL hf.h hi;rw[DH<|Au hi]at this;have:=S8 this;rw[← B2,aHG];simp only[B0,Bh,B2,CN];omega
 have sI:∀r∈k.inbox.map NQ,1<=r.size/\r.size<=41:=by
  intro r hr;obtain⟨m,hm,rfl⟩:=C3.1 hr;obtain⟨i,hi,rfl⟩:=Cy hm;have:=HL hf.i hi;rw[DH<|Au hi]at this;have:=S8 this;rw[← B2,aG7];simp only[B0,Bh,B2,CN];omega
 refine⟨?_, ?_⟩
 .intro r hr;unfold CJ at hr;simp only[BN]at hr;obtain(((hr|hr)|hr)|hr)|hr:=hr
  .have:=sT r hr;omega
  .have:=sN r hr;omega
  .have:=sM r hr;omega
  .have:=sH r hr;omega
  .have:=sI r hr;omega
 .unfold CJ;simp only[LI,B0];have a:=VF (c:=12) λr hr=>by have:=sT r hr;have:=NN (r:=r) J;omega
  have b:=VF (c:=12) λr hr=>by have:=sN r hr;have:=NN (r:=r) J;omega
  have c:=VF (c:=17) λr hr=>by have:=sM r hr;have:=NN (r:=r) J;omega
  have d:=VF (c:=44) λr hr=>by have:=sH r hr;have:=NN (r:=r) J;omega
  have e:=VF (c:=45) λr hr=>by have:=sI r hr;have:=NN (r:=r) J;omega
  rw[Dh]at c d e;have a2:(if 0<k.ti then [Fw k.ti] else []).length<=1:=by split<;>simp
  have b2:(if 1<k.nx then [LR k.nx] else []).length<=1:=by split<;>simp
  omega
def DF(rs:List A4):A4:=B<|cat rs
def R9{k:AH}(hk:Ay k=U):CF (DF<|CJ k) ((DF<|CJ k).size:Int) (CJ k) []:=by
 have:=YA hk;refine CF.pack this.1 (by unfold DF;rw[L_B]) ?_;show(cat<|CJ k).length<=2400;omega
def DC(k:AH)(lg:A4)(fo:Int)(r:A4):A4×Int:=
 if lg.size+(D9 r).size<=2400 then(lg++D9 r,fo) else(DF (CJ k)++D9 r,((DF<|CJ k).size:Int))
def aIq{k o:AH}{id:Int}{lg r:A4}{fo:Int}{rs ts:List A4}(h:CF lg fo rs ts)(hs:Ci id (rs++ts)=I k)(hr:BM k r=I o):
  ∃rs' ts',CF (DC k lg fo r).1 (DC k lg fo r).2 rs' ts'/\Ci id (rs'++ts')=I o:=by
 have hk:=Qr hs;have hz:=qF hk hr;unfold DC;split
 .rename_i hc;refine⟨rs,ts++[r],h.add hz.1 hz.2 hc, ?_⟩;rw[← C9,aFj,hs];exact hr
 .have hp:=R9 hk;have hsz:=YA hk;have hl:=NN hz.2;refine⟨CJ k,[]++[r],hp.add hz.1 hz.2 ?_, ?_⟩
  .show(cat<|CJ k).length+_<=2400;omega
  .rw[En,aFj];have:=aA5 hk<|aGV hs;rw[o9 hs]at this;rw[this];exact hr
structure DN (k:AA) (st:AH):Prop where
 ok:Aj k=U
 st:DW k.id k.log=I st
def Bu{k:AA}(h:Aj k=U):DN k (stT k):=⟨h,(Ds h).st⟩
def DN.kok{k:AA}{st:AH}(h:DN k st):Ay st=U:=Qr h.st
def DN.id{k:AA}{st:AH}(h:DN k st):st.id=k.id:=o9 h.st
def DN.stT{k:AA}{st:AH}(h:DN k st):stT k=st:=by
 unfold Go.VS.stT;rw[h.st];rfl
def Xz{k:AA}{rs ts:List A4}(id:isN k.id=U)(l:CF k.log k.fo rs ts)(hl:k.AM.length<=3)(up:k.up=U\/k.AM.length=0)(st:(Ci k.id<|rs++ts).isSome=U)(hv:∀i,i<k.AM.length->G2 k.AM i=U):Aj k=U:=by
 unfold Aj;simp only[AG,Br,decide_eq_true_eq,CE];refine⟨id,l.sZ,J,up,⟨?_, ?_⟩,hv⟩
 .rw[l.state];exact st
 .rw[l.abS];exact aE8 st
def DN.lg{k:AA}{st:AH}(h:DN k st):∃rs ts,CF k.log k.fo rs ts/\Ci k.id (rs++ts)=I st:=by
 obtain⟨rs,ts,hl⟩:=abH (Ds h.ok).sh;exact⟨rs,ts,hl,by rw[← hl.state];exact h.st⟩
def DN.sb{k:AA}{st o:AH}{lg:A4}{fo:Int}{rs ts:List A4}(h:DN k st)(l:CF lg fo rs ts)(e:Ci k.id (rs++ts)=I o):DN ⟨k.id,k.up,lg,fo,k.AM⟩ o:=by
 have hf:=Ds h.ok;refine⟨Xz (k:=⟨k.id,k.up,lg,fo,k.AM⟩) hf.id l hf.hl hf.up ?_ hf.hv, ?_⟩
 .simp only[e];rfl
 .simp only[l.state];exact e
def wrM(k:AA)(r:A4):AA:=⟨k.id,k.up,(DC (stT k) k.log k.fo r).1,(DC (stT k) k.log k.fo r).2,k.AM⟩
def PO{k:AA}{st o:AH}{r:A4}(h:DN k st)(hr:BM st r=I o):DN (wrM k r) o:=by
 obtain⟨rs,ts,hl,hs⟩:=h.lg;obtain⟨rs',ts',h1,h2⟩:=aIq hl hs hr;have:=h.sb h1 h2;unfold wrM;rw[h.stT];exact this
def foM(k:AA):AA:=⟨k.id,k.up,k.log,(k.log.size:Int),k.AM⟩
def RS{k:AA}{st:AH}(h:DN k st):DN (foM k) st:=by
 obtain⟨rs,ts,hl,hs⟩:=h.lg;exact h.sb hl.force<|by simpa using hs
def pkM(k:AA):AA:=⟨k.id,k.up,DF<|CJ<|stT k,((DF<|CJ<|stT k).size:Int),k.AM⟩
def rM{k:AA}{st:AH}(h:DN k st):DN (pkM k) st:=by
 have:=h.sb (R9 h.kok) (o:=st) (by
  have:=aA5 h.kok<|aGV h.st;rw[h.id]at this;simpa using this)
 unfold pkM;rw[h.stT];exact this
def faM(k:AA)(keep:Int):AA:=
 let n:=(k.fo+max 0 (min keep<|(k.log.size:Int) - k.fo)).toNat
 ⟨k.id,A3,(k.log.extract 0 n).extract 0 (DE<|k.log.extract 0 n).2,((DE<|k.log.extract 0 n).2:Int),[]⟩
def rK{k:AA}(h:Aj k=U)(keep:Int):Aj (faM k keep)=U:=by
 have hf:=Ds h;obtain⟨rs,ts,hl,hs⟩:=(Bu h).lg;have hfo:=hl.fo;obtain⟨us,vs,e,l⟩:=hl.UZ (k.fo+max 0 (min keep<|(k.log.size:Int) - k.fo)).toNat J;refine Xz (k:=faM k keep) hf.id l (by show 0<=3;omega) (.inr rfl) ?_ (λi hi=>by cases hi);show(Ci k.id<|(rs++us)++[]).isSome=U;rw[CW];refine aE8 (ts:=vs) ?_;rw[C9,← e,hs];rfl
def aFw{k:AA}{st:AH}(h:DN k st)(hf:k.fo=(k.log.size:Int))(keep:Int):DN (faM k keep) st/\(faM k keep).log=k.log/\(faM k keep).fo=k.fo:=by
 obtain⟨rs,ts,hl,hs⟩:=h.lg;have e:(k.fo+max 0 (min keep<|(k.log.size:Int) - k.fo)).toNat=k.log.size:=J
 have e2:k.log.extract 0 k.log.size=k.log:=by
  apply GG;rw[EK,Js,J6];exact KY (by rw[B2];omega)
 have hk:faM k keep=⟨k.id,A3,k.log,(k.log.size:Int),[]⟩:=by
  unfold faM;simp only[e,e2,hl.read]
 have ok:=rK h.ok keep;rw[hk]at ok ⊢;exact⟨⟨ok,h.st⟩,rfl,hf.symm⟩
def riM(k:AA):AA:=⟨k.id,U,k.log,k.fo,k.AM⟩
def ayp{k:AA}{st:AH}(h:DN k st):DN (riM k) st:=by
 have hf:=Ds h.ok;obtain⟨rs,ts,hl,hs⟩:=h.lg;refine⟨Xz (k:=riM k) hf.id hl hf.hl (.inl rfl) ?_ hf.hv,h.st⟩;show(Ci k.id<|rs++ts).isSome=U;rw[hs];rfl
def CC(a b:List UInt8):List UInt8:=List.zipWith (· ^^^ ·) a b
def R5{a b:List UInt8}(h:a.length=b.length):(CC a b).length=a.length:=by
 unfold CC;rw[pN];omega
def ZW(a b:List UInt8):CC a b=CC b a:=by
 unfold CC
 induction a generalizing b with
 | nil=>cases b<;>rfl
 | cons x a ih=>
  cases b with
  | nil=>rfl
  | cons y b=>rw[PX,PX,ih,UInt8.xor_comm]
def Ti(a b c:List UInt8):CC (CC a b) c=CC a (CC b c):=by
 unfold CC
 induction a generalizing b c with
 | nil=>cases b<;>cases c<;>rfl
 | cons x a ih=>
  cases b with
  | nil=>cases c<;>rfl
  | cons y b=>
   cases c with
   | nil=>rfl
   | cons z c=>simp only[PX,ih,UInt8.xor_assoc]
def asf{a b:List UInt8}(h:a.length=b.length):CC (CC a b) b=a:=by
 unfold CC
 induction a generalizing b with
 | nil=>rfl
 | cons x a ih=>
  cases b with
  | nil=>cases h
  | cons y b=>rw[PX,PX,ih<|by simpa using h,UInt8.xor_assoc,UInt8.xor_self,UInt8.xor_zero]
def nul(n:Nat):List UInt8:=BV n 0
def Zk{a:List UInt8}{n:Nat}(h:a.length=n):CC (nul n) a=a:=by
 unfold CC nul
 induction a generalizing n with
 | nil=>subst h;rfl
 | cons x a ih=>
  subst h;rw[Bh,aFS,PX,ih rfl,UInt8.zero_xor]
def E3(n:Nat)(bl:Nat->List UInt8):List Nat->List UInt8
 | []=>nul n
 | k::ks=>CC (bl k) (E3 n bl ks)
def Qy{n:Nat}{bl:Nat->List UInt8}:∀ {ks:List Nat},(∀k∈ks,(bl k).length=n)->(E3 n bl ks).length=n
 | [],_=>by simp[E3,nul]
 | k::ks,h=>by
  have a:=h k Av;have b:=Qy λx hx=>h x<|An k hx;rw[E3,R5 J,a]
def qP{n:Nat}{bl:Nat->List UInt8}:∀ {ks:List Nat} {y:List UInt8},y.length=n->ks.foldl (λx k=>CC x<|bl k) y=CC y (E3 n bl ks)
 | [],y,h=>by
  rw[E3,ZW,Zk h];rfl
 | k::ks,y,h=>by
  rw[E6,E3,← Ti];by_cases hk:(CC y<|bl k).length=n
  .exact qP hk
  ·
   have key:∀(ks:List Nat) (y z:List UInt8),y.length<=n->ks.foldl (λx k=>CC x<|bl k) y=CC y (E3 n bl ks):=by
    intro ks
    induction ks with
    | nil=>
     intro y z hy;rw[KR,E3,ZW];unfold CC nul;clear hk h z
     induction y generalizing n with
     | nil=>simp
     | cons x y ih=>
      cases n with
      | zero=>simp at hy
      | succ n=>rw[aFS,PX,UInt8.zero_xor,← ih<|by simpa using hy]
    | cons k ks ih=>
     intro y z hy;rw[E6,E3,← Ti];refine ih _ z ?_;unfold CC;rw[pN];omega
   refine key ks _ [] ?_;unfold CC;rw[pN];omega
def aut{n:Nat}{bl:Nat->List UInt8}{p:Nat->Bool}{ks:List Nat}{u:Nat}(hb:∀k∈ks,(bl k).length=n)(hf:(ks.filter λk=> !p k)=[u]):
  ks.foldl (λx k=>if p k then CC x (bl k) else x) (E3 n bl ks)=bl u:=by
 have h1:∀(ks:List Nat) (y:List UInt8),ks.foldl (λx k=>if p k then CC x (bl k) else x) y=(ks.filter p).foldl (λx k=>CC x<|bl k) y:=by
  intro ks
  induction ks with
  | nil=>intro y;rfl
  | cons k ks ih=>
   intro y;rw[E6,KT];split<;>simp[ih]
 have h2:∀(ks:List Nat),(∀k∈ks,(bl k).length=n)->E3 n bl ks=CC (E3 n bl<|ks.filter λk=> !p k) (E3 n bl<|ks.filter p):=by
  intro ks
  induction ks with
  | nil=>intro _;simp[E3,Zk (n:=n) (a:=nul n) (by simp[nul])]
  | cons k ks ih=>
   intro hb;have:=ih λx hx=>hb x<|An _ hx;rw[E3,this,KT,KT];cases p k
   .simp only[AK,A5,A7,E3,Ti]
   .simp only[AF,A5,A7,E3];rw[← Ti,ZW<|bl k,Ti]
 have hlen:(E3 n bl<|ks.filter p).length=n:=Qy λk hk=>hb k (FW.1 hk).1;have hu:(bl u).length=n:=hb u (FW.1 (hf▸Ml u:u∈ks.filter λk=> !p k)).1;rw[h1,qP<|Qy hb,h2 ks hb,hf];rw[asf (by rw[hlen];exact Qy λk hk=>by rw[CA.1 hk];exact hu)];rw[E3,E3,ZW,Zk hu]
def rnd(x:Int):Int:=if inB x 0 65535 then BO (25173 * x+13849) 65536 else 0
def UF(x:Int):0<=rnd x/\rnd x<=65535:=by
 unfold rnd;split
 .rename_i h;have:=Ad.1 h;rw[Lg J];omega
 .omega
def kK(x:Int):QU (x,())=I ((rnd x,()),()):=by
 unfold QU rnd;simp only[EW,A9];rcases tf (inB x 0 65535) with e|e
 .have:=Ad.1 e;simp only[e,AF,A7,A5];rw[Ac (n:=25173 * x) J J,Ac J J]
 .simp only[e,AK,A7,A5]
def kB(x:Int):QR (x,())=I ((rnd x,()),()):=by
 unfold QR rnd;simp only[IB,A9];rcases tf (inB x 0 65535) with e|e
 .have:=Ad.1 e;simp only[e,AF,A7,A5];rw[Ac (n:=x * 25173) J J,Ac J J,S5]
 .simp only[e,AK,A7,A5]
def E0(b n:Int):Bool:=inB b 1 6&&inB n 0 999
def aDd(b n:Int):Xo (b,n,())=I ((E0 b n,()),()):=by
 unfold Xo E0;simp only[EW,A9,D8,D0];cases inB b 1 6<;>rfl
def YT(b n:Int):NK (b,n,())=I ((E0 b n,()),()):=by
 unfold NK E0;simp only[IB,A9,D8,D0];cases inB b 1 6<;>rfl
def wgt(b d:Int):Int:=if d=1 then B5 60 b+10 else B5 60 (d * (d - 1))
def ajH{b d:Int}(hb:inB b 1 6=U)(hd:inB d 1 6=U):iI (b,d,())=I ((wgt b d,()),()):=by
 have h1:=Ad.1 hb;have h2:=Ad.1 hd;have h3:b=1\/b=2\/b=3\/b=4\/b=5\/b=6:=J
 have h4:d=1\/d=2\/d=3\/d=4\/d=5\/d=6:=J
 obtain rfl|rfl|rfl|rfl|rfl|rfl:=h3<;>obtain rfl|rfl|rfl|rfl|rfl|rfl:=h4<;>rfl
def avG(b n:Int)(hb:inB b 1 6=U):dd (b,n,0,1,())=I (.inr (b,n,70,())):=by
 have h1:=Ad.1 hb;have h3:b=1\/b=2\/b=3\/b=4\/b=5\/b=6:=J
 unfold dd;obtain rfl|rfl|rfl|rfl|rfl|rfl:=h3
 .exact Ap rfl (BE rfl)
 .exact Ap rfl (Ap rfl (BE rfl))
 .exact Ap rfl (Ap rfl (Ap rfl (BE rfl)))
 .exact Ap rfl (Ap rfl (Ap rfl (Ap rfl (BE rfl))))
 .exact Ap rfl (Ap rfl (Ap rfl (Ap rfl (Ap rfl (BE rfl)))))
 .exact Ap rfl (Ap rfl (Ap rfl (Ap rfl (Ap rfl (Ap rfl (BE rfl))))))
def wts(b:Int):List Int:=if b=1 then [70] else if b=2 then [40,30] else if b=3 then [30,30,10] else if b=4 then [25,30,10,5] else if b=5 then [22,30,10,5,3] else [20,30,10,5,3,2]
def avX(b n:Int)(hb:inB b 1 6=U):eB (b,n,[0,w64<|w64 (B5 60 b)+10],rd (dfl .int) ([0,w64<|w64 (B5 60 b)+10]:List Int) 1,2,())=I (.inr (b,n,0::wts b,70,())):=by
 have h1:=Ad.1 hb;have h3:b=1\/b=2\/b=3\/b=4\/b=5\/b=6:=J
 unfold eB;obtain rfl|rfl|rfl|rfl|rfl|rfl:=h3
 .exact BE rfl
 .exact Ap rfl (BE rfl)
 .exact Ap rfl (Ap rfl (BE rfl))
 .exact Ap rfl (Ap rfl (Ap rfl (BE rfl)))
 .exact Ap rfl (Ap rfl (Ap rfl (Ap rfl (BE rfl))))
 .exact Ap rfl (Ap rfl (Ap rfl (Ap rfl (Ap rfl (BE rfl)))))
def Ff{σ ρ:Type}{b:σ->Option (σ ⊕ ρ)}{x x':σ}{y z:ρ}{c:Bool}(h:b x=if c then I (.inr y) else I (.inl x'))(hz:AW b x'=I z):AW b x=I (if c then y else z):=by
 cases c
 .exact Ap h hz
 .exact BE h
def Ln(b r:Int):List Int->Int->Int->(Int×A2) ⊕ (Int×A2)
 | [],_,_=> .inr (b,())
 | w::ws,acc,d=>if A1 (r<acc+w) then .inl (d,()) else Ln b r ws (acc+w) (d+1)
def avY(b r:Int)(hb:inB b 1 6=U):eA (b,0::wts b,r,0,1,())=I (Ln b r (wts b) 0 1):=by
 have h1:=Ad.1 hb;have h3:b=1\/b=2\/b=3\/b=4\/b=5\/b=6:=J
 unfold eA;obtain rfl|rfl|rfl|rfl|rfl|rfl:=h3
 .exact Ff rfl (BE rfl)
 .exact Ff rfl (Ff rfl (BE rfl))
 .exact Ff rfl (Ff rfl (Ff rfl (BE rfl)))
 .exact Ff rfl (Ff rfl (Ff rfl (Ff rfl (BE rfl))))
 .exact Ff rfl (Ff rfl (Ff rfl (Ff rfl (Ff rfl (BE rfl)))))
 .exact Ff rfl (Ff rfl (Ff rfl (Ff rfl (Ff rfl (Ff rfl (BE rfl))))))
def aIu{b d:Int}(hb:inB b 1 6=U)(hd:inB d 1 6=U):0<=wgt b d/\wgt b d<=70:=by
 have h1:=Ad.1 hb;have h2:=Ad.1 hd;have h3:b=1\/b=2\/b=3\/b=4\/b=5\/b=6:=J
 have h4:d=1\/d=2\/d=3\/d=4\/d=5\/d=6:=J
 obtain rfl|rfl|rfl|rfl|rfl|rfl:=h3<;>obtain rfl|rfl|rfl|rfl|rfl|rfl:=h4<;>decide
def amr{b x d:Int}(hb:inB b 1 6=U)(hd:inB d 1 6=U)(hlt:d<b)(h0: -1000<=x)(h1:x<=1000):
  WA (b,x,d,())=if A1 (x - wgt b d<0) then I (.inr<|.inl (d,())) else I (.inl (b,x - wgt b d,d+1,())):=by
 have hw:=aIu hb hd;have h2:=Ad.1 hd;unfold WA;simp only[AZ hlt,A5,ajH hb hd,A9];rw[Ac (n:=x - wgt b d) J J,Ac (n:=d+1) J J]
def N0:(Int×A2) ⊕ (Int×A2)->Int
 | .inl y=>y.1
 | .inr y=>y.1
def dB(b x:Int):Nat->Int->(Int×A2) ⊕ (Int×A2)
 | 0,_=> .inr (b,())
 | n+1,d=>if A1 (x - wgt b d<0) then .inl (d,()) else dB b (x - wgt b d) n (d+1)
def aHx{b:Int}(hb:inB b 1 6=U):∀(n:Nat) (x d:Int),1<=d->d+n=b-> -70 * d<=x->x<=100->db (b,x,d,())=I (dB b x n d)
 | 0,x,d,_,h,_,_=>by
  unfold db;refine BE ?_;unfold WA;simp only[show A1 (d<b)=A3 from BI J,A7];rfl
 | n+1,x,d,h1,h,h2,h3=>by
  have hb':=Ad.1 hb;have hd:inB d 1 6=U:=Ad.2 ⟨h1,J⟩;have hw:=aIu hb hd;exact Ff (amr hb hd J J J)<|aHx hb n (x - wgt b d) (d+1) J J J J
def ay2:∀b:Fin 6,∀r:Fin 70,N0 (dB ((b.1+1:Nat):Int) (r.1:Int) b.1 1)=N0 (Ln ((b.1+1:Nat):Int) (r.1:Int) (wts ((b.1+1:Nat):Int)) 0 1):=by decide+kernel
def awc{b r:Int}(hb:inB b 1 6=U)(h0:0<=r)(h1:r<70):N0 (dB b r (b - 1).toNat 1)=N0 (Ln b r (wts b) 0 1):=by
 have h2:=Ad.1 hb;have:=ay2 ⟨(b - 1).toNat,J⟩ ⟨r.toNat,J⟩;rw[show(((b - 1).toNat+1:Nat):Int)=b by omega,show((r.toNat:Nat):Int)=r by omega]at this;exact this
def GI(b n:Int):Int:=if E0 b n then(if A1 (n<b) then 1 else N0 (Ln b (BO (B5 (rnd<|rnd<|31 * n+b) 16) 70) (wts b) 0 1)) else 0
def aJE(s:(Int×A2) ⊕ (Int×A2)):AP (I s) (λy=>I (y,())) (λy=>I (y,()))=I ((N0 s,()),()):=by
 cases s<;>rfl
def ahg(b n:Int):ft (b,n,())=I ((GI b n,()),()):=by
 unfold ft GI;rw[aDd];simp only[A9];rcases tf (E0 b n) with e|e
 .have e2:=e;unfold E0 at e2;rw[AG]at e2;have h1:=Ad.1 e2.1;have h2:=Ad.1 e2.2;simp only[e,AF,A7,A5];rcases tf (A1<|n<b) with e3|e3
  .simp only[e3,A5]
  .have hr:=UF<|rnd<|31 * n+b;have hz:B5 (rnd<|rnd<|31 * n+b) 16=rnd (rnd<|31 * n+b) / 16:=Gj hr.1;simp only[e3,A7,show A1 (b=0)=A3 from BI J,AK,A5,avX b n e2.1];rw[A8<|by rfl];simp only[AP,kK,A9];rw[Ac (n:=31 * n) J J,Ac (n:=31 * n+b) J J,Ac (n:=B5 _ 16) J J];rw[avY b _ e2.1];exact aJE _
 .simp only[e,AK,A5,A7]
def ah8(b n:Int):gO (b,n,())=I ((GI b n,()),()):=by
 unfold gO GI;rw[YT];simp only[A9];rcases tf (E0 b n) with e|e
 .have e2:=e;unfold E0 at e2;rw[AG]at e2;have h1:=Ad.1 e2.1;have h2:=Ad.1 e2.2;simp only[e,AF,A7,A5];rcases tf (A1<|n<b) with e3|e3
  .simp only[e3,A5]
  .have hr:=UF<|rnd<|31 * n+b;have hz:B5 (rnd<|rnd<|31 * n+b) 16=rnd (rnd<|31 * n+b) / 16:=Gj hr.1;have hm:BO (B5 (rnd<|rnd<|31 * n+b) 16) 70=(rnd (rnd<|31 * n+b) / 16) % 70:=by rw[hz];exact Lg J
   simp only[e3,A7,avG b n e2.1];simp only[AP,kB,A9];rw[Ac (n:=n * 31) J J,Ac (n:=n * 31+b) J J,S5 n 31,Ac (n:=B5 _ 16) J J];rw[aHx e2.1 (b - 1).toNat _ 1 J J J J,A8<|by rfl];rw[← awc e2.1 J J];exact aJE _
 .simp only[e,AK,A5,A7]
def afx{l:List Int}(hl:l.length<=1048576):vb (l,())=I ((l,()),()):=MM hl
def aeT{l:List Int}(hl:l.length<=1048576):eS (l,())=I ((l,()),()):=MM hl
def Ev(b:Nat)(f:Nat->Bool):Nat->Nat->Nat
 | 0,a=>a
 | k+1,a=>if f a then Ev b f k ((a+1) % b) else a
def Rep(u:List Bool)(f:Nat->Bool):Prop:=∀i,u.getD i A3=f i
def rdB(u:List Bool)(i:Nat): @rd Bool (dfl .bool) u (i:Int)=u.getD i A3:=rfl
def UH{b:Nat}{f:Nat->Bool}:∀(k a:Nat),a<b->Ev b f k a<b
 | 0,_,h=>h
 | k+1,a,h=>by
  unfold Ev;split
  .exact UH k _ (Pj _ J)
  .exact h
def q5{a b k:Nat}:((a+1) % b+k) % b=(a+(k+1)) % b:=by
 rw[Nat.mod_add_mod,DI,Nl 1 k]
def nV{b:Nat}{f:Nat->Bool}:∀(k a m:Nat),a<b->f ((a+k) % b)=A3->k<=m->Ev b f m a=Ev b f k a
 | 0,a,m,h,e,_=>by
  rw[I0,Pe h]at e;cases m with
  | zero=>rfl
  | succ m=>
   simp only[Ev,e,A7]
 | k+1,a,m,h,e,hm=>by
  cases m with
  | zero=>omega
  | succ m=>
   rw[Ev,Ev];rw[nV k ((a+1) % b) m (Pj _ J) (by rw[q5];exact e) J]
def reach{a b j:Nat}(ha:a<b)(hj:j<b):∃k,k<=b/\(a+k) % b=j:=by
 by_cases h:a<=j
 .exact⟨j - a,J,by rw[show a+(j - a)=j by omega];exact Pe hj⟩
 .exact⟨j+b - a,J,by rw[show a+(j+b - a)=j+b by omega,Nat.add_mod_right];exact Pe hj⟩
def cnt(f:Nat->Bool):Nat->Nat
 | 0=>0
 | k+1=>cnt f k+(if f k then 1 else 0)
def qb{f:Nat->Bool}:∀(k:Nat),cnt f k<k->∃j,j<k/\f j=A3
 | 0,h=>J
 | k+1,h=>by
  rw[cnt]at h;rcases tf (f k) with e|e
  .rw[e,A8 rfl]at h;obtain⟨j,h1,h2⟩:=qb (f:=f) k J;exact⟨j,J,h2⟩
  .exact⟨k,J,e⟩
def IQ(f:Nat->Bool)(a:Nat):Nat->Bool:=λj=>if j=a then U else f j
def rE{f:Nat->Bool}{a:Nat}:∀(k:Nat),(k<=a->cnt (IQ f a) k=cnt f k)/\cnt (IQ f a) k<=cnt f k+1
 | 0=>⟨λ_=>rfl,by rw[cnt,cnt];omega⟩
 | k+1=>by
  obtain⟨h1,h2⟩:=rE (f:=f) (a:=a) k;rw[cnt,cnt];constructor
  .intro h;rw[h1 J,show IQ f a k=f k from AD J]
  .by_cases h:k=a
   .rw[h1 J];unfold IQ;rw[A8 h];cases f k<;>simp
   .unfold IQ;rw[AD h];unfold IQ at h2;omega
def qa:∀(k:Nat),cnt (λ_=>A3) k=0
 | 0=>rfl
 | k+1=>by rw[cnt,qa k];rfl
def Rep.set{u:List Bool}{f:Nat->Bool}{a:Nat}(h:Rep u f)(ha:a<u.length):Rep (u.set a U) (IQ f a):=by
 intro i;unfold IQ;rw[BC,Pa];by_cases e:i=a
 .subst e;simp[ha]
 .rw[AD<|Li e,AD e,← h i,BC]
def Rep.new(n:Nat):Rep (BV n A3) (λ_=>A3):=by
 intro i;rw[BC,bM];split<;>rfl
def Jf(b:Nat):Nat->(Nat->Bool)->Int->Nat->Bool
 | 0,f,_=>f
 | n+1,f,x=>Jf b n (IQ f<|Ev b f b (BO (B5 (rnd x) 16) (b:Int)).toNat) (rnd x)
def aHU{b:Nat}(hb:0<b):∀(n:Nat) (f:Nat->Bool) (x:Int),(∀i,b<=i->f i=A3)->∀i,b<=i->Jf b n f x i=A3
 | 0,_,_,h=>h
 | n+1,f,x,h=>by
  refine aHU hb n _ _ ?_;intro i hi;unfold IQ;rw[AD,h i hi];have:Ev b f b (BO (B5 (rnd x) 16) (b:Int)).toNat<b:=by
   refine UH _ _ ?_;have:=UF x;rw[Gj this.1,Lg J];have h1:=Int.emod_lt_of_pos (rnd x / 16) (show(0:Int)<b by omega);have h2:=Int.emod_nonneg (rnd x / 16) (show(b:Int)≠0 by omega);omega
  omega
def Ho(f:Nat->Bool)(m:Nat):List Nat:=(BB m).filter f
def mr(f:Nat->Bool)(m:Nat):Ho f (m+1)=Ho f m++if f m then [m] else []:=by
 unfold Ho;rw[IU,Rl];congr 1;simp only[KT,bJ]
def Zx(f:Nat->Bool)(m:Nat):(Ho f m).length<=m:=by
 unfold Ho;exact Ce (J4 _ _)<|by simp
def aur{f:Nat->Bool}{m k:Nat}(h:k∈Ho f m):k<m:=by
 unfold Ho at h;exact D6.1 (FW.1 h).1
def aGy{f:Nat->Bool}{b:Nat}(h:∀i,b<=i->f i=A3):∀(m:Nat),b<=m->Ho f m=Ho f b
 | 0,hm=>by rw[show b=0 by omega]
 | m+1,hm=>by
  by_cases e:b=m+1
  .rw[e]
  .rw[mr,h m J,A7,CW,aGy h m J]
abbrev Ba(l:List Nat):List Int:=l.map λi:Nat=>(i:Int)
def aIk{b r:Int}(hb:0<=b):∀(ws:List Int) (acc d:Int),0<=d->d+ws.length<=b+1->0<=N0 (Ln b r ws acc d)/\N0 (Ln b r ws acc d)<=b
 | [],_,_,_,_=>by
  show 0<=b/\b<=b;omega
 | w::ws,acc,d,h0,h1=>by
  rw[Bh]at h1;unfold Ln;split
  .show 0<=d/\d<=b;omega
  .exact aIk hb ws _ _ J J
def aII{b n:Int}(h:E0 b n=U):0<=GI b n/\GI b n<=b:=by
 unfold GI;rw[A8 h];unfold E0 at h;rw[AG]at h;have h1:=Ad.1 h.1;split
 .omega
 .refine aIk J _ _ _ J ?_;have h3:b=1\/b=2\/b=3\/b=4\/b=5\/b=6:=J
  obtain rfl|rfl|rfl|rfl|rfl|rfl:=h3<;>exact Ct _
def Bl(b n:Int):List Nat:=
 if E0 b n then(if A1 (n<b) then [n.toNat] else Ho (Jf b.toNat (GI b n).toNat (λ_=>A3)<|rnd<|7 * n+1) b.toNat) else []
def MD{b n:Int}{k:Nat}(h:k∈Bl b n):(k:Int)<b:=by
 unfold Bl at h;split at h
 .rename_i h0;unfold E0 at h0;rw[AG]at h0;have h1:=Ad.1 h0.1;have h2:=Ad.1 h0.2;split at h
  .rename_i h3;have:=BX h3;have:=CA.1 h;omega
  .have:=aur h;omega
 .cases h
def Yn(b n:Int):(Bl b n).length<=6:=by
 unfold Bl;split
 .rename_i h0;unfold E0 at h0;rw[AG]at h0;have h1:=Ad.1 h0.1;split
  .simp
  .exact Ce (Zx _ _) J
 .simp
section
variable {bn:Nat} (hb:0<bn) (h6:bn<=6) {u:List Bool} {f:Nat->Bool} (hu:Rep u f) (hl:bn<=u.length)
include hb h6 hu hl
def aGd(x n:Int):∀(k a:Nat),a<bn->f ((a+k) % bn)=A3->
  fq ((bn:Int),u,x,n,(a:Int),())=I (.inr ((bn:Int),u,x,n,((Ev bn f k a:Nat):Int),()))
 | 0,a,ha,e=>by
  rw[I0,Pe ha]at e;refine BE ?_;unfold Xf;simp only[rdB,hu a,e,AU<|show a<u.length by omega,A5,A7];rfl
 | k+1,a,ha,e=>by
  unfold fq at *;unfold Ev;rcases tf (f a) with e1|e1
  .rw[e1,A8 rfl];refine Ap ?_ (aGd x n k ((a+1) % bn) (Pj _ hb) (by rw[q5];exact e));unfold Xf;simp only[rdB,hu a,e1,AU<|show a<u.length by omega,A5,show A1 ((bn:Int)=0)=A3 from BI J,AK];rw[Ac J J];rfl
  .rw[e1,A7];refine BE ?_;unfold Xf;simp only[rdB,hu a,e1,AU<|show a<u.length by omega,A5,A7]
def aGC(o:List Int)(x n:Int):∀(k a:Nat),a<bn->f ((a+k) % bn)=A3->
  gN ((bn:Int),o,u,x,n,(a:Int),())=I (.inr ((bn:Int),o,u,x,n,((Ev bn f k a:Nat):Int),()))
 | 0,a,ha,e=>by
  rw[I0,Pe ha]at e;refine BE ?_;unfold XV;simp only[rdB,hu a,e,AU<|show a<u.length by omega,A5,A7];rfl
 | k+1,a,ha,e=>by
  unfold gN at *;unfold Ev;rcases tf (f a) with e1|e1
  .rw[e1,A8 rfl];refine Ap ?_ (aGC o x n k ((a+1) % bn) (Pj _ hb) (by rw[q5];exact e));unfold XV;simp only[rdB,hu a,e1,AU<|show a<u.length by omega,A5,show A1 ((bn:Int)=0)=A3 from BI J,AK];rw[Ac J J];rfl
  .rw[e1,A7];refine BE ?_;unfold XV;simp only[rdB,hu a,e1,AU<|show a<u.length by omega,A5,A7]
end
section
variable {bn:Nat} (hb:0<bn) (h6:bn<=6)
include hb h6
def aJf(x:Int):∃a:Nat,BO (w64<|B5 (rnd x) 16) (bn:Int)=(a:Int)/\(BO (B5 (rnd x) 16) (bn:Int)).toNat=a/\a<bn:=by
 have h:=UF x;have hd:B5 (rnd x) 16=rnd x / 16:=Gj h.1;rw[hd,Ac J J,Lg J];have h1:=Int.emod_lt_of_pos (rnd x / 16) (show(0:Int)<bn by omega);have h2:=Int.emod_nonneg (rnd x / 16) (show(bn:Int)≠0 by omega);exact⟨(rnd x / 16 % (bn:Int)).toNat,J,rfl,J⟩
def aHb:∀(n:Nat) (u:List Bool) (f:Nat->Bool) (x:Int),Rep u f->bn<=u.length->cnt f bn+n<=bn->
  ∃u',wT ((bn:Int),u,x,(n:Int),())=I (.inr (u',()))/\Rep u' (Jf bn n f x)/\u'.length=u.length
 | 0,u,f,x,hu,_,_=>by
  refine⟨u,BE ?_,hu,rfl⟩;rfl
 | n+1,u,f,x,hu,hl,hc=>by
  obtain⟨a,ea,eb,ha⟩:=aJf hb h6 x;obtain⟨j,hj,ej⟩:=qb (f:=f) bn J;obtain⟨k,hk,ek⟩:=reach ha hj;have es:=aGd hb h6 hu hl (rnd x) ((n+1:Nat):Int) k a ha (by rw[ek];exact ej);have em:=nV (f:=f) k a bn ha (by rw[ek];exact ej) hk;have hs:Ev bn f k a<bn:=UH k a ha;obtain⟨u',h1,h2,h3⟩:=aHb n (u.set (Ev bn f k a) U) (IQ f<|Ev bn f k a) (rnd x) (hu.set J) (by rw[Gi];exact hl)
   (by have:=(rE (f:=f) (a:=Ev bn f k a) bn).2;omega)
  refine⟨u',Ap ?_ h1, ?_,by rw[h3,Gi]⟩
  .unfold l9;simp only[kK,A9,show A1 ((0:Int)<((n+1:Nat):Int))=U from AZ J,A5,show A1 ((bn:Int)=0)=A3 from BI J,AK,ea,es];simp only[AP,A9,AU<|show Ev bn f k a<u.length by omega,A5,BZ];rw[Ac J J,show((n+1:Nat):Int) - 1=(n:Int) by omega]
  .rw[Jf,eb,em];exact h2
def aHw(o:List Int):∀(n:Nat) (u:List Bool) (f:Nat->Bool) (x:Int),Rep u f->bn<=u.length->cnt f bn+n<=bn->
  ∃u',wM ((bn:Int),o,u,x,(n:Int),())=I (.inr ((bn:Int),o,u',()))/\Rep u' (Jf bn n f x)/\u'.length=u.length
 | 0,u,f,x,hu,_,_=>by
  refine⟨u,BE ?_,hu,rfl⟩;rfl
 | n+1,u,f,x,hu,hl,hc=>by
  obtain⟨a,ea,eb,ha⟩:=aJf hb h6 x;obtain⟨j,hj,ej⟩:=qb (f:=f) bn J;obtain⟨k,hk,ek⟩:=reach ha hj;have es:=aGC hb h6 hu hl o (rnd x) ((n+1:Nat):Int) k a ha (by rw[ek];exact ej);have em:=nV (f:=f) k a bn ha (by rw[ek];exact ej) hk;have hs:Ev bn f k a<bn:=UH k a ha;obtain⟨u',h1,h2,h3⟩:=aHw o n (u.set (Ev bn f k a) U) (IQ f<|Ev bn f k a) (rnd x) (hu.set J) (by rw[Gi];exact hl)
   (by have:=(rE (f:=f) (a:=Ev bn f k a) bn).2;omega)
  refine⟨u',Ap ?_ h1, ?_,by rw[h3,Gi]⟩
  .unfold lH;simp only[kB,A9,show A1 ((0:Int)<((n+1:Nat):Int))=U from AZ J,A5,show A1 ((bn:Int)=0)=A3 from BI J,AK,ea,es];simp only[AP,A9,AU<|show Ev bn f k a<u.length by omega,A5,BZ];rw[Ac J J,show((n+1:Nat):Int) - 1=(n:Int) by omega]
  .rw[Jf,eb,em];exact h2
end
def asx{u:List Bool}{f:Nat->Bool}(hu:Rep u f)(hl:u.length=6):wS ([],u,0,())=I (.inr (Ba<|Ho f 6,())):=by
 refine CG (λi=>(Ba<|Ho f i,u,(i:Int),())) 6 ?_ rfl;intro i hi;unfold l8;simp only[rdB,hu i,AU (show i<u.length by omega),AU hi,Lh,A5,show A1 ((i:Int)<6)=U from AZ J];rw[Ac (n:=(i:Int)+1) J J,mr];have:=Zx f i;rcases tf (f i) with e|e
 .simp only[e,A5];rw[A8<|BG (by simp;omega)];simp[Ba]
 .simp only[e,A7,CW];rfl
def atW{bn:Nat}(h6:bn<=6){u:List Bool}{f:Nat->Bool}(hu:Rep u f)(hl:u.length=bn):wL ((bn:Int),[],u,0,())=I (.inr (Ba<|Ho f bn,())):=by
 refine CG (λi=>((bn:Int),Ba<|Ho f i,u,(i:Int),())) bn ?_ ?_
 .intro i hi;unfold jc;simp only[rdB,hu i,AU (show i<u.length by omega),A5,show A1 ((i:Int)<(bn:Int))=U from AZ J];rw[Ac (n:=(i:Int)+1) J J,mr];have:=Zx f i;rcases tf (f i) with e|e
  .simp only[e,A5];rw[A8<|BG (by simp;omega)];simp[Ba]
  .simp only[e,A7,CW];rfl
 .unfold jc;simp only[show A1 ((bn:Int)<(bn:Int))=A3 from BI J,A7]
def ly(b n:Int):Xt (b,n,())=I ((Ba<|Bl b n,()),()):=by
 unfold Xt Bl;rw[aDd];simp only[A9];rcases tf (E0 b n) with e|e
 .have e2:=e;unfold E0 at e2;rw[AG]at e2;have h1:=Ad.1 e2.1;have h2:=Ad.1 e2.2;simp only[e,AF,A7,A5];rcases tf (A1<|n<b) with e3|e3
  .simp only[e3,A5];rw[show Ba [n.toNat]=[n] from by simp[Ba];omega]
  .have hd:=aII e;simp only[e3,A7,kK,ahg,A9];rw[Ac (n:=7 * n) J J,Ac (n:=7 * n+1) J J];obtain⟨u,g1,g2,g3⟩:=aHb (bn:=b.toNat) J J (GI b n).toNat (BV 6 A3) (λ_=>A3) (rnd<|7 * n+1) (Rep.new 6) (by simp;omega) (by rw[qa];omega);rw[show((b.toNat:Nat):Int)=b by omega,show(((GI b n).toNat:Nat):Int)=GI b n by omega]at g1;rw[show(dfl .bool:Bool)=A3 from rfl,g1];simp only[AP,A9];rw[asx g2 (by rw[g3];rfl),aGy (b:=b.toNat) (aHU J _ _ _ λ_ _=>rfl) 6 J];simp only[A9];rw[afx (by have:=Zx (Jf b.toNat (GI b n).toNat (λ_=>A3)<|rnd<|7 * n+1) b.toNat;simp;omega)];rfl
 .simp only[e,AK,A5,A7];rfl
def aDX(b n:Int):Xn (b,n,())=I ((Ba<|Bl b n,()),()):=by
 unfold Xn Bl;rw[YT];simp only[A9];rcases tf (E0 b n) with e|e
 .have e2:=e;unfold E0 at e2;rw[AG]at e2;have h1:=Ad.1 e2.1;have h2:=Ad.1 e2.2;simp only[e,AF,A7,A5];rcases tf (A1<|n<b) with e3|e3
  .simp only[e3,A5];rw[show Ba [n.toNat]=[n] from by simp[Ba];omega];rfl
  .have hd:=aII e;simp only[e3,A7,kB,ah8,A9];rw[A8 (by simp;omega)];rw[Ac (n:=n * 7) J J,Ac (n:=n * 7+1) J J,S5 n 7];obtain⟨u,g1,g2,g3⟩:=aHw (bn:=b.toNat) J J [] (GI b n).toNat (BV b.toNat A3) (λ_=>A3) (rnd<|7 * n+1) (Rep.new _) (by simp) (by rw[qa];omega);rw[show((b.toNat:Nat):Int)=b by omega,show(((GI b n).toNat:Nat):Int)=GI b n by omega]at g1;rw[show(dfl .bool:Bool)=A3 from rfl,g1];simp only[AP,A9];have g4:=atW (bn:=b.toNat) J g2 (by rw[g3];simp);rw[show((b.toNat:Nat):Int)=b by omega]at g4;rw[g4];rfl
 .simp only[e,AK,A5,A7];rfl
end Go.VS
namespace Go.VS
open Go
abbrev bI(l:List UInt8):List Int:=l.map λb=>(b.toNat:Int)
def Tu(s:A4):BF s=bI (L s):=rfl
def U9(l:List UInt8):BK (bI l)=B l:=by
 unfold BK bI B;rw[IV];congr 2;rw[H9 (g:=id) (by intro b _;simp),bR]
def aIr(a b:UInt8):E4 .u8 (a.toNat:Int) (b.toNat:Int)=((a ^^^ b).toNat:Int):=by
 have h1:∀c:UInt8,FV (IntKind.bits .u8) (c.toNat:Int)=c.toBitVec:=by
  intro c;apply pR;rw[Rp];have:=c.toNat_lt;show((c.toNat:Int) % (2 ^ 8:Nat)).toNat=c.toBitVec.toNat;rw[pC J J];rfl
 unfold E4;rw[h1 a,h1 b];have:=(a ^^^ b).toNat_lt;show bT .u8 (((a ^^^ b).toNat:Nat):Int)=_;have h3:∀n:Int,bT .u8 n=n % 256:=Nb;rw[h3];omega
def az8{l:List UInt8}(h:l.length=4):∃a b c d,l=[a,b,c,d]:=by
 obtain _|⟨a,_|⟨b,_|⟨c,_|⟨d,_|⟨e,l⟩⟩⟩⟩⟩:=l
 all_goals simp at h
 exact⟨a,b,c,d,rfl⟩
def sz4{s:A4}(h:s.size=4):∃a b c d,s=B [a,b,c,d]:=by
 obtain⟨a,b,c,d,e⟩:=az8 (l:=L s) h;exact⟨a,b,c,d,by rw[← e,B_L]⟩
def aDc{a b:A4}(ha:a.size=4)(hb:b.size=4):Xu (a,b,())=I ((B<|CC (L a)<|L b,()),()):=by
 obtain⟨a0,a1,a2,a3,rfl⟩:=sz4 ha;obtain⟨b0,b1,b2,b3,rfl⟩:=sz4 hb;unfold Xu;rw[A8<|by rfl];have h:wO (B [b0,b1,b2,b3],BF<|B [a0,a1,a2,a3],((BF<|B [a0,a1,a2,a3]).length:Int),0,())=
   I (.inr ([E4 .u8 (a0.toNat:Int) (b0.toNat:Int),E4 .u8 (a1.toNat:Int) (b1.toNat:Int),E4 .u8 (a2.toNat:Int) (b2.toNat:Int),E4 .u8 (a3.toNat:Int) (b3.toNat:Int)],())):=
  Ap rfl (Ap rfl (Ap rfl (Ap rfl (BE rfl))))
 rw[h];simp only[aIr,AP,A9];exact congrArg (λz=>I ((z,()),()))<|U9 [a0 ^^^ b0,a1 ^^^ b1,a2 ^^^ b2,a3 ^^^ b3]
def aDV{a b:A4}(ha:a.size=4)(hb:b.size=4):Xm (a,b,())=I ((B<|CC (L a)<|L b,()),()):=by
 obtain⟨a0,a1,a2,a3,rfl⟩:=sz4 ha;obtain⟨b0,b1,b2,b3,rfl⟩:=sz4 hb;unfold Xm;have h:wK (B [a0,a1,a2,a3],B [b0,b1,b2,b3],[],0,())=
   I (.inr ([E4 .u8 (a0.toNat:Int) (b0.toNat:Int),E4 .u8 (a1.toNat:Int) (b1.toNat:Int),E4 .u8 (a2.toNat:Int) (b2.toNat:Int),E4 .u8 (a3.toNat:Int) (b3.toNat:Int)],())):=
  Ap rfl (Ap rfl (Ap rfl (Ap rfl (BE rfl))))
 rw[h];simp only[aIr,AP,A9];exact congrArg (λz=>I ((z,()),()))<|U9 [a0 ^^^ b0,a1 ^^^ b1,a2 ^^^ b2,a3 ^^^ b3]
def iF{n:Int}(h0:0<=n)(h1:n<=1000):M6 (n,())=I ((B5 (n+3) 4,()),()):=by
 unfold M6;simp only;rw[Ac (n:=n+4) J J,Ac (n:=n+4 - 1) J J,show n+4 - 1=n+3 by omega];rw[Gj J,Ac J J]
def apI:lE ()=I ((B<|nul 4,()),()):=rfl
def GK(t:List UInt8)(i:Nat):List UInt8:=(BB 4).map λj=>t.getD (4 * i+j) 0
def P9(t:List UInt8)(i:Nat):(GK t i).length=4:=by simp[GK]
def DS(t:A4):List A4:=if inB t.size 1 24 then(BB<|(t.size+3) / 4).map λi=>B (GK (L t) i) else []
def ay4(l:List UInt8):BS (BV (AR 4)<|dfl .u8).length (bI l)++Bv (bI l).length (BV (AR 4)<|dfl .u8)=bI ((BB 4).map λj=>l.getD j 0):=by
 obtain _|⟨a,_|⟨b,_|⟨c,_|⟨d,l⟩⟩⟩⟩:=l
 .rfl
 .rfl
 .rfl
 .rfl
 .rw[Mq<|by simp,CW];rfl
def aub(l:List UInt8)(k:Nat):(BB 4).map (λj=>(l.drop k).getD j 0)=(BB 4).map λj=>l.getD (k+j) 0:=by
 refine H9 ?_;intro j _;rw[BC,BC,I2]
def azO(s:A4)(k:Nat):L (s.extract k s.size)=(L s).drop k:=by
 rw[EK,KY];rw[ES,B2];exact Az _
def aDK(t:A4):Xg (t,())=I ((DS t,()),()):=by
 unfold Xg DS;simp only[EW,A9];rcases tf (inB t.size 1 24) with e|e
 .have h1:=Ad.1 e;simp only[e,AF,A7,A5];have h:vc (t,[],0,())=I (.inr ((BB<|(t.size+3) / 4).map λi=>B<|GK (L t) i,())):=by
   refine CG (λi=>(t,(BB i).map λi=>B<|GK (L t) i,((4 * i:Nat):Int),())) ((t.size+3) / 4) ?_ ?_
   .intro i hi;unfold jK;simp only[show A1 (((4 * i:Nat):Int)<(t.size:Int))=U from AZ J,A5];rw[A8<|by rfl,A8 (by simp;omega),A8<|BG (by simp;omega)];rw[BZ,Tu,azO,ay4,U9,aub,Ac J J,IU (n:=i),Eo];rw[show((4 * i:Nat):Int)+4=((4 * (i+1):Nat):Int) by omega];rfl
   .unfold jK;simp only[show A1 (((4 * ((t.size+3) / 4):Nat):Int)<(t.size:Int))=A3 from BI J,A7]
  rw[h];simp only[AP,A9];rw[tX (by simp;omega)];rfl
 .simp only[e,AK,A5,A7]
def atd(t:A4)(o:List A4)(i:Nat)(hi:i<=100):
  vT (t,o,(i:Int),[],w64<|(i:Int) * 4,())=I (.inr (t,o,(i:Int),bI<|GK (L t) i,())):=by
 rw[Ac J J,show(i:Int) * 4=((4 * i+0:Nat):Int) by omega];refine CG (λj=>(t,o,(i:Int),bI<|(BB j).map λm=>(L t).getD (4 * i+m) 0,((4 * i+j:Nat):Int),())) 4 ?_ ?_
 .intro j hj;unfold im;simp only;rw[Ac (n:=(i:Int)+1) J J,Ac (n:=((i:Int)+1) * 4) J J];rw[A8<|AZ J,Ac (n:=((4 * i+j:Nat):Int)+1) J J];rw[IU,Eo];by_cases h:4 * i+j<t.size
  .rw[A8<|AZ J,A8<|AU h,A8<|BG (by simp;omega),KI];simp only[Eo,Db,Jm];rfl
  .rw[AD (by simp;omega),A8<|BG (by simp;omega)];have:(L t).getD (4 * i+j) 0=0:=by
    rw[BC,Hz (by rw[B2];omega)];rfl
   simp only[Eo,Db,Jm,this];rfl
 .unfold im;simp only;rw[Ac (n:=(i:Int)+1) J J,Ac (n:=((i:Int)+1) * 4) J J];rw[AD (by simp;omega)];rfl
def apM(t:A4):jd (t,())=I ((DS t,()),()):=by
 unfold jd DS;rcases tf (inB t.size 1 24) with e|e
 .have h1:=Ad.1 e;rw[AD (by simp;omega),A8 e];have h:vU (t,[],0,())=I (.inr ((BB<|(t.size+3) / 4).map λi=>B<|GK (L t) i,())):=by
   refine CG (λi=>(t,(BB i).map λi=>B<|GK (L t) i,(i:Int),())) ((t.size+3) / 4) ?_ ?_
   .intro i hi;unfold iq;simp only[iF (n:=(t.size:Int)) J J,A9];rw[Gj J,A8<|AZ J,atd t _ i J];simp only[AP,A9];rw[A8<|BG (by simp;omega),U9,Ac J J,IU,Eo];rfl
   .unfold iq;simp only[iF (n:=(t.size:Int)) J J,A9];rw[Gj J,AD<|by simp]
  rw[h];rfl
 .rw[A8,AD (by rw[e];exact Ca)];by_cases h:(1:Int)<=t.size/\(t.size:Int)<=24
  .rw[Ad.2 h]at e;cases e
  .simp;omega
abbrev bsA(l:List A4)(k:Nat):A4:=l.getD k noB
def PJ(l:List A4)(k:Nat): @rd A4 (dfl .str) l (k:Int)=bsA l k:=rfl
def PA(pre:List Nat)(k:Nat)(post:List Nat): @rd Int (dfl .int) (Ba<|pre++k::post) (pre.length:Int)=(k:Int):=by
 rw[PI,Ba,Eo,Db,BC,Fo<|by simp];simp
def snoc{α:Type}(pre:List α)(k:α)(post:List α):pre++k::post=(pre++[k])++post:=by simp
def Dk{n m:Nat}(h:n<m)(hm:m<=1048576):w64 ((n:Int)+1)=((n+1:Nat):Int):=B4 h J
section
variable {bs:List A4} (hbs:∀k,k<bs.length->(bsA bs k).size=4)
include hbs
def auG(post:List Nat):∀(pre:List Nat) (y:A4),pre≠[]->y.size=4->(pre++post).length<=1048576->(∀k∈post,k<bs.length)->
  WL (bs,y,Ba<|pre++post,((Ba<|pre++post).length:Int),(pre.length:Int),())=I (.inr (B<|post.foldl (λx k=>CC x<|L<|bsA bs k)<|L y,())):=by
 induction post with
 | nil=>
  intro pre y _ _ _ _;refine BE ?_;unfold Wt;simp only[CW,Dh,show A1 ((pre.length:Int)<(pre.length:Int))=A3 from BI J,A7,KR,B_L]
 | cons k post ih=>
  intro pre y hp hy hl hk;have h1:=hk k Av;have hne:pre.length≠0:=λh=>hp<|E7 h;have hlen:pre.length<(Ba<|pre++k::post).length:=by simp
  refine Ap (x':=(bs,B<|CC (L y)<|L<|bsA bs k,Ba<|pre++k::post,((Ba<|pre++k::post).length:Int),((pre++[k]).length:Int),())) ?_ ?_
  .unfold Wt;simp only[show A1 ((pre.length:Int)<((Ba<|pre++k::post).length:Int))=U from AZ J,A5,AU hlen,PA,show A1 ((pre.length:Int)=0)=A3 from BI J,A7,AU h1,PJ,aDc hy<|hbs k h1,A9];rw[Dk hlen<|by simpa using hl,B0];rfl
  .have:=ih (pre++[k]) (B<|CC (L y)<|L<|bsA bs k) (by simp) (by rw[BU,R5<|by rw[B2,B2,hy,hbs k h1],B2,hy]) (by rw[← snoc];exact hl) λx hx=>hk x<|An k hx;rw[← snoc]at this;exact this
def atZ(post:List Nat):∀(pre:List Nat) (y:A4),y.size=4->(pre++post).length<=1048576->(∀k∈post,k<bs.length)->
  eL (bs,Ba<|pre++post,y,(pre.length:Int),())=I (.inr (B<|post.foldl (λx k=>CC x<|L<|bsA bs k)<|L y,())):=by
 induction post with
 | nil=>
  intro pre y _ _ _;refine BE ?_;unfold gk;simp only[CW,Dh,show A1 ((pre.length:Int)<(pre.length:Int))=A3 from BI J,A7,KR,B_L]
 | cons k post ih=>
  intro pre y hy hl hk;have h1:=hk k Av;have hlen:pre.length<(Ba<|pre++k::post).length:=by simp
  refine Ap (x':=(bs,Ba<|pre++k::post,B<|CC (L y)<|L<|bsA bs k,((pre++[k]).length:Int),())) ?_ ?_
  .unfold gk;simp only[show A1 ((pre.length:Int)<((Ba<|pre++k::post).length:Int))=U from AZ J,A5,AU hlen,PA,AU h1,PJ,aDV hy<|hbs k h1,A9];rw[Dk hlen<|by simpa using hl,B0];rfl
  .have:=ih (pre++[k]) (B<|CC (L y)<|L<|bsA bs k) (by rw[BU,R5<|by rw[B2,B2,hy,hbs k h1],B2,hy]) (by rw[← snoc];exact hl) λx hx=>hk x<|An k hx;rw[← snoc]at this;exact this
end
def aK{t:A4}{k:Nat}(h:k<(DS t).length):bsA (DS t) k=B (GK (L t) k):=by
 unfold DS at h ⊢;split
 .rename_i e;rw[A8 e]at h;simp at h;rw[bsA,BC,DK,H7 h];rfl
 .rename_i e;rw[AD e]at h;cases h
def Gb(t:A4)(n:Int):A4:=
 if(Bl (DS t).length n).isEmpty then noB else B (E3 4 (GK<|L t)<|Bl (DS t).length n)
def aHr{t:A4}{n:Int}{y:List UInt8}{ks:List Nat}(hy:y.length=4)(hk:∀k∈ks,k<(DS t).length):
  ks.foldl (λx k=>CC x<|L<|bsA (DS t) k) y=CC y (E3 4 (GK<|L t) ks):=by
 rw[← qP hy];have:∀(ks:List Nat) (y:List UInt8),(∀k∈ks,k<(DS t).length)->ks.foldl (λx k=>CC x<|L<|bsA (DS t) k) y=ks.foldl (λx k=>CC x<|GK (L t) k) y:=by
  intro ks
  induction ks with
  | nil=>intro _ _;rfl
  | cons k ks ih=>
   intro y h;rw[E6,E6,aK (h k Av),ih _ λx hx=>h x<|An k hx];rfl
 exact this ks y hk
def br{t:A4}:∀k,k<(DS t).length->(bsA (DS t) k).size=4:=by
 intro k h;rw[aK h,BU,P9]
def anW(t:A4)(n:Int):jD (t,n,())=I ((Gb t n,()),()):=by
 unfold jD Gb;simp only[aDK,ly,A9];have hk:∀k∈Bl (DS t).length n,k<(DS t).length:=λk h=>by
  have:=MD h;omega
 have hl:=Yn (DS t).length n;revert hk hl;generalize Bl (DS t).length n=ks;intro hk hl;cases ks with
 | nil=>
  rw[show WL (DS t,noB,Ba [],((Ba []).length:Int),0,())=I (.inr (noB,())) from BE rfl];rfl
 | cons k ks=>
  have h1:=hk k Av;rw[AD<|by simp];have hlen:0<(Ba<|k::ks).length:=by simp
  have hrd: @rd Int (dfl .int) (Ba<|k::ks) 0=(k:Int):=PA [] k ks;have h:WL (DS t,noB,Ba<|k::ks,((Ba<|k::ks).length:Int),0,())=I (.inr (B<|E3 4 (GK<|L t)<|k::ks,())):=by
   refine Ap (x':=(DS t,bsA (DS t) k,Ba<|[k]++ks,((Ba<|[k]++ks).length:Int),(([k]:List Nat).length:Int),())) ?_ ?_
   .unfold Wt;simp only[show A1 ((0:Int)<((Ba<|k::ks).length:Int))=U from AZ J,A5,AU (i:=0) hlen,show inb 0 (Ba<|k::ks).length=U from AU (i:=0) hlen,hrd,show A1 ((0:Int)=0)=U from rfl,AU h1,PJ];rfl
   .have:=auG br ks [k] (bsA (DS t) k) (by simp) (br k h1) (by simpa using (by simp at hl;omega:ks.length+1<=1048576)) λx hx=>hk x<|An k hx;rw[aHr (n:=n) (by rw[B2];exact br k h1) λx hx=>hk x<|An k hx,aK h1]at this;rw[aK h1];exact this
  rw[h];rfl
def amv(t:A4)(n:Int):ik (t,n,())=I ((Gb t n,()),()):=by
 unfold ik Gb;simp only[apM,aDX,A9];have hk:∀k∈Bl (DS t).length n,k<(DS t).length:=λk h=>by
  have:=MD h;omega
 have hl:=Yn (DS t).length n;revert hk hl;generalize Bl (DS t).length n=ks;intro hk hl;cases ks with
 | nil=>rw[A8<|by simp,A8<|by simp]
 | cons k ks=>
  have h1:=hk k Av;have hc:(DS t).length≠0:=J
  rw[AD (by simp;exact⟨λh=>hc (by rw[h];rfl),J⟩),AD<|by simp,apI];simp only[A9];have:=atZ (bs:=DS t) br (k::ks) [] (B<|nul 4) (by rfl) (by simpa using (by simp at hl;omega:ks.length+1<=1048576)) hk;rw[aHr (n:=n) (by rfl) hk]at this;rw[show eL (DS t,Ba<|k::ks,B<|nul 4,0,())=_ from this];simp only[AP,A9];rw[L_B,Zk<|Qy λx _=>P9 _ x]
end Go.VS
namespace Go.VS
open Go
def unk(kn:List A4)(k:Nat):Bool:=A1<|bsA kn k=noB
def DR(kn:List A4)(of:List Nat):List Nat:=of.filter<|unk kn
def Ec(kn:List A4)(of:List Nat)(y:List UInt8):List UInt8:=of.foldl (λx k=>if unk kn k then x else CC x (L<|bsA kn k)) y
def Cg(b:Nat)(kn:List A4):Prop:=kn.length=b/\ ∀k,k<b->bsA kn k=noB\/(bsA kn k).size=4
def nX{b:Nat}{kn:List A4}(h:Cg b kn):∀ {of:List Nat} {y:List UInt8},y.length=4->(∀k∈of,k<b)->(Ec kn of y).length=4
 | [],_,hy,_=>hy
 | k::of,y,hy,hk=>by
  unfold Ec;rw[E6];refine nX (of:=of) h ?_ λx hx=>hk x<|An k hx;rcases tf (unk kn k) with e|e
  .rw[e];exact hy
  .rw[e,A7];rcases h.2 k (hk k Av) with h1|h1
   .unfold unk at e;exact absurd h1 (J3 e)
   .rw[R5<|by rw[hy,B2,h1],hy]
def abI(d:Int)(l:List Nat):Int:=l.foldl (fun(_:Int) (k:Nat)=>(k:Int)) d
section
variable {b:Nat} {kn:List A4} (hkn:Cg b kn)
include hkn
def auH(bi:Int)(list l2:List AX)(ag:Bool)(n i:Int)(post:List Nat):∀(pre:List Nat) (y:A4) (u:Int) (m:Nat),y.size=4->(pre++post).length<=1048576->m<=pre.length->(∀k∈post,k<b)->
  eh (bi,list,kn,ag,y,u,(m:Int),l2,n,i,Ba<|pre++post,((Ba<|pre++post).length:Int),(pre.length:Int),())=
   I (.inr (bi,list,kn,ag,B<|Ec kn post<|L y,abI u<|DR kn post,((m+(DR kn post).length:Nat):Int),l2,n,i,())):=by
 induction post with
 | nil=>
  intro pre y u m _ _ _ _;refine BE ?_;unfold Ws;simp only[CW,Dh,show A1 ((pre.length:Int)<(pre.length:Int))=A3 from BI J,A7];show _=I (Sum.inr<|Sum.inr (bi,list,kn,ag,B<|L y,u,(m:Int),l2,n,i,()));rw[B_L]
 | cons k post ih=>
  intro pre y u m hy hl hm hk;have h1:=hk k Av;have hlen:pre.length<(Ba<|pre++k::post).length:=by simp
  have hb:k<kn.length:=by rw[hkn.1];exact h1
  have hl2:(pre++[k]++post).length<=1048576:=by rw[← snoc];exact hl
  rcases tf (unk kn k) with e|e
  .refine Ap (x':=(bi,list,kn,ag,y,(k:Int),((m+1:Nat):Int),l2,n,i,Ba<|pre++k::post,((Ba<|pre++k::post).length:Int),((pre++[k]).length:Int),())) ?_ ?_
   .unfold Ws;simp only[show A1 ((pre.length:Int)<((Ba<|pre++k::post).length:Int))=U from AZ J,A5,AU hlen,PA,AU hb,PJ];rw[A8<|show A1 (bsA kn k=noB)=U from e,Dk hlen<|by simpa using hl,B0,Ac (n:=(m:Int)+1) J (by simp at hl;omega)];rfl
   .have:=ih (pre++[k]) y (k:Int) (m+1) hy hl2 (by simp;omega) λx hx=>hk x<|An k hx;rw[← snoc]at this;rw[show DR kn (k::post)=k::DR kn post by unfold DR;rw[KT,e,A8 rfl]];rw[show Ec kn (k::post) (L y)=Ec kn post (L y) by unfold Ec;rw[E6,e,A8 rfl]];rw[Bh,show m+((DR kn post).length+1)=m+1+(DR kn post).length by omega];exact this
  .have hs:(bsA kn k).size=4:=by
    rcases hkn.2 k h1 with h2|h2
    .exact absurd h2 (J3 e)
    .exact h2
   refine Ap (x':=(bi,list,kn,ag,B<|CC (L y)<|L<|bsA kn k,u,(m:Int),l2,n,i,Ba<|pre++k::post,((Ba<|pre++k::post).length:Int),((pre++[k]).length:Int),())) ?_ ?_
   .unfold Ws;simp only[show A1 ((pre.length:Int)<((Ba<|pre++k::post).length:Int))=U from AZ J,A5,AU hlen,PA,AU hb,PJ];rw[AD (by intro h;unfold unk at e;rw[h]at e;cases e),aDc hy hs,Dk hlen (by simpa using hl),B0];rfl
   .have:=ih (pre++[k]) (B<|CC (L y)<|L<|bsA kn k) u m (by rw[BU,R5<|by rw[B2,B2,hy,hs],B2,hy]) hl2 (by simp;omega) λx hx=>hk x<|An k hx;rw[← snoc]at this;rw[show DR kn (k::post)=DR kn post by unfold DR;rw[KT,e,A7]];rw[show Ec kn (k::post) (L y)=Ec kn post (CC (L y)<|L<|bsA kn k) by unfold Ec;rw[E6,e,A7]];exact this
def ata(post:List Nat):∀(pre:List Nat) (y:A4) (o:List Nat),y.size=4->(pre++post).length<=1048576->o.length<=pre.length->(∀k∈post,k<b)->
  fa (kn,Ba o,y,Ba<|pre++post,(pre.length:Int),())=I (.inr (Ba<|o++DR kn post,B<|Ec kn post<|L y,())):=by
 induction post with
 | nil=>
  intro pre y o _ _ _ _;refine BE ?_;unfold XN;simp only[CW,Dh,show A1 ((pre.length:Int)<(pre.length:Int))=A3 from BI J,A7];show _=I (Sum.inr<|Sum.inr (Ba<|o++[],B<|L y,()));rw[B_L,CW]
 | cons k post ih=>
  intro pre y o hy hl hm hk;have h1:=hk k Av;have hlen:pre.length<(Ba<|pre++k::post).length:=by simp
  have hb:k<kn.length:=by rw[hkn.1];exact h1
  have hl2:(pre++[k]++post).length<=1048576:=by rw[← snoc];exact hl
  rcases tf (unk kn k) with e|e
  .refine Ap (x':=(kn,Ba<|o++[k],y,Ba<|pre++k::post,((pre++[k]).length:Int),())) ?_ ?_
   .unfold XN;simp only[show A1 ((pre.length:Int)<((Ba<|pre++k::post).length:Int))=U from AZ J,A5,AU hlen,PA,AU hb,PJ];rw[A8<|show A1 (bsA kn k=noB)=U from e,A8<|BG (by simp;simp at hl;omega),Dk hlen<|by simpa using hl,B0];simp[Ba]
   .have:=ih (pre++[k]) y (o++[k]) hy hl2 (by simp;omega) λx hx=>hk x<|An k hx;rw[← snoc]at this;rw[show DR kn (k::post)=k::DR kn post by unfold DR;rw[KT,e,A8 rfl]];rw[show Ec kn (k::post) (L y)=Ec kn post (L y) by unfold Ec;rw[E6,e,A8 rfl]];rw[snoc o k<|DR kn post];exact this
  .have hs:(bsA kn k).size=4:=by
    rcases hkn.2 k h1 with h2|h2
    .exact absurd h2 (J3 e)
    .exact h2
   refine Ap (x':=(kn,Ba o,B<|CC (L y)<|L<|bsA kn k,Ba<|pre++k::post,((pre++[k]).length:Int),())) ?_ ?_
   .unfold XN;simp only[show A1 ((pre.length:Int)<((Ba<|pre++k::post).length:Int))=U from AZ J,A5,AU hlen,PA,AU hb,PJ];rw[AD (by intro h;unfold unk at e;rw[h]at e;cases e),aDV hy hs,Dk hlen (by simpa using hl),B0];rfl
   .have:=ih (pre++[k]) (B<|CC (L y)<|L<|bsA kn k) o (by rw[BU,R5<|by rw[B2,B2,hy,hs],B2,hy]) hl2 (by simp;omega) λx hx=>hk x<|An k hx;rw[← snoc]at this;rw[show DR kn (k::post)=DR kn post by unfold DR;rw[KT,e,A7]];rw[show Ec kn (k::post) (L y)=Ec kn post (CC (L y)<|L<|bsA kn k) by unfold Ec;rw[E6,e,A7]];exact this
end
def FR(b:Nat)(kn:List A4)(m:AX):Option (List A4):=
 if inB m.nu 0 999&&A1 ((m.da.size:Int)=4) then
  (match DR kn (Bl (b:Int) m.nu) with
   | [u]=>I (kn.set u<|B<|Ec kn (Bl (b:Int) m.nu)<|L m.da)
   | _=>A0)
 else A0
def CP(b:Nat)(s:List A4×Bool)(m:AX):List A4×Bool:=match FR b s.1 m with|some kn=>(kn,U)|none=>s
def Iw(b:Nat)(list:List AX)(kn:List A4):List A4×Bool:=list.foldl (CP b) (kn,A3)
def H4(b:Nat)(list:List AX):Nat->List A4->List A4
 | 0,kn=>kn
 | n+1,kn=>if(Iw b list kn).2 then H4 b list n (Iw b list kn).1 else(Iw b list kn).1
def UR{kn:List A4}{u:Nat}(v:A4)(hu:u<kn.length)(k:Nat):bsA (kn.set u v) k=if k=u then v else bsA kn k:=by
 rw[bsA,BC,Pa];by_cases h:u=k
 .subst h;simp[hu]
 .rw[AD h,AD<|Li h,← BC]
def aak{f g:Nat->Bool}(h:∀i,g i=U->f i=U):∀k,cnt g k<=cnt f k
 | 0=>Az _
 | k+1=>by
  have:=aak h k;rw[cnt,cnt];rcases tf (g k) with e|e
  .rw[e,h k e];omega
  .rw[e,A7];omega
def aax{f g:Nat->Bool}(h:∀i,g i=U->f i=U){u:Nat}(hf:f u=U)(hg:g u=A3):∀k,u<k->cnt g k<cnt f k
 | 0,h=>J
 | k+1,hk=>by
  rw[cnt,cnt];by_cases e:u=k
  .subst e;rw[hf,hg,A8 rfl,A7];have:=aak h u;omega
  .have:=aax h hf hg k J;rcases tf (g k) with e|e
   .rw[e,h k e];omega
   .rw[e,A7];omega
def UG{b:Nat}{kn kn':List A4}{m:AX}(h:Cg b kn)(e:FR b kn m=I kn'):
  Cg b kn'/\(∀k,unk kn' k=U->unk kn k=U)/\cnt (unk kn') b<cnt (unk kn) b:=by
 unfold FR at e;split at e
 .rename_i hc;rw[AG]at hc;have hs:=BX hc.2;split at e
  .rename_i u hu;injection e with e;subst e;have Fs:u∈DR kn (Bl (b:Int) m.nu):=by rw[hu];exact Ml u
   obtain⟨h1,h2⟩:=FW.1 Fs;have h3:=MD h1;have hub:u<b:=J
   have hul:u<kn.length:=by rw[h.1];exact hub
   have hlen:(B<|Ec kn (Bl (b:Int) m.nu)<|L m.da).size=4:=by
    rw[BU,nX h (by rw[B2];omega) λk hk=>by have:=MD hk;omega]
   have hno:B (Ec kn (Bl (b:Int) m.nu)<|L m.da)≠noB:=by
    intro hh;rw[hh]at hlen;cases hlen
   have aET:∀k,unk (kn.set u<|B<|Ec kn (Bl (b:Int) m.nu)<|L m.da) k=U->unk kn k=U:=by
    intro k hk;unfold unk at hk;rw[UR _ hul]at hk;by_cases ek:k=u
    .rw[A8 ek]at hk;exact absurd (BX hk) hno
    .rw[AD ek]at hk;exact hk
   refine⟨⟨by rw[Gi,h.1], ?_⟩,aET,aax aET h2 ?_ b hub⟩
   .intro k hk;rw[UR _ hul];by_cases ek:k=u
    .rw[A8 ek];exact Nw hlen
    .rw[AD ek];exact h.2 k hk
   .unfold unk;rw[UR _ hul,A8 rfl];exact BI hno
  .cases e
 .cases e
def NP{b:Nat}:∀(list:List AX) (s:List A4×Bool),Cg b s.1->
  Cg b (list.foldl (CP b) s).1/\(∀k,unk (list.foldl (CP b) s).1 k=U->unk s.1 k=U)/\cnt (unk (list.foldl (CP b) s).1) b<=cnt (unk s.1) b/\
  ((list.foldl (CP b) s).2=U->s.2=U\/cnt (unk (list.foldl (CP b) s).1) b<cnt (unk s.1) b)
 | [],s,h=>⟨h,λ_ hk=>hk,Az _,λhs=>Ny hs⟩
 | m::list,s,h=>by
  rw[E6];cases e:FR b s.1 m with
  | none=>
   rw[show CP b s m=s by unfold CP;rw[e]];exact NP list s h
  | some kn=>
   rw[show CP b s m=(kn,U) by unfold CP;rw[e]];obtain⟨a1,a2,a3⟩:=UG h e;obtain⟨b1,b2,b3,_⟩:=NP list (kn,U) a1;have b4:cnt (unk (list.foldl (CP b) (kn,U)).1) b<=cnt (unk kn) b:=b3;exact⟨b1,λk hk=>a2 k<|b2 k hk,J,λ_=>Nw J⟩
end Go.VS
namespace Go.VS
open Go
def Md(pre:List AX)(m:AX)(post:List AX): @rd AX (dfl .mixed) (pre++m::post) (pre.length:Int)=m:=by
 rw[PI,BC,Fo<|Az _];simp
def asr(u:Nat):abI (-1) [u]=(u:Int):=rfl
def aFa{b:Nat}{kn kn':List A4}{m:AX}(ag:Bool)(h:FR b kn m=I kn'):CP b (kn,ag) m=(kn',U):=by unfold CP;rw[h]
def Tk{b:Nat}{kn:List A4}{m:AX}(ag:Bool)(h:FR b kn m=A0):CP b (kn,ag) m=(kn,ag):=by unfold CP;rw[h]
def aHu{b:Nat}{kn:List A4}{n:Int}{u:Nat}(h:DR kn (Bl (b:Int) n)=[u]):u<b:=by
 have:u∈DR kn (Bl (b:Int) n):=by rw[h];exact Ml u
 have:=MD (FW.1 this).1;omega
def arq{b:Nat}(h6:b<=6)(list:List AX)(post:List AX):∀(pre:List AX) (kn:List A4) (ag:Bool),Cg b kn->(pre++post).length<=1048576->
  WK ((b:Int),list,kn,ag,pre++post,((pre++post).length:Int),(pre.length:Int),())=
   I (.inr ((b:Int),list,(post.foldl (CP b) (kn,ag)).1,(post.foldl (CP b) (kn,ag)).2,())):=by
 induction post with
 | nil=>
  intro pre kn ag _ _;refine BE ?_;unfold OT;simp only[CW,show A1 ((pre.length:Int)<(pre.length:Int))=A3 from BI J,A7];rfl
 | cons m post ih=>
  intro pre kn ag hk hl;have hlen:pre.length<(pre++m::post).length:=by simp
  have hw:=Dk hlen hl;have nxt:∀(kn':List A4) (ag':Bool),Cg b kn'->CP b (kn,ag) m=(kn',ag')->
    OT ((b:Int),list,kn,ag,pre++m::post,((pre++m::post).length:Int),(pre.length:Int),())=I (.inl ((b:Int),list,kn',ag',pre++m::post,((pre++m::post).length:Int),((pre.length+1:Nat):Int),()))->
    WK ((b:Int),list,kn,ag,pre++m::post,((pre++m::post).length:Int),(pre.length:Int),())=
     I (.inr ((b:Int),list,((m::post).foldl (CP b) (kn,ag)).1,((m::post).foldl (CP b) (kn,ag)).2,())):=by
   intro kn' ag' h1 h2 h3;refine Ap h3 ?_;have:=ih (pre++[m]) kn' ag' h1 (by rw[← snoc];exact hl);rw[← snoc,@B0 _ pre [m]]at this;rw[E6,h2];exact this
  rcases tf (inB m.nu 0 999) with e1|e1
  .by_cases e2:(m.da.size:Int)=4
   .have hh:FR b kn m=(match DR kn (Bl (b:Int) m.nu) with|[u]=>I (kn.set u<|B<|Ec kn (Bl (b:Int) m.nu)<|L m.da)|_=>A0):=by
     unfold FR;rw[A8<|by rw[e1,AZ e2]<;>rfl]<;>rfl
    have hlo:(Bl (b:Int) m.nu).length<=1048576:=Ce (Yn _ _) J;have hi:=auH hk (b:Int) list (pre++m::post) ag ((pre++m::post).length:Int) (pre.length:Int) (Bl (b:Int) m.nu) [] m.da (-1) 0 J hlo (Az _) λk h=>by have:=MD h;omega
    have hi2:eh ((b:Int),list,kn,ag,m.da,-1,0,pre++m::post,((pre++m::post).length:Int),(pre.length:Int),Ba<|Bl (b:Int) m.nu,((Ba<|Bl (b:Int) m.nu).length:Int),0,())=_:=hi;by_cases e3:(DR kn<|Bl (b:Int) m.nu).length=1
    .obtain⟨u,hu⟩:=aFC.1 e3;rw[hu]at hh;have hub:=aHu hu;refine nxt _ U (UG hk hh).1 (aFa ag hh) ?_;unfold OT;simp only[show A1 ((pre.length:Int)<((pre++m::post).length:Int))=U from AZ J,A5,AU hlen,Md,EW,A9,e1,e2,AF,Aa,Ep,A7,ly,hi2,hu];simp only[AP,A9,asr,AU (show u<kn.length by rw[hk.1];exact hub),A5,BZ,hw];rfl
    .have hn:FR b kn m=A0:=by
      rw[hh];split
      .rename_i u hu;rw[hu]at e3;exact absurd rfl e3
      .rfl
     refine nxt kn ag hk (Tk ag hn) ?_;unfold OT;simp only[show A1 ((pre.length:Int)<((pre++m::post).length:Int))=U from AZ J,A5,AU hlen,Md,EW,A9,e1,e2,AF,Aa,Ep,A7,ly,hi2];simp only[AP,A9,DT,show A1 (((DR kn<|Bl (b:Int) m.nu).length:Int)=1)=A3 from BI J,A7,hw]
   .have hn:FR b kn m=A0:=by
     unfold FR;rw[AD (by rw[BI e2,Bc];exact Ca)]
    refine nxt kn ag hk (Tk ag hn) ?_;unfold OT;simp only[show A1 ((pre.length:Int)<((pre++m::post).length:Int))=U from AZ J,A5,AU hlen,Md,EW,A9,BI e2,AK,Da,hw]
  .have hn:FR b kn m=A0:=by
    unfold FR;rw[AD (by rw[e1,AS];exact Ca)]
   refine nxt kn ag hk (Tk ag hn) ?_;unfold OT;simp only[show A1 ((pre.length:Int)<((pre++m::post).length:Int))=U from AZ J,A5,AU hlen,Md,EW,A9,e1,AK,C0,hw]
def qm{b:Nat}(h0:0<b)(h6:b<=6)(n:Int):E0 (b:Int) n=inB n 0 999:=by
 unfold E0;rw[Ad.2 J,AY]
def apJ{b:Nat}{kn:List A4}(hk:Cg b kn)(n:Int){d:A4}(hd:d.size=4):
  jW ((b:Int),(n,d,()),kn,())=I ((Ba<|DR kn<|Bl (b:Int) n,B<|Ec kn (Bl (b:Int) n)<|L d,()),()):=by
 unfold jW;simp only[aDX,A9];have hlo:(Bl (b:Int) n).length<=1048576:=Ce (Yn _ _) J;have hi:=ata hk (Bl (b:Int) n) [] d [] hd hlo (Az _) λk h=>by have:=MD h;omega
 have hi2:fa (kn,[],d,Ba<|Bl (b:Int) n,0,())=_:=hi;rw[hi2];rfl
def kU(b n:Int)(d:A4):TB (b,(n,d,()),())=I ((E0 b n&&A1 ((d.size:Int)=4),()),()):=by
 unfold TB;simp only[YT,A9]
def as5{b:Nat}(h0:0<b)(h6:b<=6)(post:List AX):∀(pre:List AX) (kn:List A4) (ag:Bool),Cg b kn->(pre++post).length<=1048576->
  W2 ((b:Int),pre++post,kn,ag,(pre.length:Int),())=
   I (.inr ((b:Int),pre++post,(post.foldl (CP b) (kn,ag)).1,(post.foldl (CP b) (kn,ag)).2,())):=by
 induction post with
 | nil=>
  intro pre kn ag _ _;refine BE ?_;unfold QS;simp only[CW,show A1 ((pre.length:Int)<(pre.length:Int))=A3 from BI J,A7];rfl
 | cons m post ih=>
  intro pre kn ag hk hl;have hlen:pre.length<(pre++m::post).length:=by simp
  have hw:=Dk hlen hl;have nxt:∀(kn':List A4) (ag':Bool),Cg b kn'->CP b (kn,ag) m=(kn',ag')->
    QS ((b:Int),pre++m::post,kn,ag,(pre.length:Int),())=I (.inl ((b:Int),pre++m::post,kn',ag',((pre.length+1:Nat):Int),()))->
    W2 ((b:Int),pre++m::post,kn,ag,(pre.length:Int),())=
     I (.inr ((b:Int),pre++m::post,((m::post).foldl (CP b) (kn,ag)).1,((m::post).foldl (CP b) (kn,ag)).2,())):=by
   intro kn' ag' h1 h2 h3;refine Ap h3 ?_;have:=ih (pre++[m]) kn' ag' h1 (by rw[← snoc];exact hl);rw[← snoc,@B0 _ pre [m]]at this;rw[E6,h2];exact this
  rcases tf (inB m.nu 0 999&&A1 ((m.da.size:Int)=4)) with e|e
  .have e':=e;rw[AG]at e';have e2:=BX e'.2;have hh:FR b kn m=(match DR kn (Bl (b:Int) m.nu) with|[u]=>I (kn.set u<|B<|Ec kn (Bl (b:Int) m.nu)<|L m.da)|_=>A0):=by
    unfold FR;rw[A8 e]<;>rfl
   have hL:=apJ hk m.nu (d:=m.da) J;by_cases e3:(DR kn<|Bl (b:Int) m.nu).length=1
   .obtain⟨u,hu⟩:=aFC.1 e3;rw[hu]at hh;have hub:=aHu hu;refine nxt _ U (UG hk hh).1 (aFa ag hh) ?_;unfold QS;simp only[show A1 ((pre.length:Int)<((pre++m::post).length:Int))=U from AZ J,A5,AU hlen,Md,kU,qm h0 h6,A9,e,AF,A7,hL,hu];rw[A8<|by rfl,A8<|by rfl,show @rd Int (dfl .int) (Ba [u]) 0=(u:Int) from rfl,A8<|AU (show u<kn.length by rw[hk.1];exact hub),hw];rfl
   .have hn:FR b kn m=A0:=by
     rw[hh];split
     .rename_i u hu;rw[hu]at e3;exact absurd rfl e3
     .rfl
    refine nxt kn ag hk (Tk ag hn) ?_;unfold QS;simp only[show A1 ((pre.length:Int)<((pre++m::post).length:Int))=U from AZ J,A5,AU hlen,Md,kU,qm h0 h6,A9,e,AF,A7,hL,Dh,
     show A1 (((DR kn<|Bl (b:Int) m.nu).length:Int)=1)=A3 from BI J,hw]
  .have hn:FR b kn m=A0:=by
    unfold FR;rw[AD (by rw[e];exact Ca)]
   refine nxt kn ag hk (Tk ag hn) ?_;unfold QS;simp only[show A1 ((pre.length:Int)<((pre++m::post).length:Int))=U from AZ J,A5,AU hlen,Md,kU,qm h0 h6,A9,e,AK,hw]
def aGe{b:Nat}(h6:b<=6)(list:List AX)(hl:list.length<=1048576):∀(n:Nat) (kn:List A4),Cg b kn->cnt (unk kn) b<n->
  vF ((b:Int),list,kn,U,())=I (.inr (H4 b list n kn,()))
 | 0,_,_,h=>J
 | n+1,kn,hk,h=>by
  have hr:=arq h6 list list [] kn A3 hk hl;have hr2:WK ((b:Int),list,kn,A3,list,(list.length:Int),0,())=I (.inr ((b:Int),list,(Iw b list kn).1,(Iw b list kn).2,())):=hr;obtain⟨g1,g2,g3,g4⟩:=NP list (kn,A3) hk;refine Ap (x':=((b:Int),list,(Iw b list kn).1,(Iw b list kn).2,())) ?_ ?_
  .unfold kL;simp only[A5,hr2];rfl
  .rw[H4];rcases tf (Iw b list kn).2 with e|e
   .rw[e,A8 rfl];rcases g4 e with g|g
    .cases g
    .exact aGe h6 list hl n _ g1 (HA g<|Nat.le_of_lt_succ h)
   .rw[e,A7];exact BE rfl
def aGD{b:Nat}(h0:0<b)(h6:b<=6)(list:List AX)(hl:list.length<=1048576):∀(n:Nat) (kn:List A4),Cg b kn->cnt (unk kn) b<n->
  uy ((b:Int),list,kn,U,())=I (.inr (H4 b list n kn,()))
 | 0,_,_,h=>J
 | n+1,kn,hk,h=>by
  have hr:=as5 h0 h6 list [] kn A3 hk hl;have hr2:W2 ((b:Int),list,kn,A3,0,())=I (.inr ((b:Int),list,(Iw b list kn).1,(Iw b list kn).2,())):=hr;obtain⟨g1,g2,g3,g4⟩:=NP list (kn,A3) hk;refine Ap (x':=((b:Int),list,(Iw b list kn).1,(Iw b list kn).2,())) ?_ ?_
  .unfold kE;simp only[A5,hr2];rfl
  .rw[H4];rcases tf (Iw b list kn).2 with e|e
   .rw[e,A8 rfl];rcases g4 e with g|g
    .cases g
    .exact aGD h0 h6 list hl n _ g1 (HA g<|Nat.le_of_lt_succ h)
   .rw[e,A7];exact BE rfl
def rF(f:Nat->Bool):∀k,cnt f k<=k
 | 0=>Az _
 | k+1=>by
  have:=rF f k;rw[cnt];split<;>omega
def Cg.new(b:Nat):Cg b (BV b noB):=by
 refine⟨by simp,λk hk=>Ny ?_⟩;rw[bsA,BC,bM,A8 hk];rfl
def Hq(b:Int)(list:List AX):List A4:=if inB b 1 6 then H4 b.toNat list 7 (BV b.toNat noB) else []
def anV(b:Int)(list:List AX)(hl:list.length<=1048576):jC (b,list,())=I ((Hq b list,()),()):=by
 unfold jC Hq;simp only[EW,A9];rcases tf (inB b 1 6) with e|e
 .have h1:=Ad.1 e;simp only[e,AF,A7,A5];rw[A8 (by simp;omega)];have:=aGe (b:=b.toNat) J list hl 7 _ (Cg.new _) (by have:=rF (unk<|BV b.toNat noB) b.toNat;omega);rw[show((b.toNat:Nat):Int)=b by omega]at this;rw[show(dfl .str:A4)=noB from rfl,this];rfl
 .simp only[e,AK,A5,A7]
def amu(b:Int)(list:List AX)(hl:list.length<=1048576):ij (b,list,())=I ((Hq b list,()),()):=by
 unfold ij Hq;simp only[IB,A9];rcases tf (inB b 1 6) with e|e
 .have h1:=Ad.1 e;simp only[e,AF,A7,A5];rw[A8 (by simp;omega)];have:=aGD (b:=b.toNat) J J list hl 7 _ (Cg.new _) (by have:=rF (unk<|BV b.toNat noB) b.toNat;omega);rw[show((b.toNat:Nat):Int)=b by omega]at this;rw[show(dfl .str:A4)=noB from rfl,this];rfl
 .simp only[e,AK,A5,A7]
end Go.VS
end
