/- Part 3. -/
import Derived.Tactics
import Derived.Test.YtnbfoldcjgdomaaGreatDoorQAE
import Derived.ChangeShapes
import Derived.Lib.Split
import Derived.Lib.SplitLaws
import Derived.Lib.IndexMore
import Derived.Deep.Draws
import Derived.Sort.Grow
import Derived.HandedShaped
import Derived.LaidSub
import Derived.MakeChecks
import Derived.Carry
open Array renaming getD_eq_getD_getElem?->Ty,getElem?_append_left->MH,getElem?_eq_some_iff->HT,getElem?_toList->Tv,length_toList->F5,replicate->R9,size_append->RB,size_replicate->ny
open Bool renaming and_eq_true->AD,false->A0,false_eq_true->Hq,false_or->Bk,not_eq_true'->C6,not_eq_true->GS,not_true->AB,or_eq_false_iff->NG,or_eq_true->Bw,true->Y
open Classical renaming choose->NH,choose_spec->Iv
open Decidable renaming decide->U
open Go.Calls renaming mono->MR
open Go.Code renaming region->RD
open Go.DataW renaming trod->Gr
open Go.Instr renaming loadAt->NB,sureAddr->Ja
open Go.Lib renaming TabIs->MP,cellsOf->aD,countB->NN,cut->FV,itoa->B6,pow10Tab->NK,splitB->Iy
open Go.Lit renaming int->NP
open Go.MakeChecks renaming laidMetH_plain->P5
open Go.OpenSpec renaming ofChange->NA
open Go.Region renaming binds->Fo,ready->PH,wanted->JY
open Go.Result renaming andThen_ok->F7
open Go.Sem renaming run_bind->En,run_pure->Fp
open Go.Sort renaming grow->aI
open Go.Value renaming okWide->NL,pointer->NE,string->aF
open Go.World renaming cell?->MQ,cell?_of_block->U6,drewN->ns
open Int renaming toNat_of_nonneg->R7
open List renaming all_cons->PF,all_eq_true->Cy,any_eq_true->HR,append_assoc->C5,append_nil->CP,append_of_mem->U2,cons_append->LB,drop_drop->J0,drop_eq_getElem_cons->Tz,drop_eq_nil_of_le->MN,drop_zero->Iu,eq_nil_of_length_eq_zero->Dz,filterMap_append->MJ,filterMap_cons->nh,getD_eq_getElem?_getD->BA,getElem?_append_left->IP,getElem?_append_right->FU,getElem?_eq_getElem->Ap,getElem?_eq_none->Ht,getElem?_eq_none_iff->Zy,getElem?_eq_some_iff->BO,getElem?_map->DD,getElem?_of_mem->aEA,getElem?_range->Gu,getElem?_toArray->Tw,getElem_mem->CU,length_append->Aw,length_cons->Bf,mapM_cons->U9,map_append->Ec,map_congr_left->Gt,map_cons->DU,mem_append->BM,mem_append_left->Bv,mem_append_right->CV,mem_cons->Bl,mem_cons_of_mem->Aj,mem_cons_self->Ao,mem_filter->FH,mem_filterMap->GZ,mem_iff_getElem?->oK,mem_map->By,mem_of_getElem?->Cn,mem_range->Cw,mem_singleton->C9,nodup_append->JZ,nodup_cons->IJ,nodup_range->oG,pairwise_append->NJ,pairwise_cons->KJ,pairwise_iff_getElem->JW,pairwise_lt_range->Qw,range->B8,range_succ->IK,reverse_reverse->o4,size_toArray->L8,sublist_append_right->Zu,take_append_drop->JV
open List.Perm renaming append_left->Zt
open List.Sublist renaming refl->Ea
open List.cons renaming injEq->ML
open Nat renaming add_assoc->DE,add_comm->NM,add_mul->EK,beq->Ah,beq_eq->HU,ble->E3,blt->IS,blt_eq->PI,le_add_right->aH,le_of_ble_eq_true->Db,le_refl->Au,le_trans->CZ,lor->BN,lt_of_lt_of_le->Gq,lt_trichotomy->IM,mul_le_mul_right->EA,ne_of_lt->PD,sub_zero->Jd,zero_add->DN,zero_le->D5,zero_mul->UL
open Ne renaming symm->LD
open Option renaming bind_eq_some_iff->Ai,bind_some->A6,map_eq_some_iff->DB,none->G,some->I
open Option.some renaming inj->Dc
open Prod.mk renaming injEq->CQ
set_option linter.all false
noncomputable section
namespace Go.VS
open Go
section
variable {C:Cx} {B:Be} {ops:Array Oper} {stk:List (Array Value)} {s s' s0:S} {b b0:Nat} {Ω:Type} {q:Ω}
def ard{m:DX}{d:Option Nat}{as:List AV}{k:S->Option Ω}:Hl m s b d as k=(Hl m s b d as I).bind k:=by
 unfold Hl;simp only;split
 .rename_i x hx hn;cases m.g x with
  | none=>rfl
  | some r=>
   simp only[A6];split
   .rfl
   .rfl
 .rfl
def T6{r:PR}{f:AV->List Ob->S}{k:S->Option Ω}:(match r with
   | some (q,v,os)=>if q then k (f v os) else G
   | none=>G)=(match r with
   | some (q,v,os)=>if q then I (f v os) else G
   | none=>G).bind k:=by
 cases r with
 | none=>rfl
 | some r=>obtain⟨q,v,os⟩:=r;cases q<;>rfl
def aFS{o:Oper}{k:S->Option Ω}(inl:Inl Ω)(hi:∀f c,o.op= .call c->c.callee= .value (.func f)->C.Γ f o.dst=G->∀d as s k,inl f d as s k=G):
  CO C inl o b s k=(CO C (AF S) o b s I).bind k:=by
 unfold CO;split
 .rfl
 generalize ho:o.op=op at *;cases op
 case store t p x=>
  simp only;split<;>rfl
 case call c=>
  simp only;split
  .rename_i f hf;split
   .exact ard
   .rename_i hm;rw[hi f c rfl hf hm];rfl
  .split
   .split<;>rfl
   .rfl
  .split<;>rfl
  .first|rfl|exact T6 (k:=k) (f:=λv os=>({ s with H:=Eu s.H b os } :S).put o.dst v)
 case slice t x lo hi mx=>
  cases mx with
  | some m=>
   simp only
   first|rfl|exact T6 (k:=k) (f:=λv os=>({ s with H:=Eu s.H b os } :S).put o.dst v)
  | none=>
   simp only;split
   .split
    .rfl
    .split
     .split<;>rfl
     .rfl
   .first|rfl|exact T6 (k:=k) (f:=λv os=>({ s with H:=Eu s.H b os } :S).put o.dst v)
 case buildSlice t n ps=>
  simp only;generalize (L0 s.ev ps.toList).foldl S.freeze s=s3;exact T6 (k:=k) (f:=λv os=>({ s3 with H:=Eu s3.H b os } :S).put o.dst v)
 all_goals (simp only;first|rfl|exact T6 (k:=k) (f:=λv os=>({ s with H:=Eu s.H b os } :S).put o.dst v))
def avk{o:Oper}{k:S->Option Ω}:evG C (ab Ω) ops o b s k=(ev1 C ops o b s).bind k:=by
 have h:∀b s,∀k:S->Option Ω,CO C (ab Ω) o b s k=(CO C (AF S) o b s I).bind k:=λb s k=>aFS _ λ_ _ _ _ _ _ _ _ _=>rfl;unfold ev1 evG;split
 .exact h _ _ _
 .split
  .rfl
  .split
   .split
    .split<;>rfl
    .rfl
   .rfl
  .split
   .rename_i c _;simp only[h];cases hh:s.has o.dst<;>(split<;>split<;>rfl)
   .split<;>rfl
   .rfl
def aw(C:Cx)(ops:Array Oper):List Rec->S->S->Prop
 | [],s,s'=>s=s'
 | r::l,s,s'=>∃s1,ev1 C ops r.o r.b s=I s1/\((E9 C s r.o=G->r.W=r.F/\ ∀i∈JS C s r.o,Mm r.K i)/\(∀l,E9 C s r.o=I l->∀i∈l,Mm r.W i/\Mm r.K i)/\ ∀id,Mm (nm r.b) id->Mm r.K id)/\vOf s1 r.o.dst=I r.V/\aw C ops l s1 s'
def mR{k:S->Option Ω}:∀(l:List Oper) (i b:Nat) (acc:List Rec) (s:S),evD C ops s0 l i b acc s k=I q->Cb C ops s0 b0 acc->i=acc.length->b=b0+16 * i->(∀j,l[j]? =ops[i+j]?)->
  ∃rs s',aw C ops rs s s'/\Cb C ops s0 b0 (rs.reverse++acc)/\rs.length=l.length/\k { s' with nid:=b0+16 * (i+l.length) } =I q
 | [],i,b,acc,s,h,hg,hi,hb,hl=>⟨[],s,rfl,hg,rfl,by
   have h:k { s with nid:=b } =I q:=h;rw[hb]at h;exact h⟩
 | o::l,i,b,acc,s,h,hg,hi,hb,hl=>by
  unfold evD at h;split at h
  .cases h
  rename_i r hr;split at h
  .rename_i hc;rw[avk]at h;obtain⟨s1,h1,h⟩:=Ai.1 h;obtain⟨V,hV,h⟩:=Ai.1 h;simp only[AD,Cy]at hc;unfold abY at hr;obtain⟨anc,ha,hr⟩:=Ai.1 hr;obtain⟨ids,Pa,hr⟩:=Ai.1 hr;obtain⟨c,hcl,hr⟩:=Ai.1 hr;simp only at hr;split at hr
   case h_2=>cases hr
   rename_i alY;have hr:=(Dc hr).symm;have ho:ops[i]? =I o:=by simpa using (hl 0).symm
   have hg':Cb C ops s0 b0 ({ r with V:=V } ::acc):=by
    refine⟨hg, ?_, ?_, ?_, ?_,⟨ids,c, ?_,hcl, ?_⟩, ?_,λx hx=>hc.1.1 x hx, ?_, ?_⟩<;>rw[hr]
    .exact hi
    .show b=_;rw[hb,hi]
    .exact ho
    .exact ha
    .exact Pa
    .have gen:∀F0:Nat,(mvO o=A0/\(match mvO o with
       | true=>BN (msk ids) (nm b)
       | false=>F0)=F0/\(((match mvO o with
       | true=>nm b
       | false=>match pur o,o.guard with
        | true,G=>BN (msk ids) (nm b)
        | _,_=>(match mvO o with
         | true=>BN (msk ids) (nm b)
         | false=>F0))=BN (msk ids) (nm b)/\pur o=Y/\o.guard=G)\/(match mvO o with
       | true=>nm b
       | false=>match pur o,o.guard with
        | true,G=>BN (msk ids) (nm b)
        | _,_=>(match mvO o with
         | true=>BN (msk ids) (nm b)
         | false=>F0))=(match mvO o with
       | true=>BN (msk ids) (nm b)
       | false=>F0)))\/(mvO o=Y/\(match mvO o with
       | true=>BN (msk ids) (nm b)
       | false=>F0)=BN (msk ids) (nm b)/\(match mvO o with
       | true=>nm b
       | false=>match pur o,o.guard with
        | true,G=>BN (msk ids) (nm b)
        | _,_=>(match mvO o with
         | true=>BN (msk ids) (nm b)
         | false=>F0))=nm b):=by
      intro F0;cases hmv:mvO o with
      | true=>exact .inr ⟨rfl,rfl,rfl⟩
      | false=>
       refine .inl ⟨rfl,rfl, ?_⟩;cases hpu:pur o with
       | false=>exact .inr rfl
       | true=>
        cases hgu:o.guard with
        | none=>exact .inl ⟨rfl,rfl,rfl⟩
        | some x=>exact .inr rfl
     exact gen _
    .refine⟨alY,λid hid=> ?_⟩;show Mm (match E9 C s o with
      | none=>_
      | some l=>BN (msk l) (nm b)) id
     cases E9 C s o with
     | none=>
      show Mm (match mvO o with
       | true=>BN (msk ids) (nm b)
       | false=>_) id
      cases mvO o with
      | false=>
       refine TA _ _ id ?_;show(BN _ _).testBit id=Y;rw[Eg,show(nm b).testBit id=Y from hid];simp
      | true=>
       show(BN _ _).testBit id=Y;rw[Eg,show(nm b).testBit id=Y from hid];simp
     | some l=>
      show(BN _ _).testBit id=Y;rw[Eg,show(nm b).testBit id=Y from hid];simp
    .exact hc.1.2
    .exact hc.2
   obtain⟨rs,s',k1,k2,k3,k4⟩:=mR l (i+1) (b+16) _ s1 h hg' (by simp[hi]) J (λj=>by
    have:=hl<|j+1;simpa[DE,NM 1 j] using this)
   refine⟨{ r with V:=V } ::rs,s',⟨s1, ?_, ?_, ?_,k1⟩, ?_,by simp[k3], ?_⟩
   .rw[hr];exact h1
   .rw[hr];refine⟨λhe=>⟨?_,λj hj=> ?_⟩,λl he j hj=> ?_,λid hid=> ?_⟩
    .have he:E9 C s o=G:=he;show(match E9 C s o with
      | none=>_
      | some l=>BN (msk l) (nm b))=_
     rw[he]
    .have he:E9 C s o=G:=he;show Mm (match E9 C s o with
      | none=>BN (msk<|JS C s o) (nm b)
      | some l=>BN (msk l) (nm b)) j
     rw[he];show(BN _ _).testBit j=Y;rw[Eg,M1.2 hj];rfl
    .have he:E9 C s o=I l:=he;have key:Mm (BN (msk l)<|nm b) j:=by
      show(BN _ _).testBit j=Y;rw[Eg,M1.2 hj];rfl
     constructor
     .show Mm (match E9 C s o with
       | none=>_
       | some l=>BN (msk l) (nm b)) j
      rw[he];exact key
     .show Mm (match E9 C s o with
       | none=>_
       | some l=>BN (msk l) (nm b)) j
      rw[he];exact key
    .show Mm (match E9 C s o with
      | none=>BN (msk<|JS C s o) (nm b)
      | some l=>BN (msk l) (nm b)) id
     have hid:(nm b).testBit id=Y:=hid;cases E9 C s o with
     | none=>
      show(BN _ _).testBit id=Y;rw[Eg,hid];simp
     | some l=>
      show(BN _ _).testBit id=Y;rw[Eg,hid];simp
   .rw[hr];exact hV
   .simpa using k2
   .rw[show i+(o::l).length=i+1+l.length by simp;omega];exact k4
  .cases h
def aEb{acc:List Rec}:∀ {ts l:List Nat},an s0 acc ts=I l->∀t∈ts,∃a,(match RJ t acc with
  | some r=>I r.V
  | none=>Ui (s0.T t))=I a/\ ∀i∈a,i∈l
 | [],_,_,t,ht=>by cases ht
 | t0::ts,l,h,t,ht=>by
  obtain⟨a,h1,h⟩:=Ai.1 h;obtain⟨b,h2,h⟩:=Ai.1 h;cases h;obtain rfl|ht:=Bl.1 ht
  .exact⟨a,h1,λi hi=>Bv _ hi⟩
  .obtain⟨a',h3,h4⟩:=aEb h2 t ht;exact⟨a',h3,λi hi=>CV _<|h4 i hi⟩
def Cb.fit{acc:List Rec}(h:Cb C ops s0 b0 acc)(hn:acc.length=ops.size)(hfr:∀j,b0<=j->s0.H j=G){i:Nat}:Fit ops (C4 acc b0) (B8 ops.size) s0 i:=by
 intro o ho;obtain⟨r,hr,hi,rfl,fi⟩:=h.op hn ho;have e1:(C4 acc b0).F i=Mm r.F:=by funext id;simp only[C4,fi]
 have e2:(C4 acc b0).N i=Mm r.N:=by funext id;simp only[C4,fi]
 rw[e1,e2];have hNF:=h.N_F hr;refine⟨λt ht hd=> ?_,λid ob hid ho=> ?_,λid h1 _=>hfr id (by simp only[C4]at h1;omega)⟩
 rotate_left
 .cases hmv:mvO r.o with
  | false=>exact h.closed hfr r hr hmv id ob (hNF id hid) ho
  | true=>
   exfalso;obtain⟨HW,hg,_⟩:=h.mem r hr;obtain⟨_,k1,k2,_,_,⟨l,c,h1,h2,h3⟩,_⟩:=hg;obtain h3|h3:=h3
   .rw[hmv]at h3;cases h3.1
   .rw[h3.2.2]at hid;have:=M4.1 hid;rw[hfr id J]at ho;cases ho
 obtain⟨HW,hg,LS,_,hlt⟩:=h.mem r hr;obtain⟨_,_,_,_,_,⟨l,c,h1,h2,h3⟩,_⟩:=hg;obtain⟨a,h4,h5⟩:=aEb h1 t ht;cases hf:RJ t HW with
 | some r'=>
  obtain⟨hm,Pb⟩:=aG3 hf;have hm':=LS r' hm;obtain⟨azx,hg2,_⟩:=h.mem r' hm';have ho':=hg2.2.2.2.1;have hR:(C4 acc b0).R r'.i i:=by
   have bo:=hlt r' hm;have hc:=h.chk hm' hr J;simp only[VS.chk,AD]at hc;simp only[C4,fi];cases hT:tst r.anc r'.i with
   | true=>exact p6.1 hT
   | false=>
    rw[hT]at hc;obtain⟨_,hc⟩:=hc;simp only[AD]at hc;exact absurd ht<|Yf hc.1.2 t Pb
  exact absurd Pb<|hd r'.i (Cw.2 (HT.1 ho').1) hR r'.o ho'
 | none=>
  rw[hf]at h4;obtain⟨_,h3,h6⟩|⟨hmv,h3,h6⟩:=h3
  .have aDg:InA (Mm r.F) (s0.T t):=ZS h4 λj hj=>by
    rw[h3];refine TA _ _ j ?_;show(BN _ _).testBit j=Y;rw[Eg,(ZM 4 l h2).1 j<|h5 j hj];rfl
   refine⟨aDg,.inr ?_⟩;obtain h6|h6:=h6
   .refine ZS h4 λj hj=> ?_;rw[h6.1];show(BN _ _).testBit j=Y;rw[Eg,M1.2<|h5 j hj];rfl
   .rw[h6];exact aDg
  .simp only[mvO,AD]at hmv;refine⟨ZS h4 λj hj=> ?_,.inl hmv.1.1⟩;rw[h3];show(BN _ _).testBit j=Y;rw[Eg,M1.2<|h5 j hj];rfl
def kX{acc:List Rec}(h:Cb C ops s0 b0 acc)(hn:acc.length=ops.size):∀(rs:List Rec) (s s':S),aw C ops rs s s'->(∀r∈rs,r∈acc)->(rs.map (·.i)).Pairwise (· < ·)->
  (∀r∈rs,Fit ops (C4 acc b0) (rs.map (·.i)) s r.i)->Run C ops (C4 acc b0) (rs.map (·.i)) s s'
 | [],s,s',hc,_,_,_=>by
  cases hc;exact .nil
 | r::rs,s,s',⟨s1,h1,h2,h3,h4⟩,hm,hp,hf=>by
  have hr:=hm r Ao;obtain⟨HW,hg,_⟩:=h.mem r hr;have ho:=hg.2.2.2.1;have hok:=hg.2.2.2.2.2.2.2.2.1;have hb:=(h.Mb hr).1;have hrb:r.i<acc.length:=h.lt r hr;have fi:=h.find r hr;have nice:=h.nice hn;obtain⟨f1,f2,f3⟩:=hf r Ao r.o ho;have eb:(C4 acc b0).b r.i=r.b:=hb.symm;have hp':=KJ.1 hp;have aE1:∀t∈DJ ops r.o,InA ((C4 acc b0).F r.i) (s.T t)/\(mov r.o.op=Y\/InA ((C4 acc b0).N r.i) (s.T t)):=λt ht=>f1 t ht λj hj hR oj hoj e=>by
   have hlt:=nice.lt _ _ hR;obtain e'|hj:=Bl.1 hj
   .have e':j=r.i:=e';omega
   .have h9:r.i<j:=hp'.1 j hj;omega
  have hrd:=λt ht=>(aE1 t ht).1;obtain⟨h21,h22,h23⟩:=h2;have hKn:∀j,r.b<=j->j<r.b+16->(C4 acc b0).K r.i j:=λj k1 k2=>by
   simp only[C4,fi];exact h23 j<|M4.2 ⟨k1,k2⟩
  have hWn:∀j,r.b<=j->j<r.b+16->(C4 acc b0).W r.i j:=λj k1 k2=>nice.NW r.i j (by rw[eb];exact k1) (by rw[eb];exact k2);have hWF:∀id,Mm r.W id->Mm r.F id:=λid hid=>TM (h.Mb hr).2.2.1 id hid;have hKW:∀id∈JS C s r.o,Mm r.F id:=λid hid=>by
   obtain⟨_,_,_,_,_,⟨l,c,_,_,h3⟩,_⟩:=hg;have hop:∀x∈r.o.op.operands,InA ((C4 acc b0).F r.i) (s.ev x):=λx hx=>by
    cases x with
    | tmp t=>exact hrd t<|Bv _<|QJ hx
    | const v=>exact aZ v
    | _=>exact .of1 trivial
   have abv:pur r.o=Y->False:=λhp=>by
    unfold pur at hp;unfold JS at hid;cases ho2:r.o.op<;>rw[ho2]at hp hid<;>first|(cases hid;done)|(cases hp;done)
   obtain⟨_,_,h6|h6⟩|⟨hmv,_⟩:=h3
   .exact(abv h6.2.1).elim
   rotate_left
   .simp only[mvO,AD]at hmv;exact(abv hmv.1.2).elim
   .have hcl:DW ((C4 acc b0).F r.i) s.H:=λid ob hid ho=>f2 id ob (by simp only[C4,fi]at hid ⊢; rw[h6];exact hid) ho;have:=axG hop hcl hid;simp only[C4,fi]at this;exact this
  obtain⟨g,v,es,a1,a2,a3,a4,a5⟩:=axD (F:=(C4 acc b0).F r.i) (N:=(C4 acc b0).N r.i) (WS:=λe=>(C4 acc b0).W r.i e.id/\(e.fk= .no\/(C4 acc b0).K r.i e.id)) hok hrd f2
   (λj k1 k2=>nice.WF _ _<|hWn j k1 k2) (λe k1 k2=>⟨hWn _ k1 k2,.inr<|hKn _ k1 k2⟩)
   ⟨λhe=>⟨λe hF hfk=>⟨by
     simp only[C4,fi]at hF ⊢;rw[(h21 he).1];exact hF,.inl hfk⟩,λe hk=>⟨by
     simp only[C4,fi];rw[(h21 he).1];exact hKW _ hk,.inr (by simp only[C4,fi];exact(h21 he).2 _ hk)⟩⟩,
    λl he e hl=>⟨by simp only[C4,fi];exact(h22 l he _ hl).1,.inr (by simp only[C4,fi];exact(h22 l he _ hl).2)⟩⟩
   (by
    obtain⟨_,_,_,_,_,⟨l,c,_,_,h3⟩,_⟩:=hg;obtain⟨_,_,h6|h6⟩|⟨hmv,_⟩:=h3
    .refine .inl ⟨h6.2.1,h6.2.2, ?_⟩;cases hmo:mov r.o.op with
     | true=>exact .inl rfl
     | false=>exact .inr λt ht=>(aE1 t ht).2.resolve_left λh=>by rw[hmo]at h;cases h
    rotate_left
    .simp only[mvO,AD]at hmv;exact .inl ⟨hmv.1.2,by simpa using hmv.2,.inl hmv.1.1⟩
    .refine .inr λid hid=> ?_;simp only[C4,fi]at hid ⊢;rw[h6];exact hid) h1
  have hst:Stp C ops r.o ((C4 acc b0).b r.i) ((C4 acc b0).F r.i) ((C4 acc b0).N r.i) ((C4 acc b0).W r.i) ((C4 acc b0).K r.i) ((C4 acc b0).V r.i) s s1:=by
   rw[eb];refine⟨g,v,es,a1,λt ht=> ?_,a2,a3,a4,a5⟩;rw[ht]at h3;have:s1.T t=v:=by rw[a4,ak,A5 ht]
   rw[← this];refine ZS (show Ui (s1.T t)=I r.V from h3) λj hj=> ?_;simp only[C4,fi];exact hj
  refine .cons ho hst (kX h hn rs s1 s' h4 (λx hx=>hm x<|Aj _ hx) hp'.2 λx hx=> ?_);have hxi:r.i<x.i:=hp'.1 x.i<|By.2 ⟨x,hx,rfl⟩;exact(hf x<|Aj _ hx).step nice ho (PD hxi) (λhR=>by have:=nice.lt _ _ hR;omega) hst λj hj=>by
   obtain e|hj:=Bl.1 hj
   .exact .inl e
   .exact .inr hj
def lB:∀(rs:List Rec) (s s':S) (m:Nat),aw C ops rs s s'->(∀r∈rs,r.b+16<=m)->BH (λj=>j<m) s s'
 | [],s,s',m,hc,_=>by cases hc;exact BH.refl _ _
 | r::rs,s,s',m,⟨s1,h1,_,_,h4⟩,hb=>by
  have k1:=aFT h1;have hb1:=hb r Ao;have k1':BH (λj=>j<m) s s1:=⟨k1.nid,k1.n,k1.pins,λj hj e=>k1.nn j (λhh=>hj J) e⟩;exact k1'.trans<|lB rs s1 s' m h4 λx hx=>hb x<|Aj _ hx
def Cb.places:∀ {acc:List Rec},Cb C ops s0 b0 acc->acc.reverse.map (·.i)=B8 acc.length
 | [],_=>rfl
 | r::acc,h=>by
  rw[List.reverse_cons,Ec,Cb.places h.1,Bf,IK];simp[h.2.1]
def atD(hP:C.P=B.P)(hm:B.P.follows .mixedOrders=Y)(hC:Hd C B){k:S->Option Ω}(he:evD C ops s ops.toList 0 s.nid [] s k=I q)(hfr:Fr s){β:Beta}{a:Act}{w:World}(hst:St B β stk s a w)
  {id:Nat}{Q:Exit->Act->World->Prop}(hQ:∀β a w s',St B β stk s' a w->Fr s'->s'.n=s.n->s'.pins=s.pins->k s'=I q->Q .normal a w):(RD id ops Y).wp B.P Q a w:=by
 obtain⟨rs,s',h1,h2,h3,h4⟩:=mR (b0:=s.nid) ops.toList 0 s.nid [] s he trivial rfl rfl aIg;simp only[CP,DN]at h2 h4;have hn:rs.reverse.length=ops.size:=by simpa using h3
 have hpl:=h2.places;rw[o4,hn]at hpl;have LV:∀j,Fit ops (C4 rs.reverse s.nid) (B8 ops.size) s j:=λj=>h2.fit hn hfr;have Ci:=kX h2 hn rs s s' h1 (λr hr=>by simpa using hr) (by rw[hpl];exact Qw) (λr hr=>by rw[hpl];exact LV _);rw[hpl]at Ci;have PY:BH (λj=>j<s.nid+16 * ops.toList.length) s s':=lB rs s s' _ h1 λr hr=>by
  have hr':r∈rs.reverse:=by simpa using hr
  have e1:=(h2.Mb hr').1;have e2:=h2.lt r hr';rw[hn]at e2;have:ops.toList.length=ops.size:=by simp
  omega
 refine as8 hP hm hC (h2.nice hn) Ci (λj _=>LV j) hst λβ a w h=> ?_;refine hQ β a w { s' with nid:=s.nid+16 * ops.toList.length } ⟨h.T,h.stack,h.n,h.defers,h.pins,h.gs,h.hs⟩ (λj hj=> ?_) PY.n PY.pins h4;have hj:s.nid+16 * ops.toList.length<=j:=hj;exact PY.nn j J<|hfr j J
end
end Go.VS
namespace Go.VS
open Go
def JL(C:Cx)(B:Be)(inl:(Ω:Type)->Inl Ω):Prop:=∀(Ω:Type) (f:FuncId) (d:Option Nat) (as:List AV) (s:S) (k:S->Option Ω) (q:Ω),inl Ω f d as s k=I q->
 ∀(β:Beta) (stk:List (Array Value)) (a:Act) (w:World) (o:Oper) (args:List Operand) (ts:Array TypeId) (K:Act->World->Prop) (Q:Exit->Act->World->Prop),
 St B β stk s a w->Fr s->s.has d=Y->o.dst=d->as=args.map s.ev->o.op= .call { callee:= .value<|.func f,args:=args.toArray,argTypes:=ts } ->
 (∀β' u w' s',St B β' stk s' (a.put d u) w'->Fr s'->s'.n=s.n->s'.pins=s.pins->k s'=I q->K (a.put d u) w')->o.wp B.P a w K Q
def aHC(C:Cx)(B:Be):JL C B AF:=by
 intro Ω f d as s k q h;cases h
section
variable {C:Cx} {B:Be} {ops:Array Oper} {stk:List (Array Value)} {s s':S} {Ω:Type} {q:Ω} {β:Beta} {a:Act} {w:World} {inl:(Ω:Type)->Inl Ω}
def qD(C:Cx)(o:Oper):Prop:=∃f c,o.op= .call c/\c.callee= .value (.func f)/\C.Γ f o.dst=G
def atC{o:Oper}{b:Nat}{k:S->Option Ω}(hn:¬qD C o):evG C (inl Ω) ops o b s k=(ev1 C ops o b s).bind k:=by
 have h:∀b s,∀k:S->Option Ω,CO C (inl Ω) o b s k=(CO C (AF S) o b s I).bind k:=λb s k=>aFS _ λf c h1 h2 h3=>absurd ⟨f,c,h1,h2,h3⟩ hn;unfold ev1 evG;split
 .exact h _ _ _
 .split
  .rfl
  .split
   .split
    .split<;>rfl
    .rfl
   .rfl
  .split
   .rename_i c _;simp only[h];cases hh:s.has o.dst<;>(split<;>split<;>rfl)
   .split<;>rfl
   .rfl
def aGr(hI:JL C B inl){o:Oper}{b:Nat}{k:S->Option Ω}(hin:qD C o)(he:CO C (inl Ω) o b s k=I q)(hst:St B β stk s a w)(hfr:Fr s){K:Act->World->Prop}{Q:Exit->Act->World->Prop}
  (hK:∀β' u w' s',St B β' stk s' (a.put o.dst u) w'->Fr s'->s'.n=s.n->s'.pins=s.pins->k s'=I q->K (a.put o.dst u) w'):o.wp B.P a w K Q:=by
 obtain⟨f,c,h1,h2,h3⟩:=hin;obtain⟨cal,⟨args⟩,⟨tys⟩⟩:=c;simp only at h2;subst h2;unfold CO at he;split at he
 .cases he
 rename_i hd;simp only[h1,h3]at he;exact hI Ω f o.dst _ s k q he β stk a w o args ⟨tys⟩ K Q hst hfr hd rfl rfl h1 hK
def aHP(hP:C.P=B.P)(hC:Hd C B)(hI:JL C B inl){i:Nat}{o:Oper}(hi:ops[i]? =I o){k:S->Option Ω}(he:evG C (inl Ω) ops o s.nid s k=I q)(hst:St B β stk s a w)(hfr:Fr s){K:Act->World->Prop}{Q:Exit->Act->World->Prop}
  (hK:∀β' u w' s',St B β' stk s' (a.put o.dst u) w'->(∀j,s'.nid+16<=j->s'.H j=G)->s'.n=s.n->s'.pins=s.pins->k s'=I q->K (a.put o.dst u) w'):wpOp B.P ops Q i K a w:=by
 by_cases hin:qD C o
 .have hK':∀s1:S,s1.n=s.n->s1.pins=s.pins->∀β' u w' s',St B β' stk s' (a.put o.dst u) w'->Fr s'->s'.n=s1.n->s'.pins=s1.pins->k s'=I q->K (a.put o.dst u) w':=
   λs1 e1 e2 β' u w' s' k1 k2 k3 k4 k5=>hK β' u w' s' k1 (λj hj=>k2 j J) (k3.trans e1) (k4.trans e2) k5
  unfold wpOp;simp only[hi];unfold evG at he;split at he
  .rename_i hg;have hw:JY o (yielded ops a.tmps)=Y:=by simp[JY,hg]
   rw[A5 hw];exact .inl (aGr hI hin he hst hfr<|hK' s rfl rfl)
  .rename_i j want hg;have hwd:JY o (yielded ops a.tmps)=(yielded ops a.tmps j == I want):=by simp[JY,hg]
   rw[hwd];split at he
   .cases he
   .rename_i g hgd hsp;split at he
    .rename_i qq v Ee hv;obtain⟨f,c,h1,h2,h3⟩:=hin;obtain⟨cal,⟨args⟩,⟨tys⟩⟩:=c;simp only at h2;subst h2;simp only[h1,spA,h3]at hv;cases hv
    .cases he
   .rename_i g hgd hsp;split at he
    .rename_i c hT;have htg:Bc a g= .bool c:=by have:=hst.T g;rw[hT]at this;exact this
     have hy:yielded ops a.tmps j=I c:=XS hgd htg;rw[hy];have hn:∀w0:Bool,c=w0->St B β stk { s with T:=upd s.T g (.b w0) } a w:=by
      intro w0 e;subst e;rw[show({ s with T:=upd s.T g (.b c) } :S)=s by rw[aaC _ _ _ hT]];exact hst
     have yes:CO C (inl Ω) o s.nid { s with T:=upd s.T g (.b want) } k=I q->c=want->
       (if(I c == I want)=Y then o.wp B.P a w K Q\/(o.asks B.P a w/\LetsOut Q) else K (a.put o.dst undef) w):=by
      intro he e;rw[A5<|by simp[e]];exact .inl<|aGr hI hin he (hn want e) hfr<|hK' _ rfl rfl
     have no:(match s.has o.dst with
       | true=>k (({ s with T:=upd s.T g (.b<|!want) } :S).put o.dst Dr)
       | false=>G)=I q->c= !want->
       (if(I c == I want)=Y then o.wp B.P a w K Q\/(o.asks B.P a w/\LetsOut Q) else K (a.put o.dst undef) w):=by
      intro he e;rw[A9 (by subst e;cases want<;>simp)];split at he
      .rename_i Ee;refine hK β undef w _ ((hn (!want) e).put (by exact Ee) (v:=Dr) (u:=undef) rfl (λg' w1 x e=>by cases e)) (λj hj=> ?_) ?_ ?_ he
       .have:=hfr j (by cases hod:o.dst<;>rw[hod]at hj<;>exact CZ (aH _ 16) hj);cases o.dst<;>exact this
       .cases o.dst<;>rfl
       .cases o.dst<;>rfl
      .cases he
     cases want<;>cases c<;>simp only[A2,if_false,Hq]at he
     .exact yes he rfl
     .exact no he rfl
     .exact no he rfl
     .exact yes he rfl
    .rename_i vs hT;have htg:Bc a g= .tuple vs:=by have:=hst.T g;rw[hT]at this;exact this
     have hy:¬(yielded ops a.tmps j == I want)=Y:=by
      intro e;have:=XR hgd (show yielded ops a.tmps j=I want by simpa using e);rw[htg]at this;cases this
     rw[A9 hy];split at he
     .rename_i Ee;refine hK β undef w _ (hst.put Ee (v:=Dr) (u:=undef) rfl (λg' w1 x e=>by cases e)) (λj hj=> ?_) ?_ ?_ he
      .have:=hfr j (by cases hod:o.dst<;>rw[hod]at hj<;>exact CZ (aH _ 16) hj);cases o.dst<;>exact this
      .cases o.dst<;>rfl
      .cases o.dst<;>rfl
     .cases he
    .cases he
 .rw[atC hin]at he;obtain⟨s1,h1,h2⟩:=Ai.1 he;have hk:=aFT h1;refine oZ hP hC hi hst (λj hj _=>hfr j hj) h1 λβ' u w' h=>hK β' u w' s1 h (λj hj=>hk.nn j (λhh=> ?_)<|hfr j ?_) hk.n hk.pins h2
  .rw[hk.nid]at hj;omega
  .rw[hk.nid]at hj;omega
def aFR(hP:C.P=B.P)(hC:Hd C B)(hI:JL C B inl){k:S->Option Ω}{Q:Exit->Act->World->Prop}{n:Nat}{p:List Nat}
  (hQ:∀β a w s',St B β stk s' a w->Fr s'->s'.n=n->s'.pins=p->k s'=I q->Q .normal a w):∀(l:List Oper) (i:Nat) (s:S) (β:Beta) (a:Act) (w:World),(∀j,l[j]? =ops[i+j]?)->
  PJ C (inl Ω) ops l s k=I q->St B β stk s a w->Fr s->s.n=n->s.pins=p->wpOps B.P ops Q (List.range' i l.length) a w
 | [],i,s,β,a,w,_,he,hst,hfr,hn,hp=>hQ β a w s hst hfr hn hp he
 | o::l,i,s,β,a,w,hl,he,hst,hfr,hn,hp=>by
  rw[Bf,List.range'_succ,wpOps_cons];have ho:ops[i]? =I o:=by simpa using (hl 0).symm
  refine aHP hP hC hI ho (show evG C (inl Ω) ops o s.nid s (λs=>PJ C (inl Ω) ops l { s with nid:=s.nid+16 } k)=I q from he) hst hfr ?_;intro β' u w' s' h1 h2 h3 h4 h5;exact aFR hP hC hI hQ l (i+1) { s' with nid:=s'.nid+16 } β' _ w' (λj=>by
   have:=hl<|j+1;simpa[DE,NM 1 j] using this) h5 ⟨h1.T,h1.stack,h1.n,h1.defers,h1.pins,h1.gs,h1.hs⟩ h2 (h3.trans hn) (h4.trans hp)
def aDI(hP:C.P=B.P)(hC:Hd C B)(hI:JL C B inl){k:S->Option Ω}(he:PJ C (inl Ω) ops ops.toList s k=I q)(hfr:Fr s)(hst:St B β stk s a w)
  {id:Nat}{Q:Exit->Act->World->Prop}(hQ:∀β a w s',St B β stk s' a w->Fr s'->s'.n=s.n->s'.pins=s.pins->k s'=I q->Q .normal a w):(RD id ops A0).wp B.P Q a w:=by
 refine wp_region ?_;have:=aFR hP hC hI hQ ops.toList 0 s β a w aIg he hst hfr rfl rfl;rw[List.range_eq_range',← F5];exact this
end
end Go.VS
namespace Go.VS
open Go
def Imm(w:World)(M:Nat->Prop)(c:AV)(v:Value):Prop:=∀β:Beta,(∀b,MZ β b->M b)->RC w β c v
mutual
def Rel (P:Program) (w:World) (M:Nat->Prop) (e:Nat->Value):(h:Sh)->LT h->Value->List (Value×Nat)->Prop
 | .int k,n,v,os=>v= .int k n/\os=[]
 | .bool,x,v,os=>v= .bool x/\os=[]
 | .str,s,v,os=>v= .string s/\os=[]
 | .sl k,xs,v,os=>Imm w M (.sl k xs) v/\os=[]
 | .fz k,xs,v,os=>Imm w M (.sl k xs) v/\os=[]
 | .row t k,xs,v,os=>os=[(v,xs.length)]/\RW v=Y/\ ∀β:Beta,(∀b,MZ β b->M b)->FZ w β t A0 k xs v
 | .Ch t k,xs,v,os=>os=[(v,xs.length)]/\RW v=Y/\ ∀β:Beta,(∀b,MZ β b->M b)->FZ w β t Y k xs v
 | .abx t k,xs,v,os=>os=[(v,xs.length)]/\1<=xs.length/\ ∃b us,v= .pointer (I ⟨b,0,G⟩)/\w.heap[b]? =I (.cells us t (0,0))/\us.size=xs.length * ks k/\us.size=P.cellsOf t/\
   (∀β:Beta,(∀b,MZ β b->M b)->∀i x j c u,xs[i]? =I x->(enc k x)[j]? =I c->us[i * ks k+j]? =I u->RC w β c u)
 | .arr k,xs,v,os=>os=[]/\ ∀β:Beta,(∀b,MZ β b->M b)->R1 w β (.arr k xs) v
 | .same t,_,v,os=>os=[]/\v=e t/\v.oneCell'=Y
 | .agg l,x,v,os=>∃us:List Value,v= .agg us.toArray/\Cj P w M e l x us os
 | .box t l,x,v,os=>∃b us os',v= .pointer (I ⟨b,0,G⟩)/\w.heap[b]? =I (.cells us t (0,0))/\Cj P w M e l x us.toList os'/\os=os'++[(v,1)]
def Cj (P:Program) (w:World) (M:Nat->Prop) (e:Nat->Value):(l:List Sh)->LTs l->List Value->List (Value×Nat)->Prop
 | [],_,us,os=>us=[]/\os=[]
 | h::l,x,us,os=>∃u us' o1 o2,us=u::us'/\os=o1++o2/\Rel P w M e h x.1 u o1/\Cj P w M e l x.2 us' o2
end
def HM(p:Value×Nat):Option Nat:=(adr p.1).map (·.block)
abbrev B0(os:List (Value×Nat)):List Nat:=os.filterMap HM
mutual
def M9:Sh->List Nat
 | .same t=>[t]
 | .agg l=>Il l
 | .box _ l=>Il l
 | _=>[]
def Il:List Sh->List Nat
 | []=>[]
 | h::l=>M9 h++Il l
end
section
variable {B:Be} {β β':Beta} {H:Hp} {w w':World} {M:Nat->Prop} {E:Nat->AV} {e:Nat->Value}
def RC.Rr{c:AV}{v:Value}(h:RC w β c v)(hc:Gf c=Y)(hM:∀b,M b->MZ β b):Imm w M c v:=λβ' hβ'=>
 RC.imm (λ_ _ _ _ h=>h) (λb hb _ hm=>hb<|hM b<|hβ' b hm) h hc
def FZ.imm{t:TypeId}{fz:Bool}{k:K}{xs:List (Tof k)}{v:Value}(h:FZ w β t fz k xs v)(hM:∀b,M b->MZ β b):∀β':Beta,(∀b,MZ β' b->M b)->FZ w β' t fz k xs v:=by
 intro β' hβ';obtain h|⟨b,f,cap,us,fr,h1,h2,h3,h4,h5,h6,h7⟩:=h
 .exact .inl h
 .exact .inr ⟨b,f,cap,us,fr,h1,h2,h3,h4,h5,h6,λi x j c u a1 a2 a3=>(h7 i x j c u a1 a2 a3).Rr (Ig k x a2) hM β' hβ'⟩
def FZ.alf{t:TypeId}{fz:Bool}{k:K}{xs:List (Tof k)}{v:Value}(h:FZ w β t fz k xs v)(hM:∀b,M b->MZ β b)(hn:∀a,adr v=I a->¬M a.block):Imm w M (.sl k xs) v:=by
 intro β' hβ';obtain⟨rfl,rfl⟩|⟨b,f,cap,us,fr,rfl,hh,hfr,hn',hc,hs,hr⟩:=h
 .exact .nil
 .have Cr:∀i j,i<xs.length->j<ks k->f+(i * ks k+j)<us.size:=by
   intro i j hi hj;have h1:(i+1) * ks k<=cap * ks k:=EA _ J;rw[EK]at h1;omega
  refine .sl (λi j=>us.getD (f+(i * ks k+j)) undef) ⟨rfl,hn'⟩ (λhm=>hn _ rfl (hβ' _ hm)) (λi j hi hj=> ?_) (λi x j c h2 h3=> ?_)
  .rw[cell_of_row w b _ us t fr hh];have:=Cr i j hi hj;simp[this]
  .have hi:i<xs.length:=(BO.1 h2).1;have hj:j<ks k:=by rw[← EP k x];exact(BO.1 h3).1
   have:=Cr i j hi hj;exact(hr i x j c (us.getD (f+(i * ks k+j)) undef) h2 h3<|by simp[this]).Rr (Ig k x h3) hM β' hβ'
def R1.lits{v' v:Value}(h:R1 w β (.lit v') v):v=v':=h
def R1.sls{k:K}{xs:List (Tof k)}{v:Value}(h:R1 w β (.sl k xs) v):RC w β (.sl k xs) v:=h
def R1.qu{id:Nat}{v:Value}(h:R1 w β (.own id) v):RC w β (.own id) v:=h
def R1.Rq{id z i o:Nat}{v:Value}(h:R1 w β (.ptr id z i o) v):RC w β (.ptr id z i o) v:=h
structure Nr (B:Be) (β:Beta) (H:Hp) (w:World) (M:Nat->Prop) (E:Nat->AV) (e:Nat->Value):Prop where
 hs:Hs B β H w
 hM:∀b,M b->MZ β b
 hE:∀t id z,E t= .ptr id z 0 0->R1 w β (E t) (e t)
def RQ(β:Beta)(M:Nat->Prop)(ids:List Nat):Prop:=∀i∈ids,∀p a,β i=I p->adr p.1=I a->¬M a.block
def pJ(R:Nr B β H w M E e){id:Nat}{t:TypeId}{fz:Bool}{k:K}{xs:List (Tof k)}{v:Value}(hv:RC w β (.own id) v)(hid:H id=I (.row t fz k xs)):
  RW v=Y/\β id=I (v,xs.length)/\FZ w β t fz k xs v:=by
 cases hv with
 | own h hs=>
  obtain⟨hd,h1,h2⟩:=R.hs.EM id _ hid;rw[h]at h1;cases h1;exact⟨hs,h,h2⟩
mutual
theorem mm (R:Nr B β H w M E e):∀(h:Sh) (c:AV) (v:Value) (x:LT h),R1 w β c v->Bo E H h c=I x->RQ β M (Cp H h c)->
  ∃os,Rel B.P w M e h x v os/\B0 os=B0 ((Cf H h c).filterMap β)
 | .int k,c,v,x,hv,hx,_=>by
  cases c with
  | lit v'=>
   cases v'<;>first|(simp[Bo]at hx;done)|skip
   simp only[Bo]at hx;split at hx
   .rename_i e1;simp at e1;subst e1;cases hx;exact⟨[],⟨hv.lits,rfl⟩,rfl⟩
   .cases hx
  | _=>simp[Bo]at hx
 | .bool,c,v,x,hv,hx,_=>by
  cases c with
  | lit v'=>
   cases v'<;>first|(simp[Bo]at hx;done)|skip
   simp only[Bo]at hx;cases hx;exact⟨[],⟨hv.lits,rfl⟩,rfl⟩
  | _=>simp[Bo]at hx
 | .str,c,v,x,hv,hx,_=>by
  cases c with
  | lit v'=>
   cases v'<;>first|(simp[Bo]at hx;done)|skip
   simp only[Bo]at hx;cases hx;exact⟨[],⟨hv.lits,rfl⟩,rfl⟩
  | _=>simp[Bo]at hx
 | .sl k,c,v,x,hv,hx,_=>by
  cases c with
  | sl k' xs=>
   obtain⟨e1,rfl⟩:=I6<|show Is k' k xs=I x from hx;subst e1;exact⟨[],⟨hv.sls.Rr rfl R.hM,rfl⟩,rfl⟩
  | lit v'=>
   cases v' with
   | slice a n cap=>
    cases a<;>cases n<;>cases cap<;>simp[Bo]at hx;subst hx;have:=hv.lits;subst this;exact⟨[],⟨λ_ _=> .nil,rfl⟩,rfl⟩
   | _=>simp[Bo]at hx
  | _=>simp[Bo]at hx
 | .fz k,c,v,x,hv,hx,hf=>by
  cases c with
  | sl k' xs=>
   obtain⟨e1,rfl⟩:=I6<|show Is k' k xs=I x from hx;subst e1;exact⟨[],⟨hv.sls.Rr rfl R.hM,rfl⟩,rfl⟩
  | lit v'=>
   cases v' with
   | slice a n cap=>
    cases a<;>cases n<;>cases cap<;>simp[Bo,CI]at hx;subst hx;have:=hv.lits;subst this;exact⟨[],⟨λ_ _=> .nil,rfl⟩,rfl⟩
   | _=>simp[Bo,CI]at hx
  | own id=>
   simp only[Bo,CI]at hx;split at hx
   .rename_i t fz k' ys hid;obtain⟨e1,rfl⟩:=I6 hx;subst e1;obtain⟨h1,h2,h3⟩:=pJ R hv.qu hid;exact⟨[],⟨h3.alf R.hM λa ha=>hf id (by simp[Cp]) _ a h2 ha,rfl⟩,rfl⟩
   .cases hx
  | _=>simp[Bo,CI]at hx
 | .row t k,c,v,x,hv,hx,_=>by
  cases c with
  | lit v'=>
   cases v' with
   | slice a n cap=>
    cases a<;>cases n<;>cases cap<;>simp[Bo]at hx;subst hx;have:=hv.lits;subst this;exact⟨[(.slice G 0 0,0)],⟨rfl,rfl,λ_ _=> .inl ⟨rfl,rfl⟩⟩,rfl⟩
   | _=>simp[Bo]at hx
  | own id=>
   simp only[Bo]at hx;split at hx
   .rename_i t' k' ys hid;split at hx
    .rename_i ht;obtain rfl:=Bn ht;obtain⟨e1,rfl⟩:=I6 hx;subst e1;obtain⟨h1,h2,h3⟩:=pJ R hv.qu hid;exact⟨[(v,ys.length)],⟨rfl,h1,h3.imm R.hM⟩,by simp[Cf,h2]⟩
    .cases hx
   .cases hx
  | _=>simp[Bo]at hx
 | .Ch t k,c,v,x,hv,hx,_=>by
  cases c with
  | own id=>
   simp only[Bo]at hx;split at hx
   .rename_i t' k' ys hid;split at hx
    .rename_i ht;obtain rfl:=Bn ht;obtain⟨e1,rfl⟩:=I6 hx;subst e1;obtain⟨h1,h2,h3⟩:=pJ R hv.qu hid;exact⟨[(v,ys.length)],⟨rfl,h1,h3.imm R.hM⟩,by simp[Cf,h2]⟩
    .cases hx
   .cases hx
  | _=>simp[Bo]at hx
 | .abx t k,c,v,x,hv,hx,_=>by
  cases c with
  | ptr id z i o=>
   cases i<;>cases o<;>simp only[Bo]at hx<;>first|(cases hx;done)|skip
   split at hx
   .rename_i t' k' ys hid;split at hx
    .rename_i ht;simp only[AD]at ht;obtain rfl:=Bn ht.1;obtain⟨e1,rfl⟩:=I6 hx;subst e1;have hv:=hv.Rq;cases hv with
     | @ptr _ _ _ _ hd n b f h1 ha hi=>
      obtain⟨b',us,k1,k2,k3,k4,k5⟩:=R.hs.EM id _ hid;rw[h1]at k1;cases k1;cases ha;have e0:0 * z=0:=UL z;refine⟨[(.pointer<|I ⟨b,0,G⟩,ys.length)],⟨?_,hi,b,us, ?_,k2,k3,k4,λβ' hβ' i x j c u a1 a2 a3=>(k5 i x j c u a1 a2 a3).Rr (Ig k' x a2) R.hM β' hβ'⟩,by simp[Cf,h1]⟩
      .simp
      .simp
    .cases hx
   .cases hx
  | _=>simp[Bo]at hx
 | .arr k,c,v,x,hv,hx,_=>by
  cases c with
  | arr k' xs=>
   obtain⟨e1,rfl⟩:=I6<|show Is k' k xs=I x from hx;subst e1;obtain⟨us,k1,k2,k3⟩:=hv;exact⟨[],⟨rfl,λβ' hβ'=>⟨us,k1,k2,λi x j c u a1 a2 a3=>(k3 i x j c u a1 a2 a3).Rr (Ig k' x a2) R.hM β' hβ'⟩⟩,rfl⟩
  | _=>simp[Bo]at hx
 | .same t,c,v,x,hv,hx,_=>by
  cases c with
  | ptr id z i o=>
   cases i<;>cases o<;>simp only[Bo]at hx<;>first|(cases hx;done)|skip
   split at hx
   .rename_i id' z' hE;split at hx
    .rename_i hid;obtain rfl:=Bn hid;have h2:=R.hE t _ _ hE;rw[hE]at h2;have h2:=h2.Rq;have h1:=hv.Rq;refine⟨[],⟨rfl, ?_,h1.one⟩,rfl⟩;generalize e t=v2 at h2;cases h1 with
     | ptr a1 a2 a3=>
      cases h2 with
      | ptr b1 b2 b3=>
       rw[a1]at b1;cases b1;rw[a2]at b2;cases b2;simp
    .cases hx
   .cases hx
  | _=>simp[Bo]at hx
 | .agg l,c,v,x,hv,hx,hf=>by
  cases c with
  | agg cs=>
   obtain⟨us,rfl,hr⟩:=hv;obtain⟨os,h1,h2⟩:=mK R l cs us x hr hx hf;exact⟨os,⟨us,rfl,h1⟩,h2⟩
  | _=>simp[Bo]at hx
 | .box t l,c,v,x,hv,hx,hf=>by
  cases c with
  | ptr id z i o=>
   cases i<;>cases o<;>simp only[Bo]at hx<;>first|(cases hx;done)|skip
   split at hx
   .rename_i t' cs hid;split at hx
    .rename_i ht;obtain rfl:=Bn ht;have hv:=hv.Rq;cases hv with
     | @ptr _ _ _ _ hd n b f h1 ha hi=>
      obtain⟨b',us,k1,k2,k3⟩:=R.hs.EM id _ hid;rw[h1]at k1;cases k1;cases ha;obtain⟨os,j1,j2⟩:=mK R l cs us.toList x k3 hx (by simpa only[Cp,hid] using hf);refine⟨os++[(.pointer<|I ⟨b,0,G⟩,1)],⟨b,us,os,by simp,k2,j1,by simp⟩, ?_⟩;have:Cf H (.box t l) (.ptr id z 0 0)=Bm H l cs++[id]:=by simp only[Cf,hid]
      rw[this];simp only[B0,MJ]at j2 ⊢;rw[j2];simp[h1]
    .cases hx
   .cases hx
  | _=>simp[Bo]at hx
theorem mK (R:Nr B β H w M E e):∀(l:List Sh) (cs:List AV) (us:List Value) (x:LTs l),RL (RC w β) cs us->GK E H l cs=I x->RQ β M (Cv H l cs)->
  ∃os,Cj B.P w M e l x us os/\B0 os=B0 ((Bm H l cs).filterMap β)
 | [],[],us,x,hr,hx,_=>⟨[],⟨hr.of_nil,rfl⟩,rfl⟩
 | [],_::_,us,x,hr,hx,_=>by cases hx
 | _::_,[],us,x,hr,hx,_=>by cases hx
 | h::l,c::cs,us,x,hr,hx,hf=>by
  obtain⟨u,us',rfl,h1,h2⟩:=hr.CE;obtain⟨x1,e1,hx⟩:=Ai.1 hx;obtain⟨x2,e2,hx⟩:=Ai.1 hx;cases hx;obtain⟨o1,j1,j2⟩:=mm R h c u x1 (R1.MX h1) e1 (λi hi=>hf i<|Bv _ hi);obtain⟨o2,j3,j4⟩:=mK R l cs us' x2 h2 e2 (λi hi=>hf i<|CV _ hi);refine⟨o1++o2,⟨u,us',o1,o2,rfl,rfl,j1,j3⟩, ?_⟩;simp only[B0,MJ,Bm]at j2 j4 ⊢;rw[j2,j4]
end
def Xp(R:Nr B β H w M E e):∀(l:List Sh) (cs:List AV) (us:List Value) (x:LTs l),RL (R1 w β) cs us->GK E H l cs=I x->RQ β M (Cv H l cs)->
  ∃os,Cj B.P w M e l x us os/\B0 os=B0 ((Bm H l cs).filterMap β)
 | [],[],us,x,hr,hx,_=>⟨[],⟨hr.of_nil,rfl⟩,rfl⟩
 | [],_::_,us,x,hr,hx,_=>by cases hx
 | _::_,[],us,x,hr,hx,_=>by cases hx
 | h::l,c::cs,us,x,hr,hx,hf=>by
  obtain⟨u,us',rfl,h1,h2⟩:=hr.CE;obtain⟨x1,e1,hx⟩:=Ai.1 hx;obtain⟨x2,e2,hx⟩:=Ai.1 hx;cases hx;obtain⟨o1,j1,j2⟩:=mm R h c u x1 h1 e1 (λi hi=>hf i<|Bv _ hi);obtain⟨o2,j3,j4⟩:=Xp R l cs us' x2 h2 e2 (λi hi=>hf i<|CV _ hi);refine⟨o1++o2,⟨u,us',o1,o2,rfl,rfl,j1,j3⟩, ?_⟩;simp only[B0,MJ,Bm]at j2 j4 ⊢;rw[j2,j4]
end
end Go.VS
namespace Go.VS
open Go
section
variable {P:Program} {β:Beta} {H:Hp} {w:World} {M:Nat->Prop} {E:Nat->AV} {e:Nat->Value} {b:Nat}
def IY(P:Program)(w:World)(β:Beta)(H H':Hp)(b n:Nat):Prop:=
 (∀j,j<b\/b+n<=j->H' j=H j)/\(∀j,b<=j->j<b+n->∃ob,H' j=I ob/\EC P w β j ob)
def IY.nil:IY P w β H H b 0:=⟨λ_ _=>rfl,λj h1 h2=>by omega⟩
def IY.one{ob:Ob}(h:EC P w β b ob):IY P w β H (upd H b<|I ob) b 1:=by
 refine⟨λj hj=>BE _ _ J,λj h1 h2=> ?_⟩;have:j=b:=J
 subst this;exact⟨ob,Bh _ _ _,h⟩
def IY.trans{H' H'':Hp}{n m:Nat}(h:IY P w β H H' b n)(k:IY P w β H' H'' (b+n) m):IY P w β H H'' b (n+m):=by
 refine⟨λj hj=> ?_,λj h1 h2=> ?_⟩
 .rw[k.1 j J,h.1 j J]
 .by_cases e:j<b+n
  .obtain⟨ob,k1,k2⟩:=h.2 j h1 e;exact⟨ob,by rw[k.1 j<|.inl e];exact k1,k2⟩
  .exact k.2 j J J
def Num(β:Beta)(b:Nat)(os:List (Value×Nat)):Prop:=∀i p,os[i]? =I p->β (b+i)=I p
def Num.left{o1 o2:List (Value×Nat)}(h:Num β b (o1++o2)):Num β b o1:=λi p hp=>h i p (by
 rw[IP (BO.1 hp).1];exact hp)
def Num.right{o1 o2:List (Value×Nat)}(h:Num β b (o1++o2)):Num β (b+o1.length) o2:=λi p hp=>by
 have:=h (o1.length+i) p (by rw[FU J];simpa using hp);rw[DE];exact this
def Num.one{p:Value×Nat}{os:List (Value×Nat)}(h:Num β b (os++[p])):β (b+os.length)=I p:=by
 have:=h.right 0 p rfl;simpa using this
def US(w:World)(β:Beta)(E:Nat->AV)(e:Nat->Value)(ts:List Nat):Prop:=∀t∈ts,R1 w β (E t)<|e t
def R1.alg{c:AV}{v:Value}(h:R1 w β c v)(h1:v.oneCell'=Y):RC w β c v:=by
 cases c with
 | un=>exact .un h1
 | lit v'=>have:=h.lits;subst this;exact .lit h1
 | sl k xs=>exact h
 | own id=>exact h
 | ptr a b c d=>exact h
 | ipt a b c=>exact h
 | arr k xs=>obtain⟨us,rfl,_⟩:=h;cases h1
 | agg cs=>obtain⟨us,rfl,_⟩:=h;cases h1
 | tup vs=>exact h.elim
 | gd a b c=>exact h.elim
mutual
theorem aHt (hM:∀b,MZ β b->M b):∀(h:Sh) (H:Hp) (b:Nat) (x:LT h) (v:Value) (os:List (Value×Nat)),Ip h=Y->Rel P w M e h x v os->Num β b os->US w β E e (M9 h)->
  RC w β (BI E H b h x).1 v/\(BI E H b h x).2.2=b+os.length/\IY P w β H (BI E H b h x).2.1 b os.length
 | .int k,H,b,x,v,os,_,hr,_,_=>by obtain⟨rfl,rfl⟩:=hr;exact⟨.lit rfl,rfl,.nil⟩
 | .bool,H,b,x,v,os,_,hr,_,_=>by obtain⟨rfl,rfl⟩:=hr;exact⟨.lit rfl,rfl,.nil⟩
 | .str,H,b,x,v,os,_,hr,_,_=>by obtain⟨rfl,rfl⟩:=hr;exact⟨.lit rfl,rfl,.nil⟩
 | .sl k,H,b,x,v,os,_,hr,_,_=>by obtain⟨h1,rfl⟩:=hr;exact⟨h1 β hM,rfl,.nil⟩
 | .fz k,H,b,x,v,os,_,hr,_,_=>by obtain⟨h1,rfl⟩:=hr;exact⟨h1 β hM,rfl,.nil⟩
 | .row t k,H,b,x,v,os,_,hr,hn,_=>by
  obtain⟨rfl,h1,h2⟩:=hr;have hb:β b=I (v,x.length):=hn.one (os:=[]);exact⟨.own hb h1,rfl,.one ⟨v,hb,h2 β hM⟩⟩
 | .Ch t k,H,b,x,v,os,_,hr,hn,_=>by
  obtain⟨rfl,h1,h2⟩:=hr;have hb:β b=I (v,x.length):=hn.one (os:=[]);exact⟨.own hb h1,rfl,.one ⟨v,hb,h2 β hM⟩⟩
 | .abx t k,H,b,x,v,os,_,hr,hn,_=>by
  obtain⟨rfl,h1,bb,us,rfl,h3,h4,h5,h6⟩:=hr;have hb:β b=I (.pointer<|I ⟨bb,0,G⟩,x.length):=hn.one (os:=[]);refine⟨?_,rfl,.one ⟨bb,us,hb,h3,h4,h5,h6 β hM⟩⟩;have:=RC.ptr (w:=w) (sz:=ks k) (o:=0) hb (rfl:adr (.pointer<|I ⟨bb,0,G⟩)=I ⟨bb,0,G⟩) (i:=0) J;show RC w β (.ptr b (ks k) 0 0) _;simpa using this
 | .arr _,_,_,_,_,_,h,_,_,_=>by simp[Ip]at h
 | .agg _,_,_,_,_,_,h,_,_,_=>by simp[Ip]at h
 | .same t,H,b,x,v,os,_,hr,_,hs=>by
  obtain⟨rfl,rfl,h1⟩:=hr;refine⟨?_,rfl,.nil⟩;exact(hs t<|by simp[M9]).alg h1
 | .box t l,H,b,x,v,os,hl,hr,hn,hs=>by
  obtain⟨bb,us,os',rfl,h2,h3,rfl⟩:=hr;have un:BI E H b (.box t l) x=(match Ak E H b l x with|(cs,H,b)=>(AV.ptr b cs.length 0 0,upd H b<|I<|.box t cs,b+1)):=rfl;obtain⟨k1,k2,k3⟩:=Yu hM l H b x us.toList os' (by simpa[Ip] using hl) h3 hn.left (by simpa[M9] using hs);rw[un];generalize Ak E H b l x=r at *;obtain⟨cs,H',b'⟩:=r;simp only at k1 k2 k3;subst k2;have hb:=hn.one;refine⟨?_,by simp[DE], ?_⟩
  .have:=RC.ptr (w:=w) (sz:=cs.length) (o:=0) hb (rfl:adr (.pointer<|I ⟨bb,0,G⟩)=I ⟨bb,0,G⟩) (i:=0) J;simpa using this
  .rw[Aw];exact k3.trans<|.one ⟨bb,us,hb,h2,k1⟩
theorem Yu (hM:∀b,MZ β b->M b):∀(l:List Sh) (H:Hp) (b:Nat) (x:LTs l) (us:List Value) (os:List (Value×Nat)),Ly l=Y->Cj P w M e l x us os->Num β b os->US w β E e (Il l)->
  RL (RC w β) (Ak E H b l x).1 us/\(Ak E H b l x).2.2=b+os.length/\IY P w β H (Ak E H b l x).2.1 b os.length
 | [],H,b,x,us,os,_,hr,_,_=>by obtain⟨rfl,rfl⟩:=hr;exact⟨.nil,rfl,.nil⟩
 | h::l,H,b,x,us,os,hl,hr,hn,hs=>by
  obtain⟨u,us',o1,o2,rfl,rfl,h1,h2⟩:=hr;simp only[Ly,AD]at hl;have un:Ak E H b (h::l) x=(match BI E H b h x.1 with|(c,H,b)=>match Ak E H b l x.2 with|(cs,H,b)=>(c::cs,H,b)):=rfl;obtain⟨k1,k2,k3⟩:=aHt hM h H b x.1 u o1 hl.1 h1 hn.left (λt ht=>hs t<|Bv _ ht);rw[un];generalize BI E H b h x.1=r at *;obtain⟨c,H',b'⟩:=r;simp only at k1 k2 k3 ⊢;subst k2;obtain⟨j1,j2,j3⟩:=Yu hM l H' (b+o1.length) x.2 us' o2 hl.2 h2 hn.right (λt ht=>hs t<|CV _ ht);generalize Ak E H' (b+o1.length) l x.2=r at *;obtain⟨cs,H'',b''⟩:=r;simp only at j1 j2 j3 ⊢;subst j2;refine⟨.cons k1 j1,by simp[DE], ?_⟩;rw[Aw];exact k3.trans j3
end
def aHs(hM:∀b,MZ β b->M b)(h:Sh)(H:Hp)(b:Nat)(x:LT h)(v:Value)(os:List (Value×Nat))(ht:qE h=Y)(hr:Rel P w M e h x v os)(hn:Num β b os)(hs:US w β E e (M9 h)):
  R1 w β (BI E H b h x).1 v/\(BI E H b h x).2.2=b+os.length/\IY P w β H (BI E H b h x).2.1 b os.length:=by
 by_cases hh:Ip h=Y
 .obtain⟨h1,h2,h3⟩:=aHt hM h H b x v os hh hr hn hs;exact⟨.MX h1,h2,h3⟩
 .cases h<;>first|(exact absurd ht hh;done)|skip
  case agg l=>
   obtain⟨us,rfl,h1⟩:=hr;have un:BI E H b (.agg l) x=(match Ak E H b l x with|(cs,H,b)=>(AV.agg cs,H,b)):=rfl;obtain⟨k1,k2,k3⟩:=Yu hM l H b x us os ht h1 hn hs;rw[un];generalize Ak E H b l x=r at *;obtain⟨cs,H',b'⟩:=r;exact⟨⟨us,rfl,k1⟩,k2,k3⟩
  case arr k=>
   obtain⟨rfl,h1⟩:=hr;exact⟨h1 β hM,rfl,.nil⟩
def Yt(hM:∀b,MZ β b->M b):∀(l:List Sh) (H:Hp) (b:Nat) (x:LTs l) (us:List Value) (os:List (Value×Nat)),K4 l=Y->Cj P w M e l x us os->Num β b os->US w β E e (Il l)->
  RL (R1 w β) (Ak E H b l x).1 us/\(Ak E H b l x).2.2=b+os.length/\IY P w β H (Ak E H b l x).2.1 b os.length
 | [],H,b,x,us,os,_,hr,_,_=>by obtain⟨rfl,rfl⟩:=hr;exact⟨.nil,rfl,.nil⟩
 | h::l,H,b,x,us,os,hl,hr,hn,hs=>by
  obtain⟨u,us',o1,o2,rfl,rfl,h1,h2⟩:=hr;simp only[K4,AD]at hl;have un:Ak E H b (h::l) x=(match BI E H b h x.1 with|(c,H,b)=>match Ak E H b l x.2 with|(cs,H,b)=>(c::cs,H,b)):=rfl;obtain⟨k1,k2,k3⟩:=aHs hM h H b x.1 u o1 hl.1 h1 hn.left (λt ht=>hs t<|Bv _ ht);rw[un];generalize BI E H b h x.1=r at *;obtain⟨c,H',b'⟩:=r;simp only at k1 k2 k3 ⊢;subst k2;obtain⟨j1,j2,j3⟩:=Yt hM l H' (b+o1.length) x.2 us' o2 hl.2 h2 hn.right (λt ht=>hs t<|CV _ ht);generalize Ak E H' (b+o1.length) l x.2=r at *;obtain⟨cs,H'',b''⟩:=r;simp only at j1 j2 j3 ⊢;subst j2;refine⟨.cons k1 j1,by simp[DE], ?_⟩;rw[Aw];exact k3.trans j3
end
end Go.VS
namespace Go.VS
open Go
def Xq:∀ {l:List Nat},N8 l=Y->l.Nodup
 | [],_=>List.nodup_nil
 | a::l,h=>by
  simp only[N8,AD,C6]at h;refine IJ.2 ⟨λhm=> ?_,Xq h.2⟩;have:(l.any λb=>Ah a b)=Y:=HR.2 ⟨a,hm,by simp⟩;rw[this]at h;cases h.1
def aH4{l m:List Nat}(h:off l m=Y):∀a∈l,a ∉ m:=λa ha hm=>by
 have h1:=Cy.1 h a ha;have:(m.any λb=>Ah a b)=Y:=HR.2 ⟨a,hm,by simp⟩;rw[this]at h1;cases h1
section
variable {B:Be} {β β':Beta} {H H':Hp} {w w':World} {M:Nat->Prop} {E:Nat->AV} {e:Nat->Value} {stk:List (Array Value)} {s s':S} {a:Act}
def Mz{ids:List Nat}{b:Nat}(h:b∈B0 (ids.filterMap β)):∃i∈ids,∃p a,β i=I p/\adr p.1=I a/\a.block=b:=by
 obtain⟨p,hp,hb⟩:=GZ.1 h;obtain⟨i,hi,hβ⟩:=GZ.1 hp;obtain⟨a,ha,e⟩:=DB.1 hb;exact⟨i,hi,p,a,hβ,ha,e⟩
def YE(hH:Hs B β H w):∀ {ids:List Nat},ids.Nodup->(B0<|ids.filterMap β).Nodup
 | [],_=>List.nodup_nil
 | i::ids,h=>by
  obtain⟨h1,h2⟩:=IJ.1 h;have ih:=YE hH h2;cases hβ:β i with
  | none=>simpa[hβ] using ih
  | some p=>
   cases hb:HM p with
   | none=>simpa[hβ,hb] using ih
   | some b=>
    simp only[B0,nh,hβ,hb];refine IJ.2 ⟨λhm=> ?_,ih⟩;obtain⟨j,hj,q,a',hq,ha',e'⟩:=Mz hm;obtain⟨a,ha,e⟩:=DB.1 hb;have:=hH.inj i j p q a a' hβ hq ha ha' (by rw[e,e']);subst this;exact h1 hj
def Tl{ids:List Nat}{b:Nat}(h:b∈B0 (ids.filterMap β)):MB β b:=by
 obtain⟨i,_,p,a,h1,h2,h3⟩:=Mz h;exact⟨i,p.1,p.2,a,h1,h2,h3⟩
abbrev MO(B:Be)(l:List Nat)(b:Nat):Prop:=b∈l\/B.Z b
def abN(hH:Hs B β H w){ids:List Nat}{b:Nat}(h:MO B (B0<|ids.filterMap β) b):MZ β b:=by
 obtain h|h:=h
 .exact .inl (Tl h)
 .exact .inr (by rw[hH.z];exact h)
def oW(hH:Hs B β H w){fz ids:List Nat}(h:off fz ids=Y):RQ β (MO B<|B0<|ids.filterMap β) fz:=by
 intro i hi p a hp ha hm;obtain hm|hm:=hm
 case inr=>rw[← hH.z]at hm;exact hH.zn i p a hp ha hm
 obtain⟨j,hj,q,a',hq,ha',e⟩:=Mz hm;have:=hH.inj i j p q a a' hp hq ha ha' e.symm;subst this;exact aH4 h i hi hj
def Hn(Z:Nat->Prop)(os:List (Value×Nat)):Beta:=⟨λi=>os[i]?, Z⟩
def nB(Z:Nat->Prop)(os:List (Value×Nat)):Num (Hn Z os) 0 os:=λi p h=>by rw[DN];exact h
def N1{Z:Nat->Prop}{os:List (Value×Nat)}{b:Nat}(h:MB (Hn Z os) b):b∈B0 os:=by
 obtain⟨i,hd,n,a,h1,h2,h3⟩:=h;exact GZ.2 ⟨(hd,n),Cn h1,by simp[HM,h2,h3]⟩
def pO{os:List (Value×Nat)}{b:Nat}(h:MZ (Hn B.Z os) b):MO B (B0 os) b:=h.imp N1 λh=>h
def Yr{os:List (Value×Nat)}(h:(B0 os).Nodup):∀(i j:Nat) (p q:Value×Nat) (a a':Addr),os[i]? =I p->os[j]? =I q->adr p.1=I a->adr q.1=I a'->a.block=a'.block->i=j:=by
 induction os with
 | nil=>intro i j p q a a' hi;simp at hi
 | cons x os ih=>
  have hx:∀ {p:Value×Nat} {a:Addr},adr p.1=I a->HM p=I a.block:=λh=>by simp[HM,h]
  have ih':(B0 os).Nodup:=by
   cases hb:HM x with
   | none=>simpa[hb] using h
   | some b=>simp only[B0,nh,hb]at h;exact(IJ.1 h).2
  have Uv:∀(j:Nat) (q:Value×Nat) (a a':Addr),os[j]? =I q->adr x.1=I a->adr q.1=I a'->a.block=a'.block->False:=by
   intro j q a a' hj ha ha' e;simp only[B0,nh,hx ha]at h;refine(IJ.1 h).1<|GZ.2 ⟨q,Cn hj, ?_⟩;rw[hx ha',e]
  intro i j p q a a' hi hj ha ha' e;cases i with
  | zero=>
   simp at hi;subst hi;cases j with
   | zero=>rfl
   | succ j=>simp at hj;exact(Uv j q a a' hj ha ha' e).elim
  | succ i=>
   simp at hi;cases j with
   | zero=>simp at hj;subst hj;exact(Uv i p a' a hi ha' ha e.symm).elim
   | succ j=>simp at hj;rw[ih ih' i j p q a a' hi hj ha ha' e]
def Hs.azh(hH:Hs B β H w){os:List (Value×Nat)}(hn:(B0 os).Nodup)(hb:∀b∈B0 os,MB β b)(hm:IY B.P w (Hn B.Z os) (λ_=>G) H' 0 os.length):Hs B (Hn B.Z os) H' w where
 EM id ob ho:=by
  by_cases h:id<os.length
  .obtain⟨ob',h1,h2⟩:=hm.2 id (D5 _) J;rw[h1]at ho;cases ho;exact h2
  .rw[hm.1 id J]at ho;cases ho
 dom id p hp:=by
  have h:id<os.length:=(BO.1<|show os[id]? =I p from hp).1;obtain⟨ob',h1,_⟩:=hm.2 id (D5 _) J;exact⟨ob',h1⟩
 inj i j p q a a' hi hj:=Yr hn i j p q a a' hi hj
 old b h:=hH.old b (hb b<|N1 h)
 os:=hH.os
 tape:=hH.tape
 output:=hH.output
 size:=hH.size
 block:=hH.block
 z:=rfl
 zn id p a hp ha hz:=by
  have hb:=hb a.block (GZ.2 ⟨p,Cn hp,by simp[HM,ha]⟩);obtain⟨j,hd,n,a',h1,h2,h3⟩:=hb;refine hH.zn j _ a' h1 h2 ?_;rw[h3,hH.z];exact hz
 zl b h:=hH.zl b (by rw[hH.z];exact h)
 pk:=hH.pk
def aDR{E:Nat->AV}{h:Sh}{c:AV}{x:LT h}(hx:Bo E H h c=I x):(∀g w v,c≠ .gd g w v)/\ ∀vs,c≠ .tup vs:=by
 constructor
 .rintro g w v rfl;cases h<;>simp[Bo,CI]at hx
 .rintro vs rfl;cases h<;>simp[Bo,CI]at hx
def RT.Mc{tm:Nat->Value}{c:AV}{v:Value}(h:RT w β tm c v)(h1:∀g w v,c≠ .gd g w v)(h2:∀vs,c≠ .tup vs):R1 w β c v:=by
 cases c<;>first|exact h|exact absurd rfl (h1 _ _ _)|exact absurd rfl (h2 _)
def aDB{tm:Nat->Value}{T:Nat->AV}(R:Nr B β H w M T tm)(hT:∀t,RT w β tm (T t)<|tm t):∀(c:Sch) (x:Lv c),pL H T c=I x->RQ β M (pF H T c)->
  ∃os,Cj B.P w M tm (c.map (·.2)) x (c.map λp=>tm p.1) os/\B0 os=B0 ((Oe H T c).filterMap β)
 | [],x,hx,_=>⟨[],⟨rfl,rfl⟩,rfl⟩
 | (t,h)::c,x,hx,hf=>by
  obtain⟨x1,e1,hx⟩:=Ai.1 hx;obtain⟨x2,e2,hx⟩:=Ai.1 hx;cases hx;obtain⟨p1,p2⟩:=aDR e1;obtain⟨o1,j1,j2⟩:=mm R h (T t) (tm t) x1 ((hT t).Mc p1 p2) e1 (λi hi=>hf i<|Bv _ hi);obtain⟨o2,j3,j4⟩:=aDB R hT c x2 e2 (λi hi=>hf i<|CV _ hi);refine⟨o1++o2,⟨tm t,c.map λp=>tm p.1,o1,o2,rfl,rfl,j1,j3⟩, ?_⟩;simp only[B0,MJ,Oe]at j2 j4 ⊢;rw[j2,j4]
def aER{P:Program}{tm:Nat->Value}(hM:∀b,MZ β b->M b):∀(c:Sch) (T:Nat->AV) (H:Hp) (b:Nat) (x:Lv c) (os:List (Value×Nat)),K4 (c.map (·.2))=Y->Cj P w M tm (c.map (·.2)) x (c.map λp=>tm p.1) os->Num β b os->(∀t,R1 w β (T t)<|tm t)->
  (∀t,R1 w β ((M3 T H b c x).1 t)<|tm t)/\(M3 T H b c x).2.2=b+os.length/\IY P w β H (M3 T H b c x).2.1 b os.length
 | [],T,H,b,x,os,_,hr,_,hT=>by obtain⟨_,rfl⟩:=hr;exact⟨hT,rfl,.nil⟩
 | (t,h)::c,T,H,b,x,os,hl,hr,hn,hT=>by
  obtain⟨u,us',o1,o2,e1,rfl,h1,h2⟩:=hr;simp only[DU,ML]at e1;obtain⟨rfl,rfl⟩:=e1;simp only[DU,K4,AD]at hl;have un:M3 T H b ((t,h)::c) x=(match BI T H b h x.1 with|(v,H,b)=>M3 (upd T t v) H b c x.2):=rfl;obtain⟨k1,k2,k3⟩:=aHs (E:=T) hM h H b x.1 (tm t) o1 hl.1 h1 hn.left (λt' _=>hT t');rw[un];generalize BI T H b h x.1=r at *;obtain⟨v,H',b'⟩:=r;simp only at k1 k2 k3 ⊢;subst k2;obtain⟨j1,j2,j3⟩:=aER hM c (upd T t v) H' (b+o1.length) x.2 o2 hl.2 h2 hn.right (λt'=>by
   by_cases e:t'=t
   .subst e;rw[Bh];exact k1
   .rw[BE _ _ e];exact hT t')
  refine⟨j1,by rw[j2];simp[DE], ?_⟩;rw[Aw];exact k3.trans j3
def R1.c8{tm:Nat->Value}{c:AV}{v:Value}(h:R1 w β c v):RT w β tm c v:= .HX<|.HY h
def St.join(hst:St B β stk s a w){c:Sch}{x:Lv c}(hx:rdS c s=I x):stk=[]/\ ∃β',St B β' [] (mkS s.n s.pins c x) a w/\Fr (mkS s.n s.pins c x)/\(mkS s.n s.pins c x).n=s.n/\(mkS s.n s.pins c x).pins=s.pins:=by
 unfold rdS at hx;split at hx
 .rename_i hs hnd hok;have Rs:stk=[]:=by
   have:=hst.stack.1;rw[hs]at this;exact Dz this
  refine⟨Rs, ?_⟩;simp only[AD]at hnd;simp only[abW,AD]at hok;have R:Nr B β s.H w (MO B<|B0<|(Oe s.H s.T c).filterMap β) s.T (Bc a):={
   hs:=hst.hs
   hM:=λb hb=>abN hst.hs hb
   hE:=λt id z e=>(hst.T t).Mc (by rw[e];simp) (by rw[e];simp) }
  obtain⟨os,h1,h2⟩:=aDB R hst.T c x hx<|oW hst.hs hnd.2;have bk:(B0 os).Nodup:=by rw[h2];exact YE hst.hs<|Xq hnd.1
  have hMB:∀b∈B0 os,MB β b:=λb hb=>by rw[h2]at hb;exact Tl hb
  obtain⟨k1,k2,k3⟩:=aER (β:=Hn B.Z os) (P:=B.P) (w:=w) (M:=MO B<|B0<|(Oe s.H s.T c).filterMap β) (tm:=Bc a) (λb hb=>by have:=pO hb;rw[h2]at this;exact this) c (λ_=> .un) (λ_=>G) 0 x os hok.1.2 h1 (nB B.Z os) (λ_=>trivial);have un:mkS s.n s.pins c x=(match M3 (λ_=> .un) (λ_=>G) 0 c x with
   | (T,H,b)=>{ n:=s.n,T:=T,H:=H,nid:=b,st:=[],pins:=s.pins,gs:=λ_=>A0 }):=rfl
  rw[un];generalize M3 (λ_=> .un) (λ_=>G) 0 c x=r at *;obtain⟨T,H',b⟩:=r;simp only at k1 k2 k3;have hH:=hst.hs.azh bk hMB k3;refine⟨Hn B.Z os,⟨λt=>(k1 t).c8,⟨rfl,λi T' tm h=>by simp at h⟩,hst.n,hst.defers,hst.pins,λt g want y hy=> ?_,hH⟩,λj hj=> ?_,rfl,rfl⟩
  .have:=k1 t;have hy:T t= .gd g want y:=hy;rw[hy]at this;exact this.elim
  .exact k3.1 j (.inr (by have hj:b<=j:=hj;omega))
 .cases hx
end
end Go.VS
namespace Go.VS
open Go
structure KOK {Ω:Type} (B:Be) (stk:List (Array Value)) (n:Nat) (pins:List Nat) (k:Kt Ω) (q:Ω) (Q:Exit->Act->World->Prop):Prop where
 nrm:∀β a w s,St B β stk s a w->Fr s->s.n=n->s.pins=pins->k.nrm s=I q->Q .normal a w
 ret:∀β a w s,St B β stk s a w->Fr s->s.n=n->s.pins=pins->k.ret s=I q->Q .ret a w
 ext:∀id β a w s,St B β stk s a w->Fr s->s.n=n->s.pins=pins->k.ext id s=I q->Q (.exit id) a w
def N3(B:Be)(n:Nat)(pins:List Nat)(body:Code)(l:Loop):Prop:=∀(x:Lv l.sch) (r:Lv l.KX ⊕ Lv l.KY),l.run x=I r->∀(β:Beta) (a:Act) (w:World) (Q:Exit->Act->World->Prop),
 St B β [] (mkS n pins l.sch x) a w->Fr (mkS n pins l.sch x)->
 (∀y,r= .inl y->∀β a w,St B β [] (mkS n pins l.KX y) a w->Fr (mkS n pins l.KX y)->Q .ret a w)->
 (∀y,r= .inr y->∀β a w,St B β [] (mkS n pins l.KY y) a w->Fr (mkS n pins l.KY y)->Q (.exit l.xid) a w)->(Code.loop body).wp B.P Q a w
def Hk(L:Code->Loop->Prop):Code->Adv->Prop
 | .seq a b,.join _ u v=>Hk L a u/\Hk L b v
 | .seq a b,v=>Hk L a v.a/\Hk L b v.z
 | .cond _ x y,v=>Hk L x v.a/\Hk L y v.z
 | .block _ c,v=>Hk L c v.a
 | .loop c,.loop l=>L c l
 | _,_=>True
def GF(L:Code->Loop->Prop):∀c:Code,Hk L c .nil
 | .seq a b=>⟨GF L a,GF L b⟩
 | .cond _ x y=>⟨GF L x,GF L y⟩
 | .block _ c=>GF L c
 | .skip=>trivial
 | .region _ _ _=>trivial
 | .loop _=>trivial
 | .exit _=>trivial
 | .ret=>trivial
 | .rangeFunc _ _ _ _=>trivial
 | .scope _=>trivial
 | .label _=>trivial
 | .goto _=>trivial
 | .refuse _=>trivial
section
variable {C:Cx} {B:Be} {inl:(Ω:Type)->Inl Ω}
def YL(hP:C.P=B.P)(hm:B.P.follows .mixedOrders=Y)(hC:Hd C B)(hI:JL C B inl):∀(c:Code) {Ω:Type} (v:Adv) (k:Kt Ω) (s:S) (q:Ω) {β:Beta} {stk:List (Array Value)} {a:Act} {w:World} {Q:Exit->Act->World->Prop},
  evk C inl c Ω v k s=I q->St B β stk s a w->Fr s->Hk (N3 B s.n s.pins) c v->KOK B stk s.n s.pins k q Q->c.wp B.P Q a w:=by
 intro c
 induction c with
 | skip=>exact λv k s q β stk a w Q he hst hfr _ hk=>wp_skip<|hk.nrm _ _ _ _ hst hfr rfl rfl he
 | region id ops draw=>
  intro Ω v k s q β stk a w Q he hst hfr _ hk;cases draw with
  | false=>exact aDI hP hC hI (show PJ C (inl Ω) ops ops.toList s k.nrm=I q from he) hfr hst λβ a w s' h1 h2 h3 h4 h5=>hk.nrm β a w s' h1 h2 h3 h4 h5
  | true=>
   obtain⟨β1,hs1,_⟩:=St.LN (Ra C ops s) hst;have hk1:=BH.LN (N:=λ_=>False) (Ra C ops s)<|BH.refl _ s;have he:evD C ops ((Ra C ops s).foldl S.freeze s) ops.toList 0 s.nid [] ((Ra C ops s).foldl S.freeze s) k.nrm=I q:=he;rw[← hk1.nid]at he;exact atD hP hm hC he (λj hj=>hk1.nn j (λh=>h)<|hfr j (by rw[hk1.nid]at hj;exact hj)) hs1 λβ a w s' h1 h2 h3 h4 h5=>hk.nrm β a w s' h1 h2 (h3.trans hk1.n) (h4.trans hk1.pins) h5
 | seq x y ihx ihy=>
  intro Ω v k s q β stk a w Q he hst hfr Ge hk;refine wp_seq ?_;by_cases hj:∃c u v',v= .join c u v'
  .obtain⟨c,u,v',rfl⟩:=hj;obtain⟨ha1,ha2⟩:=Ge;have he:BT (λx=>evk C inl y Ω v' k<|mkS s.n s.pins c x) (evk C inl x (Ω ⊕ Lv c) u { nrm:=λs=>(rdS c s).bind λx=>I<|.inr x,ret:=λs=>(k.ret s).bind λo=>I<|.inl o,ext:=λj s=>(k.ext j s).bind λo=>I (.inl o) } s)=I q:=he;obtain⟨r,h1,h2⟩:=Ai.1 he;refine ihx u _ s r h1 hst hfr ha1 ⟨?_, ?_, ?_⟩
   .intro β' a' w' s' k1 k2 k3 k4 k5;obtain⟨z,j1,j2⟩:=Ai.1 k5;cases j2;obtain⟨rfl,β2,m1,m2,m3,m4⟩:=k1.join j1;rw[k3,k4]at m1 m2 m3 m4;exact ihy v' k _ q h2 m1 m2 (by rw[m3,m4];exact ha2) (by rw[m3,m4];exact hk)
   .intro β' a' w' s' k1 k2 k3 k4 k5;obtain⟨o,j1,j2⟩:=Ai.1 k5;cases j2;have h2:I o=I q:=h2;cases h2;exact hk.ret _ _ _ _ k1 k2 k3 k4 j1
   .intro id β' a' w' s' k1 k2 k3 k4 k5;obtain⟨o,j1,j2⟩:=Ai.1 k5;cases j2;have h2:I o=I q:=h2;cases h2;exact hk.ext id _ _ _ _ k1 k2 k3 k4 j1
  .have he:evk C inl x Ω v.a { k with nrm:=evk C inl y Ω v.z k } s=I q:=by
    cases v<;>first|exact he|exact absurd ⟨_,_,_,rfl⟩ hj
   have Ge:Hk (N3 B s.n s.pins) x v.a/\Hk (N3 B s.n s.pins) y v.z:=by
    cases v<;>first|exact Ge|exact absurd ⟨_,_,_,rfl⟩ hj
   refine ihx v.a _ s q he hst hfr Ge.1 ⟨?_,hk.ret,hk.ext⟩;intro β' a' w' s' k1 k2 k3 k4 k5;exact ihy v.z k s' q k5 k1 k2 (by rw[k3,k4];exact Ge.2) (by rw[k3,k4];exact hk)
 | cond o x y ihx ihy=>
  intro Ω v k s q β stk a w Q he hst hfr Ge hk;have he:(match s.ev o with
   | .lit (.bool b)=>if b then evk C inl x Ω v.a k s else evk C inl y Ω v.z k s
   | _=>G)=I q:=he
  split at he
  .rename_i b hb;have h1:=hst.eval o;rw[hb]at h1;have h2:a.eval o= .bool b:=h1;refine wp_cond h2 ?_;cases b with
   | true=>exact ihx v.a k s q he hst hfr Ge.1 hk
   | false=>exact ihy v.z k s q he hst hfr Ge.2 hk
  .cases he
 | block id x ihx=>
  intro Ω v k s q β stk a w Q he hst hfr Ge hk;refine wp_block ?_;have he:evk C inl x Ω v.a { k with ext:=λj s=>match Ah j id with
   | true=>k.nrm s
   | false=>k.ext j s } s=I q:=he
  refine ihx v.a _ s q he hst hfr Ge ⟨hk.nrm,hk.ret, ?_⟩;intro j β' a' w' s' k1 k2 k3 k4 k5;show if j=id then Q .normal a' w' else Q (.exit j) a' w'
  simp only at k5;split at k5
  .rename_i e;rw[A5<|Bn e];exact hk.nrm _ _ _ _ k1 k2 k3 k4 k5
  .rename_i e;rw[A9<|TF e];exact hk.ext _ _ _ _ _ k1 k2 k3 k4 k5
 | loop body _=>
  intro Ω v k s q β stk a w Q he hst hfr Ge hk;cases v<;>first|(cases he;done)|skip
  rename_i l;have he:((rdS l.sch s).bind λx=>AN (l.run x) (λy=>k.ret<|mkS s.n s.pins l.KX y) λy=>k.ext l.xid (mkS s.n s.pins l.KY y))=I q:=he;obtain⟨x,h1,h2⟩:=Ai.1 he;obtain⟨r,h3,h4⟩:=Ai.1 h2;obtain⟨rfl,β',m1,m2,_,_⟩:=hst.join h1;have Ge:N3 B s.n s.pins body l:=Ge;refine Ge x r h3 β' a w Q m1 m2 ?_ ?_
  .rintro y rfl β a w k1 k2;exact hk.ret _ _ _ _ k1 k2 (by unfold mkS;rfl) (by unfold mkS;rfl) h4
  .rintro y rfl β a w k1 k2;exact hk.ext _ _ _ _ _ k1 k2 (by unfold mkS;rfl) (by unfold mkS;rfl) h4
 | exit id=>exact λv k s q β stk a w Q he hst hfr _ hk=>wp_exit<|hk.ext _ _ _ _ _ hst hfr rfl rfl he
 | ret=>exact λv k s q β stk a w Q he hst hfr _ hk=>wp_ret<|hk.ret _ _ _ _ hst hfr rfl rfl he
 | _=>
  intro Ω v k s q β stk a w Q he;cases he
def lJ(p:Nat->Prop)(h:∃n,p n):∃n,p n/\ ∀m,p m->n<=m:=by
 obtain⟨n,hn⟩:=h
 induction n using Nat.strongRecOn with
 | _ n ih=>
  by_cases hm:∃m,m<n/\p m
  .obtain⟨m,h1,h2⟩:=hm;exact ih m h1 h2
  .exact⟨n,hn,λm h=>Nat.le_of_not_lt λhlt=>hm ⟨m,hlt,h⟩⟩
def aFp{X HI:Type}{b:X->Option (X ⊕ HI)}{x:X}{y:HI}(h:AT b x=I y):∃n,Hj b n x=I y:=by
 unfold AT at h;split at h
 .rename_i hn;have:=Iv<|Iv hn;cases h;exact⟨_,this⟩
 .cases h
def lR{X HI:Type}{b:X->Option (X ⊕ HI)}:∀(n:Nat) (x:X) {y:HI},Hj b n x=I y->∀m,n<=m->Hj b m x=I y
 | 0,x,y,h=>by cases h
 | n+1,x,y,h=>by
  intro m hm;obtain⟨m,rfl⟩:∃k,m=k+1:=⟨m - 1,J⟩;obtain⟨r,h1,h2⟩:=Ai.1 (show((b x).bind λr=>match r with
   | .inl y=>Hj b n y
   | .inr z=>I z)=I y from h)
  show((b x).bind λr=>match r with
   | .inl y=>Hj b m y
   | .inr z=>I z)=I y
  rw[h1,A6];cases r with
  | inl z=>exact lR n z h2 m J
  | inr z=>exact h2
def aEO{X HI:Type}{b:X->Option (X ⊕ HI)}{x:X}{y:HI}{n:Nat}(h:Hj b n x=I y):AT b x=I y:=by
 have hn:∃n y,Hj b n x=I y:=⟨n,y,h⟩;unfold AT;rw[dif_pos hn];have h1:=Iv<|Iv hn;have h2:=lR _ _ h (n+NH hn) J;have h3:=lR _ _ h1 (n+NH hn) J;rw[h2]at h3;exact h3.symm
def arj{X HI:Type}{b:X->Option (X ⊕ HI)}{n:Nat}{x:X}{y:HI}(h:Hj b (n+1) x=I y):∃r,b x=I r/\(∀x',r= .inl x'->Hj b n x'=I y)/\(∀z,r= .inr z->z=y):=by
 obtain⟨r,h1,h2⟩:=Ai.1 (show((b x).bind λr=>match r with
   | .inl y=>Hj b n y
   | .inr z=>I z)=I y from h)
 refine⟨r,h1, ?_, ?_⟩
 .rintro x' rfl;exact h2
 .rintro z rfl;exact Dc h2
def axV(hP:C.P=B.P)(hm:B.P.follows .mixedOrders=Y)(hC:Hd C B)(hI:JL C B inl){n:Nat}{pins:List Nat}{body:Code}{v:Adv}{l:Loop}{b:Lv l.sch->Option (Lv l.sch ⊕ (Lv l.KX ⊕ Lv l.KY))}
  (hb:∀x,evL C inl n pins body v l x=b x)(hr:l.run=AT b)(Ge:Hk (N3 B n pins) body v):N3 B n pins body l:=by
 intro x r Ci β a w Q hst hfr IX amt;rw[hr]at Ci;obtain⟨N,hN⟩:=aFp Ci
 let Sv:Nat->Act->World->Prop:=λm a w=>∃(x:Lv l.sch) (β:Beta),Hj b m x=I r/\St B β [] (mkS n pins l.sch x) a w/\Fr (mkS n pins l.sch x)
 classical
 let μ:Act->World->Nat:=λa w=>if h:∃m,Sv m a w then NH (lJ _ h) else 0
 have hμ:∀a w,(h:∃m,Sv m a w)->Sv (μ a w) a w/\ ∀m,Sv m a w->μ a w<=m:=λa w h=>by
  have:=Iv<|lJ _ h;simp only[μ,dif_pos h];exact this
 refine wp_loop (λa w=>∃m,Sv m a w) μ ⟨N,x,β,hN,hst,hfr⟩ ?_;intro a w hJ;obtain⟨⟨x,β,h1,h2,h3⟩,_⟩:=hμ a w hJ;generalize hm':μ a w=m at h1;cases m with
 | zero=>cases h1
 | succ m=>
  obtain⟨r1,k1,k2,k2'⟩:=arj h1;have he:=hb x;rw[k1]at he;unfold evL at he;have en:(mkS n pins l.sch x).n=n:=by unfold mkS;rfl
  have ep:(mkS n pins l.sch x).pins=pins:=by unfold mkS;rfl
  refine YL hP hm hC hI body v _ _ r1 he h2 h3 (by rw[en,ep];exact Ge) ?_;rw[en,ep];refine⟨?_, ?_, ?_⟩
  .intro β' a' w' s' j1 j2 j3 j4 j5;obtain⟨y,i1,i2⟩:=Ai.1 j5;cases i2;obtain⟨_,β2,m1,m2,_,_⟩:=j1.join i1;rw[j3,j4]at m1 m2;have hJ':Sv m a' w':=⟨y,β2,k2 y rfl,m1,m2⟩;refine⟨⟨m,hJ'⟩, ?_⟩;have:=(hμ a' w' ⟨m,hJ'⟩).2 m hJ';omega
  .intro β' a' w' s' j1 j2 j3 j4 j5;obtain⟨y,i1,i2⟩:=Ai.1 j5;cases i2;obtain⟨_,β2,m1,m2,_,_⟩:=j1.join i1;rw[j3,j4]at m1 m2;have k2:=k2' _ rfl;subst k2;exact IX y rfl _ _ _ m1 m2
  .intro id β' a' w' s' j1 j2 j3 j4 j5;simp only at j5;split at j5
   .rename_i hid;obtain rfl:=Bn hid;obtain⟨y,i1,i2⟩:=Ai.1 j5;cases i2;obtain⟨_,β2,m1,m2,_,_⟩:=j1.join i1;rw[j3,j4]at m1 m2;have k2:=k2' _ rfl;subst k2;exact amt y rfl _ _ _ m1 m2
   .cases j5
end
end Go.VS
namespace Go.VS
open Go
def MS:List Value->Value
 | [v]=>v
 | vs=> .tuple vs.toArray
def Jw:List Sh->List Value->List Value
 | .box _ _::ps,v::vs=>v::Jw ps vs
 | _::ps,_::vs=>Jw ps vs
 | _,_=>[]
def M6(P:Program)(f:FuncId):Prop:=∀(args:Array Value) (w:World),(callFunc f args).run P w= .ok (.enter f args) w
def OP{P:Program}{f:FuncId}{fn:Func}{c:Code}(hf:P.funcs[f]? =I fn)(KS:(fn.name == "runtime.NumGoroutine")=A0)(hb:fn.body=I c):M6 P f:=by
 intro args w;have qT:¬fn.name= "runtime.NumGoroutine" :=by simpa using KS
 simp[callFunc,hf,qT,hb]
abbrev ar(args:List Value):Nat->Value:=λi=>args.getD i undef
structure Ret (P:Program) (m:DX) (Z:Nat->Prop) (args:List Value) (os:List (Value×Nat)) (w:World) (r:LTs m.rs×LTs (B3 m.ps)) (v:Value) (w':World):Prop where
 ex:∃vs os1 os2,v=MS vs/\Cj P w' (λb=>b∈B0 (os1++os2)\/Z b) (ar args) m.rs r.1 vs os1/\Cj P w' (λb=>b∈B0 (os1++os2)\/Z b) (ar args) (B3 m.ps) r.2 (Jw m.ps args) os2/\
  (B0<|os1++os2).Nodup/\(∀b∈B0 (os1++os2),(b∈B0 os\/w.heap.size<=b)/\b<w'.heap.size)
 wos:w'.os=w.os
 tape:w'.tape=w.tape
 output:w'.output=w.output
 size:w.heap.size<=w'.heap.size
 block:∀b,b<w.heap.size->b ∉ B0 os->w'.heap[b]? =w.heap[b]?
 pk:Pk P w w'
def HH(P:Program)(f:FuncId)(m:DX):Prop:=M6 P f/\ ∀(x:LTs m.ps) (r:LTs m.rs×LTs (B3 m.ps)),m.g x=I r->∀(w:World) (Z:Nat->Prop) (args:List Value) (os:List (Value×Nat)),
 Cj P w (λb=>b∈B0 os\/Z b) (ar args) m.ps x args os->(B0 os).Nodup->(∀b∈B0 os,b<w.heap.size/\ ¬Z b)->(∀b,Z b->b<w.heap.size)->Nb P w (λb=>b∈B0 os)->
 Calls P f args.toArray w λen w'=>∃v,en= .returned v/\Ret P m Z args os w r v w'
section
variable {C:Cx} {B:Be} {β:Beta} {H:Hp} {w w':World} {M:Nat->Prop} {stk:List (Array Value)} {s s':S} {a:Act} {P:Program} {e e':Nat->Value}
mutual
theorem Rel.congr:∀(h:Sh) (x:LT h) (v:Value) (os:List (Value×Nat)),(∀t∈M9 h,e t=e' t)->Rel P w M e h x v os->Rel P w M e' h x v os
 | .int _,_,_,_,_,h=>h
 | .bool,_,_,_,_,h=>h
 | .str,_,_,_,_,h=>h
 | .sl _,_,_,_,_,h=>h
 | .fz _,_,_,_,_,h=>h
 | .row _ _,_,_,_,_,h=>h
 | .Ch _ _,_,_,_,_,h=>h
 | .abx _ _,_,_,_,_,h=>h
 | .arr _,_,_,_,_,h=>h
 | .same t,_,_,_,he,h=>⟨h.1,h.2.1.trans<|he t<|by simp[M9],h.2.2⟩
 | .agg l,x,v,os,he,h=>by
  obtain⟨us,h1,h2⟩:=h;exact⟨us,h1,Cj.congr l x us os he h2⟩
 | .box t l,x,v,os,he,h=>by
  obtain⟨b,us,os',h1,h2,h3,h4⟩:=h;exact⟨b,us,os',h1,h2,Cj.congr l x us.toList os' he h3,h4⟩
theorem Cj.congr:∀(l:List Sh) (x:LTs l) (us:List Value) (os:List (Value×Nat)),(∀t∈Il l,e t=e' t)->Cj P w M e l x us os->Cj P w M e' l x us os
 | [],_,_,_,_,h=>h
 | h::l,x,us,os,he,hr=>by
  obtain⟨u,us',o1,o2,h1,h2,h3,h4⟩:=hr;exact⟨u,us',o1,o2,h1,h2,Rel.congr h x.1 u o1 (λt ht=>he t<|Bv _ ht) h3,Cj.congr l x.2 us' o2 (λt ht=>he t<|CV _ ht) h4⟩
end
def Cj.length:∀ {l:List Sh} {x:LTs l} {us:List Value} {os:List (Value×Nat)},Cj P w M e l x us os->us.length=l.length
 | [],_,_,_,h=>by rw[h.1];rfl
 | h::l,x,us,os,hr=>by
  obtain⟨u,us',o1,o2,rfl,_,_,h4⟩:=hr;simp[Cj.length h4]
def aCV{E:Nat->AV}:∀ {l:List Sh} {cs:List AV} {x:LTs l},GK E H l cs=I x->cs.length=l.length
 | [],[],_,_=>rfl
 | [],_::_,_,h=>by cases h
 | _::_,[],_,h=>by cases h
 | h::l,c::cs,x,hx=>by
  obtain⟨x1,e1,hx⟩:=Ai.1 hx;obtain⟨x2,e2,hx⟩:=Ai.1 hx;simp[aCV e2]
def aCn:∀ {l l':List Sh} {cs cs':List AV},cs.length=l.length->Bm H (l++l') (cs++cs')=Bm H l cs++Bm H l' cs'
 | [],l',[],cs',_=>rfl
 | h::l,l',c::cs,cs',hl=>by
  simp only[LB,Bm,aCn (l:=l) (cs:=cs)<|by simpa using hl,C5]
 | [],_,_::_,_,hl=>by simp at hl
 | _::_,_,[],_,hl=>by simp at hl
def aCX:∀ {l l':List Sh} {cs cs':List AV},cs.length=l.length->Cv H (l++l') (cs++cs')=Cv H l cs++Cv H l' cs'
 | [],l',[],cs',_=>rfl
 | h::l,l',c::cs,cs',hl=>by
  simp only[LB,Cv,aCX (l:=l) (cs:=cs)<|by simpa using hl,C5]
 | [],_,_::_,_,hl=>by simp at hl
 | _::_,_,[],_,hl=>by simp at hl
def Tt(tmps:Array Value):ResultVar->Sem Value
 | .tmp t=>pure (tmps.getD t undef)
 | .cell a t=>do loadVar t (← asAddr<|tmps.getD a undef)
def Yz(hP:P=B.P)(hst:St B β stk s a w):∀(l:List ResultVar) {vs:List AV},Qe P s l=I vs->
  ∃us:List Value,(l.mapM<|Tt a.tmps).run P w=Result.ok us w/\us.length=vs.length/\ ∀(i:Nat) (c:AV) (u:Value),vs[i]? =I c->us[i]? =I u->RX w β (Bc a) c u
 | [],vs,h=>by
  cases h;exact⟨[],rfl,rfl,λi c u h=>by simp at h⟩
 | .tmp t::l,vs,h=>by
  obtain⟨vs',h1,h⟩:=Ai.1 h;cases h;obtain⟨us,k1,k2,k3⟩:=Yz hP hst l h1;refine⟨Bc a t::us, ?_,by simp[k2],λi c u h1 h2=> ?_⟩
  .simp only[U9,Tt,En,Fp,F7,k1];rfl
  .cases i with
   | zero=>
    simp at h1 h2;subst h1;subst h2;exact(hst.T t).bz
   | succ i=>exact k3 i c u (by simpa using h1)<|by simpa using h2
 | .cell x t::l,vs,h=>by
  obtain⟨v,h0,h⟩:=Ai.1 h;obtain⟨vs',h1,h⟩:=Ai.1 h;cases h;obtain⟨us,k1,k2,k3⟩:=Yz hP hst l h1;have hx:R2 w β (s.T x) (Bc a x):=(hst.T x).c9 (by
   cases hT:s.T x<;>first|rfl|(rw[hT]at h0;cases h0))
  obtain⟨u,j1,j2⟩:=aF0 hP hst.hs hx h0;have amc:∃ad,Bc a x= .pointer (I ad):=by
   cases hT:s.T x<;>rw[hT]at h0 hx<;>first|(cases h0;done)|skip
   .rename_i id z i o;have hx:RC w β (.ptr id z i o) (Bc a x):=hx;generalize Bc a x=y at hx;cases hx;exact⟨_,rfl⟩
   .rename_i k xx o;have hx:RC w β (.ipt k xx o) (Bc a x):=hx;generalize Bc a x=y at hx;cases hx;exact⟨_,rfl⟩
  obtain⟨ad,had⟩:=amc;have amy:a.tmps.getD x undef= .pointer (I ad):=had;rw[had]at j1;refine⟨u::us, ?_,by simp[k2],λi c u' h1 h2=> ?_⟩
  .have j1':(loadVar t ad).run P w= .ok u w:=by simpa[NB,Ja] using j1
   simp only[U9,Tt,amy,asAddr,En,Fp,F7,j1',k1]
  .cases i with
   | zero=>
    simp at h1 h2;subst h1;subst h2;exact(RT.HX<|R2.HY j2).bz
   | succ i=>exact k3 i c u' (by simpa using h1)<|by simpa using h2
def aD9{fn:Func}{us:List Value}(h:(fn.results.toList.mapM<|Tt a.tmps).run P w=Result.ok us w):(results fn a.tmps).run P w= .ok (MS us) w:=by
 have e1:results fn a.tmps=(do
   let vs ← fn.results.mapM (Tt a.tmps)
   pure (if h:vs.size=1 then vs[0] else .tuple vs)):=rfl
 rw[e1,Array.mapM_eq_mapM_toList,map_eq_pure_bind];simp only[bind_assoc,pure_bind,En,h,F7,Fp]
 match us with
 | []=>rfl
 | [u]=>rfl
 | u::v::l=>simp[MS]
end
end Go.VS
namespace Go.VS
open Go
def okM(m:DX)(n:Nat):Bool:=K4 m.ps&&K4 m.rs&&E3 m.ps.length n&&(Il m.rs++Il (B3 m.ps)).all λt=>(E5 0 m.ps).any λp=>Ah p t
section
variable {C:Cx} {B:Be} {β:Beta} {H:Hp} {w w':World} {M:Nat->Prop} {stk:List (Array Value)} {s s':S} {a:Act} {P:Program} {e e':Nat->Value} {inl:(Ω:Type)->Inl Ω}
def XH{E:Nat->AV}:∀ {l:List Sh} {cs:List AV} {x:LTs l},GK E H l cs=I x->∀c∈cs,(∀g w v,c≠ .gd g w v)/\ ∀vs,c≠ .tup vs
 | [],[],_,_,c,hc=>by cases hc
 | [],_::_,_,h,_,_=>by cases h
 | _::_,[],_,h,_,_=>by cases h
 | h::l,d::cs,x,hx,c,hc=>by
  obtain⟨x1,e1,hx⟩:=Ai.1 hx;obtain⟨x2,e2,hx⟩:=Ai.1 hx;obtain rfl|hc:=Bl.1 hc
  .exact aDR e1
  .exact XH e2 c hc
def RX.Mc{tm:Nat->Value}{c:AV}{v:Value}(h:RX w β tm c v)(h1:∀g w v,c≠ .gd g w v)(h2:∀vs,c≠ .tup vs):R1 w β c v:=by
 have:=h.of h1;cases c<;>first|exact this|exact absurd rfl (h2 _)
def aCv(args:List Value):∀(ps:List Sh) (k:Nat),args.length=k+ps.length->Jw ps (args.drop k)=(E5 k ps).map (ar args)
 | [],k,h=>by
  have:args.drop k=[]:=MN (by simp at h;omega);rw[this];rfl
 | p::ps,k,h=>by
  have hk:k<args.length:=by simp at h;omega
  rw[Tz hk];have ih:=aCv args ps (k+1) (by simp at h ⊢; omega);have nM:ar args k=args[k]:=by simp[ar,hk]
  cases p<;>simp only[Jw,E5,Uc,DU,ih,nM]
def Sx(args:List Value)(n t:Nat):Bc { tmps:=args.toArray++R9 (n - args.toArray.size) undef,defers:=[] } t=ar args t:=by
 simp only[Bc,ar,Ty,BA];by_cases h:t<args.length
 .rw[MH<|by simpa using h];simp
 .rw[Array.getElem?_append_right<|by simpa using h,Ht J];cases hr:(R9 (n - args.toArray.size) undef)[t - args.toArray.size]? with
  | none=>rfl
  | some v=>
   rw[Array.getElem?_replicate]at hr;split at hr
   .cases hr;rfl
   .cases hr
def ZV{fn:Func}{m:DX}{r:LTs m.rs×LTs (B3 m.ps)}{args:List Value}{os:List (Value×Nat)}(hst:St B β stk s a w)(hO:B.O=λb=>b∈B0 os)(htm:B.tm0=ar args)(hlen:args.length=m.ps.length)(hp:s.pins=E5 0 m.ps)
  {n:Nat}(hok:okM m n=Y)(hf:fin B.P fn m s=I r):∃v,(results fn a.tmps).run B.P w= .ok v w/\Ret B.P m B.Z args os B.w0 r v w:=by
 unfold fin at hf;obtain⟨vs,h1,hf⟩:=Ai.1 hf;split at hf
 .rename_i hnd;simp only[AD]at hnd;obtain⟨r1,h2,hf⟩:=Ai.1 hf;obtain⟨q,h3,hf⟩:=Ai.1 hf;cases hf;obtain⟨us,k1,k2,k3⟩:=Yz rfl hst fn.results.toList h1;have hl1:=aCV h2;rw[aCn hl1,aCX hl1]at hnd;generalize alN:Bm s.H m.rs vs=NV at hnd;generalize alM:Bm s.H (B3 m.ps) ((E5 0 m.ps).map s.T)=NU at hnd;have R:Nr B β s.H w (MO B<|B0<|(NV++NU).filterMap β) s.T (Bc a):={
   hs:=hst.hs
   hM:=λb hb=>abN hst.hs hb
   hE:=λt id z e=>(hst.T t).Mc (by rw[e];simp) (by rw[e];simp) }
  have hfz:=oW hst.hs hnd.2;have rl1:RL (R1 w β) vs us:=⟨k2,λj c u e1 e2=>(k3 j c u e1 e2).Mc (XH h2 c<|Cn e1).1 (XH h2 c<|Cn e1).2⟩;have rl2:RL (R1 w β) ((E5 0 m.ps).map s.T) ((E5 0 m.ps).map<|Bc a):=⟨by simp,λj c u e1 e2=>by
   obtain⟨h5,h6⟩:=XH h3 c<|Cn e1;rw[DD]at e1 e2;obtain⟨t,ht,rfl⟩:=DB.1 e1;obtain⟨t',ht',rfl⟩:=DB.1 e2;rw[ht]at ht';cases ht';exact(hst.T t).Mc h5 h6⟩
  obtain⟨os1,j1,j2⟩:=Xp R m.rs vs us r1 rl1 h2 (λi hi=>hfz i<|Bv _ hi);obtain⟨os2,j3,j4⟩:=Xp R (B3 m.ps) _ _ q rl2 h3 (λi hi=>hfz i<|CV _ hi);rw[alN]at j2;rw[alM]at j4;have GA:B0 (os1++os2)=B0 ((NV++NU).filterMap β):=by
   simp only[B0,MJ]at j2 j4 ⊢;rw[j2,j4]
  have nU:MO B (B0<|(NV++NU).filterMap β)=λb=>b∈B0 (os1++os2)\/B.Z b:=by rw[GA]
  rw[nU]at j1 j3;have aE3:∀t∈E5 0 m.ps,Bc a t=ar args t:=λt ht=>by rw[hst.pins t (by rw[hp];exact ht),htm]
  simp only[okM,AD,Cy,HR]at hok;have H4:∀t∈Il m.rs++Il (B3 m.ps),Bc a t=ar args t:=λt ht=>by
   obtain⟨p,hp1,hp2⟩:=hok.2 t ht;rw[← Bn hp2];exact aE3 p hp1
  refine⟨MS us,aD9 k1,⟨us,os1,os2,rfl,Cj.congr _ _ _ _ (λt ht=>H4 t<|Bv _ ht) j1, ?_, ?_, ?_⟩,hst.hs.os,hst.hs.tape,hst.hs.output,hst.hs.size, ?_,hst.hs.pk⟩
  .have e1:Jw m.ps args=(E5 0 m.ps).map (Bc a):=by
    have:=aCv args m.ps 0 J;rw[Iu]at this;rw[this];exact Gt λt ht=>(aE3 t ht).symm
   rw[e1];exact Cj.congr _ _ _ _ (λt ht=>H4 t<|CV _ ht) j3
  .rw[GA];exact YE hst.hs (Xq hnd.1)
  .intro b hb;rw[GA]at hb;have:=hst.hs.old b<|Tl hb;rw[hO]at this;exact this
  .intro b hb hn;have:=hst.hs.block b hb;rw[hO]at this;exact this hn
 .cases hf
def au5{P:Program}(hP:C.P=P)(hm:P.follows .mixedOrders=Y)(hC:∀B:Be,B.P=P->Hd C B)(hI:∀B:Be,B.P=P->JL C B inl){f:FuncId}{fn:Func}{body:Code}(hf:P.funcs[f]? =I fn)(KS:(fn.name == "runtime.NumGoroutine")=A0)
  (hb:fn.body=I body){v:Adv}{m:DX}(hok:okM m fn.ntmps=Y)(Ge:∀B:Be,B.P=P->Hk (N3 B fn.ntmps<|E5 0 m.ps) body v)(hg:∀x,bE C inl fn v m x=m.g x):HH P f m:=by
 refine⟨OP hf KS hb,λx r hx w Z args os hr hnd hbl hZ hgl=> ?_⟩;rw[← hg]at hx;unfold bE at hx;rw[hb]at hx;simp only[evF]at hx;have V5:=hok;simp only[okM,AD]at V5;obtain⟨⟨⟨hps,hrs⟩,hn⟩,_⟩:=V5;have hn:=Db hn;have hlen:=hr.length
 let B:Be:={ P:=P,w0:=w,O:=λb=>b∈B0 os,tm0:=ar args,Z:=Z,gl:=hgl }
 have Ru:Num (Hn Z os) 0 os:=nB Z os;obtain⟨k1,k2,k3⟩:=Yt (β:=Hn Z os) (E:=λ_=> .un) (M:=λb=>b∈B0 os\/Z b) (P:=P) (w:=w) (e:=ar args) (λb hb=>pO (B:=B) hb) m.ps (λ_=>G) 0 x args os hps hr Ru (λt _=>trivial);have hi:RY fn.ntmps m.ps x=(match Ak (λ_=> .un) (λ_=>G) 0 m.ps x with
  | (vs,H,b)=>{ n:=fn.ntmps,T:=λt=>(vs[t]?).getD Dr,H:=H,nid:=b,st:=[],pins:=E5 0 m.ps,gs:=λ_=>A0 }):=rfl
 rw[hi]at hx;generalize Ak (λ_=> .un) (λ_=>G) 0 m.ps x=q at *;obtain⟨vs,H,b⟩:=q;simp only at hx k1 k2 k3;have hH:Hs B (Hn Z os) H w:={
  EM:=λid ob ho=>by
   by_cases h:id<os.length
   .obtain⟨ob',h1,h2⟩:=k3.2 id (D5 _) J;rw[h1]at ho;cases ho;exact h2
   .rw[k3.1 id J]at ho;cases ho
  dom:=λid p hp=>by
   have h:id<os.length:=(BO.1<|show os[id]? =I p from hp).1;obtain⟨ob',h1,_⟩:=k3.2 id (D5 _) J;exact⟨ob',h1⟩
  inj:=λi j p q a a' hi hj=>Yr hnd i j p q a a' hi hj
  old:=λb hb=>⟨.inl<|N1 hb,(hbl b<|N1 hb).1⟩
  os:=rfl
  tape:=rfl
  output:=rfl
  size:=Au _
  block:=λ_ _ _=>rfl
  z:=rfl
  zn:=λid p a hp ha=>(hbl _<|N1 (Z:=Z) ⟨id,p.1,p.2,a,hp,ha,rfl⟩).2
  zl:=hZ
  pk:=Pk.refl _ _ }
 refine calls_of_wp hf hb ?_;have hst:St B (Hn Z os) [] { n:=fn.ntmps,T:=λt=>(vs[t]?).getD Dr,H:=H,nid:=b,st:=[],pins:=E5 0 m.ps,gs:=λ_=>A0 } { tmps:=args.toArray++R9 (fn.ntmps - args.toArray.size) undef,defers:=[] } w:=by
  refine⟨λt=> ?_,⟨rfl,λi T' tm h=>by simp at h⟩, ?_,rfl,λt _=>Sx args _ t,λt g want y hy=> ?_,hH⟩
  .rw[Sx];show RT w _ _ ((vs[t]?).getD Dr) _;cases hv:vs[t]? with
   | none=>
    have:args.length<=t:=by
     rw[k1.1];exact Zy.1 hv
    show RT w _ _ Dr (ar args t);have e0:ar args t=undef:=by simp[ar,Ht this]
    rw[e0];rfl
   | some c=>
    have hlt:t<args.length:=by rw[k1.1];exact(BO.1 hv).1
    have hu:args[t]? =I (ar args t):=by simp[ar,hlt]
    exact(k1.2 t c _ hv hu).c8
  .simp;omega
  .have hy:(vs[t]?).getD Dr= .gd g want y:=hy;cases hv:vs[t]? with
   | none=>rw[hv]at hy;cases hy
   | some c=>
    rw[hv]at hy;have hy:c= .gd g want y:=hy;have hlt:t<args.length:=by rw[k1.1];exact(BO.1 hv).1
    have hu:args[t]? =I (ar args t):=by simp[ar,hlt]
    have:=k1.2 t c _ hv hu;rw[hy]at this;exact this.elim
 refine YL (B:=B) hP hm (hC B rfl) (hI B rfl) body v _ _ r hx hst (λj hj=>k3.1 j<|.inr (by have hj:b<=j:=hj;omega)) (Ge B rfl) ⟨?_, ?_, ?_⟩
 .intro β' a' w' s' h1 h2 h3 h4 h5;obtain⟨v',i1,i2⟩:=ZV (B:=B) h1 rfl rfl hlen h4 hok (show fin P fn m s'=I r by rw[← hP];exact h5);exact⟨h1.defers,v',i1,v',rfl,i2⟩
 .intro β' a' w' s' h1 h2 h3 h4 h5;obtain⟨v',i1,i2⟩:=ZV (B:=B) h1 rfl rfl hlen h4 hok (show fin P fn m s'=I r by rw[← hP];exact h5);exact⟨h1.defers,v',i1,v',rfl,i2⟩
 .intro id β' a' w' s' h1 h2 h3 h4 h5;cases h5
end
end Go.VS
namespace Go.VS
open Go
def HL(l:List Sh):Bool:=IA l&&l.all λh=> !Uc h
section
variable {B:Be} {β β':Beta} {H:Hp} {w w':World} {M:Nat->Prop} {stk:List (Array Value)} {s s':S} {a:Act} {P:Program} {E:Nat->AV} {e:Nat->Value} {b:Nat}
mutual
theorem atK:∀h:Sh,Dl h=Y->Ip h=Y/\M9 h=[]
 | .int _,_=>⟨rfl,rfl⟩
 | .bool,_=>⟨rfl,rfl⟩
 | .str,_=>⟨rfl,rfl⟩
 | .sl _,_=>⟨rfl,rfl⟩
 | .row _ _,_=>⟨rfl,rfl⟩
 | .fz _,_=>⟨rfl,rfl⟩
 | .Ch _ _,_=>⟨rfl,rfl⟩
 | .abx _ _,_=>⟨rfl,rfl⟩
 | .arr _,h=>by simp[Dl]at h
 | .agg _,h=>by simp[Dl]at h
 | .same _,h=>by simp[Dl]at h
 | .box _ l,h=>by
  have:=l4 l (by simpa[Dl] using h);exact⟨by simpa[Ip] using this.1,by simpa[M9] using this.2⟩
theorem l4:∀l:List Sh,IA l=Y->Ly l=Y/\Il l=[]
 | [],_=>⟨rfl,rfl⟩
 | h::l,hl=>by
  simp only[IA,AD]at hl;have h1:=atK h hl.1;have h2:=l4 l hl.2;exact⟨by simp[Ly,h1.1,h2.1],by simp[Il,h1.2,h2.2]⟩
end
def Xl:∀(l:List Sh) (H:Hp) (b:Nat) (cs:List AV) (x:LTs l),HL l=Y->BP E H b l cs x=Ak E H b l x
 | [],_,_,_,_,_=>rfl
 | h::l,H,b,cs,x,hl=>by
  simp only[HL,IA,PF,AD]at hl;obtain⟨⟨h1,h2⟩,h3,h4⟩:=hl;have un:BP E H b (h::l) cs x=(match D2 E H b h (cs.headD .un) x.1 with|(d,H,b)=>match BP E H b l cs.tail x.2 with|(ds,H,b)=>(d::ds,H,b)):=rfl;have un2:Ak E H b (h::l) x=(match BI E H b h x.1 with|(c,H,b)=>match Ak E H b l x.2 with|(cs,H,b)=>(c::cs,H,b)):=rfl;have e1:D2 E H b h (cs.headD .un) x.1=BI E H b h x.1:=mX h1 (λt l' e'=>by rw[e']at h3;simp[Uc]at h3);rw[un,un2,e1];generalize BI E H b h x.1=r;obtain⟨c,H',b'⟩:=r;simp only;rw[Xl l H' b' cs.tail x.2 (by simp only[HL,AD];exact⟨h2,h4⟩)]
mutual
theorem aHD:∀(h:Sh) (H:Hp) (b:Nat) (x:LT h) (v:Value) (os:List (Value×Nat)),Ip h=Y->Rel P w M e h x v os->(BI E H b h x).2.2=b+os.length
 | .int k,H,b,x,v,os,_,hr=>by obtain⟨_,rfl⟩:=hr;rfl
 | .bool,H,b,x,v,os,_,hr=>by obtain⟨_,rfl⟩:=hr;rfl
 | .str,H,b,x,v,os,_,hr=>by obtain⟨_,rfl⟩:=hr;rfl
 | .sl k,H,b,x,v,os,_,hr=>by obtain⟨_,rfl⟩:=hr;rfl
 | .fz k,H,b,x,v,os,_,hr=>by obtain⟨_,rfl⟩:=hr;rfl
 | .row t k,H,b,x,v,os,_,hr=>by obtain⟨rfl,_⟩:=hr;rfl
 | .Ch t k,H,b,x,v,os,_,hr=>by obtain⟨rfl,_⟩:=hr;rfl
 | .abx t k,H,b,x,v,os,_,hr=>by obtain⟨rfl,_⟩:=hr;rfl
 | .arr _,_,_,_,_,_,h,_=>by simp[Ip]at h
 | .agg _,_,_,_,_,_,h,_=>by simp[Ip]at h
 | .same t,H,b,x,v,os,_,hr=>by obtain⟨rfl,_⟩:=hr;rfl
 | .box t l,H,b,x,v,os,hl,hr=>by
  obtain⟨bb,us,os',rfl,h2,h3,rfl⟩:=hr;have un:BI E H b (.box t l) x=(match Ak E H b l x with|(cs,H,b)=>(AV.ptr b cs.length 0 0,upd H b<|I<|.box t cs,b+1)):=rfl;have k:=YF l H b x us.toList os' (by simpa[Ip] using hl) h3;rw[un];generalize Ak E H b l x=r at *;obtain⟨cs,H',b'⟩:=r;have k:b'=b+os'.length:=k;simp[k,DE]
theorem YF:∀(l:List Sh) (H:Hp) (b:Nat) (x:LTs l) (us:List Value) (os:List (Value×Nat)),Ly l=Y->Cj P w M e l x us os->(Ak E H b l x).2.2=b+os.length
 | [],H,b,x,us,os,_,hr=>by obtain⟨_,rfl⟩:=hr;rfl
 | h::l,H,b,x,us,os,hl,hr=>by
  obtain⟨u,us',o1,o2,rfl,rfl,h1,h2⟩:=hr;simp only[Ly,AD]at hl;have un:Ak E H b (h::l) x=(match BI E H b h x.1 with|(c,H,b)=>match Ak E H b l x.2 with|(cs,H,b)=>(c::cs,H,b)):=rfl;have k:=aHD h H b x.1 u o1 hl.1 h1;rw[un];generalize BI E H b h x.1=r at *;obtain⟨c,H',b'⟩:=r;have k:b'=b+o1.length:=k;subst k;have k2:=YF l H' (b+o1.length) x.2 us' o2 hl.2 h2;simp only;generalize Ak E H' (b+o1.length) l x.2=r at *;obtain⟨cs,H'',b''⟩:=r;have k2:b''=_:=k2;simp[k2,DE]
end
mutual
theorem av3:∀(h:Sh) (H:Hp) (b:Nat) (x:LT h) (j:Nat),¬(b<=j/\j<(BI E H b h x).2.2)->(BI E H b h x).2.1 j=H j
 | .int _,H,_,_,_,_=>rfl
 | .bool,H,_,_,_,_=>rfl
 | .str,H,_,_,_,_=>rfl
 | .sl _,H,_,_,_,_=>rfl
 | .arr _,H,_,_,_,_=>rfl
 | .same _,H,_,_,_,_=>rfl
 | .fz _,H,_,_,_,_=>rfl
 | .row _ _,H,b,_,j,hj=>BE _ _ (λe=>hj ⟨J,by show j<b+1;omega⟩)
 | .Ch _ _,H,b,_,j,hj=>BE _ _ (λe=>hj ⟨J,by show j<b+1;omega⟩)
 | .abx _ _,H,b,_,j,hj=>BE _ _ (λe=>hj ⟨J,by show j<b+1;omega⟩)
 | .agg l,H,b,x,j,hj=>by
  have un:BI E H b (.agg l) x=(match Ak E H b l x with|(cs,H,b)=>(AV.agg cs,H,b)):=rfl;have ih:=Yh l H b x j;rw[un]at hj ⊢;generalize Ak E H b l x=r at *;exact ih hj
 | .box e l,H,b,x,j,hj=>by
  have un:BI E H b (.box e l) x=(match Ak E H b l x with|(cs,H,b)=>(AV.ptr b cs.length 0 0,upd H b<|I<|.box e cs,b+1)):=rfl;have ih:=Yh l H b x j;have hle:=JB E l H b x;rw[un]at hj ⊢;generalize Ak E H b l x=r at *;obtain⟨cs,H',b'⟩:=r;simp only at hj ih hle ⊢;rw[BE _ _ λe=>hj ⟨J,J⟩];exact ih λh=>hj ⟨h.1,J⟩
theorem Yh:∀(l:List Sh) (H:Hp) (b:Nat) (x:LTs l) (j:Nat),¬(b<=j/\j<(Ak E H b l x).2.2)->(Ak E H b l x).2.1 j=H j
 | [],H,_,_,_,_=>rfl
 | h::l,H,b,x,j,hj=>by
  have un:Ak E H b (h::l) x=(match BI E H b h x.1 with|(c,H,b)=>match Ak E H b l x.2 with|(cs,H,b)=>(c::cs,H,b)):=rfl;have ih:=av3 h H b x.1 j;have hle:=EQ E h H b x.1;rw[un]at hj ⊢;generalize BI E H b h x.1=r at *;obtain⟨c,H',b'⟩:=r;have ih2:=Yh l H' b' x.2 j;have Pf:=JB E l H' b' x.2;simp only at hj ⊢;generalize Ak E H' b' l x.2=r at *;obtain⟨cs,H'',b''⟩:=r;simp only at hj ih ih2 hle Pf ⊢;rw[ih2 λh=>hj ⟨J,h.2⟩];exact ih λh=>hj ⟨h.1,J⟩
end
end
end Go.VS
namespace Go.VS
open Go
section
variable {B B':Be} {β β':Beta} {H:Hp} {w w':World} {M M':Nat->Prop} {stk:List (Array Value)} {s s':S} {a:Act} {P:Program} {E:Nat->AV} {e:Nat->Value} {b:Nat}
def St.alR{f:AV->AV}(h:St B β stk s a w)(ht:B'.tm0=B.tm0)(hf:∀c,Gf c=Y->f c=c)(hg:∀c g want x,f c= .gd g want x->∃y,c= .gd g want y)(hk:Kf f w β w' β'){H':Hp}(hH:Hs B' β' H' w'):St B' β' stk { s.map f with H:=H' } a w':=by
 have g1:∀c g want x,G3 f c= .gd g want x->∃y,c= .gd g want y:=by
  intro c g want x e;cases c<;>first|(cases e;done)|exact hg _ _ _ _ e
 have g2:∀c g want x,GM f c= .gd g want x->∃y,c= .gd g want y:=by
  intro c g want x e;cases c<;>first|(cases e;done)|exact g1 _ _ _ _ e
 have g3:∀c g want x,F3 f c= .gd g want x->∃y,c= .gd g want y:=by
  intro c g want x e;cases c with
  | gd g' w' y=>cases e;exact⟨_,rfl⟩
  | _=>exact g2 _ _ _ _ e
 refine⟨λt=>RT.map hf hk<|h.T t,⟨by simpa[S.map] using h.stack.1,λi T tm h1 h2 t=> ?_⟩,h.n,h.defers,λt ht'=>by rw[ht];exact h.pins t ht',λt g want x hx=> ?_,hH⟩
 .simp only[S.map,DD,DB]at h1;obtain⟨T0,h3,rfl⟩:=h1;exact RT.map hf hk (h.stack.2 i T0 tm h3 h2 t)
 .obtain⟨y,hy⟩:=g3 _ _ _ _ hx;exact h.gs _ _ _ _ hy
def Beta.kz(β:Beta)(id:Nat):Beta:=⟨upd β.f id G,λb=>β.Z b\/ ∃p a,β id=I p/\adr p.1=I a/\a.block=b⟩
def Beta.bR(β:Beta)(id j:Nat):(β.kz id) j=if j=id then G else β j:=by
 show upd β.f id G j=_;by_cases e:j=id
 .subst e;rw[Bh,A5 rfl]
 .rw[BE _ _ e,A9 e]
def St.azZ(h:St B β stk s a w)(id:Nat):St { B with Z:=(β.kz id).Z } (β.kz id) stk (s.kill id) a w:=by
 have hM:∀b,¬MZ β b->b<w.heap.size->¬MZ (β.kz id) b:=λb hb _ hm=>by
  obtain⟨j,hd,n,a,hj,ha,hab⟩|hz|⟨p,a,hp,ha,hab⟩:=hm
  .rw[Beta.bR]at hj;split at hj
   .cases hj
   .exact hb (.inl ⟨j,hd,n,a,hj,ha,hab⟩)
  .exact hb (.inr hz)
  .exact hb<|.inl ⟨id,p.1,p.2,a,hp,ha,hab⟩
 have hk:Kf (kl1 id) w β w (β.kz id):=Kf.kill (λj e=>BE _ _ e) (λ_ _ _ _ h=>h) hM;have hH:=h.hs.abz (JA id) hk (λj e=>BE _ _ e) (.inl ⟨Bh _ _ _,rfl⟩) (λ_ _ _ _ _ _=>rfl) rfl rfl rfl (Au _) (λ_ _ _=>rfl) (λb hb=>hb.imp (λh=>h) λh=>⟨Bh _ _ _,h⟩) (Pk.refl _ _);exact h.alR (B':={ B with Z:=(β.kz id).Z }) rfl (JA id) (Oq id) hk hH
def St.abn:∀(ids:List Nat) {B:Be} {β:Beta} {s:S},ids.Nodup->St B β stk s a w->∃β2:Beta,St { B with Z:=β2.Z } β2 stk (ids.foldl S.kill s) a w/\(∀j,β2 j=if j∈ids then G else β j)/\
  (∀b,β2.Z b↔β.Z b\/ ∃i∈ids,∃p a,β i=I p/\adr p.1=I a/\a.block=b)
 | [],B,β,s,_,h=>by
  have e:{ B with Z:=β.Z } =B:=by rw[h.hs.z]
  exact⟨β,by rw[e];exact h,λj=>by simp,λb=>by simp⟩
 | i::ids,B,β,s,hn,h=>by
  obtain⟨hn1,hn2⟩:=IJ.1 hn;obtain⟨β2,h1,h2,h3⟩:=St.abn ids hn2<|h.azZ i;refine⟨β2,h1,λj=> ?_,λb=> ?_⟩
  .rw[h2,Beta.bR];by_cases e1:j∈ids
   .rw[A5 e1,A5<|Aj _ e1]
   .by_cases e2:j=i
    .rw[A9 e1,A5 e2,A5 (by rw[e2];exact Ao)]
    .rw[A9 e1,A9 e2,A9<|by simp[e1,e2]]
  .rw[h3];constructor
   .rintro((h|⟨p,a,h⟩)|⟨j,hj,p,a,hp,h⟩)
    .exact .inl h
    .exact .inr ⟨i,Ao,p,a,h⟩
    .rw[Beta.bR]at hp;split at hp
     .cases hp
     .exact .inr ⟨j,Aj _ hj,p,a,hp,h⟩
   .rintro(h|⟨j,hj,p,a,hp,h⟩)
    .exact .inl (.inl h)
    .rcases Bl.1 hj with rfl|hj
     .exact .inl (.inr ⟨p,a,hp,h⟩)
     .refine .inr ⟨j,hj,p,a, ?_,h⟩;rw[Beta.bR,A9 fun(e:j=i)=>hn1<|e▸hj];exact hp
def St.bO(h:St B β stk s a w)(id:Nat):St B (β.up id G) stk (s.freeze id) a w:=by
 unfold S.freeze;split
 .rename_i e fz k xs hid;obtain⟨h1,h2⟩:=h.hs.bO hid;exact h.map (mP id k xs) (abD id k xs) h2 h1
 .obtain⟨h1,h2⟩:=h.hs.abw id;exact h.map (JA id) (Oq id) h2 h1
def St.abt:∀(ids:List Nat) {β:Beta} {s:S},St B β stk s a w->∃β2:Beta,St B β2 stk (ids.foldl S.freeze s) a w/\(∀j,β2 j=if j∈ids then G else β j)/\β2.Z=β.Z
 | [],β,s,h=>⟨β,h,λj=>by simp,rfl⟩
 | i::ids,β,s,h=>by
  obtain⟨β2,h1,h2,h3⟩:=St.abt ids<|h.bO i;refine⟨β2,h1,λj=> ?_,h3⟩;rw[h2];by_cases e1:j∈ids
  .rw[A5 e1,A5<|Aj _ e1]
  .by_cases e2:j=i
   .subst e2;rw[A9 e1,A5 Ao,Beta.Up]
   .rw[A9 e1,Beta.Ng _ _ e2,A9<|by simp[e1,e2]]
def St.alO(q:Bool)(ids:List Nat)(h:St B β stk s a w):∃β2:Beta,St B β2 stk (GR q ids s) a w/\(∀j,β2 j=if q=Y/\j∈ids then G else β j)/\β2.Z=β.Z:=by
 cases q with
 | false=>exact⟨β,h,λj=>by simp,rfl⟩
 | true=>
  obtain⟨β2,h1,h2,h3⟩:=St.abt ids h;exact⟨β2,h1,λj=>by simp[h2],h3⟩
def aFj{t:TypeId}{j:Nat}:∀(ids:List Nat) (s:S) {cs:List AV},j ∉ ids->s.H j=I (.box t cs)->∃cs',(ids.foldl S.kill s).H j=I (.box t cs')
 | [],s,cs,_,h=>⟨cs,h⟩
 | i::ids,s,cs,hj,h=>by
  have hne:j≠i:=λe=>hj<|e▸Ao;refine aFj ids (s.kill i) (cs:=cs.map<|kl1 i) (λhm=>hj<|Aj _ hm) ?_;show upd (λj=>CN (kl1 i)<|s.H j) i G j=_;rw[BE _ _ hne,h];rfl
def aDG{t:TypeId}{j:Nat}:∀(ids:List Nat) (s:S) {cs:List AV},j ∉ ids->s.H j=I (.box t cs)->∃cs',(ids.foldl S.freeze s).H j=I (.box t cs')
 | [],s,cs,_,h=>⟨cs,h⟩
 | i::ids,s,cs,hj,h=>by
  have hne:j≠i:=λe=>hj<|e▸Ao;have:∃cs',(s.freeze i).H j=I (.box t cs'):=by
   unfold S.freeze;split
   .rename_i k xs _;refine⟨cs.map<|fz1 i k xs, ?_⟩;show upd (λj=>CN (fz1 i k xs)<|s.H j) i G j=_;rw[BE _ _ hne,h];rfl
   .refine⟨cs.map<|kl1 i, ?_⟩;show upd (λj=>CN (kl1 i)<|s.H j) i G j=_;rw[BE _ _ hne,h];rfl
  obtain⟨cs',h'⟩:=this;exact aDG ids (s.freeze i) (λhm=>hj<|Aj _ hm) h'
def aw7{t:TypeId}{j:Nat}(q:Bool)(ids:List Nat)(s:S){cs:List AV}(hj:¬(q=Y/\j∈ids))(h:s.H j=I (.box t cs)):∃cs',(GR q ids s).H j=I (.box t cs'):=by
 cases q with
 | false=>exact⟨cs,h⟩
 | true=>exact aDG ids s (λhm=>hj ⟨rfl,hm⟩) h
mutual
theorem avJ:∀(h:Sh) (c:AV),(CJ H h c).Sublist<|Cf H h c
 | .int _,_=>Ea _
 | .bool,_=>Ea _
 | .str,_=>Ea _
 | .sl _,_=>Ea _
 | .arr _,_=>Ea _
 | .same _,_=>Ea _
 | .fz _,_=>Ea _
 | .row _ _,c=>by cases c<;>exact Ea _
 | .Ch _ _,c=>by cases c<;>exact Ea _
 | .abx _ _,c=>by
  cases c with
  | ptr id z i o=>cases i<;>cases o<;>exact Ea _
  | _=>exact Ea _
 | .agg l,c=>by
  cases c with
  | agg cs=>exact YZ l cs
  | _=>exact Ea _
 | .box t l,c=>by
  cases c with
  | ptr id z i o=>
   cases i<;>cases o<;>simp only[CJ,Cf]<;>first|exact Ea _|skip
   split
   .exact(YZ l _).trans (List.sublist_append_left _ _)
   .exact Ea _
  | _=>exact Ea _
theorem YZ:∀(l:List Sh) (cs:List AV),(Cd H l cs).Sublist<|Bm H l cs
 | [],_=>by simp only[Cd,Bm];exact Ea _
 | _::_,[]=>by simp only[Cd,Bm];exact Ea _
 | h::l,c::cs=>by
  simp only[Cd,Bm];exact(avJ h c).append<|YZ l cs
end
def Qh(H:Hp)(i:Nat):Prop:=∀t cs,H i≠I (.box t cs)
mutual
theorem asR:∀(h:Sh) (c:AV) (x:LT h),Bo E H h c=I x->∀i∈CJ H h c,Qh H i
 | .int _,_,_,_,i,hi=>by simp[CJ]at hi
 | .bool,_,_,_,i,hi=>by simp[CJ]at hi
 | .str,_,_,_,i,hi=>by simp[CJ]at hi
 | .sl _,_,_,_,i,hi=>by simp[CJ]at hi
 | .arr _,_,_,_,i,hi=>by simp[CJ]at hi
 | .same _,_,_,_,i,hi=>by simp[CJ]at hi
 | .fz _,_,_,_,i,hi=>by simp[CJ]at hi
 | .row t k,c,x,hx,i,hi=>by
  cases c<;>simp[CJ]at hi;subst hi;intro t' cs hb;simp[Bo,hb]at hx
 | .Ch t k,c,x,hx,i,hi=>by
  cases c<;>simp[CJ]at hi;subst hi;intro t' cs hb;simp[Bo,hb]at hx
 | .abx t k,c,x,hx,i,hi=>by
  cases c with
  | ptr id z i' o=>
   cases i'<;>cases o<;>simp[CJ]at hi;subst hi;intro t' cs hb;simp[Bo,hb]at hx
  | _=>simp[CJ]at hi
 | .agg l,c,x,hx,i,hi=>by
  cases c with
  | agg cs=>exact Xz l cs x hx i<|by simpa[CJ] using hi
  | _=>simp[CJ]at hi
 | .box t l,c,x,hx,j,hi=>by
  cases c with
  | ptr id z i o=>
   cases i<;>cases o<;>simp only[CJ]at hi<;>first|(simp at hi;done)|skip
   cases ho:H id with
   | none=>simp[ho]at hi
   | some ob=>
    cases ob with
    | box e' cs=>
     simp only[ho]at hi;simp only[Bo,ho]at hx;split at hx
     .exact Xz l cs x hx j hi
     .cases hx
    | _=>simp[ho]at hi
  | _=>simp[CJ]at hi
theorem Xz:∀(l:List Sh) (cs:List AV) (x:LTs l),GK E H l cs=I x->∀i∈Cd H l cs,Qh H i
 | [],cs,_,_,i,hi=>by simp[Cd]at hi
 | _::_,[],_,_,i,hi=>by simp[Cd]at hi
 | h::l,c::cs,x,hx,i,hi=>by
  obtain⟨x1,e1,hx⟩:=Ai.1 hx;obtain⟨x2,e2,hx⟩:=Ai.1 hx;simp only[Cd,BM]at hi;obtain hi|hi:=hi
  .exact asR h c x1 e1 i hi
  .exact Xz l cs x2 e2 i hi
end
mutual
theorem at4:∀(h:Sh) (c:AV) (x:LT h),Bo E H h c=I x->∀i∈Cp H h c,Qh H i
 | .int _,_,_,_,i,hi=>by simp[Cp]at hi
 | .bool,_,_,_,i,hi=>by simp[Cp]at hi
 | .str,_,_,_,i,hi=>by simp[Cp]at hi
 | .sl _,_,_,_,i,hi=>by simp[Cp]at hi
 | .arr _,_,_,_,i,hi=>by simp[Cp]at hi
 | .same _,_,_,_,i,hi=>by simp[Cp]at hi
 | .row _ _,_,_,_,i,hi=>by simp[Cp]at hi
 | .Ch _ _,_,_,_,i,hi=>by simp[Cp]at hi
 | .abx _ _,_,_,_,i,hi=>by simp[Cp]at hi
 | .fz k,c,x,hx,i,hi=>by
  cases c<;>simp[Cp]at hi;subst hi;intro t' cs hb;simp[Bo,CI,hb]at hx
 | .agg l,c,x,hx,i,hi=>by
  cases c with
  | agg cs=>exact Xm l cs x hx i<|by simpa[Cp] using hi
  | _=>simp[Cp]at hi
 | .box t l,c,x,hx,j,hi=>by
  cases c with
  | ptr id z i o=>
   cases i<;>cases o<;>simp only[Cp]at hi<;>first|(simp at hi;done)|skip
   cases ho:H id with
   | none=>simp[ho]at hi
   | some ob=>
    cases ob with
    | box e' cs=>
     simp only[ho]at hi;simp only[Bo,ho]at hx;split at hx
     .exact Xm l cs x hx j hi
     .cases hx
    | _=>simp[ho]at hi
  | _=>simp[Cp]at hi
theorem Xm:∀(l:List Sh) (cs:List AV) (x:LTs l),GK E H l cs=I x->∀i∈Cv H l cs,Qh H i
 | [],cs,_,_,i,hi=>by simp[Cv]at hi
 | _::_,[],_,_,i,hi=>by simp[Cv]at hi
 | h::l,c::cs,x,hx,i,hi=>by
  obtain⟨x1,e1,hx⟩:=Ai.1 hx;obtain⟨x2,e2,hx⟩:=Ai.1 hx;simp only[Cv,BM]at hi;obtain hi|hi:=hi
  .exact at4 h c x1 e1 i hi
  .exact Xm l cs x2 e2 i hi
end
def kv{k:K}(h:RS k=Y)(x:Tof k):∀c∈enc k x,∃v,c= .lit v:=by
 have key:(enc k x).all (λc=>match c with
   | .lit _=>Y
   | _=>A0)=Y:=by cases k<;>first|(cases h;done)|rfl
 intro c hc;have:=Cy.1 key c hc;cases c<;>first|exact⟨_,rfl⟩|cases this
def UR:Beta:=⟨λ_=>G,λ_=>False⟩
def YM{b:Nat}:¬MZ UR b:=by
 rintro(⟨_,_,_,_,h,_⟩|h)
 .cases h
 .exact h
def FZ.anyM{t:TypeId}{fz:Bool}{k:K}{xs:List (Tof k)}{v:Value}(hk:RS k=Y)(h:FZ w β t fz k xs v):FZ w β' t fz k xs v:=by
 obtain h|⟨b,f,cap,us,fr,h1,h2,h3,h4,h5,h6,h7⟩:=h
 .exact .inl h
 .refine .inr ⟨b,f,cap,us,fr,h1,h2,h3,h4,h5,h6,λi x j c u a1 a2 a3=> ?_⟩;have h8:=h7 i x j c u a1 a2 a3;obtain⟨v,rfl⟩:=kv hk x c<|Cn a2;cases h8 with
  | lit h=>exact .lit h
mutual
theorem Rel.anyM:∀(h:Sh) (x:LT h) (v:Value) (os:List (Value×Nat)),MW h=A0->Rel P w M e h x v os->Rel P w M' e h x v os
 | .int _,_,_,_,_,h=>h
 | .bool,_,_,_,_,h=>h
 | .str,_,_,_,_,h=>h
 | .sl _,_,_,_,h,_=>by cases h
 | .fz _,_,_,_,h,_=>by cases h
 | .row t k,_,_,_,hm,h=>⟨h.1,h.2.1,λβ _=>(h.2.2 UR λb hb=>absurd hb YM).anyM<|by simpa[MW] using hm⟩
 | .Ch t k,_,_,_,hm,h=>⟨h.1,h.2.1,λβ _=>(h.2.2 UR λb hb=>absurd hb YM).anyM<|by simpa[MW] using hm⟩
 | .abx t k,_,_,_,hm,h=>by
  obtain⟨h1,h2,b,us,h3,h4,h5,h6,h7⟩:=h;refine⟨h1,h2,b,us,h3,h4,h5,h6,λβ _ i x j c u a1 a2 a3=> ?_⟩;have h8:=h7 UR (λb hb=>absurd hb YM) i x j c u a1 a2 a3;obtain⟨v,rfl⟩:=kv (by simpa[MW] using hm) x c<|Cn a2;cases h8 with
  | lit h=>exact .lit h
 | .arr k,_,_,_,hm,h=>by
  obtain⟨h1,h2⟩:=h;refine⟨h1,λβ _=> ?_⟩;obtain⟨us,k1,k2,k3⟩:=h2 UR (λb hb=>absurd hb YM);refine⟨us,k1,k2,λi x j c u a1 a2 a3=> ?_⟩;have h8:=k3 i x j c u a1 a2 a3;obtain⟨v,rfl⟩:=kv (by simpa[MW] using hm) x c<|Cn a2;cases h8 with
  | lit h=>exact .lit h
 | .same t,_,_,_,_,h=>h
 | .agg l,x,v,os,hm,h=>by
  obtain⟨us,h1,h2⟩:=h;exact⟨us,h1,Cj.anyM l x us os (by simpa[MW] using hm) h2⟩
 | .box t l,x,v,os,hm,h=>by
  obtain⟨b,us,os',h1,h2,h3,h4⟩:=h;exact⟨b,us,os',h1,h2,Cj.anyM l x us.toList os' (by simpa[MW] using hm) h3,h4⟩
theorem Cj.anyM:∀(l:List Sh) (x:LTs l) (us:List Value) (os:List (Value×Nat)),CS l=A0->Cj P w M e l x us os->Cj P w M' e l x us os
 | [],_,_,_,_,h=>h
 | h::l,x,us,os,hm,hr=>by
  obtain⟨u,us',o1,o2,h1,h2,h3,h4⟩:=hr;simp only[CS,NG]at hm;exact⟨u,us',o1,o2,h1,h2,Rel.anyM h x.1 u o1 hm.1 h3,Cj.anyM l x.2 us' o2 hm.2 h4⟩
end
end
end Go.VS
namespace Go.VS
open Go
def abX:List Sh->Bool
 | .box _ l2::l=>HL l2&&HL l
 | l=>HL l
def aa6:List Sh->Bool
 | .box _ _::_=>Y
 | _=>A0
def ay(P:Program):List Sh->Bool
 | []=>Y
 | h::ps=>(match h with
  | .box t l=>abX l&&(!aa6 l||P2 P t)
  | .agg l=>HL l
  | _=>Y)&&ay P ps
section
variable {B B':Be} {β β':Beta} {H:Hp} {w w':World} {M M':Nat->Prop} {stk:List (Array Value)} {s s':S} {a:Act} {P:Program} {E:Nat->AV} {e:Nat->Value} {b:Nat} {C:Cx}
mutual
theorem YI:∀(h:Sh) (c:AV),Dl h=Y->Uc h=A0->∀i∈Cf H h c,i∈CJ H h c
 | .int _,_,_,_,i,hi=>by simp[Cf]at hi
 | .bool,_,_,_,i,hi=>by simp[Cf]at hi
 | .str,_,_,_,i,hi=>by simp[Cf]at hi
 | .sl _,_,_,_,i,hi=>by simp[Cf]at hi
 | .fz _,_,_,_,i,hi=>by simp[Cf]at hi
 | .row _ _,c,_,_,i,hi=>by cases c<;>first|exact hi|(simp[Cf]at hi;done)
 | .Ch _ _,c,_,_,i,hi=>by cases c<;>first|exact hi|(simp[Cf]at hi;done)
 | .abx _ _,c,_,_,i,hi=>by
  cases c with
  | ptr id z i' o=>cases i'<;>cases o<;>first|exact hi|(simp[Cf]at hi;done)
  | _=>simp[Cf]at hi
 | .arr _,_,h,_,_,_=>by simp[Dl]at h
 | .same _,_,h,_,_,_=>by simp[Dl]at h
 | .agg _,_,h,_,_,_=>by simp[Dl]at h
 | .box _ _,_,_,h,_,_=>by cases h
end
def T3:∀(l:List Sh) (cs:List AV),HL l=Y->∀i∈Bm H l cs,i∈Cd H l cs
 | [],cs,_,i,hi=>by simp[Bm]at hi
 | _::_,[],_,i,hi=>by simp[Bm]at hi
 | h::l,c::cs,hl,i,hi=>by
  simp only[HL,IA,PF,AD,C6]at hl;obtain⟨⟨h1,h2⟩,h3,h4⟩:=hl;simp only[Bm,BM]at hi;obtain hi|hi:=hi
  .exact Bv _ (YI h c h1 h3 i hi)
  .refine CV _<|T3 l cs ?_ i hi;simp only[HL,AD];exact⟨h2,h4⟩
def EZ:List AV->List Nat
 | []=>[]
 | .ptr id _ 0 0::l=>id::EZ l
 | _::l=>EZ l
def aaS{id:Nat}:∀ {ds:List AV},id∈EZ ds->∃z,AV.ptr id z 0 0∈ds
 | [],h=>by cases h
 | c::ds,h=>by
  have rest:id∈EZ ds->∃z,AV.ptr id z 0 0∈c::ds:=λh=>by
   obtain⟨z,hz⟩:=aaS h;exact⟨z,Aj _ hz⟩
  cases c<;>first|exact rest h|skip
  rename_i a b i o;cases i<;>cases o<;>first|exact rest h|skip
  obtain h|h:=Bl.1 h
  .subst h;exact⟨b,Ao⟩
  .exact rest h
inductive Fb (P:Program) (w:World) (H:Hp):List Sh->List AV->List Value->List AV->List Value->Prop
 | nil:Fb P w H [] [] [] [] []
 | flat {t:TypeId} {l bs:List Sh} {id z bb:Nat} {cs ds:List AV} {vs us:List Value} (hl:HL l=Y) (hb:∃t0 cs0,H id=I (.box t0 cs0)) (h:Fb P w H bs cs vs ds us):
   Fb P w H (.box t l::bs) (.ptr id z 0 0::cs) (.pointer (I ⟨bb,0,G⟩)::vs) (.ptr id z 0 0::ds) (.pointer (I ⟨bb,0,G⟩)::us)
 | nest {t t2 t0:TypeId} {l2 l bs:List Sh} {id z id2 z2 bb bb2:Nat} {cs1 cs ds:List AV} {vs us:List Value} (hl2:HL l2=Y) (hl:HL l=Y) (hid:H id=I (.box t0 (.ptr id2 z2 0 0::cs1)))
   (hb2:∃t0 cs0,H id2=I (.box t0 cs0)) (hn:P2 P t=Y) (hc:∃us0 fr,w.heap[bb]? =I (.cells us0 t fr)/\us0[0]? =I (.pointer<|I ⟨bb2,0,G⟩)) (h:Fb P w H bs cs vs ds us):
   Fb P w H (.box t (.box t2 l2::l)::bs) (.ptr id z 0 0::cs) (.pointer (I ⟨bb,0,G⟩)::vs) (.ptr id2 z2 0 0:: .ptr id z 0 0::ds) (.pointer (I ⟨bb2,0,G⟩):: .pointer (I ⟨bb,0,G⟩)::us)
def Fb.carry{bs:List Sh}{cs ds:List AV}{vs us:List Value}{H':Hp}(h:Fb P w H bs cs vs ds us)(hpk:Pk P w w')
  (hH:∀id∈EZ ds,∀t cs,H id=I (.box t cs)->∃cs',H' id=I (.box t cs')/\ ∀id2 z2 cs1,cs= .ptr id2 z2 0 0::cs1->id2∈EZ ds->∃KW,cs'= .ptr id2 z2 0 0::KW):Fb P w' H' bs cs vs ds us:=by
 induction h with
 | nil=>exact .nil
 | @flat t l bs id z bb cs ds vs us hl hb h ih=>
  refine .flat hl ?_ (ih λi hi t0 c0 h0=> ?_)
  .obtain⟨t0,c0,h0⟩:=hb;obtain⟨c1,h1,_⟩:=hH id Ao t0 c0 h0;exact⟨t0,c1,h1⟩
  .obtain⟨c1,h1,h2⟩:=hH i (Aj _ hi) t0 c0 h0;exact⟨c1,h1,λa b c e hm=>h2 a b c e<|Aj _ hm⟩
 | @nest t t2 t0 l2 l bs id z id2 z2 bb bb2 cs1 cs ds vs us hl2 hl hid hb2 hn hc h ih=>
  obtain⟨c1,h1,h2⟩:=hH id (Aj _ Ao) t0 _ hid;obtain⟨c2,rfl⟩:=h2 id2 z2 cs1 rfl Ao;refine .nest hl2 hl h1 ?_ hn ?_ (ih λi hi t0 c0 h0=> ?_)
  .obtain⟨t3,c3,h3⟩:=hb2;obtain⟨c4,h4,_⟩:=hH id2 Ao t3 c3 h3;exact⟨t3,c4,h4⟩
  .obtain⟨us0,fr,h3,h4⟩:=hc;obtain⟨us1,fr1,h5,h6⟩:=hpk bb us0 t fr _ h3 h4 hn;exact⟨us1,fr1,h5,h6⟩
  .obtain⟨c3,h3,h4⟩:=hH i (Aj _<|Aj _ hi) t0 c0 h0;exact⟨c3,h3,λa b c e hm=>h4 a b c e<|Aj _<|Aj _ hm⟩
def oo{l:List Sh}(hl:HL l=Y)(H:Hp)(b:Nat)(x:LTs l){us1:List Value}{ob:List (Value×Nat)}(hr:Cj P w M e l x us1 ob):
  ∃ds1 H1,Ak E H b l x=(ds1,H1,b+ob.length)/\(∀j,¬(b<=j/\j<b+ob.length)->H1 j=H j)/\ ∀β:Beta,(∀b,MZ β b->M b)->Num β b ob->RL (RC w β) ds1 us1/\ ∀j,b<=j->j<b+ob.length->∃o,H1 j=I o/\EC P w β j o:=by
 have hl':=hl;simp only[HL,AD]at hl';obtain⟨Cr,H4⟩:=l4 l hl'.1;have hlen:=YF (E:=E) (P:=P) (w:=w) (M:=M) (e:=e) l H b x us1 ob Cr hr;have F9:=Yh (E:=E) l H b x;have hrc:=fun(β:Beta) (hM:∀b,MZ β b->M b) (hn:Num β b ob)=>Yu (E:=E) (P:=P) (w:=w) (M:=M) (e:=e) hM l H b x us1 ob Cr hr hn (by rw[H4];intro t ht;simp at ht);generalize Ak E H b l x=r at *;obtain⟨ds1,H1,b1⟩:=r;have hlen:b1=b+ob.length:=hlen;subst hlen;exact⟨ds1,H1,rfl,F9,λβ hM hn=>⟨(hrc β hM hn).1,(hrc β hM hn).2.2.2⟩⟩
def ath{x y:Value×Nat}{oc ob nw us o2:List (Value×Nat)}(h:o2.Perm (nw++us)):(((oc++[x])++ob)++[y]++o2).Perm (((oc++ob)++nw)++x::y::us):=by
 have h1:(ob++y::o2).Perm (ob++nw++y::us):=by
  rw[C5];exact Zt ob<|(h.cons y).trans List.perm_middle.symm
 have h2:(oc++x::(ob++y::o2)).Perm (oc++(ob++nw++x::y::us)):=Zt oc<|(h1.cons x).trans List.perm_middle.symm;simpa[C5] using h2
def mO:∀(bs:List Sh) (H:Hp) (b:Nat) (q:LTs bs) (cs ds:List AV) (vs us:List Value) (os:List (Value×Nat)) (L:Nat),Fb P w H bs cs vs ds us->(EZ ds).Nodup->(∀i∈EZ ds,¬(b<=i/\i<L))->Cj P w M e bs q vs os->(BP E H b bs cs q).2.2<=L->
  ∃nw:List (Value×Nat),os.Perm (nw++us.map λv=>(v,1))/\(BP E H b bs cs q).2.2=b+nw.length/\
   ∀β:Beta,(∀b,MZ β b->M b)->Num β b nw->(∀(i:Nat) (c:AV) (v:Value),ds[i]? =I c->us[i]? =I v->∀id z,c= .ptr id z 0 0->β id=I (v,1))->
    (∀j,(BP E H b bs cs q).2.1 j=H j\/ ∃ob,(BP E H b bs cs q).2.1 j=I ob/\EC P w β j ob)/\
    (∀j,b<=j->j<b+nw.length->∃ob,(BP E H b bs cs q).2.1 j=I ob/\EC P w β j ob)/\
    (∀id z,AV.ptr id z 0 0∈ds->∃ob,(BP E H b bs cs q).2.1 id=I ob/\EC P w β id ob)/\
    (∀j,¬(b<=j/\j<b+nw.length)->(∀z,AV.ptr j z 0 0 ∉ ds)->(BP E H b bs cs q).2.1 j=H j)
 | [],H,b,q,cs,ds,vs,us,os,L,hF,_,_,hr,_=>by
  cases hF;obtain⟨_,rfl⟩:=hr;exact⟨[],.nil,rfl,λβ _ _ _=>⟨λj=> .inl rfl,λj h1 h2=>by simp at h2;omega,λid z h=>by simp at h,λj _ _=>rfl⟩⟩
 | h::bs,H,b,q,cs0,ds0,vs0,us0,os,L,hF,hnd,F9,hr,hL=>by
  cases hF with
  | @flat t l _ id z bb cs ds vs us hl hb hF=>
   obtain⟨u,us',o1,o2,e1,rfl,h1,h2⟩:=hr;cases e1;obtain⟨bb',uc,os',e2,h3,h4,rfl⟩:=h1;cases e2;obtain⟨t0,c0,hid⟩:=hb;obtain⟨da,H1,hmk,ho1,hrc⟩:=oo (E:=E) hl H b q.1 h4;have Jh:id ∉ EZ ds/\(EZ ds).Nodup:=by simpa[EZ] using hnd
   have un:BP E H b (.box t l::bs) (.ptr id z 0 0::cs) q=(match BP E (upd H1 id<|I<|.box t da) (b+os'.length) bs cs q.2 with|(es,H'',b'')=>(AV.ptr id z 0 0::es,H'',b'')):=by
    have u1:BP E H b (.box t l::bs) (.ptr id z 0 0::cs) q=(match D2 E H b (.box t l) (.ptr id z 0 0) q.1 with|(d,H,b)=>match BP E H b bs cs q.2 with|(ds,H,b)=>(d::ds,H,b)):=rfl;have u2:D2 E H b (.box t l) (.ptr id z 0 0) q.1=(match H id with
     | some (.box _ cs)=>(match BP E H b l cs q.1 with|(ds,H,b)=>(AV.ptr id z 0 0,upd H id<|I<|.box t ds,b))
     | _=>(.un,H,b)):=rfl
    rw[u1,u2,hid];simp only;rw[Xl l H b c0 q.1 hl,hmk]
   rw[un]at hL ⊢;have hle:=QL E bs (upd H1 id<|I<|.box t da) (b+os'.length) cs q.2;have hL':(BP E (upd H1 id<|I<|.box t da) (b+os'.length) bs cs q.2).2.2<=L:=by
    generalize BP E (upd H1 id<|I<|.box t da) (b+os'.length) bs cs q.2=r at *;exact hL
   have H4:∀i∈EZ ds,upd H1 id (I<|.box t da) i=H i:=λi hi=>by
    rw[BE _ _ λe=>Jh.1 (by rw[← e];exact hi),ho1 i λhh=>F9 i (Aj _ hi) ⟨hh.1,J⟩]
   obtain⟨nw,n1,n4,n5⟩:=mO bs (upd H1 id<|I<|.box t da) (b+os'.length) q.2 cs ds vs us o2 L (hF.carry (Pk.refl _ _) λi hi t c h0=>⟨c,by rw[H4 i hi];exact h0,λ_ _ c1 e _=>⟨c1,e⟩⟩) Jh.2
    (λi hi hh=>F9 i (Aj _ hi) ⟨J,hh.2⟩) h2 hL'
   generalize hg:BP E (upd H1 id<|I<|.box t da) (b+os'.length) bs cs q.2=r at *;obtain⟨es,H'',b''⟩:=r;simp only at n4 n5 hle hL hL' ⊢;refine⟨os'++nw, ?_, ?_, ?_⟩
   .rw[C5,C5,DU];refine Zt os' ?_;exact((n1.cons (NE<|I ⟨bb,0,G⟩,1)).trans List.perm_middle.symm)
   .rw[n4];simp[DE]
   .intro β hM hn hbx;obtain⟨r1,r3⟩:=hrc β hM hn.left;have alS:β id=I (.pointer<|I ⟨bb,0,G⟩,1):=hbx 0 _ _ rfl rfl id z rfl;have aDy:EC P w β id (.box t da):=⟨bb,uc,alS,h3,r1⟩;obtain⟨m1,m2,m3,m4⟩:=n5 β hM hn.right (λi c v k1 k2=>hbx (i+1) c v (by simpa using k1)<|by simpa using k2);have step:∀j,H'' j=H1 j\/ ∃ob,H'' j=I ob/\EC P w β j ob:=λj=>by
     obtain h|h:=m1 j
     .by_cases e4:j=id
      .subst e4;rw[Bh]at h;exact .inr ⟨_,h,aDy⟩
      .rw[BE _ _ e4]at h;exact .inl h
     .exact .inr h
    refine⟨λj=> ?_,λj k1 k2=> ?_,λid2 z2 hm=> ?_,λj k1 k2=> ?_⟩
    .rcases step j with h|h
     .by_cases hj:b<=j/\j<b+os'.length
      .obtain⟨ob,q1,q2⟩:=r3 j hj.1 hj.2;exact .inr ⟨ob,by rw[h];exact q1,q2⟩
      .exact .inl (h.trans<|ho1 j hj)
     .exact .inr h
    .by_cases hj:j<b+os'.length
     .rcases step j with h|h
      .obtain⟨ob,q1,q2⟩:=r3 j k1 hj;exact⟨ob,by rw[h];exact q1,q2⟩
      .exact h
     .exact m2 j J (by simp at k2;omega)
    .rcases Bl.1 hm with h|h
     .cases h;obtain h|h:=m1 id
      .rw[Bh]at h;exact⟨_,h,aDy⟩
      .exact h
     .exact m3 id2 z2 h
    .have hne:j≠id:=λe4=>k2 z (by rw[e4];exact Ao);rw[m4 j (λhh=>k1 ⟨J,by simp;omega⟩) λz' hz'=>k2 z'<|Aj _ hz',BE _ _ hne];exact ho1 j λhh=>k1 ⟨hh.1,by simp;omega⟩
  | @nest t t2 t0 l2 l _ id z id2 z2 bb bb2 cs1 cs ds vs us hl2 hl hid hb2 hn hc hF=>
   obtain⟨u,us',o1,o2,e1,rfl,h1,h2⟩:=hr;cases e1;obtain⟨bb',uc,os',e2,h3,h4,rfl⟩:=h1;cases e2;obtain⟨u2,us1,oa,ob,huc,rfl,h5,h6⟩:=h4;obtain⟨azw,uc2,oc,e3,h7,h8,rfl⟩:=h5;have e4:u2= .pointer (I ⟨bb2,0,G⟩):=by
    obtain⟨us0,fr,k1,k2⟩:=hc;rw[h3]at k1;cases k1;have:uc.toList[0]? =I u2:=by rw[huc];rfl
    rw[Tv,k2]at this;exact(Dc this).symm
   rw[e4]at e3;cases e3;subst e4;obtain⟨t3,c3,LU⟩:=hb2;have Jh:(id2≠id/\id2 ∉ EZ ds)/\id ∉ EZ ds/\(EZ ds).Nodup:=by simpa[EZ,not_or] using hnd
   obtain⟨da,H1,hmk,ho1,ama⟩:=oo (E:=E) hl2 H b q.1.1 h8;obtain⟨dc,H3,amh,ho2,alZ⟩:=oo (E:=E) hl (upd H1 id2<|I<|.box t2 da) (b+oc.length) q.1.2 h6;have un:BP E H b (.box t (.box t2 l2::l)::bs) (.ptr id z 0 0::cs) q=
     (match BP E (upd H3 id<|I<|.box t<|.ptr id2 z2 0 0::dc) (b+oc.length+ob.length) bs cs q.2 with|(es,H'',b'')=>(AV.ptr id z 0 0::es,H'',b'')):=by
    have u1:BP E H b (.box t (.box t2 l2::l)::bs) (.ptr id z 0 0::cs) q=(match D2 E H b (.box t<|.box t2 l2::l) (.ptr id z 0 0) q.1 with|(d,H,b)=>match BP E H b bs cs q.2 with|(ds,H,b)=>(d::ds,H,b)):=rfl;have u2:D2 E H b (.box t<|.box t2 l2::l) (.ptr id z 0 0) q.1=(match H id with
     | some (.box _ cs)=>(match BP E H b (.box t2 l2::l) cs q.1 with|(ds,H,b)=>(AV.ptr id z 0 0,upd H id<|I<|.box t ds,b))
     | _=>(.un,H,b)):=rfl
    have u3:BP E H b (.box t2 l2::l) (.ptr id2 z2 0 0::cs1) q.1=(match D2 E H b (.box t2 l2) (.ptr id2 z2 0 0) q.1.1 with|(d,H,b)=>match BP E H b l cs1 q.1.2 with|(ds,H,b)=>(d::ds,H,b)):=rfl;have u4:D2 E H b (.box t2 l2) (.ptr id2 z2 0 0) q.1.1=(match H id2 with
     | some (.box _ cs)=>(match BP E H b l2 cs q.1.1 with|(ds,H,b)=>(AV.ptr id2 z2 0 0,upd H id2<|I<|.box t2 ds,b))
     | _=>(.un,H,b)):=rfl
    rw[u1,u2,hid];simp only;rw[u3,u4,LU];simp only;rw[Xl l2 H b c3 q.1.1 hl2,hmk];simp only;rw[Xl l _ _ cs1 q.1.2 hl,amh]
   rw[un]at hL ⊢;have hle:=QL E bs (upd H3 id<|I<|.box t<|.ptr id2 z2 0 0::dc) (b+oc.length+ob.length) cs q.2;have hL':(BP E (upd H3 id<|I<|.box t<|.ptr id2 z2 0 0::dc) (b+oc.length+ob.length) bs cs q.2).2.2<=L:=by
    generalize BP E (upd H3 id<|I<|.box t<|.ptr id2 z2 0 0::dc) (b+oc.length+ob.length) bs cs q.2=r at *;exact hL
   have hi2:¬(b<=id2/\id2<L):=F9 id2 Ao;have hi1:¬(b<=id/\id<L):=F9 id<|Aj _ Ao;have hold:∀j,¬(b<=j/\j<b+oc.length+ob.length)->j≠id->j≠id2->upd H3 id (I<|.box t<|.ptr id2 z2 0 0::dc) j=H j:=λj hj e1 e2=>by
    rw[BE _ _ e1,ho2 j λhh=>hj ⟨J,hh.2⟩,BE _ _ e2,ho1 j λhh=>hj ⟨hh.1,J⟩]
   have H4:∀i∈EZ ds,upd H3 id (I<|.box t<|.ptr id2 z2 0 0::dc) i=H i:=λi hi=>by
    have:=F9 i<|Aj _<|Aj _ hi;exact hold i (λhh=>this ⟨hh.1,J⟩) (λe=>Jh.2.1 (by rw[← e];exact hi)) λe=>Jh.1.2 (by rw[← e];exact hi)
   obtain⟨nw,n1,n4,n5⟩:=mO bs (upd H3 id<|I<|.box t<|.ptr id2 z2 0 0::dc) (b+oc.length+ob.length) q.2 cs ds vs us o2 L (hF.carry (Pk.refl _ _) λi hi t c h0=>⟨c,by rw[H4 i hi];exact h0,λ_ _ c1 e _=>⟨c1,e⟩⟩) Jh.2.2
    (λi hi hh=>F9 i (Aj _<|Aj _ hi) ⟨J,hh.2⟩) h2 hL'
   generalize hg:BP E (upd H3 id<|I<|.box t<|.ptr id2 z2 0 0::dc) (b+oc.length+ob.length) bs cs q.2=r at *;obtain⟨es,H'',b''⟩:=r;simp only at n4 n5 hle hL hL' ⊢;refine⟨oc++ob++nw, ?_, ?_, ?_⟩
   .exact ath n1
   .rw[n4];simp[DE]
   .intro β hM hn hbx;have alH:Num β b oc:=hn.left.left;have alG:Num β (b+oc.length) ob:=hn.left.right;have alF:Num β (b+oc.length+ob.length) nw:=by
     have:=hn.right;rwa[Aw,← DE]at this
    obtain⟨r1,r3⟩:=ama β hM alH;obtain⟨s1,s3⟩:=alZ β hM alG;have hβ2:β id2=I (.pointer<|I ⟨bb2,0,G⟩,1):=hbx 0 _ _ rfl rfl id2 z2 rfl;have hβ1:β id=I (.pointer<|I ⟨bb,0,G⟩,1):=hbx 1 _ _ rfl rfl id z rfl;have ob2:EC P w β id2 (.box t2 da):=⟨bb2,uc2,hβ2,h7,r1⟩;have ob1:EC P w β id (.box t<|.ptr id2 z2 0 0::dc):=by
     refine⟨bb,uc,hβ1,h3, ?_⟩;rw[huc];refine RL.cons ?_ s1;have:=RC.ptr (w:=w) (β:=β) (id:=id2) (sz:=z2) (i:=0) (o:=0) hβ2 (b:=bb2) (f:=0) rfl J;simpa using this
    obtain⟨m1,m2,m3,m4⟩:=n5 β hM alF (λi c v k1 k2=>hbx (i+2) c v (by simpa using k1)<|by simpa using k2);have h4:∀j,(upd H3 id (I<|.box t<|.ptr id2 z2 0 0::dc) j=H j/\ ¬(b<=j/\j<b+oc.length+ob.length)/\j≠id/\j≠id2)\/ ∃o,upd H3 id (I<|.box t<|.ptr id2 z2 0 0::dc) j=I o/\EC P w β j o:=λj=>by
     by_cases e1:j=id
     .subst e1;exact .inr ⟨_,Bh _ _ _,ob1⟩
     by_cases e2:j=id2
     .subst e2;refine .inr ⟨_, ?_,ob2⟩;rw[BE _ _ e1,ho2 j λhh=>hi2 ⟨J,J⟩,Bh]
     by_cases k1:b<=j/\j<b+oc.length+ob.length
     .by_cases k2:j<b+oc.length
      .obtain⟨o,q1,q2⟩:=r3 j k1.1 k2;exact .inr ⟨o,by rw[BE _ _ e1,ho2 j J,BE _ _ e2];exact q1,q2⟩
      .obtain⟨o,q1,q2⟩:=s3 j J k1.2;exact .inr ⟨o,by rw[BE _ _ e1];exact q1,q2⟩
     .exact .inl ⟨hold j k1 e1 e2,k1,e1,e2⟩
    have step:∀j,(H'' j=H j/\ ¬(b<=j/\j<b+oc.length+ob.length)/\j≠id/\j≠id2)\/ ∃o,H'' j=I o/\EC P w β j o:=λj=>by
     obtain h|h:=m1 j
     .rcases h4 j with⟨k1,k2⟩|⟨o,k1,k2⟩
      .exact .inl ⟨h.trans k1,k2⟩
      .exact .inr ⟨o,h.trans k1,k2⟩
     .exact .inr h
    refine⟨λj=> ?_,λj k1 k2=> ?_,λid3 z3 hm=> ?_,λj k1 k2=> ?_⟩
    .rcases step j with h|h
     .exact .inl h.1
     .exact .inr h
    .by_cases hj:j<b+oc.length+ob.length
     .rcases step j with h|h
      .exact absurd ⟨k1,hj⟩ h.2.1
      .exact h
     .exact m2 j J (by simp at k2;omega)
    .rcases Bl.1 hm with h|h
     .cases h;obtain h|h:=step id2
      .exact absurd rfl h.2.2.2
      .exact h
     obtain h|h:=Bl.1 h
     .cases h;obtain h|h:=step id
      .exact absurd rfl h.2.2.1
      .exact h
     .exact m3 id3 z3 h
    .have hne:j≠id:=λe4=>k2 z (by rw[e4];exact Aj _ Ao);have amg:j≠id2:=λe4=>k2 z2 (by rw[e4];exact Ao);rw[m4 j (λhh=>k1 ⟨J,by simp;omega⟩) λz' hz'=>k2 z'<|Aj _<|Aj _ hz'];exact hold j (λhh=>k1 ⟨hh.1,by simp;omega⟩) hne amg
def aEk(hH:Hs B β H w):∀(ps:List Sh) (cs:List AV) (vs:List Value) (x:LTs ps),ay B.P ps=Y->RL (R1 w β) cs vs->GK E H ps cs=I x->
  ∃ds us,Fb B.P w H (B3 ps) (Fz ps cs) (Jw ps vs) ds us/\
   RL (λc v=>∃id z bb,c=AV.ptr id z 0 0/\v=NE (I ⟨bb,0,G⟩)/\(∃t cs,H id=I (.box t cs))/\β id=I (v,1)/\id∈Bm H ps cs) ds us/\
   (EZ ds).Sublist (Bm H ps cs)/\ ∀i∈Bm H ps cs,i∈Cd H ps cs\/ ∃z,AV.ptr i z 0 0∈ds
 | [],[],vs,x,_,hr,hx=>by
  have:=hr.of_nil;subst this;exact⟨[],[],.nil,.nil,Ea _,λi hi=>by simp[Bm]at hi⟩
 | [],_::_,_,_,_,_,hx=>by cases hx
 | _::_,[],_,_,_,_,hx=>by cases hx
 | h::ps,c::cs,vs,x,hp,hr,hx=>by
  obtain⟨v,vs,rfl,h1,h2⟩:=hr.CE;obtain⟨x1,e1,hx⟩:=Ai.1 hx;obtain⟨x2,e2,hx⟩:=Ai.1 hx;simp only[ay,AD]at hp;obtain⟨ds,us,f1,f2,f3,f4⟩:=aEk hH ps cs vs x2 hp.2 h2 e2;have f2':RL (λc' v'=>∃id z bb,c'=AV.ptr id z 0 0/\v'=NE (I ⟨bb,0,G⟩)/\(∃t cs,H id=I (.box t cs))/\β id=I (v',1)/\id∈Bm H (h::ps) (c::cs)) ds us:=
   f2.mono λc' v' ⟨id,z,bb,k1,k2,k3,k4,k5⟩=>⟨id,z,bb,k1,k2,k3,k4,CV _ k5⟩
  have G2:B3 (h::ps)=B3 ps->Fz (h::ps) (c::cs)=Fz ps cs->Jw (h::ps) (v::vs)=Jw ps vs->(∀i∈Cf H h c,i∈CJ H h c)->
    ∃ds us,Fb B.P w H (B3<|h::ps) (Fz (h::ps)<|c::cs) (Jw (h::ps)<|v::vs) ds us/\
     RL (λc' v'=>∃id z bb,c'=AV.ptr id z 0 0/\v'=NE (I ⟨bb,0,G⟩)/\(∃t cs,H id=I (.box t cs))/\β id=I (v',1)/\id∈Bm H (h::ps) (c::cs)) ds us/\
     (EZ ds).Sublist (Bm H (h::ps)<|c::cs)/\ ∀i∈Bm H (h::ps) (c::cs),i∈Cd H (h::ps) (c::cs)\/ ∃z,AV.ptr i z 0 0∈ds:=λg1 g2 g3 g4=>by
   rw[g1,g2,g3];refine⟨ds,us,f1,f2',f3.trans<|Zu _ _,λi hi=> ?_⟩;obtain hi|hi:=BM.1 hi
   .exact .inl (Bv _<|g4 i hi)
   .exact(f4 i hi).imp (CV _) λh=>h
  cases h with
  | box t l=>
   have hp1:=hp.1;simp only[AD,Bw,C6]at hp1;cases c<;>first|(cases e1;done)|skip
   rename_i id z i o;cases i<;>cases o<;>simp only[Bo]at e1<;>first|(cases e1;done)|skip
   split at e1
   case h_2=>cases e1
   rename_i t' cs' hid;split at e1
   case h_2=>cases e1
   rename_i hbt;obtain rfl:=Bn hbt;have h1:=h1.Rq;cases h1 with
   | @ptr _ _ _ _ hd n bb f k1 ha hi=>
    obtain⟨b',uc,j1,j2,j3⟩:=hH.EM id _ hid;rw[k1]at j1;cases j1;cases ha;have e0:(NE<|I ⟨bb,0+(0 * z+0),G⟩)=NE (I ⟨bb,0,G⟩):=by simp
    by_cases bP:aa6 l=Y
    ·
     cases l with
     | nil=>cases bP
     | cons h0 l=>
      cases h0 with
      | box t2 l2=>
       obtain⟨hl,hn⟩:=hp1;have hn:P2 B.P t=Y:=hn.resolve_left (by rw[bP];simp);simp only[abX,AD]at hl;cases cs' with
       | nil=>cases e1
       | cons c2 cs1=>
        obtain⟨y1,g1,g2⟩:=Ai.1 e1;obtain⟨u2,us1,huc,q1,q2⟩:=j3.CE;cases c2<;>first|(cases g1;done)|skip
        rename_i id2 z2 i2 o2;cases i2<;>cases o2<;>simp only[Bo]at g1<;>first|(cases g1;done)|skip
        split at g1
        case h_2=>cases g1
        rename_i t2' cs2 LU;obtain⟨b2,uc2,m1,m2,m3⟩:=hH.EM id2 _ LU;cases q1 with
        | @ptr _ _ _ _ hd2 n2 bb2 f2x k1' ha' hi'=>
         rw[m1]at k1';cases k1';cases ha';have e00:(NE<|I ⟨b2,0+(0 * z2+0),G⟩)=NE (I ⟨b2,0,G⟩):=by simp
         rw[e00]at huc;refine⟨.ptr id2 z2 0 0:: .ptr id z 0 0::ds,.pointer (I ⟨b2,0,G⟩):: .pointer (I ⟨bb,0,G⟩)::us, ?_, ?_, ?_,λi hi=> ?_⟩
         .rw[e0];exact .nest hl.1 hl.2 hid ⟨_,_,LU⟩ hn ⟨uc,_,j2,by rw[← Tv,huc];rfl⟩ f1
         .refine RL.cons ⟨id2,z2,b2,rfl,rfl,⟨_,_,LU⟩,m1, ?_⟩ (RL.cons ⟨id,z,bb,rfl,rfl,⟨_,_,hid⟩,k1, ?_⟩ f2')
          .simp[Bm,Cf,hid,LU]
          .simp[Bm,Cf,hid]
         .simp only[EZ,Bm,Cf,hid,LU];refine List.Sublist.trans ?_<|List.Sublist.append_left f3 _;have:(((Bm H l2 cs2++[id2])++Bm H l cs1)++[id])++EZ ds=Bm H l2 cs2++(id2::(Bm H l cs1++(id::EZ ds))):=by simp
          rw[this];exact(((Zu _ _:(id::EZ ds).Sublist (Bm H l cs1++(id::EZ ds)))).cons_cons id2).trans (Zu _ _)
         .simp only[Bm,Cf,hid,LU,BM,C9]at hi;obtain(((hi|hi)|hi)|hi)|hi:=hi
          .refine .inl<|Bv _ ?_;simp only[CJ,hid,Cd,LU];exact Bv _ (T3 l2 cs2 hl.1 i hi)
          .subst hi;exact .inr ⟨z2,Ao⟩
          .refine .inl<|Bv _ ?_;simp only[CJ,hid,Cd,LU];exact CV _ (T3 l cs1 hl.2 i hi)
          .subst hi;exact .inr ⟨z,Aj _ Ao⟩
          .rcases f4 i hi with h|⟨z',h⟩
           .exact .inl (CV _ h)
           .exact .inr ⟨z',Aj _<|Aj _ h⟩
      | _=>cases bP
    ·
     have hl:HL l=Y:=by
      have:=hp1.1;cases l with
      | nil=>rfl
      | cons h0 l=>cases h0<;>first|exact this|exact absurd rfl bP
     refine⟨.ptr id z 0 0::ds,.pointer (I ⟨bb,0,G⟩)::us, ?_, ?_, ?_,λi hi=> ?_⟩
     .rw[e0];exact .flat hl ⟨_,_,hid⟩ f1
     .refine RL.cons ⟨id,z,bb,rfl,rfl,⟨_,_,hid⟩,k1, ?_⟩ f2';simp[Bm,Cf,hid]
     .simp only[EZ,Bm,Cf,hid];rw[C5];exact((f3.cons_cons id)).trans (Zu _ _)
     .simp only[Bm,Cf,hid,BM,C9]at hi;obtain(hi|hi)|hi:=hi
      .refine .inl<|Bv _ ?_;simp only[CJ,hid];exact T3 l cs' hl i hi
      .subst hi;exact .inr ⟨z,Ao⟩
      .rcases f4 i hi with h|⟨z',h⟩
       .exact .inl (CV _ h)
       .exact .inr ⟨z',Aj _ h⟩
  | agg l=>
   refine G2 rfl rfl rfl λi hi=> ?_;cases c with
   | agg cs'=>
    simp only[CJ];exact T3 l cs' hp.1 i<|by simpa[Cf] using hi
   | _=>simp[Cf]at hi
  | arr=>exact G2 rfl rfl rfl λi hi=>by simp[Cf]at hi
  | same=>exact G2 rfl rfl rfl λi hi=>by simp[Cf]at hi
  | int=>exact G2 rfl rfl rfl λi hi=>by simp[Cf]at hi
  | bool=>exact G2 rfl rfl rfl λi hi=>by simp[Cf]at hi
  | str=>exact G2 rfl rfl rfl λi hi=>by simp[Cf]at hi
  | sl=>exact G2 rfl rfl rfl λi hi=>by simp[Cf]at hi
  | fz=>exact G2 rfl rfl rfl λi hi=>by simp[Cf]at hi
  | row t k=>exact G2 rfl rfl rfl (YI _ c rfl rfl)
  | Ch t k=>exact G2 rfl rfl rfl (YI _ c rfl rfl)
  | abx t k=>exact G2 rfl rfl rfl (YI _ c rfl rfl)
def aGn{t:TypeId}{j:Nat}:∀(ids:List Nat) (s:S) {cs:List AV},j ∉ ids->s.H j=I (.box t cs)->∃cs',(ids.foldl S.kill s).H j=I (.box t cs')/\ ∀id2 z2 cs1,cs= .ptr id2 z2 0 0::cs1->id2 ∉ ids->∃KW,cs'= .ptr id2 z2 0 0::KW
 | [],s,cs,_,h=>⟨cs,h,λ_ _ c e _=>⟨c,e⟩⟩
 | i::ids,s,cs,hj,h=>by
  have hne:j≠i:=λe=>hj<|e▸Ao;obtain⟨c',h1,h2⟩:=aGn (t:=t) (j:=j) ids (s.kill i) (cs:=cs.map<|kl1 i) (λhm=>hj<|Aj _ hm) (by
   show upd (λj=>CN (kl1 i)<|s.H j) i G j=_;rw[BE _ _ hne,h];rfl)
  refine⟨c',h1,λid2 z2 cs1 e hn=> ?_⟩;subst e;have hn2:id2≠i:=λe=>hn<|e▸Ao;have e1:Ah id2 i=A0:=by rw[← GS,HU];exact hn2
  exact h2 id2 z2 (cs1.map<|kl1 i) (by simp[kl1,e1]) λhm=>hn<|Aj _ hm
def aEd{t:TypeId}{j:Nat}:∀(ids:List Nat) (s:S) {cs:List AV},j ∉ ids->s.H j=I (.box t cs)->∃cs',(ids.foldl S.freeze s).H j=I (.box t cs')/\ ∀id2 z2 cs1,cs= .ptr id2 z2 0 0::cs1->id2 ∉ ids->∃KW,cs'= .ptr id2 z2 0 0::KW
 | [],s,cs,_,h=>⟨cs,h,λ_ _ c e _=>⟨c,e⟩⟩
 | i::ids,s,cs,hj,h=>by
  have hne:j≠i:=λe=>hj<|e▸Ao;have:∃cs',(s.freeze i).H j=I (.box t cs')/\ ∀id2 z2 cs1,cs= .ptr id2 z2 0 0::cs1->id2≠i->∃KW,cs'= .ptr id2 z2 0 0::KW:=by
   unfold S.freeze;split
   .rename_i k xs _;refine⟨cs.map<|fz1 i k xs, ?_,λid2 z2 cs1 e hn=> ?_⟩
    .show upd (λj=>CN (fz1 i k xs)<|s.H j) i G j=_;rw[BE _ _ hne,h];rfl
    .subst e;have e1:Ah id2 i=A0:=by rw[← GS,HU];exact hn
     exact⟨cs1.map<|fz1 i k xs,by simp[fz1,e1]⟩
   .refine⟨cs.map<|kl1 i, ?_,λid2 z2 cs1 e hn=> ?_⟩
    .show upd (λj=>CN (kl1 i)<|s.H j) i G j=_;rw[BE _ _ hne,h];rfl
    .subst e;have e1:Ah id2 i=A0:=by rw[← GS,HU];exact hn
     exact⟨cs1.map<|kl1 i,by simp[kl1,e1]⟩
  obtain⟨c',h',hd'⟩:=this;obtain⟨c2,h2,h3⟩:=aEd (t:=t) (j:=j) ids (s.freeze i) (λhm=>hj<|Aj _ hm) h';refine⟨c2,h2,λid2 z2 cs1 e hn=> ?_⟩;obtain⟨KW,e'⟩:=hd' id2 z2 cs1 e (λe=>hn<|e▸Ao);exact h3 id2 z2 KW e' λhm=>hn<|Aj _ hm
def ax4{t:TypeId}{j:Nat}(q:Bool)(ids:List Nat)(s:S){cs:List AV}(hj:¬(q=Y/\j∈ids))(h:s.H j=I (.box t cs)):
  ∃cs',(GR q ids s).H j=I (.box t cs')/\ ∀id2 z2 cs1,cs= .ptr id2 z2 0 0::cs1->¬(q=Y/\id2∈ids)->∃KW,cs'= .ptr id2 z2 0 0::KW:=by
 cases q with
 | false=>exact⟨cs,h,λ_ _ c e _=>⟨c,e⟩⟩
 | true=>
  obtain⟨c',h1,h2⟩:=aEd ids s (λhm=>hj ⟨rfl,hm⟩) h;exact⟨c',h1,λid2 z2 cs1 e hn=>h2 id2 z2 cs1 e λhm=>hn ⟨rfl,hm⟩⟩
def aal{cs:List AV}{vs:List Value}(h:RL (R1 w β) cs vs):R2 w β (M7 cs) (MS vs):=by
 match cs,vs,h with
 | [],vs,h=>
  have:=h.of_nil;subst this;exact⟨[],rfl,.nil⟩
 | [c],vs,h=>
  obtain⟨v,vs',rfl,h1,h2⟩:=h.CE;have:=h2.of_nil;subst this;exact .HY h1
 | c::c'::cs,vs,h=>
  obtain⟨v,vs',rfl,h1,h2⟩:=h.CE;obtain⟨v',am4,rfl,h3,h4⟩:=h2.CE;exact⟨v::v'::am4,rfl,h⟩
def aH2:∀(ps:List Sh) (k:Nat) (t:Nat),t∈E5 k ps->k<=t/\ ∃e l,ps[t - k]? =I (.box e l)
 | [],_,_,h=>by cases h
 | p::ps,k,t,h=>by
  have tail:t∈E5 (k+1) ps->k<=t/\ ∃e l,(p::ps)[t - k]? =I (.box e l):=λh=>by
   obtain⟨h1,e,l,h2⟩:=aH2 ps (k+1) t h;refine⟨J,e,l, ?_⟩;have:t - k=(t - (k+1))+1:=J
   rw[this];simpa using h2
  unfold E5 at h;split at h
  .rename_i hb;obtain rfl|h:=Bl.1 h
   .refine⟨Au _, ?_⟩;cases p<;>first|(cases hb;done)|skip
    rename_i t0 l0;exact⟨t0,l0,by simp⟩
   .exact tail h
  .exact tail h
def aGD{H:Hp}:∀ {ps:List Sh} {cs:List AV} {x:LTs ps},GK E H ps cs=I x->∀ {i:Nat} {h:Sh},ps[i]? =I h->∃c y,cs[i]? =I c/\Bo E H h c=I y
 | [],cs,x,_,i,h,hi=>by simp at hi
 | _::_,[],_,h,_,_,_=>by cases h
 | p::ps,c::cs,x,hx,i,h,hi=>by
  obtain⟨x1,e1,hx⟩:=Ai.1 hx;obtain⟨x2,e2,hx⟩:=Ai.1 hx;cases i with
  | zero=>simp at hi;subst hi;exact⟨c,x1,rfl,e1⟩
  | succ i=>
   obtain⟨c',y,h1,h2⟩:=aGD e2 (by simpa using hi);exact⟨c',y,by simpa using h1,h2⟩
end
end Go.VS
namespace Go.VS
open Go
def okQ(P:Program)(m:DX):Bool:=ay P m.ps&&K4 m.rs&&(Il m.rs).all λt=>(E5 0 m.ps).any λp=>Ah p t
section
variable {B B':Be} {β β':Beta} {H:Hp} {w w':World} {M M':Nat->Prop} {stk:List (Array Value)} {s s':S} {a:Act} {P:Program} {E:Nat->AV} {e:Nat->Value} {b:Nat} {C:Cx}
def aEr{o:Oper}{f:FuncId}{args:List Operand}{ts:Array TypeId}{K:Act->World->Prop}{Q:Exit->Act->World->Prop}(hE:M6 P f)(ho:o.op= .call { callee:= .value<|.func f,args:=args.toArray,argTypes:=ts })
  {R:Ending->World->Prop}(hc:Calls P f (args.map a.eval).toArray w R)(hR:∀en w',R en w'->∃v,en= .returned v/\K (a.put o.dst v) w'):o.wp P a w K Q:=by
 unfold Oper.wp;have h1:execOp a.eval o=callFunc f (args.map a.eval).toArray:=by
  have ef:a.eval (.func f)= .func (.func f) #[] #[]:=rfl;unfold execOp;simp[ho,resolve,Deferred.ofValue,invoke,ef]
 rw[h1,hE];refine MR hc λen w' h=> ?_;obtain⟨v,rfl,hk⟩:=hR en w' h;exact hk
def aEW:∀(ids:List Nat) (s:S),(ids.foldl S.kill s).gs=s.gs/\(ids.foldl S.kill s).n=s.n/\(ids.foldl S.kill s).pins=s.pins
 | [],_=>⟨rfl,rfl,rfl⟩
 | i::ids,s=>aEW ids (s.kill i)
def at5(q:Bool)(ids:List Nat)(s:S):(GR q ids s).gs=s.gs/\(GR q ids s).n=s.n/\(GR q ids s).pins=s.pins:=by
 cases q with
 | false=>exact⟨rfl,rfl,rfl⟩
 | true=>
  obtain⟨h1,h2,h3,_⟩:=XN ids s;exact⟨h1,h2,h3⟩
def atF{h:Sh}{x:LT h}{v:Value}{os:List (Value×Nat)}(ht:qE h=Y)(hr:Rel P w M e h x v os):(BI E H b h x).2.2=b+os.length:=by
 by_cases hh:Ip h=Y
 .exact aHD h H b x v os hh hr
 .cases h<;>first|(exact absurd ht hh;done)|skip
  case agg l=>
   obtain⟨us,rfl,h1⟩:=hr;have un:BI E H b (.agg l) x=(match Ak E H b l x with|(cs,H,b)=>(AV.agg cs,H,b)):=rfl;have:=YF (E:=E) l H b x us os ht h1;rw[un];generalize Ak E H b l x=r at *;exact this
  case arr k=>
   obtain⟨rfl,h1⟩:=hr;rfl
def aES:∀ {l:List Sh} {H:Hp} {b:Nat} {x:LTs l} {us:List Value} {os:List (Value×Nat)},K4 l=Y->Cj P w M e l x us os->(Ak E H b l x).2.2=b+os.length
 | [],H,b,x,us,os,_,hr=>by obtain⟨_,rfl⟩:=hr;rfl
 | h::l,H,b,x,us,os,hl,hr=>by
  obtain⟨u,us',o1,o2,rfl,rfl,h1,h2⟩:=hr;simp only[K4,AD]at hl;have un:Ak E H b (h::l) x=(match BI E H b h x.1 with|(c,H,b)=>match Ak E H b l x.2 with|(cs,H,b)=>(c::cs,H,b)):=rfl;have k:=atF (E:=E) (H:=H) (b:=b) hl.1 h1;rw[un];generalize BI E H b h x.1=r at *;obtain⟨c,H',b'⟩:=r;have k:b'=b+o1.length:=k;subst k;have k2:=aES (H:=H') (b:=b+o1.length) hl.2 h2;simp only;generalize Ak E H' (b+o1.length) l x.2=r at *;obtain⟨cs,H'',b''⟩:=r;have k2:b''=_:=k2;simp[k2,DE]
def atc{O:Nat->Prop}(hg:Nb B.P B.w0 B.O)(hs:Hs B β H w)(hO:∀b,O b->MB β b):Nb B.P w O:=by
 obtain⟨w0,h1,h2⟩:=hg;refine⟨w0,h1,λb hb=> ?_⟩;obtain⟨h3,h4,h5⟩:=h2 b hb;exact⟨λh=>(hs.old b<|hO b h).1.elim h3 J,Gq h4 hs.size,(hs.block b h4 h3).trans h5⟩
def aww{m:DX}{f:FuncId}(hS:HH B.P f m)(hk:okQ B.P m=Y){d:Option Nat}{as:List Operand}{o:Oper}{ts:Array TypeId}{K:Act->World->Prop}{Q:Exit->Act->World->Prop}
  (hst:St B β stk s a w)(hfr:∀j,b<=j->j<b+16->s.H j=G)(hd:s.has d=Y)(he:Hl m s b d (as.map s.ev) I=I s')(hod:o.dst=d)(ho:o.op= .call { callee:= .value<|.func f,args:=as.toArray,argTypes:=ts })
  (hK:K9 B stk a d s' K):o.wp B.P a w K Q:=by
 simp only[okQ,AD,Cy,HR]at hk;obtain⟨⟨hps,hrs⟩,hsm⟩:=hk;unfold Hl at he;simp only at he;split at he
 case h_2=>cases he
 rename_i x hx hnd;obtain⟨r,hr,he⟩:=Ai.1 he;simp only[AD]at hnd;have Pa:=Xq hnd.1;generalize hcs:as.map s.ev=cs at *;generalize Hx:as.map a.eval=args;have hlen:args.length=cs.length:=by rw[← hcs,← Hx];simp
 have hrx:∀(i:Nat) (c:AV) (v:Value),cs[i]? =I c->args[i]? =I v->RX w β (Bc a) c v:=λi c v h1 h2=>by
  rw[← hcs,DD]at h1;rw[← Hx,DD]at h2;obtain⟨y,hy,rfl⟩:=DB.1 h1;rw[hy]at h2;cases h2;exact hst.eval y
 have hpl:=XH hx;have rl:RL (R1 w β) cs args:=⟨hlen,λj c u h1 h2=>(hrx j c u h1 h2).Mc (hpl c<|Cn h1).1 (hpl c<|Cn h1).2⟩;generalize hE:(fun(i:Nat)=>(cs[i]?).getD AV.un)=E at *;have aDh:∀ {t:Nat} {c:AV},cs[t]? =I c->E t=c:=λh=>by rw[← hE];simp[h]
 generalize hI:Bm s.H m.ps cs=ids at *;generalize hro:Cd s.H m.ps cs=ro at *;generalize hfz:Cv s.H m.ps cs=fz at *;have azR:ro.Sublist ids:=by rw[← hro,← hI];exact YZ _ _
 have bj:∀i∈ro,Qh s.H i:=by rw[← hro];exact Xz _ _ _ hx
 have bp:∀i∈fz,Qh s.H i:=by rw[← hfz];exact Xm _ _ _ hx
 obtain⟨bc,bv,hFb,hba,ac4,qU⟩:=aEk (E:=E) hst.hs m.ps cs args x hps rl hx;rw[hI]at hba ac4 qU;rw[hro]at qU
 let Zc:Nat->Prop:=λbl=>MZ β bl/\bl ∉ B0 (ids.filterMap β)/\bl ∉ B0 (fz.filterMap β)
 have R:Nr B β s.H w (λbl=>bl∈B0 (ids.filterMap β)\/Zc bl) E (ar args):={
  hs:=hst.hs
  hM:=λbl h=>h.elim (λh=> .inl<|Tl h) (λh=>h.1)
  hE:=λt id z hEt=>by
   cases hc:cs[t]? with
   | none=>rw[← hE]at hEt;simp[hc]at hEt
   | some c=>
    have hlt:t<args.length:=by rw[hlen];exact(BO.1 hc).1
    rw[aDh hc];exact rl.2 t c _ hc (by simp[ar,hlt]) }
 have amo:RQ β (λbl=>bl∈B0 (ids.filterMap β)\/Zc bl) fz:=λi hi p a' hp ha hm=>by
  obtain hm|hm:=hm
  .exact oW hst.hs hnd.2 i hi p a' hp ha (.inl hm)
  .exact hm.2.2<|GZ.2 ⟨p,GZ.2 ⟨i,hi,hp⟩,by simp[HM,ha]⟩
 obtain⟨os,HV,GA⟩:=Xp R m.ps cs args x rl hx (by rw[hfz];exact amo);rw[hI]at GA;have nU:(λbl=>bl∈B0 (ids.filterMap β)\/Zc bl)=λbl=>bl∈B0 os\/Zc bl:=by rw[GA]
 rw[nU]at HV;have bT:∀bl∈B0 os,MB β bl:=λbl h=>by rw[GA]at h;exact Tl h
 have Nh:=hS.2 x r hr w Zc args os HV (by rw[GA];exact YE hst.hs Pa)
  (λbl h=>⟨(hst.hs.old bl<|bT bl h).2,λhz=>hz.2.1 (by rw[← GA];exact h)⟩) (λbl h=>by
   obtain h1|h1:=h.1
   .exact(hst.hs.old bl h1).2
   .exact hst.hs.zl bl h1)
  (atc B.gl hst.hs λbl h=>bT bl h)
 rw[← Hx]at Nh;refine aEr hS.1 ho Nh ?_;rw[Hx];rintro en w' ⟨v,rfl,IX⟩;refine⟨v,rfl, ?_⟩;rw[hod];obtain⟨vs,os1,os2,rfl,hr1,hr2,azl,hbl⟩:=IX.ex;obtain⟨β1,h1,hβ1,hZ1⟩:=St.abn (a:=a) (w:=w) (stk:=stk) ro (Pa.sublist azR) hst;obtain⟨β2,h2,hβ2,hZ2⟩:=h1.alO (CS m.rs||CS (B3 m.ps)) fz;have H4:=at5 (CS m.rs||CS (B3 m.ps)) fz<|ro.foldl S.kill s;have qS:=aEW ro s;have aH8:∀ {id:Nat} {t:TypeId} {cs0:List AV},s.H id=I (.box t cs0)->∃cs1,(GR (CS m.rs||CS (B3 m.ps)) fz<|ro.foldl S.kill s).H id=I (.box t cs1):=fun {id t cs0} hid=>by
  obtain⟨cs1,h⟩:=aFj ro s (λhm=>bj id hm t cs0 hid) hid;exact aw7 _ fz _ (λhm=>bp id hm.2 t cs0 hid) h
 have azk:∀j,s.H j=G->(GR (CS m.rs||CS (B3 m.ps)) fz<|ro.foldl S.kill s).H j=G:=λj hj=>
  (aEc (N:=λ_=>False) (CS m.rs||CS (B3 m.ps)) fz<|BH.qi ro<|BH.refl _ s).nn j (λh=>h) hj
 generalize hq:(CS m.rs||CS (B3 m.ps))=q at *;generalize hs2:GR q fz (ro.foldl S.kill s)=s2 at *;have bg:∀j p,β2 j=I p->β j=I p/\j ∉ ro/\ ¬(q=Y/\j∈fz):=λj p h=>by
  rw[hβ2]at h;split at h
  .cases h
  .rename_i hn;rw[hβ1]at h;split at h
   .cases h
   .rename_i hn';exact⟨h,hn',hn⟩
 have aDf:∀bl,β2.Z bl↔β.Z bl\/ ∃i∈ro,∃p a,β i=I p/\adr p.1=I a/\a.block=bl:=λbl=>by rw[hZ2];exact hZ1 bl
 generalize hbc:Fz m.ps cs=bcT at *;generalize hbv:Jw m.ps args=bvT at *;have hM2:∃M2:Nat->Prop,Cj B.P w' M2 (ar args) m.rs r.1 vs os1/\Cj B.P w' M2 (ar args) (B3 m.ps) r.2 bvT os2/\(q=A0->∀bl,M2 bl)/\(q=Y->∀bl,(bl∈B0 (os1++os2)\/Zc bl)->M2 bl):=by
  cases q with
  | false=>
   simp only[NG]at hq;exact⟨λ_=>True,Cj.anyM _ _ _ _ hq.1 hr1,Cj.anyM _ _ _ _ hq.2 hr2,λ_ _=>trivial,λh=>by cases h⟩
  | true=>exact⟨_,hr1,hr2,(by intro h;cases h),λ_ bl h=>h⟩
 obtain⟨M2,aE2,amb,hMf,hMt⟩:=hM2;generalize hg:BP E s2.H b (B3 m.ps) bcT r.2=g at *;obtain⟨ds,H1,b1⟩:=g;simp only at he;generalize hmk:Ak E H1 b1 m.rs r.1=g at *;obtain⟨rc,Hf,b2⟩:=g;simp only at he;split at he
 case h_2=>cases he
 rename_i hb2;have hb2:=Db hb2;cases he;have Pf:b1<=b2:=by have:=JB E m.rs H1 b1 r.1;rw[hmk]at this;exact this
 have hgb:(BP E s2.H b (B3 m.ps) bcT r.2).2.2<=b+16:=by rw[hg];exact CZ Pf hb2
 have hdK:∀i∈EZ bc,i ∉ ro/\i ∉ fz/\ ∃t cs0,s.H i=I (.box t cs0):=λi hi=>by
  obtain⟨z,hz⟩:=aaS hi;obtain⟨j,hj⟩:=aEA hz;obtain⟨v,_,id,z',bb,k1,_,⟨t,cs0,k3⟩,_,_⟩:=hba.get hj;cases k1;exact⟨λh=>bj i h _ _ k3,λh=>bp i h _ _ k3,t,cs0,k3⟩
 have amS:Fb B.P w' s2.H (B3 m.ps) bcT bvT bc bv:=hFb.carry IX.pk λi hi t cs0 h0=>by
  obtain⟨k1,k2,_⟩:=hdK i hi;obtain⟨cs1,h3,h4⟩:=aGn ro s k1 h0;obtain⟨cs2,h5,h6⟩:=ax4 q fz (ro.foldl S.kill s) (λhm=>k2 hm.2) h3;rw[hs2]at h5;refine⟨cs2,h5,λid2 z2 c1 e hm=> ?_⟩;obtain⟨c2,e2⟩:=h4 id2 z2 c1 e (hdK id2 hm).1;exact h6 id2 z2 c2 e2 λhm'=>(hdK id2 hm).2.1 hm'.2
 obtain⟨nw,aze,hb1,hgi⟩:=mO (E:=E) (P:=B.P) (w:=w') (M:=M2) (e:=ar args) (B3 m.ps) s2.H b r.2 bcT bc bvT bv os2 (b+16) amS (Pa.sublist ac4)
  (λi hi hh=>by
   obtain⟨_,_,t,cs0,k3⟩:=hdK i hi;rw[hfr i hh.1 hh.2]at k3;cases k3) amb hgb
 rw[hg]at hb1 hgi;simp only at hb1 hgi
 let os':=nw++os1
 let β3:Beta:=⟨λj=>if b<=j/\j<b+os'.length then os'[j - b]? else β2 j,B.Z⟩
 have Un:∀j p,β3 j=I p->(b<=j/\j<b+os'.length/\os'[j - b]? =I p)\/(¬(b<=j/\j<b+os'.length)/\β2 j=I p):=λj p h=>by
  have h:(if b<=j/\j<b+os'.length then os'[j - b]? else β2 j)=I p:=h;split at h
  .rename_i hh;exact .inl ⟨hh.1,hh.2,h⟩
  .rename_i hh;exact .inr ⟨hh,h⟩
 have Ru:Num β3 b os':=λi p hp=>by
  have hlt:=(BO.1 hp).1;show(if b<=b+i/\b+i<b+os'.length then os'[b+i - b]? else β2 (b+i))=I p;rw[A5 ⟨J,J⟩,show b+i - b=i by omega];exact hp
 have bX:(B0 os2).Perm (B0 nw++B0 (bv.map λv=>(v,1))):=by
  have:=aze.filterMap HM;rwa[MJ]at this
 have Um:∀bl,bl∈B0 os'->bl∈B0 (os1++os2):=λbl h=>by
  simp only[os',B0,MJ,BM]at h ⊢;obtain h|h:=h
  .exact .inr (bX.mem_iff.2<|Bv _ h)
  .exact .inl h
 have bk:(B0 os'++B0 (bv.map λv=>(v,1))).Nodup:=by
  have h1:(B0<|os1++os2).Perm (B0 os'++B0 (bv.map λv=>(v,1))):=by
   simp only[os',B0,MJ]at bX ⊢;refine(Zt _ bX).trans ?_;rw[← C5];exact List.Perm.append_right _ List.perm_append_comm
  exact h1.nodup_iff.1 azl
 have alI:(B0 os').Nodup:=(JZ.1 bk).1;have qd:∀i,i∈ids->i ∉ ro->∃v,(v,1)∈bv.map (λv=>(v,1))/\β i=I (v,1)/\(∃z,AV.ptr i z 0 0∈bc):=λi hi hn=>by
  obtain h|⟨z,h⟩:=qU i hi
  .exact absurd h hn
  .obtain⟨j,hj⟩:=aEA h;obtain⟨v,hv,id,z',bb,k1,k2,k3,k4,k5⟩:=hba.get hj;cases k1;exact⟨v,By.2 ⟨v,Cn hv,rfl⟩,k4,z,h⟩
 have qp:∀j p a',β2 j=I p->adr p.1=I a'->a'.block∈B0 os->j∈ids/\j ∉ ro:=λj p a' hj ha hm=>by
  obtain⟨h0,h1,_⟩:=bg j p hj;rw[GA]at hm;obtain⟨i,hi,p',a2,hp',ha',e'⟩:=Mz hm;have:=hst.hs.inj j i p p' a' a2 h0 hp' ha ha' e'.symm;subst this;exact⟨hi,h1⟩
 have abo:∀bl,bl∈B0 os->MZ β2 bl:=λbl hm=>by
  have hm':=hm;rw[GA]at hm;obtain⟨i,hi,p,a',hp,ha,e'⟩:=Mz hm;by_cases hr:i∈ro
  .exact .inr ((aDf bl).2<|.inr ⟨i,hr,p,a',hp,ha,e'⟩)
  .refine .inl ⟨i,p.1,p.2,a', ?_,ha,e'⟩;have hnf:i ∉ fz:=λhf=>aH4 hnd.2 i hf hi;rw[hβ2,A9 λh=>hnf h.2,hβ1,A9 hr];exact hp
 have qj:∀bl,MB β3 bl->MB β2 bl\/bl∈B0 os':=λbl hm=>by
  obtain⟨j,hd',n,a',hj,ha,e'⟩:=hm;obtain⟨_,_,hj⟩|⟨_,hj⟩:=Un j _ hj
  .exact .inr (GZ.2 ⟨_,Cn hj,by simp[HM,ha,e']⟩)
  .exact .inl ⟨j,hd',n,a',hj,ha,e'⟩
 have Cr:∀bl o v,¬MZ β2 bl->w.cell? ⟨bl,o,G⟩=I v->w'.cell? ⟨bl,o,G⟩=I v:=λbl o v hn hc=>by
  have hlt:=block_lt_of_cell hc;rw[U6 (w:=w) (w':=w')<|IX.block bl hlt λhm=>hn<|abo bl hm];exact hc
 have amR:∀bl,¬MZ β2 bl->bl<w.heap.size->¬MZ β3 bl:=λbl hn hlt hm=>by
  obtain hm|hm:=hm
  .rcases qj bl hm with h|h
   .exact hn (.inl h)
   .rcases(hbl bl<|Um bl h).1 with h3|h3
    .exact hn (abo bl h3)
    .omega
  .exact hn<|.inr<|(aDf bl).2<|.inl (by rw[hst.hs.z];exact hm)
 have bf:∀j p,β2 j=I p->β3 j=I p:=λj p hj=>by
  have hne:¬(b<=j/\j<b+os'.length):=λhh=>by
   have alL:os'.length=nw.length+os1.length:=by simp[os']
   have h3:=(hgi:_);obtain⟨ob,hob⟩:=h2.hs.dom j p hj;have:=azk j (hfr j hh.1 (by
    have:b2=b1+os1.length:=by
     have:=aES hrs aE2 (E:=E) (H:=H1) (b:=b1);rw[hmk]at this;exact this
    omega))
   rw[this]at hob;cases hob
  show(if b<=j/\j<b+os'.length then os'[j - b]? else β2 j)=I p;rw[A9 hne];exact hj
 have hkp:Kp w β2 w' β3:=λc v hc=>hc.mono bf Cr amR;have hM3:∀bl,MZ β3 bl->M2 bl:=λbl hm=>by
  cases q with
  | false=>exact hMf rfl bl
  | true=>
   refine hMt rfl bl ?_;obtain hm|hm:=hm
   .rcases qj bl hm with h|h
    .obtain⟨j,hd',n,a',hj,ha,e'⟩:=h;obtain⟨k1,k2,k3⟩:=bg j _ hj;by_cases hji:j∈ids
     .obtain⟨v,hv1,hv2,_⟩:=qd j hji k2;rw[k1]at hv2;cases hv2;refine .inl ?_;simp only[B0,MJ,BM];refine .inr (bX.mem_iff.2<|CV _<|GZ.2 ⟨_,hv1,by simp[HM,ha,e']⟩)
     .refine .inr ⟨.inl ⟨j,hd',n,a',k1,ha,e'⟩,λhb=> ?_,λhb=> ?_⟩
      .rw[← GA,← e']at hb;exact hji (qp j _ a' hj ha hb).1
      .obtain⟨i,hi,p,a2,hp,ha2,e2⟩:=Mz hb;have:=hst.hs.inj j i _ p a' a2 k1 hp ha ha2<|e'.trans e2.symm;subst this;exact k3 ⟨rfl,hi⟩
    .exact .inl (Um bl h)
   .have hz:β.Z bl:=by rw[hst.hs.z];exact hm
    refine .inr ⟨.inr hz,λhb=> ?_,λhb=> ?_⟩
    .obtain⟨i,hi,p,a2,hp,ha2,e2⟩:=Mz hb;exact hst.hs.zn i p a2 hp ha2 (e2▸hz)
    .obtain⟨i,hi,p,a2,hp,ha2,e2⟩:=Mz hb;exact hst.hs.zn i p a2 hp ha2<|e2▸hz
 obtain⟨g1,g2,g3,g4⟩:=hgi β3 hM3 Ru.left (λi c v k1 k2 id z hc=>by
  obtain⟨id',z',bb,j1,j2,j3,j4,j5⟩:=hba.2 i c v k1 k2;rw[hc]at j1;cases j1;refine bf id _ ?_;have hnr:id ∉ ro:=λh=>bj id h _ _ j3.choose_spec.choose_spec;have hnf:id ∉ fz:=λh=>bp id h _ _ j3.choose_spec.choose_spec;rw[hβ2,A9 λh=>hnf h.2,hβ1,A9 hnr];exact j4)
 have azb:US w' β3 E (ar args) (Il m.rs):=λt ht=>by
  obtain⟨p,hp1,hp2⟩:=hsm t ht;obtain rfl:=Bn hp2;obtain⟨_,e1,l1,hp3⟩:=aH2 m.ps 0 p hp1;rw[Jd]at hp3;obtain⟨c,y,hc,hy⟩:=aGD hx hp3;have hlt:p<args.length:=by rw[hlen];exact(BO.1 hc).1
  have hR:=rl.2 p c (ar args p) hc (by simp[ar,hlt]);rw[aDh hc];cases c<;>first|(cases hy;done)|skip
  rename_i id z i' o';cases i'<;>cases o'<;>simp only[Bo]at hy<;>first|(cases hy;done)|skip
  split at hy
  case h_2=>cases hy
  rename_i t' cs' hid;have hnr:id ∉ ro:=λh=>bj id h _ _ hid;have hnf:id ∉ fz:=λh=>bp id h _ _ hid;have hR:=hR.Rq;generalize ar args p=v at hR;cases hR with
  | ptr k1 k2 k3=>exact .MX<|.ptr (bf id _ (by rw[hβ2,A9 λh=>hnf h.2,hβ1,A9 hnr];exact k1)) k2 k3
 obtain⟨f1,f2,f3⟩:=Yt (β:=β3) (E:=E) (M:=M2) (P:=B.P) (w:=w') (e:=ar args) hM3 m.rs H1 b1 r.1 vs os1 hrs aE2 (by rw[hb1];exact Ru.right) azb;rw[hmk]at f1 f2 f3;simp only at f1 f2 f3;have alL:os'.length=nw.length+os1.length:=by simp[os']
 have aE6:∀j,(∃ob,Hf j=I ob/\EC B.P w' β3 j ob)\/(Hf j=s2.H j/\ ∀z,AV.ptr j z 0 0 ∉ bc):=λj=>by
  by_cases hj:b1<=j/\j<b1+os1.length
  .exact .inl (f3.2 j hj.1 hj.2)
  .have e1:Hf j=H1 j:=f3.1 j J;obtain h|⟨ob,h,h'⟩:=g1 j
   .by_cases hm:∃z,AV.ptr j z 0 0∈bc
    .obtain⟨z,hm⟩:=hm;obtain⟨ob,h3,h4⟩:=g3 j z hm;exact .inl ⟨ob,by rw[e1];exact h3,h4⟩
    .exact .inr ⟨e1.trans h,λz hz=>hm ⟨z,hz⟩⟩
   .exact .inl ⟨ob,by rw[e1];exact h,h'⟩
 have hHf:Hs B β3 Hf w':={
  EM:=λj ob hj=>by
   obtain⟨ob',h3,h4⟩|⟨h3,h4⟩:=aE6 j
   .rw[h3]at hj;cases hj;exact h4
   .rw[h3]at hj;have hob:=h2.hs.EM j ob hj;have hex:∃p,β2 j=I p:=by
     cases ob with
     | box e cs=>obtain⟨_,_,h,_⟩:=hob;exact⟨_,h⟩
     | row e fz k xs=>obtain⟨_,h,_⟩:=hob;exact⟨_,h⟩
     | arr e k xs=>obtain⟨_,_,h,_⟩:=hob;exact⟨_,h⟩
    obtain⟨p,hp⟩:=hex;refine hob.mono (by rw[bf j p hp,hp]) hkp λp' a' hp' ha'=> ?_;rw[hp]at hp';cases hp';have hlt:=(h2.hs.old a'.block ⟨j,p.1,p.2,a',hp,ha',rfl⟩).2;refine IX.block a'.block hlt λhm=> ?_;obtain⟨h5,h6⟩:=qp j p a' hp ha' hm;obtain⟨_,_,_,z,hz⟩:=qd j h5 h6;exact h4 z hz
  dom:=λj p hj=>by
   obtain⟨ob',h3,_⟩|⟨h3,_⟩:=aE6 j
   .exact⟨ob',h3⟩
   .rcases Un j p hj with⟨k1,k2,k3⟩|⟨_,hj⟩
    .by_cases hjb:j<b+nw.length
     .obtain⟨ob,k4,_⟩:=g2 j k1 hjb;have:Hf j=H1 j:=f3.1 j J;exact⟨ob,by rw[this];exact k4⟩
     .obtain⟨ob,k4,_⟩:=f3.2 j J J;exact⟨ob,k4⟩
    .obtain⟨ob,k4⟩:=h2.hs.dom j p hj;exact⟨ob,by rw[h3];exact k4⟩
  inj:=λi j p p' a1 a2 hi hj ha1 ha2 hb=>by
   have Uv:∀(i j:Nat) (p p':Value×Nat) (a1 a2:Addr),β2 i=I p->os'[j - b]? =I p'->adr p.1=I a1->adr p'.1=I a2->a1.block=a2.block->False:=by
    intro i j p p' a1 a2 hi hj ha1 ha2 hb;have hm2:a2.block∈B0 os':=GZ.2 ⟨p',Cn hj,by simp[HM,ha2]⟩;rcases(hbl a2.block<|Um _ hm2).1 with h3|h3
    .rw[← hb]at h3;obtain⟨h5,h6⟩:=qp i p a1 hi ha1 h3;obtain⟨v,hv1,hv2,_⟩:=qd i h5 h6;rw[(bg i p hi).1]at hv2;cases hv2;have hm1:a1.block∈B0 (bv.map λv=>(v,1)):=GZ.2 ⟨_,hv1,by simp[HM,ha1]⟩;exact(JZ.1 bk).2.2 _ hm2 _ hm1 hb.symm
    .have:=(h2.hs.old a1.block ⟨i,p.1,p.2,a1,hi,ha1,rfl⟩).2;omega
   obtain⟨i1,i2,i3⟩|⟨_,i3⟩:=Un i p hi<;>obtain⟨j1,j2,j3⟩|⟨_,j3⟩:=Un j p' hj
   .have:=Yr alI (i - b) (j - b) p p' a1 a2 i3 j3 ha1 ha2 hb;omega
   .exact(Uv j i p' p a2 a1 j3 i3 ha2 ha1 hb.symm).elim
   .exact(Uv i j p p' a1 a2 i3 j3 ha1 ha2 hb).elim
   .exact h2.hs.inj i j p p' a1 a2 i3 j3 ha1 ha2 hb
  old:=λbl hm=>by
   obtain h|h:=qj bl hm
   .exact⟨(h2.hs.old bl h).1,Gq (h2.hs.old bl h).2 IX.size⟩
   .have h3:=hbl bl<|Um bl h;refine⟨?_,h3.2⟩;obtain h4|h4:=h3.1
    .exact(hst.hs.old bl<|bT bl h4).1
    .exact .inr (CZ hst.hs.size h4)
  os:=IX.wos.trans hst.hs.os
  tape:=IX.tape.trans hst.hs.tape
  output:=IX.output.trans hst.hs.output
  size:=CZ hst.hs.size IX.size
  block:=λbl hlt hO=>by
   rw[IX.block bl (Gq hlt hst.hs.size) λhm=> ?_]
   .exact hst.hs.block bl hlt hO
   .rcases(hst.hs.old bl<|bT bl hm).1 with h|h
    .exact hO h
    .omega
  z:=rfl
  zn:=λj p a' hj ha hz=>by
   obtain⟨_,_,j3⟩|⟨_,j3⟩:=Un j p hj
   .have hm2:a'.block∈B0 os':=GZ.2 ⟨p,Cn j3,by simp[HM,ha]⟩;rcases(hbl a'.block<|Um _ hm2).1 with h3|h3
    .rw[GA]at h3;obtain⟨i,hi,p2,a2,hp2,ha2,e2⟩:=Mz h3;exact hst.hs.zn i p2 a2 hp2 ha2 (by rw[e2,hst.hs.z];exact hz)
    .have:=hst.hs.zl a'.block (by rw[hst.hs.z];exact hz);omega
   .exact hst.hs.zn j p a' (bg j p j3).1 ha (by rw[hst.hs.z];exact hz)
  zl:=λbl hz=>Gq (hst.hs.zl bl (by rw[hst.hs.z];exact hz)) IX.size
  pk:=hst.hs.pk.trans IX.pk }
 have nO:St B β3 stk { s2 with H:=Hf } a w':=by
  refine⟨λt=>RT.mono hkp<|h2.T t,⟨h2.stack.1,λi T tm k1 k2 t=>RT.mono hkp<|h2.stack.2 i T tm k1 k2 t⟩,h2.n,h2.defers,h2.pins,h2.gs,hHf⟩
 have Ee:({ s2 with H:=Hf } :S).has d=Y:=by
  have:({ s2 with H:=Hf } :S).has d=s.has d:=Qo (H4.1.trans qS.1) (H4.2.1.trans qS.2.1) (H4.2.2.trans qS.2.2) d;rw[this];exact hd
 exact hK β3 (MS vs) w'<|Qm nO Ee<|aal f1
end
end Go.VS
namespace Go.VS
open Go
section
variable {B:Be} {β β':Beta} {H:Hp} {w w':World} {stk:List (Array Value)} {s s':S} {a:Act} {P:Program} {C:Cx}
def mb(hΓ:∀f d m,C.Γ f d=I m->HH P f m/\okQ P m=Y)(B:Be)(hB:B.P=P):Hd C B:=by
 intro f d m hm β stk s a w b as s' o ts K Q hst hfr hd he hod ho hK;obtain⟨h1,h2⟩:=hΓ f d m hm;rw[← hB]at h1 h2;exact aww h1 h2 hst hfr hd he hod ho hK
def aH1{c:AV}(h:plB c=Y):(∀g w v,c≠ .gd g w v)/\ ∀vs,c≠ .tup vs:=by
 constructor
 .rintro g w v rfl;cases h
 .rintro vs rfl;cases h
def aHz(hP:C.P=B.P)(hm:B.P.follows .mixedOrders=Y)(hC:Hd C B):∀n,JL C B<|NT C n
 | 0=>aHC C B
 | n+1=>by
  intro Ω f d as s k q he β stk a w o args ts K Q hst hfr hd hod has ho hK;have ih:=aHz hP hm hC n;unfold NT at he;simp only at he;split at he
  .cases he
  rename_i fn hfn;split at he
  case h_2=>cases he
  rename_i body ac6 KS;split at he
  case h_2=>cases he
  rename_i ac5;simp only[AD]at ac5;obtain⟨⟨hc1,hc2⟩,hc3⟩:=ac5;have hpl:∀c∈as,(∀g w v,c≠ .gd g w v)/\ ∀vs,c≠ .tup vs:=λc hc=>aH1<|Cy.1 hc3 c hc;have hlen:as.length<=fn.ntmps:=Db hc2;rw[hP]at hfn;refine aEr (OP hfn (by simpa using KS) ac6) ho (R:=λen w'=>∃v,en= .returned v/\K (a.put o.dst v) w') ?_ (λen w' h=>h);refine calls_of_wp hfn ac6 ?_;have Hx:(args.map a.eval).length=as.length:=by rw[has];simp
  have alW:St B β (a.tmps::stk) { s with n:=fn.ntmps,T:=λt=>(as[t]?).getD Dr,st:=s.T::s.st,pins:=[],gs:=λ_=>A0 }
    { tmps:=(args.map a.eval).toArray++R9 (fn.ntmps - (args.map a.eval).toArray.size) undef,defers:=[] } w:=by
   refine⟨λt=> ?_,⟨by simp[hst.stack.1],λi T tm h1 h2 t=> ?_⟩, ?_,rfl,λt ht=>by simp at ht,λt g want y hy=> ?_,hst.hs⟩
   .rw[Sx];show RT w β _ ((as[t]?).getD Dr) _;cases hv:as[t]? with
    | none=>
     have:(args.map a.eval).length<=t:=by rw[Hx];exact Zy.1 hv
     have e0:ar (args.map a.eval) t=undef:=by simp only[ar,BA,Ht this];rfl
     rw[e0];exact(show R2 w β Dr undef from rfl)
    | some c=>
     have hv':=hv;rw[has,DD]at hv';obtain⟨x,hx,rfl⟩:=DB.1 hv';have e0:ar (args.map a.eval) t=a.eval x:=by simp[ar,hx]
     rw[e0];have hp:=hpl _<|Cn hv;exact((hst.eval x).Mc hp.1 hp.2).c8
   .cases i with
    | zero=>
     simp at h1 h2;subst h1;subst h2;exact hst.T t
    | succ i=>exact hst.stack.2 i T tm (by simpa using h1) (by simpa using h2) t
   .simp only[RB,L8,ny];omega
   .have hy:(as[t]?).getD Dr= .gd g want y:=hy;cases hv:as[t]? with
    | none=>rw[hv]at hy;cases hy
    | some c=>
     rw[hv]at hy;exact absurd hy<|(hpl c<|Cn hv).1 _ _ _
  have key:∀β' a' w' s',St B β' (a.tmps::stk) s' a' w'->Fr s'->(match s'.st,Qe C.P s' fn.results.toList with
     | T::st,I vs=>match vs.all plB with
      | true=>k ({ s' with n:=s.n,T:=λt=>PM<|T t,st:=st,pins:=s.pins,gs:=λ_=>A0 }.put d<|M7 vs)
      | false=>G
     | _,_=>G)=I q->a'.defers=[]/\ ∃v,(results fn a'.tmps).run B.P w'= .ok v w'/\ ∃v',Ending.returned v= .returned v'/\K (a.put o.dst v') w':=by
   intro β' a' w' s' h1 h2 h3;refine⟨h1.defers, ?_⟩;split at h3
   case h_2=>cases h3
   rename_i T st vs Md hvs;split at h3
   case h_2=>cases h3
   rename_i Fc;obtain⟨us,k1,k2,k3⟩:=Yz hP h1 fn.results.toList hvs;rw[hP]at k1;refine⟨MS us,aD9 k1,MS us,rfl, ?_⟩;rw[hod];have rl:RL (R1 w' β') vs us:=⟨k2,λj c u e1 e2=>by
    have hp:=aH1<|Cy.1 Fc c<|Cn e1;exact(k3 j c u e1 e2).Mc hp.1 hp.2⟩
   have Rs:=h1.stack;rw[Md]at Rs;have hTt:∀t,RT w' β' (Bc a) (T t) (Bc a t):=λt=>Rs.2 0 T a.tmps rfl rfl t;have alV:St B β' stk { s' with n:=s.n,T:=λt=>PM<|T t,st:=st,pins:=s.pins,gs:=λ_=>A0 } a w':=by
    refine⟨λt=> ?_,⟨by simpa using Rs.1,λi T' tm e1 e2 t=>Rs.2 (i+1) T' tm (by simpa using e1) (by simpa using e2) t⟩,hst.n,hst.defers,hst.pins,λt g want y hy=> ?_,h1.hs⟩
    .have:=hTt t;show RT w' β' _ (PM<|T t) _;cases hT:T t<;>rw[hT]at this<;>first|exact this|trivial
    .have hy:PM (T t)= .gd g want y:=hy;unfold PM at hy;split at hy
     .cases hy
     .rename_i hn;exact absurd hy<|hn _ _ _
   have Ee:({ s' with n:=s.n,T:=λt=>PM<|T t,st:=st,pins:=s.pins,gs:=λ_=>A0 } :S).has d=Y:=by
    cases d with
    | none=>rfl
    | some d=>
     simp only[S.has,AD,C6]at hd ⊢;exact⟨hd.1,trivial⟩
   refine hK β' (MS us) w' _ (Qm alV Ee<|aal rl) (λj hj=> ?_) ?_ ?_ h3
   .have hj:s'.nid<=j:=by cases d<;>exact hj
    have:=h2 j hj;cases d<;>exact this
   .cases d<;>rfl
   .cases d<;>rfl
  refine YL hP hm hC ih body .nil _ _ q he alW hfr (GF _ body) ⟨?_, ?_, ?_⟩
  .exact λβ' a' w' s' h1 h2 _ _ h5=>key β' a' w' s' h1 h2 h5
  .exact λβ' a' w' s' h1 h2 _ _ h5=>key β' a' w' s' h1 h2 h5
  .intro id β' a' w' s' h1 h2 h3 h4 h5;cases h5
end
def Bj{A R:Type}(t:(A->Option R)->A->Option R):Nat->A->Option R
 | 0=>λ_=>G
 | n+1=>t (Bj t n)
open Classical in
def NS {A R:Type} (t:(A->Option R)->A->Option R) (x:A):Option R:=
 if h:∃n r,Bj t n x=I r then I (NH<|Iv h) else G
def aG2{A R:Type}{t:(A->Option R)->A->Option R}{x:A}{r:R}(h:NS t x=I r):∃n,Bj t n x=I r:=by
 unfold NS at h;split at h
 .rename_i hn;have:=Iv<|Iv hn;cases h;exact⟨_,this⟩
 .cases h
def asO{P:Program}{f:FuncId}{ps rs:List Sh}{t:(LTs ps->Option (LTs rs×LTs (B3 ps)))->LTs ps->Option (LTs rs×LTs (B3 ps))}(he:M6 P f)
  (h:∀g,HH P f ⟨ps,rs,g⟩->HH P f ⟨ps,rs,t g⟩):HH P f ⟨ps,rs,NS t⟩:=by
 have hn:∀n,HH P f ⟨ps,rs,Bj t n⟩:=by
  intro n
  induction n with
  | zero=>exact⟨he,λx r hx=>by cases hx⟩
  | succ n ih=>exact h _ ih
 refine⟨he,λx r hx=> ?_⟩;obtain⟨n,hx⟩:=aG2 hx;intro w Z args os h1 h2 h3 h4 h5;exact MR ((hn n).2 x r hx w Z args os h1 h2 h3 h4 h5) λen w' ⟨v,e,hr⟩=>⟨v,e,⟨hr.ex,hr.wos,hr.tape,hr.output,hr.size,hr.block,hr.pk⟩⟩
end Go.VS
namespace Go.VS
open Go
def gam:List (Nat×Option Nat×DX)->Nat->Option Nat->Option DX
 | [],_,_=>G
 | (f,e,m)::l,g,d=>match Ah f g&&(match e,d with
   | none,_=>Y
   | some a,I b=>Ah a b
   | some _,G=>A0) with
  | true=>I m
  | false=>gam l g d
def RP(P:Program)(l:List (Nat×Option Nat×DX)):Prop:=∀e∈l,HH P e.1 e.2.2/\okQ P e.2.2=Y
def AI{P:Program}:RP P []:=λe h=>by cases h
def pf{P:Program}{l:List (Nat×Option Nat×DX)}(h:RP P l):∀f d m,gam l f d=I m->HH P f m/\okQ P m=Y:=by
 induction l with
 | nil=>intro f d m hm;cases hm
 | cons e l ih=>
  obtain⟨g,e,m'⟩:=e;intro f d m hm;unfold gam at hm;split at hm
  .rename_i hc;simp only[AD]at hc;cases hm;obtain rfl:=Bn hc.1;exact h _ Ao
  .exact ih (λe he=>h e<|Aj _ he) f d m hm
def Fy:Code->Adv->List (Code×Loop)
 | .seq a b,.join _ u v=>Fy a u++Fy b v
 | .seq a b,.two u v=>Fy a u++Fy b v
 | .seq a _,.one u=>Fy a u
 | .cond _ x _,.one u=>Fy x u
 | .cond _ x y,.two u v=>Fy x u++Fy y v
 | .cond _ x y,.join _ u v=>Fy x u++Fy y v
 | .block _ c,.one u=>Fy c u
 | .block _ c,.two u _=>Fy c u
 | .block _ c,.join _ u _=>Fy c u
 | .loop c,.loop l=>[(c,l)]
 | _,_=>[]
def Ih{L:Code->Loop->Prop}:∀(c:Code) (v:Adv),(∀p∈Fy c v,L p.1 p.2)->Hk L c v
 | .seq a b,.join _ u v,h=>⟨Ih a u λp hp=>h p<|Bv _ hp,Ih b v λp hp=>h p<|CV _ hp⟩
 | .seq a b,.two u v,h=>⟨Ih a u λp hp=>h p<|Bv _ hp,Ih b v λp hp=>h p<|CV _ hp⟩
 | .seq a b,.one u,h=>⟨Ih a u h,GF L b⟩
 | .seq a b,.nil,_=>⟨GF L a,GF L b⟩
 | .seq a b,.loop _,_=>⟨GF L a,GF L b⟩
 | .cond _ x y,.one u,h=>⟨Ih x u h,GF L y⟩
 | .cond _ x y,.two u v,h=>⟨Ih x u λp hp=>h p<|Bv _ hp,Ih y v λp hp=>h p<|CV _ hp⟩
 | .cond _ x y,.join _ u v,h=>⟨Ih x u λp hp=>h p<|Bv _ hp,Ih y v λp hp=>h p<|CV _ hp⟩
 | .cond _ x y,.nil,_=>⟨GF L x,GF L y⟩
 | .cond _ x y,.loop _,_=>⟨GF L x,GF L y⟩
 | .block _ c,.one u,h=>Ih c u h
 | .block _ c,.two u _,h=>Ih c u h
 | .block _ c,.join _ u _,h=>Ih c u h
 | .block _ c,.nil,_=>GF L c
 | .block _ c,.loop _,_=>GF L c
 | .loop c,.loop l,h=>h (c,l) (by simp[Fy])
 | .loop _,.nil,_=>trivial
 | .loop _,.one _,_=>trivial
 | .loop _,.two _ _,_=>trivial
 | .loop _,.join _ _ _,_=>trivial
 | .skip,_,_=>trivial
 | .region _ _ _,_,_=>trivial
 | .exit _,_,_=>trivial
 | .ret,_,_=>trivial
 | .rangeFunc _ _ _ _,_,_=>trivial
 | .scope _,_,_=>trivial
 | .label _,_,_=>trivial
 | .goto _,_,_=>trivial
 | .refuse _,_,_=>trivial
def Ul(L:Code->Loop->Prop)(l:List (Code×Loop)):Prop:=∀p∈l,L p.1 p.2
def aHL{L:Code->Loop->Prop}{c:Code}{v:Adv}{l:List (Code×Loop)}(h:Fy c v=l)(hl:Ul L l):Hk L c v:=Ih c v (by rw[h];exact hl)
def azB{L:Code->Loop->Prop}:Ul L []:=λp h=>by cases h
def azC{L:Code->Loop->Prop}{c:Code}{v:Loop}{l:List (Code×Loop)}(h:L c v)(hl:Ul L l):Ul L ((c,v)::l):=λp hp=>by
 obtain rfl|hp:=Bl.1 hp
 .exact h
 .exact hl p hp
abbrev Ent:=Nat×Option Nat×DX
def SQ(P:Program)(e:Ent):Prop:=HH P e.1 e.2.2/\okQ P e.2.2=Y
def gC{P:Program}{e:Ent}{l:List Ent}(h:SQ P e)(hl:RP P l):RP P (e::l):=λx hx=>by
 obtain rfl|hx:=Bl.1 hx
 .exact h
 .exact hl x hx
def inR:List (Nat×Nat)->Nat->Bool
 | [],_=>A0
 | (a,b)::l,n=>match E3 a n&&E3 n b with
  | true=>Y
  | false=>inR l n
structure OKC (P:Program) (C:Cx) (inl:(Ω:Type)->Inl Ω):Prop where
 p:C.P=P
 m:P.follows .mixedOrders=Y
 c:∀B:Be,B.P=P->Hd C B
 i:∀B:Be,B.P=P->JL C B inl
def okc{P:Program}{kd:TypeId->Option K}{l:List Ent}{cz sp:Nat->Bool}(hm:P.follows .mixedOrders=Y)(h:RP P l):OKC P ⟨P,kd,gam l,cz,sp⟩ AF:=
 ⟨rfl,hm,λB hB=>mb (C:=⟨P,kd,gam l,cz,sp⟩) (pf h) B hB,λB _=>aHC _ B⟩
def abj{P:Program}{kd:TypeId->Option K}{l:List Ent}{cz sp:Nat->Bool}(n:Nat)(hm:P.follows .mixedOrders=Y)(h:RP P l):OKC P ⟨P,kd,gam l,cz,sp⟩ (NT ⟨P,kd,gam l,cz,sp⟩ n):=
 ⟨rfl,hm,λB hB=>mb (C:=⟨P,kd,gam l,cz,sp⟩) (pf h) B hB,λB hB=>aHz (C:=⟨P,kd,gam l,cz,sp⟩) (B:=B) hB.symm (by rw[hB];exact hm) (mb (C:=⟨P,kd,gam l,cz,sp⟩) (pf h) B hB) n⟩
def LpK(P:Program)(n:Nat)(pins:List Nat)(ls:List (Code×Loop)):Prop:=∀B:Be,B.P=P->Ul (N3 B n pins) ls
def kN{P:Program}{n:Nat}{pins:List Nat}:LpK P n pins []:=λ_ _=>azB
def kC{P:Program}{n:Nat}{pins:List Nat}{c:Code}{l:Loop}{ls:List (Code×Loop)}(h:LpK P n pins [(c,l)])(hl:LpK P n pins ls):LpK P n pins ((c,l)::ls):=λB hB=>azC (h B hB (c,l) Ao)<|hl B hB
def lk{P:Program}{C:Cx}{inl:(Ω:Type)->Inl Ω}(hC:OKC P C inl){n:Nat}{pins:List Nat}{body:Code}{v:Adv}{l:Loop}{b:Lv l.sch->Option (Lv l.sch ⊕ (Lv l.KX ⊕ Lv l.KY))}{ls:List (Code×Loop)}
  (hb:∀x,evL C inl n pins body v l x=b x)(hr:l.run=AT b)(h:Fy body v=ls)(hl:LpK P n pins ls):LpK P n pins [(body,l)]:=λB hB p hp=>by
 obtain rfl:=C9.1 hp;exact axV (hC.p.trans hB.symm) (by rw[hB];exact hC.m) (hC.c B hB) (hC.i B hB) hb hr<|aHL h<|hl B hB
def fnB(P:Program)(f:Nat)(fn:Func)(m:DX):Option Func×Bool×Bool×Bool:=(P.funcs[f]?, fn.name == "runtime.NumGoroutine",okM m fn.ntmps,okQ P m)
def so{P:Program}{C:Cx}{inl:(Ω:Type)->Inl Ω}{f:Nat}{d:Option Nat}{fn:Func}{m:DX}{v:Adv}{ls:List (Code×Loop)}(hC:OKC P C inl)
  (hf:fnB P f fn m=(I fn,A0,Y,Y))(hb:fn.body=I (L4 fn))(h:Fy (L4 fn) v=ls)(hl:LpK P fn.ntmps (E5 0 m.ps) ls)(hg:∀x,bE C inl fn v m x=m.g x):SQ P (f,d,m):=by
 simp only[fnB,CQ]at hf;exact⟨au5 hC.p hC.m hC.c hC.i hf.1 hf.2.1 hb hf.2.2.1 (λB hB=>aHL h<|hl B hB) hg,hf.2.2.2⟩
def soR{P:Program}{f:Nat}{d:Option Nat}{ps rs:List Sh}{t:(LTs ps->Option (LTs rs×LTs (B3 ps)))->LTs ps->Option (LTs rs×LTs (B3 ps))}(he:M6 P f)
  (hq:∀g,okQ P ⟨ps,rs,g⟩=Y)(h:∀g,SQ P (f,d,⟨ps,rs,g⟩)->SQ P (f,d,⟨ps,rs,t g⟩)):SQ P (f,d,⟨ps,rs,NS t⟩):=
 ⟨asO he λg hg=>(h g ⟨hg,hq g⟩).1,hq _⟩
def MU(a b c d:Int)(e:A1)(a' b' c' d':Int)(e':A1):Bool:=U (a=a')&&(U (b=b')&&(U (c=c')&&(U (d=d')&&(U (e=e')&&Y))))
end Go.VS
end
noncomputable section
namespace Go.VS
open Go
inductive CT where
 | int (k:IntKind)
 | bool
 | str
 | sl (k:K)
def kct:K->List CT
 | .int=>[.int .i64]
 | .bool=>[.bool]
 | .u8=>[.int .u8]
 | .str=>[.str]
 | .note=>[.int .i64,.int .i64,.int .i64,.int .i64,.str]
 | .mark=>[.int .i64,.int .i64,.int .i64]
 | .mixed=>[.int .i64,.str]
 | .half=>[.int .i64,.int .i64,.int .i64,.int .i64,.int .i64,.sl .mixed]
 | .keep=>[.int .i64,.int .i64,.int .i64,.sl .note,.sl .mark,.sl .note]
 | .AP=>[.int .i64,.bool,.str,.int .i64,.sl .half]
 | .Af=>[.int .i64,.int .i64,.str,.bool]
 | .frame=>[.int .i64,.int .i64,.int .i64,.int .i64,.int .i64,.int .i64,.int .i64,.int .i64,.int .i64,.str]
 | .CR=>[.int .i64,.int .i64,.int .i64,.int .i64,.int .i64,.int .i64,.int .i64,.int .i64,.int .i64,.str]
 | .lk=>[.str,.int .i64,.str]
mutual
def aT (P:Program):Nat->TypeId->Option (List TypeId)
 | 0,_=>G
 | n+1,t=>match P.underlying t with
  | some (.struct fs)=>(aU P n 0 fs.toList).bind λts=>match Ah ts.length (P.cellsOf t) with
   | true=>I ts
   | false=>G
  | some (.int _)=>I [t]
  | some .bool=>I [t]
  | some .string=>I [t]
  | some (.slice _)=>I [t]
  | _=>G
def aU (P:Program):Nat->Nat->List Field->Option (List TypeId)
 | _,_,[]=>I []
 | 0,_,_::_=>G
 | n+1,o,f::fs=>(aT P n f.type).bind λts=>match Ah f.offset o&&Ah (P.cellsOf f.type) ts.length with
  | true=>(aU P n (o+ts.length) fs).bind λus=>I<|ts++us
  | false=>G
end
mutual
def Tr (P:Program):Nat->TypeId->CT->Bool
 | 0,_,_=>A0
 | n+1,t,c=>match P.underlying t,c with
  | some (.int k),.int k'=>U (k=k')
  | some .bool,.bool=>Y
  | some .string,.str=>Y
  | some (.slice e),.sl k=>Ah (P.cellsOf e) (ks k)&&aY P n e k
  | _,_=>A0
def aY (P:Program):Nat->TypeId->K->Bool
 | 0,_,_=>A0
 | n+1,e,k=>match aT P 16 e with
  | some ts=>Oh P n ts (kct k)
  | none=>A0
def Oh (P:Program):Nat->List TypeId->List CT->Bool
 | _,[],[]=>Y
 | n+1,t::ts,c::cs=>Tr P n t c&&Oh P n ts cs
 | _,_,_=>A0
end
def wfI(n:Int):Prop:=(NP .i64 n).wf=Y
def wfY(n:Int):Prop:=(NP .u8 n).wf=Y
def wfS(s:A1):Prop:=s.size<=maxLen
def wfL{α:Type}(p:α->Prop)(l:List α):Prop:=l.length<=maxLen/\ ∀x∈l,p x
def pa(n:A3):Prop:=wfI n.fr/\wfI n.nu/\wfI n.to/\wfI n.un/\wfS n.tx
def aai(n:Mark):Prop:=wfI n.mf/\wfI n.mn/\wfI n.mu
def aaA(n:AQ):Prop:=wfI n.nu/\wfS n.da
def aaj(n:AG):Prop:=wfI n.fr/\wfI n.nu/\wfI n.to/\wfI n.un/\wfI n.sz/\wfL aaA n.got
def axt(n:AE):Prop:=wfI n.id/\wfI n.ti/\wfI n.nx/\wfL pa n.held/\wfL aai n.marks/\wfL pa n.inbox
def auA(n:A7):Prop:=wfI n.id/\wfS n.log/\wfI n.fo/\wfL aaj n.AJ
def au9(n:AK):Prop:=wfI n.src/\wfI n.dst/\wfS n.data
def awI(n:Frame):Prop:=wfI n.ki/\wfI n.src/\wfI n.dst/\wfI n.fr/\wfI n.nu/\wfI n.to/\wfI n.un/\wfI n.sz/\wfI n.mix/\wfS n.da
def awJ(n:Event):Prop:=wfI n.ki/\wfI n.at_/\wfI n.fr/\wfI n.nu/\wfI n.wo/\wfI n.mix/\wfI n.kp/\wfI n.to/\wfI n.un/\wfS n.tx
def az1(n:LK):Prop:=wfS n.wo/\wfI n.ki/\wfS n.fi
def wfK:(k:K)->Tof k->Prop
 | .int=>wfI
 | .bool=>λ_=>True
 | .u8=>wfY
 | .str=>wfS
 | .note=>pa
 | .mark=>aai
 | .mixed=>aaA
 | .half=>aaj
 | .keep=>axt
 | .AP=>auA
 | .Af=>au9
 | .frame=>awI
 | .CR=>awJ
 | .lk=>az1
def qK(w:World):CT->Value->Prop
 | .int k,c=>∃n,c= .int k n/\(NP k n).wf=Y
 | .bool,c=>∃b,c= .bool b
 | .str,c=>∃s,c= .string s/\wfS s
 | .sl k,c=>∃xs:List (Tof k),wfL (wfK k) xs/\ ∀β:Beta,(∀b,¬MZ β b)->RC w β (.sl k xs) c
inductive Uw (w:World):List CT->List Value->Prop
 | nil:Uw w [] []
 | cons {t:CT} {c:Value} {ts:List CT} {cs:List Value} (h:qK w t c) (hs:Uw w ts cs):Uw w (t::ts) (c::cs)
section
variable {w:World}
def RL.IV{R:AV->Value->Prop}{c:AV}{v:Value}(h:R c v):RL R [c] [v]:= .cons h .nil
def axF{k:K}{cs:List Value}(h:Uw w (kct k) cs):∃x:Tof k,wfK k x/\ ∀β:Beta,(∀b,¬MZ β b)->RL (RC w β) (enc k x) cs:=by
 have L:∀ {β:Beta} {v:Value},v.oneCell'=Y->RC w β (.lit v) v:=λh=> .lit h;cases k with
 | int=>
  obtain⟨⟩|⟨⟨a,rfl,ha⟩,h⟩:=h;cases h;exact⟨a,ha,λβ _=> .IV<|L rfl⟩
 | bool=>
  obtain⟨⟩|⟨⟨a,rfl⟩,h⟩:=h;cases h;exact⟨a,trivial,λβ _=> .IV<|L rfl⟩
 | u8=>
  obtain⟨⟩|⟨⟨a,rfl,ha⟩,h⟩:=h;cases h;exact⟨a,ha,λβ _=> .IV<|L rfl⟩
 | str=>
  obtain⟨⟩|⟨⟨a,rfl,ha⟩,h⟩:=h;cases h;exact⟨a,ha,λβ _=> .IV<|L rfl⟩
 | note=>
  obtain⟨⟩|⟨⟨a,rfl,ha⟩,h⟩:=h;obtain⟨⟩|⟨⟨b,rfl,hb⟩,h⟩:=h;obtain⟨⟩|⟨⟨c,rfl,hc⟩,h⟩:=h;obtain⟨⟩|⟨⟨d,rfl,hd⟩,h⟩:=h;obtain⟨⟩|⟨⟨e,rfl,he⟩,h⟩:=h;cases h;exact⟨(⟨a,b,c,d,e⟩:A3),⟨ha,hb,hc,hd,he⟩,λβ _=> .cons (L rfl)<|.cons (L rfl)<|.cons (L rfl)<|.cons (L rfl)<|.IV<|L rfl⟩
 | mark=>
  obtain⟨⟩|⟨⟨a,rfl,ha⟩,h⟩:=h;obtain⟨⟩|⟨⟨b,rfl,hb⟩,h⟩:=h;obtain⟨⟩|⟨⟨c,rfl,hc⟩,h⟩:=h;cases h;exact⟨(⟨a,b,c⟩:Mark),⟨ha,hb,hc⟩,λβ _=> .cons (L rfl)<|.cons (L rfl)<|.IV<|L rfl⟩
 | mixed=>
  obtain⟨⟩|⟨⟨a,rfl,ha⟩,h⟩:=h;obtain⟨⟩|⟨⟨b,rfl,hb⟩,h⟩:=h;cases h;exact⟨(⟨a,b⟩:AQ),⟨ha,hb⟩,λβ _=> .cons (L rfl)<|.IV<|L rfl⟩
 | half=>
  obtain⟨⟩|⟨⟨a,rfl,ha⟩,h⟩:=h;obtain⟨⟩|⟨⟨b,rfl,hb⟩,h⟩:=h;obtain⟨⟩|⟨⟨c,rfl,hc⟩,h⟩:=h;obtain⟨⟩|⟨⟨d,rfl,hd⟩,h⟩:=h;obtain⟨⟩|⟨⟨e,rfl,he⟩,h⟩:=h;obtain⟨⟩|⟨⟨xs,hx,hr⟩,h⟩:=h;cases h;exact⟨(⟨a,b,c,d,e,xs⟩:AG),⟨ha,hb,hc,hd,he,hx⟩,λβ hβ=> .cons (L rfl)<|.cons (L rfl)<|.cons (L rfl)<|.cons (L rfl)<|.cons (L rfl)<|.IV<|hr β hβ⟩
 | keep=>
  obtain⟨⟩|⟨⟨a,rfl,ha⟩,h⟩:=h;obtain⟨⟩|⟨⟨b,rfl,hb⟩,h⟩:=h;obtain⟨⟩|⟨⟨c,rfl,hc⟩,h⟩:=h;obtain⟨⟩|⟨⟨xs,hx,hrx⟩,h⟩:=h;obtain⟨⟩|⟨⟨ys,hy,hry⟩,h⟩:=h;obtain⟨⟩|⟨⟨zs,hz,hrz⟩,h⟩:=h;cases h;exact⟨(⟨a,b,c,xs,ys,zs⟩:AE),⟨ha,hb,hc,hx,hy,hz⟩,λβ hβ=> .cons (L rfl)<|.cons (L rfl)<|.cons (L rfl)<|.cons (hrx β hβ)<|.cons (hry β hβ)<|.IV<|hrz β hβ⟩
 | AP=>
  obtain⟨⟩|⟨⟨a,rfl,ha⟩,h⟩:=h;obtain⟨⟩|⟨⟨b,rfl⟩,h⟩:=h;obtain⟨⟩|⟨⟨c,rfl,hc⟩,h⟩:=h;obtain⟨⟩|⟨⟨d,rfl,hd⟩,h⟩:=h;obtain⟨⟩|⟨⟨xs,hx,hr⟩,h⟩:=h;cases h;exact⟨(⟨a,b,c,d,xs⟩:A7),⟨ha,hc,hd,hx⟩,λβ hβ=> .cons (L rfl)<|.cons (L rfl)<|.cons (L rfl)<|.cons (L rfl)<|.IV<|hr β hβ⟩
 | Af=>
  obtain⟨⟩|⟨⟨a,rfl,ha⟩,h⟩:=h;obtain⟨⟩|⟨⟨b,rfl,hb⟩,h⟩:=h;obtain⟨⟩|⟨⟨c,rfl,hc⟩,h⟩:=h;obtain⟨⟩|⟨⟨d,rfl⟩,h⟩:=h;cases h;exact⟨(⟨a,b,c,d⟩:AK),⟨ha,hb,hc⟩,λβ _=> .cons (L rfl)<|.cons (L rfl)<|.cons (L rfl)<|.IV<|L rfl⟩
 | frame=>
  obtain⟨⟩|⟨⟨a,rfl,ha⟩,h⟩:=h;obtain⟨⟩|⟨⟨b,rfl,hb⟩,h⟩:=h;obtain⟨⟩|⟨⟨c,rfl,hc⟩,h⟩:=h;obtain⟨⟩|⟨⟨d,rfl,hd⟩,h⟩:=h;obtain⟨⟩|⟨⟨e,rfl,he⟩,h⟩:=h;obtain⟨⟩|⟨⟨f,rfl,hf⟩,h⟩:=h;obtain⟨⟩|⟨⟨g,rfl,hg⟩,h⟩:=h;obtain⟨⟩|⟨⟨i,rfl,hi⟩,h⟩:=h;obtain⟨⟩|⟨⟨j,rfl,hj⟩,h⟩:=h;obtain⟨⟩|⟨⟨s,rfl,hs⟩,h⟩:=h;cases h;exact⟨(⟨a,b,c,d,e,f,g,i,j,s⟩:Frame),⟨ha,hb,hc,hd,he,hf,hg,hi,hj,hs⟩,λβ _=> .cons (L rfl)<|.cons (L rfl)<|.cons (L rfl)<|.cons (L rfl)<|.cons (L rfl)<|.cons (L rfl)<|.cons (L rfl)<|.cons (L rfl)<|.cons (L rfl)<|.IV<|L rfl⟩
 | CR=>
  obtain⟨⟩|⟨⟨a,rfl,ha⟩,h⟩:=h;obtain⟨⟩|⟨⟨b,rfl,hb⟩,h⟩:=h;obtain⟨⟩|⟨⟨c,rfl,hc⟩,h⟩:=h;obtain⟨⟩|⟨⟨d,rfl,hd⟩,h⟩:=h;obtain⟨⟩|⟨⟨e,rfl,he⟩,h⟩:=h;obtain⟨⟩|⟨⟨f,rfl,hf⟩,h⟩:=h;obtain⟨⟩|⟨⟨g,rfl,hg⟩,h⟩:=h;obtain⟨⟩|⟨⟨i,rfl,hi⟩,h⟩:=h;obtain⟨⟩|⟨⟨j,rfl,hj⟩,h⟩:=h;obtain⟨⟩|⟨⟨s,rfl,hs⟩,h⟩:=h;cases h;exact⟨(⟨a,b,c,d,e,f,g,i,j,s⟩:Event),⟨ha,hb,hc,hd,he,hf,hg,hi,hj,hs⟩,λβ _=> .cons (L rfl)<|.cons (L rfl)<|.cons (L rfl)<|.cons (L rfl)<|.cons (L rfl)<|.cons (L rfl)<|.cons (L rfl)<|.cons (L rfl)<|.cons (L rfl)<|.IV<|L rfl⟩
 | lk=>
  obtain⟨⟩|⟨⟨a,rfl,ha⟩,h⟩:=h;obtain⟨⟩|⟨⟨b,rfl,hb⟩,h⟩:=h;obtain⟨⟩|⟨⟨c,rfl,hc⟩,h⟩:=h;cases h;exact⟨(⟨a,b,c⟩:LK),⟨ha,hb,hc⟩,λβ _=> .cons (L rfl)<|.cons (L rfl)<|.IV<|L rfl⟩
end
end Go.VS
namespace Go.VS
open Go
section
variable {H:Type} {Er:TypeId×Value->H} {P:Program} {w:World} {base:Nat} {spare:Nat->Bool} {held:Bool}
def Cells(Er:TypeId×Value->H)(P:Program)(w:World)(base:Nat)(spare:Nat->Bool)(held:Bool):List TypeId->List Value->Prop
 | [],[]=>True
 | t::ts,c::cs=>(∃Bj d ps,Gr Er P w base spare held Bj t [c]=I (d,ps))/\Cells Er P w base spare held ts cs
 | _,_=>False
def Cells.append:∀ {ts us:List TypeId} {cs ds:List Value},Cells Er P w base spare held ts cs->Cells Er P w base spare held us ds->Cells Er P w base spare held (ts++us) (cs++ds)
 | [],_,[],_,_,h=>h
 | t::ts,_,c::cs,_,h,k=>⟨h.1,Cells.append h.2 k⟩
 | [],_,_::_,_,h,_=>h.elim
 | _::_,_,[],_,h,_=>h.elim
def YG{α β:Type}{f:α->Option β}:∀ {l:List α} {r:List β},l.mapM f=I r->∀x∈l,∃y,f x=I y
 | [],_,_,_,hx=>by cases hx
 | a::l,r,h,x,hx=>by
  rw[U9]at h;obtain⟨y,h1,h⟩:=Ai.1 h;obtain⟨ys,h2,h⟩:=Ai.1 h;obtain rfl|hx:=Bl.1 hx
  .exact⟨y,h1⟩
  .exact YG h2 x hx
def aDV{Bj:Nat}{t:TypeId}{k:IntKind}{cs:List Value}{r:DataW H×List MemPlace}(ht:P.underlying t=I (.int k))(h:Gr Er P w base spare held Bj t cs=I r):∃n,cs=[.int k n]/\(NP k n).wf=Y:=by
 cases Bj with
 | zero=>cases h
 | succ Bj=>
  unfold Gr at h;rw[ht]at h;split at h<;>first|(cases h;done)|skip
  all_goals (rename_i heq;cases heq)
  rename_i k' n;split at h
  .rename_i hc;obtain⟨rfl,hw⟩:=hc;exact⟨_,rfl,hw⟩
  .cases h
def aD7{Bj:Nat}{t:TypeId}{cs:List Value}{r:DataW H×List MemPlace}(ht:P.underlying t=I .bool)(h:Gr Er P w base spare held Bj t cs=I r):∃b,cs=[.bool b]:=by
 cases Bj with
 | zero=>cases h
 | succ Bj=>
  unfold Gr at h;rw[ht]at h;split at h<;>first|(cases h;done)|skip
  all_goals (rename_i heq;cases heq)
  exact⟨_,rfl⟩
def aBg{Bj:Nat}{t:TypeId}{cs:List Value}{r:DataW H×List MemPlace}(ht:P.underlying t=I .string)(h:Gr Er P w base spare held Bj t cs=I r):∃s,cs=[.string s]/\wfS s:=by
 cases Bj with
 | zero=>cases h
 | succ Bj=>
  unfold Gr at h;rw[ht]at h;split at h<;>first|(cases h;done)|skip
  all_goals (rename_i heq;cases heq)
  split at h
  .rename_i hc;exact⟨_,rfl,hc⟩
  .cases h
def aCU{Bj:Nat}{t e:TypeId}{cs:List Value}{r:DataW H×List MemPlace}(ht:P.underlying t=I (.slice e))(h:Gr Er P w base spare held Bj t cs=I r):
  cs=[.slice G 0 0]\/ ∃a len cap,cs=[.slice (I a) len cap]/\len<=cap/\cap<=maxLen/\ ∀i,i<len->∃es Uu r',w.cells? base (a.add<|i * P.cellsOf e) (P.cellsOf e)=I es/\Gr Er P w base spare held Uu e es=I r':=by
 cases Bj with
 | zero=>cases h
 | succ Bj=>
  unfold Gr at h;rw[ht]at h;split at h<;>first|(cases h;done)|skip
  all_goals (rename_i heq;cases heq)
  .exact .inl rfl
  .rename_i a len cap;refine .inr ⟨a,len,cap,rfl, ?_⟩;simp only at h;split at h
   .rename_i hc;refine⟨hc.2.1,hc.2.2,λi hi=> ?_⟩;obtain⟨azr,h1,_⟩:=Ai.1 h;obtain⟨y,hy⟩:=YG h1 i<|Cw.2 hi;obtain⟨es,k1,k2⟩:=Ai.1 hy;exact⟨es,Bj,y,k1,k2⟩
   .cases h
def aoe{Bj:Nat}{t:TypeId}{fs:Array Field}{cs:List Value}{r:DataW H×List MemPlace}(ht:P.underlying t=I (.struct fs))(h:Gr Er P w base spare held Bj t cs=I r):
  cs.length=P.cellsOf t/\ ∀f∈fs.toList,∃Uu r',Gr Er P w base spare held Uu f.type ((cs.drop f.offset).take<|P.cellsOf f.type)=I r':=by
 cases Bj with
 | zero=>cases h
 | succ Bj=>
  simp only[Gr,ht]at h;split at h
  .rename_i hc;obtain⟨xs,h1,_⟩:=DB.1 h;refine⟨hc,λf hf=> ?_⟩;obtain⟨y,hy⟩:=YG h1 f hf;exact⟨Bj,y,hy⟩
  .cases h
mutual
theorem aDH:∀(n:Nat) (t:TypeId) {ts:List TypeId} {Bj:Nat} {cs:List Value} {r:DataW H×List MemPlace},aT P n t=I ts->Gr Er P w base spare held Bj t cs=I r->Cells Er P w base spare held ts cs
 | 0,_,_,_,_,_,h,_=>by cases h
 | n+1,t,ts,Bj,cs,r,h,hr=>by
  unfold aT at h;split at h
  .rename_i fs ht;obtain⟨us,h1,h⟩:=Ai.1 h;split at h
   case h_2=>cases h
   rename_i hl;cases h;obtain⟨k1,k2⟩:=aoe ht hr;have hl:=Bn hl;have:=aCY n 0 fs.toList h1 (cs:=cs) (by simp[k1,hl]) (λf hf=>k2 f hf);simpa using this
  .rename_i k ht;cases h;obtain⟨x,rfl,_⟩:=aDV ht hr;exact⟨⟨_,r.1,r.2,hr⟩,trivial⟩
  .rename_i ht;cases h;obtain⟨x,rfl⟩:=aD7 ht hr;exact⟨⟨_,r.1,r.2,hr⟩,trivial⟩
  .rename_i ht;cases h;obtain⟨x,rfl,_⟩:=aBg ht hr;exact⟨⟨_,r.1,r.2,hr⟩,trivial⟩
  .rename_i e ht;cases h;obtain rfl|⟨a,len,cap,rfl,_⟩:=aCU ht hr
   .exact⟨⟨_,r.1,r.2,hr⟩,trivial⟩
   .exact⟨⟨_,r.1,r.2,hr⟩,trivial⟩
  .cases h
theorem aCY:∀(n o:Nat) (fs:List Field) {ts:List TypeId} {cs:List Value},aU P n o fs=I ts->cs.length=o+ts.length->(∀f∈fs,∃Bj r,Gr Er P w base spare held Bj f.type ((cs.drop f.offset).take<|P.cellsOf f.type)=I r)->
  Cells Er P w base spare held ts (cs.drop o)
 | n,o,[],ts,cs,h,hl,_=>by
  have h:I []=I ts:=by cases n<;>exact h
  cases h;have:cs.drop o=[]:=MN (by simp at hl;omega);rw[this];trivial
 | 0,_,_::_,_,_,h,_,_=>by cases h
 | n+1,o,f::fs,ts,cs,h,hl,hf=>by
  unfold aU at h;obtain⟨us,h1,h⟩:=Ai.1 h;split at h
  case h_2=>cases h
  rename_i hc;simp only[AD]at hc;obtain⟨vs,h2,h⟩:=Ai.1 h;cases h;obtain⟨Bj,r,hr⟩:=hf f Ao;rw[Bn hc.1,Bn hc.2]at hr;have k1:=aDH n f.type h1 hr;have k2:=aCY n (o+us.length) fs h2 (cs:=cs) (by simp at hl ⊢; omega) (λg hg=>hf g<|Aj _ hg);have e:cs.drop o=(cs.drop o).take us.length++cs.drop (o+us.length):=by
   rw[← J0];exact(JV _ _).symm
  rw[e];exact k1.append k2
end
def aHM(b f n:Nat):(⟨b,f,G⟩:Addr).add n=⟨b,f+n,G⟩:=by
 unfold Addr.add;split
 .rename_i h;subst h;rfl
 .rfl
def awg{b f n:Nat}{es:List Value}(h:w.cells? base ⟨b,f,G⟩ n=I es):es.length=n/\ ∀j,j<n->w.cell? ⟨b,f+j,G⟩=I (es.getD j undef):=by
 unfold World.cells? at h;split at h
 case isFalse=>cases h
 have gen:∀(l:List Nat) {es:List Value},l.mapM (λi=>w.cell?<|(⟨b,f,G⟩:Addr).add i)=I es->es.length=l.length/\ ∀j x,l[j]? =I x->w.cell? ⟨b,f+x,G⟩=I (es.getD j undef):=by
  intro l
  induction l with
  | nil=>intro es h;cases h;exact⟨rfl,λj x hx=>by simp at hx⟩
  | cons a l ih=>
   intro es h;rw[U9]at h;obtain⟨y,h1,h⟩:=Ai.1 h;obtain⟨ys,h2,h⟩:=Ai.1 h;cases h;obtain⟨k1,k2⟩:=ih h2;refine⟨by simp[k1],λj x hx=> ?_⟩;cases j with
   | zero=>
    simp at hx;subst hx;rw[aHM]at h1;simpa using h1
   | succ j=>simpa using k2 j x<|by simpa using hx
 obtain⟨k1,k2⟩:=gen _ h;exact⟨by simpa using k1,λj hj=>k2 j j<|by simp[hj]⟩
mutual
theorem aFV:∀(n:Nat) (t:TypeId) (c:CT) {v:Value},Tr P n t c=Y->(∃Bj d ps,Gr Er P w base spare held Bj t [v]=I (d,ps))->qK w c v
 | 0,_,_,_,h,_=>by simp[Tr]at h
 | n+1,t,c,v,h,⟨Bj,d,ps,hr⟩=>by
  unfold Tr at h;split at h
  .rename_i k k' ht;simp at h;subst h;obtain⟨x,e,hw⟩:=aDV ht hr;cases e;exact⟨x,rfl,hw⟩
  .rename_i ht;obtain⟨x,e⟩:=aD7 ht hr;cases e;exact⟨x,rfl⟩
  .rename_i ht;obtain⟨x,e,hw⟩:=aBg ht hr;cases e;exact⟨x,rfl,hw⟩
  .rename_i e k ht;simp only[AD]at h;have hsz:=Bn h.1;obtain e|⟨a,len,cap,e,hlc,hcm,hel⟩:=aCU ht hr
   .cases e;exact⟨[],⟨D5 _,by simp⟩,λβ _=> .nil⟩
   .cases e;rw[hsz]at hel;have hch:∀i:Nat,∃p:Tof k×List Value,i<len->wfK k p.1/\w.cells? base (a.add<|i * ks k) (ks k)=I p.2/\ ∀β:Beta,(∀b,¬MZ β b)->RL (RC w β) (enc k p.1) p.2:=by
     intro i;by_cases hi:i<len
     .obtain⟨es,Uu,r',k1,k2⟩:=hel i hi;obtain⟨x,k3,k4⟩:=atE n _ k h.2 (Bj:=Uu) (r:=r') k2;exact⟨(x,es),λ_=>⟨k3,k1,k4⟩⟩
     .exact⟨(dfl k,[]),λh=>absurd h hi⟩
    obtain⟨X,hX⟩:=Classical.axiomOfChoice hch;refine⟨(B8 len).map λi=>(X i).1,⟨by simp;omega,λx hx=> ?_⟩,λβ hβ=> ?_⟩
    .obtain⟨i,hi,rfl⟩:=By.1 hx;exact(hX i<|Cw.1 hi).1
    .cases len with
     | zero=>exact .nil
     | succ len=>
      obtain⟨b,f,sp⟩:=a;have h0:=(hX 0 J).2.1;have hsp:sp=G:=by
       rw[UL]at h0;unfold World.cells? at h0;split at h0
       case isFalse=>cases h0
       obtain⟨y,hy⟩:=YG h0 0<|Cw.2<|ID k;unfold MQ at hy;split at hy
       .split at hy
        .cases hy
        .rename_i hn;cases sp with
         | none=>rfl
         | some x=>exact absurd rfl hn
       .cases hy
      subst hsp;have Cr:∀i j,i<len+1->j<ks k->w.cell? ⟨b,f+(i * ks k+j),G⟩=I ((X i).2.getD j undef):=λi j hi hj=>by
       have h1:=(hX i hi).2.1;rw[aHM]at h1;have:=(awg h1).2 j hj;rw[← DE];exact this
      refine .sl (λi j=>(X i).2.getD j undef) ⟨by simp,hlc⟩ (hβ b) (λi j hi hj=>Cr i j (by simpa using hi) hj) (λi x j c hx hc=> ?_);have hi:i<len+1:=by have:=(BO.1 hx).1;simpa using this
      have hx':x=(X i).1:=by
       rw[DD,Gu hi]at hx;exact(Dc hx).symm
      subst hx';have hj:j<ks k:=by rw[← EP k (X i).1];exact(BO.1 hc).1
      have hR:=(hX i hi).2.2 β hβ;have hlen:(X i).2.length=ks k:=by rw[hR.1,EP]
      exact hR.2 j c _ hc (by simp[hlen,hj])
  .cases h
theorem atE:∀(n:Nat) (e:TypeId) (k:K) {Bj:Nat} {cs:List Value} {r:DataW H×List MemPlace},aY P n e k=Y->Gr Er P w base spare held Bj e cs=I r->∃x:Tof k,wfK k x/\ ∀β:Beta,(∀b,¬MZ β b)->RL (RC w β) (enc k x) cs
 | 0,_,_,_,_,_,h,_=>by simp[aY]at h
 | n+1,e,k,Bj,cs,r,h,hr=>by
  unfold aY at h;split at h
  .rename_i ts hts;exact axF (aDM n ts (kct k) h<|aDH 16 e hts hr)
  .cases h
theorem aDM:∀(n:Nat) (ts:List TypeId) (ks:List CT) {cs:List Value},Oh P n ts ks=Y->Cells Er P w base spare held ts cs->Uw w ks cs
 | n,[],[],[],_,_=> .nil
 | n,[],[],_::_,_,h=>h.elim
 | n+1,t::ts,c::ks,v::cs,h,hc=>by
  simp only[Oh,AD]at h;exact .cons (aFV n t c h.1 hc.1)<|aDM n ts ks h.2 hc.2
 | 0,_::_,_,_,h,_=>by simp[Oh]at h
 | n+1,_::_,[],_,h,_=>by simp[Oh]at h
 | n,[],_::_,_,h,_=>by cases n<;>simp[Oh]at h
 | n+1,_::_,_::_,[],_,hc=>hc.elim
end
end
end Go.VS
end
noncomputable section
namespace Go.VS
open Go
def qH:Sh->Option CT
 | .int k=>I (.int k)
 | .bool=>I .bool
 | .str=>I .str
 | .fz k=>I (.sl k)
 | _=>G
def RV:(h:Sh)->LT h->Prop
 | .int k,n=>(NP k n).wf=Y
 | .bool,_=>True
 | .str,s=>wfS s
 | .fz k,xs=>wfL (wfK k) xs
 | _,_=>False
section
variable {P:Program} {w:World}
def atJ{h:Sh}{t:CT}{v:Value}(hs:qH h=I t)(hf:qK w t v):∃x:LT h,RV h x/\ ∀(M:Nat->Prop) (e:Nat->Value),(∀b,¬M b)->Rel P w M e h x v []:=by
 cases h<;>simp only[qH]at hs<;>first|(cases hs;done)|skip
 case int k=>
  cases hs;obtain⟨n,rfl,hw⟩:=hf;exact⟨n,hw,λM e _=>⟨rfl,rfl⟩⟩
 case bool=>
  cases hs;obtain⟨n,rfl⟩:=hf;exact⟨n,trivial,λM e _=>⟨rfl,rfl⟩⟩
 case str=>
  cases hs;obtain⟨n,rfl,hw⟩:=hf;exact⟨n,hw,λM e _=>⟨rfl,rfl⟩⟩
 case fz k=>
  cases hs;obtain⟨xs,hw,hr⟩:=hf;exact⟨xs,hw,λM e hM=>⟨λβ hβ=>hr β λb hb=>hM b<|hβ b hb,rfl⟩⟩
def ly{f:FuncId}{ps:List Sh}{g:LTs ps->Option (LTs [.bool]×LTs (B3 ps))}(hS:HH P f ⟨ps,[.bool],g⟩){x:LTs ps}{q:LTs (B3 ps)}(hx:g x=I ((Y,()),q)){args:List Value}
  (HV:∀(M:Nat->Prop) (e:Nat->Value),(∀b,¬M b)->Cj P w M e ps x args [])(hgl:Nb P w (λ_=>False)):Calls P f args.toArray w λe w'=>e= .returned (.bool Y)/\Go.RowKit.Below w.heap.size w w':=by
 refine MR (hS.2 x _ hx w (λ_=>False) args [] (HV _ _ λb h=>by simp[B0]at h) (by simp[B0]) (λb h=>by simp[B0]at h) (λb h=>h.elim)<|by simpa[B0] using hgl) ?_;rintro en w' ⟨v,rfl,hr⟩;obtain⟨vs,os1,os2,rfl,h1,_⟩:=hr.ex;obtain⟨u,us,o1,o2,rfl,_,h2,h3⟩:=h1;obtain⟨rfl,_⟩:=h3;obtain⟨rfl,_⟩:=h2;exact⟨rfl,hr.wos,hr.tape,hr.output,hr.size,λb hb=>hr.block b hb<|by simp[B0]⟩
end
end Go.VS
end
noncomputable section
namespace Go.VS
open Go
variable {P:Program} {f:FuncId}
def ma{w:World}{O:Nat->Prop}{gm:Nat}(hgl:Nb P w O)(hg:gm<P.globals.size)(hsh:∀w:World,w.ShapedOpen P->∃m,w.cell? ⟨gm,0,G⟩=I (.int .i64 m)):∃m,w.cell? ⟨gm,0,G⟩=I (.int .i64 m):=by
 obtain⟨w0,h1,h2⟩:=hgl;obtain⟨m,hm⟩:=hsh w0 h1.1;refine⟨m, ?_⟩;rw[← hm];unfold MQ;rw[(h2 gm hg).2.2]
def auG{w:World}{O:Nat->Prop}(hgl:Nb P w O){gt:Nat}(hn:P.globalNamed "internal/strconv.uint64pow10" =I gt)(hg:gt<P.globals.size):MP P w "internal/strconv.uint64pow10" .u64 NK:=by
 obtain⟨w0,h1,h2⟩:=hgl;have h:=h1.2 (by rw[hn];simp);unfold MP World.var? at h ⊢;rw[hn]at h ⊢;simp only[A6]at h ⊢;rw[(h2 gt hg).2.2];exact h
def Ub(x:Int×D):Option ((A1×D)×D):=if -9223372036854775808<=x.1/\x.1<=9223372036854775807 then I ((⟨(B6 x.1).toArray⟩,()),()) else G
def PO(x:A1×A1×D):Option ((A1×A1×Bool×D)×D):=
 if x.1.size<4294967281 then I ((⟨(FV x.1.data.toList x.2.1.data.toList).1.toArray⟩,⟨(FV x.1.data.toList x.2.1.data.toList).2.1.toArray⟩,(FV x.1.data.toList x.2.1.data.toList).2.2,()),()) else G
def Ts(x:A1×A1×D):Option ((List A1×D)×D):=
 if x.1.size<4294967281/\1<=x.2.1.size then I ((Iy x.2.1 0 (NN x.1 x.2.1) x.1,()),()) else G
def TW(x:A1×A1×Int×D):Option ((List A1×D)×D):=
 if x.1.size<4294967281/\1<=x.2.1.size/\1<=x.2.2.1/\x.2.2.1<=9223372036854775807 then I ((Iy x.2.1 0 (min x.2.2.1.toNat (x.1.size+1) - 1) x.1,()),()) else G
def asJ(he:M6 P f)(hn:(P.globalNamed "internal/strconv.uint64pow10").map (λg=>U<|g<P.globals.size)=I Y)
  (hc:∀(n:Int) (h0: -9223372036854775808<=n) (h1:n<=9223372036854775807) (w:World) (bh:MP P w "internal/strconv.uint64pow10" .u64 NK),
   Calls P f #[.int .i64 n] w λe w'=>e= .returned (.string ⟨(B6 n).toArray⟩)/\ ∃k os,w'=aI (w.drewN k) os):HH P f ⟨[.int .i64],[.str],Ub⟩:=by
 obtain⟨gt,hn,hg⟩:=DB.1 hn;have hg:=BZ hg;refine⟨he,λx r hx w Z args os hr hnd hbl hZ hgl=> ?_⟩;simp only[Ub]at hx;split at hx
 case isFalse=>cases hx
 rename_i hb;cases hx;obtain⟨u,us,o1,o2,rfl,rfl,⟨rfl,rfl⟩,rfl,rfl⟩:=hr;refine MR (hc x.1 hb.1 hb.2 w<|auG hgl hn hg) ?_;rintro e w' ⟨rfl,k,os,rfl⟩;exact⟨_,rfl,⟨⟨[.string _],[],[],rfl,⟨_,_,[],[],rfl,rfl,⟨rfl,rfl⟩,rfl,rfl⟩,⟨rfl,rfl⟩,by simp[B0],by simp[B0]⟩,rfl,rfl,rfl,by simp[aI,ns],λb hb _=>by simp[aI,ns,MH hb],Pk.old λb hb=>by simp[aI,ns,MH hb]⟩⟩
def auR(he:M6 P f){gm:Nat}(hg:gm<P.globals.size)(hsh:∀w:World,w.ShapedOpen P->∃m,w.cell? ⟨gm,0,G⟩=I (.int .i64 m))
  (hc:∀(s sep:A1) (m:Int) (w:World) (hs:s.size<4294967281) (hm:w.cell? ⟨gm,0,G⟩=I (.int .i64 m)),
   Calls P f #[.string s,.string sep] w λe w'=>e= .returned (.tuple #[.string ⟨(FV s.data.toList sep.data.toList).1.toArray⟩,.string ⟨(FV s.data.toList sep.data.toList).2.1.toArray⟩,.bool (FV s.data.toList sep.data.toList).2.2])/\ ∃n,w'=w.drewN n):
  HH P f ⟨[.str,.str],[.str,.str,.bool],PO⟩:=by
 refine⟨he,λx r hx w Z args os hr hnd hbl hZ hgl=> ?_⟩;simp only[PO]at hx;split at hx
 case isFalse=>cases hx
 rename_i hb;cases hx;obtain⟨u,us,o1,o2,rfl,rfl,⟨rfl,rfl⟩,v,vs,p1,p2,rfl,rfl,⟨rfl,rfl⟩,rfl,rfl⟩:=hr;obtain⟨m,hm⟩:=ma hgl hg hsh;refine MR (hc x.1 x.2.1 m w hb hm) ?_;rintro e w' ⟨rfl,k,rfl⟩;exact⟨_,rfl,⟨⟨[_,_,_],[],[],rfl,⟨_,_,[],[],rfl,rfl,⟨rfl,rfl⟩,_,_,[],[],rfl,rfl,⟨rfl,rfl⟩,_,_,[],[],rfl,rfl,⟨rfl,rfl⟩,rfl,rfl⟩,⟨rfl,rfl⟩,by simp[B0],by simp[B0]⟩,rfl,rfl,rfl,Au _,λb hb _=>rfl,Pk.old λb hb=>rfl⟩⟩
def aaM{w:World}{Z:Nat->Prop}{args:List Value}{e:TypeId}{xs:List A1}{cap:Nat}{cs:Array Value}(Hw:xs.length<=cap)(hm:cap<=maxLen)(hsz:cs.size=cap)(hcs:∀(i:Nat) (s:A1),xs[i]? =I s->cs[i]? =I (aF s)){ps:List Sh}
  {r2:LTs (B3 ps)}{g:LTs ps->Option (LTs [.row e .str]×LTs (B3 ps))}(hb:∀w' M,Cj P w' M (ar args) (B3 ps) r2 (Jw ps args) []):
  Ret P ⟨ps,[.row e .str],g⟩ Z args [] w ((xs,()),r2) (.slice (I ⟨w.heap.size,0,G⟩) xs.length cap) (w.alloc<|.cells cs e):=by
 have hat:(w.alloc<|.cells cs e).heap[w.heap.size]? =I (.cells cs e (0,0)):=heap_alloc_new w _;have azu:(w.alloc<|.cells cs e).heap.size=w.heap.size+1:=World.size_alloc _ _;refine⟨⟨[_],[(.slice (I ⟨w.heap.size,0,G⟩) xs.length cap,xs.length)],[],rfl,⟨_,_,[_],[],rfl,rfl,⟨rfl,rfl,λβ _=> .inr ⟨w.heap.size,0,cap,cs,(0,0),rfl,hat,rfl,Hw,hm,by simp[ks,hsz], ?_⟩⟩,rfl,rfl⟩,hb _ _,by simp[B0,HM,adr], ?_⟩,rfl,rfl,rfl,J,λb hb _=>heap_alloc_old w _ hb,Pk.old λb hb=>heap_alloc_old w _ hb⟩
 .intro i x j c u h1 h2 h3;cases j with
  | zero=>
   simp[enc]at h2;subst h2;rw[show(0:Nat)+(i * ks .str+0)=i by simp[ks],hcs i x h1]at h3;cases h3;exact RC.lit rfl
  | succ j=>simp[enc]at h2
 .intro b hb;simp[B0,HM,adr]at hb;subst hb;exact⟨.inr (Au _),J⟩
def aql(he:M6 P f){gm:Nat}{e:TypeId}(hg:gm<P.globals.size)(hsh:∀w:World,w.ShapedOpen P->∃m,w.cell? ⟨gm,0,G⟩=I (.int .i64 m))
  (hc:∀(s sep:A1) (m:Int) (w:World) (hs:s.size<4294967281) (hm:w.cell? ⟨gm,0,G⟩=I (.int .i64 m)) (h1:1<=sep.size),
   Calls P f #[.string s,.string sep] w λen w'=>en= .returned (.slice (I ⟨w.heap.size,0,G⟩) (NN s sep+1)<|NN s sep+1)/\w'=w.alloc (.cells ((Iy sep 0 (NN s sep) s).map aF).toArray e)):
  HH P f ⟨[.str,.str],[.row e .str],Ts⟩:=by
 refine⟨he,λx r hx w Z args os hr hnd hbl hZ hgl=> ?_⟩;simp only[Ts]at hx;split at hx
 case isFalse=>cases hx
 rename_i hb;cases hx;obtain⟨u,us,o1,o2,rfl,rfl,⟨rfl,rfl⟩,v,vs,p1,p2,rfl,rfl,⟨rfl,rfl⟩,rfl,rfl⟩:=hr;obtain⟨m,hm⟩:=ma hgl hg hsh;have hl:=Lib.splitB_all x.2.1 hb.2 0 _ x.1 rfl;have hle:=Lib.countB_le x.2.1 hb.2 x.1.size x.1<|Au _;refine MR (hc x.1 x.2.1 m w hb.1 hm hb.2) ?_;rintro en w' ⟨rfl,rfl⟩;refine⟨_,rfl, ?_⟩;rw[← hl];exact aaM (Au _) (by rw[hl];simp[maxLen];omega) aIg (λi s h=>by simp[h]) λ_ _=>⟨rfl,rfl⟩
def aqC(he:M6 P f){gm:Nat}{e:TypeId}(hg:gm<P.globals.size)(hsh:∀w:World,w.ShapedOpen P->∃m,w.cell? ⟨gm,0,G⟩=I (.int .i64 m))
  (hc:∀(s sep:A1) (n:Nat) (m:Int) (w:World) (hs:s.size<4294967281) (hm:w.cell? ⟨gm,0,G⟩=I (.int .i64 m)) (h1:1<=sep.size) (hn:1<=n) (aDZ:n<=9223372036854775807),
   Calls P f #[.string s,.string sep,.int .i64 n] w λen w'=>en= .returned (.slice (I ⟨w.heap.size,0,G⟩) (Iy sep 0 (min n (s.size+1) - 1) s).length<|min n<|s.size+1)/\w'=w.alloc (.cells (aD (Iy sep 0 (min n (s.size+1) - 1) s)<|min n<|s.size+1) e)):
  HH P f ⟨[.str,.str,.int .i64],[.row e .str],TW⟩:=by
 refine⟨he,λx r hx w Z args os hr hnd hbl hZ hgl=> ?_⟩;simp only[TW]at hx;split at hx
 case isFalse=>cases hx
 rename_i hb;cases hx;obtain⟨u,us,o1,o2,rfl,rfl,⟨rfl,rfl⟩,v,vs,p1,p2,rfl,rfl,⟨rfl,rfl⟩,y,ys,q1,q2,rfl,rfl,⟨rfl,rfl⟩,rfl,rfl⟩:=hr;obtain⟨m,hm⟩:=ma hgl hg hsh;have hl:=Lib.splitB_length_le x.2.1 0 (min x.2.2.1.toNat (x.1.size+1) - 1) x.1;have hn:((x.2.2.1.toNat:Nat):Int)=x.2.2.1:=R7 J;have hc':=hc x.1 x.2.1 x.2.2.1.toNat m w hb.1 hm hb.2.1 J J;rw[hn]at hc';refine MR hc' ?_;rintro en w' ⟨rfl,rfl⟩;refine⟨_,rfl, ?_⟩;exact aaM J (by simp[maxLen];omega) (Lib.cellsOf_size J) (λi s h=>by
  have hi:=(BO.1 h).1;rw[aD,Tw,IP<|by simpa using hi,DD,h];rfl) (λ_ _=>⟨rfl,rfl⟩)
end Go.VS
end
noncomputable section
namespace Go.VS
open Go
section
variable {P:Program} {W:World}
def qF(P:Program)(name:String)(k:IntKind):Bool:=
 match P.globalNamed name with
 | some g=>match (P.globals[g]?).map (·.type) with
  | some t=>match P.underlying t with
   | some (.array n e)=>(match P.underlying e with|some (.int k')=>U (k'=k)|_=>A0)&&U (P.cellsOf e=1)&&U (P.cellsOf t=n)
   | _=>A0
  | _=>A0
 | _=>A0
def aqh{name:String}{k:IntKind}{zs:List Int}(h:qF P name k=Y)(hl:laidMet P [(name,Lib.tabData k zs)] W):MP P W name k zs:=by
 unfold qF at h;split at h
 case h_2=>cases h
 rename_i g hg;split at h
 case h_2=>cases h
 rename_i t ht;split at h
 case h_2=>cases h
 rename_i n e hu;simp only[AD,decide_eq_true_eq]at h;obtain⟨⟨h1,h2⟩,h3⟩:=h;split at h1
 case h_2=>cases h1
 rename_i k' hk;have h1:=BZ h1;subst h1;exact Lib.tabIs_of_head hg ht hu hk h2 h3 hl
def Uf:String:= "internal/strconv.uint64pow10"
def lG{laid:List (String×DataW D)}(hsh:W.ShapedOpen P)(amj:IS P.globals.size (begin P (λ_ _=>0) default).world.heap.size=Y)(ac2:laidMetH P laid W)
  (azi:(laid.all λx=>x.2.handleName?.isNone)=Y)
  (bh:P.globalNamed Uf≠G->(laid.filter λx=>x.1 == Uf)=[(Uf,Lib.tabData .u64 NK)]/\qF P Uf .u64=Y):Nb P W (λ_=>False):=by
 have hlt:P.globals.size<W.heap.size:=by
  obtain⟨o,o0,h1,_⟩:=hsh.2 P.globals.size (Au _) (by simpa[PI] using amj);exact(HT.1 h1).1
 refine⟨W,⟨hsh,λhn=> ?_⟩,λb hb=>⟨id,J,rfl⟩⟩;obtain⟨h1,h2⟩:=bh hn;rw[P5 _ _ _ azi]at ac2;have h3:=laidMet.filter (λx=>x.1 == Uf) ac2;rw[h1]at h3;exact aqh h2 h3
end
end Go.VS
namespace Go.VS
open Go
def az4:Oper:={ dst:=G,op:= .move<|.const<|.bool A0,type:=0,pos:= "",after:= #[],guard:=G }
def qG(zs:List Nat)(e:Edge):Option Edge:=(zs.idxOf? e.on).map λj=>{ e with on:=j }
def RU(zs:List Nat)(o:Oper):Oper:={ o with after:=(o.after.toList.filterMap<|qG zs).toArray }
def FN(ops:Array Oper)(zs:List Nat):Array Oper:=(zs.map λi=>RU zs<|(ops[i]?).getD az4).toArray
def asZ{ops:Array Oper}{zs:List Nat}{j i:Nat}{o:Oper}(hz:zs[j]? =I i)(ho:ops[i]? =I o):(FN ops zs)[j]? =I (RU zs o):=by
 simp[FN,hz,ho]
def kh(ops:Array Oper)(zs:List Nat):(FN ops zs).size=zs.length:=by simp[FN]
def auH{zs:List Nat}{o:Oper}{e:Edge}(h:e∈(RU zs o).after):∃e0∈o.after,Fo .any e0=Fo .any e/\zs[e.on]? =I e0.on:=by
 have h:e∈o.after.toList.filterMap (qG zs):=by simpa[RU] using h
 obtain⟨e0,h0,h1⟩:=GZ.1 h;unfold qG at h1;obtain⟨j,h2,h3⟩:=DB.1 h1;refine⟨e0,by simpa using h0,by rw[← h3];rfl, ?_⟩;rw[← h3];obtain⟨hlt,h4,_⟩:=List.idxOf?_eq_some_iff.1 h2;show zs[j]? =I e0.on;rw[Ap hlt];simpa using h4
section
variable {P:Program} {ops:Array Oper} {Q:Exit->Act->World->Prop}
def asx(Good:(Nat->Prop)->Act->World->Prop)(amu:∀(i:Nat) (o:Oper) (e:Edge),ops[i]? =I o->e∈o.after->Fo .any e=Y->e.on<i)
  (nO:∀(B7:Nat->Prop) a w,(∀i,¬B7 i)->Good B7 a w->Q .normal a w)
  (qn:∀(B7:Nat->Prop) (i:Nat) (a:Act) (w:World) (o:Oper),Good B7 a w->(∀j,B7 j->j<ops.size)->(∀j oj,ops[j]? =I oj->¬B7 j->∀e∈oj.after,Fo .any e=Y->¬B7 e.on)->B7 i->ops[i]? =I o->
   (∀e∈o.after,Fo .any e=Y->¬B7 e.on)->wpOp P ops Q i (λa w=>Good (λk=>B7 k/\k≠i) a w) a w):
  ∀(n:Nat) (Bd:List Nat) (listed:Array Bool) (a:Act) (w:World),Bd.length=n->Bd.Nodup->(∀j,j∈Bd↔j<ops.size/\listed.getD j Y=A0)->listed.size=ops.size->
   (∀j oj,ops[j]? =I oj->j ∉ Bd->∀e∈oj.after,Fo .any e=Y->e.on ∉ Bd)->Good (λk=>k∈Bd) a w->wpAny P .any ops Q n listed a w:=by
 intro n
 induction n with
 | zero=>
  intro Bd listed a w hl hnd hU hs hcl hg;have:Bd=[]:=Dz hl;subst this;refine⟨?_,nO _ a w (λi h=>by cases h) hg⟩;cases hrd:PH .any ops listed with
  | nil=>rfl
  | cons j l=>
   have hj:j∈PH .any ops listed:=by rw[hrd];exact Ao
   obtain⟨h1,o,ho,_⟩:=mem_ready.1 hj;have:=(hU j).2 ⟨(HT.1 ho).1,h1⟩;cases this
 | succ n ih=>
  intro Bd listed a w hl hnd hU hs hcl hg;have done:∀x,x<ops.size->x ∉ Bd->listed.getD x A0=Y:=λx hx hn=>by
   refine wU J ?_;cases hb':listed.getD x Y with
   | true=>rfl
   | false=>exact absurd ((hU x).2 ⟨hx,hb'⟩) hn
  refine⟨λnJ=> ?_,λi hi=> ?_⟩
  .exfalso;obtain⟨i0,h0,nK⟩:=lJ (λk=>k∈Bd) (by
    cases Bd with
    | nil=>simp at hl
    | cons x l=>exact⟨x,Ao⟩)
   obtain⟨hlt,hun⟩:=(hU i0).1 h0;obtain⟨o,ho⟩:∃o,ops[i0]? =I o:=⟨ops[i0],by simp[hlt]⟩;have hr0:i0∈PH .any ops listed:=mem_ready.2 ⟨hun,o,ho,λe he hb=>by
    have bo:=amu i0 o e ho he hb;exact done e.on J λhm=>by have:=nK _ hm;omega⟩
   rw[nJ]at hr0;cases hr0
  .obtain⟨hun,oi,hoi,Fc⟩:=mem_ready.1 hi;have hlt:i<ops.size:=(HT.1 hoi).1;have hiU:i∈Bd:=(hU i).2 ⟨hlt,hun⟩;have KT:∀e∈oi.after,Fo .any e=Y->e.on ∉ Bd:=λe he hb hm=>by
    have h2:=((hU e.on).1 hm).2;have hsz:=((hU e.on).1 hm).1;have hel:=Fc e he hb;have:listed.getD e.on Y=Y:=by simp[show e.on<listed.size by omega]at hel ⊢; exact hel
    rw[this]at h2;cases h2
   have Fa:∀k,k∈Bd.erase i↔k∈Bd/\k≠i:=λk=>by
    rw[hnd.mem_erase_iff];exact and_comm
   refine wpOp_mono ?_ (qn (λk=>k∈Bd) i a w oi hg (λj hj=>((hU j).1 hj).1) hcl hiU hoi KT);intro a' w' hg';refine ih (Bd.erase i) _ a' w' (by rw[List.length_erase_of_mem hiU,hl];rfl) (hnd.erase i) (λj=> ?_) (by simpa using hs) ?_ ?_
   .rw[Fa,hU];by_cases e:j=i
    .subst e;simp
    .rw[getD_set_ne Y<|LD e];simp[e]
   .intro j oj hoj hj e he hb hm;have hmU:=((Fa _).1 hm).1;by_cases e':j=i
    .subst e';rw[hoi]at hoj;cases hoj;exact KT e he hb hmU
    .exact hcl j oj hoj (λh=>hj<|(Fa j).2 ⟨h,e'⟩) e he hb hmU
   .have:(λk=>k∈Bd.erase i)=λk=>k∈Bd/\k≠i:=funext λk=>propext<|Fa k;rw[this];exact hg'
end
section
variable {C:Cx} {B:Be} {ops S0:Array Oper} {L:Lb} {stk:List (Array Value)} {Ω:Type} {q:Ω} {s s':S}
structure PaR (C:Cx) (S0:Array Oper) (L:Lb) (Bd:List Nat) (s s':S):Prop where
 run:Run C S0 L Bd s s'
 azp:Bd.Pairwise (· < ·)
 lt:∀j∈Bd,j<S0.size
 cl:∀i x,i<S0.size->i ∉ Bd->L.R x i->x ∉ Bd
 fit:∀j∈Bd,Fit S0 L Bd s j
def PaR.pick(hn:Pc S0 L){Bd:List Nat}(h:PaR C S0 L Bd s s'){i:Nat}(hiU:i∈Bd){oi:Oper}(hoi:S0[i]? =I oi)(KT:∀e∈oi.after,Fo .any e=Y->e.on ∉ Bd):
  ∃s1 U',ev1 C S0 oi (L.b i) s=I s1/\(∀id,L.b i<=id->id<L.b i+16->s.H id=G)/\PaR C S0 L U' s1 s'/\ ∀k,k∈U'↔k∈Bd/\k≠i:=by
 obtain⟨hr,hp,hlt,hd,hf⟩:=h;obtain⟨l1,l2,rfl⟩:=U2 hiU;have hRn:∀j∈l1++i::l2,¬L.R j i:=by
  intro j hj hR;obtain⟨e,he,hb,Ut⟩:=hn.anc j i oi hoi hR;have heU:=KT e he hb;obtain h|h:=Ut
  .exact heU (h▸hj)
  .have bo:=hn.dir i oi e hoi he hb;exact hd e.on j (by have:=hlt i hiU;omega) heU h hj
 have Ci:=Run.first hn l1 s hr hp hRn hf
 cases Ci with
 | cons V6 Uz t=>
  rename_i o' s1;rw[hoi]at V6;cases V6;have hnd:(l1++i::l2).Nodup:=hp.imp λh=>PD h;have Fa:∀j,j∈l1++l2↔j∈l1++i::l2/\j≠i:=by
   intro j;have Jh:=JZ.1 hnd;constructor
   .intro hj;refine⟨?_, ?_⟩
    .rcases BM.1 hj with h|h
     .exact Bv _ h
     .exact CV _ (Aj _ h)
    .rintro rfl;obtain h|h:=BM.1 hj
     .exact Jh.2.2 j h j Ao rfl
     .exact(IJ.1 Jh.2.1).1 h
   .rintro⟨hj,hne⟩;obtain h|h:=BM.1 hj
    .exact Bv _ h
    .rcases Bl.1 h with h|h
     .exact absurd h hne
     .exact CV _ h
  refine⟨s1,l1++l2,Uz.ev,λid h1 h2=>(hf i hiU oi hoi).2.2 id h1 h2,⟨t, ?_,λj hj=>hlt j ((Fa j).1 hj).1, ?_, ?_⟩,Fa⟩
  .have p2:=NJ.1 hp;exact NJ.2 ⟨p2.1,(KJ.1 p2.2.1).2,λx hx y hy=>p2.2.2 x hx y<|Aj _ hy⟩
  .intro k x hk hkU hR hx;have hxU:=((Fa x).1 hx).1;by_cases e:k=i
   .subst e;exact hRn x hxU hR
   .exact hd k x hk (λh=>hkU<|(Fa k).2 ⟨h,e⟩) hR hxU
  .intro j hj;obtain⟨hjU,hne⟩:=(Fa j).1 hj;refine(hf j hjU).step hn hoi (LD hne) (hRn j hjU) Uz λk hk=> ?_;by_cases e:k=i
   .exact .inl e
   .exact .inr<|(Fa k).2 ⟨hk,e⟩
structure Jf (C:Cx) (ops:Array Oper) (zs:List Nat) (L:Lb) (B7:Nat->Prop) (s s':S):Prop where
 nice:Pc (FN ops zs) L
 ex:∃Bd,PaR C (FN ops zs) L Bd s s'/\ ∀j x,zs[j]? =I x->(j∈Bd↔B7 x)
def axC{zs:List Nat}{o:Oper}(hg:o.guard=G)(b:Nat)(s:S):ev1 C (FN ops zs) (RU zs o) b s=CO C (AF S) o b s I:=by
 unfold ev1 evG;have:(RU zs o).guard=G:=hg;rw[this];rfl
def avl{o:Oper}(hg:o.guard=G)(b:Nat)(s:S):ev1 C ops o b s=CO C (AF S) o b s I:=by
 unfold ev1 evG;rw[hg]
def Jf.pick{zs:List Nat}{B7:Nat->Prop}(h:Jf C ops zs L B7 s s')(hz:zs.Nodup){j i:Nat}(hj:zs[j]? =I i)(hD:B7 i){o:Oper}(ho:ops[i]? =I o)(hg:o.guard=G)
  (KT:∀e∈o.after,Fo .any e=Y->¬B7 e.on):
  ∃s1,CO C (AF S) o (L.b j) s I=I s1/\(∀id,L.b j<=id->id<L.b j+16->s.H id=G)/\Jf C ops zs L (λk=>B7 k/\k≠i) s1 s':=by
 obtain⟨hn,Bd,hp,hU⟩:=h;obtain⟨s1,U',h1,h2,h3,h4⟩:=hp.pick hn ((hU j i hj).2 hD) (asZ hj ho) λe he hb hm=>by
  obtain⟨e0,he0,hb0,hz0⟩:=auH he;exact KT e0 he0 (by rw[hb0];exact hb)<|(hU _ _ hz0).1 hm
 refine⟨s1,by rw[← axC hg];exact h1,h2,hn,U',h3,λk x hk=> ?_⟩;rw[h4,hU k x hk];refine and_congr_right λ_=>not_congr ⟨λe=> ?_,λe=> ?_⟩
 .subst e;rw[hk]at hj;cases hj;rfl
 .subst e;have hk1:=(BO.1 hk);have hj1:=(BO.1 hj);obtain⟨a1,a2⟩:=hk1;obtain⟨b1,b2⟩:=hj1;have hpw:=JW.1 hz;obtain h|h|h:=IM k j
  .exact absurd (a2.trans b2.symm) (hpw k j a1 b1 h)
  .exact h
  .exact absurd (b2.trans a2.symm)<|hpw j k b1 a1 h
def Jf.done{zs:List Nat}{B7:Nat->Prop}(h:Jf C ops zs L B7 s s')(hD:∀x∈zs,¬B7 x):s=s':=by
 obtain⟨hn,Bd,hp,hU⟩:=h;have:Bd=[]:=by
  cases Bd with
  | nil=>rfl
  | cons j l=>
   exfalso;have hlt:=hp.lt j Ao;rw[kh]at hlt;have hz:zs[j]? =I zs[j]:=Ap hlt;exact hD _ (CU hlt)<|(hU j _ hz).1 Ao
 subst this;have:=hp.run;cases this;rfl
def oY{zs:List Nat}{k:S->Option Ω}(he:evD C (FN ops zs) s (FN ops zs).toList 0 s.nid [] s k=I q)(hfr:Fr s)(B7:Nat->Prop)(hD:∀x∈zs,B7 x):
  ∃L s',Jf C ops zs L B7 s s'/\(∀j,L.b j=s.nid+16 * j)/\Fr { s' with nid:=s.nid+16 * zs.length } /\s'.n=s.n/\s'.pins=s.pins/\k { s' with nid:=s.nid+16 * zs.length } =I q:=by
 obtain⟨rs,s',h1,h2,h3,h4⟩:=mR (b0:=s.nid) (FN ops zs).toList 0 s.nid [] s he trivial rfl rfl aIg;simp only[CP,DN]at h2 h4;have hn:rs.reverse.length=(FN ops zs).size:=by simpa using h3
 have hpl:=h2.places;rw[o4,hn]at hpl;have LV:∀j,Fit (FN ops zs) (C4 rs.reverse s.nid) (B8 (FN ops zs).size) s j:=λj=>h2.fit hn hfr;have Ci:=kX h2 hn rs s s' h1 (λr hr=>by simpa using hr) (by rw[hpl];exact Qw) (λr hr=>by rw[hpl];exact LV _);rw[hpl]at Ci;have hlen:(FN ops zs).toList.length=zs.length:=by simp[FN]
 have PY:BH (λj=>j<s.nid+16 * zs.length) s s':=lB rs s s' _ h1 λr hr=>by
  have hr':r∈rs.reverse:=by simpa using hr
  have e1:=(h2.Mb hr').1;have e2:=h2.lt r hr';rw[hn,kh]at e2;omega
 rw[hlen]at h4;refine⟨C4 rs.reverse s.nid,s',⟨h2.nice hn,B8 (FN ops zs).size,⟨Ci,Qw,λj hj=>Cw.1 hj,λi x hi hiU _=>absurd (Cw.2 hi) hiU,λj _=>LV j⟩,λj x hj=> ?_⟩,
  λj=>rfl,λj hj=> ?_,PY.n,PY.pins,h4⟩
 .rw[Cw,kh];exact⟨λ_=>hD x<|Cn hj,λ_=>(BO.1 hj).1⟩
 .have hj:s.nid+16 * zs.length<=j:=hj;exact PY.nn j J<|hfr j J
end
end Go.VS
namespace Go.VS
open Go
def evX{Ω:Type}(C:Cx)(inl:Inl Ω)(ops:Array Oper)(ys:List Nat)(m:Nat)(zs:List Nat)(s:S)(k:S->Option Ω):Option Ω:=
 evD C (FN ops ys) s (FN ops ys).toList 0 s.nid [] s λs1=>match ops[m]? with
  | some om=>evG C inl ops om s1.nid s1 λs2=>evD C (FN ops zs) { s2 with nid:=s2.nid+16 } (FN ops zs).toList 0 (s2.nid+16) [] { s2 with nid:=s2.nid+16 } k
  | none=>G
structure XOk (ops:Array Oper) (m f:Nat):Prop where
 mf:m<f
 sz:f<ops.size
 guard:∀(i:Nat) (o:Oper),ops[i]? =I o->o.guard=G
 dir:∀(i:Nat) (o:Oper) (e:Edge),ops[i]? =I o->e∈o.after->Fo .any e=Y->e.on<i
 cov:∀i,i<m->∃j o e,i<j/\j<=m/\ops[j]? =I o/\e∈o.after/\Fo .any e=Y/\e.on=i
 late:∀i,m<i->i<ops.size->i≠f->∃o e,ops[i]? =I o/\e∈o.after/\Fo .any e=Y/\(e.on=m\/(m<e.on/\e.on≠f))
abbrev aft(m n:Nat):List Nat:=List.range' (m+1)<|n - (m+1)
abbrev KP(m n f:Nat):List Nat:=(aft m n).filter λx=> !(Ah x f)
section
variable {C:Cx} {B:Be} {ops:Array Oper} {stk:List (Array Value)} {Ω:Type} {q:Ω} {inl:(Ω:Type)->Inl Ω}
def pR{m n x:Nat}:x∈aft m n↔m<x/\x<n:=by
 rw[List.mem_range'_1];omega
def OT{m n f x:Nat}:x∈KP m n f↔(m<x/\x<n)/\x≠f:=by
 rw[FH,pR];refine and_congr_right λ_=> ?_;rw[C6,← GS,HU]
def aHI{m j:Nat}(h:j<m):(B8 m)[j]? =I j:=by simp[h]
def aFc{m f j:Nat}(h:j<m):(B8 m++[f])[j]? =I j:=by
 rw[IP<|by simpa using h];exact aHI h
def auf{m f:Nat}:(B8 m++[f])[m]? =I f:=by
 rw[FU aIg];simp
def K2(C:Cx)(ops:Array Oper)(zs:List Nat)(k:S->Option Ω)(s2:S):Option Ω:=
 evD C (FN ops zs) { s2 with nid:=s2.nid+16 } (FN ops zs).toList 0 (s2.nid+16) [] { s2 with nid:=s2.nid+16 } k
inductive Way (C:Cx) (ops:Array Oper) (m f:Nat) (inl:Inl Ω) (k:S->Option Ω) (q:Ω) (s0:S) (B7:Nat->Prop) (s:S):Prop
 | one (hm:B7 m) (hf:B7 f) (hz:∀x∈KP m ops.size f,B7 x) (L1 L2:Lb) (s1 s2:S) (b1:∀j,L1.b j=s0.nid+16 * j) (b2:∀j,L2.b j=s0.nid+16 * j)
   (p1:Jf C ops (B8 m) L1 B7 s s1) (p2:Jf C ops (B8 m++[f]) L2 B7 s s2)
   (f1:Fr { s1 with nid:=s0.nid+16 * m }) (f2:Fr { s2 with nid:=s0.nid+16 * (m+1) })
   (n1:s1.n=s0.n/\s1.pins=s0.pins) (n2:s2.n=s0.n/\s2.pins=s0.pins)
   (k1:∀om,ops[m]? =I om->evG C inl ops om (s0.nid+16 * m) { s1 with nid:=s0.nid+16 * m } (K2 C ops (aft m ops.size) k)=I q)
   (k2:∀om,ops[m]? =I om->evG C inl ops om (s0.nid+16 * (m+1)) { s2 with nid:=s0.nid+16 * (m+1) } (K2 C ops (KP m ops.size f) k)=I q):Way C ops m f inl k q s0 B7 s
 | two (hm:B7 m) (hf:¬B7 f) (hz:∀x∈KP m ops.size f,B7 x) (L2:Lb) (s2:S)
   (p2:Jf C ops (B8 m++[f]) L2 B7 s s2)
   (f2:Fr { s2 with nid:=s0.nid+16 * (m+1) })
   (n2:s2.n=s0.n/\s2.pins=s0.pins)
   (k2:∀om,ops[m]? =I om->evG C inl ops om (s0.nid+16 * (m+1)) { s2 with nid:=s0.nid+16 * (m+1) } (K2 C ops (KP m ops.size f) k)=I q):Way C ops m f inl k q s0 B7 s
 | fin (hm:¬B7 m) (ha:∀x,x<m->¬B7 x) (zs:List Nat) (hn:zs.Nodup) (hD:∀x,B7 x->x∈zs) (L:Lb) (s':S) (p:Jf C ops zs L B7 s s')
   (N:Nat) (f2:Fr { s' with nid:=N }) (n2:s'.n=s0.n/\s'.pins=s0.pins) (k2:k { s' with nid:=N } =I q):Way C ops m f inl k q s0 B7 s
def St.qg{β:Beta}{s:S}{a:Act}{w:World}(h:St B β stk s a w)(N:Nat):St B β stk { s with nid:=N } a w:=⟨h.T,h.stack,h.n,h.defers,h.pins,h.gs,h.hs⟩
def atB(hP:C.P=B.P)(hm:B.P.follows .mixedOrders=Y)(hC:Hd C B)(hI:JL C B inl){m f:Nat}(hX:XOk ops m f){k:S->Option Ω}{s0:S}
  (he1:evX C (inl Ω) ops (B8 m) m (aft m ops.size) s0 k=I q)(he2:evX C (inl Ω) ops (B8 m++[f]) m (KP m ops.size f) s0 k=I q)(hfr:Fr s0)
  {β:Beta}{a:Act}{w:World}(hst:St B β stk s0 a w){id:Nat}{Q:Exit->Act->World->Prop}
  (hQ:∀β a w s',St B β stk s' a w->Fr s'->s'.n=s0.n->s'.pins=s0.pins->k s'=I q->Q .normal a w):(RD id ops Y).wp B.P Q a w:=by
 have hmf:=hX.mf;have hsz:=hX.sz;have Md:St B β stk s0 a { w with drawn:=w.drawn+1 } :=by
  have hk:Kp w β { w with drawn:=w.drawn+1 } β:=Kp.heap rfl;exact hst.keep hk (H':=s0.H)<|hst.hs.drew
 refine wp_region_any hm ?_;refine asx (λB7 a w=>∃β s,St B β stk s a w/\Way C ops m f (inl Ω) k q s0 B7 s) hX.dir ?_ ?_ ops.size (B8 ops.size) _ a _ aIg oG (λj=> ?_) aIg (λj oj hoj hj=>absurd (Cw.2 (HT.1 hoj).1) hj) ?_
 ·
  rintro B7 a w hD ⟨β,s,hs,hW⟩;cases hW with
  | one hm'=>exact absurd hm'<|hD _
  | two hm'=>exact absurd hm'<|hD _
  | fin _ _ zs hn _ L s' p N f2 n2 k2=>
   have:=p.done λx _=>hD x;subst this;exact hQ β a w _ (hs.qg N) f2 n2.1 n2.2 k2
 ·
  rintro B7 i a w o ⟨β,s,hs,hW⟩ hlt hcl hDi ho KT;have hg:=hX.guard i o ho;have CL:∀ {zs:List Nat} {L:Lb} {s':S} {j:Nat},Jf C ops zs L B7 s s'->zs.Nodup->zs[j]? =I i->(∀s1,CO C (AF S) o (L.b j) s I=I s1->Jf C ops zs L (λk=>B7 k/\k≠i) s1 s'->Way C ops m f (inl Ω) k q s0 (λk=>B7 k/\k≠i) s1)->
    wpOp B.P ops Q i (λa w=>∃β s,St B β stk s a w/\Way C ops m f (inl Ω) k q s0 (λk=>B7 k/\k≠i) s) a w:=by
   intro zs L s' j hp hz hj MY;obtain⟨s1,h1,h2,h3⟩:=hp.pick hz hj hDi ho hg KT;refine oZ hP hC ho hs (b:=L.b j) h2 (show ev1 C ops o (L.b j) s=I s1 by rw[avl hg];exact h1) ?_;intro β' u w' Md;exact⟨β',s1,Md,MY s1 h1 h3⟩
  have ndA:(B8 m++[f]).Nodup:=by
   rw[JZ];refine⟨oG,by simp,λx hx y hy e=> ?_⟩;have:=Cw.1 hx;have:=C9.1 hy;omega
  have abu:B7 m->(∀x∈KP m ops.size f,B7 x)->¬(m<i/\i≠f):=by
   rintro hm' hz ⟨h1,h2⟩;obtain⟨o',e,ho',he,hb,Ut⟩:=hX.late i h1 (hlt i hDi) h2;rw[ho]at ho';cases ho';refine KT e he hb ?_;obtain h|⟨h3,h4⟩:=Ut
   .rw[h];exact hm'
   .exact hz _<|OT.2 ⟨⟨h3,by have:=hX.dir i o e ho he hb;have:=hlt i hDi;omega⟩,h4⟩
  have Uq:i=m->∀x,x<m->¬B7 x:=by
   intro e x hx;have:∀n x,m - x=n->x<m->¬B7 x:=by
    intro n
    induction n using Nat.strongRecOn with
    | ind n ih=>
     intro x hn hx;obtain⟨j,oj,e',h1,h2,h3,h4,h5,h6⟩:=hX.cov x hx;obtain h7|h7:=Nat.lt_or_eq_of_le h2
     .have:=hcl j oj h3 (ih (m - j) J j rfl h7) e' h4 h5;rw[h6]at this;exact this
     .subst h7;rw[← e,ho]at h3;cases h3;have:=KT e' h4 h5;rw[h6]at this;exact this
   exact this _ x rfl hx
  have aDi:∀ {b:Nat} {s1:S} {zs:List Nat},i=m->s=s1->Fr { s1 with nid:=b } ->(s1.n=s0.n/\s1.pins=s0.pins)->(∀x∈zs,B7 x/\x≠i)->zs.Nodup->(∀x,B7 x/\x≠i->x∈zs)->
    (∀om,ops[m]? =I om->evG C (inl Ω) ops om b { s1 with nid:=b } (K2 C ops zs k)=I q)->
    wpOp B.P ops Q i (λa w=>∃β s,St B β stk s a w/\Way C ops m f (inl Ω) k q s0 (λk=>B7 k/\k≠i) s) a w:=by
   intro b s1 zs e1 e2 hf1 hn1 hz hnd hin hk;subst e1;subst e2;refine aHP hP hC hI ho (s:={ s with nid:=b }) (hk o ho) (hs.qg b) hf1 ?_;intro β' u w' s' hs' hf' hn' hp' hk';obtain⟨L,s2,p,_,amq,hn2,hp2,hk2⟩:=oY (s:={ s' with nid:=s'.nid+16 }) hk' (λj hj=>hf' j hj) (λk=>B7 k/\k≠i) hz;exact⟨β',_,hs'.qg _,.fin (λh=>h.2 rfl) (λx hx h=>Uq rfl x hx h.1) zs hnd hin L s2 p _ amq ⟨hn2.trans<|hn'.trans hn1.1,hp2.trans<|hp'.trans hn1.2⟩ hk2⟩
  have nd1:(aft m ops.size).Nodup:=List.nodup_range';have nd2:(KP m ops.size f).Nodup:=nd1.filter _;cases hW with
  | one hm' hf' hz L1 L2 s1 s2 b1 b2 p1 p2 f1 f2 n1 n2 k1 k2=>
   obtain h|h|h:=IM i m
   .refine CL p1 oG (aHI h) λt1 e1 q1=> ?_;obtain⟨t2,e2,_,q2⟩:=p2.pick ndA (aFc h) hDi ho hg KT;rw[b2,← b1,e1]at e2;cases e2;exact .one ⟨hm',J⟩ ⟨hf',J⟩ (λx hx=>⟨hz x hx,by have:=(OT.1 hx).1.1;omega⟩) L1 L2 s1 s2 b1 b2 q1 q2 f1 f2 n1 n2 k1 k2
   .have e:=p1.done λx hx=>Uq h x<|Cw.1 hx;refine aDi h e f1 n1 (λx hx=> ?_) nd1 (λx hx=> ?_) k1
    .have hx:=pR.1 hx;refine⟨?_,J⟩;by_cases e':x=f
     .rw[e'];exact hf'
     .exact hz x (OT.2 ⟨hx,e'⟩)
    .refine pR.2 ⟨?_,hlt x hx.1⟩;obtain h2|h2|h2:=IM x m
     .exact absurd hx.1 (Uq h x h2)
     .exact absurd (h2.trans h.symm) hx.2
     .exact h2
   .by_cases e:i=f
    .refine CL p2 ndA (j:=m) (by rw[e];exact auf) λt1 e1 q1=> ?_;exact .two ⟨hm',J⟩ (λh=>h.2 e.symm) (λx hx=>⟨hz x hx,by have:=(OT.1 hx).2;omega⟩) L2 s2 q1 f2 n2 k2
    .exact absurd ⟨h,e⟩<|abu hm' hz
  | two hm' hf' hz L2 s2 p2 f2 n2 k2=>
   obtain h|h|h:=IM i m
   .refine CL p2 ndA (aFc h) λt1 e1 q1=> ?_;exact .two ⟨hm',J⟩ (λh=>hf' h.1) (λx hx=>⟨hz x hx,by have:=(OT.1 hx).1.1;omega⟩) L2 s2 q1 f2 n2 k2
   .have e:=p2.done λx hx=>by
     obtain hx|hx:=BM.1 hx
     .exact Uq h x (Cw.1 hx)
     .rw[C9.1 hx];exact hf'
    refine aDi h e f2 n2 (λx hx=>⟨hz x hx,by have:=(OT.1 hx).1.1;omega⟩) nd2 (λx hx=>OT.2 ⟨⟨?_,hlt x hx.1⟩,λe'=>hf'<|e'▸hx.1⟩) k2;obtain h2|h2|h2:=IM x m
    .exact absurd hx.1 (Uq h x h2)
    .exact absurd (h2.trans h.symm) hx.2
    .exact h2
   .by_cases e:i=f
    .exact absurd (e▸hDi) hf'
    .exact absurd ⟨h,e⟩<|abu hm' hz
  | fin hm' ha zs hn hD L s' p N f2 n2 k2=>
   obtain⟨j,hj⟩:=oK.1<|hD i hDi;refine CL p hn hj λt1 e1 q1=> ?_;exact .fin (λh=>hm' h.1) (λx hx h=>ha x hx h.1) zs hn (λx hx=>hD x hx.1) L s' q1 N f2 n2 k2
 .rw[Cw];constructor
  .intro h;exact⟨h,by simp[h]⟩
  .exact λh=>h.1
 ·
  obtain⟨om,hom⟩:∃o,ops[m]? =I o:=⟨ops[m],by simp[show m<ops.size by omega]⟩;unfold evX at he1 he2;obtain⟨L1,s1,p1,b1,fr1,n1,pn1,k1⟩:=oY he1 hfr (λk=>k∈B8 ops.size) (λx hx=>Cw.2 (by have:=Cw.1 hx;omega));obtain⟨L2,s2,p2,b2,fr2,n2,pn2,k2⟩:=oY he2 hfr (λk=>k∈B8 ops.size) (λx hx=>Cw.2 (by
   obtain h|h:=BM.1 hx
   .have:=Cw.1 h;omega
   .rw[C9.1 h];exact hsz))
  have l1:(B8 m).length=m:=by simp
  have l2:(B8 m++[f]).length=m+1:=by simp
  rw[l1]at fr1 k1;rw[l2]at fr2 k2;simp only[hom]at k1 k2;exact⟨β,s0,Md,.one (Cw.2 J) (Cw.2 hsz) (λx hx=>Cw.2 (OT.1 hx).1.2) L1 L2 s1 s2 b1 b2 p1 p2 fr1 fr2 ⟨n1,pn1⟩ ⟨n2,pn2⟩
   (λo h=>by rw[hom]at h;cases h;exact k1) (λo h=>by rw[hom]at h;cases h;exact k2)⟩
end
end Go.VS
namespace Go.VS
open Go
section
variable {C:Cx} {B:Be} {β:Beta} {H:Hp} {w w':World} {M:Nat->Prop} {stk:List (Array Value)} {s s':S} {a:Act} {P:Program} {e e':Nat->Value} {inl:(Ω:Type)->Inl Ω}
def au6{P:Program}(hP:C.P=P){f:FuncId}{fn:Func}{body:Code}(hf:P.funcs[f]? =I fn)(KS:(fn.name == "runtime.NumGoroutine")=A0)
  (hb:fn.body=I body){m:DX}(hok:okM m fn.ntmps=Y)
  (hw:∀(x:LTs m.ps) (r:LTs m.rs×LTs (B3 m.ps)),m.g x=I r->∀(B:Be),B.P=P->∀(β:Beta) (a:Act) (w:World) (Q:Exit->Act->World->Prop),St B β [] (RY fn.ntmps m.ps x) a w->Fr (RY fn.ntmps m.ps x)->
   KOK B [] fn.ntmps (E5 0 m.ps) { nrm:=fin C.P fn m,ret:=fin C.P fn m,ext:=λ_ _=>G } r Q->body.wp B.P Q a w):HH P f m:=by
 refine⟨OP hf KS hb,λx r hx w Z args os hr hnd hbl hZ hgl=> ?_⟩;have hw:=hw x r hx;have V5:=hok;simp only[okM,AD]at V5;obtain⟨⟨⟨hps,hrs⟩,hn⟩,_⟩:=V5;have hn:=Db hn;have hlen:=hr.length
 let B:Be:={ P:=P,w0:=w,O:=λb=>b∈B0 os,tm0:=ar args,Z:=Z,gl:=hgl }
 have Ru:Num (Hn Z os) 0 os:=nB Z os;obtain⟨k1,k2,k3⟩:=Yt (β:=Hn Z os) (E:=λ_=> .un) (M:=λb=>b∈B0 os\/Z b) (P:=P) (w:=w) (e:=ar args) (λb hb=>pO (B:=B) hb) m.ps (λ_=>G) 0 x args os hps hr Ru (λt _=>trivial);have hi:RY fn.ntmps m.ps x=(match Ak (λ_=> .un) (λ_=>G) 0 m.ps x with
  | (vs,H,b)=>{ n:=fn.ntmps,T:=λt=>(vs[t]?).getD Dr,H:=H,nid:=b,st:=[],pins:=E5 0 m.ps,gs:=λ_=>A0 }):=rfl
 rw[hi]at hw;generalize Ak (λ_=> .un) (λ_=>G) 0 m.ps x=q at *;obtain⟨vs,H,b⟩:=q;simp only at hw k1 k2 k3;have hH:Hs B (Hn Z os) H w:={
  EM:=λid ob ho=>by
   by_cases h:id<os.length
   .obtain⟨ob',h1,h2⟩:=k3.2 id (D5 _) J;rw[h1]at ho;cases ho;exact h2
   .rw[k3.1 id J]at ho;cases ho
  dom:=λid p hp=>by
   have h:id<os.length:=(BO.1<|show os[id]? =I p from hp).1;obtain⟨ob',h1,_⟩:=k3.2 id (D5 _) J;exact⟨ob',h1⟩
  inj:=λi j p q a a' hi hj=>Yr hnd i j p q a a' hi hj
  old:=λb hb=>⟨.inl<|N1 hb,(hbl b<|N1 hb).1⟩
  os:=rfl
  tape:=rfl
  output:=rfl
  size:=Au _
  block:=λ_ _ _=>rfl
  z:=rfl
  zn:=λid p a hp ha=>(hbl _<|N1 (Z:=Z) ⟨id,p.1,p.2,a,hp,ha,rfl⟩).2
  zl:=hZ
  pk:=Pk.refl _ _ }
 refine calls_of_wp hf hb ?_;have hst:St B (Hn Z os) [] { n:=fn.ntmps,T:=λt=>(vs[t]?).getD Dr,H:=H,nid:=b,st:=[],pins:=E5 0 m.ps,gs:=λ_=>A0 } { tmps:=args.toArray++R9 (fn.ntmps - args.toArray.size) undef,defers:=[] } w:=by
  refine⟨λt=> ?_,⟨rfl,λi T' tm h=>by simp at h⟩, ?_,rfl,λt _=>Sx args _ t,λt g want y hy=> ?_,hH⟩
  .rw[Sx];show RT w _ _ ((vs[t]?).getD Dr) _;cases hv:vs[t]? with
   | none=>
    have:args.length<=t:=by
     rw[k1.1];exact Zy.1 hv
    show RT w _ _ Dr (ar args t);have e0:ar args t=undef:=by simp[ar,Ht this]
    rw[e0];rfl
   | some c=>
    have hlt:t<args.length:=by rw[k1.1];exact(BO.1 hv).1
    have hu:args[t]? =I (ar args t):=by simp[ar,hlt]
    exact(k1.2 t c _ hv hu).c8
  .simp;omega
  .have hy:(vs[t]?).getD Dr= .gd g want y:=hy;cases hv:vs[t]? with
   | none=>rw[hv]at hy;cases hy
   | some c=>
    rw[hv]at hy;have hy:c= .gd g want y:=hy;have hlt:t<args.length:=by rw[k1.1];exact(BO.1 hv).1
    have hu:args[t]? =I (ar args t):=by simp[ar,hlt]
    have:=k1.2 t c _ hv hu;rw[hy]at this;exact this.elim
 refine hw B rfl _ _ _ _ hst (λj hj=>k3.1 j<|.inr (by have hj:b<=j:=hj;omega)) ⟨?_, ?_, ?_⟩
 .intro β' a' w' s' h1 h2 h3 h4 h5;obtain⟨v',i1,i2⟩:=ZV (B:=B) h1 rfl rfl hlen h4 hok (show fin P fn m s'=I r by rw[← hP];exact h5);exact⟨h1.defers,v',i1,v',rfl,i2⟩
 .intro β' a' w' s' h1 h2 h3 h4 h5;obtain⟨v',i1,i2⟩:=ZV (B:=B) h1 rfl rfl hlen h4 hok (show fin P fn m s'=I r by rw[← hP];exact h5);exact⟨h1.defers,v',i1,v',rfl,i2⟩
 .intro id β' a' w' s' h1 h2 h3 h4 h5;cases h5
def PS(C:Cx)(inl:(Ω:Type)->Inl Ω)(fn:Func)(ys:List Nat)(l:Nat)(zs:List Nat)(m:DX)(x:LTs m.ps):Option (LTs m.rs×LTs (B3 m.ps)):=
 match fn.body with
 | some (.seq (.region _ o0 A0) (.seq (.region _ ops Y) rest))=>
  (PJ C (inl S) o0 o0.toList (RY fn.ntmps m.ps x) I).bind λs1=>evX C (inl _) ops ys l zs s1 λs'=>evk C inl rest _ .nil { nrm:=fin C.P fn m,ret:=fin C.P fn m,ext:=λ_ _=>G } s'
 | _=>G
def bnd(e:Edge):Bool:=Fo .any e
def bC(ops:Array Oper)(m f:Nat):Bool:=
 IS m f&&IS f ops.size&&(B8 ops.size).all (λi=>match ops[i]? with
  | some o=>o.guard.isNone&&o.after.toList.all (λe=> !(bnd e)||IS e.on i)&&
   (!(IS m i)||Ah i f||o.after.toList.any (λe=>bnd e&&(Ah e.on m||(IS m e.on&& !(Ah e.on f)))))
  | none=>Y)&&
 (B8 m).all (λi=>(B8<|m+1).any λj=>IS i j&&match ops[j]? with
  | some o=>o.after.toList.any λe=>bnd e&&Ah e.on i
  | none=>A0)
def awv{ops:Array Oper}{m f:Nat}(h:bC ops m f=Y):XOk ops m f:=by
 simp only[bC,AD,Cy]at h;obtain⟨⟨⟨h1,h2⟩,h3⟩,h4⟩:=h;have h1:m<f:=by simpa[PI] using h1
 have h2:f<ops.size:=by simpa[PI] using h2
 have at_:∀(i:Nat) (o:Oper),ops[i]? =I o->(o.guard.isNone=Y/\ ∀e∈o.after.toList,(!(bnd e)||IS e.on i)=Y)/\
   (!(IS m i)||Ah i f||o.after.toList.any (λe=>bnd e&&(Ah e.on m||(IS m e.on&& !(Ah e.on f)))))=Y:=by
  intro i o ho;have:=h3 i<|Cw.2 (HT.1 ho).1;rw[ho]at this;simp only[AD,Cy]at this;exact this
 refine⟨h1,h2,λi o ho=> ?_,λi o e ho he hb=> ?_,λi hi=> ?_,λi hi1 hi2 hi3=> ?_⟩
 .simpa using (at_ i o ho).1.1
 .have:=(at_ i o ho).1.2 e (by simpa using he);rw[show bnd e=Y from hb]at this;simpa[PI] using this
 .have:=h4 i<|Cw.2 hi;obtain⟨j,hj,hc⟩:=HR.1 this;rw[AD]at hc;obtain⟨c1,c2⟩:=hc;cases ho:ops[j]? with
  | none=>rw[ho]at c2;cases c2
  | some o=>
   rw[ho]at c2;obtain⟨e,he,hc⟩:=HR.1 c2;rw[AD]at hc;exact⟨j,o,e,by simpa[PI] using c1,by have:=Cw.1 hj;omega,ho,by simpa using he,hc.1,by simpa using hc.2⟩
 .obtain⟨o,ho⟩:∃o,ops[i]? =I o:=⟨ops[i],by simp[hi2]⟩;have:=(at_ i o ho).2;have e1:IS m i=Y:=by simpa[PI] using hi1
  have e2:Ah i f=A0:=by rw[← GS,HU];exact hi3
  rw[e1,e2]at this;simp only[AB,Bk]at this;obtain⟨e,he,hc⟩:=HR.1 this;rw[AD,Bw,AD]at hc;refine⟨o,e,ho,by simpa using he,hc.1, ?_⟩;obtain h|h:=hc.2
  .exact .inl (by simpa using h)
  .refine .inr ⟨by simpa[PI] using h.1,λh'=> ?_⟩;rw[h']at h;simp at h
def awU{P:Program}(hP:C.P=P)(hm:P.follows .mixedOrders=Y)(hC:∀B:Be,B.P=P->Hd C B)(hI:∀B:Be,B.P=P->JL C B inl){f:FuncId}{fn:Func}
  (hf:P.funcs[f]? =I fn)(KS:(fn.name == "runtime.NumGoroutine")=A0){i0 i1:Nat}{o0 ops:Array Oper}{rest:Code}
  (hb:fn.body=I (.seq (.region i0 o0 A0)<|.seq (.region i1 ops Y) rest)){m:DX}(hok:okM m fn.ntmps=Y){l g:Nat}(hx:bC ops l g=Y)
  (h1:∀x,PS C inl fn (B8 l) l (aft l ops.size) m x=m.g x)(h2:∀x,PS C inl fn (B8 l++[g]) l (KP l ops.size g) m x=m.g x):HH P f m:=by
 refine au6 hP hf KS hb hok λx r hr B hB β a w Q hst hfr hk=> ?_;have e1:=h1 x;have e2:=h2 x;rw[hr]at e1 e2;unfold PS at e1 e2;rw[hb]at e1 e2;simp only at e1 e2;obtain⟨s1,a1,a2⟩:=Ai.1 e1;obtain⟨s1',b1,b2⟩:=Ai.1 e2;rw[a1]at b1;cases b1;have hPB:C.P=B.P:=by rw[hP,hB]
 have hmB:B.P.follows .mixedOrders=Y:=by rw[hB];exact hm
 have hCB:=hC B hB;have hIB:=hI B hB;refine wp_seq ?_;refine aDI hPB hCB hIB a1 hfr hst ?_;intro β' a' w' s' k1 k2 k3 k4 k5;cases k5;refine wp_seq ?_;refine atB hPB hmB hCB hIB (awv hx) a2 b2 k2 k1 ?_;intro β2 a2' w2 s2 j1 j2 j3 j4 j5;exact YL hPB hmB hCB hIB rest .nil _ s2 r j5 j1 j2 (GF _ _) (by rw[j3,j4,k3,k4];exact hk)
def soX{P:Program}{C:Cx}{inl:(Ω:Type)->Inl Ω}{f:Nat}{d:Option Nat}{fn:Func}{m:DX}(hC:OKC P C inl){i0 i1:Nat}{o0 ops:Array Oper}{rest:Code}
  (hf:fnB P f fn m=(I fn,A0,Y,Y))(hb:fn.body=I (.seq (.region i0 o0 A0)<|.seq (.region i1 ops Y) rest)){l g:Nat}(hx:bC ops l g=Y)
  (h1:∀x,PS C inl fn (B8 l) l (aft l ops.size) m x=m.g x)(h2:∀x,PS C inl fn (B8 l++[g]) l (KP l ops.size g) m x=m.g x):SQ P (f,d,m):=by
 simp only[fnB,CQ]at hf;exact⟨awU hC.p hC.m hC.c hC.i hf.1 hf.2.1 hb hf.2.2.1 hx h1 h2,hf.2.2.2⟩
end
end Go.VS
namespace Go.VS
open Go
section
variable {P:Program} {w:World} {H:Type} {Er:TypeId×Value->H} {base:Nat} {spare:Nat->Bool} {held:Bool}
def lT{h:Sh}{c:CT}{t e:TypeId}{v:Value}{d:DataW H}{ps:List MemPlace}{r:Reach}{b0:Nat}(hs:qH h=I c)(hok:Tr P 60 t c=Y)(ht:P.underlying t=I (.slice e))(Hv:NL P w r b0 t v)
  (hd:DataW.Trod Er P w base spare held t v d ps):∃x:LT h,RV h x/\ ∀(M:Nat->Prop) (e:Nat->Value),(∀b,¬M b)->Rel P w M e h x v []:=by
 obtain⟨a,len,cap,rfl⟩:=Go.WideShapes.okWide_slice ht Hv;obtain⟨Bj,hf⟩:=hd;exact atJ hs<|aFV 60 t c hok ⟨Bj,d,ps,hf⟩
end
def kq{H:Type}{enc:TypeId×Value->H}{a:Assume}{C:Checked}{os:Os}{f:FuncId}{fn:Func}{s:ChangeSpec}{conds:List PathCond}{apart fresh handsOn again:Bool}{X:World->Array Value->Prop}
  (hX:∀(w w':World) (args:Array Value),w.heap=w'.heap->X w args->X w' args)
  (own:ownKnob C.prog.godebug=G)(started:os.Started)(azN:C.prog.inits.idxOf? f=G)(hfn:C.prog.funcs[f]? =I fn)
  (witness:∃(w:World) (tape:Tape) (i:Input),w.os=os/\(w.forCall tape i).Shaped C.prog/\i.vars=[]/\Input.okWide C.prog (w.forCall tape i) .any w.heap.size f i/\
   ((s.pre enc C.prog fn conds apart (w.forCall tape i).memory i.args/\X (w.forCall tape i).memory i.args)/\sizedMet enc C.prog fn (NA s) apart (w.forCall tape i).memory i.args)/\a.holds C.prog (lone (Frame.enter C.prog f i.args .normal) [] (w.forCall tape i)))
  (azJ:∀(W:World) (args:Array Value) (b0:Nat) (ds gs:List (DataW H)) (before:List MemPlace),W.ShapedOpen C.prog->(∀(j:Nat) t v,fn.params[j]? =I t->args[j]? =I v->NL C.prog W .any b0 t v)->
   DataW.Whole enc C.prog fn.params.toList s.vars apart W args.toList ds gs before->X W args->
   Calls C.prog f args W λe W'=>∃v,e= .returned v/\s.post enc C.prog fn apart fresh handsOn again W args v W'):
  ReturnsInHanded a C os f .any (λw args=>(s.pre enc C.prog fn conds apart w args/\X w args)/\sizedMet enc C.prog fn (NA s) apart w args) (s.post enc C.prog fn apart fresh handsOn again):=by
 refine returnsInHanded_of_calls own started azN witness ?_;intro w tape i _ hsh _ hok amd _;obtain⟨_,_,_,fn',ams,_,_,_,_,Hv⟩:=hok;have e:fn'=fn:=Dc<|ams.symm.trans hfn;subst e;obtain⟨⟨⟨ds,gs,before,hw,_⟩,hx⟩,_⟩:=amd;refine(azJ (w.forCall tape i) i.args _ ds gs before hsh Hv (DataW.Whole.of_heap (w':=w.forCall tape i) (by rfl) hw)<|hX _ _ _ (by rfl) hx).mono λe W' ⟨v,he,hp⟩=> ?_;subst he;exact ChangeSpec.post_blind hp
end Go.VS
end
