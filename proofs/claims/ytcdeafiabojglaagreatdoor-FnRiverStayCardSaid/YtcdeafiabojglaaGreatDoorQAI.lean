/- Part 3. -/
import Derived.Tactics
import Derived.Test.YtcdeafiabojglaaGreatDoorQAE
import Derived.ChangeShapes
import Derived.Lib.Split
import Derived.Lib.SplitLaws
import Derived.Lib.IndexMore
import Derived.Deep.Draws
import Derived.Sort.Grow
import Derived.HandedShaped
import Derived.LaidSub
import Derived.MakeChecks
import Derived.Carry
open Array renaming getD_eq_getD_getElem?->Ty,getElem?_append_left->MQ,getElem?_eq_some_iff->HH,getElem?_toList->Tv,length_toList->Ez,replicate->Qj,size_append->Qz,size_replicate->nC
open Bool renaming and_eq_true->AE,false->A0,false_eq_true->Hj,false_or->Bn,not_eq_true'->CM,not_eq_true->GK,not_true->AB,or_eq_false_iff->NJ,or_eq_true->C8,true->Y
open Classical renaming choose->NK,choose_spec->J3
open Decidable renaming decide->U
open Go.Calls renaming mono->MV
open Go.Code renaming region->R5
open Go.DataW renaming trod->Gg
open Go.Instr renaming loadAt->NM,sureAddr->Jc
open Go.Lib renaming TabIs->MU,cellsOf->Zx,countB->NS,cut->FO,itoa->B6,pow10Tab->NT,splitB->J6
open Go.Lit renaming int->NU
open Go.MakeChecks renaming laidMetH_plain->U4
open Go.OpenSpec renaming ofChange->R3
open Go.Region renaming binds->Fj,ready->PA,wanted->JX
open Go.Result renaming andThen_ok->F2
open Go.Sem renaming run_bind->Eh,run_pure->Fl
open Go.Sort renaming grow->Zm
open Go.Value renaming okWide->Qt,pointer->NQ,string->Zu
open Go.World renaming cell?->MT,cell?_of_block->UB,drewN->mr
open Int renaming toNat_of_nonneg->mc
open List renaming all_cons->P0,all_eq_true->DB,any_eq_true->KD,append_assoc->C7,append_nil->CE,append_of_mem->U3,cons_append->LH,drop_drop->J5,drop_eq_getElem_cons->Tt,drop_eq_nil_of_le->KI,drop_zero->Iy,eq_nil_of_length_eq_zero->Df,filterMap_append->MM,filterMap_cons->mO,getD_eq_getElem?_getD->BG,getElem?_append_left->II,getElem?_append_right->FN,getElem?_eq_getElem->Av,getElem?_eq_none->Hm,getElem?_eq_none_iff->Zh,getElem?_eq_some_iff->BR,getElem?_map->DA,getElem?_of_mem->aDM,getElem?_range->Gj,getElem?_toArray->Tw,getElem_mem->Ci,length_append->Am,length_cons->Bm,mapM_cons->U0,map_append->Eg,map_congr_left->Gi,map_cons->DV,mem_append->BN,mem_append_left->Bz,mem_append_right->CW,mem_cons->Bj,mem_cons_of_mem->Ah,mem_cons_self->Ao,mem_filter->F8,mem_filterMap->GO,mem_iff_getElem?->mw,mem_map->C0,mem_of_getElem?->Cp,mem_range->Cy,mem_singleton->C1,nodup_append->Jb,nodup_cons->IG,nodup_range->mL,pairwise_append->NO,pairwise_cons->KE,pairwise_iff_getElem->KG,pairwise_lt_range->Qp,range->B1,range_succ->Hl,reverse_reverse->nD,size_toArray->LG,sublist_append_right->Zi,take_append_drop->JZ
open List.Perm renaming append_left->Zj
open List.Sublist renaming refl->EW
open List.cons renaming injEq->MR
open Nat renaming add_assoc->D8,add_comm->NR,add_mul->EH,beq->Af,beq_eq->HJ,ble->Dv,blt->IJ,blt_eq->PB,le_add_right->Zl,le_of_ble_eq_true->DL,le_refl->Ar,le_trans->C6,lor->BQ,lt_of_lt_of_le->Gl,lt_trichotomy->J0,mul_le_mul_right->E3,ne_of_lt->P8,sub_zero->Je,zero_add->DM,zero_le->Ch,zero_mul->UC
open Ne renaming symm->LL
open Option renaming bind_eq_some_iff->Ag,bind_some->A6,map_eq_some_iff->D9,none->G,some->I
open Option.some renaming inj->E5
open Prod.mk renaming injEq->CS
set_option linter.all false
noncomputable section
namespace Go.VS
open Go
section
variable {C:Cx} {B:Be} {ops:Array Oper} {stk:List (Array Value)} {s s' s0:S} {b b0:Nat} {Ω:Type} {q:Ω}
def asE{m:DZ}{d:Option Nat}{as:List AV}{k:S->Option Ω}:Hb m s b d as k=(Hb m s b d as I).bind k:=by
 unfold Hb;simp only;split
 .rename_i x hx hn;cases m.g x with
  | none=>rfl
  | some r=>
   simp only[A6];split
   .rfl
   .rfl
 .rfl
def Ss{r:PR}{f:AV->List Ob->S}{k:S->Option Ω}:(match r with
   | some (q,v,os)=>if q then k (f v os) else G
   | none=>G)=(match r with
   | some (q,v,os)=>if q then I (f v os) else G
   | none=>G).bind k:=by
 cases r with
 | none=>rfl
 | some r=>obtain⟨q,v,os⟩:=r;cases q<;>rfl
def aEe{o:Oper}{k:S->Option Ω}(inl:Inl Ω)(hi:∀f c,o.op= .call c->c.callee= .value (.func f)->C.Γ f o.dst=G->∀d as s k,inl f d as s k=G):
  CR C inl o b s k=(CR C (AF S) o b s I).bind k:=by
 unfold CR;split
 .rfl
 generalize ho:o.op=op at *;cases op
 case store t p x=>
  simp only;split<;>rfl
 case call c=>
  simp only;split
  .rename_i f hf;split
   .exact asE
   .rename_i hm;rw[hi f c rfl hf hm];rfl
  .split
   .split<;>rfl
   .rfl
  .split<;>rfl
  .first|rfl|exact Ss (k:=k) (f:=λv os=>({ s with H:=En s.H b os } :S).put o.dst v)
 case slice t x lo hi mx=>
  cases mx with
  | some m=>
   simp only
   first|rfl|exact Ss (k:=k) (f:=λv os=>({ s with H:=En s.H b os } :S).put o.dst v)
  | none=>
   simp only;split
   .split
    .rfl
    .split
     .split<;>rfl
     .rfl
   .first|rfl|exact Ss (k:=k) (f:=λv os=>({ s with H:=En s.H b os } :S).put o.dst v)
 case buildSlice t n ps=>
  simp only;generalize (L9 s.ev ps.toList).foldl S.freeze s=s3;exact Ss (k:=k) (f:=λv os=>({ s3 with H:=En s3.H b os } :S).put o.dst v)
 all_goals (simp only;first|rfl|exact Ss (k:=k) (f:=λv os=>({ s with H:=En s.H b os } :S).put o.dst v))
def awE{o:Oper}{k:S->Option Ω}:evG C (aM Ω) ops o b s k=(ev1 C ops o b s).bind k:=by
 have h:∀b s,∀k:S->Option Ω,CR C (aM Ω) o b s k=(CR C (AF S) o b s I).bind k:=λb s k=>aEe _ λ_ _ _ _ _ _ _ _ _=>rfl;unfold ev1 evG;split
 .exact h _ _ _
 .split
  .rfl
  .split
   .split
    .split<;>rfl
    .rfl
   .rfl
  .split
   .rename_i c _;simp only[h];cases hh:s.has o.dst<;>(split<;>split<;>rfl)
   .split<;>rfl
   .rfl
def aX(C:Cx)(ops:Array Oper):List Rec->S->S->Prop
 | [],s,s'=>s=s'
 | r::l,s,s'=>∃s1,ev1 C ops r.o r.b s=I s1/\((E0 C s r.o=G->r.W=r.F/\ ∀i∈JT C s r.o,Mm r.K i)/\(∀l,E0 C s r.o=I l->∀i∈l,Mm r.W i/\Mm r.K i)/\ ∀id,Mm (nm r.b) id->Mm r.K id)/\vOf s1 r.o.dst=I r.V/\aX C ops l s1 s'
def lG{k:S->Option Ω}:∀(l:List Oper) (i b:Nat) (acc:List Rec) (s:S),evD C ops s0 l i b acc s k=I q->CZ C ops s0 b0 acc->i=acc.length->b=b0+16 * i->(∀j,l[j]? =ops[i+j]?)->
  ∃rs s',aX C ops rs s s'/\CZ C ops s0 b0 (rs.reverse++acc)/\rs.length=l.length/\k { s' with nid:=b0+16 * (i+l.length) } =I q
 | [],i,b,acc,s,h,hg,hi,hb,hl=>⟨[],s,rfl,hg,rfl,by
   have h:k { s with nid:=b } =I q:=h;rw[hb]at h;exact h⟩
 | o::l,i,b,acc,s,h,hg,hi,hb,hl=>by
  unfold evD at h;split at h
  .cases h
  rename_i r hr;split at h
  .rename_i hc;rw[awE]at h;obtain⟨s1,h1,h⟩:=Ag.1 h;obtain⟨V,hV,h⟩:=Ag.1 h;simp only[AE,DB]at hc;unfold abX at hr;obtain⟨anc,ha,hr⟩:=Ag.1 hr;obtain⟨ids,PY,hr⟩:=Ag.1 hr;obtain⟨c,hcl,hr⟩:=Ag.1 hr;simp only at hr;split at hr
   case h_2=>cases hr
   rename_i alv;have hr:=(E5 hr).symm;have ho:ops[i]? =I o:=by simpa using (hl 0).symm
   have hg':CZ C ops s0 b0 ({ r with V:=V } ::acc):=by
    refine⟨hg, ?_, ?_, ?_, ?_,⟨ids,c, ?_,hcl, ?_⟩, ?_,λx hx=>hc.1.1 x hx, ?_, ?_⟩<;>rw[hr]
    .exact hi
    .show b=_;rw[hb,hi]
    .exact ho
    .exact ha
    .exact PY
    .have gen:∀F0:Nat,(mvO o=A0/\(match mvO o with
       | true=>BQ (msk ids) (nm b)
       | false=>F0)=F0/\(((match mvO o with
       | true=>nm b
       | false=>match pur o,o.guard with
        | true,G=>BQ (msk ids) (nm b)
        | _,_=>(match mvO o with
         | true=>BQ (msk ids) (nm b)
         | false=>F0))=BQ (msk ids) (nm b)/\pur o=Y/\o.guard=G)\/(match mvO o with
       | true=>nm b
       | false=>match pur o,o.guard with
        | true,G=>BQ (msk ids) (nm b)
        | _,_=>(match mvO o with
         | true=>BQ (msk ids) (nm b)
         | false=>F0))=(match mvO o with
       | true=>BQ (msk ids) (nm b)
       | false=>F0)))\/(mvO o=Y/\(match mvO o with
       | true=>BQ (msk ids) (nm b)
       | false=>F0)=BQ (msk ids) (nm b)/\(match mvO o with
       | true=>nm b
       | false=>match pur o,o.guard with
        | true,G=>BQ (msk ids) (nm b)
        | _,_=>(match mvO o with
         | true=>BQ (msk ids) (nm b)
         | false=>F0))=nm b):=by
      intro F0;cases hmv:mvO o with
      | true=>exact .inr ⟨rfl,rfl,rfl⟩
      | false=>
       refine .inl ⟨rfl,rfl, ?_⟩;cases hpu:pur o with
       | false=>exact .inr rfl
       | true=>
        cases hgu:o.guard with
        | none=>exact .inl ⟨rfl,rfl,rfl⟩
        | some x=>exact .inr rfl
     exact gen _
    .refine⟨alv,λid hid=> ?_⟩;show Mm (match E0 C s o with
      | none=>_
      | some l=>BQ (msk l) (nm b)) id
     cases E0 C s o with
     | none=>
      show Mm (match mvO o with
       | true=>BQ (msk ids) (nm b)
       | false=>_) id
      cases mvO o with
      | false=>
       refine Sw _ _ id ?_;show(BQ _ _).testBit id=Y;rw[Eb,show(nm b).testBit id=Y from hid];simp
      | true=>
       show(BQ _ _).testBit id=Y;rw[Eb,show(nm b).testBit id=Y from hid];simp
     | some l=>
      show(BQ _ _).testBit id=Y;rw[Eb,show(nm b).testBit id=Y from hid];simp
    .exact hc.1.2
    .exact hc.2
   obtain⟨rs,s',k1,k2,k3,k4⟩:=lG l (i+1) (b+16) _ s1 h hg' (by simp[hi]) J (λj=>by
    have:=hl<|j+1;simpa[D8,NR 1 j] using this)
   refine⟨{ r with V:=V } ::rs,s',⟨s1, ?_, ?_, ?_,k1⟩, ?_,by simp[k3], ?_⟩
   .rw[hr];exact h1
   .rw[hr];refine⟨λhe=>⟨?_,λj hj=> ?_⟩,λl he j hj=> ?_,λid hid=> ?_⟩
    .have he:E0 C s o=G:=he;show(match E0 C s o with
      | none=>_
      | some l=>BQ (msk l) (nm b))=_
     rw[he]
    .have he:E0 C s o=G:=he;show Mm (match E0 C s o with
      | none=>BQ (msk<|JT C s o) (nm b)
      | some l=>BQ (msk l) (nm b)) j
     rw[he];show(BQ _ _).testBit j=Y;rw[Eb,M4.2 hj];rfl
    .have he:E0 C s o=I l:=he;have key:Mm (BQ (msk l)<|nm b) j:=by
      show(BQ _ _).testBit j=Y;rw[Eb,M4.2 hj];rfl
     constructor
     .show Mm (match E0 C s o with
       | none=>_
       | some l=>BQ (msk l) (nm b)) j
      rw[he];exact key
     .show Mm (match E0 C s o with
       | none=>_
       | some l=>BQ (msk l) (nm b)) j
      rw[he];exact key
    .show Mm (match E0 C s o with
      | none=>BQ (msk<|JT C s o) (nm b)
      | some l=>BQ (msk l) (nm b)) id
     have hid:(nm b).testBit id=Y:=hid;cases E0 C s o with
     | none=>
      show(BQ _ _).testBit id=Y;rw[Eb,hid];simp
     | some l=>
      show(BQ _ _).testBit id=Y;rw[Eb,hid];simp
   .rw[hr];exact hV
   .simpa using k2
   .rw[show i+(o::l).length=i+1+l.length by simp;omega];exact k4
  .cases h
def aDO{acc:List Rec}:∀ {ts l:List Nat},aY s0 acc ts=I l->∀t∈ts,∃a,(match RD t acc with
  | some r=>I r.V
  | none=>UU (s0.T t))=I a/\ ∀i∈a,i∈l
 | [],_,_,t,ht=>by cases ht
 | t0::ts,l,h,t,ht=>by
  obtain⟨a,h1,h⟩:=Ag.1 h;obtain⟨b,h2,h⟩:=Ag.1 h;cases h;obtain rfl|ht:=Bj.1 ht
  .exact⟨a,h1,λi hi=>Bz _ hi⟩
  .obtain⟨a',h3,h4⟩:=aDO h2 t ht;exact⟨a',h3,λi hi=>CW _<|h4 i hi⟩
def CZ.fit{acc:List Rec}(h:CZ C ops s0 b0 acc)(hn:acc.length=ops.size)(hfr:∀j,b0<=j->s0.H j=G){i:Nat}:Fit ops (C5 acc b0) (B1 ops.size) s0 i:=by
 intro o ho;obtain⟨r,hr,hi,rfl,fi⟩:=h.op hn ho;have e1:(C5 acc b0).F i=Mm r.F:=by funext id;simp only[C5,fi]
 have e2:(C5 acc b0).N i=Mm r.N:=by funext id;simp only[C5,fi]
 rw[e1,e2];have hNF:=h.N_F hr;refine⟨λt ht hd=> ?_,λid ob hid ho=> ?_,λid h1 _=>hfr id (by simp only[C5]at h1;omega)⟩
 rotate_left
 .cases hmv:mvO r.o with
  | false=>exact h.closed hfr r hr hmv id ob (hNF id hid) ho
  | true=>
   exfalso;obtain⟨HO,hg,_⟩:=h.mem r hr;obtain⟨_,k1,k2,_,_,⟨l,c,h1,h2,h3⟩,_⟩:=hg;obtain h3|h3:=h3
   .rw[hmv]at h3;cases h3.1
   .rw[h3.2.2]at hid;have:=M8.1 hid;rw[hfr id J]at ho;cases ho
 obtain⟨HO,hg,LY,_,hlt⟩:=h.mem r hr;obtain⟨_,_,_,_,_,⟨l,c,h1,h2,h3⟩,_⟩:=hg;obtain⟨a,h4,h5⟩:=aDO h1 t ht;cases hf:RD t HO with
 | some r'=>
  obtain⟨hm,PZ⟩:=aEa hf;have hm':=LY r' hm;obtain⟨azy,hg2,_⟩:=h.mem r' hm';have ho':=hg2.2.2.2.1;have hR:(C5 acc b0).R r'.i i:=by
   have bf:=hlt r' hm;have hc:=h.chk hm' hr J;simp only[VS.chk,AE]at hc;simp only[C5,fi];cases hT:tst r.anc r'.i with
   | true=>exact nY.1 hT
   | false=>
    rw[hT]at hc;obtain⟨_,hc⟩:=hc;simp only[AE]at hc;exact absurd ht<|YM hc.1.2 t PZ
  exact absurd PZ<|hd r'.i (Cy.2 (HH.1 ho').1) hR r'.o ho'
 | none=>
  rw[hf]at h4;obtain⟨_,h3,h6⟩|⟨hmv,h3,h6⟩:=h3
  .have aD3:InA (Mm r.F) (s0.T t):=Za h4 λj hj=>by
    rw[h3];refine Sw _ _ j ?_;show(BQ _ _).testBit j=Y;rw[Eb,(ZC 4 l h2).1 j<|h5 j hj];rfl
   refine⟨aD3,.inr ?_⟩;obtain h6|h6:=h6
   .refine Za h4 λj hj=> ?_;rw[h6.1];show(BQ _ _).testBit j=Y;rw[Eb,M4.2<|h5 j hj];rfl
   .rw[h6];exact aD3
  .simp only[mvO,AE]at hmv;refine⟨Za h4 λj hj=> ?_,.inl hmv.1.1⟩;rw[h3];show(BQ _ _).testBit j=Y;rw[Eb,M4.2<|h5 j hj];rfl
def jv{acc:List Rec}(h:CZ C ops s0 b0 acc)(hn:acc.length=ops.size):∀(rs:List Rec) (s s':S),aX C ops rs s s'->(∀r∈rs,r∈acc)->(rs.map (·.i)).Pairwise (· < ·)->
  (∀r∈rs,Fit ops (C5 acc b0) (rs.map (·.i)) s r.i)->Run C ops (C5 acc b0) (rs.map (·.i)) s s'
 | [],s,s',hc,_,_,_=>by
  cases hc;exact .nil
 | r::rs,s,s',⟨s1,h1,h2,h3,h4⟩,hm,hp,hf=>by
  have hr:=hm r Ao;obtain⟨HO,hg,_⟩:=h.mem r hr;have ho:=hg.2.2.2.1;have hok:=hg.2.2.2.2.2.2.2.2.1;have hb:=(h.Mi hr).1;have hrb:r.i<acc.length:=h.lt r hr;have fi:=h.find r hr;have nice:=h.nice hn;obtain⟨f1,f2,f3⟩:=hf r Ao r.o ho;have eb:(C5 acc b0).b r.i=r.b:=hb.symm;have hp':=KE.1 hp;have acE:∀t∈DH ops r.o,InA ((C5 acc b0).F r.i) (s.T t)/\(mov r.o.op=Y\/InA ((C5 acc b0).N r.i) (s.T t)):=λt ht=>f1 t ht λj hj hR oj hoj e=>by
   have hlt:=nice.lt _ _ hR;obtain e'|hj:=Bj.1 hj
   .have e':j=r.i:=e';omega
   .have h9:r.i<j:=hp'.1 j hj;omega
  have hrd:=λt ht=>(acE t ht).1;obtain⟨h21,h22,h23⟩:=h2;have hKn:∀j,r.b<=j->j<r.b+16->(C5 acc b0).K r.i j:=λj k1 k2=>by
   simp only[C5,fi];exact h23 j<|M8.2 ⟨k1,k2⟩
  have hWn:∀j,r.b<=j->j<r.b+16->(C5 acc b0).W r.i j:=λj k1 k2=>nice.NW r.i j (by rw[eb];exact k1) (by rw[eb];exact k2);have hWF:∀id,Mm r.W id->Mm r.F id:=λid hid=>TH (h.Mi hr).2.2.1 id hid;have hKW:∀id∈JT C s r.o,Mm r.F id:=λid hid=>by
   obtain⟨_,_,_,_,_,⟨l,c,_,_,h3⟩,_⟩:=hg;have hop:∀x∈r.o.op.operands,InA ((C5 acc b0).F r.i) (s.ev x):=λx hx=>by
    cases x with
    | tmp t=>exact hrd t<|Bz _<|QC hx
    | const v=>exact aL v
    | _=>exact .of1 trivial
   have ac3:pur r.o=Y->False:=λhp=>by
    unfold pur at hp;unfold JT at hid;cases ho2:r.o.op<;>rw[ho2]at hp hid<;>first|(cases hid;done)|(cases hp;done)
   obtain⟨_,_,h6|h6⟩|⟨hmv,_⟩:=h3
   .exact(ac3 h6.2.1).elim
   rotate_left
   .simp only[mvO,AE]at hmv;exact(ac3 hmv.1.2).elim
   .have hcl:DY ((C5 acc b0).F r.i) s.H:=λid ob hid ho=>f2 id ob (by simp only[C5,fi]at hid ⊢; rw[h6];exact hid) ho;have:=axd hop hcl hid;simp only[C5,fi]at this;exact this
  obtain⟨g,v,es,a1,a2,a3,a4,a5⟩:=axa (F:=(C5 acc b0).F r.i) (N:=(C5 acc b0).N r.i) (WS:=λe=>(C5 acc b0).W r.i e.id/\(e.fk= .no\/(C5 acc b0).K r.i e.id)) hok hrd f2
   (λj k1 k2=>nice.WF _ _<|hWn j k1 k2) (λe k1 k2=>⟨hWn _ k1 k2,.inr<|hKn _ k1 k2⟩)
   ⟨λhe=>⟨λe hF hfk=>⟨by
     simp only[C5,fi]at hF ⊢;rw[(h21 he).1];exact hF,.inl hfk⟩,λe hk=>⟨by
     simp only[C5,fi];rw[(h21 he).1];exact hKW _ hk,.inr (by simp only[C5,fi];exact(h21 he).2 _ hk)⟩⟩,
    λl he e hl=>⟨by simp only[C5,fi];exact(h22 l he _ hl).1,.inr (by simp only[C5,fi];exact(h22 l he _ hl).2)⟩⟩
   (by
    obtain⟨_,_,_,_,_,⟨l,c,_,_,h3⟩,_⟩:=hg;obtain⟨_,_,h6|h6⟩|⟨hmv,_⟩:=h3
    .refine .inl ⟨h6.2.1,h6.2.2, ?_⟩;cases hmo:mov r.o.op with
     | true=>exact .inl rfl
     | false=>exact .inr λt ht=>(acE t ht).2.resolve_left λh=>by rw[hmo]at h;cases h
    rotate_left
    .simp only[mvO,AE]at hmv;exact .inl ⟨hmv.1.2,by simpa using hmv.2,.inl hmv.1.1⟩
    .refine .inr λid hid=> ?_;simp only[C5,fi]at hid ⊢;rw[h6];exact hid) h1
  have hst:Stp C ops r.o ((C5 acc b0).b r.i) ((C5 acc b0).F r.i) ((C5 acc b0).N r.i) ((C5 acc b0).W r.i) ((C5 acc b0).K r.i) ((C5 acc b0).V r.i) s s1:=by
   rw[eb];refine⟨g,v,es,a1,λt ht=> ?_,a2,a3,a4,a5⟩;rw[ht]at h3;have:s1.T t=v:=by rw[a4,ae,A5 ht]
   rw[← this];refine Za (show UU (s1.T t)=I r.V from h3) λj hj=> ?_;simp only[C5,fi];exact hj
  refine .cons ho hst (jv h hn rs s1 s' h4 (λx hx=>hm x<|Ah _ hx) hp'.2 λx hx=> ?_);have hxi:r.i<x.i:=hp'.1 x.i<|C0.2 ⟨x,hx,rfl⟩;exact(hf x<|Ah _ hx).step nice ho (P8 hxi) (λhR=>by have:=nice.lt _ _ hR;omega) hst λj hj=>by
   obtain e|hj:=Bj.1 hj
   .exact .inl e
   .exact .inr hj
def kP:∀(rs:List Rec) (s s':S) (m:Nat),aX C ops rs s s'->(∀r∈rs,r.b+16<=m)->BI (λj=>j<m) s s'
 | [],s,s',m,hc,_=>by cases hc;exact BI.refl _ _
 | r::rs,s,s',m,⟨s1,h1,_,_,h4⟩,hb=>by
  have k1:=aEf h1;have hb1:=hb r Ao;have k1':BI (λj=>j<m) s s1:=⟨k1.nid,k1.n,k1.pins,λj hj e=>k1.nn j (λhh=>hj J) e⟩;exact k1'.trans<|kP rs s1 s' m h4 λx hx=>hb x<|Ah _ hx
def CZ.places:∀ {acc:List Rec},CZ C ops s0 b0 acc->acc.reverse.map (·.i)=B1 acc.length
 | [],_=>rfl
 | r::acc,h=>by
  rw[List.reverse_cons,Eg,CZ.places h.1,Bm,Hl];simp[h.2.1]
def auN(hP:C.P=B.P)(hm:B.P.follows .mixedOrders=Y)(hC:HW C B){k:S->Option Ω}(he:evD C ops s ops.toList 0 s.nid [] s k=I q)(hfr:Fr s){β:Beta}{a:Act}{w:World}(hst:St B β stk s a w)
  {id:Nat}{Q:Exit->Act->World->Prop}(hQ:∀β a w s',St B β stk s' a w->Fr s'->s'.n=s.n->s'.pins=s.pins->k s'=I q->Q .normal a w):(R5 id ops Y).wp B.P Q a w:=by
 obtain⟨rs,s',h1,h2,h3,h4⟩:=lG (b0:=s.nid) ops.toList 0 s.nid [] s he trivial rfl rfl aG9;simp only[CE,DM]at h2 h4;have hn:rs.reverse.length=ops.size:=by simpa using h3
 have hpl:=h2.places;rw[nD,hn]at hpl;have La:∀j,Fit ops (C5 rs.reverse s.nid) (B1 ops.size) s j:=λj=>h2.fit hn hfr;have Ck:=jv h2 hn rs s s' h1 (λr hr=>by simpa using hr) (by rw[hpl];exact Qp) (λr hr=>by rw[hpl];exact La _);rw[hpl]at Ck;have PO:BI (λj=>j<s.nid+16 * ops.toList.length) s s':=kP rs s s' _ h1 λr hr=>by
  have hr':r∈rs.reverse:=by simpa using hr
  have e1:=(h2.Mi hr').1;have e2:=h2.lt r hr';rw[hn]at e2;have:ops.toList.length=ops.size:=by simp
  omega
 refine as3 hP hm hC (h2.nice hn) Ck (λj _=>La j) hst λβ a w h=> ?_;refine hQ β a w { s' with nid:=s.nid+16 * ops.toList.length } ⟨h.T,h.stack,h.n,h.defers,h.pins,h.gs,h.hs⟩ (λj hj=> ?_) PO.n PO.pins h4;have hj:s.nid+16 * ops.toList.length<=j:=hj;exact PO.nn j J<|hfr j J
end
end Go.VS
namespace Go.VS
open Go
def JN(C:Cx)(B:Be)(inl:(Ω:Type)->Inl Ω):Prop:=∀(Ω:Type) (f:FuncId) (d:Option Nat) (as:List AV) (s:S) (k:S->Option Ω) (q:Ω),inl Ω f d as s k=I q->
 ∀(β:Beta) (stk:List (Array Value)) (a:Act) (w:World) (o:Oper) (args:List Operand) (ts:Array TypeId) (K:Act->World->Prop) (Q:Exit->Act->World->Prop),
 St B β stk s a w->Fr s->s.has d=Y->o.dst=d->as=args.map s.ev->o.op= .call { callee:= .value<|.func f,args:=args.toArray,argTypes:=ts } ->
 (∀β' u w' s',St B β' stk s' (a.put d u) w'->Fr s'->s'.n=s.n->s'.pins=s.pins->k s'=I q->K (a.put d u) w')->o.wp B.P a w K Q
def aFR(C:Cx)(B:Be):JN C B AF:=by
 intro Ω f d as s k q h;cases h
section
variable {C:Cx} {B:Be} {ops:Array Oper} {stk:List (Array Value)} {s s':S} {Ω:Type} {q:Ω} {β:Beta} {a:Act} {w:World} {inl:(Ω:Type)->Inl Ω}
def oh(C:Cx)(o:Oper):Prop:=∃f c,o.op= .call c/\c.callee= .value (.func f)/\C.Γ f o.dst=G
def auM{o:Oper}{b:Nat}{k:S->Option Ω}(hn:¬oh C o):evG C (inl Ω) ops o b s k=(ev1 C ops o b s).bind k:=by
 have h:∀b s,∀k:S->Option Ω,CR C (inl Ω) o b s k=(CR C (AF S) o b s I).bind k:=λb s k=>aEe _ λf c h1 h2 h3=>absurd ⟨f,c,h1,h2,h3⟩ hn;unfold ev1 evG;split
 .exact h _ _ _
 .split
  .rfl
  .split
   .split
    .split<;>rfl
    .rfl
   .rfl
  .split
   .rename_i c _;simp only[h];cases hh:s.has o.dst<;>(split<;>split<;>rfl)
   .split<;>rfl
   .rfl
def aGF(hI:JN C B inl){o:Oper}{b:Nat}{k:S->Option Ω}(hin:oh C o)(he:CR C (inl Ω) o b s k=I q)(hst:St B β stk s a w)(hfr:Fr s){K:Act->World->Prop}{Q:Exit->Act->World->Prop}
  (hK:∀β' u w' s',St B β' stk s' (a.put o.dst u) w'->Fr s'->s'.n=s.n->s'.pins=s.pins->k s'=I q->K (a.put o.dst u) w'):o.wp B.P a w K Q:=by
 obtain⟨f,c,h1,h2,h3⟩:=hin;obtain⟨cal,⟨args⟩,⟨tys⟩⟩:=c;simp only at h2;subst h2;unfold CR at he;split at he
 .cases he
 rename_i hd;simp only[h1,h3]at he;exact hI Ω f o.dst _ s k q he β stk a w o args ⟨tys⟩ K Q hst hfr hd rfl rfl h1 hK
def aGR(hP:C.P=B.P)(hC:HW C B)(hI:JN C B inl){i:Nat}{o:Oper}(hi:ops[i]? =I o){k:S->Option Ω}(he:evG C (inl Ω) ops o s.nid s k=I q)(hst:St B β stk s a w)(hfr:Fr s){K:Act->World->Prop}{Q:Exit->Act->World->Prop}
  (hK:∀β' u w' s',St B β' stk s' (a.put o.dst u) w'->(∀j,s'.nid+16<=j->s'.H j=G)->s'.n=s.n->s'.pins=s.pins->k s'=I q->K (a.put o.dst u) w'):wpOp B.P ops Q i K a w:=by
 by_cases hin:oh C o
 .have hK':∀s1:S,s1.n=s.n->s1.pins=s.pins->∀β' u w' s',St B β' stk s' (a.put o.dst u) w'->Fr s'->s'.n=s1.n->s'.pins=s1.pins->k s'=I q->K (a.put o.dst u) w':=
   λs1 e1 e2 β' u w' s' k1 k2 k3 k4 k5=>hK β' u w' s' k1 (λj hj=>k2 j J) (k3.trans e1) (k4.trans e2) k5
  unfold wpOp;simp only[hi];unfold evG at he;split at he
  .rename_i hg;have hw:JX o (yielded ops a.tmps)=Y:=by simp[JX,hg]
   rw[A5 hw];exact .inl (aGF hI hin he hst hfr<|hK' s rfl rfl)
  .rename_i j want hg;have hwd:JX o (yielded ops a.tmps)=(yielded ops a.tmps j == I want):=by simp[JX,hg]
   rw[hwd];split at he
   .cases he
   .rename_i g hgd hsp;split at he
    .rename_i qq v EZ hv;obtain⟨f,c,h1,h2,h3⟩:=hin;obtain⟨cal,⟨args⟩,⟨tys⟩⟩:=c;simp only at h2;subst h2;simp only[h1,spA,h3]at hv;cases hv
    .cases he
   .rename_i g hgd hsp;split at he
    .rename_i c hT;have htg:Bb a g= .bool c:=by have:=hst.T g;rw[hT]at this;exact this
     have hy:yielded ops a.tmps j=I c:=XJ hgd htg;rw[hy];have hn:∀w0:Bool,c=w0->St B β stk { s with T:=upd s.T g (.b w0) } a w:=by
      intro w0 e;subst e;rw[show({ s with T:=upd s.T g (.b c) } :S)=s by rw[aGf _ _ _ hT]];exact hst
     have yes:CR C (inl Ω) o s.nid { s with T:=upd s.T g (.b want) } k=I q->c=want->
       (if(I c == I want)=Y then o.wp B.P a w K Q\/(o.asks B.P a w/\LetsOut Q) else K (a.put o.dst undef) w):=by
      intro he e;rw[A5<|by simp[e]];exact .inl<|aGF hI hin he (hn want e) hfr<|hK' _ rfl rfl
     have no:(match s.has o.dst with
       | true=>k (({ s with T:=upd s.T g (.b<|!want) } :S).put o.dst Dp)
       | false=>G)=I q->c= !want->
       (if(I c == I want)=Y then o.wp B.P a w K Q\/(o.asks B.P a w/\LetsOut Q) else K (a.put o.dst undef) w):=by
      intro he e;rw[A9 (by subst e;cases want<;>simp)];split at he
      .rename_i EZ;refine hK β undef w _ ((hn (!want) e).put (by exact EZ) (v:=Dp) (u:=undef) rfl (λg' w1 x e=>by cases e)) (λj hj=> ?_) ?_ ?_ he
       .have:=hfr j (by cases hod:o.dst<;>rw[hod]at hj<;>exact C6 (Zl _ 16) hj);cases o.dst<;>exact this
       .cases o.dst<;>rfl
       .cases o.dst<;>rfl
      .cases he
     cases want<;>cases c<;>simp only[A2,if_false,Hj]at he
     .exact yes he rfl
     .exact no he rfl
     .exact no he rfl
     .exact yes he rfl
    .rename_i vs hT;have htg:Bb a g= .tuple vs:=by have:=hst.T g;rw[hT]at this;exact this
     have hy:¬(yielded ops a.tmps j == I want)=Y:=by
      intro e;have:=XI hgd (show yielded ops a.tmps j=I want by simpa using e);rw[htg]at this;cases this
     rw[A9 hy];split at he
     .rename_i EZ;refine hK β undef w _ (hst.put EZ (v:=Dp) (u:=undef) rfl (λg' w1 x e=>by cases e)) (λj hj=> ?_) ?_ ?_ he
      .have:=hfr j (by cases hod:o.dst<;>rw[hod]at hj<;>exact C6 (Zl _ 16) hj);cases o.dst<;>exact this
      .cases o.dst<;>rfl
      .cases o.dst<;>rfl
     .cases he
    .cases he
 .rw[auM hin]at he;obtain⟨s1,h1,h2⟩:=Ag.1 he;have hk:=aEf h1;refine nI hP hC hi hst (λj hj _=>hfr j hj) h1 λβ' u w' h=>hK β' u w' s1 h (λj hj=>hk.nn j (λhh=> ?_)<|hfr j ?_) hk.n hk.pins h2
  .rw[hk.nid]at hj;omega
  .rw[hk.nid]at hj;omega
def aEd(hP:C.P=B.P)(hC:HW C B)(hI:JN C B inl){k:S->Option Ω}{Q:Exit->Act->World->Prop}{n:Nat}{p:List Nat}
  (hQ:∀β a w s',St B β stk s' a w->Fr s'->s'.n=n->s'.pins=p->k s'=I q->Q .normal a w):∀(l:List Oper) (i:Nat) (s:S) (β:Beta) (a:Act) (w:World),(∀j,l[j]? =ops[i+j]?)->
  PC C (inl Ω) ops l s k=I q->St B β stk s a w->Fr s->s.n=n->s.pins=p->wpOps B.P ops Q (List.range' i l.length) a w
 | [],i,s,β,a,w,_,he,hst,hfr,hn,hp=>hQ β a w s hst hfr hn hp he
 | o::l,i,s,β,a,w,hl,he,hst,hfr,hn,hp=>by
  rw[Bm,List.range'_succ,wpOps_cons];have ho:ops[i]? =I o:=by simpa using (hl 0).symm
  refine aGR hP hC hI ho (show evG C (inl Ω) ops o s.nid s (λs=>PC C (inl Ω) ops l { s with nid:=s.nid+16 } k)=I q from he) hst hfr ?_;intro β' u w' s' h1 h2 h3 h4 h5;exact aEd hP hC hI hQ l (i+1) { s' with nid:=s'.nid+16 } β' _ w' (λj=>by
   have:=hl<|j+1;simpa[D8,NR 1 j] using this) h5 ⟨h1.T,h1.stack,h1.n,h1.defers,h1.pins,h1.gs,h1.hs⟩ h2 (h3.trans hn) (h4.trans hp)
def aCS(hP:C.P=B.P)(hC:HW C B)(hI:JN C B inl){k:S->Option Ω}(he:PC C (inl Ω) ops ops.toList s k=I q)(hfr:Fr s)(hst:St B β stk s a w)
  {id:Nat}{Q:Exit->Act->World->Prop}(hQ:∀β a w s',St B β stk s' a w->Fr s'->s'.n=s.n->s'.pins=s.pins->k s'=I q->Q .normal a w):(R5 id ops A0).wp B.P Q a w:=by
 refine wp_region ?_;have:=aEd hP hC hI hQ ops.toList 0 s β a w aG9 he hst hfr rfl rfl;rw[List.range_eq_range',← Ez];exact this
end
end Go.VS
namespace Go.VS
open Go
def Imm(w:World)(M:Nat->Prop)(c:AV)(v:Value):Prop:=∀β:Beta,(∀b,MZ β b->M b)->RC w β c v
mutual
def Rel (P:Program) (w:World) (M:Nat->Prop) (e:Nat->Value):(h:Sh)->LT h->Value->List (Value×Nat)->Prop
 | .int k,n,v,os=>v= .int k n/\os=[]
 | .bool,x,v,os=>v= .bool x/\os=[]
 | .str,s,v,os=>v= .string s/\os=[]
 | .sl k,xs,v,os=>Imm w M (.sl k xs) v/\os=[]
 | .fz k,xs,v,os=>Imm w M (.sl k xs) v/\os=[]
 | .row t k,xs,v,os=>os=[(v,xs.length)]/\RI v=Y/\ ∀β:Beta,(∀b,MZ β b->M b)->FT w β t A0 k xs v
 | .Cj t k,xs,v,os=>os=[(v,xs.length)]/\RI v=Y/\ ∀β:Beta,(∀b,MZ β b->M b)->FT w β t Y k xs v
 | .abx t k,xs,v,os=>os=[(v,xs.length)]/\1<=xs.length/\ ∃b us,v= .pointer (I ⟨b,0,G⟩)/\w.heap[b]? =I (.cells us t (0,0))/\us.size=xs.length * ks k/\us.size=P.cellsOf t/\
   (∀β:Beta,(∀b,MZ β b->M b)->∀i x j c u,xs[i]? =I x->(enc k x)[j]? =I c->us[i * ks k+j]? =I u->RC w β c u)
 | .arr k,xs,v,os=>os=[]/\ ∀β:Beta,(∀b,MZ β b->M b)->R1 w β (.arr k xs) v
 | .same t,_,v,os=>os=[]/\v=e t/\v.oneCell'=Y
 | .agg l,x,v,os=>∃us:List Value,v= .agg us.toArray/\Cl P w M e l x us os
 | .box t l,x,v,os=>∃b us os',v= .pointer (I ⟨b,0,G⟩)/\w.heap[b]? =I (.cells us t (0,0))/\Cl P w M e l x us.toList os'/\os=os'++[(v,1)]
def Cl (P:Program) (w:World) (M:Nat->Prop) (e:Nat->Value):(l:List Sh)->LTs l->List Value->List (Value×Nat)->Prop
 | [],_,us,os=>us=[]/\os=[]
 | h::l,x,us,os=>∃u us' o1 o2,us=u::us'/\os=o1++o2/\Rel P w M e h x.1 u o1/\Cl P w M e l x.2 us' o2
end
def HC(p:Value×Nat):Option Nat:=(adr p.1).map (·.block)
abbrev Az(os:List (Value×Nat)):List Nat:=os.filterMap HC
mutual
def MC:Sh->List Nat
 | .same t=>[t]
 | .agg l=>Il l
 | .box _ l=>Il l
 | _=>[]
def Il:List Sh->List Nat
 | []=>[]
 | h::l=>MC h++Il l
end
section
variable {B:Be} {β β':Beta} {H:Hp} {w w':World} {M:Nat->Prop} {E:Nat->AV} {e:Nat->Value}
def RC.Rh{c:AV}{v:Value}(h:RC w β c v)(hc:GU c=Y)(hM:∀b,M b->MZ β b):Imm w M c v:=λβ' hβ'=>
 RC.imm (λ_ _ _ _ h=>h) (λb hb _ hm=>hb<|hM b<|hβ' b hm) h hc
def FT.imm{t:TypeId}{fz:Bool}{k:K}{xs:List (Tof k)}{v:Value}(h:FT w β t fz k xs v)(hM:∀b,M b->MZ β b):∀β':Beta,(∀b,MZ β' b->M b)->FT w β' t fz k xs v:=by
 intro β' hβ';obtain h|⟨b,f,cap,us,fr,h1,h2,h3,h4,h5,h6,h7⟩:=h
 .exact .inl h
 .exact .inr ⟨b,f,cap,us,fr,h1,h2,h3,h4,h5,h6,λi x j c u a1 a2 a3=>(h7 i x j c u a1 a2 a3).Rh (Ib k x a2) hM β' hβ'⟩
def FT.am4{t:TypeId}{fz:Bool}{k:K}{xs:List (Tof k)}{v:Value}(h:FT w β t fz k xs v)(hM:∀b,M b->MZ β b)(hn:∀a,adr v=I a->¬M a.block):Imm w M (.sl k xs) v:=by
 intro β' hβ';obtain⟨rfl,rfl⟩|⟨b,f,cap,us,fr,rfl,hh,hfr,hn',hc,hs,hr⟩:=h
 .exact .nil
 .have Ct:∀i j,i<xs.length->j<ks k->f+(i * ks k+j)<us.size:=by
   intro i j hi hj;have h1:(i+1) * ks k<=cap * ks k:=E3 _ J;rw[EH]at h1;omega
  refine .sl (λi j=>us.getD (f+(i * ks k+j)) undef) ⟨rfl,hn'⟩ (λhm=>hn _ rfl (hβ' _ hm)) (λi j hi hj=> ?_) (λi x j c h2 h3=> ?_)
  .rw[cell_of_row w b _ us t fr hh];have:=Ct i j hi hj;simp[this]
  .have hi:i<xs.length:=(BR.1 h2).1;have hj:j<ks k:=by rw[← EL k x];exact(BR.1 h3).1
   have:=Ct i j hi hj;exact(hr i x j c (us.getD (f+(i * ks k+j)) undef) h2 h3<|by simp[this]).Rh (Ib k x h3) hM β' hβ'
def R1.lits{v' v:Value}(h:R1 w β (.lit v') v):v=v':=h
def R1.sls{k:K}{xs:List (Tof k)}{v:Value}(h:R1 w β (.sl k xs) v):RC w β (.sl k xs) v:=h
def R1.qF{id:Nat}{v:Value}(h:R1 w β (.own id) v):RC w β (.own id) v:=h
def R1.Rg{id z i o:Nat}{v:Value}(h:R1 w β (.ptr id z i o) v):RC w β (.ptr id z i o) v:=h
structure Nq (B:Be) (β:Beta) (H:Hp) (w:World) (M:Nat->Prop) (E:Nat->AV) (e:Nat->Value):Prop where
 hs:Hs B β H w
 hM:∀b,M b->MZ β b
 hE:∀t id z,E t= .ptr id z 0 0->R1 w β (E t) (e t)
def RG(β:Beta)(M:Nat->Prop)(ids:List Nat):Prop:=∀i∈ids,∀p a,β i=I p->adr p.1=I a->¬M a.block
def nc(R:Nq B β H w M E e){id:Nat}{t:TypeId}{fz:Bool}{k:K}{xs:List (Tof k)}{v:Value}(hv:RC w β (.own id) v)(hid:H id=I (.row t fz k xs)):
  RI v=Y/\β id=I (v,xs.length)/\FT w β t fz k xs v:=by
 cases hv with
 | own h hs=>
  obtain⟨hd,h1,h2⟩:=R.hs.EJ id _ hid;rw[h]at h1;cases h1;exact⟨hs,h,h2⟩
mutual
theorem lj (R:Nq B β H w M E e):∀(h:Sh) (c:AV) (v:Value) (x:LT h),R1 w β c v->Bs E H h c=I x->RG β M (Cr H h c)->
  ∃os,Rel B.P w M e h x v os/\Az os=Az ((Cg H h c).filterMap β)
 | .int k,c,v,x,hv,hx,_=>by
  cases c with
  | lit v'=>
   cases v'<;>first|(simp[Bs]at hx;done)|skip
   simp only[Bs]at hx;split at hx
   .rename_i e1;simp at e1;subst e1;cases hx;exact⟨[],⟨hv.lits,rfl⟩,rfl⟩
   .cases hx
  | _=>simp[Bs]at hx
 | .bool,c,v,x,hv,hx,_=>by
  cases c with
  | lit v'=>
   cases v'<;>first|(simp[Bs]at hx;done)|skip
   simp only[Bs]at hx;cases hx;exact⟨[],⟨hv.lits,rfl⟩,rfl⟩
  | _=>simp[Bs]at hx
 | .str,c,v,x,hv,hx,_=>by
  cases c with
  | lit v'=>
   cases v'<;>first|(simp[Bs]at hx;done)|skip
   simp only[Bs]at hx;cases hx;exact⟨[],⟨hv.lits,rfl⟩,rfl⟩
  | _=>simp[Bs]at hx
 | .sl k,c,v,x,hv,hx,_=>by
  cases c with
  | sl k' xs=>
   obtain⟨e1,rfl⟩:=I2<|show It k' k xs=I x from hx;subst e1;exact⟨[],⟨hv.sls.Rh rfl R.hM,rfl⟩,rfl⟩
  | lit v'=>
   cases v' with
   | slice a n cap=>
    cases a<;>cases n<;>cases cap<;>simp[Bs]at hx;subst hx;have:=hv.lits;subst this;exact⟨[],⟨λ_ _=> .nil,rfl⟩,rfl⟩
   | _=>simp[Bs]at hx
  | _=>simp[Bs]at hx
 | .fz k,c,v,x,hv,hx,hf=>by
  cases c with
  | sl k' xs=>
   obtain⟨e1,rfl⟩:=I2<|show It k' k xs=I x from hx;subst e1;exact⟨[],⟨hv.sls.Rh rfl R.hM,rfl⟩,rfl⟩
  | lit v'=>
   cases v' with
   | slice a n cap=>
    cases a<;>cases n<;>cases cap<;>simp[Bs,CJ]at hx;subst hx;have:=hv.lits;subst this;exact⟨[],⟨λ_ _=> .nil,rfl⟩,rfl⟩
   | _=>simp[Bs,CJ]at hx
  | own id=>
   simp only[Bs,CJ]at hx;split at hx
   .rename_i t fz k' ys hid;obtain⟨e1,rfl⟩:=I2 hx;subst e1;obtain⟨h1,h2,h3⟩:=nc R hv.qF hid;exact⟨[],⟨h3.am4 R.hM λa ha=>hf id (by simp[Cr]) _ a h2 ha,rfl⟩,rfl⟩
   .cases hx
  | _=>simp[Bs,CJ]at hx
 | .row t k,c,v,x,hv,hx,_=>by
  cases c with
  | lit v'=>
   cases v' with
   | slice a n cap=>
    cases a<;>cases n<;>cases cap<;>simp[Bs]at hx;subst hx;have:=hv.lits;subst this;exact⟨[(.slice G 0 0,0)],⟨rfl,rfl,λ_ _=> .inl ⟨rfl,rfl⟩⟩,rfl⟩
   | _=>simp[Bs]at hx
  | own id=>
   simp only[Bs]at hx;split at hx
   .rename_i t' k' ys hid;split at hx
    .rename_i ht;obtain rfl:=Br ht;obtain⟨e1,rfl⟩:=I2 hx;subst e1;obtain⟨h1,h2,h3⟩:=nc R hv.qF hid;exact⟨[(v,ys.length)],⟨rfl,h1,h3.imm R.hM⟩,by simp[Cg,h2]⟩
    .cases hx
   .cases hx
  | _=>simp[Bs]at hx
 | .Cj t k,c,v,x,hv,hx,_=>by
  cases c with
  | own id=>
   simp only[Bs]at hx;split at hx
   .rename_i t' k' ys hid;split at hx
    .rename_i ht;obtain rfl:=Br ht;obtain⟨e1,rfl⟩:=I2 hx;subst e1;obtain⟨h1,h2,h3⟩:=nc R hv.qF hid;exact⟨[(v,ys.length)],⟨rfl,h1,h3.imm R.hM⟩,by simp[Cg,h2]⟩
    .cases hx
   .cases hx
  | _=>simp[Bs]at hx
 | .abx t k,c,v,x,hv,hx,_=>by
  cases c with
  | ptr id z i o=>
   cases i<;>cases o<;>simp only[Bs]at hx<;>first|(cases hx;done)|skip
   split at hx
   .rename_i t' k' ys hid;split at hx
    .rename_i ht;simp only[AE]at ht;obtain rfl:=Br ht.1;obtain⟨e1,rfl⟩:=I2 hx;subst e1;have hv:=hv.Rg;cases hv with
     | @ptr _ _ _ _ hd n b f h1 ha hi=>
      obtain⟨b',us,k1,k2,k3,k4,k5⟩:=R.hs.EJ id _ hid;rw[h1]at k1;cases k1;cases ha;have e0:0 * z=0:=UC z;refine⟨[(.pointer<|I ⟨b,0,G⟩,ys.length)],⟨?_,hi,b,us, ?_,k2,k3,k4,λβ' hβ' i x j c u a1 a2 a3=>(k5 i x j c u a1 a2 a3).Rh (Ib k' x a2) R.hM β' hβ'⟩,by simp[Cg,h1]⟩
      .simp
      .simp
    .cases hx
   .cases hx
  | _=>simp[Bs]at hx
 | .arr k,c,v,x,hv,hx,_=>by
  cases c with
  | arr k' xs=>
   obtain⟨e1,rfl⟩:=I2<|show It k' k xs=I x from hx;subst e1;obtain⟨us,k1,k2,k3⟩:=hv;exact⟨[],⟨rfl,λβ' hβ'=>⟨us,k1,k2,λi x j c u a1 a2 a3=>(k3 i x j c u a1 a2 a3).Rh (Ib k' x a2) R.hM β' hβ'⟩⟩,rfl⟩
  | _=>simp[Bs]at hx
 | .same t,c,v,x,hv,hx,_=>by
  cases c with
  | ptr id z i o=>
   cases i<;>cases o<;>simp only[Bs]at hx<;>first|(cases hx;done)|skip
   split at hx
   .rename_i id' z' hE;split at hx
    .rename_i hid;obtain rfl:=Br hid;have h2:=R.hE t _ _ hE;rw[hE]at h2;have h2:=h2.Rg;have h1:=hv.Rg;refine⟨[],⟨rfl, ?_,h1.one⟩,rfl⟩;generalize e t=v2 at h2;cases h1 with
     | ptr a1 a2 a3=>
      cases h2 with
      | ptr b1 b2 b3=>
       rw[a1]at b1;cases b1;rw[a2]at b2;cases b2;simp
    .cases hx
   .cases hx
  | _=>simp[Bs]at hx
 | .agg l,c,v,x,hv,hx,hf=>by
  cases c with
  | agg cs=>
   obtain⟨us,rfl,hr⟩:=hv;obtain⟨os,h1,h2⟩:=l9 R l cs us x hr hx hf;exact⟨os,⟨us,rfl,h1⟩,h2⟩
  | _=>simp[Bs]at hx
 | .box t l,c,v,x,hv,hx,hf=>by
  cases c with
  | ptr id z i o=>
   cases i<;>cases o<;>simp only[Bs]at hx<;>first|(cases hx;done)|skip
   split at hx
   .rename_i t' cs hid;split at hx
    .rename_i ht;obtain rfl:=Br ht;have hv:=hv.Rg;cases hv with
     | @ptr _ _ _ _ hd n b f h1 ha hi=>
      obtain⟨b',us,k1,k2,k3⟩:=R.hs.EJ id _ hid;rw[h1]at k1;cases k1;cases ha;obtain⟨os,j1,j2⟩:=l9 R l cs us.toList x k3 hx (by simpa only[Cr,hid] using hf);refine⟨os++[(.pointer<|I ⟨b,0,G⟩,1)],⟨b,us,os,by simp,k2,j1,by simp⟩, ?_⟩;have:Cg H (.box t l) (.ptr id z 0 0)=Bo H l cs++[id]:=by simp only[Cg,hid]
      rw[this];simp only[Az,MM]at j2 ⊢;rw[j2];simp[h1]
    .cases hx
   .cases hx
  | _=>simp[Bs]at hx
theorem l9 (R:Nq B β H w M E e):∀(l:List Sh) (cs:List AV) (us:List Value) (x:LTs l),RL (RC w β) cs us->GC E H l cs=I x->RG β M (Cv H l cs)->
  ∃os,Cl B.P w M e l x us os/\Az os=Az ((Bo H l cs).filterMap β)
 | [],[],us,x,hr,hx,_=>⟨[],⟨hr.of_nil,rfl⟩,rfl⟩
 | [],_::_,us,x,hr,hx,_=>by cases hx
 | _::_,[],us,x,hr,hx,_=>by cases hx
 | h::l,c::cs,us,x,hr,hx,hf=>by
  obtain⟨u,us',rfl,h1,h2⟩:=hr.CD;obtain⟨x1,e1,hx⟩:=Ag.1 hx;obtain⟨x2,e2,hx⟩:=Ag.1 hx;cases hx;obtain⟨o1,j1,j2⟩:=lj R h c u x1 (R1.Me h1) e1 (λi hi=>hf i<|Bz _ hi);obtain⟨o2,j3,j4⟩:=l9 R l cs us' x2 h2 e2 (λi hi=>hf i<|CW _ hi);refine⟨o1++o2,⟨u,us',o1,o2,rfl,rfl,j1,j3⟩, ?_⟩;simp only[Az,MM,Bo]at j2 j4 ⊢;rw[j2,j4]
end
def Xj(R:Nq B β H w M E e):∀(l:List Sh) (cs:List AV) (us:List Value) (x:LTs l),RL (R1 w β) cs us->GC E H l cs=I x->RG β M (Cv H l cs)->
  ∃os,Cl B.P w M e l x us os/\Az os=Az ((Bo H l cs).filterMap β)
 | [],[],us,x,hr,hx,_=>⟨[],⟨hr.of_nil,rfl⟩,rfl⟩
 | [],_::_,us,x,hr,hx,_=>by cases hx
 | _::_,[],us,x,hr,hx,_=>by cases hx
 | h::l,c::cs,us,x,hr,hx,hf=>by
  obtain⟨u,us',rfl,h1,h2⟩:=hr.CD;obtain⟨x1,e1,hx⟩:=Ag.1 hx;obtain⟨x2,e2,hx⟩:=Ag.1 hx;cases hx;obtain⟨o1,j1,j2⟩:=lj R h c u x1 h1 e1 (λi hi=>hf i<|Bz _ hi);obtain⟨o2,j3,j4⟩:=Xj R l cs us' x2 h2 e2 (λi hi=>hf i<|CW _ hi);refine⟨o1++o2,⟨u,us',o1,o2,rfl,rfl,j1,j3⟩, ?_⟩;simp only[Az,MM,Bo]at j2 j4 ⊢;rw[j2,j4]
end
end Go.VS
namespace Go.VS
open Go
section
variable {P:Program} {β:Beta} {H:Hp} {w:World} {M:Nat->Prop} {E:Nat->AV} {e:Nat->Value} {b:Nat}
def IP(P:Program)(w:World)(β:Beta)(H H':Hp)(b n:Nat):Prop:=
 (∀j,j<b\/b+n<=j->H' j=H j)/\(∀j,b<=j->j<b+n->∃ob,H' j=I ob/\E6 P w β j ob)
def IP.nil:IP P w β H H b 0:=⟨λ_ _=>rfl,λj h1 h2=>by omega⟩
def IP.one{ob:Ob}(h:E6 P w β b ob):IP P w β H (upd H b<|I ob) b 1:=by
 refine⟨λj hj=>BE _ _ J,λj h1 h2=> ?_⟩;have:j=b:=J
 subst this;exact⟨ob,Bi _ _ _,h⟩
def IP.trans{H' H'':Hp}{n m:Nat}(h:IP P w β H H' b n)(k:IP P w β H' H'' (b+n) m):IP P w β H H'' b (n+m):=by
 refine⟨λj hj=> ?_,λj h1 h2=> ?_⟩
 .rw[k.1 j J,h.1 j J]
 .by_cases e:j<b+n
  .obtain⟨ob,k1,k2⟩:=h.2 j h1 e;exact⟨ob,by rw[k.1 j<|.inl e];exact k1,k2⟩
  .exact k.2 j J J
def Num(β:Beta)(b:Nat)(os:List (Value×Nat)):Prop:=∀i p,os[i]? =I p->β (b+i)=I p
def Num.left{o1 o2:List (Value×Nat)}(h:Num β b (o1++o2)):Num β b o1:=λi p hp=>h i p (by
 rw[II (BR.1 hp).1];exact hp)
def Num.right{o1 o2:List (Value×Nat)}(h:Num β b (o1++o2)):Num β (b+o1.length) o2:=λi p hp=>by
 have:=h (o1.length+i) p (by rw[FN J];simpa using hp);rw[D8];exact this
def Num.one{p:Value×Nat}{os:List (Value×Nat)}(h:Num β b (os++[p])):β (b+os.length)=I p:=by
 have:=h.right 0 p rfl;simpa using this
def UF(w:World)(β:Beta)(E:Nat->AV)(e:Nat->Value)(ts:List Nat):Prop:=∀t∈ts,R1 w β (E t)<|e t
def R1.am5{c:AV}{v:Value}(h:R1 w β c v)(h1:v.oneCell'=Y):RC w β c v:=by
 cases c with
 | un=>exact .un h1
 | lit v'=>have:=h.lits;subst this;exact .lit h1
 | sl k xs=>exact h
 | own id=>exact h
 | ptr a b c d=>exact h
 | ipt a b c=>exact h
 | arr k xs=>obtain⟨us,rfl,_⟩:=h;cases h1
 | agg cs=>obtain⟨us,rfl,_⟩:=h;cases h1
 | tup vs=>exact h.elim
 | gd a b c=>exact h.elim
mutual
theorem aGY (hM:∀b,MZ β b->M b):∀(h:Sh) (H:Hp) (b:Nat) (x:LT h) (v:Value) (os:List (Value×Nat)),Ip h=Y->Rel P w M e h x v os->Num β b os->UF w β E e (MC h)->
  RC w β (BL E H b h x).1 v/\(BL E H b h x).2.2=b+os.length/\IP P w β H (BL E H b h x).2.1 b os.length
 | .int k,H,b,x,v,os,_,hr,_,_=>by obtain⟨rfl,rfl⟩:=hr;exact⟨.lit rfl,rfl,.nil⟩
 | .bool,H,b,x,v,os,_,hr,_,_=>by obtain⟨rfl,rfl⟩:=hr;exact⟨.lit rfl,rfl,.nil⟩
 | .str,H,b,x,v,os,_,hr,_,_=>by obtain⟨rfl,rfl⟩:=hr;exact⟨.lit rfl,rfl,.nil⟩
 | .sl k,H,b,x,v,os,_,hr,_,_=>by obtain⟨h1,rfl⟩:=hr;exact⟨h1 β hM,rfl,.nil⟩
 | .fz k,H,b,x,v,os,_,hr,_,_=>by obtain⟨h1,rfl⟩:=hr;exact⟨h1 β hM,rfl,.nil⟩
 | .row t k,H,b,x,v,os,_,hr,hn,_=>by
  obtain⟨rfl,h1,h2⟩:=hr;have hb:β b=I (v,x.length):=hn.one (os:=[]);exact⟨.own hb h1,rfl,.one ⟨v,hb,h2 β hM⟩⟩
 | .Cj t k,H,b,x,v,os,_,hr,hn,_=>by
  obtain⟨rfl,h1,h2⟩:=hr;have hb:β b=I (v,x.length):=hn.one (os:=[]);exact⟨.own hb h1,rfl,.one ⟨v,hb,h2 β hM⟩⟩
 | .abx t k,H,b,x,v,os,_,hr,hn,_=>by
  obtain⟨rfl,h1,bb,us,rfl,h3,h4,h5,h6⟩:=hr;have hb:β b=I (.pointer<|I ⟨bb,0,G⟩,x.length):=hn.one (os:=[]);refine⟨?_,rfl,.one ⟨bb,us,hb,h3,h4,h5,h6 β hM⟩⟩;have:=RC.ptr (w:=w) (sz:=ks k) (o:=0) hb (rfl:adr (.pointer<|I ⟨bb,0,G⟩)=I ⟨bb,0,G⟩) (i:=0) J;show RC w β (.ptr b (ks k) 0 0) _;simpa using this
 | .arr _,_,_,_,_,_,h,_,_,_=>by simp[Ip]at h
 | .agg _,_,_,_,_,_,h,_,_,_=>by simp[Ip]at h
 | .same t,H,b,x,v,os,_,hr,_,hs=>by
  obtain⟨rfl,rfl,h1⟩:=hr;refine⟨?_,rfl,.nil⟩;exact(hs t<|by simp[MC]).am5 h1
 | .box t l,H,b,x,v,os,hl,hr,hn,hs=>by
  obtain⟨bb,us,os',rfl,h2,h3,rfl⟩:=hr;have un:BL E H b (.box t l) x=(match Aj E H b l x with|(cs,H,b)=>(AV.ptr b cs.length 0 0,upd H b<|I<|.box t cs,b+1)):=rfl;obtain⟨k1,k2,k3⟩:=Ys hM l H b x us.toList os' (by simpa[Ip] using hl) h3 hn.left (by simpa[MC] using hs);rw[un];generalize Aj E H b l x=r at *;obtain⟨cs,H',b'⟩:=r;simp only at k1 k2 k3;subst k2;have hb:=hn.one;refine⟨?_,by simp[D8], ?_⟩
  .have:=RC.ptr (w:=w) (sz:=cs.length) (o:=0) hb (rfl:adr (.pointer<|I ⟨bb,0,G⟩)=I ⟨bb,0,G⟩) (i:=0) J;simpa using this
  .rw[Am];exact k3.trans<|.one ⟨bb,us,hb,h2,k1⟩
theorem Ys (hM:∀b,MZ β b->M b):∀(l:List Sh) (H:Hp) (b:Nat) (x:LTs l) (us:List Value) (os:List (Value×Nat)),M1 l=Y->Cl P w M e l x us os->Num β b os->UF w β E e (Il l)->
  RL (RC w β) (Aj E H b l x).1 us/\(Aj E H b l x).2.2=b+os.length/\IP P w β H (Aj E H b l x).2.1 b os.length
 | [],H,b,x,us,os,_,hr,_,_=>by obtain⟨rfl,rfl⟩:=hr;exact⟨.nil,rfl,.nil⟩
 | h::l,H,b,x,us,os,hl,hr,hn,hs=>by
  obtain⟨u,us',o1,o2,rfl,rfl,h1,h2⟩:=hr;simp only[M1,AE]at hl;have un:Aj E H b (h::l) x=(match BL E H b h x.1 with|(c,H,b)=>match Aj E H b l x.2 with|(cs,H,b)=>(c::cs,H,b)):=rfl;obtain⟨k1,k2,k3⟩:=aGY hM h H b x.1 u o1 hl.1 h1 hn.left (λt ht=>hs t<|Bz _ ht);rw[un];generalize BL E H b h x.1=r at *;obtain⟨c,H',b'⟩:=r;simp only at k1 k2 k3 ⊢;subst k2;obtain⟨j1,j2,j3⟩:=Ys hM l H' (b+o1.length) x.2 us' o2 hl.2 h2 hn.right (λt ht=>hs t<|CW _ ht);generalize Aj E H' (b+o1.length) l x.2=r at *;obtain⟨cs,H'',b''⟩:=r;simp only at j1 j2 j3 ⊢;subst j2;refine⟨.cons k1 j1,by simp[D8], ?_⟩;rw[Am];exact k3.trans j3
end
def aGX(hM:∀b,MZ β b->M b)(h:Sh)(H:Hp)(b:Nat)(x:LT h)(v:Value)(os:List (Value×Nat))(ht:ow h=Y)(hr:Rel P w M e h x v os)(hn:Num β b os)(hs:UF w β E e (MC h)):
  R1 w β (BL E H b h x).1 v/\(BL E H b h x).2.2=b+os.length/\IP P w β H (BL E H b h x).2.1 b os.length:=by
 by_cases hh:Ip h=Y
 .obtain⟨h1,h2,h3⟩:=aGY hM h H b x v os hh hr hn hs;exact⟨.Me h1,h2,h3⟩
 .cases h<;>first|(exact absurd ht hh;done)|skip
  case agg l=>
   obtain⟨us,rfl,h1⟩:=hr;have un:BL E H b (.agg l) x=(match Aj E H b l x with|(cs,H,b)=>(AV.agg cs,H,b)):=rfl;obtain⟨k1,k2,k3⟩:=Ys hM l H b x us os ht h1 hn hs;rw[un];generalize Aj E H b l x=r at *;obtain⟨cs,H',b'⟩:=r;exact⟨⟨us,rfl,k1⟩,k2,k3⟩
  case arr k=>
   obtain⟨rfl,h1⟩:=hr;exact⟨h1 β hM,rfl,.nil⟩
def Yr(hM:∀b,MZ β b->M b):∀(l:List Sh) (H:Hp) (b:Nat) (x:LTs l) (us:List Value) (os:List (Value×Nat)),K5 l=Y->Cl P w M e l x us os->Num β b os->UF w β E e (Il l)->
  RL (R1 w β) (Aj E H b l x).1 us/\(Aj E H b l x).2.2=b+os.length/\IP P w β H (Aj E H b l x).2.1 b os.length
 | [],H,b,x,us,os,_,hr,_,_=>by obtain⟨rfl,rfl⟩:=hr;exact⟨.nil,rfl,.nil⟩
 | h::l,H,b,x,us,os,hl,hr,hn,hs=>by
  obtain⟨u,us',o1,o2,rfl,rfl,h1,h2⟩:=hr;simp only[K5,AE]at hl;have un:Aj E H b (h::l) x=(match BL E H b h x.1 with|(c,H,b)=>match Aj E H b l x.2 with|(cs,H,b)=>(c::cs,H,b)):=rfl;obtain⟨k1,k2,k3⟩:=aGX hM h H b x.1 u o1 hl.1 h1 hn.left (λt ht=>hs t<|Bz _ ht);rw[un];generalize BL E H b h x.1=r at *;obtain⟨c,H',b'⟩:=r;simp only at k1 k2 k3 ⊢;subst k2;obtain⟨j1,j2,j3⟩:=Yr hM l H' (b+o1.length) x.2 us' o2 hl.2 h2 hn.right (λt ht=>hs t<|CW _ ht);generalize Aj E H' (b+o1.length) l x.2=r at *;obtain⟨cs,H'',b''⟩:=r;simp only at j1 j2 j3 ⊢;subst j2;refine⟨.cons k1 j1,by simp[D8], ?_⟩;rw[Am];exact k3.trans j3
end
end Go.VS
namespace Go.VS
open Go
def Xk:∀ {l:List Nat},NG l=Y->l.Nodup
 | [],_=>List.nodup_nil
 | a::l,h=>by
  simp only[NG,AE,CM]at h;refine IG.2 ⟨λhm=> ?_,Xk h.2⟩;have:(l.any λb=>Af a b)=Y:=KD.2 ⟨a,hm,by simp⟩;rw[this]at h;cases h.1
def aFN{l m:List Nat}(h:off l m=Y):∀a∈l,a ∉ m:=λa ha hm=>by
 have h1:=DB.1 h a ha;have:(m.any λb=>Af a b)=Y:=KD.2 ⟨a,hm,by simp⟩;rw[this]at h1;cases h1
section
variable {B:Be} {β β':Beta} {H H':Hp} {w w':World} {M:Nat->Prop} {E:Nat->AV} {e:Nat->Value} {stk:List (Array Value)} {s s':S} {a:Act}
def N7{ids:List Nat}{b:Nat}(h:b∈Az (ids.filterMap β)):∃i∈ids,∃p a,β i=I p/\adr p.1=I a/\a.block=b:=by
 obtain⟨p,hp,hb⟩:=GO.1 h;obtain⟨i,hi,hβ⟩:=GO.1 hp;obtain⟨a,ha,e⟩:=D9.1 hb;exact⟨i,hi,p,a,hβ,ha,e⟩
def Xw(hH:Hs B β H w):∀ {ids:List Nat},ids.Nodup->(Az<|ids.filterMap β).Nodup
 | [],_=>List.nodup_nil
 | i::ids,h=>by
  obtain⟨h1,h2⟩:=IG.1 h;have ih:=Xw hH h2;cases hβ:β i with
  | none=>simpa[hβ] using ih
  | some p=>
   cases hb:HC p with
   | none=>simpa[hβ,hb] using ih
   | some b=>
    simp only[Az,mO,hβ,hb];refine IG.2 ⟨λhm=> ?_,ih⟩;obtain⟨j,hj,q,a',hq,ha',e'⟩:=N7 hm;obtain⟨a,ha,e⟩:=D9.1 hb;have:=hH.inj i j p q a a' hβ hq ha ha' (by rw[e,e']);subst this;exact h1 hj
def Te{ids:List Nat}{b:Nat}(h:b∈Az (ids.filterMap β)):MB β b:=by
 obtain⟨i,_,p,a,h1,h2,h3⟩:=N7 h;exact⟨i,p.1,p.2,a,h1,h2,h3⟩
abbrev MO(B:Be)(l:List Nat)(b:Nat):Prop:=b∈l\/B.Z b
def abM(hH:Hs B β H w){ids:List Nat}{b:Nat}(h:MO B (Az<|ids.filterMap β) b):MZ β b:=by
 obtain h|h:=h
 .exact .inl (Te h)
 .exact .inr (by rw[hH.z];exact h)
def nE(hH:Hs B β H w){fz ids:List Nat}(h:off fz ids=Y):RG β (MO B<|Az<|ids.filterMap β) fz:=by
 intro i hi p a hp ha hm;obtain hm|hm:=hm
 case inr=>rw[← hH.z]at hm;exact hH.zn i p a hp ha hm
 obtain⟨j,hj,q,a',hq,ha',e⟩:=N7 hm;have:=hH.inj i j p q a a' hp hq ha ha' e.symm;subst this;exact aFN h i hi hj
def Hi(Z:Nat->Prop)(os:List (Value×Nat)):Beta:=⟨λi=>os[i]?, Z⟩
def mI(Z:Nat->Prop)(os:List (Value×Nat)):Num (Hi Z os) 0 os:=λi p h=>by rw[DM];exact h
def N9{Z:Nat->Prop}{os:List (Value×Nat)}{b:Nat}(h:MB (Hi Z os) b):b∈Az os:=by
 obtain⟨i,hd,n,a,h1,h2,h3⟩:=h;exact GO.2 ⟨(hd,n),Cp h1,by simp[HC,h2,h3]⟩
def ni{os:List (Value×Nat)}{b:Nat}(h:MZ (Hi B.Z os) b):MO B (Az os) b:=h.imp N9 λh=>h
def Yp{os:List (Value×Nat)}(h:(Az os).Nodup):∀(i j:Nat) (p q:Value×Nat) (a a':Addr),os[i]? =I p->os[j]? =I q->adr p.1=I a->adr q.1=I a'->a.block=a'.block->i=j:=by
 induction os with
 | nil=>intro i j p q a a' hi;simp at hi
 | cons x os ih=>
  have hx:∀ {p:Value×Nat} {a:Addr},adr p.1=I a->HC p=I a.block:=λh=>by simp[HC,h]
  have ih':(Az os).Nodup:=by
   cases hb:HC x with
   | none=>simpa[hb] using h
   | some b=>simp only[Az,mO,hb]at h;exact(IG.1 h).2
  have Ug:∀(j:Nat) (q:Value×Nat) (a a':Addr),os[j]? =I q->adr x.1=I a->adr q.1=I a'->a.block=a'.block->False:=by
   intro j q a a' hj ha ha' e;simp only[Az,mO,hx ha]at h;refine(IG.1 h).1<|GO.2 ⟨q,Cp hj, ?_⟩;rw[hx ha',e]
  intro i j p q a a' hi hj ha ha' e;cases i with
  | zero=>
   simp at hi;subst hi;cases j with
   | zero=>rfl
   | succ j=>simp at hj;exact(Ug j q a a' hj ha ha' e).elim
  | succ i=>
   simp at hi;cases j with
   | zero=>simp at hj;subst hj;exact(Ug i p a' a hi ha' ha e.symm).elim
   | succ j=>simp at hj;rw[ih ih' i j p q a a' hi hj ha ha' e]
def Hs.aza(hH:Hs B β H w){os:List (Value×Nat)}(hn:(Az os).Nodup)(hb:∀b∈Az os,MB β b)(hm:IP B.P w (Hi B.Z os) (λ_=>G) H' 0 os.length):Hs B (Hi B.Z os) H' w where
 EJ id ob ho:=by
  by_cases h:id<os.length
  .obtain⟨ob',h1,h2⟩:=hm.2 id (Ch _) J;rw[h1]at ho;cases ho;exact h2
  .rw[hm.1 id J]at ho;cases ho
 dom id p hp:=by
  have h:id<os.length:=(BR.1<|show os[id]? =I p from hp).1;obtain⟨ob',h1,_⟩:=hm.2 id (Ch _) J;exact⟨ob',h1⟩
 inj i j p q a a' hi hj:=Yp hn i j p q a a' hi hj
 old b h:=hH.old b (hb b<|N9 h)
 os:=hH.os
 tape:=hH.tape
 output:=hH.output
 size:=hH.size
 block:=hH.block
 z:=rfl
 zn id p a hp ha hz:=by
  have hb:=hb a.block (GO.2 ⟨p,Cp hp,by simp[HC,ha]⟩);obtain⟨j,hd,n,a',h1,h2,h3⟩:=hb;refine hH.zn j _ a' h1 h2 ?_;rw[h3,hH.z];exact hz
 zl b h:=hH.zl b (by rw[hH.z];exact h)
 pk:=hH.pk
def aCs{E:Nat->AV}{h:Sh}{c:AV}{x:LT h}(hx:Bs E H h c=I x):(∀g w v,c≠ .gd g w v)/\ ∀vs,c≠ .tup vs:=by
 constructor
 .rintro g w v rfl;cases h<;>simp[Bs,CJ]at hx
 .rintro vs rfl;cases h<;>simp[Bs,CJ]at hx
def RT.Mf{tm:Nat->Value}{c:AV}{v:Value}(h:RT w β tm c v)(h1:∀g w v,c≠ .gd g w v)(h2:∀vs,c≠ .tup vs):R1 w β c v:=by
 cases c<;>first|exact h|exact absurd rfl (h1 _ _ _)|exact absurd rfl (h2 _)
def aCJ{tm:Nat->Value}{T:Nat->AV}(R:Nq B β H w M T tm)(hT:∀t,RT w β tm (T t)<|tm t):∀(c:Sch) (x:Lv c),nf H T c=I x->RG β M (o7 H T c)->
  ∃os,Cl B.P w M tm (c.map (·.2)) x (c.map λp=>tm p.1) os/\Az os=Az ((Od H T c).filterMap β)
 | [],x,hx,_=>⟨[],⟨rfl,rfl⟩,rfl⟩
 | (t,h)::c,x,hx,hf=>by
  obtain⟨x1,e1,hx⟩:=Ag.1 hx;obtain⟨x2,e2,hx⟩:=Ag.1 hx;cases hx;obtain⟨p1,p2⟩:=aCs e1;obtain⟨o1,j1,j2⟩:=lj R h (T t) (tm t) x1 ((hT t).Mf p1 p2) e1 (λi hi=>hf i<|Bz _ hi);obtain⟨o2,j3,j4⟩:=aCJ R hT c x2 e2 (λi hi=>hf i<|CW _ hi);refine⟨o1++o2,⟨tm t,c.map λp=>tm p.1,o1,o2,rfl,rfl,j1,j3⟩, ?_⟩;simp only[Az,MM,Od]at j2 j4 ⊢;rw[j2,j4]
def aCg{P:Program}{tm:Nat->Value}(hM:∀b,MZ β b->M b):∀(c:Sch) (T:Nat->AV) (H:Hp) (b:Nat) (x:Lv c) (os:List (Value×Nat)),K5 (c.map (·.2))=Y->Cl P w M tm (c.map (·.2)) x (c.map λp=>tm p.1) os->Num β b os->(∀t,R1 w β (T t)<|tm t)->
  (∀t,R1 w β ((M5 T H b c x).1 t)<|tm t)/\(M5 T H b c x).2.2=b+os.length/\IP P w β H (M5 T H b c x).2.1 b os.length
 | [],T,H,b,x,os,_,hr,_,hT=>by obtain⟨_,rfl⟩:=hr;exact⟨hT,rfl,.nil⟩
 | (t,h)::c,T,H,b,x,os,hl,hr,hn,hT=>by
  obtain⟨u,us',o1,o2,e1,rfl,h1,h2⟩:=hr;simp only[DV,MR]at e1;obtain⟨rfl,rfl⟩:=e1;simp only[DV,K5,AE]at hl;have un:M5 T H b ((t,h)::c) x=(match BL T H b h x.1 with|(v,H,b)=>M5 (upd T t v) H b c x.2):=rfl;obtain⟨k1,k2,k3⟩:=aGX (E:=T) hM h H b x.1 (tm t) o1 hl.1 h1 hn.left (λt' _=>hT t');rw[un];generalize BL T H b h x.1=r at *;obtain⟨v,H',b'⟩:=r;simp only at k1 k2 k3 ⊢;subst k2;obtain⟨j1,j2,j3⟩:=aCg hM c (upd T t v) H' (b+o1.length) x.2 o2 hl.2 h2 hn.right (λt'=>by
   by_cases e:t'=t
   .subst e;rw[Bi];exact k1
   .rw[BE _ _ e];exact hT t')
  refine⟨j1,by rw[j2];simp[D8], ?_⟩;rw[Am];exact k3.trans j3
def R1.bQ{tm:Nat->Value}{c:AV}{v:Value}(h:R1 w β c v):RT w β tm c v:= .HL<|.HM h
def St.join(hst:St B β stk s a w){c:Sch}{x:Lv c}(hx:rdS c s=I x):stk=[]/\ ∃β',St B β' [] (mkS s.n s.pins c x) a w/\Fr (mkS s.n s.pins c x)/\(mkS s.n s.pins c x).n=s.n/\(mkS s.n s.pins c x).pins=s.pins:=by
 unfold rdS at hx;split at hx
 .rename_i hs hnd hok;have Ri:stk=[]:=by
   have:=hst.stack.1;rw[hs]at this;exact Df this
  refine⟨Ri, ?_⟩;simp only[AE]at hnd;simp only[abV,AE]at hok;have R:Nq B β s.H w (MO B<|Az<|(Od s.H s.T c).filterMap β) s.T (Bb a):={
   hs:=hst.hs
   hM:=λb hb=>abM hst.hs hb
   hE:=λt id z e=>(hst.T t).Mf (by rw[e];simp) (by rw[e];simp) }
  obtain⟨os,h1,h2⟩:=aCJ R hst.T c x hx<|nE hst.hs hnd.2;have ba:(Az os).Nodup:=by rw[h2];exact Xw hst.hs<|Xk hnd.1
  have hMB:∀b∈Az os,MB β b:=λb hb=>by rw[h2]at hb;exact Te hb
  obtain⟨k1,k2,k3⟩:=aCg (β:=Hi B.Z os) (P:=B.P) (w:=w) (M:=MO B<|Az<|(Od s.H s.T c).filterMap β) (tm:=Bb a) (λb hb=>by have:=ni hb;rw[h2]at this;exact this) c (λ_=> .un) (λ_=>G) 0 x os hok.1.2 h1 (mI B.Z os) (λ_=>trivial);have un:mkS s.n s.pins c x=(match M5 (λ_=> .un) (λ_=>G) 0 c x with
   | (T,H,b)=>{ n:=s.n,T:=T,H:=H,nid:=b,st:=[],pins:=s.pins,gs:=λ_=>A0 }):=rfl
  rw[un];generalize M5 (λ_=> .un) (λ_=>G) 0 c x=r at *;obtain⟨T,H',b⟩:=r;simp only at k1 k2 k3;have hH:=hst.hs.aza ba hMB k3;refine⟨Hi B.Z os,⟨λt=>(k1 t).bQ,⟨rfl,λi T' tm h=>by simp at h⟩,hst.n,hst.defers,hst.pins,λt g want y hy=> ?_,hH⟩,λj hj=> ?_,rfl,rfl⟩
  .have:=k1 t;have hy:T t= .gd g want y:=hy;rw[hy]at this;exact this.elim
  .exact k3.1 j (.inr (by have hj:b<=j:=hj;omega))
 .cases hx
end
end Go.VS
namespace Go.VS
open Go
structure KOK {Ω:Type} (B:Be) (stk:List (Array Value)) (n:Nat) (pins:List Nat) (k:Kt Ω) (q:Ω) (Q:Exit->Act->World->Prop):Prop where
 nrm:∀β a w s,St B β stk s a w->Fr s->s.n=n->s.pins=pins->k.nrm s=I q->Q .normal a w
 ret:∀β a w s,St B β stk s a w->Fr s->s.n=n->s.pins=pins->k.ret s=I q->Q .ret a w
 ext:∀id β a w s,St B β stk s a w->Fr s->s.n=n->s.pins=pins->k.ext id s=I q->Q (.exit id) a w
def NB(B:Be)(n:Nat)(pins:List Nat)(body:Code)(l:Loop):Prop:=∀(x:Lv l.sch) (r:Lv l.KU ⊕ Lv l.KV),l.run x=I r->∀(β:Beta) (a:Act) (w:World) (Q:Exit->Act->World->Prop),
 St B β [] (mkS n pins l.sch x) a w->Fr (mkS n pins l.sch x)->
 (∀y,r= .inl y->∀β a w,St B β [] (mkS n pins l.KU y) a w->Fr (mkS n pins l.KU y)->Q .ret a w)->
 (∀y,r= .inr y->∀β a w,St B β [] (mkS n pins l.KV y) a w->Fr (mkS n pins l.KV y)->Q (.exit l.xid) a w)->(Code.loop body).wp B.P Q a w
def Hh(L:Code->Loop->Prop):Code->Adv->Prop
 | .seq a b,.join _ u v=>Hh L a u/\Hh L b v
 | .seq a b,v=>Hh L a v.a/\Hh L b v.z
 | .cond _ x y,v=>Hh L x v.a/\Hh L y v.z
 | .block _ c,v=>Hh L c v.a
 | .loop c,.loop l=>L c l
 | _,_=>True
def G7(L:Code->Loop->Prop):∀c:Code,Hh L c .nil
 | .seq a b=>⟨G7 L a,G7 L b⟩
 | .cond _ x y=>⟨G7 L x,G7 L y⟩
 | .block _ c=>G7 L c
 | .skip=>trivial
 | .region _ _ _=>trivial
 | .loop _=>trivial
 | .exit _=>trivial
 | .ret=>trivial
 | .rangeFunc _ _ _ _=>trivial
 | .scope _=>trivial
 | .label _=>trivial
 | .goto _=>trivial
 | .refuse _=>trivial
section
variable {C:Cx} {B:Be} {inl:(Ω:Type)->Inl Ω}
def Xx(hP:C.P=B.P)(hm:B.P.follows .mixedOrders=Y)(hC:HW C B)(hI:JN C B inl):∀(c:Code) {Ω:Type} (v:Adv) (k:Kt Ω) (s:S) (q:Ω) {β:Beta} {stk:List (Array Value)} {a:Act} {w:World} {Q:Exit->Act->World->Prop},
  evk C inl c Ω v k s=I q->St B β stk s a w->Fr s->Hh (NB B s.n s.pins) c v->KOK B stk s.n s.pins k q Q->c.wp B.P Q a w:=by
 intro c
 induction c with
 | skip=>exact λv k s q β stk a w Q he hst hfr _ hk=>wp_skip<|hk.nrm _ _ _ _ hst hfr rfl rfl he
 | region id ops draw=>
  intro Ω v k s q β stk a w Q he hst hfr _ hk;cases draw with
  | false=>exact aCS hP hC hI (show PC C (inl Ω) ops ops.toList s k.nrm=I q from he) hfr hst λβ a w s' h1 h2 h3 h4 h5=>hk.nrm β a w s' h1 h2 h3 h4 h5
  | true=>
   obtain⟨β1,hs1,_⟩:=St.LW (RO C ops s) hst;have hk1:=BI.LW (N:=λ_=>False) (RO C ops s)<|BI.refl _ s;have he:evD C ops ((RO C ops s).foldl S.freeze s) ops.toList 0 s.nid [] ((RO C ops s).foldl S.freeze s) k.nrm=I q:=he;rw[← hk1.nid]at he;exact auN hP hm hC he (λj hj=>hk1.nn j (λh=>h)<|hfr j (by rw[hk1.nid]at hj;exact hj)) hs1 λβ a w s' h1 h2 h3 h4 h5=>hk.nrm β a w s' h1 h2 (h3.trans hk1.n) (h4.trans hk1.pins) h5
 | seq x y ihx ihy=>
  intro Ω v k s q β stk a w Q he hst hfr GR hk;refine wp_seq ?_;by_cases hj:∃c u v',v= .join c u v'
  .obtain⟨c,u,v',rfl⟩:=hj;obtain⟨ha1,ha2⟩:=GR;have he:BU (λx=>evk C inl y Ω v' k<|mkS s.n s.pins c x) (evk C inl x (Ω ⊕ Lv c) u { nrm:=λs=>(rdS c s).bind λx=>I<|.inr x,ret:=λs=>(k.ret s).bind λo=>I<|.inl o,ext:=λj s=>(k.ext j s).bind λo=>I (.inl o) } s)=I q:=he;obtain⟨r,h1,h2⟩:=Ag.1 he;refine ihx u _ s r h1 hst hfr ha1 ⟨?_, ?_, ?_⟩
   .intro β' a' w' s' k1 k2 k3 k4 k5;obtain⟨z,j1,j2⟩:=Ag.1 k5;cases j2;obtain⟨rfl,β2,m1,m2,m3,m4⟩:=k1.join j1;rw[k3,k4]at m1 m2 m3 m4;exact ihy v' k _ q h2 m1 m2 (by rw[m3,m4];exact ha2) (by rw[m3,m4];exact hk)
   .intro β' a' w' s' k1 k2 k3 k4 k5;obtain⟨o,j1,j2⟩:=Ag.1 k5;cases j2;have h2:I o=I q:=h2;cases h2;exact hk.ret _ _ _ _ k1 k2 k3 k4 j1
   .intro id β' a' w' s' k1 k2 k3 k4 k5;obtain⟨o,j1,j2⟩:=Ag.1 k5;cases j2;have h2:I o=I q:=h2;cases h2;exact hk.ext id _ _ _ _ k1 k2 k3 k4 j1
  .have he:evk C inl x Ω v.a { k with nrm:=evk C inl y Ω v.z k } s=I q:=by
    cases v<;>first|exact he|exact absurd ⟨_,_,_,rfl⟩ hj
   have GR:Hh (NB B s.n s.pins) x v.a/\Hh (NB B s.n s.pins) y v.z:=by
    cases v<;>first|exact GR|exact absurd ⟨_,_,_,rfl⟩ hj
   refine ihx v.a _ s q he hst hfr GR.1 ⟨?_,hk.ret,hk.ext⟩;intro β' a' w' s' k1 k2 k3 k4 k5;exact ihy v.z k s' q k5 k1 k2 (by rw[k3,k4];exact GR.2) (by rw[k3,k4];exact hk)
 | cond o x y ihx ihy=>
  intro Ω v k s q β stk a w Q he hst hfr GR hk;have he:(match s.ev o with
   | .lit (.bool b)=>if b then evk C inl x Ω v.a k s else evk C inl y Ω v.z k s
   | _=>G)=I q:=he
  split at he
  .rename_i b hb;have h1:=hst.eval o;rw[hb]at h1;have h2:a.eval o= .bool b:=h1;refine wp_cond h2 ?_;cases b with
   | true=>exact ihx v.a k s q he hst hfr GR.1 hk
   | false=>exact ihy v.z k s q he hst hfr GR.2 hk
  .cases he
 | block id x ihx=>
  intro Ω v k s q β stk a w Q he hst hfr GR hk;refine wp_block ?_;have he:evk C inl x Ω v.a { k with ext:=λj s=>match Af j id with
   | true=>k.nrm s
   | false=>k.ext j s } s=I q:=he
  refine ihx v.a _ s q he hst hfr GR ⟨hk.nrm,hk.ret, ?_⟩;intro j β' a' w' s' k1 k2 k3 k4 k5;show if j=id then Q .normal a' w' else Q (.exit j) a' w'
  simp only at k5;split at k5
  .rename_i e;rw[A5<|Br e];exact hk.nrm _ _ _ _ k1 k2 k3 k4 k5
  .rename_i e;rw[A9<|T7 e];exact hk.ext _ _ _ _ _ k1 k2 k3 k4 k5
 | loop body _=>
  intro Ω v k s q β stk a w Q he hst hfr GR hk;cases v<;>first|(cases he;done)|skip
  rename_i l;have he:((rdS l.sch s).bind λx=>AP (l.run x) (λy=>k.ret<|mkS s.n s.pins l.KU y) λy=>k.ext l.xid (mkS s.n s.pins l.KV y))=I q:=he;obtain⟨x,h1,h2⟩:=Ag.1 he;obtain⟨r,h3,h4⟩:=Ag.1 h2;obtain⟨rfl,β',m1,m2,_,_⟩:=hst.join h1;have GR:NB B s.n s.pins body l:=GR;refine GR x r h3 β' a w Q m1 m2 ?_ ?_
  .rintro y rfl β a w k1 k2;exact hk.ret _ _ _ _ k1 k2 (by unfold mkS;rfl) (by unfold mkS;rfl) h4
  .rintro y rfl β a w k1 k2;exact hk.ext _ _ _ _ _ k1 k2 (by unfold mkS;rfl) (by unfold mkS;rfl) h4
 | exit id=>exact λv k s q β stk a w Q he hst hfr _ hk=>wp_exit<|hk.ext _ _ _ _ _ hst hfr rfl rfl he
 | ret=>exact λv k s q β stk a w Q he hst hfr _ hk=>wp_ret<|hk.ret _ _ _ _ hst hfr rfl rfl he
 | _=>
  intro Ω v k s q β stk a w Q he;cases he
def ka(p:Nat->Prop)(h:∃n,p n):∃n,p n/\ ∀m,p m->n<=m:=by
 obtain⟨n,hn⟩:=h
 induction n using Nat.strongRecOn with
 | _ n ih=>
  by_cases hm:∃m,m<n/\p m
  .obtain⟨m,h1,h2⟩:=hm;exact ih m h1 h2
  .exact⟨n,hn,λm h=>Nat.le_of_not_lt λhlt=>hm ⟨m,hlt,h⟩⟩
def aE7{X H9:Type}{b:X->Option (X ⊕ H9)}{x:X}{y:H9}(h:AT b x=I y):∃n,Hg b n x=I y:=by
 unfold AT at h;split at h
 .rename_i hn;have:=J3<|J3 hn;cases h;exact⟨_,this⟩
 .cases h
def kh{X H9:Type}{b:X->Option (X ⊕ H9)}:∀(n:Nat) (x:X) {y:H9},Hg b n x=I y->∀m,n<=m->Hg b m x=I y
 | 0,x,y,h=>by cases h
 | n+1,x,y,h=>by
  intro m hm;obtain⟨m,rfl⟩:∃k,m=k+1:=⟨m - 1,J⟩;obtain⟨r,h1,h2⟩:=Ag.1 (show((b x).bind λr=>match r with
   | .inl y=>Hg b n y
   | .inr z=>I z)=I y from h)
  show((b x).bind λr=>match r with
   | .inl y=>Hg b m y
   | .inr z=>I z)=I y
  rw[h1,A6];cases r with
  | inl z=>exact kh n z h2 m J
  | inr z=>exact h2
def aDY{X H9:Type}{b:X->Option (X ⊕ H9)}{x:X}{y:H9}{n:Nat}(h:Hg b n x=I y):AT b x=I y:=by
 have hn:∃n y,Hg b n x=I y:=⟨n,y,h⟩;unfold AT;rw[dif_pos hn];have h1:=J3<|J3 hn;have h2:=kh _ _ h (n+NK hn) J;have h3:=kh _ _ h1 (n+NK hn) J;rw[h2]at h3;exact h3.symm
def ara{X H9:Type}{b:X->Option (X ⊕ H9)}{n:Nat}{x:X}{y:H9}(h:Hg b (n+1) x=I y):∃r,b x=I r/\(∀x',r= .inl x'->Hg b n x'=I y)/\(∀z,r= .inr z->z=y):=by
 obtain⟨r,h1,h2⟩:=Ag.1 (show((b x).bind λr=>match r with
   | .inl y=>Hg b n y
   | .inr z=>I z)=I y from h)
 refine⟨r,h1, ?_, ?_⟩
 .rintro x' rfl;exact h2
 .rintro z rfl;exact E5 h2
def awo(hP:C.P=B.P)(hm:B.P.follows .mixedOrders=Y)(hC:HW C B)(hI:JN C B inl){n:Nat}{pins:List Nat}{body:Code}{v:Adv}{l:Loop}{b:Lv l.sch->Option (Lv l.sch ⊕ (Lv l.KU ⊕ Lv l.KV))}
  (hb:∀x,evL C inl n pins body v l x=b x)(hr:l.run=AT b)(GR:Hh (NB B n pins) body v):NB B n pins body l:=by
 intro x r Ck β a w Q hst hfr IS amw;rw[hr]at Ck;obtain⟨N,hN⟩:=aE7 Ck
 let Sj:Nat->Act->World->Prop:=λm a w=>∃(x:Lv l.sch) (β:Beta),Hg b m x=I r/\St B β [] (mkS n pins l.sch x) a w/\Fr (mkS n pins l.sch x)
 classical
 let μ:Act->World->Nat:=λa w=>if h:∃m,Sj m a w then NK (ka _ h) else 0
 have hμ:∀a w,(h:∃m,Sj m a w)->Sj (μ a w) a w/\ ∀m,Sj m a w->μ a w<=m:=λa w h=>by
  have:=J3<|ka _ h;simp only[μ,dif_pos h];exact this
 refine wp_loop (λa w=>∃m,Sj m a w) μ ⟨N,x,β,hN,hst,hfr⟩ ?_;intro a w hJ;obtain⟨⟨x,β,h1,h2,h3⟩,_⟩:=hμ a w hJ;generalize hm':μ a w=m at h1;cases m with
 | zero=>cases h1
 | succ m=>
  obtain⟨r1,k1,k2,k2'⟩:=ara h1;have he:=hb x;rw[k1]at he;unfold evL at he;have en:(mkS n pins l.sch x).n=n:=by unfold mkS;rfl
  have ep:(mkS n pins l.sch x).pins=pins:=by unfold mkS;rfl
  refine Xx hP hm hC hI body v _ _ r1 he h2 h3 (by rw[en,ep];exact GR) ?_;rw[en,ep];refine⟨?_, ?_, ?_⟩
  .intro β' a' w' s' j1 j2 j3 j4 j5;obtain⟨y,i1,i2⟩:=Ag.1 j5;cases i2;obtain⟨_,β2,m1,m2,_,_⟩:=j1.join i1;rw[j3,j4]at m1 m2;have hJ':Sj m a' w':=⟨y,β2,k2 y rfl,m1,m2⟩;refine⟨⟨m,hJ'⟩, ?_⟩;have:=(hμ a' w' ⟨m,hJ'⟩).2 m hJ';omega
  .intro β' a' w' s' j1 j2 j3 j4 j5;obtain⟨y,i1,i2⟩:=Ag.1 j5;cases i2;obtain⟨_,β2,m1,m2,_,_⟩:=j1.join i1;rw[j3,j4]at m1 m2;have k2:=k2' _ rfl;subst k2;exact IS y rfl _ _ _ m1 m2
  .intro id β' a' w' s' j1 j2 j3 j4 j5;simp only at j5;split at j5
   .rename_i hid;obtain rfl:=Br hid;obtain⟨y,i1,i2⟩:=Ag.1 j5;cases i2;obtain⟨_,β2,m1,m2,_,_⟩:=j1.join i1;rw[j3,j4]at m1 m2;have k2:=k2' _ rfl;subst k2;exact amw y rfl _ _ _ m1 m2
   .cases j5
end
end Go.VS
namespace Go.VS
open Go
def MX:List Value->Value
 | [v]=>v
 | vs=> .tuple vs.toArray
def Jw:List Sh->List Value->List Value
 | .box _ _::ps,v::vs=>v::Jw ps vs
 | _::ps,_::vs=>Jw ps vs
 | _,_=>[]
def MA(P:Program)(f:FuncId):Prop:=∀(args:Array Value) (w:World),(callFunc f args).run P w= .ok (.enter f args) w
def ON{P:Program}{f:FuncId}{fn:Func}{c:Code}(hf:P.funcs[f]? =I fn)(KQ:(fn.name == "runtime.NumGoroutine")=A0)(hb:fn.body=I c):MA P f:=by
 intro args w;have pM:¬fn.name= "runtime.NumGoroutine" :=by simpa using KQ
 simp[callFunc,hf,pM,hb]
abbrev ar(args:List Value):Nat->Value:=λi=>args.getD i undef
structure Ret (P:Program) (m:DZ) (Z:Nat->Prop) (args:List Value) (os:List (Value×Nat)) (w:World) (r:LTs m.rs×LTs (B2 m.ps)) (v:Value) (w':World):Prop where
 ex:∃vs os1 os2,v=MX vs/\Cl P w' (λb=>b∈Az (os1++os2)\/Z b) (ar args) m.rs r.1 vs os1/\Cl P w' (λb=>b∈Az (os1++os2)\/Z b) (ar args) (B2 m.ps) r.2 (Jw m.ps args) os2/\
  (Az<|os1++os2).Nodup/\(∀b∈Az (os1++os2),(b∈Az os\/w.heap.size<=b)/\b<w'.heap.size)
 wos:w'.os=w.os
 tape:w'.tape=w.tape
 output:w'.output=w.output
 size:w.heap.size<=w'.heap.size
 block:∀b,b<w.heap.size->b ∉ Az os->w'.heap[b]? =w.heap[b]?
 pk:Pk P w w'
def H7(P:Program)(f:FuncId)(m:DZ):Prop:=MA P f/\ ∀(x:LTs m.ps) (r:LTs m.rs×LTs (B2 m.ps)),m.g x=I r->∀(w:World) (Z:Nat->Prop) (args:List Value) (os:List (Value×Nat)),
 Cl P w (λb=>b∈Az os\/Z b) (ar args) m.ps x args os->(Az os).Nodup->(∀b∈Az os,b<w.heap.size/\ ¬Z b)->(∀b,Z b->b<w.heap.size)->Nb P w (λb=>b∈Az os)->
 Calls P f args.toArray w λen w'=>∃v,en= .returned v/\Ret P m Z args os w r v w'
section
variable {C:Cx} {B:Be} {β:Beta} {H:Hp} {w w':World} {M:Nat->Prop} {stk:List (Array Value)} {s s':S} {a:Act} {P:Program} {e e':Nat->Value}
mutual
theorem Rel.congr:∀(h:Sh) (x:LT h) (v:Value) (os:List (Value×Nat)),(∀t∈MC h,e t=e' t)->Rel P w M e h x v os->Rel P w M e' h x v os
 | .int _,_,_,_,_,h=>h
 | .bool,_,_,_,_,h=>h
 | .str,_,_,_,_,h=>h
 | .sl _,_,_,_,_,h=>h
 | .fz _,_,_,_,_,h=>h
 | .row _ _,_,_,_,_,h=>h
 | .Cj _ _,_,_,_,_,h=>h
 | .abx _ _,_,_,_,_,h=>h
 | .arr _,_,_,_,_,h=>h
 | .same t,_,_,_,he,h=>⟨h.1,h.2.1.trans<|he t<|by simp[MC],h.2.2⟩
 | .agg l,x,v,os,he,h=>by
  obtain⟨us,h1,h2⟩:=h;exact⟨us,h1,Cl.congr l x us os he h2⟩
 | .box t l,x,v,os,he,h=>by
  obtain⟨b,us,os',h1,h2,h3,h4⟩:=h;exact⟨b,us,os',h1,h2,Cl.congr l x us.toList os' he h3,h4⟩
theorem Cl.congr:∀(l:List Sh) (x:LTs l) (us:List Value) (os:List (Value×Nat)),(∀t∈Il l,e t=e' t)->Cl P w M e l x us os->Cl P w M e' l x us os
 | [],_,_,_,_,h=>h
 | h::l,x,us,os,he,hr=>by
  obtain⟨u,us',o1,o2,h1,h2,h3,h4⟩:=hr;exact⟨u,us',o1,o2,h1,h2,Rel.congr h x.1 u o1 (λt ht=>he t<|Bz _ ht) h3,Cl.congr l x.2 us' o2 (λt ht=>he t<|CW _ ht) h4⟩
end
def Cl.length:∀ {l:List Sh} {x:LTs l} {us:List Value} {os:List (Value×Nat)},Cl P w M e l x us os->us.length=l.length
 | [],_,_,_,h=>by rw[h.1];rfl
 | h::l,x,us,os,hr=>by
  obtain⟨u,us',o1,o2,rfl,_,_,h4⟩:=hr;simp[Cl.length h4]
def aBp{E:Nat->AV}:∀ {l:List Sh} {cs:List AV} {x:LTs l},GC E H l cs=I x->cs.length=l.length
 | [],[],_,_=>rfl
 | [],_::_,_,h=>by cases h
 | _::_,[],_,h=>by cases h
 | h::l,c::cs,x,hx=>by
  obtain⟨x1,e1,hx⟩:=Ag.1 hx;obtain⟨x2,e2,hx⟩:=Ag.1 hx;simp[aBp e2]
def aBl:∀ {l l':List Sh} {cs cs':List AV},cs.length=l.length->Bo H (l++l') (cs++cs')=Bo H l cs++Bo H l' cs'
 | [],l',[],cs',_=>rfl
 | h::l,l',c::cs,cs',hl=>by
  simp only[LH,Bo,aBl (l:=l) (cs:=cs)<|by simpa using hl,C7]
 | [],_,_::_,_,hl=>by simp at hl
 | _::_,_,[],_,hl=>by simp at hl
def aBr:∀ {l l':List Sh} {cs cs':List AV},cs.length=l.length->Cv H (l++l') (cs++cs')=Cv H l cs++Cv H l' cs'
 | [],l',[],cs',_=>rfl
 | h::l,l',c::cs,cs',hl=>by
  simp only[LH,Cv,aBr (l:=l) (cs:=cs)<|by simpa using hl,C7]
 | [],_,_::_,_,hl=>by simp at hl
 | _::_,_,[],_,hl=>by simp at hl
def Ti(tmps:Array Value):ResultVar->Sem Value
 | .tmp t=>pure (tmps.getD t undef)
 | .cell a t=>do loadVar t (← asAddr<|tmps.getD a undef)
def YY(hP:P=B.P)(hst:St B β stk s a w):∀(l:List ResultVar) {vs:List AV},QR P s l=I vs->
  ∃us:List Value,(l.mapM<|Ti a.tmps).run P w=Result.ok us w/\us.length=vs.length/\ ∀(i:Nat) (c:AV) (u:Value),vs[i]? =I c->us[i]? =I u->RX w β (Bb a) c u
 | [],vs,h=>by
  cases h;exact⟨[],rfl,rfl,λi c u h=>by simp at h⟩
 | .tmp t::l,vs,h=>by
  obtain⟨vs',h1,h⟩:=Ag.1 h;cases h;obtain⟨us,k1,k2,k3⟩:=YY hP hst l h1;refine⟨Bb a t::us, ?_,by simp[k2],λi c u h1 h2=> ?_⟩
  .simp only[U0,Ti,Eh,Fl,F2,k1];rfl
  .cases i with
   | zero=>
    simp at h1 h2;subst h1;subst h2;exact(hst.T t).bP
   | succ i=>exact k3 i c u (by simpa using h1)<|by simpa using h2
 | .cell x t::l,vs,h=>by
  obtain⟨v,h0,h⟩:=Ag.1 h;obtain⟨vs',h1,h⟩:=Ag.1 h;cases h;obtain⟨us,k1,k2,k3⟩:=YY hP hst l h1;have hx:R2 w β (s.T x) (Bb a x):=(hst.T x).bR (by
   cases hT:s.T x<;>first|rfl|(rw[hT]at h0;cases h0))
  obtain⟨u,j1,j2⟩:=aDx hP hst.hs hx h0;have alz:∃ad,Bb a x= .pointer (I ad):=by
   cases hT:s.T x<;>rw[hT]at h0 hx<;>first|(cases h0;done)|skip
   .rename_i id z i o;have hx:RC w β (.ptr id z i o) (Bb a x):=hx;generalize Bb a x=y at hx;cases hx;exact⟨_,rfl⟩
   .rename_i k xx o;have hx:RC w β (.ipt k xx o) (Bb a x):=hx;generalize Bb a x=y at hx;cases hx;exact⟨_,rfl⟩
  obtain⟨ad,had⟩:=alz;have an1:a.tmps.getD x undef= .pointer (I ad):=had;rw[had]at j1;refine⟨u::us, ?_,by simp[k2],λi c u' h1 h2=> ?_⟩
  .have j1':(loadVar t ad).run P w= .ok u w:=by simpa[NM,Jc] using j1
   simp only[U0,Ti,an1,asAddr,Eh,Fl,F2,j1',k1]
  .cases i with
   | zero=>
    simp at h1 h2;subst h1;subst h2;exact(RT.HL<|R2.HM j2).bP
   | succ i=>exact k3 i c u' (by simpa using h1)<|by simpa using h2
def aCH{fn:Func}{us:List Value}(h:(fn.results.toList.mapM<|Ti a.tmps).run P w=Result.ok us w):(results fn a.tmps).run P w= .ok (MX us) w:=by
 have e1:results fn a.tmps=(do
   let vs ← fn.results.mapM (Ti a.tmps)
   pure (if h:vs.size=1 then vs[0] else .tuple vs)):=rfl
 rw[e1,Array.mapM_eq_mapM_toList,map_eq_pure_bind];simp only[bind_assoc,pure_bind,Eh,h,F2,Fl]
 match us with
 | []=>rfl
 | [u]=>rfl
 | u::v::l=>simp[MX]
end
end Go.VS
namespace Go.VS
open Go
def okM(m:DZ)(n:Nat):Bool:=K5 m.ps&&K5 m.rs&&Dv m.ps.length n&&(Il m.rs++Il (B2 m.ps)).all λt=>(Dy 0 m.ps).any λp=>Af p t
section
variable {C:Cx} {B:Be} {β:Beta} {H:Hp} {w w':World} {M:Nat->Prop} {stk:List (Array Value)} {s s':S} {a:Act} {P:Program} {e e':Nat->Value} {inl:(Ω:Type)->Inl Ω}
def XF{E:Nat->AV}:∀ {l:List Sh} {cs:List AV} {x:LTs l},GC E H l cs=I x->∀c∈cs,(∀g w v,c≠ .gd g w v)/\ ∀vs,c≠ .tup vs
 | [],[],_,_,c,hc=>by cases hc
 | [],_::_,_,h,_,_=>by cases h
 | _::_,[],_,h,_,_=>by cases h
 | h::l,d::cs,x,hx,c,hc=>by
  obtain⟨x1,e1,hx⟩:=Ag.1 hx;obtain⟨x2,e2,hx⟩:=Ag.1 hx;obtain rfl|hc:=Bj.1 hc
  .exact aCs e1
  .exact XF e2 c hc
def RX.Mf{tm:Nat->Value}{c:AV}{v:Value}(h:RX w β tm c v)(h1:∀g w v,c≠ .gd g w v)(h2:∀vs,c≠ .tup vs):R1 w β c v:=by
 have:=h.of h1;cases c<;>first|exact this|exact absurd rfl (h2 _)
def aC3(args:List Value):∀(ps:List Sh) (k:Nat),args.length=k+ps.length->Jw ps (args.drop k)=(Dy k ps).map (ar args)
 | [],k,h=>by
  have:args.drop k=[]:=KI (by simp at h;omega);rw[this];rfl
 | p::ps,k,h=>by
  have hk:k<args.length:=by simp at h;omega
  rw[Tt hk];have ih:=aC3 args ps (k+1) (by simp at h ⊢; omega);have qL:ar args k=args[k]:=by simp[ar,hk]
  cases p<;>simp only[Jw,Dy,UR,DV,ih,qL]
def Sm(args:List Value)(n t:Nat):Bb { tmps:=args.toArray++Qj (n - args.toArray.size) undef,defers:=[] } t=ar args t:=by
 simp only[Bb,ar,Ty,BG];by_cases h:t<args.length
 .rw[MQ<|by simpa using h];simp
 .rw[Array.getElem?_append_right<|by simpa using h,Hm J];cases hr:(Qj (n - args.toArray.size) undef)[t - args.toArray.size]? with
  | none=>rfl
  | some v=>
   rw[Array.getElem?_replicate]at hr;split at hr
   .cases hr;rfl
   .cases hr
def Zb{fn:Func}{m:DZ}{r:LTs m.rs×LTs (B2 m.ps)}{args:List Value}{os:List (Value×Nat)}(hst:St B β stk s a w)(hO:B.O=λb=>b∈Az os)(htm:B.tm0=ar args)(hlen:args.length=m.ps.length)(hp:s.pins=Dy 0 m.ps)
  {n:Nat}(hok:okM m n=Y)(hf:fin B.P fn m s=I r):∃v,(results fn a.tmps).run B.P w= .ok v w/\Ret B.P m B.Z args os B.w0 r v w:=by
 unfold fin at hf;obtain⟨vs,h1,hf⟩:=Ag.1 hf;split at hf
 .rename_i hnd;simp only[AE]at hnd;obtain⟨r1,h2,hf⟩:=Ag.1 hf;obtain⟨q,h3,hf⟩:=Ag.1 hf;cases hf;obtain⟨us,k1,k2,k3⟩:=YY rfl hst fn.results.toList h1;have hl1:=aBp h2;rw[aBl hl1,aBr hl1]at hnd;generalize azp:Bo s.H m.rs vs=Ng at hnd;generalize azo:Bo s.H (B2 m.ps) ((Dy 0 m.ps).map s.T)=Nf at hnd;have R:Nq B β s.H w (MO B<|Az<|(Ng++Nf).filterMap β) s.T (Bb a):={
   hs:=hst.hs
   hM:=λb hb=>abM hst.hs hb
   hE:=λt id z e=>(hst.T t).Mf (by rw[e];simp) (by rw[e];simp) }
  have hfz:=nE hst.hs hnd.2;have rl1:RL (R1 w β) vs us:=⟨k2,λj c u e1 e2=>(k3 j c u e1 e2).Mf (XF h2 c<|Cp e1).1 (XF h2 c<|Cp e1).2⟩;have rl2:RL (R1 w β) ((Dy 0 m.ps).map s.T) ((Dy 0 m.ps).map<|Bb a):=⟨by simp,λj c u e1 e2=>by
   obtain⟨h5,h6⟩:=XF h3 c<|Cp e1;rw[DA]at e1 e2;obtain⟨t,ht,rfl⟩:=D9.1 e1;obtain⟨t',ht',rfl⟩:=D9.1 e2;rw[ht]at ht';cases ht';exact(hst.T t).Mf h5 h6⟩
  obtain⟨os1,j1,j2⟩:=Xj R m.rs vs us r1 rl1 h2 (λi hi=>hfz i<|Bz _ hi);obtain⟨os2,j3,j4⟩:=Xj R (B2 m.ps) _ _ q rl2 h3 (λi hi=>hfz i<|CW _ hi);rw[azp]at j2;rw[azo]at j4;have G3:Az (os1++os2)=Az ((Ng++Nf).filterMap β):=by
   simp only[Az,MM]at j2 j4 ⊢;rw[j2,j4]
  have q8:MO B (Az<|(Ng++Nf).filterMap β)=λb=>b∈Az (os1++os2)\/B.Z b:=by rw[G3]
  rw[q8]at j1 j3;have acG:∀t∈Dy 0 m.ps,Bb a t=ar args t:=λt ht=>by rw[hst.pins t (by rw[hp];exact ht),htm]
  simp only[okM,AE,DB,KD]at hok;have Gr:∀t∈Il m.rs++Il (B2 m.ps),Bb a t=ar args t:=λt ht=>by
   obtain⟨p,hp1,hp2⟩:=hok.2 t ht;rw[← Br hp2];exact acG p hp1
  refine⟨MX us,aCH k1,⟨us,os1,os2,rfl,Cl.congr _ _ _ _ (λt ht=>Gr t<|Bz _ ht) j1, ?_, ?_, ?_⟩,hst.hs.os,hst.hs.tape,hst.hs.output,hst.hs.size, ?_,hst.hs.pk⟩
  .have e1:Jw m.ps args=(Dy 0 m.ps).map (Bb a):=by
    have:=aC3 args m.ps 0 J;rw[Iy]at this;rw[this];exact Gi λt ht=>(acG t ht).symm
   rw[e1];exact Cl.congr _ _ _ _ (λt ht=>Gr t<|CW _ ht) j3
  .rw[G3];exact Xw hst.hs (Xk hnd.1)
  .intro b hb;rw[G3]at hb;have:=hst.hs.old b<|Te hb;rw[hO]at this;exact this
  .intro b hb hn;have:=hst.hs.block b hb;rw[hO]at this;exact this hn
 .cases hf
def auV{P:Program}(hP:C.P=P)(hm:P.follows .mixedOrders=Y)(hC:∀B:Be,B.P=P->HW C B)(hI:∀B:Be,B.P=P->JN C B inl){f:FuncId}{fn:Func}{body:Code}(hf:P.funcs[f]? =I fn)(KQ:(fn.name == "runtime.NumGoroutine")=A0)
  (hb:fn.body=I body){v:Adv}{m:DZ}(hok:okM m fn.ntmps=Y)(GR:∀B:Be,B.P=P->Hh (NB B fn.ntmps<|Dy 0 m.ps) body v)(hg:∀x,aq C inl fn v m x=m.g x):H7 P f m:=by
 refine⟨ON hf KQ hb,λx r hx w Z args os hr hnd hbl hZ hgl=> ?_⟩;rw[← hg]at hx;unfold aq at hx;rw[hb]at hx;simp only[evF]at hx;have Uu:=hok;simp only[okM,AE]at Uu;obtain⟨⟨⟨hps,hrs⟩,hn⟩,_⟩:=Uu;have hn:=DL hn;have hlen:=hr.length
 let B:Be:={ P:=P,w0:=w,O:=λb=>b∈Az os,tm0:=ar args,Z:=Z,gl:=hgl }
 have Rj:Num (Hi Z os) 0 os:=mI Z os;obtain⟨k1,k2,k3⟩:=Yr (β:=Hi Z os) (E:=λ_=> .un) (M:=λb=>b∈Az os\/Z b) (P:=P) (w:=w) (e:=ar args) (λb hb=>ni (B:=B) hb) m.ps (λ_=>G) 0 x args os hps hr Rj (λt _=>trivial);have hi:RJ fn.ntmps m.ps x=(match Aj (λ_=> .un) (λ_=>G) 0 m.ps x with
  | (vs,H,b)=>{ n:=fn.ntmps,T:=λt=>(vs[t]?).getD Dp,H:=H,nid:=b,st:=[],pins:=Dy 0 m.ps,gs:=λ_=>A0 }):=rfl
 rw[hi]at hx;generalize Aj (λ_=> .un) (λ_=>G) 0 m.ps x=q at *;obtain⟨vs,H,b⟩:=q;simp only at hx k1 k2 k3;have hH:Hs B (Hi Z os) H w:={
  EJ:=λid ob ho=>by
   by_cases h:id<os.length
   .obtain⟨ob',h1,h2⟩:=k3.2 id (Ch _) J;rw[h1]at ho;cases ho;exact h2
   .rw[k3.1 id J]at ho;cases ho
  dom:=λid p hp=>by
   have h:id<os.length:=(BR.1<|show os[id]? =I p from hp).1;obtain⟨ob',h1,_⟩:=k3.2 id (Ch _) J;exact⟨ob',h1⟩
  inj:=λi j p q a a' hi hj=>Yp hnd i j p q a a' hi hj
  old:=λb hb=>⟨.inl<|N9 hb,(hbl b<|N9 hb).1⟩
  os:=rfl
  tape:=rfl
  output:=rfl
  size:=Ar _
  block:=λ_ _ _=>rfl
  z:=rfl
  zn:=λid p a hp ha=>(hbl _<|N9 (Z:=Z) ⟨id,p.1,p.2,a,hp,ha,rfl⟩).2
  zl:=hZ
  pk:=Pk.refl _ _ }
 refine calls_of_wp hf hb ?_;have hst:St B (Hi Z os) [] { n:=fn.ntmps,T:=λt=>(vs[t]?).getD Dp,H:=H,nid:=b,st:=[],pins:=Dy 0 m.ps,gs:=λ_=>A0 } { tmps:=args.toArray++Qj (fn.ntmps - args.toArray.size) undef,defers:=[] } w:=by
  refine⟨λt=> ?_,⟨rfl,λi T' tm h=>by simp at h⟩, ?_,rfl,λt _=>Sm args _ t,λt g want y hy=> ?_,hH⟩
  .rw[Sm];show RT w _ _ ((vs[t]?).getD Dp) _;cases hv:vs[t]? with
   | none=>
    have:args.length<=t:=by
     rw[k1.1];exact Zh.1 hv
    show RT w _ _ Dp (ar args t);have e0:ar args t=undef:=by simp[ar,Hm this]
    rw[e0];rfl
   | some c=>
    have hlt:t<args.length:=by rw[k1.1];exact(BR.1 hv).1
    have hu:args[t]? =I (ar args t):=by simp[ar,hlt]
    exact(k1.2 t c _ hv hu).bQ
  .simp;omega
  .have hy:(vs[t]?).getD Dp= .gd g want y:=hy;cases hv:vs[t]? with
   | none=>rw[hv]at hy;cases hy
   | some c=>
    rw[hv]at hy;have hy:c= .gd g want y:=hy;have hlt:t<args.length:=by rw[k1.1];exact(BR.1 hv).1
    have hu:args[t]? =I (ar args t):=by simp[ar,hlt]
    have:=k1.2 t c _ hv hu;rw[hy]at this;exact this.elim
 refine Xx (B:=B) hP hm (hC B rfl) (hI B rfl) body v _ _ r hx hst (λj hj=>k3.1 j<|.inr (by have hj:b<=j:=hj;omega)) (GR B rfl) ⟨?_, ?_, ?_⟩
 .intro β' a' w' s' h1 h2 h3 h4 h5;obtain⟨v',i1,i2⟩:=Zb (B:=B) h1 rfl rfl hlen h4 hok (show fin P fn m s'=I r by rw[← hP];exact h5);exact⟨h1.defers,v',i1,v',rfl,i2⟩
 .intro β' a' w' s' h1 h2 h3 h4 h5;obtain⟨v',i1,i2⟩:=Zb (B:=B) h1 rfl rfl hlen h4 hok (show fin P fn m s'=I r by rw[← hP];exact h5);exact⟨h1.defers,v',i1,v',rfl,i2⟩
 .intro id β' a' w' s' h1 h2 h3 h4 h5;cases h5
end
end Go.VS
namespace Go.VS
open Go
def HB(l:List Sh):Bool:=I3 l&&l.all λh=> !UR h
section
variable {B:Be} {β β':Beta} {H:Hp} {w w':World} {M:Nat->Prop} {stk:List (Array Value)} {s s':S} {a:Act} {P:Program} {E:Nat->AV} {e:Nat->Value} {b:Nat}
mutual
theorem asd:∀h:Sh,Dl h=Y->Ip h=Y/\MC h=[]
 | .int _,_=>⟨rfl,rfl⟩
 | .bool,_=>⟨rfl,rfl⟩
 | .str,_=>⟨rfl,rfl⟩
 | .sl _,_=>⟨rfl,rfl⟩
 | .row _ _,_=>⟨rfl,rfl⟩
 | .fz _,_=>⟨rfl,rfl⟩
 | .Cj _ _,_=>⟨rfl,rfl⟩
 | .abx _ _,_=>⟨rfl,rfl⟩
 | .arr _,h=>by simp[Dl]at h
 | .agg _,h=>by simp[Dl]at h
 | .same _,h=>by simp[Dl]at h
 | .box _ l,h=>by
  have:=kF l (by simpa[Dl] using h);exact⟨by simpa[Ip] using this.1,by simpa[MC] using this.2⟩
theorem kF:∀l:List Sh,I3 l=Y->M1 l=Y/\Il l=[]
 | [],_=>⟨rfl,rfl⟩
 | h::l,hl=>by
  simp only[I3,AE]at hl;have h1:=asd h hl.1;have h2:=kF l hl.2;exact⟨by simp[M1,h1.1,h2.1],by simp[Il,h1.2,h2.2]⟩
end
def Xf:∀(l:List Sh) (H:Hp) (b:Nat) (cs:List AV) (x:LTs l),HB l=Y->BT E H b l cs x=Aj E H b l x
 | [],_,_,_,_,_=>rfl
 | h::l,H,b,cs,x,hl=>by
  simp only[HB,I3,P0,AE]at hl;obtain⟨⟨h1,h2⟩,h3,h4⟩:=hl;have un:BT E H b (h::l) cs x=(match D3 E H b h (cs.headD .un) x.1 with|(d,H,b)=>match BT E H b l cs.tail x.2 with|(ds,H,b)=>(d::ds,H,b)):=rfl;have un2:Aj E H b (h::l) x=(match BL E H b h x.1 with|(c,H,b)=>match Aj E H b l x.2 with|(cs,H,b)=>(c::cs,H,b)):=rfl;have e1:D3 E H b h (cs.headD .un) x.1=BL E H b h x.1:=lL h1 (λt l' e'=>by rw[e']at h3;simp[UR]at h3);rw[un,un2,e1];generalize BL E H b h x.1=r;obtain⟨c,H',b'⟩:=r;simp only;rw[Xf l H' b' cs.tail x.2 (by simp only[HB,AE];exact⟨h2,h4⟩)]
mutual
theorem aFS:∀(h:Sh) (H:Hp) (b:Nat) (x:LT h) (v:Value) (os:List (Value×Nat)),Ip h=Y->Rel P w M e h x v os->(BL E H b h x).2.2=b+os.length
 | .int k,H,b,x,v,os,_,hr=>by obtain⟨_,rfl⟩:=hr;rfl
 | .bool,H,b,x,v,os,_,hr=>by obtain⟨_,rfl⟩:=hr;rfl
 | .str,H,b,x,v,os,_,hr=>by obtain⟨_,rfl⟩:=hr;rfl
 | .sl k,H,b,x,v,os,_,hr=>by obtain⟨_,rfl⟩:=hr;rfl
 | .fz k,H,b,x,v,os,_,hr=>by obtain⟨_,rfl⟩:=hr;rfl
 | .row t k,H,b,x,v,os,_,hr=>by obtain⟨rfl,_⟩:=hr;rfl
 | .Cj t k,H,b,x,v,os,_,hr=>by obtain⟨rfl,_⟩:=hr;rfl
 | .abx t k,H,b,x,v,os,_,hr=>by obtain⟨rfl,_⟩:=hr;rfl
 | .arr _,_,_,_,_,_,h,_=>by simp[Ip]at h
 | .agg _,_,_,_,_,_,h,_=>by simp[Ip]at h
 | .same t,H,b,x,v,os,_,hr=>by obtain⟨rfl,_⟩:=hr;rfl
 | .box t l,H,b,x,v,os,hl,hr=>by
  obtain⟨bb,us,os',rfl,h2,h3,rfl⟩:=hr;have un:BL E H b (.box t l) x=(match Aj E H b l x with|(cs,H,b)=>(AV.ptr b cs.length 0 0,upd H b<|I<|.box t cs,b+1)):=rfl;have k:=YQ l H b x us.toList os' (by simpa[Ip] using hl) h3;rw[un];generalize Aj E H b l x=r at *;obtain⟨cs,H',b'⟩:=r;have k:b'=b+os'.length:=k;simp[k,D8]
theorem YQ:∀(l:List Sh) (H:Hp) (b:Nat) (x:LTs l) (us:List Value) (os:List (Value×Nat)),M1 l=Y->Cl P w M e l x us os->(Aj E H b l x).2.2=b+os.length
 | [],H,b,x,us,os,_,hr=>by obtain⟨_,rfl⟩:=hr;rfl
 | h::l,H,b,x,us,os,hl,hr=>by
  obtain⟨u,us',o1,o2,rfl,rfl,h1,h2⟩:=hr;simp only[M1,AE]at hl;have un:Aj E H b (h::l) x=(match BL E H b h x.1 with|(c,H,b)=>match Aj E H b l x.2 with|(cs,H,b)=>(c::cs,H,b)):=rfl;have k:=aFS h H b x.1 u o1 hl.1 h1;rw[un];generalize BL E H b h x.1=r at *;obtain⟨c,H',b'⟩:=r;have k:b'=b+o1.length:=k;subst k;have k2:=YQ l H' (b+o1.length) x.2 us' o2 hl.2 h2;simp only;generalize Aj E H' (b+o1.length) l x.2=r at *;obtain⟨cs,H'',b''⟩:=r;have k2:b''=_:=k2;simp[k2,D8]
end
mutual
theorem avb:∀(h:Sh) (H:Hp) (b:Nat) (x:LT h) (j:Nat),¬(b<=j/\j<(BL E H b h x).2.2)->(BL E H b h x).2.1 j=H j
 | .int _,H,_,_,_,_=>rfl
 | .bool,H,_,_,_,_=>rfl
 | .str,H,_,_,_,_=>rfl
 | .sl _,H,_,_,_,_=>rfl
 | .arr _,H,_,_,_,_=>rfl
 | .same _,H,_,_,_,_=>rfl
 | .fz _,H,_,_,_,_=>rfl
 | .row _ _,H,b,_,j,hj=>BE _ _ (λe=>hj ⟨J,by show j<b+1;omega⟩)
 | .Cj _ _,H,b,_,j,hj=>BE _ _ (λe=>hj ⟨J,by show j<b+1;omega⟩)
 | .abx _ _,H,b,_,j,hj=>BE _ _ (λe=>hj ⟨J,by show j<b+1;omega⟩)
 | .agg l,H,b,x,j,hj=>by
  have un:BL E H b (.agg l) x=(match Aj E H b l x with|(cs,H,b)=>(AV.agg cs,H,b)):=rfl;have ih:=YO l H b x j;rw[un]at hj ⊢;generalize Aj E H b l x=r at *;exact ih hj
 | .box e l,H,b,x,j,hj=>by
  have un:BL E H b (.box e l) x=(match Aj E H b l x with|(cs,H,b)=>(AV.ptr b cs.length 0 0,upd H b<|I<|.box e cs,b+1)):=rfl;have ih:=YO l H b x j;have hle:=JG E l H b x;rw[un]at hj ⊢;generalize Aj E H b l x=r at *;obtain⟨cs,H',b'⟩:=r;simp only at hj ih hle ⊢;rw[BE _ _ λe=>hj ⟨J,J⟩];exact ih λh=>hj ⟨h.1,J⟩
theorem YO:∀(l:List Sh) (H:Hp) (b:Nat) (x:LTs l) (j:Nat),¬(b<=j/\j<(Aj E H b l x).2.2)->(Aj E H b l x).2.1 j=H j
 | [],H,_,_,_,_=>rfl
 | h::l,H,b,x,j,hj=>by
  have un:Aj E H b (h::l) x=(match BL E H b h x.1 with|(c,H,b)=>match Aj E H b l x.2 with|(cs,H,b)=>(c::cs,H,b)):=rfl;have ih:=avb h H b x.1 j;have hle:=EM E h H b x.1;rw[un]at hj ⊢;generalize BL E H b h x.1=r at *;obtain⟨c,H',b'⟩:=r;have ih2:=YO l H' b' x.2 j;have PX:=JG E l H' b' x.2;simp only at hj ⊢;generalize Aj E H' b' l x.2=r at *;obtain⟨cs,H'',b''⟩:=r;simp only at hj ih ih2 hle PX ⊢;rw[ih2 λh=>hj ⟨J,h.2⟩];exact ih λh=>hj ⟨h.1,J⟩
end
end
end Go.VS
namespace Go.VS
open Go
section
variable {B B':Be} {β β':Beta} {H:Hp} {w w':World} {M M':Nat->Prop} {stk:List (Array Value)} {s s':S} {a:Act} {P:Program} {E:Nat->AV} {e:Nat->Value} {b:Nat}
def St.amO{f:AV->AV}(h:St B β stk s a w)(ht:B'.tm0=B.tm0)(hf:∀c,GU c=Y->f c=c)(hg:∀c g want x,f c= .gd g want x->∃y,c= .gd g want y)(hk:Kf f w β w' β'){H':Hp}(hH:Hs B' β' H' w'):St B' β' stk { s.map f with H:=H' } a w':=by
 have g1:∀c g want x,Fv f c= .gd g want x->∃y,c= .gd g want y:=by
  intro c g want x e;cases c<;>first|(cases e;done)|exact hg _ _ _ _ e
 have g2:∀c g want x,GD f c= .gd g want x->∃y,c= .gd g want y:=by
  intro c g want x e;cases c<;>first|(cases e;done)|exact g1 _ _ _ _ e
 have g3:∀c g want x,Ew f c= .gd g want x->∃y,c= .gd g want y:=by
  intro c g want x e;cases c with
  | gd g' w' y=>cases e;exact⟨_,rfl⟩
  | _=>exact g2 _ _ _ _ e
 refine⟨λt=>RT.map hf hk<|h.T t,⟨by simpa[S.map] using h.stack.1,λi T tm h1 h2 t=> ?_⟩,h.n,h.defers,λt ht'=>by rw[ht];exact h.pins t ht',λt g want x hx=> ?_,hH⟩
 .simp only[S.map,DA,D9]at h1;obtain⟨T0,h3,rfl⟩:=h1;exact RT.map hf hk (h.stack.2 i T0 tm h3 h2 t)
 .obtain⟨y,hy⟩:=g3 _ _ _ _ hx;exact h.gs _ _ _ _ hy
def Beta.kz(β:Beta)(id:Nat):Beta:=⟨upd β.f id G,λb=>β.Z b\/ ∃p a,β id=I p/\adr p.1=I a/\a.block=b⟩
def Beta.bG(β:Beta)(id j:Nat):(β.kz id) j=if j=id then G else β j:=by
 show upd β.f id G j=_;by_cases e:j=id
 .subst e;rw[Bi,A5 rfl]
 .rw[BE _ _ e,A9 e]
def St.azb(h:St B β stk s a w)(id:Nat):St { B with Z:=(β.kz id).Z } (β.kz id) stk (s.kill id) a w:=by
 have hM:∀b,¬MZ β b->b<w.heap.size->¬MZ (β.kz id) b:=λb hb _ hm=>by
  obtain⟨j,hd,n,a,hj,ha,hab⟩|hz|⟨p,a,hp,ha,hab⟩:=hm
  .rw[Beta.bG]at hj;split at hj
   .cases hj
   .exact hb (.inl ⟨j,hd,n,a,hj,ha,hab⟩)
  .exact hb (.inr hz)
  .exact hb<|.inl ⟨id,p.1,p.2,a,hp,ha,hab⟩
 have hk:Kf (kl1 id) w β w (β.kz id):=Kf.kill (λj e=>BE _ _ e) (λ_ _ _ _ h=>h) hM;have hH:=h.hs.ac1 (JF id) hk (λj e=>BE _ _ e) (.inl ⟨Bi _ _ _,rfl⟩) (λ_ _ _ _ _ _=>rfl) rfl rfl rfl (Ar _) (λ_ _ _=>rfl) (λb hb=>hb.imp (λh=>h) λh=>⟨Bi _ _ _,h⟩) (Pk.refl _ _);exact h.amO (B':={ B with Z:=(β.kz id).Z }) rfl (JF id) (Ot id) hk hH
def St.abu:∀(ids:List Nat) {B:Be} {β:Beta} {s:S},ids.Nodup->St B β stk s a w->∃β2:Beta,St { B with Z:=β2.Z } β2 stk (ids.foldl S.kill s) a w/\(∀j,β2 j=if j∈ids then G else β j)/\
  (∀b,β2.Z b↔β.Z b\/ ∃i∈ids,∃p a,β i=I p/\adr p.1=I a/\a.block=b)
 | [],B,β,s,_,h=>by
  have e:{ B with Z:=β.Z } =B:=by rw[h.hs.z]
  exact⟨β,by rw[e];exact h,λj=>by simp,λb=>by simp⟩
 | i::ids,B,β,s,hn,h=>by
  obtain⟨hn1,hn2⟩:=IG.1 hn;obtain⟨β2,h1,h2,h3⟩:=St.abu ids hn2<|h.azb i;refine⟨β2,h1,λj=> ?_,λb=> ?_⟩
  .rw[h2,Beta.bG];by_cases e1:j∈ids
   .rw[A5 e1,A5<|Ah _ e1]
   .by_cases e2:j=i
    .rw[A9 e1,A5 e2,A5 (by rw[e2];exact Ao)]
    .rw[A9 e1,A9 e2,A9<|by simp[e1,e2]]
  .rw[h3];constructor
   .rintro((h|⟨p,a,h⟩)|⟨j,hj,p,a,hp,h⟩)
    .exact .inl h
    .exact .inr ⟨i,Ao,p,a,h⟩
    .rw[Beta.bG]at hp;split at hp
     .cases hp
     .exact .inr ⟨j,Ah _ hj,p,a,hp,h⟩
   .rintro(h|⟨j,hj,p,a,hp,h⟩)
    .exact .inl (.inl h)
    .rcases Bj.1 hj with rfl|hj
     .exact .inl (.inr ⟨p,a,hp,h⟩)
     .refine .inr ⟨j,hj,p,a, ?_,h⟩;rw[Beta.bG,A9 fun(e:j=i)=>hn1<|e▸hj];exact hp
def St.az(h:St B β stk s a w)(id:Nat):St B (β.up id G) stk (s.freeze id) a w:=by
 unfold S.freeze;split
 .rename_i e fz k xs hid;obtain⟨h1,h2⟩:=h.hs.az hid;exact h.map (lD id k xs) (aav id k xs) h2 h1
 .obtain⟨h1,h2⟩:=h.hs.ac4 id;exact h.map (JF id) (Ot id) h2 h1
def St.abo:∀(ids:List Nat) {β:Beta} {s:S},St B β stk s a w->∃β2:Beta,St B β2 stk (ids.foldl S.freeze s) a w/\(∀j,β2 j=if j∈ids then G else β j)/\β2.Z=β.Z
 | [],β,s,h=>⟨β,h,λj=>by simp,rfl⟩
 | i::ids,β,s,h=>by
  obtain⟨β2,h1,h2,h3⟩:=St.abo ids<|h.az i;refine⟨β2,h1,λj=> ?_,h3⟩;rw[h2];by_cases e1:j∈ids
  .rw[A5 e1,A5<|Ah _ e1]
  .by_cases e2:j=i
   .subst e2;rw[A9 e1,A5 Ao,Beta.Ub]
   .rw[A9 e1,Beta.Nk _ _ e2,A9<|by simp[e1,e2]]
def St.azX(q:Bool)(ids:List Nat)(h:St B β stk s a w):∃β2:Beta,St B β2 stk (GJ q ids s) a w/\(∀j,β2 j=if q=Y/\j∈ids then G else β j)/\β2.Z=β.Z:=by
 cases q with
 | false=>exact⟨β,h,λj=>by simp,rfl⟩
 | true=>
  obtain⟨β2,h1,h2,h3⟩:=St.abo ids h;exact⟨β2,h1,λj=>by simp[h2],h3⟩
def aE1{t:TypeId}{j:Nat}:∀(ids:List Nat) (s:S) {cs:List AV},j ∉ ids->s.H j=I (.box t cs)->∃cs',(ids.foldl S.kill s).H j=I (.box t cs')
 | [],s,cs,_,h=>⟨cs,h⟩
 | i::ids,s,cs,hj,h=>by
  have hne:j≠i:=λe=>hj<|e▸Ao;refine aE1 ids (s.kill i) (cs:=cs.map<|kl1 i) (λhm=>hj<|Ah _ hm) ?_;show upd (λj=>CP (kl1 i)<|s.H j) i G j=_;rw[BE _ _ hne,h];rfl
def aCQ{t:TypeId}{j:Nat}:∀(ids:List Nat) (s:S) {cs:List AV},j ∉ ids->s.H j=I (.box t cs)->∃cs',(ids.foldl S.freeze s).H j=I (.box t cs')
 | [],s,cs,_,h=>⟨cs,h⟩
 | i::ids,s,cs,hj,h=>by
  have hne:j≠i:=λe=>hj<|e▸Ao;have:∃cs',(s.freeze i).H j=I (.box t cs'):=by
   unfold S.freeze;split
   .rename_i k xs _;refine⟨cs.map<|fz1 i k xs, ?_⟩;show upd (λj=>CP (fz1 i k xs)<|s.H j) i G j=_;rw[BE _ _ hne,h];rfl
   .refine⟨cs.map<|kl1 i, ?_⟩;show upd (λj=>CP (kl1 i)<|s.H j) i G j=_;rw[BE _ _ hne,h];rfl
  obtain⟨cs',h'⟩:=this;exact aCQ ids (s.freeze i) (λhm=>hj<|Ah _ hm) h'
def av7{t:TypeId}{j:Nat}(q:Bool)(ids:List Nat)(s:S){cs:List AV}(hj:¬(q=Y/\j∈ids))(h:s.H j=I (.box t cs)):∃cs',(GJ q ids s).H j=I (.box t cs'):=by
 cases q with
 | false=>exact⟨cs,h⟩
 | true=>exact aCQ ids s (λhm=>hj ⟨rfl,hm⟩) h
mutual
theorem aub:∀(h:Sh) (c:AV),(CK H h c).Sublist<|Cg H h c
 | .int _,_=>EW _
 | .bool,_=>EW _
 | .str,_=>EW _
 | .sl _,_=>EW _
 | .arr _,_=>EW _
 | .same _,_=>EW _
 | .fz _,_=>EW _
 | .row _ _,c=>by cases c<;>exact EW _
 | .Cj _ _,c=>by cases c<;>exact EW _
 | .abx _ _,c=>by
  cases c with
  | ptr id z i o=>cases i<;>cases o<;>exact EW _
  | _=>exact EW _
 | .agg l,c=>by
  cases c with
  | agg cs=>exact YH l cs
  | _=>exact EW _
 | .box t l,c=>by
  cases c with
  | ptr id z i o=>
   cases i<;>cases o<;>simp only[CK,Cg]<;>first|exact EW _|skip
   split
   .exact(YH l _).trans (List.sublist_append_left _ _)
   .exact EW _
  | _=>exact EW _
theorem YH:∀(l:List Sh) (cs:List AV),(Ce H l cs).Sublist<|Bo H l cs
 | [],_=>by simp only[Ce,Bo];exact EW _
 | _::_,[]=>by simp only[Ce,Bo];exact EW _
 | h::l,c::cs=>by
  simp only[Ce,Bo];exact(aub h c).append<|YH l cs
end
def QW(H:Hp)(i:Nat):Prop:=∀t cs,H i≠I (.box t cs)
mutual
theorem atW:∀(h:Sh) (c:AV) (x:LT h),Bs E H h c=I x->∀i∈CK H h c,QW H i
 | .int _,_,_,_,i,hi=>by simp[CK]at hi
 | .bool,_,_,_,i,hi=>by simp[CK]at hi
 | .str,_,_,_,i,hi=>by simp[CK]at hi
 | .sl _,_,_,_,i,hi=>by simp[CK]at hi
 | .arr _,_,_,_,i,hi=>by simp[CK]at hi
 | .same _,_,_,_,i,hi=>by simp[CK]at hi
 | .fz _,_,_,_,i,hi=>by simp[CK]at hi
 | .row t k,c,x,hx,i,hi=>by
  cases c<;>simp[CK]at hi;subst hi;intro t' cs hb;simp[Bs,hb]at hx
 | .Cj t k,c,x,hx,i,hi=>by
  cases c<;>simp[CK]at hi;subst hi;intro t' cs hb;simp[Bs,hb]at hx
 | .abx t k,c,x,hx,i,hi=>by
  cases c with
  | ptr id z i' o=>
   cases i'<;>cases o<;>simp[CK]at hi;subst hi;intro t' cs hb;simp[Bs,hb]at hx
  | _=>simp[CK]at hi
 | .agg l,c,x,hx,i,hi=>by
  cases c with
  | agg cs=>exact Xt l cs x hx i<|by simpa[CK] using hi
  | _=>simp[CK]at hi
 | .box t l,c,x,hx,j,hi=>by
  cases c with
  | ptr id z i o=>
   cases i<;>cases o<;>simp only[CK]at hi<;>first|(simp at hi;done)|skip
   cases ho:H id with
   | none=>simp[ho]at hi
   | some ob=>
    cases ob with
    | box e' cs=>
     simp only[ho]at hi;simp only[Bs,ho]at hx;split at hx
     .exact Xt l cs x hx j hi
     .cases hx
    | _=>simp[ho]at hi
  | _=>simp[CK]at hi
theorem Xt:∀(l:List Sh) (cs:List AV) (x:LTs l),GC E H l cs=I x->∀i∈Ce H l cs,QW H i
 | [],cs,_,_,i,hi=>by simp[Ce]at hi
 | _::_,[],_,_,i,hi=>by simp[Ce]at hi
 | h::l,c::cs,x,hx,i,hi=>by
  obtain⟨x1,e1,hx⟩:=Ag.1 hx;obtain⟨x2,e2,hx⟩:=Ag.1 hx;simp only[Ce,BN]at hi;obtain hi|hi:=hi
  .exact atW h c x1 e1 i hi
  .exact Xt l cs x2 e2 i hi
end
mutual
theorem auG:∀(h:Sh) (c:AV) (x:LT h),Bs E H h c=I x->∀i∈Cr H h c,QW H i
 | .int _,_,_,_,i,hi=>by simp[Cr]at hi
 | .bool,_,_,_,i,hi=>by simp[Cr]at hi
 | .str,_,_,_,i,hi=>by simp[Cr]at hi
 | .sl _,_,_,_,i,hi=>by simp[Cr]at hi
 | .arr _,_,_,_,i,hi=>by simp[Cr]at hi
 | .same _,_,_,_,i,hi=>by simp[Cr]at hi
 | .row _ _,_,_,_,i,hi=>by simp[Cr]at hi
 | .Cj _ _,_,_,_,i,hi=>by simp[Cr]at hi
 | .abx _ _,_,_,_,i,hi=>by simp[Cr]at hi
 | .fz k,c,x,hx,i,hi=>by
  cases c<;>simp[Cr]at hi;subst hi;intro t' cs hb;simp[Bs,CJ,hb]at hx
 | .agg l,c,x,hx,i,hi=>by
  cases c with
  | agg cs=>exact Xg l cs x hx i<|by simpa[Cr] using hi
  | _=>simp[Cr]at hi
 | .box t l,c,x,hx,j,hi=>by
  cases c with
  | ptr id z i o=>
   cases i<;>cases o<;>simp only[Cr]at hi<;>first|(simp at hi;done)|skip
   cases ho:H id with
   | none=>simp[ho]at hi
   | some ob=>
    cases ob with
    | box e' cs=>
     simp only[ho]at hi;simp only[Bs,ho]at hx;split at hx
     .exact Xg l cs x hx j hi
     .cases hx
    | _=>simp[ho]at hi
  | _=>simp[Cr]at hi
theorem Xg:∀(l:List Sh) (cs:List AV) (x:LTs l),GC E H l cs=I x->∀i∈Cv H l cs,QW H i
 | [],cs,_,_,i,hi=>by simp[Cv]at hi
 | _::_,[],_,_,i,hi=>by simp[Cv]at hi
 | h::l,c::cs,x,hx,i,hi=>by
  obtain⟨x1,e1,hx⟩:=Ag.1 hx;obtain⟨x2,e2,hx⟩:=Ag.1 hx;simp only[Cv,BN]at hi;obtain hi|hi:=hi
  .exact auG h c x1 e1 i hi
  .exact Xg l cs x2 e2 i hi
end
def kE{k:K}(h:R8 k=Y)(x:Tof k):∀c∈enc k x,∃v,c= .lit v:=by
 have key:(enc k x).all (λc=>match c with
   | .lit _=>Y
   | _=>A0)=Y:=by cases k<;>first|(cases h;done)|rfl
 intro c hc;have:=DB.1 key c hc;cases c<;>first|exact⟨_,rfl⟩|cases this
def UD:Beta:=⟨λ_=>G,λ_=>False⟩
def Xy{b:Nat}:¬MZ UD b:=by
 rintro(⟨_,_,_,_,h,_⟩|h)
 .cases h
 .exact h
def FT.anyM{t:TypeId}{fz:Bool}{k:K}{xs:List (Tof k)}{v:Value}(hk:R8 k=Y)(h:FT w β t fz k xs v):FT w β' t fz k xs v:=by
 obtain h|⟨b,f,cap,us,fr,h1,h2,h3,h4,h5,h6,h7⟩:=h
 .exact .inl h
 .refine .inr ⟨b,f,cap,us,fr,h1,h2,h3,h4,h5,h6,λi x j c u a1 a2 a3=> ?_⟩;have h8:=h7 i x j c u a1 a2 a3;obtain⟨v,rfl⟩:=kE hk x c<|Cp a2;cases h8 with
  | lit h=>exact .lit h
mutual
theorem Rel.anyM:∀(h:Sh) (x:LT h) (v:Value) (os:List (Value×Nat)),MW h=A0->Rel P w M e h x v os->Rel P w M' e h x v os
 | .int _,_,_,_,_,h=>h
 | .bool,_,_,_,_,h=>h
 | .str,_,_,_,_,h=>h
 | .sl _,_,_,_,h,_=>by cases h
 | .fz _,_,_,_,h,_=>by cases h
 | .row t k,_,_,_,hm,h=>⟨h.1,h.2.1,λβ _=>(h.2.2 UD λb hb=>absurd hb Xy).anyM<|by simpa[MW] using hm⟩
 | .Cj t k,_,_,_,hm,h=>⟨h.1,h.2.1,λβ _=>(h.2.2 UD λb hb=>absurd hb Xy).anyM<|by simpa[MW] using hm⟩
 | .abx t k,_,_,_,hm,h=>by
  obtain⟨h1,h2,b,us,h3,h4,h5,h6,h7⟩:=h;refine⟨h1,h2,b,us,h3,h4,h5,h6,λβ _ i x j c u a1 a2 a3=> ?_⟩;have h8:=h7 UD (λb hb=>absurd hb Xy) i x j c u a1 a2 a3;obtain⟨v,rfl⟩:=kE (by simpa[MW] using hm) x c<|Cp a2;cases h8 with
  | lit h=>exact .lit h
 | .arr k,_,_,_,hm,h=>by
  obtain⟨h1,h2⟩:=h;refine⟨h1,λβ _=> ?_⟩;obtain⟨us,k1,k2,k3⟩:=h2 UD (λb hb=>absurd hb Xy);refine⟨us,k1,k2,λi x j c u a1 a2 a3=> ?_⟩;have h8:=k3 i x j c u a1 a2 a3;obtain⟨v,rfl⟩:=kE (by simpa[MW] using hm) x c<|Cp a2;cases h8 with
  | lit h=>exact .lit h
 | .same t,_,_,_,_,h=>h
 | .agg l,x,v,os,hm,h=>by
  obtain⟨us,h1,h2⟩:=h;exact⟨us,h1,Cl.anyM l x us os (by simpa[MW] using hm) h2⟩
 | .box t l,x,v,os,hm,h=>by
  obtain⟨b,us,os',h1,h2,h3,h4⟩:=h;exact⟨b,us,os',h1,h2,Cl.anyM l x us.toList os' (by simpa[MW] using hm) h3,h4⟩
theorem Cl.anyM:∀(l:List Sh) (x:LTs l) (us:List Value) (os:List (Value×Nat)),CV l=A0->Cl P w M e l x us os->Cl P w M' e l x us os
 | [],_,_,_,_,h=>h
 | h::l,x,us,os,hm,hr=>by
  obtain⟨u,us',o1,o2,h1,h2,h3,h4⟩:=hr;simp only[CV,NJ]at hm;exact⟨u,us',o1,o2,h1,h2,Rel.anyM h x.1 u o1 hm.1 h3,Cl.anyM l x.2 us' o2 hm.2 h4⟩
end
end
end Go.VS
namespace Go.VS
open Go
def abW:List Sh->Bool
 | .box _ l2::l=>HB l2&&HB l
 | l=>HB l
def aaQ:List Sh->Bool
 | .box _ _::_=>Y
 | _=>A0
def al(P:Program):List Sh->Bool
 | []=>Y
 | h::ps=>(match h with
  | .box t l=>abW l&&(!aaQ l||Oy P t)
  | .agg l=>HB l
  | _=>Y)&&al P ps
section
variable {B B':Be} {β β':Beta} {H:Hp} {w w':World} {M M':Nat->Prop} {stk:List (Array Value)} {s s':S} {a:Act} {P:Program} {E:Nat->AV} {e:Nat->Value} {b:Nat} {C:Cx}
mutual
theorem YU:∀(h:Sh) (c:AV),Dl h=Y->UR h=A0->∀i∈Cg H h c,i∈CK H h c
 | .int _,_,_,_,i,hi=>by simp[Cg]at hi
 | .bool,_,_,_,i,hi=>by simp[Cg]at hi
 | .str,_,_,_,i,hi=>by simp[Cg]at hi
 | .sl _,_,_,_,i,hi=>by simp[Cg]at hi
 | .fz _,_,_,_,i,hi=>by simp[Cg]at hi
 | .row _ _,c,_,_,i,hi=>by cases c<;>first|exact hi|(simp[Cg]at hi;done)
 | .Cj _ _,c,_,_,i,hi=>by cases c<;>first|exact hi|(simp[Cg]at hi;done)
 | .abx _ _,c,_,_,i,hi=>by
  cases c with
  | ptr id z i' o=>cases i'<;>cases o<;>first|exact hi|(simp[Cg]at hi;done)
  | _=>simp[Cg]at hi
 | .arr _,_,h,_,_,_=>by simp[Dl]at h
 | .same _,_,h,_,_,_=>by simp[Dl]at h
 | .agg _,_,h,_,_,_=>by simp[Dl]at h
 | .box _ _,_,_,h,_,_=>by cases h
end
def Sp:∀(l:List Sh) (cs:List AV),HB l=Y->∀i∈Bo H l cs,i∈Ce H l cs
 | [],cs,_,i,hi=>by simp[Bo]at hi
 | _::_,[],_,i,hi=>by simp[Bo]at hi
 | h::l,c::cs,hl,i,hi=>by
  simp only[HB,I3,P0,AE,CM]at hl;obtain⟨⟨h1,h2⟩,h3,h4⟩:=hl;simp only[Bo,BN]at hi;obtain hi|hi:=hi
  .exact Bz _ (YU h c h1 h3 i hi)
  .refine CW _<|Sp l cs ?_ i hi;simp only[HB,AE];exact⟨h2,h4⟩
def ET:List AV->List Nat
 | []=>[]
 | .ptr id _ 0 0::l=>id::ET l
 | _::l=>ET l
def aa4{id:Nat}:∀ {ds:List AV},id∈ET ds->∃z,AV.ptr id z 0 0∈ds
 | [],h=>by cases h
 | c::ds,h=>by
  have rest:id∈ET ds->∃z,AV.ptr id z 0 0∈c::ds:=λh=>by
   obtain⟨z,hz⟩:=aa4 h;exact⟨z,Ah _ hz⟩
  cases c<;>first|exact rest h|skip
  rename_i a b i o;cases i<;>cases o<;>first|exact rest h|skip
  obtain h|h:=Bj.1 h
  .subst h;exact⟨b,Ao⟩
  .exact rest h
inductive Fb (P:Program) (w:World) (H:Hp):List Sh->List AV->List Value->List AV->List Value->Prop
 | nil:Fb P w H [] [] [] [] []
 | flat {t:TypeId} {l bs:List Sh} {id z bb:Nat} {cs ds:List AV} {vs us:List Value} (hl:HB l=Y) (hb:∃t0 cs0,H id=I (.box t0 cs0)) (h:Fb P w H bs cs vs ds us):
   Fb P w H (.box t l::bs) (.ptr id z 0 0::cs) (.pointer (I ⟨bb,0,G⟩)::vs) (.ptr id z 0 0::ds) (.pointer (I ⟨bb,0,G⟩)::us)
 | nest {t t2 t0:TypeId} {l2 l bs:List Sh} {id z id2 z2 bb bb2:Nat} {cs1 cs ds:List AV} {vs us:List Value} (hl2:HB l2=Y) (hl:HB l=Y) (hid:H id=I (.box t0 (.ptr id2 z2 0 0::cs1)))
   (hb2:∃t0 cs0,H id2=I (.box t0 cs0)) (hn:Oy P t=Y) (hc:∃us0 fr,w.heap[bb]? =I (.cells us0 t fr)/\us0[0]? =I (.pointer<|I ⟨bb2,0,G⟩)) (h:Fb P w H bs cs vs ds us):
   Fb P w H (.box t (.box t2 l2::l)::bs) (.ptr id z 0 0::cs) (.pointer (I ⟨bb,0,G⟩)::vs) (.ptr id2 z2 0 0:: .ptr id z 0 0::ds) (.pointer (I ⟨bb2,0,G⟩):: .pointer (I ⟨bb,0,G⟩)::us)
def Fb.carry{bs:List Sh}{cs ds:List AV}{vs us:List Value}{H':Hp}(h:Fb P w H bs cs vs ds us)(hpk:Pk P w w')
  (hH:∀id∈ET ds,∀t cs,H id=I (.box t cs)->∃cs',H' id=I (.box t cs')/\ ∀id2 z2 cs1,cs= .ptr id2 z2 0 0::cs1->id2∈ET ds->∃KT,cs'= .ptr id2 z2 0 0::KT):Fb P w' H' bs cs vs ds us:=by
 induction h with
 | nil=>exact .nil
 | @flat t l bs id z bb cs ds vs us hl hb h ih=>
  refine .flat hl ?_ (ih λi hi t0 c0 h0=> ?_)
  .obtain⟨t0,c0,h0⟩:=hb;obtain⟨c1,h1,_⟩:=hH id Ao t0 c0 h0;exact⟨t0,c1,h1⟩
  .obtain⟨c1,h1,h2⟩:=hH i (Ah _ hi) t0 c0 h0;exact⟨c1,h1,λa b c e hm=>h2 a b c e<|Ah _ hm⟩
 | @nest t t2 t0 l2 l bs id z id2 z2 bb bb2 cs1 cs ds vs us hl2 hl hid hb2 hn hc h ih=>
  obtain⟨c1,h1,h2⟩:=hH id (Ah _ Ao) t0 _ hid;obtain⟨c2,rfl⟩:=h2 id2 z2 cs1 rfl Ao;refine .nest hl2 hl h1 ?_ hn ?_ (ih λi hi t0 c0 h0=> ?_)
  .obtain⟨t3,c3,h3⟩:=hb2;obtain⟨c4,h4,_⟩:=hH id2 Ao t3 c3 h3;exact⟨t3,c4,h4⟩
  .obtain⟨us0,fr,h3,h4⟩:=hc;obtain⟨us1,fr1,h5,h6⟩:=hpk bb us0 t fr _ h3 h4 hn;exact⟨us1,fr1,h5,h6⟩
  .obtain⟨c3,h3,h4⟩:=hH i (Ah _<|Ah _ hi) t0 c0 h0;exact⟨c3,h3,λa b c e hm=>h4 a b c e<|Ah _<|Ah _ hm⟩
def nR{l:List Sh}(hl:HB l=Y)(H:Hp)(b:Nat)(x:LTs l){us1:List Value}{ob:List (Value×Nat)}(hr:Cl P w M e l x us1 ob):
  ∃ds1 H1,Aj E H b l x=(ds1,H1,b+ob.length)/\(∀j,¬(b<=j/\j<b+ob.length)->H1 j=H j)/\ ∀β:Beta,(∀b,MZ β b->M b)->Num β b ob->RL (RC w β) ds1 us1/\ ∀j,b<=j->j<b+ob.length->∃o,H1 j=I o/\E6 P w β j o:=by
 have hl':=hl;simp only[HB,AE]at hl';obtain⟨Ct,Gr⟩:=kF l hl'.1;have hlen:=YQ (E:=E) (P:=P) (w:=w) (M:=M) (e:=e) l H b x us1 ob Ct hr;have F3:=YO (E:=E) l H b x;have hrc:=fun(β:Beta) (hM:∀b,MZ β b->M b) (hn:Num β b ob)=>Ys (E:=E) (P:=P) (w:=w) (M:=M) (e:=e) hM l H b x us1 ob Ct hr hn (by rw[Gr];intro t ht;simp at ht);generalize Aj E H b l x=r at *;obtain⟨ds1,H1,b1⟩:=r;have hlen:b1=b+ob.length:=hlen;subst hlen;exact⟨ds1,H1,rfl,F3,λβ hM hn=>⟨(hrc β hM hn).1,(hrc β hM hn).2.2.2⟩⟩
def aso{x y:Value×Nat}{oc ob nw us o2:List (Value×Nat)}(h:o2.Perm (nw++us)):(((oc++[x])++ob)++[y]++o2).Perm (((oc++ob)++nw)++x::y::us):=by
 have h1:(ob++y::o2).Perm (ob++nw++y::us):=by
  rw[C7];exact Zj ob<|(h.cons y).trans List.perm_middle.symm
 have h2:(oc++x::(ob++y::o2)).Perm (oc++(ob++nw++x::y::us)):=Zj oc<|(h1.cons x).trans List.perm_middle.symm;simpa[C7] using h2
def lC:∀(bs:List Sh) (H:Hp) (b:Nat) (q:LTs bs) (cs ds:List AV) (vs us:List Value) (os:List (Value×Nat)) (L:Nat),Fb P w H bs cs vs ds us->(ET ds).Nodup->(∀i∈ET ds,¬(b<=i/\i<L))->Cl P w M e bs q vs os->(BT E H b bs cs q).2.2<=L->
  ∃nw:List (Value×Nat),os.Perm (nw++us.map λv=>(v,1))/\(BT E H b bs cs q).2.2=b+nw.length/\
   ∀β:Beta,(∀b,MZ β b->M b)->Num β b nw->(∀(i:Nat) (c:AV) (v:Value),ds[i]? =I c->us[i]? =I v->∀id z,c= .ptr id z 0 0->β id=I (v,1))->
    (∀j,(BT E H b bs cs q).2.1 j=H j\/ ∃ob,(BT E H b bs cs q).2.1 j=I ob/\E6 P w β j ob)/\
    (∀j,b<=j->j<b+nw.length->∃ob,(BT E H b bs cs q).2.1 j=I ob/\E6 P w β j ob)/\
    (∀id z,AV.ptr id z 0 0∈ds->∃ob,(BT E H b bs cs q).2.1 id=I ob/\E6 P w β id ob)/\
    (∀j,¬(b<=j/\j<b+nw.length)->(∀z,AV.ptr j z 0 0 ∉ ds)->(BT E H b bs cs q).2.1 j=H j)
 | [],H,b,q,cs,ds,vs,us,os,L,hF,_,_,hr,_=>by
  cases hF;obtain⟨_,rfl⟩:=hr;exact⟨[],.nil,rfl,λβ _ _ _=>⟨λj=> .inl rfl,λj h1 h2=>by simp at h2;omega,λid z h=>by simp at h,λj _ _=>rfl⟩⟩
 | h::bs,H,b,q,cs0,ds0,vs0,us0,os,L,hF,hnd,F3,hr,hL=>by
  cases hF with
  | @flat t l _ id z bb cs ds vs us hl hb hF=>
   obtain⟨u,us',o1,o2,e1,rfl,h1,h2⟩:=hr;cases e1;obtain⟨bb',uc,os',e2,h3,h4,rfl⟩:=h1;cases e2;obtain⟨t0,c0,hid⟩:=hb;obtain⟨da,H1,hmk,ho1,hrc⟩:=nR (E:=E) hl H b q.1 h4;have Jj:id ∉ ET ds/\(ET ds).Nodup:=by simpa[ET] using hnd
   have un:BT E H b (.box t l::bs) (.ptr id z 0 0::cs) q=(match BT E (upd H1 id<|I<|.box t da) (b+os'.length) bs cs q.2 with|(es,H'',b'')=>(AV.ptr id z 0 0::es,H'',b'')):=by
    have u1:BT E H b (.box t l::bs) (.ptr id z 0 0::cs) q=(match D3 E H b (.box t l) (.ptr id z 0 0) q.1 with|(d,H,b)=>match BT E H b bs cs q.2 with|(ds,H,b)=>(d::ds,H,b)):=rfl;have u2:D3 E H b (.box t l) (.ptr id z 0 0) q.1=(match H id with
     | some (.box _ cs)=>(match BT E H b l cs q.1 with|(ds,H,b)=>(AV.ptr id z 0 0,upd H id<|I<|.box t ds,b))
     | _=>(.un,H,b)):=rfl
    rw[u1,u2,hid];simp only;rw[Xf l H b c0 q.1 hl,hmk]
   rw[un]at hL ⊢;have hle:=QD E bs (upd H1 id<|I<|.box t da) (b+os'.length) cs q.2;have hL':(BT E (upd H1 id<|I<|.box t da) (b+os'.length) bs cs q.2).2.2<=L:=by
    generalize BT E (upd H1 id<|I<|.box t da) (b+os'.length) bs cs q.2=r at *;exact hL
   have Gr:∀i∈ET ds,upd H1 id (I<|.box t da) i=H i:=λi hi=>by
    rw[BE _ _ λe=>Jj.1 (by rw[← e];exact hi),ho1 i λhh=>F3 i (Ah _ hi) ⟨hh.1,J⟩]
   obtain⟨nw,n1,n4,n5⟩:=lC bs (upd H1 id<|I<|.box t da) (b+os'.length) q.2 cs ds vs us o2 L (hF.carry (Pk.refl _ _) λi hi t c h0=>⟨c,by rw[Gr i hi];exact h0,λ_ _ c1 e _=>⟨c1,e⟩⟩) Jj.2
    (λi hi hh=>F3 i (Ah _ hi) ⟨J,hh.2⟩) h2 hL'
   generalize hg:BT E (upd H1 id<|I<|.box t da) (b+os'.length) bs cs q.2=r at *;obtain⟨es,H'',b''⟩:=r;simp only at n4 n5 hle hL hL' ⊢;refine⟨os'++nw, ?_, ?_, ?_⟩
   .rw[C7,C7,DV];refine Zj os' ?_;exact((n1.cons (NQ<|I ⟨bb,0,G⟩,1)).trans List.perm_middle.symm)
   .rw[n4];simp[D8]
   .intro β hM hn hbx;obtain⟨r1,r3⟩:=hrc β hM hn.left;have amP:β id=I (.pointer<|I ⟨bb,0,G⟩,1):=hbx 0 _ _ rfl rfl id z rfl;have acB:E6 P w β id (.box t da):=⟨bb,uc,amP,h3,r1⟩;obtain⟨m1,m2,m3,m4⟩:=n5 β hM hn.right (λi c v k1 k2=>hbx (i+1) c v (by simpa using k1)<|by simpa using k2);have step:∀j,H'' j=H1 j\/ ∃ob,H'' j=I ob/\E6 P w β j ob:=λj=>by
     obtain h|h:=m1 j
     .by_cases e4:j=id
      .subst e4;rw[Bi]at h;exact .inr ⟨_,h,acB⟩
      .rw[BE _ _ e4]at h;exact .inl h
     .exact .inr h
    refine⟨λj=> ?_,λj k1 k2=> ?_,λid2 z2 hm=> ?_,λj k1 k2=> ?_⟩
    .rcases step j with h|h
     .by_cases hj:b<=j/\j<b+os'.length
      .obtain⟨ob,q1,q2⟩:=r3 j hj.1 hj.2;exact .inr ⟨ob,by rw[h];exact q1,q2⟩
      .exact .inl (h.trans<|ho1 j hj)
     .exact .inr h
    .by_cases hj:j<b+os'.length
     .rcases step j with h|h
      .obtain⟨ob,q1,q2⟩:=r3 j k1 hj;exact⟨ob,by rw[h];exact q1,q2⟩
      .exact h
     .exact m2 j J (by simp at k2;omega)
    .rcases Bj.1 hm with h|h
     .cases h;obtain h|h:=m1 id
      .rw[Bi]at h;exact⟨_,h,acB⟩
      .exact h
     .exact m3 id2 z2 h
    .have hne:j≠id:=λe4=>k2 z (by rw[e4];exact Ao);rw[m4 j (λhh=>k1 ⟨J,by simp;omega⟩) λz' hz'=>k2 z'<|Ah _ hz',BE _ _ hne];exact ho1 j λhh=>k1 ⟨hh.1,by simp;omega⟩
  | @nest t t2 t0 l2 l _ id z id2 z2 bb bb2 cs1 cs ds vs us hl2 hl hid hb2 hn hc hF=>
   obtain⟨u,us',o1,o2,e1,rfl,h1,h2⟩:=hr;cases e1;obtain⟨bb',uc,os',e2,h3,h4,rfl⟩:=h1;cases e2;obtain⟨u2,us1,oa,ob,huc,rfl,h5,h6⟩:=h4;obtain⟨azx,uc2,oc,e3,h7,h8,rfl⟩:=h5;have e4:u2= .pointer (I ⟨bb2,0,G⟩):=by
    obtain⟨us0,fr,k1,k2⟩:=hc;rw[h3]at k1;cases k1;have:uc.toList[0]? =I u2:=by rw[huc];rfl
    rw[Tv,k2]at this;exact(E5 this).symm
   rw[e4]at e3;cases e3;subst e4;obtain⟨t3,c3,LZ⟩:=hb2;have Jj:(id2≠id/\id2 ∉ ET ds)/\id ∉ ET ds/\(ET ds).Nodup:=by simpa[ET,not_or] using hnd
   obtain⟨da,H1,hmk,ho1,alx⟩:=nR (E:=E) hl2 H b q.1.1 h8;obtain⟨dc,H3,amk,ho2,alw⟩:=nR (E:=E) hl (upd H1 id2<|I<|.box t2 da) (b+oc.length) q.1.2 h6;have un:BT E H b (.box t (.box t2 l2::l)::bs) (.ptr id z 0 0::cs) q=
     (match BT E (upd H3 id<|I<|.box t<|.ptr id2 z2 0 0::dc) (b+oc.length+ob.length) bs cs q.2 with|(es,H'',b'')=>(AV.ptr id z 0 0::es,H'',b'')):=by
    have u1:BT E H b (.box t (.box t2 l2::l)::bs) (.ptr id z 0 0::cs) q=(match D3 E H b (.box t<|.box t2 l2::l) (.ptr id z 0 0) q.1 with|(d,H,b)=>match BT E H b bs cs q.2 with|(ds,H,b)=>(d::ds,H,b)):=rfl;have u2:D3 E H b (.box t<|.box t2 l2::l) (.ptr id z 0 0) q.1=(match H id with
     | some (.box _ cs)=>(match BT E H b (.box t2 l2::l) cs q.1 with|(ds,H,b)=>(AV.ptr id z 0 0,upd H id<|I<|.box t ds,b))
     | _=>(.un,H,b)):=rfl
    have u3:BT E H b (.box t2 l2::l) (.ptr id2 z2 0 0::cs1) q.1=(match D3 E H b (.box t2 l2) (.ptr id2 z2 0 0) q.1.1 with|(d,H,b)=>match BT E H b l cs1 q.1.2 with|(ds,H,b)=>(d::ds,H,b)):=rfl;have u4:D3 E H b (.box t2 l2) (.ptr id2 z2 0 0) q.1.1=(match H id2 with
     | some (.box _ cs)=>(match BT E H b l2 cs q.1.1 with|(ds,H,b)=>(AV.ptr id2 z2 0 0,upd H id2<|I<|.box t2 ds,b))
     | _=>(.un,H,b)):=rfl
    rw[u1,u2,hid];simp only;rw[u3,u4,LZ];simp only;rw[Xf l2 H b c3 q.1.1 hl2,hmk];simp only;rw[Xf l _ _ cs1 q.1.2 hl,amk]
   rw[un]at hL ⊢;have hle:=QD E bs (upd H3 id<|I<|.box t<|.ptr id2 z2 0 0::dc) (b+oc.length+ob.length) cs q.2;have hL':(BT E (upd H3 id<|I<|.box t<|.ptr id2 z2 0 0::dc) (b+oc.length+ob.length) bs cs q.2).2.2<=L:=by
    generalize BT E (upd H3 id<|I<|.box t<|.ptr id2 z2 0 0::dc) (b+oc.length+ob.length) bs cs q.2=r at *;exact hL
   have hi2:¬(b<=id2/\id2<L):=F3 id2 Ao;have hi1:¬(b<=id/\id<L):=F3 id<|Ah _ Ao;have hold:∀j,¬(b<=j/\j<b+oc.length+ob.length)->j≠id->j≠id2->upd H3 id (I<|.box t<|.ptr id2 z2 0 0::dc) j=H j:=λj hj e1 e2=>by
    rw[BE _ _ e1,ho2 j λhh=>hj ⟨J,hh.2⟩,BE _ _ e2,ho1 j λhh=>hj ⟨hh.1,J⟩]
   have Gr:∀i∈ET ds,upd H3 id (I<|.box t<|.ptr id2 z2 0 0::dc) i=H i:=λi hi=>by
    have:=F3 i<|Ah _<|Ah _ hi;exact hold i (λhh=>this ⟨hh.1,J⟩) (λe=>Jj.2.1 (by rw[← e];exact hi)) λe=>Jj.1.2 (by rw[← e];exact hi)
   obtain⟨nw,n1,n4,n5⟩:=lC bs (upd H3 id<|I<|.box t<|.ptr id2 z2 0 0::dc) (b+oc.length+ob.length) q.2 cs ds vs us o2 L (hF.carry (Pk.refl _ _) λi hi t c h0=>⟨c,by rw[Gr i hi];exact h0,λ_ _ c1 e _=>⟨c1,e⟩⟩) Jj.2.2
    (λi hi hh=>F3 i (Ah _<|Ah _ hi) ⟨J,hh.2⟩) h2 hL'
   generalize hg:BT E (upd H3 id<|I<|.box t<|.ptr id2 z2 0 0::dc) (b+oc.length+ob.length) bs cs q.2=r at *;obtain⟨es,H'',b''⟩:=r;simp only at n4 n5 hle hL hL' ⊢;refine⟨oc++ob++nw, ?_, ?_, ?_⟩
   .exact aso n1
   .rw[n4];simp[D8]
   .intro β hM hn hbx;have azj:Num β b oc:=hn.left.left;have azi:Num β (b+oc.length) ob:=hn.left.right;have azh:Num β (b+oc.length+ob.length) nw:=by
     have:=hn.right;rwa[Am,← D8]at this
    obtain⟨r1,r3⟩:=alx β hM azj;obtain⟨s1,s3⟩:=alw β hM azi;have hβ2:β id2=I (.pointer<|I ⟨bb2,0,G⟩,1):=hbx 0 _ _ rfl rfl id2 z2 rfl;have hβ1:β id=I (.pointer<|I ⟨bb,0,G⟩,1):=hbx 1 _ _ rfl rfl id z rfl;have ob2:E6 P w β id2 (.box t2 da):=⟨bb2,uc2,hβ2,h7,r1⟩;have ob1:E6 P w β id (.box t<|.ptr id2 z2 0 0::dc):=by
     refine⟨bb,uc,hβ1,h3, ?_⟩;rw[huc];refine RL.cons ?_ s1;have:=RC.ptr (w:=w) (β:=β) (id:=id2) (sz:=z2) (i:=0) (o:=0) hβ2 (b:=bb2) (f:=0) rfl J;simpa using this
    obtain⟨m1,m2,m3,m4⟩:=n5 β hM azh (λi c v k1 k2=>hbx (i+2) c v (by simpa using k1)<|by simpa using k2);have h4:∀j,(upd H3 id (I<|.box t<|.ptr id2 z2 0 0::dc) j=H j/\ ¬(b<=j/\j<b+oc.length+ob.length)/\j≠id/\j≠id2)\/ ∃o,upd H3 id (I<|.box t<|.ptr id2 z2 0 0::dc) j=I o/\E6 P w β j o:=λj=>by
     by_cases e1:j=id
     .subst e1;exact .inr ⟨_,Bi _ _ _,ob1⟩
     by_cases e2:j=id2
     .subst e2;refine .inr ⟨_, ?_,ob2⟩;rw[BE _ _ e1,ho2 j λhh=>hi2 ⟨J,J⟩,Bi]
     by_cases k1:b<=j/\j<b+oc.length+ob.length
     .by_cases k2:j<b+oc.length
      .obtain⟨o,q1,q2⟩:=r3 j k1.1 k2;exact .inr ⟨o,by rw[BE _ _ e1,ho2 j J,BE _ _ e2];exact q1,q2⟩
      .obtain⟨o,q1,q2⟩:=s3 j J k1.2;exact .inr ⟨o,by rw[BE _ _ e1];exact q1,q2⟩
     .exact .inl ⟨hold j k1 e1 e2,k1,e1,e2⟩
    have step:∀j,(H'' j=H j/\ ¬(b<=j/\j<b+oc.length+ob.length)/\j≠id/\j≠id2)\/ ∃o,H'' j=I o/\E6 P w β j o:=λj=>by
     obtain h|h:=m1 j
     .rcases h4 j with⟨k1,k2⟩|⟨o,k1,k2⟩
      .exact .inl ⟨h.trans k1,k2⟩
      .exact .inr ⟨o,h.trans k1,k2⟩
     .exact .inr h
    refine⟨λj=> ?_,λj k1 k2=> ?_,λid3 z3 hm=> ?_,λj k1 k2=> ?_⟩
    .rcases step j with h|h
     .exact .inl h.1
     .exact .inr h
    .by_cases hj:j<b+oc.length+ob.length
     .rcases step j with h|h
      .exact absurd ⟨k1,hj⟩ h.2.1
      .exact h
     .exact m2 j J (by simp at k2;omega)
    .rcases Bj.1 hm with h|h
     .cases h;obtain h|h:=step id2
      .exact absurd rfl h.2.2.2
      .exact h
     obtain h|h:=Bj.1 h
     .cases h;obtain h|h:=step id
      .exact absurd rfl h.2.2.1
      .exact h
     .exact m3 id3 z3 h
    .have hne:j≠id:=λe4=>k2 z (by rw[e4];exact Ah _ Ao);have amj:j≠id2:=λe4=>k2 z2 (by rw[e4];exact Ao);rw[m4 j (λhh=>k1 ⟨J,by simp;omega⟩) λz' hz'=>k2 z'<|Ah _<|Ah _ hz'];exact hold j (λhh=>k1 ⟨hh.1,by simp;omega⟩) hne amj
def aDZ(hH:Hs B β H w):∀(ps:List Sh) (cs:List AV) (vs:List Value) (x:LTs ps),al B.P ps=Y->RL (R1 w β) cs vs->GC E H ps cs=I x->
  ∃ds us,Fb B.P w H (B2 ps) (Fq ps cs) (Jw ps vs) ds us/\
   RL (λc v=>∃id z bb,c=AV.ptr id z 0 0/\v=NQ (I ⟨bb,0,G⟩)/\(∃t cs,H id=I (.box t cs))/\β id=I (v,1)/\id∈Bo H ps cs) ds us/\
   (ET ds).Sublist (Bo H ps cs)/\ ∀i∈Bo H ps cs,i∈Ce H ps cs\/ ∃z,AV.ptr i z 0 0∈ds
 | [],[],vs,x,_,hr,hx=>by
  have:=hr.of_nil;subst this;exact⟨[],[],.nil,.nil,EW _,λi hi=>by simp[Bo]at hi⟩
 | [],_::_,_,_,_,_,hx=>by cases hx
 | _::_,[],_,_,_,_,hx=>by cases hx
 | h::ps,c::cs,vs,x,hp,hr,hx=>by
  obtain⟨v,vs,rfl,h1,h2⟩:=hr.CD;obtain⟨x1,e1,hx⟩:=Ag.1 hx;obtain⟨x2,e2,hx⟩:=Ag.1 hx;simp only[al,AE]at hp;obtain⟨ds,us,f1,f2,f3,f4⟩:=aDZ hH ps cs vs x2 hp.2 h2 e2;have f2':RL (λc' v'=>∃id z bb,c'=AV.ptr id z 0 0/\v'=NQ (I ⟨bb,0,G⟩)/\(∃t cs,H id=I (.box t cs))/\β id=I (v',1)/\id∈Bo H (h::ps) (c::cs)) ds us:=
   f2.mono λc' v' ⟨id,z,bb,k1,k2,k3,k4,k5⟩=>⟨id,z,bb,k1,k2,k3,k4,CW _ k5⟩
  have Gc:B2 (h::ps)=B2 ps->Fq (h::ps) (c::cs)=Fq ps cs->Jw (h::ps) (v::vs)=Jw ps vs->(∀i∈Cg H h c,i∈CK H h c)->
    ∃ds us,Fb B.P w H (B2<|h::ps) (Fq (h::ps)<|c::cs) (Jw (h::ps)<|v::vs) ds us/\
     RL (λc' v'=>∃id z bb,c'=AV.ptr id z 0 0/\v'=NQ (I ⟨bb,0,G⟩)/\(∃t cs,H id=I (.box t cs))/\β id=I (v',1)/\id∈Bo H (h::ps) (c::cs)) ds us/\
     (ET ds).Sublist (Bo H (h::ps)<|c::cs)/\ ∀i∈Bo H (h::ps) (c::cs),i∈Ce H (h::ps) (c::cs)\/ ∃z,AV.ptr i z 0 0∈ds:=λg1 g2 g3 g4=>by
   rw[g1,g2,g3];refine⟨ds,us,f1,f2',f3.trans<|Zi _ _,λi hi=> ?_⟩;obtain hi|hi:=BN.1 hi
   .exact .inl (Bz _<|g4 i hi)
   .exact(f4 i hi).imp (CW _) λh=>h
  cases h with
  | box t l=>
   have hp1:=hp.1;simp only[AE,C8,CM]at hp1;cases c<;>first|(cases e1;done)|skip
   rename_i id z i o;cases i<;>cases o<;>simp only[Bs]at e1<;>first|(cases e1;done)|skip
   split at e1
   case h_2=>cases e1
   rename_i t' cs' hid;split at e1
   case h_2=>cases e1
   rename_i hbt;obtain rfl:=Br hbt;have h1:=h1.Rg;cases h1 with
   | @ptr _ _ _ _ hd n bb f k1 ha hi=>
    obtain⟨b',uc,j1,j2,j3⟩:=hH.EJ id _ hid;rw[k1]at j1;cases j1;cases ha;have e0:(NQ<|I ⟨bb,0+(0 * z+0),G⟩)=NQ (I ⟨bb,0,G⟩):=by simp
    by_cases bK:aaQ l=Y
    ·
     cases l with
     | nil=>cases bK
     | cons h0 l=>
      cases h0 with
      | box t2 l2=>
       obtain⟨hl,hn⟩:=hp1;have hn:Oy B.P t=Y:=hn.resolve_left (by rw[bK];simp);simp only[abW,AE]at hl;cases cs' with
       | nil=>cases e1
       | cons c2 cs1=>
        obtain⟨y1,g1,g2⟩:=Ag.1 e1;obtain⟨u2,us1,huc,q1,q2⟩:=j3.CD;cases c2<;>first|(cases g1;done)|skip
        rename_i id2 z2 i2 o2;cases i2<;>cases o2<;>simp only[Bs]at g1<;>first|(cases g1;done)|skip
        split at g1
        case h_2=>cases g1
        rename_i t2' cs2 LZ;obtain⟨b2,uc2,m1,m2,m3⟩:=hH.EJ id2 _ LZ;cases q1 with
        | @ptr _ _ _ _ hd2 n2 bb2 f2x k1' ha' hi'=>
         rw[m1]at k1';cases k1';cases ha';have e00:(NQ<|I ⟨b2,0+(0 * z2+0),G⟩)=NQ (I ⟨b2,0,G⟩):=by simp
         rw[e00]at huc;refine⟨.ptr id2 z2 0 0:: .ptr id z 0 0::ds,.pointer (I ⟨b2,0,G⟩):: .pointer (I ⟨bb,0,G⟩)::us, ?_, ?_, ?_,λi hi=> ?_⟩
         .rw[e0];exact .nest hl.1 hl.2 hid ⟨_,_,LZ⟩ hn ⟨uc,_,j2,by rw[← Tv,huc];rfl⟩ f1
         .refine RL.cons ⟨id2,z2,b2,rfl,rfl,⟨_,_,LZ⟩,m1, ?_⟩ (RL.cons ⟨id,z,bb,rfl,rfl,⟨_,_,hid⟩,k1, ?_⟩ f2')
          .simp[Bo,Cg,hid,LZ]
          .simp[Bo,Cg,hid]
         .simp only[ET,Bo,Cg,hid,LZ];refine List.Sublist.trans ?_<|List.Sublist.append_left f3 _;have:(((Bo H l2 cs2++[id2])++Bo H l cs1)++[id])++ET ds=Bo H l2 cs2++(id2::(Bo H l cs1++(id::ET ds))):=by simp
          rw[this];exact(((Zi _ _:(id::ET ds).Sublist (Bo H l cs1++(id::ET ds)))).cons_cons id2).trans (Zi _ _)
         .simp only[Bo,Cg,hid,LZ,BN,C1]at hi;obtain(((hi|hi)|hi)|hi)|hi:=hi
          .refine .inl<|Bz _ ?_;simp only[CK,hid,Ce,LZ];exact Bz _ (Sp l2 cs2 hl.1 i hi)
          .subst hi;exact .inr ⟨z2,Ao⟩
          .refine .inl<|Bz _ ?_;simp only[CK,hid,Ce,LZ];exact CW _ (Sp l cs1 hl.2 i hi)
          .subst hi;exact .inr ⟨z,Ah _ Ao⟩
          .rcases f4 i hi with h|⟨z',h⟩
           .exact .inl (CW _ h)
           .exact .inr ⟨z',Ah _<|Ah _ h⟩
      | _=>cases bK
    ·
     have hl:HB l=Y:=by
      have:=hp1.1;cases l with
      | nil=>rfl
      | cons h0 l=>cases h0<;>first|exact this|exact absurd rfl bK
     refine⟨.ptr id z 0 0::ds,.pointer (I ⟨bb,0,G⟩)::us, ?_, ?_, ?_,λi hi=> ?_⟩
     .rw[e0];exact .flat hl ⟨_,_,hid⟩ f1
     .refine RL.cons ⟨id,z,bb,rfl,rfl,⟨_,_,hid⟩,k1, ?_⟩ f2';simp[Bo,Cg,hid]
     .simp only[ET,Bo,Cg,hid];rw[C7];exact((f3.cons_cons id)).trans (Zi _ _)
     .simp only[Bo,Cg,hid,BN,C1]at hi;obtain(hi|hi)|hi:=hi
      .refine .inl<|Bz _ ?_;simp only[CK,hid];exact Sp l cs' hl i hi
      .subst hi;exact .inr ⟨z,Ao⟩
      .rcases f4 i hi with h|⟨z',h⟩
       .exact .inl (CW _ h)
       .exact .inr ⟨z',Ah _ h⟩
  | agg l=>
   refine Gc rfl rfl rfl λi hi=> ?_;cases c with
   | agg cs'=>
    simp only[CK];exact Sp l cs' hp.1 i<|by simpa[Cg] using hi
   | _=>simp[Cg]at hi
  | arr=>exact Gc rfl rfl rfl λi hi=>by simp[Cg]at hi
  | same=>exact Gc rfl rfl rfl λi hi=>by simp[Cg]at hi
  | int=>exact Gc rfl rfl rfl λi hi=>by simp[Cg]at hi
  | bool=>exact Gc rfl rfl rfl λi hi=>by simp[Cg]at hi
  | str=>exact Gc rfl rfl rfl λi hi=>by simp[Cg]at hi
  | sl=>exact Gc rfl rfl rfl λi hi=>by simp[Cg]at hi
  | fz=>exact Gc rfl rfl rfl λi hi=>by simp[Cg]at hi
  | row t k=>exact Gc rfl rfl rfl (YU _ c rfl rfl)
  | Cj t k=>exact Gc rfl rfl rfl (YU _ c rfl rfl)
  | abx t k=>exact Gc rfl rfl rfl (YU _ c rfl rfl)
def aF9{t:TypeId}{j:Nat}:∀(ids:List Nat) (s:S) {cs:List AV},j ∉ ids->s.H j=I (.box t cs)->∃cs',(ids.foldl S.kill s).H j=I (.box t cs')/\ ∀id2 z2 cs1,cs= .ptr id2 z2 0 0::cs1->id2 ∉ ids->∃KT,cs'= .ptr id2 z2 0 0::KT
 | [],s,cs,_,h=>⟨cs,h,λ_ _ c e _=>⟨c,e⟩⟩
 | i::ids,s,cs,hj,h=>by
  have hne:j≠i:=λe=>hj<|e▸Ao;obtain⟨c',h1,h2⟩:=aF9 (t:=t) (j:=j) ids (s.kill i) (cs:=cs.map<|kl1 i) (λhm=>hj<|Ah _ hm) (by
   show upd (λj=>CP (kl1 i)<|s.H j) i G j=_;rw[BE _ _ hne,h];rfl)
  refine⟨c',h1,λid2 z2 cs1 e hn=> ?_⟩;subst e;have hn2:id2≠i:=λe=>hn<|e▸Ao;have e1:Af id2 i=A0:=by rw[← GK,HJ];exact hn2
  exact h2 id2 z2 (cs1.map<|kl1 i) (by simp[kl1,e1]) λhm=>hn<|Ah _ hm
def aDR{t:TypeId}{j:Nat}:∀(ids:List Nat) (s:S) {cs:List AV},j ∉ ids->s.H j=I (.box t cs)->∃cs',(ids.foldl S.freeze s).H j=I (.box t cs')/\ ∀id2 z2 cs1,cs= .ptr id2 z2 0 0::cs1->id2 ∉ ids->∃KT,cs'= .ptr id2 z2 0 0::KT
 | [],s,cs,_,h=>⟨cs,h,λ_ _ c e _=>⟨c,e⟩⟩
 | i::ids,s,cs,hj,h=>by
  have hne:j≠i:=λe=>hj<|e▸Ao;have:∃cs',(s.freeze i).H j=I (.box t cs')/\ ∀id2 z2 cs1,cs= .ptr id2 z2 0 0::cs1->id2≠i->∃KT,cs'= .ptr id2 z2 0 0::KT:=by
   unfold S.freeze;split
   .rename_i k xs _;refine⟨cs.map<|fz1 i k xs, ?_,λid2 z2 cs1 e hn=> ?_⟩
    .show upd (λj=>CP (fz1 i k xs)<|s.H j) i G j=_;rw[BE _ _ hne,h];rfl
    .subst e;have e1:Af id2 i=A0:=by rw[← GK,HJ];exact hn
     exact⟨cs1.map<|fz1 i k xs,by simp[fz1,e1]⟩
   .refine⟨cs.map<|kl1 i, ?_,λid2 z2 cs1 e hn=> ?_⟩
    .show upd (λj=>CP (kl1 i)<|s.H j) i G j=_;rw[BE _ _ hne,h];rfl
    .subst e;have e1:Af id2 i=A0:=by rw[← GK,HJ];exact hn
     exact⟨cs1.map<|kl1 i,by simp[kl1,e1]⟩
  obtain⟨c',h',hd'⟩:=this;obtain⟨c2,h2,h3⟩:=aDR (t:=t) (j:=j) ids (s.freeze i) (λhm=>hj<|Ah _ hm) h';refine⟨c2,h2,λid2 z2 cs1 e hn=> ?_⟩;obtain⟨KT,e'⟩:=hd' id2 z2 cs1 e (λe=>hn<|e▸Ao);exact h3 id2 z2 KT e' λhm=>hn<|Ah _ hm
def awU{t:TypeId}{j:Nat}(q:Bool)(ids:List Nat)(s:S){cs:List AV}(hj:¬(q=Y/\j∈ids))(h:s.H j=I (.box t cs)):
  ∃cs',(GJ q ids s).H j=I (.box t cs')/\ ∀id2 z2 cs1,cs= .ptr id2 z2 0 0::cs1->¬(q=Y/\id2∈ids)->∃KT,cs'= .ptr id2 z2 0 0::KT:=by
 cases q with
 | false=>exact⟨cs,h,λ_ _ c e _=>⟨c,e⟩⟩
 | true=>
  obtain⟨c',h1,h2⟩:=aDR ids s (λhm=>hj ⟨rfl,hm⟩) h;exact⟨c',h1,λid2 z2 cs1 e hn=>h2 id2 z2 cs1 e λhm=>hn ⟨rfl,hm⟩⟩
def aat{cs:List AV}{vs:List Value}(h:RL (R1 w β) cs vs):R2 w β (MG cs) (MX vs):=by
 match cs,vs,h with
 | [],vs,h=>
  have:=h.of_nil;subst this;exact⟨[],rfl,.nil⟩
 | [c],vs,h=>
  obtain⟨v,vs',rfl,h1,h2⟩:=h.CD;have:=h2.of_nil;subst this;exact .HM h1
 | c::c'::cs,vs,h=>
  obtain⟨v,vs',rfl,h1,h2⟩:=h.CD;obtain⟨v',amW,rfl,h3,h4⟩:=h2.CD;exact⟨v::v'::amW,rfl,h⟩
def aFL:∀(ps:List Sh) (k:Nat) (t:Nat),t∈Dy k ps->k<=t/\ ∃e l,ps[t - k]? =I (.box e l)
 | [],_,_,h=>by cases h
 | p::ps,k,t,h=>by
  have tail:t∈Dy (k+1) ps->k<=t/\ ∃e l,(p::ps)[t - k]? =I (.box e l):=λh=>by
   obtain⟨h1,e,l,h2⟩:=aFL ps (k+1) t h;refine⟨J,e,l, ?_⟩;have:t - k=(t - (k+1))+1:=J
   rw[this];simpa using h2
  unfold Dy at h;split at h
  .rename_i hb;obtain rfl|h:=Bj.1 h
   .refine⟨Ar _, ?_⟩;cases p<;>first|(cases hb;done)|skip
    rename_i t0 l0;exact⟨t0,l0,by simp⟩
   .exact tail h
  .exact tail h
def aFE{H:Hp}:∀ {ps:List Sh} {cs:List AV} {x:LTs ps},GC E H ps cs=I x->∀ {i:Nat} {h:Sh},ps[i]? =I h->∃c y,cs[i]? =I c/\Bs E H h c=I y
 | [],cs,x,_,i,h,hi=>by simp at hi
 | _::_,[],_,h,_,_,_=>by cases h
 | p::ps,c::cs,x,hx,i,h,hi=>by
  obtain⟨x1,e1,hx⟩:=Ag.1 hx;obtain⟨x2,e2,hx⟩:=Ag.1 hx;cases i with
  | zero=>simp at hi;subst hi;exact⟨c,x1,rfl,e1⟩
  | succ i=>
   obtain⟨c',y,h1,h2⟩:=aFE e2 (by simpa using hi);exact⟨c',y,by simpa using h1,h2⟩
end
end Go.VS
namespace Go.VS
open Go
def okQ(P:Program)(m:DZ):Bool:=al P m.ps&&K5 m.rs&&(Il m.rs).all λt=>(Dy 0 m.ps).any λp=>Af p t
section
variable {B B':Be} {β β':Beta} {H:Hp} {w w':World} {M M':Nat->Prop} {stk:List (Array Value)} {s s':S} {a:Act} {P:Program} {E:Nat->AV} {e:Nat->Value} {b:Nat} {C:Cx}
def aDo{o:Oper}{f:FuncId}{args:List Operand}{ts:Array TypeId}{K:Act->World->Prop}{Q:Exit->Act->World->Prop}(hE:MA P f)(ho:o.op= .call { callee:= .value<|.func f,args:=args.toArray,argTypes:=ts })
  {R:Ending->World->Prop}(hc:Calls P f (args.map a.eval).toArray w R)(hR:∀en w',R en w'->∃v,en= .returned v/\K (a.put o.dst v) w'):o.wp P a w K Q:=by
 unfold Oper.wp;have h1:execOp a.eval o=callFunc f (args.map a.eval).toArray:=by
  have ef:a.eval (.func f)= .func (.func f) #[] #[]:=rfl;unfold execOp;simp[ho,resolve,Deferred.ofValue,invoke,ef]
 rw[h1,hE];refine MV hc λen w' h=> ?_;obtain⟨v,rfl,hk⟩:=hR en w' h;exact hk
def aCm:∀(ids:List Nat) (s:S),(ids.foldl S.kill s).gs=s.gs/\(ids.foldl S.kill s).n=s.n/\(ids.foldl S.kill s).pins=s.pins
 | [],_=>⟨rfl,rfl,rfl⟩
 | i::ids,s=>aCm ids (s.kill i)
def auH(q:Bool)(ids:List Nat)(s:S):(GJ q ids s).gs=s.gs/\(GJ q ids s).n=s.n/\(GJ q ids s).pins=s.pins:=by
 cases q with
 | false=>exact⟨rfl,rfl,rfl⟩
 | true=>
  obtain⟨h1,h2,h3,_⟩:=XQ ids s;exact⟨h1,h2,h3⟩
def at4{h:Sh}{x:LT h}{v:Value}{os:List (Value×Nat)}(ht:ow h=Y)(hr:Rel P w M e h x v os):(BL E H b h x).2.2=b+os.length:=by
 by_cases hh:Ip h=Y
 .exact aFS h H b x v os hh hr
 .cases h<;>first|(exact absurd ht hh;done)|skip
  case agg l=>
   obtain⟨us,rfl,h1⟩:=hr;have un:BL E H b (.agg l) x=(match Aj E H b l x with|(cs,H,b)=>(AV.agg cs,H,b)):=rfl;have:=YQ (E:=E) l H b x us os ht h1;rw[un];generalize Aj E H b l x=r at *;exact this
  case arr k=>
   obtain⟨rfl,h1⟩:=hr;rfl
def aCh:∀ {l:List Sh} {H:Hp} {b:Nat} {x:LTs l} {us:List Value} {os:List (Value×Nat)},K5 l=Y->Cl P w M e l x us os->(Aj E H b l x).2.2=b+os.length
 | [],H,b,x,us,os,_,hr=>by obtain⟨_,rfl⟩:=hr;rfl
 | h::l,H,b,x,us,os,hl,hr=>by
  obtain⟨u,us',o1,o2,rfl,rfl,h1,h2⟩:=hr;simp only[K5,AE]at hl;have un:Aj E H b (h::l) x=(match BL E H b h x.1 with|(c,H,b)=>match Aj E H b l x.2 with|(cs,H,b)=>(c::cs,H,b)):=rfl;have k:=at4 (E:=E) (H:=H) (b:=b) hl.1 h1;rw[un];generalize BL E H b h x.1=r at *;obtain⟨c,H',b'⟩:=r;have k:b'=b+o1.length:=k;subst k;have k2:=aCh (H:=H') (b:=b+o1.length) hl.2 h2;simp only;generalize Aj E H' (b+o1.length) l x.2=r at *;obtain⟨cs,H'',b''⟩:=r;have k2:b''=_:=k2;simp[k2,D8]
def auE{O:Nat->Prop}(hg:Nb B.P B.w0 B.O)(hs:Hs B β H w)(hO:∀b,O b->MB β b):Nb B.P w O:=by
 obtain⟨w0,h1,h2⟩:=hg;refine⟨w0,h1,λb hb=> ?_⟩;obtain⟨h3,h4,h5⟩:=h2 b hb;exact⟨λh=>(hs.old b<|hO b h).1.elim h3 J,Gl h4 hs.size,(hs.block b h4 h3).trans h5⟩
def axm{m:DZ}{f:FuncId}(hS:H7 B.P f m)(hk:okQ B.P m=Y){d:Option Nat}{as:List Operand}{o:Oper}{ts:Array TypeId}{K:Act->World->Prop}{Q:Exit->Act->World->Prop}
  (hst:St B β stk s a w)(hfr:∀j,b<=j->j<b+16->s.H j=G)(hd:s.has d=Y)(he:Hb m s b d (as.map s.ev) I=I s')(hod:o.dst=d)(ho:o.op= .call { callee:= .value<|.func f,args:=as.toArray,argTypes:=ts })
  (hK:K9 B stk a d s' K):o.wp B.P a w K Q:=by
 simp only[okQ,AE,DB,KD]at hk;obtain⟨⟨hps,hrs⟩,hsm⟩:=hk;unfold Hb at he;simp only at he;split at he
 case h_2=>cases he
 rename_i x hx hnd;obtain⟨r,hr,he⟩:=Ag.1 he;simp only[AE]at hnd;have PY:=Xk hnd.1;generalize hcs:as.map s.ev=cs at *;generalize IN:as.map a.eval=args;have hlen:args.length=cs.length:=by rw[← hcs,← IN];simp
 have hrx:∀(i:Nat) (c:AV) (v:Value),cs[i]? =I c->args[i]? =I v->RX w β (Bb a) c v:=λi c v h1 h2=>by
  rw[← hcs,DA]at h1;rw[← IN,DA]at h2;obtain⟨y,hy,rfl⟩:=D9.1 h1;rw[hy]at h2;cases h2;exact hst.eval y
 have hpl:=XF hx;have rl:RL (R1 w β) cs args:=⟨hlen,λj c u h1 h2=>(hrx j c u h1 h2).Mf (hpl c<|Cp h1).1 (hpl c<|Cp h1).2⟩;generalize hE:(fun(i:Nat)=>(cs[i]?).getD AV.un)=E at *;have aD4:∀ {t:Nat} {c:AV},cs[t]? =I c->E t=c:=λh=>by rw[← hE];simp[h]
 generalize hI:Bo s.H m.ps cs=ids at *;generalize hro:Ce s.H m.ps cs=ro at *;generalize hfz:Cv s.H m.ps cs=fz at *;have azS:ro.Sublist ids:=by rw[← hro,← hI];exact YH _ _
 have bZ:∀i∈ro,QW s.H i:=by rw[← hro];exact Xt _ _ _ hx
 have bg:∀i∈fz,QW s.H i:=by rw[← hfz];exact Xg _ _ _ hx
 obtain⟨bc,bv,hFb,hba,aby,pN⟩:=aDZ (E:=E) hst.hs m.ps cs args x hps rl hx;rw[hI]at hba aby pN;rw[hro]at pN
 let Zc:Nat->Prop:=λbl=>MZ β bl/\bl ∉ Az (ids.filterMap β)/\bl ∉ Az (fz.filterMap β)
 have R:Nq B β s.H w (λbl=>bl∈Az (ids.filterMap β)\/Zc bl) E (ar args):={
  hs:=hst.hs
  hM:=λbl h=>h.elim (λh=> .inl<|Te h) (λh=>h.1)
  hE:=λt id z hEt=>by
   cases hc:cs[t]? with
   | none=>rw[← hE]at hEt;simp[hc]at hEt
   | some c=>
    have hlt:t<args.length:=by rw[hlen];exact(BR.1 hc).1
    rw[aD4 hc];exact rl.2 t c _ hc (by simp[ar,hlt]) }
 have amr:RG β (λbl=>bl∈Az (ids.filterMap β)\/Zc bl) fz:=λi hi p a' hp ha hm=>by
  obtain hm|hm:=hm
  .exact nE hst.hs hnd.2 i hi p a' hp ha (.inl hm)
  .exact hm.2.2<|GO.2 ⟨p,GO.2 ⟨i,hi,hp⟩,by simp[HC,ha]⟩
 obtain⟨os,IT,G3⟩:=Xj R m.ps cs args x rl hx (by rw[hfz];exact amr);rw[hI]at G3;have q8:(λbl=>bl∈Az (ids.filterMap β)\/Zc bl)=λbl=>bl∈Az os\/Zc bl:=by rw[G3]
 rw[q8]at IT;have bJ:∀bl∈Az os,MB β bl:=λbl h=>by rw[G3]at h;exact Te h
 have RY:=hS.2 x r hr w Zc args os IT (by rw[G3];exact Xw hst.hs PY)
  (λbl h=>⟨(hst.hs.old bl<|bJ bl h).2,λhz=>hz.2.1 (by rw[← G3];exact h)⟩) (λbl h=>by
   obtain h1|h1:=h.1
   .exact(hst.hs.old bl h1).2
   .exact hst.hs.zl bl h1)
  (auE B.gl hst.hs λbl h=>bJ bl h)
 rw[← IN]at RY;refine aDo hS.1 ho RY ?_;rw[IN];rintro en w' ⟨v,rfl,IS⟩;refine⟨v,rfl, ?_⟩;rw[hod];obtain⟨vs,os1,os2,rfl,hr1,hr2,azW,hbl⟩:=IS.ex;obtain⟨β1,h1,hβ1,hZ1⟩:=St.abu (a:=a) (w:=w) (stk:=stk) ro (PY.sublist azS) hst;obtain⟨β2,h2,hβ2,hZ2⟩:=h1.azX (CV m.rs||CV (B2 m.ps)) fz;have Gr:=auH (CV m.rs||CV (B2 m.ps)) fz<|ro.foldl S.kill s;have pL:=aCm ro s;have aGZ:∀ {id:Nat} {t:TypeId} {cs0:List AV},s.H id=I (.box t cs0)->∃cs1,(GJ (CV m.rs||CV (B2 m.ps)) fz<|ro.foldl S.kill s).H id=I (.box t cs1):=fun {id t cs0} hid=>by
  obtain⟨cs1,h⟩:=aE1 ro s (λhm=>bZ id hm t cs0 hid) hid;exact av7 _ fz _ (λhm=>bg id hm.2 t cs0 hid) h
 have azV:∀j,s.H j=G->(GJ (CV m.rs||CV (B2 m.ps)) fz<|ro.foldl S.kill s).H j=G:=λj hj=>
  (aDQ (N:=λ_=>False) (CV m.rs||CV (B2 m.ps)) fz<|BI.pR ro<|BI.refl _ s).nn j (λh=>h) hj
 generalize hq:(CV m.rs||CV (B2 m.ps))=q at *;generalize hs2:GJ q fz (ro.foldl S.kill s)=s2 at *;have bX:∀j p,β2 j=I p->β j=I p/\j ∉ ro/\ ¬(q=Y/\j∈fz):=λj p h=>by
  rw[hβ2]at h;split at h
  .cases h
  .rename_i hn;rw[hβ1]at h;split at h
   .cases h
   .rename_i hn';exact⟨h,hn',hn⟩
 have aD2:∀bl,β2.Z bl↔β.Z bl\/ ∃i∈ro,∃p a,β i=I p/\adr p.1=I a/\a.block=bl:=λbl=>by rw[hZ2];exact hZ1 bl
 generalize hbc:Fq m.ps cs=bcT at *;generalize hbv:Jw m.ps args=bvT at *;have hM2:∃M2:Nat->Prop,Cl B.P w' M2 (ar args) m.rs r.1 vs os1/\Cl B.P w' M2 (ar args) (B2 m.ps) r.2 bvT os2/\(q=A0->∀bl,M2 bl)/\(q=Y->∀bl,(bl∈Az (os1++os2)\/Zc bl)->M2 bl):=by
  cases q with
  | false=>
   simp only[NJ]at hq;exact⟨λ_=>True,Cl.anyM _ _ _ _ hq.1 hr1,Cl.anyM _ _ _ _ hq.2 hr2,λ_ _=>trivial,λh=>by cases h⟩
  | true=>exact⟨_,hr1,hr2,(by intro h;cases h),λ_ bl h=>h⟩
 obtain⟨M2,acF,aly,hMf,hMt⟩:=hM2;generalize hg:BT E s2.H b (B2 m.ps) bcT r.2=g at *;obtain⟨ds,H1,b1⟩:=g;simp only at he;generalize hmk:Aj E H1 b1 m.rs r.1=g at *;obtain⟨rc,Hf,b2⟩:=g;simp only at he;split at he
 case h_2=>cases he
 rename_i hb2;have hb2:=DL hb2;cases he;have PX:b1<=b2:=by have:=JG E m.rs H1 b1 r.1;rw[hmk]at this;exact this
 have hgb:(BT E s2.H b (B2 m.ps) bcT r.2).2.2<=b+16:=by rw[hg];exact C6 PX hb2
 have hdK:∀i∈ET bc,i ∉ ro/\i ∉ fz/\ ∃t cs0,s.H i=I (.box t cs0):=λi hi=>by
  obtain⟨z,hz⟩:=aa4 hi;obtain⟨j,hj⟩:=aDM hz;obtain⟨v,_,id,z',bb,k1,_,⟨t,cs0,k3⟩,_,_⟩:=hba.get hj;cases k1;exact⟨λh=>bZ i h _ _ k3,λh=>bg i h _ _ k3,t,cs0,k3⟩
 have an3:Fb B.P w' s2.H (B2 m.ps) bcT bvT bc bv:=hFb.carry IS.pk λi hi t cs0 h0=>by
  obtain⟨k1,k2,_⟩:=hdK i hi;obtain⟨cs1,h3,h4⟩:=aF9 ro s k1 h0;obtain⟨cs2,h5,h6⟩:=awU q fz (ro.foldl S.kill s) (λhm=>k2 hm.2) h3;rw[hs2]at h5;refine⟨cs2,h5,λid2 z2 c1 e hm=> ?_⟩;obtain⟨c2,e2⟩:=h4 id2 z2 c1 e (hdK id2 hm).1;exact h6 id2 z2 c2 e2 λhm'=>(hdK id2 hm).2.1 hm'.2
 obtain⟨nw,azg,hb1,hgi⟩:=lC (E:=E) (P:=B.P) (w:=w') (M:=M2) (e:=ar args) (B2 m.ps) s2.H b r.2 bcT bc bvT bv os2 (b+16) an3 (PY.sublist aby)
  (λi hi hh=>by
   obtain⟨_,_,t,cs0,k3⟩:=hdK i hi;rw[hfr i hh.1 hh.2]at k3;cases k3) aly hgb
 rw[hg]at hb1 hgi;simp only at hb1 hgi
 let os':=nw++os1
 let β3:Beta:=⟨λj=>if b<=j/\j<b+os'.length then os'[j - b]? else β2 j,B.Z⟩
 have Uk:∀j p,β3 j=I p->(b<=j/\j<b+os'.length/\os'[j - b]? =I p)\/(¬(b<=j/\j<b+os'.length)/\β2 j=I p):=λj p h=>by
  have h:(if b<=j/\j<b+os'.length then os'[j - b]? else β2 j)=I p:=h;split at h
  .rename_i hh;exact .inl ⟨hh.1,hh.2,h⟩
  .rename_i hh;exact .inr ⟨hh,h⟩
 have Rj:Num β3 b os':=λi p hp=>by
  have hlt:=(BR.1 hp).1;show(if b<=b+i/\b+i<b+os'.length then os'[b+i - b]? else β2 (b+i))=I p;rw[A5 ⟨J,J⟩,show b+i - b=i by omega];exact hp
 have bB:(Az os2).Perm (Az nw++Az (bv.map λv=>(v,1))):=by
  have:=azg.filterMap HC;rwa[MM]at this
 have Uj:∀bl,bl∈Az os'->bl∈Az (os1++os2):=λbl h=>by
  simp only[os',Az,MM,BN]at h ⊢;obtain h|h:=h
  .exact .inr (bB.mem_iff.2<|Bz _ h)
  .exact .inl h
 have ba:(Az os'++Az (bv.map λv=>(v,1))).Nodup:=by
  have h1:(Az<|os1++os2).Perm (Az os'++Az (bv.map λv=>(v,1))):=by
   simp only[os',Az,MM]at bB ⊢;refine(Zj _ bB).trans ?_;rw[← C7];exact List.Perm.append_right _ List.perm_append_comm
  exact h1.nodup_iff.1 azW
 have azk:(Az os').Nodup:=(Jb.1 ba).1;have pd:∀i,i∈ids->i ∉ ro->∃v,(v,1)∈bv.map (λv=>(v,1))/\β i=I (v,1)/\(∃z,AV.ptr i z 0 0∈bc):=λi hi hn=>by
  obtain h|⟨z,h⟩:=pN i hi
  .exact absurd h hn
  .obtain⟨j,hj⟩:=aDM h;obtain⟨v,hv,id,z',bb,k1,k2,k3,k4,k5⟩:=hba.get hj;cases k1;exact⟨v,C0.2 ⟨v,Cp hv,rfl⟩,k4,z,h⟩
 have pZ:∀j p a',β2 j=I p->adr p.1=I a'->a'.block∈Az os->j∈ids/\j ∉ ro:=λj p a' hj ha hm=>by
  obtain⟨h0,h1,_⟩:=bX j p hj;rw[G3]at hm;obtain⟨i,hi,p',a2,hp',ha',e'⟩:=N7 hm;have:=hst.hs.inj j i p p' a' a2 h0 hp' ha ha' e'.symm;subst this;exact⟨hi,h1⟩
 have abv:∀bl,bl∈Az os->MZ β2 bl:=λbl hm=>by
  have hm':=hm;rw[G3]at hm;obtain⟨i,hi,p,a',hp,ha,e'⟩:=N7 hm;by_cases hr:i∈ro
  .exact .inr ((aD2 bl).2<|.inr ⟨i,hr,p,a',hp,ha,e'⟩)
  .refine .inl ⟨i,p.1,p.2,a', ?_,ha,e'⟩;have hnf:i ∉ fz:=λhf=>aFN hnd.2 i hf hi;rw[hβ2,A9 λh=>hnf h.2,hβ1,A9 hr];exact hp
 have pS:∀bl,MB β3 bl->MB β2 bl\/bl∈Az os':=λbl hm=>by
  obtain⟨j,hd',n,a',hj,ha,e'⟩:=hm;obtain⟨_,_,hj⟩|⟨_,hj⟩:=Uk j _ hj
  .exact .inr (GO.2 ⟨_,Cp hj,by simp[HC,ha,e']⟩)
  .exact .inl ⟨j,hd',n,a',hj,ha,e'⟩
 have Ct:∀bl o v,¬MZ β2 bl->w.cell? ⟨bl,o,G⟩=I v->w'.cell? ⟨bl,o,G⟩=I v:=λbl o v hn hc=>by
  have hlt:=block_lt_of_cell hc;rw[UB (w:=w) (w':=w')<|IS.block bl hlt λhm=>hn<|abv bl hm];exact hc
 have an2:∀bl,¬MZ β2 bl->bl<w.heap.size->¬MZ β3 bl:=λbl hn hlt hm=>by
  obtain hm|hm:=hm
  .rcases pS bl hm with h|h
   .exact hn (.inl h)
   .rcases(hbl bl<|Uj bl h).1 with h3|h3
    .exact hn (abv bl h3)
    .omega
  .exact hn<|.inr<|(aD2 bl).2<|.inl (by rw[hst.hs.z];exact hm)
 have bW:∀j p,β2 j=I p->β3 j=I p:=λj p hj=>by
  have hne:¬(b<=j/\j<b+os'.length):=λhh=>by
   have azn:os'.length=nw.length+os1.length:=by simp[os']
   have h3:=(hgi:_);obtain⟨ob,hob⟩:=h2.hs.dom j p hj;have:=azV j (hfr j hh.1 (by
    have:b2=b1+os1.length:=by
     have:=aCh hrs acF (E:=E) (H:=H1) (b:=b1);rw[hmk]at this;exact this
    omega))
   rw[this]at hob;cases hob
  show(if b<=j/\j<b+os'.length then os'[j - b]? else β2 j)=I p;rw[A9 hne];exact hj
 have hkp:Kp w β2 w' β3:=λc v hc=>hc.mono bW Ct an2;have hM3:∀bl,MZ β3 bl->M2 bl:=λbl hm=>by
  cases q with
  | false=>exact hMf rfl bl
  | true=>
   refine hMt rfl bl ?_;obtain hm|hm:=hm
   .rcases pS bl hm with h|h
    .obtain⟨j,hd',n,a',hj,ha,e'⟩:=h;obtain⟨k1,k2,k3⟩:=bX j _ hj;by_cases hji:j∈ids
     .obtain⟨v,hv1,hv2,_⟩:=pd j hji k2;rw[k1]at hv2;cases hv2;refine .inl ?_;simp only[Az,MM,BN];refine .inr (bB.mem_iff.2<|CW _<|GO.2 ⟨_,hv1,by simp[HC,ha,e']⟩)
     .refine .inr ⟨.inl ⟨j,hd',n,a',k1,ha,e'⟩,λhb=> ?_,λhb=> ?_⟩
      .rw[← G3,← e']at hb;exact hji (pZ j _ a' hj ha hb).1
      .obtain⟨i,hi,p,a2,hp,ha2,e2⟩:=N7 hb;have:=hst.hs.inj j i _ p a' a2 k1 hp ha ha2<|e'.trans e2.symm;subst this;exact k3 ⟨rfl,hi⟩
    .exact .inl (Uj bl h)
   .have hz:β.Z bl:=by rw[hst.hs.z];exact hm
    refine .inr ⟨.inr hz,λhb=> ?_,λhb=> ?_⟩
    .obtain⟨i,hi,p,a2,hp,ha2,e2⟩:=N7 hb;exact hst.hs.zn i p a2 hp ha2 (e2▸hz)
    .obtain⟨i,hi,p,a2,hp,ha2,e2⟩:=N7 hb;exact hst.hs.zn i p a2 hp ha2<|e2▸hz
 obtain⟨g1,g2,g3,g4⟩:=hgi β3 hM3 Rj.left (λi c v k1 k2 id z hc=>by
  obtain⟨id',z',bb,j1,j2,j3,j4,j5⟩:=hba.2 i c v k1 k2;rw[hc]at j1;cases j1;refine bW id _ ?_;have hnr:id ∉ ro:=λh=>bZ id h _ _ j3.choose_spec.choose_spec;have hnf:id ∉ fz:=λh=>bg id h _ _ j3.choose_spec.choose_spec;rw[hβ2,A9 λh=>hnf h.2,hβ1,A9 hnr];exact j4)
 have azd:UF w' β3 E (ar args) (Il m.rs):=λt ht=>by
  obtain⟨p,hp1,hp2⟩:=hsm t ht;obtain rfl:=Br hp2;obtain⟨_,e1,l1,hp3⟩:=aFL m.ps 0 p hp1;rw[Je]at hp3;obtain⟨c,y,hc,hy⟩:=aFE hx hp3;have hlt:p<args.length:=by rw[hlen];exact(BR.1 hc).1
  have hR:=rl.2 p c (ar args p) hc (by simp[ar,hlt]);rw[aD4 hc];cases c<;>first|(cases hy;done)|skip
  rename_i id z i' o';cases i'<;>cases o'<;>simp only[Bs]at hy<;>first|(cases hy;done)|skip
  split at hy
  case h_2=>cases hy
  rename_i t' cs' hid;have hnr:id ∉ ro:=λh=>bZ id h _ _ hid;have hnf:id ∉ fz:=λh=>bg id h _ _ hid;have hR:=hR.Rg;generalize ar args p=v at hR;cases hR with
  | ptr k1 k2 k3=>exact .Me<|.ptr (bW id _ (by rw[hβ2,A9 λh=>hnf h.2,hβ1,A9 hnr];exact k1)) k2 k3
 obtain⟨f1,f2,f3⟩:=Yr (β:=β3) (E:=E) (M:=M2) (P:=B.P) (w:=w') (e:=ar args) hM3 m.rs H1 b1 r.1 vs os1 hrs acF (by rw[hb1];exact Rj.right) azd;rw[hmk]at f1 f2 f3;simp only at f1 f2 f3;have azn:os'.length=nw.length+os1.length:=by simp[os']
 have aCv:∀j,(∃ob,Hf j=I ob/\E6 B.P w' β3 j ob)\/(Hf j=s2.H j/\ ∀z,AV.ptr j z 0 0 ∉ bc):=λj=>by
  by_cases hj:b1<=j/\j<b1+os1.length
  .exact .inl (f3.2 j hj.1 hj.2)
  .have e1:Hf j=H1 j:=f3.1 j J;obtain h|⟨ob,h,h'⟩:=g1 j
   .by_cases hm:∃z,AV.ptr j z 0 0∈bc
    .obtain⟨z,hm⟩:=hm;obtain⟨ob,h3,h4⟩:=g3 j z hm;exact .inl ⟨ob,by rw[e1];exact h3,h4⟩
    .exact .inr ⟨e1.trans h,λz hz=>hm ⟨z,hz⟩⟩
   .exact .inl ⟨ob,by rw[e1];exact h,h'⟩
 have hHf:Hs B β3 Hf w':={
  EJ:=λj ob hj=>by
   obtain⟨ob',h3,h4⟩|⟨h3,h4⟩:=aCv j
   .rw[h3]at hj;cases hj;exact h4
   .rw[h3]at hj;have hob:=h2.hs.EJ j ob hj;have hex:∃p,β2 j=I p:=by
     cases ob with
     | box e cs=>obtain⟨_,_,h,_⟩:=hob;exact⟨_,h⟩
     | row e fz k xs=>obtain⟨_,h,_⟩:=hob;exact⟨_,h⟩
     | arr e k xs=>obtain⟨_,_,h,_⟩:=hob;exact⟨_,h⟩
    obtain⟨p,hp⟩:=hex;refine hob.mono (by rw[bW j p hp,hp]) hkp λp' a' hp' ha'=> ?_;rw[hp]at hp';cases hp';have hlt:=(h2.hs.old a'.block ⟨j,p.1,p.2,a',hp,ha',rfl⟩).2;refine IS.block a'.block hlt λhm=> ?_;obtain⟨h5,h6⟩:=pZ j p a' hp ha' hm;obtain⟨_,_,_,z,hz⟩:=pd j h5 h6;exact h4 z hz
  dom:=λj p hj=>by
   obtain⟨ob',h3,_⟩|⟨h3,_⟩:=aCv j
   .exact⟨ob',h3⟩
   .rcases Uk j p hj with⟨k1,k2,k3⟩|⟨_,hj⟩
    .by_cases hjb:j<b+nw.length
     .obtain⟨ob,k4,_⟩:=g2 j k1 hjb;have:Hf j=H1 j:=f3.1 j J;exact⟨ob,by rw[this];exact k4⟩
     .obtain⟨ob,k4,_⟩:=f3.2 j J J;exact⟨ob,k4⟩
    .obtain⟨ob,k4⟩:=h2.hs.dom j p hj;exact⟨ob,by rw[h3];exact k4⟩
  inj:=λi j p p' a1 a2 hi hj ha1 ha2 hb=>by
   have Ug:∀(i j:Nat) (p p':Value×Nat) (a1 a2:Addr),β2 i=I p->os'[j - b]? =I p'->adr p.1=I a1->adr p'.1=I a2->a1.block=a2.block->False:=by
    intro i j p p' a1 a2 hi hj ha1 ha2 hb;have hm2:a2.block∈Az os':=GO.2 ⟨p',Cp hj,by simp[HC,ha2]⟩;rcases(hbl a2.block<|Uj _ hm2).1 with h3|h3
    .rw[← hb]at h3;obtain⟨h5,h6⟩:=pZ i p a1 hi ha1 h3;obtain⟨v,hv1,hv2,_⟩:=pd i h5 h6;rw[(bX i p hi).1]at hv2;cases hv2;have hm1:a1.block∈Az (bv.map λv=>(v,1)):=GO.2 ⟨_,hv1,by simp[HC,ha1]⟩;exact(Jb.1 ba).2.2 _ hm2 _ hm1 hb.symm
    .have:=(h2.hs.old a1.block ⟨i,p.1,p.2,a1,hi,ha1,rfl⟩).2;omega
   obtain⟨i1,i2,i3⟩|⟨_,i3⟩:=Uk i p hi<;>obtain⟨j1,j2,j3⟩|⟨_,j3⟩:=Uk j p' hj
   .have:=Yp azk (i - b) (j - b) p p' a1 a2 i3 j3 ha1 ha2 hb;omega
   .exact(Ug j i p' p a2 a1 j3 i3 ha2 ha1 hb.symm).elim
   .exact(Ug i j p p' a1 a2 i3 j3 ha1 ha2 hb).elim
   .exact h2.hs.inj i j p p' a1 a2 i3 j3 ha1 ha2 hb
  old:=λbl hm=>by
   obtain h|h:=pS bl hm
   .exact⟨(h2.hs.old bl h).1,Gl (h2.hs.old bl h).2 IS.size⟩
   .have h3:=hbl bl<|Uj bl h;refine⟨?_,h3.2⟩;obtain h4|h4:=h3.1
    .exact(hst.hs.old bl<|bJ bl h4).1
    .exact .inr (C6 hst.hs.size h4)
  os:=IS.wos.trans hst.hs.os
  tape:=IS.tape.trans hst.hs.tape
  output:=IS.output.trans hst.hs.output
  size:=C6 hst.hs.size IS.size
  block:=λbl hlt hO=>by
   rw[IS.block bl (Gl hlt hst.hs.size) λhm=> ?_]
   .exact hst.hs.block bl hlt hO
   .rcases(hst.hs.old bl<|bJ bl hm).1 with h|h
    .exact hO h
    .omega
  z:=rfl
  zn:=λj p a' hj ha hz=>by
   obtain⟨_,_,j3⟩|⟨_,j3⟩:=Uk j p hj
   .have hm2:a'.block∈Az os':=GO.2 ⟨p,Cp j3,by simp[HC,ha]⟩;rcases(hbl a'.block<|Uj _ hm2).1 with h3|h3
    .rw[G3]at h3;obtain⟨i,hi,p2,a2,hp2,ha2,e2⟩:=N7 h3;exact hst.hs.zn i p2 a2 hp2 ha2 (by rw[e2,hst.hs.z];exact hz)
    .have:=hst.hs.zl a'.block (by rw[hst.hs.z];exact hz);omega
   .exact hst.hs.zn j p a' (bX j p j3).1 ha (by rw[hst.hs.z];exact hz)
  zl:=λbl hz=>Gl (hst.hs.zl bl (by rw[hst.hs.z];exact hz)) IS.size
  pk:=hst.hs.pk.trans IS.pk }
 have px:St B β3 stk { s2 with H:=Hf } a w':=by
  refine⟨λt=>RT.mono hkp<|h2.T t,⟨h2.stack.1,λi T tm k1 k2 t=>RT.mono hkp<|h2.stack.2 i T tm k1 k2 t⟩,h2.n,h2.defers,h2.pins,h2.gs,hHf⟩
 have EZ:({ s2 with H:=Hf } :S).has d=Y:=by
  have:({ s2 with H:=Hf } :S).has d=s.has d:=Qe (Gr.1.trans pL.1) (Gr.2.1.trans pL.2.1) (Gr.2.2.trans pL.2.2) d;rw[this];exact hd
 exact hK β3 (MX vs) w'<|Qb px EZ<|aat f1
end
end Go.VS
namespace Go.VS
open Go
section
variable {B:Be} {β β':Beta} {H:Hp} {w w':World} {stk:List (Array Value)} {s s':S} {a:Act} {P:Program} {C:Cx}
def lY(hΓ:∀f d m,C.Γ f d=I m->H7 P f m/\okQ P m=Y)(B:Be)(hB:B.P=P):HW C B:=by
 intro f d m hm β stk s a w b as s' o ts K Q hst hfr hd he hod ho hK;obtain⟨h1,h2⟩:=hΓ f d m hm;rw[← hB]at h1 h2;exact axm h1 h2 hst hfr hd he hod ho hK
def aFK{c:AV}(h:plB c=Y):(∀g w v,c≠ .gd g w v)/\ ∀vs,c≠ .tup vs:=by
 constructor
 .rintro g w v rfl;cases h
 .rintro vs rfl;cases h
def aaK(hP:C.P=B.P)(hm:B.P.follows .mixedOrders=Y)(hC:HW C B):∀n,JN C B<|Nd C n
 | 0=>aFR C B
 | n+1=>by
  intro Ω f d as s k q he β stk a w o args ts K Q hst hfr hd hod has ho hK;have ih:=aaK hP hm hC n;unfold Nd at he;simp only at he;split at he
  .cases he
  rename_i fn hfn;split at he
  case h_2=>cases he
  rename_i body ac0 KQ;split at he
  case h_2=>cases he
  rename_i abz;simp only[AE]at abz;obtain⟨⟨hc1,hc2⟩,hc3⟩:=abz;have hpl:∀c∈as,(∀g w v,c≠ .gd g w v)/\ ∀vs,c≠ .tup vs:=λc hc=>aFK<|DB.1 hc3 c hc;have hlen:as.length<=fn.ntmps:=DL hc2;rw[hP]at hfn;refine aDo (ON hfn (by simpa using KQ) ac0) ho (R:=λen w'=>∃v,en= .returned v/\K (a.put o.dst v) w') ?_ (λen w' h=>h);refine calls_of_wp hfn ac0 ?_;have IN:(args.map a.eval).length=as.length:=by rw[has];simp
  have als:St B β (a.tmps::stk) { s with n:=fn.ntmps,T:=λt=>(as[t]?).getD Dp,st:=s.T::s.st,pins:=[],gs:=λ_=>A0 }
    { tmps:=(args.map a.eval).toArray++Qj (fn.ntmps - (args.map a.eval).toArray.size) undef,defers:=[] } w:=by
   refine⟨λt=> ?_,⟨by simp[hst.stack.1],λi T tm h1 h2 t=> ?_⟩, ?_,rfl,λt ht=>by simp at ht,λt g want y hy=> ?_,hst.hs⟩
   .rw[Sm];show RT w β _ ((as[t]?).getD Dp) _;cases hv:as[t]? with
    | none=>
     have:(args.map a.eval).length<=t:=by rw[IN];exact Zh.1 hv
     have e0:ar (args.map a.eval) t=undef:=by simp only[ar,BG,Hm this];rfl
     rw[e0];exact(show R2 w β Dp undef from rfl)
    | some c=>
     have hv':=hv;rw[has,DA]at hv';obtain⟨x,hx,rfl⟩:=D9.1 hv';have e0:ar (args.map a.eval) t=a.eval x:=by simp[ar,hx]
     rw[e0];have hp:=hpl _<|Cp hv;exact((hst.eval x).Mf hp.1 hp.2).bQ
   .cases i with
    | zero=>
     simp at h1 h2;subst h1;subst h2;exact hst.T t
    | succ i=>exact hst.stack.2 i T tm (by simpa using h1) (by simpa using h2) t
   .simp only[Qz,LG,nC];omega
   .have hy:(as[t]?).getD Dp= .gd g want y:=hy;cases hv:as[t]? with
    | none=>rw[hv]at hy;cases hy
    | some c=>
     rw[hv]at hy;exact absurd hy<|(hpl c<|Cp hv).1 _ _ _
  have key:∀β' a' w' s',St B β' (a.tmps::stk) s' a' w'->Fr s'->(match s'.st,QR C.P s' fn.results.toList with
     | T::st,I vs=>match vs.all plB with
      | true=>k ({ s' with n:=s.n,T:=λt=>PK<|T t,st:=st,pins:=s.pins,gs:=λ_=>A0 }.put d<|MG vs)
      | false=>G
     | _,_=>G)=I q->a'.defers=[]/\ ∃v,(results fn a'.tmps).run B.P w'= .ok v w'/\ ∃v',Ending.returned v= .returned v'/\K (a.put o.dst v') w':=by
   intro β' a' w' s' h1 h2 h3;refine⟨h1.defers, ?_⟩;split at h3
   case h_2=>cases h3
   rename_i T st vs Mg hvs;split at h3
   case h_2=>cases h3
   rename_i Ht;obtain⟨us,k1,k2,k3⟩:=YY hP h1 fn.results.toList hvs;rw[hP]at k1;refine⟨MX us,aCH k1,MX us,rfl, ?_⟩;rw[hod];have rl:RL (R1 w' β') vs us:=⟨k2,λj c u e1 e2=>by
    have hp:=aFK<|DB.1 Ht c<|Cp e1;exact(k3 j c u e1 e2).Mf hp.1 hp.2⟩
   have Ri:=h1.stack;rw[Mg]at Ri;have hTt:∀t,RT w' β' (Bb a) (T t) (Bb a t):=λt=>Ri.2 0 T a.tmps rfl rfl t;have amR:St B β' stk { s' with n:=s.n,T:=λt=>PK<|T t,st:=st,pins:=s.pins,gs:=λ_=>A0 } a w':=by
    refine⟨λt=> ?_,⟨by simpa using Ri.1,λi T' tm e1 e2 t=>Ri.2 (i+1) T' tm (by simpa using e1) (by simpa using e2) t⟩,hst.n,hst.defers,hst.pins,λt g want y hy=> ?_,h1.hs⟩
    .have:=hTt t;show RT w' β' _ (PK<|T t) _;cases hT:T t<;>rw[hT]at this<;>first|exact this|trivial
    .have hy:PK (T t)= .gd g want y:=hy;unfold PK at hy;split at hy
     .cases hy
     .rename_i hn;exact absurd hy<|hn _ _ _
   have EZ:({ s' with n:=s.n,T:=λt=>PK<|T t,st:=st,pins:=s.pins,gs:=λ_=>A0 } :S).has d=Y:=by
    cases d with
    | none=>rfl
    | some d=>
     simp only[S.has,AE,CM]at hd ⊢;exact⟨hd.1,trivial⟩
   refine hK β' (MX us) w' _ (Qb amR EZ<|aat rl) (λj hj=> ?_) ?_ ?_ h3
   .have hj:s'.nid<=j:=by cases d<;>exact hj
    have:=h2 j hj;cases d<;>exact this
   .cases d<;>rfl
   .cases d<;>rfl
  refine Xx hP hm hC ih body .nil _ _ q he als hfr (G7 _ body) ⟨?_, ?_, ?_⟩
  .exact λβ' a' w' s' h1 h2 _ _ h5=>key β' a' w' s' h1 h2 h5
  .exact λβ' a' w' s' h1 h2 _ _ h5=>key β' a' w' s' h1 h2 h5
  .intro id β' a' w' s' h1 h2 h3 h4 h5;cases h5
end
def Bl{A R:Type}(t:(A->Option R)->A->Option R):Nat->A->Option R
 | 0=>λ_=>G
 | n+1=>t (Bl t n)
open Classical in
def Nj {A R:Type} (t:(A->Option R)->A->Option R) (x:A):Option R:=
 if h:∃n r,Bl t n x=I r then I (NK<|J3 h) else G
def aDm{A R:Type}{t:(A->Option R)->A->Option R}{x:A}{r:R}(h:Nj t x=I r):∃n,Bl t n x=I r:=by
 unfold Nj at h;split at h
 .rename_i hn;have:=J3<|J3 hn;cases h;exact⟨_,this⟩
 .cases h
def atT{P:Program}{f:FuncId}{ps rs:List Sh}{t:(LTs ps->Option (LTs rs×LTs (B2 ps)))->LTs ps->Option (LTs rs×LTs (B2 ps))}(he:MA P f)
  (h:∀g,H7 P f ⟨ps,rs,g⟩->H7 P f ⟨ps,rs,t g⟩):H7 P f ⟨ps,rs,Nj t⟩:=by
 have hn:∀n,H7 P f ⟨ps,rs,Bl t n⟩:=by
  intro n
  induction n with
  | zero=>exact⟨he,λx r hx=>by cases hx⟩
  | succ n ih=>exact h _ ih
 refine⟨he,λx r hx=> ?_⟩;obtain⟨n,hx⟩:=aDm hx;intro w Z args os h1 h2 h3 h4 h5;exact MV ((hn n).2 x r hx w Z args os h1 h2 h3 h4 h5) λen w' ⟨v,e,hr⟩=>⟨v,e,⟨hr.ex,hr.wos,hr.tape,hr.output,hr.size,hr.block,hr.pk⟩⟩
end Go.VS
namespace Go.VS
open Go
def gam:List (Nat×Option Nat×DZ)->Nat->Option Nat->Option DZ
 | [],_,_=>G
 | (f,e,m)::l,g,d=>match Af f g&&(match e,d with
   | none,_=>Y
   | some a,I b=>Af a b
   | some _,G=>A0) with
  | true=>I m
  | false=>gam l g d
def RF(P:Program)(l:List (Nat×Option Nat×DZ)):Prop:=∀e∈l,H7 P e.1 e.2.2/\okQ P e.2.2=Y
def AI{P:Program}:RF P []:=λe h=>by cases h
def oG{P:Program}{l:List (Nat×Option Nat×DZ)}(h:RF P l):∀f d m,gam l f d=I m->H7 P f m/\okQ P m=Y:=by
 induction l with
 | nil=>intro f d m hm;cases hm
 | cons e l ih=>
  obtain⟨g,e,m'⟩:=e;intro f d m hm;unfold gam at hm;split at hm
  .rename_i hc;simp only[AE]at hc;cases hm;obtain rfl:=Br hc.1;exact h _ Ao
  .exact ih (λe he=>h e<|Ah _ he) f d m hm
def Fp:Code->Adv->List (Code×Loop)
 | .seq a b,.join _ u v=>Fp a u++Fp b v
 | .seq a b,.two u v=>Fp a u++Fp b v
 | .seq a _,.one u=>Fp a u
 | .cond _ x _,.one u=>Fp x u
 | .cond _ x y,.two u v=>Fp x u++Fp y v
 | .cond _ x y,.join _ u v=>Fp x u++Fp y v
 | .block _ c,.one u=>Fp c u
 | .block _ c,.two u _=>Fp c u
 | .block _ c,.join _ u _=>Fp c u
 | .loop c,.loop l=>[(c,l)]
 | _,_=>[]
def Ic{L:Code->Loop->Prop}:∀(c:Code) (v:Adv),(∀p∈Fp c v,L p.1 p.2)->Hh L c v
 | .seq a b,.join _ u v,h=>⟨Ic a u λp hp=>h p<|Bz _ hp,Ic b v λp hp=>h p<|CW _ hp⟩
 | .seq a b,.two u v,h=>⟨Ic a u λp hp=>h p<|Bz _ hp,Ic b v λp hp=>h p<|CW _ hp⟩
 | .seq a b,.one u,h=>⟨Ic a u h,G7 L b⟩
 | .seq a b,.nil,_=>⟨G7 L a,G7 L b⟩
 | .seq a b,.loop _,_=>⟨G7 L a,G7 L b⟩
 | .cond _ x y,.one u,h=>⟨Ic x u h,G7 L y⟩
 | .cond _ x y,.two u v,h=>⟨Ic x u λp hp=>h p<|Bz _ hp,Ic y v λp hp=>h p<|CW _ hp⟩
 | .cond _ x y,.join _ u v,h=>⟨Ic x u λp hp=>h p<|Bz _ hp,Ic y v λp hp=>h p<|CW _ hp⟩
 | .cond _ x y,.nil,_=>⟨G7 L x,G7 L y⟩
 | .cond _ x y,.loop _,_=>⟨G7 L x,G7 L y⟩
 | .block _ c,.one u,h=>Ic c u h
 | .block _ c,.two u _,h=>Ic c u h
 | .block _ c,.join _ u _,h=>Ic c u h
 | .block _ c,.nil,_=>G7 L c
 | .block _ c,.loop _,_=>G7 L c
 | .loop c,.loop l,h=>h (c,l) (by simp[Fp])
 | .loop _,.nil,_=>trivial
 | .loop _,.one _,_=>trivial
 | .loop _,.two _ _,_=>trivial
 | .loop _,.join _ _ _,_=>trivial
 | .skip,_,_=>trivial
 | .region _ _ _,_,_=>trivial
 | .exit _,_,_=>trivial
 | .ret,_,_=>trivial
 | .rangeFunc _ _ _ _,_,_=>trivial
 | .scope _,_,_=>trivial
 | .label _,_,_=>trivial
 | .goto _,_,_=>trivial
 | .refuse _,_,_=>trivial
def UX(L:Code->Loop->Prop)(l:List (Code×Loop)):Prop:=∀p∈l,L p.1 p.2
def aFp{L:Code->Loop->Prop}{c:Code}{v:Adv}{l:List (Code×Loop)}(h:Fp c v=l)(hl:UX L l):Hh L c v:=Ic c v (by rw[h];exact hl)
def ayk{L:Code->Loop->Prop}:UX L []:=λp h=>by cases h
def ayl{L:Code->Loop->Prop}{c:Code}{v:Loop}{l:List (Code×Loop)}(h:L c v)(hl:UX L l):UX L ((c,v)::l):=λp hp=>by
 obtain rfl|hp:=Bj.1 hp
 .exact h
 .exact hl p hp
abbrev Ent:=Nat×Option Nat×DZ
def SQ(P:Program)(e:Ent):Prop:=H7 P e.1 e.2.2/\okQ P e.2.2=Y
def gC{P:Program}{e:Ent}{l:List Ent}(h:SQ P e)(hl:RF P l):RF P (e::l):=λx hx=>by
 obtain rfl|hx:=Bj.1 hx
 .exact h
 .exact hl x hx
def inR:List (Nat×Nat)->Nat->Bool
 | [],_=>A0
 | (a,b)::l,n=>match Dv a n&&Dv n b with
  | true=>Y
  | false=>inR l n
structure OKC (P:Program) (C:Cx) (inl:(Ω:Type)->Inl Ω):Prop where
 p:C.P=P
 m:P.follows .mixedOrders=Y
 c:∀B:Be,B.P=P->HW C B
 i:∀B:Be,B.P=P->JN C B inl
def okc{P:Program}{kd:TypeId->Option K}{l:List Ent}{cz sp:Nat->Bool}(hm:P.follows .mixedOrders=Y)(h:RF P l):OKC P ⟨P,kd,gam l,cz,sp⟩ AF:=
 ⟨rfl,hm,λB hB=>lY (C:=⟨P,kd,gam l,cz,sp⟩) (oG h) B hB,λB _=>aFR _ B⟩
def abh{P:Program}{kd:TypeId->Option K}{l:List Ent}{cz sp:Nat->Bool}(n:Nat)(hm:P.follows .mixedOrders=Y)(h:RF P l):OKC P ⟨P,kd,gam l,cz,sp⟩ (Nd ⟨P,kd,gam l,cz,sp⟩ n):=
 ⟨rfl,hm,λB hB=>lY (C:=⟨P,kd,gam l,cz,sp⟩) (oG h) B hB,λB hB=>aaK (C:=⟨P,kd,gam l,cz,sp⟩) (B:=B) hB.symm (by rw[hB];exact hm) (lY (C:=⟨P,kd,gam l,cz,sp⟩) (oG h) B hB) n⟩
def LpK(P:Program)(n:Nat)(pins:List Nat)(ls:List (Code×Loop)):Prop:=∀B:Be,B.P=P->UX (NB B n pins) ls
def kN{P:Program}{n:Nat}{pins:List Nat}:LpK P n pins []:=λ_ _=>ayk
def kC{P:Program}{n:Nat}{pins:List Nat}{c:Code}{l:Loop}{ls:List (Code×Loop)}(h:LpK P n pins [(c,l)])(hl:LpK P n pins ls):LpK P n pins ((c,l)::ls):=λB hB=>ayl (h B hB (c,l) Ao)<|hl B hB
def lk{P:Program}{C:Cx}{inl:(Ω:Type)->Inl Ω}(hC:OKC P C inl){n:Nat}{pins:List Nat}{body:Code}{v:Adv}{l:Loop}{b:Lv l.sch->Option (Lv l.sch ⊕ (Lv l.KU ⊕ Lv l.KV))}{ls:List (Code×Loop)}
  (hb:∀x,evL C inl n pins body v l x=b x)(hr:l.run=AT b)(h:Fp body v=ls)(hl:LpK P n pins ls):LpK P n pins [(body,l)]:=λB hB p hp=>by
 obtain rfl:=C1.1 hp;exact awo (hC.p.trans hB.symm) (by rw[hB];exact hC.m) (hC.c B hB) (hC.i B hB) hb hr<|aFp h<|hl B hB
def fnB(P:Program)(f:Nat)(fn:Func)(m:DZ):Option Func×Bool×Bool×Bool:=(P.funcs[f]?, fn.name == "runtime.NumGoroutine",okM m fn.ntmps,okQ P m)
def so{P:Program}{C:Cx}{inl:(Ω:Type)->Inl Ω}{f:Nat}{d:Option Nat}{fn:Func}{m:DZ}{v:Adv}{ls:List (Code×Loop)}(hC:OKC P C inl)
  (hf:fnB P f fn m=(I fn,A0,Y,Y))(hb:fn.body=I (LA fn))(h:Fp (LA fn) v=ls)(hl:LpK P fn.ntmps (Dy 0 m.ps) ls)(hg:∀x,aq C inl fn v m x=m.g x):SQ P (f,d,m):=by
 simp only[fnB,CS]at hf;exact⟨auV hC.p hC.m hC.c hC.i hf.1 hf.2.1 hb hf.2.2.1 (λB hB=>aFp h<|hl B hB) hg,hf.2.2.2⟩
def soR{P:Program}{f:Nat}{d:Option Nat}{ps rs:List Sh}{t:(LTs ps->Option (LTs rs×LTs (B2 ps)))->LTs ps->Option (LTs rs×LTs (B2 ps))}(he:MA P f)
  (hq:∀g,okQ P ⟨ps,rs,g⟩=Y)(h:∀g,SQ P (f,d,⟨ps,rs,g⟩)->SQ P (f,d,⟨ps,rs,t g⟩)):SQ P (f,d,⟨ps,rs,Nj t⟩):=
 ⟨atT he λg hg=>(h g ⟨hg,hq g⟩).1,hq _⟩
def abk(a b c d:Int)(e:A1)(a' b' c' d':Int)(e':A1):Bool:=U (a=a')&&(U (b=b')&&(U (c=c')&&(U (d=d')&&(U (e=e')&&Y))))
end Go.VS
end
noncomputable section
namespace Go.VS
open Go
inductive CT where
 | int (k:IntKind)
 | bool
 | str
 | sl (k:K)
def kct:K->List CT
 | .int=>[.int .i64]
 | .bool=>[.bool]
 | .u8=>[.int .u8]
 | .str=>[.str]
 | .note=>[.int .i64,.int .i64,.int .i64,.int .i64,.str]
 | .mark=>[.int .i64,.int .i64,.int .i64]
 | .mixed=>[.int .i64,.str]
 | .half=>[.int .i64,.int .i64,.int .i64,.int .i64,.int .i64,.sl .mixed]
 | .keep=>[.int .i64,.int .i64,.int .i64,.sl .note,.sl .mark,.sl .note]
 | .AN=>[.int .i64,.bool,.str,.int .i64,.sl .half]
 | .Ai=>[.int .i64,.int .i64,.str,.bool]
 | .frame=>[.int .i64,.int .i64,.int .i64,.int .i64,.int .i64,.int .i64,.int .i64,.int .i64,.int .i64,.str]
 | .Hq=>[.int .i64,.int .i64,.int .i64,.int .i64,.int .i64,.int .i64,.int .i64,.int .i64,.int .i64,.str]
 | .lk=>[.str,.int .i64,.str]
mutual
def aQ (P:Program):Nat->TypeId->Option (List TypeId)
 | 0,_=>G
 | n+1,t=>match P.underlying t with
  | some (.struct fs)=>(aR P n 0 fs.toList).bind λts=>match Af ts.length (P.cellsOf t) with
   | true=>I ts
   | false=>G
  | some (.int _)=>I [t]
  | some .bool=>I [t]
  | some .string=>I [t]
  | some (.slice _)=>I [t]
  | _=>G
def aR (P:Program):Nat->Nat->List Field->Option (List TypeId)
 | _,_,[]=>I []
 | 0,_,_::_=>G
 | n+1,o,f::fs=>(aQ P n f.type).bind λts=>match Af f.offset o&&Af (P.cellsOf f.type) ts.length with
  | true=>(aR P n (o+ts.length) fs).bind λus=>I<|ts++us
  | false=>G
end
mutual
def Tp (P:Program):Nat->TypeId->CT->Bool
 | 0,_,_=>A0
 | n+1,t,c=>match P.underlying t,c with
  | some (.int k),.int k'=>U (k=k')
  | some .bool,.bool=>Y
  | some .string,.str=>Y
  | some (.slice e),.sl k=>Af (P.cellsOf e) (ks k)&&aK P n e k
  | _,_=>A0
def aK (P:Program):Nat->TypeId->K->Bool
 | 0,_,_=>A0
 | n+1,e,k=>match aQ P 16 e with
  | some ts=>Og P n ts (kct k)
  | none=>A0
def Og (P:Program):Nat->List TypeId->List CT->Bool
 | _,[],[]=>Y
 | n+1,t::ts,c::cs=>Tp P n t c&&Og P n ts cs
 | _,_,_=>A0
end
def wfI(n:Int):Prop:=(NU .i64 n).wf=Y
def wfY(n:Int):Prop:=(NU .u8 n).wf=Y
def wfS(s:A1):Prop:=s.size<=maxLen
def wfL{α:Type}(p:α->Prop)(l:List α):Prop:=l.length<=maxLen/\ ∀x∈l,p x
def oE(n:A3):Prop:=wfI n.fr/\wfI n.nu/\wfI n.to/\wfI n.un/\wfS n.tx
def aad(n:Mark):Prop:=wfI n.mf/\wfI n.mn/\wfI n.mu
def aGe(n:AQ):Prop:=wfI n.nu/\wfS n.da
def aar(n:AD):Prop:=wfI n.fr/\wfI n.nu/\wfI n.to/\wfI n.un/\wfI n.sz/\wfL aGe n.got
def axL(n:AL):Prop:=wfI n.id/\wfI n.ti/\wfI n.nx/\wfL oE n.held/\wfL aad n.marks/\wfL oE n.inbox
def aul(n:A7):Prop:=wfI n.id/\wfS n.log/\wfI n.fo/\wfL aar n.AG
def atf(n:AK):Prop:=wfI n.src/\wfI n.dst/\wfS n.data
def avt(n:Frame):Prop:=wfI n.ki/\wfI n.src/\wfI n.dst/\wfI n.fr/\wfI n.nu/\wfI n.to/\wfI n.un/\wfI n.sz/\wfI n.mix/\wfS n.da
def avu(n:Event):Prop:=wfI n.ki/\wfI n.at_/\wfI n.fr/\wfI n.nu/\wfI n.wo/\wfI n.mix/\wfI n.kp/\wfI n.to/\wfI n.un/\wfS n.tx
def az3(n:LK):Prop:=wfS n.wo/\wfI n.ki/\wfS n.fi
def wfK:(k:K)->Tof k->Prop
 | .int=>wfI
 | .bool=>λ_=>True
 | .u8=>wfY
 | .str=>wfS
 | .note=>oE
 | .mark=>aad
 | .mixed=>aGe
 | .half=>aar
 | .keep=>axL
 | .AN=>aul
 | .Ai=>atf
 | .frame=>avt
 | .Hq=>avu
 | .lk=>az3
def oz(w:World):CT->Value->Prop
 | .int k,c=>∃n,c= .int k n/\(NU k n).wf=Y
 | .bool,c=>∃b,c= .bool b
 | .str,c=>∃s,c= .string s/\wfS s
 | .sl k,c=>∃xs:List (Tof k),wfL (wfK k) xs/\ ∀β:Beta,(∀b,¬MZ β b)->RC w β (.sl k xs) c
inductive Uh (w:World):List CT->List Value->Prop
 | nil:Uh w [] []
 | cons {t:CT} {c:Value} {ts:List CT} {cs:List Value} (h:oz w t c) (hs:Uh w ts cs):Uh w (t::ts) (c::cs)
section
variable {w:World}
def RL.IQ{R:AV->Value->Prop}{c:AV}{v:Value}(h:R c v):RL R [c] [v]:= .cons h .nil
def axc{k:K}{cs:List Value}(h:Uh w (kct k) cs):∃x:Tof k,wfK k x/\ ∀β:Beta,(∀b,¬MZ β b)->RL (RC w β) (enc k x) cs:=by
 have L:∀ {β:Beta} {v:Value},v.oneCell'=Y->RC w β (.lit v) v:=λh=> .lit h;cases k with
 | int=>
  obtain⟨⟩|⟨⟨a,rfl,ha⟩,h⟩:=h;cases h;exact⟨a,ha,λβ _=> .IQ<|L rfl⟩
 | bool=>
  obtain⟨⟩|⟨⟨a,rfl⟩,h⟩:=h;cases h;exact⟨a,trivial,λβ _=> .IQ<|L rfl⟩
 | u8=>
  obtain⟨⟩|⟨⟨a,rfl,ha⟩,h⟩:=h;cases h;exact⟨a,ha,λβ _=> .IQ<|L rfl⟩
 | str=>
  obtain⟨⟩|⟨⟨a,rfl,ha⟩,h⟩:=h;cases h;exact⟨a,ha,λβ _=> .IQ<|L rfl⟩
 | note=>
  obtain⟨⟩|⟨⟨a,rfl,ha⟩,h⟩:=h;obtain⟨⟩|⟨⟨b,rfl,hb⟩,h⟩:=h;obtain⟨⟩|⟨⟨c,rfl,hc⟩,h⟩:=h;obtain⟨⟩|⟨⟨d,rfl,hd⟩,h⟩:=h;obtain⟨⟩|⟨⟨e,rfl,he⟩,h⟩:=h;cases h;exact⟨(⟨a,b,c,d,e⟩:A3),⟨ha,hb,hc,hd,he⟩,λβ _=> .cons (L rfl)<|.cons (L rfl)<|.cons (L rfl)<|.cons (L rfl)<|.IQ<|L rfl⟩
 | mark=>
  obtain⟨⟩|⟨⟨a,rfl,ha⟩,h⟩:=h;obtain⟨⟩|⟨⟨b,rfl,hb⟩,h⟩:=h;obtain⟨⟩|⟨⟨c,rfl,hc⟩,h⟩:=h;cases h;exact⟨(⟨a,b,c⟩:Mark),⟨ha,hb,hc⟩,λβ _=> .cons (L rfl)<|.cons (L rfl)<|.IQ<|L rfl⟩
 | mixed=>
  obtain⟨⟩|⟨⟨a,rfl,ha⟩,h⟩:=h;obtain⟨⟩|⟨⟨b,rfl,hb⟩,h⟩:=h;cases h;exact⟨(⟨a,b⟩:AQ),⟨ha,hb⟩,λβ _=> .cons (L rfl)<|.IQ<|L rfl⟩
 | half=>
  obtain⟨⟩|⟨⟨a,rfl,ha⟩,h⟩:=h;obtain⟨⟩|⟨⟨b,rfl,hb⟩,h⟩:=h;obtain⟨⟩|⟨⟨c,rfl,hc⟩,h⟩:=h;obtain⟨⟩|⟨⟨d,rfl,hd⟩,h⟩:=h;obtain⟨⟩|⟨⟨e,rfl,he⟩,h⟩:=h;obtain⟨⟩|⟨⟨xs,hx,hr⟩,h⟩:=h;cases h;exact⟨(⟨a,b,c,d,e,xs⟩:AD),⟨ha,hb,hc,hd,he,hx⟩,λβ hβ=> .cons (L rfl)<|.cons (L rfl)<|.cons (L rfl)<|.cons (L rfl)<|.cons (L rfl)<|.IQ<|hr β hβ⟩
 | keep=>
  obtain⟨⟩|⟨⟨a,rfl,ha⟩,h⟩:=h;obtain⟨⟩|⟨⟨b,rfl,hb⟩,h⟩:=h;obtain⟨⟩|⟨⟨c,rfl,hc⟩,h⟩:=h;obtain⟨⟩|⟨⟨xs,hx,hrx⟩,h⟩:=h;obtain⟨⟩|⟨⟨ys,hy,hry⟩,h⟩:=h;obtain⟨⟩|⟨⟨zs,hz,hrz⟩,h⟩:=h;cases h;exact⟨(⟨a,b,c,xs,ys,zs⟩:AL),⟨ha,hb,hc,hx,hy,hz⟩,λβ hβ=> .cons (L rfl)<|.cons (L rfl)<|.cons (L rfl)<|.cons (hrx β hβ)<|.cons (hry β hβ)<|.IQ<|hrz β hβ⟩
 | AN=>
  obtain⟨⟩|⟨⟨a,rfl,ha⟩,h⟩:=h;obtain⟨⟩|⟨⟨b,rfl⟩,h⟩:=h;obtain⟨⟩|⟨⟨c,rfl,hc⟩,h⟩:=h;obtain⟨⟩|⟨⟨d,rfl,hd⟩,h⟩:=h;obtain⟨⟩|⟨⟨xs,hx,hr⟩,h⟩:=h;cases h;exact⟨(⟨a,b,c,d,xs⟩:A7),⟨ha,hc,hd,hx⟩,λβ hβ=> .cons (L rfl)<|.cons (L rfl)<|.cons (L rfl)<|.cons (L rfl)<|.IQ<|hr β hβ⟩
 | Ai=>
  obtain⟨⟩|⟨⟨a,rfl,ha⟩,h⟩:=h;obtain⟨⟩|⟨⟨b,rfl,hb⟩,h⟩:=h;obtain⟨⟩|⟨⟨c,rfl,hc⟩,h⟩:=h;obtain⟨⟩|⟨⟨d,rfl⟩,h⟩:=h;cases h;exact⟨(⟨a,b,c,d⟩:AK),⟨ha,hb,hc⟩,λβ _=> .cons (L rfl)<|.cons (L rfl)<|.cons (L rfl)<|.IQ<|L rfl⟩
 | frame=>
  obtain⟨⟩|⟨⟨a,rfl,ha⟩,h⟩:=h;obtain⟨⟩|⟨⟨b,rfl,hb⟩,h⟩:=h;obtain⟨⟩|⟨⟨c,rfl,hc⟩,h⟩:=h;obtain⟨⟩|⟨⟨d,rfl,hd⟩,h⟩:=h;obtain⟨⟩|⟨⟨e,rfl,he⟩,h⟩:=h;obtain⟨⟩|⟨⟨f,rfl,hf⟩,h⟩:=h;obtain⟨⟩|⟨⟨g,rfl,hg⟩,h⟩:=h;obtain⟨⟩|⟨⟨i,rfl,hi⟩,h⟩:=h;obtain⟨⟩|⟨⟨j,rfl,hj⟩,h⟩:=h;obtain⟨⟩|⟨⟨s,rfl,hs⟩,h⟩:=h;cases h;exact⟨(⟨a,b,c,d,e,f,g,i,j,s⟩:Frame),⟨ha,hb,hc,hd,he,hf,hg,hi,hj,hs⟩,λβ _=> .cons (L rfl)<|.cons (L rfl)<|.cons (L rfl)<|.cons (L rfl)<|.cons (L rfl)<|.cons (L rfl)<|.cons (L rfl)<|.cons (L rfl)<|.cons (L rfl)<|.IQ<|L rfl⟩
 | Hq=>
  obtain⟨⟩|⟨⟨a,rfl,ha⟩,h⟩:=h;obtain⟨⟩|⟨⟨b,rfl,hb⟩,h⟩:=h;obtain⟨⟩|⟨⟨c,rfl,hc⟩,h⟩:=h;obtain⟨⟩|⟨⟨d,rfl,hd⟩,h⟩:=h;obtain⟨⟩|⟨⟨e,rfl,he⟩,h⟩:=h;obtain⟨⟩|⟨⟨f,rfl,hf⟩,h⟩:=h;obtain⟨⟩|⟨⟨g,rfl,hg⟩,h⟩:=h;obtain⟨⟩|⟨⟨i,rfl,hi⟩,h⟩:=h;obtain⟨⟩|⟨⟨j,rfl,hj⟩,h⟩:=h;obtain⟨⟩|⟨⟨s,rfl,hs⟩,h⟩:=h;cases h;exact⟨(⟨a,b,c,d,e,f,g,i,j,s⟩:Event),⟨ha,hb,hc,hd,he,hf,hg,hi,hj,hs⟩,λβ _=> .cons (L rfl)<|.cons (L rfl)<|.cons (L rfl)<|.cons (L rfl)<|.cons (L rfl)<|.cons (L rfl)<|.cons (L rfl)<|.cons (L rfl)<|.cons (L rfl)<|.IQ<|L rfl⟩
 | lk=>
  obtain⟨⟩|⟨⟨a,rfl,ha⟩,h⟩:=h;obtain⟨⟩|⟨⟨b,rfl,hb⟩,h⟩:=h;obtain⟨⟩|⟨⟨c,rfl,hc⟩,h⟩:=h;cases h;exact⟨(⟨a,b,c⟩:LK),⟨ha,hb,hc⟩,λβ _=> .cons (L rfl)<|.cons (L rfl)<|.IQ<|L rfl⟩
end
end Go.VS
namespace Go.VS
open Go
section
variable {H:Type} {Ek:TypeId×Value->H} {P:Program} {w:World} {base:Nat} {spare:Nat->Bool} {held:Bool}
def Cells(Ek:TypeId×Value->H)(P:Program)(w:World)(base:Nat)(spare:Nat->Bool)(held:Bool):List TypeId->List Value->Prop
 | [],[]=>True
 | t::ts,c::cs=>(∃Bl d ps,Gg Ek P w base spare held Bl t [c]=I (d,ps))/\Cells Ek P w base spare held ts cs
 | _,_=>False
def Cells.append:∀ {ts us:List TypeId} {cs ds:List Value},Cells Ek P w base spare held ts cs->Cells Ek P w base spare held us ds->Cells Ek P w base spare held (ts++us) (cs++ds)
 | [],_,[],_,_,h=>h
 | t::ts,_,c::cs,_,h,k=>⟨h.1,Cells.append h.2 k⟩
 | [],_,_::_,_,h,_=>h.elim
 | _::_,_,[],_,h,_=>h.elim
def YS{α β:Type}{f:α->Option β}:∀ {l:List α} {r:List β},l.mapM f=I r->∀x∈l,∃y,f x=I y
 | [],_,_,_,hx=>by cases hx
 | a::l,r,h,x,hx=>by
  rw[U0]at h;obtain⟨y,h1,h⟩:=Ag.1 h;obtain⟨ys,h2,h⟩:=Ag.1 h;obtain rfl|hx:=Bj.1 hx
  .exact⟨y,h1⟩
  .exact YS h2 x hx
def aCZ{Bl:Nat}{t:TypeId}{k:IntKind}{cs:List Value}{r:DataW H×List MemPlace}(ht:P.underlying t=I (.int k))(h:Gg Ek P w base spare held Bl t cs=I r):∃n,cs=[.int k n]/\(NU k n).wf=Y:=by
 cases Bl with
 | zero=>cases h
 | succ Bl=>
  unfold Gg at h;rw[ht]at h;split at h<;>first|(cases h;done)|skip
  all_goals (rename_i heq;cases heq)
  rename_i k' n;split at h
  .rename_i hc;obtain⟨rfl,hw⟩:=hc;exact⟨_,rfl,hw⟩
  .cases h
def aCF{Bl:Nat}{t:TypeId}{cs:List Value}{r:DataW H×List MemPlace}(ht:P.underlying t=I .bool)(h:Gg Ek P w base spare held Bl t cs=I r):∃b,cs=[.bool b]:=by
 cases Bl with
 | zero=>cases h
 | succ Bl=>
  unfold Gg at h;rw[ht]at h;split at h<;>first|(cases h;done)|skip
  all_goals (rename_i heq;cases heq)
  exact⟨_,rfl⟩
def aAx{Bl:Nat}{t:TypeId}{cs:List Value}{r:DataW H×List MemPlace}(ht:P.underlying t=I .string)(h:Gg Ek P w base spare held Bl t cs=I r):∃s,cs=[.string s]/\wfS s:=by
 cases Bl with
 | zero=>cases h
 | succ Bl=>
  unfold Gg at h;rw[ht]at h;split at h<;>first|(cases h;done)|skip
  all_goals (rename_i heq;cases heq)
  split at h
  .rename_i hc;exact⟨_,rfl,hc⟩
  .cases h
def aBk{Bl:Nat}{t e:TypeId}{cs:List Value}{r:DataW H×List MemPlace}(ht:P.underlying t=I (.slice e))(h:Gg Ek P w base spare held Bl t cs=I r):
  cs=[.slice G 0 0]\/ ∃a len cap,cs=[.slice (I a) len cap]/\len<=cap/\cap<=maxLen/\ ∀i,i<len->∃es Uf r',w.cells? base (a.add<|i * P.cellsOf e) (P.cellsOf e)=I es/\Gg Ek P w base spare held Uf e es=I r':=by
 cases Bl with
 | zero=>cases h
 | succ Bl=>
  unfold Gg at h;rw[ht]at h;split at h<;>first|(cases h;done)|skip
  all_goals (rename_i heq;cases heq)
  .exact .inl rfl
  .rename_i a len cap;refine .inr ⟨a,len,cap,rfl, ?_⟩;simp only at h;split at h
   .rename_i hc;refine⟨hc.2.1,hc.2.2,λi hi=> ?_⟩;obtain⟨azr,h1,_⟩:=Ag.1 h;obtain⟨y,hy⟩:=YS h1 i<|Cy.2 hi;obtain⟨es,k1,k2⟩:=Ag.1 hy;exact⟨es,Bl,y,k1,k2⟩
   .cases h
def aot{Bl:Nat}{t:TypeId}{fs:Array Field}{cs:List Value}{r:DataW H×List MemPlace}(ht:P.underlying t=I (.struct fs))(h:Gg Ek P w base spare held Bl t cs=I r):
  cs.length=P.cellsOf t/\ ∀f∈fs.toList,∃Uf r',Gg Ek P w base spare held Uf f.type ((cs.drop f.offset).take<|P.cellsOf f.type)=I r':=by
 cases Bl with
 | zero=>cases h
 | succ Bl=>
  simp only[Gg,ht]at h;split at h
  .rename_i hc;obtain⟨xs,h1,_⟩:=D9.1 h;refine⟨hc,λf hf=> ?_⟩;obtain⟨y,hy⟩:=YS h1 f hf;exact⟨Bl,y,hy⟩
  .cases h
mutual
theorem aCR:∀(n:Nat) (t:TypeId) {ts:List TypeId} {Bl:Nat} {cs:List Value} {r:DataW H×List MemPlace},aQ P n t=I ts->Gg Ek P w base spare held Bl t cs=I r->Cells Ek P w base spare held ts cs
 | 0,_,_,_,_,_,h,_=>by cases h
 | n+1,t,ts,Bl,cs,r,h,hr=>by
  unfold aQ at h;split at h
  .rename_i fs ht;obtain⟨us,h1,h⟩:=Ag.1 h;split at h
   case h_2=>cases h
   rename_i hl;cases h;obtain⟨k1,k2⟩:=aot ht hr;have hl:=Br hl;have:=aBs n 0 fs.toList h1 (cs:=cs) (by simp[k1,hl]) (λf hf=>k2 f hf);simpa using this
  .rename_i k ht;cases h;obtain⟨x,rfl,_⟩:=aCZ ht hr;exact⟨⟨_,r.1,r.2,hr⟩,trivial⟩
  .rename_i ht;cases h;obtain⟨x,rfl⟩:=aCF ht hr;exact⟨⟨_,r.1,r.2,hr⟩,trivial⟩
  .rename_i ht;cases h;obtain⟨x,rfl,_⟩:=aAx ht hr;exact⟨⟨_,r.1,r.2,hr⟩,trivial⟩
  .rename_i e ht;cases h;obtain rfl|⟨a,len,cap,rfl,_⟩:=aBk ht hr
   .exact⟨⟨_,r.1,r.2,hr⟩,trivial⟩
   .exact⟨⟨_,r.1,r.2,hr⟩,trivial⟩
  .cases h
theorem aBs:∀(n o:Nat) (fs:List Field) {ts:List TypeId} {cs:List Value},aR P n o fs=I ts->cs.length=o+ts.length->(∀f∈fs,∃Bl r,Gg Ek P w base spare held Bl f.type ((cs.drop f.offset).take<|P.cellsOf f.type)=I r)->
  Cells Ek P w base spare held ts (cs.drop o)
 | n,o,[],ts,cs,h,hl,_=>by
  have h:I []=I ts:=by cases n<;>exact h
  cases h;have:cs.drop o=[]:=KI (by simp at hl;omega);rw[this];trivial
 | 0,_,_::_,_,_,h,_,_=>by cases h
 | n+1,o,f::fs,ts,cs,h,hl,hf=>by
  unfold aR at h;obtain⟨us,h1,h⟩:=Ag.1 h;split at h
  case h_2=>cases h
  rename_i hc;simp only[AE]at hc;obtain⟨vs,h2,h⟩:=Ag.1 h;cases h;obtain⟨Bl,r,hr⟩:=hf f Ao;rw[Br hc.1,Br hc.2]at hr;have k1:=aCR n f.type h1 hr;have k2:=aBs n (o+us.length) fs h2 (cs:=cs) (by simp at hl ⊢; omega) (λg hg=>hf g<|Ah _ hg);have e:cs.drop o=(cs.drop o).take us.length++cs.drop (o+us.length):=by
   rw[← J5];exact(JZ _ _).symm
  rw[e];exact k1.append k2
end
def aFq(b f n:Nat):(⟨b,f,G⟩:Addr).add n=⟨b,f+n,G⟩:=by
 unfold Addr.add;split
 .rename_i h;subst h;rfl
 .rfl
def aw0{b f n:Nat}{es:List Value}(h:w.cells? base ⟨b,f,G⟩ n=I es):es.length=n/\ ∀j,j<n->w.cell? ⟨b,f+j,G⟩=I (es.getD j undef):=by
 unfold World.cells? at h;split at h
 case isFalse=>cases h
 have gen:∀(l:List Nat) {es:List Value},l.mapM (λi=>w.cell?<|(⟨b,f,G⟩:Addr).add i)=I es->es.length=l.length/\ ∀j x,l[j]? =I x->w.cell? ⟨b,f+x,G⟩=I (es.getD j undef):=by
  intro l
  induction l with
  | nil=>intro es h;cases h;exact⟨rfl,λj x hx=>by simp at hx⟩
  | cons a l ih=>
   intro es h;rw[U0]at h;obtain⟨y,h1,h⟩:=Ag.1 h;obtain⟨ys,h2,h⟩:=Ag.1 h;cases h;obtain⟨k1,k2⟩:=ih h2;refine⟨by simp[k1],λj x hx=> ?_⟩;cases j with
   | zero=>
    simp at hx;subst hx;rw[aFq]at h1;simpa using h1
   | succ j=>simpa using k2 j x<|by simpa using hx
 obtain⟨k1,k2⟩:=gen _ h;exact⟨by simpa using k1,λj hj=>k2 j j<|by simp[hj]⟩
mutual
theorem aEi:∀(n:Nat) (t:TypeId) (c:CT) {v:Value},Tp P n t c=Y->(∃Bl d ps,Gg Ek P w base spare held Bl t [v]=I (d,ps))->oz w c v
 | 0,_,_,_,h,_=>by simp[Tp]at h
 | n+1,t,c,v,h,⟨Bl,d,ps,hr⟩=>by
  unfold Tp at h;split at h
  .rename_i k k' ht;simp at h;subst h;obtain⟨x,e,hw⟩:=aCZ ht hr;cases e;exact⟨x,rfl,hw⟩
  .rename_i ht;obtain⟨x,e⟩:=aCF ht hr;cases e;exact⟨x,rfl⟩
  .rename_i ht;obtain⟨x,e,hw⟩:=aAx ht hr;cases e;exact⟨x,rfl,hw⟩
  .rename_i e k ht;simp only[AE]at h;have hsz:=Br h.1;obtain e|⟨a,len,cap,e,hlc,hcm,hel⟩:=aBk ht hr
   .cases e;exact⟨[],⟨Ch _,by simp⟩,λβ _=> .nil⟩
   .cases e;rw[hsz]at hel;have hch:∀i:Nat,∃p:Tof k×List Value,i<len->wfK k p.1/\w.cells? base (a.add<|i * ks k) (ks k)=I p.2/\ ∀β:Beta,(∀b,¬MZ β b)->RL (RC w β) (enc k p.1) p.2:=by
     intro i;by_cases hi:i<len
     .obtain⟨es,Uf,r',k1,k2⟩:=hel i hi;obtain⟨x,k3,k4⟩:=auO n _ k h.2 (Bl:=Uf) (r:=r') k2;exact⟨(x,es),λ_=>⟨k3,k1,k4⟩⟩
     .exact⟨(dfl k,[]),λh=>absurd h hi⟩
    obtain⟨X,hX⟩:=Classical.axiomOfChoice hch;refine⟨(B1 len).map λi=>(X i).1,⟨by simp;omega,λx hx=> ?_⟩,λβ hβ=> ?_⟩
    .obtain⟨i,hi,rfl⟩:=C0.1 hx;exact(hX i<|Cy.1 hi).1
    .cases len with
     | zero=>exact .nil
     | succ len=>
      obtain⟨b,f,sp⟩:=a;have h0:=(hX 0 J).2.1;have hsp:sp=G:=by
       rw[UC]at h0;unfold World.cells? at h0;split at h0
       case isFalse=>cases h0
       obtain⟨y,hy⟩:=YS h0 0<|Cy.2<|I4 k;unfold MT at hy;split at hy
       .split at hy
        .cases hy
        .rename_i hn;cases sp with
         | none=>rfl
         | some x=>exact absurd rfl hn
       .cases hy
      subst hsp;have Ct:∀i j,i<len+1->j<ks k->w.cell? ⟨b,f+(i * ks k+j),G⟩=I ((X i).2.getD j undef):=λi j hi hj=>by
       have h1:=(hX i hi).2.1;rw[aFq]at h1;have:=(aw0 h1).2 j hj;rw[← D8];exact this
      refine .sl (λi j=>(X i).2.getD j undef) ⟨by simp,hlc⟩ (hβ b) (λi j hi hj=>Ct i j (by simpa using hi) hj) (λi x j c hx hc=> ?_);have hi:i<len+1:=by have:=(BR.1 hx).1;simpa using this
      have hx':x=(X i).1:=by
       rw[DA,Gj hi]at hx;exact(E5 hx).symm
      subst hx';have hj:j<ks k:=by rw[← EL k (X i).1];exact(BR.1 hc).1
      have hR:=(hX i hi).2.2 β hβ;have hlen:(X i).2.length=ks k:=by rw[hR.1,EL]
      exact hR.2 j c _ hc (by simp[hlen,hj])
  .cases h
theorem auO:∀(n:Nat) (e:TypeId) (k:K) {Bl:Nat} {cs:List Value} {r:DataW H×List MemPlace},aK P n e k=Y->Gg Ek P w base spare held Bl e cs=I r->∃x:Tof k,wfK k x/\ ∀β:Beta,(∀b,¬MZ β b)->RL (RC w β) (enc k x) cs
 | 0,_,_,_,_,_,h,_=>by simp[aK]at h
 | n+1,e,k,Bl,cs,r,h,hr=>by
  unfold aK at h;split at h
  .rename_i ts hts;exact axc (aCV n ts (kct k) h<|aCR 16 e hts hr)
  .cases h
theorem aCV:∀(n:Nat) (ts:List TypeId) (ks:List CT) {cs:List Value},Og P n ts ks=Y->Cells Ek P w base spare held ts cs->Uh w ks cs
 | n,[],[],[],_,_=> .nil
 | n,[],[],_::_,_,h=>h.elim
 | n+1,t::ts,c::ks,v::cs,h,hc=>by
  simp only[Og,AE]at h;exact .cons (aEi n t c h.1 hc.1)<|aCV n ts ks h.2 hc.2
 | 0,_::_,_,_,h,_=>by simp[Og]at h
 | n+1,_::_,[],_,h,_=>by simp[Og]at h
 | n,[],_::_,_,h,_=>by cases n<;>simp[Og]at h
 | n+1,_::_,_::_,[],_,hc=>hc.elim
end
end
end Go.VS
end
noncomputable section
namespace Go.VS
open Go
def pD:Sh->Option CT
 | .int k=>I (.int k)
 | .bool=>I .bool
 | .str=>I .str
 | .fz k=>I (.sl k)
 | _=>G
def US:(h:Sh)->LT h->Prop
 | .int k,n=>(NU k n).wf=Y
 | .bool,_=>True
 | .str,s=>wfS s
 | .fz k,xs=>wfL (wfK k) xs
 | _,_=>False
section
variable {P:Program} {w:World}
def asc{h:Sh}{t:CT}{v:Value}(hs:pD h=I t)(hf:oz w t v):∃x:LT h,US h x/\ ∀(M:Nat->Prop) (e:Nat->Value),(∀b,¬M b)->Rel P w M e h x v []:=by
 cases h<;>simp only[pD]at hs<;>first|(cases hs;done)|skip
 case int k=>
  cases hs;obtain⟨n,rfl,hw⟩:=hf;exact⟨n,hw,λM e _=>⟨rfl,rfl⟩⟩
 case bool=>
  cases hs;obtain⟨n,rfl⟩:=hf;exact⟨n,trivial,λM e _=>⟨rfl,rfl⟩⟩
 case str=>
  cases hs;obtain⟨n,rfl,hw⟩:=hf;exact⟨n,hw,λM e _=>⟨rfl,rfl⟩⟩
 case fz k=>
  cases hs;obtain⟨xs,hw,hr⟩:=hf;exact⟨xs,hw,λM e hM=>⟨λβ hβ=>hr β λb hb=>hM b<|hβ b hb,rfl⟩⟩
def aDy{f:FuncId}{ps:List Sh}{g:LTs ps->Option (LTs [.bool]×LTs (B2 ps))}(hS:H7 P f ⟨ps,[.bool],g⟩){x:LTs ps}{q:LTs (B2 ps)}(hx:g x=I ((Y,()),q)){args:List Value}
  (IT:∀(M:Nat->Prop) (e:Nat->Value),(∀b,¬M b)->Cl P w M e ps x args [])(hgl:Nb P w (λ_=>False)):Calls P f args.toArray w λe w'=>e= .returned (.bool Y)/\Go.RowKit.Below w.heap.size w w':=by
 refine MV (hS.2 x _ hx w (λ_=>False) args [] (IT _ _ λb h=>by simp[Az]at h) (by simp[Az]) (λb h=>by simp[Az]at h) (λb h=>h.elim)<|by simpa[Az] using hgl) ?_;rintro en w' ⟨v,rfl,hr⟩;obtain⟨vs,os1,os2,rfl,h1,_⟩:=hr.ex;obtain⟨u,us,o1,o2,rfl,_,h2,h3⟩:=h1;obtain⟨rfl,_⟩:=h3;obtain⟨rfl,_⟩:=h2;exact⟨rfl,hr.wos,hr.tape,hr.output,hr.size,λb hb=>hr.block b hb<|by simp[Az]⟩
end
end Go.VS
end
noncomputable section
namespace Go.VS
open Go
variable {P:Program} {f:FuncId}
def lV{w:World}{O:Nat->Prop}{gm:Nat}(hgl:Nb P w O)(hg:gm<P.globals.size)(hsh:∀w:World,w.ShapedOpen P->∃m,w.cell? ⟨gm,0,G⟩=I (.int .i64 m)):∃m,w.cell? ⟨gm,0,G⟩=I (.int .i64 m):=by
 obtain⟨w0,h1,h2⟩:=hgl;obtain⟨m,hm⟩:=hsh w0 h1.1;refine⟨m, ?_⟩;rw[← hm];unfold MT;rw[(h2 gm hg).2.2]
def aur{w:World}{O:Nat->Prop}(hgl:Nb P w O){gt:Nat}(hn:P.globalNamed "internal/strconv.uint64pow10" =I gt)(hg:gt<P.globals.size):MU P w "internal/strconv.uint64pow10" .u64 NT:=by
 obtain⟨w0,h1,h2⟩:=hgl;have h:=h1.2 (by rw[hn];simp);unfold MU World.var? at h ⊢;rw[hn]at h ⊢;simp only[A6]at h ⊢;rw[(h2 gt hg).2.2];exact h
def UQ(x:Int×D):Option ((A1×D)×D):=if -9223372036854775808<=x.1/\x.1<=9223372036854775807 then I ((⟨(B6 x.1).toArray⟩,()),()) else G
def PM(x:A1×A1×D):Option ((A1×A1×Bool×D)×D):=
 if x.1.size<4294967281 then I ((⟨(FO x.1.data.toList x.2.1.data.toList).1.toArray⟩,⟨(FO x.1.data.toList x.2.1.data.toList).2.1.toArray⟩,(FO x.1.data.toList x.2.1.data.toList).2.2,()),()) else G
def Th(x:A1×A1×D):Option ((List A1×D)×D):=
 if x.1.size<4294967281/\1<=x.2.1.size then I ((J6 x.2.1 0 (NS x.1 x.2.1) x.1,()),()) else G
def TQ(x:A1×A1×Int×D):Option ((List A1×D)×D):=
 if x.1.size<4294967281/\1<=x.2.1.size/\1<=x.2.2.1/\x.2.2.1<=9223372036854775807 then I ((J6 x.2.1 0 (min x.2.2.1.toNat (x.1.size+1) - 1) x.1,()),()) else G
def arY(he:MA P f)(hn:(P.globalNamed "internal/strconv.uint64pow10").map (λg=>U<|g<P.globals.size)=I Y)
  (hc:∀(n:Int) (h0: -9223372036854775808<=n) (h1:n<=9223372036854775807) (w:World) (bY:MU P w "internal/strconv.uint64pow10" .u64 NT),
   Calls P f #[.int .i64 n] w λe w'=>e= .returned (.string ⟨(B6 n).toArray⟩)/\ ∃k os,w'=Zm (w.drewN k) os):H7 P f ⟨[.int .i64],[.str],UQ⟩:=by
 obtain⟨gt,hn,hg⟩:=D9.1 hn;have hg:=BW hg;refine⟨he,λx r hx w Z args os hr hnd hbl hZ hgl=> ?_⟩;simp only[UQ]at hx;split at hx
 case isFalse=>cases hx
 rename_i hb;cases hx;obtain⟨u,us,o1,o2,rfl,rfl,⟨rfl,rfl⟩,rfl,rfl⟩:=hr;refine MV (hc x.1 hb.1 hb.2 w<|aur hgl hn hg) ?_;rintro e w' ⟨rfl,k,os,rfl⟩;exact⟨_,rfl,⟨⟨[.string _],[],[],rfl,⟨_,_,[],[],rfl,rfl,⟨rfl,rfl⟩,rfl,rfl⟩,⟨rfl,rfl⟩,by simp[Az],by simp[Az]⟩,rfl,rfl,rfl,by simp[Zm,mr],λb hb _=>by simp[Zm,mr,MQ hb],Pk.old λb hb=>by simp[Zm,mr,MQ hb]⟩⟩
def atj(he:MA P f){gm:Nat}(hg:gm<P.globals.size)(hsh:∀w:World,w.ShapedOpen P->∃m,w.cell? ⟨gm,0,G⟩=I (.int .i64 m))
  (hc:∀(s sep:A1) (m:Int) (w:World) (hs:s.size<4294967281) (hm:w.cell? ⟨gm,0,G⟩=I (.int .i64 m)),
   Calls P f #[.string s,.string sep] w λe w'=>e= .returned (.tuple #[.string ⟨(FO s.data.toList sep.data.toList).1.toArray⟩,.string ⟨(FO s.data.toList sep.data.toList).2.1.toArray⟩,.bool (FO s.data.toList sep.data.toList).2.2])/\ ∃n,w'=w.drewN n):
  H7 P f ⟨[.str,.str],[.str,.str,.bool],PM⟩:=by
 refine⟨he,λx r hx w Z args os hr hnd hbl hZ hgl=> ?_⟩;simp only[PM]at hx;split at hx
 case isFalse=>cases hx
 rename_i hb;cases hx;obtain⟨u,us,o1,o2,rfl,rfl,⟨rfl,rfl⟩,v,vs,p1,p2,rfl,rfl,⟨rfl,rfl⟩,rfl,rfl⟩:=hr;obtain⟨m,hm⟩:=lV hgl hg hsh;refine MV (hc x.1 x.2.1 m w hb hm) ?_;rintro e w' ⟨rfl,k,rfl⟩;exact⟨_,rfl,⟨⟨[_,_,_],[],[],rfl,⟨_,_,[],[],rfl,rfl,⟨rfl,rfl⟩,_,_,[],[],rfl,rfl,⟨rfl,rfl⟩,_,_,[],[],rfl,rfl,⟨rfl,rfl⟩,rfl,rfl⟩,⟨rfl,rfl⟩,by simp[Az],by simp[Az]⟩,rfl,rfl,rfl,Ar _,λb hb _=>rfl,Pk.old λb hb=>rfl⟩⟩
def aGo{w:World}{Z:Nat->Prop}{args:List Value}{e:TypeId}{xs:List A1}{cap:Nat}{cs:Array Value}(Hr:xs.length<=cap)(hm:cap<=maxLen)(hsz:cs.size=cap)(hcs:∀(i:Nat) (s:A1),xs[i]? =I s->cs[i]? =I (Zu s)){ps:List Sh}
  {r2:LTs (B2 ps)}{g:LTs ps->Option (LTs [.row e .str]×LTs (B2 ps))}(hb:∀w' M,Cl P w' M (ar args) (B2 ps) r2 (Jw ps args) []):
  Ret P ⟨ps,[.row e .str],g⟩ Z args [] w ((xs,()),r2) (.slice (I ⟨w.heap.size,0,G⟩) xs.length cap) (w.alloc<|.cells cs e):=by
 have hat:(w.alloc<|.cells cs e).heap[w.heap.size]? =I (.cells cs e (0,0)):=heap_alloc_new w _;have azv:(w.alloc<|.cells cs e).heap.size=w.heap.size+1:=World.size_alloc _ _;refine⟨⟨[_],[(.slice (I ⟨w.heap.size,0,G⟩) xs.length cap,xs.length)],[],rfl,⟨_,_,[_],[],rfl,rfl,⟨rfl,rfl,λβ _=> .inr ⟨w.heap.size,0,cap,cs,(0,0),rfl,hat,rfl,Hr,hm,by simp[ks,hsz], ?_⟩⟩,rfl,rfl⟩,hb _ _,by simp[Az,HC,adr], ?_⟩,rfl,rfl,rfl,J,λb hb _=>heap_alloc_old w _ hb,Pk.old λb hb=>heap_alloc_old w _ hb⟩
 .intro i x j c u h1 h2 h3;cases j with
  | zero=>
   simp[enc]at h2;subst h2;rw[show(0:Nat)+(i * ks .str+0)=i by simp[ks],hcs i x h1]at h3;cases h3;exact RC.lit rfl
  | succ j=>simp[enc]at h2
 .intro b hb;simp[Az,HC,adr]at hb;subst hb;exact⟨.inr (Ar _),J⟩
def aqy(he:MA P f){gm:Nat}{e:TypeId}(hg:gm<P.globals.size)(hsh:∀w:World,w.ShapedOpen P->∃m,w.cell? ⟨gm,0,G⟩=I (.int .i64 m))
  (hc:∀(s sep:A1) (m:Int) (w:World) (hs:s.size<4294967281) (hm:w.cell? ⟨gm,0,G⟩=I (.int .i64 m)) (h1:1<=sep.size),
   Calls P f #[.string s,.string sep] w λen w'=>en= .returned (.slice (I ⟨w.heap.size,0,G⟩) (NS s sep+1)<|NS s sep+1)/\w'=w.alloc (.cells ((J6 sep 0 (NS s sep) s).map Zu).toArray e)):
  H7 P f ⟨[.str,.str],[.row e .str],Th⟩:=by
 refine⟨he,λx r hx w Z args os hr hnd hbl hZ hgl=> ?_⟩;simp only[Th]at hx;split at hx
 case isFalse=>cases hx
 rename_i hb;cases hx;obtain⟨u,us,o1,o2,rfl,rfl,⟨rfl,rfl⟩,v,vs,p1,p2,rfl,rfl,⟨rfl,rfl⟩,rfl,rfl⟩:=hr;obtain⟨m,hm⟩:=lV hgl hg hsh;have hl:=Lib.splitB_all x.2.1 hb.2 0 _ x.1 rfl;have hle:=Lib.countB_le x.2.1 hb.2 x.1.size x.1<|Ar _;refine MV (hc x.1 x.2.1 m w hb.1 hm hb.2) ?_;rintro en w' ⟨rfl,rfl⟩;refine⟨_,rfl, ?_⟩;rw[← hl];exact aGo (Ar _) (by rw[hl];simp[maxLen];omega) aG9 (λi s h=>by simp[h]) λ_ _=>⟨rfl,rfl⟩
def aqM(he:MA P f){gm:Nat}{e:TypeId}(hg:gm<P.globals.size)(hsh:∀w:World,w.ShapedOpen P->∃m,w.cell? ⟨gm,0,G⟩=I (.int .i64 m))
  (hc:∀(s sep:A1) (n:Nat) (m:Int) (w:World) (hs:s.size<4294967281) (hm:w.cell? ⟨gm,0,G⟩=I (.int .i64 m)) (h1:1<=sep.size) (hn:1<=n) (aCw:n<=9223372036854775807),
   Calls P f #[.string s,.string sep,.int .i64 n] w λen w'=>en= .returned (.slice (I ⟨w.heap.size,0,G⟩) (J6 sep 0 (min n (s.size+1) - 1) s).length<|min n<|s.size+1)/\w'=w.alloc (.cells (Zx (J6 sep 0 (min n (s.size+1) - 1) s)<|min n<|s.size+1) e)):
  H7 P f ⟨[.str,.str,.int .i64],[.row e .str],TQ⟩:=by
 refine⟨he,λx r hx w Z args os hr hnd hbl hZ hgl=> ?_⟩;simp only[TQ]at hx;split at hx
 case isFalse=>cases hx
 rename_i hb;cases hx;obtain⟨u,us,o1,o2,rfl,rfl,⟨rfl,rfl⟩,v,vs,p1,p2,rfl,rfl,⟨rfl,rfl⟩,y,ys,q1,q2,rfl,rfl,⟨rfl,rfl⟩,rfl,rfl⟩:=hr;obtain⟨m,hm⟩:=lV hgl hg hsh;have hl:=Lib.splitB_length_le x.2.1 0 (min x.2.2.1.toNat (x.1.size+1) - 1) x.1;have hn:((x.2.2.1.toNat:Nat):Int)=x.2.2.1:=mc J;have hc':=hc x.1 x.2.1 x.2.2.1.toNat m w hb.1 hm hb.2.1 J J;rw[hn]at hc';refine MV hc' ?_;rintro en w' ⟨rfl,rfl⟩;refine⟨_,rfl, ?_⟩;exact aGo J (by simp[maxLen];omega) (Lib.cellsOf_size J) (λi s h=>by
  have hi:=(BR.1 h).1;rw[Zx,Tw,II<|by simpa using hi,DA,h];rfl) (λ_ _=>⟨rfl,rfl⟩)
end Go.VS
end
noncomputable section
namespace Go.VS
open Go
section
variable {P:Program} {W:World}
def pB(P:Program)(name:String)(k:IntKind):Bool:=
 match P.globalNamed name with
 | some g=>match (P.globals[g]?).map (·.type) with
  | some t=>match P.underlying t with
   | some (.array n e)=>(match P.underlying e with|some (.int k')=>U (k'=k)|_=>A0)&&U (P.cellsOf e=1)&&U (P.cellsOf t=n)
   | _=>A0
  | _=>A0
 | _=>A0
def aqt{name:String}{k:IntKind}{zs:List Int}(h:pB P name k=Y)(hl:laidMet P [(name,Lib.tabData k zs)] W):MU P W name k zs:=by
 unfold pB at h;split at h
 case h_2=>cases h
 rename_i g hg;split at h
 case h_2=>cases h
 rename_i t ht;split at h
 case h_2=>cases h
 rename_i n e hu;simp only[AE,decide_eq_true_eq]at h;obtain⟨⟨h1,h2⟩,h3⟩:=h;split at h1
 case h_2=>cases h1
 rename_i k' hk;have h1:=BW h1;subst h1;exact Lib.tabIs_of_head hg ht hu hk h2 h3 hl
def UT:String:= "internal/strconv.uint64pow10"
def aDP{laid:List (String×DataW D)}(hsh:W.ShapedOpen P)(amm:IJ P.globals.size (begin P (λ_ _=>0) default).world.heap.size=Y)(ac8:laidMetH P laid W)
  (azT:(laid.all λx=>x.2.handleName?.isNone)=Y)
  (bY:P.globalNamed UT≠G->(laid.filter λx=>x.1 == UT)=[(UT,Lib.tabData .u64 NT)]/\pB P UT .u64=Y):Nb P W (λ_=>False):=by
 have hlt:P.globals.size<W.heap.size:=by
  obtain⟨o,o0,h1,_⟩:=hsh.2 P.globals.size (Ar _) (by simpa[PB] using amm);exact(HH.1 h1).1
 refine⟨W,⟨hsh,λhn=> ?_⟩,λb hb=>⟨id,J,rfl⟩⟩;obtain⟨h1,h2⟩:=bY hn;rw[U4 _ _ _ azT]at ac8;have h3:=laidMet.filter (λx=>x.1 == UT) ac8;rw[h1]at h3;exact aqt h2 h3
end
end Go.VS
namespace Go.VS
open Go
def ayd:Oper:={ dst:=G,op:= .move<|.const<|.bool A0,type:=0,pos:= "",after:= #[],guard:=G }
def pC(zs:List Nat)(e:Edge):Option Edge:=(zs.idxOf? e.on).map λj=>{ e with on:=j }
def RH(zs:List Nat)(o:Oper):Oper:={ o with after:=(o.after.toList.filterMap<|pC zs).toArray }
def FH(ops:Array Oper)(zs:List Nat):Array Oper:=(zs.map λi=>RH zs<|(ops[i]?).getD ayd).toArray
def asL{ops:Array Oper}{zs:List Nat}{j i:Nat}{o:Oper}(hz:zs[j]? =I i)(ho:ops[i]? =I o):(FH ops zs)[j]? =I (RH zs o):=by
 simp[FH,hz,ho]
def kB(ops:Array Oper)(zs:List Nat):(FH ops zs).size=zs.length:=by simp[FH]
def aus{zs:List Nat}{o:Oper}{e:Edge}(h:e∈(RH zs o).after):∃e0∈o.after,Fj .any e0=Fj .any e/\zs[e.on]? =I e0.on:=by
 have h:e∈o.after.toList.filterMap (pC zs):=by simpa[RH] using h
 obtain⟨e0,h0,h1⟩:=GO.1 h;unfold pC at h1;obtain⟨j,h2,h3⟩:=D9.1 h1;refine⟨e0,by simpa using h0,by rw[← h3];rfl, ?_⟩;rw[← h3];obtain⟨hlt,h4,_⟩:=List.idxOf?_eq_some_iff.1 h2;show zs[j]? =I e0.on;rw[Av hlt];simpa using h4
section
variable {P:Program} {ops:Array Oper} {Q:Exit->Act->World->Prop}
def asU(Good:(Nat->Prop)->Act->World->Prop)(amx:∀(i:Nat) (o:Oper) (e:Edge),ops[i]? =I o->e∈o.after->Fj .any e=Y->e.on<i)
  (px:∀(B7:Nat->Prop) a w,(∀i,¬B7 i)->Good B7 a w->Q .normal a w)
  (pX:∀(B7:Nat->Prop) (i:Nat) (a:Act) (w:World) (o:Oper),Good B7 a w->(∀j,B7 j->j<ops.size)->(∀j oj,ops[j]? =I oj->¬B7 j->∀e∈oj.after,Fj .any e=Y->¬B7 e.on)->B7 i->ops[i]? =I o->
   (∀e∈o.after,Fj .any e=Y->¬B7 e.on)->wpOp P ops Q i (λa w=>Good (λk=>B7 k/\k≠i) a w) a w):
  ∀(n:Nat) (Bd:List Nat) (listed:Array Bool) (a:Act) (w:World),Bd.length=n->Bd.Nodup->(∀j,j∈Bd↔j<ops.size/\listed.getD j Y=A0)->listed.size=ops.size->
   (∀j oj,ops[j]? =I oj->j ∉ Bd->∀e∈oj.after,Fj .any e=Y->e.on ∉ Bd)->Good (λk=>k∈Bd) a w->wpAny P .any ops Q n listed a w:=by
 intro n
 induction n with
 | zero=>
  intro Bd listed a w hl hnd hU hs hcl hg;have:Bd=[]:=Df hl;subst this;refine⟨?_,px _ a w (λi h=>by cases h) hg⟩;cases hrd:PA .any ops listed with
  | nil=>rfl
  | cons j l=>
   have hj:j∈PA .any ops listed:=by rw[hrd];exact Ao
   obtain⟨h1,o,ho,_⟩:=mem_ready.1 hj;have:=(hU j).2 ⟨(HH.1 ho).1,h1⟩;cases this
 | succ n ih=>
  intro Bd listed a w hl hnd hU hs hcl hg;have done:∀x,x<ops.size->x ∉ Bd->listed.getD x A0=Y:=λx hx hn=>by
   refine vJ J ?_;cases hb':listed.getD x Y with
   | true=>rfl
   | false=>exact absurd ((hU x).2 ⟨hx,hb'⟩) hn
  refine⟨λqI=> ?_,λi hi=> ?_⟩
  .exfalso;obtain⟨i0,h0,qJ⟩:=ka (λk=>k∈Bd) (by
    cases Bd with
    | nil=>simp at hl
    | cons x l=>exact⟨x,Ao⟩)
   obtain⟨hlt,hun⟩:=(hU i0).1 h0;obtain⟨o,ho⟩:∃o,ops[i0]? =I o:=⟨ops[i0],by simp[hlt]⟩;have hr0:i0∈PA .any ops listed:=mem_ready.2 ⟨hun,o,ho,λe he hb=>by
    have bf:=amx i0 o e ho he hb;exact done e.on J λhm=>by have:=qJ _ hm;omega⟩
   rw[qI]at hr0;cases hr0
  .obtain⟨hun,oi,hoi,Ht⟩:=mem_ready.1 hi;have hlt:i<ops.size:=(HH.1 hoi).1;have hiU:i∈Bd:=(hU i).2 ⟨hlt,hun⟩;have KR:∀e∈oi.after,Fj .any e=Y->e.on ∉ Bd:=λe he hb hm=>by
    have h2:=((hU e.on).1 hm).2;have hsz:=((hU e.on).1 hm).1;have hel:=Ht e he hb;have:listed.getD e.on Y=Y:=by simp[show e.on<listed.size by omega]at hel ⊢; exact hel
    rw[this]at h2;cases h2
   have FR:∀k,k∈Bd.erase i↔k∈Bd/\k≠i:=λk=>by
    rw[hnd.mem_erase_iff];exact and_comm
   refine wpOp_mono ?_ (pX (λk=>k∈Bd) i a w oi hg (λj hj=>((hU j).1 hj).1) hcl hiU hoi KR);intro a' w' hg';refine ih (Bd.erase i) _ a' w' (by rw[List.length_erase_of_mem hiU,hl];rfl) (hnd.erase i) (λj=> ?_) (by simpa using hs) ?_ ?_
   .rw[FR,hU];by_cases e:j=i
    .subst e;simp
    .rw[getD_set_ne Y<|LL e];simp[e]
   .intro j oj hoj hj e he hb hm;have hmU:=((FR _).1 hm).1;by_cases e':j=i
    .subst e';rw[hoi]at hoj;cases hoj;exact KR e he hb hmU
    .exact hcl j oj hoj (λh=>hj<|(FR j).2 ⟨h,e'⟩) e he hb hmU
   .have:(λk=>k∈Bd.erase i)=λk=>k∈Bd/\k≠i:=funext λk=>propext<|FR k;rw[this];exact hg'
end
section
variable {C:Cx} {B:Be} {ops S0:Array Oper} {L:Lb} {stk:List (Array Value)} {Ω:Type} {q:Ω} {s s':S}
structure PaR (C:Cx) (S0:Array Oper) (L:Lb) (Bd:List Nat) (s s':S):Prop where
 run:Run C S0 L Bd s s'
 aG4:Bd.Pairwise (· < ·)
 lt:∀j∈Bd,j<S0.size
 cl:∀i x,i<S0.size->i ∉ Bd->L.R x i->x ∉ Bd
 fit:∀j∈Bd,Fit S0 L Bd s j
def PaR.pick(hn:PT S0 L){Bd:List Nat}(h:PaR C S0 L Bd s s'){i:Nat}(hiU:i∈Bd){oi:Oper}(hoi:S0[i]? =I oi)(KR:∀e∈oi.after,Fj .any e=Y->e.on ∉ Bd):
  ∃s1 U',ev1 C S0 oi (L.b i) s=I s1/\(∀id,L.b i<=id->id<L.b i+16->s.H id=G)/\PaR C S0 L U' s1 s'/\ ∀k,k∈U'↔k∈Bd/\k≠i:=by
 obtain⟨hr,hp,hlt,hd,hf⟩:=h;obtain⟨l1,l2,rfl⟩:=U3 hiU;have hRn:∀j∈l1++i::l2,¬L.R j i:=by
  intro j hj hR;obtain⟨e,he,hb,Ue⟩:=hn.anc j i oi hoi hR;have heU:=KR e he hb;obtain h|h:=Ue
  .exact heU (h▸hj)
  .have bf:=hn.dir i oi e hoi he hb;exact hd e.on j (by have:=hlt i hiU;omega) heU h hj
 have Ck:=Run.first hn l1 s hr hp hRn hf
 cases Ck with
 | cons Uv Ut t=>
  rename_i o' s1;rw[hoi]at Uv;cases Uv;have hnd:(l1++i::l2).Nodup:=hp.imp λh=>P8 h;have FR:∀j,j∈l1++l2↔j∈l1++i::l2/\j≠i:=by
   intro j;have Jj:=Jb.1 hnd;constructor
   .intro hj;refine⟨?_, ?_⟩
    .rcases BN.1 hj with h|h
     .exact Bz _ h
     .exact CW _ (Ah _ h)
    .rintro rfl;obtain h|h:=BN.1 hj
     .exact Jj.2.2 j h j Ao rfl
     .exact(IG.1 Jj.2.1).1 h
   .rintro⟨hj,hne⟩;obtain h|h:=BN.1 hj
    .exact Bz _ h
    .rcases Bj.1 h with h|h
     .exact absurd h hne
     .exact CW _ h
  refine⟨s1,l1++l2,Ut.ev,λid h1 h2=>(hf i hiU oi hoi).2.2 id h1 h2,⟨t, ?_,λj hj=>hlt j ((FR j).1 hj).1, ?_, ?_⟩,FR⟩
  .have p2:=NO.1 hp;exact NO.2 ⟨p2.1,(KE.1 p2.2.1).2,λx hx y hy=>p2.2.2 x hx y<|Ah _ hy⟩
  .intro k x hk hkU hR hx;have hxU:=((FR x).1 hx).1;by_cases e:k=i
   .subst e;exact hRn x hxU hR
   .exact hd k x hk (λh=>hkU<|(FR k).2 ⟨h,e⟩) hR hxU
  .intro j hj;obtain⟨hjU,hne⟩:=(FR j).1 hj;refine(hf j hjU).step hn hoi (LL hne) (hRn j hjU) Ut λk hk=> ?_;by_cases e:k=i
   .exact .inl e
   .exact .inr<|(FR k).2 ⟨hk,e⟩
structure Jf (C:Cx) (ops:Array Oper) (zs:List Nat) (L:Lb) (B7:Nat->Prop) (s s':S):Prop where
 nice:PT (FH ops zs) L
 ex:∃Bd,PaR C (FH ops zs) L Bd s s'/\ ∀j x,zs[j]? =I x->(j∈Bd↔B7 x)
def axZ{zs:List Nat}{o:Oper}(hg:o.guard=G)(b:Nat)(s:S):ev1 C (FH ops zs) (RH zs o) b s=CR C (AF S) o b s I:=by
 unfold ev1 evG;have:(RH zs o).guard=G:=hg;rw[this];rfl
def awF{o:Oper}(hg:o.guard=G)(b:Nat)(s:S):ev1 C ops o b s=CR C (AF S) o b s I:=by
 unfold ev1 evG;rw[hg]
def Jf.pick{zs:List Nat}{B7:Nat->Prop}(h:Jf C ops zs L B7 s s')(hz:zs.Nodup){j i:Nat}(hj:zs[j]? =I i)(hD:B7 i){o:Oper}(ho:ops[i]? =I o)(hg:o.guard=G)
  (KR:∀e∈o.after,Fj .any e=Y->¬B7 e.on):
  ∃s1,CR C (AF S) o (L.b j) s I=I s1/\(∀id,L.b j<=id->id<L.b j+16->s.H id=G)/\Jf C ops zs L (λk=>B7 k/\k≠i) s1 s':=by
 obtain⟨hn,Bd,hp,hU⟩:=h;obtain⟨s1,U',h1,h2,h3,h4⟩:=hp.pick hn ((hU j i hj).2 hD) (asL hj ho) λe he hb hm=>by
  obtain⟨e0,he0,hb0,hz0⟩:=aus he;exact KR e0 he0 (by rw[hb0];exact hb)<|(hU _ _ hz0).1 hm
 refine⟨s1,by rw[← axZ hg];exact h1,h2,hn,U',h3,λk x hk=> ?_⟩;rw[h4,hU k x hk];refine and_congr_right λ_=>not_congr ⟨λe=> ?_,λe=> ?_⟩
 .subst e;rw[hk]at hj;cases hj;rfl
 .subst e;have hk1:=(BR.1 hk);have hj1:=(BR.1 hj);obtain⟨a1,a2⟩:=hk1;obtain⟨b1,b2⟩:=hj1;have hpw:=KG.1 hz;obtain h|h|h:=J0 k j
  .exact absurd (a2.trans b2.symm) (hpw k j a1 b1 h)
  .exact h
  .exact absurd (b2.trans a2.symm)<|hpw j k b1 a1 h
def Jf.done{zs:List Nat}{B7:Nat->Prop}(h:Jf C ops zs L B7 s s')(hD:∀x∈zs,¬B7 x):s=s':=by
 obtain⟨hn,Bd,hp,hU⟩:=h;have:Bd=[]:=by
  cases Bd with
  | nil=>rfl
  | cons j l=>
   exfalso;have hlt:=hp.lt j Ao;rw[kB]at hlt;have hz:zs[j]? =I zs[j]:=Av hlt;exact hD _ (Ci hlt)<|(hU j _ hz).1 Ao
 subst this;have:=hp.run;cases this;rfl
def nH{zs:List Nat}{k:S->Option Ω}(he:evD C (FH ops zs) s (FH ops zs).toList 0 s.nid [] s k=I q)(hfr:Fr s)(B7:Nat->Prop)(hD:∀x∈zs,B7 x):
  ∃L s',Jf C ops zs L B7 s s'/\(∀j,L.b j=s.nid+16 * j)/\Fr { s' with nid:=s.nid+16 * zs.length } /\s'.n=s.n/\s'.pins=s.pins/\k { s' with nid:=s.nid+16 * zs.length } =I q:=by
 obtain⟨rs,s',h1,h2,h3,h4⟩:=lG (b0:=s.nid) (FH ops zs).toList 0 s.nid [] s he trivial rfl rfl aG9;simp only[CE,DM]at h2 h4;have hn:rs.reverse.length=(FH ops zs).size:=by simpa using h3
 have hpl:=h2.places;rw[nD,hn]at hpl;have La:∀j,Fit (FH ops zs) (C5 rs.reverse s.nid) (B1 (FH ops zs).size) s j:=λj=>h2.fit hn hfr;have Ck:=jv h2 hn rs s s' h1 (λr hr=>by simpa using hr) (by rw[hpl];exact Qp) (λr hr=>by rw[hpl];exact La _);rw[hpl]at Ck;have hlen:(FH ops zs).toList.length=zs.length:=by simp[FH]
 have PO:BI (λj=>j<s.nid+16 * zs.length) s s':=kP rs s s' _ h1 λr hr=>by
  have hr':r∈rs.reverse:=by simpa using hr
  have e1:=(h2.Mi hr').1;have e2:=h2.lt r hr';rw[hn,kB]at e2;omega
 rw[hlen]at h4;refine⟨C5 rs.reverse s.nid,s',⟨h2.nice hn,B1 (FH ops zs).size,⟨Ck,Qp,λj hj=>Cy.1 hj,λi x hi hiU _=>absurd (Cy.2 hi) hiU,λj _=>La j⟩,λj x hj=> ?_⟩,
  λj=>rfl,λj hj=> ?_,PO.n,PO.pins,h4⟩
 .rw[Cy,kB];exact⟨λ_=>hD x<|Cp hj,λ_=>(BR.1 hj).1⟩
 .have hj:s.nid+16 * zs.length<=j:=hj;exact PO.nn j J<|hfr j J
end
end Go.VS
namespace Go.VS
open Go
def evX{Ω:Type}(C:Cx)(inl:Inl Ω)(ops:Array Oper)(ys:List Nat)(m:Nat)(zs:List Nat)(s:S)(k:S->Option Ω):Option Ω:=
 evD C (FH ops ys) s (FH ops ys).toList 0 s.nid [] s λs1=>match ops[m]? with
  | some om=>evG C inl ops om s1.nid s1 λs2=>evD C (FH ops zs) { s2 with nid:=s2.nid+16 } (FH ops zs).toList 0 (s2.nid+16) [] { s2 with nid:=s2.nid+16 } k
  | none=>G
structure XOk (ops:Array Oper) (m f:Nat):Prop where
 mf:m<f
 sz:f<ops.size
 guard:∀(i:Nat) (o:Oper),ops[i]? =I o->o.guard=G
 dir:∀(i:Nat) (o:Oper) (e:Edge),ops[i]? =I o->e∈o.after->Fj .any e=Y->e.on<i
 cov:∀i,i<m->∃j o e,i<j/\j<=m/\ops[j]? =I o/\e∈o.after/\Fj .any e=Y/\e.on=i
 late:∀i,m<i->i<ops.size->i≠f->∃o e,ops[i]? =I o/\e∈o.after/\Fj .any e=Y/\(e.on=m\/(m<e.on/\e.on≠f))
abbrev aft(m n:Nat):List Nat:=List.range' (m+1)<|n - (m+1)
abbrev KN(m n f:Nat):List Nat:=(aft m n).filter λx=> !(Af x f)
section
variable {C:Cx} {B:Be} {ops:Array Oper} {stk:List (Array Value)} {Ω:Type} {q:Ω} {inl:(Ω:Type)->Inl Ω}
def nW{m n x:Nat}:x∈aft m n↔m<x/\x<n:=by
 rw[List.mem_range'_1];omega
def OS{m n f x:Nat}:x∈KN m n f↔(m<x/\x<n)/\x≠f:=by
 rw[F8,nW];refine and_congr_right λ_=> ?_;rw[CM,← GK,HJ]
def aGE{m j:Nat}(h:j<m):(B1 m)[j]? =I j:=by simp[h]
def aEo{m f j:Nat}(h:j<m):(B1 m++[f])[j]? =I j:=by
 rw[II<|by simpa using h];exact aGE h
def atx{m f:Nat}:(B1 m++[f])[m]? =I f:=by
 rw[FN aG9];simp
def K2(C:Cx)(ops:Array Oper)(zs:List Nat)(k:S->Option Ω)(s2:S):Option Ω:=
 evD C (FH ops zs) { s2 with nid:=s2.nid+16 } (FH ops zs).toList 0 (s2.nid+16) [] { s2 with nid:=s2.nid+16 } k
inductive Way (C:Cx) (ops:Array Oper) (m f:Nat) (inl:Inl Ω) (k:S->Option Ω) (q:Ω) (s0:S) (B7:Nat->Prop) (s:S):Prop
 | one (hm:B7 m) (hf:B7 f) (hz:∀x∈KN m ops.size f,B7 x) (L1 L2:Lb) (s1 s2:S) (b1:∀j,L1.b j=s0.nid+16 * j) (b2:∀j,L2.b j=s0.nid+16 * j)
   (p1:Jf C ops (B1 m) L1 B7 s s1) (p2:Jf C ops (B1 m++[f]) L2 B7 s s2)
   (f1:Fr { s1 with nid:=s0.nid+16 * m }) (f2:Fr { s2 with nid:=s0.nid+16 * (m+1) })
   (n1:s1.n=s0.n/\s1.pins=s0.pins) (n2:s2.n=s0.n/\s2.pins=s0.pins)
   (k1:∀om,ops[m]? =I om->evG C inl ops om (s0.nid+16 * m) { s1 with nid:=s0.nid+16 * m } (K2 C ops (aft m ops.size) k)=I q)
   (k2:∀om,ops[m]? =I om->evG C inl ops om (s0.nid+16 * (m+1)) { s2 with nid:=s0.nid+16 * (m+1) } (K2 C ops (KN m ops.size f) k)=I q):Way C ops m f inl k q s0 B7 s
 | two (hm:B7 m) (hf:¬B7 f) (hz:∀x∈KN m ops.size f,B7 x) (L2:Lb) (s2:S)
   (p2:Jf C ops (B1 m++[f]) L2 B7 s s2)
   (f2:Fr { s2 with nid:=s0.nid+16 * (m+1) })
   (n2:s2.n=s0.n/\s2.pins=s0.pins)
   (k2:∀om,ops[m]? =I om->evG C inl ops om (s0.nid+16 * (m+1)) { s2 with nid:=s0.nid+16 * (m+1) } (K2 C ops (KN m ops.size f) k)=I q):Way C ops m f inl k q s0 B7 s
 | fin (hm:¬B7 m) (ha:∀x,x<m->¬B7 x) (zs:List Nat) (hn:zs.Nodup) (hD:∀x,B7 x->x∈zs) (L:Lb) (s':S) (p:Jf C ops zs L B7 s s')
   (N:Nat) (f2:Fr { s' with nid:=N }) (n2:s'.n=s0.n/\s'.pins=s0.pins) (k2:k { s' with nid:=N } =I q):Way C ops m f inl k q s0 B7 s
def St.pg{β:Beta}{s:S}{a:Act}{w:World}(h:St B β stk s a w)(N:Nat):St B β stk { s with nid:=N } a w:=⟨h.T,h.stack,h.n,h.defers,h.pins,h.gs,h.hs⟩
def auL(hP:C.P=B.P)(hm:B.P.follows .mixedOrders=Y)(hC:HW C B)(hI:JN C B inl){m f:Nat}(hX:XOk ops m f){k:S->Option Ω}{s0:S}
  (he1:evX C (inl Ω) ops (B1 m) m (aft m ops.size) s0 k=I q)(he2:evX C (inl Ω) ops (B1 m++[f]) m (KN m ops.size f) s0 k=I q)(hfr:Fr s0)
  {β:Beta}{a:Act}{w:World}(hst:St B β stk s0 a w){id:Nat}{Q:Exit->Act->World->Prop}
  (hQ:∀β a w s',St B β stk s' a w->Fr s'->s'.n=s0.n->s'.pins=s0.pins->k s'=I q->Q .normal a w):(R5 id ops Y).wp B.P Q a w:=by
 have hmf:=hX.mf;have hsz:=hX.sz;have Mg:St B β stk s0 a { w with drawn:=w.drawn+1 } :=by
  have hk:Kp w β { w with drawn:=w.drawn+1 } β:=Kp.heap rfl;exact hst.keep hk (H':=s0.H)<|hst.hs.drew
 refine wp_region_any hm ?_;refine asU (λB7 a w=>∃β s,St B β stk s a w/\Way C ops m f (inl Ω) k q s0 B7 s) hX.dir ?_ ?_ ops.size (B1 ops.size) _ a _ aG9 mL (λj=> ?_) aG9 (λj oj hoj hj=>absurd (Cy.2 (HH.1 hoj).1) hj) ?_
 ·
  rintro B7 a w hD ⟨β,s,hs,hW⟩;cases hW with
  | one hm'=>exact absurd hm'<|hD _
  | two hm'=>exact absurd hm'<|hD _
  | fin _ _ zs hn _ L s' p N f2 n2 k2=>
   have:=p.done λx _=>hD x;subst this;exact hQ β a w _ (hs.pg N) f2 n2.1 n2.2 k2
 ·
  rintro B7 i a w o ⟨β,s,hs,hW⟩ hlt hcl hDi ho KR;have hg:=hX.guard i o ho;have CN:∀ {zs:List Nat} {L:Lb} {s':S} {j:Nat},Jf C ops zs L B7 s s'->zs.Nodup->zs[j]? =I i->(∀s1,CR C (AF S) o (L.b j) s I=I s1->Jf C ops zs L (λk=>B7 k/\k≠i) s1 s'->Way C ops m f (inl Ω) k q s0 (λk=>B7 k/\k≠i) s1)->
    wpOp B.P ops Q i (λa w=>∃β s,St B β stk s a w/\Way C ops m f (inl Ω) k q s0 (λk=>B7 k/\k≠i) s) a w:=by
   intro zs L s' j hp hz hj Md;obtain⟨s1,h1,h2,h3⟩:=hp.pick hz hj hDi ho hg KR;refine nI hP hC ho hs (b:=L.b j) h2 (show ev1 C ops o (L.b j) s=I s1 by rw[awF hg];exact h1) ?_;intro β' u w' Mg;exact⟨β',s1,Mg,Md s1 h1 h3⟩
  have ndA:(B1 m++[f]).Nodup:=by
   rw[Jb];refine⟨mL,by simp,λx hx y hy e=> ?_⟩;have:=Cy.1 hx;have:=C1.1 hy;omega
  have abp:B7 m->(∀x∈KN m ops.size f,B7 x)->¬(m<i/\i≠f):=by
   rintro hm' hz ⟨h1,h2⟩;obtain⟨o',e,ho',he,hb,Ue⟩:=hX.late i h1 (hlt i hDi) h2;rw[ho]at ho';cases ho';refine KR e he hb ?_;obtain h|⟨h3,h4⟩:=Ue
   .rw[h];exact hm'
   .exact hz _<|OS.2 ⟨⟨h3,by have:=hX.dir i o e ho he hb;have:=hlt i hDi;omega⟩,h4⟩
  have Uc:i=m->∀x,x<m->¬B7 x:=by
   intro e x hx;have:∀n x,m - x=n->x<m->¬B7 x:=by
    intro n
    induction n using Nat.strongRecOn with
    | ind n ih=>
     intro x hn hx;obtain⟨j,oj,e',h1,h2,h3,h4,h5,h6⟩:=hX.cov x hx;obtain h7|h7:=Nat.lt_or_eq_of_le h2
     .have:=hcl j oj h3 (ih (m - j) J j rfl h7) e' h4 h5;rw[h6]at this;exact this
     .subst h7;rw[← e,ho]at h3;cases h3;have:=KR e' h4 h5;rw[h6]at this;exact this
   exact this _ x rfl hx
  have aD5:∀ {b:Nat} {s1:S} {zs:List Nat},i=m->s=s1->Fr { s1 with nid:=b } ->(s1.n=s0.n/\s1.pins=s0.pins)->(∀x∈zs,B7 x/\x≠i)->zs.Nodup->(∀x,B7 x/\x≠i->x∈zs)->
    (∀om,ops[m]? =I om->evG C (inl Ω) ops om b { s1 with nid:=b } (K2 C ops zs k)=I q)->
    wpOp B.P ops Q i (λa w=>∃β s,St B β stk s a w/\Way C ops m f (inl Ω) k q s0 (λk=>B7 k/\k≠i) s) a w:=by
   intro b s1 zs e1 e2 hf1 hn1 hz hnd hin hk;subst e1;subst e2;refine aGR hP hC hI ho (s:={ s with nid:=b }) (hk o ho) (hs.pg b) hf1 ?_;intro β' u w' s' hs' hf' hn' hp' hk';obtain⟨L,s2,p,_,amt,hn2,hp2,hk2⟩:=nH (s:={ s' with nid:=s'.nid+16 }) hk' (λj hj=>hf' j hj) (λk=>B7 k/\k≠i) hz;exact⟨β',_,hs'.pg _,.fin (λh=>h.2 rfl) (λx hx h=>Uc rfl x hx h.1) zs hnd hin L s2 p _ amt ⟨hn2.trans<|hn'.trans hn1.1,hp2.trans<|hp'.trans hn1.2⟩ hk2⟩
  have nd1:(aft m ops.size).Nodup:=List.nodup_range';have nd2:(KN m ops.size f).Nodup:=nd1.filter _;cases hW with
  | one hm' hf' hz L1 L2 s1 s2 b1 b2 p1 p2 f1 f2 n1 n2 k1 k2=>
   obtain h|h|h:=J0 i m
   .refine CN p1 mL (aGE h) λt1 e1 q1=> ?_;obtain⟨t2,e2,_,q2⟩:=p2.pick ndA (aEo h) hDi ho hg KR;rw[b2,← b1,e1]at e2;cases e2;exact .one ⟨hm',J⟩ ⟨hf',J⟩ (λx hx=>⟨hz x hx,by have:=(OS.1 hx).1.1;omega⟩) L1 L2 s1 s2 b1 b2 q1 q2 f1 f2 n1 n2 k1 k2
   .have e:=p1.done λx hx=>Uc h x<|Cy.1 hx;refine aD5 h e f1 n1 (λx hx=> ?_) nd1 (λx hx=> ?_) k1
    .have hx:=nW.1 hx;refine⟨?_,J⟩;by_cases e':x=f
     .rw[e'];exact hf'
     .exact hz x (OS.2 ⟨hx,e'⟩)
    .refine nW.2 ⟨?_,hlt x hx.1⟩;obtain h2|h2|h2:=J0 x m
     .exact absurd hx.1 (Uc h x h2)
     .exact absurd (h2.trans h.symm) hx.2
     .exact h2
   .by_cases e:i=f
    .refine CN p2 ndA (j:=m) (by rw[e];exact atx) λt1 e1 q1=> ?_;exact .two ⟨hm',J⟩ (λh=>h.2 e.symm) (λx hx=>⟨hz x hx,by have:=(OS.1 hx).2;omega⟩) L2 s2 q1 f2 n2 k2
    .exact absurd ⟨h,e⟩<|abp hm' hz
  | two hm' hf' hz L2 s2 p2 f2 n2 k2=>
   obtain h|h|h:=J0 i m
   .refine CN p2 ndA (aEo h) λt1 e1 q1=> ?_;exact .two ⟨hm',J⟩ (λh=>hf' h.1) (λx hx=>⟨hz x hx,by have:=(OS.1 hx).1.1;omega⟩) L2 s2 q1 f2 n2 k2
   .have e:=p2.done λx hx=>by
     obtain hx|hx:=BN.1 hx
     .exact Uc h x (Cy.1 hx)
     .rw[C1.1 hx];exact hf'
    refine aD5 h e f2 n2 (λx hx=>⟨hz x hx,by have:=(OS.1 hx).1.1;omega⟩) nd2 (λx hx=>OS.2 ⟨⟨?_,hlt x hx.1⟩,λe'=>hf'<|e'▸hx.1⟩) k2;obtain h2|h2|h2:=J0 x m
    .exact absurd hx.1 (Uc h x h2)
    .exact absurd (h2.trans h.symm) hx.2
    .exact h2
   .by_cases e:i=f
    .exact absurd (e▸hDi) hf'
    .exact absurd ⟨h,e⟩<|abp hm' hz
  | fin hm' ha zs hn hD L s' p N f2 n2 k2=>
   obtain⟨j,hj⟩:=mw.1<|hD i hDi;refine CN p hn hj λt1 e1 q1=> ?_;exact .fin (λh=>hm' h.1) (λx hx h=>ha x hx h.1) zs hn (λx hx=>hD x hx.1) L s' q1 N f2 n2 k2
 .rw[Cy];constructor
  .intro h;exact⟨h,by simp[h]⟩
  .exact λh=>h.1
 ·
  obtain⟨om,hom⟩:∃o,ops[m]? =I o:=⟨ops[m],by simp[show m<ops.size by omega]⟩;unfold evX at he1 he2;obtain⟨L1,s1,p1,b1,fr1,n1,pn1,k1⟩:=nH he1 hfr (λk=>k∈B1 ops.size) (λx hx=>Cy.2 (by have:=Cy.1 hx;omega));obtain⟨L2,s2,p2,b2,fr2,n2,pn2,k2⟩:=nH he2 hfr (λk=>k∈B1 ops.size) (λx hx=>Cy.2 (by
   obtain h|h:=BN.1 hx
   .have:=Cy.1 h;omega
   .rw[C1.1 h];exact hsz))
  have l1:(B1 m).length=m:=by simp
  have l2:(B1 m++[f]).length=m+1:=by simp
  rw[l1]at fr1 k1;rw[l2]at fr2 k2;simp only[hom]at k1 k2;exact⟨β,s0,Mg,.one (Cy.2 J) (Cy.2 hsz) (λx hx=>Cy.2 (OS.1 hx).1.2) L1 L2 s1 s2 b1 b2 p1 p2 fr1 fr2 ⟨n1,pn1⟩ ⟨n2,pn2⟩
   (λo h=>by rw[hom]at h;cases h;exact k1) (λo h=>by rw[hom]at h;cases h;exact k2)⟩
end
end Go.VS
namespace Go.VS
open Go
section
variable {C:Cx} {B:Be} {β:Beta} {H:Hp} {w w':World} {M:Nat->Prop} {stk:List (Array Value)} {s s':S} {a:Act} {P:Program} {e e':Nat->Value} {inl:(Ω:Type)->Inl Ω}
def auW{P:Program}(hP:C.P=P){f:FuncId}{fn:Func}{body:Code}(hf:P.funcs[f]? =I fn)(KQ:(fn.name == "runtime.NumGoroutine")=A0)
  (hb:fn.body=I body){m:DZ}(hok:okM m fn.ntmps=Y)
  (hw:∀(x:LTs m.ps) (r:LTs m.rs×LTs (B2 m.ps)),m.g x=I r->∀(B:Be),B.P=P->∀(β:Beta) (a:Act) (w:World) (Q:Exit->Act->World->Prop),St B β [] (RJ fn.ntmps m.ps x) a w->Fr (RJ fn.ntmps m.ps x)->
   KOK B [] fn.ntmps (Dy 0 m.ps) { nrm:=fin C.P fn m,ret:=fin C.P fn m,ext:=λ_ _=>G } r Q->body.wp B.P Q a w):H7 P f m:=by
 refine⟨ON hf KQ hb,λx r hx w Z args os hr hnd hbl hZ hgl=> ?_⟩;have hw:=hw x r hx;have Uu:=hok;simp only[okM,AE]at Uu;obtain⟨⟨⟨hps,hrs⟩,hn⟩,_⟩:=Uu;have hn:=DL hn;have hlen:=hr.length
 let B:Be:={ P:=P,w0:=w,O:=λb=>b∈Az os,tm0:=ar args,Z:=Z,gl:=hgl }
 have Rj:Num (Hi Z os) 0 os:=mI Z os;obtain⟨k1,k2,k3⟩:=Yr (β:=Hi Z os) (E:=λ_=> .un) (M:=λb=>b∈Az os\/Z b) (P:=P) (w:=w) (e:=ar args) (λb hb=>ni (B:=B) hb) m.ps (λ_=>G) 0 x args os hps hr Rj (λt _=>trivial);have hi:RJ fn.ntmps m.ps x=(match Aj (λ_=> .un) (λ_=>G) 0 m.ps x with
  | (vs,H,b)=>{ n:=fn.ntmps,T:=λt=>(vs[t]?).getD Dp,H:=H,nid:=b,st:=[],pins:=Dy 0 m.ps,gs:=λ_=>A0 }):=rfl
 rw[hi]at hw;generalize Aj (λ_=> .un) (λ_=>G) 0 m.ps x=q at *;obtain⟨vs,H,b⟩:=q;simp only at hw k1 k2 k3;have hH:Hs B (Hi Z os) H w:={
  EJ:=λid ob ho=>by
   by_cases h:id<os.length
   .obtain⟨ob',h1,h2⟩:=k3.2 id (Ch _) J;rw[h1]at ho;cases ho;exact h2
   .rw[k3.1 id J]at ho;cases ho
  dom:=λid p hp=>by
   have h:id<os.length:=(BR.1<|show os[id]? =I p from hp).1;obtain⟨ob',h1,_⟩:=k3.2 id (Ch _) J;exact⟨ob',h1⟩
  inj:=λi j p q a a' hi hj=>Yp hnd i j p q a a' hi hj
  old:=λb hb=>⟨.inl<|N9 hb,(hbl b<|N9 hb).1⟩
  os:=rfl
  tape:=rfl
  output:=rfl
  size:=Ar _
  block:=λ_ _ _=>rfl
  z:=rfl
  zn:=λid p a hp ha=>(hbl _<|N9 (Z:=Z) ⟨id,p.1,p.2,a,hp,ha,rfl⟩).2
  zl:=hZ
  pk:=Pk.refl _ _ }
 refine calls_of_wp hf hb ?_;have hst:St B (Hi Z os) [] { n:=fn.ntmps,T:=λt=>(vs[t]?).getD Dp,H:=H,nid:=b,st:=[],pins:=Dy 0 m.ps,gs:=λ_=>A0 } { tmps:=args.toArray++Qj (fn.ntmps - args.toArray.size) undef,defers:=[] } w:=by
  refine⟨λt=> ?_,⟨rfl,λi T' tm h=>by simp at h⟩, ?_,rfl,λt _=>Sm args _ t,λt g want y hy=> ?_,hH⟩
  .rw[Sm];show RT w _ _ ((vs[t]?).getD Dp) _;cases hv:vs[t]? with
   | none=>
    have:args.length<=t:=by
     rw[k1.1];exact Zh.1 hv
    show RT w _ _ Dp (ar args t);have e0:ar args t=undef:=by simp[ar,Hm this]
    rw[e0];rfl
   | some c=>
    have hlt:t<args.length:=by rw[k1.1];exact(BR.1 hv).1
    have hu:args[t]? =I (ar args t):=by simp[ar,hlt]
    exact(k1.2 t c _ hv hu).bQ
  .simp;omega
  .have hy:(vs[t]?).getD Dp= .gd g want y:=hy;cases hv:vs[t]? with
   | none=>rw[hv]at hy;cases hy
   | some c=>
    rw[hv]at hy;have hy:c= .gd g want y:=hy;have hlt:t<args.length:=by rw[k1.1];exact(BR.1 hv).1
    have hu:args[t]? =I (ar args t):=by simp[ar,hlt]
    have:=k1.2 t c _ hv hu;rw[hy]at this;exact this.elim
 refine hw B rfl _ _ _ _ hst (λj hj=>k3.1 j<|.inr (by have hj:b<=j:=hj;omega)) ⟨?_, ?_, ?_⟩
 .intro β' a' w' s' h1 h2 h3 h4 h5;obtain⟨v',i1,i2⟩:=Zb (B:=B) h1 rfl rfl hlen h4 hok (show fin P fn m s'=I r by rw[← hP];exact h5);exact⟨h1.defers,v',i1,v',rfl,i2⟩
 .intro β' a' w' s' h1 h2 h3 h4 h5;obtain⟨v',i1,i2⟩:=Zb (B:=B) h1 rfl rfl hlen h4 hok (show fin P fn m s'=I r by rw[← hP];exact h5);exact⟨h1.defers,v',i1,v',rfl,i2⟩
 .intro id β' a' w' s' h1 h2 h3 h4 h5;cases h5
def PJ(C:Cx)(inl:(Ω:Type)->Inl Ω)(fn:Func)(ys:List Nat)(l:Nat)(zs:List Nat)(m:DZ)(x:LTs m.ps):Option (LTs m.rs×LTs (B2 m.ps)):=
 match fn.body with
 | some (.seq (.region _ o0 A0) (.seq (.region _ ops Y) rest))=>
  (PC C (inl S) o0 o0.toList (RJ fn.ntmps m.ps x) I).bind λs1=>evX C (inl _) ops ys l zs s1 λs'=>evk C inl rest _ .nil { nrm:=fin C.P fn m,ret:=fin C.P fn m,ext:=λ_ _=>G } s'
 | _=>G
def bnd(e:Edge):Bool:=Fj .any e
def ax(ops:Array Oper)(m f:Nat):Bool:=
 IJ m f&&IJ f ops.size&&(B1 ops.size).all (λi=>match ops[i]? with
  | some o=>o.guard.isNone&&o.after.toList.all (λe=> !(bnd e)||IJ e.on i)&&
   (!(IJ m i)||Af i f||o.after.toList.any (λe=>bnd e&&(Af e.on m||(IJ m e.on&& !(Af e.on f)))))
  | none=>Y)&&
 (B1 m).all (λi=>(B1<|m+1).any λj=>IJ i j&&match ops[j]? with
  | some o=>o.after.toList.any λe=>bnd e&&Af e.on i
  | none=>A0)
def axl{ops:Array Oper}{m f:Nat}(h:ax ops m f=Y):XOk ops m f:=by
 simp only[ax,AE,DB]at h;obtain⟨⟨⟨h1,h2⟩,h3⟩,h4⟩:=h;have h1:m<f:=by simpa[PB] using h1
 have h2:f<ops.size:=by simpa[PB] using h2
 have at_:∀(i:Nat) (o:Oper),ops[i]? =I o->(o.guard.isNone=Y/\ ∀e∈o.after.toList,(!(bnd e)||IJ e.on i)=Y)/\
   (!(IJ m i)||Af i f||o.after.toList.any (λe=>bnd e&&(Af e.on m||(IJ m e.on&& !(Af e.on f)))))=Y:=by
  intro i o ho;have:=h3 i<|Cy.2 (HH.1 ho).1;rw[ho]at this;simp only[AE,DB]at this;exact this
 refine⟨h1,h2,λi o ho=> ?_,λi o e ho he hb=> ?_,λi hi=> ?_,λi hi1 hi2 hi3=> ?_⟩
 .simpa using (at_ i o ho).1.1
 .have:=(at_ i o ho).1.2 e (by simpa using he);rw[show bnd e=Y from hb]at this;simpa[PB] using this
 .have:=h4 i<|Cy.2 hi;obtain⟨j,hj,hc⟩:=KD.1 this;rw[AE]at hc;obtain⟨c1,c2⟩:=hc;cases ho:ops[j]? with
  | none=>rw[ho]at c2;cases c2
  | some o=>
   rw[ho]at c2;obtain⟨e,he,hc⟩:=KD.1 c2;rw[AE]at hc;exact⟨j,o,e,by simpa[PB] using c1,by have:=Cy.1 hj;omega,ho,by simpa using he,hc.1,by simpa using hc.2⟩
 .obtain⟨o,ho⟩:∃o,ops[i]? =I o:=⟨ops[i],by simp[hi2]⟩;have:=(at_ i o ho).2;have e1:IJ m i=Y:=by simpa[PB] using hi1
  have e2:Af i f=A0:=by rw[← GK,HJ];exact hi3
  rw[e1,e2]at this;simp only[AB,Bn]at this;obtain⟨e,he,hc⟩:=KD.1 this;rw[AE,C8,AE]at hc;refine⟨o,e,ho,by simpa using he,hc.1, ?_⟩;obtain h|h:=hc.2
  .exact .inl (by simpa using h)
  .refine .inr ⟨by simpa[PB] using h.1,λh'=> ?_⟩;rw[h']at h;simp at h
def ax6{P:Program}(hP:C.P=P)(hm:P.follows .mixedOrders=Y)(hC:∀B:Be,B.P=P->HW C B)(hI:∀B:Be,B.P=P->JN C B inl){f:FuncId}{fn:Func}
  (hf:P.funcs[f]? =I fn)(KQ:(fn.name == "runtime.NumGoroutine")=A0){i0 i1:Nat}{o0 ops:Array Oper}{rest:Code}
  (hb:fn.body=I (.seq (.region i0 o0 A0)<|.seq (.region i1 ops Y) rest)){m:DZ}(hok:okM m fn.ntmps=Y){l g:Nat}(hx:ax ops l g=Y)
  (h1:∀x,PJ C inl fn (B1 l) l (aft l ops.size) m x=m.g x)(h2:∀x,PJ C inl fn (B1 l++[g]) l (KN l ops.size g) m x=m.g x):H7 P f m:=by
 refine auW hP hf KQ hb hok λx r hr B hB β a w Q hst hfr hk=> ?_;have e1:=h1 x;have e2:=h2 x;rw[hr]at e1 e2;unfold PJ at e1 e2;rw[hb]at e1 e2;simp only at e1 e2;obtain⟨s1,a1,a2⟩:=Ag.1 e1;obtain⟨s1',b1,b2⟩:=Ag.1 e2;rw[a1]at b1;cases b1;have hPB:C.P=B.P:=by rw[hP,hB]
 have hmB:B.P.follows .mixedOrders=Y:=by rw[hB];exact hm
 have hCB:=hC B hB;have hIB:=hI B hB;refine wp_seq ?_;refine aCS hPB hCB hIB a1 hfr hst ?_;intro β' a' w' s' k1 k2 k3 k4 k5;cases k5;refine wp_seq ?_;refine auL hPB hmB hCB hIB (axl hx) a2 b2 k2 k1 ?_;intro β2 a2' w2 s2 j1 j2 j3 j4 j5;exact Xx hPB hmB hCB hIB rest .nil _ s2 r j5 j1 j2 (G7 _ _) (by rw[j3,j4,k3,k4];exact hk)
def soX{P:Program}{C:Cx}{inl:(Ω:Type)->Inl Ω}{f:Nat}{d:Option Nat}{fn:Func}{m:DZ}(hC:OKC P C inl){i0 i1:Nat}{o0 ops:Array Oper}{rest:Code}
  (hf:fnB P f fn m=(I fn,A0,Y,Y))(hb:fn.body=I (.seq (.region i0 o0 A0)<|.seq (.region i1 ops Y) rest)){l g:Nat}(hx:ax ops l g=Y)
  (h1:∀x,PJ C inl fn (B1 l) l (aft l ops.size) m x=m.g x)(h2:∀x,PJ C inl fn (B1 l++[g]) l (KN l ops.size g) m x=m.g x):SQ P (f,d,m):=by
 simp only[fnB,CS]at hf;exact⟨ax6 hC.p hC.m hC.c hC.i hf.1 hf.2.1 hb hf.2.2.1 hx h1 h2,hf.2.2.2⟩
end
end Go.VS
namespace Go.VS
open Go
section
variable {P:Program} {w:World} {H:Type} {Ek:TypeId×Value->H} {base:Nat} {spare:Nat->Bool} {held:Bool}
def aCY{h:Sh}{c:CT}{t e:TypeId}{v:Value}{d:DataW H}{ps:List MemPlace}{r:Reach}{b0:Nat}(hs:pD h=I c)(hok:Tp P 60 t c=Y)(ht:P.underlying t=I (.slice e))(Ji:Qt P w r b0 t v)
  (hd:DataW.Trod Ek P w base spare held t v d ps):∃x:LT h,US h x/\ ∀(M:Nat->Prop) (e:Nat->Value),(∀b,¬M b)->Rel P w M e h x v []:=by
 obtain⟨a,len,cap,rfl⟩:=Go.WideShapes.okWide_slice ht Ji;obtain⟨Bl,hf⟩:=hd;exact asc hs<|aEi 60 t c hok ⟨Bl,d,ps,hf⟩
end
def aCO{H:Type}{enc:TypeId×Value->H}{a:Assume}{C:Checked}{os:Os}{f:FuncId}{fn:Func}{s:ChangeSpec}{conds:List PathCond}{apart fresh handsOn again:Bool}{X:World->Array Value->Prop}
  (hX:∀(w w':World) (args:Array Value),w.heap=w'.heap->X w args->X w' args)
  (own:ownKnob C.prog.godebug=G)(started:os.Started)(azO:C.prog.inits.idxOf? f=G)(hfn:C.prog.funcs[f]? =I fn)
  (witness:∃(w:World) (tape:Tape) (i:Input),w.os=os/\(w.forCall tape i).Shaped C.prog/\i.vars=[]/\Input.okWide C.prog (w.forCall tape i) .any w.heap.size f i/\
   ((s.pre enc C.prog fn conds apart (w.forCall tape i).memory i.args/\X (w.forCall tape i).memory i.args)/\sizedMet enc C.prog fn (R3 s) apart (w.forCall tape i).memory i.args)/\a.holds C.prog (lone (Frame.enter C.prog f i.args .normal) [] (w.forCall tape i)))
  (azJ:∀(W:World) (args:Array Value) (b0:Nat) (ds gs:List (DataW H)) (before:List MemPlace),W.ShapedOpen C.prog->(∀(j:Nat) t v,fn.params[j]? =I t->args[j]? =I v->Qt C.prog W .any b0 t v)->
   DataW.Whole enc C.prog fn.params.toList s.vars apart W args.toList ds gs before->X W args->
   Calls C.prog f args W λe W'=>∃v,e= .returned v/\s.post enc C.prog fn apart fresh handsOn again W args v W'):
  ReturnsInHanded a C os f .any (λw args=>(s.pre enc C.prog fn conds apart w args/\X w args)/\sizedMet enc C.prog fn (R3 s) apart w args) (s.post enc C.prog fn apart fresh handsOn again):=by
 refine returnsInHanded_of_calls own started azO witness ?_;intro w tape i _ hsh _ hok am0 _;obtain⟨_,_,_,fn',amv,_,_,_,_,Ji⟩:=hok;have e:fn'=fn:=E5<|amv.symm.trans hfn;subst e;obtain⟨⟨⟨ds,gs,before,hw,_⟩,hx⟩,_⟩:=am0;refine(azJ (w.forCall tape i) i.args _ ds gs before hsh Ji (DataW.Whole.of_heap (w':=w.forCall tape i) (by rfl) hw)<|hX _ _ _ (by rfl) hx).mono λe W' ⟨v,he,hp⟩=> ?_;subst he;exact ChangeSpec.post_blind hp
end Go.VS
end
