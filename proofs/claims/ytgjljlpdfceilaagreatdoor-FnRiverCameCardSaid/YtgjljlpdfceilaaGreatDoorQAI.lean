/- Part 3. -/
import Derived.Tactics
import Derived.Test.YtgjljlpdfceilaaGreatDoorQAE
import Derived.ChangeShapes
import Derived.Lib.Split
import Derived.Lib.SplitLaws
import Derived.Lib.IndexMore
import Derived.Deep.Draws
import Derived.Sort.Grow
import Derived.HandedShaped
import Derived.LaidSub
import Derived.MakeChecks
import Derived.Carry
open Array renaming getD_eq_getD_getElem?->Uo,getElem?_append_left->Mn,getElem?_eq_some_iff->Ha,getElem?_toList->Uk,length_toList->FE,replicate->Rk,size_append->S2,size_replicate->pT
open Bool renaming and_eq_true->AD,false->A0,false_eq_true->I1,false_or->Bl,not_eq_true'->Bz,not_eq_true->Gj,not_true->AB,or_eq_false_iff->Mk,or_eq_true->Bp,true->Y
open Classical renaming choose->Nt,choose_spec->J9
open Decidable renaming decide->U
open Go.Calls renaming mono->Ms
open Go.Code renaming region->S1
open Go.DataW renaming trod->HA
open Go.Instr renaming loadAt->No,sureAddr->Jp
open Go.Lib renaming TabIs->Mv,cellsOf->bQ,countB->Nn,cut->Fm,itoa->B7,pow10Tab->Nv,splitB->JD
open Go.Lit renaming int->Nu
open Go.MakeChecks renaming laidMetH_plain->JB
open Go.OpenSpec renaming ofChange->IW
open Go.Region renaming binds->G2,ready->PY,wanted->Jn
open Go.Result renaming andThen_ok->FF
open Go.Sem renaming run_bind->Ev,run_pure->G3
open Go.Sort renaming grow->bH
open Go.Value renaming okWide->Ia,pointer->Ns,string->bS
open Go.World renaming cell?->Mu,cell?_of_block->Uy,drewN->pQ
open Int renaming toNat_of_nonneg->Nq
open List renaming all_cons->Pb,all_eq_true->CZ,any_eq_true->Hd,append_assoc->C7,append_nil->CU,append_of_mem->Uu,cons_append->Lf,drop_drop->J5,drop_eq_getElem_cons->Up,drop_eq_nil_of_le->Mq,drop_zero->J6,eq_nil_of_length_eq_zero->E5,filterMap_append->Mr,filterMap_cons->pL,getD_eq_getElem?_getD->BA,getElem?_append_left->IT,getElem?_append_right->Fl,getElem?_eq_getElem->Ar,getElem?_eq_none->Hz,getElem?_eq_none_iff->bC,getElem?_eq_some_iff->BN,getElem?_map->DI,getElem?_of_mem->aFO,getElem?_range->H6,getElem?_toArray->Ul,getElem_mem->CS,length_append->Ax,length_cons->Bf,mapM_cons->Uq,map_append->Em,map_congr_left->H8,map_cons->DZ,mem_append->BL,mem_append_left->Bw,mem_append_right->CR,mem_cons->Bm,mem_cons_of_mem->Ak,mem_cons_self->As,mem_filter->FU,mem_filterMap->Gg,mem_iff_getElem?->p8,mem_map->C1,mem_of_getElem?->Cs,mem_range->D4,mem_singleton->C8,nodup_append->Jo,nodup_cons->IY,nodup_range->pF,pairwise_append->Nj,pairwise_cons->KW,pairwise_iff_getElem->Jj,pairwise_lt_range->Rr,range->B9,range_succ->IU,reverse_reverse->pU,size_toArray->Le,sublist_append_right->bE,take_append_drop->JA
open List.Perm renaming append_left->bD
open List.Sublist renaming refl->Ek
open List.cons renaming injEq->Mt
open Nat renaming add_assoc->DG,add_comm->Nl,add_mul->EP,beq->Ai,beq_eq->Hc,ble->E7,blt->Ib,blt_eq->PZ,le_add_right->bG,le_of_ble_eq_true->Dg,le_refl->Aw,le_trans->Cc,lor->BO,lt_of_lt_of_le->H9,lt_trichotomy->IX,mul_le_mul_right->EF,ne_of_lt->Pl,sub_zero->Js,zero_add->DR,zero_le->D5,zero_mul->V0
open Ne renaming symm->Li
open Option renaming bind_eq_some_iff->Aj,bind_some->A6,map_eq_some_iff->DH,none->G,some->I
open Option.some renaming inj->Ck
open Prod.mk renaming injEq->CV
set_option linter.all false
noncomputable section
namespace Go.VS
open Go
section
variable {C:Cx} {B:Be} {ops:Array Oper} {stk:List (Array Value)} {s s' s0:S} {b b0:Nat} {Ω:Type} {q:Ω}
def asP{m:Db}{d:Option Nat}{as:List AV}{k:S->Option Ω}:Ht m s b d as k=(Ht m s b d as I).bind k:=by
 unfold Ht;simp only;split
 .rename_i x hx hn;cases m.g x with
  | none=>rfl
  | some r=>
   simp only[A6];split
   .rfl
   .rfl
 .rfl
def Th{r:PR}{f:AV->List Ob->S}{k:S->Option Ω}:(match r with
   | some (q,v,os)=>if q then k (f v os) else G
   | none=>G)=(match r with
   | some (q,v,os)=>if q then I (f v os) else G
   | none=>G).bind k:=by
 cases r with
 | none=>rfl
 | some r=>obtain⟨q,v,os⟩:=r;cases q<;>rfl
def aGJ{o:Oper}{k:S->Option Ω}(inl:Inl Ω)(hi:∀f c,o.op= .call c->c.callee= .value (.func f)->C.Γ f o.dst=G->∀d as s k,inl f d as s k=G):
  CQ C inl o b s k=(CQ C (AF S) o b s I).bind k:=by
 unfold CQ;split
 .rfl
 generalize ho:o.op=op at *;cases op
 case store t p x=>
  simp only;split<;>rfl
 case call c=>
  simp only;split
  .rename_i f hf;split
   .exact asP
   .rename_i hm;rw[hi f c rfl hf hm];rfl
  .split
   .split<;>rfl
   .rfl
  .split<;>rfl
  .first|rfl|exact Th (k:=k) (f:=λv os=>({ s with H:=F2 s.H b os } :S).put o.dst v)
 case slice t x lo hi mx=>
  cases mx with
  | some m=>
   simp only
   first|rfl|exact Th (k:=k) (f:=λv os=>({ s with H:=F2 s.H b os } :S).put o.dst v)
  | none=>
   simp only;split
   .split
    .rfl
    .split
     .split<;>rfl
     .rfl
   .first|rfl|exact Th (k:=k) (f:=λv os=>({ s with H:=F2 s.H b os } :S).put o.dst v)
 case buildSlice t n ps=>
  simp only;generalize (LW s.ev ps.toList).foldl S.freeze s=s3;exact Th (k:=k) (f:=λv os=>({ s3 with H:=F2 s3.H b os } :S).put o.dst v)
 all_goals (simp only;first|rfl|exact Th (k:=k) (f:=λv os=>({ s with H:=F2 s.H b os } :S).put o.dst v))
def awY{o:Oper}{k:S->Option Ω}:evG C (cC Ω) ops o b s k=(ev1 C ops o b s).bind k:=by
 have h:∀b s,∀k:S->Option Ω,CQ C (cC Ω) o b s k=(CQ C (AF S) o b s I).bind k:=λb s k=>aGJ _ λ_ _ _ _ _ _ _ _ _=>rfl;unfold ev1 evG;split
 .exact h _ _ _
 .split
  .rfl
  .split
   .split
    .split<;>rfl
    .rfl
   .rfl
  .split
   .rename_i c _;simp only[h];cases hh:s.has o.dst<;>(split<;>split<;>rfl)
   .split<;>rfl
   .rfl
def cY(C:Cx)(ops:Array Oper):List Rec->S->S->Prop
 | [],s,s'=>s=s'
 | r::l,s,s'=>∃s1,ev1 C ops r.o r.b s=I s1/\((EE C s r.o=G->r.W=r.F/\ ∀i∈Jg C s r.o,Mm r.K i)/\(∀l,EE C s r.o=I l->∀i∈l,Mm r.W i/\Mm r.K i)/\ ∀id,Mm (nm r.b) id->Mm r.K id)/\vOf s1 r.o.dst=I r.V/\cY C ops l s1 s'
def o6{k:S->Option Ω}:∀(l:List Oper) (i b:Nat) (acc:List Rec) (s:S),evD C ops s0 l i b acc s k=I q->Cd C ops s0 b0 acc->i=acc.length->b=b0+16 * i->(∀j,l[j]? =ops[i+j]?)->
  ∃rs s',cY C ops rs s s'/\Cd C ops s0 b0 (rs.reverse++acc)/\rs.length=l.length/\k { s' with nid:=b0+16 * (i+l.length) } =I q
 | [],i,b,acc,s,h,hg,hi,hb,hl=>⟨[],s,rfl,hg,rfl,by
   have h:k { s with nid:=b } =I q:=h;rw[hb]at h;exact h⟩
 | o::l,i,b,acc,s,h,hg,hi,hb,hl=>by
  unfold evD at h;split at h
  .cases h
  rename_i r hr;split at h
  .rename_i hc;rw[awY]at h;obtain⟨s1,h1,h⟩:=Aj.1 h;obtain⟨V,hV,h⟩:=Aj.1 h;simp only[AD,CZ]at hc;unfold abG at hr;obtain⟨anc,ha,hr⟩:=Aj.1 hr;obtain⟨ids,Q7,hr⟩:=Aj.1 hr;obtain⟨c,hcl,hr⟩:=Aj.1 hr;simp only at hr;split at hr
   case h_2=>cases hr
   rename_i alx;have hr:=(Ck hr).symm;have ho:ops[i]? =I o:=by simpa using (hl 0).symm
   have hg':Cd C ops s0 b0 ({ r with V:=V } ::acc):=by
    refine⟨hg, ?_, ?_, ?_, ?_,⟨ids,c, ?_,hcl, ?_⟩, ?_,λx hx=>hc.1.1 x hx, ?_, ?_⟩<;>rw[hr]
    .exact hi
    .show b=_;rw[hb,hi]
    .exact ho
    .exact ha
    .exact Q7
    .have gen:∀F0:Nat,(mvO o=A0/\(match mvO o with
       | true=>BO (msk ids) (nm b)
       | false=>F0)=F0/\(((match mvO o with
       | true=>nm b
       | false=>match pur o,o.guard with
        | true,G=>BO (msk ids) (nm b)
        | _,_=>(match mvO o with
         | true=>BO (msk ids) (nm b)
         | false=>F0))=BO (msk ids) (nm b)/\pur o=Y/\o.guard=G)\/(match mvO o with
       | true=>nm b
       | false=>match pur o,o.guard with
        | true,G=>BO (msk ids) (nm b)
        | _,_=>(match mvO o with
         | true=>BO (msk ids) (nm b)
         | false=>F0))=(match mvO o with
       | true=>BO (msk ids) (nm b)
       | false=>F0)))\/(mvO o=Y/\(match mvO o with
       | true=>BO (msk ids) (nm b)
       | false=>F0)=BO (msk ids) (nm b)/\(match mvO o with
       | true=>nm b
       | false=>match pur o,o.guard with
        | true,G=>BO (msk ids) (nm b)
        | _,_=>(match mvO o with
         | true=>BO (msk ids) (nm b)
         | false=>F0))=nm b):=by
      intro F0;cases hmv:mvO o with
      | true=>exact .inr ⟨rfl,rfl,rfl⟩
      | false=>
       refine .inl ⟨rfl,rfl, ?_⟩;cases hpu:pur o with
       | false=>exact .inr rfl
       | true=>
        cases hgu:o.guard with
        | none=>exact .inl ⟨rfl,rfl,rfl⟩
        | some x=>exact .inr rfl
     exact gen _
    .refine⟨alx,λid hid=> ?_⟩;show Mm (match EE C s o with
      | none=>_
      | some l=>BO (msk l) (nm b)) id
     cases EE C s o with
     | none=>
      show Mm (match mvO o with
       | true=>BO (msk ids) (nm b)
       | false=>_) id
      cases mvO o with
      | false=>
       refine Tp _ _ id ?_;show(BO _ _).testBit id=Y;rw[Es,show(nm b).testBit id=Y from hid];simp
      | true=>
       show(BO _ _).testBit id=Y;rw[Es,show(nm b).testBit id=Y from hid];simp
     | some l=>
      show(BO _ _).testBit id=Y;rw[Es,show(nm b).testBit id=Y from hid];simp
    .exact hc.1.2
    .exact hc.2
   obtain⟨rs,s',k1,k2,k3,k4⟩:=o6 l (i+1) (b+16) _ s1 h hg' (by simp[hi]) J (λj=>by
    have:=hl<|j+1;simpa[DG,Nl 1 j] using this)
   refine⟨{ r with V:=V } ::rs,s',⟨s1, ?_, ?_, ?_,k1⟩, ?_,by simp[k3], ?_⟩
   .rw[hr];exact h1
   .rw[hr];refine⟨λhe=>⟨?_,λj hj=> ?_⟩,λl he j hj=> ?_,λid hid=> ?_⟩
    .have he:EE C s o=G:=he;show(match EE C s o with
      | none=>_
      | some l=>BO (msk l) (nm b))=_
     rw[he]
    .have he:EE C s o=G:=he;show Mm (match EE C s o with
      | none=>BO (msk<|Jg C s o) (nm b)
      | some l=>BO (msk l) (nm b)) j
     rw[he];show(BO _ _).testBit j=Y;rw[Es,MR.2 hj];rfl
    .have he:EE C s o=I l:=he;have key:Mm (BO (msk l)<|nm b) j:=by
      show(BO _ _).testBit j=Y;rw[Es,MR.2 hj];rfl
     constructor
     .show Mm (match EE C s o with
       | none=>_
       | some l=>BO (msk l) (nm b)) j
      rw[he];exact key
     .show Mm (match EE C s o with
       | none=>_
       | some l=>BO (msk l) (nm b)) j
      rw[he];exact key
    .show Mm (match EE C s o with
      | none=>BO (msk<|Jg C s o) (nm b)
      | some l=>BO (msk l) (nm b)) id
     have hid:(nm b).testBit id=Y:=hid;cases EE C s o with
     | none=>
      show(BO _ _).testBit id=Y;rw[Es,hid];simp
     | some l=>
      show(BO _ _).testBit id=Y;rw[Es,hid];simp
   .rw[hr];exact hV
   .simpa using k2
   .rw[show i+(o::l).length=i+1+l.length by simp;omega];exact k4
  .cases h
def aFq{acc:List Rec}:∀ {ts l:List Nat},cS s0 acc ts=I l->∀t∈ts,∃a,(match SB t acc with
  | some r=>I r.V
  | none=>VT (s0.T t))=I a/\ ∀i∈a,i∈l
 | [],_,_,t,ht=>by cases ht
 | t0::ts,l,h,t,ht=>by
  obtain⟨a,h1,h⟩:=Aj.1 h;obtain⟨b,h2,h⟩:=Aj.1 h;cases h;obtain rfl|ht:=Bm.1 ht
  .exact⟨a,h1,λi hi=>Bw _ hi⟩
  .obtain⟨a',h3,h4⟩:=aFq h2 t ht;exact⟨a',h3,λi hi=>CR _<|h4 i hi⟩
def Cd.fit{acc:List Rec}(h:Cd C ops s0 b0 acc)(hn:acc.length=ops.size)(hfr:∀j,b0<=j->s0.H j=G){i:Nat}:Fit ops (C6 acc b0) (B9 ops.size) s0 i:=by
 intro o ho;obtain⟨r,hr,hi,rfl,fi⟩:=h.op hn ho;have e1:(C6 acc b0).F i=Mm r.F:=by funext id;simp only[C6,fi]
 have e2:(C6 acc b0).N i=Mm r.N:=by funext id;simp only[C6,fi]
 rw[e1,e2];have hNF:=h.N_F hr;refine⟨λt ht hd=> ?_,λid ob hid ho=> ?_,λid h1 _=>hfr id (by simp only[C6]at h1;omega)⟩
 rotate_left
 .cases hmv:mvO r.o with
  | false=>exact h.closed hfr r hr hmv id ob (hNF id hid) ho
  | true=>
   exfalso;obtain⟨Hi,hg,_⟩:=h.mem r hr;obtain⟨_,k1,k2,_,_,⟨l,c,h1,h2,h3⟩,_⟩:=hg;obtain h3|h3:=h3
   .rw[hmv]at h3;cases h3.1
   .rw[h3.2.2]at hid;have:=MX.1 hid;rw[hfr id J]at ho;cases ho
 obtain⟨Hi,hg,Lt,_,hlt⟩:=h.mem r hr;obtain⟨_,_,_,_,_,⟨l,c,h1,h2,h3⟩,_⟩:=hg;obtain⟨a,h4,h5⟩:=aFq h1 t ht;cases hf:SB t Hi with
 | some r'=>
  obtain⟨hm,Q8⟩:=aGm hf;have hm':=Lt r' hm;obtain⟨azz,hg2,_⟩:=h.mem r' hm';have ho':=hg2.2.2.2.1;have hR:(C6 acc b0).R r'.i i:=by
   have aw:=hlt r' hm;have hc:=h.chk hm' hr J;simp only[VS.chk,AD]at hc;simp only[C6,fi];cases hT:tst r.anc r'.i with
   | true=>exact qu.1 hT
   | false=>
    rw[hT]at hc;obtain⟨_,hc⟩:=hc;simp only[AD]at hc;exact absurd ht<|ZF hc.1.2 t Q8
  exact absurd Q8<|hd r'.i (D4.2 (Ha.1 ho').1) hR r'.o ho'
 | none=>
  rw[hf]at h4;obtain⟨_,h3,h6⟩|⟨hmv,h3,h6⟩:=h3
  .have aEk:InA (Mm r.F) (s0.T t):=bj h4 λj hj=>by
    rw[h3];refine Tp _ _ j ?_;show(BO _ _).testBit j=Y;rw[Es,(aJ 4 l h2).1 j<|h5 j hj];rfl
   refine⟨aEk,.inr ?_⟩;obtain h6|h6:=h6
   .refine bj h4 λj hj=> ?_;rw[h6.1];show(BO _ _).testBit j=Y;rw[Es,MR.2<|h5 j hj];rfl
   .rw[h6];exact aEk
  .simp only[mvO,AD]at hmv;refine⟨bj h4 λj hj=> ?_,.inl hmv.1.1⟩;rw[h3];show(BO _ _).testBit j=Y;rw[Es,MR.2<|h5 j hj];rfl
def mK{acc:List Rec}(h:Cd C ops s0 b0 acc)(hn:acc.length=ops.size):∀(rs:List Rec) (s s':S),cY C ops rs s s'->(∀r∈rs,r∈acc)->(rs.map (·.i)).Pairwise (· < ·)->
  (∀r∈rs,Fit ops (C6 acc b0) (rs.map (·.i)) s r.i)->Run C ops (C6 acc b0) (rs.map (·.i)) s s'
 | [],s,s',hc,_,_,_=>by
  cases hc;exact .nil
 | r::rs,s,s',⟨s1,h1,h2,h3,h4⟩,hm,hp,hf=>by
  have hr:=hm r As;obtain⟨Hi,hg,_⟩:=h.mem r hr;have ho:=hg.2.2.2.1;have hok:=hg.2.2.2.2.2.2.2.2.1;have hb:=(h.N6 hr).1;have hrb:r.i<acc.length:=h.lt r hr;have fi:=h.find r hr;have nice:=h.nice hn;obtain⟨f1,f2,f3⟩:=hf r As r.o ho;have eb:(C6 acc b0).b r.i=r.b:=hb.symm;have hp':=KW.1 hp;have aF1:∀t∈DO ops r.o,InA ((C6 acc b0).F r.i) (s.T t)/\(mov r.o.op=Y\/InA ((C6 acc b0).N r.i) (s.T t)):=λt ht=>f1 t ht λj hj hR oj hoj e=>by
   have hlt:=nice.lt _ _ hR;obtain e'|hj:=Bm.1 hj
   .have e':j=r.i:=e';omega
   .have h9:r.i<j:=hp'.1 j hj;omega
  have hrd:=λt ht=>(aF1 t ht).1;obtain⟨h21,h22,h23⟩:=h2;have hKn:∀j,r.b<=j->j<r.b+16->(C6 acc b0).K r.i j:=λj k1 k2=>by
   simp only[C6,fi];exact h23 j<|MX.2 ⟨k1,k2⟩
  have hWn:∀j,r.b<=j->j<r.b+16->(C6 acc b0).W r.i j:=λj k1 k2=>nice.NW r.i j (by rw[eb];exact k1) (by rw[eb];exact k2);have hWF:∀id,Mm r.W id->Mm r.F id:=λid hid=>U0 (h.N6 hr).2.2.1 id hid;have hKW:∀id∈Jg C s r.o,Mm r.F id:=λid hid=>by
   obtain⟨_,_,_,_,_,⟨l,c,_,_,h3⟩,_⟩:=hg;have hop:∀x∈r.o.op.operands,InA ((C6 acc b0).F r.i) (s.ev x):=λx hx=>by
    cases x with
    | tmp t=>exact hrd t<|Bw _<|Qp hx
    | const v=>exact cB v
    | _=>exact .of1 trivial
   have aEb:pur r.o=Y->False:=λhp=>by
    unfold pur at hp;unfold Jg at hid;cases ho2:r.o.op<;>rw[ho2]at hp hid<;>first|(cases hid;done)|(cases hp;done)
   obtain⟨_,_,h6|h6⟩|⟨hmv,_⟩:=h3
   .exact(aEb h6.2.1).elim
   rotate_left
   .simp only[mvO,AD]at hmv;exact(aEb hmv.1.2).elim
   .have hcl:Dd ((C6 acc b0).F r.i) s.H:=λid ob hid ho=>f2 id ob (by simp only[C6,fi]at hid ⊢; rw[h6];exact hid) ho;have:=axx hop hcl hid;simp only[C6,fi]at this;exact this
  obtain⟨g,v,es,a1,a2,a3,a4,a5⟩:=axu (F:=(C6 acc b0).F r.i) (N:=(C6 acc b0).N r.i) (WS:=λe=>(C6 acc b0).W r.i e.id/\(e.fk= .no\/(C6 acc b0).K r.i e.id)) hok hrd f2
   (λj k1 k2=>nice.WF _ _<|hWn j k1 k2) (λe k1 k2=>⟨hWn _ k1 k2,.inr<|hKn _ k1 k2⟩)
   ⟨λhe=>⟨λe hF hfk=>⟨by
     simp only[C6,fi]at hF ⊢;rw[(h21 he).1];exact hF,.inl hfk⟩,λe hk=>⟨by
     simp only[C6,fi];rw[(h21 he).1];exact hKW _ hk,.inr (by simp only[C6,fi];exact(h21 he).2 _ hk)⟩⟩,
    λl he e hl=>⟨by simp only[C6,fi];exact(h22 l he _ hl).1,.inr (by simp only[C6,fi];exact(h22 l he _ hl).2)⟩⟩
   (by
    obtain⟨_,_,_,_,_,⟨l,c,_,_,h3⟩,_⟩:=hg;obtain⟨_,_,h6|h6⟩|⟨hmv,_⟩:=h3
    .refine .inl ⟨h6.2.1,h6.2.2, ?_⟩;cases hmo:mov r.o.op with
     | true=>exact .inl rfl
     | false=>exact .inr λt ht=>(aF1 t ht).2.resolve_left λh=>by rw[hmo]at h;cases h
    rotate_left
    .simp only[mvO,AD]at hmv;exact .inl ⟨hmv.1.2,by simpa using hmv.2,.inl hmv.1.1⟩
    .refine .inr λid hid=> ?_;simp only[C6,fi]at hid ⊢;rw[h6];exact hid) h1
  have hst:Stp C ops r.o ((C6 acc b0).b r.i) ((C6 acc b0).F r.i) ((C6 acc b0).N r.i) ((C6 acc b0).W r.i) ((C6 acc b0).K r.i) ((C6 acc b0).V r.i) s s1:=by
   rw[eb];refine⟨g,v,es,a1,λt ht=> ?_,a2,a3,a4,a5⟩;rw[ht]at h3;have:s1.T t=v:=by rw[a4,cc,A5 ht]
   rw[← this];refine bj (show VT (s1.T t)=I r.V from h3) λj hj=> ?_;simp only[C6,fi];exact hj
  refine .cons ho hst (mK h hn rs s1 s' h4 (λx hx=>hm x<|Ak _ hx) hp'.2 λx hx=> ?_);have hxi:r.i<x.i:=hp'.1 x.i<|C1.2 ⟨x,hx,rfl⟩;exact(hf x<|Ak _ hx).step nice ho (Pl hxi) (λhR=>by have:=nice.lt _ _ hR;omega) hst λj hj=>by
   obtain e|hj:=Bm.1 hj
   .exact .inl e
   .exact .inr hj
def mg:∀(rs:List Rec) (s s':S) (m:Nat),cY C ops rs s s'->(∀r∈rs,r.b+16<=m)->BH (λj=>j<m) s s'
 | [],s,s',m,hc,_=>by cases hc;exact BH.refl _ _
 | r::rs,s,s',m,⟨s1,h1,_,_,h4⟩,hb=>by
  have k1:=aGK h1;have hb1:=hb r As;have k1':BH (λj=>j<m) s s1:=⟨k1.nid,k1.n,k1.pins,λj hj e=>k1.nn j (λhh=>hj J) e⟩;exact k1'.trans<|mg rs s1 s' m h4 λx hx=>hb x<|Ak _ hx
def Cd.places:∀ {acc:List Rec},Cd C ops s0 b0 acc->acc.reverse.map (·.i)=B9 acc.length
 | [],_=>rfl
 | r::acc,h=>by
  rw[List.reverse_cons,Em,Cd.places h.1,Bf,IU];simp[h.2.1]
def auX(hP:C.P=B.P)(hm:B.P.follows .mixedOrders=Y)(hC:Hn C B){k:S->Option Ω}(he:evD C ops s ops.toList 0 s.nid [] s k=I q)(hfr:Fr s){β:Beta}{a:Act}{w:World}(hst:St B β stk s a w)
  {id:Nat}{Q:Exit->Act->World->Prop}(hQ:∀β a w s',St B β stk s' a w->Fr s'->s'.n=s.n->s'.pins=s.pins->k s'=I q->Q .normal a w):(S1 id ops Y).wp B.P Q a w:=by
 obtain⟨rs,s',h1,h2,h3,h4⟩:=o6 (b0:=s.nid) ops.toList 0 s.nid [] s he trivial rfl rfl aJO;simp only[CU,DR]at h2 h4;have hn:rs.reverse.length=ops.size:=by simpa using h3
 have hpl:=h2.places;rw[pU,hn]at hpl;have Lw:∀j,Fit ops (C6 rs.reverse s.nid) (B9 ops.size) s j:=λj=>h2.fit hn hfr;have Cp:=mK h2 hn rs s s' h1 (λr hr=>by simpa using hr) (by rw[hpl];exact Rr) (λr hr=>by rw[hpl];exact Lw _);rw[hpl]at Cp;have Q4:BH (λj=>j<s.nid+16 * ops.toList.length) s s':=mg rs s s' _ h1 λr hr=>by
  have hr':r∈rs.reverse:=by simpa using hr
  have e1:=(h2.N6 hr').1;have e2:=h2.lt r hr';rw[hn]at e2;have:ops.toList.length=ops.size:=by simp
  omega
 refine asH hP hm hC (h2.nice hn) Cp (λj _=>Lw j) hst λβ a w h=> ?_;refine hQ β a w { s' with nid:=s.nid+16 * ops.toList.length } ⟨h.T,h.stack,h.n,h.defers,h.pins,h.gs,h.hs⟩ (λj hj=> ?_) Q4.n Q4.pins h4;have hj:s.nid+16 * ops.toList.length<=j:=hj;exact Q4.nn j J<|hfr j J
end
end Go.VS
namespace Go.VS
open Go
def JZ(C:Cx)(B:Be)(inl:(Ω:Type)->Inl Ω):Prop:=∀(Ω:Type) (f:FuncId) (d:Option Nat) (as:List AV) (s:S) (k:S->Option Ω) (q:Ω),inl Ω f d as s k=I q->
 ∀(β:Beta) (stk:List (Array Value)) (a:Act) (w:World) (o:Oper) (args:List Operand) (ts:Array TypeId) (K:Act->World->Prop) (Q:Exit->Act->World->Prop),
 St B β stk s a w->Fr s->s.has d=Y->o.dst=d->as=args.map s.ev->o.op= .call { callee:= .value<|.func f,args:=args.toArray,argTypes:=ts } ->
 (∀β' u w' s',St B β' stk s' (a.put d u) w'->Fr s'->s'.n=s.n->s'.pins=s.pins->k s'=I q->K (a.put d u) w')->o.wp B.P a w K Q
def aHk(C:Cx)(B:Be):JZ C B AF:=by
 intro Ω f d as s k q h;cases h
section
variable {C:Cx} {B:Be} {ops:Array Oper} {stk:List (Array Value)} {s s':S} {Ω:Type} {q:Ω} {β:Beta} {a:Act} {w:World} {inl:(Ω:Type)->Inl Ω}
def rj(C:Cx)(o:Oper):Prop:=∃f c,o.op= .call c/\c.callee= .value (.func f)/\C.Γ f o.dst=G
def auW{o:Oper}{b:Nat}{k:S->Option Ω}(hn:¬rj C o):evG C (inl Ω) ops o b s k=(ev1 C ops o b s).bind k:=by
 have h:∀b s,∀k:S->Option Ω,CQ C (inl Ω) o b s k=(CQ C (AF S) o b s I).bind k:=λb s k=>aGJ _ λf c h1 h2 h3=>absurd ⟨f,c,h1,h2,h3⟩ hn;unfold ev1 evG;split
 .exact h _ _ _
 .split
  .rfl
  .split
   .split
    .split<;>rfl
    .rfl
   .rfl
  .split
   .rename_i c _;simp only[h];cases hh:s.has o.dst<;>(split<;>split<;>rfl)
   .split<;>rfl
   .rfl
def aHa(hI:JZ C B inl){o:Oper}{b:Nat}{k:S->Option Ω}(hin:rj C o)(he:CQ C (inl Ω) o b s k=I q)(hst:St B β stk s a w)(hfr:Fr s){K:Act->World->Prop}{Q:Exit->Act->World->Prop}
  (hK:∀β' u w' s',St B β' stk s' (a.put o.dst u) w'->Fr s'->s'.n=s.n->s'.pins=s.pins->k s'=I q->K (a.put o.dst u) w'):o.wp B.P a w K Q:=by
 obtain⟨f,c,h1,h2,h3⟩:=hin;obtain⟨cal,⟨args⟩,⟨tys⟩⟩:=c;simp only at h2;subst h2;unfold CQ at he;split at he
 .cases he
 rename_i hd;simp only[h1,h3]at he;exact hI Ω f o.dst _ s k q he β stk a w o args ⟨tys⟩ K Q hst hfr hd rfl rfl h1 hK
def aIg(hP:C.P=B.P)(hC:Hn C B)(hI:JZ C B inl){i:Nat}{o:Oper}(hi:ops[i]? =I o){k:S->Option Ω}(he:evG C (inl Ω) ops o s.nid s k=I q)(hst:St B β stk s a w)(hfr:Fr s){K:Act->World->Prop}{Q:Exit->Act->World->Prop}
  (hK:∀β' u w' s',St B β' stk s' (a.put o.dst u) w'->(∀j,s'.nid+16<=j->s'.H j=G)->s'.n=s.n->s'.pins=s.pins->k s'=I q->K (a.put o.dst u) w'):wpOp B.P ops Q i K a w:=by
 by_cases hin:rj C o
 .have hK':∀s1:S,s1.n=s.n->s1.pins=s.pins->∀β' u w' s',St B β' stk s' (a.put o.dst u) w'->Fr s'->s'.n=s1.n->s'.pins=s1.pins->k s'=I q->K (a.put o.dst u) w':=
   λs1 e1 e2 β' u w' s' k1 k2 k3 k4 k5=>hK β' u w' s' k1 (λj hj=>k2 j J) (k3.trans e1) (k4.trans e2) k5
  unfold wpOp;simp only[hi];unfold evG at he;split at he
  .rename_i hg;have hw:Jn o (yielded ops a.tmps)=Y:=by simp[Jn,hg]
   rw[A5 hw];exact .inl (aHa hI hin he hst hfr<|hK' s rfl rfl)
  .rename_i j want hg;have hwd:Jn o (yielded ops a.tmps)=(yielded ops a.tmps j == I want):=by simp[Jn,hg]
   rw[hwd];split at he
   .cases he
   .rename_i g hgd hsp;split at he
    .rename_i qq v Ep hv;obtain⟨f,c,h1,h2,h3⟩:=hin;obtain⟨cal,⟨args⟩,⟨tys⟩⟩:=c;simp only at h2;subst h2;simp only[h1,spA,h3]at hv;cases hv
    .cases he
   .rename_i g hgd hsp;split at he
    .rename_i c hT;have htg:Bc a g= .bool c:=by have:=hst.T g;rw[hT]at this;exact this
     have hy:yielded ops a.tmps j=I c:=YD hgd htg;rw[hy];have hn:∀w0:Bool,c=w0->St B β stk { s with T:=upd s.T g (.b w0) } a w:=by
      intro w0 e;subst e;rw[show({ s with T:=upd s.T g (.b c) } :S)=s by rw[aIx _ _ _ hT]];exact hst
     have yes:CQ C (inl Ω) o s.nid { s with T:=upd s.T g (.b want) } k=I q->c=want->
       (if(I c == I want)=Y then o.wp B.P a w K Q\/(o.asks B.P a w/\LetsOut Q) else K (a.put o.dst undef) w):=by
      intro he e;rw[A5<|by simp[e]];exact .inl<|aHa hI hin he (hn want e) hfr<|hK' _ rfl rfl
     have no:(match s.has o.dst with
       | true=>k (({ s with T:=upd s.T g (.b<|!want) } :S).put o.dst Dv)
       | false=>G)=I q->c= !want->
       (if(I c == I want)=Y then o.wp B.P a w K Q\/(o.asks B.P a w/\LetsOut Q) else K (a.put o.dst undef) w):=by
      intro he e;rw[A9 (by subst e;cases want<;>simp)];split at he
      .rename_i Ep;refine hK β undef w _ ((hn (!want) e).put (by exact Ep) (v:=Dv) (u:=undef) rfl (λg' w1 x e=>by cases e)) (λj hj=> ?_) ?_ ?_ he
       .have:=hfr j (by cases hod:o.dst<;>rw[hod]at hj<;>exact Cc (bG _ 16) hj);cases o.dst<;>exact this
       .cases o.dst<;>rfl
       .cases o.dst<;>rfl
      .cases he
     cases want<;>cases c<;>simp only[A2,if_false,I1]at he
     .exact yes he rfl
     .exact no he rfl
     .exact no he rfl
     .exact yes he rfl
    .rename_i vs hT;have htg:Bc a g= .tuple vs:=by have:=hst.T g;rw[hT]at this;exact this
     have hy:¬(yielded ops a.tmps j == I want)=Y:=by
      intro e;have:=YC hgd (show yielded ops a.tmps j=I want by simpa using e);rw[htg]at this;cases this
     rw[A9 hy];split at he
     .rename_i Ep;refine hK β undef w _ (hst.put Ep (v:=Dv) (u:=undef) rfl (λg' w1 x e=>by cases e)) (λj hj=> ?_) ?_ ?_ he
      .have:=hfr j (by cases hod:o.dst<;>rw[hod]at hj<;>exact Cc (bG _ 16) hj);cases o.dst<;>exact this
      .cases o.dst<;>rfl
      .cases o.dst<;>rfl
     .cases he
    .cases he
 .rw[auW hin]at he;obtain⟨s1,h1,h2⟩:=Aj.1 he;have hk:=aGK h1;refine qR hP hC hi hst (λj hj _=>hfr j hj) h1 λβ' u w' h=>hK β' u w' s1 h (λj hj=>hk.nn j (λhh=> ?_)<|hfr j ?_) hk.n hk.pins h2
  .rw[hk.nid]at hj;omega
  .rw[hk.nid]at hj;omega
def aGp(hP:C.P=B.P)(hC:Hn C B)(hI:JZ C B inl){k:S->Option Ω}{Q:Exit->Act->World->Prop}{n:Nat}{p:List Nat}
  (hQ:∀β a w s',St B β stk s' a w->Fr s'->s'.n=n->s'.pins=p->k s'=I q->Q .normal a w):∀(l:List Oper) (i:Nat) (s:S) (β:Beta) (a:Act) (w:World),(∀j,l[j]? =ops[i+j]?)->
  Pq C (inl Ω) ops l s k=I q->St B β stk s a w->Fr s->s.n=n->s.pins=p->wpOps B.P ops Q (List.range' i l.length) a w
 | [],i,s,β,a,w,_,he,hst,hfr,hn,hp=>hQ β a w s hst hfr hn hp he
 | o::l,i,s,β,a,w,hl,he,hst,hfr,hn,hp=>by
  rw[Bf,List.range'_succ,wpOps_cons];have ho:ops[i]? =I o:=by simpa using (hl 0).symm
  refine aIg hP hC hI ho (show evG C (inl Ω) ops o s.nid s (λs=>Pq C (inl Ω) ops l { s with nid:=s.nid+16 } k)=I q from he) hst hfr ?_;intro β' u w' s' h1 h2 h3 h4 h5;exact aGp hP hC hI hQ l (i+1) { s' with nid:=s'.nid+16 } β' _ w' (λj=>by
   have:=hl<|j+1;simpa[DG,Nl 1 j] using this) h5 ⟨h1.T,h1.stack,h1.n,h1.defers,h1.pins,h1.gs,h1.hs⟩ h2 (h3.trans hn) (h4.trans hp)
def aEC(hP:C.P=B.P)(hC:Hn C B)(hI:JZ C B inl){k:S->Option Ω}(he:Pq C (inl Ω) ops ops.toList s k=I q)(hfr:Fr s)(hst:St B β stk s a w)
  {id:Nat}{Q:Exit->Act->World->Prop}(hQ:∀β a w s',St B β stk s' a w->Fr s'->s'.n=s.n->s'.pins=s.pins->k s'=I q->Q .normal a w):(S1 id ops A0).wp B.P Q a w:=by
 refine wp_region ?_;have:=aGp hP hC hI hQ ops.toList 0 s β a w aJO he hst hfr rfl rfl;rw[List.range_eq_range',← FE];exact this
end
end Go.VS
namespace Go.VS
open Go
def Imm(w:World)(M:Nat->Prop)(c:AV)(v:Value):Prop:=∀β:Beta,(∀b,MZ β b->M b)->RC w β c v
mutual
def Rel (P:Program) (w:World) (M:Nat->Prop) (e:Nat->Value):(h:Sh)->LT h->Value->List (Value×Nat)->Prop
 | .int k,n,v,os=>v= .int k n/\os=[]
 | .bool,x,v,os=>v= .bool x/\os=[]
 | .str,s,v,os=>v= .string s/\os=[]
 | .sl k,xs,v,os=>Imm w M (.sl k xs) v/\os=[]
 | .fz k,xs,v,os=>Imm w M (.sl k xs) v/\os=[]
 | .row t k,xs,v,os=>os=[(v,xs.length)]/\SI v=Y/\ ∀β:Beta,(∀b,MZ β b->M b)->Fq w β t A0 k xs v
 | .Co t k,xs,v,os=>os=[(v,xs.length)]/\SI v=Y/\ ∀β:Beta,(∀b,MZ β b->M b)->Fq w β t Y k xs v
 | .abx t k,xs,v,os=>os=[(v,xs.length)]/\1<=xs.length/\ ∃b us,v= .pointer (I ⟨b,0,G⟩)/\w.heap[b]? =I (.cells us t (0,0))/\us.size=xs.length * ks k/\us.size=P.cellsOf t/\
   (∀β:Beta,(∀b,MZ β b->M b)->∀i x j c u,xs[i]? =I x->(enc k x)[j]? =I c->us[i * ks k+j]? =I u->RC w β c u)
 | .arr k,xs,v,os=>os=[]/\ ∀β:Beta,(∀b,MZ β b->M b)->R1 w β (.arr k xs) v
 | .same t,_,v,os=>os=[]/\v=e t/\v.oneCell'=Y
 | .agg l,x,v,os=>∃us:List Value,v= .agg us.toArray/\Cn P w M e l x us os
 | .box t l,x,v,os=>∃b us os',v= .pointer (I ⟨b,0,G⟩)/\w.heap[b]? =I (.cells us t (0,0))/\Cn P w M e l x us.toList os'/\os=os'++[(v,1)]
def Cn (P:Program) (w:World) (M:Nat->Prop) (e:Nat->Value):(l:List Sh)->LTs l->List Value->List (Value×Nat)->Prop
 | [],_,us,os=>us=[]/\os=[]
 | h::l,x,us,os=>∃u us' o1 o2,us=u::us'/\os=o1++o2/\Rel P w M e h x.1 u o1/\Cn P w M e l x.2 us' o2
end
def HU(p:Value×Nat):Option Nat:=(adr p.1).map (·.block)
abbrev B0(os:List (Value×Nat)):List Nat:=os.filterMap HU
mutual
def Mf:Sh->List Nat
 | .same t=>[t]
 | .agg l=>Iv l
 | .box _ l=>Iv l
 | _=>[]
def Iv:List Sh->List Nat
 | []=>[]
 | h::l=>Mf h++Iv l
end
section
variable {B:Be} {β β':Beta} {H:Hp} {w w':World} {M:Nat->Prop} {E:Nat->AV} {e:Nat->Value}
def RC.Rc{c:AV}{v:Value}(h:RC w β c v)(hc:Gn c=Y)(hM:∀b,M b->MZ β b):Imm w M c v:=λβ' hβ'=>
 RC.imm (λ_ _ _ _ h=>h) (λb hb _ hm=>hb<|hM b<|hβ' b hm) h hc
def Fq.imm{t:TypeId}{fz:Bool}{k:K}{xs:List (Tof k)}{v:Value}(h:Fq w β t fz k xs v)(hM:∀b,M b->MZ β b):∀β':Beta,(∀b,MZ β' b->M b)->Fq w β' t fz k xs v:=by
 intro β' hβ';obtain h|⟨b,f,cap,us,fr,h1,h2,h3,h4,h5,h6,h7⟩:=h
 .exact .inl h
 .exact .inr ⟨b,f,cap,us,fr,h1,h2,h3,h4,h5,h6,λi x j c u a1 a2 a3=>(h7 i x j c u a1 a2 a3).Rc (Io k x a2) hM β' hβ'⟩
def Fq.amK{t:TypeId}{fz:Bool}{k:K}{xs:List (Tof k)}{v:Value}(h:Fq w β t fz k xs v)(hM:∀b,M b->MZ β b)(hn:∀a,adr v=I a->¬M a.block):Imm w M (.sl k xs) v:=by
 intro β' hβ';obtain⟨rfl,rfl⟩|⟨b,f,cap,us,fr,rfl,hh,hfr,hn',hc,hs,hr⟩:=h
 .exact .nil
 .have Cz:∀i j,i<xs.length->j<ks k->f+(i * ks k+j)<us.size:=by
   intro i j hi hj;have h1:(i+1) * ks k<=cap * ks k:=EF _ J;rw[EP]at h1;omega
  refine .sl (λi j=>us.getD (f+(i * ks k+j)) undef) ⟨rfl,hn'⟩ (λhm=>hn _ rfl (hβ' _ hm)) (λi j hi hj=> ?_) (λi x j c h2 h3=> ?_)
  .rw[cell_of_row w b _ us t fr hh];have:=Cz i j hi hj;simp[this]
  .have hi:i<xs.length:=(BN.1 h2).1;have hj:j<ks k:=by rw[← ET k x];exact(BN.1 h3).1
   have:=Cz i j hi hj;exact(hr i x j c (us.getD (f+(i * ks k+j)) undef) h2 h3<|by simp[this]).Rc (Io k x h3) hM β' hβ'
def R1.lits{v' v:Value}(h:R1 w β (.lit v') v):v=v':=h
def R1.sls{k:K}{xs:List (Tof k)}{v:Value}(h:R1 w β (.sl k xs) v):RC w β (.sl k xs) v:=h
def R1.oz{id:Nat}{v:Value}(h:R1 w β (.own id) v):RC w β (.own id) v:=h
def R1.Rb{id z i o:Nat}{v:Value}(h:R1 w β (.ptr id z i o) v):RC w β (.ptr id z i o) v:=h
structure OI (B:Be) (β:Beta) (H:Hp) (w:World) (M:Nat->Prop) (E:Nat->AV) (e:Nat->Value):Prop where
 hs:Hs B β H w
 hM:∀b,M b->MZ β b
 hE:∀t id z,E t= .ptr id z 0 0->R1 w β (E t) (e t)
def SG(β:Beta)(M:Nat->Prop)(ids:List Nat):Prop:=∀i∈ids,∀p a,β i=I p->adr p.1=I a->¬M a.block
def qf(R:OI B β H w M E e){id:Nat}{t:TypeId}{fz:Bool}{k:K}{xs:List (Tof k)}{v:Value}(hv:RC w β (.own id) v)(hid:H id=I (.row t fz k xs)):
  SI v=Y/\β id=I (v,xs.length)/\Fq w β t fz k xs v:=by
 cases hv with
 | own h hs=>
  obtain⟨hd,h1,h2⟩:=R.hs.ES id _ hid;rw[h]at h1;cases h1;exact⟨hs,h,h2⟩
mutual
theorem po (R:OI B β H w M E e):∀(h:Sh) (c:AV) (v:Value) (x:LT h),R1 w β c v->Bq E H h c=I x->SG β M (Cu H h c)->
  ∃os,Rel B.P w M e h x v os/\B0 os=B0 ((Cj H h c).filterMap β)
 | .int k,c,v,x,hv,hx,_=>by
  cases c with
  | lit v'=>
   cases v'<;>first|(simp[Bq]at hx;done)|skip
   simp only[Bq]at hx;split at hx
   .rename_i e1;simp at e1;subst e1;cases hx;exact⟨[],⟨hv.lits,rfl⟩,rfl⟩
   .cases hx
  | _=>simp[Bq]at hx
 | .bool,c,v,x,hv,hx,_=>by
  cases c with
  | lit v'=>
   cases v'<;>first|(simp[Bq]at hx;done)|skip
   simp only[Bq]at hx;cases hx;exact⟨[],⟨hv.lits,rfl⟩,rfl⟩
  | _=>simp[Bq]at hx
 | .str,c,v,x,hv,hx,_=>by
  cases c with
  | lit v'=>
   cases v'<;>first|(simp[Bq]at hx;done)|skip
   simp only[Bq]at hx;cases hx;exact⟨[],⟨hv.lits,rfl⟩,rfl⟩
  | _=>simp[Bq]at hx
 | .sl k,c,v,x,hv,hx,_=>by
  cases c with
  | sl k' xs=>
   obtain⟨e1,rfl⟩:=IE<|show J1 k' k xs=I x from hx;subst e1;exact⟨[],⟨hv.sls.Rc rfl R.hM,rfl⟩,rfl⟩
  | lit v'=>
   cases v' with
   | slice a n cap=>
    cases a<;>cases n<;>cases cap<;>simp[Bq]at hx;subst hx;have:=hv.lits;subst this;exact⟨[],⟨λ_ _=> .nil,rfl⟩,rfl⟩
   | _=>simp[Bq]at hx
  | _=>simp[Bq]at hx
 | .fz k,c,v,x,hv,hx,hf=>by
  cases c with
  | sl k' xs=>
   obtain⟨e1,rfl⟩:=IE<|show J1 k' k xs=I x from hx;subst e1;exact⟨[],⟨hv.sls.Rc rfl R.hM,rfl⟩,rfl⟩
  | lit v'=>
   cases v' with
   | slice a n cap=>
    cases a<;>cases n<;>cases cap<;>simp[Bq,CK]at hx;subst hx;have:=hv.lits;subst this;exact⟨[],⟨λ_ _=> .nil,rfl⟩,rfl⟩
   | _=>simp[Bq,CK]at hx
  | own id=>
   simp only[Bq,CK]at hx;split at hx
   .rename_i t fz k' ys hid;obtain⟨e1,rfl⟩:=IE hx;subst e1;obtain⟨h1,h2,h3⟩:=qf R hv.oz hid;exact⟨[],⟨h3.amK R.hM λa ha=>hf id (by simp[Cu]) _ a h2 ha,rfl⟩,rfl⟩
   .cases hx
  | _=>simp[Bq,CK]at hx
 | .row t k,c,v,x,hv,hx,_=>by
  cases c with
  | lit v'=>
   cases v' with
   | slice a n cap=>
    cases a<;>cases n<;>cases cap<;>simp[Bq]at hx;subst hx;have:=hv.lits;subst this;exact⟨[(.slice G 0 0,0)],⟨rfl,rfl,λ_ _=> .inl ⟨rfl,rfl⟩⟩,rfl⟩
   | _=>simp[Bq]at hx
  | own id=>
   simp only[Bq]at hx;split at hx
   .rename_i t' k' ys hid;split at hx
    .rename_i ht;obtain rfl:=Bo ht;obtain⟨e1,rfl⟩:=IE hx;subst e1;obtain⟨h1,h2,h3⟩:=qf R hv.oz hid;exact⟨[(v,ys.length)],⟨rfl,h1,h3.imm R.hM⟩,by simp[Cj,h2]⟩
    .cases hx
   .cases hx
  | _=>simp[Bq]at hx
 | .Co t k,c,v,x,hv,hx,_=>by
  cases c with
  | own id=>
   simp only[Bq]at hx;split at hx
   .rename_i t' k' ys hid;split at hx
    .rename_i ht;obtain rfl:=Bo ht;obtain⟨e1,rfl⟩:=IE hx;subst e1;obtain⟨h1,h2,h3⟩:=qf R hv.oz hid;exact⟨[(v,ys.length)],⟨rfl,h1,h3.imm R.hM⟩,by simp[Cj,h2]⟩
    .cases hx
   .cases hx
  | _=>simp[Bq]at hx
 | .abx t k,c,v,x,hv,hx,_=>by
  cases c with
  | ptr id z i o=>
   cases i<;>cases o<;>simp only[Bq]at hx<;>first|(cases hx;done)|skip
   split at hx
   .rename_i t' k' ys hid;split at hx
    .rename_i ht;simp only[AD]at ht;obtain rfl:=Bo ht.1;obtain⟨e1,rfl⟩:=IE hx;subst e1;have hv:=hv.Rb;cases hv with
     | @ptr _ _ _ _ hd n b f h1 ha hi=>
      obtain⟨b',us,k1,k2,k3,k4,k5⟩:=R.hs.ES id _ hid;rw[h1]at k1;cases k1;cases ha;have e0:0 * z=0:=V0 z;refine⟨[(.pointer<|I ⟨b,0,G⟩,ys.length)],⟨?_,hi,b,us, ?_,k2,k3,k4,λβ' hβ' i x j c u a1 a2 a3=>(k5 i x j c u a1 a2 a3).Rc (Io k' x a2) R.hM β' hβ'⟩,by simp[Cj,h1]⟩
      .simp
      .simp
    .cases hx
   .cases hx
  | _=>simp[Bq]at hx
 | .arr k,c,v,x,hv,hx,_=>by
  cases c with
  | arr k' xs=>
   obtain⟨e1,rfl⟩:=IE<|show J1 k' k xs=I x from hx;subst e1;obtain⟨us,k1,k2,k3⟩:=hv;exact⟨[],⟨rfl,λβ' hβ'=>⟨us,k1,k2,λi x j c u a1 a2 a3=>(k3 i x j c u a1 a2 a3).Rc (Io k' x a2) R.hM β' hβ'⟩⟩,rfl⟩
  | _=>simp[Bq]at hx
 | .same t,c,v,x,hv,hx,_=>by
  cases c with
  | ptr id z i o=>
   cases i<;>cases o<;>simp only[Bq]at hx<;>first|(cases hx;done)|skip
   split at hx
   .rename_i id' z' hE;split at hx
    .rename_i hid;obtain rfl:=Bo hid;have h2:=R.hE t _ _ hE;rw[hE]at h2;have h2:=h2.Rb;have h1:=hv.Rb;refine⟨[],⟨rfl, ?_,h1.one⟩,rfl⟩;generalize e t=v2 at h2;cases h1 with
     | ptr a1 a2 a3=>
      cases h2 with
      | ptr b1 b2 b3=>
       rw[a1]at b1;cases b1;rw[a2]at b2;cases b2;simp
    .cases hx
   .cases hx
  | _=>simp[Bq]at hx
 | .agg l,c,v,x,hv,hx,hf=>by
  cases c with
  | agg cs=>
   obtain⟨us,rfl,hr⟩:=hv;obtain⟨os,h1,h2⟩:=nb R l cs us x hr hx hf;exact⟨os,⟨us,rfl,h1⟩,h2⟩
  | _=>simp[Bq]at hx
 | .box t l,c,v,x,hv,hx,hf=>by
  cases c with
  | ptr id z i o=>
   cases i<;>cases o<;>simp only[Bq]at hx<;>first|(cases hx;done)|skip
   split at hx
   .rename_i t' cs hid;split at hx
    .rename_i ht;obtain rfl:=Bo ht;have hv:=hv.Rb;cases hv with
     | @ptr _ _ _ _ hd n b f h1 ha hi=>
      obtain⟨b',us,k1,k2,k3⟩:=R.hs.ES id _ hid;rw[h1]at k1;cases k1;cases ha;obtain⟨os,j1,j2⟩:=nb R l cs us.toList x k3 hx (by simpa only[Cu,hid] using hf);refine⟨os++[(.pointer<|I ⟨b,0,G⟩,1)],⟨b,us,os,by simp,k2,j1,by simp⟩, ?_⟩;have:Cj H (.box t l) (.ptr id z 0 0)=Bn H l cs++[id]:=by simp only[Cj,hid]
      rw[this];simp only[B0,Mr]at j2 ⊢;rw[j2];simp[h1]
    .cases hx
   .cases hx
  | _=>simp[Bq]at hx
theorem nb (R:OI B β H w M E e):∀(l:List Sh) (cs:List AV) (us:List Value) (x:LTs l),RL (RC w β) cs us->GX E H l cs=I x->SG β M (D3 H l cs)->
  ∃os,Cn B.P w M e l x us os/\B0 os=B0 ((Bn H l cs).filterMap β)
 | [],[],us,x,hr,hx,_=>⟨[],⟨hr.of_nil,rfl⟩,rfl⟩
 | [],_::_,us,x,hr,hx,_=>by cases hx
 | _::_,[],us,x,hr,hx,_=>by cases hx
 | h::l,c::cs,us,x,hr,hx,hf=>by
  obtain⟨u,us',rfl,h1,h2⟩:=hr.CG;obtain⟨x1,e1,hx⟩:=Aj.1 hx;obtain⟨x2,e2,hx⟩:=Aj.1 hx;cases hx;obtain⟨o1,j1,j2⟩:=po R h c u x1 (R1.N1 h1) e1 (λi hi=>hf i<|Bw _ hi);obtain⟨o2,j3,j4⟩:=nb R l cs us' x2 h2 e2 (λi hi=>hf i<|CR _ hi);refine⟨o1++o2,⟨u,us',o1,o2,rfl,rfl,j1,j3⟩, ?_⟩;simp only[B0,Mr,Bn]at j2 j4 ⊢;rw[j2,j4]
end
def Yk(R:OI B β H w M E e):∀(l:List Sh) (cs:List AV) (us:List Value) (x:LTs l),RL (R1 w β) cs us->GX E H l cs=I x->SG β M (D3 H l cs)->
  ∃os,Cn B.P w M e l x us os/\B0 os=B0 ((Bn H l cs).filterMap β)
 | [],[],us,x,hr,hx,_=>⟨[],⟨hr.of_nil,rfl⟩,rfl⟩
 | [],_::_,us,x,hr,hx,_=>by cases hx
 | _::_,[],us,x,hr,hx,_=>by cases hx
 | h::l,c::cs,us,x,hr,hx,hf=>by
  obtain⟨u,us',rfl,h1,h2⟩:=hr.CG;obtain⟨x1,e1,hx⟩:=Aj.1 hx;obtain⟨x2,e2,hx⟩:=Aj.1 hx;cases hx;obtain⟨o1,j1,j2⟩:=po R h c u x1 h1 e1 (λi hi=>hf i<|Bw _ hi);obtain⟨o2,j3,j4⟩:=Yk R l cs us' x2 h2 e2 (λi hi=>hf i<|CR _ hi);refine⟨o1++o2,⟨u,us',o1,o2,rfl,rfl,j1,j3⟩, ?_⟩;simp only[B0,Mr,Bn]at j2 j4 ⊢;rw[j2,j4]
end
end Go.VS
namespace Go.VS
open Go
section
variable {P:Program} {β:Beta} {H:Hp} {w:World} {M:Nat->Prop} {E:Nat->AV} {e:Nat->Value} {b:Nat}
def Ik(P:Program)(w:World)(β:Beta)(H H':Hp)(b n:Nat):Prop:=
 (∀j,j<b\/b+n<=j->H' j=H j)/\(∀j,b<=j->j<b+n->∃ob,H' j=I ob/\EH P w β j ob)
def Ik.nil:Ik P w β H H b 0:=⟨λ_ _=>rfl,λj h1 h2=>by omega⟩
def Ik.one{ob:Ob}(h:EH P w β b ob):Ik P w β H (upd H b<|I ob) b 1:=by
 refine⟨λj hj=>BF _ _ J,λj h1 h2=> ?_⟩;have:j=b:=J
 subst this;exact⟨ob,Bg _ _ _,h⟩
def Ik.trans{H' H'':Hp}{n m:Nat}(h:Ik P w β H H' b n)(k:Ik P w β H' H'' (b+n) m):Ik P w β H H'' b (n+m):=by
 refine⟨λj hj=> ?_,λj h1 h2=> ?_⟩
 .rw[k.1 j J,h.1 j J]
 .by_cases e:j<b+n
  .obtain⟨ob,k1,k2⟩:=h.2 j h1 e;exact⟨ob,by rw[k.1 j<|.inl e];exact k1,k2⟩
  .exact k.2 j J J
def Num(β:Beta)(b:Nat)(os:List (Value×Nat)):Prop:=∀i p,os[i]? =I p->β (b+i)=I p
def Num.left{o1 o2:List (Value×Nat)}(h:Num β b (o1++o2)):Num β b o1:=λi p hp=>h i p (by
 rw[IT (BN.1 hp).1];exact hp)
def Num.right{o1 o2:List (Value×Nat)}(h:Num β b (o1++o2)):Num β (b+o1.length) o2:=λi p hp=>by
 have:=h (o1.length+i) p (by rw[Fl J];simpa using hp);rw[DG];exact this
def Num.one{p:Value×Nat}{os:List (Value×Nat)}(h:Num β b (os++[p])):β (b+os.length)=I p:=by
 have:=h.right 0 p rfl;simpa using this
def VE(w:World)(β:Beta)(E:Nat->AV)(e:Nat->Value)(ts:List Nat):Prop:=∀t∈ts,R1 w β (E t)<|e t
def R1.amL{c:AV}{v:Value}(h:R1 w β c v)(h1:v.oneCell'=Y):RC w β c v:=by
 cases c with
 | un=>exact .un h1
 | lit v'=>have:=h.lits;subst this;exact .lit h1
 | sl k xs=>exact h
 | own id=>exact h
 | ptr a b c d=>exact h
 | ipt a b c=>exact h
 | arr k xs=>obtain⟨us,rfl,_⟩:=h;cases h1
 | agg cs=>obtain⟨us,rfl,_⟩:=h;cases h1
 | tup vs=>exact h.elim
 | gd a b c=>exact h.elim
mutual
theorem aIm (hM:∀b,MZ β b->M b):∀(h:Sh) (H:Hp) (b:Nat) (x:LT h) (v:Value) (os:List (Value×Nat)),Iy h=Y->Rel P w M e h x v os->Num β b os->VE w β E e (Mf h)->
  RC w β (BJ E H b h x).1 v/\(BJ E H b h x).2.2=b+os.length/\Ik P w β H (BJ E H b h x).2.1 b os.length
 | .int k,H,b,x,v,os,_,hr,_,_=>by obtain⟨rfl,rfl⟩:=hr;exact⟨.lit rfl,rfl,.nil⟩
 | .bool,H,b,x,v,os,_,hr,_,_=>by obtain⟨rfl,rfl⟩:=hr;exact⟨.lit rfl,rfl,.nil⟩
 | .str,H,b,x,v,os,_,hr,_,_=>by obtain⟨rfl,rfl⟩:=hr;exact⟨.lit rfl,rfl,.nil⟩
 | .sl k,H,b,x,v,os,_,hr,_,_=>by obtain⟨h1,rfl⟩:=hr;exact⟨h1 β hM,rfl,.nil⟩
 | .fz k,H,b,x,v,os,_,hr,_,_=>by obtain⟨h1,rfl⟩:=hr;exact⟨h1 β hM,rfl,.nil⟩
 | .row t k,H,b,x,v,os,_,hr,hn,_=>by
  obtain⟨rfl,h1,h2⟩:=hr;have hb:β b=I (v,x.length):=hn.one (os:=[]);exact⟨.own hb h1,rfl,.one ⟨v,hb,h2 β hM⟩⟩
 | .Co t k,H,b,x,v,os,_,hr,hn,_=>by
  obtain⟨rfl,h1,h2⟩:=hr;have hb:β b=I (v,x.length):=hn.one (os:=[]);exact⟨.own hb h1,rfl,.one ⟨v,hb,h2 β hM⟩⟩
 | .abx t k,H,b,x,v,os,_,hr,hn,_=>by
  obtain⟨rfl,h1,bb,us,rfl,h3,h4,h5,h6⟩:=hr;have hb:β b=I (.pointer<|I ⟨bb,0,G⟩,x.length):=hn.one (os:=[]);refine⟨?_,rfl,.one ⟨bb,us,hb,h3,h4,h5,h6 β hM⟩⟩;have:=RC.ptr (w:=w) (sz:=ks k) (o:=0) hb (rfl:adr (.pointer<|I ⟨bb,0,G⟩)=I ⟨bb,0,G⟩) (i:=0) J;show RC w β (.ptr b (ks k) 0 0) _;simpa using this
 | .arr _,_,_,_,_,_,h,_,_,_=>by simp[Iy]at h
 | .agg _,_,_,_,_,_,h,_,_,_=>by simp[Iy]at h
 | .same t,H,b,x,v,os,_,hr,_,hs=>by
  obtain⟨rfl,rfl,h1⟩:=hr;refine⟨?_,rfl,.nil⟩;exact(hs t<|by simp[Mf]).amL h1
 | .box t l,H,b,x,v,os,hl,hr,hn,hs=>by
  obtain⟨bb,us,os',rfl,h2,h3,rfl⟩:=hr;have un:BJ E H b (.box t l) x=(match Al E H b l x with|(cs,H,b)=>(AV.ptr b cs.length 0 0,upd H b<|I<|.box t cs,b+1)):=rfl;obtain⟨k1,k2,k3⟩:=Zn hM l H b x us.toList os' (by simpa[Iy] using hl) h3 hn.left (by simpa[Mf] using hs);rw[un];generalize Al E H b l x=r at *;obtain⟨cs,H',b'⟩:=r;simp only at k1 k2 k3;subst k2;have hb:=hn.one;refine⟨?_,by simp[DG], ?_⟩
  .have:=RC.ptr (w:=w) (sz:=cs.length) (o:=0) hb (rfl:adr (.pointer<|I ⟨bb,0,G⟩)=I ⟨bb,0,G⟩) (i:=0) J;simpa using this
  .rw[Ax];exact k3.trans<|.one ⟨bb,us,hb,h2,k1⟩
theorem Zn (hM:∀b,MZ β b->M b):∀(l:List Sh) (H:Hp) (b:Nat) (x:LTs l) (us:List Value) (os:List (Value×Nat)),MW l=Y->Cn P w M e l x us os->Num β b os->VE w β E e (Iv l)->
  RL (RC w β) (Al E H b l x).1 us/\(Al E H b l x).2.2=b+os.length/\Ik P w β H (Al E H b l x).2.1 b os.length
 | [],H,b,x,us,os,_,hr,_,_=>by obtain⟨rfl,rfl⟩:=hr;exact⟨.nil,rfl,.nil⟩
 | h::l,H,b,x,us,os,hl,hr,hn,hs=>by
  obtain⟨u,us',o1,o2,rfl,rfl,h1,h2⟩:=hr;simp only[MW,AD]at hl;have un:Al E H b (h::l) x=(match BJ E H b h x.1 with|(c,H,b)=>match Al E H b l x.2 with|(cs,H,b)=>(c::cs,H,b)):=rfl;obtain⟨k1,k2,k3⟩:=aIm hM h H b x.1 u o1 hl.1 h1 hn.left (λt ht=>hs t<|Bw _ ht);rw[un];generalize BJ E H b h x.1=r at *;obtain⟨c,H',b'⟩:=r;simp only at k1 k2 k3 ⊢;subst k2;obtain⟨j1,j2,j3⟩:=Zn hM l H' (b+o1.length) x.2 us' o2 hl.2 h2 hn.right (λt ht=>hs t<|CR _ ht);generalize Al E H' (b+o1.length) l x.2=r at *;obtain⟨cs,H'',b''⟩:=r;simp only at j1 j2 j3 ⊢;subst j2;refine⟨.cons k1 j1,by simp[DG], ?_⟩;rw[Ax];exact k3.trans j3
end
def aIl(hM:∀b,MZ β b->M b)(h:Sh)(H:Hp)(b:Nat)(x:LT h)(v:Value)(os:List (Value×Nat))(ht:s7 h=Y)(hr:Rel P w M e h x v os)(hn:Num β b os)(hs:VE w β E e (Mf h)):
  R1 w β (BJ E H b h x).1 v/\(BJ E H b h x).2.2=b+os.length/\Ik P w β H (BJ E H b h x).2.1 b os.length:=by
 by_cases hh:Iy h=Y
 .obtain⟨h1,h2,h3⟩:=aIm hM h H b x v os hh hr hn hs;exact⟨.N1 h1,h2,h3⟩
 .cases h<;>first|(exact absurd ht hh;done)|skip
  case agg l=>
   obtain⟨us,rfl,h1⟩:=hr;have un:BJ E H b (.agg l) x=(match Al E H b l x with|(cs,H,b)=>(AV.agg cs,H,b)):=rfl;obtain⟨k1,k2,k3⟩:=Zn hM l H b x us os ht h1 hn hs;rw[un];generalize Al E H b l x=r at *;obtain⟨cs,H',b'⟩:=r;exact⟨⟨us,rfl,k1⟩,k2,k3⟩
  case arr k=>
   obtain⟨rfl,h1⟩:=hr;exact⟨h1 β hM,rfl,.nil⟩
def aD(hM:∀b,MZ β b->M b):∀(l:List Sh) (H:Hp) (b:Nat) (x:LTs l) (us:List Value) (os:List (Value×Nat)),KM l=Y->Cn P w M e l x us os->Num β b os->VE w β E e (Iv l)->
  RL (R1 w β) (Al E H b l x).1 us/\(Al E H b l x).2.2=b+os.length/\Ik P w β H (Al E H b l x).2.1 b os.length
 | [],H,b,x,us,os,_,hr,_,_=>by obtain⟨rfl,rfl⟩:=hr;exact⟨.nil,rfl,.nil⟩
 | h::l,H,b,x,us,os,hl,hr,hn,hs=>by
  obtain⟨u,us',o1,o2,rfl,rfl,h1,h2⟩:=hr;simp only[KM,AD]at hl;have un:Al E H b (h::l) x=(match BJ E H b h x.1 with|(c,H,b)=>match Al E H b l x.2 with|(cs,H,b)=>(c::cs,H,b)):=rfl;obtain⟨k1,k2,k3⟩:=aIl hM h H b x.1 u o1 hl.1 h1 hn.left (λt ht=>hs t<|Bw _ ht);rw[un];generalize BJ E H b h x.1=r at *;obtain⟨c,H',b'⟩:=r;simp only at k1 k2 k3 ⊢;subst k2;obtain⟨j1,j2,j3⟩:=aD hM l H' (b+o1.length) x.2 us' o2 hl.2 h2 hn.right (λt ht=>hs t<|CR _ ht);generalize Al E H' (b+o1.length) l x.2=r at *;obtain⟨cs,H'',b''⟩:=r;simp only at j1 j2 j3 ⊢;subst j2;refine⟨.cons k1 j1,by simp[DG], ?_⟩;rw[Ax];exact k3.trans j3
end
end Go.VS
namespace Go.VS
open Go
def Yl:∀ {l:List Nat},Nf l=Y->l.Nodup
 | [],_=>List.nodup_nil
 | a::l,h=>by
  simp only[Nf,AD,Bz]at h;refine IY.2 ⟨λhm=> ?_,Yl h.2⟩;have:(l.any λb=>Ai a b)=Y:=Hd.2 ⟨a,hm,by simp⟩;rw[this]at h;cases h.1
def aHe{l m:List Nat}(h:off l m=Y):∀a∈l,a ∉ m:=λa ha hm=>by
 have h1:=CZ.1 h a ha;have:(m.any λb=>Ai a b)=Y:=Hd.2 ⟨a,hm,by simp⟩;rw[this]at h1;cases h1
section
variable {B:Be} {β β':Beta} {H H':Hp} {w w':World} {M:Nat->Prop} {E:Nat->AV} {e:Nat->Value} {stk:List (Array Value)} {s s':S} {a:Act}
def NT{ids:List Nat}{b:Nat}(h:b∈B0 (ids.filterMap β)):∃i∈ids,∃p a,β i=I p/\adr p.1=I a/\a.block=b:=by
 obtain⟨p,hp,hb⟩:=Gg.1 h;obtain⟨i,hi,hβ⟩:=Gg.1 hp;obtain⟨a,ha,e⟩:=DH.1 hb;exact⟨i,hi,p,a,hβ,ha,e⟩
def ZA(hH:Hs B β H w):∀ {ids:List Nat},ids.Nodup->(B0<|ids.filterMap β).Nodup
 | [],_=>List.nodup_nil
 | i::ids,h=>by
  obtain⟨h1,h2⟩:=IY.1 h;have ih:=ZA hH h2;cases hβ:β i with
  | none=>simpa[hβ] using ih
  | some p=>
   cases hb:HU p with
   | none=>simpa[hβ,hb] using ih
   | some b=>
    simp only[B0,pL,hβ,hb];refine IY.2 ⟨λhm=> ?_,ih⟩;obtain⟨j,hj,q,a',hq,ha',e'⟩:=NT hm;obtain⟨a,ha,e⟩:=DH.1 hb;have:=hH.inj i j p q a a' hβ hq ha ha' (by rw[e,e']);subst this;exact h1 hj
def UT{ids:List Nat}{b:Nat}(h:b∈B0 (ids.filterMap β)):MB β b:=by
 obtain⟨i,_,p,a,h1,h2,h3⟩:=NT h;exact⟨i,p.1,p.2,a,h1,h2,h3⟩
abbrev MO(B:Be)(l:List Nat)(b:Nat):Prop:=b∈l\/B.Z b
def ab4(hH:Hs B β H w){ids:List Nat}{b:Nat}(h:MO B (B0<|ids.filterMap β) b):MZ β b:=by
 obtain h|h:=h
 .exact .inl (UT h)
 .exact .inr (by rw[hH.z];exact h)
def qO(hH:Hs B β H w){fz ids:List Nat}(h:off fz ids=Y):SG β (MO B<|B0<|ids.filterMap β) fz:=by
 intro i hi p a hp ha hm;obtain hm|hm:=hm
 case inr=>rw[← hH.z]at hm;exact hH.zn i p a hp ha hm
 obtain⟨j,hj,q,a',hq,ha',e⟩:=NT hm;have:=hH.inj i j p q a a' hp hq ha ha' e.symm;subst this;exact aHe h i hi hj
def Hx(Z:Nat->Prop)(os:List (Value×Nat)):Beta:=⟨λi=>os[i]?, Z⟩
def qN(Z:Nat->Prop)(os:List (Value×Nat)):Num (Hx Z os) 0 os:=λi p h=>by rw[DR];exact h
def NY{Z:Nat->Prop}{os:List (Value×Nat)}{b:Nat}(h:MB (Hx Z os) b):b∈B0 os:=by
 obtain⟨i,hd,n,a,h1,h2,h3⟩:=h;exact Gg.2 ⟨(hd,n),Cs h1,by simp[HU,h2,h3]⟩
def qk{os:List (Value×Nat)}{b:Nat}(h:MZ (Hx B.Z os) b):MO B (B0 os) b:=h.imp NY λh=>h
def aB{os:List (Value×Nat)}(h:(B0 os).Nodup):∀(i j:Nat) (p q:Value×Nat) (a a':Addr),os[i]? =I p->os[j]? =I q->adr p.1=I a->adr q.1=I a'->a.block=a'.block->i=j:=by
 induction os with
 | nil=>intro i j p q a a' hi;simp at hi
 | cons x os ih=>
  have hx:∀ {p:Value×Nat} {a:Addr},adr p.1=I a->HU p=I a.block:=λh=>by simp[HU,h]
  have ih':(B0 os).Nodup:=by
   cases hb:HU x with
   | none=>simpa[hb] using h
   | some b=>simp only[B0,pL,hb]at h;exact(IY.1 h).2
  have Vh:∀(j:Nat) (q:Value×Nat) (a a':Addr),os[j]? =I q->adr x.1=I a->adr q.1=I a'->a.block=a'.block->False:=by
   intro j q a a' hj ha ha' e;simp only[B0,pL,hx ha]at h;refine(IY.1 h).1<|Gg.2 ⟨q,Cs hj, ?_⟩;rw[hx ha',e]
  intro i j p q a a' hi hj ha ha' e;cases i with
  | zero=>
   simp at hi;subst hi;cases j with
   | zero=>rfl
   | succ j=>simp at hj;exact(Vh j q a a' hj ha ha' e).elim
  | succ i=>
   simp at hi;cases j with
   | zero=>simp at hj;subst hj;exact(Vh i p a' a hi ha' ha e.symm).elim
   | succ j=>simp at hj;rw[ih ih' i j p q a a' hi hj ha ha' e]
def Hs.al9(hH:Hs B β H w){os:List (Value×Nat)}(hn:(B0 os).Nodup)(hb:∀b∈B0 os,MB β b)(hm:Ik B.P w (Hx B.Z os) (λ_=>G) H' 0 os.length):Hs B (Hx B.Z os) H' w where
 ES id ob ho:=by
  by_cases h:id<os.length
  .obtain⟨ob',h1,h2⟩:=hm.2 id (D5 _) J;rw[h1]at ho;cases ho;exact h2
  .rw[hm.1 id J]at ho;cases ho
 dom id p hp:=by
  have h:id<os.length:=(BN.1<|show os[id]? =I p from hp).1;obtain⟨ob',h1,_⟩:=hm.2 id (D5 _) J;exact⟨ob',h1⟩
 inj i j p q a a' hi hj:=aB hn i j p q a a' hi hj
 old b h:=hH.old b (hb b<|NY h)
 os:=hH.os
 tape:=hH.tape
 output:=hH.output
 size:=hH.size
 block:=hH.block
 z:=rfl
 zn id p a hp ha hz:=by
  have hb:=hb a.block (Gg.2 ⟨p,Cs hp,by simp[HU,ha]⟩);obtain⟨j,hd,n,a',h1,h2,h3⟩:=hb;refine hH.zn j _ a' h1 h2 ?_;rw[h3,hH.z];exact hz
 zl b h:=hH.zl b (by rw[hH.z];exact h)
 pk:=hH.pk
def aFX{E:Nat->AV}{h:Sh}{c:AV}{x:LT h}(hx:Bq E H h c=I x):(∀g w v,c≠ .gd g w v)/\ ∀vs,c≠ .tup vs:=by
 constructor
 .rintro g w v rfl;cases h<;>simp[Bq,CK]at hx
 .rintro vs rfl;cases h<;>simp[Bq,CK]at hx
def RT.N3{tm:Nat->Value}{c:AV}{v:Value}(h:RT w β tm c v)(h1:∀g w v,c≠ .gd g w v)(h2:∀vs,c≠ .tup vs):R1 w β c v:=by
 cases c<;>first|exact h|exact absurd rfl (h1 _ _ _)|exact absurd rfl (h2 _)
def aE5{tm:Nat->Value}{T:Nat->AV}(R:OI B β H w M T tm)(hT:∀t,RT w β tm (T t)<|tm t):∀(c:Sch) (x:Lv c),qh H T c=I x->SG β M (rB H T c)->
  ∃os,Cn B.P w M tm (c.map (·.2)) x (c.map λp=>tm p.1) os/\B0 os=B0 ((PH H T c).filterMap β)
 | [],x,hx,_=>⟨[],⟨rfl,rfl⟩,rfl⟩
 | (t,h)::c,x,hx,hf=>by
  obtain⟨x1,e1,hx⟩:=Aj.1 hx;obtain⟨x2,e2,hx⟩:=Aj.1 hx;cases hx;obtain⟨p1,p2⟩:=aFX e1;obtain⟨o1,j1,j2⟩:=po R h (T t) (tm t) x1 ((hT t).N3 p1 p2) e1 (λi hi=>hf i<|Bw _ hi);obtain⟨o2,j3,j4⟩:=aE5 R hT c x2 e2 (λi hi=>hf i<|CR _ hi);refine⟨o1++o2,⟨tm t,c.map λp=>tm p.1,o1,o2,rfl,rfl,j1,j3⟩, ?_⟩;simp only[B0,Mr,PH]at j2 j4 ⊢;rw[j2,j4]
def aFd{P:Program}{tm:Nat->Value}(hM:∀b,MZ β b->M b):∀(c:Sch) (T:Nat->AV) (H:Hp) (b:Nat) (x:Lv c) (os:List (Value×Nat)),KM (c.map (·.2))=Y->Cn P w M tm (c.map (·.2)) x (c.map λp=>tm p.1) os->Num β b os->(∀t,R1 w β (T t)<|tm t)->
  (∀t,R1 w β ((MS T H b c x).1 t)<|tm t)/\(MS T H b c x).2.2=b+os.length/\Ik P w β H (MS T H b c x).2.1 b os.length
 | [],T,H,b,x,os,_,hr,_,hT=>by obtain⟨_,rfl⟩:=hr;exact⟨hT,rfl,.nil⟩
 | (t,h)::c,T,H,b,x,os,hl,hr,hn,hT=>by
  obtain⟨u,us',o1,o2,e1,rfl,h1,h2⟩:=hr;simp only[DZ,Mt]at e1;obtain⟨rfl,rfl⟩:=e1;simp only[DZ,KM,AD]at hl;have un:MS T H b ((t,h)::c) x=(match BJ T H b h x.1 with|(v,H,b)=>MS (upd T t v) H b c x.2):=rfl;obtain⟨k1,k2,k3⟩:=aIl (E:=T) hM h H b x.1 (tm t) o1 hl.1 h1 hn.left (λt' _=>hT t');rw[un];generalize BJ T H b h x.1=r at *;obtain⟨v,H',b'⟩:=r;simp only at k1 k2 k3 ⊢;subst k2;obtain⟨j1,j2,j3⟩:=aFd hM c (upd T t v) H' (b+o1.length) x.2 o2 hl.2 h2 hn.right (λt'=>by
   by_cases e:t'=t
   .subst e;rw[Bg];exact k1
   .rw[BF _ _ e];exact hT t')
  refine⟨j1,by rw[j2];simp[DG], ?_⟩;rw[Ax];exact k3.trans j3
def R1.au{tm:Nat->Value}{c:AV}{v:Value}(h:R1 w β c v):RT w β tm c v:= .Hg<|.Hh h
def St.join(hst:St B β stk s a w){c:Sch}{x:Lv c}(hx:rdS c s=I x):stk=[]/\ ∃β',St B β' [] (mkS s.n s.pins c x) a w/\Fr (mkS s.n s.pins c x)/\(mkS s.n s.pins c x).n=s.n/\(mkS s.n s.pins c x).pins=s.pins:=by
 unfold rdS at hx;split at hx
 .rename_i hs hnd hok;have Re:stk=[]:=by
   have:=hst.stack.1;rw[hs]at this;exact E5 this
  refine⟨Re, ?_⟩;simp only[AD]at hnd;simp only[abE,AD]at hok;have R:OI B β s.H w (MO B<|B0<|(PH s.H s.T c).filterMap β) s.T (Bc a):={
   hs:=hst.hs
   hM:=λb hb=>ab4 hst.hs hb
   hE:=λt id z e=>(hst.T t).N3 (by rw[e];simp) (by rw[e];simp) }
  obtain⟨os,h1,h2⟩:=aE5 R hst.T c x hx<|qO hst.hs hnd.2;have an:(B0 os).Nodup:=by rw[h2];exact ZA hst.hs<|Yl hnd.1
  have hMB:∀b∈B0 os,MB β b:=λb hb=>by rw[h2]at hb;exact UT hb
  obtain⟨k1,k2,k3⟩:=aFd (β:=Hx B.Z os) (P:=B.P) (w:=w) (M:=MO B<|B0<|(PH s.H s.T c).filterMap β) (tm:=Bc a) (λb hb=>by have:=qk hb;rw[h2]at this;exact this) c (λ_=> .un) (λ_=>G) 0 x os hok.1.2 h1 (qN B.Z os) (λ_=>trivial);have un:mkS s.n s.pins c x=(match MS (λ_=> .un) (λ_=>G) 0 c x with
   | (T,H,b)=>{ n:=s.n,T:=T,H:=H,nid:=b,st:=[],pins:=s.pins,gs:=λ_=>A0 }):=rfl
  rw[un];generalize MS (λ_=> .un) (λ_=>G) 0 c x=r at *;obtain⟨T,H',b⟩:=r;simp only at k1 k2 k3;have hH:=hst.hs.al9 an hMB k3;refine⟨Hx B.Z os,⟨λt=>(k1 t).au,⟨rfl,λi T' tm h=>by simp at h⟩,hst.n,hst.defers,hst.pins,λt g want y hy=> ?_,hH⟩,λj hj=> ?_,rfl,rfl⟩
  .have:=k1 t;have hy:T t= .gd g want y:=hy;rw[hy]at this;exact this.elim
  .exact k3.1 j (.inr (by have hj:b<=j:=hj;omega))
 .cases hx
end
end Go.VS
namespace Go.VS
open Go
structure KOK {Ω:Type} (B:Be) (stk:List (Array Value)) (n:Nat) (pins:List Nat) (k:Kt Ω) (q:Ω) (Q:Exit->Act->World->Prop):Prop where
 nrm:∀β a w s,St B β stk s a w->Fr s->s.n=n->s.pins=pins->k.nrm s=I q->Q .normal a w
 ret:∀β a w s,St B β stk s a w->Fr s->s.n=n->s.pins=pins->k.ret s=I q->Q .ret a w
 ext:∀id β a w s,St B β stk s a w->Fr s->s.n=n->s.pins=pins->k.ext id s=I q->Q (.exit id) a w
def Na(B:Be)(n:Nat)(pins:List Nat)(body:Code)(l:Loop):Prop:=∀(x:Lv l.sch) (r:Lv l.L4 ⊕ Lv l.L5),l.run x=I r->∀(β:Beta) (a:Act) (w:World) (Q:Exit->Act->World->Prop),
 St B β [] (mkS n pins l.sch x) a w->Fr (mkS n pins l.sch x)->
 (∀y,r= .inl y->∀β a w,St B β [] (mkS n pins l.L4 y) a w->Fr (mkS n pins l.L4 y)->Q .ret a w)->
 (∀y,r= .inr y->∀β a w,St B β [] (mkS n pins l.L5 y) a w->Fr (mkS n pins l.L5 y)->Q (.exit l.xid) a w)->(Code.loop body).wp B.P Q a w
def Hw(L:Code->Loop->Prop):Code->Adv->Prop
 | .seq a b,.join _ u v=>Hw L a u/\Hw L b v
 | .seq a b,v=>Hw L a v.a/\Hw L b v.z
 | .cond _ x y,v=>Hw L x v.a/\Hw L y v.z
 | .block _ c,v=>Hw L c v.a
 | .loop c,.loop l=>L c l
 | _,_=>True
def GQ(L:Code->Loop->Prop):∀c:Code,Hw L c .nil
 | .seq a b=>⟨GQ L a,GQ L b⟩
 | .cond _ x y=>⟨GQ L x,GQ L y⟩
 | .block _ c=>GQ L c
 | .skip=>trivial
 | .region _ _ _=>trivial
 | .loop _=>trivial
 | .exit _=>trivial
 | .ret=>trivial
 | .rangeFunc _ _ _ _=>trivial
 | .scope _=>trivial
 | .label _=>trivial
 | .goto _=>trivial
 | .refuse _=>trivial
section
variable {C:Cx} {B:Be} {inl:(Ω:Type)->Inl Ω}
def ZQ(hP:C.P=B.P)(hm:B.P.follows .mixedOrders=Y)(hC:Hn C B)(hI:JZ C B inl):∀(c:Code) {Ω:Type} (v:Adv) (k:Kt Ω) (s:S) (q:Ω) {β:Beta} {stk:List (Array Value)} {a:Act} {w:World} {Q:Exit->Act->World->Prop},
  evk C inl c Ω v k s=I q->St B β stk s a w->Fr s->Hw (Na B s.n s.pins) c v->KOK B stk s.n s.pins k q Q->c.wp B.P Q a w:=by
 intro c
 induction c with
 | skip=>exact λv k s q β stk a w Q he hst hfr _ hk=>wp_skip<|hk.nrm _ _ _ _ hst hfr rfl rfl he
 | region id ops draw=>
  intro Ω v k s q β stk a w Q he hst hfr _ hk;cases draw with
  | false=>exact aEC hP hC hI (show Pq C (inl Ω) ops ops.toList s k.nrm=I q from he) hfr hst λβ a w s' h1 h2 h3 h4 h5=>hk.nrm β a w s' h1 h2 h3 h4 h5
  | true=>
   obtain⟨β1,hs1,_⟩:=St.Lq (SL C ops s) hst;have hk1:=BH.Lq (N:=λ_=>False) (SL C ops s)<|BH.refl _ s;have he:evD C ops ((SL C ops s).foldl S.freeze s) ops.toList 0 s.nid [] ((SL C ops s).foldl S.freeze s) k.nrm=I q:=he;rw[← hk1.nid]at he;exact auX hP hm hC he (λj hj=>hk1.nn j (λh=>h)<|hfr j (by rw[hk1.nid]at hj;exact hj)) hs1 λβ a w s' h1 h2 h3 h4 h5=>hk.nrm β a w s' h1 h2 (h3.trans hk1.n) (h4.trans hk1.pins) h5
 | seq x y ihx ihy=>
  intro Ω v k s q β stk a w Q he hst hfr Gr hk;refine wp_seq ?_;by_cases hj:∃c u v',v= .join c u v'
  .obtain⟨c,u,v',rfl⟩:=hj;obtain⟨ha1,ha2⟩:=Gr;have he:BU (λx=>evk C inl y Ω v' k<|mkS s.n s.pins c x) (evk C inl x (Ω ⊕ Lv c) u { nrm:=λs=>(rdS c s).bind λx=>I<|.inr x,ret:=λs=>(k.ret s).bind λo=>I<|.inl o,ext:=λj s=>(k.ext j s).bind λo=>I (.inl o) } s)=I q:=he;obtain⟨r,h1,h2⟩:=Aj.1 he;refine ihx u _ s r h1 hst hfr ha1 ⟨?_, ?_, ?_⟩
   .intro β' a' w' s' k1 k2 k3 k4 k5;obtain⟨z,j1,j2⟩:=Aj.1 k5;cases j2;obtain⟨rfl,β2,m1,m2,m3,m4⟩:=k1.join j1;rw[k3,k4]at m1 m2 m3 m4;exact ihy v' k _ q h2 m1 m2 (by rw[m3,m4];exact ha2) (by rw[m3,m4];exact hk)
   .intro β' a' w' s' k1 k2 k3 k4 k5;obtain⟨o,j1,j2⟩:=Aj.1 k5;cases j2;have h2:I o=I q:=h2;cases h2;exact hk.ret _ _ _ _ k1 k2 k3 k4 j1
   .intro id β' a' w' s' k1 k2 k3 k4 k5;obtain⟨o,j1,j2⟩:=Aj.1 k5;cases j2;have h2:I o=I q:=h2;cases h2;exact hk.ext id _ _ _ _ k1 k2 k3 k4 j1
  .have he:evk C inl x Ω v.a { k with nrm:=evk C inl y Ω v.z k } s=I q:=by
    cases v<;>first|exact he|exact absurd ⟨_,_,_,rfl⟩ hj
   have Gr:Hw (Na B s.n s.pins) x v.a/\Hw (Na B s.n s.pins) y v.z:=by
    cases v<;>first|exact Gr|exact absurd ⟨_,_,_,rfl⟩ hj
   refine ihx v.a _ s q he hst hfr Gr.1 ⟨?_,hk.ret,hk.ext⟩;intro β' a' w' s' k1 k2 k3 k4 k5;exact ihy v.z k s' q k5 k1 k2 (by rw[k3,k4];exact Gr.2) (by rw[k3,k4];exact hk)
 | cond o x y ihx ihy=>
  intro Ω v k s q β stk a w Q he hst hfr Gr hk;have he:(match s.ev o with
   | .lit (.bool b)=>if b then evk C inl x Ω v.a k s else evk C inl y Ω v.z k s
   | _=>G)=I q:=he
  split at he
  .rename_i b hb;have h1:=hst.eval o;rw[hb]at h1;have h2:a.eval o= .bool b:=h1;refine wp_cond h2 ?_;cases b with
   | true=>exact ihx v.a k s q he hst hfr Gr.1 hk
   | false=>exact ihy v.z k s q he hst hfr Gr.2 hk
  .cases he
 | block id x ihx=>
  intro Ω v k s q β stk a w Q he hst hfr Gr hk;refine wp_block ?_;have he:evk C inl x Ω v.a { k with ext:=λj s=>match Ai j id with
   | true=>k.nrm s
   | false=>k.ext j s } s=I q:=he
  refine ihx v.a _ s q he hst hfr Gr ⟨hk.nrm,hk.ret, ?_⟩;intro j β' a' w' s' k1 k2 k3 k4 k5;show if j=id then Q .normal a' w' else Q (.exit j) a' w'
  simp only at k5;split at k5
  .rename_i e;rw[A5<|Bo e];exact hk.nrm _ _ _ _ k1 k2 k3 k4 k5
  .rename_i e;rw[A9<|Tv e];exact hk.ext _ _ _ _ _ k1 k2 k3 k4 k5
 | loop body _=>
  intro Ω v k s q β stk a w Q he hst hfr Gr hk;cases v<;>first|(cases he;done)|skip
  rename_i l;have he:((rdS l.sch s).bind λx=>AM (l.run x) (λy=>k.ret<|mkS s.n s.pins l.L4 y) λy=>k.ext l.xid (mkS s.n s.pins l.L5 y))=I q:=he;obtain⟨x,h1,h2⟩:=Aj.1 he;obtain⟨r,h3,h4⟩:=Aj.1 h2;obtain⟨rfl,β',m1,m2,_,_⟩:=hst.join h1;have Gr:Na B s.n s.pins body l:=Gr;refine Gr x r h3 β' a w Q m1 m2 ?_ ?_
  .rintro y rfl β a w k1 k2;exact hk.ret _ _ _ _ k1 k2 (by unfold mkS;rfl) (by unfold mkS;rfl) h4
  .rintro y rfl β a w k1 k2;exact hk.ext _ _ _ _ _ k1 k2 (by unfold mkS;rfl) (by unfold mkS;rfl) h4
 | exit id=>exact λv k s q β stk a w Q he hst hfr _ hk=>wp_exit<|hk.ext _ _ _ _ _ hst hfr rfl rfl he
 | ret=>exact λv k s q β stk a w Q he hst hfr _ hk=>wp_ret<|hk.ret _ _ _ _ hst hfr rfl rfl he
 | _=>
  intro Ω v k s q β stk a w Q he;cases he
def nI(p:Nat->Prop)(h:∃n,p n):∃n,p n/\ ∀m,p m->n<=m:=by
 obtain⟨n,hn⟩:=h
 induction n using Nat.strongRecOn with
 | _ n ih=>
  by_cases hm:∃m,m<n/\p m
  .obtain⟨m,h1,h2⟩:=hm;exact ih m h1 h2
  .exact⟨n,hn,λm h=>Nat.le_of_not_lt λhlt=>hm ⟨m,hlt,h⟩⟩
def aGZ{X HR:Type}{b:X->Option (X ⊕ HR)}{x:X}{y:HR}(h:AS b x=I y):∃n,Hv b n x=I y:=by
 unfold AS at h;split at h
 .rename_i hn;have:=J9<|J9 hn;cases h;exact⟨_,this⟩
 .cases h
def mm{X HR:Type}{b:X->Option (X ⊕ HR)}:∀(n:Nat) (x:X) {y:HR},Hv b n x=I y->∀m,n<=m->Hv b m x=I y
 | 0,x,y,h=>by cases h
 | n+1,x,y,h=>by
  intro m hm;obtain⟨m,rfl⟩:∃k,m=k+1:=⟨m - 1,J⟩;obtain⟨r,h1,h2⟩:=Aj.1 (show((b x).bind λr=>match r with
   | .inl y=>Hv b n y
   | .inr z=>I z)=I y from h)
  show((b x).bind λr=>match r with
   | .inl y=>Hv b m y
   | .inr z=>I z)=I y
  rw[h1,A6];cases r with
  | inl z=>exact mm n z h2 m J
  | inr z=>exact h2
def aG0{X HR:Type}{b:X->Option (X ⊕ HR)}{x:X}{y:HR}{n:Nat}(h:Hv b n x=I y):AS b x=I y:=by
 have hn:∃n y,Hv b n x=I y:=⟨n,y,h⟩;unfold AS;rw[dif_pos hn];have h1:=J9<|J9 hn;have h2:=mm _ _ h (n+Nt hn) J;have h3:=mm _ _ h1 (n+Nt hn) J;rw[h2]at h3;exact h3.symm
def aro{X HR:Type}{b:X->Option (X ⊕ HR)}{n:Nat}{x:X}{y:HR}(h:Hv b (n+1) x=I y):∃r,b x=I r/\(∀x',r= .inl x'->Hv b n x'=I y)/\(∀z,r= .inr z->z=y):=by
 obtain⟨r,h1,h2⟩:=Aj.1 (show((b x).bind λr=>match r with
   | .inl y=>Hv b n y
   | .inr z=>I z)=I y from h)
 refine⟨r,h1, ?_, ?_⟩
 .rintro x' rfl;exact h2
 .rintro z rfl;exact Ck h2
def ax0(hP:C.P=B.P)(hm:B.P.follows .mixedOrders=Y)(hC:Hn C B)(hI:JZ C B inl){n:Nat}{pins:List Nat}{body:Code}{v:Adv}{l:Loop}{b:Lv l.sch->Option (Lv l.sch ⊕ (Lv l.L4 ⊕ Lv l.L5))}
  (hb:∀x,evL C inl n pins body v l x=b x)(hr:l.run=AS b)(Gr:Hw (Na B n pins) body v):Na B n pins body l:=by
 intro x r Cp β a w Q hst hfr Ij ali;rw[hr]at Cp;obtain⟨N,hN⟩:=aGZ Cp
 let Td:Nat->Act->World->Prop:=λm a w=>∃(x:Lv l.sch) (β:Beta),Hv b m x=I r/\St B β [] (mkS n pins l.sch x) a w/\Fr (mkS n pins l.sch x)
 classical
 let μ:Act->World->Nat:=λa w=>if h:∃m,Td m a w then Nt (nI _ h) else 0
 have hμ:∀a w,(h:∃m,Td m a w)->Td (μ a w) a w/\ ∀m,Td m a w->μ a w<=m:=λa w h=>by
  have:=J9<|nI _ h;simp only[μ,dif_pos h];exact this
 refine wp_loop (λa w=>∃m,Td m a w) μ ⟨N,x,β,hN,hst,hfr⟩ ?_;intro a w hJ;obtain⟨⟨x,β,h1,h2,h3⟩,_⟩:=hμ a w hJ;generalize hm':μ a w=m at h1;cases m with
 | zero=>cases h1
 | succ m=>
  obtain⟨r1,k1,k2,k2'⟩:=aro h1;have he:=hb x;rw[k1]at he;unfold evL at he;have en:(mkS n pins l.sch x).n=n:=by unfold mkS;rfl
  have ep:(mkS n pins l.sch x).pins=pins:=by unfold mkS;rfl
  refine ZQ hP hm hC hI body v _ _ r1 he h2 h3 (by rw[en,ep];exact Gr) ?_;rw[en,ep];refine⟨?_, ?_, ?_⟩
  .intro β' a' w' s' j1 j2 j3 j4 j5;obtain⟨y,i1,i2⟩:=Aj.1 j5;cases i2;obtain⟨_,β2,m1,m2,_,_⟩:=j1.join i1;rw[j3,j4]at m1 m2;have hJ':Td m a' w':=⟨y,β2,k2 y rfl,m1,m2⟩;refine⟨⟨m,hJ'⟩, ?_⟩;have:=(hμ a' w' ⟨m,hJ'⟩).2 m hJ';omega
  .intro β' a' w' s' j1 j2 j3 j4 j5;obtain⟨y,i1,i2⟩:=Aj.1 j5;cases i2;obtain⟨_,β2,m1,m2,_,_⟩:=j1.join i1;rw[j3,j4]at m1 m2;have k2:=k2' _ rfl;subst k2;exact Ij y rfl _ _ _ m1 m2
  .intro id β' a' w' s' j1 j2 j3 j4 j5;simp only at j5;split at j5
   .rename_i hid;obtain rfl:=Bo hid;obtain⟨y,i1,i2⟩:=Aj.1 j5;cases i2;obtain⟨_,β2,m1,m2,_,_⟩:=j1.join i1;rw[j3,j4]at m1 m2;have k2:=k2' _ rfl;subst k2;exact ali y rfl _ _ _ m1 m2
   .cases j5
end
end Go.VS
namespace Go.VS
open Go
def My:List Value->Value
 | [v]=>v
 | vs=> .tuple vs.toArray
def KD:List Sh->List Value->List Value
 | .box _ _::ps,v::vs=>v::KD ps vs
 | _::ps,_::vs=>KD ps vs
 | _,_=>[]
def Ma(P:Program)(f:FuncId):Prop:=∀(args:Array Value) (w:World),(callFunc f args).run P w= .ok (.enter f args) w
def Ow{P:Program}{f:FuncId}{fn:Func}{c:Code}(hf:P.funcs[f]? =I fn)(Ks:(fn.name == "runtime.NumGoroutine")=A0)(hb:fn.body=I c):Ma P f:=by
 intro args w;have sJ:¬fn.name= "runtime.NumGoroutine" :=by simpa using Ks
 simp[callFunc,hf,sJ,hb]
abbrev ar(args:List Value):Nat->Value:=λi=>args.getD i undef
structure Ret (P:Program) (m:Db) (Z:Nat->Prop) (args:List Value) (os:List (Value×Nat)) (w:World) (r:LTs m.rs×LTs (B3 m.ps)) (v:Value) (w':World):Prop where
 ex:∃vs os1 os2,v=My vs/\Cn P w' (λb=>b∈B0 (os1++os2)\/Z b) (ar args) m.rs r.1 vs os1/\Cn P w' (λb=>b∈B0 (os1++os2)\/Z b) (ar args) (B3 m.ps) r.2 (KD m.ps args) os2/\
  (B0<|os1++os2).Nodup/\(∀b∈B0 (os1++os2),(b∈B0 os\/w.heap.size<=b)/\b<w'.heap.size)
 wos:w'.os=w.os
 tape:w'.tape=w.tape
 output:w'.output=w.output
 size:w.heap.size<=w'.heap.size
 block:∀b,b<w.heap.size->b ∉ B0 os->w'.heap[b]? =w.heap[b]?
 pk:Pk P w w'
def H4(P:Program)(f:FuncId)(m:Db):Prop:=Ma P f/\ ∀(x:LTs m.ps) (r:LTs m.rs×LTs (B3 m.ps)),m.g x=I r->∀(w:World) (Z:Nat->Prop) (args:List Value) (os:List (Value×Nat)),
 Cn P w (λb=>b∈B0 os\/Z b) (ar args) m.ps x args os->(B0 os).Nodup->(∀b∈B0 os,b<w.heap.size/\ ¬Z b)->(∀b,Z b->b<w.heap.size)->O3 P w (λb=>b∈B0 os)->
 Calls P f args.toArray w λen w'=>∃v,en= .returned v/\Ret P m Z args os w r v w'
section
variable {C:Cx} {B:Be} {β:Beta} {H:Hp} {w w':World} {M:Nat->Prop} {stk:List (Array Value)} {s s':S} {a:Act} {P:Program} {e e':Nat->Value}
mutual
theorem Rel.congr:∀(h:Sh) (x:LT h) (v:Value) (os:List (Value×Nat)),(∀t∈Mf h,e t=e' t)->Rel P w M e h x v os->Rel P w M e' h x v os
 | .int _,_,_,_,_,h=>h
 | .bool,_,_,_,_,h=>h
 | .str,_,_,_,_,h=>h
 | .sl _,_,_,_,_,h=>h
 | .fz _,_,_,_,_,h=>h
 | .row _ _,_,_,_,_,h=>h
 | .Co _ _,_,_,_,_,h=>h
 | .abx _ _,_,_,_,_,h=>h
 | .arr _,_,_,_,_,h=>h
 | .same t,_,_,_,he,h=>⟨h.1,h.2.1.trans<|he t<|by simp[Mf],h.2.2⟩
 | .agg l,x,v,os,he,h=>by
  obtain⟨us,h1,h2⟩:=h;exact⟨us,h1,Cn.congr l x us os he h2⟩
 | .box t l,x,v,os,he,h=>by
  obtain⟨b,us,os',h1,h2,h3,h4⟩:=h;exact⟨b,us,os',h1,h2,Cn.congr l x us.toList os' he h3,h4⟩
theorem Cn.congr:∀(l:List Sh) (x:LTs l) (us:List Value) (os:List (Value×Nat)),(∀t∈Iv l,e t=e' t)->Cn P w M e l x us os->Cn P w M e' l x us os
 | [],_,_,_,_,h=>h
 | h::l,x,us,os,he,hr=>by
  obtain⟨u,us',o1,o2,h1,h2,h3,h4⟩:=hr;exact⟨u,us',o1,o2,h1,h2,Rel.congr h x.1 u o1 (λt ht=>he t<|Bw _ ht) h3,Cn.congr l x.2 us' o2 (λt ht=>he t<|CR _ ht) h4⟩
end
def Cn.length:∀ {l:List Sh} {x:LTs l} {us:List Value} {os:List (Value×Nat)},Cn P w M e l x us os->us.length=l.length
 | [],_,_,_,h=>by rw[h.1];rfl
 | h::l,x,us,os,hr=>by
  obtain⟨u,us',o1,o2,rfl,_,_,h4⟩:=hr;simp[Cn.length h4]
def aDT{E:Nat->AV}:∀ {l:List Sh} {cs:List AV} {x:LTs l},GX E H l cs=I x->cs.length=l.length
 | [],[],_,_=>rfl
 | [],_::_,_,h=>by cases h
 | _::_,[],_,h=>by cases h
 | h::l,c::cs,x,hx=>by
  obtain⟨x1,e1,hx⟩:=Aj.1 hx;obtain⟨x2,e2,hx⟩:=Aj.1 hx;simp[aDT e2]
def aDa:∀ {l l':List Sh} {cs cs':List AV},cs.length=l.length->Bn H (l++l') (cs++cs')=Bn H l cs++Bn H l' cs'
 | [],l',[],cs',_=>rfl
 | h::l,l',c::cs,cs',hl=>by
  simp only[Lf,Bn,aDa (l:=l) (cs:=cs)<|by simpa using hl,C7]
 | [],_,_::_,_,hl=>by simp at hl
 | _::_,_,[],_,hl=>by simp at hl
def aDb:∀ {l l':List Sh} {cs cs':List AV},cs.length=l.length->D3 H (l++l') (cs++cs')=D3 H l cs++D3 H l' cs'
 | [],l',[],cs',_=>rfl
 | h::l,l',c::cs,cs',hl=>by
  simp only[Lf,D3,aDb (l:=l) (cs:=cs)<|by simpa using hl,C7]
 | [],_,_::_,_,hl=>by simp at hl
 | _::_,_,[],_,hl=>by simp at hl
def V1(tmps:Array Value):ResultVar->Sem Value
 | .tmp t=>pure (tmps.getD t undef)
 | .cell a t=>do loadVar t (← asAddr<|tmps.getD a undef)
def Zs(hP:P=B.P)(hst:St B β stk s a w):∀(l:List ResultVar) {vs:List AV},RG P s l=I vs->
  ∃us:List Value,(l.mapM<|V1 a.tmps).run P w=Result.ok us w/\us.length=vs.length/\ ∀(i:Nat) (c:AV) (u:Value),vs[i]? =I c->us[i]? =I u->RX w β (Bc a) c u
 | [],vs,h=>by
  cases h;exact⟨[],rfl,rfl,λi c u h=>by simp at h⟩
 | .tmp t::l,vs,h=>by
  obtain⟨vs',h1,h⟩:=Aj.1 h;cases h;obtain⟨us,k1,k2,k3⟩:=Zs hP hst l h1;refine⟨Bc a t::us, ?_,by simp[k2],λi c u h1 h2=> ?_⟩
  .simp only[Uq,V1,Ev,G3,FF,k1];rfl
  .cases i with
   | zero=>
    simp at h1 h2;subst h1;subst h2;exact(hst.T t).aq
   | succ i=>exact k3 i c u (by simpa using h1)<|by simpa using h2
 | .cell x t::l,vs,h=>by
  obtain⟨v,h0,h⟩:=Aj.1 h;obtain⟨vs',h1,h⟩:=Aj.1 h;cases h;obtain⟨us,k1,k2,k3⟩:=Zs hP hst l h1;have hx:R2 w β (s.T x) (Bc a x):=(hst.T x).aZ (by
   cases hT:s.T x<;>first|rfl|(rw[hT]at h0;cases h0))
  obtain⟨u,j1,j2⟩:=aHA hP hst.hs hx h0;have am1:∃ad,Bc a x= .pointer (I ad):=by
   cases hT:s.T x<;>rw[hT]at h0 hx<;>first|(cases h0;done)|skip
   .rename_i id z i o;have hx:RC w β (.ptr id z i o) (Bc a x):=hx;generalize Bc a x=y at hx;cases hx;exact⟨_,rfl⟩
   .rename_i k xx o;have hx:RC w β (.ipt k xx o) (Bc a x):=hx;generalize Bc a x=y at hx;cases hx;exact⟨_,rfl⟩
  obtain⟨ad,had⟩:=am1;have alo:a.tmps.getD x undef= .pointer (I ad):=had;rw[had]at j1;refine⟨u::us, ?_,by simp[k2],λi c u' h1 h2=> ?_⟩
  .have j1':(loadVar t ad).run P w= .ok u w:=by simpa[No,Jp] using j1
   simp only[Uq,V1,alo,asAddr,Ev,G3,FF,j1',k1]
  .cases i with
   | zero=>
    simp at h1 h2;subst h1;subst h2;exact(RT.Hg<|R2.Hh j2).aq
   | succ i=>exact k3 i c u' (by simpa using h1)<|by simpa using h2
def aE3{fn:Func}{us:List Value}(h:(fn.results.toList.mapM<|V1 a.tmps).run P w=Result.ok us w):(results fn a.tmps).run P w= .ok (My us) w:=by
 have e1:results fn a.tmps=(do
   let vs ← fn.results.mapM (V1 a.tmps)
   pure (if h:vs.size=1 then vs[0] else .tuple vs)):=rfl
 rw[e1,Array.mapM_eq_mapM_toList,map_eq_pure_bind];simp only[bind_assoc,pure_bind,Ev,h,FF,G3]
 match us with
 | []=>rfl
 | [u]=>rfl
 | u::v::l=>simp[My]
end
end Go.VS
namespace Go.VS
open Go
def okM(m:Db)(n:Nat):Bool:=KM m.ps&&KM m.rs&&E7 m.ps.length n&&(Iv m.rs++Iv (B3 m.ps)).all λt=>(EA 0 m.ps).any λp=>Ai p t
section
variable {C:Cx} {B:Be} {β:Beta} {H:Hp} {w w':World} {M:Nat->Prop} {stk:List (Array Value)} {s s':S} {a:Act} {P:Program} {e e':Nat->Value} {inl:(Ω:Type)->Inl Ω}
def YB{E:Nat->AV}:∀ {l:List Sh} {cs:List AV} {x:LTs l},GX E H l cs=I x->∀c∈cs,(∀g w v,c≠ .gd g w v)/\ ∀vs,c≠ .tup vs
 | [],[],_,_,c,hc=>by cases hc
 | [],_::_,_,h,_,_=>by cases h
 | _::_,[],_,h,_,_=>by cases h
 | h::l,d::cs,x,hx,c,hc=>by
  obtain⟨x1,e1,hx⟩:=Aj.1 hx;obtain⟨x2,e2,hx⟩:=Aj.1 hx;obtain rfl|hc:=Bm.1 hc
  .exact aFX e1
  .exact YB e2 c hc
def RX.N3{tm:Nat->Value}{c:AV}{v:Value}(h:RX w β tm c v)(h1:∀g w v,c≠ .gd g w v)(h2:∀vs,c≠ .tup vs):R1 w β c v:=by
 have:=h.of h1;cases c<;>first|exact this|exact absurd rfl (h2 _)
def aDz(args:List Value):∀(ps:List Sh) (k:Nat),args.length=k+ps.length->KD ps (args.drop k)=(EA k ps).map (ar args)
 | [],k,h=>by
  have:args.drop k=[]:=Mq (by simp at h;omega);rw[this];rfl
 | p::ps,k,h=>by
  have hk:k<args.length:=by simp at h;omega
  rw[Up hk];have ih:=aDz args ps (k+1) (by simp at h ⊢; omega);have oN:ar args k=args[k]:=by simp[ar,hk]
  cases p<;>simp only[KD,EA,VL,DZ,ih,oN]
def Tj(args:List Value)(n t:Nat):Bc { tmps:=args.toArray++Rk (n - args.toArray.size) undef,defers:=[] } t=ar args t:=by
 simp only[Bc,ar,Uo,BA];by_cases h:t<args.length
 .rw[Mn<|by simpa using h];simp
 .rw[Array.getElem?_append_right<|by simpa using h,Hz J];cases hr:(Rk (n - args.toArray.size) undef)[t - args.toArray.size]? with
  | none=>rfl
  | some v=>
   rw[Array.getElem?_replicate]at hr;split at hr
   .cases hr;rfl
   .cases hr
def bo{fn:Func}{m:Db}{r:LTs m.rs×LTs (B3 m.ps)}{args:List Value}{os:List (Value×Nat)}(hst:St B β stk s a w)(hO:B.O=λb=>b∈B0 os)(htm:B.tm0=ar args)(hlen:args.length=m.ps.length)(hp:s.pins=EA 0 m.ps)
  {n:Nat}(hok:okM m n=Y)(hf:fin B.P fn m s=I r):∃v,(results fn a.tmps).run B.P w= .ok v w/\Ret B.P m B.Z args os B.w0 r v w:=by
 unfold fin at hf;obtain⟨vs,h1,hf⟩:=Aj.1 hf;split at hf
 .rename_i hnd;simp only[AD]at hnd;obtain⟨r1,h2,hf⟩:=Aj.1 hf;obtain⟨q,h3,hf⟩:=Aj.1 hf;cases hf;obtain⟨us,k1,k2,k3⟩:=Zs rfl hst fn.results.toList h1;have hl1:=aDT h2;rw[aDa hl1,aDb hl1]at hnd;generalize al5:Bn s.H m.rs vs=O8 at hnd;generalize al4:Bn s.H (B3 m.ps) ((EA 0 m.ps).map s.T)=O7 at hnd;have R:OI B β s.H w (MO B<|B0<|(O8++O7).filterMap β) s.T (Bc a):={
   hs:=hst.hs
   hM:=λb hb=>ab4 hst.hs hb
   hE:=λt id z e=>(hst.T t).N3 (by rw[e];simp) (by rw[e];simp) }
  have hfz:=qO hst.hs hnd.2;have rl1:RL (R1 w β) vs us:=⟨k2,λj c u e1 e2=>(k3 j c u e1 e2).N3 (YB h2 c<|Cs e1).1 (YB h2 c<|Cs e1).2⟩;have rl2:RL (R1 w β) ((EA 0 m.ps).map s.T) ((EA 0 m.ps).map<|Bc a):=⟨by simp,λj c u e1 e2=>by
   obtain⟨h5,h6⟩:=YB h3 c<|Cs e1;rw[DI]at e1 e2;obtain⟨t,ht,rfl⟩:=DH.1 e1;obtain⟨t',ht',rfl⟩:=DH.1 e2;rw[ht]at ht';cases ht';exact(hst.T t).N3 h5 h6⟩
  obtain⟨os1,j1,j2⟩:=Yk R m.rs vs us r1 rl1 h2 (λi hi=>hfz i<|Bw _ hi);obtain⟨os2,j3,j4⟩:=Yk R (B3 m.ps) _ _ q rl2 h3 (λi hi=>hfz i<|CR _ hi);rw[al5]at j2;rw[al4]at j4;have GL:B0 (os1++os2)=B0 ((O8++O7).filterMap β):=by
   simp only[B0,Mr]at j2 j4 ⊢;rw[j2,j4]
  have oW:MO B (B0<|(O8++O7).filterMap β)=λb=>b∈B0 (os1++os2)\/B.Z b:=by rw[GL]
  rw[oW]at j1 j3;have aF3:∀t∈EA 0 m.ps,Bc a t=ar args t:=λt ht=>by rw[hst.pins t (by rw[hp];exact ht),htm]
  simp only[okM,AD,CZ,Hd]at hok;have HD:∀t∈Iv m.rs++Iv (B3 m.ps),Bc a t=ar args t:=λt ht=>by
   obtain⟨p,hp1,hp2⟩:=hok.2 t ht;rw[← Bo hp2];exact aF3 p hp1
  refine⟨My us,aE3 k1,⟨us,os1,os2,rfl,Cn.congr _ _ _ _ (λt ht=>HD t<|Bw _ ht) j1, ?_, ?_, ?_⟩,hst.hs.os,hst.hs.tape,hst.hs.output,hst.hs.size, ?_,hst.hs.pk⟩
  .have e1:KD m.ps args=(EA 0 m.ps).map (Bc a):=by
    have:=aDz args m.ps 0 J;rw[J6]at this;rw[this];exact H8 λt ht=>(aF3 t ht).symm
   rw[e1];exact Cn.congr _ _ _ _ (λt ht=>HD t<|CR _ ht) j3
  .rw[GL];exact ZA hst.hs (Yl hnd.1)
  .intro b hb;rw[GL]at hb;have:=hst.hs.old b<|UT hb;rw[hO]at this;exact this
  .intro b hb hn;have:=hst.hs.block b hb;rw[hO]at this;exact this hn
 .cases hf
def avJ{P:Program}(hP:C.P=P)(hm:P.follows .mixedOrders=Y)(hC:∀B:Be,B.P=P->Hn C B)(hI:∀B:Be,B.P=P->JZ C B inl){f:FuncId}{fn:Func}{body:Code}(hf:P.funcs[f]? =I fn)(Ks:(fn.name == "runtime.NumGoroutine")=A0)
  (hb:fn.body=I body){v:Adv}{m:Db}(hok:okM m fn.ntmps=Y)(Gr:∀B:Be,B.P=P->Hw (Na B fn.ntmps<|EA 0 m.ps) body v)(hg:∀x,cw C inl fn v m x=m.g x):H4 P f m:=by
 refine⟨Ow hf Ks hb,λx r hx w Z args os hr hnd hbl hZ hgl=> ?_⟩;rw[← hg]at hx;unfold cw at hx;rw[hb]at hx;simp only[evF]at hx;have UU:=hok;simp only[okM,AD]at UU;obtain⟨⟨⟨hps,hrs⟩,hn⟩,_⟩:=UU;have hn:=Dg hn;have hlen:=hr.length
 let B:Be:={ P:=P,w0:=w,O:=λb=>b∈B0 os,tm0:=ar args,Z:=Z,gl:=hgl }
 have Rg:Num (Hx Z os) 0 os:=qN Z os;obtain⟨k1,k2,k3⟩:=aD (β:=Hx Z os) (E:=λ_=> .un) (M:=λb=>b∈B0 os\/Z b) (P:=P) (w:=w) (e:=ar args) (λb hb=>qk (B:=B) hb) m.ps (λ_=>G) 0 x args os hps hr Rg (λt _=>trivial);have hi:SJ fn.ntmps m.ps x=(match Al (λ_=> .un) (λ_=>G) 0 m.ps x with
  | (vs,H,b)=>{ n:=fn.ntmps,T:=λt=>(vs[t]?).getD Dv,H:=H,nid:=b,st:=[],pins:=EA 0 m.ps,gs:=λ_=>A0 }):=rfl
 rw[hi]at hx;generalize Al (λ_=> .un) (λ_=>G) 0 m.ps x=q at *;obtain⟨vs,H,b⟩:=q;simp only at hx k1 k2 k3;have hH:Hs B (Hx Z os) H w:={
  ES:=λid ob ho=>by
   by_cases h:id<os.length
   .obtain⟨ob',h1,h2⟩:=k3.2 id (D5 _) J;rw[h1]at ho;cases ho;exact h2
   .rw[k3.1 id J]at ho;cases ho
  dom:=λid p hp=>by
   have h:id<os.length:=(BN.1<|show os[id]? =I p from hp).1;obtain⟨ob',h1,_⟩:=k3.2 id (D5 _) J;exact⟨ob',h1⟩
  inj:=λi j p q a a' hi hj=>aB hnd i j p q a a' hi hj
  old:=λb hb=>⟨.inl<|NY hb,(hbl b<|NY hb).1⟩
  os:=rfl
  tape:=rfl
  output:=rfl
  size:=Aw _
  block:=λ_ _ _=>rfl
  z:=rfl
  zn:=λid p a hp ha=>(hbl _<|NY (Z:=Z) ⟨id,p.1,p.2,a,hp,ha,rfl⟩).2
  zl:=hZ
  pk:=Pk.refl _ _ }
 refine calls_of_wp hf hb ?_;have hst:St B (Hx Z os) [] { n:=fn.ntmps,T:=λt=>(vs[t]?).getD Dv,H:=H,nid:=b,st:=[],pins:=EA 0 m.ps,gs:=λ_=>A0 } { tmps:=args.toArray++Rk (fn.ntmps - args.toArray.size) undef,defers:=[] } w:=by
  refine⟨λt=> ?_,⟨rfl,λi T' tm h=>by simp at h⟩, ?_,rfl,λt _=>Tj args _ t,λt g want y hy=> ?_,hH⟩
  .rw[Tj];show RT w _ _ ((vs[t]?).getD Dv) _;cases hv:vs[t]? with
   | none=>
    have:args.length<=t:=by
     rw[k1.1];exact bC.1 hv
    show RT w _ _ Dv (ar args t);have e0:ar args t=undef:=by simp[ar,Hz this]
    rw[e0];rfl
   | some c=>
    have hlt:t<args.length:=by rw[k1.1];exact(BN.1 hv).1
    have hu:args[t]? =I (ar args t):=by simp[ar,hlt]
    exact(k1.2 t c _ hv hu).au
  .simp;omega
  .have hy:(vs[t]?).getD Dv= .gd g want y:=hy;cases hv:vs[t]? with
   | none=>rw[hv]at hy;cases hy
   | some c=>
    rw[hv]at hy;have hy:c= .gd g want y:=hy;have hlt:t<args.length:=by rw[k1.1];exact(BN.1 hv).1
    have hu:args[t]? =I (ar args t):=by simp[ar,hlt]
    have:=k1.2 t c _ hv hu;rw[hy]at this;exact this.elim
 refine ZQ (B:=B) hP hm (hC B rfl) (hI B rfl) body v _ _ r hx hst (λj hj=>k3.1 j<|.inr (by have hj:b<=j:=hj;omega)) (Gr B rfl) ⟨?_, ?_, ?_⟩
 .intro β' a' w' s' h1 h2 h3 h4 h5;obtain⟨v',i1,i2⟩:=bo (B:=B) h1 rfl rfl hlen h4 hok (show fin P fn m s'=I r by rw[← hP];exact h5);exact⟨h1.defers,v',i1,v',rfl,i2⟩
 .intro β' a' w' s' h1 h2 h3 h4 h5;obtain⟨v',i1,i2⟩:=bo (B:=B) h1 rfl rfl hlen h4 hok (show fin P fn m s'=I r by rw[← hP];exact h5);exact⟨h1.defers,v',i1,v',rfl,i2⟩
 .intro id β' a' w' s' h1 h2 h3 h4 h5;cases h5
end
end Go.VS
namespace Go.VS
open Go
def HT(l:List Sh):Bool:=IG l&&l.all λh=> !VL h
section
variable {B:Be} {β β':Beta} {H:Hp} {w w':World} {M:Nat->Prop} {stk:List (Array Value)} {s s':S} {a:Act} {P:Program} {E:Nat->AV} {e:Nat->Value} {b:Nat}
mutual
theorem atO:∀h:Sh,Dr h=Y->Iy h=Y/\Mf h=[]
 | .int _,_=>⟨rfl,rfl⟩
 | .bool,_=>⟨rfl,rfl⟩
 | .str,_=>⟨rfl,rfl⟩
 | .sl _,_=>⟨rfl,rfl⟩
 | .row _ _,_=>⟨rfl,rfl⟩
 | .fz _,_=>⟨rfl,rfl⟩
 | .Co _ _,_=>⟨rfl,rfl⟩
 | .abx _ _,_=>⟨rfl,rfl⟩
 | .arr _,h=>by simp[Dr]at h
 | .agg _,h=>by simp[Dr]at h
 | .same _,h=>by simp[Dr]at h
 | .box _ l,h=>by
  have:=mW l (by simpa[Dr] using h);exact⟨by simpa[Iy] using this.1,by simpa[Mf] using this.2⟩
theorem mW:∀l:List Sh,IG l=Y->MW l=Y/\Iv l=[]
 | [],_=>⟨rfl,rfl⟩
 | h::l,hl=>by
  simp only[IG,AD]at hl;have h1:=atO h hl.1;have h2:=mW l hl.2;exact⟨by simp[MW,h1.1,h2.1],by simp[Iv,h1.2,h2.2]⟩
end
def Yv:∀(l:List Sh) (H:Hp) (b:Nat) (cs:List AV) (x:LTs l),HT l=Y->BP E H b l cs x=Al E H b l x
 | [],_,_,_,_,_=>rfl
 | h::l,H,b,cs,x,hl=>by
  simp only[HT,IG,Pb,AD]at hl;obtain⟨⟨h1,h2⟩,h3,h4⟩:=hl;have un:BP E H b (h::l) cs x=(match D9 E H b h (cs.headD .un) x.1 with|(d,H,b)=>match BP E H b l cs.tail x.2 with|(ds,H,b)=>(d::ds,H,b)):=rfl;have un2:Al E H b (h::l) x=(match BJ E H b h x.1 with|(c,H,b)=>match Al E H b l x.2 with|(cs,H,b)=>(c::cs,H,b)):=rfl;have e1:D9 E H b h (cs.headD .un) x.1=BJ E H b h x.1:=nv h1 (λt l' e'=>by rw[e']at h3;simp[VL]at h3);rw[un,un2,e1];generalize BJ E H b h x.1=r;obtain⟨c,H',b'⟩:=r;simp only;rw[Yv l H' b' cs.tail x.2 (by simp only[HT,AD];exact⟨h2,h4⟩)]
mutual
theorem aHl:∀(h:Sh) (H:Hp) (b:Nat) (x:LT h) (v:Value) (os:List (Value×Nat)),Iy h=Y->Rel P w M e h x v os->(BJ E H b h x).2.2=b+os.length
 | .int k,H,b,x,v,os,_,hr=>by obtain⟨_,rfl⟩:=hr;rfl
 | .bool,H,b,x,v,os,_,hr=>by obtain⟨_,rfl⟩:=hr;rfl
 | .str,H,b,x,v,os,_,hr=>by obtain⟨_,rfl⟩:=hr;rfl
 | .sl k,H,b,x,v,os,_,hr=>by obtain⟨_,rfl⟩:=hr;rfl
 | .fz k,H,b,x,v,os,_,hr=>by obtain⟨_,rfl⟩:=hr;rfl
 | .row t k,H,b,x,v,os,_,hr=>by obtain⟨rfl,_⟩:=hr;rfl
 | .Co t k,H,b,x,v,os,_,hr=>by obtain⟨rfl,_⟩:=hr;rfl
 | .abx t k,H,b,x,v,os,_,hr=>by obtain⟨rfl,_⟩:=hr;rfl
 | .arr _,_,_,_,_,_,h,_=>by simp[Iy]at h
 | .agg _,_,_,_,_,_,h,_=>by simp[Iy]at h
 | .same t,H,b,x,v,os,_,hr=>by obtain⟨rfl,_⟩:=hr;rfl
 | .box t l,H,b,x,v,os,hl,hr=>by
  obtain⟨bb,us,os',rfl,h2,h3,rfl⟩:=hr;have un:BJ E H b (.box t l) x=(match Al E H b l x with|(cs,H,b)=>(AV.ptr b cs.length 0 0,upd H b<|I<|.box t cs,b+1)):=rfl;have k:=ZJ l H b x us.toList os' (by simpa[Iy] using hl) h3;rw[un];generalize Al E H b l x=r at *;obtain⟨cs,H',b'⟩:=r;have k:b'=b+os'.length:=k;simp[k,DG]
theorem ZJ:∀(l:List Sh) (H:Hp) (b:Nat) (x:LTs l) (us:List Value) (os:List (Value×Nat)),MW l=Y->Cn P w M e l x us os->(Al E H b l x).2.2=b+os.length
 | [],H,b,x,us,os,_,hr=>by obtain⟨_,rfl⟩:=hr;rfl
 | h::l,H,b,x,us,os,hl,hr=>by
  obtain⟨u,us',o1,o2,rfl,rfl,h1,h2⟩:=hr;simp only[MW,AD]at hl;have un:Al E H b (h::l) x=(match BJ E H b h x.1 with|(c,H,b)=>match Al E H b l x.2 with|(cs,H,b)=>(c::cs,H,b)):=rfl;have k:=aHl h H b x.1 u o1 hl.1 h1;rw[un];generalize BJ E H b h x.1=r at *;obtain⟨c,H',b'⟩:=r;have k:b'=b+o1.length:=k;subst k;have k2:=ZJ l H' (b+o1.length) x.2 us' o2 hl.2 h2;simp only;generalize Al E H' (b+o1.length) l x.2=r at *;obtain⟨cs,H'',b''⟩:=r;have k2:b''=_:=k2;simp[k2,DG]
end
mutual
theorem avq:∀(h:Sh) (H:Hp) (b:Nat) (x:LT h) (j:Nat),¬(b<=j/\j<(BJ E H b h x).2.2)->(BJ E H b h x).2.1 j=H j
 | .int _,H,_,_,_,_=>rfl
 | .bool,H,_,_,_,_=>rfl
 | .str,H,_,_,_,_=>rfl
 | .sl _,H,_,_,_,_=>rfl
 | .arr _,H,_,_,_,_=>rfl
 | .same _,H,_,_,_,_=>rfl
 | .fz _,H,_,_,_,_=>rfl
 | .row _ _,H,b,_,j,hj=>BF _ _ (λe=>hj ⟨J,by show j<b+1;omega⟩)
 | .Co _ _,H,b,_,j,hj=>BF _ _ (λe=>hj ⟨J,by show j<b+1;omega⟩)
 | .abx _ _,H,b,_,j,hj=>BF _ _ (λe=>hj ⟨J,by show j<b+1;omega⟩)
 | .agg l,H,b,x,j,hj=>by
  have un:BJ E H b (.agg l) x=(match Al E H b l x with|(cs,H,b)=>(AV.agg cs,H,b)):=rfl;have ih:=ZH l H b x j;rw[un]at hj ⊢;generalize Al E H b l x=r at *;exact ih hj
 | .box e l,H,b,x,j,hj=>by
  have un:BJ E H b (.box e l) x=(match Al E H b l x with|(cs,H,b)=>(AV.ptr b cs.length 0 0,upd H b<|I<|.box e cs,b+1)):=rfl;have ih:=ZH l H b x j;have hle:=JO E l H b x;rw[un]at hj ⊢;generalize Al E H b l x=r at *;obtain⟨cs,H',b'⟩:=r;simp only at hj ih hle ⊢;rw[BF _ _ λe=>hj ⟨J,J⟩];exact ih λh=>hj ⟨h.1,J⟩
theorem ZH:∀(l:List Sh) (H:Hp) (b:Nat) (x:LTs l) (j:Nat),¬(b<=j/\j<(Al E H b l x).2.2)->(Al E H b l x).2.1 j=H j
 | [],H,_,_,_,_=>rfl
 | h::l,H,b,x,j,hj=>by
  have un:Al E H b (h::l) x=(match BJ E H b h x.1 with|(c,H,b)=>match Al E H b l x.2 with|(cs,H,b)=>(c::cs,H,b)):=rfl;have ih:=avq h H b x.1 j;have hle:=EV E h H b x.1;rw[un]at hj ⊢;generalize BJ E H b h x.1=r at *;obtain⟨c,H',b'⟩:=r;have ih2:=ZH l H' b' x.2 j;have Q6:=JO E l H' b' x.2;simp only at hj ⊢;generalize Al E H' b' l x.2=r at *;obtain⟨cs,H'',b''⟩:=r;simp only at hj ih ih2 hle Q6 ⊢;rw[ih2 λh=>hj ⟨J,h.2⟩];exact ih λh=>hj ⟨h.1,J⟩
end
end
end Go.VS
namespace Go.VS
open Go
section
variable {B B':Be} {β β':Beta} {H:Hp} {w w':World} {M M':Nat->Prop} {stk:List (Array Value)} {s s':S} {a:Act} {P:Program} {E:Nat->AV} {e:Nat->Value} {b:Nat}
def St.amf{f:AV->AV}(h:St B β stk s a w)(ht:B'.tm0=B.tm0)(hf:∀c,Gn c=Y->f c=c)(hg:∀c g want x,f c= .gd g want x->∃y,c= .gd g want y)(hk:Kf f w β w' β'){H':Hp}(hH:Hs B' β' H' w'):St B' β' stk { s.map f with H:=H' } a w':=by
 have g1:∀c g want x,GF f c= .gd g want x->∃y,c= .gd g want y:=by
  intro c g want x e;cases c<;>first|(cases e;done)|exact hg _ _ _ _ e
 have g2:∀c g want x,GY f c= .gd g want x->∃y,c= .gd g want y:=by
  intro c g want x e;cases c<;>first|(cases e;done)|exact g1 _ _ _ _ e
 have g3:∀c g want x,FB f c= .gd g want x->∃y,c= .gd g want y:=by
  intro c g want x e;cases c with
  | gd g' w' y=>cases e;exact⟨_,rfl⟩
  | _=>exact g2 _ _ _ _ e
 refine⟨λt=>RT.map hf hk<|h.T t,⟨by simpa[S.map] using h.stack.1,λi T tm h1 h2 t=> ?_⟩,h.n,h.defers,λt ht'=>by rw[ht];exact h.pins t ht',λt g want x hx=> ?_,hH⟩
 .simp only[S.map,DI,DH]at h1;obtain⟨T0,h3,rfl⟩:=h1;exact RT.map hf hk (h.stack.2 i T0 tm h3 h2 t)
 .obtain⟨y,hy⟩:=g3 _ _ _ _ hx;exact h.gs _ _ _ _ hy
def Beta.kz(β:Beta)(id:Nat):Beta:=⟨upd β.f id G,λb=>β.Z b\/ ∃p a,β id=I p/\adr p.1=I a/\a.block=b⟩
def Beta.dL(β:Beta)(id j:Nat):(β.kz id) j=if j=id then G else β j:=by
 show upd β.f id G j=_;by_cases e:j=id
 .subst e;rw[Bg,A5 rfl]
 .rw[BF _ _ e,A9 e]
def St.alA(h:St B β stk s a w)(id:Nat):St { B with Z:=(β.kz id).Z } (β.kz id) stk (s.kill id) a w:=by
 have hM:∀b,¬MZ β b->b<w.heap.size->¬MZ (β.kz id) b:=λb hb _ hm=>by
  obtain⟨j,hd,n,a,hj,ha,hab⟩|hz|⟨p,a,hp,ha,hab⟩:=hm
  .rw[Beta.dL]at hj;split at hj
   .cases hj
   .exact hb (.inl ⟨j,hd,n,a,hj,ha,hab⟩)
  .exact hb (.inr hz)
  .exact hb<|.inl ⟨id,p.1,p.2,a,hp,ha,hab⟩
 have hk:Kf (kl1 id) w β w (β.kz id):=Kf.kill (λj e=>BF _ _ e) (λ_ _ _ _ h=>h) hM;have hH:=h.hs.aEa (JM id) hk (λj e=>BF _ _ e) (.inl ⟨Bg _ _ _,rfl⟩) (λ_ _ _ _ _ _=>rfl) rfl rfl rfl (Aw _) (λ_ _ _=>rfl) (λb hb=>hb.imp (λh=>h) λh=>⟨Bg _ _ _,h⟩) (Pk.refl _ _);exact h.amf (B':={ B with Z:=(β.kz id).Z }) rfl (JM id) (PL id) hk hH
def St.abW:∀(ids:List Nat) {B:Be} {β:Beta} {s:S},ids.Nodup->St B β stk s a w->∃β2:Beta,St { B with Z:=β2.Z } β2 stk (ids.foldl S.kill s) a w/\(∀j,β2 j=if j∈ids then G else β j)/\
  (∀b,β2.Z b↔β.Z b\/ ∃i∈ids,∃p a,β i=I p/\adr p.1=I a/\a.block=b)
 | [],B,β,s,_,h=>by
  have e:{ B with Z:=β.Z } =B:=by rw[h.hs.z]
  exact⟨β,by rw[e];exact h,λj=>by simp,λb=>by simp⟩
 | i::ids,B,β,s,hn,h=>by
  obtain⟨hn1,hn2⟩:=IY.1 hn;obtain⟨β2,h1,h2,h3⟩:=St.abW ids hn2<|h.alA i;refine⟨β2,h1,λj=> ?_,λb=> ?_⟩
  .rw[h2,Beta.dL];by_cases e1:j∈ids
   .rw[A5 e1,A5<|Ak _ e1]
   .by_cases e2:j=i
    .rw[A9 e1,A5 e2,A5 (by rw[e2];exact As)]
    .rw[A9 e1,A9 e2,A9<|by simp[e1,e2]]
  .rw[h3];constructor
   .rintro((h|⟨p,a,h⟩)|⟨j,hj,p,a,hp,h⟩)
    .exact .inl h
    .exact .inr ⟨i,As,p,a,h⟩
    .rw[Beta.dL]at hp;split at hp
     .cases hp
     .exact .inr ⟨j,Ak _ hj,p,a,hp,h⟩
   .rintro(h|⟨j,hj,p,a,hp,h⟩)
    .exact .inl (.inl h)
    .rcases Bm.1 hj with rfl|hj
     .exact .inl (.inr ⟨p,a,hp,h⟩)
     .refine .inr ⟨j,hj,p,a, ?_,h⟩;rw[Beta.dL,A9 fun(e:j=i)=>hn1<|e▸hj];exact hp
def St.dK(h:St B β stk s a w)(id:Nat):St B (β.up id G) stk (s.freeze id) a w:=by
 unfold S.freeze;split
 .rename_i e fz k xs hid;obtain⟨h1,h2⟩:=h.hs.dK hid;exact h.map (o4 id k xs) (aag id k xs) h2 h1
 .obtain⟨h1,h2⟩:=h.hs.aEc id;exact h.map (JM id) (PL id) h2 h1
def St.abT:∀(ids:List Nat) {β:Beta} {s:S},St B β stk s a w->∃β2:Beta,St B β2 stk (ids.foldl S.freeze s) a w/\(∀j,β2 j=if j∈ids then G else β j)/\β2.Z=β.Z
 | [],β,s,h=>⟨β,h,λj=>by simp,rfl⟩
 | i::ids,β,s,h=>by
  obtain⟨β2,h1,h2,h3⟩:=St.abT ids<|h.dK i;refine⟨β2,h1,λj=> ?_,h3⟩;rw[h2];by_cases e1:j∈ids
  .rw[A5 e1,A5<|Ak _ e1]
  .by_cases e2:j=i
   .subst e2;rw[A9 e1,A5 As,Beta.Va]
   .rw[A9 e1,Beta.OC _ _ e2,A9<|by simp[e1,e2]]
def St.al6(q:Bool)(ids:List Nat)(h:St B β stk s a w):∃β2:Beta,St B β2 stk (Ge q ids s) a w/\(∀j,β2 j=if q=Y/\j∈ids then G else β j)/\β2.Z=β.Z:=by
 cases q with
 | false=>exact⟨β,h,λj=>by simp,rfl⟩
 | true=>
  obtain⟨β2,h1,h2,h3⟩:=St.abT ids h;exact⟨β2,h1,λj=>by simp[h2],h3⟩
def aGT{t:TypeId}{j:Nat}:∀(ids:List Nat) (s:S) {cs:List AV},j ∉ ids->s.H j=I (.box t cs)->∃cs',(ids.foldl S.kill s).H j=I (.box t cs')
 | [],s,cs,_,h=>⟨cs,h⟩
 | i::ids,s,cs,hj,h=>by
  have hne:j≠i:=λe=>hj<|e▸As;refine aGT ids (s.kill i) (cs:=cs.map<|kl1 i) (λhm=>hj<|Ak _ hm) ?_;show upd (λj=>CP (kl1 i)<|s.H j) i G j=_;rw[BF _ _ hne,h];rfl
def aEA{t:TypeId}{j:Nat}:∀(ids:List Nat) (s:S) {cs:List AV},j ∉ ids->s.H j=I (.box t cs)->∃cs',(ids.foldl S.freeze s).H j=I (.box t cs')
 | [],s,cs,_,h=>⟨cs,h⟩
 | i::ids,s,cs,hj,h=>by
  have hne:j≠i:=λe=>hj<|e▸As;have:∃cs',(s.freeze i).H j=I (.box t cs'):=by
   unfold S.freeze;split
   .rename_i k xs _;refine⟨cs.map<|fz1 i k xs, ?_⟩;show upd (λj=>CP (fz1 i k xs)<|s.H j) i G j=_;rw[BF _ _ hne,h];rfl
   .refine⟨cs.map<|kl1 i, ?_⟩;show upd (λj=>CP (kl1 i)<|s.H j) i G j=_;rw[BF _ _ hne,h];rfl
  obtain⟨cs',h'⟩:=this;exact aEA ids (s.freeze i) (λhm=>hj<|Ak _ hm) h'
def avo{t:TypeId}{j:Nat}(q:Bool)(ids:List Nat)(s:S){cs:List AV}(hj:¬(q=Y/\j∈ids))(h:s.H j=I (.box t cs)):∃cs',(Ge q ids s).H j=I (.box t cs'):=by
 cases q with
 | false=>exact⟨cs,h⟩
 | true=>exact aEA ids s (λhm=>hj ⟨rfl,hm⟩) h
mutual
theorem auk:∀(h:Sh) (c:AV),(CJ H h c).Sublist<|Cj H h c
 | .int _,_=>Ek _
 | .bool,_=>Ek _
 | .str,_=>Ek _
 | .sl _,_=>Ek _
 | .arr _,_=>Ek _
 | .same _,_=>Ek _
 | .fz _,_=>Ek _
 | .row _ _,c=>by cases c<;>exact Ek _
 | .Co _ _,c=>by cases c<;>exact Ek _
 | .abx _ _,c=>by
  cases c with
  | ptr id z i o=>cases i<;>cases o<;>exact Ek _
  | _=>exact Ek _
 | .agg l,c=>by
  cases c with
  | agg cs=>exact Zd l cs
  | _=>exact Ek _
 | .box t l,c=>by
  cases c with
  | ptr id z i o=>
   cases i<;>cases o<;>simp only[CJ,Cj]<;>first|exact Ek _|skip
   split
   .exact(Zd l _).trans (List.sublist_append_left _ _)
   .exact Ek _
  | _=>exact Ek _
theorem Zd:∀(l:List Sh) (cs:List AV),(Ch H l cs).Sublist<|Bn H l cs
 | [],_=>by simp only[Ch,Bn];exact Ek _
 | _::_,[]=>by simp only[Ch,Bn];exact Ek _
 | h::l,c::cs=>by
  simp only[Ch,Bn];exact(auk h c).append<|Zd l cs
end
def RJ(H:Hp)(i:Nat):Prop:=∀t cs,H i≠I (.box t cs)
mutual
theorem ati:∀(h:Sh) (c:AV) (x:LT h),Bq E H h c=I x->∀i∈CJ H h c,RJ H i
 | .int _,_,_,_,i,hi=>by simp[CJ]at hi
 | .bool,_,_,_,i,hi=>by simp[CJ]at hi
 | .str,_,_,_,i,hi=>by simp[CJ]at hi
 | .sl _,_,_,_,i,hi=>by simp[CJ]at hi
 | .arr _,_,_,_,i,hi=>by simp[CJ]at hi
 | .same _,_,_,_,i,hi=>by simp[CJ]at hi
 | .fz _,_,_,_,i,hi=>by simp[CJ]at hi
 | .row t k,c,x,hx,i,hi=>by
  cases c<;>simp[CJ]at hi;subst hi;intro t' cs hb;simp[Bq,hb]at hx
 | .Co t k,c,x,hx,i,hi=>by
  cases c<;>simp[CJ]at hi;subst hi;intro t' cs hb;simp[Bq,hb]at hx
 | .abx t k,c,x,hx,i,hi=>by
  cases c with
  | ptr id z i' o=>
   cases i'<;>cases o<;>simp[CJ]at hi;subst hi;intro t' cs hb;simp[Bq,hb]at hx
  | _=>simp[CJ]at hi
 | .agg l,c,x,hx,i,hi=>by
  cases c with
  | agg cs=>exact Yu l cs x hx i<|by simpa[CJ] using hi
  | _=>simp[CJ]at hi
 | .box t l,c,x,hx,j,hi=>by
  cases c with
  | ptr id z i o=>
   cases i<;>cases o<;>simp only[CJ]at hi<;>first|(simp at hi;done)|skip
   cases ho:H id with
   | none=>simp[ho]at hi
   | some ob=>
    cases ob with
    | box e' cs=>
     simp only[ho]at hi;simp only[Bq,ho]at hx;split at hx
     .exact Yu l cs x hx j hi
     .cases hx
    | _=>simp[ho]at hi
  | _=>simp[CJ]at hi
theorem Yu:∀(l:List Sh) (cs:List AV) (x:LTs l),GX E H l cs=I x->∀i∈Ch H l cs,RJ H i
 | [],cs,_,_,i,hi=>by simp[Ch]at hi
 | _::_,[],_,_,i,hi=>by simp[Ch]at hi
 | h::l,c::cs,x,hx,i,hi=>by
  obtain⟨x1,e1,hx⟩:=Aj.1 hx;obtain⟨x2,e2,hx⟩:=Aj.1 hx;simp only[Ch,BL]at hi;obtain hi|hi:=hi
  .exact ati h c x1 e1 i hi
  .exact Yu l cs x2 e2 i hi
end
mutual
theorem auQ:∀(h:Sh) (c:AV) (x:LT h),Bq E H h c=I x->∀i∈Cu H h c,RJ H i
 | .int _,_,_,_,i,hi=>by simp[Cu]at hi
 | .bool,_,_,_,i,hi=>by simp[Cu]at hi
 | .str,_,_,_,i,hi=>by simp[Cu]at hi
 | .sl _,_,_,_,i,hi=>by simp[Cu]at hi
 | .arr _,_,_,_,i,hi=>by simp[Cu]at hi
 | .same _,_,_,_,i,hi=>by simp[Cu]at hi
 | .row _ _,_,_,_,i,hi=>by simp[Cu]at hi
 | .Co _ _,_,_,_,i,hi=>by simp[Cu]at hi
 | .abx _ _,_,_,_,i,hi=>by simp[Cu]at hi
 | .fz k,c,x,hx,i,hi=>by
  cases c<;>simp[Cu]at hi;subst hi;intro t' cs hb;simp[Bq,CK,hb]at hx
 | .agg l,c,x,hx,i,hi=>by
  cases c with
  | agg cs=>exact Yw l cs x hx i<|by simpa[Cu] using hi
  | _=>simp[Cu]at hi
 | .box t l,c,x,hx,j,hi=>by
  cases c with
  | ptr id z i o=>
   cases i<;>cases o<;>simp only[Cu]at hi<;>first|(simp at hi;done)|skip
   cases ho:H id with
   | none=>simp[ho]at hi
   | some ob=>
    cases ob with
    | box e' cs=>
     simp only[ho]at hi;simp only[Bq,ho]at hx;split at hx
     .exact Yw l cs x hx j hi
     .cases hx
    | _=>simp[ho]at hi
  | _=>simp[Cu]at hi
theorem Yw:∀(l:List Sh) (cs:List AV) (x:LTs l),GX E H l cs=I x->∀i∈D3 H l cs,RJ H i
 | [],cs,_,_,i,hi=>by simp[D3]at hi
 | _::_,[],_,_,i,hi=>by simp[D3]at hi
 | h::l,c::cs,x,hx,i,hi=>by
  obtain⟨x1,e1,hx⟩:=Aj.1 hx;obtain⟨x2,e2,hx⟩:=Aj.1 hx;simp only[D3,BL]at hi;obtain hi|hi:=hi
  .exact auQ h c x1 e1 i hi
  .exact Yw l cs x2 e2 i hi
end
def mb{k:K}(h:SA k=Y)(x:Tof k):∀c∈enc k x,∃v,c= .lit v:=by
 have key:(enc k x).all (λc=>match c with
   | .lit _=>Y
   | _=>A0)=Y:=by cases k<;>first|(cases h;done)|rfl
 intro c hc;have:=CZ.1 key c hc;cases c<;>first|exact⟨_,rfl⟩|cases this
def VC:Beta:=⟨λ_=>G,λ_=>False⟩
def ZR{b:Nat}:¬MZ VC b:=by
 rintro(⟨_,_,_,_,h,_⟩|h)
 .cases h
 .exact h
def Fq.anyM{t:TypeId}{fz:Bool}{k:K}{xs:List (Tof k)}{v:Value}(hk:SA k=Y)(h:Fq w β t fz k xs v):Fq w β' t fz k xs v:=by
 obtain h|⟨b,f,cap,us,fr,h1,h2,h3,h4,h5,h6,h7⟩:=h
 .exact .inl h
 .refine .inr ⟨b,f,cap,us,fr,h1,h2,h3,h4,h5,h6,λi x j c u a1 a2 a3=> ?_⟩;have h8:=h7 i x j c u a1 a2 a3;obtain⟨v,rfl⟩:=mb hk x c<|Cs a2;cases h8 with
  | lit h=>exact .lit h
mutual
theorem Rel.anyM:∀(h:Sh) (x:LT h) (v:Value) (os:List (Value×Nat)),Mw h=A0->Rel P w M e h x v os->Rel P w M' e h x v os
 | .int _,_,_,_,_,h=>h
 | .bool,_,_,_,_,h=>h
 | .str,_,_,_,_,h=>h
 | .sl _,_,_,_,h,_=>by cases h
 | .fz _,_,_,_,h,_=>by cases h
 | .row t k,_,_,_,hm,h=>⟨h.1,h.2.1,λβ _=>(h.2.2 VC λb hb=>absurd hb ZR).anyM<|by simpa[Mw] using hm⟩
 | .Co t k,_,_,_,hm,h=>⟨h.1,h.2.1,λβ _=>(h.2.2 VC λb hb=>absurd hb ZR).anyM<|by simpa[Mw] using hm⟩
 | .abx t k,_,_,_,hm,h=>by
  obtain⟨h1,h2,b,us,h3,h4,h5,h6,h7⟩:=h;refine⟨h1,h2,b,us,h3,h4,h5,h6,λβ _ i x j c u a1 a2 a3=> ?_⟩;have h8:=h7 VC (λb hb=>absurd hb ZR) i x j c u a1 a2 a3;obtain⟨v,rfl⟩:=mb (by simpa[Mw] using hm) x c<|Cs a2;cases h8 with
  | lit h=>exact .lit h
 | .arr k,_,_,_,hm,h=>by
  obtain⟨h1,h2⟩:=h;refine⟨h1,λβ _=> ?_⟩;obtain⟨us,k1,k2,k3⟩:=h2 VC (λb hb=>absurd hb ZR);refine⟨us,k1,k2,λi x j c u a1 a2 a3=> ?_⟩;have h8:=k3 i x j c u a1 a2 a3;obtain⟨v,rfl⟩:=mb (by simpa[Mw] using hm) x c<|Cs a2;cases h8 with
  | lit h=>exact .lit h
 | .same t,_,_,_,_,h=>h
 | .agg l,x,v,os,hm,h=>by
  obtain⟨us,h1,h2⟩:=h;exact⟨us,h1,Cn.anyM l x us os (by simpa[Mw] using hm) h2⟩
 | .box t l,x,v,os,hm,h=>by
  obtain⟨b,us,os',h1,h2,h3,h4⟩:=h;exact⟨b,us,os',h1,h2,Cn.anyM l x us.toList os' (by simpa[Mw] using hm) h3,h4⟩
theorem Cn.anyM:∀(l:List Sh) (x:LTs l) (us:List Value) (os:List (Value×Nat)),CW l=A0->Cn P w M e l x us os->Cn P w M' e l x us os
 | [],_,_,_,_,h=>h
 | h::l,x,us,os,hm,hr=>by
  obtain⟨u,us',o1,o2,h1,h2,h3,h4⟩:=hr;simp only[CW,Mk]at hm;exact⟨u,us',o1,o2,h1,h2,Rel.anyM h x.1 u o1 hm.1 h3,Cn.anyM l x.2 us' o2 hm.2 h4⟩
end
end
end Go.VS
namespace Go.VS
open Go
def abF:List Sh->Bool
 | .box _ l2::l=>HT l2&&HT l
 | l=>HT l
def aa6:List Sh->Bool
 | .box _ _::_=>Y
 | _=>A0
def ck(P:Program):List Sh->Bool
 | []=>Y
 | h::ps=>(match h with
  | .box t l=>abF l&&(!aa6 l||Pp P t)
  | .agg l=>HT l
  | _=>Y)&&ck P ps
section
variable {B B':Be} {β β':Beta} {H:Hp} {w w':World} {M M':Nat->Prop} {stk:List (Array Value)} {s s':S} {a:Act} {P:Program} {E:Nat->AV} {e:Nat->Value} {b:Nat} {C:Cx}
mutual
theorem ZM:∀(h:Sh) (c:AV),Dr h=Y->VL h=A0->∀i∈Cj H h c,i∈CJ H h c
 | .int _,_,_,_,i,hi=>by simp[Cj]at hi
 | .bool,_,_,_,i,hi=>by simp[Cj]at hi
 | .str,_,_,_,i,hi=>by simp[Cj]at hi
 | .sl _,_,_,_,i,hi=>by simp[Cj]at hi
 | .fz _,_,_,_,i,hi=>by simp[Cj]at hi
 | .row _ _,c,_,_,i,hi=>by cases c<;>first|exact hi|(simp[Cj]at hi;done)
 | .Co _ _,c,_,_,i,hi=>by cases c<;>first|exact hi|(simp[Cj]at hi;done)
 | .abx _ _,c,_,_,i,hi=>by
  cases c with
  | ptr id z i' o=>cases i'<;>cases o<;>first|exact hi|(simp[Cj]at hi;done)
  | _=>simp[Cj]at hi
 | .arr _,_,h,_,_,_=>by simp[Dr]at h
 | .same _,_,h,_,_,_=>by simp[Dr]at h
 | .agg _,_,h,_,_,_=>by simp[Dr]at h
 | .box _ _,_,_,h,_,_=>by cases h
end
def Tm:∀(l:List Sh) (cs:List AV),HT l=Y->∀i∈Bn H l cs,i∈Ch H l cs
 | [],cs,_,i,hi=>by simp[Bn]at hi
 | _::_,[],_,i,hi=>by simp[Bn]at hi
 | h::l,c::cs,hl,i,hi=>by
  simp only[HT,IG,Pb,AD,Bz]at hl;obtain⟨⟨h1,h2⟩,h3,h4⟩:=hl;simp only[Bn,BL]at hi;obtain hi|hi:=hi
  .exact Bw _ (ZM h c h1 h3 i hi)
  .refine CR _<|Tm l cs ?_ i hi;simp only[HT,AD];exact⟨h2,h4⟩
def EO:List AV->List Nat
 | []=>[]
 | .ptr id _ 0 0::l=>id::EO l
 | _::l=>EO l
def aJp{id:Nat}:∀ {ds:List AV},id∈EO ds->∃z,AV.ptr id z 0 0∈ds
 | [],h=>by cases h
 | c::ds,h=>by
  have rest:id∈EO ds->∃z,AV.ptr id z 0 0∈c::ds:=λh=>by
   obtain⟨z,hz⟩:=aJp h;exact⟨z,Ak _ hz⟩
  cases c<;>first|exact rest h|skip
  rename_i a b i o;cases i<;>cases o<;>first|exact rest h|skip
  obtain h|h:=Bm.1 h
  .subst h;exact⟨b,As⟩
  .exact rest h
inductive Fb (P:Program) (w:World) (H:Hp):List Sh->List AV->List Value->List AV->List Value->Prop
 | nil:Fb P w H [] [] [] [] []
 | flat {t:TypeId} {l bs:List Sh} {id z bb:Nat} {cs ds:List AV} {vs us:List Value} (hl:HT l=Y) (hb:∃t0 cs0,H id=I (.box t0 cs0)) (h:Fb P w H bs cs vs ds us):
   Fb P w H (.box t l::bs) (.ptr id z 0 0::cs) (.pointer (I ⟨bb,0,G⟩)::vs) (.ptr id z 0 0::ds) (.pointer (I ⟨bb,0,G⟩)::us)
 | nest {t t2 t0:TypeId} {l2 l bs:List Sh} {id z id2 z2 bb bb2:Nat} {cs1 cs ds:List AV} {vs us:List Value} (hl2:HT l2=Y) (hl:HT l=Y) (hid:H id=I (.box t0 (.ptr id2 z2 0 0::cs1)))
   (hb2:∃t0 cs0,H id2=I (.box t0 cs0)) (hn:Pp P t=Y) (hc:∃us0 fr,w.heap[bb]? =I (.cells us0 t fr)/\us0[0]? =I (.pointer<|I ⟨bb2,0,G⟩)) (h:Fb P w H bs cs vs ds us):
   Fb P w H (.box t (.box t2 l2::l)::bs) (.ptr id z 0 0::cs) (.pointer (I ⟨bb,0,G⟩)::vs) (.ptr id2 z2 0 0:: .ptr id z 0 0::ds) (.pointer (I ⟨bb2,0,G⟩):: .pointer (I ⟨bb,0,G⟩)::us)
def Fb.carry{bs:List Sh}{cs ds:List AV}{vs us:List Value}{H':Hp}(h:Fb P w H bs cs vs ds us)(hpk:Pk P w w')
  (hH:∀id∈EO ds,∀t cs,H id=I (.box t cs)->∃cs',H' id=I (.box t cs')/\ ∀id2 z2 cs1,cs= .ptr id2 z2 0 0::cs1->id2∈EO ds->∃L6,cs'= .ptr id2 z2 0 0::L6):Fb P w' H' bs cs vs ds us:=by
 induction h with
 | nil=>exact .nil
 | @flat t l bs id z bb cs ds vs us hl hb h ih=>
  refine .flat hl ?_ (ih λi hi t0 c0 h0=> ?_)
  .obtain⟨t0,c0,h0⟩:=hb;obtain⟨c1,h1,_⟩:=hH id As t0 c0 h0;exact⟨t0,c1,h1⟩
  .obtain⟨c1,h1,h2⟩:=hH i (Ak _ hi) t0 c0 h0;exact⟨c1,h1,λa b c e hm=>h2 a b c e<|Ak _ hm⟩
 | @nest t t2 t0 l2 l bs id z id2 z2 bb bb2 cs1 cs ds vs us hl2 hl hid hb2 hn hc h ih=>
  obtain⟨c1,h1,h2⟩:=hH id (Ak _ As) t0 _ hid;obtain⟨c2,rfl⟩:=h2 id2 z2 cs1 rfl As;refine .nest hl2 hl h1 ?_ hn ?_ (ih λi hi t0 c0 h0=> ?_)
  .obtain⟨t3,c3,h3⟩:=hb2;obtain⟨c4,h4,_⟩:=hH id2 As t3 c3 h3;exact⟨t3,c4,h4⟩
  .obtain⟨us0,fr,h3,h4⟩:=hc;obtain⟨us1,fr1,h5,h6⟩:=hpk bb us0 t fr _ h3 h4 hn;exact⟨us1,fr1,h5,h6⟩
  .obtain⟨c3,h3,h4⟩:=hH i (Ak _<|Ak _ hi) t0 c0 h0;exact⟨c3,h3,λa b c e hm=>h4 a b c e<|Ak _<|Ak _ hm⟩
def qX{l:List Sh}(hl:HT l=Y)(H:Hp)(b:Nat)(x:LTs l){us1:List Value}{ob:List (Value×Nat)}(hr:Cn P w M e l x us1 ob):
  ∃ds1 H1,Al E H b l x=(ds1,H1,b+ob.length)/\(∀j,¬(b<=j/\j<b+ob.length)->H1 j=H j)/\ ∀β:Beta,(∀b,MZ β b->M b)->Num β b ob->RL (RC w β) ds1 us1/\ ∀j,b<=j->j<b+ob.length->∃o,H1 j=I o/\EH P w β j o:=by
 have hl':=hl;simp only[HT,AD]at hl';obtain⟨Cz,HD⟩:=mW l hl'.1;have hlen:=ZJ (E:=E) (P:=P) (w:=w) (M:=M) (e:=e) l H b x us1 ob Cz hr;have FH:=ZH (E:=E) l H b x;have hrc:=fun(β:Beta) (hM:∀b,MZ β b->M b) (hn:Num β b ob)=>Zn (E:=E) (P:=P) (w:=w) (M:=M) (e:=e) hM l H b x us1 ob Cz hr hn (by rw[HD];intro t ht;simp at ht);generalize Al E H b l x=r at *;obtain⟨ds1,H1,b1⟩:=r;have hlen:b1=b+ob.length:=hlen;subst hlen;exact⟨ds1,H1,rfl,FH,λβ hM hn=>⟨(hrc β hM hn).1,(hrc β hM hn).2.2.2⟩⟩
def at0{x y:Value×Nat}{oc ob nw us o2:List (Value×Nat)}(h:o2.Perm (nw++us)):(((oc++[x])++ob)++[y]++o2).Perm (((oc++ob)++nw)++x::y::us):=by
 have h1:(ob++y::o2).Perm (ob++nw++y::us):=by
  rw[C7];exact bD ob<|(h.cons y).trans List.perm_middle.symm
 have h2:(oc++x::(ob++y::o2)).Perm (oc++(ob++nw++x::y::us)):=bD oc<|(h1.cons x).trans List.perm_middle.symm;simpa[C7] using h2
def ny:∀(bs:List Sh) (H:Hp) (b:Nat) (q:LTs bs) (cs ds:List AV) (vs us:List Value) (os:List (Value×Nat)) (L:Nat),Fb P w H bs cs vs ds us->(EO ds).Nodup->(∀i∈EO ds,¬(b<=i/\i<L))->Cn P w M e bs q vs os->(BP E H b bs cs q).2.2<=L->
  ∃nw:List (Value×Nat),os.Perm (nw++us.map λv=>(v,1))/\(BP E H b bs cs q).2.2=b+nw.length/\
   ∀β:Beta,(∀b,MZ β b->M b)->Num β b nw->(∀(i:Nat) (c:AV) (v:Value),ds[i]? =I c->us[i]? =I v->∀id z,c= .ptr id z 0 0->β id=I (v,1))->
    (∀j,(BP E H b bs cs q).2.1 j=H j\/ ∃ob,(BP E H b bs cs q).2.1 j=I ob/\EH P w β j ob)/\
    (∀j,b<=j->j<b+nw.length->∃ob,(BP E H b bs cs q).2.1 j=I ob/\EH P w β j ob)/\
    (∀id z,AV.ptr id z 0 0∈ds->∃ob,(BP E H b bs cs q).2.1 id=I ob/\EH P w β id ob)/\
    (∀j,¬(b<=j/\j<b+nw.length)->(∀z,AV.ptr j z 0 0 ∉ ds)->(BP E H b bs cs q).2.1 j=H j)
 | [],H,b,q,cs,ds,vs,us,os,L,hF,_,_,hr,_=>by
  cases hF;obtain⟨_,rfl⟩:=hr;exact⟨[],.nil,rfl,λβ _ _ _=>⟨λj=> .inl rfl,λj h1 h2=>by simp at h2;omega,λid z h=>by simp at h,λj _ _=>rfl⟩⟩
 | h::bs,H,b,q,cs0,ds0,vs0,us0,os,L,hF,hnd,FH,hr,hL=>by
  cases hF with
  | @flat t l _ id z bb cs ds vs us hl hb hF=>
   obtain⟨u,us',o1,o2,e1,rfl,h1,h2⟩:=hr;cases e1;obtain⟨bb',uc,os',e2,h3,h4,rfl⟩:=h1;cases e2;obtain⟨t0,c0,hid⟩:=hb;obtain⟨da,H1,hmk,ho1,hrc⟩:=qX (E:=E) hl H b q.1 h4;have Jx:id ∉ EO ds/\(EO ds).Nodup:=by simpa[EO] using hnd
   have un:BP E H b (.box t l::bs) (.ptr id z 0 0::cs) q=(match BP E (upd H1 id<|I<|.box t da) (b+os'.length) bs cs q.2 with|(es,H'',b'')=>(AV.ptr id z 0 0::es,H'',b'')):=by
    have u1:BP E H b (.box t l::bs) (.ptr id z 0 0::cs) q=(match D9 E H b (.box t l) (.ptr id z 0 0) q.1 with|(d,H,b)=>match BP E H b bs cs q.2 with|(ds,H,b)=>(d::ds,H,b)):=rfl;have u2:D9 E H b (.box t l) (.ptr id z 0 0) q.1=(match H id with
     | some (.box _ cs)=>(match BP E H b l cs q.1 with|(ds,H,b)=>(AV.ptr id z 0 0,upd H id<|I<|.box t ds,b))
     | _=>(.un,H,b)):=rfl
    rw[u1,u2,hid];simp only;rw[Yv l H b c0 q.1 hl,hmk]
   rw[un]at hL ⊢;have hle:=Qs E bs (upd H1 id<|I<|.box t da) (b+os'.length) cs q.2;have hL':(BP E (upd H1 id<|I<|.box t da) (b+os'.length) bs cs q.2).2.2<=L:=by
    generalize BP E (upd H1 id<|I<|.box t da) (b+os'.length) bs cs q.2=r at *;exact hL
   have HD:∀i∈EO ds,upd H1 id (I<|.box t da) i=H i:=λi hi=>by
    rw[BF _ _ λe=>Jx.1 (by rw[← e];exact hi),ho1 i λhh=>FH i (Ak _ hi) ⟨hh.1,J⟩]
   obtain⟨nw,n1,n4,n5⟩:=ny bs (upd H1 id<|I<|.box t da) (b+os'.length) q.2 cs ds vs us o2 L (hF.carry (Pk.refl _ _) λi hi t c h0=>⟨c,by rw[HD i hi];exact h0,λ_ _ c1 e _=>⟨c1,e⟩⟩) Jx.2
    (λi hi hh=>FH i (Ak _ hi) ⟨J,hh.2⟩) h2 hL'
   generalize hg:BP E (upd H1 id<|I<|.box t da) (b+os'.length) bs cs q.2=r at *;obtain⟨es,H'',b''⟩:=r;simp only at n4 n5 hle hL hL' ⊢;refine⟨os'++nw, ?_, ?_, ?_⟩
   .rw[C7,C7,DZ];refine bD os' ?_;exact((n1.cons (Ns<|I ⟨bb,0,G⟩,1)).trans List.perm_middle.symm)
   .rw[n4];simp[DG]
   .intro β hM hn hbx;obtain⟨r1,r3⟩:=hrc β hM hn.left;have amg:β id=I (.pointer<|I ⟨bb,0,G⟩,1):=hbx 0 _ _ rfl rfl id z rfl;have aEx:EH P w β id (.box t da):=⟨bb,uc,amg,h3,r1⟩;obtain⟨m1,m2,m3,m4⟩:=n5 β hM hn.right (λi c v k1 k2=>hbx (i+1) c v (by simpa using k1)<|by simpa using k2);have step:∀j,H'' j=H1 j\/ ∃ob,H'' j=I ob/\EH P w β j ob:=λj=>by
     obtain h|h:=m1 j
     .by_cases e4:j=id
      .subst e4;rw[Bg]at h;exact .inr ⟨_,h,aEx⟩
      .rw[BF _ _ e4]at h;exact .inl h
     .exact .inr h
    refine⟨λj=> ?_,λj k1 k2=> ?_,λid2 z2 hm=> ?_,λj k1 k2=> ?_⟩
    .rcases step j with h|h
     .by_cases hj:b<=j/\j<b+os'.length
      .obtain⟨ob,q1,q2⟩:=r3 j hj.1 hj.2;exact .inr ⟨ob,by rw[h];exact q1,q2⟩
      .exact .inl (h.trans<|ho1 j hj)
     .exact .inr h
    .by_cases hj:j<b+os'.length
     .rcases step j with h|h
      .obtain⟨ob,q1,q2⟩:=r3 j k1 hj;exact⟨ob,by rw[h];exact q1,q2⟩
      .exact h
     .exact m2 j J (by simp at k2;omega)
    .rcases Bm.1 hm with h|h
     .cases h;obtain h|h:=m1 id
      .rw[Bg]at h;exact⟨_,h,aEx⟩
      .exact h
     .exact m3 id2 z2 h
    .have hne:j≠id:=λe4=>k2 z (by rw[e4];exact As);rw[m4 j (λhh=>k1 ⟨J,by simp;omega⟩) λz' hz'=>k2 z'<|Ak _ hz',BF _ _ hne];exact ho1 j λhh=>k1 ⟨hh.1,by simp;omega⟩
  | @nest t t2 t0 l2 l _ id z id2 z2 bb bb2 cs1 cs ds vs us hl2 hl hid hb2 hn hc hF=>
   obtain⟨u,us',o1,o2,e1,rfl,h1,h2⟩:=hr;cases e1;obtain⟨bb',uc,os',e2,h3,h4,rfl⟩:=h1;cases e2;obtain⟨u2,us1,oa,ob,huc,rfl,h5,h6⟩:=h4;obtain⟨azy,uc2,oc,e3,h7,h8,rfl⟩:=h5;have e4:u2= .pointer (I ⟨bb2,0,G⟩):=by
    obtain⟨us0,fr,k1,k2⟩:=hc;rw[h3]at k1;cases k1;have:uc.toList[0]? =I u2:=by rw[huc];rfl
    rw[Uk,k2]at this;exact(Ck this).symm
   rw[e4]at e3;cases e3;subst e4;obtain⟨t3,c3,Lu⟩:=hb2;have Jx:(id2≠id/\id2 ∉ EO ds)/\id ∉ EO ds/\(EO ds).Nodup:=by simpa[EO,not_or] using hnd
   obtain⟨da,H1,hmk,ho1,alz⟩:=qX (E:=E) hl2 H b q.1.1 h8;obtain⟨dc,H3,am6,ho2,aly⟩:=qX (E:=E) hl (upd H1 id2<|I<|.box t2 da) (b+oc.length) q.1.2 h6;have un:BP E H b (.box t (.box t2 l2::l)::bs) (.ptr id z 0 0::cs) q=
     (match BP E (upd H3 id<|I<|.box t<|.ptr id2 z2 0 0::dc) (b+oc.length+ob.length) bs cs q.2 with|(es,H'',b'')=>(AV.ptr id z 0 0::es,H'',b'')):=by
    have u1:BP E H b (.box t (.box t2 l2::l)::bs) (.ptr id z 0 0::cs) q=(match D9 E H b (.box t<|.box t2 l2::l) (.ptr id z 0 0) q.1 with|(d,H,b)=>match BP E H b bs cs q.2 with|(ds,H,b)=>(d::ds,H,b)):=rfl;have u2:D9 E H b (.box t<|.box t2 l2::l) (.ptr id z 0 0) q.1=(match H id with
     | some (.box _ cs)=>(match BP E H b (.box t2 l2::l) cs q.1 with|(ds,H,b)=>(AV.ptr id z 0 0,upd H id<|I<|.box t ds,b))
     | _=>(.un,H,b)):=rfl
    have u3:BP E H b (.box t2 l2::l) (.ptr id2 z2 0 0::cs1) q.1=(match D9 E H b (.box t2 l2) (.ptr id2 z2 0 0) q.1.1 with|(d,H,b)=>match BP E H b l cs1 q.1.2 with|(ds,H,b)=>(d::ds,H,b)):=rfl;have u4:D9 E H b (.box t2 l2) (.ptr id2 z2 0 0) q.1.1=(match H id2 with
     | some (.box _ cs)=>(match BP E H b l2 cs q.1.1 with|(ds,H,b)=>(AV.ptr id2 z2 0 0,upd H id2<|I<|.box t2 ds,b))
     | _=>(.un,H,b)):=rfl
    rw[u1,u2,hid];simp only;rw[u3,u4,Lu];simp only;rw[Yv l2 H b c3 q.1.1 hl2,hmk];simp only;rw[Yv l _ _ cs1 q.1.2 hl,am6]
   rw[un]at hL ⊢;have hle:=Qs E bs (upd H3 id<|I<|.box t<|.ptr id2 z2 0 0::dc) (b+oc.length+ob.length) cs q.2;have hL':(BP E (upd H3 id<|I<|.box t<|.ptr id2 z2 0 0::dc) (b+oc.length+ob.length) bs cs q.2).2.2<=L:=by
    generalize BP E (upd H3 id<|I<|.box t<|.ptr id2 z2 0 0::dc) (b+oc.length+ob.length) bs cs q.2=r at *;exact hL
   have hi2:¬(b<=id2/\id2<L):=FH id2 As;have hi1:¬(b<=id/\id<L):=FH id<|Ak _ As;have hold:∀j,¬(b<=j/\j<b+oc.length+ob.length)->j≠id->j≠id2->upd H3 id (I<|.box t<|.ptr id2 z2 0 0::dc) j=H j:=λj hj e1 e2=>by
    rw[BF _ _ e1,ho2 j λhh=>hj ⟨J,hh.2⟩,BF _ _ e2,ho1 j λhh=>hj ⟨hh.1,J⟩]
   have HD:∀i∈EO ds,upd H3 id (I<|.box t<|.ptr id2 z2 0 0::dc) i=H i:=λi hi=>by
    have:=FH i<|Ak _<|Ak _ hi;exact hold i (λhh=>this ⟨hh.1,J⟩) (λe=>Jx.2.1 (by rw[← e];exact hi)) λe=>Jx.1.2 (by rw[← e];exact hi)
   obtain⟨nw,n1,n4,n5⟩:=ny bs (upd H3 id<|I<|.box t<|.ptr id2 z2 0 0::dc) (b+oc.length+ob.length) q.2 cs ds vs us o2 L (hF.carry (Pk.refl _ _) λi hi t c h0=>⟨c,by rw[HD i hi];exact h0,λ_ _ c1 e _=>⟨c1,e⟩⟩) Jx.2.2
    (λi hi hh=>FH i (Ak _<|Ak _ hi) ⟨J,hh.2⟩) h2 hL'
   generalize hg:BP E (upd H3 id<|I<|.box t<|.ptr id2 z2 0 0::dc) (b+oc.length+ob.length) bs cs q.2=r at *;obtain⟨es,H'',b''⟩:=r;simp only at n4 n5 hle hL hL' ⊢;refine⟨oc++ob++nw, ?_, ?_, ?_⟩
   .exact at0 n1
   .rw[n4];simp[DG]
   .intro β hM hn hbx;have akz:Num β b oc:=hn.left.left;have aky:Num β (b+oc.length) ob:=hn.left.right;have akx:Num β (b+oc.length+ob.length) nw:=by
     have:=hn.right;rwa[Ax,← DG]at this
    obtain⟨r1,r3⟩:=alz β hM akz;obtain⟨s1,s3⟩:=aly β hM aky;have hβ2:β id2=I (.pointer<|I ⟨bb2,0,G⟩,1):=hbx 0 _ _ rfl rfl id2 z2 rfl;have hβ1:β id=I (.pointer<|I ⟨bb,0,G⟩,1):=hbx 1 _ _ rfl rfl id z rfl;have ob2:EH P w β id2 (.box t2 da):=⟨bb2,uc2,hβ2,h7,r1⟩;have ob1:EH P w β id (.box t<|.ptr id2 z2 0 0::dc):=by
     refine⟨bb,uc,hβ1,h3, ?_⟩;rw[huc];refine RL.cons ?_ s1;have:=RC.ptr (w:=w) (β:=β) (id:=id2) (sz:=z2) (i:=0) (o:=0) hβ2 (b:=bb2) (f:=0) rfl J;simpa using this
    obtain⟨m1,m2,m3,m4⟩:=n5 β hM akx (λi c v k1 k2=>hbx (i+2) c v (by simpa using k1)<|by simpa using k2);have h4:∀j,(upd H3 id (I<|.box t<|.ptr id2 z2 0 0::dc) j=H j/\ ¬(b<=j/\j<b+oc.length+ob.length)/\j≠id/\j≠id2)\/ ∃o,upd H3 id (I<|.box t<|.ptr id2 z2 0 0::dc) j=I o/\EH P w β j o:=λj=>by
     by_cases e1:j=id
     .subst e1;exact .inr ⟨_,Bg _ _ _,ob1⟩
     by_cases e2:j=id2
     .subst e2;refine .inr ⟨_, ?_,ob2⟩;rw[BF _ _ e1,ho2 j λhh=>hi2 ⟨J,J⟩,Bg]
     by_cases k1:b<=j/\j<b+oc.length+ob.length
     .by_cases k2:j<b+oc.length
      .obtain⟨o,q1,q2⟩:=r3 j k1.1 k2;exact .inr ⟨o,by rw[BF _ _ e1,ho2 j J,BF _ _ e2];exact q1,q2⟩
      .obtain⟨o,q1,q2⟩:=s3 j J k1.2;exact .inr ⟨o,by rw[BF _ _ e1];exact q1,q2⟩
     .exact .inl ⟨hold j k1 e1 e2,k1,e1,e2⟩
    have step:∀j,(H'' j=H j/\ ¬(b<=j/\j<b+oc.length+ob.length)/\j≠id/\j≠id2)\/ ∃o,H'' j=I o/\EH P w β j o:=λj=>by
     obtain h|h:=m1 j
     .rcases h4 j with⟨k1,k2⟩|⟨o,k1,k2⟩
      .exact .inl ⟨h.trans k1,k2⟩
      .exact .inr ⟨o,h.trans k1,k2⟩
     .exact .inr h
    refine⟨λj=> ?_,λj k1 k2=> ?_,λid3 z3 hm=> ?_,λj k1 k2=> ?_⟩
    .rcases step j with h|h
     .exact .inl h.1
     .exact .inr h
    .by_cases hj:j<b+oc.length+ob.length
     .rcases step j with h|h
      .exact absurd ⟨k1,hj⟩ h.2.1
      .exact h
     .exact m2 j J (by simp at k2;omega)
    .rcases Bm.1 hm with h|h
     .cases h;obtain h|h:=step id2
      .exact absurd rfl h.2.2.2
      .exact h
     obtain h|h:=Bm.1 h
     .cases h;obtain h|h:=step id
      .exact absurd rfl h.2.2.1
      .exact h
     .exact m3 id3 z3 h
    .have hne:j≠id:=λe4=>k2 z (by rw[e4];exact Ak _ As);have am5:j≠id2:=λe4=>k2 z2 (by rw[e4];exact As);rw[m4 j (λhh=>k1 ⟨J,by simp;omega⟩) λz' hz'=>k2 z'<|Ak _<|Ak _ hz'];exact hold j (λhh=>k1 ⟨hh.1,by simp;omega⟩) hne am5
def aG1(hH:Hs B β H w):∀(ps:List Sh) (cs:List AV) (vs:List Value) (x:LTs ps),ck B.P ps=Y->RL (R1 w β) cs vs->GX E H ps cs=I x->
  ∃ds us,Fb B.P w H (B3 ps) (GA ps cs) (KD ps vs) ds us/\
   RL (λc v=>∃id z bb,c=AV.ptr id z 0 0/\v=Ns (I ⟨bb,0,G⟩)/\(∃t cs,H id=I (.box t cs))/\β id=I (v,1)/\id∈Bn H ps cs) ds us/\
   (EO ds).Sublist (Bn H ps cs)/\ ∀i∈Bn H ps cs,i∈Ch H ps cs\/ ∃z,AV.ptr i z 0 0∈ds
 | [],[],vs,x,_,hr,hx=>by
  have:=hr.of_nil;subst this;exact⟨[],[],.nil,.nil,Ek _,λi hi=>by simp[Bn]at hi⟩
 | [],_::_,_,_,_,_,hx=>by cases hx
 | _::_,[],_,_,_,_,hx=>by cases hx
 | h::ps,c::cs,vs,x,hp,hr,hx=>by
  obtain⟨v,vs,rfl,h1,h2⟩:=hr.CG;obtain⟨x1,e1,hx⟩:=Aj.1 hx;obtain⟨x2,e2,hx⟩:=Aj.1 hx;simp only[ck,AD]at hp;obtain⟨ds,us,f1,f2,f3,f4⟩:=aG1 hH ps cs vs x2 hp.2 h2 e2;have f2':RL (λc' v'=>∃id z bb,c'=AV.ptr id z 0 0/\v'=Ns (I ⟨bb,0,G⟩)/\(∃t cs,H id=I (.box t cs))/\β id=I (v',1)/\id∈Bn H (h::ps) (c::cs)) ds us:=
   f2.mono λc' v' ⟨id,z,bb,k1,k2,k3,k4,k5⟩=>⟨id,z,bb,k1,k2,k3,k4,CR _ k5⟩
  have Eb:B3 (h::ps)=B3 ps->GA (h::ps) (c::cs)=GA ps cs->KD (h::ps) (v::vs)=KD ps vs->(∀i∈Cj H h c,i∈CJ H h c)->
    ∃ds us,Fb B.P w H (B3<|h::ps) (GA (h::ps)<|c::cs) (KD (h::ps)<|v::vs) ds us/\
     RL (λc' v'=>∃id z bb,c'=AV.ptr id z 0 0/\v'=Ns (I ⟨bb,0,G⟩)/\(∃t cs,H id=I (.box t cs))/\β id=I (v',1)/\id∈Bn H (h::ps) (c::cs)) ds us/\
     (EO ds).Sublist (Bn H (h::ps)<|c::cs)/\ ∀i∈Bn H (h::ps) (c::cs),i∈Ch H (h::ps) (c::cs)\/ ∃z,AV.ptr i z 0 0∈ds:=λg1 g2 g3 g4=>by
   rw[g1,g2,g3];refine⟨ds,us,f1,f2',f3.trans<|bE _ _,λi hi=> ?_⟩;obtain hi|hi:=BL.1 hi
   .exact .inl (Bw _<|g4 i hi)
   .exact(f4 i hi).imp (CR _) λh=>h
  cases h with
  | box t l=>
   have hp1:=hp.1;simp only[AD,Bp,Bz]at hp1;cases c<;>first|(cases e1;done)|skip
   rename_i id z i o;cases i<;>cases o<;>simp only[Bq]at e1<;>first|(cases e1;done)|skip
   split at e1
   case h_2=>cases e1
   rename_i t' cs' hid;split at e1
   case h_2=>cases e1
   rename_i hbt;obtain rfl:=Bo hbt;have h1:=h1.Rb;cases h1 with
   | @ptr _ _ _ _ hd n bb f k1 ha hi=>
    obtain⟨b',uc,j1,j2,j3⟩:=hH.ES id _ hid;rw[k1]at j1;cases j1;cases ha;have e0:(Ns<|I ⟨bb,0+(0 * z+0),G⟩)=Ns (I ⟨bb,0,G⟩):=by simp
    by_cases dO:aa6 l=Y
    ·
     cases l with
     | nil=>cases dO
     | cons h0 l=>
      cases h0 with
      | box t2 l2=>
       obtain⟨hl,hn⟩:=hp1;have hn:Pp B.P t=Y:=hn.resolve_left (by rw[dO];simp);simp only[abF,AD]at hl;cases cs' with
       | nil=>cases e1
       | cons c2 cs1=>
        obtain⟨y1,g1,g2⟩:=Aj.1 e1;obtain⟨u2,us1,huc,q1,q2⟩:=j3.CG;cases c2<;>first|(cases g1;done)|skip
        rename_i id2 z2 i2 o2;cases i2<;>cases o2<;>simp only[Bq]at g1<;>first|(cases g1;done)|skip
        split at g1
        case h_2=>cases g1
        rename_i t2' cs2 Lu;obtain⟨b2,uc2,m1,m2,m3⟩:=hH.ES id2 _ Lu;cases q1 with
        | @ptr _ _ _ _ hd2 n2 bb2 f2x k1' ha' hi'=>
         rw[m1]at k1';cases k1';cases ha';have e00:(Ns<|I ⟨b2,0+(0 * z2+0),G⟩)=Ns (I ⟨b2,0,G⟩):=by simp
         rw[e00]at huc;refine⟨.ptr id2 z2 0 0:: .ptr id z 0 0::ds,.pointer (I ⟨b2,0,G⟩):: .pointer (I ⟨bb,0,G⟩)::us, ?_, ?_, ?_,λi hi=> ?_⟩
         .rw[e0];exact .nest hl.1 hl.2 hid ⟨_,_,Lu⟩ hn ⟨uc,_,j2,by rw[← Uk,huc];rfl⟩ f1
         .refine RL.cons ⟨id2,z2,b2,rfl,rfl,⟨_,_,Lu⟩,m1, ?_⟩ (RL.cons ⟨id,z,bb,rfl,rfl,⟨_,_,hid⟩,k1, ?_⟩ f2')
          .simp[Bn,Cj,hid,Lu]
          .simp[Bn,Cj,hid]
         .simp only[EO,Bn,Cj,hid,Lu];refine List.Sublist.trans ?_<|List.Sublist.append_left f3 _;have:(((Bn H l2 cs2++[id2])++Bn H l cs1)++[id])++EO ds=Bn H l2 cs2++(id2::(Bn H l cs1++(id::EO ds))):=by simp
          rw[this];exact(((bE _ _:(id::EO ds).Sublist (Bn H l cs1++(id::EO ds)))).cons_cons id2).trans (bE _ _)
         .simp only[Bn,Cj,hid,Lu,BL,C8]at hi;obtain(((hi|hi)|hi)|hi)|hi:=hi
          .refine .inl<|Bw _ ?_;simp only[CJ,hid,Ch,Lu];exact Bw _ (Tm l2 cs2 hl.1 i hi)
          .subst hi;exact .inr ⟨z2,As⟩
          .refine .inl<|Bw _ ?_;simp only[CJ,hid,Ch,Lu];exact CR _ (Tm l cs1 hl.2 i hi)
          .subst hi;exact .inr ⟨z,Ak _ As⟩
          .rcases f4 i hi with h|⟨z',h⟩
           .exact .inl (CR _ h)
           .exact .inr ⟨z',Ak _<|Ak _ h⟩
      | _=>cases dO
    ·
     have hl:HT l=Y:=by
      have:=hp1.1;cases l with
      | nil=>rfl
      | cons h0 l=>cases h0<;>first|exact this|exact absurd rfl dO
     refine⟨.ptr id z 0 0::ds,.pointer (I ⟨bb,0,G⟩)::us, ?_, ?_, ?_,λi hi=> ?_⟩
     .rw[e0];exact .flat hl ⟨_,_,hid⟩ f1
     .refine RL.cons ⟨id,z,bb,rfl,rfl,⟨_,_,hid⟩,k1, ?_⟩ f2';simp[Bn,Cj,hid]
     .simp only[EO,Bn,Cj,hid];rw[C7];exact((f3.cons_cons id)).trans (bE _ _)
     .simp only[Bn,Cj,hid,BL,C8]at hi;obtain(hi|hi)|hi:=hi
      .refine .inl<|Bw _ ?_;simp only[CJ,hid];exact Tm l cs' hl i hi
      .subst hi;exact .inr ⟨z,As⟩
      .rcases f4 i hi with h|⟨z',h⟩
       .exact .inl (CR _ h)
       .exact .inr ⟨z',Ak _ h⟩
  | agg l=>
   refine Eb rfl rfl rfl λi hi=> ?_;cases c with
   | agg cs'=>
    simp only[CJ];exact Tm l cs' hp.1 i<|by simpa[Cj] using hi
   | _=>simp[Cj]at hi
  | arr=>exact Eb rfl rfl rfl λi hi=>by simp[Cj]at hi
  | same=>exact Eb rfl rfl rfl λi hi=>by simp[Cj]at hi
  | int=>exact Eb rfl rfl rfl λi hi=>by simp[Cj]at hi
  | bool=>exact Eb rfl rfl rfl λi hi=>by simp[Cj]at hi
  | str=>exact Eb rfl rfl rfl λi hi=>by simp[Cj]at hi
  | sl=>exact Eb rfl rfl rfl λi hi=>by simp[Cj]at hi
  | fz=>exact Eb rfl rfl rfl λi hi=>by simp[Cj]at hi
  | row t k=>exact Eb rfl rfl rfl (ZM _ c rfl rfl)
  | Co t k=>exact Eb rfl rfl rfl (ZM _ c rfl rfl)
  | abx t k=>exact Eb rfl rfl rfl (ZM _ c rfl rfl)
def aHX{t:TypeId}{j:Nat}:∀(ids:List Nat) (s:S) {cs:List AV},j ∉ ids->s.H j=I (.box t cs)->∃cs',(ids.foldl S.kill s).H j=I (.box t cs')/\ ∀id2 z2 cs1,cs= .ptr id2 z2 0 0::cs1->id2 ∉ ids->∃L6,cs'= .ptr id2 z2 0 0::L6
 | [],s,cs,_,h=>⟨cs,h,λ_ _ c e _=>⟨c,e⟩⟩
 | i::ids,s,cs,hj,h=>by
  have hne:j≠i:=λe=>hj<|e▸As;obtain⟨c',h1,h2⟩:=aHX (t:=t) (j:=j) ids (s.kill i) (cs:=cs.map<|kl1 i) (λhm=>hj<|Ak _ hm) (by
   show upd (λj=>CP (kl1 i)<|s.H j) i G j=_;rw[BF _ _ hne,h];rfl)
  refine⟨c',h1,λid2 z2 cs1 e hn=> ?_⟩;subst e;have hn2:id2≠i:=λe=>hn<|e▸As;have e1:Ai id2 i=A0:=by rw[← Gj,Hc];exact hn2
  exact h2 id2 z2 (cs1.map<|kl1 i) (by simp[kl1,e1]) λhm=>hn<|Ak _ hm
def aFs{t:TypeId}{j:Nat}:∀(ids:List Nat) (s:S) {cs:List AV},j ∉ ids->s.H j=I (.box t cs)->∃cs',(ids.foldl S.freeze s).H j=I (.box t cs')/\ ∀id2 z2 cs1,cs= .ptr id2 z2 0 0::cs1->id2 ∉ ids->∃L6,cs'= .ptr id2 z2 0 0::L6
 | [],s,cs,_,h=>⟨cs,h,λ_ _ c e _=>⟨c,e⟩⟩
 | i::ids,s,cs,hj,h=>by
  have hne:j≠i:=λe=>hj<|e▸As;have:∃cs',(s.freeze i).H j=I (.box t cs')/\ ∀id2 z2 cs1,cs= .ptr id2 z2 0 0::cs1->id2≠i->∃L6,cs'= .ptr id2 z2 0 0::L6:=by
   unfold S.freeze;split
   .rename_i k xs _;refine⟨cs.map<|fz1 i k xs, ?_,λid2 z2 cs1 e hn=> ?_⟩
    .show upd (λj=>CP (fz1 i k xs)<|s.H j) i G j=_;rw[BF _ _ hne,h];rfl
    .subst e;have e1:Ai id2 i=A0:=by rw[← Gj,Hc];exact hn
     exact⟨cs1.map<|fz1 i k xs,by simp[fz1,e1]⟩
   .refine⟨cs.map<|kl1 i, ?_,λid2 z2 cs1 e hn=> ?_⟩
    .show upd (λj=>CP (kl1 i)<|s.H j) i G j=_;rw[BF _ _ hne,h];rfl
    .subst e;have e1:Ai id2 i=A0:=by rw[← Gj,Hc];exact hn
     exact⟨cs1.map<|kl1 i,by simp[kl1,e1]⟩
  obtain⟨c',h',hd'⟩:=this;obtain⟨c2,h2,h3⟩:=aFs (t:=t) (j:=j) ids (s.freeze i) (λhm=>hj<|Ak _ hm) h';refine⟨c2,h2,λid2 z2 cs1 e hn=> ?_⟩;obtain⟨L6,e'⟩:=hd' id2 z2 cs1 e (λe=>hn<|e▸As);exact h3 id2 z2 L6 e' λhm=>hn<|Ak _ hm
def awo{t:TypeId}{j:Nat}(q:Bool)(ids:List Nat)(s:S){cs:List AV}(hj:¬(q=Y/\j∈ids))(h:s.H j=I (.box t cs)):
  ∃cs',(Ge q ids s).H j=I (.box t cs')/\ ∀id2 z2 cs1,cs= .ptr id2 z2 0 0::cs1->¬(q=Y/\id2∈ids)->∃L6,cs'= .ptr id2 z2 0 0::L6:=by
 cases q with
 | false=>exact⟨cs,h,λ_ _ c e _=>⟨c,e⟩⟩
 | true=>
  obtain⟨c',h1,h2⟩:=aFs ids s (λhm=>hj ⟨rfl,hm⟩) h;exact⟨c',h1,λid2 z2 cs1 e hn=>h2 id2 z2 cs1 e λhm=>hn ⟨rfl,hm⟩⟩
def aaO{cs:List AV}{vs:List Value}(h:RL (R1 w β) cs vs):R2 w β (Mb cs) (My vs):=by
 match cs,vs,h with
 | [],vs,h=>
  have:=h.of_nil;subst this;exact⟨[],rfl,.nil⟩
 | [c],vs,h=>
  obtain⟨v,vs',rfl,h1,h2⟩:=h.CG;have:=h2.of_nil;subst this;exact .Hh h1
 | c::c'::cs,vs,h=>
  obtain⟨v,vs',rfl,h1,h2⟩:=h.CG;obtain⟨v',alR,rfl,h3,h4⟩:=h2.CG;exact⟨v::v'::alR,rfl,h⟩
def aHc:∀(ps:List Sh) (k:Nat) (t:Nat),t∈EA k ps->k<=t/\ ∃e l,ps[t - k]? =I (.box e l)
 | [],_,_,h=>by cases h
 | p::ps,k,t,h=>by
  have tail:t∈EA (k+1) ps->k<=t/\ ∃e l,(p::ps)[t - k]? =I (.box e l):=λh=>by
   obtain⟨h1,e,l,h2⟩:=aHc ps (k+1) t h;refine⟨J,e,l, ?_⟩;have:t - k=(t - (k+1))+1:=J
   rw[this];simpa using h2
  unfold EA at h;split at h
  .rename_i hb;obtain rfl|h:=Bm.1 h
   .refine⟨Aw _, ?_⟩;cases p<;>first|(cases hb;done)|skip
    rename_i t0 l0;exact⟨t0,l0,by simp⟩
   .exact tail h
  .exact tail h
def aIA{H:Hp}:∀ {ps:List Sh} {cs:List AV} {x:LTs ps},GX E H ps cs=I x->∀ {i:Nat} {h:Sh},ps[i]? =I h->∃c y,cs[i]? =I c/\Bq E H h c=I y
 | [],cs,x,_,i,h,hi=>by simp at hi
 | _::_,[],_,h,_,_,_=>by cases h
 | p::ps,c::cs,x,hx,i,h,hi=>by
  obtain⟨x1,e1,hx⟩:=Aj.1 hx;obtain⟨x2,e2,hx⟩:=Aj.1 hx;cases i with
  | zero=>simp at hi;subst hi;exact⟨c,x1,rfl,e1⟩
  | succ i=>
   obtain⟨c',y,h1,h2⟩:=aIA e2 (by simpa using hi);exact⟨c',y,by simpa using h1,h2⟩
end
end Go.VS
namespace Go.VS
open Go
def okQ(P:Program)(m:Db):Bool:=ck P m.ps&&KM m.rs&&(Iv m.rs).all λt=>(EA 0 m.ps).any λp=>Ai p t
section
variable {B B':Be} {β β':Beta} {H:Hp} {w w':World} {M M':Nat->Prop} {stk:List (Array Value)} {s s':S} {a:Act} {P:Program} {E:Nat->AV} {e:Nat->Value} {b:Nat} {C:Cx}
def aH2{o:Oper}{f:FuncId}{args:List Operand}{ts:Array TypeId}{K:Act->World->Prop}{Q:Exit->Act->World->Prop}(hE:Ma P f)(ho:o.op= .call { callee:= .value<|.func f,args:=args.toArray,argTypes:=ts })
  {R:Ending->World->Prop}(hc:Calls P f (args.map a.eval).toArray w R)(hR:∀en w',R en w'->∃v,en= .returned v/\K (a.put o.dst v) w'):o.wp P a w K Q:=by
 unfold Oper.wp;have h1:execOp a.eval o=callFunc f (args.map a.eval).toArray:=by
  have ef:a.eval (.func f)= .func (.func f) #[] #[]:=rfl;unfold execOp;simp[ho,resolve,Deferred.ofValue,invoke,ef]
 rw[h1,hE];refine Ms hc λen w' h=> ?_;obtain⟨v,rfl,hk⟩:=hR en w' h;exact hk
def aFi:∀(ids:List Nat) (s:S),(ids.foldl S.kill s).gs=s.gs/\(ids.foldl S.kill s).n=s.n/\(ids.foldl S.kill s).pins=s.pins
 | [],_=>⟨rfl,rfl,rfl⟩
 | i::ids,s=>aFi ids (s.kill i)
def auR(q:Bool)(ids:List Nat)(s:S):(Ge q ids s).gs=s.gs/\(Ge q ids s).n=s.n/\(Ge q ids s).pins=s.pins:=by
 cases q with
 | false=>exact⟨rfl,rfl,rfl⟩
 | true=>
  obtain⟨h1,h2,h3,_⟩:=YL ids s;exact⟨h1,h2,h3⟩
def atJ{h:Sh}{x:LT h}{v:Value}{os:List (Value×Nat)}(ht:s7 h=Y)(hr:Rel P w M e h x v os):(BJ E H b h x).2.2=b+os.length:=by
 by_cases hh:Iy h=Y
 .exact aHl h H b x v os hh hr
 .cases h<;>first|(exact absurd ht hh;done)|skip
  case agg l=>
   obtain⟨us,rfl,h1⟩:=hr;have un:BJ E H b (.agg l) x=(match Al E H b l x with|(cs,H,b)=>(AV.agg cs,H,b)):=rfl;have:=ZJ (E:=E) l H b x us os ht h1;rw[un];generalize Al E H b l x=r at *;exact this
  case arr k=>
   obtain⟨rfl,h1⟩:=hr;rfl
def aFe:∀ {l:List Sh} {H:Hp} {b:Nat} {x:LTs l} {us:List Value} {os:List (Value×Nat)},KM l=Y->Cn P w M e l x us os->(Al E H b l x).2.2=b+os.length
 | [],H,b,x,us,os,_,hr=>by obtain⟨_,rfl⟩:=hr;rfl
 | h::l,H,b,x,us,os,hl,hr=>by
  obtain⟨u,us',o1,o2,rfl,rfl,h1,h2⟩:=hr;simp only[KM,AD]at hl;have un:Al E H b (h::l) x=(match BJ E H b h x.1 with|(c,H,b)=>match Al E H b l x.2 with|(cs,H,b)=>(c::cs,H,b)):=rfl;have k:=atJ (E:=E) (H:=H) (b:=b) hl.1 h1;rw[un];generalize BJ E H b h x.1=r at *;obtain⟨c,H',b'⟩:=r;have k:b'=b+o1.length:=k;subst k;have k2:=aFe (H:=H') (b:=b+o1.length) hl.2 h2;simp only;generalize Al E H' (b+o1.length) l x.2=r at *;obtain⟨cs,H'',b''⟩:=r;have k2:b''=_:=k2;simp[k2,DG]
def auO{O:Nat->Prop}(hg:O3 B.P B.w0 B.O)(hs:Hs B β H w)(hO:∀b,O b->MB β b):O3 B.P w O:=by
 obtain⟨w0,h1,h2⟩:=hg;refine⟨w0,h1,λb hb=> ?_⟩;obtain⟨h3,h4,h5⟩:=h2 b hb;exact⟨λh=>(hs.old b<|hO b h).1.elim h3 J,H9 h4 hs.size,(hs.block b h4 h3).trans h5⟩
def axe{m:Db}{f:FuncId}(hS:H4 B.P f m)(hk:okQ B.P m=Y){d:Option Nat}{as:List Operand}{o:Oper}{ts:Array TypeId}{K:Act->World->Prop}{Q:Exit->Act->World->Prop}
  (hst:St B β stk s a w)(hfr:∀j,b<=j->j<b+16->s.H j=G)(hd:s.has d=Y)(he:Ht m s b d (as.map s.ev) I=I s')(hod:o.dst=d)(ho:o.op= .call { callee:= .value<|.func f,args:=as.toArray,argTypes:=ts })
  (hK:KQ B stk a d s' K):o.wp B.P a w K Q:=by
 simp only[okQ,AD,CZ,Hd]at hk;obtain⟨⟨hps,hrs⟩,hsm⟩:=hk;unfold Ht at he;simp only at he;split at he
 case h_2=>cases he
 rename_i x hx hnd;obtain⟨r,hr,he⟩:=Aj.1 he;simp only[AD]at hnd;have Q7:=Yl hnd.1;generalize hcs:as.map s.ev=cs at *;generalize Gp:as.map a.eval=args;have hlen:args.length=cs.length:=by rw[← hcs,← Gp];simp
 have hrx:∀(i:Nat) (c:AV) (v:Value),cs[i]? =I c->args[i]? =I v->RX w β (Bc a) c v:=λi c v h1 h2=>by
  rw[← hcs,DI]at h1;rw[← Gp,DI]at h2;obtain⟨y,hy,rfl⟩:=DH.1 h1;rw[hy]at h2;cases h2;exact hst.eval y
 have hpl:=YB hx;have rl:RL (R1 w β) cs args:=⟨hlen,λj c u h1 h2=>(hrx j c u h1 h2).N3 (hpl c<|Cs h1).1 (hpl c<|Cs h1).2⟩;generalize hE:(fun(i:Nat)=>(cs[i]?).getD AV.un)=E at *;have aEl:∀ {t:Nat} {c:AV},cs[t]? =I c->E t=c:=λh=>by rw[← hE];simp[h]
 generalize hI:Bn s.H m.ps cs=ids at *;generalize hro:Ch s.H m.ps cs=ro at *;generalize hfz:D3 s.H m.ps cs=fz at *;have akh:ro.Sublist ids:=by rw[← hro,← hI];exact Zd _ _
 have al:∀i∈ro,RJ s.H i:=by rw[← hro];exact Yu _ _ _ hx
 have ax:∀i∈fz,RJ s.H i:=by rw[← hfz];exact Yw _ _ _ hx
 obtain⟨bc,bv,hFb,hba,aEX,sK⟩:=aG1 (E:=E) hst.hs m.ps cs args x hps rl hx;rw[hI]at hba aEX sK;rw[hro]at sK
 let Zc:Nat->Prop:=λbl=>MZ β bl/\bl ∉ B0 (ids.filterMap β)/\bl ∉ B0 (fz.filterMap β)
 have R:OI B β s.H w (λbl=>bl∈B0 (ids.filterMap β)\/Zc bl) E (ar args):={
  hs:=hst.hs
  hM:=λbl h=>h.elim (λh=> .inl<|UT h) (λh=>h.1)
  hE:=λt id z hEt=>by
   cases hc:cs[t]? with
   | none=>rw[← hE]at hEt;simp[hc]at hEt
   | some c=>
    have hlt:t<args.length:=by rw[hlen];exact(BN.1 hc).1
    rw[aEl hc];exact rl.2 t c _ hc (by simp[ar,hlt]) }
 have amE:SG β (λbl=>bl∈B0 (ids.filterMap β)\/Zc bl) fz:=λi hi p a' hp ha hm=>by
  obtain hm|hm:=hm
  .exact qO hst.hs hnd.2 i hi p a' hp ha (.inl hm)
  .exact hm.2.2<|Gg.2 ⟨p,Gg.2 ⟨i,hi,hp⟩,by simp[HU,ha]⟩
 obtain⟨os,FV,GL⟩:=Yk R m.ps cs args x rl hx (by rw[hfz];exact amE);rw[hI]at GL;have oW:(λbl=>bl∈B0 (ids.filterMap β)\/Zc bl)=λbl=>bl∈B0 os\/Zc bl:=by rw[GL]
 rw[oW]at FV;have dN:∀bl∈B0 os,MB β bl:=λbl h=>by rw[GL]at h;exact UT h
 have Ig:=hS.2 x r hr w Zc args os FV (by rw[GL];exact ZA hst.hs Q7)
  (λbl h=>⟨(hst.hs.old bl<|dN bl h).2,λhz=>hz.2.1 (by rw[← GL];exact h)⟩) (λbl h=>by
   obtain h1|h1:=h.1
   .exact(hst.hs.old bl h1).2
   .exact hst.hs.zl bl h1)
  (auO B.gl hst.hs λbl h=>dN bl h)
 rw[← Gp]at Ig;refine aH2 hS.1 ho Ig ?_;rw[Gp];rintro en w' ⟨v,rfl,Ij⟩;refine⟨v,rfl, ?_⟩;rw[hod];obtain⟨vs,os1,os2,rfl,hr1,hr2,akl,hbl⟩:=Ij.ex;obtain⟨β1,h1,hβ1,hZ1⟩:=St.abW (a:=a) (w:=w) (stk:=stk) ro (Q7.sublist akh) hst;obtain⟨β2,h2,hβ2,hZ2⟩:=h1.al6 (CW m.rs||CW (B3 m.ps)) fz;have HD:=auR (CW m.rs||CW (B3 m.ps)) fz<|ro.foldl S.kill s;have sG:=aFi ro s;have azr:∀ {id:Nat} {t:TypeId} {cs0:List AV},s.H id=I (.box t cs0)->∃cs1,(Ge (CW m.rs||CW (B3 m.ps)) fz<|ro.foldl S.kill s).H id=I (.box t cs1):=fun {id t cs0} hid=>by
  obtain⟨cs1,h⟩:=aGT ro s (λhm=>al id hm t cs0 hid) hid;exact avo _ fz _ (λhm=>ax id hm.2 t cs0 hid) h
 have akk:∀j,s.H j=G->(Ge (CW m.rs||CW (B3 m.ps)) fz<|ro.foldl S.kill s).H j=G:=λj hj=>
  (aFr (N:=λ_=>False) (CW m.rs||CW (B3 m.ps)) fz<|BH.sd ro<|BH.refl _ s).nn j (λh=>h) hj
 generalize hq:(CW m.rs||CW (B3 m.ps))=q at *;generalize hs2:Ge q fz (ro.foldl S.kill s)=s2 at *;have aj:∀j p,β2 j=I p->β j=I p/\j ∉ ro/\ ¬(q=Y/\j∈fz):=λj p h=>by
  rw[hβ2]at h;split at h
  .cases h
  .rename_i hn;rw[hβ1]at h;split at h
   .cases h
   .rename_i hn';exact⟨h,hn',hn⟩
 have aEj:∀bl,β2.Z bl↔β.Z bl\/ ∃i∈ro,∃p a,β i=I p/\adr p.1=I a/\a.block=bl:=λbl=>by rw[hZ2];exact hZ1 bl
 generalize hbc:GA m.ps cs=bcT at *;generalize hbv:KD m.ps args=bvT at *;have hM2:∃M2:Nat->Prop,Cn B.P w' M2 (ar args) m.rs r.1 vs os1/\Cn B.P w' M2 (ar args) (B3 m.ps) r.2 bvT os2/\(q=A0->∀bl,M2 bl)/\(q=Y->∀bl,(bl∈B0 (os1++os2)\/Zc bl)->M2 bl):=by
  cases q with
  | false=>
   simp only[Mk]at hq;exact⟨λ_=>True,Cn.anyM _ _ _ _ hq.1 hr1,Cn.anyM _ _ _ _ hq.2 hr2,λ_ _=>trivial,λh=>by cases h⟩
  | true=>exact⟨_,hr1,hr2,(by intro h;cases h),λ_ bl h=>h⟩
 obtain⟨M2,aF2,am0,hMf,hMt⟩:=hM2;generalize hg:BP E s2.H b (B3 m.ps) bcT r.2=g at *;obtain⟨ds,H1,b1⟩:=g;simp only at he;generalize hmk:Al E H1 b1 m.rs r.1=g at *;obtain⟨rc,Hf,b2⟩:=g;simp only at he;split at he
 case h_2=>cases he
 rename_i hb2;have hb2:=Dg hb2;cases he;have Q6:b1<=b2:=by have:=JO E m.rs H1 b1 r.1;rw[hmk]at this;exact this
 have hgb:(BP E s2.H b (B3 m.ps) bcT r.2).2.2<=b+16:=by rw[hg];exact Cc Q6 hb2
 have hdK:∀i∈EO bc,i ∉ ro/\i ∉ fz/\ ∃t cs0,s.H i=I (.box t cs0):=λi hi=>by
  obtain⟨z,hz⟩:=aJp hi;obtain⟨j,hj⟩:=aFO hz;obtain⟨v,_,id,z',bb,k1,_,⟨t,cs0,k3⟩,_,_⟩:=hba.get hj;cases k1;exact⟨λh=>al i h _ _ k3,λh=>ax i h _ _ k3,t,cs0,k3⟩
 have alq:Fb B.P w' s2.H (B3 m.ps) bcT bvT bc bv:=hFb.carry Ij.pk λi hi t cs0 h0=>by
  obtain⟨k1,k2,_⟩:=hdK i hi;obtain⟨cs1,h3,h4⟩:=aHX ro s k1 h0;obtain⟨cs2,h5,h6⟩:=awo q fz (ro.foldl S.kill s) (λhm=>k2 hm.2) h3;rw[hs2]at h5;refine⟨cs2,h5,λid2 z2 c1 e hm=> ?_⟩;obtain⟨c2,e2⟩:=h4 id2 z2 c1 e (hdK id2 hm).1;exact h6 id2 z2 c2 e2 λhm'=>(hdK id2 hm).2.1 hm'.2
 obtain⟨nw,akw,hb1,hgi⟩:=ny (E:=E) (P:=B.P) (w:=w') (M:=M2) (e:=ar args) (B3 m.ps) s2.H b r.2 bcT bc bvT bv os2 (b+16) alq (Q7.sublist aEX)
  (λi hi hh=>by
   obtain⟨_,_,t,cs0,k3⟩:=hdK i hi;rw[hfr i hh.1 hh.2]at k3;cases k3) am0 hgb
 rw[hg]at hb1 hgi;simp only at hb1 hgi
 let os':=nw++os1
 let β3:Beta:=⟨λj=>if b<=j/\j<b+os'.length then os'[j - b]? else β2 j,B.Z⟩
 have Ve:∀j p,β3 j=I p->(b<=j/\j<b+os'.length/\os'[j - b]? =I p)\/(¬(b<=j/\j<b+os'.length)/\β2 j=I p):=λj p h=>by
  have h:(if b<=j/\j<b+os'.length then os'[j - b]? else β2 j)=I p:=h;split at h
  .rename_i hh;exact .inl ⟨hh.1,hh.2,h⟩
  .rename_i hh;exact .inr ⟨hh,h⟩
 have Rg:Num β3 b os':=λi p hp=>by
  have hlt:=(BN.1 hp).1;show(if b<=b+i/\b+i<b+os'.length then os'[b+i - b]? else β2 (b+i))=I p;rw[A5 ⟨J,J⟩,show b+i - b=i by omega];exact hp
 have dH:(B0 os2).Perm (B0 nw++B0 (bv.map λv=>(v,1))):=by
  have:=akw.filterMap HU;rwa[Mr]at this
 have Vd:∀bl,bl∈B0 os'->bl∈B0 (os1++os2):=λbl h=>by
  simp only[os',B0,Mr,BL]at h ⊢;obtain h|h:=h
  .exact .inr (dH.mem_iff.2<|Bw _ h)
  .exact .inl h
 have an:(B0 os'++B0 (bv.map λv=>(v,1))).Nodup:=by
  have h1:(B0<|os1++os2).Perm (B0 os'++B0 (bv.map λv=>(v,1))):=by
   simp only[os',B0,Mr]at dH ⊢;refine(bD _ dH).trans ?_;rw[← C7];exact List.Perm.append_right _ List.perm_append_comm
  exact h1.nodup_iff.1 akl
 have al0:(B0 os').Nodup:=(Jo.1 an).1;have sX:∀i,i∈ids->i ∉ ro->∃v,(v,1)∈bv.map (λv=>(v,1))/\β i=I (v,1)/\(∃z,AV.ptr i z 0 0∈bc):=λi hi hn=>by
  obtain h|⟨z,h⟩:=sK i hi
  .exact absurd h hn
  .obtain⟨j,hj⟩:=aFO h;obtain⟨v,hv,id,z',bb,k1,k2,k3,k4,k5⟩:=hba.get hj;cases k1;exact⟨v,C1.2 ⟨v,Cs hv,rfl⟩,k4,z,h⟩
 have sU:∀j p a',β2 j=I p->adr p.1=I a'->a'.block∈B0 os->j∈ids/\j ∉ ro:=λj p a' hj ha hm=>by
  obtain⟨h0,h1,_⟩:=aj j p hj;rw[GL]at hm;obtain⟨i,hi,p',a2,hp',ha',e'⟩:=NT hm;have:=hst.hs.inj j i p p' a' a2 h0 hp' ha ha' e'.symm;subst this;exact⟨hi,h1⟩
 have abX:∀bl,bl∈B0 os->MZ β2 bl:=λbl hm=>by
  have hm':=hm;rw[GL]at hm;obtain⟨i,hi,p,a',hp,ha,e'⟩:=NT hm;by_cases hr:i∈ro
  .exact .inr ((aEj bl).2<|.inr ⟨i,hr,p,a',hp,ha,e'⟩)
  .refine .inl ⟨i,p.1,p.2,a', ?_,ha,e'⟩;have hnf:i ∉ fz:=λhf=>aHe hnd.2 i hf hi;rw[hβ2,A9 λh=>hnf h.2,hβ1,A9 hr];exact hp
 have sf:∀bl,MB β3 bl->MB β2 bl\/bl∈B0 os':=λbl hm=>by
  obtain⟨j,hd',n,a',hj,ha,e'⟩:=hm;obtain⟨_,_,hj⟩|⟨_,hj⟩:=Ve j _ hj
  .exact .inr (Gg.2 ⟨_,Cs hj,by simp[HU,ha,e']⟩)
  .exact .inl ⟨j,hd',n,a',hj,ha,e'⟩
 have Cz:∀bl o v,¬MZ β2 bl->w.cell? ⟨bl,o,G⟩=I v->w'.cell? ⟨bl,o,G⟩=I v:=λbl o v hn hc=>by
  have hlt:=block_lt_of_cell hc;rw[Uy (w:=w) (w':=w')<|Ij.block bl hlt λhm=>hn<|abX bl hm];exact hc
 have alp:∀bl,¬MZ β2 bl->bl<w.heap.size->¬MZ β3 bl:=λbl hn hlt hm=>by
  obtain hm|hm:=hm
  .rcases sf bl hm with h|h
   .exact hn (.inl h)
   .rcases(hbl bl<|Vd bl h).1 with h3|h3
    .exact hn (abX bl h3)
    .omega
  .exact hn<|.inr<|(aEj bl).2<|.inl (by rw[hst.hs.z];exact hm)
 have ai:∀j p,β2 j=I p->β3 j=I p:=λj p hj=>by
  have hne:¬(b<=j/\j<b+os'.length):=λhh=>by
   have al3:os'.length=nw.length+os1.length:=by simp[os']
   have h3:=(hgi:_);obtain⟨ob,hob⟩:=h2.hs.dom j p hj;have:=akk j (hfr j hh.1 (by
    have:b2=b1+os1.length:=by
     have:=aFe hrs aF2 (E:=E) (H:=H1) (b:=b1);rw[hmk]at this;exact this
    omega))
   rw[this]at hob;cases hob
  show(if b<=j/\j<b+os'.length then os'[j - b]? else β2 j)=I p;rw[A9 hne];exact hj
 have hkp:Kp w β2 w' β3:=λc v hc=>hc.mono ai Cz alp;have hM3:∀bl,MZ β3 bl->M2 bl:=λbl hm=>by
  cases q with
  | false=>exact hMf rfl bl
  | true=>
   refine hMt rfl bl ?_;obtain hm|hm:=hm
   .rcases sf bl hm with h|h
    .obtain⟨j,hd',n,a',hj,ha,e'⟩:=h;obtain⟨k1,k2,k3⟩:=aj j _ hj;by_cases hji:j∈ids
     .obtain⟨v,hv1,hv2,_⟩:=sX j hji k2;rw[k1]at hv2;cases hv2;refine .inl ?_;simp only[B0,Mr,BL];refine .inr (dH.mem_iff.2<|CR _<|Gg.2 ⟨_,hv1,by simp[HU,ha,e']⟩)
     .refine .inr ⟨.inl ⟨j,hd',n,a',k1,ha,e'⟩,λhb=> ?_,λhb=> ?_⟩
      .rw[← GL,← e']at hb;exact hji (sU j _ a' hj ha hb).1
      .obtain⟨i,hi,p,a2,hp,ha2,e2⟩:=NT hb;have:=hst.hs.inj j i _ p a' a2 k1 hp ha ha2<|e'.trans e2.symm;subst this;exact k3 ⟨rfl,hi⟩
    .exact .inl (Vd bl h)
   .have hz:β.Z bl:=by rw[hst.hs.z];exact hm
    refine .inr ⟨.inr hz,λhb=> ?_,λhb=> ?_⟩
    .obtain⟨i,hi,p,a2,hp,ha2,e2⟩:=NT hb;exact hst.hs.zn i p a2 hp ha2 (e2▸hz)
    .obtain⟨i,hi,p,a2,hp,ha2,e2⟩:=NT hb;exact hst.hs.zn i p a2 hp ha2<|e2▸hz
 obtain⟨g1,g2,g3,g4⟩:=hgi β3 hM3 Rg.left (λi c v k1 k2 id z hc=>by
  obtain⟨id',z',bb,j1,j2,j3,j4,j5⟩:=hba.2 i c v k1 k2;rw[hc]at j1;cases j1;refine ai id _ ?_;have hnr:id ∉ ro:=λh=>al id h _ _ j3.choose_spec.choose_spec;have hnf:id ∉ fz:=λh=>ax id h _ _ j3.choose_spec.choose_spec;rw[hβ2,A9 λh=>hnf h.2,hβ1,A9 hnr];exact j4)
 have alC:VE w' β3 E (ar args) (Iv m.rs):=λt ht=>by
  obtain⟨p,hp1,hp2⟩:=hsm t ht;obtain rfl:=Bo hp2;obtain⟨_,e1,l1,hp3⟩:=aHc m.ps 0 p hp1;rw[Js]at hp3;obtain⟨c,y,hc,hy⟩:=aIA hx hp3;have hlt:p<args.length:=by rw[hlen];exact(BN.1 hc).1
  have hR:=rl.2 p c (ar args p) hc (by simp[ar,hlt]);rw[aEl hc];cases c<;>first|(cases hy;done)|skip
  rename_i id z i' o';cases i'<;>cases o'<;>simp only[Bq]at hy<;>first|(cases hy;done)|skip
  split at hy
  case h_2=>cases hy
  rename_i t' cs' hid;have hnr:id ∉ ro:=λh=>al id h _ _ hid;have hnf:id ∉ fz:=λh=>ax id h _ _ hid;have hR:=hR.Rb;generalize ar args p=v at hR;cases hR with
  | ptr k1 k2 k3=>exact .N1<|.ptr (ai id _ (by rw[hβ2,A9 λh=>hnf h.2,hβ1,A9 hnr];exact k1)) k2 k3
 obtain⟨f1,f2,f3⟩:=aD (β:=β3) (E:=E) (M:=M2) (P:=B.P) (w:=w') (e:=ar args) hM3 m.rs H1 b1 r.1 vs os1 hrs aF2 (by rw[hb1];exact Rg.right) alC;rw[hmk]at f1 f2 f3;simp only at f1 f2 f3;have al3:os'.length=nw.length+os1.length:=by simp[os']
 have aF6:∀j,(∃ob,Hf j=I ob/\EH B.P w' β3 j ob)\/(Hf j=s2.H j/\ ∀z,AV.ptr j z 0 0 ∉ bc):=λj=>by
  by_cases hj:b1<=j/\j<b1+os1.length
  .exact .inl (f3.2 j hj.1 hj.2)
  .have e1:Hf j=H1 j:=f3.1 j J;obtain h|⟨ob,h,h'⟩:=g1 j
   .by_cases hm:∃z,AV.ptr j z 0 0∈bc
    .obtain⟨z,hm⟩:=hm;obtain⟨ob,h3,h4⟩:=g3 j z hm;exact .inl ⟨ob,by rw[e1];exact h3,h4⟩
    .exact .inr ⟨e1.trans h,λz hz=>hm ⟨z,hz⟩⟩
   .exact .inl ⟨ob,by rw[e1];exact h,h'⟩
 have hHf:Hs B β3 Hf w':={
  ES:=λj ob hj=>by
   obtain⟨ob',h3,h4⟩|⟨h3,h4⟩:=aF6 j
   .rw[h3]at hj;cases hj;exact h4
   .rw[h3]at hj;have hob:=h2.hs.ES j ob hj;have hex:∃p,β2 j=I p:=by
     cases ob with
     | box e cs=>obtain⟨_,_,h,_⟩:=hob;exact⟨_,h⟩
     | row e fz k xs=>obtain⟨_,h,_⟩:=hob;exact⟨_,h⟩
     | arr e k xs=>obtain⟨_,_,h,_⟩:=hob;exact⟨_,h⟩
    obtain⟨p,hp⟩:=hex;refine hob.mono (by rw[ai j p hp,hp]) hkp λp' a' hp' ha'=> ?_;rw[hp]at hp';cases hp';have hlt:=(h2.hs.old a'.block ⟨j,p.1,p.2,a',hp,ha',rfl⟩).2;refine Ij.block a'.block hlt λhm=> ?_;obtain⟨h5,h6⟩:=sU j p a' hp ha' hm;obtain⟨_,_,_,z,hz⟩:=sX j h5 h6;exact h4 z hz
  dom:=λj p hj=>by
   obtain⟨ob',h3,_⟩|⟨h3,_⟩:=aF6 j
   .exact⟨ob',h3⟩
   .rcases Ve j p hj with⟨k1,k2,k3⟩|⟨_,hj⟩
    .by_cases hjb:j<b+nw.length
     .obtain⟨ob,k4,_⟩:=g2 j k1 hjb;have:Hf j=H1 j:=f3.1 j J;exact⟨ob,by rw[this];exact k4⟩
     .obtain⟨ob,k4,_⟩:=f3.2 j J J;exact⟨ob,k4⟩
    .obtain⟨ob,k4⟩:=h2.hs.dom j p hj;exact⟨ob,by rw[h3];exact k4⟩
  inj:=λi j p p' a1 a2 hi hj ha1 ha2 hb=>by
   have Vh:∀(i j:Nat) (p p':Value×Nat) (a1 a2:Addr),β2 i=I p->os'[j - b]? =I p'->adr p.1=I a1->adr p'.1=I a2->a1.block=a2.block->False:=by
    intro i j p p' a1 a2 hi hj ha1 ha2 hb;have hm2:a2.block∈B0 os':=Gg.2 ⟨p',Cs hj,by simp[HU,ha2]⟩;rcases(hbl a2.block<|Vd _ hm2).1 with h3|h3
    .rw[← hb]at h3;obtain⟨h5,h6⟩:=sU i p a1 hi ha1 h3;obtain⟨v,hv1,hv2,_⟩:=sX i h5 h6;rw[(aj i p hi).1]at hv2;cases hv2;have hm1:a1.block∈B0 (bv.map λv=>(v,1)):=Gg.2 ⟨_,hv1,by simp[HU,ha1]⟩;exact(Jo.1 an).2.2 _ hm2 _ hm1 hb.symm
    .have:=(h2.hs.old a1.block ⟨i,p.1,p.2,a1,hi,ha1,rfl⟩).2;omega
   obtain⟨i1,i2,i3⟩|⟨_,i3⟩:=Ve i p hi<;>obtain⟨j1,j2,j3⟩|⟨_,j3⟩:=Ve j p' hj
   .have:=aB al0 (i - b) (j - b) p p' a1 a2 i3 j3 ha1 ha2 hb;omega
   .exact(Vh j i p' p a2 a1 j3 i3 ha2 ha1 hb.symm).elim
   .exact(Vh i j p p' a1 a2 i3 j3 ha1 ha2 hb).elim
   .exact h2.hs.inj i j p p' a1 a2 i3 j3 ha1 ha2 hb
  old:=λbl hm=>by
   obtain h|h:=sf bl hm
   .exact⟨(h2.hs.old bl h).1,H9 (h2.hs.old bl h).2 Ij.size⟩
   .have h3:=hbl bl<|Vd bl h;refine⟨?_,h3.2⟩;obtain h4|h4:=h3.1
    .exact(hst.hs.old bl<|dN bl h4).1
    .exact .inr (Cc hst.hs.size h4)
  os:=Ij.wos.trans hst.hs.os
  tape:=Ij.tape.trans hst.hs.tape
  output:=Ij.output.trans hst.hs.output
  size:=Cc hst.hs.size Ij.size
  block:=λbl hlt hO=>by
   rw[Ij.block bl (H9 hlt hst.hs.size) λhm=> ?_]
   .exact hst.hs.block bl hlt hO
   .rcases(hst.hs.old bl<|dN bl hm).1 with h|h
    .exact hO h
    .omega
  z:=rfl
  zn:=λj p a' hj ha hz=>by
   obtain⟨_,_,j3⟩|⟨_,j3⟩:=Ve j p hj
   .have hm2:a'.block∈B0 os':=Gg.2 ⟨p,Cs j3,by simp[HU,ha]⟩;rcases(hbl a'.block<|Vd _ hm2).1 with h3|h3
    .rw[GL]at h3;obtain⟨i,hi,p2,a2,hp2,ha2,e2⟩:=NT h3;exact hst.hs.zn i p2 a2 hp2 ha2 (by rw[e2,hst.hs.z];exact hz)
    .have:=hst.hs.zl a'.block (by rw[hst.hs.z];exact hz);omega
   .exact hst.hs.zn j p a' (aj j p j3).1 ha (by rw[hst.hs.z];exact hz)
  zl:=λbl hz=>H9 (hst.hs.zl bl (by rw[hst.hs.z];exact hz)) Ij.size
  pk:=hst.hs.pk.trans Ij.pk }
 have oP:St B β3 stk { s2 with H:=Hf } a w':=by
  refine⟨λt=>RT.mono hkp<|h2.T t,⟨h2.stack.1,λi T tm k1 k2 t=>RT.mono hkp<|h2.stack.2 i T tm k1 k2 t⟩,h2.n,h2.defers,h2.pins,h2.gs,hHf⟩
 have Ep:({ s2 with H:=Hf } :S).has d=Y:=by
  have:({ s2 with H:=Hf } :S).has d=s.has d:=RR (HD.1.trans sG.1) (HD.2.1.trans sG.2.1) (HD.2.2.trans sG.2.2) d;rw[this];exact hd
 exact hK β3 (My vs) w'<|RI oP Ep<|aaO f1
end
end Go.VS
namespace Go.VS
open Go
section
variable {B:Be} {β β':Beta} {H:Hp} {w w':World} {stk:List (Array Value)} {s s':S} {a:Act} {P:Program} {C:Cx}
def oF(hΓ:∀f d m,C.Γ f d=I m->H4 P f m/\okQ P m=Y)(B:Be)(hB:B.P=P):Hn C B:=by
 intro f d m hm β stk s a w b as s' o ts K Q hst hfr hd he hod ho hK;obtain⟨h1,h2⟩:=hΓ f d m hm;rw[← hB]at h1 h2;exact axe h1 h2 hst hfr hd he hod ho hK
def aIH{c:AV}(h:plB c=Y):(∀g w v,c≠ .gd g w v)/\ ∀vs,c≠ .tup vs:=by
 constructor
 .rintro g w v rfl;cases h
 .rintro vs rfl;cases h
def aIs(hP:C.P=B.P)(hm:B.P.follows .mixedOrders=Y)(hC:Hn C B):∀n,JZ C B<|O0 C n
 | 0=>aHk C B
 | n+1=>by
  intro Ω f d as s k q he β stk a w o args ts K Q hst hfr hd hod has ho hK;have ih:=aIs hP hm hC n;unfold O0 at he;simp only at he;split at he
  .cases he
  rename_i fn hfn;split at he
  case h_2=>cases he
  rename_i body aEZ Ks;split at he
  case h_2=>cases he
  rename_i aEY;simp only[AD]at aEY;obtain⟨⟨hc1,hc2⟩,hc3⟩:=aEY;have hpl:∀c∈as,(∀g w v,c≠ .gd g w v)/\ ∀vs,c≠ .tup vs:=λc hc=>aIH<|CZ.1 hc3 c hc;have hlen:as.length<=fn.ntmps:=Dg hc2;rw[hP]at hfn;refine aH2 (Ow hfn (by simpa using Ks) aEZ) ho (R:=λen w'=>∃v,en= .returned v/\K (a.put o.dst v) w') ?_ (λen w' h=>h);refine calls_of_wp hfn aEZ ?_;have Gp:(args.map a.eval).length=as.length:=by rw[has];simp
  have alv:St B β (a.tmps::stk) { s with n:=fn.ntmps,T:=λt=>(as[t]?).getD Dv,st:=s.T::s.st,pins:=[],gs:=λ_=>A0 }
    { tmps:=(args.map a.eval).toArray++Rk (fn.ntmps - (args.map a.eval).toArray.size) undef,defers:=[] } w:=by
   refine⟨λt=> ?_,⟨by simp[hst.stack.1],λi T tm h1 h2 t=> ?_⟩, ?_,rfl,λt ht=>by simp at ht,λt g want y hy=> ?_,hst.hs⟩
   .rw[Tj];show RT w β _ ((as[t]?).getD Dv) _;cases hv:as[t]? with
    | none=>
     have:(args.map a.eval).length<=t:=by rw[Gp];exact bC.1 hv
     have e0:ar (args.map a.eval) t=undef:=by simp only[ar,BA,Hz this];rfl
     rw[e0];exact(show R2 w β Dv undef from rfl)
    | some c=>
     have hv':=hv;rw[has,DI]at hv';obtain⟨x,hx,rfl⟩:=DH.1 hv';have e0:ar (args.map a.eval) t=a.eval x:=by simp[ar,hx]
     rw[e0];have hp:=hpl _<|Cs hv;exact((hst.eval x).N3 hp.1 hp.2).au
   .cases i with
    | zero=>
     simp at h1 h2;subst h1;subst h2;exact hst.T t
    | succ i=>exact hst.stack.2 i T tm (by simpa using h1) (by simpa using h2) t
   .simp only[S2,Le,pT];omega
   .have hy:(as[t]?).getD Dv= .gd g want y:=hy;cases hv:as[t]? with
    | none=>rw[hv]at hy;cases hy
    | some c=>
     rw[hv]at hy;exact absurd hy<|(hpl c<|Cs hv).1 _ _ _
  have key:∀β' a' w' s',St B β' (a.tmps::stk) s' a' w'->Fr s'->(match s'.st,RG C.P s' fn.results.toList with
     | T::st,I vs=>match vs.all plB with
      | true=>k ({ s' with n:=s.n,T:=λt=>Q0<|T t,st:=st,pins:=s.pins,gs:=λ_=>A0 }.put d<|Mb vs)
      | false=>G
     | _,_=>G)=I q->a'.defers=[]/\ ∃v,(results fn a'.tmps).run B.P w'= .ok v w'/\ ∃v',Ending.returned v= .returned v'/\K (a.put o.dst v') w':=by
   intro β' a' w' s' h1 h2 h3;refine⟨h1.defers, ?_⟩;split at h3
   case h_2=>cases h3
   rename_i T st vs N4 hvs;split at h3
   case h_2=>cases h3
   rename_i EG;obtain⟨us,k1,k2,k3⟩:=Zs hP h1 fn.results.toList hvs;rw[hP]at k1;refine⟨My us,aE3 k1,My us,rfl, ?_⟩;rw[hod];have rl:RL (R1 w' β') vs us:=⟨k2,λj c u e1 e2=>by
    have hp:=aIH<|CZ.1 EG c<|Cs e1;exact(k3 j c u e1 e2).N3 hp.1 hp.2⟩
   have Re:=h1.stack;rw[N4]at Re;have hTt:∀t,RT w' β' (Bc a) (T t) (Bc a t):=λt=>Re.2 0 T a.tmps rfl rfl t;have alu:St B β' stk { s' with n:=s.n,T:=λt=>Q0<|T t,st:=st,pins:=s.pins,gs:=λ_=>A0 } a w':=by
    refine⟨λt=> ?_,⟨by simpa using Re.1,λi T' tm e1 e2 t=>Re.2 (i+1) T' tm (by simpa using e1) (by simpa using e2) t⟩,hst.n,hst.defers,hst.pins,λt g want y hy=> ?_,h1.hs⟩
    .have:=hTt t;show RT w' β' _ (Q0<|T t) _;cases hT:T t<;>rw[hT]at this<;>first|exact this|trivial
    .have hy:Q0 (T t)= .gd g want y:=hy;unfold Q0 at hy;split at hy
     .cases hy
     .rename_i hn;exact absurd hy<|hn _ _ _
   have Ep:({ s' with n:=s.n,T:=λt=>Q0<|T t,st:=st,pins:=s.pins,gs:=λ_=>A0 } :S).has d=Y:=by
    cases d with
    | none=>rfl
    | some d=>
     simp only[S.has,AD,Bz]at hd ⊢;exact⟨hd.1,trivial⟩
   refine hK β' (My us) w' _ (RI alu Ep<|aaO rl) (λj hj=> ?_) ?_ ?_ h3
   .have hj:s'.nid<=j:=by cases d<;>exact hj
    have:=h2 j hj;cases d<;>exact this
   .cases d<;>rfl
   .cases d<;>rfl
  refine ZQ hP hm hC ih body .nil _ _ q he alv hfr (GQ _ body) ⟨?_, ?_, ?_⟩
  .exact λβ' a' w' s' h1 h2 _ _ h5=>key β' a' w' s' h1 h2 h5
  .exact λβ' a' w' s' h1 h2 _ _ h5=>key β' a' w' s' h1 h2 h5
  .intro id β' a' w' s' h1 h2 h3 h4 h5;cases h5
end
def Bk{A R:Type}(t:(A->Option R)->A->Option R):Nat->A->Option R
 | 0=>λ_=>G
 | n+1=>t (Bk t n)
open Classical in
def OA {A R:Type} (t:(A->Option R)->A->Option R) (x:A):Option R:=
 if h:∃n r,Bk t n x=I r then I (Nt<|J9 h) else G
def aGl{A R:Type}{t:(A->Option R)->A->Option R}{x:A}{r:R}(h:OA t x=I r):∃n,Bk t n x=I r:=by
 unfold OA at h;split at h
 .rename_i hn;have:=J9<|J9 hn;cases h;exact⟨_,this⟩
 .cases h
def ate{P:Program}{f:FuncId}{ps rs:List Sh}{t:(LTs ps->Option (LTs rs×LTs (B3 ps)))->LTs ps->Option (LTs rs×LTs (B3 ps))}(he:Ma P f)
  (h:∀g,H4 P f ⟨ps,rs,g⟩->H4 P f ⟨ps,rs,t g⟩):H4 P f ⟨ps,rs,OA t⟩:=by
 have hn:∀n,H4 P f ⟨ps,rs,Bk t n⟩:=by
  intro n
  induction n with
  | zero=>exact⟨he,λx r hx=>by cases hx⟩
  | succ n ih=>exact h _ ih
 refine⟨he,λx r hx=> ?_⟩;obtain⟨n,hx⟩:=aGl hx;intro w Z args os h1 h2 h3 h4 h5;exact Ms ((hn n).2 x r hx w Z args os h1 h2 h3 h4 h5) λen w' ⟨v,e,hr⟩=>⟨v,e,⟨hr.ex,hr.wos,hr.tape,hr.output,hr.size,hr.block,hr.pk⟩⟩
end Go.VS
namespace Go.VS
open Go
def gam:List (Nat×Option Nat×Db)->Nat->Option Nat->Option Db
 | [],_,_=>G
 | (f,e,m)::l,g,d=>match Ai f g&&(match e,d with
   | none,_=>Y
   | some a,I b=>Ai a b
   | some _,G=>A0) with
  | true=>I m
  | false=>gam l g d
def SF(P:Program)(l:List (Nat×Option Nat×Db)):Prop:=∀e∈l,H4 P e.1 e.2.2/\okQ P e.2.2=Y
def AI{P:Program}:SF P []:=λe h=>by cases h
def rJ{P:Program}{l:List (Nat×Option Nat×Db)}(h:SF P l):∀f d m,gam l f d=I m->H4 P f m/\okQ P m=Y:=by
 induction l with
 | nil=>intro f d m hm;cases hm
 | cons e l ih=>
  obtain⟨g,e,m'⟩:=e;intro f d m hm;unfold gam at hm;split at hm
  .rename_i hc;simp only[AD]at hc;cases hm;obtain rfl:=Bo hc.1;exact h _ As
  .exact ih (λe he=>h e<|Ak _ he) f d m hm
def G9:Code->Adv->List (Code×Loop)
 | .seq a b,.join _ u v=>G9 a u++G9 b v
 | .seq a b,.two u v=>G9 a u++G9 b v
 | .seq a _,.one u=>G9 a u
 | .cond _ x _,.one u=>G9 x u
 | .cond _ x y,.two u v=>G9 x u++G9 y v
 | .cond _ x y,.join _ u v=>G9 x u++G9 y v
 | .block _ c,.one u=>G9 c u
 | .block _ c,.two u _=>G9 c u
 | .block _ c,.join _ u _=>G9 c u
 | .loop c,.loop l=>[(c,l)]
 | _,_=>[]
def Ip{L:Code->Loop->Prop}:∀(c:Code) (v:Adv),(∀p∈G9 c v,L p.1 p.2)->Hw L c v
 | .seq a b,.join _ u v,h=>⟨Ip a u λp hp=>h p<|Bw _ hp,Ip b v λp hp=>h p<|CR _ hp⟩
 | .seq a b,.two u v,h=>⟨Ip a u λp hp=>h p<|Bw _ hp,Ip b v λp hp=>h p<|CR _ hp⟩
 | .seq a b,.one u,h=>⟨Ip a u h,GQ L b⟩
 | .seq a b,.nil,_=>⟨GQ L a,GQ L b⟩
 | .seq a b,.loop _,_=>⟨GQ L a,GQ L b⟩
 | .cond _ x y,.one u,h=>⟨Ip x u h,GQ L y⟩
 | .cond _ x y,.two u v,h=>⟨Ip x u λp hp=>h p<|Bw _ hp,Ip y v λp hp=>h p<|CR _ hp⟩
 | .cond _ x y,.join _ u v,h=>⟨Ip x u λp hp=>h p<|Bw _ hp,Ip y v λp hp=>h p<|CR _ hp⟩
 | .cond _ x y,.nil,_=>⟨GQ L x,GQ L y⟩
 | .cond _ x y,.loop _,_=>⟨GQ L x,GQ L y⟩
 | .block _ c,.one u,h=>Ip c u h
 | .block _ c,.two u _,h=>Ip c u h
 | .block _ c,.join _ u _,h=>Ip c u h
 | .block _ c,.nil,_=>GQ L c
 | .block _ c,.loop _,_=>GQ L c
 | .loop c,.loop l,h=>h (c,l) (by simp[G9])
 | .loop _,.nil,_=>trivial
 | .loop _,.one _,_=>trivial
 | .loop _,.two _ _,_=>trivial
 | .loop _,.join _ _ _,_=>trivial
 | .skip,_,_=>trivial
 | .region _ _ _,_,_=>trivial
 | .exit _,_,_=>trivial
 | .ret,_,_=>trivial
 | .rangeFunc _ _ _ _,_,_=>trivial
 | .scope _,_,_=>trivial
 | .label _,_,_=>trivial
 | .goto _,_,_=>trivial
 | .refuse _,_,_=>trivial
def VW(L:Code->Loop->Prop)(l:List (Code×Loop)):Prop:=∀p∈l,L p.1 p.2
def aIT{L:Code->Loop->Prop}{c:Code}{v:Adv}{l:List (Code×Loop)}(h:G9 c v=l)(hl:VW L l):Hw L c v:=Ip c v (by rw[h];exact hl)
def azD{L:Code->Loop->Prop}:VW L []:=λp h=>by cases h
def azE{L:Code->Loop->Prop}{c:Code}{v:Loop}{l:List (Code×Loop)}(h:L c v)(hl:VW L l):VW L ((c,v)::l):=λp hp=>by
 obtain rfl|hp:=Bm.1 hp
 .exact h
 .exact hl p hp
abbrev Ent:=Nat×Option Nat×Db
def SQ(P:Program)(e:Ent):Prop:=H4 P e.1 e.2.2/\okQ P e.2.2=Y
def gC{P:Program}{e:Ent}{l:List Ent}(h:SQ P e)(hl:SF P l):SF P (e::l):=λx hx=>by
 obtain rfl|hx:=Bm.1 hx
 .exact h
 .exact hl x hx
def inR:List (Nat×Nat)->Nat->Bool
 | [],_=>A0
 | (a,b)::l,n=>match E7 a n&&E7 n b with
  | true=>Y
  | false=>inR l n
structure OKC (P:Program) (C:Cx) (inl:(Ω:Type)->Inl Ω):Prop where
 p:C.P=P
 m:P.follows .mixedOrders=Y
 c:∀B:Be,B.P=P->Hn C B
 i:∀B:Be,B.P=P->JZ C B inl
def okc{P:Program}{kd:TypeId->Option K}{l:List Ent}{cz sp:Nat->Bool}(hm:P.follows .mixedOrders=Y)(h:SF P l):OKC P ⟨P,kd,gam l,cz,sp⟩ AF:=
 ⟨rfl,hm,λB hB=>oF (C:=⟨P,kd,gam l,cz,sp⟩) (rJ h) B hB,λB _=>aHk _ B⟩
def abP{P:Program}{kd:TypeId->Option K}{l:List Ent}{cz sp:Nat->Bool}(n:Nat)(hm:P.follows .mixedOrders=Y)(h:SF P l):OKC P ⟨P,kd,gam l,cz,sp⟩ (O0 ⟨P,kd,gam l,cz,sp⟩ n):=
 ⟨rfl,hm,λB hB=>oF (C:=⟨P,kd,gam l,cz,sp⟩) (rJ h) B hB,λB hB=>aIs (C:=⟨P,kd,gam l,cz,sp⟩) (B:=B) hB.symm (by rw[hB];exact hm) (oF (C:=⟨P,kd,gam l,cz,sp⟩) (rJ h) B hB) n⟩
def LpK(P:Program)(n:Nat)(pins:List Nat)(ls:List (Code×Loop)):Prop:=∀B:Be,B.P=P->VW (Na B n pins) ls
def kN{P:Program}{n:Nat}{pins:List Nat}:LpK P n pins []:=λ_ _=>azD
def kC{P:Program}{n:Nat}{pins:List Nat}{c:Code}{l:Loop}{ls:List (Code×Loop)}(h:LpK P n pins [(c,l)])(hl:LpK P n pins ls):LpK P n pins ((c,l)::ls):=λB hB=>azE (h B hB (c,l) As)<|hl B hB
def lk{P:Program}{C:Cx}{inl:(Ω:Type)->Inl Ω}(hC:OKC P C inl){n:Nat}{pins:List Nat}{body:Code}{v:Adv}{l:Loop}{b:Lv l.sch->Option (Lv l.sch ⊕ (Lv l.L4 ⊕ Lv l.L5))}{ls:List (Code×Loop)}
  (hb:∀x,evL C inl n pins body v l x=b x)(hr:l.run=AS b)(h:G9 body v=ls)(hl:LpK P n pins ls):LpK P n pins [(body,l)]:=λB hB p hp=>by
 obtain rfl:=C8.1 hp;exact ax0 (hC.p.trans hB.symm) (by rw[hB];exact hC.m) (hC.c B hB) (hC.i B hB) hb hr<|aIT h<|hl B hB
def fnB(P:Program)(f:Nat)(fn:Func)(m:Db):Option Func×Bool×Bool×Bool:=(P.funcs[f]?, fn.name == "runtime.NumGoroutine",okM m fn.ntmps,okQ P m)
def so{P:Program}{C:Cx}{inl:(Ω:Type)->Inl Ω}{f:Nat}{d:Option Nat}{fn:Func}{m:Db}{v:Adv}{ls:List (Code×Loop)}(hC:OKC P C inl)
  (hf:fnB P f fn m=(I fn,A0,Y,Y))(hb:fn.body=I (LZ fn))(h:G9 (LZ fn) v=ls)(hl:LpK P fn.ntmps (EA 0 m.ps) ls)(hg:∀x,cw C inl fn v m x=m.g x):SQ P (f,d,m):=by
 simp only[fnB,CV]at hf;exact⟨avJ hC.p hC.m hC.c hC.i hf.1 hf.2.1 hb hf.2.2.1 (λB hB=>aIT h<|hl B hB) hg,hf.2.2.2⟩
def soR{P:Program}{f:Nat}{d:Option Nat}{ps rs:List Sh}{t:(LTs ps->Option (LTs rs×LTs (B3 ps)))->LTs ps->Option (LTs rs×LTs (B3 ps))}(he:Ma P f)
  (hq:∀g,okQ P ⟨ps,rs,g⟩=Y)(h:∀g,SQ P (f,d,⟨ps,rs,g⟩)->SQ P (f,d,⟨ps,rs,t g⟩)):SQ P (f,d,⟨ps,rs,OA t⟩):=
 ⟨ate he λg hg=>(h g ⟨hg,hq g⟩).1,hq _⟩
def Mz(a b c d:Int)(e:A1)(a' b' c' d':Int)(e':A1):Bool:=U (a=a')&&(U (b=b')&&(U (c=c')&&(U (d=d')&&(U (e=e')&&Y))))
end Go.VS
end
noncomputable section
namespace Go.VS
open Go
inductive CT where
 | int (k:IntKind)
 | bool
 | str
 | sl (k:K)
def kct:K->List CT
 | .int=>[.int .i64]
 | .bool=>[.bool]
 | .u8=>[.int .u8]
 | .str=>[.str]
 | .note=>[.int .i64,.int .i64,.int .i64,.int .i64,.str]
 | .mark=>[.int .i64,.int .i64,.int .i64]
 | .mixed=>[.int .i64,.str]
 | .half=>[.int .i64,.int .i64,.int .i64,.int .i64,.int .i64,.sl .mixed]
 | .keep=>[.int .i64,.int .i64,.int .i64,.sl .note,.sl .mark,.sl .note]
 | .AK=>[.int .i64,.bool,.str,.int .i64,.sl .half]
 | .Ah=>[.int .i64,.int .i64,.str,.bool]
 | .frame=>[.int .i64,.int .i64,.int .i64,.int .i64,.int .i64,.int .i64,.int .i64,.int .i64,.int .i64,.str]
 | .CM=>[.int .i64,.int .i64,.int .i64,.int .i64,.int .i64,.int .i64,.int .i64,.int .i64,.int .i64,.str]
 | .lk=>[.str,.int .i64,.str]
mutual
def cN (P:Program):Nat->TypeId->Option (List TypeId)
 | 0,_=>G
 | n+1,t=>match P.underlying t with
  | some (.struct fs)=>(cO P n 0 fs.toList).bind λts=>match Ai ts.length (P.cellsOf t) with
   | true=>I ts
   | false=>G
  | some (.int _)=>I [t]
  | some .bool=>I [t]
  | some .string=>I [t]
  | some (.slice _)=>I [t]
  | _=>G
def cO (P:Program):Nat->Nat->List Field->Option (List TypeId)
 | _,_,[]=>I []
 | 0,_,_::_=>G
 | n+1,o,f::fs=>(cN P n f.type).bind λts=>match Ai f.offset o&&Ai (P.cellsOf f.type) ts.length with
  | true=>(cO P n (o+ts.length) fs).bind λus=>I<|ts++us
  | false=>G
end
mutual
def VB (P:Program):Nat->TypeId->CT->Bool
 | 0,_,_=>A0
 | n+1,t,c=>match P.underlying t,c with
  | some (.int k),.int k'=>U (k=k')
  | some .bool,.bool=>Y
  | some .string,.str=>Y
  | some (.slice e),.sl k=>Ai (P.cellsOf e) (ks k)&&c9 P n e k
  | _,_=>A0
def c9 (P:Program):Nat->TypeId->K->Bool
 | 0,_,_=>A0
 | n+1,e,k=>match cN P 16 e with
  | some ts=>PC P n ts (kct k)
  | none=>A0
def PC (P:Program):Nat->List TypeId->List CT->Bool
 | _,[],[]=>Y
 | n+1,t::ts,c::cs=>VB P n t c&&PC P n ts cs
 | _,_,_=>A0
end
def wfI(n:Int):Prop:=(Nu .i64 n).wf=Y
def wfY(n:Int):Prop:=(Nu .u8 n).wf=Y
def wfS(s:A1):Prop:=s.size<=maxLen
def wfL{α:Type}(p:α->Prop)(l:List α):Prop:=l.length<=maxLen/\ ∀x∈l,p x
def rH(n:A3):Prop:=wfI n.fr/\wfI n.nu/\wfI n.to/\wfI n.un/\wfS n.tx
def aaL(n:Mark):Prop:=wfI n.mf/\wfI n.mn/\wfI n.mu
def aIv(n:AT):Prop:=wfI n.nu/\wfS n.da
def aaM(n:AG):Prop:=wfI n.fr/\wfI n.nu/\wfI n.to/\wfI n.un/\wfI n.sz/\wfL aIv n.got
def aye(n:AE):Prop:=wfI n.id/\wfI n.ti/\wfI n.nx/\wfL rH n.held/\wfL aaL n.marks/\wfL rH n.inbox
def atr(n:A7):Prop:=wfI n.id/\wfS n.log/\wfI n.fo/\wfL aaM n.AJ
def atq(n:AL):Prop:=wfI n.src/\wfI n.dst/\wfS n.data
def aw9(n:Frame):Prop:=wfI n.ki/\wfI n.src/\wfI n.dst/\wfI n.fr/\wfI n.nu/\wfI n.to/\wfI n.un/\wfI n.sz/\wfI n.mix/\wfS n.da
def awA(n:Event):Prop:=wfI n.ki/\wfI n.at_/\wfI n.fr/\wfI n.nu/\wfI n.wo/\wfI n.mix/\wfI n.kp/\wfI n.to/\wfI n.un/\wfS n.tx
def az3(n:LK):Prop:=wfS n.wo/\wfI n.ki/\wfS n.fi
def wfK:(k:K)->Tof k->Prop
 | .int=>wfI
 | .bool=>λ_=>True
 | .u8=>wfY
 | .str=>wfS
 | .note=>rH
 | .mark=>aaL
 | .mixed=>aIv
 | .half=>aaM
 | .keep=>aye
 | .AK=>atr
 | .Ah=>atq
 | .frame=>aw9
 | .CM=>awA
 | .lk=>az3
def sC(w:World):CT->Value->Prop
 | .int k,c=>∃n,c= .int k n/\(Nu k n).wf=Y
 | .bool,c=>∃b,c= .bool b
 | .str,c=>∃s,c= .string s/\wfS s
 | .sl k,c=>∃xs:List (Tof k),wfL (wfK k) xs/\ ∀β:Beta,(∀b,¬MZ β b)->RC w β (.sl k xs) c
inductive Vj (w:World):List CT->List Value->Prop
 | nil:Vj w [] []
 | cons {t:CT} {c:Value} {ts:List CT} {cs:List Value} (h:sC w t c) (hs:Vj w ts cs):Vj w (t::ts) (c::cs)
section
variable {w:World}
def RL.Ih{R:AV->Value->Prop}{c:AV}{v:Value}(h:R c v):RL R [c] [v]:= .cons h .nil
def axw{k:K}{cs:List Value}(h:Vj w (kct k) cs):∃x:Tof k,wfK k x/\ ∀β:Beta,(∀b,¬MZ β b)->RL (RC w β) (enc k x) cs:=by
 have L:∀ {β:Beta} {v:Value},v.oneCell'=Y->RC w β (.lit v) v:=λh=> .lit h;cases k with
 | int=>
  obtain⟨⟩|⟨⟨a,rfl,ha⟩,h⟩:=h;cases h;exact⟨a,ha,λβ _=> .Ih<|L rfl⟩
 | bool=>
  obtain⟨⟩|⟨⟨a,rfl⟩,h⟩:=h;cases h;exact⟨a,trivial,λβ _=> .Ih<|L rfl⟩
 | u8=>
  obtain⟨⟩|⟨⟨a,rfl,ha⟩,h⟩:=h;cases h;exact⟨a,ha,λβ _=> .Ih<|L rfl⟩
 | str=>
  obtain⟨⟩|⟨⟨a,rfl,ha⟩,h⟩:=h;cases h;exact⟨a,ha,λβ _=> .Ih<|L rfl⟩
 | note=>
  obtain⟨⟩|⟨⟨a,rfl,ha⟩,h⟩:=h;obtain⟨⟩|⟨⟨b,rfl,hb⟩,h⟩:=h;obtain⟨⟩|⟨⟨c,rfl,hc⟩,h⟩:=h;obtain⟨⟩|⟨⟨d,rfl,hd⟩,h⟩:=h;obtain⟨⟩|⟨⟨e,rfl,he⟩,h⟩:=h;cases h;exact⟨(⟨a,b,c,d,e⟩:A3),⟨ha,hb,hc,hd,he⟩,λβ _=> .cons (L rfl)<|.cons (L rfl)<|.cons (L rfl)<|.cons (L rfl)<|.Ih<|L rfl⟩
 | mark=>
  obtain⟨⟩|⟨⟨a,rfl,ha⟩,h⟩:=h;obtain⟨⟩|⟨⟨b,rfl,hb⟩,h⟩:=h;obtain⟨⟩|⟨⟨c,rfl,hc⟩,h⟩:=h;cases h;exact⟨(⟨a,b,c⟩:Mark),⟨ha,hb,hc⟩,λβ _=> .cons (L rfl)<|.cons (L rfl)<|.Ih<|L rfl⟩
 | mixed=>
  obtain⟨⟩|⟨⟨a,rfl,ha⟩,h⟩:=h;obtain⟨⟩|⟨⟨b,rfl,hb⟩,h⟩:=h;cases h;exact⟨(⟨a,b⟩:AT),⟨ha,hb⟩,λβ _=> .cons (L rfl)<|.Ih<|L rfl⟩
 | half=>
  obtain⟨⟩|⟨⟨a,rfl,ha⟩,h⟩:=h;obtain⟨⟩|⟨⟨b,rfl,hb⟩,h⟩:=h;obtain⟨⟩|⟨⟨c,rfl,hc⟩,h⟩:=h;obtain⟨⟩|⟨⟨d,rfl,hd⟩,h⟩:=h;obtain⟨⟩|⟨⟨e,rfl,he⟩,h⟩:=h;obtain⟨⟩|⟨⟨xs,hx,hr⟩,h⟩:=h;cases h;exact⟨(⟨a,b,c,d,e,xs⟩:AG),⟨ha,hb,hc,hd,he,hx⟩,λβ hβ=> .cons (L rfl)<|.cons (L rfl)<|.cons (L rfl)<|.cons (L rfl)<|.cons (L rfl)<|.Ih<|hr β hβ⟩
 | keep=>
  obtain⟨⟩|⟨⟨a,rfl,ha⟩,h⟩:=h;obtain⟨⟩|⟨⟨b,rfl,hb⟩,h⟩:=h;obtain⟨⟩|⟨⟨c,rfl,hc⟩,h⟩:=h;obtain⟨⟩|⟨⟨xs,hx,hrx⟩,h⟩:=h;obtain⟨⟩|⟨⟨ys,hy,hry⟩,h⟩:=h;obtain⟨⟩|⟨⟨zs,hz,hrz⟩,h⟩:=h;cases h;exact⟨(⟨a,b,c,xs,ys,zs⟩:AE),⟨ha,hb,hc,hx,hy,hz⟩,λβ hβ=> .cons (L rfl)<|.cons (L rfl)<|.cons (L rfl)<|.cons (hrx β hβ)<|.cons (hry β hβ)<|.Ih<|hrz β hβ⟩
 | AK=>
  obtain⟨⟩|⟨⟨a,rfl,ha⟩,h⟩:=h;obtain⟨⟩|⟨⟨b,rfl⟩,h⟩:=h;obtain⟨⟩|⟨⟨c,rfl,hc⟩,h⟩:=h;obtain⟨⟩|⟨⟨d,rfl,hd⟩,h⟩:=h;obtain⟨⟩|⟨⟨xs,hx,hr⟩,h⟩:=h;cases h;exact⟨(⟨a,b,c,d,xs⟩:A7),⟨ha,hc,hd,hx⟩,λβ hβ=> .cons (L rfl)<|.cons (L rfl)<|.cons (L rfl)<|.cons (L rfl)<|.Ih<|hr β hβ⟩
 | Ah=>
  obtain⟨⟩|⟨⟨a,rfl,ha⟩,h⟩:=h;obtain⟨⟩|⟨⟨b,rfl,hb⟩,h⟩:=h;obtain⟨⟩|⟨⟨c,rfl,hc⟩,h⟩:=h;obtain⟨⟩|⟨⟨d,rfl⟩,h⟩:=h;cases h;exact⟨(⟨a,b,c,d⟩:AL),⟨ha,hb,hc⟩,λβ _=> .cons (L rfl)<|.cons (L rfl)<|.cons (L rfl)<|.Ih<|L rfl⟩
 | frame=>
  obtain⟨⟩|⟨⟨a,rfl,ha⟩,h⟩:=h;obtain⟨⟩|⟨⟨b,rfl,hb⟩,h⟩:=h;obtain⟨⟩|⟨⟨c,rfl,hc⟩,h⟩:=h;obtain⟨⟩|⟨⟨d,rfl,hd⟩,h⟩:=h;obtain⟨⟩|⟨⟨e,rfl,he⟩,h⟩:=h;obtain⟨⟩|⟨⟨f,rfl,hf⟩,h⟩:=h;obtain⟨⟩|⟨⟨g,rfl,hg⟩,h⟩:=h;obtain⟨⟩|⟨⟨i,rfl,hi⟩,h⟩:=h;obtain⟨⟩|⟨⟨j,rfl,hj⟩,h⟩:=h;obtain⟨⟩|⟨⟨s,rfl,hs⟩,h⟩:=h;cases h;exact⟨(⟨a,b,c,d,e,f,g,i,j,s⟩:Frame),⟨ha,hb,hc,hd,he,hf,hg,hi,hj,hs⟩,λβ _=> .cons (L rfl)<|.cons (L rfl)<|.cons (L rfl)<|.cons (L rfl)<|.cons (L rfl)<|.cons (L rfl)<|.cons (L rfl)<|.cons (L rfl)<|.cons (L rfl)<|.Ih<|L rfl⟩
 | CM=>
  obtain⟨⟩|⟨⟨a,rfl,ha⟩,h⟩:=h;obtain⟨⟩|⟨⟨b,rfl,hb⟩,h⟩:=h;obtain⟨⟩|⟨⟨c,rfl,hc⟩,h⟩:=h;obtain⟨⟩|⟨⟨d,rfl,hd⟩,h⟩:=h;obtain⟨⟩|⟨⟨e,rfl,he⟩,h⟩:=h;obtain⟨⟩|⟨⟨f,rfl,hf⟩,h⟩:=h;obtain⟨⟩|⟨⟨g,rfl,hg⟩,h⟩:=h;obtain⟨⟩|⟨⟨i,rfl,hi⟩,h⟩:=h;obtain⟨⟩|⟨⟨j,rfl,hj⟩,h⟩:=h;obtain⟨⟩|⟨⟨s,rfl,hs⟩,h⟩:=h;cases h;exact⟨(⟨a,b,c,d,e,f,g,i,j,s⟩:Event),⟨ha,hb,hc,hd,he,hf,hg,hi,hj,hs⟩,λβ _=> .cons (L rfl)<|.cons (L rfl)<|.cons (L rfl)<|.cons (L rfl)<|.cons (L rfl)<|.cons (L rfl)<|.cons (L rfl)<|.cons (L rfl)<|.cons (L rfl)<|.Ih<|L rfl⟩
 | lk=>
  obtain⟨⟩|⟨⟨a,rfl,ha⟩,h⟩:=h;obtain⟨⟩|⟨⟨b,rfl,hb⟩,h⟩:=h;obtain⟨⟩|⟨⟨c,rfl,hc⟩,h⟩:=h;cases h;exact⟨(⟨a,b,c⟩:LK),⟨ha,hb,hc⟩,λβ _=> .cons (L rfl)<|.cons (L rfl)<|.Ih<|L rfl⟩
end
end Go.VS
namespace Go.VS
open Go
section
variable {H:Type} {Ex:TypeId×Value->H} {P:Program} {w:World} {base:Nat} {spare:Nat->Bool} {held:Bool}
def Cells(Ex:TypeId×Value->H)(P:Program)(w:World)(base:Nat)(spare:Nat->Bool)(held:Bool):List TypeId->List Value->Prop
 | [],[]=>True
 | t::ts,c::cs=>(∃Bk d ps,HA Ex P w base spare held Bk t [c]=I (d,ps))/\Cells Ex P w base spare held ts cs
 | _,_=>False
def Cells.append:∀ {ts us:List TypeId} {cs ds:List Value},Cells Ex P w base spare held ts cs->Cells Ex P w base spare held us ds->Cells Ex P w base spare held (ts++us) (cs++ds)
 | [],_,[],_,_,h=>h
 | t::ts,_,c::cs,_,h,k=>⟨h.1,Cells.append h.2 k⟩
 | [],_,_::_,_,h,_=>h.elim
 | _::_,_,[],_,h,_=>h.elim
def ZK{α β:Type}{f:α->Option β}:∀ {l:List α} {r:List β},l.mapM f=I r->∀x∈l,∃y,f x=I y
 | [],_,_,_,hx=>by cases hx
 | a::l,r,h,x,hx=>by
  rw[Uq]at h;obtain⟨y,h1,h⟩:=Aj.1 h;obtain⟨ys,h2,h⟩:=Aj.1 h;obtain rfl|hx:=Bm.1 hx
  .exact⟨y,h1⟩
  .exact ZK h2 x hx
def aFb{Bk:Nat}{t:TypeId}{k:IntKind}{cs:List Value}{r:DataW H×List MemPlace}(ht:P.underlying t=I (.int k))(h:HA Ex P w base spare held Bk t cs=I r):∃n,cs=[.int k n]/\(Nu k n).wf=Y:=by
 cases Bk with
 | zero=>cases h
 | succ Bk=>
  unfold HA at h;rw[ht]at h;split at h<;>first|(cases h;done)|skip
  all_goals (rename_i heq;cases heq)
  rename_i k' n;split at h
  .rename_i hc;obtain⟨rfl,hw⟩:=hc;exact⟨_,rfl,hw⟩
  .cases h
def aE1{Bk:Nat}{t:TypeId}{cs:List Value}{r:DataW H×List MemPlace}(ht:P.underlying t=I .bool)(h:HA Ex P w base spare held Bk t cs=I r):∃b,cs=[.bool b]:=by
 cases Bk with
 | zero=>cases h
 | succ Bk=>
  unfold HA at h;rw[ht]at h;split at h<;>first|(cases h;done)|skip
  all_goals (rename_i heq;cases heq)
  exact⟨_,rfl⟩
def aD8{Bk:Nat}{t:TypeId}{cs:List Value}{r:DataW H×List MemPlace}(ht:P.underlying t=I .string)(h:HA Ex P w base spare held Bk t cs=I r):∃s,cs=[.string s]/\wfS s:=by
 cases Bk with
 | zero=>cases h
 | succ Bk=>
  unfold HA at h;rw[ht]at h;split at h<;>first|(cases h;done)|skip
  all_goals (rename_i heq;cases heq)
  split at h
  .rename_i hc;exact⟨_,rfl,hc⟩
  .cases h
def aDZ{Bk:Nat}{t e:TypeId}{cs:List Value}{r:DataW H×List MemPlace}(ht:P.underlying t=I (.slice e))(h:HA Ex P w base spare held Bk t cs=I r):
  cs=[.slice G 0 0]\/ ∃a len cap,cs=[.slice (I a) len cap]/\len<=cap/\cap<=maxLen/\ ∀i,i<len->∃es Vg r',w.cells? base (a.add<|i * P.cellsOf e) (P.cellsOf e)=I es/\HA Ex P w base spare held Vg e es=I r':=by
 cases Bk with
 | zero=>cases h
 | succ Bk=>
  unfold HA at h;rw[ht]at h;split at h<;>first|(cases h;done)|skip
  all_goals (rename_i heq;cases heq)
  .exact .inl rfl
  .rename_i a len cap;refine .inr ⟨a,len,cap,rfl, ?_⟩;simp only at h;split at h
   .rename_i hc;refine⟨hc.2.1,hc.2.2,λi hi=> ?_⟩;obtain⟨azt,h1,_⟩:=Aj.1 h;obtain⟨y,hy⟩:=ZK h1 i<|D4.2 hi;obtain⟨es,k1,k2⟩:=Aj.1 hy;exact⟨es,Bk,y,k1,k2⟩
   .cases h
def apP{Bk:Nat}{t:TypeId}{fs:Array Field}{cs:List Value}{r:DataW H×List MemPlace}(ht:P.underlying t=I (.struct fs))(h:HA Ex P w base spare held Bk t cs=I r):
  cs.length=P.cellsOf t/\ ∀f∈fs.toList,∃Vg r',HA Ex P w base spare held Vg f.type ((cs.drop f.offset).take<|P.cellsOf f.type)=I r':=by
 cases Bk with
 | zero=>cases h
 | succ Bk=>
  simp only[HA,ht]at h;split at h
  .rename_i hc;obtain⟨xs,h1,_⟩:=DH.1 h;refine⟨hc,λf hf=> ?_⟩;obtain⟨y,hy⟩:=ZK h1 f hf;exact⟨Bk,y,hy⟩
  .cases h
mutual
theorem aEB:∀(n:Nat) (t:TypeId) {ts:List TypeId} {Bk:Nat} {cs:List Value} {r:DataW H×List MemPlace},cN P n t=I ts->HA Ex P w base spare held Bk t cs=I r->Cells Ex P w base spare held ts cs
 | 0,_,_,_,_,_,h,_=>by cases h
 | n+1,t,ts,Bk,cs,r,h,hr=>by
  unfold cN at h;split at h
  .rename_i fs ht;obtain⟨us,h1,h⟩:=Aj.1 h;split at h
   case h_2=>cases h
   rename_i hl;cases h;obtain⟨k1,k2⟩:=apP ht hr;have hl:=Bo hl;have:=aDj n 0 fs.toList h1 (cs:=cs) (by simp[k1,hl]) (λf hf=>k2 f hf);simpa using this
  .rename_i k ht;cases h;obtain⟨x,rfl,_⟩:=aFb ht hr;exact⟨⟨_,r.1,r.2,hr⟩,trivial⟩
  .rename_i ht;cases h;obtain⟨x,rfl⟩:=aE1 ht hr;exact⟨⟨_,r.1,r.2,hr⟩,trivial⟩
  .rename_i ht;cases h;obtain⟨x,rfl,_⟩:=aD8 ht hr;exact⟨⟨_,r.1,r.2,hr⟩,trivial⟩
  .rename_i e ht;cases h;obtain rfl|⟨a,len,cap,rfl,_⟩:=aDZ ht hr
   .exact⟨⟨_,r.1,r.2,hr⟩,trivial⟩
   .exact⟨⟨_,r.1,r.2,hr⟩,trivial⟩
  .cases h
theorem aDj:∀(n o:Nat) (fs:List Field) {ts:List TypeId} {cs:List Value},cO P n o fs=I ts->cs.length=o+ts.length->(∀f∈fs,∃Bk r,HA Ex P w base spare held Bk f.type ((cs.drop f.offset).take<|P.cellsOf f.type)=I r)->
  Cells Ex P w base spare held ts (cs.drop o)
 | n,o,[],ts,cs,h,hl,_=>by
  have h:I []=I ts:=by cases n<;>exact h
  cases h;have:cs.drop o=[]:=Mq (by simp at hl;omega);rw[this];trivial
 | 0,_,_::_,_,_,h,_,_=>by cases h
 | n+1,o,f::fs,ts,cs,h,hl,hf=>by
  unfold cO at h;obtain⟨us,h1,h⟩:=Aj.1 h;split at h
  case h_2=>cases h
  rename_i hc;simp only[AD]at hc;obtain⟨vs,h2,h⟩:=Aj.1 h;cases h;obtain⟨Bk,r,hr⟩:=hf f As;rw[Bo hc.1,Bo hc.2]at hr;have k1:=aEB n f.type h1 hr;have k2:=aDj n (o+us.length) fs h2 (cs:=cs) (by simp at hl ⊢; omega) (λg hg=>hf g<|Ak _ hg);have e:cs.drop o=(cs.drop o).take us.length++cs.drop (o+us.length):=by
   rw[← J5];exact(JA _ _).symm
  rw[e];exact k1.append k2
end
def aIU(b f n:Nat):(⟨b,f,G⟩:Addr).add n=⟨b,f+n,G⟩:=by
 unfold Addr.add;split
 .rename_i h;subst h;rfl
 .rfl
def awJ{b f n:Nat}{es:List Value}(h:w.cells? base ⟨b,f,G⟩ n=I es):es.length=n/\ ∀j,j<n->w.cell? ⟨b,f+j,G⟩=I (es.getD j undef):=by
 unfold World.cells? at h;split at h
 case isFalse=>cases h
 have gen:∀(l:List Nat) {es:List Value},l.mapM (λi=>w.cell?<|(⟨b,f,G⟩:Addr).add i)=I es->es.length=l.length/\ ∀j x,l[j]? =I x->w.cell? ⟨b,f+x,G⟩=I (es.getD j undef):=by
  intro l
  induction l with
  | nil=>intro es h;cases h;exact⟨rfl,λj x hx=>by simp at hx⟩
  | cons a l ih=>
   intro es h;rw[Uq]at h;obtain⟨y,h1,h⟩:=Aj.1 h;obtain⟨ys,h2,h⟩:=Aj.1 h;cases h;obtain⟨k1,k2⟩:=ih h2;refine⟨by simp[k1],λj x hx=> ?_⟩;cases j with
   | zero=>
    simp at hx;subst hx;rw[aIU]at h1;simpa using h1
   | succ j=>simpa using k2 j x<|by simpa using hx
 obtain⟨k1,k2⟩:=gen _ h;exact⟨by simpa using k1,λj hj=>k2 j j<|by simp[hj]⟩
mutual
theorem aGM:∀(n:Nat) (t:TypeId) (c:CT) {v:Value},VB P n t c=Y->(∃Bk d ps,HA Ex P w base spare held Bk t [v]=I (d,ps))->sC w c v
 | 0,_,_,_,h,_=>by simp[VB]at h
 | n+1,t,c,v,h,⟨Bk,d,ps,hr⟩=>by
  unfold VB at h;split at h
  .rename_i k k' ht;simp at h;subst h;obtain⟨x,e,hw⟩:=aFb ht hr;cases e;exact⟨x,rfl,hw⟩
  .rename_i ht;obtain⟨x,e⟩:=aE1 ht hr;cases e;exact⟨x,rfl⟩
  .rename_i ht;obtain⟨x,e,hw⟩:=aD8 ht hr;cases e;exact⟨x,rfl,hw⟩
  .rename_i e k ht;simp only[AD]at h;have hsz:=Bo h.1;obtain e|⟨a,len,cap,e,hlc,hcm,hel⟩:=aDZ ht hr
   .cases e;exact⟨[],⟨D5 _,by simp⟩,λβ _=> .nil⟩
   .cases e;rw[hsz]at hel;have hch:∀i:Nat,∃p:Tof k×List Value,i<len->wfK k p.1/\w.cells? base (a.add<|i * ks k) (ks k)=I p.2/\ ∀β:Beta,(∀b,¬MZ β b)->RL (RC w β) (enc k p.1) p.2:=by
     intro i;by_cases hi:i<len
     .obtain⟨es,Vg,r',k1,k2⟩:=hel i hi;obtain⟨x,k3,k4⟩:=auY n _ k h.2 (Bk:=Vg) (r:=r') k2;exact⟨(x,es),λ_=>⟨k3,k1,k4⟩⟩
     .exact⟨(dfl k,[]),λh=>absurd h hi⟩
    obtain⟨X,hX⟩:=Classical.axiomOfChoice hch;refine⟨(B9 len).map λi=>(X i).1,⟨by simp;omega,λx hx=> ?_⟩,λβ hβ=> ?_⟩
    .obtain⟨i,hi,rfl⟩:=C1.1 hx;exact(hX i<|D4.1 hi).1
    .cases len with
     | zero=>exact .nil
     | succ len=>
      obtain⟨b,f,sp⟩:=a;have h0:=(hX 0 J).2.1;have hsp:sp=G:=by
       rw[V0]at h0;unfold World.cells? at h0;split at h0
       case isFalse=>cases h0
       obtain⟨y,hy⟩:=ZK h0 0<|D4.2<|IK k;unfold Mu at hy;split at hy
       .split at hy
        .cases hy
        .rename_i hn;cases sp with
         | none=>rfl
         | some x=>exact absurd rfl hn
       .cases hy
      subst hsp;have Cz:∀i j,i<len+1->j<ks k->w.cell? ⟨b,f+(i * ks k+j),G⟩=I ((X i).2.getD j undef):=λi j hi hj=>by
       have h1:=(hX i hi).2.1;rw[aIU]at h1;have:=(awJ h1).2 j hj;rw[← DG];exact this
      refine .sl (λi j=>(X i).2.getD j undef) ⟨by simp,hlc⟩ (hβ b) (λi j hi hj=>Cz i j (by simpa using hi) hj) (λi x j c hx hc=> ?_);have hi:i<len+1:=by have:=(BN.1 hx).1;simpa using this
      have hx':x=(X i).1:=by
       rw[DI,H6 hi]at hx;exact(Ck hx).symm
      subst hx';have hj:j<ks k:=by rw[← ET k (X i).1];exact(BN.1 hc).1
      have hR:=(hX i hi).2.2 β hβ;have hlen:(X i).2.length=ks k:=by rw[hR.1,ET]
      exact hR.2 j c _ hc (by simp[hlen,hj])
  .cases h
theorem auY:∀(n:Nat) (e:TypeId) (k:K) {Bk:Nat} {cs:List Value} {r:DataW H×List MemPlace},c9 P n e k=Y->HA Ex P w base spare held Bk e cs=I r->∃x:Tof k,wfK k x/\ ∀β:Beta,(∀b,¬MZ β b)->RL (RC w β) (enc k x) cs
 | 0,_,_,_,_,_,h,_=>by simp[c9]at h
 | n+1,e,k,Bk,cs,r,h,hr=>by
  unfold c9 at h;split at h
  .rename_i ts hts;exact axw (aEG n ts (kct k) h<|aEB 16 e hts hr)
  .cases h
theorem aEG:∀(n:Nat) (ts:List TypeId) (ks:List CT) {cs:List Value},PC P n ts ks=Y->Cells Ex P w base spare held ts cs->Vj w ks cs
 | n,[],[],[],_,_=> .nil
 | n,[],[],_::_,_,h=>h.elim
 | n+1,t::ts,c::ks,v::cs,h,hc=>by
  simp only[PC,AD]at h;exact .cons (aGM n t c h.1 hc.1)<|aEG n ts ks h.2 hc.2
 | 0,_::_,_,_,h,_=>by simp[PC]at h
 | n+1,_::_,[],_,h,_=>by simp[PC]at h
 | n,[],_::_,_,h,_=>by cases n<;>simp[PC]at h
 | n+1,_::_,_::_,[],_,hc=>hc.elim
end
end
end Go.VS
end
noncomputable section
namespace Go.VS
open Go
def sA:Sh->Option CT
 | .int k=>I (.int k)
 | .bool=>I .bool
 | .str=>I .str
 | .fz k=>I (.sl k)
 | _=>G
def Lj:(h:Sh)->LT h->Prop
 | .int k,n=>(Nu k n).wf=Y
 | .bool,_=>True
 | .str,s=>wfS s
 | .fz k,xs=>wfL (wfK k) xs
 | _,_=>False
section
variable {P:Program} {w:World}
def atN{h:Sh}{t:CT}{v:Value}(hs:sA h=I t)(hf:sC w t v):∃x:LT h,Lj h x/\ ∀(M:Nat->Prop) (e:Nat->Value),(∀b,¬M b)->Rel P w M e h x v []:=by
 cases h<;>simp only[sA]at hs<;>first|(cases hs;done)|skip
 case int k=>
  cases hs;obtain⟨n,rfl,hw⟩:=hf;exact⟨n,hw,λM e _=>⟨rfl,rfl⟩⟩
 case bool=>
  cases hs;obtain⟨n,rfl⟩:=hf;exact⟨n,trivial,λM e _=>⟨rfl,rfl⟩⟩
 case str=>
  cases hs;obtain⟨n,rfl,hw⟩:=hf;exact⟨n,hw,λM e _=>⟨rfl,rfl⟩⟩
 case fz k=>
  cases hs;obtain⟨xs,hw,hr⟩:=hf;exact⟨xs,hw,λM e hM=>⟨λβ hβ=>hr β λb hb=>hM b<|hβ b hb,rfl⟩⟩
def Qq{f:FuncId}{ps:List Sh}{g:LTs ps->Option (LTs [.bool]×LTs (B3 ps))}(hS:H4 P f ⟨ps,[.bool],g⟩){x:LTs ps}{q:LTs (B3 ps)}(hx:g x=I ((Y,()),q)){args:List Value}
  (FV:∀(M:Nat->Prop) (e:Nat->Value),(∀b,¬M b)->Cn P w M e ps x args [])(hgl:O3 P w (λ_=>False)):Calls P f args.toArray w λe w'=>e= .returned (.bool Y)/\Go.RowKit.Below w.heap.size w w':=by
 refine Ms (hS.2 x _ hx w (λ_=>False) args [] (FV _ _ λb h=>by simp[B0]at h) (by simp[B0]) (λb h=>by simp[B0]at h) (λb h=>h.elim)<|by simpa[B0] using hgl) ?_;rintro en w' ⟨v,rfl,hr⟩;obtain⟨vs,os1,os2,rfl,h1,_⟩:=hr.ex;obtain⟨u,us,o1,o2,rfl,_,h2,h3⟩:=h1;obtain⟨rfl,_⟩:=h3;obtain⟨rfl,_⟩:=h2;exact⟨rfl,hr.wos,hr.tape,hr.output,hr.size,λb hb=>hr.block b hb<|by simp[B0]⟩
end
end Go.VS
end
noncomputable section
namespace Go.VS
open Go
variable {P:Program} {f:FuncId}
def oE{w:World}{O:Nat->Prop}{gm:Nat}(hgl:O3 P w O)(hg:gm<P.globals.size)(hsh:∀w:World,w.ShapedOpen P->∃m,w.cell? ⟨gm,0,G⟩=I (.int .i64 m)):∃m,w.cell? ⟨gm,0,G⟩=I (.int .i64 m):=by
 obtain⟨w0,h1,h2⟩:=hgl;obtain⟨m,hm⟩:=hsh w0 h1.1;refine⟨m, ?_⟩;rw[← hm];unfold Mu;rw[(h2 gm hg).2.2]
def av4{w:World}{O:Nat->Prop}(hgl:O3 P w O){gt:Nat}(hn:P.globalNamed "internal/strconv.uint64pow10" =I gt)(hg:gt<P.globals.size):Mv P w "internal/strconv.uint64pow10" .u64 Nv:=by
 obtain⟨w0,h1,h2⟩:=hgl;have h:=h1.2 (by rw[hn];simp);unfold Mv World.var? at h ⊢;rw[hn]at h ⊢;simp only[A6]at h ⊢;rw[(h2 gt hg).2.2];exact h
def VK(x:Int×D):Option ((A1×D)×D):=if -9223372036854775808<=x.1/\x.1<=9223372036854775807 then I ((⟨(B7 x.1).toArray⟩,()),()) else G
def Q2(x:A1×A1×D):Option ((A1×A1×Bool×D)×D):=
 if x.1.size<4294967281 then I ((⟨(Fm x.1.data.toList x.2.1.data.toList).1.toArray⟩,⟨(Fm x.1.data.toList x.2.1.data.toList).2.1.toArray⟩,(Fm x.1.data.toList x.2.1.data.toList).2.2,()),()) else G
def V4(x:A1×A1×D):Option ((List A1×D)×D):=
 if x.1.size<4294967281/\1<=x.2.1.size then I ((JD x.2.1 0 (Nn x.1 x.2.1) x.1,()),()) else G
def UB(x:A1×A1×Int×D):Option ((List A1×D)×D):=
 if x.1.size<4294967281/\1<=x.2.1.size/\1<=x.2.2.1/\x.2.2.1<=9223372036854775807 then I ((JD x.2.1 0 (min x.2.2.1.toNat (x.1.size+1) - 1) x.1,()),()) else G
def arm(he:Ma P f)(hn:(P.globalNamed "internal/strconv.uint64pow10").map (λg=>U<|g<P.globals.size)=I Y)
  (hc:∀(n:Int) (h0: -9223372036854775808<=n) (h1:n<=9223372036854775807) (w:World) (ak:Mv P w "internal/strconv.uint64pow10" .u64 Nv),
   Calls P f #[.int .i64 n] w λe w'=>e= .returned (.string ⟨(B7 n).toArray⟩)/\ ∃k os,w'=bH (w.drewN k) os):H4 P f ⟨[.int .i64],[.str],VK⟩:=by
 obtain⟨gt,hn,hg⟩:=DH.1 hn;have hg:=BV hg;refine⟨he,λx r hx w Z args os hr hnd hbl hZ hgl=> ?_⟩;simp only[VK]at hx;split at hx
 case isFalse=>cases hx
 rename_i hb;cases hx;obtain⟨u,us,o1,o2,rfl,rfl,⟨rfl,rfl⟩,rfl,rfl⟩:=hr;refine Ms (hc x.1 hb.1 hb.2 w<|av4 hgl hn hg) ?_;rintro e w' ⟨rfl,k,os,rfl⟩;exact⟨_,rfl,⟨⟨[.string _],[],[],rfl,⟨_,_,[],[],rfl,rfl,⟨rfl,rfl⟩,rfl,rfl⟩,⟨rfl,rfl⟩,by simp[B0],by simp[B0]⟩,rfl,rfl,rfl,by simp[bH,pQ],λb hb _=>by simp[bH,pQ,Mn hb],Pk.old λb hb=>by simp[bH,pQ,Mn hb]⟩⟩
def atu(he:Ma P f){gm:Nat}(hg:gm<P.globals.size)(hsh:∀w:World,w.ShapedOpen P->∃m,w.cell? ⟨gm,0,G⟩=I (.int .i64 m))
  (hc:∀(s sep:A1) (m:Int) (w:World) (hs:s.size<4294967281) (hm:w.cell? ⟨gm,0,G⟩=I (.int .i64 m)),
   Calls P f #[.string s,.string sep] w λe w'=>e= .returned (.tuple #[.string ⟨(Fm s.data.toList sep.data.toList).1.toArray⟩,.string ⟨(Fm s.data.toList sep.data.toList).2.1.toArray⟩,.bool (Fm s.data.toList sep.data.toList).2.2])/\ ∃n,w'=w.drewN n):
  H4 P f ⟨[.str,.str],[.str,.str,.bool],Q2⟩:=by
 refine⟨he,λx r hx w Z args os hr hnd hbl hZ hgl=> ?_⟩;simp only[Q2]at hx;split at hx
 case isFalse=>cases hx
 rename_i hb;cases hx;obtain⟨u,us,o1,o2,rfl,rfl,⟨rfl,rfl⟩,v,vs,p1,p2,rfl,rfl,⟨rfl,rfl⟩,rfl,rfl⟩:=hr;obtain⟨m,hm⟩:=oE hgl hg hsh;refine Ms (hc x.1 x.2.1 m w hb hm) ?_;rintro e w' ⟨rfl,k,rfl⟩;exact⟨_,rfl,⟨⟨[_,_,_],[],[],rfl,⟨_,_,[],[],rfl,rfl,⟨rfl,rfl⟩,_,_,[],[],rfl,rfl,⟨rfl,rfl⟩,_,_,[],[],rfl,rfl,⟨rfl,rfl⟩,rfl,rfl⟩,⟨rfl,rfl⟩,by simp[B0],by simp[B0]⟩,rfl,rfl,rfl,Aw _,λb hb _=>rfl,Pk.old λb hb=>rfl⟩⟩
def aJd{w:World}{Z:Nat->Prop}{args:List Value}{e:TypeId}{xs:List A1}{cap:Nat}{cs:Array Value}(I3:xs.length<=cap)(hm:cap<=maxLen)(hsz:cs.size=cap)(hcs:∀(i:Nat) (s:A1),xs[i]? =I s->cs[i]? =I (bS s)){ps:List Sh}
  {r2:LTs (B3 ps)}{g:LTs ps->Option (LTs [.row e .str]×LTs (B3 ps))}(hb:∀w' M,Cn P w' M (ar args) (B3 ps) r2 (KD ps args) []):
  Ret P ⟨ps,[.row e .str],g⟩ Z args [] w ((xs,()),r2) (.slice (I ⟨w.heap.size,0,G⟩) xs.length cap) (w.alloc<|.cells cs e):=by
 have hat:(w.alloc<|.cells cs e).heap[w.heap.size]? =I (.cells cs e (0,0)):=heap_alloc_new w _;have azw:(w.alloc<|.cells cs e).heap.size=w.heap.size+1:=World.size_alloc _ _;refine⟨⟨[_],[(.slice (I ⟨w.heap.size,0,G⟩) xs.length cap,xs.length)],[],rfl,⟨_,_,[_],[],rfl,rfl,⟨rfl,rfl,λβ _=> .inr ⟨w.heap.size,0,cap,cs,(0,0),rfl,hat,rfl,I3,hm,by simp[ks,hsz], ?_⟩⟩,rfl,rfl⟩,hb _ _,by simp[B0,HU,adr], ?_⟩,rfl,rfl,rfl,J,λb hb _=>heap_alloc_old w _ hb,Pk.old λb hb=>heap_alloc_old w _ hb⟩
 .intro i x j c u h1 h2 h3;cases j with
  | zero=>
   simp[enc]at h2;subst h2;rw[show(0:Nat)+(i * ks .str+0)=i by simp[ks],hcs i x h1]at h3;cases h3;exact RC.lit rfl
  | succ j=>simp[enc]at h2
 .intro b hb;simp[B0,HU,adr]at hb;subst hb;exact⟨.inr (Aw _),J⟩
def ar8(he:Ma P f){gm:Nat}{e:TypeId}(hg:gm<P.globals.size)(hsh:∀w:World,w.ShapedOpen P->∃m,w.cell? ⟨gm,0,G⟩=I (.int .i64 m))
  (hc:∀(s sep:A1) (m:Int) (w:World) (hs:s.size<4294967281) (hm:w.cell? ⟨gm,0,G⟩=I (.int .i64 m)) (h1:1<=sep.size),
   Calls P f #[.string s,.string sep] w λen w'=>en= .returned (.slice (I ⟨w.heap.size,0,G⟩) (Nn s sep+1)<|Nn s sep+1)/\w'=w.alloc (.cells ((JD sep 0 (Nn s sep) s).map bS).toArray e)):
  H4 P f ⟨[.str,.str],[.row e .str],V4⟩:=by
 refine⟨he,λx r hx w Z args os hr hnd hbl hZ hgl=> ?_⟩;simp only[V4]at hx;split at hx
 case isFalse=>cases hx
 rename_i hb;cases hx;obtain⟨u,us,o1,o2,rfl,rfl,⟨rfl,rfl⟩,v,vs,p1,p2,rfl,rfl,⟨rfl,rfl⟩,rfl,rfl⟩:=hr;obtain⟨m,hm⟩:=oE hgl hg hsh;have hl:=Lib.splitB_all x.2.1 hb.2 0 _ x.1 rfl;have hle:=Lib.countB_le x.2.1 hb.2 x.1.size x.1<|Aw _;refine Ms (hc x.1 x.2.1 m w hb.1 hm hb.2) ?_;rintro en w' ⟨rfl,rfl⟩;refine⟨_,rfl, ?_⟩;rw[← hl];exact aJd (Aw _) (by rw[hl];simp[maxLen];omega) aJO (λi s h=>by simp[h]) λ_ _=>⟨rfl,rfl⟩
def aqb(he:Ma P f){gm:Nat}{e:TypeId}(hg:gm<P.globals.size)(hsh:∀w:World,w.ShapedOpen P->∃m,w.cell? ⟨gm,0,G⟩=I (.int .i64 m))
  (hc:∀(s sep:A1) (n:Nat) (m:Int) (w:World) (hs:s.size<4294967281) (hm:w.cell? ⟨gm,0,G⟩=I (.int .i64 m)) (h1:1<=sep.size) (hn:1<=n) (aF7:n<=9223372036854775807),
   Calls P f #[.string s,.string sep,.int .i64 n] w λen w'=>en= .returned (.slice (I ⟨w.heap.size,0,G⟩) (JD sep 0 (min n (s.size+1) - 1) s).length<|min n<|s.size+1)/\w'=w.alloc (.cells (bQ (JD sep 0 (min n (s.size+1) - 1) s)<|min n<|s.size+1) e)):
  H4 P f ⟨[.str,.str,.int .i64],[.row e .str],UB⟩:=by
 refine⟨he,λx r hx w Z args os hr hnd hbl hZ hgl=> ?_⟩;simp only[UB]at hx;split at hx
 case isFalse=>cases hx
 rename_i hb;cases hx;obtain⟨u,us,o1,o2,rfl,rfl,⟨rfl,rfl⟩,v,vs,p1,p2,rfl,rfl,⟨rfl,rfl⟩,y,ys,q1,q2,rfl,rfl,⟨rfl,rfl⟩,rfl,rfl⟩:=hr;obtain⟨m,hm⟩:=oE hgl hg hsh;have hl:=Lib.splitB_length_le x.2.1 0 (min x.2.2.1.toNat (x.1.size+1) - 1) x.1;have hn:((x.2.2.1.toNat:Nat):Int)=x.2.2.1:=Nq J;have hc':=hc x.1 x.2.1 x.2.2.1.toNat m w hb.1 hm hb.2.1 J J;rw[hn]at hc';refine Ms hc' ?_;rintro en w' ⟨rfl,rfl⟩;refine⟨_,rfl, ?_⟩;exact aJd J (by simp[maxLen];omega) (Lib.cellsOf_size J) (λi s h=>by
  have hi:=(BN.1 h).1;rw[bQ,Ul,IT<|by simpa using hi,DI,h];rfl) (λ_ _=>⟨rfl,rfl⟩)
end Go.VS
end
noncomputable section
namespace Go.VS
open Go
section
variable {P:Program} {W:World}
def s8(P:Program)(name:String)(k:IntKind):Bool:=
 match P.globalNamed name with
 | some g=>match (P.globals[g]?).map (·.type) with
  | some t=>match P.underlying t with
   | some (.array n e)=>(match P.underlying e with|some (.int k')=>U (k'=k)|_=>A0)&&U (P.cellsOf e=1)&&U (P.cellsOf t=n)
   | _=>A0
  | _=>A0
 | _=>A0
def aqg{name:String}{k:IntKind}{zs:List Int}(h:s8 P name k=Y)(hl:laidMet P [(name,Lib.tabData k zs)] W):Mv P W name k zs:=by
 unfold s8 at h;split at h
 case h_2=>cases h
 rename_i g hg;split at h
 case h_2=>cases h
 rename_i t ht;split at h
 case h_2=>cases h
 rename_i n e hu;simp only[AD,decide_eq_true_eq]at h;obtain⟨⟨h1,h2⟩,h3⟩:=h;split at h1
 case h_2=>cases h1
 rename_i k' hk;have h1:=BV h1;subst h1;exact Lib.tabIs_of_head hg ht hu hk h2 h3 hl
def VQ:String:= "internal/strconv.uint64pow10"
def Tb{laid:List (String×DataW D)}(hsh:W.ShapedOpen P)(am8:Ib P.globals.size (begin P (λ_ _=>0) default).world.heap.size=Y)(aEV:laidMetH P laid W)
  (aki:(laid.all λx=>x.2.handleName?.isNone)=Y)
  (ak:P.globalNamed VQ≠G->(laid.filter λx=>x.1 == VQ)=[(VQ,Lib.tabData .u64 Nv)]/\s8 P VQ .u64=Y):O3 P W (λ_=>False):=by
 have hlt:P.globals.size<W.heap.size:=by
  obtain⟨o,o0,h1,_⟩:=hsh.2 P.globals.size (Aw _) (by simpa[PZ] using am8);exact(Ha.1 h1).1
 refine⟨W,⟨hsh,λhn=> ?_⟩,λb hb=>⟨id,J,rfl⟩⟩;obtain⟨h1,h2⟩:=ak hn;rw[JB _ _ _ aki]at aEV;have h3:=laidMet.filter (λx=>x.1 == VQ) aEV;rw[h1]at h3;exact aqg h2 h3
end
end Go.VS
namespace Go.VS
open Go
def az6:Oper:={ dst:=G,op:= .move<|.const<|.bool A0,type:=0,pos:= "",after:= #[],guard:=G }
def s9(zs:List Nat)(e:Edge):Option Edge:=(zs.idxOf? e.on).map λj=>{ e with on:=j }
def SH(zs:List Nat)(o:Oper):Oper:={ o with after:=(o.after.toList.filterMap<|s9 zs).toArray }
def Ff(ops:Array Oper)(zs:List Nat):Array Oper:=(zs.map λi=>SH zs<|(ops[i]?).getD az6).toArray
def asq{ops:Array Oper}{zs:List Nat}{j i:Nat}{o:Oper}(hz:zs[j]? =I i)(ho:ops[i]? =I o):(Ff ops zs)[j]? =I (SH zs o):=by
 simp[Ff,hz,ho]
def mT(ops:Array Oper)(zs:List Nat):(Ff ops zs).size=zs.length:=by simp[Ff]
def av5{zs:List Nat}{o:Oper}{e:Edge}(h:e∈(SH zs o).after):∃e0∈o.after,G2 .any e0=G2 .any e/\zs[e.on]? =I e0.on:=by
 have h:e∈o.after.toList.filterMap (s9 zs):=by simpa[SH] using h
 obtain⟨e0,h0,h1⟩:=Gg.1 h;unfold s9 at h1;obtain⟨j,h2,h3⟩:=DH.1 h1;refine⟨e0,by simpa using h0,by rw[← h3];rfl, ?_⟩;rw[← h3];obtain⟨hlt,h4,_⟩:=List.idxOf?_eq_some_iff.1 h2;show zs[j]? =I e0.on;rw[Ar hlt];simpa using h4
section
variable {P:Program} {ops:Array Oper} {Q:Exit->Act->World->Prop}
def asg(Good:(Nat->Prop)->Act->World->Prop)(alj:∀(i:Nat) (o:Oper) (e:Edge),ops[i]? =I o->e∈o.after->G2 .any e=Y->e.on<i)
  (oP:∀(B8:Nat->Prop) a w,(∀i,¬B8 i)->Good B8 a w->Q .normal a w)
  (sn:∀(B8:Nat->Prop) (i:Nat) (a:Act) (w:World) (o:Oper),Good B8 a w->(∀j,B8 j->j<ops.size)->(∀j oj,ops[j]? =I oj->¬B8 j->∀e∈oj.after,G2 .any e=Y->¬B8 e.on)->B8 i->ops[i]? =I o->
   (∀e∈o.after,G2 .any e=Y->¬B8 e.on)->wpOp P ops Q i (λa w=>Good (λk=>B8 k/\k≠i) a w) a w):
  ∀(n:Nat) (Bd:List Nat) (listed:Array Bool) (a:Act) (w:World),Bd.length=n->Bd.Nodup->(∀j,j∈Bd↔j<ops.size/\listed.getD j Y=A0)->listed.size=ops.size->
   (∀j oj,ops[j]? =I oj->j ∉ Bd->∀e∈oj.after,G2 .any e=Y->e.on ∉ Bd)->Good (λk=>k∈Bd) a w->wpAny P .any ops Q n listed a w:=by
 intro n
 induction n with
 | zero=>
  intro Bd listed a w hl hnd hU hs hcl hg;have:Bd=[]:=E5 hl;subst this;refine⟨?_,oP _ a w (λi h=>by cases h) hg⟩;cases hrd:PY .any ops listed with
  | nil=>rfl
  | cons j l=>
   have hj:j∈PY .any ops listed:=by rw[hrd];exact As
   obtain⟨h1,o,ho,_⟩:=mem_ready.1 hj;have:=(hU j).2 ⟨(Ha.1 ho).1,h1⟩;cases this
 | succ n ih=>
  intro Bd listed a w hl hnd hU hs hcl hg;have done:∀x,x<ops.size->x ∉ Bd->listed.getD x A0=Y:=λx hx hn=>by
   refine xg J ?_;cases hb':listed.getD x Y with
   | true=>rfl
   | false=>exact absurd ((hU x).2 ⟨hx,hb'⟩) hn
  refine⟨λoK=> ?_,λi hi=> ?_⟩
  .exfalso;obtain⟨i0,h0,oL⟩:=nI (λk=>k∈Bd) (by
    cases Bd with
    | nil=>simp at hl
    | cons x l=>exact⟨x,As⟩)
   obtain⟨hlt,hun⟩:=(hU i0).1 h0;obtain⟨o,ho⟩:∃o,ops[i0]? =I o:=⟨ops[i0],by simp[hlt]⟩;have hr0:i0∈PY .any ops listed:=mem_ready.2 ⟨hun,o,ho,λe he hb=>by
    have aw:=alj i0 o e ho he hb;exact done e.on J λhm=>by have:=oL _ hm;omega⟩
   rw[oK]at hr0;cases hr0
  .obtain⟨hun,oi,hoi,EG⟩:=mem_ready.1 hi;have hlt:i<ops.size:=(Ha.1 hoi).1;have hiU:i∈Bd:=(hU i).2 ⟨hlt,hun⟩;have Ku:∀e∈oi.after,G2 .any e=Y->e.on ∉ Bd:=λe he hb hm=>by
    have h2:=((hU e.on).1 hm).2;have hsz:=((hU e.on).1 hm).1;have hel:=EG e he hb;have:listed.getD e.on Y=Y:=by simp[show e.on<listed.size by omega]at hel ⊢; exact hel
    rw[this]at h2;cases h2
   have Fp:∀k,k∈Bd.erase i↔k∈Bd/\k≠i:=λk=>by
    rw[hnd.mem_erase_iff];exact and_comm
   refine wpOp_mono ?_ (sn (λk=>k∈Bd) i a w oi hg (λj hj=>((hU j).1 hj).1) hcl hiU hoi Ku);intro a' w' hg';refine ih (Bd.erase i) _ a' w' (by rw[List.length_erase_of_mem hiU,hl];rfl) (hnd.erase i) (λj=> ?_) (by simpa using hs) ?_ ?_
   .rw[Fp,hU];by_cases e:j=i
    .subst e;simp
    .rw[getD_set_ne Y<|Li e];simp[e]
   .intro j oj hoj hj e he hb hm;have hmU:=((Fp _).1 hm).1;by_cases e':j=i
    .subst e';rw[hoi]at hoj;cases hoj;exact Ku e he hb hmU
    .exact hcl j oj hoj (λh=>hj<|(Fp j).2 ⟨h,e'⟩) e he hb hmU
   .have:(λk=>k∈Bd.erase i)=λk=>k∈Bd/\k≠i:=funext λk=>propext<|Fp k;rw[this];exact hg'
end
section
variable {C:Cx} {B:Be} {ops S0:Array Oper} {L:Lb} {stk:List (Array Value)} {Ω:Type} {q:Ω} {s s':S}
structure PaR (C:Cx) (S0:Array Oper) (L:Lb) (Bd:List Nat) (s s':S):Prop where
 run:Run C S0 L Bd s s'
 azq:Bd.Pairwise (· < ·)
 lt:∀j∈Bd,j<S0.size
 cl:∀i x,i<S0.size->i ∉ Bd->L.R x i->x ∉ Bd
 fit:∀j∈Bd,Fit S0 L Bd s j
def PaR.pick(hn:Q9 S0 L){Bd:List Nat}(h:PaR C S0 L Bd s s'){i:Nat}(hiU:i∈Bd){oi:Oper}(hoi:S0[i]? =I oi)(Ku:∀e∈oi.after,G2 .any e=Y->e.on ∉ Bd):
  ∃s1 U',ev1 C S0 oi (L.b i) s=I s1/\(∀id,L.b i<=id->id<L.b i+16->s.H id=G)/\PaR C S0 L U' s1 s'/\ ∀k,k∈U'↔k∈Bd/\k≠i:=by
 obtain⟨hr,hp,hlt,hd,hf⟩:=h;obtain⟨l1,l2,rfl⟩:=Uu hiU;have hRn:∀j∈l1++i::l2,¬L.R j i:=by
  intro j hj hR;obtain⟨e,he,hb,Vc⟩:=hn.anc j i oi hoi hR;have heU:=Ku e he hb;obtain h|h:=Vc
  .exact heU (h▸hj)
  .have aw:=hn.dir i oi e hoi he hb;exact hd e.on j (by have:=hlt i hiU;omega) heU h hj
 have Cp:=Run.first hn l1 s hr hp hRn hf
 cases Cp with
 | cons UW Ug t=>
  rename_i o' s1;rw[hoi]at UW;cases UW;have hnd:(l1++i::l2).Nodup:=hp.imp λh=>Pl h;have Fp:∀j,j∈l1++l2↔j∈l1++i::l2/\j≠i:=by
   intro j;have Jx:=Jo.1 hnd;constructor
   .intro hj;refine⟨?_, ?_⟩
    .rcases BL.1 hj with h|h
     .exact Bw _ h
     .exact CR _ (Ak _ h)
    .rintro rfl;obtain h|h:=BL.1 hj
     .exact Jx.2.2 j h j As rfl
     .exact(IY.1 Jx.2.1).1 h
   .rintro⟨hj,hne⟩;obtain h|h:=BL.1 hj
    .exact Bw _ h
    .rcases Bm.1 h with h|h
     .exact absurd h hne
     .exact CR _ h
  refine⟨s1,l1++l2,Ug.ev,λid h1 h2=>(hf i hiU oi hoi).2.2 id h1 h2,⟨t, ?_,λj hj=>hlt j ((Fp j).1 hj).1, ?_, ?_⟩,Fp⟩
  .have p2:=Nj.1 hp;exact Nj.2 ⟨p2.1,(KW.1 p2.2.1).2,λx hx y hy=>p2.2.2 x hx y<|Ak _ hy⟩
  .intro k x hk hkU hR hx;have hxU:=((Fp x).1 hx).1;by_cases e:k=i
   .subst e;exact hRn x hxU hR
   .exact hd k x hk (λh=>hkU<|(Fp k).2 ⟨h,e⟩) hR hxU
  .intro j hj;obtain⟨hjU,hne⟩:=(Fp j).1 hj;refine(hf j hjU).step hn hoi (Li hne) (hRn j hjU) Ug λk hk=> ?_;by_cases e:k=i
   .exact .inl e
   .exact .inr<|(Fp k).2 ⟨hk,e⟩
structure Jv (C:Cx) (ops:Array Oper) (zs:List Nat) (L:Lb) (B8:Nat->Prop) (s s':S):Prop where
 nice:Q9 (Ff ops zs) L
 ex:∃Bd,PaR C (Ff ops zs) L Bd s s'/\ ∀j x,zs[j]? =I x->(j∈Bd↔B8 x)
def axt{zs:List Nat}{o:Oper}(hg:o.guard=G)(b:Nat)(s:S):ev1 C (Ff ops zs) (SH zs o) b s=CQ C (AF S) o b s I:=by
 unfold ev1 evG;have:(SH zs o).guard=G:=hg;rw[this];rfl
def awZ{o:Oper}(hg:o.guard=G)(b:Nat)(s:S):ev1 C ops o b s=CQ C (AF S) o b s I:=by
 unfold ev1 evG;rw[hg]
def Jv.pick{zs:List Nat}{B8:Nat->Prop}(h:Jv C ops zs L B8 s s')(hz:zs.Nodup){j i:Nat}(hj:zs[j]? =I i)(hD:B8 i){o:Oper}(ho:ops[i]? =I o)(hg:o.guard=G)
  (Ku:∀e∈o.after,G2 .any e=Y->¬B8 e.on):
  ∃s1,CQ C (AF S) o (L.b j) s I=I s1/\(∀id,L.b j<=id->id<L.b j+16->s.H id=G)/\Jv C ops zs L (λk=>B8 k/\k≠i) s1 s':=by
 obtain⟨hn,Bd,hp,hU⟩:=h;obtain⟨s1,U',h1,h2,h3,h4⟩:=hp.pick hn ((hU j i hj).2 hD) (asq hj ho) λe he hb hm=>by
  obtain⟨e0,he0,hb0,hz0⟩:=av5 he;exact Ku e0 he0 (by rw[hb0];exact hb)<|(hU _ _ hz0).1 hm
 refine⟨s1,by rw[← axt hg];exact h1,h2,hn,U',h3,λk x hk=> ?_⟩;rw[h4,hU k x hk];refine and_congr_right λ_=>not_congr ⟨λe=> ?_,λe=> ?_⟩
 .subst e;rw[hk]at hj;cases hj;rfl
 .subst e;have hk1:=(BN.1 hk);have hj1:=(BN.1 hj);obtain⟨a1,a2⟩:=hk1;obtain⟨b1,b2⟩:=hj1;have hpw:=Jj.1 hz;obtain h|h|h:=IX k j
  .exact absurd (a2.trans b2.symm) (hpw k j a1 b1 h)
  .exact h
  .exact absurd (b2.trans a2.symm)<|hpw j k b1 a1 h
def Jv.done{zs:List Nat}{B8:Nat->Prop}(h:Jv C ops zs L B8 s s')(hD:∀x∈zs,¬B8 x):s=s':=by
 obtain⟨hn,Bd,hp,hU⟩:=h;have:Bd=[]:=by
  cases Bd with
  | nil=>rfl
  | cons j l=>
   exfalso;have hlt:=hp.lt j As;rw[mT]at hlt;have hz:zs[j]? =I zs[j]:=Ar hlt;exact hD _ (CS hlt)<|(hU j _ hz).1 As
 subst this;have:=hp.run;cases this;rfl
def qQ{zs:List Nat}{k:S->Option Ω}(he:evD C (Ff ops zs) s (Ff ops zs).toList 0 s.nid [] s k=I q)(hfr:Fr s)(B8:Nat->Prop)(hD:∀x∈zs,B8 x):
  ∃L s',Jv C ops zs L B8 s s'/\(∀j,L.b j=s.nid+16 * j)/\Fr { s' with nid:=s.nid+16 * zs.length } /\s'.n=s.n/\s'.pins=s.pins/\k { s' with nid:=s.nid+16 * zs.length } =I q:=by
 obtain⟨rs,s',h1,h2,h3,h4⟩:=o6 (b0:=s.nid) (Ff ops zs).toList 0 s.nid [] s he trivial rfl rfl aJO;simp only[CU,DR]at h2 h4;have hn:rs.reverse.length=(Ff ops zs).size:=by simpa using h3
 have hpl:=h2.places;rw[pU,hn]at hpl;have Lw:∀j,Fit (Ff ops zs) (C6 rs.reverse s.nid) (B9 (Ff ops zs).size) s j:=λj=>h2.fit hn hfr;have Cp:=mK h2 hn rs s s' h1 (λr hr=>by simpa using hr) (by rw[hpl];exact Rr) (λr hr=>by rw[hpl];exact Lw _);rw[hpl]at Cp;have hlen:(Ff ops zs).toList.length=zs.length:=by simp[Ff]
 have Q4:BH (λj=>j<s.nid+16 * zs.length) s s':=mg rs s s' _ h1 λr hr=>by
  have hr':r∈rs.reverse:=by simpa using hr
  have e1:=(h2.N6 hr').1;have e2:=h2.lt r hr';rw[hn,mT]at e2;omega
 rw[hlen]at h4;refine⟨C6 rs.reverse s.nid,s',⟨h2.nice hn,B9 (Ff ops zs).size,⟨Cp,Rr,λj hj=>D4.1 hj,λi x hi hiU _=>absurd (D4.2 hi) hiU,λj _=>Lw j⟩,λj x hj=> ?_⟩,
  λj=>rfl,λj hj=> ?_,Q4.n,Q4.pins,h4⟩
 .rw[D4,mT];exact⟨λ_=>hD x<|Cs hj,λ_=>(BN.1 hj).1⟩
 .have hj:s.nid+16 * zs.length<=j:=hj;exact Q4.nn j J<|hfr j J
end
end Go.VS
namespace Go.VS
open Go
def evX{Ω:Type}(C:Cx)(inl:Inl Ω)(ops:Array Oper)(ys:List Nat)(m:Nat)(zs:List Nat)(s:S)(k:S->Option Ω):Option Ω:=
 evD C (Ff ops ys) s (Ff ops ys).toList 0 s.nid [] s λs1=>match ops[m]? with
  | some om=>evG C inl ops om s1.nid s1 λs2=>evD C (Ff ops zs) { s2 with nid:=s2.nid+16 } (Ff ops zs).toList 0 (s2.nid+16) [] { s2 with nid:=s2.nid+16 } k
  | none=>G
structure XOk (ops:Array Oper) (m f:Nat):Prop where
 mf:m<f
 sz:f<ops.size
 guard:∀(i:Nat) (o:Oper),ops[i]? =I o->o.guard=G
 dir:∀(i:Nat) (o:Oper) (e:Edge),ops[i]? =I o->e∈o.after->G2 .any e=Y->e.on<i
 cov:∀i,i<m->∃j o e,i<j/\j<=m/\ops[j]? =I o/\e∈o.after/\G2 .any e=Y/\e.on=i
 late:∀i,m<i->i<ops.size->i≠f->∃o e,ops[i]? =I o/\e∈o.after/\G2 .any e=Y/\(e.on=m\/(m<e.on/\e.on≠f))
abbrev aft(m n:Nat):List Nat:=List.range' (m+1)<|n - (m+1)
abbrev Kq(m n f:Nat):List Nat:=(aft m n).filter λx=> !(Ai x f)
section
variable {C:Cx} {B:Be} {ops:Array Oper} {stk:List (Array Value)} {Ω:Type} {q:Ω} {inl:(Ω:Type)->Inl Ω}
def qn{m n x:Nat}:x∈aft m n↔m<x/\x<n:=by
 rw[List.mem_range'_1];omega
def P1{m n f x:Nat}:x∈Kq m n f↔(m<x/\x<n)/\x≠f:=by
 rw[FU,qn];refine and_congr_right λ_=> ?_;rw[Bz,← Gj,Hc]
def aIQ{m j:Nat}(h:j<m):(B9 m)[j]? =I j:=by simp[h]
def aGS{m f j:Nat}(h:j<m):(B9 m++[f])[j]? =I j:=by
 rw[IT<|by simpa using h];exact aIQ h
def au9{m f:Nat}:(B9 m++[f])[m]? =I f:=by
 rw[Fl aJO];simp
def K2(C:Cx)(ops:Array Oper)(zs:List Nat)(k:S->Option Ω)(s2:S):Option Ω:=
 evD C (Ff ops zs) { s2 with nid:=s2.nid+16 } (Ff ops zs).toList 0 (s2.nid+16) [] { s2 with nid:=s2.nid+16 } k
inductive Way (C:Cx) (ops:Array Oper) (m f:Nat) (inl:Inl Ω) (k:S->Option Ω) (q:Ω) (s0:S) (B8:Nat->Prop) (s:S):Prop
 | one (hm:B8 m) (hf:B8 f) (hz:∀x∈Kq m ops.size f,B8 x) (L1 L2:Lb) (s1 s2:S) (b1:∀j,L1.b j=s0.nid+16 * j) (b2:∀j,L2.b j=s0.nid+16 * j)
   (p1:Jv C ops (B9 m) L1 B8 s s1) (p2:Jv C ops (B9 m++[f]) L2 B8 s s2)
   (f1:Fr { s1 with nid:=s0.nid+16 * m }) (f2:Fr { s2 with nid:=s0.nid+16 * (m+1) })
   (n1:s1.n=s0.n/\s1.pins=s0.pins) (n2:s2.n=s0.n/\s2.pins=s0.pins)
   (k1:∀om,ops[m]? =I om->evG C inl ops om (s0.nid+16 * m) { s1 with nid:=s0.nid+16 * m } (K2 C ops (aft m ops.size) k)=I q)
   (k2:∀om,ops[m]? =I om->evG C inl ops om (s0.nid+16 * (m+1)) { s2 with nid:=s0.nid+16 * (m+1) } (K2 C ops (Kq m ops.size f) k)=I q):Way C ops m f inl k q s0 B8 s
 | two (hm:B8 m) (hf:¬B8 f) (hz:∀x∈Kq m ops.size f,B8 x) (L2:Lb) (s2:S)
   (p2:Jv C ops (B9 m++[f]) L2 B8 s s2)
   (f2:Fr { s2 with nid:=s0.nid+16 * (m+1) })
   (n2:s2.n=s0.n/\s2.pins=s0.pins)
   (k2:∀om,ops[m]? =I om->evG C inl ops om (s0.nid+16 * (m+1)) { s2 with nid:=s0.nid+16 * (m+1) } (K2 C ops (Kq m ops.size f) k)=I q):Way C ops m f inl k q s0 B8 s
 | fin (hm:¬B8 m) (ha:∀x,x<m->¬B8 x) (zs:List Nat) (hn:zs.Nodup) (hD:∀x,B8 x->x∈zs) (L:Lb) (s':S) (p:Jv C ops zs L B8 s s')
   (N:Nat) (f2:Fr { s' with nid:=N }) (n2:s'.n=s0.n/\s'.pins=s0.pins) (k2:k { s' with nid:=N } =I q):Way C ops m f inl k q s0 B8 s
def St.sa{β:Beta}{s:S}{a:Act}{w:World}(h:St B β stk s a w)(N:Nat):St B β stk { s with nid:=N } a w:=⟨h.T,h.stack,h.n,h.defers,h.pins,h.gs,h.hs⟩
def auV(hP:C.P=B.P)(hm:B.P.follows .mixedOrders=Y)(hC:Hn C B)(hI:JZ C B inl){m f:Nat}(hX:XOk ops m f){k:S->Option Ω}{s0:S}
  (he1:evX C (inl Ω) ops (B9 m) m (aft m ops.size) s0 k=I q)(he2:evX C (inl Ω) ops (B9 m++[f]) m (Kq m ops.size f) s0 k=I q)(hfr:Fr s0)
  {β:Beta}{a:Act}{w:World}(hst:St B β stk s0 a w){id:Nat}{Q:Exit->Act->World->Prop}
  (hQ:∀β a w s',St B β stk s' a w->Fr s'->s'.n=s0.n->s'.pins=s0.pins->k s'=I q->Q .normal a w):(S1 id ops Y).wp B.P Q a w:=by
 have hmf:=hX.mf;have hsz:=hX.sz;have N4:St B β stk s0 a { w with drawn:=w.drawn+1 } :=by
  have hk:Kp w β { w with drawn:=w.drawn+1 } β:=Kp.heap rfl;exact hst.keep hk (H':=s0.H)<|hst.hs.drew
 refine wp_region_any hm ?_;refine asg (λB8 a w=>∃β s,St B β stk s a w/\Way C ops m f (inl Ω) k q s0 B8 s) hX.dir ?_ ?_ ops.size (B9 ops.size) _ a _ aJO pF (λj=> ?_) aJO (λj oj hoj hj=>absurd (D4.2 (Ha.1 hoj).1) hj) ?_
 ·
  rintro B8 a w hD ⟨β,s,hs,hW⟩;cases hW with
  | one hm'=>exact absurd hm'<|hD _
  | two hm'=>exact absurd hm'<|hD _
  | fin _ _ zs hn _ L s' p N f2 n2 k2=>
   have:=p.done λx _=>hD x;subst this;exact hQ β a w _ (hs.sa N) f2 n2.1 n2.2 k2
 ·
  rintro B8 i a w o ⟨β,s,hs,hW⟩ hlt hcl hDi ho Ku;have hg:=hX.guard i o ho;have CN:∀ {zs:List Nat} {L:Lb} {s':S} {j:Nat},Jv C ops zs L B8 s s'->zs.Nodup->zs[j]? =I i->(∀s1,CQ C (AF S) o (L.b j) s I=I s1->Jv C ops zs L (λk=>B8 k/\k≠i) s1 s'->Way C ops m f (inl Ω) k q s0 (λk=>B8 k/\k≠i) s1)->
    wpOp B.P ops Q i (λa w=>∃β s,St B β stk s a w/\Way C ops m f (inl Ω) k q s0 (λk=>B8 k/\k≠i) s) a w:=by
   intro zs L s' j hp hz hj N2;obtain⟨s1,h1,h2,h3⟩:=hp.pick hz hj hDi ho hg Ku;refine qR hP hC ho hs (b:=L.b j) h2 (show ev1 C ops o (L.b j) s=I s1 by rw[awZ hg];exact h1) ?_;intro β' u w' N4;exact⟨β',s1,N4,N2 s1 h1 h3⟩
  have ndA:(B9 m++[f]).Nodup:=by
   rw[Jo];refine⟨pF,by simp,λx hx y hy e=> ?_⟩;have:=D4.1 hx;have:=C8.1 hy;omega
  have abU:B8 m->(∀x∈Kq m ops.size f,B8 x)->¬(m<i/\i≠f):=by
   rintro hm' hz ⟨h1,h2⟩;obtain⟨o',e,ho',he,hb,Vc⟩:=hX.late i h1 (hlt i hDi) h2;rw[ho]at ho';cases ho';refine Ku e he hb ?_;obtain h|⟨h3,h4⟩:=Vc
   .rw[h];exact hm'
   .exact hz _<|P1.2 ⟨⟨h3,by have:=hX.dir i o e ho he hb;have:=hlt i hDi;omega⟩,h4⟩
  have VY:i=m->∀x,x<m->¬B8 x:=by
   intro e x hx;have:∀n x,m - x=n->x<m->¬B8 x:=by
    intro n
    induction n using Nat.strongRecOn with
    | ind n ih=>
     intro x hn hx;obtain⟨j,oj,e',h1,h2,h3,h4,h5,h6⟩:=hX.cov x hx;obtain h7|h7:=Nat.lt_or_eq_of_le h2
     .have:=hcl j oj h3 (ih (m - j) J j rfl h7) e' h4 h5;rw[h6]at this;exact this
     .subst h7;rw[← e,ho]at h3;cases h3;have:=Ku e' h4 h5;rw[h6]at this;exact this
   exact this _ x rfl hx
  have aEm:∀ {b:Nat} {s1:S} {zs:List Nat},i=m->s=s1->Fr { s1 with nid:=b } ->(s1.n=s0.n/\s1.pins=s0.pins)->(∀x∈zs,B8 x/\x≠i)->zs.Nodup->(∀x,B8 x/\x≠i->x∈zs)->
    (∀om,ops[m]? =I om->evG C (inl Ω) ops om b { s1 with nid:=b } (K2 C ops zs k)=I q)->
    wpOp B.P ops Q i (λa w=>∃β s,St B β stk s a w/\Way C ops m f (inl Ω) k q s0 (λk=>B8 k/\k≠i) s) a w:=by
   intro b s1 zs e1 e2 hf1 hn1 hz hnd hin hk;subst e1;subst e2;refine aIg hP hC hI ho (s:={ s with nid:=b }) (hk o ho) (hs.sa b) hf1 ?_;intro β' u w' s' hs' hf' hn' hp' hk';obtain⟨L,s2,p,_,amG,hn2,hp2,hk2⟩:=qQ (s:={ s' with nid:=s'.nid+16 }) hk' (λj hj=>hf' j hj) (λk=>B8 k/\k≠i) hz;exact⟨β',_,hs'.sa _,.fin (λh=>h.2 rfl) (λx hx h=>VY rfl x hx h.1) zs hnd hin L s2 p _ amG ⟨hn2.trans<|hn'.trans hn1.1,hp2.trans<|hp'.trans hn1.2⟩ hk2⟩
  have nd1:(aft m ops.size).Nodup:=List.nodup_range';have nd2:(Kq m ops.size f).Nodup:=nd1.filter _;cases hW with
  | one hm' hf' hz L1 L2 s1 s2 b1 b2 p1 p2 f1 f2 n1 n2 k1 k2=>
   obtain h|h|h:=IX i m
   .refine CN p1 pF (aIQ h) λt1 e1 q1=> ?_;obtain⟨t2,e2,_,q2⟩:=p2.pick ndA (aGS h) hDi ho hg Ku;rw[b2,← b1,e1]at e2;cases e2;exact .one ⟨hm',J⟩ ⟨hf',J⟩ (λx hx=>⟨hz x hx,by have:=(P1.1 hx).1.1;omega⟩) L1 L2 s1 s2 b1 b2 q1 q2 f1 f2 n1 n2 k1 k2
   .have e:=p1.done λx hx=>VY h x<|D4.1 hx;refine aEm h e f1 n1 (λx hx=> ?_) nd1 (λx hx=> ?_) k1
    .have hx:=qn.1 hx;refine⟨?_,J⟩;by_cases e':x=f
     .rw[e'];exact hf'
     .exact hz x (P1.2 ⟨hx,e'⟩)
    .refine qn.2 ⟨?_,hlt x hx.1⟩;obtain h2|h2|h2:=IX x m
     .exact absurd hx.1 (VY h x h2)
     .exact absurd (h2.trans h.symm) hx.2
     .exact h2
   .by_cases e:i=f
    .refine CN p2 ndA (j:=m) (by rw[e];exact au9) λt1 e1 q1=> ?_;exact .two ⟨hm',J⟩ (λh=>h.2 e.symm) (λx hx=>⟨hz x hx,by have:=(P1.1 hx).2;omega⟩) L2 s2 q1 f2 n2 k2
    .exact absurd ⟨h,e⟩<|abU hm' hz
  | two hm' hf' hz L2 s2 p2 f2 n2 k2=>
   obtain h|h|h:=IX i m
   .refine CN p2 ndA (aGS h) λt1 e1 q1=> ?_;exact .two ⟨hm',J⟩ (λh=>hf' h.1) (λx hx=>⟨hz x hx,by have:=(P1.1 hx).1.1;omega⟩) L2 s2 q1 f2 n2 k2
   .have e:=p2.done λx hx=>by
     obtain hx|hx:=BL.1 hx
     .exact VY h x (D4.1 hx)
     .rw[C8.1 hx];exact hf'
    refine aEm h e f2 n2 (λx hx=>⟨hz x hx,by have:=(P1.1 hx).1.1;omega⟩) nd2 (λx hx=>P1.2 ⟨⟨?_,hlt x hx.1⟩,λe'=>hf'<|e'▸hx.1⟩) k2;obtain h2|h2|h2:=IX x m
    .exact absurd hx.1 (VY h x h2)
    .exact absurd (h2.trans h.symm) hx.2
    .exact h2
   .by_cases e:i=f
    .exact absurd (e▸hDi) hf'
    .exact absurd ⟨h,e⟩<|abU hm' hz
  | fin hm' ha zs hn hD L s' p N f2 n2 k2=>
   obtain⟨j,hj⟩:=p8.1<|hD i hDi;refine CN p hn hj λt1 e1 q1=> ?_;exact .fin (λh=>hm' h.1) (λx hx h=>ha x hx h.1) zs hn (λx hx=>hD x hx.1) L s' q1 N f2 n2 k2
 .rw[D4];constructor
  .intro h;exact⟨h,by simp[h]⟩
  .exact λh=>h.1
 ·
  obtain⟨om,hom⟩:∃o,ops[m]? =I o:=⟨ops[m],by simp[show m<ops.size by omega]⟩;unfold evX at he1 he2;obtain⟨L1,s1,p1,b1,fr1,n1,pn1,k1⟩:=qQ he1 hfr (λk=>k∈B9 ops.size) (λx hx=>D4.2 (by have:=D4.1 hx;omega));obtain⟨L2,s2,p2,b2,fr2,n2,pn2,k2⟩:=qQ he2 hfr (λk=>k∈B9 ops.size) (λx hx=>D4.2 (by
   obtain h|h:=BL.1 hx
   .have:=D4.1 h;omega
   .rw[C8.1 h];exact hsz))
  have l1:(B9 m).length=m:=by simp
  have l2:(B9 m++[f]).length=m+1:=by simp
  rw[l1]at fr1 k1;rw[l2]at fr2 k2;simp only[hom]at k1 k2;exact⟨β,s0,N4,.one (D4.2 J) (D4.2 hsz) (λx hx=>D4.2 (P1.1 hx).1.2) L1 L2 s1 s2 b1 b2 p1 p2 fr1 fr2 ⟨n1,pn1⟩ ⟨n2,pn2⟩
   (λo h=>by rw[hom]at h;cases h;exact k1) (λo h=>by rw[hom]at h;cases h;exact k2)⟩
end
end Go.VS
namespace Go.VS
open Go
section
variable {C:Cx} {B:Be} {β:Beta} {H:Hp} {w w':World} {M:Nat->Prop} {stk:List (Array Value)} {s s':S} {a:Act} {P:Program} {e e':Nat->Value} {inl:(Ω:Type)->Inl Ω}
def avK{P:Program}(hP:C.P=P){f:FuncId}{fn:Func}{body:Code}(hf:P.funcs[f]? =I fn)(Ks:(fn.name == "runtime.NumGoroutine")=A0)
  (hb:fn.body=I body){m:Db}(hok:okM m fn.ntmps=Y)
  (hw:∀(x:LTs m.ps) (r:LTs m.rs×LTs (B3 m.ps)),m.g x=I r->∀(B:Be),B.P=P->∀(β:Beta) (a:Act) (w:World) (Q:Exit->Act->World->Prop),St B β [] (SJ fn.ntmps m.ps x) a w->Fr (SJ fn.ntmps m.ps x)->
   KOK B [] fn.ntmps (EA 0 m.ps) { nrm:=fin C.P fn m,ret:=fin C.P fn m,ext:=λ_ _=>G } r Q->body.wp B.P Q a w):H4 P f m:=by
 refine⟨Ow hf Ks hb,λx r hx w Z args os hr hnd hbl hZ hgl=> ?_⟩;have hw:=hw x r hx;have UU:=hok;simp only[okM,AD]at UU;obtain⟨⟨⟨hps,hrs⟩,hn⟩,_⟩:=UU;have hn:=Dg hn;have hlen:=hr.length
 let B:Be:={ P:=P,w0:=w,O:=λb=>b∈B0 os,tm0:=ar args,Z:=Z,gl:=hgl }
 have Rg:Num (Hx Z os) 0 os:=qN Z os;obtain⟨k1,k2,k3⟩:=aD (β:=Hx Z os) (E:=λ_=> .un) (M:=λb=>b∈B0 os\/Z b) (P:=P) (w:=w) (e:=ar args) (λb hb=>qk (B:=B) hb) m.ps (λ_=>G) 0 x args os hps hr Rg (λt _=>trivial);have hi:SJ fn.ntmps m.ps x=(match Al (λ_=> .un) (λ_=>G) 0 m.ps x with
  | (vs,H,b)=>{ n:=fn.ntmps,T:=λt=>(vs[t]?).getD Dv,H:=H,nid:=b,st:=[],pins:=EA 0 m.ps,gs:=λ_=>A0 }):=rfl
 rw[hi]at hw;generalize Al (λ_=> .un) (λ_=>G) 0 m.ps x=q at *;obtain⟨vs,H,b⟩:=q;simp only at hw k1 k2 k3;have hH:Hs B (Hx Z os) H w:={
  ES:=λid ob ho=>by
   by_cases h:id<os.length
   .obtain⟨ob',h1,h2⟩:=k3.2 id (D5 _) J;rw[h1]at ho;cases ho;exact h2
   .rw[k3.1 id J]at ho;cases ho
  dom:=λid p hp=>by
   have h:id<os.length:=(BN.1<|show os[id]? =I p from hp).1;obtain⟨ob',h1,_⟩:=k3.2 id (D5 _) J;exact⟨ob',h1⟩
  inj:=λi j p q a a' hi hj=>aB hnd i j p q a a' hi hj
  old:=λb hb=>⟨.inl<|NY hb,(hbl b<|NY hb).1⟩
  os:=rfl
  tape:=rfl
  output:=rfl
  size:=Aw _
  block:=λ_ _ _=>rfl
  z:=rfl
  zn:=λid p a hp ha=>(hbl _<|NY (Z:=Z) ⟨id,p.1,p.2,a,hp,ha,rfl⟩).2
  zl:=hZ
  pk:=Pk.refl _ _ }
 refine calls_of_wp hf hb ?_;have hst:St B (Hx Z os) [] { n:=fn.ntmps,T:=λt=>(vs[t]?).getD Dv,H:=H,nid:=b,st:=[],pins:=EA 0 m.ps,gs:=λ_=>A0 } { tmps:=args.toArray++Rk (fn.ntmps - args.toArray.size) undef,defers:=[] } w:=by
  refine⟨λt=> ?_,⟨rfl,λi T' tm h=>by simp at h⟩, ?_,rfl,λt _=>Tj args _ t,λt g want y hy=> ?_,hH⟩
  .rw[Tj];show RT w _ _ ((vs[t]?).getD Dv) _;cases hv:vs[t]? with
   | none=>
    have:args.length<=t:=by
     rw[k1.1];exact bC.1 hv
    show RT w _ _ Dv (ar args t);have e0:ar args t=undef:=by simp[ar,Hz this]
    rw[e0];rfl
   | some c=>
    have hlt:t<args.length:=by rw[k1.1];exact(BN.1 hv).1
    have hu:args[t]? =I (ar args t):=by simp[ar,hlt]
    exact(k1.2 t c _ hv hu).au
  .simp;omega
  .have hy:(vs[t]?).getD Dv= .gd g want y:=hy;cases hv:vs[t]? with
   | none=>rw[hv]at hy;cases hy
   | some c=>
    rw[hv]at hy;have hy:c= .gd g want y:=hy;have hlt:t<args.length:=by rw[k1.1];exact(BN.1 hv).1
    have hu:args[t]? =I (ar args t):=by simp[ar,hlt]
    have:=k1.2 t c _ hv hu;rw[hy]at this;exact this.elim
 refine hw B rfl _ _ _ _ hst (λj hj=>k3.1 j<|.inr (by have hj:b<=j:=hj;omega)) ⟨?_, ?_, ?_⟩
 .intro β' a' w' s' h1 h2 h3 h4 h5;obtain⟨v',i1,i2⟩:=bo (B:=B) h1 rfl rfl hlen h4 hok (show fin P fn m s'=I r by rw[← hP];exact h5);exact⟨h1.defers,v',i1,v',rfl,i2⟩
 .intro β' a' w' s' h1 h2 h3 h4 h5;obtain⟨v',i1,i2⟩:=bo (B:=B) h1 rfl rfl hlen h4 hok (show fin P fn m s'=I r by rw[← hP];exact h5);exact⟨h1.defers,v',i1,v',rfl,i2⟩
 .intro id β' a' w' s' h1 h2 h3 h4 h5;cases h5
def Py(C:Cx)(inl:(Ω:Type)->Inl Ω)(fn:Func)(ys:List Nat)(l:Nat)(zs:List Nat)(m:Db)(x:LTs m.ps):Option (LTs m.rs×LTs (B3 m.ps)):=
 match fn.body with
 | some (.seq (.region _ o0 A0) (.seq (.region _ ops Y) rest))=>
  (Pq C (inl S) o0 o0.toList (SJ fn.ntmps m.ps x) I).bind λs1=>evX C (inl _) ops ys l zs s1 λs'=>evk C inl rest _ .nil { nrm:=fin C.P fn m,ret:=fin C.P fn m,ext:=λ_ _=>G } s'
 | _=>G
def bnd(e:Edge):Bool:=G2 .any e
def dC(ops:Array Oper)(m f:Nat):Bool:=
 Ib m f&&Ib f ops.size&&(B9 ops.size).all (λi=>match ops[i]? with
  | some o=>o.guard.isNone&&o.after.toList.all (λe=> !(bnd e)||Ib e.on i)&&
   (!(Ib m i)||Ai i f||o.after.toList.any (λe=>bnd e&&(Ai e.on m||(Ib m e.on&& !(Ai e.on f)))))
  | none=>Y)&&
 (B9 m).all (λi=>(B9<|m+1).any λj=>Ib i j&&match ops[j]? with
  | some o=>o.after.toList.any λe=>bnd e&&Ai e.on i
  | none=>A0)
def ay6{ops:Array Oper}{m f:Nat}(h:dC ops m f=Y):XOk ops m f:=by
 simp only[dC,AD,CZ]at h;obtain⟨⟨⟨h1,h2⟩,h3⟩,h4⟩:=h;have h1:m<f:=by simpa[PZ] using h1
 have h2:f<ops.size:=by simpa[PZ] using h2
 have at_:∀(i:Nat) (o:Oper),ops[i]? =I o->(o.guard.isNone=Y/\ ∀e∈o.after.toList,(!(bnd e)||Ib e.on i)=Y)/\
   (!(Ib m i)||Ai i f||o.after.toList.any (λe=>bnd e&&(Ai e.on m||(Ib m e.on&& !(Ai e.on f)))))=Y:=by
  intro i o ho;have:=h3 i<|D4.2 (Ha.1 ho).1;rw[ho]at this;simp only[AD,CZ]at this;exact this
 refine⟨h1,h2,λi o ho=> ?_,λi o e ho he hb=> ?_,λi hi=> ?_,λi hi1 hi2 hi3=> ?_⟩
 .simpa using (at_ i o ho).1.1
 .have:=(at_ i o ho).1.2 e (by simpa using he);rw[show bnd e=Y from hb]at this;simpa[PZ] using this
 .have:=h4 i<|D4.2 hi;obtain⟨j,hj,hc⟩:=Hd.1 this;rw[AD]at hc;obtain⟨c1,c2⟩:=hc;cases ho:ops[j]? with
  | none=>rw[ho]at c2;cases c2
  | some o=>
   rw[ho]at c2;obtain⟨e,he,hc⟩:=Hd.1 c2;rw[AD]at hc;exact⟨j,o,e,by simpa[PZ] using c1,by have:=D4.1 hj;omega,ho,by simpa using he,hc.1,by simpa using hc.2⟩
 .obtain⟨o,ho⟩:∃o,ops[i]? =I o:=⟨ops[i],by simp[hi2]⟩;have:=(at_ i o ho).2;have e1:Ib m i=Y:=by simpa[PZ] using hi1
  have e2:Ai i f=A0:=by rw[← Gj,Hc];exact hi3
  rw[e1,e2]at this;simp only[AB,Bl]at this;obtain⟨e,he,hc⟩:=Hd.1 this;rw[AD,Bp,AD]at hc;refine⟨o,e,ho,by simpa using he,hc.1, ?_⟩;obtain h|h:=hc.2
  .exact .inl (by simpa using h)
  .refine .inr ⟨by simpa[PZ] using h.1,λh'=> ?_⟩;rw[h']at h;simp at h
def axH{P:Program}(hP:C.P=P)(hm:P.follows .mixedOrders=Y)(hC:∀B:Be,B.P=P->Hn C B)(hI:∀B:Be,B.P=P->JZ C B inl){f:FuncId}{fn:Func}
  (hf:P.funcs[f]? =I fn)(Ks:(fn.name == "runtime.NumGoroutine")=A0){i0 i1:Nat}{o0 ops:Array Oper}{rest:Code}
  (hb:fn.body=I (.seq (.region i0 o0 A0)<|.seq (.region i1 ops Y) rest)){m:Db}(hok:okM m fn.ntmps=Y){l g:Nat}(hx:dC ops l g=Y)
  (h1:∀x,Py C inl fn (B9 l) l (aft l ops.size) m x=m.g x)(h2:∀x,Py C inl fn (B9 l++[g]) l (Kq l ops.size g) m x=m.g x):H4 P f m:=by
 refine avK hP hf Ks hb hok λx r hr B hB β a w Q hst hfr hk=> ?_;have e1:=h1 x;have e2:=h2 x;rw[hr]at e1 e2;unfold Py at e1 e2;rw[hb]at e1 e2;simp only at e1 e2;obtain⟨s1,a1,a2⟩:=Aj.1 e1;obtain⟨s1',b1,b2⟩:=Aj.1 e2;rw[a1]at b1;cases b1;have hPB:C.P=B.P:=by rw[hP,hB]
 have hmB:B.P.follows .mixedOrders=Y:=by rw[hB];exact hm
 have hCB:=hC B hB;have hIB:=hI B hB;refine wp_seq ?_;refine aEC hPB hCB hIB a1 hfr hst ?_;intro β' a' w' s' k1 k2 k3 k4 k5;cases k5;refine wp_seq ?_;refine auV hPB hmB hCB hIB (ay6 hx) a2 b2 k2 k1 ?_;intro β2 a2' w2 s2 j1 j2 j3 j4 j5;exact ZQ hPB hmB hCB hIB rest .nil _ s2 r j5 j1 j2 (GQ _ _) (by rw[j3,j4,k3,k4];exact hk)
def soX{P:Program}{C:Cx}{inl:(Ω:Type)->Inl Ω}{f:Nat}{d:Option Nat}{fn:Func}{m:Db}(hC:OKC P C inl){i0 i1:Nat}{o0 ops:Array Oper}{rest:Code}
  (hf:fnB P f fn m=(I fn,A0,Y,Y))(hb:fn.body=I (.seq (.region i0 o0 A0)<|.seq (.region i1 ops Y) rest)){l g:Nat}(hx:dC ops l g=Y)
  (h1:∀x,Py C inl fn (B9 l) l (aft l ops.size) m x=m.g x)(h2:∀x,Py C inl fn (B9 l++[g]) l (Kq l ops.size g) m x=m.g x):SQ P (f,d,m):=by
 simp only[fnB,CV]at hf;exact⟨axH hC.p hC.m hC.c hC.i hf.1 hf.2.1 hb hf.2.2.1 hx h1 h2,hf.2.2.2⟩
end
end Go.VS
namespace Go.VS
open Go
section
variable {P:Program} {w:World} {H:Type} {Ex:TypeId×Value->H} {base:Nat} {spare:Nat->Bool} {held:Bool}
def Qj{h:Sh}{c:CT}{t e:TypeId}{v:Value}{d:DataW H}{ps:List MemPlace}{r:Reach}{b0:Nat}(hs:sA h=I c)(hok:VB P 60 t c=Y)(ht:P.underlying t=I (.slice e))(Eo:Ia P w r b0 t v)
  (hd:DataW.Trod Ex P w base spare held t v d ps):∃x:LT h,Lj h x/\ ∀(M:Nat->Prop) (e:Nat->Value),(∀b,¬M b)->Rel P w M e h x v []:=by
 obtain⟨a,len,cap,rfl⟩:=Go.WideShapes.okWide_slice ht Eo;obtain⟨Bk,hf⟩:=hd;exact atN hs<|aGM 60 t c hok ⟨Bk,d,ps,hf⟩
end
def TS{H:Type}{enc:TypeId×Value->H}{a:Assume}{C:Checked}{os:Os}{f:FuncId}{fn:Func}{s:ChangeSpec}{conds:List PathCond}{apart fresh handsOn again:Bool}{X:World->Array Value->Prop}
  (hX:∀(w w':World) (args:Array Value),w.heap=w'.heap->X w args->X w' args)
  (own:ownKnob C.prog.godebug=G)(started:os.Started)(akp:C.prog.inits.idxOf? f=G)(hfn:C.prog.funcs[f]? =I fn)
  (witness:∃(w:World) (tape:Tape) (i:Input),w.os=os/\(w.forCall tape i).Shaped C.prog/\i.vars=[]/\Input.okWide C.prog (w.forCall tape i) .any w.heap.size f i/\
   ((s.pre enc C.prog fn conds apart (w.forCall tape i).memory i.args/\X (w.forCall tape i).memory i.args)/\sizedMet enc C.prog fn (IW s) apart (w.forCall tape i).memory i.args)/\a.holds C.prog (lone (Frame.enter C.prog f i.args .normal) [] (w.forCall tape i)))
  (azo:∀(W:World) (args:Array Value) (b0:Nat) (ds gs:List (DataW H)) (before:List MemPlace),W.ShapedOpen C.prog->(∀(j:Nat) t v,fn.params[j]? =I t->args[j]? =I v->Ia C.prog W .any b0 t v)->
   DataW.Whole enc C.prog fn.params.toList s.vars apart W args.toList ds gs before->X W args->
   Calls C.prog f args W λe W'=>∃v,e= .returned v/\s.post enc C.prog fn apart fresh handsOn again W args v W'):
  ReturnsInHanded a C os f .any (λw args=>(s.pre enc C.prog fn conds apart w args/\X w args)/\sizedMet enc C.prog fn (IW s) apart w args) (s.post enc C.prog fn apart fresh handsOn again):=by
 refine returnsInHanded_of_calls own started akp witness ?_;intro w tape i _ hsh _ hok am2 _;obtain⟨_,_,_,fn',amI,_,_,_,_,Eo⟩:=hok;have e:fn'=fn:=Ck<|amI.symm.trans hfn;subst e;obtain⟨⟨⟨ds,gs,before,hw,_⟩,hx⟩,_⟩:=am2;refine(azo (w.forCall tape i) i.args _ ds gs before hsh Eo (DataW.Whole.of_heap (w':=w.forCall tape i) (by rfl) hw)<|hX _ _ _ (by rfl) hx).mono λe W' ⟨v,he,hp⟩=> ?_;subst he;exact ChangeSpec.post_blind hp
end Go.VS
end
