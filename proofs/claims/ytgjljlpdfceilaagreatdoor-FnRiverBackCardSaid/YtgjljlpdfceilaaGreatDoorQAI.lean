/- Part 3. -/
import Derived.Tactics
import Derived.Test.YtgjljlpdfceilaaGreatDoorQAE
import Derived.ChangeShapes
import Derived.Lib.Split
import Derived.Lib.SplitLaws
import Derived.Lib.IndexMore
import Derived.Deep.Draws
import Derived.Sort.Grow
import Derived.HandedShaped
import Derived.LaidSub
import Derived.MakeChecks
import Derived.Carry
open Array renaming getD_eq_getD_getElem?->TG,getElem?_append_left->Lt,getElem?_eq_some_iff->HC,getElem?_toList->TC,length_toList->Ez,replicate->QW,size_append->QY,size_replicate->lv
open Bool renaming and_eq_true->AD,false->A0,false_eq_true->Hc,false_or->Bk,not_eq_true'->CE,not_eq_true->GL,not_true->AB,or_eq_false_iff->Mx,or_eq_true->C1,true->Y
open Classical renaming choose->My,choose_spec->Il
open Decidable renaming decide->U
open Go.Calls renaming mono->M4
open Go.Code renaming region->Qa
open Go.DataW renaming trod->Gg
open Go.Instr renaming loadAt->Mt,sureAddr->JO
open Go.Lib renaming TabIs->M3,cellsOf->Yp,countB->N3,cut->FQ,itoa->B3,pow10Tab->N4,splitB->Ip
open Go.Lit renaming int->N5
open Go.MakeChecks renaming laidMetH_plain->lV
open Go.OpenSpec renaming ofChange->Ye
open Go.Region renaming binds->Fh,ready->Oo,wanted->JM
open Go.Result renaming andThen_ok->F2
open Go.Sem renaming run_bind->Ef,run_pure->Fj
open Go.Sort renaming grow->Yb
open Go.Value renaming okWide->Ym,pointer->Mw,string->Yl
open Go.World renaming cell?->M1,cell?_of_block->TL,drewN->lm
open Int renaming toNat_of_nonneg->lX
open List renaming all_cons->Om,all_eq_true->DK,any_eq_true->K0,append_assoc->C2,append_nil->CJ,append_of_mem->TQ,cons_append->Kr,drop_drop->Iq,drop_eq_getElem_cons->TH,drop_eq_nil_of_le->M0,drop_zero->Ik,eq_nil_of_length_eq_zero->Dw,filterMap_append->Lw,filterMap_cons->lP,getD_eq_getElem?_getD->B9,getElem?_append_left->IE,getElem?_append_right->FO,getElem?_eq_getElem->Av,getElem?_eq_none->He,getElem?_eq_none_iff->Yf,getElem?_eq_some_iff->BO,getElem?_map->D7,getElem?_of_mem->aBe,getElem?_range->Gj,getElem?_toArray->TD,getElem_mem->Cd,length_append->Au,length_cons->Bj,mapM_cons->TN,map_append->Eg,map_congr_left->Gi,map_cons->DM,mem_append->BM,mem_append_left->Bv,mem_append_right->CP,mem_cons->Bl,mem_cons_of_mem->Ai,mem_cons_self->An,mem_filter->FP,mem_filterMap->GO,mem_iff_getElem?->ln,mem_map->Bu,mem_of_getElem?->Ci,mem_range->Cu,mem_singleton->CL,nodup_append->JN,nodup_cons->IB,nodup_range->lJ,pairwise_append->N1,pairwise_cons->K6,pairwise_iff_getElem->K3,pairwise_lt_range->QQ,range->B7,range_succ->IC,reverse_reverse->lx,size_toArray->Kn,sublist_append_right->YY,take_append_drop->JK
open List.Perm renaming append_left->YX
open List.Sublist renaming refl->ET
open List.cons renaming injEq->Ly
open Nat renaming add_assoc->D8,add_comm->N2,add_mul->EG,beq->Ag,beq_eq->HD,ble->Dx,blt->IG,blt_eq->Oq,le_add_right->Ya,le_of_ble_eq_true->DW,le_refl->Ar,le_trans->CV,lor->BN,lt_of_lt_of_le->Gf,lt_trichotomy->IA,mul_le_mul_right->E6,ne_of_lt->Ok,sub_zero->JR,zero_add->DY,zero_le->D1,zero_mul->TW
open Ne renaming symm->Ku
open Option renaming bind_eq_some_iff->Ah,bind_some->A6,map_eq_some_iff->D6,none->G,some->I
open Option.some renaming inj->Eh
open Prod.mk renaming injEq->CK
set_option linter.all false
noncomputable section
namespace Go.VS
open Go
section
variable {C:Cx} {B:Bb} {ops:Array Oper} {stk:List (Array Value)} {s s' s0:S} {b b0:Nat} {Ω:Type} {q:Ω}
def aqg{m:DO}{d:Option Nat}{as:List AV}{k:S->Option Ω}:HT m s b d as k=(HT m s b d as I).bind k:=by
 unfold HT;simp only;split
 .rename_i x hx hn;cases m.g x with
  | none=>rfl
  | some r=>
   simp only[A6];split
   .rfl
   .rfl
 .rfl
def SF{r:PR}{f:AV->List Ob->S}{k:S->Option Ω}:(match r with
   | some (q,v,os)=>if q then k (f v os) else G
   | none=>G)=(match r with
   | some (q,v,os)=>if q then I (f v os) else G
   | none=>G).bind k:=by
 cases r with
 | none=>rfl
 | some r=>obtain⟨q,v,os⟩:=r;cases q<;>rfl
def aCN{o:Oper}{k:S->Option Ω}(inl:Inl Ω)(hi:∀f c,o.op= .call c->c.callee= .value (.func f)->C.Γ f o.dst=G->∀d as s k,inl f d as s k=G):
  CG C inl o b s k=(CG C (AF S) o b s I).bind k:=by
 unfold CG;split
 .rfl
 generalize ho:o.op=op at *;cases op
 case store t p x=>
  simp only;split<;>rfl
 case call c=>
  simp only;split
  .rename_i f hf;split
   .exact aqg
   .rename_i hm;rw[hi f c rfl hf hm];rfl
  .split
   .split<;>rfl
   .rfl
  .split<;>rfl
  .first|rfl|exact SF (k:=k) (f:=λv os=>({ s with H:=Eo s.H b os } :S).put o.dst v)
 case slice t x lo hi mx=>
  cases mx with
  | some m=>
   simp only
   first|rfl|exact SF (k:=k) (f:=λv os=>({ s with H:=Eo s.H b os } :S).put o.dst v)
  | none=>
   simp only;split
   .split
    .rfl
    .split
     .split<;>rfl
     .rfl
   .first|rfl|exact SF (k:=k) (f:=λv os=>({ s with H:=Eo s.H b os } :S).put o.dst v)
 case buildSlice t n ps=>
  simp only;generalize (Ke s.ev ps.toList).foldl S.freeze s=s3;exact SF (k:=k) (f:=λv os=>({ s3 with H:=Eo s3.H b os } :S).put o.dst v)
 all_goals (simp only;first|rfl|exact SF (k:=k) (f:=λv os=>({ s with H:=Eo s.H b os } :S).put o.dst v))
def av6{o:Oper}{k:S->Option Ω}:evG C (ZH Ω) ops o b s k=(ev1 C ops o b s).bind k:=by
 have h:∀b s,∀k:S->Option Ω,CG C (ZH Ω) o b s k=(CG C (AF S) o b s I).bind k:=λb s k=>aCN _ λ_ _ _ _ _ _ _ _ _=>rfl;unfold ev1 evG;split
 .exact h _ _ _
 .split
  .rfl
  .split
   .split
    .split<;>rfl
    .rfl
   .rfl
  .split
   .rename_i c _;simp only[h];cases hh:s.has o.dst<;>(split<;>split<;>rfl)
   .split<;>rfl
   .rfl
def ZO(C:Cx)(ops:Array Oper):List Rec->S->S->Prop
 | [],s,s'=>s=s'
 | r::l,s,s'=>∃s1,ev1 C ops r.o r.b s=I s1/\((E4 C s r.o=G->r.W=r.F/\ ∀i∈JH C s r.o,Mm r.K i)/\(∀l,E4 C s r.o=I l->∀i∈l,Mm r.W i/\Mm r.K i)/\ ∀id,Mm (nm r.b) id->Mm r.K id)/\vOf s1 r.o.dst=I r.V/\ZO C ops l s1 s'
def kH{k:S->Option Ω}:∀(l:List Oper) (i b:Nat) (acc:List Rec) (s:S),evD C ops s0 l i b acc s k=I q->CX C ops s0 b0 acc->i=acc.length->b=b0+16 * i->(∀j,l[j]? =ops[i+j]?)->
  ∃rs s',ZO C ops rs s s'/\CX C ops s0 b0 (rs.reverse++acc)/\rs.length=l.length/\k { s' with nid:=b0+16 * (i+l.length) } =I q
 | [],i,b,acc,s,h,hg,hi,hb,hl=>⟨[],s,rfl,hg,rfl,by
   have h:k { s with nid:=b } =I q:=h;rw[hb]at h;exact h⟩
 | o::l,i,b,acc,s,h,hg,hi,hb,hl=>by
  unfold evD at h;split at h
  .cases h
  rename_i r hr;split at h
  .rename_i hc;rw[av6]at h;obtain⟨s1,h1,h⟩:=Ah.1 h;obtain⟨V,hV,h⟩:=Ah.1 h;simp only[AD,DK]at hc;unfold abM at hr;obtain⟨anc,ha,hr⟩:=Ah.1 hr;obtain⟨ids,P7,hr⟩:=Ah.1 hr;obtain⟨c,hcl,hr⟩:=Ah.1 hr;simp only at hr;split at hr
   case h_2=>cases hr
   rename_i ayo;have hr:=(Eh hr).symm;have ho:ops[i]? =I o:=by simpa using (hl 0).symm
   have hg':CX C ops s0 b0 ({ r with V:=V } ::acc):=by
    refine⟨hg, ?_, ?_, ?_, ?_,⟨ids,c, ?_,hcl, ?_⟩, ?_,λx hx=>hc.1.1 x hx, ?_, ?_⟩<;>rw[hr]
    .exact hi
    .show b=_;rw[hb,hi]
    .exact ho
    .exact ha
    .exact P7
    .have gen:∀F0:Nat,(mvO o=A0/\(match mvO o with
       | true=>BN (msk ids) (nm b)
       | false=>F0)=F0/\(((match mvO o with
       | true=>nm b
       | false=>match pur o,o.guard with
        | true,G=>BN (msk ids) (nm b)
        | _,_=>(match mvO o with
         | true=>BN (msk ids) (nm b)
         | false=>F0))=BN (msk ids) (nm b)/\pur o=Y/\o.guard=G)\/(match mvO o with
       | true=>nm b
       | false=>match pur o,o.guard with
        | true,G=>BN (msk ids) (nm b)
        | _,_=>(match mvO o with
         | true=>BN (msk ids) (nm b)
         | false=>F0))=(match mvO o with
       | true=>BN (msk ids) (nm b)
       | false=>F0)))\/(mvO o=Y/\(match mvO o with
       | true=>BN (msk ids) (nm b)
       | false=>F0)=BN (msk ids) (nm b)/\(match mvO o with
       | true=>nm b
       | false=>match pur o,o.guard with
        | true,G=>BN (msk ids) (nm b)
        | _,_=>(match mvO o with
         | true=>BN (msk ids) (nm b)
         | false=>F0))=nm b):=by
      intro F0;cases hmv:mvO o with
      | true=>exact .inr ⟨rfl,rfl,rfl⟩
      | false=>
       refine .inl ⟨rfl,rfl, ?_⟩;cases hpu:pur o with
       | false=>exact .inr rfl
       | true=>
        cases hgu:o.guard with
        | none=>exact .inl ⟨rfl,rfl,rfl⟩
        | some x=>exact .inr rfl
     exact gen _
    .refine⟨ayo,λid hid=> ?_⟩;show Mm (match E4 C s o with
      | none=>_
      | some l=>BN (msk l) (nm b)) id
     cases E4 C s o with
     | none=>
      show Mm (match mvO o with
       | true=>BN (msk ids) (nm b)
       | false=>_) id
      cases mvO o with
      | false=>
       refine SI _ _ id ?_;show(BN _ _).testBit id=Y;rw[Ea,show(nm b).testBit id=Y from hid];simp
      | true=>
       show(BN _ _).testBit id=Y;rw[Ea,show(nm b).testBit id=Y from hid];simp
     | some l=>
      show(BN _ _).testBit id=Y;rw[Ea,show(nm b).testBit id=Y from hid];simp
    .exact hc.1.2
    .exact hc.2
   obtain⟨rs,s',k1,k2,k3,k4⟩:=kH l (i+1) (b+16) _ s1 h hg' (by simp[hi]) J (λj=>by
    have:=hl<|j+1;simpa[D8,N2 1 j] using this)
   refine⟨{ r with V:=V } ::rs,s',⟨s1, ?_, ?_, ?_,k1⟩, ?_,by simp[k3], ?_⟩
   .rw[hr];exact h1
   .rw[hr];refine⟨λhe=>⟨?_,λj hj=> ?_⟩,λl he j hj=> ?_,λid hid=> ?_⟩
    .have he:E4 C s o=G:=he;show(match E4 C s o with
      | none=>_
      | some l=>BN (msk l) (nm b))=_
     rw[he]
    .have he:E4 C s o=G:=he;show Mm (match E4 C s o with
      | none=>BN (msk<|JH C s o) (nm b)
      | some l=>BN (msk l) (nm b)) j
     rw[he];show(BN _ _).testBit j=Y;rw[Ea,Mf.2 hj];rfl
    .have he:E4 C s o=I l:=he;have key:Mm (BN (msk l)<|nm b) j:=by
      show(BN _ _).testBit j=Y;rw[Ea,Mf.2 hj];rfl
     constructor
     .show Mm (match E4 C s o with
       | none=>_
       | some l=>BN (msk l) (nm b)) j
      rw[he];exact key
     .show Mm (match E4 C s o with
       | none=>_
       | some l=>BN (msk l) (nm b)) j
      rw[he];exact key
    .show Mm (match E4 C s o with
      | none=>BN (msk<|JH C s o) (nm b)
      | some l=>BN (msk l) (nm b)) id
     have hid:(nm b).testBit id=Y:=hid;cases E4 C s o with
     | none=>
      show(BN _ _).testBit id=Y;rw[Ea,hid];simp
     | some l=>
      show(BN _ _).testBit id=Y;rw[Ea,hid];simp
   .rw[hr];exact hV
   .simpa using k2
   .rw[show i+(o::l).length=i+1+l.length by simp;omega];exact k4
  .cases h
def aBG{acc:List Rec}:∀ {ts l:List Nat},ZV s0 acc ts=I l->∀t∈ts,∃a,(match Qh t acc with
  | some r=>I r.V
  | none=>Tk (s0.T t))=I a/\ ∀i∈a,i∈l
 | [],_,_,t,ht=>by cases ht
 | t0::ts,l,h,t,ht=>by
  obtain⟨a,h1,h⟩:=Ah.1 h;obtain⟨b,h2,h⟩:=Ah.1 h;cases h;obtain rfl|ht:=Bl.1 ht
  .exact⟨a,h1,λi hi=>Bv _ hi⟩
  .obtain⟨a',h3,h4⟩:=aBG h2 t ht;exact⟨a',h3,λi hi=>CP _<|h4 i hi⟩
def CX.fit{acc:List Rec}(h:CX C ops s0 b0 acc)(hn:acc.length=ops.size)(hfr:∀j,b0<=j->s0.H j=G){i:Nat}:Fit ops (C0 acc b0) (B7 ops.size) s0 i:=by
 intro o ho;obtain⟨r,hr,hi,rfl,fi⟩:=h.op hn ho;have e1:(C0 acc b0).F i=Mm r.F:=by funext id;simp only[C0,fi]
 have e2:(C0 acc b0).N i=Mm r.N:=by funext id;simp only[C0,fi]
 rw[e1,e2];have hNF:=h.N_F hr;refine⟨λt ht hd=> ?_,λid ob hid ho=> ?_,λid h1 _=>hfr id (by simp only[C0]at h1;omega)⟩
 rotate_left
 .cases hmv:mvO r.o with
  | false=>exact h.closed hfr r hr hmv id ob (hNF id hid) ho
  | true=>
   exfalso;obtain⟨HH,hg,_⟩:=h.mem r hr;obtain⟨_,k1,k2,_,_,⟨l,c,h1,h2,h3⟩,_⟩:=hg;obtain h3|h3:=h3
   .rw[hmv]at h3;cases h3.1
   .rw[h3.2.2]at hid;have:=Ll.1 hid;rw[hfr id J]at ho;cases ho
 obtain⟨HH,hg,LB,_,hlt⟩:=h.mem r hr;obtain⟨_,_,_,_,_,⟨l,c,h1,h2,h3⟩,_⟩:=hg;obtain⟨a,h4,h5⟩:=aBG h1 t ht;cases hf:Qh t HH with
 | some r'=>
  obtain⟨hm,PA⟩:=aCJ hf;have hm':=LB r' hm;obtain⟨aEX,hg2,_⟩:=h.mem r' hm';have ho':=hg2.2.2.2.1;have hR:(C0 acc b0).R r'.i i:=by
   have aO:=hlt r' hm;have hc:=h.chk hm' hr J;simp only[VS.chk,AD]at hc;simp only[C0,fi];cases hT:tst r.anc r'.i with
   | true=>exact mM.1 hT
   | false=>
    rw[hT]at hc;obtain⟨_,hc⟩:=hc;simp only[AD]at hc;exact absurd ht<|XE hc.1.2 t PA
  exact absurd PA<|hd r'.i (Cu.2 (HC.1 ho').1) hR r'.o ho'
 | none=>
  rw[hf]at h4;obtain⟨_,h3,h6⟩|⟨hmv,h3,h6⟩:=h3
  .have aca:InA (Mm r.F) (s0.T t):=Xy h4 λj hj=>by
    rw[h3];refine SI _ _ j ?_;show(BN _ _).testBit j=Y;rw[Ea,(Xq 4 l h2).1 j<|h5 j hj];rfl
   refine⟨aca,.inr ?_⟩;obtain h6|h6:=h6
   .refine Xy h4 λj hj=> ?_;rw[h6.1];show(BN _ _).testBit j=Y;rw[Ea,Mf.2<|h5 j hj];rfl
   .rw[h6];exact aca
  .simp only[mvO,AD]at hmv;refine⟨Xy h4 λj hj=> ?_,.inl hmv.1.1⟩;rw[h3];show(BN _ _).testBit j=Y;rw[Ea,Mf.2<|h5 j hj];rfl
def iT{acc:List Rec}(h:CX C ops s0 b0 acc)(hn:acc.length=ops.size):∀(rs:List Rec) (s s':S),ZO C ops rs s s'->(∀r∈rs,r∈acc)->(rs.map (·.i)).Pairwise (· < ·)->
  (∀r∈rs,Fit ops (C0 acc b0) (rs.map (·.i)) s r.i)->Run C ops (C0 acc b0) (rs.map (·.i)) s s'
 | [],s,s',hc,_,_,_=>by
  cases hc;exact .nil
 | r::rs,s,s',⟨s1,h1,h2,h3,h4⟩,hm,hp,hf=>by
  have hr:=hm r An;obtain⟨HH,hg,_⟩:=h.mem r hr;have ho:=hg.2.2.2.1;have hok:=hg.2.2.2.2.2.2.2.2.1;have hb:=(h.MD hr).1;have hrb:r.i<acc.length:=h.lt r hr;have fi:=h.find r hr;have nice:=h.nice hn;obtain⟨f1,f2,f3⟩:=hf r An r.o ho;have eb:(C0 acc b0).b r.i=r.b:=hb.symm;have hp':=K6.1 hp;have acN:∀t∈DD ops r.o,InA ((C0 acc b0).F r.i) (s.T t)/\(mov r.o.op=Y\/InA ((C0 acc b0).N r.i) (s.T t)):=λt ht=>f1 t ht λj hj hR oj hoj e=>by
   have hlt:=nice.lt _ _ hR;obtain e'|hj:=Bl.1 hj
   .have e':j=r.i:=e';omega
   .have h9:r.i<j:=hp'.1 j hj;omega
  have hrd:=λt ht=>(acN t ht).1;obtain⟨h21,h22,h23⟩:=h2;have hKn:∀j,r.b<=j->j<r.b+16->(C0 acc b0).K r.i j:=λj k1 k2=>by
   simp only[C0,fi];exact h23 j<|Ll.2 ⟨k1,k2⟩
  have hWn:∀j,r.b<=j->j<r.b+16->(C0 acc b0).W r.i j:=λj k1 k2=>nice.NW r.i j (by rw[eb];exact k1) (by rw[eb];exact k2);have hWF:∀id,Mm r.W id->Mm r.F id:=λid hid=>SU (h.MD hr).2.2.1 id hid;have hKW:∀id∈JH C s r.o,Mm r.F id:=λid hid=>by
   obtain⟨_,_,_,_,_,⟨l,c,_,_,h3⟩,_⟩:=hg;have hop:∀x∈r.o.op.operands,InA ((C0 acc b0).F r.i) (s.ev x):=λx hx=>by
    cases x with
    | tmp t=>exact hrd t<|Bv _<|S8 hx
    | const v=>exact ZG v
    | _=>exact .of1 trivial
   have ac5:pur r.o=Y->False:=λhp=>by
    unfold pur at hp;unfold JH at hid;cases ho2:r.o.op<;>rw[ho2]at hp hid<;>first|(cases hid;done)|(cases hp;done)
   obtain⟨_,_,h6|h6⟩|⟨hmv,_⟩:=h3
   .exact(ac5 h6.2.1).elim
   rotate_left
   .simp only[mvO,AD]at hmv;exact(ac5 hmv.1.2).elim
   .have hcl:DQ ((C0 acc b0).F r.i) s.H:=λid ob hid ho=>f2 id ob (by simp only[C0,fi]at hid ⊢; rw[h6];exact hid) ho;have:=awR hop hcl hid;simp only[C0,fi]at this;exact this
  obtain⟨g,v,es,a1,a2,a3,a4,a5⟩:=awO (F:=(C0 acc b0).F r.i) (N:=(C0 acc b0).N r.i) (WS:=λe=>(C0 acc b0).W r.i e.id/\(e.fk= .no\/(C0 acc b0).K r.i e.id)) hok hrd f2
   (λj k1 k2=>nice.WF _ _<|hWn j k1 k2) (λe k1 k2=>⟨hWn _ k1 k2,.inr<|hKn _ k1 k2⟩)
   ⟨λhe=>⟨λe hF hfk=>⟨by
     simp only[C0,fi]at hF ⊢;rw[(h21 he).1];exact hF,.inl hfk⟩,λe hk=>⟨by
     simp only[C0,fi];rw[(h21 he).1];exact hKW _ hk,.inr (by simp only[C0,fi];exact(h21 he).2 _ hk)⟩⟩,
    λl he e hl=>⟨by simp only[C0,fi];exact(h22 l he _ hl).1,.inr (by simp only[C0,fi];exact(h22 l he _ hl).2)⟩⟩
   (by
    obtain⟨_,_,_,_,_,⟨l,c,_,_,h3⟩,_⟩:=hg;obtain⟨_,_,h6|h6⟩|⟨hmv,_⟩:=h3
    .refine .inl ⟨h6.2.1,h6.2.2, ?_⟩;cases hmo:mov r.o.op with
     | true=>exact .inl rfl
     | false=>exact .inr λt ht=>(acN t ht).2.resolve_left λh=>by rw[hmo]at h;cases h
    rotate_left
    .simp only[mvO,AD]at hmv;exact .inl ⟨hmv.1.2,by simpa using hmv.2,.inl hmv.1.1⟩
    .refine .inr λid hid=> ?_;simp only[C0,fi]at hid ⊢;rw[h6];exact hid) h1
  have hst:Stp C ops r.o ((C0 acc b0).b r.i) ((C0 acc b0).F r.i) ((C0 acc b0).N r.i) ((C0 acc b0).W r.i) ((C0 acc b0).K r.i) ((C0 acc b0).V r.i) s s1:=by
   rw[eb];refine⟨g,v,es,a1,λt ht=> ?_,a2,a3,a4,a5⟩;rw[ht]at h3;have:s1.T t=v:=by rw[a4,ZR,A5 ht]
   rw[← this];refine Xy (show Tk (s1.T t)=I r.V from h3) λj hj=> ?_;simp only[C0,fi];exact hj
  refine .cons ho hst (iT h hn rs s1 s' h4 (λx hx=>hm x<|Ai _ hx) hp'.2 λx hx=> ?_);have hxi:r.i<x.i:=hp'.1 x.i<|Bu.2 ⟨x,hx,rfl⟩;exact(hf x<|Ai _ hx).step nice ho (Ok hxi) (λhR=>by have:=nice.lt _ _ hR;omega) hst λj hj=>by
   obtain e|hj:=Bl.1 hj
   .exact .inl e
   .exact .inr hj
def jH:∀(rs:List Rec) (s s':S) (m:Nat),ZO C ops rs s s'->(∀r∈rs,r.b+16<=m)->BD (λj=>j<m) s s'
 | [],s,s',m,hc,_=>by cases hc;exact BD.refl _ _
 | r::rs,s,s',m,⟨s1,h1,_,_,h4⟩,hb=>by
  have k1:=aCO h1;have hb1:=hb r An;have k1':BD (λj=>j<m) s s1:=⟨k1.nid,k1.n,k1.pins,λj hj e=>k1.nn j (λhh=>hj J) e⟩;exact k1'.trans<|jH rs s1 s' m h4 λx hx=>hb x<|Ai _ hx
def CX.places:∀ {acc:List Rec},CX C ops s0 b0 acc->acc.reverse.map (·.i)=B7 acc.length
 | [],_=>rfl
 | r::acc,h=>by
  rw[List.reverse_cons,Eg,CX.places h.1,Bj,IC];simp[h.2.1]
def asU(hP:C.P=B.P)(hm:B.P.follows .mixedOrders=Y)(hC:HL C B){k:S->Option Ω}(he:evD C ops s ops.toList 0 s.nid [] s k=I q)(hfr:Fr s){β:Beta}{a:Act}{w:World}(hst:St B β stk s a w)
  {id:Nat}{Q:Exit->Act->World->Prop}(hQ:∀β a w s',St B β stk s' a w->Fr s'->s'.n=s.n->s'.pins=s.pins->k s'=I q->Q .normal a w):(Qa id ops Y).wp B.P Q a w:=by
 obtain⟨rs,s',h1,h2,h3,h4⟩:=kH (b0:=s.nid) ops.toList 0 s.nid [] s he trivial rfl rfl aE4;simp only[CJ,DY]at h2 h4;have hn:rs.reverse.length=ops.size:=by simpa using h3
 have hpl:=h2.places;rw[lx,hn]at hpl;have LD:∀j,Fit ops (C0 rs.reverse s.nid) (B7 ops.size) s j:=λj=>h2.fit hn hfr;have Cg:=iT h2 hn rs s s' h1 (λr hr=>by simpa using hr) (by rw[hpl];exact QQ) (λr hr=>by rw[hpl];exact LD _);rw[hpl]at Cg;have P4:BD (λj=>j<s.nid+16 * ops.toList.length) s s':=jH rs s s' _ h1 λr hr=>by
  have hr':r∈rs.reverse:=by simpa using hr
  have e1:=(h2.MD hr').1;have e2:=h2.lt r hr';rw[hn]at e2;have:ops.toList.length=ops.size:=by simp
  omega
 refine aqL hP hm hC (h2.nice hn) Cg (λj _=>LD j) hst λβ a w h=> ?_;refine hQ β a w { s' with nid:=s.nid+16 * ops.toList.length } ⟨h.T,h.stack,h.n,h.defers,h.pins,h.gs,h.hs⟩ (λj hj=> ?_) P4.n P4.pins h4;have hj:s.nid+16 * ops.toList.length<=j:=hj;exact P4.nn j J<|hfr j J
end
end Go.VS
namespace Go.VS
open Go
def JB(C:Cx)(B:Bb)(inl:(Ω:Type)->Inl Ω):Prop:=∀(Ω:Type) (f:FuncId) (d:Option Nat) (as:List AV) (s:S) (k:S->Option Ω) (q:Ω),inl Ω f d as s k=I q->
 ∀(β:Beta) (stk:List (Array Value)) (a:Act) (w:World) (o:Oper) (args:List Operand) (ts:Array TypeId) (K:Act->World->Prop) (Q:Exit->Act->World->Prop),
 St B β stk s a w->Fr s->s.has d=Y->o.dst=d->as=args.map s.ev->o.op= .call { callee:= .value<|.func f,args:=args.toArray,argTypes:=ts } ->
 (∀β' u w' s',St B β' stk s' (a.put d u) w'->Fr s'->s'.n=s.n->s'.pins=s.pins->k s'=I q->K (a.put d u) w')->o.wp B.P a w K Q
def aEC(C:Cx)(B:Bb):JB C B AF:=by
 intro Ω f d as s k q h;cases h
section
variable {C:Cx} {B:Bb} {ops:Array Oper} {stk:List (Array Value)} {s s':S} {Ω:Type} {q:Ω} {β:Beta} {a:Act} {w:World} {inl:(Ω:Type)->Inl Ω}
def nR(C:Cx)(o:Oper):Prop:=∃f c,o.op= .call c/\c.callee= .value (.func f)/\C.Γ f o.dst=G
def asT{o:Oper}{b:Nat}{k:S->Option Ω}(hn:¬nR C o):evG C (inl Ω) ops o b s k=(ev1 C ops o b s).bind k:=by
 have h:∀b s,∀k:S->Option Ω,CG C (inl Ω) o b s k=(CG C (AF S) o b s I).bind k:=λb s k=>aCN _ λf c h1 h2 h3=>absurd ⟨f,c,h1,h2,h3⟩ hn;unfold ev1 evG;split
 .exact h _ _ _
 .split
  .rfl
  .split
   .split
    .split<;>rfl
    .rfl
   .rfl
  .split
   .rename_i c _;simp only[h];cases hh:s.has o.dst<;>(split<;>split<;>rfl)
   .split<;>rfl
   .rfl
def aDi(hI:JB C B inl){o:Oper}{b:Nat}{k:S->Option Ω}(hin:nR C o)(he:CG C (inl Ω) o b s k=I q)(hst:St B β stk s a w)(hfr:Fr s){K:Act->World->Prop}{Q:Exit->Act->World->Prop}
  (hK:∀β' u w' s',St B β' stk s' (a.put o.dst u) w'->Fr s'->s'.n=s.n->s'.pins=s.pins->k s'=I q->K (a.put o.dst u) w'):o.wp B.P a w K Q:=by
 obtain⟨f,c,h1,h2,h3⟩:=hin;obtain⟨cal,⟨args⟩,⟨tys⟩⟩:=c;simp only at h2;subst h2;unfold CG at he;split at he
 .cases he
 rename_i hd;simp only[h1,h3]at he;exact hI Ω f o.dst _ s k q he β stk a w o args ⟨tys⟩ K Q hst hfr hd rfl rfl h1 hK
def aDt(hP:C.P=B.P)(hC:HL C B)(hI:JB C B inl){i:Nat}{o:Oper}(hi:ops[i]? =I o){k:S->Option Ω}(he:evG C (inl Ω) ops o s.nid s k=I q)(hst:St B β stk s a w)(hfr:Fr s){K:Act->World->Prop}{Q:Exit->Act->World->Prop}
  (hK:∀β' u w' s',St B β' stk s' (a.put o.dst u) w'->(∀j,s'.nid+16<=j->s'.H j=G)->s'.n=s.n->s'.pins=s.pins->k s'=I q->K (a.put o.dst u) w'):wpOp B.P ops Q i K a w:=by
 by_cases hin:nR C o
 .have hK':∀s1:S,s1.n=s.n->s1.pins=s.pins->∀β' u w' s',St B β' stk s' (a.put o.dst u) w'->Fr s'->s'.n=s1.n->s'.pins=s1.pins->k s'=I q->K (a.put o.dst u) w':=
   λs1 e1 e2 β' u w' s' k1 k2 k3 k4 k5=>hK β' u w' s' k1 (λj hj=>k2 j J) (k3.trans e1) (k4.trans e2) k5
  unfold wpOp;simp only[hi];unfold evG at he;split at he
  .rename_i hg;have hw:JM o (yielded ops a.tmps)=Y:=by simp[JM,hg]
   rw[A5 hw];exact .inl (aDi hI hin he hst hfr<|hK' s rfl rfl)
  .rename_i j want hg;have hwd:JM o (yielded ops a.tmps)=(yielded ops a.tmps j == I want):=by simp[JM,hg]
   rw[hwd];split at he
   .cases he
   .rename_i g hgd hsp;split at he
    .rename_i qq v EX hv;obtain⟨f,c,h1,h2,h3⟩:=hin;obtain⟨cal,⟨args⟩,⟨tys⟩⟩:=c;simp only at h2;subst h2;simp only[h1,spA,h3]at hv;cases hv
    .cases he
   .rename_i g hgd hsp;split at he
    .rename_i c hT;have htg:BY a g= .bool c:=by have:=hst.T g;rw[hT]at this;exact this
     have hy:yielded ops a.tmps j=I c:=fb hgd htg;rw[hy];have hn:∀w0:Bool,c=w0->St B β stk { s with T:=upd s.T g (.b w0) } a w:=by
      intro w0 e;subst e;rw[show({ s with T:=upd s.T g (.b c) } :S)=s by rw[aEe _ _ _ hT]];exact hst
     have yes:CG C (inl Ω) o s.nid { s with T:=upd s.T g (.b want) } k=I q->c=want->
       (if(I c == I want)=Y then o.wp B.P a w K Q\/(o.asks B.P a w/\LetsOut Q) else K (a.put o.dst undef) w):=by
      intro he e;rw[A5<|by simp[e]];exact .inl<|aDi hI hin he (hn want e) hfr<|hK' _ rfl rfl
     have no:(match s.has o.dst with
       | true=>k (({ s with T:=upd s.T g (.b<|!want) } :S).put o.dst Dp)
       | false=>G)=I q->c= !want->
       (if(I c == I want)=Y then o.wp B.P a w K Q\/(o.asks B.P a w/\LetsOut Q) else K (a.put o.dst undef) w):=by
      intro he e;rw[A8 (by subst e;cases want<;>simp)];split at he
      .rename_i EX;refine hK β undef w _ ((hn (!want) e).put (by exact EX) (v:=Dp) (u:=undef) rfl (λg' w1 x e=>by cases e)) (λj hj=> ?_) ?_ ?_ he
       .have:=hfr j (by cases hod:o.dst<;>rw[hod]at hj<;>exact CV (Ya _ 16) hj);cases o.dst<;>exact this
       .cases o.dst<;>rfl
       .cases o.dst<;>rfl
      .cases he
     cases want<;>cases c<;>simp only[A2,if_false,Hc]at he
     .exact yes he rfl
     .exact no he rfl
     .exact no he rfl
     .exact yes he rfl
    .rename_i vs hT;have htg:BY a g= .tuple vs:=by have:=hst.T g;rw[hT]at this;exact this
     have hy:¬(yielded ops a.tmps j == I want)=Y:=by
      intro e;have:=fa hgd (show yielded ops a.tmps j=I want by simpa using e);rw[htg]at this;cases this
     rw[A8 hy];split at he
     .rename_i EX;refine hK β undef w _ (hst.put EX (v:=Dp) (u:=undef) rfl (λg' w1 x e=>by cases e)) (λj hj=> ?_) ?_ ?_ he
      .have:=hfr j (by cases hod:o.dst<;>rw[hod]at hj<;>exact CV (Ya _ 16) hj);cases o.dst<;>exact this
      .cases o.dst<;>rfl
      .cases o.dst<;>rfl
     .cases he
    .cases he
 .rw[asT hin]at he;obtain⟨s1,h1,h2⟩:=Ah.1 he;have hk:=aCO h1;refine lE hP hC hi hst (λj hj _=>hfr j hj) h1 λβ' u w' h=>hK β' u w' s1 h (λj hj=>hk.nn j (λhh=> ?_)<|hfr j ?_) hk.n hk.pins h2
  .rw[hk.nid]at hj;omega
  .rw[hk.nid]at hj;omega
def aCM(hP:C.P=B.P)(hC:HL C B)(hI:JB C B inl){k:S->Option Ω}{Q:Exit->Act->World->Prop}{n:Nat}{p:List Nat}
  (hQ:∀β a w s',St B β stk s' a w->Fr s'->s'.n=n->s'.pins=p->k s'=I q->Q .normal a w):∀(l:List Oper) (i:Nat) (s:S) (β:Beta) (a:Act) (w:World),(∀j,l[j]? =ops[i+j]?)->
  OZ C (inl Ω) ops l s k=I q->St B β stk s a w->Fr s->s.n=n->s.pins=p->wpOps B.P ops Q (List.range' i l.length) a w
 | [],i,s,β,a,w,_,he,hst,hfr,hn,hp=>hQ β a w s hst hfr hn hp he
 | o::l,i,s,β,a,w,hl,he,hst,hfr,hn,hp=>by
  rw[Bj,List.range'_succ,wpOps_cons];have ho:ops[i]? =I o:=by simpa using (hl 0).symm
  refine aDt hP hC hI ho (show evG C (inl Ω) ops o s.nid s (λs=>OZ C (inl Ω) ops l { s with nid:=s.nid+16 } k)=I q from he) hst hfr ?_;intro β' u w' s' h1 h2 h3 h4 h5;exact aCM hP hC hI hQ l (i+1) { s' with nid:=s'.nid+16 } β' _ w' (λj=>by
   have:=hl<|j+1;simpa[D8,N2 1 j] using this) h5 ⟨h1.T,h1.stack,h1.n,h1.defers,h1.pins,h1.gs,h1.hs⟩ h2 (h3.trans hn) (h4.trans hp)
def aAl(hP:C.P=B.P)(hC:HL C B)(hI:JB C B inl){k:S->Option Ω}(he:OZ C (inl Ω) ops ops.toList s k=I q)(hfr:Fr s)(hst:St B β stk s a w)
  {id:Nat}{Q:Exit->Act->World->Prop}(hQ:∀β a w s',St B β stk s' a w->Fr s'->s'.n=s.n->s'.pins=s.pins->k s'=I q->Q .normal a w):(Qa id ops A0).wp B.P Q a w:=by
 refine wp_region ?_;have:=aCM hP hC hI hQ ops.toList 0 s β a w aE4 he hst hfr rfl rfl;rw[List.range_eq_range',← Ez];exact this
end
end Go.VS
namespace Go.VS
open Go
def Imm(w:World)(M:Nat->Prop)(c:AV)(v:Value):Prop:=∀β:Beta,(∀b,MZ β b->M b)->RC w β c v
mutual
def Rel (P:Program) (w:World) (M:Nat->Prop) (e:Nat->Value):(h:Sh)->LT h->Value->List (Value×Nat)->Prop
 | .int k,n,v,os=>v= .int k n/\os=[]
 | .bool,x,v,os=>v= .bool x/\os=[]
 | .str,s,v,os=>v= .string s/\os=[]
 | .sl k,xs,v,os=>Imm w M (.sl k xs) v/\os=[]
 | .fz k,xs,v,os=>Imm w M (.sl k xs) v/\os=[]
 | .row t k,xs,v,os=>os=[(v,xs.length)]/\Qq v=Y/\ ∀β:Beta,(∀b,MZ β b->M b)->FV w β t A0 k xs v
 | .Cf t k,xs,v,os=>os=[(v,xs.length)]/\Qq v=Y/\ ∀β:Beta,(∀b,MZ β b->M b)->FV w β t Y k xs v
 | .abx t k,xs,v,os=>os=[(v,xs.length)]/\1<=xs.length/\ ∃b us,v= .pointer (I ⟨b,0,G⟩)/\w.heap[b]? =I (.cells us t (0,0))/\us.size=xs.length * ks k/\us.size=P.cellsOf t/\
   (∀β:Beta,(∀b,MZ β b->M b)->∀i x j c u,xs[i]? =I x->(enc k x)[j]? =I c->us[i * ks k+j]? =I u->RC w β c u)
 | .arr k,xs,v,os=>os=[]/\ ∀β:Beta,(∀b,MZ β b->M b)->R1 w β (.arr k xs) v
 | .same t,_,v,os=>os=[]/\v=e t/\v.oneCell'=Y
 | .agg l,x,v,os=>∃us:List Value,v= .agg us.toArray/\Ch P w M e l x us os
 | .box t l,x,v,os=>∃b us os',v= .pointer (I ⟨b,0,G⟩)/\w.heap[b]? =I (.cells us t (0,0))/\Ch P w M e l x us.toList os'/\os=os'++[(v,1)]
def Ch (P:Program) (w:World) (M:Nat->Prop) (e:Nat->Value):(l:List Sh)->LTs l->List Value->List (Value×Nat)->Prop
 | [],_,us,os=>us=[]/\os=[]
 | h::l,x,us,os=>∃u us' o1 o2,us=u::us'/\os=o1++o2/\Rel P w M e h x.1 u o1/\Ch P w M e l x.2 us' o2
end
def HM(p:Value×Nat):Option Nat:=(adr p.1).map (·.block)
abbrev Ay(os:List (Value×Nat)):List Nat:=os.filterMap HM
mutual
def Lm:Sh->List Nat
 | .same t=>[t]
 | .agg l=>Ia l
 | .box _ l=>Ia l
 | _=>[]
def Ia:List Sh->List Nat
 | []=>[]
 | h::l=>Lm h++Ia l
end
section
variable {B:Bb} {β β':Beta} {H:Hp} {w w':World} {M:Nat->Prop} {E:Nat->AV} {e:Nat->Value}
def RC.R4{c:AV}{v:Value}(h:RC w β c v)(hc:GQ c=Y)(hM:∀b,M b->MZ β b):Imm w M c v:=λβ' hβ'=>
 RC.imm (λ_ _ _ _ h=>h) (λb hb _ hm=>hb<|hM b<|hβ' b hm) h hc
def FV.imm{t:TypeId}{fz:Bool}{k:K}{xs:List (Tof k)}{v:Value}(h:FV w β t fz k xs v)(hM:∀b,M b->MZ β b):∀β':Beta,(∀b,MZ β' b->M b)->FV w β' t fz k xs v:=by
 intro β' hβ';obtain h|⟨b,f,cap,us,fr,h1,h2,h3,h4,h5,h6,h7⟩:=h
 .exact .inl h
 .exact .inr ⟨b,f,cap,us,fr,h1,h2,h3,h4,h5,h6,λi x j c u a1 a2 a3=>(h7 i x j c u a1 a2 a3).R4 (IU k x a2) hM β' hβ'⟩
def FV.az2{t:TypeId}{fz:Bool}{k:K}{xs:List (Tof k)}{v:Value}(h:FV w β t fz k xs v)(hM:∀b,M b->MZ β b)(hn:∀a,adr v=I a->¬M a.block):Imm w M (.sl k xs) v:=by
 intro β' hβ';obtain⟨rfl,rfl⟩|⟨b,f,cap,us,fr,rfl,hh,hfr,hn',hc,hs,hr⟩:=h
 .exact .nil
 .have Cl:∀i j,i<xs.length->j<ks k->f+(i * ks k+j)<us.size:=by
   intro i j hi hj;have h1:(i+1) * ks k<=cap * ks k:=E6 _ J;rw[EG]at h1;omega
  refine .sl (λi j=>us.getD (f+(i * ks k+j)) undef) ⟨rfl,hn'⟩ (λhm=>hn _ rfl (hβ' _ hm)) (λi j hi hj=> ?_) (λi x j c h2 h3=> ?_)
  .rw[cell_of_row w b _ us t fr hh];have:=Cl i j hi hj;simp[this]
  .have hi:i<xs.length:=(BO.1 h2).1;have hj:j<ks k:=by rw[← EK k x];exact(BO.1 h3).1
   have:=Cl i j hi hj;exact(hr i x j c (us.getD (f+(i * ks k+j)) undef) h2 h3<|by simp[this]).R4 (IU k x h3) hM β' hβ'
def R1.lits{v' v:Value}(h:R1 w β (.lit v') v):v=v':=h
def R1.sls{k:K}{xs:List (Tof k)}{v:Value}(h:R1 w β (.sl k xs) v):RC w β (.sl k xs) v:=h
def R1.p6{id:Nat}{v:Value}(h:R1 w β (.own id) v):RC w β (.own id) v:=h
def R1.R3{id z i o:Nat}{v:Value}(h:R1 w β (.ptr id z i o) v):RC w β (.ptr id z i o) v:=h
structure NR (B:Bb) (β:Beta) (H:Hp) (w:World) (M:Nat->Prop) (E:Nat->AV) (e:Nat->Value):Prop where
 hs:Hs B β H w
 hM:∀b,M b->MZ β b
 hE:∀t id z,E t= .ptr id z 0 0->R1 w β (E t) (e t)
def Qk(β:Beta)(M:Nat->Prop)(ids:List Nat):Prop:=∀i∈ids,∀p a,β i=I p->adr p.1=I a->¬M a.block
def ma(R:NR B β H w M E e){id:Nat}{t:TypeId}{fz:Bool}{k:K}{xs:List (Tof k)}{v:Value}(hv:RC w β (.own id) v)(hid:H id=I (.row t fz k xs)):
  Qq v=Y/\β id=I (v,xs.length)/\FV w β t fz k xs v:=by
 cases hv with
 | own h hs=>
  obtain⟨hd,h1,h2⟩:=R.hs.EI id _ hid;rw[h]at h1;cases h1;exact⟨hs,h,h2⟩
mutual
theorem ku (R:NR B β H w M E e):∀(h:Sh) (c:AV) (v:Value) (x:LT h),R1 w β c v->Bn E H h c=I x->Qk β M (Ck H h c)->
  ∃os,Rel B.P w M e h x v os/\Ay os=Ay ((Cc H h c).filterMap β)
 | .int k,c,v,x,hv,hx,_=>by
  cases c with
  | lit v'=>
   cases v'<;>first|(simp[Bn]at hx;done)|skip
   simp only[Bn]at hx;split at hx
   .rename_i e1;simp at e1;subst e1;cases hx;exact⟨[],⟨hv.lits,rfl⟩,rfl⟩
   .cases hx
  | _=>simp[Bn]at hx
 | .bool,c,v,x,hv,hx,_=>by
  cases c with
  | lit v'=>
   cases v'<;>first|(simp[Bn]at hx;done)|skip
   simp only[Bn]at hx;cases hx;exact⟨[],⟨hv.lits,rfl⟩,rfl⟩
  | _=>simp[Bn]at hx
 | .str,c,v,x,hv,hx,_=>by
  cases c with
  | lit v'=>
   cases v'<;>first|(simp[Bn]at hx;done)|skip
   simp only[Bn]at hx;cases hx;exact⟨[],⟨hv.lits,rfl⟩,rfl⟩
  | _=>simp[Bn]at hx
 | .sl k,c,v,x,hv,hx,_=>by
  cases c with
  | sl k' xs=>
   obtain⟨e1,rfl⟩:=Hw<|show Ii k' k xs=I x from hx;subst e1;exact⟨[],⟨hv.sls.R4 rfl R.hM,rfl⟩,rfl⟩
  | lit v'=>
   cases v' with
   | slice a n cap=>
    cases a<;>cases n<;>cases cap<;>simp[Bn]at hx;subst hx;have:=hv.lits;subst this;exact⟨[],⟨λ_ _=> .nil,rfl⟩,rfl⟩
   | _=>simp[Bn]at hx
  | _=>simp[Bn]at hx
 | .fz k,c,v,x,hv,hx,hf=>by
  cases c with
  | sl k' xs=>
   obtain⟨e1,rfl⟩:=Hw<|show Ii k' k xs=I x from hx;subst e1;exact⟨[],⟨hv.sls.R4 rfl R.hM,rfl⟩,rfl⟩
  | lit v'=>
   cases v' with
   | slice a n cap=>
    cases a<;>cases n<;>cases cap<;>simp[Bn,CD]at hx;subst hx;have:=hv.lits;subst this;exact⟨[],⟨λ_ _=> .nil,rfl⟩,rfl⟩
   | _=>simp[Bn,CD]at hx
  | own id=>
   simp only[Bn,CD]at hx;split at hx
   .rename_i t fz k' ys hid;obtain⟨e1,rfl⟩:=Hw hx;subst e1;obtain⟨h1,h2,h3⟩:=ma R hv.p6 hid;exact⟨[],⟨h3.az2 R.hM λa ha=>hf id (by simp[Ck]) _ a h2 ha,rfl⟩,rfl⟩
   .cases hx
  | _=>simp[Bn,CD]at hx
 | .row t k,c,v,x,hv,hx,_=>by
  cases c with
  | lit v'=>
   cases v' with
   | slice a n cap=>
    cases a<;>cases n<;>cases cap<;>simp[Bn]at hx;subst hx;have:=hv.lits;subst this;exact⟨[(.slice G 0 0,0)],⟨rfl,rfl,λ_ _=> .inl ⟨rfl,rfl⟩⟩,rfl⟩
   | _=>simp[Bn]at hx
  | own id=>
   simp only[Bn]at hx;split at hx
   .rename_i t' k' ys hid;split at hx
    .rename_i ht;obtain rfl:=Bm ht;obtain⟨e1,rfl⟩:=Hw hx;subst e1;obtain⟨h1,h2,h3⟩:=ma R hv.p6 hid;exact⟨[(v,ys.length)],⟨rfl,h1,h3.imm R.hM⟩,by simp[Cc,h2]⟩
    .cases hx
   .cases hx
  | _=>simp[Bn]at hx
 | .Cf t k,c,v,x,hv,hx,_=>by
  cases c with
  | own id=>
   simp only[Bn]at hx;split at hx
   .rename_i t' k' ys hid;split at hx
    .rename_i ht;obtain rfl:=Bm ht;obtain⟨e1,rfl⟩:=Hw hx;subst e1;obtain⟨h1,h2,h3⟩:=ma R hv.p6 hid;exact⟨[(v,ys.length)],⟨rfl,h1,h3.imm R.hM⟩,by simp[Cc,h2]⟩
    .cases hx
   .cases hx
  | _=>simp[Bn]at hx
 | .abx t k,c,v,x,hv,hx,_=>by
  cases c with
  | ptr id z i o=>
   cases i<;>cases o<;>simp only[Bn]at hx<;>first|(cases hx;done)|skip
   split at hx
   .rename_i t' k' ys hid;split at hx
    .rename_i ht;simp only[AD]at ht;obtain rfl:=Bm ht.1;obtain⟨e1,rfl⟩:=Hw hx;subst e1;have hv:=hv.R3;cases hv with
     | @ptr _ _ _ _ hd n b f h1 ha hi=>
      obtain⟨b',us,k1,k2,k3,k4,k5⟩:=R.hs.EI id _ hid;rw[h1]at k1;cases k1;cases ha;have e0:0 * z=0:=TW z;refine⟨[(.pointer<|I ⟨b,0,G⟩,ys.length)],⟨?_,hi,b,us, ?_,k2,k3,k4,λβ' hβ' i x j c u a1 a2 a3=>(k5 i x j c u a1 a2 a3).R4 (IU k' x a2) R.hM β' hβ'⟩,by simp[Cc,h1]⟩
      .simp
      .simp
    .cases hx
   .cases hx
  | _=>simp[Bn]at hx
 | .arr k,c,v,x,hv,hx,_=>by
  cases c with
  | arr k' xs=>
   obtain⟨e1,rfl⟩:=Hw<|show Ii k' k xs=I x from hx;subst e1;obtain⟨us,k1,k2,k3⟩:=hv;exact⟨[],⟨rfl,λβ' hβ'=>⟨us,k1,k2,λi x j c u a1 a2 a3=>(k3 i x j c u a1 a2 a3).R4 (IU k' x a2) R.hM β' hβ'⟩⟩,rfl⟩
  | _=>simp[Bn]at hx
 | .same t,c,v,x,hv,hx,_=>by
  cases c with
  | ptr id z i o=>
   cases i<;>cases o<;>simp only[Bn]at hx<;>first|(cases hx;done)|skip
   split at hx
   .rename_i id' z' hE;split at hx
    .rename_i hid;obtain rfl:=Bm hid;have h2:=R.hE t _ _ hE;rw[hE]at h2;have h2:=h2.R3;have h1:=hv.R3;refine⟨[],⟨rfl, ?_,h1.one⟩,rfl⟩;generalize e t=v2 at h2;cases h1 with
     | ptr a1 a2 a3=>
      cases h2 with
      | ptr b1 b2 b3=>
       rw[a1]at b1;cases b1;rw[a2]at b2;cases b2;simp
    .cases hx
   .cases hx
  | _=>simp[Bn]at hx
 | .agg l,c,v,x,hv,hx,hf=>by
  cases c with
  | agg cs=>
   obtain⟨us,rfl,hr⟩:=hv;obtain⟨os,h1,h2⟩:=jx R l cs us x hr hx hf;exact⟨os,⟨us,rfl,h1⟩,h2⟩
  | _=>simp[Bn]at hx
 | .box t l,c,v,x,hv,hx,hf=>by
  cases c with
  | ptr id z i o=>
   cases i<;>cases o<;>simp only[Bn]at hx<;>first|(cases hx;done)|skip
   split at hx
   .rename_i t' cs hid;split at hx
    .rename_i ht;obtain rfl:=Bm ht;have hv:=hv.R3;cases hv with
     | @ptr _ _ _ _ hd n b f h1 ha hi=>
      obtain⟨b',us,k1,k2,k3⟩:=R.hs.EI id _ hid;rw[h1]at k1;cases k1;cases ha;obtain⟨os,j1,j2⟩:=jx R l cs us.toList x k3 hx (by simpa only[Ck,hid] using hf);refine⟨os++[(.pointer<|I ⟨b,0,G⟩,1)],⟨b,us,os,by simp,k2,j1,by simp⟩, ?_⟩;have:Cc H (.box t l) (.ptr id z 0 0)=Bi H l cs++[id]:=by simp only[Cc,hid]
      rw[this];simp only[Ay,Lw]at j2 ⊢;rw[j2];simp[h1]
    .cases hx
   .cases hx
  | _=>simp[Bn]at hx
theorem jx (R:NR B β H w M E e):∀(l:List Sh) (cs:List AV) (us:List Value) (x:LTs l),RL (RC w β) cs us->GD E H l cs=I x->Qk β M (Cs H l cs)->
  ∃os,Ch B.P w M e l x us os/\Ay os=Ay ((Bi H l cs).filterMap β)
 | [],[],us,x,hr,hx,_=>⟨[],⟨hr.of_nil,rfl⟩,rfl⟩
 | [],_::_,us,x,hr,hx,_=>by cases hx
 | _::_,[],us,x,hr,hx,_=>by cases hx
 | h::l,c::cs,us,x,hr,hx,hf=>by
  obtain⟨u,us',rfl,h1,h2⟩:=hr.C7;obtain⟨x1,e1,hx⟩:=Ah.1 hx;obtain⟨x2,e2,hx⟩:=Ah.1 hx;cases hx;obtain⟨o1,j1,j2⟩:=ku R h c u x1 (R1.M9 h1) e1 (λi hi=>hf i<|Bv _ hi);obtain⟨o2,j3,j4⟩:=jx R l cs us' x2 h2 e2 (λi hi=>hf i<|CP _ hi);refine⟨o1++o2,⟨u,us',o1,o2,rfl,rfl,j1,j3⟩, ?_⟩;simp only[Ay,Lw,Bi]at j2 j4 ⊢;rw[j2,j4]
end
def Wq(R:NR B β H w M E e):∀(l:List Sh) (cs:List AV) (us:List Value) (x:LTs l),RL (R1 w β) cs us->GD E H l cs=I x->Qk β M (Cs H l cs)->
  ∃os,Ch B.P w M e l x us os/\Ay os=Ay ((Bi H l cs).filterMap β)
 | [],[],us,x,hr,hx,_=>⟨[],⟨hr.of_nil,rfl⟩,rfl⟩
 | [],_::_,us,x,hr,hx,_=>by cases hx
 | _::_,[],us,x,hr,hx,_=>by cases hx
 | h::l,c::cs,us,x,hr,hx,hf=>by
  obtain⟨u,us',rfl,h1,h2⟩:=hr.C7;obtain⟨x1,e1,hx⟩:=Ah.1 hx;obtain⟨x2,e2,hx⟩:=Ah.1 hx;cases hx;obtain⟨o1,j1,j2⟩:=ku R h c u x1 h1 e1 (λi hi=>hf i<|Bv _ hi);obtain⟨o2,j3,j4⟩:=Wq R l cs us' x2 h2 e2 (λi hi=>hf i<|CP _ hi);refine⟨o1++o2,⟨u,us',o1,o2,rfl,rfl,j1,j3⟩, ?_⟩;simp only[Ay,Lw,Bi]at j2 j4 ⊢;rw[j2,j4]
end
end Go.VS
namespace Go.VS
open Go
section
variable {P:Program} {β:Beta} {H:Hp} {w:World} {M:Nat->Prop} {E:Nat->AV} {e:Nat->Value} {b:Nat}
def IN(P:Program)(w:World)(β:Beta)(H H':Hp)(b n:Nat):Prop:=
 (∀j,j<b\/b+n<=j->H' j=H j)/\(∀j,b<=j->j<b+n->∃ob,H' j=I ob/\E7 P w β j ob)
def IN.nil:IN P w β H H b 0:=⟨λ_ _=>rfl,λj h1 h2=>by omega⟩
def IN.one{ob:Ob}(h:E7 P w β b ob):IN P w β H (upd H b<|I ob) b 1:=by
 refine⟨λj hj=>BB _ _ J,λj h1 h2=> ?_⟩;have:j=b:=J
 subst this;exact⟨ob,Bf _ _ _,h⟩
def IN.trans{H' H'':Hp}{n m:Nat}(h:IN P w β H H' b n)(k:IN P w β H' H'' (b+n) m):IN P w β H H'' b (n+m):=by
 refine⟨λj hj=> ?_,λj h1 h2=> ?_⟩
 .rw[k.1 j J,h.1 j J]
 .by_cases e:j<b+n
  .obtain⟨ob,k1,k2⟩:=h.2 j h1 e;exact⟨ob,by rw[k.1 j<|.inl e];exact k1,k2⟩
  .exact k.2 j J J
def Num(β:Beta)(b:Nat)(os:List (Value×Nat)):Prop:=∀i p,os[i]? =I p->β (b+i)=I p
def Num.left{o1 o2:List (Value×Nat)}(h:Num β b (o1++o2)):Num β b o1:=λi p hp=>h i p (by
 rw[IE (BO.1 hp).1];exact hp)
def Num.right{o1 o2:List (Value×Nat)}(h:Num β b (o1++o2)):Num β (b+o1.length) o2:=λi p hp=>by
 have:=h (o1.length+i) p (by rw[FO J];simpa using hp);rw[D8];exact this
def Num.one{p:Value×Nat}{os:List (Value×Nat)}(h:Num β b (os++[p])):β (b+os.length)=I p:=by
 have:=h.right 0 p rfl;simpa using this
def TX(w:World)(β:Beta)(E:Nat->AV)(e:Nat->Value)(ts:List Nat):Prop:=∀t∈ts,R1 w β (E t)<|e t
def R1.az3{c:AV}{v:Value}(h:R1 w β c v)(h1:v.oneCell'=Y):RC w β c v:=by
 cases c with
 | un=>exact .un h1
 | lit v'=>have:=h.lits;subst this;exact .lit h1
 | sl k xs=>exact h
 | own id=>exact h
 | ptr a b c d=>exact h
 | ipt a b c=>exact h
 | arr k xs=>obtain⟨us,rfl,_⟩:=h;cases h1
 | agg cs=>obtain⟨us,rfl,_⟩:=h;cases h1
 | tup vs=>exact h.elim
 | gd a b c=>exact h.elim
mutual
theorem aaS (hM:∀b,MZ β b->M b):∀(h:Sh) (H:Hp) (b:Nat) (x:LT h) (v:Value) (os:List (Value×Nat)),Ie h=Y->Rel P w M e h x v os->Num β b os->TX w β E e (Lm h)->
  RC w β (BI E H b h x).1 v/\(BI E H b h x).2.2=b+os.length/\IN P w β H (BI E H b h x).2.1 b os.length
 | .int k,H,b,x,v,os,_,hr,_,_=>by obtain⟨rfl,rfl⟩:=hr;exact⟨.lit rfl,rfl,.nil⟩
 | .bool,H,b,x,v,os,_,hr,_,_=>by obtain⟨rfl,rfl⟩:=hr;exact⟨.lit rfl,rfl,.nil⟩
 | .str,H,b,x,v,os,_,hr,_,_=>by obtain⟨rfl,rfl⟩:=hr;exact⟨.lit rfl,rfl,.nil⟩
 | .sl k,H,b,x,v,os,_,hr,_,_=>by obtain⟨h1,rfl⟩:=hr;exact⟨h1 β hM,rfl,.nil⟩
 | .fz k,H,b,x,v,os,_,hr,_,_=>by obtain⟨h1,rfl⟩:=hr;exact⟨h1 β hM,rfl,.nil⟩
 | .row t k,H,b,x,v,os,_,hr,hn,_=>by
  obtain⟨rfl,h1,h2⟩:=hr;have hb:β b=I (v,x.length):=hn.one (os:=[]);exact⟨.own hb h1,rfl,.one ⟨v,hb,h2 β hM⟩⟩
 | .Cf t k,H,b,x,v,os,_,hr,hn,_=>by
  obtain⟨rfl,h1,h2⟩:=hr;have hb:β b=I (v,x.length):=hn.one (os:=[]);exact⟨.own hb h1,rfl,.one ⟨v,hb,h2 β hM⟩⟩
 | .abx t k,H,b,x,v,os,_,hr,hn,_=>by
  obtain⟨rfl,h1,bb,us,rfl,h3,h4,h5,h6⟩:=hr;have hb:β b=I (.pointer<|I ⟨bb,0,G⟩,x.length):=hn.one (os:=[]);refine⟨?_,rfl,.one ⟨bb,us,hb,h3,h4,h5,h6 β hM⟩⟩;have:=RC.ptr (w:=w) (sz:=ks k) (o:=0) hb (rfl:adr (.pointer<|I ⟨bb,0,G⟩)=I ⟨bb,0,G⟩) (i:=0) J;show RC w β (.ptr b (ks k) 0 0) _;simpa using this
 | .arr _,_,_,_,_,_,h,_,_,_=>by simp[Ie]at h
 | .agg _,_,_,_,_,_,h,_,_,_=>by simp[Ie]at h
 | .same t,H,b,x,v,os,_,hr,_,hs=>by
  obtain⟨rfl,rfl,h1⟩:=hr;refine⟨?_,rfl,.nil⟩;exact(hs t<|by simp[Lm]).az3 h1
 | .box t l,H,b,x,v,os,hl,hr,hn,hs=>by
  obtain⟨bb,us,os',rfl,h2,h3,rfl⟩:=hr;have un:BI E H b (.box t l) x=(match Aj E H b l x with|(cs,H,b)=>(AV.ptr b cs.length 0 0,upd H b<|I<|.box t cs,b+1)):=rfl;obtain⟨k1,k2,k3⟩:=XS hM l H b x us.toList os' (by simpa[Ie] using hl) h3 hn.left (by simpa[Lm] using hs);rw[un];generalize Aj E H b l x=r at *;obtain⟨cs,H',b'⟩:=r;simp only at k1 k2 k3;subst k2;have hb:=hn.one;refine⟨?_,by simp[D8], ?_⟩
  .have:=RC.ptr (w:=w) (sz:=cs.length) (o:=0) hb (rfl:adr (.pointer<|I ⟨bb,0,G⟩)=I ⟨bb,0,G⟩) (i:=0) J;simpa using this
  .rw[Au];exact k3.trans<|.one ⟨bb,us,hb,h2,k1⟩
theorem XS (hM:∀b,MZ β b->M b):∀(l:List Sh) (H:Hp) (b:Nat) (x:LTs l) (us:List Value) (os:List (Value×Nat)),Mj l=Y->Ch P w M e l x us os->Num β b os->TX w β E e (Ia l)->
  RL (RC w β) (Aj E H b l x).1 us/\(Aj E H b l x).2.2=b+os.length/\IN P w β H (Aj E H b l x).2.1 b os.length
 | [],H,b,x,us,os,_,hr,_,_=>by obtain⟨rfl,rfl⟩:=hr;exact⟨.nil,rfl,.nil⟩
 | h::l,H,b,x,us,os,hl,hr,hn,hs=>by
  obtain⟨u,us',o1,o2,rfl,rfl,h1,h2⟩:=hr;simp only[Mj,AD]at hl;have un:Aj E H b (h::l) x=(match BI E H b h x.1 with|(c,H,b)=>match Aj E H b l x.2 with|(cs,H,b)=>(c::cs,H,b)):=rfl;obtain⟨k1,k2,k3⟩:=aaS hM h H b x.1 u o1 hl.1 h1 hn.left (λt ht=>hs t<|Bv _ ht);rw[un];generalize BI E H b h x.1=r at *;obtain⟨c,H',b'⟩:=r;simp only at k1 k2 k3 ⊢;subst k2;obtain⟨j1,j2,j3⟩:=XS hM l H' (b+o1.length) x.2 us' o2 hl.2 h2 hn.right (λt ht=>hs t<|CP _ ht);generalize Aj E H' (b+o1.length) l x.2=r at *;obtain⟨cs,H'',b''⟩:=r;simp only at j1 j2 j3 ⊢;subst j2;refine⟨.cons k1 j1,by simp[D8], ?_⟩;rw[Au];exact k3.trans j3
end
def aaR(hM:∀b,MZ β b->M b)(h:Sh)(H:Hp)(b:Nat)(x:LT h)(v:Value)(os:List (Value×Nat))(ht:nX h=Y)(hr:Rel P w M e h x v os)(hn:Num β b os)(hs:TX w β E e (Lm h)):
  R1 w β (BI E H b h x).1 v/\(BI E H b h x).2.2=b+os.length/\IN P w β H (BI E H b h x).2.1 b os.length:=by
 by_cases hh:Ie h=Y
 .obtain⟨h1,h2,h3⟩:=aaS hM h H b x v os hh hr hn hs;exact⟨.M9 h1,h2,h3⟩
 .cases h<;>first|(exact absurd ht hh;done)|skip
  case agg l=>
   obtain⟨us,rfl,h1⟩:=hr;have un:BI E H b (.agg l) x=(match Aj E H b l x with|(cs,H,b)=>(AV.agg cs,H,b)):=rfl;obtain⟨k1,k2,k3⟩:=XS hM l H b x us os ht h1 hn hs;rw[un];generalize Aj E H b l x=r at *;obtain⟨cs,H',b'⟩:=r;exact⟨⟨us,rfl,k1⟩,k2,k3⟩
  case arr k=>
   obtain⟨rfl,h1⟩:=hr;exact⟨h1 β hM,rfl,.nil⟩
def XR(hM:∀b,MZ β b->M b):∀(l:List Sh) (H:Hp) (b:Nat) (x:LTs l) (us:List Value) (os:List (Value×Nat)),Jp l=Y->Ch P w M e l x us os->Num β b os->TX w β E e (Ia l)->
  RL (R1 w β) (Aj E H b l x).1 us/\(Aj E H b l x).2.2=b+os.length/\IN P w β H (Aj E H b l x).2.1 b os.length
 | [],H,b,x,us,os,_,hr,_,_=>by obtain⟨rfl,rfl⟩:=hr;exact⟨.nil,rfl,.nil⟩
 | h::l,H,b,x,us,os,hl,hr,hn,hs=>by
  obtain⟨u,us',o1,o2,rfl,rfl,h1,h2⟩:=hr;simp only[Jp,AD]at hl;have un:Aj E H b (h::l) x=(match BI E H b h x.1 with|(c,H,b)=>match Aj E H b l x.2 with|(cs,H,b)=>(c::cs,H,b)):=rfl;obtain⟨k1,k2,k3⟩:=aaR hM h H b x.1 u o1 hl.1 h1 hn.left (λt ht=>hs t<|Bv _ ht);rw[un];generalize BI E H b h x.1=r at *;obtain⟨c,H',b'⟩:=r;simp only at k1 k2 k3 ⊢;subst k2;obtain⟨j1,j2,j3⟩:=XR hM l H' (b+o1.length) x.2 us' o2 hl.2 h2 hn.right (λt ht=>hs t<|CP _ ht);generalize Aj E H' (b+o1.length) l x.2=r at *;obtain⟨cs,H'',b''⟩:=r;simp only at j1 j2 j3 ⊢;subst j2;refine⟨.cons k1 j1,by simp[D8], ?_⟩;rw[Au];exact k3.trans j3
end
end Go.VS
namespace Go.VS
open Go
def Wr:∀ {l:List Nat},Mr l=Y->l.Nodup
 | [],_=>List.nodup_nil
 | a::l,h=>by
  simp only[Mr,AD,CE]at h;refine IB.2 ⟨λhm=> ?_,Wr h.2⟩;have:(l.any λb=>Ag a b)=Y:=K0.2 ⟨a,hm,by simp⟩;rw[this]at h;cases h.1
def aDw{l m:List Nat}(h:off l m=Y):∀a∈l,a ∉ m:=λa ha hm=>by
 have h1:=DK.1 h a ha;have:(m.any λb=>Ag a b)=Y:=K0.2 ⟨a,hm,by simp⟩;rw[this]at h1;cases h1
section
variable {B:Bb} {β β':Beta} {H H':Hp} {w w':World} {M:Nat->Prop} {E:Nat->AV} {e:Nat->Value} {stk:List (Array Value)} {s s':S} {a:Act}
def Mb{ids:List Nat}{b:Nat}(h:b∈Ay (ids.filterMap β)):∃i∈ids,∃p a,β i=I p/\adr p.1=I a/\a.block=b:=by
 obtain⟨p,hp,hb⟩:=GO.1 h;obtain⟨i,hi,hβ⟩:=GO.1 hp;obtain⟨a,ha,e⟩:=D6.1 hb;exact⟨i,hi,p,a,hβ,ha,e⟩
def Wg(hH:Hs B β H w):∀ {ids:List Nat},ids.Nodup->(Ay<|ids.filterMap β).Nodup
 | [],_=>List.nodup_nil
 | i::ids,h=>by
  obtain⟨h1,h2⟩:=IB.1 h;have ih:=Wg hH h2;cases hβ:β i with
  | none=>simpa[hβ] using ih
  | some p=>
   cases hb:HM p with
   | none=>simpa[hβ,hb] using ih
   | some b=>
    simp only[Ay,lP,hβ,hb];refine IB.2 ⟨λhm=> ?_,ih⟩;obtain⟨j,hj,q,a',hq,ha',e'⟩:=Mb hm;obtain⟨a,ha,e⟩:=D6.1 hb;have:=hH.inj i j p q a a' hβ hq ha ha' (by rw[e,e']);subst this;exact h1 hj
def Sw{ids:List Nat}{b:Nat}(h:b∈Ay (ids.filterMap β)):MB β b:=by
 obtain⟨i,_,p,a,h1,h2,h3⟩:=Mb h;exact⟨i,p.1,p.2,a,h1,h2,h3⟩
abbrev MO(B:Bb)(l:List Nat)(b:Nat):Prop:=b∈l\/B.Z b
def abc(hH:Hs B β H w){ids:List Nat}{b:Nat}(h:MO B (Ay<|ids.filterMap β) b):MZ β b:=by
 obtain h|h:=h
 .exact .inl (Sw h)
 .exact .inr (by rw[hH.z];exact h)
def lB(hH:Hs B β H w){fz ids:List Nat}(h:off fz ids=Y):Qk β (MO B<|Ay<|ids.filterMap β) fz:=by
 intro i hi p a hp ha hm;obtain hm|hm:=hm
 case inr=>rw[← hH.z]at hm;exact hH.zn i p a hp ha hm
 obtain⟨j,hj,q,a',hq,ha',e⟩:=Mb hm;have:=hH.inj i j p q a a' hp hq ha ha' e.symm;subst this;exact aDw h i hi hj
def Ha(Z:Nat->Prop)(os:List (Value×Nat)):Beta:=⟨λi=>os[i]?, Z⟩
def kh(Z:Nat->Prop)(os:List (Value×Nat)):Num (Ha Z os) 0 os:=λi p h=>by rw[DY];exact h
def Mk{Z:Nat->Prop}{os:List (Value×Nat)}{b:Nat}(h:MB (Ha Z os) b):b∈Ay os:=by
 obtain⟨i,hd,n,a,h1,h2,h3⟩:=h;exact GO.2 ⟨(hd,n),Ci h1,by simp[HM,h2,h3]⟩
def me{os:List (Value×Nat)}{b:Nat}(h:MZ (Ha B.Z os) b):MO B (Ay os) b:=h.imp Mk λh=>h
def XP{os:List (Value×Nat)}(h:(Ay os).Nodup):∀(i j:Nat) (p q:Value×Nat) (a a':Addr),os[i]? =I p->os[j]? =I q->adr p.1=I a->adr q.1=I a'->a.block=a'.block->i=j:=by
 induction os with
 | nil=>intro i j p q a a' hi;simp at hi
 | cons x os ih=>
  have hx:∀ {p:Value×Nat} {a:Addr},adr p.1=I a->HM p=I a.block:=λh=>by simp[HM,h]
  have ih':(Ay os).Nodup:=by
   cases hb:HM x with
   | none=>simpa[hb] using h
   | some b=>simp only[Ay,lP,hb]at h;exact(IB.1 h).2
  have Ty:∀(j:Nat) (q:Value×Nat) (a a':Addr),os[j]? =I q->adr x.1=I a->adr q.1=I a'->a.block=a'.block->False:=by
   intro j q a a' hj ha ha' e;simp only[Ay,lP,hx ha]at h;refine(IB.1 h).1<|GO.2 ⟨q,Ci hj, ?_⟩;rw[hx ha',e]
  intro i j p q a a' hi hj ha ha' e;cases i with
  | zero=>
   simp at hi;subst hi;cases j with
   | zero=>rfl
   | succ j=>simp at hj;exact(Ty j q a a' hj ha ha' e).elim
  | succ i=>
   simp at hi;cases j with
   | zero=>simp at hj;subst hj;exact(Ty i p a' a hi ha' ha e.symm).elim
   | succ j=>simp at hj;rw[ih ih' i j p q a a' hi hj ha ha' e]
def Hs.ayZ(hH:Hs B β H w){os:List (Value×Nat)}(hn:(Ay os).Nodup)(hb:∀b∈Ay os,MB β b)(hm:IN B.P w (Ha B.Z os) (λ_=>G) H' 0 os.length):Hs B (Ha B.Z os) H' w where
 EI id ob ho:=by
  by_cases h:id<os.length
  .obtain⟨ob',h1,h2⟩:=hm.2 id (D1 _) J;rw[h1]at ho;cases ho;exact h2
  .rw[hm.1 id J]at ho;cases ho
 dom id p hp:=by
  have h:id<os.length:=(BO.1<|show os[id]? =I p from hp).1;obtain⟨ob',h1,_⟩:=hm.2 id (D1 _) J;exact⟨ob',h1⟩
 inj i j p q a a' hi hj:=XP hn i j p q a a' hi hj
 old b h:=hH.old b (hb b<|Mk h)
 os:=hH.os
 tape:=hH.tape
 output:=hH.output
 size:=hH.size
 block:=hH.block
 z:=rfl
 zn id p a hp ha hz:=by
  have hb:=hb a.block (GO.2 ⟨p,Ci hp,by simp[HM,ha]⟩);obtain⟨j,hd,n,a',h1,h2,h3⟩:=hb;refine hH.zn j _ a' h1 h2 ?_;rw[h3,hH.z];exact hz
 zl b h:=hH.zl b (by rw[hH.z];exact h)
 pk:=hH.pk
def aAx{E:Nat->AV}{h:Sh}{c:AV}{x:LT h}(hx:Bn E H h c=I x):(∀g w v,c≠ .gd g w v)/\ ∀vs,c≠ .tup vs:=by
 constructor
 .rintro g w v rfl;cases h<;>simp[Bn,CD]at hx
 .rintro vs rfl;cases h<;>simp[Bn,CD]at hx
def RT.ME{tm:Nat->Value}{c:AV}{v:Value}(h:RT w β tm c v)(h1:∀g w v,c≠ .gd g w v)(h2:∀vs,c≠ .tup vs):R1 w β c v:=by
 cases c<;>first|exact h|exact absurd rfl (h1 _ _ _)|exact absurd rfl (h2 _)
def aAe{tm:Nat->Value}{T:Nat->AV}(R:NR B β H w M T tm)(hT:∀t,RT w β tm (T t)<|tm t):∀(c:Sch) (x:Lv c),mb H T c=I x->Qk β M (mV H T c)->
  ∃os,Ch B.P w M tm (c.map (·.2)) x (c.map λp=>tm p.1) os/\Ay os=Ay ((OE H T c).filterMap β)
 | [],x,hx,_=>⟨[],⟨rfl,rfl⟩,rfl⟩
 | (t,h)::c,x,hx,hf=>by
  obtain⟨x1,e1,hx⟩:=Ah.1 hx;obtain⟨x2,e2,hx⟩:=Ah.1 hx;cases hx;obtain⟨p1,p2⟩:=aAx e1;obtain⟨o1,j1,j2⟩:=ku R h (T t) (tm t) x1 ((hT t).ME p1 p2) e1 (λi hi=>hf i<|Bv _ hi);obtain⟨o2,j3,j4⟩:=aAe R hT c x2 e2 (λi hi=>hf i<|CP _ hi);refine⟨o1++o2,⟨tm t,c.map λp=>tm p.1,o1,o2,rfl,rfl,j1,j3⟩, ?_⟩;simp only[Ay,Lw,OE]at j2 j4 ⊢;rw[j2,j4]
def aAv{P:Program}{tm:Nat->Value}(hM:∀b,MZ β b->M b):∀(c:Sch) (T:Nat->AV) (H:Hp) (b:Nat) (x:Lv c) (os:List (Value×Nat)),Jp (c.map (·.2))=Y->Ch P w M tm (c.map (·.2)) x (c.map λp=>tm p.1) os->Num β b os->(∀t,R1 w β (T t)<|tm t)->
  (∀t,R1 w β ((Mg T H b c x).1 t)<|tm t)/\(Mg T H b c x).2.2=b+os.length/\IN P w β H (Mg T H b c x).2.1 b os.length
 | [],T,H,b,x,os,_,hr,_,hT=>by obtain⟨_,rfl⟩:=hr;exact⟨hT,rfl,.nil⟩
 | (t,h)::c,T,H,b,x,os,hl,hr,hn,hT=>by
  obtain⟨u,us',o1,o2,e1,rfl,h1,h2⟩:=hr;simp only[DM,Ly]at e1;obtain⟨rfl,rfl⟩:=e1;simp only[DM,Jp,AD]at hl;have un:Mg T H b ((t,h)::c) x=(match BI T H b h x.1 with|(v,H,b)=>Mg (upd T t v) H b c x.2):=rfl;obtain⟨k1,k2,k3⟩:=aaR (E:=T) hM h H b x.1 (tm t) o1 hl.1 h1 hn.left (λt' _=>hT t');rw[un];generalize BI T H b h x.1=r at *;obtain⟨v,H',b'⟩:=r;simp only at k1 k2 k3 ⊢;subst k2;obtain⟨j1,j2,j3⟩:=aAv hM c (upd T t v) H' (b+o1.length) x.2 o2 hl.2 h2 hn.right (λt'=>by
   by_cases e:t'=t
   .subst e;rw[Bf];exact k1
   .rw[BB _ _ e];exact hT t')
  refine⟨j1,by rw[j2];simp[D8], ?_⟩;rw[Au];exact k3.trans j3
def R1.aM{tm:Nat->Value}{c:AV}{v:Value}(h:R1 w β c v):RT w β tm c v:= .HF<|.HG h
def St.join(hst:St B β stk s a w){c:Sch}{x:Lv c}(hx:rdS c s=I x):stk=[]/\ ∃β',St B β' [] (mkS s.n s.pins c x) a w/\Fr (mkS s.n s.pins c x)/\(mkS s.n s.pins c x).n=s.n/\(mkS s.n s.pins c x).pins=s.pins:=by
 unfold rdS at hx;split at hx
 .rename_i hs hnd hok;have R5:stk=[]:=by
   have:=hst.stack.1;rw[hs]at this;exact Dw this
  refine⟨R5, ?_⟩;simp only[AD]at hnd;simp only[abK,AD]at hok;have R:NR B β s.H w (MO B<|Ay<|(OE s.H s.T c).filterMap β) s.T (BY a):={
   hs:=hst.hs
   hM:=λb hb=>abc hst.hs hb
   hE:=λt id z e=>(hst.T t).ME (by rw[e];simp) (by rw[e];simp) }
  obtain⟨os,h1,h2⟩:=aAe R hst.T c x hx<|lB hst.hs hnd.2;have aI:(Ay os).Nodup:=by rw[h2];exact Wg hst.hs<|Wr hnd.1
  have hMB:∀b∈Ay os,MB β b:=λb hb=>by rw[h2]at hb;exact Sw hb
  obtain⟨k1,k2,k3⟩:=aAv (β:=Ha B.Z os) (P:=B.P) (w:=w) (M:=MO B<|Ay<|(OE s.H s.T c).filterMap β) (tm:=BY a) (λb hb=>by have:=me hb;rw[h2]at this;exact this) c (λ_=> .un) (λ_=>G) 0 x os hok.1.2 h1 (kh B.Z os) (λ_=>trivial);have un:mkS s.n s.pins c x=(match Mg (λ_=> .un) (λ_=>G) 0 c x with
   | (T,H,b)=>{ n:=s.n,T:=T,H:=H,nid:=b,st:=[],pins:=s.pins,gs:=λ_=>A0 }):=rfl
  rw[un];generalize Mg (λ_=> .un) (λ_=>G) 0 c x=r at *;obtain⟨T,H',b⟩:=r;simp only at k1 k2 k3;have hH:=hst.hs.ayZ aI hMB k3;refine⟨Ha B.Z os,⟨λt=>(k1 t).aM,⟨rfl,λi T' tm h=>by simp at h⟩,hst.n,hst.defers,hst.pins,λt g want y hy=> ?_,hH⟩,λj hj=> ?_,rfl,rfl⟩
  .have:=k1 t;have hy:T t= .gd g want y:=hy;rw[hy]at this;exact this.elim
  .exact k3.1 j (.inr (by have hj:b<=j:=hj;omega))
 .cases hx
end
end Go.VS
namespace Go.VS
open Go
structure KOK {Ω:Type} (B:Bb) (stk:List (Array Value)) (n:Nat) (pins:List Nat) (k:Kt Ω) (q:Ω) (Q:Exit->Act->World->Prop):Prop where
 nrm:∀β a w s,St B β stk s a w->Fr s->s.n=n->s.pins=pins->k.nrm s=I q->Q .normal a w
 ret:∀β a w s,St B β stk s a w->Fr s->s.n=n->s.pins=pins->k.ret s=I q->Q .ret a w
 ext:∀id β a w s,St B β stk s a w->Fr s->s.n=n->s.pins=pins->k.ext id s=I q->Q (.exit id) a w
def Mn(B:Bb)(n:Nat)(pins:List Nat)(body:Code)(l:Loop):Prop:=∀(x:Lv l.sch) (r:Lv l.KD ⊕ Lv l.KE),l.run x=I r->∀(β:Beta) (a:Act) (w:World) (Q:Exit->Act->World->Prop),
 St B β [] (mkS n pins l.sch x) a w->Fr (mkS n pins l.sch x)->
 (∀y,r= .inl y->∀β a w,St B β [] (mkS n pins l.KD y) a w->Fr (mkS n pins l.KD y)->Q .ret a w)->
 (∀y,r= .inr y->∀β a w,St B β [] (mkS n pins l.KE y) a w->Fr (mkS n pins l.KE y)->Q (.exit l.xid) a w)->(Code.loop body).wp B.P Q a w
def HZ(L:Code->Loop->Prop):Code->Adv->Prop
 | .seq a b,.join _ u v=>HZ L a u/\HZ L b v
 | .seq a b,v=>HZ L a v.a/\HZ L b v.z
 | .cond _ x y,v=>HZ L x v.a/\HZ L y v.z
 | .block _ c,v=>HZ L c v.a
 | .loop c,.loop l=>L c l
 | _,_=>True
def G8(L:Code->Loop->Prop):∀c:Code,HZ L c .nil
 | .seq a b=>⟨G8 L a,G8 L b⟩
 | .cond _ x y=>⟨G8 L x,G8 L y⟩
 | .block _ c=>G8 L c
 | .skip=>trivial
 | .region _ _ _=>trivial
 | .loop _=>trivial
 | .exit _=>trivial
 | .ret=>trivial
 | .rangeFunc _ _ _ _=>trivial
 | .scope _=>trivial
 | .label _=>trivial
 | .goto _=>trivial
 | .refuse _=>trivial
section
variable {C:Cx} {B:Bb} {inl:(Ω:Type)->Inl Ω}
def XF(hP:C.P=B.P)(hm:B.P.follows .mixedOrders=Y)(hC:HL C B)(hI:JB C B inl):∀(c:Code) {Ω:Type} (v:Adv) (k:Kt Ω) (s:S) (q:Ω) {β:Beta} {stk:List (Array Value)} {a:Act} {w:World} {Q:Exit->Act->World->Prop},
  evk C inl c Ω v k s=I q->St B β stk s a w->Fr s->HZ (Mn B s.n s.pins) c v->KOK B stk s.n s.pins k q Q->c.wp B.P Q a w:=by
 intro c
 induction c with
 | skip=>exact λv k s q β stk a w Q he hst hfr _ hk=>wp_skip<|hk.nrm _ _ _ _ hst hfr rfl rfl he
 | region id ops draw=>
  intro Ω v k s q β stk a w Q he hst hfr _ hk;cases draw with
  | false=>exact aAl hP hC hI (show OZ C (inl Ω) ops ops.toList s k.nrm=I q from he) hfr hst λβ a w s' h1 h2 h3 h4 h5=>hk.nrm β a w s' h1 h2 h3 h4 h5
  | true=>
   obtain⟨β1,hs1,_⟩:=St.L7 (Qm C ops s) hst;have hk1:=BD.L7 (N:=λ_=>False) (Qm C ops s)<|BD.refl _ s;have he:evD C ops ((Qm C ops s).foldl S.freeze s) ops.toList 0 s.nid [] ((Qm C ops s).foldl S.freeze s) k.nrm=I q:=he;rw[← hk1.nid]at he;exact asU hP hm hC he (λj hj=>hk1.nn j (λh=>h)<|hfr j (by rw[hk1.nid]at hj;exact hj)) hs1 λβ a w s' h1 h2 h3 h4 h5=>hk.nrm β a w s' h1 h2 (h3.trans hk1.n) (h4.trans hk1.pins) h5
 | seq x y ihx ihy=>
  intro Ω v k s q β stk a w Q he hst hfr GS hk;refine wp_seq ?_;by_cases hj:∃c u v',v= .join c u v'
  .obtain⟨c,u,v',rfl⟩:=hj;obtain⟨ha1,ha2⟩:=GS;have he:BT (λx=>evk C inl y Ω v' k<|mkS s.n s.pins c x) (evk C inl x (Ω ⊕ Lv c) u { nrm:=λs=>(rdS c s).bind λx=>I<|.inr x,ret:=λs=>(k.ret s).bind λo=>I<|.inl o,ext:=λj s=>(k.ext j s).bind λo=>I (.inl o) } s)=I q:=he;obtain⟨r,h1,h2⟩:=Ah.1 he;refine ihx u _ s r h1 hst hfr ha1 ⟨?_, ?_, ?_⟩
   .intro β' a' w' s' k1 k2 k3 k4 k5;obtain⟨z,j1,j2⟩:=Ah.1 k5;cases j2;obtain⟨rfl,β2,m1,m2,m3,m4⟩:=k1.join j1;rw[k3,k4]at m1 m2 m3 m4;exact ihy v' k _ q h2 m1 m2 (by rw[m3,m4];exact ha2) (by rw[m3,m4];exact hk)
   .intro β' a' w' s' k1 k2 k3 k4 k5;obtain⟨o,j1,j2⟩:=Ah.1 k5;cases j2;have h2:I o=I q:=h2;cases h2;exact hk.ret _ _ _ _ k1 k2 k3 k4 j1
   .intro id β' a' w' s' k1 k2 k3 k4 k5;obtain⟨o,j1,j2⟩:=Ah.1 k5;cases j2;have h2:I o=I q:=h2;cases h2;exact hk.ext id _ _ _ _ k1 k2 k3 k4 j1
  .have he:evk C inl x Ω v.a { k with nrm:=evk C inl y Ω v.z k } s=I q:=by
    cases v<;>first|exact he|exact absurd ⟨_,_,_,rfl⟩ hj
   have GS:HZ (Mn B s.n s.pins) x v.a/\HZ (Mn B s.n s.pins) y v.z:=by
    cases v<;>first|exact GS|exact absurd ⟨_,_,_,rfl⟩ hj
   refine ihx v.a _ s q he hst hfr GS.1 ⟨?_,hk.ret,hk.ext⟩;intro β' a' w' s' k1 k2 k3 k4 k5;exact ihy v.z k s' q k5 k1 k2 (by rw[k3,k4];exact GS.2) (by rw[k3,k4];exact hk)
 | cond o x y ihx ihy=>
  intro Ω v k s q β stk a w Q he hst hfr GS hk;have he:(match s.ev o with
   | .lit (.bool b)=>if b then evk C inl x Ω v.a k s else evk C inl y Ω v.z k s
   | _=>G)=I q:=he
  split at he
  .rename_i b hb;have h1:=hst.eval o;rw[hb]at h1;have h2:a.eval o= .bool b:=h1;refine wp_cond h2 ?_;cases b with
   | true=>exact ihx v.a k s q he hst hfr GS.1 hk
   | false=>exact ihy v.z k s q he hst hfr GS.2 hk
  .cases he
 | block id x ihx=>
  intro Ω v k s q β stk a w Q he hst hfr GS hk;refine wp_block ?_;have he:evk C inl x Ω v.a { k with ext:=λj s=>match Ag j id with
   | true=>k.nrm s
   | false=>k.ext j s } s=I q:=he
  refine ihx v.a _ s q he hst hfr GS ⟨hk.nrm,hk.ret, ?_⟩;intro j β' a' w' s' k1 k2 k3 k4 k5;show if j=id then Q .normal a' w' else Q (.exit j) a' w'
  simp only at k5;split at k5
  .rename_i e;rw[A5<|Bm e];exact hk.nrm _ _ _ _ k1 k2 k3 k4 k5
  .rename_i e;rw[A8<|SO e];exact hk.ext _ _ _ _ _ k1 k2 k3 k4 k5
 | loop body _=>
  intro Ω v k s q β stk a w Q he hst hfr GS hk;cases v<;>first|(cases he;done)|skip
  rename_i l;have he:((rdS l.sch s).bind λx=>AO (l.run x) (λy=>k.ret<|mkS s.n s.pins l.KD y) λy=>k.ext l.xid (mkS s.n s.pins l.KE y))=I q:=he;obtain⟨x,h1,h2⟩:=Ah.1 he;obtain⟨r,h3,h4⟩:=Ah.1 h2;obtain⟨rfl,β',m1,m2,_,_⟩:=hst.join h1;have GS:Mn B s.n s.pins body l:=GS;refine GS x r h3 β' a w Q m1 m2 ?_ ?_
  .rintro y rfl β a w k1 k2;exact hk.ret _ _ _ _ k1 k2 (by unfold mkS;rfl) (by unfold mkS;rfl) h4
  .rintro y rfl β a w k1 k2;exact hk.ext _ _ _ _ _ k1 k2 (by unfold mkS;rfl) (by unfold mkS;rfl) h4
 | exit id=>exact λv k s q β stk a w Q he hst hfr _ hk=>wp_exit<|hk.ext _ _ _ _ _ hst hfr rfl rfl he
 | ret=>exact λv k s q β stk a w Q he hst hfr _ hk=>wp_ret<|hk.ret _ _ _ _ hst hfr rfl rfl he
 | _=>
  intro Ω v k s q β stk a w Q he;cases he
def jW(p:Nat->Prop)(h:∃n,p n):∃n,p n/\ ∀m,p m->n<=m:=by
 obtain⟨n,hn⟩:=h
 induction n using Nat.strongRecOn with
 | _ n ih=>
  by_cases hm:∃m,m<n/\p m
  .obtain⟨m,h1,h2⟩:=hm;exact ih m h1 h2
  .exact⟨n,hn,λm h=>Nat.le_of_not_lt λhlt=>hm ⟨m,hlt,h⟩⟩
def aCm{X H5:Type}{b:X->Option (X ⊕ H5)}{x:X}{y:H5}(h:AW b x=I y):∃n,HY b n x=I y:=by
 unfold AW at h;split at h
 .rename_i hn;have:=Il<|Il hn;cases h;exact⟨_,this⟩
 .cases h
def jU{X H5:Type}{b:X->Option (X ⊕ H5)}:∀(n:Nat) (x:X) {y:H5},HY b n x=I y->∀m,n<=m->HY b m x=I y
 | 0,x,y,h=>by cases h
 | n+1,x,y,h=>by
  intro m hm;obtain⟨m,rfl⟩:∃k,m=k+1:=⟨m - 1,J⟩;obtain⟨r,h1,h2⟩:=Ah.1 (show((b x).bind λr=>match r with
   | .inl y=>HY b n y
   | .inr z=>I z)=I y from h)
  show((b x).bind λr=>match r with
   | .inl y=>HY b m y
   | .inr z=>I z)=I y
  rw[h1,A6];cases r with
  | inl z=>exact jU n z h2 m J
  | inr z=>exact h2
def aB6{X H5:Type}{b:X->Option (X ⊕ H5)}{x:X}{y:H5}{n:Nat}(h:HY b n x=I y):AW b x=I y:=by
 have hn:∃n y,HY b n x=I y:=⟨n,y,h⟩;unfold AW;rw[dif_pos hn];have h1:=Il<|Il hn;have h2:=jU _ _ h (n+My hn) J;have h3:=jU _ _ h1 (n+My hn) J;rw[h2]at h3;exact h3.symm
def aqs{X H5:Type}{b:X->Option (X ⊕ H5)}{n:Nat}{x:X}{y:H5}(h:HY b (n+1) x=I y):∃r,b x=I r/\(∀x',r= .inl x'->HY b n x'=I y)/\(∀z,r= .inr z->z=y):=by
 obtain⟨r,h1,h2⟩:=Ah.1 (show((b x).bind λr=>match r with
   | .inl y=>HY b n y
   | .inr z=>I z)=I y from h)
 refine⟨r,h1, ?_, ?_⟩
 .rintro x' rfl;exact h2
 .rintro z rfl;exact Eh h2
def av8(hP:C.P=B.P)(hm:B.P.follows .mixedOrders=Y)(hC:HL C B)(hI:JB C B inl){n:Nat}{pins:List Nat}{body:Code}{v:Adv}{l:Loop}{b:Lv l.sch->Option (Lv l.sch ⊕ (Lv l.KD ⊕ Lv l.KE))}
  (hb:∀x,evL C inl n pins body v l x=b x)(hr:l.run=AW b)(GS:HZ (Mn B n pins) body v):Mn B n pins body l:=by
 intro x r Cg β a w Q hst hfr IM azh;rw[hr]at Cg;obtain⟨N,hN⟩:=aCm Cg
 let SC:Nat->Act->World->Prop:=λm a w=>∃(x:Lv l.sch) (β:Beta),HY b m x=I r/\St B β [] (mkS n pins l.sch x) a w/\Fr (mkS n pins l.sch x)
 classical
 let μ:Act->World->Nat:=λa w=>if h:∃m,SC m a w then My (jW _ h) else 0
 have hμ:∀a w,(h:∃m,SC m a w)->SC (μ a w) a w/\ ∀m,SC m a w->μ a w<=m:=λa w h=>by
  have:=Il<|jW _ h;simp only[μ,dif_pos h];exact this
 refine wp_loop (λa w=>∃m,SC m a w) μ ⟨N,x,β,hN,hst,hfr⟩ ?_;intro a w hJ;obtain⟨⟨x,β,h1,h2,h3⟩,_⟩:=hμ a w hJ;generalize hm':μ a w=m at h1;cases m with
 | zero=>cases h1
 | succ m=>
  obtain⟨r1,k1,k2,k2'⟩:=aqs h1;have he:=hb x;rw[k1]at he;unfold evL at he;have en:(mkS n pins l.sch x).n=n:=by unfold mkS;rfl
  have ep:(mkS n pins l.sch x).pins=pins:=by unfold mkS;rfl
  refine XF hP hm hC hI body v _ _ r1 he h2 h3 (by rw[en,ep];exact GS) ?_;rw[en,ep];refine⟨?_, ?_, ?_⟩
  .intro β' a' w' s' j1 j2 j3 j4 j5;obtain⟨y,i1,i2⟩:=Ah.1 j5;cases i2;obtain⟨_,β2,m1,m2,_,_⟩:=j1.join i1;rw[j3,j4]at m1 m2;have hJ':SC m a' w':=⟨y,β2,k2 y rfl,m1,m2⟩;refine⟨⟨m,hJ'⟩, ?_⟩;have:=(hμ a' w' ⟨m,hJ'⟩).2 m hJ';omega
  .intro β' a' w' s' j1 j2 j3 j4 j5;obtain⟨y,i1,i2⟩:=Ah.1 j5;cases i2;obtain⟨_,β2,m1,m2,_,_⟩:=j1.join i1;rw[j3,j4]at m1 m2;have k2:=k2' _ rfl;subst k2;exact IM y rfl _ _ _ m1 m2
  .intro id β' a' w' s' j1 j2 j3 j4 j5;simp only at j5;split at j5
   .rename_i hid;obtain rfl:=Bm hid;obtain⟨y,i1,i2⟩:=Ah.1 j5;cases i2;obtain⟨_,β2,m1,m2,_,_⟩:=j1.join i1;rw[j3,j4]at m1 m2;have k2:=k2' _ rfl;subst k2;exact azh y rfl _ _ _ m1 m2
   .cases j5
end
end Go.VS
namespace Go.VS
open Go
def M5:List Value->Value
 | [v]=>v
 | vs=> .tuple vs.toArray
def Ji:List Sh->List Value->List Value
 | .box _ _::ps,v::vs=>v::Ji ps vs
 | _::ps,_::vs=>Ji ps vs
 | _,_=>[]
def Li(P:Program)(f:FuncId):Prop:=∀(args:Array Value) (w:World),(callFunc f args).run P w= .ok (.enter f args) w
def O2{P:Program}{f:FuncId}{fn:Func}{c:Code}(hf:P.funcs[f]? =I fn)(KB:(fn.name == "runtime.NumGoroutine")=A0)(hb:fn.body=I c):Li P f:=by
 intro args w;have oF:¬fn.name= "runtime.NumGoroutine" :=by simpa using KB
 simp[callFunc,hf,oF,hb]
abbrev ar(args:List Value):Nat->Value:=λi=>args.getD i undef
structure Ret (P:Program) (m:DO) (Z:Nat->Prop) (args:List Value) (os:List (Value×Nat)) (w:World) (r:LTs m.rs×LTs (B1 m.ps)) (v:Value) (w':World):Prop where
 ex:∃vs os1 os2,v=M5 vs/\Ch P w' (λb=>b∈Ay (os1++os2)\/Z b) (ar args) m.rs r.1 vs os1/\Ch P w' (λb=>b∈Ay (os1++os2)\/Z b) (ar args) (B1 m.ps) r.2 (Ji m.ps args) os2/\
  (Ay<|os1++os2).Nodup/\(∀b∈Ay (os1++os2),(b∈Ay os\/w.heap.size<=b)/\b<w'.heap.size)
 wos:w'.os=w.os
 tape:w'.tape=w.tape
 output:w'.output=w.output
 size:w.heap.size<=w'.heap.size
 block:∀b,b<w.heap.size->b ∉ Ay os->w'.heap[b]? =w.heap[b]?
 pk:Pk P w w'
def H4(P:Program)(f:FuncId)(m:DO):Prop:=Li P f/\ ∀(x:LTs m.ps) (r:LTs m.rs×LTs (B1 m.ps)),m.g x=I r->∀(w:World) (Z:Nat->Prop) (args:List Value) (os:List (Value×Nat)),
 Ch P w (λb=>b∈Ay os\/Z b) (ar args) m.ps x args os->(Ay os).Nodup->(∀b∈Ay os,b<w.heap.size/\ ¬Z b)->(∀b,Z b->b<w.heap.size)->NK P w (λb=>b∈Ay os)->
 Calls P f args.toArray w λen w'=>∃v,en= .returned v/\Ret P m Z args os w r v w'
section
variable {C:Cx} {B:Bb} {β:Beta} {H:Hp} {w w':World} {M:Nat->Prop} {stk:List (Array Value)} {s s':S} {a:Act} {P:Program} {e e':Nat->Value}
mutual
theorem Rel.congr:∀(h:Sh) (x:LT h) (v:Value) (os:List (Value×Nat)),(∀t∈Lm h,e t=e' t)->Rel P w M e h x v os->Rel P w M e' h x v os
 | .int _,_,_,_,_,h=>h
 | .bool,_,_,_,_,h=>h
 | .str,_,_,_,_,h=>h
 | .sl _,_,_,_,_,h=>h
 | .fz _,_,_,_,_,h=>h
 | .row _ _,_,_,_,_,h=>h
 | .Cf _ _,_,_,_,_,h=>h
 | .abx _ _,_,_,_,_,h=>h
 | .arr _,_,_,_,_,h=>h
 | .same t,_,_,_,he,h=>⟨h.1,h.2.1.trans<|he t<|by simp[Lm],h.2.2⟩
 | .agg l,x,v,os,he,h=>by
  obtain⟨us,h1,h2⟩:=h;exact⟨us,h1,Ch.congr l x us os he h2⟩
 | .box t l,x,v,os,he,h=>by
  obtain⟨b,us,os',h1,h2,h3,h4⟩:=h;exact⟨b,us,os',h1,h2,Ch.congr l x us.toList os' he h3,h4⟩
theorem Ch.congr:∀(l:List Sh) (x:LTs l) (us:List Value) (os:List (Value×Nat)),(∀t∈Ia l,e t=e' t)->Ch P w M e l x us os->Ch P w M e' l x us os
 | [],_,_,_,_,h=>h
 | h::l,x,us,os,he,hr=>by
  obtain⟨u,us',o1,o2,h1,h2,h3,h4⟩:=hr;exact⟨u,us',o1,o2,h1,h2,Rel.congr h x.1 u o1 (λt ht=>he t<|Bv _ ht) h3,Ch.congr l x.2 us' o2 (λt ht=>he t<|CP _ ht) h4⟩
end
def Ch.length:∀ {l:List Sh} {x:LTs l} {us:List Value} {os:List (Value×Nat)},Ch P w M e l x us os->us.length=l.length
 | [],_,_,_,h=>by rw[h.1];rfl
 | h::l,x,us,os,hr=>by
  obtain⟨u,us',o1,o2,rfl,_,_,h4⟩:=hr;simp[Ch.length h4]
def aA7{E:Nat->AV}:∀ {l:List Sh} {cs:List AV} {x:LTs l},GD E H l cs=I x->cs.length=l.length
 | [],[],_,_=>rfl
 | [],_::_,_,h=>by cases h
 | _::_,[],_,h=>by cases h
 | h::l,c::cs,x,hx=>by
  obtain⟨x1,e1,hx⟩:=Ah.1 hx;obtain⟨x2,e2,hx⟩:=Ah.1 hx;simp[aA7 e2]
def aAH:∀ {l l':List Sh} {cs cs':List AV},cs.length=l.length->Bi H (l++l') (cs++cs')=Bi H l cs++Bi H l' cs'
 | [],l',[],cs',_=>rfl
 | h::l,l',c::cs,cs',hl=>by
  simp only[Kr,Bi,aAH (l:=l) (cs:=cs)<|by simpa using hl,C2]
 | [],_,_::_,_,hl=>by simp at hl
 | _::_,_,[],_,hl=>by simp at hl
def aAI:∀ {l l':List Sh} {cs cs':List AV},cs.length=l.length->Cs H (l++l') (cs++cs')=Cs H l cs++Cs H l' cs'
 | [],l',[],cs',_=>rfl
 | h::l,l',c::cs,cs',hl=>by
  simp only[Kr,Cs,aAI (l:=l) (cs:=cs)<|by simpa using hl,C2]
 | [],_,_::_,_,hl=>by simp at hl
 | _::_,_,[],_,hl=>by simp at hl
def T9(tmps:Array Value):ResultVar->Sem Value
 | .tmp t=>pure (tmps.getD t undef)
 | .cell a t=>do loadVar t (← asAddr<|tmps.getD a undef)
def XX(hP:P=B.P)(hst:St B β stk s a w):∀(l:List ResultVar) {vs:List AV},Q3 P s l=I vs->
  ∃us:List Value,(l.mapM<|T9 a.tmps).run P w=Result.ok us w/\us.length=vs.length/\ ∀(i:Nat) (c:AV) (u:Value),vs[i]? =I c->us[i]? =I u->RX w β (BY a) c u
 | [],vs,h=>by
  cases h;exact⟨[],rfl,rfl,λi c u h=>by simp at h⟩
 | .tmp t::l,vs,h=>by
  obtain⟨vs',h1,h⟩:=Ah.1 h;cases h;obtain⟨us,k1,k2,k3⟩:=XX hP hst l h1;refine⟨BY a t::us, ?_,by simp[k2],λi c u h1 h2=> ?_⟩
  .simp only[TN,T9,Ef,Fj,F2,k1];rfl
  .cases i with
   | zero=>
    simp at h1 h2;subst h1;subst h2;exact(hst.T t).aL
   | succ i=>exact k3 i c u (by simpa using h1)<|by simpa using h2
 | .cell x t::l,vs,h=>by
  obtain⟨v,h0,h⟩:=Ah.1 h;obtain⟨vs',h1,h⟩:=Ah.1 h;cases h;obtain⟨us,k1,k2,k3⟩:=XX hP hst l h1;have hx:R2 w β (s.T x) (BY a x):=(hst.T x).aN (by
   cases hT:s.T x<;>first|rfl|(rw[hT]at h0;cases h0))
  obtain⟨u,j1,j2⟩:=aCd hP hst.hs hx h0;have azQ:∃ad,BY a x= .pointer (I ad):=by
   cases hT:s.T x<;>rw[hT]at h0 hx<;>first|(cases h0;done)|skip
   .rename_i id z i o;have hx:RC w β (.ptr id z i o) (BY a x):=hx;generalize BY a x=y at hx;cases hx;exact⟨_,rfl⟩
   .rename_i k xx o;have hx:RC w β (.ipt k xx o) (BY a x):=hx;generalize BY a x=y at hx;cases hx;exact⟨_,rfl⟩
  obtain⟨ad,had⟩:=azQ;have azm:a.tmps.getD x undef= .pointer (I ad):=had;rw[had]at j1;refine⟨u::us, ?_,by simp[k2],λi c u' h1 h2=> ?_⟩
  .have j1':(loadVar t ad).run P w= .ok u w:=by simpa[Mt,JO] using j1
   simp only[TN,T9,azm,asAddr,Ef,Fj,F2,j1',k1]
  .cases i with
   | zero=>
    simp at h1 h2;subst h1;subst h2;exact(RT.HF<|R2.HG j2).aL
   | succ i=>exact k3 i c u' (by simpa using h1)<|by simpa using h2
def aAc{fn:Func}{us:List Value}(h:(fn.results.toList.mapM<|T9 a.tmps).run P w=Result.ok us w):(results fn a.tmps).run P w= .ok (M5 us) w:=by
 have e1:results fn a.tmps=(do
   let vs ← fn.results.mapM (T9 a.tmps)
   pure (if h:vs.size=1 then vs[0] else .tuple vs)):=rfl
 rw[e1,Array.mapM_eq_mapM_toList,map_eq_pure_bind];simp only[bind_assoc,pure_bind,Ef,h,F2,Fj]
 match us with
 | []=>rfl
 | [u]=>rfl
 | u::v::l=>simp[M5]
end
end Go.VS
namespace Go.VS
open Go
def okM(m:DO)(n:Nat):Bool:=Jp m.ps&&Jp m.rs&&Dx m.ps.length n&&(Ia m.rs++Ia (B1 m.ps)).all λt=>(Dz 0 m.ps).any λp=>Ag p t
section
variable {C:Cx} {B:Bb} {β:Beta} {H:Hp} {w w':World} {M:Nat->Prop} {stk:List (Array Value)} {s s':S} {a:Act} {P:Program} {e e':Nat->Value} {inl:(Ω:Type)->Inl Ω}
def W7{E:Nat->AV}:∀ {l:List Sh} {cs:List AV} {x:LTs l},GD E H l cs=I x->∀c∈cs,(∀g w v,c≠ .gd g w v)/\ ∀vs,c≠ .tup vs
 | [],[],_,_,c,hc=>by cases hc
 | [],_::_,_,h,_,_=>by cases h
 | _::_,[],_,h,_,_=>by cases h
 | h::l,d::cs,x,hx,c,hc=>by
  obtain⟨x1,e1,hx⟩:=Ah.1 hx;obtain⟨x2,e2,hx⟩:=Ah.1 hx;obtain rfl|hc:=Bl.1 hc
  .exact aAx e1
  .exact W7 e2 c hc
def RX.ME{tm:Nat->Value}{c:AV}{v:Value}(h:RX w β tm c v)(h1:∀g w v,c≠ .gd g w v)(h2:∀vs,c≠ .tup vs):R1 w β c v:=by
 have:=h.of h1;cases c<;>first|exact this|exact absurd rfl (h2 _)
def aAK(args:List Value):∀(ps:List Sh) (k:Nat),args.length=k+ps.length->Ji ps (args.drop k)=(Dz k ps).map (ar args)
 | [],k,h=>by
  have:args.drop k=[]:=M0 (by simp at h;omega);rw[this];rfl
 | p::ps,k,h=>by
  have hk:k<args.length:=by simp at h;omega
  rw[TH hk];have ih:=aAK args ps (k+1) (by simp at h ⊢; omega);have oO:ar args k=args[k]:=by simp[ar,hk]
  cases p<;>simp only[Ji,Dz,Te,DM,ih,oO]
def WH(args:List Value)(n t:Nat):BY { tmps:=args.toArray++QW (n - args.toArray.size) undef,defers:=[] } t=ar args t:=by
 simp only[BY,ar,TG,B9];by_cases h:t<args.length
 .rw[Lt<|by simpa using h];simp
 .rw[Array.getElem?_append_right<|by simpa using h,He J];cases hr:(QW (n - args.toArray.size) undef)[t - args.toArray.size]? with
  | none=>rfl
  | some v=>
   rw[Array.getElem?_replicate]at hr;split at hr
   .cases hr;rfl
   .cases hr
def YC{fn:Func}{m:DO}{r:LTs m.rs×LTs (B1 m.ps)}{args:List Value}{os:List (Value×Nat)}(hst:St B β stk s a w)(hO:B.O=λb=>b∈Ay os)(htm:B.tm0=ar args)(hlen:args.length=m.ps.length)(hp:s.pins=Dz 0 m.ps)
  {n:Nat}(hok:okM m n=Y)(hf:fin B.P fn m s=I r):∃v,(results fn a.tmps).run B.P w= .ok v w/\Ret B.P m B.Z args os B.w0 r v w:=by
 unfold fin at hf;obtain⟨vs,h1,hf⟩:=Ah.1 hf;split at hf
 .rename_i hnd;simp only[AD]at hnd;obtain⟨r1,h2,hf⟩:=Ah.1 hf;obtain⟨q,h3,hf⟩:=Ah.1 hf;cases hf;obtain⟨us,k1,k2,k3⟩:=XX rfl hst fn.results.toList h1;have hl1:=aA7 h2;rw[aAH hl1,aAI hl1]at hnd;generalize ayU:Bi s.H m.rs vs=NE at hnd;generalize ayT:Bi s.H (B1 m.ps) ((Dz 0 m.ps).map s.T)=ND at hnd;have R:NR B β s.H w (MO B<|Ay<|(NE++ND).filterMap β) s.T (BY a):={
   hs:=hst.hs
   hM:=λb hb=>abc hst.hs hb
   hE:=λt id z e=>(hst.T t).ME (by rw[e];simp) (by rw[e];simp) }
  have hfz:=lB hst.hs hnd.2;have rl1:RL (R1 w β) vs us:=⟨k2,λj c u e1 e2=>(k3 j c u e1 e2).ME (W7 h2 c<|Ci e1).1 (W7 h2 c<|Ci e1).2⟩;have rl2:RL (R1 w β) ((Dz 0 m.ps).map s.T) ((Dz 0 m.ps).map<|BY a):=⟨by simp,λj c u e1 e2=>by
   obtain⟨h5,h6⟩:=W7 h3 c<|Ci e1;rw[D7]at e1 e2;obtain⟨t,ht,rfl⟩:=D6.1 e1;obtain⟨t',ht',rfl⟩:=D6.1 e2;rw[ht]at ht';cases ht';exact(hst.T t).ME h5 h6⟩
  obtain⟨os1,j1,j2⟩:=Wq R m.rs vs us r1 rl1 h2 (λi hi=>hfz i<|Bv _ hi);obtain⟨os2,j3,j4⟩:=Wq R (B1 m.ps) _ _ q rl2 h3 (λi hi=>hfz i<|CP _ hi);rw[ayU]at j2;rw[ayT]at j4;have G4:Ay (os1++os2)=Ay ((NE++ND).filterMap β):=by
   simp only[Ay,Lw]at j2 j4 ⊢;rw[j2,j4]
  have oX:MO B (Ay<|(NE++ND).filterMap β)=λb=>b∈Ay (os1++os2)\/B.Z b:=by rw[G4]
  rw[oX]at j1 j3;have acP:∀t∈Dz 0 m.ps,BY a t=ar args t:=λt ht=>by rw[hst.pins t (by rw[hp];exact ht),htm]
  simp only[okM,AD,DK,K0]at hok;have Gl:∀t∈Ia m.rs++Ia (B1 m.ps),BY a t=ar args t:=λt ht=>by
   obtain⟨p,hp1,hp2⟩:=hok.2 t ht;rw[← Bm hp2];exact acP p hp1
  refine⟨M5 us,aAc k1,⟨us,os1,os2,rfl,Ch.congr _ _ _ _ (λt ht=>Gl t<|Bv _ ht) j1, ?_, ?_, ?_⟩,hst.hs.os,hst.hs.tape,hst.hs.output,hst.hs.size, ?_,hst.hs.pk⟩
  .have e1:Ji m.ps args=(Dz 0 m.ps).map (BY a):=by
    have:=aAK args m.ps 0 J;rw[Ik]at this;rw[this];exact Gi λt ht=>(acP t ht).symm
   rw[e1];exact Ch.congr _ _ _ _ (λt ht=>Gl t<|CP _ ht) j3
  .rw[G4];exact Wg hst.hs (Wr hnd.1)
  .intro b hb;rw[G4]at hb;have:=hst.hs.old b<|Sw hb;rw[hO]at this;exact this
  .intro b hb hn;have:=hst.hs.block b hb;rw[hO]at this;exact this hn
 .cases hf
def atL{P:Program}(hP:C.P=P)(hm:P.follows .mixedOrders=Y)(hC:∀B:Bb,B.P=P->HL C B)(hI:∀B:Bb,B.P=P->JB C B inl){f:FuncId}{fn:Func}{body:Code}(hf:P.funcs[f]? =I fn)(KB:(fn.name == "runtime.NumGoroutine")=A0)
  (hb:fn.body=I body){v:Adv}{m:DO}(hok:okM m fn.ntmps=Y)(GS:∀B:Bb,B.P=P->HZ (Mn B fn.ntmps<|Dz 0 m.ps) body v)(hg:∀x,Zj C inl fn v m x=m.g x):H4 P f m:=by
 refine⟨O2 hf KB hb,λx r hx w Z args os hr hnd hbl hZ hgl=> ?_⟩;rw[← hg]at hx;unfold Zj at hx;rw[hb]at hx;simp only[evF]at hx;have U0:=hok;simp only[okM,AD]at U0;obtain⟨⟨⟨hps,hrs⟩,hn⟩,_⟩:=U0;have hn:=DW hn;have hlen:=hr.length
 let B:Bb:={ P:=P,w0:=w,O:=λb=>b∈Ay os,tm0:=ar args,Z:=Z,gl:=hgl }
 have R7:Num (Ha Z os) 0 os:=kh Z os;obtain⟨k1,k2,k3⟩:=XR (β:=Ha Z os) (E:=λ_=> .un) (M:=λb=>b∈Ay os\/Z b) (P:=P) (w:=w) (e:=ar args) (λb hb=>me (B:=B) hb) m.ps (λ_=>G) 0 x args os hps hr R7 (λt _=>trivial);have hi:Qr fn.ntmps m.ps x=(match Aj (λ_=> .un) (λ_=>G) 0 m.ps x with
  | (vs,H,b)=>{ n:=fn.ntmps,T:=λt=>(vs[t]?).getD Dp,H:=H,nid:=b,st:=[],pins:=Dz 0 m.ps,gs:=λ_=>A0 }):=rfl
 rw[hi]at hx;generalize Aj (λ_=> .un) (λ_=>G) 0 m.ps x=q at *;obtain⟨vs,H,b⟩:=q;simp only at hx k1 k2 k3;have hH:Hs B (Ha Z os) H w:={
  EI:=λid ob ho=>by
   by_cases h:id<os.length
   .obtain⟨ob',h1,h2⟩:=k3.2 id (D1 _) J;rw[h1]at ho;cases ho;exact h2
   .rw[k3.1 id J]at ho;cases ho
  dom:=λid p hp=>by
   have h:id<os.length:=(BO.1<|show os[id]? =I p from hp).1;obtain⟨ob',h1,_⟩:=k3.2 id (D1 _) J;exact⟨ob',h1⟩
  inj:=λi j p q a a' hi hj=>XP hnd i j p q a a' hi hj
  old:=λb hb=>⟨.inl<|Mk hb,(hbl b<|Mk hb).1⟩
  os:=rfl
  tape:=rfl
  output:=rfl
  size:=Ar _
  block:=λ_ _ _=>rfl
  z:=rfl
  zn:=λid p a hp ha=>(hbl _<|Mk (Z:=Z) ⟨id,p.1,p.2,a,hp,ha,rfl⟩).2
  zl:=hZ
  pk:=Pk.refl _ _ }
 refine calls_of_wp hf hb ?_;have hst:St B (Ha Z os) [] { n:=fn.ntmps,T:=λt=>(vs[t]?).getD Dp,H:=H,nid:=b,st:=[],pins:=Dz 0 m.ps,gs:=λ_=>A0 } { tmps:=args.toArray++QW (fn.ntmps - args.toArray.size) undef,defers:=[] } w:=by
  refine⟨λt=> ?_,⟨rfl,λi T' tm h=>by simp at h⟩, ?_,rfl,λt _=>WH args _ t,λt g want y hy=> ?_,hH⟩
  .rw[WH];show RT w _ _ ((vs[t]?).getD Dp) _;cases hv:vs[t]? with
   | none=>
    have:args.length<=t:=by
     rw[k1.1];exact Yf.1 hv
    show RT w _ _ Dp (ar args t);have e0:ar args t=undef:=by simp[ar,He this]
    rw[e0];rfl
   | some c=>
    have hlt:t<args.length:=by rw[k1.1];exact(BO.1 hv).1
    have hu:args[t]? =I (ar args t):=by simp[ar,hlt]
    exact(k1.2 t c _ hv hu).aM
  .simp;omega
  .have hy:(vs[t]?).getD Dp= .gd g want y:=hy;cases hv:vs[t]? with
   | none=>rw[hv]at hy;cases hy
   | some c=>
    rw[hv]at hy;have hy:c= .gd g want y:=hy;have hlt:t<args.length:=by rw[k1.1];exact(BO.1 hv).1
    have hu:args[t]? =I (ar args t):=by simp[ar,hlt]
    have:=k1.2 t c _ hv hu;rw[hy]at this;exact this.elim
 refine XF (B:=B) hP hm (hC B rfl) (hI B rfl) body v _ _ r hx hst (λj hj=>k3.1 j<|.inr (by have hj:b<=j:=hj;omega)) (GS B rfl) ⟨?_, ?_, ?_⟩
 .intro β' a' w' s' h1 h2 h3 h4 h5;obtain⟨v',i1,i2⟩:=YC (B:=B) h1 rfl rfl hlen h4 hok (show fin P fn m s'=I r by rw[← hP];exact h5);exact⟨h1.defers,v',i1,v',rfl,i2⟩
 .intro β' a' w' s' h1 h2 h3 h4 h5;obtain⟨v',i1,i2⟩:=YC (B:=B) h1 rfl rfl hlen h4 hok (show fin P fn m s'=I r by rw[← hP];exact h5);exact⟨h1.defers,v',i1,v',rfl,i2⟩
 .intro id β' a' w' s' h1 h2 h3 h4 h5;cases h5
end
end Go.VS
namespace Go.VS
open Go
def HR(l:List Sh):Bool:=Hy l&&l.all λh=> !Te h
section
variable {B:Bb} {β β':Beta} {H:Hp} {w w':World} {M:Nat->Prop} {stk:List (Array Value)} {s s':S} {a:Act} {P:Program} {E:Nat->AV} {e:Nat->Value} {b:Nat}
mutual
theorem asn:∀h:Sh,Dk h=Y->Ie h=Y/\Lm h=[]
 | .int _,_=>⟨rfl,rfl⟩
 | .bool,_=>⟨rfl,rfl⟩
 | .str,_=>⟨rfl,rfl⟩
 | .sl _,_=>⟨rfl,rfl⟩
 | .row _ _,_=>⟨rfl,rfl⟩
 | .fz _,_=>⟨rfl,rfl⟩
 | .Cf _ _,_=>⟨rfl,rfl⟩
 | .abx _ _,_=>⟨rfl,rfl⟩
 | .arr _,h=>by simp[Dk]at h
 | .agg _,h=>by simp[Dk]at h
 | .same _,h=>by simp[Dk]at h
 | .box _ l,h=>by
  have:=jA l (by simpa[Dk] using h);exact⟨by simpa[Ie] using this.1,by simpa[Lm] using this.2⟩
theorem jA:∀l:List Sh,Hy l=Y->Mj l=Y/\Ia l=[]
 | [],_=>⟨rfl,rfl⟩
 | h::l,hl=>by
  simp only[Hy,AD]at hl;have h1:=asn h hl.1;have h2:=jA l hl.2;exact⟨by simp[Mj,h1.1,h2.1],by simp[Ia,h1.2,h2.2]⟩
end
def Wh:∀(l:List Sh) (H:Hp) (b:Nat) (cs:List AV) (x:LTs l),HR l=Y->BP E H b l cs x=Aj E H b l x
 | [],_,_,_,_,_=>rfl
 | h::l,H,b,cs,x,hl=>by
  simp only[HR,Hy,Om,AD]at hl;obtain⟨⟨h1,h2⟩,h3,h4⟩:=hl;have un:BP E H b (h::l) cs x=(match Cy E H b h (cs.headD .un) x.1 with|(d,H,b)=>match BP E H b l cs.tail x.2 with|(ds,H,b)=>(d::ds,H,b)):=rfl;have un2:Aj E H b (h::l) x=(match BI E H b h x.1 with|(c,H,b)=>match Aj E H b l x.2 with|(cs,H,b)=>(c::cs,H,b)):=rfl;have e1:Cy E H b h (cs.headD .un) x.1=BI E H b h x.1:=kB h1 (λt l' e'=>by rw[e']at h3;simp[Te]at h3);rw[un,un2,e1];generalize BI E H b h x.1=r;obtain⟨c,H',b'⟩:=r;simp only;rw[Wh l H' b' cs.tail x.2 (by simp only[HR,AD];exact⟨h2,h4⟩)]
mutual
theorem aED:∀(h:Sh) (H:Hp) (b:Nat) (x:LT h) (v:Value) (os:List (Value×Nat)),Ie h=Y->Rel P w M e h x v os->(BI E H b h x).2.2=b+os.length
 | .int k,H,b,x,v,os,_,hr=>by obtain⟨_,rfl⟩:=hr;rfl
 | .bool,H,b,x,v,os,_,hr=>by obtain⟨_,rfl⟩:=hr;rfl
 | .str,H,b,x,v,os,_,hr=>by obtain⟨_,rfl⟩:=hr;rfl
 | .sl k,H,b,x,v,os,_,hr=>by obtain⟨_,rfl⟩:=hr;rfl
 | .fz k,H,b,x,v,os,_,hr=>by obtain⟨_,rfl⟩:=hr;rfl
 | .row t k,H,b,x,v,os,_,hr=>by obtain⟨rfl,_⟩:=hr;rfl
 | .Cf t k,H,b,x,v,os,_,hr=>by obtain⟨rfl,_⟩:=hr;rfl
 | .abx t k,H,b,x,v,os,_,hr=>by obtain⟨rfl,_⟩:=hr;rfl
 | .arr _,_,_,_,_,_,h,_=>by simp[Ie]at h
 | .agg _,_,_,_,_,_,h,_=>by simp[Ie]at h
 | .same t,H,b,x,v,os,_,hr=>by obtain⟨rfl,_⟩:=hr;rfl
 | .box t l,H,b,x,v,os,hl,hr=>by
  obtain⟨bb,us,os',rfl,h2,h3,rfl⟩:=hr;have un:BI E H b (.box t l) x=(match Aj E H b l x with|(cs,H,b)=>(AV.ptr b cs.length 0 0,upd H b<|I<|.box t cs,b+1)):=rfl;have k:=Wz l H b x us.toList os' (by simpa[Ie] using hl) h3;rw[un];generalize Aj E H b l x=r at *;obtain⟨cs,H',b'⟩:=r;have k:b'=b+os'.length:=k;simp[k,D8]
theorem Wz:∀(l:List Sh) (H:Hp) (b:Nat) (x:LTs l) (us:List Value) (os:List (Value×Nat)),Mj l=Y->Ch P w M e l x us os->(Aj E H b l x).2.2=b+os.length
 | [],H,b,x,us,os,_,hr=>by obtain⟨_,rfl⟩:=hr;rfl
 | h::l,H,b,x,us,os,hl,hr=>by
  obtain⟨u,us',o1,o2,rfl,rfl,h1,h2⟩:=hr;simp only[Mj,AD]at hl;have un:Aj E H b (h::l) x=(match BI E H b h x.1 with|(c,H,b)=>match Aj E H b l x.2 with|(cs,H,b)=>(c::cs,H,b)):=rfl;have k:=aED h H b x.1 u o1 hl.1 h1;rw[un];generalize BI E H b h x.1=r at *;obtain⟨c,H',b'⟩:=r;have k:b'=b+o1.length:=k;subst k;have k2:=Wz l H' (b+o1.length) x.2 us' o2 hl.2 h2;simp only;generalize Aj E H' (b+o1.length) l x.2=r at *;obtain⟨cs,H'',b''⟩:=r;have k2:b''=_:=k2;simp[k2,D8]
end
mutual
theorem att:∀(h:Sh) (H:Hp) (b:Nat) (x:LT h) (j:Nat),¬(b<=j/\j<(BI E H b h x).2.2)->(BI E H b h x).2.1 j=H j
 | .int _,H,_,_,_,_=>rfl
 | .bool,H,_,_,_,_=>rfl
 | .str,H,_,_,_,_=>rfl
 | .sl _,H,_,_,_,_=>rfl
 | .arr _,H,_,_,_,_=>rfl
 | .same _,H,_,_,_,_=>rfl
 | .fz _,H,_,_,_,_=>rfl
 | .row _ _,H,b,_,j,hj=>BB _ _ (λe=>hj ⟨J,by show j<b+1;omega⟩)
 | .Cf _ _,H,b,_,j,hj=>BB _ _ (λe=>hj ⟨J,by show j<b+1;omega⟩)
 | .abx _ _,H,b,_,j,hj=>BB _ _ (λe=>hj ⟨J,by show j<b+1;omega⟩)
 | .agg l,H,b,x,j,hj=>by
  have un:BI E H b (.agg l) x=(match Aj E H b l x with|(cs,H,b)=>(AV.agg cs,H,b)):=rfl;have ih:=Ww l H b x j;rw[un]at hj ⊢;generalize Aj E H b l x=r at *;exact ih hj
 | .box e l,H,b,x,j,hj=>by
  have un:BI E H b (.box e l) x=(match Aj E H b l x with|(cs,H,b)=>(AV.ptr b cs.length 0 0,upd H b<|I<|.box e cs,b+1)):=rfl;have ih:=Ww l H b x j;have hle:=J3 E l H b x;rw[un]at hj ⊢;generalize Aj E H b l x=r at *;obtain⟨cs,H',b'⟩:=r;simp only at hj ih hle ⊢;rw[BB _ _ λe=>hj ⟨J,J⟩];exact ih λh=>hj ⟨h.1,J⟩
theorem Ww:∀(l:List Sh) (H:Hp) (b:Nat) (x:LTs l) (j:Nat),¬(b<=j/\j<(Aj E H b l x).2.2)->(Aj E H b l x).2.1 j=H j
 | [],H,_,_,_,_=>rfl
 | h::l,H,b,x,j,hj=>by
  have un:Aj E H b (h::l) x=(match BI E H b h x.1 with|(c,H,b)=>match Aj E H b l x.2 with|(cs,H,b)=>(c::cs,H,b)):=rfl;have ih:=att h H b x.1 j;have hle:=EL E h H b x.1;rw[un]at hj ⊢;generalize BI E H b h x.1=r at *;obtain⟨c,H',b'⟩:=r;have ih2:=Ww l H' b' x.2 j;have P6:=J3 E l H' b' x.2;simp only at hj ⊢;generalize Aj E H' b' l x.2=r at *;obtain⟨cs,H'',b''⟩:=r;simp only at hj ih ih2 hle P6 ⊢;rw[ih2 λh=>hj ⟨J,h.2⟩];exact ih λh=>hj ⟨h.1,J⟩
end
end
end Go.VS
namespace Go.VS
open Go
section
variable {B B':Bb} {β β':Beta} {H:Hp} {w w':World} {M M':Nat->Prop} {stk:List (Array Value)} {s s':S} {a:Act} {P:Program} {E:Nat->AV} {e:Nat->Value} {b:Nat}
def St.ayi{f:AV->AV}(h:St B β stk s a w)(ht:B'.tm0=B.tm0)(hf:∀c,GQ c=Y->f c=c)(hg:∀c g want x,f c= .gd g want x->∃y,c= .gd g want y)(hk:Kf f w β w' β'){H':Hp}(hH:Hs B' β' H' w'):St B' β' stk { s.map f with H:=H' } a w':=by
 have g1:∀c g want x,Fu f c= .gd g want x->∃y,c= .gd g want y:=by
  intro c g want x e;cases c<;>first|(cases e;done)|exact hg _ _ _ _ e
 have g2:∀c g want x,GF f c= .gd g want x->∃y,c= .gd g want y:=by
  intro c g want x e;cases c<;>first|(cases e;done)|exact g1 _ _ _ _ e
 have g3:∀c g want x,Ex f c= .gd g want x->∃y,c= .gd g want y:=by
  intro c g want x e;cases c with
  | gd g' w' y=>cases e;exact⟨_,rfl⟩
  | _=>exact g2 _ _ _ _ e
 refine⟨λt=>RT.map hf hk<|h.T t,⟨by simpa[S.map] using h.stack.1,λi T tm h1 h2 t=> ?_⟩,h.n,h.defers,λt ht'=>by rw[ht];exact h.pins t ht',λt g want x hx=> ?_,hH⟩
 .simp only[S.map,D7,D6]at h1;obtain⟨T0,h3,rfl⟩:=h1;exact RT.map hf hk (h.stack.2 i T0 tm h3 h2 t)
 .obtain⟨y,hy⟩:=g3 _ _ _ _ hx;exact h.gs _ _ _ _ hy
def Beta.kz(β:Beta)(id:Nat):Beta:=⟨upd β.f id G,λb=>β.Z b\/ ∃p a,β id=I p/\adr p.1=I a/\a.block=b⟩
def Beta.Zv(β:Beta)(id j:Nat):(β.kz id) j=if j=id then G else β j:=by
 show upd β.f id G j=_;by_cases e:j=id
 .subst e;rw[Bf,A5 rfl]
 .rw[BB _ _ e,A8 e]
def St.aya(h:St B β stk s a w)(id:Nat):St { B with Z:=(β.kz id).Z } (β.kz id) stk (s.kill id) a w:=by
 have hM:∀b,¬MZ β b->b<w.heap.size->¬MZ (β.kz id) b:=λb hb _ hm=>by
  obtain⟨j,hd,n,a,hj,ha,hab⟩|hz|⟨p,a,hp,ha,hab⟩:=hm
  .rw[Beta.Zv]at hj;split at hj
   .cases hj
   .exact hb (.inl ⟨j,hd,n,a,hj,ha,hab⟩)
  .exact hb (.inr hz)
  .exact hb<|.inl ⟨id,p.1,p.2,a,hp,ha,hab⟩
 have hk:Kf (kl1 id) w β w (β.kz id):=Kf.kill (λj e=>BB _ _ e) (λ_ _ _ _ h=>h) hM;have hH:=h.hs.ac4 (J2 id) hk (λj e=>BB _ _ e) (.inl ⟨Bf _ _ _,rfl⟩) (λ_ _ _ _ _ _=>rfl) rfl rfl rfl (Ar _) (λ_ _ _=>rfl) (λb hb=>hb.imp (λh=>h) λh=>⟨Bf _ _ _,h⟩) (Pk.refl _ _);exact h.ayi (B':={ B with Z:=(β.kz id).Z }) rfl (J2 id) (OO id) hk hH
def St.abr:∀(ids:List Nat) {B:Bb} {β:Beta} {s:S},ids.Nodup->St B β stk s a w->∃β2:Beta,St { B with Z:=β2.Z } β2 stk (ids.foldl S.kill s) a w/\(∀j,β2 j=if j∈ids then G else β j)/\
  (∀b,β2.Z b↔β.Z b\/ ∃i∈ids,∃p a,β i=I p/\adr p.1=I a/\a.block=b)
 | [],B,β,s,_,h=>by
  have e:{ B with Z:=β.Z } =B:=by rw[h.hs.z]
  exact⟨β,by rw[e];exact h,λj=>by simp,λb=>by simp⟩
 | i::ids,B,β,s,hn,h=>by
  obtain⟨hn1,hn2⟩:=IB.1 hn;obtain⟨β2,h1,h2,h3⟩:=St.abr ids hn2<|h.aya i;refine⟨β2,h1,λj=> ?_,λb=> ?_⟩
  .rw[h2,Beta.Zv];by_cases e1:j∈ids
   .rw[A5 e1,A5<|Ai _ e1]
   .by_cases e2:j=i
    .rw[A8 e1,A5 e2,A5 (by rw[e2];exact An)]
    .rw[A8 e1,A8 e2,A8<|by simp[e1,e2]]
  .rw[h3];constructor
   .rintro((h|⟨p,a,h⟩)|⟨j,hj,p,a,hp,h⟩)
    .exact .inl h
    .exact .inr ⟨i,An,p,a,h⟩
    .rw[Beta.Zv]at hp;split at hp
     .cases hp
     .exact .inr ⟨j,Ai _ hj,p,a,hp,h⟩
   .rintro(h|⟨j,hj,p,a,hp,h⟩)
    .exact .inl (.inl h)
    .rcases Bl.1 hj with rfl|hj
     .exact .inl (.inr ⟨p,a,hp,h⟩)
     .refine .inr ⟨j,hj,p,a, ?_,h⟩;rw[Beta.Zv,A8 fun(e:j=i)=>hn1<|e▸hj];exact hp
def St.Zs(h:St B β stk s a w)(id:Nat):St B (β.up id G) stk (s.freeze id) a w:=by
 unfold S.freeze;split
 .rename_i e fz k xs hid;obtain⟨h1,h2⟩:=h.hs.Zs hid;exact h.map (kE id k xs) (abA id k xs) h2 h1
 .obtain⟨h1,h2⟩:=h.hs.ac6 id;exact h.map (J2 id) (OO id) h2 h1
def St.abp:∀(ids:List Nat) {β:Beta} {s:S},St B β stk s a w->∃β2:Beta,St B β2 stk (ids.foldl S.freeze s) a w/\(∀j,β2 j=if j∈ids then G else β j)/\β2.Z=β.Z
 | [],β,s,h=>⟨β,h,λj=>by simp,rfl⟩
 | i::ids,β,s,h=>by
  obtain⟨β2,h1,h2,h3⟩:=St.abp ids<|h.Zs i;refine⟨β2,h1,λj=> ?_,h3⟩;rw[h2];by_cases e1:j∈ids
  .rw[A5 e1,A5<|Ai _ e1]
  .by_cases e2:j=i
   .subst e2;rw[A8 e1,A5 An,Beta.Tp]
   .rw[A8 e1,Beta.NM _ _ e2,A8<|by simp[e1,e2]]
def St.ayV(q:Bool)(ids:List Nat)(h:St B β stk s a w):∃β2:Beta,St B β2 stk (GK q ids s) a w/\(∀j,β2 j=if q=Y/\j∈ids then G else β j)/\β2.Z=β.Z:=by
 cases q with
 | false=>exact⟨β,h,λj=>by simp,rfl⟩
 | true=>
  obtain⟨β2,h1,h2,h3⟩:=St.abp ids h;exact⟨β2,h1,λj=>by simp[h2],h3⟩
def aCg{t:TypeId}{j:Nat}:∀(ids:List Nat) (s:S) {cs:List AV},j ∉ ids->s.H j=I (.box t cs)->∃cs',(ids.foldl S.kill s).H j=I (.box t cs')
 | [],s,cs,_,h=>⟨cs,h⟩
 | i::ids,s,cs,hj,h=>by
  have hne:j≠i:=λe=>hj<|e▸An;refine aCg ids (s.kill i) (cs:=cs.map<|kl1 i) (λhm=>hj<|Ai _ hm) ?_;show upd (λj=>CI (kl1 i)<|s.H j) i G j=_;rw[BB _ _ hne,h];rfl
def aAj{t:TypeId}{j:Nat}:∀(ids:List Nat) (s:S) {cs:List AV},j ∉ ids->s.H j=I (.box t cs)->∃cs',(ids.foldl S.freeze s).H j=I (.box t cs')
 | [],s,cs,_,h=>⟨cs,h⟩
 | i::ids,s,cs,hj,h=>by
  have hne:j≠i:=λe=>hj<|e▸An;have:∃cs',(s.freeze i).H j=I (.box t cs'):=by
   unfold S.freeze;split
   .rename_i k xs _;refine⟨cs.map<|fz1 i k xs, ?_⟩;show upd (λj=>CI (fz1 i k xs)<|s.H j) i G j=_;rw[BB _ _ hne,h];rfl
   .refine⟨cs.map<|kl1 i, ?_⟩;show upd (λj=>CI (kl1 i)<|s.H j) i G j=_;rw[BB _ _ hne,h];rfl
  obtain⟨cs',h'⟩:=this;exact aAj ids (s.freeze i) (λhm=>hj<|Ai _ hm) h'
def auw{t:TypeId}{j:Nat}(q:Bool)(ids:List Nat)(s:S){cs:List AV}(hj:¬(q=Y/\j∈ids))(h:s.H j=I (.box t cs)):∃cs',(GK q ids s).H j=I (.box t cs'):=by
 cases q with
 | false=>exact⟨cs,h⟩
 | true=>exact aAj ids s (λhm=>hj ⟨rfl,hm⟩) h
mutual
theorem atT:∀(h:Sh) (c:AV),(CC H h c).Sublist<|Cc H h c
 | .int _,_=>ET _
 | .bool,_=>ET _
 | .str,_=>ET _
 | .sl _,_=>ET _
 | .arr _,_=>ET _
 | .same _,_=>ET _
 | .fz _,_=>ET _
 | .row _ _,c=>by cases c<;>exact ET _
 | .Cf _ _,c=>by cases c<;>exact ET _
 | .abx _ _,c=>by
  cases c with
  | ptr id z i o=>cases i<;>cases o<;>exact ET _
  | _=>exact ET _
 | .agg l,c=>by
  cases c with
  | agg cs=>exact XA l cs
  | _=>exact ET _
 | .box t l,c=>by
  cases c with
  | ptr id z i o=>
   cases i<;>cases o<;>simp only[CC,Cc]<;>first|exact ET _|skip
   split
   .exact(XA l _).trans (List.sublist_append_left _ _)
   .exact ET _
  | _=>exact ET _
theorem XA:∀(l:List Sh) (cs:List AV),(Ca H l cs).Sublist<|Bi H l cs
 | [],_=>by simp only[Ca,Bi];exact ET _
 | _::_,[]=>by simp only[Ca,Bi];exact ET _
 | h::l,c::cs=>by
  simp only[Ca,Bi];exact(atT h c).append<|XA l cs
end
def Q8(H:Hp)(i:Nat):Prop:=∀t cs,H i≠I (.box t cs)
mutual
theorem arQ:∀(h:Sh) (c:AV) (x:LT h),Bn E H h c=I x->∀i∈CC H h c,Q8 H i
 | .int _,_,_,_,i,hi=>by simp[CC]at hi
 | .bool,_,_,_,i,hi=>by simp[CC]at hi
 | .str,_,_,_,i,hi=>by simp[CC]at hi
 | .sl _,_,_,_,i,hi=>by simp[CC]at hi
 | .arr _,_,_,_,i,hi=>by simp[CC]at hi
 | .same _,_,_,_,i,hi=>by simp[CC]at hi
 | .fz _,_,_,_,i,hi=>by simp[CC]at hi
 | .row t k,c,x,hx,i,hi=>by
  cases c<;>simp[CC]at hi;subst hi;intro t' cs hb;simp[Bn,hb]at hx
 | .Cf t k,c,x,hx,i,hi=>by
  cases c<;>simp[CC]at hi;subst hi;intro t' cs hb;simp[Bn,hb]at hx
 | .abx t k,c,x,hx,i,hi=>by
  cases c with
  | ptr id z i' o=>
   cases i'<;>cases o<;>simp[CC]at hi;subst hi;intro t' cs hb;simp[Bn,hb]at hx
  | _=>simp[CC]at hi
 | .agg l,c,x,hx,i,hi=>by
  cases c with
  | agg cs=>exact Wa l cs x hx i<|by simpa[CC] using hi
  | _=>simp[CC]at hi
 | .box t l,c,x,hx,j,hi=>by
  cases c with
  | ptr id z i o=>
   cases i<;>cases o<;>simp only[CC]at hi<;>first|(simp at hi;done)|skip
   cases ho:H id with
   | none=>simp[ho]at hi
   | some ob=>
    cases ob with
    | box e' cs=>
     simp only[ho]at hi;simp only[Bn,ho]at hx;split at hx
     .exact Wa l cs x hx j hi
     .cases hx
    | _=>simp[ho]at hi
  | _=>simp[CC]at hi
theorem Wa:∀(l:List Sh) (cs:List AV) (x:LTs l),GD E H l cs=I x->∀i∈Ca H l cs,Q8 H i
 | [],cs,_,_,i,hi=>by simp[Ca]at hi
 | _::_,[],_,_,i,hi=>by simp[Ca]at hi
 | h::l,c::cs,x,hx,i,hi=>by
  obtain⟨x1,e1,hx⟩:=Ah.1 hx;obtain⟨x2,e2,hx⟩:=Ah.1 hx;simp only[Ca,BM]at hi;obtain hi|hi:=hi
  .exact arQ h c x1 e1 i hi
  .exact Wa l cs x2 e2 i hi
end
mutual
theorem asN:∀(h:Sh) (c:AV) (x:LT h),Bn E H h c=I x->∀i∈Ck H h c,Q8 H i
 | .int _,_,_,_,i,hi=>by simp[Ck]at hi
 | .bool,_,_,_,i,hi=>by simp[Ck]at hi
 | .str,_,_,_,i,hi=>by simp[Ck]at hi
 | .sl _,_,_,_,i,hi=>by simp[Ck]at hi
 | .arr _,_,_,_,i,hi=>by simp[Ck]at hi
 | .same _,_,_,_,i,hi=>by simp[Ck]at hi
 | .row _ _,_,_,_,i,hi=>by simp[Ck]at hi
 | .Cf _ _,_,_,_,i,hi=>by simp[Ck]at hi
 | .abx _ _,_,_,_,i,hi=>by simp[Ck]at hi
 | .fz k,c,x,hx,i,hi=>by
  cases c<;>simp[Ck]at hi;subst hi;intro t' cs hb;simp[Bn,CD,hb]at hx
 | .agg l,c,x,hx,i,hi=>by
  cases c with
  | agg cs=>exact Wj l cs x hx i<|by simpa[Ck] using hi
  | _=>simp[Ck]at hi
 | .box t l,c,x,hx,j,hi=>by
  cases c with
  | ptr id z i o=>
   cases i<;>cases o<;>simp only[Ck]at hi<;>first|(simp at hi;done)|skip
   cases ho:H id with
   | none=>simp[ho]at hi
   | some ob=>
    cases ob with
    | box e' cs=>
     simp only[ho]at hi;simp only[Bn,ho]at hx;split at hx
     .exact Wj l cs x hx j hi
     .cases hx
    | _=>simp[ho]at hi
  | _=>simp[Ck]at hi
theorem Wj:∀(l:List Sh) (cs:List AV) (x:LTs l),GD E H l cs=I x->∀i∈Cs H l cs,Q8 H i
 | [],cs,_,_,i,hi=>by simp[Cs]at hi
 | _::_,[],_,_,i,hi=>by simp[Cs]at hi
 | h::l,c::cs,x,hx,i,hi=>by
  obtain⟨x1,e1,hx⟩:=Ah.1 hx;obtain⟨x2,e2,hx⟩:=Ah.1 hx;simp only[Cs,BM]at hi;obtain hi|hi:=hi
  .exact asN h c x1 e1 i hi
  .exact Wj l cs x2 e2 i hi
end
def j9{k:K}(h:Qg k=Y)(x:Tof k):∀c∈enc k x,∃v,c= .lit v:=by
 have key:(enc k x).all (λc=>match c with
   | .lit _=>Y
   | _=>A0)=Y:=by cases k<;>first|(cases h;done)|rfl
 intro c hc;have:=DK.1 key c hc;cases c<;>first|exact⟨_,rfl⟩|cases this
def TB:Beta:=⟨λ_=>G,λ_=>False⟩
def XG{b:Nat}:¬MZ TB b:=by
 rintro(⟨_,_,_,_,h,_⟩|h)
 .cases h
 .exact h
def FV.anyM{t:TypeId}{fz:Bool}{k:K}{xs:List (Tof k)}{v:Value}(hk:Qg k=Y)(h:FV w β t fz k xs v):FV w β' t fz k xs v:=by
 obtain h|⟨b,f,cap,us,fr,h1,h2,h3,h4,h5,h6,h7⟩:=h
 .exact .inl h
 .refine .inr ⟨b,f,cap,us,fr,h1,h2,h3,h4,h5,h6,λi x j c u a1 a2 a3=> ?_⟩;have h8:=h7 i x j c u a1 a2 a3;obtain⟨v,rfl⟩:=j9 hk x c<|Ci a2;cases h8 with
  | lit h=>exact .lit h
mutual
theorem Rel.anyM:∀(h:Sh) (x:LT h) (v:Value) (os:List (Value×Nat)),M8 h=A0->Rel P w M e h x v os->Rel P w M' e h x v os
 | .int _,_,_,_,_,h=>h
 | .bool,_,_,_,_,h=>h
 | .str,_,_,_,_,h=>h
 | .sl _,_,_,_,h,_=>by cases h
 | .fz _,_,_,_,h,_=>by cases h
 | .row t k,_,_,_,hm,h=>⟨h.1,h.2.1,λβ _=>(h.2.2 TB λb hb=>absurd hb XG).anyM<|by simpa[M8] using hm⟩
 | .Cf t k,_,_,_,hm,h=>⟨h.1,h.2.1,λβ _=>(h.2.2 TB λb hb=>absurd hb XG).anyM<|by simpa[M8] using hm⟩
 | .abx t k,_,_,_,hm,h=>by
  obtain⟨h1,h2,b,us,h3,h4,h5,h6,h7⟩:=h;refine⟨h1,h2,b,us,h3,h4,h5,h6,λβ _ i x j c u a1 a2 a3=> ?_⟩;have h8:=h7 TB (λb hb=>absurd hb XG) i x j c u a1 a2 a3;obtain⟨v,rfl⟩:=j9 (by simpa[M8] using hm) x c<|Ci a2;cases h8 with
  | lit h=>exact .lit h
 | .arr k,_,_,_,hm,h=>by
  obtain⟨h1,h2⟩:=h;refine⟨h1,λβ _=> ?_⟩;obtain⟨us,k1,k2,k3⟩:=h2 TB (λb hb=>absurd hb XG);refine⟨us,k1,k2,λi x j c u a1 a2 a3=> ?_⟩;have h8:=k3 i x j c u a1 a2 a3;obtain⟨v,rfl⟩:=j9 (by simpa[M8] using hm) x c<|Ci a2;cases h8 with
  | lit h=>exact .lit h
 | .same t,_,_,_,_,h=>h
 | .agg l,x,v,os,hm,h=>by
  obtain⟨us,h1,h2⟩:=h;exact⟨us,h1,Ch.anyM l x us os (by simpa[M8] using hm) h2⟩
 | .box t l,x,v,os,hm,h=>by
  obtain⟨b,us,os',h1,h2,h3,h4⟩:=h;exact⟨b,us,os',h1,h2,Ch.anyM l x us.toList os' (by simpa[M8] using hm) h3,h4⟩
theorem Ch.anyM:∀(l:List Sh) (x:LTs l) (us:List Value) (os:List (Value×Nat)),CN l=A0->Ch P w M e l x us os->Ch P w M' e l x us os
 | [],_,_,_,_,h=>h
 | h::l,x,us,os,hm,hr=>by
  obtain⟨u,us',o1,o2,h1,h2,h3,h4⟩:=hr;simp only[CN,Mx]at hm;exact⟨u,us',o1,o2,h1,h2,Rel.anyM h x.1 u o1 hm.1 h3,Ch.anyM l x.2 us' o2 hm.2 h4⟩
end
end
end Go.VS
namespace Go.VS
open Go
def abL:List Sh->Bool
 | .box _ l2::l=>HR l2&&HR l
 | l=>HR l
def aEw:List Sh->Bool
 | .box _ _::_=>Y
 | _=>A0
def ZX(P:Program):List Sh->Bool
 | []=>Y
 | h::ps=>(match h with
  | .box t l=>abL l&&(!aEw l||OX P t)
  | .agg l=>HR l
  | _=>Y)&&ZX P ps
section
variable {B B':Bb} {β β':Beta} {H:Hp} {w w':World} {M M':Nat->Prop} {stk:List (Array Value)} {s s':S} {a:Act} {P:Program} {E:Nat->AV} {e:Nat->Value} {b:Nat} {C:Cx}
mutual
theorem X2:∀(h:Sh) (c:AV),Dk h=Y->Te h=A0->∀i∈Cc H h c,i∈CC H h c
 | .int _,_,_,_,i,hi=>by simp[Cc]at hi
 | .bool,_,_,_,i,hi=>by simp[Cc]at hi
 | .str,_,_,_,i,hi=>by simp[Cc]at hi
 | .sl _,_,_,_,i,hi=>by simp[Cc]at hi
 | .fz _,_,_,_,i,hi=>by simp[Cc]at hi
 | .row _ _,c,_,_,i,hi=>by cases c<;>first|exact hi|(simp[Cc]at hi;done)
 | .Cf _ _,c,_,_,i,hi=>by cases c<;>first|exact hi|(simp[Cc]at hi;done)
 | .abx _ _,c,_,_,i,hi=>by
  cases c with
  | ptr id z i' o=>cases i'<;>cases o<;>first|exact hi|(simp[Cc]at hi;done)
  | _=>simp[Cc]at hi
 | .arr _,_,h,_,_,_=>by simp[Dk]at h
 | .same _,_,h,_,_,_=>by simp[Dk]at h
 | .agg _,_,h,_,_,_=>by simp[Dk]at h
 | .box _ _,_,_,h,_,_=>by cases h
end
def SE:∀(l:List Sh) (cs:List AV),HR l=Y->∀i∈Bi H l cs,i∈Ca H l cs
 | [],cs,_,i,hi=>by simp[Bi]at hi
 | _::_,[],_,i,hi=>by simp[Bi]at hi
 | h::l,c::cs,hl,i,hi=>by
  simp only[HR,Hy,Om,AD,CE]at hl;obtain⟨⟨h1,h2⟩,h3,h4⟩:=hl;simp only[Bi,BM]at hi;obtain hi|hi:=hi
  .exact Bv _ (X2 h c h1 h3 i hi)
  .refine CP _<|SE l cs ?_ i hi;simp only[HR,AD];exact⟨h2,h4⟩
def ES:List AV->List Nat
 | []=>[]
 | .ptr id _ 0 0::l=>id::ES l
 | _::l=>ES l
def aa8{id:Nat}:∀ {ds:List AV},id∈ES ds->∃z,AV.ptr id z 0 0∈ds
 | [],h=>by cases h
 | c::ds,h=>by
  have rest:id∈ES ds->∃z,AV.ptr id z 0 0∈c::ds:=λh=>by
   obtain⟨z,hz⟩:=aa8 h;exact⟨z,Ai _ hz⟩
  cases c<;>first|exact rest h|skip
  rename_i a b i o;cases i<;>cases o<;>first|exact rest h|skip
  obtain h|h:=Bl.1 h
  .subst h;exact⟨b,An⟩
  .exact rest h
inductive Fb (P:Program) (w:World) (H:Hp):List Sh->List AV->List Value->List AV->List Value->Prop
 | nil:Fb P w H [] [] [] [] []
 | flat {t:TypeId} {l bs:List Sh} {id z bb:Nat} {cs ds:List AV} {vs us:List Value} (hl:HR l=Y) (hb:∃t0 cs0,H id=I (.box t0 cs0)) (h:Fb P w H bs cs vs ds us):
   Fb P w H (.box t l::bs) (.ptr id z 0 0::cs) (.pointer (I ⟨bb,0,G⟩)::vs) (.ptr id z 0 0::ds) (.pointer (I ⟨bb,0,G⟩)::us)
 | nest {t t2 t0:TypeId} {l2 l bs:List Sh} {id z id2 z2 bb bb2:Nat} {cs1 cs ds:List AV} {vs us:List Value} (hl2:HR l2=Y) (hl:HR l=Y) (hid:H id=I (.box t0 (.ptr id2 z2 0 0::cs1)))
   (hb2:∃t0 cs0,H id2=I (.box t0 cs0)) (hn:OX P t=Y) (hc:∃us0 fr,w.heap[bb]? =I (.cells us0 t fr)/\us0[0]? =I (.pointer<|I ⟨bb2,0,G⟩)) (h:Fb P w H bs cs vs ds us):
   Fb P w H (.box t (.box t2 l2::l)::bs) (.ptr id z 0 0::cs) (.pointer (I ⟨bb,0,G⟩)::vs) (.ptr id2 z2 0 0:: .ptr id z 0 0::ds) (.pointer (I ⟨bb2,0,G⟩):: .pointer (I ⟨bb,0,G⟩)::us)
def Fb.carry{bs:List Sh}{cs ds:List AV}{vs us:List Value}{H':Hp}(h:Fb P w H bs cs vs ds us)(hpk:Pk P w w')
  (hH:∀id∈ES ds,∀t cs,H id=I (.box t cs)->∃cs',H' id=I (.box t cs')/\ ∀id2 z2 cs1,cs= .ptr id2 z2 0 0::cs1->id2∈ES ds->∃KJ,cs'= .ptr id2 z2 0 0::KJ):Fb P w' H' bs cs vs ds us:=by
 induction h with
 | nil=>exact .nil
 | @flat t l bs id z bb cs ds vs us hl hb h ih=>
  refine .flat hl ?_ (ih λi hi t0 c0 h0=> ?_)
  .obtain⟨t0,c0,h0⟩:=hb;obtain⟨c1,h1,_⟩:=hH id An t0 c0 h0;exact⟨t0,c1,h1⟩
  .obtain⟨c1,h1,h2⟩:=hH i (Ai _ hi) t0 c0 h0;exact⟨c1,h1,λa b c e hm=>h2 a b c e<|Ai _ hm⟩
 | @nest t t2 t0 l2 l bs id z id2 z2 bb bb2 cs1 cs ds vs us hl2 hl hid hb2 hn hc h ih=>
  obtain⟨c1,h1,h2⟩:=hH id (Ai _ An) t0 _ hid;obtain⟨c2,rfl⟩:=h2 id2 z2 cs1 rfl An;refine .nest hl2 hl h1 ?_ hn ?_ (ih λi hi t0 c0 h0=> ?_)
  .obtain⟨t3,c3,h3⟩:=hb2;obtain⟨c4,h4,_⟩:=hH id2 An t3 c3 h3;exact⟨t3,c4,h4⟩
  .obtain⟨us0,fr,h3,h4⟩:=hc;obtain⟨us1,fr1,h5,h6⟩:=hpk bb us0 t fr _ h3 h4 hn;exact⟨us1,fr1,h5,h6⟩
  .obtain⟨c3,h3,h4⟩:=hH i (Ai _<|Ai _ hi) t0 c0 h0;exact⟨c3,h3,λa b c e hm=>h4 a b c e<|Ai _<|Ai _ hm⟩
def mD{l:List Sh}(hl:HR l=Y)(H:Hp)(b:Nat)(x:LTs l){us1:List Value}{ob:List (Value×Nat)}(hr:Ch P w M e l x us1 ob):
  ∃ds1 H1,Aj E H b l x=(ds1,H1,b+ob.length)/\(∀j,¬(b<=j/\j<b+ob.length)->H1 j=H j)/\ ∀β:Beta,(∀b,MZ β b->M b)->Num β b ob->RL (RC w β) ds1 us1/\ ∀j,b<=j->j<b+ob.length->∃o,H1 j=I o/\E7 P w β j o:=by
 have hl':=hl;simp only[HR,AD]at hl';obtain⟨Cl,Gl⟩:=jA l hl'.1;have hlen:=Wz (E:=E) (P:=P) (w:=w) (M:=M) (e:=e) l H b x us1 ob Cl hr;have F3:=Ww (E:=E) l H b x;have hrc:=fun(β:Beta) (hM:∀b,MZ β b->M b) (hn:Num β b ob)=>XS (E:=E) (P:=P) (w:=w) (M:=M) (e:=e) hM l H b x us1 ob Cl hr hn (by rw[Gl];intro t ht;simp at ht);generalize Aj E H b l x=r at *;obtain⟨ds1,H1,b1⟩:=r;have hlen:b1=b+ob.length:=hlen;subst hlen;exact⟨ds1,H1,rfl,F3,λβ hM hn=>⟨(hrc β hM hn).1,(hrc β hM hn).2.2.2⟩⟩
def arZ{x y:Value×Nat}{oc ob nw us o2:List (Value×Nat)}(h:o2.Perm (nw++us)):(((oc++[x])++ob)++[y]++o2).Perm (((oc++ob)++nw)++x::y::us):=by
 have h1:(ob++y::o2).Perm (ob++nw++y::us):=by
  rw[C2];exact YX ob<|(h.cons y).trans List.perm_middle.symm
 have h2:(oc++x::(ob++y::o2)).Perm (oc++(ob++nw++x::y::us)):=YX oc<|(h1.cons x).trans List.perm_middle.symm;simpa[C2] using h2
def kD:∀(bs:List Sh) (H:Hp) (b:Nat) (q:LTs bs) (cs ds:List AV) (vs us:List Value) (os:List (Value×Nat)) (L:Nat),Fb P w H bs cs vs ds us->(ES ds).Nodup->(∀i∈ES ds,¬(b<=i/\i<L))->Ch P w M e bs q vs os->(BP E H b bs cs q).2.2<=L->
  ∃nw:List (Value×Nat),os.Perm (nw++us.map λv=>(v,1))/\(BP E H b bs cs q).2.2=b+nw.length/\
   ∀β:Beta,(∀b,MZ β b->M b)->Num β b nw->(∀(i:Nat) (c:AV) (v:Value),ds[i]? =I c->us[i]? =I v->∀id z,c= .ptr id z 0 0->β id=I (v,1))->
    (∀j,(BP E H b bs cs q).2.1 j=H j\/ ∃ob,(BP E H b bs cs q).2.1 j=I ob/\E7 P w β j ob)/\
    (∀j,b<=j->j<b+nw.length->∃ob,(BP E H b bs cs q).2.1 j=I ob/\E7 P w β j ob)/\
    (∀id z,AV.ptr id z 0 0∈ds->∃ob,(BP E H b bs cs q).2.1 id=I ob/\E7 P w β id ob)/\
    (∀j,¬(b<=j/\j<b+nw.length)->(∀z,AV.ptr j z 0 0 ∉ ds)->(BP E H b bs cs q).2.1 j=H j)
 | [],H,b,q,cs,ds,vs,us,os,L,hF,_,_,hr,_=>by
  cases hF;obtain⟨_,rfl⟩:=hr;exact⟨[],.nil,rfl,λβ _ _ _=>⟨λj=> .inl rfl,λj h1 h2=>by simp at h2;omega,λid z h=>by simp at h,λj _ _=>rfl⟩⟩
 | h::bs,H,b,q,cs0,ds0,vs0,us0,os,L,hF,hnd,F3,hr,hL=>by
  cases hF with
  | @flat t l _ id z bb cs ds vs us hl hb hF=>
   obtain⟨u,us',o1,o2,e1,rfl,h1,h2⟩:=hr;cases e1;obtain⟨bb',uc,os',e2,h3,h4,rfl⟩:=h1;cases e2;obtain⟨t0,c0,hid⟩:=hb;obtain⟨da,H1,hmk,ho1,hrc⟩:=mD (E:=E) hl H b q.1 h4;have JW:id ∉ ES ds/\(ES ds).Nodup:=by simpa[ES] using hnd
   have un:BP E H b (.box t l::bs) (.ptr id z 0 0::cs) q=(match BP E (upd H1 id<|I<|.box t da) (b+os'.length) bs cs q.2 with|(es,H'',b'')=>(AV.ptr id z 0 0::es,H'',b'')):=by
    have u1:BP E H b (.box t l::bs) (.ptr id z 0 0::cs) q=(match Cy E H b (.box t l) (.ptr id z 0 0) q.1 with|(d,H,b)=>match BP E H b bs cs q.2 with|(ds,H,b)=>(d::ds,H,b)):=rfl;have u2:Cy E H b (.box t l) (.ptr id z 0 0) q.1=(match H id with
     | some (.box _ cs)=>(match BP E H b l cs q.1 with|(ds,H,b)=>(AV.ptr id z 0 0,upd H id<|I<|.box t ds,b))
     | _=>(.un,H,b)):=rfl
    rw[u1,u2,hid];simp only;rw[Wh l H b c0 q.1 hl,hmk]
   rw[un]at hL ⊢;have hle:=S9 E bs (upd H1 id<|I<|.box t da) (b+os'.length) cs q.2;have hL':(BP E (upd H1 id<|I<|.box t da) (b+os'.length) bs cs q.2).2.2<=L:=by
    generalize BP E (upd H1 id<|I<|.box t da) (b+os'.length) bs cs q.2=r at *;exact hL
   have Gl:∀i∈ES ds,upd H1 id (I<|.box t da) i=H i:=λi hi=>by
    rw[BB _ _ λe=>JW.1 (by rw[← e];exact hi),ho1 i λhh=>F3 i (Ai _ hi) ⟨hh.1,J⟩]
   obtain⟨nw,n1,n4,n5⟩:=kD bs (upd H1 id<|I<|.box t da) (b+os'.length) q.2 cs ds vs us o2 L (hF.carry (Pk.refl _ _) λi hi t c h0=>⟨c,by rw[Gl i hi];exact h0,λ_ _ c1 e _=>⟨c1,e⟩⟩) JW.2
    (λi hi hh=>F3 i (Ai _ hi) ⟨J,hh.2⟩) h2 hL'
   generalize hg:BP E (upd H1 id<|I<|.box t da) (b+os'.length) bs cs q.2=r at *;obtain⟨es,H'',b''⟩:=r;simp only at n4 n5 hle hL hL' ⊢;refine⟨os'++nw, ?_, ?_, ?_⟩
   .rw[C2,C2,DM];refine YX os' ?_;exact((n1.cons (Mw<|I ⟨bb,0,G⟩,1)).trans List.perm_middle.symm)
   .rw[n4];simp[D8]
   .intro β hM hn hbx;obtain⟨r1,r3⟩:=hrc β hM hn.left;have ayj:β id=I (.pointer<|I ⟨bb,0,G⟩,1):=hbx 0 _ _ rfl rfl id z rfl;have acK:E7 P w β id (.box t da):=⟨bb,uc,ayj,h3,r1⟩;obtain⟨m1,m2,m3,m4⟩:=n5 β hM hn.right (λi c v k1 k2=>hbx (i+1) c v (by simpa using k1)<|by simpa using k2);have step:∀j,H'' j=H1 j\/ ∃ob,H'' j=I ob/\E7 P w β j ob:=λj=>by
     obtain h|h:=m1 j
     .by_cases e4:j=id
      .subst e4;rw[Bf]at h;exact .inr ⟨_,h,acK⟩
      .rw[BB _ _ e4]at h;exact .inl h
     .exact .inr h
    refine⟨λj=> ?_,λj k1 k2=> ?_,λid2 z2 hm=> ?_,λj k1 k2=> ?_⟩
    .rcases step j with h|h
     .by_cases hj:b<=j/\j<b+os'.length
      .obtain⟨ob,q1,q2⟩:=r3 j hj.1 hj.2;exact .inr ⟨ob,by rw[h];exact q1,q2⟩
      .exact .inl (h.trans<|ho1 j hj)
     .exact .inr h
    .by_cases hj:j<b+os'.length
     .rcases step j with h|h
      .obtain⟨ob,q1,q2⟩:=r3 j k1 hj;exact⟨ob,by rw[h];exact q1,q2⟩
      .exact h
     .exact m2 j J (by simp at k2;omega)
    .rcases Bl.1 hm with h|h
     .cases h;obtain h|h:=m1 id
      .rw[Bf]at h;exact⟨_,h,acK⟩
      .exact h
     .exact m3 id2 z2 h
    .have hne:j≠id:=λe4=>k2 z (by rw[e4];exact An);rw[m4 j (λhh=>k1 ⟨J,by simp;omega⟩) λz' hz'=>k2 z'<|Ai _ hz',BB _ _ hne];exact ho1 j λhh=>k1 ⟨hh.1,by simp;omega⟩
  | @nest t t2 t0 l2 l _ id z id2 z2 bb bb2 cs1 cs ds vs us hl2 hl hid hb2 hn hc hF=>
   obtain⟨u,us',o1,o2,e1,rfl,h1,h2⟩:=hr;cases e1;obtain⟨bb',uc,os',e2,h3,h4,rfl⟩:=h1;cases e2;obtain⟨u2,us1,oa,ob,huc,rfl,h5,h6⟩:=h4;obtain⟨aEW,uc2,oc,e3,h7,h8,rfl⟩:=h5;have e4:u2= .pointer (I ⟨bb2,0,G⟩):=by
    obtain⟨us0,fr,k1,k2⟩:=hc;rw[h3]at k1;cases k1;have:uc.toList[0]? =I u2:=by rw[huc];rfl
    rw[TC,k2]at this;exact(Eh this).symm
   rw[e4]at e3;cases e3;subst e4;obtain⟨t3,c3,LC⟩:=hb2;have JW:(id2≠id/\id2 ∉ ES ds)/\id ∉ ES ds/\(ES ds).Nodup:=by simpa[ES,not_or] using hnd
   obtain⟨da,H1,hmk,ho1,ayq⟩:=mD (E:=E) hl2 H b q.1.1 h8;obtain⟨dc,H3,azV,ho2,ayp⟩:=mD (E:=E) hl (upd H1 id2<|I<|.box t2 da) (b+oc.length) q.1.2 h6;have un:BP E H b (.box t (.box t2 l2::l)::bs) (.ptr id z 0 0::cs) q=
     (match BP E (upd H3 id<|I<|.box t<|.ptr id2 z2 0 0::dc) (b+oc.length+ob.length) bs cs q.2 with|(es,H'',b'')=>(AV.ptr id z 0 0::es,H'',b'')):=by
    have u1:BP E H b (.box t (.box t2 l2::l)::bs) (.ptr id z 0 0::cs) q=(match Cy E H b (.box t<|.box t2 l2::l) (.ptr id z 0 0) q.1 with|(d,H,b)=>match BP E H b bs cs q.2 with|(ds,H,b)=>(d::ds,H,b)):=rfl;have u2:Cy E H b (.box t<|.box t2 l2::l) (.ptr id z 0 0) q.1=(match H id with
     | some (.box _ cs)=>(match BP E H b (.box t2 l2::l) cs q.1 with|(ds,H,b)=>(AV.ptr id z 0 0,upd H id<|I<|.box t ds,b))
     | _=>(.un,H,b)):=rfl
    have u3:BP E H b (.box t2 l2::l) (.ptr id2 z2 0 0::cs1) q.1=(match Cy E H b (.box t2 l2) (.ptr id2 z2 0 0) q.1.1 with|(d,H,b)=>match BP E H b l cs1 q.1.2 with|(ds,H,b)=>(d::ds,H,b)):=rfl;have u4:Cy E H b (.box t2 l2) (.ptr id2 z2 0 0) q.1.1=(match H id2 with
     | some (.box _ cs)=>(match BP E H b l2 cs q.1.1 with|(ds,H,b)=>(AV.ptr id2 z2 0 0,upd H id2<|I<|.box t2 ds,b))
     | _=>(.un,H,b)):=rfl
    rw[u1,u2,hid];simp only;rw[u3,u4,LC];simp only;rw[Wh l2 H b c3 q.1.1 hl2,hmk];simp only;rw[Wh l _ _ cs1 q.1.2 hl,azV]
   rw[un]at hL ⊢;have hle:=S9 E bs (upd H3 id<|I<|.box t<|.ptr id2 z2 0 0::dc) (b+oc.length+ob.length) cs q.2;have hL':(BP E (upd H3 id<|I<|.box t<|.ptr id2 z2 0 0::dc) (b+oc.length+ob.length) bs cs q.2).2.2<=L:=by
    generalize BP E (upd H3 id<|I<|.box t<|.ptr id2 z2 0 0::dc) (b+oc.length+ob.length) bs cs q.2=r at *;exact hL
   have hi2:¬(b<=id2/\id2<L):=F3 id2 An;have hi1:¬(b<=id/\id<L):=F3 id<|Ai _ An;have hold:∀j,¬(b<=j/\j<b+oc.length+ob.length)->j≠id->j≠id2->upd H3 id (I<|.box t<|.ptr id2 z2 0 0::dc) j=H j:=λj hj e1 e2=>by
    rw[BB _ _ e1,ho2 j λhh=>hj ⟨J,hh.2⟩,BB _ _ e2,ho1 j λhh=>hj ⟨hh.1,J⟩]
   have Gl:∀i∈ES ds,upd H3 id (I<|.box t<|.ptr id2 z2 0 0::dc) i=H i:=λi hi=>by
    have:=F3 i<|Ai _<|Ai _ hi;exact hold i (λhh=>this ⟨hh.1,J⟩) (λe=>JW.2.1 (by rw[← e];exact hi)) λe=>JW.1.2 (by rw[← e];exact hi)
   obtain⟨nw,n1,n4,n5⟩:=kD bs (upd H3 id<|I<|.box t<|.ptr id2 z2 0 0::dc) (b+oc.length+ob.length) q.2 cs ds vs us o2 L (hF.carry (Pk.refl _ _) λi hi t c h0=>⟨c,by rw[Gl i hi];exact h0,λ_ _ c1 e _=>⟨c1,e⟩⟩) JW.2.2
    (λi hi hh=>F3 i (Ai _<|Ai _ hi) ⟨J,hh.2⟩) h2 hL'
   generalize hg:BP E (upd H3 id<|I<|.box t<|.ptr id2 z2 0 0::dc) (b+oc.length+ob.length) bs cs q.2=r at *;obtain⟨es,H'',b''⟩:=r;simp only at n4 n5 hle hL hL' ⊢;refine⟨oc++ob++nw, ?_, ?_, ?_⟩
   .exact arZ n1
   .rw[n4];simp[D8]
   .intro β hM hn hbx;have ayO:Num β b oc:=hn.left.left;have ayN:Num β (b+oc.length) ob:=hn.left.right;have ayM:Num β (b+oc.length+ob.length) nw:=by
     have:=hn.right;rwa[Au,← D8]at this
    obtain⟨r1,r3⟩:=ayq β hM ayO;obtain⟨s1,s3⟩:=ayp β hM ayN;have hβ2:β id2=I (.pointer<|I ⟨bb2,0,G⟩,1):=hbx 0 _ _ rfl rfl id2 z2 rfl;have hβ1:β id=I (.pointer<|I ⟨bb,0,G⟩,1):=hbx 1 _ _ rfl rfl id z rfl;have ob2:E7 P w β id2 (.box t2 da):=⟨bb2,uc2,hβ2,h7,r1⟩;have ob1:E7 P w β id (.box t<|.ptr id2 z2 0 0::dc):=by
     refine⟨bb,uc,hβ1,h3, ?_⟩;rw[huc];refine RL.cons ?_ s1;have:=RC.ptr (w:=w) (β:=β) (id:=id2) (sz:=z2) (i:=0) (o:=0) hβ2 (b:=bb2) (f:=0) rfl J;simpa using this
    obtain⟨m1,m2,m3,m4⟩:=n5 β hM ayM (λi c v k1 k2=>hbx (i+2) c v (by simpa using k1)<|by simpa using k2);have h4:∀j,(upd H3 id (I<|.box t<|.ptr id2 z2 0 0::dc) j=H j/\ ¬(b<=j/\j<b+oc.length+ob.length)/\j≠id/\j≠id2)\/ ∃o,upd H3 id (I<|.box t<|.ptr id2 z2 0 0::dc) j=I o/\E7 P w β j o:=λj=>by
     by_cases e1:j=id
     .subst e1;exact .inr ⟨_,Bf _ _ _,ob1⟩
     by_cases e2:j=id2
     .subst e2;refine .inr ⟨_, ?_,ob2⟩;rw[BB _ _ e1,ho2 j λhh=>hi2 ⟨J,J⟩,Bf]
     by_cases k1:b<=j/\j<b+oc.length+ob.length
     .by_cases k2:j<b+oc.length
      .obtain⟨o,q1,q2⟩:=r3 j k1.1 k2;exact .inr ⟨o,by rw[BB _ _ e1,ho2 j J,BB _ _ e2];exact q1,q2⟩
      .obtain⟨o,q1,q2⟩:=s3 j J k1.2;exact .inr ⟨o,by rw[BB _ _ e1];exact q1,q2⟩
     .exact .inl ⟨hold j k1 e1 e2,k1,e1,e2⟩
    have step:∀j,(H'' j=H j/\ ¬(b<=j/\j<b+oc.length+ob.length)/\j≠id/\j≠id2)\/ ∃o,H'' j=I o/\E7 P w β j o:=λj=>by
     obtain h|h:=m1 j
     .rcases h4 j with⟨k1,k2⟩|⟨o,k1,k2⟩
      .exact .inl ⟨h.trans k1,k2⟩
      .exact .inr ⟨o,h.trans k1,k2⟩
     .exact .inr h
    refine⟨λj=> ?_,λj k1 k2=> ?_,λid3 z3 hm=> ?_,λj k1 k2=> ?_⟩
    .rcases step j with h|h
     .exact .inl h.1
     .exact .inr h
    .by_cases hj:j<b+oc.length+ob.length
     .rcases step j with h|h
      .exact absurd ⟨k1,hj⟩ h.2.1
      .exact h
     .exact m2 j J (by simp at k2;omega)
    .rcases Bl.1 hm with h|h
     .cases h;obtain h|h:=step id2
      .exact absurd rfl h.2.2.2
      .exact h
     obtain h|h:=Bl.1 h
     .cases h;obtain h|h:=step id
      .exact absurd rfl h.2.2.1
      .exact h
     .exact m3 id3 z3 h
    .have hne:j≠id:=λe4=>k2 z (by rw[e4];exact Ai _ An);have azU:j≠id2:=λe4=>k2 z2 (by rw[e4];exact An);rw[m4 j (λhh=>k1 ⟨J,by simp;omega⟩) λz' hz'=>k2 z'<|Ai _<|Ai _ hz'];exact hold j (λhh=>k1 ⟨hh.1,by simp;omega⟩) hne azU
def aBg(hH:Hs B β H w):∀(ps:List Sh) (cs:List AV) (vs:List Value) (x:LTs ps),ZX B.P ps=Y->RL (R1 w β) cs vs->GD E H ps cs=I x->
  ∃ds us,Fb B.P w H (B1 ps) (Fq ps cs) (Ji ps vs) ds us/\
   RL (λc v=>∃id z bb,c=AV.ptr id z 0 0/\v=Mw (I ⟨bb,0,G⟩)/\(∃t cs,H id=I (.box t cs))/\β id=I (v,1)/\id∈Bi H ps cs) ds us/\
   (ES ds).Sublist (Bi H ps cs)/\ ∀i∈Bi H ps cs,i∈Ca H ps cs\/ ∃z,AV.ptr i z 0 0∈ds
 | [],[],vs,x,_,hr,hx=>by
  have:=hr.of_nil;subst this;exact⟨[],[],.nil,.nil,ET _,λi hi=>by simp[Bi]at hi⟩
 | [],_::_,_,_,_,_,hx=>by cases hx
 | _::_,[],_,_,_,_,hx=>by cases hx
 | h::ps,c::cs,vs,x,hp,hr,hx=>by
  obtain⟨v,vs,rfl,h1,h2⟩:=hr.C7;obtain⟨x1,e1,hx⟩:=Ah.1 hx;obtain⟨x2,e2,hx⟩:=Ah.1 hx;simp only[ZX,AD]at hp;obtain⟨ds,us,f1,f2,f3,f4⟩:=aBg hH ps cs vs x2 hp.2 h2 e2;have f2':RL (λc' v'=>∃id z bb,c'=AV.ptr id z 0 0/\v'=Mw (I ⟨bb,0,G⟩)/\(∃t cs,H id=I (.box t cs))/\β id=I (v',1)/\id∈Bi H (h::ps) (c::cs)) ds us:=
   f2.mono λc' v' ⟨id,z,bb,k1,k2,k3,k4,k5⟩=>⟨id,z,bb,k1,k2,k3,k4,CP _ k5⟩
  have HP:B1 (h::ps)=B1 ps->Fq (h::ps) (c::cs)=Fq ps cs->Ji (h::ps) (v::vs)=Ji ps vs->(∀i∈Cc H h c,i∈CC H h c)->
    ∃ds us,Fb B.P w H (B1<|h::ps) (Fq (h::ps)<|c::cs) (Ji (h::ps)<|v::vs) ds us/\
     RL (λc' v'=>∃id z bb,c'=AV.ptr id z 0 0/\v'=Mw (I ⟨bb,0,G⟩)/\(∃t cs,H id=I (.box t cs))/\β id=I (v',1)/\id∈Bi H (h::ps) (c::cs)) ds us/\
     (ES ds).Sublist (Bi H (h::ps)<|c::cs)/\ ∀i∈Bi H (h::ps) (c::cs),i∈Ca H (h::ps) (c::cs)\/ ∃z,AV.ptr i z 0 0∈ds:=λg1 g2 g3 g4=>by
   rw[g1,g2,g3];refine⟨ds,us,f1,f2',f3.trans<|YY _ _,λi hi=> ?_⟩;obtain hi|hi:=BM.1 hi
   .exact .inl (Bv _<|g4 i hi)
   .exact(f4 i hi).imp (CP _) λh=>h
  cases h with
  | box t l=>
   have hp1:=hp.1;simp only[AD,C1,CE]at hp1;cases c<;>first|(cases e1;done)|skip
   rename_i id z i o;cases i<;>cases o<;>simp only[Bn]at e1<;>first|(cases e1;done)|skip
   split at e1
   case h_2=>cases e1
   rename_i t' cs' hid;split at e1
   case h_2=>cases e1
   rename_i hbt;obtain rfl:=Bm hbt;have h1:=h1.R3;cases h1 with
   | @ptr _ _ _ _ hd n bb f k1 ha hi=>
    obtain⟨b',uc,j1,j2,j3⟩:=hH.EI id _ hid;rw[k1]at j1;cases j1;cases ha;have e0:(Mw<|I ⟨bb,0+(0 * z+0),G⟩)=Mw (I ⟨bb,0,G⟩):=by simp
    by_cases Zy:aEw l=Y
    ·
     cases l with
     | nil=>cases Zy
     | cons h0 l=>
      cases h0 with
      | box t2 l2=>
       obtain⟨hl,hn⟩:=hp1;have hn:OX B.P t=Y:=hn.resolve_left (by rw[Zy];simp);simp only[abL,AD]at hl;cases cs' with
       | nil=>cases e1
       | cons c2 cs1=>
        obtain⟨y1,g1,g2⟩:=Ah.1 e1;obtain⟨u2,us1,huc,q1,q2⟩:=j3.C7;cases c2<;>first|(cases g1;done)|skip
        rename_i id2 z2 i2 o2;cases i2<;>cases o2<;>simp only[Bn]at g1<;>first|(cases g1;done)|skip
        split at g1
        case h_2=>cases g1
        rename_i t2' cs2 LC;obtain⟨b2,uc2,m1,m2,m3⟩:=hH.EI id2 _ LC;cases q1 with
        | @ptr _ _ _ _ hd2 n2 bb2 f2x k1' ha' hi'=>
         rw[m1]at k1';cases k1';cases ha';have e00:(Mw<|I ⟨b2,0+(0 * z2+0),G⟩)=Mw (I ⟨b2,0,G⟩):=by simp
         rw[e00]at huc;refine⟨.ptr id2 z2 0 0:: .ptr id z 0 0::ds,.pointer (I ⟨b2,0,G⟩):: .pointer (I ⟨bb,0,G⟩)::us, ?_, ?_, ?_,λi hi=> ?_⟩
         .rw[e0];exact .nest hl.1 hl.2 hid ⟨_,_,LC⟩ hn ⟨uc,_,j2,by rw[← TC,huc];rfl⟩ f1
         .refine RL.cons ⟨id2,z2,b2,rfl,rfl,⟨_,_,LC⟩,m1, ?_⟩ (RL.cons ⟨id,z,bb,rfl,rfl,⟨_,_,hid⟩,k1, ?_⟩ f2')
          .simp[Bi,Cc,hid,LC]
          .simp[Bi,Cc,hid]
         .simp only[ES,Bi,Cc,hid,LC];refine List.Sublist.trans ?_<|List.Sublist.append_left f3 _;have:(((Bi H l2 cs2++[id2])++Bi H l cs1)++[id])++ES ds=Bi H l2 cs2++(id2::(Bi H l cs1++(id::ES ds))):=by simp
          rw[this];exact(((YY _ _:(id::ES ds).Sublist (Bi H l cs1++(id::ES ds)))).cons_cons id2).trans (YY _ _)
         .simp only[Bi,Cc,hid,LC,BM,CL]at hi;obtain(((hi|hi)|hi)|hi)|hi:=hi
          .refine .inl<|Bv _ ?_;simp only[CC,hid,Ca,LC];exact Bv _ (SE l2 cs2 hl.1 i hi)
          .subst hi;exact .inr ⟨z2,An⟩
          .refine .inl<|Bv _ ?_;simp only[CC,hid,Ca,LC];exact CP _ (SE l cs1 hl.2 i hi)
          .subst hi;exact .inr ⟨z,Ai _ An⟩
          .rcases f4 i hi with h|⟨z',h⟩
           .exact .inl (CP _ h)
           .exact .inr ⟨z',Ai _<|Ai _ h⟩
      | _=>cases Zy
    ·
     have hl:HR l=Y:=by
      have:=hp1.1;cases l with
      | nil=>rfl
      | cons h0 l=>cases h0<;>first|exact this|exact absurd rfl Zy
     refine⟨.ptr id z 0 0::ds,.pointer (I ⟨bb,0,G⟩)::us, ?_, ?_, ?_,λi hi=> ?_⟩
     .rw[e0];exact .flat hl ⟨_,_,hid⟩ f1
     .refine RL.cons ⟨id,z,bb,rfl,rfl,⟨_,_,hid⟩,k1, ?_⟩ f2';simp[Bi,Cc,hid]
     .simp only[ES,Bi,Cc,hid];rw[C2];exact((f3.cons_cons id)).trans (YY _ _)
     .simp only[Bi,Cc,hid,BM,CL]at hi;obtain(hi|hi)|hi:=hi
      .refine .inl<|Bv _ ?_;simp only[CC,hid];exact SE l cs' hl i hi
      .subst hi;exact .inr ⟨z,An⟩
      .rcases f4 i hi with h|⟨z',h⟩
       .exact .inl (CP _ h)
       .exact .inr ⟨z',Ai _ h⟩
  | agg l=>
   refine HP rfl rfl rfl λi hi=> ?_;cases c with
   | agg cs'=>
    simp only[CC];exact SE l cs' hp.1 i<|by simpa[Cc] using hi
   | _=>simp[Cc]at hi
  | arr=>exact HP rfl rfl rfl λi hi=>by simp[Cc]at hi
  | same=>exact HP rfl rfl rfl λi hi=>by simp[Cc]at hi
  | int=>exact HP rfl rfl rfl λi hi=>by simp[Cc]at hi
  | bool=>exact HP rfl rfl rfl λi hi=>by simp[Cc]at hi
  | str=>exact HP rfl rfl rfl λi hi=>by simp[Cc]at hi
  | sl=>exact HP rfl rfl rfl λi hi=>by simp[Cc]at hi
  | fz=>exact HP rfl rfl rfl λi hi=>by simp[Cc]at hi
  | row t k=>exact HP rfl rfl rfl (X2 _ c rfl rfl)
  | Cf t k=>exact HP rfl rfl rfl (X2 _ c rfl rfl)
  | abx t k=>exact HP rfl rfl rfl (X2 _ c rfl rfl)
def aEN{t:TypeId}{j:Nat}:∀(ids:List Nat) (s:S) {cs:List AV},j ∉ ids->s.H j=I (.box t cs)->∃cs',(ids.foldl S.kill s).H j=I (.box t cs')/\ ∀id2 z2 cs1,cs= .ptr id2 z2 0 0::cs1->id2 ∉ ids->∃KJ,cs'= .ptr id2 z2 0 0::KJ
 | [],s,cs,_,h=>⟨cs,h,λ_ _ c e _=>⟨c,e⟩⟩
 | i::ids,s,cs,hj,h=>by
  have hne:j≠i:=λe=>hj<|e▸An;obtain⟨c',h1,h2⟩:=aEN (t:=t) (j:=j) ids (s.kill i) (cs:=cs.map<|kl1 i) (λhm=>hj<|Ai _ hm) (by
   show upd (λj=>CI (kl1 i)<|s.H j) i G j=_;rw[BB _ _ hne,h];rfl)
  refine⟨c',h1,λid2 z2 cs1 e hn=> ?_⟩;subst e;have hn2:id2≠i:=λe=>hn<|e▸An;have e1:Ag id2 i=A0:=by rw[← GL,HD];exact hn2
  exact h2 id2 z2 (cs1.map<|kl1 i) (by simp[kl1,e1]) λhm=>hn<|Ai _ hm
def aBI{t:TypeId}{j:Nat}:∀(ids:List Nat) (s:S) {cs:List AV},j ∉ ids->s.H j=I (.box t cs)->∃cs',(ids.foldl S.freeze s).H j=I (.box t cs')/\ ∀id2 z2 cs1,cs= .ptr id2 z2 0 0::cs1->id2 ∉ ids->∃KJ,cs'= .ptr id2 z2 0 0::KJ
 | [],s,cs,_,h=>⟨cs,h,λ_ _ c e _=>⟨c,e⟩⟩
 | i::ids,s,cs,hj,h=>by
  have hne:j≠i:=λe=>hj<|e▸An;have:∃cs',(s.freeze i).H j=I (.box t cs')/\ ∀id2 z2 cs1,cs= .ptr id2 z2 0 0::cs1->id2≠i->∃KJ,cs'= .ptr id2 z2 0 0::KJ:=by
   unfold S.freeze;split
   .rename_i k xs _;refine⟨cs.map<|fz1 i k xs, ?_,λid2 z2 cs1 e hn=> ?_⟩
    .show upd (λj=>CI (fz1 i k xs)<|s.H j) i G j=_;rw[BB _ _ hne,h];rfl
    .subst e;have e1:Ag id2 i=A0:=by rw[← GL,HD];exact hn
     exact⟨cs1.map<|fz1 i k xs,by simp[fz1,e1]⟩
   .refine⟨cs.map<|kl1 i, ?_,λid2 z2 cs1 e hn=> ?_⟩
    .show upd (λj=>CI (kl1 i)<|s.H j) i G j=_;rw[BB _ _ hne,h];rfl
    .subst e;have e1:Ag id2 i=A0:=by rw[← GL,HD];exact hn
     exact⟨cs1.map<|kl1 i,by simp[kl1,e1]⟩
  obtain⟨c',h',hd'⟩:=this;obtain⟨c2,h2,h3⟩:=aBI (t:=t) (j:=j) ids (s.freeze i) (λhm=>hj<|Ai _ hm) h';refine⟨c2,h2,λid2 z2 cs1 e hn=> ?_⟩;obtain⟨KJ,e'⟩:=hd' id2 z2 cs1 e (λe=>hn<|e▸An);exact h3 id2 z2 KJ e' λhm=>hn<|Ai _ hm
def awG{t:TypeId}{j:Nat}(q:Bool)(ids:List Nat)(s:S){cs:List AV}(hj:¬(q=Y/\j∈ids))(h:s.H j=I (.box t cs)):
  ∃cs',(GK q ids s).H j=I (.box t cs')/\ ∀id2 z2 cs1,cs= .ptr id2 z2 0 0::cs1->¬(q=Y/\id2∈ids)->∃KJ,cs'= .ptr id2 z2 0 0::KJ:=by
 cases q with
 | false=>exact⟨cs,h,λ_ _ c e _=>⟨c,e⟩⟩
 | true=>
  obtain⟨c',h1,h2⟩:=aBI ids s (λhm=>hj ⟨rfl,hm⟩) h;exact⟨c',h1,λid2 z2 cs1 e hn=>h2 id2 z2 cs1 e λhm=>hn ⟨rfl,hm⟩⟩
def aao{cs:List AV}{vs:List Value}(h:RL (R1 w β) cs vs):R2 w β (Lq cs) (M5 vs):=by
 match cs,vs,h with
 | [],vs,h=>
  have:=h.of_nil;subst this;exact⟨[],rfl,.nil⟩
 | [c],vs,h=>
  obtain⟨v,vs',rfl,h1,h2⟩:=h.C7;have:=h2.of_nil;subst this;exact .HG h1
 | c::c'::cs,vs,h=>
  obtain⟨v,vs',rfl,h1,h2⟩:=h.C7;obtain⟨v',ays,rfl,h3,h4⟩:=h2.C7;exact⟨v::v'::ays,rfl,h⟩
def aD3:∀(ps:List Sh) (k:Nat) (t:Nat),t∈Dz k ps->k<=t/\ ∃e l,ps[t - k]? =I (.box e l)
 | [],_,_,h=>by cases h
 | p::ps,k,t,h=>by
  have tail:t∈Dz (k+1) ps->k<=t/\ ∃e l,(p::ps)[t - k]? =I (.box e l):=λh=>by
   obtain⟨h1,e,l,h2⟩:=aD3 ps (k+1) t h;refine⟨J,e,l, ?_⟩;have:t - k=(t - (k+1))+1:=J
   rw[this];simpa using h2
  unfold Dz at h;split at h
  .rename_i hb;obtain rfl|h:=Bl.1 h
   .refine⟨Ar _, ?_⟩;cases p<;>first|(cases hb;done)|skip
    rename_i t0 l0;exact⟨t0,l0,by simp⟩
   .exact tail h
  .exact tail h
def aDL{H:Hp}:∀ {ps:List Sh} {cs:List AV} {x:LTs ps},GD E H ps cs=I x->∀ {i:Nat} {h:Sh},ps[i]? =I h->∃c y,cs[i]? =I c/\Bn E H h c=I y
 | [],cs,x,_,i,h,hi=>by simp at hi
 | _::_,[],_,h,_,_,_=>by cases h
 | p::ps,c::cs,x,hx,i,h,hi=>by
  obtain⟨x1,e1,hx⟩:=Ah.1 hx;obtain⟨x2,e2,hx⟩:=Ah.1 hx;cases i with
  | zero=>simp at hi;subst hi;exact⟨c,x1,rfl,e1⟩
  | succ i=>
   obtain⟨c',y,h1,h2⟩:=aDL e2 (by simpa using hi);exact⟨c',y,by simpa using h1,h2⟩
end
end Go.VS
namespace Go.VS
open Go
def okQ(P:Program)(m:DO):Bool:=ZX P m.ps&&Jp m.rs&&(Ia m.rs).all λt=>(Dz 0 m.ps).any λp=>Ag p t
section
variable {B B':Bb} {β β':Beta} {H:Hp} {w w':World} {M M':Nat->Prop} {stk:List (Array Value)} {s s':S} {a:Act} {P:Program} {E:Nat->AV} {e:Nat->Value} {b:Nat} {C:Cx}
def aBq{o:Oper}{f:FuncId}{args:List Operand}{ts:Array TypeId}{K:Act->World->Prop}{Q:Exit->Act->World->Prop}(hE:Li P f)(ho:o.op= .call { callee:= .value<|.func f,args:=args.toArray,argTypes:=ts })
  {R:Ending->World->Prop}(hc:Calls P f (args.map a.eval).toArray w R)(hR:∀en w',R en w'->∃v,en= .returned v/\K (a.put o.dst v) w'):o.wp P a w K Q:=by
 unfold Oper.wp;have h1:execOp a.eval o=callFunc f (args.map a.eval).toArray:=by
  have ef:a.eval (.func f)= .func (.func f) #[] #[]:=rfl;unfold execOp;simp[ho,resolve,Deferred.ofValue,invoke,ef]
 rw[h1,hE];refine M4 hc λen w' h=> ?_;obtain⟨v,rfl,hk⟩:=hR en w' h;exact hk
def aBA:∀(ids:List Nat) (s:S),(ids.foldl S.kill s).gs=s.gs/\(ids.foldl S.kill s).n=s.n/\(ids.foldl S.kill s).pins=s.pins
 | [],_=>⟨rfl,rfl,rfl⟩
 | i::ids,s=>aBA ids (s.kill i)
def asO(q:Bool)(ids:List Nat)(s:S):(GK q ids s).gs=s.gs/\(GK q ids s).n=s.n/\(GK q ids s).pins=s.pins:=by
 cases q with
 | false=>exact⟨rfl,rfl,rfl⟩
 | true=>
  obtain⟨h1,h2,h3,_⟩:=fj ids s;exact⟨h1,h2,h3⟩
def ash{h:Sh}{x:LT h}{v:Value}{os:List (Value×Nat)}(ht:nX h=Y)(hr:Rel P w M e h x v os):(BI E H b h x).2.2=b+os.length:=by
 by_cases hh:Ie h=Y
 .exact aED h H b x v os hh hr
 .cases h<;>first|(exact absurd ht hh;done)|skip
  case agg l=>
   obtain⟨us,rfl,h1⟩:=hr;have un:BI E H b (.agg l) x=(match Aj E H b l x with|(cs,H,b)=>(AV.agg cs,H,b)):=rfl;have:=Wz (E:=E) l H b x us os ht h1;rw[un];generalize Aj E H b l x=r at *;exact this
  case arr k=>
   obtain⟨rfl,h1⟩:=hr;rfl
def aAw:∀ {l:List Sh} {H:Hp} {b:Nat} {x:LTs l} {us:List Value} {os:List (Value×Nat)},Jp l=Y->Ch P w M e l x us os->(Aj E H b l x).2.2=b+os.length
 | [],H,b,x,us,os,_,hr=>by obtain⟨_,rfl⟩:=hr;rfl
 | h::l,H,b,x,us,os,hl,hr=>by
  obtain⟨u,us',o1,o2,rfl,rfl,h1,h2⟩:=hr;simp only[Jp,AD]at hl;have un:Aj E H b (h::l) x=(match BI E H b h x.1 with|(c,H,b)=>match Aj E H b l x.2 with|(cs,H,b)=>(c::cs,H,b)):=rfl;have k:=ash (E:=E) (H:=H) (b:=b) hl.1 h1;rw[un];generalize BI E H b h x.1=r at *;obtain⟨c,H',b'⟩:=r;have k:b'=b+o1.length:=k;subst k;have k2:=aAw (H:=H') (b:=b+o1.length) hl.2 h2;simp only;generalize Aj E H' (b+o1.length) l x.2=r at *;obtain⟨cs,H'',b''⟩:=r;have k2:b''=_:=k2;simp[k2,D8]
def asL{O:Nat->Prop}(hg:NK B.P B.w0 B.O)(hs:Hs B β H w)(hO:∀b,O b->MB β b):NK B.P w O:=by
 obtain⟨w0,h1,h2⟩:=hg;refine⟨w0,h1,λb hb=> ?_⟩;obtain⟨h3,h4,h5⟩:=h2 b hb;exact⟨λh=>(hs.old b<|hO b h).1.elim h3 J,Gf h4 hs.size,(hs.block b h4 h3).trans h5⟩
def aw1{m:DO}{f:FuncId}(hS:H4 B.P f m)(hk:okQ B.P m=Y){d:Option Nat}{as:List Operand}{o:Oper}{ts:Array TypeId}{K:Act->World->Prop}{Q:Exit->Act->World->Prop}
  (hst:St B β stk s a w)(hfr:∀j,b<=j->j<b+16->s.H j=G)(hd:s.has d=Y)(he:HT m s b d (as.map s.ev) I=I s')(hod:o.dst=d)(ho:o.op= .call { callee:= .value<|.func f,args:=as.toArray,argTypes:=ts })
  (hK:Js B stk a d s' K):o.wp B.P a w K Q:=by
 simp only[okQ,AD,DK,K0]at hk;obtain⟨⟨hps,hrs⟩,hsm⟩:=hk;unfold HT at he;simp only at he;split at he
 case h_2=>cases he
 rename_i x hx hnd;obtain⟨r,hr,he⟩:=Ah.1 he;simp only[AD]at hnd;have P7:=Wr hnd.1;generalize hcs:as.map s.ev=cs at *;generalize Ir:as.map a.eval=args;have hlen:args.length=cs.length:=by rw[← hcs,← Ir];simp
 have hrx:∀(i:Nat) (c:AV) (v:Value),cs[i]? =I c->args[i]? =I v->RX w β (BY a) c v:=λi c v h1 h2=>by
  rw[← hcs,D7]at h1;rw[← Ir,D7]at h2;obtain⟨y,hy,rfl⟩:=D6.1 h1;rw[hy]at h2;cases h2;exact hst.eval y
 have hpl:=W7 hx;have rl:RL (R1 w β) cs args:=⟨hlen,λj c u h1 h2=>(hrx j c u h1 h2).ME (hpl c<|Ci h1).1 (hpl c<|Ci h1).2⟩;generalize hE:(fun(i:Nat)=>(cs[i]?).getD AV.un)=E at *;have acb:∀ {t:Nat} {c:AV},cs[t]? =I c->E t=c:=λh=>by rw[← hE];simp[h]
 generalize hI:Bi s.H m.ps cs=ids at *;generalize hro:Ca s.H m.ps cs=ro at *;generalize hfz:Cs s.H m.ps cs=fz at *;have ay9:ro.Sublist ids:=by rw[← hro,← hI];exact XA _ _
 have aH:∀i∈ro,Q8 s.H i:=by rw[← hro];exact Wa _ _ _ hx
 have aP:∀i∈fz,Q8 s.H i:=by rw[← hfz];exact Wj _ _ _ hx
 obtain⟨bc,bv,hFb,hba,ac1,oG⟩:=aBg (E:=E) hst.hs m.ps cs args x hps rl hx;rw[hI]at hba ac1 oG;rw[hro]at oG
 let Zc:Nat->Prop:=λbl=>MZ β bl/\bl ∉ Ay (ids.filterMap β)/\bl ∉ Ay (fz.filterMap β)
 have R:NR B β s.H w (λbl=>bl∈Ay (ids.filterMap β)\/Zc bl) E (ar args):={
  hs:=hst.hs
  hM:=λbl h=>h.elim (λh=> .inl<|Sw h) (λh=>h.1)
  hE:=λt id z hEt=>by
   cases hc:cs[t]? with
   | none=>rw[← hE]at hEt;simp[hc]at hEt
   | some c=>
    have hlt:t<args.length:=by rw[hlen];exact(BO.1 hc).1
    rw[acb hc];exact rl.2 t c _ hc (by simp[ar,hlt]) }
 have azc:Qk β (λbl=>bl∈Ay (ids.filterMap β)\/Zc bl) fz:=λi hi p a' hp ha hm=>by
  obtain hm|hm:=hm
  .exact lB hst.hs hnd.2 i hi p a' hp ha (.inl hm)
  .exact hm.2.2<|GO.2 ⟨p,GO.2 ⟨i,hi,hp⟩,by simp[HM,ha]⟩
 obtain⟨os,JV,G4⟩:=Wq R m.ps cs args x rl hx (by rw[hfz];exact azc);rw[hI]at G4;have oX:(λbl=>bl∈Ay (ids.filterMap β)\/Zc bl)=λbl=>bl∈Ay os\/Zc bl:=by rw[G4]
 rw[oX]at JV;have Zx:∀bl∈Ay os,MB β bl:=λbl h=>by rw[G4]at h;exact Sw h
 have Zt:=hS.2 x r hr w Zc args os JV (by rw[G4];exact Wg hst.hs P7)
  (λbl h=>⟨(hst.hs.old bl<|Zx bl h).2,λhz=>hz.2.1 (by rw[← G4];exact h)⟩) (λbl h=>by
   obtain h1|h1:=h.1
   .exact(hst.hs.old bl h1).2
   .exact hst.hs.zl bl h1)
  (asL B.gl hst.hs λbl h=>Zx bl h)
 rw[← Ir]at Zt;refine aBq hS.1 ho Zt ?_;rw[Ir];rintro en w' ⟨v,rfl,IM⟩;refine⟨v,rfl, ?_⟩;rw[hod];obtain⟨vs,os1,os2,rfl,hr1,hr2,ayD,hbl⟩:=IM.ex;obtain⟨β1,h1,hβ1,hZ1⟩:=St.abr (a:=a) (w:=w) (stk:=stk) ro (P7.sublist ay9) hst;obtain⟨β2,h2,hβ2,hZ2⟩:=h1.ayV (CN m.rs||CN (B1 m.ps)) fz;have Gl:=asO (CN m.rs||CN (B1 m.ps)) fz<|ro.foldl S.kill s;have nr:=aBA ro s;have aE0:∀ {id:Nat} {t:TypeId} {cs0:List AV},s.H id=I (.box t cs0)->∃cs1,(GK (CN m.rs||CN (B1 m.ps)) fz<|ro.foldl S.kill s).H id=I (.box t cs1):=fun {id t cs0} hid=>by
  obtain⟨cs1,h⟩:=aCg ro s (λhm=>aH id hm t cs0 hid) hid;exact auw _ fz _ (λhm=>aP id hm.2 t cs0 hid) h
 have ayC:∀j,s.H j=G->(GK (CN m.rs||CN (B1 m.ps)) fz<|ro.foldl S.kill s).H j=G:=λj hj=>
  (aBH (N:=λ_=>False) (CN m.rs||CN (B1 m.ps)) fz<|BD.oE ro<|BD.refl _ s).nn j (λh=>h) hj
 generalize hq:(CN m.rs||CN (B1 m.ps))=q at *;generalize hs2:GK q fz (ro.foldl S.kill s)=s2 at *;have aF:∀j p,β2 j=I p->β j=I p/\j ∉ ro/\ ¬(q=Y/\j∈fz):=λj p h=>by
  rw[hβ2]at h;split at h
  .cases h
  .rename_i hn;rw[hβ1]at h;split at h
   .cases h
   .rename_i hn';exact⟨h,hn',hn⟩
 have acZ:∀bl,β2.Z bl↔β.Z bl\/ ∃i∈ro,∃p a,β i=I p/\adr p.1=I a/\a.block=bl:=λbl=>by rw[hZ2];exact hZ1 bl
 generalize hbc:Fq m.ps cs=bcT at *;generalize hbv:Ji m.ps args=bvT at *;have hM2:∃M2:Nat->Prop,Ch B.P w' M2 (ar args) m.rs r.1 vs os1/\Ch B.P w' M2 (ar args) (B1 m.ps) r.2 bvT os2/\(q=A0->∀bl,M2 bl)/\(q=Y->∀bl,(bl∈Ay (os1++os2)\/Zc bl)->M2 bl):=by
  cases q with
  | false=>
   simp only[Mx]at hq;exact⟨λ_=>True,Ch.anyM _ _ _ _ hq.1 hr1,Ch.anyM _ _ _ _ hq.2 hr2,λ_ _=>trivial,λh=>by cases h⟩
  | true=>exact⟨_,hr1,hr2,(by intro h;cases h),λ_ bl h=>h⟩
 obtain⟨M2,acO,azP,hMf,hMt⟩:=hM2;generalize hg:BP E s2.H b (B1 m.ps) bcT r.2=g at *;obtain⟨ds,H1,b1⟩:=g;simp only at he;generalize hmk:Aj E H1 b1 m.rs r.1=g at *;obtain⟨rc,Hf,b2⟩:=g;simp only at he;split at he
 case h_2=>cases he
 rename_i hb2;have hb2:=DW hb2;cases he;have P6:b1<=b2:=by have:=J3 E m.rs H1 b1 r.1;rw[hmk]at this;exact this
 have hgb:(BP E s2.H b (B1 m.ps) bcT r.2).2.2<=b+16:=by rw[hg];exact CV P6 hb2
 have hdK:∀i∈ES bc,i ∉ ro/\i ∉ fz/\ ∃t cs0,s.H i=I (.box t cs0):=λi hi=>by
  obtain⟨z,hz⟩:=aa8 hi;obtain⟨j,hj⟩:=aBe hz;obtain⟨v,_,id,z',bb,k1,_,⟨t,cs0,k3⟩,_,_⟩:=hba.get hj;cases k1;exact⟨λh=>aH i h _ _ k3,λh=>aP i h _ _ k3,t,cs0,k3⟩
 have azI:Fb B.P w' s2.H (B1 m.ps) bcT bvT bc bv:=hFb.carry IM.pk λi hi t cs0 h0=>by
  obtain⟨k1,k2,_⟩:=hdK i hi;obtain⟨cs1,h3,h4⟩:=aEN ro s k1 h0;obtain⟨cs2,h5,h6⟩:=awG q fz (ro.foldl S.kill s) (λhm=>k2 hm.2) h3;rw[hs2]at h5;refine⟨cs2,h5,λid2 z2 c1 e hm=> ?_⟩;obtain⟨c2,e2⟩:=h4 id2 z2 c1 e (hdK id2 hm).1;exact h6 id2 z2 c2 e2 λhm'=>(hdK id2 hm).2.1 hm'.2
 obtain⟨nw,ayg,hb1,hgi⟩:=kD (E:=E) (P:=B.P) (w:=w') (M:=M2) (e:=ar args) (B1 m.ps) s2.H b r.2 bcT bc bvT bv os2 (b+16) azI (P7.sublist ac1)
  (λi hi hh=>by
   obtain⟨_,_,t,cs0,k3⟩:=hdK i hi;rw[hfr i hh.1 hh.2]at k3;cases k3) azP hgb
 rw[hg]at hb1 hgi;simp only at hb1 hgi
 let os':=nw++os1
 let β3:Beta:=⟨λj=>if b<=j/\j<b+os'.length then os'[j - b]? else β2 j,B.Z⟩
 have Tt:∀j p,β3 j=I p->(b<=j/\j<b+os'.length/\os'[j - b]? =I p)\/(¬(b<=j/\j<b+os'.length)/\β2 j=I p):=λj p h=>by
  have h:(if b<=j/\j<b+os'.length then os'[j - b]? else β2 j)=I p:=h;split at h
  .rename_i hh;exact .inl ⟨hh.1,hh.2,h⟩
  .rename_i hh;exact .inr ⟨hh,h⟩
 have R7:Num β3 b os':=λi p hp=>by
  have hlt:=(BO.1 hp).1;show(if b<=b+i/\b+i<b+os'.length then os'[b+i - b]? else β2 (b+i))=I p;rw[A5 ⟨J,J⟩,show b+i - b=i by omega];exact hp
 have Zp:(Ay os2).Perm (Ay nw++Ay (bv.map λv=>(v,1))):=by
  have:=ayg.filterMap HM;rwa[Lw]at this
 have Ts:∀bl,bl∈Ay os'->bl∈Ay (os1++os2):=λbl h=>by
  simp only[os',Ay,Lw,BM]at h ⊢;obtain h|h:=h
  .exact .inr (Zp.mem_iff.2<|Bv _ h)
  .exact .inl h
 have aI:(Ay os'++Ay (bv.map λv=>(v,1))).Nodup:=by
  have h1:(Ay<|os1++os2).Perm (Ay os'++Ay (bv.map λv=>(v,1))):=by
   simp only[os',Ay,Lw]at Zp ⊢;refine(YX _ Zp).trans ?_;rw[← C2];exact List.Perm.append_right _ List.perm_append_comm
  exact h1.nodup_iff.1 ayD
 have ayP:(Ay os').Nodup:=(JN.1 aI).1;have oJ:∀i,i∈ids->i ∉ ro->∃v,(v,1)∈bv.map (λv=>(v,1))/\β i=I (v,1)/\(∃z,AV.ptr i z 0 0∈bc):=λi hi hn=>by
  obtain h|⟨z,h⟩:=oG i hi
  .exact absurd h hn
  .obtain⟨j,hj⟩:=aBe h;obtain⟨v,hv,id,z',bb,k1,k2,k3,k4,k5⟩:=hba.get hj;cases k1;exact⟨v,Bu.2 ⟨v,Ci hv,rfl⟩,k4,z,h⟩
 have o8:∀j p a',β2 j=I p->adr p.1=I a'->a'.block∈Ay os->j∈ids/\j ∉ ro:=λj p a' hj ha hm=>by
  obtain⟨h0,h1,_⟩:=aF j p hj;rw[G4]at hm;obtain⟨i,hi,p',a2,hp',ha',e'⟩:=Mb hm;have:=hst.hs.inj j i p p' a' a2 h0 hp' ha ha' e'.symm;subst this;exact⟨hi,h1⟩
 have abt:∀bl,bl∈Ay os->MZ β2 bl:=λbl hm=>by
  have hm':=hm;rw[G4]at hm;obtain⟨i,hi,p,a',hp,ha,e'⟩:=Mb hm;by_cases hr:i∈ro
  .exact .inr ((acZ bl).2<|.inr ⟨i,hr,p,a',hp,ha,e'⟩)
  .refine .inl ⟨i,p.1,p.2,a', ?_,ha,e'⟩;have hnf:i ∉ fz:=λhf=>aDw hnd.2 i hf hi;rw[hβ2,A8 λh=>hnf h.2,hβ1,A8 hr];exact hp
 have nv:∀bl,MB β3 bl->MB β2 bl\/bl∈Ay os':=λbl hm=>by
  obtain⟨j,hd',n,a',hj,ha,e'⟩:=hm;obtain⟨_,_,hj⟩|⟨_,hj⟩:=Tt j _ hj
  .exact .inr (GO.2 ⟨_,Ci hj,by simp[HM,ha,e']⟩)
  .exact .inl ⟨j,hd',n,a',hj,ha,e'⟩
 have Cl:∀bl o v,¬MZ β2 bl->w.cell? ⟨bl,o,G⟩=I v->w'.cell? ⟨bl,o,G⟩=I v:=λbl o v hn hc=>by
  have hlt:=block_lt_of_cell hc;rw[TL (w:=w) (w':=w')<|IM.block bl hlt λhm=>hn<|abt bl hm];exact hc
 have azn:∀bl,¬MZ β2 bl->bl<w.heap.size->¬MZ β3 bl:=λbl hn hlt hm=>by
  obtain hm|hm:=hm
  .rcases nv bl hm with h|h
   .exact hn (.inl h)
   .rcases(hbl bl<|Ts bl h).1 with h3|h3
    .exact hn (abt bl h3)
    .omega
  .exact hn<|.inr<|(acZ bl).2<|.inl (by rw[hst.hs.z];exact hm)
 have aE:∀j p,β2 j=I p->β3 j=I p:=λj p hj=>by
  have hne:¬(b<=j/\j<b+os'.length):=λhh=>by
   have ayS:os'.length=nw.length+os1.length:=by simp[os']
   have h3:=(hgi:_);obtain⟨ob,hob⟩:=h2.hs.dom j p hj;have:=ayC j (hfr j hh.1 (by
    have:b2=b1+os1.length:=by
     have:=aAw hrs acO (E:=E) (H:=H1) (b:=b1);rw[hmk]at this;exact this
    omega))
   rw[this]at hob;cases hob
  show(if b<=j/\j<b+os'.length then os'[j - b]? else β2 j)=I p;rw[A8 hne];exact hj
 have hkp:Kp w β2 w' β3:=λc v hc=>hc.mono aE Cl azn;have hM3:∀bl,MZ β3 bl->M2 bl:=λbl hm=>by
  cases q with
  | false=>exact hMf rfl bl
  | true=>
   refine hMt rfl bl ?_;obtain hm|hm:=hm
   .rcases nv bl hm with h|h
    .obtain⟨j,hd',n,a',hj,ha,e'⟩:=h;obtain⟨k1,k2,k3⟩:=aF j _ hj;by_cases hji:j∈ids
     .obtain⟨v,hv1,hv2,_⟩:=oJ j hji k2;rw[k1]at hv2;cases hv2;refine .inl ?_;simp only[Ay,Lw,BM];refine .inr (Zp.mem_iff.2<|CP _<|GO.2 ⟨_,hv1,by simp[HM,ha,e']⟩)
     .refine .inr ⟨.inl ⟨j,hd',n,a',k1,ha,e'⟩,λhb=> ?_,λhb=> ?_⟩
      .rw[← G4,← e']at hb;exact hji (o8 j _ a' hj ha hb).1
      .obtain⟨i,hi,p,a2,hp,ha2,e2⟩:=Mb hb;have:=hst.hs.inj j i _ p a' a2 k1 hp ha ha2<|e'.trans e2.symm;subst this;exact k3 ⟨rfl,hi⟩
    .exact .inl (Ts bl h)
   .have hz:β.Z bl:=by rw[hst.hs.z];exact hm
    refine .inr ⟨.inr hz,λhb=> ?_,λhb=> ?_⟩
    .obtain⟨i,hi,p,a2,hp,ha2,e2⟩:=Mb hb;exact hst.hs.zn i p a2 hp ha2 (e2▸hz)
    .obtain⟨i,hi,p,a2,hp,ha2,e2⟩:=Mb hb;exact hst.hs.zn i p a2 hp ha2<|e2▸hz
 obtain⟨g1,g2,g3,g4⟩:=hgi β3 hM3 R7.left (λi c v k1 k2 id z hc=>by
  obtain⟨id',z',bb,j1,j2,j3,j4,j5⟩:=hba.2 i c v k1 k2;rw[hc]at j1;cases j1;refine aE id _ ?_;have hnr:id ∉ ro:=λh=>aH id h _ _ j3.choose_spec.choose_spec;have hnf:id ∉ fz:=λh=>aP id h _ _ j3.choose_spec.choose_spec;rw[hβ2,A8 λh=>hnf h.2,hβ1,A8 hnr];exact j4)
 have ayd:TX w' β3 E (ar args) (Ia m.rs):=λt ht=>by
  obtain⟨p,hp1,hp2⟩:=hsm t ht;obtain rfl:=Bm hp2;obtain⟨_,e1,l1,hp3⟩:=aD3 m.ps 0 p hp1;rw[JR]at hp3;obtain⟨c,y,hc,hy⟩:=aDL hx hp3;have hlt:p<args.length:=by rw[hlen];exact(BO.1 hc).1
  have hR:=rl.2 p c (ar args p) hc (by simp[ar,hlt]);rw[acb hc];cases c<;>first|(cases hy;done)|skip
  rename_i id z i' o';cases i'<;>cases o'<;>simp only[Bn]at hy<;>first|(cases hy;done)|skip
  split at hy
  case h_2=>cases hy
  rename_i t' cs' hid;have hnr:id ∉ ro:=λh=>aH id h _ _ hid;have hnf:id ∉ fz:=λh=>aP id h _ _ hid;have hR:=hR.R3;generalize ar args p=v at hR;cases hR with
  | ptr k1 k2 k3=>exact .M9<|.ptr (aE id _ (by rw[hβ2,A8 λh=>hnf h.2,hβ1,A8 hnr];exact k1)) k2 k3
 obtain⟨f1,f2,f3⟩:=XR (β:=β3) (E:=E) (M:=M2) (P:=B.P) (w:=w') (e:=ar args) hM3 m.rs H1 b1 r.1 vs os1 hrs acO (by rw[hb1];exact R7.right) ayd;rw[hmk]at f1 f2 f3;simp only at f1 f2 f3;have ayS:os'.length=nw.length+os1.length:=by simp[os']
 have acS:∀j,(∃ob,Hf j=I ob/\E7 B.P w' β3 j ob)\/(Hf j=s2.H j/\ ∀z,AV.ptr j z 0 0 ∉ bc):=λj=>by
  by_cases hj:b1<=j/\j<b1+os1.length
  .exact .inl (f3.2 j hj.1 hj.2)
  .have e1:Hf j=H1 j:=f3.1 j J;obtain h|⟨ob,h,h'⟩:=g1 j
   .by_cases hm:∃z,AV.ptr j z 0 0∈bc
    .obtain⟨z,hm⟩:=hm;obtain⟨ob,h3,h4⟩:=g3 j z hm;exact .inl ⟨ob,by rw[e1];exact h3,h4⟩
    .exact .inr ⟨e1.trans h,λz hz=>hm ⟨z,hz⟩⟩
   .exact .inl ⟨ob,by rw[e1];exact h,h'⟩
 have hHf:Hs B β3 Hf w':={
  EI:=λj ob hj=>by
   obtain⟨ob',h3,h4⟩|⟨h3,h4⟩:=acS j
   .rw[h3]at hj;cases hj;exact h4
   .rw[h3]at hj;have hob:=h2.hs.EI j ob hj;have hex:∃p,β2 j=I p:=by
     cases ob with
     | box e cs=>obtain⟨_,_,h,_⟩:=hob;exact⟨_,h⟩
     | row e fz k xs=>obtain⟨_,h,_⟩:=hob;exact⟨_,h⟩
     | arr e k xs=>obtain⟨_,_,h,_⟩:=hob;exact⟨_,h⟩
    obtain⟨p,hp⟩:=hex;refine hob.mono (by rw[aE j p hp,hp]) hkp λp' a' hp' ha'=> ?_;rw[hp]at hp';cases hp';have hlt:=(h2.hs.old a'.block ⟨j,p.1,p.2,a',hp,ha',rfl⟩).2;refine IM.block a'.block hlt λhm=> ?_;obtain⟨h5,h6⟩:=o8 j p a' hp ha' hm;obtain⟨_,_,_,z,hz⟩:=oJ j h5 h6;exact h4 z hz
  dom:=λj p hj=>by
   obtain⟨ob',h3,_⟩|⟨h3,_⟩:=acS j
   .exact⟨ob',h3⟩
   .rcases Tt j p hj with⟨k1,k2,k3⟩|⟨_,hj⟩
    .by_cases hjb:j<b+nw.length
     .obtain⟨ob,k4,_⟩:=g2 j k1 hjb;have:Hf j=H1 j:=f3.1 j J;exact⟨ob,by rw[this];exact k4⟩
     .obtain⟨ob,k4,_⟩:=f3.2 j J J;exact⟨ob,k4⟩
    .obtain⟨ob,k4⟩:=h2.hs.dom j p hj;exact⟨ob,by rw[h3];exact k4⟩
  inj:=λi j p p' a1 a2 hi hj ha1 ha2 hb=>by
   have Ty:∀(i j:Nat) (p p':Value×Nat) (a1 a2:Addr),β2 i=I p->os'[j - b]? =I p'->adr p.1=I a1->adr p'.1=I a2->a1.block=a2.block->False:=by
    intro i j p p' a1 a2 hi hj ha1 ha2 hb;have hm2:a2.block∈Ay os':=GO.2 ⟨p',Ci hj,by simp[HM,ha2]⟩;rcases(hbl a2.block<|Ts _ hm2).1 with h3|h3
    .rw[← hb]at h3;obtain⟨h5,h6⟩:=o8 i p a1 hi ha1 h3;obtain⟨v,hv1,hv2,_⟩:=oJ i h5 h6;rw[(aF i p hi).1]at hv2;cases hv2;have hm1:a1.block∈Ay (bv.map λv=>(v,1)):=GO.2 ⟨_,hv1,by simp[HM,ha1]⟩;exact(JN.1 aI).2.2 _ hm2 _ hm1 hb.symm
    .have:=(h2.hs.old a1.block ⟨i,p.1,p.2,a1,hi,ha1,rfl⟩).2;omega
   obtain⟨i1,i2,i3⟩|⟨_,i3⟩:=Tt i p hi<;>obtain⟨j1,j2,j3⟩|⟨_,j3⟩:=Tt j p' hj
   .have:=XP ayP (i - b) (j - b) p p' a1 a2 i3 j3 ha1 ha2 hb;omega
   .exact(Ty j i p' p a2 a1 j3 i3 ha2 ha1 hb.symm).elim
   .exact(Ty i j p p' a1 a2 i3 j3 ha1 ha2 hb).elim
   .exact h2.hs.inj i j p p' a1 a2 i3 j3 ha1 ha2 hb
  old:=λbl hm=>by
   obtain h|h:=nv bl hm
   .exact⟨(h2.hs.old bl h).1,Gf (h2.hs.old bl h).2 IM.size⟩
   .have h3:=hbl bl<|Ts bl h;refine⟨?_,h3.2⟩;obtain h4|h4:=h3.1
    .exact(hst.hs.old bl<|Zx bl h4).1
    .exact .inr (CV hst.hs.size h4)
  os:=IM.wos.trans hst.hs.os
  tape:=IM.tape.trans hst.hs.tape
  output:=IM.output.trans hst.hs.output
  size:=CV hst.hs.size IM.size
  block:=λbl hlt hO=>by
   rw[IM.block bl (Gf hlt hst.hs.size) λhm=> ?_]
   .exact hst.hs.block bl hlt hO
   .rcases(hst.hs.old bl<|Zx bl hm).1 with h|h
    .exact hO h
    .omega
  z:=rfl
  zn:=λj p a' hj ha hz=>by
   obtain⟨_,_,j3⟩|⟨_,j3⟩:=Tt j p hj
   .have hm2:a'.block∈Ay os':=GO.2 ⟨p,Ci j3,by simp[HM,ha]⟩;rcases(hbl a'.block<|Ts _ hm2).1 with h3|h3
    .rw[G4]at h3;obtain⟨i,hi,p2,a2,hp2,ha2,e2⟩:=Mb h3;exact hst.hs.zn i p2 a2 hp2 ha2 (by rw[e2,hst.hs.z];exact hz)
    .have:=hst.hs.zl a'.block (by rw[hst.hs.z];exact hz);omega
   .exact hst.hs.zn j p a' (aF j p j3).1 ha (by rw[hst.hs.z];exact hz)
  zl:=λbl hz=>Gf (hst.hs.zl bl (by rw[hst.hs.z];exact hz)) IM.size
  pk:=hst.hs.pk.trans IM.pk }
 have oQ:St B β3 stk { s2 with H:=Hf } a w':=by
  refine⟨λt=>RT.mono hkp<|h2.T t,⟨h2.stack.1,λi T tm k1 k2 t=>RT.mono hkp<|h2.stack.2 i T tm k1 k2 t⟩,h2.n,h2.defers,h2.pins,h2.gs,hHf⟩
 have EX:({ s2 with H:=Hf } :S).has d=Y:=by
  have:({ s2 with H:=Hf } :S).has d=s.has d:=QF (Gl.1.trans nr.1) (Gl.2.1.trans nr.2.1) (Gl.2.2.trans nr.2.2) d;rw[this];exact hd
 exact hK β3 (M5 vs) w'<|QE oQ EX<|aao f1
end
end Go.VS
namespace Go.VS
open Go
section
variable {B:Bb} {β β':Beta} {H:Hp} {w w':World} {stk:List (Array Value)} {s s':S} {a:Act} {P:Program} {C:Cx}
def kO(hΓ:∀f d m,C.Γ f d=I m->H4 P f m/\okQ P m=Y)(B:Bb)(hB:B.P=P):HL C B:=by
 intro f d m hm β stk s a w b as s' o ts K Q hst hfr hd he hod ho hK;obtain⟨h1,h2⟩:=hΓ f d m hm;rw[← hB]at h1 h2;exact aw1 h1 h2 hst hfr hd he hod ho hK
def aD2{c:AV}(h:plB c=Y):(∀g w v,c≠ .gd g w v)/\ ∀vs,c≠ .tup vs:=by
 constructor
 .rintro g w v rfl;cases h
 .rintro vs rfl;cases h
def aaY(hP:C.P=B.P)(hm:B.P.follows .mixedOrders=Y)(hC:HL C B):∀n,JB C B<|NC C n
 | 0=>aEC C B
 | n+1=>by
  intro Ω f d as s k q he β stk a w o args ts K Q hst hfr hd hod has ho hK;have ih:=aaY hP hm hC n;unfold NC at he;simp only at he;split at he
  .cases he
  rename_i fn hfn;split at he
  case h_2=>cases he
  rename_i body ac3 KB;split at he
  case h_2=>cases he
  rename_i ac2;simp only[AD]at ac2;obtain⟨⟨hc1,hc2⟩,hc3⟩:=ac2;have hpl:∀c∈as,(∀g w v,c≠ .gd g w v)/\ ∀vs,c≠ .tup vs:=λc hc=>aD2<|DK.1 hc3 c hc;have hlen:as.length<=fn.ntmps:=DW hc2;rw[hP]at hfn;refine aBq (O2 hfn (by simpa using KB) ac3) ho (R:=λen w'=>∃v,en= .returned v/\K (a.put o.dst v) w') ?_ (λen w' h=>h);refine calls_of_wp hfn ac3 ?_;have Ir:(args.map a.eval).length=as.length:=by rw[has];simp
  have aym:St B β (a.tmps::stk) { s with n:=fn.ntmps,T:=λt=>(as[t]?).getD Dp,st:=s.T::s.st,pins:=[],gs:=λ_=>A0 }
    { tmps:=(args.map a.eval).toArray++QW (fn.ntmps - (args.map a.eval).toArray.size) undef,defers:=[] } w:=by
   refine⟨λt=> ?_,⟨by simp[hst.stack.1],λi T tm h1 h2 t=> ?_⟩, ?_,rfl,λt ht=>by simp at ht,λt g want y hy=> ?_,hst.hs⟩
   .rw[WH];show RT w β _ ((as[t]?).getD Dp) _;cases hv:as[t]? with
    | none=>
     have:(args.map a.eval).length<=t:=by rw[Ir];exact Yf.1 hv
     have e0:ar (args.map a.eval) t=undef:=by simp only[ar,B9,He this];rfl
     rw[e0];exact(show R2 w β Dp undef from rfl)
    | some c=>
     have hv':=hv;rw[has,D7]at hv';obtain⟨x,hx,rfl⟩:=D6.1 hv';have e0:ar (args.map a.eval) t=a.eval x:=by simp[ar,hx]
     rw[e0];have hp:=hpl _<|Ci hv;exact((hst.eval x).ME hp.1 hp.2).aM
   .cases i with
    | zero=>
     simp at h1 h2;subst h1;subst h2;exact hst.T t
    | succ i=>exact hst.stack.2 i T tm (by simpa using h1) (by simpa using h2) t
   .simp only[QY,Kn,lv];omega
   .have hy:(as[t]?).getD Dp= .gd g want y:=hy;cases hv:as[t]? with
    | none=>rw[hv]at hy;cases hy
    | some c=>
     rw[hv]at hy;exact absurd hy<|(hpl c<|Ci hv).1 _ _ _
  have key:∀β' a' w' s',St B β' (a.tmps::stk) s' a' w'->Fr s'->(match s'.st,Q3 C.P s' fn.results.toList with
     | T::st,I vs=>match vs.all plB with
      | true=>k ({ s' with n:=s.n,T:=λt=>Oy<|T t,st:=st,pins:=s.pins,gs:=λ_=>A0 }.put d<|Lq vs)
      | false=>G
     | _,_=>G)=I q->a'.defers=[]/\ ∃v,(results fn a'.tmps).run B.P w'= .ok v w'/\ ∃v',Ending.returned v= .returned v'/\K (a.put o.dst v') w':=by
   intro β' a' w' s' h1 h2 h3;refine⟨h1.defers, ?_⟩;split at h3
   case h_2=>cases h3
   rename_i T st vs MG hvs;split at h3
   case h_2=>cases h3
   rename_i It;obtain⟨us,k1,k2,k3⟩:=XX hP h1 fn.results.toList hvs;rw[hP]at k1;refine⟨M5 us,aAc k1,M5 us,rfl, ?_⟩;rw[hod];have rl:RL (R1 w' β') vs us:=⟨k2,λj c u e1 e2=>by
    have hp:=aD2<|DK.1 It c<|Ci e1;exact(k3 j c u e1 e2).ME hp.1 hp.2⟩
   have R5:=h1.stack;rw[MG]at R5;have hTt:∀t,RT w' β' (BY a) (T t) (BY a t):=λt=>R5.2 0 T a.tmps rfl rfl t;have ayl:St B β' stk { s' with n:=s.n,T:=λt=>Oy<|T t,st:=st,pins:=s.pins,gs:=λ_=>A0 } a w':=by
    refine⟨λt=> ?_,⟨by simpa using R5.1,λi T' tm e1 e2 t=>R5.2 (i+1) T' tm (by simpa using e1) (by simpa using e2) t⟩,hst.n,hst.defers,hst.pins,λt g want y hy=> ?_,h1.hs⟩
    .have:=hTt t;show RT w' β' _ (Oy<|T t) _;cases hT:T t<;>rw[hT]at this<;>first|exact this|trivial
    .have hy:Oy (T t)= .gd g want y:=hy;unfold Oy at hy;split at hy
     .cases hy
     .rename_i hn;exact absurd hy<|hn _ _ _
   have EX:({ s' with n:=s.n,T:=λt=>Oy<|T t,st:=st,pins:=s.pins,gs:=λ_=>A0 } :S).has d=Y:=by
    cases d with
    | none=>rfl
    | some d=>
     simp only[S.has,AD,CE]at hd ⊢;exact⟨hd.1,trivial⟩
   refine hK β' (M5 us) w' _ (QE ayl EX<|aao rl) (λj hj=> ?_) ?_ ?_ h3
   .have hj:s'.nid<=j:=by cases d<;>exact hj
    have:=h2 j hj;cases d<;>exact this
   .cases d<;>rfl
   .cases d<;>rfl
  refine XF hP hm hC ih body .nil _ _ q he aym hfr (G8 _ body) ⟨?_, ?_, ?_⟩
  .exact λβ' a' w' s' h1 h2 _ _ h5=>key β' a' w' s' h1 h2 h5
  .exact λβ' a' w' s' h1 h2 _ _ h5=>key β' a' w' s' h1 h2 h5
  .intro id β' a' w' s' h1 h2 h3 h4 h5;cases h5
end
def Bh{A R:Type}(t:(A->Option R)->A->Option R):Nat->A->Option R
 | 0=>λ_=>G
 | n+1=>t (Bh t n)
open Classical in
def NH {A R:Type} (t:(A->Option R)->A->Option R) (x:A):Option R:=
 if h:∃n r,Bh t n x=I r then I (My<|Il h) else G
def aCI{A R:Type}{t:(A->Option R)->A->Option R}{x:A}{r:R}(h:NH t x=I r):∃n,Bh t n x=I r:=by
 unfold NH at h;split at h
 .rename_i hn;have:=Il<|Il hn;cases h;exact⟨_,this⟩
 .cases h
def arN{P:Program}{f:FuncId}{ps rs:List Sh}{t:(LTs ps->Option (LTs rs×LTs (B1 ps)))->LTs ps->Option (LTs rs×LTs (B1 ps))}(he:Li P f)
  (h:∀g,H4 P f ⟨ps,rs,g⟩->H4 P f ⟨ps,rs,t g⟩):H4 P f ⟨ps,rs,NH t⟩:=by
 have hn:∀n,H4 P f ⟨ps,rs,Bh t n⟩:=by
  intro n
  induction n with
  | zero=>exact⟨he,λx r hx=>by cases hx⟩
  | succ n ih=>exact h _ ih
 refine⟨he,λx r hx=> ?_⟩;obtain⟨n,hx⟩:=aCI hx;intro w Z args os h1 h2 h3 h4 h5;exact M4 ((hn n).2 x r hx w Z args os h1 h2 h3 h4 h5) λen w' ⟨v,e,hr⟩=>⟨v,e,⟨hr.ex,hr.wos,hr.tape,hr.output,hr.size,hr.block,hr.pk⟩⟩
end Go.VS
namespace Go.VS
open Go
def gam:List (Nat×Option Nat×DO)->Nat->Option Nat->Option DO
 | [],_,_=>G
 | (f,e,m)::l,g,d=>match Ag f g&&(match e,d with
   | none,_=>Y
   | some a,I b=>Ag a b
   | some _,G=>A0) with
  | true=>I m
  | false=>gam l g d
def Qj(P:Program)(l:List (Nat×Option Nat×DO)):Prop:=∀e∈l,H4 P e.1 e.2.2/\okQ P e.2.2=Y
def AI{P:Program}:Qj P []:=λe h=>by cases h
def nG{P:Program}{l:List (Nat×Option Nat×DO)}(h:Qj P l):∀f d m,gam l f d=I m->H4 P f m/\okQ P m=Y:=by
 induction l with
 | nil=>intro f d m hm;cases hm
 | cons e l ih=>
  obtain⟨g,e,m'⟩:=e;intro f d m hm;unfold gam at hm;split at hm
  .rename_i hc;simp only[AD]at hc;cases hm;obtain rfl:=Bm hc.1;exact h _ An
  .exact ih (λe he=>h e<|Ai _ he) f d m hm
def Fp:Code->Adv->List (Code×Loop)
 | .seq a b,.join _ u v=>Fp a u++Fp b v
 | .seq a b,.two u v=>Fp a u++Fp b v
 | .seq a _,.one u=>Fp a u
 | .cond _ x _,.one u=>Fp x u
 | .cond _ x y,.two u v=>Fp x u++Fp y v
 | .cond _ x y,.join _ u v=>Fp x u++Fp y v
 | .block _ c,.one u=>Fp c u
 | .block _ c,.two u _=>Fp c u
 | .block _ c,.join _ u _=>Fp c u
 | .loop c,.loop l=>[(c,l)]
 | _,_=>[]
def IV{L:Code->Loop->Prop}:∀(c:Code) (v:Adv),(∀p∈Fp c v,L p.1 p.2)->HZ L c v
 | .seq a b,.join _ u v,h=>⟨IV a u λp hp=>h p<|Bv _ hp,IV b v λp hp=>h p<|CP _ hp⟩
 | .seq a b,.two u v,h=>⟨IV a u λp hp=>h p<|Bv _ hp,IV b v λp hp=>h p<|CP _ hp⟩
 | .seq a b,.one u,h=>⟨IV a u h,G8 L b⟩
 | .seq a b,.nil,_=>⟨G8 L a,G8 L b⟩
 | .seq a b,.loop _,_=>⟨G8 L a,G8 L b⟩
 | .cond _ x y,.one u,h=>⟨IV x u h,G8 L y⟩
 | .cond _ x y,.two u v,h=>⟨IV x u λp hp=>h p<|Bv _ hp,IV y v λp hp=>h p<|CP _ hp⟩
 | .cond _ x y,.join _ u v,h=>⟨IV x u λp hp=>h p<|Bv _ hp,IV y v λp hp=>h p<|CP _ hp⟩
 | .cond _ x y,.nil,_=>⟨G8 L x,G8 L y⟩
 | .cond _ x y,.loop _,_=>⟨G8 L x,G8 L y⟩
 | .block _ c,.one u,h=>IV c u h
 | .block _ c,.two u _,h=>IV c u h
 | .block _ c,.join _ u _,h=>IV c u h
 | .block _ c,.nil,_=>G8 L c
 | .block _ c,.loop _,_=>G8 L c
 | .loop c,.loop l,h=>h (c,l) (by simp[Fp])
 | .loop _,.nil,_=>trivial
 | .loop _,.one _,_=>trivial
 | .loop _,.two _ _,_=>trivial
 | .loop _,.join _ _ _,_=>trivial
 | .skip,_,_=>trivial
 | .region _ _ _,_,_=>trivial
 | .exit _,_,_=>trivial
 | .ret,_,_=>trivial
 | .rangeFunc _ _ _ _,_,_=>trivial
 | .scope _,_,_=>trivial
 | .label _,_,_=>trivial
 | .goto _,_,_=>trivial
 | .refuse _,_,_=>trivial
def To(L:Code->Loop->Prop)(l:List (Code×Loop)):Prop:=∀p∈l,L p.1 p.2
def aEa{L:Code->Loop->Prop}{c:Code}{v:Adv}{l:List (Code×Loop)}(h:Fp c v=l)(hl:To L l):HZ L c v:=IV c v (by rw[h];exact hl)
def axZ{L:Code->Loop->Prop}:To L []:=λp h=>by cases h
def axa{L:Code->Loop->Prop}{c:Code}{v:Loop}{l:List (Code×Loop)}(h:L c v)(hl:To L l):To L ((c,v)::l):=λp hp=>by
 obtain rfl|hp:=Bl.1 hp
 .exact h
 .exact hl p hp
abbrev Ent:=Nat×Option Nat×DO
def SQ(P:Program)(e:Ent):Prop:=H4 P e.1 e.2.2/\okQ P e.2.2=Y
def gC{P:Program}{e:Ent}{l:List Ent}(h:SQ P e)(hl:Qj P l):Qj P (e::l):=λx hx=>by
 obtain rfl|hx:=Bl.1 hx
 .exact h
 .exact hl x hx
def inR:List (Nat×Nat)->Nat->Bool
 | [],_=>A0
 | (a,b)::l,n=>match Dx a n&&Dx n b with
  | true=>Y
  | false=>inR l n
structure OKC (P:Program) (C:Cx) (inl:(Ω:Type)->Inl Ω):Prop where
 p:C.P=P
 m:P.follows .mixedOrders=Y
 c:∀B:Bb,B.P=P->HL C B
 i:∀B:Bb,B.P=P->JB C B inl
def okc{P:Program}{kd:TypeId->Option K}{l:List Ent}{cz sp:Nat->Bool}(hm:P.follows .mixedOrders=Y)(h:Qj P l):OKC P ⟨P,kd,gam l,cz,sp⟩ AF:=
 ⟨rfl,hm,λB hB=>kO (C:=⟨P,kd,gam l,cz,sp⟩) (nG h) B hB,λB _=>aEC _ B⟩
def abl{P:Program}{kd:TypeId->Option K}{l:List Ent}{cz sp:Nat->Bool}(n:Nat)(hm:P.follows .mixedOrders=Y)(h:Qj P l):OKC P ⟨P,kd,gam l,cz,sp⟩ (NC ⟨P,kd,gam l,cz,sp⟩ n):=
 ⟨rfl,hm,λB hB=>kO (C:=⟨P,kd,gam l,cz,sp⟩) (nG h) B hB,λB hB=>aaY (C:=⟨P,kd,gam l,cz,sp⟩) (B:=B) hB.symm (by rw[hB];exact hm) (kO (C:=⟨P,kd,gam l,cz,sp⟩) (nG h) B hB) n⟩
def LpK(P:Program)(n:Nat)(pins:List Nat)(ls:List (Code×Loop)):Prop:=∀B:Bb,B.P=P->To (Mn B n pins) ls
def kN{P:Program}{n:Nat}{pins:List Nat}:LpK P n pins []:=λ_ _=>axZ
def kC{P:Program}{n:Nat}{pins:List Nat}{c:Code}{l:Loop}{ls:List (Code×Loop)}(h:LpK P n pins [(c,l)])(hl:LpK P n pins ls):LpK P n pins ((c,l)::ls):=λB hB=>axa (h B hB (c,l) An)<|hl B hB
def lk{P:Program}{C:Cx}{inl:(Ω:Type)->Inl Ω}(hC:OKC P C inl){n:Nat}{pins:List Nat}{body:Code}{v:Adv}{l:Loop}{b:Lv l.sch->Option (Lv l.sch ⊕ (Lv l.KD ⊕ Lv l.KE))}{ls:List (Code×Loop)}
  (hb:∀x,evL C inl n pins body v l x=b x)(hr:l.run=AW b)(h:Fp body v=ls)(hl:LpK P n pins ls):LpK P n pins [(body,l)]:=λB hB p hp=>by
 obtain rfl:=CL.1 hp;exact av8 (hC.p.trans hB.symm) (by rw[hB];exact hC.m) (hC.c B hB) (hC.i B hB) hb hr<|aEa h<|hl B hB
def fnB(P:Program)(f:Nat)(fn:Func)(m:DO):Option Func×Bool×Bool×Bool:=(P.funcs[f]?, fn.name == "runtime.NumGoroutine",okM m fn.ntmps,okQ P m)
def so{P:Program}{C:Cx}{inl:(Ω:Type)->Inl Ω}{f:Nat}{d:Option Nat}{fn:Func}{m:DO}{v:Adv}{ls:List (Code×Loop)}(hC:OKC P C inl)
  (hf:fnB P f fn m=(I fn,A0,Y,Y))(hb:fn.body=I (Kh fn))(h:Fp (Kh fn) v=ls)(hl:LpK P fn.ntmps (Dz 0 m.ps) ls)(hg:∀x,Zj C inl fn v m x=m.g x):SQ P (f,d,m):=by
 simp only[fnB,CK]at hf;exact⟨atL hC.p hC.m hC.c hC.i hf.1 hf.2.1 hb hf.2.2.1 (λB hB=>aEa h<|hl B hB) hg,hf.2.2.2⟩
def soR{P:Program}{f:Nat}{d:Option Nat}{ps rs:List Sh}{t:(LTs ps->Option (LTs rs×LTs (B1 ps)))->LTs ps->Option (LTs rs×LTs (B1 ps))}(he:Li P f)
  (hq:∀g,okQ P ⟨ps,rs,g⟩=Y)(h:∀g,SQ P (f,d,⟨ps,rs,g⟩)->SQ P (f,d,⟨ps,rs,t g⟩)):SQ P (f,d,⟨ps,rs,NH t⟩):=
 ⟨arN he λg hg=>(h g ⟨hg,hq g⟩).1,hq _⟩
def abg(a b c d:Int)(e:A1)(a' b' c' d':Int)(e':A1):Bool:=U (a=a')&&(U (b=b')&&(U (c=c')&&(U (d=d')&&(U (e=e')&&Y))))
end Go.VS
end
noncomputable section
namespace Go.VS
open Go
inductive CT where
 | int (k:IntKind)
 | bool
 | str
 | sl (k:K)
def kct:K->List CT
 | .int=>[.int .i64]
 | .bool=>[.bool]
 | .u8=>[.int .u8]
 | .str=>[.str]
 | .note=>[.int .i64,.int .i64,.int .i64,.int .i64,.str]
 | .mark=>[.int .i64,.int .i64,.int .i64]
 | .mixed=>[.int .i64,.str]
 | .half=>[.int .i64,.int .i64,.int .i64,.int .i64,.int .i64,.sl .mixed]
 | .keep=>[.int .i64,.int .i64,.int .i64,.sl .note,.sl .mark,.sl .note]
 | .AQ=>[.int .i64,.bool,.str,.int .i64,.sl .half]
 | .Ak=>[.int .i64,.int .i64,.str,.bool]
 | .frame=>[.int .i64,.int .i64,.int .i64,.int .i64,.int .i64,.int .i64,.int .i64,.int .i64,.int .i64,.str]
 | .CM=>[.int .i64,.int .i64,.int .i64,.int .i64,.int .i64,.int .i64,.int .i64,.int .i64,.int .i64,.str]
 | .lk=>[.str,.int .i64,.str]
mutual
def Yz (P:Program):Nat->TypeId->Option (List TypeId)
 | 0,_=>G
 | n+1,t=>match P.underlying t with
  | some (.struct fs)=>(ZA P n 0 fs.toList).bind λts=>match Ag ts.length (P.cellsOf t) with
   | true=>I ts
   | false=>G
  | some (.int _)=>I [t]
  | some .bool=>I [t]
  | some .string=>I [t]
  | some (.slice _)=>I [t]
  | _=>G
def ZA (P:Program):Nat->Nat->List Field->Option (List TypeId)
 | _,_,[]=>I []
 | 0,_,_::_=>G
 | n+1,o,f::fs=>(Yz P n f.type).bind λts=>match Ag f.offset o&&Ag (P.cellsOf f.type) ts.length with
  | true=>(ZA P n (o+ts.length) fs).bind λus=>I<|ts++us
  | false=>G
end
mutual
def T7 (P:Program):Nat->TypeId->CT->Bool
 | 0,_,_=>A0
 | n+1,t,c=>match P.underlying t,c with
  | some (.int k),.int k'=>U (k=k')
  | some .bool,.bool=>Y
  | some .string,.str=>Y
  | some (.slice e),.sl k=>Ag (P.cellsOf e) (ks k)&&ZF P n e k
  | _,_=>A0
def ZF (P:Program):Nat->TypeId->K->Bool
 | 0,_,_=>A0
 | n+1,e,k=>match Yz P 16 e with
  | some ts=>OI P n ts (kct k)
  | none=>A0
def OI (P:Program):Nat->List TypeId->List CT->Bool
 | _,[],[]=>Y
 | n+1,t::ts,c::cs=>T7 P n t c&&OI P n ts cs
 | _,_,_=>A0
end
def wfI(n:Int):Prop:=(N5 .i64 n).wf=Y
def wfY(n:Int):Prop:=(N5 .u8 n).wf=Y
def wfS(s:A1):Prop:=s.size<=maxLen
def wfL{α:Type}(p:α->Prop)(l:List α):Prop:=l.length<=maxLen/\ ∀x∈l,p x
def my(n:A3):Prop:=wfI n.fr/\wfI n.nu/\wfI n.to/\wfI n.un/\wfS n.tx
def aal(n:Mark):Prop:=wfI n.mf/\wfI n.mn/\wfI n.mu
def aEd(n:AN):Prop:=wfI n.nu/\wfS n.da
def aam(n:AE):Prop:=wfI n.fr/\wfI n.nu/\wfI n.to/\wfI n.un/\wfI n.sz/\wfL aEd n.got
def ax4(n:AJ):Prop:=wfI n.id/\wfI n.ti/\wfI n.nx/\wfL my n.held/\wfL aal n.marks/\wfL my n.inbox
def atf(n:A7):Prop:=wfI n.id/\wfS n.log/\wfI n.fo/\wfL aam n.AH
def ate(n:AL):Prop:=wfI n.src/\wfI n.dst/\wfS n.data
def avg(n:Frame):Prop:=wfI n.ki/\wfI n.src/\wfI n.dst/\wfI n.fr/\wfI n.nu/\wfI n.to/\wfI n.un/\wfI n.sz/\wfI n.mix/\wfS n.da
def avh(n:Event):Prop:=wfI n.ki/\wfI n.at_/\wfI n.fr/\wfI n.nu/\wfI n.wo/\wfI n.mix/\wfI n.kp/\wfI n.to/\wfI n.un/\wfS n.tx
def axP(n:LK):Prop:=wfS n.wo/\wfI n.ki/\wfS n.fi
def wfK:(k:K)->Tof k->Prop
 | .int=>wfI
 | .bool=>λ_=>True
 | .u8=>wfY
 | .str=>wfS
 | .note=>my
 | .mark=>aal
 | .mixed=>aEd
 | .half=>aam
 | .keep=>ax4
 | .AQ=>atf
 | .Ak=>ate
 | .frame=>avg
 | .CM=>avh
 | .lk=>axP
def nh(w:World):CT->Value->Prop
 | .int k,c=>∃n,c= .int k n/\(N5 k n).wf=Y
 | .bool,c=>∃b,c= .bool b
 | .str,c=>∃s,c= .string s/\wfS s
 | .sl k,c=>∃xs:List (Tof k),wfL (wfK k) xs/\ ∀β:Beta,(∀b,¬MZ β b)->RC w β (.sl k xs) c
inductive Tz (w:World):List CT->List Value->Prop
 | nil:Tz w [] []
 | cons {t:CT} {c:Value} {ts:List CT} {cs:List Value} (h:nh w t c) (hs:Tz w ts cs):Tz w (t::ts) (c::cs)
section
variable {w:World}
def RL.IK{R:AV->Value->Prop}{c:AV}{v:Value}(h:R c v):RL R [c] [v]:= .cons h .nil
def awQ{k:K}{cs:List Value}(h:Tz w (kct k) cs):∃x:Tof k,wfK k x/\ ∀β:Beta,(∀b,¬MZ β b)->RL (RC w β) (enc k x) cs:=by
 have L:∀ {β:Beta} {v:Value},v.oneCell'=Y->RC w β (.lit v) v:=λh=> .lit h;cases k with
 | int=>
  obtain⟨⟩|⟨⟨a,rfl,ha⟩,h⟩:=h;cases h;exact⟨a,ha,λβ _=> .IK<|L rfl⟩
 | bool=>
  obtain⟨⟩|⟨⟨a,rfl⟩,h⟩:=h;cases h;exact⟨a,trivial,λβ _=> .IK<|L rfl⟩
 | u8=>
  obtain⟨⟩|⟨⟨a,rfl,ha⟩,h⟩:=h;cases h;exact⟨a,ha,λβ _=> .IK<|L rfl⟩
 | str=>
  obtain⟨⟩|⟨⟨a,rfl,ha⟩,h⟩:=h;cases h;exact⟨a,ha,λβ _=> .IK<|L rfl⟩
 | note=>
  obtain⟨⟩|⟨⟨a,rfl,ha⟩,h⟩:=h;obtain⟨⟩|⟨⟨b,rfl,hb⟩,h⟩:=h;obtain⟨⟩|⟨⟨c,rfl,hc⟩,h⟩:=h;obtain⟨⟩|⟨⟨d,rfl,hd⟩,h⟩:=h;obtain⟨⟩|⟨⟨e,rfl,he⟩,h⟩:=h;cases h;exact⟨(⟨a,b,c,d,e⟩:A3),⟨ha,hb,hc,hd,he⟩,λβ _=> .cons (L rfl)<|.cons (L rfl)<|.cons (L rfl)<|.cons (L rfl)<|.IK<|L rfl⟩
 | mark=>
  obtain⟨⟩|⟨⟨a,rfl,ha⟩,h⟩:=h;obtain⟨⟩|⟨⟨b,rfl,hb⟩,h⟩:=h;obtain⟨⟩|⟨⟨c,rfl,hc⟩,h⟩:=h;cases h;exact⟨(⟨a,b,c⟩:Mark),⟨ha,hb,hc⟩,λβ _=> .cons (L rfl)<|.cons (L rfl)<|.IK<|L rfl⟩
 | mixed=>
  obtain⟨⟩|⟨⟨a,rfl,ha⟩,h⟩:=h;obtain⟨⟩|⟨⟨b,rfl,hb⟩,h⟩:=h;cases h;exact⟨(⟨a,b⟩:AN),⟨ha,hb⟩,λβ _=> .cons (L rfl)<|.IK<|L rfl⟩
 | half=>
  obtain⟨⟩|⟨⟨a,rfl,ha⟩,h⟩:=h;obtain⟨⟩|⟨⟨b,rfl,hb⟩,h⟩:=h;obtain⟨⟩|⟨⟨c,rfl,hc⟩,h⟩:=h;obtain⟨⟩|⟨⟨d,rfl,hd⟩,h⟩:=h;obtain⟨⟩|⟨⟨e,rfl,he⟩,h⟩:=h;obtain⟨⟩|⟨⟨xs,hx,hr⟩,h⟩:=h;cases h;exact⟨(⟨a,b,c,d,e,xs⟩:AE),⟨ha,hb,hc,hd,he,hx⟩,λβ hβ=> .cons (L rfl)<|.cons (L rfl)<|.cons (L rfl)<|.cons (L rfl)<|.cons (L rfl)<|.IK<|hr β hβ⟩
 | keep=>
  obtain⟨⟩|⟨⟨a,rfl,ha⟩,h⟩:=h;obtain⟨⟩|⟨⟨b,rfl,hb⟩,h⟩:=h;obtain⟨⟩|⟨⟨c,rfl,hc⟩,h⟩:=h;obtain⟨⟩|⟨⟨xs,hx,hrx⟩,h⟩:=h;obtain⟨⟩|⟨⟨ys,hy,hry⟩,h⟩:=h;obtain⟨⟩|⟨⟨zs,hz,hrz⟩,h⟩:=h;cases h;exact⟨(⟨a,b,c,xs,ys,zs⟩:AJ),⟨ha,hb,hc,hx,hy,hz⟩,λβ hβ=> .cons (L rfl)<|.cons (L rfl)<|.cons (L rfl)<|.cons (hrx β hβ)<|.cons (hry β hβ)<|.IK<|hrz β hβ⟩
 | AQ=>
  obtain⟨⟩|⟨⟨a,rfl,ha⟩,h⟩:=h;obtain⟨⟩|⟨⟨b,rfl⟩,h⟩:=h;obtain⟨⟩|⟨⟨c,rfl,hc⟩,h⟩:=h;obtain⟨⟩|⟨⟨d,rfl,hd⟩,h⟩:=h;obtain⟨⟩|⟨⟨xs,hx,hr⟩,h⟩:=h;cases h;exact⟨(⟨a,b,c,d,xs⟩:A7),⟨ha,hc,hd,hx⟩,λβ hβ=> .cons (L rfl)<|.cons (L rfl)<|.cons (L rfl)<|.cons (L rfl)<|.IK<|hr β hβ⟩
 | Ak=>
  obtain⟨⟩|⟨⟨a,rfl,ha⟩,h⟩:=h;obtain⟨⟩|⟨⟨b,rfl,hb⟩,h⟩:=h;obtain⟨⟩|⟨⟨c,rfl,hc⟩,h⟩:=h;obtain⟨⟩|⟨⟨d,rfl⟩,h⟩:=h;cases h;exact⟨(⟨a,b,c,d⟩:AL),⟨ha,hb,hc⟩,λβ _=> .cons (L rfl)<|.cons (L rfl)<|.cons (L rfl)<|.IK<|L rfl⟩
 | frame=>
  obtain⟨⟩|⟨⟨a,rfl,ha⟩,h⟩:=h;obtain⟨⟩|⟨⟨b,rfl,hb⟩,h⟩:=h;obtain⟨⟩|⟨⟨c,rfl,hc⟩,h⟩:=h;obtain⟨⟩|⟨⟨d,rfl,hd⟩,h⟩:=h;obtain⟨⟩|⟨⟨e,rfl,he⟩,h⟩:=h;obtain⟨⟩|⟨⟨f,rfl,hf⟩,h⟩:=h;obtain⟨⟩|⟨⟨g,rfl,hg⟩,h⟩:=h;obtain⟨⟩|⟨⟨i,rfl,hi⟩,h⟩:=h;obtain⟨⟩|⟨⟨j,rfl,hj⟩,h⟩:=h;obtain⟨⟩|⟨⟨s,rfl,hs⟩,h⟩:=h;cases h;exact⟨(⟨a,b,c,d,e,f,g,i,j,s⟩:Frame),⟨ha,hb,hc,hd,he,hf,hg,hi,hj,hs⟩,λβ _=> .cons (L rfl)<|.cons (L rfl)<|.cons (L rfl)<|.cons (L rfl)<|.cons (L rfl)<|.cons (L rfl)<|.cons (L rfl)<|.cons (L rfl)<|.cons (L rfl)<|.IK<|L rfl⟩
 | CM=>
  obtain⟨⟩|⟨⟨a,rfl,ha⟩,h⟩:=h;obtain⟨⟩|⟨⟨b,rfl,hb⟩,h⟩:=h;obtain⟨⟩|⟨⟨c,rfl,hc⟩,h⟩:=h;obtain⟨⟩|⟨⟨d,rfl,hd⟩,h⟩:=h;obtain⟨⟩|⟨⟨e,rfl,he⟩,h⟩:=h;obtain⟨⟩|⟨⟨f,rfl,hf⟩,h⟩:=h;obtain⟨⟩|⟨⟨g,rfl,hg⟩,h⟩:=h;obtain⟨⟩|⟨⟨i,rfl,hi⟩,h⟩:=h;obtain⟨⟩|⟨⟨j,rfl,hj⟩,h⟩:=h;obtain⟨⟩|⟨⟨s,rfl,hs⟩,h⟩:=h;cases h;exact⟨(⟨a,b,c,d,e,f,g,i,j,s⟩:Event),⟨ha,hb,hc,hd,he,hf,hg,hi,hj,hs⟩,λβ _=> .cons (L rfl)<|.cons (L rfl)<|.cons (L rfl)<|.cons (L rfl)<|.cons (L rfl)<|.cons (L rfl)<|.cons (L rfl)<|.cons (L rfl)<|.cons (L rfl)<|.IK<|L rfl⟩
 | lk=>
  obtain⟨⟩|⟨⟨a,rfl,ha⟩,h⟩:=h;obtain⟨⟩|⟨⟨b,rfl,hb⟩,h⟩:=h;obtain⟨⟩|⟨⟨c,rfl,hc⟩,h⟩:=h;cases h;exact⟨(⟨a,b,c⟩:LK),⟨ha,hb,hc⟩,λβ _=> .cons (L rfl)<|.cons (L rfl)<|.IK<|L rfl⟩
end
end Go.VS
namespace Go.VS
open Go
section
variable {H:Type} {Ej:TypeId×Value->H} {P:Program} {w:World} {base:Nat} {spare:Nat->Bool} {held:Bool}
def Cells(Ej:TypeId×Value->H)(P:Program)(w:World)(base:Nat)(spare:Nat->Bool)(held:Bool):List TypeId->List Value->Prop
 | [],[]=>True
 | t::ts,c::cs=>(∃Bh d ps,Gg Ej P w base spare held Bh t [c]=I (d,ps))/\Cells Ej P w base spare held ts cs
 | _,_=>False
def Cells.append:∀ {ts us:List TypeId} {cs ds:List Value},Cells Ej P w base spare held ts cs->Cells Ej P w base spare held us ds->Cells Ej P w base spare held (ts++us) (cs++ds)
 | [],_,[],_,_,h=>h
 | t::ts,_,c::cs,_,h,k=>⟨h.1,Cells.append h.2 k⟩
 | [],_,_::_,_,h,_=>h.elim
 | _::_,_,[],_,h,_=>h.elim
def X0{α β:Type}{f:α->Option β}:∀ {l:List α} {r:List β},l.mapM f=I r->∀x∈l,∃y,f x=I y
 | [],_,_,_,hx=>by cases hx
 | a::l,r,h,x,hx=>by
  rw[TN]at h;obtain⟨y,h1,h⟩:=Ah.1 h;obtain⟨ys,h2,h⟩:=Ah.1 h;obtain rfl|hx:=Bl.1 hx
  .exact⟨y,h1⟩
  .exact X0 h2 x hx
def aB1{Bh:Nat}{t:TypeId}{k:IntKind}{cs:List Value}{r:DataW H×List MemPlace}(ht:P.underlying t=I (.int k))(h:Gg Ej P w base spare held Bh t cs=I r):∃n,cs=[.int k n]/\(N5 k n).wf=Y:=by
 cases Bh with
 | zero=>cases h
 | succ Bh=>
  unfold Gg at h;rw[ht]at h;split at h<;>first|(cases h;done)|skip
  all_goals (rename_i heq;cases heq)
  rename_i k' n;split at h
  .rename_i hc;obtain⟨rfl,hw⟩:=hc;exact⟨_,rfl,hw⟩
  .cases h
def aAa{Bh:Nat}{t:TypeId}{cs:List Value}{r:DataW H×List MemPlace}(ht:P.underlying t=I .bool)(h:Gg Ej P w base spare held Bh t cs=I r):∃b,cs=[.bool b]:=by
 cases Bh with
 | zero=>cases h
 | succ Bh=>
  unfold Gg at h;rw[ht]at h;split at h<;>first|(cases h;done)|skip
  all_goals (rename_i heq;cases heq)
  exact⟨_,rfl⟩
def zZ{Bh:Nat}{t:TypeId}{cs:List Value}{r:DataW H×List MemPlace}(ht:P.underlying t=I .string)(h:Gg Ej P w base spare held Bh t cs=I r):∃s,cs=[.string s]/\wfS s:=by
 cases Bh with
 | zero=>cases h
 | succ Bh=>
  unfold Gg at h;rw[ht]at h;split at h<;>first|(cases h;done)|skip
  all_goals (rename_i heq;cases heq)
  split at h
  .rename_i hc;exact⟨_,rfl,hc⟩
  .cases h
def aA6{Bh:Nat}{t e:TypeId}{cs:List Value}{r:DataW H×List MemPlace}(ht:P.underlying t=I (.slice e))(h:Gg Ej P w base spare held Bh t cs=I r):
  cs=[.slice G 0 0]\/ ∃a len cap,cs=[.slice (I a) len cap]/\len<=cap/\cap<=maxLen/\ ∀i,i<len->∃es Tx r',w.cells? base (a.add<|i * P.cellsOf e) (P.cellsOf e)=I es/\Gg Ej P w base spare held Tx e es=I r':=by
 cases Bh with
 | zero=>cases h
 | succ Bh=>
  unfold Gg at h;rw[ht]at h;split at h<;>first|(cases h;done)|skip
  all_goals (rename_i heq;cases heq)
  .exact .inl rfl
  .rename_i a len cap;refine .inr ⟨a,len,cap,rfl, ?_⟩;simp only at h;split at h
   .rename_i hc;refine⟨hc.2.1,hc.2.2,λi hi=> ?_⟩;obtain⟨azv,h1,_⟩:=Ah.1 h;obtain⟨y,hy⟩:=X0 h1 i<|Cu.2 hi;obtain⟨es,k1,k2⟩:=Ah.1 hy;exact⟨es,Bh,y,k1,k2⟩
   .cases h
def an6{Bh:Nat}{t:TypeId}{fs:Array Field}{cs:List Value}{r:DataW H×List MemPlace}(ht:P.underlying t=I (.struct fs))(h:Gg Ej P w base spare held Bh t cs=I r):
  cs.length=P.cellsOf t/\ ∀f∈fs.toList,∃Tx r',Gg Ej P w base spare held Tx f.type ((cs.drop f.offset).take<|P.cellsOf f.type)=I r':=by
 cases Bh with
 | zero=>cases h
 | succ Bh=>
  simp only[Gg,ht]at h;split at h
  .rename_i hc;obtain⟨xs,h1,_⟩:=D6.1 h;refine⟨hc,λf hf=> ?_⟩;obtain⟨y,hy⟩:=X0 h1 f hf;exact⟨Bh,y,hy⟩
  .cases h
mutual
theorem aAk:∀(n:Nat) (t:TypeId) {ts:List TypeId} {Bh:Nat} {cs:List Value} {r:DataW H×List MemPlace},Yz P n t=I ts->Gg Ej P w base spare held Bh t cs=I r->Cells Ej P w base spare held ts cs
 | 0,_,_,_,_,_,h,_=>by cases h
 | n+1,t,ts,Bh,cs,r,h,hr=>by
  unfold Yz at h;split at h
  .rename_i fs ht;obtain⟨us,h1,h⟩:=Ah.1 h;split at h
   case h_2=>cases h
   rename_i hl;cases h;obtain⟨k1,k2⟩:=an6 ht hr;have hl:=Bm hl;have:=aAA n 0 fs.toList h1 (cs:=cs) (by simp[k1,hl]) (λf hf=>k2 f hf);simpa using this
  .rename_i k ht;cases h;obtain⟨x,rfl,_⟩:=aB1 ht hr;exact⟨⟨_,r.1,r.2,hr⟩,trivial⟩
  .rename_i ht;cases h;obtain⟨x,rfl⟩:=aAa ht hr;exact⟨⟨_,r.1,r.2,hr⟩,trivial⟩
  .rename_i ht;cases h;obtain⟨x,rfl,_⟩:=zZ ht hr;exact⟨⟨_,r.1,r.2,hr⟩,trivial⟩
  .rename_i e ht;cases h;obtain rfl|⟨a,len,cap,rfl,_⟩:=aA6 ht hr
   .exact⟨⟨_,r.1,r.2,hr⟩,trivial⟩
   .exact⟨⟨_,r.1,r.2,hr⟩,trivial⟩
  .cases h
theorem aAA:∀(n o:Nat) (fs:List Field) {ts:List TypeId} {cs:List Value},ZA P n o fs=I ts->cs.length=o+ts.length->(∀f∈fs,∃Bh r,Gg Ej P w base spare held Bh f.type ((cs.drop f.offset).take<|P.cellsOf f.type)=I r)->
  Cells Ej P w base spare held ts (cs.drop o)
 | n,o,[],ts,cs,h,hl,_=>by
  have h:I []=I ts:=by cases n<;>exact h
  cases h;have:cs.drop o=[]:=M0 (by simp at hl;omega);rw[this];trivial
 | 0,_,_::_,_,_,h,_,_=>by cases h
 | n+1,o,f::fs,ts,cs,h,hl,hf=>by
  unfold ZA at h;obtain⟨us,h1,h⟩:=Ah.1 h;split at h
  case h_2=>cases h
  rename_i hc;simp only[AD]at hc;obtain⟨vs,h2,h⟩:=Ah.1 h;cases h;obtain⟨Bh,r,hr⟩:=hf f An;rw[Bm hc.1,Bm hc.2]at hr;have k1:=aAk n f.type h1 hr;have k2:=aAA n (o+us.length) fs h2 (cs:=cs) (by simp at hl ⊢; omega) (λg hg=>hf g<|Ai _ hg);have e:cs.drop o=(cs.drop o).take us.length++cs.drop (o+us.length):=by
   rw[← Iq];exact(JK _ _).symm
  rw[e];exact k1.append k2
end
def aEb(b f n:Nat):(⟨b,f,G⟩:Addr).add n=⟨b,f+n,G⟩:=by
 unfold Addr.add;split
 .rename_i h;subst h;rfl
 .rfl
def aum{b f n:Nat}{es:List Value}(h:w.cells? base ⟨b,f,G⟩ n=I es):es.length=n/\ ∀j,j<n->w.cell? ⟨b,f+j,G⟩=I (es.getD j undef):=by
 unfold World.cells? at h;split at h
 case isFalse=>cases h
 have gen:∀(l:List Nat) {es:List Value},l.mapM (λi=>w.cell?<|(⟨b,f,G⟩:Addr).add i)=I es->es.length=l.length/\ ∀j x,l[j]? =I x->w.cell? ⟨b,f+x,G⟩=I (es.getD j undef):=by
  intro l
  induction l with
  | nil=>intro es h;cases h;exact⟨rfl,λj x hx=>by simp at hx⟩
  | cons a l ih=>
   intro es h;rw[TN]at h;obtain⟨y,h1,h⟩:=Ah.1 h;obtain⟨ys,h2,h⟩:=Ah.1 h;cases h;obtain⟨k1,k2⟩:=ih h2;refine⟨by simp[k1],λj x hx=> ?_⟩;cases j with
   | zero=>
    simp at hx;subst hx;rw[aEb]at h1;simpa using h1
   | succ j=>simpa using k2 j x<|by simpa using hx
 obtain⟨k1,k2⟩:=gen _ h;exact⟨by simpa using k1,λj hj=>k2 j j<|by simp[hj]⟩
mutual
theorem aCR:∀(n:Nat) (t:TypeId) (c:CT) {v:Value},T7 P n t c=Y->(∃Bh d ps,Gg Ej P w base spare held Bh t [v]=I (d,ps))->nh w c v
 | 0,_,_,_,h,_=>by simp[T7]at h
 | n+1,t,c,v,h,⟨Bh,d,ps,hr⟩=>by
  unfold T7 at h;split at h
  .rename_i k k' ht;simp at h;subst h;obtain⟨x,e,hw⟩:=aB1 ht hr;cases e;exact⟨x,rfl,hw⟩
  .rename_i ht;obtain⟨x,e⟩:=aAa ht hr;cases e;exact⟨x,rfl⟩
  .rename_i ht;obtain⟨x,e,hw⟩:=zZ ht hr;cases e;exact⟨x,rfl,hw⟩
  .rename_i e k ht;simp only[AD]at h;have hsz:=Bm h.1;obtain e|⟨a,len,cap,e,hlc,hcm,hel⟩:=aA6 ht hr
   .cases e;exact⟨[],⟨D1 _,by simp⟩,λβ _=> .nil⟩
   .cases e;rw[hsz]at hel;have hch:∀i:Nat,∃p:Tof k×List Value,i<len->wfK k p.1/\w.cells? base (a.add<|i * ks k) (ks k)=I p.2/\ ∀β:Beta,(∀b,¬MZ β b)->RL (RC w β) (enc k p.1) p.2:=by
     intro i;by_cases hi:i<len
     .obtain⟨es,Tx,r',k1,k2⟩:=hel i hi;obtain⟨x,k3,k4⟩:=asV n _ k h.2 (Bh:=Tx) (r:=r') k2;exact⟨(x,es),λ_=>⟨k3,k1,k4⟩⟩
     .exact⟨(dfl k,[]),λh=>absurd h hi⟩
    obtain⟨X,hX⟩:=Classical.axiomOfChoice hch;refine⟨(B7 len).map λi=>(X i).1,⟨by simp;omega,λx hx=> ?_⟩,λβ hβ=> ?_⟩
    .obtain⟨i,hi,rfl⟩:=Bu.1 hx;exact(hX i<|Cu.1 hi).1
    .cases len with
     | zero=>exact .nil
     | succ len=>
      obtain⟨b,f,sp⟩:=a;have h0:=(hX 0 J).2.1;have hsp:sp=G:=by
       rw[TW]at h0;unfold World.cells? at h0;split at h0
       case isFalse=>cases h0
       obtain⟨y,hy⟩:=X0 h0 0<|Cu.2<|Hz k;unfold M1 at hy;split at hy
       .split at hy
        .cases hy
        .rename_i hn;cases sp with
         | none=>rfl
         | some x=>exact absurd rfl hn
       .cases hy
      subst hsp;have Cl:∀i j,i<len+1->j<ks k->w.cell? ⟨b,f+(i * ks k+j),G⟩=I ((X i).2.getD j undef):=λi j hi hj=>by
       have h1:=(hX i hi).2.1;rw[aEb]at h1;have:=(aum h1).2 j hj;rw[← D8];exact this
      refine .sl (λi j=>(X i).2.getD j undef) ⟨by simp,hlc⟩ (hβ b) (λi j hi hj=>Cl i j (by simpa using hi) hj) (λi x j c hx hc=> ?_);have hi:i<len+1:=by have:=(BO.1 hx).1;simpa using this
      have hx':x=(X i).1:=by
       rw[D7,Gj hi]at hx;exact(Eh hx).symm
      subst hx';have hj:j<ks k:=by rw[← EK k (X i).1];exact(BO.1 hc).1
      have hR:=(hX i hi).2.2 β hβ;have hlen:(X i).2.length=ks k:=by rw[hR.1,EK]
      exact hR.2 j c _ hc (by simp[hlen,hj])
  .cases h
theorem asV:∀(n:Nat) (e:TypeId) (k:K) {Bh:Nat} {cs:List Value} {r:DataW H×List MemPlace},ZF P n e k=Y->Gg Ej P w base spare held Bh e cs=I r->∃x:Tof k,wfK k x/\ ∀β:Beta,(∀b,¬MZ β b)->RL (RC w β) (enc k x) cs
 | 0,_,_,_,_,_,h,_=>by simp[ZF]at h
 | n+1,e,k,Bh,cs,r,h,hr=>by
  unfold ZF at h;split at h
  .rename_i ts hts;exact awQ (aAU n ts (kct k) h<|aAk 16 e hts hr)
  .cases h
theorem aAU:∀(n:Nat) (ts:List TypeId) (ks:List CT) {cs:List Value},OI P n ts ks=Y->Cells Ej P w base spare held ts cs->Tz w ks cs
 | n,[],[],[],_,_=> .nil
 | n,[],[],_::_,_,h=>h.elim
 | n+1,t::ts,c::ks,v::cs,h,hc=>by
  simp only[OI,AD]at h;exact .cons (aCR n t c h.1 hc.1)<|aAU n ts ks h.2 hc.2
 | 0,_::_,_,_,h,_=>by simp[OI]at h
 | n+1,_::_,[],_,h,_=>by simp[OI]at h
 | n,[],_::_,_,h,_=>by cases n<;>simp[OI]at h
 | n+1,_::_,_::_,[],_,hc=>hc.elim
end
end
end Go.VS
end
noncomputable section
namespace Go.VS
open Go
def nb:Sh->Option CT
 | .int k=>I (.int k)
 | .bool=>I .bool
 | .str=>I .str
 | .fz k=>I (.sl k)
 | _=>G
def Za:(h:Sh)->LT h->Prop
 | .int k,n=>(N5 k n).wf=Y
 | .bool,_=>True
 | .str,s=>wfS s
 | .fz k,xs=>wfL (wfK k) xs
 | _,_=>False
section
variable {P:Program} {w:World}
def asm{h:Sh}{t:CT}{v:Value}(hs:nb h=I t)(hf:nh w t v):∃x:LT h,Za h x/\ ∀(M:Nat->Prop) (e:Nat->Value),(∀b,¬M b)->Rel P w M e h x v []:=by
 cases h<;>simp only[nb]at hs<;>first|(cases hs;done)|skip
 case int k=>
  cases hs;obtain⟨n,rfl,hw⟩:=hf;exact⟨n,hw,λM e _=>⟨rfl,rfl⟩⟩
 case bool=>
  cases hs;obtain⟨n,rfl⟩:=hf;exact⟨n,trivial,λM e _=>⟨rfl,rfl⟩⟩
 case str=>
  cases hs;obtain⟨n,rfl,hw⟩:=hf;exact⟨n,hw,λM e _=>⟨rfl,rfl⟩⟩
 case fz k=>
  cases hs;obtain⟨xs,hw,hr⟩:=hf;exact⟨xs,hw,λM e hM=>⟨λβ hβ=>hr β λb hb=>hM b<|hβ b hb,rfl⟩⟩
def aso{f:FuncId}{ps:List Sh}{g:LTs ps->Option (LTs [.bool]×LTs (B1 ps))}(hS:H4 P f ⟨ps,[.bool],g⟩){x:LTs ps}{q:LTs (B1 ps)}(hx:g x=I ((Y,()),q)){args:List Value}
  (JV:∀(M:Nat->Prop) (e:Nat->Value),(∀b,¬M b)->Ch P w M e ps x args [])(hgl:NK P w (λ_=>False)):Calls P f args.toArray w λe w'=>e= .returned (.bool Y)/\Go.RowKit.Below w.heap.size w w':=by
 refine M4 (hS.2 x _ hx w (λ_=>False) args [] (JV _ _ λb h=>by simp[Ay]at h) (by simp[Ay]) (λb h=>by simp[Ay]at h) (λb h=>h.elim)<|by simpa[Ay] using hgl) ?_;rintro en w' ⟨v,rfl,hr⟩;obtain⟨vs,os1,os2,rfl,h1,_⟩:=hr.ex;obtain⟨u,us,o1,o2,rfl,_,h2,h3⟩:=h1;obtain⟨rfl,_⟩:=h3;obtain⟨rfl,_⟩:=h2;exact⟨rfl,hr.wos,hr.tape,hr.output,hr.size,λb hb=>hr.block b hb<|by simp[Ay]⟩
end
end Go.VS
end
noncomputable section
namespace Go.VS
open Go
variable {P:Program} {f:FuncId}
def kM{w:World}{O:Nat->Prop}{gm:Nat}(hgl:NK P w O)(hg:gm<P.globals.size)(hsh:∀w:World,w.ShapedOpen P->∃m,w.cell? ⟨gm,0,G⟩=I (.int .i64 m)):∃m,w.cell? ⟨gm,0,G⟩=I (.int .i64 m):=by
 obtain⟨w0,h1,h2⟩:=hgl;obtain⟨m,hm⟩:=hsh w0 h1.1;refine⟨m, ?_⟩;rw[← hm];unfold M1;rw[(h2 gm hg).2.2]
def atl{w:World}{O:Nat->Prop}(hgl:NK P w O){gt:Nat}(hn:P.globalNamed "internal/strconv.uint64pow10" =I gt)(hg:gt<P.globals.size):M3 P w "internal/strconv.uint64pow10" .u64 N4:=by
 obtain⟨w0,h1,h2⟩:=hgl;have h:=h1.2 (by rw[hn];simp);unfold M3 World.var? at h ⊢;rw[hn]at h ⊢;simp only[A6]at h ⊢;rw[(h2 gt hg).2.2];exact h
def Th(x:Int×D):Option ((A1×D)×D):=if -9223372036854775808<=x.1/\x.1<=9223372036854775807 then I ((⟨(B3 x.1).toArray⟩,()),()) else G
def P0(x:A1×A1×D):Option ((A1×A1×Bool×D)×D):=
 if x.1.size<4294967281 then I ((⟨(FQ x.1.data.toList x.2.1.data.toList).1.toArray⟩,⟨(FQ x.1.data.toList x.2.1.data.toList).2.1.toArray⟩,(FQ x.1.data.toList x.2.1.data.toList).2.2,()),()) else G
def T8(x:A1×A1×D):Option ((List A1×D)×D):=
 if x.1.size<4294967281/\1<=x.2.1.size then I ((Ip x.2.1 0 (N3 x.1 x.2.1) x.1,()),()) else G
def Sk(x:A1×A1×Int×D):Option ((List A1×D)×D):=
 if x.1.size<4294967281/\1<=x.2.1.size/\1<=x.2.2.1/\x.2.2.1<=9223372036854775807 then I ((Ip x.2.1 0 (min x.2.2.1.toNat (x.1.size+1) - 1) x.1,()),()) else G
def aqq(he:Li P f)(hn:(P.globalNamed "internal/strconv.uint64pow10").map (λg=>U<|g<P.globals.size)=I Y)
  (hc:∀(n:Int) (h0: -9223372036854775808<=n) (h1:n<=9223372036854775807) (w:World) (aG:M3 P w "internal/strconv.uint64pow10" .u64 N4),
   Calls P f #[.int .i64 n] w λe w'=>e= .returned (.string ⟨(B3 n).toArray⟩)/\ ∃k os,w'=Yb (w.drewN k) os):H4 P f ⟨[.int .i64],[.str],Th⟩:=by
 obtain⟨gt,hn,hg⟩:=D6.1 hn;have hg:=Bd hg;refine⟨he,λx r hx w Z args os hr hnd hbl hZ hgl=> ?_⟩;simp only[Th]at hx;split at hx
 case isFalse=>cases hx
 rename_i hb;cases hx;obtain⟨u,us,o1,o2,rfl,rfl,⟨rfl,rfl⟩,rfl,rfl⟩:=hr;refine M4 (hc x.1 hb.1 hb.2 w<|atl hgl hn hg) ?_;rintro e w' ⟨rfl,k,os,rfl⟩;exact⟨_,rfl,⟨⟨[.string _],[],[],rfl,⟨_,_,[],[],rfl,rfl,⟨rfl,rfl⟩,rfl,rfl⟩,⟨rfl,rfl⟩,by simp[Ay],by simp[Ay]⟩,rfl,rfl,rfl,by simp[Yb,lm],λb hb _=>by simp[Yb,lm,Lt hb],Pk.old λb hb=>by simp[Yb,lm,Lt hb]⟩⟩
def asZ(he:Li P f){gm:Nat}(hg:gm<P.globals.size)(hsh:∀w:World,w.ShapedOpen P->∃m,w.cell? ⟨gm,0,G⟩=I (.int .i64 m))
  (hc:∀(s sep:A1) (m:Int) (w:World) (hs:s.size<4294967281) (hm:w.cell? ⟨gm,0,G⟩=I (.int .i64 m)),
   Calls P f #[.string s,.string sep] w λe w'=>e= .returned (.tuple #[.string ⟨(FQ s.data.toList sep.data.toList).1.toArray⟩,.string ⟨(FQ s.data.toList sep.data.toList).2.1.toArray⟩,.bool (FQ s.data.toList sep.data.toList).2.2])/\ ∃n,w'=w.drewN n):
  H4 P f ⟨[.str,.str],[.str,.str,.bool],P0⟩:=by
 refine⟨he,λx r hx w Z args os hr hnd hbl hZ hgl=> ?_⟩;simp only[P0]at hx;split at hx
 case isFalse=>cases hx
 rename_i hb;cases hx;obtain⟨u,us,o1,o2,rfl,rfl,⟨rfl,rfl⟩,v,vs,p1,p2,rfl,rfl,⟨rfl,rfl⟩,rfl,rfl⟩:=hr;obtain⟨m,hm⟩:=kM hgl hg hsh;refine M4 (hc x.1 x.2.1 m w hb hm) ?_;rintro e w' ⟨rfl,k,rfl⟩;exact⟨_,rfl,⟨⟨[_,_,_],[],[],rfl,⟨_,_,[],[],rfl,rfl,⟨rfl,rfl⟩,_,_,[],[],rfl,rfl,⟨rfl,rfl⟩,_,_,[],[],rfl,rfl,⟨rfl,rfl⟩,rfl,rfl⟩,⟨rfl,rfl⟩,by simp[Ay],by simp[Ay]⟩,rfl,rfl,rfl,Ar _,λb hb _=>rfl,Pk.old λb hb=>rfl⟩⟩
def aaG{w:World}{Z:Nat->Prop}{args:List Value}{e:TypeId}{xs:List A1}{cap:Nat}{cs:Array Value}(Hj:xs.length<=cap)(hm:cap<=maxLen)(hsz:cs.size=cap)(hcs:∀(i:Nat) (s:A1),xs[i]? =I s->cs[i]? =I (Yl s)){ps:List Sh}
  {r2:LTs (B1 ps)}{g:LTs ps->Option (LTs [.row e .str]×LTs (B1 ps))}(hb:∀w' M,Ch P w' M (ar args) (B1 ps) r2 (Ji ps args) []):
  Ret P ⟨ps,[.row e .str],g⟩ Z args [] w ((xs,()),r2) (.slice (I ⟨w.heap.size,0,G⟩) xs.length cap) (w.alloc<|.cells cs e):=by
 have hat:(w.alloc<|.cells cs e).heap[w.heap.size]? =I (.cells cs e (0,0)):=heap_alloc_new w _;have azz:(w.alloc<|.cells cs e).heap.size=w.heap.size+1:=World.size_alloc _ _;refine⟨⟨[_],[(.slice (I ⟨w.heap.size,0,G⟩) xs.length cap,xs.length)],[],rfl,⟨_,_,[_],[],rfl,rfl,⟨rfl,rfl,λβ _=> .inr ⟨w.heap.size,0,cap,cs,(0,0),rfl,hat,rfl,Hj,hm,by simp[ks,hsz], ?_⟩⟩,rfl,rfl⟩,hb _ _,by simp[Ay,HM,adr], ?_⟩,rfl,rfl,rfl,J,λb hb _=>heap_alloc_old w _ hb,Pk.old λb hb=>heap_alloc_old w _ hb⟩
 .intro i x j c u h1 h2 h3;cases j with
  | zero=>
   simp[enc]at h2;subst h2;rw[show(0:Nat)+(i * ks .str+0)=i by simp[ks],hcs i x h1]at h3;cases h3;exact RC.lit rfl
  | succ j=>simp[enc]at h2
 .intro b hb;simp[Ay,HM,adr]at hb;subst hb;exact⟨.inr (Ar _),J⟩
def apa(he:Li P f){gm:Nat}{e:TypeId}(hg:gm<P.globals.size)(hsh:∀w:World,w.ShapedOpen P->∃m,w.cell? ⟨gm,0,G⟩=I (.int .i64 m))
  (hc:∀(s sep:A1) (m:Int) (w:World) (hs:s.size<4294967281) (hm:w.cell? ⟨gm,0,G⟩=I (.int .i64 m)) (h1:1<=sep.size),
   Calls P f #[.string s,.string sep] w λen w'=>en= .returned (.slice (I ⟨w.heap.size,0,G⟩) (N3 s sep+1)<|N3 s sep+1)/\w'=w.alloc (.cells ((Ip sep 0 (N3 s sep) s).map Yl).toArray e)):
  H4 P f ⟨[.str,.str],[.row e .str],T8⟩:=by
 refine⟨he,λx r hx w Z args os hr hnd hbl hZ hgl=> ?_⟩;simp only[T8]at hx;split at hx
 case isFalse=>cases hx
 rename_i hb;cases hx;obtain⟨u,us,o1,o2,rfl,rfl,⟨rfl,rfl⟩,v,vs,p1,p2,rfl,rfl,⟨rfl,rfl⟩,rfl,rfl⟩:=hr;obtain⟨m,hm⟩:=kM hgl hg hsh;have hl:=Lib.splitB_all x.2.1 hb.2 0 _ x.1 rfl;have hle:=Lib.countB_le x.2.1 hb.2 x.1.size x.1<|Ar _;refine M4 (hc x.1 x.2.1 m w hb.1 hm hb.2) ?_;rintro en w' ⟨rfl,rfl⟩;refine⟨_,rfl, ?_⟩;rw[← hl];exact aaG (Ar _) (by rw[hl];simp[maxLen];omega) aE4 (λi s h=>by simp[h]) λ_ _=>⟨rfl,rfl⟩
def ap3(he:Li P f){gm:Nat}{e:TypeId}(hg:gm<P.globals.size)(hsh:∀w:World,w.ShapedOpen P->∃m,w.cell? ⟨gm,0,G⟩=I (.int .i64 m))
  (hc:∀(s sep:A1) (n:Nat) (m:Int) (w:World) (hs:s.size<4294967281) (hm:w.cell? ⟨gm,0,G⟩=I (.int .i64 m)) (h1:1<=sep.size) (hn:1<=n) (acT:n<=9223372036854775807),
   Calls P f #[.string s,.string sep,.int .i64 n] w λen w'=>en= .returned (.slice (I ⟨w.heap.size,0,G⟩) (Ip sep 0 (min n (s.size+1) - 1) s).length<|min n<|s.size+1)/\w'=w.alloc (.cells (Yp (Ip sep 0 (min n (s.size+1) - 1) s)<|min n<|s.size+1) e)):
  H4 P f ⟨[.str,.str,.int .i64],[.row e .str],Sk⟩:=by
 refine⟨he,λx r hx w Z args os hr hnd hbl hZ hgl=> ?_⟩;simp only[Sk]at hx;split at hx
 case isFalse=>cases hx
 rename_i hb;cases hx;obtain⟨u,us,o1,o2,rfl,rfl,⟨rfl,rfl⟩,v,vs,p1,p2,rfl,rfl,⟨rfl,rfl⟩,y,ys,q1,q2,rfl,rfl,⟨rfl,rfl⟩,rfl,rfl⟩:=hr;obtain⟨m,hm⟩:=kM hgl hg hsh;have hl:=Lib.splitB_length_le x.2.1 0 (min x.2.2.1.toNat (x.1.size+1) - 1) x.1;have hn:((x.2.2.1.toNat:Nat):Int)=x.2.2.1:=lX J;have hc':=hc x.1 x.2.1 x.2.2.1.toNat m w hb.1 hm hb.2.1 J J;rw[hn]at hc';refine M4 hc' ?_;rintro en w' ⟨rfl,rfl⟩;refine⟨_,rfl, ?_⟩;exact aaG J (by simp[maxLen];omega) (Lib.cellsOf_size J) (λi s h=>by
  have hi:=(BO.1 h).1;rw[Yp,TD,IE<|by simpa using hi,D7,h];rfl) (λ_ _=>⟨rfl,rfl⟩)
end Go.VS
end
noncomputable section
namespace Go.VS
open Go
section
variable {P:Program} {W:World}
def nY(P:Program)(name:String)(k:IntKind):Bool:=
 match P.globalNamed name with
 | some g=>match (P.globals[g]?).map (·.type) with
  | some t=>match P.underlying t with
   | some (.array n e)=>(match P.underlying e with|some (.int k')=>U (k'=k)|_=>A0)&&U (P.cellsOf e=1)&&U (P.cellsOf t=n)
   | _=>A0
  | _=>A0
 | _=>A0
def apW{name:String}{k:IntKind}{zs:List Int}(h:nY P name k=Y)(hl:laidMet P [(name,Lib.tabData k zs)] W):M3 P W name k zs:=by
 unfold nY at h;split at h
 case h_2=>cases h
 rename_i g hg;split at h
 case h_2=>cases h
 rename_i t ht;split at h
 case h_2=>cases h
 rename_i n e hu;simp only[AD,decide_eq_true_eq]at h;obtain⟨⟨h1,h2⟩,h3⟩:=h;split at h1
 case h_2=>cases h1
 rename_i k' hk;have h1:=Bd h1;subst h1;exact Lib.tabIs_of_head hg ht hu hk h2 h3 hl
def Tj:String:= "internal/strconv.uint64pow10"
def aqz{laid:List (String×DataW D)}(hsh:W.ShapedOpen P)(azX:IG P.globals.size (begin P (λ_ _=>0) default).world.heap.size=Y)(abz:laidMetH P laid W)
  (ayA:(laid.all λx=>x.2.handleName?.isNone)=Y)
  (aG:P.globalNamed Tj≠G->(laid.filter λx=>x.1 == Tj)=[(Tj,Lib.tabData .u64 N4)]/\nY P Tj .u64=Y):NK P W (λ_=>False):=by
 have hlt:P.globals.size<W.heap.size:=by
  obtain⟨o,o0,h1,_⟩:=hsh.2 P.globals.size (Ar _) (by simpa[Oq] using azX);exact(HC.1 h1).1
 refine⟨W,⟨hsh,λhn=> ?_⟩,λb hb=>⟨id,J,rfl⟩⟩;obtain⟨h1,h2⟩:=aG hn;rw[lV _ _ _ ayA]at abz;have h3:=laidMet.filter (λx=>x.1 == Tj) abz;rw[h1]at h3;exact apW h2 h3
end
end Go.VS
namespace Go.VS
open Go
def axT:Oper:={ dst:=G,op:= .move<|.const<|.bool A0,type:=0,pos:= "",after:= #[],guard:=G }
def nZ(zs:List Nat)(e:Edge):Option Edge:=(zs.idxOf? e.on).map λj=>{ e with on:=j }
def Qn(zs:List Nat)(o:Oper):Oper:={ o with after:=(o.after.toList.filterMap<|nZ zs).toArray }
def FK(ops:Array Oper)(zs:List Nat):Array Oper:=(zs.map λi=>Qn zs<|(ops[i]?).getD axT).toArray
def aro{ops:Array Oper}{zs:List Nat}{j i:Nat}{o:Oper}(hz:zs[j]? =I i)(ho:ops[i]? =I o):(FK ops zs)[j]? =I (Qn zs o):=by
 simp[FK,hz,ho]
def iv(ops:Array Oper)(zs:List Nat):(FK ops zs).size=zs.length:=by simp[FK]
def at6{zs:List Nat}{o:Oper}{e:Edge}(h:e∈(Qn zs o).after):∃e0∈o.after,Fh .any e0=Fh .any e/\zs[e.on]? =I e0.on:=by
 have h:e∈o.after.toList.filterMap (nZ zs):=by simpa[Qn] using h
 obtain⟨e0,h0,h1⟩:=GO.1 h;unfold nZ at h1;obtain⟨j,h2,h3⟩:=D6.1 h1;refine⟨e0,by simpa using h0,by rw[← h3];rfl, ?_⟩;rw[← h3];obtain⟨hlt,h4,_⟩:=List.idxOf?_eq_some_iff.1 h2;show zs[j]? =I e0.on;rw[Av hlt];simpa using h4
section
variable {P:Program} {ops:Array Oper} {Q:Exit->Act->World->Prop}
def ar5(Good:(Nat->Prop)->Act->World->Prop)(azi:∀(i:Nat) (o:Oper) (e:Edge),ops[i]? =I o->e∈o.after->Fh .any e=Y->e.on<i)
  (oQ:∀(B4:Nat->Prop) a w,(∀i,¬B4 i)->Good B4 a w->Q .normal a w)
  (o6:∀(B4:Nat->Prop) (i:Nat) (a:Act) (w:World) (o:Oper),Good B4 a w->(∀j,B4 j->j<ops.size)->(∀j oj,ops[j]? =I oj->¬B4 j->∀e∈oj.after,Fh .any e=Y->¬B4 e.on)->B4 i->ops[i]? =I o->
   (∀e∈o.after,Fh .any e=Y->¬B4 e.on)->wpOp P ops Q i (λa w=>Good (λk=>B4 k/\k≠i) a w) a w):
  ∀(n:Nat) (Ba:List Nat) (listed:Array Bool) (a:Act) (w:World),Ba.length=n->Ba.Nodup->(∀j,j∈Ba↔j<ops.size/\listed.getD j Y=A0)->listed.size=ops.size->
   (∀j oj,ops[j]? =I oj->j ∉ Ba->∀e∈oj.after,Fh .any e=Y->e.on ∉ Ba)->Good (λk=>k∈Ba) a w->wpAny P .any ops Q n listed a w:=by
 intro n
 induction n with
 | zero=>
  intro Ba listed a w hl hnd hU hs hcl hg;have:Ba=[]:=Dw hl;subst this;refine⟨?_,oQ _ a w (λi h=>by cases h) hg⟩;cases hrd:Oo .any ops listed with
  | nil=>rfl
  | cons j l=>
   have hj:j∈Oo .any ops listed:=by rw[hrd];exact An
   obtain⟨h1,o,ho,_⟩:=mem_ready.1 hj;have:=(hU j).2 ⟨(HC.1 ho).1,h1⟩;cases this
 | succ n ih=>
  intro Ba listed a w hl hnd hU hs hcl hg;have done:∀x,x<ops.size->x ∉ Ba->listed.getD x A0=Y:=λx hx hn=>by
   refine sv J ?_;cases hb':listed.getD x Y with
   | true=>rfl
   | false=>exact absurd ((hU x).2 ⟨hx,hb'⟩) hn
  refine⟨λoL=> ?_,λi hi=> ?_⟩
  .exfalso;obtain⟨i0,h0,oM⟩:=jW (λk=>k∈Ba) (by
    cases Ba with
    | nil=>simp at hl
    | cons x l=>exact⟨x,An⟩)
   obtain⟨hlt,hun⟩:=(hU i0).1 h0;obtain⟨o,ho⟩:∃o,ops[i0]? =I o:=⟨ops[i0],by simp[hlt]⟩;have hr0:i0∈Oo .any ops listed:=mem_ready.2 ⟨hun,o,ho,λe he hb=>by
    have aO:=azi i0 o e ho he hb;exact done e.on J λhm=>by have:=oM _ hm;omega⟩
   rw[oL]at hr0;cases hr0
  .obtain⟨hun,oi,hoi,It⟩:=mem_ready.1 hi;have hlt:i<ops.size:=(HC.1 hoi).1;have hiU:i∈Ba:=(hU i).2 ⟨hlt,hun⟩;have KC:∀e∈oi.after,Fh .any e=Y->e.on ∉ Ba:=λe he hb hm=>by
    have h2:=((hU e.on).1 hm).2;have hsz:=((hU e.on).1 hm).1;have hel:=It e he hb;have:listed.getD e.on Y=Y:=by simp[show e.on<listed.size by omega]at hel ⊢; exact hel
    rw[this]at h2;cases h2
   have FW:∀k,k∈Ba.erase i↔k∈Ba/\k≠i:=λk=>by
    rw[hnd.mem_erase_iff];exact and_comm
   refine wpOp_mono ?_ (o6 (λk=>k∈Ba) i a w oi hg (λj hj=>((hU j).1 hj).1) hcl hiU hoi KC);intro a' w' hg';refine ih (Ba.erase i) _ a' w' (by rw[List.length_erase_of_mem hiU,hl];rfl) (hnd.erase i) (λj=> ?_) (by simpa using hs) ?_ ?_
   .rw[FW,hU];by_cases e:j=i
    .subst e;simp
    .rw[getD_set_ne Y<|Ku e];simp[e]
   .intro j oj hoj hj e he hb hm;have hmU:=((FW _).1 hm).1;by_cases e':j=i
    .subst e';rw[hoi]at hoj;cases hoj;exact KC e he hb hmU
    .exact hcl j oj hoj (λh=>hj<|(FW j).2 ⟨h,e'⟩) e he hb hmU
   .have:(λk=>k∈Ba.erase i)=λk=>k∈Ba/\k≠i:=funext λk=>propext<|FW k;rw[this];exact hg'
end
section
variable {C:Cx} {B:Bb} {ops S0:Array Oper} {L:Lb} {stk:List (Array Value)} {Ω:Type} {q:Ω} {s s':S}
structure PaR (C:Cx) (S0:Array Oper) (L:Lb) (Ba:List Nat) (s s':S):Prop where
 run:Run C S0 L Ba s s'
 azu:Ba.Pairwise (· < ·)
 lt:∀j∈Ba,j<S0.size
 cl:∀i x,i<S0.size->i ∉ Ba->L.R x i->x ∉ Ba
 fit:∀j∈Ba,Fit S0 L Ba s j
def PaR.pick(hn:PB S0 L){Ba:List Nat}(h:PaR C S0 L Ba s s'){i:Nat}(hiU:i∈Ba){oi:Oper}(hoi:S0[i]? =I oi)(KC:∀e∈oi.after,Fh .any e=Y->e.on ∉ Ba):
  ∃s1 U',ev1 C S0 oi (L.b i) s=I s1/\(∀id,L.b i<=id->id<L.b i+16->s.H id=G)/\PaR C S0 L U' s1 s'/\ ∀k,k∈U'↔k∈Ba/\k≠i:=by
 obtain⟨hr,hp,hlt,hd,hf⟩:=h;obtain⟨l1,l2,rfl⟩:=TQ hiU;have hRn:∀j∈l1++i::l2,¬L.R j i:=by
  intro j hj hR;obtain⟨e,he,hb,Tw⟩:=hn.anc j i oi hoi hR;have heU:=KC e he hb;obtain h|h:=Tw
  .exact heU (h▸hj)
  .have aO:=hn.dir i oi e hoi he hb;exact hd e.on j (by have:=hlt i hiU;omega) heU h hj
 have Cg:=Run.first hn l1 s hr hp hRn hf
 cases Cg with
 | cons U1 U8 t=>
  rename_i o' s1;rw[hoi]at U1;cases U1;have hnd:(l1++i::l2).Nodup:=hp.imp λh=>Ok h;have FW:∀j,j∈l1++l2↔j∈l1++i::l2/\j≠i:=by
   intro j;have JW:=JN.1 hnd;constructor
   .intro hj;refine⟨?_, ?_⟩
    .rcases BM.1 hj with h|h
     .exact Bv _ h
     .exact CP _ (Ai _ h)
    .rintro rfl;obtain h|h:=BM.1 hj
     .exact JW.2.2 j h j An rfl
     .exact(IB.1 JW.2.1).1 h
   .rintro⟨hj,hne⟩;obtain h|h:=BM.1 hj
    .exact Bv _ h
    .rcases Bl.1 h with h|h
     .exact absurd h hne
     .exact CP _ h
  refine⟨s1,l1++l2,U8.ev,λid h1 h2=>(hf i hiU oi hoi).2.2 id h1 h2,⟨t, ?_,λj hj=>hlt j ((FW j).1 hj).1, ?_, ?_⟩,FW⟩
  .have p2:=N1.1 hp;exact N1.2 ⟨p2.1,(K6.1 p2.2.1).2,λx hx y hy=>p2.2.2 x hx y<|Ai _ hy⟩
  .intro k x hk hkU hR hx;have hxU:=((FW x).1 hx).1;by_cases e:k=i
   .subst e;exact hRn x hxU hR
   .exact hd k x hk (λh=>hkU<|(FW k).2 ⟨h,e⟩) hR hxU
  .intro j hj;obtain⟨hjU,hne⟩:=(FW j).1 hj;refine(hf j hjU).step hn hoi (Ku hne) (hRn j hjU) U8 λk hk=> ?_;by_cases e:k=i
   .exact .inl e
   .exact .inr<|(FW k).2 ⟨hk,e⟩
structure JT (C:Cx) (ops:Array Oper) (zs:List Nat) (L:Lb) (B4:Nat->Prop) (s s':S):Prop where
 nice:PB (FK ops zs) L
 ex:∃Ba,PaR C (FK ops zs) L Ba s s'/\ ∀j x,zs[j]? =I x->(j∈Ba↔B4 x)
def awN{zs:List Nat}{o:Oper}(hg:o.guard=G)(b:Nat)(s:S):ev1 C (FK ops zs) (Qn zs o) b s=CG C (AF S) o b s I:=by
 unfold ev1 evG;have:(Qn zs o).guard=G:=hg;rw[this];rfl
def aua{o:Oper}(hg:o.guard=G)(b:Nat)(s:S):ev1 C ops o b s=CG C (AF S) o b s I:=by
 unfold ev1 evG;rw[hg]
def JT.pick{zs:List Nat}{B4:Nat->Prop}(h:JT C ops zs L B4 s s')(hz:zs.Nodup){j i:Nat}(hj:zs[j]? =I i)(hD:B4 i){o:Oper}(ho:ops[i]? =I o)(hg:o.guard=G)
  (KC:∀e∈o.after,Fh .any e=Y->¬B4 e.on):
  ∃s1,CG C (AF S) o (L.b j) s I=I s1/\(∀id,L.b j<=id->id<L.b j+16->s.H id=G)/\JT C ops zs L (λk=>B4 k/\k≠i) s1 s':=by
 obtain⟨hn,Ba,hp,hU⟩:=h;obtain⟨s1,U',h1,h2,h3,h4⟩:=hp.pick hn ((hU j i hj).2 hD) (aro hj ho) λe he hb hm=>by
  obtain⟨e0,he0,hb0,hz0⟩:=at6 he;exact KC e0 he0 (by rw[hb0];exact hb)<|(hU _ _ hz0).1 hm
 refine⟨s1,by rw[← awN hg];exact h1,h2,hn,U',h3,λk x hk=> ?_⟩;rw[h4,hU k x hk];refine and_congr_right λ_=>not_congr ⟨λe=> ?_,λe=> ?_⟩
 .subst e;rw[hk]at hj;cases hj;rfl
 .subst e;have hk1:=(BO.1 hk);have hj1:=(BO.1 hj);obtain⟨a1,a2⟩:=hk1;obtain⟨b1,b2⟩:=hj1;have hpw:=K3.1 hz;obtain h|h|h:=IA k j
  .exact absurd (a2.trans b2.symm) (hpw k j a1 b1 h)
  .exact h
  .exact absurd (b2.trans a2.symm)<|hpw j k b1 a1 h
def JT.done{zs:List Nat}{B4:Nat->Prop}(h:JT C ops zs L B4 s s')(hD:∀x∈zs,¬B4 x):s=s':=by
 obtain⟨hn,Ba,hp,hU⟩:=h;have:Ba=[]:=by
  cases Ba with
  | nil=>rfl
  | cons j l=>
   exfalso;have hlt:=hp.lt j An;rw[iv]at hlt;have hz:zs[j]? =I zs[j]:=Av hlt;exact hD _ (Cd hlt)<|(hU j _ hz).1 An
 subst this;have:=hp.run;cases this;rfl
def lD{zs:List Nat}{k:S->Option Ω}(he:evD C (FK ops zs) s (FK ops zs).toList 0 s.nid [] s k=I q)(hfr:Fr s)(B4:Nat->Prop)(hD:∀x∈zs,B4 x):
  ∃L s',JT C ops zs L B4 s s'/\(∀j,L.b j=s.nid+16 * j)/\Fr { s' with nid:=s.nid+16 * zs.length } /\s'.n=s.n/\s'.pins=s.pins/\k { s' with nid:=s.nid+16 * zs.length } =I q:=by
 obtain⟨rs,s',h1,h2,h3,h4⟩:=kH (b0:=s.nid) (FK ops zs).toList 0 s.nid [] s he trivial rfl rfl aE4;simp only[CJ,DY]at h2 h4;have hn:rs.reverse.length=(FK ops zs).size:=by simpa using h3
 have hpl:=h2.places;rw[lx,hn]at hpl;have LD:∀j,Fit (FK ops zs) (C0 rs.reverse s.nid) (B7 (FK ops zs).size) s j:=λj=>h2.fit hn hfr;have Cg:=iT h2 hn rs s s' h1 (λr hr=>by simpa using hr) (by rw[hpl];exact QQ) (λr hr=>by rw[hpl];exact LD _);rw[hpl]at Cg;have hlen:(FK ops zs).toList.length=zs.length:=by simp[FK]
 have P4:BD (λj=>j<s.nid+16 * zs.length) s s':=jH rs s s' _ h1 λr hr=>by
  have hr':r∈rs.reverse:=by simpa using hr
  have e1:=(h2.MD hr').1;have e2:=h2.lt r hr';rw[hn,iv]at e2;omega
 rw[hlen]at h4;refine⟨C0 rs.reverse s.nid,s',⟨h2.nice hn,B7 (FK ops zs).size,⟨Cg,QQ,λj hj=>Cu.1 hj,λi x hi hiU _=>absurd (Cu.2 hi) hiU,λj _=>LD j⟩,λj x hj=> ?_⟩,
  λj=>rfl,λj hj=> ?_,P4.n,P4.pins,h4⟩
 .rw[Cu,iv];exact⟨λ_=>hD x<|Ci hj,λ_=>(BO.1 hj).1⟩
 .have hj:s.nid+16 * zs.length<=j:=hj;exact P4.nn j J<|hfr j J
end
end Go.VS
namespace Go.VS
open Go
def evX{Ω:Type}(C:Cx)(inl:Inl Ω)(ops:Array Oper)(ys:List Nat)(m:Nat)(zs:List Nat)(s:S)(k:S->Option Ω):Option Ω:=
 evD C (FK ops ys) s (FK ops ys).toList 0 s.nid [] s λs1=>match ops[m]? with
  | some om=>evG C inl ops om s1.nid s1 λs2=>evD C (FK ops zs) { s2 with nid:=s2.nid+16 } (FK ops zs).toList 0 (s2.nid+16) [] { s2 with nid:=s2.nid+16 } k
  | none=>G
structure XOk (ops:Array Oper) (m f:Nat):Prop where
 mf:m<f
 sz:f<ops.size
 guard:∀(i:Nat) (o:Oper),ops[i]? =I o->o.guard=G
 dir:∀(i:Nat) (o:Oper) (e:Edge),ops[i]? =I o->e∈o.after->Fh .any e=Y->e.on<i
 cov:∀i,i<m->∃j o e,i<j/\j<=m/\ops[j]? =I o/\e∈o.after/\Fh .any e=Y/\e.on=i
 late:∀i,m<i->i<ops.size->i≠f->∃o e,ops[i]? =I o/\e∈o.after/\Fh .any e=Y/\(e.on=m\/(m<e.on/\e.on≠f))
abbrev aft(m n:Nat):List Nat:=List.range' (m+1)<|n - (m+1)
abbrev K9(m n f:Nat):List Nat:=(aft m n).filter λx=> !(Ag x f)
section
variable {C:Cx} {B:Bb} {ops:Array Oper} {stk:List (Array Value)} {Ω:Type} {q:Ω} {inl:(Ω:Type)->Inl Ω}
def mi{m n x:Nat}:x∈aft m n↔m<x/\x<n:=by
 rw[List.mem_range'_1];omega
def O7{m n f x:Nat}:x∈K9 m n f↔(m<x/\x<n)/\x≠f:=by
 rw[FP,mi];refine and_congr_right λ_=> ?_;rw[CE,← GL,HD]
def aET{m j:Nat}(h:j<m):(B7 m)[j]? =I j:=by simp[h]
def aCW{m f j:Nat}(h:j<m):(B7 m++[f])[j]? =I j:=by
 rw[IE<|by simpa using h];exact aET h
def atX{m f:Nat}:(B7 m++[f])[m]? =I f:=by
 rw[FO aE4];simp
def K2(C:Cx)(ops:Array Oper)(zs:List Nat)(k:S->Option Ω)(s2:S):Option Ω:=
 evD C (FK ops zs) { s2 with nid:=s2.nid+16 } (FK ops zs).toList 0 (s2.nid+16) [] { s2 with nid:=s2.nid+16 } k
inductive Way (C:Cx) (ops:Array Oper) (m f:Nat) (inl:Inl Ω) (k:S->Option Ω) (q:Ω) (s0:S) (B4:Nat->Prop) (s:S):Prop
 | one (hm:B4 m) (hf:B4 f) (hz:∀x∈K9 m ops.size f,B4 x) (L1 L2:Lb) (s1 s2:S) (b1:∀j,L1.b j=s0.nid+16 * j) (b2:∀j,L2.b j=s0.nid+16 * j)
   (p1:JT C ops (B7 m) L1 B4 s s1) (p2:JT C ops (B7 m++[f]) L2 B4 s s2)
   (f1:Fr { s1 with nid:=s0.nid+16 * m }) (f2:Fr { s2 with nid:=s0.nid+16 * (m+1) })
   (n1:s1.n=s0.n/\s1.pins=s0.pins) (n2:s2.n=s0.n/\s2.pins=s0.pins)
   (k1:∀om,ops[m]? =I om->evG C inl ops om (s0.nid+16 * m) { s1 with nid:=s0.nid+16 * m } (K2 C ops (aft m ops.size) k)=I q)
   (k2:∀om,ops[m]? =I om->evG C inl ops om (s0.nid+16 * (m+1)) { s2 with nid:=s0.nid+16 * (m+1) } (K2 C ops (K9 m ops.size f) k)=I q):Way C ops m f inl k q s0 B4 s
 | two (hm:B4 m) (hf:¬B4 f) (hz:∀x∈K9 m ops.size f,B4 x) (L2:Lb) (s2:S)
   (p2:JT C ops (B7 m++[f]) L2 B4 s s2)
   (f2:Fr { s2 with nid:=s0.nid+16 * (m+1) })
   (n2:s2.n=s0.n/\s2.pins=s0.pins)
   (k2:∀om,ops[m]? =I om->evG C inl ops om (s0.nid+16 * (m+1)) { s2 with nid:=s0.nid+16 * (m+1) } (K2 C ops (K9 m ops.size f) k)=I q):Way C ops m f inl k q s0 B4 s
 | fin (hm:¬B4 m) (ha:∀x,x<m->¬B4 x) (zs:List Nat) (hn:zs.Nodup) (hD:∀x,B4 x->x∈zs) (L:Lb) (s':S) (p:JT C ops zs L B4 s s')
   (N:Nat) (f2:Fr { s' with nid:=N }) (n2:s'.n=s0.n/\s'.pins=s0.pins) (k2:k { s' with nid:=N } =I q):Way C ops m f inl k q s0 B4 s
def St.oB{β:Beta}{s:S}{a:Act}{w:World}(h:St B β stk s a w)(N:Nat):St B β stk { s with nid:=N } a w:=⟨h.T,h.stack,h.n,h.defers,h.pins,h.gs,h.hs⟩
def asS(hP:C.P=B.P)(hm:B.P.follows .mixedOrders=Y)(hC:HL C B)(hI:JB C B inl){m f:Nat}(hX:XOk ops m f){k:S->Option Ω}{s0:S}
  (he1:evX C (inl Ω) ops (B7 m) m (aft m ops.size) s0 k=I q)(he2:evX C (inl Ω) ops (B7 m++[f]) m (K9 m ops.size f) s0 k=I q)(hfr:Fr s0)
  {β:Beta}{a:Act}{w:World}(hst:St B β stk s0 a w){id:Nat}{Q:Exit->Act->World->Prop}
  (hQ:∀β a w s',St B β stk s' a w->Fr s'->s'.n=s0.n->s'.pins=s0.pins->k s'=I q->Q .normal a w):(Qa id ops Y).wp B.P Q a w:=by
 have hmf:=hX.mf;have hsz:=hX.sz;have MG:St B β stk s0 a { w with drawn:=w.drawn+1 } :=by
  have hk:Kp w β { w with drawn:=w.drawn+1 } β:=Kp.heap rfl;exact hst.keep hk (H':=s0.H)<|hst.hs.drew
 refine wp_region_any hm ?_;refine ar5 (λB4 a w=>∃β s,St B β stk s a w/\Way C ops m f (inl Ω) k q s0 B4 s) hX.dir ?_ ?_ ops.size (B7 ops.size) _ a _ aE4 lJ (λj=> ?_) aE4 (λj oj hoj hj=>absurd (Cu.2 (HC.1 hoj).1) hj) ?_
 ·
  rintro B4 a w hD ⟨β,s,hs,hW⟩;cases hW with
  | one hm'=>exact absurd hm'<|hD _
  | two hm'=>exact absurd hm'<|hD _
  | fin _ _ zs hn _ L s' p N f2 n2 k2=>
   have:=p.done λx _=>hD x;subst this;exact hQ β a w _ (hs.oB N) f2 n2.1 n2.2 k2
 ·
  rintro B4 i a w o ⟨β,s,hs,hW⟩ hlt hcl hDi ho KC;have hg:=hX.guard i o ho;have CF:∀ {zs:List Nat} {L:Lb} {s':S} {j:Nat},JT C ops zs L B4 s s'->zs.Nodup->zs[j]? =I i->(∀s1,CG C (AF S) o (L.b j) s I=I s1->JT C ops zs L (λk=>B4 k/\k≠i) s1 s'->Way C ops m f (inl Ω) k q s0 (λk=>B4 k/\k≠i) s1)->
    wpOp B.P ops Q i (λa w=>∃β s,St B β stk s a w/\Way C ops m f (inl Ω) k q s0 (λk=>B4 k/\k≠i) s) a w:=by
   intro zs L s' j hp hz hj MA;obtain⟨s1,h1,h2,h3⟩:=hp.pick hz hj hDi ho hg KC;refine lE hP hC ho hs (b:=L.b j) h2 (show ev1 C ops o (L.b j) s=I s1 by rw[aua hg];exact h1) ?_;intro β' u w' MG;exact⟨β',s1,MG,MA s1 h1 h3⟩
  have ndA:(B7 m++[f]).Nodup:=by
   rw[JN];refine⟨lJ,by simp,λx hx y hy e=> ?_⟩;have:=Cu.1 hx;have:=CL.1 hy;omega
  have abm:B4 m->(∀x∈K9 m ops.size f,B4 x)->¬(m<i/\i≠f):=by
   rintro hm' hz ⟨h1,h2⟩;obtain⟨o',e,ho',he,hb,Tw⟩:=hX.late i h1 (hlt i hDi) h2;rw[ho]at ho';cases ho';refine KC e he hb ?_;obtain h|⟨h3,h4⟩:=Tw
   .rw[h];exact hm'
   .exact hz _<|O7.2 ⟨⟨h3,by have:=hX.dir i o e ho he hb;have:=hlt i hDi;omega⟩,h4⟩
  have Tq:i=m->∀x,x<m->¬B4 x:=by
   intro e x hx;have:∀n x,m - x=n->x<m->¬B4 x:=by
    intro n
    induction n using Nat.strongRecOn with
    | ind n ih=>
     intro x hn hx;obtain⟨j,oj,e',h1,h2,h3,h4,h5,h6⟩:=hX.cov x hx;obtain h7|h7:=Nat.lt_or_eq_of_le h2
     .have:=hcl j oj h3 (ih (m - j) J j rfl h7) e' h4 h5;rw[h6]at this;exact this
     .subst h7;rw[← e,ho]at h3;cases h3;have:=KC e' h4 h5;rw[h6]at this;exact this
   exact this _ x rfl hx
  have acd:∀ {b:Nat} {s1:S} {zs:List Nat},i=m->s=s1->Fr { s1 with nid:=b } ->(s1.n=s0.n/\s1.pins=s0.pins)->(∀x∈zs,B4 x/\x≠i)->zs.Nodup->(∀x,B4 x/\x≠i->x∈zs)->
    (∀om,ops[m]? =I om->evG C (inl Ω) ops om b { s1 with nid:=b } (K2 C ops zs k)=I q)->
    wpOp B.P ops Q i (λa w=>∃β s,St B β stk s a w/\Way C ops m f (inl Ω) k q s0 (λk=>B4 k/\k≠i) s) a w:=by
   intro b s1 zs e1 e2 hf1 hn1 hz hnd hin hk;subst e1;subst e2;refine aDt hP hC hI ho (s:={ s with nid:=b }) (hk o ho) (hs.oB b) hf1 ?_;intro β' u w' s' hs' hf' hn' hp' hk';obtain⟨L,s2,p,_,aze,hn2,hp2,hk2⟩:=lD (s:={ s' with nid:=s'.nid+16 }) hk' (λj hj=>hf' j hj) (λk=>B4 k/\k≠i) hz;exact⟨β',_,hs'.oB _,.fin (λh=>h.2 rfl) (λx hx h=>Tq rfl x hx h.1) zs hnd hin L s2 p _ aze ⟨hn2.trans<|hn'.trans hn1.1,hp2.trans<|hp'.trans hn1.2⟩ hk2⟩
  have nd1:(aft m ops.size).Nodup:=List.nodup_range';have nd2:(K9 m ops.size f).Nodup:=nd1.filter _;cases hW with
  | one hm' hf' hz L1 L2 s1 s2 b1 b2 p1 p2 f1 f2 n1 n2 k1 k2=>
   obtain h|h|h:=IA i m
   .refine CF p1 lJ (aET h) λt1 e1 q1=> ?_;obtain⟨t2,e2,_,q2⟩:=p2.pick ndA (aCW h) hDi ho hg KC;rw[b2,← b1,e1]at e2;cases e2;exact .one ⟨hm',J⟩ ⟨hf',J⟩ (λx hx=>⟨hz x hx,by have:=(O7.1 hx).1.1;omega⟩) L1 L2 s1 s2 b1 b2 q1 q2 f1 f2 n1 n2 k1 k2
   .have e:=p1.done λx hx=>Tq h x<|Cu.1 hx;refine acd h e f1 n1 (λx hx=> ?_) nd1 (λx hx=> ?_) k1
    .have hx:=mi.1 hx;refine⟨?_,J⟩;by_cases e':x=f
     .rw[e'];exact hf'
     .exact hz x (O7.2 ⟨hx,e'⟩)
    .refine mi.2 ⟨?_,hlt x hx.1⟩;obtain h2|h2|h2:=IA x m
     .exact absurd hx.1 (Tq h x h2)
     .exact absurd (h2.trans h.symm) hx.2
     .exact h2
   .by_cases e:i=f
    .refine CF p2 ndA (j:=m) (by rw[e];exact atX) λt1 e1 q1=> ?_;exact .two ⟨hm',J⟩ (λh=>h.2 e.symm) (λx hx=>⟨hz x hx,by have:=(O7.1 hx).2;omega⟩) L2 s2 q1 f2 n2 k2
    .exact absurd ⟨h,e⟩<|abm hm' hz
  | two hm' hf' hz L2 s2 p2 f2 n2 k2=>
   obtain h|h|h:=IA i m
   .refine CF p2 ndA (aCW h) λt1 e1 q1=> ?_;exact .two ⟨hm',J⟩ (λh=>hf' h.1) (λx hx=>⟨hz x hx,by have:=(O7.1 hx).1.1;omega⟩) L2 s2 q1 f2 n2 k2
   .have e:=p2.done λx hx=>by
     obtain hx|hx:=BM.1 hx
     .exact Tq h x (Cu.1 hx)
     .rw[CL.1 hx];exact hf'
    refine acd h e f2 n2 (λx hx=>⟨hz x hx,by have:=(O7.1 hx).1.1;omega⟩) nd2 (λx hx=>O7.2 ⟨⟨?_,hlt x hx.1⟩,λe'=>hf'<|e'▸hx.1⟩) k2;obtain h2|h2|h2:=IA x m
    .exact absurd hx.1 (Tq h x h2)
    .exact absurd (h2.trans h.symm) hx.2
    .exact h2
   .by_cases e:i=f
    .exact absurd (e▸hDi) hf'
    .exact absurd ⟨h,e⟩<|abm hm' hz
  | fin hm' ha zs hn hD L s' p N f2 n2 k2=>
   obtain⟨j,hj⟩:=ln.1<|hD i hDi;refine CF p hn hj λt1 e1 q1=> ?_;exact .fin (λh=>hm' h.1) (λx hx h=>ha x hx h.1) zs hn (λx hx=>hD x hx.1) L s' q1 N f2 n2 k2
 .rw[Cu];constructor
  .intro h;exact⟨h,by simp[h]⟩
  .exact λh=>h.1
 ·
  obtain⟨om,hom⟩:∃o,ops[m]? =I o:=⟨ops[m],by simp[show m<ops.size by omega]⟩;unfold evX at he1 he2;obtain⟨L1,s1,p1,b1,fr1,n1,pn1,k1⟩:=lD he1 hfr (λk=>k∈B7 ops.size) (λx hx=>Cu.2 (by have:=Cu.1 hx;omega));obtain⟨L2,s2,p2,b2,fr2,n2,pn2,k2⟩:=lD he2 hfr (λk=>k∈B7 ops.size) (λx hx=>Cu.2 (by
   obtain h|h:=BM.1 hx
   .have:=Cu.1 h;omega
   .rw[CL.1 h];exact hsz))
  have l1:(B7 m).length=m:=by simp
  have l2:(B7 m++[f]).length=m+1:=by simp
  rw[l1]at fr1 k1;rw[l2]at fr2 k2;simp only[hom]at k1 k2;exact⟨β,s0,MG,.one (Cu.2 J) (Cu.2 hsz) (λx hx=>Cu.2 (O7.1 hx).1.2) L1 L2 s1 s2 b1 b2 p1 p2 fr1 fr2 ⟨n1,pn1⟩ ⟨n2,pn2⟩
   (λo h=>by rw[hom]at h;cases h;exact k1) (λo h=>by rw[hom]at h;cases h;exact k2)⟩
end
end Go.VS
namespace Go.VS
open Go
section
variable {C:Cx} {B:Bb} {β:Beta} {H:Hp} {w w':World} {M:Nat->Prop} {stk:List (Array Value)} {s s':S} {a:Act} {P:Program} {e e':Nat->Value} {inl:(Ω:Type)->Inl Ω}
def atM{P:Program}(hP:C.P=P){f:FuncId}{fn:Func}{body:Code}(hf:P.funcs[f]? =I fn)(KB:(fn.name == "runtime.NumGoroutine")=A0)
  (hb:fn.body=I body){m:DO}(hok:okM m fn.ntmps=Y)
  (hw:∀(x:LTs m.ps) (r:LTs m.rs×LTs (B1 m.ps)),m.g x=I r->∀(B:Bb),B.P=P->∀(β:Beta) (a:Act) (w:World) (Q:Exit->Act->World->Prop),St B β [] (Qr fn.ntmps m.ps x) a w->Fr (Qr fn.ntmps m.ps x)->
   KOK B [] fn.ntmps (Dz 0 m.ps) { nrm:=fin C.P fn m,ret:=fin C.P fn m,ext:=λ_ _=>G } r Q->body.wp B.P Q a w):H4 P f m:=by
 refine⟨O2 hf KB hb,λx r hx w Z args os hr hnd hbl hZ hgl=> ?_⟩;have hw:=hw x r hx;have U0:=hok;simp only[okM,AD]at U0;obtain⟨⟨⟨hps,hrs⟩,hn⟩,_⟩:=U0;have hn:=DW hn;have hlen:=hr.length
 let B:Bb:={ P:=P,w0:=w,O:=λb=>b∈Ay os,tm0:=ar args,Z:=Z,gl:=hgl }
 have R7:Num (Ha Z os) 0 os:=kh Z os;obtain⟨k1,k2,k3⟩:=XR (β:=Ha Z os) (E:=λ_=> .un) (M:=λb=>b∈Ay os\/Z b) (P:=P) (w:=w) (e:=ar args) (λb hb=>me (B:=B) hb) m.ps (λ_=>G) 0 x args os hps hr R7 (λt _=>trivial);have hi:Qr fn.ntmps m.ps x=(match Aj (λ_=> .un) (λ_=>G) 0 m.ps x with
  | (vs,H,b)=>{ n:=fn.ntmps,T:=λt=>(vs[t]?).getD Dp,H:=H,nid:=b,st:=[],pins:=Dz 0 m.ps,gs:=λ_=>A0 }):=rfl
 rw[hi]at hw;generalize Aj (λ_=> .un) (λ_=>G) 0 m.ps x=q at *;obtain⟨vs,H,b⟩:=q;simp only at hw k1 k2 k3;have hH:Hs B (Ha Z os) H w:={
  EI:=λid ob ho=>by
   by_cases h:id<os.length
   .obtain⟨ob',h1,h2⟩:=k3.2 id (D1 _) J;rw[h1]at ho;cases ho;exact h2
   .rw[k3.1 id J]at ho;cases ho
  dom:=λid p hp=>by
   have h:id<os.length:=(BO.1<|show os[id]? =I p from hp).1;obtain⟨ob',h1,_⟩:=k3.2 id (D1 _) J;exact⟨ob',h1⟩
  inj:=λi j p q a a' hi hj=>XP hnd i j p q a a' hi hj
  old:=λb hb=>⟨.inl<|Mk hb,(hbl b<|Mk hb).1⟩
  os:=rfl
  tape:=rfl
  output:=rfl
  size:=Ar _
  block:=λ_ _ _=>rfl
  z:=rfl
  zn:=λid p a hp ha=>(hbl _<|Mk (Z:=Z) ⟨id,p.1,p.2,a,hp,ha,rfl⟩).2
  zl:=hZ
  pk:=Pk.refl _ _ }
 refine calls_of_wp hf hb ?_;have hst:St B (Ha Z os) [] { n:=fn.ntmps,T:=λt=>(vs[t]?).getD Dp,H:=H,nid:=b,st:=[],pins:=Dz 0 m.ps,gs:=λ_=>A0 } { tmps:=args.toArray++QW (fn.ntmps - args.toArray.size) undef,defers:=[] } w:=by
  refine⟨λt=> ?_,⟨rfl,λi T' tm h=>by simp at h⟩, ?_,rfl,λt _=>WH args _ t,λt g want y hy=> ?_,hH⟩
  .rw[WH];show RT w _ _ ((vs[t]?).getD Dp) _;cases hv:vs[t]? with
   | none=>
    have:args.length<=t:=by
     rw[k1.1];exact Yf.1 hv
    show RT w _ _ Dp (ar args t);have e0:ar args t=undef:=by simp[ar,He this]
    rw[e0];rfl
   | some c=>
    have hlt:t<args.length:=by rw[k1.1];exact(BO.1 hv).1
    have hu:args[t]? =I (ar args t):=by simp[ar,hlt]
    exact(k1.2 t c _ hv hu).aM
  .simp;omega
  .have hy:(vs[t]?).getD Dp= .gd g want y:=hy;cases hv:vs[t]? with
   | none=>rw[hv]at hy;cases hy
   | some c=>
    rw[hv]at hy;have hy:c= .gd g want y:=hy;have hlt:t<args.length:=by rw[k1.1];exact(BO.1 hv).1
    have hu:args[t]? =I (ar args t):=by simp[ar,hlt]
    have:=k1.2 t c _ hv hu;rw[hy]at this;exact this.elim
 refine hw B rfl _ _ _ _ hst (λj hj=>k3.1 j<|.inr (by have hj:b<=j:=hj;omega)) ⟨?_, ?_, ?_⟩
 .intro β' a' w' s' h1 h2 h3 h4 h5;obtain⟨v',i1,i2⟩:=YC (B:=B) h1 rfl rfl hlen h4 hok (show fin P fn m s'=I r by rw[← hP];exact h5);exact⟨h1.defers,v',i1,v',rfl,i2⟩
 .intro β' a' w' s' h1 h2 h3 h4 h5;obtain⟨v',i1,i2⟩:=YC (B:=B) h1 rfl rfl hlen h4 hok (show fin P fn m s'=I r by rw[← hP];exact h5);exact⟨h1.defers,v',i1,v',rfl,i2⟩
 .intro id β' a' w' s' h1 h2 h3 h4 h5;cases h5
def Ox(C:Cx)(inl:(Ω:Type)->Inl Ω)(fn:Func)(ys:List Nat)(l:Nat)(zs:List Nat)(m:DO)(x:LTs m.ps):Option (LTs m.rs×LTs (B1 m.ps)):=
 match fn.body with
 | some (.seq (.region _ o0 A0) (.seq (.region _ ops Y) rest))=>
  (OZ C (inl S) o0 o0.toList (Qr fn.ntmps m.ps x) I).bind λs1=>evX C (inl _) ops ys l zs s1 λs'=>evk C inl rest _ .nil { nrm:=fin C.P fn m,ret:=fin C.P fn m,ext:=λ_ _=>G } s'
 | _=>G
def bnd(e:Edge):Bool:=Fh .any e
def Zd(ops:Array Oper)(m f:Nat):Bool:=
 IG m f&&IG f ops.size&&(B7 ops.size).all (λi=>match ops[i]? with
  | some o=>o.guard.isNone&&o.after.toList.all (λe=> !(bnd e)||IG e.on i)&&
   (!(IG m i)||Ag i f||o.after.toList.any (λe=>bnd e&&(Ag e.on m||(IG m e.on&& !(Ag e.on f)))))
  | none=>Y)&&
 (B7 m).all (λi=>(B7<|m+1).any λj=>IG i j&&match ops[j]? with
  | some o=>o.after.toList.any λe=>bnd e&&Ag e.on i
  | none=>A0)
def avz{ops:Array Oper}{m f:Nat}(h:Zd ops m f=Y):XOk ops m f:=by
 simp only[Zd,AD,DK]at h;obtain⟨⟨⟨h1,h2⟩,h3⟩,h4⟩:=h;have h1:m<f:=by simpa[Oq] using h1
 have h2:f<ops.size:=by simpa[Oq] using h2
 have at_:∀(i:Nat) (o:Oper),ops[i]? =I o->(o.guard.isNone=Y/\ ∀e∈o.after.toList,(!(bnd e)||IG e.on i)=Y)/\
   (!(IG m i)||Ag i f||o.after.toList.any (λe=>bnd e&&(Ag e.on m||(IG m e.on&& !(Ag e.on f)))))=Y:=by
  intro i o ho;have:=h3 i<|Cu.2 (HC.1 ho).1;rw[ho]at this;simp only[AD,DK]at this;exact this
 refine⟨h1,h2,λi o ho=> ?_,λi o e ho he hb=> ?_,λi hi=> ?_,λi hi1 hi2 hi3=> ?_⟩
 .simpa using (at_ i o ho).1.1
 .have:=(at_ i o ho).1.2 e (by simpa using he);rw[show bnd e=Y from hb]at this;simpa[Oq] using this
 .have:=h4 i<|Cu.2 hi;obtain⟨j,hj,hc⟩:=K0.1 this;rw[AD]at hc;obtain⟨c1,c2⟩:=hc;cases ho:ops[j]? with
  | none=>rw[ho]at c2;cases c2
  | some o=>
   rw[ho]at c2;obtain⟨e,he,hc⟩:=K0.1 c2;rw[AD]at hc;exact⟨j,o,e,by simpa[Oq] using c1,by have:=Cu.1 hj;omega,ho,by simpa using he,hc.1,by simpa using hc.2⟩
 .obtain⟨o,ho⟩:∃o,ops[i]? =I o:=⟨ops[i],by simp[hi2]⟩;have:=(at_ i o ho).2;have e1:IG m i=Y:=by simpa[Oq] using hi1
  have e2:Ag i f=A0:=by rw[← GL,HD];exact hi3
  rw[e1,e2]at this;simp only[AB,Bk]at this;obtain⟨e,he,hc⟩:=K0.1 this;rw[AD,C1,AD]at hc;refine⟨o,e,ho,by simpa using he,hc.1, ?_⟩;obtain h|h:=hc.2
  .exact .inl (by simpa using h)
  .refine .inr ⟨by simpa[Oq] using h.1,λh'=> ?_⟩;rw[h']at h;simp at h
def avr{P:Program}(hP:C.P=P)(hm:P.follows .mixedOrders=Y)(hC:∀B:Bb,B.P=P->HL C B)(hI:∀B:Bb,B.P=P->JB C B inl){f:FuncId}{fn:Func}
  (hf:P.funcs[f]? =I fn)(KB:(fn.name == "runtime.NumGoroutine")=A0){i0 i1:Nat}{o0 ops:Array Oper}{rest:Code}
  (hb:fn.body=I (.seq (.region i0 o0 A0)<|.seq (.region i1 ops Y) rest)){m:DO}(hok:okM m fn.ntmps=Y){l g:Nat}(hx:Zd ops l g=Y)
  (h1:∀x,Ox C inl fn (B7 l) l (aft l ops.size) m x=m.g x)(h2:∀x,Ox C inl fn (B7 l++[g]) l (K9 l ops.size g) m x=m.g x):H4 P f m:=by
 refine atM hP hf KB hb hok λx r hr B hB β a w Q hst hfr hk=> ?_;have e1:=h1 x;have e2:=h2 x;rw[hr]at e1 e2;unfold Ox at e1 e2;rw[hb]at e1 e2;simp only at e1 e2;obtain⟨s1,a1,a2⟩:=Ah.1 e1;obtain⟨s1',b1,b2⟩:=Ah.1 e2;rw[a1]at b1;cases b1;have hPB:C.P=B.P:=by rw[hP,hB]
 have hmB:B.P.follows .mixedOrders=Y:=by rw[hB];exact hm
 have hCB:=hC B hB;have hIB:=hI B hB;refine wp_seq ?_;refine aAl hPB hCB hIB a1 hfr hst ?_;intro β' a' w' s' k1 k2 k3 k4 k5;cases k5;refine wp_seq ?_;refine asS hPB hmB hCB hIB (avz hx) a2 b2 k2 k1 ?_;intro β2 a2' w2 s2 j1 j2 j3 j4 j5;exact XF hPB hmB hCB hIB rest .nil _ s2 r j5 j1 j2 (G8 _ _) (by rw[j3,j4,k3,k4];exact hk)
def soX{P:Program}{C:Cx}{inl:(Ω:Type)->Inl Ω}{f:Nat}{d:Option Nat}{fn:Func}{m:DO}(hC:OKC P C inl){i0 i1:Nat}{o0 ops:Array Oper}{rest:Code}
  (hf:fnB P f fn m=(I fn,A0,Y,Y))(hb:fn.body=I (.seq (.region i0 o0 A0)<|.seq (.region i1 ops Y) rest)){l g:Nat}(hx:Zd ops l g=Y)
  (h1:∀x,Ox C inl fn (B7 l) l (aft l ops.size) m x=m.g x)(h2:∀x,Ox C inl fn (B7 l++[g]) l (K9 l ops.size g) m x=m.g x):SQ P (f,d,m):=by
 simp only[fnB,CK]at hf;exact⟨avr hC.p hC.m hC.c hC.i hf.1 hf.2.1 hb hf.2.2.1 hx h1 h2,hf.2.2.2⟩
end
end Go.VS
namespace Go.VS
open Go
section
variable {P:Program} {w:World} {H:Type} {Ej:TypeId×Value->H} {base:Nat} {spare:Nat->Bool} {held:Bool}
def aqI{h:Sh}{c:CT}{t e:TypeId}{v:Value}{d:DataW H}{ps:List MemPlace}{r:Reach}{b0:Nat}(hs:nb h=I c)(hok:T7 P 60 t c=Y)(ht:P.underlying t=I (.slice e))(MF:Ym P w r b0 t v)
  (hd:DataW.Trod Ej P w base spare held t v d ps):∃x:LT h,Za h x/\ ∀(M:Nat->Prop) (e:Nat->Value),(∀b,¬M b)->Rel P w M e h x v []:=by
 obtain⟨a,len,cap,rfl⟩:=Go.WideShapes.okWide_slice ht MF;obtain⟨Bh,hf⟩:=hd;exact asm hs<|aCR 60 t c hok ⟨Bh,d,ps,hf⟩
end
def apk{H:Type}{enc:TypeId×Value->H}{a:Assume}{C:Checked}{os:Os}{f:FuncId}{fn:Func}{s:ChangeSpec}{conds:List PathCond}{apart fresh handsOn again:Bool}{X:World->Array Value->Prop}
  (hX:∀(w w':World) (args:Array Value),w.heap=w'.heap->X w args->X w' args)
  (own:ownKnob C.prog.godebug=G)(started:os.Started)(ayI:C.prog.inits.idxOf? f=G)(hfn:C.prog.funcs[f]? =I fn)
  (witness:∃(w:World) (tape:Tape) (i:Input),w.os=os/\(w.forCall tape i).Shaped C.prog/\i.vars=[]/\Input.okWide C.prog (w.forCall tape i) .any w.heap.size f i/\
   ((s.pre enc C.prog fn conds apart (w.forCall tape i).memory i.args/\X (w.forCall tape i).memory i.args)/\sizedMet enc C.prog fn (Ye s) apart (w.forCall tape i).memory i.args)/\a.holds C.prog (lone (Frame.enter C.prog f i.args .normal) [] (w.forCall tape i)))
  (axy:∀(W:World) (args:Array Value) (b0:Nat) (ds gs:List (DataW H)) (before:List MemPlace),W.ShapedOpen C.prog->(∀(j:Nat) t v,fn.params[j]? =I t->args[j]? =I v->Ym C.prog W .any b0 t v)->
   DataW.Whole enc C.prog fn.params.toList s.vars apart W args.toList ds gs before->X W args->
   Calls C.prog f args W λe W'=>∃v,e= .returned v/\s.post enc C.prog fn apart fresh handsOn again W args v W'):
  ReturnsInHanded a C os f .any (λw args=>(s.pre enc C.prog fn conds apart w args/\X w args)/\sizedMet enc C.prog fn (Ye s) apart w args) (s.post enc C.prog fn apart fresh handsOn again):=by
 refine returnsInHanded_of_calls own started ayI witness ?_;intro w tape i _ hsh _ hok azR _;obtain⟨_,_,_,fn',azg,_,_,_,_,MF⟩:=hok;have e:fn'=fn:=Eh<|azg.symm.trans hfn;subst e;obtain⟨⟨⟨ds,gs,before,hw,_⟩,hx⟩,_⟩:=azR;refine(axy (w.forCall tape i) i.args _ ds gs before hsh MF (DataW.Whole.of_heap (w':=w.forCall tape i) (by rfl) hw)<|hX _ _ _ (by rfl) hx).mono λe W' ⟨v,he,hp⟩=> ?_;subst he;exact ChangeSpec.post_blind hp
end Go.VS
end
