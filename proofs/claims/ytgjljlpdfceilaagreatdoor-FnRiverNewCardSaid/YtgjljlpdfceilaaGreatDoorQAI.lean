/- Part 3. -/
import Derived.Tactics
import Derived.Test.YtgjljlpdfceilaaGreatDoorQAE
import Derived.ChangeShapes
import Derived.Lib.Split
import Derived.Lib.SplitLaws
import Derived.Lib.IndexMore
import Derived.Deep.Draws
import Derived.Sort.Grow
import Derived.HandedShaped
import Derived.LaidSub
import Derived.MakeChecks
import Derived.Carry
open Array renaming getD_eq_getD_getElem?->TG,getElem?_append_left->Lx,getElem?_eq_some_iff->HE,getElem?_toList->TT,length_toList->F2,replicate->QX,size_append->QL,size_replicate->l9
open Bool renaming and_eq_true->AD,false->A0,false_eq_true->Ha,false_or->Bq,not_eq_true'->CE,not_eq_true->GL,not_true->AA,or_eq_false_iff->Mv,or_eq_true->C0,true->Y
open Classical renaming choose->Mw,choose_spec->Ik
open Decidable renaming decide->U
open Go.Calls renaming mono->M1
open Go.Code renaming region->QZ
open Go.DataW renaming trod->Gk
open Go.Instr renaming loadAt->N4,sureAddr->JK
open Go.Lib renaming TabIs->M3,cellsOf->Yj,countB->N2,cut->FR,itoa->B2,pow10Tab->N3,splitB->Im
open Go.Lit renaming int->N7
open Go.MakeChecks renaming laidMetH_plain->lK
open Go.OpenSpec renaming ofChange->Ye
open Go.Region renaming binds->Fj,ready->Oe,wanted->JQ
open Go.Result renaming andThen_ok->F3
open Go.Sem renaming run_bind->Ej,run_pure->Fl
open Go.Sort renaming grow->Yg
open Go.Value renaming okWide->YZ,pointer->N0,string->YY
open Go.World renaming cell?->M0,cell?_of_block->TQ,drewN->lV
open Int renaming toNat_of_nonneg->TJ
open List renaming all_cons->Ok,all_eq_true->DM,any_eq_true->KA,append_assoc->C3,append_nil->CK,append_of_mem->Ta,cons_append->Ky,drop_drop->Il,drop_eq_getElem_cons->TH,drop_eq_nil_of_le->Lu,drop_zero->Io,eq_nil_of_length_eq_zero->Du,filterMap_append->Ls,filterMap_cons->ko,getD_eq_getElem?_getD->B8,getElem?_append_left->I8,getElem?_append_right->F1,getElem?_eq_getElem->Au,getElem?_eq_none->Hc,getElem?_eq_none_iff->YX,getElem?_eq_some_iff->BN,getElem?_map->D5,getElem?_of_mem->aBD,getElem?_range->Gh,getElem?_toArray->TU,getElem_mem->Cg,length_append->Aq,length_cons->Bl,mapM_cons->TK,map_append->Ek,map_congr_left->Gg,map_cons->DO,mem_append->BL,mem_append_left->Bw,mem_append_right->CS,mem_cons->Bm,mem_cons_of_mem->Ai,mem_cons_self->Am,mem_filter->FQ,mem_filterMap->GO,mem_iff_getElem?->l5,mem_map->Bv,mem_of_getElem?->Cl,mem_range->Cs,mem_singleton->CN,nodup_append->JR,nodup_cons->IC,nodup_range->lO,pairwise_append->My,pairwise_cons->KB,pairwise_iff_getElem->K5,pairwise_lt_range->QS,range->B7,range_succ->ID,reverse_reverse->lA,size_toArray->Kw,sublist_append_right->YM,take_append_drop->JO
open List.Perm renaming append_left->YW
open List.Sublist renaming refl->Ea
open List.cons renaming injEq->Lt
open Nat renaming add_assoc->D6,add_comm->N6,add_mul->EH,beq->Af,beq_eq->HF,ble->Dq,blt->IA,blt_eq->Of,le_add_right->Yf,le_of_ble_eq_true->Da,le_refl->Ar,le_trans->CP,lor->BM,lt_of_lt_of_le->Gj,lt_trichotomy->I6,mul_le_mul_right->E6,ne_of_lt->Oh,sub_zero->JN,zero_add->DZ,zero_le->Cz,zero_mul->TY
open Ne renaming symm->L0
open Option renaming bind_eq_some_iff->Ag,bind_some->A6,map_eq_some_iff->DA,none->G,some->I
open Option.some renaming inj->Ei
open Prod.mk renaming injEq->CL
set_option linter.all false
noncomputable section
namespace Go.VS
open Go
section
variable {C:Cx} {B:Bb} {ops:Array Oper} {stk:List (Array Value)} {s s' s0:S} {b b0:Nat} {Ω:Type} {q:Ω}
def aqv{m:DS}{d:Option Nat}{as:List AV}{k:S->Option Ω}:HU m s b d as k=(HU m s b d as I).bind k:=by
 unfold HU;simp only;split
 .rename_i x hx hn;cases m.g x with
  | none=>rfl
  | some r=>
   simp only[A6];split
   .rfl
   .rfl
 .rfl
def W8{r:PR}{f:AV->List Ob->S}{k:S->Option Ω}:(match r with
   | some (q,v,os)=>if q then k (f v os) else G
   | none=>G)=(match r with
   | some (q,v,os)=>if q then I (f v os) else G
   | none=>G).bind k:=by
 cases r with
 | none=>rfl
 | some r=>obtain⟨q,v,os⟩:=r;cases q<;>rfl
def aBf{o:Oper}{k:S->Option Ω}(inl:Inl Ω)(hi:∀f c,o.op= .call c->c.callee= .value (.func f)->C.Γ f o.dst=G->∀d as s k,inl f d as s k=G):
  CI C inl o b s k=(CI C (AF S) o b s I).bind k:=by
 unfold CI;split
 .rfl
 generalize ho:o.op=op at *;cases op
 case store t p x=>
  simp only;split<;>rfl
 case call c=>
  simp only;split
  .rename_i f hf;split
   .exact aqv
   .rename_i hm;rw[hi f c rfl hf hm];rfl
  .split
   .split<;>rfl
   .rfl
  .split<;>rfl
  .first|rfl|exact W8 (k:=k) (f:=λv os=>({ s with H:=Et s.H b os } :S).put o.dst v)
 case slice t x lo hi mx=>
  cases mx with
  | some m=>
   simp only
   first|rfl|exact W8 (k:=k) (f:=λv os=>({ s with H:=Et s.H b os } :S).put o.dst v)
  | none=>
   simp only;split
   .split
    .rfl
    .split
     .split<;>rfl
     .rfl
   .first|rfl|exact W8 (k:=k) (f:=λv os=>({ s with H:=Et s.H b os } :S).put o.dst v)
 case buildSlice t n ps=>
  simp only;generalize (Kk s.ev ps.toList).foldl S.freeze s=s3;exact W8 (k:=k) (f:=λv os=>({ s3 with H:=Et s3.H b os } :S).put o.dst v)
 all_goals (simp only;first|rfl|exact W8 (k:=k) (f:=λv os=>({ s with H:=Et s.H b os } :S).put o.dst v))
def auX{o:Oper}{k:S->Option Ω}:evG C (Yr Ω) ops o b s k=(ev1 C ops o b s).bind k:=by
 have h:∀b s,∀k:S->Option Ω,CI C (Yr Ω) o b s k=(CI C (AF S) o b s I).bind k:=λb s k=>aBf _ λ_ _ _ _ _ _ _ _ _=>rfl;unfold ev1 evG;split
 .exact h _ _ _
 .split
  .rfl
  .split
   .split
    .split<;>rfl
    .rfl
   .rfl
  .split
   .rename_i c _;simp only[h];cases hh:s.has o.dst<;>(split<;>split<;>rfl)
   .split<;>rfl
   .rfl
def ZN(C:Cx)(ops:Array Oper):List Rec->S->S->Prop
 | [],s,s'=>s=s'
 | r::l,s,s'=>∃s1,ev1 C ops r.o r.b s=I s1/\((E3 C s r.o=G->r.W=r.F/\ ∀i∈JG C s r.o,Mm r.K i)/\(∀l,E3 C s r.o=I l->∀i∈l,Mm r.W i/\Mm r.K i)/\ ∀id,Mm (nm r.b) id->Mm r.K id)/\vOf s1 r.o.dst=I r.V/\ZN C ops l s1 s'
def jl{k:S->Option Ω}:∀(l:List Oper) (i b:Nat) (acc:List Rec) (s:S),evD C ops s0 l i b acc s k=I q->CW C ops s0 b0 acc->i=acc.length->b=b0+16 * i->(∀j,l[j]? =ops[i+j]?)->
  ∃rs s',ZN C ops rs s s'/\CW C ops s0 b0 (rs.reverse++acc)/\rs.length=l.length/\k { s' with nid:=b0+16 * (i+l.length) } =I q
 | [],i,b,acc,s,h,hg,hi,hb,hl=>⟨[],s,rfl,hg,rfl,by
   have h:k { s with nid:=b } =I q:=h;rw[hb]at h;exact h⟩
 | o::l,i,b,acc,s,h,hg,hi,hb,hl=>by
  unfold evD at h;split at h
  .cases h
  rename_i r hr;split at h
  .rename_i hc;rw[auX]at h;obtain⟨s1,h1,h⟩:=Ag.1 h;obtain⟨V,hV,h⟩:=Ag.1 h;simp only[AD,DM]at hc;unfold abr at hr;obtain⟨anc,ha,hr⟩:=Ag.1 hr;obtain⟨ids,P5,hr⟩:=Ag.1 hr;obtain⟨c,hcl,hr⟩:=Ag.1 hr;simp only at hr;split at hr
   case h_2=>cases hr
   rename_i azb;have hr:=(Ei hr).symm;have ho:ops[i]? =I o:=by simpa using (hl 0).symm
   have hg':CW C ops s0 b0 ({ r with V:=V } ::acc):=by
    refine⟨hg, ?_, ?_, ?_, ?_,⟨ids,c, ?_,hcl, ?_⟩, ?_,λx hx=>hc.1.1 x hx, ?_, ?_⟩<;>rw[hr]
    .exact hi
    .show b=_;rw[hb,hi]
    .exact ho
    .exact ha
    .exact P5
    .have gen:∀F0:Nat,(mvO o=A0/\(match mvO o with
       | true=>BM (msk ids) (nm b)
       | false=>F0)=F0/\(((match mvO o with
       | true=>nm b
       | false=>match pur o,o.guard with
        | true,G=>BM (msk ids) (nm b)
        | _,_=>(match mvO o with
         | true=>BM (msk ids) (nm b)
         | false=>F0))=BM (msk ids) (nm b)/\pur o=Y/\o.guard=G)\/(match mvO o with
       | true=>nm b
       | false=>match pur o,o.guard with
        | true,G=>BM (msk ids) (nm b)
        | _,_=>(match mvO o with
         | true=>BM (msk ids) (nm b)
         | false=>F0))=(match mvO o with
       | true=>BM (msk ids) (nm b)
       | false=>F0)))\/(mvO o=Y/\(match mvO o with
       | true=>BM (msk ids) (nm b)
       | false=>F0)=BM (msk ids) (nm b)/\(match mvO o with
       | true=>nm b
       | false=>match pur o,o.guard with
        | true,G=>BM (msk ids) (nm b)
        | _,_=>(match mvO o with
         | true=>BM (msk ids) (nm b)
         | false=>F0))=nm b):=by
      intro F0;cases hmv:mvO o with
      | true=>exact .inr ⟨rfl,rfl,rfl⟩
      | false=>
       refine .inl ⟨rfl,rfl, ?_⟩;cases hpu:pur o with
       | false=>exact .inr rfl
       | true=>
        cases hgu:o.guard with
        | none=>exact .inl ⟨rfl,rfl,rfl⟩
        | some x=>exact .inr rfl
     exact gen _
    .refine⟨azb,λid hid=> ?_⟩;show Mm (match E3 C s o with
      | none=>_
      | some l=>BM (msk l) (nm b)) id
     cases E3 C s o with
     | none=>
      show Mm (match mvO o with
       | true=>BM (msk ids) (nm b)
       | false=>_) id
      cases mvO o with
      | false=>
       refine SE _ _ id ?_;show(BM _ _).testBit id=Y;rw[Ee,show(nm b).testBit id=Y from hid];simp
      | true=>
       show(BM _ _).testBit id=Y;rw[Ee,show(nm b).testBit id=Y from hid];simp
     | some l=>
      show(BM _ _).testBit id=Y;rw[Ee,show(nm b).testBit id=Y from hid];simp
    .exact hc.1.2
    .exact hc.2
   obtain⟨rs,s',k1,k2,k3,k4⟩:=jl l (i+1) (b+16) _ s1 h hg' (by simp[hi]) J (λj=>by
    have:=hl<|j+1;simpa[D6,N6 1 j] using this)
   refine⟨{ r with V:=V } ::rs,s',⟨s1, ?_, ?_, ?_,k1⟩, ?_,by simp[k3], ?_⟩
   .rw[hr];exact h1
   .rw[hr];refine⟨λhe=>⟨?_,λj hj=> ?_⟩,λl he j hj=> ?_,λid hid=> ?_⟩
    .have he:E3 C s o=G:=he;show(match E3 C s o with
      | none=>_
      | some l=>BM (msk l) (nm b))=_
     rw[he]
    .have he:E3 C s o=G:=he;show Mm (match E3 C s o with
      | none=>BM (msk<|JG C s o) (nm b)
      | some l=>BM (msk l) (nm b)) j
     rw[he];show(BM _ _).testBit j=Y;rw[Ee,Mg.2 hj];rfl
    .have he:E3 C s o=I l:=he;have key:Mm (BM (msk l)<|nm b) j:=by
      show(BM _ _).testBit j=Y;rw[Ee,Mg.2 hj];rfl
     constructor
     .show Mm (match E3 C s o with
       | none=>_
       | some l=>BM (msk l) (nm b)) j
      rw[he];exact key
     .show Mm (match E3 C s o with
       | none=>_
       | some l=>BM (msk l) (nm b)) j
      rw[he];exact key
    .show Mm (match E3 C s o with
      | none=>BM (msk<|JG C s o) (nm b)
      | some l=>BM (msk l) (nm b)) id
     have hid:(nm b).testBit id=Y:=hid;cases E3 C s o with
     | none=>
      show(BM _ _).testBit id=Y;rw[Ee,hid];simp
     | some l=>
      show(BM _ _).testBit id=Y;rw[Ee,hid];simp
   .rw[hr];exact hV
   .simpa using k2
   .rw[show i+(o::l).length=i+1+l.length by simp;omega];exact k4
  .cases h
def aAz{acc:List Rec}:∀ {ts l:List Nat},ZH s0 acc ts=I l->∀t∈ts,∃a,(match Qg t acc with
  | some r=>I r.V
  | none=>Tp (s0.T t))=I a/\ ∀i∈a,i∈l
 | [],_,_,t,ht=>by cases ht
 | t0::ts,l,h,t,ht=>by
  obtain⟨a,h1,h⟩:=Ag.1 h;obtain⟨b,h2,h⟩:=Ag.1 h;cases h;obtain rfl|ht:=Bm.1 ht
  .exact⟨a,h1,λi hi=>Bw _ hi⟩
  .obtain⟨a',h3,h4⟩:=aAz h2 t ht;exact⟨a',h3,λi hi=>CS _<|h4 i hi⟩
def CW.fit{acc:List Rec}(h:CW C ops s0 b0 acc)(hn:acc.length=ops.size)(hfr:∀j,b0<=j->s0.H j=G){i:Nat}:Fit ops (C2 acc b0) (B7 ops.size) s0 i:=by
 intro o ho;obtain⟨r,hr,hi,rfl,fi⟩:=h.op hn ho;have e1:(C2 acc b0).F i=Mm r.F:=by funext id;simp only[C2,fi]
 have e2:(C2 acc b0).N i=Mm r.N:=by funext id;simp only[C2,fi]
 rw[e1,e2];have hNF:=h.N_F hr;refine⟨λt ht hd=> ?_,λid ob hid ho=> ?_,λid h1 _=>hfr id (by simp only[C2]at h1;omega)⟩
 rotate_left
 .cases hmv:mvO r.o with
  | false=>exact h.closed hfr r hr hmv id ob (hNF id hid) ho
  | true=>
   exfalso;obtain⟨HI,hg,_⟩:=h.mem r hr;obtain⟨_,k1,k2,_,_,⟨l,c,h1,h2,h3⟩,_⟩:=hg;obtain h3|h3:=h3
   .rw[hmv]at h3;cases h3.1
   .rw[h3.2.2]at hid;have:=Li.1 hid;rw[hfr id J]at ho;cases ho
 obtain⟨HI,hg,LB,_,hlt⟩:=h.mem r hr;obtain⟨_,_,_,_,_,⟨l,c,h1,h2,h3⟩,_⟩:=hg;obtain⟨a,h4,h5⟩:=aAz h1 t ht;cases hf:Qg t HI with
 | some r'=>
  obtain⟨hm,P6⟩:=aC8 hf;have hm':=LB r' hm;obtain⟨azy,hg2,_⟩:=h.mem r' hm';have ho':=hg2.2.2.2.1;have hR:(C2 acc b0).R r'.i i:=by
   have aI:=hlt r' hm;have hc:=h.chk hm' hr J;simp only[VS.chk,AD]at hc;simp only[C2,fi];cases hT:tst r.anc r'.i with
   | true=>exact mB.1 hT
   | false=>
    rw[hT]at hc;obtain⟨_,hc⟩:=hc;simp only[AD]at hc;exact absurd ht<|Wq hc.1.2 t P6
  exact absurd P6<|hd r'.i (Cs.2 (HE.1 ho').1) hR r'.o ho'
 | none=>
  rw[hf]at h4;obtain⟨_,h3,h6⟩|⟨hmv,h3,h6⟩:=h3
  .have acg:InA (Mm r.F) (s0.T t):=Xt h4 λj hj=>by
    rw[h3];refine SE _ _ j ?_;show(BM _ _).testBit j=Y;rw[Ee,(Xm 4 l h2).1 j<|h5 j hj];rfl
   refine⟨acg,.inr ?_⟩;obtain h6|h6:=h6
   .refine Xt h4 λj hj=> ?_;rw[h6.1];show(BM _ _).testBit j=Y;rw[Ee,Mg.2<|h5 j hj];rfl
   .rw[h6];exact acg
  .simp only[mvO,AD]at hmv;refine⟨Xt h4 λj hj=> ?_,.inl hmv.1.1⟩;rw[h3];show(BM _ _).testBit j=Y;rw[Ee,Mg.2<|h5 j hj];rfl
def iA{acc:List Rec}(h:CW C ops s0 b0 acc)(hn:acc.length=ops.size):∀(rs:List Rec) (s s':S),ZN C ops rs s s'->(∀r∈rs,r∈acc)->(rs.map (·.i)).Pairwise (· < ·)->
  (∀r∈rs,Fit ops (C2 acc b0) (rs.map (·.i)) s r.i)->Run C ops (C2 acc b0) (rs.map (·.i)) s s'
 | [],s,s',hc,_,_,_=>by
  cases hc;exact .nil
 | r::rs,s,s',⟨s1,h1,h2,h3,h4⟩,hm,hp,hf=>by
  have hr:=hm r Am;obtain⟨HI,hg,_⟩:=h.mem r hr;have ho:=hg.2.2.2.1;have hok:=hg.2.2.2.2.2.2.2.2.1;have hb:=(h.MD hr).1;have hrb:r.i<acc.length:=h.lt r hr;have fi:=h.find r hr;have nice:=h.nice hn;obtain⟨f1,f2,f3⟩:=hf r Am r.o ho;have eb:(C2 acc b0).b r.i=r.b:=hb.symm;have hp':=KB.1 hp;have acS:∀t∈DD ops r.o,InA ((C2 acc b0).F r.i) (s.T t)/\(mov r.o.op=Y\/InA ((C2 acc b0).N r.i) (s.T t)):=λt ht=>f1 t ht λj hj hR oj hoj e=>by
   have hlt:=nice.lt _ _ hR;obtain e'|hj:=Bm.1 hj
   .have e':j=r.i:=e';omega
   .have h9:r.i<j:=hp'.1 j hj;omega
  have hrd:=λt ht=>(acS t ht).1;obtain⟨h21,h22,h23⟩:=h2;have hKn:∀j,r.b<=j->j<r.b+16->(C2 acc b0).K r.i j:=λj k1 k2=>by
   simp only[C2,fi];exact h23 j<|Li.2 ⟨k1,k2⟩
  have hWn:∀j,r.b<=j->j<r.b+16->(C2 acc b0).W r.i j:=λj k1 k2=>nice.NW r.i j (by rw[eb];exact k1) (by rw[eb];exact k2);have hWF:∀id,Mm r.W id->Mm r.F id:=λid hid=>SV (h.MD hr).2.2.1 id hid;have hKW:∀id∈JG C s r.o,Mm r.F id:=λid hid=>by
   obtain⟨_,_,_,_,_,⟨l,c,_,_,h3⟩,_⟩:=hg;have hop:∀x∈r.o.op.operands,InA ((C2 acc b0).F r.i) (s.ev x):=λx hx=>by
    cases x with
    | tmp t=>exact hrd t<|Bw _<|S8 hx
    | const v=>exact Yq v
    | _=>exact .of1 trivial
   have acJ:pur r.o=Y->False:=λhp=>by
    unfold pur at hp;unfold JG at hid;cases ho2:r.o.op<;>rw[ho2]at hp hid<;>first|(cases hid;done)|(cases hp;done)
   obtain⟨_,_,h6|h6⟩|⟨hmv,_⟩:=h3
   .exact(acJ h6.2.1).elim
   rotate_left
   .simp only[mvO,AD]at hmv;exact(acJ hmv.1.2).elim
   .have hcl:DR ((C2 acc b0).F r.i) s.H:=λid ob hid ho=>f2 id ob (by simp only[C2,fi]at hid ⊢; rw[h6];exact hid) ho;have:=avv hop hcl hid;simp only[C2,fi]at this;exact this
  obtain⟨g,v,es,a1,a2,a3,a4,a5⟩:=avs (F:=(C2 acc b0).F r.i) (N:=(C2 acc b0).N r.i) (WS:=λe=>(C2 acc b0).W r.i e.id/\(e.fk= .no\/(C2 acc b0).K r.i e.id)) hok hrd f2
   (λj k1 k2=>nice.WF _ _<|hWn j k1 k2) (λe k1 k2=>⟨hWn _ k1 k2,.inr<|hKn _ k1 k2⟩)
   ⟨λhe=>⟨λe hF hfk=>⟨by
     simp only[C2,fi]at hF ⊢;rw[(h21 he).1];exact hF,.inl hfk⟩,λe hk=>⟨by
     simp only[C2,fi];rw[(h21 he).1];exact hKW _ hk,.inr (by simp only[C2,fi];exact(h21 he).2 _ hk)⟩⟩,
    λl he e hl=>⟨by simp only[C2,fi];exact(h22 l he _ hl).1,.inr (by simp only[C2,fi];exact(h22 l he _ hl).2)⟩⟩
   (by
    obtain⟨_,_,_,_,_,⟨l,c,_,_,h3⟩,_⟩:=hg;obtain⟨_,_,h6|h6⟩|⟨hmv,_⟩:=h3
    .refine .inl ⟨h6.2.1,h6.2.2, ?_⟩;cases hmo:mov r.o.op with
     | true=>exact .inl rfl
     | false=>exact .inr λt ht=>(acS t ht).2.resolve_left λh=>by rw[hmo]at h;cases h
    rotate_left
    .simp only[mvO,AD]at hmv;exact .inl ⟨hmv.1.2,by simpa using hmv.2,.inl hmv.1.1⟩
    .refine .inr λid hid=> ?_;simp only[C2,fi]at hid ⊢;rw[h6];exact hid) h1
  have hst:Stp C ops r.o ((C2 acc b0).b r.i) ((C2 acc b0).F r.i) ((C2 acc b0).N r.i) ((C2 acc b0).W r.i) ((C2 acc b0).K r.i) ((C2 acc b0).V r.i) s s1:=by
   rw[eb];refine⟨g,v,es,a1,λt ht=> ?_,a2,a3,a4,a5⟩;rw[ht]at h3;have:s1.T t=v:=by rw[a4,ZF,A5 ht]
   rw[← this];refine Xt (show Tp (s1.T t)=I r.V from h3) λj hj=> ?_;simp only[C2,fi];exact hj
  refine .cons ho hst (iA h hn rs s1 s' h4 (λx hx=>hm x<|Ai _ hx) hp'.2 λx hx=> ?_);have hxi:r.i<x.i:=hp'.1 x.i<|Bv.2 ⟨x,hx,rfl⟩;exact(hf x<|Ai _ hx).step nice ho (Oh hxi) (λhR=>by have:=nice.lt _ _ hR;omega) hst λj hj=>by
   obtain e|hj:=Bm.1 hj
   .exact .inl e
   .exact .inr hj
def iY:∀(rs:List Rec) (s s':S) (m:Nat),ZN C ops rs s s'->(∀r∈rs,r.b+16<=m)->BC (λj=>j<m) s s'
 | [],s,s',m,hc,_=>by cases hc;exact BC.refl _ _
 | r::rs,s,s',m,⟨s1,h1,_,_,h4⟩,hb=>by
  have k1:=aBg h1;have hb1:=hb r Am;have k1':BC (λj=>j<m) s s1:=⟨k1.nid,k1.n,k1.pins,λj hj e=>k1.nn j (λhh=>hj J) e⟩;exact k1'.trans<|iY rs s1 s' m h4 λx hx=>hb x<|Ai _ hx
def CW.places:∀ {acc:List Rec},CW C ops s0 b0 acc->acc.reverse.map (·.i)=B7 acc.length
 | [],_=>rfl
 | r::acc,h=>by
  rw[List.reverse_cons,Ek,CW.places h.1,Bl,ID];simp[h.2.1]
def arn(hP:C.P=B.P)(hm:B.P.follows .mixedOrders=Y)(hC:HO C B){k:S->Option Ω}(he:evD C ops s ops.toList 0 s.nid [] s k=I q)(hfr:Fr s){β:Beta}{a:Act}{w:World}(hst:St B β stk s a w)
  {id:Nat}{Q:Exit->Act->World->Prop}(hQ:∀β a w s',St B β stk s' a w->Fr s'->s'.n=s.n->s'.pins=s.pins->k s'=I q->Q .normal a w):(QZ id ops Y).wp B.P Q a w:=by
 obtain⟨rs,s',h1,h2,h3,h4⟩:=jl (b0:=s.nid) ops.toList 0 s.nid [] s he trivial rfl rfl y9;simp only[CK,DZ]at h2 h4;have hn:rs.reverse.length=ops.size:=by simpa using h3
 have hpl:=h2.places;rw[lA,hn]at hpl;have LD:∀j,Fit ops (C2 rs.reverse s.nid) (B7 ops.size) s j:=λj=>h2.fit hn hfr;have Ce:=iA h2 hn rs s s' h1 (λr hr=>by simpa using hr) (by rw[hpl];exact QS) (λr hr=>by rw[hpl];exact LD _);rw[hpl]at Ce;have P2:BC (λj=>j<s.nid+16 * ops.toList.length) s s':=iY rs s s' _ h1 λr hr=>by
  have hr':r∈rs.reverse:=by simpa using hr
  have e1:=(h2.MD hr').1;have e2:=h2.lt r hr';rw[hn]at e2;have:ops.toList.length=ops.size:=by simp
  omega
 refine aql hP hm hC (h2.nice hn) Ce (λj _=>LD j) hst λβ a w h=> ?_;refine hQ β a w { s' with nid:=s.nid+16 * ops.toList.length } ⟨h.T,h.stack,h.n,h.defers,h.pins,h.gs,h.hs⟩ (λj hj=> ?_) P2.n P2.pins h4;have hj:s.nid+16 * ops.toList.length<=j:=hj;exact P2.nn j J<|hfr j J
end
end Go.VS
namespace Go.VS
open Go
def JB(C:Cx)(B:Bb)(inl:(Ω:Type)->Inl Ω):Prop:=∀(Ω:Type) (f:FuncId) (d:Option Nat) (as:List AV) (s:S) (k:S->Option Ω) (q:Ω),inl Ω f d as s k=I q->
 ∀(β:Beta) (stk:List (Array Value)) (a:Act) (w:World) (o:Oper) (args:List Operand) (ts:Array TypeId) (K:Act->World->Prop) (Q:Exit->Act->World->Prop),
 St B β stk s a w->Fr s->s.has d=Y->o.dst=d->as=args.map s.ev->o.op= .call { callee:= .value<|.func f,args:=args.toArray,argTypes:=ts } ->
 (∀β' u w' s',St B β' stk s' (a.put d u) w'->Fr s'->s'.n=s.n->s'.pins=s.pins->k s'=I q->K (a.put d u) w')->o.wp B.P a w K Q
def aD3(C:Cx)(B:Bb):JB C B AF:=by
 intro Ω f d as s k q h;cases h
section
variable {C:Cx} {B:Bb} {ops:Array Oper} {stk:List (Array Value)} {s s':S} {Ω:Type} {q:Ω} {β:Beta} {a:Act} {w:World} {inl:(Ω:Type)->Inl Ω}
def mr(C:Cx)(o:Oper):Prop:=∃f c,o.op= .call c/\c.callee= .value (.func f)/\C.Γ f o.dst=G
def arm{o:Oper}{b:Nat}{k:S->Option Ω}(hn:¬mr C o):evG C (inl Ω) ops o b s k=(ev1 C ops o b s).bind k:=by
 have h:∀b s,∀k:S->Option Ω,CI C (inl Ω) o b s k=(CI C (AF S) o b s I).bind k:=λb s k=>aBf _ λf c h1 h2 h3=>absurd ⟨f,c,h1,h2,h3⟩ hn;unfold ev1 evG;split
 .exact h _ _ _
 .split
  .rfl
  .split
   .split
    .split<;>rfl
    .rfl
   .rfl
  .split
   .rename_i c _;simp only[h];cases hh:s.has o.dst<;>(split<;>split<;>rfl)
   .split<;>rfl
   .rfl
def aDG(hI:JB C B inl){o:Oper}{b:Nat}{k:S->Option Ω}(hin:mr C o)(he:CI C (inl Ω) o b s k=I q)(hst:St B β stk s a w)(hfr:Fr s){K:Act->World->Prop}{Q:Exit->Act->World->Prop}
  (hK:∀β' u w' s',St B β' stk s' (a.put o.dst u) w'->Fr s'->s'.n=s.n->s'.pins=s.pins->k s'=I q->K (a.put o.dst u) w'):o.wp B.P a w K Q:=by
 obtain⟨f,c,h1,h2,h3⟩:=hin;obtain⟨cal,⟨args⟩,⟨tys⟩⟩:=c;simp only at h2;subst h2;unfold CI at he;split at he
 .cases he
 rename_i hd;simp only[h1,h3]at he;exact hI Ω f o.dst _ s k q he β stk a w o args ⟨tys⟩ K Q hst hfr hd rfl rfl h1 hK
def aDq(hP:C.P=B.P)(hC:HO C B)(hI:JB C B inl){i:Nat}{o:Oper}(hi:ops[i]? =I o){k:S->Option Ω}(he:evG C (inl Ω) ops o s.nid s k=I q)(hst:St B β stk s a w)(hfr:Fr s){K:Act->World->Prop}{Q:Exit->Act->World->Prop}
  (hK:∀β' u w' s',St B β' stk s' (a.put o.dst u) w'->(∀j,s'.nid+16<=j->s'.H j=G)->s'.n=s.n->s'.pins=s.pins->k s'=I q->K (a.put o.dst u) w'):wpOp B.P ops Q i K a w:=by
 by_cases hin:mr C o
 .have hK':∀s1:S,s1.n=s.n->s1.pins=s.pins->∀β' u w' s',St B β' stk s' (a.put o.dst u) w'->Fr s'->s'.n=s1.n->s'.pins=s1.pins->k s'=I q->K (a.put o.dst u) w':=
   λs1 e1 e2 β' u w' s' k1 k2 k3 k4 k5=>hK β' u w' s' k1 (λj hj=>k2 j J) (k3.trans e1) (k4.trans e2) k5
  unfold wpOp;simp only[hi];unfold evG at he;split at he
  .rename_i hg;have hw:JQ o (yielded ops a.tmps)=Y:=by simp[JQ,hg]
   rw[A5 hw];exact .inl (aDG hI hin he hst hfr<|hK' s rfl rfl)
  .rename_i j want hg;have hwd:JQ o (yielded ops a.tmps)=(yielded ops a.tmps j == I want):=by simp[JQ,hg]
   rw[hwd];split at he
   .cases he
   .rename_i g hgd hsp;split at he
    .rename_i qq v Ec hv;obtain⟨f,c,h1,h2,h3⟩:=hin;obtain⟨cal,⟨args⟩,⟨tys⟩⟩:=c;simp only at h2;subst h2;simp only[h1,spA,h3]at hv;cases hv
    .cases he
   .rename_i g hgd hsp;split at he
    .rename_i c hT;have htg:BZ a g= .bool c:=by have:=hst.T g;rw[hT]at this;exact this
     have hy:yielded ops a.tmps j=I c:=fQ hgd htg;rw[hy];have hn:∀w0:Bool,c=w0->St B β stk { s with T:=upd s.T g (.b w0) } a w:=by
      intro w0 e;subst e;rw[show({ s with T:=upd s.T g (.b c) } :S)=s by rw[aaV _ _ _ hT]];exact hst
     have yes:CI C (inl Ω) o s.nid { s with T:=upd s.T g (.b want) } k=I q->c=want->
       (if(I c == I want)=Y then o.wp B.P a w K Q\/(o.asks B.P a w/\LetsOut Q) else K (a.put o.dst undef) w):=by
      intro he e;rw[A5<|by simp[e]];exact .inl<|aDG hI hin he (hn want e) hfr<|hK' _ rfl rfl
     have no:(match s.has o.dst with
       | true=>k (({ s with T:=upd s.T g (.b<|!want) } :S).put o.dst Dl)
       | false=>G)=I q->c= !want->
       (if(I c == I want)=Y then o.wp B.P a w K Q\/(o.asks B.P a w/\LetsOut Q) else K (a.put o.dst undef) w):=by
      intro he e;rw[A9 (by subst e;cases want<;>simp)];split at he
      .rename_i Ec;refine hK β undef w _ ((hn (!want) e).put (by exact Ec) (v:=Dl) (u:=undef) rfl (λg' w1 x e=>by cases e)) (λj hj=> ?_) ?_ ?_ he
       .have:=hfr j (by cases hod:o.dst<;>rw[hod]at hj<;>exact CP (Yf _ 16) hj);cases o.dst<;>exact this
       .cases o.dst<;>rfl
       .cases o.dst<;>rfl
      .cases he
     cases want<;>cases c<;>simp only[A2,if_false,Ha]at he
     .exact yes he rfl
     .exact no he rfl
     .exact no he rfl
     .exact yes he rfl
    .rename_i vs hT;have htg:BZ a g= .tuple vs:=by have:=hst.T g;rw[hT]at this;exact this
     have hy:¬(yielded ops a.tmps j == I want)=Y:=by
      intro e;have:=fP hgd (show yielded ops a.tmps j=I want by simpa using e);rw[htg]at this;cases this
     rw[A9 hy];split at he
     .rename_i Ec;refine hK β undef w _ (hst.put Ec (v:=Dl) (u:=undef) rfl (λg' w1 x e=>by cases e)) (λj hj=> ?_) ?_ ?_ he
      .have:=hfr j (by cases hod:o.dst<;>rw[hod]at hj<;>exact CP (Yf _ 16) hj);cases o.dst<;>exact this
      .cases o.dst<;>rfl
      .cases o.dst<;>rfl
     .cases he
    .cases he
 .rw[arm hin]at he;obtain⟨s1,h1,h2⟩:=Ag.1 he;have hk:=aBg h1;refine kV hP hC hi hst (λj hj _=>hfr j hj) h1 λβ' u w' h=>hK β' u w' s1 h (λj hj=>hk.nn j (λhh=> ?_)<|hfr j ?_) hk.n hk.pins h2
  .rw[hk.nid]at hj;omega
  .rw[hk.nid]at hj;omega
def aCB(hP:C.P=B.P)(hC:HO C B)(hI:JB C B inl){k:S->Option Ω}{Q:Exit->Act->World->Prop}{n:Nat}{p:List Nat}
  (hQ:∀β a w s',St B β stk s' a w->Fr s'->s'.n=n->s'.pins=p->k s'=I q->Q .normal a w):∀(l:List Oper) (i:Nat) (s:S) (β:Beta) (a:Act) (w:World),(∀j,l[j]? =ops[i+j]?)->
  OV C (inl Ω) ops l s k=I q->St B β stk s a w->Fr s->s.n=n->s.pins=p->wpOps B.P ops Q (List.range' i l.length) a w
 | [],i,s,β,a,w,_,he,hst,hfr,hn,hp=>hQ β a w s hst hfr hn hp he
 | o::l,i,s,β,a,w,hl,he,hst,hfr,hn,hp=>by
  rw[Bl,List.range'_succ,wpOps_cons];have ho:ops[i]? =I o:=by simpa using (hl 0).symm
  refine aDq hP hC hI ho (show evG C (inl Ω) ops o s.nid s (λs=>OV C (inl Ω) ops l { s with nid:=s.nid+16 } k)=I q from he) hst hfr ?_;intro β' u w' s' h1 h2 h3 h4 h5;exact aCB hP hC hI hQ l (i+1) { s' with nid:=s'.nid+16 } β' _ w' (λj=>by
   have:=hl<|j+1;simpa[D6,N6 1 j] using this) h5 ⟨h1.T,h1.stack,h1.n,h1.defers,h1.pins,h1.gs,h1.hs⟩ h2 (h3.trans hn) (h4.trans hp)
def aAU(hP:C.P=B.P)(hC:HO C B)(hI:JB C B inl){k:S->Option Ω}(he:OV C (inl Ω) ops ops.toList s k=I q)(hfr:Fr s)(hst:St B β stk s a w)
  {id:Nat}{Q:Exit->Act->World->Prop}(hQ:∀β a w s',St B β stk s' a w->Fr s'->s'.n=s.n->s'.pins=s.pins->k s'=I q->Q .normal a w):(QZ id ops A0).wp B.P Q a w:=by
 refine wp_region ?_;have:=aCB hP hC hI hQ ops.toList 0 s β a w y9 he hst hfr rfl rfl;rw[List.range_eq_range',← F2];exact this
end
end Go.VS
namespace Go.VS
open Go
def Imm(w:World)(M:Nat->Prop)(c:AV)(v:Value):Prop:=∀β:Beta,(∀b,MZ β b->M b)->RC w β c v
mutual
def Rel (P:Program) (w:World) (M:Nat->Prop) (e:Nat->Value):(h:Sh)->LT h->Value->List (Value×Nat)->Prop
 | .int k,n,v,os=>v= .int k n/\os=[]
 | .bool,x,v,os=>v= .bool x/\os=[]
 | .str,s,v,os=>v= .string s/\os=[]
 | .sl k,xs,v,os=>Imm w M (.sl k xs) v/\os=[]
 | .fz k,xs,v,os=>Imm w M (.sl k xs) v/\os=[]
 | .row t k,xs,v,os=>os=[(v,xs.length)]/\Qm v=Y/\ ∀β:Beta,(∀b,MZ β b->M b)->FX w β t A0 k xs v
 | .Cd t k,xs,v,os=>os=[(v,xs.length)]/\Qm v=Y/\ ∀β:Beta,(∀b,MZ β b->M b)->FX w β t Y k xs v
 | .abx t k,xs,v,os=>os=[(v,xs.length)]/\1<=xs.length/\ ∃b us,v= .pointer (I ⟨b,0,G⟩)/\w.heap[b]? =I (.cells us t (0,0))/\us.size=xs.length * ks k/\us.size=P.cellsOf t/\
   (∀β:Beta,(∀b,MZ β b->M b)->∀i x j c u,xs[i]? =I x->(enc k x)[j]? =I c->us[i * ks k+j]? =I u->RC w β c u)
 | .arr k,xs,v,os=>os=[]/\ ∀β:Beta,(∀b,MZ β b->M b)->R1 w β (.arr k xs) v
 | .same t,_,v,os=>os=[]/\v=e t/\v.oneCell'=Y
 | .agg l,x,v,os=>∃us:List Value,v= .agg us.toArray/\Cf P w M e l x us os
 | .box t l,x,v,os=>∃b us os',v= .pointer (I ⟨b,0,G⟩)/\w.heap[b]? =I (.cells us t (0,0))/\Cf P w M e l x us.toList os'/\os=os'++[(v,1)]
def Cf (P:Program) (w:World) (M:Nat->Prop) (e:Nat->Value):(l:List Sh)->LTs l->List Value->List (Value×Nat)->Prop
 | [],_,us,os=>us=[]/\os=[]
 | h::l,x,us,os=>∃u us' o1 o2,us=u::us'/\os=o1++o2/\Rel P w M e h x.1 u o1/\Cf P w M e l x.2 us' o2
end
def HQ(p:Value×Nat):Option Nat:=(adr p.1).map (·.block)
abbrev Ax(os:List (Value×Nat)):List Nat:=os.filterMap HQ
mutual
def Ll:Sh->List Nat
 | .same t=>[t]
 | .agg l=>IY l
 | .box _ l=>IY l
 | _=>[]
def IY:List Sh->List Nat
 | []=>[]
 | h::l=>Ll h++IY l
end
section
variable {B:Bb} {β β':Beta} {H:Hp} {w w':World} {M:Nat->Prop} {E:Nat->AV} {e:Nat->Value}
def RC.Qz{c:AV}{v:Value}(h:RC w β c v)(hc:GR c=Y)(hM:∀b,M b->MZ β b):Imm w M c v:=λβ' hβ'=>
 RC.imm (λ_ _ _ _ h=>h) (λb hb _ hm=>hb<|hM b<|hβ' b hm) h hc
def FX.imm{t:TypeId}{fz:Bool}{k:K}{xs:List (Tof k)}{v:Value}(h:FX w β t fz k xs v)(hM:∀b,M b->MZ β b):∀β':Beta,(∀b,MZ β' b->M b)->FX w β' t fz k xs v:=by
 intro β' hβ';obtain h|⟨b,f,cap,us,fr,h1,h2,h3,h4,h5,h6,h7⟩:=h
 .exact .inl h
 .exact .inr ⟨b,f,cap,us,fr,h1,h2,h3,h4,h5,h6,λi x j c u a1 a2 a3=>(h7 i x j c u a1 a2 a3).Qz (IQ k x a2) hM β' hβ'⟩
def FX.ayh{t:TypeId}{fz:Bool}{k:K}{xs:List (Tof k)}{v:Value}(h:FX w β t fz k xs v)(hM:∀b,M b->MZ β b)(hn:∀a,adr v=I a->¬M a.block):Imm w M (.sl k xs) v:=by
 intro β' hβ';obtain⟨rfl,rfl⟩|⟨b,f,cap,us,fr,rfl,hh,hfr,hn',hc,hs,hr⟩:=h
 .exact .nil
 .have Cn:∀i j,i<xs.length->j<ks k->f+(i * ks k+j)<us.size:=by
   intro i j hi hj;have h1:(i+1) * ks k<=cap * ks k:=E6 _ J;rw[EH]at h1;omega
  refine .sl (λi j=>us.getD (f+(i * ks k+j)) undef) ⟨rfl,hn'⟩ (λhm=>hn _ rfl (hβ' _ hm)) (λi j hi hj=> ?_) (λi x j c h2 h3=> ?_)
  .rw[cell_of_row w b _ us t fr hh];have:=Cn i j hi hj;simp[this]
  .have hi:i<xs.length:=(BN.1 h2).1;have hj:j<ks k:=by rw[← EN k x];exact(BN.1 h3).1
   have:=Cn i j hi hj;exact(hr i x j c (us.getD (f+(i * ks k+j)) undef) h2 h3<|by simp[this]).Qz (IQ k x h3) hM β' hβ'
def R1.lits{v' v:Value}(h:R1 w β (.lit v') v):v=v':=h
def R1.sls{k:K}{xs:List (Tof k)}{v:Value}(h:R1 w β (.sl k xs) v):RC w β (.sl k xs) v:=h
def R1.oA{id:Nat}{v:Value}(h:R1 w β (.own id) v):RC w β (.own id) v:=h
def R1.Qy{id z i o:Nat}{v:Value}(h:R1 w β (.ptr id z i o) v):RC w β (.ptr id z i o) v:=h
structure NR (B:Bb) (β:Beta) (H:Hp) (w:World) (M:Nat->Prop) (E:Nat->AV) (e:Nat->Value):Prop where
 hs:Hs B β H w
 hM:∀b,M b->MZ β b
 hE:∀t id z,E t= .ptr id z 0 0->R1 w β (E t) (e t)
def Qk(β:Beta)(M:Nat->Prop)(ids:List Nat):Prop:=∀i∈ids,∀p a,β i=I p->adr p.1=I a->¬M a.block
def lj(R:NR B β H w M E e){id:Nat}{t:TypeId}{fz:Bool}{k:K}{xs:List (Tof k)}{v:Value}(hv:RC w β (.own id) v)(hid:H id=I (.row t fz k xs)):
  Qm v=Y/\β id=I (v,xs.length)/\FX w β t fz k xs v:=by
 cases hv with
 | own h hs=>
  obtain⟨hd,h1,h2⟩:=R.hs.EK id _ hid;rw[h]at h1;cases h1;exact⟨hs,h,h2⟩
mutual
theorem jy (R:NR B β H w M E e):∀(h:Sh) (c:AV) (v:Value) (x:LT h),R1 w β c v->Bn E H h c=I x->Qk β M (Cj H h c)->
  ∃os,Rel B.P w M e h x v os/\Ax os=Ax ((Cb H h c).filterMap β)
 | .int k,c,v,x,hv,hx,_=>by
  cases c with
  | lit v'=>
   cases v'<;>first|(simp[Bn]at hx;done)|skip
   simp only[Bn]at hx;split at hx
   .rename_i e1;simp at e1;subst e1;cases hx;exact⟨[],⟨hv.lits,rfl⟩,rfl⟩
   .cases hx
  | _=>simp[Bn]at hx
 | .bool,c,v,x,hv,hx,_=>by
  cases c with
  | lit v'=>
   cases v'<;>first|(simp[Bn]at hx;done)|skip
   simp only[Bn]at hx;cases hx;exact⟨[],⟨hv.lits,rfl⟩,rfl⟩
  | _=>simp[Bn]at hx
 | .str,c,v,x,hv,hx,_=>by
  cases c with
  | lit v'=>
   cases v'<;>first|(simp[Bn]at hx;done)|skip
   simp only[Bn]at hx;cases hx;exact⟨[],⟨hv.lits,rfl⟩,rfl⟩
  | _=>simp[Bn]at hx
 | .sl k,c,v,x,hv,hx,_=>by
  cases c with
  | sl k' xs=>
   obtain⟨e1,rfl⟩:=Hq<|show Ig k' k xs=I x from hx;subst e1;exact⟨[],⟨hv.sls.Qz rfl R.hM,rfl⟩,rfl⟩
  | lit v'=>
   cases v' with
   | slice a n cap=>
    cases a<;>cases n<;>cases cap<;>simp[Bn]at hx;subst hx;have:=hv.lits;subst this;exact⟨[],⟨λ_ _=> .nil,rfl⟩,rfl⟩
   | _=>simp[Bn]at hx
  | _=>simp[Bn]at hx
 | .fz k,c,v,x,hv,hx,hf=>by
  cases c with
  | sl k' xs=>
   obtain⟨e1,rfl⟩:=Hq<|show Ig k' k xs=I x from hx;subst e1;exact⟨[],⟨hv.sls.Qz rfl R.hM,rfl⟩,rfl⟩
  | lit v'=>
   cases v' with
   | slice a n cap=>
    cases a<;>cases n<;>cases cap<;>simp[Bn,CD]at hx;subst hx;have:=hv.lits;subst this;exact⟨[],⟨λ_ _=> .nil,rfl⟩,rfl⟩
   | _=>simp[Bn,CD]at hx
  | own id=>
   simp only[Bn,CD]at hx;split at hx
   .rename_i t fz k' ys hid;obtain⟨e1,rfl⟩:=Hq hx;subst e1;obtain⟨h1,h2,h3⟩:=lj R hv.oA hid;exact⟨[],⟨h3.ayh R.hM λa ha=>hf id (by simp[Cj]) _ a h2 ha,rfl⟩,rfl⟩
   .cases hx
  | _=>simp[Bn,CD]at hx
 | .row t k,c,v,x,hv,hx,_=>by
  cases c with
  | lit v'=>
   cases v' with
   | slice a n cap=>
    cases a<;>cases n<;>cases cap<;>simp[Bn]at hx;subst hx;have:=hv.lits;subst this;exact⟨[(.slice G 0 0,0)],⟨rfl,rfl,λ_ _=> .inl ⟨rfl,rfl⟩⟩,rfl⟩
   | _=>simp[Bn]at hx
  | own id=>
   simp only[Bn]at hx;split at hx
   .rename_i t' k' ys hid;split at hx
    .rename_i ht;obtain rfl:=Bk ht;obtain⟨e1,rfl⟩:=Hq hx;subst e1;obtain⟨h1,h2,h3⟩:=lj R hv.oA hid;exact⟨[(v,ys.length)],⟨rfl,h1,h3.imm R.hM⟩,by simp[Cb,h2]⟩
    .cases hx
   .cases hx
  | _=>simp[Bn]at hx
 | .Cd t k,c,v,x,hv,hx,_=>by
  cases c with
  | own id=>
   simp only[Bn]at hx;split at hx
   .rename_i t' k' ys hid;split at hx
    .rename_i ht;obtain rfl:=Bk ht;obtain⟨e1,rfl⟩:=Hq hx;subst e1;obtain⟨h1,h2,h3⟩:=lj R hv.oA hid;exact⟨[(v,ys.length)],⟨rfl,h1,h3.imm R.hM⟩,by simp[Cb,h2]⟩
    .cases hx
   .cases hx
  | _=>simp[Bn]at hx
 | .abx t k,c,v,x,hv,hx,_=>by
  cases c with
  | ptr id z i o=>
   cases i<;>cases o<;>simp only[Bn]at hx<;>first|(cases hx;done)|skip
   split at hx
   .rename_i t' k' ys hid;split at hx
    .rename_i ht;simp only[AD]at ht;obtain rfl:=Bk ht.1;obtain⟨e1,rfl⟩:=Hq hx;subst e1;have hv:=hv.Qy;cases hv with
     | @ptr _ _ _ _ hd n b f h1 ha hi=>
      obtain⟨b',us,k1,k2,k3,k4,k5⟩:=R.hs.EK id _ hid;rw[h1]at k1;cases k1;cases ha;have e0:0 * z=0:=TY z;refine⟨[(.pointer<|I ⟨b,0,G⟩,ys.length)],⟨?_,hi,b,us, ?_,k2,k3,k4,λβ' hβ' i x j c u a1 a2 a3=>(k5 i x j c u a1 a2 a3).Qz (IQ k' x a2) R.hM β' hβ'⟩,by simp[Cb,h1]⟩
      .simp
      .simp
    .cases hx
   .cases hx
  | _=>simp[Bn]at hx
 | .arr k,c,v,x,hv,hx,_=>by
  cases c with
  | arr k' xs=>
   obtain⟨e1,rfl⟩:=Hq<|show Ig k' k xs=I x from hx;subst e1;obtain⟨us,k1,k2,k3⟩:=hv;exact⟨[],⟨rfl,λβ' hβ'=>⟨us,k1,k2,λi x j c u a1 a2 a3=>(k3 i x j c u a1 a2 a3).Qz (IQ k' x a2) R.hM β' hβ'⟩⟩,rfl⟩
  | _=>simp[Bn]at hx
 | .same t,c,v,x,hv,hx,_=>by
  cases c with
  | ptr id z i o=>
   cases i<;>cases o<;>simp only[Bn]at hx<;>first|(cases hx;done)|skip
   split at hx
   .rename_i id' z' hE;split at hx
    .rename_i hid;obtain rfl:=Bk hid;have h2:=R.hE t _ _ hE;rw[hE]at h2;have h2:=h2.Qy;have h1:=hv.Qy;refine⟨[],⟨rfl, ?_,h1.one⟩,rfl⟩;generalize e t=v2 at h2;cases h1 with
     | ptr a1 a2 a3=>
      cases h2 with
      | ptr b1 b2 b3=>
       rw[a1]at b1;cases b1;rw[a2]at b2;cases b2;simp
    .cases hx
   .cases hx
  | _=>simp[Bn]at hx
 | .agg l,c,v,x,hv,hx,hf=>by
  cases c with
  | agg cs=>
   obtain⟨us,rfl,hr⟩:=hv;obtain⟨os,h1,h2⟩:=jA R l cs us x hr hx hf;exact⟨os,⟨us,rfl,h1⟩,h2⟩
  | _=>simp[Bn]at hx
 | .box t l,c,v,x,hv,hx,hf=>by
  cases c with
  | ptr id z i o=>
   cases i<;>cases o<;>simp only[Bn]at hx<;>first|(cases hx;done)|skip
   split at hx
   .rename_i t' cs hid;split at hx
    .rename_i ht;obtain rfl:=Bk ht;have hv:=hv.Qy;cases hv with
     | @ptr _ _ _ _ hd n b f h1 ha hi=>
      obtain⟨b',us,k1,k2,k3⟩:=R.hs.EK id _ hid;rw[h1]at k1;cases k1;cases ha;obtain⟨os,j1,j2⟩:=jA R l cs us.toList x k3 hx (by simpa only[Cj,hid] using hf);refine⟨os++[(.pointer<|I ⟨b,0,G⟩,1)],⟨b,us,os,by simp,k2,j1,by simp⟩, ?_⟩;have:Cb H (.box t l) (.ptr id z 0 0)=Bi H l cs++[id]:=by simp only[Cb,hid]
      rw[this];simp only[Ax,Ls]at j2 ⊢;rw[j2];simp[h1]
    .cases hx
   .cases hx
  | _=>simp[Bn]at hx
theorem jA (R:NR B β H w M E e):∀(l:List Sh) (cs:List AV) (us:List Value) (x:LTs l),RL (RC w β) cs us->GF E H l cs=I x->Qk β M (Cr H l cs)->
  ∃os,Cf B.P w M e l x us os/\Ax os=Ax ((Bi H l cs).filterMap β)
 | [],[],us,x,hr,hx,_=>⟨[],⟨hr.of_nil,rfl⟩,rfl⟩
 | [],_::_,us,x,hr,hx,_=>by cases hx
 | _::_,[],us,x,hr,hx,_=>by cases hx
 | h::l,c::cs,us,x,hr,hx,hf=>by
  obtain⟨u,us',rfl,h1,h2⟩:=hr.C8;obtain⟨x1,e1,hx⟩:=Ag.1 hx;obtain⟨x2,e2,hx⟩:=Ag.1 hx;cases hx;obtain⟨o1,j1,j2⟩:=jy R h c u x1 (R1.M9 h1) e1 (λi hi=>hf i<|Bw _ hi);obtain⟨o2,j3,j4⟩:=jA R l cs us' x2 h2 e2 (λi hi=>hf i<|CS _ hi);refine⟨o1++o2,⟨u,us',o1,o2,rfl,rfl,j1,j3⟩, ?_⟩;simp only[Ax,Ls,Bi]at j2 j4 ⊢;rw[j2,j4]
end
def WX(R:NR B β H w M E e):∀(l:List Sh) (cs:List AV) (us:List Value) (x:LTs l),RL (R1 w β) cs us->GF E H l cs=I x->Qk β M (Cr H l cs)->
  ∃os,Cf B.P w M e l x us os/\Ax os=Ax ((Bi H l cs).filterMap β)
 | [],[],us,x,hr,hx,_=>⟨[],⟨hr.of_nil,rfl⟩,rfl⟩
 | [],_::_,us,x,hr,hx,_=>by cases hx
 | _::_,[],us,x,hr,hx,_=>by cases hx
 | h::l,c::cs,us,x,hr,hx,hf=>by
  obtain⟨u,us',rfl,h1,h2⟩:=hr.C8;obtain⟨x1,e1,hx⟩:=Ag.1 hx;obtain⟨x2,e2,hx⟩:=Ag.1 hx;cases hx;obtain⟨o1,j1,j2⟩:=jy R h c u x1 h1 e1 (λi hi=>hf i<|Bw _ hi);obtain⟨o2,j3,j4⟩:=WX R l cs us' x2 h2 e2 (λi hi=>hf i<|CS _ hi);refine⟨o1++o2,⟨u,us',o1,o2,rfl,rfl,j1,j3⟩, ?_⟩;simp only[Ax,Ls,Bi]at j2 j4 ⊢;rw[j2,j4]
end
end Go.VS
namespace Go.VS
open Go
section
variable {P:Program} {β:Beta} {H:Hp} {w:World} {M:Nat->Prop} {E:Nat->AV} {e:Nat->Value} {b:Nat}
def IJ(P:Program)(w:World)(β:Beta)(H H':Hp)(b n:Nat):Prop:=
 (∀j,j<b\/b+n<=j->H' j=H j)/\(∀j,b<=j->j<b+n->∃ob,H' j=I ob/\E5 P w β j ob)
def IJ.nil:IJ P w β H H b 0:=⟨λ_ _=>rfl,λj h1 h2=>by omega⟩
def IJ.one{ob:Ob}(h:E5 P w β b ob):IJ P w β H (upd H b<|I ob) b 1:=by
 refine⟨λj hj=>BB _ _ J,λj h1 h2=> ?_⟩;have:j=b:=J
 subst this;exact⟨ob,Be _ _ _,h⟩
def IJ.trans{H' H'':Hp}{n m:Nat}(h:IJ P w β H H' b n)(k:IJ P w β H' H'' (b+n) m):IJ P w β H H'' b (n+m):=by
 refine⟨λj hj=> ?_,λj h1 h2=> ?_⟩
 .rw[k.1 j J,h.1 j J]
 .by_cases e:j<b+n
  .obtain⟨ob,k1,k2⟩:=h.2 j h1 e;exact⟨ob,by rw[k.1 j<|.inl e];exact k1,k2⟩
  .exact k.2 j J J
def Num(β:Beta)(b:Nat)(os:List (Value×Nat)):Prop:=∀i p,os[i]? =I p->β (b+i)=I p
def Num.left{o1 o2:List (Value×Nat)}(h:Num β b (o1++o2)):Num β b o1:=λi p hp=>h i p (by
 rw[I8 (BN.1 hp).1];exact hp)
def Num.right{o1 o2:List (Value×Nat)}(h:Num β b (o1++o2)):Num β (b+o1.length) o2:=λi p hp=>by
 have:=h (o1.length+i) p (by rw[F1 J];simpa using hp);rw[D6];exact this
def Num.one{p:Value×Nat}{os:List (Value×Nat)}(h:Num β b (os++[p])):β (b+os.length)=I p:=by
 have:=h.right 0 p rfl;simpa using this
def Tb(w:World)(β:Beta)(E:Nat->AV)(e:Nat->Value)(ts:List Nat):Prop:=∀t∈ts,R1 w β (E t)<|e t
def R1.ayi{c:AV}{v:Value}(h:R1 w β c v)(h1:v.oneCell'=Y):RC w β c v:=by
 cases c with
 | un=>exact .un h1
 | lit v'=>have:=h.lits;subst this;exact .lit h1
 | sl k xs=>exact h
 | own id=>exact h
 | ptr a b c d=>exact h
 | ipt a b c=>exact h
 | arr k xs=>obtain⟨us,rfl,_⟩:=h;cases h1
 | agg cs=>obtain⟨us,rfl,_⟩:=h;cases h1
 | tup vs=>exact h.elim
 | gd a b c=>exact h.elim
mutual
theorem aaH (hM:∀b,MZ β b->M b):∀(h:Sh) (H:Hp) (b:Nat) (x:LT h) (v:Value) (os:List (Value×Nat)),Ib h=Y->Rel P w M e h x v os->Num β b os->Tb w β E e (Ll h)->
  RC w β (BG E H b h x).1 v/\(BG E H b h x).2.2=b+os.length/\IJ P w β H (BG E H b h x).2.1 b os.length
 | .int k,H,b,x,v,os,_,hr,_,_=>by obtain⟨rfl,rfl⟩:=hr;exact⟨.lit rfl,rfl,.nil⟩
 | .bool,H,b,x,v,os,_,hr,_,_=>by obtain⟨rfl,rfl⟩:=hr;exact⟨.lit rfl,rfl,.nil⟩
 | .str,H,b,x,v,os,_,hr,_,_=>by obtain⟨rfl,rfl⟩:=hr;exact⟨.lit rfl,rfl,.nil⟩
 | .sl k,H,b,x,v,os,_,hr,_,_=>by obtain⟨h1,rfl⟩:=hr;exact⟨h1 β hM,rfl,.nil⟩
 | .fz k,H,b,x,v,os,_,hr,_,_=>by obtain⟨h1,rfl⟩:=hr;exact⟨h1 β hM,rfl,.nil⟩
 | .row t k,H,b,x,v,os,_,hr,hn,_=>by
  obtain⟨rfl,h1,h2⟩:=hr;have hb:β b=I (v,x.length):=hn.one (os:=[]);exact⟨.own hb h1,rfl,.one ⟨v,hb,h2 β hM⟩⟩
 | .Cd t k,H,b,x,v,os,_,hr,hn,_=>by
  obtain⟨rfl,h1,h2⟩:=hr;have hb:β b=I (v,x.length):=hn.one (os:=[]);exact⟨.own hb h1,rfl,.one ⟨v,hb,h2 β hM⟩⟩
 | .abx t k,H,b,x,v,os,_,hr,hn,_=>by
  obtain⟨rfl,h1,bb,us,rfl,h3,h4,h5,h6⟩:=hr;have hb:β b=I (.pointer<|I ⟨bb,0,G⟩,x.length):=hn.one (os:=[]);refine⟨?_,rfl,.one ⟨bb,us,hb,h3,h4,h5,h6 β hM⟩⟩;have:=RC.ptr (w:=w) (sz:=ks k) (o:=0) hb (rfl:adr (.pointer<|I ⟨bb,0,G⟩)=I ⟨bb,0,G⟩) (i:=0) J;show RC w β (.ptr b (ks k) 0 0) _;simpa using this
 | .arr _,_,_,_,_,_,h,_,_,_=>by simp[Ib]at h
 | .agg _,_,_,_,_,_,h,_,_,_=>by simp[Ib]at h
 | .same t,H,b,x,v,os,_,hr,_,hs=>by
  obtain⟨rfl,rfl,h1⟩:=hr;refine⟨?_,rfl,.nil⟩;exact(hs t<|by simp[Ll]).ayi h1
 | .box t l,H,b,x,v,os,hl,hr,hn,hs=>by
  obtain⟨bb,us,os',rfl,h2,h3,rfl⟩:=hr;have un:BG E H b (.box t l) x=(match Ah E H b l x with|(cs,H,b)=>(AV.ptr b cs.length 0 0,upd H b<|I<|.box t cs,b+1)):=rfl;obtain⟨k1,k2,k3⟩:=Xe hM l H b x us.toList os' (by simpa[Ib] using hl) h3 hn.left (by simpa[Ll] using hs);rw[un];generalize Ah E H b l x=r at *;obtain⟨cs,H',b'⟩:=r;simp only at k1 k2 k3;subst k2;have hb:=hn.one;refine⟨?_,by simp[D6], ?_⟩
  .have:=RC.ptr (w:=w) (sz:=cs.length) (o:=0) hb (rfl:adr (.pointer<|I ⟨bb,0,G⟩)=I ⟨bb,0,G⟩) (i:=0) J;simpa using this
  .rw[Aq];exact k3.trans<|.one ⟨bb,us,hb,h2,k1⟩
theorem Xe (hM:∀b,MZ β b->M b):∀(l:List Sh) (H:Hp) (b:Nat) (x:LTs l) (us:List Value) (os:List (Value×Nat)),Mk l=Y->Cf P w M e l x us os->Num β b os->Tb w β E e (IY l)->
  RL (RC w β) (Ah E H b l x).1 us/\(Ah E H b l x).2.2=b+os.length/\IJ P w β H (Ah E H b l x).2.1 b os.length
 | [],H,b,x,us,os,_,hr,_,_=>by obtain⟨rfl,rfl⟩:=hr;exact⟨.nil,rfl,.nil⟩
 | h::l,H,b,x,us,os,hl,hr,hn,hs=>by
  obtain⟨u,us',o1,o2,rfl,rfl,h1,h2⟩:=hr;simp only[Mk,AD]at hl;have un:Ah E H b (h::l) x=(match BG E H b h x.1 with|(c,H,b)=>match Ah E H b l x.2 with|(cs,H,b)=>(c::cs,H,b)):=rfl;obtain⟨k1,k2,k3⟩:=aaH hM h H b x.1 u o1 hl.1 h1 hn.left (λt ht=>hs t<|Bw _ ht);rw[un];generalize BG E H b h x.1=r at *;obtain⟨c,H',b'⟩:=r;simp only at k1 k2 k3 ⊢;subst k2;obtain⟨j1,j2,j3⟩:=Xe hM l H' (b+o1.length) x.2 us' o2 hl.2 h2 hn.right (λt ht=>hs t<|CS _ ht);generalize Ah E H' (b+o1.length) l x.2=r at *;obtain⟨cs,H'',b''⟩:=r;simp only at j1 j2 j3 ⊢;subst j2;refine⟨.cons k1 j1,by simp[D6], ?_⟩;rw[Aq];exact k3.trans j3
end
def aaG(hM:∀b,MZ β b->M b)(h:Sh)(H:Hp)(b:Nat)(x:LT h)(v:Value)(os:List (Value×Nat))(ht:my h=Y)(hr:Rel P w M e h x v os)(hn:Num β b os)(hs:Tb w β E e (Ll h)):
  R1 w β (BG E H b h x).1 v/\(BG E H b h x).2.2=b+os.length/\IJ P w β H (BG E H b h x).2.1 b os.length:=by
 by_cases hh:Ib h=Y
 .obtain⟨h1,h2,h3⟩:=aaH hM h H b x v os hh hr hn hs;exact⟨.M9 h1,h2,h3⟩
 .cases h<;>first|(exact absurd ht hh;done)|skip
  case agg l=>
   obtain⟨us,rfl,h1⟩:=hr;have un:BG E H b (.agg l) x=(match Ah E H b l x with|(cs,H,b)=>(AV.agg cs,H,b)):=rfl;obtain⟨k1,k2,k3⟩:=Xe hM l H b x us os ht h1 hn hs;rw[un];generalize Ah E H b l x=r at *;obtain⟨cs,H',b'⟩:=r;exact⟨⟨us,rfl,k1⟩,k2,k3⟩
  case arr k=>
   obtain⟨rfl,h1⟩:=hr;exact⟨h1 β hM,rfl,.nil⟩
def Xd(hM:∀b,MZ β b->M b):∀(l:List Sh) (H:Hp) (b:Nat) (x:LTs l) (us:List Value) (os:List (Value×Nat)),Jo l=Y->Cf P w M e l x us os->Num β b os->Tb w β E e (IY l)->
  RL (R1 w β) (Ah E H b l x).1 us/\(Ah E H b l x).2.2=b+os.length/\IJ P w β H (Ah E H b l x).2.1 b os.length
 | [],H,b,x,us,os,_,hr,_,_=>by obtain⟨rfl,rfl⟩:=hr;exact⟨.nil,rfl,.nil⟩
 | h::l,H,b,x,us,os,hl,hr,hn,hs=>by
  obtain⟨u,us',o1,o2,rfl,rfl,h1,h2⟩:=hr;simp only[Jo,AD]at hl;have un:Ah E H b (h::l) x=(match BG E H b h x.1 with|(c,H,b)=>match Ah E H b l x.2 with|(cs,H,b)=>(c::cs,H,b)):=rfl;obtain⟨k1,k2,k3⟩:=aaG hM h H b x.1 u o1 hl.1 h1 hn.left (λt ht=>hs t<|Bw _ ht);rw[un];generalize BG E H b h x.1=r at *;obtain⟨c,H',b'⟩:=r;simp only at k1 k2 k3 ⊢;subst k2;obtain⟨j1,j2,j3⟩:=Xd hM l H' (b+o1.length) x.2 us' o2 hl.2 h2 hn.right (λt ht=>hs t<|CS _ ht);generalize Ah E H' (b+o1.length) l x.2=r at *;obtain⟨cs,H'',b''⟩:=r;simp only at j1 j2 j3 ⊢;subst j2;refine⟨.cons k1 j1,by simp[D6], ?_⟩;rw[Aq];exact k3.trans j3
end
end Go.VS
namespace Go.VS
open Go
def WZ:∀ {l:List Nat},Mt l=Y->l.Nodup
 | [],_=>List.nodup_nil
 | a::l,h=>by
  simp only[Mt,AD,CE]at h;refine IC.2 ⟨λhm=> ?_,WZ h.2⟩;have:(l.any λb=>Af a b)=Y:=KA.2 ⟨a,hm,by simp⟩;rw[this]at h;cases h.1
def aDe{l m:List Nat}(h:off l m=Y):∀a∈l,a ∉ m:=λa ha hm=>by
 have h1:=DM.1 h a ha;have:(m.any λb=>Af a b)=Y:=KA.2 ⟨a,hm,by simp⟩;rw[this]at h1;cases h1
section
variable {B:Bb} {β β':Beta} {H H':Hp} {w w':World} {M:Nat->Prop} {E:Nat->AV} {e:Nat->Value} {stk:List (Array Value)} {s s':S} {a:Act}
def Md{ids:List Nat}{b:Nat}(h:b∈Ax (ids.filterMap β)):∃i∈ids,∃p a,β i=I p/\adr p.1=I a/\a.block=b:=by
 obtain⟨p,hp,hb⟩:=GO.1 h;obtain⟨i,hi,hβ⟩:=GO.1 hp;obtain⟨a,ha,e⟩:=DA.1 hb;exact⟨i,hi,p,a,hβ,ha,e⟩
def Wj(hH:Hs B β H w):∀ {ids:List Nat},ids.Nodup->(Ax<|ids.filterMap β).Nodup
 | [],_=>List.nodup_nil
 | i::ids,h=>by
  obtain⟨h1,h2⟩:=IC.1 h;have ih:=Wj hH h2;cases hβ:β i with
  | none=>simpa[hβ] using ih
  | some p=>
   cases hb:HQ p with
   | none=>simpa[hβ,hb] using ih
   | some b=>
    simp only[Ax,ko,hβ,hb];refine IC.2 ⟨λhm=> ?_,ih⟩;obtain⟨j,hj,q,a',hq,ha',e'⟩:=Md hm;obtain⟨a,ha,e⟩:=DA.1 hb;have:=hH.inj i j p q a a' hβ hq ha ha' (by rw[e,e']);subst this;exact h1 hj
def Sw{ids:List Nat}{b:Nat}(h:b∈Ax (ids.filterMap β)):MB β b:=by
 obtain⟨i,_,p,a,h1,h2,h3⟩:=Md h;exact⟨i,p.1,p.2,a,h1,h2,h3⟩
abbrev MO(B:Bb)(l:List Nat)(b:Nat):Prop:=b∈l\/B.Z b
def abh(hH:Hs B β H w){ids:List Nat}{b:Nat}(h:MO B (Ax<|ids.filterMap β) b):MZ β b:=by
 obtain h|h:=h
 .exact .inl (Sw h)
 .exact .inr (by rw[hH.z];exact h)
def kb(hH:Hs B β H w){fz ids:List Nat}(h:off fz ids=Y):Qk β (MO B<|Ax<|ids.filterMap β) fz:=by
 intro i hi p a hp ha hm;obtain hm|hm:=hm
 case inr=>rw[← hH.z]at hm;exact hH.zn i p a hp ha hm
 obtain⟨j,hj,q,a',hq,ha',e⟩:=Md hm;have:=hH.inj i j p q a a' hp hq ha ha' e.symm;subst this;exact aDe h i hi hj
def HY(Z:Nat->Prop)(os:List (Value×Nat)):Beta:=⟨λi=>os[i]?, Z⟩
def kQ(Z:Nat->Prop)(os:List (Value×Nat)):Num (HY Z os) 0 os:=λi p h=>by rw[DZ];exact h
def Ml{Z:Nat->Prop}{os:List (Value×Nat)}{b:Nat}(h:MB (HY Z os) b):b∈Ax os:=by
 obtain⟨i,hd,n,a,h1,h2,h3⟩:=h;exact GO.2 ⟨(hd,n),Cl h1,by simp[HQ,h2,h3]⟩
def lp{os:List (Value×Nat)}{b:Nat}(h:MZ (HY B.Z os) b):MO B (Ax os) b:=h.imp Ml λh=>h
def Xb{os:List (Value×Nat)}(h:(Ax os).Nodup):∀(i j:Nat) (p q:Value×Nat) (a a':Addr),os[i]? =I p->os[j]? =I q->adr p.1=I a->adr q.1=I a'->a.block=a'.block->i=j:=by
 induction os with
 | nil=>intro i j p q a a' hi;simp at hi
 | cons x os ih=>
  have hx:∀ {p:Value×Nat} {a:Addr},adr p.1=I a->HQ p=I a.block:=λh=>by simp[HQ,h]
  have ih':(Ax os).Nodup:=by
   cases hb:HQ x with
   | none=>simpa[hb] using h
   | some b=>simp only[Ax,ko,hb]at h;exact(IC.1 h).2
  have U2:∀(j:Nat) (q:Value×Nat) (a a':Addr),os[j]? =I q->adr x.1=I a->adr q.1=I a'->a.block=a'.block->False:=by
   intro j q a a' hj ha ha' e;simp only[Ax,ko,hx ha]at h;refine(IC.1 h).1<|GO.2 ⟨q,Cl hj, ?_⟩;rw[hx ha',e]
  intro i j p q a a' hi hj ha ha' e;cases i with
  | zero=>
   simp at hi;subst hi;cases j with
   | zero=>rfl
   | succ j=>simp at hj;exact(U2 j q a a' hj ha ha' e).elim
  | succ i=>
   simp at hi;cases j with
   | zero=>simp at hj;subst hj;exact(U2 i p a' a hi ha' ha e.symm).elim
   | succ j=>simp at hj;rw[ih ih' i j p q a a' hi hj ha ha' e]
def Hs.ayS(hH:Hs B β H w){os:List (Value×Nat)}(hn:(Ax os).Nodup)(hb:∀b∈Ax os,MB β b)(hm:IJ B.P w (HY B.Z os) (λ_=>G) H' 0 os.length):Hs B (HY B.Z os) H' w where
 EK id ob ho:=by
  by_cases h:id<os.length
  .obtain⟨ob',h1,h2⟩:=hm.2 id (Cz _) J;rw[h1]at ho;cases ho;exact h2
  .rw[hm.1 id J]at ho;cases ho
 dom id p hp:=by
  have h:id<os.length:=(BN.1<|show os[id]? =I p from hp).1;obtain⟨ob',h1,_⟩:=hm.2 id (Cz _) J;exact⟨ob',h1⟩
 inj i j p q a a' hi hj:=Xb hn i j p q a a' hi hj
 old b h:=hH.old b (hb b<|Ml h)
 os:=hH.os
 tape:=hH.tape
 output:=hH.output
 size:=hH.size
 block:=hH.block
 z:=rfl
 zn id p a hp ha hz:=by
  have hb:=hb a.block (GO.2 ⟨p,Cl hp,by simp[HQ,ha]⟩);obtain⟨j,hd,n,a',h1,h2,h3⟩:=hb;refine hH.zn j _ a' h1 h2 ?_;rw[h3,hH.z];exact hz
 zl b h:=hH.zl b (by rw[hH.z];exact h)
 pk:=hH.pk
def aAe{E:Nat->AV}{h:Sh}{c:AV}{x:LT h}(hx:Bn E H h c=I x):(∀g w v,c≠ .gd g w v)/\ ∀vs,c≠ .tup vs:=by
 constructor
 .rintro g w v rfl;cases h<;>simp[Bn,CD]at hx
 .rintro vs rfl;cases h<;>simp[Bn,CD]at hx
def RT.ME{tm:Nat->Value}{c:AV}{v:Value}(h:RT w β tm c v)(h1:∀g w v,c≠ .gd g w v)(h2:∀vs,c≠ .tup vs):R1 w β c v:=by
 cases c<;>first|exact h|exact absurd rfl (h1 _ _ _)|exact absurd rfl (h2 _)
def aAN{tm:Nat->Value}{T:Nat->AV}(R:NR B β H w M T tm)(hT:∀t,RT w β tm (T t)<|tm t):∀(c:Sch) (x:Lv c),lm H T c=I x->Qk β M (lc H T c)->
  ∃os,Cf B.P w M tm (c.map (·.2)) x (c.map λp=>tm p.1) os/\Ax os=Ax ((OE H T c).filterMap β)
 | [],x,hx,_=>⟨[],⟨rfl,rfl⟩,rfl⟩
 | (t,h)::c,x,hx,hf=>by
  obtain⟨x1,e1,hx⟩:=Ag.1 hx;obtain⟨x2,e2,hx⟩:=Ag.1 hx;cases hx;obtain⟨p1,p2⟩:=aAe e1;obtain⟨o1,j1,j2⟩:=jy R h (T t) (tm t) x1 ((hT t).ME p1 p2) e1 (λi hi=>hf i<|Bw _ hi);obtain⟨o2,j3,j4⟩:=aAN R hT c x2 e2 (λi hi=>hf i<|CS _ hi);refine⟨o1++o2,⟨tm t,c.map λp=>tm p.1,o1,o2,rfl,rfl,j1,j3⟩, ?_⟩;simp only[Ax,Ls,OE]at j2 j4 ⊢;rw[j2,j4]
def aAr{P:Program}{tm:Nat->Value}(hM:∀b,MZ β b->M b):∀(c:Sch) (T:Nat->AV) (H:Hp) (b:Nat) (x:Lv c) (os:List (Value×Nat)),Jo (c.map (·.2))=Y->Cf P w M tm (c.map (·.2)) x (c.map λp=>tm p.1) os->Num β b os->(∀t,R1 w β (T t)<|tm t)->
  (∀t,R1 w β ((Mh T H b c x).1 t)<|tm t)/\(Mh T H b c x).2.2=b+os.length/\IJ P w β H (Mh T H b c x).2.1 b os.length
 | [],T,H,b,x,os,_,hr,_,hT=>by obtain⟨_,rfl⟩:=hr;exact⟨hT,rfl,.nil⟩
 | (t,h)::c,T,H,b,x,os,hl,hr,hn,hT=>by
  obtain⟨u,us',o1,o2,e1,rfl,h1,h2⟩:=hr;simp only[DO,Lt]at e1;obtain⟨rfl,rfl⟩:=e1;simp only[DO,Jo,AD]at hl;have un:Mh T H b ((t,h)::c) x=(match BG T H b h x.1 with|(v,H,b)=>Mh (upd T t v) H b c x.2):=rfl;obtain⟨k1,k2,k3⟩:=aaG (E:=T) hM h H b x.1 (tm t) o1 hl.1 h1 hn.left (λt' _=>hT t');rw[un];generalize BG T H b h x.1=r at *;obtain⟨v,H',b'⟩:=r;simp only at k1 k2 k3 ⊢;subst k2;obtain⟨j1,j2,j3⟩:=aAr hM c (upd T t v) H' (b+o1.length) x.2 o2 hl.2 h2 hn.right (λt'=>by
   by_cases e:t'=t
   .subst e;rw[Be];exact k1
   .rw[BB _ _ e];exact hT t')
  refine⟨j1,by rw[j2];simp[D6], ?_⟩;rw[Aq];exact k3.trans j3
def R1.Zw{tm:Nat->Value}{c:AV}{v:Value}(h:R1 w β c v):RT w β tm c v:= .HG<|.HH h
def St.join(hst:St B β stk s a w){c:Sch}{x:Lv c}(hx:rdS c s=I x):stk=[]/\ ∃β',St B β' [] (mkS s.n s.pins c x) a w/\Fr (mkS s.n s.pins c x)/\(mkS s.n s.pins c x).n=s.n/\(mkS s.n s.pins c x).pins=s.pins:=by
 unfold rdS at hx;split at hx
 .rename_i hs hnd hok;have R0:stk=[]:=by
   have:=hst.stack.1;rw[hs]at this;exact Du this
  refine⟨R0, ?_⟩;simp only[AD]at hnd;simp only[abp,AD]at hok;have R:NR B β s.H w (MO B<|Ax<|(OE s.H s.T c).filterMap β) s.T (BZ a):={
   hs:=hst.hs
   hM:=λb hb=>abh hst.hs hb
   hE:=λt id z e=>(hst.T t).ME (by rw[e];simp) (by rw[e];simp) }
  obtain⟨os,h1,h2⟩:=aAN R hst.T c x hx<|kb hst.hs hnd.2;have aG:(Ax os).Nodup:=by rw[h2];exact Wj hst.hs<|WZ hnd.1
  have hMB:∀b∈Ax os,MB β b:=λb hb=>by rw[h2]at hb;exact Sw hb
  obtain⟨k1,k2,k3⟩:=aAr (β:=HY B.Z os) (P:=B.P) (w:=w) (M:=MO B<|Ax<|(OE s.H s.T c).filterMap β) (tm:=BZ a) (λb hb=>by have:=lp hb;rw[h2]at this;exact this) c (λ_=> .un) (λ_=>G) 0 x os hok.1.2 h1 (kQ B.Z os) (λ_=>trivial);have un:mkS s.n s.pins c x=(match Mh (λ_=> .un) (λ_=>G) 0 c x with
   | (T,H,b)=>{ n:=s.n,T:=T,H:=H,nid:=b,st:=[],pins:=s.pins,gs:=λ_=>A0 }):=rfl
  rw[un];generalize Mh (λ_=> .un) (λ_=>G) 0 c x=r at *;obtain⟨T,H',b⟩:=r;simp only at k1 k2 k3;have hH:=hst.hs.ayS aG hMB k3;refine⟨HY B.Z os,⟨λt=>(k1 t).Zw,⟨rfl,λi T' tm h=>by simp at h⟩,hst.n,hst.defers,hst.pins,λt g want y hy=> ?_,hH⟩,λj hj=> ?_,rfl,rfl⟩
  .have:=k1 t;have hy:T t= .gd g want y:=hy;rw[hy]at this;exact this.elim
  .exact k3.1 j (.inr (by have hj:b<=j:=hj;omega))
 .cases hx
end
end Go.VS
namespace Go.VS
open Go
structure KOK {Ω:Type} (B:Bb) (stk:List (Array Value)) (n:Nat) (pins:List Nat) (k:Kt Ω) (q:Ω) (Q:Exit->Act->World->Prop):Prop where
 nrm:∀β a w s,St B β stk s a w->Fr s->s.n=n->s.pins=pins->k.nrm s=I q->Q .normal a w
 ret:∀β a w s,St B β stk s a w->Fr s->s.n=n->s.pins=pins->k.ret s=I q->Q .ret a w
 ext:∀id β a w s,St B β stk s a w->Fr s->s.n=n->s.pins=pins->k.ext id s=I q->Q (.exit id) a w
def Mp(B:Bb)(n:Nat)(pins:List Nat)(body:Code)(l:Loop):Prop:=∀(x:Lv l.sch) (r:Lv l.KM ⊕ Lv l.KN),l.run x=I r->∀(β:Beta) (a:Act) (w:World) (Q:Exit->Act->World->Prop),
 St B β [] (mkS n pins l.sch x) a w->Fr (mkS n pins l.sch x)->
 (∀y,r= .inl y->∀β a w,St B β [] (mkS n pins l.KM y) a w->Fr (mkS n pins l.KM y)->Q .ret a w)->
 (∀y,r= .inr y->∀β a w,St B β [] (mkS n pins l.KN y) a w->Fr (mkS n pins l.KN y)->Q (.exit l.xid) a w)->(Code.loop body).wp B.P Q a w
def HV(L:Code->Loop->Prop):Code->Adv->Prop
 | .seq a b,.join _ u v=>HV L a u/\HV L b v
 | .seq a b,v=>HV L a v.a/\HV L b v.z
 | .cond _ x y,v=>HV L x v.a/\HV L y v.z
 | .block _ c,v=>HV L c v.a
 | .loop c,.loop l=>L c l
 | _,_=>True
def G9(L:Code->Loop->Prop):∀c:Code,HV L c .nil
 | .seq a b=>⟨G9 L a,G9 L b⟩
 | .cond _ x y=>⟨G9 L x,G9 L y⟩
 | .block _ c=>G9 L c
 | .skip=>trivial
 | .region _ _ _=>trivial
 | .loop _=>trivial
 | .exit _=>trivial
 | .ret=>trivial
 | .rangeFunc _ _ _ _=>trivial
 | .scope _=>trivial
 | .label _=>trivial
 | .goto _=>trivial
 | .refuse _=>trivial
section
variable {C:Cx} {B:Bb} {inl:(Ω:Type)->Inl Ω}
def X0(hP:C.P=B.P)(hm:B.P.follows .mixedOrders=Y)(hC:HO C B)(hI:JB C B inl):∀(c:Code) {Ω:Type} (v:Adv) (k:Kt Ω) (s:S) (q:Ω) {β:Beta} {stk:List (Array Value)} {a:Act} {w:World} {Q:Exit->Act->World->Prop},
  evk C inl c Ω v k s=I q->St B β stk s a w->Fr s->HV (Mp B s.n s.pins) c v->KOK B stk s.n s.pins k q Q->c.wp B.P Q a w:=by
 intro c
 induction c with
 | skip=>exact λv k s q β stk a w Q he hst hfr _ hk=>wp_skip<|hk.nrm _ _ _ _ hst hfr rfl rfl he
 | region id ops draw=>
  intro Ω v k s q β stk a w Q he hst hfr _ hk;cases draw with
  | false=>exact aAU hP hC hI (show OV C (inl Ω) ops ops.toList s k.nrm=I q from he) hfr hst λβ a w s' h1 h2 h3 h4 h5=>hk.nrm β a w s' h1 h2 h3 h4 h5
  | true=>
   obtain⟨β1,hs1,_⟩:=St.L8 (Qp C ops s) hst;have hk1:=BC.L8 (N:=λ_=>False) (Qp C ops s)<|BC.refl _ s;have he:evD C ops ((Qp C ops s).foldl S.freeze s) ops.toList 0 s.nid [] ((Qp C ops s).foldl S.freeze s) k.nrm=I q:=he;rw[← hk1.nid]at he;exact arn hP hm hC he (λj hj=>hk1.nn j (λh=>h)<|hfr j (by rw[hk1.nid]at hj;exact hj)) hs1 λβ a w s' h1 h2 h3 h4 h5=>hk.nrm β a w s' h1 h2 (h3.trans hk1.n) (h4.trans hk1.pins) h5
 | seq x y ihx ihy=>
  intro Ω v k s q β stk a w Q he hst hfr GX hk;refine wp_seq ?_;by_cases hj:∃c u v',v= .join c u v'
  .obtain⟨c,u,v',rfl⟩:=hj;obtain⟨ha1,ha2⟩:=GX;have he:BT (λx=>evk C inl y Ω v' k<|mkS s.n s.pins c x) (evk C inl x (Ω ⊕ Lv c) u { nrm:=λs=>(rdS c s).bind λx=>I<|.inr x,ret:=λs=>(k.ret s).bind λo=>I<|.inl o,ext:=λj s=>(k.ext j s).bind λo=>I (.inl o) } s)=I q:=he;obtain⟨r,h1,h2⟩:=Ag.1 he;refine ihx u _ s r h1 hst hfr ha1 ⟨?_, ?_, ?_⟩
   .intro β' a' w' s' k1 k2 k3 k4 k5;obtain⟨z,j1,j2⟩:=Ag.1 k5;cases j2;obtain⟨rfl,β2,m1,m2,m3,m4⟩:=k1.join j1;rw[k3,k4]at m1 m2 m3 m4;exact ihy v' k _ q h2 m1 m2 (by rw[m3,m4];exact ha2) (by rw[m3,m4];exact hk)
   .intro β' a' w' s' k1 k2 k3 k4 k5;obtain⟨o,j1,j2⟩:=Ag.1 k5;cases j2;have h2:I o=I q:=h2;cases h2;exact hk.ret _ _ _ _ k1 k2 k3 k4 j1
   .intro id β' a' w' s' k1 k2 k3 k4 k5;obtain⟨o,j1,j2⟩:=Ag.1 k5;cases j2;have h2:I o=I q:=h2;cases h2;exact hk.ext id _ _ _ _ k1 k2 k3 k4 j1
  .have he:evk C inl x Ω v.a { k with nrm:=evk C inl y Ω v.z k } s=I q:=by
    cases v<;>first|exact he|exact absurd ⟨_,_,_,rfl⟩ hj
   have GX:HV (Mp B s.n s.pins) x v.a/\HV (Mp B s.n s.pins) y v.z:=by
    cases v<;>first|exact GX|exact absurd ⟨_,_,_,rfl⟩ hj
   refine ihx v.a _ s q he hst hfr GX.1 ⟨?_,hk.ret,hk.ext⟩;intro β' a' w' s' k1 k2 k3 k4 k5;exact ihy v.z k s' q k5 k1 k2 (by rw[k3,k4];exact GX.2) (by rw[k3,k4];exact hk)
 | cond o x y ihx ihy=>
  intro Ω v k s q β stk a w Q he hst hfr GX hk;have he:(match s.ev o with
   | .lit (.bool b)=>if b then evk C inl x Ω v.a k s else evk C inl y Ω v.z k s
   | _=>G)=I q:=he
  split at he
  .rename_i b hb;have h1:=hst.eval o;rw[hb]at h1;have h2:a.eval o= .bool b:=h1;refine wp_cond h2 ?_;cases b with
   | true=>exact ihx v.a k s q he hst hfr GX.1 hk
   | false=>exact ihy v.z k s q he hst hfr GX.2 hk
  .cases he
 | block id x ihx=>
  intro Ω v k s q β stk a w Q he hst hfr GX hk;refine wp_block ?_;have he:evk C inl x Ω v.a { k with ext:=λj s=>match Af j id with
   | true=>k.nrm s
   | false=>k.ext j s } s=I q:=he
  refine ihx v.a _ s q he hst hfr GX ⟨hk.nrm,hk.ret, ?_⟩;intro j β' a' w' s' k1 k2 k3 k4 k5;show if j=id then Q .normal a' w' else Q (.exit j) a' w'
  simp only at k5;split at k5
  .rename_i e;rw[A5<|Bk e];exact hk.nrm _ _ _ _ k1 k2 k3 k4 k5
  .rename_i e;rw[A9<|SM e];exact hk.ext _ _ _ _ _ k1 k2 k3 k4 k5
 | loop body _=>
  intro Ω v k s q β stk a w Q he hst hfr GX hk;cases v<;>first|(cases he;done)|skip
  rename_i l;have he:((rdS l.sch s).bind λx=>AP (l.run x) (λy=>k.ret<|mkS s.n s.pins l.KM y) λy=>k.ext l.xid (mkS s.n s.pins l.KN y))=I q:=he;obtain⟨x,h1,h2⟩:=Ag.1 he;obtain⟨r,h3,h4⟩:=Ag.1 h2;obtain⟨rfl,β',m1,m2,_,_⟩:=hst.join h1;have GX:Mp B s.n s.pins body l:=GX;refine GX x r h3 β' a w Q m1 m2 ?_ ?_
  .rintro y rfl β a w k1 k2;exact hk.ret _ _ _ _ k1 k2 (by unfold mkS;rfl) (by unfold mkS;rfl) h4
  .rintro y rfl β a w k1 k2;exact hk.ext _ _ _ _ _ k1 k2 (by unfold mkS;rfl) (by unfold mkS;rfl) h4
 | exit id=>exact λv k s q β stk a w Q he hst hfr _ hk=>wp_exit<|hk.ext _ _ _ _ _ hst hfr rfl rfl he
 | ret=>exact λv k s q β stk a w Q he hst hfr _ hk=>wp_ret<|hk.ret _ _ _ _ hst hfr rfl rfl he
 | _=>
  intro Ω v k s q β stk a w Q he;cases he
def ik(p:Nat->Prop)(h:∃n,p n):∃n,p n/\ ∀m,p m->n<=m:=by
 obtain⟨n,hn⟩:=h
 induction n using Nat.strongRecOn with
 | _ n ih=>
  by_cases hm:∃m,m<n/\p m
  .obtain⟨m,h1,h2⟩:=hm;exact ih m h1 h2
  .exact⟨n,hn,λm h=>Nat.le_of_not_lt λhlt=>hm ⟨m,hlt,h⟩⟩
def aBu{X H9:Type}{b:X->Option (X ⊕ H9)}{x:X}{y:H9}(h:AZ b x=I y):∃n,Hz b n x=I y:=by
 unfold AZ at h;split at h
 .rename_i hn;have:=Ik<|Ik hn;cases h;exact⟨_,this⟩
 .cases h
def iy{X H9:Type}{b:X->Option (X ⊕ H9)}:∀(n:Nat) (x:X) {y:H9},Hz b n x=I y->∀m,n<=m->Hz b m x=I y
 | 0,x,y,h=>by cases h
 | n+1,x,y,h=>by
  intro m hm;obtain⟨m,rfl⟩:∃k,m=k+1:=⟨m - 1,J⟩;obtain⟨r,h1,h2⟩:=Ag.1 (show((b x).bind λr=>match r with
   | .inl y=>Hz b n y
   | .inr z=>I z)=I y from h)
  show((b x).bind λr=>match r with
   | .inl y=>Hz b m y
   | .inr z=>I z)=I y
  rw[h1,A6];cases r with
  | inl z=>exact iy n z h2 m J
  | inr z=>exact h2
def aAy{X H9:Type}{b:X->Option (X ⊕ H9)}{x:X}{y:H9}{n:Nat}(h:Hz b n x=I y):AZ b x=I y:=by
 have hn:∃n y,Hz b n x=I y:=⟨n,y,h⟩;unfold AZ;rw[dif_pos hn];have h1:=Ik<|Ik hn;have h2:=iy _ _ h (n+Mw hn) J;have h3:=iy _ _ h1 (n+Mw hn) J;rw[h2]at h3;exact h3.symm
def aqN{X H9:Type}{b:X->Option (X ⊕ H9)}{n:Nat}{x:X}{y:H9}(h:Hz b (n+1) x=I y):∃r,b x=I r/\(∀x',r= .inl x'->Hz b n x'=I y)/\(∀z,r= .inr z->z=y):=by
 obtain⟨r,h1,h2⟩:=Ag.1 (show((b x).bind λr=>match r with
   | .inl y=>Hz b n y
   | .inr z=>I z)=I y from h)
 refine⟨r,h1, ?_, ?_⟩
 .rintro x' rfl;exact h2
 .rintro z rfl;exact Ei h2
def awH(hP:C.P=B.P)(hm:B.P.follows .mixedOrders=Y)(hC:HO C B)(hI:JB C B inl){n:Nat}{pins:List Nat}{body:Code}{v:Adv}{l:Loop}{b:Lv l.sch->Option (Lv l.sch ⊕ (Lv l.KM ⊕ Lv l.KN))}
  (hb:∀x,evL C inl n pins body v l x=b x)(hr:l.run=AZ b)(GX:HV (Mp B n pins) body v):Mp B n pins body l:=by
 intro x r Ce β a w Q hst hfr II azB;rw[hr]at Ce;obtain⟨N,hN⟩:=aBu Ce
 let SB:Nat->Act->World->Prop:=λm a w=>∃(x:Lv l.sch) (β:Beta),Hz b m x=I r/\St B β [] (mkS n pins l.sch x) a w/\Fr (mkS n pins l.sch x)
 classical
 let μ:Act->World->Nat:=λa w=>if h:∃m,SB m a w then Mw (ik _ h) else 0
 have hμ:∀a w,(h:∃m,SB m a w)->SB (μ a w) a w/\ ∀m,SB m a w->μ a w<=m:=λa w h=>by
  have:=Ik<|ik _ h;simp only[μ,dif_pos h];exact this
 refine wp_loop (λa w=>∃m,SB m a w) μ ⟨N,x,β,hN,hst,hfr⟩ ?_;intro a w hJ;obtain⟨⟨x,β,h1,h2,h3⟩,_⟩:=hμ a w hJ;generalize hm':μ a w=m at h1;cases m with
 | zero=>cases h1
 | succ m=>
  obtain⟨r1,k1,k2,k2'⟩:=aqN h1;have he:=hb x;rw[k1]at he;unfold evL at he;have en:(mkS n pins l.sch x).n=n:=by unfold mkS;rfl
  have ep:(mkS n pins l.sch x).pins=pins:=by unfold mkS;rfl
  refine X0 hP hm hC hI body v _ _ r1 he h2 h3 (by rw[en,ep];exact GX) ?_;rw[en,ep];refine⟨?_, ?_, ?_⟩
  .intro β' a' w' s' j1 j2 j3 j4 j5;obtain⟨y,i1,i2⟩:=Ag.1 j5;cases i2;obtain⟨_,β2,m1,m2,_,_⟩:=j1.join i1;rw[j3,j4]at m1 m2;have hJ':SB m a' w':=⟨y,β2,k2 y rfl,m1,m2⟩;refine⟨⟨m,hJ'⟩, ?_⟩;have:=(hμ a' w' ⟨m,hJ'⟩).2 m hJ';omega
  .intro β' a' w' s' j1 j2 j3 j4 j5;obtain⟨y,i1,i2⟩:=Ag.1 j5;cases i2;obtain⟨_,β2,m1,m2,_,_⟩:=j1.join i1;rw[j3,j4]at m1 m2;have k2:=k2' _ rfl;subst k2;exact II y rfl _ _ _ m1 m2
  .intro id β' a' w' s' j1 j2 j3 j4 j5;simp only at j5;split at j5
   .rename_i hid;obtain rfl:=Bk hid;obtain⟨y,i1,i2⟩:=Ag.1 j5;cases i2;obtain⟨_,β2,m1,m2,_,_⟩:=j1.join i1;rw[j3,j4]at m1 m2;have k2:=k2' _ rfl;subst k2;exact azB y rfl _ _ _ m1 m2
   .cases j5
end
end Go.VS
namespace Go.VS
open Go
def M6:List Value->Value
 | [v]=>v
 | vs=> .tuple vs.toArray
def Jk:List Sh->List Value->List Value
 | .box _ _::ps,v::vs=>v::Jk ps vs
 | _::ps,_::vs=>Jk ps vs
 | _,_=>[]
def Lj(P:Program)(f:FuncId):Prop:=∀(args:Array Value) (w:World),(callFunc f args).run P w= .ok (.enter f args) w
def O0{P:Program}{f:FuncId}{fn:Func}{c:Code}(hf:P.funcs[f]? =I fn)(KG:(fn.name == "runtime.NumGoroutine")=A0)(hb:fn.body=I c):Lj P f:=by
 intro args w;have nM:¬fn.name= "runtime.NumGoroutine" :=by simpa using KG
 simp[callFunc,hf,nM,hb]
abbrev ar(args:List Value):Nat->Value:=λi=>args.getD i undef
structure Ret (P:Program) (m:DS) (Z:Nat->Prop) (args:List Value) (os:List (Value×Nat)) (w:World) (r:LTs m.rs×LTs (Az m.ps)) (v:Value) (w':World):Prop where
 ex:∃vs os1 os2,v=M6 vs/\Cf P w' (λb=>b∈Ax (os1++os2)\/Z b) (ar args) m.rs r.1 vs os1/\Cf P w' (λb=>b∈Ax (os1++os2)\/Z b) (ar args) (Az m.ps) r.2 (Jk m.ps args) os2/\
  (Ax<|os1++os2).Nodup/\(∀b∈Ax (os1++os2),(b∈Ax os\/w.heap.size<=b)/\b<w'.heap.size)
 wos:w'.os=w.os
 tape:w'.tape=w.tape
 output:w'.output=w.output
 size:w.heap.size<=w'.heap.size
 block:∀b,b<w.heap.size->b ∉ Ax os->w'.heap[b]? =w.heap[b]?
 pk:Pk P w w'
def H6(P:Program)(f:FuncId)(m:DS):Prop:=Lj P f/\ ∀(x:LTs m.ps) (r:LTs m.rs×LTs (Az m.ps)),m.g x=I r->∀(w:World) (Z:Nat->Prop) (args:List Value) (os:List (Value×Nat)),
 Cf P w (λb=>b∈Ax os\/Z b) (ar args) m.ps x args os->(Ax os).Nodup->(∀b∈Ax os,b<w.heap.size/\ ¬Z b)->(∀b,Z b->b<w.heap.size)->NI P w (λb=>b∈Ax os)->
 Calls P f args.toArray w λen w'=>∃v,en= .returned v/\Ret P m Z args os w r v w'
section
variable {C:Cx} {B:Bb} {β:Beta} {H:Hp} {w w':World} {M:Nat->Prop} {stk:List (Array Value)} {s s':S} {a:Act} {P:Program} {e e':Nat->Value}
mutual
theorem Rel.congr:∀(h:Sh) (x:LT h) (v:Value) (os:List (Value×Nat)),(∀t∈Ll h,e t=e' t)->Rel P w M e h x v os->Rel P w M e' h x v os
 | .int _,_,_,_,_,h=>h
 | .bool,_,_,_,_,h=>h
 | .str,_,_,_,_,h=>h
 | .sl _,_,_,_,_,h=>h
 | .fz _,_,_,_,_,h=>h
 | .row _ _,_,_,_,_,h=>h
 | .Cd _ _,_,_,_,_,h=>h
 | .abx _ _,_,_,_,_,h=>h
 | .arr _,_,_,_,_,h=>h
 | .same t,_,_,_,he,h=>⟨h.1,h.2.1.trans<|he t<|by simp[Ll],h.2.2⟩
 | .agg l,x,v,os,he,h=>by
  obtain⟨us,h1,h2⟩:=h;exact⟨us,h1,Cf.congr l x us os he h2⟩
 | .box t l,x,v,os,he,h=>by
  obtain⟨b,us,os',h1,h2,h3,h4⟩:=h;exact⟨b,us,os',h1,h2,Cf.congr l x us.toList os' he h3,h4⟩
theorem Cf.congr:∀(l:List Sh) (x:LTs l) (us:List Value) (os:List (Value×Nat)),(∀t∈IY l,e t=e' t)->Cf P w M e l x us os->Cf P w M e' l x us os
 | [],_,_,_,_,h=>h
 | h::l,x,us,os,he,hr=>by
  obtain⟨u,us',o1,o2,h1,h2,h3,h4⟩:=hr;exact⟨u,us',o1,o2,h1,h2,Rel.congr h x.1 u o1 (λt ht=>he t<|Bw _ ht) h3,Cf.congr l x.2 us' o2 (λt ht=>he t<|CS _ ht) h4⟩
end
def Cf.length:∀ {l:List Sh} {x:LTs l} {us:List Value} {os:List (Value×Nat)},Cf P w M e l x us os->us.length=l.length
 | [],_,_,_,h=>by rw[h.1];rfl
 | h::l,x,us,os,hr=>by
  obtain⟨u,us',o1,o2,rfl,_,_,h4⟩:=hr;simp[Cf.length h4]
def zo{E:Nat->AV}:∀ {l:List Sh} {cs:List AV} {x:LTs l},GF E H l cs=I x->cs.length=l.length
 | [],[],_,_=>rfl
 | [],_::_,_,h=>by cases h
 | _::_,[],_,h=>by cases h
 | h::l,c::cs,x,hx=>by
  obtain⟨x1,e1,hx⟩:=Ag.1 hx;obtain⟨x2,e2,hx⟩:=Ag.1 hx;simp[zo e2]
def zy:∀ {l l':List Sh} {cs cs':List AV},cs.length=l.length->Bi H (l++l') (cs++cs')=Bi H l cs++Bi H l' cs'
 | [],l',[],cs',_=>rfl
 | h::l,l',c::cs,cs',hl=>by
  simp only[Ky,Bi,zy (l:=l) (cs:=cs)<|by simpa using hl,C3]
 | [],_,_::_,_,hl=>by simp at hl
 | _::_,_,[],_,hl=>by simp at hl
def zz:∀ {l l':List Sh} {cs cs':List AV},cs.length=l.length->Cr H (l++l') (cs++cs')=Cr H l cs++Cr H l' cs'
 | [],l',[],cs',_=>rfl
 | h::l,l',c::cs,cs',hl=>by
  simp only[Ky,Cr,zz (l:=l) (cs:=cs)<|by simpa using hl,C3]
 | [],_,_::_,_,hl=>by simp at hl
 | _::_,_,[],_,hl=>by simp at hl
def T4(tmps:Array Value):ResultVar->Sem Value
 | .tmp t=>pure (tmps.getD t undef)
 | .cell a t=>do loadVar t (← asAddr<|tmps.getD a undef)
def XR(hP:P=B.P)(hst:St B β stk s a w):∀(l:List ResultVar) {vs:List AV},Q7 P s l=I vs->
  ∃us:List Value,(l.mapM<|T4 a.tmps).run P w=Result.ok us w/\us.length=vs.length/\ ∀(i:Nat) (c:AV) (u:Value),vs[i]? =I c->us[i]? =I u->RX w β (BZ a) c u
 | [],vs,h=>by
  cases h;exact⟨[],rfl,rfl,λi c u h=>by simp at h⟩
 | .tmp t::l,vs,h=>by
  obtain⟨vs',h1,h⟩:=Ag.1 h;cases h;obtain⟨us,k1,k2,k3⟩:=XR hP hst l h1;refine⟨BZ a t::us, ?_,by simp[k2],λi c u h1 h2=> ?_⟩
  .simp only[TK,T4,Ej,Fl,F3,k1];rfl
  .cases i with
   | zero=>
    simp at h1 h2;subst h1;subst h2;exact(hst.T t).Zv
   | succ i=>exact k3 i c u (by simpa using h1)<|by simpa using h2
 | .cell x t::l,vs,h=>by
  obtain⟨v,h0,h⟩:=Ag.1 h;obtain⟨vs',h1,h⟩:=Ag.1 h;cases h;obtain⟨us,k1,k2,k3⟩:=XR hP hst l h1;have hx:R2 w β (s.T x) (BZ a x):=(hst.T x).Zx (by
   cases hT:s.T x<;>first|rfl|(rw[hT]at h0;cases h0))
  obtain⟨u,j1,j2⟩:=aCU hP hst.hs hx h0;have azf:∃ad,BZ a x= .pointer (I ad):=by
   cases hT:s.T x<;>rw[hT]at h0 hx<;>first|(cases h0;done)|skip
   .rename_i id z i o;have hx:RC w β (.ptr id z i o) (BZ a x):=hx;generalize BZ a x=y at hx;cases hx;exact⟨_,rfl⟩
   .rename_i k xx o;have hx:RC w β (.ipt k xx o) (BZ a x):=hx;generalize BZ a x=y at hx;cases hx;exact⟨_,rfl⟩
  obtain⟨ad,had⟩:=azf;have azG:a.tmps.getD x undef= .pointer (I ad):=had;rw[had]at j1;refine⟨u::us, ?_,by simp[k2],λi c u' h1 h2=> ?_⟩
  .have j1':(loadVar t ad).run P w= .ok u w:=by simpa[N4,JK] using j1
   simp only[TK,T4,azG,asAddr,Ej,Fl,F3,j1',k1]
  .cases i with
   | zero=>
    simp at h1 h2;subst h1;subst h2;exact(RT.HG<|R2.HH j2).Zv
   | succ i=>exact k3 i c u' (by simpa using h1)<|by simpa using h2
def aAL{fn:Func}{us:List Value}(h:(fn.results.toList.mapM<|T4 a.tmps).run P w=Result.ok us w):(results fn a.tmps).run P w= .ok (M6 us) w:=by
 have e1:results fn a.tmps=(do
   let vs ← fn.results.mapM (T4 a.tmps)
   pure (if h:vs.size=1 then vs[0] else .tuple vs)):=rfl
 rw[e1,Array.mapM_eq_mapM_toList,map_eq_pure_bind];simp only[bind_assoc,pure_bind,Ej,h,F3,Fl]
 match us with
 | []=>rfl
 | [u]=>rfl
 | u::v::l=>simp[M6]
end
end Go.VS
namespace Go.VS
open Go
def okM(m:DS)(n:Nat):Bool:=Jo m.ps&&Jo m.rs&&Dq m.ps.length n&&(IY m.rs++IY (Az m.ps)).all λt=>(Dw 0 m.ps).any λp=>Af p t
section
variable {C:Cx} {B:Bb} {β:Beta} {H:Hp} {w w':World} {M:Nat->Prop} {stk:List (Array Value)} {s s':S} {a:Act} {P:Program} {e e':Nat->Value} {inl:(Ω:Type)->Inl Ω}
def W6{E:Nat->AV}:∀ {l:List Sh} {cs:List AV} {x:LTs l},GF E H l cs=I x->∀c∈cs,(∀g w v,c≠ .gd g w v)/\ ∀vs,c≠ .tup vs
 | [],[],_,_,c,hc=>by cases hc
 | [],_::_,_,h,_,_=>by cases h
 | _::_,[],_,h,_,_=>by cases h
 | h::l,d::cs,x,hx,c,hc=>by
  obtain⟨x1,e1,hx⟩:=Ag.1 hx;obtain⟨x2,e2,hx⟩:=Ag.1 hx;obtain rfl|hc:=Bm.1 hc
  .exact aAe e1
  .exact W6 e2 c hc
def RX.ME{tm:Nat->Value}{c:AV}{v:Value}(h:RX w β tm c v)(h1:∀g w v,c≠ .gd g w v)(h2:∀vs,c≠ .tup vs):R1 w β c v:=by
 have:=h.of h1;cases c<;>first|exact this|exact absurd rfl (h2 _)
def aA3(args:List Value):∀(ps:List Sh) (k:Nat),args.length=k+ps.length->Jk ps (args.drop k)=(Dw k ps).map (ar args)
 | [],k,h=>by
  have:args.drop k=[]:=Lu (by simp at h;omega);rw[this];rfl
 | p::ps,k,h=>by
  have hk:k<args.length:=by simp at h;omega
  rw[TH hk];have ih:=aA3 args ps (k+1) (by simp at h ⊢; omega);have oE:ar args k=args[k]:=by simp[ar,hk]
  cases p<;>simp only[Jk,Dw,Tl,DO,ih,oE]
def WB(args:List Value)(n t:Nat):BZ { tmps:=args.toArray++QX (n - args.toArray.size) undef,defers:=[] } t=ar args t:=by
 simp only[BZ,ar,TG,B8];by_cases h:t<args.length
 .rw[Lx<|by simpa using h];simp
 .rw[Array.getElem?_append_right<|by simpa using h,Hc J];cases hr:(QX (n - args.toArray.size) undef)[t - args.toArray.size]? with
  | none=>rfl
  | some v=>
   rw[Array.getElem?_replicate]at hr;split at hr
   .cases hr;rfl
   .cases hr
def Xv{fn:Func}{m:DS}{r:LTs m.rs×LTs (Az m.ps)}{args:List Value}{os:List (Value×Nat)}(hst:St B β stk s a w)(hO:B.O=λb=>b∈Ax os)(htm:B.tm0=ar args)(hlen:args.length=m.ps.length)(hp:s.pins=Dw 0 m.ps)
  {n:Nat}(hok:okM m n=Y)(hf:fin B.P fn m s=I r):∃v,(results fn a.tmps).run B.P w= .ok v w/\Ret B.P m B.Z args os B.w0 r v w:=by
 unfold fin at hf;obtain⟨vs,h1,hf⟩:=Ag.1 hf;split at hf
 .rename_i hnd;simp only[AD]at hnd;obtain⟨r1,h2,hf⟩:=Ag.1 hf;obtain⟨q,h3,hf⟩:=Ag.1 hf;cases hf;obtain⟨us,k1,k2,k3⟩:=XR rfl hst fn.results.toList h1;have hl1:=zo h2;rw[zy hl1,zz hl1]at hnd;generalize ayx:Bi s.H m.rs vs=NC at hnd;generalize ayP:Bi s.H (Az m.ps) ((Dw 0 m.ps).map s.T)=NB at hnd;have R:NR B β s.H w (MO B<|Ax<|(NC++NB).filterMap β) s.T (BZ a):={
   hs:=hst.hs
   hM:=λb hb=>abh hst.hs hb
   hE:=λt id z e=>(hst.T t).ME (by rw[e];simp) (by rw[e];simp) }
  have hfz:=kb hst.hs hnd.2;have rl1:RL (R1 w β) vs us:=⟨k2,λj c u e1 e2=>(k3 j c u e1 e2).ME (W6 h2 c<|Cl e1).1 (W6 h2 c<|Cl e1).2⟩;have rl2:RL (R1 w β) ((Dw 0 m.ps).map s.T) ((Dw 0 m.ps).map<|BZ a):=⟨by simp,λj c u e1 e2=>by
   obtain⟨h5,h6⟩:=W6 h3 c<|Cl e1;rw[D5]at e1 e2;obtain⟨t,ht,rfl⟩:=DA.1 e1;obtain⟨t',ht',rfl⟩:=DA.1 e2;rw[ht]at ht';cases ht';exact(hst.T t).ME h5 h6⟩
  obtain⟨os1,j1,j2⟩:=WX R m.rs vs us r1 rl1 h2 (λi hi=>hfz i<|Bw _ hi);obtain⟨os2,j3,j4⟩:=WX R (Az m.ps) _ _ q rl2 h3 (λi hi=>hfz i<|CS _ hi);rw[ayx]at j2;rw[ayP]at j4;have G5:Ax (os1++os2)=Ax ((NC++NB).filterMap β):=by
   simp only[Ax,Ls]at j2 j4 ⊢;rw[j2,j4]
  have oM:MO B (Ax<|(NC++NB).filterMap β)=λb=>b∈Ax (os1++os2)\/B.Z b:=by rw[G5]
  rw[oM]at j1 j3;have acU:∀t∈Dw 0 m.ps,BZ a t=ar args t:=λt ht=>by rw[hst.pins t (by rw[hp];exact ht),htm]
  simp only[okM,AD,DM,KA]at hok;have Gm:∀t∈IY m.rs++IY (Az m.ps),BZ a t=ar args t:=λt ht=>by
   obtain⟨p,hp1,hp2⟩:=hok.2 t ht;rw[← Bk hp2];exact acU p hp1
  refine⟨M6 us,aAL k1,⟨us,os1,os2,rfl,Cf.congr _ _ _ _ (λt ht=>Gm t<|Bw _ ht) j1, ?_, ?_, ?_⟩,hst.hs.os,hst.hs.tape,hst.hs.output,hst.hs.size, ?_,hst.hs.pk⟩
  .have e1:Jk m.ps args=(Dw 0 m.ps).map (BZ a):=by
    have:=aA3 args m.ps 0 J;rw[Io]at this;rw[this];exact Gg λt ht=>(acU t ht).symm
   rw[e1];exact Cf.congr _ _ _ _ (λt ht=>Gm t<|CS _ ht) j3
  .rw[G5];exact Wj hst.hs (WZ hnd.1)
  .intro b hb;rw[G5]at hb;have:=hst.hs.old b<|Sw hb;rw[hO]at this;exact this
  .intro b hb hn;have:=hst.hs.block b hb;rw[hO]at this;exact this hn
 .cases hf
def asm{P:Program}(hP:C.P=P)(hm:P.follows .mixedOrders=Y)(hC:∀B:Bb,B.P=P->HO C B)(hI:∀B:Bb,B.P=P->JB C B inl){f:FuncId}{fn:Func}{body:Code}(hf:P.funcs[f]? =I fn)(KG:(fn.name == "runtime.NumGoroutine")=A0)
  (hb:fn.body=I body){v:Adv}{m:DS}(hok:okM m fn.ntmps=Y)(GX:∀B:Bb,B.P=P->HV (Mp B fn.ntmps<|Dw 0 m.ps) body v)(hg:∀x,ZZ C inl fn v m x=m.g x):H6 P f m:=by
 refine⟨O0 hf KG hb,λx r hx w Z args os hr hnd hbl hZ hgl=> ?_⟩;rw[← hg]at hx;unfold ZZ at hx;rw[hb]at hx;simp only[evF]at hx;have U4:=hok;simp only[okM,AD]at U4;obtain⟨⟨⟨hps,hrs⟩,hn⟩,_⟩:=U4;have hn:=Da hn;have hlen:=hr.length
 let B:Bb:={ P:=P,w0:=w,O:=λb=>b∈Ax os,tm0:=ar args,Z:=Z,gl:=hgl }
 have R4:Num (HY Z os) 0 os:=kQ Z os;obtain⟨k1,k2,k3⟩:=Xd (β:=HY Z os) (E:=λ_=> .un) (M:=λb=>b∈Ax os\/Z b) (P:=P) (w:=w) (e:=ar args) (λb hb=>lp (B:=B) hb) m.ps (λ_=>G) 0 x args os hps hr R4 (λt _=>trivial);have hi:Qn fn.ntmps m.ps x=(match Ah (λ_=> .un) (λ_=>G) 0 m.ps x with
  | (vs,H,b)=>{ n:=fn.ntmps,T:=λt=>(vs[t]?).getD Dl,H:=H,nid:=b,st:=[],pins:=Dw 0 m.ps,gs:=λ_=>A0 }):=rfl
 rw[hi]at hx;generalize Ah (λ_=> .un) (λ_=>G) 0 m.ps x=q at *;obtain⟨vs,H,b⟩:=q;simp only at hx k1 k2 k3;have hH:Hs B (HY Z os) H w:={
  EK:=λid ob ho=>by
   by_cases h:id<os.length
   .obtain⟨ob',h1,h2⟩:=k3.2 id (Cz _) J;rw[h1]at ho;cases ho;exact h2
   .rw[k3.1 id J]at ho;cases ho
  dom:=λid p hp=>by
   have h:id<os.length:=(BN.1<|show os[id]? =I p from hp).1;obtain⟨ob',h1,_⟩:=k3.2 id (Cz _) J;exact⟨ob',h1⟩
  inj:=λi j p q a a' hi hj=>Xb hnd i j p q a a' hi hj
  old:=λb hb=>⟨.inl<|Ml hb,(hbl b<|Ml hb).1⟩
  os:=rfl
  tape:=rfl
  output:=rfl
  size:=Ar _
  block:=λ_ _ _=>rfl
  z:=rfl
  zn:=λid p a hp ha=>(hbl _<|Ml (Z:=Z) ⟨id,p.1,p.2,a,hp,ha,rfl⟩).2
  zl:=hZ
  pk:=Pk.refl _ _ }
 refine calls_of_wp hf hb ?_;have hst:St B (HY Z os) [] { n:=fn.ntmps,T:=λt=>(vs[t]?).getD Dl,H:=H,nid:=b,st:=[],pins:=Dw 0 m.ps,gs:=λ_=>A0 } { tmps:=args.toArray++QX (fn.ntmps - args.toArray.size) undef,defers:=[] } w:=by
  refine⟨λt=> ?_,⟨rfl,λi T' tm h=>by simp at h⟩, ?_,rfl,λt _=>WB args _ t,λt g want y hy=> ?_,hH⟩
  .rw[WB];show RT w _ _ ((vs[t]?).getD Dl) _;cases hv:vs[t]? with
   | none=>
    have:args.length<=t:=by
     rw[k1.1];exact YX.1 hv
    show RT w _ _ Dl (ar args t);have e0:ar args t=undef:=by simp[ar,Hc this]
    rw[e0];rfl
   | some c=>
    have hlt:t<args.length:=by rw[k1.1];exact(BN.1 hv).1
    have hu:args[t]? =I (ar args t):=by simp[ar,hlt]
    exact(k1.2 t c _ hv hu).Zw
  .simp;omega
  .have hy:(vs[t]?).getD Dl= .gd g want y:=hy;cases hv:vs[t]? with
   | none=>rw[hv]at hy;cases hy
   | some c=>
    rw[hv]at hy;have hy:c= .gd g want y:=hy;have hlt:t<args.length:=by rw[k1.1];exact(BN.1 hv).1
    have hu:args[t]? =I (ar args t):=by simp[ar,hlt]
    have:=k1.2 t c _ hv hu;rw[hy]at this;exact this.elim
 refine X0 (B:=B) hP hm (hC B rfl) (hI B rfl) body v _ _ r hx hst (λj hj=>k3.1 j<|.inr (by have hj:b<=j:=hj;omega)) (GX B rfl) ⟨?_, ?_, ?_⟩
 .intro β' a' w' s' h1 h2 h3 h4 h5;obtain⟨v',i1,i2⟩:=Xv (B:=B) h1 rfl rfl hlen h4 hok (show fin P fn m s'=I r by rw[← hP];exact h5);exact⟨h1.defers,v',i1,v',rfl,i2⟩
 .intro β' a' w' s' h1 h2 h3 h4 h5;obtain⟨v',i1,i2⟩:=Xv (B:=B) h1 rfl rfl hlen h4 hok (show fin P fn m s'=I r by rw[← hP];exact h5);exact⟨h1.defers,v',i1,v',rfl,i2⟩
 .intro id β' a' w' s' h1 h2 h3 h4 h5;cases h5
end
end Go.VS
namespace Go.VS
open Go
def HP(l:List Sh):Bool:=Hr l&&l.all λh=> !Tl h
section
variable {B:Bb} {β β':Beta} {H:Hp} {w w':World} {M:Nat->Prop} {stk:List (Array Value)} {s s':S} {a:Act} {P:Program} {E:Nat->AV} {e:Nat->Value} {b:Nat}
mutual
theorem aru:∀h:Sh,Dh h=Y->Ib h=Y/\Ll h=[]
 | .int _,_=>⟨rfl,rfl⟩
 | .bool,_=>⟨rfl,rfl⟩
 | .str,_=>⟨rfl,rfl⟩
 | .sl _,_=>⟨rfl,rfl⟩
 | .row _ _,_=>⟨rfl,rfl⟩
 | .fz _,_=>⟨rfl,rfl⟩
 | .Cd _ _,_=>⟨rfl,rfl⟩
 | .abx _ _,_=>⟨rfl,rfl⟩
 | .arr _,h=>by simp[Dh]at h
 | .agg _,h=>by simp[Dh]at h
 | .same _,h=>by simp[Dh]at h
 | .box _ l,h=>by
  have:=iS l (by simpa[Dh] using h);exact⟨by simpa[Ib] using this.1,by simpa[Ll] using this.2⟩
theorem iS:∀l:List Sh,Hr l=Y->Mk l=Y/\IY l=[]
 | [],_=>⟨rfl,rfl⟩
 | h::l,hl=>by
  simp only[Hr,AD]at hl;have h1:=aru h hl.1;have h2:=iS l hl.2;exact⟨by simp[Mk,h1.1,h2.1],by simp[IY,h1.2,h2.2]⟩
end
def Wl:∀(l:List Sh) (H:Hp) (b:Nat) (cs:List AV) (x:LTs l),HP l=Y->BO E H b l cs x=Ah E H b l x
 | [],_,_,_,_,_=>rfl
 | h::l,H,b,cs,x,hl=>by
  simp only[HP,Hr,Ok,AD]at hl;obtain⟨⟨h1,h2⟩,h3,h4⟩:=hl;have un:BO E H b (h::l) cs x=(match Cy E H b h (cs.headD .un) x.1 with|(d,H,b)=>match BO E H b l cs.tail x.2 with|(ds,H,b)=>(d::ds,H,b)):=rfl;have un2:Ah E H b (h::l) x=(match BG E H b h x.1 with|(c,H,b)=>match Ah E H b l x.2 with|(cs,H,b)=>(c::cs,H,b)):=rfl;have e1:Cy E H b h (cs.headD .un) x.1=BG E H b h x.1:=jQ h1 (λt l' e'=>by rw[e']at h3;simp[Tl]at h3);rw[un,un2,e1];generalize BG E H b h x.1=r;obtain⟨c,H',b'⟩:=r;simp only;rw[Wl l H' b' cs.tail x.2 (by simp only[HP,AD];exact⟨h2,h4⟩)]
mutual
theorem aD4:∀(h:Sh) (H:Hp) (b:Nat) (x:LT h) (v:Value) (os:List (Value×Nat)),Ib h=Y->Rel P w M e h x v os->(BG E H b h x).2.2=b+os.length
 | .int k,H,b,x,v,os,_,hr=>by obtain⟨_,rfl⟩:=hr;rfl
 | .bool,H,b,x,v,os,_,hr=>by obtain⟨_,rfl⟩:=hr;rfl
 | .str,H,b,x,v,os,_,hr=>by obtain⟨_,rfl⟩:=hr;rfl
 | .sl k,H,b,x,v,os,_,hr=>by obtain⟨_,rfl⟩:=hr;rfl
 | .fz k,H,b,x,v,os,_,hr=>by obtain⟨_,rfl⟩:=hr;rfl
 | .row t k,H,b,x,v,os,_,hr=>by obtain⟨rfl,_⟩:=hr;rfl
 | .Cd t k,H,b,x,v,os,_,hr=>by obtain⟨rfl,_⟩:=hr;rfl
 | .abx t k,H,b,x,v,os,_,hr=>by obtain⟨rfl,_⟩:=hr;rfl
 | .arr _,_,_,_,_,_,h,_=>by simp[Ib]at h
 | .agg _,_,_,_,_,_,h,_=>by simp[Ib]at h
 | .same t,H,b,x,v,os,_,hr=>by obtain⟨rfl,_⟩:=hr;rfl
 | .box t l,H,b,x,v,os,hl,hr=>by
  obtain⟨bb,us,os',rfl,h2,h3,rfl⟩:=hr;have un:BG E H b (.box t l) x=(match Ah E H b l x with|(cs,H,b)=>(AV.ptr b cs.length 0 0,upd H b<|I<|.box t cs,b+1)):=rfl;have k:=Wu l H b x us.toList os' (by simpa[Ib] using hl) h3;rw[un];generalize Ah E H b l x=r at *;obtain⟨cs,H',b'⟩:=r;have k:b'=b+os'.length:=k;simp[k,D6]
theorem Wu:∀(l:List Sh) (H:Hp) (b:Nat) (x:LTs l) (us:List Value) (os:List (Value×Nat)),Mk l=Y->Cf P w M e l x us os->(Ah E H b l x).2.2=b+os.length
 | [],H,b,x,us,os,_,hr=>by obtain⟨_,rfl⟩:=hr;rfl
 | h::l,H,b,x,us,os,hl,hr=>by
  obtain⟨u,us',o1,o2,rfl,rfl,h1,h2⟩:=hr;simp only[Mk,AD]at hl;have un:Ah E H b (h::l) x=(match BG E H b h x.1 with|(c,H,b)=>match Ah E H b l x.2 with|(cs,H,b)=>(c::cs,H,b)):=rfl;have k:=aD4 h H b x.1 u o1 hl.1 h1;rw[un];generalize BG E H b h x.1=r at *;obtain⟨c,H',b'⟩:=r;have k:b'=b+o1.length:=k;subst k;have k2:=Wu l H' (b+o1.length) x.2 us' o2 hl.2 h2;simp only;generalize Ah E H' (b+o1.length) l x.2=r at *;obtain⟨cs,H'',b''⟩:=r;have k2:b''=_:=k2;simp[k2,D6]
end
mutual
theorem atq:∀(h:Sh) (H:Hp) (b:Nat) (x:LT h) (j:Nat),¬(b<=j/\j<(BG E H b h x).2.2)->(BG E H b h x).2.1 j=H j
 | .int _,H,_,_,_,_=>rfl
 | .bool,H,_,_,_,_=>rfl
 | .str,H,_,_,_,_=>rfl
 | .sl _,H,_,_,_,_=>rfl
 | .arr _,H,_,_,_,_=>rfl
 | .same _,H,_,_,_,_=>rfl
 | .fz _,H,_,_,_,_=>rfl
 | .row _ _,H,b,_,j,hj=>BB _ _ (λe=>hj ⟨J,by show j<b+1;omega⟩)
 | .Cd _ _,H,b,_,j,hj=>BB _ _ (λe=>hj ⟨J,by show j<b+1;omega⟩)
 | .abx _ _,H,b,_,j,hj=>BB _ _ (λe=>hj ⟨J,by show j<b+1;omega⟩)
 | .agg l,H,b,x,j,hj=>by
  have un:BG E H b (.agg l) x=(match Ah E H b l x with|(cs,H,b)=>(AV.agg cs,H,b)):=rfl;have ih:=Ws l H b x j;rw[un]at hj ⊢;generalize Ah E H b l x=r at *;exact ih hj
 | .box e l,H,b,x,j,hj=>by
  have un:BG E H b (.box e l) x=(match Ah E H b l x with|(cs,H,b)=>(AV.ptr b cs.length 0 0,upd H b<|I<|.box e cs,b+1)):=rfl;have ih:=Ws l H b x j;have hle:=J2 E l H b x;rw[un]at hj ⊢;generalize Ah E H b l x=r at *;obtain⟨cs,H',b'⟩:=r;simp only at hj ih hle ⊢;rw[BB _ _ λe=>hj ⟨J,J⟩];exact ih λh=>hj ⟨h.1,J⟩
theorem Ws:∀(l:List Sh) (H:Hp) (b:Nat) (x:LTs l) (j:Nat),¬(b<=j/\j<(Ah E H b l x).2.2)->(Ah E H b l x).2.1 j=H j
 | [],H,_,_,_,_=>rfl
 | h::l,H,b,x,j,hj=>by
  have un:Ah E H b (h::l) x=(match BG E H b h x.1 with|(c,H,b)=>match Ah E H b l x.2 with|(cs,H,b)=>(c::cs,H,b)):=rfl;have ih:=atq h H b x.1 j;have hle:=EO E h H b x.1;rw[un]at hj ⊢;generalize BG E H b h x.1=r at *;obtain⟨c,H',b'⟩:=r;have ih2:=Ws l H' b' x.2 j;have PA:=J2 E l H' b' x.2;simp only at hj ⊢;generalize Ah E H' b' l x.2=r at *;obtain⟨cs,H'',b''⟩:=r;simp only at hj ih ih2 hle PA ⊢;rw[ih2 λh=>hj ⟨J,h.2⟩];exact ih λh=>hj ⟨h.1,J⟩
end
end
end Go.VS
namespace Go.VS
open Go
section
variable {B B':Bb} {β β':Beta} {H:Hp} {w w':World} {M M':Nat->Prop} {stk:List (Array Value)} {s s':S} {a:Act} {P:Program} {E:Nat->AV} {e:Nat->Value} {b:Nat}
def St.azV{f:AV->AV}(h:St B β stk s a w)(ht:B'.tm0=B.tm0)(hf:∀c,GR c=Y->f c=c)(hg:∀c g want x,f c= .gd g want x->∃y,c= .gd g want y)(hk:Kf f w β w' β'){H':Hp}(hH:Hs B' β' H' w'):St B' β' stk { s.map f with H:=H' } a w':=by
 have g1:∀c g want x,Fv f c= .gd g want x->∃y,c= .gd g want y:=by
  intro c g want x e;cases c<;>first|(cases e;done)|exact hg _ _ _ _ e
 have g2:∀c g want x,GG f c= .gd g want x->∃y,c= .gd g want y:=by
  intro c g want x e;cases c<;>first|(cases e;done)|exact g1 _ _ _ _ e
 have g3:∀c g want x,FC f c= .gd g want x->∃y,c= .gd g want y:=by
  intro c g want x e;cases c with
  | gd g' w' y=>cases e;exact⟨_,rfl⟩
  | _=>exact g2 _ _ _ _ e
 refine⟨λt=>RT.map hf hk<|h.T t,⟨by simpa[S.map] using h.stack.1,λi T tm h1 h2 t=> ?_⟩,h.n,h.defers,λt ht'=>by rw[ht];exact h.pins t ht',λt g want x hx=> ?_,hH⟩
 .simp only[S.map,D5,DA]at h1;obtain⟨T0,h3,rfl⟩:=h1;exact RT.map hf hk (h.stack.2 i T0 tm h3 h2 t)
 .obtain⟨y,hy⟩:=g3 _ _ _ _ hx;exact h.gs _ _ _ _ hy
def Beta.kz(β:Beta)(id:Nat):Beta:=⟨upd β.f id G,λb=>β.Z b\/ ∃p a,β id=I p/\adr p.1=I a/\a.block=b⟩
def Beta.Zk(β:Beta)(id j:Nat):(β.kz id) j=if j=id then G else β j:=by
 show upd β.f id G j=_;by_cases e:j=id
 .subst e;rw[Be,A5 rfl]
 .rw[BB _ _ e,A9 e]
def St.ayT(h:St B β stk s a w)(id:Nat):St { B with Z:=(β.kz id).Z } (β.kz id) stk (s.kill id) a w:=by
 have hM:∀b,¬MZ β b->b<w.heap.size->¬MZ (β.kz id) b:=λb hb _ hm=>by
  obtain⟨j,hd,n,a,hj,ha,hab⟩|hz|⟨p,a,hp,ha,hab⟩:=hm
  .rw[Beta.Zk]at hj;split at hj
   .cases hj
   .exact hb (.inl ⟨j,hd,n,a,hj,ha,hab⟩)
  .exact hb (.inr hz)
  .exact hb<|.inl ⟨id,p.1,p.2,a,hp,ha,hab⟩
 have hk:Kf (kl1 id) w β w (β.kz id):=Kf.kill (λj e=>BB _ _ e) (λ_ _ _ _ h=>h) hM;have hH:=h.hs.acI (J1 id) hk (λj e=>BB _ _ e) (.inl ⟨Be _ _ _,rfl⟩) (λ_ _ _ _ _ _=>rfl) rfl rfl rfl (Ar _) (λ_ _ _=>rfl) (λb hb=>hb.imp (λh=>h) λh=>⟨Be _ _ _,h⟩) (Pk.refl _ _);exact h.azV (B':={ B with Z:=(β.kz id).Z }) rfl (J1 id) (OP id) hk hH
def St.ac9:∀(ids:List Nat) {B:Bb} {β:Beta} {s:S},ids.Nodup->St B β stk s a w->∃β2:Beta,St { B with Z:=β2.Z } β2 stk (ids.foldl S.kill s) a w/\(∀j,β2 j=if j∈ids then G else β j)/\
  (∀b,β2.Z b↔β.Z b\/ ∃i∈ids,∃p a,β i=I p/\adr p.1=I a/\a.block=b)
 | [],B,β,s,_,h=>by
  have e:{ B with Z:=β.Z } =B:=by rw[h.hs.z]
  exact⟨β,by rw[e];exact h,λj=>by simp,λb=>by simp⟩
 | i::ids,B,β,s,hn,h=>by
  obtain⟨hn1,hn2⟩:=IC.1 hn;obtain⟨β2,h1,h2,h3⟩:=St.ac9 ids hn2<|h.ayT i;refine⟨β2,h1,λj=> ?_,λb=> ?_⟩
  .rw[h2,Beta.Zk];by_cases e1:j∈ids
   .rw[A5 e1,A5<|Ai _ e1]
   .by_cases e2:j=i
    .rw[A9 e1,A5 e2,A5 (by rw[e2];exact Am)]
    .rw[A9 e1,A9 e2,A9<|by simp[e1,e2]]
  .rw[h3];constructor
   .rintro((h|⟨p,a,h⟩)|⟨j,hj,p,a,hp,h⟩)
    .exact .inl h
    .exact .inr ⟨i,Am,p,a,h⟩
    .rw[Beta.Zk]at hp;split at hp
     .cases hp
     .exact .inr ⟨j,Ai _ hj,p,a,hp,h⟩
   .rintro(h|⟨j,hj,p,a,hp,h⟩)
    .exact .inl (.inl h)
    .rcases Bm.1 hj with rfl|hj
     .exact .inl (.inr ⟨p,a,hp,h⟩)
     .refine .inr ⟨j,hj,p,a, ?_,h⟩;rw[Beta.Zk,A9 fun(e:j=i)=>hn1<|e▸hj];exact hp
def St.Zf(h:St B β stk s a w)(id:Nat):St B (β.up id G) stk (s.freeze id) a w:=by
 unfold S.freeze;split
 .rename_i e fz k xs hid;obtain⟨h1,h2⟩:=h.hs.Zf hid;exact h.map (jh id k xs) (abL id k xs) h2 h1
 .obtain⟨h1,h2⟩:=h.hs.acK id;exact h.map (J1 id) (OP id) h2 h1
def St.acE:∀(ids:List Nat) {β:Beta} {s:S},St B β stk s a w->∃β2:Beta,St B β2 stk (ids.foldl S.freeze s) a w/\(∀j,β2 j=if j∈ids then G else β j)/\β2.Z=β.Z
 | [],β,s,h=>⟨β,h,λj=>by simp,rfl⟩
 | i::ids,β,s,h=>by
  obtain⟨β2,h1,h2,h3⟩:=St.acE ids<|h.Zf i;refine⟨β2,h1,λj=> ?_,h3⟩;rw[h2];by_cases e1:j∈ids
  .rw[A5 e1,A5<|Ai _ e1]
  .by_cases e2:j=i
   .subst e2;rw[A9 e1,A5 Am,Beta.Ty]
   .rw[A9 e1,Beta.NM _ _ e2,A9<|by simp[e1,e2]]
def St.ayy(q:Bool)(ids:List Nat)(h:St B β stk s a w):∃β2:Beta,St B β2 stk (GK q ids s) a w/\(∀j,β2 j=if q=Y/\j∈ids then G else β j)/\β2.Z=β.Z:=by
 cases q with
 | false=>exact⟨β,h,λj=>by simp,rfl⟩
 | true=>
  obtain⟨β2,h1,h2,h3⟩:=St.acE ids h;exact⟨β2,h1,λj=>by simp[h2],h3⟩
def aCX{t:TypeId}{j:Nat}:∀(ids:List Nat) (s:S) {cs:List AV},j ∉ ids->s.H j=I (.box t cs)->∃cs',(ids.foldl S.kill s).H j=I (.box t cs')
 | [],s,cs,_,h=>⟨cs,h⟩
 | i::ids,s,cs,hj,h=>by
  have hne:j≠i:=λe=>hj<|e▸Am;refine aCX ids (s.kill i) (cs:=cs.map<|kl1 i) (λhm=>hj<|Ai _ hm) ?_;show upd (λj=>CH (kl1 i)<|s.H j) i G j=_;rw[BB _ _ hne,h];rfl
def aAS{t:TypeId}{j:Nat}:∀(ids:List Nat) (s:S) {cs:List AV},j ∉ ids->s.H j=I (.box t cs)->∃cs',(ids.foldl S.freeze s).H j=I (.box t cs')
 | [],s,cs,_,h=>⟨cs,h⟩
 | i::ids,s,cs,hj,h=>by
  have hne:j≠i:=λe=>hj<|e▸Am;have:∃cs',(s.freeze i).H j=I (.box t cs'):=by
   unfold S.freeze;split
   .rename_i k xs _;refine⟨cs.map<|fz1 i k xs, ?_⟩;show upd (λj=>CH (fz1 i k xs)<|s.H j) i G j=_;rw[BB _ _ hne,h];rfl
   .refine⟨cs.map<|kl1 i, ?_⟩;show upd (λj=>CH (kl1 i)<|s.H j) i G j=_;rw[BB _ _ hne,h];rfl
  obtain⟨cs',h'⟩:=this;exact aAS ids (s.freeze i) (λhm=>hj<|Ai _ hm) h'
def auN{t:TypeId}{j:Nat}(q:Bool)(ids:List Nat)(s:S){cs:List AV}(hj:¬(q=Y/\j∈ids))(h:s.H j=I (.box t cs)):∃cs',(GK q ids s).H j=I (.box t cs'):=by
 cases q with
 | false=>exact⟨cs,h⟩
 | true=>exact aAS ids s (λhm=>hj ⟨rfl,hm⟩) h
mutual
theorem au0:∀(h:Sh) (c:AV),(CC H h c).Sublist<|Cb H h c
 | .int _,_=>Ea _
 | .bool,_=>Ea _
 | .str,_=>Ea _
 | .sl _,_=>Ea _
 | .arr _,_=>Ea _
 | .same _,_=>Ea _
 | .fz _,_=>Ea _
 | .row _ _,c=>by cases c<;>exact Ea _
 | .Cd _ _,c=>by cases c<;>exact Ea _
 | .abx _ _,c=>by
  cases c with
  | ptr id z i o=>cases i<;>cases o<;>exact Ea _
  | _=>exact Ea _
 | .agg l,c=>by
  cases c with
  | agg cs=>exact XC l cs
  | _=>exact Ea _
 | .box t l,c=>by
  cases c with
  | ptr id z i o=>
   cases i<;>cases o<;>simp only[CC,Cb]<;>first|exact Ea _|skip
   split
   .exact(XC l _).trans (List.sublist_append_left _ _)
   .exact Ea _
  | _=>exact Ea _
theorem XC:∀(l:List Sh) (cs:List AV),(CZ H l cs).Sublist<|Bi H l cs
 | [],_=>by simp only[CZ,Bi];exact Ea _
 | _::_,[]=>by simp only[CZ,Bi];exact Ea _
 | h::l,c::cs=>by
  simp only[CZ,Bi];exact(au0 h c).append<|XC l cs
end
def QB(H:Hp)(i:Nat):Prop:=∀t cs,H i≠I (.box t cs)
mutual
theorem ar8:∀(h:Sh) (c:AV) (x:LT h),Bn E H h c=I x->∀i∈CC H h c,QB H i
 | .int _,_,_,_,i,hi=>by simp[CC]at hi
 | .bool,_,_,_,i,hi=>by simp[CC]at hi
 | .str,_,_,_,i,hi=>by simp[CC]at hi
 | .sl _,_,_,_,i,hi=>by simp[CC]at hi
 | .arr _,_,_,_,i,hi=>by simp[CC]at hi
 | .same _,_,_,_,i,hi=>by simp[CC]at hi
 | .fz _,_,_,_,i,hi=>by simp[CC]at hi
 | .row t k,c,x,hx,i,hi=>by
  cases c<;>simp[CC]at hi;subst hi;intro t' cs hb;simp[Bn,hb]at hx
 | .Cd t k,c,x,hx,i,hi=>by
  cases c<;>simp[CC]at hi;subst hi;intro t' cs hb;simp[Bn,hb]at hx
 | .abx t k,c,x,hx,i,hi=>by
  cases c with
  | ptr id z i' o=>
   cases i'<;>cases o<;>simp[CC]at hi;subst hi;intro t' cs hb;simp[Bn,hb]at hx
  | _=>simp[CC]at hi
 | .agg l,c,x,hx,i,hi=>by
  cases c with
  | agg cs=>exact WU l cs x hx i<|by simpa[CC] using hi
  | _=>simp[CC]at hi
 | .box t l,c,x,hx,j,hi=>by
  cases c with
  | ptr id z i o=>
   cases i<;>cases o<;>simp only[CC]at hi<;>first|(simp at hi;done)|skip
   cases ho:H id with
   | none=>simp[ho]at hi
   | some ob=>
    cases ob with
    | box e' cs=>
     simp only[ho]at hi;simp only[Bn,ho]at hx;split at hx
     .exact WU l cs x hx j hi
     .cases hx
    | _=>simp[ho]at hi
  | _=>simp[CC]at hi
theorem WU:∀(l:List Sh) (cs:List AV) (x:LTs l),GF E H l cs=I x->∀i∈CZ H l cs,QB H i
 | [],cs,_,_,i,hi=>by simp[CZ]at hi
 | _::_,[],_,_,i,hi=>by simp[CZ]at hi
 | h::l,c::cs,x,hx,i,hi=>by
  obtain⟨x1,e1,hx⟩:=Ag.1 hx;obtain⟨x2,e2,hx⟩:=Ag.1 hx;simp only[CZ,BL]at hi;obtain hi|hi:=hi
  .exact ar8 h c x1 e1 i hi
  .exact WU l cs x2 e2 i hi
end
mutual
theorem arf:∀(h:Sh) (c:AV) (x:LT h),Bn E H h c=I x->∀i∈Cj H h c,QB H i
 | .int _,_,_,_,i,hi=>by simp[Cj]at hi
 | .bool,_,_,_,i,hi=>by simp[Cj]at hi
 | .str,_,_,_,i,hi=>by simp[Cj]at hi
 | .sl _,_,_,_,i,hi=>by simp[Cj]at hi
 | .arr _,_,_,_,i,hi=>by simp[Cj]at hi
 | .same _,_,_,_,i,hi=>by simp[Cj]at hi
 | .row _ _,_,_,_,i,hi=>by simp[Cj]at hi
 | .Cd _ _,_,_,_,i,hi=>by simp[Cj]at hi
 | .abx _ _,_,_,_,i,hi=>by simp[Cj]at hi
 | .fz k,c,x,hx,i,hi=>by
  cases c<;>simp[Cj]at hi;subst hi;intro t' cs hb;simp[Bn,CD,hb]at hx
 | .agg l,c,x,hx,i,hi=>by
  cases c with
  | agg cs=>exact Wm l cs x hx i<|by simpa[Cj] using hi
  | _=>simp[Cj]at hi
 | .box t l,c,x,hx,j,hi=>by
  cases c with
  | ptr id z i o=>
   cases i<;>cases o<;>simp only[Cj]at hi<;>first|(simp at hi;done)|skip
   cases ho:H id with
   | none=>simp[ho]at hi
   | some ob=>
    cases ob with
    | box e' cs=>
     simp only[ho]at hi;simp only[Bn,ho]at hx;split at hx
     .exact Wm l cs x hx j hi
     .cases hx
    | _=>simp[ho]at hi
  | _=>simp[Cj]at hi
theorem Wm:∀(l:List Sh) (cs:List AV) (x:LTs l),GF E H l cs=I x->∀i∈Cr H l cs,QB H i
 | [],cs,_,_,i,hi=>by simp[Cr]at hi
 | _::_,[],_,_,i,hi=>by simp[Cr]at hi
 | h::l,c::cs,x,hx,i,hi=>by
  obtain⟨x1,e1,hx⟩:=Ag.1 hx;obtain⟨x2,e2,hx⟩:=Ag.1 hx;simp only[Cr,BL]at hi;obtain hi|hi:=hi
  .exact arf h c x1 e1 i hi
  .exact Wm l cs x2 e2 i hi
end
def iR{k:K}(h:Qf k=Y)(x:Tof k):∀c∈enc k x,∃v,c= .lit v:=by
 have key:(enc k x).all (λc=>match c with
   | .lit _=>Y
   | _=>A0)=Y:=by cases k<;>first|(cases h;done)|rfl
 intro c hc;have:=DM.1 key c hc;cases c<;>first|exact⟨_,rfl⟩|cases this
def TC:Beta:=⟨λ_=>G,λ_=>False⟩
def X1{b:Nat}:¬MZ TC b:=by
 rintro(⟨_,_,_,_,h,_⟩|h)
 .cases h
 .exact h
def FX.anyM{t:TypeId}{fz:Bool}{k:K}{xs:List (Tof k)}{v:Value}(hk:Qf k=Y)(h:FX w β t fz k xs v):FX w β' t fz k xs v:=by
 obtain h|⟨b,f,cap,us,fr,h1,h2,h3,h4,h5,h6,h7⟩:=h
 .exact .inl h
 .refine .inr ⟨b,f,cap,us,fr,h1,h2,h3,h4,h5,h6,λi x j c u a1 a2 a3=> ?_⟩;have h8:=h7 i x j c u a1 a2 a3;obtain⟨v,rfl⟩:=iR hk x c<|Cl a2;cases h8 with
  | lit h=>exact .lit h
mutual
theorem Rel.anyM:∀(h:Sh) (x:LT h) (v:Value) (os:List (Value×Nat)),M4 h=A0->Rel P w M e h x v os->Rel P w M' e h x v os
 | .int _,_,_,_,_,h=>h
 | .bool,_,_,_,_,h=>h
 | .str,_,_,_,_,h=>h
 | .sl _,_,_,_,h,_=>by cases h
 | .fz _,_,_,_,h,_=>by cases h
 | .row t k,_,_,_,hm,h=>⟨h.1,h.2.1,λβ _=>(h.2.2 TC λb hb=>absurd hb X1).anyM<|by simpa[M4] using hm⟩
 | .Cd t k,_,_,_,hm,h=>⟨h.1,h.2.1,λβ _=>(h.2.2 TC λb hb=>absurd hb X1).anyM<|by simpa[M4] using hm⟩
 | .abx t k,_,_,_,hm,h=>by
  obtain⟨h1,h2,b,us,h3,h4,h5,h6,h7⟩:=h;refine⟨h1,h2,b,us,h3,h4,h5,h6,λβ _ i x j c u a1 a2 a3=> ?_⟩;have h8:=h7 TC (λb hb=>absurd hb X1) i x j c u a1 a2 a3;obtain⟨v,rfl⟩:=iR (by simpa[M4] using hm) x c<|Cl a2;cases h8 with
  | lit h=>exact .lit h
 | .arr k,_,_,_,hm,h=>by
  obtain⟨h1,h2⟩:=h;refine⟨h1,λβ _=> ?_⟩;obtain⟨us,k1,k2,k3⟩:=h2 TC (λb hb=>absurd hb X1);refine⟨us,k1,k2,λi x j c u a1 a2 a3=> ?_⟩;have h8:=k3 i x j c u a1 a2 a3;obtain⟨v,rfl⟩:=iR (by simpa[M4] using hm) x c<|Cl a2;cases h8 with
  | lit h=>exact .lit h
 | .same t,_,_,_,_,h=>h
 | .agg l,x,v,os,hm,h=>by
  obtain⟨us,h1,h2⟩:=h;exact⟨us,h1,Cf.anyM l x us os (by simpa[M4] using hm) h2⟩
 | .box t l,x,v,os,hm,h=>by
  obtain⟨b,us,os',h1,h2,h3,h4⟩:=h;exact⟨b,us,os',h1,h2,Cf.anyM l x us.toList os' (by simpa[M4] using hm) h3,h4⟩
theorem Cf.anyM:∀(l:List Sh) (x:LTs l) (us:List Value) (os:List (Value×Nat)),CO l=A0->Cf P w M e l x us os->Cf P w M' e l x us os
 | [],_,_,_,_,h=>h
 | h::l,x,us,os,hm,hr=>by
  obtain⟨u,us',o1,o2,h1,h2,h3,h4⟩:=hr;simp only[CO,Mv]at hm;exact⟨u,us',o1,o2,h1,h2,Rel.anyM h x.1 u o1 hm.1 h3,Cf.anyM l x.2 us' o2 hm.2 h4⟩
end
end
end Go.VS
namespace Go.VS
open Go
def abq:List Sh->Bool
 | .box _ l2::l=>HP l2&&HP l
 | l=>HP l
def aEe:List Sh->Bool
 | .box _ _::_=>Y
 | _=>A0
def ZO(P:Program):List Sh->Bool
 | []=>Y
 | h::ps=>(match h with
  | .box t l=>abq l&&(!aEe l||OU P t)
  | .agg l=>HP l
  | _=>Y)&&ZO P ps
section
variable {B B':Bb} {β β':Beta} {H:Hp} {w w':World} {M M':Nat->Prop} {stk:List (Array Value)} {s s':S} {a:Act} {P:Program} {E:Nat->AV} {e:Nat->Value} {b:Nat} {C:Cx}
mutual
theorem Wy:∀(h:Sh) (c:AV),Dh h=Y->Tl h=A0->∀i∈Cb H h c,i∈CC H h c
 | .int _,_,_,_,i,hi=>by simp[Cb]at hi
 | .bool,_,_,_,i,hi=>by simp[Cb]at hi
 | .str,_,_,_,i,hi=>by simp[Cb]at hi
 | .sl _,_,_,_,i,hi=>by simp[Cb]at hi
 | .fz _,_,_,_,i,hi=>by simp[Cb]at hi
 | .row _ _,c,_,_,i,hi=>by cases c<;>first|exact hi|(simp[Cb]at hi;done)
 | .Cd _ _,c,_,_,i,hi=>by cases c<;>first|exact hi|(simp[Cb]at hi;done)
 | .abx _ _,c,_,_,i,hi=>by
  cases c with
  | ptr id z i' o=>cases i'<;>cases o<;>first|exact hi|(simp[Cb]at hi;done)
  | _=>simp[Cb]at hi
 | .arr _,_,h,_,_,_=>by simp[Dh]at h
 | .same _,_,h,_,_,_=>by simp[Dh]at h
 | .agg _,_,h,_,_,_=>by simp[Dh]at h
 | .box _ _,_,_,h,_,_=>by cases h
end
def SF:∀(l:List Sh) (cs:List AV),HP l=Y->∀i∈Bi H l cs,i∈CZ H l cs
 | [],cs,_,i,hi=>by simp[Bi]at hi
 | _::_,[],_,i,hi=>by simp[Bi]at hi
 | h::l,c::cs,hl,i,hi=>by
  simp only[HP,Hr,Ok,AD,CE]at hl;obtain⟨⟨h1,h2⟩,h3,h4⟩:=hl;simp only[Bi,BL]at hi;obtain hi|hi:=hi
  .exact Bw _ (Wy h c h1 h3 i hi)
  .refine CS _<|SF l cs ?_ i hi;simp only[HP,AD];exact⟨h2,h4⟩
def EU:List AV->List Nat
 | []=>[]
 | .ptr id _ 0 0::l=>id::EU l
 | _::l=>EU l
def aam{id:Nat}:∀ {ds:List AV},id∈EU ds->∃z,AV.ptr id z 0 0∈ds
 | [],h=>by cases h
 | c::ds,h=>by
  have rest:id∈EU ds->∃z,AV.ptr id z 0 0∈c::ds:=λh=>by
   obtain⟨z,hz⟩:=aam h;exact⟨z,Ai _ hz⟩
  cases c<;>first|exact rest h|skip
  rename_i a b i o;cases i<;>cases o<;>first|exact rest h|skip
  obtain h|h:=Bm.1 h
  .subst h;exact⟨b,Am⟩
  .exact rest h
inductive Fb (P:Program) (w:World) (H:Hp):List Sh->List AV->List Value->List AV->List Value->Prop
 | nil:Fb P w H [] [] [] [] []
 | flat {t:TypeId} {l bs:List Sh} {id z bb:Nat} {cs ds:List AV} {vs us:List Value} (hl:HP l=Y) (hb:∃t0 cs0,H id=I (.box t0 cs0)) (h:Fb P w H bs cs vs ds us):
   Fb P w H (.box t l::bs) (.ptr id z 0 0::cs) (.pointer (I ⟨bb,0,G⟩)::vs) (.ptr id z 0 0::ds) (.pointer (I ⟨bb,0,G⟩)::us)
 | nest {t t2 t0:TypeId} {l2 l bs:List Sh} {id z id2 z2 bb bb2:Nat} {cs1 cs ds:List AV} {vs us:List Value} (hl2:HP l2=Y) (hl:HP l=Y) (hid:H id=I (.box t0 (.ptr id2 z2 0 0::cs1)))
   (hb2:∃t0 cs0,H id2=I (.box t0 cs0)) (hn:OU P t=Y) (hc:∃us0 fr,w.heap[bb]? =I (.cells us0 t fr)/\us0[0]? =I (.pointer<|I ⟨bb2,0,G⟩)) (h:Fb P w H bs cs vs ds us):
   Fb P w H (.box t (.box t2 l2::l)::bs) (.ptr id z 0 0::cs) (.pointer (I ⟨bb,0,G⟩)::vs) (.ptr id2 z2 0 0:: .ptr id z 0 0::ds) (.pointer (I ⟨bb2,0,G⟩):: .pointer (I ⟨bb,0,G⟩)::us)
def Fb.carry{bs:List Sh}{cs ds:List AV}{vs us:List Value}{H':Hp}(h:Fb P w H bs cs vs ds us)(hpk:Pk P w w')
  (hH:∀id∈EU ds,∀t cs,H id=I (.box t cs)->∃cs',H' id=I (.box t cs')/\ ∀id2 z2 cs1,cs= .ptr id2 z2 0 0::cs1->id2∈EU ds->∃KK,cs'= .ptr id2 z2 0 0::KK):Fb P w' H' bs cs vs ds us:=by
 induction h with
 | nil=>exact .nil
 | @flat t l bs id z bb cs ds vs us hl hb h ih=>
  refine .flat hl ?_ (ih λi hi t0 c0 h0=> ?_)
  .obtain⟨t0,c0,h0⟩:=hb;obtain⟨c1,h1,_⟩:=hH id Am t0 c0 h0;exact⟨t0,c1,h1⟩
  .obtain⟨c1,h1,h2⟩:=hH i (Ai _ hi) t0 c0 h0;exact⟨c1,h1,λa b c e hm=>h2 a b c e<|Ai _ hm⟩
 | @nest t t2 t0 l2 l bs id z id2 z2 bb bb2 cs1 cs ds vs us hl2 hl hid hb2 hn hc h ih=>
  obtain⟨c1,h1,h2⟩:=hH id (Ai _ Am) t0 _ hid;obtain⟨c2,rfl⟩:=h2 id2 z2 cs1 rfl Am;refine .nest hl2 hl h1 ?_ hn ?_ (ih λi hi t0 c0 h0=> ?_)
  .obtain⟨t3,c3,h3⟩:=hb2;obtain⟨c4,h4,_⟩:=hH id2 Am t3 c3 h3;exact⟨t3,c4,h4⟩
  .obtain⟨us0,fr,h3,h4⟩:=hc;obtain⟨us1,fr1,h5,h6⟩:=hpk bb us0 t fr _ h3 h4 hn;exact⟨us1,fr1,h5,h6⟩
  .obtain⟨c3,h3,h4⟩:=hH i (Ai _<|Ai _ hi) t0 c0 h0;exact⟨c3,h3,λa b c e hm=>h4 a b c e<|Ai _<|Ai _ hm⟩
def lW{l:List Sh}(hl:HP l=Y)(H:Hp)(b:Nat)(x:LTs l){us1:List Value}{ob:List (Value×Nat)}(hr:Cf P w M e l x us1 ob):
  ∃ds1 H1,Ah E H b l x=(ds1,H1,b+ob.length)/\(∀j,¬(b<=j/\j<b+ob.length)->H1 j=H j)/\ ∀β:Beta,(∀b,MZ β b->M b)->Num β b ob->RL (RC w β) ds1 us1/\ ∀j,b<=j->j<b+ob.length->∃o,H1 j=I o/\E5 P w β j o:=by
 have hl':=hl;simp only[HP,AD]at hl';obtain⟨Cn,Gm⟩:=iS l hl'.1;have hlen:=Wu (E:=E) (P:=P) (w:=w) (M:=M) (e:=e) l H b x us1 ob Cn hr;have F7:=Ws (E:=E) l H b x;have hrc:=fun(β:Beta) (hM:∀b,MZ β b->M b) (hn:Num β b ob)=>Xe (E:=E) (P:=P) (w:=w) (M:=M) (e:=e) hM l H b x us1 ob Cn hr hn (by rw[Gm];intro t ht;simp at ht);generalize Ah E H b l x=r at *;obtain⟨ds1,H1,b1⟩:=r;have hlen:b1=b+ob.length:=hlen;subst hlen;exact⟨ds1,H1,rfl,F7,λβ hM hn=>⟨(hrc β hM hn).1,(hrc β hM hn).2.2.2⟩⟩
def asJ{x y:Value×Nat}{oc ob nw us o2:List (Value×Nat)}(h:o2.Perm (nw++us)):(((oc++[x])++ob)++[y]++o2).Perm (((oc++ob)++nw)++x::y::us):=by
 have h1:(ob++y::o2).Perm (ob++nw++y::us):=by
  rw[C3];exact YW ob<|(h.cons y).trans List.perm_middle.symm
 have h2:(oc++x::(ob++y::o2)).Perm (oc++(ob++nw++x::y::us)):=YW oc<|(h1.cons x).trans List.perm_middle.symm;simpa[C3] using h2
def jR:∀(bs:List Sh) (H:Hp) (b:Nat) (q:LTs bs) (cs ds:List AV) (vs us:List Value) (os:List (Value×Nat)) (L:Nat),Fb P w H bs cs vs ds us->(EU ds).Nodup->(∀i∈EU ds,¬(b<=i/\i<L))->Cf P w M e bs q vs os->(BO E H b bs cs q).2.2<=L->
  ∃nw:List (Value×Nat),os.Perm (nw++us.map λv=>(v,1))/\(BO E H b bs cs q).2.2=b+nw.length/\
   ∀β:Beta,(∀b,MZ β b->M b)->Num β b nw->(∀(i:Nat) (c:AV) (v:Value),ds[i]? =I c->us[i]? =I v->∀id z,c= .ptr id z 0 0->β id=I (v,1))->
    (∀j,(BO E H b bs cs q).2.1 j=H j\/ ∃ob,(BO E H b bs cs q).2.1 j=I ob/\E5 P w β j ob)/\
    (∀j,b<=j->j<b+nw.length->∃ob,(BO E H b bs cs q).2.1 j=I ob/\E5 P w β j ob)/\
    (∀id z,AV.ptr id z 0 0∈ds->∃ob,(BO E H b bs cs q).2.1 id=I ob/\E5 P w β id ob)/\
    (∀j,¬(b<=j/\j<b+nw.length)->(∀z,AV.ptr j z 0 0 ∉ ds)->(BO E H b bs cs q).2.1 j=H j)
 | [],H,b,q,cs,ds,vs,us,os,L,hF,_,_,hr,_=>by
  cases hF;obtain⟨_,rfl⟩:=hr;exact⟨[],.nil,rfl,λβ _ _ _=>⟨λj=> .inl rfl,λj h1 h2=>by simp at h2;omega,λid z h=>by simp at h,λj _ _=>rfl⟩⟩
 | h::bs,H,b,q,cs0,ds0,vs0,us0,os,L,hF,hnd,F7,hr,hL=>by
  cases hF with
  | @flat t l _ id z bb cs ds vs us hl hb hF=>
   obtain⟨u,us',o1,o2,e1,rfl,h1,h2⟩:=hr;cases e1;obtain⟨bb',uc,os',e2,h3,h4,rfl⟩:=h1;cases e2;obtain⟨t0,c0,hid⟩:=hb;obtain⟨da,H1,hmk,ho1,hrc⟩:=lW (E:=E) hl H b q.1 h4;have JW:id ∉ EU ds/\(EU ds).Nodup:=by simpa[EU] using hnd
   have un:BO E H b (.box t l::bs) (.ptr id z 0 0::cs) q=(match BO E (upd H1 id<|I<|.box t da) (b+os'.length) bs cs q.2 with|(es,H'',b'')=>(AV.ptr id z 0 0::es,H'',b'')):=by
    have u1:BO E H b (.box t l::bs) (.ptr id z 0 0::cs) q=(match Cy E H b (.box t l) (.ptr id z 0 0) q.1 with|(d,H,b)=>match BO E H b bs cs q.2 with|(ds,H,b)=>(d::ds,H,b)):=rfl;have u2:Cy E H b (.box t l) (.ptr id z 0 0) q.1=(match H id with
     | some (.box _ cs)=>(match BO E H b l cs q.1 with|(ds,H,b)=>(AV.ptr id z 0 0,upd H id<|I<|.box t ds,b))
     | _=>(.un,H,b)):=rfl
    rw[u1,u2,hid];simp only;rw[Wl l H b c0 q.1 hl,hmk]
   rw[un]at hL ⊢;have hle:=S9 E bs (upd H1 id<|I<|.box t da) (b+os'.length) cs q.2;have hL':(BO E (upd H1 id<|I<|.box t da) (b+os'.length) bs cs q.2).2.2<=L:=by
    generalize BO E (upd H1 id<|I<|.box t da) (b+os'.length) bs cs q.2=r at *;exact hL
   have Gm:∀i∈EU ds,upd H1 id (I<|.box t da) i=H i:=λi hi=>by
    rw[BB _ _ λe=>JW.1 (by rw[← e];exact hi),ho1 i λhh=>F7 i (Ai _ hi) ⟨hh.1,J⟩]
   obtain⟨nw,n1,n4,n5⟩:=jR bs (upd H1 id<|I<|.box t da) (b+os'.length) q.2 cs ds vs us o2 L (hF.carry (Pk.refl _ _) λi hi t c h0=>⟨c,by rw[Gm i hi];exact h0,λ_ _ c1 e _=>⟨c1,e⟩⟩) JW.2
    (λi hi hh=>F7 i (Ai _ hi) ⟨J,hh.2⟩) h2 hL'
   generalize hg:BO E (upd H1 id<|I<|.box t da) (b+os'.length) bs cs q.2=r at *;obtain⟨es,H'',b''⟩:=r;simp only at n4 n5 hle hL hL' ⊢;refine⟨os'++nw, ?_, ?_, ?_⟩
   .rw[C3,C3,DO];refine YW os' ?_;exact((n1.cons (N0<|I ⟨bb,0,G⟩,1)).trans List.perm_middle.symm)
   .rw[n4];simp[D6]
   .intro β hM hn hbx;obtain⟨r1,r3⟩:=hrc β hM hn.left;have azW:β id=I (.pointer<|I ⟨bb,0,G⟩,1):=hbx 0 _ _ rfl rfl id z rfl;have acr:E5 P w β id (.box t da):=⟨bb,uc,azW,h3,r1⟩;obtain⟨m1,m2,m3,m4⟩:=n5 β hM hn.right (λi c v k1 k2=>hbx (i+1) c v (by simpa using k1)<|by simpa using k2);have step:∀j,H'' j=H1 j\/ ∃ob,H'' j=I ob/\E5 P w β j ob:=λj=>by
     obtain h|h:=m1 j
     .by_cases e4:j=id
      .subst e4;rw[Be]at h;exact .inr ⟨_,h,acr⟩
      .rw[BB _ _ e4]at h;exact .inl h
     .exact .inr h
    refine⟨λj=> ?_,λj k1 k2=> ?_,λid2 z2 hm=> ?_,λj k1 k2=> ?_⟩
    .rcases step j with h|h
     .by_cases hj:b<=j/\j<b+os'.length
      .obtain⟨ob,q1,q2⟩:=r3 j hj.1 hj.2;exact .inr ⟨ob,by rw[h];exact q1,q2⟩
      .exact .inl (h.trans<|ho1 j hj)
     .exact .inr h
    .by_cases hj:j<b+os'.length
     .rcases step j with h|h
      .obtain⟨ob,q1,q2⟩:=r3 j k1 hj;exact⟨ob,by rw[h];exact q1,q2⟩
      .exact h
     .exact m2 j J (by simp at k2;omega)
    .rcases Bm.1 hm with h|h
     .cases h;obtain h|h:=m1 id
      .rw[Be]at h;exact⟨_,h,acr⟩
      .exact h
     .exact m3 id2 z2 h
    .have hne:j≠id:=λe4=>k2 z (by rw[e4];exact Am);rw[m4 j (λhh=>k1 ⟨J,by simp;omega⟩) λz' hz'=>k2 z'<|Ai _ hz',BB _ _ hne];exact ho1 j λhh=>k1 ⟨hh.1,by simp;omega⟩
  | @nest t t2 t0 l2 l _ id z id2 z2 bb bb2 cs1 cs ds vs us hl2 hl hid hb2 hn hc hF=>
   obtain⟨u,us',o1,o2,e1,rfl,h1,h2⟩:=hr;cases e1;obtain⟨bb',uc,os',e2,h3,h4,rfl⟩:=h1;cases e2;obtain⟨u2,us1,oa,ob,huc,rfl,h5,h6⟩:=h4;obtain⟨azx,uc2,oc,e3,h7,h8,rfl⟩:=h5;have e4:u2= .pointer (I ⟨bb2,0,G⟩):=by
    obtain⟨us0,fr,k1,k2⟩:=hc;rw[h3]at k1;cases k1;have:uc.toList[0]? =I u2:=by rw[huc];rfl
    rw[TT,k2]at this;exact(Ei this).symm
   rw[e4]at e3;cases e3;subst e4;obtain⟨t3,c3,LC⟩:=hb2;have JW:(id2≠id/\id2 ∉ EU ds)/\id ∉ EU ds/\(EU ds).Nodup:=by simpa[EU,not_or] using hnd
   obtain⟨da,H1,hmk,ho1,azd⟩:=lW (E:=E) hl2 H b q.1.1 h8;obtain⟨dc,H3,azk,ho2,azc⟩:=lW (E:=E) hl (upd H1 id2<|I<|.box t2 da) (b+oc.length) q.1.2 h6;have un:BO E H b (.box t (.box t2 l2::l)::bs) (.ptr id z 0 0::cs) q=
     (match BO E (upd H3 id<|I<|.box t<|.ptr id2 z2 0 0::dc) (b+oc.length+ob.length) bs cs q.2 with|(es,H'',b'')=>(AV.ptr id z 0 0::es,H'',b'')):=by
    have u1:BO E H b (.box t (.box t2 l2::l)::bs) (.ptr id z 0 0::cs) q=(match Cy E H b (.box t<|.box t2 l2::l) (.ptr id z 0 0) q.1 with|(d,H,b)=>match BO E H b bs cs q.2 with|(ds,H,b)=>(d::ds,H,b)):=rfl;have u2:Cy E H b (.box t<|.box t2 l2::l) (.ptr id z 0 0) q.1=(match H id with
     | some (.box _ cs)=>(match BO E H b (.box t2 l2::l) cs q.1 with|(ds,H,b)=>(AV.ptr id z 0 0,upd H id<|I<|.box t ds,b))
     | _=>(.un,H,b)):=rfl
    have u3:BO E H b (.box t2 l2::l) (.ptr id2 z2 0 0::cs1) q.1=(match Cy E H b (.box t2 l2) (.ptr id2 z2 0 0) q.1.1 with|(d,H,b)=>match BO E H b l cs1 q.1.2 with|(ds,H,b)=>(d::ds,H,b)):=rfl;have u4:Cy E H b (.box t2 l2) (.ptr id2 z2 0 0) q.1.1=(match H id2 with
     | some (.box _ cs)=>(match BO E H b l2 cs q.1.1 with|(ds,H,b)=>(AV.ptr id2 z2 0 0,upd H id2<|I<|.box t2 ds,b))
     | _=>(.un,H,b)):=rfl
    rw[u1,u2,hid];simp only;rw[u3,u4,LC];simp only;rw[Wl l2 H b c3 q.1.1 hl2,hmk];simp only;rw[Wl l _ _ cs1 q.1.2 hl,azk]
   rw[un]at hL ⊢;have hle:=S9 E bs (upd H3 id<|I<|.box t<|.ptr id2 z2 0 0::dc) (b+oc.length+ob.length) cs q.2;have hL':(BO E (upd H3 id<|I<|.box t<|.ptr id2 z2 0 0::dc) (b+oc.length+ob.length) bs cs q.2).2.2<=L:=by
    generalize BO E (upd H3 id<|I<|.box t<|.ptr id2 z2 0 0::dc) (b+oc.length+ob.length) bs cs q.2=r at *;exact hL
   have hi2:¬(b<=id2/\id2<L):=F7 id2 Am;have hi1:¬(b<=id/\id<L):=F7 id<|Ai _ Am;have hold:∀j,¬(b<=j/\j<b+oc.length+ob.length)->j≠id->j≠id2->upd H3 id (I<|.box t<|.ptr id2 z2 0 0::dc) j=H j:=λj hj e1 e2=>by
    rw[BB _ _ e1,ho2 j λhh=>hj ⟨J,hh.2⟩,BB _ _ e2,ho1 j λhh=>hj ⟨hh.1,J⟩]
   have Gm:∀i∈EU ds,upd H3 id (I<|.box t<|.ptr id2 z2 0 0::dc) i=H i:=λi hi=>by
    have:=F7 i<|Ai _<|Ai _ hi;exact hold i (λhh=>this ⟨hh.1,J⟩) (λe=>JW.2.1 (by rw[← e];exact hi)) λe=>JW.1.2 (by rw[← e];exact hi)
   obtain⟨nw,n1,n4,n5⟩:=jR bs (upd H3 id<|I<|.box t<|.ptr id2 z2 0 0::dc) (b+oc.length+ob.length) q.2 cs ds vs us o2 L (hF.carry (Pk.refl _ _) λi hi t c h0=>⟨c,by rw[Gm i hi];exact h0,λ_ _ c1 e _=>⟨c1,e⟩⟩) JW.2.2
    (λi hi hh=>F7 i (Ai _<|Ai _ hi) ⟨J,hh.2⟩) h2 hL'
   generalize hg:BO E (upd H3 id<|I<|.box t<|.ptr id2 z2 0 0::dc) (b+oc.length+ob.length) bs cs q.2=r at *;obtain⟨es,H'',b''⟩:=r;simp only at n4 n5 hle hL hL' ⊢;refine⟨oc++ob++nw, ?_, ?_, ?_⟩
   .exact asJ n1
   .rw[n4];simp[D6]
   .intro β hM hn hbx;have ayK:Num β b oc:=hn.left.left;have ayJ:Num β (b+oc.length) ob:=hn.left.right;have aya:Num β (b+oc.length+ob.length) nw:=by
     have:=hn.right;rwa[Aq,← D6]at this
    obtain⟨r1,r3⟩:=azd β hM ayK;obtain⟨s1,s3⟩:=azc β hM ayJ;have hβ2:β id2=I (.pointer<|I ⟨bb2,0,G⟩,1):=hbx 0 _ _ rfl rfl id2 z2 rfl;have hβ1:β id=I (.pointer<|I ⟨bb,0,G⟩,1):=hbx 1 _ _ rfl rfl id z rfl;have ob2:E5 P w β id2 (.box t2 da):=⟨bb2,uc2,hβ2,h7,r1⟩;have ob1:E5 P w β id (.box t<|.ptr id2 z2 0 0::dc):=by
     refine⟨bb,uc,hβ1,h3, ?_⟩;rw[huc];refine RL.cons ?_ s1;have:=RC.ptr (w:=w) (β:=β) (id:=id2) (sz:=z2) (i:=0) (o:=0) hβ2 (b:=bb2) (f:=0) rfl J;simpa using this
    obtain⟨m1,m2,m3,m4⟩:=n5 β hM aya (λi c v k1 k2=>hbx (i+2) c v (by simpa using k1)<|by simpa using k2);have h4:∀j,(upd H3 id (I<|.box t<|.ptr id2 z2 0 0::dc) j=H j/\ ¬(b<=j/\j<b+oc.length+ob.length)/\j≠id/\j≠id2)\/ ∃o,upd H3 id (I<|.box t<|.ptr id2 z2 0 0::dc) j=I o/\E5 P w β j o:=λj=>by
     by_cases e1:j=id
     .subst e1;exact .inr ⟨_,Be _ _ _,ob1⟩
     by_cases e2:j=id2
     .subst e2;refine .inr ⟨_, ?_,ob2⟩;rw[BB _ _ e1,ho2 j λhh=>hi2 ⟨J,J⟩,Be]
     by_cases k1:b<=j/\j<b+oc.length+ob.length
     .by_cases k2:j<b+oc.length
      .obtain⟨o,q1,q2⟩:=r3 j k1.1 k2;exact .inr ⟨o,by rw[BB _ _ e1,ho2 j J,BB _ _ e2];exact q1,q2⟩
      .obtain⟨o,q1,q2⟩:=s3 j J k1.2;exact .inr ⟨o,by rw[BB _ _ e1];exact q1,q2⟩
     .exact .inl ⟨hold j k1 e1 e2,k1,e1,e2⟩
    have step:∀j,(H'' j=H j/\ ¬(b<=j/\j<b+oc.length+ob.length)/\j≠id/\j≠id2)\/ ∃o,H'' j=I o/\E5 P w β j o:=λj=>by
     obtain h|h:=m1 j
     .rcases h4 j with⟨k1,k2⟩|⟨o,k1,k2⟩
      .exact .inl ⟨h.trans k1,k2⟩
      .exact .inr ⟨o,h.trans k1,k2⟩
     .exact .inr h
    refine⟨λj=> ?_,λj k1 k2=> ?_,λid3 z3 hm=> ?_,λj k1 k2=> ?_⟩
    .rcases step j with h|h
     .exact .inl h.1
     .exact .inr h
    .by_cases hj:j<b+oc.length+ob.length
     .rcases step j with h|h
      .exact absurd ⟨k1,hj⟩ h.2.1
      .exact h
     .exact m2 j J (by simp at k2;omega)
    .rcases Bm.1 hm with h|h
     .cases h;obtain h|h:=step id2
      .exact absurd rfl h.2.2.2
      .exact h
     obtain h|h:=Bm.1 h
     .cases h;obtain h|h:=step id
      .exact absurd rfl h.2.2.1
      .exact h
     .exact m3 id3 z3 h
    .have hne:j≠id:=λe4=>k2 z (by rw[e4];exact Ai _ Am);have azj:j≠id2:=λe4=>k2 z2 (by rw[e4];exact Am);rw[m4 j (λhh=>k1 ⟨J,by simp;omega⟩) λz' hz'=>k2 z'<|Ai _<|Ai _ hz'];exact hold j (λhh=>k1 ⟨hh.1,by simp;omega⟩) hne azj
def aB6(hH:Hs B β H w):∀(ps:List Sh) (cs:List AV) (vs:List Value) (x:LTs ps),ZO B.P ps=Y->RL (R1 w β) cs vs->GF E H ps cs=I x->
  ∃ds us,Fb B.P w H (Az ps) (Fq ps cs) (Jk ps vs) ds us/\
   RL (λc v=>∃id z bb,c=AV.ptr id z 0 0/\v=N0 (I ⟨bb,0,G⟩)/\(∃t cs,H id=I (.box t cs))/\β id=I (v,1)/\id∈Bi H ps cs) ds us/\
   (EU ds).Sublist (Bi H ps cs)/\ ∀i∈Bi H ps cs,i∈CZ H ps cs\/ ∃z,AV.ptr i z 0 0∈ds
 | [],[],vs,x,_,hr,hx=>by
  have:=hr.of_nil;subst this;exact⟨[],[],.nil,.nil,Ea _,λi hi=>by simp[Bi]at hi⟩
 | [],_::_,_,_,_,_,hx=>by cases hx
 | _::_,[],_,_,_,_,hx=>by cases hx
 | h::ps,c::cs,vs,x,hp,hr,hx=>by
  obtain⟨v,vs,rfl,h1,h2⟩:=hr.C8;obtain⟨x1,e1,hx⟩:=Ag.1 hx;obtain⟨x2,e2,hx⟩:=Ag.1 hx;simp only[ZO,AD]at hp;obtain⟨ds,us,f1,f2,f3,f4⟩:=aB6 hH ps cs vs x2 hp.2 h2 e2;have f2':RL (λc' v'=>∃id z bb,c'=AV.ptr id z 0 0/\v'=N0 (I ⟨bb,0,G⟩)/\(∃t cs,H id=I (.box t cs))/\β id=I (v',1)/\id∈Bi H (h::ps) (c::cs)) ds us:=
   f2.mono λc' v' ⟨id,z,bb,k1,k2,k3,k4,k5⟩=>⟨id,z,bb,k1,k2,k3,k4,CS _ k5⟩
  have HS:Az (h::ps)=Az ps->Fq (h::ps) (c::cs)=Fq ps cs->Jk (h::ps) (v::vs)=Jk ps vs->(∀i∈Cb H h c,i∈CC H h c)->
    ∃ds us,Fb B.P w H (Az<|h::ps) (Fq (h::ps)<|c::cs) (Jk (h::ps)<|v::vs) ds us/\
     RL (λc' v'=>∃id z bb,c'=AV.ptr id z 0 0/\v'=N0 (I ⟨bb,0,G⟩)/\(∃t cs,H id=I (.box t cs))/\β id=I (v',1)/\id∈Bi H (h::ps) (c::cs)) ds us/\
     (EU ds).Sublist (Bi H (h::ps)<|c::cs)/\ ∀i∈Bi H (h::ps) (c::cs),i∈CZ H (h::ps) (c::cs)\/ ∃z,AV.ptr i z 0 0∈ds:=λg1 g2 g3 g4=>by
   rw[g1,g2,g3];refine⟨ds,us,f1,f2',f3.trans<|YM _ _,λi hi=> ?_⟩;obtain hi|hi:=BL.1 hi
   .exact .inl (Bw _<|g4 i hi)
   .exact(f4 i hi).imp (CS _) λh=>h
  cases h with
  | box t l=>
   have hp1:=hp.1;simp only[AD,C0,CE]at hp1;cases c<;>first|(cases e1;done)|skip
   rename_i id z i o;cases i<;>cases o<;>simp only[Bn]at e1<;>first|(cases e1;done)|skip
   split at e1
   case h_2=>cases e1
   rename_i t' cs' hid;split at e1
   case h_2=>cases e1
   rename_i hbt;obtain rfl:=Bk hbt;have h1:=h1.Qy;cases h1 with
   | @ptr _ _ _ _ hd n bb f k1 ha hi=>
    obtain⟨b',uc,j1,j2,j3⟩:=hH.EK id _ hid;rw[k1]at j1;cases j1;cases ha;have e0:(N0<|I ⟨bb,0+(0 * z+0),G⟩)=N0 (I ⟨bb,0,G⟩):=by simp
    by_cases Zh:aEe l=Y
    ·
     cases l with
     | nil=>cases Zh
     | cons h0 l=>
      cases h0 with
      | box t2 l2=>
       obtain⟨hl,hn⟩:=hp1;have hn:OU B.P t=Y:=hn.resolve_left (by rw[Zh];simp);simp only[abq,AD]at hl;cases cs' with
       | nil=>cases e1
       | cons c2 cs1=>
        obtain⟨y1,g1,g2⟩:=Ag.1 e1;obtain⟨u2,us1,huc,q1,q2⟩:=j3.C8;cases c2<;>first|(cases g1;done)|skip
        rename_i id2 z2 i2 o2;cases i2<;>cases o2<;>simp only[Bn]at g1<;>first|(cases g1;done)|skip
        split at g1
        case h_2=>cases g1
        rename_i t2' cs2 LC;obtain⟨b2,uc2,m1,m2,m3⟩:=hH.EK id2 _ LC;cases q1 with
        | @ptr _ _ _ _ hd2 n2 bb2 f2x k1' ha' hi'=>
         rw[m1]at k1';cases k1';cases ha';have e00:(N0<|I ⟨b2,0+(0 * z2+0),G⟩)=N0 (I ⟨b2,0,G⟩):=by simp
         rw[e00]at huc;refine⟨.ptr id2 z2 0 0:: .ptr id z 0 0::ds,.pointer (I ⟨b2,0,G⟩):: .pointer (I ⟨bb,0,G⟩)::us, ?_, ?_, ?_,λi hi=> ?_⟩
         .rw[e0];exact .nest hl.1 hl.2 hid ⟨_,_,LC⟩ hn ⟨uc,_,j2,by rw[← TT,huc];rfl⟩ f1
         .refine RL.cons ⟨id2,z2,b2,rfl,rfl,⟨_,_,LC⟩,m1, ?_⟩ (RL.cons ⟨id,z,bb,rfl,rfl,⟨_,_,hid⟩,k1, ?_⟩ f2')
          .simp[Bi,Cb,hid,LC]
          .simp[Bi,Cb,hid]
         .simp only[EU,Bi,Cb,hid,LC];refine List.Sublist.trans ?_<|List.Sublist.append_left f3 _;have:(((Bi H l2 cs2++[id2])++Bi H l cs1)++[id])++EU ds=Bi H l2 cs2++(id2::(Bi H l cs1++(id::EU ds))):=by simp
          rw[this];exact(((YM _ _:(id::EU ds).Sublist (Bi H l cs1++(id::EU ds)))).cons_cons id2).trans (YM _ _)
         .simp only[Bi,Cb,hid,LC,BL,CN]at hi;obtain(((hi|hi)|hi)|hi)|hi:=hi
          .refine .inl<|Bw _ ?_;simp only[CC,hid,CZ,LC];exact Bw _ (SF l2 cs2 hl.1 i hi)
          .subst hi;exact .inr ⟨z2,Am⟩
          .refine .inl<|Bw _ ?_;simp only[CC,hid,CZ,LC];exact CS _ (SF l cs1 hl.2 i hi)
          .subst hi;exact .inr ⟨z,Ai _ Am⟩
          .rcases f4 i hi with h|⟨z',h⟩
           .exact .inl (CS _ h)
           .exact .inr ⟨z',Ai _<|Ai _ h⟩
      | _=>cases Zh
    ·
     have hl:HP l=Y:=by
      have:=hp1.1;cases l with
      | nil=>rfl
      | cons h0 l=>cases h0<;>first|exact this|exact absurd rfl Zh
     refine⟨.ptr id z 0 0::ds,.pointer (I ⟨bb,0,G⟩)::us, ?_, ?_, ?_,λi hi=> ?_⟩
     .rw[e0];exact .flat hl ⟨_,_,hid⟩ f1
     .refine RL.cons ⟨id,z,bb,rfl,rfl,⟨_,_,hid⟩,k1, ?_⟩ f2';simp[Bi,Cb,hid]
     .simp only[EU,Bi,Cb,hid];rw[C3];exact((f3.cons_cons id)).trans (YM _ _)
     .simp only[Bi,Cb,hid,BL,CN]at hi;obtain(hi|hi)|hi:=hi
      .refine .inl<|Bw _ ?_;simp only[CC,hid];exact SF l cs' hl i hi
      .subst hi;exact .inr ⟨z,Am⟩
      .rcases f4 i hi with h|⟨z',h⟩
       .exact .inl (CS _ h)
       .exact .inr ⟨z',Ai _ h⟩
  | agg l=>
   refine HS rfl rfl rfl λi hi=> ?_;cases c with
   | agg cs'=>
    simp only[CC];exact SF l cs' hp.1 i<|by simpa[Cb] using hi
   | _=>simp[Cb]at hi
  | arr=>exact HS rfl rfl rfl λi hi=>by simp[Cb]at hi
  | same=>exact HS rfl rfl rfl λi hi=>by simp[Cb]at hi
  | int=>exact HS rfl rfl rfl λi hi=>by simp[Cb]at hi
  | bool=>exact HS rfl rfl rfl λi hi=>by simp[Cb]at hi
  | str=>exact HS rfl rfl rfl λi hi=>by simp[Cb]at hi
  | sl=>exact HS rfl rfl rfl λi hi=>by simp[Cb]at hi
  | fz=>exact HS rfl rfl rfl λi hi=>by simp[Cb]at hi
  | row t k=>exact HS rfl rfl rfl (Wy _ c rfl rfl)
  | Cd t k=>exact HS rfl rfl rfl (Wy _ c rfl rfl)
  | abx t k=>exact HS rfl rfl rfl (Wy _ c rfl rfl)
def aDF{t:TypeId}{j:Nat}:∀(ids:List Nat) (s:S) {cs:List AV},j ∉ ids->s.H j=I (.box t cs)->∃cs',(ids.foldl S.kill s).H j=I (.box t cs')/\ ∀id2 z2 cs1,cs= .ptr id2 z2 0 0::cs1->id2 ∉ ids->∃KK,cs'= .ptr id2 z2 0 0::KK
 | [],s,cs,_,h=>⟨cs,h,λ_ _ c e _=>⟨c,e⟩⟩
 | i::ids,s,cs,hj,h=>by
  have hne:j≠i:=λe=>hj<|e▸Am;obtain⟨c',h1,h2⟩:=aDF (t:=t) (j:=j) ids (s.kill i) (cs:=cs.map<|kl1 i) (λhm=>hj<|Ai _ hm) (by
   show upd (λj=>CH (kl1 i)<|s.H j) i G j=_;rw[BB _ _ hne,h];rfl)
  refine⟨c',h1,λid2 z2 cs1 e hn=> ?_⟩;subst e;have hn2:id2≠i:=λe=>hn<|e▸Am;have e1:Af id2 i=A0:=by rw[← GL,HF];exact hn2
  exact h2 id2 z2 (cs1.map<|kl1 i) (by simp[kl1,e1]) λhm=>hn<|Ai _ hm
def aB1{t:TypeId}{j:Nat}:∀(ids:List Nat) (s:S) {cs:List AV},j ∉ ids->s.H j=I (.box t cs)->∃cs',(ids.foldl S.freeze s).H j=I (.box t cs')/\ ∀id2 z2 cs1,cs= .ptr id2 z2 0 0::cs1->id2 ∉ ids->∃KK,cs'= .ptr id2 z2 0 0::KK
 | [],s,cs,_,h=>⟨cs,h,λ_ _ c e _=>⟨c,e⟩⟩
 | i::ids,s,cs,hj,h=>by
  have hne:j≠i:=λe=>hj<|e▸Am;have:∃cs',(s.freeze i).H j=I (.box t cs')/\ ∀id2 z2 cs1,cs= .ptr id2 z2 0 0::cs1->id2≠i->∃KK,cs'= .ptr id2 z2 0 0::KK:=by
   unfold S.freeze;split
   .rename_i k xs _;refine⟨cs.map<|fz1 i k xs, ?_,λid2 z2 cs1 e hn=> ?_⟩
    .show upd (λj=>CH (fz1 i k xs)<|s.H j) i G j=_;rw[BB _ _ hne,h];rfl
    .subst e;have e1:Af id2 i=A0:=by rw[← GL,HF];exact hn
     exact⟨cs1.map<|fz1 i k xs,by simp[fz1,e1]⟩
   .refine⟨cs.map<|kl1 i, ?_,λid2 z2 cs1 e hn=> ?_⟩
    .show upd (λj=>CH (kl1 i)<|s.H j) i G j=_;rw[BB _ _ hne,h];rfl
    .subst e;have e1:Af id2 i=A0:=by rw[← GL,HF];exact hn
     exact⟨cs1.map<|kl1 i,by simp[kl1,e1]⟩
  obtain⟨c',h',hd'⟩:=this;obtain⟨c2,h2,h3⟩:=aB1 (t:=t) (j:=j) ids (s.freeze i) (λhm=>hj<|Ai _ hm) h';refine⟨c2,h2,λid2 z2 cs1 e hn=> ?_⟩;obtain⟨KK,e'⟩:=hd' id2 z2 cs1 e (λe=>hn<|e▸Am);exact h3 id2 z2 KK e' λhm=>hn<|Ai _ hm
def avl{t:TypeId}{j:Nat}(q:Bool)(ids:List Nat)(s:S){cs:List AV}(hj:¬(q=Y/\j∈ids))(h:s.H j=I (.box t cs)):
  ∃cs',(GK q ids s).H j=I (.box t cs')/\ ∀id2 z2 cs1,cs= .ptr id2 z2 0 0::cs1->¬(q=Y/\id2∈ids)->∃KK,cs'= .ptr id2 z2 0 0::KK:=by
 cases q with
 | false=>exact⟨cs,h,λ_ _ c e _=>⟨c,e⟩⟩
 | true=>
  obtain⟨c',h1,h2⟩:=aB1 ids s (λhm=>hj ⟨rfl,hm⟩) h;exact⟨c',h1,λid2 z2 cs1 e hn=>h2 id2 z2 cs1 e λhm=>hn ⟨rfl,hm⟩⟩
def ab4{cs:List AV}{vs:List Value}(h:RL (R1 w β) cs vs):R2 w β (Ln cs) (M6 vs):=by
 match cs,vs,h with
 | [],vs,h=>
  have:=h.of_nil;subst this;exact⟨[],rfl,.nil⟩
 | [c],vs,h=>
  obtain⟨v,vs',rfl,h1,h2⟩:=h.C8;have:=h2.of_nil;subst this;exact .HH h1
 | c::c'::cs,vs,h=>
  obtain⟨v,vs',rfl,h1,h2⟩:=h.C8;obtain⟨v',ayr,rfl,h3,h4⟩:=h2.C8;exact⟨v::v'::ayr,rfl,h⟩
def aDc:∀(ps:List Sh) (k:Nat) (t:Nat),t∈Dw k ps->k<=t/\ ∃e l,ps[t - k]? =I (.box e l)
 | [],_,_,h=>by cases h
 | p::ps,k,t,h=>by
  have tail:t∈Dw (k+1) ps->k<=t/\ ∃e l,(p::ps)[t - k]? =I (.box e l):=λh=>by
   obtain⟨h1,e,l,h2⟩:=aDc ps (k+1) t h;refine⟨J,e,l, ?_⟩;have:t - k=(t - (k+1))+1:=J
   rw[this];simpa using h2
  unfold Dw at h;split at h
  .rename_i hb;obtain rfl|h:=Bm.1 h
   .refine⟨Ar _, ?_⟩;cases p<;>first|(cases hb;done)|skip
    rename_i t0 l0;exact⟨t0,l0,by simp⟩
   .exact tail h
  .exact tail h
def aDS{H:Hp}:∀ {ps:List Sh} {cs:List AV} {x:LTs ps},GF E H ps cs=I x->∀ {i:Nat} {h:Sh},ps[i]? =I h->∃c y,cs[i]? =I c/\Bn E H h c=I y
 | [],cs,x,_,i,h,hi=>by simp at hi
 | _::_,[],_,h,_,_,_=>by cases h
 | p::ps,c::cs,x,hx,i,h,hi=>by
  obtain⟨x1,e1,hx⟩:=Ag.1 hx;obtain⟨x2,e2,hx⟩:=Ag.1 hx;cases i with
  | zero=>simp at hi;subst hi;exact⟨c,x1,rfl,e1⟩
  | succ i=>
   obtain⟨c',y,h1,h2⟩:=aDS e2 (by simpa using hi);exact⟨c',y,by simpa using h1,h2⟩
end
end Go.VS
namespace Go.VS
open Go
def okQ(P:Program)(m:DS):Bool:=ZO P m.ps&&Jo m.rs&&(IY m.rs).all λt=>(Dw 0 m.ps).any λp=>Af p t
section
variable {B B':Bb} {β β':Beta} {H:Hp} {w w':World} {M M':Nat->Prop} {stk:List (Array Value)} {s s':S} {a:Act} {P:Program} {E:Nat->AV} {e:Nat->Value} {b:Nat} {C:Cx}
def aCO{o:Oper}{f:FuncId}{args:List Operand}{ts:Array TypeId}{K:Act->World->Prop}{Q:Exit->Act->World->Prop}(hE:Lj P f)(ho:o.op= .call { callee:= .value<|.func f,args:=args.toArray,argTypes:=ts })
  {R:Ending->World->Prop}(hc:Calls P f (args.map a.eval).toArray w R)(hR:∀en w',R en w'->∃v,en= .returned v/\K (a.put o.dst v) w'):o.wp P a w K Q:=by
 unfold Oper.wp;have h1:execOp a.eval o=callFunc f (args.map a.eval).toArray:=by
  have ef:a.eval (.func f)= .func (.func f) #[] #[]:=rfl;unfold execOp;simp[ho,resolve,Deferred.ofValue,invoke,ef]
 rw[h1,hE];refine M1 hc λen w' h=> ?_;obtain⟨v,rfl,hk⟩:=hR en w' h;exact hk
def aAi:∀(ids:List Nat) (s:S),(ids.foldl S.kill s).gs=s.gs/\(ids.foldl S.kill s).n=s.n/\(ids.foldl S.kill s).pins=s.pins
 | [],_=>⟨rfl,rfl,rfl⟩
 | i::ids,s=>aAi ids (s.kill i)
def arh(q:Bool)(ids:List Nat)(s:S):(GK q ids s).gs=s.gs/\(GK q ids s).n=s.n/\(GK q ids s).pins=s.pins:=by
 cases q with
 | false=>exact⟨rfl,rfl,rfl⟩
 | true=>
  obtain⟨h1,h2,h3,_⟩:=fW ids s;exact⟨h1,h2,h3⟩
def asb{h:Sh}{x:LT h}{v:Value}{os:List (Value×Nat)}(ht:my h=Y)(hr:Rel P w M e h x v os):(BG E H b h x).2.2=b+os.length:=by
 by_cases hh:Ib h=Y
 .exact aD4 h H b x v os hh hr
 .cases h<;>first|(exact absurd ht hh;done)|skip
  case agg l=>
   obtain⟨us,rfl,h1⟩:=hr;have un:BG E H b (.agg l) x=(match Ah E H b l x with|(cs,H,b)=>(AV.agg cs,H,b)):=rfl;have:=Wu (E:=E) l H b x us os ht h1;rw[un];generalize Ah E H b l x=r at *;exact this
  case arr k=>
   obtain⟨rfl,h1⟩:=hr;rfl
def aAs:∀ {l:List Sh} {H:Hp} {b:Nat} {x:LTs l} {us:List Value} {os:List (Value×Nat)},Jo l=Y->Cf P w M e l x us os->(Ah E H b l x).2.2=b+os.length
 | [],H,b,x,us,os,_,hr=>by obtain⟨_,rfl⟩:=hr;rfl
 | h::l,H,b,x,us,os,hl,hr=>by
  obtain⟨u,us',o1,o2,rfl,rfl,h1,h2⟩:=hr;simp only[Jo,AD]at hl;have un:Ah E H b (h::l) x=(match BG E H b h x.1 with|(c,H,b)=>match Ah E H b l x.2 with|(cs,H,b)=>(c::cs,H,b)):=rfl;have k:=asb (E:=E) (H:=H) (b:=b) hl.1 h1;rw[un];generalize BG E H b h x.1=r at *;obtain⟨c,H',b'⟩:=r;have k:b'=b+o1.length:=k;subst k;have k2:=aAs (H:=H') (b:=b+o1.length) hl.2 h2;simp only;generalize Ah E H' (b+o1.length) l x.2=r at *;obtain⟨cs,H'',b''⟩:=r;have k2:b''=_:=k2;simp[k2,D6]
def asC{O:Nat->Prop}(hg:NI B.P B.w0 B.O)(hs:Hs B β H w)(hO:∀b,O b->MB β b):NI B.P w O:=by
 obtain⟨w0,h1,h2⟩:=hg;refine⟨w0,h1,λb hb=> ?_⟩;obtain⟨h3,h4,h5⟩:=h2 b hb;exact⟨λh=>(hs.old b<|hO b h).1.elim h3 J,Gj h4 hs.size,(hs.block b h4 h3).trans h5⟩
def awn{m:DS}{f:FuncId}(hS:H6 B.P f m)(hk:okQ B.P m=Y){d:Option Nat}{as:List Operand}{o:Oper}{ts:Array TypeId}{K:Act->World->Prop}{Q:Exit->Act->World->Prop}
  (hst:St B β stk s a w)(hfr:∀j,b<=j->j<b+16->s.H j=G)(hd:s.has d=Y)(he:HU m s b d (as.map s.ev) I=I s')(hod:o.dst=d)(ho:o.op= .call { callee:= .value<|.func f,args:=as.toArray,argTypes:=ts })
  (hK:Jt B stk a d s' K):o.wp B.P a w K Q:=by
 simp only[okQ,AD,DM,KA]at hk;obtain⟨⟨hps,hrs⟩,hsm⟩:=hk;unfold HU at he;simp only at he;split at he
 case h_2=>cases he
 rename_i x hx hnd;obtain⟨r,hr,he⟩:=Ag.1 he;simp only[AD]at hnd;have P5:=WZ hnd.1;generalize hcs:as.map s.ev=cs at *;generalize Ir:as.map a.eval=args;have hlen:args.length=cs.length:=by rw[← hcs,← Ir];simp
 have hrx:∀(i:Nat) (c:AV) (v:Value),cs[i]? =I c->args[i]? =I v->RX w β (BZ a) c v:=λi c v h1 h2=>by
  rw[← hcs,D5]at h1;rw[← Ir,D5]at h2;obtain⟨y,hy,rfl⟩:=DA.1 h1;rw[hy]at h2;cases h2;exact hst.eval y
 have hpl:=W6 hx;have rl:RL (R1 w β) cs args:=⟨hlen,λj c u h1 h2=>(hrx j c u h1 h2).ME (hpl c<|Cl h1).1 (hpl c<|Cl h1).2⟩;generalize hE:(fun(i:Nat)=>(cs[i]?).getD AV.un)=E at *;have ach:∀ {t:Nat} {c:AV},cs[t]? =I c->E t=c:=λh=>by rw[← hE];simp[h]
 generalize hI:Bi s.H m.ps cs=ids at *;generalize hro:CZ s.H m.ps cs=ro at *;generalize hfz:Cr s.H m.ps cs=fz at *;have ay4:ro.Sublist ids:=by rw[← hro,← hI];exact XC _ _
 have aF:∀i∈ro,QB s.H i:=by rw[← hro];exact WU _ _ _ hx
 have Zs:∀i∈fz,QB s.H i:=by rw[← hfz];exact Wm _ _ _ hx
 obtain⟨bc,bv,hFb,hba,acO,nN⟩:=aB6 (E:=E) hst.hs m.ps cs args x hps rl hx;rw[hI]at hba acO nN;rw[hro]at nN
 let Zc:Nat->Prop:=λbl=>MZ β bl/\bl ∉ Ax (ids.filterMap β)/\bl ∉ Ax (fz.filterMap β)
 have R:NR B β s.H w (λbl=>bl∈Ax (ids.filterMap β)\/Zc bl) E (ar args):={
  hs:=hst.hs
  hM:=λbl h=>h.elim (λh=> .inl<|Sw h) (λh=>h.1)
  hE:=λt id z hEt=>by
   cases hc:cs[t]? with
   | none=>rw[← hE]at hEt;simp[hc]at hEt
   | some c=>
    have hlt:t<args.length:=by rw[hlen];exact(BN.1 hc).1
    rw[ach hc];exact rl.2 t c _ hc (by simp[ar,hlt]) }
 have az6:Qk β (λbl=>bl∈Ax (ids.filterMap β)\/Zc bl) fz:=λi hi p a' hp ha hm=>by
  obtain hm|hm:=hm
  .exact kb hst.hs hnd.2 i hi p a' hp ha (.inl hm)
  .exact hm.2.2<|GO.2 ⟨p,GO.2 ⟨i,hi,hp⟩,by simp[HQ,ha]⟩
 obtain⟨os,JV,G5⟩:=WX R m.ps cs args x rl hx (by rw[hfz];exact az6);rw[hI]at G5;have oM:(λbl=>bl∈Ax (ids.filterMap β)\/Zc bl)=λbl=>bl∈Ax os\/Zc bl:=by rw[G5]
 rw[oM]at JV;have Zg:∀bl∈Ax os,MB β bl:=λbl h=>by rw[G5]at h;exact Sw h
 have Zj:=hS.2 x r hr w Zc args os JV (by rw[G5];exact Wj hst.hs P5)
  (λbl h=>⟨(hst.hs.old bl<|Zg bl h).2,λhz=>hz.2.1 (by rw[← G5];exact h)⟩) (λbl h=>by
   obtain h1|h1:=h.1
   .exact(hst.hs.old bl h1).2
   .exact hst.hs.zl bl h1)
  (asC B.gl hst.hs λbl h=>Zg bl h)
 rw[← Ir]at Zj;refine aCO hS.1 ho Zj ?_;rw[Ir];rintro en w' ⟨v,rfl,II⟩;refine⟨v,rfl, ?_⟩;rw[hod];obtain⟨vs,os1,os2,rfl,hr1,hr2,ay8,hbl⟩:=II.ex;obtain⟨β1,h1,hβ1,hZ1⟩:=St.ac9 (a:=a) (w:=w) (stk:=stk) ro (P5.sublist ay4) hst;obtain⟨β2,h2,hβ2,hZ2⟩:=h1.ayy (CO m.rs||CO (Az m.ps)) fz;have Gm:=arh (CO m.rs||CO (Az m.ps)) fz<|ro.foldl S.kill s;have nL:=aAi ro s;have aEg:∀ {id:Nat} {t:TypeId} {cs0:List AV},s.H id=I (.box t cs0)->∃cs1,(GK (CO m.rs||CO (Az m.ps)) fz<|ro.foldl S.kill s).H id=I (.box t cs1):=fun {id t cs0} hid=>by
  obtain⟨cs1,h⟩:=aCX ro s (λhm=>aF id hm t cs0 hid) hid;exact auN _ fz _ (λhm=>Zs id hm.2 t cs0 hid) h
 have ay7:∀j,s.H j=G->(GK (CO m.rs||CO (Az m.ps)) fz<|ro.foldl S.kill s).H j=G:=λj hj=>
  (aB0 (N:=λ_=>False) (CO m.rs||CO (Az m.ps)) fz<|BC.nb ro<|BC.refl _ s).nn j (λh=>h) hj
 generalize hq:(CO m.rs||CO (Az m.ps))=q at *;generalize hs2:GK q fz (ro.foldl S.kill s)=s2 at *;have aD:∀j p,β2 j=I p->β j=I p/\j ∉ ro/\ ¬(q=Y/\j∈fz):=λj p h=>by
  rw[hβ2]at h;split at h
  .cases h
  .rename_i hn;rw[hβ1]at h;split at h
   .cases h
   .rename_i hn';exact⟨h,hn',hn⟩
 have acf:∀bl,β2.Z bl↔β.Z bl\/ ∃i∈ro,∃p a,β i=I p/\adr p.1=I a/\a.block=bl:=λbl=>by rw[hZ2];exact hZ1 bl
 generalize hbc:Fq m.ps cs=bcT at *;generalize hbv:Jk m.ps args=bvT at *;have hM2:∃M2:Nat->Prop,Cf B.P w' M2 (ar args) m.rs r.1 vs os1/\Cf B.P w' M2 (ar args) (Az m.ps) r.2 bvT os2/\(q=A0->∀bl,M2 bl)/\(q=Y->∀bl,(bl∈Ax (os1++os2)\/Zc bl)->M2 bl):=by
  cases q with
  | false=>
   simp only[Mv]at hq;exact⟨λ_=>True,Cf.anyM _ _ _ _ hq.1 hr1,Cf.anyM _ _ _ _ hq.2 hr2,λ_ _=>trivial,λh=>by cases h⟩
  | true=>exact⟨_,hr1,hr2,(by intro h;cases h),λ_ bl h=>h⟩
 obtain⟨M2,acT,aze,hMf,hMt⟩:=hM2;generalize hg:BO E s2.H b (Az m.ps) bcT r.2=g at *;obtain⟨ds,H1,b1⟩:=g;simp only at he;generalize hmk:Ah E H1 b1 m.rs r.1=g at *;obtain⟨rc,Hf,b2⟩:=g;simp only at he;split at he
 case h_2=>cases he
 rename_i hb2;have hb2:=Da hb2;cases he;have PA:b1<=b2:=by have:=J2 E m.rs H1 b1 r.1;rw[hmk]at this;exact this
 have hgb:(BO E s2.H b (Az m.ps) bcT r.2).2.2<=b+16:=by rw[hg];exact CP PA hb2
 have hdK:∀i∈EU bc,i ∉ ro/\i ∉ fz/\ ∃t cs0,s.H i=I (.box t cs0):=λi hi=>by
  obtain⟨z,hz⟩:=aam hi;obtain⟨j,hj⟩:=aBD hz;obtain⟨v,_,id,z',bb,k1,_,⟨t,cs0,k3⟩,_,_⟩:=hba.get hj;cases k1;exact⟨λh=>aF i h _ _ k3,λh=>Zs i h _ _ k3,t,cs0,k3⟩
 have azI:Fb B.P w' s2.H (Az m.ps) bcT bvT bc bv:=hFb.carry II.pk λi hi t cs0 h0=>by
  obtain⟨k1,k2,_⟩:=hdK i hi;obtain⟨cs1,h3,h4⟩:=aDF ro s k1 h0;obtain⟨cs2,h5,h6⟩:=avl q fz (ro.foldl S.kill s) (λhm=>k2 hm.2) h3;rw[hs2]at h5;refine⟨cs2,h5,λid2 z2 c1 e hm=> ?_⟩;obtain⟨c2,e2⟩:=h4 id2 z2 c1 e (hdK id2 hm).1;exact h6 id2 z2 c2 e2 λhm'=>(hdK id2 hm).2.1 hm'.2
 obtain⟨nw,ayZ,hb1,hgi⟩:=jR (E:=E) (P:=B.P) (w:=w') (M:=M2) (e:=ar args) (Az m.ps) s2.H b r.2 bcT bc bvT bv os2 (b+16) azI (P5.sublist acO)
  (λi hi hh=>by
   obtain⟨_,_,t,cs0,k3⟩:=hdK i hi;rw[hfr i hh.1 hh.2]at k3;cases k3) aze hgb
 rw[hg]at hb1 hgi;simp only at hb1 hgi
 let os':=nw++os1
 let β3:Beta:=⟨λj=>if b<=j/\j<b+os'.length then os'[j - b]? else β2 j,B.Z⟩
 have Tw:∀j p,β3 j=I p->(b<=j/\j<b+os'.length/\os'[j - b]? =I p)\/(¬(b<=j/\j<b+os'.length)/\β2 j=I p):=λj p h=>by
  have h:(if b<=j/\j<b+os'.length then os'[j - b]? else β2 j)=I p:=h;split at h
  .rename_i hh;exact .inl ⟨hh.1,hh.2,h⟩
  .rename_i hh;exact .inr ⟨hh,h⟩
 have R4:Num β3 b os':=λi p hp=>by
  have hlt:=(BN.1 hp).1;show(if b<=b+i/\b+i<b+os'.length then os'[b+i - b]? else β2 (b+i))=I p;rw[A5 ⟨J,J⟩,show b+i - b=i by omega];exact hp
 have Zp:(Ax os2).Perm (Ax nw++Ax (bv.map λv=>(v,1))):=by
  have:=ayZ.filterMap HQ;rwa[Ls]at this
 have Tv:∀bl,bl∈Ax os'->bl∈Ax (os1++os2):=λbl h=>by
  simp only[os',Ax,Ls,BL]at h ⊢;obtain h|h:=h
  .exact .inr (Zp.mem_iff.2<|Bw _ h)
  .exact .inl h
 have aG:(Ax os'++Ax (bv.map λv=>(v,1))).Nodup:=by
  have h1:(Ax<|os1++os2).Perm (Ax os'++Ax (bv.map λv=>(v,1))):=by
   simp only[os',Ax,Ls]at Zp ⊢;refine(YW _ Zp).trans ?_;rw[← C3];exact List.Perm.append_right _ List.perm_append_comm
  exact h1.nodup_iff.1 ay8
 have ayL:(Ax os').Nodup:=(JR.1 aG).1;have nV:∀i,i∈ids->i ∉ ro->∃v,(v,1)∈bv.map (λv=>(v,1))/\β i=I (v,1)/\(∃z,AV.ptr i z 0 0∈bc):=λi hi hn=>by
  obtain h|⟨z,h⟩:=nN i hi
  .exact absurd h hn
  .obtain⟨j,hj⟩:=aBD h;obtain⟨v,hv,id,z',bb,k1,k2,k3,k4,k5⟩:=hba.get hj;cases k1;exact⟨v,Bv.2 ⟨v,Cl hv,rfl⟩,k4,z,h⟩
 have nk:∀j p a',β2 j=I p->adr p.1=I a'->a'.block∈Ax os->j∈ids/\j ∉ ro:=λj p a' hj ha hm=>by
  obtain⟨h0,h1,_⟩:=aD j p hj;rw[G5]at hm;obtain⟨i,hi,p',a2,hp',ha',e'⟩:=Md hm;have:=hst.hs.inj j i p p' a' a2 h0 hp' ha ha' e'.symm;subst this;exact⟨hi,h1⟩
 have acA:∀bl,bl∈Ax os->MZ β2 bl:=λbl hm=>by
  have hm':=hm;rw[G5]at hm;obtain⟨i,hi,p,a',hp,ha,e'⟩:=Md hm;by_cases hr:i∈ro
  .exact .inr ((acf bl).2<|.inr ⟨i,hr,p,a',hp,ha,e'⟩)
  .refine .inl ⟨i,p.1,p.2,a', ?_,ha,e'⟩;have hnf:i ∉ fz:=λhf=>aDe hnd.2 i hf hi;rw[hβ2,A9 λh=>hnf h.2,hβ1,A9 hr];exact hp
 have nc:∀bl,MB β3 bl->MB β2 bl\/bl∈Ax os':=λbl hm=>by
  obtain⟨j,hd',n,a',hj,ha,e'⟩:=hm;obtain⟨_,_,hj⟩|⟨_,hj⟩:=Tw j _ hj
  .exact .inr (GO.2 ⟨_,Cl hj,by simp[HQ,ha,e']⟩)
  .exact .inl ⟨j,hd',n,a',hj,ha,e'⟩
 have Cn:∀bl o v,¬MZ β2 bl->w.cell? ⟨bl,o,G⟩=I v->w'.cell? ⟨bl,o,G⟩=I v:=λbl o v hn hc=>by
  have hlt:=block_lt_of_cell hc;rw[TQ (w:=w) (w':=w')<|II.block bl hlt λhm=>hn<|acA bl hm];exact hc
 have azH:∀bl,¬MZ β2 bl->bl<w.heap.size->¬MZ β3 bl:=λbl hn hlt hm=>by
  obtain hm|hm:=hm
  .rcases nc bl hm with h|h
   .exact hn (.inl h)
   .rcases(hbl bl<|Tv bl h).1 with h3|h3
    .exact hn (acA bl h3)
    .omega
  .exact hn<|.inr<|(acf bl).2<|.inl (by rw[hst.hs.z];exact hm)
 have aC:∀j p,β2 j=I p->β3 j=I p:=λj p hj=>by
  have hne:¬(b<=j/\j<b+os'.length):=λhh=>by
   have ayO:os'.length=nw.length+os1.length:=by simp[os']
   have h3:=(hgi:_);obtain⟨ob,hob⟩:=h2.hs.dom j p hj;have:=ay7 j (hfr j hh.1 (by
    have:b2=b1+os1.length:=by
     have:=aAs hrs acT (E:=E) (H:=H1) (b:=b1);rw[hmk]at this;exact this
    omega))
   rw[this]at hob;cases hob
  show(if b<=j/\j<b+os'.length then os'[j - b]? else β2 j)=I p;rw[A9 hne];exact hj
 have hkp:Kp w β2 w' β3:=λc v hc=>hc.mono aC Cn azH;have hM3:∀bl,MZ β3 bl->M2 bl:=λbl hm=>by
  cases q with
  | false=>exact hMf rfl bl
  | true=>
   refine hMt rfl bl ?_;obtain hm|hm:=hm
   .rcases nc bl hm with h|h
    .obtain⟨j,hd',n,a',hj,ha,e'⟩:=h;obtain⟨k1,k2,k3⟩:=aD j _ hj;by_cases hji:j∈ids
     .obtain⟨v,hv1,hv2,_⟩:=nV j hji k2;rw[k1]at hv2;cases hv2;refine .inl ?_;simp only[Ax,Ls,BL];refine .inr (Zp.mem_iff.2<|CS _<|GO.2 ⟨_,hv1,by simp[HQ,ha,e']⟩)
     .refine .inr ⟨.inl ⟨j,hd',n,a',k1,ha,e'⟩,λhb=> ?_,λhb=> ?_⟩
      .rw[← G5,← e']at hb;exact hji (nk j _ a' hj ha hb).1
      .obtain⟨i,hi,p,a2,hp,ha2,e2⟩:=Md hb;have:=hst.hs.inj j i _ p a' a2 k1 hp ha ha2<|e'.trans e2.symm;subst this;exact k3 ⟨rfl,hi⟩
    .exact .inl (Tv bl h)
   .have hz:β.Z bl:=by rw[hst.hs.z];exact hm
    refine .inr ⟨.inr hz,λhb=> ?_,λhb=> ?_⟩
    .obtain⟨i,hi,p,a2,hp,ha2,e2⟩:=Md hb;exact hst.hs.zn i p a2 hp ha2 (e2▸hz)
    .obtain⟨i,hi,p,a2,hp,ha2,e2⟩:=Md hb;exact hst.hs.zn i p a2 hp ha2<|e2▸hz
 obtain⟨g1,g2,g3,g4⟩:=hgi β3 hM3 R4.left (λi c v k1 k2 id z hc=>by
  obtain⟨id',z',bb,j1,j2,j3,j4,j5⟩:=hba.2 i c v k1 k2;rw[hc]at j1;cases j1;refine aC id _ ?_;have hnr:id ∉ ro:=λh=>aF id h _ _ j3.choose_spec.choose_spec;have hnf:id ∉ fz:=λh=>Zs id h _ _ j3.choose_spec.choose_spec;rw[hβ2,A9 λh=>hnf h.2,hβ1,A9 hnr];exact j4)
 have ayW:Tb w' β3 E (ar args) (IY m.rs):=λt ht=>by
  obtain⟨p,hp1,hp2⟩:=hsm t ht;obtain rfl:=Bk hp2;obtain⟨_,e1,l1,hp3⟩:=aDc m.ps 0 p hp1;rw[JN]at hp3;obtain⟨c,y,hc,hy⟩:=aDS hx hp3;have hlt:p<args.length:=by rw[hlen];exact(BN.1 hc).1
  have hR:=rl.2 p c (ar args p) hc (by simp[ar,hlt]);rw[ach hc];cases c<;>first|(cases hy;done)|skip
  rename_i id z i' o';cases i'<;>cases o'<;>simp only[Bn]at hy<;>first|(cases hy;done)|skip
  split at hy
  case h_2=>cases hy
  rename_i t' cs' hid;have hnr:id ∉ ro:=λh=>aF id h _ _ hid;have hnf:id ∉ fz:=λh=>Zs id h _ _ hid;have hR:=hR.Qy;generalize ar args p=v at hR;cases hR with
  | ptr k1 k2 k3=>exact .M9<|.ptr (aC id _ (by rw[hβ2,A9 λh=>hnf h.2,hβ1,A9 hnr];exact k1)) k2 k3
 obtain⟨f1,f2,f3⟩:=Xd (β:=β3) (E:=E) (M:=M2) (P:=B.P) (w:=w') (e:=ar args) hM3 m.rs H1 b1 r.1 vs os1 hrs acT (by rw[hb1];exact R4.right) ayW;rw[hmk]at f1 f2 f3;simp only at f1 f2 f3;have ayO:os'.length=nw.length+os1.length:=by simp[os']
 have acX:∀j,(∃ob,Hf j=I ob/\E5 B.P w' β3 j ob)\/(Hf j=s2.H j/\ ∀z,AV.ptr j z 0 0 ∉ bc):=λj=>by
  by_cases hj:b1<=j/\j<b1+os1.length
  .exact .inl (f3.2 j hj.1 hj.2)
  .have e1:Hf j=H1 j:=f3.1 j J;obtain h|⟨ob,h,h'⟩:=g1 j
   .by_cases hm:∃z,AV.ptr j z 0 0∈bc
    .obtain⟨z,hm⟩:=hm;obtain⟨ob,h3,h4⟩:=g3 j z hm;exact .inl ⟨ob,by rw[e1];exact h3,h4⟩
    .exact .inr ⟨e1.trans h,λz hz=>hm ⟨z,hz⟩⟩
   .exact .inl ⟨ob,by rw[e1];exact h,h'⟩
 have hHf:Hs B β3 Hf w':={
  EK:=λj ob hj=>by
   obtain⟨ob',h3,h4⟩|⟨h3,h4⟩:=acX j
   .rw[h3]at hj;cases hj;exact h4
   .rw[h3]at hj;have hob:=h2.hs.EK j ob hj;have hex:∃p,β2 j=I p:=by
     cases ob with
     | box e cs=>obtain⟨_,_,h,_⟩:=hob;exact⟨_,h⟩
     | row e fz k xs=>obtain⟨_,h,_⟩:=hob;exact⟨_,h⟩
     | arr e k xs=>obtain⟨_,_,h,_⟩:=hob;exact⟨_,h⟩
    obtain⟨p,hp⟩:=hex;refine hob.mono (by rw[aC j p hp,hp]) hkp λp' a' hp' ha'=> ?_;rw[hp]at hp';cases hp';have hlt:=(h2.hs.old a'.block ⟨j,p.1,p.2,a',hp,ha',rfl⟩).2;refine II.block a'.block hlt λhm=> ?_;obtain⟨h5,h6⟩:=nk j p a' hp ha' hm;obtain⟨_,_,_,z,hz⟩:=nV j h5 h6;exact h4 z hz
  dom:=λj p hj=>by
   obtain⟨ob',h3,_⟩|⟨h3,_⟩:=acX j
   .exact⟨ob',h3⟩
   .rcases Tw j p hj with⟨k1,k2,k3⟩|⟨_,hj⟩
    .by_cases hjb:j<b+nw.length
     .obtain⟨ob,k4,_⟩:=g2 j k1 hjb;have:Hf j=H1 j:=f3.1 j J;exact⟨ob,by rw[this];exact k4⟩
     .obtain⟨ob,k4,_⟩:=f3.2 j J J;exact⟨ob,k4⟩
    .obtain⟨ob,k4⟩:=h2.hs.dom j p hj;exact⟨ob,by rw[h3];exact k4⟩
  inj:=λi j p p' a1 a2 hi hj ha1 ha2 hb=>by
   have U2:∀(i j:Nat) (p p':Value×Nat) (a1 a2:Addr),β2 i=I p->os'[j - b]? =I p'->adr p.1=I a1->adr p'.1=I a2->a1.block=a2.block->False:=by
    intro i j p p' a1 a2 hi hj ha1 ha2 hb;have hm2:a2.block∈Ax os':=GO.2 ⟨p',Cl hj,by simp[HQ,ha2]⟩;rcases(hbl a2.block<|Tv _ hm2).1 with h3|h3
    .rw[← hb]at h3;obtain⟨h5,h6⟩:=nk i p a1 hi ha1 h3;obtain⟨v,hv1,hv2,_⟩:=nV i h5 h6;rw[(aD i p hi).1]at hv2;cases hv2;have hm1:a1.block∈Ax (bv.map λv=>(v,1)):=GO.2 ⟨_,hv1,by simp[HQ,ha1]⟩;exact(JR.1 aG).2.2 _ hm2 _ hm1 hb.symm
    .have:=(h2.hs.old a1.block ⟨i,p.1,p.2,a1,hi,ha1,rfl⟩).2;omega
   obtain⟨i1,i2,i3⟩|⟨_,i3⟩:=Tw i p hi<;>obtain⟨j1,j2,j3⟩|⟨_,j3⟩:=Tw j p' hj
   .have:=Xb ayL (i - b) (j - b) p p' a1 a2 i3 j3 ha1 ha2 hb;omega
   .exact(U2 j i p' p a2 a1 j3 i3 ha2 ha1 hb.symm).elim
   .exact(U2 i j p p' a1 a2 i3 j3 ha1 ha2 hb).elim
   .exact h2.hs.inj i j p p' a1 a2 i3 j3 ha1 ha2 hb
  old:=λbl hm=>by
   obtain h|h:=nc bl hm
   .exact⟨(h2.hs.old bl h).1,Gj (h2.hs.old bl h).2 II.size⟩
   .have h3:=hbl bl<|Tv bl h;refine⟨?_,h3.2⟩;obtain h4|h4:=h3.1
    .exact(hst.hs.old bl<|Zg bl h4).1
    .exact .inr (CP hst.hs.size h4)
  os:=II.wos.trans hst.hs.os
  tape:=II.tape.trans hst.hs.tape
  output:=II.output.trans hst.hs.output
  size:=CP hst.hs.size II.size
  block:=λbl hlt hO=>by
   rw[II.block bl (Gj hlt hst.hs.size) λhm=> ?_]
   .exact hst.hs.block bl hlt hO
   .rcases(hst.hs.old bl<|Zg bl hm).1 with h|h
    .exact hO h
    .omega
  z:=rfl
  zn:=λj p a' hj ha hz=>by
   obtain⟨_,_,j3⟩|⟨_,j3⟩:=Tw j p hj
   .have hm2:a'.block∈Ax os':=GO.2 ⟨p,Cl j3,by simp[HQ,ha]⟩;rcases(hbl a'.block<|Tv _ hm2).1 with h3|h3
    .rw[G5]at h3;obtain⟨i,hi,p2,a2,hp2,ha2,e2⟩:=Md h3;exact hst.hs.zn i p2 a2 hp2 ha2 (by rw[e2,hst.hs.z];exact hz)
    .have:=hst.hs.zl a'.block (by rw[hst.hs.z];exact hz);omega
   .exact hst.hs.zn j p a' (aD j p j3).1 ha (by rw[hst.hs.z];exact hz)
  zl:=λbl hz=>Gj (hst.hs.zl bl (by rw[hst.hs.z];exact hz)) II.size
  pk:=hst.hs.pk.trans II.pk }
 have oG:St B β3 stk { s2 with H:=Hf } a w':=by
  refine⟨λt=>RT.mono hkp<|h2.T t,⟨h2.stack.1,λi T tm k1 k2 t=>RT.mono hkp<|h2.stack.2 i T tm k1 k2 t⟩,h2.n,h2.defers,h2.pins,h2.gs,hHf⟩
 have Ec:({ s2 with H:=Hf } :S).has d=Y:=by
  have:({ s2 with H:=Hf } :S).has d=s.has d:=QF (Gm.1.trans nL.1) (Gm.2.1.trans nL.2.1) (Gm.2.2.trans nL.2.2) d;rw[this];exact hd
 exact hK β3 (M6 vs) w'<|QA oG Ec<|ab4 f1
end
end Go.VS
namespace Go.VS
open Go
section
variable {B:Bb} {β β':Beta} {H:Hp} {w w':World} {stk:List (Array Value)} {s s':S} {a:Act} {P:Program} {C:Cx}
def jg(hΓ:∀f d m,C.Γ f d=I m->H6 P f m/\okQ P m=Y)(B:Bb)(hB:B.P=P):HO C B:=by
 intro f d m hm β stk s a w b as s' o ts K Q hst hfr hd he hod ho hK;obtain⟨h1,h2⟩:=hΓ f d m hm;rw[← hB]at h1 h2;exact awn h1 h2 hst hfr hd he hod ho hK
def aDb{c:AV}(h:plB c=Y):(∀g w v,c≠ .gd g w v)/\ ∀vs,c≠ .tup vs:=by
 constructor
 .rintro g w v rfl;cases h
 .rintro vs rfl;cases h
def aaN(hP:C.P=B.P)(hm:B.P.follows .mixedOrders=Y)(hC:HO C B):∀n,JB C B<|NE C n
 | 0=>aD3 C B
 | n+1=>by
  intro Ω f d as s k q he β stk a w o args ts K Q hst hfr hd hod has ho hK;have ih:=aaN hP hm hC n;unfold NE at he;simp only at he;split at he
  .cases he
  rename_i fn hfn;split at he
  case h_2=>cases he
  rename_i body acQ KG;split at he
  case h_2=>cases he
  rename_i acP;simp only[AD]at acP;obtain⟨⟨hc1,hc2⟩,hc3⟩:=acP;have hpl:∀c∈as,(∀g w v,c≠ .gd g w v)/\ ∀vs,c≠ .tup vs:=λc hc=>aDb<|DM.1 hc3 c hc;have hlen:as.length<=fn.ntmps:=Da hc2;rw[hP]at hfn;refine aCO (O0 hfn (by simpa using KG) acQ) ho (R:=λen w'=>∃v,en= .returned v/\K (a.put o.dst v) w') ?_ (λen w' h=>h);refine calls_of_wp hfn acQ ?_;have Ir:(args.map a.eval).length=as.length:=by rw[has];simp
  have azZ:St B β (a.tmps::stk) { s with n:=fn.ntmps,T:=λt=>(as[t]?).getD Dl,st:=s.T::s.st,pins:=[],gs:=λ_=>A0 }
    { tmps:=(args.map a.eval).toArray++QX (fn.ntmps - (args.map a.eval).toArray.size) undef,defers:=[] } w:=by
   refine⟨λt=> ?_,⟨by simp[hst.stack.1],λi T tm h1 h2 t=> ?_⟩, ?_,rfl,λt ht=>by simp at ht,λt g want y hy=> ?_,hst.hs⟩
   .rw[WB];show RT w β _ ((as[t]?).getD Dl) _;cases hv:as[t]? with
    | none=>
     have:(args.map a.eval).length<=t:=by rw[Ir];exact YX.1 hv
     have e0:ar (args.map a.eval) t=undef:=by simp only[ar,B8,Hc this];rfl
     rw[e0];exact(show R2 w β Dl undef from rfl)
    | some c=>
     have hv':=hv;rw[has,D5]at hv';obtain⟨x,hx,rfl⟩:=DA.1 hv';have e0:ar (args.map a.eval) t=a.eval x:=by simp[ar,hx]
     rw[e0];have hp:=hpl _<|Cl hv;exact((hst.eval x).ME hp.1 hp.2).Zw
   .cases i with
    | zero=>
     simp at h1 h2;subst h1;subst h2;exact hst.T t
    | succ i=>exact hst.stack.2 i T tm (by simpa using h1) (by simpa using h2) t
   .simp only[QL,Kw,l9];omega
   .have hy:(as[t]?).getD Dl= .gd g want y:=hy;cases hv:as[t]? with
    | none=>rw[hv]at hy;cases hy
    | some c=>
     rw[hv]at hy;exact absurd hy<|(hpl c<|Cl hv).1 _ _ _
  have key:∀β' a' w' s',St B β' (a.tmps::stk) s' a' w'->Fr s'->(match s'.st,Q7 C.P s' fn.results.toList with
     | T::st,I vs=>match vs.all plB with
      | true=>k ({ s' with n:=s.n,T:=λt=>Oo<|T t,st:=st,pins:=s.pins,gs:=λ_=>A0 }.put d<|Ln vs)
      | false=>G
     | _,_=>G)=I q->a'.defers=[]/\ ∃v,(results fn a'.tmps).run B.P w'= .ok v w'/\ ∃v',Ending.returned v= .returned v'/\K (a.put o.dst v') w':=by
   intro β' a' w' s' h1 h2 h3;refine⟨h1.defers, ?_⟩;split at h3
   case h_2=>cases h3
   rename_i T st vs MG hvs;split at h3
   case h_2=>cases h3
   rename_i Is;obtain⟨us,k1,k2,k3⟩:=XR hP h1 fn.results.toList hvs;rw[hP]at k1;refine⟨M6 us,aAL k1,M6 us,rfl, ?_⟩;rw[hod];have rl:RL (R1 w' β') vs us:=⟨k2,λj c u e1 e2=>by
    have hp:=aDb<|DM.1 Is c<|Cl e1;exact(k3 j c u e1 e2).ME hp.1 hp.2⟩
   have R0:=h1.stack;rw[MG]at R0;have hTt:∀t,RT w' β' (BZ a) (T t) (BZ a t):=λt=>R0.2 0 T a.tmps rfl rfl t;have azY:St B β' stk { s' with n:=s.n,T:=λt=>Oo<|T t,st:=st,pins:=s.pins,gs:=λ_=>A0 } a w':=by
    refine⟨λt=> ?_,⟨by simpa using R0.1,λi T' tm e1 e2 t=>R0.2 (i+1) T' tm (by simpa using e1) (by simpa using e2) t⟩,hst.n,hst.defers,hst.pins,λt g want y hy=> ?_,h1.hs⟩
    .have:=hTt t;show RT w' β' _ (Oo<|T t) _;cases hT:T t<;>rw[hT]at this<;>first|exact this|trivial
    .have hy:Oo (T t)= .gd g want y:=hy;unfold Oo at hy;split at hy
     .cases hy
     .rename_i hn;exact absurd hy<|hn _ _ _
   have Ec:({ s' with n:=s.n,T:=λt=>Oo<|T t,st:=st,pins:=s.pins,gs:=λ_=>A0 } :S).has d=Y:=by
    cases d with
    | none=>rfl
    | some d=>
     simp only[S.has,AD,CE]at hd ⊢;exact⟨hd.1,trivial⟩
   refine hK β' (M6 us) w' _ (QA azY Ec<|ab4 rl) (λj hj=> ?_) ?_ ?_ h3
   .have hj:s'.nid<=j:=by cases d<;>exact hj
    have:=h2 j hj;cases d<;>exact this
   .cases d<;>rfl
   .cases d<;>rfl
  refine X0 hP hm hC ih body .nil _ _ q he azZ hfr (G9 _ body) ⟨?_, ?_, ?_⟩
  .exact λβ' a' w' s' h1 h2 _ _ h5=>key β' a' w' s' h1 h2 h5
  .exact λβ' a' w' s' h1 h2 _ _ h5=>key β' a' w' s' h1 h2 h5
  .intro id β' a' w' s' h1 h2 h3 h4 h5;cases h5
end
def Bh{A R:Type}(t:(A->Option R)->A->Option R):Nat->A->Option R
 | 0=>λ_=>G
 | n+1=>t (Bh t n)
open Classical in
def NK {A R:Type} (t:(A->Option R)->A->Option R) (x:A):Option R:=
 if h:∃n r,Bh t n x=I r then I (Mw<|Ik h) else G
def aC7{A R:Type}{t:(A->Option R)->A->Option R}{x:A}{r:R}(h:NK t x=I r):∃n,Bh t n x=I r:=by
 unfold NK at h;split at h
 .rename_i hn;have:=Ik<|Ik hn;cases h;exact⟨_,this⟩
 .cases h
def ar5{P:Program}{f:FuncId}{ps rs:List Sh}{t:(LTs ps->Option (LTs rs×LTs (Az ps)))->LTs ps->Option (LTs rs×LTs (Az ps))}(he:Lj P f)
  (h:∀g,H6 P f ⟨ps,rs,g⟩->H6 P f ⟨ps,rs,t g⟩):H6 P f ⟨ps,rs,NK t⟩:=by
 have hn:∀n,H6 P f ⟨ps,rs,Bh t n⟩:=by
  intro n
  induction n with
  | zero=>exact⟨he,λx r hx=>by cases hx⟩
  | succ n ih=>exact h _ ih
 refine⟨he,λx r hx=> ?_⟩;obtain⟨n,hx⟩:=aC7 hx;intro w Z args os h1 h2 h3 h4 h5;exact M1 ((hn n).2 x r hx w Z args os h1 h2 h3 h4 h5) λen w' ⟨v,e,hr⟩=>⟨v,e,⟨hr.ex,hr.wos,hr.tape,hr.output,hr.size,hr.block,hr.pk⟩⟩
end Go.VS
namespace Go.VS
open Go
def gam:List (Nat×Option Nat×DS)->Nat->Option Nat->Option DS
 | [],_,_=>G
 | (f,e,m)::l,g,d=>match Af f g&&(match e,d with
   | none,_=>Y
   | some a,I b=>Af a b
   | some _,G=>A0) with
  | true=>I m
  | false=>gam l g d
def Qj(P:Program)(l:List (Nat×Option Nat×DS)):Prop:=∀e∈l,H6 P e.1 e.2.2/\okQ P e.2.2=Y
def AI{P:Program}:Qj P []:=λe h=>by cases h
def mU{P:Program}{l:List (Nat×Option Nat×DS)}(h:Qj P l):∀f d m,gam l f d=I m->H6 P f m/\okQ P m=Y:=by
 induction l with
 | nil=>intro f d m hm;cases hm
 | cons e l ih=>
  obtain⟨g,e,m'⟩:=e;intro f d m hm;unfold gam at hm;split at hm
  .rename_i hc;simp only[AD]at hc;cases hm;obtain rfl:=Bk hc.1;exact h _ Am
  .exact ih (λe he=>h e<|Ai _ he) f d m hm
def Fp:Code->Adv->List (Code×Loop)
 | .seq a b,.join _ u v=>Fp a u++Fp b v
 | .seq a b,.two u v=>Fp a u++Fp b v
 | .seq a _,.one u=>Fp a u
 | .cond _ x _,.one u=>Fp x u
 | .cond _ x y,.two u v=>Fp x u++Fp y v
 | .cond _ x y,.join _ u v=>Fp x u++Fp y v
 | .block _ c,.one u=>Fp c u
 | .block _ c,.two u _=>Fp c u
 | .block _ c,.join _ u _=>Fp c u
 | .loop c,.loop l=>[(c,l)]
 | _,_=>[]
def IS{L:Code->Loop->Prop}:∀(c:Code) (v:Adv),(∀p∈Fp c v,L p.1 p.2)->HV L c v
 | .seq a b,.join _ u v,h=>⟨IS a u λp hp=>h p<|Bw _ hp,IS b v λp hp=>h p<|CS _ hp⟩
 | .seq a b,.two u v,h=>⟨IS a u λp hp=>h p<|Bw _ hp,IS b v λp hp=>h p<|CS _ hp⟩
 | .seq a b,.one u,h=>⟨IS a u h,G9 L b⟩
 | .seq a b,.nil,_=>⟨G9 L a,G9 L b⟩
 | .seq a b,.loop _,_=>⟨G9 L a,G9 L b⟩
 | .cond _ x y,.one u,h=>⟨IS x u h,G9 L y⟩
 | .cond _ x y,.two u v,h=>⟨IS x u λp hp=>h p<|Bw _ hp,IS y v λp hp=>h p<|CS _ hp⟩
 | .cond _ x y,.join _ u v,h=>⟨IS x u λp hp=>h p<|Bw _ hp,IS y v λp hp=>h p<|CS _ hp⟩
 | .cond _ x y,.nil,_=>⟨G9 L x,G9 L y⟩
 | .cond _ x y,.loop _,_=>⟨G9 L x,G9 L y⟩
 | .block _ c,.one u,h=>IS c u h
 | .block _ c,.two u _,h=>IS c u h
 | .block _ c,.join _ u _,h=>IS c u h
 | .block _ c,.nil,_=>G9 L c
 | .block _ c,.loop _,_=>G9 L c
 | .loop c,.loop l,h=>h (c,l) (by simp[Fp])
 | .loop _,.nil,_=>trivial
 | .loop _,.one _,_=>trivial
 | .loop _,.two _ _,_=>trivial
 | .loop _,.join _ _ _,_=>trivial
 | .skip,_,_=>trivial
 | .region _ _ _,_,_=>trivial
 | .exit _,_,_=>trivial
 | .ret,_,_=>trivial
 | .rangeFunc _ _ _ _,_,_=>trivial
 | .scope _,_,_=>trivial
 | .label _,_,_=>trivial
 | .goto _,_,_=>trivial
 | .refuse _,_,_=>trivial
def Tq(L:Code->Loop->Prop)(l:List (Code×Loop)):Prop:=∀p∈l,L p.1 p.2
def aDi{L:Code->Loop->Prop}{c:Code}{v:Adv}{l:List (Code×Loop)}(h:Fp c v=l)(hl:Tq L l):HV L c v:=IS c v (by rw[h];exact hl)
def axr{L:Code->Loop->Prop}:Tq L []:=λp h=>by cases h
def axs{L:Code->Loop->Prop}{c:Code}{v:Loop}{l:List (Code×Loop)}(h:L c v)(hl:Tq L l):Tq L ((c,v)::l):=λp hp=>by
 obtain rfl|hp:=Bm.1 hp
 .exact h
 .exact hl p hp
abbrev Ent:=Nat×Option Nat×DS
def SQ(P:Program)(e:Ent):Prop:=H6 P e.1 e.2.2/\okQ P e.2.2=Y
def gC{P:Program}{e:Ent}{l:List Ent}(h:SQ P e)(hl:Qj P l):Qj P (e::l):=λx hx=>by
 obtain rfl|hx:=Bm.1 hx
 .exact h
 .exact hl x hx
def inR:List (Nat×Nat)->Nat->Bool
 | [],_=>A0
 | (a,b)::l,n=>match Dq a n&&Dq n b with
  | true=>Y
  | false=>inR l n
structure OKC (P:Program) (C:Cx) (inl:(Ω:Type)->Inl Ω):Prop where
 p:C.P=P
 m:P.follows .mixedOrders=Y
 c:∀B:Bb,B.P=P->HO C B
 i:∀B:Bb,B.P=P->JB C B inl
def okc{P:Program}{kd:TypeId->Option K}{l:List Ent}{cz sp:Nat->Bool}(hm:P.follows .mixedOrders=Y)(h:Qj P l):OKC P ⟨P,kd,gam l,cz,sp⟩ AF:=
 ⟨rfl,hm,λB hB=>jg (C:=⟨P,kd,gam l,cz,sp⟩) (mU h) B hB,λB _=>aD3 _ B⟩
def ac5{P:Program}{kd:TypeId->Option K}{l:List Ent}{cz sp:Nat->Bool}(n:Nat)(hm:P.follows .mixedOrders=Y)(h:Qj P l):OKC P ⟨P,kd,gam l,cz,sp⟩ (NE ⟨P,kd,gam l,cz,sp⟩ n):=
 ⟨rfl,hm,λB hB=>jg (C:=⟨P,kd,gam l,cz,sp⟩) (mU h) B hB,λB hB=>aaN (C:=⟨P,kd,gam l,cz,sp⟩) (B:=B) hB.symm (by rw[hB];exact hm) (jg (C:=⟨P,kd,gam l,cz,sp⟩) (mU h) B hB) n⟩
def LpK(P:Program)(n:Nat)(pins:List Nat)(ls:List (Code×Loop)):Prop:=∀B:Bb,B.P=P->Tq (Mp B n pins) ls
def kN{P:Program}{n:Nat}{pins:List Nat}:LpK P n pins []:=λ_ _=>axr
def kC{P:Program}{n:Nat}{pins:List Nat}{c:Code}{l:Loop}{ls:List (Code×Loop)}(h:LpK P n pins [(c,l)])(hl:LpK P n pins ls):LpK P n pins ((c,l)::ls):=λB hB=>axs (h B hB (c,l) Am)<|hl B hB
def lk{P:Program}{C:Cx}{inl:(Ω:Type)->Inl Ω}(hC:OKC P C inl){n:Nat}{pins:List Nat}{body:Code}{v:Adv}{l:Loop}{b:Lv l.sch->Option (Lv l.sch ⊕ (Lv l.KM ⊕ Lv l.KN))}{ls:List (Code×Loop)}
  (hb:∀x,evL C inl n pins body v l x=b x)(hr:l.run=AZ b)(h:Fp body v=ls)(hl:LpK P n pins ls):LpK P n pins [(body,l)]:=λB hB p hp=>by
 obtain rfl:=CN.1 hp;exact awH (hC.p.trans hB.symm) (by rw[hB];exact hC.m) (hC.c B hB) (hC.i B hB) hb hr<|aDi h<|hl B hB
def fnB(P:Program)(f:Nat)(fn:Func)(m:DS):Option Func×Bool×Bool×Bool:=(P.funcs[f]?, fn.name == "runtime.NumGoroutine",okM m fn.ntmps,okQ P m)
def so{P:Program}{C:Cx}{inl:(Ω:Type)->Inl Ω}{f:Nat}{d:Option Nat}{fn:Func}{m:DS}{v:Adv}{ls:List (Code×Loop)}(hC:OKC P C inl)
  (hf:fnB P f fn m=(I fn,A0,Y,Y))(hb:fn.body=I (Kj fn))(h:Fp (Kj fn) v=ls)(hl:LpK P fn.ntmps (Dw 0 m.ps) ls)(hg:∀x,ZZ C inl fn v m x=m.g x):SQ P (f,d,m):=by
 simp only[fnB,CL]at hf;exact⟨asm hC.p hC.m hC.c hC.i hf.1 hf.2.1 hb hf.2.2.1 (λB hB=>aDi h<|hl B hB) hg,hf.2.2.2⟩
def soR{P:Program}{f:Nat}{d:Option Nat}{ps rs:List Sh}{t:(LTs ps->Option (LTs rs×LTs (Az ps)))->LTs ps->Option (LTs rs×LTs (Az ps))}(he:Lj P f)
  (hq:∀g,okQ P ⟨ps,rs,g⟩=Y)(h:∀g,SQ P (f,d,⟨ps,rs,g⟩)->SQ P (f,d,⟨ps,rs,t g⟩)):SQ P (f,d,⟨ps,rs,NK t⟩):=
 ⟨ar5 he λg hg=>(h g ⟨hg,hq g⟩).1,hq _⟩
def Ov(a b c d:Int)(e:A1)(a' b' c' d':Int)(e':A1):Bool:=U (a=a')&&(U (b=b')&&(U (c=c')&&(U (d=d')&&(U (e=e')&&Y))))
end Go.VS
end
noncomputable section
namespace Go.VS
open Go
inductive CT where
 | int (k:IntKind)
 | bool
 | str
 | sl (k:K)
def kct:K->List CT
 | .int=>[.int .i64]
 | .bool=>[.bool]
 | .u8=>[.int .u8]
 | .str=>[.str]
 | .note=>[.int .i64,.int .i64,.int .i64,.int .i64,.str]
 | .mark=>[.int .i64,.int .i64,.int .i64]
 | .mixed=>[.int .i64,.str]
 | .half=>[.int .i64,.int .i64,.int .i64,.int .i64,.int .i64,.sl .mixed]
 | .keep=>[.int .i64,.int .i64,.int .i64,.sl .note,.sl .mark,.sl .note]
 | .AX=>[.int .i64,.bool,.str,.int .i64,.sl .half]
 | .Aj=>[.int .i64,.int .i64,.str,.bool]
 | .frame=>[.int .i64,.int .i64,.int .i64,.int .i64,.int .i64,.int .i64,.int .i64,.int .i64,.int .i64,.str]
 | .CJ=>[.int .i64,.int .i64,.int .i64,.int .i64,.int .i64,.int .i64,.int .i64,.int .i64,.int .i64,.str]
 | .lk=>[.str,.int .i64,.str]
mutual
def Yy (P:Program):Nat->TypeId->Option (List TypeId)
 | 0,_=>G
 | n+1,t=>match P.underlying t with
  | some (.struct fs)=>(Yz P n 0 fs.toList).bind λts=>match Af ts.length (P.cellsOf t) with
   | true=>I ts
   | false=>G
  | some (.int _)=>I [t]
  | some .bool=>I [t]
  | some .string=>I [t]
  | some (.slice _)=>I [t]
  | _=>G
def Yz (P:Program):Nat->Nat->List Field->Option (List TypeId)
 | _,_,[]=>I []
 | 0,_,_::_=>G
 | n+1,o,f::fs=>(Yy P n f.type).bind λts=>match Af f.offset o&&Af (P.cellsOf f.type) ts.length with
  | true=>(Yz P n (o+ts.length) fs).bind λus=>I<|ts++us
  | false=>G
end
mutual
def T3 (P:Program):Nat->TypeId->CT->Bool
 | 0,_,_=>A0
 | n+1,t,c=>match P.underlying t,c with
  | some (.int k),.int k'=>U (k=k')
  | some .bool,.bool=>Y
  | some .string,.str=>Y
  | some (.slice e),.sl k=>Af (P.cellsOf e) (ks k)&&Yp P n e k
  | _,_=>A0
def Yp (P:Program):Nat->TypeId->K->Bool
 | 0,_,_=>A0
 | n+1,e,k=>match Yy P 16 e with
  | some ts=>OD P n ts (kct k)
  | none=>A0
def OD (P:Program):Nat->List TypeId->List CT->Bool
 | _,[],[]=>Y
 | n+1,t::ts,c::cs=>T3 P n t c&&OD P n ts cs
 | _,_,_=>A0
end
def wfI(n:Int):Prop:=(N7 .i64 n).wf=Y
def wfY(n:Int):Prop:=(N7 .u8 n).wf=Y
def wfS(s:A1):Prop:=s.size<=maxLen
def wfL{α:Type}(p:α->Prop)(l:List α):Prop:=l.length<=maxLen/\ ∀x∈l,p x
def mP(n:A3):Prop:=wfI n.fr/\wfI n.nu/\wfI n.to/\wfI n.un/\wfS n.tx
def ab1(n:Mark):Prop:=wfI n.mf/\wfI n.mn/\wfI n.mu
def aaU(n:AN):Prop:=wfI n.nu/\wfS n.da
def ab2(n:AE):Prop:=wfI n.fr/\wfI n.nu/\wfI n.to/\wfI n.un/\wfI n.sz/\wfL aaU n.got
def awZ(n:AJ):Prop:=wfI n.id/\wfI n.ti/\wfI n.nx/\wfL mP n.held/\wfL ab1 n.marks/\wfL mP n.inbox
def ass(n:A8):Prop:=wfI n.id/\wfS n.log/\wfI n.fo/\wfL ab2 n.AH
def asr(n:AL):Prop:=wfI n.src/\wfI n.dst/\wfS n.data
def auz(n:Frame):Prop:=wfI n.ki/\wfI n.src/\wfI n.dst/\wfI n.fr/\wfI n.nu/\wfI n.to/\wfI n.un/\wfI n.sz/\wfI n.mix/\wfS n.da
def av0(n:Event):Prop:=wfI n.ki/\wfI n.at_/\wfI n.fr/\wfI n.nu/\wfI n.wo/\wfI n.mix/\wfI n.kp/\wfI n.to/\wfI n.un/\wfS n.tx
def axh(n:LK):Prop:=wfS n.wo/\wfI n.ki/\wfS n.fi
def wfK:(k:K)->Tof k->Prop
 | .int=>wfI
 | .bool=>λ_=>True
 | .u8=>wfY
 | .str=>wfS
 | .note=>mP
 | .mark=>ab1
 | .mixed=>aaU
 | .half=>ab2
 | .keep=>awZ
 | .AX=>ass
 | .Aj=>asr
 | .frame=>auz
 | .CJ=>av0
 | .lk=>axh
def nE(w:World):CT->Value->Prop
 | .int k,c=>∃n,c= .int k n/\(N7 k n).wf=Y
 | .bool,c=>∃b,c= .bool b
 | .str,c=>∃s,c= .string s/\wfS s
 | .sl k,c=>∃xs:List (Tof k),wfL (wfK k) xs/\ ∀β:Beta,(∀b,¬MZ β b)->RC w β (.sl k xs) c
inductive U3 (w:World):List CT->List Value->Prop
 | nil:U3 w [] []
 | cons {t:CT} {c:Value} {ts:List CT} {cs:List Value} (h:nE w t c) (hs:U3 w ts cs):U3 w (t::ts) (c::cs)
section
variable {w:World}
def RL.IG{R:AV->Value->Prop}{c:AV}{v:Value}(h:R c v):RL R [c] [v]:= .cons h .nil
def avu{k:K}{cs:List Value}(h:U3 w (kct k) cs):∃x:Tof k,wfK k x/\ ∀β:Beta,(∀b,¬MZ β b)->RL (RC w β) (enc k x) cs:=by
 have L:∀ {β:Beta} {v:Value},v.oneCell'=Y->RC w β (.lit v) v:=λh=> .lit h;cases k with
 | int=>
  obtain⟨⟩|⟨⟨a,rfl,ha⟩,h⟩:=h;cases h;exact⟨a,ha,λβ _=> .IG<|L rfl⟩
 | bool=>
  obtain⟨⟩|⟨⟨a,rfl⟩,h⟩:=h;cases h;exact⟨a,trivial,λβ _=> .IG<|L rfl⟩
 | u8=>
  obtain⟨⟩|⟨⟨a,rfl,ha⟩,h⟩:=h;cases h;exact⟨a,ha,λβ _=> .IG<|L rfl⟩
 | str=>
  obtain⟨⟩|⟨⟨a,rfl,ha⟩,h⟩:=h;cases h;exact⟨a,ha,λβ _=> .IG<|L rfl⟩
 | note=>
  obtain⟨⟩|⟨⟨a,rfl,ha⟩,h⟩:=h;obtain⟨⟩|⟨⟨b,rfl,hb⟩,h⟩:=h;obtain⟨⟩|⟨⟨c,rfl,hc⟩,h⟩:=h;obtain⟨⟩|⟨⟨d,rfl,hd⟩,h⟩:=h;obtain⟨⟩|⟨⟨e,rfl,he⟩,h⟩:=h;cases h;exact⟨(⟨a,b,c,d,e⟩:A3),⟨ha,hb,hc,hd,he⟩,λβ _=> .cons (L rfl)<|.cons (L rfl)<|.cons (L rfl)<|.cons (L rfl)<|.IG<|L rfl⟩
 | mark=>
  obtain⟨⟩|⟨⟨a,rfl,ha⟩,h⟩:=h;obtain⟨⟩|⟨⟨b,rfl,hb⟩,h⟩:=h;obtain⟨⟩|⟨⟨c,rfl,hc⟩,h⟩:=h;cases h;exact⟨(⟨a,b,c⟩:Mark),⟨ha,hb,hc⟩,λβ _=> .cons (L rfl)<|.cons (L rfl)<|.IG<|L rfl⟩
 | mixed=>
  obtain⟨⟩|⟨⟨a,rfl,ha⟩,h⟩:=h;obtain⟨⟩|⟨⟨b,rfl,hb⟩,h⟩:=h;cases h;exact⟨(⟨a,b⟩:AN),⟨ha,hb⟩,λβ _=> .cons (L rfl)<|.IG<|L rfl⟩
 | half=>
  obtain⟨⟩|⟨⟨a,rfl,ha⟩,h⟩:=h;obtain⟨⟩|⟨⟨b,rfl,hb⟩,h⟩:=h;obtain⟨⟩|⟨⟨c,rfl,hc⟩,h⟩:=h;obtain⟨⟩|⟨⟨d,rfl,hd⟩,h⟩:=h;obtain⟨⟩|⟨⟨e,rfl,he⟩,h⟩:=h;obtain⟨⟩|⟨⟨xs,hx,hr⟩,h⟩:=h;cases h;exact⟨(⟨a,b,c,d,e,xs⟩:AE),⟨ha,hb,hc,hd,he,hx⟩,λβ hβ=> .cons (L rfl)<|.cons (L rfl)<|.cons (L rfl)<|.cons (L rfl)<|.cons (L rfl)<|.IG<|hr β hβ⟩
 | keep=>
  obtain⟨⟩|⟨⟨a,rfl,ha⟩,h⟩:=h;obtain⟨⟩|⟨⟨b,rfl,hb⟩,h⟩:=h;obtain⟨⟩|⟨⟨c,rfl,hc⟩,h⟩:=h;obtain⟨⟩|⟨⟨xs,hx,hrx⟩,h⟩:=h;obtain⟨⟩|⟨⟨ys,hy,hry⟩,h⟩:=h;obtain⟨⟩|⟨⟨zs,hz,hrz⟩,h⟩:=h;cases h;exact⟨(⟨a,b,c,xs,ys,zs⟩:AJ),⟨ha,hb,hc,hx,hy,hz⟩,λβ hβ=> .cons (L rfl)<|.cons (L rfl)<|.cons (L rfl)<|.cons (hrx β hβ)<|.cons (hry β hβ)<|.IG<|hrz β hβ⟩
 | AX=>
  obtain⟨⟩|⟨⟨a,rfl,ha⟩,h⟩:=h;obtain⟨⟩|⟨⟨b,rfl⟩,h⟩:=h;obtain⟨⟩|⟨⟨c,rfl,hc⟩,h⟩:=h;obtain⟨⟩|⟨⟨d,rfl,hd⟩,h⟩:=h;obtain⟨⟩|⟨⟨xs,hx,hr⟩,h⟩:=h;cases h;exact⟨(⟨a,b,c,d,xs⟩:A8),⟨ha,hc,hd,hx⟩,λβ hβ=> .cons (L rfl)<|.cons (L rfl)<|.cons (L rfl)<|.cons (L rfl)<|.IG<|hr β hβ⟩
 | Aj=>
  obtain⟨⟩|⟨⟨a,rfl,ha⟩,h⟩:=h;obtain⟨⟩|⟨⟨b,rfl,hb⟩,h⟩:=h;obtain⟨⟩|⟨⟨c,rfl,hc⟩,h⟩:=h;obtain⟨⟩|⟨⟨d,rfl⟩,h⟩:=h;cases h;exact⟨(⟨a,b,c,d⟩:AL),⟨ha,hb,hc⟩,λβ _=> .cons (L rfl)<|.cons (L rfl)<|.cons (L rfl)<|.IG<|L rfl⟩
 | frame=>
  obtain⟨⟩|⟨⟨a,rfl,ha⟩,h⟩:=h;obtain⟨⟩|⟨⟨b,rfl,hb⟩,h⟩:=h;obtain⟨⟩|⟨⟨c,rfl,hc⟩,h⟩:=h;obtain⟨⟩|⟨⟨d,rfl,hd⟩,h⟩:=h;obtain⟨⟩|⟨⟨e,rfl,he⟩,h⟩:=h;obtain⟨⟩|⟨⟨f,rfl,hf⟩,h⟩:=h;obtain⟨⟩|⟨⟨g,rfl,hg⟩,h⟩:=h;obtain⟨⟩|⟨⟨i,rfl,hi⟩,h⟩:=h;obtain⟨⟩|⟨⟨j,rfl,hj⟩,h⟩:=h;obtain⟨⟩|⟨⟨s,rfl,hs⟩,h⟩:=h;cases h;exact⟨(⟨a,b,c,d,e,f,g,i,j,s⟩:Frame),⟨ha,hb,hc,hd,he,hf,hg,hi,hj,hs⟩,λβ _=> .cons (L rfl)<|.cons (L rfl)<|.cons (L rfl)<|.cons (L rfl)<|.cons (L rfl)<|.cons (L rfl)<|.cons (L rfl)<|.cons (L rfl)<|.cons (L rfl)<|.IG<|L rfl⟩
 | CJ=>
  obtain⟨⟩|⟨⟨a,rfl,ha⟩,h⟩:=h;obtain⟨⟩|⟨⟨b,rfl,hb⟩,h⟩:=h;obtain⟨⟩|⟨⟨c,rfl,hc⟩,h⟩:=h;obtain⟨⟩|⟨⟨d,rfl,hd⟩,h⟩:=h;obtain⟨⟩|⟨⟨e,rfl,he⟩,h⟩:=h;obtain⟨⟩|⟨⟨f,rfl,hf⟩,h⟩:=h;obtain⟨⟩|⟨⟨g,rfl,hg⟩,h⟩:=h;obtain⟨⟩|⟨⟨i,rfl,hi⟩,h⟩:=h;obtain⟨⟩|⟨⟨j,rfl,hj⟩,h⟩:=h;obtain⟨⟩|⟨⟨s,rfl,hs⟩,h⟩:=h;cases h;exact⟨(⟨a,b,c,d,e,f,g,i,j,s⟩:Event),⟨ha,hb,hc,hd,he,hf,hg,hi,hj,hs⟩,λβ _=> .cons (L rfl)<|.cons (L rfl)<|.cons (L rfl)<|.cons (L rfl)<|.cons (L rfl)<|.cons (L rfl)<|.cons (L rfl)<|.cons (L rfl)<|.cons (L rfl)<|.IG<|L rfl⟩
 | lk=>
  obtain⟨⟩|⟨⟨a,rfl,ha⟩,h⟩:=h;obtain⟨⟩|⟨⟨b,rfl,hb⟩,h⟩:=h;obtain⟨⟩|⟨⟨c,rfl,hc⟩,h⟩:=h;cases h;exact⟨(⟨a,b,c⟩:LK),⟨ha,hb,hc⟩,λβ _=> .cons (L rfl)<|.cons (L rfl)<|.IG<|L rfl⟩
end
end Go.VS
namespace Go.VS
open Go
section
variable {H:Type} {En:TypeId×Value->H} {P:Program} {w:World} {base:Nat} {spare:Nat->Bool} {held:Bool}
def Cells(En:TypeId×Value->H)(P:Program)(w:World)(base:Nat)(spare:Nat->Bool)(held:Bool):List TypeId->List Value->Prop
 | [],[]=>True
 | t::ts,c::cs=>(∃Bh d ps,Gk En P w base spare held Bh t [c]=I (d,ps))/\Cells En P w base spare held ts cs
 | _,_=>False
def Cells.append:∀ {ts us:List TypeId} {cs ds:List Value},Cells En P w base spare held ts cs->Cells En P w base spare held us ds->Cells En P w base spare held (ts++us) (cs++ds)
 | [],_,[],_,_,h=>h
 | t::ts,_,c::cs,_,h,k=>⟨h.1,Cells.append h.2 k⟩
 | [],_,_::_,_,h,_=>h.elim
 | _::_,_,[],_,h,_=>h.elim
def Wv{α β:Type}{f:α->Option β}:∀ {l:List α} {r:List β},l.mapM f=I r->∀x∈l,∃y,f x=I y
 | [],_,_,_,hx=>by cases hx
 | a::l,r,h,x,hx=>by
  rw[TK]at h;obtain⟨y,h1,h⟩:=Ag.1 h;obtain⟨ys,h2,h⟩:=Ag.1 h;obtain rfl|hx:=Bm.1 hx
  .exact⟨y,h1⟩
  .exact Wv h2 x hx
def aAa{Bh:Nat}{t:TypeId}{k:IntKind}{cs:List Value}{r:DataW H×List MemPlace}(ht:P.underlying t=I (.int k))(h:Gk En P w base spare held Bh t cs=I r):∃n,cs=[.int k n]/\(N7 k n).wf=Y:=by
 cases Bh with
 | zero=>cases h
 | succ Bh=>
  unfold Gk at h;rw[ht]at h;split at h<;>first|(cases h;done)|skip
  all_goals (rename_i heq;cases heq)
  rename_i k' n;split at h
  .rename_i hc;obtain⟨rfl,hw⟩:=hc;exact⟨_,rfl,hw⟩
  .cases h
def aAJ{Bh:Nat}{t:TypeId}{cs:List Value}{r:DataW H×List MemPlace}(ht:P.underlying t=I .bool)(h:Gk En P w base spare held Bh t cs=I r):∃b,cs=[.bool b]:=by
 cases Bh with
 | zero=>cases h
 | succ Bh=>
  unfold Gk at h;rw[ht]at h;split at h<;>first|(cases h;done)|skip
  all_goals (rename_i heq;cases heq)
  exact⟨_,rfl⟩
def yg{Bh:Nat}{t:TypeId}{cs:List Value}{r:DataW H×List MemPlace}(ht:P.underlying t=I .string)(h:Gk En P w base spare held Bh t cs=I r):∃s,cs=[.string s]/\wfS s:=by
 cases Bh with
 | zero=>cases h
 | succ Bh=>
  unfold Gk at h;rw[ht]at h;split at h<;>first|(cases h;done)|skip
  all_goals (rename_i heq;cases heq)
  split at h
  .rename_i hc;exact⟨_,rfl,hc⟩
  .cases h
def ze{Bh:Nat}{t e:TypeId}{cs:List Value}{r:DataW H×List MemPlace}(ht:P.underlying t=I (.slice e))(h:Gk En P w base spare held Bh t cs=I r):
  cs=[.slice G 0 0]\/ ∃a len cap,cs=[.slice (I a) len cap]/\len<=cap/\cap<=maxLen/\ ∀i,i<len->∃es U1 r',w.cells? base (a.add<|i * P.cellsOf e) (P.cellsOf e)=I es/\Gk En P w base spare held U1 e es=I r':=by
 cases Bh with
 | zero=>cases h
 | succ Bh=>
  unfold Gk at h;rw[ht]at h;split at h<;>first|(cases h;done)|skip
  all_goals (rename_i heq;cases heq)
  .exact .inl rfl
  .rename_i a len cap;refine .inr ⟨a,len,cap,rfl, ?_⟩;simp only at h;split at h
   .rename_i hc;refine⟨hc.2.1,hc.2.2,λi hi=> ?_⟩;obtain⟨aEh,h1,_⟩:=Ag.1 h;obtain⟨y,hy⟩:=Wv h1 i<|Cs.2 hi;obtain⟨es,k1,k2⟩:=Ag.1 hy;exact⟨es,Bh,y,k1,k2⟩
   .cases h
def aoF{Bh:Nat}{t:TypeId}{fs:Array Field}{cs:List Value}{r:DataW H×List MemPlace}(ht:P.underlying t=I (.struct fs))(h:Gk En P w base spare held Bh t cs=I r):
  cs.length=P.cellsOf t/\ ∀f∈fs.toList,∃U1 r',Gk En P w base spare held U1 f.type ((cs.drop f.offset).take<|P.cellsOf f.type)=I r':=by
 cases Bh with
 | zero=>cases h
 | succ Bh=>
  simp only[Gk,ht]at h;split at h
  .rename_i hc;obtain⟨xs,h1,_⟩:=DA.1 h;refine⟨hc,λf hf=> ?_⟩;obtain⟨y,hy⟩:=Wv h1 f hf;exact⟨Bh,y,hy⟩
  .cases h
mutual
theorem aAT:∀(n:Nat) (t:TypeId) {ts:List TypeId} {Bh:Nat} {cs:List Value} {r:DataW H×List MemPlace},Yy P n t=I ts->Gk En P w base spare held Bh t cs=I r->Cells En P w base spare held ts cs
 | 0,_,_,_,_,_,h,_=>by cases h
 | n+1,t,ts,Bh,cs,r,h,hr=>by
  unfold Yy at h;split at h
  .rename_i fs ht;obtain⟨us,h1,h⟩:=Ag.1 h;split at h
   case h_2=>cases h
   rename_i hl;cases h;obtain⟨k1,k2⟩:=aoF ht hr;have hl:=Bk hl;have:=aA0 n 0 fs.toList h1 (cs:=cs) (by simp[k1,hl]) (λf hf=>k2 f hf);simpa using this
  .rename_i k ht;cases h;obtain⟨x,rfl,_⟩:=aAa ht hr;exact⟨⟨_,r.1,r.2,hr⟩,trivial⟩
  .rename_i ht;cases h;obtain⟨x,rfl⟩:=aAJ ht hr;exact⟨⟨_,r.1,r.2,hr⟩,trivial⟩
  .rename_i ht;cases h;obtain⟨x,rfl,_⟩:=yg ht hr;exact⟨⟨_,r.1,r.2,hr⟩,trivial⟩
  .rename_i e ht;cases h;obtain rfl|⟨a,len,cap,rfl,_⟩:=ze ht hr
   .exact⟨⟨_,r.1,r.2,hr⟩,trivial⟩
   .exact⟨⟨_,r.1,r.2,hr⟩,trivial⟩
  .cases h
theorem aA0:∀(n o:Nat) (fs:List Field) {ts:List TypeId} {cs:List Value},Yz P n o fs=I ts->cs.length=o+ts.length->(∀f∈fs,∃Bh r,Gk En P w base spare held Bh f.type ((cs.drop f.offset).take<|P.cellsOf f.type)=I r)->
  Cells En P w base spare held ts (cs.drop o)
 | n,o,[],ts,cs,h,hl,_=>by
  have h:I []=I ts:=by cases n<;>exact h
  cases h;have:cs.drop o=[]:=Lu (by simp at hl;omega);rw[this];trivial
 | 0,_,_::_,_,_,h,_,_=>by cases h
 | n+1,o,f::fs,ts,cs,h,hl,hf=>by
  unfold Yz at h;obtain⟨us,h1,h⟩:=Ag.1 h;split at h
  case h_2=>cases h
  rename_i hc;simp only[AD]at hc;obtain⟨vs,h2,h⟩:=Ag.1 h;cases h;obtain⟨Bh,r,hr⟩:=hf f Am;rw[Bk hc.1,Bk hc.2]at hr;have k1:=aAT n f.type h1 hr;have k2:=aA0 n (o+us.length) fs h2 (cs:=cs) (by simp at hl ⊢; omega) (λg hg=>hf g<|Ai _ hg);have e:cs.drop o=(cs.drop o).take us.length++cs.drop (o+us.length):=by
   rw[← Il];exact(JO _ _).symm
  rw[e];exact k1.append k2
end
def aDj(b f n:Nat):(⟨b,f,G⟩:Addr).add n=⟨b,f+n,G⟩:=by
 unfold Addr.add;split
 .rename_i h;subst h;rfl
 .rfl
def avO{b f n:Nat}{es:List Value}(h:w.cells? base ⟨b,f,G⟩ n=I es):es.length=n/\ ∀j,j<n->w.cell? ⟨b,f+j,G⟩=I (es.getD j undef):=by
 unfold World.cells? at h;split at h
 case isFalse=>cases h
 have gen:∀(l:List Nat) {es:List Value},l.mapM (λi=>w.cell?<|(⟨b,f,G⟩:Addr).add i)=I es->es.length=l.length/\ ∀j x,l[j]? =I x->w.cell? ⟨b,f+x,G⟩=I (es.getD j undef):=by
  intro l
  induction l with
  | nil=>intro es h;cases h;exact⟨rfl,λj x hx=>by simp at hx⟩
  | cons a l ih=>
   intro es h;rw[TK]at h;obtain⟨y,h1,h⟩:=Ag.1 h;obtain⟨ys,h2,h⟩:=Ag.1 h;cases h;obtain⟨k1,k2⟩:=ih h2;refine⟨by simp[k1],λj x hx=> ?_⟩;cases j with
   | zero=>
    simp at hx;subst hx;rw[aDj]at h1;simpa using h1
   | succ j=>simpa using k2 j x<|by simpa using hx
 obtain⟨k1,k2⟩:=gen _ h;exact⟨by simpa using k1,λj hj=>k2 j j<|by simp[hj]⟩
mutual
theorem aBj:∀(n:Nat) (t:TypeId) (c:CT) {v:Value},T3 P n t c=Y->(∃Bh d ps,Gk En P w base spare held Bh t [v]=I (d,ps))->nE w c v
 | 0,_,_,_,h,_=>by simp[T3]at h
 | n+1,t,c,v,h,⟨Bh,d,ps,hr⟩=>by
  unfold T3 at h;split at h
  .rename_i k k' ht;simp at h;subst h;obtain⟨x,e,hw⟩:=aAa ht hr;cases e;exact⟨x,rfl,hw⟩
  .rename_i ht;obtain⟨x,e⟩:=aAJ ht hr;cases e;exact⟨x,rfl⟩
  .rename_i ht;obtain⟨x,e,hw⟩:=yg ht hr;cases e;exact⟨x,rfl,hw⟩
  .rename_i e k ht;simp only[AD]at h;have hsz:=Bk h.1;obtain e|⟨a,len,cap,e,hlc,hcm,hel⟩:=ze ht hr
   .cases e;exact⟨[],⟨Cz _,by simp⟩,λβ _=> .nil⟩
   .cases e;rw[hsz]at hel;have hch:∀i:Nat,∃p:Tof k×List Value,i<len->wfK k p.1/\w.cells? base (a.add<|i * ks k) (ks k)=I p.2/\ ∀β:Beta,(∀b,¬MZ β b)->RL (RC w β) (enc k p.1) p.2:=by
     intro i;by_cases hi:i<len
     .obtain⟨es,U1,r',k1,k2⟩:=hel i hi;obtain⟨x,k3,k4⟩:=aro n _ k h.2 (Bh:=U1) (r:=r') k2;exact⟨(x,es),λ_=>⟨k3,k1,k4⟩⟩
     .exact⟨(dfl k,[]),λh=>absurd h hi⟩
    obtain⟨X,hX⟩:=Classical.axiomOfChoice hch;refine⟨(B7 len).map λi=>(X i).1,⟨by simp;omega,λx hx=> ?_⟩,λβ hβ=> ?_⟩
    .obtain⟨i,hi,rfl⟩:=Bv.1 hx;exact(hX i<|Cs.1 hi).1
    .cases len with
     | zero=>exact .nil
     | succ len=>
      obtain⟨b,f,sp⟩:=a;have h0:=(hX 0 J).2.1;have hsp:sp=G:=by
       rw[TY]at h0;unfold World.cells? at h0;split at h0
       case isFalse=>cases h0
       obtain⟨y,hy⟩:=Wv h0 0<|Cs.2<|Hw k;unfold M0 at hy;split at hy
       .split at hy
        .cases hy
        .rename_i hn;cases sp with
         | none=>rfl
         | some x=>exact absurd rfl hn
       .cases hy
      subst hsp;have Cn:∀i j,i<len+1->j<ks k->w.cell? ⟨b,f+(i * ks k+j),G⟩=I ((X i).2.getD j undef):=λi j hi hj=>by
       have h1:=(hX i hi).2.1;rw[aDj]at h1;have:=(avO h1).2 j hj;rw[← D6];exact this
      refine .sl (λi j=>(X i).2.getD j undef) ⟨by simp,hlc⟩ (hβ b) (λi j hi hj=>Cn i j (by simpa using hi) hj) (λi x j c hx hc=> ?_);have hi:i<len+1:=by have:=(BN.1 hx).1;simpa using this
      have hx':x=(X i).1:=by
       rw[D5,Gh hi]at hx;exact(Ei hx).symm
      subst hx';have hj:j<ks k:=by rw[← EN k (X i).1];exact(BN.1 hc).1
      have hR:=(hX i hi).2.2 β hβ;have hlen:(X i).2.length=ks k:=by rw[hR.1,EN]
      exact hR.2 j c _ hc (by simp[hlen,hj])
  .cases h
theorem aro:∀(n:Nat) (e:TypeId) (k:K) {Bh:Nat} {cs:List Value} {r:DataW H×List MemPlace},Yp P n e k=Y->Gk En P w base spare held Bh e cs=I r->∃x:Tof k,wfK k x/\ ∀β:Beta,(∀b,¬MZ β b)->RL (RC w β) (enc k x) cs
 | 0,_,_,_,_,_,h,_=>by simp[Yp]at h
 | n+1,e,k,Bh,cs,r,h,hr=>by
  unfold Yp at h;split at h
  .rename_i ts hts;exact avu (aAX n ts (kct k) h<|aAT 16 e hts hr)
  .cases h
theorem aAX:∀(n:Nat) (ts:List TypeId) (ks:List CT) {cs:List Value},OD P n ts ks=Y->Cells En P w base spare held ts cs->U3 w ks cs
 | n,[],[],[],_,_=> .nil
 | n,[],[],_::_,_,h=>h.elim
 | n+1,t::ts,c::ks,v::cs,h,hc=>by
  simp only[OD,AD]at h;exact .cons (aBj n t c h.1 hc.1)<|aAX n ts ks h.2 hc.2
 | 0,_::_,_,_,h,_=>by simp[OD]at h
 | n+1,_::_,[],_,h,_=>by simp[OD]at h
 | n,[],_::_,_,h,_=>by cases n<;>simp[OD]at h
 | n+1,_::_,_::_,[],_,hc=>hc.elim
end
end
end Go.VS
end
noncomputable section
namespace Go.VS
open Go
def n8:Sh->Option CT
 | .int k=>I (.int k)
 | .bool=>I .bool
 | .str=>I .str
 | .fz k=>I (.sl k)
 | _=>G
def ZQ:(h:Sh)->LT h->Prop
 | .int k,n=>(N7 k n).wf=Y
 | .bool,_=>True
 | .str,s=>wfS s
 | .fz k,xs=>wfL (wfK k) xs
 | _,_=>False
section
variable {P:Program} {w:World}
def art{h:Sh}{t:CT}{v:Value}(hs:n8 h=I t)(hf:nE w t v):∃x:LT h,ZQ h x/\ ∀(M:Nat->Prop) (e:Nat->Value),(∀b,¬M b)->Rel P w M e h x v []:=by
 cases h<;>simp only[n8]at hs<;>first|(cases hs;done)|skip
 case int k=>
  cases hs;obtain⟨n,rfl,hw⟩:=hf;exact⟨n,hw,λM e _=>⟨rfl,rfl⟩⟩
 case bool=>
  cases hs;obtain⟨n,rfl⟩:=hf;exact⟨n,trivial,λM e _=>⟨rfl,rfl⟩⟩
 case str=>
  cases hs;obtain⟨n,rfl,hw⟩:=hf;exact⟨n,hw,λM e _=>⟨rfl,rfl⟩⟩
 case fz k=>
  cases hs;obtain⟨xs,hw,hr⟩:=hf;exact⟨xs,hw,λM e hM=>⟨λβ hβ=>hr β λb hb=>hM b<|hβ b hb,rfl⟩⟩
def arv{f:FuncId}{ps:List Sh}{g:LTs ps->Option (LTs [.bool]×LTs (Az ps))}(hS:H6 P f ⟨ps,[.bool],g⟩){x:LTs ps}{q:LTs (Az ps)}(hx:g x=I ((Y,()),q)){args:List Value}
  (JV:∀(M:Nat->Prop) (e:Nat->Value),(∀b,¬M b)->Cf P w M e ps x args [])(hgl:NI P w (λ_=>False)):Calls P f args.toArray w λe w'=>e= .returned (.bool Y)/\Go.RowKit.Below w.heap.size w w':=by
 refine M1 (hS.2 x _ hx w (λ_=>False) args [] (JV _ _ λb h=>by simp[Ax]at h) (by simp[Ax]) (λb h=>by simp[Ax]at h) (λb h=>h.elim)<|by simpa[Ax] using hgl) ?_;rintro en w' ⟨v,rfl,hr⟩;obtain⟨vs,os1,os2,rfl,h1,_⟩:=hr.ex;obtain⟨u,us,o1,o2,rfl,_,h2,h3⟩:=h1;obtain⟨rfl,_⟩:=h3;obtain⟨rfl,_⟩:=h2;exact⟨rfl,hr.wos,hr.tape,hr.output,hr.size,λb hb=>hr.block b hb<|by simp[Ax]⟩
end
end Go.VS
end
noncomputable section
namespace Go.VS
open Go
variable {P:Program} {f:FuncId}
def jf{w:World}{O:Nat->Prop}{gm:Nat}(hgl:NI P w O)(hg:gm<P.globals.size)(hsh:∀w:World,w.ShapedOpen P->∃m,w.cell? ⟨gm,0,G⟩=I (.int .i64 m)):∃m,w.cell? ⟨gm,0,G⟩=I (.int .i64 m):=by
 obtain⟨w0,h1,h2⟩:=hgl;obtain⟨m,hm⟩:=hsh w0 h1.1;refine⟨m, ?_⟩;rw[← hm];unfold M0;rw[(h2 gm hg).2.2]
def asy{w:World}{O:Nat->Prop}(hgl:NI P w O){gt:Nat}(hn:P.globalNamed "internal/strconv.uint64pow10" =I gt)(hg:gt<P.globals.size):M3 P w "internal/strconv.uint64pow10" .u64 N3:=by
 obtain⟨w0,h1,h2⟩:=hgl;have h:=h1.2 (by rw[hn];simp);unfold M3 World.var? at h ⊢;rw[hn]at h ⊢;simp only[A6]at h ⊢;rw[(h2 gt hg).2.2];exact h
def Tk(x:Int×D):Option ((A1×D)×D):=if -9223372036854775808<=x.1/\x.1<=9223372036854775807 then I ((⟨(B2 x.1).toArray⟩,()),()) else G
def P0(x:A1×A1×D):Option ((A1×A1×Bool×D)×D):=
 if x.1.size<4294967281 then I ((⟨(FR x.1.data.toList x.2.1.data.toList).1.toArray⟩,⟨(FR x.1.data.toList x.2.1.data.toList).2.1.toArray⟩,(FR x.1.data.toList x.2.1.data.toList).2.2,()),()) else G
def TA(x:A1×A1×D):Option ((List A1×D)×D):=
 if x.1.size<4294967281/\1<=x.2.1.size then I ((Im x.2.1 0 (N2 x.1 x.2.1) x.1,()),()) else G
def Si(x:A1×A1×Int×D):Option ((List A1×D)×D):=
 if x.1.size<4294967281/\1<=x.2.1.size/\1<=x.2.2.1/\x.2.2.1<=9223372036854775807 then I ((Im x.2.1 0 (min x.2.2.1.toNat (x.1.size+1) - 1) x.1,()),()) else G
def aqL(he:Lj P f)(hn:(P.globalNamed "internal/strconv.uint64pow10").map (λg=>U<|g<P.globals.size)=I Y)
  (hc:∀(n:Int) (h0: -9223372036854775808<=n) (h1:n<=9223372036854775807) (w:World) (aE:M3 P w "internal/strconv.uint64pow10" .u64 N3),
   Calls P f #[.int .i64 n] w λe w'=>e= .returned (.string ⟨(B2 n).toArray⟩)/\ ∃k os,w'=Yg (w.drewN k) os):H6 P f ⟨[.int .i64],[.str],Tk⟩:=by
 obtain⟨gt,hn,hg⟩:=DA.1 hn;have hg:=Bc hg;refine⟨he,λx r hx w Z args os hr hnd hbl hZ hgl=> ?_⟩;simp only[Tk]at hx;split at hx
 case isFalse=>cases hx
 rename_i hb;cases hx;obtain⟨u,us,o1,o2,rfl,rfl,⟨rfl,rfl⟩,rfl,rfl⟩:=hr;refine M1 (hc x.1 hb.1 hb.2 w<|asy hgl hn hg) ?_;rintro e w' ⟨rfl,k,os,rfl⟩;exact⟨_,rfl,⟨⟨[.string _],[],[],rfl,⟨_,_,[],[],rfl,rfl,⟨rfl,rfl⟩,rfl,rfl⟩,⟨rfl,rfl⟩,by simp[Ax],by simp[Ax]⟩,rfl,rfl,rfl,by simp[Yg,lV],λb hb _=>by simp[Yg,lV,Lx hb],Pk.old λb hb=>by simp[Yg,lV,Lx hb]⟩⟩
def at6(he:Lj P f){gm:Nat}(hg:gm<P.globals.size)(hsh:∀w:World,w.ShapedOpen P->∃m,w.cell? ⟨gm,0,G⟩=I (.int .i64 m))
  (hc:∀(s sep:A1) (m:Int) (w:World) (hs:s.size<4294967281) (hm:w.cell? ⟨gm,0,G⟩=I (.int .i64 m)),
   Calls P f #[.string s,.string sep] w λe w'=>e= .returned (.tuple #[.string ⟨(FR s.data.toList sep.data.toList).1.toArray⟩,.string ⟨(FR s.data.toList sep.data.toList).2.1.toArray⟩,.bool (FR s.data.toList sep.data.toList).2.2])/\ ∃n,w'=w.drewN n):
  H6 P f ⟨[.str,.str],[.str,.str,.bool],P0⟩:=by
 refine⟨he,λx r hx w Z args os hr hnd hbl hZ hgl=> ?_⟩;simp only[P0]at hx;split at hx
 case isFalse=>cases hx
 rename_i hb;cases hx;obtain⟨u,us,o1,o2,rfl,rfl,⟨rfl,rfl⟩,v,vs,p1,p2,rfl,rfl,⟨rfl,rfl⟩,rfl,rfl⟩:=hr;obtain⟨m,hm⟩:=jf hgl hg hsh;refine M1 (hc x.1 x.2.1 m w hb hm) ?_;rintro e w' ⟨rfl,k,rfl⟩;exact⟨_,rfl,⟨⟨[_,_,_],[],[],rfl,⟨_,_,[],[],rfl,rfl,⟨rfl,rfl⟩,_,_,[],[],rfl,rfl,⟨rfl,rfl⟩,_,_,[],[],rfl,rfl,⟨rfl,rfl⟩,rfl,rfl⟩,⟨rfl,rfl⟩,by simp[Ax],by simp[Ax]⟩,rfl,rfl,rfl,Ar _,λb hb _=>rfl,Pk.old λb hb=>rfl⟩⟩
def aa5{w:World}{Z:Nat->Prop}{args:List Value}{e:TypeId}{xs:List A1}{cap:Nat}{cs:Array Value}(Hi:xs.length<=cap)(hm:cap<=maxLen)(hsz:cs.size=cap)(hcs:∀(i:Nat) (s:A1),xs[i]? =I s->cs[i]? =I (YY s)){ps:List Sh}
  {r2:LTs (Az ps)}{g:LTs ps->Option (LTs [.row e .str]×LTs (Az ps))}(hb:∀w' M,Cf P w' M (ar args) (Az ps) r2 (Jk ps args) []):
  Ret P ⟨ps,[.row e .str],g⟩ Z args [] w ((xs,()),r2) (.slice (I ⟨w.heap.size,0,G⟩) xs.length cap) (w.alloc<|.cells cs e):=by
 have hat:(w.alloc<|.cells cs e).heap[w.heap.size]? =I (.cells cs e (0,0)):=heap_alloc_new w _;have azv:(w.alloc<|.cells cs e).heap.size=w.heap.size+1:=World.size_alloc _ _;refine⟨⟨[_],[(.slice (I ⟨w.heap.size,0,G⟩) xs.length cap,xs.length)],[],rfl,⟨_,_,[_],[],rfl,rfl,⟨rfl,rfl,λβ _=> .inr ⟨w.heap.size,0,cap,cs,(0,0),rfl,hat,rfl,Hi,hm,by simp[ks,hsz], ?_⟩⟩,rfl,rfl⟩,hb _ _,by simp[Ax,HQ,adr], ?_⟩,rfl,rfl,rfl,J,λb hb _=>heap_alloc_old w _ hb,Pk.old λb hb=>heap_alloc_old w _ hb⟩
 .intro i x j c u h1 h2 h3;cases j with
  | zero=>
   simp[enc]at h2;subst h2;rw[show(0:Nat)+(i * ks .str+0)=i by simp[ks],hcs i x h1]at h3;cases h3;exact RC.lit rfl
  | succ j=>simp[enc]at h2
 .intro b hb;simp[Ax,HQ,adr]at hb;subst hb;exact⟨.inr (Ar _),J⟩
def apI(he:Lj P f){gm:Nat}{e:TypeId}(hg:gm<P.globals.size)(hsh:∀w:World,w.ShapedOpen P->∃m,w.cell? ⟨gm,0,G⟩=I (.int .i64 m))
  (hc:∀(s sep:A1) (m:Int) (w:World) (hs:s.size<4294967281) (hm:w.cell? ⟨gm,0,G⟩=I (.int .i64 m)) (h1:1<=sep.size),
   Calls P f #[.string s,.string sep] w λen w'=>en= .returned (.slice (I ⟨w.heap.size,0,G⟩) (N2 s sep+1)<|N2 s sep+1)/\w'=w.alloc (.cells ((Im sep 0 (N2 s sep) s).map YY).toArray e)):
  H6 P f ⟨[.str,.str],[.row e .str],TA⟩:=by
 refine⟨he,λx r hx w Z args os hr hnd hbl hZ hgl=> ?_⟩;simp only[TA]at hx;split at hx
 case isFalse=>cases hx
 rename_i hb;cases hx;obtain⟨u,us,o1,o2,rfl,rfl,⟨rfl,rfl⟩,v,vs,p1,p2,rfl,rfl,⟨rfl,rfl⟩,rfl,rfl⟩:=hr;obtain⟨m,hm⟩:=jf hgl hg hsh;have hl:=Lib.splitB_all x.2.1 hb.2 0 _ x.1 rfl;have hle:=Lib.countB_le x.2.1 hb.2 x.1.size x.1<|Ar _;refine M1 (hc x.1 x.2.1 m w hb.1 hm hb.2) ?_;rintro en w' ⟨rfl,rfl⟩;refine⟨_,rfl, ?_⟩;rw[← hl];exact aa5 (Ar _) (by rw[hl];simp[maxLen];omega) y9 (λi s h=>by simp[h]) λ_ _=>⟨rfl,rfl⟩
def apC(he:Lj P f){gm:Nat}{e:TypeId}(hg:gm<P.globals.size)(hsh:∀w:World,w.ShapedOpen P->∃m,w.cell? ⟨gm,0,G⟩=I (.int .i64 m))
  (hc:∀(s sep:A1) (n:Nat) (m:Int) (w:World) (hs:s.size<4294967281) (hm:w.cell? ⟨gm,0,G⟩=I (.int .i64 m)) (h1:1<=sep.size) (hn:1<=n) (acY:n<=9223372036854775807),
   Calls P f #[.string s,.string sep,.int .i64 n] w λen w'=>en= .returned (.slice (I ⟨w.heap.size,0,G⟩) (Im sep 0 (min n (s.size+1) - 1) s).length<|min n<|s.size+1)/\w'=w.alloc (.cells (Yj (Im sep 0 (min n (s.size+1) - 1) s)<|min n<|s.size+1) e)):
  H6 P f ⟨[.str,.str,.int .i64],[.row e .str],Si⟩:=by
 refine⟨he,λx r hx w Z args os hr hnd hbl hZ hgl=> ?_⟩;simp only[Si]at hx;split at hx
 case isFalse=>cases hx
 rename_i hb;cases hx;obtain⟨u,us,o1,o2,rfl,rfl,⟨rfl,rfl⟩,v,vs,p1,p2,rfl,rfl,⟨rfl,rfl⟩,y,ys,q1,q2,rfl,rfl,⟨rfl,rfl⟩,rfl,rfl⟩:=hr;obtain⟨m,hm⟩:=jf hgl hg hsh;have hl:=Lib.splitB_length_le x.2.1 0 (min x.2.2.1.toNat (x.1.size+1) - 1) x.1;have hn:((x.2.2.1.toNat:Nat):Int)=x.2.2.1:=TJ J;have hc':=hc x.1 x.2.1 x.2.2.1.toNat m w hb.1 hm hb.2.1 J J;rw[hn]at hc';refine M1 hc' ?_;rintro en w' ⟨rfl,rfl⟩;refine⟨_,rfl, ?_⟩;exact aa5 J (by simp[maxLen];omega) (Lib.cellsOf_size J) (λi s h=>by
  have hi:=(BN.1 h).1;rw[Yj,TU,I8<|by simpa using hi,D5,h];rfl) (λ_ _=>⟨rfl,rfl⟩)
end Go.VS
end
noncomputable section
namespace Go.VS
open Go
section
variable {P:Program} {W:World}
def mz(P:Program)(name:String)(k:IntKind):Bool:=
 match P.globalNamed name with
 | some g=>match (P.globals[g]?).map (·.type) with
  | some t=>match P.underlying t with
   | some (.array n e)=>(match P.underlying e with|some (.int k')=>U (k'=k)|_=>A0)&&U (P.cellsOf e=1)&&U (P.cellsOf t=n)
   | _=>A0
  | _=>A0
 | _=>A0
def apK{name:String}{k:IntKind}{zs:List Int}(h:mz P name k=Y)(hl:laidMet P [(name,Lib.tabData k zs)] W):M3 P W name k zs:=by
 unfold mz at h;split at h
 case h_2=>cases h
 rename_i g hg;split at h
 case h_2=>cases h
 rename_i t ht;split at h
 case h_2=>cases h
 rename_i n e hu;simp only[AD,decide_eq_true_eq]at h;obtain⟨⟨h1,h2⟩,h3⟩:=h;split at h1
 case h_2=>cases h1
 rename_i k' hk;have h1:=Bc h1;subst h1;exact Lib.tabIs_of_head hg ht hu hk h2 h3 hl
def Tn:String:= "internal/strconv.uint64pow10"
def aqU{laid:List (String×DataW D)}(hsh:W.ShapedOpen P)(azm:IA P.globals.size (begin P (λ_ _=>0) default).world.heap.size=Y)(acM:laidMetH P laid W)
  (ay5:(laid.all λx=>x.2.handleName?.isNone)=Y)
  (aE:P.globalNamed Tn≠G->(laid.filter λx=>x.1 == Tn)=[(Tn,Lib.tabData .u64 N3)]/\mz P Tn .u64=Y):NI P W (λ_=>False):=by
 have hlt:P.globals.size<W.heap.size:=by
  obtain⟨o,o0,h1,_⟩:=hsh.2 P.globals.size (Ar _) (by simpa[Of] using azm);exact(HE.1 h1).1
 refine⟨W,⟨hsh,λhn=> ?_⟩,λb hb=>⟨id,J,rfl⟩⟩;obtain⟨h1,h2⟩:=aE hn;rw[lK _ _ _ ay5]at acM;have h3:=laidMet.filter (λx=>x.1 == Tn) acM;rw[h1]at h3;exact apK h2 h3
end
end Go.VS
namespace Go.VS
open Go
def axl:Oper:={ dst:=G,op:= .move<|.const<|.bool A0,type:=0,pos:= "",after:= #[],guard:=G }
def n7(zs:List Nat)(e:Edge):Option Edge:=(zs.idxOf? e.on).map λj=>{ e with on:=j }
def Ql(zs:List Nat)(o:Oper):Oper:={ o with after:=(o.after.toList.filterMap<|n7 zs).toArray }
def FO(ops:Array Oper)(zs:List Nat):Array Oper:=(zs.map λi=>Ql zs<|(ops[i]?).getD axl).toArray
def arH{ops:Array Oper}{zs:List Nat}{j i:Nat}{o:Oper}(hz:zs[j]? =I i)(ho:ops[i]? =I o):(FO ops zs)[j]? =I (Ql zs o):=by
 simp[FO,hz,ho]
def iO(ops:Array Oper)(zs:List Nat):(FO ops zs).size=zs.length:=by simp[FO]
def asz{zs:List Nat}{o:Oper}{e:Edge}(h:e∈(Ql zs o).after):∃e0∈o.after,Fj .any e0=Fj .any e/\zs[e.on]? =I e0.on:=by
 have h:e∈o.after.toList.filterMap (n7 zs):=by simpa[Ql] using h
 obtain⟨e0,h0,h1⟩:=GO.1 h;unfold n7 at h1;obtain⟨j,h2,h3⟩:=DA.1 h1;refine⟨e0,by simpa using h0,by rw[← h3];rfl, ?_⟩;rw[← h3];obtain⟨hlt,h4,_⟩:=List.idxOf?_eq_some_iff.1 h2;show zs[j]? =I e0.on;rw[Au hlt];simpa using h4
section
variable {P:Program} {ops:Array Oper} {Q:Exit->Act->World->Prop}
def arb(Good:(Nat->Prop)->Act->World->Prop)(azC:∀(i:Nat) (o:Oper) (e:Edge),ops[i]? =I o->e∈o.after->Fj .any e=Y->e.on<i)
  (oG:∀(B3:Nat->Prop) a w,(∀i,¬B3 i)->Good B3 a w->Q .normal a w)
  (ni:∀(B3:Nat->Prop) (i:Nat) (a:Act) (w:World) (o:Oper),Good B3 a w->(∀j,B3 j->j<ops.size)->(∀j oj,ops[j]? =I oj->¬B3 j->∀e∈oj.after,Fj .any e=Y->¬B3 e.on)->B3 i->ops[i]? =I o->
   (∀e∈o.after,Fj .any e=Y->¬B3 e.on)->wpOp P ops Q i (λa w=>Good (λk=>B3 k/\k≠i) a w) a w):
  ∀(n:Nat) (Ba:List Nat) (listed:Array Bool) (a:Act) (w:World),Ba.length=n->Ba.Nodup->(∀j,j∈Ba↔j<ops.size/\listed.getD j Y=A0)->listed.size=ops.size->
   (∀j oj,ops[j]? =I oj->j ∉ Ba->∀e∈oj.after,Fj .any e=Y->e.on ∉ Ba)->Good (λk=>k∈Ba) a w->wpAny P .any ops Q n listed a w:=by
 intro n
 induction n with
 | zero=>
  intro Ba listed a w hl hnd hU hs hcl hg;have:Ba=[]:=Du hl;subst this;refine⟨?_,oG _ a w (λi h=>by cases h) hg⟩;cases hrd:Oe .any ops listed with
  | nil=>rfl
  | cons j l=>
   have hj:j∈Oe .any ops listed:=by rw[hrd];exact Am
   obtain⟨h1,o,ho,_⟩:=mem_ready.1 hj;have:=(hU j).2 ⟨(HE.1 ho).1,h1⟩;cases this
 | succ n ih=>
  intro Ba listed a w hl hnd hU hs hcl hg;have done:∀x,x<ops.size->x ∉ Ba->listed.getD x A0=Y:=λx hx hn=>by
   refine sb J ?_;cases hb':listed.getD x Y with
   | true=>rfl
   | false=>exact absurd ((hU x).2 ⟨hx,hb'⟩) hn
  refine⟨λnp=> ?_,λi hi=> ?_⟩
  .exfalso;obtain⟨i0,h0,nq⟩:=ik (λk=>k∈Ba) (by
    cases Ba with
    | nil=>simp at hl
    | cons x l=>exact⟨x,Am⟩)
   obtain⟨hlt,hun⟩:=(hU i0).1 h0;obtain⟨o,ho⟩:∃o,ops[i0]? =I o:=⟨ops[i0],by simp[hlt]⟩;have hr0:i0∈Oe .any ops listed:=mem_ready.2 ⟨hun,o,ho,λe he hb=>by
    have aI:=azC i0 o e ho he hb;exact done e.on J λhm=>by have:=nq _ hm;omega⟩
   rw[np]at hr0;cases hr0
  .obtain⟨hun,oi,hoi,Is⟩:=mem_ready.1 hi;have hlt:i<ops.size:=(HE.1 hoi).1;have hiU:i∈Ba:=(hU i).2 ⟨hlt,hun⟩;have KH:∀e∈oi.after,Fj .any e=Y->e.on ∉ Ba:=λe he hb hm=>by
    have h2:=((hU e.on).1 hm).2;have hsz:=((hU e.on).1 hm).1;have hel:=Is e he hb;have:listed.getD e.on Y=Y:=by simp[show e.on<listed.size by omega]at hel ⊢; exact hel
    rw[this]at h2;cases h2
   have F8:∀k,k∈Ba.erase i↔k∈Ba/\k≠i:=λk=>by
    rw[hnd.mem_erase_iff];exact and_comm
   refine wpOp_mono ?_ (ni (λk=>k∈Ba) i a w oi hg (λj hj=>((hU j).1 hj).1) hcl hiU hoi KH);intro a' w' hg';refine ih (Ba.erase i) _ a' w' (by rw[List.length_erase_of_mem hiU,hl];rfl) (hnd.erase i) (λj=> ?_) (by simpa using hs) ?_ ?_
   .rw[F8,hU];by_cases e:j=i
    .subst e;simp
    .rw[getD_set_ne Y<|L0 e];simp[e]
   .intro j oj hoj hj e he hb hm;have hmU:=((F8 _).1 hm).1;by_cases e':j=i
    .subst e';rw[hoi]at hoj;cases hoj;exact KH e he hb hmU
    .exact hcl j oj hoj (λh=>hj<|(F8 j).2 ⟨h,e'⟩) e he hb hmU
   .have:(λk=>k∈Ba.erase i)=λk=>k∈Ba/\k≠i:=funext λk=>propext<|F8 k;rw[this];exact hg'
end
section
variable {C:Cx} {B:Bb} {ops S0:Array Oper} {L:Lb} {stk:List (Array Value)} {Ω:Type} {q:Ω} {s s':S}
structure PaR (C:Cx) (S0:Array Oper) (L:Lb) (Ba:List Nat) (s s':S):Prop where
 run:Run C S0 L Ba s s'
 azs:Ba.Pairwise (· < ·)
 lt:∀j∈Ba,j<S0.size
 cl:∀i x,i<S0.size->i ∉ Ba->L.R x i->x ∉ Ba
 fit:∀j∈Ba,Fit S0 L Ba s j
def PaR.pick(hn:P7 S0 L){Ba:List Nat}(h:PaR C S0 L Ba s s'){i:Nat}(hiU:i∈Ba){oi:Oper}(hoi:S0[i]? =I oi)(KH:∀e∈oi.after,Fj .any e=Y->e.on ∉ Ba):
  ∃s1 U',ev1 C S0 oi (L.b i) s=I s1/\(∀id,L.b i<=id->id<L.b i+16->s.H id=G)/\PaR C S0 L U' s1 s'/\ ∀k,k∈U'↔k∈Ba/\k≠i:=by
 obtain⟨hr,hp,hlt,hd,hf⟩:=h;obtain⟨l1,l2,rfl⟩:=Ta hiU;have hRn:∀j∈l1++i::l2,¬L.R j i:=by
  intro j hj hR;obtain⟨e,he,hb,U0⟩:=hn.anc j i oi hoi hR;have heU:=KH e he hb;obtain h|h:=U0
  .exact heU (h▸hj)
  .have aI:=hn.dir i oi e hoi he hb;exact hd e.on j (by have:=hlt i hiU;omega) heU h hj
 have Ce:=Run.first hn l1 s hr hp hRn hf
 cases Ce with
 | cons U5 U9 t=>
  rename_i o' s1;rw[hoi]at U5;cases U5;have hnd:(l1++i::l2).Nodup:=hp.imp λh=>Oh h;have F8:∀j,j∈l1++l2↔j∈l1++i::l2/\j≠i:=by
   intro j;have JW:=JR.1 hnd;constructor
   .intro hj;refine⟨?_, ?_⟩
    .rcases BL.1 hj with h|h
     .exact Bw _ h
     .exact CS _ (Ai _ h)
    .rintro rfl;obtain h|h:=BL.1 hj
     .exact JW.2.2 j h j Am rfl
     .exact(IC.1 JW.2.1).1 h
   .rintro⟨hj,hne⟩;obtain h|h:=BL.1 hj
    .exact Bw _ h
    .rcases Bm.1 h with h|h
     .exact absurd h hne
     .exact CS _ h
  refine⟨s1,l1++l2,U9.ev,λid h1 h2=>(hf i hiU oi hoi).2.2 id h1 h2,⟨t, ?_,λj hj=>hlt j ((F8 j).1 hj).1, ?_, ?_⟩,F8⟩
  .have p2:=My.1 hp;exact My.2 ⟨p2.1,(KB.1 p2.2.1).2,λx hx y hy=>p2.2.2 x hx y<|Ai _ hy⟩
  .intro k x hk hkU hR hx;have hxU:=((F8 x).1 hx).1;by_cases e:k=i
   .subst e;exact hRn x hxU hR
   .exact hd k x hk (λh=>hkU<|(F8 k).2 ⟨h,e⟩) hR hxU
  .intro j hj;obtain⟨hjU,hne⟩:=(F8 j).1 hj;refine(hf j hjU).step hn hoi (L0 hne) (hRn j hjU) U9 λk hk=> ?_;by_cases e:k=i
   .exact .inl e
   .exact .inr<|(F8 k).2 ⟨hk,e⟩
structure JT (C:Cx) (ops:Array Oper) (zs:List Nat) (L:Lb) (B3:Nat->Prop) (s s':S):Prop where
 nice:P7 (FO ops zs) L
 ex:∃Ba,PaR C (FO ops zs) L Ba s s'/\ ∀j x,zs[j]? =I x->(j∈Ba↔B3 x)
def avr{zs:List Nat}{o:Oper}(hg:o.guard=G)(b:Nat)(s:S):ev1 C (FO ops zs) (Ql zs o) b s=CI C (AF S) o b s I:=by
 unfold ev1 evG;have:(Ql zs o).guard=G:=hg;rw[this];rfl
def auY{o:Oper}(hg:o.guard=G)(b:Nat)(s:S):ev1 C ops o b s=CI C (AF S) o b s I:=by
 unfold ev1 evG;rw[hg]
def JT.pick{zs:List Nat}{B3:Nat->Prop}(h:JT C ops zs L B3 s s')(hz:zs.Nodup){j i:Nat}(hj:zs[j]? =I i)(hD:B3 i){o:Oper}(ho:ops[i]? =I o)(hg:o.guard=G)
  (KH:∀e∈o.after,Fj .any e=Y->¬B3 e.on):
  ∃s1,CI C (AF S) o (L.b j) s I=I s1/\(∀id,L.b j<=id->id<L.b j+16->s.H id=G)/\JT C ops zs L (λk=>B3 k/\k≠i) s1 s':=by
 obtain⟨hn,Ba,hp,hU⟩:=h;obtain⟨s1,U',h1,h2,h3,h4⟩:=hp.pick hn ((hU j i hj).2 hD) (arH hj ho) λe he hb hm=>by
  obtain⟨e0,he0,hb0,hz0⟩:=asz he;exact KH e0 he0 (by rw[hb0];exact hb)<|(hU _ _ hz0).1 hm
 refine⟨s1,by rw[← avr hg];exact h1,h2,hn,U',h3,λk x hk=> ?_⟩;rw[h4,hU k x hk];refine and_congr_right λ_=>not_congr ⟨λe=> ?_,λe=> ?_⟩
 .subst e;rw[hk]at hj;cases hj;rfl
 .subst e;have hk1:=(BN.1 hk);have hj1:=(BN.1 hj);obtain⟨a1,a2⟩:=hk1;obtain⟨b1,b2⟩:=hj1;have hpw:=K5.1 hz;obtain h|h|h:=I6 k j
  .exact absurd (a2.trans b2.symm) (hpw k j a1 b1 h)
  .exact h
  .exact absurd (b2.trans a2.symm)<|hpw j k b1 a1 h
def JT.done{zs:List Nat}{B3:Nat->Prop}(h:JT C ops zs L B3 s s')(hD:∀x∈zs,¬B3 x):s=s':=by
 obtain⟨hn,Ba,hp,hU⟩:=h;have:Ba=[]:=by
  cases Ba with
  | nil=>rfl
  | cons j l=>
   exfalso;have hlt:=hp.lt j Am;rw[iO]at hlt;have hz:zs[j]? =I zs[j]:=Au hlt;exact hD _ (Cg hlt)<|(hU j _ hz).1 Am
 subst this;have:=hp.run;cases this;rfl
def kU{zs:List Nat}{k:S->Option Ω}(he:evD C (FO ops zs) s (FO ops zs).toList 0 s.nid [] s k=I q)(hfr:Fr s)(B3:Nat->Prop)(hD:∀x∈zs,B3 x):
  ∃L s',JT C ops zs L B3 s s'/\(∀j,L.b j=s.nid+16 * j)/\Fr { s' with nid:=s.nid+16 * zs.length } /\s'.n=s.n/\s'.pins=s.pins/\k { s' with nid:=s.nid+16 * zs.length } =I q:=by
 obtain⟨rs,s',h1,h2,h3,h4⟩:=jl (b0:=s.nid) (FO ops zs).toList 0 s.nid [] s he trivial rfl rfl y9;simp only[CK,DZ]at h2 h4;have hn:rs.reverse.length=(FO ops zs).size:=by simpa using h3
 have hpl:=h2.places;rw[lA,hn]at hpl;have LD:∀j,Fit (FO ops zs) (C2 rs.reverse s.nid) (B7 (FO ops zs).size) s j:=λj=>h2.fit hn hfr;have Ce:=iA h2 hn rs s s' h1 (λr hr=>by simpa using hr) (by rw[hpl];exact QS) (λr hr=>by rw[hpl];exact LD _);rw[hpl]at Ce;have hlen:(FO ops zs).toList.length=zs.length:=by simp[FO]
 have P2:BC (λj=>j<s.nid+16 * zs.length) s s':=iY rs s s' _ h1 λr hr=>by
  have hr':r∈rs.reverse:=by simpa using hr
  have e1:=(h2.MD hr').1;have e2:=h2.lt r hr';rw[hn,iO]at e2;omega
 rw[hlen]at h4;refine⟨C2 rs.reverse s.nid,s',⟨h2.nice hn,B7 (FO ops zs).size,⟨Ce,QS,λj hj=>Cs.1 hj,λi x hi hiU _=>absurd (Cs.2 hi) hiU,λj _=>LD j⟩,λj x hj=> ?_⟩,
  λj=>rfl,λj hj=> ?_,P2.n,P2.pins,h4⟩
 .rw[Cs,iO];exact⟨λ_=>hD x<|Cl hj,λ_=>(BN.1 hj).1⟩
 .have hj:s.nid+16 * zs.length<=j:=hj;exact P2.nn j J<|hfr j J
end
end Go.VS
namespace Go.VS
open Go
def evX{Ω:Type}(C:Cx)(inl:Inl Ω)(ops:Array Oper)(ys:List Nat)(m:Nat)(zs:List Nat)(s:S)(k:S->Option Ω):Option Ω:=
 evD C (FO ops ys) s (FO ops ys).toList 0 s.nid [] s λs1=>match ops[m]? with
  | some om=>evG C inl ops om s1.nid s1 λs2=>evD C (FO ops zs) { s2 with nid:=s2.nid+16 } (FO ops zs).toList 0 (s2.nid+16) [] { s2 with nid:=s2.nid+16 } k
  | none=>G
structure XOk (ops:Array Oper) (m f:Nat):Prop where
 mf:m<f
 sz:f<ops.size
 guard:∀(i:Nat) (o:Oper),ops[i]? =I o->o.guard=G
 dir:∀(i:Nat) (o:Oper) (e:Edge),ops[i]? =I o->e∈o.after->Fj .any e=Y->e.on<i
 cov:∀i,i<m->∃j o e,i<j/\j<=m/\ops[j]? =I o/\e∈o.after/\Fj .any e=Y/\e.on=i
 late:∀i,m<i->i<ops.size->i≠f->∃o e,ops[i]? =I o/\e∈o.after/\Fj .any e=Y/\(e.on=m\/(m<e.on/\e.on≠f))
abbrev aft(m n:Nat):List Nat:=List.range' (m+1)<|n - (m+1)
abbrev KC(m n f:Nat):List Nat:=(aft m n).filter λx=> !(Af x f)
section
variable {C:Cx} {B:Bb} {ops:Array Oper} {stk:List (Array Value)} {Ω:Type} {q:Ω} {inl:(Ω:Type)->Inl Ω}
def lu{m n x:Nat}:x∈aft m n↔m<x/\x<n:=by
 rw[List.mem_range'_1];omega
def O7{m n f x:Nat}:x∈KC m n f↔(m<x/\x<n)/\x≠f:=by
 rw[FQ,lu];refine and_congr_right λ_=> ?_;rw[CE,← GL,HF]
def aDg{m j:Nat}(h:j<m):(B7 m)[j]? =I j:=by simp[h]
def aBo{m f j:Nat}(h:j<m):(B7 m++[f])[j]? =I j:=by
 rw[I8<|by simpa using h];exact aDg h
def atN{m f:Nat}:(B7 m++[f])[m]? =I f:=by
 rw[F1 y9];simp
def K2(C:Cx)(ops:Array Oper)(zs:List Nat)(k:S->Option Ω)(s2:S):Option Ω:=
 evD C (FO ops zs) { s2 with nid:=s2.nid+16 } (FO ops zs).toList 0 (s2.nid+16) [] { s2 with nid:=s2.nid+16 } k
inductive Way (C:Cx) (ops:Array Oper) (m f:Nat) (inl:Inl Ω) (k:S->Option Ω) (q:Ω) (s0:S) (B3:Nat->Prop) (s:S):Prop
 | one (hm:B3 m) (hf:B3 f) (hz:∀x∈KC m ops.size f,B3 x) (L1 L2:Lb) (s1 s2:S) (b1:∀j,L1.b j=s0.nid+16 * j) (b2:∀j,L2.b j=s0.nid+16 * j)
   (p1:JT C ops (B7 m) L1 B3 s s1) (p2:JT C ops (B7 m++[f]) L2 B3 s s2)
   (f1:Fr { s1 with nid:=s0.nid+16 * m }) (f2:Fr { s2 with nid:=s0.nid+16 * (m+1) })
   (n1:s1.n=s0.n/\s1.pins=s0.pins) (n2:s2.n=s0.n/\s2.pins=s0.pins)
   (k1:∀om,ops[m]? =I om->evG C inl ops om (s0.nid+16 * m) { s1 with nid:=s0.nid+16 * m } (K2 C ops (aft m ops.size) k)=I q)
   (k2:∀om,ops[m]? =I om->evG C inl ops om (s0.nid+16 * (m+1)) { s2 with nid:=s0.nid+16 * (m+1) } (K2 C ops (KC m ops.size f) k)=I q):Way C ops m f inl k q s0 B3 s
 | two (hm:B3 m) (hf:¬B3 f) (hz:∀x∈KC m ops.size f,B3 x) (L2:Lb) (s2:S)
   (p2:JT C ops (B7 m++[f]) L2 B3 s s2)
   (f2:Fr { s2 with nid:=s0.nid+16 * (m+1) })
   (n2:s2.n=s0.n/\s2.pins=s0.pins)
   (k2:∀om,ops[m]? =I om->evG C inl ops om (s0.nid+16 * (m+1)) { s2 with nid:=s0.nid+16 * (m+1) } (K2 C ops (KC m ops.size f) k)=I q):Way C ops m f inl k q s0 B3 s
 | fin (hm:¬B3 m) (ha:∀x,x<m->¬B3 x) (zs:List Nat) (hn:zs.Nodup) (hD:∀x,B3 x->x∈zs) (L:Lb) (s':S) (p:JT C ops zs L B3 s s')
   (N:Nat) (f2:Fr { s' with nid:=N }) (n2:s'.n=s0.n/\s'.pins=s0.pins) (k2:k { s' with nid:=N } =I q):Way C ops m f inl k q s0 B3 s
def St.nY{β:Beta}{s:S}{a:Act}{w:World}(h:St B β stk s a w)(N:Nat):St B β stk { s with nid:=N } a w:=⟨h.T,h.stack,h.n,h.defers,h.pins,h.gs,h.hs⟩
def arl(hP:C.P=B.P)(hm:B.P.follows .mixedOrders=Y)(hC:HO C B)(hI:JB C B inl){m f:Nat}(hX:XOk ops m f){k:S->Option Ω}{s0:S}
  (he1:evX C (inl Ω) ops (B7 m) m (aft m ops.size) s0 k=I q)(he2:evX C (inl Ω) ops (B7 m++[f]) m (KC m ops.size f) s0 k=I q)(hfr:Fr s0)
  {β:Beta}{a:Act}{w:World}(hst:St B β stk s0 a w){id:Nat}{Q:Exit->Act->World->Prop}
  (hQ:∀β a w s',St B β stk s' a w->Fr s'->s'.n=s0.n->s'.pins=s0.pins->k s'=I q->Q .normal a w):(QZ id ops Y).wp B.P Q a w:=by
 have hmf:=hX.mf;have hsz:=hX.sz;have MG:St B β stk s0 a { w with drawn:=w.drawn+1 } :=by
  have hk:Kp w β { w with drawn:=w.drawn+1 } β:=Kp.heap rfl;exact hst.keep hk (H':=s0.H)<|hst.hs.drew
 refine wp_region_any hm ?_;refine arb (λB3 a w=>∃β s,St B β stk s a w/\Way C ops m f (inl Ω) k q s0 B3 s) hX.dir ?_ ?_ ops.size (B7 ops.size) _ a _ y9 lO (λj=> ?_) y9 (λj oj hoj hj=>absurd (Cs.2 (HE.1 hoj).1) hj) ?_
 ·
  rintro B3 a w hD ⟨β,s,hs,hW⟩;cases hW with
  | one hm'=>exact absurd hm'<|hD _
  | two hm'=>exact absurd hm'<|hD _
  | fin _ _ zs hn _ L s' p N f2 n2 k2=>
   have:=p.done λx _=>hD x;subst this;exact hQ β a w _ (hs.nY N) f2 n2.1 n2.2 k2
 ·
  rintro B3 i a w o ⟨β,s,hs,hW⟩ hlt hcl hDi ho KH;have hg:=hX.guard i o ho;have CF:∀ {zs:List Nat} {L:Lb} {s':S} {j:Nat},JT C ops zs L B3 s s'->zs.Nodup->zs[j]? =I i->(∀s1,CI C (AF S) o (L.b j) s I=I s1->JT C ops zs L (λk=>B3 k/\k≠i) s1 s'->Way C ops m f (inl Ω) k q s0 (λk=>B3 k/\k≠i) s1)->
    wpOp B.P ops Q i (λa w=>∃β s,St B β stk s a w/\Way C ops m f (inl Ω) k q s0 (λk=>B3 k/\k≠i) s) a w:=by
   intro zs L s' j hp hz hj MA;obtain⟨s1,h1,h2,h3⟩:=hp.pick hz hj hDi ho hg KH;refine kV hP hC ho hs (b:=L.b j) h2 (show ev1 C ops o (L.b j) s=I s1 by rw[auY hg];exact h1) ?_;intro β' u w' MG;exact⟨β',s1,MG,MA s1 h1 h3⟩
  have ndA:(B7 m++[f]).Nodup:=by
   rw[JR];refine⟨lO,by simp,λx hx y hy e=> ?_⟩;have:=Cs.1 hx;have:=CN.1 hy;omega
  have acF:B3 m->(∀x∈KC m ops.size f,B3 x)->¬(m<i/\i≠f):=by
   rintro hm' hz ⟨h1,h2⟩;obtain⟨o',e,ho',he,hb,U0⟩:=hX.late i h1 (hlt i hDi) h2;rw[ho]at ho';cases ho';refine KH e he hb ?_;obtain h|⟨h3,h4⟩:=U0
   .rw[h];exact hm'
   .exact hz _<|O7.2 ⟨⟨h3,by have:=hX.dir i o e ho he hb;have:=hlt i hDi;omega⟩,h4⟩
  have Tt:i=m->∀x,x<m->¬B3 x:=by
   intro e x hx;have:∀n x,m - x=n->x<m->¬B3 x:=by
    intro n
    induction n using Nat.strongRecOn with
    | ind n ih=>
     intro x hn hx;obtain⟨j,oj,e',h1,h2,h3,h4,h5,h6⟩:=hX.cov x hx;obtain h7|h7:=Nat.lt_or_eq_of_le h2
     .have:=hcl j oj h3 (ih (m - j) J j rfl h7) e' h4 h5;rw[h6]at this;exact this
     .subst h7;rw[← e,ho]at h3;cases h3;have:=KH e' h4 h5;rw[h6]at this;exact this
   exact this _ x rfl hx
  have aci:∀ {b:Nat} {s1:S} {zs:List Nat},i=m->s=s1->Fr { s1 with nid:=b } ->(s1.n=s0.n/\s1.pins=s0.pins)->(∀x∈zs,B3 x/\x≠i)->zs.Nodup->(∀x,B3 x/\x≠i->x∈zs)->
    (∀om,ops[m]? =I om->evG C (inl Ω) ops om b { s1 with nid:=b } (K2 C ops zs k)=I q)->
    wpOp B.P ops Q i (λa w=>∃β s,St B β stk s a w/\Way C ops m f (inl Ω) k q s0 (λk=>B3 k/\k≠i) s) a w:=by
   intro b s1 zs e1 e2 hf1 hn1 hz hnd hin hk;subst e1;subst e2;refine aDq hP hC hI ho (s:={ s with nid:=b }) (hk o ho) (hs.nY b) hf1 ?_;intro β' u w' s' hs' hf' hn' hp' hk';obtain⟨L,s2,p,_,az8,hn2,hp2,hk2⟩:=kU (s:={ s' with nid:=s'.nid+16 }) hk' (λj hj=>hf' j hj) (λk=>B3 k/\k≠i) hz;exact⟨β',_,hs'.nY _,.fin (λh=>h.2 rfl) (λx hx h=>Tt rfl x hx h.1) zs hnd hin L s2 p _ az8 ⟨hn2.trans<|hn'.trans hn1.1,hp2.trans<|hp'.trans hn1.2⟩ hk2⟩
  have nd1:(aft m ops.size).Nodup:=List.nodup_range';have nd2:(KC m ops.size f).Nodup:=nd1.filter _;cases hW with
  | one hm' hf' hz L1 L2 s1 s2 b1 b2 p1 p2 f1 f2 n1 n2 k1 k2=>
   obtain h|h|h:=I6 i m
   .refine CF p1 lO (aDg h) λt1 e1 q1=> ?_;obtain⟨t2,e2,_,q2⟩:=p2.pick ndA (aBo h) hDi ho hg KH;rw[b2,← b1,e1]at e2;cases e2;exact .one ⟨hm',J⟩ ⟨hf',J⟩ (λx hx=>⟨hz x hx,by have:=(O7.1 hx).1.1;omega⟩) L1 L2 s1 s2 b1 b2 q1 q2 f1 f2 n1 n2 k1 k2
   .have e:=p1.done λx hx=>Tt h x<|Cs.1 hx;refine aci h e f1 n1 (λx hx=> ?_) nd1 (λx hx=> ?_) k1
    .have hx:=lu.1 hx;refine⟨?_,J⟩;by_cases e':x=f
     .rw[e'];exact hf'
     .exact hz x (O7.2 ⟨hx,e'⟩)
    .refine lu.2 ⟨?_,hlt x hx.1⟩;obtain h2|h2|h2:=I6 x m
     .exact absurd hx.1 (Tt h x h2)
     .exact absurd (h2.trans h.symm) hx.2
     .exact h2
   .by_cases e:i=f
    .refine CF p2 ndA (j:=m) (by rw[e];exact atN) λt1 e1 q1=> ?_;exact .two ⟨hm',J⟩ (λh=>h.2 e.symm) (λx hx=>⟨hz x hx,by have:=(O7.1 hx).2;omega⟩) L2 s2 q1 f2 n2 k2
    .exact absurd ⟨h,e⟩<|acF hm' hz
  | two hm' hf' hz L2 s2 p2 f2 n2 k2=>
   obtain h|h|h:=I6 i m
   .refine CF p2 ndA (aBo h) λt1 e1 q1=> ?_;exact .two ⟨hm',J⟩ (λh=>hf' h.1) (λx hx=>⟨hz x hx,by have:=(O7.1 hx).1.1;omega⟩) L2 s2 q1 f2 n2 k2
   .have e:=p2.done λx hx=>by
     obtain hx|hx:=BL.1 hx
     .exact Tt h x (Cs.1 hx)
     .rw[CN.1 hx];exact hf'
    refine aci h e f2 n2 (λx hx=>⟨hz x hx,by have:=(O7.1 hx).1.1;omega⟩) nd2 (λx hx=>O7.2 ⟨⟨?_,hlt x hx.1⟩,λe'=>hf'<|e'▸hx.1⟩) k2;obtain h2|h2|h2:=I6 x m
    .exact absurd hx.1 (Tt h x h2)
    .exact absurd (h2.trans h.symm) hx.2
    .exact h2
   .by_cases e:i=f
    .exact absurd (e▸hDi) hf'
    .exact absurd ⟨h,e⟩<|acF hm' hz
  | fin hm' ha zs hn hD L s' p N f2 n2 k2=>
   obtain⟨j,hj⟩:=l5.1<|hD i hDi;refine CF p hn hj λt1 e1 q1=> ?_;exact .fin (λh=>hm' h.1) (λx hx h=>ha x hx h.1) zs hn (λx hx=>hD x hx.1) L s' q1 N f2 n2 k2
 .rw[Cs];constructor
  .intro h;exact⟨h,by simp[h]⟩
  .exact λh=>h.1
 ·
  obtain⟨om,hom⟩:∃o,ops[m]? =I o:=⟨ops[m],by simp[show m<ops.size by omega]⟩;unfold evX at he1 he2;obtain⟨L1,s1,p1,b1,fr1,n1,pn1,k1⟩:=kU he1 hfr (λk=>k∈B7 ops.size) (λx hx=>Cs.2 (by have:=Cs.1 hx;omega));obtain⟨L2,s2,p2,b2,fr2,n2,pn2,k2⟩:=kU he2 hfr (λk=>k∈B7 ops.size) (λx hx=>Cs.2 (by
   obtain h|h:=BL.1 hx
   .have:=Cs.1 h;omega
   .rw[CN.1 h];exact hsz))
  have l1:(B7 m).length=m:=by simp
  have l2:(B7 m++[f]).length=m+1:=by simp
  rw[l1]at fr1 k1;rw[l2]at fr2 k2;simp only[hom]at k1 k2;exact⟨β,s0,MG,.one (Cs.2 J) (Cs.2 hsz) (λx hx=>Cs.2 (O7.1 hx).1.2) L1 L2 s1 s2 b1 b2 p1 p2 fr1 fr2 ⟨n1,pn1⟩ ⟨n2,pn2⟩
   (λo h=>by rw[hom]at h;cases h;exact k1) (λo h=>by rw[hom]at h;cases h;exact k2)⟩
end
end Go.VS
namespace Go.VS
open Go
section
variable {C:Cx} {B:Bb} {β:Beta} {H:Hp} {w w':World} {M:Nat->Prop} {stk:List (Array Value)} {s s':S} {a:Act} {P:Program} {e e':Nat->Value} {inl:(Ω:Type)->Inl Ω}
def atu{P:Program}(hP:C.P=P){f:FuncId}{fn:Func}{body:Code}(hf:P.funcs[f]? =I fn)(KG:(fn.name == "runtime.NumGoroutine")=A0)
  (hb:fn.body=I body){m:DS}(hok:okM m fn.ntmps=Y)
  (hw:∀(x:LTs m.ps) (r:LTs m.rs×LTs (Az m.ps)),m.g x=I r->∀(B:Bb),B.P=P->∀(β:Beta) (a:Act) (w:World) (Q:Exit->Act->World->Prop),St B β [] (Qn fn.ntmps m.ps x) a w->Fr (Qn fn.ntmps m.ps x)->
   KOK B [] fn.ntmps (Dw 0 m.ps) { nrm:=fin C.P fn m,ret:=fin C.P fn m,ext:=λ_ _=>G } r Q->body.wp B.P Q a w):H6 P f m:=by
 refine⟨O0 hf KG hb,λx r hx w Z args os hr hnd hbl hZ hgl=> ?_⟩;have hw:=hw x r hx;have U4:=hok;simp only[okM,AD]at U4;obtain⟨⟨⟨hps,hrs⟩,hn⟩,_⟩:=U4;have hn:=Da hn;have hlen:=hr.length
 let B:Bb:={ P:=P,w0:=w,O:=λb=>b∈Ax os,tm0:=ar args,Z:=Z,gl:=hgl }
 have R4:Num (HY Z os) 0 os:=kQ Z os;obtain⟨k1,k2,k3⟩:=Xd (β:=HY Z os) (E:=λ_=> .un) (M:=λb=>b∈Ax os\/Z b) (P:=P) (w:=w) (e:=ar args) (λb hb=>lp (B:=B) hb) m.ps (λ_=>G) 0 x args os hps hr R4 (λt _=>trivial);have hi:Qn fn.ntmps m.ps x=(match Ah (λ_=> .un) (λ_=>G) 0 m.ps x with
  | (vs,H,b)=>{ n:=fn.ntmps,T:=λt=>(vs[t]?).getD Dl,H:=H,nid:=b,st:=[],pins:=Dw 0 m.ps,gs:=λ_=>A0 }):=rfl
 rw[hi]at hw;generalize Ah (λ_=> .un) (λ_=>G) 0 m.ps x=q at *;obtain⟨vs,H,b⟩:=q;simp only at hw k1 k2 k3;have hH:Hs B (HY Z os) H w:={
  EK:=λid ob ho=>by
   by_cases h:id<os.length
   .obtain⟨ob',h1,h2⟩:=k3.2 id (Cz _) J;rw[h1]at ho;cases ho;exact h2
   .rw[k3.1 id J]at ho;cases ho
  dom:=λid p hp=>by
   have h:id<os.length:=(BN.1<|show os[id]? =I p from hp).1;obtain⟨ob',h1,_⟩:=k3.2 id (Cz _) J;exact⟨ob',h1⟩
  inj:=λi j p q a a' hi hj=>Xb hnd i j p q a a' hi hj
  old:=λb hb=>⟨.inl<|Ml hb,(hbl b<|Ml hb).1⟩
  os:=rfl
  tape:=rfl
  output:=rfl
  size:=Ar _
  block:=λ_ _ _=>rfl
  z:=rfl
  zn:=λid p a hp ha=>(hbl _<|Ml (Z:=Z) ⟨id,p.1,p.2,a,hp,ha,rfl⟩).2
  zl:=hZ
  pk:=Pk.refl _ _ }
 refine calls_of_wp hf hb ?_;have hst:St B (HY Z os) [] { n:=fn.ntmps,T:=λt=>(vs[t]?).getD Dl,H:=H,nid:=b,st:=[],pins:=Dw 0 m.ps,gs:=λ_=>A0 } { tmps:=args.toArray++QX (fn.ntmps - args.toArray.size) undef,defers:=[] } w:=by
  refine⟨λt=> ?_,⟨rfl,λi T' tm h=>by simp at h⟩, ?_,rfl,λt _=>WB args _ t,λt g want y hy=> ?_,hH⟩
  .rw[WB];show RT w _ _ ((vs[t]?).getD Dl) _;cases hv:vs[t]? with
   | none=>
    have:args.length<=t:=by
     rw[k1.1];exact YX.1 hv
    show RT w _ _ Dl (ar args t);have e0:ar args t=undef:=by simp[ar,Hc this]
    rw[e0];rfl
   | some c=>
    have hlt:t<args.length:=by rw[k1.1];exact(BN.1 hv).1
    have hu:args[t]? =I (ar args t):=by simp[ar,hlt]
    exact(k1.2 t c _ hv hu).Zw
  .simp;omega
  .have hy:(vs[t]?).getD Dl= .gd g want y:=hy;cases hv:vs[t]? with
   | none=>rw[hv]at hy;cases hy
   | some c=>
    rw[hv]at hy;have hy:c= .gd g want y:=hy;have hlt:t<args.length:=by rw[k1.1];exact(BN.1 hv).1
    have hu:args[t]? =I (ar args t):=by simp[ar,hlt]
    have:=k1.2 t c _ hv hu;rw[hy]at this;exact this.elim
 refine hw B rfl _ _ _ _ hst (λj hj=>k3.1 j<|.inr (by have hj:b<=j:=hj;omega)) ⟨?_, ?_, ?_⟩
 .intro β' a' w' s' h1 h2 h3 h4 h5;obtain⟨v',i1,i2⟩:=Xv (B:=B) h1 rfl rfl hlen h4 hok (show fin P fn m s'=I r by rw[← hP];exact h5);exact⟨h1.defers,v',i1,v',rfl,i2⟩
 .intro β' a' w' s' h1 h2 h3 h4 h5;obtain⟨v',i1,i2⟩:=Xv (B:=B) h1 rfl rfl hlen h4 hok (show fin P fn m s'=I r by rw[← hP];exact h5);exact⟨h1.defers,v',i1,v',rfl,i2⟩
 .intro id β' a' w' s' h1 h2 h3 h4 h5;cases h5
def Ou(C:Cx)(inl:(Ω:Type)->Inl Ω)(fn:Func)(ys:List Nat)(l:Nat)(zs:List Nat)(m:DS)(x:LTs m.ps):Option (LTs m.rs×LTs (Az m.ps)):=
 match fn.body with
 | some (.seq (.region _ o0 A0) (.seq (.region _ ops Y) rest))=>
  (OV C (inl S) o0 o0.toList (Qn fn.ntmps m.ps x) I).bind λs1=>evX C (inl _) ops ys l zs s1 λs'=>evk C inl rest _ .nil { nrm:=fin C.P fn m,ret:=fin C.P fn m,ext:=λ_ _=>G } s'
 | _=>G
def bnd(e:Edge):Bool:=Fj .any e
def ZU(ops:Array Oper)(m f:Nat):Bool:=
 IA m f&&IA f ops.size&&(B7 ops.size).all (λi=>match ops[i]? with
  | some o=>o.guard.isNone&&o.after.toList.all (λe=> !(bnd e)||IA e.on i)&&
   (!(IA m i)||Af i f||o.after.toList.any (λe=>bnd e&&(Af e.on m||(IA m e.on&& !(Af e.on f)))))
  | none=>Y)&&
 (B7 m).all (λi=>(B7<|m+1).any λj=>IA i j&&match ops[j]? with
  | some o=>o.after.toList.any λe=>bnd e&&Af e.on i
  | none=>A0)
def avc{ops:Array Oper}{m f:Nat}(h:ZU ops m f=Y):XOk ops m f:=by
 simp only[ZU,AD,DM]at h;obtain⟨⟨⟨h1,h2⟩,h3⟩,h4⟩:=h;have h1:m<f:=by simpa[Of] using h1
 have h2:f<ops.size:=by simpa[Of] using h2
 have at_:∀(i:Nat) (o:Oper),ops[i]? =I o->(o.guard.isNone=Y/\ ∀e∈o.after.toList,(!(bnd e)||IA e.on i)=Y)/\
   (!(IA m i)||Af i f||o.after.toList.any (λe=>bnd e&&(Af e.on m||(IA m e.on&& !(Af e.on f)))))=Y:=by
  intro i o ho;have:=h3 i<|Cs.2 (HE.1 ho).1;rw[ho]at this;simp only[AD,DM]at this;exact this
 refine⟨h1,h2,λi o ho=> ?_,λi o e ho he hb=> ?_,λi hi=> ?_,λi hi1 hi2 hi3=> ?_⟩
 .simpa using (at_ i o ho).1.1
 .have:=(at_ i o ho).1.2 e (by simpa using he);rw[show bnd e=Y from hb]at this;simpa[Of] using this
 .have:=h4 i<|Cs.2 hi;obtain⟨j,hj,hc⟩:=KA.1 this;rw[AD]at hc;obtain⟨c1,c2⟩:=hc;cases ho:ops[j]? with
  | none=>rw[ho]at c2;cases c2
  | some o=>
   rw[ho]at c2;obtain⟨e,he,hc⟩:=KA.1 c2;rw[AD]at hc;exact⟨j,o,e,by simpa[Of] using c1,by have:=Cs.1 hj;omega,ho,by simpa using he,hc.1,by simpa using hc.2⟩
 .obtain⟨o,ho⟩:∃o,ops[i]? =I o:=⟨ops[i],by simp[hi2]⟩;have:=(at_ i o ho).2;have e1:IA m i=Y:=by simpa[Of] using hi1
  have e2:Af i f=A0:=by rw[← GL,HF];exact hi3
  rw[e1,e2]at this;simp only[AA,Bq]at this;obtain⟨e,he,hc⟩:=KA.1 this;rw[AD,C0,AD]at hc;refine⟨o,e,ho,by simpa using he,hc.1, ?_⟩;obtain h|h:=hc.2
  .exact .inl (by simpa using h)
  .refine .inr ⟨by simpa[Of] using h.1,λh'=> ?_⟩;rw[h']at h;simp at h
def avB{P:Program}(hP:C.P=P)(hm:P.follows .mixedOrders=Y)(hC:∀B:Bb,B.P=P->HO C B)(hI:∀B:Bb,B.P=P->JB C B inl){f:FuncId}{fn:Func}
  (hf:P.funcs[f]? =I fn)(KG:(fn.name == "runtime.NumGoroutine")=A0){i0 i1:Nat}{o0 ops:Array Oper}{rest:Code}
  (hb:fn.body=I (.seq (.region i0 o0 A0)<|.seq (.region i1 ops Y) rest)){m:DS}(hok:okM m fn.ntmps=Y){l g:Nat}(hx:ZU ops l g=Y)
  (h1:∀x,Ou C inl fn (B7 l) l (aft l ops.size) m x=m.g x)(h2:∀x,Ou C inl fn (B7 l++[g]) l (KC l ops.size g) m x=m.g x):H6 P f m:=by
 refine atu hP hf KG hb hok λx r hr B hB β a w Q hst hfr hk=> ?_;have e1:=h1 x;have e2:=h2 x;rw[hr]at e1 e2;unfold Ou at e1 e2;rw[hb]at e1 e2;simp only at e1 e2;obtain⟨s1,a1,a2⟩:=Ag.1 e1;obtain⟨s1',b1,b2⟩:=Ag.1 e2;rw[a1]at b1;cases b1;have hPB:C.P=B.P:=by rw[hP,hB]
 have hmB:B.P.follows .mixedOrders=Y:=by rw[hB];exact hm
 have hCB:=hC B hB;have hIB:=hI B hB;refine wp_seq ?_;refine aAU hPB hCB hIB a1 hfr hst ?_;intro β' a' w' s' k1 k2 k3 k4 k5;cases k5;refine wp_seq ?_;refine arl hPB hmB hCB hIB (avc hx) a2 b2 k2 k1 ?_;intro β2 a2' w2 s2 j1 j2 j3 j4 j5;exact X0 hPB hmB hCB hIB rest .nil _ s2 r j5 j1 j2 (G9 _ _) (by rw[j3,j4,k3,k4];exact hk)
def soX{P:Program}{C:Cx}{inl:(Ω:Type)->Inl Ω}{f:Nat}{d:Option Nat}{fn:Func}{m:DS}(hC:OKC P C inl){i0 i1:Nat}{o0 ops:Array Oper}{rest:Code}
  (hf:fnB P f fn m=(I fn,A0,Y,Y))(hb:fn.body=I (.seq (.region i0 o0 A0)<|.seq (.region i1 ops Y) rest)){l g:Nat}(hx:ZU ops l g=Y)
  (h1:∀x,Ou C inl fn (B7 l) l (aft l ops.size) m x=m.g x)(h2:∀x,Ou C inl fn (B7 l++[g]) l (KC l ops.size g) m x=m.g x):SQ P (f,d,m):=by
 simp only[fnB,CL]at hf;exact⟨avB hC.p hC.m hC.c hC.i hf.1 hf.2.1 hb hf.2.2.1 hx h1 h2,hf.2.2.2⟩
end
end Go.VS
namespace Go.VS
open Go
section
variable {P:Program} {w:World} {H:Type} {En:TypeId×Value->H} {base:Nat} {spare:Nat->Bool} {held:Bool}
def aqj{h:Sh}{c:CT}{t e:TypeId}{v:Value}{d:DataW H}{ps:List MemPlace}{r:Reach}{b0:Nat}(hs:n8 h=I c)(hok:T3 P 60 t c=Y)(ht:P.underlying t=I (.slice e))(MF:YZ P w r b0 t v)
  (hd:DataW.Trod En P w base spare held t v d ps):∃x:LT h,ZQ h x/\ ∀(M:Nat->Prop) (e:Nat->Value),(∀b,¬M b)->Rel P w M e h x v []:=by
 obtain⟨a,len,cap,rfl⟩:=Go.WideShapes.okWide_slice ht MF;obtain⟨Bh,hf⟩:=hd;exact art hs<|aBj 60 t c hok ⟨Bh,d,ps,hf⟩
end
def apc{H:Type}{enc:TypeId×Value->H}{a:Assume}{C:Checked}{os:Os}{f:FuncId}{fn:Func}{s:ChangeSpec}{conds:List PathCond}{apart fresh handsOn again:Bool}{X:World->Array Value->Prop}
  (hX:∀(w w':World) (args:Array Value),w.heap=w'.heap->X w args->X w' args)
  (own:ownKnob C.prog.godebug=G)(started:os.Started)(ayA:C.prog.inits.idxOf? f=G)(hfn:C.prog.funcs[f]? =I fn)
  (witness:∃(w:World) (tape:Tape) (i:Input),w.os=os/\(w.forCall tape i).Shaped C.prog/\i.vars=[]/\Input.okWide C.prog (w.forCall tape i) .any w.heap.size f i/\
   ((s.pre enc C.prog fn conds apart (w.forCall tape i).memory i.args/\X (w.forCall tape i).memory i.args)/\sizedMet enc C.prog fn (Ye s) apart (w.forCall tape i).memory i.args)/\a.holds C.prog (lone (Frame.enter C.prog f i.args .normal) [] (w.forCall tape i)))
  (axz:∀(W:World) (args:Array Value) (b0:Nat) (ds gs:List (DataW H)) (before:List MemPlace),W.ShapedOpen C.prog->(∀(j:Nat) t v,fn.params[j]? =I t->args[j]? =I v->YZ C.prog W .any b0 t v)->
   DataW.Whole enc C.prog fn.params.toList s.vars apart W args.toList ds gs before->X W args->
   Calls C.prog f args W λe W'=>∃v,e= .returned v/\s.post enc C.prog fn apart fresh handsOn again W args v W'):
  ReturnsInHanded a C os f .any (λw args=>(s.pre enc C.prog fn conds apart w args/\X w args)/\sizedMet enc C.prog fn (Ye s) apart w args) (s.post enc C.prog fn apart fresh handsOn again):=by
 refine returnsInHanded_of_calls own started ayA witness ?_;intro w tape i _ hsh _ hok azg _;obtain⟨_,_,_,fn',azA,_,_,_,_,MF⟩:=hok;have e:fn'=fn:=Ei<|azA.symm.trans hfn;subst e;obtain⟨⟨⟨ds,gs,before,hw,_⟩,hx⟩,_⟩:=azg;refine(axz (w.forCall tape i) i.args _ ds gs before hsh MF (DataW.Whole.of_heap (w':=w.forCall tape i) (by rfl) hw)<|hX _ _ _ (by rfl) hx).mono λe W' ⟨v,he,hp⟩=> ?_;subst he;exact ChangeSpec.post_blind hp
end Go.VS
end
