/- Part 9. -/
import Derived.Tactics
import Derived.Test.YtplahhbealfpcaaGreatDoorQAH
open Array renaming getD_eq_getD_getElem?->TU,getElem?_append_left->M0,getElem?_eq_some_iff->Gw,getElem?_toList->TR,length_toList->Ep,replicate->QU,size_append->Qg,size_replicate->lS
open Bool renaming and_eq_true->AE,false->A3,false_eq_true->HX,not_eq_true'->CL,not_eq_true->GD,or_eq_false_iff->NC,or_eq_true->CB,true->A0
open Classical renaming choose->ND,choose_spec->Ig
open Decidable renaming decide->A1
open Go.Calls renaming mono->M9
open Go.Code renaming region->Qd
open Go.Instr renaming loadAt->NE,sureAddr->JG
open Go.Region renaming wanted->JJ
open Go.Result renaming andThen_ok->Eo
open Go.Sem renaming run_bind->Ea,run_pure->FV
open Go.Value renaming pointer->NK
open Go.World renaming cell?_of_block->Te
open List renaming all_cons->Ox,all_eq_true->C0,any_eq_true->Gz,append_assoc->Bw,append_nil->CM,cons_append->Ko,drop_eq_getElem_cons->TP,drop_eq_nil_of_le->Ly,drop_zero->Ib,eq_nil_of_length_eq_zero->E6,filterMap_append->Lz,filterMap_cons->l7,getD_eq_getElem?_getD->B9,getElem?_append_left->I9,getElem?_append_right->FG,getElem?_eq_none->HV,getElem?_eq_none_iff->YY,getElem?_eq_some_iff->BL,getElem?_map->D2,getElem?_of_mem->aBc,length_append->Ar,length_cons->Bt,mapM_cons->TW,map_append->Es,map_congr_left->GS,map_cons->DP,mem_append->BM,mem_append_left->Bq,mem_append_right->CK,mem_cons->Bj,mem_cons_of_mem->Am,mem_cons_self->Ap,mem_filterMap->G9,mem_map->DE,mem_of_getElem?->Cb,mem_range->DD,mem_singleton->C9,nodup_append->Kw,nodup_cons->Ks,pairwise_cons->P2,pairwise_lt_range->Qa,range->BJ,range_succ->Ku,reverse_reverse->lT,size_toArray->Kn,sublist_append_right->YZ
open List.Perm renaming append_left->Ya
open List.Sublist renaming refl->Er
open List.cons renaming injEq->M3
open Nat renaming add_assoc->D3,add_comm->NA,add_mul->E8,beq->Ag,beq_eq->H4,ble->Dp,le_add_right->Ye,le_of_ble_eq_true->DX,le_refl->As,le_trans->Ca,lor->BI,lt_of_lt_of_le->Ga,mul_le_mul_right->Dv,ne_of_lt->P4,sub_zero->JN,zero_add->DF,zero_le->Cu,zero_mul->Tf
open Option renaming bind_eq_some_iff->Aj,bind_some->A9,map_eq_some_iff->D4,none->U,some->I
open Option.some renaming inj->C8
open Prod.mk renaming injEq->CG
set_option linter.all false
noncomputable section
namespace Go.VS
open Go
section
variable {C:Cx} {B:Ba} {ops:Array Oper} {stk:List (Array Value)} {s s' s0:S} {b b0:Nat} {Ω:Type} {q:Ω}
def aqq{m:DU}{d:Option Nat}{as:List AV}{k:S->Option Ω}:HN m s b d as k=(HN m s b d as I).bind k:=by
 unfold HN;simp only;split
 .rename_i x hx hn;cases m.g x with
  | none=>rfl
  | some r=>
   simp only[A9];split
   .rfl
   .rfl
 .rfl
def SR{r:PR}{f:AV->List Ob->S}{k:S->Option Ω}:(match r with
   | some (q,v,os)=>if q then k (f v os) else U
   | none=>U)=(match r with
   | some (q,v,os)=>if q then I (f v os) else U
   | none=>U).bind k:=by
 cases r with
 | none=>rfl
 | some r=>obtain⟨q,v,os⟩:=r;cases q<;>rfl
def aCR{o:Oper}{k:S->Option Ω}(inl:Inl Ω)(hi:∀f c,o.op= .call c->c.callee= .value (.func f)->C.Γ f o.dst=U->∀d as s k,inl f d as s k=U):
  CE C inl o b s k=(CE C (AF S) o b s I).bind k:=by
 unfold CE;split
 .rfl
 generalize ho:o.op=op at *;cases op
 case store t p x=>
  simp only;split<;>rfl
 case call c=>
  simp only;split
  .rename_i f hf;split
   .exact aqq
   .rename_i hm;rw[hi f c rfl hf hm];rfl
  .split
   .split<;>rfl
   .rfl
  .split<;>rfl
  .first|rfl|exact SR (k:=k) (f:=λv os=>({ s with H:=Ef s.H b os } :S).put o.dst v)
 case slice t x lo hi mx=>
  cases mx with
  | some m=>
   simp only
   first|rfl|exact SR (k:=k) (f:=λv os=>({ s with H:=Ef s.H b os } :S).put o.dst v)
  | none=>
   simp only;split
   .split
    .rfl
    .split
     .split<;>rfl
     .rfl
   .first|rfl|exact SR (k:=k) (f:=λv os=>({ s with H:=Ef s.H b os } :S).put o.dst v)
 case buildSlice t n ps=>
  simp only;generalize (Kc s.ev ps.toList).foldl S.freeze s=s3;exact SR (k:=k) (f:=λv os=>({ s3 with H:=Ef s3.H b os } :S).put o.dst v)
 all_goals (simp only;first|rfl|exact SR (k:=k) (f:=λv os=>({ s with H:=Ef s.H b os } :S).put o.dst v))
def auy{o:Oper}{k:S->Option Ω}:evG C (Yx Ω) ops o b s k=(ev1 C ops o b s).bind k:=by
 have h:∀b s,∀k:S->Option Ω,CE C (Yx Ω) o b s k=(CE C (AF S) o b s I).bind k:=λb s k=>aCR _ λ_ _ _ _ _ _ _ _ _=>rfl;unfold ev1 evG;split
 .exact h _ _ _
 .split
  .rfl
  .split
   .split
    .split<;>rfl
    .rfl
   .rfl
  .split
   .rename_i c _;simp only[h];cases hh:s.has o.dst<;>(split<;>split<;>rfl)
   .split<;>rfl
   .rfl
def ZR(C:Cx)(ops:Array Oper):List Rec->S->S->Prop
 | [],s,s'=>s=s'
 | r::l,s,s'=>∃s1,ev1 C ops r.o r.b s=I s1/\((Dt C s r.o=U->r.W=r.F/\ ∀i∈JD C s r.o,Mm r.K i)/\(∀l,Dt C s r.o=I l->∀i∈l,Mm r.W i/\Mm r.K i)/\ ∀id,Mm (nm r.b) id->Mm r.K id)/\vOf s1 r.o.dst=I r.V/\ZR C ops l s1 s'
def kE{k:S->Option Ω}:∀(l:List Oper) (i b:Nat) (acc:List Rec) (s:S),evD C ops s0 l i b acc s k=I q->CN C ops s0 b0 acc->i=acc.length->b=b0+16 * i->(∀j,l[j]? =ops[i+j]?)->
  ∃rs s',ZR C ops rs s s'/\CN C ops s0 b0 (rs.reverse++acc)/\rs.length=l.length/\k { s' with nid:=b0+16 * (i+l.length) } =I q
 | [],i,b,acc,s,h,hg,hi,hb,hl=>⟨[],s,rfl,hg,rfl,by
   have h:k { s with nid:=b } =I q:=h;rw[hb]at h;exact h⟩
 | o::l,i,b,acc,s,h,hg,hi,hb,hl=>by
  unfold evD at h;split at h
  .cases h
  rename_i r hr;split at h
  .rename_i hc;rw[auy]at h;obtain⟨s1,h1,h⟩:=Aj.1 h;obtain⟨V,hV,h⟩:=Aj.1 h;simp only[AE,C0]at hc;unfold ab9 at hr;obtain⟨anc,ha,hr⟩:=Aj.1 hr;obtain⟨ids,PQ,hr⟩:=Aj.1 hr;obtain⟨c,hcl,hr⟩:=Aj.1 hr;simp only at hr;split at hr
   case h_2=>cases hr
   rename_i az1;have hr:=(C8 hr).symm;have ho:ops[i]? =I o:=by simpa using (hl 0).symm
   have hg':CN C ops s0 b0 ({ r with V:=V } ::acc):=by
    refine⟨hg, ?_, ?_, ?_, ?_,⟨ids,c, ?_,hcl, ?_⟩, ?_,λx hx=>hc.1.1 x hx, ?_, ?_⟩<;>rw[hr]
    .exact hi
    .show b=_;rw[hb,hi]
    .exact ho
    .exact ha
    .exact PQ
    .have gen:∀F0:Nat,(mvO o=A3/\(match mvO o with
       | true=>BI (msk ids) (nm b)
       | false=>F0)=F0/\(((match mvO o with
       | true=>nm b
       | false=>match pur o,o.guard with
        | true,U=>BI (msk ids) (nm b)
        | _,_=>(match mvO o with
         | true=>BI (msk ids) (nm b)
         | false=>F0))=BI (msk ids) (nm b)/\pur o=A0/\o.guard=U)\/(match mvO o with
       | true=>nm b
       | false=>match pur o,o.guard with
        | true,U=>BI (msk ids) (nm b)
        | _,_=>(match mvO o with
         | true=>BI (msk ids) (nm b)
         | false=>F0))=(match mvO o with
       | true=>BI (msk ids) (nm b)
       | false=>F0)))\/(mvO o=A0/\(match mvO o with
       | true=>BI (msk ids) (nm b)
       | false=>F0)=BI (msk ids) (nm b)/\(match mvO o with
       | true=>nm b
       | false=>match pur o,o.guard with
        | true,U=>BI (msk ids) (nm b)
        | _,_=>(match mvO o with
         | true=>BI (msk ids) (nm b)
         | false=>F0))=nm b):=by
      intro F0;cases hmv:mvO o with
      | true=>exact .inr ⟨rfl,rfl,rfl⟩
      | false=>
       refine .inl ⟨rfl,rfl, ?_⟩;cases hpu:pur o with
       | false=>exact .inr rfl
       | true=>
        cases hgu:o.guard with
        | none=>exact .inl ⟨rfl,rfl,rfl⟩
        | some x=>exact .inr rfl
     exact gen _
    .refine⟨az1,λid hid=> ?_⟩;show Mm (match Dt C s o with
      | none=>_
      | some l=>BI (msk l) (nm b)) id
     cases Dt C s o with
     | none=>
      show Mm (match mvO o with
       | true=>BI (msk ids) (nm b)
       | false=>_) id
      cases mvO o with
      | false=>
       refine SU _ _ id ?_;show(BI _ _).testBit id=A0;rw[EP,show(nm b).testBit id=A0 from hid];simp
      | true=>
       show(BI _ _).testBit id=A0;rw[EP,show(nm b).testBit id=A0 from hid];simp
     | some l=>
      show(BI _ _).testBit id=A0;rw[EP,show(nm b).testBit id=A0 from hid];simp
    .exact hc.1.2
    .exact hc.2
   obtain⟨rs,s',k1,k2,k3,k4⟩:=kE l (i+1) (b+16) _ s1 h hg' (by simp[hi]) J (λj=>by
    have:=hl<|j+1;simpa[D3,NA 1 j] using this)
   refine⟨{ r with V:=V } ::rs,s',⟨s1, ?_, ?_, ?_,k1⟩, ?_,by simp[k3], ?_⟩
   .rw[hr];exact h1
   .rw[hr];refine⟨λhe=>⟨?_,λj hj=> ?_⟩,λl he j hj=> ?_,λid hid=> ?_⟩
    .have he:Dt C s o=U:=he;show(match Dt C s o with
      | none=>_
      | some l=>BI (msk l) (nm b))=_
     rw[he]
    .have he:Dt C s o=U:=he;show Mm (match Dt C s o with
      | none=>BI (msk<|JD C s o) (nm b)
      | some l=>BI (msk l) (nm b)) j
     rw[he];show(BI _ _).testBit j=A0;rw[EP,Mv.2 hj];rfl
    .have he:Dt C s o=I l:=he;have key:Mm (BI (msk l)<|nm b) j:=by
      show(BI _ _).testBit j=A0;rw[EP,Mv.2 hj];rfl
     constructor
     .show Mm (match Dt C s o with
       | none=>_
       | some l=>BI (msk l) (nm b)) j
      rw[he];exact key
     .show Mm (match Dt C s o with
       | none=>_
       | some l=>BI (msk l) (nm b)) j
      rw[he];exact key
    .show Mm (match Dt C s o with
      | none=>BI (msk<|JD C s o) (nm b)
      | some l=>BI (msk l) (nm b)) id
     have hid:(nm b).testBit id=A0:=hid;cases Dt C s o with
     | none=>
      show(BI _ _).testBit id=A0;rw[EP,hid];simp
     | some l=>
      show(BI _ _).testBit id=A0;rw[EP,hid];simp
   .rw[hr];exact hV
   .simpa using k2
   .rw[show i+(o::l).length=i+1+l.length by simp;omega];exact k4
  .cases h
def aBG{acc:List Rec}:∀ {ts l:List Nat},ZJ s0 acc ts=I l->∀t∈ts,∃a,(match Qq t acc with
  | some r=>I r.V
  | none=>Tv (s0.T t))=I a/\ ∀i∈a,i∈l
 | [],_,_,t,ht=>by cases ht
 | t0::ts,l,h,t,ht=>by
  obtain⟨a,h1,h⟩:=Aj.1 h;obtain⟨b,h2,h⟩:=Aj.1 h;cases h;rcases Bj.1 ht with rfl|ht
  .exact⟨a,h1,λi hi=>Bq _ hi⟩
  .obtain⟨a',h3,h4⟩:=aBG h2 t ht;exact⟨a',h3,λi hi=>CK _<|h4 i hi⟩
def CN.fit{acc:List Rec}(h:CN C ops s0 b0 acc)(hn:acc.length=ops.size)(hfr:∀j,b0<=j->s0.H j=U){i:Nat}:Fit ops (Bv acc b0) (BJ ops.size) s0 i:=by
 intro o ho;obtain⟨r,hr,hi,rfl,fi⟩:=h.op hn ho;have e1:(Bv acc b0).F i=Mm r.F:=by funext id;simp only[Bv,fi]
 have e2:(Bv acc b0).N i=Mm r.N:=by funext id;simp only[Bv,fi]
 rw[e1,e2];have hNF:=h.N_F hr;refine⟨λt ht hd=> ?_,λid ob hid ho=> ?_,λid h1 _=>hfr id (by simp only[Bv]at h1;omega)⟩
 rotate_left
 .cases hmv:mvO r.o with
  | false=>exact h.closed hfr r hr hmv id ob (hNF id hid) ho
  | true=>
   exfalso;obtain⟨H9,hg,_⟩:=h.mem r hr;obtain⟨_,k1,k2,_,_,⟨l,c,h1,h2,h3⟩,_⟩:=hg;obtain h3|h3:=h3
   .rw[hmv]at h3;cases h3.1
   .rw[h3.2.2]at hid;have:=Li.1 hid;rw[hfr id J]at ho;cases ho
 obtain⟨H9,hg,LC,_,hlt⟩:=h.mem r hr;obtain⟨_,_,_,_,_,⟨l,c,h1,h2,h3⟩,_⟩:=hg;obtain⟨a,h4,h5⟩:=aBG h1 t ht;cases hf:Qq t H9 with
 | some r'=>
  obtain⟨hm,aA⟩:=aCN hf;have hm':=LC r' hm;obtain⟨aEN,hg2,_⟩:=h.mem r' hm';have ho':=hg2.2.2.2.1;have hR:(Bv acc b0).R r'.i i:=by
   have Zy:=hlt r' hm;have hc:=h.chk hm' hr J;simp only[VS.chk,AE]at hc;simp only[Bv,fi];cases hT:tst r.anc r'.i with
   | true=>exact mC.1 hT
   | false=>
    rw[hT]at hc;obtain⟨_,hc⟩:=hc;simp only[AE]at hc;exact absurd ht<|XQ hc.1.2 t aA
  exact absurd aA<|hd r'.i (DD.2 (Gw.1 ho').1) hR r'.o ho'
 | none=>
  rw[hf]at h4;obtain⟨_,h3,h6⟩|⟨hmv,h3,h6⟩:=h3
  .have abp:InA (Mm r.F) (s0.T t):=YP h4 λj hj=>by
    rw[h3];refine SU _ _ j ?_;show(BI _ _).testBit j=A0;rw[EP,(Xv 4 l h2).1 j<|h5 j hj];rfl
   refine⟨abp,.inr ?_⟩;obtain h6|h6:=h6
   .refine YP h4 λj hj=> ?_;rw[h6.1];show(BI _ _).testBit j=A0;rw[EP,Mv.2<|h5 j hj];rfl
   .rw[h6];exact abp
  .simp only[mvO,AE]at hmv;refine⟨YP h4 λj hj=> ?_,.inl hmv.1.1⟩;rw[h3];show(BI _ _).testBit j=A0;rw[EP,Mv.2<|h5 j hj];rfl
def ic{acc:List Rec}(h:CN C ops s0 b0 acc)(hn:acc.length=ops.size):∀(rs:List Rec) (s s':S),ZR C ops rs s s'->(∀r∈rs,r∈acc)->(rs.map (·.i)).Pairwise (· < ·)->
  (∀r∈rs,Fit ops (Bv acc b0) (rs.map (·.i)) s r.i)->Run C ops (Bv acc b0) (rs.map (·.i)) s s'
 | [],s,s',hc,_,_,_=>by
  cases hc;exact .nil
 | r::rs,s,s',⟨s1,h1,h2,h3,h4⟩,hm,hp,hf=>by
  have hr:=hm r Ap;obtain⟨H9,hg,_⟩:=h.mem r hr;have ho:=hg.2.2.2.1;have hok:=hg.2.2.2.2.2.2.2.2.1;have hb:=(h.MM hr).1;have hrb:r.i<acc.length:=h.lt r hr;have fi:=h.find r hr;have nice:=h.nice hn;obtain⟨f1,f2,f3⟩:=hf r Ap r.o ho;have eb:(Bv acc b0).b r.i=r.b:=hb.symm;have hp':=P2.1 hp;have ac6:∀t∈DB ops r.o,InA ((Bv acc b0).F r.i) (s.T t)/\(mov r.o.op=A0\/InA ((Bv acc b0).N r.i) (s.T t)):=λt ht=>f1 t ht λj hj hR oj hoj e=>by
   have hlt:=nice.lt _ _ hR;rcases Bj.1 hj with e'|hj
   .have e':j=r.i:=e';omega
   .have h9:r.i<j:=hp'.1 j hj;omega
  have hrd:=λt ht=>(ac6 t ht).1;obtain⟨h21,h22,h23⟩:=h2;have hKn:∀j,r.b<=j->j<r.b+16->(Bv acc b0).K r.i j:=λj k1 k2=>by
   simp only[Bv,fi];exact h23 j<|Li.2 ⟨k1,k2⟩
  have hWn:∀j,r.b<=j->j<r.b+16->(Bv acc b0).W r.i j:=λj k1 k2=>nice.NW r.i j (by rw[eb];exact k1) (by rw[eb];exact k2);have hWF:∀id,Mm r.W id->Mm r.F id:=λid hid=>Se (h.MM hr).2.2.1 id hid;have hKW:∀id∈JD C s r.o,Mm r.F id:=λid hid=>by
   obtain⟨_,_,_,_,_,⟨l,c,_,_,h3⟩,_⟩:=hg;have hop:∀x∈r.o.op.operands,InA ((Bv acc b0).F r.i) (s.ev x):=λx hx=>by
    cases x with
    | tmp t=>exact hrd t<|Bq _<|SI hx
    | const v=>exact Yw v
    | _=>exact .of1 trivial
   have aba:pur r.o=A0->False:=λhp=>by
    unfold pur at hp;unfold JD at hid;cases ho2:r.o.op<;>rw[ho2]at hp hid<;>first|(cases hid;done)|(cases hp;done)
   obtain⟨_,_,h6|h6⟩|⟨hmv,_⟩:=h3
   .exact(aba h6.2.1).elim
   rotate_left
   .simp only[mvO,AE]at hmv;exact(aba hmv.1.2).elim
   .have hcl:DS ((Bv acc b0).F r.i) s.H:=λid ob hid ho=>f2 id ob (by simp only[Bv,fi]at hid ⊢; rw[h6];exact hid) ho;have:=avG hop hcl hid;simp only[Bv,fi]at this;exact this
  obtain⟨g,v,es,a1,a2,a3,a4,a5⟩:=avD (F:=(Bv acc b0).F r.i) (N:=(Bv acc b0).N r.i) (WS:=λe=>(Bv acc b0).W r.i e.id/\(e.fk= .no\/(Bv acc b0).K r.i e.id)) hok hrd f2
   (λj k1 k2=>nice.WF _ _<|hWn j k1 k2) (λe k1 k2=>⟨hWn _ k1 k2,.inr<|hKn _ k1 k2⟩)
   ⟨λhe=>⟨λe hF hfk=>⟨by
     simp only[Bv,fi]at hF ⊢;rw[(h21 he).1];exact hF,.inl hfk⟩,λe hk=>⟨by
     simp only[Bv,fi];rw[(h21 he).1];exact hKW _ hk,.inr (by simp only[Bv,fi];exact(h21 he).2 _ hk)⟩⟩,
    λl he e hl=>⟨by simp only[Bv,fi];exact(h22 l he _ hl).1,.inr (by simp only[Bv,fi];exact(h22 l he _ hl).2)⟩⟩
   (by
    obtain⟨_,_,_,_,_,⟨l,c,_,_,h3⟩,_⟩:=hg;obtain⟨_,_,h6|h6⟩|⟨hmv,_⟩:=h3
    .refine .inl ⟨h6.2.1,h6.2.2, ?_⟩;cases hmo:mov r.o.op with
     | true=>exact .inl rfl
     | false=>exact .inr λt ht=>(ac6 t ht).2.resolve_left λh=>by rw[hmo]at h;cases h
    rotate_left
    .simp only[mvO,AE]at hmv;exact .inl ⟨hmv.1.2,by simpa using hmv.2,.inl hmv.1.1⟩
    .refine .inr λid hid=> ?_;simp only[Bv,fi]at hid ⊢;rw[h6];exact hid) h1
  have hst:Stp C ops r.o ((Bv acc b0).b r.i) ((Bv acc b0).F r.i) ((Bv acc b0).N r.i) ((Bv acc b0).W r.i) ((Bv acc b0).K r.i) ((Bv acc b0).V r.i) s s1:=by
   rw[eb];refine⟨g,v,es,a1,λt ht=> ?_,a2,a3,a4,a5⟩;rw[ht]at h3;have:s1.T t=v:=by rw[a4,ZL,A8 ht]
   rw[← this];refine YP (show Tv (s1.T t)=I r.V from h3) λj hj=> ?_;simp only[Bv,fi];exact hj
  refine .cons ho hst (ic h hn rs s1 s' h4 (λx hx=>hm x<|Am _ hx) hp'.2 λx hx=> ?_);have hxi:r.i<x.i:=hp'.1 x.i<|DE.2 ⟨x,hx,rfl⟩;exact(hf x<|Am _ hx).step nice ho (P4 hxi) (λhR=>by have:=nice.lt _ _ hR;omega) hst λj hj=>by
   rcases Bj.1 hj with e|hj
   .exact .inl e
   .exact .inr hj
def jD:∀(rs:List Rec) (s s':S) (m:Nat),ZR C ops rs s s'->(∀r∈rs,r.b+16<=m)->BC (λj=>j<m) s s'
 | [],s,s',m,hc,_=>by cases hc;exact BC.refl _ _
 | r::rs,s,s',m,⟨s1,h1,_,_,h4⟩,hb=>by
  have k1:=aCS h1;have hb1:=hb r Ap;have k1':BC (λj=>j<m) s s1:=⟨k1.nid,k1.n,k1.pins,λj hj e=>k1.nn j (λhh=>hj J) e⟩;exact k1'.trans<|jD rs s1 s' m h4 λx hx=>hb x<|Am _ hx
def CN.places:∀ {acc:List Rec},CN C ops s0 b0 acc->acc.reverse.map (·.i)=BJ acc.length
 | [],_=>rfl
 | r::acc,h=>by
  rw[List.reverse_cons,Es,CN.places h.1,Bt,Ku];simp[h.2.1]
def asR(hP:C.P=B.P)(hm:B.P.follows .mixedOrders=A0)(hC:HE C B){k:S->Option Ω}(he:evD C ops s ops.toList 0 s.nid [] s k=I q)(hfr:Fr s){β:Beta}{a:Act}{w:World}(hst:St B β stk s a w)
  {id:Nat}{Q:Exit->Act->World->Prop}(hQ:∀β a w s',St B β stk s' a w->Fr s'->s'.n=s.n->s'.pins=s.pins->k s'=I q->Q .normal a w):(Qd id ops A0).wp B.P Q a w:=by
 obtain⟨rs,s',h1,h2,h3,h4⟩:=kE (b0:=s.nid) ops.toList 0 s.nid [] s he trivial rfl rfl (by simp);simp only[CM,DF]at h2 h4;have hn:rs.reverse.length=ops.size:=by simpa using h3
 have hpl:=h2.places;rw[lT,hn]at hpl;have LG:∀j,Fit ops (Bv rs.reverse s.nid) (BJ ops.size) s j:=λj=>h2.fit hn hfr;have CW:=ic h2 hn rs s s' h1 (λr hr=>by simpa using hr) (by rw[hpl];exact Qa) (λr hr=>by rw[hpl];exact LG _);rw[hpl]at CW;have PM:BC (λj=>j<s.nid+16 * ops.toList.length) s s':=jD rs s s' _ h1 λr hr=>by
  have hr':r∈rs.reverse:=by simpa using hr
  have e1:=(h2.MM hr').1;have e2:=h2.lt r hr';rw[hn]at e2;have:ops.toList.length=ops.size:=by simp
  omega
 refine aq7 hP hm hC (h2.nice hn) CW (λj _=>LG j) hst λβ a w h=> ?_;refine hQ β a w { s' with nid:=s.nid+16 * ops.toList.length } ⟨h.T,h.stack,h.n,h.defers,h.pins,h.gs,h.hs⟩ (λj hj=> ?_) PM.n PM.pins h4;have hj:s.nid+16 * ops.toList.length<=j:=hj;exact PM.nn j J<|hfr j J
end
end Go.VS
namespace Go.VS
open Go
def J8(C:Cx)(B:Ba)(inl:(Ω:Type)->Inl Ω):Prop:=∀(Ω:Type) (f:FuncId) (d:Option Nat) (as:List AV) (s:S) (k:S->Option Ω) (q:Ω),inl Ω f d as s k=I q->
 ∀(β:Beta) (stk:List (Array Value)) (a:Act) (w:World) (o:Oper) (args:List Operand) (ts:Array TypeId) (K:Act->World->Prop) (Q:Exit->Act->World->Prop),
 St B β stk s a w->Fr s->s.has d=A0->o.dst=d->as=args.map s.ev->o.op= .call { callee:= .value<|.func f,args:=args.toArray,argTypes:=ts } ->
 (∀β' u w' s',St B β' stk s' (a.put d u) w'->Fr s'->s'.n=s.n->s'.pins=s.pins->k s'=I q->K (a.put d u) w')->o.wp B.P a w K Q
def aDo(C:Cx)(B:Ba):J8 C B AF:=by
 intro Ω f d as s k q h;cases h
section
variable {C:Cx} {B:Ba} {ops:Array Oper} {stk:List (Array Value)} {s s':S} {Ω:Type} {q:Ω} {β:Beta} {a:Act} {w:World} {inl:(Ω:Type)->Inl Ω}
def mm(C:Cx)(o:Oper):Prop:=∃f c,o.op= .call c/\c.callee= .value (.func f)/\C.Γ f o.dst=U
def asQ{o:Oper}{b:Nat}{k:S->Option Ω}(hn:¬mm C o):evG C (inl Ω) ops o b s k=(ev1 C ops o b s).bind k:=by
 have h:∀b s,∀k:S->Option Ω,CE C (inl Ω) o b s k=(CE C (AF S) o b s I).bind k:=λb s k=>aCR _ λf c h1 h2 h3=>absurd ⟨f,c,h1,h2,h3⟩ hn;unfold ev1 evG;split
 .exact h _ _ _
 .split
  .rfl
  .split
   .split
    .split<;>rfl
    .rfl
   .rfl
  .split
   .rename_i c _;simp only[h];cases hh:s.has o.dst<;>(split<;>split<;>rfl)
   .split<;>rfl
   .rfl
def aDW(hI:J8 C B inl){o:Oper}{b:Nat}{k:S->Option Ω}(hin:mm C o)(he:CE C (inl Ω) o b s k=I q)(hst:St B β stk s a w)(hfr:Fr s){K:Act->World->Prop}{Q:Exit->Act->World->Prop}
  (hK:∀β' u w' s',St B β' stk s' (a.put o.dst u) w'->Fr s'->s'.n=s.n->s'.pins=s.pins->k s'=I q->K (a.put o.dst u) w'):o.wp B.P a w K Q:=by
 obtain⟨f,c,h1,h2,h3⟩:=hin;obtain⟨cal,⟨args⟩,⟨tys⟩⟩:=c;simp only at h2;subst h2;unfold CE at he;split at he
 .cases he
 rename_i hd;simp only[h1,h3]at he;exact hI Ω f o.dst _ s k q he β stk a w o args ⟨tys⟩ K Q hst hfr hd rfl rfl h1 hK
def aDv(hP:C.P=B.P)(hC:HE C B)(hI:J8 C B inl){i:Nat}{o:Oper}(hi:ops[i]? =I o){k:S->Option Ω}(he:evG C (inl Ω) ops o s.nid s k=I q)(hst:St B β stk s a w)(hfr:Fr s){K:Act->World->Prop}{Q:Exit->Act->World->Prop}
  (hK:∀β' u w' s',St B β' stk s' (a.put o.dst u) w'->(∀j,s'.nid+16<=j->s'.H j=U)->s'.n=s.n->s'.pins=s.pins->k s'=I q->K (a.put o.dst u) w'):wpOp B.P ops Q i K a w:=by
 by_cases hin:mm C o
 .have hK':∀s1:S,s1.n=s.n->s1.pins=s.pins->∀β' u w' s',St B β' stk s' (a.put o.dst u) w'->Fr s'->s'.n=s1.n->s'.pins=s1.pins->k s'=I q->K (a.put o.dst u) w':=
   λs1 e1 e2 β' u w' s' k1 k2 k3 k4 k5=>hK β' u w' s' k1 (λj hj=>k2 j J) (k3.trans e1) (k4.trans e2) k5
  unfold wpOp;simp only[hi];unfold evG at he;split at he
  .rename_i hg;have hw:JJ o (yielded ops a.tmps)=A0:=by simp[JJ,hg]
   rw[A8 hw];exact .inl (aDW hI hin he hst hfr<|hK' s rfl rfl)
  .rename_i j want hg;have hwd:JJ o (yielded ops a.tmps)=(yielded ops a.tmps j == I want):=by simp[JJ,hg]
   rw[hwd];split at he
   .cases he
   .rename_i g hgd hsp;split at he
    .rename_i qq v EN hv;obtain⟨f,c,h1,h2,h3⟩:=hin;obtain⟨cal,⟨args⟩,⟨tys⟩⟩:=c;simp only at h2;subst h2;simp only[h1,spA,h3]at hv;cases hv
    .cases he
   .rename_i g hgd hsp;split at he
    .rename_i c hT;have htg:BY a g= .bool c:=by have:=hst.T g;rw[hT]at this;exact this
     have hy:yielded ops a.tmps j=I c:=fX hgd htg;rw[hy];have hn:∀w0:Bool,c=w0->St B β stk { s with T:=upd s.T g (.b w0) } a w:=by
      intro w0 e;subst e;rw[show({ s with T:=upd s.T g (.b c) } :S)=s by rw[aaA _ _ _ hT]];exact hst
     have yes:CE C (inl Ω) o s.nid { s with T:=upd s.T g (.b want) } k=I q->c=want->
       (if(I c == I want)=A0 then o.wp B.P a w K Q\/(o.asks B.P a w/\LetsOut Q) else K (a.put o.dst undef) w):=by
      intro he e;rw[A8<|by simp[e]];exact .inl<|aDW hI hin he (hn want e) hfr<|hK' _ rfl rfl
     have no:(match s.has o.dst with
       | true=>k (({ s with T:=upd s.T g (.b<|!want) } :S).put o.dst Dk)
       | false=>U)=I q->c= !want->
       (if(I c == I want)=A0 then o.wp B.P a w K Q\/(o.asks B.P a w/\LetsOut Q) else K (a.put o.dst undef) w):=by
      intro he e;rw[AD (by subst e;cases want<;>simp)];split at he
      .rename_i EN;refine hK β undef w _ ((hn (!want) e).put (by exact EN) (v:=Dk) (u:=undef) rfl (λg' w1 x e=>by cases e)) (λj hj=> ?_) ?_ ?_ he
       .have:=hfr j (by cases hod:o.dst<;>rw[hod]at hj<;>exact Ca (Ye _ 16) hj);cases o.dst<;>exact this
       .cases o.dst<;>rfl
       .cases o.dst<;>rfl
      .cases he
     cases want<;>cases c<;>simp only[A5,if_false,HX]at he
     .exact yes he rfl
     .exact no he rfl
     .exact no he rfl
     .exact yes he rfl
    .rename_i vs hT;have htg:BY a g= .tuple vs:=by have:=hst.T g;rw[hT]at this;exact this
     have hy:¬(yielded ops a.tmps j == I want)=A0:=by
      intro e;have:=fW hgd (show yielded ops a.tmps j=I want by simpa using e);rw[htg]at this;cases this
     rw[AD hy];split at he
     .rename_i EN;refine hK β undef w _ (hst.put EN (v:=Dk) (u:=undef) rfl (λg' w1 x e=>by cases e)) (λj hj=> ?_) ?_ ?_ he
      .have:=hfr j (by cases hod:o.dst<;>rw[hod]at hj<;>exact Ca (Ye _ 16) hj);cases o.dst<;>exact this
      .cases o.dst<;>rfl
      .cases o.dst<;>rfl
     .cases he
    .cases he
 .rw[asQ hin]at he;obtain⟨s1,h1,h2⟩:=Aj.1 he;have hk:=aCS h1;refine ko hP hC hi hst (λj hj _=>hfr j hj) h1 λβ' u w' h=>hK β' u w' s1 h (λj hj=>hk.nn j (λhh=> ?_)<|hfr j ?_) hk.n hk.pins h2
  .rw[hk.nid]at hj;omega
  .rw[hk.nid]at hj;omega
def aCQ(hP:C.P=B.P)(hC:HE C B)(hI:J8 C B inl){k:S->Option Ω}{Q:Exit->Act->World->Prop}{n:Nat}{p:List Nat}
  (hQ:∀β a w s',St B β stk s' a w->Fr s'->s'.n=n->s'.pins=p->k s'=I q->Q .normal a w):∀(l:List Oper) (i:Nat) (s:S) (β:Beta) (a:Act) (w:World),(∀j,l[j]? =ops[i+j]?)->
  Ot C (inl Ω) ops l s k=I q->St B β stk s a w->Fr s->s.n=n->s.pins=p->wpOps B.P ops Q (List.range' i l.length) a w
 | [],i,s,β,a,w,_,he,hst,hfr,hn,hp=>hQ β a w s hst hfr hn hp he
 | o::l,i,s,β,a,w,hl,he,hst,hfr,hn,hp=>by
  rw[Bt,List.range'_succ,wpOps_cons];have ho:ops[i]? =I o:=by simpa using (hl 0).symm
  refine aDv hP hC hI ho (show evG C (inl Ω) ops o s.nid s (λs=>Ot C (inl Ω) ops l { s with nid:=s.nid+16 } k)=I q from he) hst hfr ?_;intro β' u w' s' h1 h2 h3 h4 h5;exact aCQ hP hC hI hQ l (i+1) { s' with nid:=s'.nid+16 } β' _ w' (λj=>by
   have:=hl<|j+1;simpa[D3,NA 1 j] using this) h5 ⟨h1.T,h1.stack,h1.n,h1.defers,h1.pins,h1.gs,h1.hs⟩ h2 (h3.trans hn) (h4.trans hp)
def aAP(hP:C.P=B.P)(hC:HE C B)(hI:J8 C B inl){k:S->Option Ω}(he:Ot C (inl Ω) ops ops.toList s k=I q)(hfr:Fr s)(hst:St B β stk s a w)
  {id:Nat}{Q:Exit->Act->World->Prop}(hQ:∀β a w s',St B β stk s' a w->Fr s'->s'.n=s.n->s'.pins=s.pins->k s'=I q->Q .normal a w):(Qd id ops A3).wp B.P Q a w:=by
 refine wp_region ?_;have:=aCQ hP hC hI hQ ops.toList 0 s β a w (by simp) he hst hfr rfl rfl;rw[List.range_eq_range',← Ep];exact this
end
end Go.VS
namespace Go.VS
open Go
def Imm(w:World)(M:Nat->Prop)(c:AV)(v:Value):Prop:=∀β:Beta,(∀b,MZ β b->M b)->RC w β c v
mutual
def Rel (P:Program) (w:World) (M:Nat->Prop) (e:Nat->Value):(h:Sh)->LT h->Value->List (Value×Nat)->Prop
 | .int k,n,v,os=>v= .int k n/\os=[]
 | .bool,x,v,os=>v= .bool x/\os=[]
 | .str,s,v,os=>v= .string s/\os=[]
 | .sl k,xs,v,os=>Imm w M (.sl k xs) v/\os=[]
 | .fz k,xs,v,os=>Imm w M (.sl k xs) v/\os=[]
 | .row t k,xs,v,os=>os=[(v,xs.length)]/\R0 v=A0/\ ∀β:Beta,(∀b,MZ β b->M b)->FL w β t A3 k xs v
 | .CV t k,xs,v,os=>os=[(v,xs.length)]/\R0 v=A0/\ ∀β:Beta,(∀b,MZ β b->M b)->FL w β t A0 k xs v
 | .abx t k,xs,v,os=>os=[(v,xs.length)]/\1<=xs.length/\ ∃b us,v= .pointer (I ⟨b,0,U⟩)/\w.heap[b]? =I (.cells us t (0,0))/\us.size=xs.length * ks k/\us.size=P.cellsOf t/\
   (∀β:Beta,(∀b,MZ β b->M b)->∀i x j c u,xs[i]? =I x->(enc k x)[j]? =I c->us[i * ks k+j]? =I u->RC w β c u)
 | .arr k,xs,v,os=>os=[]/\ ∀β:Beta,(∀b,MZ β b->M b)->R1 w β (.arr k xs) v
 | .same t,_,v,os=>os=[]/\v=e t/\v.oneCell'=A0
 | .agg l,x,v,os=>∃us:List Value,v= .agg us.toArray/\CX P w M e l x us os
 | .box t l,x,v,os=>∃b us os',v= .pointer (I ⟨b,0,U⟩)/\w.heap[b]? =I (.cells us t (0,0))/\CX P w M e l x us.toList os'/\os=os'++[(v,1)]
def CX (P:Program) (w:World) (M:Nat->Prop) (e:Nat->Value):(l:List Sh)->LTs l->List Value->List (Value×Nat)->Prop
 | [],_,us,os=>us=[]/\os=[]
 | h::l,x,us,os=>∃u us' o1 o2,us=u::us'/\os=o1++o2/\Rel P w M e h x.1 u o1/\CX P w M e l x.2 us' o2
end
def HH(p:Value×Nat):Option Nat:=(adr p.1).map (·.block)
abbrev Az(os:List (Value×Nat)):List Nat:=os.filterMap HH
mutual
def Lp:Sh->List Nat
 | .same t=>[t]
 | .agg l=>IT l
 | .box _ l=>IT l
 | _=>[]
def IT:List Sh->List Nat
 | []=>[]
 | h::l=>Lp h++IT l
end
section
variable {B:Ba} {β β':Beta} {H:Hp} {w w':World} {M:Nat->Prop} {E:Nat->AV} {e:Nat->Value}
def RC.RF{c:AV}{v:Value}(h:RC w β c v)(hc:GH c=A0)(hM:∀b,M b->MZ β b):Imm w M c v:=λβ' hβ'=>
 RC.imm (λ_ _ _ _ h=>h) (λb hb _ hm=>hb<|hM b<|hβ' b hm) h hc
def FL.imm{t:TypeId}{fz:Bool}{k:K}{xs:List (Tof k)}{v:Value}(h:FL w β t fz k xs v)(hM:∀b,M b->MZ β b):∀β':Beta,(∀b,MZ β' b->M b)->FL w β' t fz k xs v:=by
 intro β' hβ';obtain h|⟨b,f,cap,us,fr,h1,h2,h3,h4,h5,h6,h7⟩:=h
 .exact .inl h
 .exact .inr ⟨b,f,cap,us,fr,h1,h2,h3,h4,h5,h6,λi x j c u a1 a2 a3=>(h7 i x j c u a1 a2 a3).RF (IM k x a2) hM β' hβ'⟩
def FL.azU{t:TypeId}{fz:Bool}{k:K}{xs:List (Tof k)}{v:Value}(h:FL w β t fz k xs v)(hM:∀b,M b->MZ β b)(hn:∀a,adr v=I a->¬M a.block):Imm w M (.sl k xs) v:=by
 intro β' hβ';obtain⟨rfl,rfl⟩|⟨b,f,cap,us,fr,rfl,hh,hfr,hn',hc,hs,hr⟩:=h
 .exact .nil
 .have Ck:∀i j,i<xs.length->j<ks k->f+(i * ks k+j)<us.size:=by
   intro i j hi hj;have h1:(i+1) * ks k<=cap * ks k:=Dv _ J;rw[E8]at h1;omega
  refine .sl (λi j=>us.getD (f+(i * ks k+j)) undef) ⟨rfl,hn'⟩ (λhm=>hn _ rfl (hβ' _ hm)) (λi j hi hj=> ?_) (λi x j c h2 h3=> ?_)
  .rw[cell_of_row w b _ us t fr hh];have:=Ck i j hi hj;simp[this]
  .have hi:i<xs.length:=(BL.1 h2).1;have hj:j<ks k:=by rw[← EE k x];exact(BL.1 h3).1
   have:=Ck i j hi hj;exact(hr i x j c (us.getD (f+(i * ks k+j)) undef) h2 h3<|by simp[this]).RF (IM k x h3) hM β' hβ'
def R1.lits{v' v:Value}(h:R1 w β (.lit v') v):v=v':=h
def R1.sls{k:K}{xs:List (Tof k)}{v:Value}(h:R1 w β (.sl k xs) v):RC w β (.sl k xs) v:=h
def R1.nr{id:Nat}{v:Value}(h:R1 w β (.own id) v):RC w β (.own id) v:=h
def R1.RE{id z i o:Nat}{v:Value}(h:R1 w β (.ptr id z i o) v):RC w β (.ptr id z i o) v:=h
structure Nn (B:Ba) (β:Beta) (H:Hp) (w:World) (M:Nat->Prop) (E:Nat->AV) (e:Nat->Value):Prop where
 hs:Hs B β H w
 hM:∀b,M b->MZ β b
 hE:∀t id z,E t= .ptr id z 0 0->R1 w β (E t) (e t)
def Qt(β:Beta)(M:Nat->Prop)(ids:List Nat):Prop:=∀i∈ids,∀p a,β i=I p->adr p.1=I a->¬M a.block
def mG(R:Nn B β H w M E e){id:Nat}{t:TypeId}{fz:Bool}{k:K}{xs:List (Tof k)}{v:Value}(hv:RC w β (.own id) v)(hid:H id=I (.row t fz k xs)):
  R0 v=A0/\β id=I (v,xs.length)/\FL w β t fz k xs v:=by
 cases hv with
 | own h hs=>
  obtain⟨hd,h1,h2⟩:=R.hs.EA id _ hid;rw[h]at h1;cases h1;exact⟨hs,h,h2⟩
mutual
theorem kI (R:Nn B β H w M E e):∀(h:Sh) (c:AV) (v:Value) (x:LT h),R1 w β c v->Bl E H h c=I x->Qt β M (Cf H h c)->
  ∃os,Rel B.P w M e h x v os/\Az os=Az ((CQ H h c).filterMap β)
 | .int k,c,v,x,hv,hx,_=>by
  cases c with
  | lit v'=>
   cases v'<;>first|(simp[Bl]at hx;done)|skip
   simp only[Bl]at hx;split at hx
   .rename_i e1;simp at e1;subst e1;cases hx;exact⟨[],⟨hv.lits,rfl⟩,rfl⟩
   .cases hx
  | _=>simp[Bl]at hx
 | .bool,c,v,x,hv,hx,_=>by
  cases c with
  | lit v'=>
   cases v'<;>first|(simp[Bl]at hx;done)|skip
   simp only[Bl]at hx;cases hx;exact⟨[],⟨hv.lits,rfl⟩,rfl⟩
  | _=>simp[Bl]at hx
 | .str,c,v,x,hv,hx,_=>by
  cases c with
  | lit v'=>
   cases v'<;>first|(simp[Bl]at hx;done)|skip
   simp only[Bl]at hx;cases hx;exact⟨[],⟨hv.lits,rfl⟩,rfl⟩
  | _=>simp[Bl]at hx
 | .sl k,c,v,x,hv,hx,_=>by
  cases c with
  | sl k' xs=>
   obtain⟨e1,rfl⟩:=Hn<|show IY k' k xs=I x from hx;subst e1;exact⟨[],⟨hv.sls.RF rfl R.hM,rfl⟩,rfl⟩
  | lit v'=>
   cases v' with
   | slice a n cap=>
    cases a<;>cases n<;>cases cap<;>simp[Bl]at hx;subst hx;have:=hv.lits;subst this;exact⟨[],⟨λ_ _=> .nil,rfl⟩,rfl⟩
   | _=>simp[Bl]at hx
  | _=>simp[Bl]at hx
 | .fz k,c,v,x,hv,hx,hf=>by
  cases c with
  | sl k' xs=>
   obtain⟨e1,rfl⟩:=Hn<|show IY k' k xs=I x from hx;subst e1;exact⟨[],⟨hv.sls.RF rfl R.hM,rfl⟩,rfl⟩
  | lit v'=>
   cases v' with
   | slice a n cap=>
    cases a<;>cases n<;>cases cap<;>simp[Bl,C7]at hx;subst hx;have:=hv.lits;subst this;exact⟨[],⟨λ_ _=> .nil,rfl⟩,rfl⟩
   | _=>simp[Bl,C7]at hx
  | own id=>
   simp only[Bl,C7]at hx;split at hx
   .rename_i t fz k' ys hid;obtain⟨e1,rfl⟩:=Hn hx;subst e1;obtain⟨h1,h2,h3⟩:=mG R hv.nr hid;exact⟨[],⟨h3.azU R.hM λa ha=>hf id (by simp[Cf]) _ a h2 ha,rfl⟩,rfl⟩
   .cases hx
  | _=>simp[Bl,C7]at hx
 | .row t k,c,v,x,hv,hx,_=>by
  cases c with
  | lit v'=>
   cases v' with
   | slice a n cap=>
    cases a<;>cases n<;>cases cap<;>simp[Bl]at hx;subst hx;have:=hv.lits;subst this;exact⟨[(.slice U 0 0,0)],⟨rfl,rfl,λ_ _=> .inl ⟨rfl,rfl⟩⟩,rfl⟩
   | _=>simp[Bl]at hx
  | own id=>
   simp only[Bl]at hx;split at hx
   .rename_i t' k' ys hid;split at hx
    .rename_i ht;obtain rfl:=Bk ht;obtain⟨e1,rfl⟩:=Hn hx;subst e1;obtain⟨h1,h2,h3⟩:=mG R hv.nr hid;exact⟨[(v,ys.length)],⟨rfl,h1,h3.imm R.hM⟩,by simp[CQ,h2]⟩
    .cases hx
   .cases hx
  | _=>simp[Bl]at hx
 | .CV t k,c,v,x,hv,hx,_=>by
  cases c with
  | own id=>
   simp only[Bl]at hx;split at hx
   .rename_i t' k' ys hid;split at hx
    .rename_i ht;obtain rfl:=Bk ht;obtain⟨e1,rfl⟩:=Hn hx;subst e1;obtain⟨h1,h2,h3⟩:=mG R hv.nr hid;exact⟨[(v,ys.length)],⟨rfl,h1,h3.imm R.hM⟩,by simp[CQ,h2]⟩
    .cases hx
   .cases hx
  | _=>simp[Bl]at hx
 | .abx t k,c,v,x,hv,hx,_=>by
  cases c with
  | ptr id z i o=>
   cases i<;>cases o<;>simp only[Bl]at hx<;>first|(cases hx;done)|skip
   split at hx
   .rename_i t' k' ys hid;split at hx
    .rename_i ht;simp only[AE]at ht;obtain rfl:=Bk ht.1;obtain⟨e1,rfl⟩:=Hn hx;subst e1;have hv:=hv.RE;cases hv with
     | @ptr _ _ _ _ hd n b f h1 ha hi=>
      obtain⟨b',us,k1,k2,k3,k4,k5⟩:=R.hs.EA id _ hid;rw[h1]at k1;cases k1;cases ha;have e0:0 * z=0:=Tf z;refine⟨[(.pointer<|I ⟨b,0,U⟩,ys.length)],⟨?_,hi,b,us, ?_,k2,k3,k4,λβ' hβ' i x j c u a1 a2 a3=>(k5 i x j c u a1 a2 a3).RF (IM k' x a2) R.hM β' hβ'⟩,by simp[CQ,h1]⟩
      .simp
      .simp
    .cases hx
   .cases hx
  | _=>simp[Bl]at hx
 | .arr k,c,v,x,hv,hx,_=>by
  cases c with
  | arr k' xs=>
   obtain⟨e1,rfl⟩:=Hn<|show IY k' k xs=I x from hx;subst e1;obtain⟨us,k1,k2,k3⟩:=hv;exact⟨[],⟨rfl,λβ' hβ'=>⟨us,k1,k2,λi x j c u a1 a2 a3=>(k3 i x j c u a1 a2 a3).RF (IM k' x a2) R.hM β' hβ'⟩⟩,rfl⟩
  | _=>simp[Bl]at hx
 | .same t,c,v,x,hv,hx,_=>by
  cases c with
  | ptr id z i o=>
   cases i<;>cases o<;>simp only[Bl]at hx<;>first|(cases hx;done)|skip
   split at hx
   .rename_i id' z' hE;split at hx
    .rename_i hid;obtain rfl:=Bk hid;have h2:=R.hE t _ _ hE;rw[hE]at h2;have h2:=h2.RE;have h1:=hv.RE;refine⟨[],⟨rfl, ?_,h1.one⟩,rfl⟩;generalize e t=v2 at h2;cases h1 with
     | ptr a1 a2 a3=>
      cases h2 with
      | ptr b1 b2 b3=>
       rw[a1]at b1;cases b1;rw[a2]at b2;cases b2;simp
    .cases hx
   .cases hx
  | _=>simp[Bl]at hx
 | .agg l,c,v,x,hv,hx,hf=>by
  cases c with
  | agg cs=>
   obtain⟨us,rfl,hr⟩:=hv;obtain⟨os,h1,h2⟩:=jk R l cs us x hr hx hf;exact⟨os,⟨us,rfl,h1⟩,h2⟩
  | _=>simp[Bl]at hx
 | .box t l,c,v,x,hv,hx,hf=>by
  cases c with
  | ptr id z i o=>
   cases i<;>cases o<;>simp only[Bl]at hx<;>first|(cases hx;done)|skip
   split at hx
   .rename_i t' cs hid;split at hx
    .rename_i ht;obtain rfl:=Bk ht;have hv:=hv.RE;cases hv with
     | @ptr _ _ _ _ hd n b f h1 ha hi=>
      obtain⟨b',us,k1,k2,k3⟩:=R.hs.EA id _ hid;rw[h1]at k1;cases k1;cases ha;obtain⟨os,j1,j2⟩:=jk R l cs us.toList x k3 hx (by simpa only[Cf,hid] using hf);refine⟨os++[(.pointer<|I ⟨b,0,U⟩,1)],⟨b,us,os,by simp,k2,j1,by simp⟩, ?_⟩;have:CQ H (.box t l) (.ptr id z 0 0)=Bh H l cs++[id]:=by simp only[CQ,hid]
      rw[this];simp only[Az,Lz]at j2 ⊢;rw[j2];simp[h1]
    .cases hx
   .cases hx
  | _=>simp[Bl]at hx
theorem jk (R:Nn B β H w M E e):∀(l:List Sh) (cs:List AV) (us:List Value) (x:LTs l),RL (RC w β) cs us->G4 E H l cs=I x->Qt β M (Cp H l cs)->
  ∃os,CX B.P w M e l x us os/\Az os=Az ((Bh H l cs).filterMap β)
 | [],[],us,x,hr,hx,_=>⟨[],⟨hr.of_nil,rfl⟩,rfl⟩
 | [],_::_,us,x,hr,hx,_=>by cases hx
 | _::_,[],us,x,hr,hx,_=>by cases hx
 | h::l,c::cs,us,x,hr,hx,hf=>by
  obtain⟨u,us',rfl,h1,h2⟩:=hr.C1;obtain⟨x1,e1,hx⟩:=Aj.1 hx;obtain⟨x2,e2,hx⟩:=Aj.1 hx;cases hx;obtain⟨o1,j1,j2⟩:=kI R h c u x1 (R1.MH h1) e1 (λi hi=>hf i<|Bq _ hi);obtain⟨o2,j3,j4⟩:=jk R l cs us' x2 h2 e2 (λi hi=>hf i<|CK _ hi);refine⟨o1++o2,⟨u,us',o1,o2,rfl,rfl,j1,j3⟩, ?_⟩;simp only[Az,Lz,Bh]at j2 j4 ⊢;rw[j2,j4]
end
def Wy(R:Nn B β H w M E e):∀(l:List Sh) (cs:List AV) (us:List Value) (x:LTs l),RL (R1 w β) cs us->G4 E H l cs=I x->Qt β M (Cp H l cs)->
  ∃os,CX B.P w M e l x us os/\Az os=Az ((Bh H l cs).filterMap β)
 | [],[],us,x,hr,hx,_=>⟨[],⟨hr.of_nil,rfl⟩,rfl⟩
 | [],_::_,us,x,hr,hx,_=>by cases hx
 | _::_,[],us,x,hr,hx,_=>by cases hx
 | h::l,c::cs,us,x,hr,hx,hf=>by
  obtain⟨u,us',rfl,h1,h2⟩:=hr.C1;obtain⟨x1,e1,hx⟩:=Aj.1 hx;obtain⟨x2,e2,hx⟩:=Aj.1 hx;cases hx;obtain⟨o1,j1,j2⟩:=kI R h c u x1 h1 e1 (λi hi=>hf i<|Bq _ hi);obtain⟨o2,j3,j4⟩:=Wy R l cs us' x2 h2 e2 (λi hi=>hf i<|CK _ hi);refine⟨o1++o2,⟨u,us',o1,o2,rfl,rfl,j1,j3⟩, ?_⟩;simp only[Az,Lz,Bh]at j2 j4 ⊢;rw[j2,j4]
end
end Go.VS
namespace Go.VS
open Go
section
variable {P:Program} {β:Beta} {H:Hp} {w:World} {M:Nat->Prop} {E:Nat->AV} {e:Nat->Value} {b:Nat}
def IG(P:Program)(w:World)(β:Beta)(H H':Hp)(b n:Nat):Prop:=
 (∀j,j<b\/b+n<=j->H' j=H j)/\(∀j,b<=j->j<b+n->∃ob,H' j=I ob/\Dx P w β j ob)
def IG.nil:IG P w β H H b 0:=⟨λ_ _=>rfl,λj h1 h2=>by omega⟩
def IG.one{ob:Ob}(h:Dx P w β b ob):IG P w β H (upd H b<|I ob) b 1:=by
 refine⟨λj hj=>BB _ _ J,λj h1 h2=> ?_⟩;have:j=b:=J
 subst this;exact⟨ob,Bf _ _ _,h⟩
def IG.trans{H' H'':Hp}{n m:Nat}(h:IG P w β H H' b n)(k:IG P w β H' H'' (b+n) m):IG P w β H H'' b (n+m):=by
 refine⟨λj hj=> ?_,λj h1 h2=> ?_⟩
 .rw[k.1 j J,h.1 j J]
 .by_cases e:j<b+n
  .obtain⟨ob,k1,k2⟩:=h.2 j h1 e;exact⟨ob,by rw[k.1 j<|.inl e];exact k1,k2⟩
  .exact k.2 j J J
def Num(β:Beta)(b:Nat)(os:List (Value×Nat)):Prop:=∀i p,os[i]? =I p->β (b+i)=I p
def Num.left{o1 o2:List (Value×Nat)}(h:Num β b (o1++o2)):Num β b o1:=λi p hp=>h i p (by
 rw[I9 (BL.1 hp).1];exact hp)
def Num.right{o1 o2:List (Value×Nat)}(h:Num β b (o1++o2)):Num β (b+o1.length) o2:=λi p hp=>by
 have:=h (o1.length+i) p (by rw[FG J];simpa using hp);rw[D3];exact this
def Num.one{p:Value×Nat}{os:List (Value×Nat)}(h:Num β b (os++[p])):β (b+os.length)=I p:=by
 have:=h.right 0 p rfl;simpa using this
def Th(w:World)(β:Beta)(E:Nat->AV)(e:Nat->Value)(ts:List Nat):Prop:=∀t∈ts,R1 w β (E t)<|e t
def R1.azV{c:AV}{v:Value}(h:R1 w β c v)(h1:v.oneCell'=A0):RC w β c v:=by
 cases c with
 | un=>exact .un h1
 | lit v'=>have:=h.lits;subst this;exact .lit h1
 | sl k xs=>exact h
 | own id=>exact h
 | ptr a b c d=>exact h
 | ipt a b c=>exact h
 | arr k xs=>obtain⟨us,rfl,_⟩:=h;cases h1
 | agg cs=>obtain⟨us,rfl,_⟩:=h;cases h1
 | tup vs=>exact h.elim
 | gd a b c=>exact h.elim
mutual
theorem aaT (hM:∀b,MZ β b->M b):∀(h:Sh) (H:Hp) (b:Nat) (x:LT h) (v:Value) (os:List (Value×Nat)),IW h=A0->Rel P w M e h x v os->Num β b os->Th w β E e (Lp h)->
  RC w β (BD E H b h x).1 v/\(BD E H b h x).2.2=b+os.length/\IG P w β H (BD E H b h x).2.1 b os.length
 | .int k,H,b,x,v,os,_,hr,_,_=>by obtain⟨rfl,rfl⟩:=hr;exact⟨.lit rfl,rfl,.nil⟩
 | .bool,H,b,x,v,os,_,hr,_,_=>by obtain⟨rfl,rfl⟩:=hr;exact⟨.lit rfl,rfl,.nil⟩
 | .str,H,b,x,v,os,_,hr,_,_=>by obtain⟨rfl,rfl⟩:=hr;exact⟨.lit rfl,rfl,.nil⟩
 | .sl k,H,b,x,v,os,_,hr,_,_=>by obtain⟨h1,rfl⟩:=hr;exact⟨h1 β hM,rfl,.nil⟩
 | .fz k,H,b,x,v,os,_,hr,_,_=>by obtain⟨h1,rfl⟩:=hr;exact⟨h1 β hM,rfl,.nil⟩
 | .row t k,H,b,x,v,os,_,hr,hn,_=>by
  obtain⟨rfl,h1,h2⟩:=hr;have hb:β b=I (v,x.length):=hn.one (os:=[]);exact⟨.own hb h1,rfl,.one ⟨v,hb,h2 β hM⟩⟩
 | .CV t k,H,b,x,v,os,_,hr,hn,_=>by
  obtain⟨rfl,h1,h2⟩:=hr;have hb:β b=I (v,x.length):=hn.one (os:=[]);exact⟨.own hb h1,rfl,.one ⟨v,hb,h2 β hM⟩⟩
 | .abx t k,H,b,x,v,os,_,hr,hn,_=>by
  obtain⟨rfl,h1,bb,us,rfl,h3,h4,h5,h6⟩:=hr;have hb:β b=I (.pointer<|I ⟨bb,0,U⟩,x.length):=hn.one (os:=[]);refine⟨?_,rfl,.one ⟨bb,us,hb,h3,h4,h5,h6 β hM⟩⟩;have:=RC.ptr (w:=w) (sz:=ks k) (o:=0) hb (rfl:adr (.pointer<|I ⟨bb,0,U⟩)=I ⟨bb,0,U⟩) (i:=0) J;show RC w β (.ptr b (ks k) 0 0) _;simpa using this
 | .arr _,_,_,_,_,_,h,_,_,_=>by simp[IW]at h
 | .agg _,_,_,_,_,_,h,_,_,_=>by simp[IW]at h
 | .same t,H,b,x,v,os,_,hr,_,hs=>by
  obtain⟨rfl,rfl,h1⟩:=hr;refine⟨?_,rfl,.nil⟩;exact(hs t<|by simp[Lp]).azV h1
 | .box t l,H,b,x,v,os,hl,hr,hn,hs=>by
  obtain⟨bb,us,os',rfl,h2,h3,rfl⟩:=hr;have un:BD E H b (.box t l) x=(match Al E H b l x with|(cs,H,b)=>(AV.ptr b cs.length 0 0,upd H b<|I<|.box t cs,b+1)):=rfl;obtain⟨k1,k2,k3⟩:=Xd hM l H b x us.toList os' (by simpa[IW] using hl) h3 hn.left (by simpa[Lp] using hs);rw[un];generalize Al E H b l x=r at *;obtain⟨cs,H',b'⟩:=r;simp only at k1 k2 k3;subst k2;have hb:=hn.one;refine⟨?_,by simp[D3], ?_⟩
  .have:=RC.ptr (w:=w) (sz:=cs.length) (o:=0) hb (rfl:adr (.pointer<|I ⟨bb,0,U⟩)=I ⟨bb,0,U⟩) (i:=0) J;simpa using this
  .rw[Ar];exact k3.trans<|.one ⟨bb,us,hb,h2,k1⟩
theorem Xd (hM:∀b,MZ β b->M b):∀(l:List Sh) (H:Hp) (b:Nat) (x:LTs l) (us:List Value) (os:List (Value×Nat)),Mt l=A0->CX P w M e l x us os->Num β b os->Th w β E e (IT l)->
  RL (RC w β) (Al E H b l x).1 us/\(Al E H b l x).2.2=b+os.length/\IG P w β H (Al E H b l x).2.1 b os.length
 | [],H,b,x,us,os,_,hr,_,_=>by obtain⟨rfl,rfl⟩:=hr;exact⟨.nil,rfl,.nil⟩
 | h::l,H,b,x,us,os,hl,hr,hn,hs=>by
  obtain⟨u,us',o1,o2,rfl,rfl,h1,h2⟩:=hr;simp only[Mt,AE]at hl;have un:Al E H b (h::l) x=(match BD E H b h x.1 with|(c,H,b)=>match Al E H b l x.2 with|(cs,H,b)=>(c::cs,H,b)):=rfl;obtain⟨k1,k2,k3⟩:=aaT hM h H b x.1 u o1 hl.1 h1 hn.left (λt ht=>hs t<|Bq _ ht);rw[un];generalize BD E H b h x.1=r at *;obtain⟨c,H',b'⟩:=r;simp only at k1 k2 k3 ⊢;subst k2;obtain⟨j1,j2,j3⟩:=Xd hM l H' (b+o1.length) x.2 us' o2 hl.2 h2 hn.right (λt ht=>hs t<|CK _ ht);generalize Al E H' (b+o1.length) l x.2=r at *;obtain⟨cs,H'',b''⟩:=r;simp only at j1 j2 j3 ⊢;subst j2;refine⟨.cons k1 j1,by simp[D3], ?_⟩;rw[Ar];exact k3.trans j3
end
def aaS(hM:∀b,MZ β b->M b)(h:Sh)(H:Hp)(b:Nat)(x:LT h)(v:Value)(os:List (Value×Nat))(ht:mz h=A0)(hr:Rel P w M e h x v os)(hn:Num β b os)(hs:Th w β E e (Lp h)):
  R1 w β (BD E H b h x).1 v/\(BD E H b h x).2.2=b+os.length/\IG P w β H (BD E H b h x).2.1 b os.length:=by
 by_cases hh:IW h=A0
 .obtain⟨h1,h2,h3⟩:=aaT hM h H b x v os hh hr hn hs;exact⟨.MH h1,h2,h3⟩
 .cases h<;>first|(exact absurd ht hh;done)|skip
  case agg l=>
   obtain⟨us,rfl,h1⟩:=hr;have un:BD E H b (.agg l) x=(match Al E H b l x with|(cs,H,b)=>(AV.agg cs,H,b)):=rfl;obtain⟨k1,k2,k3⟩:=Xd hM l H b x us os ht h1 hn hs;rw[un];generalize Al E H b l x=r at *;obtain⟨cs,H',b'⟩:=r;exact⟨⟨us,rfl,k1⟩,k2,k3⟩
  case arr k=>
   obtain⟨rfl,h1⟩:=hr;exact⟨h1 β hM,rfl,.nil⟩
def Xc(hM:∀b,MZ β b->M b):∀(l:List Sh) (H:Hp) (b:Nat) (x:LTs l) (us:List Value) (os:List (Value×Nat)),Jm l=A0->CX P w M e l x us os->Num β b os->Th w β E e (IT l)->
  RL (R1 w β) (Al E H b l x).1 us/\(Al E H b l x).2.2=b+os.length/\IG P w β H (Al E H b l x).2.1 b os.length
 | [],H,b,x,us,os,_,hr,_,_=>by obtain⟨rfl,rfl⟩:=hr;exact⟨.nil,rfl,.nil⟩
 | h::l,H,b,x,us,os,hl,hr,hn,hs=>by
  obtain⟨u,us',o1,o2,rfl,rfl,h1,h2⟩:=hr;simp only[Jm,AE]at hl;have un:Al E H b (h::l) x=(match BD E H b h x.1 with|(c,H,b)=>match Al E H b l x.2 with|(cs,H,b)=>(c::cs,H,b)):=rfl;obtain⟨k1,k2,k3⟩:=aaS hM h H b x.1 u o1 hl.1 h1 hn.left (λt ht=>hs t<|Bq _ ht);rw[un];generalize BD E H b h x.1=r at *;obtain⟨c,H',b'⟩:=r;simp only at k1 k2 k3 ⊢;subst k2;obtain⟨j1,j2,j3⟩:=Xc hM l H' (b+o1.length) x.2 us' o2 hl.2 h2 hn.right (λt ht=>hs t<|CK _ ht);generalize Al E H' (b+o1.length) l x.2=r at *;obtain⟨cs,H'',b''⟩:=r;simp only at j1 j2 j3 ⊢;subst j2;refine⟨.cons k1 j1,by simp[D3], ?_⟩;rw[Ar];exact k3.trans j3
end
end Go.VS
namespace Go.VS
open Go
def Wz:∀ {l:List Nat},N6 l=A0->l.Nodup
 | [],_=>List.nodup_nil
 | a::l,h=>by
  simp only[N6,AE,CL]at h;refine Ks.2 ⟨λhm=> ?_,Wz h.2⟩;have:(l.any λb=>Ag a b)=A0:=Gz.2 ⟨a,hm,by simp⟩;rw[this]at h;cases h.1
def aDm{l m:List Nat}(h:off l m=A0):∀a∈l,a ∉ m:=λa ha hm=>by
 have h1:=C0.1 h a ha;have:(m.any λb=>Ag a b)=A0:=Gz.2 ⟨a,hm,by simp⟩;rw[this]at h1;cases h1
section
variable {B:Ba} {β β':Beta} {H H':Hp} {w w':World} {M:Nat->Prop} {E:Nat->AV} {e:Nat->Value} {stk:List (Array Value)} {s s':S} {a:Act}
def Mp{ids:List Nat}{b:Nat}(h:b∈Az (ids.filterMap β)):∃i∈ids,∃p a,β i=I p/\adr p.1=I a/\a.block=b:=by
 obtain⟨p,hp,hb⟩:=G9.1 h;obtain⟨i,hi,hβ⟩:=G9.1 hp;obtain⟨a,ha,e⟩:=D4.1 hb;exact⟨i,hi,p,a,hβ,ha,e⟩
def X1(hH:Hs B β H w):∀ {ids:List Nat},ids.Nodup->(Az<|ids.filterMap β).Nodup
 | [],_=>List.nodup_nil
 | i::ids,h=>by
  obtain⟨h1,h2⟩:=Ks.1 h;have ih:=X1 hH h2;cases hβ:β i with
  | none=>simpa[hβ] using ih
  | some p=>
   cases hb:HH p with
   | none=>simpa[hβ,hb] using ih
   | some b=>
    simp only[Az,l7,hβ,hb];refine Ks.2 ⟨λhm=> ?_,ih⟩;obtain⟨j,hj,q,a',hq,ha',e'⟩:=Mp hm;obtain⟨a,ha,e⟩:=D4.1 hb;have:=hH.inj i j p q a a' hβ hq ha ha' (by rw[e,e']);subst this;exact h1 hj
def T5{ids:List Nat}{b:Nat}(h:b∈Az (ids.filterMap β)):MB β b:=by
 obtain⟨i,_,p,a,h1,h2,h3⟩:=Mp h;exact⟨i,p.1,p.2,a,h1,h2,h3⟩
abbrev MO(B:Ba)(l:List Nat)(b:Nat):Prop:=b∈l\/B.Z b
def abH(hH:Hs B β H w){ids:List Nat}{b:Nat}(h:MO B (Az<|ids.filterMap β) b):MZ β b:=by
 obtain h|h:=h
 .exact .inl (T5 h)
 .exact .inr (by rw[hH.z];exact h)
def kh(hH:Hs B β H w){fz ids:List Nat}(h:off fz ids=A0):Qt β (MO B<|Az<|ids.filterMap β) fz:=by
 intro i hi p a hp ha hm;obtain hm|hm:=hm
 case inr=>rw[← hH.z]at hm;exact hH.zn i p a hp ha hm
 obtain⟨j,hj,q,a',hq,ha',e⟩:=Mp hm;have:=hH.inj i j p q a a' hp hq ha ha' e.symm;subst this;exact aDm h i hi hj
def HO(Z:Nat->Prop)(os:List (Value×Nat)):Beta:=⟨λi=>os[i]?, Z⟩
def ke(Z:Nat->Prop)(os:List (Value×Nat)):Num (HO Z os) 0 os:=λi p h=>by rw[DF];exact h
def My{Z:Nat->Prop}{os:List (Value×Nat)}{b:Nat}(h:MB (HO Z os) b):b∈Az os:=by
 obtain⟨i,hd,n,a,h1,h2,h3⟩:=h;exact G9.2 ⟨(hd,n),Cb h1,by simp[HH,h2,h3]⟩
def lp{os:List (Value×Nat)}{b:Nat}(h:MZ (HO B.Z os) b):MO B (Az os) b:=h.imp My λh=>h
def Xa{os:List (Value×Nat)}(h:(Az os).Nodup):∀(i j:Nat) (p q:Value×Nat) (a a':Addr),os[i]? =I p->os[j]? =I q->adr p.1=I a->adr q.1=I a'->a.block=a'.block->i=j:=by
 induction os with
 | nil=>intro i j p q a a' hi;simp at hi
 | cons x os ih=>
  have hx:∀ {p:Value×Nat} {a:Addr},adr p.1=I a->HH p=I a.block:=λh=>by simp[HH,h]
  have ih':(Az os).Nodup:=by
   cases hb:HH x with
   | none=>simpa[hb] using h
   | some b=>simp only[Az,l7,hb]at h;exact(Ks.1 h).2
  have UA:∀(j:Nat) (q:Value×Nat) (a a':Addr),os[j]? =I q->adr x.1=I a->adr q.1=I a'->a.block=a'.block->False:=by
   intro j q a a' hj ha ha' e;simp only[Az,l7,hx ha]at h;refine(Ks.1 h).1<|G9.2 ⟨q,Cb hj, ?_⟩;rw[hx ha',e]
  intro i j p q a a' hi hj ha ha' e;cases i with
  | zero=>
   simp at hi;subst hi;cases j with
   | zero=>rfl
   | succ j=>simp at hj;exact(UA j q a a' hj ha ha' e).elim
  | succ i=>
   simp at hi;cases j with
   | zero=>simp at hj;subst hj;exact(UA i p a' a hi ha' ha e.symm).elim
   | succ j=>simp at hj;rw[ih ih' i j p q a a' hi hj ha ha' e]
def Hs.ay5(hH:Hs B β H w){os:List (Value×Nat)}(hn:(Az os).Nodup)(hb:∀b∈Az os,MB β b)(hm:IG B.P w (HO B.Z os) (λ_=>U) H' 0 os.length):Hs B (HO B.Z os) H' w where
 EA id ob ho:=by
  by_cases h:id<os.length
  .obtain⟨ob',h1,h2⟩:=hm.2 id (Cu _) J;rw[h1]at ho;cases ho;exact h2
  .rw[hm.1 id J]at ho;cases ho
 dom id p hp:=by
  have h:id<os.length:=(BL.1<|show os[id]? =I p from hp).1;obtain⟨ob',h1,_⟩:=hm.2 id (Cu _) J;exact⟨ob',h1⟩
 inj i j p q a a' hi hj:=Xa hn i j p q a a' hi hj
 old b h:=hH.old b (hb b<|My h)
 os:=hH.os
 tape:=hH.tape
 output:=hH.output
 size:=hH.size
 block:=hH.block
 z:=rfl
 zn id p a hp ha hz:=by
  have hb:=hb a.block (G9.2 ⟨p,Cb hp,by simp[HH,ha]⟩);obtain⟨j,hd,n,a',h1,h2,h3⟩:=hb;refine hH.zn j _ a' h1 h2 ?_;rw[h3,hH.z];exact hz
 zl b h:=hH.zl b (by rw[hH.z];exact h)
 pk:=hH.pk
def aAv{E:Nat->AV}{h:Sh}{c:AV}{x:LT h}(hx:Bl E H h c=I x):(∀g w v,c≠ .gd g w v)/\ ∀vs,c≠ .tup vs:=by
 constructor
 .rintro g w v rfl;cases h<;>simp[Bl,C7]at hx
 .rintro vs rfl;cases h<;>simp[Bl,C7]at hx
def RT.MJ{tm:Nat->Value}{c:AV}{v:Value}(h:RT w β tm c v)(h1:∀g w v,c≠ .gd g w v)(h2:∀vs,c≠ .tup vs):R1 w β c v:=by
 cases c<;>first|exact h|exact absurd rfl (h1 _ _ _)|exact absurd rfl (h2 _)
def aAl{tm:Nat->Value}{T:Nat->AV}(R:Nn B β H w M T tm)(hT:∀t,RT w β tm (T t)<|tm t):∀(c:Sch) (x:Lv c),mJ H T c=I x->Qt β M (lm H T c)->
  ∃os,CX B.P w M tm (c.map (·.2)) x (c.map λp=>tm p.1) os/\Az os=Az ((OY H T c).filterMap β)
 | [],x,hx,_=>⟨[],⟨rfl,rfl⟩,rfl⟩
 | (t,h)::c,x,hx,hf=>by
  obtain⟨x1,e1,hx⟩:=Aj.1 hx;obtain⟨x2,e2,hx⟩:=Aj.1 hx;cases hx;obtain⟨p1,p2⟩:=aAv e1;obtain⟨o1,j1,j2⟩:=kI R h (T t) (tm t) x1 ((hT t).MJ p1 p2) e1 (λi hi=>hf i<|Bq _ hi);obtain⟨o2,j3,j4⟩:=aAl R hT c x2 e2 (λi hi=>hf i<|CK _ hi);refine⟨o1++o2,⟨tm t,c.map λp=>tm p.1,o1,o2,rfl,rfl,j1,j3⟩, ?_⟩;simp only[Az,Lz,OY]at j2 j4 ⊢;rw[j2,j4]
def aBE{P:Program}{tm:Nat->Value}(hM:∀b,MZ β b->M b):∀(c:Sch) (T:Nat->AV) (H:Hp) (b:Nat) (x:Lv c) (os:List (Value×Nat)),Jm (c.map (·.2))=A0->CX P w M tm (c.map (·.2)) x (c.map λp=>tm p.1) os->Num β b os->(∀t,R1 w β (T t)<|tm t)->
  (∀t,R1 w β ((Mw T H b c x).1 t)<|tm t)/\(Mw T H b c x).2.2=b+os.length/\IG P w β H (Mw T H b c x).2.1 b os.length
 | [],T,H,b,x,os,_,hr,_,hT=>by obtain⟨_,rfl⟩:=hr;exact⟨hT,rfl,.nil⟩
 | (t,h)::c,T,H,b,x,os,hl,hr,hn,hT=>by
  obtain⟨u,us',o1,o2,e1,rfl,h1,h2⟩:=hr;simp only[DP,M3]at e1;obtain⟨rfl,rfl⟩:=e1;simp only[DP,Jm,AE]at hl;have un:Mw T H b ((t,h)::c) x=(match BD T H b h x.1 with|(v,H,b)=>Mw (upd T t v) H b c x.2):=rfl;obtain⟨k1,k2,k3⟩:=aaS (E:=T) hM h H b x.1 (tm t) o1 hl.1 h1 hn.left (λt' _=>hT t');rw[un];generalize BD T H b h x.1=r at *;obtain⟨v,H',b'⟩:=r;simp only at k1 k2 k3 ⊢;subst k2;obtain⟨j1,j2,j3⟩:=aBE hM c (upd T t v) H' (b+o1.length) x.2 o2 hl.2 h2 hn.right (λt'=>by
   by_cases e:t'=t
   .subst e;rw[Bf];exact k1
   .rw[BB _ _ e];exact hT t')
  refine⟨j1,by rw[j2];simp[D3], ?_⟩;rw[Ar];exact k3.trans j3
def R1.aG{tm:Nat->Value}{c:AV}{v:Value}(h:R1 w β c v):RT w β tm c v:= .H6<|.H7 h
def St.join(hst:St B β stk s a w){c:Sch}{x:Lv c}(hx:rdS c s=I x):stk=[]/\ ∃β',St B β' [] (mkS s.n s.pins c x) a w/\Fr (mkS s.n s.pins c x)/\(mkS s.n s.pins c x).n=s.n/\(mkS s.n s.pins c x).pins=s.pins:=by
 unfold rdS at hx;split at hx
 .rename_i hs hnd hok;have RG:stk=[]:=by
   have:=hst.stack.1;rw[hs]at this;exact E6 this
  refine⟨RG, ?_⟩;simp only[AE]at hnd;simp only[ab7,AE]at hok;have R:Nn B β s.H w (MO B<|Az<|(OY s.H s.T c).filterMap β) s.T (BY a):={
   hs:=hst.hs
   hM:=λb hb=>abH hst.hs hb
   hE:=λt id z e=>(hst.T t).MJ (by rw[e];simp) (by rw[e];simp) }
  obtain⟨os,h1,h2⟩:=aAl R hst.T c x hx<|kh hst.hs hnd.2;have Zw:(Az os).Nodup:=by rw[h2];exact X1 hst.hs<|Wz hnd.1
  have hMB:∀b∈Az os,MB β b:=λb hb=>by rw[h2]at hb;exact T5 hb
  obtain⟨k1,k2,k3⟩:=aBE (β:=HO B.Z os) (P:=B.P) (w:=w) (M:=MO B<|Az<|(OY s.H s.T c).filterMap β) (tm:=BY a) (λb hb=>by have:=lp hb;rw[h2]at this;exact this) c (λ_=> .un) (λ_=>U) 0 x os hok.1.2 h1 (ke B.Z os) (λ_=>trivial);have un:mkS s.n s.pins c x=(match Mw (λ_=> .un) (λ_=>U) 0 c x with
   | (T,H,b)=>{ n:=s.n,T:=T,H:=H,nid:=b,st:=[],pins:=s.pins,gs:=λ_=>A3 }):=rfl
  rw[un];generalize Mw (λ_=> .un) (λ_=>U) 0 c x=r at *;obtain⟨T,H',b⟩:=r;simp only at k1 k2 k3;have hH:=hst.hs.ay5 Zw hMB k3;refine⟨HO B.Z os,⟨λt=>(k1 t).aG,⟨rfl,λi T' tm h=>by simp at h⟩,hst.n,hst.defers,hst.pins,λt g want y hy=> ?_,hH⟩,λj hj=> ?_,rfl,rfl⟩
  .have:=k1 t;have hy:T t= .gd g want y:=hy;rw[hy]at this;exact this.elim
  .exact k3.1 j (.inr (by have hj:b<=j:=hj;omega))
 .cases hx
end
end Go.VS
namespace Go.VS
open Go
structure KOK {Ω:Type} (B:Ba) (stk:List (Array Value)) (n:Nat) (pins:List Nat) (k:Kt Ω) (q:Ω) (Q:Exit->Act->World->Prop):Prop where
 nrm:∀β a w s,St B β stk s a w->Fr s->s.n=n->s.pins=pins->k.nrm s=I q->Q .normal a w
 ret:∀β a w s,St B β stk s a w->Fr s->s.n=n->s.pins=pins->k.ret s=I q->Q .ret a w
 ext:∀id β a w s,St B β stk s a w->Fr s->s.n=n->s.pins=pins->k.ext id s=I q->Q (.exit id) a w
def N2(B:Ba)(n:Nat)(pins:List Nat)(body:Code)(l:Loop):Prop:=∀(x:Lv l.sch) (r:Lv l.KB ⊕ Lv l.K6),l.run x=I r->∀(β:Beta) (a:Act) (w:World) (Q:Exit->Act->World->Prop),
 St B β [] (mkS n pins l.sch x) a w->Fr (mkS n pins l.sch x)->
 (∀y,r= .inl y->∀β a w,St B β [] (mkS n pins l.KB y) a w->Fr (mkS n pins l.KB y)->Q .ret a w)->
 (∀y,r= .inr y->∀β a w,St B β [] (mkS n pins l.K6 y) a w->Fr (mkS n pins l.K6 y)->Q (.exit l.xid) a w)->(Code.loop body).wp B.P Q a w
def HM(L:Code->Loop->Prop):Code->Adv->Prop
 | .seq a b,.join _ u v=>HM L a u/\HM L b v
 | .seq a b,v=>HM L a v.a/\HM L b v.z
 | .cond _ x y,v=>HM L x v.a/\HM L y v.z
 | .block _ c,v=>HM L c v.a
 | .loop c,.loop l=>L c l
 | _,_=>True
def G1(L:Code->Loop->Prop):∀c:Code,HM L c .nil
 | .seq a b=>⟨G1 L a,G1 L b⟩
 | .cond _ x y=>⟨G1 L x,G1 L y⟩
 | .block _ c=>G1 L c
 | .skip=>trivial
 | .region _ _ _=>trivial
 | .loop _=>trivial
 | .exit _=>trivial
 | .ret=>trivial
 | .rangeFunc _ _ _ _=>trivial
 | .scope _=>trivial
 | .label _=>trivial
 | .goto _=>trivial
 | .refuse _=>trivial
section
variable {C:Cx} {B:Ba} {inl:(Ω:Type)->Inl Ω}
def XA(hP:C.P=B.P)(hm:B.P.follows .mixedOrders=A0)(hC:HE C B)(hI:J8 C B inl):∀(c:Code) {Ω:Type} (v:Adv) (k:Kt Ω) (s:S) (q:Ω) {β:Beta} {stk:List (Array Value)} {a:Act} {w:World} {Q:Exit->Act->World->Prop},
  evk C inl c Ω v k s=I q->St B β stk s a w->Fr s->HM (N2 B s.n s.pins) c v->KOK B stk s.n s.pins k q Q->c.wp B.P Q a w:=by
 intro c
 induction c with
 | skip=>exact λv k s q β stk a w Q he hst hfr _ hk=>wp_skip<|hk.nrm _ _ _ _ hst hfr rfl rfl he
 | region id ops draw=>
  intro Ω v k s q β stk a w Q he hst hfr _ hk;cases draw with
  | false=>exact aAP hP hC hI (show Ot C (inl Ω) ops ops.toList s k.nrm=I q from he) hfr hst λβ a w s' h1 h2 h3 h4 h5=>hk.nrm β a w s' h1 h2 h3 h4 h5
  | true=>
   obtain⟨β1,hs1,_⟩:=St.L9 (Qv C ops s) hst;have hk1:=BC.L9 (N:=λ_=>False) (Qv C ops s)<|BC.refl _ s;have he:evD C ops ((Qv C ops s).foldl S.freeze s) ops.toList 0 s.nid [] ((Qv C ops s).foldl S.freeze s) k.nrm=I q:=he;rw[← hk1.nid]at he;exact asR hP hm hC he (λj hj=>hk1.nn j (λh=>h)<|hfr j (by rw[hk1.nid]at hj;exact hj)) hs1 λβ a w s' h1 h2 h3 h4 h5=>hk.nrm β a w s' h1 h2 (h3.trans hk1.n) (h4.trans hk1.pins) h5
 | seq x y ihx ihy=>
  intro Ω v k s q β stk a w Q he hst hfr GG hk;refine wp_seq ?_;by_cases hj:∃c u v',v= .join c u v'
  .obtain⟨c,u,v',rfl⟩:=hj;obtain⟨ha1,ha2⟩:=GG;have he:BS (λx=>evk C inl y Ω v' k<|mkS s.n s.pins c x) (evk C inl x (Ω ⊕ Lv c) u { nrm:=λs=>(rdS c s).bind λx=>I<|.inr x,ret:=λs=>(k.ret s).bind λo=>I<|.inl o,ext:=λj s=>(k.ext j s).bind λo=>I (.inl o) } s)=I q:=he;obtain⟨r,h1,h2⟩:=Aj.1 he;refine ihx u _ s r h1 hst hfr ha1 ⟨?_, ?_, ?_⟩
   .intro β' a' w' s' k1 k2 k3 k4 k5;obtain⟨z,j1,j2⟩:=Aj.1 k5;cases j2;obtain⟨rfl,β2,m1,m2,m3,m4⟩:=k1.join j1;rw[k3,k4]at m1 m2 m3 m4;exact ihy v' k _ q h2 m1 m2 (by rw[m3,m4];exact ha2) (by rw[m3,m4];exact hk)
   .intro β' a' w' s' k1 k2 k3 k4 k5;obtain⟨o,j1,j2⟩:=Aj.1 k5;cases j2;have h2:I o=I q:=h2;cases h2;exact hk.ret _ _ _ _ k1 k2 k3 k4 j1
   .intro id β' a' w' s' k1 k2 k3 k4 k5;obtain⟨o,j1,j2⟩:=Aj.1 k5;cases j2;have h2:I o=I q:=h2;cases h2;exact hk.ext id _ _ _ _ k1 k2 k3 k4 j1
  .have he:evk C inl x Ω v.a { k with nrm:=evk C inl y Ω v.z k } s=I q:=by
    cases v<;>first|exact he|exact absurd ⟨_,_,_,rfl⟩ hj
   have GG:HM (N2 B s.n s.pins) x v.a/\HM (N2 B s.n s.pins) y v.z:=by
    cases v<;>first|exact GG|exact absurd ⟨_,_,_,rfl⟩ hj
   refine ihx v.a _ s q he hst hfr GG.1 ⟨?_,hk.ret,hk.ext⟩;intro β' a' w' s' k1 k2 k3 k4 k5;exact ihy v.z k s' q k5 k1 k2 (by rw[k3,k4];exact GG.2) (by rw[k3,k4];exact hk)
 | cond o x y ihx ihy=>
  intro Ω v k s q β stk a w Q he hst hfr GG hk;have he:(match s.ev o with
   | .lit (.bool b)=>if b then evk C inl x Ω v.a k s else evk C inl y Ω v.z k s
   | _=>U)=I q:=he
  split at he
  .rename_i b hb;have h1:=hst.eval o;rw[hb]at h1;have h2:a.eval o= .bool b:=h1;refine wp_cond h2 ?_;cases b with
   | true=>exact ihx v.a k s q he hst hfr GG.1 hk
   | false=>exact ihy v.z k s q he hst hfr GG.2 hk
  .cases he
 | block id x ihx=>
  intro Ω v k s q β stk a w Q he hst hfr GG hk;refine wp_block ?_;have he:evk C inl x Ω v.a { k with ext:=λj s=>match Ag j id with
   | true=>k.nrm s
   | false=>k.ext j s } s=I q:=he
  refine ihx v.a _ s q he hst hfr GG ⟨hk.nrm,hk.ret, ?_⟩;intro j β' a' w' s' k1 k2 k3 k4 k5;show if j=id then Q .normal a' w' else Q (.exit j) a' w'
  simp only at k5;split at k5
  .rename_i e;rw[A8<|Bk e];exact hk.nrm _ _ _ _ k1 k2 k3 k4 k5
  .rename_i e;rw[AD<|Sc e];exact hk.ext _ _ _ _ _ k1 k2 k3 k4 k5
 | loop body _=>
  intro Ω v k s q β stk a w Q he hst hfr GG hk;cases v<;>first|(cases he;done)|skip
  rename_i l;have he:((rdS l.sch s).bind λx=>AM (l.run x) (λy=>k.ret<|mkS s.n s.pins l.KB y) λy=>k.ext l.xid (mkS s.n s.pins l.K6 y))=I q:=he;obtain⟨x,h1,h2⟩:=Aj.1 he;obtain⟨r,h3,h4⟩:=Aj.1 h2;obtain⟨rfl,β',m1,m2,_,_⟩:=hst.join h1;have GG:N2 B s.n s.pins body l:=GG;refine GG x r h3 β' a w Q m1 m2 ?_ ?_
  .rintro y rfl β a w k1 k2;exact hk.ret _ _ _ _ k1 k2 (by unfold mkS;rfl) (by unfold mkS;rfl) h4
  .rintro y rfl β a w k1 k2;exact hk.ext _ _ _ _ _ k1 k2 (by unfold mkS;rfl) (by unfold mkS;rfl) h4
 | exit id=>exact λv k s q β stk a w Q he hst hfr _ hk=>wp_exit<|hk.ext _ _ _ _ _ hst hfr rfl rfl he
 | ret=>exact λv k s q β stk a w Q he hst hfr _ hk=>wp_ret<|hk.ret _ _ _ _ hst hfr rfl rfl he
 | _=>
  intro Ω v k s q β stk a w Q he;cases he
def jM(p:Nat->Prop)(h:∃n,p n):∃n,p n/\ ∀m,p m->n<=m:=by
 obtain⟨n,hn⟩:=h
 induction n using Nat.strongRecOn with
 | _ n ih=>
  by_cases hm:∃m,m<n/\p m
  .obtain⟨m,h1,h2⟩:=hm;exact ih m h1 h2
  .exact⟨n,hn,λm h=>Nat.le_of_not_lt λhlt=>hm ⟨m,hlt,h⟩⟩
def aCA{X Y:Type}{b:X->Option (X ⊕ Y)}{x:X}{y:Y}(h:AR b x=I y):∃n,HJ b n x=I y:=by
 unfold AR at h;split at h
 .rename_i hn;have:=Ig<|Ig hn;cases h;exact⟨_,this⟩
 .cases h
def jO{X Y:Type}{b:X->Option (X ⊕ Y)}:∀(n:Nat) (x:X) {y:Y},HJ b n x=I y->∀m,n<=m->HJ b m x=I y
 | 0,x,y,h=>by cases h
 | n+1,x,y,h=>by
  intro m hm;obtain⟨m,rfl⟩:∃k,m=k+1:=⟨m - 1,J⟩;obtain⟨r,h1,h2⟩:=Aj.1 (show((b x).bind λr=>match r with
   | .inl y=>HJ b n y
   | .inr z=>I z)=I y from h)
  show((b x).bind λr=>match r with
   | .inl y=>HJ b m y
   | .inr z=>I z)=I y
  rw[h1,A9];cases r with
  | inl z=>exact jO n z h2 m J
  | inr z=>exact h2
def aBO{X Y:Type}{b:X->Option (X ⊕ Y)}{x:X}{y:Y}{n:Nat}(h:HJ b n x=I y):AR b x=I y:=by
 have hn:∃n y,HJ b n x=I y:=⟨n,y,h⟩;unfold AR;rw[dif_pos hn];have h1:=Ig<|Ig hn;have h2:=jO _ _ h (n+ND hn) J;have h3:=jO _ _ h1 (n+ND hn) J;rw[h2]at h3;exact h3.symm
def ar6{X Y:Type}{b:X->Option (X ⊕ Y)}{n:Nat}{x:X}{y:Y}(h:HJ b (n+1) x=I y):∃r,b x=I r/\(∀x',r= .inl x'->HJ b n x'=I y)/\(∀z,r= .inr z->z=y):=by
 obtain⟨r,h1,h2⟩:=Aj.1 (show((b x).bind λr=>match r with
   | .inl y=>HJ b n y
   | .inr z=>I z)=I y from h)
 refine⟨r,h1, ?_, ?_⟩
 .rintro x' rfl;exact h2
 .rintro z rfl;exact C8 h2
def avP(hP:C.P=B.P)(hm:B.P.follows .mixedOrders=A0)(hC:HE C B)(hI:J8 C B inl){n:Nat}{pins:List Nat}{body:Code}{v:Adv}{l:Loop}{b:Lv l.sch->Option (Lv l.sch ⊕ (Lv l.KB ⊕ Lv l.K6))}
  (hb:∀x,evL C inl n pins body v l x=b x)(hr:l.run=AR b)(GG:HM (N2 B n pins) body v):N2 B n pins body l:=by
 intro x r CW β a w Q hst hfr IF azb;rw[hr]at CW;obtain⟨N,hN⟩:=aCA CW
 let SM:Nat->Act->World->Prop:=λm a w=>∃(x:Lv l.sch) (β:Beta),HJ b m x=I r/\St B β [] (mkS n pins l.sch x) a w/\Fr (mkS n pins l.sch x)
 classical
 let μ:Act->World->Nat:=λa w=>if h:∃m,SM m a w then ND (jM _ h) else 0
 have hμ:∀a w,(h:∃m,SM m a w)->SM (μ a w) a w/\ ∀m,SM m a w->μ a w<=m:=λa w h=>by
  have:=Ig<|jM _ h;simp only[μ,dif_pos h];exact this
 refine wp_loop (λa w=>∃m,SM m a w) μ ⟨N,x,β,hN,hst,hfr⟩ ?_;intro a w hJ;obtain⟨⟨x,β,h1,h2,h3⟩,_⟩:=hμ a w hJ;generalize hm':μ a w=m at h1;cases m with
 | zero=>cases h1
 | succ m=>
  obtain⟨r1,k1,k2,k2'⟩:=ar6 h1;have he:=hb x;rw[k1]at he;unfold evL at he;have en:(mkS n pins l.sch x).n=n:=by unfold mkS;rfl
  have ep:(mkS n pins l.sch x).pins=pins:=by unfold mkS;rfl
  refine XA hP hm hC hI body v _ _ r1 he h2 h3 (by rw[en,ep];exact GG) ?_;rw[en,ep];refine⟨?_, ?_, ?_⟩
  .intro β' a' w' s' j1 j2 j3 j4 j5;obtain⟨y,i1,i2⟩:=Aj.1 j5;cases i2;obtain⟨_,β2,m1,m2,_,_⟩:=j1.join i1;rw[j3,j4]at m1 m2;have hJ':SM m a' w':=⟨y,β2,k2 y rfl,m1,m2⟩;refine⟨⟨m,hJ'⟩, ?_⟩;have:=(hμ a' w' ⟨m,hJ'⟩).2 m hJ';omega
  .intro β' a' w' s' j1 j2 j3 j4 j5;obtain⟨y,i1,i2⟩:=Aj.1 j5;cases i2;obtain⟨_,β2,m1,m2,_,_⟩:=j1.join i1;rw[j3,j4]at m1 m2;have k2:=k2' _ rfl;subst k2;exact IF y rfl _ _ _ m1 m2
  .intro id β' a' w' s' j1 j2 j3 j4 j5;simp only at j5;split at j5
   .rename_i hid;obtain rfl:=Bk hid;obtain⟨y,i1,i2⟩:=Aj.1 j5;cases i2;obtain⟨_,β2,m1,m2,_,_⟩:=j1.join i1;rw[j3,j4]at m1 m2;have k2:=k2' _ rfl;subst k2;exact azb y rfl _ _ _ m1 m2
   .cases j5
end
end Go.VS
namespace Go.VS
open Go
def ME:List Value->Value
 | [v]=>v
 | vs=> .tuple vs.toArray
def Jg:List Sh->List Value->List Value
 | .box _ _::ps,v::vs=>v::Jg ps vs
 | _::ps,_::vs=>Jg ps vs
 | _,_=>[]
def Lk(P:Program)(f:FuncId):Prop:=∀(args:Array Value) (w:World),(callFunc f args).run P w= .ok (.enter f args) w
def OM{P:Program}{f:FuncId}{fn:Func}{c:Code}(hf:P.funcs[f]? =I fn)(K3:(fn.name == "runtime.NumGoroutine")=A3)(hb:fn.body=I c):Lk P f:=by
 intro args w;have nO:¬fn.name= "runtime.NumGoroutine" :=by simpa using K3
 simp[callFunc,hf,nO,hb]
abbrev ar(args:List Value):Nat->Value:=λi=>args.getD i undef
structure Ret (P:Program) (m:DU) (Z:Nat->Prop) (args:List Value) (os:List (Value×Nat)) (w:World) (r:LTs m.rs×LTs (B1 m.ps)) (v:Value) (w':World):Prop where
 ex:∃vs os1 os2,v=ME vs/\CX P w' (λb=>b∈Az (os1++os2)\/Z b) (ar args) m.rs r.1 vs os1/\CX P w' (λb=>b∈Az (os1++os2)\/Z b) (ar args) (B1 m.ps) r.2 (Jg m.ps args) os2/\
  (Az<|os1++os2).Nodup/\(∀b∈Az (os1++os2),(b∈Az os\/w.heap.size<=b)/\b<w'.heap.size)
 wos:w'.os=w.os
 tape:w'.tape=w.tape
 output:w'.output=w.output
 size:w.heap.size<=w'.heap.size
 block:∀b,b<w.heap.size->b ∉ Az os->w'.heap[b]? =w.heap[b]?
 pk:Pk P w w'
def Gs(P:Program)(f:FuncId)(m:DU):Prop:=Lk P f/\ ∀(x:LTs m.ps) (r:LTs m.rs×LTs (B1 m.ps)),m.g x=I r->∀(w:World) (Z:Nat->Prop) (args:List Value) (os:List (Value×Nat)),
 CX P w (λb=>b∈Az os\/Z b) (ar args) m.ps x args os->(Az os).Nodup->(∀b∈Az os,b<w.heap.size/\ ¬Z b)->(∀b,Z b->b<w.heap.size)->Na P w (λb=>b∈Az os)->
 Calls P f args.toArray w λen w'=>∃v,en= .returned v/\Ret P m Z args os w r v w'
section
variable {C:Cx} {B:Ba} {β:Beta} {H:Hp} {w w':World} {M:Nat->Prop} {stk:List (Array Value)} {s s':S} {a:Act} {P:Program} {e e':Nat->Value}
mutual
theorem Rel.congr:∀(h:Sh) (x:LT h) (v:Value) (os:List (Value×Nat)),(∀t∈Lp h,e t=e' t)->Rel P w M e h x v os->Rel P w M e' h x v os
 | .int _,_,_,_,_,h=>h
 | .bool,_,_,_,_,h=>h
 | .str,_,_,_,_,h=>h
 | .sl _,_,_,_,_,h=>h
 | .fz _,_,_,_,_,h=>h
 | .row _ _,_,_,_,_,h=>h
 | .CV _ _,_,_,_,_,h=>h
 | .abx _ _,_,_,_,_,h=>h
 | .arr _,_,_,_,_,h=>h
 | .same t,_,_,_,he,h=>⟨h.1,h.2.1.trans<|he t<|by simp[Lp],h.2.2⟩
 | .agg l,x,v,os,he,h=>by
  obtain⟨us,h1,h2⟩:=h;exact⟨us,h1,CX.congr l x us os he h2⟩
 | .box t l,x,v,os,he,h=>by
  obtain⟨b,us,os',h1,h2,h3,h4⟩:=h;exact⟨b,us,os',h1,h2,CX.congr l x us.toList os' he h3,h4⟩
theorem CX.congr:∀(l:List Sh) (x:LTs l) (us:List Value) (os:List (Value×Nat)),(∀t∈IT l,e t=e' t)->CX P w M e l x us os->CX P w M e' l x us os
 | [],_,_,_,_,h=>h
 | h::l,x,us,os,he,hr=>by
  obtain⟨u,us',o1,o2,h1,h2,h3,h4⟩:=hr;exact⟨u,us',o1,o2,h1,h2,Rel.congr h x.1 u o1 (λt ht=>he t<|Bq _ ht) h3,CX.congr l x.2 us' o2 (λt ht=>he t<|CK _ ht) h4⟩
end
def CX.length:∀ {l:List Sh} {x:LTs l} {us:List Value} {os:List (Value×Nat)},CX P w M e l x us os->us.length=l.length
 | [],_,_,_,h=>by rw[h.1];rfl
 | h::l,x,us,os,hr=>by
  obtain⟨u,us',o1,o2,rfl,_,_,h4⟩:=hr;simp[CX.length h4]
def aA0{E:Nat->AV}:∀ {l:List Sh} {cs:List AV} {x:LTs l},G4 E H l cs=I x->cs.length=l.length
 | [],[],_,_=>rfl
 | [],_::_,_,h=>by cases h
 | _::_,[],_,h=>by cases h
 | h::l,c::cs,x,hx=>by
  obtain⟨x1,e1,hx⟩:=Aj.1 hx;obtain⟨x2,e2,hx⟩:=Aj.1 hx;simp[aA0 e2]
def aA1:∀ {l l':List Sh} {cs cs':List AV},cs.length=l.length->Bh H (l++l') (cs++cs')=Bh H l cs++Bh H l' cs'
 | [],l',[],cs',_=>rfl
 | h::l,l',c::cs,cs',hl=>by
  simp only[Ko,Bh,aA1 (l:=l) (cs:=cs)<|by simpa using hl,Bw]
 | [],_,_::_,_,hl=>by simp at hl
 | _::_,_,[],_,hl=>by simp at hl
def aA2:∀ {l l':List Sh} {cs cs':List AV},cs.length=l.length->Cp H (l++l') (cs++cs')=Cp H l cs++Cp H l' cs'
 | [],l',[],cs',_=>rfl
 | h::l,l',c::cs,cs',hl=>by
  simp only[Ko,Cp,aA2 (l:=l) (cs:=cs)<|by simpa using hl,Bw]
 | [],_,_::_,_,hl=>by simp at hl
 | _::_,_,[],_,hl=>by simp at hl
def TD(tmps:Array Value):ResultVar->Sem Value
 | .tmp t=>pure (tmps.getD t undef)
 | .cell a t=>do loadVar t (← asAddr<|tmps.getD a undef)
def Xi(hP:P=B.P)(hst:St B β stk s a w):∀(l:List ResultVar) {vs:List AV},QG P s l=I vs->
  ∃us:List Value,(l.mapM<|TD a.tmps).run P w=Result.ok us w/\us.length=vs.length/\ ∀(i:Nat) (c:AV) (u:Value),vs[i]? =I c->us[i]? =I u->RX w β (BY a) c u
 | [],vs,h=>by
  cases h;exact⟨[],rfl,rfl,λi c u h=>by simp at h⟩
 | .tmp t::l,vs,h=>by
  obtain⟨vs',h1,h⟩:=Aj.1 h;cases h;obtain⟨us,k1,k2,k3⟩:=Xi hP hst l h1;refine⟨BY a t::us, ?_,by simp[k2],λi c u h1 h2=> ?_⟩
  .simp only[TW,TD,Ea,FV,Eo,k1];rfl
  .cases i with
   | zero=>
    simp at h1 h2;subst h1;subst h2;exact(hst.T t).aF
   | succ i=>exact k3 i c u (by simpa using h1)<|by simpa using h2
 | .cell x t::l,vs,h=>by
  obtain⟨v,h0,h⟩:=Aj.1 h;obtain⟨vs',h1,h⟩:=Aj.1 h;cases h;obtain⟨us,k1,k2,k3⟩:=Xi hP hst l h1;have hx:R2 w β (s.T x) (BY a x):=(hst.T x).aH (by
   cases hT:s.T x<;>first|rfl|(rw[hT]at h0;cases h0))
  obtain⟨u,j1,j2⟩:=aCl hP hst.hs hx h0;have az5:∃ad,BY a x= .pointer (I ad):=by
   cases hT:s.T x<;>rw[hT]at h0 hx<;>first|(cases h0;done)|skip
   .rename_i id z i o;have hx:RC w β (.ptr id z i o) (BY a x):=hx;generalize BY a x=y at hx;cases hx;exact⟨_,rfl⟩
   .rename_i k xx o;have hx:RC w β (.ipt k xx o) (BY a x):=hx;generalize BY a x=y at hx;cases hx;exact⟨_,rfl⟩
  obtain⟨ad,had⟩:=az5;have azg:a.tmps.getD x undef= .pointer (I ad):=had;rw[had]at j1;refine⟨u::us, ?_,by simp[k2],λi c u' h1 h2=> ?_⟩
  .have j1':(loadVar t ad).run P w= .ok u w:=by simpa[NE,JG] using j1
   simp only[TW,TD,azg,asAddr,Ea,FV,Eo,j1',k1]
  .cases i with
   | zero=>
    simp at h1 h2;subst h1;subst h2;exact(RT.H6<|R2.H7 j2).aF
   | succ i=>exact k3 i c u' (by simpa using h1)<|by simpa using h2
def aAj{fn:Func}{us:List Value}(h:(fn.results.toList.mapM<|TD a.tmps).run P w=Result.ok us w):(results fn a.tmps).run P w= .ok (ME us) w:=by
 have e1:results fn a.tmps=(do
   let vs ← fn.results.mapM (TD a.tmps)
   pure (if h:vs.size=1 then vs[0] else .tuple vs)):=rfl
 rw[e1,Array.mapM_eq_mapM_toList,map_eq_pure_bind];simp only[bind_assoc,pure_bind,Ea,h,Eo,FV]
 match us with
 | []=>rfl
 | [u]=>rfl
 | u::v::l=>simp[ME]
end
end Go.VS
namespace Go.VS
open Go
def okM(m:DU)(n:Nat):Bool:=Jm m.ps&&Jm m.rs&&Dp m.ps.length n&&(IT m.rs++IT (B1 m.ps)).all λt=>(Dr 0 m.ps).any λp=>Ag p t
section
variable {C:Cx} {B:Ba} {β:Beta} {H:Hp} {w w':World} {M:Nat->Prop} {stk:List (Array Value)} {s s':S} {a:Act} {P:Program} {e e':Nat->Value} {inl:(Ω:Type)->Inl Ω}
def WJ{E:Nat->AV}:∀ {l:List Sh} {cs:List AV} {x:LTs l},G4 E H l cs=I x->∀c∈cs,(∀g w v,c≠ .gd g w v)/\ ∀vs,c≠ .tup vs
 | [],[],_,_,c,hc=>by cases hc
 | [],_::_,_,h,_,_=>by cases h
 | _::_,[],_,h,_,_=>by cases h
 | h::l,d::cs,x,hx,c,hc=>by
  obtain⟨x1,e1,hx⟩:=Aj.1 hx;obtain⟨x2,e2,hx⟩:=Aj.1 hx;rcases Bj.1 hc with rfl|hc
  .exact aAv e1
  .exact WJ e2 c hc
def RX.MJ{tm:Nat->Value}{c:AV}{v:Value}(h:RX w β tm c v)(h1:∀g w v,c≠ .gd g w v)(h2:∀vs,c≠ .tup vs):R1 w β c v:=by
 have:=h.of h1;cases c<;>first|exact this|exact absurd rfl (h2 _)
def aAM(args:List Value):∀(ps:List Sh) (k:Nat),args.length=k+ps.length->Jg ps (args.drop k)=(Dr k ps).map (ar args)
 | [],k,h=>by
  have:args.drop k=[]:=Ly (by simp at h;omega);rw[this];rfl
 | p::ps,k,h=>by
  have hk:k<args.length:=by simp at h;omega
  rw[TP hk];have ih:=aAM args ps (k+1) (by simp at h ⊢; omega);have oI:ar args k=args[k]:=by simp[ar,hk]
  cases p<;>simp only[Jg,Dr,Tp,DP,ih,oI]
def WO(args:List Value)(n t:Nat):BY { tmps:=args.toArray++QU (n - args.toArray.size) undef,defers:=[] } t=ar args t:=by
 simp only[BY,ar,TU,B9];by_cases h:t<args.length
 .rw[M0<|by simpa using h];simp
 .rw[Array.getElem?_append_right<|by simpa using h,HV J];cases hr:(QU (n - args.toArray.size) undef)[t - args.toArray.size]? with
  | none=>rfl
  | some v=>
   rw[Array.getElem?_replicate]at hr;split at hr
   .cases hr;rfl
   .cases hr
def YQ{fn:Func}{m:DU}{r:LTs m.rs×LTs (B1 m.ps)}{args:List Value}{os:List (Value×Nat)}(hst:St B β stk s a w)(hO:B.O=λb=>b∈Az os)(htm:B.tm0=ar args)(hlen:args.length=m.ps.length)(hp:s.pins=Dr 0 m.ps)
  {n:Nat}(hok:okM m n=A0)(hf:fin B.P fn m s=I r):∃v,(results fn a.tmps).run B.P w= .ok v w/\Ret B.P m B.Z args os B.w0 r v w:=by
 unfold fin at hf;obtain⟨vs,h1,hf⟩:=Aj.1 hf;split at hf
 .rename_i hnd;simp only[AE]at hnd;obtain⟨r1,h2,hf⟩:=Aj.1 hf;obtain⟨q,h3,hf⟩:=Aj.1 hf;cases hf;obtain⟨us,k1,k2,k3⟩:=Xi rfl hst fn.results.toList h1;have hl1:=aA0 h2;rw[aA1 hl1,aA2 hl1]at hnd;generalize aya:Bh s.H m.rs vs=NV at hnd;generalize ayZ:Bh s.H (B1 m.ps) ((Dr 0 m.ps).map s.T)=NU at hnd;have R:Nn B β s.H w (MO B<|Az<|(NV++NU).filterMap β) s.T (BY a):={
   hs:=hst.hs
   hM:=λb hb=>abH hst.hs hb
   hE:=λt id z e=>(hst.T t).MJ (by rw[e];simp) (by rw[e];simp) }
  have hfz:=kh hst.hs hnd.2;have rl1:RL (R1 w β) vs us:=⟨k2,λj c u e1 e2=>(k3 j c u e1 e2).MJ (WJ h2 c<|Cb e1).1 (WJ h2 c<|Cb e1).2⟩;have rl2:RL (R1 w β) ((Dr 0 m.ps).map s.T) ((Dr 0 m.ps).map<|BY a):=⟨by simp,λj c u e1 e2=>by
   obtain⟨h5,h6⟩:=WJ h3 c<|Cb e1;rw[D2]at e1 e2;obtain⟨t,ht,rfl⟩:=D4.1 e1;obtain⟨t',ht',rfl⟩:=D4.1 e2;rw[ht]at ht';cases ht';exact(hst.T t).MJ h5 h6⟩
  obtain⟨os1,j1,j2⟩:=Wy R m.rs vs us r1 rl1 h2 (λi hi=>hfz i<|Bq _ hi);obtain⟨os2,j3,j4⟩:=Wy R (B1 m.ps) _ _ q rl2 h3 (λi hi=>hfz i<|CK _ hi);rw[aya]at j2;rw[ayZ]at j4;have Fy:Az (os1++os2)=Az ((NV++NU).filterMap β):=by
   simp only[Az,Lz]at j2 j4 ⊢;rw[j2,j4]
  have oQ:MO B (Az<|(NV++NU).filterMap β)=λb=>b∈Az (os1++os2)\/B.Z b:=by rw[Fy]
  rw[oQ]at j1 j3;have ac8:∀t∈Dr 0 m.ps,BY a t=ar args t:=λt ht=>by rw[hst.pins t (by rw[hp];exact ht),htm]
  simp only[okM,AE,C0,Gz]at hok;have Gf:∀t∈IT m.rs++IT (B1 m.ps),BY a t=ar args t:=λt ht=>by
   obtain⟨p,hp1,hp2⟩:=hok.2 t ht;rw[← Bk hp2];exact ac8 p hp1
  refine⟨ME us,aAj k1,⟨us,os1,os2,rfl,CX.congr _ _ _ _ (λt ht=>Gf t<|Bq _ ht) j1, ?_, ?_, ?_⟩,hst.hs.os,hst.hs.tape,hst.hs.output,hst.hs.size, ?_,hst.hs.pk⟩
  .have e1:Jg m.ps args=(Dr 0 m.ps).map (BY a):=by
    have:=aAM args m.ps 0 J;rw[Ib]at this;rw[this];exact GS λt ht=>(ac8 t ht).symm
   rw[e1];exact CX.congr _ _ _ _ (λt ht=>Gf t<|CK _ ht) j3
  .rw[Fy];exact X1 hst.hs (Wz hnd.1)
  .intro b hb;rw[Fy]at hb;have:=hst.hs.old b<|T5 hb;rw[hO]at this;exact this
  .intro b hb hn;have:=hst.hs.block b hb;rw[hO]at this;exact this hn
 .cases hf
def atJ{P:Program}(hP:C.P=P)(hm:P.follows .mixedOrders=A0)(hC:∀B:Ba,B.P=P->HE C B)(hI:∀B:Ba,B.P=P->J8 C B inl){f:FuncId}{fn:Func}{body:Code}(hf:P.funcs[f]? =I fn)(K3:(fn.name == "runtime.NumGoroutine")=A3)
  (hb:fn.body=I body){v:Adv}{m:DU}(hok:okM m fn.ntmps=A0)(GG:∀B:Ba,B.P=P->HM (N2 B fn.ntmps<|Dr 0 m.ps) body v)(hg:∀x,ZT C inl fn v m x=m.g x):Gs P f m:=by
 refine⟨OM hf K3 hb,λx r hx w Z args os hr hnd hbl hZ hgl=> ?_⟩;rw[← hg]at hx;unfold ZT at hx;rw[hb]at hx;simp only[evF]at hx;have UG:=hok;simp only[okM,AE]at UG;obtain⟨⟨⟨hps,hrs⟩,hn⟩,_⟩:=UG;have hn:=DX hn;have hlen:=hr.length
 let B:Ba:={ P:=P,w0:=w,O:=λb=>b∈Az os,tm0:=ar args,Z:=Z,gl:=hgl }
 have RH:Num (HO Z os) 0 os:=ke Z os;obtain⟨k1,k2,k3⟩:=Xc (β:=HO Z os) (E:=λ_=> .un) (M:=λb=>b∈Az os\/Z b) (P:=P) (w:=w) (e:=ar args) (λb hb=>lp (B:=B) hb) m.ps (λ_=>U) 0 x args os hps hr RH (λt _=>trivial);have hi:R4 fn.ntmps m.ps x=(match Al (λ_=> .un) (λ_=>U) 0 m.ps x with
  | (vs,H,b)=>{ n:=fn.ntmps,T:=λt=>(vs[t]?).getD Dk,H:=H,nid:=b,st:=[],pins:=Dr 0 m.ps,gs:=λ_=>A3 }):=rfl
 rw[hi]at hx;generalize Al (λ_=> .un) (λ_=>U) 0 m.ps x=q at *;obtain⟨vs,H,b⟩:=q;simp only at hx k1 k2 k3;have hH:Hs B (HO Z os) H w:={
  EA:=λid ob ho=>by
   by_cases h:id<os.length
   .obtain⟨ob',h1,h2⟩:=k3.2 id (Cu _) J;rw[h1]at ho;cases ho;exact h2
   .rw[k3.1 id J]at ho;cases ho
  dom:=λid p hp=>by
   have h:id<os.length:=(BL.1<|show os[id]? =I p from hp).1;obtain⟨ob',h1,_⟩:=k3.2 id (Cu _) J;exact⟨ob',h1⟩
  inj:=λi j p q a a' hi hj=>Xa hnd i j p q a a' hi hj
  old:=λb hb=>⟨.inl<|My hb,(hbl b<|My hb).1⟩
  os:=rfl
  tape:=rfl
  output:=rfl
  size:=As _
  block:=λ_ _ _=>rfl
  z:=rfl
  zn:=λid p a hp ha=>(hbl _<|My (Z:=Z) ⟨id,p.1,p.2,a,hp,ha,rfl⟩).2
  zl:=hZ
  pk:=Pk.refl _ _ }
 refine calls_of_wp hf hb ?_;have hst:St B (HO Z os) [] { n:=fn.ntmps,T:=λt=>(vs[t]?).getD Dk,H:=H,nid:=b,st:=[],pins:=Dr 0 m.ps,gs:=λ_=>A3 } { tmps:=args.toArray++QU (fn.ntmps - args.toArray.size) undef,defers:=[] } w:=by
  refine⟨λt=> ?_,⟨rfl,λi T' tm h=>by simp at h⟩, ?_,rfl,λt _=>WO args _ t,λt g want y hy=> ?_,hH⟩
  .rw[WO];show RT w _ _ ((vs[t]?).getD Dk) _;cases hv:vs[t]? with
   | none=>
    have:args.length<=t:=by
     rw[k1.1];exact YY.1 hv
    show RT w _ _ Dk (ar args t);have e0:ar args t=undef:=by simp[ar,HV this]
    rw[e0];rfl
   | some c=>
    have hlt:t<args.length:=by rw[k1.1];exact(BL.1 hv).1
    have hu:args[t]? =I (ar args t):=by simp[ar,hlt]
    exact(k1.2 t c _ hv hu).aG
  .simp;omega
  .have hy:(vs[t]?).getD Dk= .gd g want y:=hy;cases hv:vs[t]? with
   | none=>rw[hv]at hy;cases hy
   | some c=>
    rw[hv]at hy;have hy:c= .gd g want y:=hy;have hlt:t<args.length:=by rw[k1.1];exact(BL.1 hv).1
    have hu:args[t]? =I (ar args t):=by simp[ar,hlt]
    have:=k1.2 t c _ hv hu;rw[hy]at this;exact this.elim
 refine XA (B:=B) hP hm (hC B rfl) (hI B rfl) body v _ _ r hx hst (λj hj=>k3.1 j<|.inr (by have hj:b<=j:=hj;omega)) (GG B rfl) ⟨?_, ?_, ?_⟩
 .intro β' a' w' s' h1 h2 h3 h4 h5;obtain⟨v',i1,i2⟩:=YQ (B:=B) h1 rfl rfl hlen h4 hok (show fin P fn m s'=I r by rw[← hP];exact h5);exact⟨h1.defers,v',i1,v',rfl,i2⟩
 .intro β' a' w' s' h1 h2 h3 h4 h5;obtain⟨v',i1,i2⟩:=YQ (B:=B) h1 rfl rfl hlen h4 hok (show fin P fn m s'=I r by rw[← hP];exact h5);exact⟨h1.defers,v',i1,v',rfl,i2⟩
 .intro id β' a' w' s' h1 h2 h3 h4 h5;cases h5
end
end Go.VS
namespace Go.VS
open Go
def HG(l:List Sh):Bool:=Hr l&&l.all λh=> !Tp h
section
variable {B:Ba} {β β':Beta} {H:Hp} {w w':World} {M:Nat->Prop} {stk:List (Array Value)} {s s':S} {a:Act} {P:Program} {E:Nat->AV} {e:Nat->Value} {b:Nat}
mutual
theorem asl:∀h:Sh,Df h=A0->IW h=A0/\Lp h=[]
 | .int _,_=>⟨rfl,rfl⟩
 | .bool,_=>⟨rfl,rfl⟩
 | .str,_=>⟨rfl,rfl⟩
 | .sl _,_=>⟨rfl,rfl⟩
 | .row _ _,_=>⟨rfl,rfl⟩
 | .fz _,_=>⟨rfl,rfl⟩
 | .CV _ _,_=>⟨rfl,rfl⟩
 | .abx _ _,_=>⟨rfl,rfl⟩
 | .arr _,h=>by simp[Df]at h
 | .agg _,h=>by simp[Df]at h
 | .same _,h=>by simp[Df]at h
 | .box _ l,h=>by
  have:=iz l (by simpa[Df] using h);exact⟨by simpa[IW] using this.1,by simpa[Lp] using this.2⟩
theorem iz:∀l:List Sh,Hr l=A0->Mt l=A0/\IT l=[]
 | [],_=>⟨rfl,rfl⟩
 | h::l,hl=>by
  simp only[Hr,AE]at hl;have h1:=asl h hl.1;have h2:=iz l hl.2;exact⟨by simp[Mt,h1.1,h2.1],by simp[IT,h1.2,h2.2]⟩
end
def Wr:∀(l:List Sh) (H:Hp) (b:Nat) (cs:List AV) (x:LTs l),HG l=A0->BN E H b l cs x=Al E H b l x
 | [],_,_,_,_,_=>rfl
 | h::l,H,b,cs,x,hl=>by
  simp only[HG,Hr,Ox,AE]at hl;obtain⟨⟨h1,h2⟩,h3,h4⟩:=hl;have un:BN E H b (h::l) cs x=(match Ct E H b h (cs.headD .un) x.1 with|(d,H,b)=>match BN E H b l cs.tail x.2 with|(ds,H,b)=>(d::ds,H,b)):=rfl;have un2:Al E H b (h::l) x=(match BD E H b h x.1 with|(c,H,b)=>match Al E H b l x.2 with|(cs,H,b)=>(c::cs,H,b)):=rfl;have e1:Ct E H b h (cs.headD .un) x.1=BD E H b h x.1:=jz h1 (λt l' e'=>by rw[e']at h3;simp[Tp]at h3);rw[un,un2,e1];generalize BD E H b h x.1=r;obtain⟨c,H',b'⟩:=r;simp only;rw[Wr l H' b' cs.tail x.2 (by simp only[HG,AE];exact⟨h2,h4⟩)]
mutual
theorem aDp:∀(h:Sh) (H:Hp) (b:Nat) (x:LT h) (v:Value) (os:List (Value×Nat)),IW h=A0->Rel P w M e h x v os->(BD E H b h x).2.2=b+os.length
 | .int k,H,b,x,v,os,_,hr=>by obtain⟨_,rfl⟩:=hr;rfl
 | .bool,H,b,x,v,os,_,hr=>by obtain⟨_,rfl⟩:=hr;rfl
 | .str,H,b,x,v,os,_,hr=>by obtain⟨_,rfl⟩:=hr;rfl
 | .sl k,H,b,x,v,os,_,hr=>by obtain⟨_,rfl⟩:=hr;rfl
 | .fz k,H,b,x,v,os,_,hr=>by obtain⟨_,rfl⟩:=hr;rfl
 | .row t k,H,b,x,v,os,_,hr=>by obtain⟨rfl,_⟩:=hr;rfl
 | .CV t k,H,b,x,v,os,_,hr=>by obtain⟨rfl,_⟩:=hr;rfl
 | .abx t k,H,b,x,v,os,_,hr=>by obtain⟨rfl,_⟩:=hr;rfl
 | .arr _,_,_,_,_,_,h,_=>by simp[IW]at h
 | .agg _,_,_,_,_,_,h,_=>by simp[IW]at h
 | .same t,H,b,x,v,os,_,hr=>by obtain⟨rfl,_⟩:=hr;rfl
 | .box t l,H,b,x,v,os,hl,hr=>by
  obtain⟨bb,us,os',rfl,h2,h3,rfl⟩:=hr;have un:BD E H b (.box t l) x=(match Al E H b l x with|(cs,H,b)=>(AV.ptr b cs.length 0 0,upd H b<|I<|.box t cs,b+1)):=rfl;have k:=X5 l H b x us.toList os' (by simpa[IW] using hl) h3;rw[un];generalize Al E H b l x=r at *;obtain⟨cs,H',b'⟩:=r;have k:b'=b+os'.length:=k;simp[k,D3]
theorem X5:∀(l:List Sh) (H:Hp) (b:Nat) (x:LTs l) (us:List Value) (os:List (Value×Nat)),Mt l=A0->CX P w M e l x us os->(Al E H b l x).2.2=b+os.length
 | [],H,b,x,us,os,_,hr=>by obtain⟨_,rfl⟩:=hr;rfl
 | h::l,H,b,x,us,os,hl,hr=>by
  obtain⟨u,us',o1,o2,rfl,rfl,h1,h2⟩:=hr;simp only[Mt,AE]at hl;have un:Al E H b (h::l) x=(match BD E H b h x.1 with|(c,H,b)=>match Al E H b l x.2 with|(cs,H,b)=>(c::cs,H,b)):=rfl;have k:=aDp h H b x.1 u o1 hl.1 h1;rw[un];generalize BD E H b h x.1=r at *;obtain⟨c,H',b'⟩:=r;have k:b'=b+o1.length:=k;subst k;have k2:=X5 l H' (b+o1.length) x.2 us' o2 hl.2 h2;simp only;generalize Al E H' (b+o1.length) l x.2=r at *;obtain⟨cs,H'',b''⟩:=r;have k2:b''=_:=k2;simp[k2,D3]
end
mutual
theorem auL:∀(h:Sh) (H:Hp) (b:Nat) (x:LT h) (j:Nat),¬(b<=j/\j<(BD E H b h x).2.2)->(BD E H b h x).2.1 j=H j
 | .int _,H,_,_,_,_=>rfl
 | .bool,H,_,_,_,_=>rfl
 | .str,H,_,_,_,_=>rfl
 | .sl _,H,_,_,_,_=>rfl
 | .arr _,H,_,_,_,_=>rfl
 | .same _,H,_,_,_,_=>rfl
 | .fz _,H,_,_,_,_=>rfl
 | .row _ _,H,b,_,j,hj=>BB _ _ (λe=>hj ⟨J,by show j<b+1;omega⟩)
 | .CV _ _,H,b,_,j,hj=>BB _ _ (λe=>hj ⟨J,by show j<b+1;omega⟩)
 | .abx _ _,H,b,_,j,hj=>BB _ _ (λe=>hj ⟨J,by show j<b+1;omega⟩)
 | .agg l,H,b,x,j,hj=>by
  have un:BD E H b (.agg l) x=(match Al E H b l x with|(cs,H,b)=>(AV.agg cs,H,b)):=rfl;have ih:=XS l H b x j;rw[un]at hj ⊢;generalize Al E H b l x=r at *;exact ih hj
 | .box e l,H,b,x,j,hj=>by
  have un:BD E H b (.box e l) x=(match Al E H b l x with|(cs,H,b)=>(AV.ptr b cs.length 0 0,upd H b<|I<|.box e cs,b+1)):=rfl;have ih:=XS l H b x j;have hle:=Iy E l H b x;rw[un]at hj ⊢;generalize Al E H b l x=r at *;obtain⟨cs,H',b'⟩:=r;simp only at hj ih hle ⊢;rw[BB _ _ λe=>hj ⟨J,J⟩];exact ih λh=>hj ⟨h.1,J⟩
theorem XS:∀(l:List Sh) (H:Hp) (b:Nat) (x:LTs l) (j:Nat),¬(b<=j/\j<(Al E H b l x).2.2)->(Al E H b l x).2.1 j=H j
 | [],H,_,_,_,_=>rfl
 | h::l,H,b,x,j,hj=>by
  have un:Al E H b (h::l) x=(match BD E H b h x.1 with|(c,H,b)=>match Al E H b l x.2 with|(cs,H,b)=>(c::cs,H,b)):=rfl;have ih:=auL h H b x.1 j;have hle:=EF E h H b x.1;rw[un]at hj ⊢;generalize BD E H b h x.1=r at *;obtain⟨c,H',b'⟩:=r;have ih2:=XS l H' b' x.2 j;have PO:=Iy E l H' b' x.2;simp only at hj ⊢;generalize Al E H' b' l x.2=r at *;obtain⟨cs,H'',b''⟩:=r;simp only at hj ih ih2 hle PO ⊢;rw[ih2 λh=>hj ⟨J,h.2⟩];exact ih λh=>hj ⟨h.1,J⟩
end
end
end Go.VS
namespace Go.VS
open Go
section
variable {B B':Ba} {β β':Beta} {H:Hp} {w w':World} {M M':Nat->Prop} {stk:List (Array Value)} {s s':S} {a:Act} {P:Program} {E:Nat->AV} {e:Nat->Value} {b:Nat}
def St.ayv{f:AV->AV}(h:St B β stk s a w)(ht:B'.tm0=B.tm0)(hf:∀c,GH c=A0->f c=c)(hg:∀c g want x,f c= .gd g want x->∃y,c= .gd g want y)(hk:Kf f w β w' β'){H':Hp}(hH:Hs B' β' H' w'):St B' β' stk { s.map f with H:=H' } a w':=by
 have g1:∀c g want x,Fo f c= .gd g want x->∃y,c= .gd g want y:=by
  intro c g want x e;cases c<;>first|(cases e;done)|exact hg _ _ _ _ e
 have g2:∀c g want x,G5 f c= .gd g want x->∃y,c= .gd g want y:=by
  intro c g want x e;cases c<;>first|(cases e;done)|exact g1 _ _ _ _ e
 have g3:∀c g want x,El f c= .gd g want x->∃y,c= .gd g want y:=by
  intro c g want x e;cases c with
  | gd g' w' y=>cases e;exact⟨_,rfl⟩
  | _=>exact g2 _ _ _ _ e
 refine⟨λt=>RT.map hf hk<|h.T t,⟨by simpa[S.map] using h.stack.1,λi T tm h1 h2 t=> ?_⟩,h.n,h.defers,λt ht'=>by rw[ht];exact h.pins t ht',λt g want x hx=> ?_,hH⟩
 .simp only[S.map,D2,D4]at h1;obtain⟨T0,h3,rfl⟩:=h1;exact RT.map hf hk (h.stack.2 i T0 tm h3 h2 t)
 .obtain⟨y,hy⟩:=g3 _ _ _ _ hx;exact h.gs _ _ _ _ hy
def Beta.kz(β:Beta)(id:Nat):Beta:=⟨upd β.f id U,λb=>β.Z b\/ ∃p a,β id=I p/\adr p.1=I a/\a.block=b⟩
def Beta.Zg(β:Beta)(id j:Nat):(β.kz id) j=if j=id then U else β j:=by
 show upd β.f id U j=_;by_cases e:j=id
 .subst e;rw[Bf,A8 rfl]
 .rw[BB _ _ e,AD e]
def St.ay6(h:St B β stk s a w)(id:Nat):St { B with Z:=(β.kz id).Z } (β.kz id) stk (s.kill id) a w:=by
 have hM:∀b,¬MZ β b->b<w.heap.size->¬MZ (β.kz id) b:=λb hb _ hm=>by
  obtain⟨j,hd,n,a,hj,ha,hab⟩|hz|⟨p,a,hp,ha,hab⟩:=hm
  .rw[Beta.Zg]at hj;split at hj
   .cases hj
   .exact hb (.inl ⟨j,hd,n,a,hj,ha,hab⟩)
  .exact hb (.inr hz)
  .exact hb<|.inl ⟨id,p.1,p.2,a,hp,ha,hab⟩
 have hk:Kf (kl1 id) w β w (β.kz id):=Kf.kill (λj e=>BB _ _ e) (λ_ _ _ _ h=>h) hM;have hH:=h.hs.abd (Iu id) hk (λj e=>BB _ _ e) (.inl ⟨Bf _ _ _,rfl⟩) (λ_ _ _ _ _ _=>rfl) rfl rfl rfl (As _) (λ_ _ _=>rfl) (λb hb=>hb.imp (λh=>h) λh=>⟨Bf _ _ _,h⟩) (Pk.refl _ _);exact h.ayv (B':={ B with Z:=(β.kz id).Z }) rfl (Iu id) (Ok id) hk hH
def St.abe:∀(ids:List Nat) {B:Ba} {β:Beta} {s:S},ids.Nodup->St B β stk s a w->∃β2:Beta,St { B with Z:=β2.Z } β2 stk (ids.foldl S.kill s) a w/\(∀j,β2 j=if j∈ids then U else β j)/\
  (∀b,β2.Z b↔β.Z b\/ ∃i∈ids,∃p a,β i=I p/\adr p.1=I a/\a.block=b)
 | [],B,β,s,_,h=>by
  have e:{ B with Z:=β.Z } =B:=by rw[h.hs.z]
  exact⟨β,by rw[e];exact h,λj=>by simp,λb=>by simp⟩
 | i::ids,B,β,s,hn,h=>by
  obtain⟨hn1,hn2⟩:=Ks.1 hn;obtain⟨β2,h1,h2,h3⟩:=St.abe ids hn2<|h.ay6 i;refine⟨β2,h1,λj=> ?_,λb=> ?_⟩
  .rw[h2,Beta.Zg];by_cases e1:j∈ids
   .rw[A8 e1,A8<|Am _ e1]
   .by_cases e2:j=i
    .rw[AD e1,A8 e2,A8 (by rw[e2];exact Ap)]
    .rw[AD e1,AD e2,AD<|by simp[e1,e2]]
  .rw[h3];constructor
   .rintro((h|⟨p,a,h⟩)|⟨j,hj,p,a,hp,h⟩)
    .exact .inl h
    .exact .inr ⟨i,Ap,p,a,h⟩
    .rw[Beta.Zg]at hp;split at hp
     .cases hp
     .exact .inr ⟨j,Am _ hj,p,a,hp,h⟩
   .rintro(h|⟨j,hj,p,a,hp,h⟩)
    .exact .inl (.inl h)
    .rcases Bj.1 hj with rfl|hj
     .exact .inl (.inr ⟨p,a,hp,h⟩)
     .refine .inr ⟨j,hj,p,a, ?_,h⟩;rw[Beta.Zg,AD fun(e:j=i)=>hn1<|e▸hj];exact hp
def St.Zf(h:St B β stk s a w)(id:Nat):St B (β.up id U) stk (s.freeze id) a w:=by
 unfold S.freeze;split
 .rename_i e fz k xs hid;obtain⟨h1,h2⟩:=h.hs.Zf hid;exact h.map (k9 id k xs) (aam id k xs) h2 h1
 .obtain⟨h1,h2⟩:=h.hs.abb id;exact h.map (Iu id) (Ok id) h2 h1
def St.abZ:∀(ids:List Nat) {β:Beta} {s:S},St B β stk s a w->∃β2:Beta,St B β2 stk (ids.foldl S.freeze s) a w/\(∀j,β2 j=if j∈ids then U else β j)/\β2.Z=β.Z
 | [],β,s,h=>⟨β,h,λj=>by simp,rfl⟩
 | i::ids,β,s,h=>by
  obtain⟨β2,h1,h2,h3⟩:=St.abZ ids<|h.Zf i;refine⟨β2,h1,λj=> ?_,h3⟩;rw[h2];by_cases e1:j∈ids
  .rw[A8 e1,A8<|Am _ e1]
  .by_cases e2:j=i
   .subst e2;rw[AD e1,A8 Ap,Beta.U4]
   .rw[AD e1,Beta.Nf _ _ e2,AD<|by simp[e1,e2]]
def St.ayb(q:Bool)(ids:List Nat)(h:St B β stk s a w):∃β2:Beta,St B β2 stk (G8 q ids s) a w/\(∀j,β2 j=if q=A0/\j∈ids then U else β j)/\β2.Z=β.Z:=by
 cases q with
 | false=>exact⟨β,h,λj=>by simp,rfl⟩
 | true=>
  obtain⟨β2,h1,h2,h3⟩:=St.abZ ids h;exact⟨β2,h1,λj=>by simp[h2],h3⟩
def aCn{t:TypeId}{j:Nat}:∀(ids:List Nat) (s:S) {cs:List AV},j ∉ ids->s.H j=I (.box t cs)->∃cs',(ids.foldl S.kill s).H j=I (.box t cs')
 | [],s,cs,_,h=>⟨cs,h⟩
 | i::ids,s,cs,hj,h=>by
  have hne:j≠i:=λe=>hj<|e▸Ap;refine aCn ids (s.kill i) (cs:=cs.map<|kl1 i) (λhm=>hj<|Am _ hm) ?_;show upd (λj=>CD (kl1 i)<|s.H j) i U j=_;rw[BB _ _ hne,h];rfl
def aAq{t:TypeId}{j:Nat}:∀(ids:List Nat) (s:S) {cs:List AV},j ∉ ids->s.H j=I (.box t cs)->∃cs',(ids.foldl S.freeze s).H j=I (.box t cs')
 | [],s,cs,_,h=>⟨cs,h⟩
 | i::ids,s,cs,hj,h=>by
  have hne:j≠i:=λe=>hj<|e▸Ap;have:∃cs',(s.freeze i).H j=I (.box t cs'):=by
   unfold S.freeze;split
   .rename_i k xs _;refine⟨cs.map<|fz1 i k xs, ?_⟩;show upd (λj=>CD (fz1 i k xs)<|s.H j) i U j=_;rw[BB _ _ hne,h];rfl
   .refine⟨cs.map<|kl1 i, ?_⟩;show upd (λj=>CD (kl1 i)<|s.H j) i U j=_;rw[BB _ _ hne,h];rfl
  obtain⟨cs',h'⟩:=this;exact aAq ids (s.freeze i) (λhm=>hj<|Am _ hm) h'
def atn{t:TypeId}{j:Nat}(q:Bool)(ids:List Nat)(s:S){cs:List AV}(hj:¬(q=A0/\j∈ids))(h:s.H j=I (.box t cs)):∃cs',(G8 q ids s).H j=I (.box t cs'):=by
 cases q with
 | false=>exact⟨cs,h⟩
 | true=>exact aAq ids s (λhm=>hj ⟨rfl,hm⟩) h
mutual
theorem atM:∀(h:Sh) (c:AV),(C6 H h c).Sublist<|CQ H h c
 | .int _,_=>Er _
 | .bool,_=>Er _
 | .str,_=>Er _
 | .sl _,_=>Er _
 | .arr _,_=>Er _
 | .same _,_=>Er _
 | .fz _,_=>Er _
 | .row _ _,c=>by cases c<;>exact Er _
 | .CV _ _,c=>by cases c<;>exact Er _
 | .abx _ _,c=>by
  cases c with
  | ptr id z i o=>cases i<;>cases o<;>exact Er _
  | _=>exact Er _
 | .agg l,c=>by
  cases c with
  | agg cs=>exact XJ l cs
  | _=>exact Er _
 | .box t l,c=>by
  cases c with
  | ptr id z i o=>
   cases i<;>cases o<;>simp only[C6,CQ]<;>first|exact Er _|skip
   split
   .exact(XJ l _).trans (List.sublist_append_left _ _)
   .exact Er _
  | _=>exact Er _
theorem XJ:∀(l:List Sh) (cs:List AV),(CP H l cs).Sublist<|Bh H l cs
 | [],_=>by simp only[CP,Bh];exact Er _
 | _::_,[]=>by simp only[CP,Bh];exact Er _
 | h::l,c::cs=>by
  simp only[CP,Bh];exact(atM h c).append<|XJ l cs
end
def QO(H:Hp)(i:Nat):Prop:=∀t cs,H i≠I (.box t cs)
mutual
theorem arb:∀(h:Sh) (c:AV) (x:LT h),Bl E H h c=I x->∀i∈C6 H h c,QO H i
 | .int _,_,_,_,i,hi=>by simp[C6]at hi
 | .bool,_,_,_,i,hi=>by simp[C6]at hi
 | .str,_,_,_,i,hi=>by simp[C6]at hi
 | .sl _,_,_,_,i,hi=>by simp[C6]at hi
 | .arr _,_,_,_,i,hi=>by simp[C6]at hi
 | .same _,_,_,_,i,hi=>by simp[C6]at hi
 | .fz _,_,_,_,i,hi=>by simp[C6]at hi
 | .row t k,c,x,hx,i,hi=>by
  cases c<;>simp[C6]at hi;subst hi;intro t' cs hb;simp[Bl,hb]at hx
 | .CV t k,c,x,hx,i,hi=>by
  cases c<;>simp[C6]at hi;subst hi;intro t' cs hb;simp[Bl,hb]at hx
 | .abx t k,c,x,hx,i,hi=>by
  cases c with
  | ptr id z i' o=>
   cases i'<;>cases o<;>simp[C6]at hi;subst hi;intro t' cs hb;simp[Bl,hb]at hx
  | _=>simp[C6]at hi
 | .agg l,c,x,hx,i,hi=>by
  cases c with
  | agg cs=>exact Wu l cs x hx i<|by simpa[C6] using hi
  | _=>simp[C6]at hi
 | .box t l,c,x,hx,j,hi=>by
  cases c with
  | ptr id z i o=>
   cases i<;>cases o<;>simp only[C6]at hi<;>first|(simp at hi;done)|skip
   cases ho:H id with
   | none=>simp[ho]at hi
   | some ob=>
    cases ob with
    | box e' cs=>
     simp only[ho]at hi;simp only[Bl,ho]at hx;split at hx
     .exact Wu l cs x hx j hi
     .cases hx
    | _=>simp[ho]at hi
  | _=>simp[C6]at hi
theorem Wu:∀(l:List Sh) (cs:List AV) (x:LTs l),G4 E H l cs=I x->∀i∈CP H l cs,QO H i
 | [],cs,_,_,i,hi=>by simp[CP]at hi
 | _::_,[],_,_,i,hi=>by simp[CP]at hi
 | h::l,c::cs,x,hx,i,hi=>by
  obtain⟨x1,e1,hx⟩:=Aj.1 hx;obtain⟨x2,e2,hx⟩:=Aj.1 hx;simp only[CP,BM]at hi;obtain hi|hi:=hi
  .exact arb h c x1 e1 i hi
  .exact Wu l cs x2 e2 i hi
end
mutual
theorem asL:∀(h:Sh) (c:AV) (x:LT h),Bl E H h c=I x->∀i∈Cf H h c,QO H i
 | .int _,_,_,_,i,hi=>by simp[Cf]at hi
 | .bool,_,_,_,i,hi=>by simp[Cf]at hi
 | .str,_,_,_,i,hi=>by simp[Cf]at hi
 | .sl _,_,_,_,i,hi=>by simp[Cf]at hi
 | .arr _,_,_,_,i,hi=>by simp[Cf]at hi
 | .same _,_,_,_,i,hi=>by simp[Cf]at hi
 | .row _ _,_,_,_,i,hi=>by simp[Cf]at hi
 | .CV _ _,_,_,_,i,hi=>by simp[Cf]at hi
 | .abx _ _,_,_,_,i,hi=>by simp[Cf]at hi
 | .fz k,c,x,hx,i,hi=>by
  cases c<;>simp[Cf]at hi;subst hi;intro t' cs hb;simp[Bl,C7,hb]at hx
 | .agg l,c,x,hx,i,hi=>by
  cases c with
  | agg cs=>exact Ws l cs x hx i<|by simpa[Cf] using hi
  | _=>simp[Cf]at hi
 | .box t l,c,x,hx,j,hi=>by
  cases c with
  | ptr id z i o=>
   cases i<;>cases o<;>simp only[Cf]at hi<;>first|(simp at hi;done)|skip
   cases ho:H id with
   | none=>simp[ho]at hi
   | some ob=>
    cases ob with
    | box e' cs=>
     simp only[ho]at hi;simp only[Bl,ho]at hx;split at hx
     .exact Ws l cs x hx j hi
     .cases hx
    | _=>simp[ho]at hi
  | _=>simp[Cf]at hi
theorem Ws:∀(l:List Sh) (cs:List AV) (x:LTs l),G4 E H l cs=I x->∀i∈Cp H l cs,QO H i
 | [],cs,_,_,i,hi=>by simp[Cp]at hi
 | _::_,[],_,_,i,hi=>by simp[Cp]at hi
 | h::l,c::cs,x,hx,i,hi=>by
  obtain⟨x1,e1,hx⟩:=Aj.1 hx;obtain⟨x2,e2,hx⟩:=Aj.1 hx;simp only[Cp,BM]at hi;obtain hi|hi:=hi
  .exact asL h c x1 e1 i hi
  .exact Ws l cs x2 e2 i hi
end
def iy{k:K}(h:Qp k=A0)(x:Tof k):∀c∈enc k x,∃v,c= .lit v:=by
 have key:(enc k x).all (λc=>match c with
   | .lit _=>A0
   | _=>A3)=A0:=by cases k<;>first|(cases h;done)|rfl
 intro c hc;have:=C0.1 key c hc;cases c<;>first|exact⟨_,rfl⟩|cases this
def TL:Beta:=⟨λ_=>U,λ_=>False⟩
def XB{b:Nat}:¬MZ TL b:=by
 rintro(⟨_,_,_,_,h,_⟩|h)
 .cases h
 .exact h
def FL.anyM{t:TypeId}{fz:Bool}{k:K}{xs:List (Tof k)}{v:Value}(hk:Qp k=A0)(h:FL w β t fz k xs v):FL w β' t fz k xs v:=by
 obtain h|⟨b,f,cap,us,fr,h1,h2,h3,h4,h5,h6,h7⟩:=h
 .exact .inl h
 .refine .inr ⟨b,f,cap,us,fr,h1,h2,h3,h4,h5,h6,λi x j c u a1 a2 a3=> ?_⟩;have h8:=h7 i x j c u a1 a2 a3;obtain⟨v,rfl⟩:=iy hk x c<|Cb a2;cases h8 with
  | lit h=>exact .lit h
mutual
theorem Rel.anyM:∀(h:Sh) (x:LT h) (v:Value) (os:List (Value×Nat)),MA h=A3->Rel P w M e h x v os->Rel P w M' e h x v os
 | .int _,_,_,_,_,h=>h
 | .bool,_,_,_,_,h=>h
 | .str,_,_,_,_,h=>h
 | .sl _,_,_,_,h,_=>by cases h
 | .fz _,_,_,_,h,_=>by cases h
 | .row t k,_,_,_,hm,h=>⟨h.1,h.2.1,λβ _=>(h.2.2 TL λb hb=>absurd hb XB).anyM<|by simpa[MA] using hm⟩
 | .CV t k,_,_,_,hm,h=>⟨h.1,h.2.1,λβ _=>(h.2.2 TL λb hb=>absurd hb XB).anyM<|by simpa[MA] using hm⟩
 | .abx t k,_,_,_,hm,h=>by
  obtain⟨h1,h2,b,us,h3,h4,h5,h6,h7⟩:=h;refine⟨h1,h2,b,us,h3,h4,h5,h6,λβ _ i x j c u a1 a2 a3=> ?_⟩;have h8:=h7 TL (λb hb=>absurd hb XB) i x j c u a1 a2 a3;obtain⟨v,rfl⟩:=iy (by simpa[MA] using hm) x c<|Cb a2;cases h8 with
  | lit h=>exact .lit h
 | .arr k,_,_,_,hm,h=>by
  obtain⟨h1,h2⟩:=h;refine⟨h1,λβ _=> ?_⟩;obtain⟨us,k1,k2,k3⟩:=h2 TL (λb hb=>absurd hb XB);refine⟨us,k1,k2,λi x j c u a1 a2 a3=> ?_⟩;have h8:=k3 i x j c u a1 a2 a3;obtain⟨v,rfl⟩:=iy (by simpa[MA] using hm) x c<|Cb a2;cases h8 with
  | lit h=>exact .lit h
 | .same t,_,_,_,_,h=>h
 | .agg l,x,v,os,hm,h=>by
  obtain⟨us,h1,h2⟩:=h;exact⟨us,h1,CX.anyM l x us os (by simpa[MA] using hm) h2⟩
 | .box t l,x,v,os,hm,h=>by
  obtain⟨b,us,os',h1,h2,h3,h4⟩:=h;exact⟨b,us,os',h1,h2,CX.anyM l x us.toList os' (by simpa[MA] using hm) h3,h4⟩
theorem CX.anyM:∀(l:List Sh) (x:LTs l) (us:List Value) (os:List (Value×Nat)),CH l=A3->CX P w M e l x us os->CX P w M' e l x us os
 | [],_,_,_,_,h=>h
 | h::l,x,us,os,hm,hr=>by
  obtain⟨u,us',o1,o2,h1,h2,h3,h4⟩:=hr;simp only[CH,NC]at hm;exact⟨u,us',o1,o2,h1,h2,Rel.anyM h x.1 u o1 hm.1 h3,CX.anyM l x.2 us' o2 hm.2 h4⟩
end
end
end Go.VS
namespace Go.VS
open Go
def ab8:List Sh->Bool
 | .box _ l2::l=>HG l2&&HG l
 | l=>HG l
def aEy:List Sh->Bool
 | .box _ _::_=>A0
 | _=>A3
def ZW(P:Program):List Sh->Bool
 | []=>A0
 | h::ps=>(match h with
  | .box t l=>ab8 l&&(!aEy l||Oq P t)
  | .agg l=>HG l
  | _=>A0)&&ZW P ps
section
variable {B B':Ba} {β β':Beta} {H:Hp} {w w':World} {M M':Nat->Prop} {stk:List (Array Value)} {s s':S} {a:Act} {P:Program} {E:Nat->AV} {e:Nat->Value} {b:Nat} {C:Cx}
mutual
theorem X8:∀(h:Sh) (c:AV),Df h=A0->Tp h=A3->∀i∈CQ H h c,i∈C6 H h c
 | .int _,_,_,_,i,hi=>by simp[CQ]at hi
 | .bool,_,_,_,i,hi=>by simp[CQ]at hi
 | .str,_,_,_,i,hi=>by simp[CQ]at hi
 | .sl _,_,_,_,i,hi=>by simp[CQ]at hi
 | .fz _,_,_,_,i,hi=>by simp[CQ]at hi
 | .row _ _,c,_,_,i,hi=>by cases c<;>first|exact hi|(simp[CQ]at hi;done)
 | .CV _ _,c,_,_,i,hi=>by cases c<;>first|exact hi|(simp[CQ]at hi;done)
 | .abx _ _,c,_,_,i,hi=>by
  cases c with
  | ptr id z i' o=>cases i'<;>cases o<;>first|exact hi|(simp[CQ]at hi;done)
  | _=>simp[CQ]at hi
 | .arr _,_,h,_,_,_=>by simp[Df]at h
 | .same _,_,h,_,_,_=>by simp[Df]at h
 | .agg _,_,h,_,_,_=>by simp[Df]at h
 | .box _ _,_,_,h,_,_=>by cases h
end
def SO:∀(l:List Sh) (cs:List AV),HG l=A0->∀i∈Bh H l cs,i∈CP H l cs
 | [],cs,_,i,hi=>by simp[Bh]at hi
 | _::_,[],_,i,hi=>by simp[Bh]at hi
 | h::l,c::cs,hl,i,hi=>by
  simp only[HG,Hr,Ox,AE,CL]at hl;obtain⟨⟨h1,h2⟩,h3,h4⟩:=hl;simp only[Bh,BM]at hi;obtain hi|hi:=hi
  .exact Bq _ (X8 h c h1 h3 i hi)
  .refine CK _<|SO l cs ?_ i hi;simp only[HG,AE];exact⟨h2,h4⟩
def EJ:List AV->List Nat
 | []=>[]
 | .ptr id _ 0 0::l=>id::EJ l
 | _::l=>EJ l
def aEg{id:Nat}:∀ {ds:List AV},id∈EJ ds->∃z,AV.ptr id z 0 0∈ds
 | [],h=>by cases h
 | c::ds,h=>by
  have rest:id∈EJ ds->∃z,AV.ptr id z 0 0∈c::ds:=λh=>by
   obtain⟨z,hz⟩:=aEg h;exact⟨z,Am _ hz⟩
  cases c<;>first|exact rest h|skip
  rename_i a b i o;cases i<;>cases o<;>first|exact rest h|skip
  rcases Bj.1 h with h|h
  .subst h;exact⟨b,Ap⟩
  .exact rest h
inductive Fb (P:Program) (w:World) (H:Hp):List Sh->List AV->List Value->List AV->List Value->Prop
 | nil:Fb P w H [] [] [] [] []
 | flat {t:TypeId} {l bs:List Sh} {id z bb:Nat} {cs ds:List AV} {vs us:List Value} (hl:HG l=A0) (hb:∃t0 cs0,H id=I (.box t0 cs0)) (h:Fb P w H bs cs vs ds us):
   Fb P w H (.box t l::bs) (.ptr id z 0 0::cs) (.pointer (I ⟨bb,0,U⟩)::vs) (.ptr id z 0 0::ds) (.pointer (I ⟨bb,0,U⟩)::us)
 | nest {t t2 t0:TypeId} {l2 l bs:List Sh} {id z id2 z2 bb bb2:Nat} {cs1 cs ds:List AV} {vs us:List Value} (hl2:HG l2=A0) (hl:HG l=A0) (hid:H id=I (.box t0 (.ptr id2 z2 0 0::cs1)))
   (hb2:∃t0 cs0,H id2=I (.box t0 cs0)) (hn:Oq P t=A0) (hc:∃us0 fr,w.heap[bb]? =I (.cells us0 t fr)/\us0[0]? =I (.pointer<|I ⟨bb2,0,U⟩)) (h:Fb P w H bs cs vs ds us):
   Fb P w H (.box t (.box t2 l2::l)::bs) (.ptr id z 0 0::cs) (.pointer (I ⟨bb,0,U⟩)::vs) (.ptr id2 z2 0 0:: .ptr id z 0 0::ds) (.pointer (I ⟨bb2,0,U⟩):: .pointer (I ⟨bb,0,U⟩)::us)
def Fb.carry{bs:List Sh}{cs ds:List AV}{vs us:List Value}{H':Hp}(h:Fb P w H bs cs vs ds us)(hpk:Pk P w w')
  (hH:∀id∈EJ ds,∀t cs,H id=I (.box t cs)->∃cs',H' id=I (.box t cs')/\ ∀id2 z2 cs1,cs= .ptr id2 z2 0 0::cs1->id2∈EJ ds->∃K9,cs'= .ptr id2 z2 0 0::K9):Fb P w' H' bs cs vs ds us:=by
 induction h with
 | nil=>exact .nil
 | @flat t l bs id z bb cs ds vs us hl hb h ih=>
  refine .flat hl ?_ (ih λi hi t0 c0 h0=> ?_)
  .obtain⟨t0,c0,h0⟩:=hb;obtain⟨c1,h1,_⟩:=hH id Ap t0 c0 h0;exact⟨t0,c1,h1⟩
  .obtain⟨c1,h1,h2⟩:=hH i (Am _ hi) t0 c0 h0;exact⟨c1,h1,λa b c e hm=>h2 a b c e<|Am _ hm⟩
 | @nest t t2 t0 l2 l bs id z id2 z2 bb bb2 cs1 cs ds vs us hl2 hl hid hb2 hn hc h ih=>
  obtain⟨c1,h1,h2⟩:=hH id (Am _ Ap) t0 _ hid;obtain⟨c2,rfl⟩:=h2 id2 z2 cs1 rfl Ap;refine .nest hl2 hl h1 ?_ hn ?_ (ih λi hi t0 c0 h0=> ?_)
  .obtain⟨t3,c3,h3⟩:=hb2;obtain⟨c4,h4,_⟩:=hH id2 Ap t3 c3 h3;exact⟨t3,c4,h4⟩
  .obtain⟨us0,fr,h3,h4⟩:=hc;obtain⟨us1,fr1,h5,h6⟩:=hpk bb us0 t fr _ h3 h4 hn;exact⟨us1,fr1,h5,h6⟩
  .obtain⟨c3,h3,h4⟩:=hH i (Am _<|Am _ hi) t0 c0 h0;exact⟨c3,h3,λa b c e hm=>h4 a b c e<|Am _<|Am _ hm⟩
def lZ{l:List Sh}(hl:HG l=A0)(H:Hp)(b:Nat)(x:LTs l){us1:List Value}{ob:List (Value×Nat)}(hr:CX P w M e l x us1 ob):
  ∃ds1 H1,Al E H b l x=(ds1,H1,b+ob.length)/\(∀j,¬(b<=j/\j<b+ob.length)->H1 j=H j)/\ ∀β:Beta,(∀b,MZ β b->M b)->Num β b ob->RL (RC w β) ds1 us1/\ ∀j,b<=j->j<b+ob.length->∃o,H1 j=I o/\Dx P w β j o:=by
 have hl':=hl;simp only[HG,AE]at hl';obtain⟨Ck,Gf⟩:=iz l hl'.1;have hlen:=X5 (E:=E) (P:=P) (w:=w) (M:=M) (e:=e) l H b x us1 ob Ck hr;have Ev:=XS (E:=E) l H b x;have hrc:=fun(β:Beta) (hM:∀b,MZ β b->M b) (hn:Num β b ob)=>Xd (E:=E) (P:=P) (w:=w) (M:=M) (e:=e) hM l H b x us1 ob Ck hr hn (by rw[Gf];intro t ht;simp at ht);generalize Al E H b l x=r at *;obtain⟨ds1,H1,b1⟩:=r;have hlen:b1=b+ob.length:=hlen;subst hlen;exact⟨ds1,H1,rfl,Ev,λβ hM hn=>⟨(hrc β hM hn).1,(hrc β hM hn).2.2.2⟩⟩
def arj{x y:Value×Nat}{oc ob nw us o2:List (Value×Nat)}(h:o2.Perm (nw++us)):(((oc++[x])++ob)++[y]++o2).Perm (((oc++ob)++nw)++x::y::us):=by
 have h1:(ob++y::o2).Perm (ob++nw++y::us):=by
  rw[Bw];exact Ya ob<|(h.cons y).trans List.perm_middle.symm
 have h2:(oc++x::(ob++y::o2)).Perm (oc++(ob++nw++x::y::us)):=Ya oc<|(h1.cons x).trans List.perm_middle.symm;simpa[Bw] using h2
def k8:∀(bs:List Sh) (H:Hp) (b:Nat) (q:LTs bs) (cs ds:List AV) (vs us:List Value) (os:List (Value×Nat)) (L:Nat),Fb P w H bs cs vs ds us->(EJ ds).Nodup->(∀i∈EJ ds,¬(b<=i/\i<L))->CX P w M e bs q vs os->(BN E H b bs cs q).2.2<=L->
  ∃nw:List (Value×Nat),os.Perm (nw++us.map λv=>(v,1))/\(BN E H b bs cs q).2.2=b+nw.length/\
   ∀β:Beta,(∀b,MZ β b->M b)->Num β b nw->(∀(i:Nat) (c:AV) (v:Value),ds[i]? =I c->us[i]? =I v->∀id z,c= .ptr id z 0 0->β id=I (v,1))->
    (∀j,(BN E H b bs cs q).2.1 j=H j\/ ∃ob,(BN E H b bs cs q).2.1 j=I ob/\Dx P w β j ob)/\
    (∀j,b<=j->j<b+nw.length->∃ob,(BN E H b bs cs q).2.1 j=I ob/\Dx P w β j ob)/\
    (∀id z,AV.ptr id z 0 0∈ds->∃ob,(BN E H b bs cs q).2.1 id=I ob/\Dx P w β id ob)/\
    (∀j,¬(b<=j/\j<b+nw.length)->(∀z,AV.ptr j z 0 0 ∉ ds)->(BN E H b bs cs q).2.1 j=H j)
 | [],H,b,q,cs,ds,vs,us,os,L,hF,_,_,hr,_=>by
  cases hF;obtain⟨_,rfl⟩:=hr;exact⟨[],.nil,rfl,λβ _ _ _=>⟨λj=> .inl rfl,λj h1 h2=>by simp at h2;omega,λid z h=>by simp at h,λj _ _=>rfl⟩⟩
 | h::bs,H,b,q,cs0,ds0,vs0,us0,os,L,hF,hnd,Ev,hr,hL=>by
  cases hF with
  | @flat t l _ id z bb cs ds vs us hl hb hF=>
   obtain⟨u,us',o1,o2,e1,rfl,h1,h2⟩:=hr;cases e1;obtain⟨bb',uc,os',e2,h3,h4,rfl⟩:=h1;cases e2;obtain⟨t0,c0,hid⟩:=hb;obtain⟨da,H1,hmk,ho1,hrc⟩:=lZ (E:=E) hl H b q.1 h4;have JR:id ∉ EJ ds/\(EJ ds).Nodup:=by simpa[EJ] using hnd
   have un:BN E H b (.box t l::bs) (.ptr id z 0 0::cs) q=(match BN E (upd H1 id<|I<|.box t da) (b+os'.length) bs cs q.2 with|(es,H'',b'')=>(AV.ptr id z 0 0::es,H'',b'')):=by
    have u1:BN E H b (.box t l::bs) (.ptr id z 0 0::cs) q=(match Ct E H b (.box t l) (.ptr id z 0 0) q.1 with|(d,H,b)=>match BN E H b bs cs q.2 with|(ds,H,b)=>(d::ds,H,b)):=rfl;have u2:Ct E H b (.box t l) (.ptr id z 0 0) q.1=(match H id with
     | some (.box _ cs)=>(match BN E H b l cs q.1 with|(ds,H,b)=>(AV.ptr id z 0 0,upd H id<|I<|.box t ds,b))
     | _=>(.un,H,b)):=rfl
    rw[u1,u2,hid];simp only;rw[Wr l H b c0 q.1 hl,hmk]
   rw[un]at hL ⊢;have hle:=SK E bs (upd H1 id<|I<|.box t da) (b+os'.length) cs q.2;have hL':(BN E (upd H1 id<|I<|.box t da) (b+os'.length) bs cs q.2).2.2<=L:=by
    generalize BN E (upd H1 id<|I<|.box t da) (b+os'.length) bs cs q.2=r at *;exact hL
   have Gf:∀i∈EJ ds,upd H1 id (I<|.box t da) i=H i:=λi hi=>by
    rw[BB _ _ λe=>JR.1 (by rw[← e];exact hi),ho1 i λhh=>Ev i (Am _ hi) ⟨hh.1,J⟩]
   obtain⟨nw,n1,n4,n5⟩:=k8 bs (upd H1 id<|I<|.box t da) (b+os'.length) q.2 cs ds vs us o2 L (hF.carry (Pk.refl _ _) λi hi t c h0=>⟨c,by rw[Gf i hi];exact h0,λ_ _ c1 e _=>⟨c1,e⟩⟩) JR.2
    (λi hi hh=>Ev i (Am _ hi) ⟨J,hh.2⟩) h2 hL'
   generalize hg:BN E (upd H1 id<|I<|.box t da) (b+os'.length) bs cs q.2=r at *;obtain⟨es,H'',b''⟩:=r;simp only at n4 n5 hle hL hL' ⊢;refine⟨os'++nw, ?_, ?_, ?_⟩
   .rw[Bw,Bw,DP];refine Ya os' ?_;exact((n1.cons (NK<|I ⟨bb,0,U⟩,1)).trans List.perm_middle.symm)
   .rw[n4];simp[D3]
   .intro β hM hn hbx;obtain⟨r1,r3⟩:=hrc β hM hn.left;have ayw:β id=I (.pointer<|I ⟨bb,0,U⟩,1):=hbx 0 _ _ rfl rfl id z rfl;have ac3:Dx P w β id (.box t da):=⟨bb,uc,ayw,h3,r1⟩;obtain⟨m1,m2,m3,m4⟩:=n5 β hM hn.right (λi c v k1 k2=>hbx (i+1) c v (by simpa using k1)<|by simpa using k2);have step:∀j,H'' j=H1 j\/ ∃ob,H'' j=I ob/\Dx P w β j ob:=λj=>by
     rcases m1 j with h|h
     .by_cases e4:j=id
      .subst e4;rw[Bf]at h;exact .inr ⟨_,h,ac3⟩
      .rw[BB _ _ e4]at h;exact .inl h
     .exact .inr h
    refine⟨λj=> ?_,λj k1 k2=> ?_,λid2 z2 hm=> ?_,λj k1 k2=> ?_⟩
    .rcases step j with h|h
     .by_cases hj:b<=j/\j<b+os'.length
      .obtain⟨ob,q1,q2⟩:=r3 j hj.1 hj.2;exact .inr ⟨ob,by rw[h];exact q1,q2⟩
      .exact .inl (h.trans<|ho1 j hj)
     .exact .inr h
    .by_cases hj:j<b+os'.length
     .rcases step j with h|h
      .obtain⟨ob,q1,q2⟩:=r3 j k1 hj;exact⟨ob,by rw[h];exact q1,q2⟩
      .exact h
     .exact m2 j J (by simp at k2;omega)
    .rcases Bj.1 hm with h|h
     .cases h;rcases m1 id with h|h
      .rw[Bf]at h;exact⟨_,h,ac3⟩
      .exact h
     .exact m3 id2 z2 h
    .have hne:j≠id:=λe4=>k2 z (by rw[e4];exact Ap);rw[m4 j (λhh=>k1 ⟨J,by simp;omega⟩) λz' hz'=>k2 z'<|Am _ hz',BB _ _ hne];exact ho1 j λhh=>k1 ⟨hh.1,by simp;omega⟩
  | @nest t t2 t0 l2 l _ id z id2 z2 bb bb2 cs1 cs ds vs us hl2 hl hid hb2 hn hc hF=>
   obtain⟨u,us',o1,o2,e1,rfl,h1,h2⟩:=hr;cases e1;obtain⟨bb',uc,os',e2,h3,h4,rfl⟩:=h1;cases e2;obtain⟨u2,us1,oa,ob,huc,rfl,h5,h6⟩:=h4;obtain⟨aEM,uc2,oc,e3,h7,h8,rfl⟩:=h5;have e4:u2= .pointer (I ⟨bb2,0,U⟩):=by
    obtain⟨us0,fr,k1,k2⟩:=hc;rw[h3]at k1;cases k1;have:uc.toList[0]? =I u2:=by rw[huc];rfl
    rw[TR,k2]at this;exact(C8 this).symm
   rw[e4]at e3;cases e3;subst e4;obtain⟨t3,c3,LD⟩:=hb2;have JR:(id2≠id/\id2 ∉ EJ ds)/\id ∉ EJ ds/\(EJ ds).Nodup:=by simpa[EJ,not_or] using hnd
   obtain⟨da,H1,hmk,ho1,az3⟩:=lZ (E:=E) hl2 H b q.1.1 h8;obtain⟨dc,H3,azA,ho2,az2⟩:=lZ (E:=E) hl (upd H1 id2<|I<|.box t2 da) (b+oc.length) q.1.2 h6;have un:BN E H b (.box t (.box t2 l2::l)::bs) (.ptr id z 0 0::cs) q=
     (match BN E (upd H3 id<|I<|.box t<|.ptr id2 z2 0 0::dc) (b+oc.length+ob.length) bs cs q.2 with|(es,H'',b'')=>(AV.ptr id z 0 0::es,H'',b'')):=by
    have u1:BN E H b (.box t (.box t2 l2::l)::bs) (.ptr id z 0 0::cs) q=(match Ct E H b (.box t<|.box t2 l2::l) (.ptr id z 0 0) q.1 with|(d,H,b)=>match BN E H b bs cs q.2 with|(ds,H,b)=>(d::ds,H,b)):=rfl;have u2:Ct E H b (.box t<|.box t2 l2::l) (.ptr id z 0 0) q.1=(match H id with
     | some (.box _ cs)=>(match BN E H b (.box t2 l2::l) cs q.1 with|(ds,H,b)=>(AV.ptr id z 0 0,upd H id<|I<|.box t ds,b))
     | _=>(.un,H,b)):=rfl
    have u3:BN E H b (.box t2 l2::l) (.ptr id2 z2 0 0::cs1) q.1=(match Ct E H b (.box t2 l2) (.ptr id2 z2 0 0) q.1.1 with|(d,H,b)=>match BN E H b l cs1 q.1.2 with|(ds,H,b)=>(d::ds,H,b)):=rfl;have u4:Ct E H b (.box t2 l2) (.ptr id2 z2 0 0) q.1.1=(match H id2 with
     | some (.box _ cs)=>(match BN E H b l2 cs q.1.1 with|(ds,H,b)=>(AV.ptr id2 z2 0 0,upd H id2<|I<|.box t2 ds,b))
     | _=>(.un,H,b)):=rfl
    rw[u1,u2,hid];simp only;rw[u3,u4,LD];simp only;rw[Wr l2 H b c3 q.1.1 hl2,hmk];simp only;rw[Wr l _ _ cs1 q.1.2 hl,azA]
   rw[un]at hL ⊢;have hle:=SK E bs (upd H3 id<|I<|.box t<|.ptr id2 z2 0 0::dc) (b+oc.length+ob.length) cs q.2;have hL':(BN E (upd H3 id<|I<|.box t<|.ptr id2 z2 0 0::dc) (b+oc.length+ob.length) bs cs q.2).2.2<=L:=by
    generalize BN E (upd H3 id<|I<|.box t<|.ptr id2 z2 0 0::dc) (b+oc.length+ob.length) bs cs q.2=r at *;exact hL
   have hi2:¬(b<=id2/\id2<L):=Ev id2 Ap;have hi1:¬(b<=id/\id<L):=Ev id<|Am _ Ap;have hold:∀j,¬(b<=j/\j<b+oc.length+ob.length)->j≠id->j≠id2->upd H3 id (I<|.box t<|.ptr id2 z2 0 0::dc) j=H j:=λj hj e1 e2=>by
    rw[BB _ _ e1,ho2 j λhh=>hj ⟨J,hh.2⟩,BB _ _ e2,ho1 j λhh=>hj ⟨hh.1,J⟩]
   have Gf:∀i∈EJ ds,upd H3 id (I<|.box t<|.ptr id2 z2 0 0::dc) i=H i:=λi hi=>by
    have:=Ev i<|Am _<|Am _ hi;exact hold i (λhh=>this ⟨hh.1,J⟩) (λe=>JR.2.1 (by rw[← e];exact hi)) λe=>JR.1.2 (by rw[← e];exact hi)
   obtain⟨nw,n1,n4,n5⟩:=k8 bs (upd H3 id<|I<|.box t<|.ptr id2 z2 0 0::dc) (b+oc.length+ob.length) q.2 cs ds vs us o2 L (hF.carry (Pk.refl _ _) λi hi t c h0=>⟨c,by rw[Gf i hi];exact h0,λ_ _ c1 e _=>⟨c1,e⟩⟩) JR.2.2
    (λi hi hh=>Ev i (Am _<|Am _ hi) ⟨J,hh.2⟩) h2 hL'
   generalize hg:BN E (upd H3 id<|I<|.box t<|.ptr id2 z2 0 0::dc) (b+oc.length+ob.length) bs cs q.2=r at *;obtain⟨es,H'',b''⟩:=r;simp only at n4 n5 hle hL hL' ⊢;refine⟨oc++ob++nw, ?_, ?_, ?_⟩
   .exact arj n1
   .rw[n4];simp[D3]
   .intro β hM hn hbx;have ayU:Num β b oc:=hn.left.left;have ayT:Num β (b+oc.length) ob:=hn.left.right;have ayS:Num β (b+oc.length+ob.length) nw:=by
     have:=hn.right;rwa[Ar,← D3]at this
    obtain⟨r1,r3⟩:=az3 β hM ayU;obtain⟨s1,s3⟩:=az2 β hM ayT;have hβ2:β id2=I (.pointer<|I ⟨bb2,0,U⟩,1):=hbx 0 _ _ rfl rfl id2 z2 rfl;have hβ1:β id=I (.pointer<|I ⟨bb,0,U⟩,1):=hbx 1 _ _ rfl rfl id z rfl;have ob2:Dx P w β id2 (.box t2 da):=⟨bb2,uc2,hβ2,h7,r1⟩;have ob1:Dx P w β id (.box t<|.ptr id2 z2 0 0::dc):=by
     refine⟨bb,uc,hβ1,h3, ?_⟩;rw[huc];refine RL.cons ?_ s1;have:=RC.ptr (w:=w) (β:=β) (id:=id2) (sz:=z2) (i:=0) (o:=0) hβ2 (b:=bb2) (f:=0) rfl J;simpa using this
    obtain⟨m1,m2,m3,m4⟩:=n5 β hM ayS (λi c v k1 k2=>hbx (i+2) c v (by simpa using k1)<|by simpa using k2);have h4:∀j,(upd H3 id (I<|.box t<|.ptr id2 z2 0 0::dc) j=H j/\ ¬(b<=j/\j<b+oc.length+ob.length)/\j≠id/\j≠id2)\/ ∃o,upd H3 id (I<|.box t<|.ptr id2 z2 0 0::dc) j=I o/\Dx P w β j o:=λj=>by
     by_cases e1:j=id
     .subst e1;exact .inr ⟨_,Bf _ _ _,ob1⟩
     by_cases e2:j=id2
     .subst e2;refine .inr ⟨_, ?_,ob2⟩;rw[BB _ _ e1,ho2 j λhh=>hi2 ⟨J,J⟩,Bf]
     by_cases k1:b<=j/\j<b+oc.length+ob.length
     .by_cases k2:j<b+oc.length
      .obtain⟨o,q1,q2⟩:=r3 j k1.1 k2;exact .inr ⟨o,by rw[BB _ _ e1,ho2 j J,BB _ _ e2];exact q1,q2⟩
      .obtain⟨o,q1,q2⟩:=s3 j J k1.2;exact .inr ⟨o,by rw[BB _ _ e1];exact q1,q2⟩
     .exact .inl ⟨hold j k1 e1 e2,k1,e1,e2⟩
    have step:∀j,(H'' j=H j/\ ¬(b<=j/\j<b+oc.length+ob.length)/\j≠id/\j≠id2)\/ ∃o,H'' j=I o/\Dx P w β j o:=λj=>by
     rcases m1 j with h|h
     .rcases h4 j with⟨k1,k2⟩|⟨o,k1,k2⟩
      .exact .inl ⟨h.trans k1,k2⟩
      .exact .inr ⟨o,h.trans k1,k2⟩
     .exact .inr h
    refine⟨λj=> ?_,λj k1 k2=> ?_,λid3 z3 hm=> ?_,λj k1 k2=> ?_⟩
    .rcases step j with h|h
     .exact .inl h.1
     .exact .inr h
    .by_cases hj:j<b+oc.length+ob.length
     .rcases step j with h|h
      .exact absurd ⟨k1,hj⟩ h.2.1
      .exact h
     .exact m2 j J (by simp at k2;omega)
    .rcases Bj.1 hm with h|h
     .cases h;rcases step id2 with h|h
      .exact absurd rfl h.2.2.2
      .exact h
     rcases Bj.1 h with h|h
     .cases h;rcases step id with h|h
      .exact absurd rfl h.2.2.1
      .exact h
     .exact m3 id3 z3 h
    .have hne:j≠id:=λe4=>k2 z (by rw[e4];exact Am _ Ap);have az9:j≠id2:=λe4=>k2 z2 (by rw[e4];exact Ap);rw[m4 j (λhh=>k1 ⟨J,by simp;omega⟩) λz' hz'=>k2 z'<|Am _<|Am _ hz'];exact hold j (λhh=>k1 ⟨hh.1,by simp;omega⟩) hne az9
def aBi(hH:Hs B β H w):∀(ps:List Sh) (cs:List AV) (vs:List Value) (x:LTs ps),ZW B.P ps=A0->RL (R1 w β) cs vs->G4 E H ps cs=I x->
  ∃ds us,Fb B.P w H (B1 ps) (Fg ps cs) (Jg ps vs) ds us/\
   RL (λc v=>∃id z bb,c=AV.ptr id z 0 0/\v=NK (I ⟨bb,0,U⟩)/\(∃t cs,H id=I (.box t cs))/\β id=I (v,1)/\id∈Bh H ps cs) ds us/\
   (EJ ds).Sublist (Bh H ps cs)/\ ∀i∈Bh H ps cs,i∈CP H ps cs\/ ∃z,AV.ptr i z 0 0∈ds
 | [],[],vs,x,_,hr,hx=>by
  have:=hr.of_nil;subst this;exact⟨[],[],.nil,.nil,Er _,λi hi=>by simp[Bh]at hi⟩
 | [],_::_,_,_,_,_,hx=>by cases hx
 | _::_,[],_,_,_,_,hx=>by cases hx
 | h::ps,c::cs,vs,x,hp,hr,hx=>by
  obtain⟨v,vs,rfl,h1,h2⟩:=hr.C1;obtain⟨x1,e1,hx⟩:=Aj.1 hx;obtain⟨x2,e2,hx⟩:=Aj.1 hx;simp only[ZW,AE]at hp;obtain⟨ds,us,f1,f2,f3,f4⟩:=aBi hH ps cs vs x2 hp.2 h2 e2;have f2':RL (λc' v'=>∃id z bb,c'=AV.ptr id z 0 0/\v'=NK (I ⟨bb,0,U⟩)/\(∃t cs,H id=I (.box t cs))/\β id=I (v',1)/\id∈Bh H (h::ps) (c::cs)) ds us:=
   f2.mono λc' v' ⟨id,z,bb,k1,k2,k3,k4,k5⟩=>⟨id,z,bb,k1,k2,k3,k4,CK _ k5⟩
  have Da:B1 (h::ps)=B1 ps->Fg (h::ps) (c::cs)=Fg ps cs->Jg (h::ps) (v::vs)=Jg ps vs->(∀i∈CQ H h c,i∈C6 H h c)->
    ∃ds us,Fb B.P w H (B1<|h::ps) (Fg (h::ps)<|c::cs) (Jg (h::ps)<|v::vs) ds us/\
     RL (λc' v'=>∃id z bb,c'=AV.ptr id z 0 0/\v'=NK (I ⟨bb,0,U⟩)/\(∃t cs,H id=I (.box t cs))/\β id=I (v',1)/\id∈Bh H (h::ps) (c::cs)) ds us/\
     (EJ ds).Sublist (Bh H (h::ps)<|c::cs)/\ ∀i∈Bh H (h::ps) (c::cs),i∈CP H (h::ps) (c::cs)\/ ∃z,AV.ptr i z 0 0∈ds:=λg1 g2 g3 g4=>by
   rw[g1,g2,g3];refine⟨ds,us,f1,f2',f3.trans<|YZ _ _,λi hi=> ?_⟩;rcases BM.1 hi with hi|hi
   .exact .inl (Bq _<|g4 i hi)
   .exact(f4 i hi).imp (CK _) λh=>h
  cases h with
  | box t l=>
   have hp1:=hp.1;simp only[AE,CB,CL]at hp1;cases c<;>first|(cases e1;done)|skip
   rename_i id z i o;cases i<;>cases o<;>simp only[Bl]at e1<;>first|(cases e1;done)|skip
   split at e1
   case h_2=>cases e1
   rename_i t' cs' hid;split at e1
   case h_2=>cases e1
   rename_i hbt;obtain rfl:=Bk hbt;have h1:=h1.RE;cases h1 with
   | @ptr _ _ _ _ hd n bb f k1 ha hi=>
    obtain⟨b',uc,j1,j2,j3⟩:=hH.EA id _ hid;rw[k1]at j1;cases j1;cases ha;have e0:(NK<|I ⟨bb,0+(0 * z+0),U⟩)=NK (I ⟨bb,0,U⟩):=by simp
    by_cases Zj:aEy l=A0
    ·
     cases l with
     | nil=>cases Zj
     | cons h0 l=>
      cases h0 with
      | box t2 l2=>
       obtain⟨hl,hn⟩:=hp1;have hn:Oq B.P t=A0:=hn.resolve_left (by rw[Zj];simp);simp only[ab8,AE]at hl;cases cs' with
       | nil=>cases e1
       | cons c2 cs1=>
        obtain⟨y1,g1,g2⟩:=Aj.1 e1;obtain⟨u2,us1,huc,q1,q2⟩:=j3.C1;cases c2<;>first|(cases g1;done)|skip
        rename_i id2 z2 i2 o2;cases i2<;>cases o2<;>simp only[Bl]at g1<;>first|(cases g1;done)|skip
        split at g1
        case h_2=>cases g1
        rename_i t2' cs2 LD;obtain⟨b2,uc2,m1,m2,m3⟩:=hH.EA id2 _ LD;cases q1 with
        | @ptr _ _ _ _ hd2 n2 bb2 f2x k1' ha' hi'=>
         rw[m1]at k1';cases k1';cases ha';have e00:(NK<|I ⟨b2,0+(0 * z2+0),U⟩)=NK (I ⟨b2,0,U⟩):=by simp
         rw[e00]at huc;refine⟨.ptr id2 z2 0 0:: .ptr id z 0 0::ds,.pointer (I ⟨b2,0,U⟩):: .pointer (I ⟨bb,0,U⟩)::us, ?_, ?_, ?_,λi hi=> ?_⟩
         .rw[e0];exact .nest hl.1 hl.2 hid ⟨_,_,LD⟩ hn ⟨uc,_,j2,by rw[← TR,huc];rfl⟩ f1
         .refine RL.cons ⟨id2,z2,b2,rfl,rfl,⟨_,_,LD⟩,m1, ?_⟩ (RL.cons ⟨id,z,bb,rfl,rfl,⟨_,_,hid⟩,k1, ?_⟩ f2')
          .simp[Bh,CQ,hid,LD]
          .simp[Bh,CQ,hid]
         .simp only[EJ,Bh,CQ,hid,LD];refine List.Sublist.trans ?_<|List.Sublist.append_left f3 _;have:(((Bh H l2 cs2++[id2])++Bh H l cs1)++[id])++EJ ds=Bh H l2 cs2++(id2::(Bh H l cs1++(id::EJ ds))):=by simp
          rw[this];exact(((YZ _ _:(id::EJ ds).Sublist (Bh H l cs1++(id::EJ ds)))).cons_cons id2).trans (YZ _ _)
         .simp only[Bh,CQ,hid,LD,BM,C9]at hi;obtain(((hi|hi)|hi)|hi)|hi:=hi
          .refine .inl<|Bq _ ?_;simp only[C6,hid,CP,LD];exact Bq _ (SO l2 cs2 hl.1 i hi)
          .subst hi;exact .inr ⟨z2,Ap⟩
          .refine .inl<|Bq _ ?_;simp only[C6,hid,CP,LD];exact CK _ (SO l cs1 hl.2 i hi)
          .subst hi;exact .inr ⟨z,Am _ Ap⟩
          .rcases f4 i hi with h|⟨z',h⟩
           .exact .inl (CK _ h)
           .exact .inr ⟨z',Am _<|Am _ h⟩
      | _=>cases Zj
    ·
     have hl:HG l=A0:=by
      have:=hp1.1;cases l with
      | nil=>rfl
      | cons h0 l=>cases h0<;>first|exact this|exact absurd rfl Zj
     refine⟨.ptr id z 0 0::ds,.pointer (I ⟨bb,0,U⟩)::us, ?_, ?_, ?_,λi hi=> ?_⟩
     .rw[e0];exact .flat hl ⟨_,_,hid⟩ f1
     .refine RL.cons ⟨id,z,bb,rfl,rfl,⟨_,_,hid⟩,k1, ?_⟩ f2';simp[Bh,CQ,hid]
     .simp only[EJ,Bh,CQ,hid];rw[Bw];exact((f3.cons_cons id)).trans (YZ _ _)
     .simp only[Bh,CQ,hid,BM,C9]at hi;obtain(hi|hi)|hi:=hi
      .refine .inl<|Bq _ ?_;simp only[C6,hid];exact SO l cs' hl i hi
      .subst hi;exact .inr ⟨z,Ap⟩
      .rcases f4 i hi with h|⟨z',h⟩
       .exact .inl (CK _ h)
       .exact .inr ⟨z',Am _ h⟩
  | agg l=>
   refine Da rfl rfl rfl λi hi=> ?_;cases c with
   | agg cs'=>
    simp only[C6];exact SO l cs' hp.1 i<|by simpa[CQ] using hi
   | _=>simp[CQ]at hi
  | arr=>exact Da rfl rfl rfl λi hi=>by simp[CQ]at hi
  | same=>exact Da rfl rfl rfl λi hi=>by simp[CQ]at hi
  | int=>exact Da rfl rfl rfl λi hi=>by simp[CQ]at hi
  | bool=>exact Da rfl rfl rfl λi hi=>by simp[CQ]at hi
  | str=>exact Da rfl rfl rfl λi hi=>by simp[CQ]at hi
  | sl=>exact Da rfl rfl rfl λi hi=>by simp[CQ]at hi
  | fz=>exact Da rfl rfl rfl λi hi=>by simp[CQ]at hi
  | row t k=>exact Da rfl rfl rfl (X8 _ c rfl rfl)
  | CV t k=>exact Da rfl rfl rfl (X8 _ c rfl rfl)
  | abx t k=>exact Da rfl rfl rfl (X8 _ c rfl rfl)
def aDT{t:TypeId}{j:Nat}:∀(ids:List Nat) (s:S) {cs:List AV},j ∉ ids->s.H j=I (.box t cs)->∃cs',(ids.foldl S.kill s).H j=I (.box t cs')/\ ∀id2 z2 cs1,cs= .ptr id2 z2 0 0::cs1->id2 ∉ ids->∃K9,cs'= .ptr id2 z2 0 0::K9
 | [],s,cs,_,h=>⟨cs,h,λ_ _ c e _=>⟨c,e⟩⟩
 | i::ids,s,cs,hj,h=>by
  have hne:j≠i:=λe=>hj<|e▸Ap;obtain⟨c',h1,h2⟩:=aDT (t:=t) (j:=j) ids (s.kill i) (cs:=cs.map<|kl1 i) (λhm=>hj<|Am _ hm) (by
   show upd (λj=>CD (kl1 i)<|s.H j) i U j=_;rw[BB _ _ hne,h];rfl)
  refine⟨c',h1,λid2 z2 cs1 e hn=> ?_⟩;subst e;have hn2:id2≠i:=λe=>hn<|e▸Ap;have e1:Ag id2 i=A3:=by rw[← GD,H4];exact hn2
  exact h2 id2 z2 (cs1.map<|kl1 i) (by simp[kl1,e1]) λhm=>hn<|Am _ hm
def aBI{t:TypeId}{j:Nat}:∀(ids:List Nat) (s:S) {cs:List AV},j ∉ ids->s.H j=I (.box t cs)->∃cs',(ids.foldl S.freeze s).H j=I (.box t cs')/\ ∀id2 z2 cs1,cs= .ptr id2 z2 0 0::cs1->id2 ∉ ids->∃K9,cs'= .ptr id2 z2 0 0::K9
 | [],s,cs,_,h=>⟨cs,h,λ_ _ c e _=>⟨c,e⟩⟩
 | i::ids,s,cs,hj,h=>by
  have hne:j≠i:=λe=>hj<|e▸Ap;have:∃cs',(s.freeze i).H j=I (.box t cs')/\ ∀id2 z2 cs1,cs= .ptr id2 z2 0 0::cs1->id2≠i->∃K9,cs'= .ptr id2 z2 0 0::K9:=by
   unfold S.freeze;split
   .rename_i k xs _;refine⟨cs.map<|fz1 i k xs, ?_,λid2 z2 cs1 e hn=> ?_⟩
    .show upd (λj=>CD (fz1 i k xs)<|s.H j) i U j=_;rw[BB _ _ hne,h];rfl
    .subst e;have e1:Ag id2 i=A3:=by rw[← GD,H4];exact hn
     exact⟨cs1.map<|fz1 i k xs,by simp[fz1,e1]⟩
   .refine⟨cs.map<|kl1 i, ?_,λid2 z2 cs1 e hn=> ?_⟩
    .show upd (λj=>CD (kl1 i)<|s.H j) i U j=_;rw[BB _ _ hne,h];rfl
    .subst e;have e1:Ag id2 i=A3:=by rw[← GD,H4];exact hn
     exact⟨cs1.map<|kl1 i,by simp[kl1,e1]⟩
  obtain⟨c',h',hd'⟩:=this;obtain⟨c2,h2,h3⟩:=aBI (t:=t) (j:=j) ids (s.freeze i) (λhm=>hj<|Am _ hm) h';refine⟨c2,h2,λid2 z2 cs1 e hn=> ?_⟩;obtain⟨K9,e'⟩:=hd' id2 z2 cs1 e (λe=>hn<|e▸Ap);exact h3 id2 z2 K9 e' λhm=>hn<|Am _ hm
def avc{t:TypeId}{j:Nat}(q:Bool)(ids:List Nat)(s:S){cs:List AV}(hj:¬(q=A0/\j∈ids))(h:s.H j=I (.box t cs)):
  ∃cs',(G8 q ids s).H j=I (.box t cs')/\ ∀id2 z2 cs1,cs= .ptr id2 z2 0 0::cs1->¬(q=A0/\id2∈ids)->∃K9,cs'= .ptr id2 z2 0 0::K9:=by
 cases q with
 | false=>exact⟨cs,h,λ_ _ c e _=>⟨c,e⟩⟩
 | true=>
  obtain⟨c',h1,h2⟩:=aBI ids s (λhm=>hj ⟨rfl,hm⟩) h;exact⟨c',h1,λid2 z2 cs1 e hn=>h2 id2 z2 cs1 e λhm=>hn ⟨rfl,hm⟩⟩
def aal{cs:List AV}{vs:List Value}(h:RL (R1 w β) cs vs):R2 w β (Ll cs) (ME vs):=by
 match cs,vs,h with
 | [],vs,h=>
  have:=h.of_nil;subst this;exact⟨[],rfl,.nil⟩
 | [c],vs,h=>
  obtain⟨v,vs',rfl,h1,h2⟩:=h.C1;have:=h2.of_nil;subst this;exact .H7 h1
 | c::c'::cs,vs,h=>
  obtain⟨v,vs',rfl,h1,h2⟩:=h.C1;obtain⟨v',ayL,rfl,h3,h4⟩:=h2.C1;exact⟨v::v'::ayL,rfl,h⟩
def aDl:∀(ps:List Sh) (k:Nat) (t:Nat),t∈Dr k ps->k<=t/\ ∃e l,ps[t - k]? =I (.box e l)
 | [],_,_,h=>by cases h
 | p::ps,k,t,h=>by
  have tail:t∈Dr (k+1) ps->k<=t/\ ∃e l,(p::ps)[t - k]? =I (.box e l):=λh=>by
   obtain⟨h1,e,l,h2⟩:=aDl ps (k+1) t h;refine⟨J,e,l, ?_⟩;have:t - k=(t - (k+1))+1:=J
   rw[this];simpa using h2
  unfold Dr at h;split at h
  .rename_i hb;rcases Bj.1 h with rfl|h
   .refine⟨As _, ?_⟩;cases p<;>first|(cases hb;done)|skip
    rename_i t0 l0;exact⟨t0,l0,by simp⟩
   .exact tail h
  .exact tail h
def aDd{H:Hp}:∀ {ps:List Sh} {cs:List AV} {x:LTs ps},G4 E H ps cs=I x->∀ {i:Nat} {h:Sh},ps[i]? =I h->∃c y,cs[i]? =I c/\Bl E H h c=I y
 | [],cs,x,_,i,h,hi=>by simp at hi
 | _::_,[],_,h,_,_,_=>by cases h
 | p::ps,c::cs,x,hx,i,h,hi=>by
  obtain⟨x1,e1,hx⟩:=Aj.1 hx;obtain⟨x2,e2,hx⟩:=Aj.1 hx;cases i with
  | zero=>simp at hi;subst hi;exact⟨c,x1,rfl,e1⟩
  | succ i=>
   obtain⟨c',y,h1,h2⟩:=aDd e2 (by simpa using hi);exact⟨c',y,by simpa using h1,h2⟩
end
end Go.VS
namespace Go.VS
open Go
def okQ(P:Program)(m:DU):Bool:=ZW P m.ps&&Jm m.rs&&(IT m.rs).all λt=>(Dr 0 m.ps).any λp=>Ag p t
section
variable {B B':Ba} {β β':Beta} {H:Hp} {w w':World} {M M':Nat->Prop} {stk:List (Array Value)} {s s':S} {a:Act} {P:Program} {E:Nat->AV} {e:Nat->Value} {b:Nat} {C:Cx}
def aCd{o:Oper}{f:FuncId}{args:List Operand}{ts:Array TypeId}{K:Act->World->Prop}{Q:Exit->Act->World->Prop}(hE:Lk P f)(ho:o.op= .call { callee:= .value<|.func f,args:=args.toArray,argTypes:=ts })
  {R:Ending->World->Prop}(hc:Calls P f (args.map a.eval).toArray w R)(hR:∀en w',R en w'->∃v,en= .returned v/\K (a.put o.dst v) w'):o.wp P a w K Q:=by
 unfold Oper.wp;have h1:execOp a.eval o=callFunc f (args.map a.eval).toArray:=by
  have ef:a.eval (.func f)= .func (.func f) #[] #[]:=rfl;unfold execOp;simp[ho,resolve,Deferred.ofValue,invoke,ef]
 rw[h1,hE];refine M9 hc λen w' h=> ?_;obtain⟨v,rfl,hk⟩:=hR en w' h;exact hk
def aB4:∀(ids:List Nat) (s:S),(ids.foldl S.kill s).gs=s.gs/\(ids.foldl S.kill s).n=s.n/\(ids.foldl S.kill s).pins=s.pins
 | [],_=>⟨rfl,rfl,rfl⟩
 | i::ids,s=>aB4 ids (s.kill i)
def asM(q:Bool)(ids:List Nat)(s:S):(G8 q ids s).gs=s.gs/\(G8 q ids s).n=s.n/\(G8 q ids s).pins=s.pins:=by
 cases q with
 | false=>exact⟨rfl,rfl,rfl⟩
 | true=>
  obtain⟨h1,h2,h3,_⟩:=ff ids s;exact⟨h1,h2,h3⟩
def asf{h:Sh}{x:LT h}{v:Value}{os:List (Value×Nat)}(ht:mz h=A0)(hr:Rel P w M e h x v os):(BD E H b h x).2.2=b+os.length:=by
 by_cases hh:IW h=A0
 .exact aDp h H b x v os hh hr
 .cases h<;>first|(exact absurd ht hh;done)|skip
  case agg l=>
   obtain⟨us,rfl,h1⟩:=hr;have un:BD E H b (.agg l) x=(match Al E H b l x with|(cs,H,b)=>(AV.agg cs,H,b)):=rfl;have:=X5 (E:=E) l H b x us os ht h1;rw[un];generalize Al E H b l x=r at *;exact this
  case arr k=>
   obtain⟨rfl,h1⟩:=hr;rfl
def aBF:∀ {l:List Sh} {H:Hp} {b:Nat} {x:LTs l} {us:List Value} {os:List (Value×Nat)},Jm l=A0->CX P w M e l x us os->(Al E H b l x).2.2=b+os.length
 | [],H,b,x,us,os,_,hr=>by obtain⟨_,rfl⟩:=hr;rfl
 | h::l,H,b,x,us,os,hl,hr=>by
  obtain⟨u,us',o1,o2,rfl,rfl,h1,h2⟩:=hr;simp only[Jm,AE]at hl;have un:Al E H b (h::l) x=(match BD E H b h x.1 with|(c,H,b)=>match Al E H b l x.2 with|(cs,H,b)=>(c::cs,H,b)):=rfl;have k:=asf (E:=E) (H:=H) (b:=b) hl.1 h1;rw[un];generalize BD E H b h x.1=r at *;obtain⟨c,H',b'⟩:=r;have k:b'=b+o1.length:=k;subst k;have k2:=aBF (H:=H') (b:=b+o1.length) hl.2 h2;simp only;generalize Al E H' (b+o1.length) l x.2=r at *;obtain⟨cs,H'',b''⟩:=r;have k2:b''=_:=k2;simp[k2,D3]
def asJ{O:Nat->Prop}(hg:Na B.P B.w0 B.O)(hs:Hs B β H w)(hO:∀b,O b->MB β b):Na B.P w O:=by
 obtain⟨w0,h1,h2⟩:=hg;refine⟨w0,h1,λb hb=> ?_⟩;obtain⟨h3,h4,h5⟩:=h2 b hb;exact⟨λh=>(hs.old b<|hO b h).1.elim h3 J,Ga h4 hs.size,(hs.block b h4 h3).trans h5⟩
def awS{m:DU}{f:FuncId}(hS:Gs B.P f m)(hk:okQ B.P m=A0){d:Option Nat}{as:List Operand}{o:Oper}{ts:Array TypeId}{K:Act->World->Prop}{Q:Exit->Act->World->Prop}
  (hst:St B β stk s a w)(hfr:∀j,b<=j->j<b+16->s.H j=U)(hd:s.has d=A0)(he:HN m s b d (as.map s.ev) I=I s')(hod:o.dst=d)(ho:o.op= .call { callee:= .value<|.func f,args:=as.toArray,argTypes:=ts })
  (hK:Jq B stk a d s' K):o.wp B.P a w K Q:=by
 simp only[okQ,AE,C0,Gz]at hk;obtain⟨⟨hps,hrs⟩,hsm⟩:=hk;unfold HN at he;simp only at he;split at he
 case h_2=>cases he
 rename_i x hx hnd;obtain⟨r,hr,he⟩:=Aj.1 he;simp only[AE]at hnd;have PQ:=Wz hnd.1;generalize hcs:as.map s.ev=cs at *;generalize FX:as.map a.eval=args;have hlen:args.length=cs.length:=by rw[← hcs,← FX];simp
 have hrx:∀(i:Nat) (c:AV) (v:Value),cs[i]? =I c->args[i]? =I v->RX w β (BY a) c v:=λi c v h1 h2=>by
  rw[← hcs,D2]at h1;rw[← FX,D2]at h2;obtain⟨y,hy,rfl⟩:=D4.1 h1;rw[hy]at h2;cases h2;exact hst.eval y
 have hpl:=WJ hx;have rl:RL (R1 w β) cs args:=⟨hlen,λj c u h1 h2=>(hrx j c u h1 h2).MJ (hpl c<|Cb h1).1 (hpl c<|Cb h1).2⟩;generalize hE:(fun(i:Nat)=>(cs[i]?).getD AV.un)=E at *;have abq:∀ {t:Nat} {c:AV},cs[t]? =I c->E t=c:=λh=>by rw[← hE];simp[h]
 generalize hI:Bh s.H m.ps cs=ids at *;generalize hro:CP s.H m.ps cs=ro at *;generalize hfz:Cp s.H m.ps cs=fz at *;have axv:ro.Sublist ids:=by rw[← hro,← hI];exact XJ _ _
 have Zv:∀i∈ro,QO s.H i:=by rw[← hro];exact Wu _ _ _ hx
 have Zz:∀i∈fz,QO s.H i:=by rw[← hfz];exact Ws _ _ _ hx
 obtain⟨bc,bv,hFb,hba,abk,nP⟩:=aBi (E:=E) hst.hs m.ps cs args x hps rl hx;rw[hI]at hba abk nP;rw[hro]at nP
 let Zc:Nat->Prop:=λbl=>MZ β bl/\bl ∉ Az (ids.filterMap β)/\bl ∉ Az (fz.filterMap β)
 have R:Nn B β s.H w (λbl=>bl∈Az (ids.filterMap β)\/Zc bl) E (ar args):={
  hs:=hst.hs
  hM:=λbl h=>h.elim (λh=> .inl<|T5 h) (λh=>h.1)
  hE:=λt id z hEt=>by
   cases hc:cs[t]? with
   | none=>rw[← hE]at hEt;simp[hc]at hEt
   | some c=>
    have hlt:t<args.length:=by rw[hlen];exact(BL.1 hc).1
    rw[abq hc];exact rl.2 t c _ hc (by simp[ar,hlt]) }
 have ayh:Qt β (λbl=>bl∈Az (ids.filterMap β)\/Zc bl) fz:=λi hi p a' hp ha hm=>by
  obtain hm|hm:=hm
  .exact kh hst.hs hnd.2 i hi p a' hp ha (.inl hm)
  .exact hm.2.2<|G9.2 ⟨p,G9.2 ⟨i,hi,hp⟩,by simp[HH,ha]⟩
 obtain⟨os,EB,Fy⟩:=Wy R m.ps cs args x rl hx (by rw[hfz];exact ayh);rw[hI]at Fy;have oQ:(λbl=>bl∈Az (ids.filterMap β)\/Zc bl)=λbl=>bl∈Az os\/Zc bl:=by rw[Fy]
 rw[oQ]at EB;have Zi:∀bl∈Az os,MB β bl:=λbl h=>by rw[Fy]at h;exact T5 h
 have GI:=hS.2 x r hr w Zc args os EB (by rw[Fy];exact X1 hst.hs PQ)
  (λbl h=>⟨(hst.hs.old bl<|Zi bl h).2,λhz=>hz.2.1 (by rw[← Fy];exact h)⟩) (λbl h=>by
   obtain h1|h1:=h.1
   .exact(hst.hs.old bl h1).2
   .exact hst.hs.zl bl h1)
  (asJ B.gl hst.hs λbl h=>Zi bl h)
 rw[← FX]at GI;refine aCd hS.1 ho GI ?_;rw[FX];rintro en w' ⟨v,rfl,IF⟩;refine⟨v,rfl, ?_⟩;rw[hod];obtain⟨vs,os1,os2,rfl,hr1,hr2,ayF,hbl⟩:=IF.ex;obtain⟨β1,h1,hβ1,hZ1⟩:=St.abe (a:=a) (w:=w) (stk:=stk) ro (PQ.sublist axv) hst;obtain⟨β2,h2,hβ2,hZ2⟩:=h1.ayb (CH m.rs||CH (B1 m.ps)) fz;have Gf:=asM (CH m.rs||CH (B1 m.ps)) fz<|ro.foldl S.kill s;have nN:=aB4 ro s;have azt:∀ {id:Nat} {t:TypeId} {cs0:List AV},s.H id=I (.box t cs0)->∃cs1,(G8 (CH m.rs||CH (B1 m.ps)) fz<|ro.foldl S.kill s).H id=I (.box t cs1):=fun {id t cs0} hid=>by
  obtain⟨cs1,h⟩:=aCn ro s (λhm=>Zv id hm t cs0 hid) hid;exact atn _ fz _ (λhm=>Zz id hm.2 t cs0 hid) h
 have ayE:∀j,s.H j=U->(G8 (CH m.rs||CH (B1 m.ps)) fz<|ro.foldl S.kill s).H j=U:=λj hj=>
  (aBH (N:=λ_=>False) (CH m.rs||CH (B1 m.ps)) fz<|BC.ni ro<|BC.refl _ s).nn j (λh=>h) hj
 generalize hq:(CH m.rs||CH (B1 m.ps))=q at *;generalize hs2:G8 q fz (ro.foldl S.kill s)=s2 at *;have Zt:∀j p,β2 j=I p->β j=I p/\j ∉ ro/\ ¬(q=A0/\j∈fz):=λj p h=>by
  rw[hβ2]at h;split at h
  .cases h
  .rename_i hn;rw[hβ1]at h;split at h
   .cases h
   .rename_i hn';exact⟨h,hn',hn⟩
 have abo:∀bl,β2.Z bl↔β.Z bl\/ ∃i∈ro,∃p a,β i=I p/\adr p.1=I a/\a.block=bl:=λbl=>by rw[hZ2];exact hZ1 bl
 generalize hbc:Fg m.ps cs=bcT at *;generalize hbv:Jg m.ps args=bvT at *;have hM2:∃M2:Nat->Prop,CX B.P w' M2 (ar args) m.rs r.1 vs os1/\CX B.P w' M2 (ar args) (B1 m.ps) r.2 bvT os2/\(q=A3->∀bl,M2 bl)/\(q=A0->∀bl,(bl∈Az (os1++os2)\/Zc bl)->M2 bl):=by
  cases q with
  | false=>
   simp only[NC]at hq;exact⟨λ_=>True,CX.anyM _ _ _ _ hq.1 hr1,CX.anyM _ _ _ _ hq.2 hr2,λ_ _=>trivial,λh=>by cases h⟩
  | true=>exact⟨_,hr1,hr2,(by intro h;cases h),λ_ bl h=>h⟩
 obtain⟨M2,ac7,az4,hMf,hMt⟩:=hM2;generalize hg:BN E s2.H b (B1 m.ps) bcT r.2=g at *;obtain⟨ds,H1,b1⟩:=g;simp only at he;generalize hmk:Al E H1 b1 m.rs r.1=g at *;obtain⟨rc,Hf,b2⟩:=g;simp only at he;split at he
 case h_2=>cases he
 rename_i hb2;have hb2:=DX hb2;cases he;have PO:b1<=b2:=by have:=Iy E m.rs H1 b1 r.1;rw[hmk]at this;exact this
 have hgb:(BN E s2.H b (B1 m.ps) bcT r.2).2.2<=b+16:=by rw[hg];exact Ca PO hb2
 have hdK:∀i∈EJ bc,i ∉ ro/\i ∉ fz/\ ∃t cs0,s.H i=I (.box t cs0):=λi hi=>by
  obtain⟨z,hz⟩:=aEg hi;obtain⟨j,hj⟩:=aBc hz;obtain⟨v,_,id,z',bb,k1,_,⟨t,cs0,k3⟩,_,_⟩:=hba.get hj;cases k1;exact⟨λh=>Zv i h _ _ k3,λh=>Zz i h _ _ k3,t,cs0,k3⟩
 have azi:Fb B.P w' s2.H (B1 m.ps) bcT bvT bc bv:=hFb.carry IF.pk λi hi t cs0 h0=>by
  obtain⟨k1,k2,_⟩:=hdK i hi;obtain⟨cs1,h3,h4⟩:=aDT ro s k1 h0;obtain⟨cs2,h5,h6⟩:=avc q fz (ro.foldl S.kill s) (λhm=>k2 hm.2) h3;rw[hs2]at h5;refine⟨cs2,h5,λid2 z2 c1 e hm=> ?_⟩;obtain⟨c2,e2⟩:=h4 id2 z2 c1 e (hdK id2 hm).1;exact h6 id2 z2 c2 e2 λhm'=>(hdK id2 hm).2.1 hm'.2
 obtain⟨nw,ayR,hb1,hgi⟩:=k8 (E:=E) (P:=B.P) (w:=w') (M:=M2) (e:=ar args) (B1 m.ps) s2.H b r.2 bcT bc bvT bv os2 (b+16) azi (PQ.sublist abk)
  (λi hi hh=>by
   obtain⟨_,_,t,cs0,k3⟩:=hdK i hi;rw[hfr i hh.1 hh.2]at k3;cases k3) az4 hgb
 rw[hg]at hb1 hgi;simp only at hb1 hgi
 let os':=nw++os1
 let β3:Beta:=⟨λj=>if b<=j/\j<b+os'.length then os'[j - b]? else β2 j,B.Z⟩
 have U2:∀j p,β3 j=I p->(b<=j/\j<b+os'.length/\os'[j - b]? =I p)\/(¬(b<=j/\j<b+os'.length)/\β2 j=I p):=λj p h=>by
  have h:(if b<=j/\j<b+os'.length then os'[j - b]? else β2 j)=I p:=h;split at h
  .rename_i hh;exact .inl ⟨hh.1,hh.2,h⟩
  .rename_i hh;exact .inr ⟨hh,h⟩
 have RH:Num β3 b os':=λi p hp=>by
  have hlt:=(BL.1 hp).1;show(if b<=b+i/\b+i<b+os'.length then os'[b+i - b]? else β2 (b+i))=I p;rw[A8 ⟨J,J⟩,show b+i - b=i by omega];exact hp
 have Zo:(Az os2).Perm (Az nw++Az (bv.map λv=>(v,1))):=by
  have:=ayR.filterMap HH;rwa[Lz]at this
 have U1:∀bl,bl∈Az os'->bl∈Az (os1++os2):=λbl h=>by
  simp only[os',Az,Lz,BM]at h ⊢;obtain h|h:=h
  .exact .inr (Zo.mem_iff.2<|Bq _ h)
  .exact .inl h
 have Zw:(Az os'++Az (bv.map λv=>(v,1))).Nodup:=by
  have h1:(Az<|os1++os2).Perm (Az os'++Az (bv.map λv=>(v,1))):=by
   simp only[os',Az,Lz]at Zo ⊢;refine(Ya _ Zo).trans ?_;rw[← Bw];exact List.Perm.append_right _ List.perm_append_comm
  exact h1.nodup_iff.1 ayF
 have ayV:(Az os').Nodup:=(Kw.1 Zw).1;have nb:∀i,i∈ids->i ∉ ro->∃v,(v,1)∈bv.map (λv=>(v,1))/\β i=I (v,1)/\(∃z,AV.ptr i z 0 0∈bc):=λi hi hn=>by
  rcases nP i hi with h|⟨z,h⟩
  .exact absurd h hn
  .obtain⟨j,hj⟩:=aBc h;obtain⟨v,hv,id,z',bb,k1,k2,k3,k4,k5⟩:=hba.get hj;cases k1;exact⟨v,DE.2 ⟨v,Cb hv,rfl⟩,k4,z,h⟩
 have nX:∀j p a',β2 j=I p->adr p.1=I a'->a'.block∈Az os->j∈ids/\j ∉ ro:=λj p a' hj ha hm=>by
  obtain⟨h0,h1,_⟩:=Zt j p hj;rw[Fy]at hm;obtain⟨i,hi,p',a2,hp',ha',e'⟩:=Mp hm;have:=hst.hs.inj j i p p' a' a2 h0 hp' ha ha' e'.symm;subst this;exact⟨hi,h1⟩
 have abf:∀bl,bl∈Az os->MZ β2 bl:=λbl hm=>by
  have hm':=hm;rw[Fy]at hm;obtain⟨i,hi,p,a',hp,ha,e'⟩:=Mp hm;by_cases hr:i∈ro
  .exact .inr ((abo bl).2<|.inr ⟨i,hr,p,a',hp,ha,e'⟩)
  .refine .inl ⟨i,p.1,p.2,a', ?_,ha,e'⟩;have hnf:i ∉ fz:=λhf=>aDm hnd.2 i hf hi;rw[hβ2,AD λh=>hnf h.2,hβ1,AD hr];exact hp
 have nj:∀bl,MB β3 bl->MB β2 bl\/bl∈Az os':=λbl hm=>by
  obtain⟨j,hd',n,a',hj,ha,e'⟩:=hm;rcases U2 j _ hj with⟨_,_,hj⟩|⟨_,hj⟩
  .exact .inr (G9.2 ⟨_,Cb hj,by simp[HH,ha,e']⟩)
  .exact .inl ⟨j,hd',n,a',hj,ha,e'⟩
 have Ck:∀bl o v,¬MZ β2 bl->w.cell? ⟨bl,o,U⟩=I v->w'.cell? ⟨bl,o,U⟩=I v:=λbl o v hn hc=>by
  have hlt:=block_lt_of_cell hc;rw[Te (w:=w) (w':=w')<|IF.block bl hlt λhm=>hn<|abf bl hm];exact hc
 have azh:∀bl,¬MZ β2 bl->bl<w.heap.size->¬MZ β3 bl:=λbl hn hlt hm=>by
  obtain hm|hm:=hm
  .rcases nj bl hm with h|h
   .exact hn (.inl h)
   .rcases(hbl bl<|U1 bl h).1 with h3|h3
    .exact hn (abf bl h3)
    .omega
  .exact hn<|.inr<|(abo bl).2<|.inl (by rw[hst.hs.z];exact hm)
 have Zs:∀j p,β2 j=I p->β3 j=I p:=λj p hj=>by
  have hne:¬(b<=j/\j<b+os'.length):=λhh=>by
   have ayY:os'.length=nw.length+os1.length:=by simp[os']
   have h3:=(hgi:_);obtain⟨ob,hob⟩:=h2.hs.dom j p hj;have:=ayE j (hfr j hh.1 (by
    have:b2=b1+os1.length:=by
     have:=aBF hrs ac7 (E:=E) (H:=H1) (b:=b1);rw[hmk]at this;exact this
    omega))
   rw[this]at hob;cases hob
  show(if b<=j/\j<b+os'.length then os'[j - b]? else β2 j)=I p;rw[AD hne];exact hj
 have hkp:Kp w β2 w' β3:=λc v hc=>hc.mono Zs Ck azh;have hM3:∀bl,MZ β3 bl->M2 bl:=λbl hm=>by
  cases q with
  | false=>exact hMf rfl bl
  | true=>
   refine hMt rfl bl ?_;obtain hm|hm:=hm
   .rcases nj bl hm with h|h
    .obtain⟨j,hd',n,a',hj,ha,e'⟩:=h;obtain⟨k1,k2,k3⟩:=Zt j _ hj;by_cases hji:j∈ids
     .obtain⟨v,hv1,hv2,_⟩:=nb j hji k2;rw[k1]at hv2;cases hv2;refine .inl ?_;simp only[Az,Lz,BM];refine .inr (Zo.mem_iff.2<|CK _<|G9.2 ⟨_,hv1,by simp[HH,ha,e']⟩)
     .refine .inr ⟨.inl ⟨j,hd',n,a',k1,ha,e'⟩,λhb=> ?_,λhb=> ?_⟩
      .rw[← Fy,← e']at hb;exact hji (nX j _ a' hj ha hb).1
      .obtain⟨i,hi,p,a2,hp,ha2,e2⟩:=Mp hb;have:=hst.hs.inj j i _ p a' a2 k1 hp ha ha2<|e'.trans e2.symm;subst this;exact k3 ⟨rfl,hi⟩
    .exact .inl (U1 bl h)
   .have hz:β.Z bl:=by rw[hst.hs.z];exact hm
    refine .inr ⟨.inr hz,λhb=> ?_,λhb=> ?_⟩
    .obtain⟨i,hi,p,a2,hp,ha2,e2⟩:=Mp hb;exact hst.hs.zn i p a2 hp ha2 (e2▸hz)
    .obtain⟨i,hi,p,a2,hp,ha2,e2⟩:=Mp hb;exact hst.hs.zn i p a2 hp ha2<|e2▸hz
 obtain⟨g1,g2,g3,g4⟩:=hgi β3 hM3 RH.left (λi c v k1 k2 id z hc=>by
  obtain⟨id',z',bb,j1,j2,j3,j4,j5⟩:=hba.2 i c v k1 k2;rw[hc]at j1;cases j1;refine Zs id _ ?_;have hnr:id ∉ ro:=λh=>Zv id h _ _ j3.choose_spec.choose_spec;have hnf:id ∉ fz:=λh=>Zz id h _ _ j3.choose_spec.choose_spec;rw[hβ2,AD λh=>hnf h.2,hβ1,AD hnr];exact j4)
 have ay8:Th w' β3 E (ar args) (IT m.rs):=λt ht=>by
  obtain⟨p,hp1,hp2⟩:=hsm t ht;obtain rfl:=Bk hp2;obtain⟨_,e1,l1,hp3⟩:=aDl m.ps 0 p hp1;rw[JN]at hp3;obtain⟨c,y,hc,hy⟩:=aDd hx hp3;have hlt:p<args.length:=by rw[hlen];exact(BL.1 hc).1
  have hR:=rl.2 p c (ar args p) hc (by simp[ar,hlt]);rw[abq hc];cases c<;>first|(cases hy;done)|skip
  rename_i id z i' o';cases i'<;>cases o'<;>simp only[Bl]at hy<;>first|(cases hy;done)|skip
  split at hy
  case h_2=>cases hy
  rename_i t' cs' hid;have hnr:id ∉ ro:=λh=>Zv id h _ _ hid;have hnf:id ∉ fz:=λh=>Zz id h _ _ hid;have hR:=hR.RE;generalize ar args p=v at hR;cases hR with
  | ptr k1 k2 k3=>exact .MH<|.ptr (Zs id _ (by rw[hβ2,AD λh=>hnf h.2,hβ1,AD hnr];exact k1)) k2 k3
 obtain⟨f1,f2,f3⟩:=Xc (β:=β3) (E:=E) (M:=M2) (P:=B.P) (w:=w') (e:=ar args) hM3 m.rs H1 b1 r.1 vs os1 hrs ac7 (by rw[hb1];exact RH.right) ay8;rw[hmk]at f1 f2 f3;simp only at f1 f2 f3;have ayY:os'.length=nw.length+os1.length:=by simp[os']
 have acA:∀j,(∃ob,Hf j=I ob/\Dx B.P w' β3 j ob)\/(Hf j=s2.H j/\ ∀z,AV.ptr j z 0 0 ∉ bc):=λj=>by
  by_cases hj:b1<=j/\j<b1+os1.length
  .exact .inl (f3.2 j hj.1 hj.2)
  .have e1:Hf j=H1 j:=f3.1 j J;rcases g1 j with h|⟨ob,h,h'⟩
   .by_cases hm:∃z,AV.ptr j z 0 0∈bc
    .obtain⟨z,hm⟩:=hm;obtain⟨ob,h3,h4⟩:=g3 j z hm;exact .inl ⟨ob,by rw[e1];exact h3,h4⟩
    .exact .inr ⟨e1.trans h,λz hz=>hm ⟨z,hz⟩⟩
   .exact .inl ⟨ob,by rw[e1];exact h,h'⟩
 have hHf:Hs B β3 Hf w':={
  EA:=λj ob hj=>by
   rcases acA j with⟨ob',h3,h4⟩|⟨h3,h4⟩
   .rw[h3]at hj;cases hj;exact h4
   .rw[h3]at hj;have hob:=h2.hs.EA j ob hj;have hex:∃p,β2 j=I p:=by
     cases ob with
     | box e cs=>obtain⟨_,_,h,_⟩:=hob;exact⟨_,h⟩
     | row e fz k xs=>obtain⟨_,h,_⟩:=hob;exact⟨_,h⟩
     | arr e k xs=>obtain⟨_,_,h,_⟩:=hob;exact⟨_,h⟩
    obtain⟨p,hp⟩:=hex;refine hob.mono (by rw[Zs j p hp,hp]) hkp λp' a' hp' ha'=> ?_;rw[hp]at hp';cases hp';have hlt:=(h2.hs.old a'.block ⟨j,p.1,p.2,a',hp,ha',rfl⟩).2;refine IF.block a'.block hlt λhm=> ?_;obtain⟨h5,h6⟩:=nX j p a' hp ha' hm;obtain⟨_,_,_,z,hz⟩:=nb j h5 h6;exact h4 z hz
  dom:=λj p hj=>by
   rcases acA j with⟨ob',h3,_⟩|⟨h3,_⟩
   .exact⟨ob',h3⟩
   .rcases U2 j p hj with⟨k1,k2,k3⟩|⟨_,hj⟩
    .by_cases hjb:j<b+nw.length
     .obtain⟨ob,k4,_⟩:=g2 j k1 hjb;have:Hf j=H1 j:=f3.1 j J;exact⟨ob,by rw[this];exact k4⟩
     .obtain⟨ob,k4,_⟩:=f3.2 j J J;exact⟨ob,k4⟩
    .obtain⟨ob,k4⟩:=h2.hs.dom j p hj;exact⟨ob,by rw[h3];exact k4⟩
  inj:=λi j p p' a1 a2 hi hj ha1 ha2 hb=>by
   have UA:∀(i j:Nat) (p p':Value×Nat) (a1 a2:Addr),β2 i=I p->os'[j - b]? =I p'->adr p.1=I a1->adr p'.1=I a2->a1.block=a2.block->False:=by
    intro i j p p' a1 a2 hi hj ha1 ha2 hb;have hm2:a2.block∈Az os':=G9.2 ⟨p',Cb hj,by simp[HH,ha2]⟩;rcases(hbl a2.block<|U1 _ hm2).1 with h3|h3
    .rw[← hb]at h3;obtain⟨h5,h6⟩:=nX i p a1 hi ha1 h3;obtain⟨v,hv1,hv2,_⟩:=nb i h5 h6;rw[(Zt i p hi).1]at hv2;cases hv2;have hm1:a1.block∈Az (bv.map λv=>(v,1)):=G9.2 ⟨_,hv1,by simp[HH,ha1]⟩;exact(Kw.1 Zw).2.2 _ hm2 _ hm1 hb.symm
    .have:=(h2.hs.old a1.block ⟨i,p.1,p.2,a1,hi,ha1,rfl⟩).2;omega
   rcases U2 i p hi with⟨i1,i2,i3⟩|⟨_,i3⟩<;>rcases U2 j p' hj with⟨j1,j2,j3⟩|⟨_,j3⟩
   .have:=Xa ayV (i - b) (j - b) p p' a1 a2 i3 j3 ha1 ha2 hb;omega
   .exact(UA j i p' p a2 a1 j3 i3 ha2 ha1 hb.symm).elim
   .exact(UA i j p p' a1 a2 i3 j3 ha1 ha2 hb).elim
   .exact h2.hs.inj i j p p' a1 a2 i3 j3 ha1 ha2 hb
  old:=λbl hm=>by
   rcases nj bl hm with h|h
   .exact⟨(h2.hs.old bl h).1,Ga (h2.hs.old bl h).2 IF.size⟩
   .have h3:=hbl bl<|U1 bl h;refine⟨?_,h3.2⟩;obtain h4|h4:=h3.1
    .exact(hst.hs.old bl<|Zi bl h4).1
    .exact .inr (Ca hst.hs.size h4)
  os:=IF.wos.trans hst.hs.os
  tape:=IF.tape.trans hst.hs.tape
  output:=IF.output.trans hst.hs.output
  size:=Ca hst.hs.size IF.size
  block:=λbl hlt hO=>by
   rw[IF.block bl (Ga hlt hst.hs.size) λhm=> ?_]
   .exact hst.hs.block bl hlt hO
   .rcases(hst.hs.old bl<|Zi bl hm).1 with h|h
    .exact hO h
    .omega
  z:=rfl
  zn:=λj p a' hj ha hz=>by
   rcases U2 j p hj with⟨_,_,j3⟩|⟨_,j3⟩
   .have hm2:a'.block∈Az os':=G9.2 ⟨p,Cb j3,by simp[HH,ha]⟩;rcases(hbl a'.block<|U1 _ hm2).1 with h3|h3
    .rw[Fy]at h3;obtain⟨i,hi,p2,a2,hp2,ha2,e2⟩:=Mp h3;exact hst.hs.zn i p2 a2 hp2 ha2 (by rw[e2,hst.hs.z];exact hz)
    .have:=hst.hs.zl a'.block (by rw[hst.hs.z];exact hz);omega
   .exact hst.hs.zn j p a' (Zt j p j3).1 ha (by rw[hst.hs.z];exact hz)
  zl:=λbl hz=>Ga (hst.hs.zl bl (by rw[hst.hs.z];exact hz)) IF.size
  pk:=hst.hs.pk.trans IF.pk }
 have oK:St B β3 stk { s2 with H:=Hf } a w':=by
  refine⟨λt=>RT.mono hkp<|h2.T t,⟨h2.stack.1,λi T tm k1 k2 t=>RT.mono hkp<|h2.stack.2 i T tm k1 k2 t⟩,h2.n,h2.defers,h2.pins,h2.gs,hHf⟩
 have EN:({ s2 with H:=Hf } :S).has d=A0:=by
  have:({ s2 with H:=Hf } :S).has d=s.has d:=QP (Gf.1.trans nN.1) (Gf.2.1.trans nN.2.1) (Gf.2.2.trans nN.2.2) d;rw[this];exact hd
 exact hK β3 (ME vs) w'<|QN oK EN<|aal f1
end
end Go.VS
namespace Go.VS
open Go
section
variable {B:Ba} {β β':Beta} {H:Hp} {w w':World} {stk:List (Array Value)} {s s':S} {a:Act} {P:Program} {C:Cx}
def jx(hΓ:∀f d m,C.Γ f d=I m->Gs P f m/\okQ P m=A0)(B:Ba)(hB:B.P=P):HE C B:=by
 intro f d m hm β stk s a w b as s' o ts K Q hst hfr hd he hod ho hK;obtain⟨h1,h2⟩:=hΓ f d m hm;rw[← hB]at h1 h2;exact awS h1 h2 hst hfr hd he hod ho hK
def aDk{c:AV}(h:plB c=A0):(∀g w v,c≠ .gd g w v)/\ ∀vs,c≠ .tup vs:=by
 constructor
 .rintro g w v rfl;cases h
 .rintro vs rfl;cases h
def aEt(hP:C.P=B.P)(hm:B.P.follows .mixedOrders=A0)(hC:HE C B):∀n,J8 C B<|NT C n
 | 0=>aDo C B
 | n+1=>by
  intro Ω f d as s k q he β stk a w o args ts K Q hst hfr hd hod has ho hK;have ih:=aEt hP hm hC n;unfold NT at he;simp only at he;split at he
  .cases he
  rename_i fn hfn;split at he
  case h_2=>cases he
  rename_i body abm K3;split at he
  case h_2=>cases he
  rename_i abl;simp only[AE]at abl;obtain⟨⟨hc1,hc2⟩,hc3⟩:=abl;have hpl:∀c∈as,(∀g w v,c≠ .gd g w v)/\ ∀vs,c≠ .tup vs:=λc hc=>aDk<|C0.1 hc3 c hc;have hlen:as.length<=fn.ntmps:=DX hc2;rw[hP]at hfn;refine aCd (OM hfn (by simpa using K3) abm) ho (R:=λen w'=>∃v,en= .returned v/\K (a.put o.dst v) w') ?_ (λen w' h=>h);refine calls_of_wp hfn abm ?_;have FX:(args.map a.eval).length=as.length:=by rw[has];simp
  have ayz:St B β (a.tmps::stk) { s with n:=fn.ntmps,T:=λt=>(as[t]?).getD Dk,st:=s.T::s.st,pins:=[],gs:=λ_=>A3 }
    { tmps:=(args.map a.eval).toArray++QU (fn.ntmps - (args.map a.eval).toArray.size) undef,defers:=[] } w:=by
   refine⟨λt=> ?_,⟨by simp[hst.stack.1],λi T tm h1 h2 t=> ?_⟩, ?_,rfl,λt ht=>by simp at ht,λt g want y hy=> ?_,hst.hs⟩
   .rw[WO];show RT w β _ ((as[t]?).getD Dk) _;cases hv:as[t]? with
    | none=>
     have:(args.map a.eval).length<=t:=by rw[FX];exact YY.1 hv
     have e0:ar (args.map a.eval) t=undef:=by simp only[ar,B9,HV this];rfl
     rw[e0];exact(show R2 w β Dk undef from rfl)
    | some c=>
     have hv':=hv;rw[has,D2]at hv';obtain⟨x,hx,rfl⟩:=D4.1 hv';have e0:ar (args.map a.eval) t=a.eval x:=by simp[ar,hx]
     rw[e0];have hp:=hpl _<|Cb hv;exact((hst.eval x).MJ hp.1 hp.2).aG
   .cases i with
    | zero=>
     simp at h1 h2;subst h1;subst h2;exact hst.T t
    | succ i=>exact hst.stack.2 i T tm (by simpa using h1) (by simpa using h2) t
   .simp only[Qg,Kn,lS];omega
   .have hy:(as[t]?).getD Dk= .gd g want y:=hy;cases hv:as[t]? with
    | none=>rw[hv]at hy;cases hy
    | some c=>
     rw[hv]at hy;exact absurd hy<|(hpl c<|Cb hv).1 _ _ _
  have key:∀β' a' w' s',St B β' (a.tmps::stk) s' a' w'->Fr s'->(match s'.st,QG C.P s' fn.results.toList with
     | T::st,I vs=>match vs.all plB with
      | true=>k ({ s' with n:=s.n,T:=λt=>PG<|T t,st:=st,pins:=s.pins,gs:=λ_=>A3 }.put d<|Ll vs)
      | false=>U
     | _,_=>U)=I q->a'.defers=[]/\ ∃v,(results fn a'.tmps).run B.P w'= .ok v w'/\ ∃v',Ending.returned v= .returned v'/\K (a.put o.dst v') w':=by
   intro β' a' w' s' h1 h2 h3;refine⟨h1.defers, ?_⟩;split at h3
   case h_2=>cases h3
   rename_i T st vs MK hvs;split at h3
   case h_2=>cases h3
   rename_i DT;obtain⟨us,k1,k2,k3⟩:=Xi hP h1 fn.results.toList hvs;rw[hP]at k1;refine⟨ME us,aAj k1,ME us,rfl, ?_⟩;rw[hod];have rl:RL (R1 w' β') vs us:=⟨k2,λj c u e1 e2=>by
    have hp:=aDk<|C0.1 DT c<|Cb e1;exact(k3 j c u e1 e2).MJ hp.1 hp.2⟩
   have RG:=h1.stack;rw[MK]at RG;have hTt:∀t,RT w' β' (BY a) (T t) (BY a t):=λt=>RG.2 0 T a.tmps rfl rfl t;have ayy:St B β' stk { s' with n:=s.n,T:=λt=>PG<|T t,st:=st,pins:=s.pins,gs:=λ_=>A3 } a w':=by
    refine⟨λt=> ?_,⟨by simpa using RG.1,λi T' tm e1 e2 t=>RG.2 (i+1) T' tm (by simpa using e1) (by simpa using e2) t⟩,hst.n,hst.defers,hst.pins,λt g want y hy=> ?_,h1.hs⟩
    .have:=hTt t;show RT w' β' _ (PG<|T t) _;cases hT:T t<;>rw[hT]at this<;>first|exact this|trivial
    .have hy:PG (T t)= .gd g want y:=hy;unfold PG at hy;split at hy
     .cases hy
     .rename_i hn;exact absurd hy<|hn _ _ _
   have EN:({ s' with n:=s.n,T:=λt=>PG<|T t,st:=st,pins:=s.pins,gs:=λ_=>A3 } :S).has d=A0:=by
    cases d with
    | none=>rfl
    | some d=>
     simp only[S.has,AE,CL]at hd ⊢;exact⟨hd.1,trivial⟩
   refine hK β' (ME us) w' _ (QN ayy EN<|aal rl) (λj hj=> ?_) ?_ ?_ h3
   .have hj:s'.nid<=j:=by cases d<;>exact hj
    have:=h2 j hj;cases d<;>exact this
   .cases d<;>rfl
   .cases d<;>rfl
  refine XA hP hm hC ih body .nil _ _ q he ayz hfr (G1 _ body) ⟨?_, ?_, ?_⟩
  .exact λβ' a' w' s' h1 h2 _ _ h5=>key β' a' w' s' h1 h2 h5
  .exact λβ' a' w' s' h1 h2 _ _ h5=>key β' a' w' s' h1 h2 h5
  .intro id β' a' w' s' h1 h2 h3 h4 h5;cases h5
end
def Bg{A R:Type}(t:(A->Option R)->A->Option R):Nat->A->Option R
 | 0=>λ_=>U
 | n+1=>t (Bg t n)
open Classical in
def NS {A R:Type} (t:(A->Option R)->A->Option R) (x:A):Option R:=
 if h:∃n r,Bg t n x=I r then I (ND<|Ig h) else U
def aCM{A R:Type}{t:(A->Option R)->A->Option R}{x:A}{r:R}(h:NS t x=I r):∃n,Bg t n x=I r:=by
 unfold NS at h;split at h
 .rename_i hn;have:=Ig<|Ig hn;cases h;exact⟨_,this⟩
 .cases h
def arX{P:Program}{f:FuncId}{ps rs:List Sh}{t:(LTs ps->Option (LTs rs×LTs (B1 ps)))->LTs ps->Option (LTs rs×LTs (B1 ps))}(he:Lk P f)
  (h:∀g,Gs P f ⟨ps,rs,g⟩->Gs P f ⟨ps,rs,t g⟩):Gs P f ⟨ps,rs,NS t⟩:=by
 have hn:∀n,Gs P f ⟨ps,rs,Bg t n⟩:=by
  intro n
  induction n with
  | zero=>exact⟨he,λx r hx=>by cases hx⟩
  | succ n ih=>exact h _ ih
 refine⟨he,λx r hx=> ?_⟩;obtain⟨n,hx⟩:=aCM hx;intro w Z args os h1 h2 h3 h4 h5;exact M9 ((hn n).2 x r hx w Z args os h1 h2 h3 h4 h5) λen w' ⟨v,e,hr⟩=>⟨v,e,⟨hr.ex,hr.wos,hr.tape,hr.output,hr.size,hr.block,hr.pk⟩⟩
end Go.VS
namespace Go.VS
open Go
def gam:List (Nat×Option Nat×DU)->Nat->Option Nat->Option DU
 | [],_,_=>U
 | (f,e,m)::l,g,d=>match Ag f g&&(match e,d with
   | none,_=>A0
   | some a,I b=>Ag a b
   | some _,U=>A3) with
  | true=>I m
  | false=>gam l g d
def Qn(P:Program)(l:List (Nat×Option Nat×DU)):Prop:=∀e∈l,Gs P e.1 e.2.2/\okQ P e.2.2=A0
def AJ{P:Program}:Qn P []:=λe h=>by cases h
def mV{P:Program}{l:List (Nat×Option Nat×DU)}(h:Qn P l):∀f d m,gam l f d=I m->Gs P f m/\okQ P m=A0:=by
 induction l with
 | nil=>intro f d m hm;cases hm
 | cons e l ih=>
  obtain⟨g,e,m'⟩:=e;intro f d m hm;unfold gam at hm;split at hm
  .rename_i hc;simp only[AE]at hc;cases hm;obtain rfl:=Bk hc.1;exact h _ Ap
  .exact ih (λe he=>h e<|Am _ he) f d m hm
def Fc:Code->Adv->List (Code×Loop)
 | .seq a b,.join _ u v=>Fc a u++Fc b v
 | .seq a b,.two u v=>Fc a u++Fc b v
 | .seq a _,.one u=>Fc a u
 | .cond _ x _,.one u=>Fc x u
 | .cond _ x y,.two u v=>Fc x u++Fc y v
 | .cond _ x y,.join _ u v=>Fc x u++Fc y v
 | .block _ c,.one u=>Fc c u
 | .block _ c,.two u _=>Fc c u
 | .block _ c,.join _ u _=>Fc c u
 | .loop c,.loop l=>[(c,l)]
 | _,_=>[]
def IN{L:Code->Loop->Prop}:∀(c:Code) (v:Adv),(∀p∈Fc c v,L p.1 p.2)->HM L c v
 | .seq a b,.join _ u v,h=>⟨IN a u λp hp=>h p<|Bq _ hp,IN b v λp hp=>h p<|CK _ hp⟩
 | .seq a b,.two u v,h=>⟨IN a u λp hp=>h p<|Bq _ hp,IN b v λp hp=>h p<|CK _ hp⟩
 | .seq a b,.one u,h=>⟨IN a u h,G1 L b⟩
 | .seq a b,.nil,_=>⟨G1 L a,G1 L b⟩
 | .seq a b,.loop _,_=>⟨G1 L a,G1 L b⟩
 | .cond _ x y,.one u,h=>⟨IN x u h,G1 L y⟩
 | .cond _ x y,.two u v,h=>⟨IN x u λp hp=>h p<|Bq _ hp,IN y v λp hp=>h p<|CK _ hp⟩
 | .cond _ x y,.join _ u v,h=>⟨IN x u λp hp=>h p<|Bq _ hp,IN y v λp hp=>h p<|CK _ hp⟩
 | .cond _ x y,.nil,_=>⟨G1 L x,G1 L y⟩
 | .cond _ x y,.loop _,_=>⟨G1 L x,G1 L y⟩
 | .block _ c,.one u,h=>IN c u h
 | .block _ c,.two u _,h=>IN c u h
 | .block _ c,.join _ u _,h=>IN c u h
 | .block _ c,.nil,_=>G1 L c
 | .block _ c,.loop _,_=>G1 L c
 | .loop c,.loop l,h=>h (c,l) (by simp[Fc])
 | .loop _,.nil,_=>trivial
 | .loop _,.one _,_=>trivial
 | .loop _,.two _ _,_=>trivial
 | .loop _,.join _ _ _,_=>trivial
 | .skip,_,_=>trivial
 | .region _ _ _,_,_=>trivial
 | .exit _,_,_=>trivial
 | .ret,_,_=>trivial
 | .rangeFunc _ _ _ _,_,_=>trivial
 | .scope _,_,_=>trivial
 | .label _,_,_=>trivial
 | .goto _,_,_=>trivial
 | .refuse _,_,_=>trivial
def Tz(L:Code->Loop->Prop)(l:List (Code×Loop)):Prop:=∀p∈l,L p.1 p.2
def aDt{L:Code->Loop->Prop}{c:Code}{v:Adv}{l:List (Code×Loop)}(h:Fc c v=l)(hl:Tz L l):HM L c v:=IN c v (by rw[h];exact hl)
def axO{L:Code->Loop->Prop}:Tz L []:=λp h=>by cases h
def axP{L:Code->Loop->Prop}{c:Code}{v:Loop}{l:List (Code×Loop)}(h:L c v)(hl:Tz L l):Tz L ((c,v)::l):=λp hp=>by
 rcases Bj.1 hp with rfl|hp
 .exact h
 .exact hl p hp
abbrev Ent:=Nat×Option Nat×DU
def SQ(P:Program)(e:Ent):Prop:=Gs P e.1 e.2.2/\okQ P e.2.2=A0
def gC{P:Program}{e:Ent}{l:List Ent}(h:SQ P e)(hl:Qn P l):Qn P (e::l):=λx hx=>by
 rcases Bj.1 hx with rfl|hx
 .exact h
 .exact hl x hx
def inR:List (Nat×Nat)->Nat->Bool
 | [],_=>A3
 | (a,b)::l,n=>match Dp a n&&Dp n b with
  | true=>A0
  | false=>inR l n
structure OKC (P:Program) (C:Cx) (inl:(Ω:Type)->Inl Ω):Prop where
 p:C.P=P
 m:P.follows .mixedOrders=A0
 c:∀B:Ba,B.P=P->HE C B
 i:∀B:Ba,B.P=P->J8 C B inl
def okc{P:Program}{kd:TypeId->Option K}{l:List Ent}{cz sp:Nat->Bool}(hm:P.follows .mixedOrders=A0)(h:Qn P l):OKC P ⟨P,kd,gam l,cz,sp⟩ AF:=
 ⟨rfl,hm,λB hB=>jx (C:=⟨P,kd,gam l,cz,sp⟩) (mV h) B hB,λB _=>aDo _ B⟩
def abP{P:Program}{kd:TypeId->Option K}{l:List Ent}{cz sp:Nat->Bool}(n:Nat)(hm:P.follows .mixedOrders=A0)(h:Qn P l):OKC P ⟨P,kd,gam l,cz,sp⟩ (NT ⟨P,kd,gam l,cz,sp⟩ n):=
 ⟨rfl,hm,λB hB=>jx (C:=⟨P,kd,gam l,cz,sp⟩) (mV h) B hB,λB hB=>aEt (C:=⟨P,kd,gam l,cz,sp⟩) (B:=B) hB.symm (by rw[hB];exact hm) (jx (C:=⟨P,kd,gam l,cz,sp⟩) (mV h) B hB) n⟩
def LpK(P:Program)(n:Nat)(pins:List Nat)(ls:List (Code×Loop)):Prop:=∀B:Ba,B.P=P->Tz (N2 B n pins) ls
def kN{P:Program}{n:Nat}{pins:List Nat}:LpK P n pins []:=λ_ _=>axO
def kC{P:Program}{n:Nat}{pins:List Nat}{c:Code}{l:Loop}{ls:List (Code×Loop)}(h:LpK P n pins [(c,l)])(hl:LpK P n pins ls):LpK P n pins ((c,l)::ls):=λB hB=>axP (h B hB (c,l) Ap)<|hl B hB
def lk{P:Program}{C:Cx}{inl:(Ω:Type)->Inl Ω}(hC:OKC P C inl){n:Nat}{pins:List Nat}{body:Code}{v:Adv}{l:Loop}{b:Lv l.sch->Option (Lv l.sch ⊕ (Lv l.KB ⊕ Lv l.K6))}{ls:List (Code×Loop)}
  (hb:∀x,evL C inl n pins body v l x=b x)(hr:l.run=AR b)(h:Fc body v=ls)(hl:LpK P n pins ls):LpK P n pins [(body,l)]:=λB hB p hp=>by
 obtain rfl:=C9.1 hp;exact avP (hC.p.trans hB.symm) (by rw[hB];exact hC.m) (hC.c B hB) (hC.i B hB) hb hr<|aDt h<|hl B hB
def fnB(P:Program)(f:Nat)(fn:Func)(m:DU):Option Func×Bool×Bool×Bool:=(P.funcs[f]?, fn.name == "runtime.NumGoroutine",okM m fn.ntmps,okQ P m)
def so{P:Program}{C:Cx}{inl:(Ω:Type)->Inl Ω}{f:Nat}{d:Option Nat}{fn:Func}{m:DU}{v:Adv}{ls:List (Code×Loop)}(hC:OKC P C inl)
  (hf:fnB P f fn m=(I fn,A3,A0,A0))(hb:fn.body=I (Ke fn))(h:Fc (Ke fn) v=ls)(hl:LpK P fn.ntmps (Dr 0 m.ps) ls)(hg:∀x,ZT C inl fn v m x=m.g x):SQ P (f,d,m):=by
 simp only[fnB,CG]at hf;exact⟨atJ hC.p hC.m hC.c hC.i hf.1 hf.2.1 hb hf.2.2.1 (λB hB=>aDt h<|hl B hB) hg,hf.2.2.2⟩
def soR{P:Program}{f:Nat}{d:Option Nat}{ps rs:List Sh}{t:(LTs ps->Option (LTs rs×LTs (B1 ps)))->LTs ps->Option (LTs rs×LTs (B1 ps))}(he:Lk P f)
  (hq:∀g,okQ P ⟨ps,rs,g⟩=A0)(h:∀g,SQ P (f,d,⟨ps,rs,g⟩)->SQ P (f,d,⟨ps,rs,t g⟩)):SQ P (f,d,⟨ps,rs,NS t⟩):=
 ⟨arX he λg hg=>(h g ⟨hg,hq g⟩).1,hq _⟩
def MF(a b c d:Int)(e:A4)(a' b' c' d':Int)(e':A4):Bool:=A1 (a=a')&&(A1 (b=b')&&(A1 (c=c')&&(A1 (d=d')&&(A1 (e=e')&&A0))))
end Go.VS
end
