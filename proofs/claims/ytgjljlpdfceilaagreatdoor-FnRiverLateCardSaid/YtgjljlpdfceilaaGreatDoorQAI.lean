/- Part 9. -/
import Derived.Tactics
import Derived.Test.YtgjljlpdfceilaaGreatDoorQAH
open Array renaming getD_eq_getD_getElem?->Uo,getElem?_append_left->Mn,getElem?_eq_some_iff->Ha,getElem?_toList->Uk,length_toList->FG,replicate->Rk,size_append->S2,size_replicate->pT
open Bool renaming and_eq_true->AG,false->A3,false_eq_true->I1,not_eq_true'->C1,not_eq_true->Gk,or_eq_false_iff->Mk,or_eq_true->Br,true->U
open Classical renaming choose->Nt,choose_spec->J9
open Decidable renaming decide->A1
open Go.Calls renaming mono->Ms
open Go.Code renaming region->S1
open Go.Instr renaming loadAt->No,sureAddr->Jp
open Go.Region renaming wanted->Jn
open Go.Result renaming andThen_ok->FH
open Go.Sem renaming run_bind->Ex,run_pure->G5
open Go.Value renaming pointer->Ns
open Go.World renaming cell?_of_block->Uy
open List renaming all_cons->Pb,all_eq_true->Cb,any_eq_true->Hd,append_assoc->C9,append_nil->CW,cons_append->Lf,drop_eq_getElem_cons->Up,drop_eq_nil_of_le->Mq,drop_zero->J6,eq_nil_of_length_eq_zero->E7,filterMap_append->Mr,filterMap_cons->pL,getD_eq_getElem?_getD->BC,getElem?_append_left->IT,getElem?_append_right->Fo,getElem?_eq_none->Hz,getElem?_eq_none_iff->bC,getElem?_eq_some_iff->BP,getElem?_map->DK,getElem?_of_mem->aFO,length_append->B0,length_cons->Bh,mapM_cons->Uq,map_append->Eo,map_congr_left->H9,map_cons->Db,mem_append->BN,mem_append_left->By,mem_append_right->CU,mem_cons->Bo,mem_cons_of_mem->An,mem_cons_self->Av,mem_filterMap->Gh,mem_map->C3,mem_of_getElem?->Cu,mem_range->D6,mem_singleton->CA,nodup_append->Jo,nodup_cons->IY,pairwise_cons->KW,pairwise_lt_range->Rr,range->BB,range_succ->IU,reverse_reverse->pU,size_toArray->Le,sublist_append_right->bE
open List.Perm renaming append_left->bD
open List.Sublist renaming refl->Em
open List.cons renaming injEq->Mt
open Nat renaming add_assoc->DI,add_comm->Nl,add_mul->ER,beq->Al,beq_eq->Hc,ble->E9,le_add_right->bG,le_of_ble_eq_true->Di,le_refl->Az,le_trans->Ce,lor->BQ,lt_of_lt_of_le->HA,mul_le_mul_right->EH,ne_of_lt->Pl,sub_zero->Js,zero_add->DT,zero_le->D7,zero_mul->V0
open Option renaming bind_eq_some_iff->Am,bind_some->A9,map_eq_some_iff->DJ,none->A0,some->I
open Option.some renaming inj->Cn
open Prod.mk renaming injEq->CX
set_option linter.all false
noncomputable section
namespace Go.VS
open Go
section
variable {C:Cx} {B:Bg} {ops:Array Oper} {stk:List (Array Value)} {s s' s0:S} {b b0:Nat} {Ω:Type} {q:Ω}
def asP{m:Dd}{d:Option Nat}{as:List AV}{k:S->Option Ω}:Ht m s b d as k=(Ht m s b d as I).bind k:=by
 unfold Ht;simp only;split
 .rename_i x hx hn;cases m.g x with
  | none=>rfl
  | some r=>
   simp only[A9];split
   .rfl
   .rfl
 .rfl
def Th{r:PR}{f:AV->List Ob->S}{k:S->Option Ω}:(match r with
   | some (q,v,os)=>if q then k (f v os) else A0
   | none=>A0)=(match r with
   | some (q,v,os)=>if q then I (f v os) else A0
   | none=>A0).bind k:=by
 cases r with
 | none=>rfl
 | some r=>obtain⟨q,v,os⟩:=r;cases q<;>rfl
def aGJ{o:Oper}{k:S->Option Ω}(inl:Inl Ω)(hi:∀f c,o.op= .call c->c.callee= .value (.func f)->C.Γ f o.dst=A0->∀d as s k,inl f d as s k=A0):
  CS C inl o b s k=(CS C (AI S) o b s I).bind k:=by
 unfold CS;split
 .rfl
 generalize ho:o.op=op at *;cases op
 case store t p x=>
  simp only;split<;>rfl
 case call c=>
  simp only;split
  .rename_i f hf;split
   .exact asP
   .rename_i hm;rw[hi f c rfl hf hm];rfl
  .split
   .split<;>rfl
   .rfl
  .split<;>rfl
  .first|rfl|exact Th (k:=k) (f:=λv os=>({ s with H:=F4 s.H b os } :S).put o.dst v)
 case slice t x lo hi mx=>
  cases mx with
  | some m=>
   simp only
   first|rfl|exact Th (k:=k) (f:=λv os=>({ s with H:=F4 s.H b os } :S).put o.dst v)
  | none=>
   simp only;split
   .split
    .rfl
    .split
     .split<;>rfl
     .rfl
   .first|rfl|exact Th (k:=k) (f:=λv os=>({ s with H:=F4 s.H b os } :S).put o.dst v)
 case buildSlice t n ps=>
  simp only;generalize (LW s.ev ps.toList).foldl S.freeze s=s3;exact Th (k:=k) (f:=λv os=>({ s3 with H:=F4 s3.H b os } :S).put o.dst v)
 all_goals (simp only;first|rfl|exact Th (k:=k) (f:=λv os=>({ s with H:=F4 s.H b os } :S).put o.dst v))
def awY{o:Oper}{k:S->Option Ω}:evG C (cC Ω) ops o b s k=(ev1 C ops o b s).bind k:=by
 have h:∀b s,∀k:S->Option Ω,CS C (cC Ω) o b s k=(CS C (AI S) o b s I).bind k:=λb s k=>aGJ _ λ_ _ _ _ _ _ _ _ _=>rfl;unfold ev1 evG;split
 .exact h _ _ _
 .split
  .rfl
  .split
   .split
    .split<;>rfl
    .rfl
   .rfl
  .split
   .rename_i c _;simp only[h];cases hh:s.has o.dst<;>(split<;>split<;>rfl)
   .split<;>rfl
   .rfl
def cY(C:Cx)(ops:Array Oper):List Rec->S->S->Prop
 | [],s,s'=>s=s'
 | r::l,s,s'=>∃s1,ev1 C ops r.o r.b s=I s1/\((EG C s r.o=A0->r.W=r.F/\ ∀i∈Jg C s r.o,Mm r.K i)/\(∀l,EG C s r.o=I l->∀i∈l,Mm r.W i/\Mm r.K i)/\ ∀id,Mm (nm r.b) id->Mm r.K id)/\vOf s1 r.o.dst=I r.V/\cY C ops l s1 s'
def o6{k:S->Option Ω}:∀(l:List Oper) (i b:Nat) (acc:List Rec) (s:S),evD C ops s0 l i b acc s k=I q->Cf C ops s0 b0 acc->i=acc.length->b=b0+16 * i->(∀j,l[j]? =ops[i+j]?)->
  ∃rs s',cY C ops rs s s'/\Cf C ops s0 b0 (rs.reverse++acc)/\rs.length=l.length/\k { s' with nid:=b0+16 * (i+l.length) } =I q
 | [],i,b,acc,s,h,hg,hi,hb,hl=>⟨[],s,rfl,hg,rfl,by
   have h:k { s with nid:=b } =I q:=h;rw[hb]at h;exact h⟩
 | o::l,i,b,acc,s,h,hg,hi,hb,hl=>by
  unfold evD at h;split at h
  .cases h
  rename_i r hr;split at h
  .rename_i hc;rw[awY]at h;obtain⟨s1,h1,h⟩:=Am.1 h;obtain⟨V,hV,h⟩:=Am.1 h;simp only[AG,Cb]at hc;unfold abG at hr;obtain⟨anc,ha,hr⟩:=Am.1 hr;obtain⟨ids,Q7,hr⟩:=Am.1 hr;obtain⟨c,hcl,hr⟩:=Am.1 hr;simp only at hr;split at hr
   case h_2=>cases hr
   rename_i alx;have hr:=(Cn hr).symm;have ho:ops[i]? =I o:=by simpa using (hl 0).symm
   have hg':Cf C ops s0 b0 ({ r with V:=V } ::acc):=by
    refine⟨hg, ?_, ?_, ?_, ?_,⟨ids,c, ?_,hcl, ?_⟩, ?_,λx hx=>hc.1.1 x hx, ?_, ?_⟩<;>rw[hr]
    .exact hi
    .show b=_;rw[hb,hi]
    .exact ho
    .exact ha
    .exact Q7
    .have gen:∀F0:Nat,(mvO o=A3/\(match mvO o with
       | true=>BQ (msk ids) (nm b)
       | false=>F0)=F0/\(((match mvO o with
       | true=>nm b
       | false=>match pur o,o.guard with
        | true,A0=>BQ (msk ids) (nm b)
        | _,_=>(match mvO o with
         | true=>BQ (msk ids) (nm b)
         | false=>F0))=BQ (msk ids) (nm b)/\pur o=U/\o.guard=A0)\/(match mvO o with
       | true=>nm b
       | false=>match pur o,o.guard with
        | true,A0=>BQ (msk ids) (nm b)
        | _,_=>(match mvO o with
         | true=>BQ (msk ids) (nm b)
         | false=>F0))=(match mvO o with
       | true=>BQ (msk ids) (nm b)
       | false=>F0)))\/(mvO o=U/\(match mvO o with
       | true=>BQ (msk ids) (nm b)
       | false=>F0)=BQ (msk ids) (nm b)/\(match mvO o with
       | true=>nm b
       | false=>match pur o,o.guard with
        | true,A0=>BQ (msk ids) (nm b)
        | _,_=>(match mvO o with
         | true=>BQ (msk ids) (nm b)
         | false=>F0))=nm b):=by
      intro F0;cases hmv:mvO o with
      | true=>exact .inr ⟨rfl,rfl,rfl⟩
      | false=>
       refine .inl ⟨rfl,rfl, ?_⟩;cases hpu:pur o with
       | false=>exact .inr rfl
       | true=>
        cases hgu:o.guard with
        | none=>exact .inl ⟨rfl,rfl,rfl⟩
        | some x=>exact .inr rfl
     exact gen _
    .refine⟨alx,λid hid=> ?_⟩;show Mm (match EG C s o with
      | none=>_
      | some l=>BQ (msk l) (nm b)) id
     cases EG C s o with
     | none=>
      show Mm (match mvO o with
       | true=>BQ (msk ids) (nm b)
       | false=>_) id
      cases mvO o with
      | false=>
       refine Tp _ _ id ?_;show(BQ _ _).testBit id=U;rw[Eu,show(nm b).testBit id=U from hid];simp
      | true=>
       show(BQ _ _).testBit id=U;rw[Eu,show(nm b).testBit id=U from hid];simp
     | some l=>
      show(BQ _ _).testBit id=U;rw[Eu,show(nm b).testBit id=U from hid];simp
    .exact hc.1.2
    .exact hc.2
   obtain⟨rs,s',k1,k2,k3,k4⟩:=o6 l (i+1) (b+16) _ s1 h hg' (by simp[hi]) J (λj=>by
    have:=hl<|j+1;simpa[DI,Nl 1 j] using this)
   refine⟨{ r with V:=V } ::rs,s',⟨s1, ?_, ?_, ?_,k1⟩, ?_,by simp[k3], ?_⟩
   .rw[hr];exact h1
   .rw[hr];refine⟨λhe=>⟨?_,λj hj=> ?_⟩,λl he j hj=> ?_,λid hid=> ?_⟩
    .have he:EG C s o=A0:=he;show(match EG C s o with
      | none=>_
      | some l=>BQ (msk l) (nm b))=_
     rw[he]
    .have he:EG C s o=A0:=he;show Mm (match EG C s o with
      | none=>BQ (msk<|Jg C s o) (nm b)
      | some l=>BQ (msk l) (nm b)) j
     rw[he];show(BQ _ _).testBit j=U;rw[Eu,MR.2 hj];rfl
    .have he:EG C s o=I l:=he;have key:Mm (BQ (msk l)<|nm b) j:=by
      show(BQ _ _).testBit j=U;rw[Eu,MR.2 hj];rfl
     constructor
     .show Mm (match EG C s o with
       | none=>_
       | some l=>BQ (msk l) (nm b)) j
      rw[he];exact key
     .show Mm (match EG C s o with
       | none=>_
       | some l=>BQ (msk l) (nm b)) j
      rw[he];exact key
    .show Mm (match EG C s o with
      | none=>BQ (msk<|Jg C s o) (nm b)
      | some l=>BQ (msk l) (nm b)) id
     have hid:(nm b).testBit id=U:=hid;cases EG C s o with
     | none=>
      show(BQ _ _).testBit id=U;rw[Eu,hid];simp
     | some l=>
      show(BQ _ _).testBit id=U;rw[Eu,hid];simp
   .rw[hr];exact hV
   .simpa using k2
   .rw[show i+(o::l).length=i+1+l.length by simp;omega];exact k4
  .cases h
def aFq{acc:List Rec}:∀ {ts l:List Nat},cS s0 acc ts=I l->∀t∈ts,∃a,(match SB t acc with
  | some r=>I r.V
  | none=>VT (s0.T t))=I a/\ ∀i∈a,i∈l
 | [],_,_,t,ht=>by cases ht
 | t0::ts,l,h,t,ht=>by
  obtain⟨a,h1,h⟩:=Am.1 h;obtain⟨b,h2,h⟩:=Am.1 h;cases h;rcases Bo.1 ht with rfl|ht
  .exact⟨a,h1,λi hi=>By _ hi⟩
  .obtain⟨a',h3,h4⟩:=aFq h2 t ht;exact⟨a',h3,λi hi=>CU _<|h4 i hi⟩
def Cf.fit{acc:List Rec}(h:Cf C ops s0 b0 acc)(hn:acc.length=ops.size)(hfr:∀j,b0<=j->s0.H j=A0){i:Nat}:Fit ops (C8 acc b0) (BB ops.size) s0 i:=by
 intro o ho;obtain⟨r,hr,hi,rfl,fi⟩:=h.op hn ho;have e1:(C8 acc b0).F i=Mm r.F:=by funext id;simp only[C8,fi]
 have e2:(C8 acc b0).N i=Mm r.N:=by funext id;simp only[C8,fi]
 rw[e1,e2];have hNF:=h.N_F hr;refine⟨λt ht hd=> ?_,λid ob hid ho=> ?_,λid h1 _=>hfr id (by simp only[C8]at h1;omega)⟩
 rotate_left
 .cases hmv:mvO r.o with
  | false=>exact h.closed hfr r hr hmv id ob (hNF id hid) ho
  | true=>
   exfalso;obtain⟨Hi,hg,_⟩:=h.mem r hr;obtain⟨_,k1,k2,_,_,⟨l,c,h1,h2,h3⟩,_⟩:=hg;obtain h3|h3:=h3
   .rw[hmv]at h3;cases h3.1
   .rw[h3.2.2]at hid;have:=MX.1 hid;rw[hfr id J]at ho;cases ho
 obtain⟨Hi,hg,Lt,_,hlt⟩:=h.mem r hr;obtain⟨_,_,_,_,_,⟨l,c,h1,h2,h3⟩,_⟩:=hg;obtain⟨a,h4,h5⟩:=aFq h1 t ht;cases hf:SB t Hi with
 | some r'=>
  obtain⟨hm,Q8⟩:=aGm hf;have hm':=Lt r' hm;obtain⟨azz,hg2,_⟩:=h.mem r' hm';have ho':=hg2.2.2.2.1;have hR:(C8 acc b0).R r'.i i:=by
   have aw:=hlt r' hm;have hc:=h.chk hm' hr J;simp only[VS.chk,AG]at hc;simp only[C8,fi];cases hT:tst r.anc r'.i with
   | true=>exact qu.1 hT
   | false=>
    rw[hT]at hc;obtain⟨_,hc⟩:=hc;simp only[AG]at hc;exact absurd ht<|ZF hc.1.2 t Q8
  exact absurd Q8<|hd r'.i (D6.2 (Ha.1 ho').1) hR r'.o ho'
 | none=>
  rw[hf]at h4;obtain⟨_,h3,h6⟩|⟨hmv,h3,h6⟩:=h3
  .have aEk:InA (Mm r.F) (s0.T t):=bj h4 λj hj=>by
    rw[h3];refine Tp _ _ j ?_;show(BQ _ _).testBit j=U;rw[Eu,(aJ 4 l h2).1 j<|h5 j hj];rfl
   refine⟨aEk,.inr ?_⟩;obtain h6|h6:=h6
   .refine bj h4 λj hj=> ?_;rw[h6.1];show(BQ _ _).testBit j=U;rw[Eu,MR.2<|h5 j hj];rfl
   .rw[h6];exact aEk
  .simp only[mvO,AG]at hmv;refine⟨bj h4 λj hj=> ?_,.inl hmv.1.1⟩;rw[h3];show(BQ _ _).testBit j=U;rw[Eu,MR.2<|h5 j hj];rfl
def mK{acc:List Rec}(h:Cf C ops s0 b0 acc)(hn:acc.length=ops.size):∀(rs:List Rec) (s s':S),cY C ops rs s s'->(∀r∈rs,r∈acc)->(rs.map (·.i)).Pairwise (· < ·)->
  (∀r∈rs,Fit ops (C8 acc b0) (rs.map (·.i)) s r.i)->Run C ops (C8 acc b0) (rs.map (·.i)) s s'
 | [],s,s',hc,_,_,_=>by
  cases hc;exact .nil
 | r::rs,s,s',⟨s1,h1,h2,h3,h4⟩,hm,hp,hf=>by
  have hr:=hm r Av;obtain⟨Hi,hg,_⟩:=h.mem r hr;have ho:=hg.2.2.2.1;have hok:=hg.2.2.2.2.2.2.2.2.1;have hb:=(h.N6 hr).1;have hrb:r.i<acc.length:=h.lt r hr;have fi:=h.find r hr;have nice:=h.nice hn;obtain⟨f1,f2,f3⟩:=hf r Av r.o ho;have eb:(C8 acc b0).b r.i=r.b:=hb.symm;have hp':=KW.1 hp;have aF1:∀t∈DQ ops r.o,InA ((C8 acc b0).F r.i) (s.T t)/\(mov r.o.op=U\/InA ((C8 acc b0).N r.i) (s.T t)):=λt ht=>f1 t ht λj hj hR oj hoj e=>by
   have hlt:=nice.lt _ _ hR;rcases Bo.1 hj with e'|hj
   .have e':j=r.i:=e';omega
   .have h9:r.i<j:=hp'.1 j hj;omega
  have hrd:=λt ht=>(aF1 t ht).1;obtain⟨h21,h22,h23⟩:=h2;have hKn:∀j,r.b<=j->j<r.b+16->(C8 acc b0).K r.i j:=λj k1 k2=>by
   simp only[C8,fi];exact h23 j<|MX.2 ⟨k1,k2⟩
  have hWn:∀j,r.b<=j->j<r.b+16->(C8 acc b0).W r.i j:=λj k1 k2=>nice.NW r.i j (by rw[eb];exact k1) (by rw[eb];exact k2);have hWF:∀id,Mm r.W id->Mm r.F id:=λid hid=>U0 (h.N6 hr).2.2.1 id hid;have hKW:∀id∈Jg C s r.o,Mm r.F id:=λid hid=>by
   obtain⟨_,_,_,_,_,⟨l,c,_,_,h3⟩,_⟩:=hg;have hop:∀x∈r.o.op.operands,InA ((C8 acc b0).F r.i) (s.ev x):=λx hx=>by
    cases x with
    | tmp t=>exact hrd t<|By _<|Qp hx
    | const v=>exact cB v
    | _=>exact .of1 trivial
   have aEb:pur r.o=U->False:=λhp=>by
    unfold pur at hp;unfold Jg at hid;cases ho2:r.o.op<;>rw[ho2]at hp hid<;>first|(cases hid;done)|(cases hp;done)
   obtain⟨_,_,h6|h6⟩|⟨hmv,_⟩:=h3
   .exact(aEb h6.2.1).elim
   rotate_left
   .simp only[mvO,AG]at hmv;exact(aEb hmv.1.2).elim
   .have hcl:Df ((C8 acc b0).F r.i) s.H:=λid ob hid ho=>f2 id ob (by simp only[C8,fi]at hid ⊢; rw[h6];exact hid) ho;have:=axx hop hcl hid;simp only[C8,fi]at this;exact this
  obtain⟨g,v,es,a1,a2,a3,a4,a5⟩:=axu (F:=(C8 acc b0).F r.i) (N:=(C8 acc b0).N r.i) (WS:=λe=>(C8 acc b0).W r.i e.id/\(e.fk= .no\/(C8 acc b0).K r.i e.id)) hok hrd f2
   (λj k1 k2=>nice.WF _ _<|hWn j k1 k2) (λe k1 k2=>⟨hWn _ k1 k2,.inr<|hKn _ k1 k2⟩)
   ⟨λhe=>⟨λe hF hfk=>⟨by
     simp only[C8,fi]at hF ⊢;rw[(h21 he).1];exact hF,.inl hfk⟩,λe hk=>⟨by
     simp only[C8,fi];rw[(h21 he).1];exact hKW _ hk,.inr (by simp only[C8,fi];exact(h21 he).2 _ hk)⟩⟩,
    λl he e hl=>⟨by simp only[C8,fi];exact(h22 l he _ hl).1,.inr (by simp only[C8,fi];exact(h22 l he _ hl).2)⟩⟩
   (by
    obtain⟨_,_,_,_,_,⟨l,c,_,_,h3⟩,_⟩:=hg;obtain⟨_,_,h6|h6⟩|⟨hmv,_⟩:=h3
    .refine .inl ⟨h6.2.1,h6.2.2, ?_⟩;cases hmo:mov r.o.op with
     | true=>exact .inl rfl
     | false=>exact .inr λt ht=>(aF1 t ht).2.resolve_left λh=>by rw[hmo]at h;cases h
    rotate_left
    .simp only[mvO,AG]at hmv;exact .inl ⟨hmv.1.2,by simpa using hmv.2,.inl hmv.1.1⟩
    .refine .inr λid hid=> ?_;simp only[C8,fi]at hid ⊢;rw[h6];exact hid) h1
  have hst:Stp C ops r.o ((C8 acc b0).b r.i) ((C8 acc b0).F r.i) ((C8 acc b0).N r.i) ((C8 acc b0).W r.i) ((C8 acc b0).K r.i) ((C8 acc b0).V r.i) s s1:=by
   rw[eb];refine⟨g,v,es,a1,λt ht=> ?_,a2,a3,a4,a5⟩;rw[ht]at h3;have:s1.T t=v:=by rw[a4,cc,A8 ht]
   rw[← this];refine bj (show VT (s1.T t)=I r.V from h3) λj hj=> ?_;simp only[C8,fi];exact hj
  refine .cons ho hst (mK h hn rs s1 s' h4 (λx hx=>hm x<|An _ hx) hp'.2 λx hx=> ?_);have hxi:r.i<x.i:=hp'.1 x.i<|C3.2 ⟨x,hx,rfl⟩;exact(hf x<|An _ hx).step nice ho (Pl hxi) (λhR=>by have:=nice.lt _ _ hR;omega) hst λj hj=>by
   rcases Bo.1 hj with e|hj
   .exact .inl e
   .exact .inr hj
def mg:∀(rs:List Rec) (s s':S) (m:Nat),cY C ops rs s s'->(∀r∈rs,r.b+16<=m)->BJ (λj=>j<m) s s'
 | [],s,s',m,hc,_=>by cases hc;exact BJ.refl _ _
 | r::rs,s,s',m,⟨s1,h1,_,_,h4⟩,hb=>by
  have k1:=aGK h1;have hb1:=hb r Av;have k1':BJ (λj=>j<m) s s1:=⟨k1.nid,k1.n,k1.pins,λj hj e=>k1.nn j (λhh=>hj J) e⟩;exact k1'.trans<|mg rs s1 s' m h4 λx hx=>hb x<|An _ hx
def Cf.places:∀ {acc:List Rec},Cf C ops s0 b0 acc->acc.reverse.map (·.i)=BB acc.length
 | [],_=>rfl
 | r::acc,h=>by
  rw[List.reverse_cons,Eo,Cf.places h.1,Bh,IU];simp[h.2.1]
def auX(hP:C.P=B.P)(hm:B.P.follows .mixedOrders=U)(hC:Hn C B){k:S->Option Ω}(he:evD C ops s ops.toList 0 s.nid [] s k=I q)(hfr:Fr s){β:Beta}{a:Act}{w:World}(hst:St B β stk s a w)
  {id:Nat}{Q:Exit->Act->World->Prop}(hQ:∀β a w s',St B β stk s' a w->Fr s'->s'.n=s.n->s'.pins=s.pins->k s'=I q->Q .normal a w):(S1 id ops U).wp B.P Q a w:=by
 obtain⟨rs,s',h1,h2,h3,h4⟩:=o6 (b0:=s.nid) ops.toList 0 s.nid [] s he trivial rfl rfl (by simp);simp only[CW,DT]at h2 h4;have hn:rs.reverse.length=ops.size:=by simpa using h3
 have hpl:=h2.places;rw[pU,hn]at hpl;have Lw:∀j,Fit ops (C8 rs.reverse s.nid) (BB ops.size) s j:=λj=>h2.fit hn hfr;have Cr:=mK h2 hn rs s s' h1 (λr hr=>by simpa using hr) (by rw[hpl];exact Rr) (λr hr=>by rw[hpl];exact Lw _);rw[hpl]at Cr;have Q4:BJ (λj=>j<s.nid+16 * ops.toList.length) s s':=mg rs s s' _ h1 λr hr=>by
  have hr':r∈rs.reverse:=by simpa using hr
  have e1:=(h2.N6 hr').1;have e2:=h2.lt r hr';rw[hn]at e2;have:ops.toList.length=ops.size:=by simp
  omega
 refine asH hP hm hC (h2.nice hn) Cr (λj _=>Lw j) hst λβ a w h=> ?_;refine hQ β a w { s' with nid:=s.nid+16 * ops.toList.length } ⟨h.T,h.stack,h.n,h.defers,h.pins,h.gs,h.hs⟩ (λj hj=> ?_) Q4.n Q4.pins h4;have hj:s.nid+16 * ops.toList.length<=j:=hj;exact Q4.nn j J<|hfr j J
end
end Go.VS
namespace Go.VS
open Go
def JZ(C:Cx)(B:Bg)(inl:(Ω:Type)->Inl Ω):Prop:=∀(Ω:Type) (f:FuncId) (d:Option Nat) (as:List AV) (s:S) (k:S->Option Ω) (q:Ω),inl Ω f d as s k=I q->
 ∀(β:Beta) (stk:List (Array Value)) (a:Act) (w:World) (o:Oper) (args:List Operand) (ts:Array TypeId) (K:Act->World->Prop) (Q:Exit->Act->World->Prop),
 St B β stk s a w->Fr s->s.has d=U->o.dst=d->as=args.map s.ev->o.op= .call { callee:= .value<|.func f,args:=args.toArray,argTypes:=ts } ->
 (∀β' u w' s',St B β' stk s' (a.put d u) w'->Fr s'->s'.n=s.n->s'.pins=s.pins->k s'=I q->K (a.put d u) w')->o.wp B.P a w K Q
def aHk(C:Cx)(B:Bg):JZ C B AI:=by
 intro Ω f d as s k q h;cases h
section
variable {C:Cx} {B:Bg} {ops:Array Oper} {stk:List (Array Value)} {s s':S} {Ω:Type} {q:Ω} {β:Beta} {a:Act} {w:World} {inl:(Ω:Type)->Inl Ω}
def rj(C:Cx)(o:Oper):Prop:=∃f c,o.op= .call c/\c.callee= .value (.func f)/\C.Γ f o.dst=A0
def auW{o:Oper}{b:Nat}{k:S->Option Ω}(hn:¬rj C o):evG C (inl Ω) ops o b s k=(ev1 C ops o b s).bind k:=by
 have h:∀b s,∀k:S->Option Ω,CS C (inl Ω) o b s k=(CS C (AI S) o b s I).bind k:=λb s k=>aGJ _ λf c h1 h2 h3=>absurd ⟨f,c,h1,h2,h3⟩ hn;unfold ev1 evG;split
 .exact h _ _ _
 .split
  .rfl
  .split
   .split
    .split<;>rfl
    .rfl
   .rfl
  .split
   .rename_i c _;simp only[h];cases hh:s.has o.dst<;>(split<;>split<;>rfl)
   .split<;>rfl
   .rfl
def aHa(hI:JZ C B inl){o:Oper}{b:Nat}{k:S->Option Ω}(hin:rj C o)(he:CS C (inl Ω) o b s k=I q)(hst:St B β stk s a w)(hfr:Fr s){K:Act->World->Prop}{Q:Exit->Act->World->Prop}
  (hK:∀β' u w' s',St B β' stk s' (a.put o.dst u) w'->Fr s'->s'.n=s.n->s'.pins=s.pins->k s'=I q->K (a.put o.dst u) w'):o.wp B.P a w K Q:=by
 obtain⟨f,c,h1,h2,h3⟩:=hin;obtain⟨cal,⟨args⟩,⟨tys⟩⟩:=c;simp only at h2;subst h2;unfold CS at he;split at he
 .cases he
 rename_i hd;simp only[h1,h3]at he;exact hI Ω f o.dst _ s k q he β stk a w o args ⟨tys⟩ K Q hst hfr hd rfl rfl h1 hK
def aIg(hP:C.P=B.P)(hC:Hn C B)(hI:JZ C B inl){i:Nat}{o:Oper}(hi:ops[i]? =I o){k:S->Option Ω}(he:evG C (inl Ω) ops o s.nid s k=I q)(hst:St B β stk s a w)(hfr:Fr s){K:Act->World->Prop}{Q:Exit->Act->World->Prop}
  (hK:∀β' u w' s',St B β' stk s' (a.put o.dst u) w'->(∀j,s'.nid+16<=j->s'.H j=A0)->s'.n=s.n->s'.pins=s.pins->k s'=I q->K (a.put o.dst u) w'):wpOp B.P ops Q i K a w:=by
 by_cases hin:rj C o
 .have hK':∀s1:S,s1.n=s.n->s1.pins=s.pins->∀β' u w' s',St B β' stk s' (a.put o.dst u) w'->Fr s'->s'.n=s1.n->s'.pins=s1.pins->k s'=I q->K (a.put o.dst u) w':=
   λs1 e1 e2 β' u w' s' k1 k2 k3 k4 k5=>hK β' u w' s' k1 (λj hj=>k2 j J) (k3.trans e1) (k4.trans e2) k5
  unfold wpOp;simp only[hi];unfold evG at he;split at he
  .rename_i hg;have hw:Jn o (yielded ops a.tmps)=U:=by simp[Jn,hg]
   rw[A8 hw];exact .inl (aHa hI hin he hst hfr<|hK' s rfl rfl)
  .rename_i j want hg;have hwd:Jn o (yielded ops a.tmps)=(yielded ops a.tmps j == I want):=by simp[Jn,hg]
   rw[hwd];split at he
   .cases he
   .rename_i g hgd hsp;split at he
    .rename_i qq v Es hv;obtain⟨f,c,h1,h2,h3⟩:=hin;obtain⟨cal,⟨args⟩,⟨tys⟩⟩:=c;simp only at h2;subst h2;simp only[h1,spA,h3]at hv;cases hv
    .cases he
   .rename_i g hgd hsp;split at he
    .rename_i c hT;have htg:Be a g= .bool c:=by have:=hst.T g;rw[hT]at this;exact this
     have hy:yielded ops a.tmps j=I c:=YD hgd htg;rw[hy];have hn:∀w0:Bool,c=w0->St B β stk { s with T:=upd s.T g (.b w0) } a w:=by
      intro w0 e;subst e;rw[show({ s with T:=upd s.T g (.b c) } :S)=s by rw[aIx _ _ _ hT]];exact hst
     have yes:CS C (inl Ω) o s.nid { s with T:=upd s.T g (.b want) } k=I q->c=want->
       (if(I c == I want)=U then o.wp B.P a w K Q\/(o.asks B.P a w/\LetsOut Q) else K (a.put o.dst undef) w):=by
      intro he e;rw[A8<|by simp[e]];exact .inl<|aHa hI hin he (hn want e) hfr<|hK' _ rfl rfl
     have no:(match s.has o.dst with
       | true=>k (({ s with T:=upd s.T g (.b<|!want) } :S).put o.dst Dx)
       | false=>A0)=I q->c= !want->
       (if(I c == I want)=U then o.wp B.P a w K Q\/(o.asks B.P a w/\LetsOut Q) else K (a.put o.dst undef) w):=by
      intro he e;rw[AD (by subst e;cases want<;>simp)];split at he
      .rename_i Es;refine hK β undef w _ ((hn (!want) e).put (by exact Es) (v:=Dx) (u:=undef) rfl (λg' w1 x e=>by cases e)) (λj hj=> ?_) ?_ ?_ he
       .have:=hfr j (by cases hod:o.dst<;>rw[hod]at hj<;>exact Ce (bG _ 16) hj);cases o.dst<;>exact this
       .cases o.dst<;>rfl
       .cases o.dst<;>rfl
      .cases he
     cases want<;>cases c<;>simp only[A5,if_false,I1]at he
     .exact yes he rfl
     .exact no he rfl
     .exact no he rfl
     .exact yes he rfl
    .rename_i vs hT;have htg:Be a g= .tuple vs:=by have:=hst.T g;rw[hT]at this;exact this
     have hy:¬(yielded ops a.tmps j == I want)=U:=by
      intro e;have:=YC hgd (show yielded ops a.tmps j=I want by simpa using e);rw[htg]at this;cases this
     rw[AD hy];split at he
     .rename_i Es;refine hK β undef w _ (hst.put Es (v:=Dx) (u:=undef) rfl (λg' w1 x e=>by cases e)) (λj hj=> ?_) ?_ ?_ he
      .have:=hfr j (by cases hod:o.dst<;>rw[hod]at hj<;>exact Ce (bG _ 16) hj);cases o.dst<;>exact this
      .cases o.dst<;>rfl
      .cases o.dst<;>rfl
     .cases he
    .cases he
 .rw[auW hin]at he;obtain⟨s1,h1,h2⟩:=Am.1 he;have hk:=aGK h1;refine qR hP hC hi hst (λj hj _=>hfr j hj) h1 λβ' u w' h=>hK β' u w' s1 h (λj hj=>hk.nn j (λhh=> ?_)<|hfr j ?_) hk.n hk.pins h2
  .rw[hk.nid]at hj;omega
  .rw[hk.nid]at hj;omega
def aGp(hP:C.P=B.P)(hC:Hn C B)(hI:JZ C B inl){k:S->Option Ω}{Q:Exit->Act->World->Prop}{n:Nat}{p:List Nat}
  (hQ:∀β a w s',St B β stk s' a w->Fr s'->s'.n=n->s'.pins=p->k s'=I q->Q .normal a w):∀(l:List Oper) (i:Nat) (s:S) (β:Beta) (a:Act) (w:World),(∀j,l[j]? =ops[i+j]?)->
  Pq C (inl Ω) ops l s k=I q->St B β stk s a w->Fr s->s.n=n->s.pins=p->wpOps B.P ops Q (List.range' i l.length) a w
 | [],i,s,β,a,w,_,he,hst,hfr,hn,hp=>hQ β a w s hst hfr hn hp he
 | o::l,i,s,β,a,w,hl,he,hst,hfr,hn,hp=>by
  rw[Bh,List.range'_succ,wpOps_cons];have ho:ops[i]? =I o:=by simpa using (hl 0).symm
  refine aIg hP hC hI ho (show evG C (inl Ω) ops o s.nid s (λs=>Pq C (inl Ω) ops l { s with nid:=s.nid+16 } k)=I q from he) hst hfr ?_;intro β' u w' s' h1 h2 h3 h4 h5;exact aGp hP hC hI hQ l (i+1) { s' with nid:=s'.nid+16 } β' _ w' (λj=>by
   have:=hl<|j+1;simpa[DI,Nl 1 j] using this) h5 ⟨h1.T,h1.stack,h1.n,h1.defers,h1.pins,h1.gs,h1.hs⟩ h2 (h3.trans hn) (h4.trans hp)
def aEC(hP:C.P=B.P)(hC:Hn C B)(hI:JZ C B inl){k:S->Option Ω}(he:Pq C (inl Ω) ops ops.toList s k=I q)(hfr:Fr s)(hst:St B β stk s a w)
  {id:Nat}{Q:Exit->Act->World->Prop}(hQ:∀β a w s',St B β stk s' a w->Fr s'->s'.n=s.n->s'.pins=s.pins->k s'=I q->Q .normal a w):(S1 id ops A3).wp B.P Q a w:=by
 refine wp_region ?_;have:=aGp hP hC hI hQ ops.toList 0 s β a w (by simp) he hst hfr rfl rfl;rw[List.range_eq_range',← FG];exact this
end
end Go.VS
namespace Go.VS
open Go
def Imm(w:World)(M:Nat->Prop)(c:AV)(v:Value):Prop:=∀β:Beta,(∀b,MZ β b->M b)->RC w β c v
mutual
def Rel (P:Program) (w:World) (M:Nat->Prop) (e:Nat->Value):(h:Sh)->LT h->Value->List (Value×Nat)->Prop
 | .int k,n,v,os=>v= .int k n/\os=[]
 | .bool,x,v,os=>v= .bool x/\os=[]
 | .str,s,v,os=>v= .string s/\os=[]
 | .sl k,xs,v,os=>Imm w M (.sl k xs) v/\os=[]
 | .fz k,xs,v,os=>Imm w M (.sl k xs) v/\os=[]
 | .row t k,xs,v,os=>os=[(v,xs.length)]/\SI v=U/\ ∀β:Beta,(∀b,MZ β b->M b)->Ft w β t A3 k xs v
 | .Cq t k,xs,v,os=>os=[(v,xs.length)]/\SI v=U/\ ∀β:Beta,(∀b,MZ β b->M b)->Ft w β t U k xs v
 | .abx t k,xs,v,os=>os=[(v,xs.length)]/\1<=xs.length/\ ∃b us,v= .pointer (I ⟨b,0,A0⟩)/\w.heap[b]? =I (.cells us t (0,0))/\us.size=xs.length * ks k/\us.size=P.cellsOf t/\
   (∀β:Beta,(∀b,MZ β b->M b)->∀i x j c u,xs[i]? =I x->(enc k x)[j]? =I c->us[i * ks k+j]? =I u->RC w β c u)
 | .arr k,xs,v,os=>os=[]/\ ∀β:Beta,(∀b,MZ β b->M b)->R1 w β (.arr k xs) v
 | .same t,_,v,os=>os=[]/\v=e t/\v.oneCell'=U
 | .agg l,x,v,os=>∃us:List Value,v= .agg us.toArray/\Cp P w M e l x us os
 | .box t l,x,v,os=>∃b us os',v= .pointer (I ⟨b,0,A0⟩)/\w.heap[b]? =I (.cells us t (0,0))/\Cp P w M e l x us.toList os'/\os=os'++[(v,1)]
def Cp (P:Program) (w:World) (M:Nat->Prop) (e:Nat->Value):(l:List Sh)->LTs l->List Value->List (Value×Nat)->Prop
 | [],_,us,os=>us=[]/\os=[]
 | h::l,x,us,os=>∃u us' o1 o2,us=u::us'/\os=o1++o2/\Rel P w M e h x.1 u o1/\Cp P w M e l x.2 us' o2
end
def HU(p:Value×Nat):Option Nat:=(adr p.1).map (·.block)
abbrev B3(os:List (Value×Nat)):List Nat:=os.filterMap HU
mutual
def Mf:Sh->List Nat
 | .same t=>[t]
 | .agg l=>Iv l
 | .box _ l=>Iv l
 | _=>[]
def Iv:List Sh->List Nat
 | []=>[]
 | h::l=>Mf h++Iv l
end
section
variable {B:Bg} {β β':Beta} {H:Hp} {w w':World} {M:Nat->Prop} {E:Nat->AV} {e:Nat->Value}
def RC.Rc{c:AV}{v:Value}(h:RC w β c v)(hc:Gp c=U)(hM:∀b,M b->MZ β b):Imm w M c v:=λβ' hβ'=>
 RC.imm (λ_ _ _ _ h=>h) (λb hb _ hm=>hb<|hM b<|hβ' b hm) h hc
def Ft.imm{t:TypeId}{fz:Bool}{k:K}{xs:List (Tof k)}{v:Value}(h:Ft w β t fz k xs v)(hM:∀b,M b->MZ β b):∀β':Beta,(∀b,MZ β' b->M b)->Ft w β' t fz k xs v:=by
 intro β' hβ';obtain h|⟨b,f,cap,us,fr,h1,h2,h3,h4,h5,h6,h7⟩:=h
 .exact .inl h
 .exact .inr ⟨b,f,cap,us,fr,h1,h2,h3,h4,h5,h6,λi x j c u a1 a2 a3=>(h7 i x j c u a1 a2 a3).Rc (Io k x a2) hM β' hβ'⟩
def Ft.amK{t:TypeId}{fz:Bool}{k:K}{xs:List (Tof k)}{v:Value}(h:Ft w β t fz k xs v)(hM:∀b,M b->MZ β b)(hn:∀a,adr v=I a->¬M a.block):Imm w M (.sl k xs) v:=by
 intro β' hβ';obtain⟨rfl,rfl⟩|⟨b,f,cap,us,fr,rfl,hh,hfr,hn',hc,hs,hr⟩:=h
 .exact .nil
 .have D1:∀i j,i<xs.length->j<ks k->f+(i * ks k+j)<us.size:=by
   intro i j hi hj;have h1:(i+1) * ks k<=cap * ks k:=EH _ J;rw[ER]at h1;omega
  refine .sl (λi j=>us.getD (f+(i * ks k+j)) undef) ⟨rfl,hn'⟩ (λhm=>hn _ rfl (hβ' _ hm)) (λi j hi hj=> ?_) (λi x j c h2 h3=> ?_)
  .rw[cell_of_row w b _ us t fr hh];have:=D1 i j hi hj;simp[this]
  .have hi:i<xs.length:=(BP.1 h2).1;have hj:j<ks k:=by rw[← EV k x];exact(BP.1 h3).1
   have:=D1 i j hi hj;exact(hr i x j c (us.getD (f+(i * ks k+j)) undef) h2 h3<|by simp[this]).Rc (Io k x h3) hM β' hβ'
def R1.lits{v' v:Value}(h:R1 w β (.lit v') v):v=v':=h
def R1.sls{k:K}{xs:List (Tof k)}{v:Value}(h:R1 w β (.sl k xs) v):RC w β (.sl k xs) v:=h
def R1.oz{id:Nat}{v:Value}(h:R1 w β (.own id) v):RC w β (.own id) v:=h
def R1.Rb{id z i o:Nat}{v:Value}(h:R1 w β (.ptr id z i o) v):RC w β (.ptr id z i o) v:=h
structure OI (B:Bg) (β:Beta) (H:Hp) (w:World) (M:Nat->Prop) (E:Nat->AV) (e:Nat->Value):Prop where
 hs:Hs B β H w
 hM:∀b,M b->MZ β b
 hE:∀t id z,E t= .ptr id z 0 0->R1 w β (E t) (e t)
def SG(β:Beta)(M:Nat->Prop)(ids:List Nat):Prop:=∀i∈ids,∀p a,β i=I p->adr p.1=I a->¬M a.block
def qf(R:OI B β H w M E e){id:Nat}{t:TypeId}{fz:Bool}{k:K}{xs:List (Tof k)}{v:Value}(hv:RC w β (.own id) v)(hid:H id=I (.row t fz k xs)):
  SI v=U/\β id=I (v,xs.length)/\Ft w β t fz k xs v:=by
 cases hv with
 | own h hs=>
  obtain⟨hd,h1,h2⟩:=R.hs.EU id _ hid;rw[h]at h1;cases h1;exact⟨hs,h,h2⟩
mutual
theorem po (R:OI B β H w M E e):∀(h:Sh) (c:AV) (v:Value) (x:LT h),R1 w β c v->Bs E H h c=I x->SG β M (Cw H h c)->
  ∃os,Rel B.P w M e h x v os/\B3 os=B3 ((Cl H h c).filterMap β)
 | .int k,c,v,x,hv,hx,_=>by
  cases c with
  | lit v'=>
   cases v'<;>first|(simp[Bs]at hx;done)|skip
   simp only[Bs]at hx;split at hx
   .rename_i e1;simp at e1;subst e1;cases hx;exact⟨[],⟨hv.lits,rfl⟩,rfl⟩
   .cases hx
  | _=>simp[Bs]at hx
 | .bool,c,v,x,hv,hx,_=>by
  cases c with
  | lit v'=>
   cases v'<;>first|(simp[Bs]at hx;done)|skip
   simp only[Bs]at hx;cases hx;exact⟨[],⟨hv.lits,rfl⟩,rfl⟩
  | _=>simp[Bs]at hx
 | .str,c,v,x,hv,hx,_=>by
  cases c with
  | lit v'=>
   cases v'<;>first|(simp[Bs]at hx;done)|skip
   simp only[Bs]at hx;cases hx;exact⟨[],⟨hv.lits,rfl⟩,rfl⟩
  | _=>simp[Bs]at hx
 | .sl k,c,v,x,hv,hx,_=>by
  cases c with
  | sl k' xs=>
   obtain⟨e1,rfl⟩:=IE<|show J1 k' k xs=I x from hx;subst e1;exact⟨[],⟨hv.sls.Rc rfl R.hM,rfl⟩,rfl⟩
  | lit v'=>
   cases v' with
   | slice a n cap=>
    cases a<;>cases n<;>cases cap<;>simp[Bs]at hx;subst hx;have:=hv.lits;subst this;exact⟨[],⟨λ_ _=> .nil,rfl⟩,rfl⟩
   | _=>simp[Bs]at hx
  | _=>simp[Bs]at hx
 | .fz k,c,v,x,hv,hx,hf=>by
  cases c with
  | sl k' xs=>
   obtain⟨e1,rfl⟩:=IE<|show J1 k' k xs=I x from hx;subst e1;exact⟨[],⟨hv.sls.Rc rfl R.hM,rfl⟩,rfl⟩
  | lit v'=>
   cases v' with
   | slice a n cap=>
    cases a<;>cases n<;>cases cap<;>simp[Bs,CM]at hx;subst hx;have:=hv.lits;subst this;exact⟨[],⟨λ_ _=> .nil,rfl⟩,rfl⟩
   | _=>simp[Bs,CM]at hx
  | own id=>
   simp only[Bs,CM]at hx;split at hx
   .rename_i t fz k' ys hid;obtain⟨e1,rfl⟩:=IE hx;subst e1;obtain⟨h1,h2,h3⟩:=qf R hv.oz hid;exact⟨[],⟨h3.amK R.hM λa ha=>hf id (by simp[Cw]) _ a h2 ha,rfl⟩,rfl⟩
   .cases hx
  | _=>simp[Bs,CM]at hx
 | .row t k,c,v,x,hv,hx,_=>by
  cases c with
  | lit v'=>
   cases v' with
   | slice a n cap=>
    cases a<;>cases n<;>cases cap<;>simp[Bs]at hx;subst hx;have:=hv.lits;subst this;exact⟨[(.slice A0 0 0,0)],⟨rfl,rfl,λ_ _=> .inl ⟨rfl,rfl⟩⟩,rfl⟩
   | _=>simp[Bs]at hx
  | own id=>
   simp only[Bs]at hx;split at hx
   .rename_i t' k' ys hid;split at hx
    .rename_i ht;obtain rfl:=Bq ht;obtain⟨e1,rfl⟩:=IE hx;subst e1;obtain⟨h1,h2,h3⟩:=qf R hv.oz hid;exact⟨[(v,ys.length)],⟨rfl,h1,h3.imm R.hM⟩,by simp[Cl,h2]⟩
    .cases hx
   .cases hx
  | _=>simp[Bs]at hx
 | .Cq t k,c,v,x,hv,hx,_=>by
  cases c with
  | own id=>
   simp only[Bs]at hx;split at hx
   .rename_i t' k' ys hid;split at hx
    .rename_i ht;obtain rfl:=Bq ht;obtain⟨e1,rfl⟩:=IE hx;subst e1;obtain⟨h1,h2,h3⟩:=qf R hv.oz hid;exact⟨[(v,ys.length)],⟨rfl,h1,h3.imm R.hM⟩,by simp[Cl,h2]⟩
    .cases hx
   .cases hx
  | _=>simp[Bs]at hx
 | .abx t k,c,v,x,hv,hx,_=>by
  cases c with
  | ptr id z i o=>
   cases i<;>cases o<;>simp only[Bs]at hx<;>first|(cases hx;done)|skip
   split at hx
   .rename_i t' k' ys hid;split at hx
    .rename_i ht;simp only[AG]at ht;obtain rfl:=Bq ht.1;obtain⟨e1,rfl⟩:=IE hx;subst e1;have hv:=hv.Rb;cases hv with
     | @ptr _ _ _ _ hd n b f h1 ha hi=>
      obtain⟨b',us,k1,k2,k3,k4,k5⟩:=R.hs.EU id _ hid;rw[h1]at k1;cases k1;cases ha;have e0:0 * z=0:=V0 z;refine⟨[(.pointer<|I ⟨b,0,A0⟩,ys.length)],⟨?_,hi,b,us, ?_,k2,k3,k4,λβ' hβ' i x j c u a1 a2 a3=>(k5 i x j c u a1 a2 a3).Rc (Io k' x a2) R.hM β' hβ'⟩,by simp[Cl,h1]⟩
      .simp
      .simp
    .cases hx
   .cases hx
  | _=>simp[Bs]at hx
 | .arr k,c,v,x,hv,hx,_=>by
  cases c with
  | arr k' xs=>
   obtain⟨e1,rfl⟩:=IE<|show J1 k' k xs=I x from hx;subst e1;obtain⟨us,k1,k2,k3⟩:=hv;exact⟨[],⟨rfl,λβ' hβ'=>⟨us,k1,k2,λi x j c u a1 a2 a3=>(k3 i x j c u a1 a2 a3).Rc (Io k' x a2) R.hM β' hβ'⟩⟩,rfl⟩
  | _=>simp[Bs]at hx
 | .same t,c,v,x,hv,hx,_=>by
  cases c with
  | ptr id z i o=>
   cases i<;>cases o<;>simp only[Bs]at hx<;>first|(cases hx;done)|skip
   split at hx
   .rename_i id' z' hE;split at hx
    .rename_i hid;obtain rfl:=Bq hid;have h2:=R.hE t _ _ hE;rw[hE]at h2;have h2:=h2.Rb;have h1:=hv.Rb;refine⟨[],⟨rfl, ?_,h1.one⟩,rfl⟩;generalize e t=v2 at h2;cases h1 with
     | ptr a1 a2 a3=>
      cases h2 with
      | ptr b1 b2 b3=>
       rw[a1]at b1;cases b1;rw[a2]at b2;cases b2;simp
    .cases hx
   .cases hx
  | _=>simp[Bs]at hx
 | .agg l,c,v,x,hv,hx,hf=>by
  cases c with
  | agg cs=>
   obtain⟨us,rfl,hr⟩:=hv;obtain⟨os,h1,h2⟩:=nb R l cs us x hr hx hf;exact⟨os,⟨us,rfl,h1⟩,h2⟩
  | _=>simp[Bs]at hx
 | .box t l,c,v,x,hv,hx,hf=>by
  cases c with
  | ptr id z i o=>
   cases i<;>cases o<;>simp only[Bs]at hx<;>first|(cases hx;done)|skip
   split at hx
   .rename_i t' cs hid;split at hx
    .rename_i ht;obtain rfl:=Bq ht;have hv:=hv.Rb;cases hv with
     | @ptr _ _ _ _ hd n b f h1 ha hi=>
      obtain⟨b',us,k1,k2,k3⟩:=R.hs.EU id _ hid;rw[h1]at k1;cases k1;cases ha;obtain⟨os,j1,j2⟩:=nb R l cs us.toList x k3 hx (by simpa only[Cw,hid] using hf);refine⟨os++[(.pointer<|I ⟨b,0,A0⟩,1)],⟨b,us,os,by simp,k2,j1,by simp⟩, ?_⟩;have:Cl H (.box t l) (.ptr id z 0 0)=Bp H l cs++[id]:=by simp only[Cl,hid]
      rw[this];simp only[B3,Mr]at j2 ⊢;rw[j2];simp[h1]
    .cases hx
   .cases hx
  | _=>simp[Bs]at hx
theorem nb (R:OI B β H w M E e):∀(l:List Sh) (cs:List AV) (us:List Value) (x:LTs l),RL (RC w β) cs us->GZ E H l cs=I x->SG β M (D5 H l cs)->
  ∃os,Cp B.P w M e l x us os/\B3 os=B3 ((Bp H l cs).filterMap β)
 | [],[],us,x,hr,hx,_=>⟨[],⟨hr.of_nil,rfl⟩,rfl⟩
 | [],_::_,us,x,hr,hx,_=>by cases hx
 | _::_,[],us,x,hr,hx,_=>by cases hx
 | h::l,c::cs,us,x,hr,hx,hf=>by
  obtain⟨u,us',rfl,h1,h2⟩:=hr.CI;obtain⟨x1,e1,hx⟩:=Am.1 hx;obtain⟨x2,e2,hx⟩:=Am.1 hx;cases hx;obtain⟨o1,j1,j2⟩:=po R h c u x1 (R1.N1 h1) e1 (λi hi=>hf i<|By _ hi);obtain⟨o2,j3,j4⟩:=nb R l cs us' x2 h2 e2 (λi hi=>hf i<|CU _ hi);refine⟨o1++o2,⟨u,us',o1,o2,rfl,rfl,j1,j3⟩, ?_⟩;simp only[B3,Mr,Bp]at j2 j4 ⊢;rw[j2,j4]
end
def Yk(R:OI B β H w M E e):∀(l:List Sh) (cs:List AV) (us:List Value) (x:LTs l),RL (R1 w β) cs us->GZ E H l cs=I x->SG β M (D5 H l cs)->
  ∃os,Cp B.P w M e l x us os/\B3 os=B3 ((Bp H l cs).filterMap β)
 | [],[],us,x,hr,hx,_=>⟨[],⟨hr.of_nil,rfl⟩,rfl⟩
 | [],_::_,us,x,hr,hx,_=>by cases hx
 | _::_,[],us,x,hr,hx,_=>by cases hx
 | h::l,c::cs,us,x,hr,hx,hf=>by
  obtain⟨u,us',rfl,h1,h2⟩:=hr.CI;obtain⟨x1,e1,hx⟩:=Am.1 hx;obtain⟨x2,e2,hx⟩:=Am.1 hx;cases hx;obtain⟨o1,j1,j2⟩:=po R h c u x1 h1 e1 (λi hi=>hf i<|By _ hi);obtain⟨o2,j3,j4⟩:=Yk R l cs us' x2 h2 e2 (λi hi=>hf i<|CU _ hi);refine⟨o1++o2,⟨u,us',o1,o2,rfl,rfl,j1,j3⟩, ?_⟩;simp only[B3,Mr,Bp]at j2 j4 ⊢;rw[j2,j4]
end
end Go.VS
namespace Go.VS
open Go
section
variable {P:Program} {β:Beta} {H:Hp} {w:World} {M:Nat->Prop} {E:Nat->AV} {e:Nat->Value} {b:Nat}
def Ik(P:Program)(w:World)(β:Beta)(H H':Hp)(b n:Nat):Prop:=
 (∀j,j<b\/b+n<=j->H' j=H j)/\(∀j,b<=j->j<b+n->∃ob,H' j=I ob/\EJ P w β j ob)
def Ik.nil:Ik P w β H H b 0:=⟨λ_ _=>rfl,λj h1 h2=>by omega⟩
def Ik.one{ob:Ob}(h:EJ P w β b ob):Ik P w β H (upd H b<|I ob) b 1:=by
 refine⟨λj hj=>BH _ _ J,λj h1 h2=> ?_⟩;have:j=b:=J
 subst this;exact⟨ob,Bi _ _ _,h⟩
def Ik.trans{H' H'':Hp}{n m:Nat}(h:Ik P w β H H' b n)(k:Ik P w β H' H'' (b+n) m):Ik P w β H H'' b (n+m):=by
 refine⟨λj hj=> ?_,λj h1 h2=> ?_⟩
 .rw[k.1 j J,h.1 j J]
 .by_cases e:j<b+n
  .obtain⟨ob,k1,k2⟩:=h.2 j h1 e;exact⟨ob,by rw[k.1 j<|.inl e];exact k1,k2⟩
  .exact k.2 j J J
def Num(β:Beta)(b:Nat)(os:List (Value×Nat)):Prop:=∀i p,os[i]? =I p->β (b+i)=I p
def Num.left{o1 o2:List (Value×Nat)}(h:Num β b (o1++o2)):Num β b o1:=λi p hp=>h i p (by
 rw[IT (BP.1 hp).1];exact hp)
def Num.right{o1 o2:List (Value×Nat)}(h:Num β b (o1++o2)):Num β (b+o1.length) o2:=λi p hp=>by
 have:=h (o1.length+i) p (by rw[Fo J];simpa using hp);rw[DI];exact this
def Num.one{p:Value×Nat}{os:List (Value×Nat)}(h:Num β b (os++[p])):β (b+os.length)=I p:=by
 have:=h.right 0 p rfl;simpa using this
def VE(w:World)(β:Beta)(E:Nat->AV)(e:Nat->Value)(ts:List Nat):Prop:=∀t∈ts,R1 w β (E t)<|e t
def R1.amL{c:AV}{v:Value}(h:R1 w β c v)(h1:v.oneCell'=U):RC w β c v:=by
 cases c with
 | un=>exact .un h1
 | lit v'=>have:=h.lits;subst this;exact .lit h1
 | sl k xs=>exact h
 | own id=>exact h
 | ptr a b c d=>exact h
 | ipt a b c=>exact h
 | arr k xs=>obtain⟨us,rfl,_⟩:=h;cases h1
 | agg cs=>obtain⟨us,rfl,_⟩:=h;cases h1
 | tup vs=>exact h.elim
 | gd a b c=>exact h.elim
mutual
theorem aIm (hM:∀b,MZ β b->M b):∀(h:Sh) (H:Hp) (b:Nat) (x:LT h) (v:Value) (os:List (Value×Nat)),Iy h=U->Rel P w M e h x v os->Num β b os->VE w β E e (Mf h)->
  RC w β (BL E H b h x).1 v/\(BL E H b h x).2.2=b+os.length/\Ik P w β H (BL E H b h x).2.1 b os.length
 | .int k,H,b,x,v,os,_,hr,_,_=>by obtain⟨rfl,rfl⟩:=hr;exact⟨.lit rfl,rfl,.nil⟩
 | .bool,H,b,x,v,os,_,hr,_,_=>by obtain⟨rfl,rfl⟩:=hr;exact⟨.lit rfl,rfl,.nil⟩
 | .str,H,b,x,v,os,_,hr,_,_=>by obtain⟨rfl,rfl⟩:=hr;exact⟨.lit rfl,rfl,.nil⟩
 | .sl k,H,b,x,v,os,_,hr,_,_=>by obtain⟨h1,rfl⟩:=hr;exact⟨h1 β hM,rfl,.nil⟩
 | .fz k,H,b,x,v,os,_,hr,_,_=>by obtain⟨h1,rfl⟩:=hr;exact⟨h1 β hM,rfl,.nil⟩
 | .row t k,H,b,x,v,os,_,hr,hn,_=>by
  obtain⟨rfl,h1,h2⟩:=hr;have hb:β b=I (v,x.length):=hn.one (os:=[]);exact⟨.own hb h1,rfl,.one ⟨v,hb,h2 β hM⟩⟩
 | .Cq t k,H,b,x,v,os,_,hr,hn,_=>by
  obtain⟨rfl,h1,h2⟩:=hr;have hb:β b=I (v,x.length):=hn.one (os:=[]);exact⟨.own hb h1,rfl,.one ⟨v,hb,h2 β hM⟩⟩
 | .abx t k,H,b,x,v,os,_,hr,hn,_=>by
  obtain⟨rfl,h1,bb,us,rfl,h3,h4,h5,h6⟩:=hr;have hb:β b=I (.pointer<|I ⟨bb,0,A0⟩,x.length):=hn.one (os:=[]);refine⟨?_,rfl,.one ⟨bb,us,hb,h3,h4,h5,h6 β hM⟩⟩;have:=RC.ptr (w:=w) (sz:=ks k) (o:=0) hb (rfl:adr (.pointer<|I ⟨bb,0,A0⟩)=I ⟨bb,0,A0⟩) (i:=0) J;show RC w β (.ptr b (ks k) 0 0) _;simpa using this
 | .arr _,_,_,_,_,_,h,_,_,_=>by simp[Iy]at h
 | .agg _,_,_,_,_,_,h,_,_,_=>by simp[Iy]at h
 | .same t,H,b,x,v,os,_,hr,_,hs=>by
  obtain⟨rfl,rfl,h1⟩:=hr;refine⟨?_,rfl,.nil⟩;exact(hs t<|by simp[Mf]).amL h1
 | .box t l,H,b,x,v,os,hl,hr,hn,hs=>by
  obtain⟨bb,us,os',rfl,h2,h3,rfl⟩:=hr;have un:BL E H b (.box t l) x=(match Ao E H b l x with|(cs,H,b)=>(AV.ptr b cs.length 0 0,upd H b<|I<|.box t cs,b+1)):=rfl;obtain⟨k1,k2,k3⟩:=Zn hM l H b x us.toList os' (by simpa[Iy] using hl) h3 hn.left (by simpa[Mf] using hs);rw[un];generalize Ao E H b l x=r at *;obtain⟨cs,H',b'⟩:=r;simp only at k1 k2 k3;subst k2;have hb:=hn.one;refine⟨?_,by simp[DI], ?_⟩
  .have:=RC.ptr (w:=w) (sz:=cs.length) (o:=0) hb (rfl:adr (.pointer<|I ⟨bb,0,A0⟩)=I ⟨bb,0,A0⟩) (i:=0) J;simpa using this
  .rw[B0];exact k3.trans<|.one ⟨bb,us,hb,h2,k1⟩
theorem Zn (hM:∀b,MZ β b->M b):∀(l:List Sh) (H:Hp) (b:Nat) (x:LTs l) (us:List Value) (os:List (Value×Nat)),MW l=U->Cp P w M e l x us os->Num β b os->VE w β E e (Iv l)->
  RL (RC w β) (Ao E H b l x).1 us/\(Ao E H b l x).2.2=b+os.length/\Ik P w β H (Ao E H b l x).2.1 b os.length
 | [],H,b,x,us,os,_,hr,_,_=>by obtain⟨rfl,rfl⟩:=hr;exact⟨.nil,rfl,.nil⟩
 | h::l,H,b,x,us,os,hl,hr,hn,hs=>by
  obtain⟨u,us',o1,o2,rfl,rfl,h1,h2⟩:=hr;simp only[MW,AG]at hl;have un:Ao E H b (h::l) x=(match BL E H b h x.1 with|(c,H,b)=>match Ao E H b l x.2 with|(cs,H,b)=>(c::cs,H,b)):=rfl;obtain⟨k1,k2,k3⟩:=aIm hM h H b x.1 u o1 hl.1 h1 hn.left (λt ht=>hs t<|By _ ht);rw[un];generalize BL E H b h x.1=r at *;obtain⟨c,H',b'⟩:=r;simp only at k1 k2 k3 ⊢;subst k2;obtain⟨j1,j2,j3⟩:=Zn hM l H' (b+o1.length) x.2 us' o2 hl.2 h2 hn.right (λt ht=>hs t<|CU _ ht);generalize Ao E H' (b+o1.length) l x.2=r at *;obtain⟨cs,H'',b''⟩:=r;simp only at j1 j2 j3 ⊢;subst j2;refine⟨.cons k1 j1,by simp[DI], ?_⟩;rw[B0];exact k3.trans j3
end
def aIl(hM:∀b,MZ β b->M b)(h:Sh)(H:Hp)(b:Nat)(x:LT h)(v:Value)(os:List (Value×Nat))(ht:s7 h=U)(hr:Rel P w M e h x v os)(hn:Num β b os)(hs:VE w β E e (Mf h)):
  R1 w β (BL E H b h x).1 v/\(BL E H b h x).2.2=b+os.length/\Ik P w β H (BL E H b h x).2.1 b os.length:=by
 by_cases hh:Iy h=U
 .obtain⟨h1,h2,h3⟩:=aIm hM h H b x v os hh hr hn hs;exact⟨.N1 h1,h2,h3⟩
 .cases h<;>first|(exact absurd ht hh;done)|skip
  case agg l=>
   obtain⟨us,rfl,h1⟩:=hr;have un:BL E H b (.agg l) x=(match Ao E H b l x with|(cs,H,b)=>(AV.agg cs,H,b)):=rfl;obtain⟨k1,k2,k3⟩:=Zn hM l H b x us os ht h1 hn hs;rw[un];generalize Ao E H b l x=r at *;obtain⟨cs,H',b'⟩:=r;exact⟨⟨us,rfl,k1⟩,k2,k3⟩
  case arr k=>
   obtain⟨rfl,h1⟩:=hr;exact⟨h1 β hM,rfl,.nil⟩
def aD(hM:∀b,MZ β b->M b):∀(l:List Sh) (H:Hp) (b:Nat) (x:LTs l) (us:List Value) (os:List (Value×Nat)),KM l=U->Cp P w M e l x us os->Num β b os->VE w β E e (Iv l)->
  RL (R1 w β) (Ao E H b l x).1 us/\(Ao E H b l x).2.2=b+os.length/\Ik P w β H (Ao E H b l x).2.1 b os.length
 | [],H,b,x,us,os,_,hr,_,_=>by obtain⟨rfl,rfl⟩:=hr;exact⟨.nil,rfl,.nil⟩
 | h::l,H,b,x,us,os,hl,hr,hn,hs=>by
  obtain⟨u,us',o1,o2,rfl,rfl,h1,h2⟩:=hr;simp only[KM,AG]at hl;have un:Ao E H b (h::l) x=(match BL E H b h x.1 with|(c,H,b)=>match Ao E H b l x.2 with|(cs,H,b)=>(c::cs,H,b)):=rfl;obtain⟨k1,k2,k3⟩:=aIl hM h H b x.1 u o1 hl.1 h1 hn.left (λt ht=>hs t<|By _ ht);rw[un];generalize BL E H b h x.1=r at *;obtain⟨c,H',b'⟩:=r;simp only at k1 k2 k3 ⊢;subst k2;obtain⟨j1,j2,j3⟩:=aD hM l H' (b+o1.length) x.2 us' o2 hl.2 h2 hn.right (λt ht=>hs t<|CU _ ht);generalize Ao E H' (b+o1.length) l x.2=r at *;obtain⟨cs,H'',b''⟩:=r;simp only at j1 j2 j3 ⊢;subst j2;refine⟨.cons k1 j1,by simp[DI], ?_⟩;rw[B0];exact k3.trans j3
end
end Go.VS
namespace Go.VS
open Go
def Yl:∀ {l:List Nat},Nf l=U->l.Nodup
 | [],_=>List.nodup_nil
 | a::l,h=>by
  simp only[Nf,AG,C1]at h;refine IY.2 ⟨λhm=> ?_,Yl h.2⟩;have:(l.any λb=>Al a b)=U:=Hd.2 ⟨a,hm,by simp⟩;rw[this]at h;cases h.1
def aHe{l m:List Nat}(h:off l m=U):∀a∈l,a ∉ m:=λa ha hm=>by
 have h1:=Cb.1 h a ha;have:(m.any λb=>Al a b)=U:=Hd.2 ⟨a,hm,by simp⟩;rw[this]at h1;cases h1
section
variable {B:Bg} {β β':Beta} {H H':Hp} {w w':World} {M:Nat->Prop} {E:Nat->AV} {e:Nat->Value} {stk:List (Array Value)} {s s':S} {a:Act}
def NT{ids:List Nat}{b:Nat}(h:b∈B3 (ids.filterMap β)):∃i∈ids,∃p a,β i=I p/\adr p.1=I a/\a.block=b:=by
 obtain⟨p,hp,hb⟩:=Gh.1 h;obtain⟨i,hi,hβ⟩:=Gh.1 hp;obtain⟨a,ha,e⟩:=DJ.1 hb;exact⟨i,hi,p,a,hβ,ha,e⟩
def ZA(hH:Hs B β H w):∀ {ids:List Nat},ids.Nodup->(B3<|ids.filterMap β).Nodup
 | [],_=>List.nodup_nil
 | i::ids,h=>by
  obtain⟨h1,h2⟩:=IY.1 h;have ih:=ZA hH h2;cases hβ:β i with
  | none=>simpa[hβ] using ih
  | some p=>
   cases hb:HU p with
   | none=>simpa[hβ,hb] using ih
   | some b=>
    simp only[B3,pL,hβ,hb];refine IY.2 ⟨λhm=> ?_,ih⟩;obtain⟨j,hj,q,a',hq,ha',e'⟩:=NT hm;obtain⟨a,ha,e⟩:=DJ.1 hb;have:=hH.inj i j p q a a' hβ hq ha ha' (by rw[e,e']);subst this;exact h1 hj
def UT{ids:List Nat}{b:Nat}(h:b∈B3 (ids.filterMap β)):MB β b:=by
 obtain⟨i,_,p,a,h1,h2,h3⟩:=NT h;exact⟨i,p.1,p.2,a,h1,h2,h3⟩
abbrev MO(B:Bg)(l:List Nat)(b:Nat):Prop:=b∈l\/B.Z b
def ab4(hH:Hs B β H w){ids:List Nat}{b:Nat}(h:MO B (B3<|ids.filterMap β) b):MZ β b:=by
 obtain h|h:=h
 .exact .inl (UT h)
 .exact .inr (by rw[hH.z];exact h)
def qO(hH:Hs B β H w){fz ids:List Nat}(h:off fz ids=U):SG β (MO B<|B3<|ids.filterMap β) fz:=by
 intro i hi p a hp ha hm;obtain hm|hm:=hm
 case inr=>rw[← hH.z]at hm;exact hH.zn i p a hp ha hm
 obtain⟨j,hj,q,a',hq,ha',e⟩:=NT hm;have:=hH.inj i j p q a a' hp hq ha ha' e.symm;subst this;exact aHe h i hi hj
def Hx(Z:Nat->Prop)(os:List (Value×Nat)):Beta:=⟨λi=>os[i]?, Z⟩
def qN(Z:Nat->Prop)(os:List (Value×Nat)):Num (Hx Z os) 0 os:=λi p h=>by rw[DT];exact h
def NY{Z:Nat->Prop}{os:List (Value×Nat)}{b:Nat}(h:MB (Hx Z os) b):b∈B3 os:=by
 obtain⟨i,hd,n,a,h1,h2,h3⟩:=h;exact Gh.2 ⟨(hd,n),Cu h1,by simp[HU,h2,h3]⟩
def qk{os:List (Value×Nat)}{b:Nat}(h:MZ (Hx B.Z os) b):MO B (B3 os) b:=h.imp NY λh=>h
def aB{os:List (Value×Nat)}(h:(B3 os).Nodup):∀(i j:Nat) (p q:Value×Nat) (a a':Addr),os[i]? =I p->os[j]? =I q->adr p.1=I a->adr q.1=I a'->a.block=a'.block->i=j:=by
 induction os with
 | nil=>intro i j p q a a' hi;simp at hi
 | cons x os ih=>
  have hx:∀ {p:Value×Nat} {a:Addr},adr p.1=I a->HU p=I a.block:=λh=>by simp[HU,h]
  have ih':(B3 os).Nodup:=by
   cases hb:HU x with
   | none=>simpa[hb] using h
   | some b=>simp only[B3,pL,hb]at h;exact(IY.1 h).2
  have Vh:∀(j:Nat) (q:Value×Nat) (a a':Addr),os[j]? =I q->adr x.1=I a->adr q.1=I a'->a.block=a'.block->False:=by
   intro j q a a' hj ha ha' e;simp only[B3,pL,hx ha]at h;refine(IY.1 h).1<|Gh.2 ⟨q,Cu hj, ?_⟩;rw[hx ha',e]
  intro i j p q a a' hi hj ha ha' e;cases i with
  | zero=>
   simp at hi;subst hi;cases j with
   | zero=>rfl
   | succ j=>simp at hj;exact(Vh j q a a' hj ha ha' e).elim
  | succ i=>
   simp at hi;cases j with
   | zero=>simp at hj;subst hj;exact(Vh i p a' a hi ha' ha e.symm).elim
   | succ j=>simp at hj;rw[ih ih' i j p q a a' hi hj ha ha' e]
def Hs.al9(hH:Hs B β H w){os:List (Value×Nat)}(hn:(B3 os).Nodup)(hb:∀b∈B3 os,MB β b)(hm:Ik B.P w (Hx B.Z os) (λ_=>A0) H' 0 os.length):Hs B (Hx B.Z os) H' w where
 EU id ob ho:=by
  by_cases h:id<os.length
  .obtain⟨ob',h1,h2⟩:=hm.2 id (D7 _) J;rw[h1]at ho;cases ho;exact h2
  .rw[hm.1 id J]at ho;cases ho
 dom id p hp:=by
  have h:id<os.length:=(BP.1<|show os[id]? =I p from hp).1;obtain⟨ob',h1,_⟩:=hm.2 id (D7 _) J;exact⟨ob',h1⟩
 inj i j p q a a' hi hj:=aB hn i j p q a a' hi hj
 old b h:=hH.old b (hb b<|NY h)
 os:=hH.os
 tape:=hH.tape
 output:=hH.output
 size:=hH.size
 block:=hH.block
 z:=rfl
 zn id p a hp ha hz:=by
  have hb:=hb a.block (Gh.2 ⟨p,Cu hp,by simp[HU,ha]⟩);obtain⟨j,hd,n,a',h1,h2,h3⟩:=hb;refine hH.zn j _ a' h1 h2 ?_;rw[h3,hH.z];exact hz
 zl b h:=hH.zl b (by rw[hH.z];exact h)
 pk:=hH.pk
def aFX{E:Nat->AV}{h:Sh}{c:AV}{x:LT h}(hx:Bs E H h c=I x):(∀g w v,c≠ .gd g w v)/\ ∀vs,c≠ .tup vs:=by
 constructor
 .rintro g w v rfl;cases h<;>simp[Bs,CM]at hx
 .rintro vs rfl;cases h<;>simp[Bs,CM]at hx
def RT.N3{tm:Nat->Value}{c:AV}{v:Value}(h:RT w β tm c v)(h1:∀g w v,c≠ .gd g w v)(h2:∀vs,c≠ .tup vs):R1 w β c v:=by
 cases c<;>first|exact h|exact absurd rfl (h1 _ _ _)|exact absurd rfl (h2 _)
def aE5{tm:Nat->Value}{T:Nat->AV}(R:OI B β H w M T tm)(hT:∀t,RT w β tm (T t)<|tm t):∀(c:Sch) (x:Lv c),qh H T c=I x->SG β M (rB H T c)->
  ∃os,Cp B.P w M tm (c.map (·.2)) x (c.map λp=>tm p.1) os/\B3 os=B3 ((PH H T c).filterMap β)
 | [],x,hx,_=>⟨[],⟨rfl,rfl⟩,rfl⟩
 | (t,h)::c,x,hx,hf=>by
  obtain⟨x1,e1,hx⟩:=Am.1 hx;obtain⟨x2,e2,hx⟩:=Am.1 hx;cases hx;obtain⟨p1,p2⟩:=aFX e1;obtain⟨o1,j1,j2⟩:=po R h (T t) (tm t) x1 ((hT t).N3 p1 p2) e1 (λi hi=>hf i<|By _ hi);obtain⟨o2,j3,j4⟩:=aE5 R hT c x2 e2 (λi hi=>hf i<|CU _ hi);refine⟨o1++o2,⟨tm t,c.map λp=>tm p.1,o1,o2,rfl,rfl,j1,j3⟩, ?_⟩;simp only[B3,Mr,PH]at j2 j4 ⊢;rw[j2,j4]
def aFd{P:Program}{tm:Nat->Value}(hM:∀b,MZ β b->M b):∀(c:Sch) (T:Nat->AV) (H:Hp) (b:Nat) (x:Lv c) (os:List (Value×Nat)),KM (c.map (·.2))=U->Cp P w M tm (c.map (·.2)) x (c.map λp=>tm p.1) os->Num β b os->(∀t,R1 w β (T t)<|tm t)->
  (∀t,R1 w β ((MS T H b c x).1 t)<|tm t)/\(MS T H b c x).2.2=b+os.length/\Ik P w β H (MS T H b c x).2.1 b os.length
 | [],T,H,b,x,os,_,hr,_,hT=>by obtain⟨_,rfl⟩:=hr;exact⟨hT,rfl,.nil⟩
 | (t,h)::c,T,H,b,x,os,hl,hr,hn,hT=>by
  obtain⟨u,us',o1,o2,e1,rfl,h1,h2⟩:=hr;simp only[Db,Mt]at e1;obtain⟨rfl,rfl⟩:=e1;simp only[Db,KM,AG]at hl;have un:MS T H b ((t,h)::c) x=(match BL T H b h x.1 with|(v,H,b)=>MS (upd T t v) H b c x.2):=rfl;obtain⟨k1,k2,k3⟩:=aIl (E:=T) hM h H b x.1 (tm t) o1 hl.1 h1 hn.left (λt' _=>hT t');rw[un];generalize BL T H b h x.1=r at *;obtain⟨v,H',b'⟩:=r;simp only at k1 k2 k3 ⊢;subst k2;obtain⟨j1,j2,j3⟩:=aFd hM c (upd T t v) H' (b+o1.length) x.2 o2 hl.2 h2 hn.right (λt'=>by
   by_cases e:t'=t
   .subst e;rw[Bi];exact k1
   .rw[BH _ _ e];exact hT t')
  refine⟨j1,by rw[j2];simp[DI], ?_⟩;rw[B0];exact k3.trans j3
def R1.au{tm:Nat->Value}{c:AV}{v:Value}(h:R1 w β c v):RT w β tm c v:= .Hg<|.Hh h
def St.join(hst:St B β stk s a w){c:Sch}{x:Lv c}(hx:rdS c s=I x):stk=[]/\ ∃β',St B β' [] (mkS s.n s.pins c x) a w/\Fr (mkS s.n s.pins c x)/\(mkS s.n s.pins c x).n=s.n/\(mkS s.n s.pins c x).pins=s.pins:=by
 unfold rdS at hx;split at hx
 .rename_i hs hnd hok;have Re:stk=[]:=by
   have:=hst.stack.1;rw[hs]at this;exact E7 this
  refine⟨Re, ?_⟩;simp only[AG]at hnd;simp only[abE,AG]at hok;have R:OI B β s.H w (MO B<|B3<|(PH s.H s.T c).filterMap β) s.T (Be a):={
   hs:=hst.hs
   hM:=λb hb=>ab4 hst.hs hb
   hE:=λt id z e=>(hst.T t).N3 (by rw[e];simp) (by rw[e];simp) }
  obtain⟨os,h1,h2⟩:=aE5 R hst.T c x hx<|qO hst.hs hnd.2;have an:(B3 os).Nodup:=by rw[h2];exact ZA hst.hs<|Yl hnd.1
  have hMB:∀b∈B3 os,MB β b:=λb hb=>by rw[h2]at hb;exact UT hb
  obtain⟨k1,k2,k3⟩:=aFd (β:=Hx B.Z os) (P:=B.P) (w:=w) (M:=MO B<|B3<|(PH s.H s.T c).filterMap β) (tm:=Be a) (λb hb=>by have:=qk hb;rw[h2]at this;exact this) c (λ_=> .un) (λ_=>A0) 0 x os hok.1.2 h1 (qN B.Z os) (λ_=>trivial);have un:mkS s.n s.pins c x=(match MS (λ_=> .un) (λ_=>A0) 0 c x with
   | (T,H,b)=>{ n:=s.n,T:=T,H:=H,nid:=b,st:=[],pins:=s.pins,gs:=λ_=>A3 }):=rfl
  rw[un];generalize MS (λ_=> .un) (λ_=>A0) 0 c x=r at *;obtain⟨T,H',b⟩:=r;simp only at k1 k2 k3;have hH:=hst.hs.al9 an hMB k3;refine⟨Hx B.Z os,⟨λt=>(k1 t).au,⟨rfl,λi T' tm h=>by simp at h⟩,hst.n,hst.defers,hst.pins,λt g want y hy=> ?_,hH⟩,λj hj=> ?_,rfl,rfl⟩
  .have:=k1 t;have hy:T t= .gd g want y:=hy;rw[hy]at this;exact this.elim
  .exact k3.1 j (.inr (by have hj:b<=j:=hj;omega))
 .cases hx
end
end Go.VS
namespace Go.VS
open Go
structure KOK {Ω:Type} (B:Bg) (stk:List (Array Value)) (n:Nat) (pins:List Nat) (k:Kt Ω) (q:Ω) (Q:Exit->Act->World->Prop):Prop where
 nrm:∀β a w s,St B β stk s a w->Fr s->s.n=n->s.pins=pins->k.nrm s=I q->Q .normal a w
 ret:∀β a w s,St B β stk s a w->Fr s->s.n=n->s.pins=pins->k.ret s=I q->Q .ret a w
 ext:∀id β a w s,St B β stk s a w->Fr s->s.n=n->s.pins=pins->k.ext id s=I q->Q (.exit id) a w
def Na(B:Bg)(n:Nat)(pins:List Nat)(body:Code)(l:Loop):Prop:=∀(x:Lv l.sch) (r:Lv l.L4 ⊕ Lv l.L5),l.run x=I r->∀(β:Beta) (a:Act) (w:World) (Q:Exit->Act->World->Prop),
 St B β [] (mkS n pins l.sch x) a w->Fr (mkS n pins l.sch x)->
 (∀y,r= .inl y->∀β a w,St B β [] (mkS n pins l.L4 y) a w->Fr (mkS n pins l.L4 y)->Q .ret a w)->
 (∀y,r= .inr y->∀β a w,St B β [] (mkS n pins l.L5 y) a w->Fr (mkS n pins l.L5 y)->Q (.exit l.xid) a w)->(Code.loop body).wp B.P Q a w
def Hw(L:Code->Loop->Prop):Code->Adv->Prop
 | .seq a b,.join _ u v=>Hw L a u/\Hw L b v
 | .seq a b,v=>Hw L a v.a/\Hw L b v.z
 | .cond _ x y,v=>Hw L x v.a/\Hw L y v.z
 | .block _ c,v=>Hw L c v.a
 | .loop c,.loop l=>L c l
 | _,_=>True
def GS(L:Code->Loop->Prop):∀c:Code,Hw L c .nil
 | .seq a b=>⟨GS L a,GS L b⟩
 | .cond _ x y=>⟨GS L x,GS L y⟩
 | .block _ c=>GS L c
 | .skip=>trivial
 | .region _ _ _=>trivial
 | .loop _=>trivial
 | .exit _=>trivial
 | .ret=>trivial
 | .rangeFunc _ _ _ _=>trivial
 | .scope _=>trivial
 | .label _=>trivial
 | .goto _=>trivial
 | .refuse _=>trivial
section
variable {C:Cx} {B:Bg} {inl:(Ω:Type)->Inl Ω}
def ZQ(hP:C.P=B.P)(hm:B.P.follows .mixedOrders=U)(hC:Hn C B)(hI:JZ C B inl):∀(c:Code) {Ω:Type} (v:Adv) (k:Kt Ω) (s:S) (q:Ω) {β:Beta} {stk:List (Array Value)} {a:Act} {w:World} {Q:Exit->Act->World->Prop},
  evk C inl c Ω v k s=I q->St B β stk s a w->Fr s->Hw (Na B s.n s.pins) c v->KOK B stk s.n s.pins k q Q->c.wp B.P Q a w:=by
 intro c
 induction c with
 | skip=>exact λv k s q β stk a w Q he hst hfr _ hk=>wp_skip<|hk.nrm _ _ _ _ hst hfr rfl rfl he
 | region id ops draw=>
  intro Ω v k s q β stk a w Q he hst hfr _ hk;cases draw with
  | false=>exact aEC hP hC hI (show Pq C (inl Ω) ops ops.toList s k.nrm=I q from he) hfr hst λβ a w s' h1 h2 h3 h4 h5=>hk.nrm β a w s' h1 h2 h3 h4 h5
  | true=>
   obtain⟨β1,hs1,_⟩:=St.Lq (SL C ops s) hst;have hk1:=BJ.Lq (N:=λ_=>False) (SL C ops s)<|BJ.refl _ s;have he:evD C ops ((SL C ops s).foldl S.freeze s) ops.toList 0 s.nid [] ((SL C ops s).foldl S.freeze s) k.nrm=I q:=he;rw[← hk1.nid]at he;exact auX hP hm hC he (λj hj=>hk1.nn j (λh=>h)<|hfr j (by rw[hk1.nid]at hj;exact hj)) hs1 λβ a w s' h1 h2 h3 h4 h5=>hk.nrm β a w s' h1 h2 (h3.trans hk1.n) (h4.trans hk1.pins) h5
 | seq x y ihx ihy=>
  intro Ω v k s q β stk a w Q he hst hfr Gs hk;refine wp_seq ?_;by_cases hj:∃c u v',v= .join c u v'
  .obtain⟨c,u,v',rfl⟩:=hj;obtain⟨ha1,ha2⟩:=Gs;have he:BW (λx=>evk C inl y Ω v' k<|mkS s.n s.pins c x) (evk C inl x (Ω ⊕ Lv c) u { nrm:=λs=>(rdS c s).bind λx=>I<|.inr x,ret:=λs=>(k.ret s).bind λo=>I<|.inl o,ext:=λj s=>(k.ext j s).bind λo=>I (.inl o) } s)=I q:=he;obtain⟨r,h1,h2⟩:=Am.1 he;refine ihx u _ s r h1 hst hfr ha1 ⟨?_, ?_, ?_⟩
   .intro β' a' w' s' k1 k2 k3 k4 k5;obtain⟨z,j1,j2⟩:=Am.1 k5;cases j2;obtain⟨rfl,β2,m1,m2,m3,m4⟩:=k1.join j1;rw[k3,k4]at m1 m2 m3 m4;exact ihy v' k _ q h2 m1 m2 (by rw[m3,m4];exact ha2) (by rw[m3,m4];exact hk)
   .intro β' a' w' s' k1 k2 k3 k4 k5;obtain⟨o,j1,j2⟩:=Am.1 k5;cases j2;have h2:I o=I q:=h2;cases h2;exact hk.ret _ _ _ _ k1 k2 k3 k4 j1
   .intro id β' a' w' s' k1 k2 k3 k4 k5;obtain⟨o,j1,j2⟩:=Am.1 k5;cases j2;have h2:I o=I q:=h2;cases h2;exact hk.ext id _ _ _ _ k1 k2 k3 k4 j1
  .have he:evk C inl x Ω v.a { k with nrm:=evk C inl y Ω v.z k } s=I q:=by
    cases v<;>first|exact he|exact absurd ⟨_,_,_,rfl⟩ hj
   have Gs:Hw (Na B s.n s.pins) x v.a/\Hw (Na B s.n s.pins) y v.z:=by
    cases v<;>first|exact Gs|exact absurd ⟨_,_,_,rfl⟩ hj
   refine ihx v.a _ s q he hst hfr Gs.1 ⟨?_,hk.ret,hk.ext⟩;intro β' a' w' s' k1 k2 k3 k4 k5;exact ihy v.z k s' q k5 k1 k2 (by rw[k3,k4];exact Gs.2) (by rw[k3,k4];exact hk)
 | cond o x y ihx ihy=>
  intro Ω v k s q β stk a w Q he hst hfr Gs hk;have he:(match s.ev o with
   | .lit (.bool b)=>if b then evk C inl x Ω v.a k s else evk C inl y Ω v.z k s
   | _=>A0)=I q:=he
  split at he
  .rename_i b hb;have h1:=hst.eval o;rw[hb]at h1;have h2:a.eval o= .bool b:=h1;refine wp_cond h2 ?_;cases b with
   | true=>exact ihx v.a k s q he hst hfr Gs.1 hk
   | false=>exact ihy v.z k s q he hst hfr Gs.2 hk
  .cases he
 | block id x ihx=>
  intro Ω v k s q β stk a w Q he hst hfr Gs hk;refine wp_block ?_;have he:evk C inl x Ω v.a { k with ext:=λj s=>match Al j id with
   | true=>k.nrm s
   | false=>k.ext j s } s=I q:=he
  refine ihx v.a _ s q he hst hfr Gs ⟨hk.nrm,hk.ret, ?_⟩;intro j β' a' w' s' k1 k2 k3 k4 k5;show if j=id then Q .normal a' w' else Q (.exit j) a' w'
  simp only at k5;split at k5
  .rename_i e;rw[A8<|Bq e];exact hk.nrm _ _ _ _ k1 k2 k3 k4 k5
  .rename_i e;rw[AD<|Tv e];exact hk.ext _ _ _ _ _ k1 k2 k3 k4 k5
 | loop body _=>
  intro Ω v k s q β stk a w Q he hst hfr Gs hk;cases v<;>first|(cases he;done)|skip
  rename_i l;have he:((rdS l.sch s).bind λx=>AP (l.run x) (λy=>k.ret<|mkS s.n s.pins l.L4 y) λy=>k.ext l.xid (mkS s.n s.pins l.L5 y))=I q:=he;obtain⟨x,h1,h2⟩:=Am.1 he;obtain⟨r,h3,h4⟩:=Am.1 h2;obtain⟨rfl,β',m1,m2,_,_⟩:=hst.join h1;have Gs:Na B s.n s.pins body l:=Gs;refine Gs x r h3 β' a w Q m1 m2 ?_ ?_
  .rintro y rfl β a w k1 k2;exact hk.ret _ _ _ _ k1 k2 (by unfold mkS;rfl) (by unfold mkS;rfl) h4
  .rintro y rfl β a w k1 k2;exact hk.ext _ _ _ _ _ k1 k2 (by unfold mkS;rfl) (by unfold mkS;rfl) h4
 | exit id=>exact λv k s q β stk a w Q he hst hfr _ hk=>wp_exit<|hk.ext _ _ _ _ _ hst hfr rfl rfl he
 | ret=>exact λv k s q β stk a w Q he hst hfr _ hk=>wp_ret<|hk.ret _ _ _ _ hst hfr rfl rfl he
 | _=>
  intro Ω v k s q β stk a w Q he;cases he
def nI(p:Nat->Prop)(h:∃n,p n):∃n,p n/\ ∀m,p m->n<=m:=by
 obtain⟨n,hn⟩:=h
 induction n using Nat.strongRecOn with
 | _ n ih=>
  by_cases hm:∃m,m<n/\p m
  .obtain⟨m,h1,h2⟩:=hm;exact ih m h1 h2
  .exact⟨n,hn,λm h=>Nat.le_of_not_lt λhlt=>hm ⟨m,hlt,h⟩⟩
def aGZ{X Y:Type}{b:X->Option (X ⊕ Y)}{x:X}{y:Y}(h:AW b x=I y):∃n,Hv b n x=I y:=by
 unfold AW at h;split at h
 .rename_i hn;have:=J9<|J9 hn;cases h;exact⟨_,this⟩
 .cases h
def mm{X Y:Type}{b:X->Option (X ⊕ Y)}:∀(n:Nat) (x:X) {y:Y},Hv b n x=I y->∀m,n<=m->Hv b m x=I y
 | 0,x,y,h=>by cases h
 | n+1,x,y,h=>by
  intro m hm;obtain⟨m,rfl⟩:∃k,m=k+1:=⟨m - 1,J⟩;obtain⟨r,h1,h2⟩:=Am.1 (show((b x).bind λr=>match r with
   | .inl y=>Hv b n y
   | .inr z=>I z)=I y from h)
  show((b x).bind λr=>match r with
   | .inl y=>Hv b m y
   | .inr z=>I z)=I y
  rw[h1,A9];cases r with
  | inl z=>exact mm n z h2 m J
  | inr z=>exact h2
def aG0{X Y:Type}{b:X->Option (X ⊕ Y)}{x:X}{y:Y}{n:Nat}(h:Hv b n x=I y):AW b x=I y:=by
 have hn:∃n y,Hv b n x=I y:=⟨n,y,h⟩;unfold AW;rw[dif_pos hn];have h1:=J9<|J9 hn;have h2:=mm _ _ h (n+Nt hn) J;have h3:=mm _ _ h1 (n+Nt hn) J;rw[h2]at h3;exact h3.symm
def aro{X Y:Type}{b:X->Option (X ⊕ Y)}{n:Nat}{x:X}{y:Y}(h:Hv b (n+1) x=I y):∃r,b x=I r/\(∀x',r= .inl x'->Hv b n x'=I y)/\(∀z,r= .inr z->z=y):=by
 obtain⟨r,h1,h2⟩:=Am.1 (show((b x).bind λr=>match r with
   | .inl y=>Hv b n y
   | .inr z=>I z)=I y from h)
 refine⟨r,h1, ?_, ?_⟩
 .rintro x' rfl;exact h2
 .rintro z rfl;exact Cn h2
def ax0(hP:C.P=B.P)(hm:B.P.follows .mixedOrders=U)(hC:Hn C B)(hI:JZ C B inl){n:Nat}{pins:List Nat}{body:Code}{v:Adv}{l:Loop}{b:Lv l.sch->Option (Lv l.sch ⊕ (Lv l.L4 ⊕ Lv l.L5))}
  (hb:∀x,evL C inl n pins body v l x=b x)(hr:l.run=AW b)(Gs:Hw (Na B n pins) body v):Na B n pins body l:=by
 intro x r Cr β a w Q hst hfr Ij ali;rw[hr]at Cr;obtain⟨N,hN⟩:=aGZ Cr
 let Td:Nat->Act->World->Prop:=λm a w=>∃(x:Lv l.sch) (β:Beta),Hv b m x=I r/\St B β [] (mkS n pins l.sch x) a w/\Fr (mkS n pins l.sch x)
 classical
 let μ:Act->World->Nat:=λa w=>if h:∃m,Td m a w then Nt (nI _ h) else 0
 have hμ:∀a w,(h:∃m,Td m a w)->Td (μ a w) a w/\ ∀m,Td m a w->μ a w<=m:=λa w h=>by
  have:=J9<|nI _ h;simp only[μ,dif_pos h];exact this
 refine wp_loop (λa w=>∃m,Td m a w) μ ⟨N,x,β,hN,hst,hfr⟩ ?_;intro a w hJ;obtain⟨⟨x,β,h1,h2,h3⟩,_⟩:=hμ a w hJ;generalize hm':μ a w=m at h1;cases m with
 | zero=>cases h1
 | succ m=>
  obtain⟨r1,k1,k2,k2'⟩:=aro h1;have he:=hb x;rw[k1]at he;unfold evL at he;have en:(mkS n pins l.sch x).n=n:=by unfold mkS;rfl
  have ep:(mkS n pins l.sch x).pins=pins:=by unfold mkS;rfl
  refine ZQ hP hm hC hI body v _ _ r1 he h2 h3 (by rw[en,ep];exact Gs) ?_;rw[en,ep];refine⟨?_, ?_, ?_⟩
  .intro β' a' w' s' j1 j2 j3 j4 j5;obtain⟨y,i1,i2⟩:=Am.1 j5;cases i2;obtain⟨_,β2,m1,m2,_,_⟩:=j1.join i1;rw[j3,j4]at m1 m2;have hJ':Td m a' w':=⟨y,β2,k2 y rfl,m1,m2⟩;refine⟨⟨m,hJ'⟩, ?_⟩;have:=(hμ a' w' ⟨m,hJ'⟩).2 m hJ';omega
  .intro β' a' w' s' j1 j2 j3 j4 j5;obtain⟨y,i1,i2⟩:=Am.1 j5;cases i2;obtain⟨_,β2,m1,m2,_,_⟩:=j1.join i1;rw[j3,j4]at m1 m2;have k2:=k2' _ rfl;subst k2;exact Ij y rfl _ _ _ m1 m2
  .intro id β' a' w' s' j1 j2 j3 j4 j5;simp only at j5;split at j5
   .rename_i hid;obtain rfl:=Bq hid;obtain⟨y,i1,i2⟩:=Am.1 j5;cases i2;obtain⟨_,β2,m1,m2,_,_⟩:=j1.join i1;rw[j3,j4]at m1 m2;have k2:=k2' _ rfl;subst k2;exact ali y rfl _ _ _ m1 m2
   .cases j5
end
end Go.VS
namespace Go.VS
open Go
def My:List Value->Value
 | [v]=>v
 | vs=> .tuple vs.toArray
def KD:List Sh->List Value->List Value
 | .box _ _::ps,v::vs=>v::KD ps vs
 | _::ps,_::vs=>KD ps vs
 | _,_=>[]
def Ma(P:Program)(f:FuncId):Prop:=∀(args:Array Value) (w:World),(callFunc f args).run P w= .ok (.enter f args) w
def Ow{P:Program}{f:FuncId}{fn:Func}{c:Code}(hf:P.funcs[f]? =I fn)(Ks:(fn.name == "runtime.NumGoroutine")=A3)(hb:fn.body=I c):Ma P f:=by
 intro args w;have sJ:¬fn.name= "runtime.NumGoroutine" :=by simpa using Ks
 simp[callFunc,hf,sJ,hb]
abbrev ar(args:List Value):Nat->Value:=λi=>args.getD i undef
structure Ret (P:Program) (m:Dd) (Z:Nat->Prop) (args:List Value) (os:List (Value×Nat)) (w:World) (r:LTs m.rs×LTs (B6 m.ps)) (v:Value) (w':World):Prop where
 ex:∃vs os1 os2,v=My vs/\Cp P w' (λb=>b∈B3 (os1++os2)\/Z b) (ar args) m.rs r.1 vs os1/\Cp P w' (λb=>b∈B3 (os1++os2)\/Z b) (ar args) (B6 m.ps) r.2 (KD m.ps args) os2/\
  (B3<|os1++os2).Nodup/\(∀b∈B3 (os1++os2),(b∈B3 os\/w.heap.size<=b)/\b<w'.heap.size)
 wos:w'.os=w.os
 tape:w'.tape=w.tape
 output:w'.output=w.output
 size:w.heap.size<=w'.heap.size
 block:∀b,b<w.heap.size->b ∉ B3 os->w'.heap[b]? =w.heap[b]?
 pk:Pk P w w'
def H5(P:Program)(f:FuncId)(m:Dd):Prop:=Ma P f/\ ∀(x:LTs m.ps) (r:LTs m.rs×LTs (B6 m.ps)),m.g x=I r->∀(w:World) (Z:Nat->Prop) (args:List Value) (os:List (Value×Nat)),
 Cp P w (λb=>b∈B3 os\/Z b) (ar args) m.ps x args os->(B3 os).Nodup->(∀b∈B3 os,b<w.heap.size/\ ¬Z b)->(∀b,Z b->b<w.heap.size)->O3 P w (λb=>b∈B3 os)->
 Calls P f args.toArray w λen w'=>∃v,en= .returned v/\Ret P m Z args os w r v w'
section
variable {C:Cx} {B:Bg} {β:Beta} {H:Hp} {w w':World} {M:Nat->Prop} {stk:List (Array Value)} {s s':S} {a:Act} {P:Program} {e e':Nat->Value}
mutual
theorem Rel.congr:∀(h:Sh) (x:LT h) (v:Value) (os:List (Value×Nat)),(∀t∈Mf h,e t=e' t)->Rel P w M e h x v os->Rel P w M e' h x v os
 | .int _,_,_,_,_,h=>h
 | .bool,_,_,_,_,h=>h
 | .str,_,_,_,_,h=>h
 | .sl _,_,_,_,_,h=>h
 | .fz _,_,_,_,_,h=>h
 | .row _ _,_,_,_,_,h=>h
 | .Cq _ _,_,_,_,_,h=>h
 | .abx _ _,_,_,_,_,h=>h
 | .arr _,_,_,_,_,h=>h
 | .same t,_,_,_,he,h=>⟨h.1,h.2.1.trans<|he t<|by simp[Mf],h.2.2⟩
 | .agg l,x,v,os,he,h=>by
  obtain⟨us,h1,h2⟩:=h;exact⟨us,h1,Cp.congr l x us os he h2⟩
 | .box t l,x,v,os,he,h=>by
  obtain⟨b,us,os',h1,h2,h3,h4⟩:=h;exact⟨b,us,os',h1,h2,Cp.congr l x us.toList os' he h3,h4⟩
theorem Cp.congr:∀(l:List Sh) (x:LTs l) (us:List Value) (os:List (Value×Nat)),(∀t∈Iv l,e t=e' t)->Cp P w M e l x us os->Cp P w M e' l x us os
 | [],_,_,_,_,h=>h
 | h::l,x,us,os,he,hr=>by
  obtain⟨u,us',o1,o2,h1,h2,h3,h4⟩:=hr;exact⟨u,us',o1,o2,h1,h2,Rel.congr h x.1 u o1 (λt ht=>he t<|By _ ht) h3,Cp.congr l x.2 us' o2 (λt ht=>he t<|CU _ ht) h4⟩
end
def Cp.length:∀ {l:List Sh} {x:LTs l} {us:List Value} {os:List (Value×Nat)},Cp P w M e l x us os->us.length=l.length
 | [],_,_,_,h=>by rw[h.1];rfl
 | h::l,x,us,os,hr=>by
  obtain⟨u,us',o1,o2,rfl,_,_,h4⟩:=hr;simp[Cp.length h4]
def aDT{E:Nat->AV}:∀ {l:List Sh} {cs:List AV} {x:LTs l},GZ E H l cs=I x->cs.length=l.length
 | [],[],_,_=>rfl
 | [],_::_,_,h=>by cases h
 | _::_,[],_,h=>by cases h
 | h::l,c::cs,x,hx=>by
  obtain⟨x1,e1,hx⟩:=Am.1 hx;obtain⟨x2,e2,hx⟩:=Am.1 hx;simp[aDT e2]
def aDa:∀ {l l':List Sh} {cs cs':List AV},cs.length=l.length->Bp H (l++l') (cs++cs')=Bp H l cs++Bp H l' cs'
 | [],l',[],cs',_=>rfl
 | h::l,l',c::cs,cs',hl=>by
  simp only[Lf,Bp,aDa (l:=l) (cs:=cs)<|by simpa using hl,C9]
 | [],_,_::_,_,hl=>by simp at hl
 | _::_,_,[],_,hl=>by simp at hl
def aDb:∀ {l l':List Sh} {cs cs':List AV},cs.length=l.length->D5 H (l++l') (cs++cs')=D5 H l cs++D5 H l' cs'
 | [],l',[],cs',_=>rfl
 | h::l,l',c::cs,cs',hl=>by
  simp only[Lf,D5,aDb (l:=l) (cs:=cs)<|by simpa using hl,C9]
 | [],_,_::_,_,hl=>by simp at hl
 | _::_,_,[],_,hl=>by simp at hl
def V1(tmps:Array Value):ResultVar->Sem Value
 | .tmp t=>pure (tmps.getD t undef)
 | .cell a t=>do loadVar t (← asAddr<|tmps.getD a undef)
def Zs(hP:P=B.P)(hst:St B β stk s a w):∀(l:List ResultVar) {vs:List AV},RG P s l=I vs->
  ∃us:List Value,(l.mapM<|V1 a.tmps).run P w=Result.ok us w/\us.length=vs.length/\ ∀(i:Nat) (c:AV) (u:Value),vs[i]? =I c->us[i]? =I u->RX w β (Be a) c u
 | [],vs,h=>by
  cases h;exact⟨[],rfl,rfl,λi c u h=>by simp at h⟩
 | .tmp t::l,vs,h=>by
  obtain⟨vs',h1,h⟩:=Am.1 h;cases h;obtain⟨us,k1,k2,k3⟩:=Zs hP hst l h1;refine⟨Be a t::us, ?_,by simp[k2],λi c u h1 h2=> ?_⟩
  .simp only[Uq,V1,Ex,G5,FH,k1];rfl
  .cases i with
   | zero=>
    simp at h1 h2;subst h1;subst h2;exact(hst.T t).aq
   | succ i=>exact k3 i c u (by simpa using h1)<|by simpa using h2
 | .cell x t::l,vs,h=>by
  obtain⟨v,h0,h⟩:=Am.1 h;obtain⟨vs',h1,h⟩:=Am.1 h;cases h;obtain⟨us,k1,k2,k3⟩:=Zs hP hst l h1;have hx:R2 w β (s.T x) (Be a x):=(hst.T x).aZ (by
   cases hT:s.T x<;>first|rfl|(rw[hT]at h0;cases h0))
  obtain⟨u,j1,j2⟩:=aHA hP hst.hs hx h0;have am1:∃ad,Be a x= .pointer (I ad):=by
   cases hT:s.T x<;>rw[hT]at h0 hx<;>first|(cases h0;done)|skip
   .rename_i id z i o;have hx:RC w β (.ptr id z i o) (Be a x):=hx;generalize Be a x=y at hx;cases hx;exact⟨_,rfl⟩
   .rename_i k xx o;have hx:RC w β (.ipt k xx o) (Be a x):=hx;generalize Be a x=y at hx;cases hx;exact⟨_,rfl⟩
  obtain⟨ad,had⟩:=am1;have alo:a.tmps.getD x undef= .pointer (I ad):=had;rw[had]at j1;refine⟨u::us, ?_,by simp[k2],λi c u' h1 h2=> ?_⟩
  .have j1':(loadVar t ad).run P w= .ok u w:=by simpa[No,Jp] using j1
   simp only[Uq,V1,alo,asAddr,Ex,G5,FH,j1',k1]
  .cases i with
   | zero=>
    simp at h1 h2;subst h1;subst h2;exact(RT.Hg<|R2.Hh j2).aq
   | succ i=>exact k3 i c u' (by simpa using h1)<|by simpa using h2
def aE3{fn:Func}{us:List Value}(h:(fn.results.toList.mapM<|V1 a.tmps).run P w=Result.ok us w):(results fn a.tmps).run P w= .ok (My us) w:=by
 have e1:results fn a.tmps=(do
   let vs ← fn.results.mapM (V1 a.tmps)
   pure (if h:vs.size=1 then vs[0] else .tuple vs)):=rfl
 rw[e1,Array.mapM_eq_mapM_toList,map_eq_pure_bind];simp only[bind_assoc,pure_bind,Ex,h,FH,G5]
 match us with
 | []=>rfl
 | [u]=>rfl
 | u::v::l=>simp[My]
end
end Go.VS
namespace Go.VS
open Go
def okM(m:Dd)(n:Nat):Bool:=KM m.ps&&KM m.rs&&E9 m.ps.length n&&(Iv m.rs++Iv (B6 m.ps)).all λt=>(EC 0 m.ps).any λp=>Al p t
section
variable {C:Cx} {B:Bg} {β:Beta} {H:Hp} {w w':World} {M:Nat->Prop} {stk:List (Array Value)} {s s':S} {a:Act} {P:Program} {e e':Nat->Value} {inl:(Ω:Type)->Inl Ω}
def YB{E:Nat->AV}:∀ {l:List Sh} {cs:List AV} {x:LTs l},GZ E H l cs=I x->∀c∈cs,(∀g w v,c≠ .gd g w v)/\ ∀vs,c≠ .tup vs
 | [],[],_,_,c,hc=>by cases hc
 | [],_::_,_,h,_,_=>by cases h
 | _::_,[],_,h,_,_=>by cases h
 | h::l,d::cs,x,hx,c,hc=>by
  obtain⟨x1,e1,hx⟩:=Am.1 hx;obtain⟨x2,e2,hx⟩:=Am.1 hx;rcases Bo.1 hc with rfl|hc
  .exact aFX e1
  .exact YB e2 c hc
def RX.N3{tm:Nat->Value}{c:AV}{v:Value}(h:RX w β tm c v)(h1:∀g w v,c≠ .gd g w v)(h2:∀vs,c≠ .tup vs):R1 w β c v:=by
 have:=h.of h1;cases c<;>first|exact this|exact absurd rfl (h2 _)
def aDz(args:List Value):∀(ps:List Sh) (k:Nat),args.length=k+ps.length->KD ps (args.drop k)=(EC k ps).map (ar args)
 | [],k,h=>by
  have:args.drop k=[]:=Mq (by simp at h;omega);rw[this];rfl
 | p::ps,k,h=>by
  have hk:k<args.length:=by simp at h;omega
  rw[Up hk];have ih:=aDz args ps (k+1) (by simp at h ⊢; omega);have oN:ar args k=args[k]:=by simp[ar,hk]
  cases p<;>simp only[KD,EC,VL,Db,ih,oN]
def Tj(args:List Value)(n t:Nat):Be { tmps:=args.toArray++Rk (n - args.toArray.size) undef,defers:=[] } t=ar args t:=by
 simp only[Be,ar,Uo,BC];by_cases h:t<args.length
 .rw[Mn<|by simpa using h];simp
 .rw[Array.getElem?_append_right<|by simpa using h,Hz J];cases hr:(Rk (n - args.toArray.size) undef)[t - args.toArray.size]? with
  | none=>rfl
  | some v=>
   rw[Array.getElem?_replicate]at hr;split at hr
   .cases hr;rfl
   .cases hr
def bo{fn:Func}{m:Dd}{r:LTs m.rs×LTs (B6 m.ps)}{args:List Value}{os:List (Value×Nat)}(hst:St B β stk s a w)(hO:B.O=λb=>b∈B3 os)(htm:B.tm0=ar args)(hlen:args.length=m.ps.length)(hp:s.pins=EC 0 m.ps)
  {n:Nat}(hok:okM m n=U)(hf:fin B.P fn m s=I r):∃v,(results fn a.tmps).run B.P w= .ok v w/\Ret B.P m B.Z args os B.w0 r v w:=by
 unfold fin at hf;obtain⟨vs,h1,hf⟩:=Am.1 hf;split at hf
 .rename_i hnd;simp only[AG]at hnd;obtain⟨r1,h2,hf⟩:=Am.1 hf;obtain⟨q,h3,hf⟩:=Am.1 hf;cases hf;obtain⟨us,k1,k2,k3⟩:=Zs rfl hst fn.results.toList h1;have hl1:=aDT h2;rw[aDa hl1,aDb hl1]at hnd;generalize al5:Bp s.H m.rs vs=O8 at hnd;generalize al4:Bp s.H (B6 m.ps) ((EC 0 m.ps).map s.T)=O7 at hnd;have R:OI B β s.H w (MO B<|B3<|(O8++O7).filterMap β) s.T (Be a):={
   hs:=hst.hs
   hM:=λb hb=>ab4 hst.hs hb
   hE:=λt id z e=>(hst.T t).N3 (by rw[e];simp) (by rw[e];simp) }
  have hfz:=qO hst.hs hnd.2;have rl1:RL (R1 w β) vs us:=⟨k2,λj c u e1 e2=>(k3 j c u e1 e2).N3 (YB h2 c<|Cu e1).1 (YB h2 c<|Cu e1).2⟩;have rl2:RL (R1 w β) ((EC 0 m.ps).map s.T) ((EC 0 m.ps).map<|Be a):=⟨by simp,λj c u e1 e2=>by
   obtain⟨h5,h6⟩:=YB h3 c<|Cu e1;rw[DK]at e1 e2;obtain⟨t,ht,rfl⟩:=DJ.1 e1;obtain⟨t',ht',rfl⟩:=DJ.1 e2;rw[ht]at ht';cases ht';exact(hst.T t).N3 h5 h6⟩
  obtain⟨os1,j1,j2⟩:=Yk R m.rs vs us r1 rl1 h2 (λi hi=>hfz i<|By _ hi);obtain⟨os2,j3,j4⟩:=Yk R (B6 m.ps) _ _ q rl2 h3 (λi hi=>hfz i<|CU _ hi);rw[al5]at j2;rw[al4]at j4;have GN:B3 (os1++os2)=B3 ((O8++O7).filterMap β):=by
   simp only[B3,Mr]at j2 j4 ⊢;rw[j2,j4]
  have oW:MO B (B3<|(O8++O7).filterMap β)=λb=>b∈B3 (os1++os2)\/B.Z b:=by rw[GN]
  rw[oW]at j1 j3;have aF3:∀t∈EC 0 m.ps,Be a t=ar args t:=λt ht=>by rw[hst.pins t (by rw[hp];exact ht),htm]
  simp only[okM,AG,Cb,Hd]at hok;have HE:∀t∈Iv m.rs++Iv (B6 m.ps),Be a t=ar args t:=λt ht=>by
   obtain⟨p,hp1,hp2⟩:=hok.2 t ht;rw[← Bq hp2];exact aF3 p hp1
  refine⟨My us,aE3 k1,⟨us,os1,os2,rfl,Cp.congr _ _ _ _ (λt ht=>HE t<|By _ ht) j1, ?_, ?_, ?_⟩,hst.hs.os,hst.hs.tape,hst.hs.output,hst.hs.size, ?_,hst.hs.pk⟩
  .have e1:KD m.ps args=(EC 0 m.ps).map (Be a):=by
    have:=aDz args m.ps 0 J;rw[J6]at this;rw[this];exact H9 λt ht=>(aF3 t ht).symm
   rw[e1];exact Cp.congr _ _ _ _ (λt ht=>HE t<|CU _ ht) j3
  .rw[GN];exact ZA hst.hs (Yl hnd.1)
  .intro b hb;rw[GN]at hb;have:=hst.hs.old b<|UT hb;rw[hO]at this;exact this
  .intro b hb hn;have:=hst.hs.block b hb;rw[hO]at this;exact this hn
 .cases hf
def avJ{P:Program}(hP:C.P=P)(hm:P.follows .mixedOrders=U)(hC:∀B:Bg,B.P=P->Hn C B)(hI:∀B:Bg,B.P=P->JZ C B inl){f:FuncId}{fn:Func}{body:Code}(hf:P.funcs[f]? =I fn)(Ks:(fn.name == "runtime.NumGoroutine")=A3)
  (hb:fn.body=I body){v:Adv}{m:Dd}(hok:okM m fn.ntmps=U)(Gs:∀B:Bg,B.P=P->Hw (Na B fn.ntmps<|EC 0 m.ps) body v)(hg:∀x,cw C inl fn v m x=m.g x):H5 P f m:=by
 refine⟨Ow hf Ks hb,λx r hx w Z args os hr hnd hbl hZ hgl=> ?_⟩;rw[← hg]at hx;unfold cw at hx;rw[hb]at hx;simp only[evF]at hx;have UU:=hok;simp only[okM,AG]at UU;obtain⟨⟨⟨hps,hrs⟩,hn⟩,_⟩:=UU;have hn:=Di hn;have hlen:=hr.length
 let B:Bg:={ P:=P,w0:=w,O:=λb=>b∈B3 os,tm0:=ar args,Z:=Z,gl:=hgl }
 have Rg:Num (Hx Z os) 0 os:=qN Z os;obtain⟨k1,k2,k3⟩:=aD (β:=Hx Z os) (E:=λ_=> .un) (M:=λb=>b∈B3 os\/Z b) (P:=P) (w:=w) (e:=ar args) (λb hb=>qk (B:=B) hb) m.ps (λ_=>A0) 0 x args os hps hr Rg (λt _=>trivial);have hi:SJ fn.ntmps m.ps x=(match Ao (λ_=> .un) (λ_=>A0) 0 m.ps x with
  | (vs,H,b)=>{ n:=fn.ntmps,T:=λt=>(vs[t]?).getD Dx,H:=H,nid:=b,st:=[],pins:=EC 0 m.ps,gs:=λ_=>A3 }):=rfl
 rw[hi]at hx;generalize Ao (λ_=> .un) (λ_=>A0) 0 m.ps x=q at *;obtain⟨vs,H,b⟩:=q;simp only at hx k1 k2 k3;have hH:Hs B (Hx Z os) H w:={
  EU:=λid ob ho=>by
   by_cases h:id<os.length
   .obtain⟨ob',h1,h2⟩:=k3.2 id (D7 _) J;rw[h1]at ho;cases ho;exact h2
   .rw[k3.1 id J]at ho;cases ho
  dom:=λid p hp=>by
   have h:id<os.length:=(BP.1<|show os[id]? =I p from hp).1;obtain⟨ob',h1,_⟩:=k3.2 id (D7 _) J;exact⟨ob',h1⟩
  inj:=λi j p q a a' hi hj=>aB hnd i j p q a a' hi hj
  old:=λb hb=>⟨.inl<|NY hb,(hbl b<|NY hb).1⟩
  os:=rfl
  tape:=rfl
  output:=rfl
  size:=Az _
  block:=λ_ _ _=>rfl
  z:=rfl
  zn:=λid p a hp ha=>(hbl _<|NY (Z:=Z) ⟨id,p.1,p.2,a,hp,ha,rfl⟩).2
  zl:=hZ
  pk:=Pk.refl _ _ }
 refine calls_of_wp hf hb ?_;have hst:St B (Hx Z os) [] { n:=fn.ntmps,T:=λt=>(vs[t]?).getD Dx,H:=H,nid:=b,st:=[],pins:=EC 0 m.ps,gs:=λ_=>A3 } { tmps:=args.toArray++Rk (fn.ntmps - args.toArray.size) undef,defers:=[] } w:=by
  refine⟨λt=> ?_,⟨rfl,λi T' tm h=>by simp at h⟩, ?_,rfl,λt _=>Tj args _ t,λt g want y hy=> ?_,hH⟩
  .rw[Tj];show RT w _ _ ((vs[t]?).getD Dx) _;cases hv:vs[t]? with
   | none=>
    have:args.length<=t:=by
     rw[k1.1];exact bC.1 hv
    show RT w _ _ Dx (ar args t);have e0:ar args t=undef:=by simp[ar,Hz this]
    rw[e0];rfl
   | some c=>
    have hlt:t<args.length:=by rw[k1.1];exact(BP.1 hv).1
    have hu:args[t]? =I (ar args t):=by simp[ar,hlt]
    exact(k1.2 t c _ hv hu).au
  .simp;omega
  .have hy:(vs[t]?).getD Dx= .gd g want y:=hy;cases hv:vs[t]? with
   | none=>rw[hv]at hy;cases hy
   | some c=>
    rw[hv]at hy;have hy:c= .gd g want y:=hy;have hlt:t<args.length:=by rw[k1.1];exact(BP.1 hv).1
    have hu:args[t]? =I (ar args t):=by simp[ar,hlt]
    have:=k1.2 t c _ hv hu;rw[hy]at this;exact this.elim
 refine ZQ (B:=B) hP hm (hC B rfl) (hI B rfl) body v _ _ r hx hst (λj hj=>k3.1 j<|.inr (by have hj:b<=j:=hj;omega)) (Gs B rfl) ⟨?_, ?_, ?_⟩
 .intro β' a' w' s' h1 h2 h3 h4 h5;obtain⟨v',i1,i2⟩:=bo (B:=B) h1 rfl rfl hlen h4 hok (show fin P fn m s'=I r by rw[← hP];exact h5);exact⟨h1.defers,v',i1,v',rfl,i2⟩
 .intro β' a' w' s' h1 h2 h3 h4 h5;obtain⟨v',i1,i2⟩:=bo (B:=B) h1 rfl rfl hlen h4 hok (show fin P fn m s'=I r by rw[← hP];exact h5);exact⟨h1.defers,v',i1,v',rfl,i2⟩
 .intro id β' a' w' s' h1 h2 h3 h4 h5;cases h5
end
end Go.VS
namespace Go.VS
open Go
def HT(l:List Sh):Bool:=IG l&&l.all λh=> !VL h
section
variable {B:Bg} {β β':Beta} {H:Hp} {w w':World} {M:Nat->Prop} {stk:List (Array Value)} {s s':S} {a:Act} {P:Program} {E:Nat->AV} {e:Nat->Value} {b:Nat}
mutual
theorem atO:∀h:Sh,Dt h=U->Iy h=U/\Mf h=[]
 | .int _,_=>⟨rfl,rfl⟩
 | .bool,_=>⟨rfl,rfl⟩
 | .str,_=>⟨rfl,rfl⟩
 | .sl _,_=>⟨rfl,rfl⟩
 | .row _ _,_=>⟨rfl,rfl⟩
 | .fz _,_=>⟨rfl,rfl⟩
 | .Cq _ _,_=>⟨rfl,rfl⟩
 | .abx _ _,_=>⟨rfl,rfl⟩
 | .arr _,h=>by simp[Dt]at h
 | .agg _,h=>by simp[Dt]at h
 | .same _,h=>by simp[Dt]at h
 | .box _ l,h=>by
  have:=mW l (by simpa[Dt] using h);exact⟨by simpa[Iy] using this.1,by simpa[Mf] using this.2⟩
theorem mW:∀l:List Sh,IG l=U->MW l=U/\Iv l=[]
 | [],_=>⟨rfl,rfl⟩
 | h::l,hl=>by
  simp only[IG,AG]at hl;have h1:=atO h hl.1;have h2:=mW l hl.2;exact⟨by simp[MW,h1.1,h2.1],by simp[Iv,h1.2,h2.2]⟩
end
def Yv:∀(l:List Sh) (H:Hp) (b:Nat) (cs:List AV) (x:LTs l),HT l=U->BR E H b l cs x=Ao E H b l x
 | [],_,_,_,_,_=>rfl
 | h::l,H,b,cs,x,hl=>by
  simp only[HT,IG,Pb,AG]at hl;obtain⟨⟨h1,h2⟩,h3,h4⟩:=hl;have un:BR E H b (h::l) cs x=(match DB E H b h (cs.headD .un) x.1 with|(d,H,b)=>match BR E H b l cs.tail x.2 with|(ds,H,b)=>(d::ds,H,b)):=rfl;have un2:Ao E H b (h::l) x=(match BL E H b h x.1 with|(c,H,b)=>match Ao E H b l x.2 with|(cs,H,b)=>(c::cs,H,b)):=rfl;have e1:DB E H b h (cs.headD .un) x.1=BL E H b h x.1:=nv h1 (λt l' e'=>by rw[e']at h3;simp[VL]at h3);rw[un,un2,e1];generalize BL E H b h x.1=r;obtain⟨c,H',b'⟩:=r;simp only;rw[Yv l H' b' cs.tail x.2 (by simp only[HT,AG];exact⟨h2,h4⟩)]
mutual
theorem aHl:∀(h:Sh) (H:Hp) (b:Nat) (x:LT h) (v:Value) (os:List (Value×Nat)),Iy h=U->Rel P w M e h x v os->(BL E H b h x).2.2=b+os.length
 | .int k,H,b,x,v,os,_,hr=>by obtain⟨_,rfl⟩:=hr;rfl
 | .bool,H,b,x,v,os,_,hr=>by obtain⟨_,rfl⟩:=hr;rfl
 | .str,H,b,x,v,os,_,hr=>by obtain⟨_,rfl⟩:=hr;rfl
 | .sl k,H,b,x,v,os,_,hr=>by obtain⟨_,rfl⟩:=hr;rfl
 | .fz k,H,b,x,v,os,_,hr=>by obtain⟨_,rfl⟩:=hr;rfl
 | .row t k,H,b,x,v,os,_,hr=>by obtain⟨rfl,_⟩:=hr;rfl
 | .Cq t k,H,b,x,v,os,_,hr=>by obtain⟨rfl,_⟩:=hr;rfl
 | .abx t k,H,b,x,v,os,_,hr=>by obtain⟨rfl,_⟩:=hr;rfl
 | .arr _,_,_,_,_,_,h,_=>by simp[Iy]at h
 | .agg _,_,_,_,_,_,h,_=>by simp[Iy]at h
 | .same t,H,b,x,v,os,_,hr=>by obtain⟨rfl,_⟩:=hr;rfl
 | .box t l,H,b,x,v,os,hl,hr=>by
  obtain⟨bb,us,os',rfl,h2,h3,rfl⟩:=hr;have un:BL E H b (.box t l) x=(match Ao E H b l x with|(cs,H,b)=>(AV.ptr b cs.length 0 0,upd H b<|I<|.box t cs,b+1)):=rfl;have k:=ZJ l H b x us.toList os' (by simpa[Iy] using hl) h3;rw[un];generalize Ao E H b l x=r at *;obtain⟨cs,H',b'⟩:=r;have k:b'=b+os'.length:=k;simp[k,DI]
theorem ZJ:∀(l:List Sh) (H:Hp) (b:Nat) (x:LTs l) (us:List Value) (os:List (Value×Nat)),MW l=U->Cp P w M e l x us os->(Ao E H b l x).2.2=b+os.length
 | [],H,b,x,us,os,_,hr=>by obtain⟨_,rfl⟩:=hr;rfl
 | h::l,H,b,x,us,os,hl,hr=>by
  obtain⟨u,us',o1,o2,rfl,rfl,h1,h2⟩:=hr;simp only[MW,AG]at hl;have un:Ao E H b (h::l) x=(match BL E H b h x.1 with|(c,H,b)=>match Ao E H b l x.2 with|(cs,H,b)=>(c::cs,H,b)):=rfl;have k:=aHl h H b x.1 u o1 hl.1 h1;rw[un];generalize BL E H b h x.1=r at *;obtain⟨c,H',b'⟩:=r;have k:b'=b+o1.length:=k;subst k;have k2:=ZJ l H' (b+o1.length) x.2 us' o2 hl.2 h2;simp only;generalize Ao E H' (b+o1.length) l x.2=r at *;obtain⟨cs,H'',b''⟩:=r;have k2:b''=_:=k2;simp[k2,DI]
end
mutual
theorem avq:∀(h:Sh) (H:Hp) (b:Nat) (x:LT h) (j:Nat),¬(b<=j/\j<(BL E H b h x).2.2)->(BL E H b h x).2.1 j=H j
 | .int _,H,_,_,_,_=>rfl
 | .bool,H,_,_,_,_=>rfl
 | .str,H,_,_,_,_=>rfl
 | .sl _,H,_,_,_,_=>rfl
 | .arr _,H,_,_,_,_=>rfl
 | .same _,H,_,_,_,_=>rfl
 | .fz _,H,_,_,_,_=>rfl
 | .row _ _,H,b,_,j,hj=>BH _ _ (λe=>hj ⟨J,by show j<b+1;omega⟩)
 | .Cq _ _,H,b,_,j,hj=>BH _ _ (λe=>hj ⟨J,by show j<b+1;omega⟩)
 | .abx _ _,H,b,_,j,hj=>BH _ _ (λe=>hj ⟨J,by show j<b+1;omega⟩)
 | .agg l,H,b,x,j,hj=>by
  have un:BL E H b (.agg l) x=(match Ao E H b l x with|(cs,H,b)=>(AV.agg cs,H,b)):=rfl;have ih:=ZH l H b x j;rw[un]at hj ⊢;generalize Ao E H b l x=r at *;exact ih hj
 | .box e l,H,b,x,j,hj=>by
  have un:BL E H b (.box e l) x=(match Ao E H b l x with|(cs,H,b)=>(AV.ptr b cs.length 0 0,upd H b<|I<|.box e cs,b+1)):=rfl;have ih:=ZH l H b x j;have hle:=JO E l H b x;rw[un]at hj ⊢;generalize Ao E H b l x=r at *;obtain⟨cs,H',b'⟩:=r;simp only at hj ih hle ⊢;rw[BH _ _ λe=>hj ⟨J,J⟩];exact ih λh=>hj ⟨h.1,J⟩
theorem ZH:∀(l:List Sh) (H:Hp) (b:Nat) (x:LTs l) (j:Nat),¬(b<=j/\j<(Ao E H b l x).2.2)->(Ao E H b l x).2.1 j=H j
 | [],H,_,_,_,_=>rfl
 | h::l,H,b,x,j,hj=>by
  have un:Ao E H b (h::l) x=(match BL E H b h x.1 with|(c,H,b)=>match Ao E H b l x.2 with|(cs,H,b)=>(c::cs,H,b)):=rfl;have ih:=avq h H b x.1 j;have hle:=EX E h H b x.1;rw[un]at hj ⊢;generalize BL E H b h x.1=r at *;obtain⟨c,H',b'⟩:=r;have ih2:=ZH l H' b' x.2 j;have Q6:=JO E l H' b' x.2;simp only at hj ⊢;generalize Ao E H' b' l x.2=r at *;obtain⟨cs,H'',b''⟩:=r;simp only at hj ih ih2 hle Q6 ⊢;rw[ih2 λh=>hj ⟨J,h.2⟩];exact ih λh=>hj ⟨h.1,J⟩
end
end
end Go.VS
namespace Go.VS
open Go
section
variable {B B':Bg} {β β':Beta} {H:Hp} {w w':World} {M M':Nat->Prop} {stk:List (Array Value)} {s s':S} {a:Act} {P:Program} {E:Nat->AV} {e:Nat->Value} {b:Nat}
def St.amf{f:AV->AV}(h:St B β stk s a w)(ht:B'.tm0=B.tm0)(hf:∀c,Gp c=U->f c=c)(hg:∀c g want x,f c= .gd g want x->∃y,c= .gd g want y)(hk:Kf f w β w' β'){H':Hp}(hH:Hs B' β' H' w'):St B' β' stk { s.map f with H:=H' } a w':=by
 have g1:∀c g want x,GH f c= .gd g want x->∃y,c= .gd g want y:=by
  intro c g want x e;cases c<;>first|(cases e;done)|exact hg _ _ _ _ e
 have g2:∀c g want x,Ga f c= .gd g want x->∃y,c= .gd g want y:=by
  intro c g want x e;cases c<;>first|(cases e;done)|exact g1 _ _ _ _ e
 have g3:∀c g want x,FD f c= .gd g want x->∃y,c= .gd g want y:=by
  intro c g want x e;cases c with
  | gd g' w' y=>cases e;exact⟨_,rfl⟩
  | _=>exact g2 _ _ _ _ e
 refine⟨λt=>RT.map hf hk<|h.T t,⟨by simpa[S.map] using h.stack.1,λi T tm h1 h2 t=> ?_⟩,h.n,h.defers,λt ht'=>by rw[ht];exact h.pins t ht',λt g want x hx=> ?_,hH⟩
 .simp only[S.map,DK,DJ]at h1;obtain⟨T0,h3,rfl⟩:=h1;exact RT.map hf hk (h.stack.2 i T0 tm h3 h2 t)
 .obtain⟨y,hy⟩:=g3 _ _ _ _ hx;exact h.gs _ _ _ _ hy
def Beta.kz(β:Beta)(id:Nat):Beta:=⟨upd β.f id A0,λb=>β.Z b\/ ∃p a,β id=I p/\adr p.1=I a/\a.block=b⟩
def Beta.dL(β:Beta)(id j:Nat):(β.kz id) j=if j=id then A0 else β j:=by
 show upd β.f id A0 j=_;by_cases e:j=id
 .subst e;rw[Bi,A8 rfl]
 .rw[BH _ _ e,AD e]
def St.alA(h:St B β stk s a w)(id:Nat):St { B with Z:=(β.kz id).Z } (β.kz id) stk (s.kill id) a w:=by
 have hM:∀b,¬MZ β b->b<w.heap.size->¬MZ (β.kz id) b:=λb hb _ hm=>by
  obtain⟨j,hd,n,a,hj,ha,hab⟩|hz|⟨p,a,hp,ha,hab⟩:=hm
  .rw[Beta.dL]at hj;split at hj
   .cases hj
   .exact hb (.inl ⟨j,hd,n,a,hj,ha,hab⟩)
  .exact hb (.inr hz)
  .exact hb<|.inl ⟨id,p.1,p.2,a,hp,ha,hab⟩
 have hk:Kf (kl1 id) w β w (β.kz id):=Kf.kill (λj e=>BH _ _ e) (λ_ _ _ _ h=>h) hM;have hH:=h.hs.aEa (JM id) hk (λj e=>BH _ _ e) (.inl ⟨Bi _ _ _,rfl⟩) (λ_ _ _ _ _ _=>rfl) rfl rfl rfl (Az _) (λ_ _ _=>rfl) (λb hb=>hb.imp (λh=>h) λh=>⟨Bi _ _ _,h⟩) (Pk.refl _ _);exact h.amf (B':={ B with Z:=(β.kz id).Z }) rfl (JM id) (PL id) hk hH
def St.abW:∀(ids:List Nat) {B:Bg} {β:Beta} {s:S},ids.Nodup->St B β stk s a w->∃β2:Beta,St { B with Z:=β2.Z } β2 stk (ids.foldl S.kill s) a w/\(∀j,β2 j=if j∈ids then A0 else β j)/\
  (∀b,β2.Z b↔β.Z b\/ ∃i∈ids,∃p a,β i=I p/\adr p.1=I a/\a.block=b)
 | [],B,β,s,_,h=>by
  have e:{ B with Z:=β.Z } =B:=by rw[h.hs.z]
  exact⟨β,by rw[e];exact h,λj=>by simp,λb=>by simp⟩
 | i::ids,B,β,s,hn,h=>by
  obtain⟨hn1,hn2⟩:=IY.1 hn;obtain⟨β2,h1,h2,h3⟩:=St.abW ids hn2<|h.alA i;refine⟨β2,h1,λj=> ?_,λb=> ?_⟩
  .rw[h2,Beta.dL];by_cases e1:j∈ids
   .rw[A8 e1,A8<|An _ e1]
   .by_cases e2:j=i
    .rw[AD e1,A8 e2,A8 (by rw[e2];exact Av)]
    .rw[AD e1,AD e2,AD<|by simp[e1,e2]]
  .rw[h3];constructor
   .rintro((h|⟨p,a,h⟩)|⟨j,hj,p,a,hp,h⟩)
    .exact .inl h
    .exact .inr ⟨i,Av,p,a,h⟩
    .rw[Beta.dL]at hp;split at hp
     .cases hp
     .exact .inr ⟨j,An _ hj,p,a,hp,h⟩
   .rintro(h|⟨j,hj,p,a,hp,h⟩)
    .exact .inl (.inl h)
    .rcases Bo.1 hj with rfl|hj
     .exact .inl (.inr ⟨p,a,hp,h⟩)
     .refine .inr ⟨j,hj,p,a, ?_,h⟩;rw[Beta.dL,AD fun(e:j=i)=>hn1<|e▸hj];exact hp
def St.dK(h:St B β stk s a w)(id:Nat):St B (β.up id A0) stk (s.freeze id) a w:=by
 unfold S.freeze;split
 .rename_i e fz k xs hid;obtain⟨h1,h2⟩:=h.hs.dK hid;exact h.map (o4 id k xs) (aag id k xs) h2 h1
 .obtain⟨h1,h2⟩:=h.hs.aEc id;exact h.map (JM id) (PL id) h2 h1
def St.abT:∀(ids:List Nat) {β:Beta} {s:S},St B β stk s a w->∃β2:Beta,St B β2 stk (ids.foldl S.freeze s) a w/\(∀j,β2 j=if j∈ids then A0 else β j)/\β2.Z=β.Z
 | [],β,s,h=>⟨β,h,λj=>by simp,rfl⟩
 | i::ids,β,s,h=>by
  obtain⟨β2,h1,h2,h3⟩:=St.abT ids<|h.dK i;refine⟨β2,h1,λj=> ?_,h3⟩;rw[h2];by_cases e1:j∈ids
  .rw[A8 e1,A8<|An _ e1]
  .by_cases e2:j=i
   .subst e2;rw[AD e1,A8 Av,Beta.Va]
   .rw[AD e1,Beta.OC _ _ e2,AD<|by simp[e1,e2]]
def St.al6(q:Bool)(ids:List Nat)(h:St B β stk s a w):∃β2:Beta,St B β2 stk (Gf q ids s) a w/\(∀j,β2 j=if q=U/\j∈ids then A0 else β j)/\β2.Z=β.Z:=by
 cases q with
 | false=>exact⟨β,h,λj=>by simp,rfl⟩
 | true=>
  obtain⟨β2,h1,h2,h3⟩:=St.abT ids h;exact⟨β2,h1,λj=>by simp[h2],h3⟩
def aGT{t:TypeId}{j:Nat}:∀(ids:List Nat) (s:S) {cs:List AV},j ∉ ids->s.H j=I (.box t cs)->∃cs',(ids.foldl S.kill s).H j=I (.box t cs')
 | [],s,cs,_,h=>⟨cs,h⟩
 | i::ids,s,cs,hj,h=>by
  have hne:j≠i:=λe=>hj<|e▸Av;refine aGT ids (s.kill i) (cs:=cs.map<|kl1 i) (λhm=>hj<|An _ hm) ?_;show upd (λj=>CR (kl1 i)<|s.H j) i A0 j=_;rw[BH _ _ hne,h];rfl
def aEA{t:TypeId}{j:Nat}:∀(ids:List Nat) (s:S) {cs:List AV},j ∉ ids->s.H j=I (.box t cs)->∃cs',(ids.foldl S.freeze s).H j=I (.box t cs')
 | [],s,cs,_,h=>⟨cs,h⟩
 | i::ids,s,cs,hj,h=>by
  have hne:j≠i:=λe=>hj<|e▸Av;have:∃cs',(s.freeze i).H j=I (.box t cs'):=by
   unfold S.freeze;split
   .rename_i k xs _;refine⟨cs.map<|fz1 i k xs, ?_⟩;show upd (λj=>CR (fz1 i k xs)<|s.H j) i A0 j=_;rw[BH _ _ hne,h];rfl
   .refine⟨cs.map<|kl1 i, ?_⟩;show upd (λj=>CR (kl1 i)<|s.H j) i A0 j=_;rw[BH _ _ hne,h];rfl
  obtain⟨cs',h'⟩:=this;exact aEA ids (s.freeze i) (λhm=>hj<|An _ hm) h'
def avo{t:TypeId}{j:Nat}(q:Bool)(ids:List Nat)(s:S){cs:List AV}(hj:¬(q=U/\j∈ids))(h:s.H j=I (.box t cs)):∃cs',(Gf q ids s).H j=I (.box t cs'):=by
 cases q with
 | false=>exact⟨cs,h⟩
 | true=>exact aEA ids s (λhm=>hj ⟨rfl,hm⟩) h
mutual
theorem auk:∀(h:Sh) (c:AV),(CL H h c).Sublist<|Cl H h c
 | .int _,_=>Em _
 | .bool,_=>Em _
 | .str,_=>Em _
 | .sl _,_=>Em _
 | .arr _,_=>Em _
 | .same _,_=>Em _
 | .fz _,_=>Em _
 | .row _ _,c=>by cases c<;>exact Em _
 | .Cq _ _,c=>by cases c<;>exact Em _
 | .abx _ _,c=>by
  cases c with
  | ptr id z i o=>cases i<;>cases o<;>exact Em _
  | _=>exact Em _
 | .agg l,c=>by
  cases c with
  | agg cs=>exact Zd l cs
  | _=>exact Em _
 | .box t l,c=>by
  cases c with
  | ptr id z i o=>
   cases i<;>cases o<;>simp only[CL,Cl]<;>first|exact Em _|skip
   split
   .exact(Zd l _).trans (List.sublist_append_left _ _)
   .exact Em _
  | _=>exact Em _
theorem Zd:∀(l:List Sh) (cs:List AV),(Cj H l cs).Sublist<|Bp H l cs
 | [],_=>by simp only[Cj,Bp];exact Em _
 | _::_,[]=>by simp only[Cj,Bp];exact Em _
 | h::l,c::cs=>by
  simp only[Cj,Bp];exact(auk h c).append<|Zd l cs
end
def RJ(H:Hp)(i:Nat):Prop:=∀t cs,H i≠I (.box t cs)
mutual
theorem ati:∀(h:Sh) (c:AV) (x:LT h),Bs E H h c=I x->∀i∈CL H h c,RJ H i
 | .int _,_,_,_,i,hi=>by simp[CL]at hi
 | .bool,_,_,_,i,hi=>by simp[CL]at hi
 | .str,_,_,_,i,hi=>by simp[CL]at hi
 | .sl _,_,_,_,i,hi=>by simp[CL]at hi
 | .arr _,_,_,_,i,hi=>by simp[CL]at hi
 | .same _,_,_,_,i,hi=>by simp[CL]at hi
 | .fz _,_,_,_,i,hi=>by simp[CL]at hi
 | .row t k,c,x,hx,i,hi=>by
  cases c<;>simp[CL]at hi;subst hi;intro t' cs hb;simp[Bs,hb]at hx
 | .Cq t k,c,x,hx,i,hi=>by
  cases c<;>simp[CL]at hi;subst hi;intro t' cs hb;simp[Bs,hb]at hx
 | .abx t k,c,x,hx,i,hi=>by
  cases c with
  | ptr id z i' o=>
   cases i'<;>cases o<;>simp[CL]at hi;subst hi;intro t' cs hb;simp[Bs,hb]at hx
  | _=>simp[CL]at hi
 | .agg l,c,x,hx,i,hi=>by
  cases c with
  | agg cs=>exact Yu l cs x hx i<|by simpa[CL] using hi
  | _=>simp[CL]at hi
 | .box t l,c,x,hx,j,hi=>by
  cases c with
  | ptr id z i o=>
   cases i<;>cases o<;>simp only[CL]at hi<;>first|(simp at hi;done)|skip
   cases ho:H id with
   | none=>simp[ho]at hi
   | some ob=>
    cases ob with
    | box e' cs=>
     simp only[ho]at hi;simp only[Bs,ho]at hx;split at hx
     .exact Yu l cs x hx j hi
     .cases hx
    | _=>simp[ho]at hi
  | _=>simp[CL]at hi
theorem Yu:∀(l:List Sh) (cs:List AV) (x:LTs l),GZ E H l cs=I x->∀i∈Cj H l cs,RJ H i
 | [],cs,_,_,i,hi=>by simp[Cj]at hi
 | _::_,[],_,_,i,hi=>by simp[Cj]at hi
 | h::l,c::cs,x,hx,i,hi=>by
  obtain⟨x1,e1,hx⟩:=Am.1 hx;obtain⟨x2,e2,hx⟩:=Am.1 hx;simp only[Cj,BN]at hi;obtain hi|hi:=hi
  .exact ati h c x1 e1 i hi
  .exact Yu l cs x2 e2 i hi
end
mutual
theorem auQ:∀(h:Sh) (c:AV) (x:LT h),Bs E H h c=I x->∀i∈Cw H h c,RJ H i
 | .int _,_,_,_,i,hi=>by simp[Cw]at hi
 | .bool,_,_,_,i,hi=>by simp[Cw]at hi
 | .str,_,_,_,i,hi=>by simp[Cw]at hi
 | .sl _,_,_,_,i,hi=>by simp[Cw]at hi
 | .arr _,_,_,_,i,hi=>by simp[Cw]at hi
 | .same _,_,_,_,i,hi=>by simp[Cw]at hi
 | .row _ _,_,_,_,i,hi=>by simp[Cw]at hi
 | .Cq _ _,_,_,_,i,hi=>by simp[Cw]at hi
 | .abx _ _,_,_,_,i,hi=>by simp[Cw]at hi
 | .fz k,c,x,hx,i,hi=>by
  cases c<;>simp[Cw]at hi;subst hi;intro t' cs hb;simp[Bs,CM,hb]at hx
 | .agg l,c,x,hx,i,hi=>by
  cases c with
  | agg cs=>exact Yw l cs x hx i<|by simpa[Cw] using hi
  | _=>simp[Cw]at hi
 | .box t l,c,x,hx,j,hi=>by
  cases c with
  | ptr id z i o=>
   cases i<;>cases o<;>simp only[Cw]at hi<;>first|(simp at hi;done)|skip
   cases ho:H id with
   | none=>simp[ho]at hi
   | some ob=>
    cases ob with
    | box e' cs=>
     simp only[ho]at hi;simp only[Bs,ho]at hx;split at hx
     .exact Yw l cs x hx j hi
     .cases hx
    | _=>simp[ho]at hi
  | _=>simp[Cw]at hi
theorem Yw:∀(l:List Sh) (cs:List AV) (x:LTs l),GZ E H l cs=I x->∀i∈D5 H l cs,RJ H i
 | [],cs,_,_,i,hi=>by simp[D5]at hi
 | _::_,[],_,_,i,hi=>by simp[D5]at hi
 | h::l,c::cs,x,hx,i,hi=>by
  obtain⟨x1,e1,hx⟩:=Am.1 hx;obtain⟨x2,e2,hx⟩:=Am.1 hx;simp only[D5,BN]at hi;obtain hi|hi:=hi
  .exact auQ h c x1 e1 i hi
  .exact Yw l cs x2 e2 i hi
end
def mb{k:K}(h:SA k=U)(x:Tof k):∀c∈enc k x,∃v,c= .lit v:=by
 have key:(enc k x).all (λc=>match c with
   | .lit _=>U
   | _=>A3)=U:=by cases k<;>first|(cases h;done)|rfl
 intro c hc;have:=Cb.1 key c hc;cases c<;>first|exact⟨_,rfl⟩|cases this
def VC:Beta:=⟨λ_=>A0,λ_=>False⟩
def ZR{b:Nat}:¬MZ VC b:=by
 rintro(⟨_,_,_,_,h,_⟩|h)
 .cases h
 .exact h
def Ft.anyM{t:TypeId}{fz:Bool}{k:K}{xs:List (Tof k)}{v:Value}(hk:SA k=U)(h:Ft w β t fz k xs v):Ft w β' t fz k xs v:=by
 obtain h|⟨b,f,cap,us,fr,h1,h2,h3,h4,h5,h6,h7⟩:=h
 .exact .inl h
 .refine .inr ⟨b,f,cap,us,fr,h1,h2,h3,h4,h5,h6,λi x j c u a1 a2 a3=> ?_⟩;have h8:=h7 i x j c u a1 a2 a3;obtain⟨v,rfl⟩:=mb hk x c<|Cu a2;cases h8 with
  | lit h=>exact .lit h
mutual
theorem Rel.anyM:∀(h:Sh) (x:LT h) (v:Value) (os:List (Value×Nat)),Mw h=A3->Rel P w M e h x v os->Rel P w M' e h x v os
 | .int _,_,_,_,_,h=>h
 | .bool,_,_,_,_,h=>h
 | .str,_,_,_,_,h=>h
 | .sl _,_,_,_,h,_=>by cases h
 | .fz _,_,_,_,h,_=>by cases h
 | .row t k,_,_,_,hm,h=>⟨h.1,h.2.1,λβ _=>(h.2.2 VC λb hb=>absurd hb ZR).anyM<|by simpa[Mw] using hm⟩
 | .Cq t k,_,_,_,hm,h=>⟨h.1,h.2.1,λβ _=>(h.2.2 VC λb hb=>absurd hb ZR).anyM<|by simpa[Mw] using hm⟩
 | .abx t k,_,_,_,hm,h=>by
  obtain⟨h1,h2,b,us,h3,h4,h5,h6,h7⟩:=h;refine⟨h1,h2,b,us,h3,h4,h5,h6,λβ _ i x j c u a1 a2 a3=> ?_⟩;have h8:=h7 VC (λb hb=>absurd hb ZR) i x j c u a1 a2 a3;obtain⟨v,rfl⟩:=mb (by simpa[Mw] using hm) x c<|Cu a2;cases h8 with
  | lit h=>exact .lit h
 | .arr k,_,_,_,hm,h=>by
  obtain⟨h1,h2⟩:=h;refine⟨h1,λβ _=> ?_⟩;obtain⟨us,k1,k2,k3⟩:=h2 VC (λb hb=>absurd hb ZR);refine⟨us,k1,k2,λi x j c u a1 a2 a3=> ?_⟩;have h8:=k3 i x j c u a1 a2 a3;obtain⟨v,rfl⟩:=mb (by simpa[Mw] using hm) x c<|Cu a2;cases h8 with
  | lit h=>exact .lit h
 | .same t,_,_,_,_,h=>h
 | .agg l,x,v,os,hm,h=>by
  obtain⟨us,h1,h2⟩:=h;exact⟨us,h1,Cp.anyM l x us os (by simpa[Mw] using hm) h2⟩
 | .box t l,x,v,os,hm,h=>by
  obtain⟨b,us,os',h1,h2,h3,h4⟩:=h;exact⟨b,us,os',h1,h2,Cp.anyM l x us.toList os' (by simpa[Mw] using hm) h3,h4⟩
theorem Cp.anyM:∀(l:List Sh) (x:LTs l) (us:List Value) (os:List (Value×Nat)),CY l=A3->Cp P w M e l x us os->Cp P w M' e l x us os
 | [],_,_,_,_,h=>h
 | h::l,x,us,os,hm,hr=>by
  obtain⟨u,us',o1,o2,h1,h2,h3,h4⟩:=hr;simp only[CY,Mk]at hm;exact⟨u,us',o1,o2,h1,h2,Rel.anyM h x.1 u o1 hm.1 h3,Cp.anyM l x.2 us' o2 hm.2 h4⟩
end
end
end Go.VS
namespace Go.VS
open Go
def abF:List Sh->Bool
 | .box _ l2::l=>HT l2&&HT l
 | l=>HT l
def aa6:List Sh->Bool
 | .box _ _::_=>U
 | _=>A3
def ck(P:Program):List Sh->Bool
 | []=>U
 | h::ps=>(match h with
  | .box t l=>abF l&&(!aa6 l||Pp P t)
  | .agg l=>HT l
  | _=>U)&&ck P ps
section
variable {B B':Bg} {β β':Beta} {H:Hp} {w w':World} {M M':Nat->Prop} {stk:List (Array Value)} {s s':S} {a:Act} {P:Program} {E:Nat->AV} {e:Nat->Value} {b:Nat} {C:Cx}
mutual
theorem ZM:∀(h:Sh) (c:AV),Dt h=U->VL h=A3->∀i∈Cl H h c,i∈CL H h c
 | .int _,_,_,_,i,hi=>by simp[Cl]at hi
 | .bool,_,_,_,i,hi=>by simp[Cl]at hi
 | .str,_,_,_,i,hi=>by simp[Cl]at hi
 | .sl _,_,_,_,i,hi=>by simp[Cl]at hi
 | .fz _,_,_,_,i,hi=>by simp[Cl]at hi
 | .row _ _,c,_,_,i,hi=>by cases c<;>first|exact hi|(simp[Cl]at hi;done)
 | .Cq _ _,c,_,_,i,hi=>by cases c<;>first|exact hi|(simp[Cl]at hi;done)
 | .abx _ _,c,_,_,i,hi=>by
  cases c with
  | ptr id z i' o=>cases i'<;>cases o<;>first|exact hi|(simp[Cl]at hi;done)
  | _=>simp[Cl]at hi
 | .arr _,_,h,_,_,_=>by simp[Dt]at h
 | .same _,_,h,_,_,_=>by simp[Dt]at h
 | .agg _,_,h,_,_,_=>by simp[Dt]at h
 | .box _ _,_,_,h,_,_=>by cases h
end
def Tm:∀(l:List Sh) (cs:List AV),HT l=U->∀i∈Bp H l cs,i∈Cj H l cs
 | [],cs,_,i,hi=>by simp[Bp]at hi
 | _::_,[],_,i,hi=>by simp[Bp]at hi
 | h::l,c::cs,hl,i,hi=>by
  simp only[HT,IG,Pb,AG,C1]at hl;obtain⟨⟨h1,h2⟩,h3,h4⟩:=hl;simp only[Bp,BN]at hi;obtain hi|hi:=hi
  .exact By _ (ZM h c h1 h3 i hi)
  .refine CU _<|Tm l cs ?_ i hi;simp only[HT,AG];exact⟨h2,h4⟩
def EQ:List AV->List Nat
 | []=>[]
 | .ptr id _ 0 0::l=>id::EQ l
 | _::l=>EQ l
def aJp{id:Nat}:∀ {ds:List AV},id∈EQ ds->∃z,AV.ptr id z 0 0∈ds
 | [],h=>by cases h
 | c::ds,h=>by
  have rest:id∈EQ ds->∃z,AV.ptr id z 0 0∈c::ds:=λh=>by
   obtain⟨z,hz⟩:=aJp h;exact⟨z,An _ hz⟩
  cases c<;>first|exact rest h|skip
  rename_i a b i o;cases i<;>cases o<;>first|exact rest h|skip
  rcases Bo.1 h with h|h
  .subst h;exact⟨b,Av⟩
  .exact rest h
inductive Fb (P:Program) (w:World) (H:Hp):List Sh->List AV->List Value->List AV->List Value->Prop
 | nil:Fb P w H [] [] [] [] []
 | flat {t:TypeId} {l bs:List Sh} {id z bb:Nat} {cs ds:List AV} {vs us:List Value} (hl:HT l=U) (hb:∃t0 cs0,H id=I (.box t0 cs0)) (h:Fb P w H bs cs vs ds us):
   Fb P w H (.box t l::bs) (.ptr id z 0 0::cs) (.pointer (I ⟨bb,0,A0⟩)::vs) (.ptr id z 0 0::ds) (.pointer (I ⟨bb,0,A0⟩)::us)
 | nest {t t2 t0:TypeId} {l2 l bs:List Sh} {id z id2 z2 bb bb2:Nat} {cs1 cs ds:List AV} {vs us:List Value} (hl2:HT l2=U) (hl:HT l=U) (hid:H id=I (.box t0 (.ptr id2 z2 0 0::cs1)))
   (hb2:∃t0 cs0,H id2=I (.box t0 cs0)) (hn:Pp P t=U) (hc:∃us0 fr,w.heap[bb]? =I (.cells us0 t fr)/\us0[0]? =I (.pointer<|I ⟨bb2,0,A0⟩)) (h:Fb P w H bs cs vs ds us):
   Fb P w H (.box t (.box t2 l2::l)::bs) (.ptr id z 0 0::cs) (.pointer (I ⟨bb,0,A0⟩)::vs) (.ptr id2 z2 0 0:: .ptr id z 0 0::ds) (.pointer (I ⟨bb2,0,A0⟩):: .pointer (I ⟨bb,0,A0⟩)::us)
def Fb.carry{bs:List Sh}{cs ds:List AV}{vs us:List Value}{H':Hp}(h:Fb P w H bs cs vs ds us)(hpk:Pk P w w')
  (hH:∀id∈EQ ds,∀t cs,H id=I (.box t cs)->∃cs',H' id=I (.box t cs')/\ ∀id2 z2 cs1,cs= .ptr id2 z2 0 0::cs1->id2∈EQ ds->∃L6,cs'= .ptr id2 z2 0 0::L6):Fb P w' H' bs cs vs ds us:=by
 induction h with
 | nil=>exact .nil
 | @flat t l bs id z bb cs ds vs us hl hb h ih=>
  refine .flat hl ?_ (ih λi hi t0 c0 h0=> ?_)
  .obtain⟨t0,c0,h0⟩:=hb;obtain⟨c1,h1,_⟩:=hH id Av t0 c0 h0;exact⟨t0,c1,h1⟩
  .obtain⟨c1,h1,h2⟩:=hH i (An _ hi) t0 c0 h0;exact⟨c1,h1,λa b c e hm=>h2 a b c e<|An _ hm⟩
 | @nest t t2 t0 l2 l bs id z id2 z2 bb bb2 cs1 cs ds vs us hl2 hl hid hb2 hn hc h ih=>
  obtain⟨c1,h1,h2⟩:=hH id (An _ Av) t0 _ hid;obtain⟨c2,rfl⟩:=h2 id2 z2 cs1 rfl Av;refine .nest hl2 hl h1 ?_ hn ?_ (ih λi hi t0 c0 h0=> ?_)
  .obtain⟨t3,c3,h3⟩:=hb2;obtain⟨c4,h4,_⟩:=hH id2 Av t3 c3 h3;exact⟨t3,c4,h4⟩
  .obtain⟨us0,fr,h3,h4⟩:=hc;obtain⟨us1,fr1,h5,h6⟩:=hpk bb us0 t fr _ h3 h4 hn;exact⟨us1,fr1,h5,h6⟩
  .obtain⟨c3,h3,h4⟩:=hH i (An _<|An _ hi) t0 c0 h0;exact⟨c3,h3,λa b c e hm=>h4 a b c e<|An _<|An _ hm⟩
def qX{l:List Sh}(hl:HT l=U)(H:Hp)(b:Nat)(x:LTs l){us1:List Value}{ob:List (Value×Nat)}(hr:Cp P w M e l x us1 ob):
  ∃ds1 H1,Ao E H b l x=(ds1,H1,b+ob.length)/\(∀j,¬(b<=j/\j<b+ob.length)->H1 j=H j)/\ ∀β:Beta,(∀b,MZ β b->M b)->Num β b ob->RL (RC w β) ds1 us1/\ ∀j,b<=j->j<b+ob.length->∃o,H1 j=I o/\EJ P w β j o:=by
 have hl':=hl;simp only[HT,AG]at hl';obtain⟨D1,HE⟩:=mW l hl'.1;have hlen:=ZJ (E:=E) (P:=P) (w:=w) (M:=M) (e:=e) l H b x us1 ob D1 hr;have FJ:=ZH (E:=E) l H b x;have hrc:=fun(β:Beta) (hM:∀b,MZ β b->M b) (hn:Num β b ob)=>Zn (E:=E) (P:=P) (w:=w) (M:=M) (e:=e) hM l H b x us1 ob D1 hr hn (by rw[HE];intro t ht;simp at ht);generalize Ao E H b l x=r at *;obtain⟨ds1,H1,b1⟩:=r;have hlen:b1=b+ob.length:=hlen;subst hlen;exact⟨ds1,H1,rfl,FJ,λβ hM hn=>⟨(hrc β hM hn).1,(hrc β hM hn).2.2.2⟩⟩
def at0{x y:Value×Nat}{oc ob nw us o2:List (Value×Nat)}(h:o2.Perm (nw++us)):(((oc++[x])++ob)++[y]++o2).Perm (((oc++ob)++nw)++x::y::us):=by
 have h1:(ob++y::o2).Perm (ob++nw++y::us):=by
  rw[C9];exact bD ob<|(h.cons y).trans List.perm_middle.symm
 have h2:(oc++x::(ob++y::o2)).Perm (oc++(ob++nw++x::y::us)):=bD oc<|(h1.cons x).trans List.perm_middle.symm;simpa[C9] using h2
def ny:∀(bs:List Sh) (H:Hp) (b:Nat) (q:LTs bs) (cs ds:List AV) (vs us:List Value) (os:List (Value×Nat)) (L:Nat),Fb P w H bs cs vs ds us->(EQ ds).Nodup->(∀i∈EQ ds,¬(b<=i/\i<L))->Cp P w M e bs q vs os->(BR E H b bs cs q).2.2<=L->
  ∃nw:List (Value×Nat),os.Perm (nw++us.map λv=>(v,1))/\(BR E H b bs cs q).2.2=b+nw.length/\
   ∀β:Beta,(∀b,MZ β b->M b)->Num β b nw->(∀(i:Nat) (c:AV) (v:Value),ds[i]? =I c->us[i]? =I v->∀id z,c= .ptr id z 0 0->β id=I (v,1))->
    (∀j,(BR E H b bs cs q).2.1 j=H j\/ ∃ob,(BR E H b bs cs q).2.1 j=I ob/\EJ P w β j ob)/\
    (∀j,b<=j->j<b+nw.length->∃ob,(BR E H b bs cs q).2.1 j=I ob/\EJ P w β j ob)/\
    (∀id z,AV.ptr id z 0 0∈ds->∃ob,(BR E H b bs cs q).2.1 id=I ob/\EJ P w β id ob)/\
    (∀j,¬(b<=j/\j<b+nw.length)->(∀z,AV.ptr j z 0 0 ∉ ds)->(BR E H b bs cs q).2.1 j=H j)
 | [],H,b,q,cs,ds,vs,us,os,L,hF,_,_,hr,_=>by
  cases hF;obtain⟨_,rfl⟩:=hr;exact⟨[],.nil,rfl,λβ _ _ _=>⟨λj=> .inl rfl,λj h1 h2=>by simp at h2;omega,λid z h=>by simp at h,λj _ _=>rfl⟩⟩
 | h::bs,H,b,q,cs0,ds0,vs0,us0,os,L,hF,hnd,FJ,hr,hL=>by
  cases hF with
  | @flat t l _ id z bb cs ds vs us hl hb hF=>
   obtain⟨u,us',o1,o2,e1,rfl,h1,h2⟩:=hr;cases e1;obtain⟨bb',uc,os',e2,h3,h4,rfl⟩:=h1;cases e2;obtain⟨t0,c0,hid⟩:=hb;obtain⟨da,H1,hmk,ho1,hrc⟩:=qX (E:=E) hl H b q.1 h4;have Jx:id ∉ EQ ds/\(EQ ds).Nodup:=by simpa[EQ] using hnd
   have un:BR E H b (.box t l::bs) (.ptr id z 0 0::cs) q=(match BR E (upd H1 id<|I<|.box t da) (b+os'.length) bs cs q.2 with|(es,H'',b'')=>(AV.ptr id z 0 0::es,H'',b'')):=by
    have u1:BR E H b (.box t l::bs) (.ptr id z 0 0::cs) q=(match DB E H b (.box t l) (.ptr id z 0 0) q.1 with|(d,H,b)=>match BR E H b bs cs q.2 with|(ds,H,b)=>(d::ds,H,b)):=rfl;have u2:DB E H b (.box t l) (.ptr id z 0 0) q.1=(match H id with
     | some (.box _ cs)=>(match BR E H b l cs q.1 with|(ds,H,b)=>(AV.ptr id z 0 0,upd H id<|I<|.box t ds,b))
     | _=>(.un,H,b)):=rfl
    rw[u1,u2,hid];simp only;rw[Yv l H b c0 q.1 hl,hmk]
   rw[un]at hL ⊢;have hle:=Qs E bs (upd H1 id<|I<|.box t da) (b+os'.length) cs q.2;have hL':(BR E (upd H1 id<|I<|.box t da) (b+os'.length) bs cs q.2).2.2<=L:=by
    generalize BR E (upd H1 id<|I<|.box t da) (b+os'.length) bs cs q.2=r at *;exact hL
   have HE:∀i∈EQ ds,upd H1 id (I<|.box t da) i=H i:=λi hi=>by
    rw[BH _ _ λe=>Jx.1 (by rw[← e];exact hi),ho1 i λhh=>FJ i (An _ hi) ⟨hh.1,J⟩]
   obtain⟨nw,n1,n4,n5⟩:=ny bs (upd H1 id<|I<|.box t da) (b+os'.length) q.2 cs ds vs us o2 L (hF.carry (Pk.refl _ _) λi hi t c h0=>⟨c,by rw[HE i hi];exact h0,λ_ _ c1 e _=>⟨c1,e⟩⟩) Jx.2
    (λi hi hh=>FJ i (An _ hi) ⟨J,hh.2⟩) h2 hL'
   generalize hg:BR E (upd H1 id<|I<|.box t da) (b+os'.length) bs cs q.2=r at *;obtain⟨es,H'',b''⟩:=r;simp only at n4 n5 hle hL hL' ⊢;refine⟨os'++nw, ?_, ?_, ?_⟩
   .rw[C9,C9,Db];refine bD os' ?_;exact((n1.cons (Ns<|I ⟨bb,0,A0⟩,1)).trans List.perm_middle.symm)
   .rw[n4];simp[DI]
   .intro β hM hn hbx;obtain⟨r1,r3⟩:=hrc β hM hn.left;have amg:β id=I (.pointer<|I ⟨bb,0,A0⟩,1):=hbx 0 _ _ rfl rfl id z rfl;have aEx:EJ P w β id (.box t da):=⟨bb,uc,amg,h3,r1⟩;obtain⟨m1,m2,m3,m4⟩:=n5 β hM hn.right (λi c v k1 k2=>hbx (i+1) c v (by simpa using k1)<|by simpa using k2);have step:∀j,H'' j=H1 j\/ ∃ob,H'' j=I ob/\EJ P w β j ob:=λj=>by
     rcases m1 j with h|h
     .by_cases e4:j=id
      .subst e4;rw[Bi]at h;exact .inr ⟨_,h,aEx⟩
      .rw[BH _ _ e4]at h;exact .inl h
     .exact .inr h
    refine⟨λj=> ?_,λj k1 k2=> ?_,λid2 z2 hm=> ?_,λj k1 k2=> ?_⟩
    .rcases step j with h|h
     .by_cases hj:b<=j/\j<b+os'.length
      .obtain⟨ob,q1,q2⟩:=r3 j hj.1 hj.2;exact .inr ⟨ob,by rw[h];exact q1,q2⟩
      .exact .inl (h.trans<|ho1 j hj)
     .exact .inr h
    .by_cases hj:j<b+os'.length
     .rcases step j with h|h
      .obtain⟨ob,q1,q2⟩:=r3 j k1 hj;exact⟨ob,by rw[h];exact q1,q2⟩
      .exact h
     .exact m2 j J (by simp at k2;omega)
    .rcases Bo.1 hm with h|h
     .cases h;rcases m1 id with h|h
      .rw[Bi]at h;exact⟨_,h,aEx⟩
      .exact h
     .exact m3 id2 z2 h
    .have hne:j≠id:=λe4=>k2 z (by rw[e4];exact Av);rw[m4 j (λhh=>k1 ⟨J,by simp;omega⟩) λz' hz'=>k2 z'<|An _ hz',BH _ _ hne];exact ho1 j λhh=>k1 ⟨hh.1,by simp;omega⟩
  | @nest t t2 t0 l2 l _ id z id2 z2 bb bb2 cs1 cs ds vs us hl2 hl hid hb2 hn hc hF=>
   obtain⟨u,us',o1,o2,e1,rfl,h1,h2⟩:=hr;cases e1;obtain⟨bb',uc,os',e2,h3,h4,rfl⟩:=h1;cases e2;obtain⟨u2,us1,oa,ob,huc,rfl,h5,h6⟩:=h4;obtain⟨azy,uc2,oc,e3,h7,h8,rfl⟩:=h5;have e4:u2= .pointer (I ⟨bb2,0,A0⟩):=by
    obtain⟨us0,fr,k1,k2⟩:=hc;rw[h3]at k1;cases k1;have:uc.toList[0]? =I u2:=by rw[huc];rfl
    rw[Uk,k2]at this;exact(Cn this).symm
   rw[e4]at e3;cases e3;subst e4;obtain⟨t3,c3,Lu⟩:=hb2;have Jx:(id2≠id/\id2 ∉ EQ ds)/\id ∉ EQ ds/\(EQ ds).Nodup:=by simpa[EQ,not_or] using hnd
   obtain⟨da,H1,hmk,ho1,alz⟩:=qX (E:=E) hl2 H b q.1.1 h8;obtain⟨dc,H3,am6,ho2,aly⟩:=qX (E:=E) hl (upd H1 id2<|I<|.box t2 da) (b+oc.length) q.1.2 h6;have un:BR E H b (.box t (.box t2 l2::l)::bs) (.ptr id z 0 0::cs) q=
     (match BR E (upd H3 id<|I<|.box t<|.ptr id2 z2 0 0::dc) (b+oc.length+ob.length) bs cs q.2 with|(es,H'',b'')=>(AV.ptr id z 0 0::es,H'',b'')):=by
    have u1:BR E H b (.box t (.box t2 l2::l)::bs) (.ptr id z 0 0::cs) q=(match DB E H b (.box t<|.box t2 l2::l) (.ptr id z 0 0) q.1 with|(d,H,b)=>match BR E H b bs cs q.2 with|(ds,H,b)=>(d::ds,H,b)):=rfl;have u2:DB E H b (.box t<|.box t2 l2::l) (.ptr id z 0 0) q.1=(match H id with
     | some (.box _ cs)=>(match BR E H b (.box t2 l2::l) cs q.1 with|(ds,H,b)=>(AV.ptr id z 0 0,upd H id<|I<|.box t ds,b))
     | _=>(.un,H,b)):=rfl
    have u3:BR E H b (.box t2 l2::l) (.ptr id2 z2 0 0::cs1) q.1=(match DB E H b (.box t2 l2) (.ptr id2 z2 0 0) q.1.1 with|(d,H,b)=>match BR E H b l cs1 q.1.2 with|(ds,H,b)=>(d::ds,H,b)):=rfl;have u4:DB E H b (.box t2 l2) (.ptr id2 z2 0 0) q.1.1=(match H id2 with
     | some (.box _ cs)=>(match BR E H b l2 cs q.1.1 with|(ds,H,b)=>(AV.ptr id2 z2 0 0,upd H id2<|I<|.box t2 ds,b))
     | _=>(.un,H,b)):=rfl
    rw[u1,u2,hid];simp only;rw[u3,u4,Lu];simp only;rw[Yv l2 H b c3 q.1.1 hl2,hmk];simp only;rw[Yv l _ _ cs1 q.1.2 hl,am6]
   rw[un]at hL ⊢;have hle:=Qs E bs (upd H3 id<|I<|.box t<|.ptr id2 z2 0 0::dc) (b+oc.length+ob.length) cs q.2;have hL':(BR E (upd H3 id<|I<|.box t<|.ptr id2 z2 0 0::dc) (b+oc.length+ob.length) bs cs q.2).2.2<=L:=by
    generalize BR E (upd H3 id<|I<|.box t<|.ptr id2 z2 0 0::dc) (b+oc.length+ob.length) bs cs q.2=r at *;exact hL
   have hi2:¬(b<=id2/\id2<L):=FJ id2 Av;have hi1:¬(b<=id/\id<L):=FJ id<|An _ Av;have hold:∀j,¬(b<=j/\j<b+oc.length+ob.length)->j≠id->j≠id2->upd H3 id (I<|.box t<|.ptr id2 z2 0 0::dc) j=H j:=λj hj e1 e2=>by
    rw[BH _ _ e1,ho2 j λhh=>hj ⟨J,hh.2⟩,BH _ _ e2,ho1 j λhh=>hj ⟨hh.1,J⟩]
   have HE:∀i∈EQ ds,upd H3 id (I<|.box t<|.ptr id2 z2 0 0::dc) i=H i:=λi hi=>by
    have:=FJ i<|An _<|An _ hi;exact hold i (λhh=>this ⟨hh.1,J⟩) (λe=>Jx.2.1 (by rw[← e];exact hi)) λe=>Jx.1.2 (by rw[← e];exact hi)
   obtain⟨nw,n1,n4,n5⟩:=ny bs (upd H3 id<|I<|.box t<|.ptr id2 z2 0 0::dc) (b+oc.length+ob.length) q.2 cs ds vs us o2 L (hF.carry (Pk.refl _ _) λi hi t c h0=>⟨c,by rw[HE i hi];exact h0,λ_ _ c1 e _=>⟨c1,e⟩⟩) Jx.2.2
    (λi hi hh=>FJ i (An _<|An _ hi) ⟨J,hh.2⟩) h2 hL'
   generalize hg:BR E (upd H3 id<|I<|.box t<|.ptr id2 z2 0 0::dc) (b+oc.length+ob.length) bs cs q.2=r at *;obtain⟨es,H'',b''⟩:=r;simp only at n4 n5 hle hL hL' ⊢;refine⟨oc++ob++nw, ?_, ?_, ?_⟩
   .exact at0 n1
   .rw[n4];simp[DI]
   .intro β hM hn hbx;have akz:Num β b oc:=hn.left.left;have aky:Num β (b+oc.length) ob:=hn.left.right;have akx:Num β (b+oc.length+ob.length) nw:=by
     have:=hn.right;rwa[B0,← DI]at this
    obtain⟨r1,r3⟩:=alz β hM akz;obtain⟨s1,s3⟩:=aly β hM aky;have hβ2:β id2=I (.pointer<|I ⟨bb2,0,A0⟩,1):=hbx 0 _ _ rfl rfl id2 z2 rfl;have hβ1:β id=I (.pointer<|I ⟨bb,0,A0⟩,1):=hbx 1 _ _ rfl rfl id z rfl;have ob2:EJ P w β id2 (.box t2 da):=⟨bb2,uc2,hβ2,h7,r1⟩;have ob1:EJ P w β id (.box t<|.ptr id2 z2 0 0::dc):=by
     refine⟨bb,uc,hβ1,h3, ?_⟩;rw[huc];refine RL.cons ?_ s1;have:=RC.ptr (w:=w) (β:=β) (id:=id2) (sz:=z2) (i:=0) (o:=0) hβ2 (b:=bb2) (f:=0) rfl J;simpa using this
    obtain⟨m1,m2,m3,m4⟩:=n5 β hM akx (λi c v k1 k2=>hbx (i+2) c v (by simpa using k1)<|by simpa using k2);have h4:∀j,(upd H3 id (I<|.box t<|.ptr id2 z2 0 0::dc) j=H j/\ ¬(b<=j/\j<b+oc.length+ob.length)/\j≠id/\j≠id2)\/ ∃o,upd H3 id (I<|.box t<|.ptr id2 z2 0 0::dc) j=I o/\EJ P w β j o:=λj=>by
     by_cases e1:j=id
     .subst e1;exact .inr ⟨_,Bi _ _ _,ob1⟩
     by_cases e2:j=id2
     .subst e2;refine .inr ⟨_, ?_,ob2⟩;rw[BH _ _ e1,ho2 j λhh=>hi2 ⟨J,J⟩,Bi]
     by_cases k1:b<=j/\j<b+oc.length+ob.length
     .by_cases k2:j<b+oc.length
      .obtain⟨o,q1,q2⟩:=r3 j k1.1 k2;exact .inr ⟨o,by rw[BH _ _ e1,ho2 j J,BH _ _ e2];exact q1,q2⟩
      .obtain⟨o,q1,q2⟩:=s3 j J k1.2;exact .inr ⟨o,by rw[BH _ _ e1];exact q1,q2⟩
     .exact .inl ⟨hold j k1 e1 e2,k1,e1,e2⟩
    have step:∀j,(H'' j=H j/\ ¬(b<=j/\j<b+oc.length+ob.length)/\j≠id/\j≠id2)\/ ∃o,H'' j=I o/\EJ P w β j o:=λj=>by
     rcases m1 j with h|h
     .rcases h4 j with⟨k1,k2⟩|⟨o,k1,k2⟩
      .exact .inl ⟨h.trans k1,k2⟩
      .exact .inr ⟨o,h.trans k1,k2⟩
     .exact .inr h
    refine⟨λj=> ?_,λj k1 k2=> ?_,λid3 z3 hm=> ?_,λj k1 k2=> ?_⟩
    .rcases step j with h|h
     .exact .inl h.1
     .exact .inr h
    .by_cases hj:j<b+oc.length+ob.length
     .rcases step j with h|h
      .exact absurd ⟨k1,hj⟩ h.2.1
      .exact h
     .exact m2 j J (by simp at k2;omega)
    .rcases Bo.1 hm with h|h
     .cases h;rcases step id2 with h|h
      .exact absurd rfl h.2.2.2
      .exact h
     rcases Bo.1 h with h|h
     .cases h;rcases step id with h|h
      .exact absurd rfl h.2.2.1
      .exact h
     .exact m3 id3 z3 h
    .have hne:j≠id:=λe4=>k2 z (by rw[e4];exact An _ Av);have am5:j≠id2:=λe4=>k2 z2 (by rw[e4];exact Av);rw[m4 j (λhh=>k1 ⟨J,by simp;omega⟩) λz' hz'=>k2 z'<|An _<|An _ hz'];exact hold j (λhh=>k1 ⟨hh.1,by simp;omega⟩) hne am5
def aG1(hH:Hs B β H w):∀(ps:List Sh) (cs:List AV) (vs:List Value) (x:LTs ps),ck B.P ps=U->RL (R1 w β) cs vs->GZ E H ps cs=I x->
  ∃ds us,Fb B.P w H (B6 ps) (GC ps cs) (KD ps vs) ds us/\
   RL (λc v=>∃id z bb,c=AV.ptr id z 0 0/\v=Ns (I ⟨bb,0,A0⟩)/\(∃t cs,H id=I (.box t cs))/\β id=I (v,1)/\id∈Bp H ps cs) ds us/\
   (EQ ds).Sublist (Bp H ps cs)/\ ∀i∈Bp H ps cs,i∈Cj H ps cs\/ ∃z,AV.ptr i z 0 0∈ds
 | [],[],vs,x,_,hr,hx=>by
  have:=hr.of_nil;subst this;exact⟨[],[],.nil,.nil,Em _,λi hi=>by simp[Bp]at hi⟩
 | [],_::_,_,_,_,_,hx=>by cases hx
 | _::_,[],_,_,_,_,hx=>by cases hx
 | h::ps,c::cs,vs,x,hp,hr,hx=>by
  obtain⟨v,vs,rfl,h1,h2⟩:=hr.CI;obtain⟨x1,e1,hx⟩:=Am.1 hx;obtain⟨x2,e2,hx⟩:=Am.1 hx;simp only[ck,AG]at hp;obtain⟨ds,us,f1,f2,f3,f4⟩:=aG1 hH ps cs vs x2 hp.2 h2 e2;have f2':RL (λc' v'=>∃id z bb,c'=AV.ptr id z 0 0/\v'=Ns (I ⟨bb,0,A0⟩)/\(∃t cs,H id=I (.box t cs))/\β id=I (v',1)/\id∈Bp H (h::ps) (c::cs)) ds us:=
   f2.mono λc' v' ⟨id,z,bb,k1,k2,k3,k4,k5⟩=>⟨id,z,bb,k1,k2,k3,k4,CU _ k5⟩
  have Ed:B6 (h::ps)=B6 ps->GC (h::ps) (c::cs)=GC ps cs->KD (h::ps) (v::vs)=KD ps vs->(∀i∈Cl H h c,i∈CL H h c)->
    ∃ds us,Fb B.P w H (B6<|h::ps) (GC (h::ps)<|c::cs) (KD (h::ps)<|v::vs) ds us/\
     RL (λc' v'=>∃id z bb,c'=AV.ptr id z 0 0/\v'=Ns (I ⟨bb,0,A0⟩)/\(∃t cs,H id=I (.box t cs))/\β id=I (v',1)/\id∈Bp H (h::ps) (c::cs)) ds us/\
     (EQ ds).Sublist (Bp H (h::ps)<|c::cs)/\ ∀i∈Bp H (h::ps) (c::cs),i∈Cj H (h::ps) (c::cs)\/ ∃z,AV.ptr i z 0 0∈ds:=λg1 g2 g3 g4=>by
   rw[g1,g2,g3];refine⟨ds,us,f1,f2',f3.trans<|bE _ _,λi hi=> ?_⟩;rcases BN.1 hi with hi|hi
   .exact .inl (By _<|g4 i hi)
   .exact(f4 i hi).imp (CU _) λh=>h
  cases h with
  | box t l=>
   have hp1:=hp.1;simp only[AG,Br,C1]at hp1;cases c<;>first|(cases e1;done)|skip
   rename_i id z i o;cases i<;>cases o<;>simp only[Bs]at e1<;>first|(cases e1;done)|skip
   split at e1
   case h_2=>cases e1
   rename_i t' cs' hid;split at e1
   case h_2=>cases e1
   rename_i hbt;obtain rfl:=Bq hbt;have h1:=h1.Rb;cases h1 with
   | @ptr _ _ _ _ hd n bb f k1 ha hi=>
    obtain⟨b',uc,j1,j2,j3⟩:=hH.EU id _ hid;rw[k1]at j1;cases j1;cases ha;have e0:(Ns<|I ⟨bb,0+(0 * z+0),A0⟩)=Ns (I ⟨bb,0,A0⟩):=by simp
    by_cases dO:aa6 l=U
    ·
     cases l with
     | nil=>cases dO
     | cons h0 l=>
      cases h0 with
      | box t2 l2=>
       obtain⟨hl,hn⟩:=hp1;have hn:Pp B.P t=U:=hn.resolve_left (by rw[dO];simp);simp only[abF,AG]at hl;cases cs' with
       | nil=>cases e1
       | cons c2 cs1=>
        obtain⟨y1,g1,g2⟩:=Am.1 e1;obtain⟨u2,us1,huc,q1,q2⟩:=j3.CI;cases c2<;>first|(cases g1;done)|skip
        rename_i id2 z2 i2 o2;cases i2<;>cases o2<;>simp only[Bs]at g1<;>first|(cases g1;done)|skip
        split at g1
        case h_2=>cases g1
        rename_i t2' cs2 Lu;obtain⟨b2,uc2,m1,m2,m3⟩:=hH.EU id2 _ Lu;cases q1 with
        | @ptr _ _ _ _ hd2 n2 bb2 f2x k1' ha' hi'=>
         rw[m1]at k1';cases k1';cases ha';have e00:(Ns<|I ⟨b2,0+(0 * z2+0),A0⟩)=Ns (I ⟨b2,0,A0⟩):=by simp
         rw[e00]at huc;refine⟨.ptr id2 z2 0 0:: .ptr id z 0 0::ds,.pointer (I ⟨b2,0,A0⟩):: .pointer (I ⟨bb,0,A0⟩)::us, ?_, ?_, ?_,λi hi=> ?_⟩
         .rw[e0];exact .nest hl.1 hl.2 hid ⟨_,_,Lu⟩ hn ⟨uc,_,j2,by rw[← Uk,huc];rfl⟩ f1
         .refine RL.cons ⟨id2,z2,b2,rfl,rfl,⟨_,_,Lu⟩,m1, ?_⟩ (RL.cons ⟨id,z,bb,rfl,rfl,⟨_,_,hid⟩,k1, ?_⟩ f2')
          .simp[Bp,Cl,hid,Lu]
          .simp[Bp,Cl,hid]
         .simp only[EQ,Bp,Cl,hid,Lu];refine List.Sublist.trans ?_<|List.Sublist.append_left f3 _;have:(((Bp H l2 cs2++[id2])++Bp H l cs1)++[id])++EQ ds=Bp H l2 cs2++(id2::(Bp H l cs1++(id::EQ ds))):=by simp
          rw[this];exact(((bE _ _:(id::EQ ds).Sublist (Bp H l cs1++(id::EQ ds)))).cons_cons id2).trans (bE _ _)
         .simp only[Bp,Cl,hid,Lu,BN,CA]at hi;obtain(((hi|hi)|hi)|hi)|hi:=hi
          .refine .inl<|By _ ?_;simp only[CL,hid,Cj,Lu];exact By _ (Tm l2 cs2 hl.1 i hi)
          .subst hi;exact .inr ⟨z2,Av⟩
          .refine .inl<|By _ ?_;simp only[CL,hid,Cj,Lu];exact CU _ (Tm l cs1 hl.2 i hi)
          .subst hi;exact .inr ⟨z,An _ Av⟩
          .rcases f4 i hi with h|⟨z',h⟩
           .exact .inl (CU _ h)
           .exact .inr ⟨z',An _<|An _ h⟩
      | _=>cases dO
    ·
     have hl:HT l=U:=by
      have:=hp1.1;cases l with
      | nil=>rfl
      | cons h0 l=>cases h0<;>first|exact this|exact absurd rfl dO
     refine⟨.ptr id z 0 0::ds,.pointer (I ⟨bb,0,A0⟩)::us, ?_, ?_, ?_,λi hi=> ?_⟩
     .rw[e0];exact .flat hl ⟨_,_,hid⟩ f1
     .refine RL.cons ⟨id,z,bb,rfl,rfl,⟨_,_,hid⟩,k1, ?_⟩ f2';simp[Bp,Cl,hid]
     .simp only[EQ,Bp,Cl,hid];rw[C9];exact((f3.cons_cons id)).trans (bE _ _)
     .simp only[Bp,Cl,hid,BN,CA]at hi;obtain(hi|hi)|hi:=hi
      .refine .inl<|By _ ?_;simp only[CL,hid];exact Tm l cs' hl i hi
      .subst hi;exact .inr ⟨z,Av⟩
      .rcases f4 i hi with h|⟨z',h⟩
       .exact .inl (CU _ h)
       .exact .inr ⟨z',An _ h⟩
  | agg l=>
   refine Ed rfl rfl rfl λi hi=> ?_;cases c with
   | agg cs'=>
    simp only[CL];exact Tm l cs' hp.1 i<|by simpa[Cl] using hi
   | _=>simp[Cl]at hi
  | arr=>exact Ed rfl rfl rfl λi hi=>by simp[Cl]at hi
  | same=>exact Ed rfl rfl rfl λi hi=>by simp[Cl]at hi
  | int=>exact Ed rfl rfl rfl λi hi=>by simp[Cl]at hi
  | bool=>exact Ed rfl rfl rfl λi hi=>by simp[Cl]at hi
  | str=>exact Ed rfl rfl rfl λi hi=>by simp[Cl]at hi
  | sl=>exact Ed rfl rfl rfl λi hi=>by simp[Cl]at hi
  | fz=>exact Ed rfl rfl rfl λi hi=>by simp[Cl]at hi
  | row t k=>exact Ed rfl rfl rfl (ZM _ c rfl rfl)
  | Cq t k=>exact Ed rfl rfl rfl (ZM _ c rfl rfl)
  | abx t k=>exact Ed rfl rfl rfl (ZM _ c rfl rfl)
def aHX{t:TypeId}{j:Nat}:∀(ids:List Nat) (s:S) {cs:List AV},j ∉ ids->s.H j=I (.box t cs)->∃cs',(ids.foldl S.kill s).H j=I (.box t cs')/\ ∀id2 z2 cs1,cs= .ptr id2 z2 0 0::cs1->id2 ∉ ids->∃L6,cs'= .ptr id2 z2 0 0::L6
 | [],s,cs,_,h=>⟨cs,h,λ_ _ c e _=>⟨c,e⟩⟩
 | i::ids,s,cs,hj,h=>by
  have hne:j≠i:=λe=>hj<|e▸Av;obtain⟨c',h1,h2⟩:=aHX (t:=t) (j:=j) ids (s.kill i) (cs:=cs.map<|kl1 i) (λhm=>hj<|An _ hm) (by
   show upd (λj=>CR (kl1 i)<|s.H j) i A0 j=_;rw[BH _ _ hne,h];rfl)
  refine⟨c',h1,λid2 z2 cs1 e hn=> ?_⟩;subst e;have hn2:id2≠i:=λe=>hn<|e▸Av;have e1:Al id2 i=A3:=by rw[← Gk,Hc];exact hn2
  exact h2 id2 z2 (cs1.map<|kl1 i) (by simp[kl1,e1]) λhm=>hn<|An _ hm
def aFs{t:TypeId}{j:Nat}:∀(ids:List Nat) (s:S) {cs:List AV},j ∉ ids->s.H j=I (.box t cs)->∃cs',(ids.foldl S.freeze s).H j=I (.box t cs')/\ ∀id2 z2 cs1,cs= .ptr id2 z2 0 0::cs1->id2 ∉ ids->∃L6,cs'= .ptr id2 z2 0 0::L6
 | [],s,cs,_,h=>⟨cs,h,λ_ _ c e _=>⟨c,e⟩⟩
 | i::ids,s,cs,hj,h=>by
  have hne:j≠i:=λe=>hj<|e▸Av;have:∃cs',(s.freeze i).H j=I (.box t cs')/\ ∀id2 z2 cs1,cs= .ptr id2 z2 0 0::cs1->id2≠i->∃L6,cs'= .ptr id2 z2 0 0::L6:=by
   unfold S.freeze;split
   .rename_i k xs _;refine⟨cs.map<|fz1 i k xs, ?_,λid2 z2 cs1 e hn=> ?_⟩
    .show upd (λj=>CR (fz1 i k xs)<|s.H j) i A0 j=_;rw[BH _ _ hne,h];rfl
    .subst e;have e1:Al id2 i=A3:=by rw[← Gk,Hc];exact hn
     exact⟨cs1.map<|fz1 i k xs,by simp[fz1,e1]⟩
   .refine⟨cs.map<|kl1 i, ?_,λid2 z2 cs1 e hn=> ?_⟩
    .show upd (λj=>CR (kl1 i)<|s.H j) i A0 j=_;rw[BH _ _ hne,h];rfl
    .subst e;have e1:Al id2 i=A3:=by rw[← Gk,Hc];exact hn
     exact⟨cs1.map<|kl1 i,by simp[kl1,e1]⟩
  obtain⟨c',h',hd'⟩:=this;obtain⟨c2,h2,h3⟩:=aFs (t:=t) (j:=j) ids (s.freeze i) (λhm=>hj<|An _ hm) h';refine⟨c2,h2,λid2 z2 cs1 e hn=> ?_⟩;obtain⟨L6,e'⟩:=hd' id2 z2 cs1 e (λe=>hn<|e▸Av);exact h3 id2 z2 L6 e' λhm=>hn<|An _ hm
def awo{t:TypeId}{j:Nat}(q:Bool)(ids:List Nat)(s:S){cs:List AV}(hj:¬(q=U/\j∈ids))(h:s.H j=I (.box t cs)):
  ∃cs',(Gf q ids s).H j=I (.box t cs')/\ ∀id2 z2 cs1,cs= .ptr id2 z2 0 0::cs1->¬(q=U/\id2∈ids)->∃L6,cs'= .ptr id2 z2 0 0::L6:=by
 cases q with
 | false=>exact⟨cs,h,λ_ _ c e _=>⟨c,e⟩⟩
 | true=>
  obtain⟨c',h1,h2⟩:=aFs ids s (λhm=>hj ⟨rfl,hm⟩) h;exact⟨c',h1,λid2 z2 cs1 e hn=>h2 id2 z2 cs1 e λhm=>hn ⟨rfl,hm⟩⟩
def aaO{cs:List AV}{vs:List Value}(h:RL (R1 w β) cs vs):R2 w β (Mb cs) (My vs):=by
 match cs,vs,h with
 | [],vs,h=>
  have:=h.of_nil;subst this;exact⟨[],rfl,.nil⟩
 | [c],vs,h=>
  obtain⟨v,vs',rfl,h1,h2⟩:=h.CI;have:=h2.of_nil;subst this;exact .Hh h1
 | c::c'::cs,vs,h=>
  obtain⟨v,vs',rfl,h1,h2⟩:=h.CI;obtain⟨v',alR,rfl,h3,h4⟩:=h2.CI;exact⟨v::v'::alR,rfl,h⟩
def aHc:∀(ps:List Sh) (k:Nat) (t:Nat),t∈EC k ps->k<=t/\ ∃e l,ps[t - k]? =I (.box e l)
 | [],_,_,h=>by cases h
 | p::ps,k,t,h=>by
  have tail:t∈EC (k+1) ps->k<=t/\ ∃e l,(p::ps)[t - k]? =I (.box e l):=λh=>by
   obtain⟨h1,e,l,h2⟩:=aHc ps (k+1) t h;refine⟨J,e,l, ?_⟩;have:t - k=(t - (k+1))+1:=J
   rw[this];simpa using h2
  unfold EC at h;split at h
  .rename_i hb;rcases Bo.1 h with rfl|h
   .refine⟨Az _, ?_⟩;cases p<;>first|(cases hb;done)|skip
    rename_i t0 l0;exact⟨t0,l0,by simp⟩
   .exact tail h
  .exact tail h
def aIA{H:Hp}:∀ {ps:List Sh} {cs:List AV} {x:LTs ps},GZ E H ps cs=I x->∀ {i:Nat} {h:Sh},ps[i]? =I h->∃c y,cs[i]? =I c/\Bs E H h c=I y
 | [],cs,x,_,i,h,hi=>by simp at hi
 | _::_,[],_,h,_,_,_=>by cases h
 | p::ps,c::cs,x,hx,i,h,hi=>by
  obtain⟨x1,e1,hx⟩:=Am.1 hx;obtain⟨x2,e2,hx⟩:=Am.1 hx;cases i with
  | zero=>simp at hi;subst hi;exact⟨c,x1,rfl,e1⟩
  | succ i=>
   obtain⟨c',y,h1,h2⟩:=aIA e2 (by simpa using hi);exact⟨c',y,by simpa using h1,h2⟩
end
end Go.VS
namespace Go.VS
open Go
def okQ(P:Program)(m:Dd):Bool:=ck P m.ps&&KM m.rs&&(Iv m.rs).all λt=>(EC 0 m.ps).any λp=>Al p t
section
variable {B B':Bg} {β β':Beta} {H:Hp} {w w':World} {M M':Nat->Prop} {stk:List (Array Value)} {s s':S} {a:Act} {P:Program} {E:Nat->AV} {e:Nat->Value} {b:Nat} {C:Cx}
def aH2{o:Oper}{f:FuncId}{args:List Operand}{ts:Array TypeId}{K:Act->World->Prop}{Q:Exit->Act->World->Prop}(hE:Ma P f)(ho:o.op= .call { callee:= .value<|.func f,args:=args.toArray,argTypes:=ts })
  {R:Ending->World->Prop}(hc:Calls P f (args.map a.eval).toArray w R)(hR:∀en w',R en w'->∃v,en= .returned v/\K (a.put o.dst v) w'):o.wp P a w K Q:=by
 unfold Oper.wp;have h1:execOp a.eval o=callFunc f (args.map a.eval).toArray:=by
  have ef:a.eval (.func f)= .func (.func f) #[] #[]:=rfl;unfold execOp;simp[ho,resolve,Deferred.ofValue,invoke,ef]
 rw[h1,hE];refine Ms hc λen w' h=> ?_;obtain⟨v,rfl,hk⟩:=hR en w' h;exact hk
def aFi:∀(ids:List Nat) (s:S),(ids.foldl S.kill s).gs=s.gs/\(ids.foldl S.kill s).n=s.n/\(ids.foldl S.kill s).pins=s.pins
 | [],_=>⟨rfl,rfl,rfl⟩
 | i::ids,s=>aFi ids (s.kill i)
def auR(q:Bool)(ids:List Nat)(s:S):(Gf q ids s).gs=s.gs/\(Gf q ids s).n=s.n/\(Gf q ids s).pins=s.pins:=by
 cases q with
 | false=>exact⟨rfl,rfl,rfl⟩
 | true=>
  obtain⟨h1,h2,h3,_⟩:=YL ids s;exact⟨h1,h2,h3⟩
def atJ{h:Sh}{x:LT h}{v:Value}{os:List (Value×Nat)}(ht:s7 h=U)(hr:Rel P w M e h x v os):(BL E H b h x).2.2=b+os.length:=by
 by_cases hh:Iy h=U
 .exact aHl h H b x v os hh hr
 .cases h<;>first|(exact absurd ht hh;done)|skip
  case agg l=>
   obtain⟨us,rfl,h1⟩:=hr;have un:BL E H b (.agg l) x=(match Ao E H b l x with|(cs,H,b)=>(AV.agg cs,H,b)):=rfl;have:=ZJ (E:=E) l H b x us os ht h1;rw[un];generalize Ao E H b l x=r at *;exact this
  case arr k=>
   obtain⟨rfl,h1⟩:=hr;rfl
def aFe:∀ {l:List Sh} {H:Hp} {b:Nat} {x:LTs l} {us:List Value} {os:List (Value×Nat)},KM l=U->Cp P w M e l x us os->(Ao E H b l x).2.2=b+os.length
 | [],H,b,x,us,os,_,hr=>by obtain⟨_,rfl⟩:=hr;rfl
 | h::l,H,b,x,us,os,hl,hr=>by
  obtain⟨u,us',o1,o2,rfl,rfl,h1,h2⟩:=hr;simp only[KM,AG]at hl;have un:Ao E H b (h::l) x=(match BL E H b h x.1 with|(c,H,b)=>match Ao E H b l x.2 with|(cs,H,b)=>(c::cs,H,b)):=rfl;have k:=atJ (E:=E) (H:=H) (b:=b) hl.1 h1;rw[un];generalize BL E H b h x.1=r at *;obtain⟨c,H',b'⟩:=r;have k:b'=b+o1.length:=k;subst k;have k2:=aFe (H:=H') (b:=b+o1.length) hl.2 h2;simp only;generalize Ao E H' (b+o1.length) l x.2=r at *;obtain⟨cs,H'',b''⟩:=r;have k2:b''=_:=k2;simp[k2,DI]
def auO{O:Nat->Prop}(hg:O3 B.P B.w0 B.O)(hs:Hs B β H w)(hO:∀b,O b->MB β b):O3 B.P w O:=by
 obtain⟨w0,h1,h2⟩:=hg;refine⟨w0,h1,λb hb=> ?_⟩;obtain⟨h3,h4,h5⟩:=h2 b hb;exact⟨λh=>(hs.old b<|hO b h).1.elim h3 J,HA h4 hs.size,(hs.block b h4 h3).trans h5⟩
def axe{m:Dd}{f:FuncId}(hS:H5 B.P f m)(hk:okQ B.P m=U){d:Option Nat}{as:List Operand}{o:Oper}{ts:Array TypeId}{K:Act->World->Prop}{Q:Exit->Act->World->Prop}
  (hst:St B β stk s a w)(hfr:∀j,b<=j->j<b+16->s.H j=A0)(hd:s.has d=U)(he:Ht m s b d (as.map s.ev) I=I s')(hod:o.dst=d)(ho:o.op= .call { callee:= .value<|.func f,args:=as.toArray,argTypes:=ts })
  (hK:KQ B stk a d s' K):o.wp B.P a w K Q:=by
 simp only[okQ,AG,Cb,Hd]at hk;obtain⟨⟨hps,hrs⟩,hsm⟩:=hk;unfold Ht at he;simp only at he;split at he
 case h_2=>cases he
 rename_i x hx hnd;obtain⟨r,hr,he⟩:=Am.1 he;simp only[AG]at hnd;have Q7:=Yl hnd.1;generalize hcs:as.map s.ev=cs at *;generalize Gq:as.map a.eval=args;have hlen:args.length=cs.length:=by rw[← hcs,← Gq];simp
 have hrx:∀(i:Nat) (c:AV) (v:Value),cs[i]? =I c->args[i]? =I v->RX w β (Be a) c v:=λi c v h1 h2=>by
  rw[← hcs,DK]at h1;rw[← Gq,DK]at h2;obtain⟨y,hy,rfl⟩:=DJ.1 h1;rw[hy]at h2;cases h2;exact hst.eval y
 have hpl:=YB hx;have rl:RL (R1 w β) cs args:=⟨hlen,λj c u h1 h2=>(hrx j c u h1 h2).N3 (hpl c<|Cu h1).1 (hpl c<|Cu h1).2⟩;generalize hE:(fun(i:Nat)=>(cs[i]?).getD AV.un)=E at *;have aEl:∀ {t:Nat} {c:AV},cs[t]? =I c->E t=c:=λh=>by rw[← hE];simp[h]
 generalize hI:Bp s.H m.ps cs=ids at *;generalize hro:Cj s.H m.ps cs=ro at *;generalize hfz:D5 s.H m.ps cs=fz at *;have akh:ro.Sublist ids:=by rw[← hro,← hI];exact Zd _ _
 have al:∀i∈ro,RJ s.H i:=by rw[← hro];exact Yu _ _ _ hx
 have ax:∀i∈fz,RJ s.H i:=by rw[← hfz];exact Yw _ _ _ hx
 obtain⟨bc,bv,hFb,hba,aEX,sK⟩:=aG1 (E:=E) hst.hs m.ps cs args x hps rl hx;rw[hI]at hba aEX sK;rw[hro]at sK
 let Zc:Nat->Prop:=λbl=>MZ β bl/\bl ∉ B3 (ids.filterMap β)/\bl ∉ B3 (fz.filterMap β)
 have R:OI B β s.H w (λbl=>bl∈B3 (ids.filterMap β)\/Zc bl) E (ar args):={
  hs:=hst.hs
  hM:=λbl h=>h.elim (λh=> .inl<|UT h) (λh=>h.1)
  hE:=λt id z hEt=>by
   cases hc:cs[t]? with
   | none=>rw[← hE]at hEt;simp[hc]at hEt
   | some c=>
    have hlt:t<args.length:=by rw[hlen];exact(BP.1 hc).1
    rw[aEl hc];exact rl.2 t c _ hc (by simp[ar,hlt]) }
 have amE:SG β (λbl=>bl∈B3 (ids.filterMap β)\/Zc bl) fz:=λi hi p a' hp ha hm=>by
  obtain hm|hm:=hm
  .exact qO hst.hs hnd.2 i hi p a' hp ha (.inl hm)
  .exact hm.2.2<|Gh.2 ⟨p,Gh.2 ⟨i,hi,hp⟩,by simp[HU,ha]⟩
 obtain⟨os,FX,GN⟩:=Yk R m.ps cs args x rl hx (by rw[hfz];exact amE);rw[hI]at GN;have oW:(λbl=>bl∈B3 (ids.filterMap β)\/Zc bl)=λbl=>bl∈B3 os\/Zc bl:=by rw[GN]
 rw[oW]at FX;have dN:∀bl∈B3 os,MB β bl:=λbl h=>by rw[GN]at h;exact UT h
 have Ig:=hS.2 x r hr w Zc args os FX (by rw[GN];exact ZA hst.hs Q7)
  (λbl h=>⟨(hst.hs.old bl<|dN bl h).2,λhz=>hz.2.1 (by rw[← GN];exact h)⟩) (λbl h=>by
   obtain h1|h1:=h.1
   .exact(hst.hs.old bl h1).2
   .exact hst.hs.zl bl h1)
  (auO B.gl hst.hs λbl h=>dN bl h)
 rw[← Gq]at Ig;refine aH2 hS.1 ho Ig ?_;rw[Gq];rintro en w' ⟨v,rfl,Ij⟩;refine⟨v,rfl, ?_⟩;rw[hod];obtain⟨vs,os1,os2,rfl,hr1,hr2,akl,hbl⟩:=Ij.ex;obtain⟨β1,h1,hβ1,hZ1⟩:=St.abW (a:=a) (w:=w) (stk:=stk) ro (Q7.sublist akh) hst;obtain⟨β2,h2,hβ2,hZ2⟩:=h1.al6 (CY m.rs||CY (B6 m.ps)) fz;have HE:=auR (CY m.rs||CY (B6 m.ps)) fz<|ro.foldl S.kill s;have sG:=aFi ro s;have azr:∀ {id:Nat} {t:TypeId} {cs0:List AV},s.H id=I (.box t cs0)->∃cs1,(Gf (CY m.rs||CY (B6 m.ps)) fz<|ro.foldl S.kill s).H id=I (.box t cs1):=fun {id t cs0} hid=>by
  obtain⟨cs1,h⟩:=aGT ro s (λhm=>al id hm t cs0 hid) hid;exact avo _ fz _ (λhm=>ax id hm.2 t cs0 hid) h
 have akk:∀j,s.H j=A0->(Gf (CY m.rs||CY (B6 m.ps)) fz<|ro.foldl S.kill s).H j=A0:=λj hj=>
  (aFr (N:=λ_=>False) (CY m.rs||CY (B6 m.ps)) fz<|BJ.sd ro<|BJ.refl _ s).nn j (λh=>h) hj
 generalize hq:(CY m.rs||CY (B6 m.ps))=q at *;generalize hs2:Gf q fz (ro.foldl S.kill s)=s2 at *;have aj:∀j p,β2 j=I p->β j=I p/\j ∉ ro/\ ¬(q=U/\j∈fz):=λj p h=>by
  rw[hβ2]at h;split at h
  .cases h
  .rename_i hn;rw[hβ1]at h;split at h
   .cases h
   .rename_i hn';exact⟨h,hn',hn⟩
 have aEj:∀bl,β2.Z bl↔β.Z bl\/ ∃i∈ro,∃p a,β i=I p/\adr p.1=I a/\a.block=bl:=λbl=>by rw[hZ2];exact hZ1 bl
 generalize hbc:GC m.ps cs=bcT at *;generalize hbv:KD m.ps args=bvT at *;have hM2:∃M2:Nat->Prop,Cp B.P w' M2 (ar args) m.rs r.1 vs os1/\Cp B.P w' M2 (ar args) (B6 m.ps) r.2 bvT os2/\(q=A3->∀bl,M2 bl)/\(q=U->∀bl,(bl∈B3 (os1++os2)\/Zc bl)->M2 bl):=by
  cases q with
  | false=>
   simp only[Mk]at hq;exact⟨λ_=>True,Cp.anyM _ _ _ _ hq.1 hr1,Cp.anyM _ _ _ _ hq.2 hr2,λ_ _=>trivial,λh=>by cases h⟩
  | true=>exact⟨_,hr1,hr2,(by intro h;cases h),λ_ bl h=>h⟩
 obtain⟨M2,aF2,am0,hMf,hMt⟩:=hM2;generalize hg:BR E s2.H b (B6 m.ps) bcT r.2=g at *;obtain⟨ds,H1,b1⟩:=g;simp only at he;generalize hmk:Ao E H1 b1 m.rs r.1=g at *;obtain⟨rc,Hf,b2⟩:=g;simp only at he;split at he
 case h_2=>cases he
 rename_i hb2;have hb2:=Di hb2;cases he;have Q6:b1<=b2:=by have:=JO E m.rs H1 b1 r.1;rw[hmk]at this;exact this
 have hgb:(BR E s2.H b (B6 m.ps) bcT r.2).2.2<=b+16:=by rw[hg];exact Ce Q6 hb2
 have hdK:∀i∈EQ bc,i ∉ ro/\i ∉ fz/\ ∃t cs0,s.H i=I (.box t cs0):=λi hi=>by
  obtain⟨z,hz⟩:=aJp hi;obtain⟨j,hj⟩:=aFO hz;obtain⟨v,_,id,z',bb,k1,_,⟨t,cs0,k3⟩,_,_⟩:=hba.get hj;cases k1;exact⟨λh=>al i h _ _ k3,λh=>ax i h _ _ k3,t,cs0,k3⟩
 have alq:Fb B.P w' s2.H (B6 m.ps) bcT bvT bc bv:=hFb.carry Ij.pk λi hi t cs0 h0=>by
  obtain⟨k1,k2,_⟩:=hdK i hi;obtain⟨cs1,h3,h4⟩:=aHX ro s k1 h0;obtain⟨cs2,h5,h6⟩:=awo q fz (ro.foldl S.kill s) (λhm=>k2 hm.2) h3;rw[hs2]at h5;refine⟨cs2,h5,λid2 z2 c1 e hm=> ?_⟩;obtain⟨c2,e2⟩:=h4 id2 z2 c1 e (hdK id2 hm).1;exact h6 id2 z2 c2 e2 λhm'=>(hdK id2 hm).2.1 hm'.2
 obtain⟨nw,akw,hb1,hgi⟩:=ny (E:=E) (P:=B.P) (w:=w') (M:=M2) (e:=ar args) (B6 m.ps) s2.H b r.2 bcT bc bvT bv os2 (b+16) alq (Q7.sublist aEX)
  (λi hi hh=>by
   obtain⟨_,_,t,cs0,k3⟩:=hdK i hi;rw[hfr i hh.1 hh.2]at k3;cases k3) am0 hgb
 rw[hg]at hb1 hgi;simp only at hb1 hgi
 let os':=nw++os1
 let β3:Beta:=⟨λj=>if b<=j/\j<b+os'.length then os'[j - b]? else β2 j,B.Z⟩
 have Ve:∀j p,β3 j=I p->(b<=j/\j<b+os'.length/\os'[j - b]? =I p)\/(¬(b<=j/\j<b+os'.length)/\β2 j=I p):=λj p h=>by
  have h:(if b<=j/\j<b+os'.length then os'[j - b]? else β2 j)=I p:=h;split at h
  .rename_i hh;exact .inl ⟨hh.1,hh.2,h⟩
  .rename_i hh;exact .inr ⟨hh,h⟩
 have Rg:Num β3 b os':=λi p hp=>by
  have hlt:=(BP.1 hp).1;show(if b<=b+i/\b+i<b+os'.length then os'[b+i - b]? else β2 (b+i))=I p;rw[A8 ⟨J,J⟩,show b+i - b=i by omega];exact hp
 have dH:(B3 os2).Perm (B3 nw++B3 (bv.map λv=>(v,1))):=by
  have:=akw.filterMap HU;rwa[Mr]at this
 have Vd:∀bl,bl∈B3 os'->bl∈B3 (os1++os2):=λbl h=>by
  simp only[os',B3,Mr,BN]at h ⊢;obtain h|h:=h
  .exact .inr (dH.mem_iff.2<|By _ h)
  .exact .inl h
 have an:(B3 os'++B3 (bv.map λv=>(v,1))).Nodup:=by
  have h1:(B3<|os1++os2).Perm (B3 os'++B3 (bv.map λv=>(v,1))):=by
   simp only[os',B3,Mr]at dH ⊢;refine(bD _ dH).trans ?_;rw[← C9];exact List.Perm.append_right _ List.perm_append_comm
  exact h1.nodup_iff.1 akl
 have al0:(B3 os').Nodup:=(Jo.1 an).1;have sX:∀i,i∈ids->i ∉ ro->∃v,(v,1)∈bv.map (λv=>(v,1))/\β i=I (v,1)/\(∃z,AV.ptr i z 0 0∈bc):=λi hi hn=>by
  rcases sK i hi with h|⟨z,h⟩
  .exact absurd h hn
  .obtain⟨j,hj⟩:=aFO h;obtain⟨v,hv,id,z',bb,k1,k2,k3,k4,k5⟩:=hba.get hj;cases k1;exact⟨v,C3.2 ⟨v,Cu hv,rfl⟩,k4,z,h⟩
 have sU:∀j p a',β2 j=I p->adr p.1=I a'->a'.block∈B3 os->j∈ids/\j ∉ ro:=λj p a' hj ha hm=>by
  obtain⟨h0,h1,_⟩:=aj j p hj;rw[GN]at hm;obtain⟨i,hi,p',a2,hp',ha',e'⟩:=NT hm;have:=hst.hs.inj j i p p' a' a2 h0 hp' ha ha' e'.symm;subst this;exact⟨hi,h1⟩
 have abX:∀bl,bl∈B3 os->MZ β2 bl:=λbl hm=>by
  have hm':=hm;rw[GN]at hm;obtain⟨i,hi,p,a',hp,ha,e'⟩:=NT hm;by_cases hr:i∈ro
  .exact .inr ((aEj bl).2<|.inr ⟨i,hr,p,a',hp,ha,e'⟩)
  .refine .inl ⟨i,p.1,p.2,a', ?_,ha,e'⟩;have hnf:i ∉ fz:=λhf=>aHe hnd.2 i hf hi;rw[hβ2,AD λh=>hnf h.2,hβ1,AD hr];exact hp
 have sf:∀bl,MB β3 bl->MB β2 bl\/bl∈B3 os':=λbl hm=>by
  obtain⟨j,hd',n,a',hj,ha,e'⟩:=hm;rcases Ve j _ hj with⟨_,_,hj⟩|⟨_,hj⟩
  .exact .inr (Gh.2 ⟨_,Cu hj,by simp[HU,ha,e']⟩)
  .exact .inl ⟨j,hd',n,a',hj,ha,e'⟩
 have D1:∀bl o v,¬MZ β2 bl->w.cell? ⟨bl,o,A0⟩=I v->w'.cell? ⟨bl,o,A0⟩=I v:=λbl o v hn hc=>by
  have hlt:=block_lt_of_cell hc;rw[Uy (w:=w) (w':=w')<|Ij.block bl hlt λhm=>hn<|abX bl hm];exact hc
 have alp:∀bl,¬MZ β2 bl->bl<w.heap.size->¬MZ β3 bl:=λbl hn hlt hm=>by
  obtain hm|hm:=hm
  .rcases sf bl hm with h|h
   .exact hn (.inl h)
   .rcases(hbl bl<|Vd bl h).1 with h3|h3
    .exact hn (abX bl h3)
    .omega
  .exact hn<|.inr<|(aEj bl).2<|.inl (by rw[hst.hs.z];exact hm)
 have ai:∀j p,β2 j=I p->β3 j=I p:=λj p hj=>by
  have hne:¬(b<=j/\j<b+os'.length):=λhh=>by
   have al3:os'.length=nw.length+os1.length:=by simp[os']
   have h3:=(hgi:_);obtain⟨ob,hob⟩:=h2.hs.dom j p hj;have:=akk j (hfr j hh.1 (by
    have:b2=b1+os1.length:=by
     have:=aFe hrs aF2 (E:=E) (H:=H1) (b:=b1);rw[hmk]at this;exact this
    omega))
   rw[this]at hob;cases hob
  show(if b<=j/\j<b+os'.length then os'[j - b]? else β2 j)=I p;rw[AD hne];exact hj
 have hkp:Kp w β2 w' β3:=λc v hc=>hc.mono ai D1 alp;have hM3:∀bl,MZ β3 bl->M2 bl:=λbl hm=>by
  cases q with
  | false=>exact hMf rfl bl
  | true=>
   refine hMt rfl bl ?_;obtain hm|hm:=hm
   .rcases sf bl hm with h|h
    .obtain⟨j,hd',n,a',hj,ha,e'⟩:=h;obtain⟨k1,k2,k3⟩:=aj j _ hj;by_cases hji:j∈ids
     .obtain⟨v,hv1,hv2,_⟩:=sX j hji k2;rw[k1]at hv2;cases hv2;refine .inl ?_;simp only[B3,Mr,BN];refine .inr (dH.mem_iff.2<|CU _<|Gh.2 ⟨_,hv1,by simp[HU,ha,e']⟩)
     .refine .inr ⟨.inl ⟨j,hd',n,a',k1,ha,e'⟩,λhb=> ?_,λhb=> ?_⟩
      .rw[← GN,← e']at hb;exact hji (sU j _ a' hj ha hb).1
      .obtain⟨i,hi,p,a2,hp,ha2,e2⟩:=NT hb;have:=hst.hs.inj j i _ p a' a2 k1 hp ha ha2<|e'.trans e2.symm;subst this;exact k3 ⟨rfl,hi⟩
    .exact .inl (Vd bl h)
   .have hz:β.Z bl:=by rw[hst.hs.z];exact hm
    refine .inr ⟨.inr hz,λhb=> ?_,λhb=> ?_⟩
    .obtain⟨i,hi,p,a2,hp,ha2,e2⟩:=NT hb;exact hst.hs.zn i p a2 hp ha2 (e2▸hz)
    .obtain⟨i,hi,p,a2,hp,ha2,e2⟩:=NT hb;exact hst.hs.zn i p a2 hp ha2<|e2▸hz
 obtain⟨g1,g2,g3,g4⟩:=hgi β3 hM3 Rg.left (λi c v k1 k2 id z hc=>by
  obtain⟨id',z',bb,j1,j2,j3,j4,j5⟩:=hba.2 i c v k1 k2;rw[hc]at j1;cases j1;refine ai id _ ?_;have hnr:id ∉ ro:=λh=>al id h _ _ j3.choose_spec.choose_spec;have hnf:id ∉ fz:=λh=>ax id h _ _ j3.choose_spec.choose_spec;rw[hβ2,AD λh=>hnf h.2,hβ1,AD hnr];exact j4)
 have alC:VE w' β3 E (ar args) (Iv m.rs):=λt ht=>by
  obtain⟨p,hp1,hp2⟩:=hsm t ht;obtain rfl:=Bq hp2;obtain⟨_,e1,l1,hp3⟩:=aHc m.ps 0 p hp1;rw[Js]at hp3;obtain⟨c,y,hc,hy⟩:=aIA hx hp3;have hlt:p<args.length:=by rw[hlen];exact(BP.1 hc).1
  have hR:=rl.2 p c (ar args p) hc (by simp[ar,hlt]);rw[aEl hc];cases c<;>first|(cases hy;done)|skip
  rename_i id z i' o';cases i'<;>cases o'<;>simp only[Bs]at hy<;>first|(cases hy;done)|skip
  split at hy
  case h_2=>cases hy
  rename_i t' cs' hid;have hnr:id ∉ ro:=λh=>al id h _ _ hid;have hnf:id ∉ fz:=λh=>ax id h _ _ hid;have hR:=hR.Rb;generalize ar args p=v at hR;cases hR with
  | ptr k1 k2 k3=>exact .N1<|.ptr (ai id _ (by rw[hβ2,AD λh=>hnf h.2,hβ1,AD hnr];exact k1)) k2 k3
 obtain⟨f1,f2,f3⟩:=aD (β:=β3) (E:=E) (M:=M2) (P:=B.P) (w:=w') (e:=ar args) hM3 m.rs H1 b1 r.1 vs os1 hrs aF2 (by rw[hb1];exact Rg.right) alC;rw[hmk]at f1 f2 f3;simp only at f1 f2 f3;have al3:os'.length=nw.length+os1.length:=by simp[os']
 have aF6:∀j,(∃ob,Hf j=I ob/\EJ B.P w' β3 j ob)\/(Hf j=s2.H j/\ ∀z,AV.ptr j z 0 0 ∉ bc):=λj=>by
  by_cases hj:b1<=j/\j<b1+os1.length
  .exact .inl (f3.2 j hj.1 hj.2)
  .have e1:Hf j=H1 j:=f3.1 j J;rcases g1 j with h|⟨ob,h,h'⟩
   .by_cases hm:∃z,AV.ptr j z 0 0∈bc
    .obtain⟨z,hm⟩:=hm;obtain⟨ob,h3,h4⟩:=g3 j z hm;exact .inl ⟨ob,by rw[e1];exact h3,h4⟩
    .exact .inr ⟨e1.trans h,λz hz=>hm ⟨z,hz⟩⟩
   .exact .inl ⟨ob,by rw[e1];exact h,h'⟩
 have hHf:Hs B β3 Hf w':={
  EU:=λj ob hj=>by
   rcases aF6 j with⟨ob',h3,h4⟩|⟨h3,h4⟩
   .rw[h3]at hj;cases hj;exact h4
   .rw[h3]at hj;have hob:=h2.hs.EU j ob hj;have hex:∃p,β2 j=I p:=by
     cases ob with
     | box e cs=>obtain⟨_,_,h,_⟩:=hob;exact⟨_,h⟩
     | row e fz k xs=>obtain⟨_,h,_⟩:=hob;exact⟨_,h⟩
     | arr e k xs=>obtain⟨_,_,h,_⟩:=hob;exact⟨_,h⟩
    obtain⟨p,hp⟩:=hex;refine hob.mono (by rw[ai j p hp,hp]) hkp λp' a' hp' ha'=> ?_;rw[hp]at hp';cases hp';have hlt:=(h2.hs.old a'.block ⟨j,p.1,p.2,a',hp,ha',rfl⟩).2;refine Ij.block a'.block hlt λhm=> ?_;obtain⟨h5,h6⟩:=sU j p a' hp ha' hm;obtain⟨_,_,_,z,hz⟩:=sX j h5 h6;exact h4 z hz
  dom:=λj p hj=>by
   rcases aF6 j with⟨ob',h3,_⟩|⟨h3,_⟩
   .exact⟨ob',h3⟩
   .rcases Ve j p hj with⟨k1,k2,k3⟩|⟨_,hj⟩
    .by_cases hjb:j<b+nw.length
     .obtain⟨ob,k4,_⟩:=g2 j k1 hjb;have:Hf j=H1 j:=f3.1 j J;exact⟨ob,by rw[this];exact k4⟩
     .obtain⟨ob,k4,_⟩:=f3.2 j J J;exact⟨ob,k4⟩
    .obtain⟨ob,k4⟩:=h2.hs.dom j p hj;exact⟨ob,by rw[h3];exact k4⟩
  inj:=λi j p p' a1 a2 hi hj ha1 ha2 hb=>by
   have Vh:∀(i j:Nat) (p p':Value×Nat) (a1 a2:Addr),β2 i=I p->os'[j - b]? =I p'->adr p.1=I a1->adr p'.1=I a2->a1.block=a2.block->False:=by
    intro i j p p' a1 a2 hi hj ha1 ha2 hb;have hm2:a2.block∈B3 os':=Gh.2 ⟨p',Cu hj,by simp[HU,ha2]⟩;rcases(hbl a2.block<|Vd _ hm2).1 with h3|h3
    .rw[← hb]at h3;obtain⟨h5,h6⟩:=sU i p a1 hi ha1 h3;obtain⟨v,hv1,hv2,_⟩:=sX i h5 h6;rw[(aj i p hi).1]at hv2;cases hv2;have hm1:a1.block∈B3 (bv.map λv=>(v,1)):=Gh.2 ⟨_,hv1,by simp[HU,ha1]⟩;exact(Jo.1 an).2.2 _ hm2 _ hm1 hb.symm
    .have:=(h2.hs.old a1.block ⟨i,p.1,p.2,a1,hi,ha1,rfl⟩).2;omega
   rcases Ve i p hi with⟨i1,i2,i3⟩|⟨_,i3⟩<;>rcases Ve j p' hj with⟨j1,j2,j3⟩|⟨_,j3⟩
   .have:=aB al0 (i - b) (j - b) p p' a1 a2 i3 j3 ha1 ha2 hb;omega
   .exact(Vh j i p' p a2 a1 j3 i3 ha2 ha1 hb.symm).elim
   .exact(Vh i j p p' a1 a2 i3 j3 ha1 ha2 hb).elim
   .exact h2.hs.inj i j p p' a1 a2 i3 j3 ha1 ha2 hb
  old:=λbl hm=>by
   rcases sf bl hm with h|h
   .exact⟨(h2.hs.old bl h).1,HA (h2.hs.old bl h).2 Ij.size⟩
   .have h3:=hbl bl<|Vd bl h;refine⟨?_,h3.2⟩;obtain h4|h4:=h3.1
    .exact(hst.hs.old bl<|dN bl h4).1
    .exact .inr (Ce hst.hs.size h4)
  os:=Ij.wos.trans hst.hs.os
  tape:=Ij.tape.trans hst.hs.tape
  output:=Ij.output.trans hst.hs.output
  size:=Ce hst.hs.size Ij.size
  block:=λbl hlt hO=>by
   rw[Ij.block bl (HA hlt hst.hs.size) λhm=> ?_]
   .exact hst.hs.block bl hlt hO
   .rcases(hst.hs.old bl<|dN bl hm).1 with h|h
    .exact hO h
    .omega
  z:=rfl
  zn:=λj p a' hj ha hz=>by
   rcases Ve j p hj with⟨_,_,j3⟩|⟨_,j3⟩
   .have hm2:a'.block∈B3 os':=Gh.2 ⟨p,Cu j3,by simp[HU,ha]⟩;rcases(hbl a'.block<|Vd _ hm2).1 with h3|h3
    .rw[GN]at h3;obtain⟨i,hi,p2,a2,hp2,ha2,e2⟩:=NT h3;exact hst.hs.zn i p2 a2 hp2 ha2 (by rw[e2,hst.hs.z];exact hz)
    .have:=hst.hs.zl a'.block (by rw[hst.hs.z];exact hz);omega
   .exact hst.hs.zn j p a' (aj j p j3).1 ha (by rw[hst.hs.z];exact hz)
  zl:=λbl hz=>HA (hst.hs.zl bl (by rw[hst.hs.z];exact hz)) Ij.size
  pk:=hst.hs.pk.trans Ij.pk }
 have oP:St B β3 stk { s2 with H:=Hf } a w':=by
  refine⟨λt=>RT.mono hkp<|h2.T t,⟨h2.stack.1,λi T tm k1 k2 t=>RT.mono hkp<|h2.stack.2 i T tm k1 k2 t⟩,h2.n,h2.defers,h2.pins,h2.gs,hHf⟩
 have Es:({ s2 with H:=Hf } :S).has d=U:=by
  have:({ s2 with H:=Hf } :S).has d=s.has d:=RR (HE.1.trans sG.1) (HE.2.1.trans sG.2.1) (HE.2.2.trans sG.2.2) d;rw[this];exact hd
 exact hK β3 (My vs) w'<|RI oP Es<|aaO f1
end
end Go.VS
namespace Go.VS
open Go
section
variable {B:Bg} {β β':Beta} {H:Hp} {w w':World} {stk:List (Array Value)} {s s':S} {a:Act} {P:Program} {C:Cx}
def oF(hΓ:∀f d m,C.Γ f d=I m->H5 P f m/\okQ P m=U)(B:Bg)(hB:B.P=P):Hn C B:=by
 intro f d m hm β stk s a w b as s' o ts K Q hst hfr hd he hod ho hK;obtain⟨h1,h2⟩:=hΓ f d m hm;rw[← hB]at h1 h2;exact axe h1 h2 hst hfr hd he hod ho hK
def aIH{c:AV}(h:plB c=U):(∀g w v,c≠ .gd g w v)/\ ∀vs,c≠ .tup vs:=by
 constructor
 .rintro g w v rfl;cases h
 .rintro vs rfl;cases h
def aIs(hP:C.P=B.P)(hm:B.P.follows .mixedOrders=U)(hC:Hn C B):∀n,JZ C B<|O0 C n
 | 0=>aHk C B
 | n+1=>by
  intro Ω f d as s k q he β stk a w o args ts K Q hst hfr hd hod has ho hK;have ih:=aIs hP hm hC n;unfold O0 at he;simp only at he;split at he
  .cases he
  rename_i fn hfn;split at he
  case h_2=>cases he
  rename_i body aEZ Ks;split at he
  case h_2=>cases he
  rename_i aEY;simp only[AG]at aEY;obtain⟨⟨hc1,hc2⟩,hc3⟩:=aEY;have hpl:∀c∈as,(∀g w v,c≠ .gd g w v)/\ ∀vs,c≠ .tup vs:=λc hc=>aIH<|Cb.1 hc3 c hc;have hlen:as.length<=fn.ntmps:=Di hc2;rw[hP]at hfn;refine aH2 (Ow hfn (by simpa using Ks) aEZ) ho (R:=λen w'=>∃v,en= .returned v/\K (a.put o.dst v) w') ?_ (λen w' h=>h);refine calls_of_wp hfn aEZ ?_;have Gq:(args.map a.eval).length=as.length:=by rw[has];simp
  have alv:St B β (a.tmps::stk) { s with n:=fn.ntmps,T:=λt=>(as[t]?).getD Dx,st:=s.T::s.st,pins:=[],gs:=λ_=>A3 }
    { tmps:=(args.map a.eval).toArray++Rk (fn.ntmps - (args.map a.eval).toArray.size) undef,defers:=[] } w:=by
   refine⟨λt=> ?_,⟨by simp[hst.stack.1],λi T tm h1 h2 t=> ?_⟩, ?_,rfl,λt ht=>by simp at ht,λt g want y hy=> ?_,hst.hs⟩
   .rw[Tj];show RT w β _ ((as[t]?).getD Dx) _;cases hv:as[t]? with
    | none=>
     have:(args.map a.eval).length<=t:=by rw[Gq];exact bC.1 hv
     have e0:ar (args.map a.eval) t=undef:=by simp only[ar,BC,Hz this];rfl
     rw[e0];exact(show R2 w β Dx undef from rfl)
    | some c=>
     have hv':=hv;rw[has,DK]at hv';obtain⟨x,hx,rfl⟩:=DJ.1 hv';have e0:ar (args.map a.eval) t=a.eval x:=by simp[ar,hx]
     rw[e0];have hp:=hpl _<|Cu hv;exact((hst.eval x).N3 hp.1 hp.2).au
   .cases i with
    | zero=>
     simp at h1 h2;subst h1;subst h2;exact hst.T t
    | succ i=>exact hst.stack.2 i T tm (by simpa using h1) (by simpa using h2) t
   .simp only[S2,Le,pT];omega
   .have hy:(as[t]?).getD Dx= .gd g want y:=hy;cases hv:as[t]? with
    | none=>rw[hv]at hy;cases hy
    | some c=>
     rw[hv]at hy;exact absurd hy<|(hpl c<|Cu hv).1 _ _ _
  have key:∀β' a' w' s',St B β' (a.tmps::stk) s' a' w'->Fr s'->(match s'.st,RG C.P s' fn.results.toList with
     | T::st,I vs=>match vs.all plB with
      | true=>k ({ s' with n:=s.n,T:=λt=>Q0<|T t,st:=st,pins:=s.pins,gs:=λ_=>A3 }.put d<|Mb vs)
      | false=>A0
     | _,_=>A0)=I q->a'.defers=[]/\ ∃v,(results fn a'.tmps).run B.P w'= .ok v w'/\ ∃v',Ending.returned v= .returned v'/\K (a.put o.dst v') w':=by
   intro β' a' w' s' h1 h2 h3;refine⟨h1.defers, ?_⟩;split at h3
   case h_2=>cases h3
   rename_i T st vs N4 hvs;split at h3
   case h_2=>cases h3
   rename_i EI;obtain⟨us,k1,k2,k3⟩:=Zs hP h1 fn.results.toList hvs;rw[hP]at k1;refine⟨My us,aE3 k1,My us,rfl, ?_⟩;rw[hod];have rl:RL (R1 w' β') vs us:=⟨k2,λj c u e1 e2=>by
    have hp:=aIH<|Cb.1 EI c<|Cu e1;exact(k3 j c u e1 e2).N3 hp.1 hp.2⟩
   have Re:=h1.stack;rw[N4]at Re;have hTt:∀t,RT w' β' (Be a) (T t) (Be a t):=λt=>Re.2 0 T a.tmps rfl rfl t;have alu:St B β' stk { s' with n:=s.n,T:=λt=>Q0<|T t,st:=st,pins:=s.pins,gs:=λ_=>A3 } a w':=by
    refine⟨λt=> ?_,⟨by simpa using Re.1,λi T' tm e1 e2 t=>Re.2 (i+1) T' tm (by simpa using e1) (by simpa using e2) t⟩,hst.n,hst.defers,hst.pins,λt g want y hy=> ?_,h1.hs⟩
    .have:=hTt t;show RT w' β' _ (Q0<|T t) _;cases hT:T t<;>rw[hT]at this<;>first|exact this|trivial
    .have hy:Q0 (T t)= .gd g want y:=hy;unfold Q0 at hy;split at hy
     .cases hy
     .rename_i hn;exact absurd hy<|hn _ _ _
   have Es:({ s' with n:=s.n,T:=λt=>Q0<|T t,st:=st,pins:=s.pins,gs:=λ_=>A3 } :S).has d=U:=by
    cases d with
    | none=>rfl
    | some d=>
     simp only[S.has,AG,C1]at hd ⊢;exact⟨hd.1,trivial⟩
   refine hK β' (My us) w' _ (RI alu Es<|aaO rl) (λj hj=> ?_) ?_ ?_ h3
   .have hj:s'.nid<=j:=by cases d<;>exact hj
    have:=h2 j hj;cases d<;>exact this
   .cases d<;>rfl
   .cases d<;>rfl
  refine ZQ hP hm hC ih body .nil _ _ q he alv hfr (GS _ body) ⟨?_, ?_, ?_⟩
  .exact λβ' a' w' s' h1 h2 _ _ h5=>key β' a' w' s' h1 h2 h5
  .exact λβ' a' w' s' h1 h2 _ _ h5=>key β' a' w' s' h1 h2 h5
  .intro id β' a' w' s' h1 h2 h3 h4 h5;cases h5
end
def Bm{A R:Type}(t:(A->Option R)->A->Option R):Nat->A->Option R
 | 0=>λ_=>A0
 | n+1=>t (Bm t n)
open Classical in
def OA {A R:Type} (t:(A->Option R)->A->Option R) (x:A):Option R:=
 if h:∃n r,Bm t n x=I r then I (Nt<|J9 h) else A0
def aGl{A R:Type}{t:(A->Option R)->A->Option R}{x:A}{r:R}(h:OA t x=I r):∃n,Bm t n x=I r:=by
 unfold OA at h;split at h
 .rename_i hn;have:=J9<|J9 hn;cases h;exact⟨_,this⟩
 .cases h
def ate{P:Program}{f:FuncId}{ps rs:List Sh}{t:(LTs ps->Option (LTs rs×LTs (B6 ps)))->LTs ps->Option (LTs rs×LTs (B6 ps))}(he:Ma P f)
  (h:∀g,H5 P f ⟨ps,rs,g⟩->H5 P f ⟨ps,rs,t g⟩):H5 P f ⟨ps,rs,OA t⟩:=by
 have hn:∀n,H5 P f ⟨ps,rs,Bm t n⟩:=by
  intro n
  induction n with
  | zero=>exact⟨he,λx r hx=>by cases hx⟩
  | succ n ih=>exact h _ ih
 refine⟨he,λx r hx=> ?_⟩;obtain⟨n,hx⟩:=aGl hx;intro w Z args os h1 h2 h3 h4 h5;exact Ms ((hn n).2 x r hx w Z args os h1 h2 h3 h4 h5) λen w' ⟨v,e,hr⟩=>⟨v,e,⟨hr.ex,hr.wos,hr.tape,hr.output,hr.size,hr.block,hr.pk⟩⟩
end Go.VS
namespace Go.VS
open Go
def gam:List (Nat×Option Nat×Dd)->Nat->Option Nat->Option Dd
 | [],_,_=>A0
 | (f,e,m)::l,g,d=>match Al f g&&(match e,d with
   | none,_=>U
   | some a,I b=>Al a b
   | some _,A0=>A3) with
  | true=>I m
  | false=>gam l g d
def SF(P:Program)(l:List (Nat×Option Nat×Dd)):Prop:=∀e∈l,H5 P e.1 e.2.2/\okQ P e.2.2=U
def AL{P:Program}:SF P []:=λe h=>by cases h
def rJ{P:Program}{l:List (Nat×Option Nat×Dd)}(h:SF P l):∀f d m,gam l f d=I m->H5 P f m/\okQ P m=U:=by
 induction l with
 | nil=>intro f d m hm;cases hm
 | cons e l ih=>
  obtain⟨g,e,m'⟩:=e;intro f d m hm;unfold gam at hm;split at hm
  .rename_i hc;simp only[AG]at hc;cases hm;obtain rfl:=Bq hc.1;exact h _ Av
  .exact ih (λe he=>h e<|An _ he) f d m hm
def GB:Code->Adv->List (Code×Loop)
 | .seq a b,.join _ u v=>GB a u++GB b v
 | .seq a b,.two u v=>GB a u++GB b v
 | .seq a _,.one u=>GB a u
 | .cond _ x _,.one u=>GB x u
 | .cond _ x y,.two u v=>GB x u++GB y v
 | .cond _ x y,.join _ u v=>GB x u++GB y v
 | .block _ c,.one u=>GB c u
 | .block _ c,.two u _=>GB c u
 | .block _ c,.join _ u _=>GB c u
 | .loop c,.loop l=>[(c,l)]
 | _,_=>[]
def Ip{L:Code->Loop->Prop}:∀(c:Code) (v:Adv),(∀p∈GB c v,L p.1 p.2)->Hw L c v
 | .seq a b,.join _ u v,h=>⟨Ip a u λp hp=>h p<|By _ hp,Ip b v λp hp=>h p<|CU _ hp⟩
 | .seq a b,.two u v,h=>⟨Ip a u λp hp=>h p<|By _ hp,Ip b v λp hp=>h p<|CU _ hp⟩
 | .seq a b,.one u,h=>⟨Ip a u h,GS L b⟩
 | .seq a b,.nil,_=>⟨GS L a,GS L b⟩
 | .seq a b,.loop _,_=>⟨GS L a,GS L b⟩
 | .cond _ x y,.one u,h=>⟨Ip x u h,GS L y⟩
 | .cond _ x y,.two u v,h=>⟨Ip x u λp hp=>h p<|By _ hp,Ip y v λp hp=>h p<|CU _ hp⟩
 | .cond _ x y,.join _ u v,h=>⟨Ip x u λp hp=>h p<|By _ hp,Ip y v λp hp=>h p<|CU _ hp⟩
 | .cond _ x y,.nil,_=>⟨GS L x,GS L y⟩
 | .cond _ x y,.loop _,_=>⟨GS L x,GS L y⟩
 | .block _ c,.one u,h=>Ip c u h
 | .block _ c,.two u _,h=>Ip c u h
 | .block _ c,.join _ u _,h=>Ip c u h
 | .block _ c,.nil,_=>GS L c
 | .block _ c,.loop _,_=>GS L c
 | .loop c,.loop l,h=>h (c,l) (by simp[GB])
 | .loop _,.nil,_=>trivial
 | .loop _,.one _,_=>trivial
 | .loop _,.two _ _,_=>trivial
 | .loop _,.join _ _ _,_=>trivial
 | .skip,_,_=>trivial
 | .region _ _ _,_,_=>trivial
 | .exit _,_,_=>trivial
 | .ret,_,_=>trivial
 | .rangeFunc _ _ _ _,_,_=>trivial
 | .scope _,_,_=>trivial
 | .label _,_,_=>trivial
 | .goto _,_,_=>trivial
 | .refuse _,_,_=>trivial
def VW(L:Code->Loop->Prop)(l:List (Code×Loop)):Prop:=∀p∈l,L p.1 p.2
def aIT{L:Code->Loop->Prop}{c:Code}{v:Adv}{l:List (Code×Loop)}(h:GB c v=l)(hl:VW L l):Hw L c v:=Ip c v (by rw[h];exact hl)
def azD{L:Code->Loop->Prop}:VW L []:=λp h=>by cases h
def azE{L:Code->Loop->Prop}{c:Code}{v:Loop}{l:List (Code×Loop)}(h:L c v)(hl:VW L l):VW L ((c,v)::l):=λp hp=>by
 rcases Bo.1 hp with rfl|hp
 .exact h
 .exact hl p hp
abbrev Ent:=Nat×Option Nat×Dd
def SQ(P:Program)(e:Ent):Prop:=H5 P e.1 e.2.2/\okQ P e.2.2=U
def gC{P:Program}{e:Ent}{l:List Ent}(h:SQ P e)(hl:SF P l):SF P (e::l):=λx hx=>by
 rcases Bo.1 hx with rfl|hx
 .exact h
 .exact hl x hx
def inR:List (Nat×Nat)->Nat->Bool
 | [],_=>A3
 | (a,b)::l,n=>match E9 a n&&E9 n b with
  | true=>U
  | false=>inR l n
structure OKC (P:Program) (C:Cx) (inl:(Ω:Type)->Inl Ω):Prop where
 p:C.P=P
 m:P.follows .mixedOrders=U
 c:∀B:Bg,B.P=P->Hn C B
 i:∀B:Bg,B.P=P->JZ C B inl
def okc{P:Program}{kd:TypeId->Option K}{l:List Ent}{cz sp:Nat->Bool}(hm:P.follows .mixedOrders=U)(h:SF P l):OKC P ⟨P,kd,gam l,cz,sp⟩ AI:=
 ⟨rfl,hm,λB hB=>oF (C:=⟨P,kd,gam l,cz,sp⟩) (rJ h) B hB,λB _=>aHk _ B⟩
def abP{P:Program}{kd:TypeId->Option K}{l:List Ent}{cz sp:Nat->Bool}(n:Nat)(hm:P.follows .mixedOrders=U)(h:SF P l):OKC P ⟨P,kd,gam l,cz,sp⟩ (O0 ⟨P,kd,gam l,cz,sp⟩ n):=
 ⟨rfl,hm,λB hB=>oF (C:=⟨P,kd,gam l,cz,sp⟩) (rJ h) B hB,λB hB=>aIs (C:=⟨P,kd,gam l,cz,sp⟩) (B:=B) hB.symm (by rw[hB];exact hm) (oF (C:=⟨P,kd,gam l,cz,sp⟩) (rJ h) B hB) n⟩
def LpK(P:Program)(n:Nat)(pins:List Nat)(ls:List (Code×Loop)):Prop:=∀B:Bg,B.P=P->VW (Na B n pins) ls
def kN{P:Program}{n:Nat}{pins:List Nat}:LpK P n pins []:=λ_ _=>azD
def kC{P:Program}{n:Nat}{pins:List Nat}{c:Code}{l:Loop}{ls:List (Code×Loop)}(h:LpK P n pins [(c,l)])(hl:LpK P n pins ls):LpK P n pins ((c,l)::ls):=λB hB=>azE (h B hB (c,l) Av)<|hl B hB
def lk{P:Program}{C:Cx}{inl:(Ω:Type)->Inl Ω}(hC:OKC P C inl){n:Nat}{pins:List Nat}{body:Code}{v:Adv}{l:Loop}{b:Lv l.sch->Option (Lv l.sch ⊕ (Lv l.L4 ⊕ Lv l.L5))}{ls:List (Code×Loop)}
  (hb:∀x,evL C inl n pins body v l x=b x)(hr:l.run=AW b)(h:GB body v=ls)(hl:LpK P n pins ls):LpK P n pins [(body,l)]:=λB hB p hp=>by
 obtain rfl:=CA.1 hp;exact ax0 (hC.p.trans hB.symm) (by rw[hB];exact hC.m) (hC.c B hB) (hC.i B hB) hb hr<|aIT h<|hl B hB
def fnB(P:Program)(f:Nat)(fn:Func)(m:Dd):Option Func×Bool×Bool×Bool:=(P.funcs[f]?, fn.name == "runtime.NumGoroutine",okM m fn.ntmps,okQ P m)
def so{P:Program}{C:Cx}{inl:(Ω:Type)->Inl Ω}{f:Nat}{d:Option Nat}{fn:Func}{m:Dd}{v:Adv}{ls:List (Code×Loop)}(hC:OKC P C inl)
  (hf:fnB P f fn m=(I fn,A3,U,U))(hb:fn.body=I (LZ fn))(h:GB (LZ fn) v=ls)(hl:LpK P fn.ntmps (EC 0 m.ps) ls)(hg:∀x,cw C inl fn v m x=m.g x):SQ P (f,d,m):=by
 simp only[fnB,CX]at hf;exact⟨avJ hC.p hC.m hC.c hC.i hf.1 hf.2.1 hb hf.2.2.1 (λB hB=>aIT h<|hl B hB) hg,hf.2.2.2⟩
def soR{P:Program}{f:Nat}{d:Option Nat}{ps rs:List Sh}{t:(LTs ps->Option (LTs rs×LTs (B6 ps)))->LTs ps->Option (LTs rs×LTs (B6 ps))}(he:Ma P f)
  (hq:∀g,okQ P ⟨ps,rs,g⟩=U)(h:∀g,SQ P (f,d,⟨ps,rs,g⟩)->SQ P (f,d,⟨ps,rs,t g⟩)):SQ P (f,d,⟨ps,rs,OA t⟩):=
 ⟨ate he λg hg=>(h g ⟨hg,hq g⟩).1,hq _⟩
def Mz(a b c d:Int)(e:A4)(a' b' c' d':Int)(e':A4):Bool:=A1 (a=a')&&(A1 (b=b')&&(A1 (c=c')&&(A1 (d=d')&&(A1 (e=e')&&U))))
end Go.VS
end
