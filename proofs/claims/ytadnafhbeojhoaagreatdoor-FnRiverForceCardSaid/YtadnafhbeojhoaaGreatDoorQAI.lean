/- Part 9. -/
import Derived.Tactics
import Derived.Test.YtadnafhbeojhoaaGreatDoorQAH
open Array renaming getD_eq_getD_getElem?->TH,getElem?_append_left->MQ,getElem?_eq_some_iff->HV,getElem?_toList->UA,length_toList->F4,replicate->Ra,size_append->Pz,size_replicate->ru
open Bool renaming and_eq_true->AI,false->A3,false_eq_true->Hh,not_eq_true'->DR,not_eq_true->Ha,or_eq_false_iff->RW,or_eq_true->Ci,true->A1
open Classical renaming choose->NT,choose_spec->It
open Decidable renaming decide->A0
open Go.Calls renaming mono->Lp
open Go.Code renaming region->QX
open Go.Instr renaming loadAt->Mx,sureAddr->JO
open Go.Region renaming wanted->Jh
open Go.Result renaming andThen_ok->Er
open Go.Sem renaming run_bind->El,run_pure->Fl
open Go.Value renaming pointer->NO
open Go.World renaming cell?_of_block->UO
open List renaming all_cons->Ph,all_eq_true->Cr,any_eq_true->I5,append_assoc->C7,append_nil->CH,cons_append->L4,drop_eq_getElem_cons->VB,drop_eq_nil_of_le->KR,drop_zero->J0,eq_nil_of_length_eq_zero->EE,filterMap_append->Md,filterMap_cons->jf,getD_eq_getElem?_getD->BD,getElem?_append_left->G0,getElem?_append_right->EC,getElem?_eq_none->I7,getElem?_eq_none_iff->XW,getElem?_eq_some_iff->BP,getElem?_map->DE,getElem?_of_mem->uE,length_append->Ar,length_cons->Bw,mapM_cons->WO,map_append->Ev,map_congr_left->Gz,map_cons->DW,mem_append->Br,mem_append_left->CE,mem_append_right->Cy,mem_cons->Bk,mem_cons_of_mem->Al,mem_cons_self->Ap,mem_filterMap->GZ,mem_map->DP,mem_of_getElem?->Cg,mem_range->DV,mem_singleton->DB,nodup_append->L7,nodup_cons->Lc,pairwise_cons->Og,pairwise_lt_range->S4,range->BN,range_succ->L5,reverse_reverse->pg,size_toArray->Kn,sublist_append_right->ZV
open List.Perm renaming append_left->dD
open List.Sublist renaming refl->Em
open List.cons renaming injEq->MC
open Nat renaming add_assoc->DH,add_comm->N5,add_mul->EP,beq->Aj,beq_eq->HU,ble->E0,le_add_right->ca,le_of_ble_eq_true->DQ,le_refl->As,le_trans->CB,lor->BO,lt_of_lt_of_le->Gw,mul_le_mul_right->E6,ne_of_lt->P4,sub_zero->JM,zero_add->DJ,zero_le->Cw,zero_mul->SE
open Option renaming bind_eq_some_iff->An,bind_some->A9,map_eq_some_iff->DL,none->U,some->I
open Option.some renaming inj->EI
open Prod.mk renaming injEq->CM
set_option linter.all false
noncomputable section
namespace Go.VS
open Go
section
variable {C:Cx} {B:Be} {ops:Array Oper} {stk:List (Array Value)} {s s' s0:S} {b b0:Nat} {Ω:Type} {q:Ω}
def aln{m:Da}{d:Option Nat}{as:List AV}{k:S->Option Ω}:Hb m s b d as k=(Hb m s b d as I).bind k:=by
 unfold Hb;simp only;split
 .rename_i x hx hn;cases m.g x with
  | none=>rfl
  | some r=>
   simp only[A9];split
   .rfl
   .rfl
 .rfl
def UJ{r:PR}{f:AV->List Ob->S}{k:S->Option Ω}:(match r with
   | some (q,v,os)=>if q then k (f v os) else U
   | none=>U)=(match r with
   | some (q,v,os)=>if q then I (f v os) else U
   | none=>U).bind k:=by
 cases r with
 | none=>rfl
 | some r=>obtain⟨q,v,os⟩:=r;cases q<;>rfl
def aCx{o:Oper}{k:S->Option Ω}(inl:Inl Ω)(hi:∀f c,o.op= .call c->c.callee= .value (.func f)->C.Γ f o.dst=U->∀d as s k,inl f d as s k=U):
  CI C inl o b s k=(CI C (AF S) o b s I).bind k:=by
 unfold CI;split
 .rfl
 generalize ho:o.op=op at *;cases op
 case store t p x=>
  simp only;split<;>rfl
 case call c=>
  simp only;split
  .rename_i f hf;split
   .exact aln
   .rename_i hm;rw[hi f c rfl hf hm];rfl
  .split
   .split<;>rfl
   .rfl
  .split<;>rfl
  .first|rfl|exact UJ (k:=k) (f:=λv os=>({ s with H:=Ei s.H b os } :S).put o.dst v)
 case slice t x lo hi mx=>
  cases mx with
  | some m=>
   simp only
   first|rfl|exact UJ (k:=k) (f:=λv os=>({ s with H:=Ei s.H b os } :S).put o.dst v)
  | none=>
   simp only;split
   .split
    .rfl
    .split
     .split<;>rfl
     .rfl
   .first|rfl|exact UJ (k:=k) (f:=λv os=>({ s with H:=Ei s.H b os } :S).put o.dst v)
 case buildSlice t n ps=>
  simp only;generalize (LG s.ev ps.toList).foldl S.freeze s=s3;exact UJ (k:=k) (f:=λv os=>({ s3 with H:=Ei s3.H b os } :S).put o.dst v)
 all_goals (simp only;first|rfl|exact UJ (k:=k) (f:=λv os=>({ s with H:=Ei s.H b os } :S).put o.dst v))
def apA{o:Oper}{k:S->Option Ω}:evG C (Wp Ω) ops o b s k=(ev1 C ops o b s).bind k:=by
 have h:∀b s,∀k:S->Option Ω,CI C (Wp Ω) o b s k=(CI C (AF S) o b s I).bind k:=λb s k=>aCx _ λ_ _ _ _ _ _ _ _ _=>rfl;unfold ev1 evG;split
 .exact h _ _ _
 .split
  .rfl
  .split
   .split
    .split<;>rfl
    .rfl
   .rfl
  .split
   .rename_i c _;simp only[h];cases hh:s.has o.dst<;>(split<;>split<;>rfl)
   .split<;>rfl
   .rfl
def Yo(C:Cx)(ops:Array Oper):List Rec->S->S->Prop
 | [],s,s'=>s=s'
 | r::l,s,s'=>∃s1,ev1 C ops r.o r.b s=I s1/\((Dv C s r.o=U->r.W=r.F/\ ∀i∈JH C s r.o,Mm r.K i)/\(∀l,Dv C s r.o=I l->∀i∈l,Mm r.W i/\Mm r.K i)/\ ∀id,Mm (nm r.b) id->Mm r.K id)/\vOf s1 r.o.dst=I r.V/\Yo C ops l s1 s'
def gU{k:S->Option Ω}:∀(l:List Oper) (i b:Nat) (acc:List Rec) (s:S),evD C ops s0 l i b acc s k=I q->CX C ops s0 b0 acc->i=acc.length->b=b0+16 * i->(∀j,l[j]? =ops[i+j]?)->
  ∃rs s',Yo C ops rs s s'/\CX C ops s0 b0 (rs.reverse++acc)/\rs.length=l.length/\k { s' with nid:=b0+16 * (i+l.length) } =I q
 | [],i,b,acc,s,h,hg,hi,hb,hl=>⟨[],s,rfl,hg,rfl,by
   have h:k { s with nid:=b } =I q:=h;rw[hb]at h;exact h⟩
 | o::l,i,b,acc,s,h,hg,hi,hb,hl=>by
  unfold evD at h;split at h
  .cases h
  rename_i r hr;split at h
  .rename_i hc;rw[apA]at h;obtain⟨s1,h1,h⟩:=An.1 h;obtain⟨V,hV,h⟩:=An.1 h;simp only[AI,Cr]at hc;unfold uA at hr;obtain⟨anc,ha,hr⟩:=An.1 hr;obtain⟨ids,OF,hr⟩:=An.1 hr;obtain⟨c,hcl,hr⟩:=An.1 hr;simp only at hr;split at hr
   case h_2=>cases hr
   rename_i aiS;have hr:=(EI hr).symm;have ho:ops[i]? =I o:=by simpa using (hl 0).symm
   have hg':CX C ops s0 b0 ({ r with V:=V } ::acc):=by
    refine⟨hg, ?_, ?_, ?_, ?_,⟨ids,c, ?_,hcl, ?_⟩, ?_,λx hx=>hc.1.1 x hx, ?_, ?_⟩<;>rw[hr]
    .exact hi
    .show b=_;rw[hb,hi]
    .exact ho
    .exact ha
    .exact OF
    .have gen:∀F0:Nat,(mvO o=A3/\(match mvO o with
       | true=>BO (msk ids) (nm b)
       | false=>F0)=F0/\(((match mvO o with
       | true=>nm b
       | false=>match pur o,o.guard with
        | true,U=>BO (msk ids) (nm b)
        | _,_=>(match mvO o with
         | true=>BO (msk ids) (nm b)
         | false=>F0))=BO (msk ids) (nm b)/\pur o=A1/\o.guard=U)\/(match mvO o with
       | true=>nm b
       | false=>match pur o,o.guard with
        | true,U=>BO (msk ids) (nm b)
        | _,_=>(match mvO o with
         | true=>BO (msk ids) (nm b)
         | false=>F0))=(match mvO o with
       | true=>BO (msk ids) (nm b)
       | false=>F0)))\/(mvO o=A1/\(match mvO o with
       | true=>BO (msk ids) (nm b)
       | false=>F0)=BO (msk ids) (nm b)/\(match mvO o with
       | true=>nm b
       | false=>match pur o,o.guard with
        | true,U=>BO (msk ids) (nm b)
        | _,_=>(match mvO o with
         | true=>BO (msk ids) (nm b)
         | false=>F0))=nm b):=by
      intro F0;cases hmv:mvO o with
      | true=>exact .inr ⟨rfl,rfl,rfl⟩
      | false=>
       refine .inl ⟨rfl,rfl, ?_⟩;cases hpu:pur o with
       | false=>exact .inr rfl
       | true=>
        cases hgu:o.guard with
        | none=>exact .inl ⟨rfl,rfl,rfl⟩
        | some x=>exact .inr rfl
     exact gen _
    .refine⟨aiS,λid hid=> ?_⟩;show Mm (match Dv C s o with
      | none=>_
      | some l=>BO (msk l) (nm b)) id
     cases Dv C s o with
     | none=>
      show Mm (match mvO o with
       | true=>BO (msk ids) (nm b)
       | false=>_) id
      cases mvO o with
      | false=>
       refine UK _ _ id ?_;show(BO _ _).testBit id=A1;rw[EZ,show(nm b).testBit id=A1 from hid];simp
      | true=>
       show(BO _ _).testBit id=A1;rw[EZ,show(nm b).testBit id=A1 from hid];simp
     | some l=>
      show(BO _ _).testBit id=A1;rw[EZ,show(nm b).testBit id=A1 from hid];simp
    .exact hc.1.2
    .exact hc.2
   obtain⟨rs,s',k1,k2,k3,k4⟩:=gU l (i+1) (b+16) _ s1 h hg' (by simp[hi]) J (λj=>by
    have:=hl<|j+1;simpa[DH,N5 1 j] using this)
   refine⟨{ r with V:=V } ::rs,s',⟨s1, ?_, ?_, ?_,k1⟩, ?_,by simp[k3], ?_⟩
   .rw[hr];exact h1
   .rw[hr];refine⟨λhe=>⟨?_,λj hj=> ?_⟩,λl he j hj=> ?_,λid hid=> ?_⟩
    .have he:Dv C s o=U:=he;show(match Dv C s o with
      | none=>_
      | some l=>BO (msk l) (nm b))=_
     rw[he]
    .have he:Dv C s o=U:=he;show Mm (match Dv C s o with
      | none=>BO (msk<|JH C s o) (nm b)
      | some l=>BO (msk l) (nm b)) j
     rw[he];show(BO _ _).testBit j=A1;rw[EZ,Mb.2 hj];rfl
    .have he:Dv C s o=I l:=he;have key:Mm (BO (msk l)<|nm b) j:=by
      show(BO _ _).testBit j=A1;rw[EZ,Mb.2 hj];rfl
     constructor
     .show Mm (match Dv C s o with
       | none=>_
       | some l=>BO (msk l) (nm b)) j
      rw[he];exact key
     .show Mm (match Dv C s o with
       | none=>_
       | some l=>BO (msk l) (nm b)) j
      rw[he];exact key
    .show Mm (match Dv C s o with
      | none=>BO (msk<|JH C s o) (nm b)
      | some l=>BO (msk l) (nm b)) id
     have hid:(nm b).testBit id=A1:=hid;cases Dv C s o with
     | none=>
      show(BO _ _).testBit id=A1;rw[EZ,hid];simp
     | some l=>
      show(BO _ _).testBit id=A1;rw[EZ,hid];simp
   .rw[hr];exact hV
   .simpa using k2
   .rw[show i+(o::l).length=i+1+l.length by simp;omega];exact k4
  .cases h
def aEw{acc:List Rec}:∀ {ts l:List Nat},ck s0 acc ts=I l->∀t∈ts,∃a,(match Rk t acc with
  | some r=>I r.V
  | none=>U1 (s0.T t))=I a/\ ∀i∈a,i∈l
 | [],_,_,t,ht=>by cases ht
 | t0::ts,l,h,t,ht=>by
  obtain⟨a,h1,h⟩:=An.1 h;obtain⟨b,h2,h⟩:=An.1 h;cases h;rcases Bk.1 ht with rfl|ht
  .exact⟨a,h1,λi hi=>CE _ hi⟩
  .obtain⟨a',h3,h4⟩:=aEw h2 t ht;exact⟨a',h3,λi hi=>Cy _<|h4 i hi⟩
def CX.fit{acc:List Rec}(h:CX C ops s0 b0 acc)(hn:acc.length=ops.size)(hfr:∀j,b0<=j->s0.H j=U){i:Nat}:Fit ops (Bz acc b0) (BN ops.size) s0 i:=by
 intro o ho;obtain⟨r,hr,hi,rfl,fi⟩:=h.op hn ho;have e1:(Bz acc b0).F i=Mm r.F:=by funext id;simp only[Bz,fi]
 have e2:(Bz acc b0).N i=Mm r.N:=by funext id;simp only[Bz,fi]
 rw[e1,e2];have hNF:=h.N_F hr;refine⟨λt ht hd=> ?_,λid ob hid ho=> ?_,λid h1 _=>hfr id (by simp only[Bz]at h1;omega)⟩
 rotate_left
 .cases hmv:mvO r.o with
  | false=>exact h.closed hfr r hr hmv id ob (hNF id hid) ho
  | true=>
   exfalso;obtain⟨HW,hg,_⟩:=h.mem r hr;obtain⟨_,k1,k2,_,_,⟨l,c,h1,h2,h3⟩,_⟩:=hg;obtain h3|h3:=h3
   .rw[hmv]at h3;cases h3.1
   .rw[h3.2.2]at hid;have:=MW.1 hid;rw[hfr id J]at ho;cases ho
 obtain⟨HW,hg,Jd,_,hlt⟩:=h.mem r hr;obtain⟨_,_,_,_,_,⟨l,c,h1,h2,h3⟩,_⟩:=hg;obtain⟨a,h4,h5⟩:=aEw h1 t ht;cases hf:Rk t HW with
 | some r'=>
  obtain⟨hm,dE⟩:=aAo hf;have hm':=Jd r' hm;obtain⟨aFB,hg2,_⟩:=h.mem r' hm';have ho':=hg2.2.2.2.1;have hR:(Bz acc b0).R r'.i i:=by
   have X5:=hlt r' hm;have hc:=h.chk hm' hr J;simp only[VS.chk,AI]at hc;simp only[Bz,fi];cases hT:tst r.anc r'.i with
   | true=>exact sZ.1 hT
   | false=>
    rw[hT]at hc;obtain⟨_,hc⟩:=hc;simp only[AI]at hc;exact absurd ht<|Yp hc.1.2 t dE
  exact absurd dE<|hd r'.i (DV.2 (HV.1 ho').1) hR r'.o ho'
 | none=>
  rw[hf]at h4;obtain⟨_,h3,h6⟩|⟨hmv,h3,h6⟩:=h3
  .have acf:InA (Mm r.F) (s0.T t):=Xl h4 λj hj=>by
    rw[h3];refine UK _ _ j ?_;show(BO _ _).testBit j=A1;rw[EZ,(fQ 4 l h2).1 j<|h5 j hj];rfl
   refine⟨acf,.inr ?_⟩;obtain h6|h6:=h6
   .refine Xl h4 λj hj=> ?_;rw[h6.1];show(BO _ _).testBit j=A1;rw[EZ,Mb.2<|h5 j hj];rfl
   .rw[h6];exact acf
  .simp only[mvO,AI]at hmv;refine⟨Xl h4 λj hj=> ?_,.inl hmv.1.1⟩;rw[h3];show(BO _ _).testBit j=A1;rw[EZ,Mb.2<|h5 j hj];rfl
def lZ{acc:List Rec}(h:CX C ops s0 b0 acc)(hn:acc.length=ops.size):∀(rs:List Rec) (s s':S),Yo C ops rs s s'->(∀r∈rs,r∈acc)->(rs.map (·.i)).Pairwise (· < ·)->
  (∀r∈rs,Fit ops (Bz acc b0) (rs.map (·.i)) s r.i)->Run C ops (Bz acc b0) (rs.map (·.i)) s s'
 | [],s,s',hc,_,_,_=>by
  cases hc;exact .nil
 | r::rs,s,s',⟨s1,h1,h2,h3,h4⟩,hm,hp,hf=>by
  have hr:=hm r Ap;obtain⟨HW,hg,_⟩:=h.mem r hr;have ho:=hg.2.2.2.1;have hok:=hg.2.2.2.2.2.2.2.2.1;have hb:=(h.Mi hr).1;have hrb:r.i<acc.length:=h.lt r hr;have fi:=h.find r hr;have nice:=h.nice hn;obtain⟨f1,f2,f3⟩:=hf r Ap r.o ho;have eb:(Bz acc b0).b r.i=r.b:=hb.symm;have hp':=Og.1 hp;have ab2:∀t∈DF ops r.o,InA ((Bz acc b0).F r.i) (s.T t)/\(mov r.o.op=A1\/InA ((Bz acc b0).N r.i) (s.T t)):=λt ht=>f1 t ht λj hj hR oj hoj e=>by
   have hlt:=nice.lt _ _ hR;rcases Bk.1 hj with e'|hj
   .have e':j=r.i:=e';omega
   .have h9:r.i<j:=hp'.1 j hj;omega
  have hrd:=λt ht=>(ab2 t ht).1;obtain⟨h21,h22,h23⟩:=h2;have hKn:∀j,r.b<=j->j<r.b+16->(Bz acc b0).K r.i j:=λj k1 k2=>by
   simp only[Bz,fi];exact h23 j<|MW.2 ⟨k1,k2⟩
  have hWn:∀j,r.b<=j->j<r.b+16->(Bz acc b0).W r.i j:=λj k1 k2=>nice.NW r.i j (by rw[eb];exact k1) (by rw[eb];exact k2);have hWF:∀id,Mm r.W id->Mm r.F id:=λid hid=>Sl (h.Mi hr).2.2.1 id hid;have hKW:∀id∈JH C s r.o,Mm r.F id:=λid hid=>by
   obtain⟨_,_,_,_,_,⟨l,c,_,_,h3⟩,_⟩:=hg;have hop:∀x∈r.o.op.operands,InA ((Bz acc b0).F r.i) (s.ev x):=λx hx=>by
    cases x with
    | tmp t=>exact hrd t<|CE _<|Rj hx
    | const v=>exact dC v
    | _=>exact .of1 trivial
   have aby:pur r.o=A1->False:=λhp=>by
    unfold pur at hp;unfold JH at hid;cases ho2:r.o.op<;>rw[ho2]at hp hid<;>first|(cases hid;done)|(cases hp;done)
   obtain⟨_,_,h6|h6⟩|⟨hmv,_⟩:=h3
   .exact(aby h6.2.1).elim
   rotate_left
   .simp only[mvO,AI]at hmv;exact(aby hmv.1.2).elim
   .have hcl:DY ((Bz acc b0).F r.i) s.H:=λid ob hid ho=>f2 id ob (by simp only[Bz,fi]at hid ⊢; rw[h6];exact hid) ho;have:=aw2 hop hcl hid;simp only[Bz,fi]at this;exact this
  obtain⟨g,v,es,a1,a2,a3,a4,a5⟩:=axW (F:=(Bz acc b0).F r.i) (N:=(Bz acc b0).N r.i) (WS:=λe=>(Bz acc b0).W r.i e.id/\(e.fk= .no\/(Bz acc b0).K r.i e.id)) hok hrd f2
   (λj k1 k2=>nice.WF _ _<|hWn j k1 k2) (λe k1 k2=>⟨hWn _ k1 k2,.inr<|hKn _ k1 k2⟩)
   ⟨λhe=>⟨λe hF hfk=>⟨by
     simp only[Bz,fi]at hF ⊢;rw[(h21 he).1];exact hF,.inl hfk⟩,λe hk=>⟨by
     simp only[Bz,fi];rw[(h21 he).1];exact hKW _ hk,.inr (by simp only[Bz,fi];exact(h21 he).2 _ hk)⟩⟩,
    λl he e hl=>⟨by simp only[Bz,fi];exact(h22 l he _ hl).1,.inr (by simp only[Bz,fi];exact(h22 l he _ hl).2)⟩⟩
   (by
    obtain⟨_,_,_,_,_,⟨l,c,_,_,h3⟩,_⟩:=hg;obtain⟨_,_,h6|h6⟩|⟨hmv,_⟩:=h3
    .refine .inl ⟨h6.2.1,h6.2.2, ?_⟩;cases hmo:mov r.o.op with
     | true=>exact .inl rfl
     | false=>exact .inr λt ht=>(ab2 t ht).2.resolve_left λh=>by rw[hmo]at h;cases h
    rotate_left
    .simp only[mvO,AI]at hmv;exact .inl ⟨hmv.1.2,by simpa using hmv.2,.inl hmv.1.1⟩
    .refine .inr λid hid=> ?_;simp only[Bz,fi]at hid ⊢;rw[h6];exact hid) h1
  have hst:Stp C ops r.o ((Bz acc b0).b r.i) ((Bz acc b0).F r.i) ((Bz acc b0).N r.i) ((Bz acc b0).W r.i) ((Bz acc b0).K r.i) ((Bz acc b0).V r.i) s s1:=by
   rw[eb];refine⟨g,v,es,a1,λt ht=> ?_,a2,a3,a4,a5⟩;rw[ht]at h3;have:s1.T t=v:=by rw[a4,Ww,A8 ht]
   rw[← this];refine Xl (show U1 (s1.T t)=I r.V from h3) λj hj=> ?_;simp only[Bz,fi];exact hj
  refine .cons ho hst (lZ h hn rs s1 s' h4 (λx hx=>hm x<|Al _ hx) hp'.2 λx hx=> ?_);have hxi:r.i<x.i:=hp'.1 x.i<|DP.2 ⟨x,hx,rfl⟩;exact(hf x<|Al _ hx).step nice ho (P4 hxi) (λhR=>by have:=nice.lt _ _ hR;omega) hst λj hj=>by
   rcases Bk.1 hj with e|hj
   .exact .inl e
   .exact .inr hj
def kq:∀(rs:List Rec) (s s':S) (m:Nat),Yo C ops rs s s'->(∀r∈rs,r.b+16<=m)->BG (λj=>j<m) s s'
 | [],s,s',m,hc,_=>by cases hc;exact BG.refl _ _
 | r::rs,s,s',m,⟨s1,h1,_,_,h4⟩,hb=>by
  have k1:=aAQ h1;have hb1:=hb r Ap;have k1':BG (λj=>j<m) s s1:=⟨k1.nid,k1.n,k1.pins,λj hj e=>k1.nn j (λhh=>hj J) e⟩;exact k1'.trans<|kq rs s1 s' m h4 λx hx=>hb x<|Al _ hx
def CX.places:∀ {acc:List Rec},CX C ops s0 b0 acc->acc.reverse.map (·.i)=BN acc.length
 | [],_=>rfl
 | r::acc,h=>by
  rw[List.reverse_cons,Ev,CX.places h.1,Bw,L5];simp[h.2.1]
def aoX(hP:C.P=B.P)(hm:B.P.follows .mixedOrders=A1)(hC:H9 C B){k:S->Option Ω}(he:evD C ops s ops.toList 0 s.nid [] s k=I q)(hfr:Fr s){β:Beta}{a:Act}{w:World}(hst:St B β stk s a w)
  {id:Nat}{Q:Exit->Act->World->Prop}(hQ:∀β a w s',St B β stk s' a w->Fr s'->s'.n=s.n->s'.pins=s.pins->k s'=I q->Q .normal a w):(QX id ops A1).wp B.P Q a w:=by
 obtain⟨rs,s',h1,h2,h3,h4⟩:=gU (b0:=s.nid) ops.toList 0 s.nid [] s he trivial rfl rfl (by simp);simp only[CH,DJ]at h2 h4;have hn:rs.reverse.length=ops.size:=by simpa using h3
 have hpl:=h2.places;rw[pg,hn]at hpl;have Jc:∀j,Fit ops (Bz rs.reverse s.nid) (BN ops.size) s j:=λj=>h2.fit hn hfr;have Cf:=lZ h2 hn rs s s' h1 (λr hr=>by simpa using hr) (by rw[hpl];exact S4) (λr hr=>by rw[hpl];exact Jc _);rw[hpl]at Cf;have P6:BG (λj=>j<s.nid+16 * ops.toList.length) s s':=kq rs s s' _ h1 λr hr=>by
  have hr':r∈rs.reverse:=by simpa using hr
  have e1:=(h2.Mi hr').1;have e2:=h2.lt r hr';rw[hn]at e2;have:ops.toList.length=ops.size:=by simp
  omega
 refine au3 hP hm hC (h2.nice hn) Cf (λj _=>Jc j) hst λβ a w h=> ?_;refine hQ β a w { s' with nid:=s.nid+16 * ops.toList.length } ⟨h.T,h.stack,h.n,h.defers,h.pins,h.gs,h.hs⟩ (λj hj=> ?_) P6.n P6.pins h4;have hj:s.nid+16 * ops.toList.length<=j:=hj;exact P6.nn j J<|hfr j J
end
end Go.VS
namespace Go.VS
open Go
def JG(C:Cx)(B:Be)(inl:(Ω:Type)->Inl Ω):Prop:=∀(Ω:Type) (f:FuncId) (d:Option Nat) (as:List AV) (s:S) (k:S->Option Ω) (q:Ω),inl Ω f d as s k=I q->
 ∀(β:Beta) (stk:List (Array Value)) (a:Act) (w:World) (o:Oper) (args:List Operand) (ts:Array TypeId) (K:Act->World->Prop) (Q:Exit->Act->World->Prop),
 St B β stk s a w->Fr s->s.has d=A1->o.dst=d->as=args.map s.ev->o.op= .call { callee:= .value<|.func f,args:=args.toArray,argTypes:=ts } ->
 (∀β' u w' s',St B β' stk s' (a.put d u) w'->Fr s'->s'.n=s.n->s'.pins=s.pins->k s'=I q->K (a.put d u) w')->o.wp B.P a w K Q
def ab8(C:Cx)(B:Be):JG C B AF:=by
 intro Ω f d as s k q h;cases h
section
variable {C:Cx} {B:Be} {ops:Array Oper} {stk:List (Array Value)} {s s':S} {Ω:Type} {q:Ω} {β:Beta} {a:Act} {w:World} {inl:(Ω:Type)->Inl Ω}
def iE(C:Cx)(o:Oper):Prop:=∃f c,o.op= .call c/\c.callee= .value (.func f)/\C.Γ f o.dst=U
def aof{o:Oper}{b:Nat}{k:S->Option Ω}(hn:¬iE C o):evG C (inl Ω) ops o b s k=(ev1 C ops o b s).bind k:=by
 have h:∀b s,∀k:S->Option Ω,CI C (inl Ω) o b s k=(CI C (AF S) o b s I).bind k:=λb s k=>aCx _ λf c h1 h2 h3=>absurd ⟨f,c,h1,h2,h3⟩ hn;unfold ev1 evG;split
 .exact h _ _ _
 .split
  .rfl
  .split
   .split
    .split<;>rfl
    .rfl
   .rfl
  .split
   .rename_i c _;simp only[h];cases hh:s.has o.dst<;>(split<;>split<;>rfl)
   .split<;>rfl
   .rfl
def aEn(hI:JG C B inl){o:Oper}{b:Nat}{k:S->Option Ω}(hin:iE C o)(he:CI C (inl Ω) o b s k=I q)(hst:St B β stk s a w)(hfr:Fr s){K:Act->World->Prop}{Q:Exit->Act->World->Prop}
  (hK:∀β' u w' s',St B β' stk s' (a.put o.dst u) w'->Fr s'->s'.n=s.n->s'.pins=s.pins->k s'=I q->K (a.put o.dst u) w'):o.wp B.P a w K Q:=by
 obtain⟨f,c,h1,h2,h3⟩:=hin;obtain⟨cal,⟨args⟩,⟨tys⟩⟩:=c;simp only at h2;subst h2;unfold CI at he;split at he
 .cases he
 rename_i hd;simp only[h1,h3]at he;exact hI Ω f o.dst _ s k q he β stk a w o args ⟨tys⟩ K Q hst hfr hd rfl rfl h1 hK
def aAJ(hP:C.P=B.P)(hC:H9 C B)(hI:JG C B inl){i:Nat}{o:Oper}(hi:ops[i]? =I o){k:S->Option Ω}(he:evG C (inl Ω) ops o s.nid s k=I q)(hst:St B β stk s a w)(hfr:Fr s){K:Act->World->Prop}{Q:Exit->Act->World->Prop}
  (hK:∀β' u w' s',St B β' stk s' (a.put o.dst u) w'->(∀j,s'.nid+16<=j->s'.H j=U)->s'.n=s.n->s'.pins=s.pins->k s'=I q->K (a.put o.dst u) w'):wpOp B.P ops Q i K a w:=by
 by_cases hin:iE C o
 .have hK':∀s1:S,s1.n=s.n->s1.pins=s.pins->∀β' u w' s',St B β' stk s' (a.put o.dst u) w'->Fr s'->s'.n=s1.n->s'.pins=s1.pins->k s'=I q->K (a.put o.dst u) w':=
   λs1 e1 e2 β' u w' s' k1 k2 k3 k4 k5=>hK β' u w' s' k1 (λj hj=>k2 j J) (k3.trans e1) (k4.trans e2) k5
  unfold wpOp;simp only[hi];unfold evG at he;split at he
  .rename_i hg;have hw:Jh o (yielded ops a.tmps)=A1:=by simp[Jh,hg]
   rw[A8 hw];exact .inl (aEn hI hin he hst hfr<|hK' s rfl rfl)
  .rename_i j want hg;have hwd:Jh o (yielded ops a.tmps)=(yielded ops a.tmps j == I want):=by simp[Jh,hg]
   rw[hwd];split at he
   .cases he
   .rename_i g hgd hsp;split at he
    .rename_i qq v E3 hv;obtain⟨f,c,h1,h2,h3⟩:=hin;obtain⟨cal,⟨args⟩,⟨tys⟩⟩:=c;simp only at h2;subst h2;simp only[h1,spA,h3]at hv;cases hv
    .cases he
   .rename_i g hgd hsp;split at he
    .rename_i c hT;have htg:Ba a g= .bool c:=by have:=hst.T g;rw[hT]at this;exact this
     have hy:yielded ops a.tmps j=I c:=Xh hgd htg;rw[hy];have hn:∀w0:Bool,c=w0->St B β stk { s with T:=upd s.T g (.b w0) } a w:=by
      intro w0 e;subst e;rw[show({ s with T:=upd s.T g (.b c) } :S)=s by rw[aEb _ _ _ hT]];exact hst
     have yes:CI C (inl Ω) o s.nid { s with T:=upd s.T g (.b want) } k=I q->c=want->
       (if(I c == I want)=A1 then o.wp B.P a w K Q\/(o.asks B.P a w/\LetsOut Q) else K (a.put o.dst undef) w):=by
      intro he e;rw[A8<|by simp[e]];exact .inl<|aEn hI hin he (hn want e) hfr<|hK' _ rfl rfl
     have no:(match s.has o.dst with
       | true=>k (({ s with T:=upd s.T g (.b<|!want) } :S).put o.dst Dp)
       | false=>U)=I q->c= !want->
       (if(I c == I want)=A1 then o.wp B.P a w K Q\/(o.asks B.P a w/\LetsOut Q) else K (a.put o.dst undef) w):=by
      intro he e;rw[AB (by subst e;cases want<;>simp)];split at he
      .rename_i E3;refine hK β undef w _ ((hn (!want) e).put (by exact E3) (v:=Dp) (u:=undef) rfl (λg' w1 x e=>by cases e)) (λj hj=> ?_) ?_ ?_ he
       .have:=hfr j (by cases hod:o.dst<;>rw[hod]at hj<;>exact CB (ca _ 16) hj);cases o.dst<;>exact this
       .cases o.dst<;>rfl
       .cases o.dst<;>rfl
      .cases he
     cases want<;>cases c<;>simp only[A5,if_false,Hh]at he
     .exact yes he rfl
     .exact no he rfl
     .exact no he rfl
     .exact yes he rfl
    .rename_i vs hT;have htg:Ba a g= .tuple vs:=by have:=hst.T g;rw[hT]at this;exact this
     have hy:¬(yielded ops a.tmps j == I want)=A1:=by
      intro e;have:=fq hgd (show yielded ops a.tmps j=I want by simpa using e);rw[htg]at this;cases this
     rw[AB hy];split at he
     .rename_i E3;refine hK β undef w _ (hst.put E3 (v:=Dp) (u:=undef) rfl (λg' w1 x e=>by cases e)) (λj hj=> ?_) ?_ ?_ he
      .have:=hfr j (by cases hod:o.dst<;>rw[hod]at hj<;>exact CB (ca _ 16) hj);cases o.dst<;>exact this
      .cases o.dst<;>rfl
      .cases o.dst<;>rfl
     .cases he
    .cases he
 .rw[aof hin]at he;obtain⟨s1,h1,h2⟩:=An.1 he;have hk:=aAQ h1;refine nZ hP hC hi hst (λj hj _=>hfr j hj) h1 λβ' u w' h=>hK β' u w' s1 h (λj hj=>hk.nn j (λhh=> ?_)<|hfr j ?_) hk.n hk.pins h2
  .rw[hk.nid]at hj;omega
  .rw[hk.nid]at hj;omega
def adI(hP:C.P=B.P)(hC:H9 C B)(hI:JG C B inl){k:S->Option Ω}{Q:Exit->Act->World->Prop}{n:Nat}{p:List Nat}
  (hQ:∀β a w s',St B β stk s' a w->Fr s'->s'.n=n->s'.pins=p->k s'=I q->Q .normal a w):∀(l:List Oper) (i:Nat) (s:S) (β:Beta) (a:Act) (w:World),(∀j,l[j]? =ops[i+j]?)->
  Ot C (inl Ω) ops l s k=I q->St B β stk s a w->Fr s->s.n=n->s.pins=p->wpOps B.P ops Q (List.range' i l.length) a w
 | [],i,s,β,a,w,_,he,hst,hfr,hn,hp=>hQ β a w s hst hfr hn hp he
 | o::l,i,s,β,a,w,hl,he,hst,hfr,hn,hp=>by
  rw[Bw,List.range'_succ,wpOps_cons];have ho:ops[i]? =I o:=by simpa using (hl 0).symm
  refine aAJ hP hC hI ho (show evG C (inl Ω) ops o s.nid s (λs=>Ot C (inl Ω) ops l { s with nid:=s.nid+16 } k)=I q from he) hst hfr ?_;intro β' u w' s' h1 h2 h3 h4 h5;exact adI hP hC hI hQ l (i+1) { s' with nid:=s'.nid+16 } β' _ w' (λj=>by
   have:=hl<|j+1;simpa[DH,N5 1 j] using this) h5 ⟨h1.T,h1.stack,h1.n,h1.defers,h1.pins,h1.gs,h1.hs⟩ h2 (h3.trans hn) (h4.trans hp)
def aFr(hP:C.P=B.P)(hC:H9 C B)(hI:JG C B inl){k:S->Option Ω}(he:Ot C (inl Ω) ops ops.toList s k=I q)(hfr:Fr s)(hst:St B β stk s a w)
  {id:Nat}{Q:Exit->Act->World->Prop}(hQ:∀β a w s',St B β stk s' a w->Fr s'->s'.n=s.n->s'.pins=s.pins->k s'=I q->Q .normal a w):(QX id ops A3).wp B.P Q a w:=by
 refine wp_region ?_;have:=adI hP hC hI hQ ops.toList 0 s β a w (by simp) he hst hfr rfl rfl;rw[List.range_eq_range',← F4];exact this
end
end Go.VS
namespace Go.VS
open Go
def Imm(w:World)(M:Nat->Prop)(c:AV)(v:Value):Prop:=∀β:Beta,(∀b,MZ β b->M b)->RC w β c v
mutual
def Rel (P:Program) (w:World) (M:Nat->Prop) (e:Nat->Value):(h:Sh)->LT h->Value->List (Value×Nat)->Prop
 | .int k,n,v,os=>v= .int k n/\os=[]
 | .bool,x,v,os=>v= .bool x/\os=[]
 | .str,s,v,os=>v= .string s/\os=[]
 | .sl k,xs,v,os=>Imm w M (.sl k xs) v/\os=[]
 | .fz k,xs,v,os=>Imm w M (.sl k xs) v/\os=[]
 | .row t k,xs,v,os=>os=[(v,xs.length)]/\Q9 v=A1/\ ∀β:Beta,(∀b,MZ β b->M b)->FP w β t A3 k xs v
 | .Cb t k,xs,v,os=>os=[(v,xs.length)]/\Q9 v=A1/\ ∀β:Beta,(∀b,MZ β b->M b)->FP w β t A1 k xs v
 | .abx t k,xs,v,os=>os=[(v,xs.length)]/\1<=xs.length/\ ∃b us,v= .pointer (I ⟨b,0,U⟩)/\w.heap[b]? =I (.cells us t (0,0))/\us.size=xs.length * ks k/\us.size=P.cellsOf t/\
   (∀β:Beta,(∀b,MZ β b->M b)->∀i x j c u,xs[i]? =I x->(enc k x)[j]? =I c->us[i * ks k+j]? =I u->RC w β c u)
 | .arr k,xs,v,os=>os=[]/\ ∀β:Beta,(∀b,MZ β b->M b)->R1 w β (.arr k xs) v
 | .same t,_,v,os=>os=[]/\v=e t/\v.oneCell'=A1
 | .agg l,x,v,os=>∃us:List Value,v= .agg us.toArray/\Cc P w M e l x us os
 | .box t l,x,v,os=>∃b us os',v= .pointer (I ⟨b,0,U⟩)/\w.heap[b]? =I (.cells us t (0,0))/\Cc P w M e l x us.toList os'/\os=os'++[(v,1)]
def Cc (P:Program) (w:World) (M:Nat->Prop) (e:Nat->Value):(l:List Sh)->LTs l->List Value->List (Value×Nat)->Prop
 | [],_,us,os=>us=[]/\os=[]
 | h::l,x,us,os=>∃u us' o1 o2,us=u::us'/\os=o1++o2/\Rel P w M e h x.1 u o1/\Cc P w M e l x.2 us' o2
end
def HE(p:Value×Nat):Option Nat:=(adr p.1).map (·.block)
abbrev Az(os:List (Value×Nat)):List Nat:=os.filterMap HE
mutual
def Lu:Sh->List Nat
 | .same t=>[t]
 | .agg l=>IZ l
 | .box _ l=>IZ l
 | _=>[]
def IZ:List Sh->List Nat
 | []=>[]
 | h::l=>Lu h++IZ l
end
section
variable {B:Be} {β β':Beta} {H:Hp} {w w':World} {M:Nat->Prop} {E:Nat->AV} {e:Nat->Value}
def RC.Rx{c:AV}{v:Value}(h:RC w β c v)(hc:GM c=A1)(hM:∀b,M b->MZ β b):Imm w M c v:=λβ' hβ'=>
 RC.imm (λ_ _ _ _ h=>h) (λb hb _ hm=>hb<|hM b<|hβ' b hm) h hc
def FP.imm{t:TypeId}{fz:Bool}{k:K}{xs:List (Tof k)}{v:Value}(h:FP w β t fz k xs v)(hM:∀b,M b->MZ β b):∀β':Beta,(∀b,MZ β' b->M b)->FP w β' t fz k xs v:=by
 intro β' hβ';obtain h|⟨b,f,cap,us,fr,h1,h2,h3,h4,h5,h6,h7⟩:=h
 .exact .inl h
 .exact .inr ⟨b,f,cap,us,fr,h1,h2,h3,h4,h5,h6,λi x j c u a1 a2 a3=>(h7 i x j c u a1 a2 a3).Rx (IE k x a2) hM β' hβ'⟩
def FP.arz{t:TypeId}{fz:Bool}{k:K}{xs:List (Tof k)}{v:Value}(h:FP w β t fz k xs v)(hM:∀b,M b->MZ β b)(hn:∀a,adr v=I a->¬M a.block):Imm w M (.sl k xs) v:=by
 intro β' hβ';obtain⟨rfl,rfl⟩|⟨b,f,cap,us,fr,rfl,hh,hfr,hn',hc,hs,hr⟩:=h
 .exact .nil
 .have Cv:∀i j,i<xs.length->j<ks k->f+(i * ks k+j)<us.size:=by
   intro i j hi hj;have h1:(i+1) * ks k<=cap * ks k:=E6 _ J;rw[EP]at h1;omega
  refine .sl (λi j=>us.getD (f+(i * ks k+j)) undef) ⟨rfl,hn'⟩ (λhm=>hn _ rfl (hβ' _ hm)) (λi j hi hj=> ?_) (λi x j c h2 h3=> ?_)
  .rw[cell_of_row w b _ us t fr hh];have:=Cv i j hi hj;simp[this]
  .have hi:i<xs.length:=(BP.1 h2).1;have hj:j<ks k:=by rw[← EH k x];exact(BP.1 h3).1
   have:=Cv i j hi hj;exact(hr i x j c (us.getD (f+(i * ks k+j)) undef) h2 h3<|by simp[this]).Rx (IE k x h3) hM β' hβ'
def R1.lits{v' v:Value}(h:R1 w β (.lit v') v):v=v':=h
def R1.sls{k:K}{xs:List (Tof k)}{v:Value}(h:R1 w β (.sl k xs) v):RC w β (.sl k xs) v:=h
def R1.mV{id:Nat}{v:Value}(h:R1 w β (.own id) v):RC w β (.own id) v:=h
def R1.Q1{id z i o:Nat}{v:Value}(h:R1 w β (.ptr id z i o) v):RC w β (.ptr id z i o) v:=h
structure Nl (B:Be) (β:Beta) (H:Hp) (w:World) (M:Nat->Prop) (E:Nat->AV) (e:Nat->Value):Prop where
 hs:Hs B β H w
 hM:∀b,M b->MZ β b
 hE:∀t id z,E t= .ptr id z 0 0->R1 w β (E t) (e t)
def Qj(β:Beta)(M:Nat->Prop)(ids:List Nat):Prop:=∀i∈ids,∀p a,β i=I p->adr p.1=I a->¬M a.block
def qj(R:Nl B β H w M E e){id:Nat}{t:TypeId}{fz:Bool}{k:K}{xs:List (Tof k)}{v:Value}(hv:RC w β (.own id) v)(hid:H id=I (.row t fz k xs)):
  Q9 v=A1/\β id=I (v,xs.length)/\FP w β t fz k xs v:=by
 cases hv with
 | own h hs=>
  obtain⟨hd,h1,h2⟩:=R.hs.ER id _ hid;rw[h]at h1;cases h1;exact⟨hs,h,h2⟩
mutual
theorem ik (R:Nl B β H w M E e):∀(h:Sh) (c:AV) (v:Value) (x:LT h),R1 w β c v->Bp E H h c=I x->Qj β M (Cn H h c)->
  ∃os,Rel B.P w M e h x v os/\Az os=Az ((CV H h c).filterMap β)
 | .int k,c,v,x,hv,hx,_=>by
  cases c with
  | lit v'=>
   cases v'<;>first|(simp[Bp]at hx;done)|skip
   simp only[Bp]at hx;split at hx
   .rename_i e1;simp at e1;subst e1;cases hx;exact⟨[],⟨hv.lits,rfl⟩,rfl⟩
   .cases hx
  | _=>simp[Bp]at hx
 | .bool,c,v,x,hv,hx,_=>by
  cases c with
  | lit v'=>
   cases v'<;>first|(simp[Bp]at hx;done)|skip
   simp only[Bp]at hx;cases hx;exact⟨[],⟨hv.lits,rfl⟩,rfl⟩
  | _=>simp[Bp]at hx
 | .str,c,v,x,hv,hx,_=>by
  cases c with
  | lit v'=>
   cases v'<;>first|(simp[Bp]at hx;done)|skip
   simp only[Bp]at hx;cases hx;exact⟨[],⟨hv.lits,rfl⟩,rfl⟩
  | _=>simp[Bp]at hx
 | .sl k,c,v,x,hv,hx,_=>by
  cases c with
  | sl k' xs=>
   obtain⟨e1,rfl⟩:=Ht<|show Ix k' k xs=I x from hx;subst e1;exact⟨[],⟨hv.sls.Rx rfl R.hM,rfl⟩,rfl⟩
  | lit v'=>
   cases v' with
   | slice a n cap=>
    cases a<;>cases n<;>cases cap<;>simp[Bp]at hx;subst hx;have:=hv.lits;subst this;exact⟨[],⟨λ_ _=> .nil,rfl⟩,rfl⟩
   | _=>simp[Bp]at hx
  | _=>simp[Bp]at hx
 | .fz k,c,v,x,hv,hx,hf=>by
  cases c with
  | sl k' xs=>
   obtain⟨e1,rfl⟩:=Ht<|show Ix k' k xs=I x from hx;subst e1;exact⟨[],⟨hv.sls.Rx rfl R.hM,rfl⟩,rfl⟩
  | lit v'=>
   cases v' with
   | slice a n cap=>
    cases a<;>cases n<;>cases cap<;>simp[Bp,CF]at hx;subst hx;have:=hv.lits;subst this;exact⟨[],⟨λ_ _=> .nil,rfl⟩,rfl⟩
   | _=>simp[Bp,CF]at hx
  | own id=>
   simp only[Bp,CF]at hx;split at hx
   .rename_i t fz k' ys hid;obtain⟨e1,rfl⟩:=Ht hx;subst e1;obtain⟨h1,h2,h3⟩:=qj R hv.mV hid;exact⟨[],⟨h3.arz R.hM λa ha=>hf id (by simp[Cn]) _ a h2 ha,rfl⟩,rfl⟩
   .cases hx
  | _=>simp[Bp,CF]at hx
 | .row t k,c,v,x,hv,hx,_=>by
  cases c with
  | lit v'=>
   cases v' with
   | slice a n cap=>
    cases a<;>cases n<;>cases cap<;>simp[Bp]at hx;subst hx;have:=hv.lits;subst this;exact⟨[(.slice U 0 0,0)],⟨rfl,rfl,λ_ _=> .inl ⟨rfl,rfl⟩⟩,rfl⟩
   | _=>simp[Bp]at hx
  | own id=>
   simp only[Bp]at hx;split at hx
   .rename_i t' k' ys hid;split at hx
    .rename_i ht;obtain rfl:=Bn ht;obtain⟨e1,rfl⟩:=Ht hx;subst e1;obtain⟨h1,h2,h3⟩:=qj R hv.mV hid;exact⟨[(v,ys.length)],⟨rfl,h1,h3.imm R.hM⟩,by simp[CV,h2]⟩
    .cases hx
   .cases hx
  | _=>simp[Bp]at hx
 | .Cb t k,c,v,x,hv,hx,_=>by
  cases c with
  | own id=>
   simp only[Bp]at hx;split at hx
   .rename_i t' k' ys hid;split at hx
    .rename_i ht;obtain rfl:=Bn ht;obtain⟨e1,rfl⟩:=Ht hx;subst e1;obtain⟨h1,h2,h3⟩:=qj R hv.mV hid;exact⟨[(v,ys.length)],⟨rfl,h1,h3.imm R.hM⟩,by simp[CV,h2]⟩
    .cases hx
   .cases hx
  | _=>simp[Bp]at hx
 | .abx t k,c,v,x,hv,hx,_=>by
  cases c with
  | ptr id z i o=>
   cases i<;>cases o<;>simp only[Bp]at hx<;>first|(cases hx;done)|skip
   split at hx
   .rename_i t' k' ys hid;split at hx
    .rename_i ht;simp only[AI]at ht;obtain rfl:=Bn ht.1;obtain⟨e1,rfl⟩:=Ht hx;subst e1;have hv:=hv.Q1;cases hv with
     | @ptr _ _ _ _ hd n b f h1 ha hi=>
      obtain⟨b',us,k1,k2,k3,k4,k5⟩:=R.hs.ER id _ hid;rw[h1]at k1;cases k1;cases ha;have e0:0 * z=0:=SE z;refine⟨[(.pointer<|I ⟨b,0,U⟩,ys.length)],⟨?_,hi,b,us, ?_,k2,k3,k4,λβ' hβ' i x j c u a1 a2 a3=>(k5 i x j c u a1 a2 a3).Rx (IE k' x a2) R.hM β' hβ'⟩,by simp[CV,h1]⟩
      .simp
      .simp
    .cases hx
   .cases hx
  | _=>simp[Bp]at hx
 | .arr k,c,v,x,hv,hx,_=>by
  cases c with
  | arr k' xs=>
   obtain⟨e1,rfl⟩:=Ht<|show Ix k' k xs=I x from hx;subst e1;obtain⟨us,k1,k2,k3⟩:=hv;exact⟨[],⟨rfl,λβ' hβ'=>⟨us,k1,k2,λi x j c u a1 a2 a3=>(k3 i x j c u a1 a2 a3).Rx (IE k' x a2) R.hM β' hβ'⟩⟩,rfl⟩
  | _=>simp[Bp]at hx
 | .same t,c,v,x,hv,hx,_=>by
  cases c with
  | ptr id z i o=>
   cases i<;>cases o<;>simp only[Bp]at hx<;>first|(cases hx;done)|skip
   split at hx
   .rename_i id' z' hE;split at hx
    .rename_i hid;obtain rfl:=Bn hid;have h2:=R.hE t _ _ hE;rw[hE]at h2;have h2:=h2.Q1;have h1:=hv.Q1;refine⟨[],⟨rfl, ?_,h1.one⟩,rfl⟩;generalize e t=v2 at h2;cases h1 with
     | ptr a1 a2 a3=>
      cases h2 with
      | ptr b1 b2 b3=>
       rw[a1]at b1;cases b1;rw[a2]at b2;cases b2;simp
    .cases hx
   .cases hx
  | _=>simp[Bp]at hx
 | .agg l,c,v,x,hv,hx,hf=>by
  cases c with
  | agg cs=>
   obtain⟨us,rfl,hr⟩:=hv;obtain⟨os,h1,h2⟩:=gY R l cs us x hr hx hf;exact⟨os,⟨us,rfl,h1⟩,h2⟩
  | _=>simp[Bp]at hx
 | .box t l,c,v,x,hv,hx,hf=>by
  cases c with
  | ptr id z i o=>
   cases i<;>cases o<;>simp only[Bp]at hx<;>first|(cases hx;done)|skip
   split at hx
   .rename_i t' cs hid;split at hx
    .rename_i ht;obtain rfl:=Bn ht;have hv:=hv.Q1;cases hv with
     | @ptr _ _ _ _ hd n b f h1 ha hi=>
      obtain⟨b',us,k1,k2,k3⟩:=R.hs.ER id _ hid;rw[h1]at k1;cases k1;cases ha;obtain⟨os,j1,j2⟩:=gY R l cs us.toList x k3 hx (by simpa only[Cn,hid] using hf);refine⟨os++[(.pointer<|I ⟨b,0,U⟩,1)],⟨b,us,os,by simp,k2,j1,by simp⟩, ?_⟩;have:CV H (.box t l) (.ptr id z 0 0)=Bm H l cs++[id]:=by simp only[CV,hid]
      rw[this];simp only[Az,Md]at j2 ⊢;rw[j2];simp[h1]
    .cases hx
   .cases hx
  | _=>simp[Bp]at hx
theorem gY (R:Nl B β H w M E e):∀(l:List Sh) (cs:List AV) (us:List Value) (x:LTs l),RL (RC w β) cs us->Fv E H l cs=I x->Qj β M (Cz H l cs)->
  ∃os,Cc B.P w M e l x us os/\Az os=Az ((Bm H l cs).filterMap β)
 | [],[],us,x,hr,hx,_=>⟨[],⟨hr.of_nil,rfl⟩,rfl⟩
 | [],_::_,us,x,hr,hx,_=>by cases hx
 | _::_,[],us,x,hr,hx,_=>by cases hx
 | h::l,c::cs,us,x,hr,hx,hf=>by
  obtain⟨u,us',rfl,h1,h2⟩:=hr.C6;obtain⟨x1,e1,hx⟩:=An.1 hx;obtain⟨x2,e2,hx⟩:=An.1 hx;cases hx;obtain⟨o1,j1,j2⟩:=ik R h c u x1 (R1.Ml h1) e1 (λi hi=>hf i<|CE _ hi);obtain⟨o2,j3,j4⟩:=gY R l cs us' x2 h2 e2 (λi hi=>hf i<|Cy _ hi);refine⟨o1++o2,⟨u,us',o1,o2,rfl,rfl,j1,j3⟩, ?_⟩;simp only[Az,Md,Bm]at j2 j4 ⊢;rw[j2,j4]
end
def XF(R:Nl B β H w M E e):∀(l:List Sh) (cs:List AV) (us:List Value) (x:LTs l),RL (R1 w β) cs us->Fv E H l cs=I x->Qj β M (Cz H l cs)->
  ∃os,Cc B.P w M e l x us os/\Az os=Az ((Bm H l cs).filterMap β)
 | [],[],us,x,hr,hx,_=>⟨[],⟨hr.of_nil,rfl⟩,rfl⟩
 | [],_::_,us,x,hr,hx,_=>by cases hx
 | _::_,[],us,x,hr,hx,_=>by cases hx
 | h::l,c::cs,us,x,hr,hx,hf=>by
  obtain⟨u,us',rfl,h1,h2⟩:=hr.C6;obtain⟨x1,e1,hx⟩:=An.1 hx;obtain⟨x2,e2,hx⟩:=An.1 hx;cases hx;obtain⟨o1,j1,j2⟩:=ik R h c u x1 h1 e1 (λi hi=>hf i<|CE _ hi);obtain⟨o2,j3,j4⟩:=XF R l cs us' x2 h2 e2 (λi hi=>hf i<|Cy _ hi);refine⟨o1++o2,⟨u,us',o1,o2,rfl,rfl,j1,j3⟩, ?_⟩;simp only[Az,Md,Bm]at j2 j4 ⊢;rw[j2,j4]
end
end Go.VS
namespace Go.VS
open Go
section
variable {P:Program} {β:Beta} {H:Hp} {w:World} {M:Nat->Prop} {E:Nat->AV} {e:Nat->Value} {b:Nat}
def IN(P:Program)(w:World)(β:Beta)(H H':Hp)(b n:Nat):Prop:=
 (∀j,j<b\/b+n<=j->H' j=H j)/\(∀j,b<=j->j<b+n->∃ob,H' j=I ob/\E9 P w β j ob)
def IN.nil:IN P w β H H b 0:=⟨λ_ _=>rfl,λj h1 h2=>by omega⟩
def IN.one{ob:Ob}(h:E9 P w β b ob):IN P w β H (upd H b<|I ob) b 1:=by
 refine⟨λj hj=>BE _ _ J,λj h1 h2=> ?_⟩;have:j=b:=J
 subst this;exact⟨ob,Bl _ _ _,h⟩
def IN.trans{H' H'':Hp}{n m:Nat}(h:IN P w β H H' b n)(k:IN P w β H' H'' (b+n) m):IN P w β H H'' b (n+m):=by
 refine⟨λj hj=> ?_,λj h1 h2=> ?_⟩
 .rw[k.1 j J,h.1 j J]
 .by_cases e:j<b+n
  .obtain⟨ob,k1,k2⟩:=h.2 j h1 e;exact⟨ob,by rw[k.1 j<|.inl e];exact k1,k2⟩
  .exact k.2 j J J
def Num(β:Beta)(b:Nat)(os:List (Value×Nat)):Prop:=∀i p,os[i]? =I p->β (b+i)=I p
def Num.left{o1 o2:List (Value×Nat)}(h:Num β b (o1++o2)):Num β b o1:=λi p hp=>h i p (by
 rw[G0 (BP.1 hp).1];exact hp)
def Num.right{o1 o2:List (Value×Nat)}(h:Num β b (o1++o2)):Num β (b+o1.length) o2:=λi p hp=>by
 have:=h (o1.length+i) p (by rw[EC J];simpa using hp);rw[DH];exact this
def Num.one{p:Value×Nat}{os:List (Value×Nat)}(h:Num β b (os++[p])):β (b+os.length)=I p:=by
 have:=h.right 0 p rfl;simpa using this
def WK(w:World)(β:Beta)(E:Nat->AV)(e:Nat->Value)(ts:List Nat):Prop:=∀t∈ts,R1 w β (E t)<|e t
def R1.aoF{c:AV}{v:Value}(h:R1 w β c v)(h1:v.oneCell'=A1):RC w β c v:=by
 cases c with
 | un=>exact .un h1
 | lit v'=>have:=h.lits;subst this;exact .lit h1
 | sl k xs=>exact h
 | own id=>exact h
 | ptr a b c d=>exact h
 | ipt a b c=>exact h
 | arr k xs=>obtain⟨us,rfl,_⟩:=h;cases h1
 | agg cs=>obtain⟨us,rfl,_⟩:=h;cases h1
 | tup vs=>exact h.elim
 | gd a b c=>exact h.elim
mutual
theorem vb (hM:∀b,MZ β b->M b):∀(h:Sh) (H:Hp) (b:Nat) (x:LT h) (v:Value) (os:List (Value×Nat)),IU h=A1->Rel P w M e h x v os->Num β b os->WK w β E e (Lu h)->
  RC w β (BL E H b h x).1 v/\(BL E H b h x).2.2=b+os.length/\IN P w β H (BL E H b h x).2.1 b os.length
 | .int k,H,b,x,v,os,_,hr,_,_=>by obtain⟨rfl,rfl⟩:=hr;exact⟨.lit rfl,rfl,.nil⟩
 | .bool,H,b,x,v,os,_,hr,_,_=>by obtain⟨rfl,rfl⟩:=hr;exact⟨.lit rfl,rfl,.nil⟩
 | .str,H,b,x,v,os,_,hr,_,_=>by obtain⟨rfl,rfl⟩:=hr;exact⟨.lit rfl,rfl,.nil⟩
 | .sl k,H,b,x,v,os,_,hr,_,_=>by obtain⟨h1,rfl⟩:=hr;exact⟨h1 β hM,rfl,.nil⟩
 | .fz k,H,b,x,v,os,_,hr,_,_=>by obtain⟨h1,rfl⟩:=hr;exact⟨h1 β hM,rfl,.nil⟩
 | .row t k,H,b,x,v,os,_,hr,hn,_=>by
  obtain⟨rfl,h1,h2⟩:=hr;have hb:β b=I (v,x.length):=hn.one (os:=[]);exact⟨.own hb h1,rfl,.one ⟨v,hb,h2 β hM⟩⟩
 | .Cb t k,H,b,x,v,os,_,hr,hn,_=>by
  obtain⟨rfl,h1,h2⟩:=hr;have hb:β b=I (v,x.length):=hn.one (os:=[]);exact⟨.own hb h1,rfl,.one ⟨v,hb,h2 β hM⟩⟩
 | .abx t k,H,b,x,v,os,_,hr,hn,_=>by
  obtain⟨rfl,h1,bb,us,rfl,h3,h4,h5,h6⟩:=hr;have hb:β b=I (.pointer<|I ⟨bb,0,U⟩,x.length):=hn.one (os:=[]);refine⟨?_,rfl,.one ⟨bb,us,hb,h3,h4,h5,h6 β hM⟩⟩;have:=RC.ptr (w:=w) (sz:=ks k) (o:=0) hb (rfl:adr (.pointer<|I ⟨bb,0,U⟩)=I ⟨bb,0,U⟩) (i:=0) J;show RC w β (.ptr b (ks k) 0 0) _;simpa using this
 | .arr _,_,_,_,_,_,h,_,_,_=>by simp[IU]at h
 | .agg _,_,_,_,_,_,h,_,_,_=>by simp[IU]at h
 | .same t,H,b,x,v,os,_,hr,_,hs=>by
  obtain⟨rfl,rfl,h1⟩:=hr;refine⟨?_,rfl,.nil⟩;exact(hs t<|by simp[Lu]).aoF h1
 | .box t l,H,b,x,v,os,hl,hr,hn,hs=>by
  obtain⟨bb,us,os',rfl,h2,h3,rfl⟩:=hr;have un:BL E H b (.box t l) x=(match Ak E H b l x with|(cs,H,b)=>(AV.ptr b cs.length 0 0,upd H b<|I<|.box t cs,b+1)):=rfl;obtain⟨k1,k2,k3⟩:=dp hM l H b x us.toList os' (by simpa[IU] using hl) h3 hn.left (by simpa[Lu] using hs);rw[un];generalize Ak E H b l x=r at *;obtain⟨cs,H',b'⟩:=r;simp only at k1 k2 k3;subst k2;have hb:=hn.one;refine⟨?_,by simp[DH], ?_⟩
  .have:=RC.ptr (w:=w) (sz:=cs.length) (o:=0) hb (rfl:adr (.pointer<|I ⟨bb,0,U⟩)=I ⟨bb,0,U⟩) (i:=0) J;simpa using this
  .rw[Ar];exact k3.trans<|.one ⟨bb,us,hb,h2,k1⟩
theorem dp (hM:∀b,MZ β b->M b):∀(l:List Sh) (H:Hp) (b:Nat) (x:LTs l) (us:List Value) (os:List (Value×Nat)),Mc l=A1->Cc P w M e l x us os->Num β b os->WK w β E e (IZ l)->
  RL (RC w β) (Ak E H b l x).1 us/\(Ak E H b l x).2.2=b+os.length/\IN P w β H (Ak E H b l x).2.1 b os.length
 | [],H,b,x,us,os,_,hr,_,_=>by obtain⟨rfl,rfl⟩:=hr;exact⟨.nil,rfl,.nil⟩
 | h::l,H,b,x,us,os,hl,hr,hn,hs=>by
  obtain⟨u,us',o1,o2,rfl,rfl,h1,h2⟩:=hr;simp only[Mc,AI]at hl;have un:Ak E H b (h::l) x=(match BL E H b h x.1 with|(c,H,b)=>match Ak E H b l x.2 with|(cs,H,b)=>(c::cs,H,b)):=rfl;obtain⟨k1,k2,k3⟩:=vb hM h H b x.1 u o1 hl.1 h1 hn.left (λt ht=>hs t<|CE _ ht);rw[un];generalize BL E H b h x.1=r at *;obtain⟨c,H',b'⟩:=r;simp only at k1 k2 k3 ⊢;subst k2;obtain⟨j1,j2,j3⟩:=dp hM l H' (b+o1.length) x.2 us' o2 hl.2 h2 hn.right (λt ht=>hs t<|Cy _ ht);generalize Ak E H' (b+o1.length) l x.2=r at *;obtain⟨cs,H'',b''⟩:=r;simp only at j1 j2 j3 ⊢;subst j2;refine⟨.cons k1 j1,by simp[DH], ?_⟩;rw[Ar];exact k3.trans j3
end
def vJ(hM:∀b,MZ β b->M b)(h:Sh)(H:Hp)(b:Nat)(x:LT h)(v:Value)(os:List (Value×Nat))(ht:kr h=A1)(hr:Rel P w M e h x v os)(hn:Num β b os)(hs:WK w β E e (Lu h)):
  R1 w β (BL E H b h x).1 v/\(BL E H b h x).2.2=b+os.length/\IN P w β H (BL E H b h x).2.1 b os.length:=by
 by_cases hh:IU h=A1
 .obtain⟨h1,h2,h3⟩:=vb hM h H b x v os hh hr hn hs;exact⟨.Ml h1,h2,h3⟩
 .cases h<;>first|(exact absurd ht hh;done)|skip
  case agg l=>
   obtain⟨us,rfl,h1⟩:=hr;have un:BL E H b (.agg l) x=(match Ak E H b l x with|(cs,H,b)=>(AV.agg cs,H,b)):=rfl;obtain⟨k1,k2,k3⟩:=dp hM l H b x us os ht h1 hn hs;rw[un];generalize Ak E H b l x=r at *;obtain⟨cs,H',b'⟩:=r;exact⟨⟨us,rfl,k1⟩,k2,k3⟩
  case arr k=>
   obtain⟨rfl,h1⟩:=hr;exact⟨h1 β hM,rfl,.nil⟩
def dO(hM:∀b,MZ β b->M b):∀(l:List Sh) (H:Hp) (b:Nat) (x:LTs l) (us:List Value) (os:List (Value×Nat)),KJ l=A1->Cc P w M e l x us os->Num β b os->WK w β E e (IZ l)->
  RL (R1 w β) (Ak E H b l x).1 us/\(Ak E H b l x).2.2=b+os.length/\IN P w β H (Ak E H b l x).2.1 b os.length
 | [],H,b,x,us,os,_,hr,_,_=>by obtain⟨rfl,rfl⟩:=hr;exact⟨.nil,rfl,.nil⟩
 | h::l,H,b,x,us,os,hl,hr,hn,hs=>by
  obtain⟨u,us',o1,o2,rfl,rfl,h1,h2⟩:=hr;simp only[KJ,AI]at hl;have un:Ak E H b (h::l) x=(match BL E H b h x.1 with|(c,H,b)=>match Ak E H b l x.2 with|(cs,H,b)=>(c::cs,H,b)):=rfl;obtain⟨k1,k2,k3⟩:=vJ hM h H b x.1 u o1 hl.1 h1 hn.left (λt ht=>hs t<|CE _ ht);rw[un];generalize BL E H b h x.1=r at *;obtain⟨c,H',b'⟩:=r;simp only at k1 k2 k3 ⊢;subst k2;obtain⟨j1,j2,j3⟩:=dO hM l H' (b+o1.length) x.2 us' o2 hl.2 h2 hn.right (λt ht=>hs t<|Cy _ ht);generalize Ak E H' (b+o1.length) l x.2=r at *;obtain⟨cs,H'',b''⟩:=r;simp only at j1 j2 j3 ⊢;subst j2;refine⟨.cons k1 j1,by simp[DH], ?_⟩;rw[Ar];exact k3.trans j3
end
end Go.VS
namespace Go.VS
open Go
def eQ:∀ {l:List Nat},Mw l=A1->l.Nodup
 | [],_=>List.nodup_nil
 | a::l,h=>by
  simp only[Mw,AI,DR]at h;refine Lc.2 ⟨λhm=> ?_,eQ h.2⟩;have:(l.any λb=>Aj a b)=A1:=I5.2 ⟨a,hm,by simp⟩;rw[this]at h;cases h.1
def aDa{l m:List Nat}(h:off l m=A1):∀a∈l,a ∉ m:=λa ha hm=>by
 have h1:=Cr.1 h a ha;have:(m.any λb=>Aj a b)=A1:=I5.2 ⟨a,hm,by simp⟩;rw[this]at h1;cases h1
section
variable {B:Be} {β β':Beta} {H H':Hp} {w w':World} {M:Nat->Prop} {E:Nat->AV} {e:Nat->Value} {stk:List (Array Value)} {s s':S} {a:Act}
def Lz{ids:List Nat}{b:Nat}(h:b∈Az (ids.filterMap β)):∃i∈ids,∃p a,β i=I p/\adr p.1=I a/\a.block=b:=by
 obtain⟨p,hp,hb⟩:=GZ.1 h;obtain⟨i,hi,hβ⟩:=GZ.1 hp;obtain⟨a,ha,e⟩:=DL.1 hb;exact⟨i,hi,p,a,hβ,ha,e⟩
def az(hH:Hs B β H w):∀ {ids:List Nat},ids.Nodup->(Az<|ids.filterMap β).Nodup
 | [],_=>List.nodup_nil
 | i::ids,h=>by
  obtain⟨h1,h2⟩:=Lc.1 h;have ih:=az hH h2;cases hβ:β i with
  | none=>simpa[hβ] using ih
  | some p=>
   cases hb:HE p with
   | none=>simpa[hβ,hb] using ih
   | some b=>
    simp only[Az,jf,hβ,hb];refine Lc.2 ⟨λhm=> ?_,ih⟩;obtain⟨j,hj,q,a',hq,ha',e'⟩:=Lz hm;obtain⟨a,ha,e⟩:=DL.1 hb;have:=hH.inj i j p q a a' hβ hq ha ha' (by rw[e,e']);subst this;exact h1 hj
def Tf{ids:List Nat}{b:Nat}(h:b∈Az (ids.filterMap β)):MB β b:=by
 obtain⟨i,_,p,a,h1,h2,h3⟩:=Lz h;exact⟨i,p.1,p.2,a,h1,h2,h3⟩
abbrev MO(B:Be)(l:List Nat)(b:Nat):Prop:=b∈l\/B.Z b
def aEe(hH:Hs B β H w){ids:List Nat}{b:Nat}(h:MO B (Az<|ids.filterMap β) b):MZ β b:=by
 obtain h|h:=h
 .exact .inl (Tf h)
 .exact .inr (by rw[hH.z];exact h)
def gW(hH:Hs B β H w){fz ids:List Nat}(h:off fz ids=A1):Qj β (MO B<|Az<|ids.filterMap β) fz:=by
 intro i hi p a hp ha hm;obtain hm|hm:=hm
 case inr=>rw[← hH.z]at hm;exact hH.zn i p a hp ha hm
 obtain⟨j,hj,q,a',hq,ha',e⟩:=Lz hm;have:=hH.inj i j p q a a' hp hq ha ha' e.symm;subst this;exact aDa h i hi hj
def I0(Z:Nat->Prop)(os:List (Value×Nat)):Beta:=⟨λi=>os[i]?, Z⟩
def s9(Z:Nat->Prop)(os:List (Value×Nat)):Num (I0 Z os) 0 os:=λi p h=>by rw[DJ];exact h
def NU{Z:Nat->Prop}{os:List (Value×Nat)}{b:Nat}(h:MB (I0 Z os) b):b∈Az os:=by
 obtain⟨i,hd,n,a,h1,h2,h3⟩:=h;exact GZ.2 ⟨(hd,n),Cg h1,by simp[HE,h2,h3]⟩
def iV{os:List (Value×Nat)}{b:Nat}(h:MZ (I0 B.Z os) b):MO B (Az os) b:=h.imp NU λh=>h
def cI{os:List (Value×Nat)}(h:(Az os).Nodup):∀(i j:Nat) (p q:Value×Nat) (a a':Addr),os[i]? =I p->os[j]? =I q->adr p.1=I a->adr q.1=I a'->a.block=a'.block->i=j:=by
 induction os with
 | nil=>intro i j p q a a' hi;simp at hi
 | cons x os ih=>
  have hx:∀ {p:Value×Nat} {a:Addr},adr p.1=I a->HE p=I a.block:=λh=>by simp[HE,h]
  have ih':(Az os).Nodup:=by
   cases hb:HE x with
   | none=>simpa[hb] using h
   | some b=>simp only[Az,jf,hb]at h;exact(Lc.1 h).2
  have W3:∀(j:Nat) (q:Value×Nat) (a a':Addr),os[j]? =I q->adr x.1=I a->adr q.1=I a'->a.block=a'.block->False:=by
   intro j q a a' hj ha ha' e;simp only[Az,jf,hx ha]at h;refine(Lc.1 h).1<|GZ.2 ⟨q,Cg hj, ?_⟩;rw[hx ha',e]
  intro i j p q a a' hi hj ha ha' e;cases i with
  | zero=>
   simp at hi;subst hi;cases j with
   | zero=>rfl
   | succ j=>simp at hj;exact(W3 j q a a' hj ha ha' e).elim
  | succ i=>
   simp at hi;cases j with
   | zero=>simp at hj;subst hj;exact(W3 i p a' a hi ha' ha e.symm).elim
   | succ j=>simp at hj;rw[ih ih' i j p q a a' hi hj ha ha' e]
def Hs.ail(hH:Hs B β H w){os:List (Value×Nat)}(hn:(Az os).Nodup)(hb:∀b∈Az os,MB β b)(hm:IN B.P w (I0 B.Z os) (λ_=>U) H' 0 os.length):Hs B (I0 B.Z os) H' w where
 ER id ob ho:=by
  by_cases h:id<os.length
  .obtain⟨ob',h1,h2⟩:=hm.2 id (Cw _) J;rw[h1]at ho;cases ho;exact h2
  .rw[hm.1 id J]at ho;cases ho
 dom id p hp:=by
  have h:id<os.length:=(BP.1<|show os[id]? =I p from hp).1;obtain⟨ob',h1,_⟩:=hm.2 id (Cw _) J;exact⟨ob',h1⟩
 inj i j p q a a' hi hj:=cI hn i j p q a a' hi hj
 old b h:=hH.old b (hb b<|NU h)
 os:=hH.os
 tape:=hH.tape
 output:=hH.output
 size:=hH.size
 block:=hH.block
 z:=rfl
 zn id p a hp ha hz:=by
  have hb:=hb a.block (GZ.2 ⟨p,Cg hp,by simp[HE,ha]⟩);obtain⟨j,hd,n,a',h1,h2,h3⟩:=hb;refine hH.zn j _ a' h1 h2 ?_;rw[h3,hH.z];exact hz
 zl b h:=hH.zl b (by rw[hH.z];exact h)
 pk:=hH.pk
def aAm{E:Nat->AV}{h:Sh}{c:AV}{x:LT h}(hx:Bp E H h c=I x):(∀g w v,c≠ .gd g w v)/\ ∀vs,c≠ .tup vs:=by
 constructor
 .rintro g w v rfl;cases h<;>simp[Bp,CF]at hx
 .rintro vs rfl;cases h<;>simp[Bp,CF]at hx
def RT.Lq{tm:Nat->Value}{c:AV}{v:Value}(h:RT w β tm c v)(h1:∀g w v,c≠ .gd g w v)(h2:∀vs,c≠ .tup vs):R1 w β c v:=by
 cases c<;>first|exact h|exact absurd rfl (h1 _ _ _)|exact absurd rfl (h2 _)
def sv{tm:Nat->Value}{T:Nat->AV}(R:Nl B β H w M T tm)(hT:∀t,RT w β tm (T t)<|tm t):∀(c:Sch) (x:Lv c),oh H T c=I x->Qj β M (kg H T c)->
  ∃os,Cc B.P w M tm (c.map (·.2)) x (c.map λp=>tm p.1) os/\Az os=Az ((Oy H T c).filterMap β)
 | [],x,hx,_=>⟨[],⟨rfl,rfl⟩,rfl⟩
 | (t,h)::c,x,hx,hf=>by
  obtain⟨x1,e1,hx⟩:=An.1 hx;obtain⟨x2,e2,hx⟩:=An.1 hx;cases hx;obtain⟨p1,p2⟩:=aAm e1;obtain⟨o1,j1,j2⟩:=ik R h (T t) (tm t) x1 ((hT t).Lq p1 p2) e1 (λi hi=>hf i<|CE _ hi);obtain⟨o2,j3,j4⟩:=sv R hT c x2 e2 (λi hi=>hf i<|Cy _ hi);refine⟨o1++o2,⟨tm t,c.map λp=>tm p.1,o1,o2,rfl,rfl,j1,j3⟩, ?_⟩;simp only[Az,Md,Oy]at j2 j4 ⊢;rw[j2,j4]
def aCs{P:Program}{tm:Nat->Value}(hM:∀b,MZ β b->M b):∀(c:Sch) (T:Nat->AV) (H:Hp) (b:Nat) (x:Lv c) (os:List (Value×Nat)),KJ (c.map (·.2))=A1->Cc P w M tm (c.map (·.2)) x (c.map λp=>tm p.1) os->Num β b os->(∀t,R1 w β (T t)<|tm t)->
  (∀t,R1 w β ((Lx T H b c x).1 t)<|tm t)/\(Lx T H b c x).2.2=b+os.length/\IN P w β H (Lx T H b c x).2.1 b os.length
 | [],T,H,b,x,os,_,hr,_,hT=>by obtain⟨_,rfl⟩:=hr;exact⟨hT,rfl,.nil⟩
 | (t,h)::c,T,H,b,x,os,hl,hr,hn,hT=>by
  obtain⟨u,us',o1,o2,e1,rfl,h1,h2⟩:=hr;simp only[DW,MC]at e1;obtain⟨rfl,rfl⟩:=e1;simp only[DW,KJ,AI]at hl;have un:Lx T H b ((t,h)::c) x=(match BL T H b h x.1 with|(v,H,b)=>Lx (upd T t v) H b c x.2):=rfl;obtain⟨k1,k2,k3⟩:=vJ (E:=T) hM h H b x.1 (tm t) o1 hl.1 h1 hn.left (λt' _=>hT t');rw[un];generalize BL T H b h x.1=r at *;obtain⟨v,H',b'⟩:=r;simp only at k1 k2 k3 ⊢;subst k2;obtain⟨j1,j2,j3⟩:=aCs hM c (upd T t v) H' (b+o1.length) x.2 o2 hl.2 h2 hn.right (λt'=>by
   by_cases e:t'=t
   .subst e;rw[Bl];exact k1
   .rw[BE _ _ e];exact hT t')
  refine⟨j1,by rw[j2];simp[DH], ?_⟩;rw[Ar];exact k3.trans j3
def R1.Zt{tm:Nat->Value}{c:AV}{v:Value}(h:R1 w β c v):RT w β tm c v:= .HC<|.HP h
def St.join(hst:St B β stk s a w){c:Sch}{x:Lv c}(hx:rdS c s=I x):stk=[]/\ ∃β',St B β' [] (mkS s.n s.pins c x) a w/\Fr (mkS s.n s.pins c x)/\(mkS s.n s.pins c x).n=s.n/\(mkS s.n s.pins c x).pins=s.pins:=by
 unfold rdS at hx;split at hx
 .rename_i hs hnd hok;have Qv:stk=[]:=by
   have:=hst.stack.1;rw[hs]at this;exact EE this
  refine⟨Qv, ?_⟩;simp only[AI]at hnd;simp only[ze,AI]at hok;have R:Nl B β s.H w (MO B<|Az<|(Oy s.H s.T c).filterMap β) s.T (Ba a):={
   hs:=hst.hs
   hM:=λb hb=>aEe hst.hs hb
   hE:=λt id z e=>(hst.T t).Lq (by rw[e];simp) (by rw[e];simp) }
  obtain⟨os,h1,h2⟩:=sv R hst.T c x hx<|gW hst.hs hnd.2;have Xa:(Az os).Nodup:=by rw[h2];exact az hst.hs<|eQ hnd.1
  have hMB:∀b∈Az os,MB β b:=λb hb=>by rw[h2]at hb;exact Tf hb
  obtain⟨k1,k2,k3⟩:=aCs (β:=I0 B.Z os) (P:=B.P) (w:=w) (M:=MO B<|Az<|(Oy s.H s.T c).filterMap β) (tm:=Ba a) (λb hb=>by have:=iV hb;rw[h2]at this;exact this) c (λ_=> .un) (λ_=>U) 0 x os hok.1.2 h1 (s9 B.Z os) (λ_=>trivial);have un:mkS s.n s.pins c x=(match Lx (λ_=> .un) (λ_=>U) 0 c x with
   | (T,H,b)=>{ n:=s.n,T:=T,H:=H,nid:=b,st:=[],pins:=s.pins,gs:=λ_=>A3 }):=rfl
  rw[un];generalize Lx (λ_=> .un) (λ_=>U) 0 c x=r at *;obtain⟨T,H',b⟩:=r;simp only at k1 k2 k3;have hH:=hst.hs.ail Xa hMB k3;refine⟨I0 B.Z os,⟨λt=>(k1 t).Zt,⟨rfl,λi T' tm h=>by simp at h⟩,hst.n,hst.defers,hst.pins,λt g want y hy=> ?_,hH⟩,λj hj=> ?_,rfl,rfl⟩
  .have:=k1 t;have hy:T t= .gd g want y:=hy;rw[hy]at this;exact this.elim
  .exact k3.1 j (.inr (by have hj:b<=j:=hj;omega))
 .cases hx
end
end Go.VS
namespace Go.VS
open Go
structure KOK {Ω:Type} (B:Be) (stk:List (Array Value)) (n:Nat) (pins:List Nat) (k:Kt Ω) (q:Ω) (Q:Exit->Act->World->Prop):Prop where
 nrm:∀β a w s,St B β stk s a w->Fr s->s.n=n->s.pins=pins->k.nrm s=I q->Q .normal a w
 ret:∀β a w s,St B β stk s a w->Fr s->s.n=n->s.pins=pins->k.ret s=I q->Q .ret a w
 ext:∀id β a w s,St B β stk s a w->Fr s->s.n=n->s.pins=pins->k.ext id s=I q->Q (.exit id) a w
def Mz(B:Be)(n:Nat)(pins:List Nat)(body:Code)(l:Loop):Prop:=∀(x:Lv l.sch) (r:Lv l.Jr ⊕ Lv l.Jp),l.run x=I r->∀(β:Beta) (a:Act) (w:World) (Q:Exit->Act->World->Prop),
 St B β [] (mkS n pins l.sch x) a w->Fr (mkS n pins l.sch x)->
 (∀y,r= .inl y->∀β a w,St B β [] (mkS n pins l.Jr y) a w->Fr (mkS n pins l.Jr y)->Q .ret a w)->
 (∀y,r= .inr y->∀β a w,St B β [] (mkS n pins l.Jp y) a w->Fr (mkS n pins l.Jp y)->Q (.exit l.xid) a w)->(Code.loop body).wp B.P Q a w
def I2(L:Code->Loop->Prop):Code->Adv->Prop
 | .seq a b,.join _ u v=>I2 L a u/\I2 L b v
 | .seq a b,v=>I2 L a v.a/\I2 L b v.z
 | .cond _ x y,v=>I2 L x v.a/\I2 L y v.z
 | .block _ c,v=>I2 L c v.a
 | .loop c,.loop l=>L c l
 | _,_=>True
def Fw(L:Code->Loop->Prop):∀c:Code,I2 L c .nil
 | .seq a b=>⟨Fw L a,Fw L b⟩
 | .cond _ x y=>⟨Fw L x,Fw L y⟩
 | .block _ c=>Fw L c
 | .skip=>trivial
 | .region _ _ _=>trivial
 | .loop _=>trivial
 | .exit _=>trivial
 | .ret=>trivial
 | .rangeFunc _ _ _ _=>trivial
 | .scope _=>trivial
 | .label _=>trivial
 | .goto _=>trivial
 | .refuse _=>trivial
section
variable {C:Cx} {B:Be} {inl:(Ω:Type)->Inl Ω}
def YW(hP:C.P=B.P)(hm:B.P.follows .mixedOrders=A1)(hC:H9 C B)(hI:JG C B inl):∀(c:Code) {Ω:Type} (v:Adv) (k:Kt Ω) (s:S) (q:Ω) {β:Beta} {stk:List (Array Value)} {a:Act} {w:World} {Q:Exit->Act->World->Prop},
  evk C inl c Ω v k s=I q->St B β stk s a w->Fr s->I2 (Mz B s.n s.pins) c v->KOK B stk s.n s.pins k q Q->c.wp B.P Q a w:=by
 intro c
 induction c with
 | skip=>exact λv k s q β stk a w Q he hst hfr _ hk=>wp_skip<|hk.nrm _ _ _ _ hst hfr rfl rfl he
 | region id ops draw=>
  intro Ω v k s q β stk a w Q he hst hfr _ hk;cases draw with
  | false=>exact aFr hP hC hI (show Ot C (inl Ω) ops ops.toList s k.nrm=I q from he) hfr hst λβ a w s' h1 h2 h3 h4 h5=>hk.nrm β a w s' h1 h2 h3 h4 h5
  | true=>
   obtain⟨β1,hs1,_⟩:=St.Le (Rp C ops s) hst;have hk1:=BG.Le (N:=λ_=>False) (Rp C ops s)<|BG.refl _ s;have he:evD C ops ((Rp C ops s).foldl S.freeze s) ops.toList 0 s.nid [] ((Rp C ops s).foldl S.freeze s) k.nrm=I q:=he;rw[← hk1.nid]at he;exact aoX hP hm hC he (λj hj=>hk1.nn j (λh=>h)<|hfr j (by rw[hk1.nid]at hj;exact hj)) hs1 λβ a w s' h1 h2 h3 h4 h5=>hk.nrm β a w s' h1 h2 (h3.trans hk1.n) (h4.trans hk1.pins) h5
 | seq x y ihx ihy=>
  intro Ω v k s q β stk a w Q he hst hfr GS hk;refine wp_seq ?_;by_cases hj:∃c u v',v= .join c u v'
  .obtain⟨c,u,v',rfl⟩:=hj;obtain⟨ha1,ha2⟩:=GS;have he:BF (λx=>evk C inl y Ω v' k<|mkS s.n s.pins c x) (evk C inl x (Ω ⊕ Lv c) u { nrm:=λs=>(rdS c s).bind λx=>I<|.inr x,ret:=λs=>(k.ret s).bind λo=>I<|.inl o,ext:=λj s=>(k.ext j s).bind λo=>I (.inl o) } s)=I q:=he;obtain⟨r,h1,h2⟩:=An.1 he;refine ihx u _ s r h1 hst hfr ha1 ⟨?_, ?_, ?_⟩
   .intro β' a' w' s' k1 k2 k3 k4 k5;obtain⟨z,j1,j2⟩:=An.1 k5;cases j2;obtain⟨rfl,β2,m1,m2,m3,m4⟩:=k1.join j1;rw[k3,k4]at m1 m2 m3 m4;exact ihy v' k _ q h2 m1 m2 (by rw[m3,m4];exact ha2) (by rw[m3,m4];exact hk)
   .intro β' a' w' s' k1 k2 k3 k4 k5;obtain⟨o,j1,j2⟩:=An.1 k5;cases j2;have h2:I o=I q:=h2;cases h2;exact hk.ret _ _ _ _ k1 k2 k3 k4 j1
   .intro id β' a' w' s' k1 k2 k3 k4 k5;obtain⟨o,j1,j2⟩:=An.1 k5;cases j2;have h2:I o=I q:=h2;cases h2;exact hk.ext id _ _ _ _ k1 k2 k3 k4 j1
  .have he:evk C inl x Ω v.a { k with nrm:=evk C inl y Ω v.z k } s=I q:=by
    cases v<;>first|exact he|exact absurd ⟨_,_,_,rfl⟩ hj
   have GS:I2 (Mz B s.n s.pins) x v.a/\I2 (Mz B s.n s.pins) y v.z:=by
    cases v<;>first|exact GS|exact absurd ⟨_,_,_,rfl⟩ hj
   refine ihx v.a _ s q he hst hfr GS.1 ⟨?_,hk.ret,hk.ext⟩;intro β' a' w' s' k1 k2 k3 k4 k5;exact ihy v.z k s' q k5 k1 k2 (by rw[k3,k4];exact GS.2) (by rw[k3,k4];exact hk)
 | cond o x y ihx ihy=>
  intro Ω v k s q β stk a w Q he hst hfr GS hk;have he:(match s.ev o with
   | .lit (.bool b)=>if b then evk C inl x Ω v.a k s else evk C inl y Ω v.z k s
   | _=>U)=I q:=he
  split at he
  .rename_i b hb;have h1:=hst.eval o;rw[hb]at h1;have h2:a.eval o= .bool b:=h1;refine wp_cond h2 ?_;cases b with
   | true=>exact ihx v.a k s q he hst hfr GS.1 hk
   | false=>exact ihy v.z k s q he hst hfr GS.2 hk
  .cases he
 | block id x ihx=>
  intro Ω v k s q β stk a w Q he hst hfr GS hk;refine wp_block ?_;have he:evk C inl x Ω v.a { k with ext:=λj s=>match Aj j id with
   | true=>k.nrm s
   | false=>k.ext j s } s=I q:=he
  refine ihx v.a _ s q he hst hfr GS ⟨hk.nrm,hk.ret, ?_⟩;intro j β' a' w' s' k1 k2 k3 k4 k5;show if j=id then Q .normal a' w' else Q (.exit j) a' w'
  simp only at k5;split at k5
  .rename_i e;rw[A8<|Bn e];exact hk.nrm _ _ _ _ k1 k2 k3 k4 k5
  .rename_i e;rw[AB<|TW e];exact hk.ext _ _ _ _ _ k1 k2 k3 k4 k5
 | loop body _=>
  intro Ω v k s q β stk a w Q he hst hfr GS hk;cases v<;>first|(cases he;done)|skip
  rename_i l;have he:((rdS l.sch s).bind λx=>AO (l.run x) (λy=>k.ret<|mkS s.n s.pins l.Jr y) λy=>k.ext l.xid (mkS s.n s.pins l.Jp y))=I q:=he;obtain⟨x,h1,h2⟩:=An.1 he;obtain⟨r,h3,h4⟩:=An.1 h2;obtain⟨rfl,β',m1,m2,_,_⟩:=hst.join h1;have GS:Mz B s.n s.pins body l:=GS;refine GS x r h3 β' a w Q m1 m2 ?_ ?_
  .rintro y rfl β a w k1 k2;exact hk.ret _ _ _ _ k1 k2 (by unfold mkS;rfl) (by unfold mkS;rfl) h4
  .rintro y rfl β a w k1 k2;exact hk.ext _ _ _ _ _ k1 k2 (by unfold mkS;rfl) (by unfold mkS;rfl) h4
 | exit id=>exact λv k s q β stk a w Q he hst hfr _ hk=>wp_exit<|hk.ext _ _ _ _ _ hst hfr rfl rfl he
 | ret=>exact λv k s q β stk a w Q he hst hfr _ hk=>wp_ret<|hk.ret _ _ _ _ hst hfr rfl rfl he
 | _=>
  intro Ω v k s q β stk a w Q he;cases he
def jr(p:Nat->Prop)(h:∃n,p n):∃n,p n/\ ∀m,p m->n<=m:=by
 obtain⟨n,hn⟩:=h
 induction n using Nat.strongRecOn with
 | _ n ih=>
  by_cases hm:∃m,m<n/\p m
  .obtain⟨m,h1,h2⟩:=hm;exact ih m h1 h2
  .exact⟨n,hn,λm h=>Nat.le_of_not_lt λhlt=>hm ⟨m,hlt,h⟩⟩
def xb{X Y:Type}{b:X->Option (X ⊕ Y)}{x:X}{y:Y}(h:AW b x=I y):∃n,Ho b n x=I y:=by
 unfold AW at h;split at h
 .rename_i hn;have:=It<|It hn;cases h;exact⟨_,this⟩
 .cases h
def jL{X Y:Type}{b:X->Option (X ⊕ Y)}:∀(n:Nat) (x:X) {y:Y},Ho b n x=I y->∀m,n<=m->Ho b m x=I y
 | 0,x,y,h=>by cases h
 | n+1,x,y,h=>by
  intro m hm;obtain⟨m,rfl⟩:∃k,m=k+1:=⟨m - 1,J⟩;obtain⟨r,h1,h2⟩:=An.1 (show((b x).bind λr=>match r with
   | .inl y=>Ho b n y
   | .inr z=>I z)=I y from h)
  show((b x).bind λr=>match r with
   | .inl y=>Ho b m y
   | .inr z=>I z)=I y
  rw[h1,A9];cases r with
  | inl z=>exact jL n z h2 m J
  | inr z=>exact h2
def aEF{X Y:Type}{b:X->Option (X ⊕ Y)}{x:X}{y:Y}{n:Nat}(h:Ho b n x=I y):AW b x=I y:=by
 have hn:∃n y,Ho b n x=I y:=⟨n,y,h⟩;unfold AW;rw[dif_pos hn];have h1:=It<|It hn;have h2:=jL _ _ h (n+NT hn) J;have h3:=jL _ _ h1 (n+NT hn) J;rw[h2]at h3;exact h3.symm
def aoU{X Y:Type}{b:X->Option (X ⊕ Y)}{n:Nat}{x:X}{y:Y}(h:Ho b (n+1) x=I y):∃r,b x=I r/\(∀x',r= .inl x'->Ho b n x'=I y)/\(∀z,r= .inr z->z=y):=by
 obtain⟨r,h1,h2⟩:=An.1 (show((b x).bind λr=>match r with
   | .inl y=>Ho b n y
   | .inr z=>I z)=I y from h)
 refine⟨r,h1, ?_, ?_⟩
 .rintro x' rfl;exact h2
 .rintro z rfl;exact EI h2
def atl(hP:C.P=B.P)(hm:B.P.follows .mixedOrders=A1)(hC:H9 C B)(hI:JG C B inl){n:Nat}{pins:List Nat}{body:Code}{v:Adv}{l:Loop}{b:Lv l.sch->Option (Lv l.sch ⊕ (Lv l.Jr ⊕ Lv l.Jp))}
  (hb:∀x,evL C inl n pins body v l x=b x)(hr:l.run=AW b)(GS:I2 (Mz B n pins) body v):Mz B n pins body l:=by
 intro x r Cf β a w Q hst hfr IW akj;rw[hr]at Cf;obtain⟨N,hN⟩:=xb Cf
 let SC:Nat->Act->World->Prop:=λm a w=>∃(x:Lv l.sch) (β:Beta),Ho b m x=I r/\St B β [] (mkS n pins l.sch x) a w/\Fr (mkS n pins l.sch x)
 classical
 let μ:Act->World->Nat:=λa w=>if h:∃m,SC m a w then NT (jr _ h) else 0
 have hμ:∀a w,(h:∃m,SC m a w)->SC (μ a w) a w/\ ∀m,SC m a w->μ a w<=m:=λa w h=>by
  have:=It<|jr _ h;simp only[μ,dif_pos h];exact this
 refine wp_loop (λa w=>∃m,SC m a w) μ ⟨N,x,β,hN,hst,hfr⟩ ?_;intro a w hJ;obtain⟨⟨x,β,h1,h2,h3⟩,_⟩:=hμ a w hJ;generalize hm':μ a w=m at h1;cases m with
 | zero=>cases h1
 | succ m=>
  obtain⟨r1,k1,k2,k2'⟩:=aoU h1;have he:=hb x;rw[k1]at he;unfold evL at he;have en:(mkS n pins l.sch x).n=n:=by unfold mkS;rfl
  have ep:(mkS n pins l.sch x).pins=pins:=by unfold mkS;rfl
  refine YW hP hm hC hI body v _ _ r1 he h2 h3 (by rw[en,ep];exact GS) ?_;rw[en,ep];refine⟨?_, ?_, ?_⟩
  .intro β' a' w' s' j1 j2 j3 j4 j5;obtain⟨y,i1,i2⟩:=An.1 j5;cases i2;obtain⟨_,β2,m1,m2,_,_⟩:=j1.join i1;rw[j3,j4]at m1 m2;have hJ':SC m a' w':=⟨y,β2,k2 y rfl,m1,m2⟩;refine⟨⟨m,hJ'⟩, ?_⟩;have:=(hμ a' w' ⟨m,hJ'⟩).2 m hJ';omega
  .intro β' a' w' s' j1 j2 j3 j4 j5;obtain⟨y,i1,i2⟩:=An.1 j5;cases i2;obtain⟨_,β2,m1,m2,_,_⟩:=j1.join i1;rw[j3,j4]at m1 m2;have k2:=k2' _ rfl;subst k2;exact IW y rfl _ _ _ m1 m2
  .intro id β' a' w' s' j1 j2 j3 j4 j5;simp only at j5;split at j5
   .rename_i hid;obtain rfl:=Bn hid;obtain⟨y,i1,i2⟩:=An.1 j5;cases i2;obtain⟨_,β2,m1,m2,_,_⟩:=j1.join i1;rw[j3,j4]at m1 m2;have k2:=k2' _ rfl;subst k2;exact akj y rfl _ _ _ m1 m2
   .cases j5
end
end Go.VS
namespace Go.VS
open Go
def M8:List Value->Value
 | [v]=>v
 | vs=> .tuple vs.toArray
def Je:List Sh->List Value->List Value
 | .box _ _::ps,v::vs=>v::Je ps vs
 | _::ps,_::vs=>Je ps vs
 | _,_=>[]
def MI(P:Program)(f:FuncId):Prop:=∀(args:Array Value) (w:World),(callFunc f args).run P w= .ok (.enter f args) w
def NZ{P:Program}{f:FuncId}{fn:Func}{c:Code}(hf:P.funcs[f]? =I fn)(K7:(fn.name == "runtime.NumGoroutine")=A3)(hb:fn.body=I c):MI P f:=by
 intro args w;have iW:¬fn.name= "runtime.NumGoroutine" :=by simpa using K7
 simp[callFunc,hf,iW,hb]
abbrev ar(args:List Value):Nat->Value:=λi=>args.getD i undef
structure Ret (P:Program) (m:Da) (Z:Nat->Prop) (args:List Value) (os:List (Value×Nat)) (w:World) (r:LTs m.rs×LTs (B6 m.ps)) (v:Value) (w':World):Prop where
 ex:∃vs os1 os2,v=M8 vs/\Cc P w' (λb=>b∈Az (os1++os2)\/Z b) (ar args) m.rs r.1 vs os1/\Cc P w' (λb=>b∈Az (os1++os2)\/Z b) (ar args) (B6 m.ps) r.2 (Je m.ps args) os2/\
  (Az<|os1++os2).Nodup/\(∀b∈Az (os1++os2),(b∈Az os\/w.heap.size<=b)/\b<w'.heap.size)
 wos:w'.os=w.os
 tape:w'.tape=w.tape
 output:w'.output=w.output
 size:w.heap.size<=w'.heap.size
 block:∀b,b<w.heap.size->b ∉ Az os->w'.heap[b]? =w.heap[b]?
 pk:Pk P w w'
def Gt(P:Program)(f:FuncId)(m:Da):Prop:=MI P f/\ ∀(x:LTs m.ps) (r:LTs m.rs×LTs (B6 m.ps)),m.g x=I r->∀(w:World) (Z:Nat->Prop) (args:List Value) (os:List (Value×Nat)),
 Cc P w (λb=>b∈Az os\/Z b) (ar args) m.ps x args os->(Az os).Nodup->(∀b∈Az os,b<w.heap.size/\ ¬Z b)->(∀b,Z b->b<w.heap.size)->NB P w (λb=>b∈Az os)->
 Calls P f args.toArray w λen w'=>∃v,en= .returned v/\Ret P m Z args os w r v w'
section
variable {C:Cx} {B:Be} {β:Beta} {H:Hp} {w w':World} {M:Nat->Prop} {stk:List (Array Value)} {s s':S} {a:Act} {P:Program} {e e':Nat->Value}
mutual
theorem Rel.congr:∀(h:Sh) (x:LT h) (v:Value) (os:List (Value×Nat)),(∀t∈Lu h,e t=e' t)->Rel P w M e h x v os->Rel P w M e' h x v os
 | .int _,_,_,_,_,h=>h
 | .bool,_,_,_,_,h=>h
 | .str,_,_,_,_,h=>h
 | .sl _,_,_,_,_,h=>h
 | .fz _,_,_,_,_,h=>h
 | .row _ _,_,_,_,_,h=>h
 | .Cb _ _,_,_,_,_,h=>h
 | .abx _ _,_,_,_,_,h=>h
 | .arr _,_,_,_,_,h=>h
 | .same t,_,_,_,he,h=>⟨h.1,h.2.1.trans<|he t<|by simp[Lu],h.2.2⟩
 | .agg l,x,v,os,he,h=>by
  obtain⟨us,h1,h2⟩:=h;exact⟨us,h1,Cc.congr l x us os he h2⟩
 | .box t l,x,v,os,he,h=>by
  obtain⟨b,us,os',h1,h2,h3,h4⟩:=h;exact⟨b,us,os',h1,h2,Cc.congr l x us.toList os' he h3,h4⟩
theorem Cc.congr:∀(l:List Sh) (x:LTs l) (us:List Value) (os:List (Value×Nat)),(∀t∈IZ l,e t=e' t)->Cc P w M e l x us os->Cc P w M e' l x us os
 | [],_,_,_,_,h=>h
 | h::l,x,us,os,he,hr=>by
  obtain⟨u,us',o1,o2,h1,h2,h3,h4⟩:=hr;exact⟨u,us',o1,o2,h1,h2,Rel.congr h x.1 u o1 (λt ht=>he t<|CE _ ht) h3,Cc.congr l x.2 us' o2 (λt ht=>he t<|Cy _ ht) h4⟩
end
def Cc.length:∀ {l:List Sh} {x:LTs l} {us:List Value} {os:List (Value×Nat)},Cc P w M e l x us os->us.length=l.length
 | [],_,_,_,h=>by rw[h.1];rfl
 | h::l,x,us,os,hr=>by
  obtain⟨u,us',o1,o2,rfl,_,_,h4⟩:=hr;simp[Cc.length h4]
def xQ{E:Nat->AV}:∀ {l:List Sh} {cs:List AV} {x:LTs l},Fv E H l cs=I x->cs.length=l.length
 | [],[],_,_=>rfl
 | [],_::_,_,h=>by cases h
 | _::_,[],_,h=>by cases h
 | h::l,c::cs,x,hx=>by
  obtain⟨x1,e1,hx⟩:=An.1 hx;obtain⟨x2,e2,hx⟩:=An.1 hx;simp[xQ e2]
def adJ:∀ {l l':List Sh} {cs cs':List AV},cs.length=l.length->Bm H (l++l') (cs++cs')=Bm H l cs++Bm H l' cs'
 | [],l',[],cs',_=>rfl
 | h::l,l',c::cs,cs',hl=>by
  simp only[L4,Bm,adJ (l:=l) (cs:=cs)<|by simpa using hl,C7]
 | [],_,_::_,_,hl=>by simp at hl
 | _::_,_,[],_,hl=>by simp at hl
def wj:∀ {l l':List Sh} {cs cs':List AV},cs.length=l.length->Cz H (l++l') (cs++cs')=Cz H l cs++Cz H l' cs'
 | [],l',[],cs',_=>rfl
 | h::l,l',c::cs,cs',hl=>by
  simp only[L4,Cz,wj (l:=l) (cs:=cs)<|by simpa using hl,C7]
 | [],_,_::_,_,hl=>by simp at hl
 | _::_,_,[],_,hl=>by simp at hl
def TU(tmps:Array Value):ResultVar->Sem Value
 | .tmp t=>pure (tmps.getD t undef)
 | .cell a t=>do loadVar t (← asAddr<|tmps.getD a undef)
def bp(hP:P=B.P)(hst:St B β stk s a w):∀(l:List ResultVar) {vs:List AV},RM P s l=I vs->
  ∃us:List Value,(l.mapM<|TU a.tmps).run P w=Result.ok us w/\us.length=vs.length/\ ∀(i:Nat) (c:AV) (u:Value),vs[i]? =I c->us[i]? =I u->RX w β (Ba a) c u
 | [],vs,h=>by
  cases h;exact⟨[],rfl,rfl,λi c u h=>by simp at h⟩
 | .tmp t::l,vs,h=>by
  obtain⟨vs',h1,h⟩:=An.1 h;cases h;obtain⟨us,k1,k2,k3⟩:=bp hP hst l h1;refine⟨Ba a t::us, ?_,by simp[k2],λi c u h1 h2=> ?_⟩
  .simp only[WO,TU,El,Fl,Er,k1];rfl
  .cases i with
   | zero=>
    simp at h1 h2;subst h1;subst h2;exact(hst.T t).ZP
   | succ i=>exact k3 i c u (by simpa using h1)<|by simpa using h2
 | .cell x t::l,vs,h=>by
  obtain⟨v,h0,h⟩:=An.1 h;obtain⟨vs',h1,h⟩:=An.1 h;cases h;obtain⟨us,k1,k2,k3⟩:=bp hP hst l h1;have hx:R2 w β (s.T x) (Ba a x):=(hst.T x).Yq (by
   cases hT:s.T x<;>first|rfl|(rw[hT]at h0;cases h0))
  obtain⟨u,j1,j2⟩:=aaA hP hst.hs hx h0;have alf:∃ad,Ba a x= .pointer (I ad):=by
   cases hT:s.T x<;>rw[hT]at h0 hx<;>first|(cases h0;done)|skip
   .rename_i id z i o;have hx:RC w β (.ptr id z i o) (Ba a x):=hx;generalize Ba a x=y at hx;cases hx;exact⟨_,rfl⟩
   .rename_i k xx o;have hx:RC w β (.ipt k xx o) (Ba a x):=hx;generalize Ba a x=y at hx;cases hx;exact⟨_,rfl⟩
  obtain⟨ad,had⟩:=alf;have aiG:a.tmps.getD x undef= .pointer (I ad):=had;rw[had]at j1;refine⟨u::us, ?_,by simp[k2],λi c u' h1 h2=> ?_⟩
  .have j1':(loadVar t ad).run P w= .ok u w:=by simpa[Mx,JO] using j1
   simp only[WO,TU,aiG,asAddr,El,Fl,Er,j1',k1]
  .cases i with
   | zero=>
    simp at h1 h2;subst h1;subst h2;exact(RT.HC<|R2.HP j2).ZP
   | succ i=>exact k3 i c u' (by simpa using h1)<|by simpa using h2
def aDs{fn:Func}{us:List Value}(h:(fn.results.toList.mapM<|TU a.tmps).run P w=Result.ok us w):(results fn a.tmps).run P w= .ok (M8 us) w:=by
 have e1:results fn a.tmps=(do
   let vs ← fn.results.mapM (TU a.tmps)
   pure (if h:vs.size=1 then vs[0] else .tuple vs)):=rfl
 rw[e1,Array.mapM_eq_mapM_toList,map_eq_pure_bind];simp only[bind_assoc,pure_bind,El,h,Er,Fl]
 match us with
 | []=>rfl
 | [u]=>rfl
 | u::v::l=>simp[M8]
end
end Go.VS
namespace Go.VS
open Go
def okM(m:Da)(n:Nat):Bool:=KJ m.ps&&KJ m.rs&&E0 m.ps.length n&&(IZ m.rs++IZ (B6 m.ps)).all λt=>(Dz 0 m.ps).any λp=>Aj p t
section
variable {C:Cx} {B:Be} {β:Beta} {H:Hp} {w w':World} {M:Nat->Prop} {stk:List (Array Value)} {s s':S} {a:Act} {P:Program} {e e':Nat->Value} {inl:(Ω:Type)->Inl Ω}
def SX{E:Nat->AV}:∀ {l:List Sh} {cs:List AV} {x:LTs l},Fv E H l cs=I x->∀c∈cs,(∀g w v,c≠ .gd g w v)/\ ∀vs,c≠ .tup vs
 | [],[],_,_,c,hc=>by cases hc
 | [],_::_,_,h,_,_=>by cases h
 | _::_,[],_,h,_,_=>by cases h
 | h::l,d::cs,x,hx,c,hc=>by
  obtain⟨x1,e1,hx⟩:=An.1 hx;obtain⟨x2,e2,hx⟩:=An.1 hx;rcases Bk.1 hc with rfl|hc
  .exact aAm e1
  .exact SX e2 c hc
def RX.Lq{tm:Nat->Value}{c:AV}{v:Value}(h:RX w β tm c v)(h1:∀g w v,c≠ .gd g w v)(h2:∀vs,c≠ .tup vs):R1 w β c v:=by
 have:=h.of h1;cases c<;>first|exact this|exact absurd rfl (h2 _)
def wF(args:List Value):∀(ps:List Sh) (k:Nat),args.length=k+ps.length->Je ps (args.drop k)=(Dz k ps).map (ar args)
 | [],k,h=>by
  have:args.drop k=[]:=KR (by simp at h;omega);rw[this];rfl
 | p::ps,k,h=>by
  have hk:k<args.length:=by simp at h;omega
  rw[VB hk];have ih:=wF args ps (k+1) (by simp at h ⊢; omega);have jA:ar args k=args[k]:=by simp[ar,hk]
  cases p<;>simp only[Je,Dz,Vm,DW,ih,jA]
def U2(args:List Value)(n t:Nat):Ba { tmps:=args.toArray++Ra (n - args.toArray.size) undef,defers:=[] } t=ar args t:=by
 simp only[Ba,ar,TH,BD];by_cases h:t<args.length
 .rw[MQ<|by simpa using h];simp
 .rw[Array.getElem?_append_right<|by simpa using h,I7 J];cases hr:(Ra (n - args.toArray.size) undef)[t - args.toArray.size]? with
  | none=>rfl
  | some v=>
   rw[Array.getElem?_replicate]at hr;split at hr
   .cases hr;rfl
   .cases hr
def X8{fn:Func}{m:Da}{r:LTs m.rs×LTs (B6 m.ps)}{args:List Value}{os:List (Value×Nat)}(hst:St B β stk s a w)(hO:B.O=λb=>b∈Az os)(htm:B.tm0=ar args)(hlen:args.length=m.ps.length)(hp:s.pins=Dz 0 m.ps)
  {n:Nat}(hok:okM m n=A1)(hf:fin B.P fn m s=I r):∃v,(results fn a.tmps).run B.P w= .ok v w/\Ret B.P m B.Z args os B.w0 r v w:=by
 unfold fin at hf;obtain⟨vs,h1,hf⟩:=An.1 hf;split at hf
 .rename_i hnd;simp only[AI]at hnd;obtain⟨r1,h2,hf⟩:=An.1 hf;obtain⟨q,h3,hf⟩:=An.1 hf;cases hf;obtain⟨us,k1,k2,k3⟩:=bp rfl hst fn.results.toList h1;have hl1:=xQ h2;rw[adJ hl1,wj hl1]at hnd;generalize asK:Bm s.H m.rs vs=Mq at hnd;generalize ayJ:Bm s.H (B6 m.ps) ((Dz 0 m.ps).map s.T)=Nh at hnd;have R:Nl B β s.H w (MO B<|Az<|(Mq++Nh).filterMap β) s.T (Ba a):={
   hs:=hst.hs
   hM:=λb hb=>aEe hst.hs hb
   hE:=λt id z e=>(hst.T t).Lq (by rw[e];simp) (by rw[e];simp) }
  have hfz:=gW hst.hs hnd.2;have rl1:RL (R1 w β) vs us:=⟨k2,λj c u e1 e2=>(k3 j c u e1 e2).Lq (SX h2 c<|Cg e1).1 (SX h2 c<|Cg e1).2⟩;have rl2:RL (R1 w β) ((Dz 0 m.ps).map s.T) ((Dz 0 m.ps).map<|Ba a):=⟨by simp,λj c u e1 e2=>by
   obtain⟨h5,h6⟩:=SX h3 c<|Cg e1;rw[DE]at e1 e2;obtain⟨t,ht,rfl⟩:=DL.1 e1;obtain⟨t',ht',rfl⟩:=DL.1 e2;rw[ht]at ht';cases ht';exact(hst.T t).Lq h5 h6⟩
  obtain⟨os1,j1,j2⟩:=XF R m.rs vs us r1 rl1 h2 (λi hi=>hfz i<|CE _ hi);obtain⟨os2,j3,j4⟩:=XF R (B6 m.ps) _ _ q rl2 h3 (λi hi=>hfz i<|Cy _ hi);rw[asK]at j2;rw[ayJ]at j4;have G2:Az (os1++os2)=Az ((Mq++Nh).filterMap β):=by
   simp only[Az,Md]at j2 j4 ⊢;rw[j2,j4]
  have mU:MO B (Az<|(Mq++Nh).filterMap β)=λb=>b∈Az (os1++os2)\/B.Z b:=by rw[G2]
  rw[mU]at j1 j3;have wv:∀t∈Dz 0 m.ps,Ba a t=ar args t:=λt ht=>by rw[hst.pins t (by rw[hp];exact ht),htm]
  simp only[okM,AI,Cr,I5]at hok;have Gn:∀t∈IZ m.rs++IZ (B6 m.ps),Ba a t=ar args t:=λt ht=>by
   obtain⟨p,hp1,hp2⟩:=hok.2 t ht;rw[← Bn hp2];exact wv p hp1
  refine⟨M8 us,aDs k1,⟨us,os1,os2,rfl,Cc.congr _ _ _ _ (λt ht=>Gn t<|CE _ ht) j1, ?_, ?_, ?_⟩,hst.hs.os,hst.hs.tape,hst.hs.output,hst.hs.size, ?_,hst.hs.pk⟩
  .have e1:Je m.ps args=(Dz 0 m.ps).map (Ba a):=by
    have:=wF args m.ps 0 J;rw[J0]at this;rw[this];exact Gz λt ht=>(wv t ht).symm
   rw[e1];exact Cc.congr _ _ _ _ (λt ht=>Gn t<|Cy _ ht) j3
  .rw[G2];exact az hst.hs (eQ hnd.1)
  .intro b hb;rw[G2]at hb;have:=hst.hs.old b<|Tf hb;rw[hO]at this;exact this
  .intro b hb hn;have:=hst.hs.block b hb;rw[hO]at this;exact this hn
 .cases hf
def azb{P:Program}(hP:C.P=P)(hm:P.follows .mixedOrders=A1)(hC:∀B:Be,B.P=P->H9 C B)(hI:∀B:Be,B.P=P->JG C B inl){f:FuncId}{fn:Func}{body:Code}(hf:P.funcs[f]? =I fn)(K7:(fn.name == "runtime.NumGoroutine")=A3)
  (hb:fn.body=I body){v:Adv}{m:Da}(hok:okM m fn.ntmps=A1)(GS:∀B:Be,B.P=P->I2 (Mz B fn.ntmps<|Dz 0 m.ps) body v)(hg:∀x,cN C inl fn v m x=m.g x):Gt P f m:=by
 refine⟨NZ hf K7 hb,λx r hx w Z args os hr hnd hbl hZ hgl=> ?_⟩;rw[← hg]at hx;unfold cN at hx;rw[hb]at hx;simp only[evF]at hx;have U7:=hok;simp only[okM,AI]at U7;obtain⟨⟨⟨hps,hrs⟩,hn⟩,_⟩:=U7;have hn:=DQ hn;have hlen:=hr.length
 let B:Be:={ P:=P,w0:=w,O:=λb=>b∈Az os,tm0:=ar args,Z:=Z,gl:=hgl }
 have QM:Num (I0 Z os) 0 os:=s9 Z os;obtain⟨k1,k2,k3⟩:=dO (β:=I0 Z os) (E:=λ_=> .un) (M:=λb=>b∈Az os\/Z b) (P:=P) (w:=w) (e:=ar args) (λb hb=>iV (B:=B) hb) m.ps (λ_=>U) 0 x args os hps hr QM (λt _=>trivial);have hi:Q6 fn.ntmps m.ps x=(match Ak (λ_=> .un) (λ_=>U) 0 m.ps x with
  | (vs,H,b)=>{ n:=fn.ntmps,T:=λt=>(vs[t]?).getD Dp,H:=H,nid:=b,st:=[],pins:=Dz 0 m.ps,gs:=λ_=>A3 }):=rfl
 rw[hi]at hx;generalize Ak (λ_=> .un) (λ_=>U) 0 m.ps x=q at *;obtain⟨vs,H,b⟩:=q;simp only at hx k1 k2 k3;have hH:Hs B (I0 Z os) H w:={
  ER:=λid ob ho=>by
   by_cases h:id<os.length
   .obtain⟨ob',h1,h2⟩:=k3.2 id (Cw _) J;rw[h1]at ho;cases ho;exact h2
   .rw[k3.1 id J]at ho;cases ho
  dom:=λid p hp=>by
   have h:id<os.length:=(BP.1<|show os[id]? =I p from hp).1;obtain⟨ob',h1,_⟩:=k3.2 id (Cw _) J;exact⟨ob',h1⟩
  inj:=λi j p q a a' hi hj=>cI hnd i j p q a a' hi hj
  old:=λb hb=>⟨.inl<|NU hb,(hbl b<|NU hb).1⟩
  os:=rfl
  tape:=rfl
  output:=rfl
  size:=As _
  block:=λ_ _ _=>rfl
  z:=rfl
  zn:=λid p a hp ha=>(hbl _<|NU (Z:=Z) ⟨id,p.1,p.2,a,hp,ha,rfl⟩).2
  zl:=hZ
  pk:=Pk.refl _ _ }
 refine calls_of_wp hf hb ?_;have hst:St B (I0 Z os) [] { n:=fn.ntmps,T:=λt=>(vs[t]?).getD Dp,H:=H,nid:=b,st:=[],pins:=Dz 0 m.ps,gs:=λ_=>A3 } { tmps:=args.toArray++Ra (fn.ntmps - args.toArray.size) undef,defers:=[] } w:=by
  refine⟨λt=> ?_,⟨rfl,λi T' tm h=>by simp at h⟩, ?_,rfl,λt _=>U2 args _ t,λt g want y hy=> ?_,hH⟩
  .rw[U2];show RT w _ _ ((vs[t]?).getD Dp) _;cases hv:vs[t]? with
   | none=>
    have:args.length<=t:=by
     rw[k1.1];exact XW.1 hv
    show RT w _ _ Dp (ar args t);have e0:ar args t=undef:=by simp[ar,I7 this]
    rw[e0];rfl
   | some c=>
    have hlt:t<args.length:=by rw[k1.1];exact(BP.1 hv).1
    have hu:args[t]? =I (ar args t):=by simp[ar,hlt]
    exact(k1.2 t c _ hv hu).Zt
  .simp;omega
  .have hy:(vs[t]?).getD Dp= .gd g want y:=hy;cases hv:vs[t]? with
   | none=>rw[hv]at hy;cases hy
   | some c=>
    rw[hv]at hy;have hy:c= .gd g want y:=hy;have hlt:t<args.length:=by rw[k1.1];exact(BP.1 hv).1
    have hu:args[t]? =I (ar args t):=by simp[ar,hlt]
    have:=k1.2 t c _ hv hu;rw[hy]at this;exact this.elim
 refine YW (B:=B) hP hm (hC B rfl) (hI B rfl) body v _ _ r hx hst (λj hj=>k3.1 j<|.inr (by have hj:b<=j:=hj;omega)) (GS B rfl) ⟨?_, ?_, ?_⟩
 .intro β' a' w' s' h1 h2 h3 h4 h5;obtain⟨v',i1,i2⟩:=X8 (B:=B) h1 rfl rfl hlen h4 hok (show fin P fn m s'=I r by rw[← hP];exact h5);exact⟨h1.defers,v',i1,v',rfl,i2⟩
 .intro β' a' w' s' h1 h2 h3 h4 h5;obtain⟨v',i1,i2⟩:=X8 (B:=B) h1 rfl rfl hlen h4 hok (show fin P fn m s'=I r by rw[← hP];exact h5);exact⟨h1.defers,v',i1,v',rfl,i2⟩
 .intro id β' a' w' s' h1 h2 h3 h4 h5;cases h5
end
end Go.VS
namespace Go.VS
open Go
def HQ(l:List Sh):Bool:=Hi l&&l.all λh=> !Vm h
section
variable {B:Be} {β β':Beta} {H:Hp} {w w':World} {M:Nat->Prop} {stk:List (Array Value)} {s s':S} {a:Act} {P:Program} {E:Nat->AV} {e:Nat->Value} {b:Nat}
mutual
theorem apU:∀h:Sh,Ds h=A1->IU h=A1/\Lu h=[]
 | .int _,_=>⟨rfl,rfl⟩
 | .bool,_=>⟨rfl,rfl⟩
 | .str,_=>⟨rfl,rfl⟩
 | .sl _,_=>⟨rfl,rfl⟩
 | .row _ _,_=>⟨rfl,rfl⟩
 | .fz _,_=>⟨rfl,rfl⟩
 | .Cb _ _,_=>⟨rfl,rfl⟩
 | .abx _ _,_=>⟨rfl,rfl⟩
 | .arr _,h=>by simp[Ds]at h
 | .agg _,h=>by simp[Ds]at h
 | .same _,h=>by simp[Ds]at h
 | .box _ l,h=>by
  have:=gE l (by simpa[Ds] using h);exact⟨by simpa[IU] using this.1,by simpa[Lu] using this.2⟩
theorem gE:∀l:List Sh,Hi l=A1->Mc l=A1/\IZ l=[]
 | [],_=>⟨rfl,rfl⟩
 | h::l,hl=>by
  simp only[Hi,AI]at hl;have h1:=apU h hl.1;have h2:=gE l hl.2;exact⟨by simp[Mc,h1.1,h2.1],by simp[IZ,h1.2,h2.2]⟩
end
def YP:∀(l:List Sh) (H:Hp) (b:Nat) (cs:List AV) (x:LTs l),HQ l=A1->BQ E H b l cs x=Ak E H b l x
 | [],_,_,_,_,_=>rfl
 | h::l,H,b,cs,x,hl=>by
  simp only[HQ,Hi,Ph,AI]at hl;obtain⟨⟨h1,h2⟩,h3,h4⟩:=hl;have un:BQ E H b (h::l) cs x=(match D5 E H b h (cs.headD .un) x.1 with|(d,H,b)=>match BQ E H b l cs.tail x.2 with|(ds,H,b)=>(d::ds,H,b)):=rfl;have un2:Ak E H b (h::l) x=(match BL E H b h x.1 with|(c,H,b)=>match Ak E H b l x.2 with|(cs,H,b)=>(c::cs,H,b)):=rfl;have e1:D5 E H b h (cs.headD .un) x.1=BL E H b h x.1:=ij h1 (λt l' e'=>by rw[e']at h3;simp[Vm]at h3);rw[un,un2,e1];generalize BL E H b h x.1=r;obtain⟨c,H',b'⟩:=r;simp only;rw[YP l H' b' cs.tail x.2 (by simp only[HQ,AI];exact⟨h2,h4⟩)]
mutual
theorem aD5:∀(h:Sh) (H:Hp) (b:Nat) (x:LT h) (v:Value) (os:List (Value×Nat)),IU h=A1->Rel P w M e h x v os->(BL E H b h x).2.2=b+os.length
 | .int k,H,b,x,v,os,_,hr=>by obtain⟨_,rfl⟩:=hr;rfl
 | .bool,H,b,x,v,os,_,hr=>by obtain⟨_,rfl⟩:=hr;rfl
 | .str,H,b,x,v,os,_,hr=>by obtain⟨_,rfl⟩:=hr;rfl
 | .sl k,H,b,x,v,os,_,hr=>by obtain⟨_,rfl⟩:=hr;rfl
 | .fz k,H,b,x,v,os,_,hr=>by obtain⟨_,rfl⟩:=hr;rfl
 | .row t k,H,b,x,v,os,_,hr=>by obtain⟨rfl,_⟩:=hr;rfl
 | .Cb t k,H,b,x,v,os,_,hr=>by obtain⟨rfl,_⟩:=hr;rfl
 | .abx t k,H,b,x,v,os,_,hr=>by obtain⟨rfl,_⟩:=hr;rfl
 | .arr _,_,_,_,_,_,h,_=>by simp[IU]at h
 | .agg _,_,_,_,_,_,h,_=>by simp[IU]at h
 | .same t,H,b,x,v,os,_,hr=>by obtain⟨rfl,_⟩:=hr;rfl
 | .box t l,H,b,x,v,os,hl,hr=>by
  obtain⟨bb,us,os',rfl,h2,h3,rfl⟩:=hr;have un:BL E H b (.box t l) x=(match Ak E H b l x with|(cs,H,b)=>(AV.ptr b cs.length 0 0,upd H b<|I<|.box t cs,b+1)):=rfl;have k:=bU l H b x us.toList os' (by simpa[IU] using hl) h3;rw[un];generalize Ak E H b l x=r at *;obtain⟨cs,H',b'⟩:=r;have k:b'=b+os'.length:=k;simp[k,DH]
theorem bU:∀(l:List Sh) (H:Hp) (b:Nat) (x:LTs l) (us:List Value) (os:List (Value×Nat)),Mc l=A1->Cc P w M e l x us os->(Ak E H b l x).2.2=b+os.length
 | [],H,b,x,us,os,_,hr=>by obtain⟨_,rfl⟩:=hr;rfl
 | h::l,H,b,x,us,os,hl,hr=>by
  obtain⟨u,us',o1,o2,rfl,rfl,h1,h2⟩:=hr;simp only[Mc,AI]at hl;have un:Ak E H b (h::l) x=(match BL E H b h x.1 with|(c,H,b)=>match Ak E H b l x.2 with|(cs,H,b)=>(c::cs,H,b)):=rfl;have k:=aD5 h H b x.1 u o1 hl.1 h1;rw[un];generalize BL E H b h x.1=r at *;obtain⟨c,H',b'⟩:=r;have k:b'=b+o1.length:=k;subst k;have k2:=bU l H' (b+o1.length) x.2 us' o2 hl.2 h2;simp only;generalize Ak E H' (b+o1.length) l x.2=r at *;obtain⟨cs,H'',b''⟩:=r;have k2:b''=_:=k2;simp[k2,DH]
end
mutual
theorem ast:∀(h:Sh) (H:Hp) (b:Nat) (x:LT h) (j:Nat),¬(b<=j/\j<(BL E H b h x).2.2)->(BL E H b h x).2.1 j=H j
 | .int _,H,_,_,_,_=>rfl
 | .bool,H,_,_,_,_=>rfl
 | .str,H,_,_,_,_=>rfl
 | .sl _,H,_,_,_,_=>rfl
 | .arr _,H,_,_,_,_=>rfl
 | .same _,H,_,_,_,_=>rfl
 | .fz _,H,_,_,_,_=>rfl
 | .row _ _,H,b,_,j,hj=>BE _ _ (λe=>hj ⟨J,by show j<b+1;omega⟩)
 | .Cb _ _,H,b,_,j,hj=>BE _ _ (λe=>hj ⟨J,by show j<b+1;omega⟩)
 | .abx _ _,H,b,_,j,hj=>BE _ _ (λe=>hj ⟨J,by show j<b+1;omega⟩)
 | .agg l,H,b,x,j,hj=>by
  have un:BL E H b (.agg l) x=(match Ak E H b l x with|(cs,H,b)=>(AV.agg cs,H,b)):=rfl;have ih:=fW l H b x j;rw[un]at hj ⊢;generalize Ak E H b l x=r at *;exact ih hj
 | .box e l,H,b,x,j,hj=>by
  have un:BL E H b (.box e l) x=(match Ak E H b l x with|(cs,H,b)=>(AV.ptr b cs.length 0 0,upd H b<|I<|.box e cs,b+1)):=rfl;have ih:=fW l H b x j;have hle:=JB E l H b x;rw[un]at hj ⊢;generalize Ak E H b l x=r at *;obtain⟨cs,H',b'⟩:=r;simp only at hj ih hle ⊢;rw[BE _ _ λe=>hj ⟨J,J⟩];exact ih λh=>hj ⟨h.1,J⟩
theorem fW:∀(l:List Sh) (H:Hp) (b:Nat) (x:LTs l) (j:Nat),¬(b<=j/\j<(Ak E H b l x).2.2)->(Ak E H b l x).2.1 j=H j
 | [],H,_,_,_,_=>rfl
 | h::l,H,b,x,j,hj=>by
  have un:Ak E H b (h::l) x=(match BL E H b h x.1 with|(c,H,b)=>match Ak E H b l x.2 with|(cs,H,b)=>(c::cs,H,b)):=rfl;have ih:=ast h H b x.1 j;have hle:=EN E h H b x.1;rw[un]at hj ⊢;generalize BL E H b h x.1=r at *;obtain⟨c,H',b'⟩:=r;have ih2:=fW l H' b' x.2 j;have PU:=JB E l H' b' x.2;simp only at hj ⊢;generalize Ak E H' b' l x.2=r at *;obtain⟨cs,H'',b''⟩:=r;simp only at hj ih ih2 hle PU ⊢;rw[ih2 λh=>hj ⟨J,h.2⟩];exact ih λh=>hj ⟨h.1,J⟩
end
end
end Go.VS
namespace Go.VS
open Go
section
variable {B B':Be} {β β':Beta} {H:Hp} {w w':World} {M M':Nat->Prop} {stk:List (Array Value)} {s s':S} {a:Act} {P:Program} {E:Nat->AV} {e:Nat->Value} {b:Nat}
def St.aq8{f:AV->AV}(h:St B β stk s a w)(ht:B'.tm0=B.tm0)(hf:∀c,GM c=A1->f c=c)(hg:∀c g want x,f c= .gd g want x->∃y,c= .gd g want y)(hk:Kf f w β w' β'){H':Hp}(hH:Hs B' β' H' w'):St B' β' stk { s.map f with H:=H' } a w':=by
 have g1:∀c g want x,Ft f c= .gd g want x->∃y,c= .gd g want y:=by
  intro c g want x e;cases c<;>first|(cases e;done)|exact hg _ _ _ _ e
 have g2:∀c g want x,GA f c= .gd g want x->∃y,c= .gd g want y:=by
  intro c g want x e;cases c<;>first|(cases e;done)|exact g1 _ _ _ _ e
 have g3:∀c g want x,En f c= .gd g want x->∃y,c= .gd g want y:=by
  intro c g want x e;cases c with
  | gd g' w' y=>cases e;exact⟨_,rfl⟩
  | _=>exact g2 _ _ _ _ e
 refine⟨λt=>RT.map hf hk<|h.T t,⟨by simpa[S.map] using h.stack.1,λi T tm h1 h2 t=> ?_⟩,h.n,h.defers,λt ht'=>by rw[ht];exact h.pins t ht',λt g want x hx=> ?_,hH⟩
 .simp only[S.map,DE,DL]at h1;obtain⟨T0,h3,rfl⟩:=h1;exact RT.map hf hk (h.stack.2 i T0 tm h3 h2 t)
 .obtain⟨y,hy⟩:=g3 _ _ _ _ hx;exact h.gs _ _ _ _ hy
def Beta.kz(β:Beta)(id:Nat):Beta:=⟨upd β.f id U,λb=>β.Z b\/ ∃p a,β id=I p/\adr p.1=I a/\a.block=b⟩
def Beta.Wm(β:Beta)(id j:Nat):(β.kz id) j=if j=id then U else β j:=by
 show upd β.f id U j=_;by_cases e:j=id
 .subst e;rw[Bl,A8 rfl]
 .rw[BE _ _ e,AB e]
def St.aoe(h:St B β stk s a w)(id:Nat):St { B with Z:=(β.kz id).Z } (β.kz id) stk (s.kill id) a w:=by
 have hM:∀b,¬MZ β b->b<w.heap.size->¬MZ (β.kz id) b:=λb hb _ hm=>by
  obtain⟨j,hd,n,a,hj,ha,hab⟩|hz|⟨p,a,hp,ha,hab⟩:=hm
  .rw[Beta.Wm]at hj;split at hj
   .cases hj
   .exact hb (.inl ⟨j,hd,n,a,hj,ha,hab⟩)
  .exact hb (.inr hz)
  .exact hb<|.inl ⟨id,p.1,p.2,a,hp,ha,hab⟩
 have hk:Kf (kl1 id) w β w (β.kz id):=Kf.kill (λj e=>BE _ _ e) (λ_ _ _ _ h=>h) hM;have hH:=h.hs.acy (J4 id) hk (λj e=>BE _ _ e) (.inl ⟨Bl _ _ _,rfl⟩) (λ_ _ _ _ _ _=>rfl) rfl rfl rfl (As _) (λ_ _ _=>rfl) (λb hb=>hb.imp (λh=>h) λh=>⟨Bl _ _ _,h⟩) (Pk.refl _ _);exact h.aq8 (B':={ B with Z:=(β.kz id).Z }) rfl (J4 id) (PT id) hk hH
def St.uQ:∀(ids:List Nat) {B:Be} {β:Beta} {s:S},ids.Nodup->St B β stk s a w->∃β2:Beta,St { B with Z:=β2.Z } β2 stk (ids.foldl S.kill s) a w/\(∀j,β2 j=if j∈ids then U else β j)/\
  (∀b,β2.Z b↔β.Z b\/ ∃i∈ids,∃p a,β i=I p/\adr p.1=I a/\a.block=b)
 | [],B,β,s,_,h=>by
  have e:{ B with Z:=β.Z } =B:=by rw[h.hs.z]
  exact⟨β,by rw[e];exact h,λj=>by simp,λb=>by simp⟩
 | i::ids,B,β,s,hn,h=>by
  obtain⟨hn1,hn2⟩:=Lc.1 hn;obtain⟨β2,h1,h2,h3⟩:=St.uQ ids hn2<|h.aoe i;refine⟨β2,h1,λj=> ?_,λb=> ?_⟩
  .rw[h2,Beta.Wm];by_cases e1:j∈ids
   .rw[A8 e1,A8<|Al _ e1]
   .by_cases e2:j=i
    .rw[AB e1,A8 e2,A8 (by rw[e2];exact Ap)]
    .rw[AB e1,AB e2,AB<|by simp[e1,e2]]
  .rw[h3];constructor
   .rintro((h|⟨p,a,h⟩)|⟨j,hj,p,a,hp,h⟩)
    .exact .inl h
    .exact .inr ⟨i,Ap,p,a,h⟩
    .rw[Beta.Wm]at hp;split at hp
     .cases hp
     .exact .inr ⟨j,Al _ hj,p,a,hp,h⟩
   .rintro(h|⟨j,hj,p,a,hp,h⟩)
    .exact .inl (.inl h)
    .rcases Bk.1 hj with rfl|hj
     .exact .inl (.inr ⟨p,a,hp,h⟩)
     .refine .inr ⟨j,hj,p,a, ?_,h⟩;rw[Beta.Wm,AB fun(e:j=i)=>hn1<|e▸hj];exact hp
def St.ZD(h:St B β stk s a w)(id:Nat):St B (β.up id U) stk (s.freeze id) a w:=by
 unfold S.freeze;split
 .rename_i e fz k xs hid;obtain⟨h1,h2⟩:=h.hs.ZD hid;exact h.map (oC id k xs) (aC8 id k xs) h2 h1
 .obtain⟨h1,h2⟩:=h.hs.aay id;exact h.map (J4 id) (PT id) h2 h1
def St.abi:∀(ids:List Nat) {β:Beta} {s:S},St B β stk s a w->∃β2:Beta,St B β2 stk (ids.foldl S.freeze s) a w/\(∀j,β2 j=if j∈ids then U else β j)/\β2.Z=β.Z
 | [],β,s,h=>⟨β,h,λj=>by simp,rfl⟩
 | i::ids,β,s,h=>by
  obtain⟨β2,h1,h2,h3⟩:=St.abi ids<|h.ZD i;refine⟨β2,h1,λj=> ?_,h3⟩;rw[h2];by_cases e1:j∈ids
  .rw[A8 e1,A8<|Al _ e1]
  .by_cases e2:j=i
   .subst e2;rw[AB e1,A8 Ap,Beta.Tm]
   .rw[AB e1,Beta.O5 _ _ e2,AB<|by simp[e1,e2]]
def St.adX(q:Bool)(ids:List Nat)(h:St B β stk s a w):∃β2:Beta,St B β2 stk (GU q ids s) a w/\(∀j,β2 j=if q=A1/\j∈ids then U else β j)/\β2.Z=β.Z:=by
 cases q with
 | false=>exact⟨β,h,λj=>by simp,rfl⟩
 | true=>
  obtain⟨β2,h1,h2,h3⟩:=St.abi ids h;exact⟨β2,h1,λj=>by simp[h2],h3⟩
def yp{t:TypeId}{j:Nat}:∀(ids:List Nat) (s:S) {cs:List AV},j ∉ ids->s.H j=I (.box t cs)->∃cs',(ids.foldl S.kill s).H j=I (.box t cs')
 | [],s,cs,_,h=>⟨cs,h⟩
 | i::ids,s,cs,hj,h=>by
  have hne:j≠i:=λe=>hj<|e▸Ap;refine yp ids (s.kill i) (cs:=cs.map<|kl1 i) (λhm=>hj<|Al _ hm) ?_;show upd (λj=>CJ (kl1 i)<|s.H j) i U j=_;rw[BE _ _ hne,h];rfl
def ab4{t:TypeId}{j:Nat}:∀(ids:List Nat) (s:S) {cs:List AV},j ∉ ids->s.H j=I (.box t cs)->∃cs',(ids.foldl S.freeze s).H j=I (.box t cs')
 | [],s,cs,_,h=>⟨cs,h⟩
 | i::ids,s,cs,hj,h=>by
  have hne:j≠i:=λe=>hj<|e▸Ap;have:∃cs',(s.freeze i).H j=I (.box t cs'):=by
   unfold S.freeze;split
   .rename_i k xs _;refine⟨cs.map<|fz1 i k xs, ?_⟩;show upd (λj=>CJ (fz1 i k xs)<|s.H j) i U j=_;rw[BE _ _ hne,h];rfl
   .refine⟨cs.map<|kl1 i, ?_⟩;show upd (λj=>CJ (kl1 i)<|s.H j) i U j=_;rw[BE _ _ hne,h];rfl
  obtain⟨cs',h'⟩:=this;exact ab4 ids (s.freeze i) (λhm=>hj<|Al _ hm) h'
def aty{t:TypeId}{j:Nat}(q:Bool)(ids:List Nat)(s:S){cs:List AV}(hj:¬(q=A1/\j∈ids))(h:s.H j=I (.box t cs)):∃cs',(GU q ids s).H j=I (.box t cs'):=by
 cases q with
 | false=>exact⟨cs,h⟩
 | true=>exact ab4 ids s (λhm=>hj ⟨rfl,hm⟩) h
mutual
theorem axC:∀(h:Sh) (c:AV),(CD H h c).Sublist<|CV H h c
 | .int _,_=>Em _
 | .bool,_=>Em _
 | .str,_=>Em _
 | .sl _,_=>Em _
 | .arr _,_=>Em _
 | .same _,_=>Em _
 | .fz _,_=>Em _
 | .row _ _,c=>by cases c<;>exact Em _
 | .Cb _ _,c=>by cases c<;>exact Em _
 | .abx _ _,c=>by
  cases c with
  | ptr id z i o=>cases i<;>cases o<;>exact Em _
  | _=>exact Em _
 | .agg l,c=>by
  cases c with
  | agg cs=>exact ZL l cs
  | _=>exact Em _
 | .box t l,c=>by
  cases c with
  | ptr id z i o=>
   cases i<;>cases o<;>simp only[CD,CV]<;>first|exact Em _|skip
   split
   .exact(ZL l _).trans (List.sublist_append_left _ _)
   .exact Em _
  | _=>exact Em _
theorem ZL:∀(l:List Sh) (cs:List AV),(CU H l cs).Sublist<|Bm H l cs
 | [],_=>by simp only[CU,Bm];exact Em _
 | _::_,[]=>by simp only[CU,Bm];exact Em _
 | h::l,c::cs=>by
  simp only[CU,Bm];exact(axC h c).append<|ZL l cs
end
def QW(H:Hp)(i:Nat):Prop:=∀t cs,H i≠I (.box t cs)
mutual
theorem afI:∀(h:Sh) (c:AV) (x:LT h),Bp E H h c=I x->∀i∈CD H h c,QW H i
 | .int _,_,_,_,i,hi=>by simp[CD]at hi
 | .bool,_,_,_,i,hi=>by simp[CD]at hi
 | .str,_,_,_,i,hi=>by simp[CD]at hi
 | .sl _,_,_,_,i,hi=>by simp[CD]at hi
 | .arr _,_,_,_,i,hi=>by simp[CD]at hi
 | .same _,_,_,_,i,hi=>by simp[CD]at hi
 | .fz _,_,_,_,i,hi=>by simp[CD]at hi
 | .row t k,c,x,hx,i,hi=>by
  cases c<;>simp[CD]at hi;subst hi;intro t' cs hb;simp[Bp,hb]at hx
 | .Cb t k,c,x,hx,i,hi=>by
  cases c<;>simp[CD]at hi;subst hi;intro t' cs hb;simp[Bp,hb]at hx
 | .abx t k,c,x,hx,i,hi=>by
  cases c with
  | ptr id z i' o=>
   cases i'<;>cases o<;>simp[CD]at hi;subst hi;intro t' cs hb;simp[Bp,hb]at hx
  | _=>simp[CD]at hi
 | .agg l,c,x,hx,i,hi=>by
  cases c with
  | agg cs=>exact eV l cs x hx i<|by simpa[CD] using hi
  | _=>simp[CD]at hi
 | .box t l,c,x,hx,j,hi=>by
  cases c with
  | ptr id z i o=>
   cases i<;>cases o<;>simp only[CD]at hi<;>first|(simp at hi;done)|skip
   cases ho:H id with
   | none=>simp[ho]at hi
   | some ob=>
    cases ob with
    | box e' cs=>
     simp only[ho]at hi;simp only[Bp,ho]at hx;split at hx
     .exact eV l cs x hx j hi
     .cases hx
    | _=>simp[ho]at hi
  | _=>simp[CD]at hi
theorem eV:∀(l:List Sh) (cs:List AV) (x:LTs l),Fv E H l cs=I x->∀i∈CU H l cs,QW H i
 | [],cs,_,_,i,hi=>by simp[CU]at hi
 | _::_,[],_,_,i,hi=>by simp[CU]at hi
 | h::l,c::cs,x,hx,i,hi=>by
  obtain⟨x1,e1,hx⟩:=An.1 hx;obtain⟨x2,e2,hx⟩:=An.1 hx;simp only[CU,Br]at hi;obtain hi|hi:=hi
  .exact afI h c x1 e1 i hi
  .exact eV l cs x2 e2 i hi
end
mutual
theorem aim:∀(h:Sh) (c:AV) (x:LT h),Bp E H h c=I x->∀i∈Cn H h c,QW H i
 | .int _,_,_,_,i,hi=>by simp[Cn]at hi
 | .bool,_,_,_,i,hi=>by simp[Cn]at hi
 | .str,_,_,_,i,hi=>by simp[Cn]at hi
 | .sl _,_,_,_,i,hi=>by simp[Cn]at hi
 | .arr _,_,_,_,i,hi=>by simp[Cn]at hi
 | .same _,_,_,_,i,hi=>by simp[Cn]at hi
 | .row _ _,_,_,_,i,hi=>by simp[Cn]at hi
 | .Cb _ _,_,_,_,i,hi=>by simp[Cn]at hi
 | .abx _ _,_,_,_,i,hi=>by simp[Cn]at hi
 | .fz k,c,x,hx,i,hi=>by
  cases c<;>simp[Cn]at hi;subst hi;intro t' cs hb;simp[Bp,CF,hb]at hx
 | .agg l,c,x,hx,i,hi=>by
  cases c with
  | agg cs=>exact cy l cs x hx i<|by simpa[Cn] using hi
  | _=>simp[Cn]at hi
 | .box t l,c,x,hx,j,hi=>by
  cases c with
  | ptr id z i o=>
   cases i<;>cases o<;>simp only[Cn]at hi<;>first|(simp at hi;done)|skip
   cases ho:H id with
   | none=>simp[ho]at hi
   | some ob=>
    cases ob with
    | box e' cs=>
     simp only[ho]at hi;simp only[Bp,ho]at hx;split at hx
     .exact cy l cs x hx j hi
     .cases hx
    | _=>simp[ho]at hi
  | _=>simp[Cn]at hi
theorem cy:∀(l:List Sh) (cs:List AV) (x:LTs l),Fv E H l cs=I x->∀i∈Cz H l cs,QW H i
 | [],cs,_,_,i,hi=>by simp[Cz]at hi
 | _::_,[],_,_,i,hi=>by simp[Cz]at hi
 | h::l,c::cs,x,hx,i,hi=>by
  obtain⟨x1,e1,hx⟩:=An.1 hx;obtain⟨x2,e2,hx⟩:=An.1 hx;simp only[Cz,Br]at hi;obtain hi|hi:=hi
  .exact aim h c x1 e1 i hi
  .exact cy l cs x2 e2 i hi
end
def np{k:K}(h:RO k=A1)(x:Tof k):∀c∈enc k x,∃v,c= .lit v:=by
 have key:(enc k x).all (λc=>match c with
   | .lit _=>A1
   | _=>A3)=A1:=by cases k<;>first|(cases h;done)|rfl
 intro c hc;have:=Cr.1 key c hc;cases c<;>first|exact⟨_,rfl⟩|cases this
def WI:Beta:=⟨λ_=>U,λ_=>False⟩
def eL{b:Nat}:¬MZ WI b:=by
 rintro(⟨_,_,_,_,h,_⟩|h)
 .cases h
 .exact h
def FP.anyM{t:TypeId}{fz:Bool}{k:K}{xs:List (Tof k)}{v:Value}(hk:RO k=A1)(h:FP w β t fz k xs v):FP w β' t fz k xs v:=by
 obtain h|⟨b,f,cap,us,fr,h1,h2,h3,h4,h5,h6,h7⟩:=h
 .exact .inl h
 .refine .inr ⟨b,f,cap,us,fr,h1,h2,h3,h4,h5,h6,λi x j c u a1 a2 a3=> ?_⟩;have h8:=h7 i x j c u a1 a2 a3;obtain⟨v,rfl⟩:=np hk x c<|Cg a2;cases h8 with
  | lit h=>exact .lit h
mutual
theorem Rel.anyM:∀(h:Sh) (x:LT h) (v:Value) (os:List (Value×Nat)),M3 h=A3->Rel P w M e h x v os->Rel P w M' e h x v os
 | .int _,_,_,_,_,h=>h
 | .bool,_,_,_,_,h=>h
 | .str,_,_,_,_,h=>h
 | .sl _,_,_,_,h,_=>by cases h
 | .fz _,_,_,_,h,_=>by cases h
 | .row t k,_,_,_,hm,h=>⟨h.1,h.2.1,λβ _=>(h.2.2 WI λb hb=>absurd hb eL).anyM<|by simpa[M3] using hm⟩
 | .Cb t k,_,_,_,hm,h=>⟨h.1,h.2.1,λβ _=>(h.2.2 WI λb hb=>absurd hb eL).anyM<|by simpa[M3] using hm⟩
 | .abx t k,_,_,_,hm,h=>by
  obtain⟨h1,h2,b,us,h3,h4,h5,h6,h7⟩:=h;refine⟨h1,h2,b,us,h3,h4,h5,h6,λβ _ i x j c u a1 a2 a3=> ?_⟩;have h8:=h7 WI (λb hb=>absurd hb eL) i x j c u a1 a2 a3;obtain⟨v,rfl⟩:=np (by simpa[M3] using hm) x c<|Cg a2;cases h8 with
  | lit h=>exact .lit h
 | .arr k,_,_,_,hm,h=>by
  obtain⟨h1,h2⟩:=h;refine⟨h1,λβ _=> ?_⟩;obtain⟨us,k1,k2,k3⟩:=h2 WI (λb hb=>absurd hb eL);refine⟨us,k1,k2,λi x j c u a1 a2 a3=> ?_⟩;have h8:=k3 i x j c u a1 a2 a3;obtain⟨v,rfl⟩:=np (by simpa[M3] using hm) x c<|Cg a2;cases h8 with
  | lit h=>exact .lit h
 | .same t,_,_,_,_,h=>h
 | .agg l,x,v,os,hm,h=>by
  obtain⟨us,h1,h2⟩:=h;exact⟨us,h1,Cc.anyM l x us os (by simpa[M3] using hm) h2⟩
 | .box t l,x,v,os,hm,h=>by
  obtain⟨b,us,os',h1,h2,h3,h4⟩:=h;exact⟨b,us,os',h1,h2,Cc.anyM l x us.toList os' (by simpa[M3] using hm) h3,h4⟩
theorem Cc.anyM:∀(l:List Sh) (x:LTs l) (us:List Value) (os:List (Value×Nat)),CL l=A3->Cc P w M e l x us os->Cc P w M' e l x us os
 | [],_,_,_,_,h=>h
 | h::l,x,us,os,hm,hr=>by
  obtain⟨u,us',o1,o2,h1,h2,h3,h4⟩:=hr;simp only[CL,RW]at hm;exact⟨u,us',o1,o2,h1,h2,Rel.anyM h x.1 u o1 hm.1 h3,Cc.anyM l x.2 us' o2 hm.2 h4⟩
end
end
end Go.VS
namespace Go.VS
open Go
def aBR:List Sh->Bool
 | .box _ l2::l=>HQ l2&&HQ l
 | l=>HQ l
def aAw:List Sh->Bool
 | .box _ _::_=>A1
 | _=>A3
def XQ(P:Program):List Sh->Bool
 | []=>A1
 | h::ps=>(match h with
  | .box t l=>aBR l&&(!aAw l||Pl P t)
  | .agg l=>HQ l
  | _=>A1)&&XQ P ps
section
variable {B B':Be} {β β':Beta} {H:Hp} {w w':World} {M M':Nat->Prop} {stk:List (Array Value)} {s s':S} {a:Act} {P:Program} {E:Nat->AV} {e:Nat->Value} {b:Nat} {C:Cx}
mutual
theorem Yk:∀(h:Sh) (c:AV),Ds h=A1->Vm h=A3->∀i∈CV H h c,i∈CD H h c
 | .int _,_,_,_,i,hi=>by simp[CV]at hi
 | .bool,_,_,_,i,hi=>by simp[CV]at hi
 | .str,_,_,_,i,hi=>by simp[CV]at hi
 | .sl _,_,_,_,i,hi=>by simp[CV]at hi
 | .fz _,_,_,_,i,hi=>by simp[CV]at hi
 | .row _ _,c,_,_,i,hi=>by cases c<;>first|exact hi|(simp[CV]at hi;done)
 | .Cb _ _,c,_,_,i,hi=>by cases c<;>first|exact hi|(simp[CV]at hi;done)
 | .abx _ _,c,_,_,i,hi=>by
  cases c with
  | ptr id z i' o=>cases i'<;>cases o<;>first|exact hi|(simp[CV]at hi;done)
  | _=>simp[CV]at hi
 | .arr _,_,h,_,_,_=>by simp[Ds]at h
 | .same _,_,h,_,_,_=>by simp[Ds]at h
 | .agg _,_,h,_,_,_=>by simp[Ds]at h
 | .box _ _,_,_,h,_,_=>by cases h
end
def TA:∀(l:List Sh) (cs:List AV),HQ l=A1->∀i∈Bm H l cs,i∈CU H l cs
 | [],cs,_,i,hi=>by simp[Bm]at hi
 | _::_,[],_,i,hi=>by simp[Bm]at hi
 | h::l,c::cs,hl,i,hi=>by
  simp only[HQ,Hi,Ph,AI,DR]at hl;obtain⟨⟨h1,h2⟩,h3,h4⟩:=hl;simp only[Bm,Br]at hi;obtain hi|hi:=hi
  .exact CE _ (Yk h c h1 h3 i hi)
  .refine Cy _<|TA l cs ?_ i hi;simp only[HQ,AI];exact⟨h2,h4⟩
def EQ:List AV->List Nat
 | []=>[]
 | .ptr id _ 0 0::l=>id::EQ l
 | _::l=>EQ l
def zC{id:Nat}:∀ {ds:List AV},id∈EQ ds->∃z,AV.ptr id z 0 0∈ds
 | [],h=>by cases h
 | c::ds,h=>by
  have rest:id∈EQ ds->∃z,AV.ptr id z 0 0∈c::ds:=λh=>by
   obtain⟨z,hz⟩:=zC h;exact⟨z,Al _ hz⟩
  cases c<;>first|exact rest h|skip
  rename_i a b i o;cases i<;>cases o<;>first|exact rest h|skip
  rcases Bk.1 h with h|h
  .subst h;exact⟨b,Ap⟩
  .exact rest h
inductive Fb (P:Program) (w:World) (H:Hp):List Sh->List AV->List Value->List AV->List Value->Prop
 | nil:Fb P w H [] [] [] [] []
 | flat {t:TypeId} {l bs:List Sh} {id z bb:Nat} {cs ds:List AV} {vs us:List Value} (hl:HQ l=A1) (hb:∃t0 cs0,H id=I (.box t0 cs0)) (h:Fb P w H bs cs vs ds us):
   Fb P w H (.box t l::bs) (.ptr id z 0 0::cs) (.pointer (I ⟨bb,0,U⟩)::vs) (.ptr id z 0 0::ds) (.pointer (I ⟨bb,0,U⟩)::us)
 | nest {t t2 t0:TypeId} {l2 l bs:List Sh} {id z id2 z2 bb bb2:Nat} {cs1 cs ds:List AV} {vs us:List Value} (hl2:HQ l2=A1) (hl:HQ l=A1) (hid:H id=I (.box t0 (.ptr id2 z2 0 0::cs1)))
   (hb2:∃t0 cs0,H id2=I (.box t0 cs0)) (hn:Pl P t=A1) (hc:∃us0 fr,w.heap[bb]? =I (.cells us0 t fr)/\us0[0]? =I (.pointer<|I ⟨bb2,0,U⟩)) (h:Fb P w H bs cs vs ds us):
   Fb P w H (.box t (.box t2 l2::l)::bs) (.ptr id z 0 0::cs) (.pointer (I ⟨bb,0,U⟩)::vs) (.ptr id2 z2 0 0:: .ptr id z 0 0::ds) (.pointer (I ⟨bb2,0,U⟩):: .pointer (I ⟨bb,0,U⟩)::us)
def Fb.carry{bs:List Sh}{cs ds:List AV}{vs us:List Value}{H':Hp}(h:Fb P w H bs cs vs ds us)(hpk:Pk P w w')
  (hH:∀id∈EQ ds,∀t cs,H id=I (.box t cs)->∃cs',H' id=I (.box t cs')/\ ∀id2 z2 cs1,cs= .ptr id2 z2 0 0::cs1->id2∈EQ ds->∃KW,cs'= .ptr id2 z2 0 0::KW):Fb P w' H' bs cs vs ds us:=by
 induction h with
 | nil=>exact .nil
 | @flat t l bs id z bb cs ds vs us hl hb h ih=>
  refine .flat hl ?_ (ih λi hi t0 c0 h0=> ?_)
  .obtain⟨t0,c0,h0⟩:=hb;obtain⟨c1,h1,_⟩:=hH id Ap t0 c0 h0;exact⟨t0,c1,h1⟩
  .obtain⟨c1,h1,h2⟩:=hH i (Al _ hi) t0 c0 h0;exact⟨c1,h1,λa b c e hm=>h2 a b c e<|Al _ hm⟩
 | @nest t t2 t0 l2 l bs id z id2 z2 bb bb2 cs1 cs ds vs us hl2 hl hid hb2 hn hc h ih=>
  obtain⟨c1,h1,h2⟩:=hH id (Al _ Ap) t0 _ hid;obtain⟨c2,rfl⟩:=h2 id2 z2 cs1 rfl Ap;refine .nest hl2 hl h1 ?_ hn ?_ (ih λi hi t0 c0 h0=> ?_)
  .obtain⟨t3,c3,h3⟩:=hb2;obtain⟨c4,h4,_⟩:=hH id2 Ap t3 c3 h3;exact⟨t3,c4,h4⟩
  .obtain⟨us0,fr,h3,h4⟩:=hc;obtain⟨us1,fr1,h5,h6⟩:=hpk bb us0 t fr _ h3 h4 hn;exact⟨us1,fr1,h5,h6⟩
  .obtain⟨c3,h3,h4⟩:=hH i (Al _<|Al _ hi) t0 c0 h0;exact⟨c3,h3,λa b c e hm=>h4 a b c e<|Al _<|Al _ hm⟩
def jO{l:List Sh}(hl:HQ l=A1)(H:Hp)(b:Nat)(x:LTs l){us1:List Value}{ob:List (Value×Nat)}(hr:Cc P w M e l x us1 ob):
  ∃ds1 H1,Ak E H b l x=(ds1,H1,b+ob.length)/\(∀j,¬(b<=j/\j<b+ob.length)->H1 j=H j)/\ ∀β:Beta,(∀b,MZ β b->M b)->Num β b ob->RL (RC w β) ds1 us1/\ ∀j,b<=j->j<b+ob.length->∃o,H1 j=I o/\E9 P w β j o:=by
 have hl':=hl;simp only[HQ,AI]at hl';obtain⟨Cv,Gn⟩:=gE l hl'.1;have hlen:=bU (E:=E) (P:=P) (w:=w) (M:=M) (e:=e) l H b x us1 ob Cv hr;have Ew:=fW (E:=E) l H b x;have hrc:=fun(β:Beta) (hM:∀b,MZ β b->M b) (hn:Num β b ob)=>dp (E:=E) (P:=P) (w:=w) (M:=M) (e:=e) hM l H b x us1 ob Cv hr hn (by rw[Gn];intro t ht;simp at ht);generalize Ak E H b l x=r at *;obtain⟨ds1,H1,b1⟩:=r;have hlen:b1=b+ob.length:=hlen;subst hlen;exact⟨ds1,H1,rfl,Ew,λβ hM hn=>⟨(hrc β hM hn).1,(hrc β hM hn).2.2.2⟩⟩
def afQ{x y:Value×Nat}{oc ob nw us o2:List (Value×Nat)}(h:o2.Perm (nw++us)):(((oc++[x])++ob)++[y]++o2).Perm (((oc++ob)++nw)++x::y::us):=by
 have h1:(ob++y::o2).Perm (ob++nw++y::us):=by
  rw[C7];exact dD ob<|(h.cons y).trans List.perm_middle.symm
 have h2:(oc++x::(ob++y::o2)).Perm (oc++(ob++nw++x::y::us)):=dD oc<|(h1.cons x).trans List.perm_middle.symm;simpa[C7] using h2
def jK:∀(bs:List Sh) (H:Hp) (b:Nat) (q:LTs bs) (cs ds:List AV) (vs us:List Value) (os:List (Value×Nat)) (L:Nat),Fb P w H bs cs vs ds us->(EQ ds).Nodup->(∀i∈EQ ds,¬(b<=i/\i<L))->Cc P w M e bs q vs os->(BQ E H b bs cs q).2.2<=L->
  ∃nw:List (Value×Nat),os.Perm (nw++us.map λv=>(v,1))/\(BQ E H b bs cs q).2.2=b+nw.length/\
   ∀β:Beta,(∀b,MZ β b->M b)->Num β b nw->(∀(i:Nat) (c:AV) (v:Value),ds[i]? =I c->us[i]? =I v->∀id z,c= .ptr id z 0 0->β id=I (v,1))->
    (∀j,(BQ E H b bs cs q).2.1 j=H j\/ ∃ob,(BQ E H b bs cs q).2.1 j=I ob/\E9 P w β j ob)/\
    (∀j,b<=j->j<b+nw.length->∃ob,(BQ E H b bs cs q).2.1 j=I ob/\E9 P w β j ob)/\
    (∀id z,AV.ptr id z 0 0∈ds->∃ob,(BQ E H b bs cs q).2.1 id=I ob/\E9 P w β id ob)/\
    (∀j,¬(b<=j/\j<b+nw.length)->(∀z,AV.ptr j z 0 0 ∉ ds)->(BQ E H b bs cs q).2.1 j=H j)
 | [],H,b,q,cs,ds,vs,us,os,L,hF,_,_,hr,_=>by
  cases hF;obtain⟨_,rfl⟩:=hr;exact⟨[],.nil,rfl,λβ _ _ _=>⟨λj=> .inl rfl,λj h1 h2=>by simp at h2;omega,λid z h=>by simp at h,λj _ _=>rfl⟩⟩
 | h::bs,H,b,q,cs0,ds0,vs0,us0,os,L,hF,hnd,Ew,hr,hL=>by
  cases hF with
  | @flat t l _ id z bb cs ds vs us hl hb hF=>
   obtain⟨u,us',o1,o2,e1,rfl,h1,h2⟩:=hr;cases e1;obtain⟨bb',uc,os',e2,h3,h4,rfl⟩:=h1;cases e2;obtain⟨t0,c0,hid⟩:=hb;obtain⟨da,H1,hmk,ho1,hrc⟩:=jO (E:=E) hl H b q.1 h4;have Jf:id ∉ EQ ds/\(EQ ds).Nodup:=by simpa[EQ] using hnd
   have un:BQ E H b (.box t l::bs) (.ptr id z 0 0::cs) q=(match BQ E (upd H1 id<|I<|.box t da) (b+os'.length) bs cs q.2 with|(es,H'',b'')=>(AV.ptr id z 0 0::es,H'',b'')):=by
    have u1:BQ E H b (.box t l::bs) (.ptr id z 0 0::cs) q=(match D5 E H b (.box t l) (.ptr id z 0 0) q.1 with|(d,H,b)=>match BQ E H b bs cs q.2 with|(ds,H,b)=>(d::ds,H,b)):=rfl;have u2:D5 E H b (.box t l) (.ptr id z 0 0) q.1=(match H id with
     | some (.box _ cs)=>(match BQ E H b l cs q.1 with|(ds,H,b)=>(AV.ptr id z 0 0,upd H id<|I<|.box t ds,b))
     | _=>(.un,H,b)):=rfl
    rw[u1,u2,hid];simp only;rw[YP l H b c0 q.1 hl,hmk]
   rw[un]at hL ⊢;have hle:=Pt E bs (upd H1 id<|I<|.box t da) (b+os'.length) cs q.2;have hL':(BQ E (upd H1 id<|I<|.box t da) (b+os'.length) bs cs q.2).2.2<=L:=by
    generalize BQ E (upd H1 id<|I<|.box t da) (b+os'.length) bs cs q.2=r at *;exact hL
   have Gn:∀i∈EQ ds,upd H1 id (I<|.box t da) i=H i:=λi hi=>by
    rw[BE _ _ λe=>Jf.1 (by rw[← e];exact hi),ho1 i λhh=>Ew i (Al _ hi) ⟨hh.1,J⟩]
   obtain⟨nw,n1,n4,n5⟩:=jK bs (upd H1 id<|I<|.box t da) (b+os'.length) q.2 cs ds vs us o2 L (hF.carry (Pk.refl _ _) λi hi t c h0=>⟨c,by rw[Gn i hi];exact h0,λ_ _ c1 e _=>⟨c1,e⟩⟩) Jf.2
    (λi hi hh=>Ew i (Al _ hi) ⟨J,hh.2⟩) h2 hL'
   generalize hg:BQ E (upd H1 id<|I<|.box t da) (b+os'.length) bs cs q.2=r at *;obtain⟨es,H'',b''⟩:=r;simp only at n4 n5 hle hL hL' ⊢;refine⟨os'++nw, ?_, ?_, ?_⟩
   .rw[C7,C7,DW];refine dD os' ?_;exact((n1.cons (NO<|I ⟨bb,0,U⟩,1)).trans List.perm_middle.symm)
   .rw[n4];simp[DH]
   .intro β hM hn hbx;obtain⟨r1,r3⟩:=hrc β hM hn.left;have akU:β id=I (.pointer<|I ⟨bb,0,U⟩,1):=hbx 0 _ _ rfl rfl id z rfl;have aaE:E9 P w β id (.box t da):=⟨bb,uc,akU,h3,r1⟩;obtain⟨m1,m2,m3,m4⟩:=n5 β hM hn.right (λi c v k1 k2=>hbx (i+1) c v (by simpa using k1)<|by simpa using k2);have step:∀j,H'' j=H1 j\/ ∃ob,H'' j=I ob/\E9 P w β j ob:=λj=>by
     rcases m1 j with h|h
     .by_cases e4:j=id
      .subst e4;rw[Bl]at h;exact .inr ⟨_,h,aaE⟩
      .rw[BE _ _ e4]at h;exact .inl h
     .exact .inr h
    refine⟨λj=> ?_,λj k1 k2=> ?_,λid2 z2 hm=> ?_,λj k1 k2=> ?_⟩
    .rcases step j with h|h
     .by_cases hj:b<=j/\j<b+os'.length
      .obtain⟨ob,q1,q2⟩:=r3 j hj.1 hj.2;exact .inr ⟨ob,by rw[h];exact q1,q2⟩
      .exact .inl (h.trans<|ho1 j hj)
     .exact .inr h
    .by_cases hj:j<b+os'.length
     .rcases step j with h|h
      .obtain⟨ob,q1,q2⟩:=r3 j k1 hj;exact⟨ob,by rw[h];exact q1,q2⟩
      .exact h
     .exact m2 j J (by simp at k2;omega)
    .rcases Bk.1 hm with h|h
     .cases h;rcases m1 id with h|h
      .rw[Bl]at h;exact⟨_,h,aaE⟩
      .exact h
     .exact m3 id2 z2 h
    .have hne:j≠id:=λe4=>k2 z (by rw[e4];exact Ap);rw[m4 j (λhh=>k1 ⟨J,by simp;omega⟩) λz' hz'=>k2 z'<|Al _ hz',BE _ _ hne];exact ho1 j λhh=>k1 ⟨hh.1,by simp;omega⟩
  | @nest t t2 t0 l2 l _ id z id2 z2 bb bb2 cs1 cs ds vs us hl2 hl hid hb2 hn hc hF=>
   obtain⟨u,us',o1,o2,e1,rfl,h1,h2⟩:=hr;cases e1;obtain⟨bb',uc,os',e2,h3,h4,rfl⟩:=h1;cases e2;obtain⟨u2,us1,oa,ob,huc,rfl,h5,h6⟩:=h4;obtain⟨aFA,uc2,oc,e3,h7,h8,rfl⟩:=h5;have e4:u2= .pointer (I ⟨bb2,0,U⟩):=by
    obtain⟨us0,fr,k1,k2⟩:=hc;rw[h3]at k1;cases k1;have:uc.toList[0]? =I u2:=by rw[huc];rfl
    rw[UA,k2]at this;exact(EI this).symm
   rw[e4]at e3;cases e3;subst e4;obtain⟨t3,c3,L6⟩:=hb2;have Jf:(id2≠id/\id2 ∉ EQ ds)/\id ∉ EQ ds/\(EQ ds).Nodup:=by simpa[EQ,not_or] using hnd
   obtain⟨da,H1,hmk,ho1,alb⟩:=jO (E:=E) hl2 H b q.1.1 h8;obtain⟨dc,H3,alr,ho2,alV⟩:=jO (E:=E) hl (upd H1 id2<|I<|.box t2 da) (b+oc.length) q.1.2 h6;have un:BQ E H b (.box t (.box t2 l2::l)::bs) (.ptr id z 0 0::cs) q=
     (match BQ E (upd H3 id<|I<|.box t<|.ptr id2 z2 0 0::dc) (b+oc.length+ob.length) bs cs q.2 with|(es,H'',b'')=>(AV.ptr id z 0 0::es,H'',b'')):=by
    have u1:BQ E H b (.box t (.box t2 l2::l)::bs) (.ptr id z 0 0::cs) q=(match D5 E H b (.box t<|.box t2 l2::l) (.ptr id z 0 0) q.1 with|(d,H,b)=>match BQ E H b bs cs q.2 with|(ds,H,b)=>(d::ds,H,b)):=rfl;have u2:D5 E H b (.box t<|.box t2 l2::l) (.ptr id z 0 0) q.1=(match H id with
     | some (.box _ cs)=>(match BQ E H b (.box t2 l2::l) cs q.1 with|(ds,H,b)=>(AV.ptr id z 0 0,upd H id<|I<|.box t ds,b))
     | _=>(.un,H,b)):=rfl
    have u3:BQ E H b (.box t2 l2::l) (.ptr id2 z2 0 0::cs1) q.1=(match D5 E H b (.box t2 l2) (.ptr id2 z2 0 0) q.1.1 with|(d,H,b)=>match BQ E H b l cs1 q.1.2 with|(ds,H,b)=>(d::ds,H,b)):=rfl;have u4:D5 E H b (.box t2 l2) (.ptr id2 z2 0 0) q.1.1=(match H id2 with
     | some (.box _ cs)=>(match BQ E H b l2 cs q.1.1 with|(ds,H,b)=>(AV.ptr id2 z2 0 0,upd H id2<|I<|.box t2 ds,b))
     | _=>(.un,H,b)):=rfl
    rw[u1,u2,hid];simp only;rw[u3,u4,L6];simp only;rw[YP l2 H b c3 q.1.1 hl2,hmk];simp only;rw[YP l _ _ cs1 q.1.2 hl,alr]
   rw[un]at hL ⊢;have hle:=Pt E bs (upd H3 id<|I<|.box t<|.ptr id2 z2 0 0::dc) (b+oc.length+ob.length) cs q.2;have hL':(BQ E (upd H3 id<|I<|.box t<|.ptr id2 z2 0 0::dc) (b+oc.length+ob.length) bs cs q.2).2.2<=L:=by
    generalize BQ E (upd H3 id<|I<|.box t<|.ptr id2 z2 0 0::dc) (b+oc.length+ob.length) bs cs q.2=r at *;exact hL
   have hi2:¬(b<=id2/\id2<L):=Ew id2 Ap;have hi1:¬(b<=id/\id<L):=Ew id<|Al _ Ap;have hold:∀j,¬(b<=j/\j<b+oc.length+ob.length)->j≠id->j≠id2->upd H3 id (I<|.box t<|.ptr id2 z2 0 0::dc) j=H j:=λj hj e1 e2=>by
    rw[BE _ _ e1,ho2 j λhh=>hj ⟨J,hh.2⟩,BE _ _ e2,ho1 j λhh=>hj ⟨hh.1,J⟩]
   have Gn:∀i∈EQ ds,upd H3 id (I<|.box t<|.ptr id2 z2 0 0::dc) i=H i:=λi hi=>by
    have:=Ew i<|Al _<|Al _ hi;exact hold i (λhh=>this ⟨hh.1,J⟩) (λe=>Jf.2.1 (by rw[← e];exact hi)) λe=>Jf.1.2 (by rw[← e];exact hi)
   obtain⟨nw,n1,n4,n5⟩:=jK bs (upd H3 id<|I<|.box t<|.ptr id2 z2 0 0::dc) (b+oc.length+ob.length) q.2 cs ds vs us o2 L (hF.carry (Pk.refl _ _) λi hi t c h0=>⟨c,by rw[Gn i hi];exact h0,λ_ _ c1 e _=>⟨c1,e⟩⟩) Jf.2.2
    (λi hi hh=>Ew i (Al _<|Al _ hi) ⟨J,hh.2⟩) h2 hL'
   generalize hg:BQ E (upd H3 id<|I<|.box t<|.ptr id2 z2 0 0::dc) (b+oc.length+ob.length) bs cs q.2=r at *;obtain⟨es,H'',b''⟩:=r;simp only at n4 n5 hle hL hL' ⊢;refine⟨oc++ob++nw, ?_, ?_, ?_⟩
   .exact afQ n1
   .rw[n4];simp[DH]
   .intro β hM hn hbx;have avL:Num β b oc:=hn.left.left;have aej:Num β (b+oc.length) ob:=hn.left.right;have akA:Num β (b+oc.length+ob.length) nw:=by
     have:=hn.right;rwa[Ar,← DH]at this
    obtain⟨r1,r3⟩:=alb β hM avL;obtain⟨s1,s3⟩:=alV β hM aej;have hβ2:β id2=I (.pointer<|I ⟨bb2,0,U⟩,1):=hbx 0 _ _ rfl rfl id2 z2 rfl;have hβ1:β id=I (.pointer<|I ⟨bb,0,U⟩,1):=hbx 1 _ _ rfl rfl id z rfl;have ob2:E9 P w β id2 (.box t2 da):=⟨bb2,uc2,hβ2,h7,r1⟩;have ob1:E9 P w β id (.box t<|.ptr id2 z2 0 0::dc):=by
     refine⟨bb,uc,hβ1,h3, ?_⟩;rw[huc];refine RL.cons ?_ s1;have:=RC.ptr (w:=w) (β:=β) (id:=id2) (sz:=z2) (i:=0) (o:=0) hβ2 (b:=bb2) (f:=0) rfl J;simpa using this
    obtain⟨m1,m2,m3,m4⟩:=n5 β hM akA (λi c v k1 k2=>hbx (i+2) c v (by simpa using k1)<|by simpa using k2);have h4:∀j,(upd H3 id (I<|.box t<|.ptr id2 z2 0 0::dc) j=H j/\ ¬(b<=j/\j<b+oc.length+ob.length)/\j≠id/\j≠id2)\/ ∃o,upd H3 id (I<|.box t<|.ptr id2 z2 0 0::dc) j=I o/\E9 P w β j o:=λj=>by
     by_cases e1:j=id
     .subst e1;exact .inr ⟨_,Bl _ _ _,ob1⟩
     by_cases e2:j=id2
     .subst e2;refine .inr ⟨_, ?_,ob2⟩;rw[BE _ _ e1,ho2 j λhh=>hi2 ⟨J,J⟩,Bl]
     by_cases k1:b<=j/\j<b+oc.length+ob.length
     .by_cases k2:j<b+oc.length
      .obtain⟨o,q1,q2⟩:=r3 j k1.1 k2;exact .inr ⟨o,by rw[BE _ _ e1,ho2 j J,BE _ _ e2];exact q1,q2⟩
      .obtain⟨o,q1,q2⟩:=s3 j J k1.2;exact .inr ⟨o,by rw[BE _ _ e1];exact q1,q2⟩
     .exact .inl ⟨hold j k1 e1 e2,k1,e1,e2⟩
    have step:∀j,(H'' j=H j/\ ¬(b<=j/\j<b+oc.length+ob.length)/\j≠id/\j≠id2)\/ ∃o,H'' j=I o/\E9 P w β j o:=λj=>by
     rcases m1 j with h|h
     .rcases h4 j with⟨k1,k2⟩|⟨o,k1,k2⟩
      .exact .inl ⟨h.trans k1,k2⟩
      .exact .inr ⟨o,h.trans k1,k2⟩
     .exact .inr h
    refine⟨λj=> ?_,λj k1 k2=> ?_,λid3 z3 hm=> ?_,λj k1 k2=> ?_⟩
    .rcases step j with h|h
     .exact .inl h.1
     .exact .inr h
    .by_cases hj:j<b+oc.length+ob.length
     .rcases step j with h|h
      .exact absurd ⟨k1,hj⟩ h.2.1
      .exact h
     .exact m2 j J (by simp at k2;omega)
    .rcases Bk.1 hm with h|h
     .cases h;rcases step id2 with h|h
      .exact absurd rfl h.2.2.2
      .exact h
     rcases Bk.1 h with h|h
     .cases h;rcases step id with h|h
      .exact absurd rfl h.2.2.1
      .exact h
     .exact m3 id3 z3 h
    .have hne:j≠id:=λe4=>k2 z (by rw[e4];exact Al _ Ap);have atv:j≠id2:=λe4=>k2 z2 (by rw[e4];exact Ap);rw[m4 j (λhh=>k1 ⟨J,by simp;omega⟩) λz' hz'=>k2 z'<|Al _<|Al _ hz'];exact hold j (λhh=>k1 ⟨hh.1,by simp;omega⟩) hne atv
def aDJ(hH:Hs B β H w):∀(ps:List Sh) (cs:List AV) (vs:List Value) (x:LTs ps),XQ B.P ps=A1->RL (R1 w β) cs vs->Fv E H ps cs=I x->
  ∃ds us,Fb B.P w H (B6 ps) (Ff ps cs) (Je ps vs) ds us/\
   RL (λc v=>∃id z bb,c=AV.ptr id z 0 0/\v=NO (I ⟨bb,0,U⟩)/\(∃t cs,H id=I (.box t cs))/\β id=I (v,1)/\id∈Bm H ps cs) ds us/\
   (EQ ds).Sublist (Bm H ps cs)/\ ∀i∈Bm H ps cs,i∈CU H ps cs\/ ∃z,AV.ptr i z 0 0∈ds
 | [],[],vs,x,_,hr,hx=>by
  have:=hr.of_nil;subst this;exact⟨[],[],.nil,.nil,Em _,λi hi=>by simp[Bm]at hi⟩
 | [],_::_,_,_,_,_,hx=>by cases hx
 | _::_,[],_,_,_,_,hx=>by cases hx
 | h::ps,c::cs,vs,x,hp,hr,hx=>by
  obtain⟨v,vs,rfl,h1,h2⟩:=hr.C6;obtain⟨x1,e1,hx⟩:=An.1 hx;obtain⟨x2,e2,hx⟩:=An.1 hx;simp only[XQ,AI]at hp;obtain⟨ds,us,f1,f2,f3,f4⟩:=aDJ hH ps cs vs x2 hp.2 h2 e2;have f2':RL (λc' v'=>∃id z bb,c'=AV.ptr id z 0 0/\v'=NO (I ⟨bb,0,U⟩)/\(∃t cs,H id=I (.box t cs))/\β id=I (v',1)/\id∈Bm H (h::ps) (c::cs)) ds us:=
   f2.mono λc' v' ⟨id,z,bb,k1,k2,k3,k4,k5⟩=>⟨id,z,bb,k1,k2,k3,k4,Cy _ k5⟩
  have F5:B6 (h::ps)=B6 ps->Ff (h::ps) (c::cs)=Ff ps cs->Je (h::ps) (v::vs)=Je ps vs->(∀i∈CV H h c,i∈CD H h c)->
    ∃ds us,Fb B.P w H (B6<|h::ps) (Ff (h::ps)<|c::cs) (Je (h::ps)<|v::vs) ds us/\
     RL (λc' v'=>∃id z bb,c'=AV.ptr id z 0 0/\v'=NO (I ⟨bb,0,U⟩)/\(∃t cs,H id=I (.box t cs))/\β id=I (v',1)/\id∈Bm H (h::ps) (c::cs)) ds us/\
     (EQ ds).Sublist (Bm H (h::ps)<|c::cs)/\ ∀i∈Bm H (h::ps) (c::cs),i∈CU H (h::ps) (c::cs)\/ ∃z,AV.ptr i z 0 0∈ds:=λg1 g2 g3 g4=>by
   rw[g1,g2,g3];refine⟨ds,us,f1,f2',f3.trans<|ZV _ _,λi hi=> ?_⟩;rcases Br.1 hi with hi|hi
   .exact .inl (CE _<|g4 i hi)
   .exact(f4 i hi).imp (Cy _) λh=>h
  cases h with
  | box t l=>
   have hp1:=hp.1;simp only[AI,Ci,DR]at hp1;cases c<;>first|(cases e1;done)|skip
   rename_i id z i o;cases i<;>cases o<;>simp only[Bp]at e1<;>first|(cases e1;done)|skip
   split at e1
   case h_2=>cases e1
   rename_i t' cs' hid;split at e1
   case h_2=>cases e1
   rename_i hbt;obtain rfl:=Bn hbt;have h1:=h1.Q1;cases h1 with
   | @ptr _ _ _ _ hd n bb f k1 ha hi=>
    obtain⟨b',uc,j1,j2,j3⟩:=hH.ER id _ hid;rw[k1]at j1;cases j1;cases ha;have e0:(NO<|I ⟨bb,0+(0 * z+0),U⟩)=NO (I ⟨bb,0,U⟩):=by simp
    by_cases fH:aAw l=A1
    ·
     cases l with
     | nil=>cases fH
     | cons h0 l=>
      cases h0 with
      | box t2 l2=>
       obtain⟨hl,hn⟩:=hp1;have hn:Pl B.P t=A1:=hn.resolve_left (by rw[fH];simp);simp only[aBR,AI]at hl;cases cs' with
       | nil=>cases e1
       | cons c2 cs1=>
        obtain⟨y1,g1,g2⟩:=An.1 e1;obtain⟨u2,us1,huc,q1,q2⟩:=j3.C6;cases c2<;>first|(cases g1;done)|skip
        rename_i id2 z2 i2 o2;cases i2<;>cases o2<;>simp only[Bp]at g1<;>first|(cases g1;done)|skip
        split at g1
        case h_2=>cases g1
        rename_i t2' cs2 L6;obtain⟨b2,uc2,m1,m2,m3⟩:=hH.ER id2 _ L6;cases q1 with
        | @ptr _ _ _ _ hd2 n2 bb2 f2x k1' ha' hi'=>
         rw[m1]at k1';cases k1';cases ha';have e00:(NO<|I ⟨b2,0+(0 * z2+0),U⟩)=NO (I ⟨b2,0,U⟩):=by simp
         rw[e00]at huc;refine⟨.ptr id2 z2 0 0:: .ptr id z 0 0::ds,.pointer (I ⟨b2,0,U⟩):: .pointer (I ⟨bb,0,U⟩)::us, ?_, ?_, ?_,λi hi=> ?_⟩
         .rw[e0];exact .nest hl.1 hl.2 hid ⟨_,_,L6⟩ hn ⟨uc,_,j2,by rw[← UA,huc];rfl⟩ f1
         .refine RL.cons ⟨id2,z2,b2,rfl,rfl,⟨_,_,L6⟩,m1, ?_⟩ (RL.cons ⟨id,z,bb,rfl,rfl,⟨_,_,hid⟩,k1, ?_⟩ f2')
          .simp[Bm,CV,hid,L6]
          .simp[Bm,CV,hid]
         .simp only[EQ,Bm,CV,hid,L6];refine List.Sublist.trans ?_<|List.Sublist.append_left f3 _;have:(((Bm H l2 cs2++[id2])++Bm H l cs1)++[id])++EQ ds=Bm H l2 cs2++(id2::(Bm H l cs1++(id::EQ ds))):=by simp
          rw[this];exact(((ZV _ _:(id::EQ ds).Sublist (Bm H l cs1++(id::EQ ds)))).cons_cons id2).trans (ZV _ _)
         .simp only[Bm,CV,hid,L6,Br,DB]at hi;obtain(((hi|hi)|hi)|hi)|hi:=hi
          .refine .inl<|CE _ ?_;simp only[CD,hid,CU,L6];exact CE _ (TA l2 cs2 hl.1 i hi)
          .subst hi;exact .inr ⟨z2,Ap⟩
          .refine .inl<|CE _ ?_;simp only[CD,hid,CU,L6];exact Cy _ (TA l cs1 hl.2 i hi)
          .subst hi;exact .inr ⟨z,Al _ Ap⟩
          .rcases f4 i hi with h|⟨z',h⟩
           .exact .inl (Cy _ h)
           .exact .inr ⟨z',Al _<|Al _ h⟩
      | _=>cases fH
    ·
     have hl:HQ l=A1:=by
      have:=hp1.1;cases l with
      | nil=>rfl
      | cons h0 l=>cases h0<;>first|exact this|exact absurd rfl fH
     refine⟨.ptr id z 0 0::ds,.pointer (I ⟨bb,0,U⟩)::us, ?_, ?_, ?_,λi hi=> ?_⟩
     .rw[e0];exact .flat hl ⟨_,_,hid⟩ f1
     .refine RL.cons ⟨id,z,bb,rfl,rfl,⟨_,_,hid⟩,k1, ?_⟩ f2';simp[Bm,CV,hid]
     .simp only[EQ,Bm,CV,hid];rw[C7];exact((f3.cons_cons id)).trans (ZV _ _)
     .simp only[Bm,CV,hid,Br,DB]at hi;obtain(hi|hi)|hi:=hi
      .refine .inl<|CE _ ?_;simp only[CD,hid];exact TA l cs' hl i hi
      .subst hi;exact .inr ⟨z,Ap⟩
      .rcases f4 i hi with h|⟨z',h⟩
       .exact .inl (Cy _ h)
       .exact .inr ⟨z',Al _ h⟩
  | agg l=>
   refine F5 rfl rfl rfl λi hi=> ?_;cases c with
   | agg cs'=>
    simp only[CD];exact TA l cs' hp.1 i<|by simpa[CV] using hi
   | _=>simp[CV]at hi
  | arr=>exact F5 rfl rfl rfl λi hi=>by simp[CV]at hi
  | same=>exact F5 rfl rfl rfl λi hi=>by simp[CV]at hi
  | int=>exact F5 rfl rfl rfl λi hi=>by simp[CV]at hi
  | bool=>exact F5 rfl rfl rfl λi hi=>by simp[CV]at hi
  | str=>exact F5 rfl rfl rfl λi hi=>by simp[CV]at hi
  | sl=>exact F5 rfl rfl rfl λi hi=>by simp[CV]at hi
  | fz=>exact F5 rfl rfl rfl λi hi=>by simp[CV]at hi
  | row t k=>exact F5 rfl rfl rfl (Yk _ c rfl rfl)
  | Cb t k=>exact F5 rfl rfl rfl (Yk _ c rfl rfl)
  | abx t k=>exact F5 rfl rfl rfl (Yk _ c rfl rfl)
def aAM{t:TypeId}{j:Nat}:∀(ids:List Nat) (s:S) {cs:List AV},j ∉ ids->s.H j=I (.box t cs)->∃cs',(ids.foldl S.kill s).H j=I (.box t cs')/\ ∀id2 z2 cs1,cs= .ptr id2 z2 0 0::cs1->id2 ∉ ids->∃KW,cs'= .ptr id2 z2 0 0::KW
 | [],s,cs,_,h=>⟨cs,h,λ_ _ c e _=>⟨c,e⟩⟩
 | i::ids,s,cs,hj,h=>by
  have hne:j≠i:=λe=>hj<|e▸Ap;obtain⟨c',h1,h2⟩:=aAM (t:=t) (j:=j) ids (s.kill i) (cs:=cs.map<|kl1 i) (λhm=>hj<|Al _ hm) (by
   show upd (λj=>CJ (kl1 i)<|s.H j) i U j=_;rw[BE _ _ hne,h];rfl)
  refine⟨c',h1,λid2 z2 cs1 e hn=> ?_⟩;subst e;have hn2:id2≠i:=λe=>hn<|e▸Ap;have e1:Aj id2 i=A3:=by rw[← Ha,HU];exact hn2
  exact h2 id2 z2 (cs1.map<|kl1 i) (by simp[kl1,e1]) λhm=>hn<|Al _ hm
def aBH{t:TypeId}{j:Nat}:∀(ids:List Nat) (s:S) {cs:List AV},j ∉ ids->s.H j=I (.box t cs)->∃cs',(ids.foldl S.freeze s).H j=I (.box t cs')/\ ∀id2 z2 cs1,cs= .ptr id2 z2 0 0::cs1->id2 ∉ ids->∃KW,cs'= .ptr id2 z2 0 0::KW
 | [],s,cs,_,h=>⟨cs,h,λ_ _ c e _=>⟨c,e⟩⟩
 | i::ids,s,cs,hj,h=>by
  have hne:j≠i:=λe=>hj<|e▸Ap;have:∃cs',(s.freeze i).H j=I (.box t cs')/\ ∀id2 z2 cs1,cs= .ptr id2 z2 0 0::cs1->id2≠i->∃KW,cs'= .ptr id2 z2 0 0::KW:=by
   unfold S.freeze;split
   .rename_i k xs _;refine⟨cs.map<|fz1 i k xs, ?_,λid2 z2 cs1 e hn=> ?_⟩
    .show upd (λj=>CJ (fz1 i k xs)<|s.H j) i U j=_;rw[BE _ _ hne,h];rfl
    .subst e;have e1:Aj id2 i=A3:=by rw[← Ha,HU];exact hn
     exact⟨cs1.map<|fz1 i k xs,by simp[fz1,e1]⟩
   .refine⟨cs.map<|kl1 i, ?_,λid2 z2 cs1 e hn=> ?_⟩
    .show upd (λj=>CJ (kl1 i)<|s.H j) i U j=_;rw[BE _ _ hne,h];rfl
    .subst e;have e1:Aj id2 i=A3:=by rw[← Ha,HU];exact hn
     exact⟨cs1.map<|kl1 i,by simp[kl1,e1]⟩
  obtain⟨c',h',hd'⟩:=this;obtain⟨c2,h2,h3⟩:=aBH (t:=t) (j:=j) ids (s.freeze i) (λhm=>hj<|Al _ hm) h';refine⟨c2,h2,λid2 z2 cs1 e hn=> ?_⟩;obtain⟨KW,e'⟩:=hd' id2 z2 cs1 e (λe=>hn<|e▸Ap);exact h3 id2 z2 KW e' λhm=>hn<|Al _ hm
def anS{t:TypeId}{j:Nat}(q:Bool)(ids:List Nat)(s:S){cs:List AV}(hj:¬(q=A1/\j∈ids))(h:s.H j=I (.box t cs)):
  ∃cs',(GU q ids s).H j=I (.box t cs')/\ ∀id2 z2 cs1,cs= .ptr id2 z2 0 0::cs1->¬(q=A1/\id2∈ids)->∃KW,cs'= .ptr id2 z2 0 0::KW:=by
 cases q with
 | false=>exact⟨cs,h,λ_ _ c e _=>⟨c,e⟩⟩
 | true=>
  obtain⟨c',h1,h2⟩:=aBH ids s (λhm=>hj ⟨rfl,hm⟩) h;exact⟨c',h1,λid2 z2 cs1 e hn=>h2 id2 z2 cs1 e λhm=>hn ⟨rfl,hm⟩⟩
def aDK{cs:List AV}{vs:List Value}(h:RL (R1 w β) cs vs):R2 w β (Lk cs) (M8 vs):=by
 match cs,vs,h with
 | [],vs,h=>
  have:=h.of_nil;subst this;exact⟨[],rfl,.nil⟩
 | [c],vs,h=>
  obtain⟨v,vs',rfl,h1,h2⟩:=h.C6;have:=h2.of_nil;subst this;exact .HP h1
 | c::c'::cs,vs,h=>
  obtain⟨v,vs',rfl,h1,h2⟩:=h.C6;obtain⟨v',awW,rfl,h3,h4⟩:=h2.C6;exact⟨v::v'::awW,rfl,h⟩
def aBV:∀(ps:List Sh) (k:Nat) (t:Nat),t∈Dz k ps->k<=t/\ ∃e l,ps[t - k]? =I (.box e l)
 | [],_,_,h=>by cases h
 | p::ps,k,t,h=>by
  have tail:t∈Dz (k+1) ps->k<=t/\ ∃e l,(p::ps)[t - k]? =I (.box e l):=λh=>by
   obtain⟨h1,e,l,h2⟩:=aBV ps (k+1) t h;refine⟨J,e,l, ?_⟩;have:t - k=(t - (k+1))+1:=J
   rw[this];simpa using h2
  unfold Dz at h;split at h
  .rename_i hb;rcases Bk.1 h with rfl|h
   .refine⟨As _, ?_⟩;cases p<;>first|(cases hb;done)|skip
    rename_i t0 l0;exact⟨t0,l0,by simp⟩
   .exact tail h
  .exact tail h
def wV{H:Hp}:∀ {ps:List Sh} {cs:List AV} {x:LTs ps},Fv E H ps cs=I x->∀ {i:Nat} {h:Sh},ps[i]? =I h->∃c y,cs[i]? =I c/\Bp E H h c=I y
 | [],cs,x,_,i,h,hi=>by simp at hi
 | _::_,[],_,h,_,_,_=>by cases h
 | p::ps,c::cs,x,hx,i,h,hi=>by
  obtain⟨x1,e1,hx⟩:=An.1 hx;obtain⟨x2,e2,hx⟩:=An.1 hx;cases i with
  | zero=>simp at hi;subst hi;exact⟨c,x1,rfl,e1⟩
  | succ i=>
   obtain⟨c',y,h1,h2⟩:=wV e2 (by simpa using hi);exact⟨c',y,by simpa using h1,h2⟩
end
end Go.VS
namespace Go.VS
open Go
def okQ(P:Program)(m:Da):Bool:=XQ P m.ps&&KJ m.rs&&(IZ m.rs).all λt=>(Dz 0 m.ps).any λp=>Aj p t
section
variable {B B':Be} {β β':Beta} {H:Hp} {w w':World} {M M':Nat->Prop} {stk:List (Array Value)} {s s':S} {a:Act} {P:Program} {E:Nat->AV} {e:Nat->Value} {b:Nat} {C:Cx}
def acA{o:Oper}{f:FuncId}{args:List Operand}{ts:Array TypeId}{K:Act->World->Prop}{Q:Exit->Act->World->Prop}(hE:MI P f)(ho:o.op= .call { callee:= .value<|.func f,args:=args.toArray,argTypes:=ts })
  {R:Ending->World->Prop}(hc:Calls P f (args.map a.eval).toArray w R)(hR:∀en w',R en w'->∃v,en= .returned v/\K (a.put o.dst v) w'):o.wp P a w K Q:=by
 unfold Oper.wp;have h1:execOp a.eval o=callFunc f (args.map a.eval).toArray:=by
  have ef:a.eval (.func f)= .func (.func f) #[] #[]:=rfl;unfold execOp;simp[ho,resolve,Deferred.ofValue,invoke,ef]
 rw[h1,hE];refine Lp hc λen w' h=> ?_;obtain⟨v,rfl,hk⟩:=hR en w' h;exact hk
def aD2:∀(ids:List Nat) (s:S),(ids.foldl S.kill s).gs=s.gs/\(ids.foldl S.kill s).n=s.n/\(ids.foldl S.kill s).pins=s.pins
 | [],_=>⟨rfl,rfl,rfl⟩
 | i::ids,s=>aD2 ids (s.kill i)
def agP(q:Bool)(ids:List Nat)(s:S):(GU q ids s).gs=s.gs/\(GU q ids s).n=s.n/\(GU q ids s).pins=s.pins:=by
 cases q with
 | false=>exact⟨rfl,rfl,rfl⟩
 | true=>
  obtain⟨h1,h2,h3,_⟩:=eU ids s;exact⟨h1,h2,h3⟩
def afZ{h:Sh}{x:LT h}{v:Value}{os:List (Value×Nat)}(ht:kr h=A1)(hr:Rel P w M e h x v os):(BL E H b h x).2.2=b+os.length:=by
 by_cases hh:IU h=A1
 .exact aD5 h H b x v os hh hr
 .cases h<;>first|(exact absurd ht hh;done)|skip
  case agg l=>
   obtain⟨us,rfl,h1⟩:=hr;have un:BL E H b (.agg l) x=(match Ak E H b l x with|(cs,H,b)=>(AV.agg cs,H,b)):=rfl;have:=bU (E:=E) l H b x us os ht h1;rw[un];generalize Ak E H b l x=r at *;exact this
  case arr k=>
   obtain⟨rfl,h1⟩:=hr;rfl
def th:∀ {l:List Sh} {H:Hp} {b:Nat} {x:LTs l} {us:List Value} {os:List (Value×Nat)},KJ l=A1->Cc P w M e l x us os->(Ak E H b l x).2.2=b+os.length
 | [],H,b,x,us,os,_,hr=>by obtain⟨_,rfl⟩:=hr;rfl
 | h::l,H,b,x,us,os,hl,hr=>by
  obtain⟨u,us',o1,o2,rfl,rfl,h1,h2⟩:=hr;simp only[KJ,AI]at hl;have un:Ak E H b (h::l) x=(match BL E H b h x.1 with|(c,H,b)=>match Ak E H b l x.2 with|(cs,H,b)=>(c::cs,H,b)):=rfl;have k:=afZ (E:=E) (H:=H) (b:=b) hl.1 h1;rw[un];generalize BL E H b h x.1=r at *;obtain⟨c,H',b'⟩:=r;have k:b'=b+o1.length:=k;subst k;have k2:=th (H:=H') (b:=b+o1.length) hl.2 h2;simp only;generalize Ak E H' (b+o1.length) l x.2=r at *;obtain⟨cs,H'',b''⟩:=r;have k2:b''=_:=k2;simp[k2,DH]
def avp{O:Nat->Prop}(hg:NB B.P B.w0 B.O)(hs:Hs B β H w)(hO:∀b,O b->MB β b):NB B.P w O:=by
 obtain⟨w0,h1,h2⟩:=hg;refine⟨w0,h1,λb hb=> ?_⟩;obtain⟨h3,h4,h5⟩:=h2 b hb;exact⟨λh=>(hs.old b<|hO b h).1.elim h3 J,Gw h4 hs.size,(hs.block b h4 h3).trans h5⟩
def aqo{m:Da}{f:FuncId}(hS:Gt B.P f m)(hk:okQ B.P m=A1){d:Option Nat}{as:List Operand}{o:Oper}{ts:Array TypeId}{K:Act->World->Prop}{Q:Exit->Act->World->Prop}
  (hst:St B β stk s a w)(hfr:∀j,b<=j->j<b+16->s.H j=U)(hd:s.has d=A1)(he:Hb m s b d (as.map s.ev) I=I s')(hod:o.dst=d)(ho:o.op= .call { callee:= .value<|.func f,args:=as.toArray,argTypes:=ts })
  (hK:K0 B stk a d s' K):o.wp B.P a w K Q:=by
 simp only[okQ,AI,Cr,I5]at hk;obtain⟨⟨hps,hrs⟩,hsm⟩:=hk;unfold Hb at he;simp only at he;split at he
 case h_2=>cases he
 rename_i x hx hnd;obtain⟨r,hr,he⟩:=An.1 he;simp only[AI]at hnd;have OF:=eQ hnd.1;generalize hcs:as.map s.ev=cs at *;generalize HA:as.map a.eval=args;have hlen:args.length=cs.length:=by rw[← hcs,← HA];simp
 have hrx:∀(i:Nat) (c:AV) (v:Value),cs[i]? =I c->args[i]? =I v->RX w β (Ba a) c v:=λi c v h1 h2=>by
  rw[← hcs,DE]at h1;rw[← HA,DE]at h2;obtain⟨y,hy,rfl⟩:=DL.1 h1;rw[hy]at h2;cases h2;exact hst.eval y
 have hpl:=SX hx;have rl:RL (R1 w β) cs args:=⟨hlen,λj c u h1 h2=>(hrx j c u h1 h2).Lq (hpl c<|Cg h1).1 (hpl c<|Cg h1).2⟩;generalize hE:(fun(i:Nat)=>(cs[i]?).getD AV.un)=E at *;have abo:∀ {t:Nat} {c:AV},cs[t]? =I c->E t=c:=λh=>by rw[← hE];simp[h]
 generalize hI:Bm s.H m.ps cs=ids at *;generalize hro:CU s.H m.ps cs=ro at *;generalize hfz:Cz s.H m.ps cs=fz at *;have aib:ro.Sublist ids:=by rw[← hro,← hI];exact ZL _ _
 have ed:∀i∈ro,QW s.H i:=by rw[← hro];exact eV _ _ _ hx
 have aZ:∀i∈fz,QW s.H i:=by rw[← hfz];exact cy _ _ _ hx
 obtain⟨bc,bv,hFb,hba,acU,mS⟩:=aDJ (E:=E) hst.hs m.ps cs args x hps rl hx;rw[hI]at hba acU mS;rw[hro]at mS
 let Zc:Nat->Prop:=λbl=>MZ β bl/\bl ∉ Az (ids.filterMap β)/\bl ∉ Az (fz.filterMap β)
 have R:Nl B β s.H w (λbl=>bl∈Az (ids.filterMap β)\/Zc bl) E (ar args):={
  hs:=hst.hs
  hM:=λbl h=>h.elim (λh=> .inl<|Tf h) (λh=>h.1)
  hE:=λt id z hEt=>by
   cases hc:cs[t]? with
   | none=>rw[← hE]at hEt;simp[hc]at hEt
   | some c=>
    have hlt:t<args.length:=by rw[hlen];exact(BP.1 hc).1
    rw[abo hc];exact rl.2 t c _ hc (by simp[ar,hlt]) }
 have ajl:Qj β (λbl=>bl∈Az (ids.filterMap β)\/Zc bl) fz:=λi hi p a' hp ha hm=>by
  obtain hm|hm:=hm
  .exact gW hst.hs hnd.2 i hi p a' hp ha (.inl hm)
  .exact hm.2.2<|GZ.2 ⟨p,GZ.2 ⟨i,hi,hp⟩,by simp[HE,ha]⟩
 obtain⟨os,GO,G2⟩:=XF R m.ps cs args x rl hx (by rw[hfz];exact ajl);rw[hI]at G2;have mU:(λbl=>bl∈Az (ids.filterMap β)\/Zc bl)=λbl=>bl∈Az os\/Zc bl:=by rw[G2]
 rw[mU]at GO;have cw:∀bl∈Az os,MB β bl:=λbl h=>by rw[G2]at h;exact Tf h
 have Kr:=hS.2 x r hr w Zc args os GO (by rw[G2];exact az hst.hs OF)
  (λbl h=>⟨(hst.hs.old bl<|cw bl h).2,λhz=>hz.2.1 (by rw[← G2];exact h)⟩) (λbl h=>by
   obtain h1|h1:=h.1
   .exact(hst.hs.old bl h1).2
   .exact hst.hs.zl bl h1)
  (avp B.gl hst.hs λbl h=>cw bl h)
 rw[← HA]at Kr;refine acA hS.1 ho Kr ?_;rw[HA];rintro en w' ⟨v,rfl,IW⟩;refine⟨v,rfl, ?_⟩;rw[hod];obtain⟨vs,os1,os2,rfl,hr1,hr2,ase,hbl⟩:=IW.ex;obtain⟨β1,h1,hβ1,hZ1⟩:=St.uQ (a:=a) (w:=w) (stk:=stk) ro (OF.sublist aib) hst;obtain⟨β2,h2,hβ2,hZ2⟩:=h1.adX (CL m.rs||CL (B6 m.ps)) fz;have Gn:=agP (CL m.rs||CL (B6 m.ps)) fz<|ro.foldl S.kill s;have rB:=aD2 ro s;have aFC:∀ {id:Nat} {t:TypeId} {cs0:List AV},s.H id=I (.box t cs0)->∃cs1,(GU (CL m.rs||CL (B6 m.ps)) fz<|ro.foldl S.kill s).H id=I (.box t cs1):=fun {id t cs0} hid=>by
  obtain⟨cs1,h⟩:=yp ro s (λhm=>ed id hm t cs0 hid) hid;exact aty _ fz _ (λhm=>aZ id hm.2 t cs0 hid) h
 have avi:∀j,s.H j=U->(GU (CL m.rs||CL (B6 m.ps)) fz<|ro.foldl S.kill s).H j=U:=λj hj=>
  (aaC (N:=λ_=>False) (CL m.rs||CL (B6 m.ps)) fz<|BG.gT ro<|BG.refl _ s).nn j (λh=>h) hj
 generalize hq:(CL m.rs||CL (B6 m.ps))=q at *;generalize hs2:GU q fz (ro.foldl S.kill s)=s2 at *;have ZF:∀j p,β2 j=I p->β j=I p/\j ∉ ro/\ ¬(q=A1/\j∈fz):=λj p h=>by
  rw[hβ2]at h;split at h
  .cases h
  .rename_i hn;rw[hβ1]at h;split at h
   .cases h
   .rename_i hn';exact⟨h,hn',hn⟩
 have aaT:∀bl,β2.Z bl↔β.Z bl\/ ∃i∈ro,∃p a,β i=I p/\adr p.1=I a/\a.block=bl:=λbl=>by rw[hZ2];exact hZ1 bl
 generalize hbc:Ff m.ps cs=bcT at *;generalize hbv:Je m.ps args=bvT at *;have hM2:∃M2:Nat->Prop,Cc B.P w' M2 (ar args) m.rs r.1 vs os1/\Cc B.P w' M2 (ar args) (B6 m.ps) r.2 bvT os2/\(q=A3->∀bl,M2 bl)/\(q=A1->∀bl,(bl∈Az (os1++os2)\/Zc bl)->M2 bl):=by
  cases q with
  | false=>
   simp only[RW]at hq;exact⟨λ_=>True,Cc.anyM _ _ _ _ hq.1 hr1,Cc.anyM _ _ _ _ hq.2 hr2,λ_ _=>trivial,λh=>by cases h⟩
  | true=>exact⟨_,hr1,hr2,(by intro h;cases h),λ_ bl h=>h⟩
 obtain⟨M2,acq,arF,hMf,hMt⟩:=hM2;generalize hg:BQ E s2.H b (B6 m.ps) bcT r.2=g at *;obtain⟨ds,H1,b1⟩:=g;simp only at he;generalize hmk:Ak E H1 b1 m.rs r.1=g at *;obtain⟨rc,Hf,b2⟩:=g;simp only at he;split at he
 case h_2=>cases he
 rename_i hb2;have hb2:=DQ hb2;cases he;have PU:b1<=b2:=by have:=JB E m.rs H1 b1 r.1;rw[hmk]at this;exact this
 have hgb:(BQ E s2.H b (B6 m.ps) bcT r.2).2.2<=b+16:=by rw[hg];exact CB PU hb2
 have hdK:∀i∈EQ bc,i ∉ ro/\i ∉ fz/\ ∃t cs0,s.H i=I (.box t cs0):=λi hi=>by
  obtain⟨z,hz⟩:=zC hi;obtain⟨j,hj⟩:=uE hz;obtain⟨v,_,id,z',bb,k1,_,⟨t,cs0,k3⟩,_,_⟩:=hba.get hj;cases k1;exact⟨λh=>ed i h _ _ k3,λh=>aZ i h _ _ k3,t,cs0,k3⟩
 have apw:Fb B.P w' s2.H (B6 m.ps) bcT bvT bc bv:=hFb.carry IW.pk λi hi t cs0 h0=>by
  obtain⟨k1,k2,_⟩:=hdK i hi;obtain⟨cs1,h3,h4⟩:=aAM ro s k1 h0;obtain⟨cs2,h5,h6⟩:=anS q fz (ro.foldl S.kill s) (λhm=>k2 hm.2) h3;rw[hs2]at h5;refine⟨cs2,h5,λid2 z2 c1 e hm=> ?_⟩;obtain⟨c2,e2⟩:=h4 id2 z2 c1 e (hdK id2 hm).1;exact h6 id2 z2 c2 e2 λhm'=>(hdK id2 hm).2.1 hm'.2
 obtain⟨nw,at6,hb1,hgi⟩:=jK (E:=E) (P:=B.P) (w:=w') (M:=M2) (e:=ar args) (B6 m.ps) s2.H b r.2 bcT bc bvT bv os2 (b+16) apw (OF.sublist acU)
  (λi hi hh=>by
   obtain⟨_,_,t,cs0,k3⟩:=hdK i hi;rw[hfr i hh.1 hh.2]at k3;cases k3) arF hgb
 rw[hg]at hb1 hgi;simp only at hb1 hgi
 let os':=nw++os1
 let β3:Beta:=⟨λj=>if b<=j/\j<b+os'.length then os'[j - b]? else β2 j,B.Z⟩
 have Uj:∀j p,β3 j=I p->(b<=j/\j<b+os'.length/\os'[j - b]? =I p)\/(¬(b<=j/\j<b+os'.length)/\β2 j=I p):=λj p h=>by
  have h:(if b<=j/\j<b+os'.length then os'[j - b]? else β2 j)=I p:=h;split at h
  .rename_i hh;exact .inl ⟨hh.1,hh.2,h⟩
  .rename_i hh;exact .inr ⟨hh,h⟩
 have QM:Num β3 b os':=λi p hp=>by
  have hlt:=(BP.1 hp).1;show(if b<=b+i/\b+i<b+os'.length then os'[b+i - b]? else β2 (b+i))=I p;rw[A8 ⟨J,J⟩,show b+i - b=i by omega];exact hp
 have eY:(Az os2).Perm (Az nw++Az (bv.map λv=>(v,1))):=by
  have:=at6.filterMap HE;rwa[Md]at this
 have WL:∀bl,bl∈Az os'->bl∈Az (os1++os2):=λbl h=>by
  simp only[os',Az,Md,Br]at h ⊢;obtain h|h:=h
  .exact .inr (eY.mem_iff.2<|CE _ h)
  .exact .inl h
 have Xa:(Az os'++Az (bv.map λv=>(v,1))).Nodup:=by
  have h1:(Az<|os1++os2).Perm (Az os'++Az (bv.map λv=>(v,1))):=by
   simp only[os',Az,Md]at eY ⊢;refine(dD _ eY).trans ?_;rw[← C7];exact List.Perm.append_right _ List.perm_append_comm
  exact h1.nodup_iff.1 ase
 have ays:(Az os').Nodup:=(L7.1 Xa).1;have kP:∀i,i∈ids->i ∉ ro->∃v,(v,1)∈bv.map (λv=>(v,1))/\β i=I (v,1)/\(∃z,AV.ptr i z 0 0∈bc):=λi hi hn=>by
  rcases mS i hi with h|⟨z,h⟩
  .exact absurd h hn
  .obtain⟨j,hj⟩:=uE h;obtain⟨v,hv,id,z',bb,k1,k2,k3,k4,k5⟩:=hba.get hj;cases k1;exact⟨v,DP.2 ⟨v,Cg hv,rfl⟩,k4,z,h⟩
 have rL:∀j p a',β2 j=I p->adr p.1=I a'->a'.block∈Az os->j∈ids/\j ∉ ro:=λj p a' hj ha hm=>by
  obtain⟨h0,h1,_⟩:=ZF j p hj;rw[G2]at hm;obtain⟨i,hi,p',a2,hp',ha',e'⟩:=Lz hm;have:=hst.hs.inj j i p p' a' a2 h0 hp' ha ha' e'.symm;subst this;exact⟨hi,h1⟩
 have abh:∀bl,bl∈Az os->MZ β2 bl:=λbl hm=>by
  have hm':=hm;rw[G2]at hm;obtain⟨i,hi,p,a',hp,ha,e'⟩:=Lz hm;by_cases hr:i∈ro
  .exact .inr ((aaT bl).2<|.inr ⟨i,hr,p,a',hp,ha,e'⟩)
  .refine .inl ⟨i,p.1,p.2,a', ?_,ha,e'⟩;have hnf:i ∉ fz:=λhf=>aDa hnd.2 i hf hi;rw[hβ2,AB λh=>hnf h.2,hβ1,AB hr];exact hp
 have gA:∀bl,MB β3 bl->MB β2 bl\/bl∈Az os':=λbl hm=>by
  obtain⟨j,hd',n,a',hj,ha,e'⟩:=hm;rcases Uj j _ hj with⟨_,_,hj⟩|⟨_,hj⟩
  .exact .inr (GZ.2 ⟨_,Cg hj,by simp[HE,ha,e']⟩)
  .exact .inl ⟨j,hd',n,a',hj,ha,e'⟩
 have Cv:∀bl o v,¬MZ β2 bl->w.cell? ⟨bl,o,U⟩=I v->w'.cell? ⟨bl,o,U⟩=I v:=λbl o v hn hc=>by
  have hlt:=block_lt_of_cell hc;rw[UO (w:=w) (w':=w')<|IW.block bl hlt λhm=>hn<|abh bl hm];exact hc
 have aw8:∀bl,¬MZ β2 bl->bl<w.heap.size->¬MZ β3 bl:=λbl hn hlt hm=>by
  obtain hm|hm:=hm
  .rcases gA bl hm with h|h
   .exact hn (.inl h)
   .rcases(hbl bl<|WL bl h).1 with h3|h3
    .exact hn (abh bl h3)
    .omega
  .exact hn<|.inr<|(aaT bl).2<|.inl (by rw[hst.hs.z];exact hm)
 have Xr:∀j p,β2 j=I p->β3 j=I p:=λj p hj=>by
  have hne:¬(b<=j/\j<b+os'.length):=λhh=>by
   have agx:os'.length=nw.length+os1.length:=by simp[os']
   have h3:=(hgi:_);obtain⟨ob,hob⟩:=h2.hs.dom j p hj;have:=avi j (hfr j hh.1 (by
    have:b2=b1+os1.length:=by
     have:=th hrs acq (E:=E) (H:=H1) (b:=b1);rw[hmk]at this;exact this
    omega))
   rw[this]at hob;cases hob
  show(if b<=j/\j<b+os'.length then os'[j - b]? else β2 j)=I p;rw[AB hne];exact hj
 have hkp:Kp w β2 w' β3:=λc v hc=>hc.mono Xr Cv aw8;have hM3:∀bl,MZ β3 bl->M2 bl:=λbl hm=>by
  cases q with
  | false=>exact hMf rfl bl
  | true=>
   refine hMt rfl bl ?_;obtain hm|hm:=hm
   .rcases gA bl hm with h|h
    .obtain⟨j,hd',n,a',hj,ha,e'⟩:=h;obtain⟨k1,k2,k3⟩:=ZF j _ hj;by_cases hji:j∈ids
     .obtain⟨v,hv1,hv2,_⟩:=kP j hji k2;rw[k1]at hv2;cases hv2;refine .inl ?_;simp only[Az,Md,Br];refine .inr (eY.mem_iff.2<|Cy _<|GZ.2 ⟨_,hv1,by simp[HE,ha,e']⟩)
     .refine .inr ⟨.inl ⟨j,hd',n,a',k1,ha,e'⟩,λhb=> ?_,λhb=> ?_⟩
      .rw[← G2,← e']at hb;exact hji (rL j _ a' hj ha hb).1
      .obtain⟨i,hi,p,a2,hp,ha2,e2⟩:=Lz hb;have:=hst.hs.inj j i _ p a' a2 k1 hp ha ha2<|e'.trans e2.symm;subst this;exact k3 ⟨rfl,hi⟩
    .exact .inl (WL bl h)
   .have hz:β.Z bl:=by rw[hst.hs.z];exact hm
    refine .inr ⟨.inr hz,λhb=> ?_,λhb=> ?_⟩
    .obtain⟨i,hi,p,a2,hp,ha2,e2⟩:=Lz hb;exact hst.hs.zn i p a2 hp ha2 (e2▸hz)
    .obtain⟨i,hi,p,a2,hp,ha2,e2⟩:=Lz hb;exact hst.hs.zn i p a2 hp ha2<|e2▸hz
 obtain⟨g1,g2,g3,g4⟩:=hgi β3 hM3 QM.left (λi c v k1 k2 id z hc=>by
  obtain⟨id',z',bb,j1,j2,j3,j4,j5⟩:=hba.2 i c v k1 k2;rw[hc]at j1;cases j1;refine Xr id _ ?_;have hnr:id ∉ ro:=λh=>ed id h _ _ j3.choose_spec.choose_spec;have hnf:id ∉ fz:=λh=>aZ id h _ _ j3.choose_spec.choose_spec;rw[hβ2,AB λh=>hnf h.2,hβ1,AB hnr];exact j4)
 have amF:WK w' β3 E (ar args) (IZ m.rs):=λt ht=>by
  obtain⟨p,hp1,hp2⟩:=hsm t ht;obtain rfl:=Bn hp2;obtain⟨_,e1,l1,hp3⟩:=aBV m.ps 0 p hp1;rw[JM]at hp3;obtain⟨c,y,hc,hy⟩:=wV hx hp3;have hlt:p<args.length:=by rw[hlen];exact(BP.1 hc).1
  have hR:=rl.2 p c (ar args p) hc (by simp[ar,hlt]);rw[abo hc];cases c<;>first|(cases hy;done)|skip
  rename_i id z i' o';cases i'<;>cases o'<;>simp only[Bp]at hy<;>first|(cases hy;done)|skip
  split at hy
  case h_2=>cases hy
  rename_i t' cs' hid;have hnr:id ∉ ro:=λh=>ed id h _ _ hid;have hnf:id ∉ fz:=λh=>aZ id h _ _ hid;have hR:=hR.Q1;generalize ar args p=v at hR;cases hR with
  | ptr k1 k2 k3=>exact .Ml<|.ptr (Xr id _ (by rw[hβ2,AB λh=>hnf h.2,hβ1,AB hnr];exact k1)) k2 k3
 obtain⟨f1,f2,f3⟩:=dO (β:=β3) (E:=E) (M:=M2) (P:=B.P) (w:=w') (e:=ar args) hM3 m.rs H1 b1 r.1 vs os1 hrs acq (by rw[hb1];exact QM.right) amF;rw[hmk]at f1 f2 f3;simp only at f1 f2 f3;have agx:os'.length=nw.length+os1.length:=by simp[os']
 have aAq:∀j,(∃ob,Hf j=I ob/\E9 B.P w' β3 j ob)\/(Hf j=s2.H j/\ ∀z,AV.ptr j z 0 0 ∉ bc):=λj=>by
  by_cases hj:b1<=j/\j<b1+os1.length
  .exact .inl (f3.2 j hj.1 hj.2)
  .have e1:Hf j=H1 j:=f3.1 j J;rcases g1 j with h|⟨ob,h,h'⟩
   .by_cases hm:∃z,AV.ptr j z 0 0∈bc
    .obtain⟨z,hm⟩:=hm;obtain⟨ob,h3,h4⟩:=g3 j z hm;exact .inl ⟨ob,by rw[e1];exact h3,h4⟩
    .exact .inr ⟨e1.trans h,λz hz=>hm ⟨z,hz⟩⟩
   .exact .inl ⟨ob,by rw[e1];exact h,h'⟩
 have hHf:Hs B β3 Hf w':={
  ER:=λj ob hj=>by
   rcases aAq j with⟨ob',h3,h4⟩|⟨h3,h4⟩
   .rw[h3]at hj;cases hj;exact h4
   .rw[h3]at hj;have hob:=h2.hs.ER j ob hj;have hex:∃p,β2 j=I p:=by
     cases ob with
     | box e cs=>obtain⟨_,_,h,_⟩:=hob;exact⟨_,h⟩
     | row e fz k xs=>obtain⟨_,h,_⟩:=hob;exact⟨_,h⟩
     | arr e k xs=>obtain⟨_,_,h,_⟩:=hob;exact⟨_,h⟩
    obtain⟨p,hp⟩:=hex;refine hob.mono (by rw[Xr j p hp,hp]) hkp λp' a' hp' ha'=> ?_;rw[hp]at hp';cases hp';have hlt:=(h2.hs.old a'.block ⟨j,p.1,p.2,a',hp,ha',rfl⟩).2;refine IW.block a'.block hlt λhm=> ?_;obtain⟨h5,h6⟩:=rL j p a' hp ha' hm;obtain⟨_,_,_,z,hz⟩:=kP j h5 h6;exact h4 z hz
  dom:=λj p hj=>by
   rcases aAq j with⟨ob',h3,_⟩|⟨h3,_⟩
   .exact⟨ob',h3⟩
   .rcases Uj j p hj with⟨k1,k2,k3⟩|⟨_,hj⟩
    .by_cases hjb:j<b+nw.length
     .obtain⟨ob,k4,_⟩:=g2 j k1 hjb;have:Hf j=H1 j:=f3.1 j J;exact⟨ob,by rw[this];exact k4⟩
     .obtain⟨ob,k4,_⟩:=f3.2 j J J;exact⟨ob,k4⟩
    .obtain⟨ob,k4⟩:=h2.hs.dom j p hj;exact⟨ob,by rw[h3];exact k4⟩
  inj:=λi j p p' a1 a2 hi hj ha1 ha2 hb=>by
   have W3:∀(i j:Nat) (p p':Value×Nat) (a1 a2:Addr),β2 i=I p->os'[j - b]? =I p'->adr p.1=I a1->adr p'.1=I a2->a1.block=a2.block->False:=by
    intro i j p p' a1 a2 hi hj ha1 ha2 hb;have hm2:a2.block∈Az os':=GZ.2 ⟨p',Cg hj,by simp[HE,ha2]⟩;rcases(hbl a2.block<|WL _ hm2).1 with h3|h3
    .rw[← hb]at h3;obtain⟨h5,h6⟩:=rL i p a1 hi ha1 h3;obtain⟨v,hv1,hv2,_⟩:=kP i h5 h6;rw[(ZF i p hi).1]at hv2;cases hv2;have hm1:a1.block∈Az (bv.map λv=>(v,1)):=GZ.2 ⟨_,hv1,by simp[HE,ha1]⟩;exact(L7.1 Xa).2.2 _ hm2 _ hm1 hb.symm
    .have:=(h2.hs.old a1.block ⟨i,p.1,p.2,a1,hi,ha1,rfl⟩).2;omega
   rcases Uj i p hi with⟨i1,i2,i3⟩|⟨_,i3⟩<;>rcases Uj j p' hj with⟨j1,j2,j3⟩|⟨_,j3⟩
   .have:=cI ays (i - b) (j - b) p p' a1 a2 i3 j3 ha1 ha2 hb;omega
   .exact(W3 j i p' p a2 a1 j3 i3 ha2 ha1 hb.symm).elim
   .exact(W3 i j p p' a1 a2 i3 j3 ha1 ha2 hb).elim
   .exact h2.hs.inj i j p p' a1 a2 i3 j3 ha1 ha2 hb
  old:=λbl hm=>by
   rcases gA bl hm with h|h
   .exact⟨(h2.hs.old bl h).1,Gw (h2.hs.old bl h).2 IW.size⟩
   .have h3:=hbl bl<|WL bl h;refine⟨?_,h3.2⟩;obtain h4|h4:=h3.1
    .exact(hst.hs.old bl<|cw bl h4).1
    .exact .inr (CB hst.hs.size h4)
  os:=IW.wos.trans hst.hs.os
  tape:=IW.tape.trans hst.hs.tape
  output:=IW.output.trans hst.hs.output
  size:=CB hst.hs.size IW.size
  block:=λbl hlt hO=>by
   rw[IW.block bl (Gw hlt hst.hs.size) λhm=> ?_]
   .exact hst.hs.block bl hlt hO
   .rcases(hst.hs.old bl<|cw bl hm).1 with h|h
    .exact hO h
    .omega
  z:=rfl
  zn:=λj p a' hj ha hz=>by
   rcases Uj j p hj with⟨_,_,j3⟩|⟨_,j3⟩
   .have hm2:a'.block∈Az os':=GZ.2 ⟨p,Cg j3,by simp[HE,ha]⟩;rcases(hbl a'.block<|WL _ hm2).1 with h3|h3
    .rw[G2]at h3;obtain⟨i,hi,p2,a2,hp2,ha2,e2⟩:=Lz h3;exact hst.hs.zn i p2 a2 hp2 ha2 (by rw[e2,hst.hs.z];exact hz)
    .have:=hst.hs.zl a'.block (by rw[hst.hs.z];exact hz);omega
   .exact hst.hs.zn j p a' (ZF j p j3).1 ha (by rw[hst.hs.z];exact hz)
  zl:=λbl hz=>Gw (hst.hs.zl bl (by rw[hst.hs.z];exact hz)) IW.size
  pk:=hst.hs.pk.trans IW.pk }
 have iL:St B β3 stk { s2 with H:=Hf } a w':=by
  refine⟨λt=>RT.mono hkp<|h2.T t,⟨h2.stack.1,λi T tm k1 k2 t=>RT.mono hkp<|h2.stack.2 i T tm k1 k2 t⟩,h2.n,h2.defers,h2.pins,h2.gs,hHf⟩
 have E3:({ s2 with H:=Hf } :S).has d=A1:=by
  have:({ s2 with H:=Hf } :S).has d=s.has d:=Qf (Gn.1.trans rB.1) (Gn.2.1.trans rB.2.1) (Gn.2.2.trans rB.2.2) d;rw[this];exact hd
 exact hK β3 (M8 vs) w'<|RF iL E3<|aDK f1
end
end Go.VS
namespace Go.VS
open Go
section
variable {B:Be} {β β':Beta} {H:Hp} {w w':World} {stk:List (Array Value)} {s s':S} {a:Act} {P:Program} {C:Cx}
def pN(hΓ:∀f d m,C.Γ f d=I m->Gt P f m/\okQ P m=A1)(B:Be)(hB:B.P=P):H9 C B:=by
 intro f d m hm β stk s a w b as s' o ts K Q hst hfr hd he hod ho hK;obtain⟨h1,h2⟩:=hΓ f d m hm;rw[← hB]at h1 h2;exact aqo h1 h2 hst hfr hd he hod ho hK
def aB7{c:AV}(h:plB c=A1):(∀g w v,c≠ .gd g w v)/\ ∀vs,c≠ .tup vs:=by
 constructor
 .rintro g w v rfl;cases h
 .rintro vs rfl;cases h
def aC4(hP:C.P=B.P)(hm:B.P.follows .mixedOrders=A1)(hC:H9 C B):∀n,JG C B<|Nc C n
 | 0=>ab8 C B
 | n+1=>by
  intro Ω f d as s k q he β stk a w o args ts K Q hst hfr hd hod has ho hK;have ih:=aC4 hP hm hC n;unfold Nc at he;simp only at he;split at he
  .cases he
  rename_i fn hfn;split at he
  case h_2=>cases he
  rename_i body aa0 K7;split at he
  case h_2=>cases he
  rename_i aD8;simp only[AI]at aD8;obtain⟨⟨hc1,hc2⟩,hc3⟩:=aD8;have hpl:∀c∈as,(∀g w v,c≠ .gd g w v)/\ ∀vs,c≠ .tup vs:=λc hc=>aB7<|Cr.1 hc3 c hc;have hlen:as.length<=fn.ntmps:=DQ hc2;rw[hP]at hfn;refine acA (NZ hfn (by simpa using K7) aa0) ho (R:=λen w'=>∃v,en= .returned v/\K (a.put o.dst v) w') ?_ (λen w' h=>h);refine calls_of_wp hfn aa0 ?_;have HA:(args.map a.eval).length=as.length:=by rw[has];simp
  have arC:St B β (a.tmps::stk) { s with n:=fn.ntmps,T:=λt=>(as[t]?).getD Dp,st:=s.T::s.st,pins:=[],gs:=λ_=>A3 }
    { tmps:=(args.map a.eval).toArray++Ra (fn.ntmps - (args.map a.eval).toArray.size) undef,defers:=[] } w:=by
   refine⟨λt=> ?_,⟨by simp[hst.stack.1],λi T tm h1 h2 t=> ?_⟩, ?_,rfl,λt ht=>by simp at ht,λt g want y hy=> ?_,hst.hs⟩
   .rw[U2];show RT w β _ ((as[t]?).getD Dp) _;cases hv:as[t]? with
    | none=>
     have:(args.map a.eval).length<=t:=by rw[HA];exact XW.1 hv
     have e0:ar (args.map a.eval) t=undef:=by simp only[ar,BD,I7 this];rfl
     rw[e0];exact(show R2 w β Dp undef from rfl)
    | some c=>
     have hv':=hv;rw[has,DE]at hv';obtain⟨x,hx,rfl⟩:=DL.1 hv';have e0:ar (args.map a.eval) t=a.eval x:=by simp[ar,hx]
     rw[e0];have hp:=hpl _<|Cg hv;exact((hst.eval x).Lq hp.1 hp.2).Zt
   .cases i with
    | zero=>
     simp at h1 h2;subst h1;subst h2;exact hst.T t
    | succ i=>exact hst.stack.2 i T tm (by simpa using h1) (by simpa using h2) t
   .simp only[Pz,Kn,ru];omega
   .have hy:(as[t]?).getD Dp= .gd g want y:=hy;cases hv:as[t]? with
    | none=>rw[hv]at hy;cases hy
    | some c=>
     rw[hv]at hy;exact absurd hy<|(hpl c<|Cg hv).1 _ _ _
  have key:∀β' a' w' s',St B β' (a.tmps::stk) s' a' w'->Fr s'->(match s'.st,RM C.P s' fn.results.toList with
     | T::st,I vs=>match vs.all plB with
      | true=>k ({ s' with n:=s.n,T:=λt=>OL<|T t,st:=st,pins:=s.pins,gs:=λ_=>A3 }.put d<|Lk vs)
      | false=>U
     | _,_=>U)=I q->a'.defers=[]/\ ∃v,(results fn a'.tmps).run B.P w'= .ok v w'/\ ∃v',Ending.returned v= .returned v'/\K (a.put o.dst v') w':=by
   intro β' a' w' s' h1 h2 h3;refine⟨h1.defers, ?_⟩;split at h3
   case h_2=>cases h3
   rename_i T st vs MY hvs;split at h3
   case h_2=>cases h3
   rename_i F3;obtain⟨us,k1,k2,k3⟩:=bp hP h1 fn.results.toList hvs;rw[hP]at k1;refine⟨M8 us,aDs k1,M8 us,rfl, ?_⟩;rw[hod];have rl:RL (R1 w' β') vs us:=⟨k2,λj c u e1 e2=>by
    have hp:=aB7<|Cr.1 F3 c<|Cg e1;exact(k3 j c u e1 e2).Lq hp.1 hp.2⟩
   have Qv:=h1.stack;rw[MY]at Qv;have hTt:∀t,RT w' β' (Ba a) (T t) (Ba a t):=λt=>Qv.2 0 T a.tmps rfl rfl t;have l8:St B β' stk { s' with n:=s.n,T:=λt=>OL<|T t,st:=st,pins:=s.pins,gs:=λ_=>A3 } a w':=by
    refine⟨λt=> ?_,⟨by simpa using Qv.1,λi T' tm e1 e2 t=>Qv.2 (i+1) T' tm (by simpa using e1) (by simpa using e2) t⟩,hst.n,hst.defers,hst.pins,λt g want y hy=> ?_,h1.hs⟩
    .have:=hTt t;show RT w' β' _ (OL<|T t) _;cases hT:T t<;>rw[hT]at this<;>first|exact this|trivial
    .have hy:OL (T t)= .gd g want y:=hy;unfold OL at hy;split at hy
     .cases hy
     .rename_i hn;exact absurd hy<|hn _ _ _
   have E3:({ s' with n:=s.n,T:=λt=>OL<|T t,st:=st,pins:=s.pins,gs:=λ_=>A3 } :S).has d=A1:=by
    cases d with
    | none=>rfl
    | some d=>
     simp only[S.has,AI,DR]at hd ⊢;exact⟨hd.1,trivial⟩
   refine hK β' (M8 us) w' _ (RF l8 E3<|aDK rl) (λj hj=> ?_) ?_ ?_ h3
   .have hj:s'.nid<=j:=by cases d<;>exact hj
    have:=h2 j hj;cases d<;>exact this
   .cases d<;>rfl
   .cases d<;>rfl
  refine YW hP hm hC ih body .nil _ _ q he arC hfr (Fw _ body) ⟨?_, ?_, ?_⟩
  .exact λβ' a' w' s' h1 h2 _ _ h5=>key β' a' w' s' h1 h2 h5
  .exact λβ' a' w' s' h1 h2 _ _ h5=>key β' a' w' s' h1 h2 h5
  .intro id β' a' w' s' h1 h2 h3 h4 h5;cases h5
end
def Bj{A R:Type}(t:(A->Option R)->A->Option R):Nat->A->Option R
 | 0=>λ_=>U
 | n+1=>t (Bj t n)
open Classical in
def O9 {A R:Type} (t:(A->Option R)->A->Option R) (x:A):Option R:=
 if h:∃n r,Bj t n x=I r then I (NT<|It h) else U
def aCf{A R:Type}{t:(A->Option R)->A->Option R}{x:A}{r:R}(h:O9 t x=I r):∃n,Bj t n x=I r:=by
 unfold O9 at h;split at h
 .rename_i hn;have:=It<|It hn;cases h;exact⟨_,this⟩
 .cases h
def asv{P:Program}{f:FuncId}{ps rs:List Sh}{t:(LTs ps->Option (LTs rs×LTs (B6 ps)))->LTs ps->Option (LTs rs×LTs (B6 ps))}(he:MI P f)
  (h:∀g,Gt P f ⟨ps,rs,g⟩->Gt P f ⟨ps,rs,t g⟩):Gt P f ⟨ps,rs,O9 t⟩:=by
 have hn:∀n,Gt P f ⟨ps,rs,Bj t n⟩:=by
  intro n
  induction n with
  | zero=>exact⟨he,λx r hx=>by cases hx⟩
  | succ n ih=>exact h _ ih
 refine⟨he,λx r hx=> ?_⟩;obtain⟨n,hx⟩:=aCf hx;intro w Z args os h1 h2 h3 h4 h5;exact Lp ((hn n).2 x r hx w Z args os h1 h2 h3 h4 h5) λen w' ⟨v,e,hr⟩=>⟨v,e,⟨hr.ex,hr.wos,hr.tape,hr.output,hr.size,hr.block,hr.pk⟩⟩
end Go.VS
namespace Go.VS
open Go
def gam:List (Nat×Option Nat×Da)->Nat->Option Nat->Option Da
 | [],_,_=>U
 | (f,e,m)::l,g,d=>match Aj f g&&(match e,d with
   | none,_=>A1
   | some a,I b=>Aj a b
   | some _,U=>A3) with
  | true=>I m
  | false=>gam l g d
def Nw(P:Program)(l:List (Nat×Option Nat×Da)):Prop:=∀e∈l,Gt P e.1 e.2.2/\okQ P e.2.2=A1
def AL{P:Program}:Nw P []:=λe h=>by cases h
def jY{P:Program}{l:List (Nat×Option Nat×Da)}(h:Nw P l):∀f d m,gam l f d=I m->Gt P f m/\okQ P m=A1:=by
 induction l with
 | nil=>intro f d m hm;cases hm
 | cons e l ih=>
  obtain⟨g,e,m'⟩:=e;intro f d m hm;unfold gam at hm;split at hm
  .rename_i hc;simp only[AI]at hc;cases hm;obtain rfl:=Bn hc.1;exact h _ Ap
  .exact ih (λe he=>h e<|Al _ he) f d m hm
def Fg:Code->Adv->List (Code×Loop)
 | .seq a b,.join _ u v=>Fg a u++Fg b v
 | .seq a b,.two u v=>Fg a u++Fg b v
 | .seq a _,.one u=>Fg a u
 | .cond _ x _,.one u=>Fg x u
 | .cond _ x y,.two u v=>Fg x u++Fg y v
 | .cond _ x y,.join _ u v=>Fg x u++Fg y v
 | .block _ c,.one u=>Fg c u
 | .block _ c,.two u _=>Fg c u
 | .block _ c,.join _ u _=>Fg c u
 | .loop c,.loop l=>[(c,l)]
 | _,_=>[]
def IC{L:Code->Loop->Prop}:∀(c:Code) (v:Adv),(∀p∈Fg c v,L p.1 p.2)->I2 L c v
 | .seq a b,.join _ u v,h=>⟨IC a u λp hp=>h p<|CE _ hp,IC b v λp hp=>h p<|Cy _ hp⟩
 | .seq a b,.two u v,h=>⟨IC a u λp hp=>h p<|CE _ hp,IC b v λp hp=>h p<|Cy _ hp⟩
 | .seq a b,.one u,h=>⟨IC a u h,Fw L b⟩
 | .seq a b,.nil,_=>⟨Fw L a,Fw L b⟩
 | .seq a b,.loop _,_=>⟨Fw L a,Fw L b⟩
 | .cond _ x y,.one u,h=>⟨IC x u h,Fw L y⟩
 | .cond _ x y,.two u v,h=>⟨IC x u λp hp=>h p<|CE _ hp,IC y v λp hp=>h p<|Cy _ hp⟩
 | .cond _ x y,.join _ u v,h=>⟨IC x u λp hp=>h p<|CE _ hp,IC y v λp hp=>h p<|Cy _ hp⟩
 | .cond _ x y,.nil,_=>⟨Fw L x,Fw L y⟩
 | .cond _ x y,.loop _,_=>⟨Fw L x,Fw L y⟩
 | .block _ c,.one u,h=>IC c u h
 | .block _ c,.two u _,h=>IC c u h
 | .block _ c,.join _ u _,h=>IC c u h
 | .block _ c,.nil,_=>Fw L c
 | .block _ c,.loop _,_=>Fw L c
 | .loop c,.loop l,h=>h (c,l) (by simp[Fg])
 | .loop _,.nil,_=>trivial
 | .loop _,.one _,_=>trivial
 | .loop _,.two _ _,_=>trivial
 | .loop _,.join _ _ _,_=>trivial
 | .skip,_,_=>trivial
 | .region _ _ _,_,_=>trivial
 | .exit _,_,_=>trivial
 | .ret,_,_=>trivial
 | .rangeFunc _ _ _ _,_,_=>trivial
 | .scope _,_,_=>trivial
 | .label _,_,_=>trivial
 | .goto _,_,_=>trivial
 | .refuse _,_,_=>trivial
def Tc(L:Code->Loop->Prop)(l:List (Code×Loop)):Prop:=∀p∈l,L p.1 p.2
def tM{L:Code->Loop->Prop}{c:Code}{v:Adv}{l:List (Code×Loop)}(h:Fg c v=l)(hl:Tc L l):I2 L c v:=IC c v (by rw[h];exact hl)
def aru{L:Code->Loop->Prop}:Tc L []:=λp h=>by cases h
def azh{L:Code->Loop->Prop}{c:Code}{v:Loop}{l:List (Code×Loop)}(h:L c v)(hl:Tc L l):Tc L ((c,v)::l):=λp hp=>by
 rcases Bk.1 hp with rfl|hp
 .exact h
 .exact hl p hp
abbrev Ent:=Nat×Option Nat×Da
def SQ(P:Program)(e:Ent):Prop:=Gt P e.1 e.2.2/\okQ P e.2.2=A1
def gC{P:Program}{e:Ent}{l:List Ent}(h:SQ P e)(hl:Nw P l):Nw P (e::l):=λx hx=>by
 rcases Bk.1 hx with rfl|hx
 .exact h
 .exact hl x hx
def gCd{P:Program}{e:Ent}{d:Option Nat}{l:List Ent}(h:SQ P e)(hl:Nw P l):Nw P ((e.1,d,e.2.2)::l):=λx hx=>by
 rcases Bk.1 hx with rfl|hx
 .exact h
 .exact hl x hx
def inR:List (Nat×Nat)->Nat->Bool
 | [],_=>A3
 | (a,b)::l,n=>match E0 a n&&E0 n b with
  | true=>A1
  | false=>inR l n
structure OKC (P:Program) (C:Cx) (inl:(Ω:Type)->Inl Ω):Prop where
 p:C.P=P
 m:P.follows .mixedOrders=A1
 c:∀B:Be,B.P=P->H9 C B
 i:∀B:Be,B.P=P->JG C B inl
def okc{P:Program}{kd:TypeId->Option K}{l:List Ent}{cz sp:Nat->Bool}(hm:P.follows .mixedOrders=A1)(h:Nw P l):OKC P ⟨P,kd,gam l,cz,sp⟩ AF:=
 ⟨rfl,hm,λB hB=>pN (C:=⟨P,kd,gam l,cz,sp⟩) (jY h) B hB,λB _=>ab8 _ B⟩
def adM{P:Program}{kd:TypeId->Option K}{l:List Ent}{cz sp:Nat->Bool}(n:Nat)(hm:P.follows .mixedOrders=A1)(h:Nw P l):OKC P ⟨P,kd,gam l,cz,sp⟩ (Nc ⟨P,kd,gam l,cz,sp⟩ n):=
 ⟨rfl,hm,λB hB=>pN (C:=⟨P,kd,gam l,cz,sp⟩) (jY h) B hB,λB hB=>aC4 (C:=⟨P,kd,gam l,cz,sp⟩) (B:=B) hB.symm (by rw[hB];exact hm) (pN (C:=⟨P,kd,gam l,cz,sp⟩) (jY h) B hB) n⟩
def LpK(P:Program)(n:Nat)(pins:List Nat)(ls:List (Code×Loop)):Prop:=∀B:Be,B.P=P->Tc (Mz B n pins) ls
def kN{P:Program}{n:Nat}{pins:List Nat}:LpK P n pins []:=λ_ _=>aru
def kC{P:Program}{n:Nat}{pins:List Nat}{c:Code}{l:Loop}{ls:List (Code×Loop)}(h:LpK P n pins [(c,l)])(hl:LpK P n pins ls):LpK P n pins ((c,l)::ls):=λB hB=>azh (h B hB (c,l) Ap)<|hl B hB
def lk{P:Program}{C:Cx}{inl:(Ω:Type)->Inl Ω}(hC:OKC P C inl){n:Nat}{pins:List Nat}{body:Code}{v:Adv}{l:Loop}{b:Lv l.sch->Option (Lv l.sch ⊕ (Lv l.Jr ⊕ Lv l.Jp))}{ls:List (Code×Loop)}
  (hb:∀x,evL C inl n pins body v l x=b x)(hr:l.run=AW b)(h:Fg body v=ls)(hl:LpK P n pins ls):LpK P n pins [(body,l)]:=λB hB p hp=>by
 obtain rfl:=DB.1 hp;exact atl (hC.p.trans hB.symm) (by rw[hB];exact hC.m) (hC.c B hB) (hC.i B hB) hb hr<|tM h<|hl B hB
def fnB(P:Program)(f:Nat)(fn:Func)(m:Da):Option Func×Bool×Bool×Bool:=(P.funcs[f]?, fn.name == "runtime.NumGoroutine",okM m fn.ntmps,okQ P m)
def so{P:Program}{C:Cx}{inl:(Ω:Type)->Inl Ω}{f:Nat}{d:Option Nat}{fn:Func}{m:Da}{v:Adv}{ls:List (Code×Loop)}(hC:OKC P C inl)
  (hf:fnB P f fn m=(I fn,A3,A1,A1))(hb:fn.body=I (LD fn))(h:Fg (LD fn) v=ls)(hl:LpK P fn.ntmps (Dz 0 m.ps) ls)(hg:∀x,cN C inl fn v m x=m.g x):SQ P (f,d,m):=by
 simp only[fnB,CM]at hf;exact⟨azb hC.p hC.m hC.c hC.i hf.1 hf.2.1 hb hf.2.2.1 (λB hB=>tM h<|hl B hB) hg,hf.2.2.2⟩
def soR{P:Program}{f:Nat}{d:Option Nat}{ps rs:List Sh}{t:(LTs ps->Option (LTs rs×LTs (B6 ps)))->LTs ps->Option (LTs rs×LTs (B6 ps))}(he:MI P f)
  (hq:∀g,okQ P ⟨ps,rs,g⟩=A1)(h:∀g,SQ P (f,d,⟨ps,rs,g⟩)->SQ P (f,d,⟨ps,rs,t g⟩)):SQ P (f,d,⟨ps,rs,O9 t⟩):=
 ⟨asv he λg hg=>(h g ⟨hg,hq g⟩).1,hq _⟩
def MF(a b c d:Int)(e:A4)(a' b' c' d':Int)(e':A4):Bool:=A0 (a=a')&&(A0 (b=b')&&(A0 (c=c')&&(A0 (d=d')&&(A0 (e=e')&&A1))))
end Go.VS
end
