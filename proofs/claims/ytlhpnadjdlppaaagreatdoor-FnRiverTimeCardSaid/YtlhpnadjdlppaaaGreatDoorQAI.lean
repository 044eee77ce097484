/- Part 9. -/
import Derived.Tactics
import Derived.Test.YtlhpnadjdlppaaaGreatDoorQAH
open Array renaming getD_eq_getD_getElem?->U1,getElem?_append_left->Mb,getElem?_eq_some_iff->HJ,getElem?_toList->Uu,length_toList->En,replicate->Q6,size_append->Qy,size_replicate->ik
open Bool renaming and_eq_true->AI,false->A3,false_eq_true->Hl,not_eq_true'->Df,not_eq_true->HH,or_eq_false_iff->NO,or_eq_true->Cj,true->A1
open Classical renaming choose->OB,choose_spec->Ig
open Decidable renaming decide->A0
open Go.Calls renaming mono->MX
open Go.Code renaming region->Pn
open Go.Instr renaming loadAt->My,sureAddr->JU
open Go.Region renaming wanted->J2
open Go.Result renaming andThen_ok->El
open Go.Sem renaming run_bind->Ed,run_pure->FM
open Go.Value renaming pointer->NZ
open Go.World renaming cell?_of_block->SV
open List renaming all_cons->PJ,all_eq_true->C0,any_eq_true->KR,append_assoc->C2,append_nil->C1,cons_append->LB,drop_eq_getElem_cons->Rt,drop_eq_nil_of_le->KH,drop_zero->Ib,eq_nil_of_length_eq_zero->E9,filterMap_append->MI,filterMap_cons->gT,getD_eq_getElem?_getD->BG,getElem?_append_left->I6,getElem?_append_right->Ek,getElem?_eq_none->I0,getElem?_eq_none_iff->bK,getElem?_eq_some_iff->BM,getElem?_map->D5,getElem?_of_mem->uD,length_append->Ap,length_cons->Bt,mapM_cons->V3,map_append->F1,map_congr_left->GM,map_cons->DI,mem_append->Bk,mem_append_left->C5,mem_append_right->Ch,mem_cons->Bj,mem_cons_of_mem->Aj,mem_cons_self->An,mem_filterMap->GB,mem_map->DF,mem_of_getElem?->CZ,mem_range->D7,mem_singleton->DG,nodup_append->LY,nodup_cons->L3,pairwise_cons->On,pairwise_lt_range->RQ,range->BO,range_succ->Kw,reverse_reverse->oU,size_toArray->Kc,sublist_append_right->Zd
open List.Perm renaming append_left->Xd
open List.Sublist renaming refl->Et
open List.cons renaming injEq->Ln
open Nat renaming add_assoc->Ct,add_comm->NL,add_mul->EE,beq->Ag,beq_eq->Gy,ble->Dn,le_add_right->dq,le_of_ble_eq_true->D8,le_refl->Ar,le_trans->C7,lor->BN,lt_of_lt_of_le->Gd,mul_le_mul_right->Dx,ne_of_lt->PL,sub_zero->JR,zero_add->DS,zero_le->Ce,zero_mul->TD
open Option renaming bind_eq_some_iff->Al,bind_some->A9,map_eq_some_iff->Cz,none->U,some->I
open Option.some renaming inj->CX
open Prod.mk renaming injEq->CD
set_option linter.all false
noncomputable section
namespace Go.VS
open Go
section
variable {C:Cx} {B:Bc} {ops:Array Oper} {stk:List (Array Value)} {s s' s0:S} {b b0:Nat} {Ω:Type} {q:Ω}
def agr{m:DK}{d:Option Nat}{as:List AV}{k:S->Option Ω}:Hu m s b d as k=(Hu m s b d as I).bind k:=by
 unfold Hu;simp only;split
 .rename_i x hx hn;cases m.g x with
  | none=>rfl
  | some r=>
   simp only[A9];split
   .rfl
   .rfl
 .rfl
def VD{r:PR}{f:AV->List Ob->S}{k:S->Option Ω}:(match r with
   | some (q,v,os)=>if q then k (f v os) else U
   | none=>U)=(match r with
   | some (q,v,os)=>if q then I (f v os) else U
   | none=>U).bind k:=by
 cases r with
 | none=>rfl
 | some r=>obtain⟨q,v,os⟩:=r;cases q<;>rfl
def aAk{o:Oper}{k:S->Option Ω}(inl:Inl Ω)(hi:∀f c,o.op= .call c->c.callee= .value (.func f)->C.Γ f o.dst=U->∀d as s k,inl f d as s k=U):
  CA C inl o b s k=(CA C (AF S) o b s I).bind k:=by
 unfold CA;split
 .rfl
 generalize ho:o.op=op at *;cases op
 case store t p x=>
  simp only;split<;>rfl
 case call c=>
  simp only;split
  .rename_i f hf;split
   .exact agr
   .rename_i hm;rw[hi f c rfl hf hm];rfl
  .split
   .split<;>rfl
   .rfl
  .split<;>rfl
  .first|rfl|exact VD (k:=k) (f:=λv os=>({ s with H:=EY s.H b os } :S).put o.dst v)
 case slice t x lo hi mx=>
  cases mx with
  | some m=>
   simp only
   first|rfl|exact VD (k:=k) (f:=λv os=>({ s with H:=EY s.H b os } :S).put o.dst v)
  | none=>
   simp only;split
   .split
    .rfl
    .split
     .split<;>rfl
     .rfl
   .first|rfl|exact VD (k:=k) (f:=λv os=>({ s with H:=EY s.H b os } :S).put o.dst v)
 case buildSlice t n ps=>
  simp only;generalize (LM s.ev ps.toList).foldl S.freeze s=s3;exact VD (k:=k) (f:=λv os=>({ s3 with H:=EY s3.H b os } :S).put o.dst v)
 all_goals (simp only;first|rfl|exact VD (k:=k) (f:=λv os=>({ s with H:=EY s.H b os } :S).put o.dst v))
def azL{o:Oper}{k:S->Option Ω}:evG C (ch Ω) ops o b s k=(ev1 C ops o b s).bind k:=by
 have h:∀b s,∀k:S->Option Ω,CA C (ch Ω) o b s k=(CA C (AF S) o b s I).bind k:=λb s k=>aAk _ λ_ _ _ _ _ _ _ _ _=>rfl;unfold ev1 evG;split
 .exact h _ _ _
 .split
  .rfl
  .split
   .split
    .split<;>rfl
    .rfl
   .rfl
  .split
   .rename_i c _;simp only[h];cases hh:s.has o.dst<;>(split<;>split<;>rfl)
   .split<;>rfl
   .rfl
def X1(C:Cx)(ops:Array Oper):List Rec->S->S->Prop
 | [],s,s'=>s=s'
 | r::l,s,s'=>∃s1,ev1 C ops r.o r.b s=I s1/\((Dl C s r.o=U->r.W=r.F/\ ∀i∈JM C s r.o,Mm r.K i)/\(∀l,Dl C s r.o=I l->∀i∈l,Mm r.W i/\Mm r.K i)/\ ∀id,Mm (nm r.b) id->Mm r.K id)/\vOf s1 r.o.dst=I r.V/\X1 C ops l s1 s'
def iu{k:S->Option Ω}:∀(l:List Oper) (i b:Nat) (acc:List Rec) (s:S),evD C ops s0 l i b acc s k=I q->CL C ops s0 b0 acc->i=acc.length->b=b0+16 * i->(∀j,l[j]? =ops[i+j]?)->
  ∃rs s',X1 C ops rs s s'/\CL C ops s0 b0 (rs.reverse++acc)/\rs.length=l.length/\k { s' with nid:=b0+16 * (i+l.length) } =I q
 | [],i,b,acc,s,h,hg,hi,hb,hl=>⟨[],s,rfl,hg,rfl,by
   have h:k { s with nid:=b } =I q:=h;rw[hb]at h;exact h⟩
 | o::l,i,b,acc,s,h,hg,hi,hb,hl=>by
  unfold evD at h;split at h
  .cases h
  rename_i r hr;split at h
  .rename_i hc;rw[azL]at h;obtain⟨s1,h1,h⟩:=Al.1 h;obtain⟨V,hV,h⟩:=Al.1 h;simp only[AI,C0]at hc;unfold zJ at hr;obtain⟨anc,ha,hr⟩:=Al.1 hr;obtain⟨ids,Ou,hr⟩:=Al.1 hr;obtain⟨c,hcl,hr⟩:=Al.1 hr;simp only at hr;split at hr
   case h_2=>cases hr
   rename_i aqb;have hr:=(CX hr).symm;have ho:ops[i]? =I o:=by simpa using (hl 0).symm
   have hg':CL C ops s0 b0 ({ r with V:=V } ::acc):=by
    refine⟨hg, ?_, ?_, ?_, ?_,⟨ids,c, ?_,hcl, ?_⟩, ?_,λx hx=>hc.1.1 x hx, ?_, ?_⟩<;>rw[hr]
    .exact hi
    .show b=_;rw[hb,hi]
    .exact ho
    .exact ha
    .exact Ou
    .have gen:∀F0:Nat,(mvO o=A3/\(match mvO o with
       | true=>BN (msk ids) (nm b)
       | false=>F0)=F0/\(((match mvO o with
       | true=>nm b
       | false=>match pur o,o.guard with
        | true,U=>BN (msk ids) (nm b)
        | _,_=>(match mvO o with
         | true=>BN (msk ids) (nm b)
         | false=>F0))=BN (msk ids) (nm b)/\pur o=A1/\o.guard=U)\/(match mvO o with
       | true=>nm b
       | false=>match pur o,o.guard with
        | true,U=>BN (msk ids) (nm b)
        | _,_=>(match mvO o with
         | true=>BN (msk ids) (nm b)
         | false=>F0))=(match mvO o with
       | true=>BN (msk ids) (nm b)
       | false=>F0)))\/(mvO o=A1/\(match mvO o with
       | true=>BN (msk ids) (nm b)
       | false=>F0)=BN (msk ids) (nm b)/\(match mvO o with
       | true=>nm b
       | false=>match pur o,o.guard with
        | true,U=>BN (msk ids) (nm b)
        | _,_=>(match mvO o with
         | true=>BN (msk ids) (nm b)
         | false=>F0))=nm b):=by
      intro F0;cases hmv:mvO o with
      | true=>exact .inr ⟨rfl,rfl,rfl⟩
      | false=>
       refine .inl ⟨rfl,rfl, ?_⟩;cases hpu:pur o with
       | false=>exact .inr rfl
       | true=>
        cases hgu:o.guard with
        | none=>exact .inl ⟨rfl,rfl,rfl⟩
        | some x=>exact .inr rfl
     exact gen _
    .refine⟨aqb,λid hid=> ?_⟩;show Mm (match Dl C s o with
      | none=>_
      | some l=>BN (msk l) (nm b)) id
     cases Dl C s o with
     | none=>
      show Mm (match mvO o with
       | true=>BN (msk ids) (nm b)
       | false=>_) id
      cases mvO o with
      | false=>
       refine SZ _ _ id ?_;show(BN _ _).testBit id=A1;rw[ES,show(nm b).testBit id=A1 from hid];simp
      | true=>
       show(BN _ _).testBit id=A1;rw[ES,show(nm b).testBit id=A1 from hid];simp
     | some l=>
      show(BN _ _).testBit id=A1;rw[ES,show(nm b).testBit id=A1 from hid];simp
    .exact hc.1.2
    .exact hc.2
   obtain⟨rs,s',k1,k2,k3,k4⟩:=iu l (i+1) (b+16) _ s1 h hg' (by simp[hi]) J (λj=>by
    have:=hl<|j+1;simpa[Ct,NL 1 j] using this)
   refine⟨{ r with V:=V } ::rs,s',⟨s1, ?_, ?_, ?_,k1⟩, ?_,by simp[k3], ?_⟩
   .rw[hr];exact h1
   .rw[hr];refine⟨λhe=>⟨?_,λj hj=> ?_⟩,λl he j hj=> ?_,λid hid=> ?_⟩
    .have he:Dl C s o=U:=he;show(match Dl C s o with
      | none=>_
      | some l=>BN (msk l) (nm b))=_
     rw[he]
    .have he:Dl C s o=U:=he;show Mm (match Dl C s o with
      | none=>BN (msk<|JM C s o) (nm b)
      | some l=>BN (msk l) (nm b)) j
     rw[he];show(BN _ _).testBit j=A1;rw[ES,M0.2 hj];rfl
    .have he:Dl C s o=I l:=he;have key:Mm (BN (msk l)<|nm b) j:=by
      show(BN _ _).testBit j=A1;rw[ES,M0.2 hj];rfl
     constructor
     .show Mm (match Dl C s o with
       | none=>_
       | some l=>BN (msk l) (nm b)) j
      rw[he];exact key
     .show Mm (match Dl C s o with
       | none=>_
       | some l=>BN (msk l) (nm b)) j
      rw[he];exact key
    .show Mm (match Dl C s o with
      | none=>BN (msk<|JM C s o) (nm b)
      | some l=>BN (msk l) (nm b)) id
     have hid:(nm b).testBit id=A1:=hid;cases Dl C s o with
     | none=>
      show(BN _ _).testBit id=A1;rw[ES,hid];simp
     | some l=>
      show(BN _ _).testBit id=A1;rw[ES,hid];simp
   .rw[hr];exact hV
   .simpa using k2
   .rw[show i+(o::l).length=i+1+l.length by simp;omega];exact k4
  .cases h
def abo{acc:List Rec}:∀ {ts l:List Nat},db s0 acc ts=I l->∀t∈ts,∃a,(match RB t acc with
  | some r=>I r.V
  | none=>VM (s0.T t))=I a/\ ∀i∈a,i∈l
 | [],_,_,t,ht=>by cases ht
 | t0::ts,l,h,t,ht=>by
  obtain⟨a,h1,h⟩:=Al.1 h;obtain⟨b,h2,h⟩:=Al.1 h;cases h;rcases Bj.1 ht with rfl|ht
  .exact⟨a,h1,λi hi=>C5 _ hi⟩
  .obtain⟨a',h3,h4⟩:=abo h2 t ht;exact⟨a',h3,λi hi=>Ch _<|h4 i hi⟩
def CL.fit{acc:List Rec}(h:CL C ops s0 b0 acc)(hn:acc.length=ops.size)(hfr:∀j,b0<=j->s0.H j=U){i:Nat}:Fit ops (Bu acc b0) (BO ops.size) s0 i:=by
 intro o ho;obtain⟨r,hr,hi,rfl,fi⟩:=h.op hn ho;have e1:(Bu acc b0).F i=Mm r.F:=by funext id;simp only[Bu,fi]
 have e2:(Bu acc b0).N i=Mm r.N:=by funext id;simp only[Bu,fi]
 rw[e1,e2];have hNF:=h.N_F hr;refine⟨λt ht hd=> ?_,λid ob hid ho=> ?_,λid h1 _=>hfr id (by simp only[Bu]at h1;omega)⟩
 rotate_left
 .cases hmv:mvO r.o with
  | false=>exact h.closed hfr r hr hmv id ob (hNF id hid) ho
  | true=>
   exfalso;obtain⟨H5,hg,_⟩:=h.mem r hr;obtain⟨_,k1,k2,_,_,⟨l,c,h1,h2,h3⟩,_⟩:=hg;obtain h3|h3:=h3
   .rw[hmv]at h3;cases h3.1
   .rw[h3.2.2]at hid;have:=Mn.1 hid;rw[hfr id J]at ho;cases ho
 obtain⟨H5,hg,Kq,_,hlt⟩:=h.mem r hr;obtain⟨_,_,_,_,_,⟨l,c,h1,h2,h3⟩,_⟩:=hg;obtain⟨a,h4,h5⟩:=abo h1 t ht;cases hf:RB t H5 with
 | some r'=>
  obtain⟨hm,dS⟩:=yv hf;have hm':=Kq r' hm;obtain⟨azv,hg2,_⟩:=h.mem r' hm';have ho':=hg2.2.2.2.1;have hR:(Bu acc b0).R r'.i i:=by
   have Vn:=hlt r' hm;have hc:=h.chk hm' hr J;simp only[VS.chk,AI]at hc;simp only[Bu,fi];cases hT:tst r.anc r'.i with
   | true=>exact mm.1 hT
   | false=>
    rw[hT]at hc;obtain⟨_,hc⟩:=hc;simp only[AI]at hc;exact absurd ht<|dM hc.1.2 t dS
  exact absurd dS<|hd r'.i (D7.2 (HJ.1 ho').1) hR r'.o ho'
 | none=>
  rw[hf]at h4;obtain⟨_,h3,h6⟩|⟨hmv,h3,h6⟩:=h3
  .have xQ:InA (Mm r.F) (s0.T t):=YG h4 λj hj=>by
    rw[h3];refine SZ _ _ j ?_;show(BN _ _).testBit j=A1;rw[ES,(bJ 4 l h2).1 j<|h5 j hj];rfl
   refine⟨xQ,.inr ?_⟩;obtain h6|h6:=h6
   .refine YG h4 λj hj=> ?_;rw[h6.1];show(BN _ _).testBit j=A1;rw[ES,M0.2<|h5 j hj];rfl
   .rw[h6];exact xQ
  .simp only[mvO,AI]at hmv;refine⟨YG h4 λj hj=> ?_,.inl hmv.1.1⟩;rw[h3];show(BN _ _).testBit j=A1;rw[ES,M0.2<|h5 j hj];rfl
def nF{acc:List Rec}(h:CL C ops s0 b0 acc)(hn:acc.length=ops.size):∀(rs:List Rec) (s s':S),X1 C ops rs s s'->(∀r∈rs,r∈acc)->(rs.map (·.i)).Pairwise (· < ·)->
  (∀r∈rs,Fit ops (Bu acc b0) (rs.map (·.i)) s r.i)->Run C ops (Bu acc b0) (rs.map (·.i)) s s'
 | [],s,s',hc,_,_,_=>by
  cases hc;exact .nil
 | r::rs,s,s',⟨s1,h1,h2,h3,h4⟩,hm,hp,hf=>by
  have hr:=hm r An;obtain⟨H5,hg,_⟩:=h.mem r hr;have ho:=hg.2.2.2.1;have hok:=hg.2.2.2.2.2.2.2.2.1;have hb:=(h.M5 hr).1;have hrb:r.i<acc.length:=h.lt r hr;have fi:=h.find r hr;have nice:=h.nice hn;obtain⟨f1,f2,f3⟩:=hf r An r.o ho;have eb:(Bu acc b0).b r.i=r.b:=hb.symm;have hp':=On.1 hp;have vu:∀t∈Cw ops r.o,InA ((Bu acc b0).F r.i) (s.T t)/\(mov r.o.op=A1\/InA ((Bu acc b0).N r.i) (s.T t)):=λt ht=>f1 t ht λj hj hR oj hoj e=>by
   have hlt:=nice.lt _ _ hR;rcases Bj.1 hj with e'|hj
   .have e':j=r.i:=e';omega
   .have h9:r.i<j:=hp'.1 j hj;omega
  have hrd:=λt ht=>(vu t ht).1;obtain⟨h21,h22,h23⟩:=h2;have hKn:∀j,r.b<=j->j<r.b+16->(Bu acc b0).K r.i j:=λj k1 k2=>by
   simp only[Bu,fi];exact h23 j<|Mn.2 ⟨k1,k2⟩
  have hWn:∀j,r.b<=j->j<r.b+16->(Bu acc b0).W r.i j:=λj k1 k2=>nice.NW r.i j (by rw[eb];exact k1) (by rw[eb];exact k2);have hWF:∀id,Mm r.W id->Mm r.F id:=λid hid=>UH (h.M5 hr).2.2.1 id hid;have hKW:∀id∈JM C s r.o,Mm r.F id:=λid hid=>by
   obtain⟨_,_,_,_,_,⟨l,c,_,_,h3⟩,_⟩:=hg;have hop:∀x∈r.o.op.operands,InA ((Bu acc b0).F r.i) (s.ev x):=λx hx=>by
    cases x with
    | tmp t=>exact hrd t<|C5 _<|R0 hx
    | const v=>exact bV v
    | _=>exact .of1 trivial
   have s6:pur r.o=A1->False:=λhp=>by
    unfold pur at hp;unfold JM at hid;cases ho2:r.o.op<;>rw[ho2]at hp hid<;>first|(cases hid;done)|(cases hp;done)
   obtain⟨_,_,h6|h6⟩|⟨hmv,_⟩:=h3
   .exact(s6 h6.2.1).elim
   rotate_left
   .simp only[mvO,AI]at hmv;exact(s6 hmv.1.2).elim
   .have hcl:DP ((Bu acc b0).F r.i) s.H:=λid ob hid ho=>f2 id ob (by simp only[Bu,fi]at hid ⊢; rw[h6];exact hid) ho;have:=awf hop hcl hid;simp only[Bu,fi]at this;exact this
  obtain⟨g,v,es,a1,a2,a3,a4,a5⟩:=alL (F:=(Bu acc b0).F r.i) (N:=(Bu acc b0).N r.i) (WS:=λe=>(Bu acc b0).W r.i e.id/\(e.fk= .no\/(Bu acc b0).K r.i e.id)) hok hrd f2
   (λj k1 k2=>nice.WF _ _<|hWn j k1 k2) (λe k1 k2=>⟨hWn _ k1 k2,.inr<|hKn _ k1 k2⟩)
   ⟨λhe=>⟨λe hF hfk=>⟨by
     simp only[Bu,fi]at hF ⊢;rw[(h21 he).1];exact hF,.inl hfk⟩,λe hk=>⟨by
     simp only[Bu,fi];rw[(h21 he).1];exact hKW _ hk,.inr (by simp only[Bu,fi];exact(h21 he).2 _ hk)⟩⟩,
    λl he e hl=>⟨by simp only[Bu,fi];exact(h22 l he _ hl).1,.inr (by simp only[Bu,fi];exact(h22 l he _ hl).2)⟩⟩
   (by
    obtain⟨_,_,_,_,_,⟨l,c,_,_,h3⟩,_⟩:=hg;obtain⟨_,_,h6|h6⟩|⟨hmv,_⟩:=h3
    .refine .inl ⟨h6.2.1,h6.2.2, ?_⟩;cases hmo:mov r.o.op with
     | true=>exact .inl rfl
     | false=>exact .inr λt ht=>(vu t ht).2.resolve_left λh=>by rw[hmo]at h;cases h
    rotate_left
    .simp only[mvO,AI]at hmv;exact .inl ⟨hmv.1.2,by simpa using hmv.2,.inl hmv.1.1⟩
    .refine .inr λid hid=> ?_;simp only[Bu,fi]at hid ⊢;rw[h6];exact hid) h1
  have hst:Stp C ops r.o ((Bu acc b0).b r.i) ((Bu acc b0).F r.i) ((Bu acc b0).N r.i) ((Bu acc b0).W r.i) ((Bu acc b0).K r.i) ((Bu acc b0).V r.i) s s1:=by
   rw[eb];refine⟨g,v,es,a1,λt ht=> ?_,a2,a3,a4,a5⟩;rw[ht]at h3;have:s1.T t=v:=by rw[a4,Zz,A8 ht]
   rw[← this];refine YG (show VM (s1.T t)=I r.V from h3) λj hj=> ?_;simp only[Bu,fi];exact hj
  refine .cons ho hst (nF h hn rs s1 s' h4 (λx hx=>hm x<|Aj _ hx) hp'.2 λx hx=> ?_);have hxi:r.i<x.i:=hp'.1 x.i<|DF.2 ⟨x,hx,rfl⟩;exact(hf x<|Aj _ hx).step nice ho (PL hxi) (λhR=>by have:=nice.lt _ _ hR;omega) hst λj hj=>by
   rcases Bj.1 hj with e|hj
   .exact .inl e
   .exact .inr hj
def dy:∀(rs:List Rec) (s s':S) (m:Nat),X1 C ops rs s s'->(∀r∈rs,r.b+16<=m)->BD (λj=>j<m) s s'
 | [],s,s',m,hc,_=>by cases hc;exact BD.refl _ _
 | r::rs,s,s',m,⟨s1,h1,_,_,h4⟩,hb=>by
  have k1:=aci h1;have hb1:=hb r An;have k1':BD (λj=>j<m) s s1:=⟨k1.nid,k1.n,k1.pins,λj hj e=>k1.nn j (λhh=>hj J) e⟩;exact k1'.trans<|dy rs s1 s' m h4 λx hx=>hb x<|Aj _ hx
def CL.places:∀ {acc:List Rec},CL C ops s0 b0 acc->acc.reverse.map (·.i)=BO acc.length
 | [],_=>rfl
 | r::acc,h=>by
  rw[List.reverse_cons,F1,CL.places h.1,Bt,Kw];simp[h.2.1]
def arA(hP:C.P=B.P)(hm:B.P.follows .mixedOrders=A1)(hC:HE C B){k:S->Option Ω}(he:evD C ops s ops.toList 0 s.nid [] s k=I q)(hfr:Fr s){β:Beta}{a:Act}{w:World}(hst:St B β stk s a w)
  {id:Nat}{Q:Exit->Act->World->Prop}(hQ:∀β a w s',St B β stk s' a w->Fr s'->s'.n=s.n->s'.pins=s.pins->k s'=I q->Q .normal a w):(Pn id ops A1).wp B.P Q a w:=by
 obtain⟨rs,s',h1,h2,h3,h4⟩:=iu (b0:=s.nid) ops.toList 0 s.nid [] s he trivial rfl rfl (by simp);simp only[C1,DS]at h2 h4;have hn:rs.reverse.length=ops.size:=by simpa using h3
 have hpl:=h2.places;rw[oU,hn]at hpl;have Kn:∀j,Fit ops (Bu rs.reverse s.nid) (BO ops.size) s j:=λj=>h2.fit hn hfr;have CQ:=nF h2 hn rs s s' h1 (λr hr=>by simpa using hr) (by rw[hpl];exact RQ) (λr hr=>by rw[hpl];exact Kn _);rw[hpl]at CQ;have P5:BD (λj=>j<s.nid+16 * ops.toList.length) s s':=dy rs s s' _ h1 λr hr=>by
  have hr':r∈rs.reverse:=by simpa using hr
  have e1:=(h2.M5 hr').1;have e2:=h2.lt r hr';rw[hn]at e2;have:ops.toList.length=ops.size:=by simp
  omega
 refine ays hP hm hC (h2.nice hn) CQ (λj _=>Kn j) hst λβ a w h=> ?_;refine hQ β a w { s' with nid:=s.nid+16 * ops.toList.length } ⟨h.T,h.stack,h.n,h.defers,h.pins,h.gs,h.hs⟩ (λj hj=> ?_) P5.n P5.pins h4;have hj:s.nid+16 * ops.toList.length<=j:=hj;exact P5.nn j J<|hfr j J
end
end Go.VS
namespace Go.VS
open Go
def JD(C:Cx)(B:Bc)(inl:(Ω:Type)->Inl Ω):Prop:=∀(Ω:Type) (f:FuncId) (d:Option Nat) (as:List AV) (s:S) (k:S->Option Ω) (q:Ω),inl Ω f d as s k=I q->
 ∀(β:Beta) (stk:List (Array Value)) (a:Act) (w:World) (o:Oper) (args:List Operand) (ts:Array TypeId) (K:Act->World->Prop) (Q:Exit->Act->World->Prop),
 St B β stk s a w->Fr s->s.has d=A1->o.dst=d->as=args.map s.ev->o.op= .call { callee:= .value<|.func f,args:=args.toArray,argTypes:=ts } ->
 (∀β' u w' s',St B β' stk s' (a.put d u) w'->Fr s'->s'.n=s.n->s'.pins=s.pins->k s'=I q->K (a.put d u) w')->o.wp B.P a w K Q
def ab5(C:Cx)(B:Bc):JD C B AF:=by
 intro Ω f d as s k q h;cases h
section
variable {C:Cx} {B:Bc} {ops:Array Oper} {stk:List (Array Value)} {s s':S} {Ω:Type} {q:Ω} {β:Beta} {a:Act} {w:World} {inl:(Ω:Type)->Inl Ω}
def fZ(C:Cx)(o:Oper):Prop:=∃f c,o.op= .call c/\c.callee= .value (.func f)/\C.Γ f o.dst=U
def aod{o:Oper}{b:Nat}{k:S->Option Ω}(hn:¬fZ C o):evG C (inl Ω) ops o b s k=(ev1 C ops o b s).bind k:=by
 have h:∀b s,∀k:S->Option Ω,CA C (inl Ω) o b s k=(CA C (AF S) o b s I).bind k:=λb s k=>aAk _ λf c h1 h2 h3=>absurd ⟨f,c,h1,h2,h3⟩ hn;unfold ev1 evG;split
 .exact h _ _ _
 .split
  .rfl
  .split
   .split
    .split<;>rfl
    .rfl
   .rfl
  .split
   .rename_i c _;simp only[h];cases hh:s.has o.dst<;>(split<;>split<;>rfl)
   .split<;>rfl
   .rfl
def aaP(hI:JD C B inl){o:Oper}{b:Nat}{k:S->Option Ω}(hin:fZ C o)(he:CA C (inl Ω) o b s k=I q)(hst:St B β stk s a w)(hfr:Fr s){K:Act->World->Prop}{Q:Exit->Act->World->Prop}
  (hK:∀β' u w' s',St B β' stk s' (a.put o.dst u) w'->Fr s'->s'.n=s.n->s'.pins=s.pins->k s'=I q->K (a.put o.dst u) w'):o.wp B.P a w K Q:=by
 obtain⟨f,c,h1,h2,h3⟩:=hin;obtain⟨cal,⟨args⟩,⟨tys⟩⟩:=c;simp only at h2;subst h2;unfold CA at he;split at he
 .cases he
 rename_i hd;simp only[h1,h3]at he;exact hI Ω f o.dst _ s k q he β stk a w o args ⟨tys⟩ K Q hst hfr hd rfl rfl h1 hK
def aBc(hP:C.P=B.P)(hC:HE C B)(hI:JD C B inl){i:Nat}{o:Oper}(hi:ops[i]? =I o){k:S->Option Ω}(he:evG C (inl Ω) ops o s.nid s k=I q)(hst:St B β stk s a w)(hfr:Fr s){K:Act->World->Prop}{Q:Exit->Act->World->Prop}
  (hK:∀β' u w' s',St B β' stk s' (a.put o.dst u) w'->(∀j,s'.nid+16<=j->s'.H j=U)->s'.n=s.n->s'.pins=s.pins->k s'=I q->K (a.put o.dst u) w'):wpOp B.P ops Q i K a w:=by
 by_cases hin:fZ C o
 .have hK':∀s1:S,s1.n=s.n->s1.pins=s.pins->∀β' u w' s',St B β' stk s' (a.put o.dst u) w'->Fr s'->s'.n=s1.n->s'.pins=s1.pins->k s'=I q->K (a.put o.dst u) w':=
   λs1 e1 e2 β' u w' s' k1 k2 k3 k4 k5=>hK β' u w' s' k1 (λj hj=>k2 j J) (k3.trans e1) (k4.trans e2) k5
  unfold wpOp;simp only[hi];unfold evG at he;split at he
  .rename_i hg;have hw:J2 o (yielded ops a.tmps)=A1:=by simp[J2,hg]
   rw[A8 hw];exact .inl (aaP hI hin he hst hfr<|hK' s rfl rfl)
  .rename_i j want hg;have hwd:J2 o (yielded ops a.tmps)=(yielded ops a.tmps j == I want):=by simp[J2,hg]
   rw[hwd];split at he
   .cases he
   .rename_i g hgd hsp;split at he
    .rename_i qq v EJ hv;obtain⟨f,c,h1,h2,h3⟩:=hin;obtain⟨cal,⟨args⟩,⟨tys⟩⟩:=c;simp only at h2;subst h2;simp only[h1,spA,h3]at hv;cases hv
    .cases he
   .rename_i g hgd hsp;split at he
    .rename_i c hT;have htg:BY a g= .bool c:=by have:=hst.T g;rw[hT]at this;exact this
     have hy:yielded ops a.tmps j=I c:=bk hgd htg;rw[hy];have hn:∀w0:Bool,c=w0->St B β stk { s with T:=upd s.T g (.b w0) } a w:=by
      intro w0 e;subst e;rw[show({ s with T:=upd s.T g (.b c) } :S)=s by rw[uQ _ _ _ hT]];exact hst
     have yes:CA C (inl Ω) o s.nid { s with T:=upd s.T g (.b want) } k=I q->c=want->
       (if(I c == I want)=A1 then o.wp B.P a w K Q\/(o.asks B.P a w/\LetsOut Q) else K (a.put o.dst undef) w):=by
      intro he e;rw[A8<|by simp[e]];exact .inl<|aaP hI hin he (hn want e) hfr<|hK' _ rfl rfl
     have no:(match s.has o.dst with
       | true=>k (({ s with T:=upd s.T g (.b<|!want) } :S).put o.dst DW)
       | false=>U)=I q->c= !want->
       (if(I c == I want)=A1 then o.wp B.P a w K Q\/(o.asks B.P a w/\LetsOut Q) else K (a.put o.dst undef) w):=by
      intro he e;rw[AD (by subst e;cases want<;>simp)];split at he
      .rename_i EJ;refine hK β undef w _ ((hn (!want) e).put (by exact EJ) (v:=DW) (u:=undef) rfl (λg' w1 x e=>by cases e)) (λj hj=> ?_) ?_ ?_ he
       .have:=hfr j (by cases hod:o.dst<;>rw[hod]at hj<;>exact C7 (dq _ 16) hj);cases o.dst<;>exact this
       .cases o.dst<;>rfl
       .cases o.dst<;>rfl
      .cases he
     cases want<;>cases c<;>simp only[A5,if_false,Hl]at he
     .exact yes he rfl
     .exact no he rfl
     .exact no he rfl
     .exact yes he rfl
    .rename_i vs hT;have htg:BY a g= .tuple vs:=by have:=hst.T g;rw[hT]at this;exact this
     have hy:¬(yielded ops a.tmps j == I want)=A1:=by
      intro e;have:=Ya hgd (show yielded ops a.tmps j=I want by simpa using e);rw[htg]at this;cases this
     rw[AD hy];split at he
     .rename_i EJ;refine hK β undef w _ (hst.put EJ (v:=DW) (u:=undef) rfl (λg' w1 x e=>by cases e)) (λj hj=> ?_) ?_ ?_ he
      .have:=hfr j (by cases hod:o.dst<;>rw[hod]at hj<;>exact C7 (dq _ 16) hj);cases o.dst<;>exact this
      .cases o.dst<;>rfl
      .cases o.dst<;>rfl
     .cases he
    .cases he
 .rw[aod hin]at he;obtain⟨s1,h1,h2⟩:=Al.1 he;have hk:=aci h1;refine gu hP hC hi hst (λj hj _=>hfr j hj) h1 λβ' u w' h=>hK β' u w' s1 h (λj hj=>hk.nn j (λhh=> ?_)<|hfr j ?_) hk.n hk.pins h2
  .rw[hk.nid]at hj;omega
  .rw[hk.nid]at hj;omega
def acG(hP:C.P=B.P)(hC:HE C B)(hI:JD C B inl){k:S->Option Ω}{Q:Exit->Act->World->Prop}{n:Nat}{p:List Nat}
  (hQ:∀β a w s',St B β stk s' a w->Fr s'->s'.n=n->s'.pins=p->k s'=I q->Q .normal a w):∀(l:List Oper) (i:Nat) (s:S) (β:Beta) (a:Act) (w:World),(∀j,l[j]? =ops[i+j]?)->
  P4 C (inl Ω) ops l s k=I q->St B β stk s a w->Fr s->s.n=n->s.pins=p->wpOps B.P ops Q (List.range' i l.length) a w
 | [],i,s,β,a,w,_,he,hst,hfr,hn,hp=>hQ β a w s hst hfr hn hp he
 | o::l,i,s,β,a,w,hl,he,hst,hfr,hn,hp=>by
  rw[Bt,List.range'_succ,wpOps_cons];have ho:ops[i]? =I o:=by simpa using (hl 0).symm
  refine aBc hP hC hI ho (show evG C (inl Ω) ops o s.nid s (λs=>P4 C (inl Ω) ops l { s with nid:=s.nid+16 } k)=I q from he) hst hfr ?_;intro β' u w' s' h1 h2 h3 h4 h5;exact acG hP hC hI hQ l (i+1) { s' with nid:=s'.nid+16 } β' _ w' (λj=>by
   have:=hl<|j+1;simpa[Ct,NL 1 j] using this) h5 ⟨h1.T,h1.stack,h1.n,h1.defers,h1.pins,h1.gs,h1.hs⟩ h2 (h3.trans hn) (h4.trans hp)
def sQ(hP:C.P=B.P)(hC:HE C B)(hI:JD C B inl){k:S->Option Ω}(he:P4 C (inl Ω) ops ops.toList s k=I q)(hfr:Fr s)(hst:St B β stk s a w)
  {id:Nat}{Q:Exit->Act->World->Prop}(hQ:∀β a w s',St B β stk s' a w->Fr s'->s'.n=s.n->s'.pins=s.pins->k s'=I q->Q .normal a w):(Pn id ops A3).wp B.P Q a w:=by
 refine wp_region ?_;have:=acG hP hC hI hQ ops.toList 0 s β a w (by simp) he hst hfr rfl rfl;rw[List.range_eq_range',← En];exact this
end
end Go.VS
namespace Go.VS
open Go
def Imm(w:World)(M:Nat->Prop)(c:AV)(v:Value):Prop:=∀β:Beta,(∀b,MZ β b->M b)->RC w β c v
mutual
def Rel (P:Program) (w:World) (M:Nat->Prop) (e:Nat->Value):(h:Sh)->LT h->Value->List (Value×Nat)->Prop
 | .int k,n,v,os=>v= .int k n/\os=[]
 | .bool,x,v,os=>v= .bool x/\os=[]
 | .str,s,v,os=>v= .string s/\os=[]
 | .sl k,xs,v,os=>Imm w M (.sl k xs) v/\os=[]
 | .fz k,xs,v,os=>Imm w M (.sl k xs) v/\os=[]
 | .row t k,xs,v,os=>os=[(v,xs.length)]/\Pf v=A1/\ ∀β:Beta,(∀b,MZ β b->M b)->F8 w β t A3 k xs v
 | .CP t k,xs,v,os=>os=[(v,xs.length)]/\Pf v=A1/\ ∀β:Beta,(∀b,MZ β b->M b)->F8 w β t A1 k xs v
 | .abx t k,xs,v,os=>os=[(v,xs.length)]/\1<=xs.length/\ ∃b us,v= .pointer (I ⟨b,0,U⟩)/\w.heap[b]? =I (.cells us t (0,0))/\us.size=xs.length * ks k/\us.size=P.cellsOf t/\
   (∀β:Beta,(∀b,MZ β b->M b)->∀i x j c u,xs[i]? =I x->(enc k x)[j]? =I c->us[i * ks k+j]? =I u->RC w β c u)
 | .arr k,xs,v,os=>os=[]/\ ∀β:Beta,(∀b,MZ β b->M b)->R1 w β (.arr k xs) v
 | .same t,_,v,os=>os=[]/\v=e t/\v.oneCell'=A1
 | .agg l,x,v,os=>∃us:List Value,v= .agg us.toArray/\CO P w M e l x us os
 | .box t l,x,v,os=>∃b us os',v= .pointer (I ⟨b,0,U⟩)/\w.heap[b]? =I (.cells us t (0,0))/\CO P w M e l x us.toList os'/\os=os'++[(v,1)]
def CO (P:Program) (w:World) (M:Nat->Prop) (e:Nat->Value):(l:List Sh)->LTs l->List Value->List (Value×Nat)->Prop
 | [],_,us,os=>us=[]/\os=[]
 | h::l,x,us,os=>∃u us' o1 o2,us=u::us'/\os=o1++o2/\Rel P w M e h x.1 u o1/\CO P w M e l x.2 us' o2
end
def H6(p:Value×Nat):Option Nat:=(adr p.1).map (·.block)
abbrev Ax(os:List (Value×Nat)):List Nat:=os.filterMap H6
mutual
def MY:Sh->List Nat
 | .same t=>[t]
 | .agg l=>IP l
 | .box _ l=>IP l
 | _=>[]
def IP:List Sh->List Nat
 | []=>[]
 | h::l=>MY h++IP l
end
section
variable {B:Bc} {β β':Beta} {H:Hp} {w w':World} {M:Nat->Prop} {E:Nat->AV} {e:Nat->Value}
def RC.QI{c:AV}{v:Value}(h:RC w β c v)(hc:G9 c=A1)(hM:∀b,M b->MZ β b):Imm w M c v:=λβ' hβ'=>
 RC.imm (λ_ _ _ _ h=>h) (λb hb _ hm=>hb<|hM b<|hβ' b hm) h hc
def F8.imm{t:TypeId}{fz:Bool}{k:K}{xs:List (Tof k)}{v:Value}(h:F8 w β t fz k xs v)(hM:∀b,M b->MZ β b):∀β':Beta,(∀b,MZ β' b->M b)->F8 w β' t fz k xs v:=by
 intro β' hβ';obtain h|⟨b,f,cap,us,fr,h1,h2,h3,h4,h5,h6,h7⟩:=h
 .exact .inl h
 .exact .inr ⟨b,f,cap,us,fr,h1,h2,h3,h4,h5,h6,λi x j c u a1 a2 a3=>(h7 i x j c u a1 a2 a3).QI (IM k x a2) hM β' hβ'⟩
def F8.atJ{t:TypeId}{fz:Bool}{k:K}{xs:List (Tof k)}{v:Value}(h:F8 w β t fz k xs v)(hM:∀b,M b->MZ β b)(hn:∀a,adr v=I a->¬M a.block):Imm w M (.sl k xs) v:=by
 intro β' hβ';obtain⟨rfl,rfl⟩|⟨b,f,cap,us,fr,rfl,hh,hfr,hn',hc,hs,hr⟩:=h
 .exact .nil
 .have Cg:∀i j,i<xs.length->j<ks k->f+(i * ks k+j)<us.size:=by
   intro i j hi hj;have h1:(i+1) * ks k<=cap * ks k:=Dx _ J;rw[EE]at h1;omega
  refine .sl (λi j=>us.getD (f+(i * ks k+j)) undef) ⟨rfl,hn'⟩ (λhm=>hn _ rfl (hβ' _ hm)) (λi j hi hj=> ?_) (λi x j c h2 h3=> ?_)
  .rw[cell_of_row w b _ us t fr hh];have:=Cg i j hi hj;simp[this]
  .have hi:i<xs.length:=(BM.1 h2).1;have hj:j<ks k:=by rw[← E3 k x];exact(BM.1 h3).1
   have:=Cg i j hi hj;exact(hr i x j c (us.getD (f+(i * ks k+j)) undef) h2 h3<|by simp[this]).QI (IM k x h3) hM β' hβ'
def R1.lits{v' v:Value}(h:R1 w β (.lit v') v):v=v':=h
def R1.sls{k:K}{xs:List (Tof k)}{v:Value}(h:R1 w β (.sl k xs) v):RC w β (.sl k xs) v:=h
def R1.kE{id:Nat}{v:Value}(h:R1 w β (.own id) v):RC w β (.own id) v:=h
def R1.Qr{id z i o:Nat}{v:Value}(h:R1 w β (.ptr id z i o) v):RC w β (.ptr id z i o) v:=h
structure OG (B:Bc) (β:Beta) (H:Hp) (w:World) (M:Nat->Prop) (E:Nat->AV) (e:Nat->Value):Prop where
 hs:Hs B β H w
 hM:∀b,M b->MZ β b
 hE:∀t id z,E t= .ptr id z 0 0->R1 w β (E t) (e t)
def Po(β:Beta)(M:Nat->Prop)(ids:List Nat):Prop:=∀i∈ids,∀p a,β i=I p->adr p.1=I a->¬M a.block
def fG(R:OG B β H w M E e){id:Nat}{t:TypeId}{fz:Bool}{k:K}{xs:List (Tof k)}{v:Value}(hv:RC w β (.own id) v)(hid:H id=I (.row t fz k xs)):
  Pf v=A1/\β id=I (v,xs.length)/\F8 w β t fz k xs v:=by
 cases hv with
 | own h hs=>
  obtain⟨hd,h1,h2⟩:=R.hs.E4 id _ hid;rw[h]at h1;cases h1;exact⟨hs,h,h2⟩
mutual
theorem jr (R:OG B β H w M E e):∀(h:Sh) (c:AV) (v:Value) (x:LT h),R1 w β c v->Bl E H h c=I x->Po β M (CW H h c)->
  ∃os,Rel B.P w M e h x v os/\Ax os=Ax ((CJ H h c).filterMap β)
 | .int k,c,v,x,hv,hx,_=>by
  cases c with
  | lit v'=>
   cases v'<;>first|(simp[Bl]at hx;done)|skip
   simp only[Bl]at hx;split at hx
   .rename_i e1;simp at e1;subst e1;cases hx;exact⟨[],⟨hv.lits,rfl⟩,rfl⟩
   .cases hx
  | _=>simp[Bl]at hx
 | .bool,c,v,x,hv,hx,_=>by
  cases c with
  | lit v'=>
   cases v'<;>first|(simp[Bl]at hx;done)|skip
   simp only[Bl]at hx;cases hx;exact⟨[],⟨hv.lits,rfl⟩,rfl⟩
  | _=>simp[Bl]at hx
 | .str,c,v,x,hv,hx,_=>by
  cases c with
  | lit v'=>
   cases v'<;>first|(simp[Bl]at hx;done)|skip
   simp only[Bl]at hx;cases hx;exact⟨[],⟨hv.lits,rfl⟩,rfl⟩
  | _=>simp[Bl]at hx
 | .sl k,c,v,x,hv,hx,_=>by
  cases c with
  | sl k' xs=>
   obtain⟨e1,rfl⟩:=Hr<|show Ij k' k xs=I x from hx;subst e1;exact⟨[],⟨hv.sls.QI rfl R.hM,rfl⟩,rfl⟩
  | lit v'=>
   cases v' with
   | slice a n cap=>
    cases a<;>cases n<;>cases cap<;>simp[Bl]at hx;subst hx;have:=hv.lits;subst this;exact⟨[],⟨λ_ _=> .nil,rfl⟩,rfl⟩
   | _=>simp[Bl]at hx
  | _=>simp[Bl]at hx
 | .fz k,c,v,x,hv,hx,hf=>by
  cases c with
  | sl k' xs=>
   obtain⟨e1,rfl⟩:=Hr<|show Ij k' k xs=I x from hx;subst e1;exact⟨[],⟨hv.sls.QI rfl R.hM,rfl⟩,rfl⟩
  | lit v'=>
   cases v' with
   | slice a n cap=>
    cases a<;>cases n<;>cases cap<;>simp[Bl,C8]at hx;subst hx;have:=hv.lits;subst this;exact⟨[],⟨λ_ _=> .nil,rfl⟩,rfl⟩
   | _=>simp[Bl,C8]at hx
  | own id=>
   simp only[Bl,C8]at hx;split at hx
   .rename_i t fz k' ys hid;obtain⟨e1,rfl⟩:=Hr hx;subst e1;obtain⟨h1,h2,h3⟩:=fG R hv.kE hid;exact⟨[],⟨h3.atJ R.hM λa ha=>hf id (by simp[CW]) _ a h2 ha,rfl⟩,rfl⟩
   .cases hx
  | _=>simp[Bl,C8]at hx
 | .row t k,c,v,x,hv,hx,_=>by
  cases c with
  | lit v'=>
   cases v' with
   | slice a n cap=>
    cases a<;>cases n<;>cases cap<;>simp[Bl]at hx;subst hx;have:=hv.lits;subst this;exact⟨[(.slice U 0 0,0)],⟨rfl,rfl,λ_ _=> .inl ⟨rfl,rfl⟩⟩,rfl⟩
   | _=>simp[Bl]at hx
  | own id=>
   simp only[Bl]at hx;split at hx
   .rename_i t' k' ys hid;split at hx
    .rename_i ht;obtain rfl:=Bm ht;obtain⟨e1,rfl⟩:=Hr hx;subst e1;obtain⟨h1,h2,h3⟩:=fG R hv.kE hid;exact⟨[(v,ys.length)],⟨rfl,h1,h3.imm R.hM⟩,by simp[CJ,h2]⟩
    .cases hx
   .cases hx
  | _=>simp[Bl]at hx
 | .CP t k,c,v,x,hv,hx,_=>by
  cases c with
  | own id=>
   simp only[Bl]at hx;split at hx
   .rename_i t' k' ys hid;split at hx
    .rename_i ht;obtain rfl:=Bm ht;obtain⟨e1,rfl⟩:=Hr hx;subst e1;obtain⟨h1,h2,h3⟩:=fG R hv.kE hid;exact⟨[(v,ys.length)],⟨rfl,h1,h3.imm R.hM⟩,by simp[CJ,h2]⟩
    .cases hx
   .cases hx
  | _=>simp[Bl]at hx
 | .abx t k,c,v,x,hv,hx,_=>by
  cases c with
  | ptr id z i o=>
   cases i<;>cases o<;>simp only[Bl]at hx<;>first|(cases hx;done)|skip
   split at hx
   .rename_i t' k' ys hid;split at hx
    .rename_i ht;simp only[AI]at ht;obtain rfl:=Bm ht.1;obtain⟨e1,rfl⟩:=Hr hx;subst e1;have hv:=hv.Qr;cases hv with
     | @ptr _ _ _ _ hd n b f h1 ha hi=>
      obtain⟨b',us,k1,k2,k3,k4,k5⟩:=R.hs.E4 id _ hid;rw[h1]at k1;cases k1;cases ha;have e0:0 * z=0:=TD z;refine⟨[(.pointer<|I ⟨b,0,U⟩,ys.length)],⟨?_,hi,b,us, ?_,k2,k3,k4,λβ' hβ' i x j c u a1 a2 a3=>(k5 i x j c u a1 a2 a3).QI (IM k' x a2) R.hM β' hβ'⟩,by simp[CJ,h1]⟩
      .simp
      .simp
    .cases hx
   .cases hx
  | _=>simp[Bl]at hx
 | .arr k,c,v,x,hv,hx,_=>by
  cases c with
  | arr k' xs=>
   obtain⟨e1,rfl⟩:=Hr<|show Ij k' k xs=I x from hx;subst e1;obtain⟨us,k1,k2,k3⟩:=hv;exact⟨[],⟨rfl,λβ' hβ'=>⟨us,k1,k2,λi x j c u a1 a2 a3=>(k3 i x j c u a1 a2 a3).QI (IM k' x a2) R.hM β' hβ'⟩⟩,rfl⟩
  | _=>simp[Bl]at hx
 | .same t,c,v,x,hv,hx,_=>by
  cases c with
  | ptr id z i o=>
   cases i<;>cases o<;>simp only[Bl]at hx<;>first|(cases hx;done)|skip
   split at hx
   .rename_i id' z' hE;split at hx
    .rename_i hid;obtain rfl:=Bm hid;have h2:=R.hE t _ _ hE;rw[hE]at h2;have h2:=h2.Qr;have h1:=hv.Qr;refine⟨[],⟨rfl, ?_,h1.one⟩,rfl⟩;generalize e t=v2 at h2;cases h1 with
     | ptr a1 a2 a3=>
      cases h2 with
      | ptr b1 b2 b3=>
       rw[a1]at b1;cases b1;rw[a2]at b2;cases b2;simp
    .cases hx
   .cases hx
  | _=>simp[Bl]at hx
 | .agg l,c,v,x,hv,hx,hf=>by
  cases c with
  | agg cs=>
   obtain⟨us,rfl,hr⟩:=hv;obtain⟨os,h1,h2⟩:=jG R l cs us x hr hx hf;exact⟨os,⟨us,rfl,h1⟩,h2⟩
  | _=>simp[Bl]at hx
 | .box t l,c,v,x,hv,hx,hf=>by
  cases c with
  | ptr id z i o=>
   cases i<;>cases o<;>simp only[Bl]at hx<;>first|(cases hx;done)|skip
   split at hx
   .rename_i t' cs hid;split at hx
    .rename_i ht;obtain rfl:=Bm ht;have hv:=hv.Qr;cases hv with
     | @ptr _ _ _ _ hd n b f h1 ha hi=>
      obtain⟨b',us,k1,k2,k3⟩:=R.hs.E4 id _ hid;rw[h1]at k1;cases k1;cases ha;obtain⟨os,j1,j2⟩:=jG R l cs us.toList x k3 hx (by simpa only[CW,hid] using hf);refine⟨os++[(.pointer<|I ⟨b,0,U⟩,1)],⟨b,us,os,by simp,k2,j1,by simp⟩, ?_⟩;have:CJ H (.box t l) (.ptr id z 0 0)=Bi H l cs++[id]:=by simp only[CJ,hid]
      rw[this];simp only[Ax,MI]at j2 ⊢;rw[j2];simp[h1]
    .cases hx
   .cases hx
  | _=>simp[Bl]at hx
theorem jG (R:OG B β H w M E e):∀(l:List Sh) (cs:List AV) (us:List Value) (x:LTs l),RL (RC w β) cs us->Fu E H l cs=I x->Po β M (Cc H l cs)->
  ∃os,CO B.P w M e l x us os/\Ax os=Ax ((Bi H l cs).filterMap β)
 | [],[],us,x,hr,hx,_=>⟨[],⟨hr.of_nil,rfl⟩,rfl⟩
 | [],_::_,us,x,hr,hx,_=>by cases hx
 | _::_,[],us,x,hr,hx,_=>by cases hx
 | h::l,c::cs,us,x,hr,hx,hf=>by
  obtain⟨u,us',rfl,h1,h2⟩:=hr.Bz;obtain⟨x1,e1,hx⟩:=Al.1 hx;obtain⟨x2,e2,hx⟩:=Al.1 hx;cases hx;obtain⟨o1,j1,j2⟩:=jr R h c u x1 (R1.MD h1) e1 (λi hi=>hf i<|C5 _ hi);obtain⟨o2,j3,j4⟩:=jG R l cs us' x2 h2 e2 (λi hi=>hf i<|Ch _ hi);refine⟨o1++o2,⟨u,us',o1,o2,rfl,rfl,j1,j3⟩, ?_⟩;simp only[Ax,MI,Bi]at j2 j4 ⊢;rw[j2,j4]
end
def cU(R:OG B β H w M E e):∀(l:List Sh) (cs:List AV) (us:List Value) (x:LTs l),RL (R1 w β) cs us->Fu E H l cs=I x->Po β M (Cc H l cs)->
  ∃os,CO B.P w M e l x us os/\Ax os=Ax ((Bi H l cs).filterMap β)
 | [],[],us,x,hr,hx,_=>⟨[],⟨hr.of_nil,rfl⟩,rfl⟩
 | [],_::_,us,x,hr,hx,_=>by cases hx
 | _::_,[],us,x,hr,hx,_=>by cases hx
 | h::l,c::cs,us,x,hr,hx,hf=>by
  obtain⟨u,us',rfl,h1,h2⟩:=hr.Bz;obtain⟨x1,e1,hx⟩:=Al.1 hx;obtain⟨x2,e2,hx⟩:=Al.1 hx;cases hx;obtain⟨o1,j1,j2⟩:=jr R h c u x1 h1 e1 (λi hi=>hf i<|C5 _ hi);obtain⟨o2,j3,j4⟩:=cU R l cs us' x2 h2 e2 (λi hi=>hf i<|Ch _ hi);refine⟨o1++o2,⟨u,us',o1,o2,rfl,rfl,j1,j3⟩, ?_⟩;simp only[Ax,MI,Bi]at j2 j4 ⊢;rw[j2,j4]
end
end Go.VS
namespace Go.VS
open Go
section
variable {P:Program} {β:Beta} {H:Hp} {w:World} {M:Nat->Prop} {E:Nat->AV} {e:Nat->Value} {b:Nat}
def IB(P:Program)(w:World)(β:Beta)(H H':Hp)(b n:Nat):Prop:=
 (∀j,j<b\/b+n<=j->H' j=H j)/\(∀j,b<=j->j<b+n->∃ob,H' j=I ob/\Dt P w β j ob)
def IB.nil:IB P w β H H b 0:=⟨λ_ _=>rfl,λj h1 h2=>by omega⟩
def IB.one{ob:Ob}(h:Dt P w β b ob):IB P w β H (upd H b<|I ob) b 1:=by
 refine⟨λj hj=>BC _ _ J,λj h1 h2=> ?_⟩;have:j=b:=J
 subst this;exact⟨ob,Bf _ _ _,h⟩
def IB.trans{H' H'':Hp}{n m:Nat}(h:IB P w β H H' b n)(k:IB P w β H' H'' (b+n) m):IB P w β H H'' b (n+m):=by
 refine⟨λj hj=> ?_,λj h1 h2=> ?_⟩
 .rw[k.1 j J,h.1 j J]
 .by_cases e:j<b+n
  .obtain⟨ob,k1,k2⟩:=h.2 j h1 e;exact⟨ob,by rw[k.1 j<|.inl e];exact k1,k2⟩
  .exact k.2 j J J
def Num(β:Beta)(b:Nat)(os:List (Value×Nat)):Prop:=∀i p,os[i]? =I p->β (b+i)=I p
def Num.left{o1 o2:List (Value×Nat)}(h:Num β b (o1++o2)):Num β b o1:=λi p hp=>h i p (by
 rw[I6 (BM.1 hp).1];exact hp)
def Num.right{o1 o2:List (Value×Nat)}(h:Num β b (o1++o2)):Num β (b+o1.length) o2:=λi p hp=>by
 have:=h (o1.length+i) p (by rw[Ek J];simpa using hp);rw[Ct];exact this
def Num.one{p:Value×Nat}{os:List (Value×Nat)}(h:Num β b (os++[p])):β (b+os.length)=I p:=by
 have:=h.right 0 p rfl;simpa using this
def Tl(w:World)(β:Beta)(E:Nat->AV)(e:Nat->Value)(ts:List Nat):Prop:=∀t∈ts,R1 w β (E t)<|e t
def R1.ap4{c:AV}{v:Value}(h:R1 w β c v)(h1:v.oneCell'=A1):RC w β c v:=by
 cases c with
 | un=>exact .un h1
 | lit v'=>have:=h.lits;subst this;exact .lit h1
 | sl k xs=>exact h
 | own id=>exact h
 | ptr a b c d=>exact h
 | ipt a b c=>exact h
 | arr k xs=>obtain⟨us,rfl,_⟩:=h;cases h1
 | agg cs=>obtain⟨us,rfl,_⟩:=h;cases h1
 | tup vs=>exact h.elim
 | gd a b c=>exact h.elim
mutual
theorem aaQ (hM:∀b,MZ β b->M b):∀(h:Sh) (H:Hp) (b:Nat) (x:LT h) (v:Value) (os:List (Value×Nat)),IN h=A1->Rel P w M e h x v os->Num β b os->Tl w β E e (MY h)->
  RC w β (BE E H b h x).1 v/\(BE E H b h x).2.2=b+os.length/\IB P w β H (BE E H b h x).2.1 b os.length
 | .int k,H,b,x,v,os,_,hr,_,_=>by obtain⟨rfl,rfl⟩:=hr;exact⟨.lit rfl,rfl,.nil⟩
 | .bool,H,b,x,v,os,_,hr,_,_=>by obtain⟨rfl,rfl⟩:=hr;exact⟨.lit rfl,rfl,.nil⟩
 | .str,H,b,x,v,os,_,hr,_,_=>by obtain⟨rfl,rfl⟩:=hr;exact⟨.lit rfl,rfl,.nil⟩
 | .sl k,H,b,x,v,os,_,hr,_,_=>by obtain⟨h1,rfl⟩:=hr;exact⟨h1 β hM,rfl,.nil⟩
 | .fz k,H,b,x,v,os,_,hr,_,_=>by obtain⟨h1,rfl⟩:=hr;exact⟨h1 β hM,rfl,.nil⟩
 | .row t k,H,b,x,v,os,_,hr,hn,_=>by
  obtain⟨rfl,h1,h2⟩:=hr;have hb:β b=I (v,x.length):=hn.one (os:=[]);exact⟨.own hb h1,rfl,.one ⟨v,hb,h2 β hM⟩⟩
 | .CP t k,H,b,x,v,os,_,hr,hn,_=>by
  obtain⟨rfl,h1,h2⟩:=hr;have hb:β b=I (v,x.length):=hn.one (os:=[]);exact⟨.own hb h1,rfl,.one ⟨v,hb,h2 β hM⟩⟩
 | .abx t k,H,b,x,v,os,_,hr,hn,_=>by
  obtain⟨rfl,h1,bb,us,rfl,h3,h4,h5,h6⟩:=hr;have hb:β b=I (.pointer<|I ⟨bb,0,U⟩,x.length):=hn.one (os:=[]);refine⟨?_,rfl,.one ⟨bb,us,hb,h3,h4,h5,h6 β hM⟩⟩;have:=RC.ptr (w:=w) (sz:=ks k) (o:=0) hb (rfl:adr (.pointer<|I ⟨bb,0,U⟩)=I ⟨bb,0,U⟩) (i:=0) J;show RC w β (.ptr b (ks k) 0 0) _;simpa using this
 | .arr _,_,_,_,_,_,h,_,_,_=>by simp[IN]at h
 | .agg _,_,_,_,_,_,h,_,_,_=>by simp[IN]at h
 | .same t,H,b,x,v,os,_,hr,_,hs=>by
  obtain⟨rfl,rfl,h1⟩:=hr;refine⟨?_,rfl,.nil⟩;exact(hs t<|by simp[MY]).ap4 h1
 | .box t l,H,b,x,v,os,hl,hr,hn,hs=>by
  obtain⟨bb,us,os',rfl,h2,h3,rfl⟩:=hr;have un:BE E H b (.box t l) x=(match Ai E H b l x with|(cs,H,b)=>(AV.ptr b cs.length 0 0,upd H b<|I<|.box t cs,b+1)):=rfl;obtain⟨k1,k2,k3⟩:=bY hM l H b x us.toList os' (by simpa[IN] using hl) h3 hn.left (by simpa[MY] using hs);rw[un];generalize Ai E H b l x=r at *;obtain⟨cs,H',b'⟩:=r;simp only at k1 k2 k3;subst k2;have hb:=hn.one;refine⟨?_,by simp[Ct], ?_⟩
  .have:=RC.ptr (w:=w) (sz:=cs.length) (o:=0) hb (rfl:adr (.pointer<|I ⟨bb,0,U⟩)=I ⟨bb,0,U⟩) (i:=0) J;simpa using this
  .rw[Ap];exact k3.trans<|.one ⟨bb,us,hb,h2,k1⟩
theorem bY (hM:∀b,MZ β b->M b):∀(l:List Sh) (H:Hp) (b:Nat) (x:LTs l) (us:List Value) (os:List (Value×Nat)),Lo l=A1->CO P w M e l x us os->Num β b os->Tl w β E e (IP l)->
  RL (RC w β) (Ai E H b l x).1 us/\(Ai E H b l x).2.2=b+os.length/\IB P w β H (Ai E H b l x).2.1 b os.length
 | [],H,b,x,us,os,_,hr,_,_=>by obtain⟨rfl,rfl⟩:=hr;exact⟨.nil,rfl,.nil⟩
 | h::l,H,b,x,us,os,hl,hr,hn,hs=>by
  obtain⟨u,us',o1,o2,rfl,rfl,h1,h2⟩:=hr;simp only[Lo,AI]at hl;have un:Ai E H b (h::l) x=(match BE E H b h x.1 with|(c,H,b)=>match Ai E H b l x.2 with|(cs,H,b)=>(c::cs,H,b)):=rfl;obtain⟨k1,k2,k3⟩:=aaQ hM h H b x.1 u o1 hl.1 h1 hn.left (λt ht=>hs t<|C5 _ ht);rw[un];generalize BE E H b h x.1=r at *;obtain⟨c,H',b'⟩:=r;simp only at k1 k2 k3 ⊢;subst k2;obtain⟨j1,j2,j3⟩:=bY hM l H' (b+o1.length) x.2 us' o2 hl.2 h2 hn.right (λt ht=>hs t<|Ch _ ht);generalize Ai E H' (b+o1.length) l x.2=r at *;obtain⟨cs,H'',b''⟩:=r;simp only at j1 j2 j3 ⊢;subst j2;refine⟨.cons k1 j1,by simp[Ct], ?_⟩;rw[Ap];exact k3.trans j3
end
def uv(hM:∀b,MZ β b->M b)(h:Sh)(H:Hp)(b:Nat)(x:LT h)(v:Value)(os:List (Value×Nat))(ht:iq h=A1)(hr:Rel P w M e h x v os)(hn:Num β b os)(hs:Tl w β E e (MY h)):
  R1 w β (BE E H b h x).1 v/\(BE E H b h x).2.2=b+os.length/\IB P w β H (BE E H b h x).2.1 b os.length:=by
 by_cases hh:IN h=A1
 .obtain⟨h1,h2,h3⟩:=aaQ hM h H b x v os hh hr hn hs;exact⟨.MD h1,h2,h3⟩
 .cases h<;>first|(exact absurd ht hh;done)|skip
  case agg l=>
   obtain⟨us,rfl,h1⟩:=hr;have un:BE E H b (.agg l) x=(match Ai E H b l x with|(cs,H,b)=>(AV.agg cs,H,b)):=rfl;obtain⟨k1,k2,k3⟩:=bY hM l H b x us os ht h1 hn hs;rw[un];generalize Ai E H b l x=r at *;obtain⟨cs,H',b'⟩:=r;exact⟨⟨us,rfl,k1⟩,k2,k3⟩
  case arr k=>
   obtain⟨rfl,h1⟩:=hr;exact⟨h1 β hM,rfl,.nil⟩
def cf(hM:∀b,MZ β b->M b):∀(l:List Sh) (H:Hp) (b:Nat) (x:LTs l) (us:List Value) (os:List (Value×Nat)),JZ l=A1->CO P w M e l x us os->Num β b os->Tl w β E e (IP l)->
  RL (R1 w β) (Ai E H b l x).1 us/\(Ai E H b l x).2.2=b+os.length/\IB P w β H (Ai E H b l x).2.1 b os.length
 | [],H,b,x,us,os,_,hr,_,_=>by obtain⟨rfl,rfl⟩:=hr;exact⟨.nil,rfl,.nil⟩
 | h::l,H,b,x,us,os,hl,hr,hn,hs=>by
  obtain⟨u,us',o1,o2,rfl,rfl,h1,h2⟩:=hr;simp only[JZ,AI]at hl;have un:Ai E H b (h::l) x=(match BE E H b h x.1 with|(c,H,b)=>match Ai E H b l x.2 with|(cs,H,b)=>(c::cs,H,b)):=rfl;obtain⟨k1,k2,k3⟩:=uv hM h H b x.1 u o1 hl.1 h1 hn.left (λt ht=>hs t<|C5 _ ht);rw[un];generalize BE E H b h x.1=r at *;obtain⟨c,H',b'⟩:=r;simp only at k1 k2 k3 ⊢;subst k2;obtain⟨j1,j2,j3⟩:=cf hM l H' (b+o1.length) x.2 us' o2 hl.2 h2 hn.right (λt ht=>hs t<|Ch _ ht);generalize Ai E H' (b+o1.length) l x.2=r at *;obtain⟨cs,H'',b''⟩:=r;simp only at j1 j2 j3 ⊢;subst j2;refine⟨.cons k1 j1,by simp[Ct], ?_⟩;rw[Ap];exact k3.trans j3
end
end Go.VS
namespace Go.VS
open Go
def Wp:∀ {l:List Nat},NY l=A1->l.Nodup
 | [],_=>List.nodup_nil
 | a::l,h=>by
  simp only[NY,AI,Df]at h;refine L3.2 ⟨λhm=> ?_,Wp h.2⟩;have:(l.any λb=>Ag a b)=A1:=KR.2 ⟨a,hm,by simp⟩;rw[this]at h;cases h.1
def abI{l m:List Nat}(h:off l m=A1):∀a∈l,a ∉ m:=λa ha hm=>by
 have h1:=C0.1 h a ha;have:(m.any λb=>Ag a b)=A1:=KR.2 ⟨a,hm,by simp⟩;rw[this]at h1;cases h1
section
variable {B:Bc} {β β':Beta} {H H':Hp} {w w':World} {M:Nat->Prop} {E:Nat->AV} {e:Nat->Value} {stk:List (Array Value)} {s s':S} {a:Act}
def Lr{ids:List Nat}{b:Nat}(h:b∈Ax (ids.filterMap β)):∃i∈ids,∃p a,β i=I p/\adr p.1=I a/\a.block=b:=by
 obtain⟨p,hp,hb⟩:=GB.1 h;obtain⟨i,hi,hβ⟩:=GB.1 hp;obtain⟨a,ha,e⟩:=Cz.1 hb;exact⟨i,hi,p,a,hβ,ha,e⟩
def df(hH:Hs B β H w):∀ {ids:List Nat},ids.Nodup->(Ax<|ids.filterMap β).Nodup
 | [],_=>List.nodup_nil
 | i::ids,h=>by
  obtain⟨h1,h2⟩:=L3.1 h;have ih:=df hH h2;cases hβ:β i with
  | none=>simpa[hβ] using ih
  | some p=>
   cases hb:H6 p with
   | none=>simpa[hβ,hb] using ih
   | some b=>
    simp only[Ax,gT,hβ,hb];refine L3.2 ⟨λhm=> ?_,ih⟩;obtain⟨j,hj,q,a',hq,ha',e'⟩:=Lr hm;obtain⟨a,ha,e⟩:=Cz.1 hb;have:=hH.inj i j p q a a' hβ hq ha ha' (by rw[e,e']);subst this;exact h1 hj
def UT{ids:List Nat}{b:Nat}(h:b∈Ax (ids.filterMap β)):MB β b:=by
 obtain⟨i,_,p,a,h1,h2,h3⟩:=Lr h;exact⟨i,p.1,p.2,a,h1,h2,h3⟩
abbrev MO(B:Bc)(l:List Nat)(b:Nat):Prop:=b∈l\/B.Z b
def aAY(hH:Hs B β H w){ids:List Nat}{b:Nat}(h:MO B (Ax<|ids.filterMap β) b):MZ β b:=by
 obtain h|h:=h
 .exact .inl (UT h)
 .exact .inr (by rw[hH.z];exact h)
def lL(hH:Hs B β H w){fz ids:List Nat}(h:off fz ids=A1):Po β (MO B<|Ax<|ids.filterMap β) fz:=by
 intro i hi p a hp ha hm;obtain hm|hm:=hm
 case inr=>rw[← hH.z]at hm;exact hH.zn i p a hp ha hm
 obtain⟨j,hj,q,a',hq,ha',e⟩:=Lr hm;have:=hH.inj i j p q a a' hp hq ha ha' e.symm;subst this;exact abI h i hi hj
def Ha(Z:Nat->Prop)(os:List (Value×Nat)):Beta:=⟨λi=>os[i]?, Z⟩
def jJ(Z:Nat->Prop)(os:List (Value×Nat)):Num (Ha Z os) 0 os:=λi p h=>by rw[DS];exact h
def NV{Z:Nat->Prop}{os:List (Value×Nat)}{b:Nat}(h:MB (Ha Z os) b):b∈Ax os:=by
 obtain⟨i,hd,n,a,h1,h2,h3⟩:=h;exact GB.2 ⟨(hd,n),CZ h1,by simp[H6,h2,h3]⟩
def gn{os:List (Value×Nat)}{b:Nat}(h:MZ (Ha B.Z os) b):MO B (Ax os) b:=h.imp NV λh=>h
def Xt{os:List (Value×Nat)}(h:(Ax os).Nodup):∀(i j:Nat) (p q:Value×Nat) (a a':Addr),os[i]? =I p->os[j]? =I q->adr p.1=I a->adr q.1=I a'->a.block=a'.block->i=j:=by
 induction os with
 | nil=>intro i j p q a a' hi;simp at hi
 | cons x os ih=>
  have hx:∀ {p:Value×Nat} {a:Addr},adr p.1=I a->H6 p=I a.block:=λh=>by simp[H6,h]
  have ih':(Ax os).Nodup:=by
   cases hb:H6 x with
   | none=>simpa[hb] using h
   | some b=>simp only[Ax,gT,hb]at h;exact(L3.1 h).2
  have VP:∀(j:Nat) (q:Value×Nat) (a a':Addr),os[j]? =I q->adr x.1=I a->adr q.1=I a'->a.block=a'.block->False:=by
   intro j q a a' hj ha ha' e;simp only[Ax,gT,hx ha]at h;refine(L3.1 h).1<|GB.2 ⟨q,CZ hj, ?_⟩;rw[hx ha',e]
  intro i j p q a a' hi hj ha ha' e;cases i with
  | zero=>
   simp at hi;subst hi;cases j with
   | zero=>rfl
   | succ j=>simp at hj;exact(VP j q a a' hj ha ha' e).elim
  | succ i=>
   simp at hi;cases j with
   | zero=>simp at hj;subst hj;exact(VP i p a' a hi ha' ha e.symm).elim
   | succ j=>simp at hj;rw[ih ih' i j p q a a' hi hj ha ha' e]
def Hs.as6(hH:Hs B β H w){os:List (Value×Nat)}(hn:(Ax os).Nodup)(hb:∀b∈Ax os,MB β b)(hm:IB B.P w (Ha B.Z os) (λ_=>U) H' 0 os.length):Hs B (Ha B.Z os) H' w where
 E4 id ob ho:=by
  by_cases h:id<os.length
  .obtain⟨ob',h1,h2⟩:=hm.2 id (Ce _) J;rw[h1]at ho;cases ho;exact h2
  .rw[hm.1 id J]at ho;cases ho
 dom id p hp:=by
  have h:id<os.length:=(BM.1<|show os[id]? =I p from hp).1;obtain⟨ob',h1,_⟩:=hm.2 id (Ce _) J;exact⟨ob',h1⟩
 inj i j p q a a' hi hj:=Xt hn i j p q a a' hi hj
 old b h:=hH.old b (hb b<|NV h)
 os:=hH.os
 tape:=hH.tape
 output:=hH.output
 size:=hH.size
 block:=hH.block
 z:=rfl
 zn id p a hp ha hz:=by
  have hb:=hb a.block (GB.2 ⟨p,CZ hp,by simp[H6,ha]⟩);obtain⟨j,hd,n,a',h1,h2,h3⟩:=hb;refine hH.zn j _ a' h1 h2 ?_;rw[h3,hH.z];exact hz
 zl b h:=hH.zl b (by rw[hH.z];exact h)
 pk:=hH.pk
def rT{E:Nat->AV}{h:Sh}{c:AV}{x:LT h}(hx:Bl E H h c=I x):(∀g w v,c≠ .gd g w v)/\ ∀vs,c≠ .tup vs:=by
 constructor
 .rintro g w v rfl;cases h<;>simp[Bl,C8]at hx
 .rintro vs rfl;cases h<;>simp[Bl,C8]at hx
def RT.MC{tm:Nat->Value}{c:AV}{v:Value}(h:RT w β tm c v)(h1:∀g w v,c≠ .gd g w v)(h2:∀vs,c≠ .tup vs):R1 w β c v:=by
 cases c<;>first|exact h|exact absurd rfl (h1 _ _ _)|exact absurd rfl (h2 _)
def zB{tm:Nat->Value}{T:Nat->AV}(R:OG B β H w M T tm)(hT:∀t,RT w β tm (T t)<|tm t):∀(c:Sch) (x:Lv c),fa H T c=I x->Po β M (nI H T c)->
  ∃os,CO B.P w M tm (c.map (·.2)) x (c.map λp=>tm p.1) os/\Ax os=Ax ((Oo H T c).filterMap β)
 | [],x,hx,_=>⟨[],⟨rfl,rfl⟩,rfl⟩
 | (t,h)::c,x,hx,hf=>by
  obtain⟨x1,e1,hx⟩:=Al.1 hx;obtain⟨x2,e2,hx⟩:=Al.1 hx;cases hx;obtain⟨p1,p2⟩:=rT e1;obtain⟨o1,j1,j2⟩:=jr R h (T t) (tm t) x1 ((hT t).MC p1 p2) e1 (λi hi=>hf i<|C5 _ hi);obtain⟨o2,j3,j4⟩:=zB R hT c x2 e2 (λi hi=>hf i<|Ch _ hi);refine⟨o1++o2,⟨tm t,c.map λp=>tm p.1,o1,o2,rfl,rfl,j1,j3⟩, ?_⟩;simp only[Ax,MI,Oo]at j2 j4 ⊢;rw[j2,j4]
def ta{P:Program}{tm:Nat->Value}(hM:∀b,MZ β b->M b):∀(c:Sch) (T:Nat->AV) (H:Hp) (b:Nat) (x:Lv c) (os:List (Value×Nat)),JZ (c.map (·.2))=A1->CO P w M tm (c.map (·.2)) x (c.map λp=>tm p.1) os->Num β b os->(∀t,R1 w β (T t)<|tm t)->
  (∀t,R1 w β ((MA T H b c x).1 t)<|tm t)/\(MA T H b c x).2.2=b+os.length/\IB P w β H (MA T H b c x).2.1 b os.length
 | [],T,H,b,x,os,_,hr,_,hT=>by obtain⟨_,rfl⟩:=hr;exact⟨hT,rfl,.nil⟩
 | (t,h)::c,T,H,b,x,os,hl,hr,hn,hT=>by
  obtain⟨u,us',o1,o2,e1,rfl,h1,h2⟩:=hr;simp only[DI,Ln]at e1;obtain⟨rfl,rfl⟩:=e1;simp only[DI,JZ,AI]at hl;have un:MA T H b ((t,h)::c) x=(match BE T H b h x.1 with|(v,H,b)=>MA (upd T t v) H b c x.2):=rfl;obtain⟨k1,k2,k3⟩:=uv (E:=T) hM h H b x.1 (tm t) o1 hl.1 h1 hn.left (λt' _=>hT t');rw[un];generalize BE T H b h x.1=r at *;obtain⟨v,H',b'⟩:=r;simp only at k1 k2 k3 ⊢;subst k2;obtain⟨j1,j2,j3⟩:=ta hM c (upd T t v) H' (b+o1.length) x.2 o2 hl.2 h2 hn.right (λt'=>by
   by_cases e:t'=t
   .subst e;rw[Bf];exact k1
   .rw[BC _ _ e];exact hT t')
  refine⟨j1,by rw[j2];simp[Ct], ?_⟩;rw[Ap];exact k3.trans j3
def R1.XT{tm:Nat->Value}{c:AV}{v:Value}(h:R1 w β c v):RT w β tm c v:= .H7<|.HC h
def St.join(hst:St B β stk s a w){c:Sch}{x:Lv c}(hx:rdS c s=I x):stk=[]/\ ∃β',St B β' [] (mkS s.n s.pins c x) a w/\Fr (mkS s.n s.pins c x)/\(mkS s.n s.pins c x).n=s.n/\(mkS s.n s.pins c x).pins=s.pins:=by
 unfold rdS at hx;split at hx
 .rename_i hs hnd hok;have Qx:stk=[]:=by
   have:=hst.stack.1;rw[hs]at this;exact E9 this
  refine⟨Qx, ?_⟩;simp only[AI]at hnd;simp only[aAC,AI]at hok;have R:OG B β s.H w (MO B<|Ax<|(Oo s.H s.T c).filterMap β) s.T (BY a):={
   hs:=hst.hs
   hM:=λb hb=>aAY hst.hs hb
   hE:=λt id z e=>(hst.T t).MC (by rw[e];simp) (by rw[e];simp) }
  obtain⟨os,h1,h2⟩:=zB R hst.T c x hx<|lL hst.hs hnd.2;have Vp:(Ax os).Nodup:=by rw[h2];exact df hst.hs<|Wp hnd.1
  have hMB:∀b∈Ax os,MB β b:=λb hb=>by rw[h2]at hb;exact UT hb
  obtain⟨k1,k2,k3⟩:=ta (β:=Ha B.Z os) (P:=B.P) (w:=w) (M:=MO B<|Ax<|(Oo s.H s.T c).filterMap β) (tm:=BY a) (λb hb=>by have:=gn hb;rw[h2]at this;exact this) c (λ_=> .un) (λ_=>U) 0 x os hok.1.2 h1 (jJ B.Z os) (λ_=>trivial);have un:mkS s.n s.pins c x=(match MA (λ_=> .un) (λ_=>U) 0 c x with
   | (T,H,b)=>{ n:=s.n,T:=T,H:=H,nid:=b,st:=[],pins:=s.pins,gs:=λ_=>A3 }):=rfl
  rw[un];generalize MA (λ_=> .un) (λ_=>U) 0 c x=r at *;obtain⟨T,H',b⟩:=r;simp only at k1 k2 k3;have hH:=hst.hs.as6 Vp hMB k3;refine⟨Ha B.Z os,⟨λt=>(k1 t).XT,⟨rfl,λi T' tm h=>by simp at h⟩,hst.n,hst.defers,hst.pins,λt g want y hy=> ?_,hH⟩,λj hj=> ?_,rfl,rfl⟩
  .have:=k1 t;have hy:T t= .gd g want y:=hy;rw[hy]at this;exact this.elim
  .exact k3.1 j (.inr (by have hj:b<=j:=hj;omega))
 .cases hx
end
end Go.VS
namespace Go.VS
open Go
structure KOK {Ω:Type} (B:Bc) (stk:List (Array Value)) (n:Nat) (pins:List Nat) (k:Kt Ω) (q:Ω) (Q:Exit->Act->World->Prop):Prop where
 nrm:∀β a w s,St B β stk s a w->Fr s->s.n=n->s.pins=pins->k.nrm s=I q->Q .normal a w
 ret:∀β a w s,St B β stk s a w->Fr s->s.n=n->s.pins=pins->k.ret s=I q->Q .ret a w
 ext:∀id β a w s,St B β stk s a w->Fr s->s.n=n->s.pins=pins->k.ext id s=I q->Q (.exit id) a w
def OH(B:Bc)(n:Nat)(pins:List Nat)(body:Code)(l:Loop):Prop:=∀(x:Lv l.sch) (r:Lv l.Jv ⊕ Lv l.Jn),l.run x=I r->∀(β:Beta) (a:Act) (w:World) (Q:Exit->Act->World->Prop),
 St B β [] (mkS n pins l.sch x) a w->Fr (mkS n pins l.sch x)->
 (∀y,r= .inl y->∀β a w,St B β [] (mkS n pins l.Jv y) a w->Fr (mkS n pins l.Jv y)->Q .ret a w)->
 (∀y,r= .inr y->∀β a w,St B β [] (mkS n pins l.Jn y) a w->Fr (mkS n pins l.Jn y)->Q (.exit l.xid) a w)->(Code.loop body).wp B.P Q a w
def HP(L:Code->Loop->Prop):Code->Adv->Prop
 | .seq a b,.join _ u v=>HP L a u/\HP L b v
 | .seq a b,v=>HP L a v.a/\HP L b v.z
 | .cond _ x y,v=>HP L x v.a/\HP L y v.z
 | .block _ c,v=>HP L c v.a
 | .loop c,.loop l=>L c l
 | _,_=>True
def Fc(L:Code->Loop->Prop):∀c:Code,HP L c .nil
 | .seq a b=>⟨Fc L a,Fc L b⟩
 | .cond _ x y=>⟨Fc L x,Fc L y⟩
 | .block _ c=>Fc L c
 | .skip=>trivial
 | .region _ _ _=>trivial
 | .loop _=>trivial
 | .exit _=>trivial
 | .ret=>trivial
 | .rangeFunc _ _ _ _=>trivial
 | .scope _=>trivial
 | .label _=>trivial
 | .goto _=>trivial
 | .refuse _=>trivial
section
variable {C:Cx} {B:Bc} {inl:(Ω:Type)->Inl Ω}
def Xs(hP:C.P=B.P)(hm:B.P.follows .mixedOrders=A1)(hC:HE C B)(hI:JD C B inl):∀(c:Code) {Ω:Type} (v:Adv) (k:Kt Ω) (s:S) (q:Ω) {β:Beta} {stk:List (Array Value)} {a:Act} {w:World} {Q:Exit->Act->World->Prop},
  evk C inl c Ω v k s=I q->St B β stk s a w->Fr s->HP (OH B s.n s.pins) c v->KOK B stk s.n s.pins k q Q->c.wp B.P Q a w:=by
 intro c
 induction c with
 | skip=>exact λv k s q β stk a w Q he hst hfr _ hk=>wp_skip<|hk.nrm _ _ _ _ hst hfr rfl rfl he
 | region id ops draw=>
  intro Ω v k s q β stk a w Q he hst hfr _ hk;cases draw with
  | false=>exact sQ hP hC hI (show P4 C (inl Ω) ops ops.toList s k.nrm=I q from he) hfr hst λβ a w s' h1 h2 h3 h4 h5=>hk.nrm β a w s' h1 h2 h3 h4 h5
  | true=>
   obtain⟨β1,hs1,_⟩:=St.Ld (Qb C ops s) hst;have hk1:=BD.Ld (N:=λ_=>False) (Qb C ops s)<|BD.refl _ s;have he:evD C ops ((Qb C ops s).foldl S.freeze s) ops.toList 0 s.nid [] ((Qb C ops s).foldl S.freeze s) k.nrm=I q:=he;rw[← hk1.nid]at he;exact arA hP hm hC he (λj hj=>hk1.nn j (λh=>h)<|hfr j (by rw[hk1.nid]at hj;exact hj)) hs1 λβ a w s' h1 h2 h3 h4 h5=>hk.nrm β a w s' h1 h2 (h3.trans hk1.n) (h4.trans hk1.pins) h5
 | seq x y ihx ihy=>
  intro Ω v k s q β stk a w Q he hst hfr GA hk;refine wp_seq ?_;by_cases hj:∃c u v',v= .join c u v'
  .obtain⟨c,u,v',rfl⟩:=hj;obtain⟨ha1,ha2⟩:=GA;have he:B8 (λx=>evk C inl y Ω v' k<|mkS s.n s.pins c x) (evk C inl x (Ω ⊕ Lv c) u { nrm:=λs=>(rdS c s).bind λx=>I<|.inr x,ret:=λs=>(k.ret s).bind λo=>I<|.inl o,ext:=λj s=>(k.ext j s).bind λo=>I (.inl o) } s)=I q:=he;obtain⟨r,h1,h2⟩:=Al.1 he;refine ihx u _ s r h1 hst hfr ha1 ⟨?_, ?_, ?_⟩
   .intro β' a' w' s' k1 k2 k3 k4 k5;obtain⟨z,j1,j2⟩:=Al.1 k5;cases j2;obtain⟨rfl,β2,m1,m2,m3,m4⟩:=k1.join j1;rw[k3,k4]at m1 m2 m3 m4;exact ihy v' k _ q h2 m1 m2 (by rw[m3,m4];exact ha2) (by rw[m3,m4];exact hk)
   .intro β' a' w' s' k1 k2 k3 k4 k5;obtain⟨o,j1,j2⟩:=Al.1 k5;cases j2;have h2:I o=I q:=h2;cases h2;exact hk.ret _ _ _ _ k1 k2 k3 k4 j1
   .intro id β' a' w' s' k1 k2 k3 k4 k5;obtain⟨o,j1,j2⟩:=Al.1 k5;cases j2;have h2:I o=I q:=h2;cases h2;exact hk.ext id _ _ _ _ k1 k2 k3 k4 j1
  .have he:evk C inl x Ω v.a { k with nrm:=evk C inl y Ω v.z k } s=I q:=by
    cases v<;>first|exact he|exact absurd ⟨_,_,_,rfl⟩ hj
   have GA:HP (OH B s.n s.pins) x v.a/\HP (OH B s.n s.pins) y v.z:=by
    cases v<;>first|exact GA|exact absurd ⟨_,_,_,rfl⟩ hj
   refine ihx v.a _ s q he hst hfr GA.1 ⟨?_,hk.ret,hk.ext⟩;intro β' a' w' s' k1 k2 k3 k4 k5;exact ihy v.z k s' q k5 k1 k2 (by rw[k3,k4];exact GA.2) (by rw[k3,k4];exact hk)
 | cond o x y ihx ihy=>
  intro Ω v k s q β stk a w Q he hst hfr GA hk;have he:(match s.ev o with
   | .lit (.bool b)=>if b then evk C inl x Ω v.a k s else evk C inl y Ω v.z k s
   | _=>U)=I q:=he
  split at he
  .rename_i b hb;have h1:=hst.eval o;rw[hb]at h1;have h2:a.eval o= .bool b:=h1;refine wp_cond h2 ?_;cases b with
   | true=>exact ihx v.a k s q he hst hfr GA.1 hk
   | false=>exact ihy v.z k s q he hst hfr GA.2 hk
  .cases he
 | block id x ihx=>
  intro Ω v k s q β stk a w Q he hst hfr GA hk;refine wp_block ?_;have he:evk C inl x Ω v.a { k with ext:=λj s=>match Ag j id with
   | true=>k.nrm s
   | false=>k.ext j s } s=I q:=he
  refine ihx v.a _ s q he hst hfr GA ⟨hk.nrm,hk.ret, ?_⟩;intro j β' a' w' s' k1 k2 k3 k4 k5;show if j=id then Q .normal a' w' else Q (.exit j) a' w'
  simp only at k5;split at k5
  .rename_i e;rw[A8<|Bm e];exact hk.nrm _ _ _ _ k1 k2 k3 k4 k5
  .rename_i e;rw[AD<|UD e];exact hk.ext _ _ _ _ _ k1 k2 k3 k4 k5
 | loop body _=>
  intro Ω v k s q β stk a w Q he hst hfr GA hk;cases v<;>first|(cases he;done)|skip
  rename_i l;have he:((rdS l.sch s).bind λx=>AS (l.run x) (λy=>k.ret<|mkS s.n s.pins l.Jv y) λy=>k.ext l.xid (mkS s.n s.pins l.Jn y))=I q:=he;obtain⟨x,h1,h2⟩:=Al.1 he;obtain⟨r,h3,h4⟩:=Al.1 h2;obtain⟨rfl,β',m1,m2,_,_⟩:=hst.join h1;have GA:OH B s.n s.pins body l:=GA;refine GA x r h3 β' a w Q m1 m2 ?_ ?_
  .rintro y rfl β a w k1 k2;exact hk.ret _ _ _ _ k1 k2 (by unfold mkS;rfl) (by unfold mkS;rfl) h4
  .rintro y rfl β a w k1 k2;exact hk.ext _ _ _ _ _ k1 k2 (by unfold mkS;rfl) (by unfold mkS;rfl) h4
 | exit id=>exact λv k s q β stk a w Q he hst hfr _ hk=>wp_exit<|hk.ext _ _ _ _ _ hst hfr rfl rfl he
 | ret=>exact λv k s q β stk a w Q he hst hfr _ hk=>wp_ret<|hk.ret _ _ _ _ hst hfr rfl rfl he
 | _=>
  intro Ω v k s q β stk a w Q he;cases he
def ib(p:Nat->Prop)(h:∃n,p n):∃n,p n/\ ∀m,p m->n<=m:=by
 obtain⟨n,hn⟩:=h
 induction n using Nat.strongRecOn with
 | _ n ih=>
  by_cases hm:∃m,m<n/\p m
  .obtain⟨m,h1,h2⟩:=hm;exact ih m h1 h2
  .exact⟨n,hn,λm h=>Nat.le_of_not_lt λhlt=>hm ⟨m,hlt,h⟩⟩
def wX{X Y:Type}{b:X->Option (X ⊕ Y)}{x:X}{y:Y}(h:AZ b x=I y):∃n,Hq b n x=I y:=by
 unfold AZ at h;split at h
 .rename_i hn;have:=Ig<|Ig hn;cases h;exact⟨_,this⟩
 .cases h
def lz{X Y:Type}{b:X->Option (X ⊕ Y)}:∀(n:Nat) (x:X) {y:Y},Hq b n x=I y->∀m,n<=m->Hq b m x=I y
 | 0,x,y,h=>by cases h
 | n+1,x,y,h=>by
  intro m hm;obtain⟨m,rfl⟩:∃k,m=k+1:=⟨m - 1,J⟩;obtain⟨r,h1,h2⟩:=Al.1 (show((b x).bind λr=>match r with
   | .inl y=>Hq b n y
   | .inr z=>I z)=I y from h)
  show((b x).bind λr=>match r with
   | .inl y=>Hq b m y
   | .inr z=>I z)=I y
  rw[h1,A9];cases r with
  | inl z=>exact lz n z h2 m J
  | inr z=>exact h2
def adK{X Y:Type}{b:X->Option (X ⊕ Y)}{x:X}{y:Y}{n:Nat}(h:Hq b n x=I y):AZ b x=I y:=by
 have hn:∃n y,Hq b n x=I y:=⟨n,y,h⟩;unfold AZ;rw[dif_pos hn];have h1:=Ig<|Ig hn;have h2:=lz _ _ h (n+OB hn) J;have h3:=lz _ _ h1 (n+OB hn) J;rw[h2]at h3;exact h3.symm
def aoU{X Y:Type}{b:X->Option (X ⊕ Y)}{n:Nat}{x:X}{y:Y}(h:Hq b (n+1) x=I y):∃r,b x=I r/\(∀x',r= .inl x'->Hq b n x'=I y)/\(∀z,r= .inr z->z=y):=by
 obtain⟨r,h1,h2⟩:=Al.1 (show((b x).bind λr=>match r with
   | .inl y=>Hq b n y
   | .inr z=>I z)=I y from h)
 refine⟨r,h1, ?_, ?_⟩
 .rintro x' rfl;exact h2
 .rintro z rfl;exact CX h2
def auM(hP:C.P=B.P)(hm:B.P.follows .mixedOrders=A1)(hC:HE C B)(hI:JD C B inl){n:Nat}{pins:List Nat}{body:Code}{v:Adv}{l:Loop}{b:Lv l.sch->Option (Lv l.sch ⊕ (Lv l.Jv ⊕ Lv l.Jn))}
  (hb:∀x,evL C inl n pins body v l x=b x)(hr:l.run=AZ b)(GA:HP (OH B n pins) body v):OH B n pins body l:=by
 intro x r CQ β a w Q hst hfr IS asg;rw[hr]at CQ;obtain⟨N,hN⟩:=wX CQ
 let Rq:Nat->Act->World->Prop:=λm a w=>∃(x:Lv l.sch) (β:Beta),Hq b m x=I r/\St B β [] (mkS n pins l.sch x) a w/\Fr (mkS n pins l.sch x)
 classical
 let μ:Act->World->Nat:=λa w=>if h:∃m,Rq m a w then OB (ib _ h) else 0
 have hμ:∀a w,(h:∃m,Rq m a w)->Rq (μ a w) a w/\ ∀m,Rq m a w->μ a w<=m:=λa w h=>by
  have:=Ig<|ib _ h;simp only[μ,dif_pos h];exact this
 refine wp_loop (λa w=>∃m,Rq m a w) μ ⟨N,x,β,hN,hst,hfr⟩ ?_;intro a w hJ;obtain⟨⟨x,β,h1,h2,h3⟩,_⟩:=hμ a w hJ;generalize hm':μ a w=m at h1;cases m with
 | zero=>cases h1
 | succ m=>
  obtain⟨r1,k1,k2,k2'⟩:=aoU h1;have he:=hb x;rw[k1]at he;unfold evL at he;have en:(mkS n pins l.sch x).n=n:=by unfold mkS;rfl
  have ep:(mkS n pins l.sch x).pins=pins:=by unfold mkS;rfl
  refine Xs hP hm hC hI body v _ _ r1 he h2 h3 (by rw[en,ep];exact GA) ?_;rw[en,ep];refine⟨?_, ?_, ?_⟩
  .intro β' a' w' s' j1 j2 j3 j4 j5;obtain⟨y,i1,i2⟩:=Al.1 j5;cases i2;obtain⟨_,β2,m1,m2,_,_⟩:=j1.join i1;rw[j3,j4]at m1 m2;have hJ':Rq m a' w':=⟨y,β2,k2 y rfl,m1,m2⟩;refine⟨⟨m,hJ'⟩, ?_⟩;have:=(hμ a' w' ⟨m,hJ'⟩).2 m hJ';omega
  .intro β' a' w' s' j1 j2 j3 j4 j5;obtain⟨y,i1,i2⟩:=Al.1 j5;cases i2;obtain⟨_,β2,m1,m2,_,_⟩:=j1.join i1;rw[j3,j4]at m1 m2;have k2:=k2' _ rfl;subst k2;exact IS y rfl _ _ _ m1 m2
  .intro id β' a' w' s' j1 j2 j3 j4 j5;simp only at j5;split at j5
   .rename_i hid;obtain rfl:=Bm hid;obtain⟨y,i1,i2⟩:=Al.1 j5;cases i2;obtain⟨_,β2,m1,m2,_,_⟩:=j1.join i1;rw[j3,j4]at m1 m2;have k2:=k2' _ rfl;subst k2;exact asg y rfl _ _ _ m1 m2
   .cases j5
end
end Go.VS
namespace Go.VS
open Go
def Ma:List Value->Value
 | [v]=>v
 | vs=> .tuple vs.toArray
def JK:List Sh->List Value->List Value
 | .box _ _::ps,v::vs=>v::JK ps vs
 | _::ps,_::vs=>JK ps vs
 | _,_=>[]
def MJ(P:Program)(f:FuncId):Prop:=∀(args:Array Value) (w:World),(callFunc f args).run P w= .ok (.enter f args) w
def Nk{P:Program}{f:FuncId}{fn:Func}{c:Code}(hf:P.funcs[f]? =I fn)(K0:(fn.name == "runtime.NumGoroutine")=A3)(hb:fn.body=I c):MJ P f:=by
 intro args w;have pF:¬fn.name= "runtime.NumGoroutine" :=by simpa using K0
 simp[callFunc,hf,pF,hb]
abbrev ar(args:List Value):Nat->Value:=λi=>args.getD i undef
structure Ret (P:Program) (m:DK) (Z:Nat->Prop) (args:List Value) (os:List (Value×Nat)) (w:World) (r:LTs m.rs×LTs (B1 m.ps)) (v:Value) (w':World):Prop where
 ex:∃vs os1 os2,v=Ma vs/\CO P w' (λb=>b∈Ax (os1++os2)\/Z b) (ar args) m.rs r.1 vs os1/\CO P w' (λb=>b∈Ax (os1++os2)\/Z b) (ar args) (B1 m.ps) r.2 (JK m.ps args) os2/\
  (Ax<|os1++os2).Nodup/\(∀b∈Ax (os1++os2),(b∈Ax os\/w.heap.size<=b)/\b<w'.heap.size)
 wos:w'.os=w.os
 tape:w'.tape=w.tape
 output:w'.output=w.output
 size:w.heap.size<=w'.heap.size
 block:∀b,b<w.heap.size->b ∉ Ax os->w'.heap[b]? =w.heap[b]?
 pk:Pk P w w'
def Gs(P:Program)(f:FuncId)(m:DK):Prop:=MJ P f/\ ∀(x:LTs m.ps) (r:LTs m.rs×LTs (B1 m.ps)),m.g x=I r->∀(w:World) (Z:Nat->Prop) (args:List Value) (os:List (Value×Nat)),
 CO P w (λb=>b∈Ax os\/Z b) (ar args) m.ps x args os->(Ax os).Nodup->(∀b∈Ax os,b<w.heap.size/\ ¬Z b)->(∀b,Z b->b<w.heap.size)->OF P w (λb=>b∈Ax os)->
 Calls P f args.toArray w λen w'=>∃v,en= .returned v/\Ret P m Z args os w r v w'
section
variable {C:Cx} {B:Bc} {β:Beta} {H:Hp} {w w':World} {M:Nat->Prop} {stk:List (Array Value)} {s s':S} {a:Act} {P:Program} {e e':Nat->Value}
mutual
theorem Rel.congr:∀(h:Sh) (x:LT h) (v:Value) (os:List (Value×Nat)),(∀t∈MY h,e t=e' t)->Rel P w M e h x v os->Rel P w M e' h x v os
 | .int _,_,_,_,_,h=>h
 | .bool,_,_,_,_,h=>h
 | .str,_,_,_,_,h=>h
 | .sl _,_,_,_,_,h=>h
 | .fz _,_,_,_,_,h=>h
 | .row _ _,_,_,_,_,h=>h
 | .CP _ _,_,_,_,_,h=>h
 | .abx _ _,_,_,_,_,h=>h
 | .arr _,_,_,_,_,h=>h
 | .same t,_,_,_,he,h=>⟨h.1,h.2.1.trans<|he t<|by simp[MY],h.2.2⟩
 | .agg l,x,v,os,he,h=>by
  obtain⟨us,h1,h2⟩:=h;exact⟨us,h1,CO.congr l x us os he h2⟩
 | .box t l,x,v,os,he,h=>by
  obtain⟨b,us,os',h1,h2,h3,h4⟩:=h;exact⟨b,us,os',h1,h2,CO.congr l x us.toList os' he h3,h4⟩
theorem CO.congr:∀(l:List Sh) (x:LTs l) (us:List Value) (os:List (Value×Nat)),(∀t∈IP l,e t=e' t)->CO P w M e l x us os->CO P w M e' l x us os
 | [],_,_,_,_,h=>h
 | h::l,x,us,os,he,hr=>by
  obtain⟨u,us',o1,o2,h1,h2,h3,h4⟩:=hr;exact⟨u,us',o1,o2,h1,h2,Rel.congr h x.1 u o1 (λt ht=>he t<|C5 _ ht) h3,CO.congr l x.2 us' o2 (λt ht=>he t<|Ch _ ht) h4⟩
end
def CO.length:∀ {l:List Sh} {x:LTs l} {us:List Value} {os:List (Value×Nat)},CO P w M e l x us os->us.length=l.length
 | [],_,_,_,h=>by rw[h.1];rfl
 | h::l,x,us,os,hr=>by
  obtain⟨u,us',o1,o2,rfl,_,_,h4⟩:=hr;simp[CO.length h4]
def adw{E:Nat->AV}:∀ {l:List Sh} {cs:List AV} {x:LTs l},Fu E H l cs=I x->cs.length=l.length
 | [],[],_,_=>rfl
 | [],_::_,_,h=>by cases h
 | _::_,[],_,h=>by cases h
 | h::l,c::cs,x,hx=>by
  obtain⟨x1,e1,hx⟩:=Al.1 hx;obtain⟨x2,e2,hx⟩:=Al.1 hx;simp[adw e2]
def z6:∀ {l l':List Sh} {cs cs':List AV},cs.length=l.length->Bi H (l++l') (cs++cs')=Bi H l cs++Bi H l' cs'
 | [],l',[],cs',_=>rfl
 | h::l,l',c::cs,cs',hl=>by
  simp only[LB,Bi,z6 (l:=l) (cs:=cs)<|by simpa using hl,C2]
 | [],_,_::_,_,hl=>by simp at hl
 | _::_,_,[],_,hl=>by simp at hl
def ad0:∀ {l l':List Sh} {cs cs':List AV},cs.length=l.length->Cc H (l++l') (cs++cs')=Cc H l cs++Cc H l' cs'
 | [],l',[],cs',_=>rfl
 | h::l,l',c::cs,cs',hl=>by
  simp only[LB,Cc,ad0 (l:=l) (cs:=cs)<|by simpa using hl,C2]
 | [],_,_::_,_,hl=>by simp at hl
 | _::_,_,[],_,hl=>by simp at hl
def Ur(tmps:Array Value):ResultVar->Sem Value
 | .tmp t=>pure (tmps.getD t undef)
 | .cell a t=>do loadVar t (← asAddr<|tmps.getD a undef)
def cZ(hP:P=B.P)(hst:St B β stk s a w):∀(l:List ResultVar) {vs:List AV},Rb P s l=I vs->
  ∃us:List Value,(l.mapM<|Ur a.tmps).run P w=Result.ok us w/\us.length=vs.length/\ ∀(i:Nat) (c:AV) (u:Value),vs[i]? =I c->us[i]? =I u->RX w β (BY a) c u
 | [],vs,h=>by
  cases h;exact⟨[],rfl,rfl,λi c u h=>by simp at h⟩
 | .tmp t::l,vs,h=>by
  obtain⟨vs',h1,h⟩:=Al.1 h;cases h;obtain⟨us,k1,k2,k3⟩:=cZ hP hst l h1;refine⟨BY a t::us, ?_,by simp[k2],λi c u h1 h2=> ?_⟩
  .simp only[V3,Ur,Ed,FM,El,k1];rfl
  .cases i with
   | zero=>
    simp at h1 h2;subst h1;subst h2;exact(hst.T t).aF
   | succ i=>exact k3 i c u (by simpa using h1)<|by simpa using h2
 | .cell x t::l,vs,h=>by
  obtain⟨v,h0,h⟩:=Al.1 h;obtain⟨vs',h1,h⟩:=Al.1 h;cases h;obtain⟨us,k1,k2,k3⟩:=cZ hP hst l h1;have hx:R2 w β (s.T x) (BY a x):=(hst.T x).XO (by
   cases hT:s.T x<;>first|rfl|(rw[hT]at h0;cases h0))
  obtain⟨u,j1,j2⟩:=sW hP hst.hs hx h0;have ajB:∃ad,BY a x= .pointer (I ad):=by
   cases hT:s.T x<;>rw[hT]at h0 hx<;>first|(cases h0;done)|skip
   .rename_i id z i o;have hx:RC w β (.ptr id z i o) (BY a x):=hx;generalize BY a x=y at hx;cases hx;exact⟨_,rfl⟩
   .rename_i k xx o;have hx:RC w β (.ipt k xx o) (BY a x):=hx;generalize BY a x=y at hx;cases hx;exact⟨_,rfl⟩
  obtain⟨ad,had⟩:=ajB;have ajq:a.tmps.getD x undef= .pointer (I ad):=had;rw[had]at j1;refine⟨u::us, ?_,by simp[k2],λi c u' h1 h2=> ?_⟩
  .have j1':(loadVar t ad).run P w= .ok u w:=by simpa[My,JU] using j1
   simp only[V3,Ur,ajq,asAddr,Ed,FM,El,j1',k1]
  .cases i with
   | zero=>
    simp at h1 h2;subst h1;subst h2;exact(RT.H7<|R2.HC j2).aF
   | succ i=>exact k3 i c u' (by simpa using h1)<|by simpa using h2
def sr{fn:Func}{us:List Value}(h:(fn.results.toList.mapM<|Ur a.tmps).run P w=Result.ok us w):(results fn a.tmps).run P w= .ok (Ma us) w:=by
 have e1:results fn a.tmps=(do
   let vs ← fn.results.mapM (Ur a.tmps)
   pure (if h:vs.size=1 then vs[0] else .tuple vs)):=rfl
 rw[e1,Array.mapM_eq_mapM_toList,map_eq_pure_bind];simp only[bind_assoc,pure_bind,Ed,h,El,FM]
 match us with
 | []=>rfl
 | [u]=>rfl
 | u::v::l=>simp[Ma]
end
end Go.VS
namespace Go.VS
open Go
def okM(m:DK)(n:Nat):Bool:=JZ m.ps&&JZ m.rs&&Dn m.ps.length n&&(IP m.rs++IP (B1 m.ps)).all λt=>(Dh 0 m.ps).any λp=>Ag p t
section
variable {C:Cx} {B:Bc} {β:Beta} {H:Hp} {w w':World} {M:Nat->Prop} {stk:List (Array Value)} {s s':S} {a:Act} {P:Program} {e e':Nat->Value} {inl:(Ω:Type)->Inl Ω}
def Te{E:Nat->AV}:∀ {l:List Sh} {cs:List AV} {x:LTs l},Fu E H l cs=I x->∀c∈cs,(∀g w v,c≠ .gd g w v)/\ ∀vs,c≠ .tup vs
 | [],[],_,_,c,hc=>by cases hc
 | [],_::_,_,h,_,_=>by cases h
 | _::_,[],_,h,_,_=>by cases h
 | h::l,d::cs,x,hx,c,hc=>by
  obtain⟨x1,e1,hx⟩:=Al.1 hx;obtain⟨x2,e2,hx⟩:=Al.1 hx;rcases Bj.1 hc with rfl|hc
  .exact rT e1
  .exact Te e2 c hc
def RX.MC{tm:Nat->Value}{c:AV}{v:Value}(h:RX w β tm c v)(h1:∀g w v,c≠ .gd g w v)(h2:∀vs,c≠ .tup vs):R1 w β c v:=by
 have:=h.of h1;cases c<;>first|exact this|exact absurd rfl (h2 _)
def tV(args:List Value):∀(ps:List Sh) (k:Nat),args.length=k+ps.length->JK ps (args.drop k)=(Dh k ps).map (ar args)
 | [],k,h=>by
  have:args.drop k=[]:=KH (by simp at h;omega);rw[this];rfl
 | p::ps,k,h=>by
  have hk:k<args.length:=by simp at h;omega
  rw[Rt hk];have ih:=tV args ps (k+1) (by simp at h ⊢; omega);have mZ:ar args k=args[k]:=by simp[ar,hk]
  cases p<;>simp only[JK,Dh,Sg,DI,ih,mZ]
def Ub(args:List Value)(n t:Nat):BY { tmps:=args.toArray++Q6 (n - args.toArray.size) undef,defers:=[] } t=ar args t:=by
 simp only[BY,ar,U1,BG];by_cases h:t<args.length
 .rw[Mb<|by simpa using h];simp
 .rw[Array.getElem?_append_right<|by simpa using h,I0 J];cases hr:(Q6 (n - args.toArray.size) undef)[t - args.toArray.size]? with
  | none=>rfl
  | some v=>
   rw[Array.getElem?_replicate]at hr;split at hr
   .cases hr;rfl
   .cases hr
def WI{fn:Func}{m:DK}{r:LTs m.rs×LTs (B1 m.ps)}{args:List Value}{os:List (Value×Nat)}(hst:St B β stk s a w)(hO:B.O=λb=>b∈Ax os)(htm:B.tm0=ar args)(hlen:args.length=m.ps.length)(hp:s.pins=Dh 0 m.ps)
  {n:Nat}(hok:okM m n=A1)(hf:fin B.P fn m s=I r):∃v,(results fn a.tmps).run B.P w= .ok v w/\Ret B.P m B.Z args os B.w0 r v w:=by
 unfold fin at hf;obtain⟨vs,h1,hf⟩:=Al.1 hf;split at hf
 .rename_i hnd;simp only[AI]at hnd;obtain⟨r1,h2,hf⟩:=Al.1 hf;obtain⟨q,h3,hf⟩:=Al.1 hf;cases hf;obtain⟨us,k1,k2,k3⟩:=cZ rfl hst fn.results.toList h1;have hl1:=adw h2;rw[z6 hl1,ad0 hl1]at hnd;generalize amt:Bi s.H m.rs vs=NG at hnd;generalize aje:Bi s.H (B1 m.ps) ((Dh 0 m.ps).map s.T)=Mv at hnd;have R:OG B β s.H w (MO B<|Ax<|(NG++Mv).filterMap β) s.T (BY a):={
   hs:=hst.hs
   hM:=λb hb=>aAY hst.hs hb
   hE:=λt id z e=>(hst.T t).MC (by rw[e];simp) (by rw[e];simp) }
  have hfz:=lL hst.hs hnd.2;have rl1:RL (R1 w β) vs us:=⟨k2,λj c u e1 e2=>(k3 j c u e1 e2).MC (Te h2 c<|CZ e1).1 (Te h2 c<|CZ e1).2⟩;have rl2:RL (R1 w β) ((Dh 0 m.ps).map s.T) ((Dh 0 m.ps).map<|BY a):=⟨by simp,λj c u e1 e2=>by
   obtain⟨h5,h6⟩:=Te h3 c<|CZ e1;rw[D5]at e1 e2;obtain⟨t,ht,rfl⟩:=Cz.1 e1;obtain⟨t',ht',rfl⟩:=Cz.1 e2;rw[ht]at ht';cases ht';exact(hst.T t).MC h5 h6⟩
  obtain⟨os1,j1,j2⟩:=cU R m.rs vs us r1 rl1 h2 (λi hi=>hfz i<|C5 _ hi);obtain⟨os2,j3,j4⟩:=cU R (B1 m.ps) _ _ q rl2 h3 (λi hi=>hfz i<|Ch _ hi);rw[amt]at j2;rw[aje]at j4;have Fy:Ax (os1++os2)=Ax ((NG++Mv).filterMap β):=by
   simp only[Ax,MI]at j2 j4 ⊢;rw[j2,j4]
  have fy:MO B (Ax<|(NG++Mv).filterMap β)=λb=>b∈Ax (os1++os2)\/B.Z b:=by rw[Fy]
  rw[fy]at j1 j3;have zy:∀t∈Dh 0 m.ps,BY a t=ar args t:=λt ht=>by rw[hst.pins t (by rw[hp];exact ht),htm]
  simp only[okM,AI,C0,KR]at hok;have Gi:∀t∈IP m.rs++IP (B1 m.ps),BY a t=ar args t:=λt ht=>by
   obtain⟨p,hp1,hp2⟩:=hok.2 t ht;rw[← Bm hp2];exact zy p hp1
  refine⟨Ma us,sr k1,⟨us,os1,os2,rfl,CO.congr _ _ _ _ (λt ht=>Gi t<|C5 _ ht) j1, ?_, ?_, ?_⟩,hst.hs.os,hst.hs.tape,hst.hs.output,hst.hs.size, ?_,hst.hs.pk⟩
  .have e1:JK m.ps args=(Dh 0 m.ps).map (BY a):=by
    have:=tV args m.ps 0 J;rw[Ib]at this;rw[this];exact GM λt ht=>(zy t ht).symm
   rw[e1];exact CO.congr _ _ _ _ (λt ht=>Gi t<|Ch _ ht) j3
  .rw[Fy];exact df hst.hs (Wp hnd.1)
  .intro b hb;rw[Fy]at hb;have:=hst.hs.old b<|UT hb;rw[hO]at this;exact this
  .intro b hb hn;have:=hst.hs.block b hb;rw[hO]at this;exact this hn
 .cases hf
def ahd{P:Program}(hP:C.P=P)(hm:P.follows .mixedOrders=A1)(hC:∀B:Bc,B.P=P->HE C B)(hI:∀B:Bc,B.P=P->JD C B inl){f:FuncId}{fn:Func}{body:Code}(hf:P.funcs[f]? =I fn)(K0:(fn.name == "runtime.NumGoroutine")=A3)
  (hb:fn.body=I body){v:Adv}{m:DK}(hok:okM m fn.ntmps=A1)(GA:∀B:Bc,B.P=P->HP (OH B fn.ntmps<|Dh 0 m.ps) body v)(hg:∀x,XX C inl fn v m x=m.g x):Gs P f m:=by
 refine⟨Nk hf K0 hb,λx r hx w Z args os hr hnd hbl hZ hgl=> ?_⟩;rw[← hg]at hx;unfold XX at hx;rw[hb]at hx;simp only[evF]at hx;have T4:=hok;simp only[okM,AI]at T4;obtain⟨⟨⟨hps,hrs⟩,hn⟩,_⟩:=T4;have hn:=D8 hn;have hlen:=hr.length
 let B:Bc:={ P:=P,w0:=w,O:=λb=>b∈Ax os,tm0:=ar args,Z:=Z,gl:=hgl }
 have Qp:Num (Ha Z os) 0 os:=jJ Z os;obtain⟨k1,k2,k3⟩:=cf (β:=Ha Z os) (E:=λ_=> .un) (M:=λb=>b∈Ax os\/Z b) (P:=P) (w:=w) (e:=ar args) (λb hb=>gn (B:=B) hb) m.ps (λ_=>U) 0 x args os hps hr Qp (λt _=>trivial);have hi:Px fn.ntmps m.ps x=(match Ai (λ_=> .un) (λ_=>U) 0 m.ps x with
  | (vs,H,b)=>{ n:=fn.ntmps,T:=λt=>(vs[t]?).getD DW,H:=H,nid:=b,st:=[],pins:=Dh 0 m.ps,gs:=λ_=>A3 }):=rfl
 rw[hi]at hx;generalize Ai (λ_=> .un) (λ_=>U) 0 m.ps x=q at *;obtain⟨vs,H,b⟩:=q;simp only at hx k1 k2 k3;have hH:Hs B (Ha Z os) H w:={
  E4:=λid ob ho=>by
   by_cases h:id<os.length
   .obtain⟨ob',h1,h2⟩:=k3.2 id (Ce _) J;rw[h1]at ho;cases ho;exact h2
   .rw[k3.1 id J]at ho;cases ho
  dom:=λid p hp=>by
   have h:id<os.length:=(BM.1<|show os[id]? =I p from hp).1;obtain⟨ob',h1,_⟩:=k3.2 id (Ce _) J;exact⟨ob',h1⟩
  inj:=λi j p q a a' hi hj=>Xt hnd i j p q a a' hi hj
  old:=λb hb=>⟨.inl<|NV hb,(hbl b<|NV hb).1⟩
  os:=rfl
  tape:=rfl
  output:=rfl
  size:=Ar _
  block:=λ_ _ _=>rfl
  z:=rfl
  zn:=λid p a hp ha=>(hbl _<|NV (Z:=Z) ⟨id,p.1,p.2,a,hp,ha,rfl⟩).2
  zl:=hZ
  pk:=Pk.refl _ _ }
 refine calls_of_wp hf hb ?_;have hst:St B (Ha Z os) [] { n:=fn.ntmps,T:=λt=>(vs[t]?).getD DW,H:=H,nid:=b,st:=[],pins:=Dh 0 m.ps,gs:=λ_=>A3 } { tmps:=args.toArray++Q6 (fn.ntmps - args.toArray.size) undef,defers:=[] } w:=by
  refine⟨λt=> ?_,⟨rfl,λi T' tm h=>by simp at h⟩, ?_,rfl,λt _=>Ub args _ t,λt g want y hy=> ?_,hH⟩
  .rw[Ub];show RT w _ _ ((vs[t]?).getD DW) _;cases hv:vs[t]? with
   | none=>
    have:args.length<=t:=by
     rw[k1.1];exact bK.1 hv
    show RT w _ _ DW (ar args t);have e0:ar args t=undef:=by simp[ar,I0 this]
    rw[e0];rfl
   | some c=>
    have hlt:t<args.length:=by rw[k1.1];exact(BM.1 hv).1
    have hu:args[t]? =I (ar args t):=by simp[ar,hlt]
    exact(k1.2 t c _ hv hu).XT
  .simp;omega
  .have hy:(vs[t]?).getD DW= .gd g want y:=hy;cases hv:vs[t]? with
   | none=>rw[hv]at hy;cases hy
   | some c=>
    rw[hv]at hy;have hy:c= .gd g want y:=hy;have hlt:t<args.length:=by rw[k1.1];exact(BM.1 hv).1
    have hu:args[t]? =I (ar args t):=by simp[ar,hlt]
    have:=k1.2 t c _ hv hu;rw[hy]at this;exact this.elim
 refine Xs (B:=B) hP hm (hC B rfl) (hI B rfl) body v _ _ r hx hst (λj hj=>k3.1 j<|.inr (by have hj:b<=j:=hj;omega)) (GA B rfl) ⟨?_, ?_, ?_⟩
 .intro β' a' w' s' h1 h2 h3 h4 h5;obtain⟨v',i1,i2⟩:=WI (B:=B) h1 rfl rfl hlen h4 hok (show fin P fn m s'=I r by rw[← hP];exact h5);exact⟨h1.defers,v',i1,v',rfl,i2⟩
 .intro β' a' w' s' h1 h2 h3 h4 h5;obtain⟨v',i1,i2⟩:=WI (B:=B) h1 rfl rfl hlen h4 hok (show fin P fn m s'=I r by rw[← hP];exact h5);exact⟨h1.defers,v',i1,v',rfl,i2⟩
 .intro id β' a' w' s' h1 h2 h3 h4 h5;cases h5
end
end Go.VS
namespace Go.VS
open Go
def HG(l:List Sh):Bool:=Hm l&&l.all λh=> !Sg h
section
variable {B:Bc} {β β':Beta} {H:Hp} {w w':World} {M:Nat->Prop} {stk:List (Array Value)} {s s':S} {a:Act} {P:Program} {E:Nat->AV} {e:Nat->Value} {b:Nat}
mutual
theorem avS:∀h:Sh,Db h=A1->IN h=A1/\MY h=[]
 | .int _,_=>⟨rfl,rfl⟩
 | .bool,_=>⟨rfl,rfl⟩
 | .str,_=>⟨rfl,rfl⟩
 | .sl _,_=>⟨rfl,rfl⟩
 | .row _ _,_=>⟨rfl,rfl⟩
 | .fz _,_=>⟨rfl,rfl⟩
 | .CP _ _,_=>⟨rfl,rfl⟩
 | .abx _ _,_=>⟨rfl,rfl⟩
 | .arr _,h=>by simp[Db]at h
 | .agg _,h=>by simp[Db]at h
 | .same _,h=>by simp[Db]at h
 | .box _ l,h=>by
  have:=lx l (by simpa[Db] using h);exact⟨by simpa[IN] using this.1,by simpa[MY] using this.2⟩
theorem lx:∀l:List Sh,Hm l=A1->Lo l=A1/\IP l=[]
 | [],_=>⟨rfl,rfl⟩
 | h::l,hl=>by
  simp only[Hm,AI]at hl;have h1:=avS h hl.1;have h2:=lx l hl.2;exact⟨by simp[Lo,h1.1,h2.1],by simp[IP,h1.2,h2.2]⟩
end
def XB:∀(l:List Sh) (H:Hp) (b:Nat) (cs:List AV) (x:LTs l),HG l=A1->BQ E H b l cs x=Ai E H b l x
 | [],_,_,_,_,_=>rfl
 | h::l,H,b,cs,x,hl=>by
  simp only[HG,Hm,PJ,AI]at hl;obtain⟨⟨h1,h2⟩,h3,h4⟩:=hl;have un:BQ E H b (h::l) cs x=(match Cl E H b h (cs.headD .un) x.1 with|(d,H,b)=>match BQ E H b l cs.tail x.2 with|(ds,H,b)=>(d::ds,H,b)):=rfl;have un2:Ai E H b (h::l) x=(match BE E H b h x.1 with|(c,H,b)=>match Ai E H b l x.2 with|(cs,H,b)=>(c::cs,H,b)):=rfl;have e1:Cl E H b h (cs.headD .un) x.1=BE E H b h x.1:=og h1 (λt l' e'=>by rw[e']at h3;simp[Sg]at h3);rw[un,un2,e1];generalize BE E H b h x.1=r;obtain⟨c,H',b'⟩:=r;simp only;rw[XB l H' b' cs.tail x.2 (by simp only[HG,AI];exact⟨h2,h4⟩)]
mutual
theorem uy:∀(h:Sh) (H:Hp) (b:Nat) (x:LT h) (v:Value) (os:List (Value×Nat)),IN h=A1->Rel P w M e h x v os->(BE E H b h x).2.2=b+os.length
 | .int k,H,b,x,v,os,_,hr=>by obtain⟨_,rfl⟩:=hr;rfl
 | .bool,H,b,x,v,os,_,hr=>by obtain⟨_,rfl⟩:=hr;rfl
 | .str,H,b,x,v,os,_,hr=>by obtain⟨_,rfl⟩:=hr;rfl
 | .sl k,H,b,x,v,os,_,hr=>by obtain⟨_,rfl⟩:=hr;rfl
 | .fz k,H,b,x,v,os,_,hr=>by obtain⟨_,rfl⟩:=hr;rfl
 | .row t k,H,b,x,v,os,_,hr=>by obtain⟨rfl,_⟩:=hr;rfl
 | .CP t k,H,b,x,v,os,_,hr=>by obtain⟨rfl,_⟩:=hr;rfl
 | .abx t k,H,b,x,v,os,_,hr=>by obtain⟨rfl,_⟩:=hr;rfl
 | .arr _,_,_,_,_,_,h,_=>by simp[IN]at h
 | .agg _,_,_,_,_,_,h,_=>by simp[IN]at h
 | .same t,H,b,x,v,os,_,hr=>by obtain⟨rfl,_⟩:=hr;rfl
 | .box t l,H,b,x,v,os,hl,hr=>by
  obtain⟨bb,us,os',rfl,h2,h3,rfl⟩:=hr;have un:BE E H b (.box t l) x=(match Ai E H b l x with|(cs,H,b)=>(AV.ptr b cs.length 0 0,upd H b<|I<|.box t cs,b+1)):=rfl;have k:=YQ l H b x us.toList os' (by simpa[IN] using hl) h3;rw[un];generalize Ai E H b l x=r at *;obtain⟨cs,H',b'⟩:=r;have k:b'=b+os'.length:=k;simp[k,Ct]
theorem YQ:∀(l:List Sh) (H:Hp) (b:Nat) (x:LTs l) (us:List Value) (os:List (Value×Nat)),Lo l=A1->CO P w M e l x us os->(Ai E H b l x).2.2=b+os.length
 | [],H,b,x,us,os,_,hr=>by obtain⟨_,rfl⟩:=hr;rfl
 | h::l,H,b,x,us,os,hl,hr=>by
  obtain⟨u,us',o1,o2,rfl,rfl,h1,h2⟩:=hr;simp only[Lo,AI]at hl;have un:Ai E H b (h::l) x=(match BE E H b h x.1 with|(c,H,b)=>match Ai E H b l x.2 with|(cs,H,b)=>(c::cs,H,b)):=rfl;have k:=uy h H b x.1 u o1 hl.1 h1;rw[un];generalize BE E H b h x.1=r at *;obtain⟨c,H',b'⟩:=r;have k:b'=b+o1.length:=k;subst k;have k2:=YQ l H' (b+o1.length) x.2 us' o2 hl.2 h2;simp only;generalize Ai E H' (b+o1.length) l x.2=r at *;obtain⟨cs,H'',b''⟩:=r;have k2:b''=_:=k2;simp[k2,Ct]
end
mutual
theorem ap7:∀(h:Sh) (H:Hp) (b:Nat) (x:LT h) (j:Nat),¬(b<=j/\j<(BE E H b h x).2.2)->(BE E H b h x).2.1 j=H j
 | .int _,H,_,_,_,_=>rfl
 | .bool,H,_,_,_,_=>rfl
 | .str,H,_,_,_,_=>rfl
 | .sl _,H,_,_,_,_=>rfl
 | .arr _,H,_,_,_,_=>rfl
 | .same _,H,_,_,_,_=>rfl
 | .fz _,H,_,_,_,_=>rfl
 | .row _ _,H,b,_,j,hj=>BC _ _ (λe=>hj ⟨J,by show j<b+1;omega⟩)
 | .CP _ _,H,b,_,j,hj=>BC _ _ (λe=>hj ⟨J,by show j<b+1;omega⟩)
 | .abx _ _,H,b,_,j,hj=>BC _ _ (λe=>hj ⟨J,by show j<b+1;omega⟩)
 | .agg l,H,b,x,j,hj=>by
  have un:BE E H b (.agg l) x=(match Ai E H b l x with|(cs,H,b)=>(AV.agg cs,H,b)):=rfl;have ih:=ZN l H b x j;rw[un]at hj ⊢;generalize Ai E H b l x=r at *;exact ih hj
 | .box e l,H,b,x,j,hj=>by
  have un:BE E H b (.box e l) x=(match Ai E H b l x with|(cs,H,b)=>(AV.ptr b cs.length 0 0,upd H b<|I<|.box e cs,b+1)):=rfl;have ih:=ZN l H b x j;have hle:=Is E l H b x;rw[un]at hj ⊢;generalize Ai E H b l x=r at *;obtain⟨cs,H',b'⟩:=r;simp only at hj ih hle ⊢;rw[BC _ _ λe=>hj ⟨J,J⟩];exact ih λh=>hj ⟨h.1,J⟩
theorem ZN:∀(l:List Sh) (H:Hp) (b:Nat) (x:LTs l) (j:Nat),¬(b<=j/\j<(Ai E H b l x).2.2)->(Ai E H b l x).2.1 j=H j
 | [],H,_,_,_,_=>rfl
 | h::l,H,b,x,j,hj=>by
  have un:Ai E H b (h::l) x=(match BE E H b h x.1 with|(c,H,b)=>match Ai E H b l x.2 with|(cs,H,b)=>(c::cs,H,b)):=rfl;have ih:=ap7 h H b x.1 j;have hle:=EB E h H b x.1;rw[un]at hj ⊢;generalize BE E H b h x.1=r at *;obtain⟨c,H',b'⟩:=r;have ih2:=ZN l H' b' x.2 j;have PE:=Is E l H' b' x.2;simp only at hj ⊢;generalize Ai E H' b' l x.2=r at *;obtain⟨cs,H'',b''⟩:=r;simp only at hj ih ih2 hle PE ⊢;rw[ih2 λh=>hj ⟨J,h.2⟩];exact ih λh=>hj ⟨h.1,J⟩
end
end
end Go.VS
namespace Go.VS
open Go
section
variable {B B':Bc} {β β':Beta} {H:Hp} {w w':World} {M M':Nat->Prop} {stk:List (Array Value)} {s s':S} {a:Act} {P:Program} {E:Nat->AV} {e:Nat->Value} {b:Nat}
def St.aqR{f:AV->AV}(h:St B β stk s a w)(ht:B'.tm0=B.tm0)(hf:∀c,G9 c=A1->f c=c)(hg:∀c g want x,f c= .gd g want x->∃y,c= .gd g want y)(hk:Kf f w β w' β'){H':Hp}(hH:Hs B' β' H' w'):St B' β' stk { s.map f with H:=H' } a w':=by
 have g1:∀c g want x,FP f c= .gd g want x->∃y,c= .gd g want y:=by
  intro c g want x e;cases c<;>first|(cases e;done)|exact hg _ _ _ _ e
 have g2:∀c g want x,Fq f c= .gd g want x->∃y,c= .gd g want y:=by
  intro c g want x e;cases c<;>first|(cases e;done)|exact g1 _ _ _ _ e
 have g3:∀c g want x,Er f c= .gd g want x->∃y,c= .gd g want y:=by
  intro c g want x e;cases c with
  | gd g' w' y=>cases e;exact⟨_,rfl⟩
  | _=>exact g2 _ _ _ _ e
 refine⟨λt=>RT.map hf hk<|h.T t,⟨by simpa[S.map] using h.stack.1,λi T tm h1 h2 t=> ?_⟩,h.n,h.defers,λt ht'=>by rw[ht];exact h.pins t ht',λt g want x hx=> ?_,hH⟩
 .simp only[S.map,D5,Cz]at h1;obtain⟨T0,h3,rfl⟩:=h1;exact RT.map hf hk (h.stack.2 i T0 tm h3 h2 t)
 .obtain⟨y,hy⟩:=g3 _ _ _ _ hx;exact h.gs _ _ _ _ hy
def Beta.kz(β:Beta)(id:Nat):Beta:=⟨upd β.f id U,λb=>β.Z b\/ ∃p a,β id=I p/\adr p.1=I a/\a.block=b⟩
def Beta.bF(β:Beta)(id j:Nat):(β.kz id) j=if j=id then U else β j:=by
 show upd β.f id U j=_;by_cases e:j=id
 .subst e;rw[Bf,A8 rfl]
 .rw[BC _ _ e,AD e]
def St.auT(h:St B β stk s a w)(id:Nat):St { B with Z:=(β.kz id).Z } (β.kz id) stk (s.kill id) a w:=by
 have hM:∀b,¬MZ β b->b<w.heap.size->¬MZ (β.kz id) b:=λb hb _ hm=>by
  obtain⟨j,hd,n,a,hj,ha,hab⟩|hz|⟨p,a,hp,ha,hab⟩:=hm
  .rw[Beta.bF]at hj;split at hj
   .cases hj
   .exact hb (.inl ⟨j,hd,n,a,hj,ha,hab⟩)
  .exact hb (.inr hz)
  .exact hb<|.inl ⟨id,p.1,p.2,a,hp,ha,hab⟩
 have hk:Kf (kl1 id) w β w (β.kz id):=Kf.kill (λj e=>BC _ _ e) (λ_ _ _ _ h=>h) hM;have hH:=h.hs.aeH (Iq id) hk (λj e=>BC _ _ e) (.inl ⟨Bf _ _ _,rfl⟩) (λ_ _ _ _ _ _=>rfl) rfl rfl rfl (Ar _) (λ_ _ _=>rfl) (λb hb=>hb.imp (λh=>h) λh=>⟨Bf _ _ _,h⟩) (Pk.refl _ _);exact h.aqR (B':={ B with Z:=(β.kz id).Z }) rfl (Iq id) (Ov id) hk hH
def St.yT:∀(ids:List Nat) {B:Bc} {β:Beta} {s:S},ids.Nodup->St B β stk s a w->∃β2:Beta,St { B with Z:=β2.Z } β2 stk (ids.foldl S.kill s) a w/\(∀j,β2 j=if j∈ids then U else β j)/\
  (∀b,β2.Z b↔β.Z b\/ ∃i∈ids,∃p a,β i=I p/\adr p.1=I a/\a.block=b)
 | [],B,β,s,_,h=>by
  have e:{ B with Z:=β.Z } =B:=by rw[h.hs.z]
  exact⟨β,by rw[e];exact h,λj=>by simp,λb=>by simp⟩
 | i::ids,B,β,s,hn,h=>by
  obtain⟨hn1,hn2⟩:=L3.1 hn;obtain⟨β2,h1,h2,h3⟩:=St.yT ids hn2<|h.auT i;refine⟨β2,h1,λj=> ?_,λb=> ?_⟩
  .rw[h2,Beta.bF];by_cases e1:j∈ids
   .rw[A8 e1,A8<|Aj _ e1]
   .by_cases e2:j=i
    .rw[AD e1,A8 e2,A8 (by rw[e2];exact An)]
    .rw[AD e1,AD e2,AD<|by simp[e1,e2]]
  .rw[h3];constructor
   .rintro((h|⟨p,a,h⟩)|⟨j,hj,p,a,hp,h⟩)
    .exact .inl h
    .exact .inr ⟨i,An,p,a,h⟩
    .rw[Beta.bF]at hp;split at hp
     .cases hp
     .exact .inr ⟨j,Aj _ hj,p,a,hp,h⟩
   .rintro(h|⟨j,hj,p,a,hp,h⟩)
    .exact .inl (.inl h)
    .rcases Bj.1 hj with rfl|hj
     .exact .inl (.inr ⟨p,a,hp,h⟩)
     .refine .inr ⟨j,hj,p,a, ?_,h⟩;rw[Beta.bF,AD fun(e:j=i)=>hn1<|e▸hj];exact hp
def St.Zs(h:St B β stk s a w)(id:Nat):St B (β.up id U) stk (s.freeze id) a w:=by
 unfold S.freeze;split
 .rename_i e fz k xs hid;obtain⟨h1,h2⟩:=h.hs.Zs hid;exact h.map (gM id k xs) (wR id k xs) h2 h1
 .obtain⟨h1,h2⟩:=h.hs.qK id;exact h.map (Iq id) (Ov id) h2 h1
def St.q9:∀(ids:List Nat) {β:Beta} {s:S},St B β stk s a w->∃β2:Beta,St B β2 stk (ids.foldl S.freeze s) a w/\(∀j,β2 j=if j∈ids then U else β j)/\β2.Z=β.Z
 | [],β,s,h=>⟨β,h,λj=>by simp,rfl⟩
 | i::ids,β,s,h=>by
  obtain⟨β2,h1,h2,h3⟩:=St.q9 ids<|h.Zs i;refine⟨β2,h1,λj=> ?_,h3⟩;rw[h2];by_cases e1:j∈ids
  .rw[A8 e1,A8<|Aj _ e1]
  .by_cases e2:j=i
   .subst e2;rw[AD e1,A8 An,Beta.TG]
   .rw[AD e1,Beta.Mt _ _ e2,AD<|by simp[e1,e2]]
def St.asS(q:Bool)(ids:List Nat)(h:St B β stk s a w):∃β2:Beta,St B β2 stk (G6 q ids s) a w/\(∀j,β2 j=if q=A1/\j∈ids then U else β j)/\β2.Z=β.Z:=by
 cases q with
 | false=>exact⟨β,h,λj=>by simp,rfl⟩
 | true=>
  obtain⟨β2,h1,h2,h3⟩:=St.q9 ids h;exact⟨β2,h1,λj=>by simp[h2],h3⟩
def ve{t:TypeId}{j:Nat}:∀(ids:List Nat) (s:S) {cs:List AV},j ∉ ids->s.H j=I (.box t cs)->∃cs',(ids.foldl S.kill s).H j=I (.box t cs')
 | [],s,cs,_,h=>⟨cs,h⟩
 | i::ids,s,cs,hj,h=>by
  have hne:j≠i:=λe=>hj<|e▸An;refine ve ids (s.kill i) (cs:=cs.map<|kl1 i) (λhm=>hj<|Aj _ hm) ?_;show upd (λj=>CC (kl1 i)<|s.H j) i U j=_;rw[BC _ _ hne,h];rfl
def adQ{t:TypeId}{j:Nat}:∀(ids:List Nat) (s:S) {cs:List AV},j ∉ ids->s.H j=I (.box t cs)->∃cs',(ids.foldl S.freeze s).H j=I (.box t cs')
 | [],s,cs,_,h=>⟨cs,h⟩
 | i::ids,s,cs,hj,h=>by
  have hne:j≠i:=λe=>hj<|e▸An;have:∃cs',(s.freeze i).H j=I (.box t cs'):=by
   unfold S.freeze;split
   .rename_i k xs _;refine⟨cs.map<|fz1 i k xs, ?_⟩;show upd (λj=>CC (fz1 i k xs)<|s.H j) i U j=_;rw[BC _ _ hne,h];rfl
   .refine⟨cs.map<|kl1 i, ?_⟩;show upd (λj=>CC (kl1 i)<|s.H j) i U j=_;rw[BC _ _ hne,h];rfl
  obtain⟨cs',h'⟩:=this;exact adQ ids (s.freeze i) (λhm=>hj<|Aj _ hm) h'
def apC{t:TypeId}{j:Nat}(q:Bool)(ids:List Nat)(s:S){cs:List AV}(hj:¬(q=A1/\j∈ids))(h:s.H j=I (.box t cs)):∃cs',(G6 q ids s).H j=I (.box t cs'):=by
 cases q with
 | false=>exact⟨cs,h⟩
 | true=>exact adQ ids s (λhm=>hj ⟨rfl,hm⟩) h
mutual
theorem aew:∀(h:Sh) (c:AV),(C4 H h c).Sublist<|CJ H h c
 | .int _,_=>Et _
 | .bool,_=>Et _
 | .str,_=>Et _
 | .sl _,_=>Et _
 | .arr _,_=>Et _
 | .same _,_=>Et _
 | .fz _,_=>Et _
 | .row _ _,c=>by cases c<;>exact Et _
 | .CP _ _,c=>by cases c<;>exact Et _
 | .abx _ _,c=>by
  cases c with
  | ptr id z i o=>cases i<;>cases o<;>exact Et _
  | _=>exact Et _
 | .agg l,c=>by
  cases c with
  | agg cs=>exact cj l cs
  | _=>exact Et _
 | .box t l,c=>by
  cases c with
  | ptr id z i o=>
   cases i<;>cases o<;>simp only[C4,CJ]<;>first|exact Et _|skip
   split
   .exact(cj l _).trans (List.sublist_append_left _ _)
   .exact Et _
  | _=>exact Et _
theorem cj:∀(l:List Sh) (cs:List AV),(CK H l cs).Sublist<|Bi H l cs
 | [],_=>by simp only[CK,Bi];exact Et _
 | _::_,[]=>by simp only[CK,Bi];exact Et _
 | h::l,c::cs=>by
  simp only[CK,Bi];exact(aew h c).append<|cj l cs
end
def Qw(H:Hp)(i:Nat):Prop:=∀t cs,H i≠I (.box t cs)
mutual
theorem azA:∀(h:Sh) (c:AV) (x:LT h),Bl E H h c=I x->∀i∈C4 H h c,Qw H i
 | .int _,_,_,_,i,hi=>by simp[C4]at hi
 | .bool,_,_,_,i,hi=>by simp[C4]at hi
 | .str,_,_,_,i,hi=>by simp[C4]at hi
 | .sl _,_,_,_,i,hi=>by simp[C4]at hi
 | .arr _,_,_,_,i,hi=>by simp[C4]at hi
 | .same _,_,_,_,i,hi=>by simp[C4]at hi
 | .fz _,_,_,_,i,hi=>by simp[C4]at hi
 | .row t k,c,x,hx,i,hi=>by
  cases c<;>simp[C4]at hi;subst hi;intro t' cs hb;simp[Bl,hb]at hx
 | .CP t k,c,x,hx,i,hi=>by
  cases c<;>simp[C4]at hi;subst hi;intro t' cs hb;simp[Bl,hb]at hx
 | .abx t k,c,x,hx,i,hi=>by
  cases c with
  | ptr id z i' o=>
   cases i'<;>cases o<;>simp[C4]at hi;subst hi;intro t' cs hb;simp[Bl,hb]at hx
  | _=>simp[C4]at hi
 | .agg l,c,x,hx,i,hi=>by
  cases c with
  | agg cs=>exact Wr l cs x hx i<|by simpa[C4] using hi
  | _=>simp[C4]at hi
 | .box t l,c,x,hx,j,hi=>by
  cases c with
  | ptr id z i o=>
   cases i<;>cases o<;>simp only[C4]at hi<;>first|(simp at hi;done)|skip
   cases ho:H id with
   | none=>simp[ho]at hi
   | some ob=>
    cases ob with
    | box e' cs=>
     simp only[ho]at hi;simp only[Bl,ho]at hx;split at hx
     .exact Wr l cs x hx j hi
     .cases hx
    | _=>simp[ho]at hi
  | _=>simp[C4]at hi
theorem Wr:∀(l:List Sh) (cs:List AV) (x:LTs l),Fu E H l cs=I x->∀i∈CK H l cs,Qw H i
 | [],cs,_,_,i,hi=>by simp[CK]at hi
 | _::_,[],_,_,i,hi=>by simp[CK]at hi
 | h::l,c::cs,x,hx,i,hi=>by
  obtain⟨x1,e1,hx⟩:=Al.1 hx;obtain⟨x2,e2,hx⟩:=Al.1 hx;simp only[CK,Bk]at hi;obtain hi|hi:=hi
  .exact azA h c x1 e1 i hi
  .exact Wr l cs x2 e2 i hi
end
mutual
theorem anZ:∀(h:Sh) (c:AV) (x:LT h),Bl E H h c=I x->∀i∈CW H h c,Qw H i
 | .int _,_,_,_,i,hi=>by simp[CW]at hi
 | .bool,_,_,_,i,hi=>by simp[CW]at hi
 | .str,_,_,_,i,hi=>by simp[CW]at hi
 | .sl _,_,_,_,i,hi=>by simp[CW]at hi
 | .arr _,_,_,_,i,hi=>by simp[CW]at hi
 | .same _,_,_,_,i,hi=>by simp[CW]at hi
 | .row _ _,_,_,_,i,hi=>by simp[CW]at hi
 | .CP _ _,_,_,_,i,hi=>by simp[CW]at hi
 | .abx _ _,_,_,_,i,hi=>by simp[CW]at hi
 | .fz k,c,x,hx,i,hi=>by
  cases c<;>simp[CW]at hi;subst hi;intro t' cs hb;simp[Bl,C8,hb]at hx
 | .agg l,c,x,hx,i,hi=>by
  cases c with
  | agg cs=>exact aK l cs x hx i<|by simpa[CW] using hi
  | _=>simp[CW]at hi
 | .box t l,c,x,hx,j,hi=>by
  cases c with
  | ptr id z i o=>
   cases i<;>cases o<;>simp only[CW]at hi<;>first|(simp at hi;done)|skip
   cases ho:H id with
   | none=>simp[ho]at hi
   | some ob=>
    cases ob with
    | box e' cs=>
     simp only[ho]at hi;simp only[Bl,ho]at hx;split at hx
     .exact aK l cs x hx j hi
     .cases hx
    | _=>simp[ho]at hi
  | _=>simp[CW]at hi
theorem aK:∀(l:List Sh) (cs:List AV) (x:LTs l),Fu E H l cs=I x->∀i∈Cc H l cs,Qw H i
 | [],cs,_,_,i,hi=>by simp[Cc]at hi
 | _::_,[],_,_,i,hi=>by simp[Cc]at hi
 | h::l,c::cs,x,hx,i,hi=>by
  obtain⟨x1,e1,hx⟩:=Al.1 hx;obtain⟨x2,e2,hx⟩:=Al.1 hx;simp only[Cc,Bk]at hi;obtain hi|hi:=hi
  .exact anZ h c x1 e1 i hi
  .exact aK l cs x2 e2 i hi
end
def l6{k:K}(h:QX k=A1)(x:Tof k):∀c∈enc k x,∃v,c= .lit v:=by
 have key:(enc k x).all (λc=>match c with
   | .lit _=>A1
   | _=>A3)=A1:=by cases k<;>first|(cases h;done)|rfl
 intro c hc;have:=C0.1 key c hc;cases c<;>first|exact⟨_,rfl⟩|cases this
def Uw:Beta:=⟨λ_=>U,λ_=>False⟩
def Yw{b:Nat}:¬MZ Uw b:=by
 rintro(⟨_,_,_,_,h,_⟩|h)
 .cases h
 .exact h
def F8.anyM{t:TypeId}{fz:Bool}{k:K}{xs:List (Tof k)}{v:Value}(hk:QX k=A1)(h:F8 w β t fz k xs v):F8 w β' t fz k xs v:=by
 obtain h|⟨b,f,cap,us,fr,h1,h2,h3,h4,h5,h6,h7⟩:=h
 .exact .inl h
 .refine .inr ⟨b,f,cap,us,fr,h1,h2,h3,h4,h5,h6,λi x j c u a1 a2 a3=> ?_⟩;have h8:=h7 i x j c u a1 a2 a3;obtain⟨v,rfl⟩:=l6 hk x c<|CZ a2;cases h8 with
  | lit h=>exact .lit h
mutual
theorem Rel.anyM:∀(h:Sh) (x:LT h) (v:Value) (os:List (Value×Nat)),Ly h=A3->Rel P w M e h x v os->Rel P w M' e h x v os
 | .int _,_,_,_,_,h=>h
 | .bool,_,_,_,_,h=>h
 | .str,_,_,_,_,h=>h
 | .sl _,_,_,_,h,_=>by cases h
 | .fz _,_,_,_,h,_=>by cases h
 | .row t k,_,_,_,hm,h=>⟨h.1,h.2.1,λβ _=>(h.2.2 Uw λb hb=>absurd hb Yw).anyM<|by simpa[Ly] using hm⟩
 | .CP t k,_,_,_,hm,h=>⟨h.1,h.2.1,λβ _=>(h.2.2 Uw λb hb=>absurd hb Yw).anyM<|by simpa[Ly] using hm⟩
 | .abx t k,_,_,_,hm,h=>by
  obtain⟨h1,h2,b,us,h3,h4,h5,h6,h7⟩:=h;refine⟨h1,h2,b,us,h3,h4,h5,h6,λβ _ i x j c u a1 a2 a3=> ?_⟩;have h8:=h7 Uw (λb hb=>absurd hb Yw) i x j c u a1 a2 a3;obtain⟨v,rfl⟩:=l6 (by simpa[Ly] using hm) x c<|CZ a2;cases h8 with
  | lit h=>exact .lit h
 | .arr k,_,_,_,hm,h=>by
  obtain⟨h1,h2⟩:=h;refine⟨h1,λβ _=> ?_⟩;obtain⟨us,k1,k2,k3⟩:=h2 Uw (λb hb=>absurd hb Yw);refine⟨us,k1,k2,λi x j c u a1 a2 a3=> ?_⟩;have h8:=k3 i x j c u a1 a2 a3;obtain⟨v,rfl⟩:=l6 (by simpa[Ly] using hm) x c<|CZ a2;cases h8 with
  | lit h=>exact .lit h
 | .same t,_,_,_,_,h=>h
 | .agg l,x,v,os,hm,h=>by
  obtain⟨us,h1,h2⟩:=h;exact⟨us,h1,CO.anyM l x us os (by simpa[Ly] using hm) h2⟩
 | .box t l,x,v,os,hm,h=>by
  obtain⟨b,us,os',h1,h2,h3,h4⟩:=h;exact⟨b,us,os',h1,h2,CO.anyM l x us.toList os' (by simpa[Ly] using hm) h3,h4⟩
theorem CO.anyM:∀(l:List Sh) (x:LTs l) (us:List Value) (os:List (Value×Nat)),CG l=A3->CO P w M e l x us os->CO P w M' e l x us os
 | [],_,_,_,_,h=>h
 | h::l,x,us,os,hm,hr=>by
  obtain⟨u,us',o1,o2,h1,h2,h3,h4⟩:=hr;simp only[CG,NO]at hm;exact⟨u,us',o1,o2,h1,h2,Rel.anyM h x.1 u o1 hm.1 h3,CO.anyM l x.2 us' o2 hm.2 h4⟩
end
end
end Go.VS
namespace Go.VS
open Go
def rJ:List Sh->Bool
 | .box _ l2::l=>HG l2&&HG l
 | l=>HG l
def acD:List Sh->Bool
 | .box _ _::_=>A1
 | _=>A3
def br(P:Program):List Sh->Bool
 | []=>A1
 | h::ps=>(match h with
  | .box t l=>rJ l&&(!acD l||OX P t)
  | .agg l=>HG l
  | _=>A1)&&br P ps
section
variable {B B':Bc} {β β':Beta} {H:Hp} {w w':World} {M M':Nat->Prop} {stk:List (Array Value)} {s s':S} {a:Act} {P:Program} {E:Nat->AV} {e:Nat->Value} {b:Nat} {C:Cx}
mutual
theorem ZH:∀(h:Sh) (c:AV),Db h=A1->Sg h=A3->∀i∈CJ H h c,i∈C4 H h c
 | .int _,_,_,_,i,hi=>by simp[CJ]at hi
 | .bool,_,_,_,i,hi=>by simp[CJ]at hi
 | .str,_,_,_,i,hi=>by simp[CJ]at hi
 | .sl _,_,_,_,i,hi=>by simp[CJ]at hi
 | .fz _,_,_,_,i,hi=>by simp[CJ]at hi
 | .row _ _,c,_,_,i,hi=>by cases c<;>first|exact hi|(simp[CJ]at hi;done)
 | .CP _ _,c,_,_,i,hi=>by cases c<;>first|exact hi|(simp[CJ]at hi;done)
 | .abx _ _,c,_,_,i,hi=>by
  cases c with
  | ptr id z i' o=>cases i'<;>cases o<;>first|exact hi|(simp[CJ]at hi;done)
  | _=>simp[CJ]at hi
 | .arr _,_,h,_,_,_=>by simp[Db]at h
 | .same _,_,h,_,_,_=>by simp[Db]at h
 | .agg _,_,h,_,_,_=>by simp[Db]at h
 | .box _ _,_,_,h,_,_=>by cases h
end
def UO:∀(l:List Sh) (cs:List AV),HG l=A1->∀i∈Bi H l cs,i∈CK H l cs
 | [],cs,_,i,hi=>by simp[Bi]at hi
 | _::_,[],_,i,hi=>by simp[Bi]at hi
 | h::l,c::cs,hl,i,hi=>by
  simp only[HG,Hm,PJ,AI,Df]at hl;obtain⟨⟨h1,h2⟩,h3,h4⟩:=hl;simp only[Bi,Bk]at hi;obtain hi|hi:=hi
  .exact C5 _ (ZH h c h1 h3 i hi)
  .refine Ch _<|UO l cs ?_ i hi;simp only[HG,AI];exact⟨h2,h4⟩
def EC:List AV->List Nat
 | []=>[]
 | .ptr id _ 0 0::l=>id::EC l
 | _::l=>EC l
def ab7{id:Nat}:∀ {ds:List AV},id∈EC ds->∃z,AV.ptr id z 0 0∈ds
 | [],h=>by cases h
 | c::ds,h=>by
  have rest:id∈EC ds->∃z,AV.ptr id z 0 0∈c::ds:=λh=>by
   obtain⟨z,hz⟩:=ab7 h;exact⟨z,Aj _ hz⟩
  cases c<;>first|exact rest h|skip
  rename_i a b i o;cases i<;>cases o<;>first|exact rest h|skip
  rcases Bj.1 h with h|h
  .subst h;exact⟨b,An⟩
  .exact rest h
inductive Fb (P:Program) (w:World) (H:Hp):List Sh->List AV->List Value->List AV->List Value->Prop
 | nil:Fb P w H [] [] [] [] []
 | flat {t:TypeId} {l bs:List Sh} {id z bb:Nat} {cs ds:List AV} {vs us:List Value} (hl:HG l=A1) (hb:∃t0 cs0,H id=I (.box t0 cs0)) (h:Fb P w H bs cs vs ds us):
   Fb P w H (.box t l::bs) (.ptr id z 0 0::cs) (.pointer (I ⟨bb,0,U⟩)::vs) (.ptr id z 0 0::ds) (.pointer (I ⟨bb,0,U⟩)::us)
 | nest {t t2 t0:TypeId} {l2 l bs:List Sh} {id z id2 z2 bb bb2:Nat} {cs1 cs ds:List AV} {vs us:List Value} (hl2:HG l2=A1) (hl:HG l=A1) (hid:H id=I (.box t0 (.ptr id2 z2 0 0::cs1)))
   (hb2:∃t0 cs0,H id2=I (.box t0 cs0)) (hn:OX P t=A1) (hc:∃us0 fr,w.heap[bb]? =I (.cells us0 t fr)/\us0[0]? =I (.pointer<|I ⟨bb2,0,U⟩)) (h:Fb P w H bs cs vs ds us):
   Fb P w H (.box t (.box t2 l2::l)::bs) (.ptr id z 0 0::cs) (.pointer (I ⟨bb,0,U⟩)::vs) (.ptr id2 z2 0 0:: .ptr id z 0 0::ds) (.pointer (I ⟨bb2,0,U⟩):: .pointer (I ⟨bb,0,U⟩)::us)
def Fb.carry{bs:List Sh}{cs ds:List AV}{vs us:List Value}{H':Hp}(h:Fb P w H bs cs vs ds us)(hpk:Pk P w w')
  (hH:∀id∈EC ds,∀t cs,H id=I (.box t cs)->∃cs',H' id=I (.box t cs')/\ ∀id2 z2 cs1,cs= .ptr id2 z2 0 0::cs1->id2∈EC ds->∃KN,cs'= .ptr id2 z2 0 0::KN):Fb P w' H' bs cs vs ds us:=by
 induction h with
 | nil=>exact .nil
 | @flat t l bs id z bb cs ds vs us hl hb h ih=>
  refine .flat hl ?_ (ih λi hi t0 c0 h0=> ?_)
  .obtain⟨t0,c0,h0⟩:=hb;obtain⟨c1,h1,_⟩:=hH id An t0 c0 h0;exact⟨t0,c1,h1⟩
  .obtain⟨c1,h1,h2⟩:=hH i (Aj _ hi) t0 c0 h0;exact⟨c1,h1,λa b c e hm=>h2 a b c e<|Aj _ hm⟩
 | @nest t t2 t0 l2 l bs id z id2 z2 bb bb2 cs1 cs ds vs us hl2 hl hid hb2 hn hc h ih=>
  obtain⟨c1,h1,h2⟩:=hH id (Aj _ An) t0 _ hid;obtain⟨c2,rfl⟩:=h2 id2 z2 cs1 rfl An;refine .nest hl2 hl h1 ?_ hn ?_ (ih λi hi t0 c0 h0=> ?_)
  .obtain⟨t3,c3,h3⟩:=hb2;obtain⟨c4,h4,_⟩:=hH id2 An t3 c3 h3;exact⟨t3,c4,h4⟩
  .obtain⟨us0,fr,h3,h4⟩:=hc;obtain⟨us1,fr1,h5,h6⟩:=hpk bb us0 t fr _ h3 h4 hn;exact⟨us1,fr1,h5,h6⟩
  .obtain⟨c3,h3,h4⟩:=hH i (Aj _<|Aj _ hi) t0 c0 h0;exact⟨c3,h3,λa b c e hm=>h4 a b c e<|Aj _<|Aj _ hm⟩
def nH{l:List Sh}(hl:HG l=A1)(H:Hp)(b:Nat)(x:LTs l){us1:List Value}{ob:List (Value×Nat)}(hr:CO P w M e l x us1 ob):
  ∃ds1 H1,Ai E H b l x=(ds1,H1,b+ob.length)/\(∀j,¬(b<=j/\j<b+ob.length)->H1 j=H j)/\ ∀β:Beta,(∀b,MZ β b->M b)->Num β b ob->RL (RC w β) ds1 us1/\ ∀j,b<=j->j<b+ob.length->∃o,H1 j=I o/\Dt P w β j o:=by
 have hl':=hl;simp only[HG,AI]at hl';obtain⟨Cg,Gi⟩:=lx l hl'.1;have hlen:=YQ (E:=E) (P:=P) (w:=w) (M:=M) (e:=e) l H b x us1 ob Cg hr;have Eo:=ZN (E:=E) l H b x;have hrc:=fun(β:Beta) (hM:∀b,MZ β b->M b) (hn:Num β b ob)=>bY (E:=E) (P:=P) (w:=w) (M:=M) (e:=e) hM l H b x us1 ob Cg hr hn (by rw[Gi];intro t ht;simp at ht);generalize Ai E H b l x=r at *;obtain⟨ds1,H1,b1⟩:=r;have hlen:b1=b+ob.length:=hlen;subst hlen;exact⟨ds1,H1,rfl,Eo,λβ hM hn=>⟨(hrc β hM hn).1,(hrc β hM hn).2.2.2⟩⟩
def agf{x y:Value×Nat}{oc ob nw us o2:List (Value×Nat)}(h:o2.Perm (nw++us)):(((oc++[x])++ob)++[y]++o2).Perm (((oc++ob)++nw)++x::y::us):=by
 have h1:(ob++y::o2).Perm (ob++nw++y::us):=by
  rw[C2];exact Xd ob<|(h.cons y).trans List.perm_middle.symm
 have h2:(oc++x::(ob++y::o2)).Perm (oc++(ob++nw++x::y::us)):=Xd oc<|(h1.cons x).trans List.perm_middle.symm;simpa[C2] using h2
def lA:∀(bs:List Sh) (H:Hp) (b:Nat) (q:LTs bs) (cs ds:List AV) (vs us:List Value) (os:List (Value×Nat)) (L:Nat),Fb P w H bs cs vs ds us->(EC ds).Nodup->(∀i∈EC ds,¬(b<=i/\i<L))->CO P w M e bs q vs os->(BQ E H b bs cs q).2.2<=L->
  ∃nw:List (Value×Nat),os.Perm (nw++us.map λv=>(v,1))/\(BQ E H b bs cs q).2.2=b+nw.length/\
   ∀β:Beta,(∀b,MZ β b->M b)->Num β b nw->(∀(i:Nat) (c:AV) (v:Value),ds[i]? =I c->us[i]? =I v->∀id z,c= .ptr id z 0 0->β id=I (v,1))->
    (∀j,(BQ E H b bs cs q).2.1 j=H j\/ ∃ob,(BQ E H b bs cs q).2.1 j=I ob/\Dt P w β j ob)/\
    (∀j,b<=j->j<b+nw.length->∃ob,(BQ E H b bs cs q).2.1 j=I ob/\Dt P w β j ob)/\
    (∀id z,AV.ptr id z 0 0∈ds->∃ob,(BQ E H b bs cs q).2.1 id=I ob/\Dt P w β id ob)/\
    (∀j,¬(b<=j/\j<b+nw.length)->(∀z,AV.ptr j z 0 0 ∉ ds)->(BQ E H b bs cs q).2.1 j=H j)
 | [],H,b,q,cs,ds,vs,us,os,L,hF,_,_,hr,_=>by
  cases hF;obtain⟨_,rfl⟩:=hr;exact⟨[],.nil,rfl,λβ _ _ _=>⟨λj=> .inl rfl,λj h1 h2=>by simp at h2;omega,λid z h=>by simp at h,λj _ _=>rfl⟩⟩
 | h::bs,H,b,q,cs0,ds0,vs0,us0,os,L,hF,hnd,Eo,hr,hL=>by
  cases hF with
  | @flat t l _ id z bb cs ds vs us hl hb hF=>
   obtain⟨u,us',o1,o2,e1,rfl,h1,h2⟩:=hr;cases e1;obtain⟨bb',uc,os',e2,h3,h4,rfl⟩:=h1;cases e2;obtain⟨t0,c0,hid⟩:=hb;obtain⟨da,H1,hmk,ho1,hrc⟩:=nH (E:=E) hl H b q.1 h4;have JG:id ∉ EC ds/\(EC ds).Nodup:=by simpa[EC] using hnd
   have un:BQ E H b (.box t l::bs) (.ptr id z 0 0::cs) q=(match BQ E (upd H1 id<|I<|.box t da) (b+os'.length) bs cs q.2 with|(es,H'',b'')=>(AV.ptr id z 0 0::es,H'',b'')):=by
    have u1:BQ E H b (.box t l::bs) (.ptr id z 0 0::cs) q=(match Cl E H b (.box t l) (.ptr id z 0 0) q.1 with|(d,H,b)=>match BQ E H b bs cs q.2 with|(ds,H,b)=>(d::ds,H,b)):=rfl;have u2:Cl E H b (.box t l) (.ptr id z 0 0) q.1=(match H id with
     | some (.box _ cs)=>(match BQ E H b l cs q.1 with|(ds,H,b)=>(AV.ptr id z 0 0,upd H id<|I<|.box t ds,b))
     | _=>(.un,H,b)):=rfl
    rw[u1,u2,hid];simp only;rw[XB l H b c0 q.1 hl,hmk]
   rw[un]at hL ⊢;have hle:=RY E bs (upd H1 id<|I<|.box t da) (b+os'.length) cs q.2;have hL':(BQ E (upd H1 id<|I<|.box t da) (b+os'.length) bs cs q.2).2.2<=L:=by
    generalize BQ E (upd H1 id<|I<|.box t da) (b+os'.length) bs cs q.2=r at *;exact hL
   have Gi:∀i∈EC ds,upd H1 id (I<|.box t da) i=H i:=λi hi=>by
    rw[BC _ _ λe=>JG.1 (by rw[← e];exact hi),ho1 i λhh=>Eo i (Aj _ hi) ⟨hh.1,J⟩]
   obtain⟨nw,n1,n4,n5⟩:=lA bs (upd H1 id<|I<|.box t da) (b+os'.length) q.2 cs ds vs us o2 L (hF.carry (Pk.refl _ _) λi hi t c h0=>⟨c,by rw[Gi i hi];exact h0,λ_ _ c1 e _=>⟨c1,e⟩⟩) JG.2
    (λi hi hh=>Eo i (Aj _ hi) ⟨J,hh.2⟩) h2 hL'
   generalize hg:BQ E (upd H1 id<|I<|.box t da) (b+os'.length) bs cs q.2=r at *;obtain⟨es,H'',b''⟩:=r;simp only at n4 n5 hle hL hL' ⊢;refine⟨os'++nw, ?_, ?_, ?_⟩
   .rw[C2,C2,DI];refine Xd os' ?_;exact((n1.cons (NZ<|I ⟨bb,0,U⟩,1)).trans List.perm_middle.symm)
   .rw[n4];simp[Ct]
   .intro β hM hn hbx;obtain⟨r1,r3⟩:=hrc β hM hn.left;have aff:β id=I (.pointer<|I ⟨bb,0,U⟩,1):=hbx 0 _ _ rfl rfl id z rfl;have sg:Dt P w β id (.box t da):=⟨bb,uc,aff,h3,r1⟩;obtain⟨m1,m2,m3,m4⟩:=n5 β hM hn.right (λi c v k1 k2=>hbx (i+1) c v (by simpa using k1)<|by simpa using k2);have step:∀j,H'' j=H1 j\/ ∃ob,H'' j=I ob/\Dt P w β j ob:=λj=>by
     rcases m1 j with h|h
     .by_cases e4:j=id
      .subst e4;rw[Bf]at h;exact .inr ⟨_,h,sg⟩
      .rw[BC _ _ e4]at h;exact .inl h
     .exact .inr h
    refine⟨λj=> ?_,λj k1 k2=> ?_,λid2 z2 hm=> ?_,λj k1 k2=> ?_⟩
    .rcases step j with h|h
     .by_cases hj:b<=j/\j<b+os'.length
      .obtain⟨ob,q1,q2⟩:=r3 j hj.1 hj.2;exact .inr ⟨ob,by rw[h];exact q1,q2⟩
      .exact .inl (h.trans<|ho1 j hj)
     .exact .inr h
    .by_cases hj:j<b+os'.length
     .rcases step j with h|h
      .obtain⟨ob,q1,q2⟩:=r3 j k1 hj;exact⟨ob,by rw[h];exact q1,q2⟩
      .exact h
     .exact m2 j J (by simp at k2;omega)
    .rcases Bj.1 hm with h|h
     .cases h;rcases m1 id with h|h
      .rw[Bf]at h;exact⟨_,h,sg⟩
      .exact h
     .exact m3 id2 z2 h
    .have hne:j≠id:=λe4=>k2 z (by rw[e4];exact An);rw[m4 j (λhh=>k1 ⟨J,by simp;omega⟩) λz' hz'=>k2 z'<|Aj _ hz',BC _ _ hne];exact ho1 j λhh=>k1 ⟨hh.1,by simp;omega⟩
  | @nest t t2 t0 l2 l _ id z id2 z2 bb bb2 cs1 cs ds vs us hl2 hl hid hb2 hn hc hF=>
   obtain⟨u,us',o1,o2,e1,rfl,h1,h2⟩:=hr;cases e1;obtain⟨bb',uc,os',e2,h3,h4,rfl⟩:=h1;cases e2;obtain⟨u2,us1,oa,ob,huc,rfl,h5,h6⟩:=h4;obtain⟨aBg,uc2,oc,e3,h7,h8,rfl⟩:=h5;have e4:u2= .pointer (I ⟨bb2,0,U⟩):=by
    obtain⟨us0,fr,k1,k2⟩:=hc;rw[h3]at k1;cases k1;have:uc.toList[0]? =I u2:=by rw[huc];rfl
    rw[Uu,k2]at this;exact(CX this).symm
   rw[e4]at e3;cases e3;subst e4;obtain⟨t3,c3,Kd⟩:=hb2;have JG:(id2≠id/\id2 ∉ EC ds)/\id ∉ EC ds/\(EC ds).Nodup:=by simpa[EC,not_or] using hnd
   obtain⟨da,H1,hmk,ho1,anf⟩:=nH (E:=E) hl2 H b q.1.1 h8;obtain⟨dc,H3,ajP,ho2,anT⟩:=nH (E:=E) hl (upd H1 id2<|I<|.box t2 da) (b+oc.length) q.1.2 h6;have un:BQ E H b (.box t (.box t2 l2::l)::bs) (.ptr id z 0 0::cs) q=
     (match BQ E (upd H3 id<|I<|.box t<|.ptr id2 z2 0 0::dc) (b+oc.length+ob.length) bs cs q.2 with|(es,H'',b'')=>(AV.ptr id z 0 0::es,H'',b'')):=by
    have u1:BQ E H b (.box t (.box t2 l2::l)::bs) (.ptr id z 0 0::cs) q=(match Cl E H b (.box t<|.box t2 l2::l) (.ptr id z 0 0) q.1 with|(d,H,b)=>match BQ E H b bs cs q.2 with|(ds,H,b)=>(d::ds,H,b)):=rfl;have u2:Cl E H b (.box t<|.box t2 l2::l) (.ptr id z 0 0) q.1=(match H id with
     | some (.box _ cs)=>(match BQ E H b (.box t2 l2::l) cs q.1 with|(ds,H,b)=>(AV.ptr id z 0 0,upd H id<|I<|.box t ds,b))
     | _=>(.un,H,b)):=rfl
    have u3:BQ E H b (.box t2 l2::l) (.ptr id2 z2 0 0::cs1) q.1=(match Cl E H b (.box t2 l2) (.ptr id2 z2 0 0) q.1.1 with|(d,H,b)=>match BQ E H b l cs1 q.1.2 with|(ds,H,b)=>(d::ds,H,b)):=rfl;have u4:Cl E H b (.box t2 l2) (.ptr id2 z2 0 0) q.1.1=(match H id2 with
     | some (.box _ cs)=>(match BQ E H b l2 cs q.1.1 with|(ds,H,b)=>(AV.ptr id2 z2 0 0,upd H id2<|I<|.box t2 ds,b))
     | _=>(.un,H,b)):=rfl
    rw[u1,u2,hid];simp only;rw[u3,u4,Kd];simp only;rw[XB l2 H b c3 q.1.1 hl2,hmk];simp only;rw[XB l _ _ cs1 q.1.2 hl,ajP]
   rw[un]at hL ⊢;have hle:=RY E bs (upd H3 id<|I<|.box t<|.ptr id2 z2 0 0::dc) (b+oc.length+ob.length) cs q.2;have hL':(BQ E (upd H3 id<|I<|.box t<|.ptr id2 z2 0 0::dc) (b+oc.length+ob.length) bs cs q.2).2.2<=L:=by
    generalize BQ E (upd H3 id<|I<|.box t<|.ptr id2 z2 0 0::dc) (b+oc.length+ob.length) bs cs q.2=r at *;exact hL
   have hi2:¬(b<=id2/\id2<L):=Eo id2 An;have hi1:¬(b<=id/\id<L):=Eo id<|Aj _ An;have hold:∀j,¬(b<=j/\j<b+oc.length+ob.length)->j≠id->j≠id2->upd H3 id (I<|.box t<|.ptr id2 z2 0 0::dc) j=H j:=λj hj e1 e2=>by
    rw[BC _ _ e1,ho2 j λhh=>hj ⟨J,hh.2⟩,BC _ _ e2,ho1 j λhh=>hj ⟨hh.1,J⟩]
   have Gi:∀i∈EC ds,upd H3 id (I<|.box t<|.ptr id2 z2 0 0::dc) i=H i:=λi hi=>by
    have:=Eo i<|Aj _<|Aj _ hi;exact hold i (λhh=>this ⟨hh.1,J⟩) (λe=>JG.2.1 (by rw[← e];exact hi)) λe=>JG.1.2 (by rw[← e];exact hi)
   obtain⟨nw,n1,n4,n5⟩:=lA bs (upd H3 id<|I<|.box t<|.ptr id2 z2 0 0::dc) (b+oc.length+ob.length) q.2 cs ds vs us o2 L (hF.carry (Pk.refl _ _) λi hi t c h0=>⟨c,by rw[Gi i hi];exact h0,λ_ _ c1 e _=>⟨c1,e⟩⟩) JG.2.2
    (λi hi hh=>Eo i (Aj _<|Aj _ hi) ⟨J,hh.2⟩) h2 hL'
   generalize hg:BQ E (upd H3 id<|I<|.box t<|.ptr id2 z2 0 0::dc) (b+oc.length+ob.length) bs cs q.2=r at *;obtain⟨es,H'',b''⟩:=r;simp only at n4 n5 hle hL hL' ⊢;refine⟨oc++ob++nw, ?_, ?_, ?_⟩
   .exact agf n1
   .rw[n4];simp[Ct]
   .intro β hM hn hbx;have aqw:Num β b oc:=hn.left.left;have azi:Num β (b+oc.length) ob:=hn.left.right;have ara:Num β (b+oc.length+ob.length) nw:=by
     have:=hn.right;rwa[Ap,← Ct]at this
    obtain⟨r1,r3⟩:=anf β hM aqw;obtain⟨s1,s3⟩:=anT β hM azi;have hβ2:β id2=I (.pointer<|I ⟨bb2,0,U⟩,1):=hbx 0 _ _ rfl rfl id2 z2 rfl;have hβ1:β id=I (.pointer<|I ⟨bb,0,U⟩,1):=hbx 1 _ _ rfl rfl id z rfl;have ob2:Dt P w β id2 (.box t2 da):=⟨bb2,uc2,hβ2,h7,r1⟩;have ob1:Dt P w β id (.box t<|.ptr id2 z2 0 0::dc):=by
     refine⟨bb,uc,hβ1,h3, ?_⟩;rw[huc];refine RL.cons ?_ s1;have:=RC.ptr (w:=w) (β:=β) (id:=id2) (sz:=z2) (i:=0) (o:=0) hβ2 (b:=bb2) (f:=0) rfl J;simpa using this
    obtain⟨m1,m2,m3,m4⟩:=n5 β hM ara (λi c v k1 k2=>hbx (i+2) c v (by simpa using k1)<|by simpa using k2);have h4:∀j,(upd H3 id (I<|.box t<|.ptr id2 z2 0 0::dc) j=H j/\ ¬(b<=j/\j<b+oc.length+ob.length)/\j≠id/\j≠id2)\/ ∃o,upd H3 id (I<|.box t<|.ptr id2 z2 0 0::dc) j=I o/\Dt P w β j o:=λj=>by
     by_cases e1:j=id
     .subst e1;exact .inr ⟨_,Bf _ _ _,ob1⟩
     by_cases e2:j=id2
     .subst e2;refine .inr ⟨_, ?_,ob2⟩;rw[BC _ _ e1,ho2 j λhh=>hi2 ⟨J,J⟩,Bf]
     by_cases k1:b<=j/\j<b+oc.length+ob.length
     .by_cases k2:j<b+oc.length
      .obtain⟨o,q1,q2⟩:=r3 j k1.1 k2;exact .inr ⟨o,by rw[BC _ _ e1,ho2 j J,BC _ _ e2];exact q1,q2⟩
      .obtain⟨o,q1,q2⟩:=s3 j J k1.2;exact .inr ⟨o,by rw[BC _ _ e1];exact q1,q2⟩
     .exact .inl ⟨hold j k1 e1 e2,k1,e1,e2⟩
    have step:∀j,(H'' j=H j/\ ¬(b<=j/\j<b+oc.length+ob.length)/\j≠id/\j≠id2)\/ ∃o,H'' j=I o/\Dt P w β j o:=λj=>by
     rcases m1 j with h|h
     .rcases h4 j with⟨k1,k2⟩|⟨o,k1,k2⟩
      .exact .inl ⟨h.trans k1,k2⟩
      .exact .inr ⟨o,h.trans k1,k2⟩
     .exact .inr h
    refine⟨λj=> ?_,λj k1 k2=> ?_,λid3 z3 hm=> ?_,λj k1 k2=> ?_⟩
    .rcases step j with h|h
     .exact .inl h.1
     .exact .inr h
    .by_cases hj:j<b+oc.length+ob.length
     .rcases step j with h|h
      .exact absurd ⟨k1,hj⟩ h.2.1
      .exact h
     .exact m2 j J (by simp at k2;omega)
    .rcases Bj.1 hm with h|h
     .cases h;rcases step id2 with h|h
      .exact absurd rfl h.2.2.2
      .exact h
     rcases Bj.1 h with h|h
     .cases h;rcases step id with h|h
      .exact absurd rfl h.2.2.1
      .exact h
     .exact m3 id3 z3 h
    .have hne:j≠id:=λe4=>k2 z (by rw[e4];exact Aj _ An);have aw6:j≠id2:=λe4=>k2 z2 (by rw[e4];exact An);rw[m4 j (λhh=>k1 ⟨J,by simp;omega⟩) λz' hz'=>k2 z'<|Aj _<|Aj _ hz'];exact hold j (λhh=>k1 ⟨hh.1,by simp;omega⟩) hne aw6
def aA4(hH:Hs B β H w):∀(ps:List Sh) (cs:List AV) (vs:List Value) (x:LTs ps),br B.P ps=A1->RL (R1 w β) cs vs->Fu E H ps cs=I x->
  ∃ds us,Fb B.P w H (B1 ps) (FJ ps cs) (JK ps vs) ds us/\
   RL (λc v=>∃id z bb,c=AV.ptr id z 0 0/\v=NZ (I ⟨bb,0,U⟩)/\(∃t cs,H id=I (.box t cs))/\β id=I (v,1)/\id∈Bi H ps cs) ds us/\
   (EC ds).Sublist (Bi H ps cs)/\ ∀i∈Bi H ps cs,i∈CK H ps cs\/ ∃z,AV.ptr i z 0 0∈ds
 | [],[],vs,x,_,hr,hx=>by
  have:=hr.of_nil;subst this;exact⟨[],[],.nil,.nil,Et _,λi hi=>by simp[Bi]at hi⟩
 | [],_::_,_,_,_,_,hx=>by cases hx
 | _::_,[],_,_,_,_,hx=>by cases hx
 | h::ps,c::cs,vs,x,hp,hr,hx=>by
  obtain⟨v,vs,rfl,h1,h2⟩:=hr.Bz;obtain⟨x1,e1,hx⟩:=Al.1 hx;obtain⟨x2,e2,hx⟩:=Al.1 hx;simp only[br,AI]at hp;obtain⟨ds,us,f1,f2,f3,f4⟩:=aA4 hH ps cs vs x2 hp.2 h2 e2;have f2':RL (λc' v'=>∃id z bb,c'=AV.ptr id z 0 0/\v'=NZ (I ⟨bb,0,U⟩)/\(∃t cs,H id=I (.box t cs))/\β id=I (v',1)/\id∈Bi H (h::ps) (c::cs)) ds us:=
   f2.mono λc' v' ⟨id,z,bb,k1,k2,k3,k4,k5⟩=>⟨id,z,bb,k1,k2,k3,k4,Ch _ k5⟩
  have DQ:B1 (h::ps)=B1 ps->FJ (h::ps) (c::cs)=FJ ps cs->JK (h::ps) (v::vs)=JK ps vs->(∀i∈CJ H h c,i∈C4 H h c)->
    ∃ds us,Fb B.P w H (B1<|h::ps) (FJ (h::ps)<|c::cs) (JK (h::ps)<|v::vs) ds us/\
     RL (λc' v'=>∃id z bb,c'=AV.ptr id z 0 0/\v'=NZ (I ⟨bb,0,U⟩)/\(∃t cs,H id=I (.box t cs))/\β id=I (v',1)/\id∈Bi H (h::ps) (c::cs)) ds us/\
     (EC ds).Sublist (Bi H (h::ps)<|c::cs)/\ ∀i∈Bi H (h::ps) (c::cs),i∈CK H (h::ps) (c::cs)\/ ∃z,AV.ptr i z 0 0∈ds:=λg1 g2 g3 g4=>by
   rw[g1,g2,g3];refine⟨ds,us,f1,f2',f3.trans<|Zd _ _,λi hi=> ?_⟩;rcases Bk.1 hi with hi|hi
   .exact .inl (C5 _<|g4 i hi)
   .exact(f4 i hi).imp (Ch _) λh=>h
  cases h with
  | box t l=>
   have hp1:=hp.1;simp only[AI,Cj,Df]at hp1;cases c<;>first|(cases e1;done)|skip
   rename_i id z i o;cases i<;>cases o<;>simp only[Bl]at e1<;>first|(cases e1;done)|skip
   split at e1
   case h_2=>cases e1
   rename_i t' cs' hid;split at e1
   case h_2=>cases e1
   rename_i hbt;obtain rfl:=Bm hbt;have h1:=h1.Qr;cases h1 with
   | @ptr _ _ _ _ hd n bb f k1 ha hi=>
    obtain⟨b',uc,j1,j2,j3⟩:=hH.E4 id _ hid;rw[k1]at j1;cases j1;cases ha;have e0:(NZ<|I ⟨bb,0+(0 * z+0),U⟩)=NZ (I ⟨bb,0,U⟩):=by simp
    by_cases Wv:acD l=A1
    ·
     cases l with
     | nil=>cases Wv
     | cons h0 l=>
      cases h0 with
      | box t2 l2=>
       obtain⟨hl,hn⟩:=hp1;have hn:OX B.P t=A1:=hn.resolve_left (by rw[Wv];simp);simp only[rJ,AI]at hl;cases cs' with
       | nil=>cases e1
       | cons c2 cs1=>
        obtain⟨y1,g1,g2⟩:=Al.1 e1;obtain⟨u2,us1,huc,q1,q2⟩:=j3.Bz;cases c2<;>first|(cases g1;done)|skip
        rename_i id2 z2 i2 o2;cases i2<;>cases o2<;>simp only[Bl]at g1<;>first|(cases g1;done)|skip
        split at g1
        case h_2=>cases g1
        rename_i t2' cs2 Kd;obtain⟨b2,uc2,m1,m2,m3⟩:=hH.E4 id2 _ Kd;cases q1 with
        | @ptr _ _ _ _ hd2 n2 bb2 f2x k1' ha' hi'=>
         rw[m1]at k1';cases k1';cases ha';have e00:(NZ<|I ⟨b2,0+(0 * z2+0),U⟩)=NZ (I ⟨b2,0,U⟩):=by simp
         rw[e00]at huc;refine⟨.ptr id2 z2 0 0:: .ptr id z 0 0::ds,.pointer (I ⟨b2,0,U⟩):: .pointer (I ⟨bb,0,U⟩)::us, ?_, ?_, ?_,λi hi=> ?_⟩
         .rw[e0];exact .nest hl.1 hl.2 hid ⟨_,_,Kd⟩ hn ⟨uc,_,j2,by rw[← Uu,huc];rfl⟩ f1
         .refine RL.cons ⟨id2,z2,b2,rfl,rfl,⟨_,_,Kd⟩,m1, ?_⟩ (RL.cons ⟨id,z,bb,rfl,rfl,⟨_,_,hid⟩,k1, ?_⟩ f2')
          .simp[Bi,CJ,hid,Kd]
          .simp[Bi,CJ,hid]
         .simp only[EC,Bi,CJ,hid,Kd];refine List.Sublist.trans ?_<|List.Sublist.append_left f3 _;have:(((Bi H l2 cs2++[id2])++Bi H l cs1)++[id])++EC ds=Bi H l2 cs2++(id2::(Bi H l cs1++(id::EC ds))):=by simp
          rw[this];exact(((Zd _ _:(id::EC ds).Sublist (Bi H l cs1++(id::EC ds)))).cons_cons id2).trans (Zd _ _)
         .simp only[Bi,CJ,hid,Kd,Bk,DG]at hi;obtain(((hi|hi)|hi)|hi)|hi:=hi
          .refine .inl<|C5 _ ?_;simp only[C4,hid,CK,Kd];exact C5 _ (UO l2 cs2 hl.1 i hi)
          .subst hi;exact .inr ⟨z2,An⟩
          .refine .inl<|C5 _ ?_;simp only[C4,hid,CK,Kd];exact Ch _ (UO l cs1 hl.2 i hi)
          .subst hi;exact .inr ⟨z,Aj _ An⟩
          .rcases f4 i hi with h|⟨z',h⟩
           .exact .inl (Ch _ h)
           .exact .inr ⟨z',Aj _<|Aj _ h⟩
      | _=>cases Wv
    ·
     have hl:HG l=A1:=by
      have:=hp1.1;cases l with
      | nil=>rfl
      | cons h0 l=>cases h0<;>first|exact this|exact absurd rfl Wv
     refine⟨.ptr id z 0 0::ds,.pointer (I ⟨bb,0,U⟩)::us, ?_, ?_, ?_,λi hi=> ?_⟩
     .rw[e0];exact .flat hl ⟨_,_,hid⟩ f1
     .refine RL.cons ⟨id,z,bb,rfl,rfl,⟨_,_,hid⟩,k1, ?_⟩ f2';simp[Bi,CJ,hid]
     .simp only[EC,Bi,CJ,hid];rw[C2];exact((f3.cons_cons id)).trans (Zd _ _)
     .simp only[Bi,CJ,hid,Bk,DG]at hi;obtain(hi|hi)|hi:=hi
      .refine .inl<|C5 _ ?_;simp only[C4,hid];exact UO l cs' hl i hi
      .subst hi;exact .inr ⟨z,An⟩
      .rcases f4 i hi with h|⟨z',h⟩
       .exact .inl (Ch _ h)
       .exact .inr ⟨z',Aj _ h⟩
  | agg l=>
   refine DQ rfl rfl rfl λi hi=> ?_;cases c with
   | agg cs'=>
    simp only[C4];exact UO l cs' hp.1 i<|by simpa[CJ] using hi
   | _=>simp[CJ]at hi
  | arr=>exact DQ rfl rfl rfl λi hi=>by simp[CJ]at hi
  | same=>exact DQ rfl rfl rfl λi hi=>by simp[CJ]at hi
  | int=>exact DQ rfl rfl rfl λi hi=>by simp[CJ]at hi
  | bool=>exact DQ rfl rfl rfl λi hi=>by simp[CJ]at hi
  | str=>exact DQ rfl rfl rfl λi hi=>by simp[CJ]at hi
  | sl=>exact DQ rfl rfl rfl λi hi=>by simp[CJ]at hi
  | fz=>exact DQ rfl rfl rfl λi hi=>by simp[CJ]at hi
  | row t k=>exact DQ rfl rfl rfl (ZH _ c rfl rfl)
  | CP t k=>exact DQ rfl rfl rfl (ZH _ c rfl rfl)
  | abx t k=>exact DQ rfl rfl rfl (ZH _ c rfl rfl)
def tB{t:TypeId}{j:Nat}:∀(ids:List Nat) (s:S) {cs:List AV},j ∉ ids->s.H j=I (.box t cs)->∃cs',(ids.foldl S.kill s).H j=I (.box t cs')/\ ∀id2 z2 cs1,cs= .ptr id2 z2 0 0::cs1->id2 ∉ ids->∃KN,cs'= .ptr id2 z2 0 0::KN
 | [],s,cs,_,h=>⟨cs,h,λ_ _ c e _=>⟨c,e⟩⟩
 | i::ids,s,cs,hj,h=>by
  have hne:j≠i:=λe=>hj<|e▸An;obtain⟨c',h1,h2⟩:=tB (t:=t) (j:=j) ids (s.kill i) (cs:=cs.map<|kl1 i) (λhm=>hj<|Aj _ hm) (by
   show upd (λj=>CC (kl1 i)<|s.H j) i U j=_;rw[BC _ _ hne,h];rfl)
  refine⟨c',h1,λid2 z2 cs1 e hn=> ?_⟩;subst e;have hn2:id2≠i:=λe=>hn<|e▸An;have e1:Ag id2 i=A3:=by rw[← HH,Gy];exact hn2
  exact h2 id2 z2 (cs1.map<|kl1 i) (by simp[kl1,e1]) λhm=>hn<|Aj _ hm
def zf{t:TypeId}{j:Nat}:∀(ids:List Nat) (s:S) {cs:List AV},j ∉ ids->s.H j=I (.box t cs)->∃cs',(ids.foldl S.freeze s).H j=I (.box t cs')/\ ∀id2 z2 cs1,cs= .ptr id2 z2 0 0::cs1->id2 ∉ ids->∃KN,cs'= .ptr id2 z2 0 0::KN
 | [],s,cs,_,h=>⟨cs,h,λ_ _ c e _=>⟨c,e⟩⟩
 | i::ids,s,cs,hj,h=>by
  have hne:j≠i:=λe=>hj<|e▸An;have:∃cs',(s.freeze i).H j=I (.box t cs')/\ ∀id2 z2 cs1,cs= .ptr id2 z2 0 0::cs1->id2≠i->∃KN,cs'= .ptr id2 z2 0 0::KN:=by
   unfold S.freeze;split
   .rename_i k xs _;refine⟨cs.map<|fz1 i k xs, ?_,λid2 z2 cs1 e hn=> ?_⟩
    .show upd (λj=>CC (fz1 i k xs)<|s.H j) i U j=_;rw[BC _ _ hne,h];rfl
    .subst e;have e1:Ag id2 i=A3:=by rw[← HH,Gy];exact hn
     exact⟨cs1.map<|fz1 i k xs,by simp[fz1,e1]⟩
   .refine⟨cs.map<|kl1 i, ?_,λid2 z2 cs1 e hn=> ?_⟩
    .show upd (λj=>CC (kl1 i)<|s.H j) i U j=_;rw[BC _ _ hne,h];rfl
    .subst e;have e1:Ag id2 i=A3:=by rw[← HH,Gy];exact hn
     exact⟨cs1.map<|kl1 i,by simp[kl1,e1]⟩
  obtain⟨c',h',hd'⟩:=this;obtain⟨c2,h2,h3⟩:=zf (t:=t) (j:=j) ids (s.freeze i) (λhm=>hj<|Aj _ hm) h';refine⟨c2,h2,λid2 z2 cs1 e hn=> ?_⟩;obtain⟨KN,e'⟩:=hd' id2 z2 cs1 e (λe=>hn<|e▸An);exact h3 id2 z2 KN e' λhm=>hn<|Aj _ hm
def apZ{t:TypeId}{j:Nat}(q:Bool)(ids:List Nat)(s:S){cs:List AV}(hj:¬(q=A1/\j∈ids))(h:s.H j=I (.box t cs)):
  ∃cs',(G6 q ids s).H j=I (.box t cs')/\ ∀id2 z2 cs1,cs= .ptr id2 z2 0 0::cs1->¬(q=A1/\id2∈ids)->∃KN,cs'= .ptr id2 z2 0 0::KN:=by
 cases q with
 | false=>exact⟨cs,h,λ_ _ c e _=>⟨c,e⟩⟩
 | true=>
  obtain⟨c',h1,h2⟩:=zf ids s (λhm=>hj ⟨rfl,hm⟩) h;exact⟨c',h1,λid2 z2 cs1 e hn=>h2 id2 z2 cs1 e λhm=>hn ⟨rfl,hm⟩⟩
def acQ{cs:List AV}{vs:List Value}(h:RL (R1 w β) cs vs):R2 w β (Lk cs) (Ma vs):=by
 match cs,vs,h with
 | [],vs,h=>
  have:=h.of_nil;subst this;exact⟨[],rfl,.nil⟩
 | [c],vs,h=>
  obtain⟨v,vs',rfl,h1,h2⟩:=h.Bz;have:=h2.of_nil;subst this;exact .HC h1
 | c::c'::cs,vs,h=>
  obtain⟨v,vs',rfl,h1,h2⟩:=h.Bz;obtain⟨v',anV,rfl,h3,h4⟩:=h2.Bz;exact⟨v::v'::anV,rfl,h⟩
def acS:∀(ps:List Sh) (k:Nat) (t:Nat),t∈Dh k ps->k<=t/\ ∃e l,ps[t - k]? =I (.box e l)
 | [],_,_,h=>by cases h
 | p::ps,k,t,h=>by
  have tail:t∈Dh (k+1) ps->k<=t/\ ∃e l,(p::ps)[t - k]? =I (.box e l):=λh=>by
   obtain⟨h1,e,l,h2⟩:=acS ps (k+1) t h;refine⟨J,e,l, ?_⟩;have:t - k=(t - (k+1))+1:=J
   rw[this];simpa using h2
  unfold Dh at h;split at h
  .rename_i hb;rcases Bj.1 h with rfl|h
   .refine⟨Ar _, ?_⟩;cases p<;>first|(cases hb;done)|skip
    rename_i t0 l0;exact⟨t0,l0,by simp⟩
   .exact tail h
  .exact tail h
def qi{H:Hp}:∀ {ps:List Sh} {cs:List AV} {x:LTs ps},Fu E H ps cs=I x->∀ {i:Nat} {h:Sh},ps[i]? =I h->∃c y,cs[i]? =I c/\Bl E H h c=I y
 | [],cs,x,_,i,h,hi=>by simp at hi
 | _::_,[],_,h,_,_,_=>by cases h
 | p::ps,c::cs,x,hx,i,h,hi=>by
  obtain⟨x1,e1,hx⟩:=Al.1 hx;obtain⟨x2,e2,hx⟩:=Al.1 hx;cases i with
  | zero=>simp at hi;subst hi;exact⟨c,x1,rfl,e1⟩
  | succ i=>
   obtain⟨c',y,h1,h2⟩:=qi e2 (by simpa using hi);exact⟨c',y,by simpa using h1,h2⟩
end
end Go.VS
namespace Go.VS
open Go
def okQ(P:Program)(m:DK):Bool:=br P m.ps&&JZ m.rs&&(IP m.rs).all λt=>(Dh 0 m.ps).any λp=>Ag p t
section
variable {B B':Bc} {β β':Beta} {H:Hp} {w w':World} {M M':Nat->Prop} {stk:List (Array Value)} {s s':S} {a:Act} {P:Program} {E:Nat->AV} {e:Nat->Value} {b:Nat} {C:Cx}
def acj{o:Oper}{f:FuncId}{args:List Operand}{ts:Array TypeId}{K:Act->World->Prop}{Q:Exit->Act->World->Prop}(hE:MJ P f)(ho:o.op= .call { callee:= .value<|.func f,args:=args.toArray,argTypes:=ts })
  {R:Ending->World->Prop}(hc:Calls P f (args.map a.eval).toArray w R)(hR:∀en w',R en w'->∃v,en= .returned v/\K (a.put o.dst v) w'):o.wp P a w K Q:=by
 unfold Oper.wp;have h1:execOp a.eval o=callFunc f (args.map a.eval).toArray:=by
  have ef:a.eval (.func f)= .func (.func f) #[] #[]:=rfl;unfold execOp;simp[ho,resolve,Deferred.ofValue,invoke,ef]
 rw[h1,hE];refine MX hc λen w' h=> ?_;obtain⟨v,rfl,hk⟩:=hR en w' h;exact hk
def adO:∀(ids:List Nat) (s:S),(ids.foldl S.kill s).gs=s.gs/\(ids.foldl S.kill s).n=s.n/\(ids.foldl S.kill s).pins=s.pins
 | [],_=>⟨rfl,rfl,rfl⟩
 | i::ids,s=>adO ids (s.kill i)
def akx(q:Bool)(ids:List Nat)(s:S):(G6 q ids s).gs=s.gs/\(G6 q ids s).n=s.n/\(G6 q ids s).pins=s.pins:=by
 cases q with
 | false=>exact⟨rfl,rfl,rfl⟩
 | true=>
  obtain⟨h1,h2,h3,_⟩:=bH ids s;exact⟨h1,h2,h3⟩
def axx{h:Sh}{x:LT h}{v:Value}{os:List (Value×Nat)}(ht:iq h=A1)(hr:Rel P w M e h x v os):(BE E H b h x).2.2=b+os.length:=by
 by_cases hh:IN h=A1
 .exact uy h H b x v os hh hr
 .cases h<;>first|(exact absurd ht hh;done)|skip
  case agg l=>
   obtain⟨us,rfl,h1⟩:=hr;have un:BE E H b (.agg l) x=(match Ai E H b l x with|(cs,H,b)=>(AV.agg cs,H,b)):=rfl;have:=YQ (E:=E) l H b x us os ht h1;rw[un];generalize Ai E H b l x=r at *;exact this
  case arr k=>
   obtain⟨rfl,h1⟩:=hr;rfl
def ry:∀ {l:List Sh} {H:Hp} {b:Nat} {x:LTs l} {us:List Value} {os:List (Value×Nat)},JZ l=A1->CO P w M e l x us os->(Ai E H b l x).2.2=b+os.length
 | [],H,b,x,us,os,_,hr=>by obtain⟨_,rfl⟩:=hr;rfl
 | h::l,H,b,x,us,os,hl,hr=>by
  obtain⟨u,us',o1,o2,rfl,rfl,h1,h2⟩:=hr;simp only[JZ,AI]at hl;have un:Ai E H b (h::l) x=(match BE E H b h x.1 with|(c,H,b)=>match Ai E H b l x.2 with|(cs,H,b)=>(c::cs,H,b)):=rfl;have k:=axx (E:=E) (H:=H) (b:=b) hl.1 h1;rw[un];generalize BE E H b h x.1=r at *;obtain⟨c,H',b'⟩:=r;have k:b'=b+o1.length:=k;subst k;have k2:=ry (H:=H') (b:=b+o1.length) hl.2 h2;simp only;generalize Ai E H' (b+o1.length) l x.2=r at *;obtain⟨cs,H'',b''⟩:=r;have k2:b''=_:=k2;simp[k2,Ct]
def ay2{O:Nat->Prop}(hg:OF B.P B.w0 B.O)(hs:Hs B β H w)(hO:∀b,O b->MB β b):OF B.P w O:=by
 obtain⟨w0,h1,h2⟩:=hg;refine⟨w0,h1,λb hb=> ?_⟩;obtain⟨h3,h4,h5⟩:=h2 b hb;exact⟨λh=>(hs.old b<|hO b h).1.elim h3 J,Gd h4 hs.size,(hs.block b h4 h3).trans h5⟩
def alU{m:DK}{f:FuncId}(hS:Gs B.P f m)(hk:okQ B.P m=A1){d:Option Nat}{as:List Operand}{o:Oper}{ts:Array TypeId}{K:Act->World->Prop}{Q:Exit->Act->World->Prop}
  (hst:St B β stk s a w)(hfr:∀j,b<=j->j<b+16->s.H j=U)(hd:s.has d=A1)(he:Hu m s b d (as.map s.ev) I=I s')(hod:o.dst=d)(ho:o.op= .call { callee:= .value<|.func f,args:=as.toArray,argTypes:=ts })
  (hK:Ji B stk a d s' K):o.wp B.P a w K Q:=by
 simp only[okQ,AI,C0,KR]at hk;obtain⟨⟨hps,hrs⟩,hsm⟩:=hk;unfold Hu at he;simp only at he;split at he
 case h_2=>cases he
 rename_i x hx hnd;obtain⟨r,hr,he⟩:=Al.1 he;simp only[AI]at hnd;have Ou:=Wp hnd.1;generalize hcs:as.map s.ev=cs at *;generalize FX:as.map a.eval=args;have hlen:args.length=cs.length:=by rw[← hcs,← FX];simp
 have hrx:∀(i:Nat) (c:AV) (v:Value),cs[i]? =I c->args[i]? =I v->RX w β (BY a) c v:=λi c v h1 h2=>by
  rw[← hcs,D5]at h1;rw[← FX,D5]at h2;obtain⟨y,hy,rfl⟩:=Cz.1 h1;rw[hy]at h2;cases h2;exact hst.eval y
 have hpl:=Te hx;have rl:RL (R1 w β) cs args:=⟨hlen,λj c u h1 h2=>(hrx j c u h1 h2).MC (hpl c<|CZ h1).1 (hpl c<|CZ h1).2⟩;generalize hE:(fun(i:Nat)=>(cs[i]?).getD AV.un)=E at *;have aAv:∀ {t:Nat} {c:AV},cs[t]? =I c->E t=c:=λh=>by rw[← hE];simp[h]
 generalize hI:Bi s.H m.ps cs=ids at *;generalize hro:CK s.H m.ps cs=ro at *;generalize hfz:Cc s.H m.ps cs=fz at *;have azZ:ro.Sublist ids:=by rw[← hro,← hI];exact cj _ _
 have bC:∀i∈ro,Qw s.H i:=by rw[← hro];exact Wr _ _ _ hx
 have ZW:∀i∈fz,Qw s.H i:=by rw[← hfz];exact aK _ _ _ hx
 obtain⟨bc,bv,hFb,hba,aag,kS⟩:=aA4 (E:=E) hst.hs m.ps cs args x hps rl hx;rw[hI]at hba aag kS;rw[hro]at kS
 let Zc:Nat->Prop:=λbl=>MZ β bl/\bl ∉ Ax (ids.filterMap β)/\bl ∉ Ax (fz.filterMap β)
 have R:OG B β s.H w (λbl=>bl∈Ax (ids.filterMap β)\/Zc bl) E (ar args):={
  hs:=hst.hs
  hM:=λbl h=>h.elim (λh=> .inl<|UT h) (λh=>h.1)
  hE:=λt id z hEt=>by
   cases hc:cs[t]? with
   | none=>rw[← hE]at hEt;simp[hc]at hEt
   | some c=>
    have hlt:t<args.length:=by rw[hlen];exact(BM.1 hc).1
    rw[aAv hc];exact rl.2 t c _ hc (by simp[ar,hlt]) }
 have ay8:Po β (λbl=>bl∈Ax (ids.filterMap β)\/Zc bl) fz:=λi hi p a' hp ha hm=>by
  obtain hm|hm:=hm
  .exact lL hst.hs hnd.2 i hi p a' hp ha (.inl hm)
  .exact hm.2.2<|GB.2 ⟨p,GB.2 ⟨i,hi,hp⟩,by simp[H6,ha]⟩
 obtain⟨os,E0,Fy⟩:=cU R m.ps cs args x rl hx (by rw[hfz];exact ay8);rw[hI]at Fy;have fy:(λbl=>bl∈Ax (ids.filterMap β)\/Zc bl)=λbl=>bl∈Ax os\/Zc bl:=by rw[Fy]
 rw[fy]at E0;have ah:∀bl∈Ax os,MB β bl:=λbl h=>by rw[Fy]at h;exact UT h
 have GH:=hS.2 x r hr w Zc args os E0 (by rw[Fy];exact df hst.hs Ou)
  (λbl h=>⟨(hst.hs.old bl<|ah bl h).2,λhz=>hz.2.1 (by rw[← Fy];exact h)⟩) (λbl h=>by
   obtain h1|h1:=h.1
   .exact(hst.hs.old bl h1).2
   .exact hst.hs.zl bl h1)
  (ay2 B.gl hst.hs λbl h=>ah bl h)
 rw[← FX]at GH;refine acj hS.1 ho GH ?_;rw[FX];rintro en w' ⟨v,rfl,IS⟩;refine⟨v,rfl, ?_⟩;rw[hod];obtain⟨vs,os1,os2,rfl,hr1,hr2,awO,hbl⟩:=IS.ex;obtain⟨β1,h1,hβ1,hZ1⟩:=St.yT (a:=a) (w:=w) (stk:=stk) ro (Ou.sublist azZ) hst;obtain⟨β2,h2,hβ2,hZ2⟩:=h1.asS (CG m.rs||CG (B1 m.ps)) fz;have Gi:=akx (CG m.rs||CG (B1 m.ps)) fz<|ro.foldl S.kill s;have eU:=adO ro s;have azy:∀ {id:Nat} {t:TypeId} {cs0:List AV},s.H id=I (.box t cs0)->∃cs1,(G6 (CG m.rs||CG (B1 m.ps)) fz<|ro.foldl S.kill s).H id=I (.box t cs1):=fun {id t cs0} hid=>by
  obtain⟨cs1,h⟩:=ve ro s (λhm=>bC id hm t cs0 hid) hid;exact apC _ fz _ (λhm=>ZW id hm.2 t cs0 hid) h
 have ajg:∀j,s.H j=U->(G6 (CG m.rs||CG (B1 m.ps)) fz<|ro.foldl S.kill s).H j=U:=λj hj=>
  (abC (N:=λ_=>False) (CG m.rs||CG (B1 m.ps)) fz<|BD.oD ro<|BD.refl _ s).nn j (λh=>h) hj
 generalize hq:(CG m.rs||CG (B1 m.ps))=q at *;generalize hs2:G6 q fz (ro.foldl S.kill s)=s2 at *;have dH:∀j p,β2 j=I p->β j=I p/\j ∉ ro/\ ¬(q=A1/\j∈fz):=λj p h=>by
  rw[hβ2]at h;split at h
  .cases h
  .rename_i hn;rw[hβ1]at h;split at h
   .cases h
   .rename_i hn';exact⟨h,hn',hn⟩
 have aAZ:∀bl,β2.Z bl↔β.Z bl\/ ∃i∈ro,∃p a,β i=I p/\adr p.1=I a/\a.block=bl:=λbl=>by rw[hZ2];exact hZ1 bl
 generalize hbc:FJ m.ps cs=bcT at *;generalize hbv:JK m.ps args=bvT at *;have hM2:∃M2:Nat->Prop,CO B.P w' M2 (ar args) m.rs r.1 vs os1/\CO B.P w' M2 (ar args) (B1 m.ps) r.2 bvT os2/\(q=A3->∀bl,M2 bl)/\(q=A1->∀bl,(bl∈Ax (os1++os2)\/Zc bl)->M2 bl):=by
  cases q with
  | false=>
   simp only[NO]at hq;exact⟨λ_=>True,CO.anyM _ _ _ _ hq.1 hr1,CO.anyM _ _ _ _ hq.2 hr2,λ_ _=>trivial,λh=>by cases h⟩
  | true=>exact⟨_,hr1,hr2,(by intro h;cases h),λ_ bl h=>h⟩
 obtain⟨M2,wz,ayX,hMf,hMt⟩:=hM2;generalize hg:BQ E s2.H b (B1 m.ps) bcT r.2=g at *;obtain⟨ds,H1,b1⟩:=g;simp only at he;generalize hmk:Ai E H1 b1 m.rs r.1=g at *;obtain⟨rc,Hf,b2⟩:=g;simp only at he;split at he
 case h_2=>cases he
 rename_i hb2;have hb2:=D8 hb2;cases he;have PE:b1<=b2:=by have:=Is E m.rs H1 b1 r.1;rw[hmk]at this;exact this
 have hgb:(BQ E s2.H b (B1 m.ps) bcT r.2).2.2<=b+16:=by rw[hg];exact C7 PE hb2
 have hdK:∀i∈EC bc,i ∉ ro/\i ∉ fz/\ ∃t cs0,s.H i=I (.box t cs0):=λi hi=>by
  obtain⟨z,hz⟩:=ab7 hi;obtain⟨j,hj⟩:=uD hz;obtain⟨v,_,id,z',bb,k1,_,⟨t,cs0,k3⟩,_,_⟩:=hba.get hj;cases k1;exact⟨λh=>bC i h _ _ k3,λh=>ZW i h _ _ k3,t,cs0,k3⟩
 have apT:Fb B.P w' s2.H (B1 m.ps) bcT bvT bc bv:=hFb.carry IS.pk λi hi t cs0 h0=>by
  obtain⟨k1,k2,_⟩:=hdK i hi;obtain⟨cs1,h3,h4⟩:=tB ro s k1 h0;obtain⟨cs2,h5,h6⟩:=apZ q fz (ro.foldl S.kill s) (λhm=>k2 hm.2) h3;rw[hs2]at h5;refine⟨cs2,h5,λid2 z2 c1 e hm=> ?_⟩;obtain⟨c2,e2⟩:=h4 id2 z2 c1 e (hdK id2 hm).1;exact h6 id2 z2 c2 e2 λhm'=>(hdK id2 hm).2.1 hm'.2
 obtain⟨nw,ahv,hb1,hgi⟩:=lA (E:=E) (P:=B.P) (w:=w') (M:=M2) (e:=ar args) (B1 m.ps) s2.H b r.2 bcT bc bvT bv os2 (b+16) apT (Ou.sublist aag)
  (λi hi hh=>by
   obtain⟨_,_,t,cs0,k3⟩:=hdK i hi;rw[hfr i hh.1 hh.2]at k3;cases k3) ayX hgb
 rw[hg]at hb1 hgi;simp only at hb1 hgi
 let os':=nw++os1
 let β3:Beta:=⟨λj=>if b<=j/\j<b+os'.length then os'[j - b]? else β2 j,B.Z⟩
 have T5:∀j p,β3 j=I p->(b<=j/\j<b+os'.length/\os'[j - b]? =I p)\/(¬(b<=j/\j<b+os'.length)/\β2 j=I p):=λj p h=>by
  have h:(if b<=j/\j<b+os'.length then os'[j - b]? else β2 j)=I p:=h;split at h
  .rename_i hh;exact .inl ⟨hh.1,hh.2,h⟩
  .rename_i hh;exact .inr ⟨hh,h⟩
 have Qp:Num β3 b os':=λi p hp=>by
  have hlt:=(BM.1 hp).1;show(if b<=b+i/\b+i<b+os'.length then os'[b+i - b]? else β2 (b+i))=I p;rw[A8 ⟨J,J⟩,show b+i - b=i by omega];exact hp
 have cy:(Ax os2).Perm (Ax nw++Ax (bv.map λv=>(v,1))):=by
  have:=ahv.filterMap H6;rwa[MI]at this
 have TL:∀bl,bl∈Ax os'->bl∈Ax (os1++os2):=λbl h=>by
  simp only[os',Ax,MI,Bk]at h ⊢;obtain h|h:=h
  .exact .inr (cy.mem_iff.2<|C5 _ h)
  .exact .inl h
 have Vp:(Ax os'++Ax (bv.map λv=>(v,1))).Nodup:=by
  have h1:(Ax<|os1++os2).Perm (Ax os'++Ax (bv.map λv=>(v,1))):=by
   simp only[os',Ax,MI]at cy ⊢;refine(Xd _ cy).trans ?_;rw[← C2];exact List.Perm.append_right _ List.perm_append_comm
  exact h1.nodup_iff.1 awO
 have aka:(Ax os').Nodup:=(LY.1 Vp).1;have eP:∀i,i∈ids->i ∉ ro->∃v,(v,1)∈bv.map (λv=>(v,1))/\β i=I (v,1)/\(∃z,AV.ptr i z 0 0∈bc):=λi hi hn=>by
  rcases kS i hi with h|⟨z,h⟩
  .exact absurd h hn
  .obtain⟨j,hj⟩:=uD h;obtain⟨v,hv,id,z',bb,k1,k2,k3,k4,k5⟩:=hba.get hj;cases k1;exact⟨v,DF.2 ⟨v,CZ hv,rfl⟩,k4,z,h⟩
 have kQ:∀j p a',β2 j=I p->adr p.1=I a'->a'.block∈Ax os->j∈ids/\j ∉ ro:=λj p a' hj ha hm=>by
  obtain⟨h0,h1,_⟩:=dH j p hj;rw[Fy]at hm;obtain⟨i,hi,p',a2,hp',ha',e'⟩:=Lr hm;have:=hst.hs.inj j i p p' a' a2 h0 hp' ha ha' e'.symm;subst this;exact⟨hi,h1⟩
 have aaI:∀bl,bl∈Ax os->MZ β2 bl:=λbl hm=>by
  have hm':=hm;rw[Fy]at hm;obtain⟨i,hi,p,a',hp,ha,e'⟩:=Lr hm;by_cases hr:i∈ro
  .exact .inr ((aAZ bl).2<|.inr ⟨i,hr,p,a',hp,ha,e'⟩)
  .refine .inl ⟨i,p.1,p.2,a', ?_,ha,e'⟩;have hnf:i ∉ fz:=λhf=>abI hnd.2 i hf hi;rw[hβ2,AD λh=>hnf h.2,hβ1,AD hr];exact hp
 have pJ:∀bl,MB β3 bl->MB β2 bl\/bl∈Ax os':=λbl hm=>by
  obtain⟨j,hd',n,a',hj,ha,e'⟩:=hm;rcases T5 j _ hj with⟨_,_,hj⟩|⟨_,hj⟩
  .exact .inr (GB.2 ⟨_,CZ hj,by simp[H6,ha,e']⟩)
  .exact .inl ⟨j,hd',n,a',hj,ha,e'⟩
 have Cg:∀bl o v,¬MZ β2 bl->w.cell? ⟨bl,o,U⟩=I v->w'.cell? ⟨bl,o,U⟩=I v:=λbl o v hn hc=>by
  have hlt:=block_lt_of_cell hc;rw[SV (w:=w) (w':=w')<|IS.block bl hlt λhm=>hn<|aaI bl hm];exact hc
 have asp:∀bl,¬MZ β2 bl->bl<w.heap.size->¬MZ β3 bl:=λbl hn hlt hm=>by
  obtain hm|hm:=hm
  .rcases pJ bl hm with h|h
   .exact hn (.inl h)
   .rcases(hbl bl<|TL bl h).1 with h3|h3
    .exact hn (aaI bl h3)
    .omega
  .exact hn<|.inr<|(aAZ bl).2<|.inl (by rw[hst.hs.z];exact hm)
 have XS:∀j p,β2 j=I p->β3 j=I p:=λj p hj=>by
  have hne:¬(b<=j/\j<b+os'.length):=λhh=>by
   have av6:os'.length=nw.length+os1.length:=by simp[os']
   have h3:=(hgi:_);obtain⟨ob,hob⟩:=h2.hs.dom j p hj;have:=ajg j (hfr j hh.1 (by
    have:b2=b1+os1.length:=by
     have:=ry hrs wz (E:=E) (H:=H1) (b:=b1);rw[hmk]at this;exact this
    omega))
   rw[this]at hob;cases hob
  show(if b<=j/\j<b+os'.length then os'[j - b]? else β2 j)=I p;rw[AD hne];exact hj
 have hkp:Kp w β2 w' β3:=λc v hc=>hc.mono XS Cg asp;have hM3:∀bl,MZ β3 bl->M2 bl:=λbl hm=>by
  cases q with
  | false=>exact hMf rfl bl
  | true=>
   refine hMt rfl bl ?_;obtain hm|hm:=hm
   .rcases pJ bl hm with h|h
    .obtain⟨j,hd',n,a',hj,ha,e'⟩:=h;obtain⟨k1,k2,k3⟩:=dH j _ hj;by_cases hji:j∈ids
     .obtain⟨v,hv1,hv2,_⟩:=eP j hji k2;rw[k1]at hv2;cases hv2;refine .inl ?_;simp only[Ax,MI,Bk];refine .inr (cy.mem_iff.2<|Ch _<|GB.2 ⟨_,hv1,by simp[H6,ha,e']⟩)
     .refine .inr ⟨.inl ⟨j,hd',n,a',k1,ha,e'⟩,λhb=> ?_,λhb=> ?_⟩
      .rw[← Fy,← e']at hb;exact hji (kQ j _ a' hj ha hb).1
      .obtain⟨i,hi,p,a2,hp,ha2,e2⟩:=Lr hb;have:=hst.hs.inj j i _ p a' a2 k1 hp ha ha2<|e'.trans e2.symm;subst this;exact k3 ⟨rfl,hi⟩
    .exact .inl (TL bl h)
   .have hz:β.Z bl:=by rw[hst.hs.z];exact hm
    refine .inr ⟨.inr hz,λhb=> ?_,λhb=> ?_⟩
    .obtain⟨i,hi,p,a2,hp,ha2,e2⟩:=Lr hb;exact hst.hs.zn i p a2 hp ha2 (e2▸hz)
    .obtain⟨i,hi,p,a2,hp,ha2,e2⟩:=Lr hb;exact hst.hs.zn i p a2 hp ha2<|e2▸hz
 obtain⟨g1,g2,g3,g4⟩:=hgi β3 hM3 Qp.left (λi c v k1 k2 id z hc=>by
  obtain⟨id',z',bb,j1,j2,j3,j4,j5⟩:=hba.2 i c v k1 k2;rw[hc]at j1;cases j1;refine XS id _ ?_;have hnr:id ∉ ro:=λh=>bC id h _ _ j3.choose_spec.choose_spec;have hnf:id ∉ fz:=λh=>ZW id h _ _ j3.choose_spec.choose_spec;rw[hβ2,AD λh=>hnf h.2,hβ1,AD hnr];exact j4)
 have an4:Tl w' β3 E (ar args) (IP m.rs):=λt ht=>by
  obtain⟨p,hp1,hp2⟩:=hsm t ht;obtain rfl:=Bm hp2;obtain⟨_,e1,l1,hp3⟩:=acS m.ps 0 p hp1;rw[JR]at hp3;obtain⟨c,y,hc,hy⟩:=qi hx hp3;have hlt:p<args.length:=by rw[hlen];exact(BM.1 hc).1
  have hR:=rl.2 p c (ar args p) hc (by simp[ar,hlt]);rw[aAv hc];cases c<;>first|(cases hy;done)|skip
  rename_i id z i' o';cases i'<;>cases o'<;>simp only[Bl]at hy<;>first|(cases hy;done)|skip
  split at hy
  case h_2=>cases hy
  rename_i t' cs' hid;have hnr:id ∉ ro:=λh=>bC id h _ _ hid;have hnf:id ∉ fz:=λh=>ZW id h _ _ hid;have hR:=hR.Qr;generalize ar args p=v at hR;cases hR with
  | ptr k1 k2 k3=>exact .MD<|.ptr (XS id _ (by rw[hβ2,AD λh=>hnf h.2,hβ1,AD hnr];exact k1)) k2 k3
 obtain⟨f1,f2,f3⟩:=cf (β:=β3) (E:=E) (M:=M2) (P:=B.P) (w:=w') (e:=ar args) hM3 m.rs H1 b1 r.1 vs os1 hrs wz (by rw[hb1];exact Qp.right) an4;rw[hmk]at f1 f2 f3;simp only at f1 f2 f3;have av6:os'.length=nw.length+os1.length:=by simp[os']
 have aAt:∀j,(∃ob,Hf j=I ob/\Dt B.P w' β3 j ob)\/(Hf j=s2.H j/\ ∀z,AV.ptr j z 0 0 ∉ bc):=λj=>by
  by_cases hj:b1<=j/\j<b1+os1.length
  .exact .inl (f3.2 j hj.1 hj.2)
  .have e1:Hf j=H1 j:=f3.1 j J;rcases g1 j with h|⟨ob,h,h'⟩
   .by_cases hm:∃z,AV.ptr j z 0 0∈bc
    .obtain⟨z,hm⟩:=hm;obtain⟨ob,h3,h4⟩:=g3 j z hm;exact .inl ⟨ob,by rw[e1];exact h3,h4⟩
    .exact .inr ⟨e1.trans h,λz hz=>hm ⟨z,hz⟩⟩
   .exact .inl ⟨ob,by rw[e1];exact h,h'⟩
 have hHf:Hs B β3 Hf w':={
  E4:=λj ob hj=>by
   rcases aAt j with⟨ob',h3,h4⟩|⟨h3,h4⟩
   .rw[h3]at hj;cases hj;exact h4
   .rw[h3]at hj;have hob:=h2.hs.E4 j ob hj;have hex:∃p,β2 j=I p:=by
     cases ob with
     | box e cs=>obtain⟨_,_,h,_⟩:=hob;exact⟨_,h⟩
     | row e fz k xs=>obtain⟨_,h,_⟩:=hob;exact⟨_,h⟩
     | arr e k xs=>obtain⟨_,_,h,_⟩:=hob;exact⟨_,h⟩
    obtain⟨p,hp⟩:=hex;refine hob.mono (by rw[XS j p hp,hp]) hkp λp' a' hp' ha'=> ?_;rw[hp]at hp';cases hp';have hlt:=(h2.hs.old a'.block ⟨j,p.1,p.2,a',hp,ha',rfl⟩).2;refine IS.block a'.block hlt λhm=> ?_;obtain⟨h5,h6⟩:=kQ j p a' hp ha' hm;obtain⟨_,_,_,z,hz⟩:=eP j h5 h6;exact h4 z hz
  dom:=λj p hj=>by
   rcases aAt j with⟨ob',h3,_⟩|⟨h3,_⟩
   .exact⟨ob',h3⟩
   .rcases T5 j p hj with⟨k1,k2,k3⟩|⟨_,hj⟩
    .by_cases hjb:j<b+nw.length
     .obtain⟨ob,k4,_⟩:=g2 j k1 hjb;have:Hf j=H1 j:=f3.1 j J;exact⟨ob,by rw[this];exact k4⟩
     .obtain⟨ob,k4,_⟩:=f3.2 j J J;exact⟨ob,k4⟩
    .obtain⟨ob,k4⟩:=h2.hs.dom j p hj;exact⟨ob,by rw[h3];exact k4⟩
  inj:=λi j p p' a1 a2 hi hj ha1 ha2 hb=>by
   have VP:∀(i j:Nat) (p p':Value×Nat) (a1 a2:Addr),β2 i=I p->os'[j - b]? =I p'->adr p.1=I a1->adr p'.1=I a2->a1.block=a2.block->False:=by
    intro i j p p' a1 a2 hi hj ha1 ha2 hb;have hm2:a2.block∈Ax os':=GB.2 ⟨p',CZ hj,by simp[H6,ha2]⟩;rcases(hbl a2.block<|TL _ hm2).1 with h3|h3
    .rw[← hb]at h3;obtain⟨h5,h6⟩:=kQ i p a1 hi ha1 h3;obtain⟨v,hv1,hv2,_⟩:=eP i h5 h6;rw[(dH i p hi).1]at hv2;cases hv2;have hm1:a1.block∈Ax (bv.map λv=>(v,1)):=GB.2 ⟨_,hv1,by simp[H6,ha1]⟩;exact(LY.1 Vp).2.2 _ hm2 _ hm1 hb.symm
    .have:=(h2.hs.old a1.block ⟨i,p.1,p.2,a1,hi,ha1,rfl⟩).2;omega
   rcases T5 i p hi with⟨i1,i2,i3⟩|⟨_,i3⟩<;>rcases T5 j p' hj with⟨j1,j2,j3⟩|⟨_,j3⟩
   .have:=Xt aka (i - b) (j - b) p p' a1 a2 i3 j3 ha1 ha2 hb;omega
   .exact(VP j i p' p a2 a1 j3 i3 ha2 ha1 hb.symm).elim
   .exact(VP i j p p' a1 a2 i3 j3 ha1 ha2 hb).elim
   .exact h2.hs.inj i j p p' a1 a2 i3 j3 ha1 ha2 hb
  old:=λbl hm=>by
   rcases pJ bl hm with h|h
   .exact⟨(h2.hs.old bl h).1,Gd (h2.hs.old bl h).2 IS.size⟩
   .have h3:=hbl bl<|TL bl h;refine⟨?_,h3.2⟩;obtain h4|h4:=h3.1
    .exact(hst.hs.old bl<|ah bl h4).1
    .exact .inr (C7 hst.hs.size h4)
  os:=IS.wos.trans hst.hs.os
  tape:=IS.tape.trans hst.hs.tape
  output:=IS.output.trans hst.hs.output
  size:=C7 hst.hs.size IS.size
  block:=λbl hlt hO=>by
   rw[IS.block bl (Gd hlt hst.hs.size) λhm=> ?_]
   .exact hst.hs.block bl hlt hO
   .rcases(hst.hs.old bl<|ah bl hm).1 with h|h
    .exact hO h
    .omega
  z:=rfl
  zn:=λj p a' hj ha hz=>by
   rcases T5 j p hj with⟨_,_,j3⟩|⟨_,j3⟩
   .have hm2:a'.block∈Ax os':=GB.2 ⟨p,CZ j3,by simp[H6,ha]⟩;rcases(hbl a'.block<|TL _ hm2).1 with h3|h3
    .rw[Fy]at h3;obtain⟨i,hi,p2,a2,hp2,ha2,e2⟩:=Lr h3;exact hst.hs.zn i p2 a2 hp2 ha2 (by rw[e2,hst.hs.z];exact hz)
    .have:=hst.hs.zl a'.block (by rw[hst.hs.z];exact hz);omega
   .exact hst.hs.zn j p a' (dH j p j3).1 ha (by rw[hst.hs.z];exact hz)
  zl:=λbl hz=>Gd (hst.hs.zl bl (by rw[hst.hs.z];exact hz)) IS.size
  pk:=hst.hs.pk.trans IS.pk }
 have mv:St B β3 stk { s2 with H:=Hf } a w':=by
  refine⟨λt=>RT.mono hkp<|h2.T t,⟨h2.stack.1,λi T tm k1 k2 t=>RT.mono hkp<|h2.stack.2 i T tm k1 k2 t⟩,h2.n,h2.defers,h2.pins,h2.gs,hHf⟩
 have EJ:({ s2 with H:=Hf } :S).has d=A1:=by
  have:({ s2 with H:=Hf } :S).has d=s.has d:=Q0 (Gi.1.trans eU.1) (Gi.2.1.trans eU.2.1) (Gi.2.2.trans eU.2.2) d;rw[this];exact hd
 exact hK β3 (Ma vs) w'<|Rl mv EJ<|acQ f1
end
end Go.VS
namespace Go.VS
open Go
section
variable {B:Bc} {β β':Beta} {H:Hp} {w w':World} {stk:List (Array Value)} {s s':S} {a:Act} {P:Program} {C:Cx}
def fE(hΓ:∀f d m,C.Γ f d=I m->Gs P f m/\okQ P m=A1)(B:Bc)(hB:B.P=P):HE C B:=by
 intro f d m hm β stk s a w b as s' o ts K Q hst hfr hd he hod ho hK;obtain⟨h1,h2⟩:=hΓ f d m hm;rw[← hB]at h1 h2;exact alU h1 h2 hst hfr hd he hod ho hK
def aap{c:AV}(h:plB c=A1):(∀g w v,c≠ .gd g w v)/\ ∀vs,c≠ .tup vs:=by
 constructor
 .rintro g w v rfl;cases h
 .rintro vs rfl;cases h
def ab4(hP:C.P=B.P)(hm:B.P.follows .mixedOrders=A1)(hC:HE C B):∀n,JD C B<|N0 C n
 | 0=>ab5 C B
 | n+1=>by
  intro Ω f d as s k q he β stk a w o args ts K Q hst hfr hd hod has ho hK;have ih:=ab4 hP hm hC n;unfold N0 at he;simp only at he;split at he
  .cases he
  rename_i fn hfn;split at he
  case h_2=>cases he
  rename_i body aav K0;split at he
  case h_2=>cases he
  rename_i ab6;simp only[AI]at ab6;obtain⟨⟨hc1,hc2⟩,hc3⟩:=ab6;have hpl:∀c∈as,(∀g w v,c≠ .gd g w v)/\ ∀vs,c≠ .tup vs:=λc hc=>aap<|C0.1 hc3 c hc;have hlen:as.length<=fn.ntmps:=D8 hc2;rw[hP]at hfn;refine acj (Nk hfn (by simpa using K0) aav) ho (R:=λen w'=>∃v,en= .returned v/\K (a.put o.dst v) w') ?_ (λen w' h=>h);refine calls_of_wp hfn aav ?_;have FX:(args.map a.eval).length=as.length:=by rw[has];simp
  have ayH:St B β (a.tmps::stk) { s with n:=fn.ntmps,T:=λt=>(as[t]?).getD DW,st:=s.T::s.st,pins:=[],gs:=λ_=>A3 }
    { tmps:=(args.map a.eval).toArray++Q6 (fn.ntmps - (args.map a.eval).toArray.size) undef,defers:=[] } w:=by
   refine⟨λt=> ?_,⟨by simp[hst.stack.1],λi T tm h1 h2 t=> ?_⟩, ?_,rfl,λt ht=>by simp at ht,λt g want y hy=> ?_,hst.hs⟩
   .rw[Ub];show RT w β _ ((as[t]?).getD DW) _;cases hv:as[t]? with
    | none=>
     have:(args.map a.eval).length<=t:=by rw[FX];exact bK.1 hv
     have e0:ar (args.map a.eval) t=undef:=by simp only[ar,BG,I0 this];rfl
     rw[e0];exact(show R2 w β DW undef from rfl)
    | some c=>
     have hv':=hv;rw[has,D5]at hv';obtain⟨x,hx,rfl⟩:=Cz.1 hv';have e0:ar (args.map a.eval) t=a.eval x:=by simp[ar,hx]
     rw[e0];have hp:=hpl _<|CZ hv;exact((hst.eval x).MC hp.1 hp.2).XT
   .cases i with
    | zero=>
     simp at h1 h2;subst h1;subst h2;exact hst.T t
    | succ i=>exact hst.stack.2 i T tm (by simpa using h1) (by simpa using h2) t
   .simp only[Qy,Kc,ik];omega
   .have hy:(as[t]?).getD DW= .gd g want y:=hy;cases hv:as[t]? with
    | none=>rw[hv]at hy;cases hy
    | some c=>
     rw[hv]at hy;exact absurd hy<|(hpl c<|CZ hv).1 _ _ _
  have key:∀β' a' w' s',St B β' (a.tmps::stk) s' a' w'->Fr s'->(match s'.st,Rb C.P s' fn.results.toList with
     | T::st,I vs=>match vs.all plB with
      | true=>k ({ s' with n:=s.n,T:=λt=>PU<|T t,st:=st,pins:=s.pins,gs:=λ_=>A3 }.put d<|Lk vs)
      | false=>U
     | _,_=>U)=I q->a'.defers=[]/\ ∃v,(results fn a'.tmps).run B.P w'= .ok v w'/\ ∃v',Ending.returned v= .returned v'/\K (a.put o.dst v') w':=by
   intro β' a' w' s' h1 h2 h3;refine⟨h1.defers, ?_⟩;split at h3
   case h_2=>cases h3
   rename_i T st vs MG hvs;split at h3
   case h_2=>cases h3
   rename_i Du;obtain⟨us,k1,k2,k3⟩:=cZ hP h1 fn.results.toList hvs;rw[hP]at k1;refine⟨Ma us,sr k1,Ma us,rfl, ?_⟩;rw[hod];have rl:RL (R1 w' β') vs us:=⟨k2,λj c u e1 e2=>by
    have hp:=aap<|C0.1 Du c<|CZ e1;exact(k3 j c u e1 e2).MC hp.1 hp.2⟩
   have Qx:=h1.stack;rw[MG]at Qx;have hTt:∀t,RT w' β' (BY a) (T t) (BY a t):=λt=>Qx.2 0 T a.tmps rfl rfl t;have ayI:St B β' stk { s' with n:=s.n,T:=λt=>PU<|T t,st:=st,pins:=s.pins,gs:=λ_=>A3 } a w':=by
    refine⟨λt=> ?_,⟨by simpa using Qx.1,λi T' tm e1 e2 t=>Qx.2 (i+1) T' tm (by simpa using e1) (by simpa using e2) t⟩,hst.n,hst.defers,hst.pins,λt g want y hy=> ?_,h1.hs⟩
    .have:=hTt t;show RT w' β' _ (PU<|T t) _;cases hT:T t<;>rw[hT]at this<;>first|exact this|trivial
    .have hy:PU (T t)= .gd g want y:=hy;unfold PU at hy;split at hy
     .cases hy
     .rename_i hn;exact absurd hy<|hn _ _ _
   have EJ:({ s' with n:=s.n,T:=λt=>PU<|T t,st:=st,pins:=s.pins,gs:=λ_=>A3 } :S).has d=A1:=by
    cases d with
    | none=>rfl
    | some d=>
     simp only[S.has,AI,Df]at hd ⊢;exact⟨hd.1,trivial⟩
   refine hK β' (Ma us) w' _ (Rl ayI EJ<|acQ rl) (λj hj=> ?_) ?_ ?_ h3
   .have hj:s'.nid<=j:=by cases d<;>exact hj
    have:=h2 j hj;cases d<;>exact this
   .cases d<;>rfl
   .cases d<;>rfl
  refine Xs hP hm hC ih body .nil _ _ q he ayH hfr (Fc _ body) ⟨?_, ?_, ?_⟩
  .exact λβ' a' w' s' h1 h2 _ _ h5=>key β' a' w' s' h1 h2 h5
  .exact λβ' a' w' s' h1 h2 _ _ h5=>key β' a' w' s' h1 h2 h5
  .intro id β' a' w' s' h1 h2 h3 h4 h5;cases h5
end
def Be{A R:Type}(t:(A->Option R)->A->Option R):Nat->A->Option R
 | 0=>λ_=>U
 | n+1=>t (Be t n)
open Classical in
def O6 {A R:Type} (t:(A->Option R)->A->Option R) (x:A):Option R:=
 if h:∃n r,Be t n x=I r then I (OB<|Ig h) else U
def xB{A R:Type}{t:(A->Option R)->A->Option R}{x:A}{r:R}(h:O6 t x=I r):∃n,Be t n x=I r:=by
 unfold O6 at h;split at h
 .rename_i hn;have:=Ig<|Ig hn;cases h;exact⟨_,this⟩
 .cases h
def aq4{P:Program}{f:FuncId}{ps rs:List Sh}{t:(LTs ps->Option (LTs rs×LTs (B1 ps)))->LTs ps->Option (LTs rs×LTs (B1 ps))}(he:MJ P f)
  (h:∀g,Gs P f ⟨ps,rs,g⟩->Gs P f ⟨ps,rs,t g⟩):Gs P f ⟨ps,rs,O6 t⟩:=by
 have hn:∀n,Gs P f ⟨ps,rs,Be t n⟩:=by
  intro n
  induction n with
  | zero=>exact⟨he,λx r hx=>by cases hx⟩
  | succ n ih=>exact h _ ih
 refine⟨he,λx r hx=> ?_⟩;obtain⟨n,hx⟩:=xB hx;intro w Z args os h1 h2 h3 h4 h5;exact MX ((hn n).2 x r hx w Z args os h1 h2 h3 h4 h5) λen w' ⟨v,e,hr⟩=>⟨v,e,⟨hr.ex,hr.wos,hr.tape,hr.output,hr.size,hr.block,hr.pk⟩⟩
end Go.VS
namespace Go.VS
open Go
def gam:List (Nat×Option Nat×DK)->Nat->Option Nat->Option DK
 | [],_,_=>U
 | (f,e,m)::l,g,d=>match Ag f g&&(match e,d with
   | none,_=>A1
   | some a,I b=>Ag a b
   | some _,U=>A3) with
  | true=>I m
  | false=>gam l g d
def ND(P:Program)(l:List (Nat×Option Nat×DK)):Prop:=∀e∈l,Gs P e.1 e.2.2/\okQ P e.2.2=A1
def AJ{P:Program}:ND P []:=λe h=>by cases h
def jF{P:Program}{l:List (Nat×Option Nat×DK)}(h:ND P l):∀f d m,gam l f d=I m->Gs P f m/\okQ P m=A1:=by
 induction l with
 | nil=>intro f d m hm;cases hm
 | cons e l ih=>
  obtain⟨g,e,m'⟩:=e;intro f d m hm;unfold gam at hm;split at hm
  .rename_i hc;simp only[AI]at hc;cases hm;obtain rfl:=Bm hc.1;exact h _ An
  .exact ih (λe he=>h e<|Aj _ he) f d m hm
def FI:Code->Adv->List (Code×Loop)
 | .seq a b,.join _ u v=>FI a u++FI b v
 | .seq a b,.two u v=>FI a u++FI b v
 | .seq a _,.one u=>FI a u
 | .cond _ x _,.one u=>FI x u
 | .cond _ x y,.two u v=>FI x u++FI y v
 | .cond _ x y,.join _ u v=>FI x u++FI y v
 | .block _ c,.one u=>FI c u
 | .block _ c,.two u _=>FI c u
 | .block _ c,.join _ u _=>FI c u
 | .loop c,.loop l=>[(c,l)]
 | _,_=>[]
def IC{L:Code->Loop->Prop}:∀(c:Code) (v:Adv),(∀p∈FI c v,L p.1 p.2)->HP L c v
 | .seq a b,.join _ u v,h=>⟨IC a u λp hp=>h p<|C5 _ hp,IC b v λp hp=>h p<|Ch _ hp⟩
 | .seq a b,.two u v,h=>⟨IC a u λp hp=>h p<|C5 _ hp,IC b v λp hp=>h p<|Ch _ hp⟩
 | .seq a b,.one u,h=>⟨IC a u h,Fc L b⟩
 | .seq a b,.nil,_=>⟨Fc L a,Fc L b⟩
 | .seq a b,.loop _,_=>⟨Fc L a,Fc L b⟩
 | .cond _ x y,.one u,h=>⟨IC x u h,Fc L y⟩
 | .cond _ x y,.two u v,h=>⟨IC x u λp hp=>h p<|C5 _ hp,IC y v λp hp=>h p<|Ch _ hp⟩
 | .cond _ x y,.join _ u v,h=>⟨IC x u λp hp=>h p<|C5 _ hp,IC y v λp hp=>h p<|Ch _ hp⟩
 | .cond _ x y,.nil,_=>⟨Fc L x,Fc L y⟩
 | .cond _ x y,.loop _,_=>⟨Fc L x,Fc L y⟩
 | .block _ c,.one u,h=>IC c u h
 | .block _ c,.two u _,h=>IC c u h
 | .block _ c,.join _ u _,h=>IC c u h
 | .block _ c,.nil,_=>Fc L c
 | .block _ c,.loop _,_=>Fc L c
 | .loop c,.loop l,h=>h (c,l) (by simp[FI])
 | .loop _,.nil,_=>trivial
 | .loop _,.one _,_=>trivial
 | .loop _,.two _ _,_=>trivial
 | .loop _,.join _ _ _,_=>trivial
 | .skip,_,_=>trivial
 | .region _ _ _,_,_=>trivial
 | .exit _,_,_=>trivial
 | .ret,_,_=>trivial
 | .rangeFunc _ _ _ _,_,_=>trivial
 | .scope _,_,_=>trivial
 | .label _,_,_=>trivial
 | .goto _,_,_=>trivial
 | .refuse _,_,_=>trivial
def Us(L:Code->Loop->Prop)(l:List (Code×Loop)):Prop:=∀p∈l,L p.1 p.2
def ym{L:Code->Loop->Prop}{c:Code}{v:Adv}{l:List (Code×Loop)}(h:FI c v=l)(hl:Us L l):HP L c v:=IC c v (by rw[h];exact hl)
def azD{L:Code->Loop->Prop}:Us L []:=λp h=>by cases h
def ayf{L:Code->Loop->Prop}{c:Code}{v:Loop}{l:List (Code×Loop)}(h:L c v)(hl:Us L l):Us L ((c,v)::l):=λp hp=>by
 rcases Bj.1 hp with rfl|hp
 .exact h
 .exact hl p hp
abbrev Ent:=Nat×Option Nat×DK
def SQ(P:Program)(e:Ent):Prop:=Gs P e.1 e.2.2/\okQ P e.2.2=A1
def gC{P:Program}{e:Ent}{l:List Ent}(h:SQ P e)(hl:ND P l):ND P (e::l):=λx hx=>by
 rcases Bj.1 hx with rfl|hx
 .exact h
 .exact hl x hx
def gCd{P:Program}{e:Ent}{d:Option Nat}{l:List Ent}(h:SQ P e)(hl:ND P l):ND P ((e.1,d,e.2.2)::l):=λx hx=>by
 rcases Bj.1 hx with rfl|hx
 .exact h
 .exact hl x hx
def inR:List (Nat×Nat)->Nat->Bool
 | [],_=>A3
 | (a,b)::l,n=>match Dn a n&&Dn n b with
  | true=>A1
  | false=>inR l n
structure OKC (P:Program) (C:Cx) (inl:(Ω:Type)->Inl Ω):Prop where
 p:C.P=P
 m:P.follows .mixedOrders=A1
 c:∀B:Bc,B.P=P->HE C B
 i:∀B:Bc,B.P=P->JD C B inl
def okc{P:Program}{kd:TypeId->Option K}{l:List Ent}{cz sp:Nat->Bool}(hm:P.follows .mixedOrders=A1)(h:ND P l):OKC P ⟨P,kd,gam l,cz,sp⟩ AF:=
 ⟨rfl,hm,λB hB=>fE (C:=⟨P,kd,gam l,cz,sp⟩) (jF h) B hB,λB _=>ab5 _ B⟩
def xD{P:Program}{kd:TypeId->Option K}{l:List Ent}{cz sp:Nat->Bool}(n:Nat)(hm:P.follows .mixedOrders=A1)(h:ND P l):OKC P ⟨P,kd,gam l,cz,sp⟩ (N0 ⟨P,kd,gam l,cz,sp⟩ n):=
 ⟨rfl,hm,λB hB=>fE (C:=⟨P,kd,gam l,cz,sp⟩) (jF h) B hB,λB hB=>ab4 (C:=⟨P,kd,gam l,cz,sp⟩) (B:=B) hB.symm (by rw[hB];exact hm) (fE (C:=⟨P,kd,gam l,cz,sp⟩) (jF h) B hB) n⟩
def LpK(P:Program)(n:Nat)(pins:List Nat)(ls:List (Code×Loop)):Prop:=∀B:Bc,B.P=P->Us (OH B n pins) ls
def kN{P:Program}{n:Nat}{pins:List Nat}:LpK P n pins []:=λ_ _=>azD
def kC{P:Program}{n:Nat}{pins:List Nat}{c:Code}{l:Loop}{ls:List (Code×Loop)}(h:LpK P n pins [(c,l)])(hl:LpK P n pins ls):LpK P n pins ((c,l)::ls):=λB hB=>ayf (h B hB (c,l) An)<|hl B hB
def lk{P:Program}{C:Cx}{inl:(Ω:Type)->Inl Ω}(hC:OKC P C inl){n:Nat}{pins:List Nat}{body:Code}{v:Adv}{l:Loop}{b:Lv l.sch->Option (Lv l.sch ⊕ (Lv l.Jv ⊕ Lv l.Jn))}{ls:List (Code×Loop)}
  (hb:∀x,evL C inl n pins body v l x=b x)(hr:l.run=AZ b)(h:FI body v=ls)(hl:LpK P n pins ls):LpK P n pins [(body,l)]:=λB hB p hp=>by
 obtain rfl:=DG.1 hp;exact auM (hC.p.trans hB.symm) (by rw[hB];exact hC.m) (hC.c B hB) (hC.i B hB) hb hr<|ym h<|hl B hB
def fnB(P:Program)(f:Nat)(fn:Func)(m:DK):Option Func×Bool×Bool×Bool:=(P.funcs[f]?, fn.name == "runtime.NumGoroutine",okM m fn.ntmps,okQ P m)
def so{P:Program}{C:Cx}{inl:(Ω:Type)->Inl Ω}{f:Nat}{d:Option Nat}{fn:Func}{m:DK}{v:Adv}{ls:List (Code×Loop)}(hC:OKC P C inl)
  (hf:fnB P f fn m=(I fn,A3,A1,A1))(hb:fn.body=I (L4 fn))(h:FI (L4 fn) v=ls)(hl:LpK P fn.ntmps (Dh 0 m.ps) ls)(hg:∀x,XX C inl fn v m x=m.g x):SQ P (f,d,m):=by
 simp only[fnB,CD]at hf;exact⟨ahd hC.p hC.m hC.c hC.i hf.1 hf.2.1 hb hf.2.2.1 (λB hB=>ym h<|hl B hB) hg,hf.2.2.2⟩
def soR{P:Program}{f:Nat}{d:Option Nat}{ps rs:List Sh}{t:(LTs ps->Option (LTs rs×LTs (B1 ps)))->LTs ps->Option (LTs rs×LTs (B1 ps))}(he:MJ P f)
  (hq:∀g,okQ P ⟨ps,rs,g⟩=A1)(h:∀g,SQ P (f,d,⟨ps,rs,g⟩)->SQ P (f,d,⟨ps,rs,t g⟩)):SQ P (f,d,⟨ps,rs,O6 t⟩):=
 ⟨aq4 he λg hg=>(h g ⟨hg,hq g⟩).1,hq _⟩
def OS(a b c d:Int)(e:A4)(a' b' c' d':Int)(e':A4):Bool:=A0 (a=a')&&(A0 (b=b')&&(A0 (c=c')&&(A0 (d=d')&&(A0 (e=e')&&A1))))
end Go.VS
end
