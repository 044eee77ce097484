/- Part 2. -/
import Derived.WalkKit
import Derived.Test.YtgjljlpdfceilaaGreatDoorQAA
import Derived.Laws.StructEq
import Derived.Laws.BytesArg
import Derived.Laws.MakeOwn
import Derived.Great.BuildSlice
import Derived.Lib.ConvBytes
open Array renaming eq_empty_of_size_eq_zero->aB8,getD_eq_getD_getElem?->TG,getElem?_append_left->Lx,getElem?_eq_some_iff->HE,getElem?_setIfInBounds_ne->aB7,getElem?_toList->TT,length_toList->F2,mem_append->Mx,range->TZ,size_append->QL,size_replicate->l9,toArray_toList->l8,toList_setIfInBounds->lH
open Bool renaming and_eq_true->AD,and_self->EZ,false->A0,false_and->AM,false_eq_true->Ha,false_or->Bq,not_eq_true'->CE,not_eq_true->GL,not_false->AG,not_true->AA,or_eq_true->C0,or_false->EY,or_self->GM,true->Y,true_and->AR,true_or->Bt
open ByteArray renaming data_extract->YT
open Decidable renaming decide->U
open Go renaming binOp->IB
open Go.Addr renaming add_lit->Gl
open Go.Builtin renaming append_->Lz,copy_->lC,firstCells->I7,lenOf->lB,len_->QN,nextslicecap->kt,zeroCells->Ly
open Go.ByteArray renaming toList_eq->aBF
open Go.Call renaming operands->Mz
open Go.Code renaming region->QZ
open Go.Instr renaming fill->N5,index->l4,indexAt->TO,loadAt->N4,sliceAt->QU,sliceBounds->QJ,storeAt->QV,sureAddr->JK
open Go.Op renaming eqFields->TL,operands->BU,stringOp->ky
open Go.Region renaming binds->Fj,ready->Oe,wanted->JQ
open Go.Result renaming andThen_ok->F3
open Go.Sem renaming run_bind->Ej,run_pure->Fl
open Go.Value renaming slice->lT
open Go.World renaming block_lt_of_cell?->TN,cell?->M0,cell?_of_block->TQ
open Int renaming le_refl->D0
open List renaming all_eq_true->DM,any_eq_true->KA,append_assoc->C3,append_nil->CK,append_of_mem->Ta,drop_drop->Il,drop_eq_nil_of_le->Lu,eq_nil_of_length_eq_zero->Du,flatMap_append->lF,flatMap_cons->Oa,foldl_append->G3,foldl_cons->Dr,foldl_nil->K7,getD_eq_getElem?_getD->B8,getElem?_append_left->I8,getElem?_append_right->F1,getElem?_cons_succ->aBI,getElem?_cons_zero->YP,getElem?_drop->Hb,getElem?_eq_getElem->Au,getElem?_eq_some_iff->BN,getElem?_map->D5,getElem?_range->Gh,getElem?_set_self->YS,getElem?_take->Gi,getElem?_toArray->TU,getElem_mem->Cg,length->JL,length->j8,length_append->Aq,length_cons->Bl,length_drop->EI,length_map->DL,length_nil->CR,length_take->Dg,map_congr_left->Gg,map_cons->DO,map_id'->ku,map_map->IE,map_nil->JM,mem_append->BL,mem_append_left->Bw,mem_append_right->CS,mem_cons->Bm,mem_cons_of_mem->Ai,mem_cons_self->Am,mem_filterMap->GO,mem_iff_getElem?->l5,mem_map->Bv,mem_of_getElem?->Cl,mem_of_mem_drop->Ku,mem_of_mem_take->I9,mem_range->Cs,mem_toArray->TV,nil_append->Eb,nodup_append->JR,nodup_cons->IC,pairwise_append->My,pairwise_cons->KB,pairwise_lt_range->QS,range->B7,replicate->BS,singleton_append->aB9,size_toArray->Kw,take_add_one->JP,take_left'->OY,toList_toArray->aBG,zipIdx_cons->lL
open List.cons renaming injEq->Lt
open Nat renaming add_assoc->D6,add_comm->N6,add_mul->EH,add_zero->He,beq->Af,beq_eq->HF,ble->Dq,div_lt_iff_lt_mul->aBA,eq_of_beq_eq_true->YU,land->Om,le_add_right->Yf,le_of_ble_eq_true->Da,le_refl->Ar,le_succ->lU,le_trans->CP,lor->BM,lt_of_lt_of_le->Gj,lt_or_gt_of_ne->TX,lt_succ_self->OX,min->F4,min_eq_left->QM,mod_eq_of_lt->OW,mod_lt->Og,mul_le_mul->l6,mul_le_mul_right->E6,ne_of_lt->Oh,one_mul->Ol,sub_mul->Yi,zero_add->DZ,zero_le->Cz,zero_mul->TY
open Ne renaming symm->L0
open Option renaming bind_eq_some_iff->Ag,bind_some->A6,map_eq_some_iff->DA,map_some->QW,none->G,some->I
open Option.some renaming inj->Ei,injEq->Bs
open Prod.mk renaming injEq->CL
set_option linter.all false
noncomputable section
namespace Go.VS
open Go
def RX(w:World)(β:Beta)(tm:Nat->Value):AV->Value->Prop
 | .gd g want x,v=>tm g= .bool want->R2 w β x v
 | c,v=>R2 w β c v
def RT.Zv{w:World}{β:Beta}{tm:Nat->Value}{c:AV}{v:Value}(h:RT w β tm c v):RX w β tm c v:=by
 cases c<;>first|exact h|exact h.1
def Good(B:Bb)(β:Beta)(H:Hp)(w:World)(b:Nat)(v:AV)(os:List Ob)(r:Result Next):Prop:=
 ∃u w' β',r= .ok (.value u) w'/\Hs B β' (Et H b os) w'/\Kp w β w' β'/\R2 w' β' v u
section
variable {P:Program} {B:Bb} {β:Beta} {H:Hp} {w:World} {b:Nat} {tm:Nat->Value}
def Good.same(hH:Hs B β H w){v:AV}{u:Value}{r:Result Next}(hr:r= .ok (.value u) w)(hv:R2 w β v u):Good B β H w b v [] r:=
 ⟨u,w,β,hr,hH,Kp.refl _ _,hv⟩
def O5{v v':AV}{c:Bool}{os:List Ob}(h:okN v=I (c,v',os)):v'=v/\c=Y/\os=[]/\ ∀g w x,v≠ .gd g w x:=by
 cases v<;>simp[okN,okA]at h<;>(obtain⟨rfl,rfl,rfl⟩:=h;exact⟨rfl,rfl,rfl,by simp⟩)
def DH{v v':AV}{c:Bool}{os:List Ob}(h:okA v=I (c,v',os)):v'=v/\c=Y/\os=[]:=by
 simp[okA]at h;obtain⟨rfl,rfl,rfl⟩:=h;exact⟨rfl,rfl,rfl⟩
def RX.of{c:AV}{v:Value}(h:RX w β tm c v)(hn:∀g w x,c≠ .gd g w x):R2 w β c v:=by
 cases c<;>first|exact h|exact absurd rfl (hn _ _ _)
def RX.lit{v' v:Value}(h:RX w β tm (.lit v') v):v=v':=h
def RX.agg{cs:List AV}{v:Value}(h:RX w β tm (.agg cs) v):∃us:List Value,v= .agg us.toArray/\RL (RC w β) cs us:=h
def RX.tup{cs:List AV}{v:Value}(h:RX w β tm (.tup cs) v):∃us:List Value,v= .tuple us.toArray/\RL (R1 w β) cs us:=h
def asI{ρ:Operand->AV}{η:Operand->Value}(hη:∀x,RX w β tm (ρ x)<|η x)(htm:∀g,η (.tmp g)=tm g)(hc:∀v,η (.const v)=v)(hH:Hs B β H w)
  {c x y:Operand}{q:Bool}{v:AV}{os:List Ob}(h:OS ρ c x y=I (q,v,os))(hq:q=Y){o:Oper}(ho:o.op= .pick c x y):Good B β H w b v os ((execOp η o).run P w):=by
 subst hq;have key:∀(p:Bool),ρ c= .lit (.bool p)->(execOp η o).run P w= .ok (.value<|if p then η x else η y) w:=by
  intro p hp;have hcv:η c= .bool p:=by have:=hη c;rw[hp]at this;exact this
  unfold execOp;rw[ho];simp[hcv,asBool]
 have acC:∀(want:Bool) (z:Operand) (r:Bool),Kn (QD want (ρ z) c)=I r->(η c= .bool want->η z= .bool r):=by
  intro want z r hr hcw;have hz:=hη z;cases hρ:ρ z with
  | gd g w' x'=>
   rw[hρ]at hr hz;unfold QD at hr;cases c with
   | tmp g'=>
    simp only[Ge]at hr;cases h1:Af g' g with
    | false=>rw[h1]at hr;simp[Kn]at hr
    | true=>
     obtain rfl:=Bk h1;cases h2:want == w' with
     | false=>rw[h1,h2]at hr;simp[Kn]at hr
     | true=>
      obtain rfl:want=w':=by simpa using h2
      rw[h1,h2]at hr;have hzz:=hz (by rw[← htm];exact hcw);cases x'<;>simp[Kn]at hr;rename_i vv;cases vv<;>simp at hr;subst hr;exact hzz
   | _=>simp[Kn]at hr
  | lit vv=>
   rw[hρ]at hr hz;have:Kn (AV.lit vv)=I r:=by
    unfold QD at hr;cases c<;>simpa[Ge] using hr
   cases vv<;>simp[Kn]at this;subst this;exact hz
  | _=>
   rw[hρ]at hr;unfold QD at hr;cases c<;>simp[Ge,Kn]at hr
 unfold OS at h;split at h
 .rename_i p hp;split at h
  .rename_i r hr;obtain⟨rfl,_,rfl⟩:=DH h;refine Good.same hH (key _ hp) ?_;have hcv:η c= .bool p:=by have:=hη c;rw[hp]at this;exact this
   cases p with
   | true=>simp only[A2,Bt];exact hc _
   | false=>simp only[Ha,if_false,Bq];exact acC A0 _ r hr hcv
  .split at h
   .obtain⟨rfl,_,rfl⟩:=DH h;refine Good.same hH (key _ hp) ?_;simp only[A2];exact hc _
   .obtain⟨rfl,_,rfl,hg⟩:=O5 h;refine Good.same hH (key _ hp) ?_;simp only[Ha,if_false];exact(hη _).of hg
 .rename_i p hp _;split at h
  .rename_i r hr;obtain⟨rfl,_,rfl⟩:=DH h;refine Good.same hH (key _ hp) ?_;have hcv:η c= .bool p:=by have:=hη c;rw[hp]at this;exact this
   cases p with
   | true=>simp only[A2,AR];exact acC Y _ r hr hcv
   | false=>simp only[Ha,if_false,AM];exact hc _
  .split at h
   .obtain⟨rfl,_,rfl,hg⟩:=O5 h;refine Good.same hH (key _ hp) ?_;simp only[A2];exact(hη _).of hg
   .obtain⟨rfl,_,rfl⟩:=DH h;refine Good.same hH (key _ hp) ?_;simp only[Ha,if_false];exact hc _
 .rename_i p hp _ _;split at h
  .obtain⟨rfl,_,rfl,hg⟩:=O5 h;refine Good.same hH (key _ hp) ?_;simp only[A2];exact(hη _).of hg
  .obtain⟨rfl,_,rfl,hg⟩:=O5 h;refine Good.same hH (key _ hp) ?_;simp only[Ha,if_false];exact(hη _).of hg
 .cases h
end
end Go.VS
namespace Go.VS
open Go
section
variable {P:Program} {B:Bb} {β:Beta} {H:Hp} {w:World} {b:Nat} {tm:Nat->Value}
def RC.ay2{k:K}{x:Tof k}{o:Nat}{v:Value}(h:RC w β (.ipt k x o) v):∃bb f us,v= .pointer (I ⟨bb,f+o,G⟩)/\RL (RC w β) (enc k x) us/\ ∀j u,us[j]? =I u->w.cell? ⟨bb,f+j,G⟩=I u:=by
 cases h with
 | @ipt _ _ _ bb f u hM hu hr=>
  refine⟨bb,f,(B7<|ks k).map u,rfl,⟨by simp[EN],λj c v hc hv=> ?_⟩,λj v hv=> ?_⟩
  .simp only[D5,DA]at hv;obtain⟨i,hi,rfl⟩:=hv;rw[Gh (by have:=(BN.1 hi).1;simpa using this)]at hi;cases hi;exact hr _ _ hc
  .simp only[D5,DA]at hv;obtain⟨i,hi,rfl⟩:=hv;have hlt:j<ks k:=by have:=(BN.1 hi).1;simpa using this
   rw[Gh hlt]at hi;cases hi;exact hu _ hlt
def Nt{i n s j:Nat}(hi:i<n)(hj:j<s):i * s+j<n * s:=by
 have:(i+1) * s<=n * s:=E6 _ hi;rw[EH]at this;omega
def FX.elem{e:TypeId}{fz:Bool}{k:K}{xs:List (Tof k)}{hd:Value}(h:FX w β e fz k xs hd){bb f:Nat}(ha:adr hd=I ⟨bb,f,G⟩){i:Nat}{x:Tof k}(hi:xs[i]? =I x):
  ∃us,RL (RC w β) (enc k x) us/\ ∀j u,us[j]? =I u->w.cell? ⟨bb,f+(i * ks k+j),G⟩=I u:=by
 obtain⟨rfl,_⟩|⟨b',f',cap,us,fr,hd',hh,hfr,hn,hc,hs,hr⟩:=h
 .cases ha
 .have ha':adr hd=I ⟨b',f',G⟩:=by rw[hd'];rfl
  rw[ha]at ha';cases ha';have hlt:i<xs.length:=(BN.1 hi).1;have Cn:∀j,j<ks k->f+(i * ks k+j)<us.size:=λj hj=>by
   have h1:=Nt hlt hj;have h2:xs.length * ks k<=cap * ks k:=E6 _ hn;omega
  refine⟨(B7<|ks k).map λj=>us.getD (f+(i * ks k+j)) undef,⟨by simp[EN],λj c v hc hv=> ?_⟩,λj v hv=> ?_⟩
  .simp only[D5,DA]at hv;obtain⟨q,hq,rfl⟩:=hv;have KJ:j<ks k:=by have:=(BN.1 hq).1;simpa using this
   rw[Gh KJ]at hq;cases hq;exact hr i x _ c _ hi hc (by simp[Cn _ KJ])
  .simp only[D5,DA]at hv;obtain⟨q,hq,rfl⟩:=hv;have KJ:j<ks k:=by have:=(BN.1 hq).1;simpa using this
   rw[Gh KJ]at hq;cases hq;rw[cell_of_row w bb _ us e fr hh];simp[Cn _ KJ]
def getD_some{α:Type}{xs:List α}{i:Nat}{d:α}(h:i<xs.length):xs[i]? =I (xs.getD i d):=by simp[h]
def aCU(hP:P=B.P)(hH:Hs B β H w){t:TypeId}{c v:AV}{a:Value}(hx:R2 w β c a)(h:Jp P H t c=I v):
  ∃u,(N4 t a).run P w= .ok u w/\R1 w β v u:=by
 unfold Jp at h;cases c<;>simp only at h<;>try cases h
 case ipt k x o=>
  obtain⟨bb,f,us,rfl,hl,hc⟩:=RC.ay2 hx;obtain⟨u,hu,hr⟩:=XB (P:=P) h hl hc;exact⟨u,by simpa[N4,JK] using hu,hr⟩
 case ptr id z i o=>
  have hx':RC w β (.ptr id z i o) a:=hx;cases hx' with
  | @ptr _ _ _ _ hd n bb f hβ ha hi=>
   cases hid:H id with
   | none=>rw[hid]at h;cases h
   | some ob=>
    have hob:=hH.EK id ob hid;rw[hid]at h;cases ob with
    | box e cs=>
     obtain⟨b',us,h1,h2,h3⟩:=hob;rw[hβ]at h1;obtain⟨rfl,rfl⟩:hd= .pointer (I ⟨b',0,G⟩)/\n=1:=by simpa using h1
     obtain⟨rfl,rfl⟩:b'=bb/\0=f:=by simpa[adr] using ha
     obtain rfl:i=0:=J
     simp only at h;obtain⟨u,hu,hr⟩:=XB (P:=P) (b:=b') (f:=0) h h3 (λj u hj=>by
      rw[cell_of_row w b' _ us e (0,0) h2];simpa using hj)
     refine⟨u, ?_,hr⟩;simpa[N4,JK] using hu
    | row e fz k xs=>
     obtain⟨hd',h1,h2⟩:=hob;rw[hβ]at h1;obtain⟨rfl,rfl⟩:hd=hd'/\n=xs.length:=by simpa using h1
     simp only at h;split at h
     .rename_i hb;obtain rfl:=Bk hb;obtain⟨us,hl,hc⟩:=h2.elem ha<|getD_some (d:=dfl k) hi;obtain⟨u,hu,hr⟩:=XB (P:=P) (b:=bb) (f:=f+i * ks k) h hl (λj u hj=>by
       have:=hc j u hj;rwa[← D6]at this)
      refine⟨u, ?_,hr⟩;simpa[N4,JK,D6] using hu
     .cases h
    | arr e k xs=>
     obtain⟨b',us,h1,hh,hsz,hce,hr⟩:=hob;rw[hβ]at h1;obtain⟨rfl,rfl⟩:hd= .pointer (I ⟨b',0,G⟩)/\n=xs.length:=by simpa using h1
     obtain⟨rfl,rfl⟩:b'=bb/\0=f:=by simpa[adr] using ha
     simp only at h;split at h
     .rename_i na ea hu;split at h
      .rename_i hb;simp only[AD]at hb;obtain rfl:=Bk hb.1;have h1:=Da hb.2;cases h;have hag:(isAgg e).run P w= .ok Y w:=by unfold isAgg;simp only[Ej,run_underlying hu,F3];rfl
       refine⟨.agg us, ?_,us.toList,by simp,by simpa using hsz,λi x j c u a1 a2 a3=>hr i x j c u a1 a2<|by simpa using a3⟩;have hr2:=run_loadCells_list (P:=P) w ⟨b',0,G⟩ us.toList (λj v hj=>by
        rw[Gl,cell_of_row w b' _ us e (0,0) hh];simpa using hj)
       simp only[F2,l8]at hr2;have hcs:P.cellsOf e=us.size:=by rw[hP];exact hce.symm
       simp only[N4,JK,loadVar,Ej,Fl,F3,hag,A2,Kb h1,hcs,TY,He,hr2]
      .cases h
     .split at h
      .rename_i hb;obtain rfl:=Bk hb;have hlt:∀j,j<ks k->i * ks k+j<us.size:=λj hj=>by rw[hsz];exact Nt hi hj
       have hx:=getD_some (d:=dfl k) hi;obtain⟨u,hu,hr'⟩:=XB (P:=P) (w:=w) (β:=β) (b:=b') (f:=i * ks k) (us:=(B7<|ks k).map λj=>us.getD (i * ks k+j) undef) h ⟨by simp[EN],λj c v hc hv=>by
        simp only[D5,DA]at hv;obtain⟨q,hq,rfl⟩:=hv;have KJ:j<ks k:=by have:=(BN.1 hq).1;simpa using this
        rw[Gh KJ]at hq;cases hq;exact hr i _ _ c _ hx hc<|by simp[hlt _ KJ]⟩ (λj v hv=>by
        simp only[D5,DA]at hv;obtain⟨q,hq,rfl⟩:=hv;have KJ:j<ks k:=by have:=(BN.1 hq).1;simpa using this
        rw[Gh KJ]at hq;cases hq;rw[cell_of_row w b' _ us e (0,0) hh];simp[hlt _ KJ])
       refine⟨u, ?_,hr'⟩;simpa[N4,JK,D6] using hu
      .cases h
end
end Go.VS
namespace Go.VS
open Go
section
variable {P:Program} {B:Bb} {β:Beta} {H:Hp} {w:World} {b:Nat} {tm:Nat->Value} {ρ:Operand->AV} {η:Operand->Value}
def aaD(v:Value):Za v=v.oneCell':=by cases v<;>rfl
def Wd{t:TypeId}{zs:List AV}(h:I0 P t=I zs):∃i z,P.info? t=I i/\i.zero=I z/\zs=z.cells.toList.map .lit/\ ∀v∈z.cells.toList,v.oneCell'=Y:=by
 unfold I0 at h;cases hi:P.info? t with
 | none=>rw[hi]at h;cases h
 | some i=>
  rw[hi]at h;cases hz:i.zero with
  | none=>simp[hz]at h
  | some z=>
   simp only[hz,A6]at h;split at h
   .rename_i ha;cases h;exact⟨i,z,rfl,hz,rfl,λv hv=>by rw[← aaD];exact DM.1 ha v hv⟩
   .cases h
def aDN{t:TypeId}{i:TypeInfo}{z:Value}(hi:P.info? t=I i)(hz:i.zero=I z):(zeroValue t).run P w= .ok z w:=by
 unfold zeroValue;simp[typeInfo,hi,hz]
def RL.lits(vs:List Value)(h:∀v∈vs,v.oneCell'=Y):RL (RC w β) (vs.map .lit) vs:=by
 refine⟨by simp,λj c u h1 h2=> ?_⟩;rw[D5,h2]at h1;cases h1;exact .lit<|h u<|Cl h2
def S6{c:AV}{cs:List AV}{v:Value}(h:Ga c=I cs)(hx:RX w β tm c v):RL (RC w β) cs v.cells.toList:=by
 have sc:∀x:AV,RC w β x v->cs=[x]->RL (RC w β) cs v.cells.toList:=by
  intro x hx e;subst e;have h1:=hx.one;have:v.cells= #[v]:=by cases v<;>first|rfl|cases h1
  rw[this];exact .cons hx .nil
 cases c<;>simp only[Ga]at h<;>try cases h
 case lit v'=>
  split at h
  all_goals try cases h
  all_goals try contradiction
  rename_i hn1 hn2 hn3 hn4 _;have e:v=v':=hx;subst e;refine sc _ (.lit ?_) rfl;cases v<;>first|rfl|simp_all
 case sl=>exact sc _ hx rfl
 case own=>exact sc _ hx rfl
 case ptr=>exact sc _ hx rfl
 case ipt=>exact sc _ hx rfl
 case agg=>obtain⟨us,rfl,hl⟩:=RX.agg hx;simpa[Value.cells] using hl
def RL.one{cs:List AV}{us:List Value}(h:RL (RC w β) cs us):∀v∈us,v.oneCell'=Y:=by
 intro v hv;obtain⟨j,hj⟩:=l5.1 hv;have hlt:j<cs.length:=by rw[← h.1];exact(BN.1 hj).1
 exact(h.2 j cs[j] v (by simp[hlt]) hj).one
def aaE(hH:Hs B β H w)(hb:H b=G)(t:TypeId){cs:List AV}{us:Array Value}(hl:RL (RC w β) cs us.toList){r:Result Next}
  (hr:r= .ok (.value<|.pointer<|I ⟨w.heap.size,0,G⟩) (w.alloc<|.cells us t))(n:Nat):Good B β H w b (.ptr b n 0 0) [.box t cs] r:=by
 obtain⟨β',h1,h2,h3,h4⟩:=hH.alloc hb us t (.box t cs) (.pointer<|I ⟨w.heap.size,0,G⟩) 1 ⟨w.heap.size,0,G⟩ rfl rfl
  (λβ' hj hid hk=>⟨w.heap.size,us,hid,heap_alloc_new w _,hl.mono hk⟩)
 refine⟨_,_,β',hr,h1,h2, ?_⟩;have:=RC.ptr (w:=w.alloc<|.cells us t) (β:=β') (id:=b) (sz:=n) (i:=0) (o:=0) h3 (b:=w.heap.size) (f:=0) rfl J;simpa[R2,R1] using this
def ar0(hH:Hs B β H w)(hb:H b=G){t:TypeId}{zs:List AV}(h:I0 P t=I zs){o:Oper}(ho:o.op= .alloc t):Good B β H w b (.ptr b zs.length 0 0) [.box t zs] ((execOp η o).run P w):=by
 obtain⟨i,z,hi,hz,rfl,h1⟩:=Wd h;refine aaE hH hb t (us:=z.cells) (RL.lits _ h1) ?_ _;unfold execOp;rw[ho];simp[Instr.alloc,aDN hi hz,newVar,newRow]
def avS(hη:∀x,RX w β tm (ρ x)<|η x)(hH:Hs B β H w)(hb:H b=G){t:TypeId}{x:Operand}{cs:List AV}(h:Ga (ρ x)=I cs){o:Oper}(ho:o.op= .box t x):
  Good B β H w b (.ptr b cs.length 0 0) [.box t cs] ((execOp η o).run P w):=by
 refine aaE hH hb t (us:=(η x).cells) (S6 h<|hη x) ?_ _;unfold execOp;rw[ho];simp[Instr.box,newVar,newRow]
def awI(hP:P=B.P)(hη:∀x,RX w β tm (ρ x)<|η x)(hH:Hs B β H w){t:TypeId}{p:Operand}{v:AV}(h:Jp P H t (ρ p)=I v){o:Oper}(ho:o.op= .load t p):
  Good B β H w b v [] ((execOp η o).run P w):=by
 have hx:R2 w β (ρ p) (η p):=(hη p).of (λg w x e=>by rw[e]at h;cases h);obtain⟨u,hu,hr⟩:=aCU hP hH hx h;refine Good.same hH (u:=u) ?_<|R2.HH hr;unfold execOp;rw[ho];simp[hu]
def RC.ayE{id z i o:Nat}{v:Value}(h:RC w β (.ptr id z i o) v):∃a,v= .pointer (I a):=by cases h;exact⟨_,rfl⟩
def RC.ayI{k:K}{x:Tof k}{o:Nat}{v:Value}(h:RC w β (.ipt k x o) v):∃a,v= .pointer (I a):=by cases h;exact⟨_,rfl⟩
def yh(hη:∀x,RX w β tm (ρ x)<|η x)(hH:Hs B β H w){p:Operand}{v:AV}(hv:(∃id z i o,v= .ptr id z i o)\/ ∃k x o,v= .ipt k x o)(h:ρ p=v){o:Oper}(ho:o.op= .nilCheck p):
  Good B β H w b v [] ((execOp η o).run P w):=by
 have hx:=hη p;rw[h]at hx;have hp:∃a,η p= .pointer (I a):=by
  obtain⟨id,z,i,o,rfl⟩|⟨k,x,o,rfl⟩:=hv
  .exact RC.ayE (show RC w β (.ptr id z i o) (η p) from hx)
  .exact RC.ayI<|show RC w β (.ipt k x o) (η p) from hx
 obtain⟨a,ha⟩:=hp;refine Good.same hH (u:=η p) ?_ ?_
 .unfold execOp;rw[ho];simp[ha]
 .rcases hv with⟨id,z,i,o,rfl⟩|⟨k,x,o,rfl⟩<;>exact hx
def apN(hη:∀x,RX w β tm (ρ x)<|η x)(hH:Hs B β H w){x:Operand}{i:Nat}{vs:List AV}{v:AV}(h:ρ x= .tup vs)(hv:vs[i]? =I v){o:Oper}(ho:o.op= .extract x i):
  Good B β H w b v [] ((execOp η o).run P w):=by
 have hx:=hη x;rw[h]at hx;obtain⟨us,e,hl⟩:=RX.tup hx;obtain⟨u,hu,hr⟩:=hl.get hv;refine Good.same hH (u:=u) ?_<|R2.HH hr;unfold execOp;rw[ho];simp[Instr.extract,e,hu]
def iG{t:TypeId}{f:Nat}{fd:Field}(h:Ld P t f=I fd):∃fs,P.underlying t=I (.struct fs)/\fs[f]? =I fd:=by
 unfold Ld at h;split at h
 .rename_i fs hu;exact⟨fs,hu,h⟩
 .cases h
def yL(hη:∀x,RX w β tm (ρ x)<|η x)(hH:Hs B β H w){t:TypeId}{x:Operand}{f:Nat}{fd:Field}(h:Ld P t f=I fd)(h1:1<=P.cellsOf fd.type){v:AV}
  (hv:(∃id z i o,ρ x= .ptr id z i o/\v= .ptr id z i (o+fd.offset))\/ ∃k y o,ρ x= .ipt k y o/\v= .ipt k y (o+fd.offset)){o:Oper}(ho:o.op= .fieldAddr t x f):
  Good B β H w b v [] ((execOp η o).run P w):=by
 obtain⟨fs,hu,hf⟩:=iG h;have hx:=hη x;have key:∀bb o',η x= .pointer (I ⟨bb,o',G⟩)->(execOp η o).run P w= .ok (.value<|.pointer<|I ⟨bb,o'+fd.offset,G⟩) w:=by
  intro bb o' he;unfold execOp;rw[ho];have hne:¬P.cellsOf fd.type=0:=J
  simp[Instr.fieldAt,run_underlying hu,hf,JK,he,fieldPlace,Kb h1,hne,Gl]
 obtain⟨id,z,i,o',e1,rfl⟩|⟨k,y,o',e1,rfl⟩:=hv
 .rw[e1]at hx;have hx':RC w β (.ptr id z i o') (η x):=hx;generalize hg:η x=g at hx';cases hx' with
  | @ptr _ _ _ _ hd n bb f' hβ ha hi=>
   refine Good.same hH (key _ _ hg) ?_;have:=RC.ptr (w:=w) (β:=β) (id:=id) (sz:=z) (i:=i) (o:=o'+fd.offset) hβ ha hi;simpa[R2,R1,D6] using this
 .rw[e1]at hx;have hx':RC w β (.ipt k y o') (η x):=hx;generalize hg:η x=g at hx';cases hx' with
  | @ipt _ _ _ bb f' u hM hu' hr=>
   refine Good.same hH (key _ _ hg) ?_;have:=RC.ipt (w:=w) (β:=β) (k:=k) (x:=y) (o:=o'+fd.offset) (b:=bb) (f:=f') u hM hu' hr;simpa[R2,R1,D6] using this
def asK{t:TypeId}{cs:List AV}{o:Nat}{v:AV}{us:List Value}(h:HT P t cs o=I v)(hl:RL (RC w β) cs us):∃u,(part t us.toArray o).run P w= .ok u w/\R1 w β v u:=by
 unfold HT at h;cases ha:L6 P t with
 | none=>rw[ha]at h;cases h
 | some q=>
  rw[ha]at h;cases q with
  | true=>
   simp only at h;split at h
   .rename_i hb;simp only[AD]at hb;have h2:=Da hb.2;cases h;refine⟨.agg ((us.drop o).take<|P.cellsOf t).toArray, ?_,_,rfl,(hl.drop o).take _⟩;unfold part;simp[SO ha,Kb h2]
   .cases h
  | false=>
   simp only at h;obtain⟨u,hu,hr⟩:=hl.get h;refine⟨u, ?_,R1.M9 hr⟩;unfold part;simp[SO ha,hu]
def aqY(hη:∀x,RX w β tm (ρ x)<|η x)(hH:Hs B β H w){t:TypeId}{x:Operand}{f:Nat}{fd:Field}(h:Ld P t f=I fd){cs:List AV}(hx:ρ x= .agg cs){v:AV}(hv:HT P fd.type cs fd.offset=I v)
  {o:Oper}(ho:o.op= .field t x f):Good B β H w b v [] ((execOp η o).run P w):=by
 obtain⟨fs,hu,hf⟩:=iG h;have hη':=hη x;rw[hx]at hη';obtain⟨us,e,hl⟩:=RX.agg hη';obtain⟨u,hr,hr'⟩:=asK hv hl;refine Good.same hH (u:=u) ?_<|R2.HH hr';unfold execOp;rw[ho];simp[Instr.field,run_underlying hu,hf,e,asAgg,hr]
end
end Go.VS
end
noncomputable section
namespace Go.VS
open Go
def ie(a b:A1):(a.toList == b.toList)=U (a=b):=by
 by_cases h:a=b
 .subst h;simp
 .have:a.toList≠b.toList:=λe=>h (by
   rw[aBF,aBF]at e;obtain⟨⟨x⟩⟩:=a;obtain⟨⟨y⟩⟩:=b;simp at e;subst e;rfl)
  simp[h,this]
section
variable {P:Program} {B:Bb} {β:Beta} {H:Hp} {w:World} {b:Nat} {tm:Nat->Value} {ρ:Operand->AV} {η:Operand->Value}
def atM{op:BinOp}{k:IntKind}{x y:Int}{q:Bool}{v:AV}{os:List Ob}(h:Ts op k x y=I (q,v,os))(hq:q=Y)(t:TypeId):
  ∃u,(IB op t (.int k x)<|.int k y).run P w= .ok u w/\os=[]/\v= .lit u:=by
 subst hq;cases op<;>simp only[Ts]at h
 case quo=>
  simp only[Bs,CL,CE,decide_eq_false_iff_not]at h;obtain⟨h1,rfl,rfl⟩:=h;exact⟨_,by simp[IB,Op.intDiv,h1],rfl,rfl⟩
 case rem=>
  simp only[Bs,CL,CE,decide_eq_false_iff_not]at h;obtain⟨h1,rfl,rfl⟩:=h;exact⟨_,by simp[IB,Op.intDiv,h1],rfl,rfl⟩
 case shl=>cases h
 case shr=>cases h
 case andNot=>cases h
 case add|sub|mul|and|or|xor=>
  obtain⟨rfl,_,rfl⟩:=DH h;exact⟨_,by simp[IB,Op.intArith,Op.intBits,Dp,ac1,ior],rfl,rfl⟩
 all_goals
  obtain⟨rfl,_,rfl⟩:=DH h;refine⟨_, ?_,rfl,rfl⟩;simp only[IB,Op.intCmp]
  first|rfl|(simp only[ne_eq,not_true_eq_false,if_false,Fl,Result.ok.injEq,Value.bool.injEq,and_true];done)|(by_cases hh:x=y<;>simp[hh])
def atL{op:BinOp}{x y:A1}{q:Bool}{v:AV}{os:List Ob}(h:Tr op x y=I (q,v,os))(hq:q=Y)(t:TypeId):
  ∃u,(IB op t (.string x)<|.string y).run P w= .ok u w/\os=[]/\v= .lit u:=by
 subst hq;cases op<;>simp only[Tr]at h<;>try cases h
 case add=>
  simp only[Bs,CL,decide_eq_true_eq]at h;obtain⟨h1,rfl,rfl⟩:=h;refine⟨.string<|x++y, ?_,rfl,rfl⟩;have h2:¬(((x.size+y.size:Nat):Int) > IntKind.i64.max):=by
   have e:IntKind.i64.max=9223372036854775807:=by decide
   rw[e];omega
  simp only[IB,ky,A9 h2,Fl]
 case eql=>
  exact⟨_,by simp only[IB,ky,Fl,ie],rfl,rfl⟩
 case neq=>
  exact⟨_,by simp only[IB,ky,Fl,ie],rfl,rfl⟩
def fJ(op:BinOp)(t:TypeId)(x y:Operand)(u v:Value)(h:u.oneCell'=Y)(hn:u≠ .nilIface):(eqGuard op t x y u v).run P w= .ok () w:=by
 cases op<;>cases u<;>first|rfl|exact absurd rfl hn|(cases v<;>first|rfl|cases h)
def RC.NN{x v:Value}(h:RC w β (.lit x) v):v=x:=by cases h;rfl
def auD{cs ds:List AV}{r:Bool}(h:eqC cs ds=I r):∀ {us vs:List Value},RL (RC w β) cs us->RL (RC w β) ds vs->eqC (us.map .lit) (vs.map .lit)=I r/\cs=us.map .lit:=by
 induction cs generalizing ds r with
 | nil=>
  intro us vs h1 h2;cases ds with
  | nil=>rw[h1.of_nil,h2.of_nil];exact⟨h,rfl⟩
  | cons d ds=>simp[eqC]at h
 | cons c cs ih=>
  intro us vs h1 h2;cases ds with
  | nil=>cases c<;>simp[eqC]at h
  | cons d ds=>
   obtain⟨u,us,rfl,hu,hus⟩:=h1.C8;obtain⟨v,vs,rfl,hv,hvs⟩:=h2.C8;cases c<;>try (simp[eqC]at h;done)
   rename_i cv;cases d<;>try (cases cv<;>simp[eqC]at h;done)
   rename_i dv;obtain rfl:=hu.NN;obtain rfl:=hv.NN;cases u<;>try (simp[eqC]at h;done)
   all_goals cases v<;>try (simp[eqC]at h;done)
   case int.int=>
    simp only[eqC]at h;split at h
    .rename_i hk;cases hr:eqC cs ds with
     | none=>rw[hr]at h;cases h
     | some r'=>
      rw[hr]at h;obtain⟨i1,i2⟩:=ih hr hus hvs;refine⟨?_,by simp[i2]⟩;simp only[DO,eqC,hk,i1];exact h
    .cases h
   case bool.bool=>
    simp only[eqC]at h;cases hr:eqC cs ds with
    | none=>rw[hr]at h;cases h
    | some r'=>
     rw[hr]at h;obtain⟨i1,i2⟩:=ih hr hus hvs;refine⟨?_,by simp[i2]⟩;simp only[DO,eqC,i1];exact h
   case string.string=>
    simp only[eqC]at h;cases hr:eqC cs ds with
    | none=>rw[hr]at h;cases h
    | some r'=>
     rw[hr]at h;obtain⟨i1,i2⟩:=ih hr hus hvs;refine⟨?_,by simp[i2]⟩;simp only[DO,eqC,i1];exact h
def jr{t:TypeId}{us:List Value}{n:Nat}{u:Value}(hu:us[n]? =I u)(ha:L6 P t=I A0):(part t us.toArray n).run P w= .ok u w:=by
 unfold part;simp[SO ha,hu]
def aDr(d:Nat):∀(fs:List Field) (n:Nat) (us vs us' vs':List Value) (r:Bool),ZD P n fs (us'.map .lit)=Y->fs.length=us'.length->us=us.take n++us'->n<=us.length->vs=vs.take n++vs'->n<=vs.length->
  eqC (us'.map .lit) (vs'.map .lit)=I r->(TL (d+1) us.toArray vs.toArray fs).run P w= .ok r w
 | [],n,us,vs,us',vs',r,_,hl,_,_,_,_,h=>by
  obtain rfl:us'=[]:=Du (by simpa using hl.symm);cases vs' with
  | nil=>simp[eqC]at h;subst h;simp[TL]
  | cons v vs'=>simp[eqC]at h
 | f::fs,n,us,vs,us',vs',r,hf,hl,hu,hn,hv,hn',h=>by
  cases us' with
  | nil=>simp at hl
  | cons u us'=>
  cases vs' with
  | nil=>cases u<;>simp[eqC]at h
  | cons v vs'=>
  simp only[DO,ZD,AD,CE]at hf;obtain⟨⟨⟨hk,ho⟩,KG⟩,hf⟩:=hf;have ho:=Bk ho;have hu1:us[n]? =I u:=by
   rw[hu,F1 o5];simp[QM hn]
  have hv1:vs[n]? =I v:=by
   rw[hv,F1 o5];simp[QM hn']
  have hlu:n<us.length:=(BN.1 hu1).1;have hlv:n<vs.length:=(BN.1 hv1).1;have hu2:us=us.take (n+1)++us':=by
   rw[JP,hu1];simp only[Option.toList_some,C3,aB9];exact hu
  have hv2:vs=vs.take (n+1)++vs':=by
   rw[JP,hv1];simp only[Option.toList_some,C3,aB9];exact hv
  have nM:¬f.name= "_" :=by simpa using KG
  have ayj:=λr h=>aDr d fs (n+1) us vs us' vs' r hf (by simpa using hl) hu2 hlu hv2 hlv h;have fin:∀(q r':Bool),L6 P f.type=I A0->(Op.equalIn (d+1) f.type u v).run P w= .ok q w->eqC (us'.map .lit) (vs'.map .lit)=I r'->r=(q&&r')->
    (TL (d+1) us.toArray vs.toArray<|f::fs).run P w= .ok r w:=by
   intro q r' ha h1 h2 h3;simp only[TL,ne_eq,nM,not_false_eq_true,A2,ho,Ej,jr hu1 ha,jr hv1 ha,F3,h1];cases q with
   | false=>simp[h3]
   | true=>simpa[h3] using ayj r' h2
  have ag:∀ {ty},P.underlying f.type=I ty->(match ty with|.bool=>True|.int _=>True|.string=>True|_=>False)->L6 P f.type=I A0:=by
   intro ty h1 h2;unfold L6;rw[h1];cases ty<;>first|rfl|exact h2.elim
  have op:∀(q r':Bool),eqC (us'.map .lit) (vs'.map .lit)=I r'->r=(q&&r')->(∀ty,P.underlying f.type=I ty->(match ty with|.bool=>True|.int _=>True|.string=>True|_=>False)->(Op.equalIn (d+1) f.type u v).run P w= .ok q w)->
    (∃ty,P.underlying f.type=I ty/\(match ty with|.bool=>True|.int _=>True|.string=>True|_=>False))->(TL (d+1) us.toArray vs.toArray<|f::fs).run P w= .ok r w:=by
   rintro q r' h1 h2 h3 ⟨ty,h4,h5⟩;exact fin q r' (ag h4 h5) (h3 ty h4 h5) h1 h2
  cases u<;>try (simp[eqC]at h;done)
  all_goals cases v<;>try (simp[eqC]at h;done)
  case int.int k a k' c=>
   simp only[DO,eqC]at h;split at h
   .rename_i hkk;obtain rfl:k=k':=by simpa using hkk
    cases hr:eqC (us'.map .lit) (vs'.map .lit) with
    | none=>rw[hr]at h;cases h
    | some r'=>
     rw[hr]at h;simp only[A6,Bs]at h;split at hk<;>try (rename_i e;cases e;done)
     .rename_i k2 _ _ hh _;refine fin (a == c) r' (ag hh trivial) (run_equalIn_int w d f.type k k2 a c hh) hr ?_;rw[← h];by_cases e:a=c<;>simp[e]
     .cases hk
   .cases h
  case bool.bool a c=>
   simp only[DO,eqC]at h;cases hr:eqC (us'.map .lit) (vs'.map .lit) with
   | none=>rw[hr]at h;cases h
   | some r'=>
    rw[hr]at h;simp only[A6,Bs]at h;split at hk<;>try (rename_i e;cases e;done)
    .rename_i hh _;refine fin (a == c) r' (ag hh trivial) (run_equalIn_bool' w d f.type a c hh) hr ?_;rw[← h];by_cases e:a=c<;>simp[e]
    .cases hk
  case string.string a c=>
   simp only[DO,eqC]at h;cases hr:eqC (us'.map .lit) (vs'.map .lit) with
   | none=>rw[hr]at h;cases h
   | some r'=>
    rw[hr]at h;simp only[A6,Bs]at h;split at hk<;>try (rename_i e;cases e;done)
    .rename_i hh _;refine fin (a.toList == c.toList) r' (ag hh trivial) (run_equalIn_string w d f.type a c hh) hr ?_;rw[← h,ie]
    .cases hk
def aqy(hη:∀x,RX w β tm (ρ x)<|η x)(hH:Hs B β H w){op:BinOp}{t:TypeId}{x y:Operand}{q:Bool}{v:AV}{os:List Ob}(h:P1 P op t (ρ x) (ρ y)=I (q,v,os))(hq:q=Y)
  {o:Oper}(ho:(execOp η o).run P w=((do eqGuard op t x y (η x) (η y);IB op t (η x) (η y):Sem Value).run P w).andThen λu w=> .ok (.value u) w):Good B β H w b v os ((execOp η o).run P w):=by
 rw[ho];have hx:=hη x;have hy:=hη y;have fin:∀u,(eqGuard op t x y (η x)<|η y).run P w= .ok () w->(IB op t (η x)<|η y).run P w= .ok u w->os=[]->R2 w β v u->
   Good B β H w b v os (((do eqGuard op t x y (η x) (η y);IB op t (η x) (η y):Sem Value).run P w).andThen λu w=> .ok (.value u) w):=by
  intro u h1 h2 h3 h4;subst h3;refine Good.same hH (u:=u) ?_ h4;simp[h1,h2]
 generalize ρ x=c at h hx;generalize ρ y=c' at h hy;generalize η x=vx at hx fin;generalize η y=vy at hy fin;unfold P1 at h;split at h
 .rename_i k a k' c;split at h
  .rename_i hk;obtain rfl:k=k':=by simpa using hk
   obtain rfl:=hx.lit;obtain rfl:=hy.lit;obtain⟨u,h1,h2,rfl⟩:=atM (P:=P) (w:=w) h hq t;exact fin u (fJ _ _ _ _ _ _ rfl y9) h1 h2 rfl
  .cases h
 .obtain rfl:=hx.lit;obtain rfl:=hy.lit;obtain⟨u,h1,h2,rfl⟩:=atL (P:=P) (w:=w) h hq t;exact fin u (fJ _ _ _ _ _ _ rfl y9) h1 h2 rfl
 .rename_i a c;obtain rfl:=hx.lit;obtain rfl:=hy.lit;split at h
  .rename_i hu;obtain⟨rfl,_,h3⟩:=DH h;refine fin (.bool<|U<|a=c) (fJ _ _ _ _ _ _ rfl y9) ?_ h3 rfl;simp only[IB,Ej,Op.equal,Op.maxDepth,run_equalIn_bool' w _ t a c hu,F3,Fl];by_cases e:a=c<;>simp[e]
  .rename_i hu;obtain⟨rfl,_,h3⟩:=DH h;refine fin (.bool<|!decide (a=c)) (fJ _ _ _ _ _ _ rfl y9) ?_ h3 rfl;simp only[IB,Ej,Op.equal,Op.maxDepth,run_equalIn_bool' w _ t a c hu,F3,Fl];by_cases e:a=c<;>simp[e]
  .cases h
 .rename_i cs ds;obtain⟨us,rfl,hl⟩:=RX.agg hx;obtain⟨vs,rfl,hm⟩:=RX.agg hy;have key:∀r,mh P t cs=Y->Af cs.length ds.length=Y->eqC cs ds=I r->
    (Op.equalIn 10000 t (.agg us.toArray)<|.agg vs.toArray).run P w= .ok r w/\(∀op,(eqGuard op t x y (.agg us.toArray)<|.agg vs.toArray).run P w= .ok () w):=by
   intro r h1 h2 h3;unfold mh at h1;split at h1
   .rename_i fs hu;simp only[AD,CE]at h1;obtain⟨⟨⟨h4,h5⟩,h6⟩,h7⟩:=h1;have hfo:P.fieldsOf t=fs:=by simp[Program.fieldsOf,hu]
    obtain⟨e1,e2⟩:=auD h3 hl hm;subst e2;refine⟨?_,λop=>run_eqGuard_agg w op t x y _ _ h7⟩;rw[run_equalIn_struct w 9999 t _ _ (by rw[hfo];exact hu) h6,hfo];refine aDr 9998 fs.toList 0 us vs us vs r h4 ?_ y9 y9 y9 y9 e1;have:=Bk h5;simpa using this
   .cases h1
  split at h
  .rename_i r h1 h2 h3;obtain⟨rfl,_,h4⟩:=DH h;obtain⟨k1,k2⟩:=key r h1 h2 h3;refine fin (.bool r) (k2 _) ?_ h4 rfl;rw[run_eql_struct,k1];rfl
  .rename_i r h1 h2 h3;obtain⟨rfl,_,h4⟩:=DH h;obtain⟨k1,k2⟩:=key r h1 h2 h3;refine fin (.bool<|!r) (k2 _) ?_ h4 rfl;rw[run_neq_struct,k1];rfl
  .cases h
 .cases h
def arB(hη:∀x,RX w β tm (ρ x)<|η x)(hH:Hs B β H w){op:UnOp}{x:Operand}{q:Bool}{v:AV}{os:List Ob}(h:unA op (ρ x)=I (q,v,os)):
  Good B β H w b v os (((Op.unary op<|η x).run P w).andThen λu w=> .ok (.value u) w):=by
 have hx:=hη x;generalize ρ x=c at h hx;unfold unA at h;split at h
 .obtain⟨rfl,_,rfl⟩:=DH h;rw[hx.lit];exact Good.same hH (u:= .bool _) (by simp[Op.unary]) rfl
 .obtain⟨rfl,_,rfl⟩:=DH h;rw[hx.lit];exact Good.same hH (u:= .int _ _) (by simp[Op.unary,Op.intArith]) rfl
 .cases h
end
end Go.VS
end
noncomputable section
namespace Go.VS
open Go
def aaI(f:AV->AV)(hf:∀c,f c=c)(o:Option Ob):CH f o=o:=by
 cases o with
 | none=>rfl
 | some ob=>cases ob with
  | box e cs=>simp[CH,show f=λc=>c from funext hf]
  | _=>rfl
section
variable {P:Program} {B:Bb} {β:Beta} {H:Hp} {w w':World} {b:Nat} {tm:Nat->Value} {ρ:Operand->AV} {η:Operand->Value}
def Hs.grow(h:Hs B β H w){id:Nat}(hid:H id=G)(ob:Ob)(hd:Value)(n:Nat)
  (hos:w'.os=w.os)(KE:w'.tape=w.tape)(F7:w'.output=w.output)(FI:w.heap.size<=w'.heap.size)(hold:∀j,j<w.heap.size->w'.heap[j]? =w.heap[j]?)
  (ha:∀a,adr hd=I a->w.heap.size<=a.block/\a.block<w'.heap.size)
  (hob:∀β',β' id=I (hd,n)->Kp w β w' β'->E5 B.P w' β' id ob):
  ∃β',Hs B β' (upd H id<|I ob) w'/\Kp w β w' β'/\β' id=I (hd,n):=by
 have Tz:β id=G:=by
  cases hb:β id with
  | none=>rfl
  | some p=>obtain⟨ob',ho⟩:=h.dom id p hb;rw[hid]at ho;cases ho
 have hM:∀b,MB (β.up id<|I (hd,n)) b->MB β b\/w.heap.size<=b:=by
  rintro b ⟨j,hd',n',a',hj,ha',hb⟩;by_cases e:j=id
  .subst e;rw[Beta.Ty]at hj;cases hj;exact .inr (hb▸(ha a' ha').1)
  .rw[Beta.NM _ _ e]at hj;exact .inl ⟨j,hd',n',a',hj,ha',hb⟩
 have hk:Kp w β w' (β.up id<|I (hd,n)):=λc v x=>RC.mono
  (λj p hj=>by
   by_cases e:j=id
   .subst e;rw[Tz]at hj;cases hj
   .rw[Beta.NM _ _ e];exact hj)
  (λb o v _ hc=>by
   rw[TQ (w:=w) (w':=w')<|hold b<|TN w _ hc];exact hc)
  (λb hb hlt hm=>by
   obtain hm|hm:=hm
   .rcases hM b hm with h1|h1
    .exact hb (.inl h1)
    .omega
   .exact hb<|.inr hm) x
 have h1:=h.U8 (w':=w') (β':=β.up id<|I (hd,n)) (f:=λc=>c) (λ_ _=>rfl) hk (id:=id) (ob:=I ob) (λj e=>BB _ _ e)
  (.inr ⟨ob,hd,n,rfl,Be _ _ _,hob _ (Be _ _ _) hk,λa h=> .inr<|ha a h⟩)
  (λj p a e hj h2=>hold _ (h.old _ ⟨j,p.1,p.2,a,hj,h2,rfl⟩).2) hos KE F7 FI (λb hb _=>hold b<|Gj hb h.size) rfl (Pk.old hold)
 refine⟨_, ?_,hk,Be _ _ _⟩;rwa[show(λj=>CH (λc=>c)<|H j)=H from funext λj=>aaI _ (λ_=>rfl) _]at h1
def asB(h:Hs B β H w)(hb:H b=G){ob:Ob}{hd:Value}{n:Nat}{v:AV}
  (hos:w'.os=w.os)(KE:w'.tape=w.tape)(F7:w'.output=w.output)(FI:w.heap.size<=w'.heap.size)(hold:∀j,j<w.heap.size->w'.heap[j]? =w.heap[j]?)
  (ha:∀a,adr hd=I a->w.heap.size<=a.block/\a.block<w'.heap.size)
  (hob:∀β',β' b=I (hd,n)->Kp w β w' β'->E5 B.P w' β' b ob){u:Value}
  (hv:∀β',β' b=I (hd,n)->R2 w' β' v u){r:Result Next}(hr:r= .ok (.value u) w'):Good B β H w b v [ob] r:=by
 obtain⟨β',h1,h2,h3⟩:=h.grow hb ob hd n hos KE F7 FI hold ha hob;exact⟨u,w',β',hr,h1,h2,hv _ h3⟩
def Xp(h:Hs B β H w)(hb:H b=G){e:TypeId}{fz:Bool}{k:K}{xs:List (Tof k)}{cap:Nat}{us:Array Value}
  (hos:w'.os=w.os)(KE:w'.tape=w.tape)(F7:w'.output=w.output)(hold:∀j,j<w.heap.size->w'.heap[j]? =w.heap[j]?)
  (aH:w'.heap[w.heap.size]? =I (.cells us e<|if fz then(us.size,us.size+1) else(0,0)))(hc:xs.length<=cap)(hm:cap<=maxLen)(hs:cap * ks k<=us.size)
  (hr:∀i x j c u,xs[i]? =I x->(enc k x)[j]? =I c->us[i * ks k+j]? =I u->RC w β c u)
  {r:Result Next}(Ce:r= .ok (.value<|.slice (I ⟨w.heap.size,0,G⟩) xs.length cap) w'):Good B β H w b (.own b) [.row e fz k xs] r:=by
 have hlt:w.heap.size<w'.heap.size:=(HE.1 aH).1;refine asB h hb (hd:= .slice (I ⟨w.heap.size,0,G⟩) xs.length cap) (n:=xs.length) hos KE F7 (Nat.le_of_lt hlt) hold (λa ha=>by cases ha;exact⟨Ar _,hlt⟩) ?_ ?_ Ce
 .intro β' hβ hk;refine⟨_,hβ,.inr ⟨w.heap.size,0,cap,us,_,rfl,aH,rfl,hc,hm,J,λi x j c u h1 h2 h3=>hk _ _<|hr i x j c u h1 h2 ?_⟩⟩;simpa using h3
 .intro β' hβ;exact RC.own hβ rfl
def awo(s:A1){i:Int}(h:inb i s.size=Y):∃x,s[i.toNat]? =I x/\bt s i=(x.toNat:Int)/\0<=i:=by
 simp only[inb,AD,decide_eq_true_eq]at h;have hlt:i.toNat<s.size:=J
 refine⟨s[i.toNat],by simp[hlt], ?_,h.1⟩;have h2:i.toNat<s.data.size:=hlt;have:s.data.toList.getD i.toNat 0=s[i.toNat]:=by
  rw[B8,TT,Array.getElem?_eq_getElem h2];rfl
 unfold bt;rw[this]
def R1.enc{k:K}{xs:List (Tof k)}{us:List Value}(hl:us.length=xs.length * ks k)(hr:∀i x j c u,xs[i]? =I x->(enc k x)[j]? =I c->us[i * ks k+j]? =I u->RC w β c u)
  {i:Nat}{x:Tof k}(hi:xs[i]? =I x):RL (RC w β) (enc k x) ((us.drop<|i * ks k).take<|ks k):=by
 have hlt:i<xs.length:=(BN.1 hi).1;have h1:(i+1) * ks k<=xs.length * ks k:=E6 _ hlt;rw[EH]at h1;refine⟨by simp[EN];omega,λj c u h2 h3=>hr i x j c u hi h2 ?_⟩;have hj:j<ks k:=by rw[← EN k x];exact(BN.1 h2).1
 rw[Gi,A5 hj,Hb]at h3;exact h3
def aqO(hη:∀x,RX w β tm (ρ x)<|η x)(hH:Hs B β H w){t:TypeId}{x ix:Operand}{k:IntKind}{i:Int}(hi:ρ ix= .lit (.int k i)){q:Bool}{v:AV}{os:List Ob}(h:Qo P t i (ρ x)=I (q,v,os))(hq:q=Y):
  Good B β H w b v os (((l4 t (η x)<|η ix).run P w).andThen λu w=> .ok (.value u) w):=by
 subst hq;have hx:=hη x;have hix:=hη ix;rw[hi]at hix;rw[hix.lit];generalize ρ x=c at h hx;unfold Qo at h;split at h
 .rename_i s;split at h
  .rename_i hu;simp only[Bs,CL]at h;obtain⟨h1,rfl,rfl⟩:=h;obtain⟨y,hy,hb,h0⟩:=awo s h1;rw[hx.lit,hb];exact Good.same hH (u:= .int .u8 y.toNat) (by simp[l4,asIntOf,run_underlying hu,h0,hy]) rfl
  .cases h
 .rename_i k' xs;split at h
  .rename_i n e hu;split at h
   .rename_i h1 h2;cases hv:HT P e (enc k'<|rd (dfl k') xs i) 0 with
    | none=>rw[hv]at h;cases h
    | some v'=>
     rw[hv]at h;simp only[A6,Bs,CL]at h;obtain⟨hb,rfl,rfl⟩:=h;simp only[inb,AD,decide_eq_true_eq]at hb;obtain⟨us,e1,hl,hr⟩:=hx;simp only[AD]at h1;have hk:=Bk h1.1;have hi':xs[i.toNat]? =I (rd (dfl k') xs i):=by
      have:i.toNat<xs.length:=J
      simp[rd,this]
     have hrl:=R1.enc hl hr hi';unfold HT at hv;rw[h2]at hv;simp only at hv;obtain⟨u,hu1,hu2⟩:=hrl.get hv;have hlen:P.cellsOf e=1:=Bk h1.2;have hu3:us[i.toNat]? =I u:=by
      rw[hk]at hu1;simpa using hu1
     refine Good.same hH (u:=u) ?_<|R2.HH<|R1.M9 hu2;have hb':0<=i/\i<(n:Int):=J
     rw[e1];simp only[l4,asIntOf,Ej,Fl,F3,run_underlying hu,hb',and_self,A2,Kb (P:=P) (w:=w) (t:=e) J,hlen,Nat.mul_one,jr hu3 h2]
   .cases h
  .cases h
 .cases h
end
end Go.VS
namespace Go.VS
open Go Go.Lib
def Hq{a b:K}{xs:List (Tof a)}{ys:List (Tof b)}(h:Ig a b xs=I ys):∃e:a=b,e▸xs=ys:=by
 cases a<;>cases b<;>first|(cases h;exact⟨rfl,rfl⟩)|cases h
def MC(w:World)(β:Beta)(k:K)(xs:List (Tof k))(v:Value):Prop:=
 (xs=[]/\ ∃a cap,v= .slice a 0 cap)\/ ∃b f cap,∃u:Nat->Nat->Value,v= .slice (I ⟨b,f,G⟩) xs.length cap/\xs.length<=cap/\
  (∀i j,i<xs.length->j<ks k->w.cell? ⟨b,f+(i * ks k+j),G⟩=I (u i j))/\ ∀i x j c,xs[i]? =I x->(enc k x)[j]? =I c->RC w β c (u i j)
section
variable {P:Program} {B:Bb} {β:Beta} {H:Hp} {w w':World} {b:Nat} {tm:Nat->Value} {ρ:Operand->AV} {η:Operand->Value}
def RC.o7{k:K}{xs:List (Tof k)}{v:Value}(h:RC w β (.sl k xs) v):MC w β k xs v:=by
 cases h with
 | nil=>exact .inl ⟨rfl,_,_,rfl⟩
 | sl u hn hm hu hr=>obtain⟨rfl,hc⟩:=hn;exact .inr ⟨_,_,_,u,rfl,hc,hu,hr⟩
def FX.cells{e:TypeId}{fz:Bool}{k:K}{xs:List (Tof k)}{hd:Value}(h:FX w β e fz k xs hd):MC w β k xs hd:=by
 obtain⟨rfl,rfl⟩|⟨b,f,cap,us,fr,rfl,hh,hfr,hn,hc,hs,hr⟩:=h
 .exact .inl ⟨rfl,_,_,rfl⟩
 .have Cn:∀i j,i<xs.length->j<ks k->f+(i * ks k+j)<us.size:=by
   intro i j hi hj;have h1:(i+1) * ks k<=cap * ks k:=E6 _ J;rw[EH]at h1;omega
  refine .inr ⟨b,f,cap,λi j=>us.getD (f+(i * ks k+j)) undef,rfl,hn,λi j hi hj=> ?_,λi x j c h1 h2=> ?_⟩
  .rw[cell_of_row w b _ us e fr hh];have:=Cn i j hi hj;simp[this]
  .have hi:i<xs.length:=(BN.1 h1).1;have hj:j<ks k:=by rw[← EN k x];exact(BN.1 h2).1
   have:=Cn i j hi hj;exact hr i x j c _ h1 h2<|by simp[this]
def aap(hH:Hs B β H w){k:K}{c:AV}{v:Value}{xs:List (Tof k)}(h:CD H k c=I xs)(hx:R2 w β c v):MC w β k xs v:=by
 unfold CD at h;split at h
 .obtain⟨e,rfl⟩:=Hq h;subst e;exact RC.o7 hx
 .cases h;have:v=_:=hx;exact .inl ⟨rfl,_,_,this⟩
 .rename_i id;split at h
  .rename_i e fz k' ys hid;obtain⟨ek,rfl⟩:=Hq h;subst ek;obtain⟨hd,h1,h2⟩:=hH.EK id _ hid;have h3:RC w β (.own id) v:=hx;cases h3 with
   | own h4 h5=>rw[h1]at h4;cases h4;exact h2.cells
  .cases h
 .cases h
def MC.len{k:K}{xs:List (Tof k)}{v:Value}(h:MC w β k xs v):∃a cap,v= .slice a xs.length cap/\xs.length<=cap:=by
 obtain⟨rfl,a,cap,rfl⟩|⟨b,f,cap,u,rfl,hc,_⟩:=h
 .exact⟨_,_,rfl,by simp⟩
 .exact⟨_,_,rfl,hc⟩
def aAK{t e:TypeId}(hu:P.underlying t=I (.slice e))(h1:1<=P.cellsOf e){bb f n cap:Nat}{k:IntKind}{i:Int}(h0:0<=i)(hn:i<(n:Int)):
  (TO t (.slice (I ⟨bb,f,G⟩) n cap)<|.int k i).run P w= .ok (.pointer<|I ⟨bb,f+i.toNat * P.cellsOf e,G⟩) w:=by
 have hb':0<=i/\i<(n:Int):=⟨h0,hn⟩;have hb1:n<=1\/ ¬n<=1:=J
 obtain hb1|hb1:=hb1<;>
 simp[TO,asIntOf,run_underlying hu,hb1,hb',Kb h1,Gl]
def ap4{t e:TypeId}{n:Nat}(hu:P.underlying t=I (.array n e))(h1:1<=P.cellsOf e){bb f:Nat}{k:IntKind}{i:Int}(h0:0<=i)(hn:i<(n:Int)):
  (TO t (.pointer<|I ⟨bb,f,G⟩)<|.int k i).run P w= .ok (.pointer<|I ⟨bb,f+i.toNat * P.cellsOf e,G⟩) w:=by
 have hb':0<=i/\i<(n:Int):=⟨h0,hn⟩;have hb1:n<=1\/ ¬n<=1:=J
 obtain hb1|hb1:=hb1<;>
 simp[TO,asIntOf,JK,run_underlying hu,hb1,hb',Kb h1,Gl]
def amg(hP:P=B.P)(hη:∀x,RX w β tm (ρ x)<|η x)(hH:Hs B β H w){t:TypeId}{x ix:Operand}{k:IntKind}{i:Int}(hi:ρ ix= .lit (.int k i)){q:Bool}{v:AV}{os:List Ob}(h:Mc P H t i (ρ x)=I (q,v,os))(hq:q=Y):
  Good B β H w b v os (((TO t (η x)<|η ix).run P w).andThen λu w=> .ok (.value u) w):=by
 subst hq;have hx:=hη x;have hix:=hη ix;rw[hi]at hix;rw[hix.lit];generalize ρ x=c at h hx;generalize η x=vx at hx;unfold Mc at h;split at h
 .rename_i k' xs;split at h
  .rename_i e hu;split at h
   .rename_i hk;have hk:=Bk hk;simp only[Bs,CL,inb,AD,decide_eq_true_eq]at h;obtain⟨⟨h0,hn⟩,rfl,rfl⟩:=h;have hx':RC w β (.sl k' xs) vx:=hx;cases hx' with
    | nil=>simp at hn;omega
    | @sl _ _ bb f cap n u hn' hm hu' hr=>
     obtain⟨rfl,hc⟩:=hn';have h1:=Hw k';have hlt:i.toNat<xs.length:=J
     have oE:xs[i.toNat]? =I (rd (dfl k') xs i):=by simp[rd,hlt]
     refine Good.same hH (u:= .pointer<|I ⟨bb,f+i.toNat * ks k',G⟩) ?_ ?_
     .rw[aAK hu J h0 hn,hk];rfl
     .have:=RC.ipt (w:=w) (β:=β) (k:=k') (x:=rd (dfl k') xs i) (o:=0) (b:=bb) (f:=f+i.toNat * ks k') (u i.toNat) hm (λj hj=>by rw[D6];exact hu' _ _ hlt hj) (λj c hc=>hr _ _ _ _ oE hc);exact this
   .cases h
  .cases h
 .rename_i id;split at h
  .rename_i e e' fz k' xs hu hid;split at h
   .rename_i hk;have hk:=Bk hk;simp only[Bs,CL,inb,AD,decide_eq_true_eq]at h;obtain⟨⟨h0,hn⟩,rfl,rfl⟩:=h;obtain⟨hd,h1,h2⟩:=hH.EK id _ hid;have h3:RC w β (.own id) vx:=hx;cases h3 with
    | own h4 h5=>
     rw[h1]at h4;cases h4;have h1':=Hw k';obtain⟨_,e2⟩|⟨bb,f,cap,us,fr,rfl,hh,hfr,hnc,hc,hs,hr⟩:=h2
     .subst e2;simp at hn;omega
     .refine Good.same hH (u:= .pointer<|I ⟨bb,f+i.toNat * ks k',G⟩) ?_ ?_
      .rw[aAK hu J h0 hn,hk];rfl
      .have:=RC.ptr (w:=w) (β:=β) (id:=id) (sz:=ks k') (i:=i.toNat) (o:=0) h1 (b:=bb) (f:=f) rfl J;simpa[R2,R1] using this
   .cases h
  .cases h
 .rename_i id z;split at h
  .rename_i n e e' k' xs hu hid;split at h
   .rename_i hk;simp only[AD]at hk;have hk1:=Bk hk.1.1;have hk2:=Bk hk.1.2;obtain rfl:=Bk hk.2;simp only[Bs,CL,inb,AD,decide_eq_true_eq]at h;obtain⟨⟨h0,hn⟩,rfl,rfl⟩:=h;obtain⟨bb,us,h1,hh,hsz,hce,hr⟩:=hH.EK id _ hid;have h1':=Hw k';have hlen:xs.length=n:=by
     rw[hP]at hk2;rw[hsz,hk2]at hce;exact Nat.eq_of_mul_eq_mul_right h1' hce
    have h3:RC w β (.ptr id z 0 0) vx:=hx;cases h3 with
    | @ptr _ _ _ _ hd n' b' f h4 ha hi'=>
     rw[h1]at h4;cases h4;cases ha;refine Good.same hH (u:= .pointer<|I ⟨bb,0+i.toNat * ks k',G⟩) ?_ ?_
     .rw[show(0:Nat)+(0 * z+0)=0 by omega,ap4 hu J h0 J,hk1];rfl
     .have:=RC.ptr (w:=w) (β:=β) (id:=id) (sz:=ks k') (i:=i.toNat) (o:=0) h1 (b:=bb) (f:=0) rfl J;simpa[R2,R1] using this
   .cases h
  .cases h
 .cases h
def jc{t ty:TypeId}{e:TypeId}(hu:P.underlying t=I (.slice e)){a:Option Addr}{n cap:Nat}:(QN #[t] ty #[.slice a n cap]).run P w= .ok (.int .i64 n) w:=by
 simp[QN,run_underlying hu,goInt]
def ar7{src dst e:TypeId}(hs:P.underlying src=I (.slice e))(he:P.underlying e=I (.int .u8))(hd:P.underlying dst=I .string){xs:List (Tof .u8)}{v:Value}(h:MC w β .u8 xs v):
  (convert src dst v).run P w= .ok (.string<|BF xs) w:=by
 obtain⟨rfl,a,cap,rfl⟩|⟨bb,f,cap,u,rfl,hc,hu,hr⟩:=h
 .cases a with
  | none=>exact run_convert_bytes_nil w src e hs he _ _ dst hd
  | some a=>
   rw[run_convert_bytes_string w src dst e _ 0 cap hs he hd];simp[Conv.bytesToString,loadCells,BF];rfl
 .refine run_convert_bytes_arg w src e hs he bb f _ cap xs rfl (λi hi=> ?_) dst hd;have h1:=hu i 0 hi aEp;have hx:xs[i]? =I (xs.getD i 0):=by simp[hi]
  have h2:=hr i _ 0 (.y<|xs.getD i 0) hx rfl;have h3:=h2.NN;rw[h3]at h1;simpa[ks] using h1
def aqw(hH:Hs B β H w)(hb:H b=G){src dst e:TypeId}(hs:P.underlying src=I .string)(hd:P.underlying dst=I (.slice e))(he:P.underlying e=I (.int .u8)){s:A1}(hr:Ab s.size=Y):
  Good B β H w b (.own b) [.row e Y .u8<|BA s] (((convert src dst<|.string s).run P w).andThen λu w=> .ok (.value u) w):=by
 have hlen:(BA s).length=s.size:=by rw[BA,DL,F2];rfl
 have hsz:(bytesCells w e s).size=grownCap w s.size 0 e:=by
  have:=grownCap_ge w s.size 0 e;simp only[bytesCells,QL,Array.size_map,l9];have:s.data.size=s.size:=rfl;omega
 have ayX:s.size<=maxLen:=by
  simp only[Ab,decide_eq_true_eq]at hr;exact CP hr<|by decide
 refine Xp (w':=bytesWorld w e s) (cap:=grownCap w s.size 0 e) (us:=bytesCells w e s) hH hb rfl rfl rfl (bytesWorld_at_old w e s) (bytesWorld_at_new w e s) (by rw[hlen];exact grownCap_ge _ _ _ _)
  (grownCap_le_maxLen _ _ _ _ ayX) (by rw[hsz];simp[ks]) ?_ ?_
 .intro i x j c u h1 h2 h3;have hj:j=0:=by
   have:=(BN.1 h2).1;simp[enc]at this;omega
  subst hj;simp only[enc,YP,Bs]at h2;subst h2;simp only[BA,D5,DA]at h1;obtain⟨y,hy,rfl⟩:=h1;have hi:i<s.data.size:=by have:=(BN.1 hy).1;simpa using this
  rw[show i * ks .u8+0=i by simp[ks]]at h3;simp only[bytesCells]at h3;rw[Lx<|by simpa using hi]at h3;simp only[Array.getElem?_map,DA]at h3;obtain⟨y',hy',rfl⟩:=h3;have:y=y':=by
   rw[TT]at hy;rw[hy]at hy';exact Ei hy'
  subst this;exact .lit rfl
 .rw[Go.Lib.run_convert_string_bytes w src dst e s hs hd he,hlen];rfl
end
end Go.VS
end
noncomputable section
namespace Go.VS
open Go
section
variable {P:Program} {B:Bb} {β:Beta} {H:Hp} {w w':World} {b:Nat} {tm:Nat->Value} {ρ:Operand->AV} {η:Operand->Value}
def avW{a c:A1}(h1:Af a.size 0=Y)(h2:Af c.size 0=Y):a=c:=by
 have e1:a.size=0:=Bk h1;have e2:c.size=0:=Bk h2;obtain⟨x⟩:=a;obtain⟨y⟩:=c;have e1':x.size=0:=e1;have e2':y.size=0:=e2;rw[aB8 e1',aB8 e2']
def asp{a c:AV}(h:ZP a c=Y){v:Value}(hv:RC w β a v):RC w β c v:=by
 unfold ZP at h;split at h
 .simp only[AD,decide_eq_true_eq]at h;obtain⟨rfl,rfl⟩:=h;exact hv
 .simp only[beq_iff_eq]at h;subst h;exact hv
 .simp only[AD]at h;obtain rfl:=avW h.1 h.2;exact hv
 .obtain rfl:=hv.NN;exact .nil
 .cases h
def k9:∀ {as cs:List AV} {us:List Value},M5 as cs=Y->RL (RC w β) as us->RL (RC w β) cs us
 | [],[],us,_,h=>h
 | [],_::_,_,h,_=>by simp[M5]at h
 | _::_,[],_,h,_=>by simp[M5]at h
 | a::as,c::cs,us,h,hl=>by
  simp only[M5,AD]at h;obtain⟨u,us',rfl,h1,h2⟩:=hl.C8;exact .cons (asp h.1 h1)<|k9 h.2 h2
def Xx{t:TypeId}{k:K}(h:zok P t k=Y):∃i z,P.info? t=I i/\i.zero=I z/\z.cells.size=ks k/\ ∀w β,RL (RC w β) (enc k<|dfl k) z.cells.toList:=by
 unfold zok at h;cases hz:I0 P t with
 | none=>rw[hz]at h;cases h
 | some zs=>
  rw[hz]at h;obtain⟨i,z,hi,hz',rfl,h1⟩:=Wd hz;have key:∀w β,RL (RC w β) (enc k<|dfl k) z.cells.toList:=λw β=>k9 h<|RL.lits _ h1;refine⟨i,z,hi,hz', ?_,key⟩;have:=(key default ⟨λ_=>G,λ_=>False⟩).1;rw[EN]at this;simpa using this
def W0{t:TypeId}{i:TypeInfo}(h:P.info? t=I i):P.cellsOf t=i.size:=by simp[Program.cellsOf,h]
def iN{t:TypeId}{i:TypeInfo}(h:P.info? t=I i):P.bytesOf t=i.bytes:=by simp[Program.bytesOf,h]
def dr{t e:TypeId}(h:IT P t=I e):P.underlying t=I (.slice e):=by
 unfold IT at h;split at h
 .cases h;assumption
 .cases h
def ann{k:K}{z:Array Value}(hz:z.size=ks k)(hr:RL (RC w β) (enc k<|dfl k) z.toList){n:Nat}:
  ∀i x j c u,(BS n<|dfl k)[i]? =I x->(enc k x)[j]? =I c->(madeCells z<|n * ks k)[i * ks k+j]? =I u->RC w β c u:=by
 intro i x j c u h1 h2 h3;have hx:x=dfl k:=List.eq_of_mem_replicate<|Cl h1;have hi:i<n:=by have:=(BN.1 h1).1;simpa using this
 subst hx;have hj:j<ks k:=by rw[← EN k<|dfl k];exact(BN.1 h2).1
 have hlt:i * ks k+j<n * ks k:=Nt hi hj;simp only[madeCells,Array.getElem?_map,DA]at h3;obtain⟨q,hq,rfl⟩:=h3;have hq':q=i * ks k+j:=by
  rw[HE]at hq;obtain⟨_,hq⟩:=hq;simpa using hq.symm
 subst hq';have hm:(i * ks k+j) % z.size=j:=by rw[hz,N6,Nat.add_mul_mod_self_right,OW hj]
 rw[hm];have hjz:j<z.size:=J
 refine hr.2 j c _ h2 ?_;simp[hjz]
def ars(hH:Hs B β H w)(hb:H b=G){t e:TypeId}{k:K}(he:IT P t=I e)(hz:zok P e k=Y)(hc:P.cellsOf e=ks k)(hby:P.bytesOf e<=256){n:Int}(h0:0<=n)(hn:n<=4294967296):
  Good B β H w b (.own b) [.row e A0 k<|BS n.toNat<|dfl k] (((Instr.makeSlice t (.int .i64 n)<|.int .i64 n).run P w).andThen λu w=> .ok (.value u) w):=by
 obtain⟨i,z,hi,hz',hs,hr⟩:=Xx hz;have hu:=dr he;rw[W0 hi]at hc;rw[iN hi]at hby;have hb1:(i.bytes:Int) * n<=281474976710656:=by
  have h1:(i.bytes:Int) * n<=256 * 4294967296:=Int.mul_le_mul J hn h0 J;omega
 have Ce:=run_make (P:=P) w t e i z hu hi hz' .i64 .i64 n n h0 (D0 _) hb1 J;rw[Ce,hc];have hml:n.toNat<=maxLen:=CP (J:n.toNat<=4294967296) aEp;refine Xp (w':=w.alloc<|.cells (madeCells z.cells<|n.toNat * ks k) e) (cap:=n.toNat) (us:=madeCells z.cells<|n.toNat * ks k) hH hb rfl rfl rfl (λj hj=>heap_alloc_old w _ hj) (heap_alloc_new w _) y9 hml
  (by rw[size_madeCells];exact Ar _) (ann hs<|hr w β) ?_
 simp
def Xj{k:K}:∀ {xs:List (Tof k)} {i j:Nat} {x:Tof k},xs[i]? =I x->j<ks k->(xs.flatMap<|enc k)[i * ks k+j]? =(enc k x)[j]?
 | [],_,_,_,h,_=>by simp at h
 | y::ys,0,j,x,h,hj=>by
  simp only[YP,Bs]at h;subst h;rw[Oa,I8 (by rw[EN];omega)];simp
 | y::ys,i+1,j,x,h,hj=>by
  simp only[aBI]at h;rw[Oa,F1 (by rw[EN,EH];omega),EN,← Xj h hj];congr 1;rw[EH];omega
def KV{k:K}(xs:List (Tof k)):(xs.flatMap<|enc k).length=xs.length * ks k:=by
 induction xs with
 | nil=>simp
 | cons x xs ih=>rw[Oa,Aq,EN,ih,Bl,EH];omega
def Pt{k:K}{xs:List (Tof k)}{us:List Value}(h:RL (RC w β) (xs.flatMap<|enc k) us):∀i x j c u,xs[i]? =I x->(enc k x)[j]? =I c->us[i * ks k+j]? =I u->RC w β c u:=by
 intro i x j c u h1 h2 h3;have hj:j<ks k:=by rw[← EN k x];exact(BN.1 h2).1
 exact h.2 _ c u (by rw[Xj h1 hj];exact h2) h3
def aob(hP:P=B.P)(hH:Hs B β H w)(hb:H b=G){t:TypeId}{n:Nat}{k:K}{zs:List AV}(hz:I0 P t=I zs)(hk:M5 zs ((BS n<|dfl k).flatMap<|enc k)=Y)(hc:P.cellsOf t=n * ks k)(hn:1<=n)
  {o:Oper}(ho:o.op= .alloc t):Good B β H w b (.ptr b (ks k) 0 0) [.arr t k<|BS n<|dfl k] ((execOp η o).run P w):=by
 obtain⟨i,z,hi,hz',rfl,h1⟩:=Wd hz;have JV:RL (RC w β) _ z.cells.toList:=k9 hk<|RL.lits _ h1;have hsz:z.cells.size=n * ks k:=by
  have:=JV.1;rw[KV]at this;simpa using this
 obtain⟨β',g1,g2,g3⟩:=hH.grow (w':=w.alloc<|.cells z.cells t) hb (.arr t k<|BS n<|dfl k) (.pointer<|I ⟨w.heap.size,0,G⟩) n rfl rfl rfl y9 (λj hj=>heap_alloc_old w _ hj) (λa ha=>by cases ha;simp)
  (λβ' hβ hk=>⟨w.heap.size,z.cells,by simpa using hβ,heap_alloc_new w _,by simpa using hsz,by rw[← hP,hc];exact hsz,λi x j c u a1 a2 a3=>hk _ _<|Pt JV i x j c u a1 a2<|by simpa using a3⟩)
 .refine⟨_,_,β', ?_,g1,g2,(?_:R2 (w.alloc<|.cells z.cells t) β' _ (.pointer<|I ⟨w.heap.size,0,G⟩))⟩
  .unfold execOp;rw[ho];simp[Instr.alloc,aDN hi hz',newVar,newRow]
  .have:=RC.ptr (w:=w.alloc<|.cells z.cells t) (β:=β') (id:=b) (sz:=ks k) (i:=0) (o:=0) g3 (b:=w.heap.size) (f:=0) rfl J;simpa[R2,R1] using this
def aC6(off:Nat):∀(ys:List Value) (n:Nat) (cs:Array Value),off+n+ys.length<=cs.size->
  (ys.zipIdx n).foldl (λcs (c,j)=>cs.setIfInBounds (off+j) c) cs=(cs.toList.take (off+n)++ys++cs.toList.drop (off+n+ys.length)).toArray
 | [],n,cs,_=>by simp
 | y::ys,n,cs,h=>by
  simp only[Bl]at h;rw[lL,Dr,aC6 off ys (n+1) _ o5];have e:=list_seg_step cs.toList (off+n) y ys o5;simpa[lH,D6,N6,Nat.add_left_comm] using e
def aCA(place:Nat->Option (Nat×Nat))(cells:Array Value)(i off:Nat)(v:Value)(rest:List (Nat×Value))(hp:place i=I (off,v.cells.size))(hl:off+v.cells.size<=cells.size):
  N5 place cells ((i,v)::rest)=N5 place (cells.toList.take off++v.cells.toList++cells.toList.drop (off+v.cells.size)).toArray rest:=by
 have h1:¬(v.cells.size≠v.cells.size\/off+v.cells.size > cells.size):=J
 rw[N5,hp];simp only[ne_eq,not_true_eq_false,Ae,Bq,decide_eq_true_eq];rw[A9 J,← Array.foldl_toList,Array.toList_zipIdx];have:=aC6 off v.cells.toList 0 cells (by simpa using hl);simp only[He,F2]at this;rw[this]
def aD7{α β':Type}(f:α->Option β'):∀(l:List α),(∀x∈l,(f x).isSome=Y)->∃r,l.mapM f=I r/\r.length=l.length/\ ∀(i:Nat) (x:α),l[i]? =I x->r[i]? =f x
 | [],_=>⟨[],by simp,rfl,λi x h=>by simp at h⟩
 | x::l,h=>by
  obtain⟨r,h1,h2,h3⟩:=aD7 f l (λy hy=>h y<|by simp[hy]);cases hx:f x with
  | none=>have:=h x y9;rw[hx]at this;cases this
  | some y=>
   refine⟨y::r,by simp[hx,h1],by simp[h2],λi z hi=> ?_⟩;cases i with
   | zero=>simp at hi;subst hi;simp[hx]
   | succ i=>simp at hi ⊢; exact h3 i z hi
def aAB(hη:∀x,RX w β tm (ρ x)<|η x){t:TypeId}{fs:Array Field}(hu:P.underlying t=I (.struct fs)){places:List (Nat×Nat)}
  (hp:∀(i:Nat) (f:Field),fs[i]? =I f->places[i]? =I (f.offset,P.cellsOf f.type)):∀(ps:List (Nat×Operand)) (cs:List AV) (us:Array Value) (ds:List AV),Hv P ρ t ps cs=I ds->RL (RC w β) cs us.toList->
  ∃vs:Array Value,N5 (places.toArray[·]?) us (ps.map fun(i,x)=>(i,η x))=I vs/\RL (RC w β) ds vs.toList
 | [],cs,us,ds,h,hl=>by
  simp only[Hv,Bs]at h;subst h;exact⟨us,by simp[N5],hl⟩
 | (i,x)::ps,cs,us,ds,h,hl=>by
  simp only[Hv]at h;cases hf:Ld P t i with
  | none=>rw[hf]at h;cases h
  | some f=>
   rw[hf]at h;simp only[A6]at h;cases hc:Ga (ρ x) with
   | none=>rw[hc]at h;cases h
   | some ys=>
    rw[hc]at h;simp only[A6]at h;split at h
    .rename_i hb;simp only[AD]at hb;have hb1:=Bk hb.1;have hb2:=Da hb.2;have hr:=S6 hc<|hη x;obtain⟨fs',hu',hf'⟩:=iG hf;rw[hu]at hu';cases hu';have hys:(η x).cells.size=ys.length:=by have:=hr.1;simpa using this
     have hcs:us.size=cs.length:=by have:=hl.1;simpa using this
     have hsp:RL (RC w β) (H4 cs f.offset ys) (us.toList.take f.offset++(η x).cells.toList++us.toList.drop (f.offset+(η x).cells.size)):=by
      unfold H4;rw[hys];exact((hl.take _).append hr).append<|hl.drop _
     obtain⟨vs,h1,h2⟩:=aAB hη hu hp ps _ (us.toList.take f.offset++(η x).cells.toList++us.toList.drop (f.offset+(η x).cells.size)).toArray ds h hsp;refine⟨vs, ?_,h2⟩;rw[DO,aCA _ _ i f.offset (η x) _ ?_ J]
     .exact h1
     .rw[TU,hp i f hf',hys,hb1]
    .cases h
def aqx(hη:∀x,RX w β tm (ρ x)<|η x)(hH:Hs B β H w){t:TypeId}{fs:Array Field}{ps:Array (Nat×Operand)}{zs cs:List AV}(hz:I0 P t=I zs)(hu:P.underlying t=I (.struct fs))(ha:(fs.toList.all λf=>(P.info? f.type).isSome)=Y)
  (h:Hv P ρ t ps.toList zs=I cs){o:Oper}(ho:o.op= .build t ps):Good B β H w b (.agg cs) [] ((execOp η o).run P w):=by
 obtain⟨i,z,hi,hz',rfl,h1⟩:=Wd hz;obtain⟨places,hm,hlen,hpl⟩:=aD7 (λf:Field=>(P.info? f.type).map λi=>(f.offset,i.size)) fs.toList (λf hf=>by
  have:=DM.1 ha f hf;simpa using this)
 obtain⟨vs,g1,g2⟩:=aAB (places:=places) hη hu (λi f hf=>by
  have ayV:=DM.1 ha f (Cl<|by simpa using hf);rw[hpl i f<|by simpa using hf];obtain⟨inf,acZ⟩:=Option.isSome_iff_exists.1 ayV;simp[acZ,W0 acZ]) ps.toList _ z.cells cs h (RL.lits _ h1)
 refine Good.same hH (u:= .agg vs) ?_ ⟨vs.toList,by simp,g2⟩;unfold execOp;rw[ho];have hb:P.built t (ps.map fun(i,x)=>(i,η x)).toList=I vs:=by
  simp only[Program.built,hi,hu,hz',hm];rw[← g1,Array.toList_map]
 simp only[Ej,run_build w t _ _ hb,F3];rfl
def avZ{k:K}{cs:List AV}{x:Tof k}(h:dec (λ_=>G) k cs=I x){us:List Value}(hl:RL (RC w β) cs us):RL (RC w β) (enc k x) us:=by
 have sl:∀(k:K) (c:AV) (l:List (Tof k)) (u:Value),CD (λ_=>G) k c=I l->RC w β c u->RC w β (.sl k l) u:=by
  intro k c l u h1 h2;unfold CD at h1;split at h1
  .obtain⟨e,rfl⟩:=Hq h1;subst e;exact h2
  .cases h1;rw[h2.NN];exact .nil
  .cases h1
  .cases h1
 unfold dec at h;split at h<;>try (cases h;done)
 all_goals try (cases h;exact hl)
 .rename_i x';cases hx:CD (λ_=>G) K.mixed x' with
  | none=>rw[hx]at h;cases h
  | some l=>
   rw[hx]at h;cases h;obtain⟨u1,_,rfl,g1,hl⟩:=hl.C8;obtain⟨u2,_,rfl,g2,hl⟩:=hl.C8;obtain⟨u3,_,rfl,g3,hl⟩:=hl.C8;obtain⟨u4,_,rfl,g4,hl⟩:=hl.C8;obtain⟨u5,_,rfl,g5,hl⟩:=hl.C8;obtain⟨u6,_,rfl,g6,hl⟩:=hl.C8;exact .cons g1 (.cons g2<|.cons g3<|.cons g4<|.cons g5<|.cons (sl _ _ _ _ hx g6) hl)
 .rename_i x' y' z';cases hx:CD (λ_=>G) K.note x' with
  | none=>rw[hx]at h;cases h
  | some l=>
   cases hy:CD (λ_=>G) K.mark y' with
   | none=>rw[hx,hy]at h;cases h
   | some m=>
    cases hz:CD (λ_=>G) K.note z' with
    | none=>rw[hx,hy,hz]at h;cases h
    | some n=>
     rw[hx,hy,hz]at h;cases h;obtain⟨u1,_,rfl,g1,hl⟩:=hl.C8;obtain⟨u2,_,rfl,g2,hl⟩:=hl.C8;obtain⟨u3,_,rfl,g3,hl⟩:=hl.C8;obtain⟨u4,_,rfl,g4,hl⟩:=hl.C8;obtain⟨u5,_,rfl,g5,hl⟩:=hl.C8;obtain⟨u6,_,rfl,g6,hl⟩:=hl.C8;exact .cons g1 (.cons g2<|.cons g3<|.cons (sl _ _ _ _ hx g4)<|.cons (sl _ _ _ _ hy g5)<|.cons (sl _ _ _ _ hz g6) hl)
 .rename_i x';cases hx:CD (λ_=>G) K.half x' with
  | none=>rw[hx]at h;cases h
  | some l=>
   rw[hx]at h;cases h;obtain⟨u1,_,rfl,g1,hl⟩:=hl.C8;obtain⟨u2,_,rfl,g2,hl⟩:=hl.C8;obtain⟨u3,_,rfl,g3,hl⟩:=hl.C8;obtain⟨u4,_,rfl,g4,hl⟩:=hl.C8;obtain⟨u5,_,rfl,g5,hl⟩:=hl.C8;exact .cons g1<|.cons g2<|.cons g3<|.cons g4<|.cons (sl _ _ _ _ hx g5) hl
def zw{k:K}:∀ {vs:List AV} {us:List Value} {xs:List (Tof k)},Mj k vs=I xs->(us.length=vs.length/\ ∀(j:Nat) (c:AV) (u:Value),vs[j]? =I c->us[j]? =I u->RX w β tm c u)->
  xs.length=vs.length/\(∀u∈us,u.cells.size=ks k)/\RL (RC w β) (xs.flatMap<|enc k) (us.flatMap λu=>u.cells.toList)
 | [],us,xs,h,hl=>by
  simp only[Mj,Bs]at h;subst h;obtain rfl:us=[]:=Du (by simpa using hl.1);exact⟨rfl,by simp,RL.nil⟩
 | v::vs,us,xs,h,hl=>by
  cases us with
  | nil=>exact absurd hl.1<|by simp
  | cons u us=>
   simp only[Mj]at h;cases hc:Ga v with
   | none=>rw[hc]at h;cases h
   | some cs=>
    rw[hc]at h;simp only[A6]at h;cases hd:dec (λ_=>G) k cs with
    | none=>rw[hd]at h;cases h
    | some x=>
     rw[hd]at h;simp only[A6]at h;cases hr:Mj k vs with
     | none=>rw[hr]at h;cases h
     | some ys=>
      rw[hr]at h;cases h;have h1:=avZ hd<|S6 hc<|hl.2 0 v u rfl rfl;obtain⟨i1,i2,i3⟩:=zw hr ⟨by have:=hl.1;simpa using this,λj c u' a1 a2=>hl.2 (j+1) c u' (by simpa using a1)<|by simpa using a2⟩;refine⟨by simp[i1],λu' hu'=> ?_, ?_⟩
      .rcases Bm.1 hu' with e|e
       .subst e;have:=h1.1;rw[EN]at this;simpa using this
       .exact i2 u' e
      .rw[Oa,Oa];exact h1.append i3
def iV:∀ {n:Nat} {ps:List (Nat×Operand)} {vs:List AV},Ht ρ n ps=I vs->ps=((ps.map (·.2)).zipIdx n).map (λx=>(x.2,x.1))/\vs=ps.map (λp=>ρ p.2)
 | n,[],vs,h=>by simp only[Ht,Bs]at h;subst h;exact⟨rfl,rfl⟩
 | n,(i,x)::ps,vs,h=>by
  simp only[Ht]at h;split at h
  .rename_i hi;obtain rfl:=Bk hi;cases hr:Ht ρ (i+1) ps with
   | none=>rw[hr]at h;cases h
   | some ws=>
    rw[hr]at h;cases h;obtain⟨h1,h2⟩:=iV hr;refine⟨?_,by simp[h2]⟩;rw[DO,lL,DO];exact congrArg _ h1
  .cases h
def aDo(sz:Nat):∀(us:List Value) (n:Nat) (cells:Array Value),(∀u∈us,u.cells.size=sz)->(n+us.length) * sz<=cells.size->
  N5 (λi=>I (i * sz,sz)) cells ((us.zipIdx n).map λx=>(x.2,x.1))=I (cells.toList.take (n * sz)++(us.flatMap λu=>u.cells.toList)++cells.toList.drop ((n+us.length) * sz)).toArray
 | [],n,cells,_,_=>by simp[N5]
 | u::us,n,cells,h,hl=>by
  have hu:=h u y9;simp only[Bl]at hl;have e1:(n+(us.length+1)) * sz=n * sz+(us.length * sz+sz):=by rw[EH,EH,Ol]
  have e2:(n+1+us.length) * sz=n * sz+(us.length * sz+sz):=by rw[← e1];congr 1;omega
  have e3:(n+1) * sz=n * sz+sz:=by rw[EH,Ol]
  rw[lL,DO,aCA _ _ n (n * sz) u _ (by simp[hu]) J,aDo sz us (n+1) _ (λv hv=>h v<|by simp[hv]) ?_]
  .congr 2;simp only[aBG,Oa,hu];have hcl:cells.toList.length=cells.size:=F2;have ht:(cells.toList.take (n * sz)++u.cells.toList).length=(n+1) * sz:=by
    simp only[Aq,Dg,F2,hu];omega
   have h4:(cells.toList.take (n * sz)++u.cells.toList++cells.toList.drop (n * sz+sz)).take ((n+1) * sz)=cells.toList.take (n * sz)++u.cells.toList:=by
    rw[← ht,OY];rfl
   have h5:(cells.toList.take (n * sz)++u.cells.toList++cells.toList.drop (n * sz+sz)).drop ((n+1+us.length) * sz)=cells.toList.drop ((n+(us.length+1)) * sz):=by
    rw[List.drop_append,ht,Lu (by rw[ht,e2,e3];omega),Eb,Il];congr 1;rw[e1,e2,e3];omega
   rw[h4,h5];simp[C3,N6,Nat.add_left_comm,D6]
  .simp only[Kw,Aq,Dg,F2,EI,hu];omega
def alD(hη:∀x,RX w β tm (ρ x)<|η x)(hH:Hs B β H w)(hb:H b=G){t e:TypeId}{len:Nat}{ps:Array (Nat×Operand)}{k:K}{vs:List AV}{xs:List (Tof k)}(he:IT P t=I e)(hp:Ht ρ 0 ps.toList=I vs)(hd:Mj k vs=I xs)
  (hl:vs.length=len)(hc:P.cellsOf e=ks k)(hsm:len<=65536)(hz:zok P e k=Y){o:Oper}(ho:o.op= .buildSlice t len ps):Good B β H w b (.own b) [.row e A0 k xs] ((execOp η o).run P w):=by
 obtain⟨i,z,hi,hz',hs,_⟩:=Xx hz;have hu:=dr he;by_cases ayN:len=0
 .subst ayN;obtain rfl:vs=[]:=Du hl;simp only[Mj,Bs]at hd;subst hd;have hps:ps= #[]:=by
   have:=(iV hp).2;have h2:ps.toList=[]:=by
    have:=congrArg JL this;exact Du<|by simpa using this.symm
   exact Array.toList_inj.1<|by simpa using h2
  subst hps;refine Xp (w':=w.alloc<|.cells #[] e) (cap:=0) (us:= #[]) hH hb rfl rfl rfl (λj hj=>heap_alloc_old w _ hj) (heap_alloc_new w _) y9 y9 y9 (λi x j c u a1=>by simp at a1) ?_;unfold execOp;rw[ho];simp[Instr.buildSlice,run_underlying hu,sizeOf,typeInfo,hi,N5,newRow,show TZ 0= #[] from by simp[TZ]]
 have h0:1<=len:=J
 rw[W0 hi]at hc;obtain⟨h1,rfl⟩:=iV hp;have hkp:=Hw k;have az3:ks k<=16:=by cases k<;>decide
 have hu':((ps.toList.map λp=>η p.2).length=(ps.toList.map λp=>ρ p.2).length):=by simp
 obtain⟨d1,d2,d3⟩:=zw (w:=w) (β:=β) (tm:=tm) (us:=ps.toList.map λp=>η p.2) hd ⟨by simp,λj c u a1 a2=>by
  simp only[D5,DA]at a1 a2;obtain⟨p,hp1,rfl⟩:=a1;obtain⟨p',hp2,rfl⟩:=a2;rw[hp1]at hp2;cases hp2;exact hη _⟩
 have ay6:(ps.map fun(i,x)=>(i,η x)).toList=((ps.toList.map λp=>η p.2).zipIdx 0).map λx=>(x.2,x.1):=by
  rw[Array.toList_map]
  conv=>lhs;rw[h1]
  rw[IE,List.zipIdx_map,List.zipIdx_map,IE,IE];rfl
 have hlen:(ps.toList.map λp=>η p.2).length=len:=by simpa using hl
 have acN:=aDo (ks k) (ps.toList.map λp=>η p.2) 0 ((TZ<|len * ks k).map (z.cells[· % z.cells.size]!)) d2 (by simp[hlen]);have ayB:¬len * i.size > 2 ^ 24:=by
  rw[hc];have:len * ks k<=65536 * 16:=l6 hsm az3;omega
 have R3:¬len * i.size=0:=by
  rw[hc];have:1 * 1<=len * ks k:=l6 h0 hkp;omega
 have oB:(((TZ<|len * ks k).map (z.cells[· % z.cells.size]!)).toList.take (0 * ks k)++((ps.toList.map λp=>η p.2).flatMap λu=>u.cells.toList)++((TZ<|len * ks k).map (z.cells[· % z.cells.size]!)).toList.drop ((0+(ps.toList.map λp=>η p.2).length) * ks k)).toArray
   =((ps.toList.map λp=>η p.2).flatMap λu=>u.cells.toList).toArray:=by
  rw[hlen,Lu y9];simp
 rw[oB]at acN;have Ce:=run_buildSlice w t e len (ps.map fun(i,x)=>(i,η x)) _ i z hu hi hz' ayB R3 (by rw[ay6,hc];exact acN);have hxl:xs.length=len:=by rw[d1];exact hl
 refine Xp (w':=w.alloc<|.cells ((ps.toList.map λp=>η p.2).flatMap λu=>u.cells.toList).toArray e) (cap:=len) hH hb rfl rfl rfl (λj hj=>heap_alloc_old w _ hj) (heap_alloc_new w _) J (CP hsm aEp) ?_ ?_ ?_
 .have:=d3.1;rw[KV]at this;simp only[Kw];rw[this,hxl];exact Ar _
 .intro i x j c u a1 a2 a3;exact Pt d3 i x j c u a1 a2 (by simpa using a3)
 .unfold execOp;rw[ho];simp only[Ej,Ce,F3,hxl];rfl
def WI{lo hi:Option Operand}{n:Nat}{l h:Int}(hη:∀x,RX w β tm (ρ x)<|η x)(hc:JI (lo.map ρ) (hi.map ρ) n=I (Y,l,h))(isS:Bool){cap:Nat}(Hi:n<=cap):
  (QJ isS n cap (lo.map η) (hi.map η) G).run P w= .ok (l.toNat,h.toNat,cap) w/\0<=l/\l<=h/\h<=(n:Int):=by
 have hB:∀(k:IntKind) (i:Int) (y:Nat) (code:BoundsCode),0<=i->i<=(y:Int)->(Instr.sliceBound (.int k i) y code).run P w= .ok i.toNat w:=by
  intro k i y code h1 h2;simp[Instr.sliceBound,asIntOf,h1,h2]
 unfold JI at hc;split at hc
 .rename_i h1 h2;cases lo with
  | some x=>cases h1
  | none=>
  cases hi with
  | some x=>cases h2
  | none=>
   simp only[Bs,CL]at hc;obtain⟨_,rfl,rfl⟩:=hc;exact⟨by simp[QJ],J,J,J⟩
 .rename_i k l' h1 h2;cases hi with
  | some x=>cases h2
  | none=>
  cases lo with
  | none=>cases h1
  | some x=>
   simp only[QW,Bs]at h1;have hx:=hη x;rw[h1]at hx;simp only[Bs,CL,AD,decide_eq_true_eq]at hc;obtain⟨⟨g1,g2⟩,rfl,rfl⟩:=hc;refine⟨?_,g1,g2,J⟩;simp[QJ,hx.lit,hB _ _ _ _ g1 g2]
 .rename_i k l' h1 h2;cases lo with
  | some x=>cases h1
  | none=>
  cases hi with
  | none=>cases h2
  | some x=>
   simp only[QW,Bs]at h2;have hx:=hη x;rw[h2]at hx;simp only[Bs,CL,AD,decide_eq_true_eq]at hc;obtain⟨⟨g1,g2⟩,rfl,rfl⟩:=hc;refine⟨?_,J,g1,g2⟩;cases isS<;>simp[QJ,hx.lit,hB _ _ _ _ g1 (J:l'<=(cap:Int))]
 .rename_i k1 l' k2 h' h1 h2;cases lo with
  | none=>cases h1
  | some y=>
  cases hi with
  | none=>cases h2
  | some x=>
   simp only[QW,Bs]at h1 h2;have hy:=hη y;rw[h1]at hy;have hx:=hη x;rw[h2]at hx;simp only[Bs,CL,AD,decide_eq_true_eq]at hc;obtain⟨⟨⟨g1,g2⟩,g3,g4⟩,rfl,rfl⟩:=hc;refine⟨?_,g3,g4,g2⟩;have e1:=hB k2 h' cap;have e2:=hB k1 l' h'.toNat .sliceB g3 J;cases isS<;>simp[QJ,hx.lit,hy.lit,e1 _ g1 (J:h'<=(cap:Int)),e2]
 .cases hc
def mK{α:Type}{lo hi:Option AV}{l h:Int}{xs:List α}(hc:JI lo hi xs.length=I (Y,l,h)):Ih lo hi l h xs=(xs.take h.toNat).drop l.toNat:=by
 unfold JI at hc;split at hc
 .simp only[Bs,CL]at hc;obtain⟨_,rfl,rfl⟩:=hc;simp[Ih]
 .simp only[Bs,CL]at hc;obtain⟨_,rfl,rfl⟩:=hc;simp[Ih]
 .simp only[Bs,CL]at hc;obtain⟨_,rfl,rfl⟩:=hc;simp[Ih]
 .simp only[Bs,CL]at hc;obtain⟨_,rfl,rfl⟩:=hc;simp[Ih]
 .cases hc
def RC.cut{k:K}{xs:List (Tof k)}{bb f cap l h:Nat}{ys:List (Tof k)}(hy:ys=(xs.take h).drop l)(hlh:l<=h)(hh:h<=xs.length)(hx:RC w β (.sl k xs) (.slice (I ⟨bb,f,G⟩) xs.length cap))(Hi:xs.length<=cap):
  RC w β (.sl k ys) (.slice (if cap=l then I ⟨bb,f,G⟩ else I ⟨bb,f+l * ks k,G⟩) (h - l)<|cap - l):=by
 by_cases he:h=l
 .obtain rfl:ys=[]:=by subst hy;subst he;rw[Lu];simp;omega
  rw[show h - l=0 by omega];exact .nil
 .have hne:xs≠[]:=λe=>by subst e;simp at hh;omega
  rw[A9 J];cases hx with
  | nil=>exact absurd rfl hne
  | sl u hn hm hu hr=>
   have hyl:ys.length=h - l:=by subst hy;simp;omega
   refine .sl (λi j=>u (l+i) j) ⟨hyl.symm,J⟩ hm (λi j hi hj=> ?_) (λi x j c h1 h2=>hr (l+i) x j c ?_ h2)
   .have:=hu (l+i) j J hj;rw[EH]at this;rw[← this];congr 2;omega
   .subst hy;rw[Hb,Gi]at h1;split at h1
    .exact h1
    .cases h1
def iU{t e:TypeId}(hu:P.underlying t=I (.slice e))(h1:1<=P.cellsOf e){a:Option Addr}{n cap l h m:Nat}{lo hi:Option Value}(hb:(QJ Y n cap lo hi G).run P w= .ok (l,h,m) w):
  (QU t (.slice a n cap) lo hi G).run P w= .ok (.slice (if m=l then a else a.map (·.add (l * P.cellsOf e))) (h - l)<|m - l) w:=by
 simp[QU,Instr.slice,run_underlying hu,hb,Kb h1]
def aqk(hη:∀x,RX w β tm (ρ x)<|η x)(hH:Hs B β H w){t:TypeId}{x:Operand}{lo hi:Option Operand}(hf:Iz P H t (ρ x)=Y){q:Bool}{v:AV}{os:List Ob}(h:QE (lo.map ρ) (hi.map ρ) (ρ x)=I (q,v,os))(hq:q=Y):
  Good B β H w b v os (((QU t (η x) (lo.map η) (hi.map η) G).run P w).andThen λu w=> .ok (.value u) w):=by
 subst hq;have hx:=hη x;generalize ρ x=c at h hx hf;unfold QE at h;split at h
 .rename_i s;cases hc:JI (lo.map ρ) (hi.map ρ) s.size with
  | none=>rw[hc]at h;cases h
  | some r=>
   obtain⟨q',l,h'⟩:=r;rw[hc]at h;simp only[A6,Bs,CL]at h;obtain⟨rfl,rfl,rfl⟩:=h;obtain⟨hb,g1,g2,g3⟩:=WI (P:=P) (w:=w) (β:=β) (tm:=tm) hη hc A0<|Ar _;rw[hx.lit];have hu:P.underlying t=I .string:=by
    unfold Iz at hf;split at hf<;>simp_all
   refine Good.same hH (u:= .string<|s.extract l.toNat h'.toNat) ?_ rfl;simp[QU,Instr.slice,run_underlying hu,hb]
 .rename_i k xs;cases hc:JI (lo.map ρ) (hi.map ρ) xs.length with
  | none=>rw[hc]at h;cases h
  | some r=>
   obtain⟨q',l,h'⟩:=r;rw[hc]at h;simp only[A6,Bs,CL]at h;obtain⟨rfl,rfl,rfl⟩:=h;obtain⟨e,hu,hk⟩:∃e,P.underlying t=I (.slice e)/\P.cellsOf e=ks k:=by
    unfold Iz at hf;split at hf<;>simp_all
   have h1:=Hw k;have hx':RC w β (.sl k xs) (η x):=hx;obtain⟨a,cap,hv,Hi⟩:=hx'.o7.len;obtain⟨hb,g1,g2,g3⟩:=WI (P:=P) (w:=w) (β:=β) (tm:=tm) hη hc Y Hi;rw[hv]at hx' ⊢;rw[iU hu J hb,hk];refine Good.same hH rfl ?_;by_cases hxs:xs=[]
   .subst hxs;have e1:h'.toNat - l.toNat=0:=by simp at g3;omega
    have e2:Ih (lo.map ρ) (hi.map ρ) l h' ([]:List (Tof k))=[]:=by rw[mK hc];simp
    rw[e1,e2];exact RC.nil
   .have ha:∃bb f,a=I ⟨bb,f,G⟩:=by
     cases hx' with
     | nil=>exact absurd rfl hxs
     | sl=>exact⟨_,_,rfl⟩
    obtain⟨bb,f,rfl⟩:=ha;have:=RC.cut (l:=l.toNat) (h:=h'.toNat) (mK hc) J J hx' Hi;simpa[R2,R1,Gl,apply_ite] using this
 .cases hc:JI (lo.map ρ) (hi.map ρ) 0 with
  | none=>rw[hc]at h;cases h
  | some r=>
   obtain⟨q',l,h'⟩:=r;rw[hc]at h;simp only[A6,Bs,CL]at h;obtain⟨rfl,rfl,rfl⟩:=h;obtain⟨e,hu,hk⟩:∃e,P.underlying t=I (.slice e)/\1<=P.cellsOf e:=by
    unfold Iz at hf;split at hf<;>simp_all
   obtain⟨hb,g1,g2,g3⟩:=WI (P:=P) (w:=w) (β:=β) (tm:=tm) hη hc Y<|Ar _;rw[hx.lit,iU hu hk hb];have e1:h'.toNat=0:=J
   have e2:l.toNat=0:=J
   refine Good.same hH (u:= .slice G 0 0) ?_ rfl;rw[e1,e2];rfl
 .cases h
end
end Go.VS
namespace Go.VS
open Go
section
variable {P:Program} {B:Bb} {β:Beta} {H:Hp} {w w':World} {b:Nat} {tm:Nat->Value} {ρ:Operand->AV} {η:Operand->Value} {kd:TypeId->Option K}
def asH(hP:P=B.P)(hη:∀x,RX w β tm (ρ x)<|η x)(htm:∀g,η (.tmp g)=tm g)(hcv:∀v,η (.const v)=v)(hH:Hs B β H w)(hb:H b=G){o:Oper}{q:Bool}{v:AV}{os:List Ob}
  (h:CA P kd ρ H b o.op=I (q,v,os))(hq:q=Y):Good B β H w b v os ((execOp η o).run P w):=by
 generalize ho:o.op=op at h;have P8:∀ {s:Sem Value},(execOp η o=(do pure (.value<|← s):Sem Next))->(execOp η o).run P w=(s.run P w).andThen λu w=> .ok (.value u) w:=by
  intro s e;rw[e];simp only[Ej];rfl
 cases op<;>try (simp[CA]at h;done)
 case move x=>
  obtain⟨rfl,_,rfl,hg⟩:=O5 h;refine Good.same hH (u:=η x) ?_<|(hη x).of hg;unfold execOp;rw[ho];rfl
 case assign x=>
  obtain⟨rfl,_,rfl,hg⟩:=O5 h;refine Good.same hH (u:=η x) ?_<|(hη x).of hg;unfold execOp;rw[ho];rfl
 case pick c x y=>exact asI hη htm hcv hH h hq ho
 case alloc t=>
  simp only[CA]at h;split at h
  .rename_i n e hu;cases hk:kd e with
   | none=>rw[hk]at h;cases h
   | some k=>
    cases hz:I0 P t with
    | none=>rw[hk,hz]at h;cases h
    | some zs=>
     rw[hk,hz]at h;simp only[A6]at h;split at h
     .rename_i hc;simp only[AD]at hc;cases h;exact aob hP hH hb hz hc.1.1 (Bk hc.1.2) (Da hc.2) ho
     .cases h
  .cases hz:I0 P t with
   | none=>rw[hz]at h;cases h
   | some zs=>
    rw[hz]at h;cases h;exact ar0 hH hb hz ho
 case box t x=>
  simp only[CA]at h;cases hc:Ga (ρ x) with
  | none=>rw[hc]at h;cases h
  | some cs=>
   rw[hc]at h;cases h;exact avS hη hH hb hc ho
 case build t ps=>
  simp only[CA]at h;cases hz:I0 P t with
  | none=>rw[hz]at h;cases h
  | some zs=>
   rw[hz]at h;simp only[A6]at h;split at h
   .rename_i fs hu;split at h
    .rename_i ha;cases hc:Hv P ρ t ps.toList zs with
     | none=>rw[hc]at h;cases h
     | some cs=>
      rw[hc]at h;obtain⟨rfl,_,rfl⟩:=DH h;exact aqx hη hH hz hu ha hc ho
    .cases h
   .cases h
 case buildSlice t len ps=>
  simp only[CA]at h;cases he:IT P t with
  | none=>rw[he]at h;cases h
  | some e=>
   rw[he]at h;simp only[A6]at h;cases hk:kd e with
   | none=>rw[hk]at h;cases h
   | some k=>
    rw[hk]at h;simp only[A6]at h;cases hp:Ht ρ 0 ps.toList with
    | none=>rw[hp]at h;cases h
    | some vs=>
     rw[hp]at h;simp only[A6]at h;cases hd:Mj k vs with
     | none=>rw[hd]at h;cases h
     | some xs=>
      rw[hd]at h;simp only[A6]at h;split at h
      .rename_i hc;simp only[AD]at hc;cases h;exact alD hη hH hb he hp hd (Bk hc.1.1.1) (Bk hc.1.1.2) (Da hc.1.2) hc.2 ho
      .cases h
 case load t p=>
  simp only[CA]at h;cases hl:Jp P H t (ρ p) with
  | none=>rw[hl]at h;cases h
  | some v'=>
   rw[hl]at h;obtain⟨rfl,_,rfl⟩:=DH h;exact awI hP hη hH hl ho
 case nilCheck p=>
  simp only[CA]at h;split at h
  .rename_i hp;obtain⟨rfl,_,rfl⟩:=DH h;exact yh hη hH (.inl ⟨_,_,_,_,rfl⟩) hp ho
  .rename_i hp;obtain⟨rfl,_,rfl⟩:=DH h;exact yh hη hH (.inr ⟨_,_,_,rfl⟩) hp ho
  .cases h
 case binOp op t x y z=>
  refine aqy (t:=t) (x:=x) (y:=y) hη hH h hq<|P8 ?_;unfold execOp;rw[ho]
 case unOp op t x=>
  rw[P8 (by unfold execOp;rw[ho])];exact arB hη hH h
 case convert src dst x=>
  rw[P8 (by unfold execOp;rw[ho])];have hx:=hη x;have conv:(Ie P src dst (ρ x)=I (q,v,os)/\ ∀i,v≠ .own i)\/(∃c i os',Ie P src dst (ρ x)=I (c,.own i,os')/\(c,AV.own b,os')=(q,v,os))\/ ∃e xs,P.underlying src=I (.slice e)/\P.underlying dst=I .string/\P.underlying e=I (.int .u8)/\CD H .u8 (ρ x)=I xs/\v= .s (BF xs)/\os=[]:=by
   simp only[CA]at h;split at h
   .rename_i e hs hd;split at h
    .rename_i he;cases hx:CD H .u8 (ρ x) with
     | none=>rw[hx]at h;cases h
     | some xs=>
      rw[hx]at h;obtain⟨rfl,_,rfl⟩:=DH h;exact .inr (.inr ⟨e,xs,hs,hd,he,rfl,rfl,rfl⟩)
    .cases h
   .split at h
    .rename_i c i os' hc;exact .inr (.inl ⟨c,i,os',hc,Ei h⟩)
    .rename_i hno;exact .inl ⟨h,λi e=>hno q i os<|by rw[h,e]⟩
  have azT:∀e xs,CD H .u8 (ρ x)=I xs->P.underlying src=I (.slice e)->∀g w y,ρ x≠ .gd g w y:=by
   intro e xs h1 h2 g w y h3;rw[h3]at h1;simp[CD]at h1
  have cA:∀q v os,Ie P src dst (ρ x)=I (q,v,os)->q=Y->(∀i,v≠ .own i)->Good B β H w b v os (((convert src dst<|η x).run P w).andThen λu w=> .ok (.value u) w):=by
   intro q v os h hq hn;generalize ρ x=c at h hx;unfold Ie at h;split at h
   .rename_i d k k' n KI hd;obtain⟨rfl,_,rfl⟩:=DH h;rw[hx.lit];refine Good.same hH (u:= .int k<|k.wrap n) ?_ rfl;cases d<;>simp[convert,run_underlying KI,run_underlying hd,Conv.intToInt]
   .rename_i hs hd;obtain⟨rfl,_,rfl⟩:=DH h;rw[hx.lit];refine Good.same hH (u:= .string _) ?_ rfl;simp[convert,run_underlying hs,run_underlying hd]
   .split at h
    .simp only[Bs,CL]at h;exact absurd h.2.1.symm (hn 0)
    .cases h
   .cases h
  obtain⟨h1,hno⟩|⟨c,i,os',h1,h2⟩|⟨e,xs,hs,hd,he,h1,rfl,rfl⟩:=conv
  .exact cA q v os h1 hq hno
  .cases h2;subst hq;generalize ρ x=c at h1 hx;unfold Ie at h1;split at h1
   .cases h1
   .cases h1
   .rename_i e s hs hd;split at h1
    .rename_i he;simp only[Bs,CL]at h1;obtain⟨hr,_,rfl⟩:=h1;rw[hx.lit];exact aqw hH hb hs hd he hr
    .cases h1
   .cases h1
  .have hx2:R2 w β (ρ x) (η x):=hx.of<|azT e xs h1 hs;refine Good.same hH (u:= .string<|BF xs) ?_ rfl;rw[ar7 hs he hd<|aap hH h1 hx2];rfl
 case makeSlice t l c=>
  rw[P8 (by unfold execOp;rw[ho])];have mk:∀n,η l= .int .i64 n->η c= .int .i64 n->((IT P t).bind λe=>(kd e).bind λk=>
   match zok P e k&&Af (P.cellsOf e) (ks k)&&Dq (P.bytesOf e) 256 with
   | true=>I (U (0<=n)&&U (n<=4294967296),AV.own b,[Ob.row e A0 k (BS n.toNat<|dfl k)])
   | false=>G)=I (q,v,os)->Good B β H w b v os (((Instr.makeSlice t (η l)<|η c).run P w).andThen λu w=> .ok (.value u) w):=by
   intro n h1 h2 h;cases he:IT P t with
   | none=>rw[he]at h;cases h
   | some e=>
    rw[he]at h;simp only[A6]at h;cases hk:kd e with
    | none=>rw[hk]at h;cases h
    | some k=>
     rw[hk]at h;simp only[A6]at h;split at h
     .rename_i hc;simp only[AD]at hc;simp only[Bs,CL]at h;obtain⟨hr,rfl,rfl⟩:=h;rw[hq]at hr;simp only[AD,decide_eq_true_eq]at hr;rw[h1,h2];exact ars hH hb he hc.1.1 (Bk hc.1.2) (Da hc.2) hr.1 hr.2
     .cases h
  have hl:=hη l;have hc:=hη c;simp only[CA]at h;split at h
  .rename_i n hl' Gm;rw[hl']at hl;split at Gm
   .obtain rfl:=Bk Gm;exact mk n hl.lit hl.lit h
   .cases Gm
  .rename_i n m hl' hc' Gm;rw[hl']at hl;rw[hc']at hc;split at h
   .rename_i hnm;obtain rfl:n=m:=by simpa using hnm
    exact mk n hl.lit hc.lit h
   .cases h
  .cases h
 case slice t x lo hi mx=>
  cases mx with
  | some m=>simp[CA]at h
  | none=>
   rw[P8 (by unfold execOp;rw[ho])];simp only[CA]at h;split at h
   .rename_i hf;exact aqk hη hH hf h hq
   .cases h
 case fieldAddr t x f=>
  simp only[CA]at h;cases hf:Ld P t f with
  | none=>rw[hf]at h;cases h
  | some fd=>
   rw[hf]at h;simp only[A6]at h;split at h
   .rename_i h1;split at h
    .rename_i hp;obtain⟨rfl,_,rfl⟩:=DH h;exact yL hη hH hf (Da h1) (.inl ⟨_,_,_,_,hp,rfl⟩) ho
    .rename_i hp;obtain⟨rfl,_,rfl⟩:=DH h;exact yL hη hH hf (Da h1) (.inr ⟨_,_,_,hp,rfl⟩) ho
    .cases h
   .cases h
 case field t x f=>
  simp only[CA]at h;cases hf:Ld P t f with
  | none=>rw[hf]at h;cases h
  | some fd=>
   rw[hf]at h;simp only[A6]at h;split at h
   .rename_i cs hx;cases hl:HT P fd.type cs fd.offset with
    | none=>rw[hl]at h;cases h
    | some v'=>
     rw[hl]at h;obtain⟨rfl,_,rfl⟩:=DH h;exact aqY hη hH hf hx hl ho
   .cases h
 case indexAddr t x ix=>
  rw[P8 (by unfold execOp;rw[ho])];simp only[CA]at h;split at h
  .rename_i hi;exact amg hP hη hH hi h hq
  .cases h
 case index t x ix=>
  rw[P8 (by unfold execOp;rw[ho])];simp only[CA]at h;split at h
  .rename_i hi;exact aqO hη hH hi h hq
  .cases h
 case extract x i=>
  simp only[CA]at h;split at h
  .rename_i vs hx;cases hv:vs[i]? with
   | none=>rw[hv]at h;cases h
   | some v'=>
    rw[hv]at h;obtain⟨rfl,_,rfl⟩:=DH h;exact apN hη hH hx hv ho
  .cases h
 case call c=>
  have Qx:∀ {x:Operand} {v:Value},ρ x= .lit v->η x=v:=fun {x v} e=>by have:=hη x;rw[e]at this;exact this.lit
  obtain⟨cal,⟨args⟩,⟨tys⟩⟩:=c;simp only[CA,JA]at h;split at h
  .rename_i x t;have run:∀n:Nat,(QN #[t] o.type #[η x]).run P w= .ok (.int .i64 n) w->Good B β H w b (.i n) [] ((execOp η o).run P w):=by
    intro n hn;refine Good.same hH (u:= .int .i64 n) ?_ rfl;unfold execOp;rw[ho];simp[resolve,invoke,builtin,hn]
   split at h
   .rename_i s hu hx;obtain⟨rfl,_,rfl⟩:=DH h;refine run _ ?_;rw[Qx hx];simp[QN,run_underlying hu,goInt]
   .rename_i e k xs hu hx;obtain⟨rfl,_,rfl⟩:=DH h;have h1:=hη x;rw[hx]at h1;have h2:RC w β (.sl k xs) (η x):=h1;obtain⟨a,cap,hv,_⟩:=h2.o7.len;refine run _ ?_;rw[hv,jc hu]
   .rename_i e hu hx;obtain⟨rfl,_,rfl⟩:=DH h;refine run 0 ?_;rw[Qx hx,jc hu]
   .rename_i e id hu hx;split at h
    .rename_i e' fz k xs hid;obtain⟨rfl,_,rfl⟩:=DH h;have h1:=hη x;rw[hx]at h1;have h2:RC w β (.own id) (η x):=h1;obtain⟨hd,h3,h4⟩:=hH.EK id _ hid;generalize hg:η x=g at h2 run;cases h2 with
     | own h5 h6=>
      rw[h3]at h5;cases h5;obtain⟨a,cap,hv,_⟩:=h4.cells.len;refine run _ ?_;rw[hv,jc hu]
    .cases h
   .rename_i n e v hu;obtain⟨rfl,_,rfl⟩:=DH h;refine run _ ?_;simp[QN,run_underlying hu,goInt]
   .cases h
  .rename_i x y;split at h
   .rename_i k a k' c hx hy;split at h
    .rename_i hk;obtain rfl:k=k':=by simpa using hk
     obtain⟨rfl,_,rfl⟩:=DH h;refine Good.same hH (u:= .int k<|if c<a then c else a) ?_ rfl;unfold execOp;rw[ho];simp[resolve,invoke,builtin,Builtin.min_,Builtin.min2,Qx hx,Qx hy]
    .cases h
   .cases h
  .rename_i x y;split at h
   .rename_i k a k' c hx hy;split at h
    .rename_i hk;obtain rfl:k=k':=by simpa using hk
     obtain⟨rfl,_,rfl⟩:=DH h;refine Good.same hH (u:= .int k<|if a<c then c else a) ?_ rfl;unfold execOp;rw[ho];simp[resolve,invoke,builtin,Builtin.max_,Builtin.max2,Qx hx,Qx hy]
    .cases h
   .cases h
  .cases h
end
end Go.VS
namespace Go.VS
open Go
section
variable {B:Bb} {β β':Beta} {stk:List (Array Value)} {s:S} {a:Act} {w w':World}
def atf{cs:List Value}(h:cs.all Za=Y):∀v∈cs,v.oneCell'=Y:=λv hv=>by
 rw[← aaD];exact DM.1 h v hv
def atg(v:Value):R2 w β (ofV v) v:=by
 unfold ofV;split
 .rename_i cs;split
  .rename_i h;exact⟨cs.toList,by simp,RL.lits _<|atf h⟩
  .trivial
 .rfl
def St.eval(h:St B β stk s a w)(x:Operand):RX w β (BZ a) (s.ev x) (a.eval x):=by
 cases x with
 | tmp t=>exact(h.T t).Zv
 | const v=>
  have:=atg (w:=w) (β:=β) v;show RX w β (BZ a) (ofV v) v;exact RT.Zv<|RT.HG this
 | _=>trivial
def aaq{l:List Nat}{t:Nat}(h:(l.any λp=>Af p t)=A0):t ∉ l:=by
 intro hm;have:(l.any λp=>Af p t)=Y:=KA.2 ⟨t,hm,by simp⟩;rw[h]at this;cases this
def St.put(h:St B β stk s a w){d:Option Nat}(hd:s.has d=Y){v:AV}{u:Value}(hv:RT w β (BZ a) v u)(hg:∀g want x,v= .gd g want x->s.gs g=Y):St B β stk (s.put d v) (a.put d u) w:=by
 cases d with
 | none=>exact h
 | some d=>
  simp only[S.has,AD,CE]at hd;obtain⟨⟨h1,h2⟩,h3⟩:=hd;have hlt:d<a.tmps.size:=by rw[h.n];exact Gj (OX d)<|Da h1
  have hp:=aaq h2;have hgs:s.gs d≠Y:=by rw[h3];simp
  have ayQ:BZ (a.put (I d) u) d=u:=by simp[BZ,Act.put,hlt]
  have tne:∀t,t≠d->BZ (a.put (I d) u) t=BZ a t:=λt ht=>by
   simp only[BZ,Act.put,TG];rw[aB7 λe=>ht e.symm]
  have rt:∀x y,RT w β (BZ a) x y->(∀g want z,x= .gd g want z->s.gs g=Y)->RT w β (BZ<|a.put (I d) u) x y:=by
   intro x y hx hx';cases x with
   | gd g want z=>
    have hne:g≠d:=λe=>hgs<|e▸hx' g want z rfl;refine⟨λe=>hx.1<|by rwa[tne g hne]at e,λe=>hx.2<|by rwa[tne g hne]at e⟩
   | _=>exact hx
  refine⟨λt=> ?_,h.stack, ?_,h.defers,λt ht=> ?_,λt g want x hx=> ?_,h.hs⟩
  .show RT w β _ (upd s.T d v t) _;by_cases e:t=d
   .subst e;rw[Be,ayQ];exact rt _ _ hv hg
   .rw[BB _ _ e,tne t e];exact rt _ _ (h.T t) (h.gs t)
  .show(a.put (I d) u).tmps.size=s.n;simpa[Act.put] using h.n
  .have hne:t≠d:=λe=>hp<|e▸ht;rw[tne t hne];exact h.pins t ht
  .have hx:upd s.T d v t= .gd g want x:=hx;by_cases e:t=d
   .subst e;rw[Be]at hx;exact hg _ _ _ hx
   .rw[BB _ _ e]at hx;exact h.gs _ _ _ _ hx
def St.map{f:AV->AV}(h:St B β stk s a w)(hf:∀c,GR c=Y->f c=c)(hg:∀c g want x,f c= .gd g want x->∃y,c= .gd g want y)(hk:Kf f w β w' β'){H':Hp}(hH:Hs B β' H' w'):St B β' stk { s.map f with H:=H' } a w':=by
 have g1:∀c g want x,Fv f c= .gd g want x->∃y,c= .gd g want y:=by
  intro c g want x e;cases c<;>first|(cases e;done)|exact hg _ _ _ _ e
 have g2:∀c g want x,GG f c= .gd g want x->∃y,c= .gd g want y:=by
  intro c g want x e;cases c<;>first|(cases e;done)|exact g1 _ _ _ _ e
 have g3:∀c g want x,FC f c= .gd g want x->∃y,c= .gd g want y:=by
  intro c g want x e;cases c with
  | gd g' w' y=>cases e;exact⟨_,rfl⟩
  | _=>exact g2 _ _ _ _ e
 refine⟨λt=>RT.map hf hk<|h.T t,⟨by simpa[S.map] using h.stack.1,λi T tm h1 h2 t=> ?_⟩,h.n,h.defers,h.pins,λt g want x hx=> ?_,hH⟩
 .simp only[S.map,D5,DA]at h1;obtain⟨T0,h3,rfl⟩:=h1;exact RT.map hf hk (h.stack.2 i T0 tm h3 h2 t)
 .obtain⟨y,hy⟩:=g3 _ _ _ _ hx;exact h.gs _ _ _ _ hy
def OP(id:Nat):∀c g want x,kl1 id c= .gd g want x->∃y,c= .gd g want y:=by
 intro c g want x h;unfold kl1 at h;split at h
 .split at h<;>cases h
 .split at h<;>cases h
 .exact⟨_,h⟩
def abL(id:Nat)(k:K)(xs:List (Tof k)):∀c g want x,fz1 id k xs c= .gd g want x->∃y,c= .gd g want y:=by
 intro c g want x h;unfold fz1 at h;split at h
 .split at h<;>cases h
 .split at h<;>cases h
 .exact⟨_,h⟩
def St.keep(h:St B β stk s a w)(hk:Kp w β w' β'){H':Hp}(hH:Hs B β' H' w'):St B β' stk { s with H:=H' } a w':=
 ⟨λt=>RT.mono hk<|h.T t,⟨h.stack.1,λi T tm h1 h2 t=>RT.mono hk<|h.stack.2 i T tm h1 h2 t⟩,h.n,h.defers,h.pins,h.gs,hH⟩
end
end Go.VS
namespace Go.VS
open Go
section
variable {P:Program} {B:Bb} {β β':Beta} {H:Hp} {stk:List (Array Value)} {s:S} {a:Act} {w w':World}
def aDm{o n:Nat}{cs:List AV}(h:mi o n cs=Y):o+n<=cs.length/\(o=0->nop (cs.headD<|.lit<|.bool A0)=Y):=by
 unfold mi at h;simp only[AD,C0]at h;exact⟨Da h.1,λe=>h.2.resolve_left λh1=>by have:=Da h1;omega⟩
def aso{e:TypeId}{k:K}(h:zok P e k=Y):OU P e=A0:=by
 unfold zok at h;unfold OU;split at h
 .rename_i zs hz;rw[hz];cases zs with
  | nil=>rfl
  | cons c zs=>
   cases hk:enc k (dfl k) with
   | nil=>rw[hk]at h;cases h
   | cons d ds=>
    rw[hk]at h;simp only[M5,AD]at h;cases c<;>first|rfl|skip
    rename_i v;cases v<;>first|rfl|skip
    rename_i q;cases q<;>first|rfl|skip
    have h1:=h.1;simp[ZP]at h1
 .cases h
def abA{c:AV}{v:Value}(hn:nop c=Y)(h:RC w β c v):∀a,v≠ .pointer (I a):=by
 rintro a rfl;cases h with
 | un=>cases hn
 | lit=>cases hn
 | own _ hs=>cases hs
 | ptr=>cases hn
 | ipt=>cases hn
def avt:∀(k:K) (x:Tof k),(enc k x).all nop=Y:=by
 intro k x;cases k<;>rfl
def Pk.setRow{g:Nat}{us cs:Array Value}{e:TypeId}{fr:Nat×Nat}(hg:w.heap[g]? =I (.cells us e fr))(h:OU P e=Y->∀a,us[0]? =I (.pointer<|I a)->cs[0]? =I (.pointer<|I a)):Pk P w (w.setRow g cs):=by
 intro b us' e' fr' a h1 h2 h3;by_cases hb:b=g
 .subst hb;rw[hg]at h1;cases h1;exact⟨cs,_,setRow_heap w b us cs e _ hg,h h3 a h2⟩
 .exact⟨us',fr',by rw[setRow_other w g b cs hb];exact h1,h2⟩
def XH{l ys:List Value}{p:Nat}(h:p+ys.length<=l.length){v:Value}(hv:l[0]? =I v)(h0:p=0->ys≠[]->False):((l.take p++ys++l.drop (p+ys.length)).toArray)[0]? =I v:=by
 rw[TU];by_cases hy:ys=[]
 .subst hy;simpa using hv
 .have hp:0<p:=Nat.pos_of_ne_zero λe=>h0 e hy;rw[C3,I8 (by
   have:=(BN.1 hv).1;simp;omega),Gi,A5 hp]
  exact hv
def ju{k:K}{us:Array Value}{f:Nat}{xs:List (Tof k)}(hr:∀i x j c u,xs[i]? =I x->(enc k x)[j]? =I c->us[f+(i * ks k+j)]? =I u->RC w β c u)(hx:xs≠[])(hf:f=0){a:Addr}(hu:us[0]? =I (.pointer<|I a)):False:=by
 subst hf;obtain⟨x,l,rfl⟩:=List.exists_cons_of_ne_nil hx;have hk:=Hw k;rw[← EN k x]at hk;have hc:=hr 0 x 0 _ _ rfl (Au hk) (by simpa using hu);exact abA (DM.1 (avt k x) _<|Cg hk) hc a rfl
def Hs.setRow(h:Hs B β H w){id:Nat}{hd:Value}{n g o:Nat}(hβ:β id=I (hd,n))(ha:adr hd=I ⟨g,o,G⟩)(cs:Array Value)(ob:Ob)
  (hob:Kp w β (w.setRow g cs) β->E5 B.P (w.setRow g cs) β id ob)(hpk:Pk B.P w (w.setRow g cs)):Hs B β (upd H id<|I ob) (w.setRow g cs)/\Kp w β (w.setRow g cs) β:=by
 have hm:MB β g:=⟨id,hd,n,_,hβ,ha,rfl⟩;have hk:Kp w β (w.setRow g cs) β:=λc v x=>RC.mono (λ_ _ h=>h) (λb o v hb hc=>by
  have hne:b≠g:=λe=>hb<|.inl<|e▸hm;rw[cell_setRow_other w g cs _ hne];exact hc) (λ_ h _=>h) x
 have h1:=h.U8 (w':=w.setRow g cs) (β':=β) (f:=λc=>c) (λ_ _=>rfl) hk (id:=id) (ob:=I ob) (λ_ _=>rfl)
  (.inr ⟨ob,hd,n,rfl,hβ,hob hk,λa h=> .inl ⟨_,a,hβ,h,rfl⟩⟩)
  (λj p a' e hj h2=>setRow_other w g _ cs λe'=>e<|h.inj _ _ _ _ _ _ hj hβ h2 ha e') rfl rfl rfl y9
  (λb hb hO=>setRow_other w g b cs (λe=>by
   subst e;rcases(h.old b hm).1 with h3|h3
   .exact hO h3
   .omega)) rfl hpk
 rw[show(λj=>CH (λc=>c)<|H j)=H from funext λj=>aaI _ (λ_=>rfl) _]at h1;exact⟨h1,hk⟩
def YG{α:Type}(l:List α)(p:Nat)(ys:List α)(h:p+ys.length<=l.length)(q:Nat):
  (l.take p++ys++l.drop (p+ys.length))[q]? =if p<=q/\q<p+ys.length then ys[q - p]? else l[q]? :=by
 have ht:(l.take p).length=p:=by simp;omega
 by_cases h1:q<p
 .rw[A9 J,C3,I8 J,Gi,A5 h1]
 .by_cases h2:q<p+ys.length
  .rw[A5 ⟨J,h2⟩,C3,F1 J,ht,I8 J]
  .rw[A9 J,F1 o5,Hb];congr 1;simp only[Aq,ht];omega
def hY{t:TypeId}{v:Value}{g o:Nat}{e:TypeId}{fr:Nat×Nat}{cur:Array Value}(h1:1<=P.cellsOf t)(hs:v.cells.size=P.cellsOf t)(hg:w.heap[g]? =I (.cells cur e fr))(hl:o+v.cells.size<=cur.size)
  (hfr:fr=(0,0)\/cur.size<=fr.1)(D8:∀u∈v.cells.toList,u.oneCell'=Y):
  (QV t (.pointer<|I ⟨g,o,G⟩) v).run P w= .ok () (w.setRow g (cur.toList.take o++v.cells.toList++cur.toList.drop (o+v.cells.size)).toArray):=by
 have:=WT (P:=P) g o e fr v.cells.toList 0 cur w hg (by simpa using hl) hfr D8;simp only[He,F2]at this;simp only[QV,JK,storeVar,Ej,Fl,F3,Kb h1,hs,ne_eq,not_true_eq_false,if_false];rw[hs]at this;exact this
def arJ(hP:P=B.P)(h:St B β stk s a w){t:TypeId}{p x:Operand}{id z o:Nat}{e:TypeId}{cs ys:List AV}(hp:s.ev p= .ptr id z 0 o)(hid:s.H id=I (.box e cs))(hx:Ga (s.ev x)=I ys)
  (hy:ys.length=P.cellsOf t)(h1:1<=P.cellsOf t)(hl:o+ys.length<=cs.length)(h0:o=0->nop (cs.headD<|.lit<|.bool A0)=Y):
  ∃w' β',(QV t (a.eval p)<|a.eval x).run P w= .ok () w'/\St B β' stk (s.EJ id<|I<|.box e<|H4 cs o ys) a w':=by
 have hp':=h.eval p;rw[hp]at hp';have hp':RC w β (.ptr id z 0 o) (a.eval p):=hp';have hr:=S6 hx<|h.eval x;have hys:(a.eval x).cells.size=ys.length:=by have:=hr.1;simpa using this
 obtain⟨b',us,k1,k2,k3⟩:=h.hs.EK id _ hid;have hcs:us.size=cs.length:=by have:=k3.1;simpa using this
 generalize hg:a.eval p=vp at hp';cases hp' with
 | @ptr _ _ _ _ hd n bb f hβ ha hi=>
  rw[k1]at hβ;cases hβ;cases ha;have Ce:=hY (P:=P) (w:=w) (v:=a.eval x) (o:=o) h1 (by rw[hys,hy]) k2 J (.inl rfl) hr.one;refine⟨_,β,by rw[show(0:Nat)+(0 * z+o)=o by omega];exact Ce, ?_⟩;obtain⟨g1,g2⟩:=h.hs.setRow (hpk:=Pk.setRow k2 λ_ a' hu=>by
   have hus:us.toList.length=us.size:=F2;refine XH (ys:=(a.eval x).cells.toList) o5 (by simpa using hu) λe1 _=> ?_;cases cs with
   | nil=>simp at hcs;simp[hcs]at hu
   | cons c cs=>exact abA (h0 e1) (k3.2 0 c _ rfl (by simpa using hu)) a' rfl) k1 rfl (us.toList.take o++(a.eval x).cells.toList++us.toList.drop (o+(a.eval x).cells.size)).toArray (.box e<|H4 cs o ys) (λhk=>by
   refine⟨b',_,k1,setRow_heap w b' us _ e _ k2, ?_⟩;rw[aBG];unfold H4;rw[← hys];exact(((k3.take _).append hr).append<|k3.drop _).mono hk)
  exact h.keep g2 g1
def aAw{k:K}{us:List Value}{f:Nat}{xs:List (Tof k)}{i o:Nat}{y:Tof k}{ys:List AV}{vs:List Value}(hi:i<xs.length)(hsz:f+xs.length * ks k<=us.length)
  (hr:∀i x j c u,xs[i]? =I x->(enc k x)[j]? =I c->us[f+(i * ks k+j)]? =I u->RC w β c u)(hv:vs.length=ys.length)(ho:o+ys.length<=ks k)
  (hy:∀us0,RL (RC w β) (enc k<|xs.getD i<|dfl k) us0->RL (RC w β) (enc k y) (us0.take o++vs++us0.drop (o+vs.length))):
  ∀i' x j c u,(xs.set i y)[i']? =I x->(enc k x)[j]? =I c->(us.take (f+(i * ks k+o))++vs++us.drop (f+(i * ks k+o)+vs.length))[f+(i' * ks k+j)]? =I u->RC w β c u:=by
 intro i' x j c u h1 h2 h3;have hj:j<ks k:=by rw[← EN k x];exact(BN.1 h2).1
 have hi':i'<xs.length:=by have:=(BN.1 h1).1;simpa using this
 have e1:(i+1) * ks k<=xs.length * ks k:=E6 _ hi;rw[EH,Ol]at e1;have hlen:=hv;rw[YG _ _ _ J]at h3;by_cases e:i'=i
 .subst e;have hx:x=y:=by
   rw[YS hi]at h1;exact(Ei h1).symm
  subst hx;have hold:RL (RC w β) (enc k<|xs.getD i'<|dfl k) ((us.drop<|f+i' * ks k).take<|ks k):=by
   refine⟨by simp[EN];omega,λj' c' u' g1 g2=>hr i' _ j' c' u' (getD_some hi) g1 ?_⟩;have hj':j'<ks k:=by rw[← EN k<|xs.getD i'<|dfl k];exact(BN.1 g1).1
   rw[Gi,A5 hj',Hb,D6]at g2;exact g2
  have aH:=hy _ hold;refine aH.2 j c u h2 ?_;rw[YG _ _ _ o5];by_cases g:o<=j/\j<o+vs.length
  .rw[A5 g];rw[A5 J]at h3;rw[← h3];congr 1;omega
  .rw[A9 g,Gi,A5 hj,Hb];rw[A9 J]at h3;rw[← h3];congr 1;omega
 .have hx:xs[i']? =I x:=by
   rw[List.getElem?_set_ne λq=>e q.symm]at h1;exact h1
  refine hr i' x j c u hx h2 ?_;rw[A9]at h3
  .exact h3
  .rcases TX e with g|g
   .have:(i'+1) * ks k<=i * ks k:=E6 _ g;rw[EH,Ol]at this;omega
   .have:(i+1) * ks k<=i' * ks k:=E6 _ g;rw[EH,Ol]at this;omega
def aq7(h:St B β stk s a w){t:TypeId}{p:Operand}{id i o:Nat}{e:TypeId}{fz:Bool}{k:K}{xs:List (Tof k)}{ys:List AV}{vs:Value}(hp:RC w β (.ptr id (ks k) i o) (a.eval p))(hid:s.H id=I (.row e fz k xs))
  (hys:vs.cells.size=ys.length)(D8:∀u∈vs.cells.toList,u.oneCell'=Y)(hy:ys.length=P.cellsOf t)(h1:1<=P.cellsOf t)(hl:o+ys.length<=ks k){y:Tof k}(hd:∀us0,RL (RC w β) (enc k<|xs.getD i<|dfl k) us0->RL (RC w β) (enc k y) (us0.take o++vs.cells.toList++us0.drop (o+vs.cells.toList.length))):
  ∃w',(QV t (a.eval p) vs).run P w= .ok () w'/\St B β stk (s.EJ id<|I<|.row e fz k<|xs.set i y) a w':=by
 obtain⟨hd',k1,k2⟩:=h.hs.EK id _ hid;generalize hg:a.eval p=vp at hp;cases hp with
 | @ptr _ _ _ _ hdd n bb f hβ ha hi=>
  rw[k1]at hβ;cases hβ;obtain⟨rfl,rfl⟩|⟨b',f',cap,us,fr,ayC,hh,hfr,hn,hc,hsz,Cn⟩:=k2
  .cases ha
  .subst ayC;have ha':(⟨b',f',G⟩:Addr)=⟨bb,f,G⟩:=Ei ha;obtain⟨rfl,rfl⟩:b'=bb/\f'=f:=by simpa using ha'
   have hxc:xs.length * ks k<=cap * ks k:=E6 _ hn;have hic:(i+1) * ks k<=xs.length * ks k:=E6 _ hi;rw[EH,Ol]at hic;have az9:fr=(0,0)\/us.size<=fr.1:=by
    subst hfr;cases fz
    .exact .inl rfl
    .exact .inr<|Ar _
   have Ce:=hY (P:=P) (w:=w) (v:=vs) (o:=f'+(i * ks k+o)) h1 (by rw[hys,hy]) hh J az9 D8;refine⟨_,Ce, ?_⟩;obtain⟨g1,g2⟩:=h.hs.setRow (hpk:=Pk.setRow hh λ_ a' hu=>by
    have hus:us.toList.length=us.size:=F2;exact XH (ys:=vs.cells.toList) o5 (by simpa using hu) λe1 _=>ju Cn (λe2=>by subst e2;simp at hi) J hu) k1 rfl (us.toList.take (f'+(i * ks k+o))++vs.cells.toList++us.toList.drop (f'+(i * ks k+o)+vs.cells.size)).toArray (.row e fz k<|xs.set i y) (λhk=>by
    have FI:(us.toList.take (f'+(i * ks k+o))++vs.cells.toList++us.toList.drop (f'+(i * ks k+o)+vs.cells.size)).toArray.size=us.size:=by
     simp only[Kw,Aq,Dg,EI,F2];omega
    refine⟨_,by simpa using k1,.inr ⟨b',f',cap,_,fr,by simp,setRow_heap w b' us _ e _ hh, ?_,by simpa using hn,hc,by rw[FI];exact hsz, ?_⟩⟩
    .rw[FI];exact hfr
    .intro i' x' j c u q1 q2 q3;have q3':(us.toList.take (f'+(i * ks k+o))++vs.cells.toList++us.toList.drop (f'+(i * ks k+o)+vs.cells.toList.length))[f'+(i' * ks k+j)]? =I u:=by simpa using q3
     exact hk _ _<|aAw hi o5 (λi x j c u a1 a2 a3=>Cn i x j c u a1 a2<|by simpa using a3) (by simpa using hys) hl hd i' x' j c u q1 q2 q3')
   exact h.keep g2 g1
def arK(h:St B β stk s a w){t:TypeId}{p:Operand}{id i o:Nat}{e:TypeId}{k:K}{xs:List (Tof k)}{ys:List AV}{vs:Value}(hp:RC w β (.ptr id (ks k) i o) (a.eval p))(hid:s.H id=I (.arr e k xs))
  (hys:vs.cells.size=ys.length)(D8:∀u∈vs.cells.toList,u.oneCell'=Y)(hy:ys.length=P.cellsOf t)(h1:1<=P.cellsOf t)(hl:o+ys.length<=ks k){y:Tof k}(hd:∀us0,RL (RC w β) (enc k<|xs.getD i<|dfl k) us0->RL (RC w β) (enc k y) (us0.take o++vs.cells.toList++us0.drop (o+vs.cells.toList.length))):
  ∃w',(QV t (a.eval p) vs).run P w= .ok () w'/\St B β stk (s.EJ id<|I<|.arr e k<|xs.set i y) a w':=by
 obtain⟨b',us,k1,hh,hsz,hce,Cn⟩:=h.hs.EK id _ hid;generalize hg:a.eval p=vp at hp;cases hp with
 | @ptr _ _ _ _ hdd n bb f hβ ha hi=>
  rw[k1]at hβ;cases hβ;cases ha;have hic:(i+1) * ks k<=xs.length * ks k:=E6 _ hi;rw[EH,Ol]at hic;have Ce:=hY (P:=P) (w:=w) (v:=vs) (o:=0+(i * ks k+o)) h1 (by rw[hys,hy]) hh J (.inl rfl) D8;refine⟨_,Ce, ?_⟩;obtain⟨g1,g2⟩:=h.hs.setRow (hpk:=Pk.setRow hh λ_ a' hu=>by
   have hus:us.toList.length=us.size:=F2;exact XH (ys:=vs.cells.toList) o5 (by simpa using hu) λe1 _=>ju (f:=0) (xs:=xs) (λi x j c u a1 a2 a3=>Cn i x j c u a1 a2<|by simpa using a3) (λe2=>by subst e2;simp at hi) rfl hu) k1 rfl (us.toList.take (0+(i * ks k+o))++vs.cells.toList++us.toList.drop (0+(i * ks k+o)+vs.cells.size)).toArray (.arr e k<|xs.set i y) (λhk=>by
   have FI:(us.toList.take (0+(i * ks k+o))++vs.cells.toList++us.toList.drop (0+(i * ks k+o)+vs.cells.size)).toArray.size=us.size:=by
    simp only[Kw,Aq,Dg,EI,F2];omega
   refine⟨b',_,by simpa using k1,setRow_heap w b' us _ e _ hh,by rw[FI];simpa using hsz,by rw[FI];exact hce, ?_⟩;intro i' x' j c u q1 q2 q3;have q3':(us.toList.take (0+(i * ks k+o))++vs.cells.toList++us.toList.drop (0+(i * ks k+o)+vs.cells.toList.length))[0+(i' * ks k+j)]? =I u:=by simpa using q3
   exact hk _ _<|aAw hi o5 (λi x j c u a1 a2 a3=>Cn i x j c u a1 a2<|by simpa using a3) (by simpa using hys) hl hd i' x' j c u q1 q2 q3')
  exact h.keep g2 g1
end
end Go.VS
namespace Go.VS
open Go
section
variable {P:Program} {B:Bb} {β β':Beta} {H:Hp} {stk:List (Array Value)} {s:S} {a:Act} {w w':World}
structure JS (w:World) (H:Hp) (β β':Beta) (H':Hp) (ids:List Nat):Prop where
 imm:∀c v,GR c=Y->RC w β c v->RC w β' c v
 own:∀j v,j ∉ ids->RC w β (.own j) v->RC w β' (.own j) v
 ptr:∀j z i o v,j ∉ ids->RC w β (.ptr j z i o) v->RC w β' (.ptr j z i o) v
 fr:∀j v e fz k xs,j∈ids->H j=I (.row e fz k xs)->RC w β (.own j) v->RC w β' (.sl k xs) v
 row:∀j e fz k xs,j ∉ ids->H j=I (.row e fz k xs)->H' j=I (.row e fz k xs)
 arr:∀j e k xs,j ∉ ids->H j=I (.arr e k xs)->H' j=I (.arr e k xs)
 non:∀j,H j=G->H' j=G
def St.acB(h:St B β stk s a w)(id:Nat):∃β',St B β' stk (s.freeze id) a w/\JS w s.H β β' (s.freeze id).H [id]:=by
 have gen:∀f:AV->AV,(∀c,GR c=Y->f c=c)->(∀j,j≠id->f (.own j)= .own j)->(∀j z i o,j≠id->f (.ptr j z i o)= .ptr j z i o)->(∀e fz k xs,s.H id=I (.row e fz k xs)->f (.own id)= .sl k xs)->
   (∀c g want x,f c= .gd g want x->∃y,c= .gd g want y)->∀β',Hs B β' (upd (λj=>CH f<|s.H j) id G) w->Kf f w β w β'->s.freeze id={ s.map f with H:=upd (λj=>CH f<|s.H j) id G } ->
   ∃β',St B β' stk (s.freeze id) a w/\JS w s.H β β' (s.freeze id).H [id]:=by
  intro f h1 h2 h3 h4 h5 β' h6 h7 h8;refine⟨β',by rw[h8];exact h.map h1 h5 h7 h6, ?_⟩;rw[h8];refine⟨λc v hc hv=>by have:=h7 c v hv;rwa[h1 c hc]at this,λj v hj hv=>by have:=h7 _ v hv;rwa[h2 j<|by simpa using hj]at this,
   λj z i o v hj hv=>by have:=h7 _ v hv;rwa[h3 j z i o<|by simpa using hj]at this,λj v e fz k xs hj hh hv=> ?_,λj e fz k xs hj hh=> ?_,λj e k xs hj hh=> ?_,λj hh=> ?_⟩
  .obtain rfl:j=id:=by simpa using hj
   have:=h7 _ v hv;rwa[h4 e fz k xs hh]at this
  .show upd (λj=>CH f<|s.H j) id G j=_;rw[BB _ _<|by simpa using hj,hh];rfl
  .show upd (λj=>CH f<|s.H j) id G j=_;rw[BB _ _<|by simpa using hj,hh];rfl
  .show upd (λj=>CH f<|s.H j) id G j=_;by_cases e:j=id
   .subst e;rw[Be]
   .rw[BB _ _ e,hh];rfl
 have kl:∀j,j≠id->Af j id=A0:=λj hj=>by rw[← GL,HF];exact hj
 cases hid:s.H id with
 | none=>
  obtain⟨β',h1,h2⟩:=h.hs.kill id;exact gen (kl1 id) (J1 id) (λj hj=>by simp[kl1,kl j hj]) (λj z i o hj=>by simp[kl1,kl j hj]) (λe fz k xs hh=>by rw[hid]at hh;cases hh) (OP id) β' h1 h2 (by simp only[S.freeze,hid];rfl)
 | some ob=>
  cases ob with
  | row e fz k xs=>
   obtain⟨β',h1,h2⟩:=h.hs.freeze hid;exact gen (fz1 id k xs) (jh id k xs) (λj hj=>by simp[fz1,kl j hj]) (λj z i o hj=>by simp[fz1,kl j hj]) (λe fz k xs hh=>by rw[hid]at hh;cases hh;simp[fz1]) (abL id k xs) β' h1 h2 (by simp only[S.freeze,hid];rfl)
  | box e cs=>
   obtain⟨β',h1,h2⟩:=h.hs.kill id;exact gen (kl1 id) (J1 id) (λj hj=>by simp[kl1,kl j hj]) (λj z i o hj=>by simp[kl1,kl j hj]) (λe fz k xs hh=>by rw[hid]at hh;cases hh) (OP id) β' h1 h2 (by simp only[S.freeze,hid];rfl)
  | arr e k xs=>
   obtain⟨β',h1,h2⟩:=h.hs.kill id;exact gen (kl1 id) (J1 id) (λj hj=>by simp[kl1,kl j hj]) (λj z i o hj=>by simp[kl1,kl j hj]) (λe fz k xs hh=>by rw[hid]at hh;cases hh) (OP id) β' h1 h2 (by simp only[S.freeze,hid];rfl)
def JS.nil:JS w H β β H []:=
 ⟨λ_ _ _ h=>h,λ_ _ _ h=>h,λ_ _ _ _ _ _ h=>h,λ_ _ _ _ _ _ h=>by simp at h,λ_ _ _ _ _ _ h=>h,λ_ _ _ _ _ h=>h,λ_ h=>h⟩
def JS.cons{β'':Beta}{H' H'':Hp}{i:Nat}{ids:List Nat}(h:JS w H β β' H' [i])(k:JS w H' β' β'' H'' ids):JS w H β β'' H'' (i::ids):=by
 refine⟨λc v hc hv=>k.imm c v hc<|h.imm c v hc hv,λj v hj hv=>k.own j v (λe=>hj<|by simp[e])<|h.own j v (λe=>hj (by simp at e;simp[e])) hv,
  λj z i o v hj hv=>k.ptr j z i o v (λe=>hj<|by simp[e])<|h.ptr j z i o v (λe=>hj (by simp at e;simp[e])) hv,λj v e fz kk xs hj hh hv=> ?_,
  λj e fz kk xs hj hh=>k.row j e fz kk xs (λe=>hj<|by simp[e])<|h.row j e fz kk xs (λe=>hj (by simp at e;simp[e])) hh,
  λj e kk xs hj hh=>k.arr j e kk xs (λe=>hj<|by simp[e])<|h.arr j e kk xs (λe=>hj (by simp at e;simp[e])) hh,λj hh=>k.non j<|h.non j hh⟩
 by_cases e1:j=i
 .exact k.imm _ _ rfl (h.fr j v e fz kk xs (by simp[e1]) hh hv)
 .have h1:j ∉ [i]:=by simpa using e1
  have h2:j∈ids:=by simpa[e1] using hj
  exact k.fr j v e fz kk xs h2 (h.row j e fz kk xs h1 hh)<|h.own j v h1 hv
def St.L8:∀(ids:List Nat) {s:S} {β:Beta},St B β stk s a w->∃β',St B β' stk (ids.foldl S.freeze s) a w/\JS w s.H β β' (ids.foldl S.freeze s).H ids
 | [],s,β,h=>⟨β,h,JS.nil⟩
 | i::ids,s,β,h=>by
  obtain⟨β1,h1,h2⟩:=h.acB i;obtain⟨β2,h3,h4⟩:=St.L8 ids h1;exact⟨β2,h3,h2.cons h4⟩
def Q(H:Hp)(w:World)(β:Beta)(c:AV)(u:Value):Prop:=(∀v,c= .lit v->RC w β c u)/\ ∀k l,CD H k c=I l->RC w β (.sl k l) u
def Q.lit{v u:Value}(h:Q H w β (.lit v) u):RC w β (.lit v) u:=h.1 v rfl
def awv:AV->Bool
 | .lit _=>Y
 | _=>A0
def Q.all{cs:List AV}{us:List Value}(hl:RL (Q H w β) cs us)(h:cs.all awv=Y):RL (RC w β) cs us:=by
 refine⟨hl.1,λj c u h1 h2=> ?_⟩;have h3:=DM.1 h c<|Cl h1;cases c<;>first|cases h3|skip
 exact(hl.2 j _ u h1 h2).lit
def avI{k:K}{cs:List AV}{x:Tof k}(h:dec H k cs=I x){us:List Value}(hl:RL (Q H w β) cs us):RL (RC w β) (enc k x) us:=by
 unfold dec at h;split at h<;>try (cases h;done)
 all_goals try (cases h;exact Q.all hl rfl)
 .rename_i x';cases hx:CD H K.mixed x' with
  | none=>rw[hx]at h;cases h
  | some l=>
   rw[hx]at h;cases h;obtain⟨u1,_,rfl,g1,hl⟩:=hl.C8;obtain⟨u2,_,rfl,g2,hl⟩:=hl.C8;obtain⟨u3,_,rfl,g3,hl⟩:=hl.C8;obtain⟨u4,_,rfl,g4,hl⟩:=hl.C8;obtain⟨u5,_,rfl,g5,hl⟩:=hl.C8;obtain⟨u6,_,rfl,g6,hl⟩:=hl.C8;rw[hl.of_nil];exact .cons g1.lit (.cons g2.lit<|.cons g3.lit<|.cons g4.lit<|.cons g5.lit<|.cons (g6.2 _ _ hx) .nil)
 .rename_i x' y' z';cases hx:CD H K.note x' with
  | none=>rw[hx]at h;cases h
  | some l=>
   cases hy:CD H K.mark y' with
   | none=>rw[hx,hy]at h;cases h
   | some m=>
    cases hz:CD H K.note z' with
    | none=>rw[hx,hy,hz]at h;cases h
    | some n=>
     rw[hx,hy,hz]at h;cases h;obtain⟨u1,_,rfl,g1,hl⟩:=hl.C8;obtain⟨u2,_,rfl,g2,hl⟩:=hl.C8;obtain⟨u3,_,rfl,g3,hl⟩:=hl.C8;obtain⟨u4,_,rfl,g4,hl⟩:=hl.C8;obtain⟨u5,_,rfl,g5,hl⟩:=hl.C8;obtain⟨u6,_,rfl,g6,hl⟩:=hl.C8;rw[hl.of_nil];exact .cons g1.lit (.cons g2.lit<|.cons g3.lit<|.cons (g4.2 _ _ hx)<|.cons (g5.2 _ _ hy)<|.cons (g6.2 _ _ hz) .nil)
 .rename_i x';cases hx:CD H K.half x' with
  | none=>rw[hx]at h;cases h
  | some l=>
   rw[hx]at h;cases h;obtain⟨u1,_,rfl,g1,hl⟩:=hl.C8;obtain⟨u2,_,rfl,g2,hl⟩:=hl.C8;obtain⟨u3,_,rfl,g3,hl⟩:=hl.C8;obtain⟨u4,_,rfl,g4,hl⟩:=hl.C8;obtain⟨u5,_,rfl,g5,hl⟩:=hl.C8;rw[hl.of_nil];exact .cons g1.lit<|.cons g2.lit<|.cons g3.lit<|.cons g4.lit<|.cons (g5.2 _ _ hx) .nil
def JS.Q{β0:Beta}{H':Hp}{ids:List Nat}(h:JS w H β0 β H' ids){c:AV}{u:Value}(hc:∀j,c= .own j->j∈ids)(hx:RC w β0 c u):VS.Q H w β c u:=by
 refine⟨λv e=>by subst e;exact h.imm _ _ rfl hx,λk l hl=> ?_⟩;unfold CD at hl;split at hl
 .obtain⟨e,rfl⟩:=Hq hl;subst e;exact h.imm _ _ rfl hx
 .cases hl;rw[hx.NN];exact .nil
 .rename_i id _;split at hl
  .rename_i e fz k' xs hid;obtain⟨ek,rfl⟩:=Hq hl;subst ek;exact h.fr _ u e fz k' xs (hc _ rfl) hid hx
  .cases hl
 .cases hl
def aDs{H:Hp}{β:Beta}{k:K}{x0 y:Tof k}{o:Nat}{ys:List AV}{vs us0:List Value}(hd:dec H k (H4 (enc k x0) o ys)=I y)(h0:RL (RC w β) (enc k x0) us0)(hy:RL (VS.Q H w β) ys vs):
  RL (RC w β) (enc k y) (us0.take o++vs++us0.drop (o+vs.length)):=by
 have h1:RL (VS.Q H w β) (enc k x0) us0:=by
  refine⟨h0.1,λj c u a1 a2=> ?_⟩;have hr:=h0.2 j c u a1 a2;have hn:=IQ k x0 a1;refine⟨λv e=>by subst e;exact hr,λk' l hl=> ?_⟩;unfold CD at hl;split at hl
  .obtain⟨e,rfl⟩:=Hq hl;subst e;exact hr
  .cases hl;rw[hr.NN];exact .nil
  .cases hn
  .cases hl
 refine avI hd ?_;unfold H4;rw[← hy.1];exact((h1.take o).append hy).append<|h1.drop _
def aq6(hP:P=B.P)(h:St B β stk s a w){t:TypeId}{p x:Operand}{s':S}(hs:IW P t s (s.ev p) (s.ev x)=I s'):
  ∃w' β',(QV t (a.eval p)<|a.eval x).run P w= .ok () w'/\St B β' stk s' a w':=by
 generalize hp:s.ev p=cp at hs;unfold IW at hs;split at hs
 .rename_i id z i o;have hpx:=h.eval p;rw[hp]at hpx;have hpr:RC w β (.ptr id z i o) (a.eval p):=hpx;split at hs
  .rename_i e cs hid;split at hs
   .cases hc:Ga (s.ev x) with
    | none=>rw[hc]at hs;cases hs
    | some ys=>
     rw[hc]at hs;simp only[A6]at hs;split at hs
     .rename_i hb;simp only[AD]at hb;cases hs;exact arJ hP h hp hid hc (Bk hb.1.1) (Da hb.1.2) (aDm hb.2).1 (aDm hb.2).2
     .cases hs
   .cases hs
  .rename_i e fz k xs hid;cases hc:Ga (s.ev x) with
   | none=>rw[hc]at hs;cases hs
   | some ys=>
    rw[hc]at hs;simp only[A6]at hs;split at hs
    .rename_i hb;simp only[AD,CE]at hb;obtain⟨⟨⟨⟨b1,b2⟩,b3⟩,b4⟩,b5⟩:=hb;obtain rfl:=Bk b4;have hni:=aaq b5;cases hd:dec s.H k (H4 (enc k<|xs.getD i<|dfl k) o ys) with
     | none=>rw[hd]at hs;cases hs
     | some y=>
      rw[hd]at hs;simp only[A6,Bs]at hs;subst hs;obtain⟨β',h1,h2⟩:=St.L8 (ys.filterMap H8) h;have hr:=S6 hc<|h.eval x;have hrQ:RL (VS.Q s.H w β') ys (a.eval x).cells.toList:=⟨hr.1,λj c u g1 g2=>h2.Q (λj' e'=>by
       subst e';exact GO.2 ⟨_,Cl g1,rfl⟩) (hr.2 j c u g1 g2)⟩
      obtain⟨w',g1,g2⟩:=aq7 (P:=P) (t:=t) (p:=p) h1 (h2.ptr _ _ _ _ _ hni hpr) (h2.row _ _ _ _ _ hni hid) (by have:=hr.1;simpa using this) hr.one (Bk b1) (Da b2) (Da b3)
       (λus0 h0=>aDs hd h0 hrQ)
      exact⟨w',β',g1,g2⟩
    .cases hs
  .rename_i e k xs hid;cases hc:Ga (s.ev x) with
   | none=>rw[hc]at hs;cases hs
   | some ys=>
    rw[hc]at hs;simp only[A6]at hs;split at hs
    .rename_i hb;simp only[AD]at hb;obtain⟨⟨⟨b1,b2⟩,b3⟩,b4⟩:=hb;obtain rfl:=Bk b4;cases hd:dec (λ_=>G) k (H4 (enc k<|xs.getD i<|dfl k) o ys) with
     | none=>rw[hd]at hs;cases hs
     | some y=>
      rw[hd]at hs;simp only[A6,Bs]at hs;subst hs;have hr:=S6 hc<|h.eval x;have hrQ:RL (VS.Q (λ_=>G) w β) ys (a.eval x).cells.toList:=⟨hr.1,λj c u g1 g2=>by
       have hx:=hr.2 j c u g1 g2;refine⟨λv e=>by subst e;exact hx,λk' l hl=> ?_⟩;unfold CD at hl;split at hl
       .obtain⟨e,rfl⟩:=Hq hl;subst e;exact hx
       .cases hl;rw[hx.NN];exact .nil
       .cases hl
       .cases hl⟩
      obtain⟨w',g1,g2⟩:=arK (P:=P) (t:=t) (p:=p) h hpr hid (by have:=hr.1;simpa using this) hr.one (Bk b1) (Da b2) (Da b3)
       (λus0 h0=>aDs hd h0 hrQ)
      exact⟨w',β,g1,g2⟩
    .cases hs
  .cases hs
 .cases hs
end
end Go.VS
namespace Go.VS
open Go
section
variable {P:Program} {B:Bb} {β β':Beta} {H:Hp} {stk:List (Array Value)} {s:S} {a:Act} {w w':World}
structure Src (P:Program) (w:World) (β:Beta) (k:K) (ys:List (Tof k)) (v:Value) (news:List Value):Prop where
 len:∀w',(lB v).run P w'= .ok ys.length w'
 cells:∀w',w'.heap=w.heap->(I7 (ks k) ys.length v).run P w'= .ok news.toArray w'
 rel:RL (RC w β) (ys.flatMap<|enc k) news
 F5:∀n,n<=ys.length->(I7 (ks k) n v).run P w= .ok (news.take<|n * ks k).toArray w
def atC{w w':World}(h:w'.heap=w.heap)(a:Addr):w'.cell? a=w.cell? a:=by simp only[M0,h]
def MC.cellsOf{k:K}{xs:List (Tof k)}{v:Value}(h:MC w β k xs v):(∃a cap,xs=[]/\v= .slice a 0 cap)\/ ∃b f cap,∃us:List Value,v= .slice (I ⟨b,f,G⟩) xs.length cap/\xs.length<=cap/\RL (RC w β) (xs.flatMap<|enc k) us/\ ∀(j:Nat) (u:Value),us[j]? =I u->w.cell? ⟨b,f+j,G⟩=I u:=by
 obtain⟨rfl,a,cap,rfl⟩|⟨b,f,cap,u,rfl,hc,hu,hr⟩:=h
 .exact .inl ⟨a,cap,rfl,rfl⟩
 .have hk:=Hw k;refine .inr ⟨b,f,cap,(B7<|xs.length * ks k).map λq=>u (q / ks k)<|q % ks k,rfl,hc,⟨by rw[KV,DL,List.length_range],λj c v h1 h2=> ?_⟩,λj v h2=> ?_⟩
  .simp only[D5,DA]at h2;obtain⟨q,hq,rfl⟩:=h2;have hlt:j<xs.length * ks k:=by have:=(BN.1 hq).1;simpa using this
   rw[Gh hlt]at hq;cases hq;have hi:j / ks k<xs.length:=by rw[aBA hk];exact hlt
   have hm:j % ks k<ks k:=Og _ hk;have hx:xs[j / ks k]? =I xs[j / ks k]:=by simp[hi]
   refine hr _ _ _ _ hx ?_;rw[← Xj hx hm,Nat.mul_comm,Nat.div_add_mod];exact h1
  .simp only[D5,DA]at h2;obtain⟨q,hq,rfl⟩:=h2;have hlt:j<xs.length * ks k:=by have:=(BN.1 hq).1;simpa using this
   rw[Gh hlt]at hq;cases hq;have hi:j / ks k<xs.length:=by rw[aBA hk];exact hlt
   have hm:j % ks k<ks k:=Og _ hk;have:=hu _ _ hi hm;rw[Nat.mul_comm,Nat.div_add_mod]at this;exact this
def aCe(hH:Hs B β H w){k:K}{c:AV}{v:Value}{ys:List (Tof k)}(h:Jx H k c=I ys)(hx:R2 w β c v):∃news,Src P w β k ys v news:=by
 unfold Jx at h;split at h
 .rename_i s;split at h
  .cases h;have hv:v= .string s:=hx;subst hv;have hlen:(BA s).length=s.size:=by rw[BA,DL,F2];rfl
   refine⟨s.data.toList.map λb=>Value.int .u8 b.toNat,λw'=>by rw[hlen];rfl,λw' _=> ?_, ?_,λn hn=> ?_⟩
   .rw[hlen];simp only[I7,Fl];congr 1;apply Array.ext';have:(s.extract 0 s.size).data=s.data:=by
     simp only[YT];rw[show s.size=s.data.size from rfl,Array.extract_size]
    rw[this];simp
   .refine⟨by rw[KV,hlen,DL,F2];simp[ks],λj c u h1 h2=> ?_⟩;simp only[D5,DA]at h2;obtain⟨y,hy,rfl⟩:=h2;have hx:(BA s)[j]? =I (y.toNat:Int):=by simp[BA,hy]
    have:=Xj (k:= .u8) hx (j:=0) aEp;rw[show j * ks .u8+0=j by simp[ks],h1]at this;cases this;exact .lit rfl
   .simp only[I7,Fl];congr 1;apply Array.ext';simp[YT,ks]
  .cases h
 .rcases(aap hH h hx).cellsOf with⟨a,cap,rfl,rfl⟩|⟨b,f,cap,us,rfl,hc,hr,hu⟩
  .refine⟨[],λw'=>rfl,λw' _=> ?_, ?_,λn hn=> ?_⟩
   .cases a with
    | none=>rfl
    | some a=>simp[I7,loadCells,loadCellsFrom]
   .exact RL.nil
   .obtain rfl:n=0:=by simpa using hn
    cases a with
    | none=>simp[I7]
    | some a=>simp[I7,loadCells,loadCellsFrom]
  .refine⟨us,λw'=>rfl,λw' hw=> ?_,hr,λn hn=> ?_⟩;have hl:us.length=ys.length * ks k:=by rw[hr.1,KV]
   exact run_firstCells_some w' (ks k) _ ⟨b,f,G⟩ _ cap us hl (λj u hj=>by rw[Gl,atC hw];exact hu j u hj);have hl:us.length=ys.length * ks k:=by rw[hr.1,KV]
   have hle:n * ks k<=ys.length * ks k:=E6 _ hn;exact run_firstCells_some w (ks k) n ⟨b,f,G⟩ _ cap (us.take<|n * ks k) o5 (λj u hj=>by
    rw[Gl];rw[Gi]at hj;split at hj
    .exact hu j u hj
    .cases hj)
def gA{t u ty e:TypeId}{d:TypeDesc}{i:TypeInfo}(ht:P.underlying t=I (.slice e))(hu:P.underlying u=I d)(hd:d= .string\/ ∃e',d= .slice e')(hi:P.info? e=I i){base:Option Addr}{sLen sCap n:Nat}{v:Value}{news:List Value}
  (hl:∀w',(lB v).run P w'= .ok n w')(hf:∀w',w'.heap=w.heap->(I7 i.size n v).run P w'= .ok news.toArray w')(hn:sLen+n<=sCap){w':World}
  (hst:∀a,base=I a->(storeCells (a.add<|sLen * i.size) news).run P w= .ok () w')(hno:base=G->w'=w):
  (Lz #[t,u] ty #[.slice base sLen sCap,v]).run P w= .ok (.slice base (sLen+n) sCap) w':=by
 have h1:=hl w;have h2:=hf w rfl;cases base with
 | none=>
  obtain rfl:=hno rfl;obtain rfl|⟨e',rfl⟩:=hd<;>simp[Lz,run_underlying ht,run_underlying hu,sizeOf,typeInfo,hi,h1,hn,h2]
 | some a=>
  have h3:=hst a rfl;obtain rfl|⟨e',rfl⟩:=hd<;>simp[Lz,run_underlying ht,run_underlying hu,sizeOf,typeInfo,hi,h1,hn,h2,h3]
def xd{t u ty e:TypeId}{d:TypeDesc}{i:TypeInfo}{z:Value}(ht:P.underlying t=I (.slice e))(hu:P.underlying u=I d)(hd:d= .string\/ ∃e',d= .slice e')(hi:P.info? e=I i)(hz:i.zero=I z){base:Option Addr}{sLen sCap n:Nat}{v:Value}{news olds:List Value}
  (hl:∀w',(lB v).run P w'= .ok n w')(hf:∀w',w'.heap=w.heap->(I7 i.size n v).run P w'= .ok news.toArray w')(hn:sCap<sLen+n)(h63:((sLen+n:Nat):Int)<=9223372036854775807)(LD:kt (sLen+n) sCap * i.bytes<=281474976710656)
  (ho:(I7 i.size sLen<|.slice base sLen sCap).run P w.drew= .ok olds.toArray w.drew):
  (Lz #[t,u] ty #[.slice base sLen sCap,v]).run P w= .ok (.slice (I ⟨w.heap.size,0,G⟩) (sLen+n)<|grownCap w (sLen+n) sCap e)
    (w.drew.alloc<|.cells (olds.toArray++news.toArray++Ly z.cells (grownCap w (sLen+n) sCap e - (sLen+n))) e):=by
 have hn':¬(sLen+n<=sCap):=J
 have azJ:¬(9223372036854775807<((sLen:Int)+(n:Int))):=J
 have azK:¬(281474976710656<kt (sLen+n) sCap * i.bytes):=J
 have h1:=hl w;have h2:=hf w.drew rfl;obtain rfl|⟨e',rfl⟩:=hd<;>(simp[Lz,run_underlying ht,run_underlying hu,sizeOf,typeInfo,zeroValue,hi,hz,h1,hn',azJ,azK,Question.forced,h2,ho,newRow,grownCap];try (congr 2;apply Array.ext';simp[C3]))
def Hs.Zn(h:Hs B β H w){id:Nat}{hd0:Value}{n0:Nat}(hβ:β id=I (hd0,n0))(ob:Ob)(hd:Value)(n:Nat)
  (hos:w'.os=w.os)(KE:w'.tape=w.tape)(F7:w'.output=w.output)(FI:w.heap.size<=w'.heap.size)
  (hold:∀j,j<w.heap.size->(∀a,adr hd0=I a->j≠a.block)->w'.heap[j]? =w.heap[j]?)
  (ha:∀a,adr hd=I a->(∃a0,adr hd0=I a0/\a0.block=a.block)\/(w.heap.size<=a.block/\a.block<w'.heap.size))
  (hob:∀β',β' id=I (hd,n)->Kf (kl1 id) w β w' β'->E5 B.P w' β' id ob)(hpk:Pk B.P w w'):
  ∃β',Hs B β' (upd (λj=>CH (kl1 id)<|H j) id<|I ob) w'/\Kf (kl1 id) w β w' β'/\β' id=I (hd,n):=by
 have hM:∀b,MB (β.up id<|I (hd,n)) b->MB β b\/w.heap.size<=b:=by
  rintro b ⟨j,hd',n',a',hj,ha',hb⟩;by_cases e:j=id
  .subst e;rw[Beta.Ty]at hj;cases hj;obtain⟨a0,h1,h2⟩|h1:=ha a' ha'
   .exact .inl ⟨j,hd0,n0,a0,hβ,h1,h2.trans hb⟩
   .exact .inr (hb▸h1.1)
  .rw[Beta.NM _ _ e]at hj;exact .inl ⟨j,hd',n',a',hj,ha',hb⟩
 have hk:Kf (kl1 id) w β w' (β.up id<|I (hd,n)):=Kf.kill (λj e=>BB _ _ e)
  (λb o v hb hc=>by
   rw[TQ (w:=w) (w':=w')<|hold b (TN w _ hc) λa0 h0 e=>hb<|.inl ⟨id,hd0,n0,a0,hβ,h0,e.symm⟩];exact hc)
  (λb hb hlt hm=>by
   obtain hm|hm:=hm
   .rcases hM b hm with h1|h1
    .exact hb (.inl h1)
    .omega
   .exact hb<|.inr hm)
 refine⟨β.up id<|I (hd,n), ?_,hk,Be _ _ _⟩;refine h.U8 (J1 id) hk (λj e=>BB _ _ e)
  (.inr ⟨ob,hd,n,rfl,Be _ _ _,hob _ (Be _ _ _) hk,λa h2=> ?_⟩)
  (λj p a e hj h2=>hold _ (h.old _ ⟨j,p.1,p.2,a,hj,h2,rfl⟩).2 λa0 h0 e'=>e<|h.inj _ _ _ _ _ _ hj hβ h2 h0 e') hos KE F7 FI (λb hb hO=>hold b (Gj hb h.size) λa0 h0 e=> ?_) rfl hpk
 .rcases ha a h2 with⟨a0,h3,h4⟩|h3
  .exact .inl ⟨_,a0,hβ,h3,h4⟩
  .exact .inr h3
 .rcases(h.old a0.block ⟨id,hd0,n0,a0,hβ,h0,rfl⟩).1 with h3|h3
  .exact hO (e▸h3)
  .omega
def ac2{aB cap bytes:Nat}(h:cap<aB)(hn:aB<=4294967296)(hb:bytes<=256):kt aB cap * bytes<=281474976710656:=by
 refine growslice_fits h ?_;have:aB * bytes<=4294967296 * 256:=l6 hn hb;omega
def aaS(z:Array Value)(n:Nat):(Ly z n).size=n * z.size:=by simp[Ly]
def alF(hP:P=B.P)(hH:Hs B β H w){b:Nat}(hb:H b=G){t u ty e:TypeId}{k:K}{d:TypeDesc}{v:Value}{ys:List (Tof k)}{news:List Value}(ht:P.underlying t=I (.slice e))(hu:P.underlying u=I d)(hd:d= .string\/ ∃e',d= .slice e')
  (hz:zok P e k=Y)(hc:P.cellsOf e=ks k)(hby:P.bytesOf e<=256)(hs:Src P w β k ys v news)(hr:ys.length<=4294967296):
  ∃u' w' β',(Lz #[t,u] ty #[.slice G 0 0,v]).run P w= .ok u' w'/\Hs B β' (upd H b<|I<|.row e A0 k ys) w'/\Kp w β w' β'/\RC w' β' (.own b) u':=by
 obtain⟨i,z,hi,hz',hzs,_⟩:=Xx hz;rw[W0 hi]at hc;rw[iN hi]at hby;by_cases h0:ys=[]
 .subst h0;have Ce:=gA (P:=P) (w:=w) (ty:=ty) (base:=G) (sLen:=0) (sCap:=0) (n:=0) (v:=v) (news:=news) (w':=w) ht hu hd hi hs.len (by rw[hc];exact hs.cells) J (λa h=>by cases h) (λ_=>rfl);obtain⟨β',h1,h2,h3⟩:=hH.grow (w':=w) hb (.row e A0 k []) (.slice G 0 0) 0 rfl rfl rfl (Ar _) (λ_ _=>rfl) (λa h=>by cases h) (λβ' hβ hk=>⟨_,hβ,.inl ⟨rfl,rfl⟩⟩);exact⟨_,_,β',Ce,h1,h2,.own h3 rfl⟩
 .have R3:0<ys.length:=by cases ys with
   | nil=>exact absurd rfl h0
   | cons y l=>simp
  have Ce:=xd (P:=P) (w:=w) (ty:=ty) (base:=G) (sLen:=0) (sCap:=0) (n:=ys.length) (v:=v) (news:=news) (olds:=[]) ht hu hd hi hz' hs.len (by rw[hc];exact hs.cells) J J (ac2 J J hby) (by simp[I7]);have hn:news.length=ys.length * ks k:=by rw[hs.rel.1,KV]
  rw[DZ]at Ce;have hge:=grownCap_ge w ys.length 0 e;have hm:=grownCap_le_maxLen w ys.length 0 e (CP hr aEp);have hob:∀β',β' b=I (lT (I ⟨w.heap.size,0,G⟩) ys.length<|grownCap w ys.length 0 e,ys.length)->Kp w β (w.drew.alloc<|.cells (([]:List Value).toArray++news.toArray++Ly z.cells (grownCap w ys.length 0 e - ys.length)) e) β'->
    E5 B.P (w.drew.alloc<|.cells (([]:List Value).toArray++news.toArray++Ly z.cells (grownCap w ys.length 0 e - ys.length)) e) β' b (.row e A0 k ys):=by
   intro β' hβ hk;refine⟨_,hβ,.inr ⟨w.heap.size,0,_,_,_,rfl,heap_alloc_new w.drew _,rfl,hge,hm, ?_,λi x j c u a1 a2 a3=> ?_⟩⟩
   .simp only[QL,aaS,hzs,Kw,hn,CR];rw[Yi];have:ys.length * ks k<=grownCap w ys.length 0 e * ks k:=E6 _ hge;omega
   .have hj:j<ks k:=by rw[← EN k x];exact(BN.1 a2).1
    have hi':i<ys.length:=(BN.1 a1).1;have hlt:i * ks k+j<news.length:=by rw[hn];exact Nt hi' hj
    refine hk _ _<|Pt hs.rel i x j c u a1 a2 ?_;rw[Lx o5]at a3;simpa using a3
  obtain⟨β',h1,h2,h3⟩:=hH.grow (w':=w.drew.alloc<|.cells (([]:List Value).toArray++news.toArray++Ly z.cells (grownCap w ys.length 0 e - ys.length)) e) hb (.row e A0 k ys) (.slice (I ⟨w.heap.size,0,G⟩) ys.length<|grownCap w ys.length 0 e) ys.length rfl rfl rfl y9
   (λj hj=>heap_alloc_old w.drew _ hj) (λa ha=>by cases ha;simp) hob
  exact⟨_,_,β',Ce,h1,h2,.own h3 rfl⟩
def alE(hP:P=B.P)(hH:Hs B β H w){id:Nat}{t u ty e:TypeId}{k:K}{d:TypeDesc}{v hd:Value}{xs ys:List (Tof k)}{news:List Value}(hid:H id=I (.row e A0 k xs))(hb:RC w β (.own id) hd)
  (ht:P.underlying t=I (.slice e))(hu:P.underlying u=I d)(hd':d= .string\/ ∃e',d= .slice e')
  (hz:zok P e k=Y)(hc:P.cellsOf e=ks k)(hby:P.bytesOf e<=256)(hs:Src P w β k ys v news)(hr:xs.length+ys.length<=4294967296):
  ∃u' w' β',(Lz #[t,u] ty #[hd,v]).run P w= .ok u' w'/\Hs B β' (upd (λj=>CH (kl1 id)<|H j) id<|I<|.row e A0 k<|xs++ys) w'/\Kf (kl1 id) w β w' β'/\RC w' β' (.own id) u':=by
 obtain⟨i,z,hi,hz',hzs,_⟩:=Xx hz;rw[W0 hi]at hc;rw[iN hi]at hby;obtain⟨hd0,k1,k2⟩:=hH.EK id _ hid;cases hb with
 | own k3 k4=>
 rw[k1]at k3;cases k3;have hn:news.length=ys.length * ks k:=by rw[hs.rel.1,KV]
 have hkp:=Hw k;have grow:∀(base:Option Addr) (cap:Nat) (olds:List Value),hd= .slice base xs.length cap->cap<xs.length+ys.length->RL (RC w β) (xs.flatMap<|enc k) olds->
   (I7 i.size xs.length<|.slice base xs.length cap).run P w.drew= .ok olds.toArray w.drew->
   ∃u' w' β',(Lz #[t,u] ty #[hd,v]).run P w= .ok u' w'/\Hs B β' (upd (λj=>CH (kl1 id)<|H j) id<|I<|.row e A0 k<|xs++ys) w'/\Kf (kl1 id) w β w' β'/\RC w' β' (.own id) u':=by
  intro base cap olds he Hi hold hfc;have Ce:=xd (P:=P) (w:=w) (ty:=ty) (base:=base) (sLen:=xs.length) (sCap:=cap) (n:=ys.length) (v:=v) (news:=news) (olds:=olds) ht hu hd' hi hz' hs.len (by rw[hc];exact hs.cells) Hi J (ac2 Hi hr hby) hfc;have hge:=grownCap_ge w (xs.length+ys.length) cap e;have hm:=grownCap_le_maxLen w (xs.length+ys.length) cap e (CP hr aEp);have ho:olds.length=xs.length * ks k:=by rw[hold.1,KV]
  have Is:RL (RC w β) ((xs++ys).flatMap<|enc k) (olds++news):=by rw[lF];exact hold.append hs.rel
  have hob:∀β',β' id=I (lT (I ⟨w.heap.size,0,G⟩) (xs.length+ys.length)<|grownCap w (xs.length+ys.length) cap e,xs.length+ys.length)->Kf (kl1 id) w β (w.drew.alloc<|.cells (olds.toArray++news.toArray++Ly z.cells (grownCap w (xs.length+ys.length) cap e - (xs.length+ys.length))) e) β'->
    E5 B.P (w.drew.alloc<|.cells (olds.toArray++news.toArray++Ly z.cells (grownCap w (xs.length+ys.length) cap e - (xs.length+ys.length))) e) β' id (.row e A0 k<|xs++ys):=by
   intro β' hβ hk;refine⟨_,by rw[hβ,Aq],.inr ⟨w.heap.size,0,_,_,_,by rw[Aq],heap_alloc_new w.drew _,rfl,by rw[Aq];exact hge,hm, ?_,λi x j c u a1 a2 a3=> ?_⟩⟩
   .simp only[QL,aaS,hzs,Kw,hn,ho];rw[Yi];have h1:(xs.length+ys.length) * ks k<=grownCap w (xs.length+ys.length) cap e * ks k:=E6 _ hge;rw[EH]at h1 ⊢;omega
   .have hj:j<ks k:=by rw[← EN k x];exact(BN.1 a2).1
    have hi':i<xs.length+ys.length:=by have:=(BN.1 a1).1;simpa using this
    have hlt:i * ks k+j<(xs.length+ys.length) * ks k:=Nt hi' hj;rw[EH]at hlt;have h2:=hk _ _ (Pt Is i x j c u a1 a2 (by
     rw[Lx o5]at a3;simpa using a3))
    rwa[J1 id c<|IQ k x a2]at h2
  obtain⟨β',h1,h2,h3⟩:=hH.Zn (hpk:=Pk.old λj hj=>by first|exact heap_alloc_old w.drew _ hj|exact heap_alloc_old w.drew _ _ hj) (w':=w.drew.alloc<|.cells (olds.toArray++news.toArray++Ly z.cells (grownCap w (xs.length+ys.length) cap e - (xs.length+ys.length))) e) k1 (.row e A0 k<|xs++ys) (.slice (I ⟨w.heap.size,0,G⟩) (xs.length+ys.length)<|grownCap w (xs.length+ys.length) cap e) (xs.length+ys.length) rfl rfl rfl y9
   (λj hj _=>heap_alloc_old w.drew _ hj) (λa ha=>by cases ha;right;simp) hob
  exact⟨_,_,β',by rw[he];exact Ce,h1,h2,.own h3 rfl⟩
 obtain⟨rfl,rfl⟩|⟨b,f,cap,us,fr,rfl,hh,hfr,hnc,hcm,hsz,Cn⟩:=k2
 .by_cases h0:ys=[]
  .subst h0;have Ce:=gA (P:=P) (w:=w) (ty:=ty) (base:=G) (sLen:=0) (sCap:=0) (n:=0) (v:=v) (news:=news) (w':=w) ht hu hd' hi hs.len (by rw[hc];exact hs.cells) J (λa h=>by cases h) (λ_=>rfl);obtain⟨β',h1,h2,h3⟩:=hH.Zn (hpk:=Pk.refl _ _) (w':=w) k1 (.row e A0 k<|[]++[]) (.slice G 0 0) 0 rfl rfl rfl (Ar _) (λ_ _ _=>rfl) (λa h=>by cases h) (λβ' hβ hk=>⟨_,hβ,.inl ⟨rfl,rfl⟩⟩);exact⟨_,_,β',Ce,h1,h2,.own h3 rfl⟩
  .have R3:0<ys.length:=by cases ys with
    | nil=>exact absurd rfl h0
    | cons y l=>simp
   exact grow G 0 [] rfl o5 RL.nil (by simp[I7])
 .have hsl:MC w β k xs (.slice (I ⟨b,f,G⟩) xs.length cap):=FX.cells (e:=e) (fz:=false)<|.inr ⟨b,f,cap,us,fr,rfl,hh,hfr,hnc,hcm,hsz,Cn⟩;by_cases LD:xs.length+ys.length<=cap
  .have Hi:(xs.length+ys.length) * ks k<=cap * ks k:=E6 _ LD;rw[EH]at Hi;have D8:∀u∈news,u.oneCell'=Y:=hs.rel.one;have hst:=WT (P:=P) b (f+xs.length * ks k) e fr news 0 us w hh (by rw[hn];omega) (.inl (by rw[hfr];rfl)) D8;simp only[He]at hst;have Ce:=gA (P:=P) (w:=w) (ty:=ty) (base:=I ⟨b,f,G⟩) (sLen:=xs.length) (sCap:=cap) (n:=ys.length) (v:=v) (news:=news) ht hu hd' hi hs.len (by rw[hc];exact hs.cells) LD
    (λa h=>by cases h;rw[hc,Gl];exact hst) (λh=>by cases h)
   have hob:∀β',β' id=I (lT (I ⟨b,f,G⟩) (xs.length+ys.length) cap,xs.length+ys.length)->Kf (kl1 id) w β (w.setRow b (us.toList.take (f+xs.length * ks k)++news++us.toList.drop (f+xs.length * ks k+news.length)).toArray) β'->
     E5 B.P (w.setRow b (us.toList.take (f+xs.length * ks k)++news++us.toList.drop (f+xs.length * ks k+news.length)).toArray) β' id (.row e A0 k<|xs++ys):=by
    intro β' hβ hk;have FI:(us.toList.take (f+xs.length * ks k)++news++us.toList.drop (f+xs.length * ks k+news.length)).toArray.size=us.size:=by
     simp only[Kw,Aq,Dg,EI,F2];omega
    refine⟨_,by rw[hβ,Aq],.inr ⟨b,f,cap,_,fr,by rw[Aq],setRow_heap w b us _ e _ hh,by rw[hfr];rfl,by rw[Aq];exact LD,hcm,by rw[FI];exact hsz,λi x j c u a1 a2 a3=> ?_⟩⟩;have hj:j<ks k:=by rw[← EN k x];exact(BN.1 a2).1
    have hi':i<xs.length+ys.length:=by have:=(BN.1 a1).1;simpa using this
    have a3':(us.toList.take (f+xs.length * ks k)++news++us.toList.drop (f+xs.length * ks k+news.length))[f+(i * ks k+j)]? =I u:=by simpa using a3
    have hsp:f+xs.length * ks k+news.length<=us.toList.length   :=by
     have:us.toList.length=us.size:=F2;rw[hn];omega
    rw[YG _ _ _ hsp]at a3';have h2:RC w β c u:=by
     by_cases hx:i<xs.length
     .have h3:=Nt hx hj;rw[A9 J]at a3';rw[I8 hx]at a1;exact Cn i x j c u a1 a2 (by simpa using a3')
     .have h3:xs.length * ks k<=i * ks k:=E6 _ J;have h4:i * ks k+j<(xs.length+ys.length) * ks k:=Nt hi' hj;rw[EH]at h4;rw[A5 J]at a3';rw[F1 J]at a1;refine Pt hs.rel (i - xs.length) x j c u a1 a2 ?_;rw[← a3',Yi];congr 1;omega
    have h5:=hk _ _ h2;rwa[J1 id c<|IQ k x a2]at h5
   obtain⟨β',h1,h2,h3⟩:=hH.Zn (hpk:=Pk.setRow hh λhn=>by rw[← hP,aso hz]at hn;cases hn) (w':=w.setRow b (us.toList.take (f+xs.length * ks k)++news++us.toList.drop (f+xs.length * ks k+news.length)).toArray) k1 (.row e A0 k<|xs++ys) (.slice (I ⟨b,f,G⟩) (xs.length+ys.length) cap) (xs.length+ys.length) rfl rfl rfl y9
    (λj hj hne=>setRow_other w b j _ λe=>hne _ rfl e) (λa ha=>by cases ha;exact .inl ⟨_,rfl,rfl⟩) hob
   exact⟨_,_,β',Ce,h1,h2,.own h3 rfl⟩
  .rcases hsl.cellsOf with⟨a,Zu,rfl,he⟩|⟨b',f',Zu,us',he,_,JV,hcl⟩
   .cases he;exact grow (I ⟨b,f,G⟩) cap [] rfl J RL.nil (by simp[I7,loadCells,loadCellsFrom])
   .cases he;exact grow (I ⟨b,f,G⟩) cap us' rfl J JV (run_firstCells_some w.drew i.size _ ⟨b,f,G⟩ _ cap us' (by rw[hc,JV.1,KV]) (λj u hj=>by rw[Gl];exact hcl j u hj))
end
end Go.VS
namespace Go.VS
open Go
section
variable {P:Program} {B:Bb} {β β':Beta} {H:Hp} {stk:List (Array Value)} {s:S} {a:Act} {w w':World} {kd:TypeId->Option K}
def aBS{k:K}{c:AV}{ys:List (Tof k)}(h:Jx H k c=I ys):∀g w x,c≠ .gd g w x:=by
 intro g w x e;subst e;simp[Jx,CD]at h
def avE(s:S)(id:Nat)(ob:Option Ob):s.EJ id ob={ s with H:=upd s.H id ob } :=rfl
def apz(hP:P=B.P)(h:St B β stk s a w){b:Nat}(hb:s.H b=G){t u ty:TypeId}{x y:Operand}{q:Bool}{v:AV}{s':S}(hs:Ke P kd t u s b (s.ev x) (s.ev y)=I (q,v,s'))(hq:q=Y):
  ∃u' w' β',(Lz #[t,u] ty #[a.eval x,a.eval y]).run P w= .ok u' w'/\St B β' stk s' a w'/\R2 w' β' v u'/\s'.gs=s.gs/\s'.n=s.n/\s'.pins=s.pins:=by
 subst hq;unfold Ke at hs;cases he:IT P t with
 | none=>rw[he]at hs;cases hs
 | some e=>
 rw[he]at hs;simp only[A6]at hs;cases hk:kd e with
 | none=>rw[hk]at hs;cases hs
 | some k=>
 rw[hk]at hs;simp only[A6]at hs;cases hy:Jx s.H k (s.ev y) with
 | none=>rw[hy]at hs;cases hs
 | some ys=>
 rw[hy]at hs;simp only[A6]at hs;have hy2:R2 w β (s.ev y) (a.eval y):=(h.eval y).of<|aBS hy;obtain⟨news,KI⟩:=aCe (P:=P) h.hs hy hy2;have ht:=dr he;have conds:∀c:Bool,(Af (P.cellsOf e) (ks k)&&Dq (P.bytesOf e) 256&&zok P e k&&c)=Y->P.cellsOf e=ks k/\P.bytesOf e<=256/\zok P e k=Y/\c=Y:=by
  intro c hc;simp only[AD]at hc;exact⟨Bk hc.1.1.1,Da hc.1.1.2,hc.1.2,hc.2⟩
 have ud:(match P.underlying u with|some .string=>Y|some (.slice _)=>Y|_=>A0)=Y->∃d,P.underlying u=I d/\(d= .string\/ ∃e',d= .slice e'):=by
  intro hc;split at hc
  .rename_i hu;exact⟨_,hu,.inl rfl⟩
  .rename_i e' hu;exact⟨_,hu,.inr ⟨e',rfl⟩⟩
  .cases hc
 have hx:=h.eval x;split at hs
 .rename_i cx hc hcx;rw[hcx]at hx;obtain⟨c1,c2,c3,c4⟩:=conds _ hc;obtain⟨d,hu,hd⟩:=ud c4;simp only[Bs,CL]at hs;obtain⟨hr,rfl,rfl⟩:=hs;simp only[Ab,decide_eq_true_eq]at hr;obtain⟨u',w',β',g1,g2,g3,g4⟩:=alF (ty:=ty) hP h.hs hb ht hu hd c3 c1 c2 KI hr;rw[hx.lit];exact⟨u',w',β',g1,h.keep g3 g2,g4,rfl,rfl,rfl⟩
 .rename_i cx id hc hcx;rw[hcx]at hx;have hx:RC w β (.own id) (a.eval x):=hx;obtain⟨c1,c2,c3,c4⟩:=conds _ hc;obtain⟨d,hu,hd⟩:=ud c4;split at hs
  .rename_i e' k' xs hid hne;split at hs
   .rename_i hee;obtain rfl:=Bk hee;cases Zi:Ig k' k xs with
    | none=>rw[Zi]at hs;cases hs
    | some xs'=>
     rw[Zi]at hs;obtain⟨ek,rfl⟩:=Hq Zi;subst ek;simp only[A6,Bs,CL]at hs;obtain⟨hr,rfl,rfl⟩:=hs;simp only[Ab,decide_eq_true_eq]at hr;obtain⟨u',w',β',g1,g2,g3,g4⟩:=alE (ty:=ty) hP h.hs hid hx ht hu hd c3 c1 c2 KI hr;exact⟨u',w',β',g1,h.map (J1 id) (OP id) g3 g2,g4,rfl,rfl,rfl⟩
   .cases hs
  .cases hs
 .cases hs
def atA(hP:P=B.P)(h:St B β stk s a w){t u ty:TypeId}{x y:Operand}{v:AV}{s':S}(hs:Ko P t s (s.ev x) (s.ev y)=I (v,s')):
  ∃u' w' β',(lC #[t,u] ty #[a.eval x,a.eval y]).run P w= .ok u' w'/\St B β' stk s' a w'/\R2 w' β' v u'/\s'.gs=s.gs/\s'.n=s.n/\s'.pins=s.pins:=by
 unfold Ko at hs;have hx:=h.eval x;split at hs
 .rename_i cx id hcx;rw[hcx]at hx;have hx:RC w β (.own id) (a.eval x):=hx;split at hs
  .rename_i e fz k xs hid hne;cases he:IT P t with
   | none=>rw[he]at hs;cases hs
   | some e'=>
    rw[he]at hs;simp only[A6]at hs;split at hs
    .rename_i hc;have hc:=Bk hc;cases hy:Jx s.H k (s.ev y) with
     | none=>rw[hy]at hs;cases hs
     | some ys=>
      rw[hy]at hs;simp only[A6,Bs,CL]at hs;obtain⟨rfl,rfl⟩:=hs;have hy2:R2 w β (s.ev y) (a.eval y):=(h.eval y).of<|aBS hy;obtain⟨news,KI⟩:=aCe (P:=P) h.hs hy hy2;have ht:=dr he;have hk:=Hw k;have hn:news.length=ys.length * ks k:=by rw[KI.rel.1,KV]
      obtain⟨hd,k1,k2⟩:=h.hs.EK id _ hid;generalize hg:a.eval x=vx at hx;cases hx with
      | own k3 k4=>
      rw[k1]at k3;cases k3;have hfc:=KI.F5 (F4 ys.length xs.length)<|Nat.min_le_left _ _;have hlen:=KI.len w;obtain⟨rfl,rfl⟩|⟨b,f,cap,us,fr,rfl,hh,hfr,hnc,hcm,hsz,Cn⟩:=k2
      .refine⟨.int .i64 (F4 ys.length 0:Nat),w,β, ?_, ?_,rfl,rfl,rfl,rfl⟩
       .have hfc:=KI.F5 0<|Cz _;simp[lC,run_underlying ht,hlen,Kb (P:=P) (w:=w) (t:=e') J,hc,hfc,goInt]
       .have:s.EJ id (I<|.row e fz k<|ys.take ([]:List (Tof k)).length++([]:List (Tof k)).drop ys.length)=s:=by
         simp only[CR,List.take_zero,List.drop_nil,CK,avE];rw[← hid];have:upd s.H id (s.H id)=s.H:=funext λj=>by
          by_cases e:j=id
          .subst e;rw[Be]
          .rw[BB _ _ e]
         rw[this]
        rw[this];exact h
      .have nq:F4 ys.length xs.length<=xs.length:=Nat.min_le_right _ _;have ayM:F4 ys.length xs.length<=ys.length:=Nat.min_le_left _ _;have h1:F4 ys.length xs.length * ks k<=xs.length * ks k:=E6 _ nq;have h2:xs.length * ks k<=cap * ks k:=E6 _ hnc;have h3:F4 ys.length xs.length * ks k<=ys.length * ks k:=E6 _ ayM;have D8:∀u∈news.take (F4 ys.length xs.length * ks k),u.oneCell'=Y:=λu hu=>KI.rel.one u<|I9 hu;have htl:(news.take<|F4 ys.length xs.length * ks k).length=F4 ys.length xs.length * ks k:=by rw[Dg,hn];omega
       have hst:=WT (P:=P) b f e fr (news.take<|F4 ys.length xs.length * ks k) 0 us w hh (by rw[htl];omega) (by
        subst hfr;cases fz
        .exact .inl rfl
        .exact .inr<|Ar _) D8
       simp only[He]at hst;obtain⟨g1,g2⟩:=h.hs.setRow (hpk:=Pk.setRow hh λ_ a' hu=>by
        have hus:us.toList.length=us.size:=F2;refine XH (ys:=news.take<|F4 ys.length xs.length * ks k) (by rw[htl];omega) (by simpa using hu) λe1 e2=>ju Cn (λe3=>e2 ?_) e1 hu;subst e3;exact Du (by rw[htl];simp)) k1 rfl (us.toList.take f++news.take (F4 ys.length xs.length * ks k)++us.toList.drop (f+(news.take<|F4 ys.length xs.length * ks k).length)).toArray (.row e fz k<|ys.take xs.length++xs.drop ys.length) (λhkp=>by
        have FI:(us.toList.take f++news.take (F4 ys.length xs.length * ks k)++us.toList.drop (f+(news.take<|F4 ys.length xs.length * ks k).length)).toArray.size=us.size:=by
         simp only[Kw,Aq,EI,htl,Dg,F2]at *;omega
        have hll:(ys.take xs.length++xs.drop ys.length).length=xs.length:=by simp;omega
        refine⟨_,by rw[k1,hll],.inr ⟨b,f,cap,_,fr,by rw[hll],setRow_heap w b us _ e _ hh,by rw[FI];exact hfr,by rw[hll];exact hnc,hcm,by rw[FI];exact hsz,λi x j c u a1 a2 a3=> ?_⟩⟩;have hj:j<ks k:=by rw[← EN k x];exact(BN.1 a2).1
        have hi':i<xs.length:=by have:=(BN.1 a1).1;rwa[hll]at this
        have a3':(us.toList.take f++news.take (F4 ys.length xs.length * ks k)++us.toList.drop (f+(news.take<|F4 ys.length xs.length * ks k).length))[f+(i * ks k+j)]? =I u:=by simpa using a3
        have hsp:f+(news.take<|F4 ys.length xs.length * ks k).length<=us.toList.length:=by
         have:us.toList.length=us.size:=F2;rw[htl];omega
        rw[YG _ _ _ hsp,htl]at a3';refine hkp _ _ ?_;by_cases hy':i<ys.length
        .have hm:i<F4 ys.length xs.length:=Nat.lt_min.2 ⟨hy',hi'⟩;have hm2:=Nt hm hj;rw[A5 J,Gi,A5 J]at a3';rw[I8 o5,Gi,A5 hi']at a1;refine Pt KI.rel i x j c u a1 a2 ?_;rw[← a3'];congr 1;omega
        .have hm:F4 ys.length xs.length=ys.length:=QM J;have hm2:ys.length * ks k<=i * ks k:=E6 _ J;rw[hm]at a3';rw[A9 J]at a3';have e1:(ys.take xs.length).length=ys.length:=by simp;omega
         rw[F1 J,e1,Hb]at a1;have a1':xs[i]? =I x:=by rw[← a1];congr 1;omega
         exact Cn i x j c u a1' a2<|by simpa using a3')
       refine⟨.int .i64 (F4 ys.length xs.length:Nat),_,β, ?_,h.keep g2 g1,rfl,rfl,rfl,rfl⟩;simp only[lC,TU,YP,aBI,Ej,run_underlying ht,F3,hlen,Kb (P:=P) (w:=w) (t:=e') J,hc,hfc,Fl,hst,goInt]
    .cases hs
  .cases hs
 .cases hs
def FX.cut{e:TypeId}{fz:Bool}{k:K}{xs ys:List (Tof k)}{bb f cap l h:Nat}(hy:ys=(xs.take h).drop l)(hlh:l<=h)(hh:h<=xs.length)(hx:FX w β e fz k xs (.slice (I ⟨bb,f,G⟩) xs.length cap)):
  FX w β e fz k ys (.slice (if cap=l then I ⟨bb,f,G⟩ else I ⟨bb,f+l * ks k,G⟩) (h - l)<|cap - l):=by
 obtain⟨h1,_⟩|⟨b',f',Zu,us,fr,h1,hhp,hfr,hnc,hcm,hsz,Cn⟩:=hx
 .cases h1
 .cases h1;have hyl:ys.length=h - l:=by subst hy;simp;omega
  by_cases he:cap=l
  .rw[A5 he];obtain rfl:ys=[]:=Du J;refine .inr ⟨bb,f,cap - l,us,fr,by rw[hyl],hhp,hfr,by simp,J, ?_,λi x j c u a1=>by simp at a1⟩;have:(cap - l) * ks k<=cap * ks k:=E6 _ J;omega
  .rw[A9 he];refine .inr ⟨bb,f+l * ks k,cap - l,us,fr,by rw[hyl],hhp,hfr,J,J, ?_,λi x j c u a1 a2 a3=> ?_⟩
   .have:(cap - l) * ks k=cap * ks k - l * ks k:=Yi _ _ _;have:l * ks k<=cap * ks k:=E6 _ J;omega
   .subst hy;rw[Hb,Gi]at a1;split at a1
    .refine Cn (l+i) x j c u a1 a2 ?_;rw[← a3,EH];congr 1;omega
    .cases a1
def aoE(h:St B β stk s a w){id:Nat}{x:Operand}{t:TypeId}{lo hi:Option Operand}{z:Bool}(hx:s.ev x= .own id)(hf:Iz P s.H t (.own id)=Y){q:Bool}{v:AV}{s':S}
  (hs:Ka s id z (lo.map s.ev) (hi.map s.ev)=I (q,v,s'))(hq:q=Y):
  ∃u' β',(QU t (a.eval x) (lo.map a.eval) (hi.map a.eval) G).run P w= .ok u' w/\St B β' stk s' a w/\R2 w β' v u'/\s'.gs=s.gs/\s'.n=s.n/\s'.pins=s.pins:=by
 subst hq;have hxv:=h.eval x;rw[hx]at hxv;have hxv:RC w β (.own id) (a.eval x):=hxv;unfold Ka at hs;split at hs
 .rename_i e fz k xs hid;obtain⟨e',hu,hk⟩:∃e',P.underlying t=I (.slice e')/\P.cellsOf e'=ks k:=by
   unfold Iz at hf;split at hf<;>simp_all
  have hkp:=Hw k;obtain⟨hd,k1,k2⟩:=h.hs.EK id _ hid;obtain⟨a0,cap,hv,Hi⟩:=k2.cells.len;have MF:a.eval x=hd:=by
   generalize a.eval x=vx at hxv;cases hxv with
   | own k3 k4=>rw[k1]at k3;cases k3;rfl
  cases hc:JI (lo.map s.ev) (hi.map s.ev) xs.length with
  | none=>rw[hc]at hs;cases hs
  | some r=>
   obtain⟨c,l,hh⟩:=r;rw[hc]at hs;simp only[A6]at hs;have main:c=Y->∃bs,(QU t (a.eval x) (lo.map a.eval) (hi.map a.eval) G).run P w= .ok bs w/\0<=l/\l<=hh/\hh<=(j8 xs:Int)/\bs= .slice (if cap=l.toNat then a0 else a0.map (·.add (l.toNat * ks k))) (hh.toNat - l.toNat) (cap - l.toNat):=by
    intro hct;subst hct;obtain⟨hb,g1,g2,g3⟩:=WI (P:=P) (w:=w) (β:=β) (tm:=BZ a) h.eval hc Y Hi;refine⟨_, ?_,g1,g2,g3,rfl⟩;rw[MF,hv,iU hu J hb,hk]
   have acd:c=Y->Ih (lo.map s.ev) (hi.map s.ev) l hh xs=(xs.take hh.toNat).drop l.toNat:=by
    intro hct;subst hct;exact mK hc
   split at hs
   .simp only[Bs,CL]at hs;obtain⟨hct,rfl,rfl⟩:=hs;obtain⟨bs,Ce,g1,g2,g3,hbs⟩:=main hct;have hys:=acd hct;have hlen:(Ih (lo.map s.ev) (hi.map s.ev) l hh xs).length=hh.toNat - l.toNat:=by rw[hys];simp;omega
    have azF:Qm bs=Y:=by rw[hbs];rfl
    obtain⟨β',q1,q2,q3⟩:=h.hs.Zn (hpk:=Pk.refl _ _) (w':=w) k1 (.row e fz k<|Ih (lo.map s.ev) (hi.map s.ev) l hh xs) bs (hh.toNat - l.toNat) rfl rfl rfl (Ar _) (λ_ _ _=>rfl) (λa' ha'=>by
      left;rw[hbs]at ha';cases a0 with
      | none=>exfalso;split at ha'<;>cases ha'
      | some aa=>
       refine⟨aa,by rw[hv];rfl, ?_⟩;split at ha'
       .cases ha';rfl
       .cases ha';obtain⟨e1,_⟩|⟨b',f',Zu,us,fr,e1,_⟩:=k2
        .rw[hv]at e1;cases e1
        .rw[hv]at e1;simp only[Value.slice.injEq,Bs]at e1;obtain⟨rfl,_⟩:=e1;simp[Gl])
     (λβ' hβ hkf=>by
      refine⟨bs,by rw[hβ,hlen], ?_⟩;rw[hbs];obtain⟨e1,e2⟩|⟨b',f',Zu,us,fr,e1,hhp,hfr,hnc,hcm,hsz,Cn⟩:=k2
      .rw[hv]at e1;simp only[Value.slice.injEq]at e1;obtain⟨rfl,_,rfl⟩:=e1;subst e2;refine .inl ⟨?_,by rw[hys];simp⟩;have:hh.toNat=0:=by simp at g3;omega
       have:l.toNat=0:=J
       simp[*]
      .rw[hv]at e1;cases e1;have ayc:FX w β' e fz k xs (.slice (I ⟨b',f',G⟩) xs.length cap):= .inr ⟨b',f',cap,us,fr,rfl,hhp,hfr,hnc,hcm,hsz,λi x j c u a1 a2 a3=>by
        have:=hkf _ _<|Cn i x j c u a1 a2 a3;rwa[J1 id c<|IQ k x a2]at this⟩
       have:=ayc.cut (l:=l.toNat) (h:=hh.toNat) hys J J;simpa[Gl] using this)
    refine⟨bs,β',Ce,h.map (J1 id) (OP id) q2 q1, ?_,rfl,rfl,rfl⟩;exact RC.own q3 azF
   .cases hs
   .simp only[Bs,CL]at hs;obtain⟨hct,rfl,rfl⟩:=hs;obtain⟨bs,Ce,g1,g2,g3,hbs⟩:=main hct;have hys:=acd hct;obtain⟨β',q1,q2⟩:=h.acB id;have hsl:=q2.fr id _ e fz k xs y9 hid hxv;refine⟨bs,β',Ce,q1, ?_, ?_, ?_, ?_⟩
    .show RC w β' (.sl k _) bs;rw[MF,hv]at hsl;rw[hbs];by_cases hxs:xs=[]
     .subst hxs;have e1:hh.toNat - l.toNat=0:=by simp at g3;omega
      rw[e1,hys];simp only[List.take_nil,List.drop_nil];exact .nil
     .have ha:∃bb f,a0=I ⟨bb,f,G⟩:=by
       cases hsl with
       | nil=>exact absurd rfl hxs
       | sl=>exact⟨_,_,rfl⟩
      obtain⟨bb,f,rfl⟩:=ha;have:=RC.cut (l:=l.toNat) (h:=hh.toNat) hys J J hsl Hi;simpa[Gl] using this
    .simp only[S.freeze,hid];rfl
    .simp only[S.freeze,hid];rfl
    .simp only[S.freeze,hid];rfl
 .cases hs
end
end Go.VS
namespace Go.VS
open Go
section
variable {B:Bb} {β β':Beta} {H:Hp} {stk:List (Array Value)} {s s':S} {a:Act} {w w':World} {C:Cx}
def Jt(B:Bb)(stk:List (Array Value))(a:Act)(d:Option Nat)(s':S)(K:Act->World->Prop):Prop:=∀β' u w',St B β' stk s' (a.put d u) w'->K (a.put d u) w'
def We{o:Oper}{K:Act->World->Prop}{Q:Exit->Act->World->Prop}{u:Value}(h:(execOp a.eval o).run B.P w= .ok (.value u) w')(hk:K (a.put o.dst u) w'):o.wp B.P a w K Q:=by
 unfold Oper.wp;rw[h];exact hk
def auH(h:St B β stk s a w){b:Nat}{v:AV}{os:List Ob}{o:Oper}(hd:s.has o.dst=Y)(hg:Good B β s.H w b v os ((execOp a.eval o).run B.P w)){K:Act->World->Prop}{Q:Exit->Act->World->Prop}
  (hK:Jt B stk a o.dst ({ s with H:=Et s.H b os }.put o.dst v) K):o.wp B.P a w K Q:=by
 obtain⟨u,w',β',h1,h2,h3,h4⟩:=hg;refine We h1<|hK β' _ _ ?_;have h5:=h.keep h3 h2;refine h5.put hd (RT.HG h4) (λg want x e=> ?_);rw[e]at h4;exact absurd h4<|by simp[R2,R1]
def QA(h:St B β stk s a w){d:Option Nat}(hd:s.has d=Y){v:AV}{u:Value}(hv:R2 w β v u):St B β stk (s.put d v) (a.put d u) w:=
 h.put hd (RT.HG hv) (λg want x e=>by rw[e]at hv;exact absurd hv<|by simp[R2,R1])
def QF{s s':S}(h1:s'.gs=s.gs)(h2:s'.n=s.n)(h3:s'.pins=s.pins)(d:Option Nat):s'.has d=s.has d:=by
 cases d with
 | none=>rfl
 | some d=>simp only[S.has,h1,h2,h3]
def aCE(hP:C.P=B.P)(h:St B β stk s a w){b:Nat}(hb:s.H b=G){o:Oper}(hd:s.has o.dst=Y){K:Act->World->Prop}{Q:Exit->Act->World->Prop}
  (he:(match CA C.P C.kd s.ev s.H b o.op with
   | some (q,v,os)=>if q then I ({ s with H:=Et s.H b os }.put o.dst v) else G
   | none=>G)=I s')(hK:Jt B stk a o.dst s' K):o.wp B.P a w K Q:=by
 split at he
 .rename_i q v os hp;split at he
  .rename_i hq;cases he;have hg:=asH (P:=C.P) hP h.eval (λ_=>rfl) (λ_=>rfl) h.hs hb hp hq;rw[hP]at hg;exact auH h hd hg hK
  .cases he
 .cases he
def fW:∀(ids:List Nat) (s:S),(ids.foldl S.freeze s).gs=s.gs/\(ids.foldl S.freeze s).n=s.n/\(ids.foldl S.freeze s).pins=s.pins/\(ids.foldl S.freeze s).nid=s.nid
 | [],s=>⟨rfl,rfl,rfl,rfl⟩
 | i::ids,s=>by
  obtain⟨h1,h2,h3,h4⟩:=fW ids<|s.freeze i;have:(s.freeze i).gs=s.gs/\(s.freeze i).n=s.n/\(s.freeze i).pins=s.pins/\(s.freeze i).nid=s.nid:=by
   unfold S.freeze;split<;>exact⟨rfl,rfl,rfl,rfl⟩
  exact⟨h1.trans this.1,h2.trans this.2.1,h3.trans this.2.2.1,h4.trans this.2.2.2⟩
def apL{P:Program}{t:TypeId}{x y:AV}(h:IW P t s x y=I s'):s'.gs=s.gs/\s'.n=s.n/\s'.pins=s.pins:=by
 unfold IW at h;split at h
 .split at h
  .split at h
   .obtain⟨ys,hc,h⟩:=Ag.1 h;split at h<;>cases h;exact⟨rfl,rfl,rfl⟩
   .cases h
  .obtain⟨ys,hc,h⟩:=Ag.1 h;split at h
   .obtain⟨z,hz,h⟩:=Ag.1 h;cases h;obtain⟨h1,h2,h3,_⟩:=fW (ys.filterMap H8) s;exact⟨h1,h2,h3⟩
   .cases h
  .obtain⟨ys,hc,h⟩:=Ag.1 h;split at h
   .obtain⟨z,hz,h⟩:=Ag.1 h;cases h;exact⟨rfl,rfl,rfl⟩
   .cases h
  .cases h
 .cases h
def aq5(hP:C.P=B.P)(h:St B β stk s a w){o:Oper}(hd:s.has o.dst=Y){t:TypeId}{p x:Operand}(ho:o.op= .store t p x){s1:S}(hs:IW C.P t s (s.ev p) (s.ev x)=I s1){K:Act->World->Prop}{Q:Exit->Act->World->Prop}
  (hK:Jt B stk a o.dst (s1.put o.dst Dl) K):o.wp B.P a w K Q:=by
 obtain⟨w',β',h1,h2⟩:=aq6 hP h hs;obtain⟨e1,e2,e3⟩:=apL hs;rw[hP]at h1;unfold Oper.wp execOp;rw[ho];simp only[Ej,h1,F3,Fl];exact hK β' _ _<|QA h2 (by rw[QF e1 e2 e3];exact hd) rfl
def apy(hP:C.P=B.P)(h:St B β stk s a w){b:Nat}(hb:s.H b=G){o:Oper}(hd:s.has o.dst=Y){x y:Operand}{t u:TypeId}(ho:o.op= .call { callee:= .builtin .append,args:= #[x,y],argTypes:= #[t,u] })
  {v:AV}{s1:S}(hs:Ke C.P C.kd t u s b (s.ev x) (s.ev y)=I (Y,v,s1)){K:Act->World->Prop}{Q:Exit->Act->World->Prop}(hK:Jt B stk a o.dst (s1.put o.dst v) K):o.wp B.P a w K Q:=by
 obtain⟨u',w',β',h1,h2,h3,e1,e2,e3⟩:=apz (ty:=o.type) hP h hb hs rfl;rw[hP]at h1;refine We (u:=u') (w':=w') ?_ (hK β' _ _<|QA h2 (by rw[QF e1 e2 e3];exact hd) h3);unfold execOp;rw[ho];simp[resolve,invoke,builtin,h1]
def at7(hP:C.P=B.P)(h:St B β stk s a w){o:Oper}(hd:s.has o.dst=Y){x y:Operand}{t u:TypeId}(ho:o.op= .call { callee:= .builtin .copy,args:= #[x,y],argTypes:= #[t,u] })
  {v:AV}{s1:S}(hs:Ko C.P t s (s.ev x) (s.ev y)=I (v,s1)){K:Act->World->Prop}{Q:Exit->Act->World->Prop}(hK:Jt B stk a o.dst (s1.put o.dst v) K):o.wp B.P a w K Q:=by
 obtain⟨u',w',β',h1,h2,h3,e1,e2,e3⟩:=atA (u:=u) (ty:=o.type) hP h hs;rw[hP]at h1;refine We (u:=u') (w':=w') ?_ (hK β' _ _<|QA h2 (by rw[QF e1 e2 e3];exact hd) h3);unfold execOp;rw[ho];simp[resolve,invoke,builtin,h1]
def aqi(hP:C.P=B.P)(h:St B β stk s a w){o:Oper}(hd:s.has o.dst=Y){t:TypeId}{x:Operand}{lo hi:Option Operand}(ho:o.op= .slice t x lo hi G){id:Nat}(hx:s.ev x= .own id){z:Bool}(hf:Iz C.P s.H t (.own id)=Y)
  {v:AV}{s1:S}(hs:Ka s id z (lo.map s.ev) (hi.map s.ev)=I (Y,v,s1)){K:Act->World->Prop}{Q:Exit->Act->World->Prop}(hK:Jt B stk a o.dst (s1.put o.dst v) K):o.wp B.P a w K Q:=by
 obtain⟨u',β',h1,h2,h3,e1,e2,e3⟩:=aoE (P:=C.P) h hx hf hs rfl;rw[hP]at h1;refine We (u:=u') (w':=w) ?_ (hK β' _ _<|QA h2 (by rw[QF e1 e2 e3];exact hd) h3);unfold execOp;rw[ho];simp[h1]
def alC(hP:C.P=B.P)(h:St B β stk s a w){b:Nat}(hb:s.H b=G){o:Oper}(hd:s.has o.dst=Y){ids:List Nat}{K:Act->World->Prop}{Q:Exit->Act->World->Prop}
  (he:(match CA C.P C.kd (ids.foldl S.freeze s).ev (ids.foldl S.freeze s).H b o.op with
   | some (q,v,os)=>if q then I ({ ids.foldl S.freeze s with H:=Et (ids.foldl S.freeze s).H b os }.put o.dst v) else G
   | none=>G)=I s')(hK:Jt B stk a o.dst s' K):o.wp B.P a w K Q:=by
 obtain⟨β',h1,h2⟩:=h.L8 ids;obtain⟨e1,e2,e3,_⟩:=fW ids s;exact aCE hP h1 (h2.non b hb) (by rw[QF e1 e2 e3];exact hd) he hK
def HO(C:Cx)(B:Bb):Prop:=∀(f:FuncId) (d:Option Nat) (m:DS),C.Γ f d=I m->∀(β:Beta) (stk:List (Array Value)) (s:S) (a:Act) (w:World) (b:Nat) (as:List Operand) (s':S) (o:Oper) (ts:Array TypeId) (K:Act->World->Prop) (Q:Exit->Act->World->Prop),
 St B β stk s a w->(∀j,b<=j->j<b+16->s.H j=G)->s.has d=Y->HU m s b d (as.map s.ev) I=I s'->o.dst=d->o.op= .call { callee:= .value<|.func f,args:=as.toArray,argTypes:=ts } ->Jt B stk a d s' K->o.wp B.P a w K Q
def ln(hP:C.P=B.P)(hC:HO C B)(h:St B β stk s a w){b:Nat}(hb:∀j,b<=j->j<b+16->s.H j=G){o:Oper}(he:CI C (AF S) o b s I=I s'){K:Act->World->Prop}{Q:Exit->Act->World->Prop}(hK:Jt B stk a o.dst s' K):o.wp B.P a w K Q:=by
 have hb0:s.H b=G:=hb b (Ar _) J;unfold CI at he;split at he
 .cases he
 rename_i hd;generalize ho:o.op=op at he;have pu:(match CA C.P C.kd s.ev s.H b op with
   | some (q,v,os)=>if q then I ({ s with H:=Et s.H b os }.put o.dst v) else G
   | none=>G)=I s'->o.wp B.P a w K Q:=λhe=>aCE hP h hb0 hd (by rw[ho];exact he) hK
 cases op<;>try (exact pu he)
 case store t p x=>
  simp only at he;split at he
  .rename_i s1 hs;cases he;exact aq5 hP h hd ho hs hK
  .cases he
 case call c=>
  obtain⟨cal,⟨args⟩,⟨tys⟩⟩:=c;simp only at he;split at he
  .rename_i f;split at he
   .rename_i m hm;exact hC f o.dst m hm β stk s a w b _ s' o _ K Q h hb hd he rfl ho hK
   .cases he
  .split at he
   .rename_i q v s1 hs;split at he
    .rename_i hq;subst hq;cases he;exact apy hP h hb0 hd ho hs hK
    .cases he
   .cases he
  .split at he
   .rename_i v s1 hs;cases he;exact at7 hP h hd ho hs hK
   .cases he
  .exact pu he
 case slice t x lo hi mx=>
  cases mx with
  | some m=>exact pu he
  | none=>
   simp only at he;split at he
   .rename_i id hx;split at he
    .cases he
    .rename_i hf;split at he
     .rename_i q v s1 hs;split at he
      .rename_i hq;subst hq;cases he;exact aqi hP h hd ho hx hf hs hK
      .cases he
     .cases he
   .exact pu he
 case buildSlice t n ps=>
  simp only at he;exact alC hP h hb0 hd (by rw[ho];exact he) hK
end
end Go.VS
namespace Go.VS
open Go
mutual
theorem atr (E:Nat->AV) (H:Hp) (b:Nat):∀(h:Sh) (x:LT h),GI h=Y->(BG E H b h x).2=(H,b)
 | .int _,_,_=>rfl
 | .bool,_,_=>rfl
 | .str,_,_=>rfl
 | .agg l,x,h=>by
  have:=Wt E H b l x h;show((match Ah E H b l x with|(cs,H,b)=>(AV.agg cs,H,b)):AV×Hp×Nat).2=(H,b);generalize Ah E H b l x=r at *;obtain⟨cs,H',b'⟩:=r;exact this
 | .sl _,_,h=>by simp[GI]at h
 | .row _ _,_,h=>by simp[GI]at h
 | .fz _,_,h=>by simp[GI]at h
 | .Cd _ _,_,h=>by simp[GI]at h
 | .abx _ _,_,h=>by simp[GI]at h
 | .arr _,_,h=>by simp[GI]at h
 | .same _,_,h=>by simp[GI]at h
 | .box _ _,_,h=>by simp[GI]at h
theorem Wt (E:Nat->AV) (H:Hp) (b:Nat):∀(l:List Sh) (x:LTs l),Mn l=Y->(Ah E H b l x).2=(H,b)
 | [],_,_=>rfl
 | h::l,x,hl=>by
  simp only[Mn,AD]at hl;have h1:=atr E H b h x.1 hl.1;have h2:=Wt E H b l x.2 hl.2;show((match BG E H b h x.1 with|(c,H,b)=>match Ah E H b l x.2 with|(cs,H,b)=>(c::cs,H,b)):List AV×Hp×Nat).2=(H,b);generalize hm:BG E H b h x.1=r at *;obtain⟨c,H',b'⟩:=r;cases h1;show((match Ah E H b l x.2 with|(cs,H,b)=>(c::cs,H,b)):List AV×Hp×Nat).2=(H,b);generalize Ah E H b l x.2=r at *;obtain⟨cs,H',b'⟩:=r;exact h2
end
mutual
theorem atQ:∀h:Sh,GI h=Y->M4 h=A0
 | .int _,_=>rfl
 | .bool,_=>rfl
 | .str,_=>rfl
 | .agg l,h=>jY l h
 | .sl _,h=>by simp[GI]at h
 | .row _ _,h=>by simp[GI]at h
 | .fz _,h=>by simp[GI]at h
 | .Cd _ _,h=>by simp[GI]at h
 | .abx _ _,h=>by simp[GI]at h
 | .arr _,h=>by simp[GI]at h
 | .same _,h=>by simp[GI]at h
 | .box _ _,h=>by simp[GI]at h
theorem jY:∀l:List Sh,Mn l=Y->CO l=A0
 | [],_=>rfl
 | h::l,hl=>by
  simp only[Mn,AD]at hl;simp only[CO,atQ h hl.1,jY l hl.2,EY]
end
def aC4(E:Nat->AV)(H:Hp)(b:Nat):∀(l:List Sh) (cs:List AV) (x:LTs l),l.isEmpty=Y->BO E H b l cs x=([],H,b)
 | [],_,_,_=>rfl
 | _::_,_,_,h=>by simp at h
def arp:∀l:List Sh,l.isEmpty=Y->CO l=A0
 | [],_=>rfl
 | _::_,h=>by simp at h
def aw5(l:List Nat):off l []=Y:=by simp[off]
def atG{m:DS}{s:S}{b:Nat}{d:Option Nat}{as:List AV}{v:AV}{x:LTs m.ps}{r:LTs m.rs×LTs (Az m.ps)}(h1:Mn m.rs=Y)(h2:(Az m.ps).isEmpty=Y)(h3:(CZ s.H m.ps as).isEmpty=Y)(h4:(Bi s.H m.ps as).isEmpty=Y)
  (hx:GF (λi=>(as[i]?).getD .un) s.H m.ps as=I x)(hr:m.g x=I r)(hv:Ln (Ah (λi=>(as[i]?).getD .un) s.H b m.rs r.1).1=v):HU m s b d as I=I (s.put d v):=by
 have h3':CZ s.H m.ps as=[]:=by simpa using h3
 have h4':Bi s.H m.ps as=[]:=by simpa using h4
 unfold HU;simp only[hx,h4',Mt,h3',aw5,EZ,hr,A6,K7,jY _ h1,arp _ h2,GM,GK,aC4 _ _ _ _ _ _ h2];have hm:=Wt (λi=>(as[i]?).getD .un) s.H b m.rs r.1 h1;generalize Ah (λi=>(as[i]?).getD .un) s.H b m.rs r.1=q at *;obtain⟨vs,H',b'⟩:=q;cases hm;have:Dq b (b+16)=Y:=Nat.ble_eq_true_of_le J;simp only[this];rw[← hv]
section
variable {B:Bb} {β β':Beta} {H:Hp} {stk:List (Array Value)} {s s':S} {a:Act} {w w':World} {C:Cx}
def asl{b:Nat}{o:Oper}{v:AV}(hd:s.has o.dst=Y)(h:spA C b o.dst s.ev s.H o.op=I (Y,v)):CI C (AF S) o b s I=I (s.put o.dst v):=by
 have eqS:∀v',({ s with H:=s.H } :S).put o.dst v'=s.put o.dst v':=λ_=>rfl;unfold CI;rw[hd];generalize ho:o.op=op at h;have pu:(match CA C.P C.kd s.ev s.H b op with
   | some (q,v,[])=>I (q,v)
   | _=>G)=I (Y,v)->(match CA C.P C.kd s.ev s.H b op with
   | some (q,v,os)=>if q then I ({ s with H:=Et s.H b os }.put o.dst v) else G
   | none=>G)=I (s.put o.dst v):=by
  intro h;split at h
  .rename_i v' hp;cases h;rw[hp];rfl
  .cases h
 cases op<;>try (exact pu h)
 case store=>simp[spA]at h
 case buildSlice=>simp[spA]at h
 case slice t x lo hi mx=>
  cases mx with
  | some m=>exact pu h
  | none=>
   simp only[spA]at h;simp only;cases hx:s.ev x<;>simp only[hx]at h ⊢ <;>first|(cases h;done)|exact pu h
 case call c=>
  obtain⟨cal,⟨args⟩,⟨tys⟩⟩:=c;simp only[spA]at h;simp only;split at h
  .rename_i f;obtain⟨m,hm,h⟩:=Ag.1 h;split at h
   .rename_i hc;simp only[AD]at hc;obtain⟨x,hx,h⟩:=Ag.1 h;simp only[Bs,CL]at h;obtain⟨h1,h2⟩:=h;cases hr:m.g x with
    | none=>rw[hr]at h1;cases h1
    | some r=>
     rw[hr]at h2;simp only[hm];exact atG hc.1.1.1 hc.1.1.2 hc.1.2 hc.2 hx hr h2
   .cases h
  .cases h
  .cases h
  .rename_i n1 n2 n3;split
   .exact absurd rfl (n1 _)
   .exact absurd rfl n2
   .exact absurd rfl n3
   .exact pu h
end
end Go.VS
namespace Go.VS
open Go
section
variable {B:Bb} {β β':Beta} {H:Hp} {stk:List (Array Value)} {s s':S} {a:Act} {w w':World} {C:Cx}
def fQ{ops:Array Oper}{j g:Nat}(hg:(ops[j]?).bind (·.dst)=I g){b:Bool}(hv:BZ a g= .bool b):yielded ops a.tmps j=I b:=by
 unfold yielded;rw[hg];have:a.tmps[g]? =I (.bool b):=by
  unfold BZ at hv;rw[TG]at hv;cases h:a.tmps[g]? with
  | none=>rw[h]at hv;cases hv
  | some u=>rw[h]at hv;exact congrArg I hv
 rw[A6,this]
def fP{ops:Array Oper}{j g:Nat}(hg:(ops[j]?).bind (·.dst)=I g){b:Bool}(hv:yielded ops a.tmps j=I b):BZ a g= .bool b:=by
 unfold yielded at hv;rw[hg,A6]at hv;split at hv
 .rename_i c hc;cases hv;simp[BZ,hc]
 .cases hv
def St.narrow(h:St B β stk s a w){g:Nat}{want:Bool}(hg:BZ a g= .bool want):St B β stk (s.narrow g want) a w:=by
 have rt:∀x y,RT w β (BZ a) x y->RT w β (BZ a) (Ge g want x) y:=by
  intro x y hx;cases x with
  | gd g' w' z=>
   simp only[Ge];split
   .rename_i h1 h2;obtain rfl:=Bk h1;obtain rfl:want=w':=by simpa using h2
    exact RT.HG (hx.1 hg)
   .exact hx
  | _=>exact hx
 refine⟨λt=> ?_,h.stack,h.n,h.defers,h.pins,λt g' w' x hx=> ?_,h.hs⟩
 .show RT w β (BZ a) (upd (λt=>Ge g want<|s.T t) g (.b want) t) (BZ a t);by_cases e:t=g
  .subst e;rw[Be,hg];rfl
  .rw[BB _ _ e];exact rt _ _ (h.T t)
 .have hx:upd (λt=>Ge g want<|s.T t) g (.b want) t= .gd g' w' x:=hx;by_cases e:t=g
  .subst e;rw[Be]at hx;cases hx
  .rw[BB _ _ e]at hx;cases hs:s.T t with
   | gd g2 w2 z=>
    rw[hs]at hx;simp only[Ge]at hx;split at hx
    .rename_i h1 h2;obtain rfl:=Bk h1;obtain rfl:want=w2:=by simpa using h2
     subst hx;have:=h.T t;rw[hs]at this;exact(this.1 hg).elim
    .cases hx;exact h.gs _ _ _ _ hs
   | _=>rw[hs]at hx;simp[Ge]at hx
def abD(a:Act){d t:Nat}(h:t≠d)(u:Value):BZ (a.put (I d) u) t=BZ a t:=by
 simp only[BZ,Act.put,TG];rw[aB7 λe=>h e.symm]
def R2.bool{x:AV}{b:Bool}(h:R2 w β x (.bool b)):R2 w' β' x (.bool b):=by
 cases x with
 | un=>trivial
 | lit v=>exact h
 | sl k xs=>exact absurd (show RC w β (.sl k xs) (.bool b) from h) λh=>by cases h
 | arr k xs=>obtain⟨us,e,_⟩:=h;cases e
 | own id=>exact absurd (show RC w β (.own id) (.bool b) from h) (λh=>by cases h with|own h1 h2=>cases h2)
 | ptr a b c d=>exact absurd (show RC w β (.ptr a b c d) (.bool _) from h) λh=>by cases h
 | ipt a b c=>exact absurd (show RC w β (.ipt a b c) (.bool _) from h) λh=>by cases h
 | agg cs=>obtain⟨us,e,_⟩:=h;cases e
 | tup vs=>obtain⟨us,e,_⟩:=h;cases e
 | gd a b c=>exact h.elim
def St.more(h:St B β stk s a w)(g:Nat):St B β stk { s with gs:=upd s.gs g Y } a w:=
 ⟨h.T,h.stack,h.n,h.defers,h.pins,λt g' want x hx=>by
  show upd s.gs g Y g'=Y;by_cases e:g'=g
  .rw[e,Be]
  .rw[BB _ _ e];exact h.gs t g' want x hx,h.hs⟩
def RT.Zx{tm:Nat->Value}{x:AV}{v:Value}(h:RT w β tm x v)(hn:nF x=Y):R2 w β x v:=by
 cases x with
 | gd=>cases hn
 | _=>exact h
def RT.ay9{tm tm':Nat->Value}{x:AV}{b:Bool}(h:RT w β tm x (.bool b))(ht:∀g want z,x= .gd g want z->tm' g=tm g):RT w' β' tm' x (.bool b):=by
 cases x with
 | gd g want z=>
  have e:=ht g want z rfl;refine⟨λh1=>R2.bool<|h.1<|e▸h1,λh1=> ?_⟩;exact h.2<|e▸h1
 | _=>exact RT.HG<|R2.bool<|RT.Zx h rfl
def aCx{g d:Nat}(h:({ s with gs:=upd s.gs g Y } :S).has (I d)=Y):s.has (I d)=Y/\d≠g/\s.gs d=A0:=by
 simp only[S.has,AD,CE]at h ⊢;obtain⟨⟨h1,h2⟩,h3⟩:=h;by_cases e:d=g
 .subst e;rw[Be]at h3;cases h3
 .rw[BB _ _ e]at h3;exact⟨⟨⟨h1,h2⟩,h3⟩,e,h3⟩
def St.ay0(h:St B β stk s a w){g d:Nat}{want:Bool}(hg:BZ a g= .bool want)(Ec:({ s with gs:=upd s.gs g Y } :S).has (I d)=Y){v:AV}(hn:nF v=Y){u:Value}
  (h':St B β' stk ((s.narrow g want).put (I d) v) (a.put (I d) u) w'):St B β' stk { s.put (I d) (.gd g want v) with gs:=upd s.gs g Y } (a.put (I d) u) w':=by
 obtain⟨_,hdg,hgs⟩:=aCx Ec;have tg:BZ (a.put (I d) u) g= .bool want:=by rw[abD a<|L0 hdg];exact hg
 refine⟨λt=> ?_,h'.stack,h'.n,h'.defers,h'.pins,λt g' w1 x hx=> ?_,h'.hs⟩
 .show RT w' β' _ (upd s.T d (.gd g want v) t) _;have ht:RT w' β' (BZ<|a.put (I d) u) (upd (upd (λt=>Ge g want<|s.T t) g<|.b want) d v t) (BZ (a.put (I d) u) t):=h'.T t;by_cases e:t=d
  .subst e;rw[Be]at ht ⊢;exact⟨λ_=>ht.Zx hn,λhne=>absurd tg hne⟩
  .rw[BB _ _ e]at ht ⊢;by_cases e2:t=g
   .subst e2;rw[tg];have h0:=h.T t;rw[hg]at h0;refine h0.ay9 λg' w1 z hz=> ?_;have hg':s.gs g'=Y:=h.gs _ _ _ _ hz;exact abD a (λe=>by rw[e,hgs]at hg';cases hg') u
   .rw[BB _ _ e2]at ht;cases hs:s.T t with
    | gd g2 w2 z=>
     rw[hs]at ht;simp only[Ge]at ht;split at ht
     .rename_i h1 h2;obtain rfl:=Bk h1;obtain rfl:want=w2:=by simpa using h2
      have h0:=h.T t;rw[hs]at h0;refine⟨λ_=>ht.Zx ?_,λhne=>absurd tg hne⟩;have:=h0.1 hg;cases z<;>first|rfl|exact this.elim
     .exact ht
    | _=>rw[hs]at ht;exact ht
 .show upd s.gs g Y g'=Y;have hx:upd s.T d (.gd g want v) t= .gd g' w1 x:=hx;by_cases e:t=d
  .subst e;rw[Be]at hx;cases hx;exact Be _ _ _
  .rw[BB _ _ e]at hx;by_cases e3:g'=g
   .rw[e3,Be]
   .rw[BB _ _ e3];exact h.gs _ _ _ _ hx
def aB5(h:St B β stk s a w){ops:Array Oper}:∀(n:Nat) (o:Oper) {c:Bool},Lr ops s n o=I c->JQ o (yielded ops a.tmps)=Y->c=Y
 | 0,_,_,he,_=>by cases he
 | n+1,o,c,he,hw=>by
  unfold Lr at he;cases hg:o.guard with
  | none=>rw[hg]at he;cases he;rfl
  | some jw=>
   obtain⟨j,want⟩:=jw;rw[hg]at he;obtain⟨oj,hj,he⟩:=Ag.1 he;obtain⟨g,hgd,he⟩:=Ag.1 he;have az5:(ops[j]?).bind (·.dst)=I g:=by rw[hj];exact hgd
   have hy:yielded ops a.tmps j=I want:=by simpa[JQ,hg] using hw
   have htg:=fP az5 hy;have hT:=h.T g;split at he
   .rename_i c0 hc0;rw[hc0,htg]at hT;have hT:Value.bool want=Value.bool c0:=hT;cases hT;cases he;cases want<;>rfl
   .rename_i vs hc0;rw[hc0,htg]at hT;cases (show Value.bool want=Value.tuple vs from hT)
   .rename_i g' w' c0 hc0;rw[hc0]at hT;split at he
    .rename_i j' w2 hoj;split at he
     .rename_i g2 hg2;split at he
      .rename_i e1 e2;obtain rfl:=Bk e1;obtain rfl:w'=w2:=by simpa using e2
       obtain⟨b,hb,he⟩:=Ag.1 he;by_cases hq:BZ a g'= .bool w'
       .have hv:BZ a g= .bool c0:=hT.1 hq;rw[htg]at hv;cases hv;have hb1:=aB5 h n oj hb (by
         have:yielded ops a.tmps j'=I w':=fQ hg2 hq;simp[JQ,hoj,this])
        rw[hb1]at he;cases he;cases want<;>rfl
       .have hv:BZ a g=undef:=hT.2 hq;rw[htg]at hv;cases hv
      .cases he
     .cases he
    .cases he
   .cases he
def atB{c:Option Bool}{q:Bool}(h:ac6 c q=Y)(hc:∀b,c=I b->b=Y):q=Y:=by
 cases c with
 | none=>exact h
 | some b=>
  obtain rfl:=hc b rfl;cases q with
  | true=>rfl
  | false=>cases h
def kV(hP:C.P=B.P)(hC:HO C B){ops:Array Oper}{i:Nat}{o:Oper}(hi:ops[i]? =I o)(h:St B β stk s a w){b:Nat}(hb:∀j,b<=j->j<b+16->s.H j=G)
  (he:evG C (AF S) ops o b s I=I s'){K:Act->World->Prop}{Q:Exit->Act->World->Prop}(hK:Jt B stk a o.dst s' K):wpOp B.P ops Q i K a w:=by
 unfold wpOp;simp only[hi];unfold evG at he;split at he
 .rename_i hg;have hw:JQ o (yielded ops a.tmps)=Y:=by simp[JQ,hg]
  rw[A5 hw];exact .inl (ln hP hC h hb he hK)
 .rename_i j want hg;have hwd:JQ o (yielded ops a.tmps)=(yielded ops a.tmps j == I want):=by simp[JQ,hg]
  rw[hwd];split at he
  .cases he
  .rename_i g hgd hsp;split at he
   .rename_i q v Ec hv;split at he
    .rename_i hn;split at he
     case isFalse=>cases he
     rename_i oI;cases he;obtain⟨d,hd⟩:∃d,o.dst=I d:=by
      cases hd:o.dst with
      | none=>rw[hd]at hsp;cases hsp
      | some d=>exact⟨d,rfl⟩
     rw[hd]at Ec hv;by_cases hy:yielded ops a.tmps j=I want
     .have htg:=fP hgd hy;rw[A5<|by simp[hy]];have hh:=(aCx Ec).1;have hqt:q=Y:=atB oI (λb hb=>aB5 h 4 o hb (by rw[hwd,hy];simp));subst hqt;have he:CI C (AF S) o b (s.narrow g want) I=I ((s.narrow g want).put o.dst v):=
       asl (by rw[hd];exact hh) (by rw[hd];exact hv)
      refine .inl<|ln hP hC (h.narrow htg) (s:=s.narrow g want) hb he ?_;intro β' u w' h';rw[hd]at h' ⊢;have:=hK β' u w';rw[hd]at this;exact this (h.ay0 htg Ec hn h')
     .rw[A9<|by simpa using hy];have hne:BZ a g≠ .bool want:=λe=>hy<|fQ hgd e;have:=hK β undef w;rw[hd]at this ⊢;exact this ((h.more g).put Ec ⟨λe=>absurd e hne,λ_=>rfl⟩ (λg' w1 x e=>by cases e;exact Be _ _ _))
    .cases he
   .cases he
  .rename_i g hgd hsp;split at he
   .rename_i c hT;have htg:BZ a g= .bool c:=by have:=h.T g;rw[hT]at this;exact this
    have hy:yielded ops a.tmps j=I c:=fQ hgd htg;rw[hy];have hn:∀w0:Bool,c=w0->St B β stk { s with T:=upd s.T g (.b w0) } a w:=by
     intro w0 e;subst e;refine⟨λt=> ?_,h.stack,h.n,h.defers,h.pins,λt g' w' x hx=> ?_,h.hs⟩
     .show RT w β (BZ a) (upd s.T g (.b c) t) (BZ a t);by_cases e:t=g
      .subst e;rw[Be,htg];rfl
      .rw[BB _ _ e];exact h.T t
     .have hx:upd s.T g (.b c) t= .gd g' w' x:=hx;by_cases e:t=g
      .subst e;rw[Be]at hx;cases hx
      .rw[BB _ _ e]at hx;exact h.gs _ _ _ _ hx
    have yes:CI C (AF S) o b { s with T:=upd s.T g (.b want) } I=I s'->c=want->
      (if(I c == I want)=Y then o.wp B.P a w K Q\/(o.asks B.P a w/\LetsOut Q) else K (a.put o.dst undef) w):=by
     intro he e;rw[A5<|by simp[e]];exact .inl<|ln hP hC (hn want e) hb he hK
    have no:(match s.has o.dst with
      | true=>I (({ s with T:=upd s.T g (.b<|!want) } :S).put o.dst Dl)
      | false=>G)=I s'->c= !want->
      (if(I c == I want)=Y then o.wp B.P a w K Q\/(o.asks B.P a w/\LetsOut Q) else K (a.put o.dst undef) w):=by
     intro he e;rw[A9 (by subst e;cases want<;>simp)];split at he
     .rename_i Ec;cases he;exact hK β undef w ((hn (!want) e).put (by exact Ec) (u:=undef) rfl (λg' w1 x e=>by cases e))
     .cases he
    cases want<;>cases c<;>simp only[A2,if_false,Ha]at he
    .exact yes he rfl
    .exact no he rfl
    .exact no he rfl
    .exact yes he rfl
   .rename_i vs hT;have htg:BZ a g= .tuple vs:=by have:=h.T g;rw[hT]at this;exact this
    have hy:¬(yielded ops a.tmps j == I want)=Y:=by
     intro e;have:=fP hgd (show yielded ops a.tmps j=I want by simpa using e);rw[htg]at this;cases this
    rw[A9 hy];split at he
    .rename_i Ec;cases he;exact hK β undef w (h.put Ec (u:=undef) rfl (λg' w1 x e=>by cases e))
    .cases he
   .cases he
end
end Go.VS
namespace Go.VS
open Go
def In1(F:Nat->Prop):AV->Prop
 | .own id=>F id
 | .ptr id _ _ _=>F id
 | .agg _=>False
 | .tup _=>False
 | .gd _ _ _=>False
 | _=>True
def In2(F:Nat->Prop):AV->Prop
 | .agg cs=>∀c∈cs,In1 F c
 | v=>In1 F v
def In3(F:Nat->Prop):AV->Prop
 | .tup vs=>∀v∈vs,In2 F v
 | v=>In2 F v
def InA(F:Nat->Prop):AV->Prop
 | .gd _ _ v=>In3 F v
 | v=>In3 F v
def Ez(F:Nat->Prop):Ob->Prop
 | .box _ cs=>∀c∈cs,In1 F c
 | _=>True
def DR(F:Nat->Prop)(H:Hp):Prop:=∀id ob,F id->H id=I ob->Ez F ob
def Agr(F:Nat->Prop)(H H':Hp):Prop:=∀id,F id->H' id=H id
section
variable {F:Nat->Prop} {H H':Hp} {P:Program} {kd:TypeId->Option K} {ρ ρ':Operand->AV} {b:Nat}
def In2.of1{v:AV}(h:In1 F v):In2 F v:=by
 cases v<;>first|exact h|exact h.elim
def In3.of2{v:AV}(h:In2 F v):In3 F v:=by
 cases v<;>first|exact h|exact(show False from h).elim
def InA.of3{v:AV}(h:In3 F v):InA F v:=by
 cases v<;>first|exact h|exact(show False from h).elim
def InA.of1{v:AV}(h:In1 F v):InA F v:= .of3<|.of2<|.of1 h
def InA.of2{v:AV}(h:In2 F v):InA F v:= .of3<|.of2 h
def In1.GR{v:AV}(h:GR v=Y):In1 F v:=by
 cases v<;>first|trivial|cases h
def Ss(k:K)(x:Tof k):∀c∈enc k x,In1 F c:=λc hc=> .GR<|DM.1 (aag k x) c hc
def Pz{t:TypeId}{cs:List AV}{o:Nat}{v:AV}(hc:∀c∈cs,In1 F c)(h:HT P t cs o=I v):InA F v:=by
 unfold HT at h;split at h
 .split at h
  .cases h;exact .of2 λc hm=>hc c (Ku<|I9 hm)
  .cases h
 .exact .of1 (hc v<|Cl h)
 .cases h
def atW{t:TypeId}{p:AV}(hp:InA F p)(hH:Agr F H H'):Jp P H' t p=Jp P H t p:=by
 unfold Jp;cases p with
 | ptr id z i o=>simp only[hH id hp]
 | _=>rfl
def atX{N:Nat->Prop}{t:TypeId}{p v:AV}(hp:InA N p)(hH:∀id ob,N id->H id=I ob->Ez F ob)(h:Jp P H t p=I v):InA F v:=by
 unfold Jp at h;split at h
 .exact Pz (Ss _ _) h
 .rename_i id z i o;split at h
  .rename_i hid;split at h
   .exact Pz (hH id _ hp hid) h
   .cases h
  .split at h
   .exact Pz (Ss _ _) h
   .cases h
  .split at h
   .split at h<;>cases h;trivial
   .split at h
    .exact Pz (Ss _ _) h
    .cases h
  .cases h
 .cases h
def mE{k:K}{v:AV}(hv:InA F v)(hH:Agr F H H'):CD H' k v=CD H k v:=by
 cases v with
 | own id=>simp only[CD,hH id hv]
 | lit v=>cases v with
  | slice a n c=>cases a<;>cases n<;>cases c<;>rfl
  | _=>rfl
 | _=>rfl
def mC{k:K}{v:AV}(hv:InA F v)(hH:Agr F H H'):Jx H' k v=Jx H k v:=by
 cases v with
 | own id=>simp only[Jx,CD,hH id hv]
 | lit v=>cases v with
  | slice a n c=>cases a<;>cases n<;>cases c<;>rfl
  | _=>rfl
 | _=>rfl
def zd{t:TypeId}{v:AV}(hv:InA F v)(hH:Agr F H H'):Iz P H' t v=Iz P H t v:=by
 unfold Iz;generalize P.underlying t=u;obtain _|d:=u
 .rfl
 cases d<;>cases v<;>first|rfl|(simp only[hH _ hv];done)|(rename_i v;cases v<;>rfl)
def apa{t:TypeId}{i:Int}{v:AV}(hv:InA F v)(hH:Agr F H H'):Mc P H' t i v=Mc P H t i v:=by
 unfold Mc;cases v with
 | own id=>simp only[hH id hv]
 | ptr id z i o=>
  cases i<;>cases o<;>first|(simp only[hH id hv];done)|rfl
 | _=>rfl
def awU{v v':AV}{q:Bool}{os:List Ob}(hv:InA F v)(h:okN v=I (q,v',os)):InA F v'/\os=[]:=by
 obtain⟨rfl,_,rfl,_⟩:=O5 h;exact⟨hv,rfl⟩
def awV{v v':AV}{q:Bool}{os:List Ob}(hv:InA F v)(h:okA v=I (q,v',os)):InA F v'/\os=[]:=by
 obtain⟨rfl,_,rfl⟩:=DH h;exact⟨hv,rfl⟩
def PIn(F:Nat->Prop)(r:PR):Prop:=∀q v os,r=I (q,v,os)->InA F v/\os.length<=1/\ ∀ob∈os,Ez F ob
def PIn.okN{v:AV}(hv:InA F v):PIn F (okN v):=λq v' os h=>by
 obtain⟨h1,rfl⟩:=awU hv h;exact⟨h1,by simp,by simp⟩
def PIn.okA{v:AV}(hv:InA F v):PIn F (okA v):=λq v' os h=>by
 obtain⟨h1,rfl⟩:=awV hv h;exact⟨h1,by simp,by simp⟩
def PIn.lit{v:Value}:PIn F (VS.okA<|.lit v):= .okA<|.of1 trivial
def PIn.none:PIn F .none:=λq v os h=>by cases h
def PIn.nil{q:Bool}{v:AV}(hv:InA F v):PIn F (I (q,v,[])):=λq v' os h=>by cases h;exact⟨hv,by simp,by simp⟩
def PIn.one{q:Bool}{v:AV}{ob:Ob}(hv:InA F v)(ho:Ez F ob):PIn F (I (q,v,[ob])):=λq v' os h=>by
 cases h;exact⟨hv,by simp,λob' hm=>by simp at hm;subst hm;exact ho⟩
def PIn.bind{α:Type}{o:Option α}{f:α->PR}(h:∀a,o=I a->PIn F (f a)):PIn F (o.bind f):=by
 cases o with
 | none=>exact .none
 | some a=>exact h a rfl
def awq(op:BinOp)(k:IntKind)(x y:Int):PIn F (Ts op k x y):=by
 cases op<;>first|exact .lit|exact .none|exact .nil<|.of1 trivial
def awp(op:BinOp)(x y:A1):PIn F (Tr op x y):=by
 cases op<;>first|exact .lit|exact .none|exact .nil<|.of1 trivial
def awr(op:BinOp)(t:TypeId)(x y:AV):PIn F (P1 P op t x y):=by
 unfold P1;split
 .split
  .exact awq _ _ _ _
  .exact .none
 .exact awp _ _ _
 .split<;>first|exact .lit|exact .none
 .split<;>first|exact .lit|exact .none
 .exact .none
def awb(op:UnOp)(x:AV):PIn F (unA op x):=by
 unfold unA;split<;>first|exact .lit|exact .none
def au9{c x y:Operand}(hx:InA F (ρ x))(hy:InA F (ρ y)):PIn F (OS ρ c x y):=by
 unfold OS;split
 .split
  .exact .lit
  .split
   .exact .lit
   .exact .okN hy
 .split
  .exact .lit
  .split
   .exact .okN hx
   .exact .lit
 .split
  .exact .okN hx
  .exact .okN hy
 .exact .none
def X2{v:AV}{cs:List AV}(hv:InA F v)(h:Ga v=I cs):∀c∈cs,In1 F c:=by
 cases v with
 | un=>cases h
 | gd=>cases h
 | tup=>cases h
 | arr=>cases h
 | agg cs=>cases h;exact hv
 | lit v=>cases v<;>first|(cases h;done)|(cases h;intro c hc;simp at hc;subst hc;trivial)
 | _=>cases h;intro c hc;simp at hc;subst hc;exact hv
def aCj{t:TypeId}{zs:List AV}(h:I0 P t=I zs):∀c∈zs,In1 F c:=by
 obtain⟨i,_,h⟩:=Ag.1 h;obtain⟨z,_,h⟩:=Ag.1 h;split at h
 .cases h;intro c hc;obtain⟨v,_,rfl⟩:=Bv.1 hc;trivial
 .cases h
def jI{cs ys:List AV}{o:Nat}(hc:∀c∈cs,In1 F c)(hy:∀c∈ys,In1 F c):∀c∈H4 cs o ys,In1 F c:=by
 intro c h;unfold H4 at h;simp only[BL]at h;obtain(h|h)|h:=h
 .exact hc c (I9 h)
 .exact hy c h
 .exact hc c<|Ku h
def aBm{t:TypeId}:∀(l:List (Nat×Operand)) (cs:List AV) {r:List AV},(∀p∈l,InA F<|ρ p.2)->(∀c∈cs,In1 F c)->Hv P ρ t l cs=I r->∀c∈r,In1 F c
 | [],cs,r,_,hc,h=>by cases h;exact hc
 | (i,x)::l,cs,r,hl,hc,h=>by
  obtain⟨f,_,h⟩:=Ag.1 h;obtain⟨ys,h2,h⟩:=Ag.1 h;split at h
  .exact aBm l _ (λp hp=>hl p<|Ai _ hp) (jI hc<|X2 (hl _<|Am) h2) h
  .cases h
def aBl{t:TypeId}:∀(l:List (Nat×Operand)) (cs:List AV),(∀p∈l,ρ' p.2=ρ p.2)->Hv P ρ' t l cs=Hv P ρ t l cs
 | [],cs,_=>rfl
 | (i,x)::l,cs,hl=>by
  have ih:∀cs,Hv P ρ' t l cs=Hv P ρ t l cs:=λcs=>aBl l cs λp hp=>hl p<|Ai _ hp;have h1:ρ' x=ρ x:=hl (i,x)<|Am;simp only[Hv,h1,ih]
def aCL:∀(l:List (Nat×Operand)) (n:Nat),(∀p∈l,ρ' p.2=ρ p.2)->Ht ρ' n l=Ht ρ n l
 | [],_,_=>rfl
 | (i,x)::l,n,hl=>by
  have ih:∀n,Ht ρ' n l=Ht ρ n l:=λn=>aCL l n λp hp=>hl p<|Ai _ hp;have h1:ρ' x=ρ x:=hl (i,x)<|Am;simp only[Ht,h1,ih]
def asN:∀(l:List (Nat×Operand)),(∀p∈l,ρ' p.2=ρ p.2)->Kk ρ' l=Kk ρ l:=λl hl=>by
 unfold Kk
 induction l with
 | nil=>rfl
 | cons p l ih=>simp only[Oa,hl p<|Am,ih λq hq=>hl q<|Ai _ hq]
def ar6(lo hi:Option AV)(v:AV):PIn F (QE lo hi v):=by
 unfold QE;split<;>first|exact .none|exact .bind λa _=> .nil<|.of1 trivial
def avN(hb:F 0)(s d:TypeId)(v:AV):PIn F (Ie P s d v):=by
 unfold Ie;split
 .exact .lit
 .exact .lit
 .split
  .exact .one (.of1 hb) trivial
  .exact .none
 .exact .none
def avf(t:TypeId)(i:Int)(v:AV):PIn F (Qo P t i v):=by
 unfold Qo;split
 .split
  .exact .nil (.of1 trivial)
  .exact .none
 .split
  .split
   .exact .bind λv hv=> .nil (Pz (Ss _ _) hv)
   .exact .none
  .exact .none
 .exact .none
def apb{t:TypeId}{i:Int}{v:AV}(hv:InA F v):PIn F (Mc P H t i v):=by
 unfold Mc;split
 .split
  .split
   .exact .nil (.of1 trivial)
   .exact .none
  .exact .none
 .split
  .split
   .exact .nil (.of1 hv)
   .exact .none
  .exact .none
 .split
  .split
   .exact .nil (.of1 hv)
   .exact .none
  .exact .none
 .exact .none
def aDf(c:Call):PIn F (JA P ρ H c):=by
 unfold JA;split
 .split<;>first|exact .lit|exact .none|skip
  split<;>first|exact .lit|exact .none
 .split
  .split<;>first|exact .lit|exact .none
  .exact .none
 .split
  .split<;>first|exact .lit|exact .none
  .exact .none
 .exact .none
def aEb{c:Call}(hρ:∀x∈c.args.toList,ρ' x=ρ x)(hF:∀x∈c.args.toList,InA F<|ρ x)(hH:Agr F H H'):JA P ρ' H' c=JA P ρ H c:=by
 obtain⟨cal,⟨args⟩,⟨tys⟩⟩:=c;simp only at hρ hF;unfold JA;simp only;split
 .rename_i x t;rw[hρ x y9];have hx:=hF x y9;generalize ρ x=v at hx;generalize P.underlying t=u;obtain _|d:=u
  .rfl
  cases d<;>cases v<;>first|rfl|(simp only[hH _ hx];done)|(rename_i v;cases v<;>first|rfl|(rename_i a n c;cases a<;>cases n<;>cases c<;>rfl))
 .rename_i x y;rw[hρ x y9,hρ y y9]
 .rename_i x y;rw[hρ x y9,hρ y y9]
 .rfl
def aCF{N:Nat->Prop}{op:Op}(hF:∀x∈op.operands,InA F<|ρ x)(hN:mov op=Y\/ ∀x∈op.operands,InA N<|ρ x)(hH:∀id ob,N id->H id=I ob->Ez F ob)(hb:F b):PIn F (CA P kd ρ H b op):=by
 cases op<;>simp only[CA]<;>try (exact .none)
 case move x=>exact .okN<|hF x<|by simp[BU]
 case assign x=>exact .okN<|hF x<|by simp[BU]
 case pick c x y=>exact au9 (hF x<|by simp[BU])<|hF y<|by simp[BU]
 case alloc t=>
  split
  .refine .bind λk hk=> .bind λzs hz=> ?_;split
   .exact .one (.of1 hb) trivial
   .exact .none
  .exact .bind λzs hz=> .one (.of1 hb)<|aCj hz
 case box t x=>exact .bind λcs hc=> .one (.of1 hb)<|X2 (hF x<|by simp[BU]) hc
 case build t ps=>
  refine .bind λzs hz=> ?_;split
  .split
   .refine .bind λcs hc=> .okA<|.of2 ?_;refine aBm _ _ (λp hp=>hF p.2 ?_) (aCj hz) hc;simp only[BU,TV,Bv];exact⟨p,hp,rfl⟩
   .exact .none
  .exact .none
 case buildSlice t n ps=>
  refine .bind λe _=> .bind λk _=> .bind λvs _=> .bind λxs _=> ?_;split
  .exact .one (.of1 hb) trivial
  .exact .none
 case load t p=>
  exact .bind λv hv=> .okA<|atX (hN.resolve_left (by simp[mov]) p<|by simp[BU]) hH hv
 case nilCheck p=>
  have hp:=hF p (by simp[BU]);split<;>first|exact .none|(rename_i e;rw[e]at hp;exact .okA hp)
 case binOp=>exact awr _ _ _ _
 case unOp=>exact awb _ _
 case convert src dst x=>
  split
  .split
   .exact .bind λv hv=> .lit
   .exact .none
  .split
   .rename_i c id os h;intro q v os' e;cases e;have:=avN (F:=λ_=>True) trivial src dst (ρ x) _ _ _ h;refine⟨.of1 hb,this.2.1,λob ho=> ?_⟩;unfold Ie at h;split at h<;>first|(cases h;done)|skip
    split at h
    .cases h;simp at ho;subst ho;trivial
    .cases h
   .rename_i h;intro q v os e;unfold Ie at e;split at e
    .cases e;exact⟨.of1 trivial,by simp,by simp⟩
    .cases e;exact⟨.of1 trivial,by simp,by simp⟩
    .split at e
     .cases e;exact(h _ 0 _ (by simp only[Ie, *];rfl)).elim
     .cases e
    .cases e
 case makeSlice t l c=>
  split
  .refine .bind λe _=> .bind λk _=> ?_;split
   .exact .one (.of1 hb) trivial
   .exact .none
  .split
   .refine .bind λe _=> .bind λk _=> ?_;split
    .exact .one (.of1 hb) trivial
    .exact .none
   .exact .none
  .exact .none
 case slice t x lo hi mx=>
  cases mx with
  | some m=>exact .none
  | none=>
   simp only;split
   .exact ar6 _ _ _
   .exact .none
 case fieldAddr t x f=>
  have hx:=hF x (by simp[BU]);refine .bind λfd _=> ?_;split
  .split
   .rename_i e;rw[e]at hx;exact .okA (.of1 hx)
   .exact .okA (.of1 trivial)
   .exact .none
  .exact .none
 case field t x f=>
  have hx:=hF x (by simp[BU]);refine .bind λfd _=> ?_;split
  .rename_i cs e;rw[e]at hx;exact .bind λv hv=> .okA (Pz hx hv)
  .exact .none
 case indexAddr t x ix=>
  have hx:=hF x (by simp[BU]);split
  .exact apb hx
  .exact .none
 case index t x ix=>
  split
  .exact avf _ _ _
  .exact .none
 case extract x i=>
  have hx:=hF x (by simp[BU]);split
  .rename_i vs e;rw[e]at hx;exact .bind λv hv=> .okA (.of2<|hx v<|Cl hv)
  .exact .none
 case call c=>exact aDf c
def XF{op:Op}(hρ:∀x∈op.operands,ρ' x=ρ x)(hF0:mov op=Y\/ ∀x∈op.operands,InA F<|ρ x)(hH:Agr F H H'):CA P kd ρ' H' b op=CA P kd ρ H b op:=by
 have one:∀ {x:Operand},x∈op.operands->ρ' x=ρ x:=λh=>hρ _ h;cases op<;>simp only[CA]
 case move x=>rw[hρ x<|by simp[BU]]
 case assign x=>rw[hρ x<|by simp[BU]]
 case pick c x y=>
  have h1:=hρ c (by simp[BU]);have h2:=hρ x (by simp[BU]);have h3:=hρ y (by simp[BU]);unfold OS;rw[h1];split
  .simp only[h3]
  .simp only[h2]
  .simp only[h2,h3]
  .rfl
 case box t x=>rw[hρ x<|by simp[BU]]
 case build t ps=>
  have:∀zs,Hv P ρ' t ps.toList zs=Hv P ρ t ps.toList zs:=λzs=>aBl _ _ λp hp=>hρ p.2 (by
   simp only[BU,TV,Bv];exact⟨p,hp,rfl⟩)
  simp only[this]
 case buildSlice t n ps=>
  have:Ht ρ' 0 ps.toList=Ht ρ 0 ps.toList:=aCL _ _ λp hp=>hρ p.2 (by
   simp only[BU,TV,Bv];exact⟨p,hp,rfl⟩)
  simp only[this]
 case load t p=>
  have hF:=hF0.resolve_left (by simp[mov]);rw[hρ p<|by simp[BU],atW (hF p<|by simp[BU]) hH]
 case nilCheck p=>rw[hρ p<|by simp[BU]]
 case binOp o t x y t2=>rw[hρ x<|by simp[BU],hρ y<|by simp[BU]]
 case unOp o t x=>rw[hρ x<|by simp[BU]]
 case convert src dst x=>
  have hF:=hF0.resolve_left (by simp[mov]);rw[hρ x<|by simp[BU],mE (hF x<|by simp[BU]) hH]
 case makeSlice t l c=>rw[hρ l<|by simp[BU],hρ c<|by simp[BU]]
 case slice t x lo hi mx=>
  have hF:=hF0.resolve_left (by simp[mov]);cases mx with
  | some m=>rfl
  | none=>
   have h1:=hρ x (by simp[BU]);have h2:lo.map ρ'=lo.map ρ:=by cases lo with
    | none=>rfl
    | some l=>exact congrArg I<|hρ l<|by simp[BU]
   have h3:hi.map ρ'=hi.map ρ:=by cases hi with
    | none=>rfl
    | some l=>exact congrArg I<|hρ l<|by simp[BU]
   simp only;rw[h1,h2,h3,zd (hF x<|by simp[BU]) hH]
 case fieldAddr t x f=>rw[hρ x<|by simp[BU]]
 case field t x f=>rw[hρ x<|by simp[BU]]
 case indexAddr t x ix=>
  have hF:=hF0.resolve_left (by simp[mov]);rw[hρ x<|by simp[BU],hρ ix<|by simp[BU]];split
  .rw[apa (hF x<|by simp[BU]) hH]
  .rfl
 case index t x ix=>rw[hρ x<|by simp[BU],hρ ix<|by simp[BU]]
 case extract x i=>rw[hρ x<|by simp[BU]]
 case call c=>
  have hF:=hF0.resolve_left (by simp[mov]);refine aEb (λx hx=>hρ x ?_) (λx hx=>hF x ?_) hH<;>
  .simp only[BU,Mz,Mx];exact .inr<|by simpa using hx
end
end Go.VS
namespace Go.VS
open Go
inductive Fk where
 | no
 | kl
 | fz (k:K) (xs:List (Tof k))
def Fk.f(id:Nat):Fk->AV->AV
 | .no=>λv=>v
 | .kl=>kl1 id
 | .fz k xs=>fz1 id k xs
structure Step where
 id:Nat
 fk:Fk
 ob:Option Ob
def S.app(s:S)(e:Step):S:=(s.map<|e.fk.f e.id).EJ e.id e.ob
def Gn(F:Nat->Prop)(e:Step):Prop:=∀ob,e.ob=I ob->Ez F ob
def Loc{α:Type}(F W:Nat->Prop)(g:S->Option (α×S))(s:S)(x:α)(s':S):Prop:=
 ∃es:List Step,(∀e∈es,W e.id/\Gn F e)/\s'=es.foldl S.app s/\ ∀s2:S,Agr F s.H s2.H->g s2=I (x,es.foldl S.app s2)
section
variable {F W:Nat->Prop} {H H':Hp} {P:Program} {kd:TypeId->Option K} {s s' s2:S} {b:Nat}
def atV(v:AV):Fv (λv=>v) v=v:=by cases v<;>simp[Fv]
def aCS:(Fv λv=>v)=id:=funext atV
def atU(v:AV):GG (λv=>v) v=v:=by
 cases v<;>simp[GG,aCS]
 all_goals simp[Fv]
def awF(v:AV):FC (λv=>v) v=v:=by
 cases v with
 | gd g w v=>simp[FC,atU]
 | tup vs=>simp[FC,GG,aCS]
 | _=>simp[FC,GG,Fv]
def atT(o:Option Ob):CH (λv=>v) o=o:=by
 cases o with
 | none=>rfl
 | some o=>cases o<;>simp[CH]
def map_id(s:S):s.map (λv=>v)=s:=by
 cases s;simp[S.map,awF,atT]
def J7(s:S)(id:Nat)(o:Option Ob):s.app ⟨id,.no,o⟩=s.EJ id o:=by
 simp[S.app,Fk.f,map_id]
def L5(s:S)(e:Step)(j:Nat):(s.app e).H j=if j=e.id then e.ob else CH (e.fk.f e.id) (s.H j):=by
 show upd (λj=>CH (e.fk.f e.id)<|s.H j) e.id e.ob j=_;by_cases h:j=e.id
 .subst h;rw[Be];simp
 .rw[BB _ _ h];simp[h]
def Agr.app(h:Agr F s.H s2.H)(e:Step):Agr F (s.app e).H (s2.app e).H:=λid hid=>by rw[L5,L5,h id hid]
def Agr.oP{es:List Step}(h:Agr F s.H s2.H):Agr F (es.foldl S.app s).H (es.foldl S.app s2).H:=by
 induction es generalizing s s2 with
 | nil=>exact h
 | cons e es ih=>exact ih<|h.app e
def Agr.refl(F:Nat->Prop)(H:Hp):Agr F H H:=λ_ _=>rfl
def Fk.Zt(id:Nat)(fk:Fk){c:AV}(h:In1 F c):In1 F (fk.f id c):=by
 cases fk with
 | no=>exact h
 | kl=>
  show In1 F (kl1 id c);unfold kl1;split
  .split
   .trivial
   .exact h
  .split
   .trivial
   .exact h
  .exact h
 | fz k xs=>
  show In1 F (fz1 id k xs c);unfold fz1;split
  .split
   .trivial
   .exact h
  .split
   .trivial
   .exact h
  .exact h
def aaJ{f:AV->AV}(hf:∀c,In1 F c->In1 F (f c)){o:Option Ob}(h:∀ob,o=I ob->Ez F ob):∀ob,CH f o=I ob->Ez F ob:=by
 intro ob e;cases o with
 | none=>cases e
 | some o=>
  have:=h o rfl;cases o with
  | box t cs=>
   cases e;intro c hc;obtain⟨c0,h0,rfl⟩:=Bv.1 hc;exact hf _<|this c0 h0
  | _=>cases e;trivial
def DR.app{e:Step}(h:DR F s.H)(he:Gn F e):DR F (s.app e).H:=by
 intro j ob hj hob;rw[L5]at hob;split at hob
 .exact he ob hob
 .exact aaJ (λc hc=>Fk.Zt _ _ hc) (λob ho=>h j ob hj ho) ob hob
def aB2(s:S)(id:Nat):∃fk,s.freeze id=s.app ⟨id,fk,G⟩/\ ∀s2:S,s2.H id=s.H id->s2.freeze id=s2.app ⟨id,fk,G⟩:=by
 cases h:s.H id with
 | none=>exact⟨.kl,by simp only[S.freeze,h];rfl,λs2 h2=>by simp only[S.freeze,h2];rfl⟩
 | some ob=>
  cases ob with
  | row e fz k xs=>exact⟨.fz k xs,by simp only[S.freeze,h];rfl,λs2 h2=>by simp only[S.freeze,h2];rfl⟩
  | box e cs=>exact⟨.kl,by simp only[S.freeze,h];rfl,λs2 h2=>by simp only[S.freeze,h2];rfl⟩
  | arr e k xs=>exact⟨.kl,by simp only[S.freeze,h];rfl,λs2 h2=>by simp only[S.freeze,h2];rfl⟩
def WJ:∀(ids:List Nat) (s:S),(∀i∈ids,F i)->∃es:List Step,(∀e∈es,e.id∈ids/\e.ob=G)/\ids.foldl S.freeze s=es.foldl S.app s/\ ∀s2:S,Agr F s.H s2.H->ids.foldl S.freeze s2=es.foldl S.app s2
 | [],s,_=>⟨[],by simp,rfl,λ_ _=>rfl⟩
 | i::ids,s,hF=>by
  obtain⟨fk,h1,h2⟩:=aB2 s i;obtain⟨es,h3,h4,h5⟩:=WJ ids (s.freeze i) λj hj=>hF j<|Ai _ hj;refine⟨⟨i,fk,G⟩::es,λe he=> ?_, ?_,λs2 hs=> ?_⟩
  .rcases Bm.1 he with rfl|he
   .exact⟨Am,rfl⟩
   .exact⟨Ai _ (h3 e he).1,(h3 e he).2⟩
  .show ids.foldl S.freeze (s.freeze i)=es.foldl S.app (s.app ⟨i,fk,G⟩);rw[h4,h1]
  .have e1:=h2 s2<|hs i<|hF i Am;simp only[Dr,e1];refine h5 _ ?_;rw[h1];exact hs.app _
def aCW:∀(ids:List Nat) (s:S),∃es:List Step,(∀e∈es,e.id∈ids/\e.ob=G)/\ids.foldl S.kill s=es.foldl S.app s/\ ∀s2:S,ids.foldl S.kill s2=es.foldl S.app s2
 | [],s=>⟨[],by simp,rfl,λ_=>rfl⟩
 | i::ids,s=>by
  obtain⟨es,h3,h4,h5⟩:=aCW ids<|s.kill i;refine⟨⟨i,.kl,G⟩::es,λe he=> ?_, ?_,λs2=> ?_⟩
  .rcases Bm.1 he with rfl|he
   .exact⟨Am,rfl⟩
   .exact⟨Ai _ (h3 e he).1,(h3 e he).2⟩
  .exact h4
  .exact h5 _
def ax5{k:K}{cs:List AV}(hc:∀c∈cs,In1 F c)(hH:Agr F H H'):dec H' k cs=dec H k cs:=by
 have key:∀c∈cs,∀k,CD H' k c=CD H k c:=λc hm k=>mE (.of1<|hc c hm) hH;unfold dec;split<;>first|rfl|simp[key]
def Loc.mk1{α:Type}{g:S->Option (α×S)}{x:α}(e:Step)(hW:W e.id)(ho:Gn F e)(h1:s'=s.app e)(h:∀s2:S,Agr F s.H s2.H->g s2=I (x,s2.app e)):Loc F W g s x s':=
 ⟨[e],λe' he=>by simp at he;subst he;exact⟨hW,ho⟩,h1,h⟩
def ab7{ys:List AV}(hy:∀c∈ys,In1 F c):∀i∈ys.filterMap H8,F i:=by
 intro i hi;obtain⟨c,h1,h2⟩:=GO.1 hi;have:=hy c h1;cases c<;>first|(cases h2;done)|(cases h2;exact this)
def arI{t:TypeId}{x y:AV}(hx:InA F x)(hy:InA F y)(hcl:DR F s.H)(h:IW P t s x y=I s'):Loc F (λi=>i∈OI s.H x y) (λs=>(IW P t s x y).map λs=>((),s)) s () s':=by
 cases x<;>first|(cases h;done)|skip
 rename_i id z i o;have hid:F id:=hx;simp only[IW]at h;split at h
 .rename_i e cs hob;split at h
  .obtain⟨ys,hc,h⟩:=Ag.1 h;split at h
   .rename_i hg;cases h;refine .mk1 ⟨id,.no,I<|.box e<|H4 cs o ys⟩ (by simp[OI,hob]) ?_ (J7 _ _ _).symm λs2 h2=> ?_
    .intro ob e';cases e';exact jI (hcl id _ hid hob) (X2 hy hc)
    .rw[J7];simp only[IW,h2 id hid,hob,hc,A6,hg];rfl
   .cases h
  .cases h
 .rename_i e fz k xs hob;obtain⟨ys,hc,h⟩:=Ag.1 h;split at h
  .rename_i hg;obtain⟨v,hd,h⟩:=Ag.1 h;cases h;have hys:=X2 hy hc;obtain⟨es,h3,h4,h5⟩:=WJ (F:=F) (ys.filterMap H8) s<|ab7 hys;refine⟨es++[⟨id,.no,I<|.row e fz k<|xs.set i v⟩],λe' he=> ?_, ?_,λs2 h2=> ?_⟩
   .have hsw:OI s.H (.ptr id z i o) y=id::ys.filterMap H8:=by simp[OI,hob,hc]
    rw[hsw];obtain he|he:=BL.1 he
    .exact⟨Ai _ (h3 e' he).1,λob eo=>by rw[(h3 e' he).2]at eo;cases eo⟩
    .simp at he;subst he;exact⟨Am,λob eo=>by cases eo;trivial⟩
   .rw[G3,← h4];exact(J7 _ _ _).symm
   .rw[G3,← h5 s2 h2];have hd2:dec s2.H k (H4 (enc k<|xs.getD i<|dfl k) o ys)=I v:=by
     rw[ax5 (jI (Ss _ _) hys) h2];exact hd
    simp only[IW,h2 id hid,hob,hc,A6,hg,hd2,Dr,K7,J7];rfl
  .cases h
 .rename_i e k xs hob;obtain⟨ys,hc,h⟩:=Ag.1 h;split at h
  .rename_i hg;obtain⟨v,hd,h⟩:=Ag.1 h;cases h;refine .mk1 ⟨id,.no,I<|.arr e k<|xs.set i v⟩ (by simp[OI,hob]) (λob e'=>by cases e';trivial) (J7 _ _ _).symm λs2 h2=> ?_;rw[J7];simp only[IW,h2 id hid,hob,hc,A6,hg,hd];rfl
  .cases h
 .cases h
def aqz{t t2:TypeId}{x y v:AV}{q:Bool}(hx:InA F x)(hy:InA F y)(hb:F b)(h:Ke P kd t t2 s b x y=I (q,v,s')):
  Loc F (λi=>i=b\/i∈Ju x) (λs=>(Ke P kd t t2 s b x y).map λr=>((r.1,r.2.1),r.2.2)) s (q,v) s'/\InA F v:=by
 unfold Ke at h;obtain⟨e,he,h1⟩:=Ag.1 h;obtain⟨k,hk,h2⟩:=Ag.1 h1;obtain⟨ys,hys,h3⟩:=Ag.1 h2;clear h h1 h2;revert h3;intro h;split at h
 .rename_i hg;cases h;refine⟨.mk1 ⟨b,.no,I<|.row e A0 k ys⟩ (.inl rfl) (λob e'=>by cases e';trivial) (J7 _ _ _).symm λs2 h2=> ?_,.of1 hb⟩;rw[J7];simp only[Ke,he,hk,A6,mC hy h2,hys,hg];rfl
 .rename_i id hg;have hid:F id:=hx;split at h
  .rename_i e' k' xs hob hne;split at h
   .rename_i hee;obtain⟨zs,hz,h⟩:=Ag.1 h;cases h;refine⟨.mk1 ⟨id,.kl,I<|.row e A0 k<|zs++ys⟩ (.inr<|by simp[Ju,H8]) (λob e'=>by cases e';trivial) rfl λs2 h2=> ?_,.of1 hid⟩;simp only[Ke,he,hk,A6,mC hy h2,hys,hg,h2 id hid,hob,hne,hee,hz];rfl
   .cases h
  .cases h
 .cases h
def avM{t:TypeId}{x y v:AV}(hx:InA F x)(hy:InA F y)(h:Ko P t s x y=I (v,s')):
  Loc F (λi=>i∈Ju x) (λs=>Ko P t s x y) s v s'/\InA F v:=by
 unfold Ko at h;split at h
 .rename_i id;have hid:F id:=hx;split at h
  .rename_i e fz k xs hob hne;obtain⟨e',he,h⟩:=Ag.1 h;split at h
   .rename_i hg;obtain⟨ys,hys,h⟩:=Ag.1 h;cases h;refine⟨.mk1 ⟨id,.no,I<|.row e fz k<|ys.take xs.length++xs.drop ys.length⟩ (by simp[Ju,H8]) (λob e'=>by cases e';trivial) (J7 _ _ _).symm λs2 h2=> ?_,.of1 trivial⟩;rw[J7];simp only[Ko,h2 id hid,hob,hne,he,A6,hg,mC hy h2,hys]
   .cases h
  .cases h
 .cases h
def apG{id:Nat}{z:Bool}{lo hi:Option AV}{v:AV}{q:Bool}(hid:F id)(h:Ka s id z lo hi=I (q,v,s')):
  Loc F (λi=>i=id) (λs=>(Ka s id z lo hi).map λr=>((r.1,r.2.1),r.2.2)) s (q,v) s'/\InA F v:=by
 unfold Ka at h;split at h
 .rename_i e fz k xs hob;obtain⟨⟨c,l,hh⟩,hc,h⟩:=Ag.1 h;simp only at h;split at h
  .cases h;refine⟨.mk1 ⟨id,.kl,I<|.row e fz k<|Ih lo G l hh xs⟩ rfl (λob e'=>by cases e';trivial) rfl λs2 h2=> ?_,.of1 hid⟩;simp only[Ka,h2 id hid,hob,hc,A6];rfl
  .cases h
  .cases h;obtain⟨fk,h1,h2⟩:=aB2 s id;refine⟨.mk1 ⟨id,fk,G⟩ rfl (λob e'=>by cases e') h1 λs2 h3=> ?_,.of1 trivial⟩;rw[← h2 s2<|h3 id hid];simp only[Ka,h3 id hid,hob,hc,A6];rfl
 .cases h
end
end Go.VS
namespace Go.VS
open Go
abbrev EW(es:List (Nat×Ob))(H:Hp):Hp:=es.foldl (λH p=>upd H p.1<|I p.2) H
section
variable {F W:Nat->Prop} {H H':Hp} {P:Program} {s s' s2:S} {b:Nat} {E:Nat->AV}
set_option linter.unusedSectionVars false
def InA.Iq{cs:List AV}(h:∀c∈cs,In1 F c):∀c∈cs,InA F c:=λc hc=> .of1<|h c hc
section eqs
variable (hH:Agr F H H') (hC:DR F H)
include hH hC
mutual
theorem auq:∀(h:Sh) (v:AV),InA F v->Bn E H' h v=Bn E H h v
 | .int _,v,_=>by cases v with
  | lit v=>cases v<;>rfl
  | _=>rfl
 | .bool,v,_=>by cases v with
  | lit v=>cases v<;>rfl
  | _=>rfl
 | .str,v,_=>by cases v with
  | lit v=>cases v<;>rfl
  | _=>rfl
 | .sl _,v,_=>by
  cases v with
  | lit v=>cases v with
   | slice a n c=>cases a<;>cases n<;>cases c<;>rfl
   | _=>rfl
  | _=>rfl
 | .arr _,v,_=>by cases v<;>rfl
 | .same _,v,_=>by
  cases v with
  | ptr id z i o=>cases i<;>cases o<;>rfl
  | _=>rfl
 | .fz k,v,hv=>mE hv hH
 | .row e k,v,hv=>by
  cases v with
  | own id=>simp only[Bn,hH id hv]
  | lit v=>cases v with
   | slice a n c=>cases a<;>cases n<;>cases c<;>rfl
   | _=>rfl
  | _=>rfl
 | .Cd e k,v,hv=>by
  cases v with
  | own id=>simp only[Bn,hH id hv]
  | _=>rfl
 | .abx e k,v,hv=>by
  cases v with
  | ptr id z i o=>cases i<;>cases o<;>first|rfl|simp only[Bn,hH id hv]
  | _=>rfl
 | .agg l,v,hv=>by
  cases v with
  | agg cs=>exact SX l cs<|InA.Iq hv
  | _=>rfl
 | .box e l,v,hv=>by
  cases v with
  | ptr id z i o=>
   cases i<;>cases o<;>first|rfl|skip
   simp only[Bn,hH id hv];cases ho:H id with
   | none=>rfl
   | some ob=>
    cases ob with
    | box e' cs=>
     have:=SX l cs<|InA.Iq<|hC id _ hv ho;simp only[this]
    | _=>rfl
  | _=>rfl
theorem SX:∀(l:List Sh) (cs:List AV),(∀c∈cs,InA F c)->GF E H' l cs=GF E H l cs
 | [],[],_=>rfl
 | [],_::_,_=>rfl
 | _::_,[],_=>rfl
 | h::l,c::cs,hv=>by
  simp only[GF,auq h c<|hv c Am,SX l cs λd hd=>hv d<|Ai _ hd]
end
mutual
theorem avg:∀(h:Sh) (v:AV),InA F v->Cb H' h v=Cb H h v
 | .int _,_,_=>rfl
 | .bool,_,_=>rfl
 | .str,_,_=>rfl
 | .sl _,_,_=>rfl
 | .arr _,_,_=>rfl
 | .same _,_,_=>rfl
 | .fz k,_,_=>rfl
 | .row e k,v,_=>by cases v<;>rfl
 | .Cd e k,v,_=>by cases v<;>rfl
 | .abx e k,v,_=>by
  cases v with
  | ptr id z i o=>cases i<;>cases o<;>rfl
  | _=>rfl
 | .agg l,v,hv=>by
  cases v with
  | agg cs=>exact SZ l cs<|InA.Iq hv
  | _=>rfl
 | .box e l,v,hv=>by
  cases v with
  | ptr id z i o=>
   cases i<;>cases o<;>first|rfl|skip
   simp only[Cb,hH id hv];cases ho:H id with
   | none=>rfl
   | some ob=>
    cases ob with
    | box e' cs=>
     have:=SZ l cs<|InA.Iq<|hC id _ hv ho;simp only[this]
    | _=>rfl
  | _=>rfl
theorem SZ:∀(l:List Sh) (cs:List AV),(∀c∈cs,InA F c)->Bi H' l cs=Bi H l cs
 | [],_,_=>by simp only[Bi]
 | _::_,[],_=>by simp only[Bi]
 | h::l,c::cs,hv=>by
  simp only[Bi,avg h c<|hv c Am,SZ l cs λd hd=>hv d<|Ai _ hd]
end
mutual
theorem avF:∀(h:Sh) (v:AV),InA F v->CC H' h v=CC H h v
 | .int _,_,_=>rfl
 | .bool,_,_=>rfl
 | .str,_,_=>rfl
 | .sl _,_,_=>rfl
 | .arr _,_,_=>rfl
 | .same _,_,_=>rfl
 | .fz k,_,_=>rfl
 | .row e k,v,_=>by cases v<;>rfl
 | .Cd e k,v,_=>by cases v<;>rfl
 | .abx e k,v,_=>by
  cases v with
  | ptr id z i o=>cases i<;>cases o<;>rfl
  | _=>rfl
 | .agg l,v,hv=>by
  cases v with
  | agg cs=>exact SW l cs<|InA.Iq hv
  | _=>rfl
 | .box e l,v,hv=>by
  cases v with
  | ptr id z i o=>
   cases i<;>cases o<;>first|rfl|skip
   simp only[CC,hH id hv];cases ho:H id with
   | none=>rfl
   | some ob=>
    cases ob with
    | box e' cs=>
     have:=SW l cs<|InA.Iq<|hC id _ hv ho;simp only[this]
    | _=>rfl
  | _=>rfl
theorem SW:∀(l:List Sh) (cs:List AV),(∀c∈cs,InA F c)->CZ H' l cs=CZ H l cs
 | [],_,_=>by simp only[CZ]
 | _::_,[],_=>by simp only[CZ]
 | h::l,c::cs,hv=>by
  simp only[CZ,avF h c<|hv c Am,SW l cs λd hd=>hv d<|Ai _ hd]
end
mutual
theorem avj:∀(h:Sh) (v:AV),InA F v->Cj H' h v=Cj H h v
 | .int _,_,_=>rfl
 | .bool,_,_=>rfl
 | .str,_,_=>rfl
 | .sl _,_,_=>rfl
 | .arr _,_,_=>rfl
 | .same _,_,_=>rfl
 | .fz k,v,_=>by cases v<;>rfl
 | .row e k,_,_=>rfl
 | .Cd e k,_,_=>rfl
 | .abx e k,_,_=>rfl
 | .agg l,v,hv=>by
  cases v with
  | agg cs=>exact Xi l cs<|InA.Iq hv
  | _=>rfl
 | .box e l,v,hv=>by
  cases v with
  | ptr id z i o=>
   cases i<;>cases o<;>first|rfl|skip
   simp only[Cj,hH id hv];cases ho:H id with
   | none=>rfl
   | some ob=>
    cases ob with
    | box e' cs=>
     have:=Xi l cs<|InA.Iq<|hC id _ hv ho;simp only[this]
    | _=>rfl
  | _=>rfl
theorem Xi:∀(l:List Sh) (cs:List AV),(∀c∈cs,InA F c)->Cr H' l cs=Cr H l cs
 | [],_,_=>by simp only[Cr]
 | _::_,[],_=>by simp only[Cr]
 | h::l,c::cs,hv=>by
  simp only[Cr,avj h c<|hv c Am,Xi l cs λd hd=>hv d<|Ai _ hd]
end
end eqs
section mem
variable (hC:DR F H)
include hC
mutual
theorem avG:∀(h:Sh) (v:AV),InA F v->∀i∈CC H h v,F i
 | .int _,_,_,_,hi=>by simp[CC]at hi
 | .bool,_,_,_,hi=>by simp[CC]at hi
 | .str,_,_,_,hi=>by simp[CC]at hi
 | .sl _,_,_,_,hi=>by simp[CC]at hi
 | .arr _,_,_,_,hi=>by simp[CC]at hi
 | .same _,_,_,_,hi=>by simp[CC]at hi
 | .fz k,_,_,_,hi=>by simp[CC]at hi
 | .row e k,v,hv,i,hi=>by
  cases v<;>simp[CC]at hi;subst hi;exact hv
 | .Cd e k,v,hv,i,hi=>by
  cases v<;>simp[CC]at hi;subst hi;exact hv
 | .abx e k,v,hv,j,hi=>by
  cases v with
  | ptr id z i o=>
   cases i<;>cases o<;>simp[CC]at hi;subst hi;exact hv
  | _=>simp[CC]at hi
 | .agg l,v,hv,j,hi=>by
  cases v with
  | agg cs=>exact XQ l cs (InA.Iq hv) j<|by simpa[CC] using hi
  | _=>simp[CC]at hi
 | .box e l,v,hv,j,hi=>by
  cases v with
  | ptr id z i o=>
   cases i<;>cases o<;>simp only[CC]at hi<;>first|(simp at hi;done)|skip
   cases ho:H id with
   | none=>simp[ho]at hi
   | some ob=>
    cases ob with
    | box e' cs=>
     simp only[ho]at hi;exact XQ l cs (InA.Iq<|hC id _ hv ho) j hi
    | _=>simp[ho]at hi
  | _=>simp[CC]at hi
theorem XQ:∀(l:List Sh) (cs:List AV),(∀c∈cs,InA F c)->∀i∈CZ H l cs,F i
 | [],cs,_,i,hi=>by simp[CZ]at hi
 | _::_,[],_,i,hi=>by simp[CZ]at hi
 | h::l,c::cs,hv,i,hi=>by
  simp only[CZ,BL]at hi;obtain hi|hi:=hi
  .exact avG h c (hv c Am) i hi
  .exact XQ l cs (λd hd=>hv d<|Ai _ hd) i hi
end
mutual
theorem avk:∀(h:Sh) (v:AV),InA F v->∀i∈Cj H h v,F i
 | .int _,_,_,_,hi=>by simp[Cj]at hi
 | .bool,_,_,_,hi=>by simp[Cj]at hi
 | .str,_,_,_,hi=>by simp[Cj]at hi
 | .sl _,_,_,_,hi=>by simp[Cj]at hi
 | .arr _,_,_,_,hi=>by simp[Cj]at hi
 | .same _,_,_,_,hi=>by simp[Cj]at hi
 | .row e k,_,_,_,hi=>by simp[Cj]at hi
 | .Cd e k,_,_,_,hi=>by simp[Cj]at hi
 | .abx e k,_,_,_,hi=>by simp[Cj]at hi
 | .fz k,v,hv,i,hi=>by
  cases v<;>simp[Cj]at hi;subst hi;exact hv
 | .agg l,v,hv,j,hi=>by
  cases v with
  | agg cs=>exact Sa l cs (InA.Iq hv) j<|by simpa[Cj] using hi
  | _=>simp[Cj]at hi
 | .box e l,v,hv,j,hi=>by
  cases v with
  | ptr id z i o=>
   cases i<;>cases o<;>simp only[Cj]at hi<;>first|(simp at hi;done)|skip
   cases ho:H id with
   | none=>simp[ho]at hi
   | some ob=>
    cases ob with
    | box e' cs=>
     simp only[ho]at hi;exact Sa l cs (InA.Iq<|hC id _ hv ho) j hi
    | _=>simp[ho]at hi
  | _=>simp[Cj]at hi
theorem Sa:∀(l:List Sh) (cs:List AV),(∀c∈cs,InA F c)->∀i∈Cr H l cs,F i
 | [],cs,_,i,hi=>by simp[Cr]at hi
 | _::_,[],_,i,hi=>by simp[Cr]at hi
 | h::l,c::cs,hv,i,hi=>by
  simp only[Cr,BL]at hi;obtain hi|hi:=hi
  .exact avk h c (hv c Am) i hi
  .exact Sa l cs (λd hd=>hv d<|Ai _ hd) i hi
end
end mem
mutual
theorem EO (E:Nat->AV):∀(h:Sh) (H:Hp) (b:Nat) (x:LT h),b<=(BG E H b h x).2.2
 | .int _,_,b,_=>Ar b
 | .bool,_,b,_=>Ar b
 | .str,_,b,_=>Ar b
 | .sl _,_,b,_=>Ar b
 | .arr _,_,b,_=>Ar b
 | .same _,_,b,_=>Ar b
 | .fz _,_,b,_=>Ar b
 | .row _ _,_,b,_=>lU b
 | .Cd _ _,_,b,_=>lU b
 | .abx _ _,_,b,_=>lU b
 | .agg l,H,b,x=>by
  have:=J2 E l H b x;show b<=((match Ah E H b l x with|(cs,H,b)=>(AV.agg cs,H,b)):AV×Hp×Nat).2.2;generalize Ah E H b l x=r at *;obtain⟨cs,H',b'⟩:=r;exact this
 | .box e l,H,b,x=>by
  have:=J2 E l H b x;show b<=((match Ah E H b l x with|(cs,H,b)=>(AV.ptr b cs.length 0 0,upd H b<|I<|.box e cs,b+1)):AV×Hp×Nat).2.2;generalize Ah E H b l x=r at *;obtain⟨cs,H',b'⟩:=r;exact Nat.le_succ_of_le this
theorem J2 (E:Nat->AV):∀(l:List Sh) (H:Hp) (b:Nat) (x:LTs l),b<=(Ah E H b l x).2.2
 | [],_,b,_=>Ar b
 | h::l,H,b,x=>by
  have h1:=EO E h H b x.1;show b<=((match BG E H b h x.1 with|(c,H,b)=>match Ah E H b l x.2 with|(cs,H,b)=>(c::cs,H,b)):List AV×Hp×Nat).2.2;generalize BG E H b h x.1=r at *;obtain⟨c,H',b'⟩:=r;have h2:=J2 E l H' b' x.2;show b<=((match Ah E H' b' l x.2 with|(cs,H,b)=>(c::cs,H,b)):List AV×Hp×Nat).2.2;generalize Ah E H' b' l x.2=r at *;obtain⟨cs,H'',b''⟩:=r;exact CP h1 h2
end
mutual
theorem kR (E:Nat->AV) (H H':Hp):∀(h:Sh) (b:Nat) (x:LT h),(BG E H b h x).1=(BG E H' b h x).1/\(BG E H b h x).2.2=(BG E H' b h x).2.2
 | .int _,_,_=>⟨rfl,rfl⟩
 | .bool,_,_=>⟨rfl,rfl⟩
 | .str,_,_=>⟨rfl,rfl⟩
 | .sl _,_,_=>⟨rfl,rfl⟩
 | .arr _,_,_=>⟨rfl,rfl⟩
 | .same _,_,_=>⟨rfl,rfl⟩
 | .fz _,_,_=>⟨rfl,rfl⟩
 | .row _ _,_,_=>⟨rfl,rfl⟩
 | .Cd _ _,_,_=>⟨rfl,rfl⟩
 | .abx _ _,_,_=>⟨rfl,rfl⟩
 | .agg l,b,x=>by
  have:=Pl E H H' l b x;have un:∀H,BG E H b (.agg l) x=(match Ah E H b l x with|(cs,H,b)=>(AV.agg cs,H,b)):=λ_=>rfl;rw[un,un];generalize Ah E H b l x=r at *;generalize Ah E H' b l x=r' at *;obtain⟨cs,H1,b1⟩:=r;obtain⟨cs',H1',b1'⟩:=r';obtain⟨rfl,rfl⟩:=this;exact⟨rfl,rfl⟩
 | .box e l,b,x=>by
  have:=Pl E H H' l b x;have un:∀H,BG E H b (.box e l) x=(match Ah E H b l x with|(cs,H,b)=>(AV.ptr b cs.length 0 0,upd H b<|I<|.box e cs,b+1)):=λ_=>rfl;rw[un,un];generalize Ah E H b l x=r at *;generalize Ah E H' b l x=r' at *;obtain⟨cs,H1,b1⟩:=r;obtain⟨cs',H1',b1'⟩:=r';obtain⟨rfl,rfl⟩:=this;exact⟨rfl,rfl⟩
theorem Pl (E:Nat->AV) (H H':Hp):∀(l:List Sh) (b:Nat) (x:LTs l),(Ah E H b l x).1=(Ah E H' b l x).1/\(Ah E H b l x).2.2=(Ah E H' b l x).2.2
 | [],_,_=>⟨rfl,rfl⟩
 | h::l,b,x=>by
  have h1:=kR E H H' h b x.1;have un:∀H,Ah E H b (h::l) x=(match BG E H b h x.1 with|(c,H,b)=>match Ah E H b l x.2 with|(cs,H,b)=>(c::cs,H,b)):=λ_=>rfl;rw[un,un];generalize BG E H b h x.1=r at *;generalize BG E H' b h x.1=r' at *;obtain⟨c,H1,b1⟩:=r;obtain⟨c',H1',b1'⟩:=r';obtain⟨rfl,rfl⟩:=h1;have h2:=Pl E H1 H1' l b1 x.2;simp only;generalize Ah E H1 b1 l x.2=r at *;generalize Ah E H1' b1 l x.2=r' at *;obtain⟨cs,H2,b2⟩:=r;obtain⟨cs',H2',b2'⟩:=r';obtain⟨rfl,rfl⟩:=h2;exact⟨rfl,rfl⟩
end
mutual
theorem Xf (E:Nat->AV):∀(h:Sh) (b:Nat) (x:LT h) (L:Nat),Dh h=Y->(∀j,b<=j->j<L->F j/\W j)->(∀H,(BG E H b h x).2.2<=L)->
  ∃v es b',In1 F v/\(∀p∈es,W p.1/\Ez F p.2)/\ ∀H,BG E H b h x=(v,EW es H,b')
 | .int k,b,x,_,_,_,_=>⟨.lit<|.int k x,[],b,trivial,by simp,λ_=>rfl⟩
 | .bool,b,x,_,_,_,_=>⟨.b x,[],b,trivial,by simp,λ_=>rfl⟩
 | .str,b,x,_,_,_,_=>⟨.s x,[],b,trivial,by simp,λ_=>rfl⟩
 | .sl k,b,x,_,_,_,_=>⟨.sl k x,[],b,trivial,by simp,λ_=>rfl⟩
 | .arr _,_,_,_,h,_,_=>by simp[Dh]at h
 | .same _,_,_,_,h,_,_=>by simp[Dh]at h
 | .fz k,b,x,_,_,_,_=>⟨.sl k x,[],b,trivial,by simp,λ_=>rfl⟩
 | .row e k,b,x,L,_,hF,hL=>⟨.own b,[(b,.row e A0 k x)],b+1,(hF b (Ar b)<|hL λ_=>G).1,λp hp=>by
   simp at hp;subst hp;exact⟨(hF b (Ar b)<|hL λ_=>G).2,trivial⟩,λ_=>rfl⟩
 | .Cd e k,b,x,L,_,hF,hL=>⟨.own b,[(b,.row e Y k x)],b+1,(hF b (Ar b)<|hL λ_=>G).1,λp hp=>by
   simp at hp;subst hp;exact⟨(hF b (Ar b)<|hL λ_=>G).2,trivial⟩,λ_=>rfl⟩
 | .abx e k,b,x,L,_,hF,hL=>⟨.ptr b (ks k) 0 0,[(b,.arr e k x)],b+1,(hF b (Ar b)<|hL λ_=>G).1,λp hp=>by
   simp at hp;subst hp;exact⟨(hF b (Ar b)<|hL λ_=>G).2,trivial⟩,λ_=>rfl⟩
 | .agg _,_,_,_,h,_,_=>by simp[Dh]at h
 | .box e l,b,x,L,h,hF,hL=>by
  have un:∀H,BG E H b (.box e l) x=(match Ah E H b l x with|(cs,H,b)=>(AV.ptr b cs.length 0 0,upd H b<|I<|.box e cs,b+1)):=λ_=>rfl;have hL':∀H,(Ah E H b l x).2.2+1<=L:=λH=>by
   have:=hL H;rw[un]at this;generalize Ah E H b l x=r at *;exact this
  obtain⟨vs,es,b',h1,h2,h3⟩:=jX E l b x L (by simpa[Dh] using h) hF (λH=>Nat.le_of_succ_le<|hL' H);have hb':b'<L:=by have:=hL' λ_=>G;rw[h3]at this;exact this
  have hbb:b<=b':=by have:=J2 E l (λ_=>G) b x;rw[h3]at this;exact this
  refine⟨.ptr b' vs.length 0 0,es++[(b',.box e vs)],b'+1,(hF b' hbb hb').1,λp hp=> ?_,λH=> ?_⟩
  .rcases BL.1 hp with hp|hp
   .exact h2 p hp
   .simp at hp;subst hp;exact⟨(hF b' hbb hb').2,h1⟩
  .rw[un,h3];simp[EW,G3]
theorem jX (E:Nat->AV):∀(l:List Sh) (b:Nat) (x:LTs l) (L:Nat),Hr l=Y->(∀j,b<=j->j<L->F j/\W j)->(∀H,(Ah E H b l x).2.2<=L)->
  ∃vs es b',(∀v∈vs,In1 F v)/\(∀p∈es,W p.1/\Ez F p.2)/\ ∀H,Ah E H b l x=(vs,EW es H,b')
 | [],b,_,_,_,_,_=>⟨[],[],b,by simp,by simp,λ_=>rfl⟩
 | h::l,b,x,L,hl,hF,hL=>by
  simp only[Hr,AD]at hl;have un:∀H,Ah E H b (h::l) x=(match BG E H b h x.1 with|(c,H,b)=>match Ah E H b l x.2 with|(cs,H,b)=>(c::cs,H,b)):=λ_=>rfl;have hL1:∀H,(BG E H b h x.1).2.2<=L:=λH=>by
   have:=hL H;rw[un]at this;generalize BG E H b h x.1=r at *;obtain⟨c,H',b'⟩:=r;have h2:=J2 E l H' b' x.2;simp only at this;generalize Ah E H' b' l x.2=r at *;exact CP h2 this
  obtain⟨v,es,b',h1,h2,h3⟩:=Xf E h b x.1 L hl.1 hF hL1;have hbb:b<=b':=by have:=EO E h (λ_=>G) b x.1;rw[h3]at this;exact this
  have hL2:∀H,(Ah E H b' l x.2).2.2<=L:=λH=>by
   have:=hL H;rw[un,h3]at this;simp only at this;rw[(Pl E H (EW es H) l b' x.2).2];generalize Ah E (EW es H) b' l x.2=r at *;exact this
  obtain⟨vs,es',b'',h4,h5,h6⟩:=jX E l b' x.2 L hl.2 (λj h1 h2=>hF j (CP hbb h1) h2) hL2;refine⟨v::vs,es++es',b'',λc hc=> ?_,λp hp=> ?_,λH=> ?_⟩
  .rcases Bm.1 hc with rfl|hc
   .exact h1
   .exact h4 c hc
  .rcases BL.1 hp with hp|hp
   .exact h2 p hp
   .exact h5 p hp
  .rw[un,h3];simp only[h6,EW,G3]
end
def jQ{E:Nat->AV}{H:Hp}{b:Nat}{h:Sh}{v:AV}{x:LT h}(hl:Dh h=Y)(hn:∀e l,h= .box e l->∀id z,v≠ .ptr id z 0 0):Cy E H b h v x=BG E H b h x:=by
 cases h<;>first|rfl|(simp[Dh]at hl;done)|skip
 rename_i e l;cases v<;>first|rfl|skip
 rename_i id z i o;cases i<;>cases o<;>first|rfl|exact absurd rfl (hn e l rfl id z)
mutual
theorem aa1 (E:Nat->AV):∀(h:Sh) (H:Hp) (b:Nat) (v:AV) (x:LT h),Dh h=Y->b<=(Cy E H b h v x).2.2
 | .box e l,H,b,v,x,hl=>by
  by_cases hv:∃id z,v= .ptr id z 0 0
  .obtain⟨id,z,rfl⟩:=hv;have un:Cy E H b (.box e l) (.ptr id z 0 0) x=(match H id with
    | some (.box _ cs)=>(match BO E H b l cs x with|(ds,H,b)=>(AV.ptr id z 0 0,upd H id<|I<|.box e ds,b))
    | _=>(.un,H,b)):=rfl
   rw[un];cases H id with
   | none=>exact Ar b
   | some ob=>
    cases ob with
    | box e' cs=>
     have:=Xh E l H b cs x (by simpa[Dh] using hl);simp only;generalize BO E H b l cs x=r at *;obtain⟨ds,H',b'⟩:=r;exact this
    | _=>exact Ar b
  .rw[jQ hl λ_ _ _ id z e=>hv ⟨id,z,e⟩];exact EO E _ H b x
 | .int _,H,b,v,x,hl=>EO E _ H b x
 | .bool,H,b,v,x,hl=>EO E _ H b x
 | .str,H,b,v,x,hl=>EO E _ H b x
 | .sl _,H,b,v,x,hl=>EO E _ H b x
 | .row _ _,H,b,v,x,hl=>EO E _ H b x
 | .fz _,H,b,v,x,hl=>EO E _ H b x
 | .Cd _ _,H,b,v,x,hl=>EO E _ H b x
 | .abx _ _,H,b,v,x,hl=>EO E _ H b x
 | .arr _,H,b,v,x,hl=>EO E _ H b x
 | .same _,_,_,_,_,hl=>by simp[Dh]at hl
 | .agg _,_,_,_,_,hl=>by simp[Dh]at hl
theorem Xh (E:Nat->AV):∀(l:List Sh) (H:Hp) (b:Nat) (cs:List AV) (x:LTs l),Hr l=Y->b<=(BO E H b l cs x).2.2
 | [],_,b,_,_,_=>Ar b
 | h::l,H,b,cs,x,hl=>by
  simp only[Hr,AD]at hl;have h1:=aa1 E h H b (cs.headD .un) x.1 hl.1;have un:BO E H b (h::l) cs x=(match Cy E H b h (cs.headD .un) x.1 with|(d,H,b)=>match BO E H b l cs.tail x.2 with|(ds,H,b)=>(d::ds,H,b)):=rfl;rw[un];generalize Cy E H b h (cs.headD .un) x.1=r at *;obtain⟨c,H',b'⟩:=r;have h2:=Xh E l H' b' cs.tail x.2 hl.2;simp only;generalize BO E H' b' l cs.tail x.2=r at *;obtain⟨cs,H'',b''⟩:=r;exact CP h1 h2
end
def atv{es:List (Nat×Ob)}(h:Agr F H H'):Agr F (EW es H) (EW es H'):=by
 induction es generalizing H H' with
 | nil=>exact h
 | cons p es ih=>
  refine ih λid hid=> ?_;by_cases e:id=p.1
  .subst e;simp only[Be]
  .simp only[BB _ _ e];exact h id hid
def apg{es:List (Nat×Ob)}(h:DR F H)(he:∀p∈es,Ez F p.2):DR F (EW es H):=by
 induction es generalizing H with
 | nil=>exact h
 | cons p es ih=>
  refine ih (λid ob hid ho=> ?_) (λq hq=>he q<|Ai _ hq);by_cases e:id=p.1
  .subst e;simp only[Be]at ho;cases ho;exact he p Am
  .simp only[BB _ _ e]at ho;exact h id ob hid ho
def Mu{E:Nat->AV}{H:Hp}{b:Nat}{h:Sh}{v:AV}{x:LT h}{L:Nat}(eq:∀H,Cy E H b h v x=BG E H b h x)(hl:Dh h=Y)(hF:∀j,b<=j->j<L->F j)(hL:(Cy E H b h v x).2.2<=L):
  ∃v' es b',In1 F v'/\(∀p∈es,F p.1/\Ez F p.2)/\ ∀H',Agr F H H'->Cy E H' b h v x=(v',EW es H',b'):=by
 obtain⟨v',es,b',h1,h2,h3⟩:=Xf (F:=F) (W:=F) E h b x L hl (λj h1 h2=>⟨hF j h1 h2,hF j h1 h2⟩) (λH0=>by rw[(kR E H0 H _ b x).2,← eq H];exact hL);exact⟨v',es,b',h1,h2,λH' _=>by rw[eq,h3]⟩
mutual
theorem auI (E:Nat->AV):∀(h:Sh) (H:Hp) (b:Nat) (v:AV) (x:LT h) (L:Nat),Dh h=Y->(∀j,b<=j->j<L->F j)->InA F v->DR F H->(Cy E H b h v x).2.2<=L->
  ∃v' es b',In1 F v'/\(∀p∈es,F p.1/\Ez F p.2)/\ ∀H',Agr F H H'->Cy E H' b h v x=(v',EW es H',b')
 | .box e l,H,b,v,x,L,hl,hF,hv,hC,hL=>by
  by_cases hp:∃id z,v= .ptr id z 0 0
  .obtain⟨id,z,rfl⟩:=hp;have un:∀H,Cy E H b (.box e l) (.ptr id z 0 0) x=(match H id with
    | some (.box _ cs)=>(match BO E H b l cs x with|(ds,H,b)=>(AV.ptr id z 0 0,upd H id<|I<|.box e ds,b))
    | _=>(.un,H,b)):=λ_=>rfl
   have hid:F id:=hv;cases ho:H id with
   | none=>exact⟨.un,[],b,trivial,by simp,λH' h=>by rw[un,h id hid,ho];rfl⟩
   | some ob=>
    cases ob with
    | box e' cs=>
     rw[un,ho]at hL;have hL':(BO E H b l cs x).2.2<=L:=by
      simp only at hL;generalize BO E H b l cs x=r at *;exact hL
     obtain⟨vs,es,b',h1,h2,h3⟩:=jP E l H b cs x L (by simpa[Dh] using hl) hF (InA.Iq<|hC id _ hid ho) hC hL';refine⟨.ptr id z 0 0,es++[(id,.box e vs)],b',hid,λp hp=> ?_,λH' h=> ?_⟩
     .rcases BL.1 hp with hp|hp
      .exact h2 p hp
      .simp at hp;subst hp;exact⟨hid,h1⟩
     .rw[un,h id hid,ho];simp only[h3 H' h,EW,G3,Dr,K7]
    | row=>exact⟨.un,[],b,trivial,by simp,λH' h=>by rw[un,h id hid,ho];rfl⟩
    | arr=>exact⟨.un,[],b,trivial,by simp,λH' h=>by rw[un,h id hid,ho];rfl⟩
  .have eq:∀H,Cy E H b (.box e l) v x=BG E H b (.box e l) x:=λH=>jQ hl (λ_ _ _ id z e=>hp ⟨id,z,e⟩);obtain⟨v',es,b',h1,h2,h3⟩:=Xf (F:=F) (W:=F) E (.box e l) b x L hl (λj h1 h2=>⟨hF j h1 h2,hF j h1 h2⟩) (λH0=>by rw[(kR E H0 H _ b x).2,← eq H];exact hL);exact⟨v',es,b',h1,h2,λH' _=>by rw[eq,h3]⟩
 | .int k,H,b,v,x,L,hl,hF,hv,hC,hL=>Mu (λH=>rfl) hl hF hL
 | .bool,H,b,v,x,L,hl,hF,hv,hC,hL=>Mu (λH=>rfl) hl hF hL
 | .str,H,b,v,x,L,hl,hF,hv,hC,hL=>Mu (λH=>rfl) hl hF hL
 | .sl _,H,b,v,x,L,hl,hF,hv,hC,hL=>Mu (λH=>rfl) hl hF hL
 | .row _ _,H,b,v,x,L,hl,hF,hv,hC,hL=>Mu (λH=>rfl) hl hF hL
 | .fz _,H,b,v,x,L,hl,hF,hv,hC,hL=>Mu (λH=>rfl) hl hF hL
 | .Cd _ _,H,b,v,x,L,hl,hF,hv,hC,hL=>Mu (λH=>rfl) hl hF hL
 | .abx _ _,H,b,v,x,L,hl,hF,hv,hC,hL=>Mu (λH=>rfl) hl hF hL
 | .arr _,_,_,_,_,_,hl,_,_,_,_=>by simp[Dh]at hl
 | .same _,_,_,_,_,_,hl,_,_,_,_=>by simp[Dh]at hl
 | .agg _,_,_,_,_,_,hl,_,_,_,_=>by simp[Dh]at hl
theorem jP (E:Nat->AV):∀(l:List Sh) (H:Hp) (b:Nat) (cs:List AV) (x:LTs l) (L:Nat),Hr l=Y->(∀j,b<=j->j<L->F j)->(∀c∈cs,InA F c)->DR F H->(BO E H b l cs x).2.2<=L->
  ∃vs es b',(∀v∈vs,In1 F v)/\(∀p∈es,F p.1/\Ez F p.2)/\ ∀H',Agr F H H'->BO E H' b l cs x=(vs,EW es H',b')
 | [],_,b,_,_,_,_,_,_,_,_=>⟨[],[],b,by simp,by simp,λ_ _=>rfl⟩
 | h::l,H,b,cs,x,L,hl,hF,hv,hC,hL=>by
  simp only[Hr,AD]at hl;have un:∀H,BO E H b (h::l) cs x=(match Cy E H b h (cs.headD .un) x.1 with|(d,H,b)=>match BO E H b l cs.tail x.2 with|(ds,H,b)=>(d::ds,H,b)):=λ_=>rfl;have hh:InA F (cs.headD .un):=by
   cases cs with
   | nil=>exact .of1 trivial
   | cons c cs=>exact hv c Am
  have ht:∀c∈cs.tail,InA F c:=λc hc=>hv c<|List.mem_of_mem_tail hc;have hL1:(Cy E H b h (cs.headD .un) x.1).2.2<=L:=by
   rw[un]at hL;generalize Cy E H b h (cs.headD .un) x.1=r at *;obtain⟨c,H',b'⟩:=r;have h2:=Xh E l H' b' cs.tail x.2 hl.2;simp only at hL;generalize BO E H' b' l cs.tail x.2=r at *;exact CP h2 hL
  obtain⟨v,es,b',h1,h2,h3⟩:=auI E h H b (cs.headD .un) x.1 L hl.1 hF hh hC hL1;have e0:=h3 H<|Agr.refl F H;have hbb:b<=b':=by have:=aa1 E h H b (cs.headD .un) x.1 hl.1;rw[e0]at this;exact this
  have hL2:(BO E (EW es H) b' l cs.tail x.2).2.2<=L:=by
   rw[un,e0]at hL;simp only at hL;generalize BO E (EW es H) b' l cs.tail x.2=r at *;exact hL
  obtain⟨vs,es',b'',h4,h5,h6⟩:=jP E l (EW es H) b' cs.tail x.2 L hl.2 (λj h1 h2=>hF j (CP hbb h1) h2) ht (apg hC λp hp=>(h2 p hp).2) hL2;refine⟨v::vs,es++es',b'',λc hc=> ?_,λp hp=> ?_,λH' h=> ?_⟩
  .rcases Bm.1 hc with rfl|hc
   .exact h1
   .exact h4 c hc
  .rcases BL.1 hp with hp|hp
   .exact h2 p hp
   .exact h5 p hp
  .rw[un,h3 H' h];simp only[h6 _<|atv h,EW,G3]
end
end
end Go.VS
namespace Go.VS
open Go
section
variable {F W:Nat->Prop} {H H':Hp} {P:Program} {s s' s2:S} {b:Nat} {E:Nat->AV} {C:Cx}
def asa(E:Nat->AV)(h:Sh)(b:Nat)(x:LT h)(L:Nat)(hl:abj h=Y)(hF:∀j,b<=j->j<L->F j/\W j)(hL:∀H,(BG E H b h x).2.2<=L):
  ∃v es b',In2 F v/\(∀p∈es,W p.1/\Ez F p.2)/\ ∀H,BG E H b h x=(v,EW es H,b'):=by
 by_cases hh:Dh h=Y
 .obtain⟨v,es,b',h1,h2,h3⟩:=Xf (F:=F) (W:=W) E h b x L hh hF hL;exact⟨v,es,b',.of1 h1,h2,h3⟩
 .cases h<;>first|(exact absurd hl hh;done)|exact⟨.arr _ x,[],b,trivial,by simp,λ_=>rfl⟩|skip
  rename_i l;have un:∀H,BG E H b (.agg l) x=(match Ah E H b l x with|(cs,H,b)=>(AV.agg cs,H,b)):=λ_=>rfl;obtain⟨vs,es,b',h1,h2,h3⟩:=jX (F:=F) (W:=W) E l b x L hl hF (λH=>by
   have:=hL H;rw[un]at this;generalize Ah E H b l x=r at *;exact this)
  exact⟨.agg vs,es,b',h1,h2,λH=>by rw[un,h3]⟩
def iu(E:Nat->AV):∀(l:List Sh) (b:Nat) (x:LTs l) (L:Nat),Yv l=Y->(∀j,b<=j->j<L->F j/\W j)->(∀H,(Ah E H b l x).2.2<=L)->
  ∃vs es b',(∀v∈vs,In2 F v)/\(∀p∈es,W p.1/\Ez F p.2)/\ ∀H,Ah E H b l x=(vs,EW es H,b')
 | [],b,_,_,_,_,_=>⟨[],[],b,by simp,by simp,λ_=>rfl⟩
 | h::l,b,x,L,hl,hF,hL=>by
  simp only[Yv,AD]at hl;have un:∀H,Ah E H b (h::l) x=(match BG E H b h x.1 with|(c,H,b)=>match Ah E H b l x.2 with|(cs,H,b)=>(c::cs,H,b)):=λ_=>rfl;have hL1:∀H,(BG E H b h x.1).2.2<=L:=λH=>by
   have:=hL H;rw[un]at this;generalize BG E H b h x.1=r at *;obtain⟨c,H',b'⟩:=r;have h2:=J2 E l H' b' x.2;simp only at this;generalize Ah E H' b' l x.2=r at *;exact CP h2 this
  obtain⟨v,es,b',h1,h2,h3⟩:=asa E h b x.1 L hl.1 hF hL1;have hbb:b<=b':=by have:=EO E h (λ_=>G) b x.1;rw[h3]at this;exact this
  have hL2:∀H,(Ah E H b' l x.2).2.2<=L:=λH=>by
   have:=hL H;rw[un,h3]at this;simp only at this;rw[(Pl E H (EW es H) l b' x.2).2];generalize Ah E (EW es H) b' l x.2=r at *;exact this
  obtain⟨vs,es',b'',h4,h5,h6⟩:=iu E l b' x.2 L hl.2 (λj h1 h2=>hF j (CP hbb h1) h2) hL2;refine⟨v::vs,es++es',b'',λc hc=> ?_,λp hp=> ?_,λH=> ?_⟩
  .rcases Bm.1 hc with rfl|hc
   .exact h1
   .exact h4 c hc
  .rcases BL.1 hp with hp|hp
   .exact h2 p hp
   .exact h5 p hp
  .rw[un,h3];simp only[h6,EW,G3]
abbrev stp(p:Nat×Ob):Step:=⟨p.1,.no,I p.2⟩
def jm:∀(es:List (Nat×Ob)) (s:S),(es.map stp).foldl S.app s={ s with H:=EW es s.H }
 | [],_=>rfl
 | p::es,s=>by
  rw[DO,Dr,J7,jm es];rfl
def iZ:∀(ps:List Sh) (vs:List AV),∀v∈Fq ps vs,v∈vs
 | [],vs,v,h=>by cases vs<;>simp[Fq]at h
 | p::ps,[],v,h=>by cases p<;>simp[Fq]at h
 | p::ps,x::vs,v,h=>by
  cases p<;>simp only[Fq,Bm]at h ⊢ <;>first
   | exact .inr (iZ ps vs v h)
   | exact h.imp id (iZ ps vs v)
def aCq{vs:List AV}(h:∀v∈vs,In2 F v):InA F (Ln vs):=by
 unfold Ln;split
 .exact .of2 (h _ y9)
 .exact .of3 h
def ac0(H:Hp)(m:DS)(as:List AV)(b:Nat)(W:Step->Prop):Prop:=
 (∀e:Step,e.id∈CZ H m.ps as->W e)/\((CO m.rs||CO (Az m.ps))=Y->∀e:Step,e.id∈Cr H m.ps as->W e)/\(∀e:Step,b<=e.id->e.id<b+16->W e)
variable {WS:Step->Prop}
def atF{m:DS}{d:Option Nat}{as:List AV}(hm:okS m=Y)(has:∀v∈as,InA F v)(hC:DR F s.H)(hF:∀j,b<=j->j<b+16->F j)
  (hW:ac0 s.H m as b WS)(hB:(Az m.ps).isEmpty=Y\/ ∀e:Step,F e.id->e.fk= .no->WS e)(h:HU m s b d as I=I s'):
  ∃(v:AV) (es:List Step),InA F v/\(∀e∈es,WS e/\Gn F e)/\s'=(es.foldl S.app s).put d v/\ ∀s2:S,Agr F s.H s2.H->HU m s2 b d as I=I ((es.foldl S.app s2).put d v):=by
 simp only[okS,AD]at hm;obtain⟨hW1,hW2,hW3⟩:=hW;unfold HU at h;simp only at h;split at h
 .rename_i x hx hn;obtain⟨r,hr,h⟩:=Ag.1 h;obtain⟨es1,k1,k2,k3⟩:=aCW (CZ s.H m.ps as) s;have k4:∃es2:List Step,(∀e∈es2,WS e/\e.ob=G)/\
    GK (CO m.rs||CO (Az m.ps)) (Cr s.H m.ps as) ((CZ s.H m.ps as).foldl S.kill s)=es2.foldl S.app s/\
    ∀s2:S,Agr F s.H s2.H->GK (CO m.rs||CO (Az m.ps)) (Cr s.H m.ps as) ((CZ s.H m.ps as).foldl S.kill s2)=es2.foldl S.app s2:=by
   cases hq:(CO m.rs||CO (Az m.ps)) with
   | false=>exact⟨es1,λe he=>⟨hW1 e (k1 e he).1,(k1 e he).2⟩,k2,λs2 _=>k3 s2⟩
   | true=>
    obtain⟨es2,j1,j2,j3⟩:=WJ (F:=F) (Cr s.H m.ps as) (es1.foldl S.app s)<|Sa hC m.ps as has;refine⟨es1++es2,λe he=> ?_, ?_,λs2 h2=> ?_⟩
    .rcases BL.1 he with he|he
     .exact⟨hW1 e (k1 e he).1,(k1 e he).2⟩
     .exact⟨hW2 hq e (j1 e he).1,(j1 e he).2⟩
    .simp only[GK,k2,j2,G3]
    .simp only[GK,k3,G3];exact j3 _ h2.oP
  obtain⟨es2,j1,j2,j3⟩:=k4;rw[j2]at h;have hC2:DR F (es2.foldl S.app s).H:=by
   have:∀(es:List Step) (s:S),DR F s.H->(∀e∈es,e.ob=G)->DR F (es.foldl S.app s).H:=by
    intro es
    induction es with
    | nil=>intro s h _;exact h
    | cons e es ih=>exact λs h he=>ih _ (h.app λob eo=>by rw[he e Am]at eo;cases eo) λe' h'=>he e'<|Ai _ h'
   exact this es2 s hC λe he=>(j1 e he).2
  have hL1:(BO (λi=>(as[i]?).getD .un) (es2.foldl S.app s).H b (Az m.ps) (Fq m.ps as) r.2).2.2<=b+16:=by
   generalize BO (λi=>(as[i]?).getD .un) (es2.foldl S.app s).H b (Az m.ps) (Fq m.ps as) r.2=q at *;obtain⟨_,H1,b1⟩:=q;have:=J2 (λi=>(as[i]?).getD .un) m.rs H1 b1 r.1;simp only at h;generalize Ah (λi=>(as[i]?).getD .un) H1 b1 m.rs r.1=q at *;obtain⟨vs,H2,b2⟩:=q;simp only at h;split at h
   .rename_i hb;exact CP this (Da hb)
   .cases h
  have hg:∃ds es3 b1,b<=b1/\(∀p∈es3,WS (stp p)/\Ez F p.2)/\ ∀H',Agr F (es2.foldl S.app s).H H'->BO (λi=>(as[i]?).getD .un) H' b (Az m.ps) (Fq m.ps as) r.2=(ds,EW es3 H',b1):=by
   obtain hB|hB:=hB
   .exact⟨[],[],b,Ar b,by simp,λH' _=>aC4 _ _ _ _ _ _ hB⟩
   .obtain⟨ds,es3,b1,i1,i2,i3⟩:=jP (F:=F) (λi=>(as[i]?).getD .un) (Az m.ps) (es2.foldl S.app s).H b (Fq m.ps as) r.2 (b+16) hm.2 hF (λv hv=>has v<|iZ _ _ v hv) hC2 hL1;have:=Xh (λi=>(as[i]?).getD .un) (Az m.ps) (es2.foldl S.app s).H b (Fq m.ps as) r.2 hm.2;rw[i3 _<|Agr.refl _ _]at this;exact⟨ds,es3,b1,this,λp hp=>⟨hB (stp p) (i2 p hp).1 rfl,(i2 p hp).2⟩,i3⟩
  obtain⟨ds,es3,b1,hb1,i2,i3⟩:=hg;rw[i3 _<|Agr.refl _ _]at h;simp only at h;have hL2:∀H,(Ah (λi=>(as[i]?).getD .un) H b1 m.rs r.1).2.2<=b+16:=λH=>by
   rw[(Pl _ H (EW es3 (es2.foldl S.app s).H) m.rs b1 r.1).2];generalize Ah (λi=>(as[i]?).getD .un) (EW es3 (es2.foldl S.app s).H) b1 m.rs r.1=q at *;obtain⟨vs,H2,b2⟩:=q;simp only at h;split at h
   .rename_i hb;exact Da hb
   .cases h
  obtain⟨vs,es4,b2,l1,l2,l3⟩:=iu (F:=F) (W:=λj=>b<=j/\j<b+16) (λi=>(as[i]?).getD .un) m.rs b1 r.1 (b+16) hm.1
   (λj h1 h2=>⟨hF j (CP hb1 h1) h2,CP hb1 h1,h2⟩) hL2
  rw[l3]at h;simp only at h;split at h
  .rename_i hb;cases h;refine⟨Ln vs,es2++es3.map stp++es4.map stp,aCq l1,λe he=> ?_, ?_,λs2 h2=> ?_⟩
   .rcases BL.1 he with he|he
    .rcases BL.1 he with he|he
     .exact⟨(j1 e he).1,λob eo=>by rw[(j1 e he).2]at eo;cases eo⟩
     .obtain⟨p,hp,rfl⟩:=Bv.1 he;exact⟨(i2 p hp).1,λob eo=>by cases eo;exact(i2 p hp).2⟩
    .obtain⟨p,hp,rfl⟩:=Bv.1 he;exact⟨hW3 (stp p) (l2 p hp).1.1 (l2 p hp).1.2,λob eo=>by cases eo;exact(l2 p hp).2⟩
   .simp only[G3,jm]
   .unfold HU;simp only[SX h2 hC m.ps as has,SZ h2 hC m.ps as has,SW h2 hC m.ps as has,Xi h2 hC m.ps as has,hx,hn,hr,A6,j3 s2 h2];rw[i3 _ h2.oP];simp only[l3,hb,G3,jm]
  .cases h
 .cases h
end
end Go.VS
namespace Go.VS
open Go
section
variable {F GJ N:Nat->Prop} {WS:Step->Prop} {H H':Hp} {P:Program} {s s' s2:S} {b:Nat} {C:Cx}
def In1.mono(h:∀id,F id->GJ id){v:AV}(hv:In1 F v):In1 GJ v:=by
 cases v<;>first|exact h _ hv|exact hv
def In2.mono(h:∀id,F id->GJ id){v:AV}(hv:In2 F v):In2 GJ v:=by
 have gen:In1 F v->In2 GJ v:=λhv=> .of1<|hv.mono h;cases v<;>first|exact λc hc=>(hv c hc).mono h|exact gen hv
def In3.mono(h:∀id,F id->GJ id){v:AV}(hv:In3 F v):In3 GJ v:=by
 have gen:In2 F v->In3 GJ v:=λhv=> .of2<|hv.mono h;cases v<;>first|exact λc hc=>In2.mono h (hv c hc)|exact gen hv
def InA.mono(h:∀id,F id->GJ id){v:AV}(hv:InA F v):InA GJ v:=by
 have gen:In3 F v->InA GJ v:=λhv=> .of3<|hv.mono h;cases v with
 | gd g w v=>exact In3.mono h hv
 | _=>exact gen hv
def Agr.mono(h:∀id,F id->GJ id)(hG:Agr GJ H H'):Agr F H H':=λid hid=>hG id<|h id hid
def aD9{f:AV->AV}(hf:∀c,In1 F c->In1 F (f c)){v:AV}(h:In2 F v):In2 F (Fv f v):=by
 cases v<;>first|exact .of1 (hf _ h)|skip
 rename_i cs;intro c hc;obtain⟨c0,h0,rfl⟩:=Bv.1 hc;exact hf _<|h c0 h0
def aD8{f:AV->AV}(hf:∀c,In1 F c->In1 F (f c)){v:AV}(h:In3 F v):In3 F (GG f v):=by
 have gen:In2 F v->In3 F (Fv f v):=λh=> .of2<|aD9 hf h;cases v with
 | tup cs=>
  intro c hc;obtain⟨c0,h0,rfl⟩:=Bv.1 hc;exact aD9 hf<|h c0 h0
 | _=>exact gen h
def aaK{f:AV->AV}(hf:∀c,In1 F c->In1 F (f c)){v:AV}(h:InA F v):InA F (FC f v):=by
 have gen:In3 F v->InA F (GG f v):=λh=> .of3<|aD8 hf h;cases v with
 | gd g w v=>exact aD8 hf h
 | _=>exact gen h
def atP{x:Operand}{e:Step}(h:InA F (s.ev x)):InA F ((s.app e).ev x):=by
 cases x with
 | tmp t=>exact aaK (λc hc=>Fk.Zt _ _ hc) h
 | _=>exact h
def iz{x:Operand}:∀(es:List Step) (s:S),InA F (s.ev x)->InA F ((es.foldl S.app s).ev x)
 | [],_,h=>h
 | e::es,s,h=>iz es _ (atP h)
def atO{x:Operand}{e:Step}(h:s2.ev x=s.ev x):(s2.app e).ev x=(s.app e).ev x:=by
 cases x with
 | tmp t=>exact congrArg (FC<|e.fk.f e.id) h
 | _=>exact h
def aBN{x:Operand}:∀(es:List Step) (s s2:S),s2.ev x=s.ev x->(es.foldl S.app s2).ev x=(es.foldl S.app s).ev x
 | [],_,_,h=>h
 | e::es,s,s2,h=>aBN es _ _ (atO h)
def aAC:∀(es:List Step) (s:S),DR F s.H->(∀e∈es,Gn F e)->DR F (es.foldl S.app s).H
 | [],_,h,_=>h
 | e::es,s,h,he=>aAC es _ (h.app<|he e Am) λe' h'=>he e'<|Ai _ h'
def asO{ρ:Operand->AV}:∀(ps:List (Nat×Operand)),(∀p∈ps,InA F<|ρ p.2)->∀i∈Kk ρ ps,F i:=by
 intro ps hp i hi;obtain⟨p,h1,h2⟩:=List.mem_flatMap.1 hi;have:=hp p h1;split at h2
 .rename_i cs e;rw[e]at this;exact ab7 this i h2
 .rename_i v hn;cases hv:ρ p.2<;>rw[hv]at h2 this<;>first|(simp[H8]at h2;done)|skip
  simp[H8]at h2;subst h2;exact this
def abf(C:Cx)(F N:Nat->Prop)(WS:Step->Prop)(b:Nat)(o:Oper)(s s':S):Prop:=
 ∃(v:AV) (es:List Step),InA F v/\(∀e∈es,WS e/\Gn F e)/\s'=(es.foldl S.app s).put o.dst v/\
  ∀s2:S,(∀x∈o.op.operands,s2.ev x=s.ev x)->s2.has o.dst=s.has o.dst->Agr N s.H s2.H->CI C (AF S) o b s2 I=I ((es.foldl S.app s2).put o.dst v)
def aDX{op:Op}{kd:TypeId->Option K}{d:Option Nat}(hF:∀x∈op.operands,InA F<|s.ev x)(hN:mov op=Y\/ ∀x∈op.operands,InA N<|s.ev x)(hC:∀id ob,N id->s.H id=I ob->Ez F ob)(hb:F b)(hW:∀ob,WS ⟨b,.no,I ob⟩)
  (he:(match CA P kd s.ev s.H b op with
   | some (q,v,os)=>if q then I ({ s with H:=Et s.H b os }.put d v) else G
   | none=>G)=I s'):
  ∃(v:AV) (es:List Step),InA F v/\(∀e∈es,WS e/\Gn F e)/\s'=(es.foldl S.app s).put d v/\
   ∀s2:S,(∀x∈op.operands,s2.ev x=s.ev x)->Agr N s.H s2.H->(match CA P kd s2.ev s2.H b op with
    | some (q,v,os)=>if q then I ({ s2 with H:=Et s2.H b os }.put d v) else G
    | none=>G)=I ((es.foldl S.app s2).put d v):=by
 split at he
 .rename_i q v os hp;split at he
  .rename_i hq;cases he;obtain⟨h1,h2,h3⟩:=aCF hF hN hC hb q v os hp
   match os,h2,h3,hp with
   | [],_,_,hp=>
    refine⟨v,[],h1,by simp,rfl,λs2 e1 e2=> ?_⟩;rw[XF e1 hN e2,hp];simp only[hq,A2];rfl
   | [ob],_,h3,hp=>
    refine⟨v,[⟨b,.no,I ob⟩],h1,λe he=> ?_, ?_,λs2 e1 e2=> ?_⟩
    .simp at he;subst he;exact⟨hW ob,λob' e=>by cases e;exact h3 _ y9⟩
    .show _=S.put (s.app _) d v;rw[J7];rfl
    .rw[XF e1 hN e2,hp];simp only[hq,A2,Dr,K7,J7];rfl
   | _::_::_,h2,_,_=>simp at h2
  .cases he
 .cases he
def avi{q:Bool}{l:List Nat}{i:Nat}(h:i∈fzl q l):i∈l:=by
 cases q
 .cases h
 .exact h
def avv{o:Oper}(hop:∀x∈o.op.operands,InA F<|s.ev x)(hC:DR F s.H){i:Nat}(hi:i∈JG C s o):F i:=by
 unfold JG at hi;split at hi
 .rename_i c hc;split at hi
  .rename_i f hf;split at hi
   .rename_i m hm;have has:∀v∈c.args.toList.map s.ev,InA F v:=λv hv=>by
     obtain⟨x,hx,rfl⟩:=Bv.1 hv;refine hop x ?_;rw[hc];simp only[BU,Mz,Mx];exact .inr<|by simpa using hx
    obtain h|h:=BL.1 hi
    .exact XQ hC _ _ has i h
    .exact Sa hC _ _ has i (avi h)
   .cases hi
  .cases hi
 .cases hi
def auW{o:Oper}(hok:okO C o=Y)(hop:∀x∈o.op.operands,InA F<|s.ev x)(hCN:∀id ob,N id->s.H id=I ob->Ez F ob)(hF:∀j,b<=j->j<b+16->F j)
  (hN:∀e:Step,b<=e.id->e.id<b+16->WS e)(hW:(E3 C s o=G->(∀e:Step,F e.id->e.fk= .no->WS e)/\ ∀e:Step,e.id∈JG C s o->WS e)/\ ∀l,E3 C s o=I l->∀e:Step,e.id∈l->WS e)
  (hNF:(pur o=Y/\(mov o.op=Y\/ ∀x∈o.op.operands,InA N<|s.ev x))\/ ∀id,F id->N id)(he:CI C (AF S) o b s I=I s'):abf C F N WS b o s s':=by
 have acV:mov o.op=Y\/ ∀x∈o.op.operands,InA N (s.ev x):=by
  obtain h|h:=hNF
  .exact h.2
  .exact .inr λx hx=>(hop x hx).mono h
 have UB:pur o=A0->∀id,F id->N id:=λh=>hNF.resolve_left λh2=>by rw[h]at h2;cases h2.1
 have hCF:pur o=A0->DR F s.H:=λh id ob hid ho=>hCN id ob (UB h id hid) ho;have hFb:F b:=hF b (Ar b) J;have hWb:∀e:Step,e.id=b->WS e:=λe h=>hN e J J;unfold CI at he;split at he
 .cases he
 rename_i hd;unfold abf;have un:∀s2:S,s2.has o.dst=s.has o.dst->s2.has o.dst=Y:=λs2 h=>h.trans hd;generalize ho:o.op=op at he;rw[ho]at hop acV;have pu:(match CA C.P C.kd s.ev s.H b op with
   | some (q,v,os)=>if q then I ({ s with H:=Et s.H b os }.put o.dst v) else G
   | none=>G)=I s'->(∀s2:S,s2.has o.dst=Y->(∀x∈op.operands,s2.ev x=s.ev x)->Agr N s.H s2.H->CI C (AF S) o b s2 I=(match CA C.P C.kd s2.ev s2.H b op with
   | some (q,v,os)=>if q then I ({ s2 with H:=Et s2.H b os }.put o.dst v) else G
   | none=>G))->∃(v:AV) (es:List Step),InA F v/\(∀e∈es,WS e/\Gn F e)/\s'=(es.foldl S.app s).put o.dst v/\
  ∀s2:S,(∀x∈op.operands,s2.ev x=s.ev x)->s2.has o.dst=s.has o.dst->Agr N s.H s2.H->CI C (AF S) o b s2 I=I ((es.foldl S.app s2).put o.dst v):=by
  intro he hu;obtain⟨v,es,h1,h2,h3,h4⟩:=aDX (WS:=WS) hop acV hCN hFb (λ_=>hWb _ rfl) he;exact⟨v,es,h1,h2,h3,λs2 e1 e2 e3=>by rw[hu s2 (un s2 e2) e1 e3];exact h4 s2 e1 e3⟩
 cases op<;>try (exact pu he λs2 e1 e2 e3=>by unfold CI;simp only[e1,ho];rfl)
 case store t p x=>
  have hWF:∀e:Step,e.id∈OI s.H (s.ev p) (s.ev x)->WS e:=hW.2 _ (by simp only[E3,ho]);have hNs:=UB (by simp only[pur,ho]);have hC:=hCF (by simp only[pur,ho]);simp only at he;split at he
  .rename_i s1 hs;cases he;obtain⟨es,h1,h2,h3⟩:=arI (hop p<|by simp[BU]) (hop x<|by simp[BU]) hC hs;refine⟨Dl,es,.of1 trivial,λe he=>⟨hWF e (h1 e he).1,(h1 e he).2⟩,by rw[h2],λs2 e1 e2 e3=> ?_⟩;have:=h3 s2<|e3.mono hNs;simp only[DA,CL,true_and]at this;obtain⟨s1',hs',rfl⟩:=this;unfold CI;simp only[un s2 e2,ho,e1 p<|by simp[BU],e1 x<|by simp[BU],hs']
  .cases he
 case call c=>
  have hNs:=UB (by simp only[pur,ho]);have hC:=hCF (by simp only[pur,ho]);obtain⟨cal,⟨args⟩,⟨tys⟩⟩:=c;have Ir:∀x∈args,InA F (s.ev x):=λx hx=>hop x (by
   simp only[BU,Mz,Mx];exact .inr<|by simpa using hx)
  have nW:∀s2:S,(∀x∈(Op.call ⟨cal,⟨args⟩,⟨tys⟩⟩).operands,s2.ev x=s.ev x)->args.map s2.ev=args.map s.ev:=λs2 h=>Gg λx hx=>h x (by
   simp only[BU,Mz,Mx];exact .inr<|by simpa using hx)
  simp only at he;split at he
  .rename_i f;split at he
   .rename_i m hm;have azh:okS m=Y:=by simpa only[okO,ho,hm] using hok
    have has:∀v∈args.map s.ev,InA F v:=λv hv=>by
     obtain⟨x,hx,rfl⟩:=Bv.1 hv;exact Ir x hx
    have hcw:ac0 s.H m (args.map s.ev) b WS/\((Az m.ps).isEmpty=Y\/ ∀e:Step,F e.id->e.fk= .no->WS e):=by
     have hk:JG C s o=CZ s.H m.ps (args.map s.ev)++fzl (CO m.rs||CO (Az m.ps)) (Cr s.H m.ps<|args.map s.ev):=by simp only[JG,ho,hm]
     cases hbe:(Az m.ps).isEmpty with
     | false=>
      have aca:E3 C s o=G:=by simp only[E3,ho,hm,hbe]
      have h2:=(hW.1 aca).2;rw[hk]at h2;exact⟨⟨λe he=>h2 e<|Bw _ he,λhq e he=>h2 e<|CS _ (by rw[hq];exact he),hN⟩,.inr (hW.1 aca).1⟩
     | true=>
      have hl:E3 C s o=I (CZ s.H m.ps (args.map s.ev)++fzl (CO m.rs||CO (Az m.ps)) (Cr s.H m.ps<|args.map s.ev)):=by simp only[E3,ho,hm,hbe]
      refine⟨⟨λe hi=> ?_,λhq e hi=> ?_,hN⟩,.inl rfl⟩
      .exact hW.2 _ hl e (Bw _ hi)
      .exact hW.2 _ hl e<|CS _ (by rw[hq];exact hi)
    obtain⟨v,es,h1,h2,h3,h4⟩:=atF azh has hC hF hcw.1 hcw.2 he;refine⟨v,es,h1,h2,h3,λs2 e1 e2 e3=> ?_⟩;have:=h4 s2<|e3.mono hNs;unfold CI;simp only[un s2 e2,ho,hm,nW s2 e1];exact this
   .cases he
  .rename_i x y t u;have hWF:∀e:Step,(e.id=b\/e.id∈Ju (s.ev x))->WS e:=λe hi=>hi.elim (hWb e) (hW.2 _ (by simp only[E3,ho]) e);split at he
   .rename_i q v s1 hs;split at he
    .rename_i hq;subst hq;cases he;obtain⟨⟨es,h1,h2,h3⟩,h5⟩:=aqz (Ir x y9) (Ir y y9) hFb hs;refine⟨v,es,h5,λe he=>⟨hWF e (h1 e he).1,(h1 e he).2⟩,by rw[h2],λs2 e1 e2 e3=> ?_⟩;have:=h3 s2<|e3.mono hNs;obtain⟨⟨q',v',s1'⟩,hs',e'⟩:=DA.1 this;cases e';unfold CI;have ea:=nW s2 e1;simp only[DO,JM,Lt,and_true]at ea;simp only[un s2 e2,ho,ea.1,ea.2,hs',A2]
    .cases he
   .cases he
  .rename_i x y t u;have hWF:∀e:Step,e.id∈Ju (s.ev x)->WS e:=hW.2 _ (by simp only[E3,ho]);split at he
   .rename_i v s1 hs;cases he;obtain⟨⟨es,h1,h2,h3⟩,h5⟩:=avM (Ir x y9) (Ir y y9) hs;refine⟨v,es,h5,λe he=>⟨hWF e (h1 e he).1,(h1 e he).2⟩,by rw[h2],λs2 e1 e2 e3=> ?_⟩;have hs':=h3 s2<|e3.mono hNs;unfold CI;have ea:=nW s2 e1;simp only[DO,JM,Lt,and_true]at ea;simp only[un s2 e2,ho,ea.1,ea.2,hs']
   .cases he
  .rename_i n1 n2 n3;refine pu he λs2 e1 e2 e3=> ?_;unfold CI;simp only[e1,ho];split<;>first|exact(n1 _ rfl).elim|exact(n2 _ _ _ _ rfl rfl rfl).elim|exact(n3 _ _ _ _ rfl rfl rfl).elim|(rename_i h;simp only[h];done)|rfl
 case slice t x lo hi mx=>
  have hNs:=UB (by simp only[pur,ho]);have hC:=hCF (by simp only[pur,ho]);cases mx with
  | some m=>exact pu he λs2 e1 e2 e3=>by unfold CI;simp only[e1,ho];rfl
  | none=>
   have hx:=hop x (by simp[BU]);have elo:∀s2:S,(∀x_1∈(Op.slice t x lo hi G).operands,s2.ev x_1=s.ev x_1)->lo.map s2.ev=lo.map s.ev:=λs2 h=>by
    cases lo with
    | none=>rfl
    | some l=>exact congrArg I<|h l<|by simp[BU]
   have ehi:∀s2:S,(∀x_1∈(Op.slice t x lo hi G).operands,s2.ev x_1=s.ev x_1)->hi.map s2.ev=hi.map s.ev:=λs2 h=>by
    cases hi with
    | none=>rfl
    | some l=>exact congrArg I<|h l<|by simp[BU]
   simp only at he;split at he
   .rename_i id hid;split at he
    .cases he
    rename_i hf;have hWF:∀e:Step,e.id=id->WS e:=λi e=>hW.2 (Ju<|s.ev x) (by simp only[E3,ho]) i (by rw[hid,e];simp[Ju,H8]);rw[hid]at hx;split at he
    .rename_i q v s1 hs;split at he
     .rename_i hq;subst hq;cases he;obtain⟨⟨es,h1,h2,h3⟩,h5⟩:=apG (F:=F) hx hs;refine⟨v,es,h5,λe he=>⟨hWF e (h1 e he).1,(h1 e he).2⟩,by rw[h2],λs2 e1 e2 e3=> ?_⟩;have:=h3 s2<|e3.mono hNs;obtain⟨⟨q',v',s1'⟩,hs',e'⟩:=DA.1 this;cases e';unfold CI;have ex:s2.ev x= .own id:=(e1 x<|by simp[BU]).trans hid;have hf2:Iz C.P s2.H t (.own id)=Y:=by rw[zd (F:=F) hx<|e3.mono hNs];exact hf
      simp only[un s2 e2,ho,ex,hf2,elo s2 e1,ehi s2 e1,hs',A2]
     .cases he
    .cases he
   .rename_i hn;refine pu he λs2 e1 e2 e3=> ?_;unfold CI;simp only[e1,ho];have ex:s2.ev x=s.ev x:=e2 x (by simp[BU]);rw[ex];split
    .rename_i id hid;exact absurd hid (hn id)
    .rfl
 case buildSlice t n ps=>
  have hNs:=UB (by simp only[pur,ho]);have hC:=hCF (by simp only[pur,ho]);simp only at he;have hps:∀p∈ps.toList,InA F (s.ev p.2):=λp hp=>hop p.2 (by
   simp only[BU,TV,Bv];exact⟨p,hp,rfl⟩)
  have P5:=asO ps.toList hps;obtain⟨es1,j1,j2,j3⟩:=WJ (F:=F) (Kk s.ev ps.toList) s P5;rw[j2]at he;obtain⟨v,es,h1,h2,h3,h4⟩:=aDX (WS:=WS) (N:=F) (s:=es1.foldl S.app s) (op:= .buildSlice t n ps) (λx hx=>iz es1 s<|hop x hx) (.inr λx hx=>iz es1 s<|hop x hx) (aAC es1 s hC λe he ob eo=>by rw[(j1 e he).2]at eo;cases eo) hFb (λ_=>hWb _ rfl) he;refine⟨v,es1++es,h1,λe he=> ?_,by rw[h3,G3],λs2 e1 e2 e3=> ?_⟩
  .rcases BL.1 he with he|he
   .refine⟨?_,λob eo=>by rw[(j1 e he).2]at eo;cases eo⟩;have hi:=(j1 e he).1;exact hW.2 _ (by simp only[E3,ho]) e hi
   .exact h2 e he
  .unfold CI;have eo:Kk s2.ev ps.toList=Kk s.ev ps.toList:=asN _ λp hp=>e1 p.2 (by
    simp only[BU,TV,Bv];exact⟨p,hp,rfl⟩)
   simp only[un s2 e2,ho,eo];rw[j3 s2<|e3.mono hNs,G3];exact h4 _ (λx hx=>aBN es1 s s2<|e1 x hx)<|Agr.oP<|e3.mono hNs
end
end Go.VS
namespace Go.VS
open Go
abbrev ev1(C:Cx)(ops:Array Oper)(o:Oper)(b:Nat)(s:S):Option S:=evG C (AF S) ops o b s I
def S.fin(s:S)(g:Option Nat)(d:Option Nat)(v:AV):S:={ s.put d v with gs:=match g with
 | some g=>upd s.gs g Y
 | none=>s.gs }
def KD(s s2:S)(d:Option Nat):Prop:=s2.n=s.n/\s2.pins=s.pins/\ ∀t,d=I t->s2.gs t=s.gs t
section
variable {F N:Nat->Prop} {WS:Step->Prop} {H H':Hp} {P:Program} {s s' s2:S} {b:Nat} {C:Cx} {ρ ρ':Operand->AV}
def KD.has{d:Option Nat}(h:KD s s2 d):s2.has d=s.has d:=by
 cases d with
 | none=>rfl
 | some t=>simp only[S.has,h.1,h.2.1,h.2.2 t rfl]
def KD.more{d:Option Nat}(h:KD s s2 d)(g:Nat):({ s2 with gs:=upd s2.gs g Y } :S).has d=({ s with gs:=upd s.gs g Y } :S).has d:=by
 cases d with
 | none=>rfl
 | some t=>
  have:upd s2.gs g Y t=upd s.gs g Y t:=by
   by_cases e:t=g
   .subst e;rw[Be,Be]
   .rw[BB _ _ e,BB _ _ e];exact h.2.2 t rfl
  simp only[S.has,h.1,h.2.1,this]
def at0{g:Nat}{want:Bool}{v:AV}(h:InA F v):InA F (Ge g want v):=by
 unfold Ge;split
 .split
  .exact .of3 h
  .exact h
 .exact h
def Yq(v:Value):InA F (ofV v):=by
 unfold ofV;split
 .split
  .refine .of2 λc hc=> ?_;obtain⟨x,_,rfl⟩:=Bv.1 hc;trivial
  .exact .of1 trivial
 .exact .of1 trivial
def awf{d:Option Nat}{op:Op}(hρ:∀x∈op.operands,ρ' x=ρ x)(hF:∀x∈op.operands,InA F<|ρ x)(hC:DR F H)(hH:Agr F H H'):spA C b d ρ' H' op=spA C b d ρ H op:=by
 unfold spA;split
 .rename_i c;obtain⟨cal,⟨args⟩,⟨tys⟩⟩:=c;have ea:args.map ρ'=args.map ρ:=Gg λx hx=>hρ x (by
   simp only[BU,Mz,Mx];exact .inr<|by simpa using hx)
  have has:∀v∈args.map ρ,InA F v:=λv hv=>by
   obtain⟨x,hx,rfl⟩:=Bv.1 hv;exact hF x (by
    simp only[BU,Mz,Mx];exact .inr<|by simpa using hx)
  have hc:JA C.P ρ' H' ⟨cal,⟨args⟩,⟨tys⟩⟩=JA C.P ρ H ⟨cal,⟨args⟩,⟨tys⟩⟩:=aEb (F:=F) (λx hx=>hρ x (by
   simp only[BU,Mz,Mx];exact .inr<|by simpa using hx)) (λx hx=>hF x (by
   simp only[BU,Mz,Mx];exact .inr<|by simpa using hx)) hH
  split
  .rename_i f as _;simp only at *;congr 1;funext m;simp only[ea,SW hH hC m.ps _ has,SZ hH hC m.ps _ has,SX hH hC m.ps _ has];split
   .congr 1;funext x;rw[(Pl _ H' H m.rs b ((m.g x).getD (Lk m.rs,Lk<|Az m.ps)).1).1]
   .rfl
  .rfl
  .rfl
  .rw[hc]
 .rfl
 .rfl
 .rename_i t x lo hi;rw[hρ x<|by simp[BU],XF hρ (.inr hF) hH]
 .rw[XF hρ (.inr hF) hH]
def awg{o:Oper}{q:Bool}{v:AV}(hok:okO C o=Y)(hF:∀x∈o.op.operands,InA F<|ρ x)(hC:DR F H)(hb:∀j,b<=j->j<b+16->F j)(h:spA C b o.dst ρ H o.op=I (q,v)):InA F v:=by
 have hFb:F b:=hb b (Ar b) J;unfold spA at h;unfold okO at hok;generalize ho:o.op=op at h hok hF;have pu:(match CA C.P C.kd ρ H b op with
  | some (q,v,[])=>I (q,v)
  | _=>G)=I (q,v)->InA F v:=by
  intro h;split at h
  .rename_i hp;cases h;exact(aCF hF (.inr hF) hC hFb _ _ _ hp).1
  .cases h
 split at h
 .rename_i c;obtain⟨cal,⟨args⟩,⟨tys⟩⟩:=c;simp only at h hok;split at h
  .rename_i f;obtain⟨m,hm,h⟩:=Ag.1 h;split at h
   .rename_i hc;obtain⟨x,hx,h⟩:=Ag.1 h;simp only[Bs,CL]at h;obtain⟨_,h⟩:=h;generalize (m.g x).getD (Lk m.rs,Lk<|Az m.ps)=r at h;rw[← h];simp only[hm,okS,AD]at hok;simp only[AD]at hc;have hbn:∀H0,(Ah (λi=>((args.map ρ)[i]?).getD .un) H0 b m.rs r.1).2.2<=b+16:=λH0=>by
     have:=Wt (λi=>((args.map ρ)[i]?).getD .un) H0 b m.rs r.1 hc.1.1.1;rw[this];exact Yf b 16
    obtain⟨vs,es,b',h1,h2,h3⟩:=iu (F:=F) (W:=F) (λi=>((args.map ρ)[i]?).getD .un) m.rs b r.1 (b+16) hok.1 (λj h1 h2=>⟨hb j h1 h2,hb j h1 h2⟩) hbn;rw[h3];exact aCq h1
   .cases h
  .cases h
  .cases h
  .split at h
   .rename_i hp;cases h;exact(aDf _ _ _ _ hp).1
   .cases h
 .cases h
 .cases h
 .split at h
  .cases h
  .exact pu h
 .exact pu h
def abi(C:Cx)(ops:Array Oper)(F N:Nat->Prop)(WS:Step->Prop)(b:Nat)(o:Oper)(s s':S):Prop:=
 ∃(g:Option Nat) (v:AV) (es:List Step),InA F v/\(∀e∈es,WS e/\Gn F e)/\(∀x,g=I x->x∈DD ops o)/\s'=(es.foldl S.app s).fin g o.dst v/\
  ∀s2:S,(∀t∈DD ops o,s2.T t=s.T t)->KD s s2 o.dst->Agr N s.H s2.H->ev1 C ops o b s2=I ((es.foldl S.app s2).fin g o.dst v)
def mF:∀(es:List Step) (s:S),(es.foldl S.app s).gs=s.gs/\(es.foldl S.app s).n=s.n/\(es.foldl S.app s).pins=s.pins/\(es.foldl S.app s).nid=s.nid
 | [],_=>⟨rfl,rfl,rfl,rfl⟩
 | e::es,s=>mF es (s.app e)
def O2(s:S)(d:Option Nat)(v:AV):s.fin G d v=s.put d v:=by
 cases d<;>rfl
def aaV{α:Type}(f:Nat->α)(i:Nat)(v:α)(h:f i=v):upd f i v=f:=by
 funext j;by_cases e:j=i
 .subst e;rw[Be,h]
 .rw[BB _ _ e]
def S8{ops:Array Oper}{o:Oper}{t:Nat}(h:Operand.tmp t∈o.op.operands):t∈o.looksAt ops:=
 Bw _ (GO.2 ⟨.tmp t,by simpa using h,rfl⟩)
def aAR{ops:Array Oper}{o:Oper}{j g:Nat}{want:Bool}(hg:o.guard=I (j,want))(h:(ops[j]?).bind (·.dst)=I g):g∈o.looksAt ops:=by
 refine CS _ ?_;rw[hg];simp[h]
def aDz{ops:Array Oper}:∀(n:Nat) (o:Oper),(∀t∈Yl ops n o,s2.T t=s.T t)->Lr ops s2 n o=Lr ops s n o
 | 0,_,_=>rfl
 | n+1,o,h=>by
  unfold Lr;unfold Yl at h;cases hg:o.guard with
  | none=>rfl
  | some jw=>
   obtain⟨j,want⟩:=jw;rw[hg]at h;simp only at h ⊢;cases hj:ops[j]? with
   | none=>rfl
   | some oj=>
    rw[hj]at h;simp only at h;simp only[A6];cases hd:oj.dst with
    | none=>rfl
    | some g=>
     rw[hd]at h;simp only[A6,h g y9,aDz n oj λt ht=>h t<|CS _ ht]
def avs{ops:Array Oper}{o:Oper}(hok:okO C o=Y)(hrd:∀t∈DD ops o,InA F<|s.T t)(hCN:∀id ob,N id->s.H id=I ob->Ez F ob)(hF:∀j,b<=j->j<b+16->F j)
  (hN:∀e:Step,b<=e.id->e.id<b+16->WS e)(hW:(E3 C s o=G->(∀e:Step,F e.id->e.fk= .no->WS e)/\ ∀e:Step,e.id∈JG C s o->WS e)/\ ∀l,E3 C s o=I l->∀e:Step,e.id∈l->WS e)
  (hNF:(pur o=Y/\o.guard=G/\(mov o.op=Y\/ ∀t∈DD ops o,InA N<|s.T t))\/ ∀id,F id->N id)(he:ev1 C ops o b s=I s'):abi C ops F N WS b o s s':=by
 have hop:∀x∈o.op.operands,InA F (s.ev x):=λx hx=>by
  cases x with
  | tmp t=>exact hrd t<|Bw _<|S8 hx
  | const v=>exact Yq v
  | _=>exact .of1 trivial
 have eop:∀s2:S,(∀t∈DD ops o,s2.T t=s.T t)->∀x∈o.op.operands,s2.ev x=s.ev x:=λs2 h x hx=>by
  cases x with
  | tmp t=>exact h t<|Bw _<|S8 hx
  | _=>rfl
 have HS:CI C (AF S) o b s I=I s'->∃(v:AV) (es:List Step),InA F v/\(∀e∈es,WS e/\Gn F e)/\s'=(es.foldl S.app s).put o.dst v/\
  ∀s2:S,(∀x∈o.op.operands,s2.ev x=s.ev x)->s2.has o.dst=s.has o.dst->Agr N s.H s2.H->CI C (AF S) o b s2 I=I ((es.foldl S.app s2).put o.dst v):=
  λh=>auW hok hop hCN hF hN hW (hNF.imp (λh=>⟨h.1,h.2.2.imp id λh x hx=>by
   cases x with
   | tmp t=>exact h t<|Bw _<|S8 hx
   | const v=>exact Yq v
   | _=>exact .of1 trivial⟩) id) h
 unfold ev1 evG at he;unfold abi ev1;split at he
 .rename_i hg;obtain⟨v,es,h1,h2,h3,h4⟩:=HS he;refine⟨G,v,es,h1,h2,nofun,by rw[O2];exact h3,λs2 e1 e2 e3=> ?_⟩;unfold evG;rw[hg,O2];exact h4 s2 (eop s2 e1) e2.has e3
 .rename_i j want hg;have hNs:∀id,F id->N id:=hNF.resolve_left λh=>by rw[hg]at h;cases h.2.1
  have hC:DR F s.H:=λid ob hid ho=>hCN id ob (hNs id hid) ho;split at he
  .cases he
  .rename_i g hgd hsp;have hgl:g∈DD ops o:=Bw _<|aAR hg hgd;split at he
   .rename_i qq v Ec hv;split at he
    .rename_i hn;split at he
     case isFalse=>cases he
     rename_i oI;cases he;have opn:∀x∈o.op.operands,InA F ((s.narrow g want).ev x):=λx hx=>by
      cases x with
      | tmp t=>
       show InA F (upd (λt=>Ge g want<|s.T t) g (.b want) t);by_cases e:t=g
       .subst e;rw[Be];exact .of1 trivial
       .rw[BB _ _ e];exact at0<|hrd t<|Bw _<|S8 hx
      | const v=>exact Yq v
      | _=>exact .of1 trivial
     have hvF:InA F v:=awg hok opn hC hF hv;have azM:InA F (.gd g want v):=by
      show In3 F v;cases v<;>first|(cases hn;done)|exact hvF
     refine⟨I g,.gd g want v,[],azM,by simp,λx hx=>by cases hx;exact hgl,rfl,λs2 e1 e2 e3=> ?_⟩;unfold evG;rw[hg];simp only[hgd,hsp];have e4:({ s2 with gs:=upd s2.gs g Y } :S).has o.dst=Y:=by rw[e2.more g];exact Ec
     have e5:spA C b o.dst (s2.narrow g want).ev s2.H o.op=I (qq,v):=by
      rw[awf (ρ:=(s.narrow g want).ev) (H:=s.H) (F:=F) (λx hx=> ?_) opn hC<|e3.mono hNs]
      .exact hv
      .cases x with
       | tmp t=>
        show upd (λt=>Ge g want<|s2.T t) g (.b want) t=upd (λt=>Ge g want<|s.T t) g (.b want) t;by_cases e:t=g
        .subst e;rw[Be,Be]
        .rw[BB _ _ e,BB _ _ e,e1 t<|Bw _<|S8 hx]
       | _=>rfl
     have e6:Lr ops s2 4 o=Lr ops s 4 o:=aDz 4 o λt ht=>e1 t<|CS _ ht;rw[e4,e5];simp only[hn,e6,oI,A2];rfl
    .cases he
   .cases he
  .rename_i g hgd hsp;have hgl:g∈DD ops o:=Bw _<|aAR hg hgd;split at he
   .rename_i c hT;have same:∀(s0:S) (w:Bool),s0.T g= .lit (.bool c)->c=w->({ s0 with T:=upd s0.T g (.b w) } :S)=s0:=λs0 w h e=>by
     subst e;rw[aaV _ _ _ h]
    have yes:CI C (AF S) o b { s with T:=upd s.T g (.b want) } I=I s'->c=want->
      ∃(gg:Option Nat) (v:AV) (es:List Step),InA F v/\(∀e∈es,WS e/\Gn F e)/\(∀x,gg=I x->x∈DD ops o)/\s'=(es.foldl S.app s).fin gg o.dst v/\
       ∀s2:S,(∀t∈DD ops o,s2.T t=s.T t)->KD s s2 o.dst->Agr N s.H s2.H->evG C (AF S) ops o b s2 I=I ((es.foldl S.app s2).fin gg o.dst v):=by
     intro he e;rw[same s want hT e]at he;obtain⟨v,es,h1,h2,h3,h4⟩:=HS he;refine⟨G,v,es,h1,h2,nofun,by rw[O2];exact h3,λs2 e1 e2 e3=> ?_⟩;have hT2:s2.T g= .lit (.bool c):=(e1 g hgl).trans hT;have:=h4 s2 (eop s2 e1) e2.has e3;unfold evG;rw[hg,O2];simp only[hgd,hsp,hT2];have e5:=same s2 want hT2 e;subst e;cases c<;>simp only[A2,if_false,Ha]<;>rw[e5]<;>exact this
    have no:(match s.has o.dst with
      | true=>I (({ s with T:=upd s.T g (.b<|!want) } :S).put o.dst Dl)
      | false=>G)=I s'->c= !want->
      ∃(gg:Option Nat) (v:AV) (es:List Step),InA F v/\(∀e∈es,WS e/\Gn F e)/\(∀x,gg=I x->x∈DD ops o)/\s'=(es.foldl S.app s).fin gg o.dst v/\
       ∀s2:S,(∀t∈DD ops o,s2.T t=s.T t)->KD s s2 o.dst->Agr N s.H s2.H->evG C (AF S) ops o b s2 I=I ((es.foldl S.app s2).fin gg o.dst v):=by
     intro he e;rw[same s _ hT e]at he;split at he
     .rename_i Ec;cases he;refine⟨G,Dl,[],.of1 trivial,by simp,nofun,by rw[O2];rfl,λs2 e1 e2 e3=> ?_⟩;have hT2:s2.T g= .lit (.bool c):=(e1 g hgl).trans hT;have hh2:=e2.has.trans Ec;unfold evG;rw[hg,O2];simp only[hgd,hsp,hT2];have e5:=same s2 _ hT2 e;subst e;cases want<;>simp only[AA,AG]at e5<;>simp only[AA,AG,A2,if_false,Ha,hh2]<;>rw[e5]<;>rfl
     .cases he
    cases want<;>cases c<;>simp only[A2,if_false,Ha]at he
    .exact yes he rfl
    .exact no he rfl
    .exact no he rfl
    .exact yes he rfl
   .rename_i vs hT;split at he
    .rename_i Ec;cases he;refine⟨G,Dl,[],.of1 trivial,by simp,nofun,by rw[O2];rfl,λs2 e1 e2 e3=> ?_⟩;have hT2:s2.T g= .lit (.tuple vs):=(e1 g hgl).trans hT;have hh2:=e2.has.trans Ec;unfold evG;rw[hg,O2];simp only[hgd,hsp,hT2,hh2];rfl
    .cases he
   .cases he
end
end Go.VS
namespace Go.VS
open Go
section
variable {F GJ N:Nat->Prop} {H H':Hp} {P:Program} {s s' s2:S} {b:Nat} {C:Cx}
def Gn.mono(h:∀id,F id->GJ id){e:Step}(he:Gn F e):Gn GJ e:=λob eo=>by
 have:=he ob eo;cases ob<;>first|trivial|exact λc hc=>(this c hc).mono h
def Fk.ayd(id:Nat)(fk:Fk){c:AV}(h:In1 F c)(hn:¬F id):fk.f id c=c:=by
 have ne:∀j,F j->Af j id=A0:=λj hj=>by
  cases e:Af j id with
  | false=>rfl
  | true=>exact absurd (Bk e▸hj) hn
 cases fk with
 | no=>rfl
 | kl=>
  cases c<;>first|rfl|(simp only[Fk.f,kl1,ne _ h];done)
 | fz k xs=>
  cases c<;>first|rfl|(simp only[Fk.f,fz1,ne _ h];done)
def aAh{f:AV->AV}(hf:∀c,In1 F c->f c=c){v:AV}(h:In2 F v):Fv f v=v:=by
 cases v<;>first|exact hf _ h|skip
 rename_i cs;exact congrArg AV.agg<|(Gg λc hc=>hf c<|h c hc).trans<|ku cs
def aAt{f:AV->AV}(hf:∀c,In1 F c->f c=c){v:AV}(h:In3 F v):GG f v=v:=by
 have gen:In2 F v->Fv f v=v:=λh=>aAh hf h;cases v<;>first|exact gen h|skip
 rename_i cs;exact congrArg AV.tup<|(Gg λc hc=>aAh hf<|h c hc).trans<|ku cs
def ja{f:AV->AV}(hf:∀c,In1 F c->f c=c){v:AV}(h:InA F v):FC f v=v:=by
 have gen:In3 F v->GG f v=v:=λh=>aAt hf h;cases v with
 | gd g w v=>exact congrArg (AV.gd g w)<|aAt hf h
 | _=>exact gen h
def jZ{f:AV->AV}(hf:∀c,In1 F c->f c=c){o:Option Ob}(h:∀ob,o=I ob->Ez F ob):CH f o=o:=by
 cases o with
 | none=>rfl
 | some ob=>
  have:=h ob rfl;cases ob<;>first|rfl|skip
  rename_i e cs;exact congrArg (λl=>I<|Ob.box e l)<|(Gg λc hc=>hf c<|this c hc).trans<|ku cs
def Fk.Qu{e:Step}{c:AV}(h:In1 F c)(hn:e.fk= .no\/ ¬F e.id):e.fk.f e.id c=c:=by
 obtain hn|hn:=hn
 .rw[hn];rfl
 .exact Fk.ayd _ _ h hn
def ia{t:Nat}:∀(es:List Step) (s:S),(∀e∈es,e.fk= .no\/ ¬F e.id)->InA F (s.T t)->(es.foldl S.app s).T t=s.T t
 | [],_,_,_=>rfl
 | e::es,s,h,ht=>by
  have h1:(s.app e).T t=s.T t:=ja (λc hc=>Fk.Qu hc<|h e Am) ht;show(es.foldl S.app<|s.app e).T t=s.T t;rw[ia es _ (λe' he=>h e'<|Ai _ he) (by rw[h1];exact ht),h1]
def On(N F:Nat->Prop)(H:Hp):Prop:=∀id ob,N id->H id=I ob->Ez F ob
def ib:∀(es:List Step) (s:S),(∀e∈es,¬N e.id/\(e.fk= .no\/ ¬F e.id))->On N F s.H->Agr N s.H (es.foldl S.app s).H
 | [],_,_,_=>Agr.refl _ _
 | e::es,s,h,hC=>by
  have h1:Agr N s.H (s.app e).H:=λid hid=>by
   rw[L5,A9 fun(e':id=e.id)=>(h e Am).1<|e'▸hid];exact jZ (λc hc=>Fk.Qu hc (h e Am).2) λob ho=>hC id ob hid ho
  have hC1:On N F (s.app e).H:=λid ob hid ho=>hC id ob hid (by rw[← h1 id hid];exact ho);intro id hid;show(es.foldl S.app<|s.app e).H id=s.H id;rw[ib es _ (λe' he=>h e'<|Ai _ he) hC1 id hid,h1 id hid]
def aBO:∀(es:List Step) (s:S),(∀e∈es,Gn F e\/ ¬N e.id)->On N F s.H->On N F (es.foldl S.app s).H
 | [],_,_,h=>h
 | e::es,s,h,hC=>by
  refine aBO es (s.app e) (λe' he=>h e'<|Ai _ he) ?_;intro id ob hid ho;rw[L5]at ho;split at ho
  .rename_i e';obtain h1|h1:=h e Am
   .exact h1 ob ho
   .exact absurd (e'▸hid) h1
  .exact aaJ (λc hc=>Fk.Zt _ _ hc) (λob ho=>hC id ob hid ho) ob ho
def aAD{id:Nat}:∀(es:List Step) (s:S),(∀e∈es,e.id≠id)->s.H id=G->(es.foldl S.app s).H id=G
 | [],_,_,h=>h
 | e::es,s,hn,h=>by
  refine aAD es _ (λe' he=>hn e'<|Ai _ he) ?_;rw[L5,A9 λe'=>hn e Am e'.symm,h];rfl
def jn{t:Nat}:∀(es:List Step) (s:S),InA F (s.T t)->InA F ((es.foldl S.app s).T t)
 | [],_,h=>h
 | e::es,s,h=>jn es (s.app e) (aaK (λc hc=>Fk.Zt _ _ hc) h)
def Fk.Tx{i j:Nat}(h:i≠j)(f g:Fk)(c:AV):f.f i (g.f j c)=g.f j (f.f i c):=by
 have h1:Af i j=A0:=by rw[← GL,HF];exact h
 have h2:Af j i=A0:=by rw[← GL,HF];exact L0 h
 have key:∀id,(Af id i=Y->Af id j=A0):=λid e=>by rw[Bk e];exact h1
 cases c with
 | own id=>
  cases f<;>cases g<;>simp only[Fk.f,kl1,fz1]<;>cases e1:Af id i<;>cases e2:Af id j<;>simp only[e1,e2]<;>
   first|rfl|(rw[key id e1]at e2;cases e2)
 | ptr id z a o=>
  cases f<;>cases g<;>simp only[Fk.f,kl1,fz1]<;>cases e1:Af id i<;>cases e2:Af id j<;>simp only[e1,e2]<;>
   first|rfl|(rw[key id e1]at e2;cases e2)
 | _=>cases f<;>cases g<;>rfl
def plA:AV->Bool
 | .agg _=>A0
 | .tup _=>A0
 | .gd _ _ _=>A0
 | _=>Y
def Qh(id:Nat)(fk:Fk){c:AV}(h:plA c=Y):plA (fk.f id c)=Y:=by
 cases fk with
 | no=>exact h
 | kl=>
  cases c<;>first|exact h|skip
  .simp only[Fk.f,kl1];split<;>rfl
  .simp only[Fk.f,kl1];split<;>rfl
 | fz k xs=>
  cases c<;>first|exact h|skip
  .simp only[Fk.f,fz1];split<;>rfl
  .simp only[Fk.f,fz1];split<;>rfl
def XO{f:AV->AV}{c:AV}(h:plA c=Y):Fv f c=f c:=by cases c<;>first|rfl|cases h
def XN{f:AV->AV}{c:AV}(h:plA c=Y):GG f c=f c:=by cases c<;>first|rfl|cases h
def Xr{f:AV->AV}{c:AV}(h:plA c=Y):FC f c=f c:=by cases c<;>first|rfl|cases h
section comm
variable {i j:Nat} (hij:i≠j) (f g:Fk)
include hij
def iv(v:AV):Fv (f.f i) (Fv (g.f j) v)=Fv (g.f j) (Fv (f.f i) v):=by
 by_cases hp:plA v=Y
 .rw[XO hp,XO hp,XO<|Qh _ _ hp,XO<|Qh _ _ hp,Fk.Tx hij]
 .cases v with
  | agg cs=>simp only[Fv,IE];exact congrArg AV.agg<|Gg λc _=>Fk.Tx hij f g c
  | tup cs=>cases f<;>cases g<;>rfl
  | gd a b c=>cases f<;>cases g<;>rfl
  | _=>exact absurd rfl hp
def aAu(v:AV):GG (f.f i) (GG (g.f j) v)=GG (g.f j) (GG (f.f i) v):=by
 by_cases hp:plA v=Y
 .rw[XN hp,XN hp,XN<|Qh _ _ hp,XN<|Qh _ _ hp,Fk.Tx hij]
 .cases v with
  | agg cs=>exact iv hij f g<|.agg cs
  | tup cs=>simp only[GG,IE];exact congrArg AV.tup<|Gg λc _=>iv hij f g c
  | gd a b c=>cases f<;>cases g<;>rfl
  | _=>exact absurd rfl hp
def aCR(v:AV):FC (f.f i) (FC (g.f j) v)=FC (g.f j) (FC (f.f i) v):=by
 by_cases hp:plA v=Y
 .rw[Xr hp,Xr hp,Xr<|Qh _ _ hp,Xr<|Qh _ _ hp,Fk.Tx hij]
 .cases v with
  | agg cs=>exact iv hij f g<|.agg cs
  | tup cs=>exact aAu hij f g<|.tup cs
  | gd a b c=>exact congrArg (AV.gd a b)<|aAu hij f g c
  | _=>exact absurd rfl hp
def arq(o:Option Ob):CH (f.f i) (CH (g.f j) o)=CH (g.f j) (CH (f.f i) o):=by
 cases o with
 | none=>rfl
 | some o=>
  cases o with
  | box e cs=>simp only[CH,IE];exact congrArg (λl=>I<|Ob.box e l)<|Gg λc _=>Fk.Tx hij f g c
  | _=>rfl
end comm
def S.ext'{s s':S}(h1:s.n=s'.n)(h2:s.T=s'.T)(h3:s.H=s'.H)(h4:s.nid=s'.nid)(h5:s.st=s'.st)(h6:s.pins=s'.pins)(h7:s.gs=s'.gs):s=s':=by
 cases s;cases s';simp_all
def avX{e e':Step}(hn:e.id≠e'.id)(h1:CH (e'.fk.f e'.id) e.ob=e.ob)(h2:CH (e.fk.f e.id) e'.ob=e'.ob):(s.app e).app e'=(s.app e').app e:=by
 refine S.ext' rfl (funext λt=>aCR hn.symm e'.fk e.fk (s.T t)) (funext λid=> ?_) rfl ?_ rfl rfl
 .rw[L5,L5,L5,L5];by_cases a1:id=e'.id
  .subst a1;rw[A5 rfl,A9 hn.symm,A5 rfl,h2]
  .rw[A9 a1,A9 a1];by_cases a2:id=e.id
   .rw[A5 a2,A5 a2,h1]
   .rw[A9 a2,A9 a2,arq hn.symm e'.fk e.fk]
 .show(s.st.map _).map _=(s.st.map _).map _;rw[IE,IE];exact Gg λT _=>funext λt=>aCR hn.symm e'.fk e.fk (T t)
def WkS(F W K:Nat->Prop)(e:Step):Prop:=(W e.id/\(e.fk= .no\/K e.id))/\Gn F e
def Wk(F W K:Nat->Prop)(es:List Step):Prop:=∀e∈es,WkS F W K e
def z7{F F' W W' K K':Nat->Prop}(hW:∀id,W id->¬W' id)(h1:∀id,K id->¬F' id)(h2:∀id,K' id->¬F id){e:Step}(he:WkS F W K e):∀(es:List Step) (s:S),Wk F' W' K' es->(es.foldl S.app s).app e=es.foldl S.app (s.app e)
 | [],_,_=>rfl
 | e'::es,s,h=>by
  have he':=h e' Am;have hn:e.id≠e'.id:=λx=>hW _ he.1.1<|x▸he'.1.1;have c:=avX (s:=s) hn (jZ (F:=F) (λc hc=>Fk.Qu hc<|he'.1.2.imp id<|h2 _) he.2) (jZ (F:=F') (λc hc=>Fk.Qu hc<|he.1.2.imp id<|h1 _) he'.2);show(es.foldl S.app<|s.app e').app e=es.foldl S.app ((s.app e).app e');rw[z7 hW h1 h2 he es _ λe0 h0=>h e0<|Ai _ h0,c]
def aCY{F F' W W' K K':Nat->Prop}(hW:∀id,W id->¬W' id)(h1:∀id,K id->¬F' id)(h2:∀id,K' id->¬F id):∀(es es':List Step) (s:S),Wk F W K es->Wk F' W' K' es'->es.foldl S.app (es'.foldl S.app s)=es'.foldl S.app (es.foldl S.app s)
 | [],_,_,_,_=>rfl
 | e::es,es',s,h,h'=>by
  show es.foldl S.app ((es'.foldl S.app s).app e)=es'.foldl S.app (es.foldl S.app<|s.app e);rw[z7 hW h1 h2 (h e Am) es' s h',aCY hW h1 h2 es es' _ (λe0 h0=>h e0<|Ai _ h0) h']
def aws{e:Step}{g d:Option Nat}{v:AV}(hv:FC (e.fk.f e.id) v=v):(s.fin g d v).app e=(s.app e).fin g d v:=by
 cases d with
 | none=>exact S.ext' rfl rfl rfl rfl rfl rfl rfl
 | some d=>
  refine S.ext' rfl (funext λt=> ?_) rfl rfl rfl rfl rfl;show FC _ (upd s.T d v t)=upd (λt=>FC _<|s.T t) d v t;by_cases e:t=d
  .subst e;rw[Be,Be,hv]
  .rw[BB _ _ e,BB _ _ e]
def lX{g d:Option Nat}{v:AV}:∀(es:List Step) (s:S),(∀e∈es,FC (e.fk.f e.id) v=v)->es.foldl S.app (s.fin g d v)=(es.foldl S.app s).fin g d v
 | [],_,_=>rfl
 | e::es,s,h=>by
  show es.foldl S.app ((s.fin g d v).app e)=(es.foldl S.app<|s.app e).fin g d v;rw[aws<|h e Am,lX es _ λe' h'=>h e'<|Ai _ h']
def auU{g g' d d':Option Nat}{v v':AV}(hd:∀t,d=I t->d'≠I t):(s.fin g d v).fin g' d' v'=(s.fin g' d' v').fin g d v:=by
 have hT:∀(d d':Nat) (v v':AV) (T:Nat->AV),d≠d'->upd (upd T d v) d' v'=upd (upd T d' v') d v:=λd d' v v' T hn=>by
  funext t;by_cases e:t=d'
  .subst e;rw[Be,BB _ _ hn.symm,Be]
  .rw[BB _ _ e];by_cases e2:t=d
   .subst e2;rw[Be,Be]
   .rw[BB _ _ e2,BB _ _ e2,BB _ _ e]
 have hG:∀(g g':Nat) (T:Nat->Bool),upd (upd T g Y) g' Y=upd (upd T g' Y) g Y:=λg g' T=>by
  funext t;by_cases e:t=g'
  .subst e;rw[Be];by_cases e2:t=g
   .subst e2;rw[Be]
   .rw[BB _ _ e2,Be]
  .rw[BB _ _ e];by_cases e2:t=g
   .subst e2;rw[Be,Be]
   .rw[BB _ _ e2,BB _ _ e2,BB _ _ e]
 refine S.ext' ?_ ?_ ?_ ?_ ?_ ?_ ?_
 .cases d<;>cases d'<;>rfl
 .cases d with
  | none=>cases d'<;>rfl
  | some d=>cases d' with
   | none=>rfl
   | some d'=>exact hT _ _ _ _ s.T (λe=>hd d rfl (by rw[e]))
 .cases d<;>cases d'<;>rfl
 .cases d<;>cases d'<;>rfl
 .cases d<;>cases d'<;>rfl
 .cases d<;>cases d'<;>rfl
 .cases d<;>cases d'<;>cases g<;>cases g'<;>first|rfl|exact hG _ _ s.gs
end
end Go.VS
namespace Go.VS
open Go
structure Lb where
 b:Nat->Nat
 F:Nat->Nat->Prop
 N:Nat->Nat->Prop
 W:Nat->Nat->Prop
 K:Nat->Nat->Prop
 V:Nat->Nat->Prop
 R:Nat->Nat->Prop
def Stp(C:Cx)(ops:Array Oper)(o:Oper)(b:Nat)(F N W K V:Nat->Prop)(s s':S):Prop:=
 ∃(g:Option Nat) (v:AV) (es:List Step),InA F v/\(∀t,o.dst=I t->InA V v)/\Wk F W K es/\(∀x,g=I x->x∈DD ops o)/\s'=(es.foldl S.app s).fin g o.dst v/\
  ∀s2:S,(∀t∈DD ops o,s2.T t=s.T t)->KD s s2 o.dst->Agr N s.H s2.H->ev1 C ops o b s2=I ((es.foldl S.app s2).fin g o.dst v)
section
variable {C:Cx} {ops:Array Oper} {s s' s0 s1 s2:S}
def Stp.ev{o:Oper}{b:Nat}{F N W K V:Nat->Prop}(h:Stp C ops o b F N W K V s s'):ev1 C ops o b s=I s':=by
 obtain⟨g,v,es,_,_,_,_,rfl,h⟩:=h;exact h s (λ_ _=>rfl) ⟨rfl,rfl,λ_ _=>rfl⟩<|Agr.refl _ _
def ZF{g d:Option Nat}{v:AV}{t:Nat}:(s.fin g d v).T t=if d=I t then v else s.T t:=by
 cases d with
 | none=>simp[S.fin,S.put]
 | some d=>
  show upd s.T d v t=_;by_cases e:t=d
  .subst e;rw[Be];simp
  .rw[BB _ _ e,A9 λe'=>e<|by simpa using e'.symm]
def ZL{g d:Option Nat}{v:AV}:(s.fin g d v).H=s.H:=by cases d<;>rfl
def abN{g d:Option Nat}{v:AV}{t:Nat}(h:g≠I t):(s.fin g d v).gs t=s.gs t:=by
 cases g with
 | none=>cases d<;>rfl
 | some g=>
  have:t≠g:=λe=>h (by rw[e]);cases d<;>exact BB _ _ this
def Stp.swap{x i:Oper}{bx bi:Nat}{Fx Nx Wx Kx Vx Fi Ni Wi Ki Vi:Nat->Prop}(h1:Stp C ops x bx Fx Nx Wx Kx Vx s0 s1)(h2:Stp C ops i bi Fi Ni Wi Ki Vi s1 s2)
  (kxi:∀id,Kx id->¬Fi id)(kix:∀id,Ki id->¬Fx id)(nxi:∀id,Wx id->¬Ni id)(nix:∀id,Wi id->¬Nx id)(wxi:∀id,Wx id->¬Wi id)(dxi:∀t,x.dst=I t->t ∉ DD ops i)(dix:∀t,i.dst=I t->t ∉ DD ops x)(hd:∀t,x.dst=I t->i.dst≠I t)
  (rx:∀t∈DD ops x,InA Fx<|s0.T t)(cx:On Nx Fx s0.H)(ri:∀t∈DD ops i,InA Fi<|s0.T t)(ci:On Ni Fi s0.H):
  ∃s0',Stp C ops i bi Fi Ni Wi Ki Vi s0 s0'/\Stp C ops x bx Fx Nx Wx Kx Vx s0' s2:=by
 obtain⟨g1,v1,es1,a1,a2,a3,a4,a5,a6⟩:=h1;obtain⟨g2,v2,es2,b1,b2,b3,b4,b5,b6⟩:=h2;have n1:∀e∈es1,e.fk= .no\/ ¬Fi e.id:=λe he=>(a3 e he).1.2.imp id<|kxi _;have p1:∀e∈es1,¬Ni e.id/\(e.fk= .no\/ ¬Fi e.id):=λe he=>⟨nxi _ (a3 e he).1.1,n1 e he⟩;have n2:∀e∈es2,e.fk= .no\/ ¬Fx e.id:=λe he=>(b3 e he).1.2.imp id<|kix _;have p2:∀e∈es2,¬Nx e.id/\(e.fk= .no\/ ¬Fx e.id):=λe he=>⟨nix _ (b3 e he).1.1,n2 e he⟩;have T1:∀t∈DD ops i,s1.T t=s0.T t:=λt ht=>by
  rw[a5,ZF,A9 λe=>dxi t e ht];exact ia es1 s0 n1<|ri t ht
 have H1:Agr Ni s0.H s1.H:=by
  rw[a5,ZL];exact ib es1 s0 p1 ci
 have E1:KD s0 s1 i.dst:=by
  obtain⟨p1,p2,p3,_⟩:=mF es1 s0;rw[a5];refine⟨?_, ?_,λt ht=> ?_⟩
  .rw[← p2];cases x.dst<;>rfl
  .rw[← p3];cases x.dst<;>rfl
  .rw[abN λe=>dix t ht<|a4 t e,p1]
 have step:∀s3:S,(∀t∈DD ops i,s3.T t=s0.T t)->KD s0 s3 i.dst->Agr Ni s0.H s3.H->ev1 C ops i bi s3=I ((es2.foldl S.app s3).fin g2 i.dst v2):=λs3 e1 e2 e3=>
  b6 s3 (λt ht=>by rw[e1 t ht,T1 t ht]) ⟨e2.1.trans E1.1.symm,e2.2.1.trans E1.2.1.symm,λt ht=>by rw[e2.2.2 t ht,E1.2.2 t ht]⟩ (λid hid=>by rw[e3 id hid,H1 id hid])
 have T2:∀t∈DD ops x,((es2.foldl S.app s0).fin g2 i.dst v2).T t=s0.T t:=λt ht=>by
  rw[ZF,A9 λe=>dix t e ht];exact ia es2 s0 n2<|rx t ht
 have H2:Agr Nx s0.H ((es2.foldl S.app s0).fin g2 i.dst v2).H:=by
  rw[ZL];exact ib es2 s0 p2 cx
 have E2:KD s0 ((es2.foldl S.app s0).fin g2 i.dst v2) x.dst:=by
  obtain⟨p1,p2,p3,_⟩:=mF es2 s0;refine⟨?_, ?_,λt ht=> ?_⟩
  .rw[← p2];cases i.dst<;>rfl
  .rw[← p3];cases i.dst<;>rfl
  .rw[abN λe=>dxi t ht<|b4 t e,p1]
 have eq:s2=(es1.foldl S.app<|(es2.foldl S.app s0).fin g2 i.dst v2).fin g1 x.dst v1:=by
  have m1:∀e∈es1,FC (e.fk.f e.id) v2=v2:=λe he=>ja (λc hc=>Fk.Qu hc<|n1 e he) b1;have m2:∀e∈es2,FC (e.fk.f e.id) v1=v1:=λe he=>ja (λc hc=>Fk.Qu hc<|n2 e he) a1;rw[b5,a5,lX es2 _ m2,lX es1 _ m1,aCY wxi kxi kix es1 es2 s0 a3 b3,auU hd]
 refine⟨(es2.foldl S.app s0).fin g2 i.dst v2,⟨g2,v2,es2,b1,b2,b3,b4,rfl,step⟩,⟨g1,v1,es1,a1,a2,a3,a4,eq,λs3 e1 e2 e3=> ?_⟩⟩;exact a6 s3 (λt ht=>by rw[e1 t ht,T2 t ht]) ⟨e2.1.trans E2.1,e2.2.1.trans E2.2.1,λt ht=>by rw[e2.2.2 t ht,E2.2.2 t ht]⟩ λid hid=>by rw[e3 id hid,H2 id hid]
inductive Run (C:Cx) (ops:Array Oper) (L:Lb):List Nat->S->S->Prop
 | nil {s:S} :Run C ops L [] s s
 | cons {i:Nat} {o:Oper} {l:List Nat} {s s1 s':S} (ho:ops[i]? =I o) (h:Stp C ops o (L.b i) (L.F i) (L.N i) (L.W i) (L.K i) (L.V i) s s1) (t:Run C ops L l s1 s'):Run C ops L (i::l) s s'
def Fit(ops:Array Oper)(L:Lb)(Ba:List Nat)(s:S)(i:Nat):Prop:=∀o,ops[i]? =I o->
 (∀t∈DD ops o,(∀j∈Ba,L.R j i->∀oj,ops[j]? =I oj->oj.dst≠I t)->InA (L.F i) (s.T t)/\(mov o.op=Y\/InA (L.N i) (s.T t)))/\On (L.N i) (L.F i) s.H/\(∀id,L.b i<=id->id<L.b i+16->s.H id=G)
def Ind(ops:Array Oper)(L:Lb)(x i:Nat):Prop:=∀ox oi,ops[x]? =I ox->ops[i]? =I oi->
 (∀id,L.K x id->¬L.F i id)/\(∀id,L.K i id->¬L.F x id)/\(∀id,L.W x id->¬L.N i id)/\(∀id,L.W i id->¬L.N x id)/\(∀id,L.W x id->¬L.W i id)/\
 (∀id,L.b i<=id->id<L.b i+16->¬L.F x id)/\(∀id,L.b x<=id->id<L.b x+16->¬L.F i id)/\(∀t,ox.dst=I t->t ∉ DD ops oi)/\(∀t,oi.dst=I t->t ∉ DD ops ox)
def Bef(ops:Array Oper)(L:Lb)(x i:Nat):Prop:=∀ox oi,ops[x]? =I ox->ops[i]? =I oi->
 ((∀id,L.W x id->¬L.N i id)\/(∀id,L.F x id->L.F i id))/\(∀t,ox.dst=I t->t∈DD ops oi->(∀id,L.V x id->L.F i id)/\(mov oi.op=Y\/ ∀id,L.V x id->L.N i id))/\(∀id,L.b i<=id->id<L.b i+16->¬L.F x id)
structure P7 (ops:Array Oper) (L:Lb):Prop where
 WF:∀i id,L.W i id->L.F i id
 NF:∀i id,L.N i id->L.F i id
 NW:∀i id,L.b i<=id->id<L.b i+16->L.W i id
 lt:∀x i,L.R x i->x<i
 dst:∀(x i:Nat) (ox oi:Oper) (t:Nat),x≠i->ops[x]? =I ox->ops[i]? =I oi->ox.dst=I t->oi.dst≠I t
 anc:∀(x i:Nat) (oi:Oper),ops[i]? =I oi->L.R x i->∃e∈oi.after,Fj .any e=Y/\(e.on=x\/L.R x e.on)
 dir:∀(i:Nat) (oi:Oper) (e:Edge),ops[i]? =I oi->e∈oi.after->Fj .any e=Y->e.on<i
 bef:∀x i,L.R x i->Bef ops L x i
 ind:∀x i,x<i->¬L.R x i->Ind ops L x i
variable {L:Lb}
def Ind.symm{x i:Nat}(h:Ind ops L x i):Ind ops L i x:=λoi ox hi hx=>by
 obtain⟨a,b,c,d,e,f,g,p,q⟩:=h ox oi hx hi;exact⟨b,a,d,c,λid h1 h2=>e id h2 h1,g,f,q,p⟩
def Fit.step(hn:P7 ops L){Ba:List Nat}{x i:Nat}{ox:Oper}(hox:ops[x]? =I ox)(hxi:x≠i)(hRi:¬L.R i x)(h:Stp C ops ox (L.b x) (L.F x) (L.N x) (L.W x) (L.K x) (L.V x) s s')(hf:Fit ops L Ba s i){U':List Nat}(hU:∀j∈Ba,j=x\/j∈U'):
  Fit ops L U' s' i:=by
 intro oi hoi;obtain⟨f1,f2,f3⟩:=hf oi hoi;obtain⟨g,v,es,a1,a2,a3,a4,rfl,a6⟩:=h;have pc:(((∀id,L.W x id->¬L.N i id)\/(∀id,L.F x id->L.F i id))/\(∀t,ox.dst=I t->t∈DD ops oi->(∀id,L.V x id->L.F i id)/\(mov oi.op=Y\/ ∀id,L.V x id->L.N i id))/\(∀id,L.b i<=id->id<L.b i+16->¬L.F x id)):=by
  by_cases hR:L.R x i
  .exact hn.bef x i hR ox oi hox hoi
  .have hI:Ind ops L x i:=by
    obtain h|h:=TX hxi
    .exact hn.ind x i h hR
    .exact(hn.ind i x h hRi).symm
   obtain⟨_,_,b1,_,_,b6,_,b8,_⟩:=hI ox oi hox hoi;exact⟨.inl b1,λt h1 h2=>absurd h2<|b8 t h1,b6⟩
 obtain⟨p1,p2,p3⟩:=pc;refine⟨λt ht P6=> ?_, ?_,λid h1 h2=> ?_⟩
 .rw[ZF];split
  .rename_i hd;exact⟨(a2 t hd).mono (p2 t hd ht).1,(p2 t hd ht).2.imp id λh=>(a2 t hd).mono h⟩
  .rename_i hd;have:=f1 t ht λj hj hR oj hoj e=>by
    obtain rfl|hj:=hU j hj
    .rw[hox]at hoj;cases hoj;exact hd e
    .exact P6 j hj hR oj hoj e
   exact⟨jn es s this.1,this.2.imp id<|jn es s⟩
 .rw[ZL];refine aBO es s (λe he=> ?_) f2;obtain p1|p1:=p1
  .exact .inr (p1 _ (a3 e he).1.1)
  .exact .inl ((a3 e he).2.mono p1)
 .rw[ZL];exact aAD es s (λe he e'=>p3 id h1 h2<|e'▸hn.WF x _ (a3 e he).1.1)<|f3 id h1 h2
def Run.first(hn:P7 ops L){i:Nat}{l2:List Nat}:∀(l1:List Nat) (s:S),Run C ops L (l1++i::l2) s s'->(l1++i::l2).Pairwise (· < ·)->(∀j∈l1++i::l2,¬L.R j i)->
  (∀j∈l1++i::l2,Fit ops L (l1++i::l2) s j)->Run C ops L (i::(l1++l2)) s s'
 | [],s,h,_,_,_=>h
 | x::l1,s,h,hp,hr,hf=>by
  cases h with
  | cons hox hx t=>
   rename_i ox s1;have hp':=KB.1 hp;have hxi:x<i:=hp'.1 i<|CS _ Am;have ih:=Run.first hn l1 s1 t hp'.2 (λj hj=>hr j<|Ai _ hj) (λj hj=>by
    refine(hf j<|Ai _ hj).step hn hox (Oh<|hp'.1 j hj) (λhR=>Nat.lt_asymm (hn.lt _ _ hR)<|hp'.1 j hj) hx λk hk=> ?_;obtain h|h:=Bm.1 hk
    .exact .inl h
    .exact .inr h)
   cases ih with
   | cons hoi hi t2=>
    rename_i oi s2;obtain⟨c1,c2,c3,c4,c5,_,_,c6,c7⟩:=hn.ind x i hxi (hr x Am) ox oi hox hoi;obtain⟨fx1,fx2,_⟩:=hf x Am ox hox;obtain⟨fi1,fi2,_⟩:=hf i (Ai _<|CS _ Am) oi hoi;obtain⟨s0',k1,k2⟩:=Stp.swap hx hi c1 c2 c3 c4 c5 c6 c7 (λt ht=>hn.dst x i ox oi t (Oh hxi) hox hoi ht)
     (λt ht=>(fx1 t ht λj hj hR oj hoj e=>by
      obtain rfl|hj:=Bm.1 hj
      .exact absurd (hn.lt _ _ hR) (Nat.lt_irrefl _)
      .exact Nat.lt_asymm (hn.lt _ _ hR)<|hp'.1 j hj).1) fx2
     (λt ht=>(fi1 t ht λj hj hR oj hoj e=>hr j hj hR).1) fi2
    exact .cons hoi k1<|.cons hox k2 t2
end
end Go.VS
namespace Go.VS
open Go
section
variable {C:Cx} {B:Bb} {ops:Array Oper} {L:Lb} {stk:List (Array Value)} {Q:Exit->Act->World->Prop}
def sb{a:Array Bool}{i:Nat}(h:i<a.size)(ht:a.getD i Y=Y):a.getD i A0=Y:=by
 simp[h]at ht ⊢; exact ht
def apA(hP:C.P=B.P)(hC:HO C B)(hn:P7 ops L){s':S}(hQ:∀β a w,St B β stk s' a w->Q .normal a w):∀(n:Nat) (Ba:List Nat) (listed:Array Bool) (a:Act) (w:World) (β:Beta) (s:S),
  Ba.length=n->Run C ops L Ba s s'->Ba.Pairwise (· < ·)->(∀j,j∈Ba↔j<ops.size/\listed.getD j Y=A0)->listed.size=ops.size->(∀i x,i<ops.size->i ∉ Ba->L.R x i->x ∉ Ba)->
  (∀j∈Ba,Fit ops L Ba s j)->St B β stk s a w->wpAny B.P .any ops Q n listed a w:=by
 intro n
 induction n with
 | zero=>
  intro Ba listed a w β s hl hr hp hU hs hd hf hst;have:Ba=[]:=Du hl;subst this;cases hr;refine⟨?_,hQ β a w hst⟩;cases hrd:Oe .any ops listed with
  | nil=>rfl
  | cons j l=>
   have hj:j∈Oe .any ops listed:=by rw[hrd];exact Am
   obtain⟨h1,o,ho,_⟩:=mem_ready.1 hj;have:=(hU j).2 ⟨(HE.1 ho).1,h1⟩;cases this
 | succ n ih=>
  intro Ba listed a w β s hl hr hp hU hs hd hf hst;refine⟨λnp=> ?_,λi hi=> ?_⟩
  .exfalso;cases Ba with
   | nil=>simp at hl
   | cons i0 l=>
    obtain⟨hlt,hun⟩:=(hU i0).1 Am;obtain⟨o,ho⟩:∃o,ops[i0]? =I o:=⟨ops[i0],by simp[hlt]⟩;have hr0:i0∈Oe .any ops listed:=mem_ready.2 ⟨hun,o,ho,λe he hb=>by
     have aI:=hn.dir i0 o e ho he hb;have azi:e.on ∉ i0::l:=λhm=>by
      obtain h|h:=Bm.1 hm
      .omega
      .have:=(KB.1 hp).1 _ h;omega
     have hsz:e.on<ops.size:=J
     refine sb J ?_;cases hb':listed.getD e.on Y with
     | true=>rfl
     | false=>exact absurd ((hU e.on).2 ⟨hsz,hb'⟩) azi⟩
    rw[np]at hr0;cases hr0
  .obtain⟨hun,oi,hoi,Is⟩:=mem_ready.1 hi;have hlt:i<ops.size:=(HE.1 hoi).1;have hiU:i∈Ba:=(hU i).2 ⟨hlt,hun⟩;obtain⟨l1,l2,rfl⟩:=Ta hiU;have hRn:∀j∈l1++i::l2,¬L.R j i:=by
    intro j hj hR;obtain⟨e,he,hb,U0⟩:=hn.anc j i oi hoi hR;have hel:=Is e he hb;have heU:e.on ∉ l1++i::l2:=λhm=>by
     have h2:=((hU e.on).1 hm).2;have hsz:=((hU e.on).1 hm).1;have:listed.getD e.on Y=Y:=by simp[show e.on<listed.size by omega]at hel ⊢; exact hel
     rw[this]at h2;cases h2
    obtain h|h:=U0
    .exact heU (h▸hj)
    .have aI:=hn.dir i oi e hoi he hb;exact hd e.on j J heU h hj
   have Ce:=Run.first hn l1 s hr hp hRn hf
   cases Ce with
   | cons U5 U9 t=>
    rename_i o' s1;rw[hoi]at U5;cases U5;have hnd:(l1++i::l2).Nodup:=hp.imp λh=>Oh h;have F8:∀j,j∈l1++l2↔j∈l1++i::l2/\j≠i:=by
     intro j;have JW:=JR.1 hnd;constructor
     .intro hj;refine⟨?_, ?_⟩
      .rcases BL.1 hj with h|h
       .exact Bw _ h
       .exact CS _ (Ai _ h)
      .rintro rfl;obtain h|h:=BL.1 hj
       .exact JW.2.2 j h j Am rfl
       .exact(IC.1 JW.2.1).1 h
     .rintro⟨hj,hne⟩;obtain h|h:=BL.1 hj
      .exact Bw _ h
      .rcases Bm.1 h with h|h
       .exact absurd h hne
       .exact CS _ h
    refine kV hP hC hoi hst (b:=L.b i) (λj h1 h2=>(hf i hiU oi hoi).2.2 j h1 h2) U9.ev ?_;intro β' u w' MG;refine ih (l1++l2) _ _ _ β' s1 ?_ t ?_ ?_ ?_ ?_ ?_ MG
    .simp at hl ⊢; omega
    .exact(My.1 hp).1 |> λp1=>by
      have p2:=My.1 hp;exact My.2 ⟨p1,(KB.1 p2.2.1).2,λx hx y hy=>p2.2.2 x hx y<|Ai _ hy⟩
    .intro j;rw[F8,hU];by_cases e:j=i
     .subst e;simp
     .rw[getD_set_ne Y<|L0 e];simp[e]
    .simpa using hs
    .intro k x hk hkU hR hx;have hxU:=((F8 x).1 hx).1;by_cases e:k=i
     .subst e;exact hRn x hxU hR
     .exact hd k x hk (λh=>hkU<|(F8 k).2 ⟨h,e⟩) hR hxU
    .intro j hj;obtain⟨hjU,hne⟩:=(F8 j).1 hj;refine(hf j hjU).step hn hoi (L0 hne) (hRn j hjU) U9 λk hk=> ?_;by_cases e:k=i
     .exact .inl e
     .exact .inr<|(F8 k).2 ⟨hk,e⟩
def aql(hP:C.P=B.P)(hm:B.P.follows .mixedOrders=Y)(hC:HO C B)(hn:P7 ops L){s s':S}(hr:Run C ops L (B7 ops.size) s s')(hf:∀j,j<ops.size->Fit ops L (B7 ops.size) s j)
  {id:Nat}{β:Beta}{a:Act}{w:World}(hst:St B β stk s a w)(hQ:∀β a w,St B β stk s' a w->Q .normal a w):(QZ id ops Y).wp B.P Q a w:=by
 refine wp_region_any hm ?_;have MG:St B β stk s a { w with drawn:=w.drawn+1 } :=by
  have hk:Kp w β { w with drawn:=w.drawn+1 } β:=Kp.heap rfl;have:=hst.keep hk (H':=s.H)<|hst.hs.drew;exact this
 refine apA hP hC hn hQ ops.size (B7 ops.size) _ a _ β s y9 hr QS (λj=> ?_) y9 (λi x hi hiU hR=> ?_) (λj hj=>hf j<|Cs.1 hj) MG
 .rw[Cs];constructor
  .intro h;exact⟨h,by simp[h]⟩
  .exact λh=>h.1
 .exact absurd (Cs.2 hi) hiU
end
end Go.VS
namespace Go.VS
open Go
abbrev Mm(M id:Nat):Prop:=M.testBit id=Y
def Ee(a b i:Nat):(BM a b).testBit i=(a.testBit i||b.testBit i):=Nat.testBit_or a b i
def kL(a b i:Nat):(Om a b).testBit i=(a.testBit i&&b.testBit i):=Nat.testBit_and a b i
def YK{i j:Nat}:(bit i).testBit j=Y↔j=i:=by
 show(1 <<< i).testBit j=Y↔j=i;rw[Nat.one_shiftLeft,Nat.testBit_two_pow];simp[eq_comm]
def Li{b j:Nat}:(nm b).testBit j=Y↔b<=j/\j<b+16:=by
 show(65535 <<< b).testBit j=Y↔_;rw[Nat.testBit_shiftLeft,show(65535:Nat)=2 ^ 16 - 1 from rfl,Nat.testBit_two_pow_sub_one];simp;omega
def Mg{l:List Nat}{j:Nat}:(msk l).testBit j=Y↔j∈l:=by
 induction l with
 | nil=>simp[msk]
 | cons i l ih=>
  show(BM (bit i)<|msk l).testBit j=Y↔_;rw[Ee,C0,YK,ih,Bm]
def LY{a b:Nat}(h:dsj a b=Y):∀i,Mm a i->¬Mm b i:=λi h1 h2=>by
 have e:Om a b=0:=YU h;have:=kL a b i;rw[e,h1,h2]at this;simp at this
def SV{a b:Nat}(h:sbs a b=Y):∀i,Mm a i->Mm b i:=λi h1=>by
 have e:Om a b=a:=YU h;have:=kL a b i;rw[e,h1]at this;simpa using this.symm
def mB{a i:Nat}:tst a i=Y↔a.testBit i=Y:=by
 unfold tst;constructor
 .intro h;cases hb:a.testBit i with
  | true=>rfl
  | false=>
   have:dsj a (bit i)=Y:=by
    unfold dsj;have e:Om a (bit i)=0:=Nat.eq_of_testBit_eq λj=>by
     rw[kL];cases hj:(bit i).testBit j with
     | false=>simp
     | true=>rw[YK.1 hj,hb];simp
    rw[e];rfl
   rw[this]at h;cases h
 .intro h;cases hd:dsj a (bit i) with
  | false=>rfl
  | true=>exact absurd (YK.2 rfl)<|LY hd i h
section
variable {F:Nat->Prop} {H:Hp}
def aaR{v:AV}{l:List Nat}(h:NC v=I l)(hF:∀i∈l,F i):In1 F v:=by
 cases v<;>first|(cases h;done)|(cases h;exact hF _ y9)|trivial
def la:∀ {cs:List AV} {l:List Nat},ZX cs=I l->(∀i∈l,F i)->∀c∈cs,In1 F c
 | [],_,_,_,_,hc=>by cases hc
 | c::cs,l,h,hF,d,hd=>by
  obtain⟨a,h1,h⟩:=Ag.1 h;obtain⟨b,h2,h⟩:=Ag.1 h;cases h;obtain rfl|hd:=Bm.1 hd
  .exact aaR h1 λi hi=>hF i (Bw _ hi)
  .exact la h2 (λi hi=>hF i<|CS _ hi) d hd
def aaQ{v:AV}{l:List Nat}(h:NB v=I l)(hF:∀i∈l,F i):In2 F v:=by
 have gen:NC v=I l->In2 F v:=λh=> .of1<|aaR h hF;cases v<;>first|exact la h hF|exact gen h
def aaO:∀ {cs:List AV} {l:List Nat},nG cs=I l->(∀i∈l,F i)->∀c∈cs,In2 F c
 | [],_,_,_,_,hc=>by cases hc
 | c::cs,l,h,hF,d,hd=>by
  obtain⟨a,h1,h⟩:=Ag.1 h;obtain⟨b,h2,h⟩:=Ag.1 h;cases h;obtain rfl|hd:=Bm.1 hd
  .exact aaQ h1 λi hi=>hF i (Bw _ hi)
  .exact aaO h2 (λi hi=>hF i<|CS _ hi) d hd
def aaP{v:AV}{l:List Nat}(h:ZY v=I l)(hF:∀i∈l,F i):In3 F v:=by
 have gen:NB v=I l->In3 F v:=λh=> .of2<|aaQ h hF;cases v<;>first|exact aaO h hF|exact gen h
def Xt{v:AV}{l:List Nat}(h:Tp v=I l)(hF:∀i∈l,F i):InA F v:=by
 have gen:ZY v=I l->InA F v:=λh=> .of3<|aaP h hF;cases v with
 | gd g w v=>exact aaP (v:=v) h hF
 | _=>exact gen h
def aAY:∀ {ids m:List Nat},ZB H ids=I m->(∀i∈m,F i)->∀i∈ids,∀ob,H i=I ob->Ez F ob
 | [],_,_,_,_,hi=>by cases hi
 | j::l,m,h,hF,i,hi=>by
  obtain⟨a,h1,h⟩:=Ag.1 h;obtain⟨b,h2,h⟩:=Ag.1 h;cases h;obtain rfl|hi:=Bm.1 hi
  .intro ob ho;unfold abb at h1;rw[ho]at h1;cases ob<;>first|trivial|exact la h1 λi hi=>hF i (Bw _ hi)
  .exact aAY h2 (λi hi=>hF i<|CS _ hi) i hi
def Xm:∀(n:Nat) (l:List Nat) {c:Nat},clo H n l=I c->(∀i∈l,Mm c i)/\DR (Mm c) H
 | 0,[],c,h=>by cases h;exact⟨by simp,λi ob hi=>by simp[Mm]at hi⟩
 | 0,_::_,c,h=>by cases h
 | n+1,[],c,h=>by cases h;exact⟨by simp,λi ob hi=>by simp[Mm]at hi⟩
 | n+1,j::l,c,h=>by
  have h:((ZB H<|j::l).bind λm=>(clo H n m).bind λr=>I<|BM (msk<|j::l) r)=I c:=h;obtain⟨m,h1,h⟩:=Ag.1 h;obtain⟨r,h2,h⟩:=Ag.1 h;cases h;obtain⟨i1,i2⟩:=Xm n m h2;have up:∀i,Mm r i->Mm (BM (msk<|j::l) r) i:=λi hi=>by
   show(BM _ _).testBit i=Y;rw[Ee,show r.testBit i=Y from hi];simp
  refine⟨λi hi=> ?_,λi ob hi ho=> ?_⟩
  .show(BM _ _).testBit i=Y;rw[Ee,Mg.2 hi];rfl
  .have hi:(BM (msk<|j::l) r).testBit i=Y:=hi;rw[Ee,C0]at hi;obtain hi|hi:=hi
   .exact aAY h1 (λk hk=>up k<|i1 k hk) i (Mg.1 hi) ob ho
   .have:=i2 i ob hi ho;cases ob<;>first|trivial|exact λc hc=>(this c hc).mono up
end
section
variable {C:Cx} {ops:Array Oper} {s0:S} {b0:Nat}
def CW(C:Cx)(ops:Array Oper)(s0:S)(b0:Nat):List Rec->Prop
 | []=>True
 | r::acc=>CW C ops s0 b0 acc/\r.i=acc.length/\r.b=b0+16 * acc.length/\ops[r.i]? =I r.o/\Qi acc r.o.after.toList=I r.anc/\
  (∃l c,ZH s0 acc (DD ops r.o)=I l/\clo s0.H 4 l=I c/\((mvO r.o=A0/\r.F=OR r.anc acc (BM c<|nm r.b)/\((r.N=BM (msk l) (nm r.b)/\pur r.o=Y/\r.o.guard=G)\/r.N=r.F))\/(mvO r.o=Y/\r.F=BM (msk l) (nm r.b)/\r.N=nm r.b)))/\(sbs r.W r.F=Y/\ ∀id,Mm (nm r.b) id->Mm r.W id)/\
  (∀x∈acc,chk ops x r=Y)/\okO C r.o=Y/\Oz r.o.dst (DD ops r.o)=Y
def CW.lt:∀ {acc:List Rec},CW C ops s0 b0 acc->∀r∈acc,r.i<acc.length
 | [],_,r,hr=>by cases hr
 | x::acc,h,r,hr=>by
  obtain rfl|hr:=Bm.1 hr
  .rw[h.2.1];simp
  .have:=CW.lt h.1 r hr;simp;omega
def CW.mem:∀ {acc:List Rec},CW C ops s0 b0 acc->∀r∈acc,∃HI,CW C ops s0 b0 (r::HI)/\(∀x∈HI,x∈acc)/\(∀x∈acc,x.i<r.i->x∈HI)/\(∀x∈HI,x.i<r.i)
 | [],_,r,hr=>by cases hr
 | x::acc,h,r,hr=>by
  obtain rfl|hr:=Bm.1 hr
  .refine⟨acc,h,λy hy=>Ai _ hy,λy hy hlt=> ?_,λy hy=>by rw[h.2.1];exact h.1.lt y hy⟩;obtain rfl|hy:=Bm.1 hy
   .omega
   .exact hy
  .obtain⟨HI,h1,h2,h3,h4⟩:=CW.mem h.1 r hr;have k1:=h.1.lt r hr;have k2:=h.2.1;refine⟨HI,h1,λy hy=>Ai _<|h2 y hy,λy hy hlt=> ?_,h4⟩;obtain e|hy:=Bm.1 hy
   .rw[e]at hlt;omega
   .exact h3 y hy hlt
def CW.find:∀ {acc:List Rec},CW C ops s0 b0 acc->∀r∈acc,HX r.i acc=I r
 | [],_,r,hr=>by cases hr
 | x::acc,h,r,hr=>by
  unfold HX;obtain rfl|hr:=Bm.1 hr
  .simp
  .have h1:=h.1.lt r hr;have h2:=h.2.1;have:Af x.i r.i=A0:=by rw[← GL,HF];omega
   rw[this];exact CW.find h.1 r hr
def Nz{i:Nat}{r:Rec}:∀ {acc:List Rec},HX i acc=I r->r∈acc/\r.i=i
 | [],h=>by cases h
 | x::acc,h=>by
  unfold HX at h;split at h
  .rename_i e;cases h;exact⟨Am,Bk e⟩
  .have:=Nz h;exact⟨Ai _ this.1,this.2⟩
def aC8{t:Nat}{r:Rec}:∀ {acc:List Rec},Qg t acc=I r->r∈acc/\r.o.dst=I t
 | [],h=>by cases h
 | x::acc,h=>by
  unfold Qg at h;split at h
  .rename_i e;cases h;refine⟨Am, ?_⟩;unfold mj at e;split at e
   .rename_i d hd;rw[hd,Bk e]
   .cases e
  .have:=aC8 h;exact⟨Ai _ this.1,this.2⟩
def CW.ex:∀ {acc:List Rec},CW C ops s0 b0 acc->∀i,i<acc.length->∃r∈acc,r.i=i
 | [],_,i,hi=>by simp at hi
 | x::acc,h,i,hi=>by
  by_cases e:i=acc.length
  .exact⟨x,Am,by rw[h.2.1,e]⟩
  .obtain⟨r,hr,e'⟩:=CW.ex h.1 i (by simp at hi;omega);exact⟨r,Ai _ hr,e'⟩
def SE{anc:Nat}:∀(acc:List Rec) (F:Nat) (i:Nat),Mm F i->Mm (OR anc acc F) i
 | [],_,_,h=>h
 | r::acc,F,i,h=>by
  unfold OR;refine SE acc _ i ?_;split
  .show(BM _ _).testBit i=Y;rw[Ee,show F.testBit i=Y from h];simp
  .exact h
def DR.lor{H:Hp}{a b:Nat}(h1:DR (Mm a) H)(h2:DR (Mm b) H):DR (Mm<|BM a b) H:=by
 have up1:∀i,Mm a i->Mm (BM a b) i:=λi hi=>by
  show(BM _ _).testBit i=Y;rw[Ee,show a.testBit i=Y from hi];simp
 have up2:∀i,Mm b i->Mm (BM a b) i:=λi hi=>by
  show(BM _ _).testBit i=Y;rw[Ee,show b.testBit i=Y from hi];simp
 intro i ob hi ho;have hi:(BM a b).testBit i=Y:=hi;rw[Ee,C0]at hi;obtain hi|hi:=hi
 .have:=h1 i ob hi ho;cases ob<;>first|trivial|exact λc hc=>(this c hc).mono up1
 .have:=h2 i ob hi ho;cases ob<;>first|trivial|exact λc hc=>(this c hc).mono up2
def z8{anc:Nat}{H:Hp}:∀(acc:List Rec) (F:Nat),(∀r∈acc,mvO r.o=A0->DR (Mm r.F) H)->DR (Mm F) H->DR (Mm<|OR anc acc F) H
 | [],_,_,h=>h
 | r::acc,F,hr,h=>by
  unfold OR;refine z8 acc _ (λx hx=>hr x<|Ai _ hx) ?_;split
  .rename_i hc;simp only[AD,CE]at hc;exact(hr r Am hc.2).lor h
  .exact h
def Fr(s:S):Prop:=∀j,s.nid<=j->s.H j=G
def CW.closed(hfr:∀j,b0<=j->s0.H j=G):∀ {acc:List Rec},CW C ops s0 b0 acc->∀r∈acc,mvO r.o=A0->DR (Mm r.F) s0.H
 | [],_,r,hr=>by cases hr
 | x::acc,h,r,hr=>by
  intro hmv;have ih:=CW.closed hfr h.1;obtain rfl|hr:=Bm.1 hr
  .obtain⟨_,_,hb,_,_,⟨l,c,h1,h2,h3⟩,_⟩:=h;obtain h3|h3:=h3
   .rw[h3.2.1];refine z8 _ _ ih ((Xm 4 l h2).2.lor λi ob hi ho=> ?_);have:=Li.1 hi;rw[hfr i J]at ho;cases ho
   .rw[hmv]at h3;cases h3.1
  .exact ih r hr hmv
def SD{acc:List Rec}:∀(l:List Edge) {m:Nat},Qi acc l=I m->(∀e∈l,Fj .any e=Y->∃r,HX e.on acc=I r)/\
  (∀x,Mm m x->∃e∈l,Fj .any e=Y/\ ∃r,HX e.on acc=I r/\(e.on=x\/Mm r.anc x))
 | [],m,h=>by cases h;exact⟨by simp,λx hx=>by simp[Mm]at hx⟩
 | e::l,m,h=>by
  unfold Qi at h;split at h
  .rename_i hb;obtain⟨r,h1,h⟩:=Ag.1 h;obtain⟨m',h2,h⟩:=Ag.1 h;cases h;obtain⟨i1,i2⟩:=SD l h2;refine⟨λe' he hb'=> ?_,λx hx=> ?_⟩
   .rcases Bm.1 he with rfl|he
    .exact⟨r,h1⟩
    .exact i1 e' he hb'
   .have hx:(BM (BM (bit e.on) r.anc) m').testBit x=Y:=hx;rw[Ee,Ee,C0,C0]at hx;obtain(hx|hx)|hx:=hx
    .exact⟨e,Am,hb,r,h1,.inl (YK.1 hx).symm⟩
    .exact⟨e,Am,hb,r,h1,.inr hx⟩
    .obtain⟨e',he,h3⟩:=i2 x hx;exact⟨e',Ai _ he,h3⟩
  .rename_i hb;obtain⟨i1,i2⟩:=SD l h;refine⟨λe' he hb'=> ?_,λx hx=> ?_⟩
   .rcases Bm.1 he with rfl|he
    .rw[hb]at hb';cases hb'
    .exact i1 e' he hb'
   .obtain⟨e',he,h3⟩:=i2 x hx;exact⟨e',Ai _ he,h3⟩
def CW.Zq:∀ {acc:List Rec},CW C ops s0 b0 acc->∀r∈acc,∀x,Mm r.anc x->x<r.i
 | [],_,r,hr=>by cases hr
 | y::acc,h,r,hr=>by
  intro x hx;obtain rfl|hr:=Bm.1 hr
  .obtain⟨hg,hi,_,_,ha,_⟩:=h;obtain⟨e,he,hb,r',h1,h2⟩:=(SD _ ha).2 x hx;obtain⟨hm,hei⟩:=Nz h1;have:=hg.lt r' hm;obtain h2|h2:=h2
   .omega
   .have:=CW.Zq hg r' hm x h2;omega
  .exact CW.Zq h.1 r hr x hx
def C2(acc:List Rec)(b0:Nat):Lb where
 b i:=b0+16 * i
 F i id:=match HX i acc with
  | some r=>Mm r.F id
  | none=>b0+16 * i<=id/\id<b0+16 * i+16
 N i id:=match HX i acc with
  | some r=>Mm r.N id
  | none=>b0+16 * i<=id/\id<b0+16 * i+16
 K i id:=match HX i acc with
  | some r=>Mm r.K id
  | none=>b0+16 * i<=id/\id<b0+16 * i+16
 W i id:=match HX i acc with
  | some r=>Mm r.W id
  | none=>b0+16 * i<=id/\id<b0+16 * i+16
 V i id:=match HX i acc with
  | some r=>id∈r.V
  | none=>False
 R x i:=match HX i acc with
  | some r=>Mm r.anc x
  | none=>False
def Wq{d:Option Nat}{l:List Nat}(h:Oz d l=Y):∀t,d=I t->t ∉ l:=by
 intro t e hm;subst e;have:abl t l=Y:=KA.2 ⟨t,hm,by simp⟩;simp[Oz,this]at h
def aAx{d e:Option Nat}(h:me d e=Y):∀t,d=I t->e≠I t:=by
 intro t h1 h2;subst h1;subst h2;simp[me]at h
def CW.op{acc:List Rec}(h:CW C ops s0 b0 acc)(hn:acc.length=ops.size){i:Nat}{o:Oper}(ho:ops[i]? =I o):∃r∈acc,r.i=i/\r.o=o/\HX i acc=I r:=by
 obtain⟨r,hr,hi⟩:=h.ex i (by rw[hn];exact(HE.1 ho).1);obtain⟨HI,hg,_⟩:=h.mem r hr;have:=hg.2.2.2.1;rw[hi,ho]at this;exact⟨r,hr,hi,(Ei this).symm,by rw[← hi];exact h.find r hr⟩
def CW.chk{acc:List Rec}(h:CW C ops s0 b0 acc){x r:Rec}(hx:x∈acc)(hr:r∈acc)(hlt:x.i<r.i):VS.chk ops x r=Y:=by
 obtain⟨HI,hg,_,h3,_⟩:=h.mem r hr;exact hg.2.2.2.2.2.2.2.1 x<|h3 x hx hlt
def CW.MD{acc:List Rec}(h:CW C ops s0 b0 acc){r:Rec}(hr:r∈acc):r.b=b0+16 * r.i/\(∀id,r.b<=id->id<r.b+16->Mm r.F id)/\(sbs r.W r.F=Y/\ ∀id,Mm (nm r.b) id->Mm r.W id):=by
 obtain⟨HI,hg,_⟩:=h.mem r hr;obtain⟨_,hi,hb,_,_,⟨l,c,h1,h2,h3⟩,hw,_⟩:=hg;refine⟨by rw[hi];exact hb,λid k1 k2=> ?_,hw⟩;obtain h3|h3:=h3
 .rw[h3.2.1];refine SE _ _ id ?_;show(BM _ _).testBit id=Y;rw[Ee,Li.2 ⟨k1,k2⟩];simp
 .rw[h3.2.1];show(BM _ _).testBit id=Y;rw[Ee,Li.2 ⟨k1,k2⟩];simp
def CW.N_F{acc:List Rec}(h:CW C ops s0 b0 acc){r:Rec}(hr:r∈acc):∀id,Mm r.N id->Mm r.F id:=by
 obtain⟨HI,hg,_⟩:=h.mem r hr;obtain⟨_,hi,hb,_,_,⟨l,c,h1,h2,h3⟩,hw,_⟩:=hg;intro id hid;obtain⟨_,h3,h4⟩|⟨_,h3,h4⟩:=h3
 .rcases h4 with h4|h4
  .rw[h3];refine SE _ _ id ?_;rw[h4.1]at hid;have hid:(BM _ _).testBit id=Y:=hid;rw[Ee,C0]at hid;show(BM _ _).testBit id=Y;rw[Ee];obtain hid|hid:=hid
   .rw[(Xm 4 l h2).1 id<|Mg.1 hid];rfl
   .rw[hid];simp
  .rw[← h4];exact hid
 .rw[h3];rw[h4]at hid;have hid:(nm r.b).testBit id=Y:=hid;show(BM _ _).testBit id=Y;rw[Ee,hid];simp
def CW.nice{acc:List Rec}(h:CW C ops s0 b0 acc)(hn:acc.length=ops.size):P7 ops (C2 acc b0):=by
 constructor
 .intro i id hw;simp only[C2]at hw ⊢;split at hw
  .rename_i r hr;obtain⟨hm,hi⟩:=Nz hr;obtain⟨_,h2,h3⟩:=h.MD hm;exact SV h3.1 id hw
  .exact hw
 .intro i id hw;simp only[C2]at hw ⊢;split at hw
  .rename_i r hr;obtain⟨hm,hi⟩:=Nz hr;exact h.N_F hm id hw
  .exact hw
 .intro i id h1 h2;simp only[C2]at h1 h2 ⊢;split
  .rename_i r hr;obtain⟨hm,hi⟩:=Nz hr;obtain⟨hb,k2,k3⟩:=h.MD hm;rw[hi]at hb;exact k3.2 id (Li.2 ⟨J,J⟩)
  .exact⟨h1,h2⟩
 .intro x i hR;simp only[C2]at hR;split at hR
  .rename_i r hr;obtain⟨hm,hi⟩:=Nz hr;have:=h.Zq r hm x hR;omega
  .exact hR.elim
 .intro x i ox oi t hne hx hi ht;obtain⟨rx,hrx,ix,rfl,_⟩:=h.op hn hx;obtain⟨ri,hri,ii,rfl,_⟩:=h.op hn hi;obtain hlt|hlt:=TX hne
  .have:=h.chk hrx hri J;simp only[VS.chk,AD]at this;exact aAx this.1 t ht
  .have:=h.chk hri hrx J;simp only[VS.chk,AD]at this;exact λe=>aAx this.1 t e ht
 .intro x i oi hi hR;obtain⟨ri,hri,ii,rfl,fi⟩:=h.op hn hi;simp only[C2,fi]at hR ⊢;obtain⟨HI,hg,LB,_⟩:=h.mem ri hri;obtain⟨e,he,hb,r',h1,h2⟩:=(SD _ hg.2.2.2.2.1).2 x hR;refine⟨e,by simpa using he,hb, ?_⟩;obtain h2|h2:=h2
  .exact .inl h2
  .obtain⟨hm,hei⟩:=Nz h1;have:=h.find r'<|LB r' hm;rw[hei]at this;rw[this];exact .inr h2
 .intro i oi e hi he hb;obtain⟨ri,hri,ii,rfl,fi⟩:=h.op hn hi;obtain⟨HI,hg,LB,_,hlt⟩:=h.mem ri hri;obtain⟨r',h1⟩:=(SD _ hg.2.2.2.2.1).1 e (by simpa using he) hb;obtain⟨hm,hei⟩:=Nz h1;have:=hlt r' hm;omega
 .intro x i hR ox oi hx hi;obtain⟨rx,hrx,ix,rfl,fx⟩:=h.op hn hx;obtain⟨ri,hri,ii,rfl,fi⟩:=h.op hn hi;simp only[C2,fi,fx]at hR ⊢;have hlt:=h.Zq ri hri x hR;have hc:=h.chk hrx hri J;simp only[VS.chk,AD]at hc;have hT:tst ri.anc rx.i=Y:=by rw[ix];exact mB.2 hR
  rw[hT]at hc;obtain⟨_,hc⟩:=hc;simp only[AD,C0]at hc;obtain⟨⟨c1,c2⟩,c3⟩:=hc;refine⟨?_,λt ht hl=> ?_,λid h1 h2 hF=> ?_⟩
  .rcases c1 with c1|c1
   .exact .inl (LY c1)
   .exact .inr (SV c1)
  .rcases c2 with c2|c2
   .exact absurd hl (Wq c2 t ht)
   .exact⟨λid hid=>SV c2.1 id<|Mg.2 hid,c2.2.imp id λh id hid=>SV h id<|Mg.2 hid⟩
  .have hb:=(h.MD hri).1;exact LY c3 id hF (Li.2 ⟨J,J⟩)
 .intro x i hlt hR ox oi hx hi;obtain⟨rx,hrx,ix,rfl,fx⟩:=h.op hn hx;obtain⟨ri,hri,ii,rfl,fi⟩:=h.op hn hi;simp only[C2,fi,fx]at hR ⊢;have hc:=h.chk hrx hri J;simp only[VS.chk,AD]at hc;have hT:tst ri.anc rx.i=A0:=by
   rw[ix];cases hh:tst ri.anc x with
   | false=>rfl
   | true=>exact absurd (mB.1 hh) hR
  rw[hT]at hc;obtain⟨_,hc⟩:=hc;simp only[AD]at hc;obtain⟨⟨⟨k1,k2⟩,k3,k4⟩,k5,k6,k7⟩:=hc.1.1;have hbi:=(h.MD hri).1;have hbx:=(h.MD hrx).1;exact⟨LY k1,LY k2,LY k3,LY k4,LY k5,λid h1 h2 hF=>LY k6 id hF<|Li.2 ⟨J,J⟩,λid h1 h2 hF=>LY k7 id hF<|Li.2 ⟨J,J⟩,Wq hc.1.2,Wq hc.2⟩
end
end Go.VS
namespace Go.VS
open Go
section
variable {C:Cx} {P:Program} {kd:TypeId->Option K} {s s':S} {b j:Nat} {E:Nat->AV}
structure BC (N:Nat->Prop) (s s':S):Prop where
 nid:s'.nid=s.nid
 n:s'.n=s.n
 pins:s'.pins=s.pins
 nn:∀j,¬N j->s.H j=G->s'.H j=G
def BC.refl(N:Nat->Prop)(s:S):BC N s s:=⟨rfl,rfl,rfl,λ_ _ h=>h⟩
def BC.trans{N:Nat->Prop}{s s' s'':S}(h:BC N s s')(k:BC N s' s''):BC N s s'':=
 ⟨k.nid.trans h.nid,k.n.trans h.n,k.pins.trans h.pins,λj hj e=>k.nn j hj<|h.nn j hj e⟩
def BC.put{N:Nat->Prop}{s s':S}(h:BC N s s')(d:Option Nat)(v:AV):BC N s (s'.put d v):=by
 cases d<;>exact⟨h.nid,h.n,h.pins,h.nn⟩
def BC.EJ{N:Nat->Prop}{s s':S}(h:BC N s s'){id:Nat}{ob:Option Ob}(hid:N id\/s.H id≠G):BC N s (s'.EJ id ob):=by
 refine⟨h.nid,h.n,h.pins,λj hj e=> ?_⟩;show upd s'.H id ob j=G;rw[BB _ _ (λe'=>by subst e';exact hid.elim hj λh=>h e)];exact h.nn j hj e
def BC.map{N:Nat->Prop}{s s':S}(h:BC N s s')(f:AV->AV):BC N s (s'.map f):=by
 refine⟨h.nid,h.n,h.pins,λj hj e=> ?_⟩;show CH f (s'.H j)=G;rw[h.nn j hj e];rfl
def BC.aco{N:Nat->Prop}{s s':S}(h:BC N s s'){id:Nat}:BC N s (s'.EJ id G):=by
 refine⟨h.nid,h.n,h.pins,λj hj e=> ?_⟩;show upd s'.H id G j=G;by_cases e':j=id
 .subst e';rw[Be]
 .rw[BB _ _ e'];exact h.nn j hj e
def BC.kill{N:Nat->Prop}{s s':S}(h:BC N s s')(id:Nat):BC N s (s'.kill id):=(h.map _).aco
def BC.freeze{N:Nat->Prop}{s s':S}(h:BC N s s')(id:Nat):BC N s (s'.freeze id):=by
 unfold S.freeze;split
 .exact(h.map _).aco
 .exact h.kill id
def BC.L8{N:Nat->Prop}:∀(ids:List Nat) {s s':S},BC N s s'->BC N s (ids.foldl S.freeze s')
 | [],_,_,h=>h
 | i::ids,_,_,h=>BC.L8 ids (h.freeze i)
def BC.nb{N:Nat->Prop}:∀(ids:List Nat) {s s':S},BC N s s'->BC N s (ids.foldl S.kill s')
 | [],_,_,h=>h
 | i::ids,_,_,h=>BC.nb ids (h.kill i)
def apB{N:Nat->Prop}{t:TypeId}{x y:AV}(h:IW P t s x y=I s'):BC N s s':=by
 unfold IW at h;split at h
 .rename_i id z i o;split at h
  .rename_i e cs hob;split at h
   .obtain⟨ys,hc,h⟩:=Ag.1 h;split at h<;>cases h;exact(BC.refl N s).EJ (.inr (by rw[hob];simp))
   .cases h
  .rename_i e fz k xs hob;obtain⟨ys,hc,h⟩:=Ag.1 h;split at h
   .obtain⟨v,hd,h⟩:=Ag.1 h;cases h;exact(BC.L8 _<|BC.refl N s).EJ (.inr (by rw[hob];simp))
   .cases h
  .rename_i e k xs hob;obtain⟨ys,hc,h⟩:=Ag.1 h;split at h
   .obtain⟨v,hd,h⟩:=Ag.1 h;cases h;exact(BC.refl N s).EJ (.inr (by rw[hob];simp))
   .cases h
  .cases h
 .cases h
def aoa{N:Nat->Prop}(hb:N b){t t2:TypeId}{x y v:AV}{q:Bool}(h:Ke P kd t t2 s b x y=I (q,v,s')):BC N s s':=by
 unfold Ke at h;obtain⟨e,he,h⟩:=Ag.1 h;obtain⟨k,hk,h⟩:=Ag.1 h;obtain⟨ys,hys,h⟩:=Ag.1 h;split at h
 .cases h;exact(BC.refl N s).EJ (.inl hb)
 .split at h
  .rename_i hob _;split at h
   .obtain⟨zs,hz,h⟩:=Ag.1 h;cases h;exact((BC.refl N s).map _).EJ (.inr (by rw[hob];simp))
   .cases h
  .cases h
 .cases h
def aqC{N:Nat->Prop}{t:TypeId}{x y v:AV}(h:Ko P t s x y=I (v,s')):BC N s s':=by
 unfold Ko at h;split at h
 .split at h
  .rename_i hob _;obtain⟨e',he,h⟩:=Ag.1 h;split at h
   .obtain⟨ys,hys,h⟩:=Ag.1 h;cases h;exact(BC.refl N s).EJ (.inr (by rw[hob];simp))
   .cases h
  .cases h
 .cases h
def alk{N:Nat->Prop}{id:Nat}{z:Bool}{lo hi:Option AV}{v:AV}{q:Bool}(h:Ka s id z lo hi=I (q,v,s')):BC N s s':=by
 unfold Ka at h;split at h
 .rename_i e fz k xs hob;obtain⟨⟨c,l,hh⟩,hc,h⟩:=Ag.1 h;simp only at h;split at h
  .cases h;exact((BC.refl N s).map _).EJ (.inr (by rw[hob];simp))
  .cases h
  .cases h;exact(BC.refl N s).freeze id
 .cases h
def HJ(N:Nat->Prop)(H H':Hp):Prop:=∀j,¬N j->H j=G->H' j=G
def HJ.refl(N:Nat->Prop)(H:Hp):HJ N H H:=λ_ _ h=>h
def HJ.trans{N:Nat->Prop}{H H' H'':Hp}(h:HJ N H H')(k:HJ N H' H''):HJ N H H'':=λj hj e=>k j hj<|h j hj e
def HJ.upd{N:Nat->Prop}{H H':Hp}(h:HJ N H H'){id:Nat}{ob:Option Ob}(hid:N id\/H id≠G):HJ N H (upd H' id ob):=λj hj e=>by
 rw[BB _ _ (λe'=>by subst e';exact hid.elim hj λh=>h e)];exact h j hj e
mutual
theorem Jg {N:Nat->Prop} :∀(h:Sh) (H:Hp) (b:Nat) (x:LT h),(∀j,b<=j->j<(BG E H b h x).2.2->N j)->HJ N H (BG E H b h x).2.1
 | .int _,H,_,_,_=> .refl _ _
 | .bool,H,_,_,_=> .refl _ _
 | .str,H,_,_,_=> .refl _ _
 | .sl _,H,_,_,_=> .refl _ _
 | .arr _,H,_,_,_=> .refl _ _
 | .same _,H,_,_,_=> .refl _ _
 | .fz _,H,_,_,_=> .refl _ _
 | .row _ _,H,b,_,hN=>(HJ.refl _ _).upd (.inl<|hN b (Ar b)<|OX b)
 | .Cd _ _,H,b,_,hN=>(HJ.refl _ _).upd (.inl<|hN b (Ar b)<|OX b)
 | .abx _ _,H,b,_,hN=>(HJ.refl _ _).upd (.inl<|hN b (Ar b)<|OX b)
 | .agg l,H,b,x,hN=>by
  have un:BG E H b (.agg l) x=(match Ah E H b l x with|(cs,H,b)=>(AV.agg cs,H,b)):=rfl;have ih:=Wa (N:=N) l H b x;rw[un]at hN ⊢;generalize Ah E H b l x=r at *;exact ih hN
 | .box e l,H,b,x,hN=>by
  have un:BG E H b (.box e l) x=(match Ah E H b l x with|(cs,H,b)=>(AV.ptr b cs.length 0 0,upd H b<|I<|.box e cs,b+1)):=rfl;have ih:=Wa (N:=N) l H b x;have hle:=J2 E l H b x;rw[un]at hN ⊢;generalize Ah E H b l x=r at *;obtain⟨cs,H',b'⟩:=r;exact(ih λj h1 h2=>hN j h1<|Nat.lt_succ_of_lt h2).upd<|.inl<|hN b' hle<|OX b'
theorem Wa {N:Nat->Prop} :∀(l:List Sh) (H:Hp) (b:Nat) (x:LTs l),(∀j,b<=j->j<(Ah E H b l x).2.2->N j)->HJ N H (Ah E H b l x).2.1
 | [],H,_,_,_=> .refl _ _
 | h::l,H,b,x,hN=>by
  have un:Ah E H b (h::l) x=(match BG E H b h x.1 with|(c,H,b)=>match Ah E H b l x.2 with|(cs,H,b)=>(c::cs,H,b)):=rfl;have ih:=Jg (N:=N) h H b x.1;have hle:=EO E h H b x.1;rw[un]at hN ⊢;generalize BG E H b h x.1=r at *;obtain⟨c,H',b'⟩:=r;have ih2:=Wa (N:=N) l H' b' x.2;have PA:=J2 E l H' b' x.2;simp only at hN ⊢;generalize Ah E H' b' l x.2=r at *;obtain⟨cs,H'',b''⟩:=r;exact(ih λj h1 h2=>hN j h1<|Gj h2 PA).trans<|ih2 λj h1 h2=>hN j (CP hle h1) h2
end
mutual
theorem aCy (E:Nat->AV):∀(h:Sh) (H:Hp) (b:Nat) (v:AV) (x:LT h),b<=(Cy E H b h v x).2.2
 | .box e l,H,b,v,x=>by
  by_cases hv:∃id z,v= .ptr id z 0 0
  .obtain⟨id,z,rfl⟩:=hv;have un:Cy E H b (.box e l) (.ptr id z 0 0) x=(match H id with
    | some (.box _ cs)=>(match BO E H b l cs x with|(ds,H,b)=>(AV.ptr id z 0 0,upd H id<|I<|.box e ds,b))
    | _=>(.un,H,b)):=rfl
   rw[un];cases H id with
   | none=>exact Ar b
   | some ob=>
    cases ob with
    | box e' cs=>
     have:=S9 E l H b cs x;simp only;generalize BO E H b l cs x=r at *;obtain⟨ds,H',b'⟩:=r;exact this
    | _=>exact Ar b
  .have:Cy E H b (.box e l) v x=BG E H b (.box e l) x:=by
    cases v<;>first|rfl|skip
    rename_i id z i o;cases i<;>cases o<;>first|rfl|exact absurd ⟨_,_,rfl⟩ hv
   rw[this];exact EO E _ H b x
 | .int _,H,b,v,x=>EO E _ H b x
 | .bool,H,b,v,x=>EO E _ H b x
 | .str,H,b,v,x=>EO E _ H b x
 | .sl _,H,b,v,x=>EO E _ H b x
 | .row _ _,H,b,v,x=>EO E _ H b x
 | .fz _,H,b,v,x=>EO E _ H b x
 | .Cd _ _,H,b,v,x=>EO E _ H b x
 | .abx _ _,H,b,v,x=>EO E _ H b x
 | .arr _,H,b,v,x=>EO E _ H b x
 | .same _,H,b,v,x=>Ar b
 | .agg _,H,b,v,x=>EO E _ H b x
theorem S9 (E:Nat->AV):∀(l:List Sh) (H:Hp) (b:Nat) (cs:List AV) (x:LTs l),b<=(BO E H b l cs x).2.2
 | [],_,b,_,_=>Ar b
 | h::l,H,b,cs,x=>by
  have h1:=aCy E h H b (cs.headD .un) x.1;have un:BO E H b (h::l) cs x=(match Cy E H b h (cs.headD .un) x.1 with|(d,H,b)=>match BO E H b l cs.tail x.2 with|(ds,H,b)=>(d::ds,H,b)):=rfl;rw[un];generalize Cy E H b h (cs.headD .un) x.1=r at *;obtain⟨c,H',b'⟩:=r;have h2:=S9 E l H' b' cs.tail x.2;simp only;generalize BO E H' b' l cs.tail x.2=r at *;obtain⟨cs,H'',b''⟩:=r;exact CP h1 h2
end
mutual
theorem are {N:Nat->Prop} :∀(h:Sh) (H:Hp) (b:Nat) (v:AV) (x:LT h),(∀j,b<=j->j<(Cy E H b h v x).2.2->N j)->HJ N H (Cy E H b h v x).2.1
 | .box e l,H,b,v,x,hN=>by
  by_cases hv:∃id z,v= .ptr id z 0 0
  .obtain⟨id,z,rfl⟩:=hv;have un:Cy E H b (.box e l) (.ptr id z 0 0) x=(match H id with
    | some (.box _ cs)=>(match BO E H b l cs x with|(ds,H,b)=>(AV.ptr id z 0 0,upd H id<|I<|.box e ds,b))
    | _=>(.un,H,b)):=rfl
   rw[un]at hN ⊢;cases ho:H id with
   | none=>exact .refl _ _
   | some ob=>
    rw[ho]at hN;cases ob with
    | box e' cs=>
     have ih:=ij (N:=N) l H b cs x;simp only at hN ⊢;generalize BO E H b l cs x=r at *;obtain⟨ds,H',b'⟩:=r;exact(ih hN).upd<|.inr (by rw[ho];simp)
    | _=>exact .refl _ _
  .have:Cy E H b (.box e l) v x=BG E H b (.box e l) x:=by
    cases v<;>first|rfl|skip
    rename_i id z i o;cases i<;>cases o<;>first|rfl|exact absurd ⟨_,_,rfl⟩ hv
   rw[this]at hN ⊢;exact Jg (E:=E) _ H b x hN
 | .int _,H,b,v,x,hN=>Jg (E:=E) _ H b x hN
 | .bool,H,b,v,x,hN=>Jg (E:=E) _ H b x hN
 | .str,H,b,v,x,hN=>Jg (E:=E) _ H b x hN
 | .sl _,H,b,v,x,hN=>Jg (E:=E) _ H b x hN
 | .row _ _,H,b,v,x,hN=>Jg (E:=E) _ H b x hN
 | .fz _,H,b,v,x,hN=>Jg (E:=E) _ H b x hN
 | .Cd _ _,H,b,v,x,hN=>Jg (E:=E) _ H b x hN
 | .abx _ _,H,b,v,x,hN=>Jg (E:=E) _ H b x hN
 | .arr _,H,b,v,x,hN=>Jg (E:=E) _ H b x hN
 | .same _,H,b,v,x,hN=> .refl _ _
 | .agg l,H,b,v,x,hN=>Jg (E:=E) _ H b x hN
theorem ij {N:Nat->Prop} :∀(l:List Sh) (H:Hp) (b:Nat) (cs:List AV) (x:LTs l),(∀j,b<=j->j<(BO E H b l cs x).2.2->N j)->HJ N H (BO E H b l cs x).2.1
 | [],H,_,_,_,_=> .refl _ _
 | h::l,H,b,cs,x,hN=>by
  have un:BO E H b (h::l) cs x=(match Cy E H b h (cs.headD .un) x.1 with|(d,H,b)=>match BO E H b l cs.tail x.2 with|(ds,H,b)=>(d::ds,H,b)):=rfl;have ih:=are (N:=N) h H b (cs.headD .un) x.1;have hle:=aCy E h H b (cs.headD .un) x.1;rw[un]at hN ⊢;generalize Cy E H b h (cs.headD .un) x.1=r at *;obtain⟨c,H',b'⟩:=r;have ih2:=ij (N:=N) l H' b' cs.tail x.2;have PA:=S9 E l H' b' cs.tail x.2;simp only at hN ⊢;generalize BO E H' b' l cs.tail x.2=r at *;obtain⟨cs,H'',b''⟩:=r;exact(ih λj h1 h2=>hN j h1<|Gj h2 PA).trans<|ih2 λj h1 h2=>hN j (CP hle h1) h2
end
def aB0{N:Nat->Prop}(q:Bool)(ids:List Nat){s s':S}(h:BC N s s'):BC N s (GK q ids s'):=by
 cases q
 .exact h
 .exact BC.L8 ids h
def apt{m:DS}{d:Option Nat}{as:List AV}(h:HU m s b d as I=I s'):BC (λj=>b<=j/\j<b+16) s s':=by
 unfold HU at h;simp only at h;split at h
 .rename_i x hx hn;obtain⟨r,hr,h⟩:=Ag.1 h;have k1:BC (λj=>b<=j/\j<b+16) s (GK (CO m.rs||CO (Az m.ps)) (Cr s.H m.ps as)<|(CZ s.H m.ps as).foldl S.kill s):=aB0 _ _<|BC.nb _<|BC.refl _ s;generalize GK (CO m.rs||CO (Az m.ps)) (Cr s.H m.ps as) ((CZ s.H m.ps as).foldl S.kill s)=s2 at *;have k2:=ij (E:=λi=>(as[i]?).getD .un) (N:=λj=>b<=j/\j<b+16) (Az m.ps) s2.H b (Fq m.ps as) r.2;have l2:=S9 (λi=>(as[i]?).getD .un) (Az m.ps) s2.H b (Fq m.ps as) r.2;generalize BO (λi=>(as[i]?).getD .un) s2.H b (Az m.ps) (Fq m.ps as) r.2=q at *;obtain⟨ds,H1,b1⟩:=q;simp only at h;have k3:=Wa (E:=λi=>(as[i]?).getD .un) (N:=λj=>b<=j/\j<b+16) m.rs H1 b1 r.1;have l3:=J2 (λi=>(as[i]?).getD .un) m.rs H1 b1 r.1;generalize Ah (λi=>(as[i]?).getD .un) H1 b1 m.rs r.1=q at *;obtain⟨vs,H2,b2⟩:=q;simp only at h l2 l3 k2 k3;split at h
  .rename_i hb;have hb:=Da hb;cases h;have k4:=(k2 λj h1 h2=>⟨h1,J⟩).trans (k3 λj h1 h2=>⟨J,J⟩);exact BC.put (s':={ s2 with H:=H2 }) ⟨k1.nid,k1.n,k1.pins,λj hj e=>k4 j hj<|k1.nn j hj e⟩ _ _
  .cases h
 .cases h
def Gp(r:PR):Prop:=∀q v os,r=I (q,v,os)->os.length<=1
def Gp.none:Gp .none:=λ_ _ _ h=>by cases h
def Gp.okA{v:AV}:Gp (okA v):=λ_ _ _ h=>by obtain⟨_,_,rfl⟩:=DH h;simp
def Gp.okN{v:AV}:Gp (okN v):=λ_ _ _ h=>by obtain⟨_,_,rfl,_⟩:=O5 h;simp
def Gp.nil{q:Bool}{v:AV}:Gp (I (q,v,[])):=λ_ _ _ h=>by cases h;simp
def Gp.one{q:Bool}{v:AV}{o:Ob}:Gp (I (q,v,[o])):=λ_ _ _ h=>by cases h;simp
def Gp.bind{α:Type}{o:Option α}{f:α->PR}(h:∀a,Gp<|f a):Gp (o.bind f):=by
 cases o with
 | none=>exact .none
 | some a=>exact h a
def aBi{x y:TypeId}{v:AV}:Gp (Ie P x y v):=by
 unfold Ie
 repeat' (first|exact .none|exact .okA|exact .okN|exact .nil|exact .one|refine .bind λ_=> ?_|split)
def atE{ρ:Operand->AV}{H:Hp}{c:Call}:Gp (JA P ρ H c):=by
 unfold JA
 repeat' (first|exact .none|exact .okA|exact .okN|exact .nil|exact .one|refine .bind λ_=> ?_|split)
def avU{op:BinOp}{t:TypeId}{x y:AV}:Gp (P1 P op t x y):=by
 unfold P1 Ts Tr
 repeat' (first|exact .none|exact .okA|exact .okN|exact .nil|exact .one|refine .bind λ_=> ?_|split)
def aqq{ρ:Operand->AV}{H:Hp}{op:Op}:Gp (CA P kd ρ H b op):=by
 cases op<;>simp only[CA]<;>try (exact .none)
 case binOp=>exact avU
 case call=>exact atE
 case convert=>
  split
  .repeat' (first|exact .none|exact .okA|refine .bind λ_=> ?_|split)
  .split
   .rename_i h;exact λq v os e=>by cases e;exact aBi _ _ _ h
   .exact aBi
 case pick=>
  unfold OS
  repeat' (first|exact .none|exact .okA|exact .okN|exact .nil|exact .one|refine .bind λ_=> ?_|split)
 case unOp=>
  unfold unA
  repeat' (first|exact .none|exact .okA|exact .okN|exact .nil|exact .one|refine .bind λ_=> ?_|split)
 case slice t x lo hi mx=>
  cases mx with
  | some m=>exact .none
  | none=>
   simp only;unfold QE
   repeat' (first|exact .none|exact .okA|exact .okN|exact .nil|exact .one|refine .bind λ_=> ?_|split)
 case index=>
  unfold Qo
  repeat' (first|exact .none|exact .okA|exact .okN|exact .nil|exact .one|refine .bind λ_=> ?_|split)
 case indexAddr=>
  unfold Mc
  repeat' (first|exact .none|exact .okA|exact .okN|exact .nil|exact .one|refine .bind λ_=> ?_|split)
 all_goals repeat' (first|exact .none|exact .okA|exact .okN|exact .nil|exact .one|refine .bind λ_=> ?_|split)
def aAF:∀(os:List Ob) (H:Hp) (b:Nat) {j:Nat},¬(b<=j/\j<b+os.length)->H j=G->Et H b os j=G
 | [],_,_,_,_,h=>h
 | o::os,H,b,j,hj,h=>by
  refine aAF os _ _ (λhh=>hj ⟨J,by simp;omega⟩) ?_;rw[BB _ _ λe=>hj ⟨J,by simp;omega⟩];exact h
def aqp{ρ:Operand->AV}{H:Hp}{op:Op}{d:Option Nat}
  (he:(match CA P kd ρ H b op with
   | some (q,v,os)=>if q then I ({ s with H:=Et s.H b os }.put d v) else G
   | none=>G)=I s'):BC (λj=>b<=j/\j<b+16) s s':=by
 split at he
 .rename_i q v os hp;split at he
  .cases he;have:=aqq _ _ _ hp;exact BC.put (N:=λj=>b<=j/\j<b+16) (s:=s) (s':={ s with H:=Et s.H b os }) ⟨rfl,rfl,rfl,λj hj e=>aAF os s.H b (λhh=>hj ⟨hh.1,J⟩) e⟩ _ _
  .cases he
 .cases he
def aAv{o:Oper}(he:CI C (AF S) o b s I=I s'):BC (λj=>b<=j/\j<b+16) s s':=by
 unfold CI at he;split at he
 .cases he
 generalize ho:o.op=op at he;have pu:∀s0:S,(match CA C.P C.kd s0.ev s0.H b op with
   | some (q,v,os)=>if q then I ({ s0 with H:=Et s0.H b os }.put o.dst v) else G
   | none=>G)=I s'->BC (λj=>b<=j/\j<b+16) s0 s':=λs0 he=>aqp he
 cases op<;>try (exact pu s he)
 case store t p x=>
  simp only at he;split at he
  .rename_i s1 hs;cases he;exact(apB hs).put _ _
  .cases he
 case call c=>
  simp only at he;split at he
  .split at he
   .exact apt he
   .cases he
  .split at he
   .rename_i q v s1 hs;split at he
    .cases he;exact(aoa (N:=λj=>b<=j/\j<b+16) ⟨Ar b,J⟩ hs).put _ _
    .cases he
   .cases he
  .split at he
   .rename_i v s1 hs;cases he;exact(aqC hs).put _ _
   .cases he
  .exact pu s he
 case slice t x lo hi mx=>
  cases mx with
  | some m=>exact pu s he
  | none=>
   simp only at he;split at he
   .split at he
    .cases he
    .split at he
     .rename_i q v s1 hs;split at he
      .cases he;exact(alk hs).put _ _
      .cases he
     .cases he
   .exact pu s he
 case buildSlice t n ps=>
  simp only at he;exact(BC.L8 _<|BC.refl _ s).trans<|pu _ he
def aBg{ops:Array Oper}{o:Oper}(he:ev1 C ops o b s=I s'):BC (λj=>b<=j/\j<b+16) s s':=by
 unfold ev1 evG at he;split at he
 .exact aAv he
 .rename_i jj want hg;split at he
  .cases he
  .rename_i g _ _;split at he
   .rename_i qq v _ _;split at he
    .split at he
     case isFalse=>cases he
     cases he;have:=(BC.refl (λj=>b<=j/\j<b+16) s).put o.dst<|.gd g want v;exact⟨this.nid,this.n,this.pins,this.nn⟩
    .cases he
   .cases he
  .rename_i g _ _;have yes:∀w,CI C (AF S) o b { s with T:=upd s.T g (.b w) } I=I s'->BC (λj=>b<=j/\j<b+16) s s':=λw h=>by
    have:=aAv h;exact⟨this.nid,this.n,this.pins,this.nn⟩
   have no:∀w,(match s.has o.dst with
      | true=>I (({ s with T:=upd s.T g (.b w) } :S).put o.dst Dl)
      | false=>G)=I s'->BC (λj=>b<=j/\j<b+16) s s':=λw h=>by
    split at h
    .cases h;have:BC (λj=>b<=j/\j<b+16) s { s with T:=upd s.T g (.b w) } :=⟨rfl,rfl,rfl,λ_ _ e=>e⟩;exact this.put _ _
    .cases h
   split at he
   .rename_i c hT;cases want<;>cases c<;>simp only[A2,if_false,Ha]at he
    .exact yes _ he
    .exact no _ he
    .exact no _ he
    .exact yes _ he
   .split at he
    .cases he;exact(BC.refl _ s).put _ _
    .cases he
   .cases he
end
end Go.VS
end
