/- Part 2. -/
import Derived.WalkKit
import Derived.Test.YtcdeafiabojglaaGreatDoorQAA
import Derived.Laws.StructEq
import Derived.Laws.BytesArg
import Derived.Laws.MakeOwn
import Derived.Great.BuildSlice
import Derived.Lib.ConvBytes
open Array renaming eq_empty_of_size_eq_zero->aD9,getD_eq_getD_getElem?->Ty,getElem?_append_left->MQ,getElem?_eq_some_iff->HH,getElem?_setIfInBounds_ne->aDA,getElem?_toList->Tv,length_toList->Ez,mem_append->NN,range->U2,size_append->Qz,size_replicate->nC,toArray_toList->nB,toList_setIfInBounds->mR
open Bool renaming and_eq_true->AE,and_self->EY,false->A0,false_and->AO,false_eq_true->Hj,false_or->Bn,not_eq_true'->CM,not_eq_true->GK,not_false->AH,not_true->AB,or_eq_true->C8,or_false->EX,or_self->GL,true->Y,true_and->AS,true_or->Bw
open ByteArray renaming data_extract->Zs
open Decidable renaming decide->U
open Go renaming binOp->IL
open Go.Addr renaming add_lit->Gh
open Go.Builtin renaming append_->MS,copy_->mY,firstCells->IH,lenOf->mX,len_->Qu,nextslicecap->mN,zeroCells->MK
open Go.ByteArray renaming toList_eq->aDC
open Go.Call renaming operands->NP
open Go.Code renaming region->R5
open Go.Instr renaming fill->NI,index->mj,indexAt->U9,loadAt->NM,sliceAt->Qg,sliceBounds->Qk,storeAt->Qh,sureAddr->Jc
open Go.Op renaming eqFields->U1,operands->BY,stringOp->mi
open Go.Region renaming binds->Fj,ready->PA,wanted->JX
open Go.Result renaming andThen_ok->F2
open Go.Sem renaming run_bind->Eh,run_pure->Fl
open Go.Value renaming slice->mm
open Go.World renaming block_lt_of_cell?->U7,cell?->MT,cell?_of_block->UB
open Int renaming le_refl->Dw
open List renaming all_eq_true->DB,any_eq_true->KD,append_assoc->C7,append_nil->CE,append_of_mem->U3,drop_drop->J5,drop_eq_nil_of_le->KI,eq_nil_of_length_eq_zero->Df,flatMap_append->mb,flatMap_cons->P6,foldl_append->Fg,foldl_cons->Du,foldl_nil->KK,getD_eq_getElem?_getD->BG,getElem?_append_left->II,getElem?_append_right->FN,getElem?_cons_succ->aD6,getElem?_cons_zero->Zp,getElem?_drop->Hk,getElem?_eq_getElem->Av,getElem?_eq_some_iff->BR,getElem?_map->DA,getElem?_range->Gj,getElem?_set_self->Zr,getElem?_take->Gk,getElem?_toArray->Tw,getElem_mem->Ci,length->Jd,length->j8,length_append->Am,length_cons->Bm,length_drop->E4,length_map->De,length_nil->CL,length_range->R0,length_take->DW,map_congr_left->Gi,map_cons->DV,map_id'->mg,map_map->IF,map_nil->IK,mem_append->BN,mem_append_left->Bz,mem_append_right->CW,mem_cons->Bj,mem_cons_of_mem->Ah,mem_cons_self->Ao,mem_filterMap->GO,mem_iff_getElem?->mw,mem_map->C0,mem_of_getElem?->Cp,mem_of_mem_drop->Iz,mem_of_mem_take->HI,mem_range->Cy,mem_toArray->Tr,nil_append->EV,nodup_append->Jb,nodup_cons->IG,pairwise_append->NO,pairwise_cons->KE,pairwise_lt_range->Qp,range->B1,replicate->BZ,singleton_append->aDH,size_toArray->LG,take_add_one->JW,take_left'->P4,toList_toArray->aDD,zipIdx_cons->mK
open List.cons renaming injEq->MR
open Nat renaming add_assoc->D8,add_comm->NR,add_mul->EH,add_zero->Ho,beq->Af,beq_eq->HJ,ble->Dv,div_lt_iff_lt_mul->aDI,eq_of_beq_eq_true->Zt,land->P9,le_add_right->Zl,le_of_ble_eq_true->DL,le_refl->Ar,le_succ->mq,le_trans->C6,lor->BQ,lt_of_lt_of_le->Gl,lt_or_gt_of_ne->U5,lt_succ_self->P3,min->F1,min_eq_left->R4,mod_eq_of_lt->P2,mod_lt->P7,mul_le_mul->my,mul_le_mul_right->E3,ne_of_lt->P8,one_mul->P1,sub_mul->aA,zero_add->DM,zero_le->Ch,zero_mul->UC
open Ne renaming symm->LL
open Option renaming bind_eq_some_iff->Ag,bind_some->A6,map_eq_some_iff->D9,map_some->Qi,none->G,some->I
open Option.some renaming inj->E5,injEq->Bv
open Prod.mk renaming injEq->CS
set_option linter.all false
noncomputable section
namespace Go.VS
open Go
def RX(w:World)(β:Beta)(tm:Nat->Value):AV->Value->Prop
 | .gd g want x,v=>tm g= .bool want->R2 w β x v
 | c,v=>R2 w β c v
def RT.bP{w:World}{β:Beta}{tm:Nat->Value}{c:AV}{v:Value}(h:RT w β tm c v):RX w β tm c v:=by
 cases c<;>first|exact h|exact h.1
def Good(B:Be)(β:Beta)(H:Hp)(w:World)(b:Nat)(v:AV)(os:List Ob)(r:Result Next):Prop:=
 ∃u w' β',r= .ok (.value u) w'/\Hs B β' (En H b os) w'/\Kp w β w' β'/\R2 w' β' v u
section
variable {P:Program} {B:Be} {β:Beta} {H:Hp} {w:World} {b:Nat} {tm:Nat->Value}
def Good.same(hH:Hs B β H w){v:AV}{u:Value}{r:Result Next}(hr:r= .ok (.value u) w)(hv:R2 w β v u):Good B β H w b v [] r:=
 ⟨u,w,β,hr,hH,Kp.refl _ _,hv⟩
def OQ{v v':AV}{c:Bool}{os:List Ob}(h:okN v=I (c,v',os)):v'=v/\c=Y/\os=[]/\ ∀g w x,v≠ .gd g w x:=by
 cases v<;>simp[okN,okA]at h<;>(obtain⟨rfl,rfl,rfl⟩:=h;exact⟨rfl,rfl,rfl,by simp⟩)
def DO{v v':AV}{c:Bool}{os:List Ob}(h:okA v=I (c,v',os)):v'=v/\c=Y/\os=[]:=by
 simp[okA]at h;obtain⟨rfl,rfl,rfl⟩:=h;exact⟨rfl,rfl,rfl⟩
def RX.of{c:AV}{v:Value}(h:RX w β tm c v)(hn:∀g w x,c≠ .gd g w x):R2 w β c v:=by
 cases c<;>first|exact h|exact absurd rfl (hn _ _ _)
def RX.lit{v' v:Value}(h:RX w β tm (.lit v') v):v=v':=h
def RX.agg{cs:List AV}{v:Value}(h:RX w β tm (.agg cs) v):∃us:List Value,v= .agg us.toArray/\RL (RC w β) cs us:=h
def RX.tup{cs:List AV}{v:Value}(h:RX w β tm (.tup cs) v):∃us:List Value,v= .tuple us.toArray/\RL (R1 w β) cs us:=h
def asn{ρ:Operand->AV}{η:Operand->Value}(hη:∀x,RX w β tm (ρ x)<|η x)(htm:∀g,η (.tmp g)=tm g)(hc:∀v,η (.const v)=v)(hH:Hs B β H w)
  {c x y:Operand}{q:Bool}{v:AV}{os:List Ob}(h:Ow ρ c x y=I (q,v,os))(hq:q=Y){o:Oper}(ho:o.op= .pick c x y):Good B β H w b v os ((execOp η o).run P w):=by
 subst hq;have key:∀(p:Bool),ρ c= .lit (.bool p)->(execOp η o).run P w= .ok (.value<|if p then η x else η y) w:=by
  intro p hp;have hcv:η c= .bool p:=by have:=hη c;rw[hp]at this;exact this
  unfold execOp;rw[ho];simp[hcv,asBool]
 have abq:∀(want:Bool) (z:Operand) (r:Bool),LC (QZ want (ρ z) c)=I r->(η c= .bool want->η z= .bool r):=by
  intro want z r hr hcw;have hz:=hη z;cases hρ:ρ z with
  | gd g w' x'=>
   rw[hρ]at hr hz;unfold QZ at hr;cases c with
   | tmp g'=>
    simp only[Gb]at hr;cases h1:Af g' g with
    | false=>rw[h1]at hr;simp[LC]at hr
    | true=>
     obtain rfl:=Br h1;cases h2:want == w' with
     | false=>rw[h1,h2]at hr;simp[LC]at hr
     | true=>
      obtain rfl:want=w':=by simpa using h2
      rw[h1,h2]at hr;have hzz:=hz (by rw[← htm];exact hcw);cases x'<;>simp[LC]at hr;rename_i vv;cases vv<;>simp at hr;subst hr;exact hzz
   | _=>simp[LC]at hr
  | lit vv=>
   rw[hρ]at hr hz;have:LC (AV.lit vv)=I r:=by
    unfold QZ at hr;cases c<;>simpa[Gb] using hr
   cases vv<;>simp[LC]at this;subst this;exact hz
  | _=>
   rw[hρ]at hr;unfold QZ at hr;cases c<;>simp[Gb,LC]at hr
 unfold Ow at h;split at h
 .rename_i p hp;split at h
  .rename_i r hr;obtain⟨rfl,_,rfl⟩:=DO h;refine Good.same hH (key _ hp) ?_;have hcv:η c= .bool p:=by have:=hη c;rw[hp]at this;exact this
   cases p with
   | true=>simp only[A2,Bw];exact hc _
   | false=>simp only[Hj,if_false,Bn];exact abq A0 _ r hr hcv
  .split at h
   .obtain⟨rfl,_,rfl⟩:=DO h;refine Good.same hH (key _ hp) ?_;simp only[A2];exact hc _
   .obtain⟨rfl,_,rfl,hg⟩:=OQ h;refine Good.same hH (key _ hp) ?_;simp only[Hj,if_false];exact(hη _).of hg
 .rename_i p hp _;split at h
  .rename_i r hr;obtain⟨rfl,_,rfl⟩:=DO h;refine Good.same hH (key _ hp) ?_;have hcv:η c= .bool p:=by have:=hη c;rw[hp]at this;exact this
   cases p with
   | true=>simp only[A2,AS];exact abq Y _ r hr hcv
   | false=>simp only[Hj,if_false,AO];exact hc _
  .split at h
   .obtain⟨rfl,_,rfl,hg⟩:=OQ h;refine Good.same hH (key _ hp) ?_;simp only[A2];exact(hη _).of hg
   .obtain⟨rfl,_,rfl⟩:=DO h;refine Good.same hH (key _ hp) ?_;simp only[Hj,if_false];exact hc _
 .rename_i p hp _ _;split at h
  .obtain⟨rfl,_,rfl,hg⟩:=OQ h;refine Good.same hH (key _ hp) ?_;simp only[A2];exact(hη _).of hg
  .obtain⟨rfl,_,rfl,hg⟩:=OQ h;refine Good.same hH (key _ hp) ?_;simp only[Hj,if_false];exact(hη _).of hg
 .cases h
end
end Go.VS
namespace Go.VS
open Go
section
variable {P:Program} {B:Be} {β:Beta} {H:Hp} {w:World} {b:Nat} {tm:Nat->Value}
def RC.azI{k:K}{x:Tof k}{o:Nat}{v:Value}(h:RC w β (.ipt k x o) v):∃bb f us,v= .pointer (I ⟨bb,f+o,G⟩)/\RL (RC w β) (enc k x) us/\ ∀j u,us[j]? =I u->w.cell? ⟨bb,f+j,G⟩=I u:=by
 cases h with
 | @ipt _ _ _ bb f u hM hu hr=>
  refine⟨bb,f,(B1<|ks k).map u,rfl,⟨by simp[EL],λj c v hc hv=> ?_⟩,λj v hv=> ?_⟩
  .simp only[DA,D9]at hv;obtain⟨i,hi,rfl⟩:=hv;rw[Gj (by have:=(BR.1 hi).1;simpa using this)]at hi;cases hi;exact hr _ _ hc
  .simp only[DA,D9]at hv;obtain⟨i,hi,rfl⟩:=hv;have hlt:j<ks k:=by have:=(BR.1 hi).1;simpa using this
   rw[Gj hlt]at hi;cases hi;exact hu _ hlt
def OH{i n s j:Nat}(hi:i<n)(hj:j<s):i * s+j<n * s:=by
 have:(i+1) * s<=n * s:=E3 _ hi;rw[EH]at this;omega
def FT.elem{e:TypeId}{fz:Bool}{k:K}{xs:List (Tof k)}{hd:Value}(h:FT w β e fz k xs hd){bb f:Nat}(ha:adr hd=I ⟨bb,f,G⟩){i:Nat}{x:Tof k}(hi:xs[i]? =I x):
  ∃us,RL (RC w β) (enc k x) us/\ ∀j u,us[j]? =I u->w.cell? ⟨bb,f+(i * ks k+j),G⟩=I u:=by
 obtain⟨rfl,_⟩|⟨b',f',cap,us,fr,hd',hh,hfr,hn,hc,hs,hr⟩:=h
 .cases ha
 .have ha':adr hd=I ⟨b',f',G⟩:=by rw[hd'];rfl
  rw[ha]at ha';cases ha';have hlt:i<xs.length:=(BR.1 hi).1;have Ct:∀j,j<ks k->f+(i * ks k+j)<us.size:=λj hj=>by
   have h1:=OH hlt hj;have h2:xs.length * ks k<=cap * ks k:=E3 _ hn;omega
  refine⟨(B1<|ks k).map λj=>us.getD (f+(i * ks k+j)) undef,⟨by simp[EL],λj c v hc hv=> ?_⟩,λj v hv=> ?_⟩
  .simp only[DA,D9]at hv;obtain⟨q,hq,rfl⟩:=hv;have KX:j<ks k:=by have:=(BR.1 hq).1;simpa using this
   rw[Gj KX]at hq;cases hq;exact hr i x _ c _ hi hc (by simp[Ct _ KX])
  .simp only[DA,D9]at hv;obtain⟨q,hq,rfl⟩:=hv;have KX:j<ks k:=by have:=(BR.1 hq).1;simpa using this
   rw[Gj KX]at hq;cases hq;rw[cell_of_row w bb _ us e fr hh];simp[Ct _ KX]
def getD_some{α:Type}{xs:List α}{i:Nat}{d:α}(h:i<xs.length):xs[i]? =I (xs.getD i d):=by simp[h]
def aDx(hP:P=B.P)(hH:Hs B β H w){t:TypeId}{c v:AV}{a:Value}(hx:R2 w β c a)(h:K6 P H t c=I v):
  ∃u,(NM t a).run P w= .ok u w/\R1 w β v u:=by
 unfold K6 at h;cases c<;>simp only at h<;>try cases h
 case ipt k x o=>
  obtain⟨bb,f,us,rfl,hl,hc⟩:=RC.azI hx;obtain⟨u,hu,hr⟩:=YG (P:=P) h hl hc;exact⟨u,by simpa[NM,Jc] using hu,hr⟩
 case ptr id z i o=>
  have hx':RC w β (.ptr id z i o) a:=hx;cases hx' with
  | @ptr _ _ _ _ hd n bb f hβ ha hi=>
   cases hid:H id with
   | none=>rw[hid]at h;cases h
   | some ob=>
    have hob:=hH.EJ id ob hid;rw[hid]at h;cases ob with
    | box e cs=>
     obtain⟨b',us,h1,h2,h3⟩:=hob;rw[hβ]at h1;obtain⟨rfl,rfl⟩:hd= .pointer (I ⟨b',0,G⟩)/\n=1:=by simpa using h1
     obtain⟨rfl,rfl⟩:b'=bb/\0=f:=by simpa[adr] using ha
     obtain rfl:i=0:=J
     simp only at h;obtain⟨u,hu,hr⟩:=YG (P:=P) (b:=b') (f:=0) h h3 (λj u hj=>by
      rw[cell_of_row w b' _ us e (0,0) h2];simpa using hj)
     refine⟨u, ?_,hr⟩;simpa[NM,Jc] using hu
    | row e fz k xs=>
     obtain⟨hd',h1,h2⟩:=hob;rw[hβ]at h1;obtain⟨rfl,rfl⟩:hd=hd'/\n=xs.length:=by simpa using h1
     simp only at h;split at h
     .rename_i hb;obtain rfl:=Br hb;obtain⟨us,hl,hc⟩:=h2.elem ha<|getD_some (d:=dfl k) hi;obtain⟨u,hu,hr⟩:=YG (P:=P) (b:=bb) (f:=f+i * ks k) h hl (λj u hj=>by
       have:=hc j u hj;rwa[← D8]at this)
      refine⟨u, ?_,hr⟩;simpa[NM,Jc,D8] using hu
     .cases h
    | arr e k xs=>
     obtain⟨b',us,h1,hh,hsz,hce,hr⟩:=hob;rw[hβ]at h1;obtain⟨rfl,rfl⟩:hd= .pointer (I ⟨b',0,G⟩)/\n=xs.length:=by simpa using h1
     obtain⟨rfl,rfl⟩:b'=bb/\0=f:=by simpa[adr] using ha
     simp only at h;split at h
     .rename_i na ea hu;split at h
      .rename_i hb;simp only[AE]at hb;obtain rfl:=Br hb.1;have h1:=DL hb.2;cases h;have hag:(isAgg e).run P w= .ok Y w:=by unfold isAgg;simp only[Eh,run_underlying hu,F2];rfl
       refine⟨.agg us, ?_,us.toList,by simp,by simpa using hsz,λi x j c u a1 a2 a3=>hr i x j c u a1 a2<|by simpa using a3⟩;have hr2:=run_loadCells_list (P:=P) w ⟨b',0,G⟩ us.toList (λj v hj=>by
        rw[Gh,cell_of_row w b' _ us e (0,0) hh];simpa using hj)
       simp only[Ez,nB]at hr2;have hcs:P.cellsOf e=us.size:=by rw[hP];exact hce.symm
       simp only[NM,Jc,loadVar,Eh,Fl,F2,hag,A2,L0 h1,hcs,UC,Ho,hr2]
      .cases h
     .split at h
      .rename_i hb;obtain rfl:=Br hb;have hlt:∀j,j<ks k->i * ks k+j<us.size:=λj hj=>by rw[hsz];exact OH hi hj
       have hx:=getD_some (d:=dfl k) hi;obtain⟨u,hu,hr'⟩:=YG (P:=P) (w:=w) (β:=β) (b:=b') (f:=i * ks k) (us:=(B1<|ks k).map λj=>us.getD (i * ks k+j) undef) h ⟨by simp[EL],λj c v hc hv=>by
        simp only[DA,D9]at hv;obtain⟨q,hq,rfl⟩:=hv;have KX:j<ks k:=by have:=(BR.1 hq).1;simpa using this
        rw[Gj KX]at hq;cases hq;exact hr i _ _ c _ hx hc<|by simp[hlt _ KX]⟩ (λj v hv=>by
        simp only[DA,D9]at hv;obtain⟨q,hq,rfl⟩:=hv;have KX:j<ks k:=by have:=(BR.1 hq).1;simpa using this
        rw[Gj KX]at hq;cases hq;rw[cell_of_row w b' _ us e (0,0) hh];simp[hlt _ KX])
       refine⟨u, ?_,hr'⟩;simpa[NM,Jc,D8] using hu
      .cases h
end
end Go.VS
namespace Go.VS
open Go
section
variable {P:Program} {B:Be} {β:Beta} {H:Hp} {w:World} {b:Nat} {tm:Nat->Value} {ρ:Operand->AV} {η:Operand->Value}
def aGT(v:Value):ai v=v.oneCell':=by cases v<;>rfl
def Xo{t:TypeId}{zs:List AV}(h:Ha P t=I zs):∃i z,P.info? t=I i/\i.zero=I z/\zs=z.cells.toList.map .lit/\ ∀v∈z.cells.toList,v.oneCell'=Y:=by
 unfold Ha at h;cases hi:P.info? t with
 | none=>rw[hi]at h;cases h
 | some i=>
  rw[hi]at h;cases hz:i.zero with
  | none=>simp[hz]at h
  | some z=>
   simp only[hz,A6]at h;split at h
   .rename_i ha;cases h;exact⟨i,z,rfl,hz,rfl,λv hv=>by rw[← aGT];exact DB.1 ha v hv⟩
   .cases h
def aFl{t:TypeId}{i:TypeInfo}{z:Value}(hi:P.info? t=I i)(hz:i.zero=I z):(zeroValue t).run P w= .ok z w:=by
 unfold zeroValue;simp[typeInfo,hi,hz]
def RL.lits(vs:List Value)(h:∀v∈vs,v.oneCell'=Y):RL (RC w β) (vs.map .lit) vs:=by
 refine⟨by simp,λj c u h1 h2=> ?_⟩;rw[DA,h2]at h1;cases h1;exact .lit<|h u<|Cp h2
def Se{c:AV}{cs:List AV}{v:Value}(h:Ga c=I cs)(hx:RX w β tm c v):RL (RC w β) cs v.cells.toList:=by
 have sc:∀x:AV,RC w β x v->cs=[x]->RL (RC w β) cs v.cells.toList:=by
  intro x hx e;subst e;have h1:=hx.one;have:v.cells= #[v]:=by cases v<;>first|rfl|cases h1
  rw[this];exact .cons hx .nil
 cases c<;>simp only[Ga]at h<;>try cases h
 case lit v'=>
  split at h
  all_goals try cases h
  all_goals try contradiction
  rename_i hn1 hn2 hn3 hn4 _;have e:v=v':=hx;subst e;refine sc _ (.lit ?_) rfl;cases v<;>first|rfl|simp_all
 case sl=>exact sc _ hx rfl
 case own=>exact sc _ hx rfl
 case ptr=>exact sc _ hx rfl
 case ipt=>exact sc _ hx rfl
 case agg=>obtain⟨us,rfl,hl⟩:=RX.agg hx;simpa[Value.cells] using hl
def RL.one{cs:List AV}{us:List Value}(h:RL (RC w β) cs us):∀v∈us,v.oneCell'=Y:=by
 intro v hv;obtain⟨j,hj⟩:=mw.1 hv;have hlt:j<cs.length:=by rw[← h.1];exact(BR.1 hj).1
 exact(h.2 j cs[j] v (by simp[hlt]) hj).one
def aGV(hH:Hs B β H w)(hb:H b=G)(t:TypeId){cs:List AV}{us:Array Value}(hl:RL (RC w β) cs us.toList){r:Result Next}
  (hr:r= .ok (.value<|.pointer<|I ⟨w.heap.size,0,G⟩) (w.alloc<|.cells us t))(n:Nat):Good B β H w b (.ptr b n 0 0) [.box t cs] r:=by
 obtain⟨β',h1,h2,h3,h4⟩:=hH.alloc hb us t (.box t cs) (.pointer<|I ⟨w.heap.size,0,G⟩) 1 ⟨w.heap.size,0,G⟩ rfl rfl
  (λβ' hj hid hk=>⟨w.heap.size,us,hid,heap_alloc_new w _,hl.mono hk⟩)
 refine⟨_,_,β',hr,h1,h2, ?_⟩;have:=RC.ptr (w:=w.alloc<|.cells us t) (β:=β') (id:=b) (sz:=n) (i:=0) (o:=0) h3 (b:=w.heap.size) (f:=0) rfl J;simpa[R2,R1] using this
def asJ(hH:Hs B β H w)(hb:H b=G){t:TypeId}{zs:List AV}(h:Ha P t=I zs){o:Oper}(ho:o.op= .alloc t):Good B β H w b (.ptr b zs.length 0 0) [.box t zs] ((execOp η o).run P w):=by
 obtain⟨i,z,hi,hz,rfl,h1⟩:=Xo h;refine aGV hH hb t (us:=z.cells) (RL.lits _ h1) ?_ _;unfold execOp;rw[ho];simp[Instr.alloc,aFl hi hz,newVar,newRow]
def aw4(hη:∀x,RX w β tm (ρ x)<|η x)(hH:Hs B β H w)(hb:H b=G){t:TypeId}{x:Operand}{cs:List AV}(h:Ga (ρ x)=I cs){o:Oper}(ho:o.op= .box t x):
  Good B β H w b (.ptr b cs.length 0 0) [.box t cs] ((execOp η o).run P w):=by
 refine aGV hH hb t (us:=(η x).cells) (Se h<|hη x) ?_ _;unfold execOp;rw[ho];simp[Instr.box,newVar,newRow]
def awp(hP:P=B.P)(hη:∀x,RX w β tm (ρ x)<|η x)(hH:Hs B β H w){t:TypeId}{p:Operand}{v:AV}(h:K6 P H t (ρ p)=I v){o:Oper}(ho:o.op= .load t p):
  Good B β H w b v [] ((execOp η o).run P w):=by
 have hx:R2 w β (ρ p) (η p):=(hη p).of (λg w x e=>by rw[e]at h;cases h);obtain⟨u,hu,hr⟩:=aDx hP hH hx h;refine Good.same hH (u:=u) ?_<|R2.HM hr;unfold execOp;rw[ho];simp[hu]
def RC.azB{id z i o:Nat}{v:Value}(h:RC w β (.ptr id z i o) v):∃a,v= .pointer (I a):=by cases h;exact⟨_,rfl⟩
def RC.azF{k:K}{x:Tof k}{o:Nat}{v:Value}(h:RC w β (.ipt k x o) v):∃a,v= .pointer (I a):=by cases h;exact⟨_,rfl⟩
def aAy(hη:∀x,RX w β tm (ρ x)<|η x)(hH:Hs B β H w){p:Operand}{v:AV}(hv:(∃id z i o,v= .ptr id z i o)\/ ∃k x o,v= .ipt k x o)(h:ρ p=v){o:Oper}(ho:o.op= .nilCheck p):
  Good B β H w b v [] ((execOp η o).run P w):=by
 have hx:=hη p;rw[h]at hx;have hp:∃a,η p= .pointer (I a):=by
  obtain⟨id,z,i,o,rfl⟩|⟨k,x,o,rfl⟩:=hv
  .exact RC.azB (show RC w β (.ptr id z i o) (η p) from hx)
  .exact RC.azF<|show RC w β (.ipt k x o) (η p) from hx
 obtain⟨a,ha⟩:=hp;refine Good.same hH (u:=η p) ?_ ?_
 .unfold execOp;rw[ho];simp[ha]
 .rcases hv with⟨id,z,i,o,rfl⟩|⟨k,x,o,rfl⟩<;>exact hx
def aqm(hη:∀x,RX w β tm (ρ x)<|η x)(hH:Hs B β H w){x:Operand}{i:Nat}{vs:List AV}{v:AV}(h:ρ x= .tup vs)(hv:vs[i]? =I v){o:Oper}(ho:o.op= .extract x i):
  Good B β H w b v [] ((execOp η o).run P w):=by
 have hx:=hη x;rw[h]at hx;obtain⟨us,e,hl⟩:=RX.tup hx;obtain⟨u,hu,hr⟩:=hl.get hv;refine Good.same hH (u:=u) ?_<|R2.HM hr;unfold execOp;rw[ho];simp[Instr.extract,e,hu]
def je{t:TypeId}{f:Nat}{fd:Field}(h:Lt P t f=I fd):∃fs,P.underlying t=I (.struct fs)/\fs[f]? =I fd:=by
 unfold Lt at h;split at h
 .rename_i fs hu;exact⟨fs,hu,h⟩
 .cases h
def aAT(hη:∀x,RX w β tm (ρ x)<|η x)(hH:Hs B β H w){t:TypeId}{x:Operand}{f:Nat}{fd:Field}(h:Lt P t f=I fd)(h1:1<=P.cellsOf fd.type){v:AV}
  (hv:(∃id z i o,ρ x= .ptr id z i o/\v= .ptr id z i (o+fd.offset))\/ ∃k y o,ρ x= .ipt k y o/\v= .ipt k y (o+fd.offset)){o:Oper}(ho:o.op= .fieldAddr t x f):
  Good B β H w b v [] ((execOp η o).run P w):=by
 obtain⟨fs,hu,hf⟩:=je h;have hx:=hη x;have key:∀bb o',η x= .pointer (I ⟨bb,o',G⟩)->(execOp η o).run P w= .ok (.value<|.pointer<|I ⟨bb,o'+fd.offset,G⟩) w:=by
  intro bb o' he;unfold execOp;rw[ho];have hne:¬P.cellsOf fd.type=0:=J
  simp[Instr.fieldAt,run_underlying hu,hf,Jc,he,fieldPlace,L0 h1,hne,Gh]
 obtain⟨id,z,i,o',e1,rfl⟩|⟨k,y,o',e1,rfl⟩:=hv
 .rw[e1]at hx;have hx':RC w β (.ptr id z i o') (η x):=hx;generalize hg:η x=g at hx';cases hx' with
  | @ptr _ _ _ _ hd n bb f' hβ ha hi=>
   refine Good.same hH (key _ _ hg) ?_;have:=RC.ptr (w:=w) (β:=β) (id:=id) (sz:=z) (i:=i) (o:=o'+fd.offset) hβ ha hi;simpa[R2,R1,D8] using this
 .rw[e1]at hx;have hx':RC w β (.ipt k y o') (η x):=hx;generalize hg:η x=g at hx';cases hx' with
  | @ipt _ _ _ bb f' u hM hu' hr=>
   refine Good.same hH (key _ _ hg) ?_;have:=RC.ipt (w:=w) (β:=β) (k:=k) (x:=y) (o:=o'+fd.offset) (b:=bb) (f:=f') u hM hu' hr;simpa[R2,R1,D8] using this
def asp{t:TypeId}{cs:List AV}{o:Nat}{v:AV}{us:List Value}(h:HZ P t cs o=I v)(hl:RL (RC w β) cs us):∃u,(part t us.toArray o).run P w= .ok u w/\R1 w β v u:=by
 unfold HZ at h;cases ha:LQ P t with
 | none=>rw[ha]at h;cases h
 | some q=>
  rw[ha]at h;cases q with
  | true=>
   simp only at h;split at h
   .rename_i hb;simp only[AE]at hb;have h2:=DL hb.2;cases h;refine⟨.agg ((us.drop o).take<|P.cellsOf t).toArray, ?_,_,rfl,(hl.drop o).take _⟩;unfold part;simp[T9 ha,L0 h2]
   .cases h
  | false=>
   simp only at h;obtain⟨u,hu,hr⟩:=hl.get h;refine⟨u, ?_,R1.Me hr⟩;unfold part;simp[T9 ha,hu]
def arN(hη:∀x,RX w β tm (ρ x)<|η x)(hH:Hs B β H w){t:TypeId}{x:Operand}{f:Nat}{fd:Field}(h:Lt P t f=I fd){cs:List AV}(hx:ρ x= .agg cs){v:AV}(hv:HZ P fd.type cs fd.offset=I v)
  {o:Oper}(ho:o.op= .field t x f):Good B β H w b v [] ((execOp η o).run P w):=by
 obtain⟨fs,hu,hf⟩:=je h;have hη':=hη x;rw[hx]at hη';obtain⟨us,e,hl⟩:=RX.agg hη';obtain⟨u,hr,hr'⟩:=asp hv hl;refine Good.same hH (u:=u) ?_<|R2.HM hr';unfold execOp;rw[ho];simp[Instr.field,run_underlying hu,hf,e,asAgg,hr]
end
end Go.VS
end
noncomputable section
namespace Go.VS
open Go
def kW(a b:A1):(a.toList == b.toList)=U (a=b):=by
 by_cases h:a=b
 .subst h;simp
 .have:a.toList≠b.toList:=λe=>h (by
   rw[aDC,aDC]at e;obtain⟨⟨x⟩⟩:=a;obtain⟨⟨y⟩⟩:=b;simp at e;subst e;rfl)
  simp[h,this]
section
variable {P:Program} {B:Be} {β:Beta} {H:Hp} {w:World} {b:Nat} {tm:Nat->Value} {ρ:Operand->AV} {η:Operand->Value}
def atw{op:BinOp}{k:IntKind}{x y:Int}{q:Bool}{v:AV}{os:List Ob}(h:UZ op k x y=I (q,v,os))(hq:q=Y)(t:TypeId):
  ∃u,(IL op t (.int k x)<|.int k y).run P w= .ok u w/\os=[]/\v= .lit u:=by
 subst hq;cases op<;>simp only[UZ]at h
 case quo=>
  simp only[Bv,CS,CM,decide_eq_false_iff_not]at h;obtain⟨h1,rfl,rfl⟩:=h;exact⟨_,by simp[IL,Op.intDiv,h1],rfl,rfl⟩
 case rem=>
  simp only[Bv,CS,CM,decide_eq_false_iff_not]at h;obtain⟨h1,rfl,rfl⟩:=h;exact⟨_,by simp[IL,Op.intDiv,h1],rfl,rfl⟩
 case shl=>cases h
 case shr=>cases h
 case andNot=>cases h
 case add|sub|mul|and|or|xor=>
  obtain⟨rfl,_,rfl⟩:=DO h;exact⟨_,by simp[IL,Op.intArith,Op.intBits,Ds,abi,ior],rfl,rfl⟩
 all_goals
  obtain⟨rfl,_,rfl⟩:=DO h;refine⟨_, ?_,rfl,rfl⟩;simp only[IL,Op.intCmp]
  first|rfl|(simp only[ne_eq,not_true_eq_false,if_false,Fl,Result.ok.injEq,Value.bool.injEq,and_true];done)|(by_cases hh:x=y<;>simp[hh])
def atv{op:BinOp}{x y:A1}{q:Bool}{v:AV}{os:List Ob}(h:UY op x y=I (q,v,os))(hq:q=Y)(t:TypeId):
  ∃u,(IL op t (.string x)<|.string y).run P w= .ok u w/\os=[]/\v= .lit u:=by
 subst hq;cases op<;>simp only[UY]at h<;>try cases h
 case add=>
  simp only[Bv,CS,decide_eq_true_eq]at h;obtain⟨h1,rfl,rfl⟩:=h;refine⟨.string<|x++y, ?_,rfl,rfl⟩;have h2:¬(((x.size+y.size:Nat):Int) > IntKind.i64.max):=by
   have e:IntKind.i64.max=9223372036854775807:=by decide
   rw[e];omega
  simp only[IL,mi,A9 h2,Fl]
 case eql=>
  exact⟨_,by simp only[IL,mi,Fl,kW],rfl,rfl⟩
 case neq=>
  exact⟨_,by simp only[IL,mi,Fl,kW],rfl,rfl⟩
def iA(op:BinOp)(t:TypeId)(x y:Operand)(u v:Value)(h:u.oneCell'=Y)(hn:u≠ .nilIface):(eqGuard op t x y u v).run P w= .ok () w:=by
 cases op<;>cases u<;>first|rfl|exact absurd rfl hn|(cases v<;>first|rfl|cases h)
def RC.Nl{x v:Value}(h:RC w β (.lit x) v):v=x:=by cases h;rfl
def awG{cs ds:List AV}{r:Bool}(h:eqC cs ds=I r):∀ {us vs:List Value},RL (RC w β) cs us->RL (RC w β) ds vs->eqC (us.map .lit) (vs.map .lit)=I r/\cs=us.map .lit:=by
 induction cs generalizing ds r with
 | nil=>
  intro us vs h1 h2;cases ds with
  | nil=>rw[h1.of_nil,h2.of_nil];exact⟨h,rfl⟩
  | cons d ds=>simp[eqC]at h
 | cons c cs ih=>
  intro us vs h1 h2;cases ds with
  | nil=>cases c<;>simp[eqC]at h
  | cons d ds=>
   obtain⟨u,us,rfl,hu,hus⟩:=h1.CD;obtain⟨v,vs,rfl,hv,hvs⟩:=h2.CD;cases c<;>try (simp[eqC]at h;done)
   rename_i cv;cases d<;>try (cases cv<;>simp[eqC]at h;done)
   rename_i dv;obtain rfl:=hu.Nl;obtain rfl:=hv.Nl;cases u<;>try (simp[eqC]at h;done)
   all_goals cases v<;>try (simp[eqC]at h;done)
   case int.int=>
    simp only[eqC]at h;split at h
    .rename_i hk;cases hr:eqC cs ds with
     | none=>rw[hr]at h;cases h
     | some r'=>
      rw[hr]at h;obtain⟨i1,i2⟩:=ih hr hus hvs;refine⟨?_,by simp[i2]⟩;simp only[DV,eqC,hk,i1];exact h
    .cases h
   case bool.bool=>
    simp only[eqC]at h;cases hr:eqC cs ds with
    | none=>rw[hr]at h;cases h
    | some r'=>
     rw[hr]at h;obtain⟨i1,i2⟩:=ih hr hus hvs;refine⟨?_,by simp[i2]⟩;simp only[DV,eqC,i1];exact h
   case string.string=>
    simp only[eqC]at h;cases hr:eqC cs ds with
    | none=>rw[hr]at h;cases h
    | some r'=>
     rw[hr]at h;obtain⟨i1,i2⟩:=ih hr hus hvs;refine⟨?_,by simp[i2]⟩;simp only[DV,eqC,i1];exact h
def mF{t:TypeId}{us:List Value}{n:Nat}{u:Value}(hu:us[n]? =I u)(ha:LQ P t=I A0):(part t us.toArray n).run P w= .ok u w:=by
 unfold part;simp[T9 ha,hu]
def aFr(d:Nat):∀(fs:List Field) (n:Nat) (us vs us' vs':List Value) (r:Bool),ab P n fs (us'.map .lit)=Y->fs.length=us'.length->us=us.take n++us'->n<=us.length->vs=vs.take n++vs'->n<=vs.length->
  eqC (us'.map .lit) (vs'.map .lit)=I r->(U1 (d+1) us.toArray vs.toArray fs).run P w= .ok r w
 | [],n,us,vs,us',vs',r,_,hl,_,_,_,_,h=>by
  obtain rfl:us'=[]:=Df (by simpa using hl.symm);cases vs' with
  | nil=>simp[eqC]at h;subst h;simp[U1]
  | cons v vs'=>simp[eqC]at h
 | f::fs,n,us,vs,us',vs',r,hf,hl,hu,hn,hv,hn',h=>by
  cases us' with
  | nil=>simp at hl
  | cons u us'=>
  cases vs' with
  | nil=>cases u<;>simp[eqC]at h
  | cons v vs'=>
  simp only[DV,ab,AE,CM]at hf;obtain⟨⟨⟨hk,ho⟩,KQ⟩,hf⟩:=hf;have ho:=Br ho;have hu1:us[n]? =I u:=by
   rw[hu,FN y8];simp[R4 hn]
  have hv1:vs[n]? =I v:=by
   rw[hv,FN y8];simp[R4 hn']
  have hlu:n<us.length:=(BR.1 hu1).1;have hlv:n<vs.length:=(BR.1 hv1).1;have hu2:us=us.take (n+1)++us':=by
   rw[JW,hu1];simp only[Option.toList_some,C7,aDH];exact hu
  have hv2:vs=vs.take (n+1)++vs':=by
   rw[JW,hv1];simp only[Option.toList_some,C7,aDH];exact hv
  have pM:¬f.name= "_" :=by simpa using KQ
  have am6:=λr h=>aFr d fs (n+1) us vs us' vs' r hf (by simpa using hl) hu2 hlu hv2 hlv h;have fin:∀(q r':Bool),LQ P f.type=I A0->(Op.equalIn (d+1) f.type u v).run P w= .ok q w->eqC (us'.map .lit) (vs'.map .lit)=I r'->r=(q&&r')->
    (U1 (d+1) us.toArray vs.toArray<|f::fs).run P w= .ok r w:=by
   intro q r' ha h1 h2 h3;simp only[U1,ne_eq,pM,not_false_eq_true,A2,ho,Eh,mF hu1 ha,mF hv1 ha,F2,h1];cases q with
   | false=>simp[h3]
   | true=>simpa[h3] using am6 r' h2
  have ag:∀ {ty},P.underlying f.type=I ty->(match ty with|.bool=>True|.int _=>True|.string=>True|_=>False)->LQ P f.type=I A0:=by
   intro ty h1 h2;unfold LQ;rw[h1];cases ty<;>first|rfl|exact h2.elim
  have op:∀(q r':Bool),eqC (us'.map .lit) (vs'.map .lit)=I r'->r=(q&&r')->(∀ty,P.underlying f.type=I ty->(match ty with|.bool=>True|.int _=>True|.string=>True|_=>False)->(Op.equalIn (d+1) f.type u v).run P w= .ok q w)->
    (∃ty,P.underlying f.type=I ty/\(match ty with|.bool=>True|.int _=>True|.string=>True|_=>False))->(U1 (d+1) us.toArray vs.toArray<|f::fs).run P w= .ok r w:=by
   rintro q r' h1 h2 h3 ⟨ty,h4,h5⟩;exact fin q r' (ag h4 h5) (h3 ty h4 h5) h1 h2
  cases u<;>try (simp[eqC]at h;done)
  all_goals cases v<;>try (simp[eqC]at h;done)
  case int.int k a k' c=>
   simp only[DV,eqC]at h;split at h
   .rename_i hkk;obtain rfl:k=k':=by simpa using hkk
    cases hr:eqC (us'.map .lit) (vs'.map .lit) with
    | none=>rw[hr]at h;cases h
    | some r'=>
     rw[hr]at h;simp only[A6,Bv]at h;split at hk<;>try (rename_i e;cases e;done)
     .rename_i k2 _ _ hh _;refine fin (a == c) r' (ag hh trivial) (run_equalIn_int w d f.type k k2 a c hh) hr ?_;rw[← h];by_cases e:a=c<;>simp[e]
     .cases hk
   .cases h
  case bool.bool a c=>
   simp only[DV,eqC]at h;cases hr:eqC (us'.map .lit) (vs'.map .lit) with
   | none=>rw[hr]at h;cases h
   | some r'=>
    rw[hr]at h;simp only[A6,Bv]at h;split at hk<;>try (rename_i e;cases e;done)
    .rename_i hh _;refine fin (a == c) r' (ag hh trivial) (run_equalIn_bool' w d f.type a c hh) hr ?_;rw[← h];by_cases e:a=c<;>simp[e]
    .cases hk
  case string.string a c=>
   simp only[DV,eqC]at h;cases hr:eqC (us'.map .lit) (vs'.map .lit) with
   | none=>rw[hr]at h;cases h
   | some r'=>
    rw[hr]at h;simp only[A6,Bv]at h;split at hk<;>try (rename_i e;cases e;done)
    .rename_i hh _;refine fin (a.toList == c.toList) r' (ag hh trivial) (run_equalIn_string w d f.type a c hh) hr ?_;rw[← h,kW]
    .cases hk
def asH(hη:∀x,RX w β tm (ρ x)<|η x)(hH:Hs B β H w){op:BinOp}{t:TypeId}{x y:Operand}{q:Bool}{v:AV}{os:List Ob}(h:PN P op t (ρ x) (ρ y)=I (q,v,os))(hq:q=Y)
  {o:Oper}(ho:(execOp η o).run P w=((do eqGuard op t x y (η x) (η y);IL op t (η x) (η y):Sem Value).run P w).andThen λu w=> .ok (.value u) w):Good B β H w b v os ((execOp η o).run P w):=by
 rw[ho];have hx:=hη x;have hy:=hη y;have fin:∀u,(eqGuard op t x y (η x)<|η y).run P w= .ok () w->(IL op t (η x)<|η y).run P w= .ok u w->os=[]->R2 w β v u->
   Good B β H w b v os (((do eqGuard op t x y (η x) (η y);IL op t (η x) (η y):Sem Value).run P w).andThen λu w=> .ok (.value u) w):=by
  intro u h1 h2 h3 h4;subst h3;refine Good.same hH (u:=u) ?_ h4;simp[h1,h2]
 generalize ρ x=c at h hx;generalize ρ y=c' at h hy;generalize η x=vx at hx fin;generalize η y=vy at hy fin;unfold PN at h;split at h
 .rename_i k a k' c;split at h
  .rename_i hk;obtain rfl:k=k':=by simpa using hk
   obtain rfl:=hx.lit;obtain rfl:=hy.lit;obtain⟨u,h1,h2,rfl⟩:=atw (P:=P) (w:=w) h hq t;exact fin u (iA _ _ _ _ _ _ rfl aG9) h1 h2 rfl
  .cases h
 .obtain rfl:=hx.lit;obtain rfl:=hy.lit;obtain⟨u,h1,h2,rfl⟩:=atv (P:=P) (w:=w) h hq t;exact fin u (iA _ _ _ _ _ _ rfl aG9) h1 h2 rfl
 .rename_i a c;obtain rfl:=hx.lit;obtain rfl:=hy.lit;split at h
  .rename_i hu;obtain⟨rfl,_,h3⟩:=DO h;refine fin (.bool<|U<|a=c) (iA _ _ _ _ _ _ rfl aG9) ?_ h3 rfl;simp only[IL,Eh,Op.equal,Op.maxDepth,run_equalIn_bool' w _ t a c hu,F2,Fl];by_cases e:a=c<;>simp[e]
  .rename_i hu;obtain⟨rfl,_,h3⟩:=DO h;refine fin (.bool<|!decide (a=c)) (iA _ _ _ _ _ _ rfl aG9) ?_ h3 rfl;simp only[IL,Eh,Op.equal,Op.maxDepth,run_equalIn_bool' w _ t a c hu,F2,Fl];by_cases e:a=c<;>simp[e]
  .cases h
 .rename_i cs ds;obtain⟨us,rfl,hl⟩:=RX.agg hx;obtain⟨vs,rfl,hm⟩:=RX.agg hy;have key:∀r,oX P t cs=Y->Af cs.length ds.length=Y->eqC cs ds=I r->
    (Op.equalIn 10000 t (.agg us.toArray)<|.agg vs.toArray).run P w= .ok r w/\(∀op,(eqGuard op t x y (.agg us.toArray)<|.agg vs.toArray).run P w= .ok () w):=by
   intro r h1 h2 h3;unfold oX at h1;split at h1
   .rename_i fs hu;simp only[AE,CM]at h1;obtain⟨⟨⟨h4,h5⟩,h6⟩,h7⟩:=h1;have hfo:P.fieldsOf t=fs:=by simp[Program.fieldsOf,hu]
    obtain⟨e1,e2⟩:=awG h3 hl hm;subst e2;refine⟨?_,λop=>run_eqGuard_agg w op t x y _ _ h7⟩;rw[run_equalIn_struct w 9999 t _ _ (by rw[hfo];exact hu) h6,hfo];refine aFr 9998 fs.toList 0 us vs us vs r h4 ?_ aG9 aG9 aG9 aG9 e1;have:=Br h5;simpa using this
   .cases h1
  split at h
  .rename_i r h1 h2 h3;obtain⟨rfl,_,h4⟩:=DO h;obtain⟨k1,k2⟩:=key r h1 h2 h3;refine fin (.bool r) (k2 _) ?_ h4 rfl;rw[run_eql_struct,k1];rfl
  .rename_i r h1 h2 h3;obtain⟨rfl,_,h4⟩:=DO h;obtain⟨k1,k2⟩:=key r h1 h2 h3;refine fin (.bool<|!r) (k2 _) ?_ h4 rfl;rw[run_neq_struct,k1];rfl
  .cases h
 .cases h
def asX(hη:∀x,RX w β tm (ρ x)<|η x)(hH:Hs B β H w){op:UnOp}{x:Operand}{q:Bool}{v:AV}{os:List Ob}(h:unA op (ρ x)=I (q,v,os)):
  Good B β H w b v os (((Op.unary op<|η x).run P w).andThen λu w=> .ok (.value u) w):=by
 have hx:=hη x;generalize ρ x=c at h hx;unfold unA at h;split at h
 .obtain⟨rfl,_,rfl⟩:=DO h;rw[hx.lit];exact Good.same hH (u:= .bool _) (by simp[Op.unary]) rfl
 .obtain⟨rfl,_,rfl⟩:=DO h;rw[hx.lit];exact Good.same hH (u:= .int _ _) (by simp[Op.unary,Op.intArith]) rfl
 .cases h
end
end Go.VS
end
noncomputable section
namespace Go.VS
open Go
def aGb(f:AV->AV)(hf:∀c,f c=c)(o:Option Ob):CP f o=o:=by
 cases o with
 | none=>rfl
 | some ob=>cases ob with
  | box e cs=>simp[CP,show f=λc=>c from funext hf]
  | _=>rfl
section
variable {P:Program} {B:Be} {β:Beta} {H:Hp} {w w':World} {b:Nat} {tm:Nat->Value} {ρ:Operand->AV} {η:Operand->Value}
def Hs.grow(h:Hs B β H w){id:Nat}(hid:H id=G)(ob:Ob)(hd:Value)(n:Nat)
  (hos:w'.os=w.os)(KP:w'.tape=w.tape)(F3:w'.output=w.output)(FB:w.heap.size<=w'.heap.size)(hold:∀j,j<w.heap.size->w'.heap[j]? =w.heap[j]?)
  (ha:∀a,adr hd=I a->w.heap.size<=a.block/\a.block<w'.heap.size)
  (hob:∀β',β' id=I (hd,n)->Kp w β w' β'->E6 B.P w' β' id ob):
  ∃β',Hs B β' (upd H id<|I ob) w'/\Kp w β w' β'/\β' id=I (hd,n):=by
 have Ui:β id=G:=by
  cases hb:β id with
  | none=>rfl
  | some p=>obtain⟨ob',ho⟩:=h.dom id p hb;rw[hid]at ho;cases ho
 have hM:∀b,MB (β.up id<|I (hd,n)) b->MB β b\/w.heap.size<=b:=by
  rintro b ⟨j,hd',n',a',hj,ha',hb⟩;by_cases e:j=id
  .subst e;rw[Beta.Ub]at hj;cases hj;exact .inr (hb▸(ha a' ha').1)
  .rw[Beta.Nk _ _ e]at hj;exact .inl ⟨j,hd',n',a',hj,ha',hb⟩
 have hk:Kp w β w' (β.up id<|I (hd,n)):=λc v x=>RC.mono
  (λj p hj=>by
   by_cases e:j=id
   .subst e;rw[Ui]at hj;cases hj
   .rw[Beta.Nk _ _ e];exact hj)
  (λb o v _ hc=>by
   rw[UB (w:=w) (w':=w')<|hold b<|U7 w _ hc];exact hc)
  (λb hb hlt hm=>by
   obtain hm|hm:=hm
   .rcases hM b hm with h1|h1
    .exact hb (.inl h1)
    .omega
   .exact hb<|.inr hm) x
 have h1:=h.Us (w':=w') (β':=β.up id<|I (hd,n)) (f:=λc=>c) (λ_ _=>rfl) hk (id:=id) (ob:=I ob) (λj e=>BE _ _ e)
  (.inr ⟨ob,hd,n,rfl,Bi _ _ _,hob _ (Bi _ _ _) hk,λa h=> .inr<|ha a h⟩)
  (λj p a e hj h2=>hold _ (h.old _ ⟨j,p.1,p.2,a,hj,h2,rfl⟩).2) hos KP F3 FB (λb hb _=>hold b<|Gl hb h.size) rfl (Pk.old hold)
 refine⟨_, ?_,hk,Bi _ _ _⟩;rwa[show(λj=>CP (λc=>c)<|H j)=H from funext λj=>aGb _ (λ_=>rfl) _]at h1
def auD(h:Hs B β H w)(hb:H b=G){ob:Ob}{hd:Value}{n:Nat}{v:AV}
  (hos:w'.os=w.os)(KP:w'.tape=w.tape)(F3:w'.output=w.output)(FB:w.heap.size<=w'.heap.size)(hold:∀j,j<w.heap.size->w'.heap[j]? =w.heap[j]?)
  (ha:∀a,adr hd=I a->w.heap.size<=a.block/\a.block<w'.heap.size)
  (hob:∀β',β' b=I (hd,n)->Kp w β w' β'->E6 B.P w' β' b ob){u:Value}
  (hv:∀β',β' b=I (hd,n)->R2 w' β' v u){r:Result Next}(hr:r= .ok (.value u) w'):Good B β H w b v [ob] r:=by
 obtain⟨β',h1,h2,h3⟩:=h.grow hb ob hd n hos KP F3 FB hold ha hob;exact⟨u,w',β',hr,h1,h2,hv _ h3⟩
def ZV(h:Hs B β H w)(hb:H b=G){e:TypeId}{fz:Bool}{k:K}{xs:List (Tof k)}{cap:Nat}{us:Array Value}
  (hos:w'.os=w.os)(KP:w'.tape=w.tape)(F3:w'.output=w.output)(hold:∀j,j<w.heap.size->w'.heap[j]? =w.heap[j]?)
  (bd:w'.heap[w.heap.size]? =I (.cells us e<|if fz then(us.size,us.size+1) else(0,0)))(hc:xs.length<=cap)(hm:cap<=maxLen)(hs:cap * ks k<=us.size)
  (hr:∀i x j c u,xs[i]? =I x->(enc k x)[j]? =I c->us[i * ks k+j]? =I u->RC w β c u)
  {r:Result Next}(Ck:r= .ok (.value<|.slice (I ⟨w.heap.size,0,G⟩) xs.length cap) w'):Good B β H w b (.own b) [.row e fz k xs] r:=by
 have hlt:w.heap.size<w'.heap.size:=(HH.1 bd).1;refine auD h hb (hd:= .slice (I ⟨w.heap.size,0,G⟩) xs.length cap) (n:=xs.length) hos KP F3 (Nat.le_of_lt hlt) hold (λa ha=>by cases ha;exact⟨Ar _,hlt⟩) ?_ ?_ Ck
 .intro β' hβ hk;refine⟨_,hβ,.inr ⟨w.heap.size,0,cap,us,_,rfl,bd,rfl,hc,hm,J,λi x j c u h1 h2 h3=>hk _ _<|hr i x j c u h1 h2 ?_⟩⟩;simpa using h3
 .intro β' hβ;exact RC.own hβ rfl
def axn(s:A1){i:Int}(h:inb i s.size=Y):∃x,s[i.toNat]? =I x/\bt s i=(x.toNat:Int)/\0<=i:=by
 simp only[inb,AE,decide_eq_true_eq]at h;have hlt:i.toNat<s.size:=J
 refine⟨s[i.toNat],by simp[hlt], ?_,h.1⟩;have h2:i.toNat<s.data.size:=hlt;have:s.data.toList.getD i.toNat 0=s[i.toNat]:=by
  rw[BG,Tv,Array.getElem?_eq_getElem h2];rfl
 unfold bt;rw[this]
def R1.enc{k:K}{xs:List (Tof k)}{us:List Value}(hl:us.length=xs.length * ks k)(hr:∀i x j c u,xs[i]? =I x->(enc k x)[j]? =I c->us[i * ks k+j]? =I u->RC w β c u)
  {i:Nat}{x:Tof k}(hi:xs[i]? =I x):RL (RC w β) (enc k x) ((us.drop<|i * ks k).take<|ks k):=by
 have hlt:i<xs.length:=(BR.1 hi).1;have h1:(i+1) * ks k<=xs.length * ks k:=E3 _ hlt;rw[EH]at h1;refine⟨by simp[EL];omega,λj c u h2 h3=>hr i x j c u hi h2 ?_⟩;have hj:j<ks k:=by rw[← EL k x];exact(BR.1 h2).1
 rw[Gk,A5 hj,Hk]at h3;exact h3
def arb(hη:∀x,RX w β tm (ρ x)<|η x)(hH:Hs B β H w){t:TypeId}{x ix:Operand}{k:IntKind}{i:Int}(hi:ρ ix= .lit (.int k i)){q:Bool}{v:AV}{os:List Ob}(h:RU P t i (ρ x)=I (q,v,os))(hq:q=Y):
  Good B β H w b v os (((mj t (η x)<|η ix).run P w).andThen λu w=> .ok (.value u) w):=by
 subst hq;have hx:=hη x;have hix:=hη ix;rw[hi]at hix;rw[hix.lit];generalize ρ x=c at h hx;unfold RU at h;split at h
 .rename_i s;split at h
  .rename_i hu;simp only[Bv,CS]at h;obtain⟨h1,rfl,rfl⟩:=h;obtain⟨y,hy,hb,h0⟩:=axn s h1;rw[hx.lit,hb];exact Good.same hH (u:= .int .u8 y.toNat) (by simp[mj,asIntOf,run_underlying hu,h0,hy]) rfl
  .cases h
 .rename_i k' xs;split at h
  .rename_i n e hu;split at h
   .rename_i h1 h2;cases hv:HZ P e (enc k'<|rd (dfl k') xs i) 0 with
    | none=>rw[hv]at h;cases h
    | some v'=>
     rw[hv]at h;simp only[A6,Bv,CS]at h;obtain⟨hb,rfl,rfl⟩:=h;simp only[inb,AE,decide_eq_true_eq]at hb;obtain⟨us,e1,hl,hr⟩:=hx;simp only[AE]at h1;have hk:=Br h1.1;have hi':xs[i.toNat]? =I (rd (dfl k') xs i):=by
      have:i.toNat<xs.length:=J
      simp[rd,this]
     have hrl:=R1.enc hl hr hi';unfold HZ at hv;rw[h2]at hv;simp only at hv;obtain⟨u,hu1,hu2⟩:=hrl.get hv;have hlen:P.cellsOf e=1:=Br h1.2;have hu3:us[i.toNat]? =I u:=by
      rw[hk]at hu1;simpa using hu1
     refine Good.same hH (u:=u) ?_<|R2.HM<|R1.Me hu2;have hb':0<=i/\i<(n:Int):=J
     rw[e1];simp only[mj,asIntOf,Eh,Fl,F2,run_underlying hu,hb',and_self,A2,L0 (P:=P) (w:=w) (t:=e) J,hlen,Nat.mul_one,mF hu3 h2]
   .cases h
  .cases h
 .cases h
end
end Go.VS
namespace Go.VS
open Go Go.Lib
def I2{a b:K}{xs:List (Tof a)}{ys:List (Tof b)}(h:It a b xs=I ys):∃e:a=b,e▸xs=ys:=by
 cases a<;>cases b<;>first|(cases h;exact⟨rfl,rfl⟩)|cases h
def Mh(w:World)(β:Beta)(k:K)(xs:List (Tof k))(v:Value):Prop:=
 (xs=[]/\ ∃a cap,v= .slice a 0 cap)\/ ∃b f cap,∃u:Nat->Nat->Value,v= .slice (I ⟨b,f,G⟩) xs.length cap/\xs.length<=cap/\
  (∀i j,i<xs.length->j<ks k->w.cell? ⟨b,f+(i * ks k+j),G⟩=I (u i j))/\ ∀i x j c,xs[i]? =I x->(enc k x)[j]? =I c->RC w β c (u i j)
section
variable {P:Program} {B:Be} {β:Beta} {H:Hp} {w w':World} {b:Nat} {tm:Nat->Value} {ρ:Operand->AV} {η:Operand->Value}
def RC.qC{k:K}{xs:List (Tof k)}{v:Value}(h:RC w β (.sl k xs) v):Mh w β k xs v:=by
 cases h with
 | nil=>exact .inl ⟨rfl,_,_,rfl⟩
 | sl u hn hm hu hr=>obtain⟨rfl,hc⟩:=hn;exact .inr ⟨_,_,_,u,rfl,hc,hu,hr⟩
def FT.cells{e:TypeId}{fz:Bool}{k:K}{xs:List (Tof k)}{hd:Value}(h:FT w β e fz k xs hd):Mh w β k xs hd:=by
 obtain⟨rfl,rfl⟩|⟨b,f,cap,us,fr,rfl,hh,hfr,hn,hc,hs,hr⟩:=h
 .exact .inl ⟨rfl,_,_,rfl⟩
 .have Ct:∀i j,i<xs.length->j<ks k->f+(i * ks k+j)<us.size:=by
   intro i j hi hj;have h1:(i+1) * ks k<=cap * ks k:=E3 _ J;rw[EH]at h1;omega
  refine .inr ⟨b,f,cap,λi j=>us.getD (f+(i * ks k+j)) undef,rfl,hn,λi j hi hj=> ?_,λi x j c h1 h2=> ?_⟩
  .rw[cell_of_row w b _ us e fr hh];have:=Ct i j hi hj;simp[this]
  .have hi:i<xs.length:=(BR.1 h1).1;have hj:j<ks k:=by rw[← EL k x];exact(BR.1 h2).1
   have:=Ct i j hi hj;exact hr i x j c _ h1 h2<|by simp[this]
def aa7(hH:Hs B β H w){k:K}{c:AV}{v:Value}{xs:List (Tof k)}(h:CJ H k c=I xs)(hx:R2 w β c v):Mh w β k xs v:=by
 unfold CJ at h;split at h
 .obtain⟨e,rfl⟩:=I2 h;subst e;exact RC.qC hx
 .cases h;have:v=_:=hx;exact .inl ⟨rfl,_,_,this⟩
 .rename_i id;split at h
  .rename_i e fz k' ys hid;obtain⟨ek,rfl⟩:=I2 h;subst ek;obtain⟨hd,h1,h2⟩:=hH.EJ id _ hid;have h3:RC w β (.own id) v:=hx;cases h3 with
   | own h4 h5=>rw[h1]at h4;cases h4;exact h2.cells
  .cases h
 .cases h
def Mh.len{k:K}{xs:List (Tof k)}{v:Value}(h:Mh w β k xs v):∃a cap,v= .slice a xs.length cap/\xs.length<=cap:=by
 obtain⟨rfl,a,cap,rfl⟩|⟨b,f,cap,u,rfl,hc,_⟩:=h
 .exact⟨_,_,rfl,by simp⟩
 .exact⟨_,_,rfl,hc⟩
def aCG{t e:TypeId}(hu:P.underlying t=I (.slice e))(h1:1<=P.cellsOf e){bb f n cap:Nat}{k:IntKind}{i:Int}(h0:0<=i)(hn:i<(n:Int)):
  (U9 t (.slice (I ⟨bb,f,G⟩) n cap)<|.int k i).run P w= .ok (.pointer<|I ⟨bb,f+i.toNat * P.cellsOf e,G⟩) w:=by
 have hb':0<=i/\i<(n:Int):=⟨h0,hn⟩;have hb1:n<=1\/ ¬n<=1:=J
 obtain hb1|hb1:=hb1<;>
 simp[U9,asIntOf,run_underlying hu,hb1,hb',L0 h1,Gh]
def aqS{t e:TypeId}{n:Nat}(hu:P.underlying t=I (.array n e))(h1:1<=P.cellsOf e){bb f:Nat}{k:IntKind}{i:Int}(h0:0<=i)(hn:i<(n:Int)):
  (U9 t (.pointer<|I ⟨bb,f,G⟩)<|.int k i).run P w= .ok (.pointer<|I ⟨bb,f+i.toNat * P.cellsOf e,G⟩) w:=by
 have hb':0<=i/\i<(n:Int):=⟨h0,hn⟩;have hb1:n<=1\/ ¬n<=1:=J
 obtain hb1|hb1:=hb1<;>
 simp[U9,asIntOf,Jc,run_underlying hu,hb1,hb',L0 h1,Gh]
def anm(hP:P=B.P)(hη:∀x,RX w β tm (ρ x)<|η x)(hH:Hs B β H w){t:TypeId}{x ix:Operand}{k:IntKind}{i:Int}(hi:ρ ix= .lit (.int k i)){q:Bool}{v:AV}{os:List Ob}(h:N6 P H t i (ρ x)=I (q,v,os))(hq:q=Y):
  Good B β H w b v os (((U9 t (η x)<|η ix).run P w).andThen λu w=> .ok (.value u) w):=by
 subst hq;have hx:=hη x;have hix:=hη ix;rw[hi]at hix;rw[hix.lit];generalize ρ x=c at h hx;generalize η x=vx at hx;unfold N6 at h;split at h
 .rename_i k' xs;split at h
  .rename_i e hu;split at h
   .rename_i hk;have hk:=Br hk;simp only[Bv,CS,inb,AE,decide_eq_true_eq]at h;obtain⟨⟨h0,hn⟩,rfl,rfl⟩:=h;have hx':RC w β (.sl k' xs) vx:=hx;cases hx' with
    | nil=>simp at hn;omega
    | @sl _ _ bb f cap n u hn' hm hu' hr=>
     obtain⟨rfl,hc⟩:=hn';have h1:=I4 k';have hlt:i.toNat<xs.length:=J
     have qL:xs[i.toNat]? =I (rd (dfl k') xs i):=by simp[rd,hlt]
     refine Good.same hH (u:= .pointer<|I ⟨bb,f+i.toNat * ks k',G⟩) ?_ ?_
     .rw[aCG hu J h0 hn,hk];rfl
     .have:=RC.ipt (w:=w) (β:=β) (k:=k') (x:=rd (dfl k') xs i) (o:=0) (b:=bb) (f:=f+i.toNat * ks k') (u i.toNat) hm (λj hj=>by rw[D8];exact hu' _ _ hlt hj) (λj c hc=>hr _ _ _ _ qL hc);exact this
   .cases h
  .cases h
 .rename_i id;split at h
  .rename_i e e' fz k' xs hu hid;split at h
   .rename_i hk;have hk:=Br hk;simp only[Bv,CS,inb,AE,decide_eq_true_eq]at h;obtain⟨⟨h0,hn⟩,rfl,rfl⟩:=h;obtain⟨hd,h1,h2⟩:=hH.EJ id _ hid;have h3:RC w β (.own id) vx:=hx;cases h3 with
    | own h4 h5=>
     rw[h1]at h4;cases h4;have h1':=I4 k';obtain⟨_,e2⟩|⟨bb,f,cap,us,fr,rfl,hh,hfr,hnc,hc,hs,hr⟩:=h2
     .subst e2;simp at hn;omega
     .refine Good.same hH (u:= .pointer<|I ⟨bb,f+i.toNat * ks k',G⟩) ?_ ?_
      .rw[aCG hu J h0 hn,hk];rfl
      .have:=RC.ptr (w:=w) (β:=β) (id:=id) (sz:=ks k') (i:=i.toNat) (o:=0) h1 (b:=bb) (f:=f) rfl J;simpa[R2,R1] using this
   .cases h
  .cases h
 .rename_i id z;split at h
  .rename_i n e e' k' xs hu hid;split at h
   .rename_i hk;simp only[AE]at hk;have hk1:=Br hk.1.1;have hk2:=Br hk.1.2;obtain rfl:=Br hk.2;simp only[Bv,CS,inb,AE,decide_eq_true_eq]at h;obtain⟨⟨h0,hn⟩,rfl,rfl⟩:=h;obtain⟨bb,us,h1,hh,hsz,hce,hr⟩:=hH.EJ id _ hid;have h1':=I4 k';have hlen:xs.length=n:=by
     rw[hP]at hk2;rw[hsz,hk2]at hce;exact Nat.eq_of_mul_eq_mul_right h1' hce
    have h3:RC w β (.ptr id z 0 0) vx:=hx;cases h3 with
    | @ptr _ _ _ _ hd n' b' f h4 ha hi'=>
     rw[h1]at h4;cases h4;cases ha;refine Good.same hH (u:= .pointer<|I ⟨bb,0+i.toNat * ks k',G⟩) ?_ ?_
     .rw[show(0:Nat)+(0 * z+0)=0 by omega,aqS hu J h0 J,hk1];rfl
     .have:=RC.ptr (w:=w) (β:=β) (id:=id) (sz:=ks k') (i:=i.toNat) (o:=0) h1 (b:=bb) (f:=0) rfl J;simpa[R2,R1] using this
   .cases h
  .cases h
 .cases h
def lR{t ty:TypeId}{e:TypeId}(hu:P.underlying t=I (.slice e)){a:Option Addr}{n cap:Nat}:(Qu #[t] ty #[.slice a n cap]).run P w= .ok (.int .i64 n) w:=by
 simp[Qu,run_underlying hu,goInt]
def atV{src dst e:TypeId}(hs:P.underlying src=I (.slice e))(he:P.underlying e=I (.int .u8))(hd:P.underlying dst=I .string){xs:List (Tof .u8)}{v:Value}(h:Mh w β .u8 xs v):
  (convert src dst v).run P w= .ok (.string<|BF xs) w:=by
 obtain⟨rfl,a,cap,rfl⟩|⟨bb,f,cap,u,rfl,hc,hu,hr⟩:=h
 .cases a with
  | none=>exact run_convert_bytes_nil w src e hs he _ _ dst hd
  | some a=>
   rw[run_convert_bytes_string w src dst e _ 0 cap hs he hd];simp[Conv.bytesToString,loadCells,BF];rfl
 .refine run_convert_bytes_arg w src e hs he bb f _ cap xs rfl (λi hi=> ?_) dst hd;have h1:=hu i 0 hi aHd;have hx:xs[i]? =I (xs.getD i 0):=by simp[hi]
  have h2:=hr i _ 0 (.y<|xs.getD i 0) hx rfl;have h3:=h2.Nl;rw[h3]at h1;simpa[ks] using h1
def asF(hH:Hs B β H w)(hb:H b=G){src dst e:TypeId}(hs:P.underlying src=I .string)(hd:P.underlying dst=I (.slice e))(he:P.underlying e=I (.int .u8)){s:A1}(hr:Ab s.size=Y):
  Good B β H w b (.own b) [.row e Y .u8<|B9 s] (((convert src dst<|.string s).run P w).andThen λu w=> .ok (.value u) w):=by
 have hlen:(B9 s).length=s.size:=by rw[B9,De,Ez];rfl
 have hsz:(bytesCells w e s).size=grownCap w s.size 0 e:=by
  have:=grownCap_ge w s.size 0 e;simp only[bytesCells,Qz,Array.size_map,nC];have:s.data.size=s.size:=rfl;omega
 have aze:s.size<=maxLen:=by
  simp only[Ab,decide_eq_true_eq]at hr;exact C6 hr<|by decide
 refine ZV (w':=bytesWorld w e s) (cap:=grownCap w s.size 0 e) (us:=bytesCells w e s) hH hb rfl rfl rfl (bytesWorld_at_old w e s) (bytesWorld_at_new w e s) (by rw[hlen];exact grownCap_ge _ _ _ _)
  (grownCap_le_maxLen _ _ _ _ aze) (by rw[hsz];simp[ks]) ?_ ?_
 .intro i x j c u h1 h2 h3;have hj:j=0:=by
   have:=(BR.1 h2).1;simp[enc]at this;omega
  subst hj;simp only[enc,Zp,Bv]at h2;subst h2;simp only[B9,DA,D9]at h1;obtain⟨y,hy,rfl⟩:=h1;have hi:i<s.data.size:=by have:=(BR.1 hy).1;simpa using this
  rw[show i * ks .u8+0=i by simp[ks]]at h3;simp only[bytesCells]at h3;rw[MQ<|by simpa using hi]at h3;simp only[Array.getElem?_map,D9]at h3;obtain⟨y',hy',rfl⟩:=h3;have:y=y':=by
   rw[Tv]at hy;rw[hy]at hy';exact E5 hy'
  subst this;exact .lit rfl
 .rw[Go.Lib.run_convert_string_bytes w src dst e s hs hd he,hlen];rfl
end
end Go.VS
end
noncomputable section
namespace Go.VS
open Go
section
variable {P:Program} {B:Be} {β:Beta} {H:Hp} {w w':World} {b:Nat} {tm:Nat->Value} {ρ:Operand->AV} {η:Operand->Value}
def aw8{a c:A1}(h1:Af a.size 0=Y)(h2:Af c.size 0=Y):a=c:=by
 have e1:a.size=0:=Br h1;have e2:c.size=0:=Br h2;obtain⟨x⟩:=a;obtain⟨y⟩:=c;have e1':x.size=0:=e1;have e2':y.size=0:=e2;rw[aD9 e1',aD9 e2']
def atc{a c:AV}(h:ah a c=Y){v:Value}(hv:RC w β a v):RC w β c v:=by
 unfold ah at h;split at h
 .simp only[AE,decide_eq_true_eq]at h;obtain⟨rfl,rfl⟩:=h;exact hv
 .simp only[beq_iff_eq]at h;subst h;exact hv
 .simp only[AE]at h;obtain rfl:=aw8 h.1 h.2;exact hv
 .obtain rfl:=hv.Nl;exact .nil
 .cases h
def lm:∀ {as cs:List AV} {us:List Value},Ma as cs=Y->RL (RC w β) as us->RL (RC w β) cs us
 | [],[],us,_,h=>h
 | [],_::_,_,h,_=>by simp[Ma]at h
 | _::_,[],_,h,_=>by simp[Ma]at h
 | a::as,c::cs,us,h,hl=>by
  simp only[Ma,AE]at h;obtain⟨u,us',rfl,h1,h2⟩:=hl.CD;exact .cons (atc h.1 h1)<|lm h.2 h2
def ZO{t:TypeId}{k:K}(h:zok P t k=Y):∃i z,P.info? t=I i/\i.zero=I z/\z.cells.size=ks k/\ ∀w β,RL (RC w β) (enc k<|dfl k) z.cells.toList:=by
 unfold zok at h;cases hz:Ha P t with
 | none=>rw[hz]at h;cases h
 | some zs=>
  rw[hz]at h;obtain⟨i,z,hi,hz',rfl,h1⟩:=Xo hz;have key:∀w β,RL (RC w β) (enc k<|dfl k) z.cells.toList:=λw β=>lm h<|RL.lits _ h1;refine⟨i,z,hi,hz', ?_,key⟩;have:=(key default ⟨λ_=>G,λ_=>False⟩).1;rw[EL]at this;simpa using this
def X9{t:TypeId}{i:TypeInfo}(h:P.info? t=I i):P.cellsOf t=i.size:=by simp[Program.cellsOf,h]
def k8{t:TypeId}{i:TypeInfo}(h:P.info? t=I i):P.bytesOf t=i.bytes:=by simp[Program.bytesOf,h]
def fe{t e:TypeId}(h:IX P t=I e):P.underlying t=I (.slice e):=by
 unfold IX at h;split at h
 .cases h;assumption
 .cases h
def ap7{k:K}{z:Array Value}(hz:z.size=ks k)(hr:RL (RC w β) (enc k<|dfl k) z.toList){n:Nat}:
  ∀i x j c u,(BZ n<|dfl k)[i]? =I x->(enc k x)[j]? =I c->(madeCells z<|n * ks k)[i * ks k+j]? =I u->RC w β c u:=by
 intro i x j c u h1 h2 h3;have hx:x=dfl k:=List.eq_of_mem_replicate<|Cp h1;have hi:i<n:=by have:=(BR.1 h1).1;simpa using this
 subst hx;have hj:j<ks k:=by rw[← EL k<|dfl k];exact(BR.1 h2).1
 have hlt:i * ks k+j<n * ks k:=OH hi hj;simp only[madeCells,Array.getElem?_map,D9]at h3;obtain⟨q,hq,rfl⟩:=h3;have hq':q=i * ks k+j:=by
  rw[HH]at hq;obtain⟨_,hq⟩:=hq;simpa using hq.symm
 subst hq';have hm:(i * ks k+j) % z.size=j:=by rw[hz,NR,Nat.add_mul_mod_self_right,P2 hj]
 rw[hm];have hjz:j<z.size:=J
 refine hr.2 j c _ h2 ?_;simp[hjz]
def atA(hH:Hs B β H w)(hb:H b=G){t e:TypeId}{k:K}(he:IX P t=I e)(hz:zok P e k=Y)(hc:P.cellsOf e=ks k)(hby:P.bytesOf e<=256){n:Int}(h0:0<=n)(hn:n<=4294967296):
  Good B β H w b (.own b) [.row e A0 k<|BZ n.toNat<|dfl k] (((Instr.makeSlice t (.int .i64 n)<|.int .i64 n).run P w).andThen λu w=> .ok (.value u) w):=by
 obtain⟨i,z,hi,hz',hs,hr⟩:=ZO hz;have hu:=fe he;rw[X9 hi]at hc;rw[k8 hi]at hby;have hb1:(i.bytes:Int) * n<=281474976710656:=by
  have h1:(i.bytes:Int) * n<=256 * 4294967296:=Int.mul_le_mul J hn h0 J;omega
 have Ck:=run_make (P:=P) w t e i z hu hi hz' .i64 .i64 n n h0 (Dw _) hb1 J;rw[Ck,hc];have hml:n.toNat<=maxLen:=C6 (J:n.toNat<=4294967296) aHd;refine ZV (w':=w.alloc<|.cells (madeCells z.cells<|n.toNat * ks k) e) (cap:=n.toNat) (us:=madeCells z.cells<|n.toNat * ks k) hH hb rfl rfl rfl (λj hj=>heap_alloc_old w _ hj) (heap_alloc_new w _) aG9 hml
  (by rw[size_madeCells];exact Ar _) (ap7 hs<|hr w β) ?_
 simp
def ZA{k:K}:∀ {xs:List (Tof k)} {i j:Nat} {x:Tof k},xs[i]? =I x->j<ks k->(xs.flatMap<|enc k)[i * ks k+j]? =(enc k x)[j]?
 | [],_,_,_,h,_=>by simp at h
 | y::ys,0,j,x,h,hj=>by
  simp only[Zp,Bv]at h;subst h;rw[P6,II (by rw[EL];omega)];simp
 | y::ys,i+1,j,x,h,hj=>by
  simp only[aD6]at h;rw[P6,FN (by rw[EL,EH];omega),EL,← ZA h hj];congr 1;rw[EH];omega
def Kr{k:K}(xs:List (Tof k)):(xs.flatMap<|enc k).length=xs.length * ks k:=by
 induction xs with
 | nil=>simp
 | cons x xs ih=>rw[P6,Am,EL,ih,Bm,EH];omega
def QL{k:K}{xs:List (Tof k)}{us:List Value}(h:RL (RC w β) (xs.flatMap<|enc k) us):∀i x j c u,xs[i]? =I x->(enc k x)[j]? =I c->us[i * ks k+j]? =I u->RC w β c u:=by
 intro i x j c u h1 h2 h3;have hj:j<ks k:=by rw[← EL k x];exact(BR.1 h2).1
 exact h.2 _ c u (by rw[ZA h1 hj];exact h2) h3
def apW(hP:P=B.P)(hH:Hs B β H w)(hb:H b=G){t:TypeId}{n:Nat}{k:K}{zs:List AV}(hz:Ha P t=I zs)(hk:Ma zs ((BZ n<|dfl k).flatMap<|enc k)=Y)(hc:P.cellsOf t=n * ks k)(hn:1<=n)
  {o:Oper}(ho:o.op= .alloc t):Good B β H w b (.ptr b (ks k) 0 0) [.arr t k<|BZ n<|dfl k] ((execOp η o).run P w):=by
 obtain⟨i,z,hi,hz',rfl,h1⟩:=Xo hz;have IT:RL (RC w β) _ z.cells.toList:=lm hk<|RL.lits _ h1;have hsz:z.cells.size=n * ks k:=by
  have:=IT.1;rw[Kr]at this;simpa using this
 obtain⟨β',g1,g2,g3⟩:=hH.grow (w':=w.alloc<|.cells z.cells t) hb (.arr t k<|BZ n<|dfl k) (.pointer<|I ⟨w.heap.size,0,G⟩) n rfl rfl rfl aG9 (λj hj=>heap_alloc_old w _ hj) (λa ha=>by cases ha;simp)
  (λβ' hβ hk=>⟨w.heap.size,z.cells,by simpa using hβ,heap_alloc_new w _,by simpa using hsz,by rw[← hP,hc];exact hsz,λi x j c u a1 a2 a3=>hk _ _<|QL IT i x j c u a1 a2<|by simpa using a3⟩)
 .refine⟨_,_,β', ?_,g1,g2,(?_:R2 (w.alloc<|.cells z.cells t) β' _ (.pointer<|I ⟨w.heap.size,0,G⟩))⟩
  .unfold execOp;rw[ho];simp[Instr.alloc,aFl hi hz',newVar,newRow]
  .have:=RC.ptr (w:=w.alloc<|.cells z.cells t) (β:=β') (id:=b) (sz:=ks k) (i:=0) (o:=0) g3 (b:=w.heap.size) (f:=0) rfl J;simpa[R2,R1] using this
def aDl(off:Nat):∀(ys:List Value) (n:Nat) (cs:Array Value),off+n+ys.length<=cs.size->
  (ys.zipIdx n).foldl (λcs (c,j)=>cs.setIfInBounds (off+j) c) cs=(cs.toList.take (off+n)++ys++cs.toList.drop (off+n+ys.length)).toArray
 | [],n,cs,_=>by simp
 | y::ys,n,cs,h=>by
  simp only[Bm]at h;rw[mK,Du,aDl off ys (n+1) _ y8];have e:=list_seg_step cs.toList (off+n) y ys y8;simpa[mR,D8,NR,Nat.add_left_comm] using e
def aEc(place:Nat->Option (Nat×Nat))(cells:Array Value)(i off:Nat)(v:Value)(rest:List (Nat×Value))(hp:place i=I (off,v.cells.size))(hl:off+v.cells.size<=cells.size):
  NI place cells ((i,v)::rest)=NI place (cells.toList.take off++v.cells.toList++cells.toList.drop (off+v.cells.size)).toArray rest:=by
 have h1:¬(v.cells.size≠v.cells.size\/off+v.cells.size > cells.size):=J
 rw[NI,hp];simp only[ne_eq,not_true_eq_false,Ad,Bn,decide_eq_true_eq];rw[A9 J,← Array.foldl_toList,Array.toList_zipIdx];have:=aDl off v.cells.toList 0 cells (by simpa using hl);simp only[Ho,Ez]at this;rw[this]
def aFW{α β':Type}(f:α->Option β'):∀(l:List α),(∀x∈l,(f x).isSome=Y)->∃r,l.mapM f=I r/\r.length=l.length/\ ∀(i:Nat) (x:α),l[i]? =I x->r[i]? =f x
 | [],_=>⟨[],by simp,rfl,λi x h=>by simp at h⟩
 | x::l,h=>by
  obtain⟨r,h1,h2,h3⟩:=aFW f l (λy hy=>h y<|by simp[hy]);cases hx:f x with
  | none=>have:=h x aG9;rw[hx]at this;cases this
  | some y=>
   refine⟨y::r,by simp[hx,h1],by simp[h2],λi z hi=> ?_⟩;cases i with
   | zero=>simp at hi;subst hi;simp[hx]
   | succ i=>simp at hi ⊢; exact h3 i z hi
def aC7(hη:∀x,RX w β tm (ρ x)<|η x){t:TypeId}{fs:Array Field}(hu:P.underlying t=I (.struct fs)){places:List (Nat×Nat)}
  (hp:∀(i:Nat) (f:Field),fs[i]? =I f->places[i]? =I (f.offset,P.cellsOf f.type)):∀(ps:List (Nat×Operand)) (cs:List AV) (us:Array Value) (ds:List AV),I7 P ρ t ps cs=I ds->RL (RC w β) cs us.toList->
  ∃vs:Array Value,NI (places.toArray[·]?) us (ps.map fun(i,x)=>(i,η x))=I vs/\RL (RC w β) ds vs.toList
 | [],cs,us,ds,h,hl=>by
  simp only[I7,Bv]at h;subst h;exact⟨us,by simp[NI],hl⟩
 | (i,x)::ps,cs,us,ds,h,hl=>by
  simp only[I7]at h;cases hf:Lt P t i with
  | none=>rw[hf]at h;cases h
  | some f=>
   rw[hf]at h;simp only[A6]at h;cases hc:Ga (ρ x) with
   | none=>rw[hc]at h;cases h
   | some ys=>
    rw[hc]at h;simp only[A6]at h;split at h
    .rename_i hb;simp only[AE]at hb;have hb1:=Br hb.1;have hb2:=DL hb.2;have hr:=Se hc<|hη x;obtain⟨fs',hu',hf'⟩:=je hf;rw[hu]at hu';cases hu';have hys:(η x).cells.size=ys.length:=by have:=hr.1;simpa using this
     have hcs:us.size=cs.length:=by have:=hl.1;simpa using this
     have hsp:RL (RC w β) (H5 cs f.offset ys) (us.toList.take f.offset++(η x).cells.toList++us.toList.drop (f.offset+(η x).cells.size)):=by
      unfold H5;rw[hys];exact((hl.take _).append hr).append<|hl.drop _
     obtain⟨vs,h1,h2⟩:=aC7 hη hu hp ps _ (us.toList.take f.offset++(η x).cells.toList++us.toList.drop (f.offset+(η x).cells.size)).toArray ds h hsp;refine⟨vs, ?_,h2⟩;rw[DV,aEc _ _ i f.offset (η x) _ ?_ J]
     .exact h1
     .rw[Tw,hp i f hf',hys,hb1]
    .cases h
def asG(hη:∀x,RX w β tm (ρ x)<|η x)(hH:Hs B β H w){t:TypeId}{fs:Array Field}{ps:Array (Nat×Operand)}{zs cs:List AV}(hz:Ha P t=I zs)(hu:P.underlying t=I (.struct fs))(ha:(fs.toList.all λf=>(P.info? f.type).isSome)=Y)
  (h:I7 P ρ t ps.toList zs=I cs){o:Oper}(ho:o.op= .build t ps):Good B β H w b (.agg cs) [] ((execOp η o).run P w):=by
 obtain⟨i,z,hi,hz',rfl,h1⟩:=Xo hz;obtain⟨places,hm,hlen,hpl⟩:=aFW (λf:Field=>(P.info? f.type).map λi=>(f.offset,i.size)) fs.toList (λf hf=>by
  have:=DB.1 ha f hf;simpa using this)
 obtain⟨vs,g1,g2⟩:=aC7 (places:=places) hη hu (λi f hf=>by
  have azc:=DB.1 ha f (Cp<|by simpa using hf);rw[hpl i f<|by simpa using hf];obtain⟨inf,aCx⟩:=Option.isSome_iff_exists.1 azc;simp[aCx,X9 aCx]) ps.toList _ z.cells cs h (RL.lits _ h1)
 refine Good.same hH (u:= .agg vs) ?_ ⟨vs.toList,by simp,g2⟩;unfold execOp;rw[ho];have hb:P.built t (ps.map fun(i,x)=>(i,η x)).toList=I vs:=by
  simp only[Program.built,hi,hu,hz',hm];rw[← g1,Array.toList_map]
 simp only[Eh,run_build w t _ _ hb,F2];rfl
def axi{k:K}{cs:List AV}{x:Tof k}(h:dec (λ_=>G) k cs=I x){us:List Value}(hl:RL (RC w β) cs us):RL (RC w β) (enc k x) us:=by
 have sl:∀(k:K) (c:AV) (l:List (Tof k)) (u:Value),CJ (λ_=>G) k c=I l->RC w β c u->RC w β (.sl k l) u:=by
  intro k c l u h1 h2;unfold CJ at h1;split at h1
  .obtain⟨e,rfl⟩:=I2 h1;subst e;exact h2
  .cases h1;rw[h2.Nl];exact .nil
  .cases h1
  .cases h1
 unfold dec at h;split at h<;>try (cases h;done)
 all_goals try (cases h;exact hl)
 .rename_i x';cases hx:CJ (λ_=>G) K.mixed x' with
  | none=>rw[hx]at h;cases h
  | some l=>
   rw[hx]at h;cases h;obtain⟨u1,_,rfl,g1,hl⟩:=hl.CD;obtain⟨u2,_,rfl,g2,hl⟩:=hl.CD;obtain⟨u3,_,rfl,g3,hl⟩:=hl.CD;obtain⟨u4,_,rfl,g4,hl⟩:=hl.CD;obtain⟨u5,_,rfl,g5,hl⟩:=hl.CD;obtain⟨u6,_,rfl,g6,hl⟩:=hl.CD;exact .cons g1 (.cons g2<|.cons g3<|.cons g4<|.cons g5<|.cons (sl _ _ _ _ hx g6) hl)
 .rename_i x' y' z';cases hx:CJ (λ_=>G) K.note x' with
  | none=>rw[hx]at h;cases h
  | some l=>
   cases hy:CJ (λ_=>G) K.mark y' with
   | none=>rw[hx,hy]at h;cases h
   | some m=>
    cases hz:CJ (λ_=>G) K.note z' with
    | none=>rw[hx,hy,hz]at h;cases h
    | some n=>
     rw[hx,hy,hz]at h;cases h;obtain⟨u1,_,rfl,g1,hl⟩:=hl.CD;obtain⟨u2,_,rfl,g2,hl⟩:=hl.CD;obtain⟨u3,_,rfl,g3,hl⟩:=hl.CD;obtain⟨u4,_,rfl,g4,hl⟩:=hl.CD;obtain⟨u5,_,rfl,g5,hl⟩:=hl.CD;obtain⟨u6,_,rfl,g6,hl⟩:=hl.CD;exact .cons g1 (.cons g2<|.cons g3<|.cons (sl _ _ _ _ hx g4)<|.cons (sl _ _ _ _ hy g5)<|.cons (sl _ _ _ _ hz g6) hl)
 .rename_i x';cases hx:CJ (λ_=>G) K.half x' with
  | none=>rw[hx]at h;cases h
  | some l=>
   rw[hx]at h;cases h;obtain⟨u1,_,rfl,g1,hl⟩:=hl.CD;obtain⟨u2,_,rfl,g2,hl⟩:=hl.CD;obtain⟨u3,_,rfl,g3,hl⟩:=hl.CD;obtain⟨u4,_,rfl,g4,hl⟩:=hl.CD;obtain⟨u5,_,rfl,g5,hl⟩:=hl.CD;exact .cons g1<|.cons g2<|.cons g3<|.cons g4<|.cons (sl _ _ _ _ hx g5) hl
def aBy{k:K}:∀ {vs:List AV} {us:List Value} {xs:List (Tof k)},M7 k vs=I xs->(us.length=vs.length/\ ∀(j:Nat) (c:AV) (u:Value),vs[j]? =I c->us[j]? =I u->RX w β tm c u)->
  xs.length=vs.length/\(∀u∈us,u.cells.size=ks k)/\RL (RC w β) (xs.flatMap<|enc k) (us.flatMap λu=>u.cells.toList)
 | [],us,xs,h,hl=>by
  simp only[M7,Bv]at h;subst h;obtain rfl:us=[]:=Df (by simpa using hl.1);exact⟨rfl,by simp,RL.nil⟩
 | v::vs,us,xs,h,hl=>by
  cases us with
  | nil=>exact absurd hl.1<|by simp
  | cons u us=>
   simp only[M7]at h;cases hc:Ga v with
   | none=>rw[hc]at h;cases h
   | some cs=>
    rw[hc]at h;simp only[A6]at h;cases hd:dec (λ_=>G) k cs with
    | none=>rw[hd]at h;cases h
    | some x=>
     rw[hd]at h;simp only[A6]at h;cases hr:M7 k vs with
     | none=>rw[hr]at h;cases h
     | some ys=>
      rw[hr]at h;cases h;have h1:=axi hd<|Se hc<|hl.2 0 v u rfl rfl;obtain⟨i1,i2,i3⟩:=aBy hr ⟨by have:=hl.1;simpa using this,λj c u' a1 a2=>hl.2 (j+1) c u' (by simpa using a1)<|by simpa using a2⟩;refine⟨by simp[i1],λu' hu'=> ?_, ?_⟩
      .rcases Bj.1 hu' with e|e
       .subst e;have:=h1.1;rw[EL]at this;simpa using this
       .exact i2 u' e
      .rw[P6,P6];exact h1.append i3
def kJ:∀ {n:Nat} {ps:List (Nat×Operand)} {vs:List AV},I6 ρ n ps=I vs->ps=((ps.map (·.2)).zipIdx n).map (λx=>(x.2,x.1))/\vs=ps.map (λp=>ρ p.2)
 | n,[],vs,h=>by simp only[I6,Bv]at h;subst h;exact⟨rfl,rfl⟩
 | n,(i,x)::ps,vs,h=>by
  simp only[I6]at h;split at h
  .rename_i hi;obtain rfl:=Br hi;cases hr:I6 ρ (i+1) ps with
   | none=>rw[hr]at h;cases h
   | some ws=>
    rw[hr]at h;cases h;obtain⟨h1,h2⟩:=kJ hr;refine⟨?_,by simp[h2]⟩;rw[DV,mK,DV];exact congrArg _ h1
  .cases h
def aGP(sz:Nat):∀(us:List Value) (n:Nat) (cells:Array Value),(∀u∈us,u.cells.size=sz)->(n+us.length) * sz<=cells.size->
  NI (λi=>I (i * sz,sz)) cells ((us.zipIdx n).map λx=>(x.2,x.1))=I (cells.toList.take (n * sz)++(us.flatMap λu=>u.cells.toList)++cells.toList.drop ((n+us.length) * sz)).toArray
 | [],n,cells,_,_=>by simp[NI]
 | u::us,n,cells,h,hl=>by
  have hu:=h u aG9;simp only[Bm]at hl;have e1:(n+(us.length+1)) * sz=n * sz+(us.length * sz+sz):=by rw[EH,EH,P1]
  have e2:(n+1+us.length) * sz=n * sz+(us.length * sz+sz):=by rw[← e1];congr 1;omega
  have e3:(n+1) * sz=n * sz+sz:=by rw[EH,P1]
  rw[mK,DV,aEc _ _ n (n * sz) u _ (by simp[hu]) J,aGP sz us (n+1) _ (λv hv=>h v<|by simp[hv]) ?_]
  .congr 2;simp only[aDD,P6,hu];have hcl:cells.toList.length=cells.size:=Ez;have ht:(cells.toList.take (n * sz)++u.cells.toList).length=(n+1) * sz:=by
    simp only[Am,DW,Ez,hu];omega
   have h4:(cells.toList.take (n * sz)++u.cells.toList++cells.toList.drop (n * sz+sz)).take ((n+1) * sz)=cells.toList.take (n * sz)++u.cells.toList:=by
    rw[← ht,P4];rfl
   have h5:(cells.toList.take (n * sz)++u.cells.toList++cells.toList.drop (n * sz+sz)).drop ((n+1+us.length) * sz)=cells.toList.drop ((n+(us.length+1)) * sz):=by
    rw[List.drop_append,ht,KI (by rw[ht,e2,e3];omega),EV,J5];congr 1;rw[e1,e2,e3];omega
   rw[h4,h5];simp[C7,NR,Nat.add_left_comm,D8]
  .simp only[LG,Am,DW,Ez,E4,hu];omega
def al0(hη:∀x,RX w β tm (ρ x)<|η x)(hH:Hs B β H w)(hb:H b=G){t e:TypeId}{len:Nat}{ps:Array (Nat×Operand)}{k:K}{vs:List AV}{xs:List (Tof k)}(he:IX P t=I e)(hp:I6 ρ 0 ps.toList=I vs)(hd:M7 k vs=I xs)
  (hl:vs.length=len)(hc:P.cellsOf e=ks k)(hsm:len<=65536)(hz:zok P e k=Y){o:Oper}(ho:o.op= .buildSlice t len ps):Good B β H w b (.own b) [.row e A0 k xs] ((execOp η o).run P w):=by
 obtain⟨i,z,hi,hz',hs,_⟩:=ZO hz;have hu:=fe he;by_cases azm:len=0
 .subst azm;obtain rfl:vs=[]:=Df hl;simp only[M7,Bv]at hd;subst hd;have hps:ps= #[]:=by
   have:=(kJ hp).2;have h2:ps.toList=[]:=by
    have:=congrArg Jd this;exact Df<|by simpa using this.symm
   exact Array.toList_inj.1<|by simpa using h2
  subst hps;refine ZV (w':=w.alloc<|.cells #[] e) (cap:=0) (us:= #[]) hH hb rfl rfl rfl (λj hj=>heap_alloc_old w _ hj) (heap_alloc_new w _) aG9 aG9 aG9 (λi x j c u a1=>by simp at a1) ?_;unfold execOp;rw[ho];simp[Instr.buildSlice,run_underlying hu,sizeOf,typeInfo,hi,NI,newRow,show U2 0= #[] from by simp[U2]]
 have h0:1<=len:=J
 rw[X9 hi]at hc;obtain⟨h1,rfl⟩:=kJ hp;have hkp:=I4 k;have amo:ks k<=16:=by cases k<;>decide
 have hu':((ps.toList.map λp=>η p.2).length=(ps.toList.map λp=>ρ p.2).length):=by simp
 obtain⟨d1,d2,d3⟩:=aBy (w:=w) (β:=β) (tm:=tm) (us:=ps.toList.map λp=>η p.2) hd ⟨by simp,λj c u a1 a2=>by
  simp only[DA,D9]at a1 a2;obtain⟨p,hp1,rfl⟩:=a1;obtain⟨p',hp2,rfl⟩:=a2;rw[hp1]at hp2;cases hp2;exact hη _⟩
 have azU:(ps.map fun(i,x)=>(i,η x)).toList=((ps.toList.map λp=>η p.2).zipIdx 0).map λx=>(x.2,x.1):=by
  rw[Array.toList_map]
  conv=>lhs;rw[h1]
  rw[IF,List.zipIdx_map,List.zipIdx_map,IF,IF];rfl
 have hlen:(ps.toList.map λp=>η p.2).length=len:=by simpa using hl
 have abw:=aGP (ks k) (ps.toList.map λp=>η p.2) 0 ((U2<|len * ks k).map (z.cells[· % z.cells.size]!)) d2 (by simp[hlen]);have azP:¬len * i.size > 2 ^ 24:=by
  rw[hc];have:len * ks k<=65536 * 16:=my hsm amo;omega
 have PV:¬len * i.size=0:=by
  rw[hc];have:1 * 1<=len * ks k:=my h0 hkp;omega
 have qG:(((U2<|len * ks k).map (z.cells[· % z.cells.size]!)).toList.take (0 * ks k)++((ps.toList.map λp=>η p.2).flatMap λu=>u.cells.toList)++((U2<|len * ks k).map (z.cells[· % z.cells.size]!)).toList.drop ((0+(ps.toList.map λp=>η p.2).length) * ks k)).toArray
   =((ps.toList.map λp=>η p.2).flatMap λu=>u.cells.toList).toArray:=by
  rw[hlen,KI aG9];simp
 rw[qG]at abw;have Ck:=run_buildSlice w t e len (ps.map fun(i,x)=>(i,η x)) _ i z hu hi hz' azP PV (by rw[azU,hc];exact abw);have hxl:xs.length=len:=by rw[d1];exact hl
 refine ZV (w':=w.alloc<|.cells ((ps.toList.map λp=>η p.2).flatMap λu=>u.cells.toList).toArray e) (cap:=len) hH hb rfl rfl rfl (λj hj=>heap_alloc_old w _ hj) (heap_alloc_new w _) J (C6 hsm aHd) ?_ ?_ ?_
 .have:=d3.1;rw[Kr]at this;simp only[LG];rw[this,hxl];exact Ar _
 .intro i x j c u a1 a2 a3;exact QL d3 i x j c u a1 a2 (by simpa using a3)
 .unfold execOp;rw[ho];simp only[Eh,Ck,F2,hxl];rfl
def Xa{lo hi:Option Operand}{n:Nat}{l h:Int}(hη:∀x,RX w β tm (ρ x)<|η x)(hc:JU (lo.map ρ) (hi.map ρ) n=I (Y,l,h))(isS:Bool){cap:Nat}(Hr:n<=cap):
  (Qk isS n cap (lo.map η) (hi.map η) G).run P w= .ok (l.toNat,h.toNat,cap) w/\0<=l/\l<=h/\h<=(n:Int):=by
 have hB:∀(k:IntKind) (i:Int) (y:Nat) (code:BoundsCode),0<=i->i<=(y:Int)->(Instr.sliceBound (.int k i) y code).run P w= .ok i.toNat w:=by
  intro k i y code h1 h2;simp[Instr.sliceBound,asIntOf,h1,h2]
 unfold JU at hc;split at hc
 .rename_i h1 h2;cases lo with
  | some x=>cases h1
  | none=>
  cases hi with
  | some x=>cases h2
  | none=>
   simp only[Bv,CS]at hc;obtain⟨_,rfl,rfl⟩:=hc;exact⟨by simp[Qk],J,J,J⟩
 .rename_i k l' h1 h2;cases hi with
  | some x=>cases h2
  | none=>
  cases lo with
  | none=>cases h1
  | some x=>
   simp only[Qi,Bv]at h1;have hx:=hη x;rw[h1]at hx;simp only[Bv,CS,AE,decide_eq_true_eq]at hc;obtain⟨⟨g1,g2⟩,rfl,rfl⟩:=hc;refine⟨?_,g1,g2,J⟩;simp[Qk,hx.lit,hB _ _ _ _ g1 g2]
 .rename_i k l' h1 h2;cases lo with
  | some x=>cases h1
  | none=>
  cases hi with
  | none=>cases h2
  | some x=>
   simp only[Qi,Bv]at h2;have hx:=hη x;rw[h2]at hx;simp only[Bv,CS,AE,decide_eq_true_eq]at hc;obtain⟨⟨g1,g2⟩,rfl,rfl⟩:=hc;refine⟨?_,J,g1,g2⟩;cases isS<;>simp[Qk,hx.lit,hB _ _ _ _ g1 (J:l'<=(cap:Int))]
 .rename_i k1 l' k2 h' h1 h2;cases lo with
  | none=>cases h1
  | some y=>
  cases hi with
  | none=>cases h2
  | some x=>
   simp only[Qi,Bv]at h1 h2;have hy:=hη y;rw[h1]at hy;have hx:=hη x;rw[h2]at hx;simp only[Bv,CS,AE,decide_eq_true_eq]at hc;obtain⟨⟨⟨g1,g2⟩,g3,g4⟩,rfl,rfl⟩:=hc;refine⟨?_,g3,g4,g2⟩;have e1:=hB k2 h' cap;have e2:=hB k1 l' h'.toNat .sliceB g3 J;cases isS<;>simp[Qk,hx.lit,hy.lit,e1 _ g1 (J:h'<=(cap:Int)),e2]
 .cases hc
def nk{α:Type}{lo hi:Option AV}{l h:Int}{xs:List α}(hc:JU lo hi xs.length=I (Y,l,h)):Ix lo hi l h xs=(xs.take h.toNat).drop l.toNat:=by
 unfold JU at hc;split at hc
 .simp only[Bv,CS]at hc;obtain⟨_,rfl,rfl⟩:=hc;simp[Ix]
 .simp only[Bv,CS]at hc;obtain⟨_,rfl,rfl⟩:=hc;simp[Ix]
 .simp only[Bv,CS]at hc;obtain⟨_,rfl,rfl⟩:=hc;simp[Ix]
 .simp only[Bv,CS]at hc;obtain⟨_,rfl,rfl⟩:=hc;simp[Ix]
 .cases hc
def RC.cut{k:K}{xs:List (Tof k)}{bb f cap l h:Nat}{ys:List (Tof k)}(hy:ys=(xs.take h).drop l)(hlh:l<=h)(hh:h<=xs.length)(hx:RC w β (.sl k xs) (.slice (I ⟨bb,f,G⟩) xs.length cap))(Hr:xs.length<=cap):
  RC w β (.sl k ys) (.slice (if cap=l then I ⟨bb,f,G⟩ else I ⟨bb,f+l * ks k,G⟩) (h - l)<|cap - l):=by
 by_cases he:h=l
 .obtain rfl:ys=[]:=by subst hy;subst he;rw[KI];simp;omega
  rw[show h - l=0 by omega];exact .nil
 .have hne:xs≠[]:=λe=>by subst e;simp at hh;omega
  rw[A9 J];cases hx with
  | nil=>exact absurd rfl hne
  | sl u hn hm hu hr=>
   have hyl:ys.length=h - l:=by subst hy;simp;omega
   refine .sl (λi j=>u (l+i) j) ⟨hyl.symm,J⟩ hm (λi j hi hj=> ?_) (λi x j c h1 h2=>hr (l+i) x j c ?_ h2)
   .have:=hu (l+i) j J hj;rw[EH]at this;rw[← this];congr 2;omega
   .subst hy;rw[Hk,Gk]at h1;split at h1
    .exact h1
    .cases h1
def kI{t e:TypeId}(hu:P.underlying t=I (.slice e))(h1:1<=P.cellsOf e){a:Option Addr}{n cap l h m:Nat}{lo hi:Option Value}(hb:(Qk Y n cap lo hi G).run P w= .ok (l,h,m) w):
  (Qg t (.slice a n cap) lo hi G).run P w= .ok (.slice (if m=l then a else a.map (·.add (l * P.cellsOf e))) (h - l)<|m - l) w:=by
 simp[Qg,Instr.slice,run_underlying hu,hb,L0 h1]
def as2(hη:∀x,RX w β tm (ρ x)<|η x)(hH:Hs B β H w){t:TypeId}{x:Operand}{lo hi:Option Operand}(hf:JD P H t (ρ x)=Y){q:Bool}{v:AV}{os:List Ob}(h:Qa (lo.map ρ) (hi.map ρ) (ρ x)=I (q,v,os))(hq:q=Y):
  Good B β H w b v os (((Qg t (η x) (lo.map η) (hi.map η) G).run P w).andThen λu w=> .ok (.value u) w):=by
 subst hq;have hx:=hη x;generalize ρ x=c at h hx hf;unfold Qa at h;split at h
 .rename_i s;cases hc:JU (lo.map ρ) (hi.map ρ) s.size with
  | none=>rw[hc]at h;cases h
  | some r=>
   obtain⟨q',l,h'⟩:=r;rw[hc]at h;simp only[A6,Bv,CS]at h;obtain⟨rfl,rfl,rfl⟩:=h;obtain⟨hb,g1,g2,g3⟩:=Xa (P:=P) (w:=w) (β:=β) (tm:=tm) hη hc A0<|Ar _;rw[hx.lit];have hu:P.underlying t=I .string:=by
    unfold JD at hf;split at hf<;>simp_all
   refine Good.same hH (u:= .string<|s.extract l.toNat h'.toNat) ?_ rfl;simp[Qg,Instr.slice,run_underlying hu,hb]
 .rename_i k xs;cases hc:JU (lo.map ρ) (hi.map ρ) xs.length with
  | none=>rw[hc]at h;cases h
  | some r=>
   obtain⟨q',l,h'⟩:=r;rw[hc]at h;simp only[A6,Bv,CS]at h;obtain⟨rfl,rfl,rfl⟩:=h;obtain⟨e,hu,hk⟩:∃e,P.underlying t=I (.slice e)/\P.cellsOf e=ks k:=by
    unfold JD at hf;split at hf<;>simp_all
   have h1:=I4 k;have hx':RC w β (.sl k xs) (η x):=hx;obtain⟨a,cap,hv,Hr⟩:=hx'.qC.len;obtain⟨hb,g1,g2,g3⟩:=Xa (P:=P) (w:=w) (β:=β) (tm:=tm) hη hc Y Hr;rw[hv]at hx' ⊢;rw[kI hu J hb,hk];refine Good.same hH rfl ?_;by_cases hxs:xs=[]
   .subst hxs;have e1:h'.toNat - l.toNat=0:=by simp at g3;omega
    have e2:Ix (lo.map ρ) (hi.map ρ) l h' ([]:List (Tof k))=[]:=by rw[nk hc];simp
    rw[e1,e2];exact RC.nil
   .have ha:∃bb f,a=I ⟨bb,f,G⟩:=by
     cases hx' with
     | nil=>exact absurd rfl hxs
     | sl=>exact⟨_,_,rfl⟩
    obtain⟨bb,f,rfl⟩:=ha;have:=RC.cut (l:=l.toNat) (h:=h'.toNat) (nk hc) J J hx' Hr;simpa[R2,R1,Gh,apply_ite] using this
 .cases hc:JU (lo.map ρ) (hi.map ρ) 0 with
  | none=>rw[hc]at h;cases h
  | some r=>
   obtain⟨q',l,h'⟩:=r;rw[hc]at h;simp only[A6,Bv,CS]at h;obtain⟨rfl,rfl,rfl⟩:=h;obtain⟨e,hu,hk⟩:∃e,P.underlying t=I (.slice e)/\1<=P.cellsOf e:=by
    unfold JD at hf;split at hf<;>simp_all
   obtain⟨hb,g1,g2,g3⟩:=Xa (P:=P) (w:=w) (β:=β) (tm:=tm) hη hc Y<|Ar _;rw[hx.lit,kI hu hk hb];have e1:h'.toNat=0:=J
   have e2:l.toNat=0:=J
   refine Good.same hH (u:= .slice G 0 0) ?_ rfl;rw[e1,e2];rfl
 .cases h
end
end Go.VS
namespace Go.VS
open Go
section
variable {P:Program} {B:Be} {β:Beta} {H:Hp} {w w':World} {b:Nat} {tm:Nat->Value} {ρ:Operand->AV} {η:Operand->Value} {kd:TypeId->Option K}
def atb(hP:P=B.P)(hη:∀x,RX w β tm (ρ x)<|η x)(htm:∀g,η (.tmp g)=tm g)(hcv:∀v,η (.const v)=v)(hH:Hs B β H w)(hb:H b=G){o:Oper}{q:Bool}{v:AV}{os:List Ob}
  (h:CI P kd ρ H b o.op=I (q,v,os))(hq:q=Y):Good B β H w b v os ((execOp η o).run P w):=by
 generalize ho:o.op=op at h;have Pa:∀ {s:Sem Value},(execOp η o=(do pure (.value<|← s):Sem Next))->(execOp η o).run P w=(s.run P w).andThen λu w=> .ok (.value u) w:=by
  intro s e;rw[e];simp only[Eh];rfl
 cases op<;>try (simp[CI]at h;done)
 case move x=>
  obtain⟨rfl,_,rfl,hg⟩:=OQ h;refine Good.same hH (u:=η x) ?_<|(hη x).of hg;unfold execOp;rw[ho];rfl
 case assign x=>
  obtain⟨rfl,_,rfl,hg⟩:=OQ h;refine Good.same hH (u:=η x) ?_<|(hη x).of hg;unfold execOp;rw[ho];rfl
 case pick c x y=>exact asn hη htm hcv hH h hq ho
 case alloc t=>
  simp only[CI]at h;split at h
  .rename_i n e hu;cases hk:kd e with
   | none=>rw[hk]at h;cases h
   | some k=>
    cases hz:Ha P t with
    | none=>rw[hk,hz]at h;cases h
    | some zs=>
     rw[hk,hz]at h;simp only[A6]at h;split at h
     .rename_i hc;simp only[AE]at hc;cases h;exact apW hP hH hb hz hc.1.1 (Br hc.1.2) (DL hc.2) ho
     .cases h
  .cases hz:Ha P t with
   | none=>rw[hz]at h;cases h
   | some zs=>
    rw[hz]at h;cases h;exact asJ hH hb hz ho
 case box t x=>
  simp only[CI]at h;cases hc:Ga (ρ x) with
  | none=>rw[hc]at h;cases h
  | some cs=>
   rw[hc]at h;cases h;exact aw4 hη hH hb hc ho
 case build t ps=>
  simp only[CI]at h;cases hz:Ha P t with
  | none=>rw[hz]at h;cases h
  | some zs=>
   rw[hz]at h;simp only[A6]at h;split at h
   .rename_i fs hu;split at h
    .rename_i ha;cases hc:I7 P ρ t ps.toList zs with
     | none=>rw[hc]at h;cases h
     | some cs=>
      rw[hc]at h;obtain⟨rfl,_,rfl⟩:=DO h;exact asG hη hH hz hu ha hc ho
    .cases h
   .cases h
 case buildSlice t len ps=>
  simp only[CI]at h;cases he:IX P t with
  | none=>rw[he]at h;cases h
  | some e=>
   rw[he]at h;simp only[A6]at h;cases hk:kd e with
   | none=>rw[hk]at h;cases h
   | some k=>
    rw[hk]at h;simp only[A6]at h;cases hp:I6 ρ 0 ps.toList with
    | none=>rw[hp]at h;cases h
    | some vs=>
     rw[hp]at h;simp only[A6]at h;cases hd:M7 k vs with
     | none=>rw[hd]at h;cases h
     | some xs=>
      rw[hd]at h;simp only[A6]at h;split at h
      .rename_i hc;simp only[AE]at hc;cases h;exact al0 hη hH hb he hp hd (Br hc.1.1.1) (Br hc.1.1.2) (DL hc.1.2) hc.2 ho
      .cases h
 case load t p=>
  simp only[CI]at h;cases hl:K6 P H t (ρ p) with
  | none=>rw[hl]at h;cases h
  | some v'=>
   rw[hl]at h;obtain⟨rfl,_,rfl⟩:=DO h;exact awp hP hη hH hl ho
 case nilCheck p=>
  simp only[CI]at h;split at h
  .rename_i hp;obtain⟨rfl,_,rfl⟩:=DO h;exact aAy hη hH (.inl ⟨_,_,_,_,rfl⟩) hp ho
  .rename_i hp;obtain⟨rfl,_,rfl⟩:=DO h;exact aAy hη hH (.inr ⟨_,_,_,rfl⟩) hp ho
  .cases h
 case binOp op t x y z=>
  refine asH (t:=t) (x:=x) (y:=y) hη hH h hq<|Pa ?_;unfold execOp;rw[ho]
 case unOp op t x=>
  rw[Pa (by unfold execOp;rw[ho])];exact asX hη hH h
 case convert src dst x=>
  rw[Pa (by unfold execOp;rw[ho])];have hx:=hη x;have conv:(Is P src dst (ρ x)=I (q,v,os)/\ ∀i,v≠ .own i)\/(∃c i os',Is P src dst (ρ x)=I (c,.own i,os')/\(c,AV.own b,os')=(q,v,os))\/ ∃e xs,P.underlying src=I (.slice e)/\P.underlying dst=I .string/\P.underlying e=I (.int .u8)/\CJ H .u8 (ρ x)=I xs/\v= .s (BF xs)/\os=[]:=by
   simp only[CI]at h;split at h
   .rename_i e hs hd;split at h
    .rename_i he;cases hx:CJ H .u8 (ρ x) with
     | none=>rw[hx]at h;cases h
     | some xs=>
      rw[hx]at h;obtain⟨rfl,_,rfl⟩:=DO h;exact .inr (.inr ⟨e,xs,hs,hd,he,rfl,rfl,rfl⟩)
    .cases h
   .split at h
    .rename_i c i os' hc;exact .inr (.inl ⟨c,i,os',hc,E5 h⟩)
    .rename_i hno;exact .inl ⟨h,λi e=>hno q i os<|by rw[h,e]⟩
  have amM:∀e xs,CJ H .u8 (ρ x)=I xs->P.underlying src=I (.slice e)->∀g w y,ρ x≠ .gd g w y:=by
   intro e xs h1 h2 g w y h3;rw[h3]at h1;simp[CJ]at h1
  have cA:∀q v os,Is P src dst (ρ x)=I (q,v,os)->q=Y->(∀i,v≠ .own i)->Good B β H w b v os (((convert src dst<|η x).run P w).andThen λu w=> .ok (.value u) w):=by
   intro q v os h hq hn;generalize ρ x=c at h hx;unfold Is at h;split at h
   .rename_i d k k' n KW hd;obtain⟨rfl,_,rfl⟩:=DO h;rw[hx.lit];refine Good.same hH (u:= .int k<|k.wrap n) ?_ rfl;cases d<;>simp[convert,run_underlying KW,run_underlying hd,Conv.intToInt]
   .rename_i hs hd;obtain⟨rfl,_,rfl⟩:=DO h;rw[hx.lit];refine Good.same hH (u:= .string _) ?_ rfl;simp[convert,run_underlying hs,run_underlying hd]
   .split at h
    .simp only[Bv,CS]at h;exact absurd h.2.1.symm (hn 0)
    .cases h
   .cases h
  obtain⟨h1,hno⟩|⟨c,i,os',h1,h2⟩|⟨e,xs,hs,hd,he,h1,rfl,rfl⟩:=conv
  .exact cA q v os h1 hq hno
  .cases h2;subst hq;generalize ρ x=c at h1 hx;unfold Is at h1;split at h1
   .cases h1
   .cases h1
   .rename_i e s hs hd;split at h1
    .rename_i he;simp only[Bv,CS]at h1;obtain⟨hr,_,rfl⟩:=h1;rw[hx.lit];exact asF hH hb hs hd he hr
    .cases h1
   .cases h1
  .have hx2:R2 w β (ρ x) (η x):=hx.of<|amM e xs h1 hs;refine Good.same hH (u:= .string<|BF xs) ?_ rfl;rw[atV hs he hd<|aa7 hH h1 hx2];rfl
 case makeSlice t l c=>
  rw[Pa (by unfold execOp;rw[ho])];have mk:∀n,η l= .int .i64 n->η c= .int .i64 n->((IX P t).bind λe=>(kd e).bind λk=>
   match zok P e k&&Af (P.cellsOf e) (ks k)&&Dv (P.bytesOf e) 256 with
   | true=>I (U (0<=n)&&U (n<=4294967296),AV.own b,[Ob.row e A0 k (BZ n.toNat<|dfl k)])
   | false=>G)=I (q,v,os)->Good B β H w b v os (((Instr.makeSlice t (η l)<|η c).run P w).andThen λu w=> .ok (.value u) w):=by
   intro n h1 h2 h;cases he:IX P t with
   | none=>rw[he]at h;cases h
   | some e=>
    rw[he]at h;simp only[A6]at h;cases hk:kd e with
    | none=>rw[hk]at h;cases h
    | some k=>
     rw[hk]at h;simp only[A6]at h;split at h
     .rename_i hc;simp only[AE]at hc;simp only[Bv,CS]at h;obtain⟨hr,rfl,rfl⟩:=h;rw[hq]at hr;simp only[AE,decide_eq_true_eq]at hr;rw[h1,h2];exact atA hH hb he hc.1.1 (Br hc.1.2) (DL hc.2) hr.1 hr.2
     .cases h
  have hl:=hη l;have hc:=hη c;simp only[CI]at h;split at h
  .rename_i n hl' Gr;rw[hl']at hl;split at Gr
   .obtain rfl:=Br Gr;exact mk n hl.lit hl.lit h
   .cases Gr
  .rename_i n m hl' hc' Gr;rw[hl']at hl;rw[hc']at hc;split at h
   .rename_i hnm;obtain rfl:n=m:=by simpa using hnm
    exact mk n hl.lit hc.lit h
   .cases h
  .cases h
 case slice t x lo hi mx=>
  cases mx with
  | some m=>simp[CI]at h
  | none=>
   rw[Pa (by unfold execOp;rw[ho])];simp only[CI]at h;split at h
   .rename_i hf;exact as2 hη hH hf h hq
   .cases h
 case fieldAddr t x f=>
  simp only[CI]at h;cases hf:Lt P t f with
  | none=>rw[hf]at h;cases h
  | some fd=>
   rw[hf]at h;simp only[A6]at h;split at h
   .rename_i h1;split at h
    .rename_i hp;obtain⟨rfl,_,rfl⟩:=DO h;exact aAT hη hH hf (DL h1) (.inl ⟨_,_,_,_,hp,rfl⟩) ho
    .rename_i hp;obtain⟨rfl,_,rfl⟩:=DO h;exact aAT hη hH hf (DL h1) (.inr ⟨_,_,_,hp,rfl⟩) ho
    .cases h
   .cases h
 case field t x f=>
  simp only[CI]at h;cases hf:Lt P t f with
  | none=>rw[hf]at h;cases h
  | some fd=>
   rw[hf]at h;simp only[A6]at h;split at h
   .rename_i cs hx;cases hl:HZ P fd.type cs fd.offset with
    | none=>rw[hl]at h;cases h
    | some v'=>
     rw[hl]at h;obtain⟨rfl,_,rfl⟩:=DO h;exact arN hη hH hf hx hl ho
   .cases h
 case indexAddr t x ix=>
  rw[Pa (by unfold execOp;rw[ho])];simp only[CI]at h;split at h
  .rename_i hi;exact anm hP hη hH hi h hq
  .cases h
 case index t x ix=>
  rw[Pa (by unfold execOp;rw[ho])];simp only[CI]at h;split at h
  .rename_i hi;exact arb hη hH hi h hq
  .cases h
 case extract x i=>
  simp only[CI]at h;split at h
  .rename_i vs hx;cases hv:vs[i]? with
   | none=>rw[hv]at h;cases h
   | some v'=>
    rw[hv]at h;obtain⟨rfl,_,rfl⟩:=DO h;exact aqm hη hH hx hv ho
  .cases h
 case call c=>
  have Re:∀ {x:Operand} {v:Value},ρ x= .lit v->η x=v:=fun {x v} e=>by have:=hη x;rw[e]at this;exact this.lit
  obtain⟨cal,⟨args⟩,⟨tys⟩⟩:=c;simp only[CI,JO]at h;split at h
  .rename_i x t;have run:∀n:Nat,(Qu #[t] o.type #[η x]).run P w= .ok (.int .i64 n) w->Good B β H w b (.i n) [] ((execOp η o).run P w):=by
    intro n hn;refine Good.same hH (u:= .int .i64 n) ?_ rfl;unfold execOp;rw[ho];simp[resolve,invoke,builtin,hn]
   split at h
   .rename_i s hu hx;obtain⟨rfl,_,rfl⟩:=DO h;refine run _ ?_;rw[Re hx];simp[Qu,run_underlying hu,goInt]
   .rename_i e k xs hu hx;obtain⟨rfl,_,rfl⟩:=DO h;have h1:=hη x;rw[hx]at h1;have h2:RC w β (.sl k xs) (η x):=h1;obtain⟨a,cap,hv,_⟩:=h2.qC.len;refine run _ ?_;rw[hv,lR hu]
   .rename_i e hu hx;obtain⟨rfl,_,rfl⟩:=DO h;refine run 0 ?_;rw[Re hx,lR hu]
   .rename_i e id hu hx;split at h
    .rename_i e' fz k xs hid;obtain⟨rfl,_,rfl⟩:=DO h;have h1:=hη x;rw[hx]at h1;have h2:RC w β (.own id) (η x):=h1;obtain⟨hd,h3,h4⟩:=hH.EJ id _ hid;generalize hg:η x=g at h2 run;cases h2 with
     | own h5 h6=>
      rw[h3]at h5;cases h5;obtain⟨a,cap,hv,_⟩:=h4.cells.len;refine run _ ?_;rw[hv,lR hu]
    .cases h
   .rename_i n e v hu;obtain⟨rfl,_,rfl⟩:=DO h;refine run _ ?_;simp[Qu,run_underlying hu,goInt]
   .cases h
  .rename_i x y;split at h
   .rename_i k a k' c hx hy;split at h
    .rename_i hk;obtain rfl:k=k':=by simpa using hk
     obtain⟨rfl,_,rfl⟩:=DO h;refine Good.same hH (u:= .int k<|if c<a then c else a) ?_ rfl;unfold execOp;rw[ho];simp[resolve,invoke,builtin,Builtin.min_,Builtin.min2,Re hx,Re hy]
    .cases h
   .cases h
  .rename_i x y;split at h
   .rename_i k a k' c hx hy;split at h
    .rename_i hk;obtain rfl:k=k':=by simpa using hk
     obtain⟨rfl,_,rfl⟩:=DO h;refine Good.same hH (u:= .int k<|if a<c then c else a) ?_ rfl;unfold execOp;rw[ho];simp[resolve,invoke,builtin,Builtin.max_,Builtin.max2,Re hx,Re hy]
    .cases h
   .cases h
  .cases h
end
end Go.VS
namespace Go.VS
open Go
section
variable {B:Be} {β β':Beta} {stk:List (Array Value)} {s:S} {a:Act} {w w':World}
def auQ{cs:List Value}(h:cs.all ai=Y):∀v∈cs,v.oneCell'=Y:=λv hv=>by
 rw[← aGT];exact DB.1 h v hv
def auR(v:Value):R2 w β (ofV v) v:=by
 unfold ofV;split
 .rename_i cs;split
  .rename_i h;exact⟨cs.toList,by simp,RL.lits _<|auQ h⟩
  .trivial
 .rfl
def St.eval(h:St B β stk s a w)(x:Operand):RX w β (Bb a) (s.ev x) (a.eval x):=by
 cases x with
 | tmp t=>exact(h.T t).bP
 | const v=>
  have:=auR (w:=w) (β:=β) v;show RX w β (Bb a) (ofV v) v;exact RT.bP<|RT.HL this
 | _=>trivial
def aa8{l:List Nat}{t:Nat}(h:(l.any λp=>Af p t)=A0):t ∉ l:=by
 intro hm;have:(l.any λp=>Af p t)=Y:=KD.2 ⟨t,hm,by simp⟩;rw[h]at this;cases this
def St.put(h:St B β stk s a w){d:Option Nat}(hd:s.has d=Y){v:AV}{u:Value}(hv:RT w β (Bb a) v u)(hg:∀g want x,v= .gd g want x->s.gs g=Y):St B β stk (s.put d v) (a.put d u) w:=by
 cases d with
 | none=>exact h
 | some d=>
  simp only[S.has,AE,CM]at hd;obtain⟨⟨h1,h2⟩,h3⟩:=hd;have hlt:d<a.tmps.size:=by rw[h.n];exact Gl (P3 d)<|DL h1
  have hp:=aa8 h2;have hgs:s.gs d≠Y:=by rw[h3];simp
  have azK:Bb (a.put (I d) u) d=u:=by simp[Bb,Act.put,hlt]
  have tne:∀t,t≠d->Bb (a.put (I d) u) t=Bb a t:=λt ht=>by
   simp only[Bb,Act.put,Ty];rw[aDA λe=>ht e.symm]
  have rt:∀x y,RT w β (Bb a) x y->(∀g want z,x= .gd g want z->s.gs g=Y)->RT w β (Bb<|a.put (I d) u) x y:=by
   intro x y hx hx';cases x with
   | gd g want z=>
    have hne:g≠d:=λe=>hgs<|e▸hx' g want z rfl;refine⟨λe=>hx.1<|by rwa[tne g hne]at e,λe=>hx.2<|by rwa[tne g hne]at e⟩
   | _=>exact hx
  refine⟨λt=> ?_,h.stack, ?_,h.defers,λt ht=> ?_,λt g want x hx=> ?_,h.hs⟩
  .show RT w β _ (upd s.T d v t) _;by_cases e:t=d
   .subst e;rw[Bi,azK];exact rt _ _ hv hg
   .rw[BE _ _ e,tne t e];exact rt _ _ (h.T t) (h.gs t)
  .show(a.put (I d) u).tmps.size=s.n;simpa[Act.put] using h.n
  .have hne:t≠d:=λe=>hp<|e▸ht;rw[tne t hne];exact h.pins t ht
  .have hx:upd s.T d v t= .gd g want x:=hx;by_cases e:t=d
   .subst e;rw[Bi]at hx;exact hg _ _ _ hx
   .rw[BE _ _ e]at hx;exact h.gs _ _ _ _ hx
def St.map{f:AV->AV}(h:St B β stk s a w)(hf:∀c,GU c=Y->f c=c)(hg:∀c g want x,f c= .gd g want x->∃y,c= .gd g want y)(hk:Kf f w β w' β'){H':Hp}(hH:Hs B β' H' w'):St B β' stk { s.map f with H:=H' } a w':=by
 have g1:∀c g want x,Fv f c= .gd g want x->∃y,c= .gd g want y:=by
  intro c g want x e;cases c<;>first|(cases e;done)|exact hg _ _ _ _ e
 have g2:∀c g want x,GD f c= .gd g want x->∃y,c= .gd g want y:=by
  intro c g want x e;cases c<;>first|(cases e;done)|exact g1 _ _ _ _ e
 have g3:∀c g want x,Ew f c= .gd g want x->∃y,c= .gd g want y:=by
  intro c g want x e;cases c with
  | gd g' w' y=>cases e;exact⟨_,rfl⟩
  | _=>exact g2 _ _ _ _ e
 refine⟨λt=>RT.map hf hk<|h.T t,⟨by simpa[S.map] using h.stack.1,λi T tm h1 h2 t=> ?_⟩,h.n,h.defers,h.pins,λt g want x hx=> ?_,hH⟩
 .simp only[S.map,DA,D9]at h1;obtain⟨T0,h3,rfl⟩:=h1;exact RT.map hf hk (h.stack.2 i T0 tm h3 h2 t)
 .obtain⟨y,hy⟩:=g3 _ _ _ _ hx;exact h.gs _ _ _ _ hy
def Ot(id:Nat):∀c g want x,kl1 id c= .gd g want x->∃y,c= .gd g want y:=by
 intro c g want x h;unfold kl1 at h;split at h
 .split at h<;>cases h
 .split at h<;>cases h
 .exact⟨_,h⟩
def aav(id:Nat)(k:K)(xs:List (Tof k)):∀c g want x,fz1 id k xs c= .gd g want x->∃y,c= .gd g want y:=by
 intro c g want x h;unfold fz1 at h;split at h
 .split at h<;>cases h
 .split at h<;>cases h
 .exact⟨_,h⟩
def St.keep(h:St B β stk s a w)(hk:Kp w β w' β'){H':Hp}(hH:Hs B β' H' w'):St B β' stk { s with H:=H' } a w':=
 ⟨λt=>RT.mono hk<|h.T t,⟨h.stack.1,λi T tm h1 h2 t=>RT.mono hk<|h.stack.2 i T tm h1 h2 t⟩,h.n,h.defers,h.pins,h.gs,hH⟩
end
end Go.VS
namespace Go.VS
open Go
section
variable {P:Program} {B:Be} {β β':Beta} {H:Hp} {stk:List (Array Value)} {s:S} {a:Act} {w w':World}
def aGN{o n:Nat}{cs:List AV}(h:oY o n cs=Y):o+n<=cs.length/\(o=0->nop (cs.headD<|.lit<|.bool A0)=Y):=by
 unfold oY at h;simp only[AE,C8]at h;exact⟨DL h.1,λe=>h.2.resolve_left λh1=>by have:=DL h1;omega⟩
def au2{e:TypeId}{k:K}(h:zok P e k=Y):Oy P e=A0:=by
 unfold zok at h;unfold Oy;split at h
 .rename_i zs hz;rw[hz];cases zs with
  | nil=>rfl
  | cons c zs=>
   cases hk:enc k (dfl k) with
   | nil=>rw[hk]at h;cases h
   | cons d ds=>
    rw[hk]at h;simp only[Ma,AE]at h;cases c<;>first|rfl|skip
    rename_i v;cases v<;>first|rfl|skip
    rename_i q;cases q<;>first|rfl|skip
    have h1:=h.1;simp[ah]at h1
 .cases h
def aah{c:AV}{v:Value}(hn:nop c=Y)(h:RC w β c v):∀a,v≠ .pointer (I a):=by
 rintro a rfl;cases h with
 | un=>cases hn
 | lit=>cases hn
 | own _ hs=>cases hs
 | ptr=>cases hn
 | ipt=>cases hn
def axb:∀(k:K) (x:Tof k),(enc k x).all nop=Y:=by
 intro k x;cases k<;>rfl
def Pk.setRow{g:Nat}{us cs:Array Value}{e:TypeId}{fr:Nat×Nat}(hg:w.heap[g]? =I (.cells us e fr))(h:Oy P e=Y->∀a,us[0]? =I (.pointer<|I a)->cs[0]? =I (.pointer<|I a)):Pk P w (w.setRow g cs):=by
 intro b us' e' fr' a h1 h2 h3;by_cases hb:b=g
 .subst hb;rw[hg]at h1;cases h1;exact⟨cs,_,setRow_heap w b us cs e _ hg,h h3 a h2⟩
 .exact⟨us',fr',by rw[setRow_other w g b cs hb];exact h1,h2⟩
def Yb{l ys:List Value}{p:Nat}(h:p+ys.length<=l.length){v:Value}(hv:l[0]? =I v)(h0:p=0->ys≠[]->False):((l.take p++ys++l.drop (p+ys.length)).toArray)[0]? =I v:=by
 rw[Tw];by_cases hy:ys=[]
 .subst hy;simpa using hv
 .have hp:0<p:=Nat.pos_of_ne_zero λe=>h0 e hy;rw[C7,II (by
   have:=(BR.1 hv).1;simp;omega),Gk,A5 hp]
  exact hv
def ld{k:K}{us:Array Value}{f:Nat}{xs:List (Tof k)}(hr:∀i x j c u,xs[i]? =I x->(enc k x)[j]? =I c->us[f+(i * ks k+j)]? =I u->RC w β c u)(hx:xs≠[])(hf:f=0){a:Addr}(hu:us[0]? =I (.pointer<|I a)):False:=by
 subst hf;obtain⟨x,l,rfl⟩:=List.exists_cons_of_ne_nil hx;have hk:=I4 k;rw[← EL k x]at hk;have hc:=hr 0 x 0 _ _ rfl (Av hk) (by simpa using hu);exact aah (DB.1 (axb k x) _<|Ci hk) hc a rfl
def Hs.setRow(h:Hs B β H w){id:Nat}{hd:Value}{n g o:Nat}(hβ:β id=I (hd,n))(ha:adr hd=I ⟨g,o,G⟩)(cs:Array Value)(ob:Ob)
  (hob:Kp w β (w.setRow g cs) β->E6 B.P (w.setRow g cs) β id ob)(hpk:Pk B.P w (w.setRow g cs)):Hs B β (upd H id<|I ob) (w.setRow g cs)/\Kp w β (w.setRow g cs) β:=by
 have hm:MB β g:=⟨id,hd,n,_,hβ,ha,rfl⟩;have hk:Kp w β (w.setRow g cs) β:=λc v x=>RC.mono (λ_ _ h=>h) (λb o v hb hc=>by
  have hne:b≠g:=λe=>hb<|.inl<|e▸hm;rw[cell_setRow_other w g cs _ hne];exact hc) (λ_ h _=>h) x
 have h1:=h.Us (w':=w.setRow g cs) (β':=β) (f:=λc=>c) (λ_ _=>rfl) hk (id:=id) (ob:=I ob) (λ_ _=>rfl)
  (.inr ⟨ob,hd,n,rfl,hβ,hob hk,λa h=> .inl ⟨_,a,hβ,h,rfl⟩⟩)
  (λj p a' e hj h2=>setRow_other w g _ cs λe'=>e<|h.inj _ _ _ _ _ _ hj hβ h2 ha e') rfl rfl rfl aG9
  (λb hb hO=>setRow_other w g b cs (λe=>by
   subst e;rcases(h.old b hm).1 with h3|h3
   .exact hO h3
   .omega)) rfl hpk
 rw[show(λj=>CP (λc=>c)<|H j)=H from funext λj=>aGb _ (λ_=>rfl) _]at h1;exact⟨h1,hk⟩
def ZK{α:Type}(l:List α)(p:Nat)(ys:List α)(h:p+ys.length<=l.length)(q:Nat):
  (l.take p++ys++l.drop (p+ys.length))[q]? =if p<=q/\q<p+ys.length then ys[q - p]? else l[q]? :=by
 have ht:(l.take p).length=p:=by simp;omega
 by_cases h1:q<p
 .rw[A9 J,C7,II J,Gk,A5 h1]
 .by_cases h2:q<p+ys.length
  .rw[A5 ⟨J,h2⟩,C7,FN J,ht,II J]
  .rw[A9 J,FN y8,Hk];congr 1;simp only[Am,ht];omega
def ju{t:TypeId}{v:Value}{g o:Nat}{e:TypeId}{fr:Nat×Nat}{cur:Array Value}(h1:1<=P.cellsOf t)(hs:v.cells.size=P.cellsOf t)(hg:w.heap[g]? =I (.cells cur e fr))(hl:o+v.cells.size<=cur.size)
  (hfr:fr=(0,0)\/cur.size<=fr.1)(DD:∀u∈v.cells.toList,u.oneCell'=Y):
  (Qh t (.pointer<|I ⟨g,o,G⟩) v).run P w= .ok () (w.setRow g (cur.toList.take o++v.cells.toList++cur.toList.drop (o+v.cells.size)).toArray):=by
 have:=Xs (P:=P) g o e fr v.cells.toList 0 cur w hg (by simpa using hl) hfr DD;simp only[Ho,Ez]at this;simp only[Qh,Jc,storeVar,Eh,Fl,F2,L0 h1,hs,ne_eq,not_true_eq_false,if_false];rw[hs]at this;exact this
def asN(hP:P=B.P)(h:St B β stk s a w){t:TypeId}{p x:Operand}{id z o:Nat}{e:TypeId}{cs ys:List AV}(hp:s.ev p= .ptr id z 0 o)(hid:s.H id=I (.box e cs))(hx:Ga (s.ev x)=I ys)
  (hy:ys.length=P.cellsOf t)(h1:1<=P.cellsOf t)(hl:o+ys.length<=cs.length)(h0:o=0->nop (cs.headD<|.lit<|.bool A0)=Y):
  ∃w' β',(Qh t (a.eval p)<|a.eval x).run P w= .ok () w'/\St B β' stk (s.EI id<|I<|.box e<|H5 cs o ys) a w':=by
 have hp':=h.eval p;rw[hp]at hp';have hp':RC w β (.ptr id z 0 o) (a.eval p):=hp';have hr:=Se hx<|h.eval x;have hys:(a.eval x).cells.size=ys.length:=by have:=hr.1;simpa using this
 obtain⟨b',us,k1,k2,k3⟩:=h.hs.EJ id _ hid;have hcs:us.size=cs.length:=by have:=k3.1;simpa using this
 generalize hg:a.eval p=vp at hp';cases hp' with
 | @ptr _ _ _ _ hd n bb f hβ ha hi=>
  rw[k1]at hβ;cases hβ;cases ha;have Ck:=ju (P:=P) (w:=w) (v:=a.eval x) (o:=o) h1 (by rw[hys,hy]) k2 J (.inl rfl) hr.one;refine⟨_,β,by rw[show(0:Nat)+(0 * z+o)=o by omega];exact Ck, ?_⟩;obtain⟨g1,g2⟩:=h.hs.setRow (hpk:=Pk.setRow k2 λ_ a' hu=>by
   have hus:us.toList.length=us.size:=Ez;refine Yb (ys:=(a.eval x).cells.toList) y8 (by simpa using hu) λe1 _=> ?_;cases cs with
   | nil=>simp at hcs;simp[hcs]at hu
   | cons c cs=>exact aah (h0 e1) (k3.2 0 c _ rfl (by simpa using hu)) a' rfl) k1 rfl (us.toList.take o++(a.eval x).cells.toList++us.toList.drop (o+(a.eval x).cells.size)).toArray (.box e<|H5 cs o ys) (λhk=>by
   refine⟨b',_,k1,setRow_heap w b' us _ e _ k2, ?_⟩;rw[aDD];unfold H5;rw[← hys];exact(((k3.take _).append hr).append<|k3.drop _).mono hk)
  exact h.keep g2 g1
def aDW{k:K}{us:List Value}{f:Nat}{xs:List (Tof k)}{i o:Nat}{y:Tof k}{ys:List AV}{vs:List Value}(hi:i<xs.length)(hsz:f+xs.length * ks k<=us.length)
  (hr:∀i x j c u,xs[i]? =I x->(enc k x)[j]? =I c->us[f+(i * ks k+j)]? =I u->RC w β c u)(hv:vs.length=ys.length)(ho:o+ys.length<=ks k)
  (hy:∀us0,RL (RC w β) (enc k<|xs.getD i<|dfl k) us0->RL (RC w β) (enc k y) (us0.take o++vs++us0.drop (o+vs.length))):
  ∀i' x j c u,(xs.set i y)[i']? =I x->(enc k x)[j]? =I c->(us.take (f+(i * ks k+o))++vs++us.drop (f+(i * ks k+o)+vs.length))[f+(i' * ks k+j)]? =I u->RC w β c u:=by
 intro i' x j c u h1 h2 h3;have hj:j<ks k:=by rw[← EL k x];exact(BR.1 h2).1
 have hi':i'<xs.length:=by have:=(BR.1 h1).1;simpa using this
 have e1:(i+1) * ks k<=xs.length * ks k:=E3 _ hi;rw[EH,P1]at e1;have hlen:=hv;rw[ZK _ _ _ J]at h3;by_cases e:i'=i
 .subst e;have hx:x=y:=by
   rw[Zr hi]at h1;exact(E5 h1).symm
  subst hx;have hold:RL (RC w β) (enc k<|xs.getD i'<|dfl k) ((us.drop<|f+i' * ks k).take<|ks k):=by
   refine⟨by simp[EL];omega,λj' c' u' g1 g2=>hr i' _ j' c' u' (getD_some hi) g1 ?_⟩;have hj':j'<ks k:=by rw[← EL k<|xs.getD i'<|dfl k];exact(BR.1 g1).1
   rw[Gk,A5 hj',Hk,D8]at g2;exact g2
  have bd:=hy _ hold;refine bd.2 j c u h2 ?_;rw[ZK _ _ _ y8];by_cases g:o<=j/\j<o+vs.length
  .rw[A5 g];rw[A5 J]at h3;rw[← h3];congr 1;omega
  .rw[A9 g,Gk,A5 hj,Hk];rw[A9 J]at h3;rw[← h3];congr 1;omega
 .have hx:xs[i']? =I x:=by
   rw[List.getElem?_set_ne λq=>e q.symm]at h1;exact h1
  refine hr i' x j c u hx h2 ?_;rw[A9]at h3
  .exact h3
  .rcases U5 e with g|g
   .have:(i'+1) * ks k<=i * ks k:=E3 _ g;rw[EH,P1]at this;omega
   .have:(i+1) * ks k<=i' * ks k:=E3 _ g;rw[EH,P1]at this;omega
def arj(h:St B β stk s a w){t:TypeId}{p:Operand}{id i o:Nat}{e:TypeId}{fz:Bool}{k:K}{xs:List (Tof k)}{ys:List AV}{vs:Value}(hp:RC w β (.ptr id (ks k) i o) (a.eval p))(hid:s.H id=I (.row e fz k xs))
  (hys:vs.cells.size=ys.length)(DD:∀u∈vs.cells.toList,u.oneCell'=Y)(hy:ys.length=P.cellsOf t)(h1:1<=P.cellsOf t)(hl:o+ys.length<=ks k){y:Tof k}(hd:∀us0,RL (RC w β) (enc k<|xs.getD i<|dfl k) us0->RL (RC w β) (enc k y) (us0.take o++vs.cells.toList++us0.drop (o+vs.cells.toList.length))):
  ∃w',(Qh t (a.eval p) vs).run P w= .ok () w'/\St B β stk (s.EI id<|I<|.row e fz k<|xs.set i y) a w':=by
 obtain⟨hd',k1,k2⟩:=h.hs.EJ id _ hid;generalize hg:a.eval p=vp at hp;cases hp with
 | @ptr _ _ _ _ hdd n bb f hβ ha hi=>
  rw[k1]at hβ;cases hβ;obtain⟨rfl,rfl⟩|⟨b',f',cap,us,fr,azQ,hh,hfr,hn,hc,hsz,Ct⟩:=k2
  .cases ha
  .subst azQ;have ha':(⟨b',f',G⟩:Addr)=⟨bb,f,G⟩:=E5 ha;obtain⟨rfl,rfl⟩:b'=bb/\f'=f:=by simpa using ha'
   have hxc:xs.length * ks k<=cap * ks k:=E3 _ hn;have hic:(i+1) * ks k<=xs.length * ks k:=E3 _ hi;rw[EH,P1]at hic;have amu:fr=(0,0)\/us.size<=fr.1:=by
    subst hfr;cases fz
    .exact .inl rfl
    .exact .inr<|Ar _
   have Ck:=ju (P:=P) (w:=w) (v:=vs) (o:=f'+(i * ks k+o)) h1 (by rw[hys,hy]) hh J amu DD;refine⟨_,Ck, ?_⟩;obtain⟨g1,g2⟩:=h.hs.setRow (hpk:=Pk.setRow hh λ_ a' hu=>by
    have hus:us.toList.length=us.size:=Ez;exact Yb (ys:=vs.cells.toList) y8 (by simpa using hu) λe1 _=>ld Ct (λe2=>by subst e2;simp at hi) J hu) k1 rfl (us.toList.take (f'+(i * ks k+o))++vs.cells.toList++us.toList.drop (f'+(i * ks k+o)+vs.cells.size)).toArray (.row e fz k<|xs.set i y) (λhk=>by
    have FB:(us.toList.take (f'+(i * ks k+o))++vs.cells.toList++us.toList.drop (f'+(i * ks k+o)+vs.cells.size)).toArray.size=us.size:=by
     simp only[LG,Am,DW,E4,Ez];omega
    refine⟨_,by simpa using k1,.inr ⟨b',f',cap,_,fr,by simp,setRow_heap w b' us _ e _ hh, ?_,by simpa using hn,hc,by rw[FB];exact hsz, ?_⟩⟩
    .rw[FB];exact hfr
    .intro i' x' j c u q1 q2 q3;have q3':(us.toList.take (f'+(i * ks k+o))++vs.cells.toList++us.toList.drop (f'+(i * ks k+o)+vs.cells.toList.length))[f'+(i' * ks k+j)]? =I u:=by simpa using q3
     exact hk _ _<|aDW hi y8 (λi x j c u a1 a2 a3=>Ct i x j c u a1 a2<|by simpa using a3) (by simpa using hys) hl hd i' x' j c u q1 q2 q3')
   exact h.keep g2 g1
def asO(h:St B β stk s a w){t:TypeId}{p:Operand}{id i o:Nat}{e:TypeId}{k:K}{xs:List (Tof k)}{ys:List AV}{vs:Value}(hp:RC w β (.ptr id (ks k) i o) (a.eval p))(hid:s.H id=I (.arr e k xs))
  (hys:vs.cells.size=ys.length)(DD:∀u∈vs.cells.toList,u.oneCell'=Y)(hy:ys.length=P.cellsOf t)(h1:1<=P.cellsOf t)(hl:o+ys.length<=ks k){y:Tof k}(hd:∀us0,RL (RC w β) (enc k<|xs.getD i<|dfl k) us0->RL (RC w β) (enc k y) (us0.take o++vs.cells.toList++us0.drop (o+vs.cells.toList.length))):
  ∃w',(Qh t (a.eval p) vs).run P w= .ok () w'/\St B β stk (s.EI id<|I<|.arr e k<|xs.set i y) a w':=by
 obtain⟨b',us,k1,hh,hsz,hce,Ct⟩:=h.hs.EJ id _ hid;generalize hg:a.eval p=vp at hp;cases hp with
 | @ptr _ _ _ _ hdd n bb f hβ ha hi=>
  rw[k1]at hβ;cases hβ;cases ha;have hic:(i+1) * ks k<=xs.length * ks k:=E3 _ hi;rw[EH,P1]at hic;have Ck:=ju (P:=P) (w:=w) (v:=vs) (o:=0+(i * ks k+o)) h1 (by rw[hys,hy]) hh J (.inl rfl) DD;refine⟨_,Ck, ?_⟩;obtain⟨g1,g2⟩:=h.hs.setRow (hpk:=Pk.setRow hh λ_ a' hu=>by
   have hus:us.toList.length=us.size:=Ez;exact Yb (ys:=vs.cells.toList) y8 (by simpa using hu) λe1 _=>ld (f:=0) (xs:=xs) (λi x j c u a1 a2 a3=>Ct i x j c u a1 a2<|by simpa using a3) (λe2=>by subst e2;simp at hi) rfl hu) k1 rfl (us.toList.take (0+(i * ks k+o))++vs.cells.toList++us.toList.drop (0+(i * ks k+o)+vs.cells.size)).toArray (.arr e k<|xs.set i y) (λhk=>by
   have FB:(us.toList.take (0+(i * ks k+o))++vs.cells.toList++us.toList.drop (0+(i * ks k+o)+vs.cells.size)).toArray.size=us.size:=by
    simp only[LG,Am,DW,E4,Ez];omega
   refine⟨b',_,by simpa using k1,setRow_heap w b' us _ e _ hh,by rw[FB];simpa using hsz,by rw[FB];exact hce, ?_⟩;intro i' x' j c u q1 q2 q3;have q3':(us.toList.take (0+(i * ks k+o))++vs.cells.toList++us.toList.drop (0+(i * ks k+o)+vs.cells.toList.length))[0+(i' * ks k+j)]? =I u:=by simpa using q3
   exact hk _ _<|aDW hi y8 (λi x j c u a1 a2 a3=>Ct i x j c u a1 a2<|by simpa using a3) (by simpa using hys) hl hd i' x' j c u q1 q2 q3')
  exact h.keep g2 g1
end
end Go.VS
namespace Go.VS
open Go
section
variable {P:Program} {B:Be} {β β':Beta} {H:Hp} {stk:List (Array Value)} {s:S} {a:Act} {w w':World}
structure Jh (w:World) (H:Hp) (β β':Beta) (H':Hp) (ids:List Nat):Prop where
 imm:∀c v,GU c=Y->RC w β c v->RC w β' c v
 own:∀j v,j ∉ ids->RC w β (.own j) v->RC w β' (.own j) v
 ptr:∀j z i o v,j ∉ ids->RC w β (.ptr j z i o) v->RC w β' (.ptr j z i o) v
 fr:∀j v e fz k xs,j∈ids->H j=I (.row e fz k xs)->RC w β (.own j) v->RC w β' (.sl k xs) v
 row:∀j e fz k xs,j ∉ ids->H j=I (.row e fz k xs)->H' j=I (.row e fz k xs)
 arr:∀j e k xs,j ∉ ids->H j=I (.arr e k xs)->H' j=I (.arr e k xs)
 non:∀j,H j=G->H' j=G
def St.abn(h:St B β stk s a w)(id:Nat):∃β',St B β' stk (s.freeze id) a w/\Jh w s.H β β' (s.freeze id).H [id]:=by
 have gen:∀f:AV->AV,(∀c,GU c=Y->f c=c)->(∀j,j≠id->f (.own j)= .own j)->(∀j z i o,j≠id->f (.ptr j z i o)= .ptr j z i o)->(∀e fz k xs,s.H id=I (.row e fz k xs)->f (.own id)= .sl k xs)->
   (∀c g want x,f c= .gd g want x->∃y,c= .gd g want y)->∀β',Hs B β' (upd (λj=>CP f<|s.H j) id G) w->Kf f w β w β'->s.freeze id={ s.map f with H:=upd (λj=>CP f<|s.H j) id G } ->
   ∃β',St B β' stk (s.freeze id) a w/\Jh w s.H β β' (s.freeze id).H [id]:=by
  intro f h1 h2 h3 h4 h5 β' h6 h7 h8;refine⟨β',by rw[h8];exact h.map h1 h5 h7 h6, ?_⟩;rw[h8];refine⟨λc v hc hv=>by have:=h7 c v hv;rwa[h1 c hc]at this,λj v hj hv=>by have:=h7 _ v hv;rwa[h2 j<|by simpa using hj]at this,
   λj z i o v hj hv=>by have:=h7 _ v hv;rwa[h3 j z i o<|by simpa using hj]at this,λj v e fz k xs hj hh hv=> ?_,λj e fz k xs hj hh=> ?_,λj e k xs hj hh=> ?_,λj hh=> ?_⟩
  .obtain rfl:j=id:=by simpa using hj
   have:=h7 _ v hv;rwa[h4 e fz k xs hh]at this
  .show upd (λj=>CP f<|s.H j) id G j=_;rw[BE _ _<|by simpa using hj,hh];rfl
  .show upd (λj=>CP f<|s.H j) id G j=_;rw[BE _ _<|by simpa using hj,hh];rfl
  .show upd (λj=>CP f<|s.H j) id G j=_;by_cases e:j=id
   .subst e;rw[Bi]
   .rw[BE _ _ e,hh];rfl
 have kl:∀j,j≠id->Af j id=A0:=λj hj=>by rw[← GK,HJ];exact hj
 cases hid:s.H id with
 | none=>
  obtain⟨β',h1,h2⟩:=h.hs.kill id;exact gen (kl1 id) (JF id) (λj hj=>by simp[kl1,kl j hj]) (λj z i o hj=>by simp[kl1,kl j hj]) (λe fz k xs hh=>by rw[hid]at hh;cases hh) (Ot id) β' h1 h2 (by simp only[S.freeze,hid];rfl)
 | some ob=>
  cases ob with
  | row e fz k xs=>
   obtain⟨β',h1,h2⟩:=h.hs.freeze hid;exact gen (fz1 id k xs) (lD id k xs) (λj hj=>by simp[fz1,kl j hj]) (λj z i o hj=>by simp[fz1,kl j hj]) (λe fz k xs hh=>by rw[hid]at hh;cases hh;simp[fz1]) (aav id k xs) β' h1 h2 (by simp only[S.freeze,hid];rfl)
  | box e cs=>
   obtain⟨β',h1,h2⟩:=h.hs.kill id;exact gen (kl1 id) (JF id) (λj hj=>by simp[kl1,kl j hj]) (λj z i o hj=>by simp[kl1,kl j hj]) (λe fz k xs hh=>by rw[hid]at hh;cases hh) (Ot id) β' h1 h2 (by simp only[S.freeze,hid];rfl)
  | arr e k xs=>
   obtain⟨β',h1,h2⟩:=h.hs.kill id;exact gen (kl1 id) (JF id) (λj hj=>by simp[kl1,kl j hj]) (λj z i o hj=>by simp[kl1,kl j hj]) (λe fz k xs hh=>by rw[hid]at hh;cases hh) (Ot id) β' h1 h2 (by simp only[S.freeze,hid];rfl)
def Jh.nil:Jh w H β β H []:=
 ⟨λ_ _ _ h=>h,λ_ _ _ h=>h,λ_ _ _ _ _ _ h=>h,λ_ _ _ _ _ _ h=>by simp at h,λ_ _ _ _ _ _ h=>h,λ_ _ _ _ _ h=>h,λ_ h=>h⟩
def Jh.cons{β'':Beta}{H' H'':Hp}{i:Nat}{ids:List Nat}(h:Jh w H β β' H' [i])(k:Jh w H' β' β'' H'' ids):Jh w H β β'' H'' (i::ids):=by
 refine⟨λc v hc hv=>k.imm c v hc<|h.imm c v hc hv,λj v hj hv=>k.own j v (λe=>hj<|by simp[e])<|h.own j v (λe=>hj (by simp at e;simp[e])) hv,
  λj z i o v hj hv=>k.ptr j z i o v (λe=>hj<|by simp[e])<|h.ptr j z i o v (λe=>hj (by simp at e;simp[e])) hv,λj v e fz kk xs hj hh hv=> ?_,
  λj e fz kk xs hj hh=>k.row j e fz kk xs (λe=>hj<|by simp[e])<|h.row j e fz kk xs (λe=>hj (by simp at e;simp[e])) hh,
  λj e kk xs hj hh=>k.arr j e kk xs (λe=>hj<|by simp[e])<|h.arr j e kk xs (λe=>hj (by simp at e;simp[e])) hh,λj hh=>k.non j<|h.non j hh⟩
 by_cases e1:j=i
 .exact k.imm _ _ rfl (h.fr j v e fz kk xs (by simp[e1]) hh hv)
 .have h1:j ∉ [i]:=by simpa using e1
  have h2:j∈ids:=by simpa[e1] using hj
  exact k.fr j v e fz kk xs h2 (h.row j e fz kk xs h1 hh)<|h.own j v h1 hv
def St.LW:∀(ids:List Nat) {s:S} {β:Beta},St B β stk s a w->∃β',St B β' stk (ids.foldl S.freeze s) a w/\Jh w s.H β β' (ids.foldl S.freeze s).H ids
 | [],s,β,h=>⟨β,h,Jh.nil⟩
 | i::ids,s,β,h=>by
  obtain⟨β1,h1,h2⟩:=h.abn i;obtain⟨β2,h3,h4⟩:=St.LW ids h1;exact⟨β2,h3,h2.cons h4⟩
def Q(H:Hp)(w:World)(β:Beta)(c:AV)(u:Value):Prop:=(∀v,c= .lit v->RC w β c u)/\ ∀k l,CJ H k c=I l->RC w β (.sl k l) u
def Q.lit{v u:Value}(h:Q H w β (.lit v) u):RC w β (.lit v) u:=h.1 v rfl
def ayv:AV->Bool
 | .lit _=>Y
 | _=>A0
def Q.all{cs:List AV}{us:List Value}(hl:RL (Q H w β) cs us)(h:cs.all ayv=Y):RL (RC w β) cs us:=by
 refine⟨hl.1,λj c u h1 h2=> ?_⟩;have h3:=DB.1 h c<|Cp h1;cases c<;>first|cases h3|skip
 exact(hl.2 j _ u h1 h2).lit
def awM{k:K}{cs:List AV}{x:Tof k}(h:dec H k cs=I x){us:List Value}(hl:RL (Q H w β) cs us):RL (RC w β) (enc k x) us:=by
 unfold dec at h;split at h<;>try (cases h;done)
 all_goals try (cases h;exact Q.all hl rfl)
 .rename_i x';cases hx:CJ H K.mixed x' with
  | none=>rw[hx]at h;cases h
  | some l=>
   rw[hx]at h;cases h;obtain⟨u1,_,rfl,g1,hl⟩:=hl.CD;obtain⟨u2,_,rfl,g2,hl⟩:=hl.CD;obtain⟨u3,_,rfl,g3,hl⟩:=hl.CD;obtain⟨u4,_,rfl,g4,hl⟩:=hl.CD;obtain⟨u5,_,rfl,g5,hl⟩:=hl.CD;obtain⟨u6,_,rfl,g6,hl⟩:=hl.CD;rw[hl.of_nil];exact .cons g1.lit (.cons g2.lit<|.cons g3.lit<|.cons g4.lit<|.cons g5.lit<|.cons (g6.2 _ _ hx) .nil)
 .rename_i x' y' z';cases hx:CJ H K.note x' with
  | none=>rw[hx]at h;cases h
  | some l=>
   cases hy:CJ H K.mark y' with
   | none=>rw[hx,hy]at h;cases h
   | some m=>
    cases hz:CJ H K.note z' with
    | none=>rw[hx,hy,hz]at h;cases h
    | some n=>
     rw[hx,hy,hz]at h;cases h;obtain⟨u1,_,rfl,g1,hl⟩:=hl.CD;obtain⟨u2,_,rfl,g2,hl⟩:=hl.CD;obtain⟨u3,_,rfl,g3,hl⟩:=hl.CD;obtain⟨u4,_,rfl,g4,hl⟩:=hl.CD;obtain⟨u5,_,rfl,g5,hl⟩:=hl.CD;obtain⟨u6,_,rfl,g6,hl⟩:=hl.CD;rw[hl.of_nil];exact .cons g1.lit (.cons g2.lit<|.cons g3.lit<|.cons (g4.2 _ _ hx)<|.cons (g5.2 _ _ hy)<|.cons (g6.2 _ _ hz) .nil)
 .rename_i x';cases hx:CJ H K.half x' with
  | none=>rw[hx]at h;cases h
  | some l=>
   rw[hx]at h;cases h;obtain⟨u1,_,rfl,g1,hl⟩:=hl.CD;obtain⟨u2,_,rfl,g2,hl⟩:=hl.CD;obtain⟨u3,_,rfl,g3,hl⟩:=hl.CD;obtain⟨u4,_,rfl,g4,hl⟩:=hl.CD;obtain⟨u5,_,rfl,g5,hl⟩:=hl.CD;rw[hl.of_nil];exact .cons g1.lit<|.cons g2.lit<|.cons g3.lit<|.cons g4.lit<|.cons (g5.2 _ _ hx) .nil
def Jh.Q{β0:Beta}{H':Hp}{ids:List Nat}(h:Jh w H β0 β H' ids){c:AV}{u:Value}(hc:∀j,c= .own j->j∈ids)(hx:RC w β0 c u):VS.Q H w β c u:=by
 refine⟨λv e=>by subst e;exact h.imm _ _ rfl hx,λk l hl=> ?_⟩;unfold CJ at hl;split at hl
 .obtain⟨e,rfl⟩:=I2 hl;subst e;exact h.imm _ _ rfl hx
 .cases hl;rw[hx.Nl];exact .nil
 .rename_i id _;split at hl
  .rename_i e fz k' xs hid;obtain⟨ek,rfl⟩:=I2 hl;subst ek;exact h.fr _ u e fz k' xs (hc _ rfl) hid hx
  .cases hl
 .cases hl
def aFs{H:Hp}{β:Beta}{k:K}{x0 y:Tof k}{o:Nat}{ys:List AV}{vs us0:List Value}(hd:dec H k (H5 (enc k x0) o ys)=I y)(h0:RL (RC w β) (enc k x0) us0)(hy:RL (VS.Q H w β) ys vs):
  RL (RC w β) (enc k y) (us0.take o++vs++us0.drop (o+vs.length)):=by
 have h1:RL (VS.Q H w β) (enc k x0) us0:=by
  refine⟨h0.1,λj c u a1 a2=> ?_⟩;have hr:=h0.2 j c u a1 a2;have hn:=Ib k x0 a1;refine⟨λv e=>by subst e;exact hr,λk' l hl=> ?_⟩;unfold CJ at hl;split at hl
  .obtain⟨e,rfl⟩:=I2 hl;subst e;exact hr
  .cases hl;rw[hr.Nl];exact .nil
  .cases hn
  .cases hl
 refine awM hd ?_;unfold H5;rw[← hy.1];exact((h1.take o).append hy).append<|h1.drop _
def ari(hP:P=B.P)(h:St B β stk s a w){t:TypeId}{p x:Operand}{s':S}(hs:Ik P t s (s.ev p) (s.ev x)=I s'):
  ∃w' β',(Qh t (a.eval p)<|a.eval x).run P w= .ok () w'/\St B β' stk s' a w':=by
 generalize hp:s.ev p=cp at hs;unfold Ik at hs;split at hs
 .rename_i id z i o;have hpx:=h.eval p;rw[hp]at hpx;have hpr:RC w β (.ptr id z i o) (a.eval p):=hpx;split at hs
  .rename_i e cs hid;split at hs
   .cases hc:Ga (s.ev x) with
    | none=>rw[hc]at hs;cases hs
    | some ys=>
     rw[hc]at hs;simp only[A6]at hs;split at hs
     .rename_i hb;simp only[AE]at hb;cases hs;exact asN hP h hp hid hc (Br hb.1.1) (DL hb.1.2) (aGN hb.2).1 (aGN hb.2).2
     .cases hs
   .cases hs
  .rename_i e fz k xs hid;cases hc:Ga (s.ev x) with
   | none=>rw[hc]at hs;cases hs
   | some ys=>
    rw[hc]at hs;simp only[A6]at hs;split at hs
    .rename_i hb;simp only[AE,CM]at hb;obtain⟨⟨⟨⟨b1,b2⟩,b3⟩,b4⟩,b5⟩:=hb;obtain rfl:=Br b4;have hni:=aa8 b5;cases hd:dec s.H k (H5 (enc k<|xs.getD i<|dfl k) o ys) with
     | none=>rw[hd]at hs;cases hs
     | some y=>
      rw[hd]at hs;simp only[A6,Bv]at hs;subst hs;obtain⟨β',h1,h2⟩:=St.LW (ys.filterMap H6) h;have hr:=Se hc<|h.eval x;have hrQ:RL (VS.Q s.H w β') ys (a.eval x).cells.toList:=⟨hr.1,λj c u g1 g2=>h2.Q (λj' e'=>by
       subst e';exact GO.2 ⟨_,Cp g1,rfl⟩) (hr.2 j c u g1 g2)⟩
      obtain⟨w',g1,g2⟩:=arj (P:=P) (t:=t) (p:=p) h1 (h2.ptr _ _ _ _ _ hni hpr) (h2.row _ _ _ _ _ hni hid) (by have:=hr.1;simpa using this) hr.one (Br b1) (DL b2) (DL b3)
       (λus0 h0=>aFs hd h0 hrQ)
      exact⟨w',β',g1,g2⟩
    .cases hs
  .rename_i e k xs hid;cases hc:Ga (s.ev x) with
   | none=>rw[hc]at hs;cases hs
   | some ys=>
    rw[hc]at hs;simp only[A6]at hs;split at hs
    .rename_i hb;simp only[AE]at hb;obtain⟨⟨⟨b1,b2⟩,b3⟩,b4⟩:=hb;obtain rfl:=Br b4;cases hd:dec (λ_=>G) k (H5 (enc k<|xs.getD i<|dfl k) o ys) with
     | none=>rw[hd]at hs;cases hs
     | some y=>
      rw[hd]at hs;simp only[A6,Bv]at hs;subst hs;have hr:=Se hc<|h.eval x;have hrQ:RL (VS.Q (λ_=>G) w β) ys (a.eval x).cells.toList:=⟨hr.1,λj c u g1 g2=>by
       have hx:=hr.2 j c u g1 g2;refine⟨λv e=>by subst e;exact hx,λk' l hl=> ?_⟩;unfold CJ at hl;split at hl
       .obtain⟨e,rfl⟩:=I2 hl;subst e;exact hx
       .cases hl;rw[hx.Nl];exact .nil
       .cases hl
       .cases hl⟩
      obtain⟨w',g1,g2⟩:=asO (P:=P) (t:=t) (p:=p) h hpr hid (by have:=hr.1;simpa using this) hr.one (Br b1) (DL b2) (DL b3)
       (λus0 h0=>aFs hd h0 hrQ)
      exact⟨w',β,g1,g2⟩
    .cases hs
  .cases hs
 .cases hs
end
end Go.VS
namespace Go.VS
open Go
section
variable {P:Program} {B:Be} {β β':Beta} {H:Hp} {stk:List (Array Value)} {s:S} {a:Act} {w w':World}
structure Src (P:Program) (w:World) (β:Beta) (k:K) (ys:List (Tof k)) (v:Value) (news:List Value):Prop where
 len:∀w',(mX v).run P w'= .ok ys.length w'
 cells:∀w',w'.heap=w.heap->(IH (ks k) ys.length v).run P w'= .ok news.toArray w'
 rel:RL (RC w β) (ys.flatMap<|enc k) news
 F4:∀n,n<=ys.length->(IH (ks k) n v).run P w= .ok (news.take<|n * ks k).toArray w
def atn{w w':World}(h:w'.heap=w.heap)(a:Addr):w'.cell? a=w.cell? a:=by simp only[MT,h]
def Mh.cellsOf{k:K}{xs:List (Tof k)}{v:Value}(h:Mh w β k xs v):(∃a cap,xs=[]/\v= .slice a 0 cap)\/ ∃b f cap,∃us:List Value,v= .slice (I ⟨b,f,G⟩) xs.length cap/\xs.length<=cap/\RL (RC w β) (xs.flatMap<|enc k) us/\ ∀(j:Nat) (u:Value),us[j]? =I u->w.cell? ⟨b,f+j,G⟩=I u:=by
 obtain⟨rfl,a,cap,rfl⟩|⟨b,f,cap,u,rfl,hc,hu,hr⟩:=h
 .exact .inl ⟨a,cap,rfl,rfl⟩
 .have hk:=I4 k;refine .inr ⟨b,f,cap,(B1<|xs.length * ks k).map λq=>u (q / ks k)<|q % ks k,rfl,hc,⟨by rw[Kr,De,R0],λj c v h1 h2=> ?_⟩,λj v h2=> ?_⟩
  .simp only[DA,D9]at h2;obtain⟨q,hq,rfl⟩:=h2;have hlt:j<xs.length * ks k:=by have:=(BR.1 hq).1;simpa using this
   rw[Gj hlt]at hq;cases hq;have hi:j / ks k<xs.length:=by rw[aDI hk];exact hlt
   have hm:j % ks k<ks k:=P7 _ hk;have hx:xs[j / ks k]? =I xs[j / ks k]:=by simp[hi]
   refine hr _ _ _ _ hx ?_;rw[← ZA hx hm,Nat.mul_comm,Nat.div_add_mod];exact h1
  .simp only[DA,D9]at h2;obtain⟨q,hq,rfl⟩:=h2;have hlt:j<xs.length * ks k:=by have:=(BR.1 hq).1;simpa using this
   rw[Gj hlt]at hq;cases hq;have hi:j / ks k<xs.length:=by rw[aDI hk];exact hlt
   have hm:j % ks k<ks k:=P7 _ hk;have:=hu _ _ hi hm;rw[Nat.mul_comm,Nat.div_add_mod]at this;exact this
def aFb(hH:Hs B β H w){k:K}{c:AV}{v:Value}{ys:List (Tof k)}(h:KA H k c=I ys)(hx:R2 w β c v):∃news,Src P w β k ys v news:=by
 unfold KA at h;split at h
 .rename_i s;split at h
  .cases h;have hv:v= .string s:=hx;subst hv;have hlen:(B9 s).length=s.size:=by rw[B9,De,Ez];rfl
   refine⟨s.data.toList.map λb=>Value.int .u8 b.toNat,λw'=>by rw[hlen];rfl,λw' _=> ?_, ?_,λn hn=> ?_⟩
   .rw[hlen];simp only[IH,Fl];congr 1;apply Array.ext';have:(s.extract 0 s.size).data=s.data:=by
     simp only[Zs];rw[show s.size=s.data.size from rfl,Array.extract_size]
    rw[this];simp
   .refine⟨by rw[Kr,hlen,De,Ez];simp[ks],λj c u h1 h2=> ?_⟩;simp only[DA,D9]at h2;obtain⟨y,hy,rfl⟩:=h2;have hx:(B9 s)[j]? =I (y.toNat:Int):=by simp[B9,hy]
    have:=ZA (k:= .u8) hx (j:=0) aHd;rw[show j * ks .u8+0=j by simp[ks],h1]at this;cases this;exact .lit rfl
   .simp only[IH,Fl];congr 1;apply Array.ext';simp[Zs,ks]
  .cases h
 .rcases(aa7 hH h hx).cellsOf with⟨a,cap,rfl,rfl⟩|⟨b,f,cap,us,rfl,hc,hr,hu⟩
  .refine⟨[],λw'=>rfl,λw' _=> ?_, ?_,λn hn=> ?_⟩
   .cases a with
    | none=>rfl
    | some a=>simp[IH,loadCells,loadCellsFrom]
   .exact RL.nil
   .obtain rfl:n=0:=by simpa using hn
    cases a with
    | none=>simp[IH]
    | some a=>simp[IH,loadCells,loadCellsFrom]
  .refine⟨us,λw'=>rfl,λw' hw=> ?_,hr,λn hn=> ?_⟩;have hl:us.length=ys.length * ks k:=by rw[hr.1,Kr]
   exact run_firstCells_some w' (ks k) _ ⟨b,f,G⟩ _ cap us hl (λj u hj=>by rw[Gh,atn hw];exact hu j u hj);have hl:us.length=ys.length * ks k:=by rw[hr.1,Kr]
   have hle:n * ks k<=ys.length * ks k:=E3 _ hn;exact run_firstCells_some w (ks k) n ⟨b,f,G⟩ _ cap (us.take<|n * ks k) y8 (λj u hj=>by
    rw[Gh];rw[Gk]at hj;split at hj
    .exact hu j u hj
    .cases hj)
def jD{t u ty e:TypeId}{d:TypeDesc}{i:TypeInfo}(ht:P.underlying t=I (.slice e))(hu:P.underlying u=I d)(hd:d= .string\/ ∃e',d= .slice e')(hi:P.info? e=I i){base:Option Addr}{sLen sCap n:Nat}{v:Value}{news:List Value}
  (hl:∀w',(mX v).run P w'= .ok n w')(hf:∀w',w'.heap=w.heap->(IH i.size n v).run P w'= .ok news.toArray w')(hn:sLen+n<=sCap){w':World}
  (hst:∀a,base=I a->(storeCells (a.add<|sLen * i.size) news).run P w= .ok () w')(hno:base=G->w'=w):
  (MS #[t,u] ty #[.slice base sLen sCap,v]).run P w= .ok (.slice base (sLen+n) sCap) w':=by
 have h1:=hl w;have h2:=hf w rfl;cases base with
 | none=>
  obtain rfl:=hno rfl;obtain rfl|⟨e',rfl⟩:=hd<;>simp[MS,run_underlying ht,run_underlying hu,sizeOf,typeInfo,hi,h1,hn,h2]
 | some a=>
  have h3:=hst a rfl;obtain rfl|⟨e',rfl⟩:=hd<;>simp[MS,run_underlying ht,run_underlying hu,sizeOf,typeInfo,hi,h1,hn,h2,h3]
def aA4{t u ty e:TypeId}{d:TypeDesc}{i:TypeInfo}{z:Value}(ht:P.underlying t=I (.slice e))(hu:P.underlying u=I d)(hd:d= .string\/ ∃e',d= .slice e')(hi:P.info? e=I i)(hz:i.zero=I z){base:Option Addr}{sLen sCap n:Nat}{v:Value}{news olds:List Value}
  (hl:∀w',(mX v).run P w'= .ok n w')(hf:∀w',w'.heap=w.heap->(IH i.size n v).run P w'= .ok news.toArray w')(hn:sCap<sLen+n)(h63:((sLen+n:Nat):Int)<=9223372036854775807)(La:mN (sLen+n) sCap * i.bytes<=281474976710656)
  (ho:(IH i.size sLen<|.slice base sLen sCap).run P w.drew= .ok olds.toArray w.drew):
  (MS #[t,u] ty #[.slice base sLen sCap,v]).run P w= .ok (.slice (I ⟨w.heap.size,0,G⟩) (sLen+n)<|grownCap w (sLen+n) sCap e)
    (w.drew.alloc<|.cells (olds.toArray++news.toArray++MK z.cells (grownCap w (sLen+n) sCap e - (sLen+n))) e):=by
 have hn':¬(sLen+n<=sCap):=J
 have an4:¬(9223372036854775807<((sLen:Int)+(n:Int))):=J
 have an5:¬(281474976710656<mN (sLen+n) sCap * i.bytes):=J
 have h1:=hl w;have h2:=hf w.drew rfl;obtain rfl|⟨e',rfl⟩:=hd<;>(simp[MS,run_underlying ht,run_underlying hu,sizeOf,typeInfo,zeroValue,hi,hz,h1,hn',an4,an5,Question.forced,h2,ho,newRow,grownCap];try (congr 2;apply Array.ext';simp[C7]))
def Hs.bE(h:Hs B β H w){id:Nat}{hd0:Value}{n0:Nat}(hβ:β id=I (hd0,n0))(ob:Ob)(hd:Value)(n:Nat)
  (hos:w'.os=w.os)(KP:w'.tape=w.tape)(F3:w'.output=w.output)(FB:w.heap.size<=w'.heap.size)
  (hold:∀j,j<w.heap.size->(∀a,adr hd0=I a->j≠a.block)->w'.heap[j]? =w.heap[j]?)
  (ha:∀a,adr hd=I a->(∃a0,adr hd0=I a0/\a0.block=a.block)\/(w.heap.size<=a.block/\a.block<w'.heap.size))
  (hob:∀β',β' id=I (hd,n)->Kf (kl1 id) w β w' β'->E6 B.P w' β' id ob)(hpk:Pk B.P w w'):
  ∃β',Hs B β' (upd (λj=>CP (kl1 id)<|H j) id<|I ob) w'/\Kf (kl1 id) w β w' β'/\β' id=I (hd,n):=by
 have hM:∀b,MB (β.up id<|I (hd,n)) b->MB β b\/w.heap.size<=b:=by
  rintro b ⟨j,hd',n',a',hj,ha',hb⟩;by_cases e:j=id
  .subst e;rw[Beta.Ub]at hj;cases hj;obtain⟨a0,h1,h2⟩|h1:=ha a' ha'
   .exact .inl ⟨j,hd0,n0,a0,hβ,h1,h2.trans hb⟩
   .exact .inr (hb▸h1.1)
  .rw[Beta.Nk _ _ e]at hj;exact .inl ⟨j,hd',n',a',hj,ha',hb⟩
 have hk:Kf (kl1 id) w β w' (β.up id<|I (hd,n)):=Kf.kill (λj e=>BE _ _ e)
  (λb o v hb hc=>by
   rw[UB (w:=w) (w':=w')<|hold b (U7 w _ hc) λa0 h0 e=>hb<|.inl ⟨id,hd0,n0,a0,hβ,h0,e.symm⟩];exact hc)
  (λb hb hlt hm=>by
   obtain hm|hm:=hm
   .rcases hM b hm with h1|h1
    .exact hb (.inl h1)
    .omega
   .exact hb<|.inr hm)
 refine⟨β.up id<|I (hd,n), ?_,hk,Bi _ _ _⟩;refine h.Us (JF id) hk (λj e=>BE _ _ e)
  (.inr ⟨ob,hd,n,rfl,Bi _ _ _,hob _ (Bi _ _ _) hk,λa h2=> ?_⟩)
  (λj p a e hj h2=>hold _ (h.old _ ⟨j,p.1,p.2,a,hj,h2,rfl⟩).2 λa0 h0 e'=>e<|h.inj _ _ _ _ _ _ hj hβ h2 h0 e') hos KP F3 FB (λb hb hO=>hold b (Gl hb h.size) λa0 h0 e=> ?_) rfl hpk
 .rcases ha a h2 with⟨a0,h3,h4⟩|h3
  .exact .inl ⟨_,a0,hβ,h3,h4⟩
  .exact .inr h3
 .rcases(h.old a0.block ⟨id,hd0,n0,a0,hβ,h0,rfl⟩).1 with h3|h3
  .exact hO (e▸h3)
  .omega
def abj{bV cap bytes:Nat}(h:cap<bV)(hn:bV<=4294967296)(hb:bytes<=256):mN bV cap * bytes<=281474976710656:=by
 refine growslice_fits h ?_;have:bV * bytes<=4294967296 * 256:=my hn hb;omega
def aa0(z:Array Value)(n:Nat):(MK z n).size=n * z.size:=by simp[MK]
def al2(hP:P=B.P)(hH:Hs B β H w){b:Nat}(hb:H b=G){t u ty e:TypeId}{k:K}{d:TypeDesc}{v:Value}{ys:List (Tof k)}{news:List Value}(ht:P.underlying t=I (.slice e))(hu:P.underlying u=I d)(hd:d= .string\/ ∃e',d= .slice e')
  (hz:zok P e k=Y)(hc:P.cellsOf e=ks k)(hby:P.bytesOf e<=256)(hs:Src P w β k ys v news)(hr:ys.length<=4294967296):
  ∃u' w' β',(MS #[t,u] ty #[.slice G 0 0,v]).run P w= .ok u' w'/\Hs B β' (upd H b<|I<|.row e A0 k ys) w'/\Kp w β w' β'/\RC w' β' (.own b) u':=by
 obtain⟨i,z,hi,hz',hzs,_⟩:=ZO hz;rw[X9 hi]at hc;rw[k8 hi]at hby;by_cases h0:ys=[]
 .subst h0;have Ck:=jD (P:=P) (w:=w) (ty:=ty) (base:=G) (sLen:=0) (sCap:=0) (n:=0) (v:=v) (news:=news) (w':=w) ht hu hd hi hs.len (by rw[hc];exact hs.cells) J (λa h=>by cases h) (λ_=>rfl);obtain⟨β',h1,h2,h3⟩:=hH.grow (w':=w) hb (.row e A0 k []) (.slice G 0 0) 0 rfl rfl rfl (Ar _) (λ_ _=>rfl) (λa h=>by cases h) (λβ' hβ hk=>⟨_,hβ,.inl ⟨rfl,rfl⟩⟩);exact⟨_,_,β',Ck,h1,h2,.own h3 rfl⟩
 .have PV:0<ys.length:=by cases ys with
   | nil=>exact absurd rfl h0
   | cons y l=>simp
  have Ck:=aA4 (P:=P) (w:=w) (ty:=ty) (base:=G) (sLen:=0) (sCap:=0) (n:=ys.length) (v:=v) (news:=news) (olds:=[]) ht hu hd hi hz' hs.len (by rw[hc];exact hs.cells) J J (abj J J hby) (by simp[IH]);have hn:news.length=ys.length * ks k:=by rw[hs.rel.1,Kr]
  rw[DM]at Ck;have hge:=grownCap_ge w ys.length 0 e;have hm:=grownCap_le_maxLen w ys.length 0 e (C6 hr aHd);have hob:∀β',β' b=I (mm (I ⟨w.heap.size,0,G⟩) ys.length<|grownCap w ys.length 0 e,ys.length)->Kp w β (w.drew.alloc<|.cells (([]:List Value).toArray++news.toArray++MK z.cells (grownCap w ys.length 0 e - ys.length)) e) β'->
    E6 B.P (w.drew.alloc<|.cells (([]:List Value).toArray++news.toArray++MK z.cells (grownCap w ys.length 0 e - ys.length)) e) β' b (.row e A0 k ys):=by
   intro β' hβ hk;refine⟨_,hβ,.inr ⟨w.heap.size,0,_,_,_,rfl,heap_alloc_new w.drew _,rfl,hge,hm, ?_,λi x j c u a1 a2 a3=> ?_⟩⟩
   .simp only[Qz,aa0,hzs,LG,hn,CL];rw[aA];have:ys.length * ks k<=grownCap w ys.length 0 e * ks k:=E3 _ hge;omega
   .have hj:j<ks k:=by rw[← EL k x];exact(BR.1 a2).1
    have hi':i<ys.length:=(BR.1 a1).1;have hlt:i * ks k+j<news.length:=by rw[hn];exact OH hi' hj
    refine hk _ _<|QL hs.rel i x j c u a1 a2 ?_;rw[MQ y8]at a3;simpa using a3
  obtain⟨β',h1,h2,h3⟩:=hH.grow (w':=w.drew.alloc<|.cells (([]:List Value).toArray++news.toArray++MK z.cells (grownCap w ys.length 0 e - ys.length)) e) hb (.row e A0 k ys) (.slice (I ⟨w.heap.size,0,G⟩) ys.length<|grownCap w ys.length 0 e) ys.length rfl rfl rfl aG9
   (λj hj=>heap_alloc_old w.drew _ hj) (λa ha=>by cases ha;simp) hob
  exact⟨_,_,β',Ck,h1,h2,.own h3 rfl⟩
def al1(hP:P=B.P)(hH:Hs B β H w){id:Nat}{t u ty e:TypeId}{k:K}{d:TypeDesc}{v hd:Value}{xs ys:List (Tof k)}{news:List Value}(hid:H id=I (.row e A0 k xs))(hb:RC w β (.own id) hd)
  (ht:P.underlying t=I (.slice e))(hu:P.underlying u=I d)(hd':d= .string\/ ∃e',d= .slice e')
  (hz:zok P e k=Y)(hc:P.cellsOf e=ks k)(hby:P.bytesOf e<=256)(hs:Src P w β k ys v news)(hr:xs.length+ys.length<=4294967296):
  ∃u' w' β',(MS #[t,u] ty #[hd,v]).run P w= .ok u' w'/\Hs B β' (upd (λj=>CP (kl1 id)<|H j) id<|I<|.row e A0 k<|xs++ys) w'/\Kf (kl1 id) w β w' β'/\RC w' β' (.own id) u':=by
 obtain⟨i,z,hi,hz',hzs,_⟩:=ZO hz;rw[X9 hi]at hc;rw[k8 hi]at hby;obtain⟨hd0,k1,k2⟩:=hH.EJ id _ hid;cases hb with
 | own k3 k4=>
 rw[k1]at k3;cases k3;have hn:news.length=ys.length * ks k:=by rw[hs.rel.1,Kr]
 have hkp:=I4 k;have grow:∀(base:Option Addr) (cap:Nat) (olds:List Value),hd= .slice base xs.length cap->cap<xs.length+ys.length->RL (RC w β) (xs.flatMap<|enc k) olds->
   (IH i.size xs.length<|.slice base xs.length cap).run P w.drew= .ok olds.toArray w.drew->
   ∃u' w' β',(MS #[t,u] ty #[hd,v]).run P w= .ok u' w'/\Hs B β' (upd (λj=>CP (kl1 id)<|H j) id<|I<|.row e A0 k<|xs++ys) w'/\Kf (kl1 id) w β w' β'/\RC w' β' (.own id) u':=by
  intro base cap olds he Hr hold hfc;have Ck:=aA4 (P:=P) (w:=w) (ty:=ty) (base:=base) (sLen:=xs.length) (sCap:=cap) (n:=ys.length) (v:=v) (news:=news) (olds:=olds) ht hu hd' hi hz' hs.len (by rw[hc];exact hs.cells) Hr J (abj Hr hr hby) hfc;have hge:=grownCap_ge w (xs.length+ys.length) cap e;have hm:=grownCap_le_maxLen w (xs.length+ys.length) cap e (C6 hr aHd);have ho:olds.length=xs.length * ks k:=by rw[hold.1,Kr]
  have Ht:RL (RC w β) ((xs++ys).flatMap<|enc k) (olds++news):=by rw[mb];exact hold.append hs.rel
  have hob:∀β',β' id=I (mm (I ⟨w.heap.size,0,G⟩) (xs.length+ys.length)<|grownCap w (xs.length+ys.length) cap e,xs.length+ys.length)->Kf (kl1 id) w β (w.drew.alloc<|.cells (olds.toArray++news.toArray++MK z.cells (grownCap w (xs.length+ys.length) cap e - (xs.length+ys.length))) e) β'->
    E6 B.P (w.drew.alloc<|.cells (olds.toArray++news.toArray++MK z.cells (grownCap w (xs.length+ys.length) cap e - (xs.length+ys.length))) e) β' id (.row e A0 k<|xs++ys):=by
   intro β' hβ hk;refine⟨_,by rw[hβ,Am],.inr ⟨w.heap.size,0,_,_,_,by rw[Am],heap_alloc_new w.drew _,rfl,by rw[Am];exact hge,hm, ?_,λi x j c u a1 a2 a3=> ?_⟩⟩
   .simp only[Qz,aa0,hzs,LG,hn,ho];rw[aA];have h1:(xs.length+ys.length) * ks k<=grownCap w (xs.length+ys.length) cap e * ks k:=E3 _ hge;rw[EH]at h1 ⊢;omega
   .have hj:j<ks k:=by rw[← EL k x];exact(BR.1 a2).1
    have hi':i<xs.length+ys.length:=by have:=(BR.1 a1).1;simpa using this
    have hlt:i * ks k+j<(xs.length+ys.length) * ks k:=OH hi' hj;rw[EH]at hlt;have h2:=hk _ _ (QL Ht i x j c u a1 a2 (by
     rw[MQ y8]at a3;simpa using a3))
    rwa[JF id c<|Ib k x a2]at h2
  obtain⟨β',h1,h2,h3⟩:=hH.bE (hpk:=Pk.old λj hj=>by first|exact heap_alloc_old w.drew _ hj|exact heap_alloc_old w.drew _ _ hj) (w':=w.drew.alloc<|.cells (olds.toArray++news.toArray++MK z.cells (grownCap w (xs.length+ys.length) cap e - (xs.length+ys.length))) e) k1 (.row e A0 k<|xs++ys) (.slice (I ⟨w.heap.size,0,G⟩) (xs.length+ys.length)<|grownCap w (xs.length+ys.length) cap e) (xs.length+ys.length) rfl rfl rfl aG9
   (λj hj _=>heap_alloc_old w.drew _ hj) (λa ha=>by cases ha;right;simp) hob
  exact⟨_,_,β',by rw[he];exact Ck,h1,h2,.own h3 rfl⟩
 obtain⟨rfl,rfl⟩|⟨b,f,cap,us,fr,rfl,hh,hfr,hnc,hcm,hsz,Ct⟩:=k2
 .by_cases h0:ys=[]
  .subst h0;have Ck:=jD (P:=P) (w:=w) (ty:=ty) (base:=G) (sLen:=0) (sCap:=0) (n:=0) (v:=v) (news:=news) (w':=w) ht hu hd' hi hs.len (by rw[hc];exact hs.cells) J (λa h=>by cases h) (λ_=>rfl);obtain⟨β',h1,h2,h3⟩:=hH.bE (hpk:=Pk.refl _ _) (w':=w) k1 (.row e A0 k<|[]++[]) (.slice G 0 0) 0 rfl rfl rfl (Ar _) (λ_ _ _=>rfl) (λa h=>by cases h) (λβ' hβ hk=>⟨_,hβ,.inl ⟨rfl,rfl⟩⟩);exact⟨_,_,β',Ck,h1,h2,.own h3 rfl⟩
  .have PV:0<ys.length:=by cases ys with
    | nil=>exact absurd rfl h0
    | cons y l=>simp
   exact grow G 0 [] rfl y8 RL.nil (by simp[IH])
 .have hsl:Mh w β k xs (.slice (I ⟨b,f,G⟩) xs.length cap):=FT.cells (e:=e) (fz:=false)<|.inr ⟨b,f,cap,us,fr,rfl,hh,hfr,hnc,hcm,hsz,Ct⟩;by_cases La:xs.length+ys.length<=cap
  .have Hr:(xs.length+ys.length) * ks k<=cap * ks k:=E3 _ La;rw[EH]at Hr;have DD:∀u∈news,u.oneCell'=Y:=hs.rel.one;have hst:=Xs (P:=P) b (f+xs.length * ks k) e fr news 0 us w hh (by rw[hn];omega) (.inl (by rw[hfr];rfl)) DD;simp only[Ho]at hst;have Ck:=jD (P:=P) (w:=w) (ty:=ty) (base:=I ⟨b,f,G⟩) (sLen:=xs.length) (sCap:=cap) (n:=ys.length) (v:=v) (news:=news) ht hu hd' hi hs.len (by rw[hc];exact hs.cells) La
    (λa h=>by cases h;rw[hc,Gh];exact hst) (λh=>by cases h)
   have hob:∀β',β' id=I (mm (I ⟨b,f,G⟩) (xs.length+ys.length) cap,xs.length+ys.length)->Kf (kl1 id) w β (w.setRow b (us.toList.take (f+xs.length * ks k)++news++us.toList.drop (f+xs.length * ks k+news.length)).toArray) β'->
     E6 B.P (w.setRow b (us.toList.take (f+xs.length * ks k)++news++us.toList.drop (f+xs.length * ks k+news.length)).toArray) β' id (.row e A0 k<|xs++ys):=by
    intro β' hβ hk;have FB:(us.toList.take (f+xs.length * ks k)++news++us.toList.drop (f+xs.length * ks k+news.length)).toArray.size=us.size:=by
     simp only[LG,Am,DW,E4,Ez];omega
    refine⟨_,by rw[hβ,Am],.inr ⟨b,f,cap,_,fr,by rw[Am],setRow_heap w b us _ e _ hh,by rw[hfr];rfl,by rw[Am];exact La,hcm,by rw[FB];exact hsz,λi x j c u a1 a2 a3=> ?_⟩⟩;have hj:j<ks k:=by rw[← EL k x];exact(BR.1 a2).1
    have hi':i<xs.length+ys.length:=by have:=(BR.1 a1).1;simpa using this
    have a3':(us.toList.take (f+xs.length * ks k)++news++us.toList.drop (f+xs.length * ks k+news.length))[f+(i * ks k+j)]? =I u:=by simpa using a3
    have hsp:f+xs.length * ks k+news.length<=us.toList.length   :=by
     have:us.toList.length=us.size:=Ez;rw[hn];omega
    rw[ZK _ _ _ hsp]at a3';have h2:RC w β c u:=by
     by_cases hx:i<xs.length
     .have h3:=OH hx hj;rw[A9 J]at a3';rw[II hx]at a1;exact Ct i x j c u a1 a2 (by simpa using a3')
     .have h3:xs.length * ks k<=i * ks k:=E3 _ J;have h4:i * ks k+j<(xs.length+ys.length) * ks k:=OH hi' hj;rw[EH]at h4;rw[A5 J]at a3';rw[FN J]at a1;refine QL hs.rel (i - xs.length) x j c u a1 a2 ?_;rw[← a3',aA];congr 1;omega
    have h5:=hk _ _ h2;rwa[JF id c<|Ib k x a2]at h5
   obtain⟨β',h1,h2,h3⟩:=hH.bE (hpk:=Pk.setRow hh λhn=>by rw[← hP,au2 hz]at hn;cases hn) (w':=w.setRow b (us.toList.take (f+xs.length * ks k)++news++us.toList.drop (f+xs.length * ks k+news.length)).toArray) k1 (.row e A0 k<|xs++ys) (.slice (I ⟨b,f,G⟩) (xs.length+ys.length) cap) (xs.length+ys.length) rfl rfl rfl aG9
    (λj hj hne=>setRow_other w b j _ λe=>hne _ rfl e) (λa ha=>by cases ha;exact .inl ⟨_,rfl,rfl⟩) hob
   exact⟨_,_,β',Ck,h1,h2,.own h3 rfl⟩
  .rcases hsl.cellsOf with⟨a,bN,rfl,he⟩|⟨b',f',bN,us',he,_,IT,hcl⟩
   .cases he;exact grow (I ⟨b,f,G⟩) cap [] rfl J RL.nil (by simp[IH,loadCells,loadCellsFrom])
   .cases he;exact grow (I ⟨b,f,G⟩) cap us' rfl J IT (run_firstCells_some w.drew i.size _ ⟨b,f,G⟩ _ cap us' (by rw[hc,IT.1,Kr]) (λj u hj=>by rw[Gh];exact hcl j u hj))
end
end Go.VS
namespace Go.VS
open Go
section
variable {P:Program} {B:Be} {β β':Beta} {H:Hp} {stk:List (Array Value)} {s:S} {a:Act} {w w':World} {kd:TypeId->Option K}
def aEI{k:K}{c:AV}{ys:List (Tof k)}(h:KA H k c=I ys):∀g w x,c≠ .gd g w x:=by
 intro g w x e;subst e;simp[KA,CJ]at h
def axA(s:S)(id:Nat)(ob:Option Ob):s.EI id ob={ s with H:=upd s.H id ob } :=rfl
def arD(hP:P=B.P)(h:St B β stk s a w){b:Nat}(hb:s.H b=G){t u ty:TypeId}{x y:Operand}{q:Bool}{v:AV}{s':S}(hs:L6 P kd t u s b (s.ev x) (s.ev y)=I (q,v,s'))(hq:q=Y):
  ∃u' w' β',(MS #[t,u] ty #[a.eval x,a.eval y]).run P w= .ok u' w'/\St B β' stk s' a w'/\R2 w' β' v u'/\s'.gs=s.gs/\s'.n=s.n/\s'.pins=s.pins:=by
 subst hq;unfold L6 at hs;cases he:IX P t with
 | none=>rw[he]at hs;cases hs
 | some e=>
 rw[he]at hs;simp only[A6]at hs;cases hk:kd e with
 | none=>rw[hk]at hs;cases hs
 | some k=>
 rw[hk]at hs;simp only[A6]at hs;cases hy:KA s.H k (s.ev y) with
 | none=>rw[hy]at hs;cases hs
 | some ys=>
 rw[hy]at hs;simp only[A6]at hs;have hy2:R2 w β (s.ev y) (a.eval y):=(h.eval y).of<|aEI hy;obtain⟨news,KW⟩:=aFb (P:=P) h.hs hy hy2;have ht:=fe he;have conds:∀c:Bool,(Af (P.cellsOf e) (ks k)&&Dv (P.bytesOf e) 256&&zok P e k&&c)=Y->P.cellsOf e=ks k/\P.bytesOf e<=256/\zok P e k=Y/\c=Y:=by
  intro c hc;simp only[AE]at hc;exact⟨Br hc.1.1.1,DL hc.1.1.2,hc.1.2,hc.2⟩
 have ud:(match P.underlying u with|some .string=>Y|some (.slice _)=>Y|_=>A0)=Y->∃d,P.underlying u=I d/\(d= .string\/ ∃e',d= .slice e'):=by
  intro hc;split at hc
  .rename_i hu;exact⟨_,hu,.inl rfl⟩
  .rename_i e' hu;exact⟨_,hu,.inr ⟨e',rfl⟩⟩
  .cases hc
 have hx:=h.eval x;split at hs
 .rename_i cx hc hcx;rw[hcx]at hx;obtain⟨c1,c2,c3,c4⟩:=conds _ hc;obtain⟨d,hu,hd⟩:=ud c4;simp only[Bv,CS]at hs;obtain⟨hr,rfl,rfl⟩:=hs;simp only[Ab,decide_eq_true_eq]at hr;obtain⟨u',w',β',g1,g2,g3,g4⟩:=al2 (ty:=ty) hP h.hs hb ht hu hd c3 c1 c2 KW hr;rw[hx.lit];exact⟨u',w',β',g1,h.keep g3 g2,g4,rfl,rfl,rfl⟩
 .rename_i cx id hc hcx;rw[hcx]at hx;have hx:RC w β (.own id) (a.eval x):=hx;obtain⟨c1,c2,c3,c4⟩:=conds _ hc;obtain⟨d,hu,hd⟩:=ud c4;split at hs
  .rename_i e' k' xs hid hne;split at hs
   .rename_i hee;obtain rfl:=Br hee;cases bL:It k' k xs with
    | none=>rw[bL]at hs;cases hs
    | some xs'=>
     rw[bL]at hs;obtain⟨ek,rfl⟩:=I2 bL;subst ek;simp only[A6,Bv,CS]at hs;obtain⟨hr,rfl,rfl⟩:=hs;simp only[Ab,decide_eq_true_eq]at hr;obtain⟨u',w',β',g1,g2,g3,g4⟩:=al1 (ty:=ty) hP h.hs hid hx ht hu hd c3 c1 c2 KW hr;exact⟨u',w',β',g1,h.map (JF id) (Ot id) g3 g2,g4,rfl,rfl,rfl⟩
   .cases hs
  .cases hs
 .cases hs
def atl(hP:P=B.P)(h:St B β stk s a w){t u ty:TypeId}{x y:Operand}{v:AV}{s':S}(hs:LD P t s (s.ev x) (s.ev y)=I (v,s')):
  ∃u' w' β',(mY #[t,u] ty #[a.eval x,a.eval y]).run P w= .ok u' w'/\St B β' stk s' a w'/\R2 w' β' v u'/\s'.gs=s.gs/\s'.n=s.n/\s'.pins=s.pins:=by
 unfold LD at hs;have hx:=h.eval x;split at hs
 .rename_i cx id hcx;rw[hcx]at hx;have hx:RC w β (.own id) (a.eval x):=hx;split at hs
  .rename_i e fz k xs hid hne;cases he:IX P t with
   | none=>rw[he]at hs;cases hs
   | some e'=>
    rw[he]at hs;simp only[A6]at hs;split at hs
    .rename_i hc;have hc:=Br hc;cases hy:KA s.H k (s.ev y) with
     | none=>rw[hy]at hs;cases hs
     | some ys=>
      rw[hy]at hs;simp only[A6,Bv,CS]at hs;obtain⟨rfl,rfl⟩:=hs;have hy2:R2 w β (s.ev y) (a.eval y):=(h.eval y).of<|aEI hy;obtain⟨news,KW⟩:=aFb (P:=P) h.hs hy hy2;have ht:=fe he;have hk:=I4 k;have hn:news.length=ys.length * ks k:=by rw[KW.rel.1,Kr]
      obtain⟨hd,k1,k2⟩:=h.hs.EJ id _ hid;generalize hg:a.eval x=vx at hx;cases hx with
      | own k3 k4=>
      rw[k1]at k3;cases k3;have hfc:=KW.F4 (F1 ys.length xs.length)<|Nat.min_le_left _ _;have hlen:=KW.len w;obtain⟨rfl,rfl⟩|⟨b,f,cap,us,fr,rfl,hh,hfr,hnc,hcm,hsz,Ct⟩:=k2
      .refine⟨.int .i64 (F1 ys.length 0:Nat),w,β, ?_, ?_,rfl,rfl,rfl,rfl⟩
       .have hfc:=KW.F4 0<|Ch _;simp[mY,run_underlying ht,hlen,L0 (P:=P) (w:=w) (t:=e') J,hc,hfc,goInt]
       .have:s.EI id (I<|.row e fz k<|ys.take ([]:List (Tof k)).length++([]:List (Tof k)).drop ys.length)=s:=by
         simp only[CL,List.take_zero,List.drop_nil,CE,axA];rw[← hid];have:upd s.H id (s.H id)=s.H:=funext λj=>by
          by_cases e:j=id
          .subst e;rw[Bi]
          .rw[BE _ _ e]
         rw[this]
        rw[this];exact h
      .have qJ:F1 ys.length xs.length<=xs.length:=Nat.min_le_right _ _;have azl:F1 ys.length xs.length<=ys.length:=Nat.min_le_left _ _;have h1:F1 ys.length xs.length * ks k<=xs.length * ks k:=E3 _ qJ;have h2:xs.length * ks k<=cap * ks k:=E3 _ hnc;have h3:F1 ys.length xs.length * ks k<=ys.length * ks k:=E3 _ azl;have DD:∀u∈news.take (F1 ys.length xs.length * ks k),u.oneCell'=Y:=λu hu=>KW.rel.one u<|HI hu;have htl:(news.take<|F1 ys.length xs.length * ks k).length=F1 ys.length xs.length * ks k:=by rw[DW,hn];omega
       have hst:=Xs (P:=P) b f e fr (news.take<|F1 ys.length xs.length * ks k) 0 us w hh (by rw[htl];omega) (by
        subst hfr;cases fz
        .exact .inl rfl
        .exact .inr<|Ar _) DD
       simp only[Ho]at hst;obtain⟨g1,g2⟩:=h.hs.setRow (hpk:=Pk.setRow hh λ_ a' hu=>by
        have hus:us.toList.length=us.size:=Ez;refine Yb (ys:=news.take<|F1 ys.length xs.length * ks k) (by rw[htl];omega) (by simpa using hu) λe1 e2=>ld Ct (λe3=>e2 ?_) e1 hu;subst e3;exact Df (by rw[htl];simp)) k1 rfl (us.toList.take f++news.take (F1 ys.length xs.length * ks k)++us.toList.drop (f+(news.take<|F1 ys.length xs.length * ks k).length)).toArray (.row e fz k<|ys.take xs.length++xs.drop ys.length) (λhkp=>by
        have FB:(us.toList.take f++news.take (F1 ys.length xs.length * ks k)++us.toList.drop (f+(news.take<|F1 ys.length xs.length * ks k).length)).toArray.size=us.size:=by
         simp only[LG,Am,E4,htl,DW,Ez]at *;omega
        have hll:(ys.take xs.length++xs.drop ys.length).length=xs.length:=by simp;omega
        refine⟨_,by rw[k1,hll],.inr ⟨b,f,cap,_,fr,by rw[hll],setRow_heap w b us _ e _ hh,by rw[FB];exact hfr,by rw[hll];exact hnc,hcm,by rw[FB];exact hsz,λi x j c u a1 a2 a3=> ?_⟩⟩;have hj:j<ks k:=by rw[← EL k x];exact(BR.1 a2).1
        have hi':i<xs.length:=by have:=(BR.1 a1).1;rwa[hll]at this
        have a3':(us.toList.take f++news.take (F1 ys.length xs.length * ks k)++us.toList.drop (f+(news.take<|F1 ys.length xs.length * ks k).length))[f+(i * ks k+j)]? =I u:=by simpa using a3
        have hsp:f+(news.take<|F1 ys.length xs.length * ks k).length<=us.toList.length:=by
         have:us.toList.length=us.size:=Ez;rw[htl];omega
        rw[ZK _ _ _ hsp,htl]at a3';refine hkp _ _ ?_;by_cases hy':i<ys.length
        .have hm:i<F1 ys.length xs.length:=Nat.lt_min.2 ⟨hy',hi'⟩;have hm2:=OH hm hj;rw[A5 J,Gk,A5 J]at a3';rw[II y8,Gk,A5 hi']at a1;refine QL KW.rel i x j c u a1 a2 ?_;rw[← a3'];congr 1;omega
        .have hm:F1 ys.length xs.length=ys.length:=R4 J;have hm2:ys.length * ks k<=i * ks k:=E3 _ J;rw[hm]at a3';rw[A9 J]at a3';have e1:(ys.take xs.length).length=ys.length:=by simp;omega
         rw[FN J,e1,Hk]at a1;have a1':xs[i]? =I x:=by rw[← a1];congr 1;omega
         exact Ct i x j c u a1' a2<|by simpa using a3')
       refine⟨.int .i64 (F1 ys.length xs.length:Nat),_,β, ?_,h.keep g2 g1,rfl,rfl,rfl,rfl⟩;simp only[mY,Tw,Zp,aD6,Eh,run_underlying ht,F2,hlen,L0 (P:=P) (w:=w) (t:=e') J,hc,hfc,Fl,hst,goInt]
    .cases hs
  .cases hs
 .cases hs
def FT.cut{e:TypeId}{fz:Bool}{k:K}{xs ys:List (Tof k)}{bb f cap l h:Nat}(hy:ys=(xs.take h).drop l)(hlh:l<=h)(hh:h<=xs.length)(hx:FT w β e fz k xs (.slice (I ⟨bb,f,G⟩) xs.length cap)):
  FT w β e fz k ys (.slice (if cap=l then I ⟨bb,f,G⟩ else I ⟨bb,f+l * ks k,G⟩) (h - l)<|cap - l):=by
 obtain⟨h1,_⟩|⟨b',f',bN,us,fr,h1,hhp,hfr,hnc,hcm,hsz,Ct⟩:=hx
 .cases h1
 .cases h1;have hyl:ys.length=h - l:=by subst hy;simp;omega
  by_cases he:cap=l
  .rw[A5 he];obtain rfl:ys=[]:=Df J;refine .inr ⟨bb,f,cap - l,us,fr,by rw[hyl],hhp,hfr,by simp,J, ?_,λi x j c u a1=>by simp at a1⟩;have:(cap - l) * ks k<=cap * ks k:=E3 _ J;omega
  .rw[A9 he];refine .inr ⟨bb,f+l * ks k,cap - l,us,fr,by rw[hyl],hhp,hfr,J,J, ?_,λi x j c u a1 a2 a3=> ?_⟩
   .have:(cap - l) * ks k=cap * ks k - l * ks k:=aA _ _ _;have:l * ks k<=cap * ks k:=E3 _ J;omega
   .subst hy;rw[Hk,Gk]at a1;split at a1
    .refine Ct (l+i) x j c u a1 a2 ?_;rw[← a3,EH];congr 1;omega
    .cases a1
def aos(h:St B β stk s a w){id:Nat}{x:Operand}{t:TypeId}{lo hi:Option Operand}{z:Bool}(hx:s.ev x= .own id)(hf:JD P s.H t (.own id)=Y){q:Bool}{v:AV}{s':S}
  (hs:Ky s id z (lo.map s.ev) (hi.map s.ev)=I (q,v,s'))(hq:q=Y):
  ∃u' β',(Qg t (a.eval x) (lo.map a.eval) (hi.map a.eval) G).run P w= .ok u' w/\St B β' stk s' a w/\R2 w β' v u'/\s'.gs=s.gs/\s'.n=s.n/\s'.pins=s.pins:=by
 subst hq;have hxv:=h.eval x;rw[hx]at hxv;have hxv:RC w β (.own id) (a.eval x):=hxv;unfold Ky at hs;split at hs
 .rename_i e fz k xs hid;obtain⟨e',hu,hk⟩:∃e',P.underlying t=I (.slice e')/\P.cellsOf e'=ks k:=by
   unfold JD at hf;split at hf<;>simp_all
  have hkp:=I4 k;obtain⟨hd,k1,k2⟩:=h.hs.EJ id _ hid;obtain⟨a0,cap,hv,Hr⟩:=k2.cells.len;have Ji:a.eval x=hd:=by
   generalize a.eval x=vx at hxv;cases hxv with
   | own k3 k4=>rw[k1]at k3;cases k3;rfl
  cases hc:JU (lo.map s.ev) (hi.map s.ev) xs.length with
  | none=>rw[hc]at hs;cases hs
  | some r=>
   obtain⟨c,l,hh⟩:=r;rw[hc]at hs;simp only[A6]at hs;have main:c=Y->∃bs,(Qg t (a.eval x) (lo.map a.eval) (hi.map a.eval) G).run P w= .ok bs w/\0<=l/\l<=hh/\hh<=(j8 xs:Int)/\bs= .slice (if cap=l.toNat then a0 else a0.map (·.add (l.toNat * ks k))) (hh.toNat - l.toNat) (cap - l.toNat):=by
    intro hct;subst hct;obtain⟨hb,g1,g2,g3⟩:=Xa (P:=P) (w:=w) (β:=β) (tm:=Bb a) h.eval hc Y Hr;refine⟨_, ?_,g1,g2,g3,rfl⟩;rw[Ji,hv,kI hu J hb,hk]
   have aD0:c=Y->Ix (lo.map s.ev) (hi.map s.ev) l hh xs=(xs.take hh.toNat).drop l.toNat:=by
    intro hct;subst hct;exact nk hc
   split at hs
   .simp only[Bv,CS]at hs;obtain⟨hct,rfl,rfl⟩:=hs;obtain⟨bs,Ck,g1,g2,g3,hbs⟩:=main hct;have hys:=aD0 hct;have hlen:(Ix (lo.map s.ev) (hi.map s.ev) l hh xs).length=hh.toNat - l.toNat:=by rw[hys];simp;omega
    have an0:RI bs=Y:=by rw[hbs];rfl
    obtain⟨β',q1,q2,q3⟩:=h.hs.bE (hpk:=Pk.refl _ _) (w':=w) k1 (.row e fz k<|Ix (lo.map s.ev) (hi.map s.ev) l hh xs) bs (hh.toNat - l.toNat) rfl rfl rfl (Ar _) (λ_ _ _=>rfl) (λa' ha'=>by
      left;rw[hbs]at ha';cases a0 with
      | none=>exfalso;split at ha'<;>cases ha'
      | some aa=>
       refine⟨aa,by rw[hv];rfl, ?_⟩;split at ha'
       .cases ha';rfl
       .cases ha';obtain⟨e1,_⟩|⟨b',f',bN,us,fr,e1,_⟩:=k2
        .rw[hv]at e1;cases e1
        .rw[hv]at e1;simp only[Value.slice.injEq,Bv]at e1;obtain⟨rfl,_⟩:=e1;simp[Gh])
     (λβ' hβ hkf=>by
      refine⟨bs,by rw[hβ,hlen], ?_⟩;rw[hbs];obtain⟨e1,e2⟩|⟨b',f',bN,us,fr,e1,hhp,hfr,hnc,hcm,hsz,Ct⟩:=k2
      .rw[hv]at e1;simp only[Value.slice.injEq]at e1;obtain⟨rfl,_,rfl⟩:=e1;subst e2;refine .inl ⟨?_,by rw[hys];simp⟩;have:hh.toNat=0:=by simp at g3;omega
       have:l.toNat=0:=J
       simp[*]
      .rw[hv]at e1;cases e1;have azM:FT w β' e fz k xs (.slice (I ⟨b',f',G⟩) xs.length cap):= .inr ⟨b',f',cap,us,fr,rfl,hhp,hfr,hnc,hcm,hsz,λi x j c u a1 a2 a3=>by
        have:=hkf _ _<|Ct i x j c u a1 a2 a3;rwa[JF id c<|Ib k x a2]at this⟩
       have:=azM.cut (l:=l.toNat) (h:=hh.toNat) hys J J;simpa[Gh] using this)
    refine⟨bs,β',Ck,h.map (JF id) (Ot id) q2 q1, ?_,rfl,rfl,rfl⟩;exact RC.own q3 an0
   .cases hs
   .simp only[Bv,CS]at hs;obtain⟨hct,rfl,rfl⟩:=hs;obtain⟨bs,Ck,g1,g2,g3,hbs⟩:=main hct;have hys:=aD0 hct;obtain⟨β',q1,q2⟩:=h.abn id;have hsl:=q2.fr id _ e fz k xs aG9 hid hxv;refine⟨bs,β',Ck,q1, ?_, ?_, ?_, ?_⟩
    .show RC w β' (.sl k _) bs;rw[Ji,hv]at hsl;rw[hbs];by_cases hxs:xs=[]
     .subst hxs;have e1:hh.toNat - l.toNat=0:=by simp at g3;omega
      rw[e1,hys];simp only[List.take_nil,List.drop_nil];exact .nil
     .have ha:∃bb f,a0=I ⟨bb,f,G⟩:=by
       cases hsl with
       | nil=>exact absurd rfl hxs
       | sl=>exact⟨_,_,rfl⟩
      obtain⟨bb,f,rfl⟩:=ha;have:=RC.cut (l:=l.toNat) (h:=hh.toNat) hys J J hsl Hr;simpa[Gh] using this
    .simp only[S.freeze,hid];rfl
    .simp only[S.freeze,hid];rfl
    .simp only[S.freeze,hid];rfl
 .cases hs
end
end Go.VS
namespace Go.VS
open Go
section
variable {B:Be} {β β':Beta} {H:Hp} {stk:List (Array Value)} {s s':S} {a:Act} {w w':World} {C:Cx}
def K9(B:Be)(stk:List (Array Value))(a:Act)(d:Option Nat)(s':S)(K:Act->World->Prop):Prop:=∀β' u w',St B β' stk s' (a.put d u) w'->K (a.put d u) w'
def Xp{o:Oper}{K:Act->World->Prop}{Q:Exit->Act->World->Prop}{u:Value}(h:(execOp a.eval o).run B.P w= .ok (.value u) w')(hk:K (a.put o.dst u) w'):o.wp B.P a w K Q:=by
 unfold Oper.wp;rw[h];exact hk
def avP(h:St B β stk s a w){b:Nat}{v:AV}{os:List Ob}{o:Oper}(hd:s.has o.dst=Y)(hg:Good B β s.H w b v os ((execOp a.eval o).run B.P w)){K:Act->World->Prop}{Q:Exit->Act->World->Prop}
  (hK:K9 B stk a o.dst ({ s with H:=En s.H b os }.put o.dst v) K):o.wp B.P a w K Q:=by
 obtain⟨u,w',β',h1,h2,h3,h4⟩:=hg;refine Xp h1<|hK β' _ _ ?_;have h5:=h.keep h3 h2;refine h5.put hd (RT.HL h4) (λg want x e=> ?_);rw[e]at h4;exact absurd h4<|by simp[R2,R1]
def Qb(h:St B β stk s a w){d:Option Nat}(hd:s.has d=Y){v:AV}{u:Value}(hv:R2 w β v u):St B β stk (s.put d v) (a.put d u) w:=
 h.put hd (RT.HL hv) (λg want x e=>by rw[e]at hv;exact absurd hv<|by simp[R2,R1])
def Qe{s s':S}(h1:s'.gs=s.gs)(h2:s'.n=s.n)(h3:s'.pins=s.pins)(d:Option Nat):s'.has d=s.has d:=by
 cases d with
 | none=>rfl
 | some d=>simp only[S.has,h1,h2,h3]
def aES(hP:C.P=B.P)(h:St B β stk s a w){b:Nat}(hb:s.H b=G){o:Oper}(hd:s.has o.dst=Y){K:Act->World->Prop}{Q:Exit->Act->World->Prop}
  (he:(match CI C.P C.kd s.ev s.H b o.op with
   | some (q,v,os)=>if q then I ({ s with H:=En s.H b os }.put o.dst v) else G
   | none=>G)=I s')(hK:K9 B stk a o.dst s' K):o.wp B.P a w K Q:=by
 split at he
 .rename_i q v os hp;split at he
  .rename_i hq;cases he;have hg:=atb (P:=C.P) hP h.eval (λ_=>rfl) (λ_=>rfl) h.hs hb hp hq;rw[hP]at hg;exact avP h hd hg hK
  .cases he
 .cases he
def XQ:∀(ids:List Nat) (s:S),(ids.foldl S.freeze s).gs=s.gs/\(ids.foldl S.freeze s).n=s.n/\(ids.foldl S.freeze s).pins=s.pins/\(ids.foldl S.freeze s).nid=s.nid
 | [],s=>⟨rfl,rfl,rfl,rfl⟩
 | i::ids,s=>by
  obtain⟨h1,h2,h3,h4⟩:=XQ ids<|s.freeze i;have:(s.freeze i).gs=s.gs/\(s.freeze i).n=s.n/\(s.freeze i).pins=s.pins/\(s.freeze i).nid=s.nid:=by
   unfold S.freeze;split<;>exact⟨rfl,rfl,rfl,rfl⟩
  exact⟨h1.trans this.1,h2.trans this.2.1,h3.trans this.2.2.1,h4.trans this.2.2.2⟩
def aqu{P:Program}{t:TypeId}{x y:AV}(h:Ik P t s x y=I s'):s'.gs=s.gs/\s'.n=s.n/\s'.pins=s.pins:=by
 unfold Ik at h;split at h
 .split at h
  .split at h
   .obtain⟨ys,hc,h⟩:=Ag.1 h;split at h<;>cases h;exact⟨rfl,rfl,rfl⟩
   .cases h
  .obtain⟨ys,hc,h⟩:=Ag.1 h;split at h
   .obtain⟨z,hz,h⟩:=Ag.1 h;cases h;obtain⟨h1,h2,h3,_⟩:=XQ (ys.filterMap H6) s;exact⟨h1,h2,h3⟩
   .cases h
  .obtain⟨ys,hc,h⟩:=Ag.1 h;split at h
   .obtain⟨z,hz,h⟩:=Ag.1 h;cases h;exact⟨rfl,rfl,rfl⟩
   .cases h
  .cases h
 .cases h
def arh(hP:C.P=B.P)(h:St B β stk s a w){o:Oper}(hd:s.has o.dst=Y){t:TypeId}{p x:Operand}(ho:o.op= .store t p x){s1:S}(hs:Ik C.P t s (s.ev p) (s.ev x)=I s1){K:Act->World->Prop}{Q:Exit->Act->World->Prop}
  (hK:K9 B stk a o.dst (s1.put o.dst Dp) K):o.wp B.P a w K Q:=by
 obtain⟨w',β',h1,h2⟩:=ari hP h hs;obtain⟨e1,e2,e3⟩:=aqu hs;rw[hP]at h1;unfold Oper.wp execOp;rw[ho];simp only[Eh,h1,F2,Fl];exact hK β' _ _<|Qb h2 (by rw[Qe e1 e2 e3];exact hd) rfl
def arC(hP:C.P=B.P)(h:St B β stk s a w){b:Nat}(hb:s.H b=G){o:Oper}(hd:s.has o.dst=Y){x y:Operand}{t u:TypeId}(ho:o.op= .call { callee:= .builtin .append,args:= #[x,y],argTypes:= #[t,u] })
  {v:AV}{s1:S}(hs:L6 C.P C.kd t u s b (s.ev x) (s.ev y)=I (Y,v,s1)){K:Act->World->Prop}{Q:Exit->Act->World->Prop}(hK:K9 B stk a o.dst (s1.put o.dst v) K):o.wp B.P a w K Q:=by
 obtain⟨u',w',β',h1,h2,h3,e1,e2,e3⟩:=arD (ty:=o.type) hP h hb hs rfl;rw[hP]at h1;refine Xp (u:=u') (w':=w') ?_ (hK β' _ _<|Qb h2 (by rw[Qe e1 e2 e3];exact hd) h3);unfold execOp;rw[ho];simp[resolve,invoke,builtin,h1]
def atk(hP:C.P=B.P)(h:St B β stk s a w){o:Oper}(hd:s.has o.dst=Y){x y:Operand}{t u:TypeId}(ho:o.op= .call { callee:= .builtin .copy,args:= #[x,y],argTypes:= #[t,u] })
  {v:AV}{s1:S}(hs:LD C.P t s (s.ev x) (s.ev y)=I (v,s1)){K:Act->World->Prop}{Q:Exit->Act->World->Prop}(hK:K9 B stk a o.dst (s1.put o.dst v) K):o.wp B.P a w K Q:=by
 obtain⟨u',w',β',h1,h2,h3,e1,e2,e3⟩:=atl (u:=u) (ty:=o.type) hP h hs;rw[hP]at h1;refine Xp (u:=u') (w':=w') ?_ (hK β' _ _<|Qb h2 (by rw[Qe e1 e2 e3];exact hd) h3);unfold execOp;rw[ho];simp[resolve,invoke,builtin,h1]
def as1(hP:C.P=B.P)(h:St B β stk s a w){o:Oper}(hd:s.has o.dst=Y){t:TypeId}{x:Operand}{lo hi:Option Operand}(ho:o.op= .slice t x lo hi G){id:Nat}(hx:s.ev x= .own id){z:Bool}(hf:JD C.P s.H t (.own id)=Y)
  {v:AV}{s1:S}(hs:Ky s id z (lo.map s.ev) (hi.map s.ev)=I (Y,v,s1)){K:Act->World->Prop}{Q:Exit->Act->World->Prop}(hK:K9 B stk a o.dst (s1.put o.dst v) K):o.wp B.P a w K Q:=by
 obtain⟨u',β',h1,h2,h3,e1,e2,e3⟩:=aos (P:=C.P) h hx hf hs rfl;rw[hP]at h1;refine Xp (u:=u') (w':=w) ?_ (hK β' _ _<|Qb h2 (by rw[Qe e1 e2 e3];exact hd) h3);unfold execOp;rw[ho];simp[h1]
def akz(hP:C.P=B.P)(h:St B β stk s a w){b:Nat}(hb:s.H b=G){o:Oper}(hd:s.has o.dst=Y){ids:List Nat}{K:Act->World->Prop}{Q:Exit->Act->World->Prop}
  (he:(match CI C.P C.kd (ids.foldl S.freeze s).ev (ids.foldl S.freeze s).H b o.op with
   | some (q,v,os)=>if q then I ({ ids.foldl S.freeze s with H:=En (ids.foldl S.freeze s).H b os }.put o.dst v) else G
   | none=>G)=I s')(hK:K9 B stk a o.dst s' K):o.wp B.P a w K Q:=by
 obtain⟨β',h1,h2⟩:=h.LW ids;obtain⟨e1,e2,e3,_⟩:=XQ ids s;exact aES hP h1 (h2.non b hb) (by rw[Qe e1 e2 e3];exact hd) he hK
def HW(C:Cx)(B:Be):Prop:=∀(f:FuncId) (d:Option Nat) (m:DZ),C.Γ f d=I m->∀(β:Beta) (stk:List (Array Value)) (s:S) (a:Act) (w:World) (b:Nat) (as:List Operand) (s':S) (o:Oper) (ts:Array TypeId) (K:Act->World->Prop) (Q:Exit->Act->World->Prop),
 St B β stk s a w->(∀j,b<=j->j<b+16->s.H j=G)->s.has d=Y->Hb m s b d (as.map s.ev) I=I s'->o.dst=d->o.op= .call { callee:= .value<|.func f,args:=as.toArray,argTypes:=ts } ->K9 B stk a d s' K->o.wp B.P a w K Q
def ng(hP:C.P=B.P)(hC:HW C B)(h:St B β stk s a w){b:Nat}(hb:∀j,b<=j->j<b+16->s.H j=G){o:Oper}(he:CR C (AF S) o b s I=I s'){K:Act->World->Prop}{Q:Exit->Act->World->Prop}(hK:K9 B stk a o.dst s' K):o.wp B.P a w K Q:=by
 have hb0:s.H b=G:=hb b (Ar _) J;unfold CR at he;split at he
 .cases he
 rename_i hd;generalize ho:o.op=op at he;have pu:(match CI C.P C.kd s.ev s.H b op with
   | some (q,v,os)=>if q then I ({ s with H:=En s.H b os }.put o.dst v) else G
   | none=>G)=I s'->o.wp B.P a w K Q:=λhe=>aES hP h hb0 hd (by rw[ho];exact he) hK
 cases op<;>try (exact pu he)
 case store t p x=>
  simp only at he;split at he
  .rename_i s1 hs;cases he;exact arh hP h hd ho hs hK
  .cases he
 case call c=>
  obtain⟨cal,⟨args⟩,⟨tys⟩⟩:=c;simp only at he;split at he
  .rename_i f;split at he
   .rename_i m hm;exact hC f o.dst m hm β stk s a w b _ s' o _ K Q h hb hd he rfl ho hK
   .cases he
  .split at he
   .rename_i q v s1 hs;split at he
    .rename_i hq;subst hq;cases he;exact arC hP h hb0 hd ho hs hK
    .cases he
   .cases he
  .split at he
   .rename_i v s1 hs;cases he;exact atk hP h hd ho hs hK
   .cases he
  .exact pu he
 case slice t x lo hi mx=>
  cases mx with
  | some m=>exact pu he
  | none=>
   simp only at he;split at he
   .rename_i id hx;split at he
    .cases he
    .rename_i hf;split at he
     .rename_i q v s1 hs;split at he
      .rename_i hq;subst hq;cases he;exact as1 hP h hd ho hx hf hs hK
      .cases he
     .cases he
   .exact pu he
 case buildSlice t n ps=>
  simp only at he;exact akz hP h hb0 hd (by rw[ho];exact he) hK
end
end Go.VS
namespace Go.VS
open Go
mutual
theorem avc (E:Nat->AV) (H:Hp) (b:Nat):∀(h:Sh) (x:LT h),GF h=Y->(BL E H b h x).2=(H,b)
 | .int _,_,_=>rfl
 | .bool,_,_=>rfl
 | .str,_,_=>rfl
 | .agg l,x,h=>by
  have:=YP E H b l x h;show((match Aj E H b l x with|(cs,H,b)=>(AV.agg cs,H,b)):AV×Hp×Nat).2=(H,b);generalize Aj E H b l x=r at *;obtain⟨cs,H',b'⟩:=r;exact this
 | .sl _,_,h=>by simp[GF]at h
 | .row _ _,_,h=>by simp[GF]at h
 | .fz _,_,h=>by simp[GF]at h
 | .Cj _ _,_,h=>by simp[GF]at h
 | .abx _ _,_,h=>by simp[GF]at h
 | .arr _,_,h=>by simp[GF]at h
 | .same _,_,h=>by simp[GF]at h
 | .box _ _,_,h=>by simp[GF]at h
theorem YP (E:Nat->AV) (H:Hp) (b:Nat):∀(l:List Sh) (x:LTs l),NA l=Y->(Aj E H b l x).2=(H,b)
 | [],_,_=>rfl
 | h::l,x,hl=>by
  simp only[NA,AE]at hl;have h1:=avc E H b h x.1 hl.1;have h2:=YP E H b l x.2 hl.2;show((match BL E H b h x.1 with|(c,H,b)=>match Aj E H b l x.2 with|(cs,H,b)=>(c::cs,H,b)):List AV×Hp×Nat).2=(H,b);generalize hm:BL E H b h x.1=r at *;obtain⟨c,H',b'⟩:=r;cases h1;show((match Aj E H b l x.2 with|(cs,H,b)=>(c::cs,H,b)):List AV×Hp×Nat).2=(H,b);generalize Aj E H b l x.2=r at *;obtain⟨cs,H',b'⟩:=r;exact h2
end
mutual
theorem ave:∀h:Sh,GF h=Y->MW h=A0
 | .int _,_=>rfl
 | .bool,_=>rfl
 | .str,_=>rfl
 | .agg l,h=>ku l h
 | .sl _,h=>by simp[GF]at h
 | .row _ _,h=>by simp[GF]at h
 | .fz _,h=>by simp[GF]at h
 | .Cj _ _,h=>by simp[GF]at h
 | .abx _ _,h=>by simp[GF]at h
 | .arr _,h=>by simp[GF]at h
 | .same _,h=>by simp[GF]at h
 | .box _ _,h=>by simp[GF]at h
theorem ku:∀l:List Sh,NA l=Y->CV l=A0
 | [],_=>rfl
 | h::l,hl=>by
  simp only[NA,AE]at hl;simp only[CV,ave h hl.1,ku l hl.2,EX]
end
def aDj(E:Nat->AV)(H:Hp)(b:Nat):∀(l:List Sh) (cs:List AV) (x:LTs l),l.isEmpty=Y->BT E H b l cs x=([],H,b)
 | [],_,_,_=>rfl
 | _::_,_,_,h=>by simp at h
def at6:∀l:List Sh,l.isEmpty=Y->CV l=A0
 | [],_=>rfl
 | _::_,h=>by simp at h
def awb(l:List Nat):off l []=Y:=by simp[off]
def atr{m:DZ}{s:S}{b:Nat}{d:Option Nat}{as:List AV}{v:AV}{x:LTs m.ps}{r:LTs m.rs×LTs (B2 m.ps)}(h1:NA m.rs=Y)(h2:(B2 m.ps).isEmpty=Y)(h3:(Ce s.H m.ps as).isEmpty=Y)(h4:(Bo s.H m.ps as).isEmpty=Y)
  (hx:GC (λi=>(as[i]?).getD .un) s.H m.ps as=I x)(hr:m.g x=I r)(hv:MG (Aj (λi=>(as[i]?).getD .un) s.H b m.rs r.1).1=v):Hb m s b d as I=I (s.put d v):=by
 have h3':Ce s.H m.ps as=[]:=by simpa using h3
 have h4':Bo s.H m.ps as=[]:=by simpa using h4
 unfold Hb;simp only[hx,h4',NG,h3',awb,EY,hr,A6,KK,ku _ h1,at6 _ h2,GL,GJ,aDj _ _ _ _ _ _ h2];have hm:=YP (λi=>(as[i]?).getD .un) s.H b m.rs r.1 h1;generalize Aj (λi=>(as[i]?).getD .un) s.H b m.rs r.1=q at *;obtain⟨vs,H',b'⟩:=q;cases hm;have:Dv b (b+16)=Y:=Nat.ble_eq_true_of_le J;simp only[this];rw[← hv]
section
variable {B:Be} {β β':Beta} {H:Hp} {stk:List (Array Value)} {s s':S} {a:Act} {w w':World} {C:Cx}
def av5{b:Nat}{o:Oper}{v:AV}(hd:s.has o.dst=Y)(h:spA C b o.dst s.ev s.H o.op=I (Y,v)):CR C (AF S) o b s I=I (s.put o.dst v):=by
 have eqS:∀v',({ s with H:=s.H } :S).put o.dst v'=s.put o.dst v':=λ_=>rfl;unfold CR;rw[hd];generalize ho:o.op=op at h;have pu:(match CI C.P C.kd s.ev s.H b op with
   | some (q,v,[])=>I (q,v)
   | _=>G)=I (Y,v)->(match CI C.P C.kd s.ev s.H b op with
   | some (q,v,os)=>if q then I ({ s with H:=En s.H b os }.put o.dst v) else G
   | none=>G)=I (s.put o.dst v):=by
  intro h;split at h
  .rename_i v' hp;cases h;rw[hp];rfl
  .cases h
 cases op<;>try (exact pu h)
 case store=>simp[spA]at h
 case buildSlice=>simp[spA]at h
 case slice t x lo hi mx=>
  cases mx with
  | some m=>exact pu h
  | none=>
   simp only[spA]at h;simp only;cases hx:s.ev x<;>simp only[hx]at h ⊢ <;>first|(cases h;done)|exact pu h
 case call c=>
  obtain⟨cal,⟨args⟩,⟨tys⟩⟩:=c;simp only[spA]at h;simp only;split at h
  .rename_i f;obtain⟨m,hm,h⟩:=Ag.1 h;split at h
   .rename_i hc;simp only[AE]at hc;obtain⟨x,hx,h⟩:=Ag.1 h;simp only[Bv,CS]at h;obtain⟨h1,h2⟩:=h;cases hr:m.g x with
    | none=>rw[hr]at h1;cases h1
    | some r=>
     rw[hr]at h2;simp only[hm];exact atr hc.1.1.1 hc.1.1.2 hc.1.2 hc.2 hx hr h2
   .cases h
  .cases h
  .cases h
  .rename_i n1 n2 n3;split
   .exact absurd rfl (n1 _)
   .exact absurd rfl n2
   .exact absurd rfl n3
   .exact pu h
end
end Go.VS
namespace Go.VS
open Go
section
variable {B:Be} {β β':Beta} {H:Hp} {stk:List (Array Value)} {s s':S} {a:Act} {w w':World} {C:Cx}
def XJ{ops:Array Oper}{j g:Nat}(hg:(ops[j]?).bind (·.dst)=I g){b:Bool}(hv:Bb a g= .bool b):yielded ops a.tmps j=I b:=by
 unfold yielded;rw[hg];have:a.tmps[g]? =I (.bool b):=by
  unfold Bb at hv;rw[Ty]at hv;cases h:a.tmps[g]? with
  | none=>rw[h]at hv;cases hv
  | some u=>rw[h]at hv;exact congrArg I hv
 rw[A6,this]
def XI{ops:Array Oper}{j g:Nat}(hg:(ops[j]?).bind (·.dst)=I g){b:Bool}(hv:yielded ops a.tmps j=I b):Bb a g= .bool b:=by
 unfold yielded at hv;rw[hg,A6]at hv;split at hv
 .rename_i c hc;cases hv;simp[Bb,hc]
 .cases hv
def St.narrow(h:St B β stk s a w){g:Nat}{want:Bool}(hg:Bb a g= .bool want):St B β stk (s.narrow g want) a w:=by
 have rt:∀x y,RT w β (Bb a) x y->RT w β (Bb a) (Gb g want x) y:=by
  intro x y hx;cases x with
  | gd g' w' z=>
   simp only[Gb];split
   .rename_i h1 h2;obtain rfl:=Br h1;obtain rfl:want=w':=by simpa using h2
    exact RT.HL (hx.1 hg)
   .exact hx
  | _=>exact hx
 refine⟨λt=> ?_,h.stack,h.n,h.defers,h.pins,λt g' w' x hx=> ?_,h.hs⟩
 .show RT w β (Bb a) (upd (λt=>Gb g want<|s.T t) g (.b want) t) (Bb a t);by_cases e:t=g
  .subst e;rw[Bi,hg];rfl
  .rw[BE _ _ e];exact rt _ _ (h.T t)
 .have hx:upd (λt=>Gb g want<|s.T t) g (.b want) t= .gd g' w' x:=hx;by_cases e:t=g
  .subst e;rw[Bi]at hx;cases hx
  .rw[BE _ _ e]at hx;cases hs:s.T t with
   | gd g2 w2 z=>
    rw[hs]at hx;simp only[Gb]at hx;split at hx
    .rename_i h1 h2;obtain rfl:=Br h1;obtain rfl:want=w2:=by simpa using h2
     subst hx;have:=h.T t;rw[hs]at this;exact(this.1 hg).elim
    .cases hx;exact h.gs _ _ _ _ hs
   | _=>rw[hs]at hx;simp[Gb]at hx
def aal(a:Act){d t:Nat}(h:t≠d)(u:Value):Bb (a.put (I d) u) t=Bb a t:=by
 simp only[Bb,Act.put,Ty];rw[aDA λe=>h e.symm]
def R2.bool{x:AV}{b:Bool}(h:R2 w β x (.bool b)):R2 w' β' x (.bool b):=by
 cases x with
 | un=>trivial
 | lit v=>exact h
 | sl k xs=>exact absurd (show RC w β (.sl k xs) (.bool b) from h) λh=>by cases h
 | arr k xs=>obtain⟨us,e,_⟩:=h;cases e
 | own id=>exact absurd (show RC w β (.own id) (.bool b) from h) (λh=>by cases h with|own h1 h2=>cases h2)
 | ptr a b c d=>exact absurd (show RC w β (.ptr a b c d) (.bool _) from h) λh=>by cases h
 | ipt a b c=>exact absurd (show RC w β (.ipt a b c) (.bool _) from h) λh=>by cases h
 | agg cs=>obtain⟨us,e,_⟩:=h;cases e
 | tup vs=>obtain⟨us,e,_⟩:=h;cases e
 | gd a b c=>exact h.elim
def St.more(h:St B β stk s a w)(g:Nat):St B β stk { s with gs:=upd s.gs g Y } a w:=
 ⟨h.T,h.stack,h.n,h.defers,h.pins,λt g' want x hx=>by
  show upd s.gs g Y g'=Y;by_cases e:g'=g
  .rw[e,Bi]
  .rw[BE _ _ e];exact h.gs t g' want x hx,h.hs⟩
def RT.bR{tm:Nat->Value}{x:AV}{v:Value}(h:RT w β tm x v)(hn:pE x=Y):R2 w β x v:=by
 cases x with
 | gd=>cases hn
 | _=>exact h
def RT.az9{tm tm':Nat->Value}{x:AV}{b:Bool}(h:RT w β tm x (.bool b))(ht:∀g want z,x= .gd g want z->tm' g=tm g):RT w' β' tm' x (.bool b):=by
 cases x with
 | gd g want z=>
  have e:=ht g want z rfl;refine⟨λh1=>R2.bool<|h.1<|e▸h1,λh1=> ?_⟩;exact h.2<|e▸h1
 | _=>exact RT.HL<|R2.bool<|RT.bR h rfl
def aGI{g d:Nat}(h:({ s with gs:=upd s.gs g Y } :S).has (I d)=Y):s.has (I d)=Y/\d≠g/\s.gs d=A0:=by
 simp only[S.has,AE,CM]at h ⊢;obtain⟨⟨h1,h2⟩,h3⟩:=h;by_cases e:d=g
 .subst e;rw[Bi]at h3;cases h3
 .rw[BE _ _ e]at h3;exact⟨⟨⟨h1,h2⟩,h3⟩,e,h3⟩
def St.azG(h:St B β stk s a w){g d:Nat}{want:Bool}(hg:Bb a g= .bool want)(EZ:({ s with gs:=upd s.gs g Y } :S).has (I d)=Y){v:AV}(hn:pE v=Y){u:Value}
  (h':St B β' stk ((s.narrow g want).put (I d) v) (a.put (I d) u) w'):St B β' stk { s.put (I d) (.gd g want v) with gs:=upd s.gs g Y } (a.put (I d) u) w':=by
 obtain⟨_,hdg,hgs⟩:=aGI EZ;have tg:Bb (a.put (I d) u) g= .bool want:=by rw[aal a<|LL hdg];exact hg
 refine⟨λt=> ?_,h'.stack,h'.n,h'.defers,h'.pins,λt g' w1 x hx=> ?_,h'.hs⟩
 .show RT w' β' _ (upd s.T d (.gd g want v) t) _;have ht:RT w' β' (Bb<|a.put (I d) u) (upd (upd (λt=>Gb g want<|s.T t) g<|.b want) d v t) (Bb (a.put (I d) u) t):=h'.T t;by_cases e:t=d
  .subst e;rw[Bi]at ht ⊢;exact⟨λ_=>ht.bR hn,λhne=>absurd tg hne⟩
  .rw[BE _ _ e]at ht ⊢;by_cases e2:t=g
   .subst e2;rw[tg];have h0:=h.T t;rw[hg]at h0;refine h0.az9 λg' w1 z hz=> ?_;have hg':s.gs g'=Y:=h.gs _ _ _ _ hz;exact aal a (λe=>by rw[e,hgs]at hg';cases hg') u
   .rw[BE _ _ e2]at ht;cases hs:s.T t with
    | gd g2 w2 z=>
     rw[hs]at ht;simp only[Gb]at ht;split at ht
     .rename_i h1 h2;obtain rfl:=Br h1;obtain rfl:want=w2:=by simpa using h2
      have h0:=h.T t;rw[hs]at h0;refine⟨λ_=>ht.bR ?_,λhne=>absurd tg hne⟩;have:=h0.1 hg;cases z<;>first|rfl|exact this.elim
     .exact ht
    | _=>rw[hs]at ht;exact ht
 .show upd s.gs g Y g'=Y;have hx:upd s.T d (.gd g want v) t= .gd g' w1 x:=hx;by_cases e:t=d
  .subst e;rw[Bi]at hx;cases hx;exact Bi _ _ _
  .rw[BE _ _ e]at hx;by_cases e3:g'=g
   .rw[e3,Bi]
   .rw[BE _ _ e3];exact h.gs _ _ _ _ hx
def aDa(h:St B β stk s a w){ops:Array Oper}:∀(n:Nat) (o:Oper) {c:Bool},MJ ops s n o=I c->JX o (yielded ops a.tmps)=Y->c=Y
 | 0,_,_,he,_=>by cases he
 | n+1,o,c,he,hw=>by
  unfold MJ at he;cases hg:o.guard with
  | none=>rw[hg]at he;cases he;rfl
  | some jw=>
   obtain⟨j,want⟩:=jw;rw[hg]at he;obtain⟨oj,hj,he⟩:=Ag.1 he;obtain⟨g,hgd,he⟩:=Ag.1 he;have amq:(ops[j]?).bind (·.dst)=I g:=by rw[hj];exact hgd
   have hy:yielded ops a.tmps j=I want:=by simpa[JX,hg] using hw
   have htg:=XI amq hy;have hT:=h.T g;split at he
   .rename_i c0 hc0;rw[hc0,htg]at hT;have hT:Value.bool want=Value.bool c0:=hT;cases hT;cases he;cases want<;>rfl
   .rename_i vs hc0;rw[hc0,htg]at hT;cases (show Value.bool want=Value.tuple vs from hT)
   .rename_i g' w' c0 hc0;rw[hc0]at hT;split at he
    .rename_i j' w2 hoj;split at he
     .rename_i g2 hg2;split at he
      .rename_i e1 e2;obtain rfl:=Br e1;obtain rfl:w'=w2:=by simpa using e2
       obtain⟨b,hb,he⟩:=Ag.1 he;by_cases hq:Bb a g'= .bool w'
       .have hv:Bb a g= .bool c0:=hT.1 hq;rw[htg]at hv;cases hv;have hb1:=aDa h n oj hb (by
         have:yielded ops a.tmps j'=I w':=XJ hg2 hq;simp[JX,hoj,this])
        rw[hb1]at he;cases he;cases want<;>rfl
       .have hv:Bb a g=undef:=hT.2 hq;rw[htg]at hv;cases hv
      .cases he
     .cases he
    .cases he
   .cases he
def atm{c:Option Bool}{q:Bool}(h:abl c q=Y)(hc:∀b,c=I b->b=Y):q=Y:=by
 cases c with
 | none=>exact h
 | some b=>
  obtain rfl:=hc b rfl;cases q with
  | true=>rfl
  | false=>cases h
def nI(hP:C.P=B.P)(hC:HW C B){ops:Array Oper}{i:Nat}{o:Oper}(hi:ops[i]? =I o)(h:St B β stk s a w){b:Nat}(hb:∀j,b<=j->j<b+16->s.H j=G)
  (he:evG C (AF S) ops o b s I=I s'){K:Act->World->Prop}{Q:Exit->Act->World->Prop}(hK:K9 B stk a o.dst s' K):wpOp B.P ops Q i K a w:=by
 unfold wpOp;simp only[hi];unfold evG at he;split at he
 .rename_i hg;have hw:JX o (yielded ops a.tmps)=Y:=by simp[JX,hg]
  rw[A5 hw];exact .inl (ng hP hC h hb he hK)
 .rename_i j want hg;have hwd:JX o (yielded ops a.tmps)=(yielded ops a.tmps j == I want):=by simp[JX,hg]
  rw[hwd];split at he
  .cases he
  .rename_i g hgd hsp;split at he
   .rename_i q v EZ hv;split at he
    .rename_i hn;split at he
     case isFalse=>cases he
     rename_i pz;cases he;obtain⟨d,hd⟩:∃d,o.dst=I d:=by
      cases hd:o.dst with
      | none=>rw[hd]at hsp;cases hsp
      | some d=>exact⟨d,rfl⟩
     rw[hd]at EZ hv;by_cases hy:yielded ops a.tmps j=I want
     .have htg:=XI hgd hy;rw[A5<|by simp[hy]];have hh:=(aGI EZ).1;have hqt:q=Y:=atm pz (λb hb=>aDa h 4 o hb (by rw[hwd,hy];simp));subst hqt;have he:CR C (AF S) o b (s.narrow g want) I=I ((s.narrow g want).put o.dst v):=
       av5 (by rw[hd];exact hh) (by rw[hd];exact hv)
      refine .inl<|ng hP hC (h.narrow htg) (s:=s.narrow g want) hb he ?_;intro β' u w' h';rw[hd]at h' ⊢;have:=hK β' u w';rw[hd]at this;exact this (h.azG htg EZ hn h')
     .rw[A9<|by simpa using hy];have hne:Bb a g≠ .bool want:=λe=>hy<|XJ hgd e;have:=hK β undef w;rw[hd]at this ⊢;exact this ((h.more g).put EZ ⟨λe=>absurd e hne,λ_=>rfl⟩ (λg' w1 x e=>by cases e;exact Bi _ _ _))
    .cases he
   .cases he
  .rename_i g hgd hsp;split at he
   .rename_i c hT;have htg:Bb a g= .bool c:=by have:=h.T g;rw[hT]at this;exact this
    have hy:yielded ops a.tmps j=I c:=XJ hgd htg;rw[hy];have hn:∀w0:Bool,c=w0->St B β stk { s with T:=upd s.T g (.b w0) } a w:=by
     intro w0 e;subst e;refine⟨λt=> ?_,h.stack,h.n,h.defers,h.pins,λt g' w' x hx=> ?_,h.hs⟩
     .show RT w β (Bb a) (upd s.T g (.b c) t) (Bb a t);by_cases e:t=g
      .subst e;rw[Bi,htg];rfl
      .rw[BE _ _ e];exact h.T t
     .have hx:upd s.T g (.b c) t= .gd g' w' x:=hx;by_cases e:t=g
      .subst e;rw[Bi]at hx;cases hx
      .rw[BE _ _ e]at hx;exact h.gs _ _ _ _ hx
    have yes:CR C (AF S) o b { s with T:=upd s.T g (.b want) } I=I s'->c=want->
      (if(I c == I want)=Y then o.wp B.P a w K Q\/(o.asks B.P a w/\LetsOut Q) else K (a.put o.dst undef) w):=by
     intro he e;rw[A5<|by simp[e]];exact .inl<|ng hP hC (hn want e) hb he hK
    have no:(match s.has o.dst with
      | true=>I (({ s with T:=upd s.T g (.b<|!want) } :S).put o.dst Dp)
      | false=>G)=I s'->c= !want->
      (if(I c == I want)=Y then o.wp B.P a w K Q\/(o.asks B.P a w/\LetsOut Q) else K (a.put o.dst undef) w):=by
     intro he e;rw[A9 (by subst e;cases want<;>simp)];split at he
     .rename_i EZ;cases he;exact hK β undef w ((hn (!want) e).put (by exact EZ) (u:=undef) rfl (λg' w1 x e=>by cases e))
     .cases he
    cases want<;>cases c<;>simp only[A2,if_false,Hj]at he
    .exact yes he rfl
    .exact no he rfl
    .exact no he rfl
    .exact yes he rfl
   .rename_i vs hT;have htg:Bb a g= .tuple vs:=by have:=h.T g;rw[hT]at this;exact this
    have hy:¬(yielded ops a.tmps j == I want)=Y:=by
     intro e;have:=XI hgd (show yielded ops a.tmps j=I want by simpa using e);rw[htg]at this;cases this
    rw[A9 hy];split at he
    .rename_i EZ;cases he;exact hK β undef w (h.put EZ (u:=undef) rfl (λg' w1 x e=>by cases e))
    .cases he
   .cases he
end
end Go.VS
namespace Go.VS
open Go
def In1(F:Nat->Prop):AV->Prop
 | .own id=>F id
 | .ptr id _ _ _=>F id
 | .agg _=>False
 | .tup _=>False
 | .gd _ _ _=>False
 | _=>True
def In2(F:Nat->Prop):AV->Prop
 | .agg cs=>∀c∈cs,In1 F c
 | v=>In1 F v
def In3(F:Nat->Prop):AV->Prop
 | .tup vs=>∀v∈vs,In2 F v
 | v=>In2 F v
def InA(F:Nat->Prop):AV->Prop
 | .gd _ _ v=>In3 F v
 | v=>In3 F v
def Ey(F:Nat->Prop):Ob->Prop
 | .box _ cs=>∀c∈cs,In1 F c
 | _=>True
def DY(F:Nat->Prop)(H:Hp):Prop:=∀id ob,F id->H id=I ob->Ey F ob
def Agr(F:Nat->Prop)(H H':Hp):Prop:=∀id,F id->H' id=H id
section
variable {F:Nat->Prop} {H H':Hp} {P:Program} {kd:TypeId->Option K} {ρ ρ':Operand->AV} {b:Nat}
def In2.of1{v:AV}(h:In1 F v):In2 F v:=by
 cases v<;>first|exact h|exact h.elim
def In3.of2{v:AV}(h:In2 F v):In3 F v:=by
 cases v<;>first|exact h|exact(show False from h).elim
def InA.of3{v:AV}(h:In3 F v):InA F v:=by
 cases v<;>first|exact h|exact(show False from h).elim
def InA.of1{v:AV}(h:In1 F v):InA F v:= .of3<|.of2<|.of1 h
def InA.of2{v:AV}(h:In2 F v):InA F v:= .of3<|.of2 h
def In1.GU{v:AV}(h:GU v=Y):In1 F v:=by
 cases v<;>first|trivial|cases h
def Td(k:K)(x:Tof k):∀c∈enc k x,In1 F c:=λc hc=> .GU<|DB.1 (aaW k x) c hc
def QH{t:TypeId}{cs:List AV}{o:Nat}{v:AV}(hc:∀c∈cs,In1 F c)(h:HZ P t cs o=I v):InA F v:=by
 unfold HZ at h;split at h
 .split at h
  .cases h;exact .of2 λc hm=>hc c (Iz<|HI hm)
  .cases h
 .exact .of1 (hc v<|Cp h)
 .cases h
def avj{t:TypeId}{p:AV}(hp:InA F p)(hH:Agr F H H'):K6 P H' t p=K6 P H t p:=by
 unfold K6;cases p with
 | ptr id z i o=>simp only[hH id hp]
 | _=>rfl
def avk{N:Nat->Prop}{t:TypeId}{p v:AV}(hp:InA N p)(hH:∀id ob,N id->H id=I ob->Ey F ob)(h:K6 P H t p=I v):InA F v:=by
 unfold K6 at h;split at h
 .exact QH (Td _ _) h
 .rename_i id z i o;split at h
  .rename_i hid;split at h
   .exact QH (hH id _ hp hid) h
   .cases h
  .split at h
   .exact QH (Td _ _) h
   .cases h
  .split at h
   .split at h<;>cases h;trivial
   .split at h
    .exact QH (Td _ _) h
    .cases h
  .cases h
 .cases h
def nv{k:K}{v:AV}(hv:InA F v)(hH:Agr F H H'):CJ H' k v=CJ H k v:=by
 cases v with
 | own id=>simp only[CJ,hH id hv]
 | lit v=>cases v with
  | slice a n c=>cases a<;>cases n<;>cases c<;>rfl
  | _=>rfl
 | _=>rfl
def nZ{k:K}{v:AV}(hv:InA F v)(hH:Agr F H H'):KA H' k v=KA H k v:=by
 cases v with
 | own id=>simp only[KA,CJ,hH id hv]
 | lit v=>cases v with
  | slice a n c=>cases a<;>cases n<;>cases c<;>rfl
  | _=>rfl
 | _=>rfl
def aBj{t:TypeId}{v:AV}(hv:InA F v)(hH:Agr F H H'):JD P H' t v=JD P H t v:=by
 unfold JD;generalize P.underlying t=u;obtain _|d:=u
 .rfl
 cases d<;>cases v<;>first|rfl|(simp only[hH _ hv];done)|(rename_i v;cases v<;>rfl)
def arF{t:TypeId}{i:Int}{v:AV}(hv:InA F v)(hH:Agr F H H'):N6 P H' t i v=N6 P H t i v:=by
 unfold N6;cases v with
 | own id=>simp only[hH id hv]
 | ptr id z i o=>
  cases i<;>cases o<;>first|(simp only[hH id hv];done)|rfl
 | _=>rfl
def ayV{v v':AV}{q:Bool}{os:List Ob}(hv:InA F v)(h:okN v=I (q,v',os)):InA F v'/\os=[]:=by
 obtain⟨rfl,_,rfl,_⟩:=OQ h;exact⟨hv,rfl⟩
def ayW{v v':AV}{q:Bool}{os:List Ob}(hv:InA F v)(h:okA v=I (q,v',os)):InA F v'/\os=[]:=by
 obtain⟨rfl,_,rfl⟩:=DO h;exact⟨hv,rfl⟩
def PIn(F:Nat->Prop)(r:PR):Prop:=∀q v os,r=I (q,v,os)->InA F v/\os.length<=1/\ ∀ob∈os,Ey F ob
def PIn.okN{v:AV}(hv:InA F v):PIn F (okN v):=λq v' os h=>by
 obtain⟨h1,rfl⟩:=ayV hv h;exact⟨h1,by simp,by simp⟩
def PIn.okA{v:AV}(hv:InA F v):PIn F (okA v):=λq v' os h=>by
 obtain⟨h1,rfl⟩:=ayW hv h;exact⟨h1,by simp,by simp⟩
def PIn.lit{v:Value}:PIn F (VS.okA<|.lit v):= .okA<|.of1 trivial
def PIn.none:PIn F .none:=λq v os h=>by cases h
def PIn.nil{q:Bool}{v:AV}(hv:InA F v):PIn F (I (q,v,[])):=λq v' os h=>by cases h;exact⟨hv,by simp,by simp⟩
def PIn.one{q:Bool}{v:AV}{ob:Ob}(hv:InA F v)(ho:Ey F ob):PIn F (I (q,v,[ob])):=λq v' os h=>by
 cases h;exact⟨hv,by simp,λob' hm=>by simp at hm;subst hm;exact ho⟩
def PIn.bind{α:Type}{o:Option α}{f:α->PR}(h:∀a,o=I a->PIn F (f a)):PIn F (o.bind f):=by
 cases o with
 | none=>exact .none
 | some a=>exact h a rfl
def axP(op:BinOp)(k:IntKind)(x y:Int):PIn F (UZ op k x y):=by
 cases op<;>first|exact .lit|exact .none|exact .nil<|.of1 trivial
def axO(op:BinOp)(x y:A1):PIn F (UY op x y):=by
 cases op<;>first|exact .lit|exact .none|exact .nil<|.of1 trivial
def axQ(op:BinOp)(t:TypeId)(x y:AV):PIn F (PN P op t x y):=by
 unfold PN;split
 .split
  .exact axP _ _ _ _
  .exact .none
 .exact axO _ _ _
 .split<;>first|exact .lit|exact .none
 .split<;>first|exact .lit|exact .none
 .exact .none
def axN(op:UnOp)(x:AV):PIn F (unA op x):=by
 unfold unA;split<;>first|exact .lit|exact .none
def aug{c x y:Operand}(hx:InA F (ρ x))(hy:InA F (ρ y)):PIn F (Ow ρ c x y):=by
 unfold Ow;split
 .split
  .exact .lit
  .split
   .exact .lit
   .exact .okN hy
 .split
  .exact .lit
  .split
   .exact .okN hx
   .exact .lit
 .split
  .exact .okN hx
  .exact .okN hy
 .exact .none
def Xz{v:AV}{cs:List AV}(hv:InA F v)(h:Ga v=I cs):∀c∈cs,In1 F c:=by
 cases v with
 | un=>cases h
 | gd=>cases h
 | tup=>cases h
 | arr=>cases h
 | agg cs=>cases h;exact hv
 | lit v=>cases v<;>first|(cases h;done)|(cases h;intro c hc;simp at hc;subst hc;trivial)
 | _=>cases h;intro c hc;simp at hc;subst hc;exact hv
def aEy{t:TypeId}{zs:List AV}(h:Ha P t=I zs):∀c∈zs,In1 F c:=by
 obtain⟨i,_,h⟩:=Ag.1 h;obtain⟨z,_,h⟩:=Ag.1 h;split at h
 .cases h;intro c hc;obtain⟨v,_,rfl⟩:=C0.1 hc;trivial
 .cases h
def ky{cs ys:List AV}{o:Nat}(hc:∀c∈cs,In1 F c)(hy:∀c∈ys,In1 F c):∀c∈H5 cs o ys,In1 F c:=by
 intro c h;unfold H5 at h;simp only[BN]at h;obtain(h|h)|h:=h
 .exact hc c (HI h)
 .exact hy c h
 .exact hc c<|Iz h
def aEm{t:TypeId}:∀(l:List (Nat×Operand)) (cs:List AV) {r:List AV},(∀p∈l,InA F<|ρ p.2)->(∀c∈cs,In1 F c)->I7 P ρ t l cs=I r->∀c∈r,In1 F c
 | [],cs,r,_,hc,h=>by cases h;exact hc
 | (i,x)::l,cs,r,hl,hc,h=>by
  obtain⟨f,_,h⟩:=Ag.1 h;obtain⟨ys,h2,h⟩:=Ag.1 h;split at h
  .exact aEm l _ (λp hp=>hl p<|Ah _ hp) (ky hc<|Xz (hl _<|Ao) h2) h
  .cases h
def aEl{t:TypeId}:∀(l:List (Nat×Operand)) (cs:List AV),(∀p∈l,ρ' p.2=ρ p.2)->I7 P ρ' t l cs=I7 P ρ t l cs
 | [],cs,_=>rfl
 | (i,x)::l,cs,hl=>by
  have ih:∀cs,I7 P ρ' t l cs=I7 P ρ t l cs:=λcs=>aEl l cs λp hp=>hl p<|Ah _ hp;have h1:ρ' x=ρ x:=hl (i,x)<|Ao;simp only[I7,h1,ih]
def aEY:∀(l:List (Nat×Operand)) (n:Nat),(∀p∈l,ρ' p.2=ρ p.2)->I6 ρ' n l=I6 ρ n l
 | [],_,_=>rfl
 | (i,x)::l,n,hl=>by
  have ih:∀n,I6 ρ' n l=I6 ρ n l:=λn=>aEY l n λp hp=>hl p<|Ah _ hp;have h1:ρ' x=ρ x:=hl (i,x)<|Ao;simp only[I6,h1,ih]
def ass:∀(l:List (Nat×Operand)),(∀p∈l,ρ' p.2=ρ p.2)->L9 ρ' l=L9 ρ l:=λl hl=>by
 unfold L9
 induction l with
 | nil=>rfl
 | cons p l ih=>simp only[P6,hl p<|Ao,ih λq hq=>hl q<|Ah _ hq]
def atU(lo hi:Option AV)(v:AV):PIn F (Qa lo hi v):=by
 unfold Qa;split<;>first|exact .none|exact .bind λa _=> .nil<|.of1 trivial
def avz(hb:F 0)(s d:TypeId)(v:AV):PIn F (Is P s d v):=by
 unfold Is;split
 .exact .lit
 .exact .lit
 .split
  .exact .one (.of1 hb) trivial
  .exact .none
 .exact .none
def awu(t:TypeId)(i:Int)(v:AV):PIn F (RU P t i v):=by
 unfold RU;split
 .split
  .exact .nil (.of1 trivial)
  .exact .none
 .split
  .split
   .exact .bind λv hv=> .nil (QH (Td _ _) hv)
   .exact .none
  .exact .none
 .exact .none
def arG{t:TypeId}{i:Int}{v:AV}(hv:InA F v):PIn F (N6 P H t i v):=by
 unfold N6;split
 .split
  .split
   .exact .nil (.of1 trivial)
   .exact .none
  .exact .none
 .split
  .split
   .exact .nil (.of1 hv)
   .exact .none
  .exact .none
 .split
  .split
   .exact .nil (.of1 hv)
   .exact .none
  .exact .none
 .exact .none
def aGC(c:Call):PIn F (JO P ρ H c):=by
 unfold JO;split
 .split<;>first|exact .lit|exact .none|skip
  split<;>first|exact .lit|exact .none
 .split
  .split<;>first|exact .lit|exact .none
  .exact .none
 .split
  .split<;>first|exact .lit|exact .none
  .exact .none
 .exact .none
def aGB{c:Call}(hρ:∀x∈c.args.toList,ρ' x=ρ x)(hF:∀x∈c.args.toList,InA F<|ρ x)(hH:Agr F H H'):JO P ρ' H' c=JO P ρ H c:=by
 obtain⟨cal,⟨args⟩,⟨tys⟩⟩:=c;simp only at hρ hF;unfold JO;simp only;split
 .rename_i x t;rw[hρ x aG9];have hx:=hF x aG9;generalize ρ x=v at hx;generalize P.underlying t=u;obtain _|d:=u
  .rfl
  cases d<;>cases v<;>first|rfl|(simp only[hH _ hx];done)|(rename_i v;cases v<;>first|rfl|(rename_i a n c;cases a<;>cases n<;>cases c<;>rfl))
 .rename_i x y;rw[hρ x aG9,hρ y aG9]
 .rename_i x y;rw[hρ x aG9,hρ y aG9]
 .rfl
def aET{N:Nat->Prop}{op:Op}(hF:∀x∈op.operands,InA F<|ρ x)(hN:mov op=Y\/ ∀x∈op.operands,InA N<|ρ x)(hH:∀id ob,N id->H id=I ob->Ey F ob)(hb:F b):PIn F (CI P kd ρ H b op):=by
 cases op<;>simp only[CI]<;>try (exact .none)
 case move x=>exact .okN<|hF x<|by simp[BY]
 case assign x=>exact .okN<|hF x<|by simp[BY]
 case pick c x y=>exact aug (hF x<|by simp[BY])<|hF y<|by simp[BY]
 case alloc t=>
  split
  .refine .bind λk hk=> .bind λzs hz=> ?_;split
   .exact .one (.of1 hb) trivial
   .exact .none
  .exact .bind λzs hz=> .one (.of1 hb)<|aEy hz
 case box t x=>exact .bind λcs hc=> .one (.of1 hb)<|Xz (hF x<|by simp[BY]) hc
 case build t ps=>
  refine .bind λzs hz=> ?_;split
  .split
   .refine .bind λcs hc=> .okA<|.of2 ?_;refine aEm _ _ (λp hp=>hF p.2 ?_) (aEy hz) hc;simp only[BY,Tr,C0];exact⟨p,hp,rfl⟩
   .exact .none
  .exact .none
 case buildSlice t n ps=>
  refine .bind λe _=> .bind λk _=> .bind λvs _=> .bind λxs _=> ?_;split
  .exact .one (.of1 hb) trivial
  .exact .none
 case load t p=>
  exact .bind λv hv=> .okA<|avk (hN.resolve_left (by simp[mov]) p<|by simp[BY]) hH hv
 case nilCheck p=>
  have hp:=hF p (by simp[BY]);split<;>first|exact .none|(rename_i e;rw[e]at hp;exact .okA hp)
 case binOp=>exact axQ _ _ _ _
 case unOp=>exact axN _ _
 case convert src dst x=>
  split
  .split
   .exact .bind λv hv=> .lit
   .exact .none
  .split
   .rename_i c id os h;intro q v os' e;cases e;have:=avz (F:=λ_=>True) trivial src dst (ρ x) _ _ _ h;refine⟨.of1 hb,this.2.1,λob ho=> ?_⟩;unfold Is at h;split at h<;>first|(cases h;done)|skip
    split at h
    .cases h;simp at ho;subst ho;trivial
    .cases h
   .rename_i h;intro q v os e;unfold Is at e;split at e
    .cases e;exact⟨.of1 trivial,by simp,by simp⟩
    .cases e;exact⟨.of1 trivial,by simp,by simp⟩
    .split at e
     .cases e;exact(h _ 0 _ (by simp only[Is, *];rfl)).elim
     .cases e
    .cases e
 case makeSlice t l c=>
  split
  .refine .bind λe _=> .bind λk _=> ?_;split
   .exact .one (.of1 hb) trivial
   .exact .none
  .split
   .refine .bind λe _=> .bind λk _=> ?_;split
    .exact .one (.of1 hb) trivial
    .exact .none
   .exact .none
  .exact .none
 case slice t x lo hi mx=>
  cases mx with
  | some m=>exact .none
  | none=>
   simp only;split
   .exact atU _ _ _
   .exact .none
 case fieldAddr t x f=>
  have hx:=hF x (by simp[BY]);refine .bind λfd _=> ?_;split
  .split
   .rename_i e;rw[e]at hx;exact .okA (.of1 hx)
   .exact .okA (.of1 trivial)
   .exact .none
  .exact .none
 case field t x f=>
  have hx:=hF x (by simp[BY]);refine .bind λfd _=> ?_;split
  .rename_i cs e;rw[e]at hx;exact .bind λv hv=> .okA (QH hx hv)
  .exact .none
 case indexAddr t x ix=>
  have hx:=hF x (by simp[BY]);split
  .exact arG hx
  .exact .none
 case index t x ix=>
  split
  .exact awu _ _ _
  .exact .none
 case extract x i=>
  have hx:=hF x (by simp[BY]);split
  .rename_i vs e;rw[e]at hx;exact .bind λv hv=> .okA (.of2<|hx v<|Cp hv)
  .exact .none
 case call c=>exact aGC c
def YL{op:Op}(hρ:∀x∈op.operands,ρ' x=ρ x)(hF0:mov op=Y\/ ∀x∈op.operands,InA F<|ρ x)(hH:Agr F H H'):CI P kd ρ' H' b op=CI P kd ρ H b op:=by
 have one:∀ {x:Operand},x∈op.operands->ρ' x=ρ x:=λh=>hρ _ h;cases op<;>simp only[CI]
 case move x=>rw[hρ x<|by simp[BY]]
 case assign x=>rw[hρ x<|by simp[BY]]
 case pick c x y=>
  have h1:=hρ c (by simp[BY]);have h2:=hρ x (by simp[BY]);have h3:=hρ y (by simp[BY]);unfold Ow;rw[h1];split
  .simp only[h3]
  .simp only[h2]
  .simp only[h2,h3]
  .rfl
 case box t x=>rw[hρ x<|by simp[BY]]
 case build t ps=>
  have:∀zs,I7 P ρ' t ps.toList zs=I7 P ρ t ps.toList zs:=λzs=>aEl _ _ λp hp=>hρ p.2 (by
   simp only[BY,Tr,C0];exact⟨p,hp,rfl⟩)
  simp only[this]
 case buildSlice t n ps=>
  have:I6 ρ' 0 ps.toList=I6 ρ 0 ps.toList:=aEY _ _ λp hp=>hρ p.2 (by
   simp only[BY,Tr,C0];exact⟨p,hp,rfl⟩)
  simp only[this]
 case load t p=>
  have hF:=hF0.resolve_left (by simp[mov]);rw[hρ p<|by simp[BY],avj (hF p<|by simp[BY]) hH]
 case nilCheck p=>rw[hρ p<|by simp[BY]]
 case binOp o t x y t2=>rw[hρ x<|by simp[BY],hρ y<|by simp[BY]]
 case unOp o t x=>rw[hρ x<|by simp[BY]]
 case convert src dst x=>
  have hF:=hF0.resolve_left (by simp[mov]);rw[hρ x<|by simp[BY],nv (hF x<|by simp[BY]) hH]
 case makeSlice t l c=>rw[hρ l<|by simp[BY],hρ c<|by simp[BY]]
 case slice t x lo hi mx=>
  have hF:=hF0.resolve_left (by simp[mov]);cases mx with
  | some m=>rfl
  | none=>
   have h1:=hρ x (by simp[BY]);have h2:lo.map ρ'=lo.map ρ:=by cases lo with
    | none=>rfl
    | some l=>exact congrArg I<|hρ l<|by simp[BY]
   have h3:hi.map ρ'=hi.map ρ:=by cases hi with
    | none=>rfl
    | some l=>exact congrArg I<|hρ l<|by simp[BY]
   simp only;rw[h1,h2,h3,aBj (hF x<|by simp[BY]) hH]
 case fieldAddr t x f=>rw[hρ x<|by simp[BY]]
 case field t x f=>rw[hρ x<|by simp[BY]]
 case indexAddr t x ix=>
  have hF:=hF0.resolve_left (by simp[mov]);rw[hρ x<|by simp[BY],hρ ix<|by simp[BY]];split
  .rw[arF (hF x<|by simp[BY]) hH]
  .rfl
 case index t x ix=>rw[hρ x<|by simp[BY],hρ ix<|by simp[BY]]
 case extract x i=>rw[hρ x<|by simp[BY]]
 case call c=>
  have hF:=hF0.resolve_left (by simp[mov]);refine aGB (λx hx=>hρ x ?_) (λx hx=>hF x ?_) hH<;>
  .simp only[BY,NP,NN];exact .inr<|by simpa using hx
end
end Go.VS
namespace Go.VS
open Go
inductive Fk where
 | no
 | kl
 | fz (k:K) (xs:List (Tof k))
def Fk.f(id:Nat):Fk->AV->AV
 | .no=>λv=>v
 | .kl=>kl1 id
 | .fz k xs=>fz1 id k xs
structure Step where
 id:Nat
 fk:Fk
 ob:Option Ob
def S.app(s:S)(e:Step):S:=(s.map<|e.fk.f e.id).EI e.id e.ob
def Gt(F:Nat->Prop)(e:Step):Prop:=∀ob,e.ob=I ob->Ey F ob
def Loc{α:Type}(F W:Nat->Prop)(g:S->Option (α×S))(s:S)(x:α)(s':S):Prop:=
 ∃es:List Step,(∀e∈es,W e.id/\Gt F e)/\s'=es.foldl S.app s/\ ∀s2:S,Agr F s.H s2.H->g s2=I (x,es.foldl S.app s2)
section
variable {F W:Nat->Prop} {H H':Hp} {P:Program} {kd:TypeId->Option K} {s s' s2:S} {b:Nat}
def avi(v:AV):Fv (λv=>v) v=v:=by cases v<;>simp[Fv]
def aDw:(Fv λv=>v)=id:=funext avi
def avh(v:AV):GD (λv=>v) v=v:=by
 cases v<;>simp[GD,aDw]
 all_goals simp[Fv]
def awm(v:AV):Ew (λv=>v) v=v:=by
 cases v with
 | gd g w v=>simp[Ew,avh]
 | tup vs=>simp[Ew,GD,aDw]
 | _=>simp[Ew,GD,Fv]
def avg(o:Option Ob):CP (λv=>v) o=o:=by
 cases o with
 | none=>rfl
 | some o=>cases o<;>simp[CP]
def map_id(s:S):s.map (λv=>v)=s:=by
 cases s;simp[S.map,awm,avg]
def JJ(s:S)(id:Nat)(o:Option Ob):s.app ⟨id,.no,o⟩=s.EI id o:=by
 simp[S.app,Fk.f,map_id]
def LP(s:S)(e:Step)(j:Nat):(s.app e).H j=if j=e.id then e.ob else CP (e.fk.f e.id) (s.H j):=by
 show upd (λj=>CP (e.fk.f e.id)<|s.H j) e.id e.ob j=_;by_cases h:j=e.id
 .subst h;rw[Bi];simp
 .rw[BE _ _ h];simp[h]
def Agr.app(h:Agr F s.H s2.H)(e:Step):Agr F (s.app e).H (s2.app e).H:=λid hid=>by rw[LP,LP,h id hid]
def Agr.qB{es:List Step}(h:Agr F s.H s2.H):Agr F (es.foldl S.app s).H (es.foldl S.app s2).H:=by
 induction es generalizing s s2 with
 | nil=>exact h
 | cons e es ih=>exact ih<|h.app e
def Agr.refl(F:Nat->Prop)(H:Hp):Agr F H H:=λ_ _=>rfl
def Fk.bM(id:Nat)(fk:Fk){c:AV}(h:In1 F c):In1 F (fk.f id c):=by
 cases fk with
 | no=>exact h
 | kl=>
  show In1 F (kl1 id c);unfold kl1;split
  .split
   .trivial
   .exact h
  .split
   .trivial
   .exact h
  .exact h
 | fz k xs=>
  show In1 F (fz1 id k xs c);unfold fz1;split
  .split
   .trivial
   .exact h
  .split
   .trivial
   .exact h
  .exact h
def aGc{f:AV->AV}(hf:∀c,In1 F c->In1 F (f c)){o:Option Ob}(h:∀ob,o=I ob->Ey F ob):∀ob,CP f o=I ob->Ey F ob:=by
 intro ob e;cases o with
 | none=>cases e
 | some o=>
  have:=h o rfl;cases o with
  | box t cs=>
   cases e;intro c hc;obtain⟨c0,h0,rfl⟩:=C0.1 hc;exact hf _<|this c0 h0
  | _=>cases e;trivial
def DY.app{e:Step}(h:DY F s.H)(he:Gt F e):DY F (s.app e).H:=by
 intro j ob hj hob;rw[LP]at hob;split at hob
 .exact he ob hob
 .exact aGc (λc hc=>Fk.bM _ _ hc) (λob ho=>h j ob hj ho) ob hob
def aDS(s:S)(id:Nat):∃fk,s.freeze id=s.app ⟨id,fk,G⟩/\ ∀s2:S,s2.H id=s.H id->s2.freeze id=s2.app ⟨id,fk,G⟩:=by
 cases h:s.H id with
 | none=>exact⟨.kl,by simp only[S.freeze,h];rfl,λs2 h2=>by simp only[S.freeze,h2];rfl⟩
 | some ob=>
  cases ob with
  | row e fz k xs=>exact⟨.fz k xs,by simp only[S.freeze,h];rfl,λs2 h2=>by simp only[S.freeze,h2];rfl⟩
  | box e cs=>exact⟨.kl,by simp only[S.freeze,h];rfl,λs2 h2=>by simp only[S.freeze,h2];rfl⟩
  | arr e k xs=>exact⟨.kl,by simp only[S.freeze,h];rfl,λs2 h2=>by simp only[S.freeze,h2];rfl⟩
def Xc:∀(ids:List Nat) (s:S),(∀i∈ids,F i)->∃es:List Step,(∀e∈es,e.id∈ids/\e.ob=G)/\ids.foldl S.freeze s=es.foldl S.app s/\ ∀s2:S,Agr F s.H s2.H->ids.foldl S.freeze s2=es.foldl S.app s2
 | [],s,_=>⟨[],by simp,rfl,λ_ _=>rfl⟩
 | i::ids,s,hF=>by
  obtain⟨fk,h1,h2⟩:=aDS s i;obtain⟨es,h3,h4,h5⟩:=Xc ids (s.freeze i) λj hj=>hF j<|Ah _ hj;refine⟨⟨i,fk,G⟩::es,λe he=> ?_, ?_,λs2 hs=> ?_⟩
  .rcases Bj.1 he with rfl|he
   .exact⟨Ao,rfl⟩
   .exact⟨Ah _ (h3 e he).1,(h3 e he).2⟩
  .show ids.foldl S.freeze (s.freeze i)=es.foldl S.app (s.app ⟨i,fk,G⟩);rw[h4,h1]
  .have e1:=h2 s2<|hs i<|hF i Ao;simp only[Du,e1];refine h5 _ ?_;rw[h1];exact hs.app _
def aE0:∀(ids:List Nat) (s:S),∃es:List Step,(∀e∈es,e.id∈ids/\e.ob=G)/\ids.foldl S.kill s=es.foldl S.app s/\ ∀s2:S,ids.foldl S.kill s2=es.foldl S.app s2
 | [],s=>⟨[],by simp,rfl,λ_=>rfl⟩
 | i::ids,s=>by
  obtain⟨es,h3,h4,h5⟩:=aE0 ids<|s.kill i;refine⟨⟨i,.kl,G⟩::es,λe he=> ?_, ?_,λs2=> ?_⟩
  .rcases Bj.1 he with rfl|he
   .exact⟨Ao,rfl⟩
   .exact⟨Ah _ (h3 e he).1,(h3 e he).2⟩
  .exact h4
  .exact h5 _
def ayB{k:K}{cs:List AV}(hc:∀c∈cs,In1 F c)(hH:Agr F H H'):dec H' k cs=dec H k cs:=by
 have key:∀c∈cs,∀k,CJ H' k c=CJ H k c:=λc hm k=>nv (.of1<|hc c hm) hH;unfold dec;split<;>first|rfl|simp[key]
def Loc.mk1{α:Type}{g:S->Option (α×S)}{x:α}(e:Step)(hW:W e.id)(ho:Gt F e)(h1:s'=s.app e)(h:∀s2:S,Agr F s.H s2.H->g s2=I (x,s2.app e)):Loc F W g s x s':=
 ⟨[e],λe' he=>by simp at he;subst he;exact⟨hW,ho⟩,h1,h⟩
def aae{ys:List AV}(hy:∀c∈ys,In1 F c):∀i∈ys.filterMap H6,F i:=by
 intro i hi;obtain⟨c,h1,h2⟩:=GO.1 hi;have:=hy c h1;cases c<;>first|(cases h2;done)|(cases h2;exact this)
def asM{t:TypeId}{x y:AV}(hx:InA F x)(hy:InA F y)(hcl:DY F s.H)(h:Ik P t s x y=I s'):Loc F (λi=>i∈Om s.H x y) (λs=>(Ik P t s x y).map λs=>((),s)) s () s':=by
 cases x<;>first|(cases h;done)|skip
 rename_i id z i o;have hid:F id:=hx;simp only[Ik]at h;split at h
 .rename_i e cs hob;split at h
  .obtain⟨ys,hc,h⟩:=Ag.1 h;split at h
   .rename_i hg;cases h;refine .mk1 ⟨id,.no,I<|.box e<|H5 cs o ys⟩ (by simp[Om,hob]) ?_ (JJ _ _ _).symm λs2 h2=> ?_
    .intro ob e';cases e';exact ky (hcl id _ hid hob) (Xz hy hc)
    .rw[JJ];simp only[Ik,h2 id hid,hob,hc,A6,hg];rfl
   .cases h
  .cases h
 .rename_i e fz k xs hob;obtain⟨ys,hc,h⟩:=Ag.1 h;split at h
  .rename_i hg;obtain⟨v,hd,h⟩:=Ag.1 h;cases h;have hys:=Xz hy hc;obtain⟨es,h3,h4,h5⟩:=Xc (F:=F) (ys.filterMap H6) s<|aae hys;refine⟨es++[⟨id,.no,I<|.row e fz k<|xs.set i v⟩],λe' he=> ?_, ?_,λs2 h2=> ?_⟩
   .have hsw:Om s.H (.ptr id z i o) y=id::ys.filterMap H6:=by simp[Om,hob,hc]
    rw[hsw];obtain he|he:=BN.1 he
    .exact⟨Ah _ (h3 e' he).1,λob eo=>by rw[(h3 e' he).2]at eo;cases eo⟩
    .simp at he;subst he;exact⟨Ao,λob eo=>by cases eo;trivial⟩
   .rw[Fg,← h4];exact(JJ _ _ _).symm
   .rw[Fg,← h5 s2 h2];have hd2:dec s2.H k (H5 (enc k<|xs.getD i<|dfl k) o ys)=I v:=by
     rw[ayB (ky (Td _ _) hys) h2];exact hd
    simp only[Ik,h2 id hid,hob,hc,A6,hg,hd2,Du,KK,JJ];rfl
  .cases h
 .rename_i e k xs hob;obtain⟨ys,hc,h⟩:=Ag.1 h;split at h
  .rename_i hg;obtain⟨v,hd,h⟩:=Ag.1 h;cases h;refine .mk1 ⟨id,.no,I<|.arr e k<|xs.set i v⟩ (by simp[Om,hob]) (λob e'=>by cases e';trivial) (JJ _ _ _).symm λs2 h2=> ?_;rw[JJ];simp only[Ik,h2 id hid,hob,hc,A6,hg,hd];rfl
  .cases h
 .cases h
def asI{t t2:TypeId}{x y v:AV}{q:Bool}(hx:InA F x)(hy:InA F y)(hb:F b)(h:L6 P kd t t2 s b x y=I (q,v,s')):
  Loc F (λi=>i=b\/i∈KC x) (λs=>(L6 P kd t t2 s b x y).map λr=>((r.1,r.2.1),r.2.2)) s (q,v) s'/\InA F v:=by
 unfold L6 at h;obtain⟨e,he,h1⟩:=Ag.1 h;obtain⟨k,hk,h2⟩:=Ag.1 h1;obtain⟨ys,hys,h3⟩:=Ag.1 h2;clear h h1 h2;revert h3;intro h;split at h
 .rename_i hg;cases h;refine⟨.mk1 ⟨b,.no,I<|.row e A0 k ys⟩ (.inl rfl) (λob e'=>by cases e';trivial) (JJ _ _ _).symm λs2 h2=> ?_,.of1 hb⟩;rw[JJ];simp only[L6,he,hk,A6,nZ hy h2,hys,hg];rfl
 .rename_i id hg;have hid:F id:=hx;split at h
  .rename_i e' k' xs hob hne;split at h
   .rename_i hee;obtain⟨zs,hz,h⟩:=Ag.1 h;cases h;refine⟨.mk1 ⟨id,.kl,I<|.row e A0 k<|zs++ys⟩ (.inr<|by simp[KC,H6]) (λob e'=>by cases e';trivial) rfl λs2 h2=> ?_,.of1 hid⟩;simp only[L6,he,hk,A6,nZ hy h2,hys,hg,h2 id hid,hob,hne,hee,hz];rfl
   .cases h
  .cases h
 .cases h
def avy{t:TypeId}{x y v:AV}(hx:InA F x)(hy:InA F y)(h:LD P t s x y=I (v,s')):
  Loc F (λi=>i∈KC x) (λs=>LD P t s x y) s v s'/\InA F v:=by
 unfold LD at h;split at h
 .rename_i id;have hid:F id:=hx;split at h
  .rename_i e fz k xs hob hne;obtain⟨e',he,h⟩:=Ag.1 h;split at h
   .rename_i hg;obtain⟨ys,hys,h⟩:=Ag.1 h;cases h;refine⟨.mk1 ⟨id,.no,I<|.row e fz k<|ys.take xs.length++xs.drop ys.length⟩ (by simp[KC,H6]) (λob e'=>by cases e';trivial) (JJ _ _ _).symm λs2 h2=> ?_,.of1 trivial⟩;rw[JJ];simp only[LD,h2 id hid,hob,hne,he,A6,hg,nZ hy h2,hys]
   .cases h
  .cases h
 .cases h
def aqR{id:Nat}{z:Bool}{lo hi:Option AV}{v:AV}{q:Bool}(hid:F id)(h:Ky s id z lo hi=I (q,v,s')):
  Loc F (λi=>i=id) (λs=>(Ky s id z lo hi).map λr=>((r.1,r.2.1),r.2.2)) s (q,v) s'/\InA F v:=by
 unfold Ky at h;split at h
 .rename_i e fz k xs hob;obtain⟨⟨c,l,hh⟩,hc,h⟩:=Ag.1 h;simp only at h;split at h
  .cases h;refine⟨.mk1 ⟨id,.kl,I<|.row e fz k<|Ix lo G l hh xs⟩ rfl (λob e'=>by cases e';trivial) rfl λs2 h2=> ?_,.of1 hid⟩;simp only[Ky,h2 id hid,hob,hc,A6];rfl
  .cases h
  .cases h;obtain⟨fk,h1,h2⟩:=aDS s id;refine⟨.mk1 ⟨id,fk,G⟩ rfl (λob e'=>by cases e') h1 λs2 h3=> ?_,.of1 trivial⟩;rw[← h2 s2<|h3 id hid];simp only[Ky,h3 id hid,hob,hc,A6];rfl
 .cases h
end
end Go.VS
namespace Go.VS
open Go
abbrev EU(es:List (Nat×Ob))(H:Hp):Hp:=es.foldl (λH p=>upd H p.1<|I p.2) H
section
variable {F W:Nat->Prop} {H H':Hp} {P:Program} {s s' s2:S} {b:Nat} {E:Nat->AV}
set_option linter.unusedSectionVars false
def InA.J7{cs:List AV}(h:∀c∈cs,In1 F c):∀c∈cs,InA F c:=λc hc=> .of1<|h c hc
section eqs
variable (hH:Agr F H H') (hC:DY F H)
include hH hC
mutual
theorem axE:∀(h:Sh) (v:AV),InA F v->Bs E H' h v=Bs E H h v
 | .int _,v,_=>by cases v with
  | lit v=>cases v<;>rfl
  | _=>rfl
 | .bool,v,_=>by cases v with
  | lit v=>cases v<;>rfl
  | _=>rfl
 | .str,v,_=>by cases v with
  | lit v=>cases v<;>rfl
  | _=>rfl
 | .sl _,v,_=>by
  cases v with
  | lit v=>cases v with
   | slice a n c=>cases a<;>cases n<;>cases c<;>rfl
   | _=>rfl
  | _=>rfl
 | .arr _,v,_=>by cases v<;>rfl
 | .same _,v,_=>by
  cases v with
  | ptr id z i o=>cases i<;>cases o<;>rfl
  | _=>rfl
 | .fz k,v,hv=>nv hv hH
 | .row e k,v,hv=>by
  cases v with
  | own id=>simp only[Bs,hH id hv]
  | lit v=>cases v with
   | slice a n c=>cases a<;>cases n<;>cases c<;>rfl
   | _=>rfl
  | _=>rfl
 | .Cj e k,v,hv=>by
  cases v with
  | own id=>simp only[Bs,hH id hv]
  | _=>rfl
 | .abx e k,v,hv=>by
  cases v with
  | ptr id z i o=>cases i<;>cases o<;>first|rfl|simp only[Bs,hH id hv]
  | _=>rfl
 | .agg l,v,hv=>by
  cases v with
  | agg cs=>exact TK l cs<|InA.J7 hv
  | _=>rfl
 | .box e l,v,hv=>by
  cases v with
  | ptr id z i o=>
   cases i<;>cases o<;>first|rfl|skip
   simp only[Bs,hH id hv];cases ho:H id with
   | none=>rfl
   | some ob=>
    cases ob with
    | box e' cs=>
     have:=TK l cs<|InA.J7<|hC id _ hv ho;simp only[this]
    | _=>rfl
  | _=>rfl
theorem TK:∀(l:List Sh) (cs:List AV),(∀c∈cs,InA F c)->GC E H' l cs=GC E H l cs
 | [],[],_=>rfl
 | [],_::_,_=>rfl
 | _::_,[],_=>rfl
 | h::l,c::cs,hv=>by
  simp only[GC,axE h c<|hv c Ao,TK l cs λd hd=>hv d<|Ah _ hd]
end
mutual
theorem awO:∀(h:Sh) (v:AV),InA F v->Cg H' h v=Cg H h v
 | .int _,_,_=>rfl
 | .bool,_,_=>rfl
 | .str,_,_=>rfl
 | .sl _,_,_=>rfl
 | .arr _,_,_=>rfl
 | .same _,_,_=>rfl
 | .fz k,_,_=>rfl
 | .row e k,v,_=>by cases v<;>rfl
 | .Cj e k,v,_=>by cases v<;>rfl
 | .abx e k,v,_=>by
  cases v with
  | ptr id z i o=>cases i<;>cases o<;>rfl
  | _=>rfl
 | .agg l,v,hv=>by
  cases v with
  | agg cs=>exact TD l cs<|InA.J7 hv
  | _=>rfl
 | .box e l,v,hv=>by
  cases v with
  | ptr id z i o=>
   cases i<;>cases o<;>first|rfl|skip
   simp only[Cg,hH id hv];cases ho:H id with
   | none=>rfl
   | some ob=>
    cases ob with
    | box e' cs=>
     have:=TD l cs<|InA.J7<|hC id _ hv ho;simp only[this]
    | _=>rfl
  | _=>rfl
theorem TD:∀(l:List Sh) (cs:List AV),(∀c∈cs,InA F c)->Bo H' l cs=Bo H l cs
 | [],_,_=>by simp only[Bo]
 | _::_,[],_=>by simp only[Bo]
 | h::l,c::cs,hv=>by
  simp only[Bo,awO h c<|hv c Ao,TD l cs λd hd=>hv d<|Ah _ hd]
end
mutual
theorem axB:∀(h:Sh) (v:AV),InA F v->CK H' h v=CK H h v
 | .int _,_,_=>rfl
 | .bool,_,_=>rfl
 | .str,_,_=>rfl
 | .sl _,_,_=>rfl
 | .arr _,_,_=>rfl
 | .same _,_,_=>rfl
 | .fz k,_,_=>rfl
 | .row e k,v,_=>by cases v<;>rfl
 | .Cj e k,v,_=>by cases v<;>rfl
 | .abx e k,v,_=>by
  cases v with
  | ptr id z i o=>cases i<;>cases o<;>rfl
  | _=>rfl
 | .agg l,v,hv=>by
  cases v with
  | agg cs=>exact TJ l cs<|InA.J7 hv
  | _=>rfl
 | .box e l,v,hv=>by
  cases v with
  | ptr id z i o=>
   cases i<;>cases o<;>first|rfl|skip
   simp only[CK,hH id hv];cases ho:H id with
   | none=>rfl
   | some ob=>
    cases ob with
    | box e' cs=>
     have:=TJ l cs<|InA.J7<|hC id _ hv ho;simp only[this]
    | _=>rfl
  | _=>rfl
theorem TJ:∀(l:List Sh) (cs:List AV),(∀c∈cs,InA F c)->Ce H' l cs=Ce H l cs
 | [],_,_=>by simp only[Ce]
 | _::_,[],_=>by simp only[Ce]
 | h::l,c::cs,hv=>by
  simp only[Ce,axB h c<|hv c Ao,TJ l cs λd hd=>hv d<|Ah _ hd]
end
mutual
theorem awS:∀(h:Sh) (v:AV),InA F v->Cr H' h v=Cr H h v
 | .int _,_,_=>rfl
 | .bool,_,_=>rfl
 | .str,_,_=>rfl
 | .sl _,_,_=>rfl
 | .arr _,_,_=>rfl
 | .same _,_,_=>rfl
 | .fz k,v,_=>by cases v<;>rfl
 | .row e k,_,_=>rfl
 | .Cj e k,_,_=>rfl
 | .abx e k,_,_=>rfl
 | .agg l,v,hv=>by
  cases v with
  | agg cs=>exact Yz l cs<|InA.J7 hv
  | _=>rfl
 | .box e l,v,hv=>by
  cases v with
  | ptr id z i o=>
   cases i<;>cases o<;>first|rfl|skip
   simp only[Cr,hH id hv];cases ho:H id with
   | none=>rfl
   | some ob=>
    cases ob with
    | box e' cs=>
     have:=Yz l cs<|InA.J7<|hC id _ hv ho;simp only[this]
    | _=>rfl
  | _=>rfl
theorem Yz:∀(l:List Sh) (cs:List AV),(∀c∈cs,InA F c)->Cv H' l cs=Cv H l cs
 | [],_,_=>by simp only[Cv]
 | _::_,[],_=>by simp only[Cv]
 | h::l,c::cs,hv=>by
  simp only[Cv,awS h c<|hv c Ao,Yz l cs λd hd=>hv d<|Ah _ hd]
end
end eqs
section mem
variable (hC:DY F H)
include hC
mutual
theorem axC:∀(h:Sh) (v:AV),InA F v->∀i∈CK H h v,F i
 | .int _,_,_,_,hi=>by simp[CK]at hi
 | .bool,_,_,_,hi=>by simp[CK]at hi
 | .str,_,_,_,hi=>by simp[CK]at hi
 | .sl _,_,_,_,hi=>by simp[CK]at hi
 | .arr _,_,_,_,hi=>by simp[CK]at hi
 | .same _,_,_,_,hi=>by simp[CK]at hi
 | .fz k,_,_,_,hi=>by simp[CK]at hi
 | .row e k,v,hv,i,hi=>by
  cases v<;>simp[CK]at hi;subst hi;exact hv
 | .Cj e k,v,hv,i,hi=>by
  cases v<;>simp[CK]at hi;subst hi;exact hv
 | .abx e k,v,hv,j,hi=>by
  cases v with
  | ptr id z i o=>
   cases i<;>cases o<;>simp[CK]at hi;subst hi;exact hv
  | _=>simp[CK]at hi
 | .agg l,v,hv,j,hi=>by
  cases v with
  | agg cs=>exact YX l cs (InA.J7 hv) j<|by simpa[CK] using hi
  | _=>simp[CK]at hi
 | .box e l,v,hv,j,hi=>by
  cases v with
  | ptr id z i o=>
   cases i<;>cases o<;>simp only[CK]at hi<;>first|(simp at hi;done)|skip
   cases ho:H id with
   | none=>simp[ho]at hi
   | some ob=>
    cases ob with
    | box e' cs=>
     simp only[ho]at hi;exact YX l cs (InA.J7<|hC id _ hv ho) j hi
    | _=>simp[ho]at hi
  | _=>simp[CK]at hi
theorem YX:∀(l:List Sh) (cs:List AV),(∀c∈cs,InA F c)->∀i∈Ce H l cs,F i
 | [],cs,_,i,hi=>by simp[Ce]at hi
 | _::_,[],_,i,hi=>by simp[Ce]at hi
 | h::l,c::cs,hv,i,hi=>by
  simp only[Ce,BN]at hi;obtain hi|hi:=hi
  .exact axC h c (hv c Ao) i hi
  .exact YX l cs (λd hd=>hv d<|Ah _ hd) i hi
end
mutual
theorem awT:∀(h:Sh) (v:AV),InA F v->∀i∈Cr H h v,F i
 | .int _,_,_,_,hi=>by simp[Cr]at hi
 | .bool,_,_,_,hi=>by simp[Cr]at hi
 | .str,_,_,_,hi=>by simp[Cr]at hi
 | .sl _,_,_,_,hi=>by simp[Cr]at hi
 | .arr _,_,_,_,hi=>by simp[Cr]at hi
 | .same _,_,_,_,hi=>by simp[Cr]at hi
 | .row e k,_,_,_,hi=>by simp[Cr]at hi
 | .Cj e k,_,_,_,hi=>by simp[Cr]at hi
 | .abx e k,_,_,_,hi=>by simp[Cr]at hi
 | .fz k,v,hv,i,hi=>by
  cases v<;>simp[Cr]at hi;subst hi;exact hv
 | .agg l,v,hv,j,hi=>by
  cases v with
  | agg cs=>exact TE l cs (InA.J7 hv) j<|by simpa[Cr] using hi
  | _=>simp[Cr]at hi
 | .box e l,v,hv,j,hi=>by
  cases v with
  | ptr id z i o=>
   cases i<;>cases o<;>simp only[Cr]at hi<;>first|(simp at hi;done)|skip
   cases ho:H id with
   | none=>simp[ho]at hi
   | some ob=>
    cases ob with
    | box e' cs=>
     simp only[ho]at hi;exact TE l cs (InA.J7<|hC id _ hv ho) j hi
    | _=>simp[ho]at hi
  | _=>simp[Cr]at hi
theorem TE:∀(l:List Sh) (cs:List AV),(∀c∈cs,InA F c)->∀i∈Cv H l cs,F i
 | [],cs,_,i,hi=>by simp[Cv]at hi
 | _::_,[],_,i,hi=>by simp[Cv]at hi
 | h::l,c::cs,hv,i,hi=>by
  simp only[Cv,BN]at hi;obtain hi|hi:=hi
  .exact awT h c (hv c Ao) i hi
  .exact TE l cs (λd hd=>hv d<|Ah _ hd) i hi
end
end mem
mutual
theorem EM (E:Nat->AV):∀(h:Sh) (H:Hp) (b:Nat) (x:LT h),b<=(BL E H b h x).2.2
 | .int _,_,b,_=>Ar b
 | .bool,_,b,_=>Ar b
 | .str,_,b,_=>Ar b
 | .sl _,_,b,_=>Ar b
 | .arr _,_,b,_=>Ar b
 | .same _,_,b,_=>Ar b
 | .fz _,_,b,_=>Ar b
 | .row _ _,_,b,_=>mq b
 | .Cj _ _,_,b,_=>mq b
 | .abx _ _,_,b,_=>mq b
 | .agg l,H,b,x=>by
  have:=JG E l H b x;show b<=((match Aj E H b l x with|(cs,H,b)=>(AV.agg cs,H,b)):AV×Hp×Nat).2.2;generalize Aj E H b l x=r at *;obtain⟨cs,H',b'⟩:=r;exact this
 | .box e l,H,b,x=>by
  have:=JG E l H b x;show b<=((match Aj E H b l x with|(cs,H,b)=>(AV.ptr b cs.length 0 0,upd H b<|I<|.box e cs,b+1)):AV×Hp×Nat).2.2;generalize Aj E H b l x=r at *;obtain⟨cs,H',b'⟩:=r;exact Nat.le_succ_of_le this
theorem JG (E:Nat->AV):∀(l:List Sh) (H:Hp) (b:Nat) (x:LTs l),b<=(Aj E H b l x).2.2
 | [],_,b,_=>Ar b
 | h::l,H,b,x=>by
  have h1:=EM E h H b x.1;show b<=((match BL E H b h x.1 with|(c,H,b)=>match Aj E H b l x.2 with|(cs,H,b)=>(c::cs,H,b)):List AV×Hp×Nat).2.2;generalize BL E H b h x.1=r at *;obtain⟨c,H',b'⟩:=r;have h2:=JG E l H' b' x.2;show b<=((match Aj E H' b' l x.2 with|(cs,H,b)=>(c::cs,H,b)):List AV×Hp×Nat).2.2;generalize Aj E H' b' l x.2=r at *;obtain⟨cs,H'',b''⟩:=r;exact C6 h1 h2
end
mutual
theorem lx (E:Nat->AV) (H H':Hp):∀(h:Sh) (b:Nat) (x:LT h),(BL E H b h x).1=(BL E H' b h x).1/\(BL E H b h x).2.2=(BL E H' b h x).2.2
 | .int _,_,_=>⟨rfl,rfl⟩
 | .bool,_,_=>⟨rfl,rfl⟩
 | .str,_,_=>⟨rfl,rfl⟩
 | .sl _,_,_=>⟨rfl,rfl⟩
 | .arr _,_,_=>⟨rfl,rfl⟩
 | .same _,_,_=>⟨rfl,rfl⟩
 | .fz _,_,_=>⟨rfl,rfl⟩
 | .row _ _,_,_=>⟨rfl,rfl⟩
 | .Cj _ _,_,_=>⟨rfl,rfl⟩
 | .abx _ _,_,_=>⟨rfl,rfl⟩
 | .agg l,b,x=>by
  have:=Q7 E H H' l b x;have un:∀H,BL E H b (.agg l) x=(match Aj E H b l x with|(cs,H,b)=>(AV.agg cs,H,b)):=λ_=>rfl;rw[un,un];generalize Aj E H b l x=r at *;generalize Aj E H' b l x=r' at *;obtain⟨cs,H1,b1⟩:=r;obtain⟨cs',H1',b1'⟩:=r';obtain⟨rfl,rfl⟩:=this;exact⟨rfl,rfl⟩
 | .box e l,b,x=>by
  have:=Q7 E H H' l b x;have un:∀H,BL E H b (.box e l) x=(match Aj E H b l x with|(cs,H,b)=>(AV.ptr b cs.length 0 0,upd H b<|I<|.box e cs,b+1)):=λ_=>rfl;rw[un,un];generalize Aj E H b l x=r at *;generalize Aj E H' b l x=r' at *;obtain⟨cs,H1,b1⟩:=r;obtain⟨cs',H1',b1'⟩:=r';obtain⟨rfl,rfl⟩:=this;exact⟨rfl,rfl⟩
theorem Q7 (E:Nat->AV) (H H':Hp):∀(l:List Sh) (b:Nat) (x:LTs l),(Aj E H b l x).1=(Aj E H' b l x).1/\(Aj E H b l x).2.2=(Aj E H' b l x).2.2
 | [],_,_=>⟨rfl,rfl⟩
 | h::l,b,x=>by
  have h1:=lx E H H' h b x.1;have un:∀H,Aj E H b (h::l) x=(match BL E H b h x.1 with|(c,H,b)=>match Aj E H b l x.2 with|(cs,H,b)=>(c::cs,H,b)):=λ_=>rfl;rw[un,un];generalize BL E H b h x.1=r at *;generalize BL E H' b h x.1=r' at *;obtain⟨c,H1,b1⟩:=r;obtain⟨c',H1',b1'⟩:=r';obtain⟨rfl,rfl⟩:=h1;have h2:=Q7 E H1 H1' l b1 x.2;simp only;generalize Aj E H1 b1 l x.2=r at *;generalize Aj E H1' b1 l x.2=r' at *;obtain⟨cs,H2,b2⟩:=r;obtain⟨cs',H2',b2'⟩:=r';obtain⟨rfl,rfl⟩:=h2;exact⟨rfl,rfl⟩
end
mutual
theorem Yt (E:Nat->AV):∀(h:Sh) (b:Nat) (x:LT h) (L:Nat),Dl h=Y->(∀j,b<=j->j<L->F j/\W j)->(∀H,(BL E H b h x).2.2<=L)->
  ∃v es b',In1 F v/\(∀p∈es,W p.1/\Ey F p.2)/\ ∀H,BL E H b h x=(v,EU es H,b')
 | .int k,b,x,_,_,_,_=>⟨.lit<|.int k x,[],b,trivial,by simp,λ_=>rfl⟩
 | .bool,b,x,_,_,_,_=>⟨.b x,[],b,trivial,by simp,λ_=>rfl⟩
 | .str,b,x,_,_,_,_=>⟨.s x,[],b,trivial,by simp,λ_=>rfl⟩
 | .sl k,b,x,_,_,_,_=>⟨.sl k x,[],b,trivial,by simp,λ_=>rfl⟩
 | .arr _,_,_,_,h,_,_=>by simp[Dl]at h
 | .same _,_,_,_,h,_,_=>by simp[Dl]at h
 | .fz k,b,x,_,_,_,_=>⟨.sl k x,[],b,trivial,by simp,λ_=>rfl⟩
 | .row e k,b,x,L,_,hF,hL=>⟨.own b,[(b,.row e A0 k x)],b+1,(hF b (Ar b)<|hL λ_=>G).1,λp hp=>by
   simp at hp;subst hp;exact⟨(hF b (Ar b)<|hL λ_=>G).2,trivial⟩,λ_=>rfl⟩
 | .Cj e k,b,x,L,_,hF,hL=>⟨.own b,[(b,.row e Y k x)],b+1,(hF b (Ar b)<|hL λ_=>G).1,λp hp=>by
   simp at hp;subst hp;exact⟨(hF b (Ar b)<|hL λ_=>G).2,trivial⟩,λ_=>rfl⟩
 | .abx e k,b,x,L,_,hF,hL=>⟨.ptr b (ks k) 0 0,[(b,.arr e k x)],b+1,(hF b (Ar b)<|hL λ_=>G).1,λp hp=>by
   simp at hp;subst hp;exact⟨(hF b (Ar b)<|hL λ_=>G).2,trivial⟩,λ_=>rfl⟩
 | .agg _,_,_,_,h,_,_=>by simp[Dl]at h
 | .box e l,b,x,L,h,hF,hL=>by
  have un:∀H,BL E H b (.box e l) x=(match Aj E H b l x with|(cs,H,b)=>(AV.ptr b cs.length 0 0,upd H b<|I<|.box e cs,b+1)):=λ_=>rfl;have hL':∀H,(Aj E H b l x).2.2+1<=L:=λH=>by
   have:=hL H;rw[un]at this;generalize Aj E H b l x=r at *;exact this
  obtain⟨vs,es,b',h1,h2,h3⟩:=kt E l b x L (by simpa[Dl] using h) hF (λH=>Nat.le_of_succ_le<|hL' H);have hb':b'<L:=by have:=hL' λ_=>G;rw[h3]at this;exact this
  have hbb:b<=b':=by have:=JG E l (λ_=>G) b x;rw[h3]at this;exact this
  refine⟨.ptr b' vs.length 0 0,es++[(b',.box e vs)],b'+1,(hF b' hbb hb').1,λp hp=> ?_,λH=> ?_⟩
  .rcases BN.1 hp with hp|hp
   .exact h2 p hp
   .simp at hp;subst hp;exact⟨(hF b' hbb hb').2,h1⟩
  .rw[un,h3];simp[EU,Fg]
theorem kt (E:Nat->AV):∀(l:List Sh) (b:Nat) (x:LTs l) (L:Nat),I3 l=Y->(∀j,b<=j->j<L->F j/\W j)->(∀H,(Aj E H b l x).2.2<=L)->
  ∃vs es b',(∀v∈vs,In1 F v)/\(∀p∈es,W p.1/\Ey F p.2)/\ ∀H,Aj E H b l x=(vs,EU es H,b')
 | [],b,_,_,_,_,_=>⟨[],[],b,by simp,by simp,λ_=>rfl⟩
 | h::l,b,x,L,hl,hF,hL=>by
  simp only[I3,AE]at hl;have un:∀H,Aj E H b (h::l) x=(match BL E H b h x.1 with|(c,H,b)=>match Aj E H b l x.2 with|(cs,H,b)=>(c::cs,H,b)):=λ_=>rfl;have hL1:∀H,(BL E H b h x.1).2.2<=L:=λH=>by
   have:=hL H;rw[un]at this;generalize BL E H b h x.1=r at *;obtain⟨c,H',b'⟩:=r;have h2:=JG E l H' b' x.2;simp only at this;generalize Aj E H' b' l x.2=r at *;exact C6 h2 this
  obtain⟨v,es,b',h1,h2,h3⟩:=Yt E h b x.1 L hl.1 hF hL1;have hbb:b<=b':=by have:=EM E h (λ_=>G) b x.1;rw[h3]at this;exact this
  have hL2:∀H,(Aj E H b' l x.2).2.2<=L:=λH=>by
   have:=hL H;rw[un,h3]at this;simp only at this;rw[(Q7 E H (EU es H) l b' x.2).2];generalize Aj E (EU es H) b' l x.2=r at *;exact this
  obtain⟨vs,es',b'',h4,h5,h6⟩:=kt E l b' x.2 L hl.2 (λj h1 h2=>hF j (C6 hbb h1) h2) hL2;refine⟨v::vs,es++es',b'',λc hc=> ?_,λp hp=> ?_,λH=> ?_⟩
  .rcases Bj.1 hc with rfl|hc
   .exact h1
   .exact h4 c hc
  .rcases BN.1 hp with hp|hp
   .exact h2 p hp
   .exact h5 p hp
  .rw[un,h3];simp only[h6,EU,Fg]
end
def lL{E:Nat->AV}{H:Hp}{b:Nat}{h:Sh}{v:AV}{x:LT h}(hl:Dl h=Y)(hn:∀e l,h= .box e l->∀id z,v≠ .ptr id z 0 0):D3 E H b h v x=BL E H b h x:=by
 cases h<;>first|rfl|(simp[Dl]at hl;done)|skip
 rename_i e l;cases v<;>first|rfl|skip
 rename_i id z i o;cases i<;>cases o<;>first|rfl|exact absurd rfl (hn e l rfl id z)
mutual
theorem aaS (E:Nat->AV):∀(h:Sh) (H:Hp) (b:Nat) (v:AV) (x:LT h),Dl h=Y->b<=(D3 E H b h v x).2.2
 | .box e l,H,b,v,x,hl=>by
  by_cases hv:∃id z,v= .ptr id z 0 0
  .obtain⟨id,z,rfl⟩:=hv;have un:D3 E H b (.box e l) (.ptr id z 0 0) x=(match H id with
    | some (.box _ cs)=>(match BT E H b l cs x with|(ds,H,b)=>(AV.ptr id z 0 0,upd H id<|I<|.box e ds,b))
    | _=>(.un,H,b)):=rfl
   rw[un];cases H id with
   | none=>exact Ar b
   | some ob=>
    cases ob with
    | box e' cs=>
     have:=Yy E l H b cs x (by simpa[Dl] using hl);simp only;generalize BT E H b l cs x=r at *;obtain⟨ds,H',b'⟩:=r;exact this
    | _=>exact Ar b
  .rw[lL hl λ_ _ _ id z e=>hv ⟨id,z,e⟩];exact EM E _ H b x
 | .int _,H,b,v,x,hl=>EM E _ H b x
 | .bool,H,b,v,x,hl=>EM E _ H b x
 | .str,H,b,v,x,hl=>EM E _ H b x
 | .sl _,H,b,v,x,hl=>EM E _ H b x
 | .row _ _,H,b,v,x,hl=>EM E _ H b x
 | .fz _,H,b,v,x,hl=>EM E _ H b x
 | .Cj _ _,H,b,v,x,hl=>EM E _ H b x
 | .abx _ _,H,b,v,x,hl=>EM E _ H b x
 | .arr _,H,b,v,x,hl=>EM E _ H b x
 | .same _,_,_,_,_,hl=>by simp[Dl]at hl
 | .agg _,_,_,_,_,hl=>by simp[Dl]at hl
theorem Yy (E:Nat->AV):∀(l:List Sh) (H:Hp) (b:Nat) (cs:List AV) (x:LTs l),I3 l=Y->b<=(BT E H b l cs x).2.2
 | [],_,b,_,_,_=>Ar b
 | h::l,H,b,cs,x,hl=>by
  simp only[I3,AE]at hl;have h1:=aaS E h H b (cs.headD .un) x.1 hl.1;have un:BT E H b (h::l) cs x=(match D3 E H b h (cs.headD .un) x.1 with|(d,H,b)=>match BT E H b l cs.tail x.2 with|(ds,H,b)=>(d::ds,H,b)):=rfl;rw[un];generalize D3 E H b h (cs.headD .un) x.1=r at *;obtain⟨c,H',b'⟩:=r;have h2:=Yy E l H' b' cs.tail x.2 hl.2;simp only;generalize BT E H' b' l cs.tail x.2=r at *;obtain⟨cs,H'',b''⟩:=r;exact C6 h1 h2
end
def auX{es:List (Nat×Ob)}(h:Agr F H H'):Agr F (EU es H) (EU es H'):=by
 induction es generalizing H H' with
 | nil=>exact h
 | cons p es ih=>
  refine ih λid hid=> ?_;by_cases e:id=p.1
  .subst e;simp only[Bi]
  .simp only[BE _ _ e];exact h id hid
def aqz{es:List (Nat×Ob)}(h:DY F H)(he:∀p∈es,Ey F p.2):DY F (EU es H):=by
 induction es generalizing H with
 | nil=>exact h
 | cons p es ih=>
  refine ih (λid ob hid ho=> ?_) (λq hq=>he q<|Ah _ hq);by_cases e:id=p.1
  .subst e;simp only[Bi]at ho;cases ho;exact he p Ao
  .simp only[BE _ _ e]at ho;exact h id ob hid ho
def NH{E:Nat->AV}{H:Hp}{b:Nat}{h:Sh}{v:AV}{x:LT h}{L:Nat}(eq:∀H,D3 E H b h v x=BL E H b h x)(hl:Dl h=Y)(hF:∀j,b<=j->j<L->F j)(hL:(D3 E H b h v x).2.2<=L):
  ∃v' es b',In1 F v'/\(∀p∈es,F p.1/\Ey F p.2)/\ ∀H',Agr F H H'->D3 E H' b h v x=(v',EU es H',b'):=by
 obtain⟨v',es,b',h1,h2,h3⟩:=Yt (F:=F) (W:=F) E h b x L hl (λj h1 h2=>⟨hF j h1 h2,hF j h1 h2⟩) (λH0=>by rw[(lx E H0 H _ b x).2,← eq H];exact hL);exact⟨v',es,b',h1,h2,λH' _=>by rw[eq,h3]⟩
mutual
theorem avQ (E:Nat->AV):∀(h:Sh) (H:Hp) (b:Nat) (v:AV) (x:LT h) (L:Nat),Dl h=Y->(∀j,b<=j->j<L->F j)->InA F v->DY F H->(D3 E H b h v x).2.2<=L->
  ∃v' es b',In1 F v'/\(∀p∈es,F p.1/\Ey F p.2)/\ ∀H',Agr F H H'->D3 E H' b h v x=(v',EU es H',b')
 | .box e l,H,b,v,x,L,hl,hF,hv,hC,hL=>by
  by_cases hp:∃id z,v= .ptr id z 0 0
  .obtain⟨id,z,rfl⟩:=hp;have un:∀H,D3 E H b (.box e l) (.ptr id z 0 0) x=(match H id with
    | some (.box _ cs)=>(match BT E H b l cs x with|(ds,H,b)=>(AV.ptr id z 0 0,upd H id<|I<|.box e ds,b))
    | _=>(.un,H,b)):=λ_=>rfl
   have hid:F id:=hv;cases ho:H id with
   | none=>exact⟨.un,[],b,trivial,by simp,λH' h=>by rw[un,h id hid,ho];rfl⟩
   | some ob=>
    cases ob with
    | box e' cs=>
     rw[un,ho]at hL;have hL':(BT E H b l cs x).2.2<=L:=by
      simp only at hL;generalize BT E H b l cs x=r at *;exact hL
     obtain⟨vs,es,b',h1,h2,h3⟩:=lK E l H b cs x L (by simpa[Dl] using hl) hF (InA.J7<|hC id _ hid ho) hC hL';refine⟨.ptr id z 0 0,es++[(id,.box e vs)],b',hid,λp hp=> ?_,λH' h=> ?_⟩
     .rcases BN.1 hp with hp|hp
      .exact h2 p hp
      .simp at hp;subst hp;exact⟨hid,h1⟩
     .rw[un,h id hid,ho];simp only[h3 H' h,EU,Fg,Du,KK]
    | row=>exact⟨.un,[],b,trivial,by simp,λH' h=>by rw[un,h id hid,ho];rfl⟩
    | arr=>exact⟨.un,[],b,trivial,by simp,λH' h=>by rw[un,h id hid,ho];rfl⟩
  .have eq:∀H,D3 E H b (.box e l) v x=BL E H b (.box e l) x:=λH=>lL hl (λ_ _ _ id z e=>hp ⟨id,z,e⟩);obtain⟨v',es,b',h1,h2,h3⟩:=Yt (F:=F) (W:=F) E (.box e l) b x L hl (λj h1 h2=>⟨hF j h1 h2,hF j h1 h2⟩) (λH0=>by rw[(lx E H0 H _ b x).2,← eq H];exact hL);exact⟨v',es,b',h1,h2,λH' _=>by rw[eq,h3]⟩
 | .int k,H,b,v,x,L,hl,hF,hv,hC,hL=>NH (λH=>rfl) hl hF hL
 | .bool,H,b,v,x,L,hl,hF,hv,hC,hL=>NH (λH=>rfl) hl hF hL
 | .str,H,b,v,x,L,hl,hF,hv,hC,hL=>NH (λH=>rfl) hl hF hL
 | .sl _,H,b,v,x,L,hl,hF,hv,hC,hL=>NH (λH=>rfl) hl hF hL
 | .row _ _,H,b,v,x,L,hl,hF,hv,hC,hL=>NH (λH=>rfl) hl hF hL
 | .fz _,H,b,v,x,L,hl,hF,hv,hC,hL=>NH (λH=>rfl) hl hF hL
 | .Cj _ _,H,b,v,x,L,hl,hF,hv,hC,hL=>NH (λH=>rfl) hl hF hL
 | .abx _ _,H,b,v,x,L,hl,hF,hv,hC,hL=>NH (λH=>rfl) hl hF hL
 | .arr _,_,_,_,_,_,hl,_,_,_,_=>by simp[Dl]at hl
 | .same _,_,_,_,_,_,hl,_,_,_,_=>by simp[Dl]at hl
 | .agg _,_,_,_,_,_,hl,_,_,_,_=>by simp[Dl]at hl
theorem lK (E:Nat->AV):∀(l:List Sh) (H:Hp) (b:Nat) (cs:List AV) (x:LTs l) (L:Nat),I3 l=Y->(∀j,b<=j->j<L->F j)->(∀c∈cs,InA F c)->DY F H->(BT E H b l cs x).2.2<=L->
  ∃vs es b',(∀v∈vs,In1 F v)/\(∀p∈es,F p.1/\Ey F p.2)/\ ∀H',Agr F H H'->BT E H' b l cs x=(vs,EU es H',b')
 | [],_,b,_,_,_,_,_,_,_,_=>⟨[],[],b,by simp,by simp,λ_ _=>rfl⟩
 | h::l,H,b,cs,x,L,hl,hF,hv,hC,hL=>by
  simp only[I3,AE]at hl;have un:∀H,BT E H b (h::l) cs x=(match D3 E H b h (cs.headD .un) x.1 with|(d,H,b)=>match BT E H b l cs.tail x.2 with|(ds,H,b)=>(d::ds,H,b)):=λ_=>rfl;have hh:InA F (cs.headD .un):=by
   cases cs with
   | nil=>exact .of1 trivial
   | cons c cs=>exact hv c Ao
  have ht:∀c∈cs.tail,InA F c:=λc hc=>hv c<|List.mem_of_mem_tail hc;have hL1:(D3 E H b h (cs.headD .un) x.1).2.2<=L:=by
   rw[un]at hL;generalize D3 E H b h (cs.headD .un) x.1=r at *;obtain⟨c,H',b'⟩:=r;have h2:=Yy E l H' b' cs.tail x.2 hl.2;simp only at hL;generalize BT E H' b' l cs.tail x.2=r at *;exact C6 h2 hL
  obtain⟨v,es,b',h1,h2,h3⟩:=avQ E h H b (cs.headD .un) x.1 L hl.1 hF hh hC hL1;have e0:=h3 H<|Agr.refl F H;have hbb:b<=b':=by have:=aaS E h H b (cs.headD .un) x.1 hl.1;rw[e0]at this;exact this
  have hL2:(BT E (EU es H) b' l cs.tail x.2).2.2<=L:=by
   rw[un,e0]at hL;simp only at hL;generalize BT E (EU es H) b' l cs.tail x.2=r at *;exact hL
  obtain⟨vs,es',b'',h4,h5,h6⟩:=lK E l (EU es H) b' cs.tail x.2 L hl.2 (λj h1 h2=>hF j (C6 hbb h1) h2) ht (aqz hC λp hp=>(h2 p hp).2) hL2;refine⟨v::vs,es++es',b'',λc hc=> ?_,λp hp=> ?_,λH' h=> ?_⟩
  .rcases Bj.1 hc with rfl|hc
   .exact h1
   .exact h4 c hc
  .rcases BN.1 hp with hp|hp
   .exact h2 p hp
   .exact h5 p hp
  .rw[un,h3 H' h];simp only[h6 _<|auX h,EU,Fg]
end
end
end Go.VS
namespace Go.VS
open Go
section
variable {F W:Nat->Prop} {H H':Hp} {P:Program} {s s' s2:S} {b:Nat} {E:Nat->AV} {C:Cx}
def at3(E:Nat->AV)(h:Sh)(b:Nat)(x:LT h)(L:Nat)(hl:abO h=Y)(hF:∀j,b<=j->j<L->F j/\W j)(hL:∀H,(BL E H b h x).2.2<=L):
  ∃v es b',In2 F v/\(∀p∈es,W p.1/\Ey F p.2)/\ ∀H,BL E H b h x=(v,EU es H,b'):=by
 by_cases hh:Dl h=Y
 .obtain⟨v,es,b',h1,h2,h3⟩:=Yt (F:=F) (W:=W) E h b x L hh hF hL;exact⟨v,es,b',.of1 h1,h2,h3⟩
 .cases h<;>first|(exact absurd hl hh;done)|exact⟨.arr _ x,[],b,trivial,by simp,λ_=>rfl⟩|skip
  rename_i l;have un:∀H,BL E H b (.agg l) x=(match Aj E H b l x with|(cs,H,b)=>(AV.agg cs,H,b)):=λ_=>rfl;obtain⟨vs,es,b',h1,h2,h3⟩:=kt (F:=F) (W:=W) E l b x L hl hF (λH=>by
   have:=hL H;rw[un]at this;generalize Aj E H b l x=r at *;exact this)
  exact⟨.agg vs,es,b',h1,h2,λH=>by rw[un,h3]⟩
def kb(E:Nat->AV):∀(l:List Sh) (b:Nat) (x:LTs l) (L:Nat),aG l=Y->(∀j,b<=j->j<L->F j/\W j)->(∀H,(Aj E H b l x).2.2<=L)->
  ∃vs es b',(∀v∈vs,In2 F v)/\(∀p∈es,W p.1/\Ey F p.2)/\ ∀H,Aj E H b l x=(vs,EU es H,b')
 | [],b,_,_,_,_,_=>⟨[],[],b,by simp,by simp,λ_=>rfl⟩
 | h::l,b,x,L,hl,hF,hL=>by
  simp only[aG,AE]at hl;have un:∀H,Aj E H b (h::l) x=(match BL E H b h x.1 with|(c,H,b)=>match Aj E H b l x.2 with|(cs,H,b)=>(c::cs,H,b)):=λ_=>rfl;have hL1:∀H,(BL E H b h x.1).2.2<=L:=λH=>by
   have:=hL H;rw[un]at this;generalize BL E H b h x.1=r at *;obtain⟨c,H',b'⟩:=r;have h2:=JG E l H' b' x.2;simp only at this;generalize Aj E H' b' l x.2=r at *;exact C6 h2 this
  obtain⟨v,es,b',h1,h2,h3⟩:=at3 E h b x.1 L hl.1 hF hL1;have hbb:b<=b':=by have:=EM E h (λ_=>G) b x.1;rw[h3]at this;exact this
  have hL2:∀H,(Aj E H b' l x.2).2.2<=L:=λH=>by
   have:=hL H;rw[un,h3]at this;simp only at this;rw[(Q7 E H (EU es H) l b' x.2).2];generalize Aj E (EU es H) b' l x.2=r at *;exact this
  obtain⟨vs,es',b'',h4,h5,h6⟩:=kb E l b' x.2 L hl.2 (λj h1 h2=>hF j (C6 hbb h1) h2) hL2;refine⟨v::vs,es++es',b'',λc hc=> ?_,λp hp=> ?_,λH=> ?_⟩
  .rcases Bj.1 hc with rfl|hc
   .exact h1
   .exact h4 c hc
  .rcases BN.1 hp with hp|hp
   .exact h2 p hp
   .exact h5 p hp
  .rw[un,h3];simp only[h6,EU,Fg]
abbrev stp(p:Nat×Ob):Step:=⟨p.1,.no,I p.2⟩
def lU:∀(es:List (Nat×Ob)) (s:S),(es.map stp).foldl S.app s={ s with H:=EU es s.H }
 | [],_=>rfl
 | p::es,s=>by
  rw[DV,Du,JJ,lU es];rfl
def kK:∀(ps:List Sh) (vs:List AV),∀v∈Fq ps vs,v∈vs
 | [],vs,v,h=>by cases vs<;>simp[Fq]at h
 | p::ps,[],v,h=>by cases p<;>simp[Fq]at h
 | p::ps,x::vs,v,h=>by
  cases p<;>simp only[Fq,Bj]at h ⊢ <;>first
   | exact .inr (kK ps vs v h)
   | exact h.imp id (kK ps vs v)
def aEu{vs:List AV}(h:∀v∈vs,In2 F v):InA F (MG vs):=by
 unfold MG;split
 .exact .of2 (h _ aG9)
 .exact .of3 h
def abc(H:Hp)(m:DZ)(as:List AV)(b:Nat)(W:Step->Prop):Prop:=
 (∀e:Step,e.id∈Ce H m.ps as->W e)/\((CV m.rs||CV (B2 m.ps))=Y->∀e:Step,e.id∈Cv H m.ps as->W e)/\(∀e:Step,b<=e.id->e.id<b+16->W e)
variable {WS:Step->Prop}
def atq{m:DZ}{d:Option Nat}{as:List AV}(hm:okS m=Y)(has:∀v∈as,InA F v)(hC:DY F s.H)(hF:∀j,b<=j->j<b+16->F j)
  (hW:abc s.H m as b WS)(hB:(B2 m.ps).isEmpty=Y\/ ∀e:Step,F e.id->e.fk= .no->WS e)(h:Hb m s b d as I=I s'):
  ∃(v:AV) (es:List Step),InA F v/\(∀e∈es,WS e/\Gt F e)/\s'=(es.foldl S.app s).put d v/\ ∀s2:S,Agr F s.H s2.H->Hb m s2 b d as I=I ((es.foldl S.app s2).put d v):=by
 simp only[okS,AE]at hm;obtain⟨hW1,hW2,hW3⟩:=hW;unfold Hb at h;simp only at h;split at h
 .rename_i x hx hn;obtain⟨r,hr,h⟩:=Ag.1 h;obtain⟨es1,k1,k2,k3⟩:=aE0 (Ce s.H m.ps as) s;have k4:∃es2:List Step,(∀e∈es2,WS e/\e.ob=G)/\
    GJ (CV m.rs||CV (B2 m.ps)) (Cv s.H m.ps as) ((Ce s.H m.ps as).foldl S.kill s)=es2.foldl S.app s/\
    ∀s2:S,Agr F s.H s2.H->GJ (CV m.rs||CV (B2 m.ps)) (Cv s.H m.ps as) ((Ce s.H m.ps as).foldl S.kill s2)=es2.foldl S.app s2:=by
   cases hq:(CV m.rs||CV (B2 m.ps)) with
   | false=>exact⟨es1,λe he=>⟨hW1 e (k1 e he).1,(k1 e he).2⟩,k2,λs2 _=>k3 s2⟩
   | true=>
    obtain⟨es2,j1,j2,j3⟩:=Xc (F:=F) (Cv s.H m.ps as) (es1.foldl S.app s)<|TE hC m.ps as has;refine⟨es1++es2,λe he=> ?_, ?_,λs2 h2=> ?_⟩
    .rcases BN.1 he with he|he
     .exact⟨hW1 e (k1 e he).1,(k1 e he).2⟩
     .exact⟨hW2 hq e (j1 e he).1,(j1 e he).2⟩
    .simp only[GJ,k2,j2,Fg]
    .simp only[GJ,k3,Fg];exact j3 _ h2.qB
  obtain⟨es2,j1,j2,j3⟩:=k4;rw[j2]at h;have hC2:DY F (es2.foldl S.app s).H:=by
   have:∀(es:List Step) (s:S),DY F s.H->(∀e∈es,e.ob=G)->DY F (es.foldl S.app s).H:=by
    intro es
    induction es with
    | nil=>intro s h _;exact h
    | cons e es ih=>exact λs h he=>ih _ (h.app λob eo=>by rw[he e Ao]at eo;cases eo) λe' h'=>he e'<|Ah _ h'
   exact this es2 s hC λe he=>(j1 e he).2
  have hL1:(BT (λi=>(as[i]?).getD .un) (es2.foldl S.app s).H b (B2 m.ps) (Fq m.ps as) r.2).2.2<=b+16:=by
   generalize BT (λi=>(as[i]?).getD .un) (es2.foldl S.app s).H b (B2 m.ps) (Fq m.ps as) r.2=q at *;obtain⟨_,H1,b1⟩:=q;have:=JG (λi=>(as[i]?).getD .un) m.rs H1 b1 r.1;simp only at h;generalize Aj (λi=>(as[i]?).getD .un) H1 b1 m.rs r.1=q at *;obtain⟨vs,H2,b2⟩:=q;simp only at h;split at h
   .rename_i hb;exact C6 this (DL hb)
   .cases h
  have hg:∃ds es3 b1,b<=b1/\(∀p∈es3,WS (stp p)/\Ey F p.2)/\ ∀H',Agr F (es2.foldl S.app s).H H'->BT (λi=>(as[i]?).getD .un) H' b (B2 m.ps) (Fq m.ps as) r.2=(ds,EU es3 H',b1):=by
   obtain hB|hB:=hB
   .exact⟨[],[],b,Ar b,by simp,λH' _=>aDj _ _ _ _ _ _ hB⟩
   .obtain⟨ds,es3,b1,i1,i2,i3⟩:=lK (F:=F) (λi=>(as[i]?).getD .un) (B2 m.ps) (es2.foldl S.app s).H b (Fq m.ps as) r.2 (b+16) hm.2 hF (λv hv=>has v<|kK _ _ v hv) hC2 hL1;have:=Yy (λi=>(as[i]?).getD .un) (B2 m.ps) (es2.foldl S.app s).H b (Fq m.ps as) r.2 hm.2;rw[i3 _<|Agr.refl _ _]at this;exact⟨ds,es3,b1,this,λp hp=>⟨hB (stp p) (i2 p hp).1 rfl,(i2 p hp).2⟩,i3⟩
  obtain⟨ds,es3,b1,hb1,i2,i3⟩:=hg;rw[i3 _<|Agr.refl _ _]at h;simp only at h;have hL2:∀H,(Aj (λi=>(as[i]?).getD .un) H b1 m.rs r.1).2.2<=b+16:=λH=>by
   rw[(Q7 _ H (EU es3 (es2.foldl S.app s).H) m.rs b1 r.1).2];generalize Aj (λi=>(as[i]?).getD .un) (EU es3 (es2.foldl S.app s).H) b1 m.rs r.1=q at *;obtain⟨vs,H2,b2⟩:=q;simp only at h;split at h
   .rename_i hb;exact DL hb
   .cases h
  obtain⟨vs,es4,b2,l1,l2,l3⟩:=kb (F:=F) (W:=λj=>b<=j/\j<b+16) (λi=>(as[i]?).getD .un) m.rs b1 r.1 (b+16) hm.1
   (λj h1 h2=>⟨hF j (C6 hb1 h1) h2,C6 hb1 h1,h2⟩) hL2
  rw[l3]at h;simp only at h;split at h
  .rename_i hb;cases h;refine⟨MG vs,es2++es3.map stp++es4.map stp,aEu l1,λe he=> ?_, ?_,λs2 h2=> ?_⟩
   .rcases BN.1 he with he|he
    .rcases BN.1 he with he|he
     .exact⟨(j1 e he).1,λob eo=>by rw[(j1 e he).2]at eo;cases eo⟩
     .obtain⟨p,hp,rfl⟩:=C0.1 he;exact⟨(i2 p hp).1,λob eo=>by cases eo;exact(i2 p hp).2⟩
    .obtain⟨p,hp,rfl⟩:=C0.1 he;exact⟨hW3 (stp p) (l2 p hp).1.1 (l2 p hp).1.2,λob eo=>by cases eo;exact(l2 p hp).2⟩
   .simp only[Fg,lU]
   .unfold Hb;simp only[TK h2 hC m.ps as has,TD h2 hC m.ps as has,TJ h2 hC m.ps as has,Yz h2 hC m.ps as has,hx,hn,hr,A6,j3 s2 h2];rw[i3 _ h2.qB];simp only[l3,hb,Fg,lU]
  .cases h
 .cases h
end
end Go.VS
namespace Go.VS
open Go
section
variable {F GH N:Nat->Prop} {WS:Step->Prop} {H H':Hp} {P:Program} {s s' s2:S} {b:Nat} {C:Cx}
def In1.mono(h:∀id,F id->GH id){v:AV}(hv:In1 F v):In1 GH v:=by
 cases v<;>first|exact h _ hv|exact hv
def In2.mono(h:∀id,F id->GH id){v:AV}(hv:In2 F v):In2 GH v:=by
 have gen:In1 F v->In2 GH v:=λhv=> .of1<|hv.mono h;cases v<;>first|exact λc hc=>(hv c hc).mono h|exact gen hv
def In3.mono(h:∀id,F id->GH id){v:AV}(hv:In3 F v):In3 GH v:=by
 have gen:In2 F v->In3 GH v:=λhv=> .of2<|hv.mono h;cases v<;>first|exact λc hc=>In2.mono h (hv c hc)|exact gen hv
def InA.mono(h:∀id,F id->GH id){v:AV}(hv:InA F v):InA GH v:=by
 have gen:In3 F v->InA GH v:=λhv=> .of3<|hv.mono h;cases v with
 | gd g w v=>exact In3.mono h hv
 | _=>exact gen hv
def Agr.mono(h:∀id,F id->GH id)(hG:Agr GH H H'):Agr F H H':=λid hid=>hG id<|h id hid
def aF5{f:AV->AV}(hf:∀c,In1 F c->In1 F (f c)){v:AV}(h:In2 F v):In2 F (Fv f v):=by
 cases v<;>first|exact .of1 (hf _ h)|skip
 rename_i cs;intro c hc;obtain⟨c0,h0,rfl⟩:=C0.1 hc;exact hf _<|h c0 h0
def aF4{f:AV->AV}(hf:∀c,In1 F c->In1 F (f c)){v:AV}(h:In3 F v):In3 F (GD f v):=by
 have gen:In2 F v->In3 F (Fv f v):=λh=> .of2<|aF5 hf h;cases v with
 | tup cs=>
  intro c hc;obtain⟨c0,h0,rfl⟩:=C0.1 hc;exact aF5 hf<|h c0 h0
 | _=>exact gen h
def aaG{f:AV->AV}(hf:∀c,In1 F c->In1 F (f c)){v:AV}(h:InA F v):InA F (Ew f v):=by
 have gen:In3 F v->InA F (GD f v):=λh=> .of3<|aF4 hf h;cases v with
 | gd g w v=>exact aF4 hf h
 | _=>exact gen h
def atz{x:Operand}{e:Step}(h:InA F (s.ev x)):InA F ((s.app e).ev x):=by
 cases x with
 | tmp t=>exact aaG (λc hc=>Fk.bM _ _ hc) h
 | _=>exact h
def km{x:Operand}:∀(es:List Step) (s:S),InA F (s.ev x)->InA F ((es.foldl S.app s).ev x)
 | [],_,h=>h
 | e::es,s,h=>km es _ (atz h)
def aty{x:Operand}{e:Step}(h:s2.ev x=s.ev x):(s2.app e).ev x=(s.app e).ev x:=by
 cases x with
 | tmp t=>exact congrArg (Ew<|e.fk.f e.id) h
 | _=>exact h
def aDb{x:Operand}:∀(es:List Step) (s s2:S),s2.ev x=s.ev x->(es.foldl S.app s2).ev x=(es.foldl S.app s).ev x
 | [],_,_,h=>h
 | e::es,s,s2,h=>aDb es _ _ (aty h)
def aC8:∀(es:List Step) (s:S),DY F s.H->(∀e∈es,Gt F e)->DY F (es.foldl S.app s).H
 | [],_,h,_=>h
 | e::es,s,h,he=>aC8 es _ (h.app<|he e Ao) λe' h'=>he e'<|Ah _ h'
def ast{ρ:Operand->AV}:∀(ps:List (Nat×Operand)),(∀p∈ps,InA F<|ρ p.2)->∀i∈L9 ρ ps,F i:=by
 intro ps hp i hi;obtain⟨p,h1,h2⟩:=List.mem_flatMap.1 hi;have:=hp p h1;split at h2
 .rename_i cs e;rw[e]at this;exact aae this i h2
 .rename_i v hn;cases hv:ρ p.2<;>rw[hv]at h2 this<;>first|(simp[H6]at h2;done)|skip
  simp[H6]at h2;subst h2;exact this
def abd(C:Cx)(F N:Nat->Prop)(WS:Step->Prop)(b:Nat)(o:Oper)(s s':S):Prop:=
 ∃(v:AV) (es:List Step),InA F v/\(∀e∈es,WS e/\Gt F e)/\s'=(es.foldl S.app s).put o.dst v/\
  ∀s2:S,(∀x∈o.op.operands,s2.ev x=s.ev x)->s2.has o.dst=s.has o.dst->Agr N s.H s2.H->CR C (AF S) o b s2 I=I ((es.foldl S.app s2).put o.dst v)
def aFJ{op:Op}{kd:TypeId->Option K}{d:Option Nat}(hF:∀x∈op.operands,InA F<|s.ev x)(hN:mov op=Y\/ ∀x∈op.operands,InA N<|s.ev x)(hC:∀id ob,N id->s.H id=I ob->Ey F ob)(hb:F b)(hW:∀ob,WS ⟨b,.no,I ob⟩)
  (he:(match CI P kd s.ev s.H b op with
   | some (q,v,os)=>if q then I ({ s with H:=En s.H b os }.put d v) else G
   | none=>G)=I s'):
  ∃(v:AV) (es:List Step),InA F v/\(∀e∈es,WS e/\Gt F e)/\s'=(es.foldl S.app s).put d v/\
   ∀s2:S,(∀x∈op.operands,s2.ev x=s.ev x)->Agr N s.H s2.H->(match CI P kd s2.ev s2.H b op with
    | some (q,v,os)=>if q then I ({ s2 with H:=En s2.H b os }.put d v) else G
    | none=>G)=I ((es.foldl S.app s2).put d v):=by
 split at he
 .rename_i q v os hp;split at he
  .rename_i hq;cases he;obtain⟨h1,h2,h3⟩:=aET hF hN hC hb q v os hp
   match os,h2,h3,hp with
   | [],_,_,hp=>
    refine⟨v,[],h1,by simp,rfl,λs2 e1 e2=> ?_⟩;rw[YL e1 hN e2,hp];simp only[hq,A2];rfl
   | [ob],_,h3,hp=>
    refine⟨v,[⟨b,.no,I ob⟩],h1,λe he=> ?_, ?_,λs2 e1 e2=> ?_⟩
    .simp at he;subst he;exact⟨hW ob,λob' e=>by cases e;exact h3 _ aG9⟩
    .show _=S.put (s.app _) d v;rw[JJ];rfl
    .rw[YL e1 hN e2,hp];simp only[hq,A2,Du,KK,JJ];rfl
   | _::_::_,h2,_,_=>simp at h2
  .cases he
 .cases he
def awR{q:Bool}{l:List Nat}{i:Nat}(h:i∈fzl q l):i∈l:=by
 cases q
 .cases h
 .exact h
def axd{o:Oper}(hop:∀x∈o.op.operands,InA F<|s.ev x)(hC:DY F s.H){i:Nat}(hi:i∈JT C s o):F i:=by
 unfold JT at hi;split at hi
 .rename_i c hc;split at hi
  .rename_i f hf;split at hi
   .rename_i m hm;have has:∀v∈c.args.toList.map s.ev,InA F v:=λv hv=>by
     obtain⟨x,hx,rfl⟩:=C0.1 hv;refine hop x ?_;rw[hc];simp only[BY,NP,NN];exact .inr<|by simpa using hx
    obtain h|h:=BN.1 hi
    .exact YX hC _ _ has i h
    .exact TE hC _ _ has i (awR h)
   .cases hi
  .cases hi
 .cases hi
def awD{o:Oper}(hok:okO C o=Y)(hop:∀x∈o.op.operands,InA F<|s.ev x)(hCN:∀id ob,N id->s.H id=I ob->Ey F ob)(hF:∀j,b<=j->j<b+16->F j)
  (hN:∀e:Step,b<=e.id->e.id<b+16->WS e)(hW:(E0 C s o=G->(∀e:Step,F e.id->e.fk= .no->WS e)/\ ∀e:Step,e.id∈JT C s o->WS e)/\ ∀l,E0 C s o=I l->∀e:Step,e.id∈l->WS e)
  (hNF:(pur o=Y/\(mov o.op=Y\/ ∀x∈o.op.operands,InA N<|s.ev x))\/ ∀id,F id->N id)(he:CR C (AF S) o b s I=I s'):abd C F N WS b o s s':=by
 have acH:mov o.op=Y\/ ∀x∈o.op.operands,InA N (s.ev x):=by
  obtain h|h:=hNF
  .exact h.2
  .exact .inr λx hx=>(hop x hx).mono h
 have Un:pur o=A0->∀id,F id->N id:=λh=>hNF.resolve_left λh2=>by rw[h]at h2;cases h2.1
 have hCF:pur o=A0->DY F s.H:=λh id ob hid ho=>hCN id ob (Un h id hid) ho;have hFb:F b:=hF b (Ar b) J;have hWb:∀e:Step,e.id=b->WS e:=λe h=>hN e J J;unfold CR at he;split at he
 .cases he
 rename_i hd;unfold abd;have un:∀s2:S,s2.has o.dst=s.has o.dst->s2.has o.dst=Y:=λs2 h=>h.trans hd;generalize ho:o.op=op at he;rw[ho]at hop acH;have pu:(match CI C.P C.kd s.ev s.H b op with
   | some (q,v,os)=>if q then I ({ s with H:=En s.H b os }.put o.dst v) else G
   | none=>G)=I s'->(∀s2:S,s2.has o.dst=Y->(∀x∈op.operands,s2.ev x=s.ev x)->Agr N s.H s2.H->CR C (AF S) o b s2 I=(match CI C.P C.kd s2.ev s2.H b op with
   | some (q,v,os)=>if q then I ({ s2 with H:=En s2.H b os }.put o.dst v) else G
   | none=>G))->∃(v:AV) (es:List Step),InA F v/\(∀e∈es,WS e/\Gt F e)/\s'=(es.foldl S.app s).put o.dst v/\
  ∀s2:S,(∀x∈op.operands,s2.ev x=s.ev x)->s2.has o.dst=s.has o.dst->Agr N s.H s2.H->CR C (AF S) o b s2 I=I ((es.foldl S.app s2).put o.dst v):=by
  intro he hu;obtain⟨v,es,h1,h2,h3,h4⟩:=aFJ (WS:=WS) hop acH hCN hFb (λ_=>hWb _ rfl) he;exact⟨v,es,h1,h2,h3,λs2 e1 e2 e3=>by rw[hu s2 (un s2 e2) e1 e3];exact h4 s2 e1 e3⟩
 cases op<;>try (exact pu he λs2 e1 e2 e3=>by unfold CR;simp only[e1,ho];rfl)
 case store t p x=>
  have hWF:∀e:Step,e.id∈Om s.H (s.ev p) (s.ev x)->WS e:=hW.2 _ (by simp only[E0,ho]);have hNs:=Un (by simp only[pur,ho]);have hC:=hCF (by simp only[pur,ho]);simp only at he;split at he
  .rename_i s1 hs;cases he;obtain⟨es,h1,h2,h3⟩:=asM (hop p<|by simp[BY]) (hop x<|by simp[BY]) hC hs;refine⟨Dp,es,.of1 trivial,λe he=>⟨hWF e (h1 e he).1,(h1 e he).2⟩,by rw[h2],λs2 e1 e2 e3=> ?_⟩;have:=h3 s2<|e3.mono hNs;simp only[D9,CS,true_and]at this;obtain⟨s1',hs',rfl⟩:=this;unfold CR;simp only[un s2 e2,ho,e1 p<|by simp[BY],e1 x<|by simp[BY],hs']
  .cases he
 case call c=>
  have hNs:=Un (by simp only[pur,ho]);have hC:=hCF (by simp only[pur,ho]);obtain⟨cal,⟨args⟩,⟨tys⟩⟩:=c;have IN:∀x∈args,InA F (s.ev x):=λx hx=>hop x (by
   simp only[BY,NP,NN];exact .inr<|by simpa using hx)
  have pe:∀s2:S,(∀x∈(Op.call ⟨cal,⟨args⟩,⟨tys⟩⟩).operands,s2.ev x=s.ev x)->args.map s2.ev=args.map s.ev:=λs2 h=>Gi λx hx=>h x (by
   simp only[BY,NP,NN];exact .inr<|by simpa using hx)
  simp only at he;split at he
  .rename_i f;split at he
   .rename_i m hm;have am1:okS m=Y:=by simpa only[okO,ho,hm] using hok
    have has:∀v∈args.map s.ev,InA F v:=λv hv=>by
     obtain⟨x,hx,rfl⟩:=C0.1 hv;exact IN x hx
    have hcw:abc s.H m (args.map s.ev) b WS/\((B2 m.ps).isEmpty=Y\/ ∀e:Step,F e.id->e.fk= .no->WS e):=by
     have hk:JT C s o=Ce s.H m.ps (args.map s.ev)++fzl (CV m.rs||CV (B2 m.ps)) (Cv s.H m.ps<|args.map s.ev):=by simp only[JT,ho,hm]
     cases hbe:(B2 m.ps).isEmpty with
     | false=>
      have aCy:E0 C s o=G:=by simp only[E0,ho,hm,hbe]
      have h2:=(hW.1 aCy).2;rw[hk]at h2;exact⟨⟨λe he=>h2 e<|Bz _ he,λhq e he=>h2 e<|CW _ (by rw[hq];exact he),hN⟩,.inr (hW.1 aCy).1⟩
     | true=>
      have hl:E0 C s o=I (Ce s.H m.ps (args.map s.ev)++fzl (CV m.rs||CV (B2 m.ps)) (Cv s.H m.ps<|args.map s.ev)):=by simp only[E0,ho,hm,hbe]
      refine⟨⟨λe hi=> ?_,λhq e hi=> ?_,hN⟩,.inl rfl⟩
      .exact hW.2 _ hl e (Bz _ hi)
      .exact hW.2 _ hl e<|CW _ (by rw[hq];exact hi)
    obtain⟨v,es,h1,h2,h3,h4⟩:=atq am1 has hC hF hcw.1 hcw.2 he;refine⟨v,es,h1,h2,h3,λs2 e1 e2 e3=> ?_⟩;have:=h4 s2<|e3.mono hNs;unfold CR;simp only[un s2 e2,ho,hm,pe s2 e1];exact this
   .cases he
  .rename_i x y t u;have hWF:∀e:Step,(e.id=b\/e.id∈KC (s.ev x))->WS e:=λe hi=>hi.elim (hWb e) (hW.2 _ (by simp only[E0,ho]) e);split at he
   .rename_i q v s1 hs;split at he
    .rename_i hq;subst hq;cases he;obtain⟨⟨es,h1,h2,h3⟩,h5⟩:=asI (IN x aG9) (IN y aG9) hFb hs;refine⟨v,es,h5,λe he=>⟨hWF e (h1 e he).1,(h1 e he).2⟩,by rw[h2],λs2 e1 e2 e3=> ?_⟩;have:=h3 s2<|e3.mono hNs;obtain⟨⟨q',v',s1'⟩,hs',e'⟩:=D9.1 this;cases e';unfold CR;have ea:=pe s2 e1;simp only[DV,IK,MR,and_true]at ea;simp only[un s2 e2,ho,ea.1,ea.2,hs',A2]
    .cases he
   .cases he
  .rename_i x y t u;have hWF:∀e:Step,e.id∈KC (s.ev x)->WS e:=hW.2 _ (by simp only[E0,ho]);split at he
   .rename_i v s1 hs;cases he;obtain⟨⟨es,h1,h2,h3⟩,h5⟩:=avy (IN x aG9) (IN y aG9) hs;refine⟨v,es,h5,λe he=>⟨hWF e (h1 e he).1,(h1 e he).2⟩,by rw[h2],λs2 e1 e2 e3=> ?_⟩;have hs':=h3 s2<|e3.mono hNs;unfold CR;have ea:=pe s2 e1;simp only[DV,IK,MR,and_true]at ea;simp only[un s2 e2,ho,ea.1,ea.2,hs']
   .cases he
  .rename_i n1 n2 n3;refine pu he λs2 e1 e2 e3=> ?_;unfold CR;simp only[e1,ho];split<;>first|exact(n1 _ rfl).elim|exact(n2 _ _ _ _ rfl rfl rfl).elim|exact(n3 _ _ _ _ rfl rfl rfl).elim|(rename_i h;simp only[h];done)|rfl
 case slice t x lo hi mx=>
  have hNs:=Un (by simp only[pur,ho]);have hC:=hCF (by simp only[pur,ho]);cases mx with
  | some m=>exact pu he λs2 e1 e2 e3=>by unfold CR;simp only[e1,ho];rfl
  | none=>
   have hx:=hop x (by simp[BY]);have elo:∀s2:S,(∀x_1∈(Op.slice t x lo hi G).operands,s2.ev x_1=s.ev x_1)->lo.map s2.ev=lo.map s.ev:=λs2 h=>by
    cases lo with
    | none=>rfl
    | some l=>exact congrArg I<|h l<|by simp[BY]
   have ehi:∀s2:S,(∀x_1∈(Op.slice t x lo hi G).operands,s2.ev x_1=s.ev x_1)->hi.map s2.ev=hi.map s.ev:=λs2 h=>by
    cases hi with
    | none=>rfl
    | some l=>exact congrArg I<|h l<|by simp[BY]
   simp only at he;split at he
   .rename_i id hid;split at he
    .cases he
    rename_i hf;have hWF:∀e:Step,e.id=id->WS e:=λi e=>hW.2 (KC<|s.ev x) (by simp only[E0,ho]) i (by rw[hid,e];simp[KC,H6]);rw[hid]at hx;split at he
    .rename_i q v s1 hs;split at he
     .rename_i hq;subst hq;cases he;obtain⟨⟨es,h1,h2,h3⟩,h5⟩:=aqR (F:=F) hx hs;refine⟨v,es,h5,λe he=>⟨hWF e (h1 e he).1,(h1 e he).2⟩,by rw[h2],λs2 e1 e2 e3=> ?_⟩;have:=h3 s2<|e3.mono hNs;obtain⟨⟨q',v',s1'⟩,hs',e'⟩:=D9.1 this;cases e';unfold CR;have ex:s2.ev x= .own id:=(e1 x<|by simp[BY]).trans hid;have hf2:JD C.P s2.H t (.own id)=Y:=by rw[aBj (F:=F) hx<|e3.mono hNs];exact hf
      simp only[un s2 e2,ho,ex,hf2,elo s2 e1,ehi s2 e1,hs',A2]
     .cases he
    .cases he
   .rename_i hn;refine pu he λs2 e1 e2 e3=> ?_;unfold CR;simp only[e1,ho];have ex:s2.ev x=s.ev x:=e2 x (by simp[BY]);rw[ex];split
    .rename_i id hid;exact absurd hid (hn id)
    .rfl
 case buildSlice t n ps=>
  have hNs:=Un (by simp only[pur,ho]);have hC:=hCF (by simp only[pur,ho]);simp only at he;have hps:∀p∈ps.toList,InA F (s.ev p.2):=λp hp=>hop p.2 (by
   simp only[BY,Tr,C0];exact⟨p,hp,rfl⟩)
  have PY:=ast ps.toList hps;obtain⟨es1,j1,j2,j3⟩:=Xc (F:=F) (L9 s.ev ps.toList) s PY;rw[j2]at he;obtain⟨v,es,h1,h2,h3,h4⟩:=aFJ (WS:=WS) (N:=F) (s:=es1.foldl S.app s) (op:= .buildSlice t n ps) (λx hx=>km es1 s<|hop x hx) (.inr λx hx=>km es1 s<|hop x hx) (aC8 es1 s hC λe he ob eo=>by rw[(j1 e he).2]at eo;cases eo) hFb (λ_=>hWb _ rfl) he;refine⟨v,es1++es,h1,λe he=> ?_,by rw[h3,Fg],λs2 e1 e2 e3=> ?_⟩
  .rcases BN.1 he with he|he
   .refine⟨?_,λob eo=>by rw[(j1 e he).2]at eo;cases eo⟩;have hi:=(j1 e he).1;exact hW.2 _ (by simp only[E0,ho]) e hi
   .exact h2 e he
  .unfold CR;have eo:L9 s2.ev ps.toList=L9 s.ev ps.toList:=ass _ λp hp=>e1 p.2 (by
    simp only[BY,Tr,C0];exact⟨p,hp,rfl⟩)
   simp only[un s2 e2,ho,eo];rw[j3 s2<|e3.mono hNs,Fg];exact h4 _ (λx hx=>aDb es1 s s2<|e1 x hx)<|Agr.qB<|e3.mono hNs
end
end Go.VS
namespace Go.VS
open Go
abbrev ev1(C:Cx)(ops:Array Oper)(o:Oper)(b:Nat)(s:S):Option S:=evG C (AF S) ops o b s I
def S.fin(s:S)(g:Option Nat)(d:Option Nat)(v:AV):S:={ s.put d v with gs:=match g with
 | some g=>upd s.gs g Y
 | none=>s.gs }
def KS(s s2:S)(d:Option Nat):Prop:=s2.n=s.n/\s2.pins=s.pins/\ ∀t,d=I t->s2.gs t=s.gs t
section
variable {F N:Nat->Prop} {WS:Step->Prop} {H H':Hp} {P:Program} {s s' s2:S} {b:Nat} {C:Cx} {ρ ρ':Operand->AV}
def KS.has{d:Option Nat}(h:KS s s2 d):s2.has d=s.has d:=by
 cases d with
 | none=>rfl
 | some t=>simp only[S.has,h.1,h.2.1,h.2.2 t rfl]
def KS.more{d:Option Nat}(h:KS s s2 d)(g:Nat):({ s2 with gs:=upd s2.gs g Y } :S).has d=({ s with gs:=upd s.gs g Y } :S).has d:=by
 cases d with
 | none=>rfl
 | some t=>
  have:upd s2.gs g Y t=upd s.gs g Y t:=by
   by_cases e:t=g
   .subst e;rw[Bi,Bi]
   .rw[BE _ _ e,BE _ _ e];exact h.2.2 t rfl
  simp only[S.has,h.1,h.2.1,this]
def aut{g:Nat}{want:Bool}{v:AV}(h:InA F v):InA F (Gb g want v):=by
 unfold Gb;split
 .split
  .exact .of3 h
  .exact h
 .exact h
def aL(v:Value):InA F (ofV v):=by
 unfold ofV;split
 .split
  .refine .of2 λc hc=> ?_;obtain⟨x,_,rfl⟩:=C0.1 hc;trivial
  .exact .of1 trivial
 .exact .of1 trivial
def ayJ{d:Option Nat}{op:Op}(hρ:∀x∈op.operands,ρ' x=ρ x)(hF:∀x∈op.operands,InA F<|ρ x)(hC:DY F H)(hH:Agr F H H'):spA C b d ρ' H' op=spA C b d ρ H op:=by
 unfold spA;split
 .rename_i c;obtain⟨cal,⟨args⟩,⟨tys⟩⟩:=c;have ea:args.map ρ'=args.map ρ:=Gi λx hx=>hρ x (by
   simp only[BY,NP,NN];exact .inr<|by simpa using hx)
  have has:∀v∈args.map ρ,InA F v:=λv hv=>by
   obtain⟨x,hx,rfl⟩:=C0.1 hv;exact hF x (by
    simp only[BY,NP,NN];exact .inr<|by simpa using hx)
  have hc:JO C.P ρ' H' ⟨cal,⟨args⟩,⟨tys⟩⟩=JO C.P ρ H ⟨cal,⟨args⟩,⟨tys⟩⟩:=aGB (F:=F) (λx hx=>hρ x (by
   simp only[BY,NP,NN];exact .inr<|by simpa using hx)) (λx hx=>hF x (by
   simp only[BY,NP,NN];exact .inr<|by simpa using hx)) hH
  split
  .rename_i f as _;simp only at *;congr 1;funext m;simp only[ea,TJ hH hC m.ps _ has,TD hH hC m.ps _ has,TK hH hC m.ps _ has];split
   .congr 1;funext x;rw[(Q7 _ H' H m.rs b ((m.g x).getD (M9 m.rs,M9<|B2 m.ps)).1).1]
   .rfl
  .rfl
  .rfl
  .rw[hc]
 .rfl
 .rfl
 .rename_i t x lo hi;rw[hρ x<|by simp[BY],YL hρ (.inr hF) hH]
 .rw[YL hρ (.inr hF) hH]
def ayK{o:Oper}{q:Bool}{v:AV}(hok:okO C o=Y)(hF:∀x∈o.op.operands,InA F<|ρ x)(hC:DY F H)(hb:∀j,b<=j->j<b+16->F j)(h:spA C b o.dst ρ H o.op=I (q,v)):InA F v:=by
 have hFb:F b:=hb b (Ar b) J;unfold spA at h;unfold okO at hok;generalize ho:o.op=op at h hok hF;have pu:(match CI C.P C.kd ρ H b op with
  | some (q,v,[])=>I (q,v)
  | _=>G)=I (q,v)->InA F v:=by
  intro h;split at h
  .rename_i hp;cases h;exact(aET hF (.inr hF) hC hFb _ _ _ hp).1
  .cases h
 split at h
 .rename_i c;obtain⟨cal,⟨args⟩,⟨tys⟩⟩:=c;simp only at h hok;split at h
  .rename_i f;obtain⟨m,hm,h⟩:=Ag.1 h;split at h
   .rename_i hc;obtain⟨x,hx,h⟩:=Ag.1 h;simp only[Bv,CS]at h;obtain⟨_,h⟩:=h;generalize (m.g x).getD (M9 m.rs,M9<|B2 m.ps)=r at h;rw[← h];simp only[hm,okS,AE]at hok;simp only[AE]at hc;have hbn:∀H0,(Aj (λi=>((args.map ρ)[i]?).getD .un) H0 b m.rs r.1).2.2<=b+16:=λH0=>by
     have:=YP (λi=>((args.map ρ)[i]?).getD .un) H0 b m.rs r.1 hc.1.1.1;rw[this];exact Zl b 16
    obtain⟨vs,es,b',h1,h2,h3⟩:=kb (F:=F) (W:=F) (λi=>((args.map ρ)[i]?).getD .un) m.rs b r.1 (b+16) hok.1 (λj h1 h2=>⟨hb j h1 h2,hb j h1 h2⟩) hbn;rw[h3];exact aEu h1
   .cases h
  .cases h
  .cases h
  .split at h
   .rename_i hp;cases h;exact(aGC _ _ _ _ hp).1
   .cases h
 .cases h
 .cases h
 .split at h
  .cases h
  .exact pu h
 .exact pu h
def abN(C:Cx)(ops:Array Oper)(F N:Nat->Prop)(WS:Step->Prop)(b:Nat)(o:Oper)(s s':S):Prop:=
 ∃(g:Option Nat) (v:AV) (es:List Step),InA F v/\(∀e∈es,WS e/\Gt F e)/\(∀x,g=I x->x∈DH ops o)/\s'=(es.foldl S.app s).fin g o.dst v/\
  ∀s2:S,(∀t∈DH ops o,s2.T t=s.T t)->KS s s2 o.dst->Agr N s.H s2.H->ev1 C ops o b s2=I ((es.foldl S.app s2).fin g o.dst v)
def ny:∀(es:List Step) (s:S),(es.foldl S.app s).gs=s.gs/\(es.foldl S.app s).n=s.n/\(es.foldl S.app s).pins=s.pins/\(es.foldl S.app s).nid=s.nid
 | [],_=>⟨rfl,rfl,rfl,rfl⟩
 | e::es,s=>ny es (s.app e)
def OU(s:S)(d:Option Nat)(v:AV):s.fin G d v=s.put d v:=by
 cases d<;>rfl
def aGf{α:Type}(f:Nat->α)(i:Nat)(v:α)(h:f i=v):upd f i v=f:=by
 funext j;by_cases e:j=i
 .subst e;rw[Bi,h]
 .rw[BE _ _ e]
def QC{ops:Array Oper}{o:Oper}{t:Nat}(h:Operand.tmp t∈o.op.operands):t∈o.looksAt ops:=
 Bz _ (GO.2 ⟨.tmp t,by simpa using h,rfl⟩)
def aCP{ops:Array Oper}{o:Oper}{j g:Nat}{want:Bool}(hg:o.guard=I (j,want))(h:(ops[j]?).bind (·.dst)=I g):g∈o.looksAt ops:=by
 refine CW _ ?_;rw[hg];simp[h]
def aFz{ops:Array Oper}:∀(n:Nat) (o:Oper),(∀t∈aP ops n o,s2.T t=s.T t)->MJ ops s2 n o=MJ ops s n o
 | 0,_,_=>rfl
 | n+1,o,h=>by
  unfold MJ;unfold aP at h;cases hg:o.guard with
  | none=>rfl
  | some jw=>
   obtain⟨j,want⟩:=jw;rw[hg]at h;simp only at h ⊢;cases hj:ops[j]? with
   | none=>rfl
   | some oj=>
    rw[hj]at h;simp only at h;simp only[A6];cases hd:oj.dst with
    | none=>rfl
    | some g=>
     rw[hd]at h;simp only[A6,h g aG9,aFz n oj λt ht=>h t<|CW _ ht]
def axa{ops:Array Oper}{o:Oper}(hok:okO C o=Y)(hrd:∀t∈DH ops o,InA F<|s.T t)(hCN:∀id ob,N id->s.H id=I ob->Ey F ob)(hF:∀j,b<=j->j<b+16->F j)
  (hN:∀e:Step,b<=e.id->e.id<b+16->WS e)(hW:(E0 C s o=G->(∀e:Step,F e.id->e.fk= .no->WS e)/\ ∀e:Step,e.id∈JT C s o->WS e)/\ ∀l,E0 C s o=I l->∀e:Step,e.id∈l->WS e)
  (hNF:(pur o=Y/\o.guard=G/\(mov o.op=Y\/ ∀t∈DH ops o,InA N<|s.T t))\/ ∀id,F id->N id)(he:ev1 C ops o b s=I s'):abN C ops F N WS b o s s':=by
 have hop:∀x∈o.op.operands,InA F (s.ev x):=λx hx=>by
  cases x with
  | tmp t=>exact hrd t<|Bz _<|QC hx
  | const v=>exact aL v
  | _=>exact .of1 trivial
 have eop:∀s2:S,(∀t∈DH ops o,s2.T t=s.T t)->∀x∈o.op.operands,s2.ev x=s.ev x:=λs2 h x hx=>by
  cases x with
  | tmp t=>exact h t<|Bz _<|QC hx
  | _=>rfl
 have Gc:CR C (AF S) o b s I=I s'->∃(v:AV) (es:List Step),InA F v/\(∀e∈es,WS e/\Gt F e)/\s'=(es.foldl S.app s).put o.dst v/\
  ∀s2:S,(∀x∈o.op.operands,s2.ev x=s.ev x)->s2.has o.dst=s.has o.dst->Agr N s.H s2.H->CR C (AF S) o b s2 I=I ((es.foldl S.app s2).put o.dst v):=
  λh=>awD hok hop hCN hF hN hW (hNF.imp (λh=>⟨h.1,h.2.2.imp id λh x hx=>by
   cases x with
   | tmp t=>exact h t<|Bz _<|QC hx
   | const v=>exact aL v
   | _=>exact .of1 trivial⟩) id) h
 unfold ev1 evG at he;unfold abN ev1;split at he
 .rename_i hg;obtain⟨v,es,h1,h2,h3,h4⟩:=Gc he;refine⟨G,v,es,h1,h2,nofun,by rw[OU];exact h3,λs2 e1 e2 e3=> ?_⟩;unfold evG;rw[hg,OU];exact h4 s2 (eop s2 e1) e2.has e3
 .rename_i j want hg;have hNs:∀id,F id->N id:=hNF.resolve_left λh=>by rw[hg]at h;cases h.2.1
  have hC:DY F s.H:=λid ob hid ho=>hCN id ob (hNs id hid) ho;split at he
  .cases he
  .rename_i g hgd hsp;have hgl:g∈DH ops o:=Bz _<|aCP hg hgd;split at he
   .rename_i qq v EZ hv;split at he
    .rename_i hn;split at he
     case isFalse=>cases he
     rename_i pz;cases he;have opn:∀x∈o.op.operands,InA F ((s.narrow g want).ev x):=λx hx=>by
      cases x with
      | tmp t=>
       show InA F (upd (λt=>Gb g want<|s.T t) g (.b want) t);by_cases e:t=g
       .subst e;rw[Bi];exact .of1 trivial
       .rw[BE _ _ e];exact aut<|hrd t<|Bz _<|QC hx
      | const v=>exact aL v
      | _=>exact .of1 trivial
     have hvF:InA F v:=ayK hok opn hC hF hv;have an7:InA F (.gd g want v):=by
      show In3 F v;cases v<;>first|(cases hn;done)|exact hvF
     refine⟨I g,.gd g want v,[],an7,by simp,λx hx=>by cases hx;exact hgl,rfl,λs2 e1 e2 e3=> ?_⟩;unfold evG;rw[hg];simp only[hgd,hsp];have e4:({ s2 with gs:=upd s2.gs g Y } :S).has o.dst=Y:=by rw[e2.more g];exact EZ
     have e5:spA C b o.dst (s2.narrow g want).ev s2.H o.op=I (qq,v):=by
      rw[ayJ (ρ:=(s.narrow g want).ev) (H:=s.H) (F:=F) (λx hx=> ?_) opn hC<|e3.mono hNs]
      .exact hv
      .cases x with
       | tmp t=>
        show upd (λt=>Gb g want<|s2.T t) g (.b want) t=upd (λt=>Gb g want<|s.T t) g (.b want) t;by_cases e:t=g
        .subst e;rw[Bi,Bi]
        .rw[BE _ _ e,BE _ _ e,e1 t<|Bz _<|QC hx]
       | _=>rfl
     have e6:MJ ops s2 4 o=MJ ops s 4 o:=aFz 4 o λt ht=>e1 t<|CW _ ht;rw[e4,e5];simp only[hn,e6,pz,A2];rfl
    .cases he
   .cases he
  .rename_i g hgd hsp;have hgl:g∈DH ops o:=Bz _<|aCP hg hgd;split at he
   .rename_i c hT;have same:∀(s0:S) (w:Bool),s0.T g= .lit (.bool c)->c=w->({ s0 with T:=upd s0.T g (.b w) } :S)=s0:=λs0 w h e=>by
     subst e;rw[aGf _ _ _ h]
    have yes:CR C (AF S) o b { s with T:=upd s.T g (.b want) } I=I s'->c=want->
      ∃(gg:Option Nat) (v:AV) (es:List Step),InA F v/\(∀e∈es,WS e/\Gt F e)/\(∀x,gg=I x->x∈DH ops o)/\s'=(es.foldl S.app s).fin gg o.dst v/\
       ∀s2:S,(∀t∈DH ops o,s2.T t=s.T t)->KS s s2 o.dst->Agr N s.H s2.H->evG C (AF S) ops o b s2 I=I ((es.foldl S.app s2).fin gg o.dst v):=by
     intro he e;rw[same s want hT e]at he;obtain⟨v,es,h1,h2,h3,h4⟩:=Gc he;refine⟨G,v,es,h1,h2,nofun,by rw[OU];exact h3,λs2 e1 e2 e3=> ?_⟩;have hT2:s2.T g= .lit (.bool c):=(e1 g hgl).trans hT;have:=h4 s2 (eop s2 e1) e2.has e3;unfold evG;rw[hg,OU];simp only[hgd,hsp,hT2];have e5:=same s2 want hT2 e;subst e;cases c<;>simp only[A2,if_false,Hj]<;>rw[e5]<;>exact this
    have no:(match s.has o.dst with
      | true=>I (({ s with T:=upd s.T g (.b<|!want) } :S).put o.dst Dp)
      | false=>G)=I s'->c= !want->
      ∃(gg:Option Nat) (v:AV) (es:List Step),InA F v/\(∀e∈es,WS e/\Gt F e)/\(∀x,gg=I x->x∈DH ops o)/\s'=(es.foldl S.app s).fin gg o.dst v/\
       ∀s2:S,(∀t∈DH ops o,s2.T t=s.T t)->KS s s2 o.dst->Agr N s.H s2.H->evG C (AF S) ops o b s2 I=I ((es.foldl S.app s2).fin gg o.dst v):=by
     intro he e;rw[same s _ hT e]at he;split at he
     .rename_i EZ;cases he;refine⟨G,Dp,[],.of1 trivial,by simp,nofun,by rw[OU];rfl,λs2 e1 e2 e3=> ?_⟩;have hT2:s2.T g= .lit (.bool c):=(e1 g hgl).trans hT;have hh2:=e2.has.trans EZ;unfold evG;rw[hg,OU];simp only[hgd,hsp,hT2];have e5:=same s2 _ hT2 e;subst e;cases want<;>simp only[AB,AH]at e5<;>simp only[AB,AH,A2,if_false,Hj,hh2]<;>rw[e5]<;>rfl
     .cases he
    cases want<;>cases c<;>simp only[A2,if_false,Hj]at he
    .exact yes he rfl
    .exact no he rfl
    .exact no he rfl
    .exact yes he rfl
   .rename_i vs hT;split at he
    .rename_i EZ;cases he;refine⟨G,Dp,[],.of1 trivial,by simp,nofun,by rw[OU];rfl,λs2 e1 e2 e3=> ?_⟩;have hT2:s2.T g= .lit (.tuple vs):=(e1 g hgl).trans hT;have hh2:=e2.has.trans EZ;unfold evG;rw[hg,OU];simp only[hgd,hsp,hT2,hh2];rfl
    .cases he
   .cases he
end
end Go.VS
namespace Go.VS
open Go
section
variable {F GH N:Nat->Prop} {H H':Hp} {P:Program} {s s' s2:S} {b:Nat} {C:Cx}
def Gt.mono(h:∀id,F id->GH id){e:Step}(he:Gt F e):Gt GH e:=λob eo=>by
 have:=he ob eo;cases ob<;>first|trivial|exact λc hc=>(this c hc).mono h
def Fk.azN(id:Nat)(fk:Fk){c:AV}(h:In1 F c)(hn:¬F id):fk.f id c=c:=by
 have ne:∀j,F j->Af j id=A0:=λj hj=>by
  cases e:Af j id with
  | false=>rfl
  | true=>exact absurd (Br e▸hj) hn
 cases fk with
 | no=>rfl
 | kl=>
  cases c<;>first|rfl|(simp only[Fk.f,kl1,ne _ h];done)
 | fz k xs=>
  cases c<;>first|rfl|(simp only[Fk.f,fz1,ne _ h];done)
def aCl{f:AV->AV}(hf:∀c,In1 F c->f c=c){v:AV}(h:In2 F v):Fv f v=v:=by
 cases v<;>first|exact hf _ h|skip
 rename_i cs;exact congrArg AV.agg<|(Gi λc hc=>hf c<|h c hc).trans<|mg cs
def aCj{f:AV->AV}(hf:∀c,In1 F c->f c=c){v:AV}(h:In3 F v):GD f v=v:=by
 have gen:In2 F v->Fv f v=v:=λh=>aCl hf h;cases v<;>first|exact gen h|skip
 rename_i cs;exact congrArg AV.tup<|(Gi λc hc=>aCl hf<|h c hc).trans<|mg cs
def lO{f:AV->AV}(hf:∀c,In1 F c->f c=c){v:AV}(h:InA F v):Ew f v=v:=by
 have gen:In3 F v->GD f v=v:=λh=>aCj hf h;cases v with
 | gd g w v=>exact congrArg (AV.gd g w)<|aCj hf h
 | _=>exact gen h
def kv{f:AV->AV}(hf:∀c,In1 F c->f c=c){o:Option Ob}(h:∀ob,o=I ob->Ey F ob):CP f o=o:=by
 cases o with
 | none=>rfl
 | some ob=>
  have:=h ob rfl;cases ob<;>first|rfl|skip
  rename_i e cs;exact congrArg (λl=>I<|Ob.box e l)<|(Gi λc hc=>hf c<|this c hc).trans<|mg cs
def Fk.RV{e:Step}{c:AV}(h:In1 F c)(hn:e.fk= .no\/ ¬F e.id):e.fk.f e.id c=c:=by
 obtain hn|hn:=hn
 .rw[hn];rfl
 .exact Fk.azN _ _ h hn
def kL{t:Nat}:∀(es:List Step) (s:S),(∀e∈es,e.fk= .no\/ ¬F e.id)->InA F (s.T t)->(es.foldl S.app s).T t=s.T t
 | [],_,_,_=>rfl
 | e::es,s,h,ht=>by
  have h1:(s.app e).T t=s.T t:=lO (λc hc=>Fk.RV hc<|h e Ao) ht;show(es.foldl S.app<|s.app e).T t=s.T t;rw[kL es _ (λe' he=>h e'<|Ah _ he) (by rw[h1];exact ht),h1]
def PD(N F:Nat->Prop)(H:Hp):Prop:=∀id ob,N id->H id=I ob->Ey F ob
def kM:∀(es:List Step) (s:S),(∀e∈es,¬N e.id/\(e.fk= .no\/ ¬F e.id))->PD N F s.H->Agr N s.H (es.foldl S.app s).H
 | [],_,_,_=>Agr.refl _ _
 | e::es,s,h,hC=>by
  have h1:Agr N s.H (s.app e).H:=λid hid=>by
   rw[LP,A9 fun(e':id=e.id)=>(h e Ao).1<|e'▸hid];exact kv (λc hc=>Fk.RV hc (h e Ao).2) λob ho=>hC id ob hid ho
  have hC1:PD N F (s.app e).H:=λid ob hid ho=>hC id ob hid (by rw[← h1 id hid];exact ho);intro id hid;show(es.foldl S.app<|s.app e).H id=s.H id;rw[kM es _ (λe' he=>h e'<|Ah _ he) hC1 id hid,h1 id hid]
def aDc:∀(es:List Step) (s:S),(∀e∈es,Gt F e\/ ¬N e.id)->PD N F s.H->PD N F (es.foldl S.app s).H
 | [],_,_,h=>h
 | e::es,s,h,hC=>by
  refine aDc es (s.app e) (λe' he=>h e'<|Ah _ he) ?_;intro id ob hid ho;rw[LP]at ho;split at ho
  .rename_i e';obtain h1|h1:=h e Ao
   .exact h1 ob ho
   .exact absurd (e'▸hid) h1
  .exact aGc (λc hc=>Fk.bM _ _ hc) (λob ho=>hC id ob hid ho) ob ho
def aC9{id:Nat}:∀(es:List Step) (s:S),(∀e∈es,e.id≠id)->s.H id=G->(es.foldl S.app s).H id=G
 | [],_,_,h=>h
 | e::es,s,hn,h=>by
  refine aC9 es _ (λe' he=>hn e'<|Ah _ he) ?_;rw[LP,A9 λe'=>hn e Ao e'.symm,h];rfl
def lZ{t:Nat}:∀(es:List Step) (s:S),InA F (s.T t)->InA F ((es.foldl S.app s).T t)
 | [],_,h=>h
 | e::es,s,h=>lZ es (s.app e) (aaG (λc hc=>Fk.bM _ _ hc) h)
def Fk.Ul{i j:Nat}(h:i≠j)(f g:Fk)(c:AV):f.f i (g.f j c)=g.f j (f.f i c):=by
 have h1:Af i j=A0:=by rw[← GK,HJ];exact h
 have h2:Af j i=A0:=by rw[← GK,HJ];exact LL h
 have key:∀id,(Af id i=Y->Af id j=A0):=λid e=>by rw[Br e];exact h1
 cases c with
 | own id=>
  cases f<;>cases g<;>simp only[Fk.f,kl1,fz1]<;>cases e1:Af id i<;>cases e2:Af id j<;>simp only[e1,e2]<;>
   first|rfl|(rw[key id e1]at e2;cases e2)
 | ptr id z a o=>
  cases f<;>cases g<;>simp only[Fk.f,kl1,fz1]<;>cases e1:Af id i<;>cases e2:Af id j<;>simp only[e1,e2]<;>
   first|rfl|(rw[key id e1]at e2;cases e2)
 | _=>cases f<;>cases g<;>rfl
def plA:AV->Bool
 | .agg _=>A0
 | .tup _=>A0
 | .gd _ _ _=>A0
 | _=>Y
def RB(id:Nat)(fk:Fk){c:AV}(h:plA c=Y):plA (fk.f id c)=Y:=by
 cases fk with
 | no=>exact h
 | kl=>
  cases c<;>first|exact h|skip
  .simp only[Fk.f,kl1];split<;>rfl
  .simp only[Fk.f,kl1];split<;>rfl
 | fz k xs=>
  cases c<;>first|exact h|skip
  .simp only[Fk.f,fz1];split<;>rfl
  .simp only[Fk.f,fz1];split<;>rfl
def Yv{f:AV->AV}{c:AV}(h:plA c=Y):Fv f c=f c:=by cases c<;>first|rfl|cases h
def Yu{f:AV->AV}{c:AV}(h:plA c=Y):GD f c=f c:=by cases c<;>first|rfl|cases h
def ZX{f:AV->AV}{c:AV}(h:plA c=Y):Ew f c=f c:=by cases c<;>first|rfl|cases h
section comm
variable {i j:Nat} (hij:i≠j) (f g:Fk)
include hij
def kc(v:AV):Fv (f.f i) (Fv (g.f j) v)=Fv (g.f j) (Fv (f.f i) v):=by
 by_cases hp:plA v=Y
 .rw[Yv hp,Yv hp,Yv<|RB _ _ hp,Yv<|RB _ _ hp,Fk.Ul hij]
 .cases v with
  | agg cs=>simp only[Fv,IF];exact congrArg AV.agg<|Gi λc _=>Fk.Ul hij f g c
  | tup cs=>cases f<;>cases g<;>rfl
  | gd a b c=>cases f<;>cases g<;>rfl
  | _=>exact absurd rfl hp
def aCk(v:AV):GD (f.f i) (GD (g.f j) v)=GD (g.f j) (GD (f.f i) v):=by
 by_cases hp:plA v=Y
 .rw[Yu hp,Yu hp,Yu<|RB _ _ hp,Yu<|RB _ _ hp,Fk.Ul hij]
 .cases v with
  | agg cs=>exact kc hij f g<|.agg cs
  | tup cs=>simp only[GD,IF];exact congrArg AV.tup<|Gi λc _=>kc hij f g c
  | gd a b c=>cases f<;>cases g<;>rfl
  | _=>exact absurd rfl hp
def aDv(v:AV):Ew (f.f i) (Ew (g.f j) v)=Ew (g.f j) (Ew (f.f i) v):=by
 by_cases hp:plA v=Y
 .rw[ZX hp,ZX hp,ZX<|RB _ _ hp,ZX<|RB _ _ hp,Fk.Ul hij]
 .cases v with
  | agg cs=>exact kc hij f g<|.agg cs
  | tup cs=>exact aCk hij f g<|.tup cs
  | gd a b c=>exact congrArg (AV.gd a b)<|aCk hij f g c
  | _=>exact absurd rfl hp
def at7(o:Option Ob):CP (f.f i) (CP (g.f j) o)=CP (g.f j) (CP (f.f i) o):=by
 cases o with
 | none=>rfl
 | some o=>
  cases o with
  | box e cs=>simp only[CP,IF];exact congrArg (λl=>I<|Ob.box e l)<|Gi λc _=>Fk.Ul hij f g c
  | _=>rfl
end comm
def S.ext'{s s':S}(h1:s.n=s'.n)(h2:s.T=s'.T)(h3:s.H=s'.H)(h4:s.nid=s'.nid)(h5:s.st=s'.st)(h6:s.pins=s'.pins)(h7:s.gs=s'.gs):s=s':=by
 cases s;cases s';simp_all
def aw9{e e':Step}(hn:e.id≠e'.id)(h1:CP (e'.fk.f e'.id) e.ob=e.ob)(h2:CP (e.fk.f e.id) e'.ob=e'.ob):(s.app e).app e'=(s.app e').app e:=by
 refine S.ext' rfl (funext λt=>aDv hn.symm e'.fk e.fk (s.T t)) (funext λid=> ?_) rfl ?_ rfl rfl
 .rw[LP,LP,LP,LP];by_cases a1:id=e'.id
  .subst a1;rw[A5 rfl,A9 hn.symm,A5 rfl,h2]
  .rw[A9 a1,A9 a1];by_cases a2:id=e.id
   .rw[A5 a2,A5 a2,h1]
   .rw[A9 a2,A9 a2,at7 hn.symm e'.fk e.fk]
 .show(s.st.map _).map _=(s.st.map _).map _;rw[IF,IF];exact Gi λT _=>funext λt=>aDv hn.symm e'.fk e.fk (T t)
def WkS(F W K:Nat->Prop)(e:Step):Prop:=(W e.id/\(e.fk= .no\/K e.id))/\Gt F e
def Wk(F W K:Nat->Prop)(es:List Step):Prop:=∀e∈es,WkS F W K e
def aBJ{F F' W W' K K':Nat->Prop}(hW:∀id,W id->¬W' id)(h1:∀id,K id->¬F' id)(h2:∀id,K' id->¬F id){e:Step}(he:WkS F W K e):∀(es:List Step) (s:S),Wk F' W' K' es->(es.foldl S.app s).app e=es.foldl S.app (s.app e)
 | [],_,_=>rfl
 | e'::es,s,h=>by
  have he':=h e' Ao;have hn:e.id≠e'.id:=λx=>hW _ he.1.1<|x▸he'.1.1;have c:=aw9 (s:=s) hn (kv (F:=F) (λc hc=>Fk.RV hc<|he'.1.2.imp id<|h2 _) he.2) (kv (F:=F') (λc hc=>Fk.RV hc<|he.1.2.imp id<|h1 _) he'.2);show(es.foldl S.app<|s.app e').app e=es.foldl S.app ((s.app e).app e');rw[aBJ hW h1 h2 he es _ λe0 h0=>h e0<|Ah _ h0,c]
def aEp{F F' W W' K K':Nat->Prop}(hW:∀id,W id->¬W' id)(h1:∀id,K id->¬F' id)(h2:∀id,K' id->¬F id):∀(es es':List Step) (s:S),Wk F W K es->Wk F' W' K' es'->es.foldl S.app (es'.foldl S.app s)=es'.foldl S.app (es.foldl S.app s)
 | [],_,_,_,_=>rfl
 | e::es,es',s,h,h'=>by
  show es.foldl S.app ((es'.foldl S.app s).app e)=es'.foldl S.app (es.foldl S.app<|s.app e);rw[aBJ hW h1 h2 (h e Ao) es' s h',aEp hW h1 h2 es es' _ (λe0 h0=>h e0<|Ah _ h0) h']
def axR{e:Step}{g d:Option Nat}{v:AV}(hv:Ew (e.fk.f e.id) v=v):(s.fin g d v).app e=(s.app e).fin g d v:=by
 cases d with
 | none=>exact S.ext' rfl rfl rfl rfl rfl rfl rfl
 | some d=>
  refine S.ext' rfl (funext λt=> ?_) rfl rfl rfl rfl rfl;show Ew _ (upd s.T d v t)=upd (λt=>Ew _<|s.T t) d v t;by_cases e:t=d
  .subst e;rw[Bi,Bi,hv]
  .rw[BE _ _ e,BE _ _ e]
def nS{g d:Option Nat}{v:AV}:∀(es:List Step) (s:S),(∀e∈es,Ew (e.fk.f e.id) v=v)->es.foldl S.app (s.fin g d v)=(es.foldl S.app s).fin g d v
 | [],_,_=>rfl
 | e::es,s,h=>by
  show es.foldl S.app ((s.fin g d v).app e)=(es.foldl S.app<|s.app e).fin g d v;rw[axR<|h e Ao,nS es _ λe' h'=>h e'<|Ah _ h']
def awB{g g' d d':Option Nat}{v v':AV}(hd:∀t,d=I t->d'≠I t):(s.fin g d v).fin g' d' v'=(s.fin g' d' v').fin g d v:=by
 have hT:∀(d d':Nat) (v v':AV) (T:Nat->AV),d≠d'->upd (upd T d v) d' v'=upd (upd T d' v') d v:=λd d' v v' T hn=>by
  funext t;by_cases e:t=d'
  .subst e;rw[Bi,BE _ _ hn.symm,Bi]
  .rw[BE _ _ e];by_cases e2:t=d
   .subst e2;rw[Bi,Bi]
   .rw[BE _ _ e2,BE _ _ e2,BE _ _ e]
 have hG:∀(g g':Nat) (T:Nat->Bool),upd (upd T g Y) g' Y=upd (upd T g' Y) g Y:=λg g' T=>by
  funext t;by_cases e:t=g'
  .subst e;rw[Bi];by_cases e2:t=g
   .subst e2;rw[Bi]
   .rw[BE _ _ e2,Bi]
  .rw[BE _ _ e];by_cases e2:t=g
   .subst e2;rw[Bi,Bi]
   .rw[BE _ _ e2,BE _ _ e2,BE _ _ e]
 refine S.ext' ?_ ?_ ?_ ?_ ?_ ?_ ?_
 .cases d<;>cases d'<;>rfl
 .cases d with
  | none=>cases d'<;>rfl
  | some d=>cases d' with
   | none=>rfl
   | some d'=>exact hT _ _ _ _ s.T (λe=>hd d rfl (by rw[e]))
 .cases d<;>cases d'<;>rfl
 .cases d<;>cases d'<;>rfl
 .cases d<;>cases d'<;>rfl
 .cases d<;>cases d'<;>rfl
 .cases d<;>cases d'<;>cases g<;>cases g'<;>first|rfl|exact hG _ _ s.gs
end
end Go.VS
namespace Go.VS
open Go
structure Lb where
 b:Nat->Nat
 F:Nat->Nat->Prop
 N:Nat->Nat->Prop
 W:Nat->Nat->Prop
 K:Nat->Nat->Prop
 V:Nat->Nat->Prop
 R:Nat->Nat->Prop
def Stp(C:Cx)(ops:Array Oper)(o:Oper)(b:Nat)(F N W K V:Nat->Prop)(s s':S):Prop:=
 ∃(g:Option Nat) (v:AV) (es:List Step),InA F v/\(∀t,o.dst=I t->InA V v)/\Wk F W K es/\(∀x,g=I x->x∈DH ops o)/\s'=(es.foldl S.app s).fin g o.dst v/\
  ∀s2:S,(∀t∈DH ops o,s2.T t=s.T t)->KS s s2 o.dst->Agr N s.H s2.H->ev1 C ops o b s2=I ((es.foldl S.app s2).fin g o.dst v)
section
variable {C:Cx} {ops:Array Oper} {s s' s0 s1 s2:S}
def Stp.ev{o:Oper}{b:Nat}{F N W K V:Nat->Prop}(h:Stp C ops o b F N W K V s s'):ev1 C ops o b s=I s':=by
 obtain⟨g,v,es,_,_,_,_,rfl,h⟩:=h;exact h s (λ_ _=>rfl) ⟨rfl,rfl,λ_ _=>rfl⟩<|Agr.refl _ _
def ae{g d:Option Nat}{v:AV}{t:Nat}:(s.fin g d v).T t=if d=I t then v else s.T t:=by
 cases d with
 | none=>simp[S.fin,S.put]
 | some d=>
  show upd s.T d v t=_;by_cases e:t=d
  .subst e;rw[Bi];simp
  .rw[BE _ _ e,A9 λe'=>e<|by simpa using e'.symm]
def af{g d:Option Nat}{v:AV}:(s.fin g d v).H=s.H:=by cases d<;>rfl
def abB{g d:Option Nat}{v:AV}{t:Nat}(h:g≠I t):(s.fin g d v).gs t=s.gs t:=by
 cases g with
 | none=>cases d<;>rfl
 | some g=>
  have:t≠g:=λe=>h (by rw[e]);cases d<;>exact BE _ _ this
def Stp.swap{x i:Oper}{bx bi:Nat}{Fx Nx Wx Kx Vx Fi Ni Wi Ki Vi:Nat->Prop}(h1:Stp C ops x bx Fx Nx Wx Kx Vx s0 s1)(h2:Stp C ops i bi Fi Ni Wi Ki Vi s1 s2)
  (kxi:∀id,Kx id->¬Fi id)(kix:∀id,Ki id->¬Fx id)(nxi:∀id,Wx id->¬Ni id)(nix:∀id,Wi id->¬Nx id)(wxi:∀id,Wx id->¬Wi id)(dxi:∀t,x.dst=I t->t ∉ DH ops i)(dix:∀t,i.dst=I t->t ∉ DH ops x)(hd:∀t,x.dst=I t->i.dst≠I t)
  (rx:∀t∈DH ops x,InA Fx<|s0.T t)(cx:PD Nx Fx s0.H)(ri:∀t∈DH ops i,InA Fi<|s0.T t)(ci:PD Ni Fi s0.H):
  ∃s0',Stp C ops i bi Fi Ni Wi Ki Vi s0 s0'/\Stp C ops x bx Fx Nx Wx Kx Vx s0' s2:=by
 obtain⟨g1,v1,es1,a1,a2,a3,a4,a5,a6⟩:=h1;obtain⟨g2,v2,es2,b1,b2,b3,b4,b5,b6⟩:=h2;have n1:∀e∈es1,e.fk= .no\/ ¬Fi e.id:=λe he=>(a3 e he).1.2.imp id<|kxi _;have p1:∀e∈es1,¬Ni e.id/\(e.fk= .no\/ ¬Fi e.id):=λe he=>⟨nxi _ (a3 e he).1.1,n1 e he⟩;have n2:∀e∈es2,e.fk= .no\/ ¬Fx e.id:=λe he=>(b3 e he).1.2.imp id<|kix _;have p2:∀e∈es2,¬Nx e.id/\(e.fk= .no\/ ¬Fx e.id):=λe he=>⟨nix _ (b3 e he).1.1,n2 e he⟩;have T1:∀t∈DH ops i,s1.T t=s0.T t:=λt ht=>by
  rw[a5,ae,A9 λe=>dxi t e ht];exact kL es1 s0 n1<|ri t ht
 have H1:Agr Ni s0.H s1.H:=by
  rw[a5,af];exact kM es1 s0 p1 ci
 have E1:KS s0 s1 i.dst:=by
  obtain⟨p1,p2,p3,_⟩:=ny es1 s0;rw[a5];refine⟨?_, ?_,λt ht=> ?_⟩
  .rw[← p2];cases x.dst<;>rfl
  .rw[← p3];cases x.dst<;>rfl
  .rw[abB λe=>dix t ht<|a4 t e,p1]
 have step:∀s3:S,(∀t∈DH ops i,s3.T t=s0.T t)->KS s0 s3 i.dst->Agr Ni s0.H s3.H->ev1 C ops i bi s3=I ((es2.foldl S.app s3).fin g2 i.dst v2):=λs3 e1 e2 e3=>
  b6 s3 (λt ht=>by rw[e1 t ht,T1 t ht]) ⟨e2.1.trans E1.1.symm,e2.2.1.trans E1.2.1.symm,λt ht=>by rw[e2.2.2 t ht,E1.2.2 t ht]⟩ (λid hid=>by rw[e3 id hid,H1 id hid])
 have T2:∀t∈DH ops x,((es2.foldl S.app s0).fin g2 i.dst v2).T t=s0.T t:=λt ht=>by
  rw[ae,A9 λe=>dix t e ht];exact kL es2 s0 n2<|rx t ht
 have H2:Agr Nx s0.H ((es2.foldl S.app s0).fin g2 i.dst v2).H:=by
  rw[af];exact kM es2 s0 p2 cx
 have E2:KS s0 ((es2.foldl S.app s0).fin g2 i.dst v2) x.dst:=by
  obtain⟨p1,p2,p3,_⟩:=ny es2 s0;refine⟨?_, ?_,λt ht=> ?_⟩
  .rw[← p2];cases i.dst<;>rfl
  .rw[← p3];cases i.dst<;>rfl
  .rw[abB λe=>dxi t ht<|b4 t e,p1]
 have eq:s2=(es1.foldl S.app<|(es2.foldl S.app s0).fin g2 i.dst v2).fin g1 x.dst v1:=by
  have m1:∀e∈es1,Ew (e.fk.f e.id) v2=v2:=λe he=>lO (λc hc=>Fk.RV hc<|n1 e he) b1;have m2:∀e∈es2,Ew (e.fk.f e.id) v1=v1:=λe he=>lO (λc hc=>Fk.RV hc<|n2 e he) a1;rw[b5,a5,nS es2 _ m2,nS es1 _ m1,aEp wxi kxi kix es1 es2 s0 a3 b3,awB hd]
 refine⟨(es2.foldl S.app s0).fin g2 i.dst v2,⟨g2,v2,es2,b1,b2,b3,b4,rfl,step⟩,⟨g1,v1,es1,a1,a2,a3,a4,eq,λs3 e1 e2 e3=> ?_⟩⟩;exact a6 s3 (λt ht=>by rw[e1 t ht,T2 t ht]) ⟨e2.1.trans E2.1,e2.2.1.trans E2.2.1,λt ht=>by rw[e2.2.2 t ht,E2.2.2 t ht]⟩ λid hid=>by rw[e3 id hid,H2 id hid]
inductive Run (C:Cx) (ops:Array Oper) (L:Lb):List Nat->S->S->Prop
 | nil {s:S} :Run C ops L [] s s
 | cons {i:Nat} {o:Oper} {l:List Nat} {s s1 s':S} (ho:ops[i]? =I o) (h:Stp C ops o (L.b i) (L.F i) (L.N i) (L.W i) (L.K i) (L.V i) s s1) (t:Run C ops L l s1 s'):Run C ops L (i::l) s s'
def Fit(ops:Array Oper)(L:Lb)(Bd:List Nat)(s:S)(i:Nat):Prop:=∀o,ops[i]? =I o->
 (∀t∈DH ops o,(∀j∈Bd,L.R j i->∀oj,ops[j]? =I oj->oj.dst≠I t)->InA (L.F i) (s.T t)/\(mov o.op=Y\/InA (L.N i) (s.T t)))/\PD (L.N i) (L.F i) s.H/\(∀id,L.b i<=id->id<L.b i+16->s.H id=G)
def Ind(ops:Array Oper)(L:Lb)(x i:Nat):Prop:=∀ox oi,ops[x]? =I ox->ops[i]? =I oi->
 (∀id,L.K x id->¬L.F i id)/\(∀id,L.K i id->¬L.F x id)/\(∀id,L.W x id->¬L.N i id)/\(∀id,L.W i id->¬L.N x id)/\(∀id,L.W x id->¬L.W i id)/\
 (∀id,L.b i<=id->id<L.b i+16->¬L.F x id)/\(∀id,L.b x<=id->id<L.b x+16->¬L.F i id)/\(∀t,ox.dst=I t->t ∉ DH ops oi)/\(∀t,oi.dst=I t->t ∉ DH ops ox)
def Bef(ops:Array Oper)(L:Lb)(x i:Nat):Prop:=∀ox oi,ops[x]? =I ox->ops[i]? =I oi->
 ((∀id,L.W x id->¬L.N i id)\/(∀id,L.F x id->L.F i id))/\(∀t,ox.dst=I t->t∈DH ops oi->(∀id,L.V x id->L.F i id)/\(mov oi.op=Y\/ ∀id,L.V x id->L.N i id))/\(∀id,L.b i<=id->id<L.b i+16->¬L.F x id)
structure PT (ops:Array Oper) (L:Lb):Prop where
 WF:∀i id,L.W i id->L.F i id
 NF:∀i id,L.N i id->L.F i id
 NW:∀i id,L.b i<=id->id<L.b i+16->L.W i id
 lt:∀x i,L.R x i->x<i
 dst:∀(x i:Nat) (ox oi:Oper) (t:Nat),x≠i->ops[x]? =I ox->ops[i]? =I oi->ox.dst=I t->oi.dst≠I t
 anc:∀(x i:Nat) (oi:Oper),ops[i]? =I oi->L.R x i->∃e∈oi.after,Fj .any e=Y/\(e.on=x\/L.R x e.on)
 dir:∀(i:Nat) (oi:Oper) (e:Edge),ops[i]? =I oi->e∈oi.after->Fj .any e=Y->e.on<i
 bef:∀x i,L.R x i->Bef ops L x i
 ind:∀x i,x<i->¬L.R x i->Ind ops L x i
variable {L:Lb}
def Ind.symm{x i:Nat}(h:Ind ops L x i):Ind ops L i x:=λoi ox hi hx=>by
 obtain⟨a,b,c,d,e,f,g,p,q⟩:=h ox oi hx hi;exact⟨b,a,d,c,λid h1 h2=>e id h2 h1,g,f,q,p⟩
def Fit.step(hn:PT ops L){Bd:List Nat}{x i:Nat}{ox:Oper}(hox:ops[x]? =I ox)(hxi:x≠i)(hRi:¬L.R i x)(h:Stp C ops ox (L.b x) (L.F x) (L.N x) (L.W x) (L.K x) (L.V x) s s')(hf:Fit ops L Bd s i){U':List Nat}(hU:∀j∈Bd,j=x\/j∈U'):
  Fit ops L U' s' i:=by
 intro oi hoi;obtain⟨f1,f2,f3⟩:=hf oi hoi;obtain⟨g,v,es,a1,a2,a3,a4,rfl,a6⟩:=h;have pc:(((∀id,L.W x id->¬L.N i id)\/(∀id,L.F x id->L.F i id))/\(∀t,ox.dst=I t->t∈DH ops oi->(∀id,L.V x id->L.F i id)/\(mov oi.op=Y\/ ∀id,L.V x id->L.N i id))/\(∀id,L.b i<=id->id<L.b i+16->¬L.F x id)):=by
  by_cases hR:L.R x i
  .exact hn.bef x i hR ox oi hox hoi
  .have hI:Ind ops L x i:=by
    obtain h|h:=U5 hxi
    .exact hn.ind x i h hR
    .exact(hn.ind i x h hRi).symm
   obtain⟨_,_,b1,_,_,b6,_,b8,_⟩:=hI ox oi hox hoi;exact⟨.inl b1,λt h1 h2=>absurd h2<|b8 t h1,b6⟩
 obtain⟨p1,p2,p3⟩:=pc;refine⟨λt ht PZ=> ?_, ?_,λid h1 h2=> ?_⟩
 .rw[ae];split
  .rename_i hd;exact⟨(a2 t hd).mono (p2 t hd ht).1,(p2 t hd ht).2.imp id λh=>(a2 t hd).mono h⟩
  .rename_i hd;have:=f1 t ht λj hj hR oj hoj e=>by
    obtain rfl|hj:=hU j hj
    .rw[hox]at hoj;cases hoj;exact hd e
    .exact PZ j hj hR oj hoj e
   exact⟨lZ es s this.1,this.2.imp id<|lZ es s⟩
 .rw[af];refine aDc es s (λe he=> ?_) f2;obtain p1|p1:=p1
  .exact .inr (p1 _ (a3 e he).1.1)
  .exact .inl ((a3 e he).2.mono p1)
 .rw[af];exact aC9 es s (λe he e'=>p3 id h1 h2<|e'▸hn.WF x _ (a3 e he).1.1)<|f3 id h1 h2
def Run.first(hn:PT ops L){i:Nat}{l2:List Nat}:∀(l1:List Nat) (s:S),Run C ops L (l1++i::l2) s s'->(l1++i::l2).Pairwise (· < ·)->(∀j∈l1++i::l2,¬L.R j i)->
  (∀j∈l1++i::l2,Fit ops L (l1++i::l2) s j)->Run C ops L (i::(l1++l2)) s s'
 | [],s,h,_,_,_=>h
 | x::l1,s,h,hp,hr,hf=>by
  cases h with
  | cons hox hx t=>
   rename_i ox s1;have hp':=KE.1 hp;have hxi:x<i:=hp'.1 i<|CW _ Ao;have ih:=Run.first hn l1 s1 t hp'.2 (λj hj=>hr j<|Ah _ hj) (λj hj=>by
    refine(hf j<|Ah _ hj).step hn hox (P8<|hp'.1 j hj) (λhR=>Nat.lt_asymm (hn.lt _ _ hR)<|hp'.1 j hj) hx λk hk=> ?_;obtain h|h:=Bj.1 hk
    .exact .inl h
    .exact .inr h)
   cases ih with
   | cons hoi hi t2=>
    rename_i oi s2;obtain⟨c1,c2,c3,c4,c5,_,_,c6,c7⟩:=hn.ind x i hxi (hr x Ao) ox oi hox hoi;obtain⟨fx1,fx2,_⟩:=hf x Ao ox hox;obtain⟨fi1,fi2,_⟩:=hf i (Ah _<|CW _ Ao) oi hoi;obtain⟨s0',k1,k2⟩:=Stp.swap hx hi c1 c2 c3 c4 c5 c6 c7 (λt ht=>hn.dst x i ox oi t (P8 hxi) hox hoi ht)
     (λt ht=>(fx1 t ht λj hj hR oj hoj e=>by
      obtain rfl|hj:=Bj.1 hj
      .exact absurd (hn.lt _ _ hR) (Nat.lt_irrefl _)
      .exact Nat.lt_asymm (hn.lt _ _ hR)<|hp'.1 j hj).1) fx2
     (λt ht=>(fi1 t ht λj hj hR oj hoj e=>hr j hj hR).1) fi2
    exact .cons hoi k1<|.cons hox k2 t2
end
end Go.VS
namespace Go.VS
open Go
section
variable {C:Cx} {B:Be} {ops:Array Oper} {L:Lb} {stk:List (Array Value)} {Q:Exit->Act->World->Prop}
def vJ{a:Array Bool}{i:Nat}(h:i<a.size)(ht:a.getD i Y=Y):a.getD i A0=Y:=by
 simp[h]at ht ⊢; exact ht
def aqT(hP:C.P=B.P)(hC:HW C B)(hn:PT ops L){s':S}(hQ:∀β a w,St B β stk s' a w->Q .normal a w):∀(n:Nat) (Bd:List Nat) (listed:Array Bool) (a:Act) (w:World) (β:Beta) (s:S),
  Bd.length=n->Run C ops L Bd s s'->Bd.Pairwise (· < ·)->(∀j,j∈Bd↔j<ops.size/\listed.getD j Y=A0)->listed.size=ops.size->(∀i x,i<ops.size->i ∉ Bd->L.R x i->x ∉ Bd)->
  (∀j∈Bd,Fit ops L Bd s j)->St B β stk s a w->wpAny B.P .any ops Q n listed a w:=by
 intro n
 induction n with
 | zero=>
  intro Bd listed a w β s hl hr hp hU hs hd hf hst;have:Bd=[]:=Df hl;subst this;cases hr;refine⟨?_,hQ β a w hst⟩;cases hrd:PA .any ops listed with
  | nil=>rfl
  | cons j l=>
   have hj:j∈PA .any ops listed:=by rw[hrd];exact Ao
   obtain⟨h1,o,ho,_⟩:=mem_ready.1 hj;have:=(hU j).2 ⟨(HH.1 ho).1,h1⟩;cases this
 | succ n ih=>
  intro Bd listed a w β s hl hr hp hU hs hd hf hst;refine⟨λqI=> ?_,λi hi=> ?_⟩
  .exfalso;cases Bd with
   | nil=>simp at hl
   | cons i0 l=>
    obtain⟨hlt,hun⟩:=(hU i0).1 Ao;obtain⟨o,ho⟩:∃o,ops[i0]? =I o:=⟨ops[i0],by simp[hlt]⟩;have hr0:i0∈PA .any ops listed:=mem_ready.2 ⟨hun,o,ho,λe he hb=>by
     have bf:=hn.dir i0 o e ho he hb;have am2:e.on ∉ i0::l:=λhm=>by
      obtain h|h:=Bj.1 hm
      .omega
      .have:=(KE.1 hp).1 _ h;omega
     have hsz:e.on<ops.size:=J
     refine vJ J ?_;cases hb':listed.getD e.on Y with
     | true=>rfl
     | false=>exact absurd ((hU e.on).2 ⟨hsz,hb'⟩) am2⟩
    rw[qI]at hr0;cases hr0
  .obtain⟨hun,oi,hoi,Ht⟩:=mem_ready.1 hi;have hlt:i<ops.size:=(HH.1 hoi).1;have hiU:i∈Bd:=(hU i).2 ⟨hlt,hun⟩;obtain⟨l1,l2,rfl⟩:=U3 hiU;have hRn:∀j∈l1++i::l2,¬L.R j i:=by
    intro j hj hR;obtain⟨e,he,hb,Ue⟩:=hn.anc j i oi hoi hR;have hel:=Ht e he hb;have heU:e.on ∉ l1++i::l2:=λhm=>by
     have h2:=((hU e.on).1 hm).2;have hsz:=((hU e.on).1 hm).1;have:listed.getD e.on Y=Y:=by simp[show e.on<listed.size by omega]at hel ⊢; exact hel
     rw[this]at h2;cases h2
    obtain h|h:=Ue
    .exact heU (h▸hj)
    .have bf:=hn.dir i oi e hoi he hb;exact hd e.on j J heU h hj
   have Ck:=Run.first hn l1 s hr hp hRn hf
   cases Ck with
   | cons Uv Ut t=>
    rename_i o' s1;rw[hoi]at Uv;cases Uv;have hnd:(l1++i::l2).Nodup:=hp.imp λh=>P8 h;have FR:∀j,j∈l1++l2↔j∈l1++i::l2/\j≠i:=by
     intro j;have Jj:=Jb.1 hnd;constructor
     .intro hj;refine⟨?_, ?_⟩
      .rcases BN.1 hj with h|h
       .exact Bz _ h
       .exact CW _ (Ah _ h)
      .rintro rfl;obtain h|h:=BN.1 hj
       .exact Jj.2.2 j h j Ao rfl
       .exact(IG.1 Jj.2.1).1 h
     .rintro⟨hj,hne⟩;obtain h|h:=BN.1 hj
      .exact Bz _ h
      .rcases Bj.1 h with h|h
       .exact absurd h hne
       .exact CW _ h
    refine nI hP hC hoi hst (b:=L.b i) (λj h1 h2=>(hf i hiU oi hoi).2.2 j h1 h2) Ut.ev ?_;intro β' u w' Mg;refine ih (l1++l2) _ _ _ β' s1 ?_ t ?_ ?_ ?_ ?_ ?_ Mg
    .simp at hl ⊢; omega
    .exact(NO.1 hp).1 |> λp1=>by
      have p2:=NO.1 hp;exact NO.2 ⟨p1,(KE.1 p2.2.1).2,λx hx y hy=>p2.2.2 x hx y<|Ah _ hy⟩
    .intro j;rw[FR,hU];by_cases e:j=i
     .subst e;simp
     .rw[getD_set_ne Y<|LL e];simp[e]
    .simpa using hs
    .intro k x hk hkU hR hx;have hxU:=((FR x).1 hx).1;by_cases e:k=i
     .subst e;exact hRn x hxU hR
     .exact hd k x hk (λh=>hkU<|(FR k).2 ⟨h,e⟩) hR hxU
    .intro j hj;obtain⟨hjU,hne⟩:=(FR j).1 hj;refine(hf j hjU).step hn hoi (LL hne) (hRn j hjU) Ut λk hk=> ?_;by_cases e:k=i
     .exact .inl e
     .exact .inr<|(FR k).2 ⟨hk,e⟩
def as3(hP:C.P=B.P)(hm:B.P.follows .mixedOrders=Y)(hC:HW C B)(hn:PT ops L){s s':S}(hr:Run C ops L (B1 ops.size) s s')(hf:∀j,j<ops.size->Fit ops L (B1 ops.size) s j)
  {id:Nat}{β:Beta}{a:Act}{w:World}(hst:St B β stk s a w)(hQ:∀β a w,St B β stk s' a w->Q .normal a w):(R5 id ops Y).wp B.P Q a w:=by
 refine wp_region_any hm ?_;have Mg:St B β stk s a { w with drawn:=w.drawn+1 } :=by
  have hk:Kp w β { w with drawn:=w.drawn+1 } β:=Kp.heap rfl;have:=hst.keep hk (H':=s.H)<|hst.hs.drew;exact this
 refine aqT hP hC hn hQ ops.size (B1 ops.size) _ a _ β s aG9 hr Qp (λj=> ?_) aG9 (λi x hi hiU hR=> ?_) (λj hj=>hf j<|Cy.1 hj) Mg
 .rw[Cy];constructor
  .intro h;exact⟨h,by simp[h]⟩
  .exact λh=>h.1
 .exact absurd (Cy.2 hi) hiU
end
end Go.VS
namespace Go.VS
open Go
abbrev Mm(M id:Nat):Prop:=M.testBit id=Y
def Eb(a b i:Nat):(BQ a b).testBit i=(a.testBit i||b.testBit i):=Nat.testBit_or a b i
def mB(a b i:Nat):(P9 a b).testBit i=(a.testBit i&&b.testBit i):=Nat.testBit_and a b i
def Zf{i j:Nat}:(bit i).testBit j=Y↔j=i:=by
 show(1 <<< i).testBit j=Y↔j=i;rw[Nat.one_shiftLeft,Nat.testBit_two_pow];simp[eq_comm]
def M8{b j:Nat}:(nm b).testBit j=Y↔b<=j/\j<b+16:=by
 show(65535 <<< b).testBit j=Y↔_;rw[Nat.testBit_shiftLeft,show(65535:Nat)=2 ^ 16 - 1 from rfl,Nat.testBit_two_pow_sub_one];simp;omega
def M4{l:List Nat}{j:Nat}:(msk l).testBit j=Y↔j∈l:=by
 induction l with
 | nil=>simp[msk]
 | cons i l ih=>
  show(BQ (bit i)<|msk l).testBit j=Y↔_;rw[Eb,C8,Zf,ih,Bj]
def Lu{a b:Nat}(h:dsj a b=Y):∀i,Mm a i->¬Mm b i:=λi h1 h2=>by
 have e:P9 a b=0:=Zt h;have:=mB a b i;rw[e,h1,h2]at this;simp at this
def TH{a b:Nat}(h:sbs a b=Y):∀i,Mm a i->Mm b i:=λi h1=>by
 have e:P9 a b=a:=Zt h;have:=mB a b i;rw[e,h1]at this;simpa using this.symm
def nY{a i:Nat}:tst a i=Y↔a.testBit i=Y:=by
 unfold tst;constructor
 .intro h;cases hb:a.testBit i with
  | true=>rfl
  | false=>
   have:dsj a (bit i)=Y:=by
    unfold dsj;have e:P9 a (bit i)=0:=Nat.eq_of_testBit_eq λj=>by
     rw[mB];cases hj:(bit i).testBit j with
     | false=>simp
     | true=>rw[Zf.1 hj,hb];simp
    rw[e];rfl
   rw[this]at h;cases h
 .intro h;cases hd:dsj a (bit i) with
  | false=>rfl
  | true=>exact absurd (Zf.2 rfl)<|Lu hd i h
section
variable {F:Nat->Prop} {H:Hp}
def aaO{v:AV}{l:List Nat}(h:Ng v=I l)(hF:∀i∈l,F i):In1 F v:=by
 cases v<;>first|(cases h;done)|(cases h;exact hF _ aG9)|trivial
def o6:∀ {cs:List AV} {l:List Nat},aj cs=I l->(∀i∈l,F i)->∀c∈cs,In1 F c
 | [],_,_,_,_,hc=>by cases hc
 | c::cs,l,h,hF,d,hd=>by
  obtain⟨a,h1,h⟩:=Ag.1 h;obtain⟨b,h2,h⟩:=Ag.1 h;cases h;obtain rfl|hd:=Bj.1 hd
  .exact aaO h1 λi hi=>hF i (Bz _ hi)
  .exact o6 h2 (λi hi=>hF i<|CW _ hi) d hd
def aaN{v:AV}{l:List Nat}(h:Nf v=I l)(hF:∀i∈l,F i):In2 F v:=by
 have gen:Ng v=I l->In2 F v:=λh=> .of1<|aaO h hF;cases v<;>first|exact o6 h hF|exact gen h
def aaL:∀ {cs:List AV} {l:List Nat},p6 cs=I l->(∀i∈l,F i)->∀c∈cs,In2 F c
 | [],_,_,_,_,hc=>by cases hc
 | c::cs,l,h,hF,d,hd=>by
  obtain⟨a,h1,h⟩:=Ag.1 h;obtain⟨b,h2,h⟩:=Ag.1 h;cases h;obtain rfl|hd:=Bj.1 hd
  .exact aaN h1 λi hi=>hF i (Bz _ hi)
  .exact aaL h2 (λi hi=>hF i<|CW _ hi) d hd
def aaM{v:AV}{l:List Nat}(h:ak v=I l)(hF:∀i∈l,F i):In3 F v:=by
 have gen:Nf v=I l->In3 F v:=λh=> .of2<|aaN h hF;cases v<;>first|exact aaL h hF|exact gen h
def Za{v:AV}{l:List Nat}(h:UU v=I l)(hF:∀i∈l,F i):InA F v:=by
 have gen:ak v=I l->InA F v:=λh=> .of3<|aaM h hF;cases v with
 | gd g w v=>exact aaM (v:=v) h hF
 | _=>exact gen h
def aC4:∀ {ids m:List Nat},aN H ids=I m->(∀i∈m,F i)->∀i∈ids,∀ob,H i=I ob->Ey F ob
 | [],_,_,_,_,hi=>by cases hi
 | j::l,m,h,hF,i,hi=>by
  obtain⟨a,h1,h⟩:=Ag.1 h;obtain⟨b,h2,h⟩:=Ag.1 h;cases h;obtain rfl|hi:=Bj.1 hi
  .intro ob ho;unfold ab7 at h1;rw[ho]at h1;cases ob<;>first|trivial|exact o6 h1 λi hi=>hF i (Bz _ hi)
  .exact aC4 h2 (λi hi=>hF i<|CW _ hi) i hi
def ZC:∀(n:Nat) (l:List Nat) {c:Nat},clo H n l=I c->(∀i∈l,Mm c i)/\DY (Mm c) H
 | 0,[],c,h=>by cases h;exact⟨by simp,λi ob hi=>by simp[Mm]at hi⟩
 | 0,_::_,c,h=>by cases h
 | n+1,[],c,h=>by cases h;exact⟨by simp,λi ob hi=>by simp[Mm]at hi⟩
 | n+1,j::l,c,h=>by
  have h:((aN H<|j::l).bind λm=>(clo H n m).bind λr=>I<|BQ (msk<|j::l) r)=I c:=h;obtain⟨m,h1,h⟩:=Ag.1 h;obtain⟨r,h2,h⟩:=Ag.1 h;cases h;obtain⟨i1,i2⟩:=ZC n m h2;have up:∀i,Mm r i->Mm (BQ (msk<|j::l) r) i:=λi hi=>by
   show(BQ _ _).testBit i=Y;rw[Eb,show r.testBit i=Y from hi];simp
  refine⟨λi hi=> ?_,λi ob hi ho=> ?_⟩
  .show(BQ _ _).testBit i=Y;rw[Eb,M4.2 hi];rfl
  .have hi:(BQ (msk<|j::l) r).testBit i=Y:=hi;rw[Eb,C8]at hi;obtain hi|hi:=hi
   .exact aC4 h1 (λk hk=>up k<|i1 k hk) i (M4.1 hi) ob ho
   .have:=i2 i ob hi ho;cases ob<;>first|trivial|exact λc hc=>(this c hc).mono up
end
section
variable {C:Cx} {ops:Array Oper} {s0:S} {b0:Nat}
def CZ(C:Cx)(ops:Array Oper)(s0:S)(b0:Nat):List Rec->Prop
 | []=>True
 | r::acc=>CZ C ops s0 b0 acc/\r.i=acc.length/\r.b=b0+16 * acc.length/\ops[r.i]? =I r.o/\RE acc r.o.after.toList=I r.anc/\
  (∃l c,aY s0 acc (DH ops r.o)=I l/\clo s0.H 4 l=I c/\((mvO r.o=A0/\r.F=Ov r.anc acc (BQ c<|nm r.b)/\((r.N=BQ (msk l) (nm r.b)/\pur r.o=Y/\r.o.guard=G)\/r.N=r.F))\/(mvO r.o=Y/\r.F=BQ (msk l) (nm r.b)/\r.N=nm r.b)))/\(sbs r.W r.F=Y/\ ∀id,Mm (nm r.b) id->Mm r.W id)/\
  (∀x∈acc,chk ops x r=Y)/\okO C r.o=Y/\PG r.o.dst (DH ops r.o)=Y
def CZ.lt:∀ {acc:List Rec},CZ C ops s0 b0 acc->∀r∈acc,r.i<acc.length
 | [],_,r,hr=>by cases hr
 | x::acc,h,r,hr=>by
  obtain rfl|hr:=Bj.1 hr
  .rw[h.2.1];simp
  .have:=CZ.lt h.1 r hr;simp;omega
def CZ.mem:∀ {acc:List Rec},CZ C ops s0 b0 acc->∀r∈acc,∃HO,CZ C ops s0 b0 (r::HO)/\(∀x∈HO,x∈acc)/\(∀x∈acc,x.i<r.i->x∈HO)/\(∀x∈HO,x.i<r.i)
 | [],_,r,hr=>by cases hr
 | x::acc,h,r,hr=>by
  obtain rfl|hr:=Bj.1 hr
  .refine⟨acc,h,λy hy=>Ah _ hy,λy hy hlt=> ?_,λy hy=>by rw[h.2.1];exact h.1.lt y hy⟩;obtain rfl|hy:=Bj.1 hy
   .omega
   .exact hy
  .obtain⟨HO,h1,h2,h3,h4⟩:=CZ.mem h.1 r hr;have k1:=h.1.lt r hr;have k2:=h.2.1;refine⟨HO,h1,λy hy=>Ah _<|h2 y hy,λy hy hlt=> ?_,h4⟩;obtain e|hy:=Bj.1 hy
   .rw[e]at hlt;omega
   .exact h3 y hy hlt
def CZ.find:∀ {acc:List Rec},CZ C ops s0 b0 acc->∀r∈acc,Hd r.i acc=I r
 | [],_,r,hr=>by cases hr
 | x::acc,h,r,hr=>by
  unfold Hd;obtain rfl|hr:=Bj.1 hr
  .simp
  .have h1:=h.1.lt r hr;have h2:=h.2.1;have:Af x.i r.i=A0:=by rw[← GK,HJ];omega
   rw[this];exact CZ.find h.1 r hr
def OM{i:Nat}{r:Rec}:∀ {acc:List Rec},Hd i acc=I r->r∈acc/\r.i=i
 | [],h=>by cases h
 | x::acc,h=>by
  unfold Hd at h;split at h
  .rename_i e;cases h;exact⟨Ao,Br e⟩
  .have:=OM h;exact⟨Ah _ this.1,this.2⟩
def aEa{t:Nat}{r:Rec}:∀ {acc:List Rec},RD t acc=I r->r∈acc/\r.o.dst=I t
 | [],h=>by cases h
 | x::acc,h=>by
  unfold RD at h;split at h
  .rename_i e;cases h;refine⟨Ao, ?_⟩;unfold oZ at e;split at e
   .rename_i d hd;rw[hd,Br e]
   .cases e
  .have:=aEa h;exact⟨Ah _ this.1,this.2⟩
def CZ.ex:∀ {acc:List Rec},CZ C ops s0 b0 acc->∀i,i<acc.length->∃r∈acc,r.i=i
 | [],_,i,hi=>by simp at hi
 | x::acc,h,i,hi=>by
  by_cases e:i=acc.length
  .exact⟨x,Ao,by rw[h.2.1,e]⟩
  .obtain⟨r,hr,e'⟩:=CZ.ex h.1 i (by simp at hi;omega);exact⟨r,Ah _ hr,e'⟩
def Sw{anc:Nat}:∀(acc:List Rec) (F:Nat) (i:Nat),Mm F i->Mm (Ov anc acc F) i
 | [],_,_,h=>h
 | r::acc,F,i,h=>by
  unfold Ov;refine Sw acc _ i ?_;split
  .show(BQ _ _).testBit i=Y;rw[Eb,show F.testBit i=Y from h];simp
  .exact h
def DY.lor{H:Hp}{a b:Nat}(h1:DY (Mm a) H)(h2:DY (Mm b) H):DY (Mm<|BQ a b) H:=by
 have up1:∀i,Mm a i->Mm (BQ a b) i:=λi hi=>by
  show(BQ _ _).testBit i=Y;rw[Eb,show a.testBit i=Y from hi];simp
 have up2:∀i,Mm b i->Mm (BQ a b) i:=λi hi=>by
  show(BQ _ _).testBit i=Y;rw[Eb,show b.testBit i=Y from hi];simp
 intro i ob hi ho;have hi:(BQ a b).testBit i=Y:=hi;rw[Eb,C8]at hi;obtain hi|hi:=hi
 .have:=h1 i ob hi ho;cases ob<;>first|trivial|exact λc hc=>(this c hc).mono up1
 .have:=h2 i ob hi ho;cases ob<;>first|trivial|exact λc hc=>(this c hc).mono up2
def aBK{anc:Nat}{H:Hp}:∀(acc:List Rec) (F:Nat),(∀r∈acc,mvO r.o=A0->DY (Mm r.F) H)->DY (Mm F) H->DY (Mm<|Ov anc acc F) H
 | [],_,_,h=>h
 | r::acc,F,hr,h=>by
  unfold Ov;refine aBK acc _ (λx hx=>hr x<|Ah _ hx) ?_;split
  .rename_i hc;simp only[AE,CM]at hc;exact(hr r Ao hc.2).lor h
  .exact h
def Fr(s:S):Prop:=∀j,s.nid<=j->s.H j=G
def CZ.closed(hfr:∀j,b0<=j->s0.H j=G):∀ {acc:List Rec},CZ C ops s0 b0 acc->∀r∈acc,mvO r.o=A0->DY (Mm r.F) s0.H
 | [],_,r,hr=>by cases hr
 | x::acc,h,r,hr=>by
  intro hmv;have ih:=CZ.closed hfr h.1;obtain rfl|hr:=Bj.1 hr
  .obtain⟨_,_,hb,_,_,⟨l,c,h1,h2,h3⟩,_⟩:=h;obtain h3|h3:=h3
   .rw[h3.2.1];refine aBK _ _ ih ((ZC 4 l h2).2.lor λi ob hi ho=> ?_);have:=M8.1 hi;rw[hfr i J]at ho;cases ho
   .rw[hmv]at h3;cases h3.1
  .exact ih r hr hmv
def Sv{acc:List Rec}:∀(l:List Edge) {m:Nat},RE acc l=I m->(∀e∈l,Fj .any e=Y->∃r,Hd e.on acc=I r)/\
  (∀x,Mm m x->∃e∈l,Fj .any e=Y/\ ∃r,Hd e.on acc=I r/\(e.on=x\/Mm r.anc x))
 | [],m,h=>by cases h;exact⟨by simp,λx hx=>by simp[Mm]at hx⟩
 | e::l,m,h=>by
  unfold RE at h;split at h
  .rename_i hb;obtain⟨r,h1,h⟩:=Ag.1 h;obtain⟨m',h2,h⟩:=Ag.1 h;cases h;obtain⟨i1,i2⟩:=Sv l h2;refine⟨λe' he hb'=> ?_,λx hx=> ?_⟩
   .rcases Bj.1 he with rfl|he
    .exact⟨r,h1⟩
    .exact i1 e' he hb'
   .have hx:(BQ (BQ (bit e.on) r.anc) m').testBit x=Y:=hx;rw[Eb,Eb,C8,C8]at hx;obtain(hx|hx)|hx:=hx
    .exact⟨e,Ao,hb,r,h1,.inl (Zf.1 hx).symm⟩
    .exact⟨e,Ao,hb,r,h1,.inr hx⟩
    .obtain⟨e',he,h3⟩:=i2 x hx;exact⟨e',Ah _ he,h3⟩
  .rename_i hb;obtain⟨i1,i2⟩:=Sv l h;refine⟨λe' he hb'=> ?_,λx hx=> ?_⟩
   .rcases Bj.1 he with rfl|he
    .rw[hb]at hb';cases hb'
    .exact i1 e' he hb'
   .obtain⟨e',he,h3⟩:=i2 x hx;exact⟨e',Ah _ he,h3⟩
def CZ.bC:∀ {acc:List Rec},CZ C ops s0 b0 acc->∀r∈acc,∀x,Mm r.anc x->x<r.i
 | [],_,r,hr=>by cases hr
 | y::acc,h,r,hr=>by
  intro x hx;obtain rfl|hr:=Bj.1 hr
  .obtain⟨hg,hi,_,_,ha,_⟩:=h;obtain⟨e,he,hb,r',h1,h2⟩:=(Sv _ ha).2 x hx;obtain⟨hm,hei⟩:=OM h1;have:=hg.lt r' hm;obtain h2|h2:=h2
   .omega
   .have:=CZ.bC hg r' hm x h2;omega
  .exact CZ.bC h.1 r hr x hx
def C5(acc:List Rec)(b0:Nat):Lb where
 b i:=b0+16 * i
 F i id:=match Hd i acc with
  | some r=>Mm r.F id
  | none=>b0+16 * i<=id/\id<b0+16 * i+16
 N i id:=match Hd i acc with
  | some r=>Mm r.N id
  | none=>b0+16 * i<=id/\id<b0+16 * i+16
 K i id:=match Hd i acc with
  | some r=>Mm r.K id
  | none=>b0+16 * i<=id/\id<b0+16 * i+16
 W i id:=match Hd i acc with
  | some r=>Mm r.W id
  | none=>b0+16 * i<=id/\id<b0+16 * i+16
 V i id:=match Hd i acc with
  | some r=>id∈r.V
  | none=>False
 R x i:=match Hd i acc with
  | some r=>Mm r.anc x
  | none=>False
def YM{d:Option Nat}{l:List Nat}(h:PG d l=Y):∀t,d=I t->t ∉ l:=by
 intro t e hm;subst e;have:abR t l=Y:=KD.2 ⟨t,hm,by simp⟩;simp[PG,this]at h
def aDX{d e:Option Nat}(h:ou d e=Y):∀t,d=I t->e≠I t:=by
 intro t h1 h2;subst h1;subst h2;simp[ou]at h
def CZ.op{acc:List Rec}(h:CZ C ops s0 b0 acc)(hn:acc.length=ops.size){i:Nat}{o:Oper}(ho:ops[i]? =I o):∃r∈acc,r.i=i/\r.o=o/\Hd i acc=I r:=by
 obtain⟨r,hr,hi⟩:=h.ex i (by rw[hn];exact(HH.1 ho).1);obtain⟨HO,hg,_⟩:=h.mem r hr;have:=hg.2.2.2.1;rw[hi,ho]at this;exact⟨r,hr,hi,(E5 this).symm,by rw[← hi];exact h.find r hr⟩
def CZ.chk{acc:List Rec}(h:CZ C ops s0 b0 acc){x r:Rec}(hx:x∈acc)(hr:r∈acc)(hlt:x.i<r.i):VS.chk ops x r=Y:=by
 obtain⟨HO,hg,_,h3,_⟩:=h.mem r hr;exact hg.2.2.2.2.2.2.2.1 x<|h3 x hx hlt
def CZ.Mi{acc:List Rec}(h:CZ C ops s0 b0 acc){r:Rec}(hr:r∈acc):r.b=b0+16 * r.i/\(∀id,r.b<=id->id<r.b+16->Mm r.F id)/\(sbs r.W r.F=Y/\ ∀id,Mm (nm r.b) id->Mm r.W id):=by
 obtain⟨HO,hg,_⟩:=h.mem r hr;obtain⟨_,hi,hb,_,_,⟨l,c,h1,h2,h3⟩,hw,_⟩:=hg;refine⟨by rw[hi];exact hb,λid k1 k2=> ?_,hw⟩;obtain h3|h3:=h3
 .rw[h3.2.1];refine Sw _ _ id ?_;show(BQ _ _).testBit id=Y;rw[Eb,M8.2 ⟨k1,k2⟩];simp
 .rw[h3.2.1];show(BQ _ _).testBit id=Y;rw[Eb,M8.2 ⟨k1,k2⟩];simp
def CZ.N_F{acc:List Rec}(h:CZ C ops s0 b0 acc){r:Rec}(hr:r∈acc):∀id,Mm r.N id->Mm r.F id:=by
 obtain⟨HO,hg,_⟩:=h.mem r hr;obtain⟨_,hi,hb,_,_,⟨l,c,h1,h2,h3⟩,hw,_⟩:=hg;intro id hid;obtain⟨_,h3,h4⟩|⟨_,h3,h4⟩:=h3
 .rcases h4 with h4|h4
  .rw[h3];refine Sw _ _ id ?_;rw[h4.1]at hid;have hid:(BQ _ _).testBit id=Y:=hid;rw[Eb,C8]at hid;show(BQ _ _).testBit id=Y;rw[Eb];obtain hid|hid:=hid
   .rw[(ZC 4 l h2).1 id<|M4.1 hid];rfl
   .rw[hid];simp
  .rw[← h4];exact hid
 .rw[h3];rw[h4]at hid;have hid:(nm r.b).testBit id=Y:=hid;show(BQ _ _).testBit id=Y;rw[Eb,hid];simp
def CZ.nice{acc:List Rec}(h:CZ C ops s0 b0 acc)(hn:acc.length=ops.size):PT ops (C5 acc b0):=by
 constructor
 .intro i id hw;simp only[C5]at hw ⊢;split at hw
  .rename_i r hr;obtain⟨hm,hi⟩:=OM hr;obtain⟨_,h2,h3⟩:=h.Mi hm;exact TH h3.1 id hw
  .exact hw
 .intro i id hw;simp only[C5]at hw ⊢;split at hw
  .rename_i r hr;obtain⟨hm,hi⟩:=OM hr;exact h.N_F hm id hw
  .exact hw
 .intro i id h1 h2;simp only[C5]at h1 h2 ⊢;split
  .rename_i r hr;obtain⟨hm,hi⟩:=OM hr;obtain⟨hb,k2,k3⟩:=h.Mi hm;rw[hi]at hb;exact k3.2 id (M8.2 ⟨J,J⟩)
  .exact⟨h1,h2⟩
 .intro x i hR;simp only[C5]at hR;split at hR
  .rename_i r hr;obtain⟨hm,hi⟩:=OM hr;have:=h.bC r hm x hR;omega
  .exact hR.elim
 .intro x i ox oi t hne hx hi ht;obtain⟨rx,hrx,ix,rfl,_⟩:=h.op hn hx;obtain⟨ri,hri,ii,rfl,_⟩:=h.op hn hi;obtain hlt|hlt:=U5 hne
  .have:=h.chk hrx hri J;simp only[VS.chk,AE]at this;exact aDX this.1 t ht
  .have:=h.chk hri hrx J;simp only[VS.chk,AE]at this;exact λe=>aDX this.1 t e ht
 .intro x i oi hi hR;obtain⟨ri,hri,ii,rfl,fi⟩:=h.op hn hi;simp only[C5,fi]at hR ⊢;obtain⟨HO,hg,LY,_⟩:=h.mem ri hri;obtain⟨e,he,hb,r',h1,h2⟩:=(Sv _ hg.2.2.2.2.1).2 x hR;refine⟨e,by simpa using he,hb, ?_⟩;obtain h2|h2:=h2
  .exact .inl h2
  .obtain⟨hm,hei⟩:=OM h1;have:=h.find r'<|LY r' hm;rw[hei]at this;rw[this];exact .inr h2
 .intro i oi e hi he hb;obtain⟨ri,hri,ii,rfl,fi⟩:=h.op hn hi;obtain⟨HO,hg,LY,_,hlt⟩:=h.mem ri hri;obtain⟨r',h1⟩:=(Sv _ hg.2.2.2.2.1).1 e (by simpa using he) hb;obtain⟨hm,hei⟩:=OM h1;have:=hlt r' hm;omega
 .intro x i hR ox oi hx hi;obtain⟨rx,hrx,ix,rfl,fx⟩:=h.op hn hx;obtain⟨ri,hri,ii,rfl,fi⟩:=h.op hn hi;simp only[C5,fi,fx]at hR ⊢;have hlt:=h.bC ri hri x hR;have hc:=h.chk hrx hri J;simp only[VS.chk,AE]at hc;have hT:tst ri.anc rx.i=Y:=by rw[ix];exact nY.2 hR
  rw[hT]at hc;obtain⟨_,hc⟩:=hc;simp only[AE,C8]at hc;obtain⟨⟨c1,c2⟩,c3⟩:=hc;refine⟨?_,λt ht hl=> ?_,λid h1 h2 hF=> ?_⟩
  .rcases c1 with c1|c1
   .exact .inl (Lu c1)
   .exact .inr (TH c1)
  .rcases c2 with c2|c2
   .exact absurd hl (YM c2 t ht)
   .exact⟨λid hid=>TH c2.1 id<|M4.2 hid,c2.2.imp id λh id hid=>TH h id<|M4.2 hid⟩
  .have hb:=(h.Mi hri).1;exact Lu c3 id hF (M8.2 ⟨J,J⟩)
 .intro x i hlt hR ox oi hx hi;obtain⟨rx,hrx,ix,rfl,fx⟩:=h.op hn hx;obtain⟨ri,hri,ii,rfl,fi⟩:=h.op hn hi;simp only[C5,fi,fx]at hR ⊢;have hc:=h.chk hrx hri J;simp only[VS.chk,AE]at hc;have hT:tst ri.anc rx.i=A0:=by
   rw[ix];cases hh:tst ri.anc x with
   | false=>rfl
   | true=>exact absurd (nY.1 hh) hR
  rw[hT]at hc;obtain⟨_,hc⟩:=hc;simp only[AE]at hc;obtain⟨⟨⟨k1,k2⟩,k3,k4⟩,k5,k6,k7⟩:=hc.1.1;have hbi:=(h.Mi hri).1;have hbx:=(h.Mi hrx).1;exact⟨Lu k1,Lu k2,Lu k3,Lu k4,Lu k5,λid h1 h2 hF=>Lu k6 id hF<|M8.2 ⟨J,J⟩,λid h1 h2 hF=>Lu k7 id hF<|M8.2 ⟨J,J⟩,YM hc.1.2,YM hc.2⟩
end
end Go.VS
namespace Go.VS
open Go
section
variable {C:Cx} {P:Program} {kd:TypeId->Option K} {s s':S} {b j:Nat} {E:Nat->AV}
structure BI (N:Nat->Prop) (s s':S):Prop where
 nid:s'.nid=s.nid
 n:s'.n=s.n
 pins:s'.pins=s.pins
 nn:∀j,¬N j->s.H j=G->s'.H j=G
def BI.refl(N:Nat->Prop)(s:S):BI N s s:=⟨rfl,rfl,rfl,λ_ _ h=>h⟩
def BI.trans{N:Nat->Prop}{s s' s'':S}(h:BI N s s')(k:BI N s' s''):BI N s s'':=
 ⟨k.nid.trans h.nid,k.n.trans h.n,k.pins.trans h.pins,λj hj e=>k.nn j hj<|h.nn j hj e⟩
def BI.put{N:Nat->Prop}{s s':S}(h:BI N s s')(d:Option Nat)(v:AV):BI N s (s'.put d v):=by
 cases d<;>exact⟨h.nid,h.n,h.pins,h.nn⟩
def BI.EI{N:Nat->Prop}{s s':S}(h:BI N s s'){id:Nat}{ob:Option Ob}(hid:N id\/s.H id≠G):BI N s (s'.EI id ob):=by
 refine⟨h.nid,h.n,h.pins,λj hj e=> ?_⟩;show upd s'.H id ob j=G;rw[BE _ _ (λe'=>by subst e';exact hid.elim hj λh=>h e)];exact h.nn j hj e
def BI.map{N:Nat->Prop}{s s':S}(h:BI N s s')(f:AV->AV):BI N s (s'.map f):=by
 refine⟨h.nid,h.n,h.pins,λj hj e=> ?_⟩;show CP f (s'.H j)=G;rw[h.nn j hj e];rfl
def BI.acT{N:Nat->Prop}{s s':S}(h:BI N s s'){id:Nat}:BI N s (s'.EI id G):=by
 refine⟨h.nid,h.n,h.pins,λj hj e=> ?_⟩;show upd s'.H id G j=G;by_cases e':j=id
 .subst e';rw[Bi]
 .rw[BE _ _ e'];exact h.nn j hj e
def BI.kill{N:Nat->Prop}{s s':S}(h:BI N s s')(id:Nat):BI N s (s'.kill id):=(h.map _).acT
def BI.freeze{N:Nat->Prop}{s s':S}(h:BI N s s')(id:Nat):BI N s (s'.freeze id):=by
 unfold S.freeze;split
 .exact(h.map _).acT
 .exact h.kill id
def BI.LW{N:Nat->Prop}:∀(ids:List Nat) {s s':S},BI N s s'->BI N s (ids.foldl S.freeze s')
 | [],_,_,h=>h
 | i::ids,_,_,h=>BI.LW ids (h.freeze i)
def BI.pR{N:Nat->Prop}:∀(ids:List Nat) {s s':S},BI N s s'->BI N s (ids.foldl S.kill s')
 | [],_,_,h=>h
 | i::ids,_,_,h=>BI.pR ids (h.kill i)
def aqL{N:Nat->Prop}{t:TypeId}{x y:AV}(h:Ik P t s x y=I s'):BI N s s':=by
 unfold Ik at h;split at h
 .rename_i id z i o;split at h
  .rename_i e cs hob;split at h
   .obtain⟨ys,hc,h⟩:=Ag.1 h;split at h<;>cases h;exact(BI.refl N s).EI (.inr (by rw[hob];simp))
   .cases h
  .rename_i e fz k xs hob;obtain⟨ys,hc,h⟩:=Ag.1 h;split at h
   .obtain⟨v,hd,h⟩:=Ag.1 h;cases h;exact(BI.LW _<|BI.refl N s).EI (.inr (by rw[hob];simp))
   .cases h
  .rename_i e k xs hob;obtain⟨ys,hc,h⟩:=Ag.1 h;split at h
   .obtain⟨v,hd,h⟩:=Ag.1 h;cases h;exact(BI.refl N s).EI (.inr (by rw[hob];simp))
   .cases h
  .cases h
 .cases h
def apV{N:Nat->Prop}(hb:N b){t t2:TypeId}{x y v:AV}{q:Bool}(h:L6 P kd t t2 s b x y=I (q,v,s')):BI N s s':=by
 unfold L6 at h;obtain⟨e,he,h⟩:=Ag.1 h;obtain⟨k,hk,h⟩:=Ag.1 h;obtain⟨ys,hys,h⟩:=Ag.1 h;split at h
 .cases h;exact(BI.refl N s).EI (.inl hb)
 .split at h
  .rename_i hob _;split at h
   .obtain⟨zs,hz,h⟩:=Ag.1 h;cases h;exact((BI.refl N s).map _).EI (.inr (by rw[hob];simp))
   .cases h
  .cases h
 .cases h
def ar6{N:Nat->Prop}{t:TypeId}{x y v:AV}(h:LD P t s x y=I (v,s')):BI N s s':=by
 unfold LD at h;split at h
 .split at h
  .rename_i hob _;obtain⟨e',he,h⟩:=Ag.1 h;split at h
   .obtain⟨ys,hys,h⟩:=Ag.1 h;cases h;exact(BI.refl N s).EI (.inr (by rw[hob];simp))
   .cases h
  .cases h
 .cases h
def ala{N:Nat->Prop}{id:Nat}{z:Bool}{lo hi:Option AV}{v:AV}{q:Bool}(h:Ky s id z lo hi=I (q,v,s')):BI N s s':=by
 unfold Ky at h;split at h
 .rename_i e fz k xs hob;obtain⟨⟨c,l,hh⟩,hc,h⟩:=Ag.1 h;simp only at h;split at h
  .cases h;exact((BI.refl N s).map _).EI (.inr (by rw[hob];simp))
  .cases h
  .cases h;exact(BI.refl N s).freeze id
 .cases h
def HK(N:Nat->Prop)(H H':Hp):Prop:=∀j,¬N j->H j=G->H' j=G
def HK.refl(N:Nat->Prop)(H:Hp):HK N H H:=λ_ _ h=>h
def HK.trans{N:Nat->Prop}{H H' H'':Hp}(h:HK N H H')(k:HK N H' H''):HK N H H'':=λj hj e=>k j hj<|h j hj e
def HK.upd{N:Nat->Prop}{H H':Hp}(h:HK N H H'){id:Nat}{ob:Option Ob}(hid:N id\/H id≠G):HK N H (upd H' id ob):=λj hj e=>by
 rw[BE _ _ (λe'=>by subst e';exact hid.elim hj λh=>h e)];exact h j hj e
mutual
theorem Jt {N:Nat->Prop} :∀(h:Sh) (H:Hp) (b:Nat) (x:LT h),(∀j,b<=j->j<(BL E H b h x).2.2->N j)->HK N H (BL E H b h x).2.1
 | .int _,H,_,_,_=> .refl _ _
 | .bool,H,_,_,_=> .refl _ _
 | .str,H,_,_,_=> .refl _ _
 | .sl _,H,_,_,_=> .refl _ _
 | .arr _,H,_,_,_=> .refl _ _
 | .same _,H,_,_,_=> .refl _ _
 | .fz _,H,_,_,_=> .refl _ _
 | .row _ _,H,b,_,hN=>(HK.refl _ _).upd (.inl<|hN b (Ar b)<|P3 b)
 | .Cj _ _,H,b,_,hN=>(HK.refl _ _).upd (.inl<|hN b (Ar b)<|P3 b)
 | .abx _ _,H,b,_,hN=>(HK.refl _ _).upd (.inl<|hN b (Ar b)<|P3 b)
 | .agg l,H,b,x,hN=>by
  have un:BL E H b (.agg l) x=(match Aj E H b l x with|(cs,H,b)=>(AV.agg cs,H,b)):=rfl;have ih:=Xl (N:=N) l H b x;rw[un]at hN ⊢;generalize Aj E H b l x=r at *;exact ih hN
 | .box e l,H,b,x,hN=>by
  have un:BL E H b (.box e l) x=(match Aj E H b l x with|(cs,H,b)=>(AV.ptr b cs.length 0 0,upd H b<|I<|.box e cs,b+1)):=rfl;have ih:=Xl (N:=N) l H b x;have hle:=JG E l H b x;rw[un]at hN ⊢;generalize Aj E H b l x=r at *;obtain⟨cs,H',b'⟩:=r;exact(ih λj h1 h2=>hN j h1<|Nat.lt_succ_of_lt h2).upd<|.inl<|hN b' hle<|P3 b'
theorem Xl {N:Nat->Prop} :∀(l:List Sh) (H:Hp) (b:Nat) (x:LTs l),(∀j,b<=j->j<(Aj E H b l x).2.2->N j)->HK N H (Aj E H b l x).2.1
 | [],H,_,_,_=> .refl _ _
 | h::l,H,b,x,hN=>by
  have un:Aj E H b (h::l) x=(match BL E H b h x.1 with|(c,H,b)=>match Aj E H b l x.2 with|(cs,H,b)=>(c::cs,H,b)):=rfl;have ih:=Jt (N:=N) h H b x.1;have hle:=EM E h H b x.1;rw[un]at hN ⊢;generalize BL E H b h x.1=r at *;obtain⟨c,H',b'⟩:=r;have ih2:=Xl (N:=N) l H' b' x.2;have PX:=JG E l H' b' x.2;simp only at hN ⊢;generalize Aj E H' b' l x.2=r at *;obtain⟨cs,H'',b''⟩:=r;exact(ih λj h1 h2=>hN j h1<|Gl h2 PX).trans<|ih2 λj h1 h2=>hN j (C6 hle h1) h2
end
mutual
theorem aGJ (E:Nat->AV):∀(h:Sh) (H:Hp) (b:Nat) (v:AV) (x:LT h),b<=(D3 E H b h v x).2.2
 | .box e l,H,b,v,x=>by
  by_cases hv:∃id z,v= .ptr id z 0 0
  .obtain⟨id,z,rfl⟩:=hv;have un:D3 E H b (.box e l) (.ptr id z 0 0) x=(match H id with
    | some (.box _ cs)=>(match BT E H b l cs x with|(ds,H,b)=>(AV.ptr id z 0 0,upd H id<|I<|.box e ds,b))
    | _=>(.un,H,b)):=rfl
   rw[un];cases H id with
   | none=>exact Ar b
   | some ob=>
    cases ob with
    | box e' cs=>
     have:=QD E l H b cs x;simp only;generalize BT E H b l cs x=r at *;obtain⟨ds,H',b'⟩:=r;exact this
    | _=>exact Ar b
  .have:D3 E H b (.box e l) v x=BL E H b (.box e l) x:=by
    cases v<;>first|rfl|skip
    rename_i id z i o;cases i<;>cases o<;>first|rfl|exact absurd ⟨_,_,rfl⟩ hv
   rw[this];exact EM E _ H b x
 | .int _,H,b,v,x=>EM E _ H b x
 | .bool,H,b,v,x=>EM E _ H b x
 | .str,H,b,v,x=>EM E _ H b x
 | .sl _,H,b,v,x=>EM E _ H b x
 | .row _ _,H,b,v,x=>EM E _ H b x
 | .fz _,H,b,v,x=>EM E _ H b x
 | .Cj _ _,H,b,v,x=>EM E _ H b x
 | .abx _ _,H,b,v,x=>EM E _ H b x
 | .arr _,H,b,v,x=>EM E _ H b x
 | .same _,H,b,v,x=>Ar b
 | .agg _,H,b,v,x=>EM E _ H b x
theorem QD (E:Nat->AV):∀(l:List Sh) (H:Hp) (b:Nat) (cs:List AV) (x:LTs l),b<=(BT E H b l cs x).2.2
 | [],_,b,_,_=>Ar b
 | h::l,H,b,cs,x=>by
  have h1:=aGJ E h H b (cs.headD .un) x.1;have un:BT E H b (h::l) cs x=(match D3 E H b h (cs.headD .un) x.1 with|(d,H,b)=>match BT E H b l cs.tail x.2 with|(ds,H,b)=>(d::ds,H,b)):=rfl;rw[un];generalize D3 E H b h (cs.headD .un) x.1=r at *;obtain⟨c,H',b'⟩:=r;have h2:=QD E l H' b' cs.tail x.2;simp only;generalize BT E H' b' l cs.tail x.2=r at *;obtain⟨cs,H'',b''⟩:=r;exact C6 h1 h2
end
mutual
theorem auF {N:Nat->Prop} :∀(h:Sh) (H:Hp) (b:Nat) (v:AV) (x:LT h),(∀j,b<=j->j<(D3 E H b h v x).2.2->N j)->HK N H (D3 E H b h v x).2.1
 | .box e l,H,b,v,x,hN=>by
  by_cases hv:∃id z,v= .ptr id z 0 0
  .obtain⟨id,z,rfl⟩:=hv;have un:D3 E H b (.box e l) (.ptr id z 0 0) x=(match H id with
    | some (.box _ cs)=>(match BT E H b l cs x with|(ds,H,b)=>(AV.ptr id z 0 0,upd H id<|I<|.box e ds,b))
    | _=>(.un,H,b)):=rfl
   rw[un]at hN ⊢;cases ho:H id with
   | none=>exact .refl _ _
   | some ob=>
    rw[ho]at hN;cases ob with
    | box e' cs=>
     have ih:=kZ (N:=N) l H b cs x;simp only at hN ⊢;generalize BT E H b l cs x=r at *;obtain⟨ds,H',b'⟩:=r;exact(ih hN).upd<|.inr (by rw[ho];simp)
    | _=>exact .refl _ _
  .have:D3 E H b (.box e l) v x=BL E H b (.box e l) x:=by
    cases v<;>first|rfl|skip
    rename_i id z i o;cases i<;>cases o<;>first|rfl|exact absurd ⟨_,_,rfl⟩ hv
   rw[this]at hN ⊢;exact Jt (E:=E) _ H b x hN
 | .int _,H,b,v,x,hN=>Jt (E:=E) _ H b x hN
 | .bool,H,b,v,x,hN=>Jt (E:=E) _ H b x hN
 | .str,H,b,v,x,hN=>Jt (E:=E) _ H b x hN
 | .sl _,H,b,v,x,hN=>Jt (E:=E) _ H b x hN
 | .row _ _,H,b,v,x,hN=>Jt (E:=E) _ H b x hN
 | .fz _,H,b,v,x,hN=>Jt (E:=E) _ H b x hN
 | .Cj _ _,H,b,v,x,hN=>Jt (E:=E) _ H b x hN
 | .abx _ _,H,b,v,x,hN=>Jt (E:=E) _ H b x hN
 | .arr _,H,b,v,x,hN=>Jt (E:=E) _ H b x hN
 | .same _,H,b,v,x,hN=> .refl _ _
 | .agg l,H,b,v,x,hN=>Jt (E:=E) _ H b x hN
theorem kZ {N:Nat->Prop} :∀(l:List Sh) (H:Hp) (b:Nat) (cs:List AV) (x:LTs l),(∀j,b<=j->j<(BT E H b l cs x).2.2->N j)->HK N H (BT E H b l cs x).2.1
 | [],H,_,_,_,_=> .refl _ _
 | h::l,H,b,cs,x,hN=>by
  have un:BT E H b (h::l) cs x=(match D3 E H b h (cs.headD .un) x.1 with|(d,H,b)=>match BT E H b l cs.tail x.2 with|(ds,H,b)=>(d::ds,H,b)):=rfl;have ih:=auF (N:=N) h H b (cs.headD .un) x.1;have hle:=aGJ E h H b (cs.headD .un) x.1;rw[un]at hN ⊢;generalize D3 E H b h (cs.headD .un) x.1=r at *;obtain⟨c,H',b'⟩:=r;have ih2:=kZ (N:=N) l H' b' cs.tail x.2;have PX:=QD E l H' b' cs.tail x.2;simp only at hN ⊢;generalize BT E H' b' l cs.tail x.2=r at *;obtain⟨cs,H'',b''⟩:=r;exact(ih λj h1 h2=>hN j h1<|Gl h2 PX).trans<|ih2 λj h1 h2=>hN j (C6 hle h1) h2
end
def aDQ{N:Nat->Prop}(q:Bool)(ids:List Nat){s s':S}(h:BI N s s'):BI N s (GJ q ids s'):=by
 cases q
 .exact h
 .exact BI.LW ids h
def ar7{m:DZ}{d:Option Nat}{as:List AV}(h:Hb m s b d as I=I s'):BI (λj=>b<=j/\j<b+16) s s':=by
 unfold Hb at h;simp only at h;split at h
 .rename_i x hx hn;obtain⟨r,hr,h⟩:=Ag.1 h;have k1:BI (λj=>b<=j/\j<b+16) s (GJ (CV m.rs||CV (B2 m.ps)) (Cv s.H m.ps as)<|(Ce s.H m.ps as).foldl S.kill s):=aDQ _ _<|BI.pR _<|BI.refl _ s;generalize GJ (CV m.rs||CV (B2 m.ps)) (Cv s.H m.ps as) ((Ce s.H m.ps as).foldl S.kill s)=s2 at *;have k2:=kZ (E:=λi=>(as[i]?).getD .un) (N:=λj=>b<=j/\j<b+16) (B2 m.ps) s2.H b (Fq m.ps as) r.2;have l2:=QD (λi=>(as[i]?).getD .un) (B2 m.ps) s2.H b (Fq m.ps as) r.2;generalize BT (λi=>(as[i]?).getD .un) s2.H b (B2 m.ps) (Fq m.ps as) r.2=q at *;obtain⟨ds,H1,b1⟩:=q;simp only at h;have k3:=Xl (E:=λi=>(as[i]?).getD .un) (N:=λj=>b<=j/\j<b+16) m.rs H1 b1 r.1;have l3:=JG (λi=>(as[i]?).getD .un) m.rs H1 b1 r.1;generalize Aj (λi=>(as[i]?).getD .un) H1 b1 m.rs r.1=q at *;obtain⟨vs,H2,b2⟩:=q;simp only at h l2 l3 k2 k3;split at h
  .rename_i hb;have hb:=DL hb;cases h;have k4:=(k2 λj h1 h2=>⟨h1,J⟩).trans (k3 λj h1 h2=>⟨J,J⟩);exact BI.put (s':={ s2 with H:=H2 }) ⟨k1.nid,k1.n,k1.pins,λj hj e=>k4 j hj<|k1.nn j hj e⟩ _ _
  .cases h
 .cases h
def Gu(r:PR):Prop:=∀q v os,r=I (q,v,os)->os.length<=1
def Gu.none:Gu .none:=λ_ _ _ h=>by cases h
def Gu.okA{v:AV}:Gu (okA v):=λ_ _ _ h=>by obtain⟨_,_,rfl⟩:=DO h;simp
def Gu.okN{v:AV}:Gu (okN v):=λ_ _ _ h=>by obtain⟨_,_,rfl,_⟩:=OQ h;simp
def Gu.nil{q:Bool}{v:AV}:Gu (I (q,v,[])):=λ_ _ _ h=>by cases h;simp
def Gu.one{q:Bool}{v:AV}{o:Ob}:Gu (I (q,v,[o])):=λ_ _ _ h=>by cases h;simp
def Gu.bind{α:Type}{o:Option α}{f:α->PR}(h:∀a,Gu<|f a):Gu (o.bind f):=by
 cases o with
 | none=>exact .none
 | some a=>exact h a
def aEh{x y:TypeId}{v:AV}:Gu (Is P x y v):=by
 unfold Is
 repeat' (first|exact .none|exact .okA|exact .okN|exact .nil|exact .one|refine .bind λ_=> ?_|split)
def atp{ρ:Operand->AV}{H:Hp}{c:Call}:Gu (JO P ρ H c):=by
 unfold JO
 repeat' (first|exact .none|exact .okA|exact .okN|exact .nil|exact .one|refine .bind λ_=> ?_|split)
def aw6{op:BinOp}{t:TypeId}{x y:AV}:Gu (PN P op t x y):=by
 unfold PN UZ UY
 repeat' (first|exact .none|exact .okA|exact .okN|exact .nil|exact .one|refine .bind λ_=> ?_|split)
def arQ{ρ:Operand->AV}{H:Hp}{op:Op}:Gu (CI P kd ρ H b op):=by
 cases op<;>simp only[CI]<;>try (exact .none)
 case binOp=>exact aw6
 case call=>exact atp
 case convert=>
  split
  .repeat' (first|exact .none|exact .okA|refine .bind λ_=> ?_|split)
  .split
   .rename_i h;exact λq v os e=>by cases e;exact aEh _ _ _ h
   .exact aEh
 case pick=>
  unfold Ow
  repeat' (first|exact .none|exact .okA|exact .okN|exact .nil|exact .one|refine .bind λ_=> ?_|split)
 case unOp=>
  unfold unA
  repeat' (first|exact .none|exact .okA|exact .okN|exact .nil|exact .one|refine .bind λ_=> ?_|split)
 case slice t x lo hi mx=>
  cases mx with
  | some m=>exact .none
  | none=>
   simp only;unfold Qa
   repeat' (first|exact .none|exact .okA|exact .okN|exact .nil|exact .one|refine .bind λ_=> ?_|split)
 case index=>
  unfold RU
  repeat' (first|exact .none|exact .okA|exact .okN|exact .nil|exact .one|refine .bind λ_=> ?_|split)
 case indexAddr=>
  unfold N6
  repeat' (first|exact .none|exact .okA|exact .okN|exact .nil|exact .one|refine .bind λ_=> ?_|split)
 all_goals repeat' (first|exact .none|exact .okA|exact .okN|exact .nil|exact .one|refine .bind λ_=> ?_|split)
def aCB:∀(os:List Ob) (H:Hp) (b:Nat) {j:Nat},¬(b<=j/\j<b+os.length)->H j=G->En H b os j=G
 | [],_,_,_,_,h=>h
 | o::os,H,b,j,hj,h=>by
  refine aCB os _ _ (λhh=>hj ⟨J,by simp;omega⟩) ?_;rw[BE _ _ λe=>hj ⟨J,by simp;omega⟩];exact h
def arP{ρ:Operand->AV}{H:Hp}{op:Op}{d:Option Nat}
  (he:(match CI P kd ρ H b op with
   | some (q,v,os)=>if q then I ({ s with H:=En s.H b os }.put d v) else G
   | none=>G)=I s'):BI (λj=>b<=j/\j<b+16) s s':=by
 split at he
 .rename_i q v os hp;split at he
  .cases he;have:=arQ _ _ _ hp;exact BI.put (N:=λj=>b<=j/\j<b+16) (s:=s) (s':={ s with H:=En s.H b os }) ⟨rfl,rfl,rfl,λj hj e=>aCB os s.H b (λhh=>hj ⟨hh.1,J⟩) e⟩ _ _
  .cases he
 .cases he
def aDV{o:Oper}(he:CR C (AF S) o b s I=I s'):BI (λj=>b<=j/\j<b+16) s s':=by
 unfold CR at he;split at he
 .cases he
 generalize ho:o.op=op at he;have pu:∀s0:S,(match CI C.P C.kd s0.ev s0.H b op with
   | some (q,v,os)=>if q then I ({ s0 with H:=En s0.H b os }.put o.dst v) else G
   | none=>G)=I s'->BI (λj=>b<=j/\j<b+16) s0 s':=λs0 he=>arP he
 cases op<;>try (exact pu s he)
 case store t p x=>
  simp only at he;split at he
  .rename_i s1 hs;cases he;exact(aqL hs).put _ _
  .cases he
 case call c=>
  simp only at he;split at he
  .split at he
   .exact ar7 he
   .cases he
  .split at he
   .rename_i q v s1 hs;split at he
    .cases he;exact(apV (N:=λj=>b<=j/\j<b+16) ⟨Ar b,J⟩ hs).put _ _
    .cases he
   .cases he
  .split at he
   .rename_i v s1 hs;cases he;exact(ar6 hs).put _ _
   .cases he
  .exact pu s he
 case slice t x lo hi mx=>
  cases mx with
  | some m=>exact pu s he
  | none=>
   simp only at he;split at he
   .split at he
    .cases he
    .split at he
     .rename_i q v s1 hs;split at he
      .cases he;exact(ala hs).put _ _
      .cases he
     .cases he
   .exact pu s he
 case buildSlice t n ps=>
  simp only at he;exact(BI.LW _<|BI.refl _ s).trans<|pu _ he
def aEf{ops:Array Oper}{o:Oper}(he:ev1 C ops o b s=I s'):BI (λj=>b<=j/\j<b+16) s s':=by
 unfold ev1 evG at he;split at he
 .exact aDV he
 .rename_i jj want hg;split at he
  .cases he
  .rename_i g _ _;split at he
   .rename_i qq v _ _;split at he
    .split at he
     case isFalse=>cases he
     cases he;have:=(BI.refl (λj=>b<=j/\j<b+16) s).put o.dst<|.gd g want v;exact⟨this.nid,this.n,this.pins,this.nn⟩
    .cases he
   .cases he
  .rename_i g _ _;have yes:∀w,CR C (AF S) o b { s with T:=upd s.T g (.b w) } I=I s'->BI (λj=>b<=j/\j<b+16) s s':=λw h=>by
    have:=aDV h;exact⟨this.nid,this.n,this.pins,this.nn⟩
   have no:∀w,(match s.has o.dst with
      | true=>I (({ s with T:=upd s.T g (.b w) } :S).put o.dst Dp)
      | false=>G)=I s'->BI (λj=>b<=j/\j<b+16) s s':=λw h=>by
    split at h
    .cases h;have:BI (λj=>b<=j/\j<b+16) s { s with T:=upd s.T g (.b w) } :=⟨rfl,rfl,rfl,λ_ _ e=>e⟩;exact this.put _ _
    .cases h
   split at he
   .rename_i c hT;cases want<;>cases c<;>simp only[A2,if_false,Hj]at he
    .exact yes _ he
    .exact no _ he
    .exact no _ he
    .exact yes _ he
   .split at he
    .cases he;exact(BI.refl _ s).put _ _
    .cases he
   .cases he
end
end Go.VS
end
