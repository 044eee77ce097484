/- Part 2. -/
import Derived.WalkKit
import Derived.Test.YtgjljlpdfceilaaGreatDoorQAA
import Derived.Laws.StructEq
import Derived.Laws.BytesArg
import Derived.Laws.MakeOwn
import Derived.Great.BuildSlice
import Derived.Lib.ConvBytes
open Array renaming eq_empty_of_size_eq_zero->aBS,getD_eq_getD_getElem?->TG,getElem?_append_left->Lt,getElem?_eq_some_iff->HC,getElem?_setIfInBounds_ne->aBT,getElem?_toList->TC,length_toList->Ez,mem_append->N0,range->TP,size_append->QY,size_replicate->lv,toArray_toList->lu,toList_setIfInBounds->lS
open Bool renaming and_eq_true->AD,and_self->EW,false->A0,false_and->AM,false_eq_true->Hc,false_or->Bk,not_eq_true'->CE,not_eq_true->GL,not_false->AG,not_true->AB,or_eq_true->C1,or_false->EV,or_self->GM,true->Y,true_and->AP,true_or->Bt
open ByteArray renaming data_extract->Yj
open Decidable renaming decide->U
open Go renaming binOp->II
open Go.Addr renaming add_lit->Gh
open Go.Builtin renaming append_->Lz,copy_->lz,firstCells->ID,lenOf->ly,len_->QS,nextslicecap->lO,zeroCells->Lu
open Go.ByteArray renaming toList_eq->aBU
open Go.Call renaming operands->Mv
open Go.Code renaming region->Qa
open Go.Instr renaming fill->Mu,index->ld,indexAt->TU,loadAt->Mt,sliceAt->QI,sliceBounds->QL,storeAt->QJ,sureAddr->JO
open Go.Op renaming eqFields->TO,operands->BU,stringOp->lc
open Go.Region renaming binds->Fh,ready->Oo,wanted->JM
open Go.Result renaming andThen_ok->F2
open Go.Sem renaming run_bind->Ef,run_pure->Fj
open Go.Value renaming slice->lh
open Go.World renaming block_lt_of_cell?->TT,cell?->M1,cell?_of_block->TL
open Int renaming le_refl->Ct
open List renaming all_eq_true->DK,any_eq_true->K0,append_assoc->C2,append_nil->CJ,append_of_mem->TQ,drop_drop->Iq,drop_eq_nil_of_le->M0,eq_nil_of_length_eq_zero->Dw,flatMap_append->lW,flatMap_cons->Oh,foldl_append->G1,foldl_cons->Dv,foldl_nil->K7,getD_eq_getElem?_getD->B9,getElem?_append_left->IE,getElem?_append_right->FO,getElem?_cons_succ->aBQ,getElem?_cons_zero->Yg,getElem?_drop->Hd,getElem?_eq_getElem->Av,getElem?_eq_some_iff->BO,getElem?_map->D7,getElem?_range->Gj,getElem?_set_self->Yi,getElem?_take->Ge,getElem?_toArray->TD,getElem_mem->Cd,length->JP,length->j8,length_append->Au,length_cons->Bj,length_drop->EF,length_map->DV,length_nil->CO,length_take->Dh,map_congr_left->Gi,map_cons->DM,map_id'->lZ,map_map->I9,map_nil->JQ,mem_append->BM,mem_append_left->Bv,mem_append_right->CP,mem_cons->Bl,mem_cons_of_mem->Ai,mem_cons_self->An,mem_filterMap->GO,mem_iff_getElem?->ln,mem_map->Bu,mem_of_getElem?->Ci,mem_of_mem_drop->Kq,mem_of_mem_take->IF,mem_range->Cu,mem_toArray->TE,nil_append->EU,nodup_append->JN,nodup_cons->IB,pairwise_append->N1,pairwise_cons->K6,pairwise_lt_range->QQ,range->B7,replicate->BS,singleton_append->aBa,size_toArray->Kn,take_add_one->JJ,take_left'->Oe,toList_toArray->aBV,zipIdx_cons->lI
open List.cons renaming injEq->Ly
open Nat renaming add_assoc->D8,add_comm->N2,add_mul->EG,add_zero->Hh,beq->Ag,beq_eq->HD,ble->Dx,div_lt_iff_lt_mul->aBb,eq_of_beq_eq_true->Yk,land->Oi,le_add_right->Ya,le_of_ble_eq_true->DW,le_refl->Ar,le_succ->lj,le_trans->CV,lor->BN,lt_of_lt_of_le->Gf,lt_or_gt_of_ne->TR,lt_succ_self->Od,min->F1,min_eq_left->QZ,mod_eq_of_lt->Oc,mod_lt->Oj,mul_le_mul->lp,mul_le_mul_right->E6,ne_of_lt->Ok,one_mul->On,sub_mul->Yr,zero_add->DY,zero_le->D1,zero_mul->TW
open Ne renaming symm->Ku
open Option renaming bind_eq_some_iff->Ah,bind_some->A6,map_eq_some_iff->D6,map_some->QV,none->G,some->I
open Option.some renaming inj->Eh,injEq->Bs
open Prod.mk renaming injEq->CK
set_option linter.all false
noncomputable section
namespace Go.VS
open Go
def RX(w:World)(β:Beta)(tm:Nat->Value):AV->Value->Prop
 | .gd g want x,v=>tm g= .bool want->R2 w β x v
 | c,v=>R2 w β c v
def RT.aL{w:World}{β:Beta}{tm:Nat->Value}{c:AV}{v:Value}(h:RT w β tm c v):RX w β tm c v:=by
 cases c<;>first|exact h|exact h.1
def Good(B:Bb)(β:Beta)(H:Hp)(w:World)(b:Nat)(v:AV)(os:List Ob)(r:Result Next):Prop:=
 ∃u w' β',r= .ok (.value u) w'/\Hs B β' (Eo H b os) w'/\Kp w β w' β'/\R2 w' β' v u
section
variable {P:Program} {B:Bb} {β:Beta} {H:Hp} {w:World} {b:Nat} {tm:Nat->Value}
def Good.same(hH:Hs B β H w){v:AV}{u:Value}{r:Result Next}(hr:r= .ok (.value u) w)(hv:R2 w β v u):Good B β H w b v [] r:=
 ⟨u,w,β,hr,hH,Kp.refl _ _,hv⟩
def O5{v v':AV}{c:Bool}{os:List Ob}(h:okN v=I (c,v',os)):v'=v/\c=Y/\os=[]/\ ∀g w x,v≠ .gd g w x:=by
 cases v<;>simp[okN,okA]at h<;>(obtain⟨rfl,rfl,rfl⟩:=h;exact⟨rfl,rfl,rfl,by simp⟩)
def DG{v v':AV}{c:Bool}{os:List Ob}(h:okA v=I (c,v',os)):v'=v/\c=Y/\os=[]:=by
 simp[okA]at h;obtain⟨rfl,rfl,rfl⟩:=h;exact⟨rfl,rfl,rfl⟩
def RX.of{c:AV}{v:Value}(h:RX w β tm c v)(hn:∀g w x,c≠ .gd g w x):R2 w β c v:=by
 cases c<;>first|exact h|exact absurd rfl (hn _ _ _)
def RX.lit{v' v:Value}(h:RX w β tm (.lit v') v):v=v':=h
def RX.agg{cs:List AV}{v:Value}(h:RX w β tm (.agg cs) v):∃us:List Value,v= .agg us.toArray/\RL (RC w β) cs us:=h
def RX.tup{cs:List AV}{v:Value}(h:RX w β tm (.tup cs) v):∃us:List Value,v= .tuple us.toArray/\RL (R1 w β) cs us:=h
def arY{ρ:Operand->AV}{η:Operand->Value}(hη:∀x,RX w β tm (ρ x)<|η x)(htm:∀g,η (.tmp g)=tm g)(hc:∀v,η (.const v)=v)(hH:Hs B β H w)
  {c x y:Operand}{q:Bool}{v:AV}{os:List Ob}(h:OV ρ c x y=I (q,v,os))(hq:q=Y){o:Oper}(ho:o.op= .pick c x y):Good B β H w b v os ((execOp η o).run P w):=by
 subst hq;have key:∀(p:Bool),ρ c= .lit (.bool p)->(execOp η o).run P w= .ok (.value<|if p then η x else η y) w:=by
  intro p hp;have hcv:η c= .bool p:=by have:=hη c;rw[hp]at this;exact this
  unfold execOp;rw[ho];simp[hcv,asBool]
 have abn:∀(want:Bool) (z:Operand) (r:Bool),Kl (QA want (ρ z) c)=I r->(η c= .bool want->η z= .bool r):=by
  intro want z r hr hcw;have hz:=hη z;cases hρ:ρ z with
  | gd g w' x'=>
   rw[hρ]at hr hz;unfold QA at hr;cases c with
   | tmp g'=>
    simp only[Ga]at hr;cases h1:Ag g' g with
    | false=>rw[h1]at hr;simp[Kl]at hr
    | true=>
     obtain rfl:=Bm h1;cases h2:want == w' with
     | false=>rw[h1,h2]at hr;simp[Kl]at hr
     | true=>
      obtain rfl:want=w':=by simpa using h2
      rw[h1,h2]at hr;have hzz:=hz (by rw[← htm];exact hcw);cases x'<;>simp[Kl]at hr;rename_i vv;cases vv<;>simp at hr;subst hr;exact hzz
   | _=>simp[Kl]at hr
  | lit vv=>
   rw[hρ]at hr hz;have:Kl (AV.lit vv)=I r:=by
    unfold QA at hr;cases c<;>simpa[Ga] using hr
   cases vv<;>simp[Kl]at this;subst this;exact hz
  | _=>
   rw[hρ]at hr;unfold QA at hr;cases c<;>simp[Ga,Kl]at hr
 unfold OV at h;split at h
 .rename_i p hp;split at h
  .rename_i r hr;obtain⟨rfl,_,rfl⟩:=DG h;refine Good.same hH (key _ hp) ?_;have hcv:η c= .bool p:=by have:=hη c;rw[hp]at this;exact this
   cases p with
   | true=>simp only[A2,Bt];exact hc _
   | false=>simp only[Hc,if_false,Bk];exact abn A0 _ r hr hcv
  .split at h
   .obtain⟨rfl,_,rfl⟩:=DG h;refine Good.same hH (key _ hp) ?_;simp only[A2];exact hc _
   .obtain⟨rfl,_,rfl,hg⟩:=O5 h;refine Good.same hH (key _ hp) ?_;simp only[Hc,if_false];exact(hη _).of hg
 .rename_i p hp _;split at h
  .rename_i r hr;obtain⟨rfl,_,rfl⟩:=DG h;refine Good.same hH (key _ hp) ?_;have hcv:η c= .bool p:=by have:=hη c;rw[hp]at this;exact this
   cases p with
   | true=>simp only[A2,AP];exact abn Y _ r hr hcv
   | false=>simp only[Hc,if_false,AM];exact hc _
  .split at h
   .obtain⟨rfl,_,rfl,hg⟩:=O5 h;refine Good.same hH (key _ hp) ?_;simp only[A2];exact(hη _).of hg
   .obtain⟨rfl,_,rfl⟩:=DG h;refine Good.same hH (key _ hp) ?_;simp only[Hc,if_false];exact hc _
 .rename_i p hp _ _;split at h
  .obtain⟨rfl,_,rfl,hg⟩:=O5 h;refine Good.same hH (key _ hp) ?_;simp only[A2];exact(hη _).of hg
  .obtain⟨rfl,_,rfl,hg⟩:=O5 h;refine Good.same hH (key _ hp) ?_;simp only[Hc,if_false];exact(hη _).of hg
 .cases h
end
end Go.VS
namespace Go.VS
open Go
section
variable {P:Program} {B:Bb} {β:Beta} {H:Hp} {w:World} {b:Nat} {tm:Nat->Value}
def RC.ay7{k:K}{x:Tof k}{o:Nat}{v:Value}(h:RC w β (.ipt k x o) v):∃bb f us,v= .pointer (I ⟨bb,f+o,G⟩)/\RL (RC w β) (enc k x) us/\ ∀j u,us[j]? =I u->w.cell? ⟨bb,f+j,G⟩=I u:=by
 cases h with
 | @ipt _ _ _ bb f u hM hu hr=>
  refine⟨bb,f,(B7<|ks k).map u,rfl,⟨by simp[EK],λj c v hc hv=> ?_⟩,λj v hv=> ?_⟩
  .simp only[D7,D6]at hv;obtain⟨i,hi,rfl⟩:=hv;rw[Gj (by have:=(BO.1 hi).1;simpa using this)]at hi;cases hi;exact hr _ _ hc
  .simp only[D7,D6]at hv;obtain⟨i,hi,rfl⟩:=hv;have hlt:j<ks k:=by have:=(BO.1 hi).1;simpa using this
   rw[Gj hlt]at hi;cases hi;exact hu _ hlt
def Nv{i n s j:Nat}(hi:i<n)(hj:j<s):i * s+j<n * s:=by
 have:(i+1) * s<=n * s:=E6 _ hi;rw[EG]at this;omega
def FV.elem{e:TypeId}{fz:Bool}{k:K}{xs:List (Tof k)}{hd:Value}(h:FV w β e fz k xs hd){bb f:Nat}(ha:adr hd=I ⟨bb,f,G⟩){i:Nat}{x:Tof k}(hi:xs[i]? =I x):
  ∃us,RL (RC w β) (enc k x) us/\ ∀j u,us[j]? =I u->w.cell? ⟨bb,f+(i * ks k+j),G⟩=I u:=by
 obtain⟨rfl,_⟩|⟨b',f',cap,us,fr,hd',hh,hfr,hn,hc,hs,hr⟩:=h
 .cases ha
 .have ha':adr hd=I ⟨b',f',G⟩:=by rw[hd'];rfl
  rw[ha]at ha';cases ha';have hlt:i<xs.length:=(BO.1 hi).1;have Cl:∀j,j<ks k->f+(i * ks k+j)<us.size:=λj hj=>by
   have h1:=Nv hlt hj;have h2:xs.length * ks k<=cap * ks k:=E6 _ hn;omega
  refine⟨(B7<|ks k).map λj=>us.getD (f+(i * ks k+j)) undef,⟨by simp[EK],λj c v hc hv=> ?_⟩,λj v hv=> ?_⟩
  .simp only[D7,D6]at hv;obtain⟨q,hq,rfl⟩:=hv;have KI:j<ks k:=by have:=(BO.1 hq).1;simpa using this
   rw[Gj KI]at hq;cases hq;exact hr i x _ c _ hi hc (by simp[Cl _ KI])
  .simp only[D7,D6]at hv;obtain⟨q,hq,rfl⟩:=hv;have KI:j<ks k:=by have:=(BO.1 hq).1;simpa using this
   rw[Gj KI]at hq;cases hq;rw[cell_of_row w bb _ us e fr hh];simp[Cl _ KI]
def getD_some{α:Type}{xs:List α}{i:Nat}{d:α}(h:i<xs.length):xs[i]? =I (xs.getD i d):=by simp[h]
def aCd(hP:P=B.P)(hH:Hs B β H w){t:TypeId}{c v:AV}{a:Value}(hx:R2 w β c a)(h:Jr P H t c=I v):
  ∃u,(Mt t a).run P w= .ok u w/\R1 w β v u:=by
 unfold Jr at h;cases c<;>simp only at h<;>try cases h
 case ipt k x o=>
  obtain⟨bb,f,us,rfl,hl,hc⟩:=RC.ay7 hx;obtain⟨u,hu,hr⟩:=X9 (P:=P) h hl hc;exact⟨u,by simpa[Mt,JO] using hu,hr⟩
 case ptr id z i o=>
  have hx':RC w β (.ptr id z i o) a:=hx;cases hx' with
  | @ptr _ _ _ _ hd n bb f hβ ha hi=>
   cases hid:H id with
   | none=>rw[hid]at h;cases h
   | some ob=>
    have hob:=hH.EI id ob hid;rw[hid]at h;cases ob with
    | box e cs=>
     obtain⟨b',us,h1,h2,h3⟩:=hob;rw[hβ]at h1;obtain⟨rfl,rfl⟩:hd= .pointer (I ⟨b',0,G⟩)/\n=1:=by simpa using h1
     obtain⟨rfl,rfl⟩:b'=bb/\0=f:=by simpa[adr] using ha
     obtain rfl:i=0:=J
     simp only at h;obtain⟨u,hu,hr⟩:=X9 (P:=P) (b:=b') (f:=0) h h3 (λj u hj=>by
      rw[cell_of_row w b' _ us e (0,0) h2];simpa using hj)
     refine⟨u, ?_,hr⟩;simpa[Mt,JO] using hu
    | row e fz k xs=>
     obtain⟨hd',h1,h2⟩:=hob;rw[hβ]at h1;obtain⟨rfl,rfl⟩:hd=hd'/\n=xs.length:=by simpa using h1
     simp only at h;split at h
     .rename_i hb;obtain rfl:=Bm hb;obtain⟨us,hl,hc⟩:=h2.elem ha<|getD_some (d:=dfl k) hi;obtain⟨u,hu,hr⟩:=X9 (P:=P) (b:=bb) (f:=f+i * ks k) h hl (λj u hj=>by
       have:=hc j u hj;rwa[← D8]at this)
      refine⟨u, ?_,hr⟩;simpa[Mt,JO,D8] using hu
     .cases h
    | arr e k xs=>
     obtain⟨b',us,h1,hh,hsz,hce,hr⟩:=hob;rw[hβ]at h1;obtain⟨rfl,rfl⟩:hd= .pointer (I ⟨b',0,G⟩)/\n=xs.length:=by simpa using h1
     obtain⟨rfl,rfl⟩:b'=bb/\0=f:=by simpa[adr] using ha
     simp only at h;split at h
     .rename_i na ea hu;split at h
      .rename_i hb;simp only[AD]at hb;obtain rfl:=Bm hb.1;have h1:=DW hb.2;cases h;have hag:(isAgg e).run P w= .ok Y w:=by unfold isAgg;simp only[Ef,run_underlying hu,F2];rfl
       refine⟨.agg us, ?_,us.toList,by simp,by simpa using hsz,λi x j c u a1 a2 a3=>hr i x j c u a1 a2<|by simpa using a3⟩;have hr2:=run_loadCells_list (P:=P) w ⟨b',0,G⟩ us.toList (λj v hj=>by
        rw[Gh,cell_of_row w b' _ us e (0,0) hh];simpa using hj)
       simp only[Ez,lu]at hr2;have hcs:P.cellsOf e=us.size:=by rw[hP];exact hce.symm
       simp only[Mt,JO,loadVar,Ef,Fj,F2,hag,A2,KY h1,hcs,TW,Hh,hr2]
      .cases h
     .split at h
      .rename_i hb;obtain rfl:=Bm hb;have hlt:∀j,j<ks k->i * ks k+j<us.size:=λj hj=>by rw[hsz];exact Nv hi hj
       have hx:=getD_some (d:=dfl k) hi;obtain⟨u,hu,hr'⟩:=X9 (P:=P) (w:=w) (β:=β) (b:=b') (f:=i * ks k) (us:=(B7<|ks k).map λj=>us.getD (i * ks k+j) undef) h ⟨by simp[EK],λj c v hc hv=>by
        simp only[D7,D6]at hv;obtain⟨q,hq,rfl⟩:=hv;have KI:j<ks k:=by have:=(BO.1 hq).1;simpa using this
        rw[Gj KI]at hq;cases hq;exact hr i _ _ c _ hx hc<|by simp[hlt _ KI]⟩ (λj v hv=>by
        simp only[D7,D6]at hv;obtain⟨q,hq,rfl⟩:=hv;have KI:j<ks k:=by have:=(BO.1 hq).1;simpa using this
        rw[Gj KI]at hq;cases hq;rw[cell_of_row w b' _ us e (0,0) hh];simp[hlt _ KI])
       refine⟨u, ?_,hr'⟩;simpa[Mt,JO,D8] using hu
      .cases h
end
end Go.VS
namespace Go.VS
open Go
section
variable {P:Program} {B:Bb} {β:Beta} {H:Hp} {w:World} {b:Nat} {tm:Nat->Value} {ρ:Operand->AV} {η:Operand->Value}
def aaO(v:Value):ZY v=v.oneCell':=by cases v<;>rfl
def Wc{t:TypeId}{zs:List AV}(h:I4 P t=I zs):∃i z,P.info? t=I i/\i.zero=I z/\zs=z.cells.toList.map .lit/\ ∀v∈z.cells.toList,v.oneCell'=Y:=by
 unfold I4 at h;cases hi:P.info? t with
 | none=>rw[hi]at h;cases h
 | some i=>
  rw[hi]at h;cases hz:i.zero with
  | none=>simp[hz]at h
  | some z=>
   simp only[hz,A6]at h;split at h
   .rename_i ha;cases h;exact⟨i,z,rfl,hz,rfl,λv hv=>by rw[← aaO];exact DK.1 ha v hv⟩
   .cases h
def aDG{t:TypeId}{i:TypeInfo}{z:Value}(hi:P.info? t=I i)(hz:i.zero=I z):(zeroValue t).run P w= .ok z w:=by
 unfold zeroValue;simp[typeInfo,hi,hz]
def RL.lits(vs:List Value)(h:∀v∈vs,v.oneCell'=Y):RL (RC w β) (vs.map .lit) vs:=by
 refine⟨by simp,λj c u h1 h2=> ?_⟩;rw[D7,h2]at h1;cases h1;exact .lit<|h u<|Ci h2
def S3{c:AV}{cs:List AV}{v:Value}(h:GY c=I cs)(hx:RX w β tm c v):RL (RC w β) cs v.cells.toList:=by
 have sc:∀x:AV,RC w β x v->cs=[x]->RL (RC w β) cs v.cells.toList:=by
  intro x hx e;subst e;have h1:=hx.one;have:v.cells= #[v]:=by cases v<;>first|rfl|cases h1
  rw[this];exact .cons hx .nil
 cases c<;>simp only[GY]at h<;>try cases h
 case lit v'=>
  split at h
  all_goals try cases h
  all_goals try contradiction
  rename_i hn1 hn2 hn3 hn4 _;have e:v=v':=hx;subst e;refine sc _ (.lit ?_) rfl;cases v<;>first|rfl|simp_all
 case sl=>exact sc _ hx rfl
 case own=>exact sc _ hx rfl
 case ptr=>exact sc _ hx rfl
 case ipt=>exact sc _ hx rfl
 case agg=>obtain⟨us,rfl,hl⟩:=RX.agg hx;simpa[Value.cells] using hl
def RL.one{cs:List AV}{us:List Value}(h:RL (RC w β) cs us):∀v∈us,v.oneCell'=Y:=by
 intro v hv;obtain⟨j,hj⟩:=ln.1 hv;have hlt:j<cs.length:=by rw[← h.1];exact(BO.1 hj).1
 exact(h.2 j cs[j] v (by simp[hlt]) hj).one
def aaP(hH:Hs B β H w)(hb:H b=G)(t:TypeId){cs:List AV}{us:Array Value}(hl:RL (RC w β) cs us.toList){r:Result Next}
  (hr:r= .ok (.value<|.pointer<|I ⟨w.heap.size,0,G⟩) (w.alloc<|.cells us t))(n:Nat):Good B β H w b (.ptr b n 0 0) [.box t cs] r:=by
 obtain⟨β',h1,h2,h3,h4⟩:=hH.alloc hb us t (.box t cs) (.pointer<|I ⟨w.heap.size,0,G⟩) 1 ⟨w.heap.size,0,G⟩ rfl rfl
  (λβ' hj hid hk=>⟨w.heap.size,us,hid,heap_alloc_new w _,hl.mono hk⟩)
 refine⟨_,_,β',hr,h1,h2, ?_⟩;have:=RC.ptr (w:=w.alloc<|.cells us t) (β:=β') (id:=b) (sz:=n) (i:=0) (o:=0) h3 (b:=w.heap.size) (f:=0) rfl J;simpa[R2,R1] using this
def aql(hH:Hs B β H w)(hb:H b=G){t:TypeId}{zs:List AV}(h:I4 P t=I zs){o:Oper}(ho:o.op= .alloc t):Good B β H w b (.ptr b zs.length 0 0) [.box t zs] ((execOp η o).run P w):=by
 obtain⟨i,z,hi,hz,rfl,h1⟩:=Wc h;refine aaP hH hb t (us:=z.cells) (RL.lits _ h1) ?_ _;unfold execOp;rw[ho];simp[Instr.alloc,aDG hi hz,newVar,newRow]
def auU(hη:∀x,RX w β tm (ρ x)<|η x)(hH:Hs B β H w)(hb:H b=G){t:TypeId}{x:Operand}{cs:List AV}(h:GY (ρ x)=I cs){o:Oper}(ho:o.op= .box t x):
  Good B β H w b (.ptr b cs.length 0 0) [.box t cs] ((execOp η o).run P w):=by
 refine aaP hH hb t (us:=(η x).cells) (S3 h<|hη x) ?_ _;unfold execOp;rw[ho];simp[Instr.box,newVar,newRow]
def av9(hP:P=B.P)(hη:∀x,RX w β tm (ρ x)<|η x)(hH:Hs B β H w){t:TypeId}{p:Operand}{v:AV}(h:Jr P H t (ρ p)=I v){o:Oper}(ho:o.op= .load t p):
  Good B β H w b v [] ((execOp η o).run P w):=by
 have hx:R2 w β (ρ p) (η p):=(hη p).of (λg w x e=>by rw[e]at h;cases h);obtain⟨u,hu,hr⟩:=aCd hP hH hx h;refine Good.same hH (u:=u) ?_<|R2.HG hr;unfold execOp;rw[ho];simp[hu]
def RC.ay0{id z i o:Nat}{v:Value}(h:RC w β (.ptr id z i o) v):∃a,v= .pointer (I a):=by cases h;exact⟨_,rfl⟩
def RC.ay4{k:K}{x:Tof k}{o:Nat}{v:Value}(h:RC w β (.ipt k x o) v):∃a,v= .pointer (I a):=by cases h;exact⟨_,rfl⟩
def za(hη:∀x,RX w β tm (ρ x)<|η x)(hH:Hs B β H w){p:Operand}{v:AV}(hv:(∃id z i o,v= .ptr id z i o)\/ ∃k x o,v= .ipt k x o)(h:ρ p=v){o:Oper}(ho:o.op= .nilCheck p):
  Good B β H w b v [] ((execOp η o).run P w):=by
 have hx:=hη p;rw[h]at hx;have hp:∃a,η p= .pointer (I a):=by
  obtain⟨id,z,i,o,rfl⟩|⟨k,x,o,rfl⟩:=hv
  .exact RC.ay0 (show RC w β (.ptr id z i o) (η p) from hx)
  .exact RC.ay4<|show RC w β (.ipt k x o) (η p) from hx
 obtain⟨a,ha⟩:=hp;refine Good.same hH (u:=η p) ?_ ?_
 .unfold execOp;rw[ho];simp[ha]
 .rcases hv with⟨id,z,i,o,rfl⟩|⟨k,x,o,rfl⟩<;>exact hx
def apI(hη:∀x,RX w β tm (ρ x)<|η x)(hH:Hs B β H w){x:Operand}{i:Nat}{vs:List AV}{v:AV}(h:ρ x= .tup vs)(hv:vs[i]? =I v){o:Oper}(ho:o.op= .extract x i):
  Good B β H w b v [] ((execOp η o).run P w):=by
 have hx:=hη x;rw[h]at hx;obtain⟨us,e,hl⟩:=RX.tup hx;obtain⟨u,hu,hr⟩:=hl.get hv;refine Good.same hH (u:=u) ?_<|R2.HG hr;unfold execOp;rw[ho];simp[Instr.extract,e,hu]
def iX{t:TypeId}{f:Nat}{fd:Field}(h:Lc P t f=I fd):∃fs,P.underlying t=I (.struct fs)/\fs[f]? =I fd:=by
 unfold Lc at h;split at h
 .rename_i fs hu;exact⟨fs,hu,h⟩
 .cases h
def yH(hη:∀x,RX w β tm (ρ x)<|η x)(hH:Hs B β H w){t:TypeId}{x:Operand}{f:Nat}{fd:Field}(h:Lc P t f=I fd)(h1:1<=P.cellsOf fd.type){v:AV}
  (hv:(∃id z i o,ρ x= .ptr id z i o/\v= .ptr id z i (o+fd.offset))\/ ∃k y o,ρ x= .ipt k y o/\v= .ipt k y (o+fd.offset)){o:Oper}(ho:o.op= .fieldAddr t x f):
  Good B β H w b v [] ((execOp η o).run P w):=by
 obtain⟨fs,hu,hf⟩:=iX h;have hx:=hη x;have key:∀bb o',η x= .pointer (I ⟨bb,o',G⟩)->(execOp η o).run P w= .ok (.value<|.pointer<|I ⟨bb,o'+fd.offset,G⟩) w:=by
  intro bb o' he;unfold execOp;rw[ho];have hne:¬P.cellsOf fd.type=0:=J
  simp[Instr.fieldAt,run_underlying hu,hf,JO,he,fieldPlace,KY h1,hne,Gh]
 obtain⟨id,z,i,o',e1,rfl⟩|⟨k,y,o',e1,rfl⟩:=hv
 .rw[e1]at hx;have hx':RC w β (.ptr id z i o') (η x):=hx;generalize hg:η x=g at hx';cases hx' with
  | @ptr _ _ _ _ hd n bb f' hβ ha hi=>
   refine Good.same hH (key _ _ hg) ?_;have:=RC.ptr (w:=w) (β:=β) (id:=id) (sz:=z) (i:=i) (o:=o'+fd.offset) hβ ha hi;simpa[R2,R1,D8] using this
 .rw[e1]at hx;have hx':RC w β (.ipt k y o') (η x):=hx;generalize hg:η x=g at hx';cases hx' with
  | @ipt _ _ _ bb f' u hM hu' hr=>
   refine Good.same hH (key _ _ hg) ?_;have:=RC.ipt (w:=w) (β:=β) (k:=k) (x:=y) (o:=o'+fd.offset) (b:=bb) (f:=f') u hM hu' hr;simpa[R2,R1,D8] using this
def ara{t:TypeId}{cs:List AV}{o:Nat}{v:AV}{us:List Value}(h:HQ P t cs o=I v)(hl:RL (RC w β) cs us):∃u,(part t us.toArray o).run P w= .ok u w/\R1 w β v u:=by
 unfold HQ at h;cases ha:L6 P t with
 | none=>rw[ha]at h;cases h
 | some q=>
  rw[ha]at h;cases q with
  | true=>
   simp only at h;split at h
   .rename_i hb;simp only[AD]at hb;have h2:=DW hb.2;cases h;refine⟨.agg ((us.drop o).take<|P.cellsOf t).toArray, ?_,_,rfl,(hl.drop o).take _⟩;unfold part;simp[SR ha,KY h2]
   .cases h
  | false=>
   simp only at h;obtain⟨u,hu,hr⟩:=hl.get h;refine⟨u, ?_,R1.M9 hr⟩;unfold part;simp[SR ha,hu]
def ar3(hη:∀x,RX w β tm (ρ x)<|η x)(hH:Hs B β H w){t:TypeId}{x:Operand}{f:Nat}{fd:Field}(h:Lc P t f=I fd){cs:List AV}(hx:ρ x= .agg cs){v:AV}(hv:HQ P fd.type cs fd.offset=I v)
  {o:Oper}(ho:o.op= .field t x f):Good B β H w b v [] ((execOp η o).run P w):=by
 obtain⟨fs,hu,hf⟩:=iX h;have hη':=hη x;rw[hx]at hη';obtain⟨us,e,hl⟩:=RX.agg hη';obtain⟨u,hr,hr'⟩:=ara hv hl;refine Good.same hH (u:=u) ?_<|R2.HG hr';unfold execOp;rw[ho];simp[Instr.field,run_underlying hu,hf,e,asAgg,hr]
end
end Go.VS
end
noncomputable section
namespace Go.VS
open Go
def jQ(a b:A1):(a.toList == b.toList)=U (a=b):=by
 by_cases h:a=b
 .subst h;simp
 .have:a.toList≠b.toList:=λe=>h (by
   rw[aBU,aBU]at e;obtain⟨⟨x⟩⟩:=a;obtain⟨⟨y⟩⟩:=b;simp at e;subst e;rfl)
  simp[h,this]
section
variable {P:Program} {B:Bb} {β:Beta} {H:Hp} {w:World} {b:Nat} {tm:Nat->Value} {ρ:Operand->AV} {η:Operand->Value}
def asF{op:BinOp}{k:IntKind}{x y:Int}{q:Bool}{v:AV}{os:List Ob}(h:Tm op k x y=I (q,v,os))(hq:q=Y)(t:TypeId):
  ∃u,(II op t (.int k x)<|.int k y).run P w= .ok u w/\os=[]/\v= .lit u:=by
 subst hq;cases op<;>simp only[Tm]at h
 case quo=>
  simp only[Bs,CK,CE,decide_eq_false_iff_not]at h;obtain⟨h1,rfl,rfl⟩:=h;exact⟨_,by simp[II,Op.intDiv,h1],rfl,rfl⟩
 case rem=>
  simp only[Bs,CK,CE,decide_eq_false_iff_not]at h;obtain⟨h1,rfl,rfl⟩:=h;exact⟨_,by simp[II,Op.intDiv,h1],rfl,rfl⟩
 case shl=>cases h
 case shr=>cases h
 case andNot=>cases h
 case add|sub|mul|and|or|xor=>
  obtain⟨rfl,_,rfl⟩:=DG h;exact⟨_,by simp[II,Op.intArith,Op.intBits,Dt,abe,ior],rfl,rfl⟩
 all_goals
  obtain⟨rfl,_,rfl⟩:=DG h;refine⟨_, ?_,rfl,rfl⟩;simp only[II,Op.intCmp]
  first|rfl|(simp only[ne_eq,not_true_eq_false,if_false,Fj,Result.ok.injEq,Value.bool.injEq,and_true];done)|(by_cases hh:x=y<;>simp[hh])
def asE{op:BinOp}{x y:A1}{q:Bool}{v:AV}{os:List Ob}(h:Tl op x y=I (q,v,os))(hq:q=Y)(t:TypeId):
  ∃u,(II op t (.string x)<|.string y).run P w= .ok u w/\os=[]/\v= .lit u:=by
 subst hq;cases op<;>simp only[Tl]at h<;>try cases h
 case add=>
  simp only[Bs,CK,decide_eq_true_eq]at h;obtain⟨h1,rfl,rfl⟩:=h;refine⟨.string<|x++y, ?_,rfl,rfl⟩;have h2:¬(((x.size+y.size:Nat):Int) > IntKind.i64.max):=by
   have e:IntKind.i64.max=9223372036854775807:=by decide
   rw[e];omega
  simp only[II,lc,A8 h2,Fj]
 case eql=>
  exact⟨_,by simp only[II,lc,Fj,jQ],rfl,rfl⟩
 case neq=>
  exact⟨_,by simp only[II,lc,Fj,jQ],rfl,rfl⟩
def fW(op:BinOp)(t:TypeId)(x y:Operand)(u v:Value)(h:u.oneCell'=Y)(hn:u≠ .nilIface):(eqGuard op t x y u v).run P w= .ok () w:=by
 cases op<;>cases u<;>first|rfl|exact absurd rfl hn|(cases v<;>first|rfl|cases h)
def RC.NN{x v:Value}(h:RC w β (.lit x) v):v=x:=by cases h;rfl
def aub{cs ds:List AV}{r:Bool}(h:eqC cs ds=I r):∀ {us vs:List Value},RL (RC w β) cs us->RL (RC w β) ds vs->eqC (us.map .lit) (vs.map .lit)=I r/\cs=us.map .lit:=by
 induction cs generalizing ds r with
 | nil=>
  intro us vs h1 h2;cases ds with
  | nil=>rw[h1.of_nil,h2.of_nil];exact⟨h,rfl⟩
  | cons d ds=>simp[eqC]at h
 | cons c cs ih=>
  intro us vs h1 h2;cases ds with
  | nil=>cases c<;>simp[eqC]at h
  | cons d ds=>
   obtain⟨u,us,rfl,hu,hus⟩:=h1.C7;obtain⟨v,vs,rfl,hv,hvs⟩:=h2.C7;cases c<;>try (simp[eqC]at h;done)
   rename_i cv;cases d<;>try (cases cv<;>simp[eqC]at h;done)
   rename_i dv;obtain rfl:=hu.NN;obtain rfl:=hv.NN;cases u<;>try (simp[eqC]at h;done)
   all_goals cases v<;>try (simp[eqC]at h;done)
   case int.int=>
    simp only[eqC]at h;split at h
    .rename_i hk;cases hr:eqC cs ds with
     | none=>rw[hr]at h;cases h
     | some r'=>
      rw[hr]at h;obtain⟨i1,i2⟩:=ih hr hus hvs;refine⟨?_,by simp[i2]⟩;simp only[DM,eqC,hk,i1];exact h
    .cases h
   case bool.bool=>
    simp only[eqC]at h;cases hr:eqC cs ds with
    | none=>rw[hr]at h;cases h
    | some r'=>
     rw[hr]at h;obtain⟨i1,i2⟩:=ih hr hus hvs;refine⟨?_,by simp[i2]⟩;simp only[DM,eqC,i1];exact h
   case string.string=>
    simp only[eqC]at h;cases hr:eqC cs ds with
    | none=>rw[hr]at h;cases h
    | some r'=>
     rw[hr]at h;obtain⟨i1,i2⟩:=ih hr hus hvs;refine⟨?_,by simp[i2]⟩;simp only[DM,eqC,i1];exact h
def kb{t:TypeId}{us:List Value}{n:Nat}{u:Value}(hu:us[n]? =I u)(ha:L6 P t=I A0):(part t us.toArray n).run P w= .ok u w:=by
 unfold part;simp[SR ha,hu]
def aDu(d:Nat):∀(fs:List Field) (n:Nat) (us vs us' vs':List Value) (r:Bool),ZQ P n fs (us'.map .lit)=Y->fs.length=us'.length->us=us.take n++us'->n<=us.length->vs=vs.take n++vs'->n<=vs.length->
  eqC (us'.map .lit) (vs'.map .lit)=I r->(TO (d+1) us.toArray vs.toArray fs).run P w= .ok r w
 | [],n,us,vs,us',vs',r,_,hl,_,_,_,_,h=>by
  obtain rfl:us'=[]:=Dw (by simpa using hl.symm);cases vs' with
  | nil=>simp[eqC]at h;subst h;simp[TO]
  | cons v vs'=>simp[eqC]at h
 | f::fs,n,us,vs,us',vs',r,hf,hl,hu,hn,hv,hn',h=>by
  cases us' with
  | nil=>simp at hl
  | cons u us'=>
  cases vs' with
  | nil=>cases u<;>simp[eqC]at h
  | cons v vs'=>
  simp only[DM,ZQ,AD,CE]at hf;obtain⟨⟨⟨hk,ho⟩,KB⟩,hf⟩:=hf;have ho:=Bm ho;have hu1:us[n]? =I u:=by
   rw[hu,FO y7];simp[QZ hn]
  have hv1:vs[n]? =I v:=by
   rw[hv,FO y7];simp[QZ hn']
  have hlu:n<us.length:=(BO.1 hu1).1;have hlv:n<vs.length:=(BO.1 hv1).1;have hu2:us=us.take (n+1)++us':=by
   rw[JJ,hu1];simp only[Option.toList_some,C2,aBa];exact hu
  have hv2:vs=vs.take (n+1)++vs':=by
   rw[JJ,hv1];simp only[Option.toList_some,C2,aBa];exact hv
  have oF:¬f.name= "_" :=by simpa using KB
  have az4:=λr h=>aDu d fs (n+1) us vs us' vs' r hf (by simpa using hl) hu2 hlu hv2 hlv h;have fin:∀(q r':Bool),L6 P f.type=I A0->(Op.equalIn (d+1) f.type u v).run P w= .ok q w->eqC (us'.map .lit) (vs'.map .lit)=I r'->r=(q&&r')->
    (TO (d+1) us.toArray vs.toArray<|f::fs).run P w= .ok r w:=by
   intro q r' ha h1 h2 h3;simp only[TO,ne_eq,oF,not_false_eq_true,A2,ho,Ef,kb hu1 ha,kb hv1 ha,F2,h1];cases q with
   | false=>simp[h3]
   | true=>simpa[h3] using az4 r' h2
  have ag:∀ {ty},P.underlying f.type=I ty->(match ty with|.bool=>True|.int _=>True|.string=>True|_=>False)->L6 P f.type=I A0:=by
   intro ty h1 h2;unfold L6;rw[h1];cases ty<;>first|rfl|exact h2.elim
  have op:∀(q r':Bool),eqC (us'.map .lit) (vs'.map .lit)=I r'->r=(q&&r')->(∀ty,P.underlying f.type=I ty->(match ty with|.bool=>True|.int _=>True|.string=>True|_=>False)->(Op.equalIn (d+1) f.type u v).run P w= .ok q w)->
    (∃ty,P.underlying f.type=I ty/\(match ty with|.bool=>True|.int _=>True|.string=>True|_=>False))->(TO (d+1) us.toArray vs.toArray<|f::fs).run P w= .ok r w:=by
   rintro q r' h1 h2 h3 ⟨ty,h4,h5⟩;exact fin q r' (ag h4 h5) (h3 ty h4 h5) h1 h2
  cases u<;>try (simp[eqC]at h;done)
  all_goals cases v<;>try (simp[eqC]at h;done)
  case int.int k a k' c=>
   simp only[DM,eqC]at h;split at h
   .rename_i hkk;obtain rfl:k=k':=by simpa using hkk
    cases hr:eqC (us'.map .lit) (vs'.map .lit) with
    | none=>rw[hr]at h;cases h
    | some r'=>
     rw[hr]at h;simp only[A6,Bs]at h;split at hk<;>try (rename_i e;cases e;done)
     .rename_i k2 _ _ hh _;refine fin (a == c) r' (ag hh trivial) (run_equalIn_int w d f.type k k2 a c hh) hr ?_;rw[← h];by_cases e:a=c<;>simp[e]
     .cases hk
   .cases h
  case bool.bool a c=>
   simp only[DM,eqC]at h;cases hr:eqC (us'.map .lit) (vs'.map .lit) with
   | none=>rw[hr]at h;cases h
   | some r'=>
    rw[hr]at h;simp only[A6,Bs]at h;split at hk<;>try (rename_i e;cases e;done)
    .rename_i hh _;refine fin (a == c) r' (ag hh trivial) (run_equalIn_bool' w d f.type a c hh) hr ?_;rw[← h];by_cases e:a=c<;>simp[e]
    .cases hk
  case string.string a c=>
   simp only[DM,eqC]at h;cases hr:eqC (us'.map .lit) (vs'.map .lit) with
   | none=>rw[hr]at h;cases h
   | some r'=>
    rw[hr]at h;simp only[A6,Bs]at h;split at hk<;>try (rename_i e;cases e;done)
    .rename_i hh _;refine fin (a.toList == c.toList) r' (ag hh trivial) (run_equalIn_string w d f.type a c hh) hr ?_;rw[← h,jQ]
    .cases hk
def aqj(hη:∀x,RX w β tm (ρ x)<|η x)(hH:Hs B β H w){op:BinOp}{t:TypeId}{x y:Operand}{q:Bool}{v:AV}{os:List Ob}(h:P1 P op t (ρ x) (ρ y)=I (q,v,os))(hq:q=Y)
  {o:Oper}(ho:(execOp η o).run P w=((do eqGuard op t x y (η x) (η y);II op t (η x) (η y):Sem Value).run P w).andThen λu w=> .ok (.value u) w):Good B β H w b v os ((execOp η o).run P w):=by
 rw[ho];have hx:=hη x;have hy:=hη y;have fin:∀u,(eqGuard op t x y (η x)<|η y).run P w= .ok () w->(II op t (η x)<|η y).run P w= .ok u w->os=[]->R2 w β v u->
   Good B β H w b v os (((do eqGuard op t x y (η x) (η y);II op t (η x) (η y):Sem Value).run P w).andThen λu w=> .ok (.value u) w):=by
  intro u h1 h2 h3 h4;subst h3;refine Good.same hH (u:=u) ?_ h4;simp[h1,h2]
 generalize ρ x=c at h hx;generalize ρ y=c' at h hy;generalize η x=vx at hx fin;generalize η y=vy at hy fin;unfold P1 at h;split at h
 .rename_i k a k' c;split at h
  .rename_i hk;obtain rfl:k=k':=by simpa using hk
   obtain rfl:=hx.lit;obtain rfl:=hy.lit;obtain⟨u,h1,h2,rfl⟩:=asF (P:=P) (w:=w) h hq t;exact fin u (fW _ _ _ _ _ _ rfl aE4) h1 h2 rfl
  .cases h
 .obtain rfl:=hx.lit;obtain rfl:=hy.lit;obtain⟨u,h1,h2,rfl⟩:=asE (P:=P) (w:=w) h hq t;exact fin u (fW _ _ _ _ _ _ rfl aE4) h1 h2 rfl
 .rename_i a c;obtain rfl:=hx.lit;obtain rfl:=hy.lit;split at h
  .rename_i hu;obtain⟨rfl,_,h3⟩:=DG h;refine fin (.bool<|U<|a=c) (fW _ _ _ _ _ _ rfl aE4) ?_ h3 rfl;simp only[II,Ef,Op.equal,Op.maxDepth,run_equalIn_bool' w _ t a c hu,F2,Fj];by_cases e:a=c<;>simp[e]
  .rename_i hu;obtain⟨rfl,_,h3⟩:=DG h;refine fin (.bool<|!decide (a=c)) (fW _ _ _ _ _ _ rfl aE4) ?_ h3 rfl;simp only[II,Ef,Op.equal,Op.maxDepth,run_equalIn_bool' w _ t a c hu,F2,Fj];by_cases e:a=c<;>simp[e]
  .cases h
 .rename_i cs ds;obtain⟨us,rfl,hl⟩:=RX.agg hx;obtain⟨vs,rfl,hm⟩:=RX.agg hy;have key:∀r,nP P t cs=Y->Ag cs.length ds.length=Y->eqC cs ds=I r->
    (Op.equalIn 10000 t (.agg us.toArray)<|.agg vs.toArray).run P w= .ok r w/\(∀op,(eqGuard op t x y (.agg us.toArray)<|.agg vs.toArray).run P w= .ok () w):=by
   intro r h1 h2 h3;unfold nP at h1;split at h1
   .rename_i fs hu;simp only[AD,CE]at h1;obtain⟨⟨⟨h4,h5⟩,h6⟩,h7⟩:=h1;have hfo:P.fieldsOf t=fs:=by simp[Program.fieldsOf,hu]
    obtain⟨e1,e2⟩:=aub h3 hl hm;subst e2;refine⟨?_,λop=>run_eqGuard_agg w op t x y _ _ h7⟩;rw[run_equalIn_struct w 9999 t _ _ (by rw[hfo];exact hu) h6,hfo];refine aDu 9998 fs.toList 0 us vs us vs r h4 ?_ aE4 aE4 aE4 aE4 e1;have:=Bm h5;simpa using this
   .cases h1
  split at h
  .rename_i r h1 h2 h3;obtain⟨rfl,_,h4⟩:=DG h;obtain⟨k1,k2⟩:=key r h1 h2 h3;refine fin (.bool r) (k2 _) ?_ h4 rfl;rw[run_eql_struct,k1];rfl
  .rename_i r h1 h2 h3;obtain⟨rfl,_,h4⟩:=DG h;obtain⟨k1,k2⟩:=key r h1 h2 h3;refine fin (.bool<|!r) (k2 _) ?_ h4 rfl;rw[run_neq_struct,k1];rfl
  .cases h
 .cases h
def ari(hη:∀x,RX w β tm (ρ x)<|η x)(hH:Hs B β H w){op:UnOp}{x:Operand}{q:Bool}{v:AV}{os:List Ob}(h:unA op (ρ x)=I (q,v,os)):
  Good B β H w b v os (((Op.unary op<|η x).run P w).andThen λu w=> .ok (.value u) w):=by
 have hx:=hη x;generalize ρ x=c at h hx;unfold unA at h;split at h
 .obtain⟨rfl,_,rfl⟩:=DG h;rw[hx.lit];exact Good.same hH (u:= .bool _) (by simp[Op.unary]) rfl
 .obtain⟨rfl,_,rfl⟩:=DG h;rw[hx.lit];exact Good.same hH (u:= .int _ _) (by simp[Op.unary,Op.intArith]) rfl
 .cases h
end
end Go.VS
end
noncomputable section
namespace Go.VS
open Go
def aaT(f:AV->AV)(hf:∀c,f c=c)(o:Option Ob):CI f o=o:=by
 cases o with
 | none=>rfl
 | some ob=>cases ob with
  | box e cs=>simp[CI,show f=λc=>c from funext hf]
  | _=>rfl
section
variable {P:Program} {B:Bb} {β:Beta} {H:Hp} {w w':World} {b:Nat} {tm:Nat->Value} {ρ:Operand->AV} {η:Operand->Value}
def Hs.grow(h:Hs B β H w){id:Nat}(hid:H id=G)(ob:Ob)(hd:Value)(n:Nat)
  (hos:w'.os=w.os)(KA:w'.tape=w.tape)(F3:w'.output=w.output)(FD:w.heap.size<=w'.heap.size)(hold:∀j,j<w.heap.size->w'.heap[j]? =w.heap[j]?)
  (ha:∀a,adr hd=I a->w.heap.size<=a.block/\a.block<w'.heap.size)
  (hob:∀β',β' id=I (hd,n)->Kp w β w' β'->E7 B.P w' β' id ob):
  ∃β',Hs B β' (upd H id<|I ob) w'/\Kp w β w' β'/\β' id=I (hd,n):=by
 have Tv:β id=G:=by
  cases hb:β id with
  | none=>rfl
  | some p=>obtain⟨ob',ho⟩:=h.dom id p hb;rw[hid]at ho;cases ho
 have hM:∀b,MB (β.up id<|I (hd,n)) b->MB β b\/w.heap.size<=b:=by
  rintro b ⟨j,hd',n',a',hj,ha',hb⟩;by_cases e:j=id
  .subst e;rw[Beta.Tp]at hj;cases hj;exact .inr (hb▸(ha a' ha').1)
  .rw[Beta.NM _ _ e]at hj;exact .inl ⟨j,hd',n',a',hj,ha',hb⟩
 have hk:Kp w β w' (β.up id<|I (hd,n)):=λc v x=>RC.mono
  (λj p hj=>by
   by_cases e:j=id
   .subst e;rw[Tv]at hj;cases hj
   .rw[Beta.NM _ _ e];exact hj)
  (λb o v _ hc=>by
   rw[TL (w:=w) (w':=w')<|hold b<|TT w _ hc];exact hc)
  (λb hb hlt hm=>by
   obtain hm|hm:=hm
   .rcases hM b hm with h1|h1
    .exact hb (.inl h1)
    .omega
   .exact hb<|.inr hm) x
 have h1:=h.U7 (w':=w') (β':=β.up id<|I (hd,n)) (f:=λc=>c) (λ_ _=>rfl) hk (id:=id) (ob:=I ob) (λj e=>BB _ _ e)
  (.inr ⟨ob,hd,n,rfl,Bf _ _ _,hob _ (Bf _ _ _) hk,λa h=> .inr<|ha a h⟩)
  (λj p a e hj h2=>hold _ (h.old _ ⟨j,p.1,p.2,a,hj,h2,rfl⟩).2) hos KA F3 FD (λb hb _=>hold b<|Gf hb h.size) rfl (Pk.old hold)
 refine⟨_, ?_,hk,Bf _ _ _⟩;rwa[show(λj=>CI (λc=>c)<|H j)=H from funext λj=>aaT _ (λ_=>rfl) _]at h1
def asK(h:Hs B β H w)(hb:H b=G){ob:Ob}{hd:Value}{n:Nat}{v:AV}
  (hos:w'.os=w.os)(KA:w'.tape=w.tape)(F3:w'.output=w.output)(FD:w.heap.size<=w'.heap.size)(hold:∀j,j<w.heap.size->w'.heap[j]? =w.heap[j]?)
  (ha:∀a,adr hd=I a->w.heap.size<=a.block/\a.block<w'.heap.size)
  (hob:∀β',β' b=I (hd,n)->Kp w β w' β'->E7 B.P w' β' b ob){u:Value}
  (hv:∀β',β' b=I (hd,n)->R2 w' β' v u){r:Result Next}(hr:r= .ok (.value u) w'):Good B β H w b v [ob] r:=by
 obtain⟨β',h1,h2,h3⟩:=h.grow hb ob hd n hos KA F3 FD hold ha hob;exact⟨u,w',β',hr,h1,h2,hv _ h3⟩
def Xt(h:Hs B β H w)(hb:H b=G){e:TypeId}{fz:Bool}{k:K}{xs:List (Tof k)}{cap:Nat}{us:Array Value}
  (hos:w'.os=w.os)(KA:w'.tape=w.tape)(F3:w'.output=w.output)(hold:∀j,j<w.heap.size->w'.heap[j]? =w.heap[j]?)
  (aJ:w'.heap[w.heap.size]? =I (.cells us e<|if fz then(us.size,us.size+1) else(0,0)))(hc:xs.length<=cap)(hm:cap<=maxLen)(hs:cap * ks k<=us.size)
  (hr:∀i x j c u,xs[i]? =I x->(enc k x)[j]? =I c->us[i * ks k+j]? =I u->RC w β c u)
  {r:Result Next}(Cg:r= .ok (.value<|.slice (I ⟨w.heap.size,0,G⟩) xs.length cap) w'):Good B β H w b (.own b) [.row e fz k xs] r:=by
 have hlt:w.heap.size<w'.heap.size:=(HC.1 aJ).1;refine asK h hb (hd:= .slice (I ⟨w.heap.size,0,G⟩) xs.length cap) (n:=xs.length) hos KA F3 (Nat.le_of_lt hlt) hold (λa ha=>by cases ha;exact⟨Ar _,hlt⟩) ?_ ?_ Cg
 .intro β' hβ hk;refine⟨_,hβ,.inr ⟨w.heap.size,0,cap,us,_,rfl,aJ,rfl,hc,hm,J,λi x j c u h1 h2 h3=>hk _ _<|hr i x j c u h1 h2 ?_⟩⟩;simpa using h3
 .intro β' hβ;exact RC.own hβ rfl
def aw2(s:A1){i:Int}(h:inb i s.size=Y):∃x,s[i.toNat]? =I x/\bt s i=(x.toNat:Int)/\0<=i:=by
 simp only[inb,AD,decide_eq_true_eq]at h;have hlt:i.toNat<s.size:=J
 refine⟨s[i.toNat],by simp[hlt], ?_,h.1⟩;have h2:i.toNat<s.data.size:=hlt;have:s.data.toList.getD i.toNat 0=s[i.toNat]:=by
  rw[B9,TC,Array.getElem?_eq_getElem h2];rfl
 unfold bt;rw[this]
def R1.enc{k:K}{xs:List (Tof k)}{us:List Value}(hl:us.length=xs.length * ks k)(hr:∀i x j c u,xs[i]? =I x->(enc k x)[j]? =I c->us[i * ks k+j]? =I u->RC w β c u)
  {i:Nat}{x:Tof k}(hi:xs[i]? =I x):RL (RC w β) (enc k x) ((us.drop<|i * ks k).take<|ks k):=by
 have hlt:i<xs.length:=(BO.1 hi).1;have h1:(i+1) * ks k<=xs.length * ks k:=E6 _ hlt;rw[EG]at h1;refine⟨by simp[EK];omega,λj c u h2 h3=>hr i x j c u hi h2 ?_⟩;have hj:j<ks k:=by rw[← EK k x];exact(BO.1 h2).1
 rw[Ge,A5 hj,Hd]at h3;exact h3
def aqt(hη:∀x,RX w β tm (ρ x)<|η x)(hH:Hs B β H w){t:TypeId}{x ix:Operand}{k:IntKind}{i:Int}(hi:ρ ix= .lit (.int k i)){q:Bool}{v:AV}{os:List Ob}(h:Qs P t i (ρ x)=I (q,v,os))(hq:q=Y):
  Good B β H w b v os (((ld t (η x)<|η ix).run P w).andThen λu w=> .ok (.value u) w):=by
 subst hq;have hx:=hη x;have hix:=hη ix;rw[hi]at hix;rw[hix.lit];generalize ρ x=c at h hx;unfold Qs at h;split at h
 .rename_i s;split at h
  .rename_i hu;simp only[Bs,CK]at h;obtain⟨h1,rfl,rfl⟩:=h;obtain⟨y,hy,hb,h0⟩:=aw2 s h1;rw[hx.lit,hb];exact Good.same hH (u:= .int .u8 y.toNat) (by simp[ld,asIntOf,run_underlying hu,h0,hy]) rfl
  .cases h
 .rename_i k' xs;split at h
  .rename_i n e hu;split at h
   .rename_i h1 h2;cases hv:HQ P e (enc k'<|rd (dfl k') xs i) 0 with
    | none=>rw[hv]at h;cases h
    | some v'=>
     rw[hv]at h;simp only[A6,Bs,CK]at h;obtain⟨hb,rfl,rfl⟩:=h;simp only[inb,AD,decide_eq_true_eq]at hb;obtain⟨us,e1,hl,hr⟩:=hx;simp only[AD]at h1;have hk:=Bm h1.1;have hi':xs[i.toNat]? =I (rd (dfl k') xs i):=by
      have:i.toNat<xs.length:=J
      simp[rd,this]
     have hrl:=R1.enc hl hr hi';unfold HQ at hv;rw[h2]at hv;simp only at hv;obtain⟨u,hu1,hu2⟩:=hrl.get hv;have hlen:P.cellsOf e=1:=Bm h1.2;have hu3:us[i.toNat]? =I u:=by
      rw[hk]at hu1;simpa using hu1
     refine Good.same hH (u:=u) ?_<|R2.HG<|R1.M9 hu2;have hb':0<=i/\i<(n:Int):=J
     rw[e1];simp only[ld,asIntOf,Ef,Fj,F2,run_underlying hu,hb',and_self,A2,KY (P:=P) (w:=w) (t:=e) J,hlen,Nat.mul_one,kb hu3 h2]
   .cases h
  .cases h
 .cases h
end
end Go.VS
namespace Go.VS
open Go Go.Lib
def Hw{a b:K}{xs:List (Tof a)}{ys:List (Tof b)}(h:Ii a b xs=I ys):∃e:a=b,e▸xs=ys:=by
 cases a<;>cases b<;>first|(cases h;exact⟨rfl,rfl⟩)|cases h
def MC(w:World)(β:Beta)(k:K)(xs:List (Tof k))(v:Value):Prop:=
 (xs=[]/\ ∃a cap,v= .slice a 0 cap)\/ ∃b f cap,∃u:Nat->Nat->Value,v= .slice (I ⟨b,f,G⟩) xs.length cap/\xs.length<=cap/\
  (∀i j,i<xs.length->j<ks k->w.cell? ⟨b,f+(i * ks k+j),G⟩=I (u i j))/\ ∀i x j c,xs[i]? =I x->(enc k x)[j]? =I c->RC w β c (u i j)
section
variable {P:Program} {B:Bb} {β:Beta} {H:Hp} {w w':World} {b:Nat} {tm:Nat->Value} {ρ:Operand->AV} {η:Operand->Value}
def RC.ow{k:K}{xs:List (Tof k)}{v:Value}(h:RC w β (.sl k xs) v):MC w β k xs v:=by
 cases h with
 | nil=>exact .inl ⟨rfl,_,_,rfl⟩
 | sl u hn hm hu hr=>obtain⟨rfl,hc⟩:=hn;exact .inr ⟨_,_,_,u,rfl,hc,hu,hr⟩
def FV.cells{e:TypeId}{fz:Bool}{k:K}{xs:List (Tof k)}{hd:Value}(h:FV w β e fz k xs hd):MC w β k xs hd:=by
 obtain⟨rfl,rfl⟩|⟨b,f,cap,us,fr,rfl,hh,hfr,hn,hc,hs,hr⟩:=h
 .exact .inl ⟨rfl,_,_,rfl⟩
 .have Cl:∀i j,i<xs.length->j<ks k->f+(i * ks k+j)<us.size:=by
   intro i j hi hj;have h1:(i+1) * ks k<=cap * ks k:=E6 _ J;rw[EG]at h1;omega
  refine .inr ⟨b,f,cap,λi j=>us.getD (f+(i * ks k+j)) undef,rfl,hn,λi j hi hj=> ?_,λi x j c h1 h2=> ?_⟩
  .rw[cell_of_row w b _ us e fr hh];have:=Cl i j hi hj;simp[this]
  .have hi:i<xs.length:=(BO.1 h1).1;have hj:j<ks k:=by rw[← EK k x];exact(BO.1 h2).1
   have:=Cl i j hi hj;exact hr i x j c _ h1 h2<|by simp[this]
def aaB(hH:Hs B β H w){k:K}{c:AV}{v:Value}{xs:List (Tof k)}(h:CD H k c=I xs)(hx:R2 w β c v):MC w β k xs v:=by
 unfold CD at h;split at h
 .obtain⟨e,rfl⟩:=Hw h;subst e;exact RC.ow hx
 .cases h;have:v=_:=hx;exact .inl ⟨rfl,_,_,this⟩
 .rename_i id;split at h
  .rename_i e fz k' ys hid;obtain⟨ek,rfl⟩:=Hw h;subst ek;obtain⟨hd,h1,h2⟩:=hH.EI id _ hid;have h3:RC w β (.own id) v:=hx;cases h3 with
   | own h4 h5=>rw[h1]at h4;cases h4;exact h2.cells
  .cases h
 .cases h
def MC.len{k:K}{xs:List (Tof k)}{v:Value}(h:MC w β k xs v):∃a cap,v= .slice a xs.length cap/\xs.length<=cap:=by
 obtain⟨rfl,a,cap,rfl⟩|⟨b,f,cap,u,rfl,hc,_⟩:=h
 .exact⟨_,_,rfl,by simp⟩
 .exact⟨_,_,rfl,hc⟩
def aAb{t e:TypeId}(hu:P.underlying t=I (.slice e))(h1:1<=P.cellsOf e){bb f n cap:Nat}{k:IntKind}{i:Int}(h0:0<=i)(hn:i<(n:Int)):
  (TU t (.slice (I ⟨bb,f,G⟩) n cap)<|.int k i).run P w= .ok (.pointer<|I ⟨bb,f+i.toNat * P.cellsOf e,G⟩) w:=by
 have hb':0<=i/\i<(n:Int):=⟨h0,hn⟩;have hb1:n<=1\/ ¬n<=1:=J
 obtain hb1|hb1:=hb1<;>
 simp[TU,asIntOf,run_underlying hu,hb1,hb',KY h1,Gh]
def apR{t e:TypeId}{n:Nat}(hu:P.underlying t=I (.array n e))(h1:1<=P.cellsOf e){bb f:Nat}{k:IntKind}{i:Int}(h0:0<=i)(hn:i<(n:Int)):
  (TU t (.pointer<|I ⟨bb,f,G⟩)<|.int k i).run P w= .ok (.pointer<|I ⟨bb,f+i.toNat * P.cellsOf e,G⟩) w:=by
 have hb':0<=i/\i<(n:Int):=⟨h0,hn⟩;have hb1:n<=1\/ ¬n<=1:=J
 obtain hb1|hb1:=hb1<;>
 simp[TU,asIntOf,JO,run_underlying hu,hb1,hb',KY h1,Gh]
def amD(hP:P=B.P)(hη:∀x,RX w β tm (ρ x)<|η x)(hH:Hs B β H w){t:TypeId}{x ix:Operand}{k:IntKind}{i:Int}(hi:ρ ix= .lit (.int k i)){q:Bool}{v:AV}{os:List Ob}(h:Mc P H t i (ρ x)=I (q,v,os))(hq:q=Y):
  Good B β H w b v os (((TU t (η x)<|η ix).run P w).andThen λu w=> .ok (.value u) w):=by
 subst hq;have hx:=hη x;have hix:=hη ix;rw[hi]at hix;rw[hix.lit];generalize ρ x=c at h hx;generalize η x=vx at hx;unfold Mc at h;split at h
 .rename_i k' xs;split at h
  .rename_i e hu;split at h
   .rename_i hk;have hk:=Bm hk;simp only[Bs,CK,inb,AD,decide_eq_true_eq]at h;obtain⟨⟨h0,hn⟩,rfl,rfl⟩:=h;have hx':RC w β (.sl k' xs) vx:=hx;cases hx' with
    | nil=>simp at hn;omega
    | @sl _ _ bb f cap n u hn' hm hu' hr=>
     obtain⟨rfl,hc⟩:=hn';have h1:=Hz k';have hlt:i.toNat<xs.length:=J
     have oO:xs[i.toNat]? =I (rd (dfl k') xs i):=by simp[rd,hlt]
     refine Good.same hH (u:= .pointer<|I ⟨bb,f+i.toNat * ks k',G⟩) ?_ ?_
     .rw[aAb hu J h0 hn,hk];rfl
     .have:=RC.ipt (w:=w) (β:=β) (k:=k') (x:=rd (dfl k') xs i) (o:=0) (b:=bb) (f:=f+i.toNat * ks k') (u i.toNat) hm (λj hj=>by rw[D8];exact hu' _ _ hlt hj) (λj c hc=>hr _ _ _ _ oO hc);exact this
   .cases h
  .cases h
 .rename_i id;split at h
  .rename_i e e' fz k' xs hu hid;split at h
   .rename_i hk;have hk:=Bm hk;simp only[Bs,CK,inb,AD,decide_eq_true_eq]at h;obtain⟨⟨h0,hn⟩,rfl,rfl⟩:=h;obtain⟨hd,h1,h2⟩:=hH.EI id _ hid;have h3:RC w β (.own id) vx:=hx;cases h3 with
    | own h4 h5=>
     rw[h1]at h4;cases h4;have h1':=Hz k';obtain⟨_,e2⟩|⟨bb,f,cap,us,fr,rfl,hh,hfr,hnc,hc,hs,hr⟩:=h2
     .subst e2;simp at hn;omega
     .refine Good.same hH (u:= .pointer<|I ⟨bb,f+i.toNat * ks k',G⟩) ?_ ?_
      .rw[aAb hu J h0 hn,hk];rfl
      .have:=RC.ptr (w:=w) (β:=β) (id:=id) (sz:=ks k') (i:=i.toNat) (o:=0) h1 (b:=bb) (f:=f) rfl J;simpa[R2,R1] using this
   .cases h
  .cases h
 .rename_i id z;split at h
  .rename_i n e e' k' xs hu hid;split at h
   .rename_i hk;simp only[AD]at hk;have hk1:=Bm hk.1.1;have hk2:=Bm hk.1.2;obtain rfl:=Bm hk.2;simp only[Bs,CK,inb,AD,decide_eq_true_eq]at h;obtain⟨⟨h0,hn⟩,rfl,rfl⟩:=h;obtain⟨bb,us,h1,hh,hsz,hce,hr⟩:=hH.EI id _ hid;have h1':=Hz k';have hlen:xs.length=n:=by
     rw[hP]at hk2;rw[hsz,hk2]at hce;exact Nat.eq_of_mul_eq_mul_right h1' hce
    have h3:RC w β (.ptr id z 0 0) vx:=hx;cases h3 with
    | @ptr _ _ _ _ hd n' b' f h4 ha hi'=>
     rw[h1]at h4;cases h4;cases ha;refine Good.same hH (u:= .pointer<|I ⟨bb,0+i.toNat * ks k',G⟩) ?_ ?_
     .rw[show(0:Nat)+(0 * z+0)=0 by omega,apR hu J h0 J,hk1];rfl
     .have:=RC.ptr (w:=w) (β:=β) (id:=id) (sz:=ks k') (i:=i.toNat) (o:=0) h1 (b:=bb) (f:=0) rfl J;simpa[R2,R1] using this
   .cases h
  .cases h
 .cases h
def jl{t ty:TypeId}{e:TypeId}(hu:P.underlying t=I (.slice e)){a:Option Addr}{n cap:Nat}:(QS #[t] ty #[.slice a n cap]).run P w= .ok (.int .i64 n) w:=by
 simp[QS,run_underlying hu,goInt]
def arP{src dst e:TypeId}(hs:P.underlying src=I (.slice e))(he:P.underlying e=I (.int .u8))(hd:P.underlying dst=I .string){xs:List (Tof .u8)}{v:Value}(h:MC w β .u8 xs v):
  (convert src dst v).run P w= .ok (.string<|BH xs) w:=by
 obtain⟨rfl,a,cap,rfl⟩|⟨bb,f,cap,u,rfl,hc,hu,hr⟩:=h
 .cases a with
  | none=>exact run_convert_bytes_nil w src e hs he _ _ dst hd
  | some a=>
   rw[run_convert_bytes_string w src dst e _ 0 cap hs he hd];simp[Conv.bytesToString,loadCells,BH];rfl
 .refine run_convert_bytes_arg w src e hs he bb f _ cap xs rfl (λi hi=> ?_) dst hd;have h1:=hu i 0 hi aE9;have hx:xs[i]? =I (xs.getD i 0):=by simp[hi]
  have h2:=hr i _ 0 (.y<|xs.getD i 0) hx rfl;have h3:=h2.NN;rw[h3]at h1;simpa[ks] using h1
def aqh(hH:Hs B β H w)(hb:H b=G){src dst e:TypeId}(hs:P.underlying src=I .string)(hd:P.underlying dst=I (.slice e))(he:P.underlying e=I (.int .u8)){s:A1}(hr:Ac s.size=Y):
  Good B β H w b (.own b) [.row e Y .u8<|BA s] (((convert src dst<|.string s).run P w).andThen λu w=> .ok (.value u) w):=by
 have hlen:(BA s).length=s.size:=by rw[BA,DV,Ez];rfl
 have hsz:(bytesCells w e s).size=grownCap w s.size 0 e:=by
  have:=grownCap_ge w s.size 0 e;simp only[bytesCells,QY,Array.size_map,lv];have:s.data.size=s.size:=rfl;omega
 have aye:s.size<=maxLen:=by
  simp only[Ac,decide_eq_true_eq]at hr;exact CV hr<|by decide
 refine Xt (w':=bytesWorld w e s) (cap:=grownCap w s.size 0 e) (us:=bytesCells w e s) hH hb rfl rfl rfl (bytesWorld_at_old w e s) (bytesWorld_at_new w e s) (by rw[hlen];exact grownCap_ge _ _ _ _)
  (grownCap_le_maxLen _ _ _ _ aye) (by rw[hsz];simp[ks]) ?_ ?_
 .intro i x j c u h1 h2 h3;have hj:j=0:=by
   have:=(BO.1 h2).1;simp[enc]at this;omega
  subst hj;simp only[enc,Yg,Bs]at h2;subst h2;simp only[BA,D7,D6]at h1;obtain⟨y,hy,rfl⟩:=h1;have hi:i<s.data.size:=by have:=(BO.1 hy).1;simpa using this
  rw[show i * ks .u8+0=i by simp[ks]]at h3;simp only[bytesCells]at h3;rw[Lt<|by simpa using hi]at h3;simp only[Array.getElem?_map,D6]at h3;obtain⟨y',hy',rfl⟩:=h3;have:y=y':=by
   rw[TC]at hy;rw[hy]at hy';exact Eh hy'
  subst this;exact .lit rfl
 .rw[Go.Lib.run_convert_string_bytes w src dst e s hs hd he,hlen];rfl
end
end Go.VS
end
noncomputable section
namespace Go.VS
open Go
section
variable {P:Program} {B:Bb} {β:Beta} {H:Hp} {w w':World} {b:Nat} {tm:Nat->Value} {ρ:Operand->AV} {η:Operand->Value}
def auY{a c:A1}(h1:Ag a.size 0=Y)(h2:Ag c.size 0=Y):a=c:=by
 have e1:a.size=0:=Bm h1;have e2:c.size=0:=Bm h2;obtain⟨x⟩:=a;obtain⟨y⟩:=c;have e1':x.size=0:=e1;have e2':y.size=0:=e2;rw[aBS e1',aBS e2']
def atc{a c:AV}(h:ZZ a c=Y){v:Value}(hv:RC w β a v):RC w β c v:=by
 unfold ZZ at h;split at h
 .simp only[AD,decide_eq_true_eq]at h;obtain⟨rfl,rfl⟩:=h;exact hv
 .simp only[beq_iff_eq]at h;subst h;exact hv
 .simp only[AD]at h;obtain rfl:=auY h.1 h.2;exact hv
 .obtain rfl:=hv.NN;exact .nil
 .cases h
def kW:∀ {as cs:List AV} {us:List Value},M6 as cs=Y->RL (RC w β) as us->RL (RC w β) cs us
 | [],[],us,_,h=>h
 | [],_::_,_,h,_=>by simp[M6]at h
 | _::_,[],_,h,_=>by simp[M6]at h
 | a::as,c::cs,us,h,hl=>by
  simp only[M6,AD]at h;obtain⟨u,us',rfl,h1,h2⟩:=hl.C7;exact .cons (atc h.1 h1)<|kW h.2 h2
def YI{t:TypeId}{k:K}(h:zok P t k=Y):∃i z,P.info? t=I i/\i.zero=I z/\z.cells.size=ks k/\ ∀w β,RL (RC w β) (enc k<|dfl k) z.cells.toList:=by
 unfold zok at h;cases hz:I4 P t with
 | none=>rw[hz]at h;cases h
 | some zs=>
  rw[hz]at h;obtain⟨i,z,hi,hz',rfl,h1⟩:=Wc hz;have key:∀w β,RL (RC w β) (enc k<|dfl k) z.cells.toList:=λw β=>kW h<|RL.lits _ h1;refine⟨i,z,hi,hz', ?_,key⟩;have:=(key default ⟨λ_=>G,λ_=>False⟩).1;rw[EK]at this;simpa using this
def W5{t:TypeId}{i:TypeInfo}(h:P.info? t=I i):P.cellsOf t=i.size:=by simp[Program.cellsOf,h]
def iU{t:TypeId}{i:TypeInfo}(h:P.info? t=I i):P.bytesOf t=i.bytes:=by simp[Program.bytesOf,h]
def dz{t e:TypeId}(h:IW P t=I e):P.underlying t=I (.slice e):=by
 unfold IW at h;split at h
 .cases h;assumption
 .cases h
def aoR{k:K}{z:Array Value}(hz:z.size=ks k)(hr:RL (RC w β) (enc k<|dfl k) z.toList){n:Nat}:
  ∀i x j c u,(BS n<|dfl k)[i]? =I x->(enc k x)[j]? =I c->(madeCells z<|n * ks k)[i * ks k+j]? =I u->RC w β c u:=by
 intro i x j c u h1 h2 h3;have hx:x=dfl k:=List.eq_of_mem_replicate<|Ci h1;have hi:i<n:=by have:=(BO.1 h1).1;simpa using this
 subst hx;have hj:j<ks k:=by rw[← EK k<|dfl k];exact(BO.1 h2).1
 have hlt:i * ks k+j<n * ks k:=Nv hi hj;simp only[madeCells,Array.getElem?_map,D6]at h3;obtain⟨q,hq,rfl⟩:=h3;have hq':q=i * ks k+j:=by
  rw[HC]at hq;obtain⟨_,hq⟩:=hq;simpa using hq.symm
 subst hq';have hm:(i * ks k+j) % z.size=j:=by rw[hz,N2,Nat.add_mul_mod_self_right,Oc hj]
 rw[hm];have hjz:j<z.size:=J
 refine hr.2 j c _ h2 ?_;simp[hjz]
def asl(hH:Hs B β H w)(hb:H b=G){t e:TypeId}{k:K}(he:IW P t=I e)(hz:zok P e k=Y)(hc:P.cellsOf e=ks k)(hby:P.bytesOf e<=256){n:Int}(h0:0<=n)(hn:n<=4294967296):
  Good B β H w b (.own b) [.row e A0 k<|BS n.toNat<|dfl k] (((Instr.makeSlice t (.int .i64 n)<|.int .i64 n).run P w).andThen λu w=> .ok (.value u) w):=by
 obtain⟨i,z,hi,hz',hs,hr⟩:=YI hz;have hu:=dz he;rw[W5 hi]at hc;rw[iU hi]at hby;have hb1:(i.bytes:Int) * n<=281474976710656:=by
  have h1:(i.bytes:Int) * n<=256 * 4294967296:=Int.mul_le_mul J hn h0 J;omega
 have Cg:=run_make (P:=P) w t e i z hu hi hz' .i64 .i64 n n h0 (Ct _) hb1 J;rw[Cg,hc];have hml:n.toNat<=maxLen:=CV (J:n.toNat<=4294967296) aE9;refine Xt (w':=w.alloc<|.cells (madeCells z.cells<|n.toNat * ks k) e) (cap:=n.toNat) (us:=madeCells z.cells<|n.toNat * ks k) hH hb rfl rfl rfl (λj hj=>heap_alloc_old w _ hj) (heap_alloc_new w _) aE4 hml
  (by rw[size_madeCells];exact Ar _) (aoR hs<|hr w β) ?_
 simp
def Xj{k:K}:∀ {xs:List (Tof k)} {i j:Nat} {x:Tof k},xs[i]? =I x->j<ks k->(xs.flatMap<|enc k)[i * ks k+j]? =(enc k x)[j]?
 | [],_,_,_,h,_=>by simp at h
 | y::ys,0,j,x,h,hj=>by
  simp only[Yg,Bs]at h;subst h;rw[Oh,IE (by rw[EK];omega)];simp
 | y::ys,i+1,j,x,h,hj=>by
  simp only[aBQ]at h;rw[Oh,FO (by rw[EK,EG];omega),EK,← Xj h hj];congr 1;rw[EG];omega
def KS{k:K}(xs:List (Tof k)):(xs.flatMap<|enc k).length=xs.length * ks k:=by
 induction xs with
 | nil=>simp
 | cons x xs ih=>rw[Oh,Au,EK,ih,Bj,EG];omega
def Pw{k:K}{xs:List (Tof k)}{us:List Value}(h:RL (RC w β) (xs.flatMap<|enc k) us):∀i x j c u,xs[i]? =I x->(enc k x)[j]? =I c->us[i * ks k+j]? =I u->RC w β c u:=by
 intro i x j c u h1 h2 h3;have hj:j<ks k:=by rw[← EK k x];exact(BO.1 h2).1
 exact h.2 _ c u (by rw[Xj h1 hj];exact h2) h3
def ap0(hP:P=B.P)(hH:Hs B β H w)(hb:H b=G){t:TypeId}{n:Nat}{k:K}{zs:List AV}(hz:I4 P t=I zs)(hk:M6 zs ((BS n<|dfl k).flatMap<|enc k)=Y)(hc:P.cellsOf t=n * ks k)(hn:1<=n)
  {o:Oper}(ho:o.op= .alloc t):Good B β H w b (.ptr b (ks k) 0 0) [.arr t k<|BS n<|dfl k] ((execOp η o).run P w):=by
 obtain⟨i,z,hi,hz',rfl,h1⟩:=Wc hz;have JV:RL (RC w β) _ z.cells.toList:=kW hk<|RL.lits _ h1;have hsz:z.cells.size=n * ks k:=by
  have:=JV.1;rw[KS]at this;simpa using this
 obtain⟨β',g1,g2,g3⟩:=hH.grow (w':=w.alloc<|.cells z.cells t) hb (.arr t k<|BS n<|dfl k) (.pointer<|I ⟨w.heap.size,0,G⟩) n rfl rfl rfl aE4 (λj hj=>heap_alloc_old w _ hj) (λa ha=>by cases ha;simp)
  (λβ' hβ hk=>⟨w.heap.size,z.cells,by simpa using hβ,heap_alloc_new w _,by simpa using hsz,by rw[← hP,hc];exact hsz,λi x j c u a1 a2 a3=>hk _ _<|Pw JV i x j c u a1 a2<|by simpa using a3⟩)
 .refine⟨_,_,β', ?_,g1,g2,(?_:R2 (w.alloc<|.cells z.cells t) β' _ (.pointer<|I ⟨w.heap.size,0,G⟩))⟩
  .unfold execOp;rw[ho];simp[Instr.alloc,aDG hi hz',newVar,newRow]
  .have:=RC.ptr (w:=w.alloc<|.cells z.cells t) (β:=β') (id:=b) (sz:=ks k) (i:=0) (o:=0) g3 (b:=w.heap.size) (f:=0) rfl J;simpa[R2,R1] using this
def aCH(off:Nat):∀(ys:List Value) (n:Nat) (cs:Array Value),off+n+ys.length<=cs.size->
  (ys.zipIdx n).foldl (λcs (c,j)=>cs.setIfInBounds (off+j) c) cs=(cs.toList.take (off+n)++ys++cs.toList.drop (off+n+ys.length)).toArray
 | [],n,cs,_=>by simp
 | y::ys,n,cs,h=>by
  simp only[Bj]at h;rw[lI,Dv,aCH off ys (n+1) _ y7];have e:=list_seg_step cs.toList (off+n) y ys y7;simpa[lS,D8,N2,Nat.add_left_comm] using e
def aCL(place:Nat->Option (Nat×Nat))(cells:Array Value)(i off:Nat)(v:Value)(rest:List (Nat×Value))(hp:place i=I (off,v.cells.size))(hl:off+v.cells.size<=cells.size):
  Mu place cells ((i,v)::rest)=Mu place (cells.toList.take off++v.cells.toList++cells.toList.drop (off+v.cells.size)).toArray rest:=by
 have h1:¬(v.cells.size≠v.cells.size\/off+v.cells.size > cells.size):=J
 rw[Mu,hp];simp only[ne_eq,not_true_eq_false,Af,Bk,decide_eq_true_eq];rw[A8 J,← Array.foldl_toList,Array.toList_zipIdx];have:=aCH off v.cells.toList 0 cells (by simpa using hl);simp only[Hh,Ez]at this;rw[this]
def aEG{α β':Type}(f:α->Option β'):∀(l:List α),(∀x∈l,(f x).isSome=Y)->∃r,l.mapM f=I r/\r.length=l.length/\ ∀(i:Nat) (x:α),l[i]? =I x->r[i]? =f x
 | [],_=>⟨[],by simp,rfl,λi x h=>by simp at h⟩
 | x::l,h=>by
  obtain⟨r,h1,h2,h3⟩:=aEG f l (λy hy=>h y<|by simp[hy]);cases hx:f x with
  | none=>have:=h x aE4;rw[hx]at this;cases this
  | some y=>
   refine⟨y::r,by simp[hx,h1],by simp[h2],λi z hi=> ?_⟩;cases i with
   | zero=>simp at hi;subst hi;simp[hx]
   | succ i=>simp at hi ⊢; exact h3 i z hi
def aAY(hη:∀x,RX w β tm (ρ x)<|η x){t:TypeId}{fs:Array Field}(hu:P.underlying t=I (.struct fs)){places:List (Nat×Nat)}
  (hp:∀(i:Nat) (f:Field),fs[i]? =I f->places[i]? =I (f.offset,P.cellsOf f.type)):∀(ps:List (Nat×Operand)) (cs:List AV) (us:Array Value) (ds:List AV),I0 P ρ t ps cs=I ds->RL (RC w β) cs us.toList->
  ∃vs:Array Value,Mu (places.toArray[·]?) us (ps.map fun(i,x)=>(i,η x))=I vs/\RL (RC w β) ds vs.toList
 | [],cs,us,ds,h,hl=>by
  simp only[I0,Bs]at h;subst h;exact⟨us,by simp[Mu],hl⟩
 | (i,x)::ps,cs,us,ds,h,hl=>by
  simp only[I0]at h;cases hf:Lc P t i with
  | none=>rw[hf]at h;cases h
  | some f=>
   rw[hf]at h;simp only[A6]at h;cases hc:GY (ρ x) with
   | none=>rw[hc]at h;cases h
   | some ys=>
    rw[hc]at h;simp only[A6]at h;split at h
    .rename_i hb;simp only[AD]at hb;have hb1:=Bm hb.1;have hb2:=DW hb.2;have hr:=S3 hc<|hη x;obtain⟨fs',hu',hf'⟩:=iX hf;rw[hu]at hu';cases hu';have hys:(η x).cells.size=ys.length:=by have:=hr.1;simpa using this
     have hcs:us.size=cs.length:=by have:=hl.1;simpa using this
     have hsp:RL (RC w β) (Gw cs f.offset ys) (us.toList.take f.offset++(η x).cells.toList++us.toList.drop (f.offset+(η x).cells.size)):=by
      unfold Gw;rw[hys];exact((hl.take _).append hr).append<|hl.drop _
     obtain⟨vs,h1,h2⟩:=aAY hη hu hp ps _ (us.toList.take f.offset++(η x).cells.toList++us.toList.drop (f.offset+(η x).cells.size)).toArray ds h hsp;refine⟨vs, ?_,h2⟩;rw[DM,aCL _ _ i f.offset (η x) _ ?_ J]
     .exact h1
     .rw[TD,hp i f hf',hys,hb1]
    .cases h
def aqi(hη:∀x,RX w β tm (ρ x)<|η x)(hH:Hs B β H w){t:TypeId}{fs:Array Field}{ps:Array (Nat×Operand)}{zs cs:List AV}(hz:I4 P t=I zs)(hu:P.underlying t=I (.struct fs))(ha:(fs.toList.all λf=>(P.info? f.type).isSome)=Y)
  (h:I0 P ρ t ps.toList zs=I cs){o:Oper}(ho:o.op= .build t ps):Good B β H w b (.agg cs) [] ((execOp η o).run P w):=by
 obtain⟨i,z,hi,hz',rfl,h1⟩:=Wc hz;obtain⟨places,hm,hlen,hpl⟩:=aEG (λf:Field=>(P.info? f.type).map λi=>(f.offset,i.size)) fs.toList (λf hf=>by
  have:=DK.1 ha f hf;simpa using this)
 obtain⟨vs,g1,g2⟩:=aAY (places:=places) hη hu (λi f hf=>by
  have ayc:=DK.1 ha f (Ci<|by simpa using hf);rw[hpl i f<|by simpa using hf];obtain⟨inf,acU⟩:=Option.isSome_iff_exists.1 ayc;simp[acU,W5 acU]) ps.toList _ z.cells cs h (RL.lits _ h1)
 refine Good.same hH (u:= .agg vs) ?_ ⟨vs.toList,by simp,g2⟩;unfold execOp;rw[ho];have hb:P.built t (ps.map fun(i,x)=>(i,η x)).toList=I vs:=by
  simp only[Program.built,hi,hu,hz',hm];rw[← g1,Array.toList_map]
 simp only[Ef,run_build w t _ _ hb,F2];rfl
def avw{k:K}{cs:List AV}{x:Tof k}(h:dec (λ_=>G) k cs=I x){us:List Value}(hl:RL (RC w β) cs us):RL (RC w β) (enc k x) us:=by
 have sl:∀(k:K) (c:AV) (l:List (Tof k)) (u:Value),CD (λ_=>G) k c=I l->RC w β c u->RC w β (.sl k l) u:=by
  intro k c l u h1 h2;unfold CD at h1;split at h1
  .obtain⟨e,rfl⟩:=Hw h1;subst e;exact h2
  .cases h1;rw[h2.NN];exact .nil
  .cases h1
  .cases h1
 unfold dec at h;split at h<;>try (cases h;done)
 all_goals try (cases h;exact hl)
 .rename_i x';cases hx:CD (λ_=>G) K.mixed x' with
  | none=>rw[hx]at h;cases h
  | some l=>
   rw[hx]at h;cases h;obtain⟨u1,_,rfl,g1,hl⟩:=hl.C7;obtain⟨u2,_,rfl,g2,hl⟩:=hl.C7;obtain⟨u3,_,rfl,g3,hl⟩:=hl.C7;obtain⟨u4,_,rfl,g4,hl⟩:=hl.C7;obtain⟨u5,_,rfl,g5,hl⟩:=hl.C7;obtain⟨u6,_,rfl,g6,hl⟩:=hl.C7;exact .cons g1 (.cons g2<|.cons g3<|.cons g4<|.cons g5<|.cons (sl _ _ _ _ hx g6) hl)
 .rename_i x' y' z';cases hx:CD (λ_=>G) K.note x' with
  | none=>rw[hx]at h;cases h
  | some l=>
   cases hy:CD (λ_=>G) K.mark y' with
   | none=>rw[hx,hy]at h;cases h
   | some m=>
    cases hz:CD (λ_=>G) K.note z' with
    | none=>rw[hx,hy,hz]at h;cases h
    | some n=>
     rw[hx,hy,hz]at h;cases h;obtain⟨u1,_,rfl,g1,hl⟩:=hl.C7;obtain⟨u2,_,rfl,g2,hl⟩:=hl.C7;obtain⟨u3,_,rfl,g3,hl⟩:=hl.C7;obtain⟨u4,_,rfl,g4,hl⟩:=hl.C7;obtain⟨u5,_,rfl,g5,hl⟩:=hl.C7;obtain⟨u6,_,rfl,g6,hl⟩:=hl.C7;exact .cons g1 (.cons g2<|.cons g3<|.cons (sl _ _ _ _ hx g4)<|.cons (sl _ _ _ _ hy g5)<|.cons (sl _ _ _ _ hz g6) hl)
 .rename_i x';cases hx:CD (λ_=>G) K.half x' with
  | none=>rw[hx]at h;cases h
  | some l=>
   rw[hx]at h;cases h;obtain⟨u1,_,rfl,g1,hl⟩:=hl.C7;obtain⟨u2,_,rfl,g2,hl⟩:=hl.C7;obtain⟨u3,_,rfl,g3,hl⟩:=hl.C7;obtain⟨u4,_,rfl,g4,hl⟩:=hl.C7;obtain⟨u5,_,rfl,g5,hl⟩:=hl.C7;exact .cons g1<|.cons g2<|.cons g3<|.cons g4<|.cons (sl _ _ _ _ hx g5) hl
def aAR{k:K}:∀ {vs:List AV} {us:List Value} {xs:List (Tof k)},Mi k vs=I xs->(us.length=vs.length/\ ∀(j:Nat) (c:AV) (u:Value),vs[j]? =I c->us[j]? =I u->RX w β tm c u)->
  xs.length=vs.length/\(∀u∈us,u.cells.size=ks k)/\RL (RC w β) (xs.flatMap<|enc k) (us.flatMap λu=>u.cells.toList)
 | [],us,xs,h,hl=>by
  simp only[Mi,Bs]at h;subst h;obtain rfl:us=[]:=Dw (by simpa using hl.1);exact⟨rfl,by simp,RL.nil⟩
 | v::vs,us,xs,h,hl=>by
  cases us with
  | nil=>exact absurd hl.1<|by simp
  | cons u us=>
   simp only[Mi]at h;cases hc:GY v with
   | none=>rw[hc]at h;cases h
   | some cs=>
    rw[hc]at h;simp only[A6]at h;cases hd:dec (λ_=>G) k cs with
    | none=>rw[hd]at h;cases h
    | some x=>
     rw[hd]at h;simp only[A6]at h;cases hr:Mi k vs with
     | none=>rw[hr]at h;cases h
     | some ys=>
      rw[hr]at h;cases h;have h1:=avw hd<|S3 hc<|hl.2 0 v u rfl rfl;obtain⟨i1,i2,i3⟩:=aAR hr ⟨by have:=hl.1;simpa using this,λj c u' a1 a2=>hl.2 (j+1) c u' (by simpa using a1)<|by simpa using a2⟩;refine⟨by simp[i1],λu' hu'=> ?_, ?_⟩
      .rcases Bl.1 hu' with e|e
       .subst e;have:=h1.1;rw[EK]at this;simpa using this
       .exact i2 u' e
      .rw[Oh,Oh];exact h1.append i3
def iu:∀ {n:Nat} {ps:List (Nat×Operand)} {vs:List AV},I2 ρ n ps=I vs->ps=((ps.map (·.2)).zipIdx n).map (λx=>(x.2,x.1))/\vs=ps.map (λp=>ρ p.2)
 | n,[],vs,h=>by simp only[I2,Bs]at h;subst h;exact⟨rfl,rfl⟩
 | n,(i,x)::ps,vs,h=>by
  simp only[I2]at h;split at h
  .rename_i hi;obtain rfl:=Bm hi;cases hr:I2 ρ (i+1) ps with
   | none=>rw[hr]at h;cases h
   | some ws=>
    rw[hr]at h;cases h;obtain⟨h1,h2⟩:=iu hr;refine⟨?_,by simp[h2]⟩;rw[DM,lI,DM];exact congrArg _ h1
  .cases h
def aDr(sz:Nat):∀(us:List Value) (n:Nat) (cells:Array Value),(∀u∈us,u.cells.size=sz)->(n+us.length) * sz<=cells.size->
  Mu (λi=>I (i * sz,sz)) cells ((us.zipIdx n).map λx=>(x.2,x.1))=I (cells.toList.take (n * sz)++(us.flatMap λu=>u.cells.toList)++cells.toList.drop ((n+us.length) * sz)).toArray
 | [],n,cells,_,_=>by simp[Mu]
 | u::us,n,cells,h,hl=>by
  have hu:=h u aE4;simp only[Bj]at hl;have e1:(n+(us.length+1)) * sz=n * sz+(us.length * sz+sz):=by rw[EG,EG,On]
  have e2:(n+1+us.length) * sz=n * sz+(us.length * sz+sz):=by rw[← e1];congr 1;omega
  have e3:(n+1) * sz=n * sz+sz:=by rw[EG,On]
  rw[lI,DM,aCL _ _ n (n * sz) u _ (by simp[hu]) J,aDr sz us (n+1) _ (λv hv=>h v<|by simp[hv]) ?_]
  .congr 2;simp only[aBV,Oh,hu];have hcl:cells.toList.length=cells.size:=Ez;have ht:(cells.toList.take (n * sz)++u.cells.toList).length=(n+1) * sz:=by
    simp only[Au,Dh,Ez,hu];omega
   have h4:(cells.toList.take (n * sz)++u.cells.toList++cells.toList.drop (n * sz+sz)).take ((n+1) * sz)=cells.toList.take (n * sz)++u.cells.toList:=by
    rw[← ht,Oe];rfl
   have h5:(cells.toList.take (n * sz)++u.cells.toList++cells.toList.drop (n * sz+sz)).drop ((n+1+us.length) * sz)=cells.toList.drop ((n+(us.length+1)) * sz):=by
    rw[List.drop_append,ht,M0 (by rw[ht,e2,e3];omega),EU,Iq];congr 1;rw[e1,e2,e3];omega
   rw[h4,h5];simp[C2,N2,Nat.add_left_comm,D8]
  .simp only[Kn,Au,Dh,Ez,EF,hu];omega
def alZ(hη:∀x,RX w β tm (ρ x)<|η x)(hH:Hs B β H w)(hb:H b=G){t e:TypeId}{len:Nat}{ps:Array (Nat×Operand)}{k:K}{vs:List AV}{xs:List (Tof k)}(he:IW P t=I e)(hp:I2 ρ 0 ps.toList=I vs)(hd:Mi k vs=I xs)
  (hl:vs.length=len)(hc:P.cellsOf e=ks k)(hsm:len<=65536)(hz:zok P e k=Y){o:Oper}(ho:o.op= .buildSlice t len ps):Good B β H w b (.own b) [.row e A0 k xs] ((execOp η o).run P w):=by
 obtain⟨i,z,hi,hz',hs,_⟩:=YI hz;have hu:=dz he;by_cases ayR:len=0
 .subst ayR;obtain rfl:vs=[]:=Dw hl;simp only[Mi,Bs]at hd;subst hd;have hps:ps= #[]:=by
   have:=(iu hp).2;have h2:ps.toList=[]:=by
    have:=congrArg JP this;exact Dw<|by simpa using this.symm
   exact Array.toList_inj.1<|by simpa using h2
  subst hps;refine Xt (w':=w.alloc<|.cells #[] e) (cap:=0) (us:= #[]) hH hb rfl rfl rfl (λj hj=>heap_alloc_old w _ hj) (heap_alloc_new w _) aE4 aE4 aE4 (λi x j c u a1=>by simp at a1) ?_;unfold execOp;rw[ho];simp[Instr.buildSlice,run_underlying hu,sizeOf,typeInfo,hi,Mu,newRow,show TP 0= #[] from by simp[TP]]
 have h0:1<=len:=J
 rw[W5 hi]at hc;obtain⟨h1,rfl⟩:=iu hp;have hkp:=Hz k;have azZ:ks k<=16:=by cases k<;>decide
 have hu':((ps.toList.map λp=>η p.2).length=(ps.toList.map λp=>ρ p.2).length):=by simp
 obtain⟨d1,d2,d3⟩:=aAR (w:=w) (β:=β) (tm:=tm) (us:=ps.toList.map λp=>η p.2) hd ⟨by simp,λj c u a1 a2=>by
  simp only[D7,D6]at a1 a2;obtain⟨p,hp1,rfl⟩:=a1;obtain⟨p',hp2,rfl⟩:=a2;rw[hp1]at hp2;cases hp2;exact hη _⟩
 have ayB:(ps.map fun(i,x)=>(i,η x)).toList=((ps.toList.map λp=>η p.2).zipIdx 0).map λx=>(x.2,x.1):=by
  rw[Array.toList_map]
  conv=>lhs;rw[h1]
  rw[I9,List.zipIdx_map,List.zipIdx_map,I9,I9];rfl
 have hlen:(ps.toList.map λp=>η p.2).length=len:=by simpa using hl
 have ac0:=aDr (ks k) (ps.toList.map λp=>η p.2) 0 ((TP<|len * ks k).map (z.cells[· % z.cells.size]!)) d2 (by simp[hlen]);have ayJ:¬len * i.size > 2 ^ 24:=by
  rw[hc];have:len * ks k<=65536 * 16:=lp hsm azZ;omega
 have R6:¬len * i.size=0:=by
  rw[hc];have:1 * 1<=len * ks k:=lp h0 hkp;omega
 have p7:(((TP<|len * ks k).map (z.cells[· % z.cells.size]!)).toList.take (0 * ks k)++((ps.toList.map λp=>η p.2).flatMap λu=>u.cells.toList)++((TP<|len * ks k).map (z.cells[· % z.cells.size]!)).toList.drop ((0+(ps.toList.map λp=>η p.2).length) * ks k)).toArray
   =((ps.toList.map λp=>η p.2).flatMap λu=>u.cells.toList).toArray:=by
  rw[hlen,M0 aE4];simp
 rw[p7]at ac0;have Cg:=run_buildSlice w t e len (ps.map fun(i,x)=>(i,η x)) _ i z hu hi hz' ayJ R6 (by rw[ayB,hc];exact ac0);have hxl:xs.length=len:=by rw[d1];exact hl
 refine Xt (w':=w.alloc<|.cells ((ps.toList.map λp=>η p.2).flatMap λu=>u.cells.toList).toArray e) (cap:=len) hH hb rfl rfl rfl (λj hj=>heap_alloc_old w _ hj) (heap_alloc_new w _) J (CV hsm aE9) ?_ ?_ ?_
 .have:=d3.1;rw[KS]at this;simp only[Kn];rw[this,hxl];exact Ar _
 .intro i x j c u a1 a2 a3;exact Pw d3 i x j c u a1 a2 (by simpa using a3)
 .unfold execOp;rw[ho];simp only[Ef,Cg,F2,hxl];rfl
def WX{lo hi:Option Operand}{n:Nat}{l h:Int}(hη:∀x,RX w β tm (ρ x)<|η x)(hc:JG (lo.map ρ) (hi.map ρ) n=I (Y,l,h))(isS:Bool){cap:Nat}(Hj:n<=cap):
  (QL isS n cap (lo.map η) (hi.map η) G).run P w= .ok (l.toNat,h.toNat,cap) w/\0<=l/\l<=h/\h<=(n:Int):=by
 have hB:∀(k:IntKind) (i:Int) (y:Nat) (code:BoundsCode),0<=i->i<=(y:Int)->(Instr.sliceBound (.int k i) y code).run P w= .ok i.toNat w:=by
  intro k i y code h1 h2;simp[Instr.sliceBound,asIntOf,h1,h2]
 unfold JG at hc;split at hc
 .rename_i h1 h2;cases lo with
  | some x=>cases h1
  | none=>
  cases hi with
  | some x=>cases h2
  | none=>
   simp only[Bs,CK]at hc;obtain⟨_,rfl,rfl⟩:=hc;exact⟨by simp[QL],J,J,J⟩
 .rename_i k l' h1 h2;cases hi with
  | some x=>cases h2
  | none=>
  cases lo with
  | none=>cases h1
  | some x=>
   simp only[QV,Bs]at h1;have hx:=hη x;rw[h1]at hx;simp only[Bs,CK,AD,decide_eq_true_eq]at hc;obtain⟨⟨g1,g2⟩,rfl,rfl⟩:=hc;refine⟨?_,g1,g2,J⟩;simp[QL,hx.lit,hB _ _ _ _ g1 g2]
 .rename_i k l' h1 h2;cases lo with
  | some x=>cases h1
  | none=>
  cases hi with
  | none=>cases h2
  | some x=>
   simp only[QV,Bs]at h2;have hx:=hη x;rw[h2]at hx;simp only[Bs,CK,AD,decide_eq_true_eq]at hc;obtain⟨⟨g1,g2⟩,rfl,rfl⟩:=hc;refine⟨?_,J,g1,g2⟩;cases isS<;>simp[QL,hx.lit,hB _ _ _ _ g1 (J:l'<=(cap:Int))]
 .rename_i k1 l' k2 h' h1 h2;cases lo with
  | none=>cases h1
  | some y=>
  cases hi with
  | none=>cases h2
  | some x=>
   simp only[QV,Bs]at h1 h2;have hy:=hη y;rw[h1]at hy;have hx:=hη x;rw[h2]at hx;simp only[Bs,CK,AD,decide_eq_true_eq]at hc;obtain⟨⟨⟨g1,g2⟩,g3,g4⟩,rfl,rfl⟩:=hc;refine⟨?_,g3,g4,g2⟩;have e1:=hB k2 h' cap;have e2:=hB k1 l' h'.toNat .sliceB g3 J;cases isS<;>simp[QL,hx.lit,hy.lit,e1 _ g1 (J:h'<=(cap:Int)),e2]
 .cases hc
def mO{α:Type}{lo hi:Option AV}{l h:Int}{xs:List α}(hc:JG lo hi xs.length=I (Y,l,h)):Ij lo hi l h xs=(xs.take h.toNat).drop l.toNat:=by
 unfold JG at hc;split at hc
 .simp only[Bs,CK]at hc;obtain⟨_,rfl,rfl⟩:=hc;simp[Ij]
 .simp only[Bs,CK]at hc;obtain⟨_,rfl,rfl⟩:=hc;simp[Ij]
 .simp only[Bs,CK]at hc;obtain⟨_,rfl,rfl⟩:=hc;simp[Ij]
 .simp only[Bs,CK]at hc;obtain⟨_,rfl,rfl⟩:=hc;simp[Ij]
 .cases hc
def RC.cut{k:K}{xs:List (Tof k)}{bb f cap l h:Nat}{ys:List (Tof k)}(hy:ys=(xs.take h).drop l)(hlh:l<=h)(hh:h<=xs.length)(hx:RC w β (.sl k xs) (.slice (I ⟨bb,f,G⟩) xs.length cap))(Hj:xs.length<=cap):
  RC w β (.sl k ys) (.slice (if cap=l then I ⟨bb,f,G⟩ else I ⟨bb,f+l * ks k,G⟩) (h - l)<|cap - l):=by
 by_cases he:h=l
 .obtain rfl:ys=[]:=by subst hy;subst he;rw[M0];simp;omega
  rw[show h - l=0 by omega];exact .nil
 .have hne:xs≠[]:=λe=>by subst e;simp at hh;omega
  rw[A8 J];cases hx with
  | nil=>exact absurd rfl hne
  | sl u hn hm hu hr=>
   have hyl:ys.length=h - l:=by subst hy;simp;omega
   refine .sl (λi j=>u (l+i) j) ⟨hyl.symm,J⟩ hm (λi j hi hj=> ?_) (λi x j c h1 h2=>hr (l+i) x j c ?_ h2)
   .have:=hu (l+i) j J hj;rw[EG]at this;rw[← this];congr 2;omega
   .subst hy;rw[Hd,Ge]at h1;split at h1
    .exact h1
    .cases h1
def ir{t e:TypeId}(hu:P.underlying t=I (.slice e))(h1:1<=P.cellsOf e){a:Option Addr}{n cap l h m:Nat}{lo hi:Option Value}(hb:(QL Y n cap lo hi G).run P w= .ok (l,h,m) w):
  (QI t (.slice a n cap) lo hi G).run P w= .ok (.slice (if m=l then a else a.map (·.add (l * P.cellsOf e))) (h - l)<|m - l) w:=by
 simp[QI,Instr.slice,run_underlying hu,hb,KY h1]
def aqJ(hη:∀x,RX w β tm (ρ x)<|η x)(hH:Hs B β H w){t:TypeId}{x:Operand}{lo hi:Option Operand}(hf:J0 P H t (ρ x)=Y){q:Bool}{v:AV}{os:List Ob}(h:QD (lo.map ρ) (hi.map ρ) (ρ x)=I (q,v,os))(hq:q=Y):
  Good B β H w b v os (((QI t (η x) (lo.map η) (hi.map η) G).run P w).andThen λu w=> .ok (.value u) w):=by
 subst hq;have hx:=hη x;generalize ρ x=c at h hx hf;unfold QD at h;split at h
 .rename_i s;cases hc:JG (lo.map ρ) (hi.map ρ) s.size with
  | none=>rw[hc]at h;cases h
  | some r=>
   obtain⟨q',l,h'⟩:=r;rw[hc]at h;simp only[A6,Bs,CK]at h;obtain⟨rfl,rfl,rfl⟩:=h;obtain⟨hb,g1,g2,g3⟩:=WX (P:=P) (w:=w) (β:=β) (tm:=tm) hη hc A0<|Ar _;rw[hx.lit];have hu:P.underlying t=I .string:=by
    unfold J0 at hf;split at hf<;>simp_all
   refine Good.same hH (u:= .string<|s.extract l.toNat h'.toNat) ?_ rfl;simp[QI,Instr.slice,run_underlying hu,hb]
 .rename_i k xs;cases hc:JG (lo.map ρ) (hi.map ρ) xs.length with
  | none=>rw[hc]at h;cases h
  | some r=>
   obtain⟨q',l,h'⟩:=r;rw[hc]at h;simp only[A6,Bs,CK]at h;obtain⟨rfl,rfl,rfl⟩:=h;obtain⟨e,hu,hk⟩:∃e,P.underlying t=I (.slice e)/\P.cellsOf e=ks k:=by
    unfold J0 at hf;split at hf<;>simp_all
   have h1:=Hz k;have hx':RC w β (.sl k xs) (η x):=hx;obtain⟨a,cap,hv,Hj⟩:=hx'.ow.len;obtain⟨hb,g1,g2,g3⟩:=WX (P:=P) (w:=w) (β:=β) (tm:=tm) hη hc Y Hj;rw[hv]at hx' ⊢;rw[ir hu J hb,hk];refine Good.same hH rfl ?_;by_cases hxs:xs=[]
   .subst hxs;have e1:h'.toNat - l.toNat=0:=by simp at g3;omega
    have e2:Ij (lo.map ρ) (hi.map ρ) l h' ([]:List (Tof k))=[]:=by rw[mO hc];simp
    rw[e1,e2];exact RC.nil
   .have ha:∃bb f,a=I ⟨bb,f,G⟩:=by
     cases hx' with
     | nil=>exact absurd rfl hxs
     | sl=>exact⟨_,_,rfl⟩
    obtain⟨bb,f,rfl⟩:=ha;have:=RC.cut (l:=l.toNat) (h:=h'.toNat) (mO hc) J J hx' Hj;simpa[R2,R1,Gh,apply_ite] using this
 .cases hc:JG (lo.map ρ) (hi.map ρ) 0 with
  | none=>rw[hc]at h;cases h
  | some r=>
   obtain⟨q',l,h'⟩:=r;rw[hc]at h;simp only[A6,Bs,CK]at h;obtain⟨rfl,rfl,rfl⟩:=h;obtain⟨e,hu,hk⟩:∃e,P.underlying t=I (.slice e)/\1<=P.cellsOf e:=by
    unfold J0 at hf;split at hf<;>simp_all
   obtain⟨hb,g1,g2,g3⟩:=WX (P:=P) (w:=w) (β:=β) (tm:=tm) hη hc Y<|Ar _;rw[hx.lit,ir hu hk hb];have e1:h'.toNat=0:=J
   have e2:l.toNat=0:=J
   refine Good.same hH (u:= .slice G 0 0) ?_ rfl;rw[e1,e2];rfl
 .cases h
end
end Go.VS
namespace Go.VS
open Go
section
variable {P:Program} {B:Bb} {β:Beta} {H:Hp} {w w':World} {b:Nat} {tm:Nat->Value} {ρ:Operand->AV} {η:Operand->Value} {kd:TypeId->Option K}
def arX(hP:P=B.P)(hη:∀x,RX w β tm (ρ x)<|η x)(htm:∀g,η (.tmp g)=tm g)(hcv:∀v,η (.const v)=v)(hH:Hs B β H w)(hb:H b=G){o:Oper}{q:Bool}{v:AV}{os:List Ob}
  (h:CA P kd ρ H b o.op=I (q,v,os))(hq:q=Y):Good B β H w b v os ((execOp η o).run P w):=by
 generalize ho:o.op=op at h;have P8:∀ {s:Sem Value},(execOp η o=(do pure (.value<|← s):Sem Next))->(execOp η o).run P w=(s.run P w).andThen λu w=> .ok (.value u) w:=by
  intro s e;rw[e];simp only[Ef];rfl
 cases op<;>try (simp[CA]at h;done)
 case move x=>
  obtain⟨rfl,_,rfl,hg⟩:=O5 h;refine Good.same hH (u:=η x) ?_<|(hη x).of hg;unfold execOp;rw[ho];rfl
 case assign x=>
  obtain⟨rfl,_,rfl,hg⟩:=O5 h;refine Good.same hH (u:=η x) ?_<|(hη x).of hg;unfold execOp;rw[ho];rfl
 case pick c x y=>exact arY hη htm hcv hH h hq ho
 case alloc t=>
  simp only[CA]at h;split at h
  .rename_i n e hu;cases hk:kd e with
   | none=>rw[hk]at h;cases h
   | some k=>
    cases hz:I4 P t with
    | none=>rw[hk,hz]at h;cases h
    | some zs=>
     rw[hk,hz]at h;simp only[A6]at h;split at h
     .rename_i hc;simp only[AD]at hc;cases h;exact ap0 hP hH hb hz hc.1.1 (Bm hc.1.2) (DW hc.2) ho
     .cases h
  .cases hz:I4 P t with
   | none=>rw[hz]at h;cases h
   | some zs=>
    rw[hz]at h;cases h;exact aql hH hb hz ho
 case box t x=>
  simp only[CA]at h;cases hc:GY (ρ x) with
  | none=>rw[hc]at h;cases h
  | some cs=>
   rw[hc]at h;cases h;exact auU hη hH hb hc ho
 case build t ps=>
  simp only[CA]at h;cases hz:I4 P t with
  | none=>rw[hz]at h;cases h
  | some zs=>
   rw[hz]at h;simp only[A6]at h;split at h
   .rename_i fs hu;split at h
    .rename_i ha;cases hc:I0 P ρ t ps.toList zs with
     | none=>rw[hc]at h;cases h
     | some cs=>
      rw[hc]at h;obtain⟨rfl,_,rfl⟩:=DG h;exact aqi hη hH hz hu ha hc ho
    .cases h
   .cases h
 case buildSlice t len ps=>
  simp only[CA]at h;cases he:IW P t with
  | none=>rw[he]at h;cases h
  | some e=>
   rw[he]at h;simp only[A6]at h;cases hk:kd e with
   | none=>rw[hk]at h;cases h
   | some k=>
    rw[hk]at h;simp only[A6]at h;cases hp:I2 ρ 0 ps.toList with
    | none=>rw[hp]at h;cases h
    | some vs=>
     rw[hp]at h;simp only[A6]at h;cases hd:Mi k vs with
     | none=>rw[hd]at h;cases h
     | some xs=>
      rw[hd]at h;simp only[A6]at h;split at h
      .rename_i hc;simp only[AD]at hc;cases h;exact alZ hη hH hb he hp hd (Bm hc.1.1.1) (Bm hc.1.1.2) (DW hc.1.2) hc.2 ho
      .cases h
 case load t p=>
  simp only[CA]at h;cases hl:Jr P H t (ρ p) with
  | none=>rw[hl]at h;cases h
  | some v'=>
   rw[hl]at h;obtain⟨rfl,_,rfl⟩:=DG h;exact av9 hP hη hH hl ho
 case nilCheck p=>
  simp only[CA]at h;split at h
  .rename_i hp;obtain⟨rfl,_,rfl⟩:=DG h;exact za hη hH (.inl ⟨_,_,_,_,rfl⟩) hp ho
  .rename_i hp;obtain⟨rfl,_,rfl⟩:=DG h;exact za hη hH (.inr ⟨_,_,_,rfl⟩) hp ho
  .cases h
 case binOp op t x y z=>
  refine aqj (t:=t) (x:=x) (y:=y) hη hH h hq<|P8 ?_;unfold execOp;rw[ho]
 case unOp op t x=>
  rw[P8 (by unfold execOp;rw[ho])];exact ari hη hH h
 case convert src dst x=>
  rw[P8 (by unfold execOp;rw[ho])];have hx:=hη x;have conv:(Ih P src dst (ρ x)=I (q,v,os)/\ ∀i,v≠ .own i)\/(∃c i os',Ih P src dst (ρ x)=I (c,.own i,os')/\(c,AV.own b,os')=(q,v,os))\/ ∃e xs,P.underlying src=I (.slice e)/\P.underlying dst=I .string/\P.underlying e=I (.int .u8)/\CD H .u8 (ρ x)=I xs/\v= .s (BH xs)/\os=[]:=by
   simp only[CA]at h;split at h
   .rename_i e hs hd;split at h
    .rename_i he;cases hx:CD H .u8 (ρ x) with
     | none=>rw[hx]at h;cases h
     | some xs=>
      rw[hx]at h;obtain⟨rfl,_,rfl⟩:=DG h;exact .inr (.inr ⟨e,xs,hs,hd,he,rfl,rfl,rfl⟩)
    .cases h
   .split at h
    .rename_i c i os' hc;exact .inr (.inl ⟨c,i,os',hc,Eh h⟩)
    .rename_i hno;exact .inl ⟨h,λi e=>hno q i os<|by rw[h,e]⟩
  have azF:∀e xs,CD H .u8 (ρ x)=I xs->P.underlying src=I (.slice e)->∀g w y,ρ x≠ .gd g w y:=by
   intro e xs h1 h2 g w y h3;rw[h3]at h1;simp[CD]at h1
  have cA:∀q v os,Ih P src dst (ρ x)=I (q,v,os)->q=Y->(∀i,v≠ .own i)->Good B β H w b v os (((convert src dst<|η x).run P w).andThen λu w=> .ok (.value u) w):=by
   intro q v os h hq hn;generalize ρ x=c at h hx;unfold Ih at h;split at h
   .rename_i d k k' n KG hd;obtain⟨rfl,_,rfl⟩:=DG h;rw[hx.lit];refine Good.same hH (u:= .int k<|k.wrap n) ?_ rfl;cases d<;>simp[convert,run_underlying KG,run_underlying hd,Conv.intToInt]
   .rename_i hs hd;obtain⟨rfl,_,rfl⟩:=DG h;rw[hx.lit];refine Good.same hH (u:= .string _) ?_ rfl;simp[convert,run_underlying hs,run_underlying hd]
   .split at h
    .simp only[Bs,CK]at h;exact absurd h.2.1.symm (hn 0)
    .cases h
   .cases h
  obtain⟨h1,hno⟩|⟨c,i,os',h1,h2⟩|⟨e,xs,hs,hd,he,h1,rfl,rfl⟩:=conv
  .exact cA q v os h1 hq hno
  .cases h2;subst hq;generalize ρ x=c at h1 hx;unfold Ih at h1;split at h1
   .cases h1
   .cases h1
   .rename_i e s hs hd;split at h1
    .rename_i he;simp only[Bs,CK]at h1;obtain⟨hr,_,rfl⟩:=h1;rw[hx.lit];exact aqh hH hb hs hd he hr
    .cases h1
   .cases h1
  .have hx2:R2 w β (ρ x) (η x):=hx.of<|azF e xs h1 hs;refine Good.same hH (u:= .string<|BH xs) ?_ rfl;rw[arP hs he hd<|aaB hH h1 hx2];rfl
 case makeSlice t l c=>
  rw[P8 (by unfold execOp;rw[ho])];have mk:∀n,η l= .int .i64 n->η c= .int .i64 n->((IW P t).bind λe=>(kd e).bind λk=>
   match zok P e k&&Ag (P.cellsOf e) (ks k)&&Dx (P.bytesOf e) 256 with
   | true=>I (U (0<=n)&&U (n<=4294967296),AV.own b,[Ob.row e A0 k (BS n.toNat<|dfl k)])
   | false=>G)=I (q,v,os)->Good B β H w b v os (((Instr.makeSlice t (η l)<|η c).run P w).andThen λu w=> .ok (.value u) w):=by
   intro n h1 h2 h;cases he:IW P t with
   | none=>rw[he]at h;cases h
   | some e=>
    rw[he]at h;simp only[A6]at h;cases hk:kd e with
    | none=>rw[hk]at h;cases h
    | some k=>
     rw[hk]at h;simp only[A6]at h;split at h
     .rename_i hc;simp only[AD]at hc;simp only[Bs,CK]at h;obtain⟨hr,rfl,rfl⟩:=h;rw[hq]at hr;simp only[AD,decide_eq_true_eq]at hr;rw[h1,h2];exact asl hH hb he hc.1.1 (Bm hc.1.2) (DW hc.2) hr.1 hr.2
     .cases h
  have hl:=hη l;have hc:=hη c;simp only[CA]at h;split at h
  .rename_i n hl' Gl;rw[hl']at hl;split at Gl
   .obtain rfl:=Bm Gl;exact mk n hl.lit hl.lit h
   .cases Gl
  .rename_i n m hl' hc' Gl;rw[hl']at hl;rw[hc']at hc;split at h
   .rename_i hnm;obtain rfl:n=m:=by simpa using hnm
    exact mk n hl.lit hc.lit h
   .cases h
  .cases h
 case slice t x lo hi mx=>
  cases mx with
  | some m=>simp[CA]at h
  | none=>
   rw[P8 (by unfold execOp;rw[ho])];simp only[CA]at h;split at h
   .rename_i hf;exact aqJ hη hH hf h hq
   .cases h
 case fieldAddr t x f=>
  simp only[CA]at h;cases hf:Lc P t f with
  | none=>rw[hf]at h;cases h
  | some fd=>
   rw[hf]at h;simp only[A6]at h;split at h
   .rename_i h1;split at h
    .rename_i hp;obtain⟨rfl,_,rfl⟩:=DG h;exact yH hη hH hf (DW h1) (.inl ⟨_,_,_,_,hp,rfl⟩) ho
    .rename_i hp;obtain⟨rfl,_,rfl⟩:=DG h;exact yH hη hH hf (DW h1) (.inr ⟨_,_,_,hp,rfl⟩) ho
    .cases h
   .cases h
 case field t x f=>
  simp only[CA]at h;cases hf:Lc P t f with
  | none=>rw[hf]at h;cases h
  | some fd=>
   rw[hf]at h;simp only[A6]at h;split at h
   .rename_i cs hx;cases hl:HQ P fd.type cs fd.offset with
    | none=>rw[hl]at h;cases h
    | some v'=>
     rw[hl]at h;obtain⟨rfl,_,rfl⟩:=DG h;exact ar3 hη hH hf hx hl ho
   .cases h
 case indexAddr t x ix=>
  rw[P8 (by unfold execOp;rw[ho])];simp only[CA]at h;split at h
  .rename_i hi;exact amD hP hη hH hi h hq
  .cases h
 case index t x ix=>
  rw[P8 (by unfold execOp;rw[ho])];simp only[CA]at h;split at h
  .rename_i hi;exact aqt hη hH hi h hq
  .cases h
 case extract x i=>
  simp only[CA]at h;split at h
  .rename_i vs hx;cases hv:vs[i]? with
   | none=>rw[hv]at h;cases h
   | some v'=>
    rw[hv]at h;obtain⟨rfl,_,rfl⟩:=DG h;exact apI hη hH hx hv ho
  .cases h
 case call c=>
  have Qz:∀ {x:Operand} {v:Value},ρ x= .lit v->η x=v:=fun {x v} e=>by have:=hη x;rw[e]at this;exact this.lit
  obtain⟨cal,⟨args⟩,⟨tys⟩⟩:=c;simp only[CA,J9]at h;split at h
  .rename_i x t;have run:∀n:Nat,(QS #[t] o.type #[η x]).run P w= .ok (.int .i64 n) w->Good B β H w b (.i n) [] ((execOp η o).run P w):=by
    intro n hn;refine Good.same hH (u:= .int .i64 n) ?_ rfl;unfold execOp;rw[ho];simp[resolve,invoke,builtin,hn]
   split at h
   .rename_i s hu hx;obtain⟨rfl,_,rfl⟩:=DG h;refine run _ ?_;rw[Qz hx];simp[QS,run_underlying hu,goInt]
   .rename_i e k xs hu hx;obtain⟨rfl,_,rfl⟩:=DG h;have h1:=hη x;rw[hx]at h1;have h2:RC w β (.sl k xs) (η x):=h1;obtain⟨a,cap,hv,_⟩:=h2.ow.len;refine run _ ?_;rw[hv,jl hu]
   .rename_i e hu hx;obtain⟨rfl,_,rfl⟩:=DG h;refine run 0 ?_;rw[Qz hx,jl hu]
   .rename_i e id hu hx;split at h
    .rename_i e' fz k xs hid;obtain⟨rfl,_,rfl⟩:=DG h;have h1:=hη x;rw[hx]at h1;have h2:RC w β (.own id) (η x):=h1;obtain⟨hd,h3,h4⟩:=hH.EI id _ hid;generalize hg:η x=g at h2 run;cases h2 with
     | own h5 h6=>
      rw[h3]at h5;cases h5;obtain⟨a,cap,hv,_⟩:=h4.cells.len;refine run _ ?_;rw[hv,jl hu]
    .cases h
   .rename_i n e v hu;obtain⟨rfl,_,rfl⟩:=DG h;refine run _ ?_;simp[QS,run_underlying hu,goInt]
   .cases h
  .rename_i x y;split at h
   .rename_i k a k' c hx hy;split at h
    .rename_i hk;obtain rfl:k=k':=by simpa using hk
     obtain⟨rfl,_,rfl⟩:=DG h;refine Good.same hH (u:= .int k<|if c<a then c else a) ?_ rfl;unfold execOp;rw[ho];simp[resolve,invoke,builtin,Builtin.min_,Builtin.min2,Qz hx,Qz hy]
    .cases h
   .cases h
  .rename_i x y;split at h
   .rename_i k a k' c hx hy;split at h
    .rename_i hk;obtain rfl:k=k':=by simpa using hk
     obtain⟨rfl,_,rfl⟩:=DG h;refine Good.same hH (u:= .int k<|if a<c then c else a) ?_ rfl;unfold execOp;rw[ho];simp[resolve,invoke,builtin,Builtin.max_,Builtin.max2,Qz hx,Qz hy]
    .cases h
   .cases h
  .cases h
end
end Go.VS
namespace Go.VS
open Go
section
variable {B:Bb} {β β':Beta} {stk:List (Array Value)} {s:S} {a:Act} {w w':World}
def auK{cs:List Value}(h:cs.all ZY=Y):∀v∈cs,v.oneCell'=Y:=λv hv=>by
 rw[← aaO];exact DK.1 h v hv
def auL(v:Value):R2 w β (ofV v) v:=by
 unfold ofV;split
 .rename_i cs;split
  .rename_i h;exact⟨cs.toList,by simp,RL.lits _<|auK h⟩
  .trivial
 .rfl
def St.eval(h:St B β stk s a w)(x:Operand):RX w β (BY a) (s.ev x) (a.eval x):=by
 cases x with
 | tmp t=>exact(h.T t).aL
 | const v=>
  have:=auL (w:=w) (β:=β) v;show RX w β (BY a) (ofV v) v;exact RT.aL<|RT.HF this
 | _=>trivial
def aaC{l:List Nat}{t:Nat}(h:(l.any λp=>Ag p t)=A0):t ∉ l:=by
 intro hm;have:(l.any λp=>Ag p t)=Y:=K0.2 ⟨t,hm,by simp⟩;rw[h]at this;cases this
def St.put(h:St B β stk s a w){d:Option Nat}(hd:s.has d=Y){v:AV}{u:Value}(hv:RT w β (BY a) v u)(hg:∀g want x,v= .gd g want x->s.gs g=Y):St B β stk (s.put d v) (a.put d u) w:=by
 cases d with
 | none=>exact h
 | some d=>
  simp only[S.has,AD,CE]at hd;obtain⟨⟨h1,h2⟩,h3⟩:=hd;have hlt:d<a.tmps.size:=by rw[h.n];exact Gf (Od d)<|DW h1
  have hp:=aaC h2;have hgs:s.gs d≠Y:=by rw[h3];simp
  have ayX:BY (a.put (I d) u) d=u:=by simp[BY,Act.put,hlt]
  have tne:∀t,t≠d->BY (a.put (I d) u) t=BY a t:=λt ht=>by
   simp only[BY,Act.put,TG];rw[aBT λe=>ht e.symm]
  have rt:∀x y,RT w β (BY a) x y->(∀g want z,x= .gd g want z->s.gs g=Y)->RT w β (BY<|a.put (I d) u) x y:=by
   intro x y hx hx';cases x with
   | gd g want z=>
    have hne:g≠d:=λe=>hgs<|e▸hx' g want z rfl;refine⟨λe=>hx.1<|by rwa[tne g hne]at e,λe=>hx.2<|by rwa[tne g hne]at e⟩
   | _=>exact hx
  refine⟨λt=> ?_,h.stack, ?_,h.defers,λt ht=> ?_,λt g want x hx=> ?_,h.hs⟩
  .show RT w β _ (upd s.T d v t) _;by_cases e:t=d
   .subst e;rw[Bf,ayX];exact rt _ _ hv hg
   .rw[BB _ _ e,tne t e];exact rt _ _ (h.T t) (h.gs t)
  .show(a.put (I d) u).tmps.size=s.n;simpa[Act.put] using h.n
  .have hne:t≠d:=λe=>hp<|e▸ht;rw[tne t hne];exact h.pins t ht
  .have hx:upd s.T d v t= .gd g want x:=hx;by_cases e:t=d
   .subst e;rw[Bf]at hx;exact hg _ _ _ hx
   .rw[BB _ _ e]at hx;exact h.gs _ _ _ _ hx
def St.map{f:AV->AV}(h:St B β stk s a w)(hf:∀c,GQ c=Y->f c=c)(hg:∀c g want x,f c= .gd g want x->∃y,c= .gd g want y)(hk:Kf f w β w' β'){H':Hp}(hH:Hs B β' H' w'):St B β' stk { s.map f with H:=H' } a w':=by
 have g1:∀c g want x,Fu f c= .gd g want x->∃y,c= .gd g want y:=by
  intro c g want x e;cases c<;>first|(cases e;done)|exact hg _ _ _ _ e
 have g2:∀c g want x,GF f c= .gd g want x->∃y,c= .gd g want y:=by
  intro c g want x e;cases c<;>first|(cases e;done)|exact g1 _ _ _ _ e
 have g3:∀c g want x,Ex f c= .gd g want x->∃y,c= .gd g want y:=by
  intro c g want x e;cases c with
  | gd g' w' y=>cases e;exact⟨_,rfl⟩
  | _=>exact g2 _ _ _ _ e
 refine⟨λt=>RT.map hf hk<|h.T t,⟨by simpa[S.map] using h.stack.1,λi T tm h1 h2 t=> ?_⟩,h.n,h.defers,h.pins,λt g want x hx=> ?_,hH⟩
 .simp only[S.map,D7,D6]at h1;obtain⟨T0,h3,rfl⟩:=h1;exact RT.map hf hk (h.stack.2 i T0 tm h3 h2 t)
 .obtain⟨y,hy⟩:=g3 _ _ _ _ hx;exact h.gs _ _ _ _ hy
def OO(id:Nat):∀c g want x,kl1 id c= .gd g want x->∃y,c= .gd g want y:=by
 intro c g want x h;unfold kl1 at h;split at h
 .split at h<;>cases h
 .split at h<;>cases h
 .exact⟨_,h⟩
def abA(id:Nat)(k:K)(xs:List (Tof k)):∀c g want x,fz1 id k xs c= .gd g want x->∃y,c= .gd g want y:=by
 intro c g want x h;unfold fz1 at h;split at h
 .split at h<;>cases h
 .split at h<;>cases h
 .exact⟨_,h⟩
def St.keep(h:St B β stk s a w)(hk:Kp w β w' β'){H':Hp}(hH:Hs B β' H' w'):St B β' stk { s with H:=H' } a w':=
 ⟨λt=>RT.mono hk<|h.T t,⟨h.stack.1,λi T tm h1 h2 t=>RT.mono hk<|h.stack.2 i T tm h1 h2 t⟩,h.n,h.defers,h.pins,h.gs,hH⟩
end
end Go.VS
namespace Go.VS
open Go
section
variable {P:Program} {B:Bb} {β β':Beta} {H:Hp} {stk:List (Array Value)} {s:S} {a:Act} {w w':World}
def aDp{o n:Nat}{cs:List AV}(h:nQ o n cs=Y):o+n<=cs.length/\(o=0->nop (cs.headD<|.lit<|.bool A0)=Y):=by
 unfold nQ at h;simp only[AD,C1]at h;exact⟨DW h.1,λe=>h.2.resolve_left λh1=>by have:=DW h1;omega⟩
def atb{e:TypeId}{k:K}(h:zok P e k=Y):OX P e=A0:=by
 unfold zok at h;unfold OX;split at h
 .rename_i zs hz;rw[hz];cases zs with
  | nil=>rfl
  | cons c zs=>
   cases hk:enc k (dfl k) with
   | nil=>rw[hk]at h;cases h
   | cons d ds=>
    rw[hk]at h;simp only[M6,AD]at h;cases c<;>first|rfl|skip
    rename_i v;cases v<;>first|rfl|skip
    rename_i q;cases q<;>first|rfl|skip
    have h1:=h.1;simp[ZZ]at h1
 .cases h
def aaz{c:AV}{v:Value}(hn:nop c=Y)(h:RC w β c v):∀a,v≠ .pointer (I a):=by
 rintro a rfl;cases h with
 | un=>cases hn
 | lit=>cases hn
 | own _ hs=>cases hs
 | ptr=>cases hn
 | ipt=>cases hn
def awP:∀(k:K) (x:Tof k),(enc k x).all nop=Y:=by
 intro k x;cases k<;>rfl
def Pk.setRow{g:Nat}{us cs:Array Value}{e:TypeId}{fr:Nat×Nat}(hg:w.heap[g]? =I (.cells us e fr))(h:OX P e=Y->∀a,us[0]? =I (.pointer<|I a)->cs[0]? =I (.pointer<|I a)):Pk P w (w.setRow g cs):=by
 intro b us' e' fr' a h1 h2 h3;by_cases hb:b=g
 .subst hb;rw[hg]at h1;cases h1;exact⟨cs,_,setRow_heap w b us cs e _ hg,h h3 a h2⟩
 .exact⟨us',fr',by rw[setRow_other w g b cs hb];exact h1,h2⟩
def Xi{l ys:List Value}{p:Nat}(h:p+ys.length<=l.length){v:Value}(hv:l[0]? =I v)(h0:p=0->ys≠[]->False):((l.take p++ys++l.drop (p+ys.length)).toArray)[0]? =I v:=by
 rw[TD];by_cases hy:ys=[]
 .subst hy;simpa using hv
 .have hp:0<p:=Nat.pos_of_ne_zero λe=>h0 e hy;rw[C2,IE (by
   have:=(BO.1 hv).1;simp;omega),Ge,A5 hp]
  exact hv
def kq{k:K}{us:Array Value}{f:Nat}{xs:List (Tof k)}(hr:∀i x j c u,xs[i]? =I x->(enc k x)[j]? =I c->us[f+(i * ks k+j)]? =I u->RC w β c u)(hx:xs≠[])(hf:f=0){a:Addr}(hu:us[0]? =I (.pointer<|I a)):False:=by
 subst hf;obtain⟨x,l,rfl⟩:=List.exists_cons_of_ne_nil hx;have hk:=Hz k;rw[← EK k x]at hk;have hc:=hr 0 x 0 _ _ rfl (Av hk) (by simpa using hu);exact aaz (DK.1 (awP k x) _<|Cd hk) hc a rfl
def Hs.setRow(h:Hs B β H w){id:Nat}{hd:Value}{n g o:Nat}(hβ:β id=I (hd,n))(ha:adr hd=I ⟨g,o,G⟩)(cs:Array Value)(ob:Ob)
  (hob:Kp w β (w.setRow g cs) β->E7 B.P (w.setRow g cs) β id ob)(hpk:Pk B.P w (w.setRow g cs)):Hs B β (upd H id<|I ob) (w.setRow g cs)/\Kp w β (w.setRow g cs) β:=by
 have hm:MB β g:=⟨id,hd,n,_,hβ,ha,rfl⟩;have hk:Kp w β (w.setRow g cs) β:=λc v x=>RC.mono (λ_ _ h=>h) (λb o v hb hc=>by
  have hne:b≠g:=λe=>hb<|.inl<|e▸hm;rw[cell_setRow_other w g cs _ hne];exact hc) (λ_ h _=>h) x
 have h1:=h.U7 (w':=w.setRow g cs) (β':=β) (f:=λc=>c) (λ_ _=>rfl) hk (id:=id) (ob:=I ob) (λ_ _=>rfl)
  (.inr ⟨ob,hd,n,rfl,hβ,hob hk,λa h=> .inl ⟨_,a,hβ,h,rfl⟩⟩)
  (λj p a' e hj h2=>setRow_other w g _ cs λe'=>e<|h.inj _ _ _ _ _ _ hj hβ h2 ha e') rfl rfl rfl aE4
  (λb hb hO=>setRow_other w g b cs (λe=>by
   subst e;rcases(h.old b hm).1 with h3|h3
   .exact hO h3
   .omega)) rfl hpk
 rw[show(λj=>CI (λc=>c)<|H j)=H from funext λj=>aaT _ (λ_=>rfl) _]at h1;exact⟨h1,hk⟩
def YS{α:Type}(l:List α)(p:Nat)(ys:List α)(h:p+ys.length<=l.length)(q:Nat):
  (l.take p++ys++l.drop (p+ys.length))[q]? =if p<=q/\q<p+ys.length then ys[q - p]? else l[q]? :=by
 have ht:(l.take p).length=p:=by simp;omega
 by_cases h1:q<p
 .rw[A8 J,C2,IE J,Ge,A5 h1]
 .by_cases h2:q<p+ys.length
  .rw[A5 ⟨J,h2⟩,C2,FO J,ht,IE J]
  .rw[A8 J,FO y7,Hd];congr 1;simp only[Au,ht];omega
def iS{t:TypeId}{v:Value}{g o:Nat}{e:TypeId}{fr:Nat×Nat}{cur:Array Value}(h1:1<=P.cellsOf t)(hs:v.cells.size=P.cellsOf t)(hg:w.heap[g]? =I (.cells cur e fr))(hl:o+v.cells.size<=cur.size)
  (hfr:fr=(0,0)\/cur.size<=fr.1)(DA:∀u∈v.cells.toList,u.oneCell'=Y):
  (QJ t (.pointer<|I ⟨g,o,G⟩) v).run P w= .ok () (w.setRow g (cur.toList.take o++v.cells.toList++cur.toList.drop (o+v.cells.size)).toArray):=by
 have:=WZ (P:=P) g o e fr v.cells.toList 0 cur w hg (by simpa using hl) hfr DA;simp only[Hh,Ez]at this;simp only[QJ,JO,storeVar,Ef,Fj,F2,KY h1,hs,ne_eq,not_true_eq_false,if_false];rw[hs]at this;exact this
def arq(hP:P=B.P)(h:St B β stk s a w){t:TypeId}{p x:Operand}{id z o:Nat}{e:TypeId}{cs ys:List AV}(hp:s.ev p= .ptr id z 0 o)(hid:s.H id=I (.box e cs))(hx:GY (s.ev x)=I ys)
  (hy:ys.length=P.cellsOf t)(h1:1<=P.cellsOf t)(hl:o+ys.length<=cs.length)(h0:o=0->nop (cs.headD<|.lit<|.bool A0)=Y):
  ∃w' β',(QJ t (a.eval p)<|a.eval x).run P w= .ok () w'/\St B β' stk (s.EH id<|I<|.box e<|Gw cs o ys) a w':=by
 have hp':=h.eval p;rw[hp]at hp';have hp':RC w β (.ptr id z 0 o) (a.eval p):=hp';have hr:=S3 hx<|h.eval x;have hys:(a.eval x).cells.size=ys.length:=by have:=hr.1;simpa using this
 obtain⟨b',us,k1,k2,k3⟩:=h.hs.EI id _ hid;have hcs:us.size=cs.length:=by have:=k3.1;simpa using this
 generalize hg:a.eval p=vp at hp';cases hp' with
 | @ptr _ _ _ _ hd n bb f hβ ha hi=>
  rw[k1]at hβ;cases hβ;cases ha;have Cg:=iS (P:=P) (w:=w) (v:=a.eval x) (o:=o) h1 (by rw[hys,hy]) k2 J (.inl rfl) hr.one;refine⟨_,β,by rw[show(0:Nat)+(0 * z+o)=o by omega];exact Cg, ?_⟩;obtain⟨g1,g2⟩:=h.hs.setRow (hpk:=Pk.setRow k2 λ_ a' hu=>by
   have hus:us.toList.length=us.size:=Ez;refine Xi (ys:=(a.eval x).cells.toList) y7 (by simpa using hu) λe1 _=> ?_;cases cs with
   | nil=>simp at hcs;simp[hcs]at hu
   | cons c cs=>exact aaz (h0 e1) (k3.2 0 c _ rfl (by simpa using hu)) a' rfl) k1 rfl (us.toList.take o++(a.eval x).cells.toList++us.toList.drop (o+(a.eval x).cells.size)).toArray (.box e<|Gw cs o ys) (λhk=>by
   refine⟨b',_,k1,setRow_heap w b' us _ e _ k2, ?_⟩;rw[aBV];unfold Gw;rw[← hys];exact(((k3.take _).append hr).append<|k3.drop _).mono hk)
  exact h.keep g2 g1
def aBO{k:K}{us:List Value}{f:Nat}{xs:List (Tof k)}{i o:Nat}{y:Tof k}{ys:List AV}{vs:List Value}(hi:i<xs.length)(hsz:f+xs.length * ks k<=us.length)
  (hr:∀i x j c u,xs[i]? =I x->(enc k x)[j]? =I c->us[f+(i * ks k+j)]? =I u->RC w β c u)(hv:vs.length=ys.length)(ho:o+ys.length<=ks k)
  (hy:∀us0,RL (RC w β) (enc k<|xs.getD i<|dfl k) us0->RL (RC w β) (enc k y) (us0.take o++vs++us0.drop (o+vs.length))):
  ∀i' x j c u,(xs.set i y)[i']? =I x->(enc k x)[j]? =I c->(us.take (f+(i * ks k+o))++vs++us.drop (f+(i * ks k+o)+vs.length))[f+(i' * ks k+j)]? =I u->RC w β c u:=by
 intro i' x j c u h1 h2 h3;have hj:j<ks k:=by rw[← EK k x];exact(BO.1 h2).1
 have hi':i'<xs.length:=by have:=(BO.1 h1).1;simpa using this
 have e1:(i+1) * ks k<=xs.length * ks k:=E6 _ hi;rw[EG,On]at e1;have hlen:=hv;rw[YS _ _ _ J]at h3;by_cases e:i'=i
 .subst e;have hx:x=y:=by
   rw[Yi hi]at h1;exact(Eh h1).symm
  subst hx;have hold:RL (RC w β) (enc k<|xs.getD i'<|dfl k) ((us.drop<|f+i' * ks k).take<|ks k):=by
   refine⟨by simp[EK];omega,λj' c' u' g1 g2=>hr i' _ j' c' u' (getD_some hi) g1 ?_⟩;have hj':j'<ks k:=by rw[← EK k<|xs.getD i'<|dfl k];exact(BO.1 g1).1
   rw[Ge,A5 hj',Hd,D8]at g2;exact g2
  have aJ:=hy _ hold;refine aJ.2 j c u h2 ?_;rw[YS _ _ _ y7];by_cases g:o<=j/\j<o+vs.length
  .rw[A5 g];rw[A5 J]at h3;rw[← h3];congr 1;omega
  .rw[A8 g,Ge,A5 hj,Hd];rw[A8 J]at h3;rw[← h3];congr 1;omega
 .have hx:xs[i']? =I x:=by
   rw[List.getElem?_set_ne λq=>e q.symm]at h1;exact h1
  refine hr i' x j c u hx h2 ?_;rw[A8]at h3
  .exact h3
  .rcases TR e with g|g
   .have:(i'+1) * ks k<=i * ks k:=E6 _ g;rw[EG,On]at this;omega
   .have:(i+1) * ks k<=i' * ks k:=E6 _ g;rw[EG,On]at this;omega
def apz(h:St B β stk s a w){t:TypeId}{p:Operand}{id i o:Nat}{e:TypeId}{fz:Bool}{k:K}{xs:List (Tof k)}{ys:List AV}{vs:Value}(hp:RC w β (.ptr id (ks k) i o) (a.eval p))(hid:s.H id=I (.row e fz k xs))
  (hys:vs.cells.size=ys.length)(DA:∀u∈vs.cells.toList,u.oneCell'=Y)(hy:ys.length=P.cellsOf t)(h1:1<=P.cellsOf t)(hl:o+ys.length<=ks k){y:Tof k}(hd:∀us0,RL (RC w β) (enc k<|xs.getD i<|dfl k) us0->RL (RC w β) (enc k y) (us0.take o++vs.cells.toList++us0.drop (o+vs.cells.toList.length))):
  ∃w',(QJ t (a.eval p) vs).run P w= .ok () w'/\St B β stk (s.EH id<|I<|.row e fz k<|xs.set i y) a w':=by
 obtain⟨hd',k1,k2⟩:=h.hs.EI id _ hid;generalize hg:a.eval p=vp at hp;cases hp with
 | @ptr _ _ _ _ hdd n bb f hβ ha hi=>
  rw[k1]at hβ;cases hβ;obtain⟨rfl,rfl⟩|⟨b',f',cap,us,fr,ayK,hh,hfr,hn,hc,hsz,Cl⟩:=k2
  .cases ha
  .subst ayK;have ha':(⟨b',f',G⟩:Addr)=⟨bb,f,G⟩:=Eh ha;obtain⟨rfl,rfl⟩:b'=bb/\f'=f:=by simpa using ha'
   have hxc:xs.length * ks k<=cap * ks k:=E6 _ hn;have hic:(i+1) * ks k<=xs.length * ks k:=E6 _ hi;rw[EG,On]at hic;have azf:fr=(0,0)\/us.size<=fr.1:=by
    subst hfr;cases fz
    .exact .inl rfl
    .exact .inr<|Ar _
   have Cg:=iS (P:=P) (w:=w) (v:=vs) (o:=f'+(i * ks k+o)) h1 (by rw[hys,hy]) hh J azf DA;refine⟨_,Cg, ?_⟩;obtain⟨g1,g2⟩:=h.hs.setRow (hpk:=Pk.setRow hh λ_ a' hu=>by
    have hus:us.toList.length=us.size:=Ez;exact Xi (ys:=vs.cells.toList) y7 (by simpa using hu) λe1 _=>kq Cl (λe2=>by subst e2;simp at hi) J hu) k1 rfl (us.toList.take (f'+(i * ks k+o))++vs.cells.toList++us.toList.drop (f'+(i * ks k+o)+vs.cells.size)).toArray (.row e fz k<|xs.set i y) (λhk=>by
    have FD:(us.toList.take (f'+(i * ks k+o))++vs.cells.toList++us.toList.drop (f'+(i * ks k+o)+vs.cells.size)).toArray.size=us.size:=by
     simp only[Kn,Au,Dh,EF,Ez];omega
    refine⟨_,by simpa using k1,.inr ⟨b',f',cap,_,fr,by simp,setRow_heap w b' us _ e _ hh, ?_,by simpa using hn,hc,by rw[FD];exact hsz, ?_⟩⟩
    .rw[FD];exact hfr
    .intro i' x' j c u q1 q2 q3;have q3':(us.toList.take (f'+(i * ks k+o))++vs.cells.toList++us.toList.drop (f'+(i * ks k+o)+vs.cells.toList.length))[f'+(i' * ks k+j)]? =I u:=by simpa using q3
     exact hk _ _<|aBO hi y7 (λi x j c u a1 a2 a3=>Cl i x j c u a1 a2<|by simpa using a3) (by simpa using hys) hl hd i' x' j c u q1 q2 q3')
   exact h.keep g2 g1
def ars(h:St B β stk s a w){t:TypeId}{p:Operand}{id i o:Nat}{e:TypeId}{k:K}{xs:List (Tof k)}{ys:List AV}{vs:Value}(hp:RC w β (.ptr id (ks k) i o) (a.eval p))(hid:s.H id=I (.arr e k xs))
  (hys:vs.cells.size=ys.length)(DA:∀u∈vs.cells.toList,u.oneCell'=Y)(hy:ys.length=P.cellsOf t)(h1:1<=P.cellsOf t)(hl:o+ys.length<=ks k){y:Tof k}(hd:∀us0,RL (RC w β) (enc k<|xs.getD i<|dfl k) us0->RL (RC w β) (enc k y) (us0.take o++vs.cells.toList++us0.drop (o+vs.cells.toList.length))):
  ∃w',(QJ t (a.eval p) vs).run P w= .ok () w'/\St B β stk (s.EH id<|I<|.arr e k<|xs.set i y) a w':=by
 obtain⟨b',us,k1,hh,hsz,hce,Cl⟩:=h.hs.EI id _ hid;generalize hg:a.eval p=vp at hp;cases hp with
 | @ptr _ _ _ _ hdd n bb f hβ ha hi=>
  rw[k1]at hβ;cases hβ;cases ha;have hic:(i+1) * ks k<=xs.length * ks k:=E6 _ hi;rw[EG,On]at hic;have Cg:=iS (P:=P) (w:=w) (v:=vs) (o:=0+(i * ks k+o)) h1 (by rw[hys,hy]) hh J (.inl rfl) DA;refine⟨_,Cg, ?_⟩;obtain⟨g1,g2⟩:=h.hs.setRow (hpk:=Pk.setRow hh λ_ a' hu=>by
   have hus:us.toList.length=us.size:=Ez;exact Xi (ys:=vs.cells.toList) y7 (by simpa using hu) λe1 _=>kq (f:=0) (xs:=xs) (λi x j c u a1 a2 a3=>Cl i x j c u a1 a2<|by simpa using a3) (λe2=>by subst e2;simp at hi) rfl hu) k1 rfl (us.toList.take (0+(i * ks k+o))++vs.cells.toList++us.toList.drop (0+(i * ks k+o)+vs.cells.size)).toArray (.arr e k<|xs.set i y) (λhk=>by
   have FD:(us.toList.take (0+(i * ks k+o))++vs.cells.toList++us.toList.drop (0+(i * ks k+o)+vs.cells.size)).toArray.size=us.size:=by
    simp only[Kn,Au,Dh,EF,Ez];omega
   refine⟨b',_,by simpa using k1,setRow_heap w b' us _ e _ hh,by rw[FD];simpa using hsz,by rw[FD];exact hce, ?_⟩;intro i' x' j c u q1 q2 q3;have q3':(us.toList.take (0+(i * ks k+o))++vs.cells.toList++us.toList.drop (0+(i * ks k+o)+vs.cells.toList.length))[0+(i' * ks k+j)]? =I u:=by simpa using q3
   exact hk _ _<|aBO hi y7 (λi x j c u a1 a2 a3=>Cl i x j c u a1 a2<|by simpa using a3) (by simpa using hys) hl hd i' x' j c u q1 q2 q3')
  exact h.keep g2 g1
end
end Go.VS
namespace Go.VS
open Go
section
variable {P:Program} {B:Bb} {β β':Beta} {H:Hp} {stk:List (Array Value)} {s:S} {a:Act} {w w':World}
structure JS (w:World) (H:Hp) (β β':Beta) (H':Hp) (ids:List Nat):Prop where
 imm:∀c v,GQ c=Y->RC w β c v->RC w β' c v
 own:∀j v,j ∉ ids->RC w β (.own j) v->RC w β' (.own j) v
 ptr:∀j z i o v,j ∉ ids->RC w β (.ptr j z i o) v->RC w β' (.ptr j z i o) v
 fr:∀j v e fz k xs,j∈ids->H j=I (.row e fz k xs)->RC w β (.own j) v->RC w β' (.sl k xs) v
 row:∀j e fz k xs,j ∉ ids->H j=I (.row e fz k xs)->H' j=I (.row e fz k xs)
 arr:∀j e k xs,j ∉ ids->H j=I (.arr e k xs)->H' j=I (.arr e k xs)
 non:∀j,H j=G->H' j=G
def St.abu(h:St B β stk s a w)(id:Nat):∃β',St B β' stk (s.freeze id) a w/\JS w s.H β β' (s.freeze id).H [id]:=by
 have gen:∀f:AV->AV,(∀c,GQ c=Y->f c=c)->(∀j,j≠id->f (.own j)= .own j)->(∀j z i o,j≠id->f (.ptr j z i o)= .ptr j z i o)->(∀e fz k xs,s.H id=I (.row e fz k xs)->f (.own id)= .sl k xs)->
   (∀c g want x,f c= .gd g want x->∃y,c= .gd g want y)->∀β',Hs B β' (upd (λj=>CI f<|s.H j) id G) w->Kf f w β w β'->s.freeze id={ s.map f with H:=upd (λj=>CI f<|s.H j) id G } ->
   ∃β',St B β' stk (s.freeze id) a w/\JS w s.H β β' (s.freeze id).H [id]:=by
  intro f h1 h2 h3 h4 h5 β' h6 h7 h8;refine⟨β',by rw[h8];exact h.map h1 h5 h7 h6, ?_⟩;rw[h8];refine⟨λc v hc hv=>by have:=h7 c v hv;rwa[h1 c hc]at this,λj v hj hv=>by have:=h7 _ v hv;rwa[h2 j<|by simpa using hj]at this,
   λj z i o v hj hv=>by have:=h7 _ v hv;rwa[h3 j z i o<|by simpa using hj]at this,λj v e fz k xs hj hh hv=> ?_,λj e fz k xs hj hh=> ?_,λj e k xs hj hh=> ?_,λj hh=> ?_⟩
  .obtain rfl:j=id:=by simpa using hj
   have:=h7 _ v hv;rwa[h4 e fz k xs hh]at this
  .show upd (λj=>CI f<|s.H j) id G j=_;rw[BB _ _<|by simpa using hj,hh];rfl
  .show upd (λj=>CI f<|s.H j) id G j=_;rw[BB _ _<|by simpa using hj,hh];rfl
  .show upd (λj=>CI f<|s.H j) id G j=_;by_cases e:j=id
   .subst e;rw[Bf]
   .rw[BB _ _ e,hh];rfl
 have kl:∀j,j≠id->Ag j id=A0:=λj hj=>by rw[← GL,HD];exact hj
 cases hid:s.H id with
 | none=>
  obtain⟨β',h1,h2⟩:=h.hs.kill id;exact gen (kl1 id) (J2 id) (λj hj=>by simp[kl1,kl j hj]) (λj z i o hj=>by simp[kl1,kl j hj]) (λe fz k xs hh=>by rw[hid]at hh;cases hh) (OO id) β' h1 h2 (by simp only[S.freeze,hid];rfl)
 | some ob=>
  cases ob with
  | row e fz k xs=>
   obtain⟨β',h1,h2⟩:=h.hs.freeze hid;exact gen (fz1 id k xs) (kE id k xs) (λj hj=>by simp[fz1,kl j hj]) (λj z i o hj=>by simp[fz1,kl j hj]) (λe fz k xs hh=>by rw[hid]at hh;cases hh;simp[fz1]) (abA id k xs) β' h1 h2 (by simp only[S.freeze,hid];rfl)
  | box e cs=>
   obtain⟨β',h1,h2⟩:=h.hs.kill id;exact gen (kl1 id) (J2 id) (λj hj=>by simp[kl1,kl j hj]) (λj z i o hj=>by simp[kl1,kl j hj]) (λe fz k xs hh=>by rw[hid]at hh;cases hh) (OO id) β' h1 h2 (by simp only[S.freeze,hid];rfl)
  | arr e k xs=>
   obtain⟨β',h1,h2⟩:=h.hs.kill id;exact gen (kl1 id) (J2 id) (λj hj=>by simp[kl1,kl j hj]) (λj z i o hj=>by simp[kl1,kl j hj]) (λe fz k xs hh=>by rw[hid]at hh;cases hh) (OO id) β' h1 h2 (by simp only[S.freeze,hid];rfl)
def JS.nil:JS w H β β H []:=
 ⟨λ_ _ _ h=>h,λ_ _ _ h=>h,λ_ _ _ _ _ _ h=>h,λ_ _ _ _ _ _ h=>by simp at h,λ_ _ _ _ _ _ h=>h,λ_ _ _ _ _ h=>h,λ_ h=>h⟩
def JS.cons{β'':Beta}{H' H'':Hp}{i:Nat}{ids:List Nat}(h:JS w H β β' H' [i])(k:JS w H' β' β'' H'' ids):JS w H β β'' H'' (i::ids):=by
 refine⟨λc v hc hv=>k.imm c v hc<|h.imm c v hc hv,λj v hj hv=>k.own j v (λe=>hj<|by simp[e])<|h.own j v (λe=>hj (by simp at e;simp[e])) hv,
  λj z i o v hj hv=>k.ptr j z i o v (λe=>hj<|by simp[e])<|h.ptr j z i o v (λe=>hj (by simp at e;simp[e])) hv,λj v e fz kk xs hj hh hv=> ?_,
  λj e fz kk xs hj hh=>k.row j e fz kk xs (λe=>hj<|by simp[e])<|h.row j e fz kk xs (λe=>hj (by simp at e;simp[e])) hh,
  λj e kk xs hj hh=>k.arr j e kk xs (λe=>hj<|by simp[e])<|h.arr j e kk xs (λe=>hj (by simp at e;simp[e])) hh,λj hh=>k.non j<|h.non j hh⟩
 by_cases e1:j=i
 .exact k.imm _ _ rfl (h.fr j v e fz kk xs (by simp[e1]) hh hv)
 .have h1:j ∉ [i]:=by simpa using e1
  have h2:j∈ids:=by simpa[e1] using hj
  exact k.fr j v e fz kk xs h2 (h.row j e fz kk xs h1 hh)<|h.own j v h1 hv
def St.L7:∀(ids:List Nat) {s:S} {β:Beta},St B β stk s a w->∃β',St B β' stk (ids.foldl S.freeze s) a w/\JS w s.H β β' (ids.foldl S.freeze s).H ids
 | [],s,β,h=>⟨β,h,JS.nil⟩
 | i::ids,s,β,h=>by
  obtain⟨β1,h1,h2⟩:=h.abu i;obtain⟨β2,h3,h4⟩:=St.L7 ids h1;exact⟨β2,h3,h2.cons h4⟩
def Q(H:Hp)(w:World)(β:Beta)(c:AV)(u:Value):Prop:=(∀v,c= .lit v->RC w β c u)/\ ∀k l,CD H k c=I l->RC w β (.sl k l) u
def Q.lit{v u:Value}(h:Q H w β (.lit v) u):RC w β (.lit v) u:=h.1 v rfl
def axI:AV->Bool
 | .lit _=>Y
 | _=>A0
def Q.all{cs:List AV}{us:List Value}(hl:RL (Q H w β) cs us)(h:cs.all axI=Y):RL (RC w β) cs us:=by
 refine⟨hl.1,λj c u h1 h2=> ?_⟩;have h3:=DK.1 h c<|Ci h1;cases c<;>first|cases h3|skip
 exact(hl.2 j _ u h1 h2).lit
def aug{k:K}{cs:List AV}{x:Tof k}(h:dec H k cs=I x){us:List Value}(hl:RL (Q H w β) cs us):RL (RC w β) (enc k x) us:=by
 unfold dec at h;split at h<;>try (cases h;done)
 all_goals try (cases h;exact Q.all hl rfl)
 .rename_i x';cases hx:CD H K.mixed x' with
  | none=>rw[hx]at h;cases h
  | some l=>
   rw[hx]at h;cases h;obtain⟨u1,_,rfl,g1,hl⟩:=hl.C7;obtain⟨u2,_,rfl,g2,hl⟩:=hl.C7;obtain⟨u3,_,rfl,g3,hl⟩:=hl.C7;obtain⟨u4,_,rfl,g4,hl⟩:=hl.C7;obtain⟨u5,_,rfl,g5,hl⟩:=hl.C7;obtain⟨u6,_,rfl,g6,hl⟩:=hl.C7;rw[hl.of_nil];exact .cons g1.lit (.cons g2.lit<|.cons g3.lit<|.cons g4.lit<|.cons g5.lit<|.cons (g6.2 _ _ hx) .nil)
 .rename_i x' y' z';cases hx:CD H K.note x' with
  | none=>rw[hx]at h;cases h
  | some l=>
   cases hy:CD H K.mark y' with
   | none=>rw[hx,hy]at h;cases h
   | some m=>
    cases hz:CD H K.note z' with
    | none=>rw[hx,hy,hz]at h;cases h
    | some n=>
     rw[hx,hy,hz]at h;cases h;obtain⟨u1,_,rfl,g1,hl⟩:=hl.C7;obtain⟨u2,_,rfl,g2,hl⟩:=hl.C7;obtain⟨u3,_,rfl,g3,hl⟩:=hl.C7;obtain⟨u4,_,rfl,g4,hl⟩:=hl.C7;obtain⟨u5,_,rfl,g5,hl⟩:=hl.C7;obtain⟨u6,_,rfl,g6,hl⟩:=hl.C7;rw[hl.of_nil];exact .cons g1.lit (.cons g2.lit<|.cons g3.lit<|.cons (g4.2 _ _ hx)<|.cons (g5.2 _ _ hy)<|.cons (g6.2 _ _ hz) .nil)
 .rename_i x';cases hx:CD H K.half x' with
  | none=>rw[hx]at h;cases h
  | some l=>
   rw[hx]at h;cases h;obtain⟨u1,_,rfl,g1,hl⟩:=hl.C7;obtain⟨u2,_,rfl,g2,hl⟩:=hl.C7;obtain⟨u3,_,rfl,g3,hl⟩:=hl.C7;obtain⟨u4,_,rfl,g4,hl⟩:=hl.C7;obtain⟨u5,_,rfl,g5,hl⟩:=hl.C7;rw[hl.of_nil];exact .cons g1.lit<|.cons g2.lit<|.cons g3.lit<|.cons g4.lit<|.cons (g5.2 _ _ hx) .nil
def JS.Q{β0:Beta}{H':Hp}{ids:List Nat}(h:JS w H β0 β H' ids){c:AV}{u:Value}(hc:∀j,c= .own j->j∈ids)(hx:RC w β0 c u):VS.Q H w β c u:=by
 refine⟨λv e=>by subst e;exact h.imm _ _ rfl hx,λk l hl=> ?_⟩;unfold CD at hl;split at hl
 .obtain⟨e,rfl⟩:=Hw hl;subst e;exact h.imm _ _ rfl hx
 .cases hl;rw[hx.NN];exact .nil
 .rename_i id _;split at hl
  .rename_i e fz k' xs hid;obtain⟨ek,rfl⟩:=Hw hl;subst ek;exact h.fr _ u e fz k' xs (hc _ rfl) hid hx
  .cases hl
 .cases hl
def aDv{H:Hp}{β:Beta}{k:K}{x0 y:Tof k}{o:Nat}{ys:List AV}{vs us0:List Value}(hd:dec H k (Gw (enc k x0) o ys)=I y)(h0:RL (RC w β) (enc k x0) us0)(hy:RL (VS.Q H w β) ys vs):
  RL (RC w β) (enc k y) (us0.take o++vs++us0.drop (o+vs.length)):=by
 have h1:RL (VS.Q H w β) (enc k x0) us0:=by
  refine⟨h0.1,λj c u a1 a2=> ?_⟩;have hr:=h0.2 j c u a1 a2;have hn:=IU k x0 a1;refine⟨λv e=>by subst e;exact hr,λk' l hl=> ?_⟩;unfold CD at hl;split at hl
  .obtain⟨e,rfl⟩:=Hw hl;subst e;exact hr
  .cases hl;rw[hr.NN];exact .nil
  .cases hn
  .cases hl
 refine aug hd ?_;unfold Gw;rw[← hy.1];exact((h1.take o).append hy).append<|h1.drop _
def apy(hP:P=B.P)(h:St B β stk s a w){t:TypeId}{p x:Operand}{s':S}(hs:IZ P t s (s.ev p) (s.ev x)=I s'):
  ∃w' β',(QJ t (a.eval p)<|a.eval x).run P w= .ok () w'/\St B β' stk s' a w':=by
 generalize hp:s.ev p=cp at hs;unfold IZ at hs;split at hs
 .rename_i id z i o;have hpx:=h.eval p;rw[hp]at hpx;have hpr:RC w β (.ptr id z i o) (a.eval p):=hpx;split at hs
  .rename_i e cs hid;split at hs
   .cases hc:GY (s.ev x) with
    | none=>rw[hc]at hs;cases hs
    | some ys=>
     rw[hc]at hs;simp only[A6]at hs;split at hs
     .rename_i hb;simp only[AD]at hb;cases hs;exact arq hP h hp hid hc (Bm hb.1.1) (DW hb.1.2) (aDp hb.2).1 (aDp hb.2).2
     .cases hs
   .cases hs
  .rename_i e fz k xs hid;cases hc:GY (s.ev x) with
   | none=>rw[hc]at hs;cases hs
   | some ys=>
    rw[hc]at hs;simp only[A6]at hs;split at hs
    .rename_i hb;simp only[AD,CE]at hb;obtain⟨⟨⟨⟨b1,b2⟩,b3⟩,b4⟩,b5⟩:=hb;obtain rfl:=Bm b4;have hni:=aaC b5;cases hd:dec s.H k (Gw (enc k<|xs.getD i<|dfl k) o ys) with
     | none=>rw[hd]at hs;cases hs
     | some y=>
      rw[hd]at hs;simp only[A6,Bs]at hs;subst hs;obtain⟨β',h1,h2⟩:=St.L7 (ys.filterMap Gz) h;have hr:=S3 hc<|h.eval x;have hrQ:RL (VS.Q s.H w β') ys (a.eval x).cells.toList:=⟨hr.1,λj c u g1 g2=>h2.Q (λj' e'=>by
       subst e';exact GO.2 ⟨_,Ci g1,rfl⟩) (hr.2 j c u g1 g2)⟩
      obtain⟨w',g1,g2⟩:=apz (P:=P) (t:=t) (p:=p) h1 (h2.ptr _ _ _ _ _ hni hpr) (h2.row _ _ _ _ _ hni hid) (by have:=hr.1;simpa using this) hr.one (Bm b1) (DW b2) (DW b3)
       (λus0 h0=>aDv hd h0 hrQ)
      exact⟨w',β',g1,g2⟩
    .cases hs
  .rename_i e k xs hid;cases hc:GY (s.ev x) with
   | none=>rw[hc]at hs;cases hs
   | some ys=>
    rw[hc]at hs;simp only[A6]at hs;split at hs
    .rename_i hb;simp only[AD]at hb;obtain⟨⟨⟨b1,b2⟩,b3⟩,b4⟩:=hb;obtain rfl:=Bm b4;cases hd:dec (λ_=>G) k (Gw (enc k<|xs.getD i<|dfl k) o ys) with
     | none=>rw[hd]at hs;cases hs
     | some y=>
      rw[hd]at hs;simp only[A6,Bs]at hs;subst hs;have hr:=S3 hc<|h.eval x;have hrQ:RL (VS.Q (λ_=>G) w β) ys (a.eval x).cells.toList:=⟨hr.1,λj c u g1 g2=>by
       have hx:=hr.2 j c u g1 g2;refine⟨λv e=>by subst e;exact hx,λk' l hl=> ?_⟩;unfold CD at hl;split at hl
       .obtain⟨e,rfl⟩:=Hw hl;subst e;exact hx
       .cases hl;rw[hx.NN];exact .nil
       .cases hl
       .cases hl⟩
      obtain⟨w',g1,g2⟩:=ars (P:=P) (t:=t) (p:=p) h hpr hid (by have:=hr.1;simpa using this) hr.one (Bm b1) (DW b2) (DW b3)
       (λus0 h0=>aDv hd h0 hrQ)
      exact⟨w',β,g1,g2⟩
    .cases hs
  .cases hs
 .cases hs
end
end Go.VS
namespace Go.VS
open Go
section
variable {P:Program} {B:Bb} {β β':Beta} {H:Hp} {stk:List (Array Value)} {s:S} {a:Act} {w w':World}
structure Src (P:Program) (w:World) (β:Beta) (k:K) (ys:List (Tof k)) (v:Value) (news:List Value):Prop where
 len:∀w',(ly v).run P w'= .ok ys.length w'
 cells:∀w',w'.heap=w.heap->(ID (ks k) ys.length v).run P w'= .ok news.toArray w'
 rel:RL (RC w β) (ys.flatMap<|enc k) news
 F4:∀n,n<=ys.length->(ID (ks k) n v).run P w= .ok (news.take<|n * ks k).toArray w
def asd{w w':World}(h:w'.heap=w.heap)(a:Addr):w'.cell? a=w.cell? a:=by simp only[M1,h]
def MC.cellsOf{k:K}{xs:List (Tof k)}{v:Value}(h:MC w β k xs v):(∃a cap,xs=[]/\v= .slice a 0 cap)\/ ∃b f cap,∃us:List Value,v= .slice (I ⟨b,f,G⟩) xs.length cap/\xs.length<=cap/\RL (RC w β) (xs.flatMap<|enc k) us/\ ∀(j:Nat) (u:Value),us[j]? =I u->w.cell? ⟨b,f+j,G⟩=I u:=by
 obtain⟨rfl,a,cap,rfl⟩|⟨b,f,cap,u,rfl,hc,hu,hr⟩:=h
 .exact .inl ⟨a,cap,rfl,rfl⟩
 .have hk:=Hz k;refine .inr ⟨b,f,cap,(B7<|xs.length * ks k).map λq=>u (q / ks k)<|q % ks k,rfl,hc,⟨by rw[KS,DV,List.length_range],λj c v h1 h2=> ?_⟩,λj v h2=> ?_⟩
  .simp only[D7,D6]at h2;obtain⟨q,hq,rfl⟩:=h2;have hlt:j<xs.length * ks k:=by have:=(BO.1 hq).1;simpa using this
   rw[Gj hlt]at hq;cases hq;have hi:j / ks k<xs.length:=by rw[aBb hk];exact hlt
   have hm:j % ks k<ks k:=Oj _ hk;have hx:xs[j / ks k]? =I xs[j / ks k]:=by simp[hi]
   refine hr _ _ _ _ hx ?_;rw[← Xj hx hm,Nat.mul_comm,Nat.div_add_mod];exact h1
  .simp only[D7,D6]at h2;obtain⟨q,hq,rfl⟩:=h2;have hlt:j<xs.length * ks k:=by have:=(BO.1 hq).1;simpa using this
   rw[Gj hlt]at hq;cases hq;have hi:j / ks k<xs.length:=by rw[aBb hk];exact hlt
   have hm:j % ks k<ks k:=Oj _ hk;have:=hu _ _ hi hm;rw[Nat.mul_comm,Nat.div_add_mod]at this;exact this
def aD6(hH:Hs B β H w){k:K}{c:AV}{v:Value}{ys:List (Tof k)}(h:Jy H k c=I ys)(hx:R2 w β c v):∃news,Src P w β k ys v news:=by
 unfold Jy at h;split at h
 .rename_i s;split at h
  .cases h;have hv:v= .string s:=hx;subst hv;have hlen:(BA s).length=s.size:=by rw[BA,DV,Ez];rfl
   refine⟨s.data.toList.map λb=>Value.int .u8 b.toNat,λw'=>by rw[hlen];rfl,λw' _=> ?_, ?_,λn hn=> ?_⟩
   .rw[hlen];simp only[ID,Fj];congr 1;apply Array.ext';have:(s.extract 0 s.size).data=s.data:=by
     simp only[Yj];rw[show s.size=s.data.size from rfl,Array.extract_size]
    rw[this];simp
   .refine⟨by rw[KS,hlen,DV,Ez];simp[ks],λj c u h1 h2=> ?_⟩;simp only[D7,D6]at h2;obtain⟨y,hy,rfl⟩:=h2;have hx:(BA s)[j]? =I (y.toNat:Int):=by simp[BA,hy]
    have:=Xj (k:= .u8) hx (j:=0) aE9;rw[show j * ks .u8+0=j by simp[ks],h1]at this;cases this;exact .lit rfl
   .simp only[ID,Fj];congr 1;apply Array.ext';simp[Yj,ks]
  .cases h
 .rcases(aaB hH h hx).cellsOf with⟨a,cap,rfl,rfl⟩|⟨b,f,cap,us,rfl,hc,hr,hu⟩
  .refine⟨[],λw'=>rfl,λw' _=> ?_, ?_,λn hn=> ?_⟩
   .cases a with
    | none=>rfl
    | some a=>simp[ID,loadCells,loadCellsFrom]
   .exact RL.nil
   .obtain rfl:n=0:=by simpa using hn
    cases a with
    | none=>simp[ID]
    | some a=>simp[ID,loadCells,loadCellsFrom]
  .refine⟨us,λw'=>rfl,λw' hw=> ?_,hr,λn hn=> ?_⟩;have hl:us.length=ys.length * ks k:=by rw[hr.1,KS]
   exact run_firstCells_some w' (ks k) _ ⟨b,f,G⟩ _ cap us hl (λj u hj=>by rw[Gh,asd hw];exact hu j u hj);have hl:us.length=ys.length * ks k:=by rw[hr.1,KS]
   have hle:n * ks k<=ys.length * ks k:=E6 _ hn;exact run_firstCells_some w (ks k) n ⟨b,f,G⟩ _ cap (us.take<|n * ks k) y7 (λj u hj=>by
    rw[Gh];rw[Ge]at hj;split at hj
    .exact hu j u hj
    .cases hj)
def iN{t u ty e:TypeId}{d:TypeDesc}{i:TypeInfo}(ht:P.underlying t=I (.slice e))(hu:P.underlying u=I d)(hd:d= .string\/ ∃e',d= .slice e')(hi:P.info? e=I i){base:Option Addr}{sLen sCap n:Nat}{v:Value}{news:List Value}
  (hl:∀w',(ly v).run P w'= .ok n w')(hf:∀w',w'.heap=w.heap->(ID i.size n v).run P w'= .ok news.toArray w')(hn:sLen+n<=sCap){w':World}
  (hst:∀a,base=I a->(storeCells (a.add<|sLen * i.size) news).run P w= .ok () w')(hno:base=G->w'=w):
  (Lz #[t,u] ty #[.slice base sLen sCap,v]).run P w= .ok (.slice base (sLen+n) sCap) w':=by
 have h1:=hl w;have h2:=hf w rfl;cases base with
 | none=>
  obtain rfl:=hno rfl;obtain rfl|⟨e',rfl⟩:=hd<;>simp[Lz,run_underlying ht,run_underlying hu,sizeOf,typeInfo,hi,h1,hn,h2]
 | some a=>
  have h3:=hst a rfl;obtain rfl|⟨e',rfl⟩:=hd<;>simp[Lz,run_underlying ht,run_underlying hu,sizeOf,typeInfo,hi,h1,hn,h2,h3]
def xn{t u ty e:TypeId}{d:TypeDesc}{i:TypeInfo}{z:Value}(ht:P.underlying t=I (.slice e))(hu:P.underlying u=I d)(hd:d= .string\/ ∃e',d= .slice e')(hi:P.info? e=I i)(hz:i.zero=I z){base:Option Addr}{sLen sCap n:Nat}{v:Value}{news olds:List Value}
  (hl:∀w',(ly v).run P w'= .ok n w')(hf:∀w',w'.heap=w.heap->(ID i.size n v).run P w'= .ok news.toArray w')(hn:sCap<sLen+n)(h63:((sLen+n:Nat):Int)<=9223372036854775807)(LD:lO (sLen+n) sCap * i.bytes<=281474976710656)
  (ho:(ID i.size sLen<|.slice base sLen sCap).run P w.drew= .ok olds.toArray w.drew):
  (Lz #[t,u] ty #[.slice base sLen sCap,v]).run P w= .ok (.slice (I ⟨w.heap.size,0,G⟩) (sLen+n)<|grownCap w (sLen+n) sCap e)
    (w.drew.alloc<|.cells (olds.toArray++news.toArray++Lu z.cells (grownCap w (sLen+n) sCap e - (sLen+n))) e):=by
 have hn':¬(sLen+n<=sCap):=J
 have azJ:¬(9223372036854775807<((sLen:Int)+(n:Int))):=J
 have azK:¬(281474976710656<lO (sLen+n) sCap * i.bytes):=J
 have h1:=hl w;have h2:=hf w.drew rfl;obtain rfl|⟨e',rfl⟩:=hd<;>(simp[Lz,run_underlying ht,run_underlying hu,sizeOf,typeInfo,zeroValue,hi,hz,h1,hn',azJ,azK,Question.forced,h2,ho,newRow,grownCap];try (congr 2;apply Array.ext';simp[C2]))
def Hs.Zn(h:Hs B β H w){id:Nat}{hd0:Value}{n0:Nat}(hβ:β id=I (hd0,n0))(ob:Ob)(hd:Value)(n:Nat)
  (hos:w'.os=w.os)(KA:w'.tape=w.tape)(F3:w'.output=w.output)(FD:w.heap.size<=w'.heap.size)
  (hold:∀j,j<w.heap.size->(∀a,adr hd0=I a->j≠a.block)->w'.heap[j]? =w.heap[j]?)
  (ha:∀a,adr hd=I a->(∃a0,adr hd0=I a0/\a0.block=a.block)\/(w.heap.size<=a.block/\a.block<w'.heap.size))
  (hob:∀β',β' id=I (hd,n)->Kf (kl1 id) w β w' β'->E7 B.P w' β' id ob)(hpk:Pk B.P w w'):
  ∃β',Hs B β' (upd (λj=>CI (kl1 id)<|H j) id<|I ob) w'/\Kf (kl1 id) w β w' β'/\β' id=I (hd,n):=by
 have hM:∀b,MB (β.up id<|I (hd,n)) b->MB β b\/w.heap.size<=b:=by
  rintro b ⟨j,hd',n',a',hj,ha',hb⟩;by_cases e:j=id
  .subst e;rw[Beta.Tp]at hj;cases hj;obtain⟨a0,h1,h2⟩|h1:=ha a' ha'
   .exact .inl ⟨j,hd0,n0,a0,hβ,h1,h2.trans hb⟩
   .exact .inr (hb▸h1.1)
  .rw[Beta.NM _ _ e]at hj;exact .inl ⟨j,hd',n',a',hj,ha',hb⟩
 have hk:Kf (kl1 id) w β w' (β.up id<|I (hd,n)):=Kf.kill (λj e=>BB _ _ e)
  (λb o v hb hc=>by
   rw[TL (w:=w) (w':=w')<|hold b (TT w _ hc) λa0 h0 e=>hb<|.inl ⟨id,hd0,n0,a0,hβ,h0,e.symm⟩];exact hc)
  (λb hb hlt hm=>by
   obtain hm|hm:=hm
   .rcases hM b hm with h1|h1
    .exact hb (.inl h1)
    .omega
   .exact hb<|.inr hm)
 refine⟨β.up id<|I (hd,n), ?_,hk,Bf _ _ _⟩;refine h.U7 (J2 id) hk (λj e=>BB _ _ e)
  (.inr ⟨ob,hd,n,rfl,Bf _ _ _,hob _ (Bf _ _ _) hk,λa h2=> ?_⟩)
  (λj p a e hj h2=>hold _ (h.old _ ⟨j,p.1,p.2,a,hj,h2,rfl⟩).2 λa0 h0 e'=>e<|h.inj _ _ _ _ _ _ hj hβ h2 h0 e') hos KA F3 FD (λb hb hO=>hold b (Gf hb h.size) λa0 h0 e=> ?_) rfl hpk
 .rcases ha a h2 with⟨a0,h3,h4⟩|h3
  .exact .inl ⟨_,a0,hβ,h3,h4⟩
  .exact .inr h3
 .rcases(h.old a0.block ⟨id,hd0,n0,a0,hβ,h0,rfl⟩).1 with h3|h3
  .exact hO (e▸h3)
  .omega
def abf{aD cap bytes:Nat}(h:cap<aD)(hn:aD<=4294967296)(hb:bytes<=256):lO aD cap * bytes<=281474976710656:=by
 refine growslice_fits h ?_;have:aD * bytes<=4294967296 * 256:=lp hn hb;omega
def aEl(z:Array Value)(n:Nat):(Lu z n).size=n * z.size:=by simp[Lu]
def alb(hP:P=B.P)(hH:Hs B β H w){b:Nat}(hb:H b=G){t u ty e:TypeId}{k:K}{d:TypeDesc}{v:Value}{ys:List (Tof k)}{news:List Value}(ht:P.underlying t=I (.slice e))(hu:P.underlying u=I d)(hd:d= .string\/ ∃e',d= .slice e')
  (hz:zok P e k=Y)(hc:P.cellsOf e=ks k)(hby:P.bytesOf e<=256)(hs:Src P w β k ys v news)(hr:ys.length<=4294967296):
  ∃u' w' β',(Lz #[t,u] ty #[.slice G 0 0,v]).run P w= .ok u' w'/\Hs B β' (upd H b<|I<|.row e A0 k ys) w'/\Kp w β w' β'/\RC w' β' (.own b) u':=by
 obtain⟨i,z,hi,hz',hzs,_⟩:=YI hz;rw[W5 hi]at hc;rw[iU hi]at hby;by_cases h0:ys=[]
 .subst h0;have Cg:=iN (P:=P) (w:=w) (ty:=ty) (base:=G) (sLen:=0) (sCap:=0) (n:=0) (v:=v) (news:=news) (w':=w) ht hu hd hi hs.len (by rw[hc];exact hs.cells) J (λa h=>by cases h) (λ_=>rfl);obtain⟨β',h1,h2,h3⟩:=hH.grow (w':=w) hb (.row e A0 k []) (.slice G 0 0) 0 rfl rfl rfl (Ar _) (λ_ _=>rfl) (λa h=>by cases h) (λβ' hβ hk=>⟨_,hβ,.inl ⟨rfl,rfl⟩⟩);exact⟨_,_,β',Cg,h1,h2,.own h3 rfl⟩
 .have R6:0<ys.length:=by cases ys with
   | nil=>exact absurd rfl h0
   | cons y l=>simp
  have Cg:=xn (P:=P) (w:=w) (ty:=ty) (base:=G) (sLen:=0) (sCap:=0) (n:=ys.length) (v:=v) (news:=news) (olds:=[]) ht hu hd hi hz' hs.len (by rw[hc];exact hs.cells) J J (abf J J hby) (by simp[ID]);have hn:news.length=ys.length * ks k:=by rw[hs.rel.1,KS]
  rw[DY]at Cg;have hge:=grownCap_ge w ys.length 0 e;have hm:=grownCap_le_maxLen w ys.length 0 e (CV hr aE9);have hob:∀β',β' b=I (lh (I ⟨w.heap.size,0,G⟩) ys.length<|grownCap w ys.length 0 e,ys.length)->Kp w β (w.drew.alloc<|.cells (([]:List Value).toArray++news.toArray++Lu z.cells (grownCap w ys.length 0 e - ys.length)) e) β'->
    E7 B.P (w.drew.alloc<|.cells (([]:List Value).toArray++news.toArray++Lu z.cells (grownCap w ys.length 0 e - ys.length)) e) β' b (.row e A0 k ys):=by
   intro β' hβ hk;refine⟨_,hβ,.inr ⟨w.heap.size,0,_,_,_,rfl,heap_alloc_new w.drew _,rfl,hge,hm, ?_,λi x j c u a1 a2 a3=> ?_⟩⟩
   .simp only[QY,aEl,hzs,Kn,hn,CO];rw[Yr];have:ys.length * ks k<=grownCap w ys.length 0 e * ks k:=E6 _ hge;omega
   .have hj:j<ks k:=by rw[← EK k x];exact(BO.1 a2).1
    have hi':i<ys.length:=(BO.1 a1).1;have hlt:i * ks k+j<news.length:=by rw[hn];exact Nv hi' hj
    refine hk _ _<|Pw hs.rel i x j c u a1 a2 ?_;rw[Lt y7]at a3;simpa using a3
  obtain⟨β',h1,h2,h3⟩:=hH.grow (w':=w.drew.alloc<|.cells (([]:List Value).toArray++news.toArray++Lu z.cells (grownCap w ys.length 0 e - ys.length)) e) hb (.row e A0 k ys) (.slice (I ⟨w.heap.size,0,G⟩) ys.length<|grownCap w ys.length 0 e) ys.length rfl rfl rfl aE4
   (λj hj=>heap_alloc_old w.drew _ hj) (λa ha=>by cases ha;simp) hob
  exact⟨_,_,β',Cg,h1,h2,.own h3 rfl⟩
def ala(hP:P=B.P)(hH:Hs B β H w){id:Nat}{t u ty e:TypeId}{k:K}{d:TypeDesc}{v hd:Value}{xs ys:List (Tof k)}{news:List Value}(hid:H id=I (.row e A0 k xs))(hb:RC w β (.own id) hd)
  (ht:P.underlying t=I (.slice e))(hu:P.underlying u=I d)(hd':d= .string\/ ∃e',d= .slice e')
  (hz:zok P e k=Y)(hc:P.cellsOf e=ks k)(hby:P.bytesOf e<=256)(hs:Src P w β k ys v news)(hr:xs.length+ys.length<=4294967296):
  ∃u' w' β',(Lz #[t,u] ty #[hd,v]).run P w= .ok u' w'/\Hs B β' (upd (λj=>CI (kl1 id)<|H j) id<|I<|.row e A0 k<|xs++ys) w'/\Kf (kl1 id) w β w' β'/\RC w' β' (.own id) u':=by
 obtain⟨i,z,hi,hz',hzs,_⟩:=YI hz;rw[W5 hi]at hc;rw[iU hi]at hby;obtain⟨hd0,k1,k2⟩:=hH.EI id _ hid;cases hb with
 | own k3 k4=>
 rw[k1]at k3;cases k3;have hn:news.length=ys.length * ks k:=by rw[hs.rel.1,KS]
 have hkp:=Hz k;have grow:∀(base:Option Addr) (cap:Nat) (olds:List Value),hd= .slice base xs.length cap->cap<xs.length+ys.length->RL (RC w β) (xs.flatMap<|enc k) olds->
   (ID i.size xs.length<|.slice base xs.length cap).run P w.drew= .ok olds.toArray w.drew->
   ∃u' w' β',(Lz #[t,u] ty #[hd,v]).run P w= .ok u' w'/\Hs B β' (upd (λj=>CI (kl1 id)<|H j) id<|I<|.row e A0 k<|xs++ys) w'/\Kf (kl1 id) w β w' β'/\RC w' β' (.own id) u':=by
  intro base cap olds he Hj hold hfc;have Cg:=xn (P:=P) (w:=w) (ty:=ty) (base:=base) (sLen:=xs.length) (sCap:=cap) (n:=ys.length) (v:=v) (news:=news) (olds:=olds) ht hu hd' hi hz' hs.len (by rw[hc];exact hs.cells) Hj J (abf Hj hr hby) hfc;have hge:=grownCap_ge w (xs.length+ys.length) cap e;have hm:=grownCap_le_maxLen w (xs.length+ys.length) cap e (CV hr aE9);have ho:olds.length=xs.length * ks k:=by rw[hold.1,KS]
  have It:RL (RC w β) ((xs++ys).flatMap<|enc k) (olds++news):=by rw[lW];exact hold.append hs.rel
  have hob:∀β',β' id=I (lh (I ⟨w.heap.size,0,G⟩) (xs.length+ys.length)<|grownCap w (xs.length+ys.length) cap e,xs.length+ys.length)->Kf (kl1 id) w β (w.drew.alloc<|.cells (olds.toArray++news.toArray++Lu z.cells (grownCap w (xs.length+ys.length) cap e - (xs.length+ys.length))) e) β'->
    E7 B.P (w.drew.alloc<|.cells (olds.toArray++news.toArray++Lu z.cells (grownCap w (xs.length+ys.length) cap e - (xs.length+ys.length))) e) β' id (.row e A0 k<|xs++ys):=by
   intro β' hβ hk;refine⟨_,by rw[hβ,Au],.inr ⟨w.heap.size,0,_,_,_,by rw[Au],heap_alloc_new w.drew _,rfl,by rw[Au];exact hge,hm, ?_,λi x j c u a1 a2 a3=> ?_⟩⟩
   .simp only[QY,aEl,hzs,Kn,hn,ho];rw[Yr];have h1:(xs.length+ys.length) * ks k<=grownCap w (xs.length+ys.length) cap e * ks k:=E6 _ hge;rw[EG]at h1 ⊢;omega
   .have hj:j<ks k:=by rw[← EK k x];exact(BO.1 a2).1
    have hi':i<xs.length+ys.length:=by have:=(BO.1 a1).1;simpa using this
    have hlt:i * ks k+j<(xs.length+ys.length) * ks k:=Nv hi' hj;rw[EG]at hlt;have h2:=hk _ _ (Pw It i x j c u a1 a2 (by
     rw[Lt y7]at a3;simpa using a3))
    rwa[J2 id c<|IU k x a2]at h2
  obtain⟨β',h1,h2,h3⟩:=hH.Zn (hpk:=Pk.old λj hj=>by first|exact heap_alloc_old w.drew _ hj|exact heap_alloc_old w.drew _ _ hj) (w':=w.drew.alloc<|.cells (olds.toArray++news.toArray++Lu z.cells (grownCap w (xs.length+ys.length) cap e - (xs.length+ys.length))) e) k1 (.row e A0 k<|xs++ys) (.slice (I ⟨w.heap.size,0,G⟩) (xs.length+ys.length)<|grownCap w (xs.length+ys.length) cap e) (xs.length+ys.length) rfl rfl rfl aE4
   (λj hj _=>heap_alloc_old w.drew _ hj) (λa ha=>by cases ha;right;simp) hob
  exact⟨_,_,β',by rw[he];exact Cg,h1,h2,.own h3 rfl⟩
 obtain⟨rfl,rfl⟩|⟨b,f,cap,us,fr,rfl,hh,hfr,hnc,hcm,hsz,Cl⟩:=k2
 .by_cases h0:ys=[]
  .subst h0;have Cg:=iN (P:=P) (w:=w) (ty:=ty) (base:=G) (sLen:=0) (sCap:=0) (n:=0) (v:=v) (news:=news) (w':=w) ht hu hd' hi hs.len (by rw[hc];exact hs.cells) J (λa h=>by cases h) (λ_=>rfl);obtain⟨β',h1,h2,h3⟩:=hH.Zn (hpk:=Pk.refl _ _) (w':=w) k1 (.row e A0 k<|[]++[]) (.slice G 0 0) 0 rfl rfl rfl (Ar _) (λ_ _ _=>rfl) (λa h=>by cases h) (λβ' hβ hk=>⟨_,hβ,.inl ⟨rfl,rfl⟩⟩);exact⟨_,_,β',Cg,h1,h2,.own h3 rfl⟩
  .have R6:0<ys.length:=by cases ys with
    | nil=>exact absurd rfl h0
    | cons y l=>simp
   exact grow G 0 [] rfl y7 RL.nil (by simp[ID])
 .have hsl:MC w β k xs (.slice (I ⟨b,f,G⟩) xs.length cap):=FV.cells (e:=e) (fz:=false)<|.inr ⟨b,f,cap,us,fr,rfl,hh,hfr,hnc,hcm,hsz,Cl⟩;by_cases LD:xs.length+ys.length<=cap
  .have Hj:(xs.length+ys.length) * ks k<=cap * ks k:=E6 _ LD;rw[EG]at Hj;have DA:∀u∈news,u.oneCell'=Y:=hs.rel.one;have hst:=WZ (P:=P) b (f+xs.length * ks k) e fr news 0 us w hh (by rw[hn];omega) (.inl (by rw[hfr];rfl)) DA;simp only[Hh]at hst;have Cg:=iN (P:=P) (w:=w) (ty:=ty) (base:=I ⟨b,f,G⟩) (sLen:=xs.length) (sCap:=cap) (n:=ys.length) (v:=v) (news:=news) ht hu hd' hi hs.len (by rw[hc];exact hs.cells) LD
    (λa h=>by cases h;rw[hc,Gh];exact hst) (λh=>by cases h)
   have hob:∀β',β' id=I (lh (I ⟨b,f,G⟩) (xs.length+ys.length) cap,xs.length+ys.length)->Kf (kl1 id) w β (w.setRow b (us.toList.take (f+xs.length * ks k)++news++us.toList.drop (f+xs.length * ks k+news.length)).toArray) β'->
     E7 B.P (w.setRow b (us.toList.take (f+xs.length * ks k)++news++us.toList.drop (f+xs.length * ks k+news.length)).toArray) β' id (.row e A0 k<|xs++ys):=by
    intro β' hβ hk;have FD:(us.toList.take (f+xs.length * ks k)++news++us.toList.drop (f+xs.length * ks k+news.length)).toArray.size=us.size:=by
     simp only[Kn,Au,Dh,EF,Ez];omega
    refine⟨_,by rw[hβ,Au],.inr ⟨b,f,cap,_,fr,by rw[Au],setRow_heap w b us _ e _ hh,by rw[hfr];rfl,by rw[Au];exact LD,hcm,by rw[FD];exact hsz,λi x j c u a1 a2 a3=> ?_⟩⟩;have hj:j<ks k:=by rw[← EK k x];exact(BO.1 a2).1
    have hi':i<xs.length+ys.length:=by have:=(BO.1 a1).1;simpa using this
    have a3':(us.toList.take (f+xs.length * ks k)++news++us.toList.drop (f+xs.length * ks k+news.length))[f+(i * ks k+j)]? =I u:=by simpa using a3
    have hsp:f+xs.length * ks k+news.length<=us.toList.length   :=by
     have:us.toList.length=us.size:=Ez;rw[hn];omega
    rw[YS _ _ _ hsp]at a3';have h2:RC w β c u:=by
     by_cases hx:i<xs.length
     .have h3:=Nv hx hj;rw[A8 J]at a3';rw[IE hx]at a1;exact Cl i x j c u a1 a2 (by simpa using a3')
     .have h3:xs.length * ks k<=i * ks k:=E6 _ J;have h4:i * ks k+j<(xs.length+ys.length) * ks k:=Nv hi' hj;rw[EG]at h4;rw[A5 J]at a3';rw[FO J]at a1;refine Pw hs.rel (i - xs.length) x j c u a1 a2 ?_;rw[← a3',Yr];congr 1;omega
    have h5:=hk _ _ h2;rwa[J2 id c<|IU k x a2]at h5
   obtain⟨β',h1,h2,h3⟩:=hH.Zn (hpk:=Pk.setRow hh λhn=>by rw[← hP,atb hz]at hn;cases hn) (w':=w.setRow b (us.toList.take (f+xs.length * ks k)++news++us.toList.drop (f+xs.length * ks k+news.length)).toArray) k1 (.row e A0 k<|xs++ys) (.slice (I ⟨b,f,G⟩) (xs.length+ys.length) cap) (xs.length+ys.length) rfl rfl rfl aE4
    (λj hj hne=>setRow_other w b j _ λe=>hne _ rfl e) (λa ha=>by cases ha;exact .inl ⟨_,rfl,rfl⟩) hob
   exact⟨_,_,β',Cg,h1,h2,.own h3 rfl⟩
  .rcases hsl.cellsOf with⟨a,aR,rfl,he⟩|⟨b',f',aR,us',he,_,JV,hcl⟩
   .cases he;exact grow (I ⟨b,f,G⟩) cap [] rfl J RL.nil (by simp[ID,loadCells,loadCellsFrom])
   .cases he;exact grow (I ⟨b,f,G⟩) cap us' rfl J JV (run_firstCells_some w.drew i.size _ ⟨b,f,G⟩ _ cap us' (by rw[hc,JV.1,KS]) (λj u hj=>by rw[Gh];exact hcl j u hj))
end
end Go.VS
namespace Go.VS
open Go
section
variable {P:Program} {B:Bb} {β β':Beta} {H:Hp} {stk:List (Array Value)} {s:S} {a:Act} {w w':World} {kd:TypeId->Option K}
def aC1{k:K}{c:AV}{ys:List (Tof k)}(h:Jy H k c=I ys):∀g w x,c≠ .gd g w x:=by
 intro g w x e;subst e;simp[Jy,CD]at h
def avu(s:S)(id:Nat)(ob:Option Ob):s.EH id ob={ s with H:=upd s.H id ob } :=rfl
def aqS(hP:P=B.P)(h:St B β stk s a w){b:Nat}(hb:s.H b=G){t u ty:TypeId}{x y:Operand}{q:Bool}{v:AV}{s':S}(hs:Kb P kd t u s b (s.ev x) (s.ev y)=I (q,v,s'))(hq:q=Y):
  ∃u' w' β',(Lz #[t,u] ty #[a.eval x,a.eval y]).run P w= .ok u' w'/\St B β' stk s' a w'/\R2 w' β' v u'/\s'.gs=s.gs/\s'.n=s.n/\s'.pins=s.pins:=by
 subst hq;unfold Kb at hs;cases he:IW P t with
 | none=>rw[he]at hs;cases hs
 | some e=>
 rw[he]at hs;simp only[A6]at hs;cases hk:kd e with
 | none=>rw[hk]at hs;cases hs
 | some k=>
 rw[hk]at hs;simp only[A6]at hs;cases hy:Jy s.H k (s.ev y) with
 | none=>rw[hy]at hs;cases hs
 | some ys=>
 rw[hy]at hs;simp only[A6]at hs;have hy2:R2 w β (s.ev y) (a.eval y):=(h.eval y).of<|aC1 hy;obtain⟨news,KG⟩:=aD6 (P:=P) h.hs hy hy2;have ht:=dz he;have conds:∀c:Bool,(Ag (P.cellsOf e) (ks k)&&Dx (P.bytesOf e) 256&&zok P e k&&c)=Y->P.cellsOf e=ks k/\P.bytesOf e<=256/\zok P e k=Y/\c=Y:=by
  intro c hc;simp only[AD]at hc;exact⟨Bm hc.1.1.1,DW hc.1.1.2,hc.1.2,hc.2⟩
 have ud:(match P.underlying u with|some .string=>Y|some (.slice _)=>Y|_=>A0)=Y->∃d,P.underlying u=I d/\(d= .string\/ ∃e',d= .slice e'):=by
  intro hc;split at hc
  .rename_i hu;exact⟨_,hu,.inl rfl⟩
  .rename_i e' hu;exact⟨_,hu,.inr ⟨e',rfl⟩⟩
  .cases hc
 have hx:=h.eval x;split at hs
 .rename_i cx hc hcx;rw[hcx]at hx;obtain⟨c1,c2,c3,c4⟩:=conds _ hc;obtain⟨d,hu,hd⟩:=ud c4;simp only[Bs,CK]at hs;obtain⟨hr,rfl,rfl⟩:=hs;simp only[Ac,decide_eq_true_eq]at hr;obtain⟨u',w',β',g1,g2,g3,g4⟩:=alb (ty:=ty) hP h.hs hb ht hu hd c3 c1 c2 KG hr;rw[hx.lit];exact⟨u',w',β',g1,h.keep g3 g2,g4,rfl,rfl,rfl⟩
 .rename_i cx id hc hcx;rw[hcx]at hx;have hx:RC w β (.own id) (a.eval x):=hx;obtain⟨c1,c2,c3,c4⟩:=conds _ hc;obtain⟨d,hu,hd⟩:=ud c4;split at hs
  .rename_i e' k' xs hid hne;split at hs
   .rename_i hee;obtain rfl:=Bm hee;cases Zz:Ii k' k xs with
    | none=>rw[Zz]at hs;cases hs
    | some xs'=>
     rw[Zz]at hs;obtain⟨ek,rfl⟩:=Hw Zz;subst ek;simp only[A6,Bs,CK]at hs;obtain⟨hr,rfl,rfl⟩:=hs;simp only[Ac,decide_eq_true_eq]at hr;obtain⟨u',w',β',g1,g2,g3,g4⟩:=ala (ty:=ty) hP h.hs hid hx ht hu hd c3 c1 c2 KG hr;exact⟨u',w',β',g1,h.map (J2 id) (OO id) g3 g2,g4,rfl,rfl,rfl⟩
   .cases hs
  .cases hs
 .cases hs
def asb(hP:P=B.P)(h:St B β stk s a w){t u ty:TypeId}{x y:Operand}{v:AV}{s':S}(hs:Kj P t s (s.ev x) (s.ev y)=I (v,s')):
  ∃u' w' β',(lz #[t,u] ty #[a.eval x,a.eval y]).run P w= .ok u' w'/\St B β' stk s' a w'/\R2 w' β' v u'/\s'.gs=s.gs/\s'.n=s.n/\s'.pins=s.pins:=by
 unfold Kj at hs;have hx:=h.eval x;split at hs
 .rename_i cx id hcx;rw[hcx]at hx;have hx:RC w β (.own id) (a.eval x):=hx;split at hs
  .rename_i e fz k xs hid hne;cases he:IW P t with
   | none=>rw[he]at hs;cases hs
   | some e'=>
    rw[he]at hs;simp only[A6]at hs;split at hs
    .rename_i hc;have hc:=Bm hc;cases hy:Jy s.H k (s.ev y) with
     | none=>rw[hy]at hs;cases hs
     | some ys=>
      rw[hy]at hs;simp only[A6,Bs,CK]at hs;obtain⟨rfl,rfl⟩:=hs;have hy2:R2 w β (s.ev y) (a.eval y):=(h.eval y).of<|aC1 hy;obtain⟨news,KG⟩:=aD6 (P:=P) h.hs hy hy2;have ht:=dz he;have hk:=Hz k;have hn:news.length=ys.length * ks k:=by rw[KG.rel.1,KS]
      obtain⟨hd,k1,k2⟩:=h.hs.EI id _ hid;generalize hg:a.eval x=vx at hx;cases hx with
      | own k3 k4=>
      rw[k1]at k3;cases k3;have hfc:=KG.F4 (F1 ys.length xs.length)<|Nat.min_le_left _ _;have hlen:=KG.len w;obtain⟨rfl,rfl⟩|⟨b,f,cap,us,fr,rfl,hh,hfr,hnc,hcm,hsz,Cl⟩:=k2
      .refine⟨.int .i64 (F1 ys.length 0:Nat),w,β, ?_, ?_,rfl,rfl,rfl,rfl⟩
       .have hfc:=KG.F4 0<|D1 _;simp[lz,run_underlying ht,hlen,KY (P:=P) (w:=w) (t:=e') J,hc,hfc,goInt]
       .have:s.EH id (I<|.row e fz k<|ys.take ([]:List (Tof k)).length++([]:List (Tof k)).drop ys.length)=s:=by
         simp only[CO,List.take_zero,List.drop_nil,CJ,avu];rw[← hid];have:upd s.H id (s.H id)=s.H:=funext λj=>by
          by_cases e:j=id
          .subst e;rw[Bf]
          .rw[BB _ _ e]
         rw[this]
        rw[this];exact h
      .have oM:F1 ys.length xs.length<=xs.length:=Nat.min_le_right _ _;have ayQ:F1 ys.length xs.length<=ys.length:=Nat.min_le_left _ _;have h1:F1 ys.length xs.length * ks k<=xs.length * ks k:=E6 _ oM;have h2:xs.length * ks k<=cap * ks k:=E6 _ hnc;have h3:F1 ys.length xs.length * ks k<=ys.length * ks k:=E6 _ ayQ;have DA:∀u∈news.take (F1 ys.length xs.length * ks k),u.oneCell'=Y:=λu hu=>KG.rel.one u<|IF hu;have htl:(news.take<|F1 ys.length xs.length * ks k).length=F1 ys.length xs.length * ks k:=by rw[Dh,hn];omega
       have hst:=WZ (P:=P) b f e fr (news.take<|F1 ys.length xs.length * ks k) 0 us w hh (by rw[htl];omega) (by
        subst hfr;cases fz
        .exact .inl rfl
        .exact .inr<|Ar _) DA
       simp only[Hh]at hst;obtain⟨g1,g2⟩:=h.hs.setRow (hpk:=Pk.setRow hh λ_ a' hu=>by
        have hus:us.toList.length=us.size:=Ez;refine Xi (ys:=news.take<|F1 ys.length xs.length * ks k) (by rw[htl];omega) (by simpa using hu) λe1 e2=>kq Cl (λe3=>e2 ?_) e1 hu;subst e3;exact Dw (by rw[htl];simp)) k1 rfl (us.toList.take f++news.take (F1 ys.length xs.length * ks k)++us.toList.drop (f+(news.take<|F1 ys.length xs.length * ks k).length)).toArray (.row e fz k<|ys.take xs.length++xs.drop ys.length) (λhkp=>by
        have FD:(us.toList.take f++news.take (F1 ys.length xs.length * ks k)++us.toList.drop (f+(news.take<|F1 ys.length xs.length * ks k).length)).toArray.size=us.size:=by
         simp only[Kn,Au,EF,htl,Dh,Ez]at *;omega
        have hll:(ys.take xs.length++xs.drop ys.length).length=xs.length:=by simp;omega
        refine⟨_,by rw[k1,hll],.inr ⟨b,f,cap,_,fr,by rw[hll],setRow_heap w b us _ e _ hh,by rw[FD];exact hfr,by rw[hll];exact hnc,hcm,by rw[FD];exact hsz,λi x j c u a1 a2 a3=> ?_⟩⟩;have hj:j<ks k:=by rw[← EK k x];exact(BO.1 a2).1
        have hi':i<xs.length:=by have:=(BO.1 a1).1;rwa[hll]at this
        have a3':(us.toList.take f++news.take (F1 ys.length xs.length * ks k)++us.toList.drop (f+(news.take<|F1 ys.length xs.length * ks k).length))[f+(i * ks k+j)]? =I u:=by simpa using a3
        have hsp:f+(news.take<|F1 ys.length xs.length * ks k).length<=us.toList.length:=by
         have:us.toList.length=us.size:=Ez;rw[htl];omega
        rw[YS _ _ _ hsp,htl]at a3';refine hkp _ _ ?_;by_cases hy':i<ys.length
        .have hm:i<F1 ys.length xs.length:=Nat.lt_min.2 ⟨hy',hi'⟩;have hm2:=Nv hm hj;rw[A5 J,Ge,A5 J]at a3';rw[IE y7,Ge,A5 hi']at a1;refine Pw KG.rel i x j c u a1 a2 ?_;rw[← a3'];congr 1;omega
        .have hm:F1 ys.length xs.length=ys.length:=QZ J;have hm2:ys.length * ks k<=i * ks k:=E6 _ J;rw[hm]at a3';rw[A8 J]at a3';have e1:(ys.take xs.length).length=ys.length:=by simp;omega
         rw[FO J,e1,Hd]at a1;have a1':xs[i]? =I x:=by rw[← a1];congr 1;omega
         exact Cl i x j c u a1' a2<|by simpa using a3')
       refine⟨.int .i64 (F1 ys.length xs.length:Nat),_,β, ?_,h.keep g2 g1,rfl,rfl,rfl,rfl⟩;simp only[lz,TD,Yg,aBQ,Ef,run_underlying ht,F2,hlen,KY (P:=P) (w:=w) (t:=e') J,hc,hfc,Fj,hst,goInt]
    .cases hs
  .cases hs
 .cases hs
def FV.cut{e:TypeId}{fz:Bool}{k:K}{xs ys:List (Tof k)}{bb f cap l h:Nat}(hy:ys=(xs.take h).drop l)(hlh:l<=h)(hh:h<=xs.length)(hx:FV w β e fz k xs (.slice (I ⟨bb,f,G⟩) xs.length cap)):
  FV w β e fz k ys (.slice (if cap=l then I ⟨bb,f,G⟩ else I ⟨bb,f+l * ks k,G⟩) (h - l)<|cap - l):=by
 obtain⟨h1,_⟩|⟨b',f',aR,us,fr,h1,hhp,hfr,hnc,hcm,hsz,Cl⟩:=hx
 .cases h1
 .cases h1;have hyl:ys.length=h - l:=by subst hy;simp;omega
  by_cases he:cap=l
  .rw[A5 he];obtain rfl:ys=[]:=Dw J;refine .inr ⟨bb,f,cap - l,us,fr,by rw[hyl],hhp,hfr,by simp,J, ?_,λi x j c u a1=>by simp at a1⟩;have:(cap - l) * ks k<=cap * ks k:=E6 _ J;omega
  .rw[A8 he];refine .inr ⟨bb,f+l * ks k,cap - l,us,fr,by rw[hyl],hhp,hfr,J,J, ?_,λi x j c u a1 a2 a3=> ?_⟩
   .have:(cap - l) * ks k=cap * ks k - l * ks k:=Yr _ _ _;have:l * ks k<=cap * ks k:=E6 _ J;omega
   .subst hy;rw[Hd,Ge]at a1;split at a1
    .refine Cl (l+i) x j c u a1 a2 ?_;rw[← a3,EG];congr 1;omega
    .cases a1
def an5(h:St B β stk s a w){id:Nat}{x:Operand}{t:TypeId}{lo hi:Option Operand}{z:Bool}(hx:s.ev x= .own id)(hf:J0 P s.H t (.own id)=Y){q:Bool}{v:AV}{s':S}
  (hs:KX s id z (lo.map s.ev) (hi.map s.ev)=I (q,v,s'))(hq:q=Y):
  ∃u' β',(QI t (a.eval x) (lo.map a.eval) (hi.map a.eval) G).run P w= .ok u' w/\St B β' stk s' a w/\R2 w β' v u'/\s'.gs=s.gs/\s'.n=s.n/\s'.pins=s.pins:=by
 subst hq;have hxv:=h.eval x;rw[hx]at hxv;have hxv:RC w β (.own id) (a.eval x):=hxv;unfold KX at hs;split at hs
 .rename_i e fz k xs hid;obtain⟨e',hu,hk⟩:∃e',P.underlying t=I (.slice e')/\P.cellsOf e'=ks k:=by
   unfold J0 at hf;split at hf<;>simp_all
  have hkp:=Hz k;obtain⟨hd,k1,k2⟩:=h.hs.EI id _ hid;obtain⟨a0,cap,hv,Hj⟩:=k2.cells.len;have MF:a.eval x=hd:=by
   generalize a.eval x=vx at hxv;cases hxv with
   | own k3 k4=>rw[k1]at k3;cases k3;rfl
  cases hc:JG (lo.map s.ev) (hi.map s.ev) xs.length with
  | none=>rw[hc]at hs;cases hs
  | some r=>
   obtain⟨c,l,hh⟩:=r;rw[hc]at hs;simp only[A6]at hs;have main:c=Y->∃bs,(QI t (a.eval x) (lo.map a.eval) (hi.map a.eval) G).run P w= .ok bs w/\0<=l/\l<=hh/\hh<=(j8 xs:Int)/\bs= .slice (if cap=l.toNat then a0 else a0.map (·.add (l.toNat * ks k))) (hh.toNat - l.toNat) (cap - l.toNat):=by
    intro hct;subst hct;obtain⟨hb,g1,g2,g3⟩:=WX (P:=P) (w:=w) (β:=β) (tm:=BY a) h.eval hc Y Hj;refine⟨_, ?_,g1,g2,g3,rfl⟩;rw[MF,hv,ir hu J hb,hk]
   have acX:c=Y->Ij (lo.map s.ev) (hi.map s.ev) l hh xs=(xs.take hh.toNat).drop l.toNat:=by
    intro hct;subst hct;exact mO hc
   split at hs
   .simp only[Bs,CK]at hs;obtain⟨hct,rfl,rfl⟩:=hs;obtain⟨bs,Cg,g1,g2,g3,hbs⟩:=main hct;have hys:=acX hct;have hlen:(Ij (lo.map s.ev) (hi.map s.ev) l hh xs).length=hh.toNat - l.toNat:=by rw[hys];simp;omega
    have azl:Qq bs=Y:=by rw[hbs];rfl
    obtain⟨β',q1,q2,q3⟩:=h.hs.Zn (hpk:=Pk.refl _ _) (w':=w) k1 (.row e fz k<|Ij (lo.map s.ev) (hi.map s.ev) l hh xs) bs (hh.toNat - l.toNat) rfl rfl rfl (Ar _) (λ_ _ _=>rfl) (λa' ha'=>by
      left;rw[hbs]at ha';cases a0 with
      | none=>exfalso;split at ha'<;>cases ha'
      | some aa=>
       refine⟨aa,by rw[hv];rfl, ?_⟩;split at ha'
       .cases ha';rfl
       .cases ha';obtain⟨e1,_⟩|⟨b',f',aR,us,fr,e1,_⟩:=k2
        .rw[hv]at e1;cases e1
        .rw[hv]at e1;simp only[Value.slice.injEq,Bs]at e1;obtain⟨rfl,_⟩:=e1;simp[Gh])
     (λβ' hβ hkf=>by
      refine⟨bs,by rw[hβ,hlen], ?_⟩;rw[hbs];obtain⟨e1,e2⟩|⟨b',f',aR,us,fr,e1,hhp,hfr,hnc,hcm,hsz,Cl⟩:=k2
      .rw[hv]at e1;simp only[Value.slice.injEq]at e1;obtain⟨rfl,_,rfl⟩:=e1;subst e2;refine .inl ⟨?_,by rw[hys];simp⟩;have:hh.toNat=0:=by simp at g3;omega
       have:l.toNat=0:=J
       simp[*]
      .rw[hv]at e1;cases e1;have ayF:FV w β' e fz k xs (.slice (I ⟨b',f',G⟩) xs.length cap):= .inr ⟨b',f',cap,us,fr,rfl,hhp,hfr,hnc,hcm,hsz,λi x j c u a1 a2 a3=>by
        have:=hkf _ _<|Cl i x j c u a1 a2 a3;rwa[J2 id c<|IU k x a2]at this⟩
       have:=ayF.cut (l:=l.toNat) (h:=hh.toNat) hys J J;simpa[Gh] using this)
    refine⟨bs,β',Cg,h.map (J2 id) (OO id) q2 q1, ?_,rfl,rfl,rfl⟩;exact RC.own q3 azl
   .cases hs
   .simp only[Bs,CK]at hs;obtain⟨hct,rfl,rfl⟩:=hs;obtain⟨bs,Cg,g1,g2,g3,hbs⟩:=main hct;have hys:=acX hct;obtain⟨β',q1,q2⟩:=h.abu id;have hsl:=q2.fr id _ e fz k xs aE4 hid hxv;refine⟨bs,β',Cg,q1, ?_, ?_, ?_, ?_⟩
    .show RC w β' (.sl k _) bs;rw[MF,hv]at hsl;rw[hbs];by_cases hxs:xs=[]
     .subst hxs;have e1:hh.toNat - l.toNat=0:=by simp at g3;omega
      rw[e1,hys];simp only[List.take_nil,List.drop_nil];exact .nil
     .have ha:∃bb f,a0=I ⟨bb,f,G⟩:=by
       cases hsl with
       | nil=>exact absurd rfl hxs
       | sl=>exact⟨_,_,rfl⟩
      obtain⟨bb,f,rfl⟩:=ha;have:=RC.cut (l:=l.toNat) (h:=hh.toNat) hys J J hsl Hj;simpa[Gh] using this
    .simp only[S.freeze,hid];rfl
    .simp only[S.freeze,hid];rfl
    .simp only[S.freeze,hid];rfl
 .cases hs
end
end Go.VS
namespace Go.VS
open Go
section
variable {B:Bb} {β β':Beta} {H:Hp} {stk:List (Array Value)} {s s':S} {a:Act} {w w':World} {C:Cx}
def Js(B:Bb)(stk:List (Array Value))(a:Act)(d:Option Nat)(s':S)(K:Act->World->Prop):Prop:=∀β' u w',St B β' stk s' (a.put d u) w'->K (a.put d u) w'
def Wd{o:Oper}{K:Act->World->Prop}{Q:Exit->Act->World->Prop}{u:Value}(h:(execOp a.eval o).run B.P w= .ok (.value u) w')(hk:K (a.put o.dst u) w'):o.wp B.P a w K Q:=by
 unfold Oper.wp;rw[h];exact hk
def auq(h:St B β stk s a w){b:Nat}{v:AV}{os:List Ob}{o:Oper}(hd:s.has o.dst=Y)(hg:Good B β s.H w b v os ((execOp a.eval o).run B.P w)){K:Act->World->Prop}{Q:Exit->Act->World->Prop}
  (hK:Js B stk a o.dst ({ s with H:=Eo s.H b os }.put o.dst v) K):o.wp B.P a w K Q:=by
 obtain⟨u,w',β',h1,h2,h3,h4⟩:=hg;refine Wd h1<|hK β' _ _ ?_;have h5:=h.keep h3 h2;refine h5.put hd (RT.HF h4) (λg want x e=> ?_);rw[e]at h4;exact absurd h4<|by simp[R2,R1]
def QE(h:St B β stk s a w){d:Option Nat}(hd:s.has d=Y){v:AV}{u:Value}(hv:R2 w β v u):St B β stk (s.put d v) (a.put d u) w:=
 h.put hd (RT.HF hv) (λg want x e=>by rw[e]at hv;exact absurd hv<|by simp[R2,R1])
def QF{s s':S}(h1:s'.gs=s.gs)(h2:s'.n=s.n)(h3:s'.pins=s.pins)(d:Option Nat):s'.has d=s.has d:=by
 cases d with
 | none=>rfl
 | some d=>simp only[S.has,h1,h2,h3]
def aCB(hP:C.P=B.P)(h:St B β stk s a w){b:Nat}(hb:s.H b=G){o:Oper}(hd:s.has o.dst=Y){K:Act->World->Prop}{Q:Exit->Act->World->Prop}
  (he:(match CA C.P C.kd s.ev s.H b o.op with
   | some (q,v,os)=>if q then I ({ s with H:=Eo s.H b os }.put o.dst v) else G
   | none=>G)=I s')(hK:Js B stk a o.dst s' K):o.wp B.P a w K Q:=by
 split at he
 .rename_i q v os hp;split at he
  .rename_i hq;cases he;have hg:=arX (P:=C.P) hP h.eval (λ_=>rfl) (λ_=>rfl) h.hs hb hp hq;rw[hP]at hg;exact auq h hd hg hK
  .cases he
 .cases he
def fj:∀(ids:List Nat) (s:S),(ids.foldl S.freeze s).gs=s.gs/\(ids.foldl S.freeze s).n=s.n/\(ids.foldl S.freeze s).pins=s.pins/\(ids.foldl S.freeze s).nid=s.nid
 | [],s=>⟨rfl,rfl,rfl,rfl⟩
 | i::ids,s=>by
  obtain⟨h1,h2,h3,h4⟩:=fj ids<|s.freeze i;have:(s.freeze i).gs=s.gs/\(s.freeze i).n=s.n/\(s.freeze i).pins=s.pins/\(s.freeze i).nid=s.nid:=by
   unfold S.freeze;split<;>exact⟨rfl,rfl,rfl,rfl⟩
  exact⟨h1.trans this.1,h2.trans this.2.1,h3.trans this.2.2.1,h4.trans this.2.2.2⟩
def apX{P:Program}{t:TypeId}{x y:AV}(h:IZ P t s x y=I s'):s'.gs=s.gs/\s'.n=s.n/\s'.pins=s.pins:=by
 unfold IZ at h;split at h
 .split at h
  .split at h
   .obtain⟨ys,hc,h⟩:=Ah.1 h;split at h<;>cases h;exact⟨rfl,rfl,rfl⟩
   .cases h
  .obtain⟨ys,hc,h⟩:=Ah.1 h;split at h
   .obtain⟨z,hz,h⟩:=Ah.1 h;cases h;obtain⟨h1,h2,h3,_⟩:=fj (ys.filterMap Gz) s;exact⟨h1,h2,h3⟩
   .cases h
  .obtain⟨ys,hc,h⟩:=Ah.1 h;split at h
   .obtain⟨z,hz,h⟩:=Ah.1 h;cases h;exact⟨rfl,rfl,rfl⟩
   .cases h
  .cases h
 .cases h
def apx(hP:C.P=B.P)(h:St B β stk s a w){o:Oper}(hd:s.has o.dst=Y){t:TypeId}{p x:Operand}(ho:o.op= .store t p x){s1:S}(hs:IZ C.P t s (s.ev p) (s.ev x)=I s1){K:Act->World->Prop}{Q:Exit->Act->World->Prop}
  (hK:Js B stk a o.dst (s1.put o.dst Dp) K):o.wp B.P a w K Q:=by
 obtain⟨w',β',h1,h2⟩:=apy hP h hs;obtain⟨e1,e2,e3⟩:=apX hs;rw[hP]at h1;unfold Oper.wp execOp;rw[ho];simp only[Ef,h1,F2,Fj];exact hK β' _ _<|QE h2 (by rw[QF e1 e2 e3];exact hd) rfl
def aqR(hP:C.P=B.P)(h:St B β stk s a w){b:Nat}(hb:s.H b=G){o:Oper}(hd:s.has o.dst=Y){x y:Operand}{t u:TypeId}(ho:o.op= .call { callee:= .builtin .append,args:= #[x,y],argTypes:= #[t,u] })
  {v:AV}{s1:S}(hs:Kb C.P C.kd t u s b (s.ev x) (s.ev y)=I (Y,v,s1)){K:Act->World->Prop}{Q:Exit->Act->World->Prop}(hK:Js B stk a o.dst (s1.put o.dst v) K):o.wp B.P a w K Q:=by
 obtain⟨u',w',β',h1,h2,h3,e1,e2,e3⟩:=aqS (ty:=o.type) hP h hb hs rfl;rw[hP]at h1;refine Wd (u:=u') (w':=w') ?_ (hK β' _ _<|QE h2 (by rw[QF e1 e2 e3];exact hd) h3);unfold execOp;rw[ho];simp[resolve,invoke,builtin,h1]
def asa(hP:C.P=B.P)(h:St B β stk s a w){o:Oper}(hd:s.has o.dst=Y){x y:Operand}{t u:TypeId}(ho:o.op= .call { callee:= .builtin .copy,args:= #[x,y],argTypes:= #[t,u] })
  {v:AV}{s1:S}(hs:Kj C.P t s (s.ev x) (s.ev y)=I (v,s1)){K:Act->World->Prop}{Q:Exit->Act->World->Prop}(hK:Js B stk a o.dst (s1.put o.dst v) K):o.wp B.P a w K Q:=by
 obtain⟨u',w',β',h1,h2,h3,e1,e2,e3⟩:=asb (u:=u) (ty:=o.type) hP h hs;rw[hP]at h1;refine Wd (u:=u') (w':=w') ?_ (hK β' _ _<|QE h2 (by rw[QF e1 e2 e3];exact hd) h3);unfold execOp;rw[ho];simp[resolve,invoke,builtin,h1]
def aqH(hP:C.P=B.P)(h:St B β stk s a w){o:Oper}(hd:s.has o.dst=Y){t:TypeId}{x:Operand}{lo hi:Option Operand}(ho:o.op= .slice t x lo hi G){id:Nat}(hx:s.ev x= .own id){z:Bool}(hf:J0 C.P s.H t (.own id)=Y)
  {v:AV}{s1:S}(hs:KX s id z (lo.map s.ev) (hi.map s.ev)=I (Y,v,s1)){K:Act->World->Prop}{Q:Exit->Act->World->Prop}(hK:Js B stk a o.dst (s1.put o.dst v) K):o.wp B.P a w K Q:=by
 obtain⟨u',β',h1,h2,h3,e1,e2,e3⟩:=an5 (P:=C.P) h hx hf hs rfl;rw[hP]at h1;refine Wd (u:=u') (w':=w) ?_ (hK β' _ _<|QE h2 (by rw[QF e1 e2 e3];exact hd) h3);unfold execOp;rw[ho];simp[h1]
def alY(hP:C.P=B.P)(h:St B β stk s a w){b:Nat}(hb:s.H b=G){o:Oper}(hd:s.has o.dst=Y){ids:List Nat}{K:Act->World->Prop}{Q:Exit->Act->World->Prop}
  (he:(match CA C.P C.kd (ids.foldl S.freeze s).ev (ids.foldl S.freeze s).H b o.op with
   | some (q,v,os)=>if q then I ({ ids.foldl S.freeze s with H:=Eo (ids.foldl S.freeze s).H b os }.put o.dst v) else G
   | none=>G)=I s')(hK:Js B stk a o.dst s' K):o.wp B.P a w K Q:=by
 obtain⟨β',h1,h2⟩:=h.L7 ids;obtain⟨e1,e2,e3,_⟩:=fj ids s;exact aCB hP h1 (h2.non b hb) (by rw[QF e1 e2 e3];exact hd) he hK
def HL(C:Cx)(B:Bb):Prop:=∀(f:FuncId) (d:Option Nat) (m:DO),C.Γ f d=I m->∀(β:Beta) (stk:List (Array Value)) (s:S) (a:Act) (w:World) (b:Nat) (as:List Operand) (s':S) (o:Oper) (ts:Array TypeId) (K:Act->World->Prop) (Q:Exit->Act->World->Prop),
 St B β stk s a w->(∀j,b<=j->j<b+16->s.H j=G)->s.has d=Y->HT m s b d (as.map s.ev) I=I s'->o.dst=d->o.op= .call { callee:= .value<|.func f,args:=as.toArray,argTypes:=ts } ->Js B stk a d s' K->o.wp B.P a w K Q
def mc(hP:C.P=B.P)(hC:HL C B)(h:St B β stk s a w){b:Nat}(hb:∀j,b<=j->j<b+16->s.H j=G){o:Oper}(he:CG C (AF S) o b s I=I s'){K:Act->World->Prop}{Q:Exit->Act->World->Prop}(hK:Js B stk a o.dst s' K):o.wp B.P a w K Q:=by
 have hb0:s.H b=G:=hb b (Ar _) J;unfold CG at he;split at he
 .cases he
 rename_i hd;generalize ho:o.op=op at he;have pu:(match CA C.P C.kd s.ev s.H b op with
   | some (q,v,os)=>if q then I ({ s with H:=Eo s.H b os }.put o.dst v) else G
   | none=>G)=I s'->o.wp B.P a w K Q:=λhe=>aCB hP h hb0 hd (by rw[ho];exact he) hK
 cases op<;>try (exact pu he)
 case store t p x=>
  simp only at he;split at he
  .rename_i s1 hs;cases he;exact apx hP h hd ho hs hK
  .cases he
 case call c=>
  obtain⟨cal,⟨args⟩,⟨tys⟩⟩:=c;simp only at he;split at he
  .rename_i f;split at he
   .rename_i m hm;exact hC f o.dst m hm β stk s a w b _ s' o _ K Q h hb hd he rfl ho hK
   .cases he
  .split at he
   .rename_i q v s1 hs;split at he
    .rename_i hq;subst hq;cases he;exact aqR hP h hb0 hd ho hs hK
    .cases he
   .cases he
  .split at he
   .rename_i v s1 hs;cases he;exact asa hP h hd ho hs hK
   .cases he
  .exact pu he
 case slice t x lo hi mx=>
  cases mx with
  | some m=>exact pu he
  | none=>
   simp only at he;split at he
   .rename_i id hx;split at he
    .cases he
    .rename_i hf;split at he
     .rename_i q v s1 hs;split at he
      .rename_i hq;subst hq;cases he;exact aqH hP h hd ho hx hf hs hK
      .cases he
     .cases he
   .exact pu he
 case buildSlice t n ps=>
  simp only at he;exact alY hP h hb0 hd (by rw[ho];exact he) hK
end
end Go.VS
namespace Go.VS
open Go
mutual
theorem atu (E:Nat->AV) (H:Hp) (b:Nat):∀(h:Sh) (x:LT h),GH h=Y->(BI E H b h x).2=(H,b)
 | .int _,_,_=>rfl
 | .bool,_,_=>rfl
 | .str,_,_=>rfl
 | .agg l,x,h=>by
  have:=Wy E H b l x h;show((match Aj E H b l x with|(cs,H,b)=>(AV.agg cs,H,b)):AV×Hp×Nat).2=(H,b);generalize Aj E H b l x=r at *;obtain⟨cs,H',b'⟩:=r;exact this
 | .sl _,_,h=>by simp[GH]at h
 | .row _ _,_,h=>by simp[GH]at h
 | .fz _,_,h=>by simp[GH]at h
 | .Cf _ _,_,h=>by simp[GH]at h
 | .abx _ _,_,h=>by simp[GH]at h
 | .arr _,_,h=>by simp[GH]at h
 | .same _,_,h=>by simp[GH]at h
 | .box _ _,_,h=>by simp[GH]at h
theorem Wy (E:Nat->AV) (H:Hp) (b:Nat):∀(l:List Sh) (x:LTs l),Ml l=Y->(Aj E H b l x).2=(H,b)
 | [],_,_=>rfl
 | h::l,x,hl=>by
  simp only[Ml,AD]at hl;have h1:=atu E H b h x.1 hl.1;have h2:=Wy E H b l x.2 hl.2;show((match BI E H b h x.1 with|(c,H,b)=>match Aj E H b l x.2 with|(cs,H,b)=>(c::cs,H,b)):List AV×Hp×Nat).2=(H,b);generalize hm:BI E H b h x.1=r at *;obtain⟨c,H',b'⟩:=r;cases h1;show((match Aj E H b l x.2 with|(cs,H,b)=>(c::cs,H,b)):List AV×Hp×Nat).2=(H,b);generalize Aj E H b l x.2=r at *;obtain⟨cs,H',b'⟩:=r;exact h2
end
mutual
theorem atx:∀h:Sh,GH h=Y->M8 h=A0
 | .int _,_=>rfl
 | .bool,_=>rfl
 | .str,_=>rfl
 | .agg l,h=>jg l h
 | .sl _,h=>by simp[GH]at h
 | .row _ _,h=>by simp[GH]at h
 | .fz _,h=>by simp[GH]at h
 | .Cf _ _,h=>by simp[GH]at h
 | .abx _ _,h=>by simp[GH]at h
 | .arr _,h=>by simp[GH]at h
 | .same _,h=>by simp[GH]at h
 | .box _ _,h=>by simp[GH]at h
theorem jg:∀l:List Sh,Ml l=Y->CN l=A0
 | [],_=>rfl
 | h::l,hl=>by
  simp only[Ml,AD]at hl;simp only[CN,atx h hl.1,jg l hl.2,EV]
end
def aCv(E:Nat->AV)(H:Hp)(b:Nat):∀(l:List Sh) (cs:List AV) (x:LTs l),l.isEmpty=Y->BP E H b l cs x=([],H,b)
 | [],_,_,_=>rfl
 | _::_,_,_,h=>by simp at h
def asi:∀l:List Sh,l.isEmpty=Y->CN l=A0
 | [],_=>rfl
 | _::_,h=>by simp at h
def avT(l:List Nat):off l []=Y:=by simp[off]
def as9{m:DO}{s:S}{b:Nat}{d:Option Nat}{as:List AV}{v:AV}{x:LTs m.ps}{r:LTs m.rs×LTs (B1 m.ps)}(h1:Ml m.rs=Y)(h2:(B1 m.ps).isEmpty=Y)(h3:(Ca s.H m.ps as).isEmpty=Y)(h4:(Bi s.H m.ps as).isEmpty=Y)
  (hx:GD (λi=>(as[i]?).getD .un) s.H m.ps as=I x)(hr:m.g x=I r)(hv:Lq (Aj (λi=>(as[i]?).getD .un) s.H b m.rs r.1).1=v):HT m s b d as I=I (s.put d v):=by
 have h3':Ca s.H m.ps as=[]:=by simpa using h3
 have h4':Bi s.H m.ps as=[]:=by simpa using h4
 unfold HT;simp only[hx,h4',Mr,h3',avT,EW,hr,A6,K7,jg _ h1,asi _ h2,GM,GK,aCv _ _ _ _ _ _ h2];have hm:=Wy (λi=>(as[i]?).getD .un) s.H b m.rs r.1 h1;generalize Aj (λi=>(as[i]?).getD .un) s.H b m.rs r.1=q at *;obtain⟨vs,H',b'⟩:=q;cases hm;have:Dx b (b+16)=Y:=Nat.ble_eq_true_of_le J;simp only[this];rw[← hv]
section
variable {B:Bb} {β β':Beta} {H:Hp} {stk:List (Array Value)} {s s':S} {a:Act} {w w':World} {C:Cx}
def atK{b:Nat}{o:Oper}{v:AV}(hd:s.has o.dst=Y)(h:spA C b o.dst s.ev s.H o.op=I (Y,v)):CG C (AF S) o b s I=I (s.put o.dst v):=by
 have eqS:∀v',({ s with H:=s.H } :S).put o.dst v'=s.put o.dst v':=λ_=>rfl;unfold CG;rw[hd];generalize ho:o.op=op at h;have pu:(match CA C.P C.kd s.ev s.H b op with
   | some (q,v,[])=>I (q,v)
   | _=>G)=I (Y,v)->(match CA C.P C.kd s.ev s.H b op with
   | some (q,v,os)=>if q then I ({ s with H:=Eo s.H b os }.put o.dst v) else G
   | none=>G)=I (s.put o.dst v):=by
  intro h;split at h
  .rename_i v' hp;cases h;rw[hp];rfl
  .cases h
 cases op<;>try (exact pu h)
 case store=>simp[spA]at h
 case buildSlice=>simp[spA]at h
 case slice t x lo hi mx=>
  cases mx with
  | some m=>exact pu h
  | none=>
   simp only[spA]at h;simp only;cases hx:s.ev x<;>simp only[hx]at h ⊢ <;>first|(cases h;done)|exact pu h
 case call c=>
  obtain⟨cal,⟨args⟩,⟨tys⟩⟩:=c;simp only[spA]at h;simp only;split at h
  .rename_i f;obtain⟨m,hm,h⟩:=Ah.1 h;split at h
   .rename_i hc;simp only[AD]at hc;obtain⟨x,hx,h⟩:=Ah.1 h;simp only[Bs,CK]at h;obtain⟨h1,h2⟩:=h;cases hr:m.g x with
    | none=>rw[hr]at h1;cases h1
    | some r=>
     rw[hr]at h2;simp only[hm];exact as9 hc.1.1.1 hc.1.1.2 hc.1.2 hc.2 hx hr h2
   .cases h
  .cases h
  .cases h
  .rename_i n1 n2 n3;split
   .exact absurd rfl (n1 _)
   .exact absurd rfl n2
   .exact absurd rfl n3
   .exact pu h
end
end Go.VS
namespace Go.VS
open Go
section
variable {B:Bb} {β β':Beta} {H:Hp} {stk:List (Array Value)} {s s':S} {a:Act} {w w':World} {C:Cx}
def fb{ops:Array Oper}{j g:Nat}(hg:(ops[j]?).bind (·.dst)=I g){b:Bool}(hv:BY a g= .bool b):yielded ops a.tmps j=I b:=by
 unfold yielded;rw[hg];have:a.tmps[g]? =I (.bool b):=by
  unfold BY at hv;rw[TG]at hv;cases h:a.tmps[g]? with
  | none=>rw[h]at hv;cases hv
  | some u=>rw[h]at hv;exact congrArg I hv
 rw[A6,this]
def fa{ops:Array Oper}{j g:Nat}(hg:(ops[j]?).bind (·.dst)=I g){b:Bool}(hv:yielded ops a.tmps j=I b):BY a g= .bool b:=by
 unfold yielded at hv;rw[hg,A6]at hv;split at hv
 .rename_i c hc;cases hv;simp[BY,hc]
 .cases hv
def St.narrow(h:St B β stk s a w){g:Nat}{want:Bool}(hg:BY a g= .bool want):St B β stk (s.narrow g want) a w:=by
 have rt:∀x y,RT w β (BY a) x y->RT w β (BY a) (Ga g want x) y:=by
  intro x y hx;cases x with
  | gd g' w' z=>
   simp only[Ga];split
   .rename_i h1 h2;obtain rfl:=Bm h1;obtain rfl:want=w':=by simpa using h2
    exact RT.HF (hx.1 hg)
   .exact hx
  | _=>exact hx
 refine⟨λt=> ?_,h.stack,h.n,h.defers,h.pins,λt g' w' x hx=> ?_,h.hs⟩
 .show RT w β (BY a) (upd (λt=>Ga g want<|s.T t) g (.b want) t) (BY a t);by_cases e:t=g
  .subst e;rw[Bf,hg];rfl
  .rw[BB _ _ e];exact rt _ _ (h.T t)
 .have hx:upd (λt=>Ga g want<|s.T t) g (.b want) t= .gd g' w' x:=hx;by_cases e:t=g
  .subst e;rw[Bf]at hx;cases hx
  .rw[BB _ _ e]at hx;cases hs:s.T t with
   | gd g2 w2 z=>
    rw[hs]at hx;simp only[Ga]at hx;split at hx
    .rename_i h1 h2;obtain rfl:=Bm h1;obtain rfl:want=w2:=by simpa using h2
     subst hx;have:=h.T t;rw[hs]at this;exact(this.1 hg).elim
    .cases hx;exact h.gs _ _ _ _ hs
   | _=>rw[hs]at hx;simp[Ga]at hx
def aab(a:Act){d t:Nat}(h:t≠d)(u:Value):BY (a.put (I d) u) t=BY a t:=by
 simp only[BY,Act.put,TG];rw[aBT λe=>h e.symm]
def R2.bool{x:AV}{b:Bool}(h:R2 w β x (.bool b)):R2 w' β' x (.bool b):=by
 cases x with
 | un=>trivial
 | lit v=>exact h
 | sl k xs=>exact absurd (show RC w β (.sl k xs) (.bool b) from h) λh=>by cases h
 | arr k xs=>obtain⟨us,e,_⟩:=h;cases e
 | own id=>exact absurd (show RC w β (.own id) (.bool b) from h) (λh=>by cases h with|own h1 h2=>cases h2)
 | ptr a b c d=>exact absurd (show RC w β (.ptr a b c d) (.bool _) from h) λh=>by cases h
 | ipt a b c=>exact absurd (show RC w β (.ipt a b c) (.bool _) from h) λh=>by cases h
 | agg cs=>obtain⟨us,e,_⟩:=h;cases e
 | tup vs=>obtain⟨us,e,_⟩:=h;cases e
 | gd a b c=>exact h.elim
def St.more(h:St B β stk s a w)(g:Nat):St B β stk { s with gs:=upd s.gs g Y } a w:=
 ⟨h.T,h.stack,h.n,h.defers,h.pins,λt g' want x hx=>by
  show upd s.gs g Y g'=Y;by_cases e:g'=g
  .rw[e,Bf]
  .rw[BB _ _ e];exact h.gs t g' want x hx,h.hs⟩
def RT.aN{tm:Nat->Value}{x:AV}{v:Value}(h:RT w β tm x v)(hn:nU x=Y):R2 w β x v:=by
 cases x with
 | gd=>cases hn
 | _=>exact h
def RT.ayH{tm tm':Nat->Value}{x:AV}{b:Bool}(h:RT w β tm x (.bool b))(ht:∀g want z,x= .gd g want z->tm' g=tm g):RT w' β' tm' x (.bool b):=by
 cases x with
 | gd g want z=>
  have e:=ht g want z rfl;refine⟨λh1=>R2.bool<|h.1<|e▸h1,λh1=> ?_⟩;exact h.2<|e▸h1
 | _=>exact RT.HF<|R2.bool<|RT.aN h rfl
def aDl{g d:Nat}(h:({ s with gs:=upd s.gs g Y } :S).has (I d)=Y):s.has (I d)=Y/\d≠g/\s.gs d=A0:=by
 simp only[S.has,AD,CE]at h ⊢;obtain⟨⟨h1,h2⟩,h3⟩:=h;by_cases e:d=g
 .subst e;rw[Bf]at h3;cases h3
 .rw[BB _ _ e]at h3;exact⟨⟨⟨h1,h2⟩,h3⟩,e,h3⟩
def St.ay5(h:St B β stk s a w){g d:Nat}{want:Bool}(hg:BY a g= .bool want)(EX:({ s with gs:=upd s.gs g Y } :S).has (I d)=Y){v:AV}(hn:nU v=Y){u:Value}
  (h':St B β' stk ((s.narrow g want).put (I d) v) (a.put (I d) u) w'):St B β' stk { s.put (I d) (.gd g want v) with gs:=upd s.gs g Y } (a.put (I d) u) w':=by
 obtain⟨_,hdg,hgs⟩:=aDl EX;have tg:BY (a.put (I d) u) g= .bool want:=by rw[aab a<|Ku hdg];exact hg
 refine⟨λt=> ?_,h'.stack,h'.n,h'.defers,h'.pins,λt g' w1 x hx=> ?_,h'.hs⟩
 .show RT w' β' _ (upd s.T d (.gd g want v) t) _;have ht:RT w' β' (BY<|a.put (I d) u) (upd (upd (λt=>Ga g want<|s.T t) g<|.b want) d v t) (BY (a.put (I d) u) t):=h'.T t;by_cases e:t=d
  .subst e;rw[Bf]at ht ⊢;exact⟨λ_=>ht.aN hn,λhne=>absurd tg hne⟩
  .rw[BB _ _ e]at ht ⊢;by_cases e2:t=g
   .subst e2;rw[tg];have h0:=h.T t;rw[hg]at h0;refine h0.ayH λg' w1 z hz=> ?_;have hg':s.gs g'=Y:=h.gs _ _ _ _ hz;exact aab a (λe=>by rw[e,hgs]at hg';cases hg') u
   .rw[BB _ _ e2]at ht;cases hs:s.T t with
    | gd g2 w2 z=>
     rw[hs]at ht;simp only[Ga]at ht;split at ht
     .rename_i h1 h2;obtain rfl:=Bm h1;obtain rfl:want=w2:=by simpa using h2
      have h0:=h.T t;rw[hs]at h0;refine⟨λ_=>ht.aN ?_,λhne=>absurd tg hne⟩;have:=h0.1 hg;cases z<;>first|rfl|exact this.elim
     .exact ht
    | _=>rw[hs]at ht;exact ht
 .show upd s.gs g Y g'=Y;have hx:upd s.T d (.gd g want v) t= .gd g' w1 x:=hx;by_cases e:t=d
  .subst e;rw[Bf]at hx;cases hx;exact Bf _ _ _
  .rw[BB _ _ e]at hx;by_cases e3:g'=g
   .rw[e3,Bf]
   .rw[BB _ _ e3];exact h.gs _ _ _ _ hx
def aBl(h:St B β stk s a w){ops:Array Oper}:∀(n:Nat) (o:Oper) {c:Bool},Ls ops s n o=I c->JM o (yielded ops a.tmps)=Y->c=Y
 | 0,_,_,he,_=>by cases he
 | n+1,o,c,he,hw=>by
  unfold Ls at he;cases hg:o.guard with
  | none=>rw[hg]at he;cases he;rfl
  | some jw=>
   obtain⟨j,want⟩:=jw;rw[hg]at he;obtain⟨oj,hj,he⟩:=Ah.1 he;obtain⟨g,hgd,he⟩:=Ah.1 he;have azb:(ops[j]?).bind (·.dst)=I g:=by rw[hj];exact hgd
   have hy:yielded ops a.tmps j=I want:=by simpa[JM,hg] using hw
   have htg:=fa azb hy;have hT:=h.T g;split at he
   .rename_i c0 hc0;rw[hc0,htg]at hT;have hT:Value.bool want=Value.bool c0:=hT;cases hT;cases he;cases want<;>rfl
   .rename_i vs hc0;rw[hc0,htg]at hT;cases (show Value.bool want=Value.tuple vs from hT)
   .rename_i g' w' c0 hc0;rw[hc0]at hT;split at he
    .rename_i j' w2 hoj;split at he
     .rename_i g2 hg2;split at he
      .rename_i e1 e2;obtain rfl:=Bm e1;obtain rfl:w'=w2:=by simpa using e2
       obtain⟨b,hb,he⟩:=Ah.1 he;by_cases hq:BY a g'= .bool w'
       .have hv:BY a g= .bool c0:=hT.1 hq;rw[htg]at hv;cases hv;have hb1:=aBl h n oj hb (by
         have:yielded ops a.tmps j'=I w':=fb hg2 hq;simp[JM,hoj,this])
        rw[hb1]at he;cases he;cases want<;>rfl
       .have hv:BY a g=undef:=hT.2 hq;rw[htg]at hv;cases hv
      .cases he
     .cases he
    .cases he
   .cases he
def asc{c:Option Bool}{q:Bool}(h:abh c q=Y)(hc:∀b,c=I b->b=Y):q=Y:=by
 cases c with
 | none=>exact h
 | some b=>
  obtain rfl:=hc b rfl;cases q with
  | true=>rfl
  | false=>cases h
def lE(hP:C.P=B.P)(hC:HL C B){ops:Array Oper}{i:Nat}{o:Oper}(hi:ops[i]? =I o)(h:St B β stk s a w){b:Nat}(hb:∀j,b<=j->j<b+16->s.H j=G)
  (he:evG C (AF S) ops o b s I=I s'){K:Act->World->Prop}{Q:Exit->Act->World->Prop}(hK:Js B stk a o.dst s' K):wpOp B.P ops Q i K a w:=by
 unfold wpOp;simp only[hi];unfold evG at he;split at he
 .rename_i hg;have hw:JM o (yielded ops a.tmps)=Y:=by simp[JM,hg]
  rw[A5 hw];exact .inl (mc hP hC h hb he hK)
 .rename_i j want hg;have hwd:JM o (yielded ops a.tmps)=(yielded ops a.tmps j == I want):=by simp[JM,hg]
  rw[hwd];split at he
  .cases he
  .rename_i g hgd hsp;split at he
   .rename_i q v EX hv;split at he
    .rename_i hn;split at he
     case isFalse=>cases he
     rename_i oS;cases he;obtain⟨d,hd⟩:∃d,o.dst=I d:=by
      cases hd:o.dst with
      | none=>rw[hd]at hsp;cases hsp
      | some d=>exact⟨d,rfl⟩
     rw[hd]at EX hv;by_cases hy:yielded ops a.tmps j=I want
     .have htg:=fa hgd hy;rw[A5<|by simp[hy]];have hh:=(aDl EX).1;have hqt:q=Y:=asc oS (λb hb=>aBl h 4 o hb (by rw[hwd,hy];simp));subst hqt;have he:CG C (AF S) o b (s.narrow g want) I=I ((s.narrow g want).put o.dst v):=
       atK (by rw[hd];exact hh) (by rw[hd];exact hv)
      refine .inl<|mc hP hC (h.narrow htg) (s:=s.narrow g want) hb he ?_;intro β' u w' h';rw[hd]at h' ⊢;have:=hK β' u w';rw[hd]at this;exact this (h.ay5 htg EX hn h')
     .rw[A8<|by simpa using hy];have hne:BY a g≠ .bool want:=λe=>hy<|fb hgd e;have:=hK β undef w;rw[hd]at this ⊢;exact this ((h.more g).put EX ⟨λe=>absurd e hne,λ_=>rfl⟩ (λg' w1 x e=>by cases e;exact Bf _ _ _))
    .cases he
   .cases he
  .rename_i g hgd hsp;split at he
   .rename_i c hT;have htg:BY a g= .bool c:=by have:=h.T g;rw[hT]at this;exact this
    have hy:yielded ops a.tmps j=I c:=fb hgd htg;rw[hy];have hn:∀w0:Bool,c=w0->St B β stk { s with T:=upd s.T g (.b w0) } a w:=by
     intro w0 e;subst e;refine⟨λt=> ?_,h.stack,h.n,h.defers,h.pins,λt g' w' x hx=> ?_,h.hs⟩
     .show RT w β (BY a) (upd s.T g (.b c) t) (BY a t);by_cases e:t=g
      .subst e;rw[Bf,htg];rfl
      .rw[BB _ _ e];exact h.T t
     .have hx:upd s.T g (.b c) t= .gd g' w' x:=hx;by_cases e:t=g
      .subst e;rw[Bf]at hx;cases hx
      .rw[BB _ _ e]at hx;exact h.gs _ _ _ _ hx
    have yes:CG C (AF S) o b { s with T:=upd s.T g (.b want) } I=I s'->c=want->
      (if(I c == I want)=Y then o.wp B.P a w K Q\/(o.asks B.P a w/\LetsOut Q) else K (a.put o.dst undef) w):=by
     intro he e;rw[A5<|by simp[e]];exact .inl<|mc hP hC (hn want e) hb he hK
    have no:(match s.has o.dst with
      | true=>I (({ s with T:=upd s.T g (.b<|!want) } :S).put o.dst Dp)
      | false=>G)=I s'->c= !want->
      (if(I c == I want)=Y then o.wp B.P a w K Q\/(o.asks B.P a w/\LetsOut Q) else K (a.put o.dst undef) w):=by
     intro he e;rw[A8 (by subst e;cases want<;>simp)];split at he
     .rename_i EX;cases he;exact hK β undef w ((hn (!want) e).put (by exact EX) (u:=undef) rfl (λg' w1 x e=>by cases e))
     .cases he
    cases want<;>cases c<;>simp only[A2,if_false,Hc]at he
    .exact yes he rfl
    .exact no he rfl
    .exact no he rfl
    .exact yes he rfl
   .rename_i vs hT;have htg:BY a g= .tuple vs:=by have:=h.T g;rw[hT]at this;exact this
    have hy:¬(yielded ops a.tmps j == I want)=Y:=by
     intro e;have:=fa hgd (show yielded ops a.tmps j=I want by simpa using e);rw[htg]at this;cases this
    rw[A8 hy];split at he
    .rename_i EX;cases he;exact hK β undef w (h.put EX (u:=undef) rfl (λg' w1 x e=>by cases e))
    .cases he
   .cases he
end
end Go.VS
namespace Go.VS
open Go
def In1(F:Nat->Prop):AV->Prop
 | .own id=>F id
 | .ptr id _ _ _=>F id
 | .agg _=>False
 | .tup _=>False
 | .gd _ _ _=>False
 | _=>True
def In2(F:Nat->Prop):AV->Prop
 | .agg cs=>∀c∈cs,In1 F c
 | v=>In1 F v
def In3(F:Nat->Prop):AV->Prop
 | .tup vs=>∀v∈vs,In2 F v
 | v=>In2 F v
def InA(F:Nat->Prop):AV->Prop
 | .gd _ _ v=>In3 F v
 | v=>In3 F v
def Ey(F:Nat->Prop):Ob->Prop
 | .box _ cs=>∀c∈cs,In1 F c
 | _=>True
def DQ(F:Nat->Prop)(H:Hp):Prop:=∀id ob,F id->H id=I ob->Ey F ob
def Agr(F:Nat->Prop)(H H':Hp):Prop:=∀id,F id->H' id=H id
section
variable {F:Nat->Prop} {H H':Hp} {P:Program} {kd:TypeId->Option K} {ρ ρ':Operand->AV} {b:Nat}
def In2.of1{v:AV}(h:In1 F v):In2 F v:=by
 cases v<;>first|exact h|exact h.elim
def In3.of2{v:AV}(h:In2 F v):In3 F v:=by
 cases v<;>first|exact h|exact(show False from h).elim
def InA.of3{v:AV}(h:In3 F v):InA F v:=by
 cases v<;>first|exact h|exact(show False from h).elim
def InA.of1{v:AV}(h:In1 F v):InA F v:= .of3<|.of2<|.of1 h
def InA.of2{v:AV}(h:In2 F v):InA F v:= .of3<|.of2 h
def In1.GQ{v:AV}(h:GQ v=Y):In1 F v:=by
 cases v<;>first|trivial|cases h
def Sn(k:K)(x:Tof k):∀c∈enc k x,In1 F c:=λc hc=> .GQ<|DK.1 (aa2 k x) c hc
def Ps{t:TypeId}{cs:List AV}{o:Nat}{v:AV}(hc:∀c∈cs,In1 F c)(h:HQ P t cs o=I v):InA F v:=by
 unfold HQ at h;split at h
 .split at h
  .cases h;exact .of2 λc hm=>hc c (Kq<|IF hm)
  .cases h
 .exact .of1 (hc v<|Ci h)
 .cases h
def au2{t:TypeId}{p:AV}(hp:InA F p)(hH:Agr F H H'):Jr P H' t p=Jr P H t p:=by
 unfold Jr;cases p with
 | ptr id z i o=>simp only[hH id hp]
 | _=>rfl
def au3{N:Nat->Prop}{t:TypeId}{p v:AV}(hp:InA N p)(hH:∀id ob,N id->H id=I ob->Ey F ob)(h:Jr P H t p=I v):InA F v:=by
 unfold Jr at h;split at h
 .exact Ps (Sn _ _) h
 .rename_i id z i o;split at h
  .rename_i hid;split at h
   .exact Ps (hH id _ hp hid) h
   .cases h
  .split at h
   .exact Ps (Sn _ _) h
   .cases h
  .split at h
   .split at h<;>cases h;trivial
   .split at h
    .exact Ps (Sn _ _) h
    .cases h
  .cases h
 .cases h
def mq{k:K}{v:AV}(hv:InA F v)(hH:Agr F H H'):CD H' k v=CD H k v:=by
 cases v with
 | own id=>simp only[CD,hH id hv]
 | lit v=>cases v with
  | slice a n c=>cases a<;>cases n<;>cases c<;>rfl
  | _=>rfl
 | _=>rfl
def mN{k:K}{v:AV}(hv:InA F v)(hH:Agr F H H'):Jy H' k v=Jy H k v:=by
 cases v with
 | own id=>simp only[Jy,CD,hH id hv]
 | lit v=>cases v with
  | slice a n c=>cases a<;>cases n<;>cases c<;>rfl
  | _=>rfl
 | _=>rfl
def aA5{t:TypeId}{v:AV}(hv:InA F v)(hH:Agr F H H'):J0 P H' t v=J0 P H t v:=by
 unfold J0;generalize P.underlying t=u;obtain _|d:=u
 .rfl
 cases d<;>cases v<;>first|rfl|(simp only[hH _ hv];done)|(rename_i v;cases v<;>rfl)
def api{t:TypeId}{i:Int}{v:AV}(hv:InA F v)(hH:Agr F H H'):Mc P H' t i v=Mc P H t i v:=by
 unfold Mc;cases v with
 | own id=>simp only[hH id hv]
 | ptr id z i o=>
  cases i<;>cases o<;>first|(simp only[hH id hv];done)|rfl
 | _=>rfl
def awm{v v':AV}{q:Bool}{os:List Ob}(hv:InA F v)(h:okN v=I (q,v',os)):InA F v'/\os=[]:=by
 obtain⟨rfl,_,rfl,_⟩:=O5 h;exact⟨hv,rfl⟩
def awn{v v':AV}{q:Bool}{os:List Ob}(hv:InA F v)(h:okA v=I (q,v',os)):InA F v'/\os=[]:=by
 obtain⟨rfl,_,rfl⟩:=DG h;exact⟨hv,rfl⟩
def PIn(F:Nat->Prop)(r:PR):Prop:=∀q v os,r=I (q,v,os)->InA F v/\os.length<=1/\ ∀ob∈os,Ey F ob
def PIn.okN{v:AV}(hv:InA F v):PIn F (okN v):=λq v' os h=>by
 obtain⟨h1,rfl⟩:=awm hv h;exact⟨h1,by simp,by simp⟩
def PIn.okA{v:AV}(hv:InA F v):PIn F (okA v):=λq v' os h=>by
 obtain⟨h1,rfl⟩:=awn hv h;exact⟨h1,by simp,by simp⟩
def PIn.lit{v:Value}:PIn F (VS.okA<|.lit v):= .okA<|.of1 trivial
def PIn.none:PIn F .none:=λq v os h=>by cases h
def PIn.nil{q:Bool}{v:AV}(hv:InA F v):PIn F (I (q,v,[])):=λq v' os h=>by cases h;exact⟨hv,by simp,by simp⟩
def PIn.one{q:Bool}{v:AV}{ob:Ob}(hv:InA F v)(ho:Ey F ob):PIn F (I (q,v,[ob])):=λq v' os h=>by
 cases h;exact⟨hv,by simp,λob' hm=>by simp at hm;subst hm;exact ho⟩
def PIn.bind{α:Type}{o:Option α}{f:α->PR}(h:∀a,o=I a->PIn F (f a)):PIn F (o.bind f):=by
 cases o with
 | none=>exact .none
 | some a=>exact h a rfl
def aw4(op:BinOp)(k:IntKind)(x y:Int):PIn F (Tm op k x y):=by
 cases op<;>first|exact .lit|exact .none|exact .nil<|.of1 trivial
def aw3(op:BinOp)(x y:A1):PIn F (Tl op x y):=by
 cases op<;>first|exact .lit|exact .none|exact .nil<|.of1 trivial
def aw5(op:BinOp)(t:TypeId)(x y:AV):PIn F (P1 P op t x y):=by
 unfold P1;split
 .split
  .exact aw4 _ _ _ _
  .exact .none
 .exact aw3 _ _ _
 .split<;>first|exact .lit|exact .none
 .split<;>first|exact .lit|exact .none
 .exact .none
def ax6(op:UnOp)(x:AV):PIn F (unA op x):=by
 unfold unA;split<;>first|exact .lit|exact .none
def at5{c x y:Operand}(hx:InA F (ρ x))(hy:InA F (ρ y)):PIn F (OV ρ c x y):=by
 unfold OV;split
 .split
  .exact .lit
  .split
   .exact .lit
   .exact .okN hy
 .split
  .exact .lit
  .split
   .exact .okN hx
   .exact .lit
 .split
  .exact .okN hx
  .exact .okN hy
 .exact .none
def XH{v:AV}{cs:List AV}(hv:InA F v)(h:GY v=I cs):∀c∈cs,In1 F c:=by
 cases v with
 | un=>cases h
 | gd=>cases h
 | tup=>cases h
 | arr=>cases h
 | agg cs=>cases h;exact hv
 | lit v=>cases v<;>first|(cases h;done)|(cases h;intro c hc;simp at hc;subst hc;trivial)
 | _=>cases h;intro c hc;simp at hc;subst hc;exact hv
def aDO{t:TypeId}{zs:List AV}(h:I4 P t=I zs):∀c∈zs,In1 F c:=by
 obtain⟨i,_,h⟩:=Ah.1 h;obtain⟨z,_,h⟩:=Ah.1 h;split at h
 .cases h;intro c hc;obtain⟨v,_,rfl⟩:=Bu.1 hc;trivial
 .cases h
def jq{cs ys:List AV}{o:Nat}(hc:∀c∈cs,In1 F c)(hy:∀c∈ys,In1 F c):∀c∈Gw cs o ys,In1 F c:=by
 intro c h;unfold Gw at h;simp only[BM]at h;obtain(h|h)|h:=h
 .exact hc c (IF h)
 .exact hy c h
 .exact hc c<|Kq h
def aCU{t:TypeId}:∀(l:List (Nat×Operand)) (cs:List AV) {r:List AV},(∀p∈l,InA F<|ρ p.2)->(∀c∈cs,In1 F c)->I0 P ρ t l cs=I r->∀c∈r,In1 F c
 | [],cs,r,_,hc,h=>by cases h;exact hc
 | (i,x)::l,cs,r,hl,hc,h=>by
  obtain⟨f,_,h⟩:=Ah.1 h;obtain⟨ys,h2,h⟩:=Ah.1 h;split at h
  .exact aCU l _ (λp hp=>hl p<|Ai _ hp) (jq hc<|XH (hl _<|An) h2) h
  .cases h
def aCT{t:TypeId}:∀(l:List (Nat×Operand)) (cs:List AV),(∀p∈l,ρ' p.2=ρ p.2)->I0 P ρ' t l cs=I0 P ρ t l cs
 | [],cs,_=>rfl
 | (i,x)::l,cs,hl=>by
  have ih:∀cs,I0 P ρ' t l cs=I0 P ρ t l cs:=λcs=>aCT l cs λp hp=>hl p<|Ai _ hp;have h1:ρ' x=ρ x:=hl (i,x)<|An;simp only[I0,h1,ih]
def aBn:∀(l:List (Nat×Operand)) (n:Nat),(∀p∈l,ρ' p.2=ρ p.2)->I2 ρ' n l=I2 ρ n l
 | [],_,_=>rfl
 | (i,x)::l,n,hl=>by
  have ih:∀n,I2 ρ' n l=I2 ρ n l:=λn=>aBn l n λp hp=>hl p<|Ai _ hp;have h1:ρ' x=ρ x:=hl (i,x)<|An;simp only[I2,h1,ih]
def ard:∀(l:List (Nat×Operand)),(∀p∈l,ρ' p.2=ρ p.2)->Ke ρ' l=Ke ρ l:=λl hl=>by
 unfold Ke
 induction l with
 | nil=>rfl
 | cons p l ih=>simp only[Oh,hl p<|An,ih λq hq=>hl q<|Ai _ hq]
def arO(lo hi:Option AV)(v:AV):PIn F (QD lo hi v):=by
 unfold QD;split<;>first|exact .none|exact .bind λa _=> .nil<|.of1 trivial
def aul(hb:F 0)(s d:TypeId)(v:AV):PIn F (Ih P s d v):=by
 unfold Ih;split
 .exact .lit
 .exact .lit
 .split
  .exact .one (.of1 hb) trivial
  .exact .none
 .exact .none
def avF(t:TypeId)(i:Int)(v:AV):PIn F (Qs P t i v):=by
 unfold Qs;split
 .split
  .exact .nil (.of1 trivial)
  .exact .none
 .split
  .split
   .exact .bind λv hv=> .nil (Ps (Sn _ _) hv)
   .exact .none
  .exact .none
 .exact .none
def apj{t:TypeId}{i:Int}{v:AV}(hv:InA F v):PIn F (Mc P H t i v):=by
 unfold Mc;split
 .split
  .split
   .exact .nil (.of1 trivial)
   .exact .none
  .exact .none
 .split
  .split
   .exact .nil (.of1 hv)
   .exact .none
  .exact .none
 .split
  .split
   .exact .nil (.of1 hv)
   .exact .none
  .exact .none
 .exact .none
def aES(c:Call):PIn F (J9 P ρ H c):=by
 unfold J9;split
 .split<;>first|exact .lit|exact .none|skip
  split<;>first|exact .lit|exact .none
 .split
  .split<;>first|exact .lit|exact .none
  .exact .none
 .split
  .split<;>first|exact .lit|exact .none
  .exact .none
 .exact .none
def aER{c:Call}(hρ:∀x∈c.args.toList,ρ' x=ρ x)(hF:∀x∈c.args.toList,InA F<|ρ x)(hH:Agr F H H'):J9 P ρ' H' c=J9 P ρ H c:=by
 obtain⟨cal,⟨args⟩,⟨tys⟩⟩:=c;simp only at hρ hF;unfold J9;simp only;split
 .rename_i x t;rw[hρ x aE4];have hx:=hF x aE4;generalize ρ x=v at hx;generalize P.underlying t=u;obtain _|d:=u
  .rfl
  cases d<;>cases v<;>first|rfl|(simp only[hH _ hx];done)|(rename_i v;cases v<;>first|rfl|(rename_i a n c;cases a<;>cases n<;>cases c<;>rfl))
 .rename_i x y;rw[hρ x aE4,hρ y aE4]
 .rename_i x y;rw[hρ x aE4,hρ y aE4]
 .rfl
def aCC{N:Nat->Prop}{op:Op}(hF:∀x∈op.operands,InA F<|ρ x)(hN:mov op=Y\/ ∀x∈op.operands,InA N<|ρ x)(hH:∀id ob,N id->H id=I ob->Ey F ob)(hb:F b):PIn F (CA P kd ρ H b op):=by
 cases op<;>simp only[CA]<;>try (exact .none)
 case move x=>exact .okN<|hF x<|by simp[BU]
 case assign x=>exact .okN<|hF x<|by simp[BU]
 case pick c x y=>exact at5 (hF x<|by simp[BU])<|hF y<|by simp[BU]
 case alloc t=>
  split
  .refine .bind λk hk=> .bind λzs hz=> ?_;split
   .exact .one (.of1 hb) trivial
   .exact .none
  .exact .bind λzs hz=> .one (.of1 hb)<|aDO hz
 case box t x=>exact .bind λcs hc=> .one (.of1 hb)<|XH (hF x<|by simp[BU]) hc
 case build t ps=>
  refine .bind λzs hz=> ?_;split
  .split
   .refine .bind λcs hc=> .okA<|.of2 ?_;refine aCU _ _ (λp hp=>hF p.2 ?_) (aDO hz) hc;simp only[BU,TE,Bu];exact⟨p,hp,rfl⟩
   .exact .none
  .exact .none
 case buildSlice t n ps=>
  refine .bind λe _=> .bind λk _=> .bind λvs _=> .bind λxs _=> ?_;split
  .exact .one (.of1 hb) trivial
  .exact .none
 case load t p=>
  exact .bind λv hv=> .okA<|au3 (hN.resolve_left (by simp[mov]) p<|by simp[BU]) hH hv
 case nilCheck p=>
  have hp:=hF p (by simp[BU]);split<;>first|exact .none|(rename_i e;rw[e]at hp;exact .okA hp)
 case binOp=>exact aw5 _ _ _ _
 case unOp=>exact ax6 _ _
 case convert src dst x=>
  split
  .split
   .exact .bind λv hv=> .lit
   .exact .none
  .split
   .rename_i c id os h;intro q v os' e;cases e;have:=aul (F:=λ_=>True) trivial src dst (ρ x) _ _ _ h;refine⟨.of1 hb,this.2.1,λob ho=> ?_⟩;unfold Ih at h;split at h<;>first|(cases h;done)|skip
    split at h
    .cases h;simp at ho;subst ho;trivial
    .cases h
   .rename_i h;intro q v os e;unfold Ih at e;split at e
    .cases e;exact⟨.of1 trivial,by simp,by simp⟩
    .cases e;exact⟨.of1 trivial,by simp,by simp⟩
    .split at e
     .cases e;exact(h _ 0 _ (by simp only[Ih, *];rfl)).elim
     .cases e
    .cases e
 case makeSlice t l c=>
  split
  .refine .bind λe _=> .bind λk _=> ?_;split
   .exact .one (.of1 hb) trivial
   .exact .none
  .split
   .refine .bind λe _=> .bind λk _=> ?_;split
    .exact .one (.of1 hb) trivial
    .exact .none
   .exact .none
  .exact .none
 case slice t x lo hi mx=>
  cases mx with
  | some m=>exact .none
  | none=>
   simp only;split
   .exact arO _ _ _
   .exact .none
 case fieldAddr t x f=>
  have hx:=hF x (by simp[BU]);refine .bind λfd _=> ?_;split
  .split
   .rename_i e;rw[e]at hx;exact .okA (.of1 hx)
   .exact .okA (.of1 trivial)
   .exact .none
  .exact .none
 case field t x f=>
  have hx:=hF x (by simp[BU]);refine .bind λfd _=> ?_;split
  .rename_i cs e;rw[e]at hx;exact .bind λv hv=> .okA (Ps hx hv)
  .exact .none
 case indexAddr t x ix=>
  have hx:=hF x (by simp[BU]);split
  .exact apj hx
  .exact .none
 case index t x ix=>
  split
  .exact avF _ _ _
  .exact .none
 case extract x i=>
  have hx:=hF x (by simp[BU]);split
  .rename_i vs e;rw[e]at hx;exact .bind λv hv=> .okA (.of2<|hx v<|Ci hv)
  .exact .none
 case call c=>exact aES c
def XD{op:Op}(hρ:∀x∈op.operands,ρ' x=ρ x)(hF0:mov op=Y\/ ∀x∈op.operands,InA F<|ρ x)(hH:Agr F H H'):CA P kd ρ' H' b op=CA P kd ρ H b op:=by
 have one:∀ {x:Operand},x∈op.operands->ρ' x=ρ x:=λh=>hρ _ h;cases op<;>simp only[CA]
 case move x=>rw[hρ x<|by simp[BU]]
 case assign x=>rw[hρ x<|by simp[BU]]
 case pick c x y=>
  have h1:=hρ c (by simp[BU]);have h2:=hρ x (by simp[BU]);have h3:=hρ y (by simp[BU]);unfold OV;rw[h1];split
  .simp only[h3]
  .simp only[h2]
  .simp only[h2,h3]
  .rfl
 case box t x=>rw[hρ x<|by simp[BU]]
 case build t ps=>
  have:∀zs,I0 P ρ' t ps.toList zs=I0 P ρ t ps.toList zs:=λzs=>aCT _ _ λp hp=>hρ p.2 (by
   simp only[BU,TE,Bu];exact⟨p,hp,rfl⟩)
  simp only[this]
 case buildSlice t n ps=>
  have:I2 ρ' 0 ps.toList=I2 ρ 0 ps.toList:=aBn _ _ λp hp=>hρ p.2 (by
   simp only[BU,TE,Bu];exact⟨p,hp,rfl⟩)
  simp only[this]
 case load t p=>
  have hF:=hF0.resolve_left (by simp[mov]);rw[hρ p<|by simp[BU],au2 (hF p<|by simp[BU]) hH]
 case nilCheck p=>rw[hρ p<|by simp[BU]]
 case binOp o t x y t2=>rw[hρ x<|by simp[BU],hρ y<|by simp[BU]]
 case unOp o t x=>rw[hρ x<|by simp[BU]]
 case convert src dst x=>
  have hF:=hF0.resolve_left (by simp[mov]);rw[hρ x<|by simp[BU],mq (hF x<|by simp[BU]) hH]
 case makeSlice t l c=>rw[hρ l<|by simp[BU],hρ c<|by simp[BU]]
 case slice t x lo hi mx=>
  have hF:=hF0.resolve_left (by simp[mov]);cases mx with
  | some m=>rfl
  | none=>
   have h1:=hρ x (by simp[BU]);have h2:lo.map ρ'=lo.map ρ:=by cases lo with
    | none=>rfl
    | some l=>exact congrArg I<|hρ l<|by simp[BU]
   have h3:hi.map ρ'=hi.map ρ:=by cases hi with
    | none=>rfl
    | some l=>exact congrArg I<|hρ l<|by simp[BU]
   simp only;rw[h1,h2,h3,aA5 (hF x<|by simp[BU]) hH]
 case fieldAddr t x f=>rw[hρ x<|by simp[BU]]
 case field t x f=>rw[hρ x<|by simp[BU]]
 case indexAddr t x ix=>
  have hF:=hF0.resolve_left (by simp[mov]);rw[hρ x<|by simp[BU],hρ ix<|by simp[BU]];split
  .rw[api (hF x<|by simp[BU]) hH]
  .rfl
 case index t x ix=>rw[hρ x<|by simp[BU],hρ ix<|by simp[BU]]
 case extract x i=>rw[hρ x<|by simp[BU]]
 case call c=>
  have hF:=hF0.resolve_left (by simp[mov]);refine aER (λx hx=>hρ x ?_) (λx hx=>hF x ?_) hH<;>
  .simp only[BU,Mv,N0];exact .inr<|by simpa using hx
end
end Go.VS
namespace Go.VS
open Go
inductive Fk where
 | no
 | kl
 | fz (k:K) (xs:List (Tof k))
def Fk.f(id:Nat):Fk->AV->AV
 | .no=>λv=>v
 | .kl=>kl1 id
 | .fz k xs=>fz1 id k xs
structure Step where
 id:Nat
 fk:Fk
 ob:Option Ob
def S.app(s:S)(e:Step):S:=(s.map<|e.fk.f e.id).EH e.id e.ob
def Gn(F:Nat->Prop)(e:Step):Prop:=∀ob,e.ob=I ob->Ey F ob
def Loc{α:Type}(F W:Nat->Prop)(g:S->Option (α×S))(s:S)(x:α)(s':S):Prop:=
 ∃es:List Step,(∀e∈es,W e.id/\Gn F e)/\s'=es.foldl S.app s/\ ∀s2:S,Agr F s.H s2.H->g s2=I (x,es.foldl S.app s2)
section
variable {F W:Nat->Prop} {H H':Hp} {P:Program} {kd:TypeId->Option K} {s s' s2:S} {b:Nat}
def au1(v:AV):Fu (λv=>v) v=v:=by cases v<;>simp[Fu]
def aCb:(Fu λv=>v)=id:=funext au1
def au0(v:AV):GF (λv=>v) v=v:=by
 cases v<;>simp[GF,aCb]
 all_goals simp[Fu]
def avd(v:AV):Ex (λv=>v) v=v:=by
 cases v with
 | gd g w v=>simp[Ex,au0]
 | tup vs=>simp[Ex,GF,aCb]
 | _=>simp[Ex,GF,Fu]
def atz(o:Option Ob):CI (λv=>v) o=o:=by
 cases o with
 | none=>rfl
 | some o=>cases o<;>simp[CI]
def map_id(s:S):s.map (λv=>v)=s:=by
 cases s;simp[S.map,avd,atz]
def J7(s:S)(id:Nat)(o:Option Ob):s.app ⟨id,.no,o⟩=s.EH id o:=by
 simp[S.app,Fk.f,map_id]
def L5(s:S)(e:Step)(j:Nat):(s.app e).H j=if j=e.id then e.ob else CI (e.fk.f e.id) (s.H j):=by
 show upd (λj=>CI (e.fk.f e.id)<|s.H j) e.id e.ob j=_;by_cases h:j=e.id
 .subst h;rw[Bf];simp
 .rw[BB _ _ h];simp[h]
def Agr.app(h:Agr F s.H s2.H)(e:Step):Agr F (s.app e).H (s2.app e).H:=λid hid=>by rw[L5,L5,h id hid]
def Agr.oe{es:List Step}(h:Agr F s.H s2.H):Agr F (es.foldl S.app s).H (es.foldl S.app s2).H:=by
 induction es generalizing s s2 with
 | nil=>exact h
 | cons e es ih=>exact ih<|h.app e
def Agr.refl(F:Nat->Prop)(H:Hp):Agr F H H:=λ_ _=>rfl
def Fk.aQ(id:Nat)(fk:Fk){c:AV}(h:In1 F c):In1 F (fk.f id c):=by
 cases fk with
 | no=>exact h
 | kl=>
  show In1 F (kl1 id c);unfold kl1;split
  .split
   .trivial
   .exact h
  .split
   .trivial
   .exact h
  .exact h
 | fz k xs=>
  show In1 F (fz1 id k xs c);unfold fz1;split
  .split
   .trivial
   .exact h
  .split
   .trivial
   .exact h
  .exact h
def aaU{f:AV->AV}(hf:∀c,In1 F c->In1 F (f c)){o:Option Ob}(h:∀ob,o=I ob->Ey F ob):∀ob,CI f o=I ob->Ey F ob:=by
 intro ob e;cases o with
 | none=>cases e
 | some o=>
  have:=h o rfl;cases o with
  | box t cs=>
   cases e;intro c hc;obtain⟨c0,h0,rfl⟩:=Bu.1 hc;exact hf _<|this c0 h0
  | _=>cases e;trivial
def DQ.app{e:Step}(h:DQ F s.H)(he:Gn F e):DQ F (s.app e).H:=by
 intro j ob hj hob;rw[L5]at hob;split at hob
 .exact he ob hob
 .exact aaU (λc hc=>Fk.aQ _ _ hc) (λob ho=>h j ob hj ho) ob hob
def aBJ(s:S)(id:Nat):∃fk,s.freeze id=s.app ⟨id,fk,G⟩/\ ∀s2:S,s2.H id=s.H id->s2.freeze id=s2.app ⟨id,fk,G⟩:=by
 cases h:s.H id with
 | none=>exact⟨.kl,by simp only[S.freeze,h];rfl,λs2 h2=>by simp only[S.freeze,h2];rfl⟩
 | some ob=>
  cases ob with
  | row e fz k xs=>exact⟨.fz k xs,by simp only[S.freeze,h];rfl,λs2 h2=>by simp only[S.freeze,h2];rfl⟩
  | box e cs=>exact⟨.kl,by simp only[S.freeze,h];rfl,λs2 h2=>by simp only[S.freeze,h2];rfl⟩
  | arr e k xs=>exact⟨.kl,by simp only[S.freeze,h];rfl,λs2 h2=>by simp only[S.freeze,h2];rfl⟩
def WJ:∀(ids:List Nat) (s:S),(∀i∈ids,F i)->∃es:List Step,(∀e∈es,e.id∈ids/\e.ob=G)/\ids.foldl S.freeze s=es.foldl S.app s/\ ∀s2:S,Agr F s.H s2.H->ids.foldl S.freeze s2=es.foldl S.app s2
 | [],s,_=>⟨[],by simp,rfl,λ_ _=>rfl⟩
 | i::ids,s,hF=>by
  obtain⟨fk,h1,h2⟩:=aBJ s i;obtain⟨es,h3,h4,h5⟩:=WJ ids (s.freeze i) λj hj=>hF j<|Ai _ hj;refine⟨⟨i,fk,G⟩::es,λe he=> ?_, ?_,λs2 hs=> ?_⟩
  .rcases Bl.1 he with rfl|he
   .exact⟨An,rfl⟩
   .exact⟨Ai _ (h3 e he).1,(h3 e he).2⟩
  .show ids.foldl S.freeze (s.freeze i)=es.foldl S.app (s.app ⟨i,fk,G⟩);rw[h4,h1]
  .have e1:=h2 s2<|hs i<|hF i An;simp only[Dv,e1];refine h5 _ ?_;rw[h1];exact hs.app _
def aCf:∀(ids:List Nat) (s:S),∃es:List Step,(∀e∈es,e.id∈ids/\e.ob=G)/\ids.foldl S.kill s=es.foldl S.app s/\ ∀s2:S,ids.foldl S.kill s2=es.foldl S.app s2
 | [],s=>⟨[],by simp,rfl,λ_=>rfl⟩
 | i::ids,s=>by
  obtain⟨es,h3,h4,h5⟩:=aCf ids<|s.kill i;refine⟨⟨i,.kl,G⟩::es,λe he=> ?_, ?_,λs2=> ?_⟩
  .rcases Bl.1 he with rfl|he
   .exact⟨An,rfl⟩
   .exact⟨Ai _ (h3 e he).1,(h3 e he).2⟩
  .exact h4
  .exact h5 _
def axd{k:K}{cs:List AV}(hc:∀c∈cs,In1 F c)(hH:Agr F H H'):dec H' k cs=dec H k cs:=by
 have key:∀c∈cs,∀k,CD H' k c=CD H k c:=λc hm k=>mq (.of1<|hc c hm) hH;unfold dec;split<;>first|rfl|simp[key]
def Loc.mk1{α:Type}{g:S->Option (α×S)}{x:α}(e:Step)(hW:W e.id)(ho:Gn F e)(h1:s'=s.app e)(h:∀s2:S,Agr F s.H s2.H->g s2=I (x,s2.app e)):Loc F W g s x s':=
 ⟨[e],λe' he=>by simp at he;subst he;exact⟨hW,ho⟩,h1,h⟩
def aaw{ys:List AV}(hy:∀c∈ys,In1 F c):∀i∈ys.filterMap Gz,F i:=by
 intro i hi;obtain⟨c,h1,h2⟩:=GO.1 hi;have:=hy c h1;cases c<;>first|(cases h2;done)|(cases h2;exact this)
def arp{t:TypeId}{x y:AV}(hx:InA F x)(hy:InA F y)(hcl:DQ F s.H)(h:IZ P t s x y=I s'):Loc F (λi=>i∈OQ s.H x y) (λs=>(IZ P t s x y).map λs=>((),s)) s () s':=by
 cases x<;>first|(cases h;done)|skip
 rename_i id z i o;have hid:F id:=hx;simp only[IZ]at h;split at h
 .rename_i e cs hob;split at h
  .obtain⟨ys,hc,h⟩:=Ah.1 h;split at h
   .rename_i hg;cases h;refine .mk1 ⟨id,.no,I<|.box e<|Gw cs o ys⟩ (by simp[OQ,hob]) ?_ (J7 _ _ _).symm λs2 h2=> ?_
    .intro ob e';cases e';exact jq (hcl id _ hid hob) (XH hy hc)
    .rw[J7];simp only[IZ,h2 id hid,hob,hc,A6,hg];rfl
   .cases h
  .cases h
 .rename_i e fz k xs hob;obtain⟨ys,hc,h⟩:=Ah.1 h;split at h
  .rename_i hg;obtain⟨v,hd,h⟩:=Ah.1 h;cases h;have hys:=XH hy hc;obtain⟨es,h3,h4,h5⟩:=WJ (F:=F) (ys.filterMap Gz) s<|aaw hys;refine⟨es++[⟨id,.no,I<|.row e fz k<|xs.set i v⟩],λe' he=> ?_, ?_,λs2 h2=> ?_⟩
   .have hsw:OQ s.H (.ptr id z i o) y=id::ys.filterMap Gz:=by simp[OQ,hob,hc]
    rw[hsw];obtain he|he:=BM.1 he
    .exact⟨Ai _ (h3 e' he).1,λob eo=>by rw[(h3 e' he).2]at eo;cases eo⟩
    .simp at he;subst he;exact⟨An,λob eo=>by cases eo;trivial⟩
   .rw[G1,← h4];exact(J7 _ _ _).symm
   .rw[G1,← h5 s2 h2];have hd2:dec s2.H k (Gw (enc k<|xs.getD i<|dfl k) o ys)=I v:=by
     rw[axd (jq (Sn _ _) hys) h2];exact hd
    simp only[IZ,h2 id hid,hob,hc,A6,hg,hd2,Dv,K7,J7];rfl
  .cases h
 .rename_i e k xs hob;obtain⟨ys,hc,h⟩:=Ah.1 h;split at h
  .rename_i hg;obtain⟨v,hd,h⟩:=Ah.1 h;cases h;refine .mk1 ⟨id,.no,I<|.arr e k<|xs.set i v⟩ (by simp[OQ,hob]) (λob e'=>by cases e';trivial) (J7 _ _ _).symm λs2 h2=> ?_;rw[J7];simp only[IZ,h2 id hid,hob,hc,A6,hg,hd];rfl
  .cases h
 .cases h
def aqk{t t2:TypeId}{x y v:AV}{q:Bool}(hx:InA F x)(hy:InA F y)(hb:F b)(h:Kb P kd t t2 s b x y=I (q,v,s')):
  Loc F (λi=>i=b\/i∈Ju x) (λs=>(Kb P kd t t2 s b x y).map λr=>((r.1,r.2.1),r.2.2)) s (q,v) s'/\InA F v:=by
 unfold Kb at h;obtain⟨e,he,h1⟩:=Ah.1 h;obtain⟨k,hk,h2⟩:=Ah.1 h1;obtain⟨ys,hys,h3⟩:=Ah.1 h2;clear h h1 h2;revert h3;intro h;split at h
 .rename_i hg;cases h;refine⟨.mk1 ⟨b,.no,I<|.row e A0 k ys⟩ (.inl rfl) (λob e'=>by cases e';trivial) (J7 _ _ _).symm λs2 h2=> ?_,.of1 hb⟩;rw[J7];simp only[Kb,he,hk,A6,mN hy h2,hys,hg];rfl
 .rename_i id hg;have hid:F id:=hx;split at h
  .rename_i e' k' xs hob hne;split at h
   .rename_i hee;obtain⟨zs,hz,h⟩:=Ah.1 h;cases h;refine⟨.mk1 ⟨id,.kl,I<|.row e A0 k<|zs++ys⟩ (.inr<|by simp[Ju,Gz]) (λob e'=>by cases e';trivial) rfl λs2 h2=> ?_,.of1 hid⟩;simp only[Kb,he,hk,A6,mN hy h2,hys,hg,h2 id hid,hob,hne,hee,hz];rfl
   .cases h
  .cases h
 .cases h
def auk{t:TypeId}{x y v:AV}(hx:InA F x)(hy:InA F y)(h:Kj P t s x y=I (v,s')):
  Loc F (λi=>i∈Ju x) (λs=>Kj P t s x y) s v s'/\InA F v:=by
 unfold Kj at h;split at h
 .rename_i id;have hid:F id:=hx;split at h
  .rename_i e fz k xs hob hne;obtain⟨e',he,h⟩:=Ah.1 h;split at h
   .rename_i hg;obtain⟨ys,hys,h⟩:=Ah.1 h;cases h;refine⟨.mk1 ⟨id,.no,I<|.row e fz k<|ys.take xs.length++xs.drop ys.length⟩ (by simp[Ju,Gz]) (λob e'=>by cases e';trivial) (J7 _ _ _).symm λs2 h2=> ?_,.of1 trivial⟩;rw[J7];simp only[Kj,h2 id hid,hob,hne,he,A6,hg,mN hy h2,hys]
   .cases h
  .cases h
 .cases h
def apQ{id:Nat}{z:Bool}{lo hi:Option AV}{v:AV}{q:Bool}(hid:F id)(h:KX s id z lo hi=I (q,v,s')):
  Loc F (λi=>i=id) (λs=>(KX s id z lo hi).map λr=>((r.1,r.2.1),r.2.2)) s (q,v) s'/\InA F v:=by
 unfold KX at h;split at h
 .rename_i e fz k xs hob;obtain⟨⟨c,l,hh⟩,hc,h⟩:=Ah.1 h;simp only at h;split at h
  .cases h;refine⟨.mk1 ⟨id,.kl,I<|.row e fz k<|Ij lo G l hh xs⟩ rfl (λob e'=>by cases e';trivial) rfl λs2 h2=> ?_,.of1 hid⟩;simp only[KX,h2 id hid,hob,hc,A6];rfl
  .cases h
  .cases h;obtain⟨fk,h1,h2⟩:=aBJ s id;refine⟨.mk1 ⟨id,fk,G⟩ rfl (λob e'=>by cases e') h1 λs2 h3=> ?_,.of1 trivial⟩;rw[← h2 s2<|h3 id hid];simp only[KX,h3 id hid,hob,hc,A6];rfl
 .cases h
end
end Go.VS
namespace Go.VS
open Go
abbrev EQ(es:List (Nat×Ob))(H:Hp):Hp:=es.foldl (λH p=>upd H p.1<|I p.2) H
section
variable {F W:Nat->Prop} {H H':Hp} {P:Program} {s s' s2:S} {b:Nat} {E:Nat->AV}
set_option linter.unusedSectionVars false
def InA.Is{cs:List AV}(h:∀c∈cs,In1 F c):∀c∈cs,InA F c:=λc hc=> .of1<|h c hc
section eqs
variable (hH:Agr F H H') (hC:DQ F H)
include hH hC
mutual
theorem avK:∀(h:Sh) (v:AV),InA F v->Bn E H' h v=Bn E H h v
 | .int _,v,_=>by cases v with
  | lit v=>cases v<;>rfl
  | _=>rfl
 | .bool,v,_=>by cases v with
  | lit v=>cases v<;>rfl
  | _=>rfl
 | .str,v,_=>by cases v with
  | lit v=>cases v<;>rfl
  | _=>rfl
 | .sl _,v,_=>by
  cases v with
  | lit v=>cases v with
   | slice a n c=>cases a<;>cases n<;>cases c<;>rfl
   | _=>rfl
  | _=>rfl
 | .arr _,v,_=>by cases v<;>rfl
 | .same _,v,_=>by
  cases v with
  | ptr id z i o=>cases i<;>cases o<;>rfl
  | _=>rfl
 | .fz k,v,hv=>mq hv hH
 | .row e k,v,hv=>by
  cases v with
  | own id=>simp only[Bn,hH id hv]
  | lit v=>cases v with
   | slice a n c=>cases a<;>cases n<;>cases c<;>rfl
   | _=>rfl
  | _=>rfl
 | .Cf e k,v,hv=>by
  cases v with
  | own id=>simp only[Bn,hH id hv]
  | _=>rfl
 | .abx e k,v,hv=>by
  cases v with
  | ptr id z i o=>cases i<;>cases o<;>first|rfl|simp only[Bn,hH id hv]
  | _=>rfl
 | .agg l,v,hv=>by
  cases v with
  | agg cs=>exact SW l cs<|InA.Is hv
  | _=>rfl
 | .box e l,v,hv=>by
  cases v with
  | ptr id z i o=>
   cases i<;>cases o<;>first|rfl|skip
   simp only[Bn,hH id hv];cases ho:H id with
   | none=>rfl
   | some ob=>
    cases ob with
    | box e' cs=>
     have:=SW l cs<|InA.Is<|hC id _ hv ho;simp only[this]
    | _=>rfl
  | _=>rfl
theorem SW:∀(l:List Sh) (cs:List AV),(∀c∈cs,InA F c)->GD E H' l cs=GD E H l cs
 | [],[],_=>rfl
 | [],_::_,_=>rfl
 | _::_,[],_=>rfl
 | h::l,c::cs,hv=>by
  simp only[GD,avK h c<|hv c An,SW l cs λd hd=>hv d<|Ai _ hd]
end
mutual
theorem awA:∀(h:Sh) (v:AV),InA F v->Cc H' h v=Cc H h v
 | .int _,_,_=>rfl
 | .bool,_,_=>rfl
 | .str,_,_=>rfl
 | .sl _,_,_=>rfl
 | .arr _,_,_=>rfl
 | .same _,_,_=>rfl
 | .fz k,_,_=>rfl
 | .row e k,v,_=>by cases v<;>rfl
 | .Cf e k,v,_=>by cases v<;>rfl
 | .abx e k,v,_=>by
  cases v with
  | ptr id z i o=>cases i<;>cases o<;>rfl
  | _=>rfl
 | .agg l,v,hv=>by
  cases v with
  | agg cs=>exact SY l cs<|InA.Is hv
  | _=>rfl
 | .box e l,v,hv=>by
  cases v with
  | ptr id z i o=>
   cases i<;>cases o<;>first|rfl|skip
   simp only[Cc,hH id hv];cases ho:H id with
   | none=>rfl
   | some ob=>
    cases ob with
    | box e' cs=>
     have:=SY l cs<|InA.Is<|hC id _ hv ho;simp only[this]
    | _=>rfl
  | _=>rfl
theorem SY:∀(l:List Sh) (cs:List AV),(∀c∈cs,InA F c)->Bi H' l cs=Bi H l cs
 | [],_,_=>by simp only[Bi]
 | _::_,[],_=>by simp only[Bi]
 | h::l,c::cs,hv=>by
  simp only[Bi,awA h c<|hv c An,SY l cs λd hd=>hv d<|Ai _ hd]
end
mutual
theorem avv:∀(h:Sh) (v:AV),InA F v->CC H' h v=CC H h v
 | .int _,_,_=>rfl
 | .bool,_,_=>rfl
 | .str,_,_=>rfl
 | .sl _,_,_=>rfl
 | .arr _,_,_=>rfl
 | .same _,_,_=>rfl
 | .fz k,_,_=>rfl
 | .row e k,v,_=>by cases v<;>rfl
 | .Cf e k,v,_=>by cases v<;>rfl
 | .abx e k,v,_=>by
  cases v with
  | ptr id z i o=>cases i<;>cases o<;>rfl
  | _=>rfl
 | .agg l,v,hv=>by
  cases v with
  | agg cs=>exact SV l cs<|InA.Is hv
  | _=>rfl
 | .box e l,v,hv=>by
  cases v with
  | ptr id z i o=>
   cases i<;>cases o<;>first|rfl|skip
   simp only[CC,hH id hv];cases ho:H id with
   | none=>rfl
   | some ob=>
    cases ob with
    | box e' cs=>
     have:=SV l cs<|InA.Is<|hC id _ hv ho;simp only[this]
    | _=>rfl
  | _=>rfl
theorem SV:∀(l:List Sh) (cs:List AV),(∀c∈cs,InA F c)->Ca H' l cs=Ca H l cs
 | [],_,_=>by simp only[Ca]
 | _::_,[],_=>by simp only[Ca]
 | h::l,c::cs,hv=>by
  simp only[Ca,avv h c<|hv c An,SV l cs λd hd=>hv d<|Ai _ hd]
end
mutual
theorem awE:∀(h:Sh) (v:AV),InA F v->Ck H' h v=Ck H h v
 | .int _,_,_=>rfl
 | .bool,_,_=>rfl
 | .str,_,_=>rfl
 | .sl _,_,_=>rfl
 | .arr _,_,_=>rfl
 | .same _,_,_=>rfl
 | .fz k,v,_=>by cases v<;>rfl
 | .row e k,_,_=>rfl
 | .Cf e k,_,_=>rfl
 | .abx e k,_,_=>rfl
 | .agg l,v,hv=>by
  cases v with
  | agg cs=>exact Xm l cs<|InA.Is hv
  | _=>rfl
 | .box e l,v,hv=>by
  cases v with
  | ptr id z i o=>
   cases i<;>cases o<;>first|rfl|skip
   simp only[Ck,hH id hv];cases ho:H id with
   | none=>rfl
   | some ob=>
    cases ob with
    | box e' cs=>
     have:=Xm l cs<|InA.Is<|hC id _ hv ho;simp only[this]
    | _=>rfl
  | _=>rfl
theorem Xm:∀(l:List Sh) (cs:List AV),(∀c∈cs,InA F c)->Cs H' l cs=Cs H l cs
 | [],_,_=>by simp only[Cs]
 | _::_,[],_=>by simp only[Cs]
 | h::l,c::cs,hv=>by
  simp only[Cs,awE h c<|hv c An,Xm l cs λd hd=>hv d<|Ai _ hd]
end
end eqs
section mem
variable (hC:DQ F H)
include hC
mutual
theorem avG:∀(h:Sh) (v:AV),InA F v->∀i∈CC H h v,F i
 | .int _,_,_,_,hi=>by simp[CC]at hi
 | .bool,_,_,_,hi=>by simp[CC]at hi
 | .str,_,_,_,hi=>by simp[CC]at hi
 | .sl _,_,_,_,hi=>by simp[CC]at hi
 | .arr _,_,_,_,hi=>by simp[CC]at hi
 | .same _,_,_,_,hi=>by simp[CC]at hi
 | .fz k,_,_,_,hi=>by simp[CC]at hi
 | .row e k,v,hv,i,hi=>by
  cases v<;>simp[CC]at hi;subst hi;exact hv
 | .Cf e k,v,hv,i,hi=>by
  cases v<;>simp[CC]at hi;subst hi;exact hv
 | .abx e k,v,hv,j,hi=>by
  cases v with
  | ptr id z i o=>
   cases i<;>cases o<;>simp[CC]at hi;subst hi;exact hv
  | _=>simp[CC]at hi
 | .agg l,v,hv,j,hi=>by
  cases v with
  | agg cs=>exact XW l cs (InA.Is hv) j<|by simpa[CC] using hi
  | _=>simp[CC]at hi
 | .box e l,v,hv,j,hi=>by
  cases v with
  | ptr id z i o=>
   cases i<;>cases o<;>simp only[CC]at hi<;>first|(simp at hi;done)|skip
   cases ho:H id with
   | none=>simp[ho]at hi
   | some ob=>
    cases ob with
    | box e' cs=>
     simp only[ho]at hi;exact XW l cs (InA.Is<|hC id _ hv ho) j hi
    | _=>simp[ho]at hi
  | _=>simp[CC]at hi
theorem XW:∀(l:List Sh) (cs:List AV),(∀c∈cs,InA F c)->∀i∈Ca H l cs,F i
 | [],cs,_,i,hi=>by simp[Ca]at hi
 | _::_,[],_,i,hi=>by simp[Ca]at hi
 | h::l,c::cs,hv,i,hi=>by
  simp only[Ca,BM]at hi;obtain hi|hi:=hi
  .exact avG h c (hv c An) i hi
  .exact XW l cs (λd hd=>hv d<|Ai _ hd) i hi
end
mutual
theorem awF:∀(h:Sh) (v:AV),InA F v->∀i∈Ck H h v,F i
 | .int _,_,_,_,hi=>by simp[Ck]at hi
 | .bool,_,_,_,hi=>by simp[Ck]at hi
 | .str,_,_,_,hi=>by simp[Ck]at hi
 | .sl _,_,_,_,hi=>by simp[Ck]at hi
 | .arr _,_,_,_,hi=>by simp[Ck]at hi
 | .same _,_,_,_,hi=>by simp[Ck]at hi
 | .row e k,_,_,_,hi=>by simp[Ck]at hi
 | .Cf e k,_,_,_,hi=>by simp[Ck]at hi
 | .abx e k,_,_,_,hi=>by simp[Ck]at hi
 | .fz k,v,hv,i,hi=>by
  cases v<;>simp[Ck]at hi;subst hi;exact hv
 | .agg l,v,hv,j,hi=>by
  cases v with
  | agg cs=>exact SZ l cs (InA.Is hv) j<|by simpa[Ck] using hi
  | _=>simp[Ck]at hi
 | .box e l,v,hv,j,hi=>by
  cases v with
  | ptr id z i o=>
   cases i<;>cases o<;>simp only[Ck]at hi<;>first|(simp at hi;done)|skip
   cases ho:H id with
   | none=>simp[ho]at hi
   | some ob=>
    cases ob with
    | box e' cs=>
     simp only[ho]at hi;exact SZ l cs (InA.Is<|hC id _ hv ho) j hi
    | _=>simp[ho]at hi
  | _=>simp[Ck]at hi
theorem SZ:∀(l:List Sh) (cs:List AV),(∀c∈cs,InA F c)->∀i∈Cs H l cs,F i
 | [],cs,_,i,hi=>by simp[Cs]at hi
 | _::_,[],_,i,hi=>by simp[Cs]at hi
 | h::l,c::cs,hv,i,hi=>by
  simp only[Cs,BM]at hi;obtain hi|hi:=hi
  .exact awF h c (hv c An) i hi
  .exact SZ l cs (λd hd=>hv d<|Ai _ hd) i hi
end
end mem
mutual
theorem EL (E:Nat->AV):∀(h:Sh) (H:Hp) (b:Nat) (x:LT h),b<=(BI E H b h x).2.2
 | .int _,_,b,_=>Ar b
 | .bool,_,b,_=>Ar b
 | .str,_,b,_=>Ar b
 | .sl _,_,b,_=>Ar b
 | .arr _,_,b,_=>Ar b
 | .same _,_,b,_=>Ar b
 | .fz _,_,b,_=>Ar b
 | .row _ _,_,b,_=>lj b
 | .Cf _ _,_,b,_=>lj b
 | .abx _ _,_,b,_=>lj b
 | .agg l,H,b,x=>by
  have:=J3 E l H b x;show b<=((match Aj E H b l x with|(cs,H,b)=>(AV.agg cs,H,b)):AV×Hp×Nat).2.2;generalize Aj E H b l x=r at *;obtain⟨cs,H',b'⟩:=r;exact this
 | .box e l,H,b,x=>by
  have:=J3 E l H b x;show b<=((match Aj E H b l x with|(cs,H,b)=>(AV.ptr b cs.length 0 0,upd H b<|I<|.box e cs,b+1)):AV×Hp×Nat).2.2;generalize Aj E H b l x=r at *;obtain⟨cs,H',b'⟩:=r;exact Nat.le_succ_of_le this
theorem J3 (E:Nat->AV):∀(l:List Sh) (H:Hp) (b:Nat) (x:LTs l),b<=(Aj E H b l x).2.2
 | [],_,b,_=>Ar b
 | h::l,H,b,x=>by
  have h1:=EL E h H b x.1;show b<=((match BI E H b h x.1 with|(c,H,b)=>match Aj E H b l x.2 with|(cs,H,b)=>(c::cs,H,b)):List AV×Hp×Nat).2.2;generalize BI E H b h x.1=r at *;obtain⟨c,H',b'⟩:=r;have h2:=J3 E l H' b' x.2;show b<=((match Aj E H' b' l x.2 with|(cs,H,b)=>(c::cs,H,b)):List AV×Hp×Nat).2.2;generalize Aj E H' b' l x.2=r at *;obtain⟨cs,H'',b''⟩:=r;exact CV h1 h2
end
mutual
theorem kX (E:Nat->AV) (H H':Hp):∀(h:Sh) (b:Nat) (x:LT h),(BI E H b h x).1=(BI E H' b h x).1/\(BI E H b h x).2.2=(BI E H' b h x).2.2
 | .int _,_,_=>⟨rfl,rfl⟩
 | .bool,_,_=>⟨rfl,rfl⟩
 | .str,_,_=>⟨rfl,rfl⟩
 | .sl _,_,_=>⟨rfl,rfl⟩
 | .arr _,_,_=>⟨rfl,rfl⟩
 | .same _,_,_=>⟨rfl,rfl⟩
 | .fz _,_,_=>⟨rfl,rfl⟩
 | .row _ _,_,_=>⟨rfl,rfl⟩
 | .Cf _ _,_,_=>⟨rfl,rfl⟩
 | .abx _ _,_,_=>⟨rfl,rfl⟩
 | .agg l,b,x=>by
  have:=Pj E H H' l b x;have un:∀H,BI E H b (.agg l) x=(match Aj E H b l x with|(cs,H,b)=>(AV.agg cs,H,b)):=λ_=>rfl;rw[un,un];generalize Aj E H b l x=r at *;generalize Aj E H' b l x=r' at *;obtain⟨cs,H1,b1⟩:=r;obtain⟨cs',H1',b1'⟩:=r';obtain⟨rfl,rfl⟩:=this;exact⟨rfl,rfl⟩
 | .box e l,b,x=>by
  have:=Pj E H H' l b x;have un:∀H,BI E H b (.box e l) x=(match Aj E H b l x with|(cs,H,b)=>(AV.ptr b cs.length 0 0,upd H b<|I<|.box e cs,b+1)):=λ_=>rfl;rw[un,un];generalize Aj E H b l x=r at *;generalize Aj E H' b l x=r' at *;obtain⟨cs,H1,b1⟩:=r;obtain⟨cs',H1',b1'⟩:=r';obtain⟨rfl,rfl⟩:=this;exact⟨rfl,rfl⟩
theorem Pj (E:Nat->AV) (H H':Hp):∀(l:List Sh) (b:Nat) (x:LTs l),(Aj E H b l x).1=(Aj E H' b l x).1/\(Aj E H b l x).2.2=(Aj E H' b l x).2.2
 | [],_,_=>⟨rfl,rfl⟩
 | h::l,b,x=>by
  have h1:=kX E H H' h b x.1;have un:∀H,Aj E H b (h::l) x=(match BI E H b h x.1 with|(c,H,b)=>match Aj E H b l x.2 with|(cs,H,b)=>(c::cs,H,b)):=λ_=>rfl;rw[un,un];generalize BI E H b h x.1=r at *;generalize BI E H' b h x.1=r' at *;obtain⟨c,H1,b1⟩:=r;obtain⟨c',H1',b1'⟩:=r';obtain⟨rfl,rfl⟩:=h1;have h2:=Pj E H1 H1' l b1 x.2;simp only;generalize Aj E H1 b1 l x.2=r at *;generalize Aj E H1' b1 l x.2=r' at *;obtain⟨cs,H2,b2⟩:=r;obtain⟨cs',H2',b2'⟩:=r';obtain⟨rfl,rfl⟩:=h2;exact⟨rfl,rfl⟩
end
mutual
theorem XT (E:Nat->AV):∀(h:Sh) (b:Nat) (x:LT h) (L:Nat),Dk h=Y->(∀j,b<=j->j<L->F j/\W j)->(∀H,(BI E H b h x).2.2<=L)->
  ∃v es b',In1 F v/\(∀p∈es,W p.1/\Ey F p.2)/\ ∀H,BI E H b h x=(v,EQ es H,b')
 | .int k,b,x,_,_,_,_=>⟨.lit<|.int k x,[],b,trivial,by simp,λ_=>rfl⟩
 | .bool,b,x,_,_,_,_=>⟨.b x,[],b,trivial,by simp,λ_=>rfl⟩
 | .str,b,x,_,_,_,_=>⟨.s x,[],b,trivial,by simp,λ_=>rfl⟩
 | .sl k,b,x,_,_,_,_=>⟨.sl k x,[],b,trivial,by simp,λ_=>rfl⟩
 | .arr _,_,_,_,h,_,_=>by simp[Dk]at h
 | .same _,_,_,_,h,_,_=>by simp[Dk]at h
 | .fz k,b,x,_,_,_,_=>⟨.sl k x,[],b,trivial,by simp,λ_=>rfl⟩
 | .row e k,b,x,L,_,hF,hL=>⟨.own b,[(b,.row e A0 k x)],b+1,(hF b (Ar b)<|hL λ_=>G).1,λp hp=>by
   simp at hp;subst hp;exact⟨(hF b (Ar b)<|hL λ_=>G).2,trivial⟩,λ_=>rfl⟩
 | .Cf e k,b,x,L,_,hF,hL=>⟨.own b,[(b,.row e Y k x)],b+1,(hF b (Ar b)<|hL λ_=>G).1,λp hp=>by
   simp at hp;subst hp;exact⟨(hF b (Ar b)<|hL λ_=>G).2,trivial⟩,λ_=>rfl⟩
 | .abx e k,b,x,L,_,hF,hL=>⟨.ptr b (ks k) 0 0,[(b,.arr e k x)],b+1,(hF b (Ar b)<|hL λ_=>G).1,λp hp=>by
   simp at hp;subst hp;exact⟨(hF b (Ar b)<|hL λ_=>G).2,trivial⟩,λ_=>rfl⟩
 | .agg _,_,_,_,h,_,_=>by simp[Dk]at h
 | .box e l,b,x,L,h,hF,hL=>by
  have un:∀H,BI E H b (.box e l) x=(match Aj E H b l x with|(cs,H,b)=>(AV.ptr b cs.length 0 0,upd H b<|I<|.box e cs,b+1)):=λ_=>rfl;have hL':∀H,(Aj E H b l x).2.2+1<=L:=λH=>by
   have:=hL H;rw[un]at this;generalize Aj E H b l x=r at *;exact this
  obtain⟨vs,es,b',h1,h2,h3⟩:=jf E l b x L (by simpa[Dk] using h) hF (λH=>Nat.le_of_succ_le<|hL' H);have hb':b'<L:=by have:=hL' λ_=>G;rw[h3]at this;exact this
  have hbb:b<=b':=by have:=J3 E l (λ_=>G) b x;rw[h3]at this;exact this
  refine⟨.ptr b' vs.length 0 0,es++[(b',.box e vs)],b'+1,(hF b' hbb hb').1,λp hp=> ?_,λH=> ?_⟩
  .rcases BM.1 hp with hp|hp
   .exact h2 p hp
   .simp at hp;subst hp;exact⟨(hF b' hbb hb').2,h1⟩
  .rw[un,h3];simp[EQ,G1]
theorem jf (E:Nat->AV):∀(l:List Sh) (b:Nat) (x:LTs l) (L:Nat),Hy l=Y->(∀j,b<=j->j<L->F j/\W j)->(∀H,(Aj E H b l x).2.2<=L)->
  ∃vs es b',(∀v∈vs,In1 F v)/\(∀p∈es,W p.1/\Ey F p.2)/\ ∀H,Aj E H b l x=(vs,EQ es H,b')
 | [],b,_,_,_,_,_=>⟨[],[],b,by simp,by simp,λ_=>rfl⟩
 | h::l,b,x,L,hl,hF,hL=>by
  simp only[Hy,AD]at hl;have un:∀H,Aj E H b (h::l) x=(match BI E H b h x.1 with|(c,H,b)=>match Aj E H b l x.2 with|(cs,H,b)=>(c::cs,H,b)):=λ_=>rfl;have hL1:∀H,(BI E H b h x.1).2.2<=L:=λH=>by
   have:=hL H;rw[un]at this;generalize BI E H b h x.1=r at *;obtain⟨c,H',b'⟩:=r;have h2:=J3 E l H' b' x.2;simp only at this;generalize Aj E H' b' l x.2=r at *;exact CV h2 this
  obtain⟨v,es,b',h1,h2,h3⟩:=XT E h b x.1 L hl.1 hF hL1;have hbb:b<=b':=by have:=EL E h (λ_=>G) b x.1;rw[h3]at this;exact this
  have hL2:∀H,(Aj E H b' l x.2).2.2<=L:=λH=>by
   have:=hL H;rw[un,h3]at this;simp only at this;rw[(Pj E H (EQ es H) l b' x.2).2];generalize Aj E (EQ es H) b' l x.2=r at *;exact this
  obtain⟨vs,es',b'',h4,h5,h6⟩:=jf E l b' x.2 L hl.2 (λj h1 h2=>hF j (CV hbb h1) h2) hL2;refine⟨v::vs,es++es',b'',λc hc=> ?_,λp hp=> ?_,λH=> ?_⟩
  .rcases Bl.1 hc with rfl|hc
   .exact h1
   .exact h4 c hc
  .rcases BM.1 hp with hp|hp
   .exact h2 p hp
   .exact h5 p hp
  .rw[un,h3];simp only[h6,EQ,G1]
end
def kB{E:Nat->AV}{H:Hp}{b:Nat}{h:Sh}{v:AV}{x:LT h}(hl:Dk h=Y)(hn:∀e l,h= .box e l->∀id z,v≠ .ptr id z 0 0):Cy E H b h v x=BI E H b h x:=by
 cases h<;>first|rfl|(simp[Dk]at hl;done)|skip
 rename_i e l;cases v<;>first|rfl|skip
 rename_i id z i o;cases i<;>cases o<;>first|rfl|exact absurd rfl (hn e l rfl id z)
mutual
theorem aEy (E:Nat->AV):∀(h:Sh) (H:Hp) (b:Nat) (v:AV) (x:LT h),Dk h=Y->b<=(Cy E H b h v x).2.2
 | .box e l,H,b,v,x,hl=>by
  by_cases hv:∃id z,v= .ptr id z 0 0
  .obtain⟨id,z,rfl⟩:=hv;have un:Cy E H b (.box e l) (.ptr id z 0 0) x=(match H id with
    | some (.box _ cs)=>(match BP E H b l cs x with|(ds,H,b)=>(AV.ptr id z 0 0,upd H id<|I<|.box e ds,b))
    | _=>(.un,H,b)):=rfl
   rw[un];cases H id with
   | none=>exact Ar b
   | some ob=>
    cases ob with
    | box e' cs=>
     have:=Xl E l H b cs x (by simpa[Dk] using hl);simp only;generalize BP E H b l cs x=r at *;obtain⟨ds,H',b'⟩:=r;exact this
    | _=>exact Ar b
  .rw[kB hl λ_ _ _ id z e=>hv ⟨id,z,e⟩];exact EL E _ H b x
 | .int _,H,b,v,x,hl=>EL E _ H b x
 | .bool,H,b,v,x,hl=>EL E _ H b x
 | .str,H,b,v,x,hl=>EL E _ H b x
 | .sl _,H,b,v,x,hl=>EL E _ H b x
 | .row _ _,H,b,v,x,hl=>EL E _ H b x
 | .fz _,H,b,v,x,hl=>EL E _ H b x
 | .Cf _ _,H,b,v,x,hl=>EL E _ H b x
 | .abx _ _,H,b,v,x,hl=>EL E _ H b x
 | .arr _,H,b,v,x,hl=>EL E _ H b x
 | .same _,_,_,_,_,hl=>by simp[Dk]at hl
 | .agg _,_,_,_,_,hl=>by simp[Dk]at hl
theorem Xl (E:Nat->AV):∀(l:List Sh) (H:Hp) (b:Nat) (cs:List AV) (x:LTs l),Hy l=Y->b<=(BP E H b l cs x).2.2
 | [],_,b,_,_,_=>Ar b
 | h::l,H,b,cs,x,hl=>by
  simp only[Hy,AD]at hl;have h1:=aEy E h H b (cs.headD .un) x.1 hl.1;have un:BP E H b (h::l) cs x=(match Cy E H b h (cs.headD .un) x.1 with|(d,H,b)=>match BP E H b l cs.tail x.2 with|(ds,H,b)=>(d::ds,H,b)):=rfl;rw[un];generalize Cy E H b h (cs.headD .un) x.1=r at *;obtain⟨c,H',b'⟩:=r;have h2:=Xl E l H' b' cs.tail x.2 hl.2;simp only;generalize BP E H' b' l cs.tail x.2=r at *;obtain⟨cs,H'',b''⟩:=r;exact CV h1 h2
end
def atN{es:List (Nat×Ob)}(h:Agr F H H'):Agr F (EQ es H) (EQ es H'):=by
 induction es generalizing H H' with
 | nil=>exact h
 | cons p es ih=>
  refine ih λid hid=> ?_;by_cases e:id=p.1
  .subst e;simp only[Bf]
  .simp only[BB _ _ e];exact h id hid
def apb{es:List (Nat×Ob)}(h:DQ F H)(he:∀p∈es,Ey F p.2):DQ F (EQ es H):=by
 induction es generalizing H with
 | nil=>exact h
 | cons p es ih=>
  refine ih (λid ob hid ho=> ?_) (λq hq=>he q<|Ai _ hq);by_cases e:id=p.1
  .subst e;simp only[Bf]at ho;cases ho;exact he p An
  .simp only[BB _ _ e]at ho;exact h id ob hid ho
def Ms{E:Nat->AV}{H:Hp}{b:Nat}{h:Sh}{v:AV}{x:LT h}{L:Nat}(eq:∀H,Cy E H b h v x=BI E H b h x)(hl:Dk h=Y)(hF:∀j,b<=j->j<L->F j)(hL:(Cy E H b h v x).2.2<=L):
  ∃v' es b',In1 F v'/\(∀p∈es,F p.1/\Ey F p.2)/\ ∀H',Agr F H H'->Cy E H' b h v x=(v',EQ es H',b'):=by
 obtain⟨v',es,b',h1,h2,h3⟩:=XT (F:=F) (W:=F) E h b x L hl (λj h1 h2=>⟨hF j h1 h2,hF j h1 h2⟩) (λH0=>by rw[(kX E H0 H _ b x).2,← eq H];exact hL);exact⟨v',es,b',h1,h2,λH' _=>by rw[eq,h3]⟩
mutual
theorem aur (E:Nat->AV):∀(h:Sh) (H:Hp) (b:Nat) (v:AV) (x:LT h) (L:Nat),Dk h=Y->(∀j,b<=j->j<L->F j)->InA F v->DQ F H->(Cy E H b h v x).2.2<=L->
  ∃v' es b',In1 F v'/\(∀p∈es,F p.1/\Ey F p.2)/\ ∀H',Agr F H H'->Cy E H' b h v x=(v',EQ es H',b')
 | .box e l,H,b,v,x,L,hl,hF,hv,hC,hL=>by
  by_cases hp:∃id z,v= .ptr id z 0 0
  .obtain⟨id,z,rfl⟩:=hp;have un:∀H,Cy E H b (.box e l) (.ptr id z 0 0) x=(match H id with
    | some (.box _ cs)=>(match BP E H b l cs x with|(ds,H,b)=>(AV.ptr id z 0 0,upd H id<|I<|.box e ds,b))
    | _=>(.un,H,b)):=λ_=>rfl
   have hid:F id:=hv;cases ho:H id with
   | none=>exact⟨.un,[],b,trivial,by simp,λH' h=>by rw[un,h id hid,ho];rfl⟩
   | some ob=>
    cases ob with
    | box e' cs=>
     rw[un,ho]at hL;have hL':(BP E H b l cs x).2.2<=L:=by
      simp only at hL;generalize BP E H b l cs x=r at *;exact hL
     obtain⟨vs,es,b',h1,h2,h3⟩:=k9 E l H b cs x L (by simpa[Dk] using hl) hF (InA.Is<|hC id _ hid ho) hC hL';refine⟨.ptr id z 0 0,es++[(id,.box e vs)],b',hid,λp hp=> ?_,λH' h=> ?_⟩
     .rcases BM.1 hp with hp|hp
      .exact h2 p hp
      .simp at hp;subst hp;exact⟨hid,h1⟩
     .rw[un,h id hid,ho];simp only[h3 H' h,EQ,G1,Dv,K7]
    | row=>exact⟨.un,[],b,trivial,by simp,λH' h=>by rw[un,h id hid,ho];rfl⟩
    | arr=>exact⟨.un,[],b,trivial,by simp,λH' h=>by rw[un,h id hid,ho];rfl⟩
  .have eq:∀H,Cy E H b (.box e l) v x=BI E H b (.box e l) x:=λH=>kB hl (λ_ _ _ id z e=>hp ⟨id,z,e⟩);obtain⟨v',es,b',h1,h2,h3⟩:=XT (F:=F) (W:=F) E (.box e l) b x L hl (λj h1 h2=>⟨hF j h1 h2,hF j h1 h2⟩) (λH0=>by rw[(kX E H0 H _ b x).2,← eq H];exact hL);exact⟨v',es,b',h1,h2,λH' _=>by rw[eq,h3]⟩
 | .int k,H,b,v,x,L,hl,hF,hv,hC,hL=>Ms (λH=>rfl) hl hF hL
 | .bool,H,b,v,x,L,hl,hF,hv,hC,hL=>Ms (λH=>rfl) hl hF hL
 | .str,H,b,v,x,L,hl,hF,hv,hC,hL=>Ms (λH=>rfl) hl hF hL
 | .sl _,H,b,v,x,L,hl,hF,hv,hC,hL=>Ms (λH=>rfl) hl hF hL
 | .row _ _,H,b,v,x,L,hl,hF,hv,hC,hL=>Ms (λH=>rfl) hl hF hL
 | .fz _,H,b,v,x,L,hl,hF,hv,hC,hL=>Ms (λH=>rfl) hl hF hL
 | .Cf _ _,H,b,v,x,L,hl,hF,hv,hC,hL=>Ms (λH=>rfl) hl hF hL
 | .abx _ _,H,b,v,x,L,hl,hF,hv,hC,hL=>Ms (λH=>rfl) hl hF hL
 | .arr _,_,_,_,_,_,hl,_,_,_,_=>by simp[Dk]at hl
 | .same _,_,_,_,_,_,hl,_,_,_,_=>by simp[Dk]at hl
 | .agg _,_,_,_,_,_,hl,_,_,_,_=>by simp[Dk]at hl
theorem k9 (E:Nat->AV):∀(l:List Sh) (H:Hp) (b:Nat) (cs:List AV) (x:LTs l) (L:Nat),Hy l=Y->(∀j,b<=j->j<L->F j)->(∀c∈cs,InA F c)->DQ F H->(BP E H b l cs x).2.2<=L->
  ∃vs es b',(∀v∈vs,In1 F v)/\(∀p∈es,F p.1/\Ey F p.2)/\ ∀H',Agr F H H'->BP E H' b l cs x=(vs,EQ es H',b')
 | [],_,b,_,_,_,_,_,_,_,_=>⟨[],[],b,by simp,by simp,λ_ _=>rfl⟩
 | h::l,H,b,cs,x,L,hl,hF,hv,hC,hL=>by
  simp only[Hy,AD]at hl;have un:∀H,BP E H b (h::l) cs x=(match Cy E H b h (cs.headD .un) x.1 with|(d,H,b)=>match BP E H b l cs.tail x.2 with|(ds,H,b)=>(d::ds,H,b)):=λ_=>rfl;have hh:InA F (cs.headD .un):=by
   cases cs with
   | nil=>exact .of1 trivial
   | cons c cs=>exact hv c An
  have ht:∀c∈cs.tail,InA F c:=λc hc=>hv c<|List.mem_of_mem_tail hc;have hL1:(Cy E H b h (cs.headD .un) x.1).2.2<=L:=by
   rw[un]at hL;generalize Cy E H b h (cs.headD .un) x.1=r at *;obtain⟨c,H',b'⟩:=r;have h2:=Xl E l H' b' cs.tail x.2 hl.2;simp only at hL;generalize BP E H' b' l cs.tail x.2=r at *;exact CV h2 hL
  obtain⟨v,es,b',h1,h2,h3⟩:=aur E h H b (cs.headD .un) x.1 L hl.1 hF hh hC hL1;have e0:=h3 H<|Agr.refl F H;have hbb:b<=b':=by have:=aEy E h H b (cs.headD .un) x.1 hl.1;rw[e0]at this;exact this
  have hL2:(BP E (EQ es H) b' l cs.tail x.2).2.2<=L:=by
   rw[un,e0]at hL;simp only at hL;generalize BP E (EQ es H) b' l cs.tail x.2=r at *;exact hL
  obtain⟨vs,es',b'',h4,h5,h6⟩:=k9 E l (EQ es H) b' cs.tail x.2 L hl.2 (λj h1 h2=>hF j (CV hbb h1) h2) ht (apb hC λp hp=>(h2 p hp).2) hL2;refine⟨v::vs,es++es',b'',λc hc=> ?_,λp hp=> ?_,λH' h=> ?_⟩
  .rcases Bl.1 hc with rfl|hc
   .exact h1
   .exact h4 c hc
  .rcases BM.1 hp with hp|hp
   .exact h2 p hp
   .exact h5 p hp
  .rw[un,h3 H' h];simp only[h6 _<|atN h,EQ,G1]
end
end
end Go.VS
namespace Go.VS
open Go
section
variable {F W:Nat->Prop} {H H':Hp} {P:Program} {s s' s2:S} {b:Nat} {E:Nat->AV} {C:Cx}
def asg(E:Nat->AV)(h:Sh)(b:Nat)(x:LT h)(L:Nat)(hl:abU h=Y)(hF:∀j,b<=j->j<L->F j/\W j)(hL:∀H,(BI E H b h x).2.2<=L):
  ∃v es b',In2 F v/\(∀p∈es,W p.1/\Ey F p.2)/\ ∀H,BI E H b h x=(v,EQ es H,b'):=by
 by_cases hh:Dk h=Y
 .obtain⟨v,es,b',h1,h2,h3⟩:=XT (F:=F) (W:=W) E h b x L hh hF hL;exact⟨v,es,b',.of1 h1,h2,h3⟩
 .cases h<;>first|(exact absurd hl hh;done)|exact⟨.arr _ x,[],b,trivial,by simp,λ_=>rfl⟩|skip
  rename_i l;have un:∀H,BI E H b (.agg l) x=(match Aj E H b l x with|(cs,H,b)=>(AV.agg cs,H,b)):=λ_=>rfl;obtain⟨vs,es,b',h1,h2,h3⟩:=jf (F:=F) (W:=W) E l b x L hl hF (λH=>by
   have:=hL H;rw[un]at this;generalize Aj E H b l x=r at *;exact this)
  exact⟨.agg vs,es,b',h1,h2,λH=>by rw[un,h3]⟩
def jN(E:Nat->AV):∀(l:List Sh) (b:Nat) (x:LTs l) (L:Nat),Yu l=Y->(∀j,b<=j->j<L->F j/\W j)->(∀H,(Aj E H b l x).2.2<=L)->
  ∃vs es b',(∀v∈vs,In2 F v)/\(∀p∈es,W p.1/\Ey F p.2)/\ ∀H,Aj E H b l x=(vs,EQ es H,b')
 | [],b,_,_,_,_,_=>⟨[],[],b,by simp,by simp,λ_=>rfl⟩
 | h::l,b,x,L,hl,hF,hL=>by
  simp only[Yu,AD]at hl;have un:∀H,Aj E H b (h::l) x=(match BI E H b h x.1 with|(c,H,b)=>match Aj E H b l x.2 with|(cs,H,b)=>(c::cs,H,b)):=λ_=>rfl;have hL1:∀H,(BI E H b h x.1).2.2<=L:=λH=>by
   have:=hL H;rw[un]at this;generalize BI E H b h x.1=r at *;obtain⟨c,H',b'⟩:=r;have h2:=J3 E l H' b' x.2;simp only at this;generalize Aj E H' b' l x.2=r at *;exact CV h2 this
  obtain⟨v,es,b',h1,h2,h3⟩:=asg E h b x.1 L hl.1 hF hL1;have hbb:b<=b':=by have:=EL E h (λ_=>G) b x.1;rw[h3]at this;exact this
  have hL2:∀H,(Aj E H b' l x.2).2.2<=L:=λH=>by
   have:=hL H;rw[un,h3]at this;simp only at this;rw[(Pj E H (EQ es H) l b' x.2).2];generalize Aj E (EQ es H) b' l x.2=r at *;exact this
  obtain⟨vs,es',b'',h4,h5,h6⟩:=jN E l b' x.2 L hl.2 (λj h1 h2=>hF j (CV hbb h1) h2) hL2;refine⟨v::vs,es++es',b'',λc hc=> ?_,λp hp=> ?_,λH=> ?_⟩
  .rcases Bl.1 hc with rfl|hc
   .exact h1
   .exact h4 c hc
  .rcases BM.1 hp with hp|hp
   .exact h2 p hp
   .exact h5 p hp
  .rw[un,h3];simp only[h6,EQ,G1]
abbrev stp(p:Nat×Ob):Step:=⟨p.1,.no,I p.2⟩
def kK:∀(es:List (Nat×Ob)) (s:S),(es.map stp).foldl S.app s={ s with H:=EQ es s.H }
 | [],_=>rfl
 | p::es,s=>by
  rw[DM,Dv,J7,kK es];rfl
def jD:∀(ps:List Sh) (vs:List AV),∀v∈Fq ps vs,v∈vs
 | [],vs,v,h=>by cases vs<;>simp[Fq]at h
 | p::ps,[],v,h=>by cases p<;>simp[Fq]at h
 | p::ps,x::vs,v,h=>by
  cases p<;>simp only[Fq,Bl]at h ⊢ <;>first
   | exact .inr (jD ps vs v h)
   | exact h.imp id (jD ps vs v)
def aDW{vs:List AV}(h:∀v∈vs,In2 F v):InA F (Lq vs):=by
 unfold Lq;split
 .exact .of2 (h _ aE4)
 .exact .of3 h
def abS(H:Hp)(m:DO)(as:List AV)(b:Nat)(W:Step->Prop):Prop:=
 (∀e:Step,e.id∈Ca H m.ps as->W e)/\((CN m.rs||CN (B1 m.ps))=Y->∀e:Step,e.id∈Cs H m.ps as->W e)/\(∀e:Step,b<=e.id->e.id<b+16->W e)
variable {WS:Step->Prop}
def as8{m:DO}{d:Option Nat}{as:List AV}(hm:okS m=Y)(has:∀v∈as,InA F v)(hC:DQ F s.H)(hF:∀j,b<=j->j<b+16->F j)
  (hW:abS s.H m as b WS)(hB:(B1 m.ps).isEmpty=Y\/ ∀e:Step,F e.id->e.fk= .no->WS e)(h:HT m s b d as I=I s'):
  ∃(v:AV) (es:List Step),InA F v/\(∀e∈es,WS e/\Gn F e)/\s'=(es.foldl S.app s).put d v/\ ∀s2:S,Agr F s.H s2.H->HT m s2 b d as I=I ((es.foldl S.app s2).put d v):=by
 simp only[okS,AD]at hm;obtain⟨hW1,hW2,hW3⟩:=hW;unfold HT at h;simp only at h;split at h
 .rename_i x hx hn;obtain⟨r,hr,h⟩:=Ah.1 h;obtain⟨es1,k1,k2,k3⟩:=aCf (Ca s.H m.ps as) s;have k4:∃es2:List Step,(∀e∈es2,WS e/\e.ob=G)/\
    GK (CN m.rs||CN (B1 m.ps)) (Cs s.H m.ps as) ((Ca s.H m.ps as).foldl S.kill s)=es2.foldl S.app s/\
    ∀s2:S,Agr F s.H s2.H->GK (CN m.rs||CN (B1 m.ps)) (Cs s.H m.ps as) ((Ca s.H m.ps as).foldl S.kill s2)=es2.foldl S.app s2:=by
   cases hq:(CN m.rs||CN (B1 m.ps)) with
   | false=>exact⟨es1,λe he=>⟨hW1 e (k1 e he).1,(k1 e he).2⟩,k2,λs2 _=>k3 s2⟩
   | true=>
    obtain⟨es2,j1,j2,j3⟩:=WJ (F:=F) (Cs s.H m.ps as) (es1.foldl S.app s)<|SZ hC m.ps as has;refine⟨es1++es2,λe he=> ?_, ?_,λs2 h2=> ?_⟩
    .rcases BM.1 he with he|he
     .exact⟨hW1 e (k1 e he).1,(k1 e he).2⟩
     .exact⟨hW2 hq e (j1 e he).1,(j1 e he).2⟩
    .simp only[GK,k2,j2,G1]
    .simp only[GK,k3,G1];exact j3 _ h2.oe
  obtain⟨es2,j1,j2,j3⟩:=k4;rw[j2]at h;have hC2:DQ F (es2.foldl S.app s).H:=by
   have:∀(es:List Step) (s:S),DQ F s.H->(∀e∈es,e.ob=G)->DQ F (es.foldl S.app s).H:=by
    intro es
    induction es with
    | nil=>intro s h _;exact h
    | cons e es ih=>exact λs h he=>ih _ (h.app λob eo=>by rw[he e An]at eo;cases eo) λe' h'=>he e'<|Ai _ h'
   exact this es2 s hC λe he=>(j1 e he).2
  have hL1:(BP (λi=>(as[i]?).getD .un) (es2.foldl S.app s).H b (B1 m.ps) (Fq m.ps as) r.2).2.2<=b+16:=by
   generalize BP (λi=>(as[i]?).getD .un) (es2.foldl S.app s).H b (B1 m.ps) (Fq m.ps as) r.2=q at *;obtain⟨_,H1,b1⟩:=q;have:=J3 (λi=>(as[i]?).getD .un) m.rs H1 b1 r.1;simp only at h;generalize Aj (λi=>(as[i]?).getD .un) H1 b1 m.rs r.1=q at *;obtain⟨vs,H2,b2⟩:=q;simp only at h;split at h
   .rename_i hb;exact CV this (DW hb)
   .cases h
  have hg:∃ds es3 b1,b<=b1/\(∀p∈es3,WS (stp p)/\Ey F p.2)/\ ∀H',Agr F (es2.foldl S.app s).H H'->BP (λi=>(as[i]?).getD .un) H' b (B1 m.ps) (Fq m.ps as) r.2=(ds,EQ es3 H',b1):=by
   obtain hB|hB:=hB
   .exact⟨[],[],b,Ar b,by simp,λH' _=>aCv _ _ _ _ _ _ hB⟩
   .obtain⟨ds,es3,b1,i1,i2,i3⟩:=k9 (F:=F) (λi=>(as[i]?).getD .un) (B1 m.ps) (es2.foldl S.app s).H b (Fq m.ps as) r.2 (b+16) hm.2 hF (λv hv=>has v<|jD _ _ v hv) hC2 hL1;have:=Xl (λi=>(as[i]?).getD .un) (B1 m.ps) (es2.foldl S.app s).H b (Fq m.ps as) r.2 hm.2;rw[i3 _<|Agr.refl _ _]at this;exact⟨ds,es3,b1,this,λp hp=>⟨hB (stp p) (i2 p hp).1 rfl,(i2 p hp).2⟩,i3⟩
  obtain⟨ds,es3,b1,hb1,i2,i3⟩:=hg;rw[i3 _<|Agr.refl _ _]at h;simp only at h;have hL2:∀H,(Aj (λi=>(as[i]?).getD .un) H b1 m.rs r.1).2.2<=b+16:=λH=>by
   rw[(Pj _ H (EQ es3 (es2.foldl S.app s).H) m.rs b1 r.1).2];generalize Aj (λi=>(as[i]?).getD .un) (EQ es3 (es2.foldl S.app s).H) b1 m.rs r.1=q at *;obtain⟨vs,H2,b2⟩:=q;simp only at h;split at h
   .rename_i hb;exact DW hb
   .cases h
  obtain⟨vs,es4,b2,l1,l2,l3⟩:=jN (F:=F) (W:=λj=>b<=j/\j<b+16) (λi=>(as[i]?).getD .un) m.rs b1 r.1 (b+16) hm.1
   (λj h1 h2=>⟨hF j (CV hb1 h1) h2,CV hb1 h1,h2⟩) hL2
  rw[l3]at h;simp only at h;split at h
  .rename_i hb;cases h;refine⟨Lq vs,es2++es3.map stp++es4.map stp,aDW l1,λe he=> ?_, ?_,λs2 h2=> ?_⟩
   .rcases BM.1 he with he|he
    .rcases BM.1 he with he|he
     .exact⟨(j1 e he).1,λob eo=>by rw[(j1 e he).2]at eo;cases eo⟩
     .obtain⟨p,hp,rfl⟩:=Bu.1 he;exact⟨(i2 p hp).1,λob eo=>by cases eo;exact(i2 p hp).2⟩
    .obtain⟨p,hp,rfl⟩:=Bu.1 he;exact⟨hW3 (stp p) (l2 p hp).1.1 (l2 p hp).1.2,λob eo=>by cases eo;exact(l2 p hp).2⟩
   .simp only[G1,kK]
   .unfold HT;simp only[SW h2 hC m.ps as has,SY h2 hC m.ps as has,SV h2 hC m.ps as has,Xm h2 hC m.ps as has,hx,hn,hr,A6,j3 s2 h2];rw[i3 _ h2.oe];simp only[l3,hb,G1,kK]
  .cases h
 .cases h
end
end Go.VS
namespace Go.VS
open Go
section
variable {F GJ N:Nat->Prop} {WS:Step->Prop} {H H':Hp} {P:Program} {s s' s2:S} {b:Nat} {C:Cx}
def In1.mono(h:∀id,F id->GJ id){v:AV}(hv:In1 F v):In1 GJ v:=by
 cases v<;>first|exact h _ hv|exact hv
def In2.mono(h:∀id,F id->GJ id){v:AV}(hv:In2 F v):In2 GJ v:=by
 have gen:In1 F v->In2 GJ v:=λhv=> .of1<|hv.mono h;cases v<;>first|exact λc hc=>(hv c hc).mono h|exact gen hv
def In3.mono(h:∀id,F id->GJ id){v:AV}(hv:In3 F v):In3 GJ v:=by
 have gen:In2 F v->In3 GJ v:=λhv=> .of2<|hv.mono h;cases v<;>first|exact λc hc=>In2.mono h (hv c hc)|exact gen hv
def InA.mono(h:∀id,F id->GJ id){v:AV}(hv:InA F v):InA GJ v:=by
 have gen:In3 F v->InA GJ v:=λhv=> .of3<|hv.mono h;cases v with
 | gd g w v=>exact In3.mono h hv
 | _=>exact gen hv
def Agr.mono(h:∀id,F id->GJ id)(hG:Agr GJ H H'):Agr F H H':=λid hid=>hG id<|h id hid
def aEI{f:AV->AV}(hf:∀c,In1 F c->In1 F (f c)){v:AV}(h:In2 F v):In2 F (Fu f v):=by
 cases v<;>first|exact .of1 (hf _ h)|skip
 rename_i cs;intro c hc;obtain⟨c0,h0,rfl⟩:=Bu.1 hc;exact hf _<|h c0 h0
def aEH{f:AV->AV}(hf:∀c,In1 F c->In1 F (f c)){v:AV}(h:In3 F v):In3 F (GF f v):=by
 have gen:In2 F v->In3 F (Fu f v):=λh=> .of2<|aEI hf h;cases v with
 | tup cs=>
  intro c hc;obtain⟨c0,h0,rfl⟩:=Bu.1 hc;exact aEI hf<|h c0 h0
 | _=>exact gen h
def aaV{f:AV->AV}(hf:∀c,In1 F c->In1 F (f c)){v:AV}(h:InA F v):InA F (Ex f v):=by
 have gen:In3 F v->InA F (GF f v):=λh=> .of3<|aEH hf h;cases v with
 | gd g w v=>exact aEH hf h
 | _=>exact gen h
def atZ{x:Operand}{e:Step}(h:InA F (s.ev x)):InA F ((s.app e).ev x):=by
 cases x with
 | tmp t=>exact aaV (λc hc=>Fk.aQ _ _ hc) h
 | _=>exact h
def jT{x:Operand}:∀(es:List Step) (s:S),InA F (s.ev x)->InA F ((es.foldl S.app s).ev x)
 | [],_,h=>h
 | e::es,s,h=>jT es _ (atZ h)
def atY{x:Operand}{e:Step}(h:s2.ev x=s.ev x):(s2.app e).ev x=(s.app e).ev x:=by
 cases x with
 | tmp t=>exact congrArg (Ex<|e.fk.f e.id) h
 | _=>exact h
def aBh{x:Operand}:∀(es:List Step) (s s2:S),s2.ev x=s.ev x->(es.foldl S.app s2).ev x=(es.foldl S.app s).ev x
 | [],_,_,h=>h
 | e::es,s,s2,h=>aBh es _ _ (atY h)
def aAm:∀(es:List Step) (s:S),DQ F s.H->(∀e∈es,Gn F e)->DQ F (es.foldl S.app s).H
 | [],_,h,_=>h
 | e::es,s,h,he=>aAm es _ (h.app<|he e An) λe' h'=>he e'<|Ai _ h'
def are{ρ:Operand->AV}:∀(ps:List (Nat×Operand)),(∀p∈ps,InA F<|ρ p.2)->∀i∈Ke ρ ps,F i:=by
 intro ps hp i hi;obtain⟨p,h1,h2⟩:=List.mem_flatMap.1 hi;have:=hp p h1;split at h2
 .rename_i cs e;rw[e]at this;exact aaw this i h2
 .rename_i v hn;cases hv:ρ p.2<;>rw[hv]at h2 this<;>first|(simp[Gz]at h2;done)|skip
  simp[Gz]at h2;subst h2;exact this
def aba(C:Cx)(F N:Nat->Prop)(WS:Step->Prop)(b:Nat)(o:Oper)(s s':S):Prop:=
 ∃(v:AV) (es:List Step),InA F v/\(∀e∈es,WS e/\Gn F e)/\s'=(es.foldl S.app s).put o.dst v/\
  ∀s2:S,(∀x∈o.op.operands,s2.ev x=s.ev x)->s2.has o.dst=s.has o.dst->Agr N s.H s2.H->CG C (AF S) o b s2 I=I ((es.foldl S.app s2).put o.dst v)
def aCz{op:Op}{kd:TypeId->Option K}{d:Option Nat}(hF:∀x∈op.operands,InA F<|s.ev x)(hN:mov op=Y\/ ∀x∈op.operands,InA N<|s.ev x)(hC:∀id ob,N id->s.H id=I ob->Ey F ob)(hb:F b)(hW:∀ob,WS ⟨b,.no,I ob⟩)
  (he:(match CA P kd s.ev s.H b op with
   | some (q,v,os)=>if q then I ({ s with H:=Eo s.H b os }.put d v) else G
   | none=>G)=I s'):
  ∃(v:AV) (es:List Step),InA F v/\(∀e∈es,WS e/\Gn F e)/\s'=(es.foldl S.app s).put d v/\
   ∀s2:S,(∀x∈op.operands,s2.ev x=s.ev x)->Agr N s.H s2.H->(match CA P kd s2.ev s2.H b op with
    | some (q,v,os)=>if q then I ({ s2 with H:=Eo s2.H b os }.put d v) else G
    | none=>G)=I ((es.foldl S.app s2).put d v):=by
 split at he
 .rename_i q v os hp;split at he
  .rename_i hq;cases he;obtain⟨h1,h2,h3⟩:=aCC hF hN hC hb q v os hp
   match os,h2,h3,hp with
   | [],_,_,hp=>
    refine⟨v,[],h1,by simp,rfl,λs2 e1 e2=> ?_⟩;rw[XD e1 hN e2,hp];simp only[hq,A2];rfl
   | [ob],_,h3,hp=>
    refine⟨v,[⟨b,.no,I ob⟩],h1,λe he=> ?_, ?_,λs2 e1 e2=> ?_⟩
    .simp at he;subst he;exact⟨hW ob,λob' e=>by cases e;exact h3 _ aE4⟩
    .show _=S.put (s.app _) d v;rw[J7];rfl
    .rw[XD e1 hN e2,hp];simp only[hq,A2,Dv,K7,J7];rfl
   | _::_::_,h2,_,_=>simp at h2
  .cases he
 .cases he
def awD{q:Bool}{l:List Nat}{i:Nat}(h:i∈fzl q l):i∈l:=by
 cases q
 .cases h
 .exact h
def awR{o:Oper}(hop:∀x∈o.op.operands,InA F<|s.ev x)(hC:DQ F s.H){i:Nat}(hi:i∈JH C s o):F i:=by
 unfold JH at hi;split at hi
 .rename_i c hc;split at hi
  .rename_i f hf;split at hi
   .rename_i m hm;have has:∀v∈c.args.toList.map s.ev,InA F v:=λv hv=>by
     obtain⟨x,hx,rfl⟩:=Bu.1 hv;refine hop x ?_;rw[hc];simp only[BU,Mv,N0];exact .inr<|by simpa using hx
    obtain h|h:=BM.1 hi
    .exact XW hC _ _ has i h
    .exact SZ hC _ _ has i (awD h)
   .cases hi
  .cases hi
 .cases hi
def av5{o:Oper}(hok:okO C o=Y)(hop:∀x∈o.op.operands,InA F<|s.ev x)(hCN:∀id ob,N id->s.H id=I ob->Ey F ob)(hF:∀j,b<=j->j<b+16->F j)
  (hN:∀e:Step,b<=e.id->e.id<b+16->WS e)(hW:(E4 C s o=G->(∀e:Step,F e.id->e.fk= .no->WS e)/\ ∀e:Step,e.id∈JH C s o->WS e)/\ ∀l,E4 C s o=I l->∀e:Step,e.id∈l->WS e)
  (hNF:(pur o=Y/\(mov o.op=Y\/ ∀x∈o.op.operands,InA N<|s.ev x))\/ ∀id,F id->N id)(he:CG C (AF S) o b s I=I s'):aba C F N WS b o s s':=by
 have acQ:mov o.op=Y\/ ∀x∈o.op.operands,InA N (s.ev x):=by
  obtain h|h:=hNF
  .exact h.2
  .exact .inr λx hx=>(hop x hx).mono h
 have U3:pur o=A0->∀id,F id->N id:=λh=>hNF.resolve_left λh2=>by rw[h]at h2;cases h2.1
 have hCF:pur o=A0->DQ F s.H:=λh id ob hid ho=>hCN id ob (U3 h id hid) ho;have hFb:F b:=hF b (Ar b) J;have hWb:∀e:Step,e.id=b->WS e:=λe h=>hN e J J;unfold CG at he;split at he
 .cases he
 rename_i hd;unfold aba;have un:∀s2:S,s2.has o.dst=s.has o.dst->s2.has o.dst=Y:=λs2 h=>h.trans hd;generalize ho:o.op=op at he;rw[ho]at hop acQ;have pu:(match CA C.P C.kd s.ev s.H b op with
   | some (q,v,os)=>if q then I ({ s with H:=Eo s.H b os }.put o.dst v) else G
   | none=>G)=I s'->(∀s2:S,s2.has o.dst=Y->(∀x∈op.operands,s2.ev x=s.ev x)->Agr N s.H s2.H->CG C (AF S) o b s2 I=(match CA C.P C.kd s2.ev s2.H b op with
   | some (q,v,os)=>if q then I ({ s2 with H:=Eo s2.H b os }.put o.dst v) else G
   | none=>G))->∃(v:AV) (es:List Step),InA F v/\(∀e∈es,WS e/\Gn F e)/\s'=(es.foldl S.app s).put o.dst v/\
  ∀s2:S,(∀x∈op.operands,s2.ev x=s.ev x)->s2.has o.dst=s.has o.dst->Agr N s.H s2.H->CG C (AF S) o b s2 I=I ((es.foldl S.app s2).put o.dst v):=by
  intro he hu;obtain⟨v,es,h1,h2,h3,h4⟩:=aCz (WS:=WS) hop acQ hCN hFb (λ_=>hWb _ rfl) he;exact⟨v,es,h1,h2,h3,λs2 e1 e2 e3=>by rw[hu s2 (un s2 e2) e1 e3];exact h4 s2 e1 e3⟩
 cases op<;>try (exact pu he λs2 e1 e2 e3=>by unfold CG;simp only[e1,ho];rfl)
 case store t p x=>
  have hWF:∀e:Step,e.id∈OQ s.H (s.ev p) (s.ev x)->WS e:=hW.2 _ (by simp only[E4,ho]);have hNs:=U3 (by simp only[pur,ho]);have hC:=hCF (by simp only[pur,ho]);simp only at he;split at he
  .rename_i s1 hs;cases he;obtain⟨es,h1,h2,h3⟩:=arp (hop p<|by simp[BU]) (hop x<|by simp[BU]) hC hs;refine⟨Dp,es,.of1 trivial,λe he=>⟨hWF e (h1 e he).1,(h1 e he).2⟩,by rw[h2],λs2 e1 e2 e3=> ?_⟩;have:=h3 s2<|e3.mono hNs;simp only[D6,CK,true_and]at this;obtain⟨s1',hs',rfl⟩:=this;unfold CG;simp only[un s2 e2,ho,e1 p<|by simp[BU],e1 x<|by simp[BU],hs']
  .cases he
 case call c=>
  have hNs:=U3 (by simp only[pur,ho]);have hC:=hCF (by simp only[pur,ho]);obtain⟨cal,⟨args⟩,⟨tys⟩⟩:=c;have Ir:∀x∈args,InA F (s.ev x):=λx hx=>hop x (by
   simp only[BU,Mv,N0];exact .inr<|by simpa using hx)
  have oK:∀s2:S,(∀x∈(Op.call ⟨cal,⟨args⟩,⟨tys⟩⟩).operands,s2.ev x=s.ev x)->args.map s2.ev=args.map s.ev:=λs2 h=>Gi λx hx=>h x (by
   simp only[BU,Mv,N0];exact .inr<|by simpa using hx)
  simp only at he;split at he
  .rename_i f;split at he
   .rename_i m hm;have azS:okS m=Y:=by simpa only[okO,ho,hm] using hok
    have has:∀v∈args.map s.ev,InA F v:=λv hv=>by
     obtain⟨x,hx,rfl⟩:=Bu.1 hv;exact Ir x hx
    have hcw:abS s.H m (args.map s.ev) b WS/\((B1 m.ps).isEmpty=Y\/ ∀e:Step,F e.id->e.fk= .no->WS e):=by
     have hk:JH C s o=Ca s.H m.ps (args.map s.ev)++fzl (CN m.rs||CN (B1 m.ps)) (Cs s.H m.ps<|args.map s.ev):=by simp only[JH,ho,hm]
     cases hbe:(B1 m.ps).isEmpty with
     | false=>
      have acV:E4 C s o=G:=by simp only[E4,ho,hm,hbe]
      have h2:=(hW.1 acV).2;rw[hk]at h2;exact⟨⟨λe he=>h2 e<|Bv _ he,λhq e he=>h2 e<|CP _ (by rw[hq];exact he),hN⟩,.inr (hW.1 acV).1⟩
     | true=>
      have hl:E4 C s o=I (Ca s.H m.ps (args.map s.ev)++fzl (CN m.rs||CN (B1 m.ps)) (Cs s.H m.ps<|args.map s.ev)):=by simp only[E4,ho,hm,hbe]
      refine⟨⟨λe hi=> ?_,λhq e hi=> ?_,hN⟩,.inl rfl⟩
      .exact hW.2 _ hl e (Bv _ hi)
      .exact hW.2 _ hl e<|CP _ (by rw[hq];exact hi)
    obtain⟨v,es,h1,h2,h3,h4⟩:=as8 azS has hC hF hcw.1 hcw.2 he;refine⟨v,es,h1,h2,h3,λs2 e1 e2 e3=> ?_⟩;have:=h4 s2<|e3.mono hNs;unfold CG;simp only[un s2 e2,ho,hm,oK s2 e1];exact this
   .cases he
  .rename_i x y t u;have hWF:∀e:Step,(e.id=b\/e.id∈Ju (s.ev x))->WS e:=λe hi=>hi.elim (hWb e) (hW.2 _ (by simp only[E4,ho]) e);split at he
   .rename_i q v s1 hs;split at he
    .rename_i hq;subst hq;cases he;obtain⟨⟨es,h1,h2,h3⟩,h5⟩:=aqk (Ir x aE4) (Ir y aE4) hFb hs;refine⟨v,es,h5,λe he=>⟨hWF e (h1 e he).1,(h1 e he).2⟩,by rw[h2],λs2 e1 e2 e3=> ?_⟩;have:=h3 s2<|e3.mono hNs;obtain⟨⟨q',v',s1'⟩,hs',e'⟩:=D6.1 this;cases e';unfold CG;have ea:=oK s2 e1;simp only[DM,JQ,Ly,and_true]at ea;simp only[un s2 e2,ho,ea.1,ea.2,hs',A2]
    .cases he
   .cases he
  .rename_i x y t u;have hWF:∀e:Step,e.id∈Ju (s.ev x)->WS e:=hW.2 _ (by simp only[E4,ho]);split at he
   .rename_i v s1 hs;cases he;obtain⟨⟨es,h1,h2,h3⟩,h5⟩:=auk (Ir x aE4) (Ir y aE4) hs;refine⟨v,es,h5,λe he=>⟨hWF e (h1 e he).1,(h1 e he).2⟩,by rw[h2],λs2 e1 e2 e3=> ?_⟩;have hs':=h3 s2<|e3.mono hNs;unfold CG;have ea:=oK s2 e1;simp only[DM,JQ,Ly,and_true]at ea;simp only[un s2 e2,ho,ea.1,ea.2,hs']
   .cases he
  .rename_i n1 n2 n3;refine pu he λs2 e1 e2 e3=> ?_;unfold CG;simp only[e1,ho];split<;>first|exact(n1 _ rfl).elim|exact(n2 _ _ _ _ rfl rfl rfl).elim|exact(n3 _ _ _ _ rfl rfl rfl).elim|(rename_i h;simp only[h];done)|rfl
 case slice t x lo hi mx=>
  have hNs:=U3 (by simp only[pur,ho]);have hC:=hCF (by simp only[pur,ho]);cases mx with
  | some m=>exact pu he λs2 e1 e2 e3=>by unfold CG;simp only[e1,ho];rfl
  | none=>
   have hx:=hop x (by simp[BU]);have elo:∀s2:S,(∀x_1∈(Op.slice t x lo hi G).operands,s2.ev x_1=s.ev x_1)->lo.map s2.ev=lo.map s.ev:=λs2 h=>by
    cases lo with
    | none=>rfl
    | some l=>exact congrArg I<|h l<|by simp[BU]
   have ehi:∀s2:S,(∀x_1∈(Op.slice t x lo hi G).operands,s2.ev x_1=s.ev x_1)->hi.map s2.ev=hi.map s.ev:=λs2 h=>by
    cases hi with
    | none=>rfl
    | some l=>exact congrArg I<|h l<|by simp[BU]
   simp only at he;split at he
   .rename_i id hid;split at he
    .cases he
    rename_i hf;have hWF:∀e:Step,e.id=id->WS e:=λi e=>hW.2 (Ju<|s.ev x) (by simp only[E4,ho]) i (by rw[hid,e];simp[Ju,Gz]);rw[hid]at hx;split at he
    .rename_i q v s1 hs;split at he
     .rename_i hq;subst hq;cases he;obtain⟨⟨es,h1,h2,h3⟩,h5⟩:=apQ (F:=F) hx hs;refine⟨v,es,h5,λe he=>⟨hWF e (h1 e he).1,(h1 e he).2⟩,by rw[h2],λs2 e1 e2 e3=> ?_⟩;have:=h3 s2<|e3.mono hNs;obtain⟨⟨q',v',s1'⟩,hs',e'⟩:=D6.1 this;cases e';unfold CG;have ex:s2.ev x= .own id:=(e1 x<|by simp[BU]).trans hid;have hf2:J0 C.P s2.H t (.own id)=Y:=by rw[aA5 (F:=F) hx<|e3.mono hNs];exact hf
      simp only[un s2 e2,ho,ex,hf2,elo s2 e1,ehi s2 e1,hs',A2]
     .cases he
    .cases he
   .rename_i hn;refine pu he λs2 e1 e2 e3=> ?_;unfold CG;simp only[e1,ho];have ex:s2.ev x=s.ev x:=e2 x (by simp[BU]);rw[ex];split
    .rename_i id hid;exact absurd hid (hn id)
    .rfl
 case buildSlice t n ps=>
  have hNs:=U3 (by simp only[pur,ho]);have hC:=hCF (by simp only[pur,ho]);simp only at he;have hps:∀p∈ps.toList,InA F (s.ev p.2):=λp hp=>hop p.2 (by
   simp only[BU,TE,Bu];exact⟨p,hp,rfl⟩)
  have P7:=are ps.toList hps;obtain⟨es1,j1,j2,j3⟩:=WJ (F:=F) (Ke s.ev ps.toList) s P7;rw[j2]at he;obtain⟨v,es,h1,h2,h3,h4⟩:=aCz (WS:=WS) (N:=F) (s:=es1.foldl S.app s) (op:= .buildSlice t n ps) (λx hx=>jT es1 s<|hop x hx) (.inr λx hx=>jT es1 s<|hop x hx) (aAm es1 s hC λe he ob eo=>by rw[(j1 e he).2]at eo;cases eo) hFb (λ_=>hWb _ rfl) he;refine⟨v,es1++es,h1,λe he=> ?_,by rw[h3,G1],λs2 e1 e2 e3=> ?_⟩
  .rcases BM.1 he with he|he
   .refine⟨?_,λob eo=>by rw[(j1 e he).2]at eo;cases eo⟩;have hi:=(j1 e he).1;exact hW.2 _ (by simp only[E4,ho]) e hi
   .exact h2 e he
  .unfold CG;have eo:Ke s2.ev ps.toList=Ke s.ev ps.toList:=ard _ λp hp=>e1 p.2 (by
    simp only[BU,TE,Bu];exact⟨p,hp,rfl⟩)
   simp only[un s2 e2,ho,eo];rw[j3 s2<|e3.mono hNs,G1];exact h4 _ (λx hx=>aBh es1 s s2<|e1 x hx)<|Agr.oe<|e3.mono hNs
end
end Go.VS
namespace Go.VS
open Go
abbrev ev1(C:Cx)(ops:Array Oper)(o:Oper)(b:Nat)(s:S):Option S:=evG C (AF S) ops o b s I
def S.fin(s:S)(g:Option Nat)(d:Option Nat)(v:AV):S:={ s.put d v with gs:=match g with
 | some g=>upd s.gs g Y
 | none=>s.gs }
def KH(s s2:S)(d:Option Nat):Prop:=s2.n=s.n/\s2.pins=s.pins/\ ∀t,d=I t->s2.gs t=s.gs t
section
variable {F N:Nat->Prop} {WS:Step->Prop} {H H':Hp} {P:Program} {s s' s2:S} {b:Nat} {C:Cx} {ρ ρ':Operand->AV}
def KH.has{d:Option Nat}(h:KH s s2 d):s2.has d=s.has d:=by
 cases d with
 | none=>rfl
 | some t=>simp only[S.has,h.1,h.2.1,h.2.2 t rfl]
def KH.more{d:Option Nat}(h:KH s s2 d)(g:Nat):({ s2 with gs:=upd s2.gs g Y } :S).has d=({ s with gs:=upd s.gs g Y } :S).has d:=by
 cases d with
 | none=>rfl
 | some t=>
  have:upd s2.gs g Y t=upd s.gs g Y t:=by
   by_cases e:t=g
   .subst e;rw[Bf,Bf]
   .rw[BB _ _ e,BB _ _ e];exact h.2.2 t rfl
  simp only[S.has,h.1,h.2.1,this]
def at7{g:Nat}{want:Bool}{v:AV}(h:InA F v):InA F (Ga g want v):=by
 unfold Ga;split
 .split
  .exact .of3 h
  .exact h
 .exact h
def ZG(v:Value):InA F (ofV v):=by
 unfold ofV;split
 .split
  .refine .of2 λc hc=> ?_;obtain⟨x,_,rfl⟩:=Bu.1 hc;trivial
  .exact .of1 trivial
 .exact .of1 trivial
def ax9{d:Option Nat}{op:Op}(hρ:∀x∈op.operands,ρ' x=ρ x)(hF:∀x∈op.operands,InA F<|ρ x)(hC:DQ F H)(hH:Agr F H H'):spA C b d ρ' H' op=spA C b d ρ H op:=by
 unfold spA;split
 .rename_i c;obtain⟨cal,⟨args⟩,⟨tys⟩⟩:=c;have ea:args.map ρ'=args.map ρ:=Gi λx hx=>hρ x (by
   simp only[BU,Mv,N0];exact .inr<|by simpa using hx)
  have has:∀v∈args.map ρ,InA F v:=λv hv=>by
   obtain⟨x,hx,rfl⟩:=Bu.1 hv;exact hF x (by
    simp only[BU,Mv,N0];exact .inr<|by simpa using hx)
  have hc:J9 C.P ρ' H' ⟨cal,⟨args⟩,⟨tys⟩⟩=J9 C.P ρ H ⟨cal,⟨args⟩,⟨tys⟩⟩:=aER (F:=F) (λx hx=>hρ x (by
   simp only[BU,Mv,N0];exact .inr<|by simpa using hx)) (λx hx=>hF x (by
   simp only[BU,Mv,N0];exact .inr<|by simpa using hx)) hH
  split
  .rename_i f as _;simp only at *;congr 1;funext m;simp only[ea,SV hH hC m.ps _ has,SY hH hC m.ps _ has,SW hH hC m.ps _ has];split
   .congr 1;funext x;rw[(Pj _ H' H m.rs b ((m.g x).getD (Lj m.rs,Lj<|B1 m.ps)).1).1]
   .rfl
  .rfl
  .rfl
  .rw[hc]
 .rfl
 .rfl
 .rename_i t x lo hi;rw[hρ x<|by simp[BU],XD hρ (.inr hF) hH]
 .rw[XD hρ (.inr hF) hH]
def axA{o:Oper}{q:Bool}{v:AV}(hok:okO C o=Y)(hF:∀x∈o.op.operands,InA F<|ρ x)(hC:DQ F H)(hb:∀j,b<=j->j<b+16->F j)(h:spA C b o.dst ρ H o.op=I (q,v)):InA F v:=by
 have hFb:F b:=hb b (Ar b) J;unfold spA at h;unfold okO at hok;generalize ho:o.op=op at h hok hF;have pu:(match CA C.P C.kd ρ H b op with
  | some (q,v,[])=>I (q,v)
  | _=>G)=I (q,v)->InA F v:=by
  intro h;split at h
  .rename_i hp;cases h;exact(aCC hF (.inr hF) hC hFb _ _ _ hp).1
  .cases h
 split at h
 .rename_i c;obtain⟨cal,⟨args⟩,⟨tys⟩⟩:=c;simp only at h hok;split at h
  .rename_i f;obtain⟨m,hm,h⟩:=Ah.1 h;split at h
   .rename_i hc;obtain⟨x,hx,h⟩:=Ah.1 h;simp only[Bs,CK]at h;obtain⟨_,h⟩:=h;generalize (m.g x).getD (Lj m.rs,Lj<|B1 m.ps)=r at h;rw[← h];simp only[hm,okS,AD]at hok;simp only[AD]at hc;have hbn:∀H0,(Aj (λi=>((args.map ρ)[i]?).getD .un) H0 b m.rs r.1).2.2<=b+16:=λH0=>by
     have:=Wy (λi=>((args.map ρ)[i]?).getD .un) H0 b m.rs r.1 hc.1.1.1;rw[this];exact Ya b 16
    obtain⟨vs,es,b',h1,h2,h3⟩:=jN (F:=F) (W:=F) (λi=>((args.map ρ)[i]?).getD .un) m.rs b r.1 (b+16) hok.1 (λj h1 h2=>⟨hb j h1 h2,hb j h1 h2⟩) hbn;rw[h3];exact aDW h1
   .cases h
  .cases h
  .cases h
  .split at h
   .rename_i hp;cases h;exact(aES _ _ _ _ hp).1
   .cases h
 .cases h
 .cases h
 .split at h
  .cases h
  .exact pu h
 .exact pu h
def abd(C:Cx)(ops:Array Oper)(F N:Nat->Prop)(WS:Step->Prop)(b:Nat)(o:Oper)(s s':S):Prop:=
 ∃(g:Option Nat) (v:AV) (es:List Step),InA F v/\(∀e∈es,WS e/\Gn F e)/\(∀x,g=I x->x∈DD ops o)/\s'=(es.foldl S.app s).fin g o.dst v/\
  ∀s2:S,(∀t∈DD ops o,s2.T t=s.T t)->KH s s2 o.dst->Agr N s.H s2.H->ev1 C ops o b s2=I ((es.foldl S.app s2).fin g o.dst v)
def mr:∀(es:List Step) (s:S),(es.foldl S.app s).gs=s.gs/\(es.foldl S.app s).n=s.n/\(es.foldl S.app s).pins=s.pins/\(es.foldl S.app s).nid=s.nid
 | [],_=>⟨rfl,rfl,rfl,rfl⟩
 | e::es,s=>mr es (s.app e)
def O9(s:S)(d:Option Nat)(v:AV):s.fin G d v=s.put d v:=by
 cases d<;>rfl
def aEe{α:Type}(f:Nat->α)(i:Nat)(v:α)(h:f i=v):upd f i v=f:=by
 funext j;by_cases e:j=i
 .subst e;rw[Bf,h]
 .rw[BB _ _ e]
def S8{ops:Array Oper}{o:Oper}{t:Nat}(h:Operand.tmp t∈o.op.operands):t∈o.looksAt ops:=
 Bv _ (GO.2 ⟨.tmp t,by simpa using h,rfl⟩)
def aAi{ops:Array Oper}{o:Oper}{j g:Nat}{want:Bool}(hg:o.guard=I (j,want))(h:(ops[j]?).bind (·.dst)=I g):g∈o.looksAt ops:=by
 refine CP _ ?_;rw[hg];simp[h]
def aEP{ops:Array Oper}:∀(n:Nat) (o:Oper),(∀t∈Yy ops n o,s2.T t=s.T t)->Ls ops s2 n o=Ls ops s n o
 | 0,_,_=>rfl
 | n+1,o,h=>by
  unfold Ls;unfold Yy at h;cases hg:o.guard with
  | none=>rfl
  | some jw=>
   obtain⟨j,want⟩:=jw;rw[hg]at h;simp only at h ⊢;cases hj:ops[j]? with
   | none=>rfl
   | some oj=>
    rw[hj]at h;simp only at h;simp only[A6];cases hd:oj.dst with
    | none=>rfl
    | some g=>
     rw[hd]at h;simp only[A6,h g aE4,aEP n oj λt ht=>h t<|CP _ ht]
def awO{ops:Array Oper}{o:Oper}(hok:okO C o=Y)(hrd:∀t∈DD ops o,InA F<|s.T t)(hCN:∀id ob,N id->s.H id=I ob->Ey F ob)(hF:∀j,b<=j->j<b+16->F j)
  (hN:∀e:Step,b<=e.id->e.id<b+16->WS e)(hW:(E4 C s o=G->(∀e:Step,F e.id->e.fk= .no->WS e)/\ ∀e:Step,e.id∈JH C s o->WS e)/\ ∀l,E4 C s o=I l->∀e:Step,e.id∈l->WS e)
  (hNF:(pur o=Y/\o.guard=G/\(mov o.op=Y\/ ∀t∈DD ops o,InA N<|s.T t))\/ ∀id,F id->N id)(he:ev1 C ops o b s=I s'):abd C ops F N WS b o s s':=by
 have hop:∀x∈o.op.operands,InA F (s.ev x):=λx hx=>by
  cases x with
  | tmp t=>exact hrd t<|Bv _<|S8 hx
  | const v=>exact ZG v
  | _=>exact .of1 trivial
 have eop:∀s2:S,(∀t∈DD ops o,s2.T t=s.T t)->∀x∈o.op.operands,s2.ev x=s.ev x:=λs2 h x hx=>by
  cases x with
  | tmp t=>exact h t<|Bv _<|S8 hx
  | _=>rfl
 have HP:CG C (AF S) o b s I=I s'->∃(v:AV) (es:List Step),InA F v/\(∀e∈es,WS e/\Gn F e)/\s'=(es.foldl S.app s).put o.dst v/\
  ∀s2:S,(∀x∈o.op.operands,s2.ev x=s.ev x)->s2.has o.dst=s.has o.dst->Agr N s.H s2.H->CG C (AF S) o b s2 I=I ((es.foldl S.app s2).put o.dst v):=
  λh=>av5 hok hop hCN hF hN hW (hNF.imp (λh=>⟨h.1,h.2.2.imp id λh x hx=>by
   cases x with
   | tmp t=>exact h t<|Bv _<|S8 hx
   | const v=>exact ZG v
   | _=>exact .of1 trivial⟩) id) h
 unfold ev1 evG at he;unfold abd ev1;split at he
 .rename_i hg;obtain⟨v,es,h1,h2,h3,h4⟩:=HP he;refine⟨G,v,es,h1,h2,nofun,by rw[O9];exact h3,λs2 e1 e2 e3=> ?_⟩;unfold evG;rw[hg,O9];exact h4 s2 (eop s2 e1) e2.has e3
 .rename_i j want hg;have hNs:∀id,F id->N id:=hNF.resolve_left λh=>by rw[hg]at h;cases h.2.1
  have hC:DQ F s.H:=λid ob hid ho=>hCN id ob (hNs id hid) ho;split at he
  .cases he
  .rename_i g hgd hsp;have hgl:g∈DD ops o:=Bv _<|aAi hg hgd;split at he
   .rename_i qq v EX hv;split at he
    .rename_i hn;split at he
     case isFalse=>cases he
     rename_i oS;cases he;have opn:∀x∈o.op.operands,InA F ((s.narrow g want).ev x):=λx hx=>by
      cases x with
      | tmp t=>
       show InA F (upd (λt=>Ga g want<|s.T t) g (.b want) t);by_cases e:t=g
       .subst e;rw[Bf];exact .of1 trivial
       .rw[BB _ _ e];exact at7<|hrd t<|Bv _<|S8 hx
      | const v=>exact ZG v
      | _=>exact .of1 trivial
     have hvF:InA F v:=axA hok opn hC hF hv;have azM:InA F (.gd g want v):=by
      show In3 F v;cases v<;>first|(cases hn;done)|exact hvF
     refine⟨I g,.gd g want v,[],azM,by simp,λx hx=>by cases hx;exact hgl,rfl,λs2 e1 e2 e3=> ?_⟩;unfold evG;rw[hg];simp only[hgd,hsp];have e4:({ s2 with gs:=upd s2.gs g Y } :S).has o.dst=Y:=by rw[e2.more g];exact EX
     have e5:spA C b o.dst (s2.narrow g want).ev s2.H o.op=I (qq,v):=by
      rw[ax9 (ρ:=(s.narrow g want).ev) (H:=s.H) (F:=F) (λx hx=> ?_) opn hC<|e3.mono hNs]
      .exact hv
      .cases x with
       | tmp t=>
        show upd (λt=>Ga g want<|s2.T t) g (.b want) t=upd (λt=>Ga g want<|s.T t) g (.b want) t;by_cases e:t=g
        .subst e;rw[Bf,Bf]
        .rw[BB _ _ e,BB _ _ e,e1 t<|Bv _<|S8 hx]
       | _=>rfl
     have e6:Ls ops s2 4 o=Ls ops s 4 o:=aEP 4 o λt ht=>e1 t<|CP _ ht;rw[e4,e5];simp only[hn,e6,oS,A2];rfl
    .cases he
   .cases he
  .rename_i g hgd hsp;have hgl:g∈DD ops o:=Bv _<|aAi hg hgd;split at he
   .rename_i c hT;have same:∀(s0:S) (w:Bool),s0.T g= .lit (.bool c)->c=w->({ s0 with T:=upd s0.T g (.b w) } :S)=s0:=λs0 w h e=>by
     subst e;rw[aEe _ _ _ h]
    have yes:CG C (AF S) o b { s with T:=upd s.T g (.b want) } I=I s'->c=want->
      ∃(gg:Option Nat) (v:AV) (es:List Step),InA F v/\(∀e∈es,WS e/\Gn F e)/\(∀x,gg=I x->x∈DD ops o)/\s'=(es.foldl S.app s).fin gg o.dst v/\
       ∀s2:S,(∀t∈DD ops o,s2.T t=s.T t)->KH s s2 o.dst->Agr N s.H s2.H->evG C (AF S) ops o b s2 I=I ((es.foldl S.app s2).fin gg o.dst v):=by
     intro he e;rw[same s want hT e]at he;obtain⟨v,es,h1,h2,h3,h4⟩:=HP he;refine⟨G,v,es,h1,h2,nofun,by rw[O9];exact h3,λs2 e1 e2 e3=> ?_⟩;have hT2:s2.T g= .lit (.bool c):=(e1 g hgl).trans hT;have:=h4 s2 (eop s2 e1) e2.has e3;unfold evG;rw[hg,O9];simp only[hgd,hsp,hT2];have e5:=same s2 want hT2 e;subst e;cases c<;>simp only[A2,if_false,Hc]<;>rw[e5]<;>exact this
    have no:(match s.has o.dst with
      | true=>I (({ s with T:=upd s.T g (.b<|!want) } :S).put o.dst Dp)
      | false=>G)=I s'->c= !want->
      ∃(gg:Option Nat) (v:AV) (es:List Step),InA F v/\(∀e∈es,WS e/\Gn F e)/\(∀x,gg=I x->x∈DD ops o)/\s'=(es.foldl S.app s).fin gg o.dst v/\
       ∀s2:S,(∀t∈DD ops o,s2.T t=s.T t)->KH s s2 o.dst->Agr N s.H s2.H->evG C (AF S) ops o b s2 I=I ((es.foldl S.app s2).fin gg o.dst v):=by
     intro he e;rw[same s _ hT e]at he;split at he
     .rename_i EX;cases he;refine⟨G,Dp,[],.of1 trivial,by simp,nofun,by rw[O9];rfl,λs2 e1 e2 e3=> ?_⟩;have hT2:s2.T g= .lit (.bool c):=(e1 g hgl).trans hT;have hh2:=e2.has.trans EX;unfold evG;rw[hg,O9];simp only[hgd,hsp,hT2];have e5:=same s2 _ hT2 e;subst e;cases want<;>simp only[AB,AG]at e5<;>simp only[AB,AG,A2,if_false,Hc,hh2]<;>rw[e5]<;>rfl
     .cases he
    cases want<;>cases c<;>simp only[A2,if_false,Hc]at he
    .exact yes he rfl
    .exact no he rfl
    .exact no he rfl
    .exact yes he rfl
   .rename_i vs hT;split at he
    .rename_i EX;cases he;refine⟨G,Dp,[],.of1 trivial,by simp,nofun,by rw[O9];rfl,λs2 e1 e2 e3=> ?_⟩;have hT2:s2.T g= .lit (.tuple vs):=(e1 g hgl).trans hT;have hh2:=e2.has.trans EX;unfold evG;rw[hg,O9];simp only[hgd,hsp,hT2,hh2];rfl
    .cases he
   .cases he
end
end Go.VS
namespace Go.VS
open Go
section
variable {F GJ N:Nat->Prop} {H H':Hp} {P:Program} {s s' s2:S} {b:Nat} {C:Cx}
def Gn.mono(h:∀id,F id->GJ id){e:Step}(he:Gn F e):Gn GJ e:=λob eo=>by
 have:=he ob eo;cases ob<;>first|trivial|exact λc hc=>(this c hc).mono h
def Fk.ayG(id:Nat)(fk:Fk){c:AV}(h:In1 F c)(hn:¬F id):fk.f id c=c:=by
 have ne:∀j,F j->Ag j id=A0:=λj hj=>by
  cases e:Ag j id with
  | false=>rfl
  | true=>exact absurd (Bm e▸hj) hn
 cases fk with
 | no=>rfl
 | kl=>
  cases c<;>first|rfl|(simp only[Fk.f,kl1,ne _ h];done)
 | fz k xs=>
  cases c<;>first|rfl|(simp only[Fk.f,fz1,ne _ h];done)
def aB9{f:AV->AV}(hf:∀c,In1 F c->f c=c){v:AV}(h:In2 F v):Fu f v=v:=by
 cases v<;>first|exact hf _ h|skip
 rename_i cs;exact congrArg AV.agg<|(Gi λc hc=>hf c<|h c hc).trans<|lZ cs
def aB7{f:AV->AV}(hf:∀c,In1 F c->f c=c){v:AV}(h:In3 F v):GF f v=v:=by
 have gen:In2 F v->Fu f v=v:=λh=>aB9 hf h;cases v<;>first|exact gen h|skip
 rename_i cs;exact congrArg AV.tup<|(Gi λc hc=>aB9 hf<|h c hc).trans<|lZ cs
def ji{f:AV->AV}(hf:∀c,In1 F c->f c=c){v:AV}(h:InA F v):Ex f v=v:=by
 have gen:In3 F v->GF f v=v:=λh=>aB7 hf h;cases v with
 | gd g w v=>exact congrArg (AV.gd g w)<|aB7 hf h
 | _=>exact gen h
def jh{f:AV->AV}(hf:∀c,In1 F c->f c=c){o:Option Ob}(h:∀ob,o=I ob->Ey F ob):CI f o=o:=by
 cases o with
 | none=>rfl
 | some ob=>
  have:=h ob rfl;cases ob<;>first|rfl|skip
  rename_i e cs;exact congrArg (λl=>I<|Ob.box e l)<|(Gi λc hc=>hf c<|this c hc).trans<|lZ cs
def Fk.Qu{e:Step}{c:AV}(h:In1 F c)(hn:e.fk= .no\/ ¬F e.id):e.fk.f e.id c=c:=by
 obtain hn|hn:=hn
 .rw[hn];rfl
 .exact Fk.ayG _ _ h hn
def jE{t:Nat}:∀(es:List Step) (s:S),(∀e∈es,e.fk= .no\/ ¬F e.id)->InA F (s.T t)->(es.foldl S.app s).T t=s.T t
 | [],_,_,_=>rfl
 | e::es,s,h,ht=>by
  have h1:(s.app e).T t=s.T t:=ji (λc hc=>Fk.Qu hc<|h e An) ht;show(es.foldl S.app<|s.app e).T t=s.T t;rw[jE es _ (λe' he=>h e'<|Ai _ he) (by rw[h1];exact ht),h1]
def Ot(N F:Nat->Prop)(H:Hp):Prop:=∀id ob,N id->H id=I ob->Ey F ob
def jF:∀(es:List Step) (s:S),(∀e∈es,¬N e.id/\(e.fk= .no\/ ¬F e.id))->Ot N F s.H->Agr N s.H (es.foldl S.app s).H
 | [],_,_,_=>Agr.refl _ _
 | e::es,s,h,hC=>by
  have h1:Agr N s.H (s.app e).H:=λid hid=>by
   rw[L5,A8 fun(e':id=e.id)=>(h e An).1<|e'▸hid];exact jh (λc hc=>Fk.Qu hc (h e An).2) λob ho=>hC id ob hid ho
  have hC1:Ot N F (s.app e).H:=λid ob hid ho=>hC id ob hid (by rw[← h1 id hid];exact ho);intro id hid;show(es.foldl S.app<|s.app e).H id=s.H id;rw[jF es _ (λe' he=>h e'<|Ai _ he) hC1 id hid,h1 id hid]
def aBi:∀(es:List Step) (s:S),(∀e∈es,Gn F e\/ ¬N e.id)->Ot N F s.H->Ot N F (es.foldl S.app s).H
 | [],_,_,h=>h
 | e::es,s,h,hC=>by
  refine aBi es (s.app e) (λe' he=>h e'<|Ai _ he) ?_;intro id ob hid ho;rw[L5]at ho;split at ho
  .rename_i e';obtain h1|h1:=h e An
   .exact h1 ob ho
   .exact absurd (e'▸hid) h1
  .exact aaU (λc hc=>Fk.aQ _ _ hc) (λob ho=>hC id ob hid ho) ob ho
def aAn{id:Nat}:∀(es:List Step) (s:S),(∀e∈es,e.id≠id)->s.H id=G->(es.foldl S.app s).H id=G
 | [],_,_,h=>h
 | e::es,s,hn,h=>by
  refine aAn es _ (λe' he=>hn e'<|Ai _ he) ?_;rw[L5,A8 λe'=>hn e An e'.symm,h];rfl
def kL{t:Nat}:∀(es:List Step) (s:S),InA F (s.T t)->InA F ((es.foldl S.app s).T t)
 | [],_,h=>h
 | e::es,s,h=>kL es (s.app e) (aaV (λc hc=>Fk.aQ _ _ hc) h)
def Fk.Tu{i j:Nat}(h:i≠j)(f g:Fk)(c:AV):f.f i (g.f j c)=g.f j (f.f i c):=by
 have h1:Ag i j=A0:=by rw[← GL,HD];exact h
 have h2:Ag j i=A0:=by rw[← GL,HD];exact Ku h
 have key:∀id,(Ag id i=Y->Ag id j=A0):=λid e=>by rw[Bm e];exact h1
 cases c with
 | own id=>
  cases f<;>cases g<;>simp only[Fk.f,kl1,fz1]<;>cases e1:Ag id i<;>cases e2:Ag id j<;>simp only[e1,e2]<;>
   first|rfl|(rw[key id e1]at e2;cases e2)
 | ptr id z a o=>
  cases f<;>cases g<;>simp only[Fk.f,kl1,fz1]<;>cases e1:Ag id i<;>cases e2:Ag id j<;>simp only[e1,e2]<;>
   first|rfl|(rw[key id e1]at e2;cases e2)
 | _=>cases f<;>cases g<;>rfl
def plA:AV->Bool
 | .agg _=>A0
 | .tup _=>A0
 | .gd _ _ _=>A0
 | _=>Y
def Qf(id:Nat)(fk:Fk){c:AV}(h:plA c=Y):plA (fk.f id c)=Y:=by
 cases fk with
 | no=>exact h
 | kl=>
  cases c<;>first|exact h|skip
  .simp only[Fk.f,kl1];split<;>rfl
  .simp only[Fk.f,kl1];split<;>rfl
 | fz k xs=>
  cases c<;>first|exact h|skip
  .simp only[Fk.f,fz1];split<;>rfl
  .simp only[Fk.f,fz1];split<;>rfl
def XV{f:AV->AV}{c:AV}(h:plA c=Y):Fu f c=f c:=by cases c<;>first|rfl|cases h
def XU{f:AV->AV}{c:AV}(h:plA c=Y):GF f c=f c:=by cases c<;>first|rfl|cases h
def Xv{f:AV->AV}{c:AV}(h:plA c=Y):Ex f c=f c:=by cases c<;>first|rfl|cases h
section comm
variable {i j:Nat} (hij:i≠j) (f g:Fk)
include hij
def jO(v:AV):Fu (f.f i) (Fu (g.f j) v)=Fu (g.f j) (Fu (f.f i) v):=by
 by_cases hp:plA v=Y
 .rw[XV hp,XV hp,XV<|Qf _ _ hp,XV<|Qf _ _ hp,Fk.Tu hij]
 .cases v with
  | agg cs=>simp only[Fu,I9];exact congrArg AV.agg<|Gi λc _=>Fk.Tu hij f g c
  | tup cs=>cases f<;>cases g<;>rfl
  | gd a b c=>cases f<;>cases g<;>rfl
  | _=>exact absurd rfl hp
def aB8(v:AV):GF (f.f i) (GF (g.f j) v)=GF (g.f j) (GF (f.f i) v):=by
 by_cases hp:plA v=Y
 .rw[XU hp,XU hp,XU<|Qf _ _ hp,XU<|Qf _ _ hp,Fk.Tu hij]
 .cases v with
  | agg cs=>exact jO hij f g<|.agg cs
  | tup cs=>simp only[GF,I9];exact congrArg AV.tup<|Gi λc _=>jO hij f g c
  | gd a b c=>cases f<;>cases g<;>rfl
  | _=>exact absurd rfl hp
def aBv(v:AV):Ex (f.f i) (Ex (g.f j) v)=Ex (g.f j) (Ex (f.f i) v):=by
 by_cases hp:plA v=Y
 .rw[Xv hp,Xv hp,Xv<|Qf _ _ hp,Xv<|Qf _ _ hp,Fk.Tu hij]
 .cases v with
  | agg cs=>exact jO hij f g<|.agg cs
  | tup cs=>exact aB8 hij f g<|.tup cs
  | gd a b c=>exact congrArg (AV.gd a b)<|aB8 hij f g c
  | _=>exact absurd rfl hp
def asj(o:Option Ob):CI (f.f i) (CI (g.f j) o)=CI (g.f j) (CI (f.f i) o):=by
 cases o with
 | none=>rfl
 | some o=>
  cases o with
  | box e cs=>simp only[CI,I9];exact congrArg (λl=>I<|Ob.box e l)<|Gi λc _=>Fk.Tu hij f g c
  | _=>rfl
end comm
def S.ext'{s s':S}(h1:s.n=s'.n)(h2:s.T=s'.T)(h3:s.H=s'.H)(h4:s.nid=s'.nid)(h5:s.st=s'.st)(h6:s.pins=s'.pins)(h7:s.gs=s'.gs):s=s':=by
 cases s;cases s';simp_all
def auZ{e e':Step}(hn:e.id≠e'.id)(h1:CI (e'.fk.f e'.id) e.ob=e.ob)(h2:CI (e.fk.f e.id) e'.ob=e'.ob):(s.app e).app e'=(s.app e').app e:=by
 refine S.ext' rfl (funext λt=>aBv hn.symm e'.fk e.fk (s.T t)) (funext λid=> ?_) rfl ?_ rfl rfl
 .rw[L5,L5,L5,L5];by_cases a1:id=e'.id
  .subst a1;rw[A5 rfl,A8 hn.symm,A5 rfl,h2]
  .rw[A8 a1,A8 a1];by_cases a2:id=e.id
   .rw[A5 a2,A5 a2,h1]
   .rw[A8 a2,A8 a2,asj hn.symm e'.fk e.fk]
 .show(s.st.map _).map _=(s.st.map _).map _;rw[I9,I9];exact Gi λT _=>funext λt=>aBv hn.symm e'.fk e.fk (T t)
def WkS(F W K:Nat->Prop)(e:Step):Prop:=(W e.id/\(e.fk= .no\/K e.id))/\Gn F e
def Wk(F W K:Nat->Prop)(es:List Step):Prop:=∀e∈es,WkS F W K e
def aA1{F F' W W' K K':Nat->Prop}(hW:∀id,W id->¬W' id)(h1:∀id,K id->¬F' id)(h2:∀id,K' id->¬F id){e:Step}(he:WkS F W K e):∀(es:List Step) (s:S),Wk F' W' K' es->(es.foldl S.app s).app e=es.foldl S.app (s.app e)
 | [],_,_=>rfl
 | e'::es,s,h=>by
  have he':=h e' An;have hn:e.id≠e'.id:=λx=>hW _ he.1.1<|x▸he'.1.1;have c:=auZ (s:=s) hn (jh (F:=F) (λc hc=>Fk.Qu hc<|he'.1.2.imp id<|h2 _) he.2) (jh (F:=F') (λc hc=>Fk.Qu hc<|he.1.2.imp id<|h1 _) he'.2);show(es.foldl S.app<|s.app e').app e=es.foldl S.app ((s.app e).app e');rw[aA1 hW h1 h2 he es _ λe0 h0=>h e0<|Ai _ h0,c]
def aCX{F F' W W' K K':Nat->Prop}(hW:∀id,W id->¬W' id)(h1:∀id,K id->¬F' id)(h2:∀id,K' id->¬F id):∀(es es':List Step) (s:S),Wk F W K es->Wk F' W' K' es'->es.foldl S.app (es'.foldl S.app s)=es'.foldl S.app (es.foldl S.app s)
 | [],_,_,_,_=>rfl
 | e::es,es',s,h,h'=>by
  show es.foldl S.app ((es'.foldl S.app s).app e)=es'.foldl S.app (es.foldl S.app<|s.app e);rw[aA1 hW h1 h2 (h e An) es' s h',aCX hW h1 h2 es es' _ (λe0 h0=>h e0<|Ai _ h0) h']
def aw8{e:Step}{g d:Option Nat}{v:AV}(hv:Ex (e.fk.f e.id) v=v):(s.fin g d v).app e=(s.app e).fin g d v:=by
 cases d with
 | none=>exact S.ext' rfl rfl rfl rfl rfl rfl rfl
 | some d=>
  refine S.ext' rfl (funext λt=> ?_) rfl rfl rfl rfl rfl;show Ex _ (upd s.T d v t)=upd (λt=>Ex _<|s.T t) d v t;by_cases e:t=d
  .subst e;rw[Bf,Bf,hv]
  .rw[BB _ _ e,BB _ _ e]
def mE{g d:Option Nat}{v:AV}:∀(es:List Step) (s:S),(∀e∈es,Ex (e.fk.f e.id) v=v)->es.foldl S.app (s.fin g d v)=(es.foldl S.app s).fin g d v
 | [],_,_=>rfl
 | e::es,s,h=>by
  show es.foldl S.app ((s.fin g d v).app e)=(es.foldl S.app<|s.app e).fin g d v;rw[aw8<|h e An,mE es _ λe' h'=>h e'<|Ai _ h']
def av3{g g' d d':Option Nat}{v v':AV}(hd:∀t,d=I t->d'≠I t):(s.fin g d v).fin g' d' v'=(s.fin g' d' v').fin g d v:=by
 have hT:∀(d d':Nat) (v v':AV) (T:Nat->AV),d≠d'->upd (upd T d v) d' v'=upd (upd T d' v') d v:=λd d' v v' T hn=>by
  funext t;by_cases e:t=d'
  .subst e;rw[Bf,BB _ _ hn.symm,Bf]
  .rw[BB _ _ e];by_cases e2:t=d
   .subst e2;rw[Bf,Bf]
   .rw[BB _ _ e2,BB _ _ e2,BB _ _ e]
 have hG:∀(g g':Nat) (T:Nat->Bool),upd (upd T g Y) g' Y=upd (upd T g' Y) g Y:=λg g' T=>by
  funext t;by_cases e:t=g'
  .subst e;rw[Bf];by_cases e2:t=g
   .subst e2;rw[Bf]
   .rw[BB _ _ e2,Bf]
  .rw[BB _ _ e];by_cases e2:t=g
   .subst e2;rw[Bf,Bf]
   .rw[BB _ _ e2,BB _ _ e2,BB _ _ e]
 refine S.ext' ?_ ?_ ?_ ?_ ?_ ?_ ?_
 .cases d<;>cases d'<;>rfl
 .cases d with
  | none=>cases d'<;>rfl
  | some d=>cases d' with
   | none=>rfl
   | some d'=>exact hT _ _ _ _ s.T (λe=>hd d rfl (by rw[e]))
 .cases d<;>cases d'<;>rfl
 .cases d<;>cases d'<;>rfl
 .cases d<;>cases d'<;>rfl
 .cases d<;>cases d'<;>rfl
 .cases d<;>cases d'<;>cases g<;>cases g'<;>first|rfl|exact hG _ _ s.gs
end
end Go.VS
namespace Go.VS
open Go
structure Lb where
 b:Nat->Nat
 F:Nat->Nat->Prop
 N:Nat->Nat->Prop
 W:Nat->Nat->Prop
 K:Nat->Nat->Prop
 V:Nat->Nat->Prop
 R:Nat->Nat->Prop
def Stp(C:Cx)(ops:Array Oper)(o:Oper)(b:Nat)(F N W K V:Nat->Prop)(s s':S):Prop:=
 ∃(g:Option Nat) (v:AV) (es:List Step),InA F v/\(∀t,o.dst=I t->InA V v)/\Wk F W K es/\(∀x,g=I x->x∈DD ops o)/\s'=(es.foldl S.app s).fin g o.dst v/\
  ∀s2:S,(∀t∈DD ops o,s2.T t=s.T t)->KH s s2 o.dst->Agr N s.H s2.H->ev1 C ops o b s2=I ((es.foldl S.app s2).fin g o.dst v)
section
variable {C:Cx} {ops:Array Oper} {s s' s0 s1 s2:S}
def Stp.ev{o:Oper}{b:Nat}{F N W K V:Nat->Prop}(h:Stp C ops o b F N W K V s s'):ev1 C ops o b s=I s':=by
 obtain⟨g,v,es,_,_,_,_,rfl,h⟩:=h;exact h s (λ_ _=>rfl) ⟨rfl,rfl,λ_ _=>rfl⟩<|Agr.refl _ _
def ZR{g d:Option Nat}{v:AV}{t:Nat}:(s.fin g d v).T t=if d=I t then v else s.T t:=by
 cases d with
 | none=>simp[S.fin,S.put]
 | some d=>
  show upd s.T d v t=_;by_cases e:t=d
  .subst e;rw[Bf];simp
  .rw[BB _ _ e,A8 λe'=>e<|by simpa using e'.symm]
def ZS{g d:Option Nat}{v:AV}:(s.fin g d v).H=s.H:=by cases d<;>rfl
def abC{g d:Option Nat}{v:AV}{t:Nat}(h:g≠I t):(s.fin g d v).gs t=s.gs t:=by
 cases g with
 | none=>cases d<;>rfl
 | some g=>
  have:t≠g:=λe=>h (by rw[e]);cases d<;>exact BB _ _ this
def Stp.swap{x i:Oper}{bx bi:Nat}{Fx Nx Wx Kx Vx Fi Ni Wi Ki Vi:Nat->Prop}(h1:Stp C ops x bx Fx Nx Wx Kx Vx s0 s1)(h2:Stp C ops i bi Fi Ni Wi Ki Vi s1 s2)
  (kxi:∀id,Kx id->¬Fi id)(kix:∀id,Ki id->¬Fx id)(nxi:∀id,Wx id->¬Ni id)(nix:∀id,Wi id->¬Nx id)(wxi:∀id,Wx id->¬Wi id)(dxi:∀t,x.dst=I t->t ∉ DD ops i)(dix:∀t,i.dst=I t->t ∉ DD ops x)(hd:∀t,x.dst=I t->i.dst≠I t)
  (rx:∀t∈DD ops x,InA Fx<|s0.T t)(cx:Ot Nx Fx s0.H)(ri:∀t∈DD ops i,InA Fi<|s0.T t)(ci:Ot Ni Fi s0.H):
  ∃s0',Stp C ops i bi Fi Ni Wi Ki Vi s0 s0'/\Stp C ops x bx Fx Nx Wx Kx Vx s0' s2:=by
 obtain⟨g1,v1,es1,a1,a2,a3,a4,a5,a6⟩:=h1;obtain⟨g2,v2,es2,b1,b2,b3,b4,b5,b6⟩:=h2;have n1:∀e∈es1,e.fk= .no\/ ¬Fi e.id:=λe he=>(a3 e he).1.2.imp id<|kxi _;have p1:∀e∈es1,¬Ni e.id/\(e.fk= .no\/ ¬Fi e.id):=λe he=>⟨nxi _ (a3 e he).1.1,n1 e he⟩;have n2:∀e∈es2,e.fk= .no\/ ¬Fx e.id:=λe he=>(b3 e he).1.2.imp id<|kix _;have p2:∀e∈es2,¬Nx e.id/\(e.fk= .no\/ ¬Fx e.id):=λe he=>⟨nix _ (b3 e he).1.1,n2 e he⟩;have T1:∀t∈DD ops i,s1.T t=s0.T t:=λt ht=>by
  rw[a5,ZR,A8 λe=>dxi t e ht];exact jE es1 s0 n1<|ri t ht
 have H1:Agr Ni s0.H s1.H:=by
  rw[a5,ZS];exact jF es1 s0 p1 ci
 have E1:KH s0 s1 i.dst:=by
  obtain⟨p1,p2,p3,_⟩:=mr es1 s0;rw[a5];refine⟨?_, ?_,λt ht=> ?_⟩
  .rw[← p2];cases x.dst<;>rfl
  .rw[← p3];cases x.dst<;>rfl
  .rw[abC λe=>dix t ht<|a4 t e,p1]
 have step:∀s3:S,(∀t∈DD ops i,s3.T t=s0.T t)->KH s0 s3 i.dst->Agr Ni s0.H s3.H->ev1 C ops i bi s3=I ((es2.foldl S.app s3).fin g2 i.dst v2):=λs3 e1 e2 e3=>
  b6 s3 (λt ht=>by rw[e1 t ht,T1 t ht]) ⟨e2.1.trans E1.1.symm,e2.2.1.trans E1.2.1.symm,λt ht=>by rw[e2.2.2 t ht,E1.2.2 t ht]⟩ (λid hid=>by rw[e3 id hid,H1 id hid])
 have T2:∀t∈DD ops x,((es2.foldl S.app s0).fin g2 i.dst v2).T t=s0.T t:=λt ht=>by
  rw[ZR,A8 λe=>dix t e ht];exact jE es2 s0 n2<|rx t ht
 have H2:Agr Nx s0.H ((es2.foldl S.app s0).fin g2 i.dst v2).H:=by
  rw[ZS];exact jF es2 s0 p2 cx
 have E2:KH s0 ((es2.foldl S.app s0).fin g2 i.dst v2) x.dst:=by
  obtain⟨p1,p2,p3,_⟩:=mr es2 s0;refine⟨?_, ?_,λt ht=> ?_⟩
  .rw[← p2];cases i.dst<;>rfl
  .rw[← p3];cases i.dst<;>rfl
  .rw[abC λe=>dxi t ht<|b4 t e,p1]
 have eq:s2=(es1.foldl S.app<|(es2.foldl S.app s0).fin g2 i.dst v2).fin g1 x.dst v1:=by
  have m1:∀e∈es1,Ex (e.fk.f e.id) v2=v2:=λe he=>ji (λc hc=>Fk.Qu hc<|n1 e he) b1;have m2:∀e∈es2,Ex (e.fk.f e.id) v1=v1:=λe he=>ji (λc hc=>Fk.Qu hc<|n2 e he) a1;rw[b5,a5,mE es2 _ m2,mE es1 _ m1,aCX wxi kxi kix es1 es2 s0 a3 b3,av3 hd]
 refine⟨(es2.foldl S.app s0).fin g2 i.dst v2,⟨g2,v2,es2,b1,b2,b3,b4,rfl,step⟩,⟨g1,v1,es1,a1,a2,a3,a4,eq,λs3 e1 e2 e3=> ?_⟩⟩;exact a6 s3 (λt ht=>by rw[e1 t ht,T2 t ht]) ⟨e2.1.trans E2.1,e2.2.1.trans E2.2.1,λt ht=>by rw[e2.2.2 t ht,E2.2.2 t ht]⟩ λid hid=>by rw[e3 id hid,H2 id hid]
inductive Run (C:Cx) (ops:Array Oper) (L:Lb):List Nat->S->S->Prop
 | nil {s:S} :Run C ops L [] s s
 | cons {i:Nat} {o:Oper} {l:List Nat} {s s1 s':S} (ho:ops[i]? =I o) (h:Stp C ops o (L.b i) (L.F i) (L.N i) (L.W i) (L.K i) (L.V i) s s1) (t:Run C ops L l s1 s'):Run C ops L (i::l) s s'
def Fit(ops:Array Oper)(L:Lb)(Ba:List Nat)(s:S)(i:Nat):Prop:=∀o,ops[i]? =I o->
 (∀t∈DD ops o,(∀j∈Ba,L.R j i->∀oj,ops[j]? =I oj->oj.dst≠I t)->InA (L.F i) (s.T t)/\(mov o.op=Y\/InA (L.N i) (s.T t)))/\Ot (L.N i) (L.F i) s.H/\(∀id,L.b i<=id->id<L.b i+16->s.H id=G)
def Ind(ops:Array Oper)(L:Lb)(x i:Nat):Prop:=∀ox oi,ops[x]? =I ox->ops[i]? =I oi->
 (∀id,L.K x id->¬L.F i id)/\(∀id,L.K i id->¬L.F x id)/\(∀id,L.W x id->¬L.N i id)/\(∀id,L.W i id->¬L.N x id)/\(∀id,L.W x id->¬L.W i id)/\
 (∀id,L.b i<=id->id<L.b i+16->¬L.F x id)/\(∀id,L.b x<=id->id<L.b x+16->¬L.F i id)/\(∀t,ox.dst=I t->t ∉ DD ops oi)/\(∀t,oi.dst=I t->t ∉ DD ops ox)
def Bef(ops:Array Oper)(L:Lb)(x i:Nat):Prop:=∀ox oi,ops[x]? =I ox->ops[i]? =I oi->
 ((∀id,L.W x id->¬L.N i id)\/(∀id,L.F x id->L.F i id))/\(∀t,ox.dst=I t->t∈DD ops oi->(∀id,L.V x id->L.F i id)/\(mov oi.op=Y\/ ∀id,L.V x id->L.N i id))/\(∀id,L.b i<=id->id<L.b i+16->¬L.F x id)
structure PB (ops:Array Oper) (L:Lb):Prop where
 WF:∀i id,L.W i id->L.F i id
 NF:∀i id,L.N i id->L.F i id
 NW:∀i id,L.b i<=id->id<L.b i+16->L.W i id
 lt:∀x i,L.R x i->x<i
 dst:∀(x i:Nat) (ox oi:Oper) (t:Nat),x≠i->ops[x]? =I ox->ops[i]? =I oi->ox.dst=I t->oi.dst≠I t
 anc:∀(x i:Nat) (oi:Oper),ops[i]? =I oi->L.R x i->∃e∈oi.after,Fh .any e=Y/\(e.on=x\/L.R x e.on)
 dir:∀(i:Nat) (oi:Oper) (e:Edge),ops[i]? =I oi->e∈oi.after->Fh .any e=Y->e.on<i
 bef:∀x i,L.R x i->Bef ops L x i
 ind:∀x i,x<i->¬L.R x i->Ind ops L x i
variable {L:Lb}
def Ind.symm{x i:Nat}(h:Ind ops L x i):Ind ops L i x:=λoi ox hi hx=>by
 obtain⟨a,b,c,d,e,f,g,p,q⟩:=h ox oi hx hi;exact⟨b,a,d,c,λid h1 h2=>e id h2 h1,g,f,q,p⟩
def Fit.step(hn:PB ops L){Ba:List Nat}{x i:Nat}{ox:Oper}(hox:ops[x]? =I ox)(hxi:x≠i)(hRi:¬L.R i x)(h:Stp C ops ox (L.b x) (L.F x) (L.N x) (L.W x) (L.K x) (L.V x) s s')(hf:Fit ops L Ba s i){U':List Nat}(hU:∀j∈Ba,j=x\/j∈U'):
  Fit ops L U' s' i:=by
 intro oi hoi;obtain⟨f1,f2,f3⟩:=hf oi hoi;obtain⟨g,v,es,a1,a2,a3,a4,rfl,a6⟩:=h;have pc:(((∀id,L.W x id->¬L.N i id)\/(∀id,L.F x id->L.F i id))/\(∀t,ox.dst=I t->t∈DD ops oi->(∀id,L.V x id->L.F i id)/\(mov oi.op=Y\/ ∀id,L.V x id->L.N i id))/\(∀id,L.b i<=id->id<L.b i+16->¬L.F x id)):=by
  by_cases hR:L.R x i
  .exact hn.bef x i hR ox oi hox hoi
  .have hI:Ind ops L x i:=by
    obtain h|h:=TR hxi
    .exact hn.ind x i h hR
    .exact(hn.ind i x h hRi).symm
   obtain⟨_,_,b1,_,_,b6,_,b8,_⟩:=hI ox oi hox hoi;exact⟨.inl b1,λt h1 h2=>absurd h2<|b8 t h1,b6⟩
 obtain⟨p1,p2,p3⟩:=pc;refine⟨λt ht PA=> ?_, ?_,λid h1 h2=> ?_⟩
 .rw[ZR];split
  .rename_i hd;exact⟨(a2 t hd).mono (p2 t hd ht).1,(p2 t hd ht).2.imp id λh=>(a2 t hd).mono h⟩
  .rename_i hd;have:=f1 t ht λj hj hR oj hoj e=>by
    obtain rfl|hj:=hU j hj
    .rw[hox]at hoj;cases hoj;exact hd e
    .exact PA j hj hR oj hoj e
   exact⟨kL es s this.1,this.2.imp id<|kL es s⟩
 .rw[ZS];refine aBi es s (λe he=> ?_) f2;obtain p1|p1:=p1
  .exact .inr (p1 _ (a3 e he).1.1)
  .exact .inl ((a3 e he).2.mono p1)
 .rw[ZS];exact aAn es s (λe he e'=>p3 id h1 h2<|e'▸hn.WF x _ (a3 e he).1.1)<|f3 id h1 h2
def Run.first(hn:PB ops L){i:Nat}{l2:List Nat}:∀(l1:List Nat) (s:S),Run C ops L (l1++i::l2) s s'->(l1++i::l2).Pairwise (· < ·)->(∀j∈l1++i::l2,¬L.R j i)->
  (∀j∈l1++i::l2,Fit ops L (l1++i::l2) s j)->Run C ops L (i::(l1++l2)) s s'
 | [],s,h,_,_,_=>h
 | x::l1,s,h,hp,hr,hf=>by
  cases h with
  | cons hox hx t=>
   rename_i ox s1;have hp':=K6.1 hp;have hxi:x<i:=hp'.1 i<|CP _ An;have ih:=Run.first hn l1 s1 t hp'.2 (λj hj=>hr j<|Ai _ hj) (λj hj=>by
    refine(hf j<|Ai _ hj).step hn hox (Ok<|hp'.1 j hj) (λhR=>Nat.lt_asymm (hn.lt _ _ hR)<|hp'.1 j hj) hx λk hk=> ?_;obtain h|h:=Bl.1 hk
    .exact .inl h
    .exact .inr h)
   cases ih with
   | cons hoi hi t2=>
    rename_i oi s2;obtain⟨c1,c2,c3,c4,c5,_,_,c6,c7⟩:=hn.ind x i hxi (hr x An) ox oi hox hoi;obtain⟨fx1,fx2,_⟩:=hf x An ox hox;obtain⟨fi1,fi2,_⟩:=hf i (Ai _<|CP _ An) oi hoi;obtain⟨s0',k1,k2⟩:=Stp.swap hx hi c1 c2 c3 c4 c5 c6 c7 (λt ht=>hn.dst x i ox oi t (Ok hxi) hox hoi ht)
     (λt ht=>(fx1 t ht λj hj hR oj hoj e=>by
      obtain rfl|hj:=Bl.1 hj
      .exact absurd (hn.lt _ _ hR) (Nat.lt_irrefl _)
      .exact Nat.lt_asymm (hn.lt _ _ hR)<|hp'.1 j hj).1) fx2
     (λt ht=>(fi1 t ht λj hj hR oj hoj e=>hr j hj hR).1) fi2
    exact .cons hoi k1<|.cons hox k2 t2
end
end Go.VS
namespace Go.VS
open Go
section
variable {C:Cx} {B:Bb} {ops:Array Oper} {L:Lb} {stk:List (Array Value)} {Q:Exit->Act->World->Prop}
def sv{a:Array Bool}{i:Nat}(h:i<a.size)(ht:a.getD i Y=Y):a.getD i A0=Y:=by
 simp[h]at ht ⊢; exact ht
def ap1(hP:C.P=B.P)(hC:HL C B)(hn:PB ops L){s':S}(hQ:∀β a w,St B β stk s' a w->Q .normal a w):∀(n:Nat) (Ba:List Nat) (listed:Array Bool) (a:Act) (w:World) (β:Beta) (s:S),
  Ba.length=n->Run C ops L Ba s s'->Ba.Pairwise (· < ·)->(∀j,j∈Ba↔j<ops.size/\listed.getD j Y=A0)->listed.size=ops.size->(∀i x,i<ops.size->i ∉ Ba->L.R x i->x ∉ Ba)->
  (∀j∈Ba,Fit ops L Ba s j)->St B β stk s a w->wpAny B.P .any ops Q n listed a w:=by
 intro n
 induction n with
 | zero=>
  intro Ba listed a w β s hl hr hp hU hs hd hf hst;have:Ba=[]:=Dw hl;subst this;cases hr;refine⟨?_,hQ β a w hst⟩;cases hrd:Oo .any ops listed with
  | nil=>rfl
  | cons j l=>
   have hj:j∈Oo .any ops listed:=by rw[hrd];exact An
   obtain⟨h1,o,ho,_⟩:=mem_ready.1 hj;have:=(hU j).2 ⟨(HC.1 ho).1,h1⟩;cases this
 | succ n ih=>
  intro Ba listed a w β s hl hr hp hU hs hd hf hst;refine⟨λoL=> ?_,λi hi=> ?_⟩
  .exfalso;cases Ba with
   | nil=>simp at hl
   | cons i0 l=>
    obtain⟨hlt,hun⟩:=(hU i0).1 An;obtain⟨o,ho⟩:∃o,ops[i0]? =I o:=⟨ops[i0],by simp[hlt]⟩;have hr0:i0∈Oo .any ops listed:=mem_ready.2 ⟨hun,o,ho,λe he hb=>by
     have aO:=hn.dir i0 o e ho he hb;have azT:e.on ∉ i0::l:=λhm=>by
      obtain h|h:=Bl.1 hm
      .omega
      .have:=(K6.1 hp).1 _ h;omega
     have hsz:e.on<ops.size:=J
     refine sv J ?_;cases hb':listed.getD e.on Y with
     | true=>rfl
     | false=>exact absurd ((hU e.on).2 ⟨hsz,hb'⟩) azT⟩
    rw[oL]at hr0;cases hr0
  .obtain⟨hun,oi,hoi,It⟩:=mem_ready.1 hi;have hlt:i<ops.size:=(HC.1 hoi).1;have hiU:i∈Ba:=(hU i).2 ⟨hlt,hun⟩;obtain⟨l1,l2,rfl⟩:=TQ hiU;have hRn:∀j∈l1++i::l2,¬L.R j i:=by
    intro j hj hR;obtain⟨e,he,hb,Tw⟩:=hn.anc j i oi hoi hR;have hel:=It e he hb;have heU:e.on ∉ l1++i::l2:=λhm=>by
     have h2:=((hU e.on).1 hm).2;have hsz:=((hU e.on).1 hm).1;have:listed.getD e.on Y=Y:=by simp[show e.on<listed.size by omega]at hel ⊢; exact hel
     rw[this]at h2;cases h2
    obtain h|h:=Tw
    .exact heU (h▸hj)
    .have aO:=hn.dir i oi e hoi he hb;exact hd e.on j J heU h hj
   have Cg:=Run.first hn l1 s hr hp hRn hf
   cases Cg with
   | cons U1 U8 t=>
    rename_i o' s1;rw[hoi]at U1;cases U1;have hnd:(l1++i::l2).Nodup:=hp.imp λh=>Ok h;have FW:∀j,j∈l1++l2↔j∈l1++i::l2/\j≠i:=by
     intro j;have JW:=JN.1 hnd;constructor
     .intro hj;refine⟨?_, ?_⟩
      .rcases BM.1 hj with h|h
       .exact Bv _ h
       .exact CP _ (Ai _ h)
      .rintro rfl;obtain h|h:=BM.1 hj
       .exact JW.2.2 j h j An rfl
       .exact(IB.1 JW.2.1).1 h
     .rintro⟨hj,hne⟩;obtain h|h:=BM.1 hj
      .exact Bv _ h
      .rcases Bl.1 h with h|h
       .exact absurd h hne
       .exact CP _ h
    refine lE hP hC hoi hst (b:=L.b i) (λj h1 h2=>(hf i hiU oi hoi).2.2 j h1 h2) U8.ev ?_;intro β' u w' MG;refine ih (l1++l2) _ _ _ β' s1 ?_ t ?_ ?_ ?_ ?_ ?_ MG
    .simp at hl ⊢; omega
    .exact(N1.1 hp).1 |> λp1=>by
      have p2:=N1.1 hp;exact N1.2 ⟨p1,(K6.1 p2.2.1).2,λx hx y hy=>p2.2.2 x hx y<|Ai _ hy⟩
    .intro j;rw[FW,hU];by_cases e:j=i
     .subst e;simp
     .rw[getD_set_ne Y<|Ku e];simp[e]
    .simpa using hs
    .intro k x hk hkU hR hx;have hxU:=((FW x).1 hx).1;by_cases e:k=i
     .subst e;exact hRn x hxU hR
     .exact hd k x hk (λh=>hkU<|(FW k).2 ⟨h,e⟩) hR hxU
    .intro j hj;obtain⟨hjU,hne⟩:=(FW j).1 hj;refine(hf j hjU).step hn hoi (Ku hne) (hRn j hjU) U8 λk hk=> ?_;by_cases e:k=i
     .exact .inl e
     .exact .inr<|(FW k).2 ⟨hk,e⟩
def aqL(hP:C.P=B.P)(hm:B.P.follows .mixedOrders=Y)(hC:HL C B)(hn:PB ops L){s s':S}(hr:Run C ops L (B7 ops.size) s s')(hf:∀j,j<ops.size->Fit ops L (B7 ops.size) s j)
  {id:Nat}{β:Beta}{a:Act}{w:World}(hst:St B β stk s a w)(hQ:∀β a w,St B β stk s' a w->Q .normal a w):(Qa id ops Y).wp B.P Q a w:=by
 refine wp_region_any hm ?_;have MG:St B β stk s a { w with drawn:=w.drawn+1 } :=by
  have hk:Kp w β { w with drawn:=w.drawn+1 } β:=Kp.heap rfl;have:=hst.keep hk (H':=s.H)<|hst.hs.drew;exact this
 refine ap1 hP hC hn hQ ops.size (B7 ops.size) _ a _ β s aE4 hr QQ (λj=> ?_) aE4 (λi x hi hiU hR=> ?_) (λj hj=>hf j<|Cu.1 hj) MG
 .rw[Cu];constructor
  .intro h;exact⟨h,by simp[h]⟩
  .exact λh=>h.1
 .exact absurd (Cu.2 hi) hiU
end
end Go.VS
namespace Go.VS
open Go
abbrev Mm(M id:Nat):Prop:=M.testBit id=Y
def Ea(a b i:Nat):(BN a b).testBit i=(a.testBit i||b.testBit i):=Nat.testBit_or a b i
def l9(a b i:Nat):(Oi a b).testBit i=(a.testBit i&&b.testBit i):=Nat.testBit_and a b i
def YG{i j:Nat}:(bit i).testBit j=Y↔j=i:=by
 show(1 <<< i).testBit j=Y↔j=i;rw[Nat.one_shiftLeft,Nat.testBit_two_pow];simp[eq_comm]
def Ll{b j:Nat}:(nm b).testBit j=Y↔b<=j/\j<b+16:=by
 show(65535 <<< b).testBit j=Y↔_;rw[Nat.testBit_shiftLeft,show(65535:Nat)=2 ^ 16 - 1 from rfl,Nat.testBit_two_pow_sub_one];simp;omega
def Mf{l:List Nat}{j:Nat}:(msk l).testBit j=Y↔j∈l:=by
 induction l with
 | nil=>simp[msk]
 | cons i l ih=>
  show(BN (bit i)<|msk l).testBit j=Y↔_;rw[Ea,C1,YG,ih,Bl]
def Ld{a b:Nat}(h:dsj a b=Y):∀i,Mm a i->¬Mm b i:=λi h1 h2=>by
 have e:Oi a b=0:=Yk h;have:=l9 a b i;rw[e,h1,h2]at this;simp at this
def SU{a b:Nat}(h:sbs a b=Y):∀i,Mm a i->Mm b i:=λi h1=>by
 have e:Oi a b=a:=Yk h;have:=l9 a b i;rw[e,h1]at this;simpa using this.symm
def mM{a i:Nat}:tst a i=Y↔a.testBit i=Y:=by
 unfold tst;constructor
 .intro h;cases hb:a.testBit i with
  | true=>rfl
  | false=>
   have:dsj a (bit i)=Y:=by
    unfold dsj;have e:Oi a (bit i)=0:=Nat.eq_of_testBit_eq λj=>by
     rw[l9];cases hj:(bit i).testBit j with
     | false=>simp
     | true=>rw[YG.1 hj,hb];simp
    rw[e];rfl
   rw[this]at h;cases h
 .intro h;cases hd:dsj a (bit i) with
  | false=>rfl
  | true=>exact absurd (YG.2 rfl)<|Ld hd i h
section
variable {F:Nat->Prop} {H:Hp}
def aEt{v:AV}{l:List Nat}(h:NE v=I l)(hF:∀i∈l,F i):In1 F v:=by
 cases v<;>first|(cases h;done)|(cases h;exact hF _ aE4)|trivial
def mU:∀ {cs:List AV} {l:List Nat},ZW cs=I l->(∀i∈l,F i)->∀c∈cs,In1 F c
 | [],_,_,_,_,hc=>by cases hc
 | c::cs,l,h,hF,d,hd=>by
  obtain⟨a,h1,h⟩:=Ah.1 h;obtain⟨b,h2,h⟩:=Ah.1 h;cases h;obtain rfl|hd:=Bl.1 hd
  .exact aEt h1 λi hi=>hF i (Bv _ hi)
  .exact mU h2 (λi hi=>hF i<|CP _ hi) d hd
def aEs{v:AV}{l:List Nat}(h:ND v=I l)(hF:∀i∈l,F i):In2 F v:=by
 have gen:NE v=I l->In2 F v:=λh=> .of1<|aEt h hF;cases v<;>first|exact mU h hF|exact gen h
def aaZ:∀ {cs:List AV} {l:List Nat},nW cs=I l->(∀i∈l,F i)->∀c∈cs,In2 F c
 | [],_,_,_,_,hc=>by cases hc
 | c::cs,l,h,hF,d,hd=>by
  obtain⟨a,h1,h⟩:=Ah.1 h;obtain⟨b,h2,h⟩:=Ah.1 h;cases h;obtain rfl|hd:=Bl.1 hd
  .exact aEs h1 λi hi=>hF i (Bv _ hi)
  .exact aaZ h2 (λi hi=>hF i<|CP _ hi) d hd
def aaa{v:AV}{l:List Nat}(h:Zi v=I l)(hF:∀i∈l,F i):In3 F v:=by
 have gen:ND v=I l->In3 F v:=λh=> .of2<|aEs h hF;cases v<;>first|exact aaZ h hF|exact gen h
def Xy{v:AV}{l:List Nat}(h:Tk v=I l)(hF:∀i∈l,F i):InA F v:=by
 have gen:Zi v=I l->InA F v:=λh=> .of3<|aaa h hF;cases v with
 | gd g w v=>exact aaa (v:=v) h hF
 | _=>exact gen h
def aAV:∀ {ids m:List Nat},Yw H ids=I m->(∀i∈m,F i)->∀i∈ids,∀ob,H i=I ob->Ey F ob
 | [],_,_,_,_,hi=>by cases hi
 | j::l,m,h,hF,i,hi=>by
  obtain⟨a,h1,h⟩:=Ah.1 h;obtain⟨b,h2,h⟩:=Ah.1 h;cases h;obtain rfl|hi:=Bl.1 hi
  .intro ob ho;unfold ab8 at h1;rw[ho]at h1;cases ob<;>first|trivial|exact mU h1 λi hi=>hF i (Bv _ hi)
  .exact aAV h2 (λi hi=>hF i<|CP _ hi) i hi
def Xq:∀(n:Nat) (l:List Nat) {c:Nat},clo H n l=I c->(∀i∈l,Mm c i)/\DQ (Mm c) H
 | 0,[],c,h=>by cases h;exact⟨by simp,λi ob hi=>by simp[Mm]at hi⟩
 | 0,_::_,c,h=>by cases h
 | n+1,[],c,h=>by cases h;exact⟨by simp,λi ob hi=>by simp[Mm]at hi⟩
 | n+1,j::l,c,h=>by
  have h:((Yw H<|j::l).bind λm=>(clo H n m).bind λr=>I<|BN (msk<|j::l) r)=I c:=h;obtain⟨m,h1,h⟩:=Ah.1 h;obtain⟨r,h2,h⟩:=Ah.1 h;cases h;obtain⟨i1,i2⟩:=Xq n m h2;have up:∀i,Mm r i->Mm (BN (msk<|j::l) r) i:=λi hi=>by
   show(BN _ _).testBit i=Y;rw[Ea,show r.testBit i=Y from hi];simp
  refine⟨λi hi=> ?_,λi ob hi ho=> ?_⟩
  .show(BN _ _).testBit i=Y;rw[Ea,Mf.2 hi];rfl
  .have hi:(BN (msk<|j::l) r).testBit i=Y:=hi;rw[Ea,C1]at hi;obtain hi|hi:=hi
   .exact aAV h1 (λk hk=>up k<|i1 k hk) i (Mf.1 hi) ob ho
   .have:=i2 i ob hi ho;cases ob<;>first|trivial|exact λc hc=>(this c hc).mono up
end
section
variable {C:Cx} {ops:Array Oper} {s0:S} {b0:Nat}
def CX(C:Cx)(ops:Array Oper)(s0:S)(b0:Nat):List Rec->Prop
 | []=>True
 | r::acc=>CX C ops s0 b0 acc/\r.i=acc.length/\r.b=b0+16 * acc.length/\ops[r.i]? =I r.o/\Qi acc r.o.after.toList=I r.anc/\
  (∃l c,ZV s0 acc (DD ops r.o)=I l/\clo s0.H 4 l=I c/\((mvO r.o=A0/\r.F=OT r.anc acc (BN c<|nm r.b)/\((r.N=BN (msk l) (nm r.b)/\pur r.o=Y/\r.o.guard=G)\/r.N=r.F))\/(mvO r.o=Y/\r.F=BN (msk l) (nm r.b)/\r.N=nm r.b)))/\(sbs r.W r.F=Y/\ ∀id,Mm (nm r.b) id->Mm r.W id)/\
  (∀x∈acc,chk ops x r=Y)/\okO C r.o=Y/\P2 r.o.dst (DD ops r.o)=Y
def CX.lt:∀ {acc:List Rec},CX C ops s0 b0 acc->∀r∈acc,r.i<acc.length
 | [],_,r,hr=>by cases hr
 | x::acc,h,r,hr=>by
  obtain rfl|hr:=Bl.1 hr
  .rw[h.2.1];simp
  .have:=CX.lt h.1 r hr;simp;omega
def CX.mem:∀ {acc:List Rec},CX C ops s0 b0 acc->∀r∈acc,∃HH,CX C ops s0 b0 (r::HH)/\(∀x∈HH,x∈acc)/\(∀x∈acc,x.i<r.i->x∈HH)/\(∀x∈HH,x.i<r.i)
 | [],_,r,hr=>by cases hr
 | x::acc,h,r,hr=>by
  obtain rfl|hr:=Bl.1 hr
  .refine⟨acc,h,λy hy=>Ai _ hy,λy hy hlt=> ?_,λy hy=>by rw[h.2.1];exact h.1.lt y hy⟩;obtain rfl|hy:=Bl.1 hy
   .omega
   .exact hy
  .obtain⟨HH,h1,h2,h3,h4⟩:=CX.mem h.1 r hr;have k1:=h.1.lt r hr;have k2:=h.2.1;refine⟨HH,h1,λy hy=>Ai _<|h2 y hy,λy hy hlt=> ?_,h4⟩;obtain e|hy:=Bl.1 hy
   .rw[e]at hlt;omega
   .exact h3 y hy hlt
def CX.find:∀ {acc:List Rec},CX C ops s0 b0 acc->∀r∈acc,HV r.i acc=I r
 | [],_,r,hr=>by cases hr
 | x::acc,h,r,hr=>by
  unfold HV;obtain rfl|hr:=Bl.1 hr
  .simp
  .have h1:=h.1.lt r hr;have h2:=h.2.1;have:Ag x.i r.i=A0:=by rw[← GL,HD];omega
   rw[this];exact CX.find h.1 r hr
def O1{i:Nat}{r:Rec}:∀ {acc:List Rec},HV i acc=I r->r∈acc/\r.i=i
 | [],h=>by cases h
 | x::acc,h=>by
  unfold HV at h;split at h
  .rename_i e;cases h;exact⟨An,Bm e⟩
  .have:=O1 h;exact⟨Ai _ this.1,this.2⟩
def aCJ{t:Nat}{r:Rec}:∀ {acc:List Rec},Qh t acc=I r->r∈acc/\r.o.dst=I t
 | [],h=>by cases h
 | x::acc,h=>by
  unfold Qh at h;split at h
  .rename_i e;cases h;refine⟨An, ?_⟩;unfold nK at e;split at e
   .rename_i d hd;rw[hd,Bm e]
   .cases e
  .have:=aCJ h;exact⟨Ai _ this.1,this.2⟩
def CX.ex:∀ {acc:List Rec},CX C ops s0 b0 acc->∀i,i<acc.length->∃r∈acc,r.i=i
 | [],_,i,hi=>by simp at hi
 | x::acc,h,i,hi=>by
  by_cases e:i=acc.length
  .exact⟨x,An,by rw[h.2.1,e]⟩
  .obtain⟨r,hr,e'⟩:=CX.ex h.1 i (by simp at hi;omega);exact⟨r,Ai _ hr,e'⟩
def SI{anc:Nat}:∀(acc:List Rec) (F:Nat) (i:Nat),Mm F i->Mm (OT anc acc F) i
 | [],_,_,h=>h
 | r::acc,F,i,h=>by
  unfold OT;refine SI acc _ i ?_;split
  .show(BN _ _).testBit i=Y;rw[Ea,show F.testBit i=Y from h];simp
  .exact h
def DQ.lor{H:Hp}{a b:Nat}(h1:DQ (Mm a) H)(h2:DQ (Mm b) H):DQ (Mm<|BN a b) H:=by
 have up1:∀i,Mm a i->Mm (BN a b) i:=λi hi=>by
  show(BN _ _).testBit i=Y;rw[Ea,show a.testBit i=Y from hi];simp
 have up2:∀i,Mm b i->Mm (BN a b) i:=λi hi=>by
  show(BN _ _).testBit i=Y;rw[Ea,show b.testBit i=Y from hi];simp
 intro i ob hi ho;have hi:(BN a b).testBit i=Y:=hi;rw[Ea,C1]at hi;obtain hi|hi:=hi
 .have:=h1 i ob hi ho;cases ob<;>first|trivial|exact λc hc=>(this c hc).mono up1
 .have:=h2 i ob hi ho;cases ob<;>first|trivial|exact λc hc=>(this c hc).mono up2
def aA2{anc:Nat}{H:Hp}:∀(acc:List Rec) (F:Nat),(∀r∈acc,mvO r.o=A0->DQ (Mm r.F) H)->DQ (Mm F) H->DQ (Mm<|OT anc acc F) H
 | [],_,_,h=>h
 | r::acc,F,hr,h=>by
  unfold OT;refine aA2 acc _ (λx hx=>hr x<|Ai _ hx) ?_;split
  .rename_i hc;simp only[AD,CE]at hc;exact(hr r An hc.2).lor h
  .exact h
def Fr(s:S):Prop:=∀j,s.nid<=j->s.H j=G
def CX.closed(hfr:∀j,b0<=j->s0.H j=G):∀ {acc:List Rec},CX C ops s0 b0 acc->∀r∈acc,mvO r.o=A0->DQ (Mm r.F) s0.H
 | [],_,r,hr=>by cases hr
 | x::acc,h,r,hr=>by
  intro hmv;have ih:=CX.closed hfr h.1;obtain rfl|hr:=Bl.1 hr
  .obtain⟨_,_,hb,_,_,⟨l,c,h1,h2,h3⟩,_⟩:=h;obtain h3|h3:=h3
   .rw[h3.2.1];refine aA2 _ _ ih ((Xq 4 l h2).2.lor λi ob hi ho=> ?_);have:=Ll.1 hi;rw[hfr i J]at ho;cases ho
   .rw[hmv]at h3;cases h3.1
  .exact ih r hr hmv
def SH{acc:List Rec}:∀(l:List Edge) {m:Nat},Qi acc l=I m->(∀e∈l,Fh .any e=Y->∃r,HV e.on acc=I r)/\
  (∀x,Mm m x->∃e∈l,Fh .any e=Y/\ ∃r,HV e.on acc=I r/\(e.on=x\/Mm r.anc x))
 | [],m,h=>by cases h;exact⟨by simp,λx hx=>by simp[Mm]at hx⟩
 | e::l,m,h=>by
  unfold Qi at h;split at h
  .rename_i hb;obtain⟨r,h1,h⟩:=Ah.1 h;obtain⟨m',h2,h⟩:=Ah.1 h;cases h;obtain⟨i1,i2⟩:=SH l h2;refine⟨λe' he hb'=> ?_,λx hx=> ?_⟩
   .rcases Bl.1 he with rfl|he
    .exact⟨r,h1⟩
    .exact i1 e' he hb'
   .have hx:(BN (BN (bit e.on) r.anc) m').testBit x=Y:=hx;rw[Ea,Ea,C1,C1]at hx;obtain(hx|hx)|hx:=hx
    .exact⟨e,An,hb,r,h1,.inl (YG.1 hx).symm⟩
    .exact⟨e,An,hb,r,h1,.inr hx⟩
    .obtain⟨e',he,h3⟩:=i2 x hx;exact⟨e',Ai _ he,h3⟩
  .rename_i hb;obtain⟨i1,i2⟩:=SH l h;refine⟨λe' he hb'=> ?_,λx hx=> ?_⟩
   .rcases Bl.1 he with rfl|he
    .rw[hb]at hb';cases hb'
    .exact i1 e' he hb'
   .obtain⟨e',he,h3⟩:=i2 x hx;exact⟨e',Ai _ he,h3⟩
def CX.Zq:∀ {acc:List Rec},CX C ops s0 b0 acc->∀r∈acc,∀x,Mm r.anc x->x<r.i
 | [],_,r,hr=>by cases hr
 | y::acc,h,r,hr=>by
  intro x hx;obtain rfl|hr:=Bl.1 hr
  .obtain⟨hg,hi,_,_,ha,_⟩:=h;obtain⟨e,he,hb,r',h1,h2⟩:=(SH _ ha).2 x hx;obtain⟨hm,hei⟩:=O1 h1;have:=hg.lt r' hm;obtain h2|h2:=h2
   .omega
   .have:=CX.Zq hg r' hm x h2;omega
  .exact CX.Zq h.1 r hr x hx
def C0(acc:List Rec)(b0:Nat):Lb where
 b i:=b0+16 * i
 F i id:=match HV i acc with
  | some r=>Mm r.F id
  | none=>b0+16 * i<=id/\id<b0+16 * i+16
 N i id:=match HV i acc with
  | some r=>Mm r.N id
  | none=>b0+16 * i<=id/\id<b0+16 * i+16
 K i id:=match HV i acc with
  | some r=>Mm r.K id
  | none=>b0+16 * i<=id/\id<b0+16 * i+16
 W i id:=match HV i acc with
  | some r=>Mm r.W id
  | none=>b0+16 * i<=id/\id<b0+16 * i+16
 V i id:=match HV i acc with
  | some r=>id∈r.V
  | none=>False
 R x i:=match HV i acc with
  | some r=>Mm r.anc x
  | none=>False
def XE{d:Option Nat}{l:List Nat}(h:P2 d l=Y):∀t,d=I t->t ∉ l:=by
 intro t e hm;subst e;have:abW t l=Y:=K0.2 ⟨t,hm,by simp⟩;simp[P2,this]at h
def aBP{d e:Option Nat}(h:nM d e=Y):∀t,d=I t->e≠I t:=by
 intro t h1 h2;subst h1;subst h2;simp[nM]at h
def CX.op{acc:List Rec}(h:CX C ops s0 b0 acc)(hn:acc.length=ops.size){i:Nat}{o:Oper}(ho:ops[i]? =I o):∃r∈acc,r.i=i/\r.o=o/\HV i acc=I r:=by
 obtain⟨r,hr,hi⟩:=h.ex i (by rw[hn];exact(HC.1 ho).1);obtain⟨HH,hg,_⟩:=h.mem r hr;have:=hg.2.2.2.1;rw[hi,ho]at this;exact⟨r,hr,hi,(Eh this).symm,by rw[← hi];exact h.find r hr⟩
def CX.chk{acc:List Rec}(h:CX C ops s0 b0 acc){x r:Rec}(hx:x∈acc)(hr:r∈acc)(hlt:x.i<r.i):VS.chk ops x r=Y:=by
 obtain⟨HH,hg,_,h3,_⟩:=h.mem r hr;exact hg.2.2.2.2.2.2.2.1 x<|h3 x hx hlt
def CX.MD{acc:List Rec}(h:CX C ops s0 b0 acc){r:Rec}(hr:r∈acc):r.b=b0+16 * r.i/\(∀id,r.b<=id->id<r.b+16->Mm r.F id)/\(sbs r.W r.F=Y/\ ∀id,Mm (nm r.b) id->Mm r.W id):=by
 obtain⟨HH,hg,_⟩:=h.mem r hr;obtain⟨_,hi,hb,_,_,⟨l,c,h1,h2,h3⟩,hw,_⟩:=hg;refine⟨by rw[hi];exact hb,λid k1 k2=> ?_,hw⟩;obtain h3|h3:=h3
 .rw[h3.2.1];refine SI _ _ id ?_;show(BN _ _).testBit id=Y;rw[Ea,Ll.2 ⟨k1,k2⟩];simp
 .rw[h3.2.1];show(BN _ _).testBit id=Y;rw[Ea,Ll.2 ⟨k1,k2⟩];simp
def CX.N_F{acc:List Rec}(h:CX C ops s0 b0 acc){r:Rec}(hr:r∈acc):∀id,Mm r.N id->Mm r.F id:=by
 obtain⟨HH,hg,_⟩:=h.mem r hr;obtain⟨_,hi,hb,_,_,⟨l,c,h1,h2,h3⟩,hw,_⟩:=hg;intro id hid;obtain⟨_,h3,h4⟩|⟨_,h3,h4⟩:=h3
 .rcases h4 with h4|h4
  .rw[h3];refine SI _ _ id ?_;rw[h4.1]at hid;have hid:(BN _ _).testBit id=Y:=hid;rw[Ea,C1]at hid;show(BN _ _).testBit id=Y;rw[Ea];obtain hid|hid:=hid
   .rw[(Xq 4 l h2).1 id<|Mf.1 hid];rfl
   .rw[hid];simp
  .rw[← h4];exact hid
 .rw[h3];rw[h4]at hid;have hid:(nm r.b).testBit id=Y:=hid;show(BN _ _).testBit id=Y;rw[Ea,hid];simp
def CX.nice{acc:List Rec}(h:CX C ops s0 b0 acc)(hn:acc.length=ops.size):PB ops (C0 acc b0):=by
 constructor
 .intro i id hw;simp only[C0]at hw ⊢;split at hw
  .rename_i r hr;obtain⟨hm,hi⟩:=O1 hr;obtain⟨_,h2,h3⟩:=h.MD hm;exact SU h3.1 id hw
  .exact hw
 .intro i id hw;simp only[C0]at hw ⊢;split at hw
  .rename_i r hr;obtain⟨hm,hi⟩:=O1 hr;exact h.N_F hm id hw
  .exact hw
 .intro i id h1 h2;simp only[C0]at h1 h2 ⊢;split
  .rename_i r hr;obtain⟨hm,hi⟩:=O1 hr;obtain⟨hb,k2,k3⟩:=h.MD hm;rw[hi]at hb;exact k3.2 id (Ll.2 ⟨J,J⟩)
  .exact⟨h1,h2⟩
 .intro x i hR;simp only[C0]at hR;split at hR
  .rename_i r hr;obtain⟨hm,hi⟩:=O1 hr;have:=h.Zq r hm x hR;omega
  .exact hR.elim
 .intro x i ox oi t hne hx hi ht;obtain⟨rx,hrx,ix,rfl,_⟩:=h.op hn hx;obtain⟨ri,hri,ii,rfl,_⟩:=h.op hn hi;obtain hlt|hlt:=TR hne
  .have:=h.chk hrx hri J;simp only[VS.chk,AD]at this;exact aBP this.1 t ht
  .have:=h.chk hri hrx J;simp only[VS.chk,AD]at this;exact λe=>aBP this.1 t e ht
 .intro x i oi hi hR;obtain⟨ri,hri,ii,rfl,fi⟩:=h.op hn hi;simp only[C0,fi]at hR ⊢;obtain⟨HH,hg,LB,_⟩:=h.mem ri hri;obtain⟨e,he,hb,r',h1,h2⟩:=(SH _ hg.2.2.2.2.1).2 x hR;refine⟨e,by simpa using he,hb, ?_⟩;obtain h2|h2:=h2
  .exact .inl h2
  .obtain⟨hm,hei⟩:=O1 h1;have:=h.find r'<|LB r' hm;rw[hei]at this;rw[this];exact .inr h2
 .intro i oi e hi he hb;obtain⟨ri,hri,ii,rfl,fi⟩:=h.op hn hi;obtain⟨HH,hg,LB,_,hlt⟩:=h.mem ri hri;obtain⟨r',h1⟩:=(SH _ hg.2.2.2.2.1).1 e (by simpa using he) hb;obtain⟨hm,hei⟩:=O1 h1;have:=hlt r' hm;omega
 .intro x i hR ox oi hx hi;obtain⟨rx,hrx,ix,rfl,fx⟩:=h.op hn hx;obtain⟨ri,hri,ii,rfl,fi⟩:=h.op hn hi;simp only[C0,fi,fx]at hR ⊢;have hlt:=h.Zq ri hri x hR;have hc:=h.chk hrx hri J;simp only[VS.chk,AD]at hc;have hT:tst ri.anc rx.i=Y:=by rw[ix];exact mM.2 hR
  rw[hT]at hc;obtain⟨_,hc⟩:=hc;simp only[AD,C1]at hc;obtain⟨⟨c1,c2⟩,c3⟩:=hc;refine⟨?_,λt ht hl=> ?_,λid h1 h2 hF=> ?_⟩
  .rcases c1 with c1|c1
   .exact .inl (Ld c1)
   .exact .inr (SU c1)
  .rcases c2 with c2|c2
   .exact absurd hl (XE c2 t ht)
   .exact⟨λid hid=>SU c2.1 id<|Mf.2 hid,c2.2.imp id λh id hid=>SU h id<|Mf.2 hid⟩
  .have hb:=(h.MD hri).1;exact Ld c3 id hF (Ll.2 ⟨J,J⟩)
 .intro x i hlt hR ox oi hx hi;obtain⟨rx,hrx,ix,rfl,fx⟩:=h.op hn hx;obtain⟨ri,hri,ii,rfl,fi⟩:=h.op hn hi;simp only[C0,fi,fx]at hR ⊢;have hc:=h.chk hrx hri J;simp only[VS.chk,AD]at hc;have hT:tst ri.anc rx.i=A0:=by
   rw[ix];cases hh:tst ri.anc x with
   | false=>rfl
   | true=>exact absurd (mM.1 hh) hR
  rw[hT]at hc;obtain⟨_,hc⟩:=hc;simp only[AD]at hc;obtain⟨⟨⟨k1,k2⟩,k3,k4⟩,k5,k6,k7⟩:=hc.1.1;have hbi:=(h.MD hri).1;have hbx:=(h.MD hrx).1;exact⟨Ld k1,Ld k2,Ld k3,Ld k4,Ld k5,λid h1 h2 hF=>Ld k6 id hF<|Ll.2 ⟨J,J⟩,λid h1 h2 hF=>Ld k7 id hF<|Ll.2 ⟨J,J⟩,XE hc.1.2,XE hc.2⟩
end
end Go.VS
namespace Go.VS
open Go
section
variable {C:Cx} {P:Program} {kd:TypeId->Option K} {s s':S} {b j:Nat} {E:Nat->AV}
structure BD (N:Nat->Prop) (s s':S):Prop where
 nid:s'.nid=s.nid
 n:s'.n=s.n
 pins:s'.pins=s.pins
 nn:∀j,¬N j->s.H j=G->s'.H j=G
def BD.refl(N:Nat->Prop)(s:S):BD N s s:=⟨rfl,rfl,rfl,λ_ _ h=>h⟩
def BD.trans{N:Nat->Prop}{s s' s'':S}(h:BD N s s')(k:BD N s' s''):BD N s s'':=
 ⟨k.nid.trans h.nid,k.n.trans h.n,k.pins.trans h.pins,λj hj e=>k.nn j hj<|h.nn j hj e⟩
def BD.put{N:Nat->Prop}{s s':S}(h:BD N s s')(d:Option Nat)(v:AV):BD N s (s'.put d v):=by
 cases d<;>exact⟨h.nid,h.n,h.pins,h.nn⟩
def BD.EH{N:Nat->Prop}{s s':S}(h:BD N s s'){id:Nat}{ob:Option Ob}(hid:N id\/s.H id≠G):BD N s (s'.EH id ob):=by
 refine⟨h.nid,h.n,h.pins,λj hj e=> ?_⟩;show upd s'.H id ob j=G;rw[BB _ _ (λe'=>by subst e';exact hid.elim hj λh=>h e)];exact h.nn j hj e
def BD.map{N:Nat->Prop}{s s':S}(h:BD N s s')(f:AV->AV):BD N s (s'.map f):=by
 refine⟨h.nid,h.n,h.pins,λj hj e=> ?_⟩;show CI f (s'.H j)=G;rw[h.nn j hj e];rfl
def BD.acG{N:Nat->Prop}{s s':S}(h:BD N s s'){id:Nat}:BD N s (s'.EH id G):=by
 refine⟨h.nid,h.n,h.pins,λj hj e=> ?_⟩;show upd s'.H id G j=G;by_cases e':j=id
 .subst e';rw[Bf]
 .rw[BB _ _ e'];exact h.nn j hj e
def BD.kill{N:Nat->Prop}{s s':S}(h:BD N s s')(id:Nat):BD N s (s'.kill id):=(h.map _).acG
def BD.freeze{N:Nat->Prop}{s s':S}(h:BD N s s')(id:Nat):BD N s (s'.freeze id):=by
 unfold S.freeze;split
 .exact(h.map _).acG
 .exact h.kill id
def BD.L7{N:Nat->Prop}:∀(ids:List Nat) {s s':S},BD N s s'->BD N s (ids.foldl S.freeze s')
 | [],_,_,h=>h
 | i::ids,_,_,h=>BD.L7 ids (h.freeze i)
def BD.oE{N:Nat->Prop}:∀(ids:List Nat) {s s':S},BD N s s'->BD N s (ids.foldl S.kill s')
 | [],_,_,h=>h
 | i::ids,_,_,h=>BD.oE ids (h.kill i)
def ap2{N:Nat->Prop}{t:TypeId}{x y:AV}(h:IZ P t s x y=I s'):BD N s s':=by
 unfold IZ at h;split at h
 .rename_i id z i o;split at h
  .rename_i e cs hob;split at h
   .obtain⟨ys,hc,h⟩:=Ah.1 h;split at h<;>cases h;exact(BD.refl N s).EH (.inr (by rw[hob];simp))
   .cases h
  .rename_i e fz k xs hob;obtain⟨ys,hc,h⟩:=Ah.1 h;split at h
   .obtain⟨v,hd,h⟩:=Ah.1 h;cases h;exact(BD.L7 _<|BD.refl N s).EH (.inr (by rw[hob];simp))
   .cases h
  .rename_i e k xs hob;obtain⟨ys,hc,h⟩:=Ah.1 h;split at h
   .obtain⟨v,hd,h⟩:=Ah.1 h;cases h;exact(BD.refl N s).EH (.inr (by rw[hob];simp))
   .cases h
  .cases h
 .cases h
def aoz{N:Nat->Prop}(hb:N b){t t2:TypeId}{x y v:AV}{q:Bool}(h:Kb P kd t t2 s b x y=I (q,v,s')):BD N s s':=by
 unfold Kb at h;obtain⟨e,he,h⟩:=Ah.1 h;obtain⟨k,hk,h⟩:=Ah.1 h;obtain⟨ys,hys,h⟩:=Ah.1 h;split at h
 .cases h;exact(BD.refl N s).EH (.inl hb)
 .split at h
  .rename_i hob _;split at h
   .obtain⟨zs,hz,h⟩:=Ah.1 h;cases h;exact((BD.refl N s).map _).EH (.inr (by rw[hob];simp))
   .cases h
  .cases h
 .cases h
def apg{N:Nat->Prop}{t:TypeId}{x y v:AV}(h:Kj P t s x y=I (v,s')):BD N s s':=by
 unfold Kj at h;split at h
 .split at h
  .rename_i hob _;obtain⟨e',he,h⟩:=Ah.1 h;split at h
   .obtain⟨ys,hys,h⟩:=Ah.1 h;cases h;exact(BD.refl N s).EH (.inr (by rw[hob];simp))
   .cases h
  .cases h
 .cases h
def aly{N:Nat->Prop}{id:Nat}{z:Bool}{lo hi:Option AV}{v:AV}{q:Bool}(h:KX s id z lo hi=I (q,v,s')):BD N s s':=by
 unfold KX at h;split at h
 .rename_i e fz k xs hob;obtain⟨⟨c,l,hh⟩,hc,h⟩:=Ah.1 h;simp only at h;split at h
  .cases h;exact((BD.refl N s).map _).EH (.inr (by rw[hob];simp))
  .cases h
  .cases h;exact(BD.refl N s).freeze id
 .cases h
def HE(N:Nat->Prop)(H H':Hp):Prop:=∀j,¬N j->H j=G->H' j=G
def HE.refl(N:Nat->Prop)(H:Hp):HE N H H:=λ_ _ h=>h
def HE.trans{N:Nat->Prop}{H H' H'':Hp}(h:HE N H H')(k:HE N H' H''):HE N H H'':=λj hj e=>k j hj<|h j hj e
def HE.upd{N:Nat->Prop}{H H':Hp}(h:HE N H H'){id:Nat}{ob:Option Ob}(hid:N id\/H id≠G):HE N H (upd H' id ob):=λj hj e=>by
 rw[BB _ _ (λe'=>by subst e';exact hid.elim hj λh=>h e)];exact h j hj e
mutual
theorem Jg {N:Nat->Prop} :∀(h:Sh) (H:Hp) (b:Nat) (x:LT h),(∀j,b<=j->j<(BI E H b h x).2.2->N j)->HE N H (BI E H b h x).2.1
 | .int _,H,_,_,_=> .refl _ _
 | .bool,H,_,_,_=> .refl _ _
 | .str,H,_,_,_=> .refl _ _
 | .sl _,H,_,_,_=> .refl _ _
 | .arr _,H,_,_,_=> .refl _ _
 | .same _,H,_,_,_=> .refl _ _
 | .fz _,H,_,_,_=> .refl _ _
 | .row _ _,H,b,_,hN=>(HE.refl _ _).upd (.inl<|hN b (Ar b)<|Od b)
 | .Cf _ _,H,b,_,hN=>(HE.refl _ _).upd (.inl<|hN b (Ar b)<|Od b)
 | .abx _ _,H,b,_,hN=>(HE.refl _ _).upd (.inl<|hN b (Ar b)<|Od b)
 | .agg l,H,b,x,hN=>by
  have un:BI E H b (.agg l) x=(match Aj E H b l x with|(cs,H,b)=>(AV.agg cs,H,b)):=rfl;have ih:=Ws (N:=N) l H b x;rw[un]at hN ⊢;generalize Aj E H b l x=r at *;exact ih hN
 | .box e l,H,b,x,hN=>by
  have un:BI E H b (.box e l) x=(match Aj E H b l x with|(cs,H,b)=>(AV.ptr b cs.length 0 0,upd H b<|I<|.box e cs,b+1)):=rfl;have ih:=Ws (N:=N) l H b x;have hle:=J3 E l H b x;rw[un]at hN ⊢;generalize Aj E H b l x=r at *;obtain⟨cs,H',b'⟩:=r;exact(ih λj h1 h2=>hN j h1<|Nat.lt_succ_of_lt h2).upd<|.inl<|hN b' hle<|Od b'
theorem Ws {N:Nat->Prop} :∀(l:List Sh) (H:Hp) (b:Nat) (x:LTs l),(∀j,b<=j->j<(Aj E H b l x).2.2->N j)->HE N H (Aj E H b l x).2.1
 | [],H,_,_,_=> .refl _ _
 | h::l,H,b,x,hN=>by
  have un:Aj E H b (h::l) x=(match BI E H b h x.1 with|(c,H,b)=>match Aj E H b l x.2 with|(cs,H,b)=>(c::cs,H,b)):=rfl;have ih:=Jg (N:=N) h H b x.1;have hle:=EL E h H b x.1;rw[un]at hN ⊢;generalize BI E H b h x.1=r at *;obtain⟨c,H',b'⟩:=r;have ih2:=Ws (N:=N) l H' b' x.2;have P6:=J3 E l H' b' x.2;simp only at hN ⊢;generalize Aj E H' b' l x.2=r at *;obtain⟨cs,H'',b''⟩:=r;exact(ih λj h1 h2=>hN j h1<|Gf h2 P6).trans<|ih2 λj h1 h2=>hN j (CV hle h1) h2
end
mutual
theorem aDm (E:Nat->AV):∀(h:Sh) (H:Hp) (b:Nat) (v:AV) (x:LT h),b<=(Cy E H b h v x).2.2
 | .box e l,H,b,v,x=>by
  by_cases hv:∃id z,v= .ptr id z 0 0
  .obtain⟨id,z,rfl⟩:=hv;have un:Cy E H b (.box e l) (.ptr id z 0 0) x=(match H id with
    | some (.box _ cs)=>(match BP E H b l cs x with|(ds,H,b)=>(AV.ptr id z 0 0,upd H id<|I<|.box e ds,b))
    | _=>(.un,H,b)):=rfl
   rw[un];cases H id with
   | none=>exact Ar b
   | some ob=>
    cases ob with
    | box e' cs=>
     have:=S9 E l H b cs x;simp only;generalize BP E H b l cs x=r at *;obtain⟨ds,H',b'⟩:=r;exact this
    | _=>exact Ar b
  .have:Cy E H b (.box e l) v x=BI E H b (.box e l) x:=by
    cases v<;>first|rfl|skip
    rename_i id z i o;cases i<;>cases o<;>first|rfl|exact absurd ⟨_,_,rfl⟩ hv
   rw[this];exact EL E _ H b x
 | .int _,H,b,v,x=>EL E _ H b x
 | .bool,H,b,v,x=>EL E _ H b x
 | .str,H,b,v,x=>EL E _ H b x
 | .sl _,H,b,v,x=>EL E _ H b x
 | .row _ _,H,b,v,x=>EL E _ H b x
 | .fz _,H,b,v,x=>EL E _ H b x
 | .Cf _ _,H,b,v,x=>EL E _ H b x
 | .abx _ _,H,b,v,x=>EL E _ H b x
 | .arr _,H,b,v,x=>EL E _ H b x
 | .same _,H,b,v,x=>Ar b
 | .agg _,H,b,v,x=>EL E _ H b x
theorem S9 (E:Nat->AV):∀(l:List Sh) (H:Hp) (b:Nat) (cs:List AV) (x:LTs l),b<=(BP E H b l cs x).2.2
 | [],_,b,_,_=>Ar b
 | h::l,H,b,cs,x=>by
  have h1:=aDm E h H b (cs.headD .un) x.1;have un:BP E H b (h::l) cs x=(match Cy E H b h (cs.headD .un) x.1 with|(d,H,b)=>match BP E H b l cs.tail x.2 with|(ds,H,b)=>(d::ds,H,b)):=rfl;rw[un];generalize Cy E H b h (cs.headD .un) x.1=r at *;obtain⟨c,H',b'⟩:=r;have h2:=S9 E l H' b' cs.tail x.2;simp only;generalize BP E H' b' l cs.tail x.2=r at *;obtain⟨cs,H'',b''⟩:=r;exact CV h1 h2
end
mutual
theorem asM {N:Nat->Prop} :∀(h:Sh) (H:Hp) (b:Nat) (v:AV) (x:LT h),(∀j,b<=j->j<(Cy E H b h v x).2.2->N j)->HE N H (Cy E H b h v x).2.1
 | .box e l,H,b,v,x,hN=>by
  by_cases hv:∃id z,v= .ptr id z 0 0
  .obtain⟨id,z,rfl⟩:=hv;have un:Cy E H b (.box e l) (.ptr id z 0 0) x=(match H id with
    | some (.box _ cs)=>(match BP E H b l cs x with|(ds,H,b)=>(AV.ptr id z 0 0,upd H id<|I<|.box e ds,b))
    | _=>(.un,H,b)):=rfl
   rw[un]at hN ⊢;cases ho:H id with
   | none=>exact .refl _ _
   | some ob=>
    rw[ho]at hN;cases ob with
    | box e' cs=>
     have ih:=jV (N:=N) l H b cs x;simp only at hN ⊢;generalize BP E H b l cs x=r at *;obtain⟨ds,H',b'⟩:=r;exact(ih hN).upd<|.inr (by rw[ho];simp)
    | _=>exact .refl _ _
  .have:Cy E H b (.box e l) v x=BI E H b (.box e l) x:=by
    cases v<;>first|rfl|skip
    rename_i id z i o;cases i<;>cases o<;>first|rfl|exact absurd ⟨_,_,rfl⟩ hv
   rw[this]at hN ⊢;exact Jg (E:=E) _ H b x hN
 | .int _,H,b,v,x,hN=>Jg (E:=E) _ H b x hN
 | .bool,H,b,v,x,hN=>Jg (E:=E) _ H b x hN
 | .str,H,b,v,x,hN=>Jg (E:=E) _ H b x hN
 | .sl _,H,b,v,x,hN=>Jg (E:=E) _ H b x hN
 | .row _ _,H,b,v,x,hN=>Jg (E:=E) _ H b x hN
 | .fz _,H,b,v,x,hN=>Jg (E:=E) _ H b x hN
 | .Cf _ _,H,b,v,x,hN=>Jg (E:=E) _ H b x hN
 | .abx _ _,H,b,v,x,hN=>Jg (E:=E) _ H b x hN
 | .arr _,H,b,v,x,hN=>Jg (E:=E) _ H b x hN
 | .same _,H,b,v,x,hN=> .refl _ _
 | .agg l,H,b,v,x,hN=>Jg (E:=E) _ H b x hN
theorem jV {N:Nat->Prop} :∀(l:List Sh) (H:Hp) (b:Nat) (cs:List AV) (x:LTs l),(∀j,b<=j->j<(BP E H b l cs x).2.2->N j)->HE N H (BP E H b l cs x).2.1
 | [],H,_,_,_,_=> .refl _ _
 | h::l,H,b,cs,x,hN=>by
  have un:BP E H b (h::l) cs x=(match Cy E H b h (cs.headD .un) x.1 with|(d,H,b)=>match BP E H b l cs.tail x.2 with|(ds,H,b)=>(d::ds,H,b)):=rfl;have ih:=asM (N:=N) h H b (cs.headD .un) x.1;have hle:=aDm E h H b (cs.headD .un) x.1;rw[un]at hN ⊢;generalize Cy E H b h (cs.headD .un) x.1=r at *;obtain⟨c,H',b'⟩:=r;have ih2:=jV (N:=N) l H' b' cs.tail x.2;have P6:=S9 E l H' b' cs.tail x.2;simp only at hN ⊢;generalize BP E H' b' l cs.tail x.2=r at *;obtain⟨cs,H'',b''⟩:=r;exact(ih λj h1 h2=>hN j h1<|Gf h2 P6).trans<|ih2 λj h1 h2=>hN j (CV hle h1) h2
end
def aBH{N:Nat->Prop}(q:Bool)(ids:List Nat){s s':S}(h:BD N s s'):BD N s (GK q ids s'):=by
 cases q
 .exact h
 .exact BD.L7 ids h
def aqM{m:DO}{d:Option Nat}{as:List AV}(h:HT m s b d as I=I s'):BD (λj=>b<=j/\j<b+16) s s':=by
 unfold HT at h;simp only at h;split at h
 .rename_i x hx hn;obtain⟨r,hr,h⟩:=Ah.1 h;have k1:BD (λj=>b<=j/\j<b+16) s (GK (CN m.rs||CN (B1 m.ps)) (Cs s.H m.ps as)<|(Ca s.H m.ps as).foldl S.kill s):=aBH _ _<|BD.oE _<|BD.refl _ s;generalize GK (CN m.rs||CN (B1 m.ps)) (Cs s.H m.ps as) ((Ca s.H m.ps as).foldl S.kill s)=s2 at *;have k2:=jV (E:=λi=>(as[i]?).getD .un) (N:=λj=>b<=j/\j<b+16) (B1 m.ps) s2.H b (Fq m.ps as) r.2;have l2:=S9 (λi=>(as[i]?).getD .un) (B1 m.ps) s2.H b (Fq m.ps as) r.2;generalize BP (λi=>(as[i]?).getD .un) s2.H b (B1 m.ps) (Fq m.ps as) r.2=q at *;obtain⟨ds,H1,b1⟩:=q;simp only at h;have k3:=Ws (E:=λi=>(as[i]?).getD .un) (N:=λj=>b<=j/\j<b+16) m.rs H1 b1 r.1;have l3:=J3 (λi=>(as[i]?).getD .un) m.rs H1 b1 r.1;generalize Aj (λi=>(as[i]?).getD .un) H1 b1 m.rs r.1=q at *;obtain⟨vs,H2,b2⟩:=q;simp only at h l2 l3 k2 k3;split at h
  .rename_i hb;have hb:=DW hb;cases h;have k4:=(k2 λj h1 h2=>⟨h1,J⟩).trans (k3 λj h1 h2=>⟨J,J⟩);exact BD.put (s':={ s2 with H:=H2 }) ⟨k1.nid,k1.n,k1.pins,λj hj e=>k4 j hj<|k1.nn j hj e⟩ _ _
  .cases h
 .cases h
def Gp(r:PR):Prop:=∀q v os,r=I (q,v,os)->os.length<=1
def Gp.none:Gp .none:=λ_ _ _ h=>by cases h
def Gp.okA{v:AV}:Gp (okA v):=λ_ _ _ h=>by obtain⟨_,_,rfl⟩:=DG h;simp
def Gp.okN{v:AV}:Gp (okN v):=λ_ _ _ h=>by obtain⟨_,_,rfl,_⟩:=O5 h;simp
def Gp.nil{q:Bool}{v:AV}:Gp (I (q,v,[])):=λ_ _ _ h=>by cases h;simp
def Gp.one{q:Bool}{v:AV}{o:Ob}:Gp (I (q,v,[o])):=λ_ _ _ h=>by cases h;simp
def Gp.bind{α:Type}{o:Option α}{f:α->PR}(h:∀a,Gp<|f a):Gp (o.bind f):=by
 cases o with
 | none=>exact .none
 | some a=>exact h a
def aCQ{x y:TypeId}{v:AV}:Gp (Ih P x y v):=by
 unfold Ih
 repeat' (first|exact .none|exact .okA|exact .okN|exact .nil|exact .one|refine .bind λ_=> ?_|split)
def as7{ρ:Operand->AV}{H:Hp}{c:Call}:Gp (J9 P ρ H c):=by
 unfold J9
 repeat' (first|exact .none|exact .okA|exact .okN|exact .nil|exact .one|refine .bind λ_=> ?_|split)
def auW{op:BinOp}{t:TypeId}{x y:AV}:Gp (P1 P op t x y):=by
 unfold P1 Tm Tl
 repeat' (first|exact .none|exact .okA|exact .okN|exact .nil|exact .one|refine .bind λ_=> ?_|split)
def apu{ρ:Operand->AV}{H:Hp}{op:Op}:Gp (CA P kd ρ H b op):=by
 cases op<;>simp only[CA]<;>try (exact .none)
 case binOp=>exact auW
 case call=>exact as7
 case convert=>
  split
  .repeat' (first|exact .none|exact .okA|refine .bind λ_=> ?_|split)
  .split
   .rename_i h;exact λq v os e=>by cases e;exact aCQ _ _ _ h
   .exact aCQ
 case pick=>
  unfold OV
  repeat' (first|exact .none|exact .okA|exact .okN|exact .nil|exact .one|refine .bind λ_=> ?_|split)
 case unOp=>
  unfold unA
  repeat' (first|exact .none|exact .okA|exact .okN|exact .nil|exact .one|refine .bind λ_=> ?_|split)
 case slice t x lo hi mx=>
  cases mx with
  | some m=>exact .none
  | none=>
   simp only;unfold QD
   repeat' (first|exact .none|exact .okA|exact .okN|exact .nil|exact .one|refine .bind λ_=> ?_|split)
 case index=>
  unfold Qs
  repeat' (first|exact .none|exact .okA|exact .okN|exact .nil|exact .one|refine .bind λ_=> ?_|split)
 case indexAddr=>
  unfold Mc
  repeat' (first|exact .none|exact .okA|exact .okN|exact .nil|exact .one|refine .bind λ_=> ?_|split)
 all_goals repeat' (first|exact .none|exact .okA|exact .okN|exact .nil|exact .one|refine .bind λ_=> ?_|split)
def aAp:∀(os:List Ob) (H:Hp) (b:Nat) {j:Nat},¬(b<=j/\j<b+os.length)->H j=G->Eo H b os j=G
 | [],_,_,_,_,h=>h
 | o::os,H,b,j,hj,h=>by
  refine aAp os _ _ (λhh=>hj ⟨J,by simp;omega⟩) ?_;rw[BB _ _ λe=>hj ⟨J,by simp;omega⟩];exact h
def apt{ρ:Operand->AV}{H:Hp}{op:Op}{d:Option Nat}
  (he:(match CA P kd ρ H b op with
   | some (q,v,os)=>if q then I ({ s with H:=Eo s.H b os }.put d v) else G
   | none=>G)=I s'):BD (λj=>b<=j/\j<b+16) s s':=by
 split at he
 .rename_i q v os hp;split at he
  .cases he;have:=apu _ _ _ hp;exact BD.put (N:=λj=>b<=j/\j<b+16) (s:=s) (s':={ s with H:=Eo s.H b os }) ⟨rfl,rfl,rfl,λj hj e=>aAp os s.H b (λhh=>hj ⟨hh.1,J⟩) e⟩ _ _
  .cases he
 .cases he
def aBN{o:Oper}(he:CG C (AF S) o b s I=I s'):BD (λj=>b<=j/\j<b+16) s s':=by
 unfold CG at he;split at he
 .cases he
 generalize ho:o.op=op at he;have pu:∀s0:S,(match CA C.P C.kd s0.ev s0.H b op with
   | some (q,v,os)=>if q then I ({ s0 with H:=Eo s0.H b os }.put o.dst v) else G
   | none=>G)=I s'->BD (λj=>b<=j/\j<b+16) s0 s':=λs0 he=>apt he
 cases op<;>try (exact pu s he)
 case store t p x=>
  simp only at he;split at he
  .rename_i s1 hs;cases he;exact(ap2 hs).put _ _
  .cases he
 case call c=>
  simp only at he;split at he
  .split at he
   .exact aqM he
   .cases he
  .split at he
   .rename_i q v s1 hs;split at he
    .cases he;exact(aoz (N:=λj=>b<=j/\j<b+16) ⟨Ar b,J⟩ hs).put _ _
    .cases he
   .cases he
  .split at he
   .rename_i v s1 hs;cases he;exact(apg hs).put _ _
   .cases he
  .exact pu s he
 case slice t x lo hi mx=>
  cases mx with
  | some m=>exact pu s he
  | none=>
   simp only at he;split at he
   .split at he
    .cases he
    .split at he
     .rename_i q v s1 hs;split at he
      .cases he;exact(aly hs).put _ _
      .cases he
     .cases he
   .exact pu s he
 case buildSlice t n ps=>
  simp only at he;exact(BD.L7 _<|BD.refl _ s).trans<|pu _ he
def aCO{ops:Array Oper}{o:Oper}(he:ev1 C ops o b s=I s'):BD (λj=>b<=j/\j<b+16) s s':=by
 unfold ev1 evG at he;split at he
 .exact aBN he
 .rename_i jj want hg;split at he
  .cases he
  .rename_i g _ _;split at he
   .rename_i qq v _ _;split at he
    .split at he
     case isFalse=>cases he
     cases he;have:=(BD.refl (λj=>b<=j/\j<b+16) s).put o.dst<|.gd g want v;exact⟨this.nid,this.n,this.pins,this.nn⟩
    .cases he
   .cases he
  .rename_i g _ _;have yes:∀w,CG C (AF S) o b { s with T:=upd s.T g (.b w) } I=I s'->BD (λj=>b<=j/\j<b+16) s s':=λw h=>by
    have:=aBN h;exact⟨this.nid,this.n,this.pins,this.nn⟩
   have no:∀w,(match s.has o.dst with
      | true=>I (({ s with T:=upd s.T g (.b w) } :S).put o.dst Dp)
      | false=>G)=I s'->BD (λj=>b<=j/\j<b+16) s s':=λw h=>by
    split at h
    .cases h;have:BD (λj=>b<=j/\j<b+16) s { s with T:=upd s.T g (.b w) } :=⟨rfl,rfl,rfl,λ_ _ e=>e⟩;exact this.put _ _
    .cases h
   split at he
   .rename_i c hT;cases want<;>cases c<;>simp only[A2,if_false,Hc]at he
    .exact yes _ he
    .exact no _ he
    .exact no _ he
    .exact yes _ he
   .split at he
    .cases he;exact(BD.refl _ s).put _ _
    .cases he
   .cases he
end
end Go.VS
end
