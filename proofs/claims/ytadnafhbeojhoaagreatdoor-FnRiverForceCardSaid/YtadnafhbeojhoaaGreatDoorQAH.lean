/- Part 8. -/
import Derived.Test.YtadnafhbeojhoaaGreatDoorQAG
open Array renaming eq_empty_of_size_eq_zero->acD,getD_eq_getD_getElem?->TH,getElem?_append_left->MQ,getElem?_eq_some_iff->HV,getElem?_setIfInBounds_ne->aat,length_toList->F4,mem_append->Nq,range->Vz,size_append->Pz,toList_setIfInBounds->sW
open Bool renaming and_eq_true->AI,and_self->CZ,false->A3,false_eq_true->Hh,false_or->BY,not_eq_true'->DR,not_eq_true->Ha,not_false->AG,not_true->AD,or_eq_true->Ci,or_false->EX,or_self->Fa,true->A1
open ByteArray renaming data_extract->fN
open Decidable renaming decide->A0
open Go.Addr renaming add_lit->Gs
open Go.Builtin renaming append_->MJ,copy_->gz,firstCells->IF,lenOf->nM,len_->S1,nextslicecap->su,zeroCells->ML
open Go.Call renaming operands->ND
open Go.Code renaming region->QX
open Go.Instr renaming fill->Ny,sliceAt->Qu,sliceBounds->QD,storeAt->Qt,sureAddr->JO
open Go.Op renaming operands->BX
open Go.Region renaming binds->Fq,ready->PX,wanted->Jh
open Go.Result renaming andThen_ok->Er
open Go.Sem renaming run_bind->El,run_pure->Fl
open Go.Value renaming slice->pZ
open Go.World renaming block_lt_of_cell?->Um,cell?->Lw,cell?_of_block->UO
open Int renaming le_refl->Jk
open List renaming all_eq_true->Cr,any_eq_true->I5,append_assoc->C7,append_nil->CH,drop_drop->Js,drop_eq_nil_of_le->KR,eq_nil_of_length_eq_zero->EE,flatMap_append->qB,flatMap_cons->Oo,foldl_append->Iq,foldl_cons->Dx,foldl_nil->MX,getElem?_append_left->G0,getElem?_append_right->EC,getElem?_cons_succ->aBr,getElem?_cons_zero->WU,getElem?_drop->Hd,getElem?_eq_getElem->Ax,getElem?_eq_some_iff->BP,getElem?_map->DE,getElem?_range->Gd,getElem?_set_self->eS,getElem?_take->Gu,getElem?_toArray->UQ,getElem_mem->CQ,length->JT,length_append->Ar,length_cons->Bw,length_drop->Dd,length_map->EM,length_nil->C2,length_take->DX,map_congr_left->Gz,map_cons->DW,map_id'->qm,map_map->IQ,map_nil->IJ,mem_append->Br,mem_append_left->CE,mem_append_right->Cy,mem_cons->Bk,mem_cons_of_mem->Al,mem_cons_self->Ap,mem_filterMap->GZ,mem_map->DP,mem_of_getElem?->Cg,mem_of_mem_drop->Io,mem_of_mem_take->Ib,mem_range->DV,mem_toArray->SU,nil_append->EW,nodup_append->L7,nodup_cons->Lc,pairwise_append->QP,pairwise_cons->Og,pairwise_lt_range->S4,range->BN,replicate->BW,size_toArray->Kn,take_left'->Pp,toList_toArray->aa1,zipIdx_cons->o4
open List.cons renaming injEq->MC
open Nat renaming add_assoc->DH,add_comm->N5,add_mul->EP,add_zero->Hn,beq->Aj,beq_eq->HU,ble->E0,div_lt_iff_lt_mul->aab,eq_of_beq_eq_true->YS,land->Oz,le_add_right->ca,le_of_ble_eq_true->DQ,le_refl->As,le_succ->mQ,le_trans->CB,lor->BO,lt_of_lt_of_le->Gw,lt_or_gt_of_ne->kX,lt_succ_self->Ts,min->Ex,min_eq_left->QB,mod_eq_of_lt->P7,mod_lt->PB,mul_le_mul->lH,mul_le_mul_right->E6,ne_of_lt->P4,one_mul->OX,sub_mul->cZ,zero_add->DJ,zero_le->Cw
open Ne renaming symm->LQ
open Option renaming bind_eq_some_iff->An,bind_some->A9,map_eq_some_iff->DL,map_some->Pq,none->U,some->I
open Option.some renaming inj->EI,injEq->Bv
open Prod.mk renaming injEq->CM
set_option linter.all false
noncomputable section
namespace Go.VS
open Go
section
variable {P:Program} {B:Be} {β:Beta} {H:Hp} {w w':World} {b:Nat} {tm:Nat->Value} {ρ:Operand->AV} {η:Operand->Value}
def amc{a c:A4}(h1:Aj a.size 0=A1)(h2:Aj c.size 0=A1):a=c:=by
 have e1:a.size=0:=Bn h1;have e2:c.size=0:=Bn h2;obtain⟨x⟩:=a;obtain⟨y⟩:=c;have e1':x.size=0:=e1;have e2':y.size=0:=e2;rw[acD e1',acD e2']
def amf{a c:AV}(h:eO a c=A1){v:Value}(hv:RC w β a v):RC w β c v:=by
 unfold eO at h;split at h
 .simp only[AI,decide_eq_true_eq]at h;obtain⟨rfl,rfl⟩:=h;exact hv
 .simp only[beq_iff_eq]at h;subst h;exact hv
 .simp only[AI]at h;obtain rfl:=amc h.1 h.2;exact hv
 .obtain rfl:=hv.No;exact .nil
 .cases h
def oD:∀ {as cs:List AV} {us:List Value},Lo as cs=A1->RL (RC w β) as us->RL (RC w β) cs us
 | [],[],us,_,h=>h
 | [],_::_,_,h,_=>by simp[Lo]at h
 | _::_,[],_,h,_=>by simp[Lo]at h
 | a::as,c::cs,us,h,hl=>by
  simp only[Lo,AI]at h;obtain⟨u,us',rfl,h1,h2⟩:=hl.C6;exact .cons (amf h.1 h1)<|oD h.2 h2
def dt{t:TypeId}{k:K}(h:zok P t k=A1):∃i z,P.info? t=I i/\i.zero=I z/\z.cells.size=ks k/\ ∀w β,RL (RC w β) (enc k<|dfl k) z.cells.toList:=by
 unfold zok at h;cases hz:I1 P t with
 | none=>rw[hz]at h;cases h
 | some zs=>
  rw[hz]at h;obtain⟨i,z,hi,hz',rfl,h1⟩:=fl hz;have key:∀w β,RL (RC w β) (enc k<|dfl k) z.cells.toList:=λw β=>oD h<|RL.lits _ h1;refine⟨i,z,hi,hz', ?_,key⟩;have:=(key default ⟨λ_=>U,λ_=>False⟩).1;rw[EH]at this;simpa using this
def Tv{t:TypeId}{i:TypeInfo}(h:P.info? t=I i):P.cellsOf t=i.size:=by simp[Program.cellsOf,h]
def iF{t:TypeId}{i:TypeInfo}(h:P.info? t=I i):P.bytesOf t=i.bytes:=by simp[Program.bytesOf,h]
def bf{t e:TypeId}(h:ID P t=I e):P.underlying t=I (.slice e):=by
 unfold ID at h;split at h
 .cases h;assumption
 .cases h
def axp{k:K}{z:Array Value}(hz:z.size=ks k)(hr:RL (RC w β) (enc k<|dfl k) z.toList){n:Nat}:
  ∀i x j c u,(BW n<|dfl k)[i]? =I x->(enc k x)[j]? =I c->(madeCells z<|n * ks k)[i * ks k+j]? =I u->RC w β c u:=by
 intro i x j c u h1 h2 h3;have hx:x=dfl k:=List.eq_of_mem_replicate<|Cg h1;have hi:i<n:=by have:=(BP.1 h1).1;simpa using this
 subst hx;have hj:j<ks k:=by rw[← EH k<|dfl k];exact(BP.1 h2).1
 have hlt:i * ks k+j<n * ks k:=N1 hi hj;simp only[madeCells,Array.getElem?_map,DL]at h3;obtain⟨q,hq,rfl⟩:=h3;have hq':q=i * ks k+j:=by
  rw[HV]at hq;obtain⟨_,hq⟩:=hq;simpa using hq.symm
 subst hq';have hm:(i * ks k+j) % z.size=j:=by rw[hz,N5,Nat.add_mul_mod_self_right,P7 hj]
 rw[hm];have hjz:j<z.size:=J
 refine hr.2 j c _ h2 ?_;simp[hjz]
def agC(hH:Hs B β H w)(hb:H b=U){t e:TypeId}{k:K}(he:ID P t=I e)(hz:zok P e k=A1)(hc:P.cellsOf e=ks k)(hby:P.bytesOf e<=256){n:Int}(h0:0<=n)(hn:n<=4294967296):
  Good B β H w b (.own b) [.row e A3 k<|BW n.toNat<|dfl k] (((Instr.makeSlice t (.int .i64 n)<|.int .i64 n).run P w).andThen λu w=> .ok (.value u) w):=by
 obtain⟨i,z,hi,hz',hs,hr⟩:=dt hz;have hu:=bf he;rw[Tv hi]at hc;rw[iF hi]at hby;have hb1:(i.bytes:Int) * n<=281474976710656:=by
  have h1:(i.bytes:Int) * n<=256 * 4294967296:=Int.mul_le_mul J hn h0 J;omega
 have Cf:=run_make (P:=P) w t e i z hu hi hz' .i64 .i64 n n h0 (Jk _) hb1 J;rw[Cf,hc];have hml:n.toNat<=maxLen:=CB (show n.toNat<=4294967296 by omega) (by decide);refine Zu (w':=w.alloc<|.cells (madeCells z.cells<|n.toNat * ks k) e) (cap:=n.toNat) (us:=madeCells z.cells<|n.toNat * ks k) hH hb rfl rfl rfl (λj hj=>heap_alloc_old w _ hj) (heap_alloc_new w _) (by simp) hml
  (by rw[size_madeCells];exact As _) (axp hs<|hr w β) ?_
 simp
def fh{k:K}:∀ {xs:List (Tof k)} {i j:Nat} {x:Tof k},xs[i]? =I x->j<ks k->(xs.flatMap<|enc k)[i * ks k+j]? =(enc k x)[j]?
 | [],_,_,_,h,_=>by simp at h
 | y::ys,0,j,x,h,hj=>by
  simp only[WU,Bv]at h;subst h;rw[Oo,G0 (by rw[EH];omega)];simp
 | y::ys,i+1,j,x,h,hj=>by
  simp only[aBr]at h;rw[Oo,EC (by rw[EH,EP];omega),EH,← fh h hj];congr 1;rw[EP];omega
def KD{k:K}(xs:List (Tof k)):(xs.flatMap<|enc k).length=xs.length * ks k:=by
 induction xs with
 | nil=>simp
 | cons x xs ih=>rw[Oo,Ar,EH,ih,Bw,EP];omega
def QL{k:K}{xs:List (Tof k)}{us:List Value}(h:RL (RC w β) (xs.flatMap<|enc k) us):∀i x j c u,xs[i]? =I x->(enc k x)[j]? =I c->us[i * ks k+j]? =I u->RC w β c u:=by
 intro i x j c u h1 h2 h3;have hj:j<ks k:=by rw[← EH k x];exact(BP.1 h2).1
 exact h.2 _ c u (by rw[fh h1 hj];exact h2) h3
def axU(hP:P=B.P)(hH:Hs B β H w)(hb:H b=U){t:TypeId}{n:Nat}{k:K}{zs:List AV}(hz:I1 P t=I zs)(hk:Lo zs ((BW n<|dfl k).flatMap<|enc k)=A1)(hc:P.cellsOf t=n * ks k)(hn:1<=n)
  {o:Oper}(ho:o.op= .alloc t):Good B β H w b (.ptr b (ks k) 0 0) [.arr t k<|BW n<|dfl k] ((execOp η o).run P w):=by
 obtain⟨i,z,hi,hz',rfl,h1⟩:=fl hz;have GO:RL (RC w β) _ z.cells.toList:=oD hk<|RL.lits _ h1;have hsz:z.cells.size=n * ks k:=by
  have:=GO.1;rw[KD]at this;simpa using this
 obtain⟨β',g1,g2,g3⟩:=hH.grow (w':=w.alloc<|.cells z.cells t) hb (.arr t k<|BW n<|dfl k) (.pointer<|I ⟨w.heap.size,0,U⟩) n rfl rfl rfl (by simp) (λj hj=>heap_alloc_old w _ hj) (λa ha=>by cases ha;simp)
  (λβ' hβ hk=>⟨w.heap.size,z.cells,by simpa using hβ,heap_alloc_new w _,by simpa using hsz,by rw[← hP,hc];exact hsz,λi x j c u a1 a2 a3=>hk _ _<|QL GO i x j c u a1 a2<|by simpa using a3⟩)
 .refine⟨_,_,β', ?_,g1,g2,(?_:R2 (w.alloc<|.cells z.cells t) β' _ (.pointer<|I ⟨w.heap.size,0,U⟩))⟩
  .unfold execOp;rw[ho];simp[Instr.alloc,adS hi hz',newVar,newRow]
  .have:=RC.ptr (w:=w.alloc<|.cells z.cells t) (β:=β') (id:=b) (sz:=ks k) (i:=0) (o:=0) g3 (b:=w.heap.size) (f:=0) rfl J;simpa[R2,R1] using this
def vz(off:Nat):∀(ys:List Value) (n:Nat) (cs:Array Value),off+n+ys.length<=cs.size->
  (ys.zipIdx n).foldl (λcs (c,j)=>cs.setIfInBounds (off+j) c) cs=(cs.toList.take (off+n)++ys++cs.toList.drop (off+n+ys.length)).toArray
 | [],n,cs,_=>by simp
 | y::ys,n,cs,h=>by
  simp only[Bw]at h;rw[o4,Dx,vz off ys (n+1) _ (by simp;omega)];have e:=list_seg_step cs.toList (off+n) y ys (by simp;omega);simpa[sW,DH,N5,Nat.add_left_comm] using e
def aAA(place:Nat->Option (Nat×Nat))(cells:Array Value)(i off:Nat)(v:Value)(rest:List (Nat×Value))(hp:place i=I (off,v.cells.size))(hl:off+v.cells.size<=cells.size):
  Ny place cells ((i,v)::rest)=Ny place (cells.toList.take off++v.cells.toList++cells.toList.drop (off+v.cells.size)).toArray rest:=by
 have h1:¬(v.cells.size≠v.cells.size\/off+v.cells.size > cells.size):=J
 rw[Ny,hp];simp only[ne_eq,not_true_eq_false,Ag,BY,decide_eq_true_eq];rw[AB J,← Array.foldl_toList,Array.toList_zipIdx];have:=vz off v.cells.toList 0 cells (by simpa using hl);simp only[Hn,F4]at this;rw[this]
def aCv{α β':Type}(f:α->Option β'):∀(l:List α),(∀x∈l,(f x).isSome=A1)->∃r,l.mapM f=I r/\r.length=l.length/\ ∀(i:Nat) (x:α),l[i]? =I x->r[i]? =f x
 | [],_=>⟨[],by simp,rfl,λi x h=>by simp at h⟩
 | x::l,h=>by
  obtain⟨r,h1,h2,h3⟩:=aCv f l (λy hy=>h y<|by simp[hy]);cases hx:f x with
  | none=>have:=h x (by simp);rw[hx]at this;cases this
  | some y=>
   refine⟨y::r,by simp[hx,h1],by simp[h2],λi z hi=> ?_⟩;cases i with
   | zero=>simp at hi;subst hi;simp[hx]
   | succ i=>simp at hi ⊢; exact h3 i z hi
def ack(hη:∀x,RX w β tm (ρ x)<|η x){t:TypeId}{fs:Array Field}(hu:P.underlying t=I (.struct fs)){places:List (Nat×Nat)}
  (hp:∀(i:Nat) (f:Field),fs[i]? =I f->places[i]? =I (f.offset,P.cellsOf f.type)):∀(ps:List (Nat×Operand)) (cs:List AV) (us:Array Value) (ds:List AV),Hk P ρ t ps cs=I ds->RL (RC w β) cs us.toList->
  ∃vs:Array Value,Ny (places.toArray[·]?) us (ps.map fun(i,x)=>(i,η x))=I vs/\RL (RC w β) ds vs.toList
 | [],cs,us,ds,h,hl=>by
  simp only[Hk,Bv]at h;subst h;exact⟨us,by simp[Ny],hl⟩
 | (i,x)::ps,cs,us,ds,h,hl=>by
  simp only[Hk]at h;cases hf:Ke P t i with
  | none=>rw[hf]at h;cases h
  | some f=>
   rw[hf]at h;simp only[A9]at h;cases hc:GD (ρ x) with
   | none=>rw[hc]at h;cases h
   | some ys=>
    rw[hc]at h;simp only[A9]at h;split at h
    .rename_i hb;simp only[AI]at hb;have hb1:=Bn hb.1;have hb2:=DQ hb.2;have hr:=QS hc<|hη x;obtain⟨fs',hu',hf'⟩:=gk hf;rw[hu]at hu';cases hu';have hys:(η x).cells.size=ys.length:=by have:=hr.1;simpa using this
     have hcs:us.size=cs.length:=by have:=hl.1;simpa using this
     have hsp:RL (RC w β) (H4 cs f.offset ys) (us.toList.take f.offset++(η x).cells.toList++us.toList.drop (f.offset+(η x).cells.size)):=by
      unfold H4;rw[hys];exact((hl.take _).append hr).append<|hl.drop _
     obtain⟨vs,h1,h2⟩:=ack hη hu hp ps _ (us.toList.take f.offset++(η x).cells.toList++us.toList.drop (f.offset+(η x).cells.size)).toArray ds h hsp;refine⟨vs, ?_,h2⟩;rw[DW,aAA _ _ i f.offset (η x) _ ?_ J]
     .exact h1
     .rw[UQ,hp i f hf',hys,hb1]
    .cases h
def aq3(hη:∀x,RX w β tm (ρ x)<|η x)(hH:Hs B β H w){t:TypeId}{fs:Array Field}{ps:Array (Nat×Operand)}{zs cs:List AV}(hz:I1 P t=I zs)(hu:P.underlying t=I (.struct fs))(ha:(fs.toList.all λf=>(P.info? f.type).isSome)=A1)
  (h:Hk P ρ t ps.toList zs=I cs){o:Oper}(ho:o.op= .build t ps):Good B β H w b (.agg cs) [] ((execOp η o).run P w):=by
 obtain⟨i,z,hi,hz',rfl,h1⟩:=fl hz;obtain⟨places,hm,hlen,hpl⟩:=aCv (λf:Field=>(P.info? f.type).map λi=>(f.offset,i.size)) fs.toList (λf hf=>by
  have:=Cr.1 ha f hf;simpa using this)
 obtain⟨vs,g1,g2⟩:=ack (places:=places) hη hu (λi f hf=>by
  have ags:=Cr.1 ha f (Cg<|by simpa using hf);rw[hpl i f<|by simpa using hf];obtain⟨inf,xe⟩:=Option.isSome_iff_exists.1 ags;simp[xe,Tv xe]) ps.toList _ z.cells cs h (RL.lits _ h1)
 refine Good.same hH (u:= .agg vs) ?_ ⟨vs.toList,by simp,g2⟩;unfold execOp;rw[ho];have hb:P.built t (ps.map fun(i,x)=>(i,η x)).toList=I vs:=by
  simp only[Program.built,hi,hu,hz',hm];rw[← g1,Array.toList_map]
 simp only[El,run_build w t _ _ hb,Er];rfl
def arv{k:K}{cs:List AV}{x:Tof k}(h:dec (λ_=>U) k cs=I x){us:List Value}(hl:RL (RC w β) cs us):RL (RC w β) (enc k x) us:=by
 have sl:∀(k:K) (c:AV) (l:List (Tof k)) (u:Value),CF (λ_=>U) k c=I l->RC w β c u->RC w β (.sl k l) u:=by
  intro k c l u h1 h2;unfold CF at h1;split at h1
  .obtain⟨e,rfl⟩:=Ht h1;subst e;exact h2
  .cases h1;rw[h2.No];exact .nil
  .cases h1
  .cases h1
 unfold dec at h;split at h<;>try (cases h;done)
 all_goals try (cases h;exact hl)
 .rename_i x';cases hx:CF (λ_=>U) K.mixed x' with
  | none=>rw[hx]at h;cases h
  | some l=>
   rw[hx]at h;cases h;obtain⟨u1,_,rfl,g1,hl⟩:=hl.C6;obtain⟨u2,_,rfl,g2,hl⟩:=hl.C6;obtain⟨u3,_,rfl,g3,hl⟩:=hl.C6;obtain⟨u4,_,rfl,g4,hl⟩:=hl.C6;obtain⟨u5,_,rfl,g5,hl⟩:=hl.C6;obtain⟨u6,_,rfl,g6,hl⟩:=hl.C6;exact .cons g1 (.cons g2<|.cons g3<|.cons g4<|.cons g5<|.cons (sl _ _ _ _ hx g6) hl)
 .rename_i x' y' z';cases hx:CF (λ_=>U) K.note x' with
  | none=>rw[hx]at h;cases h
  | some l=>
   cases hy:CF (λ_=>U) K.mark y' with
   | none=>rw[hx,hy]at h;cases h
   | some m=>
    cases hz:CF (λ_=>U) K.note z' with
    | none=>rw[hx,hy,hz]at h;cases h
    | some n=>
     rw[hx,hy,hz]at h;cases h;obtain⟨u1,_,rfl,g1,hl⟩:=hl.C6;obtain⟨u2,_,rfl,g2,hl⟩:=hl.C6;obtain⟨u3,_,rfl,g3,hl⟩:=hl.C6;obtain⟨u4,_,rfl,g4,hl⟩:=hl.C6;obtain⟨u5,_,rfl,g5,hl⟩:=hl.C6;obtain⟨u6,_,rfl,g6,hl⟩:=hl.C6;exact .cons g1 (.cons g2<|.cons g3<|.cons (sl _ _ _ _ hx g4)<|.cons (sl _ _ _ _ hy g5)<|.cons (sl _ _ _ _ hz g6) hl)
 .rename_i x';cases hx:CF (λ_=>U) K.half x' with
  | none=>rw[hx]at h;cases h
  | some l=>
   rw[hx]at h;cases h;obtain⟨u1,_,rfl,g1,hl⟩:=hl.C6;obtain⟨u2,_,rfl,g2,hl⟩:=hl.C6;obtain⟨u3,_,rfl,g3,hl⟩:=hl.C6;obtain⟨u4,_,rfl,g4,hl⟩:=hl.C6;obtain⟨u5,_,rfl,g5,hl⟩:=hl.C6;exact .cons g1<|.cons g2<|.cons g3<|.cons g4<|.cons (sl _ _ _ _ hx g5) hl
def aDA{k:K}:∀ {vs:List AV} {us:List Value} {xs:List (Tof k)},ME k vs=I xs->(us.length=vs.length/\ ∀(j:Nat) (c:AV) (u:Value),vs[j]? =I c->us[j]? =I u->RX w β tm c u)->
  xs.length=vs.length/\(∀u∈us,u.cells.size=ks k)/\RL (RC w β) (xs.flatMap<|enc k) (us.flatMap λu=>u.cells.toList)
 | [],us,xs,h,hl=>by
  simp only[ME,Bv]at h;subst h;obtain rfl:us=[]:=EE (by simpa using hl.1);exact⟨rfl,by simp,RL.nil⟩
 | v::vs,us,xs,h,hl=>by
  cases us with
  | nil=>exact absurd hl.1<|by simp
  | cons u us=>
   simp only[ME]at h;cases hc:GD v with
   | none=>rw[hc]at h;cases h
   | some cs=>
    rw[hc]at h;simp only[A9]at h;cases hd:dec (λ_=>U) k cs with
    | none=>rw[hd]at h;cases h
    | some x=>
     rw[hd]at h;simp only[A9]at h;cases hr:ME k vs with
     | none=>rw[hr]at h;cases h
     | some ys=>
      rw[hr]at h;cases h;have h1:=arv hd<|QS hc<|hl.2 0 v u rfl rfl;obtain⟨i1,i2,i3⟩:=aDA hr ⟨by have:=hl.1;simpa using this,λj c u' a1 a2=>hl.2 (j+1) c u' (by simpa using a1)<|by simpa using a2⟩;refine⟨by simp[i1],λu' hu'=> ?_, ?_⟩
      .rcases Bk.1 hu' with e|e
       .subst e;have:=h1.1;rw[EH]at this;simpa using this
       .exact i2 u' e
      .rw[Oo,Oo];exact h1.append i3
def mz:∀ {n:Nat} {ps:List (Nat×Operand)} {vs:List AV},Hv ρ n ps=I vs->ps=((ps.map (·.2)).zipIdx n).map (λx=>(x.2,x.1))/\vs=ps.map (λp=>ρ p.2)
 | n,[],vs,h=>by simp only[Hv,Bv]at h;subst h;exact⟨rfl,rfl⟩
 | n,(i,x)::ps,vs,h=>by
  simp only[Hv]at h;split at h
  .rename_i hi;obtain rfl:=Bn hi;cases hr:Hv ρ (i+1) ps with
   | none=>rw[hr]at h;cases h
   | some ws=>
    rw[hr]at h;cases h;obtain⟨h1,h2⟩:=mz hr;refine⟨?_,by simp[h2]⟩;rw[DW,o4,DW];exact congrArg _ h1
  .cases h
def aBI(sz:Nat):∀(us:List Value) (n:Nat) (cells:Array Value),(∀u∈us,u.cells.size=sz)->(n+us.length) * sz<=cells.size->
  Ny (λi=>I (i * sz,sz)) cells ((us.zipIdx n).map λx=>(x.2,x.1))=I (cells.toList.take (n * sz)++(us.flatMap λu=>u.cells.toList)++cells.toList.drop ((n+us.length) * sz)).toArray
 | [],n,cells,_,_=>by simp[Ny]
 | u::us,n,cells,h,hl=>by
  have hu:=h u (by simp);simp only[Bw]at hl;have e1:(n+(us.length+1)) * sz=n * sz+(us.length * sz+sz):=by rw[EP,EP,OX]
  have e2:(n+1+us.length) * sz=n * sz+(us.length * sz+sz):=by rw[← e1];congr 1;omega
  have e3:(n+1) * sz=n * sz+sz:=by rw[EP,OX]
  rw[o4,DW,aAA _ _ n (n * sz) u _ (by simp[hu]) J,aBI sz us (n+1) _ (λv hv=>h v<|by simp[hv]) ?_]
  .congr 2;simp only[aa1,Oo,hu];have hcl:cells.toList.length=cells.size:=F4;have ht:(cells.toList.take (n * sz)++u.cells.toList).length=(n+1) * sz:=by
    simp only[Ar,DX,F4,hu];omega
   have h4:(cells.toList.take (n * sz)++u.cells.toList++cells.toList.drop (n * sz+sz)).take ((n+1) * sz)=cells.toList.take (n * sz)++u.cells.toList:=by
    rw[← ht,Pp];rfl
   have h5:(cells.toList.take (n * sz)++u.cells.toList++cells.toList.drop (n * sz+sz)).drop ((n+1+us.length) * sz)=cells.toList.drop ((n+(us.length+1)) * sz):=by
    rw[List.drop_append,ht,KR (by rw[ht,e2,e3];omega),EW,Js];congr 1;rw[e1,e2,e3];omega
   rw[h4,h5];simp[C7,N5,Nat.add_left_comm,DH]
  .simp only[Kn,Ar,DX,F4,Dd,hu];omega
def am3(hη:∀x,RX w β tm (ρ x)<|η x)(hH:Hs B β H w)(hb:H b=U){t e:TypeId}{len:Nat}{ps:Array (Nat×Operand)}{k:K}{vs:List AV}{xs:List (Tof k)}(he:ID P t=I e)(hp:Hv ρ 0 ps.toList=I vs)(hd:ME k vs=I xs)
  (hl:vs.length=len)(hc:P.cellsOf e=ks k)(hsm:len<=65536)(hz:zok P e k=A1){o:Oper}(ho:o.op= .buildSlice t len ps):Good B β H w b (.own b) [.row e A3 k xs] ((execOp η o).run P w):=by
 obtain⟨i,z,hi,hz',hs,_⟩:=dt hz;have hu:=bf he;by_cases asr:len=0
 .subst asr;obtain rfl:vs=[]:=EE hl;simp only[ME,Bv]at hd;subst hd;have hps:ps= #[]:=by
   have:=(mz hp).2;have h2:ps.toList=[]:=by
    have:=congrArg JT this;exact EE<|by simpa using this.symm
   exact Array.toList_inj.1<|by simpa using h2
  subst hps;refine Zu (w':=w.alloc<|.cells #[] e) (cap:=0) (us:= #[]) hH hb rfl rfl rfl (λj hj=>heap_alloc_old w _ hj) (heap_alloc_new w _) (by simp) (by simp) (by simp) (λi x j c u a1=>by simp at a1) ?_;unfold execOp;rw[ho];simp[Instr.buildSlice,run_underlying hu,sizeOf,typeInfo,hi,Ny,newRow,show Vz 0= #[] from by simp[Vz]]
 have h0:1<=len:=J
 rw[Tv hi]at hc;obtain⟨h1,rfl⟩:=mz hp;have hkp:=Hc k;have aw4:ks k<=16:=by cases k<;>decide
 have hu':((ps.toList.map λp=>η p.2).length=(ps.toList.map λp=>ρ p.2).length):=by simp
 obtain⟨d1,d2,d3⟩:=aDA (w:=w) (β:=β) (tm:=tm) (us:=ps.toList.map λp=>η p.2) hd ⟨by simp,λj c u a1 a2=>by
  simp only[DE,DL]at a1 a2;obtain⟨p,hp1,rfl⟩:=a1;obtain⟨p',hp2,rfl⟩:=a2;rw[hp1]at hp2;cases hp2;exact hη _⟩
 have afl:(ps.map fun(i,x)=>(i,η x)).toList=((ps.toList.map λp=>η p.2).zipIdx 0).map λx=>(x.2,x.1):=by
  rw[Array.toList_map]
  conv=>lhs;rw[h1]
  rw[IQ,List.zipIdx_map,List.zipIdx_map,IQ,IQ];rfl
 have hlen:(ps.toList.map λp=>η p.2).length=len:=by simpa using hl
 have uO:=aBI (ks k) (ps.toList.map λp=>η p.2) 0 ((Vz<|len * ks k).map (z.cells[· % z.cells.size]!)) d2 (by simp[hlen]);have ay4:¬len * i.size > 2 ^ 24:=by
  rw[hc];have:len * ks k<=65536 * 16:=lH hsm aw4;omega
 have gS:¬len * i.size=0:=by
  rw[hc];have:1 * 1<=len * ks k:=lH h0 hkp;omega
 have jC:(((Vz<|len * ks k).map (z.cells[· % z.cells.size]!)).toList.take (0 * ks k)++((ps.toList.map λp=>η p.2).flatMap λu=>u.cells.toList)++((Vz<|len * ks k).map (z.cells[· % z.cells.size]!)).toList.drop ((0+(ps.toList.map λp=>η p.2).length) * ks k)).toArray
   =((ps.toList.map λp=>η p.2).flatMap λu=>u.cells.toList).toArray:=by
  rw[hlen,KR<|by simp];simp
 rw[jC]at uO;have Cf:=run_buildSlice w t e len (ps.map fun(i,x)=>(i,η x)) _ i z hu hi hz' ay4 gS (by rw[afl,hc];exact uO);have hxl:xs.length=len:=by rw[d1];exact hl
 refine Zu (w':=w.alloc<|.cells ((ps.toList.map λp=>η p.2).flatMap λu=>u.cells.toList).toArray e) (cap:=len) hH hb rfl rfl rfl (λj hj=>heap_alloc_old w _ hj) (heap_alloc_new w _) J (CB hsm<|by decide) ?_ ?_ ?_
 .have:=d3.1;rw[KD]at this;simp only[Kn];rw[this,hxl];exact As _
 .intro i x j c u a1 a2 a3;exact QL d3 i x j c u a1 a2 (by simpa using a3)
 .unfold execOp;rw[ho];simp only[El,Cf,Er,hxl];rfl
def YK{lo hi:Option Operand}{n:Nat}{l h:Int}(hη:∀x,RX w β tm (ρ x)<|η x)(hc:JY (lo.map ρ) (hi.map ρ) n=I (A1,l,h))(isS:Bool){cap:Nat}(Hg:n<=cap):
  (QD isS n cap (lo.map η) (hi.map η) U).run P w= .ok (l.toNat,h.toNat,cap) w/\0<=l/\l<=h/\h<=(n:Int):=by
 have hB:∀(k:IntKind) (i:Int) (y:Nat) (code:BoundsCode),0<=i->i<=(y:Int)->(Instr.sliceBound (.int k i) y code).run P w= .ok i.toNat w:=by
  intro k i y code h1 h2;simp[Instr.sliceBound,asIntOf,h1,h2]
 unfold JY at hc;split at hc
 .rename_i h1 h2;cases lo with
  | some x=>cases h1
  | none=>
  cases hi with
  | some x=>cases h2
  | none=>
   simp only[Bv,CM]at hc;obtain⟨_,rfl,rfl⟩:=hc;exact⟨by simp[QD],J,J,J⟩
 .rename_i k l' h1 h2;cases hi with
  | some x=>cases h2
  | none=>
  cases lo with
  | none=>cases h1
  | some x=>
   simp only[Pq,Bv]at h1;have hx:=hη x;rw[h1]at hx;simp only[Bv,CM,AI,decide_eq_true_eq]at hc;obtain⟨⟨g1,g2⟩,rfl,rfl⟩:=hc;refine⟨?_,g1,g2,J⟩;simp[QD,hx.lit,hB _ _ _ _ g1 g2]
 .rename_i k l' h1 h2;cases lo with
  | some x=>cases h1
  | none=>
  cases hi with
  | none=>cases h2
  | some x=>
   simp only[Pq,Bv]at h2;have hx:=hη x;rw[h2]at hx;simp only[Bv,CM,AI,decide_eq_true_eq]at hc;obtain⟨⟨g1,g2⟩,rfl,rfl⟩:=hc;refine⟨?_,J,g1,g2⟩;cases isS<;>simp[QD,hx.lit,hB _ _ _ _ g1<|show l'<=(cap:Int) by omega]
 .rename_i k1 l' k2 h' h1 h2;cases lo with
  | none=>cases h1
  | some y=>
  cases hi with
  | none=>cases h2
  | some x=>
   simp only[Pq,Bv]at h1 h2;have hy:=hη y;rw[h1]at hy;have hx:=hη x;rw[h2]at hx;simp only[Bv,CM,AI,decide_eq_true_eq]at hc;obtain⟨⟨⟨g1,g2⟩,g3,g4⟩,rfl,rfl⟩:=hc;refine⟨?_,g3,g4,g2⟩;have e1:=hB k2 h' cap;have e2:=hB k1 l' h'.toNat .sliceB g3 J;cases isS<;>simp[QD,hx.lit,hy.lit,e1 _ g1<|show h'<=(cap:Int) by omega,e2]
 .cases hc
def oU{α:Type}{lo hi:Option AV}{l h:Int}{xs:List α}(hc:JY lo hi xs.length=I (A1,l,h)):J5 lo hi l h xs=(xs.take h.toNat).drop l.toNat:=by
 unfold JY at hc;split at hc
 .simp only[Bv,CM]at hc;obtain⟨_,rfl,rfl⟩:=hc;simp[J5]
 .simp only[Bv,CM]at hc;obtain⟨_,rfl,rfl⟩:=hc;simp[J5]
 .simp only[Bv,CM]at hc;obtain⟨_,rfl,rfl⟩:=hc;simp[J5]
 .simp only[Bv,CM]at hc;obtain⟨_,rfl,rfl⟩:=hc;simp[J5]
 .cases hc
def RC.cut{k:K}{xs:List (Tof k)}{bb f cap l h:Nat}{ys:List (Tof k)}(hy:ys=(xs.take h).drop l)(hlh:l<=h)(hh:h<=xs.length)(hx:RC w β (.sl k xs) (.slice (I ⟨bb,f,U⟩) xs.length cap))(Hg:xs.length<=cap):
  RC w β (.sl k ys) (.slice (if cap=l then I ⟨bb,f,U⟩ else I ⟨bb,f+l * ks k,U⟩) (h - l)<|cap - l):=by
 by_cases he:h=l
 .obtain rfl:ys=[]:=by subst hy;subst he;rw[KR];simp;omega
  rw[show h - l=0 by omega];exact .nil
 .have hne:xs≠[]:=λe=>by subst e;simp at hh;omega
  rw[AB J];cases hx with
  | nil=>exact absurd rfl hne
  | sl u hn hm hu hr=>
   have hyl:ys.length=h - l:=by subst hy;simp;omega
   refine .sl (λi j=>u (l+i) j) ⟨hyl.symm,J⟩ hm (λi j hi hj=> ?_) (λi x j c h1 h2=>hr (l+i) x j c ?_ h2)
   .have:=hu (l+i) j J hj;rw[EP]at this;rw[← this];congr 2;omega
   .subst hy;rw[Hd,Gu]at h1;split at h1
    .exact h1
    .cases h1
def nL{t e:TypeId}(hu:P.underlying t=I (.slice e))(h1:1<=P.cellsOf e){a:Option Addr}{n cap l h m:Nat}{lo hi:Option Value}(hb:(QD A1 n cap lo hi U).run P w= .ok (l,h,m) w):
  (Qu t (.slice a n cap) lo hi U).run P w= .ok (.slice (if m=l then a else a.map (·.add (l * P.cellsOf e))) (h - l)<|m - l) w:=by
 simp[Qu,Instr.slice,run_underlying hu,hb,KO h1]
def awj(hη:∀x,RX w β tm (ρ x)<|η x)(hH:Hs B β H w){t:TypeId}{x:Operand}{lo hi:Option Operand}(hf:Is P H t (ρ x)=A1){q:Bool}{v:AV}{os:List Ob}(h:R6 (lo.map ρ) (hi.map ρ) (ρ x)=I (q,v,os))(hq:q=A1):
  Good B β H w b v os (((Qu t (η x) (lo.map η) (hi.map η) U).run P w).andThen λu w=> .ok (.value u) w):=by
 subst hq;have hx:=hη x;generalize ρ x=c at h hx hf;unfold R6 at h;split at h
 .rename_i s;cases hc:JY (lo.map ρ) (hi.map ρ) s.size with
  | none=>rw[hc]at h;cases h
  | some r=>
   obtain⟨q',l,h'⟩:=r;rw[hc]at h;simp only[A9,Bv,CM]at h;obtain⟨rfl,rfl,rfl⟩:=h;obtain⟨hb,g1,g2,g3⟩:=YK (P:=P) (w:=w) (β:=β) (tm:=tm) hη hc A3<|As _;rw[hx.lit];have hu:P.underlying t=I .string:=by
    unfold Is at hf;split at hf<;>simp_all
   refine Good.same hH (u:= .string<|s.extract l.toNat h'.toNat) ?_ rfl;simp[Qu,Instr.slice,run_underlying hu,hb]
 .rename_i k xs;cases hc:JY (lo.map ρ) (hi.map ρ) xs.length with
  | none=>rw[hc]at h;cases h
  | some r=>
   obtain⟨q',l,h'⟩:=r;rw[hc]at h;simp only[A9,Bv,CM]at h;obtain⟨rfl,rfl,rfl⟩:=h;obtain⟨e,hu,hk⟩:∃e,P.underlying t=I (.slice e)/\P.cellsOf e=ks k:=by
    unfold Is at hf;split at hf<;>simp_all
   have h1:=Hc k;have hx':RC w β (.sl k xs) (η x):=hx;obtain⟨a,cap,hv,Hg⟩:=hx'.mg.len;obtain⟨hb,g1,g2,g3⟩:=YK (P:=P) (w:=w) (β:=β) (tm:=tm) hη hc A1 Hg;rw[hv]at hx' ⊢;rw[nL hu J hb,hk];refine Good.same hH rfl ?_;by_cases hxs:xs=[]
   .subst hxs;have e1:h'.toNat - l.toNat=0:=by simp at g3;omega
    have e2:J5 (lo.map ρ) (hi.map ρ) l h' ([]:List (Tof k))=[]:=by rw[oU hc];simp
    rw[e1,e2];exact RC.nil
   .have ha:∃bb f,a=I ⟨bb,f,U⟩:=by
     cases hx' with
     | nil=>exact absurd rfl hxs
     | sl=>exact⟨_,_,rfl⟩
    obtain⟨bb,f,rfl⟩:=ha;have:=RC.cut (l:=l.toNat) (h:=h'.toNat) (oU hc) J J hx' Hg;simpa[R2,R1,Gs,apply_ite] using this
 .cases hc:JY (lo.map ρ) (hi.map ρ) 0 with
  | none=>rw[hc]at h;cases h
  | some r=>
   obtain⟨q',l,h'⟩:=r;rw[hc]at h;simp only[A9,Bv,CM]at h;obtain⟨rfl,rfl,rfl⟩:=h;obtain⟨e,hu,hk⟩:∃e,P.underlying t=I (.slice e)/\1<=P.cellsOf e:=by
    unfold Is at hf;split at hf<;>simp_all
   obtain⟨hb,g1,g2,g3⟩:=YK (P:=P) (w:=w) (β:=β) (tm:=tm) hη hc A1<|As _;rw[hx.lit,nL hu hk hb];have e1:h'.toNat=0:=J
   have e2:l.toNat=0:=J
   refine Good.same hH (u:= .slice U 0 0) ?_ rfl;rw[e1,e2];rfl
 .cases h
end
end Go.VS
namespace Go.VS
open Go
section
variable {P:Program} {B:Be} {β:Beta} {H:Hp} {w w':World} {b:Nat} {tm:Nat->Value} {ρ:Operand->AV} {η:Operand->Value} {kd:TypeId->Option K}
def axt(hP:P=B.P)(hη:∀x,RX w β tm (ρ x)<|η x)(htm:∀g,η (.tmp g)=tm g)(hcv:∀v,η (.const v)=v)(hH:Hs B β H w)(hb:H b=U){o:Oper}{q:Bool}{v:AV}{os:List Ob}
  (h:CA P kd ρ H b o.op=I (q,v,os))(hq:q=A1):Good B β H w b v os ((execOp η o).run P w):=by
 generalize ho:o.op=op at h;have PZ:∀ {s:Sem Value},(execOp η o=(do pure (.value<|← s):Sem Next))->(execOp η o).run P w=(s.run P w).andThen λu w=> .ok (.value u) w:=by
  intro s e;rw[e];simp only[El];rfl
 cases op<;>try (simp[CA]at h;done)
 case move x=>
  obtain⟨rfl,_,rfl,hg⟩:=N9 h;refine Good.same hH (u:=η x) ?_<|(hη x).of hg;unfold execOp;rw[ho];rfl
 case assign x=>
  obtain⟨rfl,_,rfl,hg⟩:=N9 h;refine Good.same hH (u:=η x) ?_<|(hη x).of hg;unfold execOp;rw[ho];rfl
 case pick c x y=>exact axh hη htm hcv hH h hq ho
 case alloc t=>
  simp only[CA]at h;split at h
  .rename_i n e hu;cases hk:kd e with
   | none=>rw[hk]at h;cases h
   | some k=>
    cases hz:I1 P t with
    | none=>rw[hk,hz]at h;cases h
    | some zs=>
     rw[hk,hz]at h;simp only[A9]at h;split at h
     .rename_i hc;simp only[AI]at hc;cases h;exact axU hP hH hb hz hc.1.1 (Bn hc.1.2) (DQ hc.2) ho
     .cases h
  .cases hz:I1 P t with
   | none=>rw[hz]at h;cases h
   | some zs=>
    rw[hz]at h;cases h;exact akn hH hb hz ho
 case box t x=>
  simp only[CA]at h;cases hc:GD (ρ x) with
  | none=>rw[hc]at h;cases h
  | some cs=>
   rw[hc]at h;cases h;exact aeu hη hH hb hc ho
 case build t ps=>
  simp only[CA]at h;cases hz:I1 P t with
  | none=>rw[hz]at h;cases h
  | some zs=>
   rw[hz]at h;simp only[A9]at h;split at h
   .rename_i fs hu;split at h
    .rename_i ha;cases hc:Hk P ρ t ps.toList zs with
     | none=>rw[hc]at h;cases h
     | some cs=>
      rw[hc]at h;obtain⟨rfl,_,rfl⟩:=DT h;exact aq3 hη hH hz hu ha hc ho
    .cases h
   .cases h
 case buildSlice t len ps=>
  simp only[CA]at h;cases he:ID P t with
  | none=>rw[he]at h;cases h
  | some e=>
   rw[he]at h;simp only[A9]at h;cases hk:kd e with
   | none=>rw[hk]at h;cases h
   | some k=>
    rw[hk]at h;simp only[A9]at h;cases hp:Hv ρ 0 ps.toList with
    | none=>rw[hp]at h;cases h
    | some vs=>
     rw[hp]at h;simp only[A9]at h;cases hd:ME k vs with
     | none=>rw[hd]at h;cases h
     | some xs=>
      rw[hd]at h;simp only[A9]at h;split at h
      .rename_i hc;simp only[AI]at hc;cases h;exact am3 hη hH hb he hp hd (Bn hc.1.1.1) (Bn hc.1.1.2) (DQ hc.1.2) hc.2 ho
      .cases h
 case load t p=>
  simp only[CA]at h;cases hl:Jv P H t (ρ p) with
  | none=>rw[hl]at h;cases h
  | some v'=>
   rw[hl]at h;obtain⟨rfl,_,rfl⟩:=DT h;exact aue hP hη hH hl ho
 case nilCheck p=>
  simp only[CA]at h;split at h
  .rename_i hp;obtain⟨rfl,_,rfl⟩:=DT h;exact vC hη hH (.inl ⟨_,_,_,_,rfl⟩) hp ho
  .rename_i hp;obtain⟨rfl,_,rfl⟩:=DT h;exact vC hη hH (.inr ⟨_,_,_,rfl⟩) hp ho
  .cases h
 case binOp op t x y z=>
  refine aiZ (t:=t) (x:=x) (y:=y) hη hH h hq<|PZ ?_;unfold execOp;rw[ho]
 case unOp op t x=>
  rw[PZ (by unfold execOp;rw[ho])];exact am7 hη hH h
 case convert src dst x=>
  rw[PZ (by unfold execOp;rw[ho])];have hx:=hη x;have conv:(Iu P src dst (ρ x)=I (q,v,os)/\ ∀i,v≠ .own i)\/(∃c i os',Iu P src dst (ρ x)=I (c,.own i,os')/\(c,AV.own b,os')=(q,v,os))\/ ∃e xs,P.underlying src=I (.slice e)/\P.underlying dst=I .string/\P.underlying e=I (.int .u8)/\CF H .u8 (ρ x)=I xs/\v= .s (BH xs)/\os=[]:=by
   simp only[CA]at h;split at h
   .rename_i e hs hd;split at h
    .rename_i he;cases hx:CF H .u8 (ρ x) with
     | none=>rw[hx]at h;cases h
     | some xs=>
      rw[hx]at h;obtain⟨rfl,_,rfl⟩:=DT h;exact .inr (.inr ⟨e,xs,hs,hd,he,rfl,rfl,rfl⟩)
    .cases h
   .split at h
    .rename_i c i os' hc;exact .inr (.inl ⟨c,i,os',hc,EI h⟩)
    .rename_i hno;exact .inl ⟨h,λi e=>hno q i os<|by rw[h,e]⟩
  have aoW:∀e xs,CF H .u8 (ρ x)=I xs->P.underlying src=I (.slice e)->∀g w y,ρ x≠ .gd g w y:=by
   intro e xs h1 h2 g w y h3;rw[h3]at h1;simp[CF]at h1
  have cA:∀q v os,Iu P src dst (ρ x)=I (q,v,os)->q=A1->(∀i,v≠ .own i)->Good B β H w b v os (((convert src dst<|η x).run P w).andThen λu w=> .ok (.value u) w):=by
   intro q v os h hq hn;generalize ρ x=c at h hx;unfold Iu at h;split at h
   .rename_i d k k' n J7 hd;obtain⟨rfl,_,rfl⟩:=DT h;rw[hx.lit];refine Good.same hH (u:= .int k<|k.wrap n) ?_ rfl;cases d<;>simp[convert,run_underlying J7,run_underlying hd,Conv.intToInt]
   .rename_i hs hd;obtain⟨rfl,_,rfl⟩:=DT h;rw[hx.lit];refine Good.same hH (u:= .string _) ?_ rfl;simp[convert,run_underlying hs,run_underlying hd]
   .split at h
    .simp only[Bv,CM]at h;exact absurd h.2.1.symm (hn 0)
    .cases h
   .cases h
  obtain⟨h1,hno⟩|⟨c,i,os',h1,h2⟩|⟨e,xs,hs,hd,he,h1,rfl,rfl⟩:=conv
  .exact cA q v os h1 hq hno
  .cases h2;subst hq;generalize ρ x=c at h1 hx;unfold Iu at h1;split at h1
   .cases h1
   .cases h1
   .rename_i e s hs hd;split at h1
    .rename_i he;simp only[Bv,CM]at h1;obtain⟨hr,_,rfl⟩:=h1;rw[hx.lit];exact aoN hH hb hs hd he hr
    .cases h1
   .cases h1
  .have hx2:R2 w β (ρ x) (η x):=hx.of<|aoW e xs h1 hs;refine Good.same hH (u:= .string<|BH xs) ?_ rfl;rw[avr hs he hd<|abX hH h1 hx2];rfl
 case makeSlice t l c=>
  rw[PZ (by unfold execOp;rw[ho])];have mk:∀n,η l= .int .i64 n->η c= .int .i64 n->((ID P t).bind λe=>(kd e).bind λk=>
   match zok P e k&&Aj (P.cellsOf e) (ks k)&&E0 (P.bytesOf e) 256 with
   | true=>I (A0 (0<=n)&&A0 (n<=4294967296),AV.own b,[Ob.row e A3 k (BW n.toNat<|dfl k)])
   | false=>U)=I (q,v,os)->Good B β H w b v os (((Instr.makeSlice t (η l)<|η c).run P w).andThen λu w=> .ok (.value u) w):=by
   intro n h1 h2 h;cases he:ID P t with
   | none=>rw[he]at h;cases h
   | some e=>
    rw[he]at h;simp only[A9]at h;cases hk:kd e with
    | none=>rw[hk]at h;cases h
    | some k=>
     rw[hk]at h;simp only[A9]at h;split at h
     .rename_i hc;simp only[AI]at hc;simp only[Bv,CM]at h;obtain⟨hr,rfl,rfl⟩:=h;rw[hq]at hr;simp only[AI,decide_eq_true_eq]at hr;rw[h1,h2];exact agC hH hb he hc.1.1 (Bn hc.1.2) (DQ hc.2) hr.1 hr.2
     .cases h
  have hl:=hη l;have hc:=hη c;simp only[CA]at h;split at h
  .rename_i n hl' Gn;rw[hl']at hl;split at Gn
   .obtain rfl:=Bn Gn;exact mk n hl.lit hl.lit h
   .cases Gn
  .rename_i n m hl' hc' Gn;rw[hl']at hl;rw[hc']at hc;split at h
   .rename_i hnm;obtain rfl:n=m:=by simpa using hnm
    exact mk n hl.lit hc.lit h
   .cases h
  .cases h
 case slice t x lo hi mx=>
  cases mx with
  | some m=>simp[CA]at h
  | none=>
   rw[PZ (by unfold execOp;rw[ho])];simp only[CA]at h;split at h
   .rename_i hf;exact awj hη hH hf h hq
   .cases h
 case fieldAddr t x f=>
  simp only[CA]at h;cases hf:Ke P t f with
  | none=>rw[hf]at h;cases h
  | some fd=>
   rw[hf]at h;simp only[A9]at h;split at h
   .rename_i h1;split at h
    .rename_i hp;obtain⟨rfl,_,rfl⟩:=DT h;exact aCY hη hH hf (DQ h1) (.inl ⟨_,_,_,_,hp,rfl⟩) ho
    .rename_i hp;obtain⟨rfl,_,rfl⟩:=DT h;exact aCY hη hH hf (DQ h1) (.inr ⟨_,_,_,hp,rfl⟩) ho
    .cases h
   .cases h
 case field t x f=>
  simp only[CA]at h;cases hf:Ke P t f with
  | none=>rw[hf]at h;cases h
  | some fd=>
   rw[hf]at h;simp only[A9]at h;split at h
   .rename_i cs hx;cases hl:HB P fd.type cs fd.offset with
    | none=>rw[hl]at h;cases h
    | some v'=>
     rw[hl]at h;obtain⟨rfl,_,rfl⟩:=DT h;exact axy hη hH hf hx hl ho
   .cases h
 case indexAddr t x ix=>
  rw[PZ (by unfold execOp;rw[ho])];simp only[CA]at h;split at h
  .rename_i hi;exact avA hP hη hH hi h hq
  .cases h
 case index t x ix=>
  rw[PZ (by unfold execOp;rw[ho])];simp only[CA]at h;split at h
  .rename_i hi;exact apT hη hH hi h hq
  .cases h
 case extract x i=>
  simp only[CA]at h;split at h
  .rename_i vs hx;cases hv:vs[i]? with
   | none=>rw[hv]at h;cases h
   | some v'=>
    rw[hv]at h;obtain⟨rfl,_,rfl⟩:=DT h;exact arq hη hH hx hv ho
  .cases h
 case call c=>
  have Qa:∀ {x:Operand} {v:Value},ρ x= .lit v->η x=v:=fun {x v} e=>by have:=hη x;rw[e]at this;exact this.lit
  obtain⟨cal,⟨args⟩,⟨tys⟩⟩:=c;simp only[CA,JD]at h;split at h
  .rename_i x t;have run:∀n:Nat,(S1 #[t] o.type #[η x]).run P w= .ok (.int .i64 n) w->Good B β H w b (.i n) [] ((execOp η o).run P w):=by
    intro n hn;refine Good.same hH (u:= .int .i64 n) ?_ rfl;unfold execOp;rw[ho];simp[resolve,invoke,builtin,hn]
   split at h
   .rename_i s hu hx;obtain⟨rfl,_,rfl⟩:=DT h;refine run _ ?_;rw[Qa hx];simp[S1,run_underlying hu,goInt]
   .rename_i e k xs hu hx;obtain⟨rfl,_,rfl⟩:=DT h;have h1:=hη x;rw[hx]at h1;have h2:RC w β (.sl k xs) (η x):=h1;obtain⟨a,cap,hv,_⟩:=h2.mg.len;refine run _ ?_;rw[hv,sG hu]
   .rename_i e hu hx;obtain⟨rfl,_,rfl⟩:=DT h;refine run 0 ?_;rw[Qa hx,sG hu]
   .rename_i e id hu hx;split at h
    .rename_i e' fz k xs hid;obtain⟨rfl,_,rfl⟩:=DT h;have h1:=hη x;rw[hx]at h1;have h2:RC w β (.own id) (η x):=h1;obtain⟨hd,h3,h4⟩:=hH.ER id _ hid;generalize hg:η x=g at h2 run;cases h2 with
     | own h5 h6=>
      rw[h3]at h5;cases h5;obtain⟨a,cap,hv,_⟩:=h4.cells.len;refine run _ ?_;rw[hv,sG hu]
    .cases h
   .rename_i n e v hu;obtain⟨rfl,_,rfl⟩:=DT h;refine run _ ?_;simp[S1,run_underlying hu,goInt]
   .cases h
  .rename_i x y;split at h
   .rename_i k a k' c hx hy;split at h
    .rename_i hk;obtain rfl:k=k':=by simpa using hk
     obtain⟨rfl,_,rfl⟩:=DT h;refine Good.same hH (u:= .int k<|if c<a then c else a) ?_ rfl;unfold execOp;rw[ho];simp[resolve,invoke,builtin,Builtin.min_,Builtin.min2,Qa hx,Qa hy]
    .cases h
   .cases h
  .rename_i x y;split at h
   .rename_i k a k' c hx hy;split at h
    .rename_i hk;obtain rfl:k=k':=by simpa using hk
     obtain⟨rfl,_,rfl⟩:=DT h;refine Good.same hH (u:= .int k<|if a<c then c else a) ?_ rfl;unfold execOp;rw[ho];simp[resolve,invoke,builtin,Builtin.max_,Builtin.max2,Qa hx,Qa hy]
    .cases h
   .cases h
  .cases h
end
end Go.VS
namespace Go.VS
open Go
section
variable {B:Be} {β β':Beta} {stk:List (Array Value)} {s:S} {a:Act} {w w':World}
def agn{cs:List Value}(h:cs.all Xq=A1):∀v∈cs,v.oneCell'=A1:=λv hv=>by
 rw[← uD];exact Cr.1 h v hv
def aks(v:Value):R2 w β (ofV v) v:=by
 unfold ofV;split
 .rename_i cs;split
  .rename_i h;exact⟨cs.toList,by simp,RL.lits _<|agn h⟩
  .trivial
 .rfl
def St.eval(h:St B β stk s a w)(x:Operand):RX w β (Ba a) (s.ev x) (a.eval x):=by
 cases x with
 | tmp t=>exact(h.T t).ZP
 | const v=>
  have:=aks (w:=w) (β:=β) v;show RX w β (Ba a) (ofV v) v;exact RT.ZP<|RT.HC this
 | _=>trivial
def zd{l:List Nat}{t:Nat}(h:(l.any λp=>Aj p t)=A3):t ∉ l:=by
 intro hm;have:(l.any λp=>Aj p t)=A1:=I5.2 ⟨t,hm,by simp⟩;rw[h]at this;cases this
def St.put(h:St B β stk s a w){d:Option Nat}(hd:s.has d=A1){v:AV}{u:Value}(hv:RT w β (Ba a) v u)(hg:∀g want x,v= .gd g want x->s.gs g=A1):St B β stk (s.put d v) (a.put d u) w:=by
 cases d with
 | none=>exact h
 | some d=>
  simp only[S.has,AI,DR]at hd;obtain⟨⟨h1,h2⟩,h3⟩:=hd;have hlt:d<a.tmps.size:=by rw[h.n];exact Gw (Ts d)<|DQ h1
  have hp:=zd h2;have hgs:s.gs d≠A1:=by rw[h3];simp
  have akO:Ba (a.put (I d) u) d=u:=by simp[Ba,Act.put,hlt]
  have tne:∀t,t≠d->Ba (a.put (I d) u) t=Ba a t:=λt ht=>by
   simp only[Ba,Act.put,TH];rw[aat λe=>ht e.symm]
  have rt:∀x y,RT w β (Ba a) x y->(∀g want z,x= .gd g want z->s.gs g=A1)->RT w β (Ba<|a.put (I d) u) x y:=by
   intro x y hx hx';cases x with
   | gd g want z=>
    have hne:g≠d:=λe=>hgs<|e▸hx' g want z rfl;refine⟨λe=>hx.1<|by rwa[tne g hne]at e,λe=>hx.2<|by rwa[tne g hne]at e⟩
   | _=>exact hx
  refine⟨λt=> ?_,h.stack, ?_,h.defers,λt ht=> ?_,λt g want x hx=> ?_,h.hs⟩
  .show RT w β _ (upd s.T d v t) _;by_cases e:t=d
   .subst e;rw[Bl,akO];exact rt _ _ hv hg
   .rw[BE _ _ e,tne t e];exact rt _ _ (h.T t) (h.gs t)
  .show(a.put (I d) u).tmps.size=s.n;simpa[Act.put] using h.n
  .have hne:t≠d:=λe=>hp<|e▸ht;rw[tne t hne];exact h.pins t ht
  .have hx:upd s.T d v t= .gd g want x:=hx;by_cases e:t=d
   .subst e;rw[Bl]at hx;exact hg _ _ _ hx
   .rw[BE _ _ e]at hx;exact h.gs _ _ _ _ hx
def St.map{f:AV->AV}(h:St B β stk s a w)(hf:∀c,GM c=A1->f c=c)(hg:∀c g want x,f c= .gd g want x->∃y,c= .gd g want y)(hk:Kf f w β w' β'){H':Hp}(hH:Hs B β' H' w'):St B β' stk { s.map f with H:=H' } a w':=by
 have g1:∀c g want x,Ft f c= .gd g want x->∃y,c= .gd g want y:=by
  intro c g want x e;cases c<;>first|(cases e;done)|exact hg _ _ _ _ e
 have g2:∀c g want x,GA f c= .gd g want x->∃y,c= .gd g want y:=by
  intro c g want x e;cases c<;>first|(cases e;done)|exact g1 _ _ _ _ e
 have g3:∀c g want x,En f c= .gd g want x->∃y,c= .gd g want y:=by
  intro c g want x e;cases c with
  | gd g' w' y=>cases e;exact⟨_,rfl⟩
  | _=>exact g2 _ _ _ _ e
 refine⟨λt=>RT.map hf hk<|h.T t,⟨by simpa[S.map] using h.stack.1,λi T tm h1 h2 t=> ?_⟩,h.n,h.defers,h.pins,λt g want x hx=> ?_,hH⟩
 .simp only[S.map,DE,DL]at h1;obtain⟨T0,h3,rfl⟩:=h1;exact RT.map hf hk (h.stack.2 i T0 tm h3 h2 t)
 .obtain⟨y,hy⟩:=g3 _ _ _ _ hx;exact h.gs _ _ _ _ hy
def PT(id:Nat):∀c g want x,kl1 id c= .gd g want x->∃y,c= .gd g want y:=by
 intro c g want x h;unfold kl1 at h;split at h
 .split at h<;>cases h
 .split at h<;>cases h
 .exact⟨_,h⟩
def aC8(id:Nat)(k:K)(xs:List (Tof k)):∀c g want x,fz1 id k xs c= .gd g want x->∃y,c= .gd g want y:=by
 intro c g want x h;unfold fz1 at h;split at h
 .split at h<;>cases h
 .split at h<;>cases h
 .exact⟨_,h⟩
def St.keep(h:St B β stk s a w)(hk:Kp w β w' β'){H':Hp}(hH:Hs B β' H' w'):St B β' stk { s with H:=H' } a w':=
 ⟨λt=>RT.mono hk<|h.T t,⟨h.stack.1,λi T tm h1 h2 t=>RT.mono hk<|h.stack.2 i T tm h1 h2 t⟩,h.n,h.defers,h.pins,h.gs,hH⟩
end
end Go.VS
namespace Go.VS
open Go
section
variable {P:Program} {B:Be} {β β':Beta} {H:Hp} {stk:List (Array Value)} {s:S} {a:Act} {w w':World}
def aAy{o n:Nat}{cs:List AV}(h:qD o n cs=A1):o+n<=cs.length/\(o=0->nop (cs.headD<|.lit<|.bool A3)=A1):=by
 unfold qD at h;simp only[AI,Ci]at h;exact⟨DQ h.1,λe=>h.2.resolve_left λh1=>by have:=DQ h1;omega⟩
def aoz{e:TypeId}{k:K}(h:zok P e k=A1):Pl P e=A3:=by
 unfold zok at h;unfold Pl;split at h
 .rename_i zs hz;rw[hz];cases zs with
  | nil=>rfl
  | cons c zs=>
   cases hk:enc k (dfl k) with
   | nil=>rw[hk]at h;cases h
   | cons d ds=>
    rw[hk]at h;simp only[Lo,AI]at h;cases c<;>first|rfl|skip
    rename_i v;cases v<;>first|rfl|skip
    rename_i q;cases q<;>first|rfl|skip
    have h1:=h.1;simp[eO]at h1
 .cases h
def aAG{c:AV}{v:Value}(hn:nop c=A1)(h:RC w β c v):∀a,v≠ .pointer (I a):=by
 rintro a rfl;cases h with
 | un=>cases hn
 | lit=>cases hn
 | own _ hs=>cases hs
 | ptr=>cases hn
 | ipt=>cases hn
def aiX:∀(k:K) (x:Tof k),(enc k x).all nop=A1:=by
 intro k x;cases k<;>rfl
def Pk.setRow{g:Nat}{us cs:Array Value}{e:TypeId}{fr:Nat×Nat}(hg:w.heap[g]? =I (.cells us e fr))(h:Pl P e=A1->∀a,us[0]? =I (.pointer<|I a)->cs[0]? =I (.pointer<|I a)):Pk P w (w.setRow g cs):=by
 intro b us' e' fr' a h1 h2 h3;by_cases hb:b=g
 .subst hb;rw[hg]at h1;cases h1;exact⟨cs,_,setRow_heap w b us cs e _ hg,h h3 a h2⟩
 .exact⟨us',fr',by rw[setRow_other w g b cs hb];exact h1,h2⟩
def YO{l ys:List Value}{p:Nat}(h:p+ys.length<=l.length){v:Value}(hv:l[0]? =I v)(h0:p=0->ys≠[]->False):((l.take p++ys++l.drop (p+ys.length)).toArray)[0]? =I v:=by
 rw[UQ];by_cases hy:ys=[]
 .subst hy;simpa using hv
 .have hp:0<p:=Nat.pos_of_ne_zero λe=>h0 e hy;rw[C7,G0 (by
   have:=(BP.1 hv).1;simp;omega),Gu,A8 hp]
  exact hv
def jx{k:K}{us:Array Value}{f:Nat}{xs:List (Tof k)}(hr:∀i x j c u,xs[i]? =I x->(enc k x)[j]? =I c->us[f+(i * ks k+j)]? =I u->RC w β c u)(hx:xs≠[])(hf:f=0){a:Addr}(hu:us[0]? =I (.pointer<|I a)):False:=by
 subst hf;obtain⟨x,l,rfl⟩:=List.exists_cons_of_ne_nil hx;have hk:=Hc k;rw[← EH k x]at hk;have hc:=hr 0 x 0 _ _ rfl (Ax hk) (by simpa using hu);exact aAG (Cr.1 (aiX k x) _<|CQ hk) hc a rfl
def Hs.setRow(h:Hs B β H w){id:Nat}{hd:Value}{n g o:Nat}(hβ:β id=I (hd,n))(ha:adr hd=I ⟨g,o,U⟩)(cs:Array Value)(ob:Ob)
  (hob:Kp w β (w.setRow g cs) β->E9 B.P (w.setRow g cs) β id ob)(hpk:Pk B.P w (w.setRow g cs)):Hs B β (upd H id<|I ob) (w.setRow g cs)/\Kp w β (w.setRow g cs) β:=by
 have hm:MB β g:=⟨id,hd,n,_,hβ,ha,rfl⟩;have hk:Kp w β (w.setRow g cs) β:=λc v x=>RC.mono (λ_ _ h=>h) (λb o v hb hc=>by
  have hne:b≠g:=λe=>hb<|.inl<|e▸hm;rw[cell_setRow_other w g cs _ hne];exact hc) (λ_ h _=>h) x
 have h1:=h.Tl (w':=w.setRow g cs) (β':=β) (f:=λc=>c) (λ_ _=>rfl) hk (id:=id) (ob:=I ob) (λ_ _=>rfl)
  (.inr ⟨ob,hd,n,rfl,hβ,hob hk,λa h=> .inl ⟨_,a,hβ,h,rfl⟩⟩)
  (λj p a' e hj h2=>setRow_other w g _ cs λe'=>e<|h.inj _ _ _ _ _ _ hj hβ h2 ha e') rfl rfl rfl (by simp)
  (λb hb hO=>setRow_other w g b cs (λe=>by
   subst e;rcases(h.old b hm).1 with h3|h3
   .exact hO h3
   .omega)) rfl hpk
 rw[show(λj=>CJ (λc=>c)<|H j)=H from funext λj=>yK _ (λ_=>rfl) _]at h1;exact⟨h1,hk⟩
def Xf{α:Type}(l:List α)(p:Nat)(ys:List α)(h:p+ys.length<=l.length)(q:Nat):
  (l.take p++ys++l.drop (p+ys.length))[q]? =if p<=q/\q<p+ys.length then ys[q - p]? else l[q]? :=by
 have ht:(l.take p).length=p:=by simp;omega
 by_cases h1:q<p
 .rw[AB J,C7,G0 J,Gu,A8 h1]
 .by_cases h2:q<p+ys.length
  .rw[A8 ⟨J,h2⟩,C7,EC J,ht,G0 J]
  .rw[AB J,EC (by simp;omega),Hd];congr 1;simp only[Ar,ht];omega
def k8{t:TypeId}{v:Value}{g o:Nat}{e:TypeId}{fr:Nat×Nat}{cur:Array Value}(h1:1<=P.cellsOf t)(hs:v.cells.size=P.cellsOf t)(hg:w.heap[g]? =I (.cells cur e fr))(hl:o+v.cells.size<=cur.size)
  (hfr:fr=(0,0)\/cur.size<=fr.1)(DM:∀u∈v.cells.toList,u.oneCell'=A1):
  (Qt t (.pointer<|I ⟨g,o,U⟩) v).run P w= .ok () (w.setRow g (cur.toList.take o++v.cells.toList++cur.toList.drop (o+v.cells.size)).toArray):=by
 have:=aV (P:=P) g o e fr v.cells.toList 0 cur w hg (by simpa using hl) hfr DM;simp only[Hn,F4]at this;simp only[Qt,JO,storeVar,El,Fl,Er,KO h1,hs,ne_eq,not_true_eq_false,if_false];rw[hs]at this;exact this
def ajf(hP:P=B.P)(h:St B β stk s a w){t:TypeId}{p x:Operand}{id z o:Nat}{e:TypeId}{cs ys:List AV}(hp:s.ev p= .ptr id z 0 o)(hid:s.H id=I (.box e cs))(hx:GD (s.ev x)=I ys)
  (hy:ys.length=P.cellsOf t)(h1:1<=P.cellsOf t)(hl:o+ys.length<=cs.length)(h0:o=0->nop (cs.headD<|.lit<|.bool A3)=A1):
  ∃w' β',(Qt t (a.eval p)<|a.eval x).run P w= .ok () w'/\St B β' stk (s.ES id<|I<|.box e<|H4 cs o ys) a w':=by
 have hp':=h.eval p;rw[hp]at hp';have hp':RC w β (.ptr id z 0 o) (a.eval p):=hp';have hr:=QS hx<|h.eval x;have hys:(a.eval x).cells.size=ys.length:=by have:=hr.1;simpa using this
 obtain⟨b',us,k1,k2,k3⟩:=h.hs.ER id _ hid;have hcs:us.size=cs.length:=by have:=k3.1;simpa using this
 generalize hg:a.eval p=vp at hp';cases hp' with
 | @ptr _ _ _ _ hd n bb f hβ ha hi=>
  rw[k1]at hβ;cases hβ;cases ha;have Cf:=k8 (P:=P) (w:=w) (v:=a.eval x) (o:=o) h1 (by rw[hys,hy]) k2 J (.inl rfl) hr.one;refine⟨_,β,by rw[show(0:Nat)+(0 * z+o)=o by omega];exact Cf, ?_⟩;obtain⟨g1,g2⟩:=h.hs.setRow (hpk:=Pk.setRow k2 λ_ a' hu=>by
   have hus:us.toList.length=us.size:=F4;refine YO (ys:=(a.eval x).cells.toList) (by simp;omega) (by simpa using hu) λe1 _=> ?_;cases cs with
   | nil=>simp at hcs;simp[hcs]at hu
   | cons c cs=>exact aAG (h0 e1) (k3.2 0 c _ rfl (by simpa using hu)) a' rfl) k1 rfl (us.toList.take o++(a.eval x).cells.toList++us.toList.drop (o+(a.eval x).cells.size)).toArray (.box e<|H4 cs o ys) (λhk=>by
   refine⟨b',_,k1,setRow_heap w b' us _ e _ k2, ?_⟩;rw[aa1];unfold H4;rw[← hys];exact(((k3.take _).append hr).append<|k3.drop _).mono hk)
  exact h.keep g2 g1
def aCM{k:K}{us:List Value}{f:Nat}{xs:List (Tof k)}{i o:Nat}{y:Tof k}{ys:List AV}{vs:List Value}(hi:i<xs.length)(hsz:f+xs.length * ks k<=us.length)
  (hr:∀i x j c u,xs[i]? =I x->(enc k x)[j]? =I c->us[f+(i * ks k+j)]? =I u->RC w β c u)(hv:vs.length=ys.length)(ho:o+ys.length<=ks k)
  (hy:∀us0,RL (RC w β) (enc k<|xs.getD i<|dfl k) us0->RL (RC w β) (enc k y) (us0.take o++vs++us0.drop (o+vs.length))):
  ∀i' x j c u,(xs.set i y)[i']? =I x->(enc k x)[j]? =I c->(us.take (f+(i * ks k+o))++vs++us.drop (f+(i * ks k+o)+vs.length))[f+(i' * ks k+j)]? =I u->RC w β c u:=by
 intro i' x j c u h1 h2 h3;have hj:j<ks k:=by rw[← EH k x];exact(BP.1 h2).1
 have hi':i'<xs.length:=by have:=(BP.1 h1).1;simpa using this
 have e1:(i+1) * ks k<=xs.length * ks k:=E6 _ hi;rw[EP,OX]at e1;have hlen:=hv;rw[Xf _ _ _ J]at h3;by_cases e:i'=i
 .subst e;have hx:x=y:=by
   rw[eS hi]at h1;exact(EI h1).symm
  subst hx;have hold:RL (RC w β) (enc k<|xs.getD i'<|dfl k) ((us.drop<|f+i' * ks k).take<|ks k):=by
   refine⟨by simp[EH];omega,λj' c' u' g1 g2=>hr i' _ j' c' u' (getD_some hi) g1 ?_⟩;have hj':j'<ks k:=by rw[← EH k<|xs.getD i'<|dfl k];exact(BP.1 g1).1
   rw[Gu,A8 hj',Hd,DH]at g2;exact g2
  have YC:=hy _ hold;refine YC.2 j c u h2 ?_;rw[Xf _ _ _ (by simp;omega)];by_cases g:o<=j/\j<o+vs.length
  .rw[A8 g];rw[A8 J]at h3;rw[← h3];congr 1;omega
  .rw[AB g,Gu,A8 hj,Hd];rw[AB J]at h3;rw[← h3];congr 1;omega
 .have hx:xs[i']? =I x:=by
   rw[List.getElem?_set_ne λq=>e q.symm]at h1;exact h1
  refine hr i' x j c u hx h2 ?_;rw[AB]at h3
  .exact h3
  .rcases kX e with g|g
   .have:(i'+1) * ks k<=i * ks k:=E6 _ g;rw[EP,OX]at this;omega
   .have:(i+1) * ks k<=i' * ks k:=E6 _ g;rw[EP,OX]at this;omega
def afi(h:St B β stk s a w){t:TypeId}{p:Operand}{id i o:Nat}{e:TypeId}{fz:Bool}{k:K}{xs:List (Tof k)}{ys:List AV}{vs:Value}(hp:RC w β (.ptr id (ks k) i o) (a.eval p))(hid:s.H id=I (.row e fz k xs))
  (hys:vs.cells.size=ys.length)(DM:∀u∈vs.cells.toList,u.oneCell'=A1)(hy:ys.length=P.cellsOf t)(h1:1<=P.cellsOf t)(hl:o+ys.length<=ks k){y:Tof k}(hd:∀us0,RL (RC w β) (enc k<|xs.getD i<|dfl k) us0->RL (RC w β) (enc k y) (us0.take o++vs.cells.toList++us0.drop (o+vs.cells.toList.length))):
  ∃w',(Qt t (a.eval p) vs).run P w= .ok () w'/\St B β stk (s.ES id<|I<|.row e fz k<|xs.set i y) a w':=by
 obtain⟨hd',k1,k2⟩:=h.hs.ER id _ hid;generalize hg:a.eval p=vp at hp;cases hp with
 | @ptr _ _ _ _ hdd n bb f hβ ha hi=>
  rw[k1]at hβ;cases hβ;obtain⟨rfl,rfl⟩|⟨b',f',cap,us,fr,agr,hh,hfr,hn,hc,hsz,Cv⟩:=k2
  .cases ha
  .subst agr;have ha':(⟨b',f',U⟩:Addr)=⟨bb,f,U⟩:=EI ha;obtain⟨rfl,rfl⟩:b'=bb/\f'=f:=by simpa using ha'
   have hxc:xs.length * ks k<=cap * ks k:=E6 _ hn;have hic:(i+1) * ks k<=xs.length * ks k:=E6 _ hi;rw[EP,OX]at hic;have adz:fr=(0,0)\/us.size<=fr.1:=by
    subst hfr;cases fz
    .exact .inl rfl
    .exact .inr<|As _
   have Cf:=k8 (P:=P) (w:=w) (v:=vs) (o:=f'+(i * ks k+o)) h1 (by rw[hys,hy]) hh J adz DM;refine⟨_,Cf, ?_⟩;obtain⟨g1,g2⟩:=h.hs.setRow (hpk:=Pk.setRow hh λ_ a' hu=>by
    have hus:us.toList.length=us.size:=F4;exact YO (ys:=vs.cells.toList) (by simp;omega) (by simpa using hu) λe1 _=>jx Cv (λe2=>by subst e2;simp at hi) J hu) k1 rfl (us.toList.take (f'+(i * ks k+o))++vs.cells.toList++us.toList.drop (f'+(i * ks k+o)+vs.cells.size)).toArray (.row e fz k<|xs.set i y) (λhk=>by
    have F6:(us.toList.take (f'+(i * ks k+o))++vs.cells.toList++us.toList.drop (f'+(i * ks k+o)+vs.cells.size)).toArray.size=us.size:=by
     simp only[Kn,Ar,DX,Dd,F4];omega
    refine⟨_,by simpa using k1,.inr ⟨b',f',cap,_,fr,by simp,setRow_heap w b' us _ e _ hh, ?_,by simpa using hn,hc,by rw[F6];exact hsz, ?_⟩⟩
    .rw[F6];exact hfr
    .intro i' x' j c u q1 q2 q3;have q3':(us.toList.take (f'+(i * ks k+o))++vs.cells.toList++us.toList.drop (f'+(i * ks k+o)+vs.cells.toList.length))[f'+(i' * ks k+j)]? =I u:=by simpa using q3
     exact hk _ _<|aCM hi (by simp;omega) (λi x j c u a1 a2 a3=>Cv i x j c u a1 a2<|by simpa using a3) (by simpa using hys) hl hd i' x' j c u q1 q2 q3')
   exact h.keep g2 g1
def afa(h:St B β stk s a w){t:TypeId}{p:Operand}{id i o:Nat}{e:TypeId}{k:K}{xs:List (Tof k)}{ys:List AV}{vs:Value}(hp:RC w β (.ptr id (ks k) i o) (a.eval p))(hid:s.H id=I (.arr e k xs))
  (hys:vs.cells.size=ys.length)(DM:∀u∈vs.cells.toList,u.oneCell'=A1)(hy:ys.length=P.cellsOf t)(h1:1<=P.cellsOf t)(hl:o+ys.length<=ks k){y:Tof k}(hd:∀us0,RL (RC w β) (enc k<|xs.getD i<|dfl k) us0->RL (RC w β) (enc k y) (us0.take o++vs.cells.toList++us0.drop (o+vs.cells.toList.length))):
  ∃w',(Qt t (a.eval p) vs).run P w= .ok () w'/\St B β stk (s.ES id<|I<|.arr e k<|xs.set i y) a w':=by
 obtain⟨b',us,k1,hh,hsz,hce,Cv⟩:=h.hs.ER id _ hid;generalize hg:a.eval p=vp at hp;cases hp with
 | @ptr _ _ _ _ hdd n bb f hβ ha hi=>
  rw[k1]at hβ;cases hβ;cases ha;have hic:(i+1) * ks k<=xs.length * ks k:=E6 _ hi;rw[EP,OX]at hic;have Cf:=k8 (P:=P) (w:=w) (v:=vs) (o:=0+(i * ks k+o)) h1 (by rw[hys,hy]) hh J (.inl rfl) DM;refine⟨_,Cf, ?_⟩;obtain⟨g1,g2⟩:=h.hs.setRow (hpk:=Pk.setRow hh λ_ a' hu=>by
   have hus:us.toList.length=us.size:=F4;exact YO (ys:=vs.cells.toList) (by simp;omega) (by simpa using hu) λe1 _=>jx (f:=0) (xs:=xs) (λi x j c u a1 a2 a3=>Cv i x j c u a1 a2<|by simpa using a3) (λe2=>by subst e2;simp at hi) rfl hu) k1 rfl (us.toList.take (0+(i * ks k+o))++vs.cells.toList++us.toList.drop (0+(i * ks k+o)+vs.cells.size)).toArray (.arr e k<|xs.set i y) (λhk=>by
   have F6:(us.toList.take (0+(i * ks k+o))++vs.cells.toList++us.toList.drop (0+(i * ks k+o)+vs.cells.size)).toArray.size=us.size:=by
    simp only[Kn,Ar,DX,Dd,F4];omega
   refine⟨b',_,by simpa using k1,setRow_heap w b' us _ e _ hh,by rw[F6];simpa using hsz,by rw[F6];exact hce, ?_⟩;intro i' x' j c u q1 q2 q3;have q3':(us.toList.take (0+(i * ks k+o))++vs.cells.toList++us.toList.drop (0+(i * ks k+o)+vs.cells.toList.length))[0+(i' * ks k+j)]? =I u:=by simpa using q3
   exact hk _ _<|aCM hi (by simp;omega) (λi x j c u a1 a2 a3=>Cv i x j c u a1 a2<|by simpa using a3) (by simpa using hys) hl hd i' x' j c u q1 q2 q3')
  exact h.keep g2 g1
end
end Go.VS
namespace Go.VS
open Go
section
variable {P:Program} {B:Be} {β β':Beta} {H:Hp} {stk:List (Array Value)} {s:S} {a:Act} {w w':World}
structure JF (w:World) (H:Hp) (β β':Beta) (H':Hp) (ids:List Nat):Prop where
 imm:∀c v,GM c=A1->RC w β c v->RC w β' c v
 own:∀j v,j ∉ ids->RC w β (.own j) v->RC w β' (.own j) v
 ptr:∀j z i o v,j ∉ ids->RC w β (.ptr j z i o) v->RC w β' (.ptr j z i o) v
 fr:∀j v e fz k xs,j∈ids->H j=I (.row e fz k xs)->RC w β (.own j) v->RC w β' (.sl k xs) v
 row:∀j e fz k xs,j ∉ ids->H j=I (.row e fz k xs)->H' j=I (.row e fz k xs)
 arr:∀j e k xs,j ∉ ids->H j=I (.arr e k xs)->H' j=I (.arr e k xs)
 non:∀j,H j=U->H' j=U
def St.aDh(h:St B β stk s a w)(id:Nat):∃β',St B β' stk (s.freeze id) a w/\JF w s.H β β' (s.freeze id).H [id]:=by
 have gen:∀f:AV->AV,(∀c,GM c=A1->f c=c)->(∀j,j≠id->f (.own j)= .own j)->(∀j z i o,j≠id->f (.ptr j z i o)= .ptr j z i o)->(∀e fz k xs,s.H id=I (.row e fz k xs)->f (.own id)= .sl k xs)->
   (∀c g want x,f c= .gd g want x->∃y,c= .gd g want y)->∀β',Hs B β' (upd (λj=>CJ f<|s.H j) id U) w->Kf f w β w β'->s.freeze id={ s.map f with H:=upd (λj=>CJ f<|s.H j) id U } ->
   ∃β',St B β' stk (s.freeze id) a w/\JF w s.H β β' (s.freeze id).H [id]:=by
  intro f h1 h2 h3 h4 h5 β' h6 h7 h8;refine⟨β',by rw[h8];exact h.map h1 h5 h7 h6, ?_⟩;rw[h8];refine⟨λc v hc hv=>by have:=h7 c v hv;rwa[h1 c hc]at this,λj v hj hv=>by have:=h7 _ v hv;rwa[h2 j<|by simpa using hj]at this,
   λj z i o v hj hv=>by have:=h7 _ v hv;rwa[h3 j z i o<|by simpa using hj]at this,λj v e fz k xs hj hh hv=> ?_,λj e fz k xs hj hh=> ?_,λj e k xs hj hh=> ?_,λj hh=> ?_⟩
  .obtain rfl:j=id:=by simpa using hj
   have:=h7 _ v hv;rwa[h4 e fz k xs hh]at this
  .show upd (λj=>CJ f<|s.H j) id U j=_;rw[BE _ _<|by simpa using hj,hh];rfl
  .show upd (λj=>CJ f<|s.H j) id U j=_;rw[BE _ _<|by simpa using hj,hh];rfl
  .show upd (λj=>CJ f<|s.H j) id U j=_;by_cases e:j=id
   .subst e;rw[Bl]
   .rw[BE _ _ e,hh];rfl
 have kl:∀j,j≠id->Aj j id=A3:=λj hj=>by rw[← Ha,HU];exact hj
 cases hid:s.H id with
 | none=>
  obtain⟨β',h1,h2⟩:=h.hs.kill id;exact gen (kl1 id) (J4 id) (λj hj=>by simp[kl1,kl j hj]) (λj z i o hj=>by simp[kl1,kl j hj]) (λe fz k xs hh=>by rw[hid]at hh;cases hh) (PT id) β' h1 h2 (by simp only[S.freeze,hid];rfl)
 | some ob=>
  cases ob with
  | row e fz k xs=>
   obtain⟨β',h1,h2⟩:=h.hs.freeze hid;exact gen (fz1 id k xs) (oC id k xs) (λj hj=>by simp[fz1,kl j hj]) (λj z i o hj=>by simp[fz1,kl j hj]) (λe fz k xs hh=>by rw[hid]at hh;cases hh;simp[fz1]) (aC8 id k xs) β' h1 h2 (by simp only[S.freeze,hid];rfl)
  | box e cs=>
   obtain⟨β',h1,h2⟩:=h.hs.kill id;exact gen (kl1 id) (J4 id) (λj hj=>by simp[kl1,kl j hj]) (λj z i o hj=>by simp[kl1,kl j hj]) (λe fz k xs hh=>by rw[hid]at hh;cases hh) (PT id) β' h1 h2 (by simp only[S.freeze,hid];rfl)
  | arr e k xs=>
   obtain⟨β',h1,h2⟩:=h.hs.kill id;exact gen (kl1 id) (J4 id) (λj hj=>by simp[kl1,kl j hj]) (λj z i o hj=>by simp[kl1,kl j hj]) (λe fz k xs hh=>by rw[hid]at hh;cases hh) (PT id) β' h1 h2 (by simp only[S.freeze,hid];rfl)
def JF.nil:JF w H β β H []:=
 ⟨λ_ _ _ h=>h,λ_ _ _ h=>h,λ_ _ _ _ _ _ h=>h,λ_ _ _ _ _ _ h=>by simp at h,λ_ _ _ _ _ _ h=>h,λ_ _ _ _ _ h=>h,λ_ h=>h⟩
def JF.cons{β'':Beta}{H' H'':Hp}{i:Nat}{ids:List Nat}(h:JF w H β β' H' [i])(k:JF w H' β' β'' H'' ids):JF w H β β'' H'' (i::ids):=by
 refine⟨λc v hc hv=>k.imm c v hc<|h.imm c v hc hv,λj v hj hv=>k.own j v (λe=>hj<|by simp[e])<|h.own j v (λe=>hj (by simp at e;simp[e])) hv,
  λj z i o v hj hv=>k.ptr j z i o v (λe=>hj<|by simp[e])<|h.ptr j z i o v (λe=>hj (by simp at e;simp[e])) hv,λj v e fz kk xs hj hh hv=> ?_,
  λj e fz kk xs hj hh=>k.row j e fz kk xs (λe=>hj<|by simp[e])<|h.row j e fz kk xs (λe=>hj (by simp at e;simp[e])) hh,
  λj e kk xs hj hh=>k.arr j e kk xs (λe=>hj<|by simp[e])<|h.arr j e kk xs (λe=>hj (by simp at e;simp[e])) hh,λj hh=>k.non j<|h.non j hh⟩
 by_cases e1:j=i
 .exact k.imm _ _ rfl (h.fr j v e fz kk xs (by simp[e1]) hh hv)
 .have h1:j ∉ [i]:=by simpa using e1
  have h2:j∈ids:=by simpa[e1] using hj
  exact k.fr j v e fz kk xs h2 (h.row j e fz kk xs h1 hh)<|h.own j v h1 hv
def St.Le:∀(ids:List Nat) {s:S} {β:Beta},St B β stk s a w->∃β',St B β' stk (ids.foldl S.freeze s) a w/\JF w s.H β β' (ids.foldl S.freeze s).H ids
 | [],s,β,h=>⟨β,h,JF.nil⟩
 | i::ids,s,β,h=>by
  obtain⟨β1,h1,h2⟩:=h.aDh i;obtain⟨β2,h3,h4⟩:=St.Le ids h1;exact⟨β2,h3,h2.cons h4⟩
def Q(H:Hp)(w:World)(β:Beta)(c:AV)(u:Value):Prop:=(∀v,c= .lit v->RC w β c u)/\ ∀k l,CF H k c=I l->RC w β (.sl k l) u
def Q.lit{v u:Value}(h:Q H w β (.lit v) u):RC w β (.lit v) u:=h.1 v rfl
def aij:AV->Bool
 | .lit _=>A1
 | _=>A3
def Q.all{cs:List AV}{us:List Value}(hl:RL (Q H w β) cs us)(h:cs.all aij=A1):RL (RC w β) cs us:=by
 refine⟨hl.1,λj c u h1 h2=> ?_⟩;have h3:=Cr.1 h c<|Cg h1;cases c<;>first|cases h3|skip
 exact(hl.2 j _ u h1 h2).lit
def atf{k:K}{cs:List AV}{x:Tof k}(h:dec H k cs=I x){us:List Value}(hl:RL (Q H w β) cs us):RL (RC w β) (enc k x) us:=by
 unfold dec at h;split at h<;>try (cases h;done)
 all_goals try (cases h;exact Q.all hl rfl)
 .rename_i x';cases hx:CF H K.mixed x' with
  | none=>rw[hx]at h;cases h
  | some l=>
   rw[hx]at h;cases h;obtain⟨u1,_,rfl,g1,hl⟩:=hl.C6;obtain⟨u2,_,rfl,g2,hl⟩:=hl.C6;obtain⟨u3,_,rfl,g3,hl⟩:=hl.C6;obtain⟨u4,_,rfl,g4,hl⟩:=hl.C6;obtain⟨u5,_,rfl,g5,hl⟩:=hl.C6;obtain⟨u6,_,rfl,g6,hl⟩:=hl.C6;rw[hl.of_nil];exact .cons g1.lit (.cons g2.lit<|.cons g3.lit<|.cons g4.lit<|.cons g5.lit<|.cons (g6.2 _ _ hx) .nil)
 .rename_i x' y' z';cases hx:CF H K.note x' with
  | none=>rw[hx]at h;cases h
  | some l=>
   cases hy:CF H K.mark y' with
   | none=>rw[hx,hy]at h;cases h
   | some m=>
    cases hz:CF H K.note z' with
    | none=>rw[hx,hy,hz]at h;cases h
    | some n=>
     rw[hx,hy,hz]at h;cases h;obtain⟨u1,_,rfl,g1,hl⟩:=hl.C6;obtain⟨u2,_,rfl,g2,hl⟩:=hl.C6;obtain⟨u3,_,rfl,g3,hl⟩:=hl.C6;obtain⟨u4,_,rfl,g4,hl⟩:=hl.C6;obtain⟨u5,_,rfl,g5,hl⟩:=hl.C6;obtain⟨u6,_,rfl,g6,hl⟩:=hl.C6;rw[hl.of_nil];exact .cons g1.lit (.cons g2.lit<|.cons g3.lit<|.cons (g4.2 _ _ hx)<|.cons (g5.2 _ _ hy)<|.cons (g6.2 _ _ hz) .nil)
 .rename_i x';cases hx:CF H K.half x' with
  | none=>rw[hx]at h;cases h
  | some l=>
   rw[hx]at h;cases h;obtain⟨u1,_,rfl,g1,hl⟩:=hl.C6;obtain⟨u2,_,rfl,g2,hl⟩:=hl.C6;obtain⟨u3,_,rfl,g3,hl⟩:=hl.C6;obtain⟨u4,_,rfl,g4,hl⟩:=hl.C6;obtain⟨u5,_,rfl,g5,hl⟩:=hl.C6;rw[hl.of_nil];exact .cons g1.lit<|.cons g2.lit<|.cons g3.lit<|.cons g4.lit<|.cons (g5.2 _ _ hx) .nil
def JF.Q{β0:Beta}{H':Hp}{ids:List Nat}(h:JF w H β0 β H' ids){c:AV}{u:Value}(hc:∀j,c= .own j->j∈ids)(hx:RC w β0 c u):VS.Q H w β c u:=by
 refine⟨λv e=>by subst e;exact h.imm _ _ rfl hx,λk l hl=> ?_⟩;unfold CF at hl;split at hl
 .obtain⟨e,rfl⟩:=Ht hl;subst e;exact h.imm _ _ rfl hx
 .cases hl;rw[hx.No];exact .nil
 .rename_i id _;split at hl
  .rename_i e fz k' xs hid;obtain⟨ek,rfl⟩:=Ht hl;subst ek;exact h.fr _ u e fz k' xs (hc _ rfl) hid hx
  .cases hl
 .cases hl
def acM{H:Hp}{β:Beta}{k:K}{x0 y:Tof k}{o:Nat}{ys:List AV}{vs us0:List Value}(hd:dec H k (H4 (enc k x0) o ys)=I y)(h0:RL (RC w β) (enc k x0) us0)(hy:RL (VS.Q H w β) ys vs):
  RL (RC w β) (enc k y) (us0.take o++vs++us0.drop (o+vs.length)):=by
 have h1:RL (VS.Q H w β) (enc k x0) us0:=by
  refine⟨h0.1,λj c u a1 a2=> ?_⟩;have hr:=h0.2 j c u a1 a2;have hn:=IE k x0 a1;refine⟨λv e=>by subst e;exact hr,λk' l hl=> ?_⟩;unfold CF at hl;split at hl
  .obtain⟨e,rfl⟩:=Ht hl;subst e;exact hr
  .cases hl;rw[hr.No];exact .nil
  .cases hn
  .cases hl
 refine atf hd ?_;unfold H4;rw[← hy.1];exact((h1.take o).append hy).append<|h1.drop _
def awB(hP:P=B.P)(h:St B β stk s a w){t:TypeId}{p x:Operand}{s':S}(hs:Ic P t s (s.ev p) (s.ev x)=I s'):
  ∃w' β',(Qt t (a.eval p)<|a.eval x).run P w= .ok () w'/\St B β' stk s' a w':=by
 generalize hp:s.ev p=cp at hs;unfold Ic at hs;split at hs
 .rename_i id z i o;have hpx:=h.eval p;rw[hp]at hpx;have hpr:RC w β (.ptr id z i o) (a.eval p):=hpx;split at hs
  .rename_i e cs hid;split at hs
   .cases hc:GD (s.ev x) with
    | none=>rw[hc]at hs;cases hs
    | some ys=>
     rw[hc]at hs;simp only[A9]at hs;split at hs
     .rename_i hb;simp only[AI]at hb;cases hs;exact ajf hP h hp hid hc (Bn hb.1.1) (DQ hb.1.2) (aAy hb.2).1 (aAy hb.2).2
     .cases hs
   .cases hs
  .rename_i e fz k xs hid;cases hc:GD (s.ev x) with
   | none=>rw[hc]at hs;cases hs
   | some ys=>
    rw[hc]at hs;simp only[A9]at hs;split at hs
    .rename_i hb;simp only[AI,DR]at hb;obtain⟨⟨⟨⟨b1,b2⟩,b3⟩,b4⟩,b5⟩:=hb;obtain rfl:=Bn b4;have hni:=zd b5;cases hd:dec s.H k (H4 (enc k<|xs.getD i<|dfl k) o ys) with
     | none=>rw[hd]at hs;cases hs
     | some y=>
      rw[hd]at hs;simp only[A9,Bv]at hs;subst hs;obtain⟨β',h1,h2⟩:=St.Le (ys.filterMap Gm) h;have hr:=QS hc<|h.eval x;have hrQ:RL (VS.Q s.H w β') ys (a.eval x).cells.toList:=⟨hr.1,λj c u g1 g2=>h2.Q (λj' e'=>by
       subst e';exact GZ.2 ⟨_,Cg g1,rfl⟩) (hr.2 j c u g1 g2)⟩
      obtain⟨w',g1,g2⟩:=afi (P:=P) (t:=t) (p:=p) h1 (h2.ptr _ _ _ _ _ hni hpr) (h2.row _ _ _ _ _ hni hid) (by have:=hr.1;simpa using this) hr.one (Bn b1) (DQ b2) (DQ b3)
       (λus0 h0=>acM hd h0 hrQ)
      exact⟨w',β',g1,g2⟩
    .cases hs
  .rename_i e k xs hid;cases hc:GD (s.ev x) with
   | none=>rw[hc]at hs;cases hs
   | some ys=>
    rw[hc]at hs;simp only[A9]at hs;split at hs
    .rename_i hb;simp only[AI]at hb;obtain⟨⟨⟨b1,b2⟩,b3⟩,b4⟩:=hb;obtain rfl:=Bn b4;cases hd:dec (λ_=>U) k (H4 (enc k<|xs.getD i<|dfl k) o ys) with
     | none=>rw[hd]at hs;cases hs
     | some y=>
      rw[hd]at hs;simp only[A9,Bv]at hs;subst hs;have hr:=QS hc<|h.eval x;have hrQ:RL (VS.Q (λ_=>U) w β) ys (a.eval x).cells.toList:=⟨hr.1,λj c u g1 g2=>by
       have hx:=hr.2 j c u g1 g2;refine⟨λv e=>by subst e;exact hx,λk' l hl=> ?_⟩;unfold CF at hl;split at hl
       .obtain⟨e,rfl⟩:=Ht hl;subst e;exact hx
       .cases hl;rw[hx.No];exact .nil
       .cases hl
       .cases hl⟩
      obtain⟨w',g1,g2⟩:=afa (P:=P) (t:=t) (p:=p) h hpr hid (by have:=hr.1;simpa using this) hr.one (Bn b1) (DQ b2) (DQ b3)
       (λus0 h0=>acM hd h0 hrQ)
      exact⟨w',β,g1,g2⟩
    .cases hs
  .cases hs
 .cases hs
end
end Go.VS
namespace Go.VS
open Go
section
variable {P:Program} {B:Be} {β β':Beta} {H:Hp} {stk:List (Array Value)} {s:S} {a:Act} {w w':World}
structure Src (P:Program) (w:World) (β:Beta) (k:K) (ys:List (Tof k)) (v:Value) (news:List Value):Prop where
 len:∀w',(nM v).run P w'= .ok ys.length w'
 cells:∀w',w'.heap=w.heap->(IF (ks k) ys.length v).run P w'= .ok news.toArray w'
 rel:RL (RC w β) (ys.flatMap<|enc k) news
 oJ:∀n,n<=ys.length->(IF (ks k) n v).run P w= .ok (news.take<|n * ks k).toArray w
def agf{w w':World}(h:w'.heap=w.heap)(a:Addr):w'.cell? a=w.cell? a:=by simp only[Lw,h]
def M4.cellsOf{k:K}{xs:List (Tof k)}{v:Value}(h:M4 w β k xs v):(∃a cap,xs=[]/\v= .slice a 0 cap)\/ ∃b f cap,∃us:List Value,v= .slice (I ⟨b,f,U⟩) xs.length cap/\xs.length<=cap/\RL (RC w β) (xs.flatMap<|enc k) us/\ ∀(j:Nat) (u:Value),us[j]? =I u->w.cell? ⟨b,f+j,U⟩=I u:=by
 obtain⟨rfl,a,cap,rfl⟩|⟨b,f,cap,u,rfl,hc,hu,hr⟩:=h
 .exact .inl ⟨a,cap,rfl,rfl⟩
 .have hk:=Hc k;refine .inr ⟨b,f,cap,(BN<|xs.length * ks k).map λq=>u (q / ks k)<|q % ks k,rfl,hc,⟨by rw[KD,EM,List.length_range],λj c v h1 h2=> ?_⟩,λj v h2=> ?_⟩
  .simp only[DE,DL]at h2;obtain⟨q,hq,rfl⟩:=h2;have hlt:j<xs.length * ks k:=by have:=(BP.1 hq).1;simpa using this
   rw[Gd hlt]at hq;cases hq;have hi:j / ks k<xs.length:=by rw[aab hk];exact hlt
   have hm:j % ks k<ks k:=PB _ hk;have hx:xs[j / ks k]? =I xs[j / ks k]:=by simp[hi]
   refine hr _ _ _ _ hx ?_;rw[← fh hx hm,Nat.mul_comm,Nat.div_add_mod];exact h1
  .simp only[DE,DL]at h2;obtain⟨q,hq,rfl⟩:=h2;have hlt:j<xs.length * ks k:=by have:=(BP.1 hq).1;simpa using this
   rw[Gd hlt]at hq;cases hq;have hi:j / ks k<xs.length:=by rw[aab hk];exact hlt
   have hm:j % ks k<ks k:=PB _ hk;have:=hu _ _ hi hm;rw[Nat.mul_comm,Nat.div_add_mod]at this;exact this
def zG(hH:Hs B β H w){k:K}{c:AV}{v:Value}{ys:List (Tof k)}(h:KH H k c=I ys)(hx:R2 w β c v):∃news,Src P w β k ys v news:=by
 unfold KH at h;split at h
 .rename_i s;split at h
  .cases h;have hv:v= .string s:=hx;subst hv;have hlen:(BA s).length=s.size:=by rw[BA,EM,F4];rfl
   refine⟨s.data.toList.map λb=>Value.int .u8 b.toNat,λw'=>by rw[hlen];rfl,λw' _=> ?_, ?_,λn hn=> ?_⟩
   .rw[hlen];simp only[IF,Fl];congr 1;apply Array.ext';have:(s.extract 0 s.size).data=s.data:=by
     simp only[fN];rw[show s.size=s.data.size from rfl,Array.extract_size]
    rw[this];simp
   .refine⟨by rw[KD,hlen,EM,F4];simp[ks],λj c u h1 h2=> ?_⟩;simp only[DE,DL]at h2;obtain⟨y,hy,rfl⟩:=h2;have hx:(BA s)[j]? =I (y.toNat:Int):=by simp[BA,hy]
    have:=fh (k:= .u8) hx (j:=0) (by decide);rw[show j * ks .u8+0=j by simp[ks],h1]at this;cases this;exact .lit rfl
   .simp only[IF,Fl];congr 1;apply Array.ext';simp[fN,ks]
  .cases h
 .rcases(abX hH h hx).cellsOf with⟨a,cap,rfl,rfl⟩|⟨b,f,cap,us,rfl,hc,hr,hu⟩
  .refine⟨[],λw'=>rfl,λw' _=> ?_, ?_,λn hn=> ?_⟩
   .cases a with
    | none=>rfl
    | some a=>simp[IF,loadCells,loadCellsFrom]
   .exact RL.nil
   .obtain rfl:n=0:=by simpa using hn
    cases a with
    | none=>simp[IF]
    | some a=>simp[IF,loadCells,loadCellsFrom]
  .refine⟨us,λw'=>rfl,λw' hw=> ?_,hr,λn hn=> ?_⟩;have hl:us.length=ys.length * ks k:=by rw[hr.1,KD]
   exact run_firstCells_some w' (ks k) _ ⟨b,f,U⟩ _ cap us hl (λj u hj=>by rw[Gs,agf hw];exact hu j u hj);have hl:us.length=ys.length * ks k:=by rw[hr.1,KD]
   have hle:n * ks k<=ys.length * ks k:=E6 _ hn;exact run_firstCells_some w (ks k) n ⟨b,f,U⟩ _ cap (us.take<|n * ks k) (by simp;omega) (λj u hj=>by
    rw[Gs];rw[Gu]at hj;split at hj
    .exact hu j u hj
    .cases hj)
def mG{t u ty e:TypeId}{d:TypeDesc}{i:TypeInfo}(ht:P.underlying t=I (.slice e))(hu:P.underlying u=I d)(hd:d= .string\/ ∃e',d= .slice e')(hi:P.info? e=I i){base:Option Addr}{sLen sCap n:Nat}{v:Value}{news:List Value}
  (hl:∀w',(nM v).run P w'= .ok n w')(hf:∀w',w'.heap=w.heap->(IF i.size n v).run P w'= .ok news.toArray w')(hn:sLen+n<=sCap){w':World}
  (hst:∀a,base=I a->(storeCells (a.add<|sLen * i.size) news).run P w= .ok () w')(hno:base=U->w'=w):
  (MJ #[t,u] ty #[.slice base sLen sCap,v]).run P w= .ok (.slice base (sLen+n) sCap) w':=by
 have h1:=hl w;have h2:=hf w rfl;cases base with
 | none=>
  obtain rfl:=hno rfl;obtain rfl|⟨e',rfl⟩:=hd<;>simp[MJ,run_underlying ht,run_underlying hu,sizeOf,typeInfo,hi,h1,hn,h2]
 | some a=>
  have h3:=hst a rfl;obtain rfl|⟨e',rfl⟩:=hd<;>simp[MJ,run_underlying ht,run_underlying hu,sizeOf,typeInfo,hi,h1,hn,h2,h3]
def aAD{t u ty e:TypeId}{d:TypeDesc}{i:TypeInfo}{z:Value}(ht:P.underlying t=I (.slice e))(hu:P.underlying u=I d)(hd:d= .string\/ ∃e',d= .slice e')(hi:P.info? e=I i)(hz:i.zero=I z){base:Option Addr}{sLen sCap n:Nat}{v:Value}{news olds:List Value}
  (hl:∀w',(nM v).run P w'= .ok n w')(hf:∀w',w'.heap=w.heap->(IF i.size n v).run P w'= .ok news.toArray w')(hn:sCap<sLen+n)(h63:((sLen+n:Nat):Int)<=9223372036854775807)(Jc:su (sLen+n) sCap * i.bytes<=281474976710656)
  (ho:(IF i.size sLen<|.slice base sLen sCap).run P w.drew= .ok olds.toArray w.drew):
  (MJ #[t,u] ty #[.slice base sLen sCap,v]).run P w= .ok (.slice (I ⟨w.heap.size,0,U⟩) (sLen+n)<|grownCap w (sLen+n) sCap e)
    (w.drew.alloc<|.cells (olds.toArray++news.toArray++ML z.cells (grownCap w (sLen+n) sCap e - (sLen+n))) e):=by
 have hn':¬(sLen+n<=sCap):=J
 have apE:¬(9223372036854775807<((sLen:Int)+(n:Int))):=J
 have ajo:¬(281474976710656<su (sLen+n) sCap * i.bytes):=J
 have h1:=hl w;have h2:=hf w.drew rfl;obtain rfl|⟨e',rfl⟩:=hd<;>(simp[MJ,run_underlying ht,run_underlying hu,sizeOf,typeInfo,zeroValue,hi,hz,h1,hn',apE,ajo,Question.forced,h2,ho,newRow,grownCap];try (congr 2;apply Array.ext';simp[C7]))
def Hs.bS(h:Hs B β H w){id:Nat}{hd0:Value}{n0:Nat}(hβ:β id=I (hd0,n0))(ob:Ob)(hd:Value)(n:Nat)
  (hos:w'.os=w.os)(KG:w'.tape=w.tape)(Ew:w'.output=w.output)(F6:w.heap.size<=w'.heap.size)
  (hold:∀j,j<w.heap.size->(∀a,adr hd0=I a->j≠a.block)->w'.heap[j]? =w.heap[j]?)
  (ha:∀a,adr hd=I a->(∃a0,adr hd0=I a0/\a0.block=a.block)\/(w.heap.size<=a.block/\a.block<w'.heap.size))
  (hob:∀β',β' id=I (hd,n)->Kf (kl1 id) w β w' β'->E9 B.P w' β' id ob)(hpk:Pk B.P w w'):
  ∃β',Hs B β' (upd (λj=>CJ (kl1 id)<|H j) id<|I ob) w'/\Kf (kl1 id) w β w' β'/\β' id=I (hd,n):=by
 have hM:∀b,MB (β.up id<|I (hd,n)) b->MB β b\/w.heap.size<=b:=by
  rintro b ⟨j,hd',n',a',hj,ha',hb⟩;by_cases e:j=id
  .subst e;rw[Beta.Tm]at hj;cases hj;rcases ha a' ha' with⟨a0,h1,h2⟩|h1
   .exact .inl ⟨j,hd0,n0,a0,hβ,h1,h2.trans hb⟩
   .exact .inr (hb▸h1.1)
  .rw[Beta.O5 _ _ e]at hj;exact .inl ⟨j,hd',n',a',hj,ha',hb⟩
 have hk:Kf (kl1 id) w β w' (β.up id<|I (hd,n)):=Kf.kill (λj e=>BE _ _ e)
  (λb o v hb hc=>by
   rw[UO (w:=w) (w':=w')<|hold b (Um w _ hc) λa0 h0 e=>hb<|.inl ⟨id,hd0,n0,a0,hβ,h0,e.symm⟩];exact hc)
  (λb hb hlt hm=>by
   obtain hm|hm:=hm
   .rcases hM b hm with h1|h1
    .exact hb (.inl h1)
    .omega
   .exact hb<|.inr hm)
 refine⟨β.up id<|I (hd,n), ?_,hk,Bl _ _ _⟩;refine h.Tl (J4 id) hk (λj e=>BE _ _ e)
  (.inr ⟨ob,hd,n,rfl,Bl _ _ _,hob _ (Bl _ _ _) hk,λa h2=> ?_⟩)
  (λj p a e hj h2=>hold _ (h.old _ ⟨j,p.1,p.2,a,hj,h2,rfl⟩).2 λa0 h0 e'=>e<|h.inj _ _ _ _ _ _ hj hβ h2 h0 e') hos KG Ew F6 (λb hb hO=>hold b (Gw hb h.size) λa0 h0 e=> ?_) rfl hpk
 .rcases ha a h2 with⟨a0,h3,h4⟩|h3
  .exact .inl ⟨_,a0,hβ,h3,h4⟩
  .exact .inr h3
 .rcases(h.old a0.block ⟨id,hd0,n0,a0,hβ,h0,rfl⟩).1 with h3|h3
  .exact hO (e▸h3)
  .omega
def aEL{ZK cap bytes:Nat}(h:cap<ZK)(hn:ZK<=4294967296)(hb:bytes<=256):su ZK cap * bytes<=281474976710656:=by
 refine growslice_fits h ?_;have:ZK * bytes<=4294967296 * 256:=lH hn hb;omega
def xX(z:Array Value)(n:Nat):(ML z n).size=n * z.size:=by simp[ML]
def ax2(hP:P=B.P)(hH:Hs B β H w){b:Nat}(hb:H b=U){t u ty e:TypeId}{k:K}{d:TypeDesc}{v:Value}{ys:List (Tof k)}{news:List Value}(ht:P.underlying t=I (.slice e))(hu:P.underlying u=I d)(hd:d= .string\/ ∃e',d= .slice e')
  (hz:zok P e k=A1)(hc:P.cellsOf e=ks k)(hby:P.bytesOf e<=256)(hs:Src P w β k ys v news)(hr:ys.length<=4294967296):
  ∃u' w' β',(MJ #[t,u] ty #[.slice U 0 0,v]).run P w= .ok u' w'/\Hs B β' (upd H b<|I<|.row e A3 k ys) w'/\Kp w β w' β'/\RC w' β' (.own b) u':=by
 obtain⟨i,z,hi,hz',hzs,_⟩:=dt hz;rw[Tv hi]at hc;rw[iF hi]at hby;by_cases h0:ys=[]
 .subst h0;have Cf:=mG (P:=P) (w:=w) (ty:=ty) (base:=U) (sLen:=0) (sCap:=0) (n:=0) (v:=v) (news:=news) (w':=w) ht hu hd hi hs.len (by rw[hc];exact hs.cells) J (λa h=>by cases h) (λ_=>rfl);obtain⟨β',h1,h2,h3⟩:=hH.grow (w':=w) hb (.row e A3 k []) (.slice U 0 0) 0 rfl rfl rfl (As _) (λ_ _=>rfl) (λa h=>by cases h) (λβ' hβ hk=>⟨_,hβ,.inl ⟨rfl,rfl⟩⟩);exact⟨_,_,β',Cf,h1,h2,.own h3 rfl⟩
 .have gS:0<ys.length:=by cases ys with
   | nil=>exact absurd rfl h0
   | cons y l=>simp
  have Cf:=aAD (P:=P) (w:=w) (ty:=ty) (base:=U) (sLen:=0) (sCap:=0) (n:=ys.length) (v:=v) (news:=news) (olds:=[]) ht hu hd hi hz' hs.len (by rw[hc];exact hs.cells) J J (aEL J J hby) (by simp[IF]);have hn:news.length=ys.length * ks k:=by rw[hs.rel.1,KD]
  rw[DJ]at Cf;have hge:=grownCap_ge w ys.length 0 e;have hm:=grownCap_le_maxLen w ys.length 0 e (CB hr<|by decide);have hob:∀β',β' b=I (pZ (I ⟨w.heap.size,0,U⟩) ys.length<|grownCap w ys.length 0 e,ys.length)->Kp w β (w.drew.alloc<|.cells (([]:List Value).toArray++news.toArray++ML z.cells (grownCap w ys.length 0 e - ys.length)) e) β'->
    E9 B.P (w.drew.alloc<|.cells (([]:List Value).toArray++news.toArray++ML z.cells (grownCap w ys.length 0 e - ys.length)) e) β' b (.row e A3 k ys):=by
   intro β' hβ hk;refine⟨_,hβ,.inr ⟨w.heap.size,0,_,_,_,rfl,heap_alloc_new w.drew _,rfl,hge,hm, ?_,λi x j c u a1 a2 a3=> ?_⟩⟩
   .simp only[Pz,xX,hzs,Kn,hn,C2];rw[cZ];have:ys.length * ks k<=grownCap w ys.length 0 e * ks k:=E6 _ hge;omega
   .have hj:j<ks k:=by rw[← EH k x];exact(BP.1 a2).1
    have hi':i<ys.length:=(BP.1 a1).1;have hlt:i * ks k+j<news.length:=by rw[hn];exact N1 hi' hj
    refine hk _ _<|QL hs.rel i x j c u a1 a2 ?_;rw[MQ (by simp;omega)]at a3;simpa using a3
  obtain⟨β',h1,h2,h3⟩:=hH.grow (w':=w.drew.alloc<|.cells (([]:List Value).toArray++news.toArray++ML z.cells (grownCap w ys.length 0 e - ys.length)) e) hb (.row e A3 k ys) (.slice (I ⟨w.heap.size,0,U⟩) ys.length<|grownCap w ys.length 0 e) ys.length rfl rfl rfl (by simp)
   (λj hj=>heap_alloc_old w.drew _ hj) (λa ha=>by cases ha;simp) hob
  exact⟨_,_,β',Cf,h1,h2,.own h3 rfl⟩
def aoP(hP:P=B.P)(hH:Hs B β H w){id:Nat}{t u ty e:TypeId}{k:K}{d:TypeDesc}{v hd:Value}{xs ys:List (Tof k)}{news:List Value}(hid:H id=I (.row e A3 k xs))(hb:RC w β (.own id) hd)
  (ht:P.underlying t=I (.slice e))(hu:P.underlying u=I d)(hd':d= .string\/ ∃e',d= .slice e')
  (hz:zok P e k=A1)(hc:P.cellsOf e=ks k)(hby:P.bytesOf e<=256)(hs:Src P w β k ys v news)(hr:xs.length+ys.length<=4294967296):
  ∃u' w' β',(MJ #[t,u] ty #[hd,v]).run P w= .ok u' w'/\Hs B β' (upd (λj=>CJ (kl1 id)<|H j) id<|I<|.row e A3 k<|xs++ys) w'/\Kf (kl1 id) w β w' β'/\RC w' β' (.own id) u':=by
 obtain⟨i,z,hi,hz',hzs,_⟩:=dt hz;rw[Tv hi]at hc;rw[iF hi]at hby;obtain⟨hd0,k1,k2⟩:=hH.ER id _ hid;cases hb with
 | own k3 k4=>
 rw[k1]at k3;cases k3;have hn:news.length=ys.length * ks k:=by rw[hs.rel.1,KD]
 have hkp:=Hc k;have grow:∀(base:Option Addr) (cap:Nat) (olds:List Value),hd= .slice base xs.length cap->cap<xs.length+ys.length->RL (RC w β) (xs.flatMap<|enc k) olds->
   (IF i.size xs.length<|.slice base xs.length cap).run P w.drew= .ok olds.toArray w.drew->
   ∃u' w' β',(MJ #[t,u] ty #[hd,v]).run P w= .ok u' w'/\Hs B β' (upd (λj=>CJ (kl1 id)<|H j) id<|I<|.row e A3 k<|xs++ys) w'/\Kf (kl1 id) w β w' β'/\RC w' β' (.own id) u':=by
  intro base cap olds he Hg hold hfc;have Cf:=aAD (P:=P) (w:=w) (ty:=ty) (base:=base) (sLen:=xs.length) (sCap:=cap) (n:=ys.length) (v:=v) (news:=news) (olds:=olds) ht hu hd' hi hz' hs.len (by rw[hc];exact hs.cells) Hg J (aEL Hg hr hby) hfc;have hge:=grownCap_ge w (xs.length+ys.length) cap e;have hm:=grownCap_le_maxLen w (xs.length+ys.length) cap e (CB hr<|by decide);have ho:olds.length=xs.length * ks k:=by rw[hold.1,KD]
  have F3:RL (RC w β) ((xs++ys).flatMap<|enc k) (olds++news):=by rw[qB];exact hold.append hs.rel
  have hob:∀β',β' id=I (pZ (I ⟨w.heap.size,0,U⟩) (xs.length+ys.length)<|grownCap w (xs.length+ys.length) cap e,xs.length+ys.length)->Kf (kl1 id) w β (w.drew.alloc<|.cells (olds.toArray++news.toArray++ML z.cells (grownCap w (xs.length+ys.length) cap e - (xs.length+ys.length))) e) β'->
    E9 B.P (w.drew.alloc<|.cells (olds.toArray++news.toArray++ML z.cells (grownCap w (xs.length+ys.length) cap e - (xs.length+ys.length))) e) β' id (.row e A3 k<|xs++ys):=by
   intro β' hβ hk;refine⟨_,by rw[hβ,Ar],.inr ⟨w.heap.size,0,_,_,_,by rw[Ar],heap_alloc_new w.drew _,rfl,by rw[Ar];exact hge,hm, ?_,λi x j c u a1 a2 a3=> ?_⟩⟩
   .simp only[Pz,xX,hzs,Kn,hn,ho];rw[cZ];have h1:(xs.length+ys.length) * ks k<=grownCap w (xs.length+ys.length) cap e * ks k:=E6 _ hge;rw[EP]at h1 ⊢;omega
   .have hj:j<ks k:=by rw[← EH k x];exact(BP.1 a2).1
    have hi':i<xs.length+ys.length:=by have:=(BP.1 a1).1;simpa using this
    have hlt:i * ks k+j<(xs.length+ys.length) * ks k:=N1 hi' hj;rw[EP]at hlt;have h2:=hk _ _ (QL F3 i x j c u a1 a2 (by
     rw[MQ (by simp;omega)]at a3;simpa using a3))
    rwa[J4 id c<|IE k x a2]at h2
  obtain⟨β',h1,h2,h3⟩:=hH.bS (hpk:=Pk.old λj hj=>by first|exact heap_alloc_old w.drew _ hj|exact heap_alloc_old w.drew _ _ hj) (w':=w.drew.alloc<|.cells (olds.toArray++news.toArray++ML z.cells (grownCap w (xs.length+ys.length) cap e - (xs.length+ys.length))) e) k1 (.row e A3 k<|xs++ys) (.slice (I ⟨w.heap.size,0,U⟩) (xs.length+ys.length)<|grownCap w (xs.length+ys.length) cap e) (xs.length+ys.length) rfl rfl rfl (by simp)
   (λj hj _=>heap_alloc_old w.drew _ hj) (λa ha=>by cases ha;right;simp) hob
  exact⟨_,_,β',by rw[he];exact Cf,h1,h2,.own h3 rfl⟩
 obtain⟨rfl,rfl⟩|⟨b,f,cap,us,fr,rfl,hh,hfr,hnc,hcm,hsz,Cv⟩:=k2
 .by_cases h0:ys=[]
  .subst h0;have Cf:=mG (P:=P) (w:=w) (ty:=ty) (base:=U) (sLen:=0) (sCap:=0) (n:=0) (v:=v) (news:=news) (w':=w) ht hu hd' hi hs.len (by rw[hc];exact hs.cells) J (λa h=>by cases h) (λ_=>rfl);obtain⟨β',h1,h2,h3⟩:=hH.bS (hpk:=Pk.refl _ _) (w':=w) k1 (.row e A3 k<|[]++[]) (.slice U 0 0) 0 rfl rfl rfl (As _) (λ_ _ _=>rfl) (λa h=>by cases h) (λβ' hβ hk=>⟨_,hβ,.inl ⟨rfl,rfl⟩⟩);exact⟨_,_,β',Cf,h1,h2,.own h3 rfl⟩
  .have gS:0<ys.length:=by cases ys with
    | nil=>exact absurd rfl h0
    | cons y l=>simp
   exact grow U 0 [] rfl (by simp;omega) RL.nil (by simp[IF])
 .have hsl:M4 w β k xs (.slice (I ⟨b,f,U⟩) xs.length cap):=FP.cells (e:=e) (fz:=false)<|.inr ⟨b,f,cap,us,fr,rfl,hh,hfr,hnc,hcm,hsz,Cv⟩;by_cases Jc:xs.length+ys.length<=cap
  .have Hg:(xs.length+ys.length) * ks k<=cap * ks k:=E6 _ Jc;rw[EP]at Hg;have DM:∀u∈news,u.oneCell'=A1:=hs.rel.one;have hst:=aV (P:=P) b (f+xs.length * ks k) e fr news 0 us w hh (by rw[hn];omega) (.inl (by rw[hfr];rfl)) DM;simp only[Hn]at hst;have Cf:=mG (P:=P) (w:=w) (ty:=ty) (base:=I ⟨b,f,U⟩) (sLen:=xs.length) (sCap:=cap) (n:=ys.length) (v:=v) (news:=news) ht hu hd' hi hs.len (by rw[hc];exact hs.cells) Jc
    (λa h=>by cases h;rw[hc,Gs];exact hst) (λh=>by cases h)
   have hob:∀β',β' id=I (pZ (I ⟨b,f,U⟩) (xs.length+ys.length) cap,xs.length+ys.length)->Kf (kl1 id) w β (w.setRow b (us.toList.take (f+xs.length * ks k)++news++us.toList.drop (f+xs.length * ks k+news.length)).toArray) β'->
     E9 B.P (w.setRow b (us.toList.take (f+xs.length * ks k)++news++us.toList.drop (f+xs.length * ks k+news.length)).toArray) β' id (.row e A3 k<|xs++ys):=by
    intro β' hβ hk;have F6:(us.toList.take (f+xs.length * ks k)++news++us.toList.drop (f+xs.length * ks k+news.length)).toArray.size=us.size:=by
     simp only[Kn,Ar,DX,Dd,F4];omega
    refine⟨_,by rw[hβ,Ar],.inr ⟨b,f,cap,_,fr,by rw[Ar],setRow_heap w b us _ e _ hh,by rw[hfr];rfl,by rw[Ar];exact Jc,hcm,by rw[F6];exact hsz,λi x j c u a1 a2 a3=> ?_⟩⟩;have hj:j<ks k:=by rw[← EH k x];exact(BP.1 a2).1
    have hi':i<xs.length+ys.length:=by have:=(BP.1 a1).1;simpa using this
    have a3':(us.toList.take (f+xs.length * ks k)++news++us.toList.drop (f+xs.length * ks k+news.length))[f+(i * ks k+j)]? =I u:=by simpa using a3
    have hsp:f+xs.length * ks k+news.length<=us.toList.length   :=by
     have:us.toList.length=us.size:=F4;rw[hn];omega
    rw[Xf _ _ _ hsp]at a3';have h2:RC w β c u:=by
     by_cases hx:i<xs.length
     .have h3:=N1 hx hj;rw[AB J]at a3';rw[G0 hx]at a1;exact Cv i x j c u a1 a2 (by simpa using a3')
     .have h3:xs.length * ks k<=i * ks k:=E6 _ J;have h4:i * ks k+j<(xs.length+ys.length) * ks k:=N1 hi' hj;rw[EP]at h4;rw[A8 J]at a3';rw[EC J]at a1;refine QL hs.rel (i - xs.length) x j c u a1 a2 ?_;rw[← a3',cZ];congr 1;omega
    have h5:=hk _ _ h2;rwa[J4 id c<|IE k x a2]at h5
   obtain⟨β',h1,h2,h3⟩:=hH.bS (hpk:=Pk.setRow hh λhn=>by rw[← hP,aoz hz]at hn;cases hn) (w':=w.setRow b (us.toList.take (f+xs.length * ks k)++news++us.toList.drop (f+xs.length * ks k+news.length)).toArray) k1 (.row e A3 k<|xs++ys) (.slice (I ⟨b,f,U⟩) (xs.length+ys.length) cap) (xs.length+ys.length) rfl rfl rfl (by simp)
    (λj hj hne=>setRow_other w b j _ λe=>hne _ rfl e) (λa ha=>by cases ha;exact .inl ⟨_,rfl,rfl⟩) hob
   exact⟨_,_,β',Cf,h1,h2,.own h3 rfl⟩
  .rcases hsl.cellsOf with⟨a,bo,rfl,he⟩|⟨b',f',bo,us',he,_,GO,hcl⟩
   .cases he;exact grow (I ⟨b,f,U⟩) cap [] rfl J RL.nil (by simp[IF,loadCells,loadCellsFrom])
   .cases he;exact grow (I ⟨b,f,U⟩) cap us' rfl J GO (run_firstCells_some w.drew i.size _ ⟨b,f,U⟩ _ cap us' (by rw[hc,GO.1,KD]) (λj u hj=>by rw[Gs];exact hcl j u hj))
end
end Go.VS
namespace Go.VS
open Go
section
variable {P:Program} {B:Be} {β β':Beta} {H:Hp} {stk:List (Array Value)} {s:S} {a:Act} {w w':World} {kd:TypeId->Option K}
def aD0{k:K}{c:AV}{ys:List (Tof k)}(h:KH H k c=I ys):∀g w x,c≠ .gd g w x:=by
 intro g w x e;subst e;simp[KH,CF]at h
def av1(s:S)(id:Nat)(ob:Option Ob):s.ES id ob={ s with H:=upd s.H id ob } :=rfl
def aqe(hP:P=B.P)(h:St B β stk s a w){b:Nat}(hb:s.H b=U){t u ty:TypeId}{x y:Operand}{q:Bool}{v:AV}{s':S}(hs:Jy P kd t u s b (s.ev x) (s.ev y)=I (q,v,s'))(hq:q=A1):
  ∃u' w' β',(MJ #[t,u] ty #[a.eval x,a.eval y]).run P w= .ok u' w'/\St B β' stk s' a w'/\R2 w' β' v u'/\s'.gs=s.gs/\s'.n=s.n/\s'.pins=s.pins:=by
 subst hq;unfold Jy at hs;cases he:ID P t with
 | none=>rw[he]at hs;cases hs
 | some e=>
 rw[he]at hs;simp only[A9]at hs;cases hk:kd e with
 | none=>rw[hk]at hs;cases hs
 | some k=>
 rw[hk]at hs;simp only[A9]at hs;cases hy:KH s.H k (s.ev y) with
 | none=>rw[hy]at hs;cases hs
 | some ys=>
 rw[hy]at hs;simp only[A9]at hs;have hy2:R2 w β (s.ev y) (a.eval y):=(h.eval y).of<|aD0 hy;obtain⟨news,J7⟩:=zG (P:=P) h.hs hy hy2;have ht:=bf he;have conds:∀c:Bool,(Aj (P.cellsOf e) (ks k)&&E0 (P.bytesOf e) 256&&zok P e k&&c)=A1->P.cellsOf e=ks k/\P.bytesOf e<=256/\zok P e k=A1/\c=A1:=by
  intro c hc;simp only[AI]at hc;exact⟨Bn hc.1.1.1,DQ hc.1.1.2,hc.1.2,hc.2⟩
 have ud:(match P.underlying u with|some .string=>A1|some (.slice _)=>A1|_=>A3)=A1->∃d,P.underlying u=I d/\(d= .string\/ ∃e',d= .slice e'):=by
  intro hc;split at hc
  .rename_i hu;exact⟨_,hu,.inl rfl⟩
  .rename_i e' hu;exact⟨_,hu,.inr ⟨e',rfl⟩⟩
  .cases hc
 have hx:=h.eval x;split at hs
 .rename_i cx hc hcx;rw[hcx]at hx;obtain⟨c1,c2,c3,c4⟩:=conds _ hc;obtain⟨d,hu,hd⟩:=ud c4;simp only[Bv,CM]at hs;obtain⟨hr,rfl,rfl⟩:=hs;simp only[Ac,decide_eq_true_eq]at hr;obtain⟨u',w',β',g1,g2,g3,g4⟩:=ax2 (ty:=ty) hP h.hs hb ht hu hd c3 c1 c2 J7 hr;rw[hx.lit];exact⟨u',w',β',g1,h.keep g3 g2,g4,rfl,rfl,rfl⟩
 .rename_i cx id hc hcx;rw[hcx]at hx;have hx:RC w β (.own id) (a.eval x):=hx;obtain⟨c1,c2,c3,c4⟩:=conds _ hc;obtain⟨d,hu,hd⟩:=ud c4;split at hs
  .rename_i e' k' xs hid hne;split at hs
   .rename_i hee;obtain rfl:=Bn hee;cases o7:Ix k' k xs with
    | none=>rw[o7]at hs;cases hs
    | some xs'=>
     rw[o7]at hs;obtain⟨ek,rfl⟩:=Ht o7;subst ek;simp only[A9,Bv,CM]at hs;obtain⟨hr,rfl,rfl⟩:=hs;simp only[Ac,decide_eq_true_eq]at hr;obtain⟨u',w',β',g1,g2,g3,g4⟩:=aoP (ty:=ty) hP h.hs hid hx ht hu hd c3 c1 c2 J7 hr;exact⟨u',w',β',g1,h.map (J4 id) (PT id) g3 g2,g4,rfl,rfl,rfl⟩
   .cases hs
  .cases hs
 .cases hs
def aze(hP:P=B.P)(h:St B β stk s a w){t u ty:TypeId}{x y:Operand}{v:AV}{s':S}(hs:Kd P t s (s.ev x) (s.ev y)=I (v,s')):
  ∃u' w' β',(gz #[t,u] ty #[a.eval x,a.eval y]).run P w= .ok u' w'/\St B β' stk s' a w'/\R2 w' β' v u'/\s'.gs=s.gs/\s'.n=s.n/\s'.pins=s.pins:=by
 unfold Kd at hs;have hx:=h.eval x;split at hs
 .rename_i cx id hcx;rw[hcx]at hx;have hx:RC w β (.own id) (a.eval x):=hx;split at hs
  .rename_i e fz k xs hid hne;cases he:ID P t with
   | none=>rw[he]at hs;cases hs
   | some e'=>
    rw[he]at hs;simp only[A9]at hs;split at hs
    .rename_i hc;have hc:=Bn hc;cases hy:KH s.H k (s.ev y) with
     | none=>rw[hy]at hs;cases hs
     | some ys=>
      rw[hy]at hs;simp only[A9,Bv,CM]at hs;obtain⟨rfl,rfl⟩:=hs;have hy2:R2 w β (s.ev y) (a.eval y):=(h.eval y).of<|aD0 hy;obtain⟨news,J7⟩:=zG (P:=P) h.hs hy hy2;have ht:=bf he;have hk:=Hc k;have hn:news.length=ys.length * ks k:=by rw[J7.rel.1,KD]
      obtain⟨hd,k1,k2⟩:=h.hs.ER id _ hid;generalize hg:a.eval x=vx at hx;cases hx with
      | own k3 k4=>
      rw[k1]at k3;cases k3;have hfc:=J7.oJ (Ex ys.length xs.length)<|Nat.min_le_left _ _;have hlen:=J7.len w;obtain⟨rfl,rfl⟩|⟨b,f,cap,us,fr,rfl,hh,hfr,hnc,hcm,hsz,Cv⟩:=k2
      .refine⟨.int .i64 (Ex ys.length 0:Nat),w,β, ?_, ?_,rfl,rfl,rfl,rfl⟩
       .have hfc:=J7.oJ 0<|Cw _;simp[gz,run_underlying ht,hlen,KO (P:=P) (w:=w) (t:=e') J,hc,hfc,goInt]
       .have:s.ES id (I<|.row e fz k<|ys.take ([]:List (Tof k)).length++([]:List (Tof k)).drop ys.length)=s:=by
         simp only[C2,List.take_zero,List.drop_nil,CH,av1];rw[← hid];have:upd s.H id (s.H id)=s.H:=funext λj=>by
          by_cases e:j=id
          .subst e;rw[Bl]
          .rw[BE _ _ e]
         rw[this]
        rw[this];exact h
      .have lS:Ex ys.length xs.length<=xs.length:=Nat.min_le_right _ _;have apB:Ex ys.length xs.length<=ys.length:=Nat.min_le_left _ _;have h1:Ex ys.length xs.length * ks k<=xs.length * ks k:=E6 _ lS;have h2:xs.length * ks k<=cap * ks k:=E6 _ hnc;have h3:Ex ys.length xs.length * ks k<=ys.length * ks k:=E6 _ apB;have DM:∀u∈news.take (Ex ys.length xs.length * ks k),u.oneCell'=A1:=λu hu=>J7.rel.one u<|Ib hu;have htl:(news.take<|Ex ys.length xs.length * ks k).length=Ex ys.length xs.length * ks k:=by rw[DX,hn];omega
       have hst:=aV (P:=P) b f e fr (news.take<|Ex ys.length xs.length * ks k) 0 us w hh (by rw[htl];omega) (by
        subst hfr;cases fz
        .exact .inl rfl
        .exact .inr<|As _) DM
       simp only[Hn]at hst;obtain⟨g1,g2⟩:=h.hs.setRow (hpk:=Pk.setRow hh λ_ a' hu=>by
        have hus:us.toList.length=us.size:=F4;refine YO (ys:=news.take<|Ex ys.length xs.length * ks k) (by rw[htl];omega) (by simpa using hu) λe1 e2=>jx Cv (λe3=>e2 ?_) e1 hu;subst e3;exact EE (by rw[htl];simp)) k1 rfl (us.toList.take f++news.take (Ex ys.length xs.length * ks k)++us.toList.drop (f+(news.take<|Ex ys.length xs.length * ks k).length)).toArray (.row e fz k<|ys.take xs.length++xs.drop ys.length) (λhkp=>by
        have F6:(us.toList.take f++news.take (Ex ys.length xs.length * ks k)++us.toList.drop (f+(news.take<|Ex ys.length xs.length * ks k).length)).toArray.size=us.size:=by
         simp only[Kn,Ar,Dd,htl,DX,F4]at *;omega
        have hll:(ys.take xs.length++xs.drop ys.length).length=xs.length:=by simp;omega
        refine⟨_,by rw[k1,hll],.inr ⟨b,f,cap,_,fr,by rw[hll],setRow_heap w b us _ e _ hh,by rw[F6];exact hfr,by rw[hll];exact hnc,hcm,by rw[F6];exact hsz,λi x j c u a1 a2 a3=> ?_⟩⟩;have hj:j<ks k:=by rw[← EH k x];exact(BP.1 a2).1
        have hi':i<xs.length:=by have:=(BP.1 a1).1;rwa[hll]at this
        have a3':(us.toList.take f++news.take (Ex ys.length xs.length * ks k)++us.toList.drop (f+(news.take<|Ex ys.length xs.length * ks k).length))[f+(i * ks k+j)]? =I u:=by simpa using a3
        have hsp:f+(news.take<|Ex ys.length xs.length * ks k).length<=us.toList.length:=by
         have:us.toList.length=us.size:=F4;rw[htl];omega
        rw[Xf _ _ _ hsp,htl]at a3';refine hkp _ _ ?_;by_cases hy':i<ys.length
        .have hm:i<Ex ys.length xs.length:=Nat.lt_min.2 ⟨hy',hi'⟩;have hm2:=N1 hm hj;rw[A8 J,Gu,A8 J]at a3';rw[G0 (by simp;omega),Gu,A8 hi']at a1;refine QL J7.rel i x j c u a1 a2 ?_;rw[← a3'];congr 1;omega
        .have hm:Ex ys.length xs.length=ys.length:=QB J;have hm2:ys.length * ks k<=i * ks k:=E6 _ J;rw[hm]at a3';rw[AB J]at a3';have e1:(ys.take xs.length).length=ys.length:=by simp;omega
         rw[EC J,e1,Hd]at a1;have a1':xs[i]? =I x:=by rw[← a1];congr 1;omega
         exact Cv i x j c u a1' a2<|by simpa using a3')
       refine⟨.int .i64 (Ex ys.length xs.length:Nat),_,β, ?_,h.keep g2 g1,rfl,rfl,rfl,rfl⟩;simp only[gz,UQ,WU,aBr,El,run_underlying ht,Er,hlen,KO (P:=P) (w:=w) (t:=e') J,hc,hfc,Fl,hst,goInt]
    .cases hs
  .cases hs
 .cases hs
def FP.cut{e:TypeId}{fz:Bool}{k:K}{xs ys:List (Tof k)}{bb f cap l h:Nat}(hy:ys=(xs.take h).drop l)(hlh:l<=h)(hh:h<=xs.length)(hx:FP w β e fz k xs (.slice (I ⟨bb,f,U⟩) xs.length cap)):
  FP w β e fz k ys (.slice (if cap=l then I ⟨bb,f,U⟩ else I ⟨bb,f+l * ks k,U⟩) (h - l)<|cap - l):=by
 obtain⟨h1,_⟩|⟨b',f',bo,us,fr,h1,hhp,hfr,hnc,hcm,hsz,Cv⟩:=hx
 .cases h1
 .cases h1;have hyl:ys.length=h - l:=by subst hy;simp;omega
  by_cases he:cap=l
  .rw[A8 he];obtain rfl:ys=[]:=EE J;refine .inr ⟨bb,f,cap - l,us,fr,by rw[hyl],hhp,hfr,by simp,J, ?_,λi x j c u a1=>by simp at a1⟩;have:(cap - l) * ks k<=cap * ks k:=E6 _ J;omega
  .rw[AB he];refine .inr ⟨bb,f+l * ks k,cap - l,us,fr,by rw[hyl],hhp,hfr,J,J, ?_,λi x j c u a1 a2 a3=> ?_⟩
   .have:(cap - l) * ks k=cap * ks k - l * ks k:=cZ _ _ _;have:l * ks k<=cap * ks k:=E6 _ J;omega
   .subst hy;rw[Hd,Gu]at a1;split at a1
    .refine Cv (l+i) x j c u a1 a2 ?_;rw[← a3,EP];congr 1;omega
    .cases a1
def ai9(h:St B β stk s a w){id:Nat}{x:Operand}{t:TypeId}{lo hi:Option Operand}{z:Bool}(hx:s.ev x= .own id)(hf:Is P s.H t (.own id)=A1){q:Bool}{v:AV}{s':S}
  (hs:Kc s id z (lo.map s.ev) (hi.map s.ev)=I (q,v,s'))(hq:q=A1):
  ∃u' β',(Qu t (a.eval x) (lo.map a.eval) (hi.map a.eval) U).run P w= .ok u' w/\St B β' stk s' a w/\R2 w β' v u'/\s'.gs=s.gs/\s'.n=s.n/\s'.pins=s.pins:=by
 subst hq;have hxv:=h.eval x;rw[hx]at hxv;have hxv:RC w β (.own id) (a.eval x):=hxv;unfold Kc at hs;split at hs
 .rename_i e fz k xs hid;obtain⟨e',hu,hk⟩:∃e',P.underlying t=I (.slice e')/\P.cellsOf e'=ks k:=by
   unfold Is at hf;split at hf<;>simp_all
  have hkp:=Hc k;obtain⟨hd,k1,k2⟩:=h.hs.ER id _ hid;obtain⟨a0,cap,hv,Hg⟩:=k2.cells.len;have GB:a.eval x=hd:=by
   generalize a.eval x=vx at hxv;cases hxv with
   | own k3 k4=>rw[k1]at k3;cases k3;rfl
  cases hc:JY (lo.map s.ev) (hi.map s.ev) xs.length with
  | none=>rw[hc]at hs;cases hs
  | some r=>
   obtain⟨c,l,hh⟩:=r;rw[hc]at hs;simp only[A9]at hs;have main:c=A1->∃bs,(Qu t (a.eval x) (lo.map a.eval) (hi.map a.eval) U).run P w= .ok bs w/\0<=l/\l<=hh/\hh<=(xs.length:Int)/\bs= .slice (if cap=l.toNat then a0 else a0.map (·.add (l.toNat * ks k))) (hh.toNat - l.toNat) (cap - l.toNat):=by
    intro hct;subst hct;obtain⟨hb,g1,g2,g3⟩:=YK (P:=P) (w:=w) (β:=β) (tm:=Ba a) h.eval hc A1 Hg;refine⟨_, ?_,g1,g2,g3,rfl⟩;rw[GB,hv,nL hu J hb,hk]
   have aAT:c=A1->J5 (lo.map s.ev) (hi.map s.ev) l hh xs=(xs.take hh.toNat).drop l.toNat:=by
    intro hct;subst hct;exact oU hc
   split at hs
   .simp only[Bv,CM]at hs;obtain⟨hct,rfl,rfl⟩:=hs;obtain⟨bs,Cf,g1,g2,g3,hbs⟩:=main hct;have hys:=aAT hct;have hlen:(J5 (lo.map s.ev) (hi.map s.ev) l hh xs).length=hh.toNat - l.toNat:=by rw[hys];simp;omega
    have ahL:Q9 bs=A1:=by rw[hbs];rfl
    obtain⟨β',q1,q2,q3⟩:=h.hs.bS (hpk:=Pk.refl _ _) (w':=w) k1 (.row e fz k<|J5 (lo.map s.ev) (hi.map s.ev) l hh xs) bs (hh.toNat - l.toNat) rfl rfl rfl (As _) (λ_ _ _=>rfl) (λa' ha'=>by
      left;rw[hbs]at ha';cases a0 with
      | none=>exfalso;split at ha'<;>cases ha'
      | some aa=>
       refine⟨aa,by rw[hv];rfl, ?_⟩;split at ha'
       .cases ha';rfl
       .cases ha';obtain⟨e1,_⟩|⟨b',f',bo,us,fr,e1,_⟩:=k2
        .rw[hv]at e1;cases e1
        .rw[hv]at e1;simp only[Value.slice.injEq,Bv]at e1;obtain⟨rfl,_⟩:=e1;simp[Gs])
     (λβ' hβ hkf=>by
      refine⟨bs,by rw[hβ,hlen], ?_⟩;rw[hbs];obtain⟨e1,e2⟩|⟨b',f',bo,us,fr,e1,hhp,hfr,hnc,hcm,hsz,Cv⟩:=k2
      .rw[hv]at e1;simp only[Value.slice.injEq]at e1;obtain⟨rfl,_,rfl⟩:=e1;subst e2;refine .inl ⟨?_,by rw[hys];simp⟩;have:hh.toNat=0:=by simp at g3;omega
       have:l.toNat=0:=J
       simp[*]
      .rw[hv]at e1;cases e1;have afT:FP w β' e fz k xs (.slice (I ⟨b',f',U⟩) xs.length cap):= .inr ⟨b',f',cap,us,fr,rfl,hhp,hfr,hnc,hcm,hsz,λi x j c u a1 a2 a3=>by
        have:=hkf _ _<|Cv i x j c u a1 a2 a3;rwa[J4 id c<|IE k x a2]at this⟩
       have:=afT.cut (l:=l.toNat) (h:=hh.toNat) hys J J;simpa[Gs] using this)
    refine⟨bs,β',Cf,h.map (J4 id) (PT id) q2 q1, ?_,rfl,rfl,rfl⟩;exact RC.own q3 ahL
   .cases hs
   .simp only[Bv,CM]at hs;obtain⟨hct,rfl,rfl⟩:=hs;obtain⟨bs,Cf,g1,g2,g3,hbs⟩:=main hct;have hys:=aAT hct;obtain⟨β',q1,q2⟩:=h.aDh id;have hsl:=q2.fr id _ e fz k xs (by simp) hid hxv;refine⟨bs,β',Cf,q1, ?_, ?_, ?_, ?_⟩
    .show RC w β' (.sl k _) bs;rw[GB,hv]at hsl;rw[hbs];by_cases hxs:xs=[]
     .subst hxs;have e1:hh.toNat - l.toNat=0:=by simp at g3;omega
      rw[e1,hys];simp only[List.take_nil,List.drop_nil];exact .nil
     .have ha:∃bb f,a0=I ⟨bb,f,U⟩:=by
       cases hsl with
       | nil=>exact absurd rfl hxs
       | sl=>exact⟨_,_,rfl⟩
      obtain⟨bb,f,rfl⟩:=ha;have:=RC.cut (l:=l.toNat) (h:=hh.toNat) hys J J hsl Hg;simpa[Gs] using this
    .simp only[S.freeze,hid];rfl
    .simp only[S.freeze,hid];rfl
    .simp only[S.freeze,hid];rfl
 .cases hs
end
end Go.VS
namespace Go.VS
open Go
section
variable {B:Be} {β β':Beta} {H:Hp} {stk:List (Array Value)} {s s':S} {a:Act} {w w':World} {C:Cx}
def K0(B:Be)(stk:List (Array Value))(a:Act)(d:Option Nat)(s':S)(K:Act->World->Prop):Prop:=∀β' u w',St B β' stk s' (a.put d u) w'->K (a.put d u) w'
def Zd{o:Oper}{K:Act->World->Prop}{Q:Exit->Act->World->Prop}{u:Value}(h:(execOp a.eval o).run B.P w= .ok (.value u) w')(hk:K (a.put o.dst u) w'):o.wp B.P a w K Q:=by
 unfold Oper.wp;rw[h];exact hk
def ay1(h:St B β stk s a w){b:Nat}{v:AV}{os:List Ob}{o:Oper}(hd:s.has o.dst=A1)(hg:Good B β s.H w b v os ((execOp a.eval o).run B.P w)){K:Act->World->Prop}{Q:Exit->Act->World->Prop}
  (hK:K0 B stk a o.dst ({ s with H:=Ei s.H b os }.put o.dst v) K):o.wp B.P a w K Q:=by
 obtain⟨u,w',β',h1,h2,h3,h4⟩:=hg;refine Zd h1<|hK β' _ _ ?_;have h5:=h.keep h3 h2;refine h5.put hd (RT.HC h4) (λg want x e=> ?_);rw[e]at h4;exact absurd h4<|by simp[R2,R1]
def RF(h:St B β stk s a w){d:Option Nat}(hd:s.has d=A1){v:AV}{u:Value}(hv:R2 w β v u):St B β stk (s.put d v) (a.put d u) w:=
 h.put hd (RT.HC hv) (λg want x e=>by rw[e]at hv;exact absurd hv<|by simp[R2,R1])
def Qf{s s':S}(h1:s'.gs=s.gs)(h2:s'.n=s.n)(h3:s'.pins=s.pins)(d:Option Nat):s'.has d=s.has d:=by
 cases d with
 | none=>rfl
 | some d=>simp only[S.has,h1,h2,h3]
def aDk(hP:C.P=B.P)(h:St B β stk s a w){b:Nat}(hb:s.H b=U){o:Oper}(hd:s.has o.dst=A1){K:Act->World->Prop}{Q:Exit->Act->World->Prop}
  (he:(match CA C.P C.kd s.ev s.H b o.op with
   | some (q,v,os)=>if q then I ({ s with H:=Ei s.H b os }.put o.dst v) else U
   | none=>U)=I s')(hK:K0 B stk a o.dst s' K):o.wp B.P a w K Q:=by
 split at he
 .rename_i q v os hp;split at he
  .rename_i hq;cases he;have hg:=axt (P:=C.P) hP h.eval (λ_=>rfl) (λ_=>rfl) h.hs hb hp hq;rw[hP]at hg;exact ay1 h hd hg hK
  .cases he
 .cases he
def eU:∀(ids:List Nat) (s:S),(ids.foldl S.freeze s).gs=s.gs/\(ids.foldl S.freeze s).n=s.n/\(ids.foldl S.freeze s).pins=s.pins/\(ids.foldl S.freeze s).nid=s.nid
 | [],s=>⟨rfl,rfl,rfl,rfl⟩
 | i::ids,s=>by
  obtain⟨h1,h2,h3,h4⟩:=eU ids<|s.freeze i;have:(s.freeze i).gs=s.gs/\(s.freeze i).n=s.n/\(s.freeze i).pins=s.pins/\(s.freeze i).nid=s.nid:=by
   unfold S.freeze;split<;>exact⟨rfl,rfl,rfl,rfl⟩
  exact⟨h1.trans this.1,h2.trans this.2.1,h3.trans this.2.2.1,h4.trans this.2.2.2⟩
def avk{P:Program}{t:TypeId}{x y:AV}(h:Ic P t s x y=I s'):s'.gs=s.gs/\s'.n=s.n/\s'.pins=s.pins:=by
 unfold Ic at h;split at h
 .split at h
  .split at h
   .obtain⟨ys,hc,h⟩:=An.1 h;split at h<;>cases h;exact⟨rfl,rfl,rfl⟩
   .cases h
  .obtain⟨ys,hc,h⟩:=An.1 h;split at h
   .obtain⟨z,hz,h⟩:=An.1 h;cases h;obtain⟨h1,h2,h3,_⟩:=eU (ys.filterMap Gm) s;exact⟨h1,h2,h3⟩
   .cases h
  .obtain⟨ys,hc,h⟩:=An.1 h;split at h
   .obtain⟨z,hz,h⟩:=An.1 h;cases h;exact⟨rfl,rfl,rfl⟩
   .cases h
  .cases h
 .cases h
def apM(hP:C.P=B.P)(h:St B β stk s a w){o:Oper}(hd:s.has o.dst=A1){t:TypeId}{p x:Operand}(ho:o.op= .store t p x){s1:S}(hs:Ic C.P t s (s.ev p) (s.ev x)=I s1){K:Act->World->Prop}{Q:Exit->Act->World->Prop}
  (hK:K0 B stk a o.dst (s1.put o.dst Dp) K):o.wp B.P a w K Q:=by
 obtain⟨w',β',h1,h2⟩:=awB hP h hs;obtain⟨e1,e2,e3⟩:=avk hs;rw[hP]at h1;unfold Oper.wp execOp;rw[ho];simp only[El,h1,Er,Fl];exact hK β' _ _<|RF h2 (by rw[Qf e1 e2 e3];exact hd) rfl
def arD(hP:C.P=B.P)(h:St B β stk s a w){b:Nat}(hb:s.H b=U){o:Oper}(hd:s.has o.dst=A1){x y:Operand}{t u:TypeId}(ho:o.op= .call { callee:= .builtin .append,args:= #[x,y],argTypes:= #[t,u] })
  {v:AV}{s1:S}(hs:Jy C.P C.kd t u s b (s.ev x) (s.ev y)=I (A1,v,s1)){K:Act->World->Prop}{Q:Exit->Act->World->Prop}(hK:K0 B stk a o.dst (s1.put o.dst v) K):o.wp B.P a w K Q:=by
 obtain⟨u',w',β',h1,h2,h3,e1,e2,e3⟩:=aqe (ty:=o.type) hP h hb hs rfl;rw[hP]at h1;refine Zd (u:=u') (w':=w') ?_ (hK β' _ _<|RF h2 (by rw[Qf e1 e2 e3];exact hd) h3);unfold execOp;rw[ho];simp[resolve,invoke,builtin,h1]
def atY(hP:C.P=B.P)(h:St B β stk s a w){o:Oper}(hd:s.has o.dst=A1){x y:Operand}{t u:TypeId}(ho:o.op= .call { callee:= .builtin .copy,args:= #[x,y],argTypes:= #[t,u] })
  {v:AV}{s1:S}(hs:Kd C.P t s (s.ev x) (s.ev y)=I (v,s1)){K:Act->World->Prop}{Q:Exit->Act->World->Prop}(hK:K0 B stk a o.dst (s1.put o.dst v) K):o.wp B.P a w K Q:=by
 obtain⟨u',w',β',h1,h2,h3,e1,e2,e3⟩:=aze (u:=u) (ty:=o.type) hP h hs;rw[hP]at h1;refine Zd (u:=u') (w':=w') ?_ (hK β' _ _<|RF h2 (by rw[Qf e1 e2 e3];exact hd) h3);unfold execOp;rw[ho];simp[resolve,invoke,builtin,h1]
def ay0(hP:C.P=B.P)(h:St B β stk s a w){o:Oper}(hd:s.has o.dst=A1){t:TypeId}{x:Operand}{lo hi:Option Operand}(ho:o.op= .slice t x lo hi U){id:Nat}(hx:s.ev x= .own id){z:Bool}(hf:Is C.P s.H t (.own id)=A1)
  {v:AV}{s1:S}(hs:Kc s id z (lo.map s.ev) (hi.map s.ev)=I (A1,v,s1)){K:Act->World->Prop}{Q:Exit->Act->World->Prop}(hK:K0 B stk a o.dst (s1.put o.dst v) K):o.wp B.P a w K Q:=by
 obtain⟨u',β',h1,h2,h3,e1,e2,e3⟩:=ai9 (P:=C.P) h hx hf hs rfl;rw[hP]at h1;refine Zd (u:=u') (w':=w) ?_ (hK β' _ _<|RF h2 (by rw[Qf e1 e2 e3];exact hd) h3);unfold execOp;rw[ho];simp[h1]
def avx(hP:C.P=B.P)(h:St B β stk s a w){b:Nat}(hb:s.H b=U){o:Oper}(hd:s.has o.dst=A1){ids:List Nat}{K:Act->World->Prop}{Q:Exit->Act->World->Prop}
  (he:(match CA C.P C.kd (ids.foldl S.freeze s).ev (ids.foldl S.freeze s).H b o.op with
   | some (q,v,os)=>if q then I ({ ids.foldl S.freeze s with H:=Ei (ids.foldl S.freeze s).H b os }.put o.dst v) else U
   | none=>U)=I s')(hK:K0 B stk a o.dst s' K):o.wp B.P a w K Q:=by
 obtain⟨β',h1,h2⟩:=h.Le ids;obtain⟨e1,e2,e3,_⟩:=eU ids s;exact aDk hP h1 (h2.non b hb) (by rw[Qf e1 e2 e3];exact hd) he hK
def H9(C:Cx)(B:Be):Prop:=∀(f:FuncId) (d:Option Nat) (m:Da),C.Γ f d=I m->∀(β:Beta) (stk:List (Array Value)) (s:S) (a:Act) (w:World) (b:Nat) (as:List Operand) (s':S) (o:Oper) (ts:Array TypeId) (K:Act->World->Prop) (Q:Exit->Act->World->Prop),
 St B β stk s a w->(∀j,b<=j->j<b+16->s.H j=U)->s.has d=A1->Hb m s b d (as.map s.ev) I=I s'->o.dst=d->o.op= .call { callee:= .value<|.func f,args:=as.toArray,argTypes:=ts } ->K0 B stk a d s' K->o.wp B.P a w K Q
def po(hP:C.P=B.P)(hC:H9 C B)(h:St B β stk s a w){b:Nat}(hb:∀j,b<=j->j<b+16->s.H j=U){o:Oper}(he:CI C (AF S) o b s I=I s'){K:Act->World->Prop}{Q:Exit->Act->World->Prop}(hK:K0 B stk a o.dst s' K):o.wp B.P a w K Q:=by
 have hb0:s.H b=U:=hb b (As _) J;unfold CI at he;split at he
 .cases he
 rename_i hd;generalize ho:o.op=op at he;have pu:(match CA C.P C.kd s.ev s.H b op with
   | some (q,v,os)=>if q then I ({ s with H:=Ei s.H b os }.put o.dst v) else U
   | none=>U)=I s'->o.wp B.P a w K Q:=λhe=>aDk hP h hb0 hd (by rw[ho];exact he) hK
 cases op<;>try (exact pu he)
 case store t p x=>
  simp only at he;split at he
  .rename_i s1 hs;cases he;exact apM hP h hd ho hs hK
  .cases he
 case call c=>
  obtain⟨cal,⟨args⟩,⟨tys⟩⟩:=c;simp only at he;split at he
  .rename_i f;split at he
   .rename_i m hm;exact hC f o.dst m hm β stk s a w b _ s' o _ K Q h hb hd he rfl ho hK
   .cases he
  .split at he
   .rename_i q v s1 hs;split at he
    .rename_i hq;subst hq;cases he;exact arD hP h hb0 hd ho hs hK
    .cases he
   .cases he
  .split at he
   .rename_i v s1 hs;cases he;exact atY hP h hd ho hs hK
   .cases he
  .exact pu he
 case slice t x lo hi mx=>
  cases mx with
  | some m=>exact pu he
  | none=>
   simp only at he;split at he
   .rename_i id hx;split at he
    .cases he
    .rename_i hf;split at he
     .rename_i q v s1 hs;split at he
      .rename_i hq;subst hq;cases he;exact ay0 hP h hd ho hx hf hs hK
      .cases he
     .cases he
   .exact pu he
 case buildSlice t n ps=>
  simp only at he;exact avx hP h hb0 hd (by rw[ho];exact he) hK
end
end Go.VS
namespace Go.VS
open Go
mutual
theorem anj (E:Nat->AV) (H:Hp) (b:Nat):∀(h:Sh) (x:LT h),G5 h=A1->(BL E H b h x).2=(H,b)
 | .int _,_,_=>rfl
 | .bool,_,_=>rfl
 | .str,_,_=>rfl
 | .agg l,x,h=>by
  have:=dH E H b l x h;show((match Ak E H b l x with|(cs,H,b)=>(AV.agg cs,H,b)):AV×Hp×Nat).2=(H,b);generalize Ak E H b l x=r at *;obtain⟨cs,H',b'⟩:=r;exact this
 | .sl _,_,h=>by simp[G5]at h
 | .row _ _,_,h=>by simp[G5]at h
 | .fz _,_,h=>by simp[G5]at h
 | .Cb _ _,_,h=>by simp[G5]at h
 | .abx _ _,_,h=>by simp[G5]at h
 | .arr _,_,h=>by simp[G5]at h
 | .same _,_,h=>by simp[G5]at h
 | .box _ _,_,h=>by simp[G5]at h
theorem dH (E:Nat->AV) (H:Hp) (b:Nat):∀(l:List Sh) (x:LTs l),NQ l=A1->(Ak E H b l x).2=(H,b)
 | [],_,_=>rfl
 | h::l,x,hl=>by
  simp only[NQ,AI]at hl;have h1:=anj E H b h x.1 hl.1;have h2:=dH E H b l x.2 hl.2;show((match BL E H b h x.1 with|(c,H,b)=>match Ak E H b l x.2 with|(cs,H,b)=>(c::cs,H,b)):List AV×Hp×Nat).2=(H,b);generalize hm:BL E H b h x.1=r at *;obtain⟨c,H',b'⟩:=r;cases h1;show((match Ak E H b l x.2 with|(cs,H,b)=>(c::cs,H,b)):List AV×Hp×Nat).2=(H,b);generalize Ak E H b l x.2=r at *;obtain⟨cs,H',b'⟩:=r;exact h2
end
mutual
theorem ayr:∀h:Sh,G5 h=A1->M3 h=A3
 | .int _,_=>rfl
 | .bool,_=>rfl
 | .str,_=>rfl
 | .agg l,h=>lQ l h
 | .sl _,h=>by simp[G5]at h
 | .row _ _,h=>by simp[G5]at h
 | .fz _,h=>by simp[G5]at h
 | .Cb _ _,h=>by simp[G5]at h
 | .abx _ _,h=>by simp[G5]at h
 | .arr _,h=>by simp[G5]at h
 | .same _,h=>by simp[G5]at h
 | .box _ _,h=>by simp[G5]at h
theorem lQ:∀l:List Sh,NQ l=A1->CL l=A3
 | [],_=>rfl
 | h::l,hl=>by
  simp only[NQ,AI]at hl;simp only[CL,ayr h hl.1,lQ l hl.2,EX]
end
def tV(E:Nat->AV)(H:Hp)(b:Nat):∀(l:List Sh) (cs:List AV) (x:LTs l),l.isEmpty=A1->BQ E H b l cs x=([],H,b)
 | [],_,_,_=>rfl
 | _::_,_,_,h=>by simp at h
def aud:∀l:List Sh,l.isEmpty=A1->CL l=A3
 | [],_=>rfl
 | _::_,h=>by simp at h
def alX(l:List Nat):off l []=A1:=by simp[off]
def ahx{m:Da}{s:S}{b:Nat}{d:Option Nat}{as:List AV}{v:AV}{x:LTs m.ps}{r:LTs m.rs×LTs (B6 m.ps)}(h1:NQ m.rs=A1)(h2:(B6 m.ps).isEmpty=A1)(h3:(CU s.H m.ps as).isEmpty=A1)(h4:(Bm s.H m.ps as).isEmpty=A1)
  (hx:Fv (λi=>(as[i]?).getD .un) s.H m.ps as=I x)(hr:m.g x=I r)(hv:Lk (Ak (λi=>(as[i]?).getD .un) s.H b m.rs r.1).1=v):Hb m s b d as I=I (s.put d v):=by
 have h3':CU s.H m.ps as=[]:=by simpa using h3
 have h4':Bm s.H m.ps as=[]:=by simpa using h4
 unfold Hb;simp only[hx,h4',Mw,h3',alX,CZ,hr,A9,MX,lQ _ h1,aud _ h2,Fa,GU,tV _ _ _ _ _ _ h2];have hm:=dH (λi=>(as[i]?).getD .un) s.H b m.rs r.1 h1;generalize Ak (λi=>(as[i]?).getD .un) s.H b m.rs r.1=q at *;obtain⟨vs,H',b'⟩:=q;cases hm;have:E0 b (b+16)=A1:=Nat.ble_eq_true_of_le J;simp only[this];rw[← hv]
section
variable {B:Be} {β β':Beta} {H:Hp} {stk:List (Array Value)} {s s':S} {a:Act} {w w':World} {C:Cx}
def aik{b:Nat}{o:Oper}{v:AV}(hd:s.has o.dst=A1)(h:spA C b o.dst s.ev s.H o.op=I (A1,v)):CI C (AF S) o b s I=I (s.put o.dst v):=by
 have eqS:∀v',({ s with H:=s.H } :S).put o.dst v'=s.put o.dst v':=λ_=>rfl;unfold CI;rw[hd];generalize ho:o.op=op at h;have pu:(match CA C.P C.kd s.ev s.H b op with
   | some (q,v,[])=>I (q,v)
   | _=>U)=I (A1,v)->(match CA C.P C.kd s.ev s.H b op with
   | some (q,v,os)=>if q then I ({ s with H:=Ei s.H b os }.put o.dst v) else U
   | none=>U)=I (s.put o.dst v):=by
  intro h;split at h
  .rename_i v' hp;cases h;rw[hp];rfl
  .cases h
 cases op<;>try (exact pu h)
 case store=>simp[spA]at h
 case buildSlice=>simp[spA]at h
 case slice t x lo hi mx=>
  cases mx with
  | some m=>exact pu h
  | none=>
   simp only[spA]at h;simp only;cases hx:s.ev x<;>simp only[hx]at h ⊢ <;>first|(cases h;done)|exact pu h
 case call c=>
  obtain⟨cal,⟨args⟩,⟨tys⟩⟩:=c;simp only[spA]at h;simp only;split at h
  .rename_i f;obtain⟨m,hm,h⟩:=An.1 h;split at h
   .rename_i hc;simp only[AI]at hc;obtain⟨x,hx,h⟩:=An.1 h;simp only[Bv,CM]at h;obtain⟨h1,h2⟩:=h;cases hr:m.g x with
    | none=>rw[hr]at h1;cases h1
    | some r=>
     rw[hr]at h2;simp only[hm];exact ahx hc.1.1.1 hc.1.1.2 hc.1.2 hc.2 hx hr h2
   .cases h
  .cases h
  .cases h
  .rename_i n1 n2 n3;split
   .exact absurd rfl (n1 _)
   .exact absurd rfl n2
   .exact absurd rfl n3
   .exact pu h
end
end Go.VS
namespace Go.VS
open Go
section
variable {B:Be} {β β':Beta} {H:Hp} {stk:List (Array Value)} {s s':S} {a:Act} {w w':World} {C:Cx}
def Xh{ops:Array Oper}{j g:Nat}(hg:(ops[j]?).bind (·.dst)=I g){b:Bool}(hv:Ba a g= .bool b):yielded ops a.tmps j=I b:=by
 unfold yielded;rw[hg];have:a.tmps[g]? =I (.bool b):=by
  unfold Ba at hv;rw[TH]at hv;cases h:a.tmps[g]? with
  | none=>rw[h]at hv;cases hv
  | some u=>rw[h]at hv;exact congrArg I hv
 rw[A9,this]
def fq{ops:Array Oper}{j g:Nat}(hg:(ops[j]?).bind (·.dst)=I g){b:Bool}(hv:yielded ops a.tmps j=I b):Ba a g= .bool b:=by
 unfold yielded at hv;rw[hg,A9]at hv;split at hv
 .rename_i c hc;cases hv;simp[Ba,hc]
 .cases hv
def St.narrow(h:St B β stk s a w){g:Nat}{want:Bool}(hg:Ba a g= .bool want):St B β stk (s.narrow g want) a w:=by
 have rt:∀x y,RT w β (Ba a) x y->RT w β (Ba a) (GX g want x) y:=by
  intro x y hx;cases x with
  | gd g' w' z=>
   simp only[GX];split
   .rename_i h1 h2;obtain rfl:=Bn h1;obtain rfl:want=w':=by simpa using h2
    exact RT.HC (hx.1 hg)
   .exact hx
  | _=>exact hx
 refine⟨λt=> ?_,h.stack,h.n,h.defers,h.pins,λt g' w' x hx=> ?_,h.hs⟩
 .show RT w β (Ba a) (upd (λt=>GX g want<|s.T t) g (.b want) t) (Ba a t);by_cases e:t=g
  .subst e;rw[Bl,hg];rfl
  .rw[BE _ _ e];exact rt _ _ (h.T t)
 .have hx:upd (λt=>GX g want<|s.T t) g (.b want) t= .gd g' w' x:=hx;by_cases e:t=g
  .subst e;rw[Bl]at hx;cases hx
  .rw[BE _ _ e]at hx;cases hs:s.T t with
   | gd g2 w2 z=>
    rw[hs]at hx;simp only[GX]at hx;split at hx
    .rename_i h1 h2;obtain rfl:=Bn h1;obtain rfl:want=w2:=by simpa using h2
     subst hx;have:=h.T t;rw[hs]at this;exact(this.1 hg).elim
    .cases hx;exact h.gs _ _ _ _ hs
   | _=>rw[hs]at hx;simp[GX]at hx
def um(a:Act){d t:Nat}(h:t≠d)(u:Value):Ba (a.put (I d) u) t=Ba a t:=by
 simp only[Ba,Act.put,TH];rw[aat λe=>h e.symm]
def R2.bool{x:AV}{b:Bool}(h:R2 w β x (.bool b)):R2 w' β' x (.bool b):=by
 cases x with
 | un=>trivial
 | lit v=>exact h
 | sl k xs=>exact absurd (show RC w β (.sl k xs) (.bool b) from h) λh=>by cases h
 | arr k xs=>obtain⟨us,e,_⟩:=h;cases e
 | own id=>exact absurd (show RC w β (.own id) (.bool b) from h) (λh=>by cases h with|own h1 h2=>cases h2)
 | ptr a b c d=>exact absurd (show RC w β (.ptr a b c d) (.bool _) from h) λh=>by cases h
 | ipt a b c=>exact absurd (show RC w β (.ipt a b c) (.bool _) from h) λh=>by cases h
 | agg cs=>obtain⟨us,e,_⟩:=h;cases e
 | tup vs=>obtain⟨us,e,_⟩:=h;cases e
 | gd a b c=>exact h.elim
def St.more(h:St B β stk s a w)(g:Nat):St B β stk { s with gs:=upd s.gs g A1 } a w:=
 ⟨h.T,h.stack,h.n,h.defers,h.pins,λt g' want x hx=>by
  show upd s.gs g A1 g'=A1;by_cases e:g'=g
  .rw[e,Bl]
  .rw[BE _ _ e];exact h.gs t g' want x hx,h.hs⟩
def RT.Yq{tm:Nat->Value}{x:AV}{v:Value}(h:RT w β tm x v)(hn:sA x=A1):R2 w β x v:=by
 cases x with
 | gd=>cases hn
 | _=>exact h
def RT.ayt{tm tm':Nat->Value}{x:AV}{b:Bool}(h:RT w β tm x (.bool b))(ht:∀g want z,x= .gd g want z->tm' g=tm g):RT w' β' tm' x (.bool b):=by
 cases x with
 | gd g want z=>
  have e:=ht g want z rfl;refine⟨λh1=>R2.bool<|h.1<|e▸h1,λh1=> ?_⟩;exact h.2<|e▸h1
 | _=>exact RT.HC<|R2.bool<|RT.Yq h rfl
def zO{g d:Nat}(h:({ s with gs:=upd s.gs g A1 } :S).has (I d)=A1):s.has (I d)=A1/\d≠g/\s.gs d=A3:=by
 simp only[S.has,AI,DR]at h ⊢;obtain⟨⟨h1,h2⟩,h3⟩:=h;by_cases e:d=g
 .subst e;rw[Bl]at h3;cases h3
 .rw[BE _ _ e]at h3;exact⟨⟨⟨h1,h2⟩,h3⟩,e,h3⟩
def St.aiv(h:St B β stk s a w){g d:Nat}{want:Bool}(hg:Ba a g= .bool want)(E3:({ s with gs:=upd s.gs g A1 } :S).has (I d)=A1){v:AV}(hn:sA v=A1){u:Value}
  (h':St B β' stk ((s.narrow g want).put (I d) v) (a.put (I d) u) w'):St B β' stk { s.put (I d) (.gd g want v) with gs:=upd s.gs g A1 } (a.put (I d) u) w':=by
 obtain⟨_,hdg,hgs⟩:=zO E3;have tg:Ba (a.put (I d) u) g= .bool want:=by rw[um a<|LQ hdg];exact hg
 refine⟨λt=> ?_,h'.stack,h'.n,h'.defers,h'.pins,λt g' w1 x hx=> ?_,h'.hs⟩
 .show RT w' β' _ (upd s.T d (.gd g want v) t) _;have ht:RT w' β' (Ba<|a.put (I d) u) (upd (upd (λt=>GX g want<|s.T t) g<|.b want) d v t) (Ba (a.put (I d) u) t):=h'.T t;by_cases e:t=d
  .subst e;rw[Bl]at ht ⊢;exact⟨λ_=>ht.Yq hn,λhne=>absurd tg hne⟩
  .rw[BE _ _ e]at ht ⊢;by_cases e2:t=g
   .subst e2;rw[tg];have h0:=h.T t;rw[hg]at h0;refine h0.ayt λg' w1 z hz=> ?_;have hg':s.gs g'=A1:=h.gs _ _ _ _ hz;exact um a (λe=>by rw[e,hgs]at hg';cases hg') u
   .rw[BE _ _ e2]at ht;cases hs:s.T t with
    | gd g2 w2 z=>
     rw[hs]at ht;simp only[GX]at ht;split at ht
     .rename_i h1 h2;obtain rfl:=Bn h1;obtain rfl:want=w2:=by simpa using h2
      have h0:=h.T t;rw[hs]at h0;refine⟨λ_=>ht.Yq ?_,λhne=>absurd tg hne⟩;have:=h0.1 hg;cases z<;>first|rfl|exact this.elim
     .exact ht
    | _=>rw[hs]at ht;exact ht
 .show upd s.gs g A1 g'=A1;have hx:upd s.T d (.gd g want v) t= .gd g' w1 x:=hx;by_cases e:t=d
  .subst e;rw[Bl]at hx;cases hx;exact Bl _ _ _
  .rw[BE _ _ e]at hx;by_cases e3:g'=g
   .rw[e3,Bl]
   .rw[BE _ _ e3];exact h.gs _ _ _ _ hx
def aE3(h:St B β stk s a w){ops:Array Oper}:∀(n:Nat) (o:Oper) {c:Bool},Mh ops s n o=I c->Jh o (yielded ops a.tmps)=A1->c=A1
 | 0,_,_,he,_=>by cases he
 | n+1,o,c,he,hw=>by
  unfold Mh at he;cases hg:o.guard with
  | none=>rw[hg]at he;cases he;rfl
  | some jw=>
   obtain⟨j,want⟩:=jw;rw[hg]at he;obtain⟨oj,hj,he⟩:=An.1 he;obtain⟨g,hgd,he⟩:=An.1 he;have ahA:(ops[j]?).bind (·.dst)=I g:=by rw[hj];exact hgd
   have hy:yielded ops a.tmps j=I want:=by simpa[Jh,hg] using hw
   have htg:=fq ahA hy;have hT:=h.T g;split at he
   .rename_i c0 hc0;rw[hc0,htg]at hT;have hT:Value.bool want=Value.bool c0:=hT;cases hT;cases he;cases want<;>rfl
   .rename_i vs hc0;rw[hc0,htg]at hT;cases (show Value.bool want=Value.tuple vs from hT)
   .rename_i g' w' c0 hc0;rw[hc0]at hT;split at he
    .rename_i j' w2 hoj;split at he
     .rename_i g2 hg2;split at he
      .rename_i e1 e2;obtain rfl:=Bn e1;obtain rfl:w'=w2:=by simpa using e2
       obtain⟨b,hb,he⟩:=An.1 he;by_cases hq:Ba a g'= .bool w'
       .have hv:Ba a g= .bool c0:=hT.1 hq;rw[htg]at hv;cases hv;have hb1:=aE3 h n oj hb (by
         have:yielded ops a.tmps j'=I w':=Xh hg2 hq;simp[Jh,hoj,this])
        rw[hb1]at he;cases he;cases want<;>rfl
       .have hv:Ba a g=undef:=hT.2 hq;rw[htg]at hv;cases hv
      .cases he
     .cases he
    .cases he
   .cases he
def aeH{c:Option Bool}{q:Bool}(h:xf c q=A1)(hc:∀b,c=I b->b=A1):q=A1:=by
 cases c with
 | none=>exact h
 | some b=>
  obtain rfl:=hc b rfl;cases q with
  | true=>rfl
  | false=>cases h
def nZ(hP:C.P=B.P)(hC:H9 C B){ops:Array Oper}{i:Nat}{o:Oper}(hi:ops[i]? =I o)(h:St B β stk s a w){b:Nat}(hb:∀j,b<=j->j<b+16->s.H j=U)
  (he:evG C (AF S) ops o b s I=I s'){K:Act->World->Prop}{Q:Exit->Act->World->Prop}(hK:K0 B stk a o.dst s' K):wpOp B.P ops Q i K a w:=by
 unfold wpOp;simp only[hi];unfold evG at he;split at he
 .rename_i hg;have hw:Jh o (yielded ops a.tmps)=A1:=by simp[Jh,hg]
  rw[A8 hw];exact .inl (po hP hC h hb he hK)
 .rename_i j want hg;have hwd:Jh o (yielded ops a.tmps)=(yielded ops a.tmps j == I want):=by simp[Jh,hg]
  rw[hwd];split at he
  .cases he
  .rename_i g hgd hsp;split at he
   .rename_i q v E3 hv;split at he
    .rename_i hn;split at he
     case isFalse=>cases he
     rename_i sf;cases he;obtain⟨d,hd⟩:∃d,o.dst=I d:=by
      cases hd:o.dst with
      | none=>rw[hd]at hsp;cases hsp
      | some d=>exact⟨d,rfl⟩
     rw[hd]at E3 hv;by_cases hy:yielded ops a.tmps j=I want
     .have htg:=fq hgd hy;rw[A8<|by simp[hy]];have hh:=(zO E3).1;have hqt:q=A1:=aeH sf (λb hb=>aE3 h 4 o hb (by rw[hwd,hy];simp));subst hqt;have he:CI C (AF S) o b (s.narrow g want) I=I ((s.narrow g want).put o.dst v):=
       aik (by rw[hd];exact hh) (by rw[hd];exact hv)
      refine .inl<|po hP hC (h.narrow htg) (s:=s.narrow g want) hb he ?_;intro β' u w' h';rw[hd]at h' ⊢;have:=hK β' u w';rw[hd]at this;exact this (h.aiv htg E3 hn h')
     .rw[AB<|by simpa using hy];have hne:Ba a g≠ .bool want:=λe=>hy<|Xh hgd e;have:=hK β undef w;rw[hd]at this ⊢;exact this ((h.more g).put E3 ⟨λe=>absurd e hne,λ_=>rfl⟩ (λg' w1 x e=>by cases e;exact Bl _ _ _))
    .cases he
   .cases he
  .rename_i g hgd hsp;split at he
   .rename_i c hT;have htg:Ba a g= .bool c:=by have:=h.T g;rw[hT]at this;exact this
    have hy:yielded ops a.tmps j=I c:=Xh hgd htg;rw[hy];have hn:∀w0:Bool,c=w0->St B β stk { s with T:=upd s.T g (.b w0) } a w:=by
     intro w0 e;subst e;refine⟨λt=> ?_,h.stack,h.n,h.defers,h.pins,λt g' w' x hx=> ?_,h.hs⟩
     .show RT w β (Ba a) (upd s.T g (.b c) t) (Ba a t);by_cases e:t=g
      .subst e;rw[Bl,htg];rfl
      .rw[BE _ _ e];exact h.T t
     .have hx:upd s.T g (.b c) t= .gd g' w' x:=hx;by_cases e:t=g
      .subst e;rw[Bl]at hx;cases hx
      .rw[BE _ _ e]at hx;exact h.gs _ _ _ _ hx
    have yes:CI C (AF S) o b { s with T:=upd s.T g (.b want) } I=I s'->c=want->
      (if(I c == I want)=A1 then o.wp B.P a w K Q\/(o.asks B.P a w/\LetsOut Q) else K (a.put o.dst undef) w):=by
     intro he e;rw[A8<|by simp[e]];exact .inl<|po hP hC (hn want e) hb he hK
    have no:(match s.has o.dst with
      | true=>I (({ s with T:=upd s.T g (.b<|!want) } :S).put o.dst Dp)
      | false=>U)=I s'->c= !want->
      (if(I c == I want)=A1 then o.wp B.P a w K Q\/(o.asks B.P a w/\LetsOut Q) else K (a.put o.dst undef) w):=by
     intro he e;rw[AB (by subst e;cases want<;>simp)];split at he
     .rename_i E3;cases he;exact hK β undef w ((hn (!want) e).put (by exact E3) (u:=undef) rfl (λg' w1 x e=>by cases e))
     .cases he
    cases want<;>cases c<;>simp only[A5,if_false,Hh]at he
    .exact yes he rfl
    .exact no he rfl
    .exact no he rfl
    .exact yes he rfl
   .rename_i vs hT;have htg:Ba a g= .tuple vs:=by have:=h.T g;rw[hT]at this;exact this
    have hy:¬(yielded ops a.tmps j == I want)=A1:=by
     intro e;have:=fq hgd (show yielded ops a.tmps j=I want by simpa using e);rw[htg]at this;cases this
    rw[AB hy];split at he
    .rename_i E3;cases he;exact hK β undef w (h.put E3 (u:=undef) rfl (λg' w1 x e=>by cases e))
    .cases he
   .cases he
end
end Go.VS
namespace Go.VS
open Go
def In1(F:Nat->Prop):AV->Prop
 | .own id=>F id
 | .ptr id _ _ _=>F id
 | .agg _=>False
 | .tup _=>False
 | .gd _ _ _=>False
 | _=>True
def In2(F:Nat->Prop):AV->Prop
 | .agg cs=>∀c∈cs,In1 F c
 | v=>In1 F v
def In3(F:Nat->Prop):AV->Prop
 | .tup vs=>∀v∈vs,In2 F v
 | v=>In2 F v
def InA(F:Nat->Prop):AV->Prop
 | .gd _ _ v=>In3 F v
 | v=>In3 F v
def Ep(F:Nat->Prop):Ob->Prop
 | .box _ cs=>∀c∈cs,In1 F c
 | _=>True
def DY(F:Nat->Prop)(H:Hp):Prop:=∀id ob,F id->H id=I ob->Ep F ob
def Agr(F:Nat->Prop)(H H':Hp):Prop:=∀id,F id->H' id=H id
section
variable {F:Nat->Prop} {H H':Hp} {P:Program} {kd:TypeId->Option K} {ρ ρ':Operand->AV} {b:Nat}
def In2.of1{v:AV}(h:In1 F v):In2 F v:=by
 cases v<;>first|exact h|exact h.elim
def In3.of2{v:AV}(h:In2 F v):In3 F v:=by
 cases v<;>first|exact h|exact(show False from h).elim
def InA.of3{v:AV}(h:In3 F v):InA F v:=by
 cases v<;>first|exact h|exact(show False from h).elim
def InA.of1{v:AV}(h:In1 F v):InA F v:= .of3<|.of2<|.of1 h
def InA.of2{v:AV}(h:In2 F v):InA F v:= .of3<|.of2 h
def In1.GM{v:AV}(h:GM v=A1):In1 F v:=by
 cases v<;>first|trivial|cases h
def SG(k:K)(x:Tof k):∀c∈enc k x,In1 F c:=λc hc=> .GM<|Cr.1 (acp k x) c hc
def R3{t:TypeId}{cs:List AV}{o:Nat}{v:AV}(hc:∀c∈cs,In1 F c)(h:HB P t cs o=I v):InA F v:=by
 unfold HB at h;split at h
 .split at h
  .cases h;exact .of2 λc hm=>hc c (Io<|Ib hm)
  .cases h
 .exact .of1 (hc v<|Cg h)
 .cases h
def aiE{t:TypeId}{p:AV}(hp:InA F p)(hH:Agr F H H'):Jv P H' t p=Jv P H t p:=by
 unfold Jv;cases p with
 | ptr id z i o=>simp only[hH id hp]
 | _=>rfl
def akm{N:Nat->Prop}{t:TypeId}{p v:AV}(hp:InA N p)(hH:∀id ob,N id->H id=I ob->Ep F ob)(h:Jv P H t p=I v):InA F v:=by
 unfold Jv at h;split at h
 .exact R3 (SG _ _) h
 .rename_i id z i o;split at h
  .rename_i hid;split at h
   .exact R3 (hH id _ hp hid) h
   .cases h
  .split at h
   .exact R3 (SG _ _) h
   .cases h
  .split at h
   .split at h<;>cases h;trivial
   .split at h
    .exact R3 (SG _ _) h
    .cases h
  .cases h
 .cases h
def oy{k:K}{v:AV}(hv:InA F v)(hH:Agr F H H'):CF H' k v=CF H k v:=by
 cases v with
 | own id=>simp only[CF,hH id hv]
 | lit v=>cases v with
  | slice a n c=>cases a<;>cases n<;>cases c<;>rfl
  | _=>rfl
 | _=>rfl
def qQ{k:K}{v:AV}(hv:InA F v)(hH:Agr F H H'):KH H' k v=KH H k v:=by
 cases v with
 | own id=>simp only[KH,CF,hH id hv]
 | lit v=>cases v with
  | slice a n c=>cases a<;>cases n<;>cases c<;>rfl
  | _=>rfl
 | _=>rfl
def tz{t:TypeId}{v:AV}(hv:InA F v)(hH:Agr F H H'):Is P H' t v=Is P H t v:=by
 unfold Is;generalize P.underlying t=u;obtain _|d:=u
 .rfl
 cases d<;>cases v<;>first|rfl|(simp only[hH _ hv];done)|(rename_i v;cases v<;>rfl)
def ae3{t:TypeId}{i:Int}{v:AV}(hv:InA F v)(hH:Agr F H H'):MD P H' t i v=MD P H t i v:=by
 unfold MD;cases v with
 | own id=>simp only[hH id hv]
 | ptr id z i o=>
  cases i<;>cases o<;>first|(simp only[hH id hv];done)|rfl
 | _=>rfl
def aeo{v v':AV}{q:Bool}{os:List Ob}(hv:InA F v)(h:okN v=I (q,v',os)):InA F v'/\os=[]:=by
 obtain⟨rfl,_,rfl,_⟩:=N9 h;exact⟨hv,rfl⟩
def ah0{v v':AV}{q:Bool}{os:List Ob}(hv:InA F v)(h:okA v=I (q,v',os)):InA F v'/\os=[]:=by
 obtain⟨rfl,_,rfl⟩:=DT h;exact⟨hv,rfl⟩
def PIn(F:Nat->Prop)(r:PR):Prop:=∀q v os,r=I (q,v,os)->InA F v/\os.length<=1/\ ∀ob∈os,Ep F ob
def PIn.okN{v:AV}(hv:InA F v):PIn F (okN v):=λq v' os h=>by
 obtain⟨h1,rfl⟩:=aeo hv h;exact⟨h1,by simp,by simp⟩
def PIn.okA{v:AV}(hv:InA F v):PIn F (okA v):=λq v' os h=>by
 obtain⟨h1,rfl⟩:=ah0 hv h;exact⟨h1,by simp,by simp⟩
def PIn.lit{v:Value}:PIn F (VS.okA<|.lit v):= .okA<|.of1 trivial
def PIn.none:PIn F .none:=λq v os h=>by cases h
def PIn.nil{q:Bool}{v:AV}(hv:InA F v):PIn F (I (q,v,[])):=λq v' os h=>by cases h;exact⟨hv,by simp,by simp⟩
def PIn.one{q:Bool}{v:AV}{ob:Ob}(hv:InA F v)(ho:Ep F ob):PIn F (I (q,v,[ob])):=λq v' os h=>by
 cases h;exact⟨hv,by simp,λob' hm=>by simp at hm;subst hm;exact ho⟩
def PIn.bind{α:Type}{o:Option α}{f:α->PR}(h:∀a,o=I a->PIn F (f a)):PIn F (o.bind f):=by
 cases o with
 | none=>exact .none
 | some a=>exact h a rfl
def aqq(op:BinOp)(k:IntKind)(x y:Int):PIn F (VT op k x y):=by
 cases op<;>first|exact .lit|exact .none|exact .nil<|.of1 trivial
def avW(op:BinOp)(x y:A4):PIn F (VP op x y):=by
 cases op<;>first|exact .lit|exact .none|exact .nil<|.of1 trivial
def awQ(op:BinOp)(t:TypeId)(x y:AV):PIn F (OY P op t x y):=by
 unfold OY;split
 .split
  .exact aqq _ _ _ _
  .exact .none
 .exact avW _ _ _
 .split<;>first|exact .lit|exact .none
 .split<;>first|exact .lit|exact .none
 .exact .none
def ae2(op:UnOp)(x:AV):PIn F (unA op x):=by
 unfold unA;split<;>first|exact .lit|exact .none
def asZ{c x y:Operand}(hx:InA F (ρ x))(hy:InA F (ρ y)):PIn F (Ov ρ c x y):=by
 unfold Ov;split
 .split
  .exact .lit
  .split
   .exact .lit
   .exact .okN hy
 .split
  .exact .lit
  .split
   .exact .okN hx
   .exact .lit
 .split
  .exact .okN hx
  .exact .okN hy
 .exact .none
def bJ{v:AV}{cs:List AV}(hv:InA F v)(h:GD v=I cs):∀c∈cs,In1 F c:=by
 cases v with
 | un=>cases h
 | gd=>cases h
 | tup=>cases h
 | arr=>cases h
 | agg cs=>cases h;exact hv
 | lit v=>cases v<;>first|(cases h;done)|(cases h;intro c hc;simp at hc;subst hc;trivial)
 | _=>cases h;intro c hc;simp at hc;subst hc;exact hv
def aDI{t:TypeId}{zs:List AV}(h:I1 P t=I zs):∀c∈zs,In1 F c:=by
 obtain⟨i,_,h⟩:=An.1 h;obtain⟨z,_,h⟩:=An.1 h;split at h
 .cases h;intro c hc;obtain⟨v,_,rfl⟩:=DP.1 hc;trivial
 .cases h
def q8{cs ys:List AV}{o:Nat}(hc:∀c∈cs,In1 F c)(hy:∀c∈ys,In1 F c):∀c∈H4 cs o ys,In1 F c:=by
 intro c h;unfold H4 at h;simp only[Br]at h;obtain(h|h)|h:=h
 .exact hc c (Ib h)
 .exact hy c h
 .exact hc c<|Io h
def aBW{t:TypeId}:∀(l:List (Nat×Operand)) (cs:List AV) {r:List AV},(∀p∈l,InA F<|ρ p.2)->(∀c∈cs,In1 F c)->Hk P ρ t l cs=I r->∀c∈r,In1 F c
 | [],cs,r,_,hc,h=>by cases h;exact hc
 | (i,x)::l,cs,r,hl,hc,h=>by
  obtain⟨f,_,h⟩:=An.1 h;obtain⟨ys,h2,h⟩:=An.1 h;split at h
  .exact aBW l _ (λp hp=>hl p<|Al _ hp) (q8 hc<|bJ (hl _<|Ap) h2) h
  .cases h
def aAh{t:TypeId}:∀(l:List (Nat×Operand)) (cs:List AV),(∀p∈l,ρ' p.2=ρ p.2)->Hk P ρ' t l cs=Hk P ρ t l cs
 | [],cs,_=>rfl
 | (i,x)::l,cs,hl=>by
  have ih:∀cs,Hk P ρ' t l cs=Hk P ρ t l cs:=λcs=>aAh l cs λp hp=>hl p<|Al _ hp;have h1:ρ' x=ρ x:=hl (i,x)<|Ap;simp only[Hk,h1,ih]
def zY:∀(l:List (Nat×Operand)) (n:Nat),(∀p∈l,ρ' p.2=ρ p.2)->Hv ρ' n l=Hv ρ n l
 | [],_,_=>rfl
 | (i,x)::l,n,hl=>by
  have ih:∀n,Hv ρ' n l=Hv ρ n l:=λn=>zY l n λp hp=>hl p<|Al _ hp;have h1:ρ' x=ρ x:=hl (i,x)<|Ap;simp only[Hv,h1,ih]
def aqh:∀(l:List (Nat×Operand)),(∀p∈l,ρ' p.2=ρ p.2)->LG ρ' l=LG ρ l:=λl hl=>by
 unfold LG
 induction l with
 | nil=>rfl
 | cons p l ih=>simp only[Oo,hl p<|Ap,ih λq hq=>hl q<|Al _ hq]
def afH(lo hi:Option AV)(v:AV):PIn F (R6 lo hi v):=by
 unfold R6;split<;>first|exact .none|exact .bind λa _=> .nil<|.of1 trivial
def av8(hb:F 0)(s d:TypeId)(v:AV):PIn F (Iu P s d v):=by
 unfold Iu;split
 .exact .lit
 .exact .lit
 .split
  .exact .one (.of1 hb) trivial
  .exact .none
 .exact .none
def asS(t:TypeId)(i:Int)(v:AV):PIn F (Rq P t i v):=by
 unfold Rq;split
 .split
  .exact .nil (.of1 trivial)
  .exact .none
 .split
  .split
   .exact .bind λv hv=> .nil (R3 (SG _ _) hv)
   .exact .none
  .exact .none
 .exact .none
def ajR{t:TypeId}{i:Int}{v:AV}(hv:InA F v):PIn F (MD P H t i v):=by
 unfold MD;split
 .split
  .split
   .exact .nil (.of1 trivial)
   .exact .none
  .exact .none
 .split
  .split
   .exact .nil (.of1 hv)
   .exact .none
  .exact .none
 .split
  .split
   .exact .nil (.of1 hv)
   .exact .none
  .exact .none
 .exact .none
def aCS(c:Call):PIn F (JD P ρ H c):=by
 unfold JD;split
 .split<;>first|exact .lit|exact .none|skip
  split<;>first|exact .lit|exact .none
 .split
  .split<;>first|exact .lit|exact .none
  .exact .none
 .split
  .split<;>first|exact .lit|exact .none
  .exact .none
 .exact .none
def aB2{c:Call}(hρ:∀x∈c.args.toList,ρ' x=ρ x)(hF:∀x∈c.args.toList,InA F<|ρ x)(hH:Agr F H H'):JD P ρ' H' c=JD P ρ H c:=by
 obtain⟨cal,⟨args⟩,⟨tys⟩⟩:=c;simp only at hρ hF;unfold JD;simp only;split
 .rename_i x t;rw[hρ x<|by simp];have hx:=hF x (by simp);generalize ρ x=v at hx;generalize P.underlying t=u;obtain _|d:=u
  .rfl
  cases d<;>cases v<;>first|rfl|(simp only[hH _ hx];done)|(rename_i v;cases v<;>first|rfl|(rename_i a n c;cases a<;>cases n<;>cases c<;>rfl))
 .rename_i x y;rw[hρ x<|by simp,hρ y<|by simp]
 .rename_i x y;rw[hρ x<|by simp,hρ y<|by simp]
 .rfl
def aDf{N:Nat->Prop}{op:Op}(hF:∀x∈op.operands,InA F<|ρ x)(hN:mov op=A1\/ ∀x∈op.operands,InA N<|ρ x)(hH:∀id ob,N id->H id=I ob->Ep F ob)(hb:F b):PIn F (CA P kd ρ H b op):=by
 cases op<;>simp only[CA]<;>try (exact .none)
 case move x=>exact .okN<|hF x<|by simp[BX]
 case assign x=>exact .okN<|hF x<|by simp[BX]
 case pick c x y=>exact asZ (hF x<|by simp[BX])<|hF y<|by simp[BX]
 case alloc t=>
  split
  .refine .bind λk hk=> .bind λzs hz=> ?_;split
   .exact .one (.of1 hb) trivial
   .exact .none
  .exact .bind λzs hz=> .one (.of1 hb)<|aDI hz
 case box t x=>exact .bind λcs hc=> .one (.of1 hb)<|bJ (hF x<|by simp[BX]) hc
 case build t ps=>
  refine .bind λzs hz=> ?_;split
  .split
   .refine .bind λcs hc=> .okA<|.of2 ?_;refine aBW _ _ (λp hp=>hF p.2 ?_) (aDI hz) hc;simp only[BX,SU,DP];exact⟨p,hp,rfl⟩
   .exact .none
  .exact .none
 case buildSlice t n ps=>
  refine .bind λe _=> .bind λk _=> .bind λvs _=> .bind λxs _=> ?_;split
  .exact .one (.of1 hb) trivial
  .exact .none
 case load t p=>
  exact .bind λv hv=> .okA<|akm (hN.resolve_left (by simp[mov]) p<|by simp[BX]) hH hv
 case nilCheck p=>
  have hp:=hF p (by simp[BX]);split<;>first|exact .none|(rename_i e;rw[e]at hp;exact .okA hp)
 case binOp=>exact awQ _ _ _ _
 case unOp=>exact ae2 _ _
 case convert src dst x=>
  split
  .split
   .exact .bind λv hv=> .lit
   .exact .none
  .split
   .rename_i c id os h;intro q v os' e;cases e;have:=av8 (F:=λ_=>True) trivial src dst (ρ x) _ _ _ h;refine⟨.of1 hb,this.2.1,λob ho=> ?_⟩;unfold Iu at h;split at h<;>first|(cases h;done)|skip
    split at h
    .cases h;simp at ho;subst ho;trivial
    .cases h
   .rename_i h;intro q v os e;unfold Iu at e;split at e
    .cases e;exact⟨.of1 trivial,by simp,by simp⟩
    .cases e;exact⟨.of1 trivial,by simp,by simp⟩
    .split at e
     .cases e;exact(h _ 0 _ (by simp only[Iu, *];rfl)).elim
     .cases e
    .cases e
 case makeSlice t l c=>
  split
  .refine .bind λe _=> .bind λk _=> ?_;split
   .exact .one (.of1 hb) trivial
   .exact .none
  .split
   .refine .bind λe _=> .bind λk _=> ?_;split
    .exact .one (.of1 hb) trivial
    .exact .none
   .exact .none
  .exact .none
 case slice t x lo hi mx=>
  cases mx with
  | some m=>exact .none
  | none=>
   simp only;split
   .exact afH _ _ _
   .exact .none
 case fieldAddr t x f=>
  have hx:=hF x (by simp[BX]);refine .bind λfd _=> ?_;split
  .split
   .rename_i e;rw[e]at hx;exact .okA (.of1 hx)
   .exact .okA (.of1 trivial)
   .exact .none
  .exact .none
 case field t x f=>
  have hx:=hF x (by simp[BX]);refine .bind λfd _=> ?_;split
  .rename_i cs e;rw[e]at hx;exact .bind λv hv=> .okA (R3 hx hv)
  .exact .none
 case indexAddr t x ix=>
  have hx:=hF x (by simp[BX]);split
  .exact ajR hx
  .exact .none
 case index t x ix=>
  split
  .exact asS _ _ _
  .exact .none
 case extract x i=>
  have hx:=hF x (by simp[BX]);split
  .rename_i vs e;rw[e]at hx;exact .bind λv hv=> .okA (.of2<|hx v<|Cg hv)
  .exact .none
 case call c=>exact aCS c
def aG{op:Op}(hρ:∀x∈op.operands,ρ' x=ρ x)(hF0:mov op=A1\/ ∀x∈op.operands,InA F<|ρ x)(hH:Agr F H H'):CA P kd ρ' H' b op=CA P kd ρ H b op:=by
 have one:∀ {x:Operand},x∈op.operands->ρ' x=ρ x:=λh=>hρ _ h;cases op<;>simp only[CA]
 case move x=>rw[hρ x<|by simp[BX]]
 case assign x=>rw[hρ x<|by simp[BX]]
 case pick c x y=>
  have h1:=hρ c (by simp[BX]);have h2:=hρ x (by simp[BX]);have h3:=hρ y (by simp[BX]);unfold Ov;rw[h1];split
  .simp only[h3]
  .simp only[h2]
  .simp only[h2,h3]
  .rfl
 case box t x=>rw[hρ x<|by simp[BX]]
 case build t ps=>
  have:∀zs,Hk P ρ' t ps.toList zs=Hk P ρ t ps.toList zs:=λzs=>aAh _ _ λp hp=>hρ p.2 (by
   simp only[BX,SU,DP];exact⟨p,hp,rfl⟩)
  simp only[this]
 case buildSlice t n ps=>
  have:Hv ρ' 0 ps.toList=Hv ρ 0 ps.toList:=zY _ _ λp hp=>hρ p.2 (by
   simp only[BX,SU,DP];exact⟨p,hp,rfl⟩)
  simp only[this]
 case load t p=>
  have hF:=hF0.resolve_left (by simp[mov]);rw[hρ p<|by simp[BX],aiE (hF p<|by simp[BX]) hH]
 case nilCheck p=>rw[hρ p<|by simp[BX]]
 case binOp o t x y t2=>rw[hρ x<|by simp[BX],hρ y<|by simp[BX]]
 case unOp o t x=>rw[hρ x<|by simp[BX]]
 case convert src dst x=>
  have hF:=hF0.resolve_left (by simp[mov]);rw[hρ x<|by simp[BX],oy (hF x<|by simp[BX]) hH]
 case makeSlice t l c=>rw[hρ l<|by simp[BX],hρ c<|by simp[BX]]
 case slice t x lo hi mx=>
  have hF:=hF0.resolve_left (by simp[mov]);cases mx with
  | some m=>rfl
  | none=>
   have h1:=hρ x (by simp[BX]);have h2:lo.map ρ'=lo.map ρ:=by cases lo with
    | none=>rfl
    | some l=>exact congrArg I<|hρ l<|by simp[BX]
   have h3:hi.map ρ'=hi.map ρ:=by cases hi with
    | none=>rfl
    | some l=>exact congrArg I<|hρ l<|by simp[BX]
   simp only;rw[h1,h2,h3,tz (hF x<|by simp[BX]) hH]
 case fieldAddr t x f=>rw[hρ x<|by simp[BX]]
 case field t x f=>rw[hρ x<|by simp[BX]]
 case indexAddr t x ix=>
  have hF:=hF0.resolve_left (by simp[mov]);rw[hρ x<|by simp[BX],hρ ix<|by simp[BX]];split
  .rw[ae3 (hF x<|by simp[BX]) hH]
  .rfl
 case index t x ix=>rw[hρ x<|by simp[BX],hρ ix<|by simp[BX]]
 case extract x i=>rw[hρ x<|by simp[BX]]
 case call c=>
  have hF:=hF0.resolve_left (by simp[mov]);refine aB2 (λx hx=>hρ x ?_) (λx hx=>hF x ?_) hH<;>
  .simp only[BX,ND,Nq];exact .inr<|by simpa using hx
end
end Go.VS
namespace Go.VS
open Go
inductive Fk where
 | no
 | kl
 | fz (k:K) (xs:List (Tof k))
def Fk.f(id:Nat):Fk->AV->AV
 | .no=>λv=>v
 | .kl=>kl1 id
 | .fz k xs=>fz1 id k xs
structure Step where
 id:Nat
 fk:Fk
 ob:Option Ob
def S.app(s:S)(e:Step):S:=(s.map<|e.fk.f e.id).ES e.id e.ob
def Gc(F:Nat->Prop)(e:Step):Prop:=∀ob,e.ob=I ob->Ep F ob
def Loc{α:Type}(F W:Nat->Prop)(g:S->Option (α×S))(s:S)(x:α)(s':S):Prop:=
 ∃es:List Step,(∀e∈es,W e.id/\Gc F e)/\s'=es.foldl S.app s/\ ∀s2:S,Agr F s.H s2.H->g s2=I (x,es.foldl S.app s2)
section
variable {F W:Nat->Prop} {H H':Hp} {P:Program} {kd:TypeId->Option K} {s s' s2:S} {b:Nat}
def avq(v:AV):Ft (λv=>v) v=v:=by cases v<;>simp[Ft]
def aC6:(Ft λv=>v)=id:=funext avq
def auR(v:AV):GA (λv=>v) v=v:=by
 cases v<;>simp[GA,aC6]
 all_goals simp[Ft]
def akD(v:AV):En (λv=>v) v=v:=by
 cases v with
 | gd g w v=>simp[En,auR]
 | tup vs=>simp[En,GA,aC6]
 | _=>simp[En,GA,Ft]
def ayM(o:Option Ob):CJ (λv=>v) o=o:=by
 cases o with
 | none=>rfl
 | some o=>cases o<;>simp[CJ]
def map_id(s:S):s.map (λv=>v)=s:=by
 cases s;simp[S.map,akD,ayM]
def Il(s:S)(id:Nat)(o:Option Ob):s.app ⟨id,.no,o⟩=s.ES id o:=by
 simp[S.app,Fk.f,map_id]
def Lf(s:S)(e:Step)(j:Nat):(s.app e).H j=if j=e.id then e.ob else CJ (e.fk.f e.id) (s.H j):=by
 show upd (λj=>CJ (e.fk.f e.id)<|s.H j) e.id e.ob j=_;by_cases h:j=e.id
 .subst h;rw[Bl];simp
 .rw[BE _ _ h];simp[h]
def Agr.app(h:Agr F s.H s2.H)(e:Step):Agr F (s.app e).H (s2.app e).H:=λid hid=>by rw[Lf,Lf,h id hid]
def Agr.sj{es:List Step}(h:Agr F s.H s2.H):Agr F (es.foldl S.app s).H (es.foldl S.app s2).H:=by
 induction es generalizing s s2 with
 | nil=>exact h
 | cons e es ih=>exact ih<|h.app e
def Agr.refl(F:Nat->Prop)(H:Hp):Agr F H H:=λ_ _=>rfl
def Fk.fS(id:Nat)(fk:Fk){c:AV}(h:In1 F c):In1 F (fk.f id c):=by
 cases fk with
 | no=>exact h
 | kl=>
  show In1 F (kl1 id c);unfold kl1;split
  .split
   .trivial
   .exact h
  .split
   .trivial
   .exact h
  .exact h
 | fz k xs=>
  show In1 F (fz1 id k xs c);unfold fz1;split
  .split
   .trivial
   .exact h
  .split
   .trivial
   .exact h
  .exact h
def aaH{f:AV->AV}(hf:∀c,In1 F c->In1 F (f c)){o:Option Ob}(h:∀ob,o=I ob->Ep F ob):∀ob,CJ f o=I ob->Ep F ob:=by
 intro ob e;cases o with
 | none=>cases e
 | some o=>
  have:=h o rfl;cases o with
  | box t cs=>
   cases e;intro c hc;obtain⟨c0,h0,rfl⟩:=DP.1 hc;exact hf _<|this c0 h0
  | _=>cases e;trivial
def DY.app{e:Step}(h:DY F s.H)(he:Gc F e):DY F (s.app e).H:=by
 intro j ob hj hob;rw[Lf]at hob;split at hob
 .exact he ob hob
 .exact aaH (λc hc=>Fk.fS _ _ hc) (λob ho=>h j ob hj ho) ob hob
def aCG(s:S)(id:Nat):∃fk,s.freeze id=s.app ⟨id,fk,U⟩/\ ∀s2:S,s2.H id=s.H id->s2.freeze id=s2.app ⟨id,fk,U⟩:=by
 cases h:s.H id with
 | none=>exact⟨.kl,by simp only[S.freeze,h];rfl,λs2 h2=>by simp only[S.freeze,h2];rfl⟩
 | some ob=>
  cases ob with
  | row e fz k xs=>exact⟨.fz k xs,by simp only[S.freeze,h];rfl,λs2 h2=>by simp only[S.freeze,h2];rfl⟩
  | box e cs=>exact⟨.kl,by simp only[S.freeze,h];rfl,λs2 h2=>by simp only[S.freeze,h2];rfl⟩
  | arr e k xs=>exact⟨.kl,by simp only[S.freeze,h];rfl,λs2 h2=>by simp only[S.freeze,h2];rfl⟩
def Wo:∀(ids:List Nat) (s:S),(∀i∈ids,F i)->∃es:List Step,(∀e∈es,e.id∈ids/\e.ob=U)/\ids.foldl S.freeze s=es.foldl S.app s/\ ∀s2:S,Agr F s.H s2.H->ids.foldl S.freeze s2=es.foldl S.app s2
 | [],s,_=>⟨[],by simp,rfl,λ_ _=>rfl⟩
 | i::ids,s,hF=>by
  obtain⟨fk,h1,h2⟩:=aCG s i;obtain⟨es,h3,h4,h5⟩:=Wo ids (s.freeze i) λj hj=>hF j<|Al _ hj;refine⟨⟨i,fk,U⟩::es,λe he=> ?_, ?_,λs2 hs=> ?_⟩
  .rcases Bk.1 he with rfl|he
   .exact⟨Ap,rfl⟩
   .exact⟨Al _ (h3 e he).1,(h3 e he).2⟩
  .show ids.foldl S.freeze (s.freeze i)=es.foldl S.app (s.app ⟨i,fk,U⟩);rw[h4,h1]
  .have e1:=h2 s2<|hs i<|hF i Ap;simp only[Dx,e1];refine h5 _ ?_;rw[h1];exact hs.app _
def aCj:∀(ids:List Nat) (s:S),∃es:List Step,(∀e∈es,e.id∈ids/\e.ob=U)/\ids.foldl S.kill s=es.foldl S.app s/\ ∀s2:S,ids.foldl S.kill s2=es.foldl S.app s2
 | [],s=>⟨[],by simp,rfl,λ_=>rfl⟩
 | i::ids,s=>by
  obtain⟨es,h3,h4,h5⟩:=aCj ids<|s.kill i;refine⟨⟨i,.kl,U⟩::es,λe he=> ?_, ?_,λs2=> ?_⟩
  .rcases Bk.1 he with rfl|he
   .exact⟨Ap,rfl⟩
   .exact⟨Al _ (h3 e he).1,(h3 e he).2⟩
  .exact h4
  .exact h5 _
def ayo{k:K}{cs:List AV}(hc:∀c∈cs,In1 F c)(hH:Agr F H H'):dec H' k cs=dec H k cs:=by
 have key:∀c∈cs,∀k,CF H' k c=CF H k c:=λc hm k=>oy (.of1<|hc c hm) hH;unfold dec;split<;>first|rfl|simp[key]
def Loc.mk1{α:Type}{g:S->Option (α×S)}{x:α}(e:Step)(hW:W e.id)(ho:Gc F e)(h1:s'=s.app e)(h:∀s2:S,Agr F s.H s2.H->g s2=I (x,s2.app e)):Loc F W g s x s':=
 ⟨[e],λe' he=>by simp at he;subst he;exact⟨hW,ho⟩,h1,h⟩
def abm{ys:List AV}(hy:∀c∈ys,In1 F c):∀i∈ys.filterMap Gm,F i:=by
 intro i hi;obtain⟨c,h1,h2⟩:=GZ.1 hi;have:=hy c h1;cases c<;>first|(cases h2;done)|(cases h2;exact this)
def az8{t:TypeId}{x y:AV}(hx:InA F x)(hy:InA F y)(hcl:DY F s.H)(h:Ic P t s x y=I s'):Loc F (λi=>i∈Ou s.H x y) (λs=>(Ic P t s x y).map λs=>((),s)) s () s':=by
 cases x<;>first|(cases h;done)|skip
 rename_i id z i o;have hid:F id:=hx;simp only[Ic]at h;split at h
 .rename_i e cs hob;split at h
  .obtain⟨ys,hc,h⟩:=An.1 h;split at h
   .rename_i hg;cases h;refine .mk1 ⟨id,.no,I<|.box e<|H4 cs o ys⟩ (by simp[Ou,hob]) ?_ (Il _ _ _).symm λs2 h2=> ?_
    .intro ob e';cases e';exact q8 (hcl id _ hid hob) (bJ hy hc)
    .rw[Il];simp only[Ic,h2 id hid,hob,hc,A9,hg];rfl
   .cases h
  .cases h
 .rename_i e fz k xs hob;obtain⟨ys,hc,h⟩:=An.1 h;split at h
  .rename_i hg;obtain⟨v,hd,h⟩:=An.1 h;cases h;have hys:=bJ hy hc;obtain⟨es,h3,h4,h5⟩:=Wo (F:=F) (ys.filterMap Gm) s<|abm hys;refine⟨es++[⟨id,.no,I<|.row e fz k<|xs.set i v⟩],λe' he=> ?_, ?_,λs2 h2=> ?_⟩
   .have hsw:Ou s.H (.ptr id z i o) y=id::ys.filterMap Gm:=by simp[Ou,hob,hc]
    rw[hsw];rcases Br.1 he with he|he
    .exact⟨Al _ (h3 e' he).1,λob eo=>by rw[(h3 e' he).2]at eo;cases eo⟩
    .simp at he;subst he;exact⟨Ap,λob eo=>by cases eo;trivial⟩
   .rw[Iq,← h4];exact(Il _ _ _).symm
   .rw[Iq,← h5 s2 h2];have hd2:dec s2.H k (H4 (enc k<|xs.getD i<|dfl k) o ys)=I v:=by
     rw[ayo (q8 (SG _ _) hys) h2];exact hd
    simp only[Ic,h2 id hid,hob,hc,A9,hg,hd2,Dx,MX,Il];rfl
  .cases h
 .rename_i e k xs hob;obtain⟨ys,hc,h⟩:=An.1 h;split at h
  .rename_i hg;obtain⟨v,hd,h⟩:=An.1 h;cases h;refine .mk1 ⟨id,.no,I<|.arr e k<|xs.set i v⟩ (by simp[Ou,hob]) (λob e'=>by cases e';trivial) (Il _ _ _).symm λs2 h2=> ?_;rw[Il];simp only[Ic,h2 id hid,hob,hc,A9,hg,hd];rfl
  .cases h
 .cases h
def akg{t t2:TypeId}{x y v:AV}{q:Bool}(hx:InA F x)(hy:InA F y)(hb:F b)(h:Jy P kd t t2 s b x y=I (q,v,s')):
  Loc F (λi=>i=b\/i∈Ju x) (λs=>(Jy P kd t t2 s b x y).map λr=>((r.1,r.2.1),r.2.2)) s (q,v) s'/\InA F v:=by
 unfold Jy at h;obtain⟨e,he,h1⟩:=An.1 h;obtain⟨k,hk,h2⟩:=An.1 h1;obtain⟨ys,hys,h3⟩:=An.1 h2;clear h h1 h2;revert h3;intro h;split at h
 .rename_i hg;cases h;refine⟨.mk1 ⟨b,.no,I<|.row e A3 k ys⟩ (.inl rfl) (λob e'=>by cases e';trivial) (Il _ _ _).symm λs2 h2=> ?_,.of1 hb⟩;rw[Il];simp only[Jy,he,hk,A9,qQ hy h2,hys,hg];rfl
 .rename_i id hg;have hid:F id:=hx;split at h
  .rename_i e' k' xs hob hne;split at h
   .rename_i hee;obtain⟨zs,hz,h⟩:=An.1 h;cases h;refine⟨.mk1 ⟨id,.kl,I<|.row e A3 k<|zs++ys⟩ (.inr<|by simp[Ju,Gm]) (λob e'=>by cases e';trivial) rfl λs2 h2=> ?_,.of1 hid⟩;simp only[Jy,he,hk,A9,qQ hy h2,hys,hg,h2 id hid,hob,hne,hee,hz];rfl
   .cases h
  .cases h
 .cases h
def aoG{t:TypeId}{x y v:AV}(hx:InA F x)(hy:InA F y)(h:Kd P t s x y=I (v,s')):
  Loc F (λi=>i∈Ju x) (λs=>Kd P t s x y) s v s'/\InA F v:=by
 unfold Kd at h;split at h
 .rename_i id;have hid:F id:=hx;split at h
  .rename_i e fz k xs hob hne;obtain⟨e',he,h⟩:=An.1 h;split at h
   .rename_i hg;obtain⟨ys,hys,h⟩:=An.1 h;cases h;refine⟨.mk1 ⟨id,.no,I<|.row e fz k<|ys.take xs.length++xs.drop ys.length⟩ (by simp[Ju,Gm]) (λob e'=>by cases e';trivial) (Il _ _ _).symm λs2 h2=> ?_,.of1 trivial⟩;rw[Il];simp only[Kd,h2 id hid,hob,hne,he,A9,hg,qQ hy h2,hys]
   .cases h
  .cases h
 .cases h
def alG{id:Nat}{z:Bool}{lo hi:Option AV}{v:AV}{q:Bool}(hid:F id)(h:Kc s id z lo hi=I (q,v,s')):
  Loc F (λi=>i=id) (λs=>(Kc s id z lo hi).map λr=>((r.1,r.2.1),r.2.2)) s (q,v) s'/\InA F v:=by
 unfold Kc at h;split at h
 .rename_i e fz k xs hob;obtain⟨⟨c,l,hh⟩,hc,h⟩:=An.1 h;simp only at h;split at h
  .cases h;refine⟨.mk1 ⟨id,.kl,I<|.row e fz k<|J5 lo U l hh xs⟩ rfl (λob e'=>by cases e';trivial) rfl λs2 h2=> ?_,.of1 hid⟩;simp only[Kc,h2 id hid,hob,hc,A9];rfl
  .cases h
  .cases h;obtain⟨fk,h1,h2⟩:=aCG s id;refine⟨.mk1 ⟨id,fk,U⟩ rfl (λob e'=>by cases e') h1 λs2 h3=> ?_,.of1 trivial⟩;rw[← h2 s2<|h3 id hid];simp only[Kc,h3 id hid,hob,hc,A9];rfl
 .cases h
end
end Go.VS
namespace Go.VS
open Go
abbrev EK(es:List (Nat×Ob))(H:Hp):Hp:=es.foldl (λH p=>upd H p.1<|I p.2) H
section
variable {F W:Nat->Prop} {H H':Hp} {P:Program} {s s' s2:S} {b:Nat} {E:Nat->AV}
set_option linter.unusedSectionVars false
def InA.Iv{cs:List AV}(h:∀c∈cs,In1 F c):∀c∈cs,InA F c:=λc hc=> .of1<|h c hc
section eqs
variable (hH:Agr F H H') (hC:DY F H)
include hH hC
mutual
theorem ag8:∀(h:Sh) (v:AV),InA F v->Bp E H' h v=Bp E H h v
 | .int _,v,_=>by cases v with
  | lit v=>cases v<;>rfl
  | _=>rfl
 | .bool,v,_=>by cases v with
  | lit v=>cases v<;>rfl
  | _=>rfl
 | .str,v,_=>by cases v with
  | lit v=>cases v<;>rfl
  | _=>rfl
 | .sl _,v,_=>by
  cases v with
  | lit v=>cases v with
   | slice a n c=>cases a<;>cases n<;>cases c<;>rfl
   | _=>rfl
  | _=>rfl
 | .arr _,v,_=>by cases v<;>rfl
 | .same _,v,_=>by
  cases v with
  | ptr id z i o=>cases i<;>cases o<;>rfl
  | _=>rfl
 | .fz k,v,hv=>oy hv hH
 | .row e k,v,hv=>by
  cases v with
  | own id=>simp only[Bp,hH id hv]
  | lit v=>cases v with
   | slice a n c=>cases a<;>cases n<;>cases c<;>rfl
   | _=>rfl
  | _=>rfl
 | .Cb e k,v,hv=>by
  cases v with
  | own id=>simp only[Bp,hH id hv]
  | _=>rfl
 | .abx e k,v,hv=>by
  cases v with
  | ptr id z i o=>cases i<;>cases o<;>first|rfl|simp only[Bp,hH id hv]
  | _=>rfl
 | .agg l,v,hv=>by
  cases v with
  | agg cs=>exact VD l cs<|InA.Iv hv
  | _=>rfl
 | .box e l,v,hv=>by
  cases v with
  | ptr id z i o=>
   cases i<;>cases o<;>first|rfl|skip
   simp only[Bp,hH id hv];cases ho:H id with
   | none=>rfl
   | some ob=>
    cases ob with
    | box e' cs=>
     have:=VD l cs<|InA.Iv<|hC id _ hv ho;simp only[this]
    | _=>rfl
  | _=>rfl
theorem VD:∀(l:List Sh) (cs:List AV),(∀c∈cs,InA F c)->Fv E H' l cs=Fv E H l cs
 | [],[],_=>rfl
 | [],_::_,_=>rfl
 | _::_,[],_=>rfl
 | h::l,c::cs,hv=>by
  simp only[Fv,ag8 h c<|hv c Ap,VD l cs λd hd=>hv d<|Al _ hd]
end
mutual
theorem am1:∀(h:Sh) (v:AV),InA F v->CV H' h v=CV H h v
 | .int _,_,_=>rfl
 | .bool,_,_=>rfl
 | .str,_,_=>rfl
 | .sl _,_,_=>rfl
 | .arr _,_,_=>rfl
 | .same _,_,_=>rfl
 | .fz k,_,_=>rfl
 | .row e k,v,_=>by cases v<;>rfl
 | .Cb e k,v,_=>by cases v<;>rfl
 | .abx e k,v,_=>by
  cases v with
  | ptr id z i o=>cases i<;>cases o<;>rfl
  | _=>rfl
 | .agg l,v,hv=>by
  cases v with
  | agg cs=>exact SV l cs<|InA.Iv hv
  | _=>rfl
 | .box e l,v,hv=>by
  cases v with
  | ptr id z i o=>
   cases i<;>cases o<;>first|rfl|skip
   simp only[CV,hH id hv];cases ho:H id with
   | none=>rfl
   | some ob=>
    cases ob with
    | box e' cs=>
     have:=SV l cs<|InA.Iv<|hC id _ hv ho;simp only[this]
    | _=>rfl
  | _=>rfl
theorem SV:∀(l:List Sh) (cs:List AV),(∀c∈cs,InA F c)->Bm H' l cs=Bm H l cs
 | [],_,_=>by simp only[Bm]
 | _::_,[],_=>by simp only[Bm]
 | h::l,c::cs,hv=>by
  simp only[Bm,am1 h c<|hv c Ap,SV l cs λd hd=>hv d<|Al _ hd]
end
mutual
theorem atE:∀(h:Sh) (v:AV),InA F v->CD H' h v=CD H h v
 | .int _,_,_=>rfl
 | .bool,_,_=>rfl
 | .str,_,_=>rfl
 | .sl _,_,_=>rfl
 | .arr _,_,_=>rfl
 | .same _,_,_=>rfl
 | .fz k,_,_=>rfl
 | .row e k,v,_=>by cases v<;>rfl
 | .Cb e k,v,_=>by cases v<;>rfl
 | .abx e k,v,_=>by
  cases v with
  | ptr id z i o=>cases i<;>cases o<;>rfl
  | _=>rfl
 | .agg l,v,hv=>by
  cases v with
  | agg cs=>exact To l cs<|InA.Iv hv
  | _=>rfl
 | .box e l,v,hv=>by
  cases v with
  | ptr id z i o=>
   cases i<;>cases o<;>first|rfl|skip
   simp only[CD,hH id hv];cases ho:H id with
   | none=>rfl
   | some ob=>
    cases ob with
    | box e' cs=>
     have:=To l cs<|InA.Iv<|hC id _ hv ho;simp only[this]
    | _=>rfl
  | _=>rfl
theorem To:∀(l:List Sh) (cs:List AV),(∀c∈cs,InA F c)->CU H' l cs=CU H l cs
 | [],_,_=>by simp only[CU]
 | _::_,[],_=>by simp only[CU]
 | h::l,c::cs,hv=>by
  simp only[CU,atE h c<|hv c Ap,To l cs λd hd=>hv d<|Al _ hd]
end
mutual
theorem aul:∀(h:Sh) (v:AV),InA F v->Cn H' h v=Cn H h v
 | .int _,_,_=>rfl
 | .bool,_,_=>rfl
 | .str,_,_=>rfl
 | .sl _,_,_=>rfl
 | .arr _,_,_=>rfl
 | .same _,_,_=>rfl
 | .fz k,v,_=>by cases v<;>rfl
 | .row e k,_,_=>rfl
 | .Cb e k,_,_=>rfl
 | .abx e k,_,_=>rfl
 | .agg l,v,hv=>by
  cases v with
  | agg cs=>exact aI l cs<|InA.Iv hv
  | _=>rfl
 | .box e l,v,hv=>by
  cases v with
  | ptr id z i o=>
   cases i<;>cases o<;>first|rfl|skip
   simp only[Cn,hH id hv];cases ho:H id with
   | none=>rfl
   | some ob=>
    cases ob with
    | box e' cs=>
     have:=aI l cs<|InA.Iv<|hC id _ hv ho;simp only[this]
    | _=>rfl
  | _=>rfl
theorem aI:∀(l:List Sh) (cs:List AV),(∀c∈cs,InA F c)->Cz H' l cs=Cz H l cs
 | [],_,_=>by simp only[Cz]
 | _::_,[],_=>by simp only[Cz]
 | h::l,c::cs,hv=>by
  simp only[Cz,aul h c<|hv c Ap,aI l cs λd hd=>hv d<|Al _ hd]
end
end eqs
section mem
variable (hC:DY F H)
include hC
mutual
theorem aha:∀(h:Sh) (v:AV),InA F v->∀i∈CD H h v,F i
 | .int _,_,_,_,hi=>by simp[CD]at hi
 | .bool,_,_,_,hi=>by simp[CD]at hi
 | .str,_,_,_,hi=>by simp[CD]at hi
 | .sl _,_,_,_,hi=>by simp[CD]at hi
 | .arr _,_,_,_,hi=>by simp[CD]at hi
 | .same _,_,_,_,hi=>by simp[CD]at hi
 | .fz k,_,_,_,hi=>by simp[CD]at hi
 | .row e k,v,hv,i,hi=>by
  cases v<;>simp[CD]at hi;subst hi;exact hv
 | .Cb e k,v,hv,i,hi=>by
  cases v<;>simp[CD]at hi;subst hi;exact hv
 | .abx e k,v,hv,j,hi=>by
  cases v with
  | ptr id z i o=>
   cases i<;>cases o<;>simp[CD]at hi;subst hi;exact hv
  | _=>simp[CD]at hi
 | .agg l,v,hv,j,hi=>by
  cases v with
  | agg cs=>exact dy l cs (InA.Iv hv) j<|by simpa[CD] using hi
  | _=>simp[CD]at hi
 | .box e l,v,hv,j,hi=>by
  cases v with
  | ptr id z i o=>
   cases i<;>cases o<;>simp only[CD]at hi<;>first|(simp at hi;done)|skip
   cases ho:H id with
   | none=>simp[ho]at hi
   | some ob=>
    cases ob with
    | box e' cs=>
     simp only[ho]at hi;exact dy l cs (InA.Iv<|hC id _ hv ho) j hi
    | _=>simp[ho]at hi
  | _=>simp[CD]at hi
theorem dy:∀(l:List Sh) (cs:List AV),(∀c∈cs,InA F c)->∀i∈CU H l cs,F i
 | [],cs,_,i,hi=>by simp[CU]at hi
 | _::_,[],_,i,hi=>by simp[CU]at hi
 | h::l,c::cs,hv,i,hi=>by
  simp only[CU,Br]at hi;obtain hi|hi:=hi
  .exact aha h c (hv c Ap) i hi
  .exact dy l cs (λd hd=>hv d<|Al _ hd) i hi
end
mutual
theorem apm:∀(h:Sh) (v:AV),InA F v->∀i∈Cn H h v,F i
 | .int _,_,_,_,hi=>by simp[Cn]at hi
 | .bool,_,_,_,hi=>by simp[Cn]at hi
 | .str,_,_,_,hi=>by simp[Cn]at hi
 | .sl _,_,_,_,hi=>by simp[Cn]at hi
 | .arr _,_,_,_,hi=>by simp[Cn]at hi
 | .same _,_,_,_,hi=>by simp[Cn]at hi
 | .row e k,_,_,_,hi=>by simp[Cn]at hi
 | .Cb e k,_,_,_,hi=>by simp[Cn]at hi
 | .abx e k,_,_,_,hi=>by simp[Cn]at hi
 | .fz k,v,hv,i,hi=>by
  cases v<;>simp[Cn]at hi;subst hi;exact hv
 | .agg l,v,hv,j,hi=>by
  cases v with
  | agg cs=>exact TR l cs (InA.Iv hv) j<|by simpa[Cn] using hi
  | _=>simp[Cn]at hi
 | .box e l,v,hv,j,hi=>by
  cases v with
  | ptr id z i o=>
   cases i<;>cases o<;>simp only[Cn]at hi<;>first|(simp at hi;done)|skip
   cases ho:H id with
   | none=>simp[ho]at hi
   | some ob=>
    cases ob with
    | box e' cs=>
     simp only[ho]at hi;exact TR l cs (InA.Iv<|hC id _ hv ho) j hi
    | _=>simp[ho]at hi
  | _=>simp[Cn]at hi
theorem TR:∀(l:List Sh) (cs:List AV),(∀c∈cs,InA F c)->∀i∈Cz H l cs,F i
 | [],cs,_,i,hi=>by simp[Cz]at hi
 | _::_,[],_,i,hi=>by simp[Cz]at hi
 | h::l,c::cs,hv,i,hi=>by
  simp only[Cz,Br]at hi;obtain hi|hi:=hi
  .exact apm h c (hv c Ap) i hi
  .exact TR l cs (λd hd=>hv d<|Al _ hd) i hi
end
end mem
mutual
theorem EN (E:Nat->AV):∀(h:Sh) (H:Hp) (b:Nat) (x:LT h),b<=(BL E H b h x).2.2
 | .int _,_,b,_=>As b
 | .bool,_,b,_=>As b
 | .str,_,b,_=>As b
 | .sl _,_,b,_=>As b
 | .arr _,_,b,_=>As b
 | .same _,_,b,_=>As b
 | .fz _,_,b,_=>As b
 | .row _ _,_,b,_=>mQ b
 | .Cb _ _,_,b,_=>mQ b
 | .abx _ _,_,b,_=>mQ b
 | .agg l,H,b,x=>by
  have:=JB E l H b x;show b<=((match Ak E H b l x with|(cs,H,b)=>(AV.agg cs,H,b)):AV×Hp×Nat).2.2;generalize Ak E H b l x=r at *;obtain⟨cs,H',b'⟩:=r;exact this
 | .box e l,H,b,x=>by
  have:=JB E l H b x;show b<=((match Ak E H b l x with|(cs,H,b)=>(AV.ptr b cs.length 0 0,upd H b<|I<|.box e cs,b+1)):AV×Hp×Nat).2.2;generalize Ak E H b l x=r at *;obtain⟨cs,H',b'⟩:=r;exact Nat.le_succ_of_le this
theorem JB (E:Nat->AV):∀(l:List Sh) (H:Hp) (b:Nat) (x:LTs l),b<=(Ak E H b l x).2.2
 | [],_,b,_=>As b
 | h::l,H,b,x=>by
  have h1:=EN E h H b x.1;show b<=((match BL E H b h x.1 with|(c,H,b)=>match Ak E H b l x.2 with|(cs,H,b)=>(c::cs,H,b)):List AV×Hp×Nat).2.2;generalize BL E H b h x.1=r at *;obtain⟨c,H',b'⟩:=r;have h2:=JB E l H' b' x.2;show b<=((match Ak E H' b' l x.2 with|(cs,H,b)=>(c::cs,H,b)):List AV×Hp×Nat).2.2;generalize Ak E H' b' l x.2=r at *;obtain⟨cs,H'',b''⟩:=r;exact CB h1 h2
end
mutual
theorem mC (E:Nat->AV) (H H':Hp):∀(h:Sh) (b:Nat) (x:LT h),(BL E H b h x).1=(BL E H' b h x).1/\(BL E H b h x).2.2=(BL E H' b h x).2.2
 | .int _,_,_=>⟨rfl,rfl⟩
 | .bool,_,_=>⟨rfl,rfl⟩
 | .str,_,_=>⟨rfl,rfl⟩
 | .sl _,_,_=>⟨rfl,rfl⟩
 | .arr _,_,_=>⟨rfl,rfl⟩
 | .same _,_,_=>⟨rfl,rfl⟩
 | .fz _,_,_=>⟨rfl,rfl⟩
 | .row _ _,_,_=>⟨rfl,rfl⟩
 | .Cb _ _,_,_=>⟨rfl,rfl⟩
 | .abx _ _,_,_=>⟨rfl,rfl⟩
 | .agg l,b,x=>by
  have:=P2 E H H' l b x;have un:∀H,BL E H b (.agg l) x=(match Ak E H b l x with|(cs,H,b)=>(AV.agg cs,H,b)):=λ_=>rfl;rw[un,un];generalize Ak E H b l x=r at *;generalize Ak E H' b l x=r' at *;obtain⟨cs,H1,b1⟩:=r;obtain⟨cs',H1',b1'⟩:=r';obtain⟨rfl,rfl⟩:=this;exact⟨rfl,rfl⟩
 | .box e l,b,x=>by
  have:=P2 E H H' l b x;have un:∀H,BL E H b (.box e l) x=(match Ak E H b l x with|(cs,H,b)=>(AV.ptr b cs.length 0 0,upd H b<|I<|.box e cs,b+1)):=λ_=>rfl;rw[un,un];generalize Ak E H b l x=r at *;generalize Ak E H' b l x=r' at *;obtain⟨cs,H1,b1⟩:=r;obtain⟨cs',H1',b1'⟩:=r';obtain⟨rfl,rfl⟩:=this;exact⟨rfl,rfl⟩
theorem P2 (E:Nat->AV) (H H':Hp):∀(l:List Sh) (b:Nat) (x:LTs l),(Ak E H b l x).1=(Ak E H' b l x).1/\(Ak E H b l x).2.2=(Ak E H' b l x).2.2
 | [],_,_=>⟨rfl,rfl⟩
 | h::l,b,x=>by
  have h1:=mC E H H' h b x.1;have un:∀H,Ak E H b (h::l) x=(match BL E H b h x.1 with|(c,H,b)=>match Ak E H b l x.2 with|(cs,H,b)=>(c::cs,H,b)):=λ_=>rfl;rw[un,un];generalize BL E H b h x.1=r at *;generalize BL E H' b h x.1=r' at *;obtain⟨c,H1,b1⟩:=r;obtain⟨c',H1',b1'⟩:=r';obtain⟨rfl,rfl⟩:=h1;have h2:=P2 E H1 H1' l b1 x.2;simp only;generalize Ak E H1 b1 l x.2=r at *;generalize Ak E H1' b1 l x.2=r' at *;obtain⟨cs,H2,b2⟩:=r;obtain⟨cs',H2',b2'⟩:=r';obtain⟨rfl,rfl⟩:=h2;exact⟨rfl,rfl⟩
end
mutual
theorem YF (E:Nat->AV):∀(h:Sh) (b:Nat) (x:LT h) (L:Nat),Ds h=A1->(∀j,b<=j->j<L->F j/\W j)->(∀H,(BL E H b h x).2.2<=L)->
  ∃v es b',In1 F v/\(∀p∈es,W p.1/\Ep F p.2)/\ ∀H,BL E H b h x=(v,EK es H,b')
 | .int k,b,x,_,_,_,_=>⟨.lit<|.int k x,[],b,trivial,by simp,λ_=>rfl⟩
 | .bool,b,x,_,_,_,_=>⟨.b x,[],b,trivial,by simp,λ_=>rfl⟩
 | .str,b,x,_,_,_,_=>⟨.s x,[],b,trivial,by simp,λ_=>rfl⟩
 | .sl k,b,x,_,_,_,_=>⟨.sl k x,[],b,trivial,by simp,λ_=>rfl⟩
 | .arr _,_,_,_,h,_,_=>by simp[Ds]at h
 | .same _,_,_,_,h,_,_=>by simp[Ds]at h
 | .fz k,b,x,_,_,_,_=>⟨.sl k x,[],b,trivial,by simp,λ_=>rfl⟩
 | .row e k,b,x,L,_,hF,hL=>⟨.own b,[(b,.row e A3 k x)],b+1,(hF b (As b)<|hL λ_=>U).1,λp hp=>by
   simp at hp;subst hp;exact⟨(hF b (As b)<|hL λ_=>U).2,trivial⟩,λ_=>rfl⟩
 | .Cb e k,b,x,L,_,hF,hL=>⟨.own b,[(b,.row e A1 k x)],b+1,(hF b (As b)<|hL λ_=>U).1,λp hp=>by
   simp at hp;subst hp;exact⟨(hF b (As b)<|hL λ_=>U).2,trivial⟩,λ_=>rfl⟩
 | .abx e k,b,x,L,_,hF,hL=>⟨.ptr b (ks k) 0 0,[(b,.arr e k x)],b+1,(hF b (As b)<|hL λ_=>U).1,λp hp=>by
   simp at hp;subst hp;exact⟨(hF b (As b)<|hL λ_=>U).2,trivial⟩,λ_=>rfl⟩
 | .agg _,_,_,_,h,_,_=>by simp[Ds]at h
 | .box e l,b,x,L,h,hF,hL=>by
  have un:∀H,BL E H b (.box e l) x=(match Ak E H b l x with|(cs,H,b)=>(AV.ptr b cs.length 0 0,upd H b<|I<|.box e cs,b+1)):=λ_=>rfl;have hL':∀H,(Ak E H b l x).2.2+1<=L:=λH=>by
   have:=hL H;rw[un]at this;generalize Ak E H b l x=r at *;exact this
  obtain⟨vs,es,b',h1,h2,h3⟩:=rM E l b x L (by simpa[Ds] using h) hF (λH=>Nat.le_of_succ_le<|hL' H);have hb':b'<L:=by have:=hL' λ_=>U;rw[h3]at this;exact this
  have hbb:b<=b':=by have:=JB E l (λ_=>U) b x;rw[h3]at this;exact this
  refine⟨.ptr b' vs.length 0 0,es++[(b',.box e vs)],b'+1,(hF b' hbb hb').1,λp hp=> ?_,λH=> ?_⟩
  .rcases Br.1 hp with hp|hp
   .exact h2 p hp
   .simp at hp;subst hp;exact⟨(hF b' hbb hb').2,h1⟩
  .rw[un,h3];simp[EK,Iq]
theorem rM (E:Nat->AV):∀(l:List Sh) (b:Nat) (x:LTs l) (L:Nat),Hi l=A1->(∀j,b<=j->j<L->F j/\W j)->(∀H,(Ak E H b l x).2.2<=L)->
  ∃vs es b',(∀v∈vs,In1 F v)/\(∀p∈es,W p.1/\Ep F p.2)/\ ∀H,Ak E H b l x=(vs,EK es H,b')
 | [],b,_,_,_,_,_=>⟨[],[],b,by simp,by simp,λ_=>rfl⟩
 | h::l,b,x,L,hl,hF,hL=>by
  simp only[Hi,AI]at hl;have un:∀H,Ak E H b (h::l) x=(match BL E H b h x.1 with|(c,H,b)=>match Ak E H b l x.2 with|(cs,H,b)=>(c::cs,H,b)):=λ_=>rfl;have hL1:∀H,(BL E H b h x.1).2.2<=L:=λH=>by
   have:=hL H;rw[un]at this;generalize BL E H b h x.1=r at *;obtain⟨c,H',b'⟩:=r;have h2:=JB E l H' b' x.2;simp only at this;generalize Ak E H' b' l x.2=r at *;exact CB h2 this
  obtain⟨v,es,b',h1,h2,h3⟩:=YF E h b x.1 L hl.1 hF hL1;have hbb:b<=b':=by have:=EN E h (λ_=>U) b x.1;rw[h3]at this;exact this
  have hL2:∀H,(Ak E H b' l x.2).2.2<=L:=λH=>by
   have:=hL H;rw[un,h3]at this;simp only at this;rw[(P2 E H (EK es H) l b' x.2).2];generalize Ak E (EK es H) b' l x.2=r at *;exact this
  obtain⟨vs,es',b'',h4,h5,h6⟩:=rM E l b' x.2 L hl.2 (λj h1 h2=>hF j (CB hbb h1) h2) hL2;refine⟨v::vs,es++es',b'',λc hc=> ?_,λp hp=> ?_,λH=> ?_⟩
  .rcases Bk.1 hc with rfl|hc
   .exact h1
   .exact h4 c hc
  .rcases Br.1 hp with hp|hp
   .exact h2 p hp
   .exact h5 p hp
  .rw[un,h3];simp only[h6,EK,Iq]
end
def ij{E:Nat->AV}{H:Hp}{b:Nat}{h:Sh}{v:AV}{x:LT h}(hl:Ds h=A1)(hn:∀e l,h= .box e l->∀id z,v≠ .ptr id z 0 0):D5 E H b h v x=BL E H b h x:=by
 cases h<;>first|rfl|(simp[Ds]at hl;done)|skip
 rename_i e l;cases v<;>first|rfl|skip
 rename_i id z i o;cases i<;>cases o<;>first|rfl|exact absurd rfl (hn e l rfl id z)
mutual
theorem aaZ (E:Nat->AV):∀(h:Sh) (H:Hp) (b:Nat) (v:AV) (x:LT h),Ds h=A1->b<=(D5 E H b h v x).2.2
 | .box e l,H,b,v,x,hl=>by
  by_cases hv:∃id z,v= .ptr id z 0 0
  .obtain⟨id,z,rfl⟩:=hv;have un:D5 E H b (.box e l) (.ptr id z 0 0) x=(match H id with
    | some (.box _ cs)=>(match BQ E H b l cs x with|(ds,H,b)=>(AV.ptr id z 0 0,upd H id<|I<|.box e ds,b))
    | _=>(.un,H,b)):=rfl
   rw[un];cases H id with
   | none=>exact As b
   | some ob=>
    cases ob with
    | box e' cs=>
     have:=av E l H b cs x (by simpa[Ds] using hl);simp only;generalize BQ E H b l cs x=r at *;obtain⟨ds,H',b'⟩:=r;exact this
    | _=>exact As b
  .rw[ij hl λ_ _ _ id z e=>hv ⟨id,z,e⟩];exact EN E _ H b x
 | .int _,H,b,v,x,hl=>EN E _ H b x
 | .bool,H,b,v,x,hl=>EN E _ H b x
 | .str,H,b,v,x,hl=>EN E _ H b x
 | .sl _,H,b,v,x,hl=>EN E _ H b x
 | .row _ _,H,b,v,x,hl=>EN E _ H b x
 | .fz _,H,b,v,x,hl=>EN E _ H b x
 | .Cb _ _,H,b,v,x,hl=>EN E _ H b x
 | .abx _ _,H,b,v,x,hl=>EN E _ H b x
 | .arr _,H,b,v,x,hl=>EN E _ H b x
 | .same _,_,_,_,_,hl=>by simp[Ds]at hl
 | .agg _,_,_,_,_,hl=>by simp[Ds]at hl
theorem av (E:Nat->AV):∀(l:List Sh) (H:Hp) (b:Nat) (cs:List AV) (x:LTs l),Hi l=A1->b<=(BQ E H b l cs x).2.2
 | [],_,b,_,_,_=>As b
 | h::l,H,b,cs,x,hl=>by
  simp only[Hi,AI]at hl;have h1:=aaZ E h H b (cs.headD .un) x.1 hl.1;have un:BQ E H b (h::l) cs x=(match D5 E H b h (cs.headD .un) x.1 with|(d,H,b)=>match BQ E H b l cs.tail x.2 with|(ds,H,b)=>(d::ds,H,b)):=rfl;rw[un];generalize D5 E H b h (cs.headD .un) x.1=r at *;obtain⟨c,H',b'⟩:=r;have h2:=av E l H' b' cs.tail x.2 hl.2;simp only;generalize BQ E H' b' l cs.tail x.2=r at *;obtain⟨cs,H'',b''⟩:=r;exact CB h1 h2
end
def amQ{es:List (Nat×Ob)}(h:Agr F H H'):Agr F (EK es H) (EK es H'):=by
 induction es generalizing H H' with
 | nil=>exact h
 | cons p es ih=>
  refine ih λid hid=> ?_;by_cases e:id=p.1
  .subst e;simp only[Bl]
  .simp only[BE _ _ e];exact h id hid
def awN{es:List (Nat×Ob)}(h:DY F H)(he:∀p∈es,Ep F p.2):DY F (EK es H):=by
 induction es generalizing H with
 | nil=>exact h
 | cons p es ih=>
  refine ih (λid ob hid ho=> ?_) (λq hq=>he q<|Al _ hq);by_cases e:id=p.1
  .subst e;simp only[Bl]at ho;cases ho;exact he p Ap
  .simp only[BE _ _ e]at ho;exact h id ob hid ho
def Nt{E:Nat->AV}{H:Hp}{b:Nat}{h:Sh}{v:AV}{x:LT h}{L:Nat}(eq:∀H,D5 E H b h v x=BL E H b h x)(hl:Ds h=A1)(hF:∀j,b<=j->j<L->F j)(hL:(D5 E H b h v x).2.2<=L):
  ∃v' es b',In1 F v'/\(∀p∈es,F p.1/\Ep F p.2)/\ ∀H',Agr F H H'->D5 E H' b h v x=(v',EK es H',b'):=by
 obtain⟨v',es,b',h1,h2,h3⟩:=YF (F:=F) (W:=F) E h b x L hl (λj h1 h2=>⟨hF j h1 h2,hF j h1 h2⟩) (λH0=>by rw[(mC E H0 H _ b x).2,← eq H];exact hL);exact⟨v',es,b',h1,h2,λH' _=>by rw[eq,h3]⟩
mutual
theorem ahO (E:Nat->AV):∀(h:Sh) (H:Hp) (b:Nat) (v:AV) (x:LT h) (L:Nat),Ds h=A1->(∀j,b<=j->j<L->F j)->InA F v->DY F H->(D5 E H b h v x).2.2<=L->
  ∃v' es b',In1 F v'/\(∀p∈es,F p.1/\Ep F p.2)/\ ∀H',Agr F H H'->D5 E H' b h v x=(v',EK es H',b')
 | .box e l,H,b,v,x,L,hl,hF,hv,hC,hL=>by
  by_cases hp:∃id z,v= .ptr id z 0 0
  .obtain⟨id,z,rfl⟩:=hp;have un:∀H,D5 E H b (.box e l) (.ptr id z 0 0) x=(match H id with
    | some (.box _ cs)=>(match BQ E H b l cs x with|(ds,H,b)=>(AV.ptr id z 0 0,upd H id<|I<|.box e ds,b))
    | _=>(.un,H,b)):=λ_=>rfl
   have hid:F id:=hv;cases ho:H id with
   | none=>exact⟨.un,[],b,trivial,by simp,λH' h=>by rw[un,h id hid,ho];rfl⟩
   | some ob=>
    cases ob with
    | box e' cs=>
     rw[un,ho]at hL;have hL':(BQ E H b l cs x).2.2<=L:=by
      simp only at hL;generalize BQ E H b l cs x=r at *;exact hL
     obtain⟨vs,es,b',h1,h2,h3⟩:=ia E l H b cs x L (by simpa[Ds] using hl) hF (InA.Iv<|hC id _ hid ho) hC hL';refine⟨.ptr id z 0 0,es++[(id,.box e vs)],b',hid,λp hp=> ?_,λH' h=> ?_⟩
     .rcases Br.1 hp with hp|hp
      .exact h2 p hp
      .simp at hp;subst hp;exact⟨hid,h1⟩
     .rw[un,h id hid,ho];simp only[h3 H' h,EK,Iq,Dx,MX]
    | row=>exact⟨.un,[],b,trivial,by simp,λH' h=>by rw[un,h id hid,ho];rfl⟩
    | arr=>exact⟨.un,[],b,trivial,by simp,λH' h=>by rw[un,h id hid,ho];rfl⟩
  .have eq:∀H,D5 E H b (.box e l) v x=BL E H b (.box e l) x:=λH=>ij hl (λ_ _ _ id z e=>hp ⟨id,z,e⟩);obtain⟨v',es,b',h1,h2,h3⟩:=YF (F:=F) (W:=F) E (.box e l) b x L hl (λj h1 h2=>⟨hF j h1 h2,hF j h1 h2⟩) (λH0=>by rw[(mC E H0 H _ b x).2,← eq H];exact hL);exact⟨v',es,b',h1,h2,λH' _=>by rw[eq,h3]⟩
 | .int k,H,b,v,x,L,hl,hF,hv,hC,hL=>Nt (λH=>rfl) hl hF hL
 | .bool,H,b,v,x,L,hl,hF,hv,hC,hL=>Nt (λH=>rfl) hl hF hL
 | .str,H,b,v,x,L,hl,hF,hv,hC,hL=>Nt (λH=>rfl) hl hF hL
 | .sl _,H,b,v,x,L,hl,hF,hv,hC,hL=>Nt (λH=>rfl) hl hF hL
 | .row _ _,H,b,v,x,L,hl,hF,hv,hC,hL=>Nt (λH=>rfl) hl hF hL
 | .fz _,H,b,v,x,L,hl,hF,hv,hC,hL=>Nt (λH=>rfl) hl hF hL
 | .Cb _ _,H,b,v,x,L,hl,hF,hv,hC,hL=>Nt (λH=>rfl) hl hF hL
 | .abx _ _,H,b,v,x,L,hl,hF,hv,hC,hL=>Nt (λH=>rfl) hl hF hL
 | .arr _,_,_,_,_,_,hl,_,_,_,_=>by simp[Ds]at hl
 | .same _,_,_,_,_,_,hl,_,_,_,_=>by simp[Ds]at hl
 | .agg _,_,_,_,_,_,hl,_,_,_,_=>by simp[Ds]at hl
theorem ia (E:Nat->AV):∀(l:List Sh) (H:Hp) (b:Nat) (cs:List AV) (x:LTs l) (L:Nat),Hi l=A1->(∀j,b<=j->j<L->F j)->(∀c∈cs,InA F c)->DY F H->(BQ E H b l cs x).2.2<=L->
  ∃vs es b',(∀v∈vs,In1 F v)/\(∀p∈es,F p.1/\Ep F p.2)/\ ∀H',Agr F H H'->BQ E H' b l cs x=(vs,EK es H',b')
 | [],_,b,_,_,_,_,_,_,_,_=>⟨[],[],b,by simp,by simp,λ_ _=>rfl⟩
 | h::l,H,b,cs,x,L,hl,hF,hv,hC,hL=>by
  simp only[Hi,AI]at hl;have un:∀H,BQ E H b (h::l) cs x=(match D5 E H b h (cs.headD .un) x.1 with|(d,H,b)=>match BQ E H b l cs.tail x.2 with|(ds,H,b)=>(d::ds,H,b)):=λ_=>rfl;have hh:InA F (cs.headD .un):=by
   cases cs with
   | nil=>exact .of1 trivial
   | cons c cs=>exact hv c Ap
  have ht:∀c∈cs.tail,InA F c:=λc hc=>hv c<|List.mem_of_mem_tail hc;have hL1:(D5 E H b h (cs.headD .un) x.1).2.2<=L:=by
   rw[un]at hL;generalize D5 E H b h (cs.headD .un) x.1=r at *;obtain⟨c,H',b'⟩:=r;have h2:=av E l H' b' cs.tail x.2 hl.2;simp only at hL;generalize BQ E H' b' l cs.tail x.2=r at *;exact CB h2 hL
  obtain⟨v,es,b',h1,h2,h3⟩:=ahO E h H b (cs.headD .un) x.1 L hl.1 hF hh hC hL1;have e0:=h3 H<|Agr.refl F H;have hbb:b<=b':=by have:=aaZ E h H b (cs.headD .un) x.1 hl.1;rw[e0]at this;exact this
  have hL2:(BQ E (EK es H) b' l cs.tail x.2).2.2<=L:=by
   rw[un,e0]at hL;simp only at hL;generalize BQ E (EK es H) b' l cs.tail x.2=r at *;exact hL
  obtain⟨vs,es',b'',h4,h5,h6⟩:=ia E l (EK es H) b' cs.tail x.2 L hl.2 (λj h1 h2=>hF j (CB hbb h1) h2) ht (awN hC λp hp=>(h2 p hp).2) hL2;refine⟨v::vs,es++es',b'',λc hc=> ?_,λp hp=> ?_,λH' h=> ?_⟩
  .rcases Bk.1 hc with rfl|hc
   .exact h1
   .exact h4 c hc
  .rcases Br.1 hp with hp|hp
   .exact h2 p hp
   .exact h5 p hp
  .rw[un,h3 H' h];simp only[h6 _<|amQ h,EK,Iq]
end
end
end Go.VS
namespace Go.VS
open Go
section
variable {F W:Nat->Prop} {H H':Hp} {P:Program} {s s' s2:S} {b:Nat} {E:Nat->AV} {C:Cx}
def avh(E:Nat->AV)(h:Sh)(b:Nat)(x:LT h)(L:Nat)(hl:vV h=A1)(hF:∀j,b<=j->j<L->F j/\W j)(hL:∀H,(BL E H b h x).2.2<=L):
  ∃v es b',In2 F v/\(∀p∈es,W p.1/\Ep F p.2)/\ ∀H,BL E H b h x=(v,EK es H,b'):=by
 by_cases hh:Ds h=A1
 .obtain⟨v,es,b',h1,h2,h3⟩:=YF (F:=F) (W:=W) E h b x L hh hF hL;exact⟨v,es,b',.of1 h1,h2,h3⟩
 .cases h<;>first|(exact absurd hl hh;done)|exact⟨.arr _ x,[],b,trivial,by simp,λ_=>rfl⟩|skip
  rename_i l;have un:∀H,BL E H b (.agg l) x=(match Ak E H b l x with|(cs,H,b)=>(AV.agg cs,H,b)):=λ_=>rfl;obtain⟨vs,es,b',h1,h2,h3⟩:=rM (F:=F) (W:=W) E l b x L hl hF (λH=>by
   have:=hL H;rw[un]at this;generalize Ak E H b l x=r at *;exact this)
  exact⟨.agg vs,es,b',h1,h2,λH=>by rw[un,h3]⟩
def iR(E:Nat->AV):∀(l:List Sh) (b:Nat) (x:LTs l) (L:Nat),Yl l=A1->(∀j,b<=j->j<L->F j/\W j)->(∀H,(Ak E H b l x).2.2<=L)->
  ∃vs es b',(∀v∈vs,In2 F v)/\(∀p∈es,W p.1/\Ep F p.2)/\ ∀H,Ak E H b l x=(vs,EK es H,b')
 | [],b,_,_,_,_,_=>⟨[],[],b,by simp,by simp,λ_=>rfl⟩
 | h::l,b,x,L,hl,hF,hL=>by
  simp only[Yl,AI]at hl;have un:∀H,Ak E H b (h::l) x=(match BL E H b h x.1 with|(c,H,b)=>match Ak E H b l x.2 with|(cs,H,b)=>(c::cs,H,b)):=λ_=>rfl;have hL1:∀H,(BL E H b h x.1).2.2<=L:=λH=>by
   have:=hL H;rw[un]at this;generalize BL E H b h x.1=r at *;obtain⟨c,H',b'⟩:=r;have h2:=JB E l H' b' x.2;simp only at this;generalize Ak E H' b' l x.2=r at *;exact CB h2 this
  obtain⟨v,es,b',h1,h2,h3⟩:=avh E h b x.1 L hl.1 hF hL1;have hbb:b<=b':=by have:=EN E h (λ_=>U) b x.1;rw[h3]at this;exact this
  have hL2:∀H,(Ak E H b' l x.2).2.2<=L:=λH=>by
   have:=hL H;rw[un,h3]at this;simp only at this;rw[(P2 E H (EK es H) l b' x.2).2];generalize Ak E (EK es H) b' l x.2=r at *;exact this
  obtain⟨vs,es',b'',h4,h5,h6⟩:=iR E l b' x.2 L hl.2 (λj h1 h2=>hF j (CB hbb h1) h2) hL2;refine⟨v::vs,es++es',b'',λc hc=> ?_,λp hp=> ?_,λH=> ?_⟩
  .rcases Bk.1 hc with rfl|hc
   .exact h1
   .exact h4 c hc
  .rcases Br.1 hp with hp|hp
   .exact h2 p hp
   .exact h5 p hp
  .rw[un,h3];simp only[h6,EK,Iq]
abbrev stp(p:Nat×Ob):Step:=⟨p.1,.no,I p.2⟩
def qH:∀(es:List (Nat×Ob)) (s:S),(es.map stp).foldl S.app s={ s with H:=EK es s.H }
 | [],_=>rfl
 | p::es,s=>by
  rw[DW,Dx,Il,qH es];rfl
def iN:∀(ps:List Sh) (vs:List AV),∀v∈Ff ps vs,v∈vs
 | [],vs,v,h=>by cases vs<;>simp[Ff]at h
 | p::ps,[],v,h=>by cases p<;>simp[Ff]at h
 | p::ps,x::vs,v,h=>by
  cases p<;>simp only[Ff,Bk]at h ⊢ <;>first
   | exact .inr (iN ps vs v h)
   | exact h.imp id (iN ps vs v)
def yA{vs:List AV}(h:∀v∈vs,In2 F v):InA F (Lk vs):=by
 unfold Lk;split
 .exact .of2 (h _<|by simp)
 .exact .of3 h
def xv(H:Hp)(m:Da)(as:List AV)(b:Nat)(W:Step->Prop):Prop:=
 (∀e:Step,e.id∈CU H m.ps as->W e)/\((CL m.rs||CL (B6 m.ps))=A1->∀e:Step,e.id∈Cz H m.ps as->W e)/\(∀e:Step,b<=e.id->e.id<b+16->W e)
variable {WS:Step->Prop}
def anR{m:Da}{d:Option Nat}{as:List AV}(hm:okS m=A1)(has:∀v∈as,InA F v)(hC:DY F s.H)(hF:∀j,b<=j->j<b+16->F j)
  (hW:xv s.H m as b WS)(hB:(B6 m.ps).isEmpty=A1\/ ∀e:Step,F e.id->e.fk= .no->WS e)(h:Hb m s b d as I=I s'):
  ∃(v:AV) (es:List Step),InA F v/\(∀e∈es,WS e/\Gc F e)/\s'=(es.foldl S.app s).put d v/\ ∀s2:S,Agr F s.H s2.H->Hb m s2 b d as I=I ((es.foldl S.app s2).put d v):=by
 simp only[okS,AI]at hm;obtain⟨hW1,hW2,hW3⟩:=hW;unfold Hb at h;simp only at h;split at h
 .rename_i x hx hn;obtain⟨r,hr,h⟩:=An.1 h;obtain⟨es1,k1,k2,k3⟩:=aCj (CU s.H m.ps as) s;have k4:∃es2:List Step,(∀e∈es2,WS e/\e.ob=U)/\
    GU (CL m.rs||CL (B6 m.ps)) (Cz s.H m.ps as) ((CU s.H m.ps as).foldl S.kill s)=es2.foldl S.app s/\
    ∀s2:S,Agr F s.H s2.H->GU (CL m.rs||CL (B6 m.ps)) (Cz s.H m.ps as) ((CU s.H m.ps as).foldl S.kill s2)=es2.foldl S.app s2:=by
   cases hq:(CL m.rs||CL (B6 m.ps)) with
   | false=>exact⟨es1,λe he=>⟨hW1 e (k1 e he).1,(k1 e he).2⟩,k2,λs2 _=>k3 s2⟩
   | true=>
    obtain⟨es2,j1,j2,j3⟩:=Wo (F:=F) (Cz s.H m.ps as) (es1.foldl S.app s)<|TR hC m.ps as has;refine⟨es1++es2,λe he=> ?_, ?_,λs2 h2=> ?_⟩
    .rcases Br.1 he with he|he
     .exact⟨hW1 e (k1 e he).1,(k1 e he).2⟩
     .exact⟨hW2 hq e (j1 e he).1,(j1 e he).2⟩
    .simp only[GU,k2,j2,Iq]
    .simp only[GU,k3,Iq];exact j3 _ h2.sj
  obtain⟨es2,j1,j2,j3⟩:=k4;rw[j2]at h;have hC2:DY F (es2.foldl S.app s).H:=by
   have:∀(es:List Step) (s:S),DY F s.H->(∀e∈es,e.ob=U)->DY F (es.foldl S.app s).H:=by
    intro es
    induction es with
    | nil=>intro s h _;exact h
    | cons e es ih=>exact λs h he=>ih _ (h.app λob eo=>by rw[he e Ap]at eo;cases eo) λe' h'=>he e'<|Al _ h'
   exact this es2 s hC λe he=>(j1 e he).2
  have hL1:(BQ (λi=>(as[i]?).getD .un) (es2.foldl S.app s).H b (B6 m.ps) (Ff m.ps as) r.2).2.2<=b+16:=by
   generalize BQ (λi=>(as[i]?).getD .un) (es2.foldl S.app s).H b (B6 m.ps) (Ff m.ps as) r.2=q at *;obtain⟨_,H1,b1⟩:=q;have:=JB (λi=>(as[i]?).getD .un) m.rs H1 b1 r.1;simp only at h;generalize Ak (λi=>(as[i]?).getD .un) H1 b1 m.rs r.1=q at *;obtain⟨vs,H2,b2⟩:=q;simp only at h;split at h
   .rename_i hb;exact CB this (DQ hb)
   .cases h
  have hg:∃ds es3 b1,b<=b1/\(∀p∈es3,WS (stp p)/\Ep F p.2)/\ ∀H',Agr F (es2.foldl S.app s).H H'->BQ (λi=>(as[i]?).getD .un) H' b (B6 m.ps) (Ff m.ps as) r.2=(ds,EK es3 H',b1):=by
   obtain hB|hB:=hB
   .exact⟨[],[],b,As b,by simp,λH' _=>tV _ _ _ _ _ _ hB⟩
   .obtain⟨ds,es3,b1,i1,i2,i3⟩:=ia (F:=F) (λi=>(as[i]?).getD .un) (B6 m.ps) (es2.foldl S.app s).H b (Ff m.ps as) r.2 (b+16) hm.2 hF (λv hv=>has v<|iN _ _ v hv) hC2 hL1;have:=av (λi=>(as[i]?).getD .un) (B6 m.ps) (es2.foldl S.app s).H b (Ff m.ps as) r.2 hm.2;rw[i3 _<|Agr.refl _ _]at this;exact⟨ds,es3,b1,this,λp hp=>⟨hB (stp p) (i2 p hp).1 rfl,(i2 p hp).2⟩,i3⟩
  obtain⟨ds,es3,b1,hb1,i2,i3⟩:=hg;rw[i3 _<|Agr.refl _ _]at h;simp only at h;have hL2:∀H,(Ak (λi=>(as[i]?).getD .un) H b1 m.rs r.1).2.2<=b+16:=λH=>by
   rw[(P2 _ H (EK es3 (es2.foldl S.app s).H) m.rs b1 r.1).2];generalize Ak (λi=>(as[i]?).getD .un) (EK es3 (es2.foldl S.app s).H) b1 m.rs r.1=q at *;obtain⟨vs,H2,b2⟩:=q;simp only at h;split at h
   .rename_i hb;exact DQ hb
   .cases h
  obtain⟨vs,es4,b2,l1,l2,l3⟩:=iR (F:=F) (W:=λj=>b<=j/\j<b+16) (λi=>(as[i]?).getD .un) m.rs b1 r.1 (b+16) hm.1
   (λj h1 h2=>⟨hF j (CB hb1 h1) h2,CB hb1 h1,h2⟩) hL2
  rw[l3]at h;simp only at h;split at h
  .rename_i hb;cases h;refine⟨Lk vs,es2++es3.map stp++es4.map stp,yA l1,λe he=> ?_, ?_,λs2 h2=> ?_⟩
   .rcases Br.1 he with he|he
    .rcases Br.1 he with he|he
     .exact⟨(j1 e he).1,λob eo=>by rw[(j1 e he).2]at eo;cases eo⟩
     .obtain⟨p,hp,rfl⟩:=DP.1 he;exact⟨(i2 p hp).1,λob eo=>by cases eo;exact(i2 p hp).2⟩
    .obtain⟨p,hp,rfl⟩:=DP.1 he;exact⟨hW3 (stp p) (l2 p hp).1.1 (l2 p hp).1.2,λob eo=>by cases eo;exact(l2 p hp).2⟩
   .simp only[Iq,qH]
   .unfold Hb;simp only[VD h2 hC m.ps as has,SV h2 hC m.ps as has,To h2 hC m.ps as has,aI h2 hC m.ps as has,hx,hn,hr,A9,j3 s2 h2];rw[i3 _ h2.sj];simp only[l3,hb,Iq,qH]
  .cases h
 .cases h
end
end Go.VS
namespace Go.VS
open Go
section
variable {F G N:Nat->Prop} {WS:Step->Prop} {H H':Hp} {P:Program} {s s' s2:S} {b:Nat} {C:Cx}
def In1.mono(h:∀id,F id->G id){v:AV}(hv:In1 F v):In1 G v:=by
 cases v<;>first|exact h _ hv|exact hv
def In2.mono(h:∀id,F id->G id){v:AV}(hv:In2 F v):In2 G v:=by
 have gen:In1 F v->In2 G v:=λhv=> .of1<|hv.mono h;cases v<;>first|exact λc hc=>(hv c hc).mono h|exact gen hv
def In3.mono(h:∀id,F id->G id){v:AV}(hv:In3 F v):In3 G v:=by
 have gen:In2 F v->In3 G v:=λhv=> .of2<|hv.mono h;cases v<;>first|exact λc hc=>In2.mono h (hv c hc)|exact gen hv
def InA.mono(h:∀id,F id->G id){v:AV}(hv:InA F v):InA G v:=by
 have gen:In3 F v->InA G v:=λhv=> .of3<|hv.mono h;cases v with
 | gd g w v=>exact In3.mono h hv
 | _=>exact gen hv
def Agr.mono(h:∀id,F id->G id)(hG:Agr G H H'):Agr F H H':=λid hid=>hG id<|h id hid
def x6{f:AV->AV}(hf:∀c,In1 F c->In1 F (f c)){v:AV}(h:In2 F v):In2 F (Ft f v):=by
 cases v<;>first|exact .of1 (hf _ h)|skip
 rename_i cs;intro c hc;obtain⟨c0,h0,rfl⟩:=DP.1 hc;exact hf _<|h c0 h0
def abH{f:AV->AV}(hf:∀c,In1 F c->In1 F (f c)){v:AV}(h:In3 F v):In3 F (GA f v):=by
 have gen:In2 F v->In3 F (Ft f v):=λh=> .of2<|x6 hf h;cases v with
 | tup cs=>
  intro c hc;obtain⟨c0,h0,rfl⟩:=DP.1 hc;exact x6 hf<|h c0 h0
 | _=>exact gen h
def yq{f:AV->AV}(hf:∀c,In1 F c->In1 F (f c)){v:AV}(h:InA F v):InA F (En f v):=by
 have gen:In3 F v->InA F (GA f v):=λh=> .of3<|abH hf h;cases v with
 | gd g w v=>exact abH hf h
 | _=>exact gen h
def aph{x:Operand}{e:Step}(h:InA F (s.ev x)):InA F ((s.app e).ev x):=by
 cases x with
 | tmp t=>exact yq (λc hc=>Fk.fS _ _ hc) h
 | _=>exact h
def gF{x:Operand}:∀(es:List Step) (s:S),InA F (s.ev x)->InA F ((es.foldl S.app s).ev x)
 | [],_,h=>h
 | e::es,s,h=>gF es _ (aph h)
def avF{x:Operand}{e:Step}(h:s2.ev x=s.ev x):(s2.app e).ev x=(s.app e).ev x:=by
 cases x with
 | tmp t=>exact congrArg (En<|e.fk.f e.id) h
 | _=>exact h
def aaS{x:Operand}:∀(es:List Step) (s s2:S),s2.ev x=s.ev x->(es.foldl S.app s2).ev x=(es.foldl S.app s).ev x
 | [],_,_,h=>h
 | e::es,s,s2,h=>aaS es _ _ (avF h)
def zQ:∀(es:List Step) (s:S),DY F s.H->(∀e∈es,Gc F e)->DY F (es.foldl S.app s).H
 | [],_,h,_=>h
 | e::es,s,h,he=>zQ es _ (h.app<|he e Ap) λe' h'=>he e'<|Al _ h'
def axz{ρ:Operand->AV}:∀(ps:List (Nat×Operand)),(∀p∈ps,InA F<|ρ p.2)->∀i∈LG ρ ps,F i:=by
 intro ps hp i hi;obtain⟨p,h1,h2⟩:=List.mem_flatMap.1 hi;have:=hp p h1;split at h2
 .rename_i cs e;rw[e]at this;exact abm this i h2
 .rename_i v hn;cases hv:ρ p.2<;>rw[hv]at h2 this<;>first|(simp[Gm]at h2;done)|skip
  simp[Gm]at h2;subst h2;exact this
def aCg(C:Cx)(F N:Nat->Prop)(WS:Step->Prop)(b:Nat)(o:Oper)(s s':S):Prop:=
 ∃(v:AV) (es:List Step),InA F v/\(∀e∈es,WS e/\Gc F e)/\s'=(es.foldl S.app s).put o.dst v/\
  ∀s2:S,(∀x∈o.op.operands,s2.ev x=s.ev x)->s2.has o.dst=s.has o.dst->Agr N s.H s2.H->CI C (AF S) o b s2 I=I ((es.foldl S.app s2).put o.dst v)
def aco{op:Op}{kd:TypeId->Option K}{d:Option Nat}(hF:∀x∈op.operands,InA F<|s.ev x)(hN:mov op=A1\/ ∀x∈op.operands,InA N<|s.ev x)(hC:∀id ob,N id->s.H id=I ob->Ep F ob)(hb:F b)(hW:∀ob,WS ⟨b,.no,I ob⟩)
  (he:(match CA P kd s.ev s.H b op with
   | some (q,v,os)=>if q then I ({ s with H:=Ei s.H b os }.put d v) else U
   | none=>U)=I s'):
  ∃(v:AV) (es:List Step),InA F v/\(∀e∈es,WS e/\Gc F e)/\s'=(es.foldl S.app s).put d v/\
   ∀s2:S,(∀x∈op.operands,s2.ev x=s.ev x)->Agr N s.H s2.H->(match CA P kd s2.ev s2.H b op with
    | some (q,v,os)=>if q then I ({ s2 with H:=Ei s2.H b os }.put d v) else U
    | none=>U)=I ((es.foldl S.app s2).put d v):=by
 split at he
 .rename_i q v os hp;split at he
  .rename_i hq;cases he;obtain⟨h1,h2,h3⟩:=aDf hF hN hC hb q v os hp
   match os,h2,h3,hp with
   | [],_,_,hp=>
    refine⟨v,[],h1,by simp,rfl,λs2 e1 e2=> ?_⟩;rw[aG e1 hN e2,hp];simp only[hq,A5];rfl
   | [ob],_,h3,hp=>
    refine⟨v,[⟨b,.no,I ob⟩],h1,λe he=> ?_, ?_,λs2 e1 e2=> ?_⟩
    .simp at he;subst he;exact⟨hW ob,λob' e=>by cases e;exact h3 _<|by simp⟩
    .show _=S.put (s.app _) d v;rw[Il];rfl
    .rw[aG e1 hN e2,hp];simp only[hq,A5,Dx,MX,Il];rfl
   | _::_::_,h2,_,_=>simp at h2
  .cases he
 .cases he
def ayE{q:Bool}{l:List Nat}{i:Nat}(h:i∈fzl q l):i∈l:=by
 cases q
 .cases h
 .exact h
def aw2{o:Oper}(hop:∀x∈o.op.operands,InA F<|s.ev x)(hC:DY F s.H){i:Nat}(hi:i∈JH C s o):F i:=by
 unfold JH at hi;split at hi
 .rename_i c hc;split at hi
  .rename_i f hf;split at hi
   .rename_i m hm;have has:∀v∈c.args.toList.map s.ev,InA F v:=λv hv=>by
     obtain⟨x,hx,rfl⟩:=DP.1 hv;refine hop x ?_;rw[hc];simp only[BX,ND,Nq];exact .inr<|by simpa using hx
    rcases Br.1 hi with h|h
    .exact dy hC _ _ has i h
    .exact TR hC _ _ has i (ayE h)
   .cases hi
  .cases hi
 .cases hi
def agZ{o:Oper}(hok:okO C o=A1)(hop:∀x∈o.op.operands,InA F<|s.ev x)(hCN:∀id ob,N id->s.H id=I ob->Ep F ob)(hF:∀j,b<=j->j<b+16->F j)
  (hN:∀e:Step,b<=e.id->e.id<b+16->WS e)(hW:(Dv C s o=U->(∀e:Step,F e.id->e.fk= .no->WS e)/\ ∀e:Step,e.id∈JH C s o->WS e)/\ ∀l,Dv C s o=I l->∀e:Step,e.id∈l->WS e)
  (hNF:(pur o=A1/\(mov o.op=A1\/ ∀x∈o.op.operands,InA N<|s.ev x))\/ ∀id,F id->N id)(he:CI C (AF S) o b s I=I s'):aCg C F N WS b o s s':=by
 have vo:mov o.op=A1\/ ∀x∈o.op.operands,InA N (s.ev x):=by
  obtain h|h:=hNF
  .exact h.2
  .exact .inr λx hx=>(hop x hx).mono h
 have W1:pur o=A3->∀id,F id->N id:=λh=>hNF.resolve_left λh2=>by rw[h]at h2;cases h2.1
 have hCF:pur o=A3->DY F s.H:=λh id ob hid ho=>hCN id ob (W1 h id hid) ho;have hFb:F b:=hF b (As b) J;have hWb:∀e:Step,e.id=b->WS e:=λe h=>hN e J J;unfold CI at he;split at he
 .cases he
 rename_i hd;unfold aCg;have un:∀s2:S,s2.has o.dst=s.has o.dst->s2.has o.dst=A1:=λs2 h=>h.trans hd;generalize ho:o.op=op at he;rw[ho]at hop vo;have pu:(match CA C.P C.kd s.ev s.H b op with
   | some (q,v,os)=>if q then I ({ s with H:=Ei s.H b os }.put o.dst v) else U
   | none=>U)=I s'->(∀s2:S,s2.has o.dst=A1->(∀x∈op.operands,s2.ev x=s.ev x)->Agr N s.H s2.H->CI C (AF S) o b s2 I=(match CA C.P C.kd s2.ev s2.H b op with
   | some (q,v,os)=>if q then I ({ s2 with H:=Ei s2.H b os }.put o.dst v) else U
   | none=>U))->∃(v:AV) (es:List Step),InA F v/\(∀e∈es,WS e/\Gc F e)/\s'=(es.foldl S.app s).put o.dst v/\
  ∀s2:S,(∀x∈op.operands,s2.ev x=s.ev x)->s2.has o.dst=s.has o.dst->Agr N s.H s2.H->CI C (AF S) o b s2 I=I ((es.foldl S.app s2).put o.dst v):=by
  intro he hu;obtain⟨v,es,h1,h2,h3,h4⟩:=aco (WS:=WS) hop vo hCN hFb (λ_=>hWb _ rfl) he;exact⟨v,es,h1,h2,h3,λs2 e1 e2 e3=>by rw[hu s2 (un s2 e2) e1 e3];exact h4 s2 e1 e3⟩
 cases op<;>try (exact pu he λs2 e1 e2 e3=>by unfold CI;simp only[e1,ho];rfl)
 case store t p x=>
  have hWF:∀e:Step,e.id∈Ou s.H (s.ev p) (s.ev x)->WS e:=hW.2 _ (by simp only[Dv,ho]);have hNs:=W1 (by simp only[pur,ho]);have hC:=hCF (by simp only[pur,ho]);simp only at he;split at he
  .rename_i s1 hs;cases he;obtain⟨es,h1,h2,h3⟩:=az8 (hop p<|by simp[BX]) (hop x<|by simp[BX]) hC hs;refine⟨Dp,es,.of1 trivial,λe he=>⟨hWF e (h1 e he).1,(h1 e he).2⟩,by rw[h2],λs2 e1 e2 e3=> ?_⟩;have:=h3 s2<|e3.mono hNs;simp only[DL,CM,true_and]at this;obtain⟨s1',hs',rfl⟩:=this;unfold CI;simp only[un s2 e2,ho,e1 p<|by simp[BX],e1 x<|by simp[BX],hs']
  .cases he
 case call c=>
  have hNs:=W1 (by simp only[pur,ho]);have hC:=hCF (by simp only[pur,ho]);obtain⟨cal,⟨args⟩,⟨tys⟩⟩:=c;have HA:∀x∈args,InA F (s.ev x):=λx hx=>hop x (by
   simp only[BX,ND,Nq];exact .inr<|by simpa using hx)
  have oA:∀s2:S,(∀x∈(Op.call ⟨cal,⟨args⟩,⟨tys⟩⟩).operands,s2.ev x=s.ev x)->args.map s2.ev=args.map s.ev:=λs2 h=>Gz λx hx=>h x (by
   simp only[BX,ND,Nq];exact .inr<|by simpa using hx)
  simp only at he;split at he
  .rename_i f;split at he
   .rename_i m hm;have aqQ:okS m=A1:=by simpa only[okO,ho,hm] using hok
    have has:∀v∈args.map s.ev,InA F v:=λv hv=>by
     obtain⟨x,hx,rfl⟩:=DP.1 hv;exact HA x hx
    have hcw:xv s.H m (args.map s.ev) b WS/\((B6 m.ps).isEmpty=A1\/ ∀e:Step,F e.id->e.fk= .no->WS e):=by
     have hk:JH C s o=CU s.H m.ps (args.map s.ev)++fzl (CL m.rs||CL (B6 m.ps)) (Cz s.H m.ps<|args.map s.ev):=by simp only[JH,ho,hm]
     cases hbe:(B6 m.ps).isEmpty with
     | false=>
      have zq:Dv C s o=U:=by simp only[Dv,ho,hm,hbe]
      have h2:=(hW.1 zq).2;rw[hk]at h2;exact⟨⟨λe he=>h2 e<|CE _ he,λhq e he=>h2 e<|Cy _ (by rw[hq];exact he),hN⟩,.inr (hW.1 zq).1⟩
     | true=>
      have hl:Dv C s o=I (CU s.H m.ps (args.map s.ev)++fzl (CL m.rs||CL (B6 m.ps)) (Cz s.H m.ps<|args.map s.ev)):=by simp only[Dv,ho,hm,hbe]
      refine⟨⟨λe hi=> ?_,λhq e hi=> ?_,hN⟩,.inl rfl⟩
      .exact hW.2 _ hl e (CE _ hi)
      .exact hW.2 _ hl e<|Cy _ (by rw[hq];exact hi)
    obtain⟨v,es,h1,h2,h3,h4⟩:=anR aqQ has hC hF hcw.1 hcw.2 he;refine⟨v,es,h1,h2,h3,λs2 e1 e2 e3=> ?_⟩;have:=h4 s2<|e3.mono hNs;unfold CI;simp only[un s2 e2,ho,hm,oA s2 e1];exact this
   .cases he
  .rename_i x y t u;have hWF:∀e:Step,(e.id=b\/e.id∈Ju (s.ev x))->WS e:=λe hi=>hi.elim (hWb e) (hW.2 _ (by simp only[Dv,ho]) e);split at he
   .rename_i q v s1 hs;split at he
    .rename_i hq;subst hq;cases he;obtain⟨⟨es,h1,h2,h3⟩,h5⟩:=akg (HA x<|by simp) (HA y<|by simp) hFb hs;refine⟨v,es,h5,λe he=>⟨hWF e (h1 e he).1,(h1 e he).2⟩,by rw[h2],λs2 e1 e2 e3=> ?_⟩;have:=h3 s2<|e3.mono hNs;obtain⟨⟨q',v',s1'⟩,hs',e'⟩:=DL.1 this;cases e';unfold CI;have ea:=oA s2 e1;simp only[DW,IJ,MC,and_true]at ea;simp only[un s2 e2,ho,ea.1,ea.2,hs',A5]
    .cases he
   .cases he
  .rename_i x y t u;have hWF:∀e:Step,e.id∈Ju (s.ev x)->WS e:=hW.2 _ (by simp only[Dv,ho]);split at he
   .rename_i v s1 hs;cases he;obtain⟨⟨es,h1,h2,h3⟩,h5⟩:=aoG (HA x<|by simp) (HA y<|by simp) hs;refine⟨v,es,h5,λe he=>⟨hWF e (h1 e he).1,(h1 e he).2⟩,by rw[h2],λs2 e1 e2 e3=> ?_⟩;have hs':=h3 s2<|e3.mono hNs;unfold CI;have ea:=oA s2 e1;simp only[DW,IJ,MC,and_true]at ea;simp only[un s2 e2,ho,ea.1,ea.2,hs']
   .cases he
  .rename_i n1 n2 n3;refine pu he λs2 e1 e2 e3=> ?_;unfold CI;simp only[e1,ho];split<;>first|exact(n1 _ rfl).elim|exact(n2 _ _ _ _ rfl rfl rfl).elim|exact(n3 _ _ _ _ rfl rfl rfl).elim|(rename_i h;simp only[h];done)|rfl
 case slice t x lo hi mx=>
  have hNs:=W1 (by simp only[pur,ho]);have hC:=hCF (by simp only[pur,ho]);cases mx with
  | some m=>exact pu he λs2 e1 e2 e3=>by unfold CI;simp only[e1,ho];rfl
  | none=>
   have hx:=hop x (by simp[BX]);have elo:∀s2:S,(∀x_1∈(Op.slice t x lo hi U).operands,s2.ev x_1=s.ev x_1)->lo.map s2.ev=lo.map s.ev:=λs2 h=>by
    cases lo with
    | none=>rfl
    | some l=>exact congrArg I<|h l<|by simp[BX]
   have ehi:∀s2:S,(∀x_1∈(Op.slice t x lo hi U).operands,s2.ev x_1=s.ev x_1)->hi.map s2.ev=hi.map s.ev:=λs2 h=>by
    cases hi with
    | none=>rfl
    | some l=>exact congrArg I<|h l<|by simp[BX]
   simp only at he;split at he
   .rename_i id hid;split at he
    .cases he
    rename_i hf;have hWF:∀e:Step,e.id=id->WS e:=λi e=>hW.2 (Ju<|s.ev x) (by simp only[Dv,ho]) i (by rw[hid,e];simp[Ju,Gm]);rw[hid]at hx;split at he
    .rename_i q v s1 hs;split at he
     .rename_i hq;subst hq;cases he;obtain⟨⟨es,h1,h2,h3⟩,h5⟩:=alG (F:=F) hx hs;refine⟨v,es,h5,λe he=>⟨hWF e (h1 e he).1,(h1 e he).2⟩,by rw[h2],λs2 e1 e2 e3=> ?_⟩;have:=h3 s2<|e3.mono hNs;obtain⟨⟨q',v',s1'⟩,hs',e'⟩:=DL.1 this;cases e';unfold CI;have ex:s2.ev x= .own id:=(e1 x<|by simp[BX]).trans hid;have hf2:Is C.P s2.H t (.own id)=A1:=by rw[tz (F:=F) hx<|e3.mono hNs];exact hf
      simp only[un s2 e2,ho,ex,hf2,elo s2 e1,ehi s2 e1,hs',A5]
     .cases he
    .cases he
   .rename_i hn;refine pu he λs2 e1 e2 e3=> ?_;unfold CI;simp only[e1,ho];have ex:s2.ev x=s.ev x:=e2 x (by simp[BX]);rw[ex];split
    .rename_i id hid;exact absurd hid (hn id)
    .rfl
 case buildSlice t n ps=>
  have hNs:=W1 (by simp only[pur,ho]);have hC:=hCF (by simp only[pur,ho]);simp only at he;have hps:∀p∈ps.toList,InA F (s.ev p.2):=λp hp=>hop p.2 (by
   simp only[BX,SU,DP];exact⟨p,hp,rfl⟩)
  have OF:=axz ps.toList hps;obtain⟨es1,j1,j2,j3⟩:=Wo (F:=F) (LG s.ev ps.toList) s OF;rw[j2]at he;obtain⟨v,es,h1,h2,h3,h4⟩:=aco (WS:=WS) (N:=F) (s:=es1.foldl S.app s) (op:= .buildSlice t n ps) (λx hx=>gF es1 s<|hop x hx) (.inr λx hx=>gF es1 s<|hop x hx) (zQ es1 s hC λe he ob eo=>by rw[(j1 e he).2]at eo;cases eo) hFb (λ_=>hWb _ rfl) he;refine⟨v,es1++es,h1,λe he=> ?_,by rw[h3,Iq],λs2 e1 e2 e3=> ?_⟩
  .rcases Br.1 he with he|he
   .refine⟨?_,λob eo=>by rw[(j1 e he).2]at eo;cases eo⟩;have hi:=(j1 e he).1;exact hW.2 _ (by simp only[Dv,ho]) e hi
   .exact h2 e he
  .unfold CI;have eo:LG s2.ev ps.toList=LG s.ev ps.toList:=aqh _ λp hp=>e1 p.2 (by
    simp only[BX,SU,DP];exact⟨p,hp,rfl⟩)
   simp only[un s2 e2,ho,eo];rw[j3 s2<|e3.mono hNs,Iq];exact h4 _ (λx hx=>aaS es1 s s2<|e1 x hx)<|Agr.sj<|e3.mono hNs
end
end Go.VS
namespace Go.VS
open Go
abbrev ev1(C:Cx)(ops:Array Oper)(o:Oper)(b:Nat)(s:S):Option S:=evG C (AF S) ops o b s I
def S.fin(s:S)(g:Option Nat)(d:Option Nat)(v:AV):S:={ s.put d v with gs:=match g with
 | some g=>upd s.gs g A1
 | none=>s.gs }
def Jt(s s2:S)(d:Option Nat):Prop:=s2.n=s.n/\s2.pins=s.pins/\ ∀t,d=I t->s2.gs t=s.gs t
section
variable {F N:Nat->Prop} {WS:Step->Prop} {H H':Hp} {P:Program} {s s' s2:S} {b:Nat} {C:Cx} {ρ ρ':Operand->AV}
def Jt.has{d:Option Nat}(h:Jt s s2 d):s2.has d=s.has d:=by
 cases d with
 | none=>rfl
 | some t=>simp only[S.has,h.1,h.2.1,h.2.2 t rfl]
def Jt.more{d:Option Nat}(h:Jt s s2 d)(g:Nat):({ s2 with gs:=upd s2.gs g A1 } :S).has d=({ s with gs:=upd s.gs g A1 } :S).has d:=by
 cases d with
 | none=>rfl
 | some t=>
  have:upd s2.gs g A1 t=upd s.gs g A1 t:=by
   by_cases e:t=g
   .subst e;rw[Bl,Bl]
   .rw[BE _ _ e,BE _ _ e];exact h.2.2 t rfl
  simp only[S.has,h.1,h.2.1,this]
def af9{g:Nat}{want:Bool}{v:AV}(h:InA F v):InA F (GX g want v):=by
 unfold GX;split
 .split
  .exact .of3 h
  .exact h
 .exact h
def dC(v:Value):InA F (ofV v):=by
 unfold ofV;split
 .split
  .refine .of2 λc hc=> ?_;obtain⟨x,_,rfl⟩:=DP.1 hc;trivial
  .exact .of1 trivial
 .exact .of1 trivial
def af8{d:Option Nat}{op:Op}(hρ:∀x∈op.operands,ρ' x=ρ x)(hF:∀x∈op.operands,InA F<|ρ x)(hC:DY F H)(hH:Agr F H H'):spA C b d ρ' H' op=spA C b d ρ H op:=by
 unfold spA;split
 .rename_i c;obtain⟨cal,⟨args⟩,⟨tys⟩⟩:=c;have ea:args.map ρ'=args.map ρ:=Gz λx hx=>hρ x (by
   simp only[BX,ND,Nq];exact .inr<|by simpa using hx)
  have has:∀v∈args.map ρ,InA F v:=λv hv=>by
   obtain⟨x,hx,rfl⟩:=DP.1 hv;exact hF x (by
    simp only[BX,ND,Nq];exact .inr<|by simpa using hx)
  have hc:JD C.P ρ' H' ⟨cal,⟨args⟩,⟨tys⟩⟩=JD C.P ρ H ⟨cal,⟨args⟩,⟨tys⟩⟩:=aB2 (F:=F) (λx hx=>hρ x (by
   simp only[BX,ND,Nq];exact .inr<|by simpa using hx)) (λx hx=>hF x (by
   simp only[BX,ND,Nq];exact .inr<|by simpa using hx)) hH
  split
  .rename_i f as _;simp only at *;congr 1;funext m;simp only[ea,To hH hC m.ps _ has,SV hH hC m.ps _ has,VD hH hC m.ps _ has];split
   .congr 1;funext x;rw[(P2 _ H' H m.rs b ((m.g x).getD (MR m.rs,MR<|B6 m.ps)).1).1]
   .rfl
  .rfl
  .rfl
  .rw[hc]
 .rfl
 .rfl
 .rename_i t x lo hi;rw[hρ x<|by simp[BX],aG hρ (.inr hF) hH]
 .rw[aG hρ (.inr hF) hH]
def agO{o:Oper}{q:Bool}{v:AV}(hok:okO C o=A1)(hF:∀x∈o.op.operands,InA F<|ρ x)(hC:DY F H)(hb:∀j,b<=j->j<b+16->F j)(h:spA C b o.dst ρ H o.op=I (q,v)):InA F v:=by
 have hFb:F b:=hb b (As b) J;unfold spA at h;unfold okO at hok;generalize ho:o.op=op at h hok hF;have pu:(match CA C.P C.kd ρ H b op with
  | some (q,v,[])=>I (q,v)
  | _=>U)=I (q,v)->InA F v:=by
  intro h;split at h
  .rename_i hp;cases h;exact(aDf hF (.inr hF) hC hFb _ _ _ hp).1
  .cases h
 split at h
 .rename_i c;obtain⟨cal,⟨args⟩,⟨tys⟩⟩:=c;simp only at h hok;split at h
  .rename_i f;obtain⟨m,hm,h⟩:=An.1 h;split at h
   .rename_i hc;obtain⟨x,hx,h⟩:=An.1 h;simp only[Bv,CM]at h;obtain⟨_,h⟩:=h;generalize (m.g x).getD (MR m.rs,MR<|B6 m.ps)=r at h;rw[← h];simp only[hm,okS,AI]at hok;simp only[AI]at hc;have hbn:∀H0,(Ak (λi=>((args.map ρ)[i]?).getD .un) H0 b m.rs r.1).2.2<=b+16:=λH0=>by
     have:=dH (λi=>((args.map ρ)[i]?).getD .un) H0 b m.rs r.1 hc.1.1.1;rw[this];exact ca b 16
    obtain⟨vs,es,b',h1,h2,h3⟩:=iR (F:=F) (W:=F) (λi=>((args.map ρ)[i]?).getD .un) m.rs b r.1 (b+16) hok.1 (λj h1 h2=>⟨hb j h1 h2,hb j h1 h2⟩) hbn;rw[h3];exact yA h1
   .cases h
  .cases h
  .cases h
  .split at h
   .rename_i hp;cases h;exact(aCS _ _ _ _ hp).1
   .cases h
 .cases h
 .cases h
 .split at h
  .cases h
  .exact pu h
 .exact pu h
def uG(C:Cx)(ops:Array Oper)(F N:Nat->Prop)(WS:Step->Prop)(b:Nat)(o:Oper)(s s':S):Prop:=
 ∃(g:Option Nat) (v:AV) (es:List Step),InA F v/\(∀e∈es,WS e/\Gc F e)/\(∀x,g=I x->x∈DF ops o)/\s'=(es.foldl S.app s).fin g o.dst v/\
  ∀s2:S,(∀t∈DF ops o,s2.T t=s.T t)->Jt s s2 o.dst->Agr N s.H s2.H->ev1 C ops o b s2=I ((es.foldl S.app s2).fin g o.dst v)
def oe:∀(es:List Step) (s:S),(es.foldl S.app s).gs=s.gs/\(es.foldl S.app s).n=s.n/\(es.foldl S.app s).pins=s.pins/\(es.foldl S.app s).nid=s.nid
 | [],_=>⟨rfl,rfl,rfl,rfl⟩
 | e::es,s=>oe es (s.app e)
def Ns(s:S)(d:Option Nat)(v:AV):s.fin U d v=s.put d v:=by
 cases d<;>rfl
def aEb{α:Type}(f:Nat->α)(i:Nat)(v:α)(h:f i=v):upd f i v=f:=by
 funext j;by_cases e:j=i
 .subst e;rw[Bl,h]
 .rw[BE _ _ e]
def Rj{ops:Array Oper}{o:Oper}{t:Nat}(h:Operand.tmp t∈o.op.operands):t∈o.looksAt ops:=
 CE _ (GZ.2 ⟨.tmp t,by simpa using h,rfl⟩)
def aBy{ops:Array Oper}{o:Oper}{j g:Nat}{want:Bool}(hg:o.guard=I (j,want))(h:(ops[j]?).bind (·.dst)=I g):g∈o.looksAt ops:=by
 refine Cy _ ?_;rw[hg];simp[h]
def vt{ops:Array Oper}:∀(n:Nat) (o:Oper),(∀t∈Yi ops n o,s2.T t=s.T t)->Mh ops s2 n o=Mh ops s n o
 | 0,_,_=>rfl
 | n+1,o,h=>by
  unfold Mh;unfold Yi at h;cases hg:o.guard with
  | none=>rfl
  | some jw=>
   obtain⟨j,want⟩:=jw;rw[hg]at h;simp only at h ⊢;cases hj:ops[j]? with
   | none=>rfl
   | some oj=>
    rw[hj]at h;simp only at h;simp only[A9];cases hd:oj.dst with
    | none=>rfl
    | some g=>
     rw[hd]at h;simp only[A9,h g<|by simp,vt n oj λt ht=>h t<|Cy _ ht]
def axW{ops:Array Oper}{o:Oper}(hok:okO C o=A1)(hrd:∀t∈DF ops o,InA F<|s.T t)(hCN:∀id ob,N id->s.H id=I ob->Ep F ob)(hF:∀j,b<=j->j<b+16->F j)
  (hN:∀e:Step,b<=e.id->e.id<b+16->WS e)(hW:(Dv C s o=U->(∀e:Step,F e.id->e.fk= .no->WS e)/\ ∀e:Step,e.id∈JH C s o->WS e)/\ ∀l,Dv C s o=I l->∀e:Step,e.id∈l->WS e)
  (hNF:(pur o=A1/\o.guard=U/\(mov o.op=A1\/ ∀t∈DF ops o,InA N<|s.T t))\/ ∀id,F id->N id)(he:ev1 C ops o b s=I s'):uG C ops F N WS b o s s':=by
 have hop:∀x∈o.op.operands,InA F (s.ev x):=λx hx=>by
  cases x with
  | tmp t=>exact hrd t<|CE _<|Rj hx
  | const v=>exact dC v
  | _=>exact .of1 trivial
 have eop:∀s2:S,(∀t∈DF ops o,s2.T t=s.T t)->∀x∈o.op.operands,s2.ev x=s.ev x:=λs2 h x hx=>by
  cases x with
  | tmp t=>exact h t<|CE _<|Rj hx
  | _=>rfl
 have F5:CI C (AF S) o b s I=I s'->∃(v:AV) (es:List Step),InA F v/\(∀e∈es,WS e/\Gc F e)/\s'=(es.foldl S.app s).put o.dst v/\
  ∀s2:S,(∀x∈o.op.operands,s2.ev x=s.ev x)->s2.has o.dst=s.has o.dst->Agr N s.H s2.H->CI C (AF S) o b s2 I=I ((es.foldl S.app s2).put o.dst v):=
  λh=>agZ hok hop hCN hF hN hW (hNF.imp (λh=>⟨h.1,h.2.2.imp id λh x hx=>by
   cases x with
   | tmp t=>exact h t<|CE _<|Rj hx
   | const v=>exact dC v
   | _=>exact .of1 trivial⟩) id) h
 unfold ev1 evG at he;unfold uG ev1;split at he
 .rename_i hg;obtain⟨v,es,h1,h2,h3,h4⟩:=F5 he;refine⟨U,v,es,h1,h2,nofun,by rw[Ns];exact h3,λs2 e1 e2 e3=> ?_⟩;unfold evG;rw[hg,Ns];exact h4 s2 (eop s2 e1) e2.has e3
 .rename_i j want hg;have hNs:∀id,F id->N id:=hNF.resolve_left λh=>by rw[hg]at h;cases h.2.1
  have hC:DY F s.H:=λid ob hid ho=>hCN id ob (hNs id hid) ho;split at he
  .cases he
  .rename_i g hgd hsp;have hgl:g∈DF ops o:=CE _<|aBy hg hgd;split at he
   .rename_i qq v E3 hv;split at he
    .rename_i hn;split at he
     case isFalse=>cases he
     rename_i sf;cases he;have opn:∀x∈o.op.operands,InA F ((s.narrow g want).ev x):=λx hx=>by
      cases x with
      | tmp t=>
       show InA F (upd (λt=>GX g want<|s.T t) g (.b want) t);by_cases e:t=g
       .subst e;rw[Bl];exact .of1 trivial
       .rw[BE _ _ e];exact af9<|hrd t<|CE _<|Rj hx
      | const v=>exact dC v
      | _=>exact .of1 trivial
     have hvF:InA F v:=agO hok opn hC hF hv;have azO:InA F (.gd g want v):=by
      show In3 F v;cases v<;>first|(cases hn;done)|exact hvF
     refine⟨I g,.gd g want v,[],azO,by simp,λx hx=>by cases hx;exact hgl,rfl,λs2 e1 e2 e3=> ?_⟩;unfold evG;rw[hg];simp only[hgd,hsp];have e4:({ s2 with gs:=upd s2.gs g A1 } :S).has o.dst=A1:=by rw[e2.more g];exact E3
     have e5:spA C b o.dst (s2.narrow g want).ev s2.H o.op=I (qq,v):=by
      rw[af8 (ρ:=(s.narrow g want).ev) (H:=s.H) (F:=F) (λx hx=> ?_) opn hC<|e3.mono hNs]
      .exact hv
      .cases x with
       | tmp t=>
        show upd (λt=>GX g want<|s2.T t) g (.b want) t=upd (λt=>GX g want<|s.T t) g (.b want) t;by_cases e:t=g
        .subst e;rw[Bl,Bl]
        .rw[BE _ _ e,BE _ _ e,e1 t<|CE _<|Rj hx]
       | _=>rfl
     have e6:Mh ops s2 4 o=Mh ops s 4 o:=vt 4 o λt ht=>e1 t<|Cy _ ht;rw[e4,e5];simp only[hn,e6,sf,A5];rfl
    .cases he
   .cases he
  .rename_i g hgd hsp;have hgl:g∈DF ops o:=CE _<|aBy hg hgd;split at he
   .rename_i c hT;have same:∀(s0:S) (w:Bool),s0.T g= .lit (.bool c)->c=w->({ s0 with T:=upd s0.T g (.b w) } :S)=s0:=λs0 w h e=>by
     subst e;rw[aEb _ _ _ h]
    have yes:CI C (AF S) o b { s with T:=upd s.T g (.b want) } I=I s'->c=want->
      ∃(gg:Option Nat) (v:AV) (es:List Step),InA F v/\(∀e∈es,WS e/\Gc F e)/\(∀x,gg=I x->x∈DF ops o)/\s'=(es.foldl S.app s).fin gg o.dst v/\
       ∀s2:S,(∀t∈DF ops o,s2.T t=s.T t)->Jt s s2 o.dst->Agr N s.H s2.H->evG C (AF S) ops o b s2 I=I ((es.foldl S.app s2).fin gg o.dst v):=by
     intro he e;rw[same s want hT e]at he;obtain⟨v,es,h1,h2,h3,h4⟩:=F5 he;refine⟨U,v,es,h1,h2,nofun,by rw[Ns];exact h3,λs2 e1 e2 e3=> ?_⟩;have hT2:s2.T g= .lit (.bool c):=(e1 g hgl).trans hT;have:=h4 s2 (eop s2 e1) e2.has e3;unfold evG;rw[hg,Ns];simp only[hgd,hsp,hT2];have e5:=same s2 want hT2 e;subst e;cases c<;>simp only[A5,if_false,Hh]<;>rw[e5]<;>exact this
    have no:(match s.has o.dst with
      | true=>I (({ s with T:=upd s.T g (.b<|!want) } :S).put o.dst Dp)
      | false=>U)=I s'->c= !want->
      ∃(gg:Option Nat) (v:AV) (es:List Step),InA F v/\(∀e∈es,WS e/\Gc F e)/\(∀x,gg=I x->x∈DF ops o)/\s'=(es.foldl S.app s).fin gg o.dst v/\
       ∀s2:S,(∀t∈DF ops o,s2.T t=s.T t)->Jt s s2 o.dst->Agr N s.H s2.H->evG C (AF S) ops o b s2 I=I ((es.foldl S.app s2).fin gg o.dst v):=by
     intro he e;rw[same s _ hT e]at he;split at he
     .rename_i E3;cases he;refine⟨U,Dp,[],.of1 trivial,by simp,nofun,by rw[Ns];rfl,λs2 e1 e2 e3=> ?_⟩;have hT2:s2.T g= .lit (.bool c):=(e1 g hgl).trans hT;have hh2:=e2.has.trans E3;unfold evG;rw[hg,Ns];simp only[hgd,hsp,hT2];have e5:=same s2 _ hT2 e;subst e;cases want<;>simp only[AD,AG]at e5<;>simp only[AD,AG,A5,if_false,Hh,hh2]<;>rw[e5]<;>rfl
     .cases he
    cases want<;>cases c<;>simp only[A5,if_false,Hh]at he
    .exact yes he rfl
    .exact no he rfl
    .exact no he rfl
    .exact yes he rfl
   .rename_i vs hT;split at he
    .rename_i E3;cases he;refine⟨U,Dp,[],.of1 trivial,by simp,nofun,by rw[Ns];rfl,λs2 e1 e2 e3=> ?_⟩;have hT2:s2.T g= .lit (.tuple vs):=(e1 g hgl).trans hT;have hh2:=e2.has.trans E3;unfold evG;rw[hg,Ns];simp only[hgd,hsp,hT2,hh2];rfl
    .cases he
   .cases he
end
end Go.VS
namespace Go.VS
open Go
section
variable {F G N:Nat->Prop} {H H':Hp} {P:Program} {s s' s2:S} {b:Nat} {C:Cx}
def Gc.mono(h:∀id,F id->G id){e:Step}(he:Gc F e):Gc G e:=λob eo=>by
 have:=he ob eo;cases ob<;>first|trivial|exact λc hc=>(this c hc).mono h
def Fk.azJ(id:Nat)(fk:Fk){c:AV}(h:In1 F c)(hn:¬F id):fk.f id c=c:=by
 have ne:∀j,F j->Aj j id=A3:=λj hj=>by
  cases e:Aj j id with
  | false=>rfl
  | true=>exact absurd (Bn e▸hj) hn
 cases fk with
 | no=>rfl
 | kl=>
  cases c<;>first|rfl|(simp only[Fk.f,kl1,ne _ h];done)
 | fz k xs=>
  cases c<;>first|rfl|(simp only[Fk.f,fz1,ne _ h];done)
def tH{f:AV->AV}(hf:∀c,In1 F c->f c=c){v:AV}(h:In2 F v):Ft f v=v:=by
 cases v<;>first|exact hf _ h|skip
 rename_i cs;exact congrArg AV.agg<|(Gz λc hc=>hf c<|h c hc).trans<|qm cs
def vG{f:AV->AV}(hf:∀c,In1 F c->f c=c){v:AV}(h:In3 F v):GA f v=v:=by
 have gen:In2 F v->Ft f v=v:=λh=>tH hf h;cases v<;>first|exact gen h|skip
 rename_i cs;exact congrArg AV.tup<|(Gz λc hc=>tH hf<|h c hc).trans<|qm cs
def nT{f:AV->AV}(hf:∀c,In1 F c->f c=c){v:AV}(h:InA F v):En f v=v:=by
 have gen:In3 F v->GA f v=v:=λh=>vG hf h;cases v with
 | gd g w v=>exact congrArg (AV.gd g w)<|vG hf h
 | _=>exact gen h
def jk{f:AV->AV}(hf:∀c,In1 F c->f c=c){o:Option Ob}(h:∀ob,o=I ob->Ep F ob):CJ f o=o:=by
 cases o with
 | none=>rfl
 | some ob=>
  have:=h ob rfl;cases ob<;>first|rfl|skip
  rename_i e cs;exact congrArg (λl=>I<|Ob.box e l)<|(Gz λc hc=>hf c<|this c hc).trans<|qm cs
def Fk.RA{e:Step}{c:AV}(h:In1 F c)(hn:e.fk= .no\/ ¬F e.id):e.fk.f e.id c=c:=by
 obtain hn|hn:=hn
 .rw[hn];rfl
 .exact Fk.azJ _ _ h hn
def iZ{t:Nat}:∀(es:List Step) (s:S),(∀e∈es,e.fk= .no\/ ¬F e.id)->InA F (s.T t)->(es.foldl S.app s).T t=s.T t
 | [],_,_,_=>rfl
 | e::es,s,h,ht=>by
  have h1:(s.app e).T t=s.T t:=nT (λc hc=>Fk.RA hc<|h e Ap) ht;show(es.foldl S.app<|s.app e).T t=s.T t;rw[iZ es _ (λe' he=>h e'<|Al _ he) (by rw[h1];exact ht),h1]
def Pj(N F:Nat->Prop)(H:Hp):Prop:=∀id ob,N id->H id=I ob->Ep F ob
def jI:∀(es:List Step) (s:S),(∀e∈es,¬N e.id/\(e.fk= .no\/ ¬F e.id))->Pj N F s.H->Agr N s.H (es.foldl S.app s).H
 | [],_,_,_=>Agr.refl _ _
 | e::es,s,h,hC=>by
  have h1:Agr N s.H (s.app e).H:=λid hid=>by
   rw[Lf,AB fun(e':id=e.id)=>(h e Ap).1<|e'▸hid];exact jk (λc hc=>Fk.RA hc (h e Ap).2) λob ho=>hC id ob hid ho
  have hC1:Pj N F (s.app e).H:=λid ob hid ho=>hC id ob hid (by rw[← h1 id hid];exact ho);intro id hid;show(es.foldl S.app<|s.app e).H id=s.H id;rw[jI es _ (λe' he=>h e'<|Al _ he) hC1 id hid,h1 id hid]
def aC9:∀(es:List Step) (s:S),(∀e∈es,Gc F e\/ ¬N e.id)->Pj N F s.H->Pj N F (es.foldl S.app s).H
 | [],_,_,h=>h
 | e::es,s,h,hC=>by
  refine aC9 es (s.app e) (λe' he=>h e'<|Al _ he) ?_;intro id ob hid ho;rw[Lf]at ho;split at ho
  .rename_i e';rcases h e Ap with h1|h1
   .exact h1 ob ho
   .exact absurd (e'▸hid) h1
  .exact aaH (λc hc=>Fk.fS _ _ hc) (λob ho=>hC id ob hid ho) ob ho
def abC{id:Nat}:∀(es:List Step) (s:S),(∀e∈es,e.id≠id)->s.H id=U->(es.foldl S.app s).H id=U
 | [],_,_,h=>h
 | e::es,s,hn,h=>by
  refine abC es _ (λe' he=>hn e'<|Al _ he) ?_;rw[Lf,AB λe'=>hn e Ap e'.symm,h];rfl
def pX{t:Nat}:∀(es:List Step) (s:S),InA F (s.T t)->InA F ((es.foldl S.app s).T t)
 | [],_,h=>h
 | e::es,s,h=>pX es (s.app e) (yq (λc hc=>Fk.fS _ _ hc) h)
def Fk.TS{i j:Nat}(h:i≠j)(f g:Fk)(c:AV):f.f i (g.f j c)=g.f j (f.f i c):=by
 have h1:Aj i j=A3:=by rw[← Ha,HU];exact h
 have h2:Aj j i=A3:=by rw[← Ha,HU];exact LQ h
 have key:∀id,(Aj id i=A1->Aj id j=A3):=λid e=>by rw[Bn e];exact h1
 cases c with
 | own id=>
  cases f<;>cases g<;>simp only[Fk.f,kl1,fz1]<;>cases e1:Aj id i<;>cases e2:Aj id j<;>simp only[e1,e2]<;>
   first|rfl|(rw[key id e1]at e2;cases e2)
 | ptr id z a o=>
  cases f<;>cases g<;>simp only[Fk.f,kl1,fz1]<;>cases e1:Aj id i<;>cases e2:Aj id j<;>simp only[e1,e2]<;>
   first|rfl|(rw[key id e1]at e2;cases e2)
 | _=>cases f<;>cases g<;>rfl
def plA:AV->Bool
 | .agg _=>A3
 | .tup _=>A3
 | .gd _ _ _=>A3
 | _=>A1
def QV(id:Nat)(fk:Fk){c:AV}(h:plA c=A1):plA (fk.f id c)=A1:=by
 cases fk with
 | no=>exact h
 | kl=>
  cases c<;>first|exact h|skip
  .simp only[Fk.f,kl1];split<;>rfl
  .simp only[Fk.f,kl1];split<;>rfl
 | fz k xs=>
  cases c<;>first|exact h|skip
  .simp only[Fk.f,fz1];split<;>rfl
  .simp only[Fk.f,fz1];split<;>rfl
def ZW{f:AV->AV}{c:AV}(h:plA c=A1):Ft f c=f c:=by cases c<;>first|rfl|cases h
def bY{f:AV->AV}{c:AV}(h:plA c=A1):GA f c=f c:=by cases c<;>first|rfl|cases h
def an{f:AV->AV}{c:AV}(h:plA c=A1):En f c=f c:=by cases c<;>first|rfl|cases h
section comm
variable {i j:Nat} (hij:i≠j) (f g:Fk)
include hij
def nI(v:AV):Ft (f.f i) (Ft (g.f j) v)=Ft (g.f j) (Ft (f.f i) v):=by
 by_cases hp:plA v=A1
 .rw[ZW hp,ZW hp,ZW<|QV _ _ hp,ZW<|QV _ _ hp,Fk.TS hij]
 .cases v with
  | agg cs=>simp only[Ft,IQ];exact congrArg AV.agg<|Gz λc _=>Fk.TS hij f g c
  | tup cs=>cases f<;>cases g<;>rfl
  | gd a b c=>cases f<;>cases g<;>rfl
  | _=>exact absurd rfl hp
def abk(v:AV):GA (f.f i) (GA (g.f j) v)=GA (g.f j) (GA (f.f i) v):=by
 by_cases hp:plA v=A1
 .rw[bY hp,bY hp,bY<|QV _ _ hp,bY<|QV _ _ hp,Fk.TS hij]
 .cases v with
  | agg cs=>exact nI hij f g<|.agg cs
  | tup cs=>simp only[GA,IQ];exact congrArg AV.tup<|Gz λc _=>nI hij f g c
  | gd a b c=>cases f<;>cases g<;>rfl
  | _=>exact absurd rfl hp
def wL(v:AV):En (f.f i) (En (g.f j) v)=En (g.f j) (En (f.f i) v):=by
 by_cases hp:plA v=A1
 .rw[an hp,an hp,an<|QV _ _ hp,an<|QV _ _ hp,Fk.TS hij]
 .cases v with
  | agg cs=>exact nI hij f g<|.agg cs
  | tup cs=>exact abk hij f g<|.tup cs
  | gd a b c=>exact congrArg (AV.gd a b)<|abk hij f g c
  | _=>exact absurd rfl hp
def akz(o:Option Ob):CJ (f.f i) (CJ (g.f j) o)=CJ (g.f j) (CJ (f.f i) o):=by
 cases o with
 | none=>rfl
 | some o=>
  cases o with
  | box e cs=>simp only[CJ,IQ];exact congrArg (λl=>I<|Ob.box e l)<|Gz λc _=>Fk.TS hij f g c
  | _=>rfl
end comm
def S.ext'{s s':S}(h1:s.n=s'.n)(h2:s.T=s'.T)(h3:s.H=s'.H)(h4:s.nid=s'.nid)(h5:s.st=s'.st)(h6:s.pins=s'.pins)(h7:s.gs=s'.gs):s=s':=by
 cases s;cases s';simp_all
def am9{e e':Step}(hn:e.id≠e'.id)(h1:CJ (e'.fk.f e'.id) e.ob=e.ob)(h2:CJ (e.fk.f e.id) e'.ob=e'.ob):(s.app e).app e'=(s.app e').app e:=by
 refine S.ext' rfl (funext λt=>wL hn.symm e'.fk e.fk (s.T t)) (funext λid=> ?_) rfl ?_ rfl rfl
 .rw[Lf,Lf,Lf,Lf];by_cases a1:id=e'.id
  .subst a1;rw[A8 rfl,AB hn.symm,A8 rfl,h2]
  .rw[AB a1,AB a1];by_cases a2:id=e.id
   .rw[A8 a2,A8 a2,h1]
   .rw[AB a2,AB a2,akz hn.symm e'.fk e.fk]
 .show(s.st.map _).map _=(s.st.map _).map _;rw[IQ,IQ];exact Gz λT _=>funext λt=>wL hn.symm e'.fk e.fk (T t)
def WkS(F W K:Nat->Prop)(e:Step):Prop:=(W e.id/\(e.fk= .no\/K e.id))/\Gc F e
def Wk(F W K:Nat->Prop)(es:List Step):Prop:=∀e∈es,WkS F W K e
def aFf{F F' W W' K K':Nat->Prop}(hW:∀id,W id->¬W' id)(h1:∀id,K id->¬F' id)(h2:∀id,K' id->¬F id){e:Step}(he:WkS F W K e):∀(es:List Step) (s:S),Wk F' W' K' es->(es.foldl S.app s).app e=es.foldl S.app (s.app e)
 | [],_,_=>rfl
 | e'::es,s,h=>by
  have he':=h e' Ap;have hn:e.id≠e'.id:=λx=>hW _ he.1.1<|x▸he'.1.1;have c:=am9 (s:=s) hn (jk (F:=F) (λc hc=>Fk.RA hc<|he'.1.2.imp id<|h2 _) he.2) (jk (F:=F') (λc hc=>Fk.RA hc<|he.1.2.imp id<|h1 _) he'.2);show(es.foldl S.app<|s.app e').app e=es.foldl S.app ((s.app e).app e');rw[aFf hW h1 h2 he es _ λe0 h0=>h e0<|Al _ h0,c]
def aA9{F F' W W' K K':Nat->Prop}(hW:∀id,W id->¬W' id)(h1:∀id,K id->¬F' id)(h2:∀id,K' id->¬F id):∀(es es':List Step) (s:S),Wk F W K es->Wk F' W' K' es'->es.foldl S.app (es'.foldl S.app s)=es'.foldl S.app (es.foldl S.app s)
 | [],_,_,_,_=>rfl
 | e::es,es',s,h,h'=>by
  show es.foldl S.app ((es'.foldl S.app s).app e)=es'.foldl S.app (es.foldl S.app<|s.app e);rw[aFf hW h1 h2 (h e Ap) es' s h',aA9 hW h1 h2 es es' _ (λe0 h0=>h e0<|Al _ h0) h']
def atF{e:Step}{g d:Option Nat}{v:AV}(hv:En (e.fk.f e.id) v=v):(s.fin g d v).app e=(s.app e).fin g d v:=by
 cases d with
 | none=>exact S.ext' rfl rfl rfl rfl rfl rfl rfl
 | some d=>
  refine S.ext' rfl (funext λt=> ?_) rfl rfl rfl rfl rfl;show En _ (upd s.T d v t)=upd (λt=>En _<|s.T t) d v t;by_cases e:t=d
  .subst e;rw[Bl,Bl,hv]
  .rw[BE _ _ e,BE _ _ e]
def lE{g d:Option Nat}{v:AV}:∀(es:List Step) (s:S),(∀e∈es,En (e.fk.f e.id) v=v)->es.foldl S.app (s.fin g d v)=(es.foldl S.app s).fin g d v
 | [],_,_=>rfl
 | e::es,s,h=>by
  show es.foldl S.app ((s.fin g d v).app e)=(es.foldl S.app<|s.app e).fin g d v;rw[atF<|h e Ap,lE es _ λe' h'=>h e'<|Al _ h']
def adZ{g g' d d':Option Nat}{v v':AV}(hd:∀t,d=I t->d'≠I t):(s.fin g d v).fin g' d' v'=(s.fin g' d' v').fin g d v:=by
 have hT:∀(d d':Nat) (v v':AV) (T:Nat->AV),d≠d'->upd (upd T d v) d' v'=upd (upd T d' v') d v:=λd d' v v' T hn=>by
  funext t;by_cases e:t=d'
  .subst e;rw[Bl,BE _ _ hn.symm,Bl]
  .rw[BE _ _ e];by_cases e2:t=d
   .subst e2;rw[Bl,Bl]
   .rw[BE _ _ e2,BE _ _ e2,BE _ _ e]
 have hG:∀(g g':Nat) (T:Nat->Bool),upd (upd T g A1) g' A1=upd (upd T g' A1) g A1:=λg g' T=>by
  funext t;by_cases e:t=g'
  .subst e;rw[Bl];by_cases e2:t=g
   .subst e2;rw[Bl]
   .rw[BE _ _ e2,Bl]
  .rw[BE _ _ e];by_cases e2:t=g
   .subst e2;rw[Bl,Bl]
   .rw[BE _ _ e2,BE _ _ e2,BE _ _ e]
 refine S.ext' ?_ ?_ ?_ ?_ ?_ ?_ ?_
 .cases d<;>cases d'<;>rfl
 .cases d with
  | none=>cases d'<;>rfl
  | some d=>cases d' with
   | none=>rfl
   | some d'=>exact hT _ _ _ _ s.T (λe=>hd d rfl (by rw[e]))
 .cases d<;>cases d'<;>rfl
 .cases d<;>cases d'<;>rfl
 .cases d<;>cases d'<;>rfl
 .cases d<;>cases d'<;>rfl
 .cases d<;>cases d'<;>cases g<;>cases g'<;>first|rfl|exact hG _ _ s.gs
end
end Go.VS
namespace Go.VS
open Go
structure Lb where
 b:Nat->Nat
 F:Nat->Nat->Prop
 N:Nat->Nat->Prop
 W:Nat->Nat->Prop
 K:Nat->Nat->Prop
 V:Nat->Nat->Prop
 R:Nat->Nat->Prop
def Stp(C:Cx)(ops:Array Oper)(o:Oper)(b:Nat)(F N W K V:Nat->Prop)(s s':S):Prop:=
 ∃(g:Option Nat) (v:AV) (es:List Step),InA F v/\(∀t,o.dst=I t->InA V v)/\Wk F W K es/\(∀x,g=I x->x∈DF ops o)/\s'=(es.foldl S.app s).fin g o.dst v/\
  ∀s2:S,(∀t∈DF ops o,s2.T t=s.T t)->Jt s s2 o.dst->Agr N s.H s2.H->ev1 C ops o b s2=I ((es.foldl S.app s2).fin g o.dst v)
section
variable {C:Cx} {ops:Array Oper} {s s' s0 s1 s2:S}
def Stp.ev{o:Oper}{b:Nat}{F N W K V:Nat->Prop}(h:Stp C ops o b F N W K V s s'):ev1 C ops o b s=I s':=by
 obtain⟨g,v,es,_,_,_,_,rfl,h⟩:=h;exact h s (λ_ _=>rfl) ⟨rfl,rfl,λ_ _=>rfl⟩<|Agr.refl _ _
def Ww{g d:Option Nat}{v:AV}{t:Nat}:(s.fin g d v).T t=if d=I t then v else s.T t:=by
 cases d with
 | none=>simp[S.fin,S.put]
 | some d=>
  show upd s.T d v t=_;by_cases e:t=d
  .subst e;rw[Bl];simp
  .rw[BE _ _ e,AB λe'=>e<|by simpa using e'.symm]
def bT{g d:Option Nat}{v:AV}:(s.fin g d v).H=s.H:=by cases d<;>rfl
def abV{g d:Option Nat}{v:AV}{t:Nat}(h:g≠I t):(s.fin g d v).gs t=s.gs t:=by
 cases g with
 | none=>cases d<;>rfl
 | some g=>
  have:t≠g:=λe=>h (by rw[e]);cases d<;>exact BE _ _ this
def Stp.swap{x i:Oper}{bx bi:Nat}{Fx Nx Wx Kx Vx Fi Ni Wi Ki Vi:Nat->Prop}(h1:Stp C ops x bx Fx Nx Wx Kx Vx s0 s1)(h2:Stp C ops i bi Fi Ni Wi Ki Vi s1 s2)
  (kxi:∀id,Kx id->¬Fi id)(kix:∀id,Ki id->¬Fx id)(nxi:∀id,Wx id->¬Ni id)(nix:∀id,Wi id->¬Nx id)(wxi:∀id,Wx id->¬Wi id)(dxi:∀t,x.dst=I t->t ∉ DF ops i)(dix:∀t,i.dst=I t->t ∉ DF ops x)(hd:∀t,x.dst=I t->i.dst≠I t)
  (rx:∀t∈DF ops x,InA Fx<|s0.T t)(cx:Pj Nx Fx s0.H)(ri:∀t∈DF ops i,InA Fi<|s0.T t)(ci:Pj Ni Fi s0.H):
  ∃s0',Stp C ops i bi Fi Ni Wi Ki Vi s0 s0'/\Stp C ops x bx Fx Nx Wx Kx Vx s0' s2:=by
 obtain⟨g1,v1,es1,a1,a2,a3,a4,a5,a6⟩:=h1;obtain⟨g2,v2,es2,b1,b2,b3,b4,b5,b6⟩:=h2;have n1:∀e∈es1,e.fk= .no\/ ¬Fi e.id:=λe he=>(a3 e he).1.2.imp id<|kxi _;have p1:∀e∈es1,¬Ni e.id/\(e.fk= .no\/ ¬Fi e.id):=λe he=>⟨nxi _ (a3 e he).1.1,n1 e he⟩;have n2:∀e∈es2,e.fk= .no\/ ¬Fx e.id:=λe he=>(b3 e he).1.2.imp id<|kix _;have p2:∀e∈es2,¬Nx e.id/\(e.fk= .no\/ ¬Fx e.id):=λe he=>⟨nix _ (b3 e he).1.1,n2 e he⟩;have T1:∀t∈DF ops i,s1.T t=s0.T t:=λt ht=>by
  rw[a5,Ww,AB λe=>dxi t e ht];exact iZ es1 s0 n1<|ri t ht
 have H1:Agr Ni s0.H s1.H:=by
  rw[a5,bT];exact jI es1 s0 p1 ci
 have E1:Jt s0 s1 i.dst:=by
  obtain⟨p1,p2,p3,_⟩:=oe es1 s0;rw[a5];refine⟨?_, ?_,λt ht=> ?_⟩
  .rw[← p2];cases x.dst<;>rfl
  .rw[← p3];cases x.dst<;>rfl
  .rw[abV λe=>dix t ht<|a4 t e,p1]
 have step:∀s3:S,(∀t∈DF ops i,s3.T t=s0.T t)->Jt s0 s3 i.dst->Agr Ni s0.H s3.H->ev1 C ops i bi s3=I ((es2.foldl S.app s3).fin g2 i.dst v2):=λs3 e1 e2 e3=>
  b6 s3 (λt ht=>by rw[e1 t ht,T1 t ht]) ⟨e2.1.trans E1.1.symm,e2.2.1.trans E1.2.1.symm,λt ht=>by rw[e2.2.2 t ht,E1.2.2 t ht]⟩ (λid hid=>by rw[e3 id hid,H1 id hid])
 have T2:∀t∈DF ops x,((es2.foldl S.app s0).fin g2 i.dst v2).T t=s0.T t:=λt ht=>by
  rw[Ww,AB λe=>dix t e ht];exact iZ es2 s0 n2<|rx t ht
 have H2:Agr Nx s0.H ((es2.foldl S.app s0).fin g2 i.dst v2).H:=by
  rw[bT];exact jI es2 s0 p2 cx
 have E2:Jt s0 ((es2.foldl S.app s0).fin g2 i.dst v2) x.dst:=by
  obtain⟨p1,p2,p3,_⟩:=oe es2 s0;refine⟨?_, ?_,λt ht=> ?_⟩
  .rw[← p2];cases i.dst<;>rfl
  .rw[← p3];cases i.dst<;>rfl
  .rw[abV λe=>dxi t ht<|b4 t e,p1]
 have eq:s2=(es1.foldl S.app<|(es2.foldl S.app s0).fin g2 i.dst v2).fin g1 x.dst v1:=by
  have m1:∀e∈es1,En (e.fk.f e.id) v2=v2:=λe he=>nT (λc hc=>Fk.RA hc<|n1 e he) b1;have m2:∀e∈es2,En (e.fk.f e.id) v1=v1:=λe he=>nT (λc hc=>Fk.RA hc<|n2 e he) a1;rw[b5,a5,lE es2 _ m2,lE es1 _ m1,aA9 wxi kxi kix es1 es2 s0 a3 b3,adZ hd]
 refine⟨(es2.foldl S.app s0).fin g2 i.dst v2,⟨g2,v2,es2,b1,b2,b3,b4,rfl,step⟩,⟨g1,v1,es1,a1,a2,a3,a4,eq,λs3 e1 e2 e3=> ?_⟩⟩;exact a6 s3 (λt ht=>by rw[e1 t ht,T2 t ht]) ⟨e2.1.trans E2.1,e2.2.1.trans E2.2.1,λt ht=>by rw[e2.2.2 t ht,E2.2.2 t ht]⟩ λid hid=>by rw[e3 id hid,H2 id hid]
inductive Run (C:Cx) (ops:Array Oper) (L:Lb):List Nat->S->S->Prop
 | nil {s:S} :Run C ops L [] s s
 | cons {i:Nat} {o:Oper} {l:List Nat} {s s1 s':S} (ho:ops[i]? =I o) (h:Stp C ops o (L.b i) (L.F i) (L.N i) (L.W i) (L.K i) (L.V i) s s1) (t:Run C ops L l s1 s'):Run C ops L (i::l) s s'
def Fit(ops:Array Oper)(L:Lb)(Bc:List Nat)(s:S)(i:Nat):Prop:=∀o,ops[i]? =I o->
 (∀t∈DF ops o,(∀j∈Bc,L.R j i->∀oj,ops[j]? =I oj->oj.dst≠I t)->InA (L.F i) (s.T t)/\(mov o.op=A1\/InA (L.N i) (s.T t)))/\Pj (L.N i) (L.F i) s.H/\(∀id,L.b i<=id->id<L.b i+16->s.H id=U)
def Ind(ops:Array Oper)(L:Lb)(x i:Nat):Prop:=∀ox oi,ops[x]? =I ox->ops[i]? =I oi->
 (∀id,L.K x id->¬L.F i id)/\(∀id,L.K i id->¬L.F x id)/\(∀id,L.W x id->¬L.N i id)/\(∀id,L.W i id->¬L.N x id)/\(∀id,L.W x id->¬L.W i id)/\
 (∀id,L.b i<=id->id<L.b i+16->¬L.F x id)/\(∀id,L.b x<=id->id<L.b x+16->¬L.F i id)/\(∀t,ox.dst=I t->t ∉ DF ops oi)/\(∀t,oi.dst=I t->t ∉ DF ops ox)
def Bef(ops:Array Oper)(L:Lb)(x i:Nat):Prop:=∀ox oi,ops[x]? =I ox->ops[i]? =I oi->
 ((∀id,L.W x id->¬L.N i id)\/(∀id,L.F x id->L.F i id))/\(∀t,ox.dst=I t->t∈DF ops oi->(∀id,L.V x id->L.F i id)/\(mov oi.op=A1\/ ∀id,L.V x id->L.N i id))/\(∀id,L.b i<=id->id<L.b i+16->¬L.F x id)
structure P9 (ops:Array Oper) (L:Lb):Prop where
 WF:∀i id,L.W i id->L.F i id
 NF:∀i id,L.N i id->L.F i id
 NW:∀i id,L.b i<=id->id<L.b i+16->L.W i id
 lt:∀x i,L.R x i->x<i
 dst:∀(x i:Nat) (ox oi:Oper) (t:Nat),x≠i->ops[x]? =I ox->ops[i]? =I oi->ox.dst=I t->oi.dst≠I t
 anc:∀(x i:Nat) (oi:Oper),ops[i]? =I oi->L.R x i->∃e∈oi.after,Fq .any e=A1/\(e.on=x\/L.R x e.on)
 dir:∀(i:Nat) (oi:Oper) (e:Edge),ops[i]? =I oi->e∈oi.after->Fq .any e=A1->e.on<i
 bef:∀x i,L.R x i->Bef ops L x i
 ind:∀x i,x<i->¬L.R x i->Ind ops L x i
variable {L:Lb}
def Ind.symm{x i:Nat}(h:Ind ops L x i):Ind ops L i x:=λoi ox hi hx=>by
 obtain⟨a,b,c,d,e,f,g,p,q⟩:=h ox oi hx hi;exact⟨b,a,d,c,λid h1 h2=>e id h2 h1,g,f,q,p⟩
def Fit.step(hn:P9 ops L){Bc:List Nat}{x i:Nat}{ox:Oper}(hox:ops[x]? =I ox)(hxi:x≠i)(hRi:¬L.R i x)(h:Stp C ops ox (L.b x) (L.F x) (L.N x) (L.W x) (L.K x) (L.V x) s s')(hf:Fit ops L Bc s i){U':List Nat}(hU:∀j∈Bc,j=x\/j∈U'):
  Fit ops L U' s' i:=by
 intro oi hoi;obtain⟨f1,f2,f3⟩:=hf oi hoi;obtain⟨g,v,es,a1,a2,a3,a4,rfl,a6⟩:=h;have pc:(((∀id,L.W x id->¬L.N i id)\/(∀id,L.F x id->L.F i id))/\(∀t,ox.dst=I t->t∈DF ops oi->(∀id,L.V x id->L.F i id)/\(mov oi.op=A1\/ ∀id,L.V x id->L.N i id))/\(∀id,L.b i<=id->id<L.b i+16->¬L.F x id)):=by
  by_cases hR:L.R x i
  .exact hn.bef x i hR ox oi hox hoi
  .have hI:Ind ops L x i:=by
    rcases kX hxi with h|h
    .exact hn.ind x i h hR
    .exact(hn.ind i x h hRi).symm
   obtain⟨_,_,b1,_,_,b6,_,b8,_⟩:=hI ox oi hox hoi;exact⟨.inl b1,λt h1 h2=>absurd h2<|b8 t h1,b6⟩
 obtain⟨p1,p2,p3⟩:=pc;refine⟨λt ht dE=> ?_, ?_,λid h1 h2=> ?_⟩
 .rw[Ww];split
  .rename_i hd;exact⟨(a2 t hd).mono (p2 t hd ht).1,(p2 t hd ht).2.imp id λh=>(a2 t hd).mono h⟩
  .rename_i hd;have:=f1 t ht λj hj hR oj hoj e=>by
    rcases hU j hj with rfl|hj
    .rw[hox]at hoj;cases hoj;exact hd e
    .exact dE j hj hR oj hoj e
   exact⟨pX es s this.1,this.2.imp id<|pX es s⟩
 .rw[bT];refine aC9 es s (λe he=> ?_) f2;obtain p1|p1:=p1
  .exact .inr (p1 _ (a3 e he).1.1)
  .exact .inl ((a3 e he).2.mono p1)
 .rw[bT];exact abC es s (λe he e'=>p3 id h1 h2<|e'▸hn.WF x _ (a3 e he).1.1)<|f3 id h1 h2
def Run.first(hn:P9 ops L){i:Nat}{l2:List Nat}:∀(l1:List Nat) (s:S),Run C ops L (l1++i::l2) s s'->(l1++i::l2).Pairwise (· < ·)->(∀j∈l1++i::l2,¬L.R j i)->
  (∀j∈l1++i::l2,Fit ops L (l1++i::l2) s j)->Run C ops L (i::(l1++l2)) s s'
 | [],s,h,_,_,_=>h
 | x::l1,s,h,hp,hr,hf=>by
  cases h with
  | cons hox hx t=>
   rename_i ox s1;have hp':=Og.1 hp;have hxi:x<i:=hp'.1 i<|Cy _ Ap;have ih:=Run.first hn l1 s1 t hp'.2 (λj hj=>hr j<|Al _ hj) (λj hj=>by
    refine(hf j<|Al _ hj).step hn hox (P4<|hp'.1 j hj) (λhR=>Nat.lt_asymm (hn.lt _ _ hR)<|hp'.1 j hj) hx λk hk=> ?_;rcases Bk.1 hk with h|h
    .exact .inl h
    .exact .inr h)
   cases ih with
   | cons hoi hi t2=>
    rename_i oi s2;obtain⟨c1,c2,c3,c4,c5,_,_,c6,c7⟩:=hn.ind x i hxi (hr x Ap) ox oi hox hoi;obtain⟨fx1,fx2,_⟩:=hf x Ap ox hox;obtain⟨fi1,fi2,_⟩:=hf i (Al _<|Cy _ Ap) oi hoi;obtain⟨s0',k1,k2⟩:=Stp.swap hx hi c1 c2 c3 c4 c5 c6 c7 (λt ht=>hn.dst x i ox oi t (P4 hxi) hox hoi ht)
     (λt ht=>(fx1 t ht λj hj hR oj hoj e=>by
      rcases Bk.1 hj with rfl|hj
      .exact absurd (hn.lt _ _ hR) (Nat.lt_irrefl _)
      .exact Nat.lt_asymm (hn.lt _ _ hR)<|hp'.1 j hj).1) fx2
     (λt ht=>(fi1 t ht λj hj hR oj hoj e=>hr j hj hR).1) fi2
    exact .cons hoi k1<|.cons hox k2 t2
end
end Go.VS
namespace Go.VS
open Go
section
variable {C:Cx} {B:Be} {ops:Array Oper} {L:Lb} {stk:List (Array Value)} {Q:Exit->Act->World->Prop}
def ac6{a:Array Bool}{i:Nat}(h:i<a.size)(ht:a.getD i A1=A1):a.getD i A3=A1:=by
 simp[h]at ht ⊢; exact ht
def at5(hP:C.P=B.P)(hC:H9 C B)(hn:P9 ops L){s':S}(hQ:∀β a w,St B β stk s' a w->Q .normal a w):∀(n:Nat) (Bc:List Nat) (listed:Array Bool) (a:Act) (w:World) (β:Beta) (s:S),
  Bc.length=n->Run C ops L Bc s s'->Bc.Pairwise (· < ·)->(∀j,j∈Bc↔j<ops.size/\listed.getD j A1=A3)->listed.size=ops.size->(∀i x,i<ops.size->i ∉ Bc->L.R x i->x ∉ Bc)->
  (∀j∈Bc,Fit ops L Bc s j)->St B β stk s a w->wpAny B.P .any ops Q n listed a w:=by
 intro n
 induction n with
 | zero=>
  intro Bc listed a w β s hl hr hp hU hs hd hf hst;have:Bc=[]:=EE hl;subst this;cases hr;refine⟨?_,hQ β a w hst⟩;cases hrd:PX .any ops listed with
  | nil=>rfl
  | cons j l=>
   have hj:j∈PX .any ops listed:=by rw[hrd];exact Ap
   obtain⟨h1,o,ho,_⟩:=mem_ready.1 hj;have:=(hU j).2 ⟨(HV.1 ho).1,h1⟩;cases this
 | succ n ih=>
  intro Bc listed a w β s hl hr hp hU hs hd hf hst;refine⟨λqT=> ?_,λi hi=> ?_⟩
  .exfalso;cases Bc with
   | nil=>simp at hl
   | cons i0 l=>
    obtain⟨hlt,hun⟩:=(hU i0).1 Ap;obtain⟨o,ho⟩:∃o,ops[i0]? =I o:=⟨ops[i0],by simp[hlt]⟩;have hr0:i0∈PX .any ops listed:=mem_ready.2 ⟨hun,o,ho,λe he hb=>by
     have X5:=hn.dir i0 o e ho he hb;have ayq:e.on ∉ i0::l:=λhm=>by
      rcases Bk.1 hm with h|h
      .omega
      .have:=(Og.1 hp).1 _ h;omega
     have hsz:e.on<ops.size:=J
     refine ac6 J ?_;cases hb':listed.getD e.on A1 with
     | true=>rfl
     | false=>exact absurd ((hU e.on).2 ⟨hsz,hb'⟩) ayq⟩
    rw[qT]at hr0;cases hr0
  .obtain⟨hun,oi,hoi,F3⟩:=mem_ready.1 hi;have hlt:i<ops.size:=(HV.1 hoi).1;have hiU:i∈Bc:=(hU i).2 ⟨hlt,hun⟩;obtain⟨l1,l2,rfl⟩:=List.append_of_mem hiU;have hRn:∀j∈l1++i::l2,¬L.R j i:=by
    intro j hj hR;obtain⟨e,he,hb,PI⟩:=hn.anc j i oi hoi hR;have hel:=F3 e he hb;have heU:e.on ∉ l1++i::l2:=λhm=>by
     have h2:=((hU e.on).1 hm).2;have hsz:=((hU e.on).1 hm).1;have:listed.getD e.on A1=A1:=by simp[show e.on<listed.size by omega]at hel ⊢; exact hel
     rw[this]at h2;cases h2
    obtain h|h:=PI
    .exact heU (h▸hj)
    .have X5:=hn.dir i oi e hoi he hb;exact hd e.on j J heU h hj
   have Cf:=Run.first hn l1 s hr hp hRn hf
   cases Cf with
   | cons VN U3 t=>
    rename_i o' s1;rw[hoi]at VN;cases VN;have hnd:(l1++i::l2).Nodup:=hp.imp λh=>P4 h;have Eu:∀j,j∈l1++l2↔j∈l1++i::l2/\j≠i:=by
     intro j;have Jf:=L7.1 hnd;constructor
     .intro hj;refine⟨?_, ?_⟩
      .rcases Br.1 hj with h|h
       .exact CE _ h
       .exact Cy _ (Al _ h)
      .rintro rfl;rcases Br.1 hj with h|h
       .exact Jf.2.2 j h j Ap rfl
       .exact(Lc.1 Jf.2.1).1 h
     .rintro⟨hj,hne⟩;rcases Br.1 hj with h|h
      .exact CE _ h
      .rcases Bk.1 h with h|h
       .exact absurd h hne
       .exact Cy _ h
    refine nZ hP hC hoi hst (b:=L.b i) (λj h1 h2=>(hf i hiU oi hoi).2.2 j h1 h2) U3.ev ?_;intro β' u w' MY;refine ih (l1++l2) _ _ _ β' s1 ?_ t ?_ ?_ ?_ ?_ ?_ MY
    .simp at hl ⊢; omega
    .exact(QP.1 hp).1 |> λp1=>by
      have p2:=QP.1 hp;exact QP.2 ⟨p1,(Og.1 p2.2.1).2,λx hx y hy=>p2.2.2 x hx y<|Al _ hy⟩
    .intro j;rw[Eu,hU];by_cases e:j=i
     .subst e;simp
     .rw[getD_set_ne A1<|LQ e];simp[e]
    .simpa using hs
    .intro k x hk hkU hR hx;have hxU:=((Eu x).1 hx).1;by_cases e:k=i
     .subst e;exact hRn x hxU hR
     .exact hd k x hk (λh=>hkU<|(Eu k).2 ⟨h,e⟩) hR hxU
    .intro j hj;obtain⟨hjU,hne⟩:=(Eu j).1 hj;refine(hf j hjU).step hn hoi (LQ hne) (hRn j hjU) U3 λk hk=> ?_;by_cases e:k=i
     .exact .inl e
     .exact .inr<|(Eu k).2 ⟨hk,e⟩
def au3(hP:C.P=B.P)(hm:B.P.follows .mixedOrders=A1)(hC:H9 C B)(hn:P9 ops L){s s':S}(hr:Run C ops L (BN ops.size) s s')(hf:∀j,j<ops.size->Fit ops L (BN ops.size) s j)
  {id:Nat}{β:Beta}{a:Act}{w:World}(hst:St B β stk s a w)(hQ:∀β a w,St B β stk s' a w->Q .normal a w):(QX id ops A1).wp B.P Q a w:=by
 refine wp_region_any hm ?_;have MY:St B β stk s a { w with drawn:=w.drawn+1 } :=by
  have hk:Kp w β { w with drawn:=w.drawn+1 } β:=Kp.heap rfl;have:=hst.keep hk (H':=s.H)<|hst.hs.drew;exact this
 refine at5 hP hC hn hQ ops.size (BN ops.size) _ a _ β s (by simp) hr S4 (λj=> ?_) (by simp) (λi x hi hiU hR=> ?_) (λj hj=>hf j<|DV.1 hj) MY
 .rw[DV];constructor
  .intro h;exact⟨h,by simp[h]⟩
  .exact λh=>h.1
 .exact absurd (DV.2 hi) hiU
end
end Go.VS
namespace Go.VS
open Go
abbrev Mm(M id:Nat):Prop:=M.testBit id=A1
def EZ(a b i:Nat):(BO a b).testBit i=(a.testBit i||b.testBit i):=Nat.testBit_or a b i
def iu(a b i:Nat):(Oz a b).testBit i=(a.testBit i&&b.testBit i):=Nat.testBit_and a b i
def fX{i j:Nat}:(bit i).testBit j=A1↔j=i:=by
 show(1 <<< i).testBit j=A1↔j=i;rw[Nat.one_shiftLeft,Nat.testBit_two_pow];simp[eq_comm]
def MW{b j:Nat}:(nm b).testBit j=A1↔b<=j/\j<b+16:=by
 show(65535 <<< b).testBit j=A1↔_;rw[Nat.testBit_shiftLeft,show(65535:Nat)=2 ^ 16 - 1 from rfl,Nat.testBit_two_pow_sub_one];simp;omega
def Mb{l:List Nat}{j:Nat}:(msk l).testBit j=A1↔j∈l:=by
 induction l with
 | nil=>simp[msk]
 | cons i l ih=>
  show(BO (bit i)<|msk l).testBit j=A1↔_;rw[EZ,Ci,fX,ih,Bk]
def L9{a b:Nat}(h:dsj a b=A1):∀i,Mm a i->¬Mm b i:=λi h1 h2=>by
 have e:Oz a b=0:=YS h;have:=iu a b i;rw[e,h1,h2]at this;simp at this
def Sl{a b:Nat}(h:sbs a b=A1):∀i,Mm a i->Mm b i:=λi h1=>by
 have e:Oz a b=a:=YS h;have:=iu a b i;rw[e,h1]at this;simpa using this.symm
def sZ{a i:Nat}:tst a i=A1↔a.testBit i=A1:=by
 unfold tst;constructor
 .intro h;cases hb:a.testBit i with
  | true=>rfl
  | false=>
   have:dsj a (bit i)=A1:=by
    unfold dsj;have e:Oz a (bit i)=0:=Nat.eq_of_testBit_eq λj=>by
     rw[iu];cases hj:(bit i).testBit j with
     | false=>simp
     | true=>rw[fX.1 hj,hb];simp
    rw[e];rfl
   rw[this]at h;cases h
 .intro h;cases hd:dsj a (bit i) with
  | false=>rfl
  | true=>exact absurd (fX.2 rfl)<|L9 hd i h
section
variable {F:Nat->Prop} {H:Hp}
def vc{v:AV}{l:List Nat}(h:Mq v=I l)(hF:∀i∈l,F i):In1 F v:=by
 cases v<;>first|(cases h;done)|(cases h;exact hF _<|by simp)|trivial
def ly:∀ {cs:List AV} {l:List Nat},df cs=I l->(∀i∈l,F i)->∀c∈cs,In1 F c
 | [],_,_,_,_,hc=>by cases hc
 | c::cs,l,h,hF,d,hd=>by
  obtain⟨a,h1,h⟩:=An.1 h;obtain⟨b,h2,h⟩:=An.1 h;cases h;rcases Bk.1 hd with rfl|hd
  .exact vc h1 λi hi=>hF i (CE _ hi)
  .exact ly h2 (λi hi=>hF i<|Cy _ hi) d hd
def vY{v:AV}{l:List Nat}(h:Nh v=I l)(hF:∀i∈l,F i):In2 F v:=by
 have gen:Mq v=I l->In2 F v:=λh=> .of1<|vc h hF;cases v<;>first|exact ly h hF|exact gen h
def abg:∀ {cs:List AV} {l:List Nat},iM cs=I l->(∀i∈l,F i)->∀c∈cs,In2 F c
 | [],_,_,_,_,hc=>by cases hc
 | c::cs,l,h,hF,d,hd=>by
  obtain⟨a,h1,h⟩:=An.1 h;obtain⟨b,h2,h⟩:=An.1 h;cases h;rcases Bk.1 hd with rfl|hd
  .exact vY h1 λi hi=>hF i (CE _ hi)
  .exact abg h2 (λi hi=>hF i<|Cy _ hi) d hd
def adP{v:AV}{l:List Nat}(h:YM v=I l)(hF:∀i∈l,F i):In3 F v:=by
 have gen:Nh v=I l->In3 F v:=λh=> .of2<|vY h hF;cases v<;>first|exact abg h hF|exact gen h
def Xl{v:AV}{l:List Nat}(h:U1 v=I l)(hF:∀i∈l,F i):InA F v:=by
 have gen:YM v=I l->InA F v:=λh=> .of3<|adP h hF;cases v with
 | gd g w v=>exact adP (v:=v) h hF
 | _=>exact gen h
def tO:∀ {ids m:List Nat},YZ H ids=I m->(∀i∈m,F i)->∀i∈ids,∀ob,H i=I ob->Ep F ob
 | [],_,_,_,_,hi=>by cases hi
 | j::l,m,h,hF,i,hi=>by
  obtain⟨a,h1,h⟩:=An.1 h;obtain⟨b,h2,h⟩:=An.1 h;cases h;rcases Bk.1 hi with rfl|hi
  .intro ob ho;unfold aaP at h1;rw[ho]at h1;cases ob<;>first|trivial|exact ly h1 λi hi=>hF i (CE _ hi)
  .exact tO h2 (λi hi=>hF i<|Cy _ hi) i hi
def fQ:∀(n:Nat) (l:List Nat) {c:Nat},clo H n l=I c->(∀i∈l,Mm c i)/\DY (Mm c) H
 | 0,[],c,h=>by cases h;exact⟨by simp,λi ob hi=>by simp[Mm]at hi⟩
 | 0,_::_,c,h=>by cases h
 | n+1,[],c,h=>by cases h;exact⟨by simp,λi ob hi=>by simp[Mm]at hi⟩
 | n+1,j::l,c,h=>by
  have h:((YZ H<|j::l).bind λm=>(clo H n m).bind λr=>I<|BO (msk<|j::l) r)=I c:=h;obtain⟨m,h1,h⟩:=An.1 h;obtain⟨r,h2,h⟩:=An.1 h;cases h;obtain⟨i1,i2⟩:=fQ n m h2;have up:∀i,Mm r i->Mm (BO (msk<|j::l) r) i:=λi hi=>by
   show(BO _ _).testBit i=A1;rw[EZ,show r.testBit i=A1 from hi];simp
  refine⟨λi hi=> ?_,λi ob hi ho=> ?_⟩
  .show(BO _ _).testBit i=A1;rw[EZ,Mb.2 hi];rfl
  .have hi:(BO (msk<|j::l) r).testBit i=A1:=hi;rw[EZ,Ci]at hi;obtain hi|hi:=hi
   .exact tO h1 (λk hk=>up k<|i1 k hk) i (Mb.1 hi) ob ho
   .have:=i2 i ob hi ho;cases ob<;>first|trivial|exact λc hc=>(this c hc).mono up
end
section
variable {C:Cx} {ops:Array Oper} {s0:S} {b0:Nat}
def CX(C:Cx)(ops:Array Oper)(s0:S)(b0:Nat):List Rec->Prop
 | []=>True
 | r::acc=>CX C ops s0 b0 acc/\r.i=acc.length/\r.b=b0+16 * acc.length/\ops[r.i]? =I r.o/\Pr acc r.o.after.toList=I r.anc/\
  (∃l c,ck s0 acc (DF ops r.o)=I l/\clo s0.H 4 l=I c/\((mvO r.o=A3/\r.F=ON r.anc acc (BO c<|nm r.b)/\((r.N=BO (msk l) (nm r.b)/\pur r.o=A1/\r.o.guard=U)\/r.N=r.F))\/(mvO r.o=A1/\r.F=BO (msk l) (nm r.b)/\r.N=nm r.b)))/\(sbs r.W r.F=A1/\ ∀id,Mm (nm r.b) id->Mm r.W id)/\
  (∀x∈acc,chk ops x r=A1)/\okO C r.o=A1/\OC r.o.dst (DF ops r.o)=A1
def CX.lt:∀ {acc:List Rec},CX C ops s0 b0 acc->∀r∈acc,r.i<acc.length
 | [],_,r,hr=>by cases hr
 | x::acc,h,r,hr=>by
  rcases Bk.1 hr with rfl|hr
  .rw[h.2.1];simp
  .have:=CX.lt h.1 r hr;simp;omega
def CX.mem:∀ {acc:List Rec},CX C ops s0 b0 acc->∀r∈acc,∃HW,CX C ops s0 b0 (r::HW)/\(∀x∈HW,x∈acc)/\(∀x∈acc,x.i<r.i->x∈HW)/\(∀x∈HW,x.i<r.i)
 | [],_,r,hr=>by cases hr
 | x::acc,h,r,hr=>by
  rcases Bk.1 hr with rfl|hr
  .refine⟨acc,h,λy hy=>Al _ hy,λy hy hlt=> ?_,λy hy=>by rw[h.2.1];exact h.1.lt y hy⟩;rcases Bk.1 hy with rfl|hy
   .omega
   .exact hy
  .obtain⟨HW,h1,h2,h3,h4⟩:=CX.mem h.1 r hr;have k1:=h.1.lt r hr;have k2:=h.2.1;refine⟨HW,h1,λy hy=>Al _<|h2 y hy,λy hy hlt=> ?_,h4⟩;rcases Bk.1 hy with e|hy
   .rw[e]at hlt;omega
   .exact h3 y hy hlt
def CX.find:∀ {acc:List Rec},CX C ops s0 b0 acc->∀r∈acc,I3 r.i acc=I r
 | [],_,r,hr=>by cases hr
 | x::acc,h,r,hr=>by
  unfold I3;rcases Bk.1 hr with rfl|hr
  .simp
  .have h1:=h.1.lt r hr;have h2:=h.2.1;have:Aj x.i r.i=A3:=by rw[← Ha,HU];omega
   rw[this];exact CX.find h.1 r hr
def Mu{i:Nat}{r:Rec}:∀ {acc:List Rec},I3 i acc=I r->r∈acc/\r.i=i
 | [],h=>by cases h
 | x::acc,h=>by
  unfold I3 at h;split at h
  .rename_i e;cases h;exact⟨Ap,Bn e⟩
  .have:=Mu h;exact⟨Al _ this.1,this.2⟩
def aAo{t:Nat}{r:Rec}:∀ {acc:List Rec},Rk t acc=I r->r∈acc/\r.o.dst=I t
 | [],h=>by cases h
 | x::acc,h=>by
  unfold Rk at h;split at h
  .rename_i e;cases h;refine⟨Ap, ?_⟩;unfold lb at e;split at e
   .rename_i d hd;rw[hd,Bn e]
   .cases e
  .have:=aAo h;exact⟨Al _ this.1,this.2⟩
def CX.ex:∀ {acc:List Rec},CX C ops s0 b0 acc->∀i,i<acc.length->∃r∈acc,r.i=i
 | [],_,i,hi=>by simp at hi
 | x::acc,h,i,hi=>by
  by_cases e:i=acc.length
  .exact⟨x,Ap,by rw[h.2.1,e]⟩
  .obtain⟨r,hr,e'⟩:=CX.ex h.1 i (by simp at hi;omega);exact⟨r,Al _ hr,e'⟩
def UK{anc:Nat}:∀(acc:List Rec) (F:Nat) (i:Nat),Mm F i->Mm (ON anc acc F) i
 | [],_,_,h=>h
 | r::acc,F,i,h=>by
  unfold ON;refine UK acc _ i ?_;split
  .show(BO _ _).testBit i=A1;rw[EZ,show F.testBit i=A1 from h];simp
  .exact h
def DY.lor{H:Hp}{a b:Nat}(h1:DY (Mm a) H)(h2:DY (Mm b) H):DY (Mm<|BO a b) H:=by
 have up1:∀i,Mm a i->Mm (BO a b) i:=λi hi=>by
  show(BO _ _).testBit i=A1;rw[EZ,show a.testBit i=A1 from hi];simp
 have up2:∀i,Mm b i->Mm (BO a b) i:=λi hi=>by
  show(BO _ _).testBit i=A1;rw[EZ,show b.testBit i=A1 from hi];simp
 intro i ob hi ho;have hi:(BO a b).testBit i=A1:=hi;rw[EZ,Ci]at hi;obtain hi|hi:=hi
 .have:=h1 i ob hi ho;cases ob<;>first|trivial|exact λc hc=>(this c hc).mono up1
 .have:=h2 i ob hi ho;cases ob<;>first|trivial|exact λc hc=>(this c hc).mono up2
def abd{anc:Nat}{H:Hp}:∀(acc:List Rec) (F:Nat),(∀r∈acc,mvO r.o=A3->DY (Mm r.F) H)->DY (Mm F) H->DY (Mm<|ON anc acc F) H
 | [],_,_,h=>h
 | r::acc,F,hr,h=>by
  unfold ON;refine abd acc _ (λx hx=>hr x<|Al _ hx) ?_;split
  .rename_i hc;simp only[AI,DR]at hc;exact(hr r Ap hc.2).lor h
  .exact h
def Fr(s:S):Prop:=∀j,s.nid<=j->s.H j=U
def CX.closed(hfr:∀j,b0<=j->s0.H j=U):∀ {acc:List Rec},CX C ops s0 b0 acc->∀r∈acc,mvO r.o=A3->DY (Mm r.F) s0.H
 | [],_,r,hr=>by cases hr
 | x::acc,h,r,hr=>by
  intro hmv;have ih:=CX.closed hfr h.1;rcases Bk.1 hr with rfl|hr
  .obtain⟨_,_,hb,_,_,⟨l,c,h1,h2,h3⟩,_⟩:=h;obtain h3|h3:=h3
   .rw[h3.2.1];refine abd _ _ ih ((fQ 4 l h2).2.lor λi ob hi ho=> ?_);have:=MW.1 hi;rw[hfr i J]at ho;cases ho
   .rw[hmv]at h3;cases h3.1
  .exact ih r hr hmv
def TO{acc:List Rec}:∀(l:List Edge) {m:Nat},Pr acc l=I m->(∀e∈l,Fq .any e=A1->∃r,I3 e.on acc=I r)/\
  (∀x,Mm m x->∃e∈l,Fq .any e=A1/\ ∃r,I3 e.on acc=I r/\(e.on=x\/Mm r.anc x))
 | [],m,h=>by cases h;exact⟨by simp,λx hx=>by simp[Mm]at hx⟩
 | e::l,m,h=>by
  unfold Pr at h;split at h
  .rename_i hb;obtain⟨r,h1,h⟩:=An.1 h;obtain⟨m',h2,h⟩:=An.1 h;cases h;obtain⟨i1,i2⟩:=TO l h2;refine⟨λe' he hb'=> ?_,λx hx=> ?_⟩
   .rcases Bk.1 he with rfl|he
    .exact⟨r,h1⟩
    .exact i1 e' he hb'
   .have hx:(BO (BO (bit e.on) r.anc) m').testBit x=A1:=hx;rw[EZ,EZ,Ci,Ci]at hx;obtain(hx|hx)|hx:=hx
    .exact⟨e,Ap,hb,r,h1,.inl (fX.1 hx).symm⟩
    .exact⟨e,Ap,hb,r,h1,.inr hx⟩
    .obtain⟨e',he,h3⟩:=i2 x hx;exact⟨e',Al _ he,h3⟩
  .rename_i hb;obtain⟨i1,i2⟩:=TO l h;refine⟨λe' he hb'=> ?_,λx hx=> ?_⟩
   .rcases Bk.1 he with rfl|he
    .rw[hb]at hb';cases hb'
    .exact i1 e' he hb'
   .obtain⟨e',he,h3⟩:=i2 x hx;exact⟨e',Al _ he,h3⟩
def CX.dw:∀ {acc:List Rec},CX C ops s0 b0 acc->∀r∈acc,∀x,Mm r.anc x->x<r.i
 | [],_,r,hr=>by cases hr
 | y::acc,h,r,hr=>by
  intro x hx;rcases Bk.1 hr with rfl|hr
  .obtain⟨hg,hi,_,_,ha,_⟩:=h;obtain⟨e,he,hb,r',h1,h2⟩:=(TO _ ha).2 x hx;obtain⟨hm,hei⟩:=Mu h1;have:=hg.lt r' hm;obtain h2|h2:=h2
   .omega
   .have:=CX.dw hg r' hm x h2;omega
  .exact CX.dw h.1 r hr x hx
def Bz(acc:List Rec)(b0:Nat):Lb where
 b i:=b0+16 * i
 F i id:=match I3 i acc with
  | some r=>Mm r.F id
  | none=>b0+16 * i<=id/\id<b0+16 * i+16
 N i id:=match I3 i acc with
  | some r=>Mm r.N id
  | none=>b0+16 * i<=id/\id<b0+16 * i+16
 K i id:=match I3 i acc with
  | some r=>Mm r.K id
  | none=>b0+16 * i<=id/\id<b0+16 * i+16
 W i id:=match I3 i acc with
  | some r=>Mm r.W id
  | none=>b0+16 * i<=id/\id<b0+16 * i+16
 V i id:=match I3 i acc with
  | some r=>id∈r.V
  | none=>False
 R x i:=match I3 i acc with
  | some r=>Mm r.anc x
  | none=>False
def Yp{d:Option Nat}{l:List Nat}(h:OC d l=A1):∀t,d=I t->t ∉ l:=by
 intro t e hm;subst e;have:aBF t l=A1:=I5.2 ⟨t,hm,by simp⟩;simp[OC,this]at h
def yu{d e:Option Nat}(h:oK d e=A1):∀t,d=I t->e≠I t:=by
 intro t h1 h2;subst h1;subst h2;simp[oK]at h
def CX.op{acc:List Rec}(h:CX C ops s0 b0 acc)(hn:acc.length=ops.size){i:Nat}{o:Oper}(ho:ops[i]? =I o):∃r∈acc,r.i=i/\r.o=o/\I3 i acc=I r:=by
 obtain⟨r,hr,hi⟩:=h.ex i (by rw[hn];exact(HV.1 ho).1);obtain⟨HW,hg,_⟩:=h.mem r hr;have:=hg.2.2.2.1;rw[hi,ho]at this;exact⟨r,hr,hi,(EI this).symm,by rw[← hi];exact h.find r hr⟩
def CX.chk{acc:List Rec}(h:CX C ops s0 b0 acc){x r:Rec}(hx:x∈acc)(hr:r∈acc)(hlt:x.i<r.i):VS.chk ops x r=A1:=by
 obtain⟨HW,hg,_,h3,_⟩:=h.mem r hr;exact hg.2.2.2.2.2.2.2.1 x<|h3 x hx hlt
def CX.Mi{acc:List Rec}(h:CX C ops s0 b0 acc){r:Rec}(hr:r∈acc):r.b=b0+16 * r.i/\(∀id,r.b<=id->id<r.b+16->Mm r.F id)/\(sbs r.W r.F=A1/\ ∀id,Mm (nm r.b) id->Mm r.W id):=by
 obtain⟨HW,hg,_⟩:=h.mem r hr;obtain⟨_,hi,hb,_,_,⟨l,c,h1,h2,h3⟩,hw,_⟩:=hg;refine⟨by rw[hi];exact hb,λid k1 k2=> ?_,hw⟩;obtain h3|h3:=h3
 .rw[h3.2.1];refine UK _ _ id ?_;show(BO _ _).testBit id=A1;rw[EZ,MW.2 ⟨k1,k2⟩];simp
 .rw[h3.2.1];show(BO _ _).testBit id=A1;rw[EZ,MW.2 ⟨k1,k2⟩];simp
def CX.N_F{acc:List Rec}(h:CX C ops s0 b0 acc){r:Rec}(hr:r∈acc):∀id,Mm r.N id->Mm r.F id:=by
 obtain⟨HW,hg,_⟩:=h.mem r hr;obtain⟨_,hi,hb,_,_,⟨l,c,h1,h2,h3⟩,hw,_⟩:=hg;intro id hid;obtain⟨_,h3,h4⟩|⟨_,h3,h4⟩:=h3
 .rcases h4 with h4|h4
  .rw[h3];refine UK _ _ id ?_;rw[h4.1]at hid;have hid:(BO _ _).testBit id=A1:=hid;rw[EZ,Ci]at hid;show(BO _ _).testBit id=A1;rw[EZ];obtain hid|hid:=hid
   .rw[(fQ 4 l h2).1 id<|Mb.1 hid];rfl
   .rw[hid];simp
  .rw[← h4];exact hid
 .rw[h3];rw[h4]at hid;have hid:(nm r.b).testBit id=A1:=hid;show(BO _ _).testBit id=A1;rw[EZ,hid];simp
def CX.nice{acc:List Rec}(h:CX C ops s0 b0 acc)(hn:acc.length=ops.size):P9 ops (Bz acc b0):=by
 constructor
 .intro i id hw;simp only[Bz]at hw ⊢;split at hw
  .rename_i r hr;obtain⟨hm,hi⟩:=Mu hr;obtain⟨_,h2,h3⟩:=h.Mi hm;exact Sl h3.1 id hw
  .exact hw
 .intro i id hw;simp only[Bz]at hw ⊢;split at hw
  .rename_i r hr;obtain⟨hm,hi⟩:=Mu hr;exact h.N_F hm id hw
  .exact hw
 .intro i id h1 h2;simp only[Bz]at h1 h2 ⊢;split
  .rename_i r hr;obtain⟨hm,hi⟩:=Mu hr;obtain⟨hb,k2,k3⟩:=h.Mi hm;rw[hi]at hb;exact k3.2 id (MW.2 ⟨J,J⟩)
  .exact⟨h1,h2⟩
 .intro x i hR;simp only[Bz]at hR;split at hR
  .rename_i r hr;obtain⟨hm,hi⟩:=Mu hr;have:=h.dw r hm x hR;omega
  .exact hR.elim
 .intro x i ox oi t hne hx hi ht;obtain⟨rx,hrx,ix,rfl,_⟩:=h.op hn hx;obtain⟨ri,hri,ii,rfl,_⟩:=h.op hn hi;rcases kX hne with hlt|hlt
  .have:=h.chk hrx hri J;simp only[VS.chk,AI]at this;exact yu this.1 t ht
  .have:=h.chk hri hrx J;simp only[VS.chk,AI]at this;exact λe=>yu this.1 t e ht
 .intro x i oi hi hR;obtain⟨ri,hri,ii,rfl,fi⟩:=h.op hn hi;simp only[Bz,fi]at hR ⊢;obtain⟨HW,hg,Jd,_⟩:=h.mem ri hri;obtain⟨e,he,hb,r',h1,h2⟩:=(TO _ hg.2.2.2.2.1).2 x hR;refine⟨e,by simpa using he,hb, ?_⟩;obtain h2|h2:=h2
  .exact .inl h2
  .obtain⟨hm,hei⟩:=Mu h1;have:=h.find r'<|Jd r' hm;rw[hei]at this;rw[this];exact .inr h2
 .intro i oi e hi he hb;obtain⟨ri,hri,ii,rfl,fi⟩:=h.op hn hi;obtain⟨HW,hg,Jd,_,hlt⟩:=h.mem ri hri;obtain⟨r',h1⟩:=(TO _ hg.2.2.2.2.1).1 e (by simpa using he) hb;obtain⟨hm,hei⟩:=Mu h1;have:=hlt r' hm;omega
 .intro x i hR ox oi hx hi;obtain⟨rx,hrx,ix,rfl,fx⟩:=h.op hn hx;obtain⟨ri,hri,ii,rfl,fi⟩:=h.op hn hi;simp only[Bz,fi,fx]at hR ⊢;have hlt:=h.dw ri hri x hR;have hc:=h.chk hrx hri J;simp only[VS.chk,AI]at hc;have hT:tst ri.anc rx.i=A1:=by rw[ix];exact sZ.2 hR
  rw[hT]at hc;obtain⟨_,hc⟩:=hc;simp only[AI,Ci]at hc;obtain⟨⟨c1,c2⟩,c3⟩:=hc;refine⟨?_,λt ht hl=> ?_,λid h1 h2 hF=> ?_⟩
  .rcases c1 with c1|c1
   .exact .inl (L9 c1)
   .exact .inr (Sl c1)
  .rcases c2 with c2|c2
   .exact absurd hl (Yp c2 t ht)
   .exact⟨λid hid=>Sl c2.1 id<|Mb.2 hid,c2.2.imp id λh id hid=>Sl h id<|Mb.2 hid⟩
  .have hb:=(h.Mi hri).1;exact L9 c3 id hF (MW.2 ⟨J,J⟩)
 .intro x i hlt hR ox oi hx hi;obtain⟨rx,hrx,ix,rfl,fx⟩:=h.op hn hx;obtain⟨ri,hri,ii,rfl,fi⟩:=h.op hn hi;simp only[Bz,fi,fx]at hR ⊢;have hc:=h.chk hrx hri J;simp only[VS.chk,AI]at hc;have hT:tst ri.anc rx.i=A3:=by
   rw[ix];cases hh:tst ri.anc x with
   | false=>rfl
   | true=>exact absurd (sZ.1 hh) hR
  rw[hT]at hc;obtain⟨_,hc⟩:=hc;simp only[AI]at hc;obtain⟨⟨⟨k1,k2⟩,k3,k4⟩,k5,k6,k7⟩:=hc.1.1;have hbi:=(h.Mi hri).1;have hbx:=(h.Mi hrx).1;exact⟨L9 k1,L9 k2,L9 k3,L9 k4,L9 k5,λid h1 h2 hF=>L9 k6 id hF<|MW.2 ⟨J,J⟩,λid h1 h2 hF=>L9 k7 id hF<|MW.2 ⟨J,J⟩,Yp hc.1.2,Yp hc.2⟩
end
end Go.VS
namespace Go.VS
open Go
section
variable {C:Cx} {P:Program} {kd:TypeId->Option K} {s s':S} {b j:Nat} {E:Nat->AV}
structure BG (N:Nat->Prop) (s s':S):Prop where
 nid:s'.nid=s.nid
 n:s'.n=s.n
 pins:s'.pins=s.pins
 nn:∀j,¬N j->s.H j=U->s'.H j=U
def BG.refl(N:Nat->Prop)(s:S):BG N s s:=⟨rfl,rfl,rfl,λ_ _ h=>h⟩
def BG.trans{N:Nat->Prop}{s s' s'':S}(h:BG N s s')(k:BG N s' s''):BG N s s'':=
 ⟨k.nid.trans h.nid,k.n.trans h.n,k.pins.trans h.pins,λj hj e=>k.nn j hj<|h.nn j hj e⟩
def BG.put{N:Nat->Prop}{s s':S}(h:BG N s s')(d:Option Nat)(v:AV):BG N s (s'.put d v):=by
 cases d<;>exact⟨h.nid,h.n,h.pins,h.nn⟩
def BG.ES{N:Nat->Prop}{s s':S}(h:BG N s s'){id:Nat}{ob:Option Ob}(hid:N id\/s.H id≠U):BG N s (s'.ES id ob):=by
 refine⟨h.nid,h.n,h.pins,λj hj e=> ?_⟩;show upd s'.H id ob j=U;rw[BE _ _ (λe'=>by subst e';exact hid.elim hj λh=>h e)];exact h.nn j hj e
def BG.map{N:Nat->Prop}{s s':S}(h:BG N s s')(f:AV->AV):BG N s (s'.map f):=by
 refine⟨h.nid,h.n,h.pins,λj hj e=> ?_⟩;show CJ f (s'.H j)=U;rw[h.nn j hj e];rfl
def BG.aEJ{N:Nat->Prop}{s s':S}(h:BG N s s'){id:Nat}:BG N s (s'.ES id U):=by
 refine⟨h.nid,h.n,h.pins,λj hj e=> ?_⟩;show upd s'.H id U j=U;by_cases e':j=id
 .subst e';rw[Bl]
 .rw[BE _ _ e'];exact h.nn j hj e
def BG.kill{N:Nat->Prop}{s s':S}(h:BG N s s')(id:Nat):BG N s (s'.kill id):=(h.map _).aEJ
def BG.freeze{N:Nat->Prop}{s s':S}(h:BG N s s')(id:Nat):BG N s (s'.freeze id):=by
 unfold S.freeze;split
 .exact(h.map _).aEJ
 .exact h.kill id
def BG.Le{N:Nat->Prop}:∀(ids:List Nat) {s s':S},BG N s s'->BG N s (ids.foldl S.freeze s')
 | [],_,_,h=>h
 | i::ids,_,_,h=>BG.Le ids (h.freeze i)
def BG.gT{N:Nat->Prop}:∀(ids:List Nat) {s s':S},BG N s s'->BG N s (ids.foldl S.kill s')
 | [],_,_,h=>h
 | i::ids,_,_,h=>BG.gT ids (h.kill i)
def awq{N:Nat->Prop}{t:TypeId}{x y:AV}(h:Ic P t s x y=I s'):BG N s s':=by
 unfold Ic at h;split at h
 .rename_i id z i o;split at h
  .rename_i e cs hob;split at h
   .obtain⟨ys,hc,h⟩:=An.1 h;split at h<;>cases h;exact(BG.refl N s).ES (.inr (by rw[hob];simp))
   .cases h
  .rename_i e fz k xs hob;obtain⟨ys,hc,h⟩:=An.1 h;split at h
   .obtain⟨v,hd,h⟩:=An.1 h;cases h;exact(BG.Le _<|BG.refl N s).ES (.inr (by rw[hob];simp))
   .cases h
  .rename_i e k xs hob;obtain⟨ys,hc,h⟩:=An.1 h;split at h
   .obtain⟨v,hd,h⟩:=An.1 h;cases h;exact(BG.refl N s).ES (.inr (by rw[hob];simp))
   .cases h
  .cases h
 .cases h
def ash{N:Nat->Prop}(hb:N b){t t2:TypeId}{x y v:AV}{q:Bool}(h:Jy P kd t t2 s b x y=I (q,v,s')):BG N s s':=by
 unfold Jy at h;obtain⟨e,he,h⟩:=An.1 h;obtain⟨k,hk,h⟩:=An.1 h;obtain⟨ys,hys,h⟩:=An.1 h;split at h
 .cases h;exact(BG.refl N s).ES (.inl hb)
 .split at h
  .rename_i hob _;split at h
   .obtain⟨zs,hz,h⟩:=An.1 h;cases h;exact((BG.refl N s).map _).ES (.inr (by rw[hob];simp))
   .cases h
  .cases h
 .cases h
def ayO{N:Nat->Prop}{t:TypeId}{x y v:AV}(h:Kd P t s x y=I (v,s')):BG N s s':=by
 unfold Kd at h;split at h
 .split at h
  .rename_i hob _;obtain⟨e',he,h⟩:=An.1 h;split at h
   .obtain⟨ys,hys,h⟩:=An.1 h;cases h;exact(BG.refl N s).ES (.inr (by rw[hob];simp))
   .cases h
  .cases h
 .cases h
def ai1{N:Nat->Prop}{id:Nat}{z:Bool}{lo hi:Option AV}{v:AV}{q:Bool}(h:Kc s id z lo hi=I (q,v,s')):BG N s s':=by
 unfold Kc at h;split at h
 .rename_i e fz k xs hob;obtain⟨⟨c,l,hh⟩,hc,h⟩:=An.1 h;simp only at h;split at h
  .cases h;exact((BG.refl N s).map _).ES (.inr (by rw[hob];simp))
  .cases h
  .cases h;exact(BG.refl N s).freeze id
 .cases h
def HX(N:Nat->Prop)(H H':Hp):Prop:=∀j,¬N j->H j=U->H' j=U
def HX.refl(N:Nat->Prop)(H:Hp):HX N H H:=λ_ _ h=>h
def HX.trans{N:Nat->Prop}{H H' H'':Hp}(h:HX N H H')(k:HX N H' H''):HX N H H'':=λj hj e=>k j hj<|h j hj e
def HX.upd{N:Nat->Prop}{H H':Hp}(h:HX N H H'){id:Nat}{ob:Option Ob}(hid:N id\/H id≠U):HX N H (upd H' id ob):=λj hj e=>by
 rw[BE _ _ (λe'=>by subst e';exact hid.elim hj λh=>h e)];exact h j hj e
mutual
theorem Ji {N:Nat->Prop} :∀(h:Sh) (H:Hp) (b:Nat) (x:LT h),(∀j,b<=j->j<(BL E H b h x).2.2->N j)->HX N H (BL E H b h x).2.1
 | .int _,H,_,_,_=> .refl _ _
 | .bool,H,_,_,_=> .refl _ _
 | .str,H,_,_,_=> .refl _ _
 | .sl _,H,_,_,_=> .refl _ _
 | .arr _,H,_,_,_=> .refl _ _
 | .same _,H,_,_,_=> .refl _ _
 | .fz _,H,_,_,_=> .refl _ _
 | .row _ _,H,b,_,hN=>(HX.refl _ _).upd (.inl<|hN b (As b)<|Ts b)
 | .Cb _ _,H,b,_,hN=>(HX.refl _ _).upd (.inl<|hN b (As b)<|Ts b)
 | .abx _ _,H,b,_,hN=>(HX.refl _ _).upd (.inl<|hN b (As b)<|Ts b)
 | .agg l,H,b,x,hN=>by
  have un:BL E H b (.agg l) x=(match Ak E H b l x with|(cs,H,b)=>(AV.agg cs,H,b)):=rfl;have ih:=bP (N:=N) l H b x;rw[un]at hN ⊢;generalize Ak E H b l x=r at *;exact ih hN
 | .box e l,H,b,x,hN=>by
  have un:BL E H b (.box e l) x=(match Ak E H b l x with|(cs,H,b)=>(AV.ptr b cs.length 0 0,upd H b<|I<|.box e cs,b+1)):=rfl;have ih:=bP (N:=N) l H b x;have hle:=JB E l H b x;rw[un]at hN ⊢;generalize Ak E H b l x=r at *;obtain⟨cs,H',b'⟩:=r;exact(ih λj h1 h2=>hN j h1<|Nat.lt_succ_of_lt h2).upd<|.inl<|hN b' hle<|Ts b'
theorem bP {N:Nat->Prop} :∀(l:List Sh) (H:Hp) (b:Nat) (x:LTs l),(∀j,b<=j->j<(Ak E H b l x).2.2->N j)->HX N H (Ak E H b l x).2.1
 | [],H,_,_,_=> .refl _ _
 | h::l,H,b,x,hN=>by
  have un:Ak E H b (h::l) x=(match BL E H b h x.1 with|(c,H,b)=>match Ak E H b l x.2 with|(cs,H,b)=>(c::cs,H,b)):=rfl;have ih:=Ji (N:=N) h H b x.1;have hle:=EN E h H b x.1;rw[un]at hN ⊢;generalize BL E H b h x.1=r at *;obtain⟨c,H',b'⟩:=r;have ih2:=bP (N:=N) l H' b' x.2;have PU:=JB E l H' b' x.2;simp only at hN ⊢;generalize Ak E H' b' l x.2=r at *;obtain⟨cs,H'',b''⟩:=r;exact(ih λj h1 h2=>hN j h1<|Gw h2 PU).trans<|ih2 λj h1 h2=>hN j (CB hle h1) h2
end
mutual
theorem abn (E:Nat->AV):∀(h:Sh) (H:Hp) (b:Nat) (v:AV) (x:LT h),b<=(D5 E H b h v x).2.2
 | .box e l,H,b,v,x=>by
  by_cases hv:∃id z,v= .ptr id z 0 0
  .obtain⟨id,z,rfl⟩:=hv;have un:D5 E H b (.box e l) (.ptr id z 0 0) x=(match H id with
    | some (.box _ cs)=>(match BQ E H b l cs x with|(ds,H,b)=>(AV.ptr id z 0 0,upd H id<|I<|.box e ds,b))
    | _=>(.un,H,b)):=rfl
   rw[un];cases H id with
   | none=>exact As b
   | some ob=>
    cases ob with
    | box e' cs=>
     have:=Pt E l H b cs x;simp only;generalize BQ E H b l cs x=r at *;obtain⟨ds,H',b'⟩:=r;exact this
    | _=>exact As b
  .have:D5 E H b (.box e l) v x=BL E H b (.box e l) x:=by
    cases v<;>first|rfl|skip
    rename_i id z i o;cases i<;>cases o<;>first|rfl|exact absurd ⟨_,_,rfl⟩ hv
   rw[this];exact EN E _ H b x
 | .int _,H,b,v,x=>EN E _ H b x
 | .bool,H,b,v,x=>EN E _ H b x
 | .str,H,b,v,x=>EN E _ H b x
 | .sl _,H,b,v,x=>EN E _ H b x
 | .row _ _,H,b,v,x=>EN E _ H b x
 | .fz _,H,b,v,x=>EN E _ H b x
 | .Cb _ _,H,b,v,x=>EN E _ H b x
 | .abx _ _,H,b,v,x=>EN E _ H b x
 | .arr _,H,b,v,x=>EN E _ H b x
 | .same _,H,b,v,x=>As b
 | .agg _,H,b,v,x=>EN E _ H b x
theorem Pt (E:Nat->AV):∀(l:List Sh) (H:Hp) (b:Nat) (cs:List AV) (x:LTs l),b<=(BQ E H b l cs x).2.2
 | [],_,b,_,_=>As b
 | h::l,H,b,cs,x=>by
  have h1:=abn E h H b (cs.headD .un) x.1;have un:BQ E H b (h::l) cs x=(match D5 E H b h (cs.headD .un) x.1 with|(d,H,b)=>match BQ E H b l cs.tail x.2 with|(ds,H,b)=>(d::ds,H,b)):=rfl;rw[un];generalize D5 E H b h (cs.headD .un) x.1=r at *;obtain⟨c,H',b'⟩:=r;have h2:=Pt E l H' b' cs.tail x.2;simp only;generalize BQ E H' b' l cs.tail x.2=r at *;obtain⟨cs,H'',b''⟩:=r;exact CB h1 h2
end
mutual
theorem agb {N:Nat->Prop} :∀(h:Sh) (H:Hp) (b:Nat) (v:AV) (x:LT h),(∀j,b<=j->j<(D5 E H b h v x).2.2->N j)->HX N H (D5 E H b h v x).2.1
 | .box e l,H,b,v,x,hN=>by
  by_cases hv:∃id z,v= .ptr id z 0 0
  .obtain⟨id,z,rfl⟩:=hv;have un:D5 E H b (.box e l) (.ptr id z 0 0) x=(match H id with
    | some (.box _ cs)=>(match BQ E H b l cs x with|(ds,H,b)=>(AV.ptr id z 0 0,upd H id<|I<|.box e ds,b))
    | _=>(.un,H,b)):=rfl
   rw[un]at hN ⊢;cases ho:H id with
   | none=>exact .refl _ _
   | some ob=>
    rw[ho]at hN;cases ob with
    | box e' cs=>
     have ih:=pE (N:=N) l H b cs x;simp only at hN ⊢;generalize BQ E H b l cs x=r at *;obtain⟨ds,H',b'⟩:=r;exact(ih hN).upd<|.inr (by rw[ho];simp)
    | _=>exact .refl _ _
  .have:D5 E H b (.box e l) v x=BL E H b (.box e l) x:=by
    cases v<;>first|rfl|skip
    rename_i id z i o;cases i<;>cases o<;>first|rfl|exact absurd ⟨_,_,rfl⟩ hv
   rw[this]at hN ⊢;exact Ji (E:=E) _ H b x hN
 | .int _,H,b,v,x,hN=>Ji (E:=E) _ H b x hN
 | .bool,H,b,v,x,hN=>Ji (E:=E) _ H b x hN
 | .str,H,b,v,x,hN=>Ji (E:=E) _ H b x hN
 | .sl _,H,b,v,x,hN=>Ji (E:=E) _ H b x hN
 | .row _ _,H,b,v,x,hN=>Ji (E:=E) _ H b x hN
 | .fz _,H,b,v,x,hN=>Ji (E:=E) _ H b x hN
 | .Cb _ _,H,b,v,x,hN=>Ji (E:=E) _ H b x hN
 | .abx _ _,H,b,v,x,hN=>Ji (E:=E) _ H b x hN
 | .arr _,H,b,v,x,hN=>Ji (E:=E) _ H b x hN
 | .same _,H,b,v,x,hN=> .refl _ _
 | .agg l,H,b,v,x,hN=>Ji (E:=E) _ H b x hN
theorem pE {N:Nat->Prop} :∀(l:List Sh) (H:Hp) (b:Nat) (cs:List AV) (x:LTs l),(∀j,b<=j->j<(BQ E H b l cs x).2.2->N j)->HX N H (BQ E H b l cs x).2.1
 | [],H,_,_,_,_=> .refl _ _
 | h::l,H,b,cs,x,hN=>by
  have un:BQ E H b (h::l) cs x=(match D5 E H b h (cs.headD .un) x.1 with|(d,H,b)=>match BQ E H b l cs.tail x.2 with|(ds,H,b)=>(d::ds,H,b)):=rfl;have ih:=agb (N:=N) h H b (cs.headD .un) x.1;have hle:=abn E h H b (cs.headD .un) x.1;rw[un]at hN ⊢;generalize D5 E H b h (cs.headD .un) x.1=r at *;obtain⟨c,H',b'⟩:=r;have ih2:=pE (N:=N) l H' b' cs.tail x.2;have PU:=Pt E l H' b' cs.tail x.2;simp only at hN ⊢;generalize BQ E H' b' l cs.tail x.2=r at *;obtain⟨cs,H'',b''⟩:=r;exact(ih λj h1 h2=>hN j h1<|Gw h2 PU).trans<|ih2 λj h1 h2=>hN j (CB hle h1) h2
end
def aaC{N:Nat->Prop}(q:Bool)(ids:List Nat){s s':S}(h:BG N s s'):BG N s (GU q ids s'):=by
 cases q
 .exact h
 .exact BG.Le ids h
def aub{m:Da}{d:Option Nat}{as:List AV}(h:Hb m s b d as I=I s'):BG (λj=>b<=j/\j<b+16) s s':=by
 unfold Hb at h;simp only at h;split at h
 .rename_i x hx hn;obtain⟨r,hr,h⟩:=An.1 h;have k1:BG (λj=>b<=j/\j<b+16) s (GU (CL m.rs||CL (B6 m.ps)) (Cz s.H m.ps as)<|(CU s.H m.ps as).foldl S.kill s):=aaC _ _<|BG.gT _<|BG.refl _ s;generalize GU (CL m.rs||CL (B6 m.ps)) (Cz s.H m.ps as) ((CU s.H m.ps as).foldl S.kill s)=s2 at *;have k2:=pE (E:=λi=>(as[i]?).getD .un) (N:=λj=>b<=j/\j<b+16) (B6 m.ps) s2.H b (Ff m.ps as) r.2;have l2:=Pt (λi=>(as[i]?).getD .un) (B6 m.ps) s2.H b (Ff m.ps as) r.2;generalize BQ (λi=>(as[i]?).getD .un) s2.H b (B6 m.ps) (Ff m.ps as) r.2=q at *;obtain⟨ds,H1,b1⟩:=q;simp only at h;have k3:=bP (E:=λi=>(as[i]?).getD .un) (N:=λj=>b<=j/\j<b+16) m.rs H1 b1 r.1;have l3:=JB (λi=>(as[i]?).getD .un) m.rs H1 b1 r.1;generalize Ak (λi=>(as[i]?).getD .un) H1 b1 m.rs r.1=q at *;obtain⟨vs,H2,b2⟩:=q;simp only at h l2 l3 k2 k3;split at h
  .rename_i hb;have hb:=DQ hb;cases h;have k4:=(k2 λj h1 h2=>⟨h1,J⟩).trans (k3 λj h1 h2=>⟨J,J⟩);exact BG.put (s':={ s2 with H:=H2 }) ⟨k1.nid,k1.n,k1.pins,λj hj e=>k4 j hj<|k1.nn j hj e⟩ _ _
  .cases h
 .cases h
def Gr(r:PR):Prop:=∀q v os,r=I (q,v,os)->os.length<=1
def Gr.none:Gr .none:=λ_ _ _ h=>by cases h
def Gr.okA{v:AV}:Gr (okA v):=λ_ _ _ h=>by obtain⟨_,_,rfl⟩:=DT h;simp
def Gr.okN{v:AV}:Gr (okN v):=λ_ _ _ h=>by obtain⟨_,_,rfl,_⟩:=N9 h;simp
def Gr.nil{q:Bool}{v:AV}:Gr (I (q,v,[])):=λ_ _ _ h=>by cases h;simp
def Gr.one{q:Bool}{v:AV}{o:Ob}:Gr (I (q,v,[o])):=λ_ _ _ h=>by cases h;simp
def Gr.bind{α:Type}{o:Option α}{f:α->PR}(h:∀a,Gr<|f a):Gr (o.bind f):=by
 cases o with
 | none=>exact .none
 | some a=>exact h a
def vm{x y:TypeId}{v:AV}:Gr (Iu P x y v):=by
 unfold Iu
 repeat' (first|exact .none|exact .okA|exact .okN|exact .nil|exact .one|refine .bind λ_=> ?_|split)
def atj{ρ:Operand->AV}{H:Hp}{c:Call}:Gr (JD P ρ H c):=by
 unfold JD
 repeat' (first|exact .none|exact .okA|exact .okN|exact .nil|exact .one|refine .bind λ_=> ?_|split)
def aza{op:BinOp}{t:TypeId}{x y:AV}:Gr (OY P op t x y):=by
 unfold OY VT VP
 repeat' (first|exact .none|exact .okA|exact .okN|exact .nil|exact .one|refine .bind λ_=> ?_|split)
def awJ{ρ:Operand->AV}{H:Hp}{op:Op}:Gr (CA P kd ρ H b op):=by
 cases op<;>simp only[CA]<;>try (exact .none)
 case binOp=>exact aza
 case call=>exact atj
 case convert=>
  split
  .repeat' (first|exact .none|exact .okA|refine .bind λ_=> ?_|split)
  .split
   .rename_i h;exact λq v os e=>by cases e;exact vm _ _ _ h
   .exact vm
 case pick=>
  unfold Ov
  repeat' (first|exact .none|exact .okA|exact .okN|exact .nil|exact .one|refine .bind λ_=> ?_|split)
 case unOp=>
  unfold unA
  repeat' (first|exact .none|exact .okA|exact .okN|exact .nil|exact .one|refine .bind λ_=> ?_|split)
 case slice t x lo hi mx=>
  cases mx with
  | some m=>exact .none
  | none=>
   simp only;unfold R6
   repeat' (first|exact .none|exact .okA|exact .okN|exact .nil|exact .one|refine .bind λ_=> ?_|split)
 case index=>
  unfold Rq
  repeat' (first|exact .none|exact .okA|exact .okN|exact .nil|exact .one|refine .bind λ_=> ?_|split)
 case indexAddr=>
  unfold MD
  repeat' (first|exact .none|exact .okA|exact .okN|exact .nil|exact .one|refine .bind λ_=> ?_|split)
 all_goals repeat' (first|exact .none|exact .okA|exact .okN|exact .nil|exact .one|refine .bind λ_=> ?_|split)
def aCZ:∀(os:List Ob) (H:Hp) (b:Nat) {j:Nat},¬(b<=j/\j<b+os.length)->H j=U->Ei H b os j=U
 | [],_,_,_,_,h=>h
 | o::os,H,b,j,hj,h=>by
  refine aCZ os _ _ (λhh=>hj ⟨J,by simp;omega⟩) ?_;rw[BE _ _ λe=>hj ⟨J,by simp;omega⟩];exact h
def av7{ρ:Operand->AV}{H:Hp}{op:Op}{d:Option Nat}
  (he:(match CA P kd ρ H b op with
   | some (q,v,os)=>if q then I ({ s with H:=Ei s.H b os }.put d v) else U
   | none=>U)=I s'):BG (λj=>b<=j/\j<b+16) s s':=by
 split at he
 .rename_i q v os hp;split at he
  .cases he;have:=awJ _ _ _ hp;exact BG.put (N:=λj=>b<=j/\j<b+16) (s:=s) (s':={ s with H:=Ei s.H b os }) ⟨rfl,rfl,rfl,λj hj e=>aCZ os s.H b (λhh=>hj ⟨hh.1,J⟩) e⟩ _ _
  .cases he
 .cases he
def aD4{o:Oper}(he:CI C (AF S) o b s I=I s'):BG (λj=>b<=j/\j<b+16) s s':=by
 unfold CI at he;split at he
 .cases he
 generalize ho:o.op=op at he;have pu:∀s0:S,(match CA C.P C.kd s0.ev s0.H b op with
   | some (q,v,os)=>if q then I ({ s0 with H:=Ei s0.H b os }.put o.dst v) else U
   | none=>U)=I s'->BG (λj=>b<=j/\j<b+16) s0 s':=λs0 he=>av7 he
 cases op<;>try (exact pu s he)
 case store t p x=>
  simp only at he;split at he
  .rename_i s1 hs;cases he;exact(awq hs).put _ _
  .cases he
 case call c=>
  simp only at he;split at he
  .split at he
   .exact aub he
   .cases he
  .split at he
   .rename_i q v s1 hs;split at he
    .cases he;exact(ash (N:=λj=>b<=j/\j<b+16) ⟨As b,J⟩ hs).put _ _
    .cases he
   .cases he
  .split at he
   .rename_i v s1 hs;cases he;exact(ayO hs).put _ _
   .cases he
  .exact pu s he
 case slice t x lo hi mx=>
  cases mx with
  | some m=>exact pu s he
  | none=>
   simp only at he;split at he
   .split at he
    .cases he
    .split at he
     .rename_i q v s1 hs;split at he
      .cases he;exact(ai1 hs).put _ _
      .cases he
     .cases he
   .exact pu s he
 case buildSlice t n ps=>
  simp only at he;exact(BG.Le _<|BG.refl _ s).trans<|pu _ he
def aAQ{ops:Array Oper}{o:Oper}(he:ev1 C ops o b s=I s'):BG (λj=>b<=j/\j<b+16) s s':=by
 unfold ev1 evG at he;split at he
 .exact aD4 he
 .rename_i jj want hg;split at he
  .cases he
  .rename_i g _ _;split at he
   .rename_i qq v _ _;split at he
    .split at he
     case isFalse=>cases he
     cases he;have:=(BG.refl (λj=>b<=j/\j<b+16) s).put o.dst<|.gd g want v;exact⟨this.nid,this.n,this.pins,this.nn⟩
    .cases he
   .cases he
  .rename_i g _ _;have yes:∀w,CI C (AF S) o b { s with T:=upd s.T g (.b w) } I=I s'->BG (λj=>b<=j/\j<b+16) s s':=λw h=>by
    have:=aD4 h;exact⟨this.nid,this.n,this.pins,this.nn⟩
   have no:∀w,(match s.has o.dst with
      | true=>I (({ s with T:=upd s.T g (.b w) } :S).put o.dst Dp)
      | false=>U)=I s'->BG (λj=>b<=j/\j<b+16) s s':=λw h=>by
    split at h
    .cases h;have:BG (λj=>b<=j/\j<b+16) s { s with T:=upd s.T g (.b w) } :=⟨rfl,rfl,rfl,λ_ _ e=>e⟩;exact this.put _ _
    .cases h
   split at he
   .rename_i c hT;cases want<;>cases c<;>simp only[A5,if_false,Hh]at he
    .exact yes _ he
    .exact no _ he
    .exact no _ he
    .exact yes _ he
   .split at he
    .cases he;exact(BG.refl _ s).put _ _
    .cases he
   .cases he
end
end Go.VS
end
