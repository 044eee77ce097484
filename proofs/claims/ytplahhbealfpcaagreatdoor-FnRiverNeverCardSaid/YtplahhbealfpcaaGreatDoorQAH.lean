/- Part 8. -/
import Derived.Test.YtplahhbealfpcaaGreatDoorQAG
open Array renaming eq_empty_of_size_eq_zero->aBX,getD_eq_getD_getElem?->TU,getElem?_append_left->M0,getElem?_eq_some_iff->Gw,getElem?_setIfInBounds_ne->aBW,length_toList->Ep,mem_append->N8,range->TY,size_append->Qg,toList_setIfInBounds->lA
open Bool renaming and_eq_true->AE,and_self->Du,false->A3,false_eq_true->HX,false_or->Bi,not_eq_true'->CL,not_eq_true->GD,not_false->AI,not_true->AB,or_eq_true->CB,or_false->EK,or_self->FU,true->A0
open ByteArray renaming data_extract->Yk
open Decidable renaming decide->A1
open Go.Addr renaming add_lit->GX
open Go.Builtin renaming append_->Lx,copy_->lV,firstCells->I8,lenOf->lU,len_->Qi,nextslicecap->lF,zeroCells->M1
open Go.Call renaming operands->NJ
open Go.Code renaming region->Qd
open Go.Instr renaming fill->NG,sliceAt->QR,sliceBounds->QV,storeAt->QS,sureAddr->JG
open Go.Op renaming operands->BU
open Go.Region renaming binds->FT,ready->P6,wanted->JJ
open Go.Result renaming andThen_ok->Eo
open Go.Sem renaming run_bind->Ea,run_pure->FV
open Go.Value renaming slice->lK
open Go.World renaming block_lt_of_cell?->Tb,cell?->M7,cell?_of_block->Te
open Int renaming le_refl->E7
open List renaming all_eq_true->C0,any_eq_true->Gz,append_assoc->Bw,append_nil->CM,drop_drop->Jx,drop_eq_nil_of_le->Ly,eq_nil_of_length_eq_zero->E6,flatMap_append->lX,flatMap_cons->P3,foldl_append->HW,foldl_cons->EL,foldl_nil->M4,getElem?_append_left->I9,getElem?_append_right->FG,getElem?_cons_succ->aBP,getElem?_cons_zero->Yg,getElem?_drop->Ha,getElem?_eq_getElem->Av,getElem?_eq_some_iff->BL,getElem?_map->D2,getElem?_range->GY,getElem?_set_self->Yj,getElem?_take->GZ,getElem?_toArray->TS,getElem_mem->CJ,length->JL,length_append->Ar,length_cons->Bt,length_drop->E4,length_map->E5,length_nil->CA,length_take->Cw,map_congr_left->GS,map_cons->DP,map_id'->lY,map_map->I7,map_nil->JM,mem_append->BM,mem_append_left->Bq,mem_append_right->CK,mem_cons->Bj,mem_cons_of_mem->Am,mem_cons_self->Ap,mem_filterMap->G9,mem_map->DE,mem_of_getElem?->Cb,mem_of_mem_drop->Kl,mem_of_mem_take->Gx,mem_range->DD,mem_toArray->TT,nil_append->EM,nodup_append->Kw,nodup_cons->Ks,pairwise_append->NH,pairwise_cons->P2,pairwise_lt_range->Qa,range->BJ,replicate->BT,size_toArray->Kn,take_left'->P1,toList_toArray->aBf,zipIdx_cons->lD
open List.cons renaming injEq->M3
open Nat renaming add_assoc->D3,add_comm->NA,add_mul->E8,add_zero->HP,beq->Ag,beq_eq->H4,ble->Dp,div_lt_iff_lt_mul->aBZ,eq_of_beq_eq_true->Yl,land->P5,le_add_right->Ye,le_of_ble_eq_true->DX,le_refl->As,le_succ->lL,le_trans->Ca,lor->BI,lt_of_lt_of_le->Ga,lt_or_gt_of_ne->Ta,lt_succ_self->P0,min->Et,min_eq_left->Qh,mod_eq_of_lt->Oz,mod_lt->P9,mul_le_mul->lP,mul_le_mul_right->Dv,ne_of_lt->P4,one_mul->Oy,sub_mul->Yc,zero_add->DF,zero_le->Cu
open Ne renaming symm->Ky
open Option renaming bind_eq_some_iff->Aj,bind_some->A9,map_eq_some_iff->D4,map_some->QT,none->U,some->I
open Option.some renaming inj->C8,injEq->Bp
open Prod.mk renaming injEq->CG
set_option linter.all false
noncomputable section
namespace Go.VS
open Go
section
variable {P:Program} {B:Ba} {β:Beta} {H:Hp} {w w':World} {b:Nat} {tm:Nat->Value} {ρ:Operand->AV} {η:Operand->Value}
def aul{a c:A4}(h1:Ag a.size 0=A0)(h2:Ag c.size 0=A0):a=c:=by
 have e1:a.size=0:=Bk h1;have e2:c.size=0:=Bk h2;obtain⟨x⟩:=a;obtain⟨y⟩:=c;have e1':x.size=0:=e1;have e2':y.size=0:=e2;rw[aBX e1',aBX e2']
def atX{a c:AV}(h:ZS a c=A0){v:Value}(hv:RC w β a v):RC w β c v:=by
 unfold ZS at h;split at h
 .simp only[AE,decide_eq_true_eq]at h;obtain⟨rfl,rfl⟩:=h;exact hv
 .simp only[beq_iff_eq]at h;subst h;exact hv
 .simp only[AE]at h;obtain rfl:=aul h.1 h.2;exact hv
 .obtain rfl:=hv.Nh;exact .nil
 .cases h
def kV:∀ {as cs:List AV} {us:List Value},MC as cs=A0->RL (RC w β) as us->RL (RC w β) cs us
 | [],[],us,_,h=>h
 | [],_::_,_,h,_=>by simp[MC]at h
 | _::_,[],_,h,_=>by simp[MC]at h
 | a::as,c::cs,us,h,hl=>by
  simp only[MC,AE]at h;obtain⟨u,us',rfl,h1,h2⟩:=hl.C1;exact .cons (atX h.1 h1)<|kV h.2 h2
def Xw{t:TypeId}{k:K}(h:zok P t k=A0):∃i z,P.info? t=I i/\i.zero=I z/\z.cells.size=ks k/\ ∀w β,RL (RC w β) (enc k<|dfl k) z.cells.toList:=by
 unfold zok at h;cases hz:I0 P t with
 | none=>rw[hz]at h;cases h
 | some zs=>
  rw[hz]at h;obtain⟨i,z,hi,hz',rfl,h1⟩:=Wg hz;have key:∀w β,RL (RC w β) (enc k<|dfl k) z.cells.toList:=λw β=>kV h<|RL.lits _ h1;refine⟨i,z,hi,hz', ?_,key⟩;have:=(key default ⟨λ_=>U,λ_=>False⟩).1;rw[EE]at this;simpa using this
def WH{t:TypeId}{i:TypeInfo}(h:P.info? t=I i):P.cellsOf t=i.size:=by simp[Program.cellsOf,h]
def ij{t:TypeId}{i:TypeInfo}(h:P.info? t=I i):P.bytesOf t=i.bytes:=by simp[Program.bytesOf,h]
def dp{t e:TypeId}(h:IP P t=I e):P.underlying t=I (.slice e):=by
 unfold IP at h;split at h
 .cases h;assumption
 .cases h
def ano{k:K}{z:Array Value}(hz:z.size=ks k)(hr:RL (RC w β) (enc k<|dfl k) z.toList){n:Nat}:
  ∀i x j c u,(BT n<|dfl k)[i]? =I x->(enc k x)[j]? =I c->(madeCells z<|n * ks k)[i * ks k+j]? =I u->RC w β c u:=by
 intro i x j c u h1 h2 h3;have hx:x=dfl k:=List.eq_of_mem_replicate<|Cb h1;have hi:i<n:=by have:=(BL.1 h1).1;simpa using this
 subst hx;have hj:j<ks k:=by rw[← EE k<|dfl k];exact(BL.1 h2).1
 have hlt:i * ks k+j<n * ks k:=OH hi hj;simp only[madeCells,Array.getElem?_map,D4]at h3;obtain⟨q,hq,rfl⟩:=h3;have hq':q=i * ks k+j:=by
  rw[Gw]at hq;obtain⟨_,hq⟩:=hq;simpa using hq.symm
 subst hq';have hm:(i * ks k+j) % z.size=j:=by rw[hz,NA,Nat.add_mul_mod_self_right,Oz hj]
 rw[hm];have hjz:j<z.size:=J
 refine hr.2 j c _ h2 ?_;simp[hjz]
def asi(hH:Hs B β H w)(hb:H b=U){t e:TypeId}{k:K}(he:IP P t=I e)(hz:zok P e k=A0)(hc:P.cellsOf e=ks k)(hby:P.bytesOf e<=256){n:Int}(h0:0<=n)(hn:n<=4294967296):
  Good B β H w b (.own b) [.row e A3 k<|BT n.toNat<|dfl k] (((Instr.makeSlice t (.int .i64 n)<|.int .i64 n).run P w).andThen λu w=> .ok (.value u) w):=by
 obtain⟨i,z,hi,hz',hs,hr⟩:=Xw hz;have hu:=dp he;rw[WH hi]at hc;rw[ij hi]at hby;have hb1:(i.bytes:Int) * n<=281474976710656:=by
  have h1:(i.bytes:Int) * n<=256 * 4294967296:=Int.mul_le_mul J hn h0 J;omega
 have CW:=run_make (P:=P) w t e i z hu hi hz' .i64 .i64 n n h0 (E7 _) hb1 J;rw[CW,hc];have hml:n.toNat<=maxLen:=Ca (show n.toNat<=4294967296 by omega) (by decide);refine YK (w':=w.alloc<|.cells (madeCells z.cells<|n.toNat * ks k) e) (cap:=n.toNat) (us:=madeCells z.cells<|n.toNat * ks k) hH hb rfl rfl rfl (λj hj=>heap_alloc_old w _ hj) (heap_alloc_new w _) (by simp) hml
  (by rw[size_madeCells];exact As _) (ano hs<|hr w β) ?_
 simp
def Xq{k:K}:∀ {xs:List (Tof k)} {i j:Nat} {x:Tof k},xs[i]? =I x->j<ks k->(xs.flatMap<|enc k)[i * ks k+j]? =(enc k x)[j]?
 | [],_,_,_,h,_=>by simp at h
 | y::ys,0,j,x,h,hj=>by
  simp only[Yg,Bp]at h;subst h;rw[P3,I9 (by rw[EE];omega)];simp
 | y::ys,i+1,j,x,h,hj=>by
  simp only[aBP]at h;rw[P3,FG (by rw[EE,E8];omega),EE,← Xq h hj];congr 1;rw[E8];omega
def KO{k:K}(xs:List (Tof k)):(xs.flatMap<|enc k).length=xs.length * ks k:=by
 induction xs with
 | nil=>simp
 | cons x xs ih=>rw[P3,Ar,EE,ih,Bt,E8];omega
def QB{k:K}{xs:List (Tof k)}{us:List Value}(h:RL (RC w β) (xs.flatMap<|enc k) us):∀i x j c u,xs[i]? =I x->(enc k x)[j]? =I c->us[i * ks k+j]? =I u->RC w β c u:=by
 intro i x j c u h1 h2 h3;have hj:j<ks k:=by rw[← EE k x];exact(BL.1 h2).1
 exact h.2 _ c u (by rw[Xq h1 hj];exact h2) h3
def aoh(hP:P=B.P)(hH:Hs B β H w)(hb:H b=U){t:TypeId}{n:Nat}{k:K}{zs:List AV}(hz:I0 P t=I zs)(hk:MC zs ((BT n<|dfl k).flatMap<|enc k)=A0)(hc:P.cellsOf t=n * ks k)(hn:1<=n)
  {o:Oper}(ho:o.op= .alloc t):Good B β H w b (.ptr b (ks k) 0 0) [.arr t k<|BT n<|dfl k] ((execOp η o).run P w):=by
 obtain⟨i,z,hi,hz',rfl,h1⟩:=Wg hz;have EB:RL (RC w β) _ z.cells.toList:=kV hk<|RL.lits _ h1;have hsz:z.cells.size=n * ks k:=by
  have:=EB.1;rw[KO]at this;simpa using this
 obtain⟨β',g1,g2,g3⟩:=hH.grow (w':=w.alloc<|.cells z.cells t) hb (.arr t k<|BT n<|dfl k) (.pointer<|I ⟨w.heap.size,0,U⟩) n rfl rfl rfl (by simp) (λj hj=>heap_alloc_old w _ hj) (λa ha=>by cases ha;simp)
  (λβ' hβ hk=>⟨w.heap.size,z.cells,by simpa using hβ,heap_alloc_new w _,by simpa using hsz,by rw[← hP,hc];exact hsz,λi x j c u a1 a2 a3=>hk _ _<|QB EB i x j c u a1 a2<|by simpa using a3⟩)
 .refine⟨_,_,β', ?_,g1,g2,(?_:R2 (w.alloc<|.cells z.cells t) β' _ (.pointer<|I ⟨w.heap.size,0,U⟩))⟩
  .unfold execOp;rw[ho];simp[Instr.alloc,aDY hi hz',newVar,newRow]
  .have:=RC.ptr (w:=w.alloc<|.cells z.cells t) (β:=β') (id:=b) (sz:=ks k) (i:=0) (o:=0) g3 (b:=w.heap.size) (f:=0) rfl J;simpa[R2,R1] using this
def aCL(off:Nat):∀(ys:List Value) (n:Nat) (cs:Array Value),off+n+ys.length<=cs.size->
  (ys.zipIdx n).foldl (λcs (c,j)=>cs.setIfInBounds (off+j) c) cs=(cs.toList.take (off+n)++ys++cs.toList.drop (off+n+ys.length)).toArray
 | [],n,cs,_=>by simp
 | y::ys,n,cs,h=>by
  simp only[Bt]at h;rw[lD,EL,aCL off ys (n+1) _ (by simp;omega)];have e:=list_seg_step cs.toList (off+n) y ys (by simp;omega);simpa[lA,D3,NA,Nat.add_left_comm] using e
def aCP(place:Nat->Option (Nat×Nat))(cells:Array Value)(i off:Nat)(v:Value)(rest:List (Nat×Value))(hp:place i=I (off,v.cells.size))(hl:off+v.cells.size<=cells.size):
  NG place cells ((i,v)::rest)=NG place (cells.toList.take off++v.cells.toList++cells.toList.drop (off+v.cells.size)).toArray rest:=by
 have h1:¬(v.cells.size≠v.cells.size\/off+v.cells.size > cells.size):=J
 rw[NG,hp];simp only[ne_eq,not_true_eq_false,Ae,Bi,decide_eq_true_eq];rw[AD J,← Array.foldl_toList,Array.toList_zipIdx];have:=aCL off v.cells.toList 0 cells (by simpa using hl);simp only[HP,Ep]at this;rw[this]
def aDM{α β':Type}(f:α->Option β'):∀(l:List α),(∀x∈l,(f x).isSome=A0)->∃r,l.mapM f=I r/\r.length=l.length/\ ∀(i:Nat) (x:α),l[i]? =I x->r[i]? =f x
 | [],_=>⟨[],by simp,rfl,λi x h=>by simp at h⟩
 | x::l,h=>by
  obtain⟨r,h1,h2,h3⟩:=aDM f l (λy hy=>h y<|by simp[hy]);cases hx:f x with
  | none=>have:=h x (by simp);rw[hx]at this;cases this
  | some y=>
   refine⟨y::r,by simp[hx,h1],by simp[h2],λi z hi=> ?_⟩;cases i with
   | zero=>simp at hi;subst hi;simp[hx]
   | succ i=>simp at hi ⊢; exact h3 i z hi
def aAY(hη:∀x,RX w β tm (ρ x)<|η x){t:TypeId}{fs:Array Field}(hu:P.underlying t=I (.struct fs)){places:List (Nat×Nat)}
  (hp:∀(i:Nat) (f:Field),fs[i]? =I f->places[i]? =I (f.offset,P.cellsOf f.type)):∀(ps:List (Nat×Operand)) (cs:List AV) (us:Array Value) (ds:List AV),Hz P ρ t ps cs=I ds->RL (RC w β) cs us.toList->
  ∃vs:Array Value,NG (places.toArray[·]?) us (ps.map fun(i,x)=>(i,η x))=I vs/\RL (RC w β) ds vs.toList
 | [],cs,us,ds,h,hl=>by
  simp only[Hz,Bp]at h;subst h;exact⟨us,by simp[NG],hl⟩
 | (i,x)::ps,cs,us,ds,h,hl=>by
  simp only[Hz]at h;cases hf:LY P t i with
  | none=>rw[hf]at h;cases h
  | some f=>
   rw[hf]at h;simp only[A9]at h;cases hc:GO (ρ x) with
   | none=>rw[hc]at h;cases h
   | some ys=>
    rw[hc]at h;simp only[A9]at h;split at h
    .rename_i hb;simp only[AE]at hb;have hb1:=Bk hb.1;have hb2:=DX hb.2;have hr:=SD hc<|hη x;obtain⟨fs',hu',hf'⟩:=iL hf;rw[hu]at hu';cases hu';have hys:(η x).cells.size=ys.length:=by have:=hr.1;simpa using this
     have hcs:us.size=cs.length:=by have:=hl.1;simpa using this
     have hsp:RL (RC w β) (Gn cs f.offset ys) (us.toList.take f.offset++(η x).cells.toList++us.toList.drop (f.offset+(η x).cells.size)):=by
      unfold Gn;rw[hys];exact((hl.take _).append hr).append<|hl.drop _
     obtain⟨vs,h1,h2⟩:=aAY hη hu hp ps _ (us.toList.take f.offset++(η x).cells.toList++us.toList.drop (f.offset+(η x).cells.size)).toArray ds h hsp;refine⟨vs, ?_,h2⟩;rw[DP,aCP _ _ i f.offset (η x) _ ?_ J]
     .exact h1
     .rw[TS,hp i f hf',hys,hb1]
    .cases h
def aqa(hη:∀x,RX w β tm (ρ x)<|η x)(hH:Hs B β H w){t:TypeId}{fs:Array Field}{ps:Array (Nat×Operand)}{zs cs:List AV}(hz:I0 P t=I zs)(hu:P.underlying t=I (.struct fs))(ha:(fs.toList.all λf=>(P.info? f.type).isSome)=A0)
  (h:Hz P ρ t ps.toList zs=I cs){o:Oper}(ho:o.op= .build t ps):Good B β H w b (.agg cs) [] ((execOp η o).run P w):=by
 obtain⟨i,z,hi,hz',rfl,h1⟩:=Wg hz;obtain⟨places,hm,hlen,hpl⟩:=aDM (λf:Field=>(P.info? f.type).map λi=>(f.offset,i.size)) fs.toList (λf hf=>by
  have:=C0.1 ha f hf;simpa using this)
 obtain⟨vs,g1,g2⟩:=aAY (places:=places) hη hu (λi f hf=>by
  have ay7:=C0.1 ha f (Cb<|by simpa using hf);rw[hpl i f<|by simpa using hf];obtain⟨inf,acC⟩:=Option.isSome_iff_exists.1 ay7;simp[acC,WH acC]) ps.toList _ z.cells cs h (RL.lits _ h1)
 refine Good.same hH (u:= .agg vs) ?_ ⟨vs.toList,by simp,g2⟩;unfold execOp;rw[ho];have hb:P.built t (ps.map fun(i,x)=>(i,η x)).toList=I vs:=by
  simp only[Program.built,hi,hu,hz',hm];rw[← g1,Array.toList_map]
 simp only[Ea,run_build w t _ _ hb,Eo];rfl
def awN{k:K}{cs:List AV}{x:Tof k}(h:dec (λ_=>U) k cs=I x){us:List Value}(hl:RL (RC w β) cs us):RL (RC w β) (enc k x) us:=by
 have sl:∀(k:K) (c:AV) (l:List (Tof k)) (u:Value),C7 (λ_=>U) k c=I l->RC w β c u->RC w β (.sl k l) u:=by
  intro k c l u h1 h2;unfold C7 at h1;split at h1
  .obtain⟨e,rfl⟩:=Hn h1;subst e;exact h2
  .cases h1;rw[h2.Nh];exact .nil
  .cases h1
  .cases h1
 unfold dec at h;split at h<;>try (cases h;done)
 all_goals try (cases h;exact hl)
 .rename_i x';cases hx:C7 (λ_=>U) K.mixed x' with
  | none=>rw[hx]at h;cases h
  | some l=>
   rw[hx]at h;cases h;obtain⟨u1,_,rfl,g1,hl⟩:=hl.C1;obtain⟨u2,_,rfl,g2,hl⟩:=hl.C1;obtain⟨u3,_,rfl,g3,hl⟩:=hl.C1;obtain⟨u4,_,rfl,g4,hl⟩:=hl.C1;obtain⟨u5,_,rfl,g5,hl⟩:=hl.C1;obtain⟨u6,_,rfl,g6,hl⟩:=hl.C1;exact .cons g1 (.cons g2<|.cons g3<|.cons g4<|.cons g5<|.cons (sl _ _ _ _ hx g6) hl)
 .rename_i x' y' z';cases hx:C7 (λ_=>U) K.note x' with
  | none=>rw[hx]at h;cases h
  | some l=>
   cases hy:C7 (λ_=>U) K.mark y' with
   | none=>rw[hx,hy]at h;cases h
   | some m=>
    cases hz:C7 (λ_=>U) K.note z' with
    | none=>rw[hx,hy,hz]at h;cases h
    | some n=>
     rw[hx,hy,hz]at h;cases h;obtain⟨u1,_,rfl,g1,hl⟩:=hl.C1;obtain⟨u2,_,rfl,g2,hl⟩:=hl.C1;obtain⟨u3,_,rfl,g3,hl⟩:=hl.C1;obtain⟨u4,_,rfl,g4,hl⟩:=hl.C1;obtain⟨u5,_,rfl,g5,hl⟩:=hl.C1;obtain⟨u6,_,rfl,g6,hl⟩:=hl.C1;exact .cons g1 (.cons g2<|.cons g3<|.cons (sl _ _ _ _ hx g4)<|.cons (sl _ _ _ _ hy g5)<|.cons (sl _ _ _ _ hz g6) hl)
 .rename_i x';cases hx:C7 (λ_=>U) K.half x' with
  | none=>rw[hx]at h;cases h
  | some l=>
   rw[hx]at h;cases h;obtain⟨u1,_,rfl,g1,hl⟩:=hl.C1;obtain⟨u2,_,rfl,g2,hl⟩:=hl.C1;obtain⟨u3,_,rfl,g3,hl⟩:=hl.C1;obtain⟨u4,_,rfl,g4,hl⟩:=hl.C1;obtain⟨u5,_,rfl,g5,hl⟩:=hl.C1;exact .cons g1<|.cons g2<|.cons g3<|.cons g4<|.cons (sl _ _ _ _ hx g5) hl
def aAB{k:K}:∀ {vs:List AV} {us:List Value} {xs:List (Tof k)},Ms k vs=I xs->(us.length=vs.length/\ ∀(j:Nat) (c:AV) (u:Value),vs[j]? =I c->us[j]? =I u->RX w β tm c u)->
  xs.length=vs.length/\(∀u∈us,u.cells.size=ks k)/\RL (RC w β) (xs.flatMap<|enc k) (us.flatMap λu=>u.cells.toList)
 | [],us,xs,h,hl=>by
  simp only[Ms,Bp]at h;subst h;obtain rfl:us=[]:=E6 (by simpa using hl.1);exact⟨rfl,by simp,RL.nil⟩
 | v::vs,us,xs,h,hl=>by
  cases us with
  | nil=>exact absurd hl.1<|by simp
  | cons u us=>
   simp only[Ms]at h;cases hc:GO v with
   | none=>rw[hc]at h;cases h
   | some cs=>
    rw[hc]at h;simp only[A9]at h;cases hd:dec (λ_=>U) k cs with
    | none=>rw[hd]at h;cases h
    | some x=>
     rw[hd]at h;simp only[A9]at h;cases hr:Ms k vs with
     | none=>rw[hr]at h;cases h
     | some ys=>
      rw[hr]at h;cases h;have h1:=awN hd<|SD hc<|hl.2 0 v u rfl rfl;obtain⟨i1,i2,i3⟩:=aAB hr ⟨by have:=hl.1;simpa using this,λj c u' a1 a2=>hl.2 (j+1) c u' (by simpa using a1)<|by simpa using a2⟩;refine⟨by simp[i1],λu' hu'=> ?_, ?_⟩
      .rcases Bj.1 hu' with e|e
       .subst e;have:=h1.1;rw[EE]at this;simpa using this
       .exact i2 u' e
      .rw[P3,P3];exact h1.append i3
def iv:∀ {n:Nat} {ps:List (Nat×Operand)} {vs:List AV},Hw ρ n ps=I vs->ps=((ps.map (·.2)).zipIdx n).map (λx=>(x.2,x.1))/\vs=ps.map (λp=>ρ p.2)
 | n,[],vs,h=>by simp only[Hw,Bp]at h;subst h;exact⟨rfl,rfl⟩
 | n,(i,x)::ps,vs,h=>by
  simp only[Hw]at h;split at h
  .rename_i hi;obtain rfl:=Bk hi;cases hr:Hw ρ (i+1) ps with
   | none=>rw[hr]at h;cases h
   | some ws=>
    rw[hr]at h;cases h;obtain⟨h1,h2⟩:=iv hr;refine⟨?_,by simp[h2]⟩;rw[DP,lD,DP];exact congrArg _ h1
  .cases h
def aDK(sz:Nat):∀(us:List Value) (n:Nat) (cells:Array Value),(∀u∈us,u.cells.size=sz)->(n+us.length) * sz<=cells.size->
  NG (λi=>I (i * sz,sz)) cells ((us.zipIdx n).map λx=>(x.2,x.1))=I (cells.toList.take (n * sz)++(us.flatMap λu=>u.cells.toList)++cells.toList.drop ((n+us.length) * sz)).toArray
 | [],n,cells,_,_=>by simp[NG]
 | u::us,n,cells,h,hl=>by
  have hu:=h u (by simp);simp only[Bt]at hl;have e1:(n+(us.length+1)) * sz=n * sz+(us.length * sz+sz):=by rw[E8,E8,Oy]
  have e2:(n+1+us.length) * sz=n * sz+(us.length * sz+sz):=by rw[← e1];congr 1;omega
  have e3:(n+1) * sz=n * sz+sz:=by rw[E8,Oy]
  rw[lD,DP,aCP _ _ n (n * sz) u _ (by simp[hu]) J,aDK sz us (n+1) _ (λv hv=>h v<|by simp[hv]) ?_]
  .congr 2;simp only[aBf,P3,hu];have hcl:cells.toList.length=cells.size:=Ep;have ht:(cells.toList.take (n * sz)++u.cells.toList).length=(n+1) * sz:=by
    simp only[Ar,Cw,Ep,hu];omega
   have h4:(cells.toList.take (n * sz)++u.cells.toList++cells.toList.drop (n * sz+sz)).take ((n+1) * sz)=cells.toList.take (n * sz)++u.cells.toList:=by
    rw[← ht,P1];rfl
   have h5:(cells.toList.take (n * sz)++u.cells.toList++cells.toList.drop (n * sz+sz)).drop ((n+1+us.length) * sz)=cells.toList.drop ((n+(us.length+1)) * sz):=by
    rw[List.drop_append,ht,Ly (by rw[ht,e2,e3];omega),EM,Jx];congr 1;rw[e1,e2,e3];omega
   rw[h4,h5];simp[Bw,NA,Nat.add_left_comm,D3]
  .simp only[Kn,Ar,Cw,Ep,E4,hu];omega
def alH(hη:∀x,RX w β tm (ρ x)<|η x)(hH:Hs B β H w)(hb:H b=U){t e:TypeId}{len:Nat}{ps:Array (Nat×Operand)}{k:K}{vs:List AV}{xs:List (Tof k)}(he:IP P t=I e)(hp:Hw ρ 0 ps.toList=I vs)(hd:Ms k vs=I xs)
  (hl:vs.length=len)(hc:P.cellsOf e=ks k)(hsm:len<=65536)(hz:zok P e k=A0){o:Oper}(ho:o.op= .buildSlice t len ps):Good B β H w b (.own b) [.row e A3 k xs] ((execOp η o).run P w):=by
 obtain⟨i,z,hi,hz',hs,_⟩:=Xw hz;have hu:=dp he;by_cases ayX:len=0
 .subst ayX;obtain rfl:vs=[]:=E6 hl;simp only[Ms,Bp]at hd;subst hd;have hps:ps= #[]:=by
   have:=(iv hp).2;have h2:ps.toList=[]:=by
    have:=congrArg JL this;exact E6<|by simpa using this.symm
   exact Array.toList_inj.1<|by simpa using h2
  subst hps;refine YK (w':=w.alloc<|.cells #[] e) (cap:=0) (us:= #[]) hH hb rfl rfl rfl (λj hj=>heap_alloc_old w _ hj) (heap_alloc_new w _) (by simp) (by simp) (by simp) (λi x j c u a1=>by simp at a1) ?_;unfold execOp;rw[ho];simp[Instr.buildSlice,run_underlying hu,sizeOf,typeInfo,hi,NG,newRow,show TY 0= #[] from by simp[TY]]
 have h0:1<=len:=J
 rw[WH hi]at hc;obtain⟨h1,rfl⟩:=iv hp;have hkp:=Ht k;have ayf:ks k<=16:=by cases k<;>decide
 have hu':((ps.toList.map λp=>η p.2).length=(ps.toList.map λp=>ρ p.2).length):=by simp
 obtain⟨d1,d2,d3⟩:=aAB (w:=w) (β:=β) (tm:=tm) (us:=ps.toList.map λp=>η p.2) hd ⟨by simp,λj c u a1 a2=>by
  simp only[D2,D4]at a1 a2;obtain⟨p,hp1,rfl⟩:=a1;obtain⟨p',hp2,rfl⟩:=a2;rw[hp1]at hp2;cases hp2;exact hη _⟩
 have ayD:(ps.map fun(i,x)=>(i,η x)).toList=((ps.toList.map λp=>η p.2).zipIdx 0).map λx=>(x.2,x.1):=by
  rw[Array.toList_map]
  conv=>lhs;rw[h1]
  rw[I7,List.zipIdx_map,List.zipIdx_map,I7,I7];rfl
 have hlen:(ps.toList.map λp=>η p.2).length=len:=by simpa using hl
 have abj:=aDK (ks k) (ps.toList.map λp=>η p.2) 0 ((TY<|len * ks k).map (z.cells[· % z.cells.size]!)) d2 (by simp[hlen]);have axs:¬len * i.size > 2 ^ 24:=by
  rw[hc];have:len * ks k<=65536 * 16:=lP hsm ayf;omega
 have oE:¬len * i.size=0:=by
  rw[hc];have:1 * 1<=len * ks k:=lP h0 hkp;omega
 have ns:(((TY<|len * ks k).map (z.cells[· % z.cells.size]!)).toList.take (0 * ks k)++((ps.toList.map λp=>η p.2).flatMap λu=>u.cells.toList)++((TY<|len * ks k).map (z.cells[· % z.cells.size]!)).toList.drop ((0+(ps.toList.map λp=>η p.2).length) * ks k)).toArray
   =((ps.toList.map λp=>η p.2).flatMap λu=>u.cells.toList).toArray:=by
  rw[hlen,Ly<|by simp];simp
 rw[ns]at abj;have CW:=run_buildSlice w t e len (ps.map fun(i,x)=>(i,η x)) _ i z hu hi hz' axs oE (by rw[ayD,hc];exact abj);have hxl:xs.length=len:=by rw[d1];exact hl
 refine YK (w':=w.alloc<|.cells ((ps.toList.map λp=>η p.2).flatMap λu=>u.cells.toList).toArray e) (cap:=len) hH hb rfl rfl rfl (λj hj=>heap_alloc_old w _ hj) (heap_alloc_new w _) J (Ca hsm<|by decide) ?_ ?_ ?_
 .have:=d3.1;rw[KO]at this;simp only[Kn];rw[this,hxl];exact As _
 .intro i x j c u a1 a2 a3;exact QB d3 i x j c u a1 a2 (by simpa using a3)
 .unfold execOp;rw[ho];simp only[Ea,CW,Eo,hxl];rfl
def Wa{lo hi:Option Operand}{n:Nat}{l h:Int}(hη:∀x,RX w β tm (ρ x)<|η x)(hc:JF (lo.map ρ) (hi.map ρ) n=I (A0,l,h))(isS:Bool){cap:Nat}(Hh:n<=cap):
  (QV isS n cap (lo.map η) (hi.map η) U).run P w= .ok (l.toNat,h.toNat,cap) w/\0<=l/\l<=h/\h<=(n:Int):=by
 have hB:∀(k:IntKind) (i:Int) (y:Nat) (code:BoundsCode),0<=i->i<=(y:Int)->(Instr.sliceBound (.int k i) y code).run P w= .ok i.toNat w:=by
  intro k i y code h1 h2;simp[Instr.sliceBound,asIntOf,h1,h2]
 unfold JF at hc;split at hc
 .rename_i h1 h2;cases lo with
  | some x=>cases h1
  | none=>
  cases hi with
  | some x=>cases h2
  | none=>
   simp only[Bp,CG]at hc;obtain⟨_,rfl,rfl⟩:=hc;exact⟨by simp[QV],J,J,J⟩
 .rename_i k l' h1 h2;cases hi with
  | some x=>cases h2
  | none=>
  cases lo with
  | none=>cases h1
  | some x=>
   simp only[QT,Bp]at h1;have hx:=hη x;rw[h1]at hx;simp only[Bp,CG,AE,decide_eq_true_eq]at hc;obtain⟨⟨g1,g2⟩,rfl,rfl⟩:=hc;refine⟨?_,g1,g2,J⟩;simp[QV,hx.lit,hB _ _ _ _ g1 g2]
 .rename_i k l' h1 h2;cases lo with
  | some x=>cases h1
  | none=>
  cases hi with
  | none=>cases h2
  | some x=>
   simp only[QT,Bp]at h2;have hx:=hη x;rw[h2]at hx;simp only[Bp,CG,AE,decide_eq_true_eq]at hc;obtain⟨⟨g1,g2⟩,rfl,rfl⟩:=hc;refine⟨?_,J,g1,g2⟩;cases isS<;>simp[QV,hx.lit,hB _ _ _ _ g1<|show l'<=(cap:Int) by omega]
 .rename_i k1 l' k2 h' h1 h2;cases lo with
  | none=>cases h1
  | some y=>
  cases hi with
  | none=>cases h2
  | some x=>
   simp only[QT,Bp]at h1 h2;have hy:=hη y;rw[h1]at hy;have hx:=hη x;rw[h2]at hx;simp only[Bp,CG,AE,decide_eq_true_eq]at hc;obtain⟨⟨⟨g1,g2⟩,g3,g4⟩,rfl,rfl⟩:=hc;refine⟨?_,g3,g4,g2⟩;have e1:=hB k2 h' cap;have e2:=hB k1 l' h'.toNat .sliceB g3 J;cases isS<;>simp[QV,hx.lit,hy.lit,e1 _ g1<|show h'<=(cap:Int) by omega,e2]
 .cases hc
def mN{α:Type}{lo hi:Option AV}{l h:Int}{xs:List α}(hc:JF lo hi xs.length=I (A0,l,h)):Ia lo hi l h xs=(xs.take h.toNat).drop l.toNat:=by
 unfold JF at hc;split at hc
 .simp only[Bp,CG]at hc;obtain⟨_,rfl,rfl⟩:=hc;simp[Ia]
 .simp only[Bp,CG]at hc;obtain⟨_,rfl,rfl⟩:=hc;simp[Ia]
 .simp only[Bp,CG]at hc;obtain⟨_,rfl,rfl⟩:=hc;simp[Ia]
 .simp only[Bp,CG]at hc;obtain⟨_,rfl,rfl⟩:=hc;simp[Ia]
 .cases hc
def RC.cut{k:K}{xs:List (Tof k)}{bb f cap l h:Nat}{ys:List (Tof k)}(hy:ys=(xs.take h).drop l)(hlh:l<=h)(hh:h<=xs.length)(hx:RC w β (.sl k xs) (.slice (I ⟨bb,f,U⟩) xs.length cap))(Hh:xs.length<=cap):
  RC w β (.sl k ys) (.slice (if cap=l then I ⟨bb,f,U⟩ else I ⟨bb,f+l * ks k,U⟩) (h - l)<|cap - l):=by
 by_cases he:h=l
 .obtain rfl:ys=[]:=by subst hy;subst he;rw[Ly];simp;omega
  rw[show h - l=0 by omega];exact .nil
 .have hne:xs≠[]:=λe=>by subst e;simp at hh;omega
  rw[AD J];cases hx with
  | nil=>exact absurd rfl hne
  | sl u hn hm hu hr=>
   have hyl:ys.length=h - l:=by subst hy;simp;omega
   refine .sl (λi j=>u (l+i) j) ⟨hyl.symm,J⟩ hm (λi j hi hj=> ?_) (λi x j c h1 h2=>hr (l+i) x j c ?_ h2)
   .have:=hu (l+i) j J hj;rw[E8]at this;rw[← this];congr 2;omega
   .subst hy;rw[Ha,GZ]at h1;split at h1
    .exact h1
    .cases h1
def iu{t e:TypeId}(hu:P.underlying t=I (.slice e))(h1:1<=P.cellsOf e){a:Option Addr}{n cap l h m:Nat}{lo hi:Option Value}(hb:(QV A0 n cap lo hi U).run P w= .ok (l,h,m) w):
  (QR t (.slice a n cap) lo hi U).run P w= .ok (.slice (if m=l then a else a.map (·.add (l * P.cellsOf e))) (h - l)<|m - l) w:=by
 simp[QR,Instr.slice,run_underlying hu,hb,KU h1]
def aq6(hη:∀x,RX w β tm (ρ x)<|η x)(hH:Hs B β H w){t:TypeId}{x:Operand}{lo hi:Option Operand}(hf:Iv P H t (ρ x)=A0){q:Bool}{v:AV}{os:List Ob}(h:QL (lo.map ρ) (hi.map ρ) (ρ x)=I (q,v,os))(hq:q=A0):
  Good B β H w b v os (((QR t (η x) (lo.map η) (hi.map η) U).run P w).andThen λu w=> .ok (.value u) w):=by
 subst hq;have hx:=hη x;generalize ρ x=c at h hx hf;unfold QL at h;split at h
 .rename_i s;cases hc:JF (lo.map ρ) (hi.map ρ) s.size with
  | none=>rw[hc]at h;cases h
  | some r=>
   obtain⟨q',l,h'⟩:=r;rw[hc]at h;simp only[A9,Bp,CG]at h;obtain⟨rfl,rfl,rfl⟩:=h;obtain⟨hb,g1,g2,g3⟩:=Wa (P:=P) (w:=w) (β:=β) (tm:=tm) hη hc A3<|As _;rw[hx.lit];have hu:P.underlying t=I .string:=by
    unfold Iv at hf;split at hf<;>simp_all
   refine Good.same hH (u:= .string<|s.extract l.toNat h'.toNat) ?_ rfl;simp[QR,Instr.slice,run_underlying hu,hb]
 .rename_i k xs;cases hc:JF (lo.map ρ) (hi.map ρ) xs.length with
  | none=>rw[hc]at h;cases h
  | some r=>
   obtain⟨q',l,h'⟩:=r;rw[hc]at h;simp only[A9,Bp,CG]at h;obtain⟨rfl,rfl,rfl⟩:=h;obtain⟨e,hu,hk⟩:∃e,P.underlying t=I (.slice e)/\P.cellsOf e=ks k:=by
    unfold Iv at hf;split at hf<;>simp_all
   have h1:=Ht k;have hx':RC w β (.sl k xs) (η x):=hx;obtain⟨a,cap,hv,Hh⟩:=hx'.oB.len;obtain⟨hb,g1,g2,g3⟩:=Wa (P:=P) (w:=w) (β:=β) (tm:=tm) hη hc A0 Hh;rw[hv]at hx' ⊢;rw[iu hu J hb,hk];refine Good.same hH rfl ?_;by_cases hxs:xs=[]
   .subst hxs;have e1:h'.toNat - l.toNat=0:=by simp at g3;omega
    have e2:Ia (lo.map ρ) (hi.map ρ) l h' ([]:List (Tof k))=[]:=by rw[mN hc];simp
    rw[e1,e2];exact RC.nil
   .have ha:∃bb f,a=I ⟨bb,f,U⟩:=by
     cases hx' with
     | nil=>exact absurd rfl hxs
     | sl=>exact⟨_,_,rfl⟩
    obtain⟨bb,f,rfl⟩:=ha;have:=RC.cut (l:=l.toNat) (h:=h'.toNat) (mN hc) J J hx' Hh;simpa[R2,R1,GX,apply_ite] using this
 .cases hc:JF (lo.map ρ) (hi.map ρ) 0 with
  | none=>rw[hc]at h;cases h
  | some r=>
   obtain⟨q',l,h'⟩:=r;rw[hc]at h;simp only[A9,Bp,CG]at h;obtain⟨rfl,rfl,rfl⟩:=h;obtain⟨e,hu,hk⟩:∃e,P.underlying t=I (.slice e)/\1<=P.cellsOf e:=by
    unfold Iv at hf;split at hf<;>simp_all
   obtain⟨hb,g1,g2,g3⟩:=Wa (P:=P) (w:=w) (β:=β) (tm:=tm) hη hc A0<|As _;rw[hx.lit,iu hu hk hb];have e1:h'.toNat=0:=J
   have e2:l.toNat=0:=J
   refine Good.same hH (u:= .slice U 0 0) ?_ rfl;rw[e1,e2];rfl
 .cases h
end
end Go.VS
namespace Go.VS
open Go
section
variable {P:Program} {B:Ba} {β:Beta} {H:Hp} {w w':World} {b:Nat} {tm:Nat->Value} {ρ:Operand->AV} {η:Operand->Value} {kd:TypeId->Option K}
def arh(hP:P=B.P)(hη:∀x,RX w β tm (ρ x)<|η x)(htm:∀g,η (.tmp g)=tm g)(hcv:∀v,η (.const v)=v)(hH:Hs B β H w)(hb:H b=U){o:Oper}{q:Bool}{v:AV}{os:List Ob}
  (h:C5 P kd ρ H b o.op=I (q,v,os))(hq:q=A0):Good B β H w b v os ((execOp η o).run P w):=by
 generalize ho:o.op=op at h;have PT:∀ {s:Sem Value},(execOp η o=(do pure (.value<|← s):Sem Next))->(execOp η o).run P w=(s.run P w).andThen λu w=> .ok (.value u) w:=by
  intro s e;rw[e];simp only[Ea];rfl
 cases op<;>try (simp[C5]at h;done)
 case move x=>
  obtain⟨rfl,_,rfl,hg⟩:=OQ h;refine Good.same hH (u:=η x) ?_<|(hη x).of hg;unfold execOp;rw[ho];rfl
 case assign x=>
  obtain⟨rfl,_,rfl,hg⟩:=OQ h;refine Good.same hH (u:=η x) ?_<|(hη x).of hg;unfold execOp;rw[ho];rfl
 case pick c x y=>exact ari hη htm hcv hH h hq ho
 case alloc t=>
  simp only[C5]at h;split at h
  .rename_i n e hu;cases hk:kd e with
   | none=>rw[hk]at h;cases h
   | some k=>
    cases hz:I0 P t with
    | none=>rw[hk,hz]at h;cases h
    | some zs=>
     rw[hk,hz]at h;simp only[A9]at h;split at h
     .rename_i hc;simp only[AE]at hc;cases h;exact aoh hP hH hb hz hc.1.1 (Bk hc.1.2) (DX hc.2) ho
     .cases h
  .cases hz:I0 P t with
   | none=>rw[hz]at h;cases h
   | some zs=>
    rw[hz]at h;cases h;exact aqd hH hb hz ho
 case box t x=>
  simp only[C5]at h;cases hc:GO (ρ x) with
  | none=>rw[hc]at h;cases h
  | some cs=>
   rw[hc]at h;cases h;exact auh hη hH hb hc ho
 case build t ps=>
  simp only[C5]at h;cases hz:I0 P t with
  | none=>rw[hz]at h;cases h
  | some zs=>
   rw[hz]at h;simp only[A9]at h;split at h
   .rename_i fs hu;split at h
    .rename_i ha;cases hc:Hz P ρ t ps.toList zs with
     | none=>rw[hc]at h;cases h
     | some cs=>
      rw[hc]at h;obtain⟨rfl,_,rfl⟩:=DI h;exact aqa hη hH hz hu ha hc ho
    .cases h
   .cases h
 case buildSlice t len ps=>
  simp only[C5]at h;cases he:IP P t with
  | none=>rw[he]at h;cases h
  | some e=>
   rw[he]at h;simp only[A9]at h;cases hk:kd e with
   | none=>rw[hk]at h;cases h
   | some k=>
    rw[hk]at h;simp only[A9]at h;cases hp:Hw ρ 0 ps.toList with
    | none=>rw[hp]at h;cases h
    | some vs=>
     rw[hp]at h;simp only[A9]at h;cases hd:Ms k vs with
     | none=>rw[hd]at h;cases h
     | some xs=>
      rw[hd]at h;simp only[A9]at h;split at h
      .rename_i hc;simp only[AE]at hc;cases h;exact alH hη hH hb he hp hd (Bk hc.1.1.1) (Bk hc.1.1.2) (DX hc.1.2) hc.2 ho
      .cases h
 case load t p=>
  simp only[C5]at h;cases hl:Jp P H t (ρ p) with
  | none=>rw[hl]at h;cases h
  | some v'=>
   rw[hl]at h;obtain⟨rfl,_,rfl⟩:=DI h;exact avQ hP hη hH hl ho
 case nilCheck p=>
  simp only[C5]at h;split at h
  .rename_i hp;obtain⟨rfl,_,rfl⟩:=DI h;exact yt hη hH (.inl ⟨_,_,_,_,rfl⟩) hp ho
  .rename_i hp;obtain⟨rfl,_,rfl⟩:=DI h;exact yt hη hH (.inr ⟨_,_,_,rfl⟩) hp ho
  .cases h
 case binOp op t x y z=>
  refine aqb (t:=t) (x:=x) (y:=y) hη hH h hq<|PT ?_;unfold execOp;rw[ho]
 case unOp op t x=>
  rw[PT (by unfold execOp;rw[ho])];exact aro hη hH h
 case convert src dst x=>
  rw[PT (by unfold execOp;rw[ho])];have hx:=hη x;have conv:(IX P src dst (ρ x)=I (q,v,os)/\ ∀i,v≠ .own i)\/(∃c i os',IX P src dst (ρ x)=I (c,.own i,os')/\(c,AV.own b,os')=(q,v,os))\/ ∃e xs,P.underlying src=I (.slice e)/\P.underlying dst=I .string/\P.underlying e=I (.int .u8)/\C7 H .u8 (ρ x)=I xs/\v= .s (BF xs)/\os=[]:=by
   simp only[C5]at h;split at h
   .rename_i e hs hd;split at h
    .rename_i he;cases hx:C7 H .u8 (ρ x) with
     | none=>rw[hx]at h;cases h
     | some xs=>
      rw[hx]at h;obtain⟨rfl,_,rfl⟩:=DI h;exact .inr (.inr ⟨e,xs,hs,hd,he,rfl,rfl,rfl⟩)
    .cases h
   .split at h
    .rename_i c i os' hc;exact .inr (.inl ⟨c,i,os',hc,C8 h⟩)
    .rename_i hno;exact .inl ⟨h,λi e=>hno q i os<|by rw[h,e]⟩
  have ayt:∀e xs,C7 H .u8 (ρ x)=I xs->P.underlying src=I (.slice e)->∀g w y,ρ x≠ .gd g w y:=by
   intro e xs h1 h2 g w y h3;rw[h3]at h1;simp[C7]at h1
  have cA:∀q v os,IX P src dst (ρ x)=I (q,v,os)->q=A0->(∀i,v≠ .own i)->Good B β H w b v os (((convert src dst<|η x).run P w).andThen λu w=> .ok (.value u) w):=by
   intro q v os h hq hn;generalize ρ x=c at h hx;unfold IX at h;split at h
   .rename_i d k k' n K7 hd;obtain⟨rfl,_,rfl⟩:=DI h;rw[hx.lit];refine Good.same hH (u:= .int k<|k.wrap n) ?_ rfl;cases d<;>simp[convert,run_underlying K7,run_underlying hd,Conv.intToInt]
   .rename_i hs hd;obtain⟨rfl,_,rfl⟩:=DI h;rw[hx.lit];refine Good.same hH (u:= .string _) ?_ rfl;simp[convert,run_underlying hs,run_underlying hd]
   .split at h
    .simp only[Bp,CG]at h;exact absurd h.2.1.symm (hn 0)
    .cases h
   .cases h
  obtain⟨h1,hno⟩|⟨c,i,os',h1,h2⟩|⟨e,xs,hs,hd,he,h1,rfl,rfl⟩:=conv
  .exact cA q v os h1 hq hno
  .cases h2;subst hq;generalize ρ x=c at h1 hx;unfold IX at h1;split at h1
   .cases h1
   .cases h1
   .rename_i e s hs hd;split at h1
    .rename_i he;simp only[Bp,CG]at h1;obtain⟨hr,_,rfl⟩:=h1;rw[hx.lit];exact aqZ hH hb hs hd he hr
    .cases h1
   .cases h1
  .have hx2:R2 w β (ρ x) (η x):=hx.of<|ayt e xs h1 hs;refine Good.same hH (u:= .string<|BF xs) ?_ rfl;rw[ara hs he hd<|aEh hH h1 hx2];rfl
 case makeSlice t l c=>
  rw[PT (by unfold execOp;rw[ho])];have mk:∀n,η l= .int .i64 n->η c= .int .i64 n->((IP P t).bind λe=>(kd e).bind λk=>
   match zok P e k&&Ag (P.cellsOf e) (ks k)&&Dp (P.bytesOf e) 256 with
   | true=>I (A1 (0<=n)&&A1 (n<=4294967296),AV.own b,[Ob.row e A3 k (BT n.toNat<|dfl k)])
   | false=>U)=I (q,v,os)->Good B β H w b v os (((Instr.makeSlice t (η l)<|η c).run P w).andThen λu w=> .ok (.value u) w):=by
   intro n h1 h2 h;cases he:IP P t with
   | none=>rw[he]at h;cases h
   | some e=>
    rw[he]at h;simp only[A9]at h;cases hk:kd e with
    | none=>rw[hk]at h;cases h
    | some k=>
     rw[hk]at h;simp only[A9]at h;split at h
     .rename_i hc;simp only[AE]at hc;simp only[Bp,CG]at h;obtain⟨hr,rfl,rfl⟩:=h;rw[hq]at hr;simp only[AE,decide_eq_true_eq]at hr;rw[h1,h2];exact asi hH hb he hc.1.1 (Bk hc.1.2) (DX hc.2) hr.1 hr.2
     .cases h
  have hl:=hη l;have hc:=hη c;simp only[C5]at h;split at h
  .rename_i n hl' Gf;rw[hl']at hl;split at Gf
   .obtain rfl:=Bk Gf;exact mk n hl.lit hl.lit h
   .cases Gf
  .rename_i n m hl' hc' Gf;rw[hl']at hl;rw[hc']at hc;split at h
   .rename_i hnm;obtain rfl:n=m:=by simpa using hnm
    exact mk n hl.lit hc.lit h
   .cases h
  .cases h
 case slice t x lo hi mx=>
  cases mx with
  | some m=>simp[C5]at h
  | none=>
   rw[PT (by unfold execOp;rw[ho])];simp only[C5]at h;split at h
   .rename_i hf;exact aq6 hη hH hf h hq
   .cases h
 case fieldAddr t x f=>
  simp only[C5]at h;cases hf:LY P t f with
  | none=>rw[hf]at h;cases h
  | some fd=>
   rw[hf]at h;simp only[A9]at h;split at h
   .rename_i h1;split at h
    .rename_i hp;obtain⟨rfl,_,rfl⟩:=DI h;exact yL hη hH hf (DX h1) (.inl ⟨_,_,_,_,hp,rfl⟩) ho
    .rename_i hp;obtain⟨rfl,_,rfl⟩:=DI h;exact yL hη hH hf (DX h1) (.inr ⟨_,_,_,hp,rfl⟩) ho
    .cases h
   .cases h
 case field t x f=>
  simp only[C5]at h;cases hf:LY P t f with
  | none=>rw[hf]at h;cases h
  | some fd=>
   rw[hf]at h;simp only[A9]at h;split at h
   .rename_i cs hx;cases hl:HF P fd.type cs fd.offset with
    | none=>rw[hl]at h;cases h
    | some v'=>
     rw[hl]at h;obtain⟨rfl,_,rfl⟩:=DI h;exact aqg hη hH hf hx hl ho
   .cases h
 case indexAddr t x ix=>
  rw[PT (by unfold execOp;rw[ho])];simp only[C5]at h;split at h
  .rename_i hi;exact amb hP hη hH hi h hq
  .cases h
 case index t x ix=>
  rw[PT (by unfold execOp;rw[ho])];simp only[C5]at h;split at h
  .rename_i hi;exact ar7 hη hH hi h hq
  .cases h
 case extract x i=>
  simp only[C5]at h;split at h
  .rename_i vs hx;cases hv:vs[i]? with
   | none=>rw[hv]at h;cases h
   | some v'=>
    rw[hv]at h;obtain⟨rfl,_,rfl⟩:=DI h;exact apY hη hH hx hv ho
  .cases h
 case call c=>
  have RB:∀ {x:Operand} {v:Value},ρ x= .lit v->η x=v:=fun {x v} e=>by have:=hη x;rw[e]at this;exact this.lit
  obtain⟨cal,⟨args⟩,⟨tys⟩⟩:=c;simp only[C5,J7]at h;split at h
  .rename_i x t;have run:∀n:Nat,(Qi #[t] o.type #[η x]).run P w= .ok (.int .i64 n) w->Good B β H w b (.i n) [] ((execOp η o).run P w):=by
    intro n hn;refine Good.same hH (u:= .int .i64 n) ?_ rfl;unfold execOp;rw[ho];simp[resolve,invoke,builtin,hn]
   split at h
   .rename_i s hu hx;obtain⟨rfl,_,rfl⟩:=DI h;refine run _ ?_;rw[RB hx];simp[Qi,run_underlying hu,goInt]
   .rename_i e k xs hu hx;obtain⟨rfl,_,rfl⟩:=DI h;have h1:=hη x;rw[hx]at h1;have h2:RC w β (.sl k xs) (η x):=h1;obtain⟨a,cap,hv,_⟩:=h2.oB.len;refine run _ ?_;rw[hv,jb hu]
   .rename_i e hu hx;obtain⟨rfl,_,rfl⟩:=DI h;refine run 0 ?_;rw[RB hx,jb hu]
   .rename_i e id hu hx;split at h
    .rename_i e' fz k xs hid;obtain⟨rfl,_,rfl⟩:=DI h;have h1:=hη x;rw[hx]at h1;have h2:RC w β (.own id) (η x):=h1;obtain⟨hd,h3,h4⟩:=hH.EA id _ hid;generalize hg:η x=g at h2 run;cases h2 with
     | own h5 h6=>
      rw[h3]at h5;cases h5;obtain⟨a,cap,hv,_⟩:=h4.cells.len;refine run _ ?_;rw[hv,jb hu]
    .cases h
   .rename_i n e v hu;obtain⟨rfl,_,rfl⟩:=DI h;refine run _ ?_;simp[Qi,run_underlying hu,goInt]
   .cases h
  .rename_i x y;split at h
   .rename_i k a k' c hx hy;split at h
    .rename_i hk;obtain rfl:k=k':=by simpa using hk
     obtain⟨rfl,_,rfl⟩:=DI h;refine Good.same hH (u:= .int k<|if c<a then c else a) ?_ rfl;unfold execOp;rw[ho];simp[resolve,invoke,builtin,Builtin.min_,Builtin.min2,RB hx,RB hy]
    .cases h
   .cases h
  .rename_i x y;split at h
   .rename_i k a k' c hx hy;split at h
    .rename_i hk;obtain rfl:k=k':=by simpa using hk
     obtain⟨rfl,_,rfl⟩:=DI h;refine Good.same hH (u:= .int k<|if a<c then c else a) ?_ rfl;unfold execOp;rw[ho];simp[resolve,invoke,builtin,Builtin.max_,Builtin.max2,RB hx,RB hy]
    .cases h
   .cases h
  .cases h
end
end Go.VS
namespace Go.VS
open Go
section
variable {B:Ba} {β β':Beta} {stk:List (Array Value)} {s:S} {a:Act} {w w':World}
def au9{cs:List Value}(h:cs.all ZX=A0):∀v∈cs,v.oneCell'=A0:=λv hv=>by
 rw[← aaO];exact C0.1 h v hv
def auA(v:Value):R2 w β (ofV v) v:=by
 unfold ofV;split
 .rename_i cs;split
  .rename_i h;exact⟨cs.toList,by simp,RL.lits _<|au9 h⟩
  .trivial
 .rfl
def St.eval(h:St B β stk s a w)(x:Operand):RX w β (BY a) (s.ev x) (a.eval x):=by
 cases x with
 | tmp t=>exact(h.T t).aF
 | const v=>
  have:=auA (w:=w) (β:=β) v;show RX w β (BY a) (ofV v) v;exact RT.aF<|RT.H6 this
 | _=>trivial
def aEi{l:List Nat}{t:Nat}(h:(l.any λp=>Ag p t)=A3):t ∉ l:=by
 intro hm;have:(l.any λp=>Ag p t)=A0:=Gz.2 ⟨t,hm,by simp⟩;rw[h]at this;cases this
def St.put(h:St B β stk s a w){d:Option Nat}(hd:s.has d=A0){v:AV}{u:Value}(hv:RT w β (BY a) v u)(hg:∀g want x,v= .gd g want x->s.gs g=A0):St B β stk (s.put d v) (a.put d u) w:=by
 cases d with
 | none=>exact h
 | some d=>
  simp only[S.has,AE,CL]at hd;obtain⟨⟨h1,h2⟩,h3⟩:=hd;have hlt:d<a.tmps.size:=by rw[h.n];exact Ga (P0 d)<|DX h1
  have hp:=aEi h2;have hgs:s.gs d≠A0:=by rw[h3];simp
  have ayB:BY (a.put (I d) u) d=u:=by simp[BY,Act.put,hlt]
  have tne:∀t,t≠d->BY (a.put (I d) u) t=BY a t:=λt ht=>by
   simp only[BY,Act.put,TU];rw[aBW λe=>ht e.symm]
  have rt:∀x y,RT w β (BY a) x y->(∀g want z,x= .gd g want z->s.gs g=A0)->RT w β (BY<|a.put (I d) u) x y:=by
   intro x y hx hx';cases x with
   | gd g want z=>
    have hne:g≠d:=λe=>hgs<|e▸hx' g want z rfl;refine⟨λe=>hx.1<|by rwa[tne g hne]at e,λe=>hx.2<|by rwa[tne g hne]at e⟩
   | _=>exact hx
  refine⟨λt=> ?_,h.stack, ?_,h.defers,λt ht=> ?_,λt g want x hx=> ?_,h.hs⟩
  .show RT w β _ (upd s.T d v t) _;by_cases e:t=d
   .subst e;rw[Bf,ayB];exact rt _ _ hv hg
   .rw[BB _ _ e,tne t e];exact rt _ _ (h.T t) (h.gs t)
  .show(a.put (I d) u).tmps.size=s.n;simpa[Act.put] using h.n
  .have hne:t≠d:=λe=>hp<|e▸ht;rw[tne t hne];exact h.pins t ht
  .have hx:upd s.T d v t= .gd g want x:=hx;by_cases e:t=d
   .subst e;rw[Bf]at hx;exact hg _ _ _ hx
   .rw[BB _ _ e]at hx;exact h.gs _ _ _ _ hx
def St.map{f:AV->AV}(h:St B β stk s a w)(hf:∀c,GH c=A0->f c=c)(hg:∀c g want x,f c= .gd g want x->∃y,c= .gd g want y)(hk:Kf f w β w' β'){H':Hp}(hH:Hs B β' H' w'):St B β' stk { s.map f with H:=H' } a w':=by
 have g1:∀c g want x,Fo f c= .gd g want x->∃y,c= .gd g want y:=by
  intro c g want x e;cases c<;>first|(cases e;done)|exact hg _ _ _ _ e
 have g2:∀c g want x,G5 f c= .gd g want x->∃y,c= .gd g want y:=by
  intro c g want x e;cases c<;>first|(cases e;done)|exact g1 _ _ _ _ e
 have g3:∀c g want x,El f c= .gd g want x->∃y,c= .gd g want y:=by
  intro c g want x e;cases c with
  | gd g' w' y=>cases e;exact⟨_,rfl⟩
  | _=>exact g2 _ _ _ _ e
 refine⟨λt=>RT.map hf hk<|h.T t,⟨by simpa[S.map] using h.stack.1,λi T tm h1 h2 t=> ?_⟩,h.n,h.defers,h.pins,λt g want x hx=> ?_,hH⟩
 .simp only[S.map,D2,D4]at h1;obtain⟨T0,h3,rfl⟩:=h1;exact RT.map hf hk (h.stack.2 i T0 tm h3 h2 t)
 .obtain⟨y,hy⟩:=g3 _ _ _ _ hx;exact h.gs _ _ _ _ hy
def Ok(id:Nat):∀c g want x,kl1 id c= .gd g want x->∃y,c= .gd g want y:=by
 intro c g want x h;unfold kl1 at h;split at h
 .split at h<;>cases h
 .split at h<;>cases h
 .exact⟨_,h⟩
def aam(id:Nat)(k:K)(xs:List (Tof k)):∀c g want x,fz1 id k xs c= .gd g want x->∃y,c= .gd g want y:=by
 intro c g want x h;unfold fz1 at h;split at h
 .split at h<;>cases h
 .split at h<;>cases h
 .exact⟨_,h⟩
def St.keep(h:St B β stk s a w)(hk:Kp w β w' β'){H':Hp}(hH:Hs B β' H' w'):St B β' stk { s with H:=H' } a w':=
 ⟨λt=>RT.mono hk<|h.T t,⟨h.stack.1,λi T tm h1 h2 t=>RT.mono hk<|h.stack.2 i T tm h1 h2 t⟩,h.n,h.defers,h.pins,h.gs,hH⟩
end
end Go.VS
namespace Go.VS
open Go
section
variable {P:Program} {B:Ba} {β β':Beta} {H:Hp} {stk:List (Array Value)} {s:S} {a:Act} {w w':World}
def aDH{o n:Nat}{cs:List AV}(h:mr o n cs=A0):o+n<=cs.length/\(o=0->nop (cs.headD<|.lit<|.bool A3)=A0):=by
 unfold mr at h;simp only[AE,CB]at h;exact⟨DX h.1,λe=>h.2.resolve_left λh1=>by have:=DX h1;omega⟩
def atW{e:TypeId}{k:K}(h:zok P e k=A0):Oq P e=A3:=by
 unfold zok at h;unfold Oq;split at h
 .rename_i zs hz;rw[hz];cases zs with
  | nil=>rfl
  | cons c zs=>
   cases hk:enc k (dfl k) with
   | nil=>rw[hk]at h;cases h
   | cons d ds=>
    rw[hk]at h;simp only[MC,AE]at h;cases c<;>first|rfl|skip
    rename_i v;cases v<;>first|rfl|skip
    rename_i q;cases q<;>first|rfl|skip
    have h1:=h.1;simp[ZS]at h1
 .cases h
def aar{c:AV}{v:Value}(hn:nop c=A0)(h:RC w β c v):∀a,v≠ .pointer (I a):=by
 rintro a rfl;cases h with
 | un=>cases hn
 | lit=>cases hn
 | own _ hs=>cases hs
 | ptr=>cases hn
 | ipt=>cases hn
def avE:∀(k:K) (x:Tof k),(enc k x).all nop=A0:=by
 intro k x;cases k<;>rfl
def Pk.setRow{g:Nat}{us cs:Array Value}{e:TypeId}{fr:Nat×Nat}(hg:w.heap[g]? =I (.cells us e fr))(h:Oq P e=A0->∀a,us[0]? =I (.pointer<|I a)->cs[0]? =I (.pointer<|I a)):Pk P w (w.setRow g cs):=by
 intro b us' e' fr' a h1 h2 h3;by_cases hb:b=g
 .subst hb;rw[hg]at h1;cases h1;exact⟨cs,_,setRow_heap w b us cs e _ hg,h h3 a h2⟩
 .exact⟨us',fr',by rw[setRow_other w g b cs hb];exact h1,h2⟩
def XZ{l ys:List Value}{p:Nat}(h:p+ys.length<=l.length){v:Value}(hv:l[0]? =I v)(h0:p=0->ys≠[]->False):((l.take p++ys++l.drop (p+ys.length)).toArray)[0]? =I v:=by
 rw[TS];by_cases hy:ys=[]
 .subst hy;simpa using hv
 .have hp:0<p:=Nat.pos_of_ne_zero λe=>h0 e hy;rw[Bw,I9 (by
   have:=(BL.1 hv).1;simp;omega),GZ,A8 hp]
  exact hv
def kU{k:K}{us:Array Value}{f:Nat}{xs:List (Tof k)}(hr:∀i x j c u,xs[i]? =I x->(enc k x)[j]? =I c->us[f+(i * ks k+j)]? =I u->RC w β c u)(hx:xs≠[])(hf:f=0){a:Addr}(hu:us[0]? =I (.pointer<|I a)):False:=by
 subst hf;obtain⟨x,l,rfl⟩:=List.exists_cons_of_ne_nil hx;have hk:=Ht k;rw[← EE k x]at hk;have hc:=hr 0 x 0 _ _ rfl (Av hk) (by simpa using hu);exact aar (C0.1 (avE k x) _<|CJ hk) hc a rfl
def Hs.setRow(h:Hs B β H w){id:Nat}{hd:Value}{n g o:Nat}(hβ:β id=I (hd,n))(ha:adr hd=I ⟨g,o,U⟩)(cs:Array Value)(ob:Ob)
  (hob:Kp w β (w.setRow g cs) β->Dx B.P (w.setRow g cs) β id ob)(hpk:Pk B.P w (w.setRow g cs)):Hs B β (upd H id<|I ob) (w.setRow g cs)/\Kp w β (w.setRow g cs) β:=by
 have hm:MB β g:=⟨id,hd,n,_,hβ,ha,rfl⟩;have hk:Kp w β (w.setRow g cs) β:=λc v x=>RC.mono (λ_ _ h=>h) (λb o v hb hc=>by
  have hne:b≠g:=λe=>hb<|.inl<|e▸hm;rw[cell_setRow_other w g cs _ hne];exact hc) (λ_ h _=>h) x
 have h1:=h.UF (w':=w.setRow g cs) (β':=β) (f:=λc=>c) (λ_ _=>rfl) hk (id:=id) (ob:=I ob) (λ_ _=>rfl)
  (.inr ⟨ob,hd,n,rfl,hβ,hob hk,λa h=> .inl ⟨_,a,hβ,h,rfl⟩⟩)
  (λj p a' e hj h2=>setRow_other w g _ cs λe'=>e<|h.inj _ _ _ _ _ _ hj hβ h2 ha e') rfl rfl rfl (by simp)
  (λb hb hO=>setRow_other w g b cs (λe=>by
   subst e;rcases(h.old b hm).1 with h3|h3
   .exact hO h3
   .omega)) rfl hpk
 rw[show(λj=>CD (λc=>c)<|H j)=H from funext λj=>aEl _ (λ_=>rfl) _]at h1;exact⟨h1,hk⟩
def YE{α:Type}(l:List α)(p:Nat)(ys:List α)(h:p+ys.length<=l.length)(q:Nat):
  (l.take p++ys++l.drop (p+ys.length))[q]? =if p<=q/\q<p+ys.length then ys[q - p]? else l[q]? :=by
 have ht:(l.take p).length=p:=by simp;omega
 by_cases h1:q<p
 .rw[AD J,Bw,I9 J,GZ,A8 h1]
 .by_cases h2:q<p+ys.length
  .rw[A8 ⟨J,h2⟩,Bw,FG J,ht,I9 J]
  .rw[AD J,FG (by simp;omega),Ha];congr 1;simp only[Ar,ht];omega
def ib{t:TypeId}{v:Value}{g o:Nat}{e:TypeId}{fr:Nat×Nat}{cur:Array Value}(h1:1<=P.cellsOf t)(hs:v.cells.size=P.cellsOf t)(hg:w.heap[g]? =I (.cells cur e fr))(hl:o+v.cells.size<=cur.size)
  (hfr:fr=(0,0)\/cur.size<=fr.1)(D6:∀u∈v.cells.toList,u.oneCell'=A0):
  (QS t (.pointer<|I ⟨g,o,U⟩) v).run P w= .ok () (w.setRow g (cur.toList.take o++v.cells.toList++cur.toList.drop (o+v.cells.size)).toArray):=by
 have:=Wt (P:=P) g o e fr v.cells.toList 0 cur w hg (by simpa using hl) hfr D6;simp only[HP,Ep]at this;simp only[QS,JG,storeVar,Ea,FV,Eo,KU h1,hs,ne_eq,not_true_eq_false,if_false];rw[hs]at this;exact this
def arv(hP:P=B.P)(h:St B β stk s a w){t:TypeId}{p x:Operand}{id z o:Nat}{e:TypeId}{cs ys:List AV}(hp:s.ev p= .ptr id z 0 o)(hid:s.H id=I (.box e cs))(hx:GO (s.ev x)=I ys)
  (hy:ys.length=P.cellsOf t)(h1:1<=P.cellsOf t)(hl:o+ys.length<=cs.length)(h0:o=0->nop (cs.headD<|.lit<|.bool A3)=A0):
  ∃w' β',(QS t (a.eval p)<|a.eval x).run P w= .ok () w'/\St B β' stk (s.E9 id<|I<|.box e<|Gn cs o ys) a w':=by
 have hp':=h.eval p;rw[hp]at hp';have hp':RC w β (.ptr id z 0 o) (a.eval p):=hp';have hr:=SD hx<|h.eval x;have hys:(a.eval x).cells.size=ys.length:=by have:=hr.1;simpa using this
 obtain⟨b',us,k1,k2,k3⟩:=h.hs.EA id _ hid;have hcs:us.size=cs.length:=by have:=k3.1;simpa using this
 generalize hg:a.eval p=vp at hp';cases hp' with
 | @ptr _ _ _ _ hd n bb f hβ ha hi=>
  rw[k1]at hβ;cases hβ;cases ha;have CW:=ib (P:=P) (w:=w) (v:=a.eval x) (o:=o) h1 (by rw[hys,hy]) k2 J (.inl rfl) hr.one;refine⟨_,β,by rw[show(0:Nat)+(0 * z+o)=o by omega];exact CW, ?_⟩;obtain⟨g1,g2⟩:=h.hs.setRow (hpk:=Pk.setRow k2 λ_ a' hu=>by
   have hus:us.toList.length=us.size:=Ep;refine XZ (ys:=(a.eval x).cells.toList) (by simp;omega) (by simpa using hu) λe1 _=> ?_;cases cs with
   | nil=>simp at hcs;simp[hcs]at hu
   | cons c cs=>exact aar (h0 e1) (k3.2 0 c _ rfl (by simpa using hu)) a' rfl) k1 rfl (us.toList.take o++(a.eval x).cells.toList++us.toList.drop (o+(a.eval x).cells.size)).toArray (.box e<|Gn cs o ys) (λhk=>by
   refine⟨b',_,k1,setRow_heap w b' us _ e _ k2, ?_⟩;rw[aBf];unfold Gn;rw[← hys];exact(((k3.take _).append hr).append<|k3.drop _).mono hk)
  exact h.keep g2 g1
def aBM{k:K}{us:List Value}{f:Nat}{xs:List (Tof k)}{i o:Nat}{y:Tof k}{ys:List AV}{vs:List Value}(hi:i<xs.length)(hsz:f+xs.length * ks k<=us.length)
  (hr:∀i x j c u,xs[i]? =I x->(enc k x)[j]? =I c->us[f+(i * ks k+j)]? =I u->RC w β c u)(hv:vs.length=ys.length)(ho:o+ys.length<=ks k)
  (hy:∀us0,RL (RC w β) (enc k<|xs.getD i<|dfl k) us0->RL (RC w β) (enc k y) (us0.take o++vs++us0.drop (o+vs.length))):
  ∀i' x j c u,(xs.set i y)[i']? =I x->(enc k x)[j]? =I c->(us.take (f+(i * ks k+o))++vs++us.drop (f+(i * ks k+o)+vs.length))[f+(i' * ks k+j)]? =I u->RC w β c u:=by
 intro i' x j c u h1 h2 h3;have hj:j<ks k:=by rw[← EE k x];exact(BL.1 h2).1
 have hi':i'<xs.length:=by have:=(BL.1 h1).1;simpa using this
 have e1:(i+1) * ks k<=xs.length * ks k:=Dv _ hi;rw[E8,Oy]at e1;have hlen:=hv;rw[YE _ _ _ J]at h3;by_cases e:i'=i
 .subst e;have hx:x=y:=by
   rw[Yj hi]at h1;exact(C8 h1).symm
  subst hx;have hold:RL (RC w β) (enc k<|xs.getD i'<|dfl k) ((us.drop<|f+i' * ks k).take<|ks k):=by
   refine⟨by simp[EE];omega,λj' c' u' g1 g2=>hr i' _ j' c' u' (getD_some hi) g1 ?_⟩;have hj':j'<ks k:=by rw[← EE k<|xs.getD i'<|dfl k];exact(BL.1 g1).1
   rw[GZ,A8 hj',Ha,D3]at g2;exact g2
  have Zx:=hy _ hold;refine Zx.2 j c u h2 ?_;rw[YE _ _ _ (by simp;omega)];by_cases g:o<=j/\j<o+vs.length
  .rw[A8 g];rw[A8 J]at h3;rw[← h3];congr 1;omega
  .rw[AD g,GZ,A8 hj,Ha];rw[AD J]at h3;rw[← h3];congr 1;omega
 .have hx:xs[i']? =I x:=by
   rw[List.getElem?_set_ne λq=>e q.symm]at h1;exact h1
  refine hr i' x j c u hx h2 ?_;rw[AD]at h3
  .exact h3
  .rcases Ta e with g|g
   .have:(i'+1) * ks k<=i * ks k:=Dv _ g;rw[E8,Oy]at this;omega
   .have:(i+1) * ks k<=i' * ks k:=Dv _ g;rw[E8,Oy]at this;omega
def aqF(h:St B β stk s a w){t:TypeId}{p:Operand}{id i o:Nat}{e:TypeId}{fz:Bool}{k:K}{xs:List (Tof k)}{ys:List AV}{vs:Value}(hp:RC w β (.ptr id (ks k) i o) (a.eval p))(hid:s.H id=I (.row e fz k xs))
  (hys:vs.cells.size=ys.length)(D6:∀u∈vs.cells.toList,u.oneCell'=A0)(hy:ys.length=P.cellsOf t)(h1:1<=P.cellsOf t)(hl:o+ys.length<=ks k){y:Tof k}(hd:∀us0,RL (RC w β) (enc k<|xs.getD i<|dfl k) us0->RL (RC w β) (enc k y) (us0.take o++vs.cells.toList++us0.drop (o+vs.cells.toList.length))):
  ∃w',(QS t (a.eval p) vs).run P w= .ok () w'/\St B β stk (s.E9 id<|I<|.row e fz k<|xs.set i y) a w':=by
 obtain⟨hd',k1,k2⟩:=h.hs.EA id _ hid;generalize hg:a.eval p=vp at hp;cases hp with
 | @ptr _ _ _ _ hdd n bb f hβ ha hi=>
  rw[k1]at hβ;cases hβ;obtain⟨rfl,rfl⟩|⟨b',f',cap,us,fr,axt,hh,hfr,hn,hc,hsz,Ck⟩:=k2
  .cases ha
  .subst axt;have ha':(⟨b',f',U⟩:Addr)=⟨bb,f,U⟩:=C8 ha;obtain⟨rfl,rfl⟩:b'=bb/\f'=f:=by simpa using ha'
   have hxc:xs.length * ks k<=cap * ks k:=Dv _ hn;have hic:(i+1) * ks k<=xs.length * ks k:=Dv _ hi;rw[E8,Oy]at hic;have ayk:fr=(0,0)\/us.size<=fr.1:=by
    subst hfr;cases fz
    .exact .inl rfl
    .exact .inr<|As _
   have CW:=ib (P:=P) (w:=w) (v:=vs) (o:=f'+(i * ks k+o)) h1 (by rw[hys,hy]) hh J ayk D6;refine⟨_,CW, ?_⟩;obtain⟨g1,g2⟩:=h.hs.setRow (hpk:=Pk.setRow hh λ_ a' hu=>by
    have hus:us.toList.length=us.size:=Ep;exact XZ (ys:=vs.cells.toList) (by simp;omega) (by simpa using hu) λe1 _=>kU Ck (λe2=>by subst e2;simp at hi) J hu) k1 rfl (us.toList.take (f'+(i * ks k+o))++vs.cells.toList++us.toList.drop (f'+(i * ks k+o)+vs.cells.size)).toArray (.row e fz k<|xs.set i y) (λhk=>by
    have F2:(us.toList.take (f'+(i * ks k+o))++vs.cells.toList++us.toList.drop (f'+(i * ks k+o)+vs.cells.size)).toArray.size=us.size:=by
     simp only[Kn,Ar,Cw,E4,Ep];omega
    refine⟨_,by simpa using k1,.inr ⟨b',f',cap,_,fr,by simp,setRow_heap w b' us _ e _ hh, ?_,by simpa using hn,hc,by rw[F2];exact hsz, ?_⟩⟩
    .rw[F2];exact hfr
    .intro i' x' j c u q1 q2 q3;have q3':(us.toList.take (f'+(i * ks k+o))++vs.cells.toList++us.toList.drop (f'+(i * ks k+o)+vs.cells.toList.length))[f'+(i' * ks k+j)]? =I u:=by simpa using q3
     exact hk _ _<|aBM hi (by simp;omega) (λi x j c u a1 a2 a3=>Ck i x j c u a1 a2<|by simpa using a3) (by simpa using hys) hl hd i' x' j c u q1 q2 q3')
   exact h.keep g2 g1
def arw(h:St B β stk s a w){t:TypeId}{p:Operand}{id i o:Nat}{e:TypeId}{k:K}{xs:List (Tof k)}{ys:List AV}{vs:Value}(hp:RC w β (.ptr id (ks k) i o) (a.eval p))(hid:s.H id=I (.arr e k xs))
  (hys:vs.cells.size=ys.length)(D6:∀u∈vs.cells.toList,u.oneCell'=A0)(hy:ys.length=P.cellsOf t)(h1:1<=P.cellsOf t)(hl:o+ys.length<=ks k){y:Tof k}(hd:∀us0,RL (RC w β) (enc k<|xs.getD i<|dfl k) us0->RL (RC w β) (enc k y) (us0.take o++vs.cells.toList++us0.drop (o+vs.cells.toList.length))):
  ∃w',(QS t (a.eval p) vs).run P w= .ok () w'/\St B β stk (s.E9 id<|I<|.arr e k<|xs.set i y) a w':=by
 obtain⟨b',us,k1,hh,hsz,hce,Ck⟩:=h.hs.EA id _ hid;generalize hg:a.eval p=vp at hp;cases hp with
 | @ptr _ _ _ _ hdd n bb f hβ ha hi=>
  rw[k1]at hβ;cases hβ;cases ha;have hic:(i+1) * ks k<=xs.length * ks k:=Dv _ hi;rw[E8,Oy]at hic;have CW:=ib (P:=P) (w:=w) (v:=vs) (o:=0+(i * ks k+o)) h1 (by rw[hys,hy]) hh J (.inl rfl) D6;refine⟨_,CW, ?_⟩;obtain⟨g1,g2⟩:=h.hs.setRow (hpk:=Pk.setRow hh λ_ a' hu=>by
   have hus:us.toList.length=us.size:=Ep;exact XZ (ys:=vs.cells.toList) (by simp;omega) (by simpa using hu) λe1 _=>kU (f:=0) (xs:=xs) (λi x j c u a1 a2 a3=>Ck i x j c u a1 a2<|by simpa using a3) (λe2=>by subst e2;simp at hi) rfl hu) k1 rfl (us.toList.take (0+(i * ks k+o))++vs.cells.toList++us.toList.drop (0+(i * ks k+o)+vs.cells.size)).toArray (.arr e k<|xs.set i y) (λhk=>by
   have F2:(us.toList.take (0+(i * ks k+o))++vs.cells.toList++us.toList.drop (0+(i * ks k+o)+vs.cells.size)).toArray.size=us.size:=by
    simp only[Kn,Ar,Cw,E4,Ep];omega
   refine⟨b',_,by simpa using k1,setRow_heap w b' us _ e _ hh,by rw[F2];simpa using hsz,by rw[F2];exact hce, ?_⟩;intro i' x' j c u q1 q2 q3;have q3':(us.toList.take (0+(i * ks k+o))++vs.cells.toList++us.toList.drop (0+(i * ks k+o)+vs.cells.toList.length))[0+(i' * ks k+j)]? =I u:=by simpa using q3
   exact hk _ _<|aBM hi (by simp;omega) (λi x j c u a1 a2 a3=>Ck i x j c u a1 a2<|by simpa using a3) (by simpa using hys) hl hd i' x' j c u q1 q2 q3')
  exact h.keep g2 g1
end
end Go.VS
namespace Go.VS
open Go
section
variable {P:Program} {B:Ba} {β β':Beta} {H:Hp} {stk:List (Array Value)} {s:S} {a:Act} {w w':World}
structure JO (w:World) (H:Hp) (β β':Beta) (H':Hp) (ids:List Nat):Prop where
 imm:∀c v,GH c=A0->RC w β c v->RC w β' c v
 own:∀j v,j ∉ ids->RC w β (.own j) v->RC w β' (.own j) v
 ptr:∀j z i o v,j ∉ ids->RC w β (.ptr j z i o) v->RC w β' (.ptr j z i o) v
 fr:∀j v e fz k xs,j∈ids->H j=I (.row e fz k xs)->RC w β (.own j) v->RC w β' (.sl k xs) v
 row:∀j e fz k xs,j ∉ ids->H j=I (.row e fz k xs)->H' j=I (.row e fz k xs)
 arr:∀j e k xs,j ∉ ids->H j=I (.arr e k xs)->H' j=I (.arr e k xs)
 non:∀j,H j=U->H' j=U
def St.abW(h:St B β stk s a w)(id:Nat):∃β',St B β' stk (s.freeze id) a w/\JO w s.H β β' (s.freeze id).H [id]:=by
 have gen:∀f:AV->AV,(∀c,GH c=A0->f c=c)->(∀j,j≠id->f (.own j)= .own j)->(∀j z i o,j≠id->f (.ptr j z i o)= .ptr j z i o)->(∀e fz k xs,s.H id=I (.row e fz k xs)->f (.own id)= .sl k xs)->
   (∀c g want x,f c= .gd g want x->∃y,c= .gd g want y)->∀β',Hs B β' (upd (λj=>CD f<|s.H j) id U) w->Kf f w β w β'->s.freeze id={ s.map f with H:=upd (λj=>CD f<|s.H j) id U } ->
   ∃β',St B β' stk (s.freeze id) a w/\JO w s.H β β' (s.freeze id).H [id]:=by
  intro f h1 h2 h3 h4 h5 β' h6 h7 h8;refine⟨β',by rw[h8];exact h.map h1 h5 h7 h6, ?_⟩;rw[h8];refine⟨λc v hc hv=>by have:=h7 c v hv;rwa[h1 c hc]at this,λj v hj hv=>by have:=h7 _ v hv;rwa[h2 j<|by simpa using hj]at this,
   λj z i o v hj hv=>by have:=h7 _ v hv;rwa[h3 j z i o<|by simpa using hj]at this,λj v e fz k xs hj hh hv=> ?_,λj e fz k xs hj hh=> ?_,λj e k xs hj hh=> ?_,λj hh=> ?_⟩
  .obtain rfl:j=id:=by simpa using hj
   have:=h7 _ v hv;rwa[h4 e fz k xs hh]at this
  .show upd (λj=>CD f<|s.H j) id U j=_;rw[BB _ _<|by simpa using hj,hh];rfl
  .show upd (λj=>CD f<|s.H j) id U j=_;rw[BB _ _<|by simpa using hj,hh];rfl
  .show upd (λj=>CD f<|s.H j) id U j=_;by_cases e:j=id
   .subst e;rw[Bf]
   .rw[BB _ _ e,hh];rfl
 have kl:∀j,j≠id->Ag j id=A3:=λj hj=>by rw[← GD,H4];exact hj
 cases hid:s.H id with
 | none=>
  obtain⟨β',h1,h2⟩:=h.hs.kill id;exact gen (kl1 id) (Iu id) (λj hj=>by simp[kl1,kl j hj]) (λj z i o hj=>by simp[kl1,kl j hj]) (λe fz k xs hh=>by rw[hid]at hh;cases hh) (Ok id) β' h1 h2 (by simp only[S.freeze,hid];rfl)
 | some ob=>
  cases ob with
  | row e fz k xs=>
   obtain⟨β',h1,h2⟩:=h.hs.freeze hid;exact gen (fz1 id k xs) (k9 id k xs) (λj hj=>by simp[fz1,kl j hj]) (λj z i o hj=>by simp[fz1,kl j hj]) (λe fz k xs hh=>by rw[hid]at hh;cases hh;simp[fz1]) (aam id k xs) β' h1 h2 (by simp only[S.freeze,hid];rfl)
  | box e cs=>
   obtain⟨β',h1,h2⟩:=h.hs.kill id;exact gen (kl1 id) (Iu id) (λj hj=>by simp[kl1,kl j hj]) (λj z i o hj=>by simp[kl1,kl j hj]) (λe fz k xs hh=>by rw[hid]at hh;cases hh) (Ok id) β' h1 h2 (by simp only[S.freeze,hid];rfl)
  | arr e k xs=>
   obtain⟨β',h1,h2⟩:=h.hs.kill id;exact gen (kl1 id) (Iu id) (λj hj=>by simp[kl1,kl j hj]) (λj z i o hj=>by simp[kl1,kl j hj]) (λe fz k xs hh=>by rw[hid]at hh;cases hh) (Ok id) β' h1 h2 (by simp only[S.freeze,hid];rfl)
def JO.nil:JO w H β β H []:=
 ⟨λ_ _ _ h=>h,λ_ _ _ h=>h,λ_ _ _ _ _ _ h=>h,λ_ _ _ _ _ _ h=>by simp at h,λ_ _ _ _ _ _ h=>h,λ_ _ _ _ _ h=>h,λ_ h=>h⟩
def JO.cons{β'':Beta}{H' H'':Hp}{i:Nat}{ids:List Nat}(h:JO w H β β' H' [i])(k:JO w H' β' β'' H'' ids):JO w H β β'' H'' (i::ids):=by
 refine⟨λc v hc hv=>k.imm c v hc<|h.imm c v hc hv,λj v hj hv=>k.own j v (λe=>hj<|by simp[e])<|h.own j v (λe=>hj (by simp at e;simp[e])) hv,
  λj z i o v hj hv=>k.ptr j z i o v (λe=>hj<|by simp[e])<|h.ptr j z i o v (λe=>hj (by simp at e;simp[e])) hv,λj v e fz kk xs hj hh hv=> ?_,
  λj e fz kk xs hj hh=>k.row j e fz kk xs (λe=>hj<|by simp[e])<|h.row j e fz kk xs (λe=>hj (by simp at e;simp[e])) hh,
  λj e kk xs hj hh=>k.arr j e kk xs (λe=>hj<|by simp[e])<|h.arr j e kk xs (λe=>hj (by simp at e;simp[e])) hh,λj hh=>k.non j<|h.non j hh⟩
 by_cases e1:j=i
 .exact k.imm _ _ rfl (h.fr j v e fz kk xs (by simp[e1]) hh hv)
 .have h1:j ∉ [i]:=by simpa using e1
  have h2:j∈ids:=by simpa[e1] using hj
  exact k.fr j v e fz kk xs h2 (h.row j e fz kk xs h1 hh)<|h.own j v h1 hv
def St.L9:∀(ids:List Nat) {s:S} {β:Beta},St B β stk s a w->∃β',St B β' stk (ids.foldl S.freeze s) a w/\JO w s.H β β' (ids.foldl S.freeze s).H ids
 | [],s,β,h=>⟨β,h,JO.nil⟩
 | i::ids,s,β,h=>by
  obtain⟨β1,h1,h2⟩:=h.abW i;obtain⟨β2,h3,h4⟩:=St.L9 ids h1;exact⟨β2,h3,h2.cons h4⟩
def Q(H:Hp)(w:World)(β:Beta)(c:AV)(u:Value):Prop:=(∀v,c= .lit v->RC w β c u)/\ ∀k l,C7 H k c=I l->RC w β (.sl k l) u
def Q.lit{v u:Value}(h:Q H w β (.lit v) u):RC w β (.lit v) u:=h.1 v rfl
def axT:AV->Bool
 | .lit _=>A0
 | _=>A3
def Q.all{cs:List AV}{us:List Value}(hl:RL (Q H w β) cs us)(h:cs.all axT=A0):RL (RC w β) cs us:=by
 refine⟨hl.1,λj c u h1 h2=> ?_⟩;have h3:=C0.1 h c<|Cb h1;cases c<;>first|cases h3|skip
 exact(hl.2 j _ u h1 h2).lit
def av6{k:K}{cs:List AV}{x:Tof k}(h:dec H k cs=I x){us:List Value}(hl:RL (Q H w β) cs us):RL (RC w β) (enc k x) us:=by
 unfold dec at h;split at h<;>try (cases h;done)
 all_goals try (cases h;exact Q.all hl rfl)
 .rename_i x';cases hx:C7 H K.mixed x' with
  | none=>rw[hx]at h;cases h
  | some l=>
   rw[hx]at h;cases h;obtain⟨u1,_,rfl,g1,hl⟩:=hl.C1;obtain⟨u2,_,rfl,g2,hl⟩:=hl.C1;obtain⟨u3,_,rfl,g3,hl⟩:=hl.C1;obtain⟨u4,_,rfl,g4,hl⟩:=hl.C1;obtain⟨u5,_,rfl,g5,hl⟩:=hl.C1;obtain⟨u6,_,rfl,g6,hl⟩:=hl.C1;rw[hl.of_nil];exact .cons g1.lit (.cons g2.lit<|.cons g3.lit<|.cons g4.lit<|.cons g5.lit<|.cons (g6.2 _ _ hx) .nil)
 .rename_i x' y' z';cases hx:C7 H K.note x' with
  | none=>rw[hx]at h;cases h
  | some l=>
   cases hy:C7 H K.mark y' with
   | none=>rw[hx,hy]at h;cases h
   | some m=>
    cases hz:C7 H K.note z' with
    | none=>rw[hx,hy,hz]at h;cases h
    | some n=>
     rw[hx,hy,hz]at h;cases h;obtain⟨u1,_,rfl,g1,hl⟩:=hl.C1;obtain⟨u2,_,rfl,g2,hl⟩:=hl.C1;obtain⟨u3,_,rfl,g3,hl⟩:=hl.C1;obtain⟨u4,_,rfl,g4,hl⟩:=hl.C1;obtain⟨u5,_,rfl,g5,hl⟩:=hl.C1;obtain⟨u6,_,rfl,g6,hl⟩:=hl.C1;rw[hl.of_nil];exact .cons g1.lit (.cons g2.lit<|.cons g3.lit<|.cons (g4.2 _ _ hx)<|.cons (g5.2 _ _ hy)<|.cons (g6.2 _ _ hz) .nil)
 .rename_i x';cases hx:C7 H K.half x' with
  | none=>rw[hx]at h;cases h
  | some l=>
   rw[hx]at h;cases h;obtain⟨u1,_,rfl,g1,hl⟩:=hl.C1;obtain⟨u2,_,rfl,g2,hl⟩:=hl.C1;obtain⟨u3,_,rfl,g3,hl⟩:=hl.C1;obtain⟨u4,_,rfl,g4,hl⟩:=hl.C1;obtain⟨u5,_,rfl,g5,hl⟩:=hl.C1;rw[hl.of_nil];exact .cons g1.lit<|.cons g2.lit<|.cons g3.lit<|.cons g4.lit<|.cons (g5.2 _ _ hx) .nil
def JO.Q{β0:Beta}{H':Hp}{ids:List Nat}(h:JO w H β0 β H' ids){c:AV}{u:Value}(hc:∀j,c= .own j->j∈ids)(hx:RC w β0 c u):VS.Q H w β c u:=by
 refine⟨λv e=>by subst e;exact h.imm _ _ rfl hx,λk l hl=> ?_⟩;unfold C7 at hl;split at hl
 .obtain⟨e,rfl⟩:=Hn hl;subst e;exact h.imm _ _ rfl hx
 .cases hl;rw[hx.Nh];exact .nil
 .rename_i id _;split at hl
  .rename_i e fz k' xs hid;obtain⟨ek,rfl⟩:=Hn hl;subst ek;exact h.fr _ u e fz k' xs (hc _ rfl) hid hx
  .cases hl
 .cases hl
def aDx{H:Hp}{β:Beta}{k:K}{x0 y:Tof k}{o:Nat}{ys:List AV}{vs us0:List Value}(hd:dec H k (Gn (enc k x0) o ys)=I y)(h0:RL (RC w β) (enc k x0) us0)(hy:RL (VS.Q H w β) ys vs):
  RL (RC w β) (enc k y) (us0.take o++vs++us0.drop (o+vs.length)):=by
 have h1:RL (VS.Q H w β) (enc k x0) us0:=by
  refine⟨h0.1,λj c u a1 a2=> ?_⟩;have hr:=h0.2 j c u a1 a2;have hn:=IM k x0 a1;refine⟨λv e=>by subst e;exact hr,λk' l hl=> ?_⟩;unfold C7 at hl;split at hl
  .obtain⟨e,rfl⟩:=Hn hl;subst e;exact hr
  .cases hl;rw[hr.Nh];exact .nil
  .cases hn
  .cases hl
 refine av6 hd ?_;unfold Gn;rw[← hy.1];exact((h1.take o).append hy).append<|h1.drop _
def aqE(hP:P=B.P)(h:St B β stk s a w){t:TypeId}{p x:Operand}{s':S}(hs:IS P t s (s.ev p) (s.ev x)=I s'):
  ∃w' β',(QS t (a.eval p)<|a.eval x).run P w= .ok () w'/\St B β' stk s' a w':=by
 generalize hp:s.ev p=cp at hs;unfold IS at hs;split at hs
 .rename_i id z i o;have hpx:=h.eval p;rw[hp]at hpx;have hpr:RC w β (.ptr id z i o) (a.eval p):=hpx;split at hs
  .rename_i e cs hid;split at hs
   .cases hc:GO (s.ev x) with
    | none=>rw[hc]at hs;cases hs
    | some ys=>
     rw[hc]at hs;simp only[A9]at hs;split at hs
     .rename_i hb;simp only[AE]at hb;cases hs;exact arv hP h hp hid hc (Bk hb.1.1) (DX hb.1.2) (aDH hb.2).1 (aDH hb.2).2
     .cases hs
   .cases hs
  .rename_i e fz k xs hid;cases hc:GO (s.ev x) with
   | none=>rw[hc]at hs;cases hs
   | some ys=>
    rw[hc]at hs;simp only[A9]at hs;split at hs
    .rename_i hb;simp only[AE,CL]at hb;obtain⟨⟨⟨⟨b1,b2⟩,b3⟩,b4⟩,b5⟩:=hb;obtain rfl:=Bk b4;have hni:=aEi b5;cases hd:dec s.H k (Gn (enc k<|xs.getD i<|dfl k) o ys) with
     | none=>rw[hd]at hs;cases hs
     | some y=>
      rw[hd]at hs;simp only[A9,Bp]at hs;subst hs;obtain⟨β',h1,h2⟩:=St.L9 (ys.filterMap Gq) h;have hr:=SD hc<|h.eval x;have hrQ:RL (VS.Q s.H w β') ys (a.eval x).cells.toList:=⟨hr.1,λj c u g1 g2=>h2.Q (λj' e'=>by
       subst e';exact G9.2 ⟨_,Cb g1,rfl⟩) (hr.2 j c u g1 g2)⟩
      obtain⟨w',g1,g2⟩:=aqF (P:=P) (t:=t) (p:=p) h1 (h2.ptr _ _ _ _ _ hni hpr) (h2.row _ _ _ _ _ hni hid) (by have:=hr.1;simpa using this) hr.one (Bk b1) (DX b2) (DX b3)
       (λus0 h0=>aDx hd h0 hrQ)
      exact⟨w',β',g1,g2⟩
    .cases hs
  .rename_i e k xs hid;cases hc:GO (s.ev x) with
   | none=>rw[hc]at hs;cases hs
   | some ys=>
    rw[hc]at hs;simp only[A9]at hs;split at hs
    .rename_i hb;simp only[AE]at hb;obtain⟨⟨⟨b1,b2⟩,b3⟩,b4⟩:=hb;obtain rfl:=Bk b4;cases hd:dec (λ_=>U) k (Gn (enc k<|xs.getD i<|dfl k) o ys) with
     | none=>rw[hd]at hs;cases hs
     | some y=>
      rw[hd]at hs;simp only[A9,Bp]at hs;subst hs;have hr:=SD hc<|h.eval x;have hrQ:RL (VS.Q (λ_=>U) w β) ys (a.eval x).cells.toList:=⟨hr.1,λj c u g1 g2=>by
       have hx:=hr.2 j c u g1 g2;refine⟨λv e=>by subst e;exact hx,λk' l hl=> ?_⟩;unfold C7 at hl;split at hl
       .obtain⟨e,rfl⟩:=Hn hl;subst e;exact hx
       .cases hl;rw[hx.Nh];exact .nil
       .cases hl
       .cases hl⟩
      obtain⟨w',g1,g2⟩:=arw (P:=P) (t:=t) (p:=p) h hpr hid (by have:=hr.1;simpa using this) hr.one (Bk b1) (DX b2) (DX b3)
       (λus0 h0=>aDx hd h0 hrQ)
      exact⟨w',β,g1,g2⟩
    .cases hs
  .cases hs
 .cases hs
end
end Go.VS
namespace Go.VS
open Go
section
variable {P:Program} {B:Ba} {β β':Beta} {H:Hp} {stk:List (Array Value)} {s:S} {a:Act} {w w':World}
structure Src (P:Program) (w:World) (β:Beta) (k:K) (ys:List (Tof k)) (v:Value) (news:List Value):Prop where
 len:∀w',(lU v).run P w'= .ok ys.length w'
 cells:∀w',w'.heap=w.heap->(I8 (ks k) ys.length v).run P w'= .ok news.toArray w'
 rel:RL (RC w β) (ys.flatMap<|enc k) news
 nR:∀n,n<=ys.length->(I8 (ks k) n v).run P w= .ok (news.take<|n * ks k).toArray w
def as4{w w':World}(h:w'.heap=w.heap)(a:Addr):w'.cell? a=w.cell? a:=by simp only[M7,h]
def ML.cellsOf{k:K}{xs:List (Tof k)}{v:Value}(h:ML w β k xs v):(∃a cap,xs=[]/\v= .slice a 0 cap)\/ ∃b f cap,∃us:List Value,v= .slice (I ⟨b,f,U⟩) xs.length cap/\xs.length<=cap/\RL (RC w β) (xs.flatMap<|enc k) us/\ ∀(j:Nat) (u:Value),us[j]? =I u->w.cell? ⟨b,f+j,U⟩=I u:=by
 obtain⟨rfl,a,cap,rfl⟩|⟨b,f,cap,u,rfl,hc,hu,hr⟩:=h
 .exact .inl ⟨a,cap,rfl,rfl⟩
 .have hk:=Ht k;refine .inr ⟨b,f,cap,(BJ<|xs.length * ks k).map λq=>u (q / ks k)<|q % ks k,rfl,hc,⟨by rw[KO,E5,List.length_range],λj c v h1 h2=> ?_⟩,λj v h2=> ?_⟩
  .simp only[D2,D4]at h2;obtain⟨q,hq,rfl⟩:=h2;have hlt:j<xs.length * ks k:=by have:=(BL.1 hq).1;simpa using this
   rw[GY hlt]at hq;cases hq;have hi:j / ks k<xs.length:=by rw[aBZ hk];exact hlt
   have hm:j % ks k<ks k:=P9 _ hk;have hx:xs[j / ks k]? =I xs[j / ks k]:=by simp[hi]
   refine hr _ _ _ _ hx ?_;rw[← Xq hx hm,Nat.mul_comm,Nat.div_add_mod];exact h1
  .simp only[D2,D4]at h2;obtain⟨q,hq,rfl⟩:=h2;have hlt:j<xs.length * ks k:=by have:=(BL.1 hq).1;simpa using this
   rw[GY hlt]at hq;cases hq;have hi:j / ks k<xs.length:=by rw[aBZ hk];exact hlt
   have hm:j % ks k<ks k:=P9 _ hk;have:=hu _ _ hi hm;rw[Nat.mul_comm,Nat.div_add_mod]at this;exact this
def aDB(hH:Hs B β H w){k:K}{c:AV}{v:Value}{ys:List (Tof k)}(h:Js H k c=I ys)(hx:R2 w β c v):∃news,Src P w β k ys v news:=by
 unfold Js at h;split at h
 .rename_i s;split at h
  .cases h;have hv:v= .string s:=hx;subst hv;have hlen:(BE s).length=s.size:=by rw[BE,E5,Ep];rfl
   refine⟨s.data.toList.map λb=>Value.int .u8 b.toNat,λw'=>by rw[hlen];rfl,λw' _=> ?_, ?_,λn hn=> ?_⟩
   .rw[hlen];simp only[I8,FV];congr 1;apply Array.ext';have:(s.extract 0 s.size).data=s.data:=by
     simp only[Yk];rw[show s.size=s.data.size from rfl,Array.extract_size]
    rw[this];simp
   .refine⟨by rw[KO,hlen,E5,Ep];simp[ks],λj c u h1 h2=> ?_⟩;simp only[D2,D4]at h2;obtain⟨y,hy,rfl⟩:=h2;have hx:(BE s)[j]? =I (y.toNat:Int):=by simp[BE,hy]
    have:=Xq (k:= .u8) hx (j:=0) (by decide);rw[show j * ks .u8+0=j by simp[ks],h1]at this;cases this;exact .lit rfl
   .simp only[I8,FV];congr 1;apply Array.ext';simp[Yk,ks]
  .cases h
 .rcases(aEh hH h hx).cellsOf with⟨a,cap,rfl,rfl⟩|⟨b,f,cap,us,rfl,hc,hr,hu⟩
  .refine⟨[],λw'=>rfl,λw' _=> ?_, ?_,λn hn=> ?_⟩
   .cases a with
    | none=>rfl
    | some a=>simp[I8,loadCells,loadCellsFrom]
   .exact RL.nil
   .obtain rfl:n=0:=by simpa using hn
    cases a with
    | none=>simp[I8]
    | some a=>simp[I8,loadCells,loadCellsFrom]
  .refine⟨us,λw'=>rfl,λw' hw=> ?_,hr,λn hn=> ?_⟩;have hl:us.length=ys.length * ks k:=by rw[hr.1,KO]
   exact run_firstCells_some w' (ks k) _ ⟨b,f,U⟩ _ cap us hl (λj u hj=>by rw[GX,as4 hw];exact hu j u hj);have hl:us.length=ys.length * ks k:=by rw[hr.1,KO]
   have hle:n * ks k<=ys.length * ks k:=Dv _ hn;exact run_firstCells_some w (ks k) n ⟨b,f,U⟩ _ cap (us.take<|n * ks k) (by simp;omega) (λj u hj=>by
    rw[GX];rw[GZ]at hj;split at hj
    .exact hu j u hj
    .cases hj)
def gf{t u ty e:TypeId}{d:TypeDesc}{i:TypeInfo}(ht:P.underlying t=I (.slice e))(hu:P.underlying u=I d)(hd:d= .string\/ ∃e',d= .slice e')(hi:P.info? e=I i){base:Option Addr}{sLen sCap n:Nat}{v:Value}{news:List Value}
  (hl:∀w',(lU v).run P w'= .ok n w')(hf:∀w',w'.heap=w.heap->(I8 i.size n v).run P w'= .ok news.toArray w')(hn:sLen+n<=sCap){w':World}
  (hst:∀a,base=I a->(storeCells (a.add<|sLen * i.size) news).run P w= .ok () w')(hno:base=U->w'=w):
  (Lx #[t,u] ty #[.slice base sLen sCap,v]).run P w= .ok (.slice base (sLen+n) sCap) w':=by
 have h1:=hl w;have h2:=hf w rfl;cases base with
 | none=>
  obtain rfl:=hno rfl;obtain rfl|⟨e',rfl⟩:=hd<;>simp[Lx,run_underlying ht,run_underlying hu,sizeOf,typeInfo,hi,h1,hn,h2]
 | some a=>
  have h3:=hst a rfl;obtain rfl|⟨e',rfl⟩:=hd<;>simp[Lx,run_underlying ht,run_underlying hu,sizeOf,typeInfo,hi,h1,hn,h2,h3]
def xp{t u ty e:TypeId}{d:TypeDesc}{i:TypeInfo}{z:Value}(ht:P.underlying t=I (.slice e))(hu:P.underlying u=I d)(hd:d= .string\/ ∃e',d= .slice e')(hi:P.info? e=I i)(hz:i.zero=I z){base:Option Addr}{sLen sCap n:Nat}{v:Value}{news olds:List Value}
  (hl:∀w',(lU v).run P w'= .ok n w')(hf:∀w',w'.heap=w.heap->(I8 i.size n v).run P w'= .ok news.toArray w')(hn:sCap<sLen+n)(h63:((sLen+n:Nat):Int)<=9223372036854775807)(LG:lF (sLen+n) sCap * i.bytes<=281474976710656)
  (ho:(I8 i.size sLen<|.slice base sLen sCap).run P w.drew= .ok olds.toArray w.drew):
  (Lx #[t,u] ty #[.slice base sLen sCap,v]).run P w= .ok (.slice (I ⟨w.heap.size,0,U⟩) (sLen+n)<|grownCap w (sLen+n) sCap e)
    (w.drew.alloc<|.cells (olds.toArray++news.toArray++M1 z.cells (grownCap w (sLen+n) sCap e - (sLen+n))) e):=by
 have hn':¬(sLen+n<=sCap):=J
 have azj:¬(9223372036854775807<((sLen:Int)+(n:Int))):=J
 have azk:¬(281474976710656<lF (sLen+n) sCap * i.bytes):=J
 have h1:=hl w;have h2:=hf w.drew rfl;obtain rfl|⟨e',rfl⟩:=hd<;>(simp[Lx,run_underlying ht,run_underlying hu,sizeOf,typeInfo,zeroValue,hi,hz,h1,hn',azj,azk,Question.forced,h2,ho,newRow,grownCap];try (congr 2;apply Array.ext';simp[Bw]))
def Hs.Zm(h:Hs B β H w){id:Nat}{hd0:Value}{n0:Nat}(hβ:β id=I (hd0,n0))(ob:Ob)(hd:Value)(n:Nat)
  (hos:w'.os=w.os)(K0:w'.tape=w.tape)(Ev:w'.output=w.output)(F2:w.heap.size<=w'.heap.size)
  (hold:∀j,j<w.heap.size->(∀a,adr hd0=I a->j≠a.block)->w'.heap[j]? =w.heap[j]?)
  (ha:∀a,adr hd=I a->(∃a0,adr hd0=I a0/\a0.block=a.block)\/(w.heap.size<=a.block/\a.block<w'.heap.size))
  (hob:∀β',β' id=I (hd,n)->Kf (kl1 id) w β w' β'->Dx B.P w' β' id ob)(hpk:Pk B.P w w'):
  ∃β',Hs B β' (upd (λj=>CD (kl1 id)<|H j) id<|I ob) w'/\Kf (kl1 id) w β w' β'/\β' id=I (hd,n):=by
 have hM:∀b,MB (β.up id<|I (hd,n)) b->MB β b\/w.heap.size<=b:=by
  rintro b ⟨j,hd',n',a',hj,ha',hb⟩;by_cases e:j=id
  .subst e;rw[Beta.U4]at hj;cases hj;rcases ha a' ha' with⟨a0,h1,h2⟩|h1
   .exact .inl ⟨j,hd0,n0,a0,hβ,h1,h2.trans hb⟩
   .exact .inr (hb▸h1.1)
  .rw[Beta.Nf _ _ e]at hj;exact .inl ⟨j,hd',n',a',hj,ha',hb⟩
 have hk:Kf (kl1 id) w β w' (β.up id<|I (hd,n)):=Kf.kill (λj e=>BB _ _ e)
  (λb o v hb hc=>by
   rw[Te (w:=w) (w':=w')<|hold b (Tb w _ hc) λa0 h0 e=>hb<|.inl ⟨id,hd0,n0,a0,hβ,h0,e.symm⟩];exact hc)
  (λb hb hlt hm=>by
   obtain hm|hm:=hm
   .rcases hM b hm with h1|h1
    .exact hb (.inl h1)
    .omega
   .exact hb<|.inr hm)
 refine⟨β.up id<|I (hd,n), ?_,hk,Bf _ _ _⟩;refine h.UF (Iu id) hk (λj e=>BB _ _ e)
  (.inr ⟨ob,hd,n,rfl,Bf _ _ _,hob _ (Bf _ _ _) hk,λa h2=> ?_⟩)
  (λj p a e hj h2=>hold _ (h.old _ ⟨j,p.1,p.2,a,hj,h2,rfl⟩).2 λa0 h0 e'=>e<|h.inj _ _ _ _ _ _ hj hβ h2 h0 e') hos K0 Ev F2 (λb hb hO=>hold b (Ga hb h.size) λa0 h0 e=> ?_) rfl hpk
 .rcases ha a h2 with⟨a0,h3,h4⟩|h3
  .exact .inl ⟨_,a0,hβ,h3,h4⟩
  .exact .inr h3
 .rcases(h.old a0.block ⟨id,hd0,n0,a0,hβ,h0,rfl⟩).1 with h3|h3
  .exact hO (e▸h3)
  .omega
def abR{Zr cap bytes:Nat}(h:cap<Zr)(hn:Zr<=4294967296)(hb:bytes<=256):lF Zr cap * bytes<=281474976710656:=by
 refine growslice_fits h ?_;have:Zr * bytes<=4294967296 * 256:=lP hn hb;omega
def aEa(z:Array Value)(n:Nat):(M1 z n).size=n * z.size:=by simp[M1]
def alJ(hP:P=B.P)(hH:Hs B β H w){b:Nat}(hb:H b=U){t u ty e:TypeId}{k:K}{d:TypeDesc}{v:Value}{ys:List (Tof k)}{news:List Value}(ht:P.underlying t=I (.slice e))(hu:P.underlying u=I d)(hd:d= .string\/ ∃e',d= .slice e')
  (hz:zok P e k=A0)(hc:P.cellsOf e=ks k)(hby:P.bytesOf e<=256)(hs:Src P w β k ys v news)(hr:ys.length<=4294967296):
  ∃u' w' β',(Lx #[t,u] ty #[.slice U 0 0,v]).run P w= .ok u' w'/\Hs B β' (upd H b<|I<|.row e A3 k ys) w'/\Kp w β w' β'/\RC w' β' (.own b) u':=by
 obtain⟨i,z,hi,hz',hzs,_⟩:=Xw hz;rw[WH hi]at hc;rw[ij hi]at hby;by_cases h0:ys=[]
 .subst h0;have CW:=gf (P:=P) (w:=w) (ty:=ty) (base:=U) (sLen:=0) (sCap:=0) (n:=0) (v:=v) (news:=news) (w':=w) ht hu hd hi hs.len (by rw[hc];exact hs.cells) J (λa h=>by cases h) (λ_=>rfl);obtain⟨β',h1,h2,h3⟩:=hH.grow (w':=w) hb (.row e A3 k []) (.slice U 0 0) 0 rfl rfl rfl (As _) (λ_ _=>rfl) (λa h=>by cases h) (λβ' hβ hk=>⟨_,hβ,.inl ⟨rfl,rfl⟩⟩);exact⟨_,_,β',CW,h1,h2,.own h3 rfl⟩
 .have oE:0<ys.length:=by cases ys with
   | nil=>exact absurd rfl h0
   | cons y l=>simp
  have CW:=xp (P:=P) (w:=w) (ty:=ty) (base:=U) (sLen:=0) (sCap:=0) (n:=ys.length) (v:=v) (news:=news) (olds:=[]) ht hu hd hi hz' hs.len (by rw[hc];exact hs.cells) J J (abR J J hby) (by simp[I8]);have hn:news.length=ys.length * ks k:=by rw[hs.rel.1,KO]
  rw[DF]at CW;have hge:=grownCap_ge w ys.length 0 e;have hm:=grownCap_le_maxLen w ys.length 0 e (Ca hr<|by decide);have hob:∀β',β' b=I (lK (I ⟨w.heap.size,0,U⟩) ys.length<|grownCap w ys.length 0 e,ys.length)->Kp w β (w.drew.alloc<|.cells (([]:List Value).toArray++news.toArray++M1 z.cells (grownCap w ys.length 0 e - ys.length)) e) β'->
    Dx B.P (w.drew.alloc<|.cells (([]:List Value).toArray++news.toArray++M1 z.cells (grownCap w ys.length 0 e - ys.length)) e) β' b (.row e A3 k ys):=by
   intro β' hβ hk;refine⟨_,hβ,.inr ⟨w.heap.size,0,_,_,_,rfl,heap_alloc_new w.drew _,rfl,hge,hm, ?_,λi x j c u a1 a2 a3=> ?_⟩⟩
   .simp only[Qg,aEa,hzs,Kn,hn,CA];rw[Yc];have:ys.length * ks k<=grownCap w ys.length 0 e * ks k:=Dv _ hge;omega
   .have hj:j<ks k:=by rw[← EE k x];exact(BL.1 a2).1
    have hi':i<ys.length:=(BL.1 a1).1;have hlt:i * ks k+j<news.length:=by rw[hn];exact OH hi' hj
    refine hk _ _<|QB hs.rel i x j c u a1 a2 ?_;rw[M0 (by simp;omega)]at a3;simpa using a3
  obtain⟨β',h1,h2,h3⟩:=hH.grow (w':=w.drew.alloc<|.cells (([]:List Value).toArray++news.toArray++M1 z.cells (grownCap w ys.length 0 e - ys.length)) e) hb (.row e A3 k ys) (.slice (I ⟨w.heap.size,0,U⟩) ys.length<|grownCap w ys.length 0 e) ys.length rfl rfl rfl (by simp)
   (λj hj=>heap_alloc_old w.drew _ hj) (λa ha=>by cases ha;simp) hob
  exact⟨_,_,β',CW,h1,h2,.own h3 rfl⟩
def alI(hP:P=B.P)(hH:Hs B β H w){id:Nat}{t u ty e:TypeId}{k:K}{d:TypeDesc}{v hd:Value}{xs ys:List (Tof k)}{news:List Value}(hid:H id=I (.row e A3 k xs))(hb:RC w β (.own id) hd)
  (ht:P.underlying t=I (.slice e))(hu:P.underlying u=I d)(hd':d= .string\/ ∃e',d= .slice e')
  (hz:zok P e k=A0)(hc:P.cellsOf e=ks k)(hby:P.bytesOf e<=256)(hs:Src P w β k ys v news)(hr:xs.length+ys.length<=4294967296):
  ∃u' w' β',(Lx #[t,u] ty #[hd,v]).run P w= .ok u' w'/\Hs B β' (upd (λj=>CD (kl1 id)<|H j) id<|I<|.row e A3 k<|xs++ys) w'/\Kf (kl1 id) w β w' β'/\RC w' β' (.own id) u':=by
 obtain⟨i,z,hi,hz',hzs,_⟩:=Xw hz;rw[WH hi]at hc;rw[ij hi]at hby;obtain⟨hd0,k1,k2⟩:=hH.EA id _ hid;cases hb with
 | own k3 k4=>
 rw[k1]at k3;cases k3;have hn:news.length=ys.length * ks k:=by rw[hs.rel.1,KO]
 have hkp:=Ht k;have grow:∀(base:Option Addr) (cap:Nat) (olds:List Value),hd= .slice base xs.length cap->cap<xs.length+ys.length->RL (RC w β) (xs.flatMap<|enc k) olds->
   (I8 i.size xs.length<|.slice base xs.length cap).run P w.drew= .ok olds.toArray w.drew->
   ∃u' w' β',(Lx #[t,u] ty #[hd,v]).run P w= .ok u' w'/\Hs B β' (upd (λj=>CD (kl1 id)<|H j) id<|I<|.row e A3 k<|xs++ys) w'/\Kf (kl1 id) w β w' β'/\RC w' β' (.own id) u':=by
  intro base cap olds he Hh hold hfc;have CW:=xp (P:=P) (w:=w) (ty:=ty) (base:=base) (sLen:=xs.length) (sCap:=cap) (n:=ys.length) (v:=v) (news:=news) (olds:=olds) ht hu hd' hi hz' hs.len (by rw[hc];exact hs.cells) Hh J (abR Hh hr hby) hfc;have hge:=grownCap_ge w (xs.length+ys.length) cap e;have hm:=grownCap_le_maxLen w (xs.length+ys.length) cap e (Ca hr<|by decide);have ho:olds.length=xs.length * ks k:=by rw[hold.1,KO]
  have DT:RL (RC w β) ((xs++ys).flatMap<|enc k) (olds++news):=by rw[lX];exact hold.append hs.rel
  have hob:∀β',β' id=I (lK (I ⟨w.heap.size,0,U⟩) (xs.length+ys.length)<|grownCap w (xs.length+ys.length) cap e,xs.length+ys.length)->Kf (kl1 id) w β (w.drew.alloc<|.cells (olds.toArray++news.toArray++M1 z.cells (grownCap w (xs.length+ys.length) cap e - (xs.length+ys.length))) e) β'->
    Dx B.P (w.drew.alloc<|.cells (olds.toArray++news.toArray++M1 z.cells (grownCap w (xs.length+ys.length) cap e - (xs.length+ys.length))) e) β' id (.row e A3 k<|xs++ys):=by
   intro β' hβ hk;refine⟨_,by rw[hβ,Ar],.inr ⟨w.heap.size,0,_,_,_,by rw[Ar],heap_alloc_new w.drew _,rfl,by rw[Ar];exact hge,hm, ?_,λi x j c u a1 a2 a3=> ?_⟩⟩
   .simp only[Qg,aEa,hzs,Kn,hn,ho];rw[Yc];have h1:(xs.length+ys.length) * ks k<=grownCap w (xs.length+ys.length) cap e * ks k:=Dv _ hge;rw[E8]at h1 ⊢;omega
   .have hj:j<ks k:=by rw[← EE k x];exact(BL.1 a2).1
    have hi':i<xs.length+ys.length:=by have:=(BL.1 a1).1;simpa using this
    have hlt:i * ks k+j<(xs.length+ys.length) * ks k:=OH hi' hj;rw[E8]at hlt;have h2:=hk _ _ (QB DT i x j c u a1 a2 (by
     rw[M0 (by simp;omega)]at a3;simpa using a3))
    rwa[Iu id c<|IM k x a2]at h2
  obtain⟨β',h1,h2,h3⟩:=hH.Zm (hpk:=Pk.old λj hj=>by first|exact heap_alloc_old w.drew _ hj|exact heap_alloc_old w.drew _ _ hj) (w':=w.drew.alloc<|.cells (olds.toArray++news.toArray++M1 z.cells (grownCap w (xs.length+ys.length) cap e - (xs.length+ys.length))) e) k1 (.row e A3 k<|xs++ys) (.slice (I ⟨w.heap.size,0,U⟩) (xs.length+ys.length)<|grownCap w (xs.length+ys.length) cap e) (xs.length+ys.length) rfl rfl rfl (by simp)
   (λj hj _=>heap_alloc_old w.drew _ hj) (λa ha=>by cases ha;right;simp) hob
  exact⟨_,_,β',by rw[he];exact CW,h1,h2,.own h3 rfl⟩
 obtain⟨rfl,rfl⟩|⟨b,f,cap,us,fr,rfl,hh,hfr,hnc,hcm,hsz,Ck⟩:=k2
 .by_cases h0:ys=[]
  .subst h0;have CW:=gf (P:=P) (w:=w) (ty:=ty) (base:=U) (sLen:=0) (sCap:=0) (n:=0) (v:=v) (news:=news) (w':=w) ht hu hd' hi hs.len (by rw[hc];exact hs.cells) J (λa h=>by cases h) (λ_=>rfl);obtain⟨β',h1,h2,h3⟩:=hH.Zm (hpk:=Pk.refl _ _) (w':=w) k1 (.row e A3 k<|[]++[]) (.slice U 0 0) 0 rfl rfl rfl (As _) (λ_ _ _=>rfl) (λa h=>by cases h) (λβ' hβ hk=>⟨_,hβ,.inl ⟨rfl,rfl⟩⟩);exact⟨_,_,β',CW,h1,h2,.own h3 rfl⟩
  .have oE:0<ys.length:=by cases ys with
    | nil=>exact absurd rfl h0
    | cons y l=>simp
   exact grow U 0 [] rfl (by simp;omega) RL.nil (by simp[I8])
 .have hsl:ML w β k xs (.slice (I ⟨b,f,U⟩) xs.length cap):=FL.cells (e:=e) (fz:=false)<|.inr ⟨b,f,cap,us,fr,rfl,hh,hfr,hnc,hcm,hsz,Ck⟩;by_cases LG:xs.length+ys.length<=cap
  .have Hh:(xs.length+ys.length) * ks k<=cap * ks k:=Dv _ LG;rw[E8]at Hh;have D6:∀u∈news,u.oneCell'=A0:=hs.rel.one;have hst:=Wt (P:=P) b (f+xs.length * ks k) e fr news 0 us w hh (by rw[hn];omega) (.inl (by rw[hfr];rfl)) D6;simp only[HP]at hst;have CW:=gf (P:=P) (w:=w) (ty:=ty) (base:=I ⟨b,f,U⟩) (sLen:=xs.length) (sCap:=cap) (n:=ys.length) (v:=v) (news:=news) ht hu hd' hi hs.len (by rw[hc];exact hs.cells) LG
    (λa h=>by cases h;rw[hc,GX];exact hst) (λh=>by cases h)
   have hob:∀β',β' id=I (lK (I ⟨b,f,U⟩) (xs.length+ys.length) cap,xs.length+ys.length)->Kf (kl1 id) w β (w.setRow b (us.toList.take (f+xs.length * ks k)++news++us.toList.drop (f+xs.length * ks k+news.length)).toArray) β'->
     Dx B.P (w.setRow b (us.toList.take (f+xs.length * ks k)++news++us.toList.drop (f+xs.length * ks k+news.length)).toArray) β' id (.row e A3 k<|xs++ys):=by
    intro β' hβ hk;have F2:(us.toList.take (f+xs.length * ks k)++news++us.toList.drop (f+xs.length * ks k+news.length)).toArray.size=us.size:=by
     simp only[Kn,Ar,Cw,E4,Ep];omega
    refine⟨_,by rw[hβ,Ar],.inr ⟨b,f,cap,_,fr,by rw[Ar],setRow_heap w b us _ e _ hh,by rw[hfr];rfl,by rw[Ar];exact LG,hcm,by rw[F2];exact hsz,λi x j c u a1 a2 a3=> ?_⟩⟩;have hj:j<ks k:=by rw[← EE k x];exact(BL.1 a2).1
    have hi':i<xs.length+ys.length:=by have:=(BL.1 a1).1;simpa using this
    have a3':(us.toList.take (f+xs.length * ks k)++news++us.toList.drop (f+xs.length * ks k+news.length))[f+(i * ks k+j)]? =I u:=by simpa using a3
    have hsp:f+xs.length * ks k+news.length<=us.toList.length   :=by
     have:us.toList.length=us.size:=Ep;rw[hn];omega
    rw[YE _ _ _ hsp]at a3';have h2:RC w β c u:=by
     by_cases hx:i<xs.length
     .have h3:=OH hx hj;rw[AD J]at a3';rw[I9 hx]at a1;exact Ck i x j c u a1 a2 (by simpa using a3')
     .have h3:xs.length * ks k<=i * ks k:=Dv _ J;have h4:i * ks k+j<(xs.length+ys.length) * ks k:=OH hi' hj;rw[E8]at h4;rw[A8 J]at a3';rw[FG J]at a1;refine QB hs.rel (i - xs.length) x j c u a1 a2 ?_;rw[← a3',Yc];congr 1;omega
    have h5:=hk _ _ h2;rwa[Iu id c<|IM k x a2]at h5
   obtain⟨β',h1,h2,h3⟩:=hH.Zm (hpk:=Pk.setRow hh λhn=>by rw[← hP,atW hz]at hn;cases hn) (w':=w.setRow b (us.toList.take (f+xs.length * ks k)++news++us.toList.drop (f+xs.length * ks k+news.length)).toArray) k1 (.row e A3 k<|xs++ys) (.slice (I ⟨b,f,U⟩) (xs.length+ys.length) cap) (xs.length+ys.length) rfl rfl rfl (by simp)
    (λj hj hne=>setRow_other w b j _ λe=>hne _ rfl e) (λa ha=>by cases ha;exact .inl ⟨_,rfl,rfl⟩) hob
   exact⟨_,_,β',CW,h1,h2,.own h3 rfl⟩
  .rcases hsl.cellsOf with⟨a,aC,rfl,he⟩|⟨b',f',aC,us',he,_,EB,hcl⟩
   .cases he;exact grow (I ⟨b,f,U⟩) cap [] rfl J RL.nil (by simp[I8,loadCells,loadCellsFrom])
   .cases he;exact grow (I ⟨b,f,U⟩) cap us' rfl J EB (run_firstCells_some w.drew i.size _ ⟨b,f,U⟩ _ cap us' (by rw[hc,EB.1,KO]) (λj u hj=>by rw[GX];exact hcl j u hj))
end
end Go.VS
namespace Go.VS
open Go
section
variable {P:Program} {B:Ba} {β β':Beta} {H:Hp} {stk:List (Array Value)} {s:S} {a:Act} {w w':World} {kd:TypeId->Option K}
def aBp{k:K}{c:AV}{ys:List (Tof k)}(h:Js H k c=I ys):∀g w x,c≠ .gd g w x:=by
 intro g w x e;subst e;simp[Js,C7]at h
def avl(s:S)(id:Nat)(ob:Option Ob):s.E9 id ob={ s with H:=upd s.H id ob } :=rfl
def aqY(hP:P=B.P)(h:St B β stk s a w){b:Nat}(hb:s.H b=U){t u ty:TypeId}{x y:Operand}{q:Bool}{v:AV}{s':S}(hs:KZ P kd t u s b (s.ev x) (s.ev y)=I (q,v,s'))(hq:q=A0):
  ∃u' w' β',(Lx #[t,u] ty #[a.eval x,a.eval y]).run P w= .ok u' w'/\St B β' stk s' a w'/\R2 w' β' v u'/\s'.gs=s.gs/\s'.n=s.n/\s'.pins=s.pins:=by
 subst hq;unfold KZ at hs;cases he:IP P t with
 | none=>rw[he]at hs;cases hs
 | some e=>
 rw[he]at hs;simp only[A9]at hs;cases hk:kd e with
 | none=>rw[hk]at hs;cases hs
 | some k=>
 rw[hk]at hs;simp only[A9]at hs;cases hy:Js s.H k (s.ev y) with
 | none=>rw[hy]at hs;cases hs
 | some ys=>
 rw[hy]at hs;simp only[A9]at hs;have hy2:R2 w β (s.ev y) (a.eval y):=(h.eval y).of<|aBp hy;obtain⟨news,K7⟩:=aDB (P:=P) h.hs hy hy2;have ht:=dp he;have conds:∀c:Bool,(Ag (P.cellsOf e) (ks k)&&Dp (P.bytesOf e) 256&&zok P e k&&c)=A0->P.cellsOf e=ks k/\P.bytesOf e<=256/\zok P e k=A0/\c=A0:=by
  intro c hc;simp only[AE]at hc;exact⟨Bk hc.1.1.1,DX hc.1.1.2,hc.1.2,hc.2⟩
 have ud:(match P.underlying u with|some .string=>A0|some (.slice _)=>A0|_=>A3)=A0->∃d,P.underlying u=I d/\(d= .string\/ ∃e',d= .slice e'):=by
  intro hc;split at hc
  .rename_i hu;exact⟨_,hu,.inl rfl⟩
  .rename_i e' hu;exact⟨_,hu,.inr ⟨e',rfl⟩⟩
  .cases hc
 have hx:=h.eval x;split at hs
 .rename_i cx hc hcx;rw[hcx]at hx;obtain⟨c1,c2,c3,c4⟩:=conds _ hc;obtain⟨d,hu,hd⟩:=ud c4;simp only[Bp,CG]at hs;obtain⟨hr,rfl,rfl⟩:=hs;simp only[Ac,decide_eq_true_eq]at hr;obtain⟨u',w',β',g1,g2,g3,g4⟩:=alJ (ty:=ty) hP h.hs hb ht hu hd c3 c1 c2 K7 hr;rw[hx.lit];exact⟨u',w',β',g1,h.keep g3 g2,g4,rfl,rfl,rfl⟩
 .rename_i cx id hc hcx;rw[hcx]at hx;have hx:RC w β (.own id) (a.eval x):=hx;obtain⟨c1,c2,c3,c4⟩:=conds _ hc;obtain⟨d,hu,hd⟩:=ud c4;split at hs
  .rename_i e' k' xs hid hne;split at hs
   .rename_i hee;obtain rfl:=Bk hee;cases Zk:IY k' k xs with
    | none=>rw[Zk]at hs;cases hs
    | some xs'=>
     rw[Zk]at hs;obtain⟨ek,rfl⟩:=Hn Zk;subst ek;simp only[A9,Bp,CG]at hs;obtain⟨hr,rfl,rfl⟩:=hs;simp only[Ac,decide_eq_true_eq]at hr;obtain⟨u',w',β',g1,g2,g3,g4⟩:=alI (ty:=ty) hP h.hs hid hx ht hu hd c3 c1 c2 K7 hr;exact⟨u',w',β',g1,h.map (Iu id) (Ok id) g3 g2,g4,rfl,rfl,rfl⟩
   .cases hs
  .cases hs
 .cases hs
def asZ(hP:P=B.P)(h:St B β stk s a w){t u ty:TypeId}{x y:Operand}{v:AV}{s':S}(hs:Kk P t s (s.ev x) (s.ev y)=I (v,s')):
  ∃u' w' β',(lV #[t,u] ty #[a.eval x,a.eval y]).run P w= .ok u' w'/\St B β' stk s' a w'/\R2 w' β' v u'/\s'.gs=s.gs/\s'.n=s.n/\s'.pins=s.pins:=by
 unfold Kk at hs;have hx:=h.eval x;split at hs
 .rename_i cx id hcx;rw[hcx]at hx;have hx:RC w β (.own id) (a.eval x):=hx;split at hs
  .rename_i e fz k xs hid hne;cases he:IP P t with
   | none=>rw[he]at hs;cases hs
   | some e'=>
    rw[he]at hs;simp only[A9]at hs;split at hs
    .rename_i hc;have hc:=Bk hc;cases hy:Js s.H k (s.ev y) with
     | none=>rw[hy]at hs;cases hs
     | some ys=>
      rw[hy]at hs;simp only[A9,Bp,CG]at hs;obtain⟨rfl,rfl⟩:=hs;have hy2:R2 w β (s.ev y) (a.eval y):=(h.eval y).of<|aBp hy;obtain⟨news,K7⟩:=aDB (P:=P) h.hs hy hy2;have ht:=dp he;have hk:=Ht k;have hn:news.length=ys.length * ks k:=by rw[K7.rel.1,KO]
      obtain⟨hd,k1,k2⟩:=h.hs.EA id _ hid;generalize hg:a.eval x=vx at hx;cases hx with
      | own k3 k4=>
      rw[k1]at k3;cases k3;have hfc:=K7.nR (Et ys.length xs.length)<|Nat.min_le_left _ _;have hlen:=K7.len w;obtain⟨rfl,rfl⟩|⟨b,f,cap,us,fr,rfl,hh,hfr,hnc,hcm,hsz,Ck⟩:=k2
      .refine⟨.int .i64 (Et ys.length 0:Nat),w,β, ?_, ?_,rfl,rfl,rfl,rfl⟩
       .have hfc:=K7.nR 0<|Cu _;simp[lV,run_underlying ht,hlen,KU (P:=P) (w:=w) (t:=e') J,hc,hfc,goInt]
       .have:s.E9 id (I<|.row e fz k<|ys.take ([]:List (Tof k)).length++([]:List (Tof k)).drop ys.length)=s:=by
         simp only[CA,List.take_zero,List.drop_nil,CM,avl];rw[← hid];have:upd s.H id (s.H id)=s.H:=funext λj=>by
          by_cases e:j=id
          .subst e;rw[Bf]
          .rw[BB _ _ e]
         rw[this]
        rw[this];exact h
      .have oG:Et ys.length xs.length<=xs.length:=Nat.min_le_right _ _;have ayW:Et ys.length xs.length<=ys.length:=Nat.min_le_left _ _;have h1:Et ys.length xs.length * ks k<=xs.length * ks k:=Dv _ oG;have h2:xs.length * ks k<=cap * ks k:=Dv _ hnc;have h3:Et ys.length xs.length * ks k<=ys.length * ks k:=Dv _ ayW;have D6:∀u∈news.take (Et ys.length xs.length * ks k),u.oneCell'=A0:=λu hu=>K7.rel.one u<|Gx hu;have htl:(news.take<|Et ys.length xs.length * ks k).length=Et ys.length xs.length * ks k:=by rw[Cw,hn];omega
       have hst:=Wt (P:=P) b f e fr (news.take<|Et ys.length xs.length * ks k) 0 us w hh (by rw[htl];omega) (by
        subst hfr;cases fz
        .exact .inl rfl
        .exact .inr<|As _) D6
       simp only[HP]at hst;obtain⟨g1,g2⟩:=h.hs.setRow (hpk:=Pk.setRow hh λ_ a' hu=>by
        have hus:us.toList.length=us.size:=Ep;refine XZ (ys:=news.take<|Et ys.length xs.length * ks k) (by rw[htl];omega) (by simpa using hu) λe1 e2=>kU Ck (λe3=>e2 ?_) e1 hu;subst e3;exact E6 (by rw[htl];simp)) k1 rfl (us.toList.take f++news.take (Et ys.length xs.length * ks k)++us.toList.drop (f+(news.take<|Et ys.length xs.length * ks k).length)).toArray (.row e fz k<|ys.take xs.length++xs.drop ys.length) (λhkp=>by
        have F2:(us.toList.take f++news.take (Et ys.length xs.length * ks k)++us.toList.drop (f+(news.take<|Et ys.length xs.length * ks k).length)).toArray.size=us.size:=by
         simp only[Kn,Ar,E4,htl,Cw,Ep]at *;omega
        have hll:(ys.take xs.length++xs.drop ys.length).length=xs.length:=by simp;omega
        refine⟨_,by rw[k1,hll],.inr ⟨b,f,cap,_,fr,by rw[hll],setRow_heap w b us _ e _ hh,by rw[F2];exact hfr,by rw[hll];exact hnc,hcm,by rw[F2];exact hsz,λi x j c u a1 a2 a3=> ?_⟩⟩;have hj:j<ks k:=by rw[← EE k x];exact(BL.1 a2).1
        have hi':i<xs.length:=by have:=(BL.1 a1).1;rwa[hll]at this
        have a3':(us.toList.take f++news.take (Et ys.length xs.length * ks k)++us.toList.drop (f+(news.take<|Et ys.length xs.length * ks k).length))[f+(i * ks k+j)]? =I u:=by simpa using a3
        have hsp:f+(news.take<|Et ys.length xs.length * ks k).length<=us.toList.length:=by
         have:us.toList.length=us.size:=Ep;rw[htl];omega
        rw[YE _ _ _ hsp,htl]at a3';refine hkp _ _ ?_;by_cases hy':i<ys.length
        .have hm:i<Et ys.length xs.length:=Nat.lt_min.2 ⟨hy',hi'⟩;have hm2:=OH hm hj;rw[A8 J,GZ,A8 J]at a3';rw[I9 (by simp;omega),GZ,A8 hi']at a1;refine QB K7.rel i x j c u a1 a2 ?_;rw[← a3'];congr 1;omega
        .have hm:Et ys.length xs.length=ys.length:=Qh J;have hm2:ys.length * ks k<=i * ks k:=Dv _ J;rw[hm]at a3';rw[AD J]at a3';have e1:(ys.take xs.length).length=ys.length:=by simp;omega
         rw[FG J,e1,Ha]at a1;have a1':xs[i]? =I x:=by rw[← a1];congr 1;omega
         exact Ck i x j c u a1' a2<|by simpa using a3')
       refine⟨.int .i64 (Et ys.length xs.length:Nat),_,β, ?_,h.keep g2 g1,rfl,rfl,rfl,rfl⟩;simp only[lV,TS,Yg,aBP,Ea,run_underlying ht,Eo,hlen,KU (P:=P) (w:=w) (t:=e') J,hc,hfc,FV,hst,goInt]
    .cases hs
  .cases hs
 .cases hs
def FL.cut{e:TypeId}{fz:Bool}{k:K}{xs ys:List (Tof k)}{bb f cap l h:Nat}(hy:ys=(xs.take h).drop l)(hlh:l<=h)(hh:h<=xs.length)(hx:FL w β e fz k xs (.slice (I ⟨bb,f,U⟩) xs.length cap)):
  FL w β e fz k ys (.slice (if cap=l then I ⟨bb,f,U⟩ else I ⟨bb,f+l * ks k,U⟩) (h - l)<|cap - l):=by
 obtain⟨h1,_⟩|⟨b',f',aC,us,fr,h1,hhp,hfr,hnc,hcm,hsz,Ck⟩:=hx
 .cases h1
 .cases h1;have hyl:ys.length=h - l:=by subst hy;simp;omega
  by_cases he:cap=l
  .rw[A8 he];obtain rfl:ys=[]:=E6 J;refine .inr ⟨bb,f,cap - l,us,fr,by rw[hyl],hhp,hfr,by simp,J, ?_,λi x j c u a1=>by simp at a1⟩;have:(cap - l) * ks k<=cap * ks k:=Dv _ J;omega
  .rw[AD he];refine .inr ⟨bb,f+l * ks k,cap - l,us,fr,by rw[hyl],hhp,hfr,J,J, ?_,λi x j c u a1 a2 a3=> ?_⟩
   .have:(cap - l) * ks k=cap * ks k - l * ks k:=Yc _ _ _;have:l * ks k<=cap * ks k:=Dv _ J;omega
   .subst hy;rw[Ha,GZ]at a1;split at a1
    .refine Ck (l+i) x j c u a1 a2 ?_;rw[← a3,E8];congr 1;omega
    .cases a1
def aoG(h:St B β stk s a w){id:Nat}{x:Operand}{t:TypeId}{lo hi:Option Operand}{z:Bool}(hx:s.ev x= .own id)(hf:Iv P s.H t (.own id)=A0){q:Bool}{v:AV}{s':S}
  (hs:KT s id z (lo.map s.ev) (hi.map s.ev)=I (q,v,s'))(hq:q=A0):
  ∃u' β',(QR t (a.eval x) (lo.map a.eval) (hi.map a.eval) U).run P w= .ok u' w/\St B β' stk s' a w/\R2 w β' v u'/\s'.gs=s.gs/\s'.n=s.n/\s'.pins=s.pins:=by
 subst hq;have hxv:=h.eval x;rw[hx]at hxv;have hxv:RC w β (.own id) (a.eval x):=hxv;unfold KT at hs;split at hs
 .rename_i e fz k xs hid;obtain⟨e',hu,hk⟩:∃e',P.underlying t=I (.slice e')/\P.cellsOf e'=ks k:=by
   unfold Iv at hf;split at hf<;>simp_all
  have hkp:=Ht k;obtain⟨hd,k1,k2⟩:=h.hs.EA id _ hid;obtain⟨a0,cap,hv,Hh⟩:=k2.cells.len;have DH:a.eval x=hd:=by
   generalize a.eval x=vx at hxv;cases hxv with
   | own k3 k4=>rw[k1]at k3;cases k3;rfl
  cases hc:JF (lo.map s.ev) (hi.map s.ev) xs.length with
  | none=>rw[hc]at hs;cases hs
  | some r=>
   obtain⟨c,l,hh⟩:=r;rw[hc]at hs;simp only[A9]at hs;have main:c=A0->∃bs,(QR t (a.eval x) (lo.map a.eval) (hi.map a.eval) U).run P w= .ok bs w/\0<=l/\l<=hh/\hh<=(xs.length:Int)/\bs= .slice (if cap=l.toNat then a0 else a0.map (·.add (l.toNat * ks k))) (hh.toNat - l.toNat) (cap - l.toNat):=by
    intro hct;subst hct;obtain⟨hb,g1,g2,g3⟩:=Wa (P:=P) (w:=w) (β:=β) (tm:=BY a) h.eval hc A0 Hh;refine⟨_, ?_,g1,g2,g3,rfl⟩;rw[DH,hv,iu hu J hb,hk]
   have acF:c=A0->Ia (lo.map s.ev) (hi.map s.ev) l hh xs=(xs.take hh.toNat).drop l.toNat:=by
    intro hct;subst hct;exact mN hc
   split at hs
   .simp only[Bp,CG]at hs;obtain⟨hct,rfl,rfl⟩:=hs;obtain⟨bs,CW,g1,g2,g3,hbs⟩:=main hct;have hys:=acF hct;have hlen:(Ia (lo.map s.ev) (hi.map s.ev) l hh xs).length=hh.toNat - l.toNat:=by rw[hys];simp;omega
    have azf:R0 bs=A0:=by rw[hbs];rfl
    obtain⟨β',q1,q2,q3⟩:=h.hs.Zm (hpk:=Pk.refl _ _) (w':=w) k1 (.row e fz k<|Ia (lo.map s.ev) (hi.map s.ev) l hh xs) bs (hh.toNat - l.toNat) rfl rfl rfl (As _) (λ_ _ _=>rfl) (λa' ha'=>by
      left;rw[hbs]at ha';cases a0 with
      | none=>exfalso;split at ha'<;>cases ha'
      | some aa=>
       refine⟨aa,by rw[hv];rfl, ?_⟩;split at ha'
       .cases ha';rfl
       .cases ha';obtain⟨e1,_⟩|⟨b',f',aC,us,fr,e1,_⟩:=k2
        .rw[hv]at e1;cases e1
        .rw[hv]at e1;simp only[Value.slice.injEq,Bp]at e1;obtain⟨rfl,_⟩:=e1;simp[GX])
     (λβ' hβ hkf=>by
      refine⟨bs,by rw[hβ,hlen], ?_⟩;rw[hbs];obtain⟨e1,e2⟩|⟨b',f',aC,us,fr,e1,hhp,hfr,hnc,hcm,hsz,Ck⟩:=k2
      .rw[hv]at e1;simp only[Value.slice.injEq]at e1;obtain⟨rfl,_,rfl⟩:=e1;subst e2;refine .inl ⟨?_,by rw[hys];simp⟩;have:hh.toNat=0:=by simp at g3;omega
       have:l.toNat=0:=J
       simp[*]
      .rw[hv]at e1;cases e1;have ayH:FL w β' e fz k xs (.slice (I ⟨b',f',U⟩) xs.length cap):= .inr ⟨b',f',cap,us,fr,rfl,hhp,hfr,hnc,hcm,hsz,λi x j c u a1 a2 a3=>by
        have:=hkf _ _<|Ck i x j c u a1 a2 a3;rwa[Iu id c<|IM k x a2]at this⟩
       have:=ayH.cut (l:=l.toNat) (h:=hh.toNat) hys J J;simpa[GX] using this)
    refine⟨bs,β',CW,h.map (Iu id) (Ok id) q2 q1, ?_,rfl,rfl,rfl⟩;exact RC.own q3 azf
   .cases hs
   .simp only[Bp,CG]at hs;obtain⟨hct,rfl,rfl⟩:=hs;obtain⟨bs,CW,g1,g2,g3,hbs⟩:=main hct;have hys:=acF hct;obtain⟨β',q1,q2⟩:=h.abW id;have hsl:=q2.fr id _ e fz k xs (by simp) hid hxv;refine⟨bs,β',CW,q1, ?_, ?_, ?_, ?_⟩
    .show RC w β' (.sl k _) bs;rw[DH,hv]at hsl;rw[hbs];by_cases hxs:xs=[]
     .subst hxs;have e1:hh.toNat - l.toNat=0:=by simp at g3;omega
      rw[e1,hys];simp only[List.take_nil,List.drop_nil];exact .nil
     .have ha:∃bb f,a0=I ⟨bb,f,U⟩:=by
       cases hsl with
       | nil=>exact absurd rfl hxs
       | sl=>exact⟨_,_,rfl⟩
      obtain⟨bb,f,rfl⟩:=ha;have:=RC.cut (l:=l.toNat) (h:=hh.toNat) hys J J hsl Hh;simpa[GX] using this
    .simp only[S.freeze,hid];rfl
    .simp only[S.freeze,hid];rfl
    .simp only[S.freeze,hid];rfl
 .cases hs
end
end Go.VS
namespace Go.VS
open Go
section
variable {B:Ba} {β β':Beta} {H:Hp} {stk:List (Array Value)} {s s':S} {a:Act} {w w':World} {C:Cx}
def Jq(B:Ba)(stk:List (Array Value))(a:Act)(d:Option Nat)(s':S)(K:Act->World->Prop):Prop:=∀β' u w',St B β' stk s' (a.put d u) w'->K (a.put d u) w'
def Wh{o:Oper}{K:Act->World->Prop}{Q:Exit->Act->World->Prop}{u:Value}(h:(execOp a.eval o).run B.P w= .ok (.value u) w')(hk:K (a.put o.dst u) w'):o.wp B.P a w K Q:=by
 unfold Oper.wp;rw[h];exact hk
def ath(h:St B β stk s a w){b:Nat}{v:AV}{os:List Ob}{o:Oper}(hd:s.has o.dst=A0)(hg:Good B β s.H w b v os ((execOp a.eval o).run B.P w)){K:Act->World->Prop}{Q:Exit->Act->World->Prop}
  (hK:Jq B stk a o.dst ({ s with H:=Ef s.H b os }.put o.dst v) K):o.wp B.P a w K Q:=by
 obtain⟨u,w',β',h1,h2,h3,h4⟩:=hg;refine Wh h1<|hK β' _ _ ?_;have h5:=h.keep h3 h2;refine h5.put hd (RT.H6 h4) (λg want x e=> ?_);rw[e]at h4;exact absurd h4<|by simp[R2,R1]
def QN(h:St B β stk s a w){d:Option Nat}(hd:s.has d=A0){v:AV}{u:Value}(hv:R2 w β v u):St B β stk (s.put d v) (a.put d u) w:=
 h.put hd (RT.H6 hv) (λg want x e=>by rw[e]at hv;exact absurd hv<|by simp[R2,R1])
def QP{s s':S}(h1:s'.gs=s.gs)(h2:s'.n=s.n)(h3:s'.pins=s.pins)(d:Option Nat):s'.has d=s.has d:=by
 cases d with
 | none=>rfl
 | some d=>simp only[S.has,h1,h2,h3]
def aCX(hP:C.P=B.P)(h:St B β stk s a w){b:Nat}(hb:s.H b=U){o:Oper}(hd:s.has o.dst=A0){K:Act->World->Prop}{Q:Exit->Act->World->Prop}
  (he:(match C5 C.P C.kd s.ev s.H b o.op with
   | some (q,v,os)=>if q then I ({ s with H:=Ef s.H b os }.put o.dst v) else U
   | none=>U)=I s')(hK:Jq B stk a o.dst s' K):o.wp B.P a w K Q:=by
 split at he
 .rename_i q v os hp;split at he
  .rename_i hq;cases he;have hg:=arh (P:=C.P) hP h.eval (λ_=>rfl) (λ_=>rfl) h.hs hb hp hq;rw[hP]at hg;exact ath h hd hg hK
  .cases he
 .cases he
def ff:∀(ids:List Nat) (s:S),(ids.foldl S.freeze s).gs=s.gs/\(ids.foldl S.freeze s).n=s.n/\(ids.foldl S.freeze s).pins=s.pins/\(ids.foldl S.freeze s).nid=s.nid
 | [],s=>⟨rfl,rfl,rfl,rfl⟩
 | i::ids,s=>by
  obtain⟨h1,h2,h3,h4⟩:=ff ids<|s.freeze i;have:(s.freeze i).gs=s.gs/\(s.freeze i).n=s.n/\(s.freeze i).pins=s.pins/\(s.freeze i).nid=s.nid:=by
   unfold S.freeze;split<;>exact⟨rfl,rfl,rfl,rfl⟩
  exact⟨h1.trans this.1,h2.trans this.2.1,h3.trans this.2.2.1,h4.trans this.2.2.2⟩
def apU{P:Program}{t:TypeId}{x y:AV}(h:IS P t s x y=I s'):s'.gs=s.gs/\s'.n=s.n/\s'.pins=s.pins:=by
 unfold IS at h;split at h
 .split at h
  .split at h
   .obtain⟨ys,hc,h⟩:=Aj.1 h;split at h<;>cases h;exact⟨rfl,rfl,rfl⟩
   .cases h
  .obtain⟨ys,hc,h⟩:=Aj.1 h;split at h
   .obtain⟨z,hz,h⟩:=Aj.1 h;cases h;obtain⟨h1,h2,h3,_⟩:=ff (ys.filterMap Gq) s;exact⟨h1,h2,h3⟩
   .cases h
  .obtain⟨ys,hc,h⟩:=Aj.1 h;split at h
   .obtain⟨z,hz,h⟩:=Aj.1 h;cases h;exact⟨rfl,rfl,rfl⟩
   .cases h
  .cases h
 .cases h
def aqD(hP:C.P=B.P)(h:St B β stk s a w){o:Oper}(hd:s.has o.dst=A0){t:TypeId}{p x:Operand}(ho:o.op= .store t p x){s1:S}(hs:IS C.P t s (s.ev p) (s.ev x)=I s1){K:Act->World->Prop}{Q:Exit->Act->World->Prop}
  (hK:Jq B stk a o.dst (s1.put o.dst Dk) K):o.wp B.P a w K Q:=by
 obtain⟨w',β',h1,h2⟩:=aqE hP h hs;obtain⟨e1,e2,e3⟩:=apU hs;rw[hP]at h1;unfold Oper.wp execOp;rw[ho];simp only[Ea,h1,Eo,FV];exact hK β' _ _<|QN h2 (by rw[QP e1 e2 e3];exact hd) rfl
def aqX(hP:C.P=B.P)(h:St B β stk s a w){b:Nat}(hb:s.H b=U){o:Oper}(hd:s.has o.dst=A0){x y:Operand}{t u:TypeId}(ho:o.op= .call { callee:= .builtin .append,args:= #[x,y],argTypes:= #[t,u] })
  {v:AV}{s1:S}(hs:KZ C.P C.kd t u s b (s.ev x) (s.ev y)=I (A0,v,s1)){K:Act->World->Prop}{Q:Exit->Act->World->Prop}(hK:Jq B stk a o.dst (s1.put o.dst v) K):o.wp B.P a w K Q:=by
 obtain⟨u',w',β',h1,h2,h3,e1,e2,e3⟩:=aqY (ty:=o.type) hP h hb hs rfl;rw[hP]at h1;refine Wh (u:=u') (w':=w') ?_ (hK β' _ _<|QN h2 (by rw[QP e1 e2 e3];exact hd) h3);unfold execOp;rw[ho];simp[resolve,invoke,builtin,h1]
def asY(hP:C.P=B.P)(h:St B β stk s a w){o:Oper}(hd:s.has o.dst=A0){x y:Operand}{t u:TypeId}(ho:o.op= .call { callee:= .builtin .copy,args:= #[x,y],argTypes:= #[t,u] })
  {v:AV}{s1:S}(hs:Kk C.P t s (s.ev x) (s.ev y)=I (v,s1)){K:Act->World->Prop}{Q:Exit->Act->World->Prop}(hK:Jq B stk a o.dst (s1.put o.dst v) K):o.wp B.P a w K Q:=by
 obtain⟨u',w',β',h1,h2,h3,e1,e2,e3⟩:=asZ (u:=u) (ty:=o.type) hP h hs;rw[hP]at h1;refine Wh (u:=u') (w':=w') ?_ (hK β' _ _<|QN h2 (by rw[QP e1 e2 e3];exact hd) h3);unfold execOp;rw[ho];simp[resolve,invoke,builtin,h1]
def aq5(hP:C.P=B.P)(h:St B β stk s a w){o:Oper}(hd:s.has o.dst=A0){t:TypeId}{x:Operand}{lo hi:Option Operand}(ho:o.op= .slice t x lo hi U){id:Nat}(hx:s.ev x= .own id){z:Bool}(hf:Iv C.P s.H t (.own id)=A0)
  {v:AV}{s1:S}(hs:KT s id z (lo.map s.ev) (hi.map s.ev)=I (A0,v,s1)){K:Act->World->Prop}{Q:Exit->Act->World->Prop}(hK:Jq B stk a o.dst (s1.put o.dst v) K):o.wp B.P a w K Q:=by
 obtain⟨u',β',h1,h2,h3,e1,e2,e3⟩:=aoG (P:=C.P) h hx hf hs rfl;rw[hP]at h1;refine Wh (u:=u') (w':=w) ?_ (hK β' _ _<|QN h2 (by rw[QP e1 e2 e3];exact hd) h3);unfold execOp;rw[ho];simp[h1]
def alG(hP:C.P=B.P)(h:St B β stk s a w){b:Nat}(hb:s.H b=U){o:Oper}(hd:s.has o.dst=A0){ids:List Nat}{K:Act->World->Prop}{Q:Exit->Act->World->Prop}
  (he:(match C5 C.P C.kd (ids.foldl S.freeze s).ev (ids.foldl S.freeze s).H b o.op with
   | some (q,v,os)=>if q then I ({ ids.foldl S.freeze s with H:=Ef (ids.foldl S.freeze s).H b os }.put o.dst v) else U
   | none=>U)=I s')(hK:Jq B stk a o.dst s' K):o.wp B.P a w K Q:=by
 obtain⟨β',h1,h2⟩:=h.L9 ids;obtain⟨e1,e2,e3,_⟩:=ff ids s;exact aCX hP h1 (h2.non b hb) (by rw[QP e1 e2 e3];exact hd) he hK
def HE(C:Cx)(B:Ba):Prop:=∀(f:FuncId) (d:Option Nat) (m:DU),C.Γ f d=I m->∀(β:Beta) (stk:List (Array Value)) (s:S) (a:Act) (w:World) (b:Nat) (as:List Operand) (s':S) (o:Oper) (ts:Array TypeId) (K:Act->World->Prop) (Q:Exit->Act->World->Prop),
 St B β stk s a w->(∀j,b<=j->j<b+16->s.H j=U)->s.has d=A0->HN m s b d (as.map s.ev) I=I s'->o.dst=d->o.op= .call { callee:= .value<|.func f,args:=as.toArray,argTypes:=ts } ->Jq B stk a d s' K->o.wp B.P a w K Q
def mK(hP:C.P=B.P)(hC:HE C B)(h:St B β stk s a w){b:Nat}(hb:∀j,b<=j->j<b+16->s.H j=U){o:Oper}(he:CE C (AF S) o b s I=I s'){K:Act->World->Prop}{Q:Exit->Act->World->Prop}(hK:Jq B stk a o.dst s' K):o.wp B.P a w K Q:=by
 have hb0:s.H b=U:=hb b (As _) J;unfold CE at he;split at he
 .cases he
 rename_i hd;generalize ho:o.op=op at he;have pu:(match C5 C.P C.kd s.ev s.H b op with
   | some (q,v,os)=>if q then I ({ s with H:=Ef s.H b os }.put o.dst v) else U
   | none=>U)=I s'->o.wp B.P a w K Q:=λhe=>aCX hP h hb0 hd (by rw[ho];exact he) hK
 cases op<;>try (exact pu he)
 case store t p x=>
  simp only at he;split at he
  .rename_i s1 hs;cases he;exact aqD hP h hd ho hs hK
  .cases he
 case call c=>
  obtain⟨cal,⟨args⟩,⟨tys⟩⟩:=c;simp only at he;split at he
  .rename_i f;split at he
   .rename_i m hm;exact hC f o.dst m hm β stk s a w b _ s' o _ K Q h hb hd he rfl ho hK
   .cases he
  .split at he
   .rename_i q v s1 hs;split at he
    .rename_i hq;subst hq;cases he;exact aqX hP h hb0 hd ho hs hK
    .cases he
   .cases he
  .split at he
   .rename_i v s1 hs;cases he;exact asY hP h hd ho hs hK
   .cases he
  .exact pu he
 case slice t x lo hi mx=>
  cases mx with
  | some m=>exact pu he
  | none=>
   simp only at he;split at he
   .rename_i id hx;split at he
    .cases he
    .rename_i hf;split at he
     .rename_i q v s1 hs;split at he
      .rename_i hq;subst hq;cases he;exact aq5 hP h hd ho hx hf hs hK
      .cases he
     .cases he
   .exact pu he
 case buildSlice t n ps=>
  simp only at he;exact alG hP h hb0 hd (by rw[ho];exact he) hK
end
end Go.VS
namespace Go.VS
open Go
mutual
theorem auM (E:Nat->AV) (H:Hp) (b:Nat):∀(h:Sh) (x:LT h),G6 h=A0->(BD E H b h x).2=(H,b)
 | .int _,_,_=>rfl
 | .bool,_,_=>rfl
 | .str,_,_=>rfl
 | .agg l,x,h=>by
  have:=XT E H b l x h;show((match Al E H b l x with|(cs,H,b)=>(AV.agg cs,H,b)):AV×Hp×Nat).2=(H,b);generalize Al E H b l x=r at *;obtain⟨cs,H',b'⟩:=r;exact this
 | .sl _,_,h=>by simp[G6]at h
 | .row _ _,_,h=>by simp[G6]at h
 | .fz _,_,h=>by simp[G6]at h
 | .CV _ _,_,h=>by simp[G6]at h
 | .abx _ _,_,h=>by simp[G6]at h
 | .arr _,_,h=>by simp[G6]at h
 | .same _,_,h=>by simp[G6]at h
 | .box _ _,_,h=>by simp[G6]at h
theorem XT (E:Nat->AV) (H:Hp) (b:Nat):∀(l:List Sh) (x:LTs l),N1 l=A0->(Al E H b l x).2=(H,b)
 | [],_,_=>rfl
 | h::l,x,hl=>by
  simp only[N1,AE]at hl;have h1:=auM E H b h x.1 hl.1;have h2:=XT E H b l x.2 hl.2;show((match BD E H b h x.1 with|(c,H,b)=>match Al E H b l x.2 with|(cs,H,b)=>(c::cs,H,b)):List AV×Hp×Nat).2=(H,b);generalize hm:BD E H b h x.1=r at *;obtain⟨c,H',b'⟩:=r;cases h1;show((match Al E H b l x.2 with|(cs,H,b)=>(c::cs,H,b)):List AV×Hp×Nat).2=(H,b);generalize Al E H b l x.2=r at *;obtain⟨cs,H',b'⟩:=r;exact h2
end
mutual
theorem auP:∀h:Sh,G6 h=A0->MA h=A3
 | .int _,_=>rfl
 | .bool,_=>rfl
 | .str,_=>rfl
 | .agg l,h=>jt l h
 | .sl _,h=>by simp[G6]at h
 | .row _ _,h=>by simp[G6]at h
 | .fz _,h=>by simp[G6]at h
 | .CV _ _,h=>by simp[G6]at h
 | .abx _ _,h=>by simp[G6]at h
 | .arr _,h=>by simp[G6]at h
 | .same _,h=>by simp[G6]at h
 | .box _ _,h=>by simp[G6]at h
theorem jt:∀l:List Sh,N1 l=A0->CH l=A3
 | [],_=>rfl
 | h::l,hl=>by
  simp only[N1,AE]at hl;simp only[CH,auP h hl.1,jt l hl.2,EK]
end
def aCJ(E:Nat->AV)(H:Hp)(b:Nat):∀(l:List Sh) (cs:List AV) (x:LTs l),l.isEmpty=A0->BN E H b l cs x=([],H,b)
 | [],_,_,_=>rfl
 | _::_,_,_,h=>by simp at h
def asg:∀l:List Sh,l.isEmpty=A0->CH l=A3
 | [],_=>rfl
 | _::_,h=>by simp at h
def avx(l:List Nat):off l []=A0:=by simp[off]
def as7{m:DU}{s:S}{b:Nat}{d:Option Nat}{as:List AV}{v:AV}{x:LTs m.ps}{r:LTs m.rs×LTs (B1 m.ps)}(h1:N1 m.rs=A0)(h2:(B1 m.ps).isEmpty=A0)(h3:(CP s.H m.ps as).isEmpty=A0)(h4:(Bh s.H m.ps as).isEmpty=A0)
  (hx:G4 (λi=>(as[i]?).getD .un) s.H m.ps as=I x)(hr:m.g x=I r)(hv:Ll (Al (λi=>(as[i]?).getD .un) s.H b m.rs r.1).1=v):HN m s b d as I=I (s.put d v):=by
 have h3':CP s.H m.ps as=[]:=by simpa using h3
 have h4':Bh s.H m.ps as=[]:=by simpa using h4
 unfold HN;simp only[hx,h4',N6,h3',avx,Du,hr,A9,M4,jt _ h1,asg _ h2,FU,G8,aCJ _ _ _ _ _ _ h2];have hm:=XT (λi=>(as[i]?).getD .un) s.H b m.rs r.1 h1;generalize Al (λi=>(as[i]?).getD .un) s.H b m.rs r.1=q at *;obtain⟨vs,H',b'⟩:=q;cases hm;have:Dp b (b+16)=A0:=Nat.ble_eq_true_of_le J;simp only[this];rw[← hv]
section
variable {B:Ba} {β β':Beta} {H:Hp} {stk:List (Array Value)} {s s':S} {a:Act} {w w':World} {C:Cx}
def atI{b:Nat}{o:Oper}{v:AV}(hd:s.has o.dst=A0)(h:spA C b o.dst s.ev s.H o.op=I (A0,v)):CE C (AF S) o b s I=I (s.put o.dst v):=by
 have eqS:∀v',({ s with H:=s.H } :S).put o.dst v'=s.put o.dst v':=λ_=>rfl;unfold CE;rw[hd];generalize ho:o.op=op at h;have pu:(match C5 C.P C.kd s.ev s.H b op with
   | some (q,v,[])=>I (q,v)
   | _=>U)=I (A0,v)->(match C5 C.P C.kd s.ev s.H b op with
   | some (q,v,os)=>if q then I ({ s with H:=Ef s.H b os }.put o.dst v) else U
   | none=>U)=I (s.put o.dst v):=by
  intro h;split at h
  .rename_i v' hp;cases h;rw[hp];rfl
  .cases h
 cases op<;>try (exact pu h)
 case store=>simp[spA]at h
 case buildSlice=>simp[spA]at h
 case slice t x lo hi mx=>
  cases mx with
  | some m=>exact pu h
  | none=>
   simp only[spA]at h;simp only;cases hx:s.ev x<;>simp only[hx]at h ⊢ <;>first|(cases h;done)|exact pu h
 case call c=>
  obtain⟨cal,⟨args⟩,⟨tys⟩⟩:=c;simp only[spA]at h;simp only;split at h
  .rename_i f;obtain⟨m,hm,h⟩:=Aj.1 h;split at h
   .rename_i hc;simp only[AE]at hc;obtain⟨x,hx,h⟩:=Aj.1 h;simp only[Bp,CG]at h;obtain⟨h1,h2⟩:=h;cases hr:m.g x with
    | none=>rw[hr]at h1;cases h1
    | some r=>
     rw[hr]at h2;simp only[hm];exact as7 hc.1.1.1 hc.1.1.2 hc.1.2 hc.2 hx hr h2
   .cases h
  .cases h
  .cases h
  .rename_i n1 n2 n3;split
   .exact absurd rfl (n1 _)
   .exact absurd rfl n2
   .exact absurd rfl n3
   .exact pu h
end
end Go.VS
namespace Go.VS
open Go
section
variable {B:Ba} {β β':Beta} {H:Hp} {stk:List (Array Value)} {s s':S} {a:Act} {w w':World} {C:Cx}
def fX{ops:Array Oper}{j g:Nat}(hg:(ops[j]?).bind (·.dst)=I g){b:Bool}(hv:BY a g= .bool b):yielded ops a.tmps j=I b:=by
 unfold yielded;rw[hg];have:a.tmps[g]? =I (.bool b):=by
  unfold BY at hv;rw[TU]at hv;cases h:a.tmps[g]? with
  | none=>rw[h]at hv;cases hv
  | some u=>rw[h]at hv;exact congrArg I hv
 rw[A9,this]
def fW{ops:Array Oper}{j g:Nat}(hg:(ops[j]?).bind (·.dst)=I g){b:Bool}(hv:yielded ops a.tmps j=I b):BY a g= .bool b:=by
 unfold yielded at hv;rw[hg,A9]at hv;split at hv
 .rename_i c hc;cases hv;simp[BY,hc]
 .cases hv
def St.narrow(h:St B β stk s a w){g:Nat}{want:Bool}(hg:BY a g= .bool want):St B β stk (s.narrow g want) a w:=by
 have rt:∀x y,RT w β (BY a) x y->RT w β (BY a) (GP g want x) y:=by
  intro x y hx;cases x with
  | gd g' w' z=>
   simp only[GP];split
   .rename_i h1 h2;obtain rfl:=Bk h1;obtain rfl:want=w':=by simpa using h2
    exact RT.H6 (hx.1 hg)
   .exact hx
  | _=>exact hx
 refine⟨λt=> ?_,h.stack,h.n,h.defers,h.pins,λt g' w' x hx=> ?_,h.hs⟩
 .show RT w β (BY a) (upd (λt=>GP g want<|s.T t) g (.b want) t) (BY a t);by_cases e:t=g
  .subst e;rw[Bf,hg];rfl
  .rw[BB _ _ e];exact rt _ _ (h.T t)
 .have hx:upd (λt=>GP g want<|s.T t) g (.b want) t= .gd g' w' x:=hx;by_cases e:t=g
  .subst e;rw[Bf]at hx;cases hx
  .rw[BB _ _ e]at hx;cases hs:s.T t with
   | gd g2 w2 z=>
    rw[hs]at hx;simp only[GP]at hx;split at hx
    .rename_i h1 h2;obtain rfl:=Bk h1;obtain rfl:want=w2:=by simpa using h2
     subst hx;have:=h.T t;rw[hs]at this;exact(this.1 hg).elim
    .cases hx;exact h.gs _ _ _ _ hs
   | _=>rw[hs]at hx;simp[GP]at hx
def aae(a:Act){d t:Nat}(h:t≠d)(u:Value):BY (a.put (I d) u) t=BY a t:=by
 simp only[BY,Act.put,TU];rw[aBW λe=>h e.symm]
def R2.bool{x:AV}{b:Bool}(h:R2 w β x (.bool b)):R2 w' β' x (.bool b):=by
 cases x with
 | un=>trivial
 | lit v=>exact h
 | sl k xs=>exact absurd (show RC w β (.sl k xs) (.bool b) from h) λh=>by cases h
 | arr k xs=>obtain⟨us,e,_⟩:=h;cases e
 | own id=>exact absurd (show RC w β (.own id) (.bool b) from h) (λh=>by cases h with|own h1 h2=>cases h2)
 | ptr a b c d=>exact absurd (show RC w β (.ptr a b c d) (.bool _) from h) λh=>by cases h
 | ipt a b c=>exact absurd (show RC w β (.ipt a b c) (.bool _) from h) λh=>by cases h
 | agg cs=>obtain⟨us,e,_⟩:=h;cases e
 | tup vs=>obtain⟨us,e,_⟩:=h;cases e
 | gd a b c=>exact h.elim
def St.more(h:St B β stk s a w)(g:Nat):St B β stk { s with gs:=upd s.gs g A0 } a w:=
 ⟨h.T,h.stack,h.n,h.defers,h.pins,λt g' want x hx=>by
  show upd s.gs g A0 g'=A0;by_cases e:g'=g
  .rw[e,Bf]
  .rw[BB _ _ e];exact h.gs t g' want x hx,h.hs⟩
def RT.aH{tm:Nat->Value}{x:AV}{v:Value}(h:RT w β tm x v)(hn:nG x=A0):R2 w β x v:=by
 cases x with
 | gd=>cases hn
 | _=>exact h
def RT.axx{tm tm':Nat->Value}{x:AV}{b:Bool}(h:RT w β tm x (.bool b))(ht:∀g want z,x= .gd g want z->tm' g=tm g):RT w' β' tm' x (.bool b):=by
 cases x with
 | gd g want z=>
  have e:=ht g want z rfl;refine⟨λh1=>R2.bool<|h.1<|e▸h1,λh1=> ?_⟩;exact h.2<|e▸h1
 | _=>exact RT.H6<|R2.bool<|RT.aH h rfl
def aDD{g d:Nat}(h:({ s with gs:=upd s.gs g A0 } :S).has (I d)=A0):s.has (I d)=A0/\d≠g/\s.gs d=A3:=by
 simp only[S.has,AE,CL]at h ⊢;obtain⟨⟨h1,h2⟩,h3⟩:=h;by_cases e:d=g
 .subst e;rw[Bf]at h3;cases h3
 .rw[BB _ _ e]at h3;exact⟨⟨⟨h1,h2⟩,h3⟩,e,h3⟩
def St.axl(h:St B β stk s a w){g d:Nat}{want:Bool}(hg:BY a g= .bool want)(EN:({ s with gs:=upd s.gs g A0 } :S).has (I d)=A0){v:AV}(hn:nG v=A0){u:Value}
  (h':St B β' stk ((s.narrow g want).put (I d) v) (a.put (I d) u) w'):St B β' stk { s.put (I d) (.gd g want v) with gs:=upd s.gs g A0 } (a.put (I d) u) w':=by
 obtain⟨_,hdg,hgs⟩:=aDD EN;have tg:BY (a.put (I d) u) g= .bool want:=by rw[aae a<|Ky hdg];exact hg
 refine⟨λt=> ?_,h'.stack,h'.n,h'.defers,h'.pins,λt g' w1 x hx=> ?_,h'.hs⟩
 .show RT w' β' _ (upd s.T d (.gd g want v) t) _;have ht:RT w' β' (BY<|a.put (I d) u) (upd (upd (λt=>GP g want<|s.T t) g<|.b want) d v t) (BY (a.put (I d) u) t):=h'.T t;by_cases e:t=d
  .subst e;rw[Bf]at ht ⊢;exact⟨λ_=>ht.aH hn,λhne=>absurd tg hne⟩
  .rw[BB _ _ e]at ht ⊢;by_cases e2:t=g
   .subst e2;rw[tg];have h0:=h.T t;rw[hg]at h0;refine h0.axx λg' w1 z hz=> ?_;have hg':s.gs g'=A0:=h.gs _ _ _ _ hz;exact aae a (λe=>by rw[e,hgs]at hg';cases hg') u
   .rw[BB _ _ e2]at ht;cases hs:s.T t with
    | gd g2 w2 z=>
     rw[hs]at ht;simp only[GP]at ht;split at ht
     .rename_i h1 h2;obtain rfl:=Bk h1;obtain rfl:want=w2:=by simpa using h2
      have h0:=h.T t;rw[hs]at h0;refine⟨λ_=>ht.aH ?_,λhne=>absurd tg hne⟩;have:=h0.1 hg;cases z<;>first|rfl|exact this.elim
     .exact ht
    | _=>rw[hs]at ht;exact ht
 .show upd s.gs g A0 g'=A0;have hx:upd s.T d (.gd g want v) t= .gd g' w1 x:=hx;by_cases e:t=d
  .subst e;rw[Bf]at hx;cases hx;exact Bf _ _ _
  .rw[BB _ _ e]at hx;by_cases e3:g'=g
   .rw[e3,Bf]
   .rw[BB _ _ e3];exact h.gs _ _ _ _ hx
def aBl(h:St B β stk s a w){ops:Array Oper}:∀(n:Nat) (o:Oper) {c:Bool},Lu ops s n o=I c->JJ o (yielded ops a.tmps)=A0->c=A0
 | 0,_,_,he,_=>by cases he
 | n+1,o,c,he,hw=>by
  unfold Lu at he;cases hg:o.guard with
  | none=>rw[hg]at he;cases he;rfl
  | some jw=>
   obtain⟨j,want⟩:=jw;rw[hg]at he;obtain⟨oj,hj,he⟩:=Aj.1 he;obtain⟨g,hgd,he⟩:=Aj.1 he;have ayg:(ops[j]?).bind (·.dst)=I g:=by rw[hj];exact hgd
   have hy:yielded ops a.tmps j=I want:=by simpa[JJ,hg] using hw
   have htg:=fW ayg hy;have hT:=h.T g;split at he
   .rename_i c0 hc0;rw[hc0,htg]at hT;have hT:Value.bool want=Value.bool c0:=hT;cases hT;cases he;cases want<;>rfl
   .rename_i vs hc0;rw[hc0,htg]at hT;cases (show Value.bool want=Value.tuple vs from hT)
   .rename_i g' w' c0 hc0;rw[hc0]at hT;split at he
    .rename_i j' w2 hoj;split at he
     .rename_i g2 hg2;split at he
      .rename_i e1 e2;obtain rfl:=Bk e1;obtain rfl:w'=w2:=by simpa using e2
       obtain⟨b,hb,he⟩:=Aj.1 he;by_cases hq:BY a g'= .bool w'
       .have hv:BY a g= .bool c0:=hT.1 hq;rw[htg]at hv;cases hv;have hb1:=aBl h n oj hb (by
         have:yielded ops a.tmps j'=I w':=fX hg2 hq;simp[JJ,hoj,this])
        rw[hb1]at he;cases he;cases want<;>rfl
       .have hv:BY a g=undef:=hT.2 hq;rw[htg]at hv;cases hv
      .cases he
     .cases he
    .cases he
   .cases he
def asa{c:Option Bool}{q:Bool}(h:abS c q=A0)(hc:∀b,c=I b->b=A0):q=A0:=by
 cases c with
 | none=>exact h
 | some b=>
  obtain rfl:=hc b rfl;cases q with
  | true=>rfl
  | false=>cases h
def ko(hP:C.P=B.P)(hC:HE C B){ops:Array Oper}{i:Nat}{o:Oper}(hi:ops[i]? =I o)(h:St B β stk s a w){b:Nat}(hb:∀j,b<=j->j<b+16->s.H j=U)
  (he:evG C (AF S) ops o b s I=I s'){K:Act->World->Prop}{Q:Exit->Act->World->Prop}(hK:Jq B stk a o.dst s' K):wpOp B.P ops Q i K a w:=by
 unfold wpOp;simp only[hi];unfold evG at he;split at he
 .rename_i hg;have hw:JJ o (yielded ops a.tmps)=A0:=by simp[JJ,hg]
  rw[A8 hw];exact .inl (mK hP hC h hb he hK)
 .rename_i j want hg;have hwd:JJ o (yielded ops a.tmps)=(yielded ops a.tmps j == I want):=by simp[JJ,hg]
  rw[hwd];split at he
  .cases he
  .rename_i g hgd hsp;split at he
   .rename_i q v EN hv;split at he
    .rename_i hn;split at he
     case isFalse=>cases he
     rename_i oM;cases he;obtain⟨d,hd⟩:∃d,o.dst=I d:=by
      cases hd:o.dst with
      | none=>rw[hd]at hsp;cases hsp
      | some d=>exact⟨d,rfl⟩
     rw[hd]at EN hv;by_cases hy:yielded ops a.tmps j=I want
     .have htg:=fW hgd hy;rw[A8<|by simp[hy]];have hh:=(aDD EN).1;have hqt:q=A0:=asa oM (λb hb=>aBl h 4 o hb (by rw[hwd,hy];simp));subst hqt;have he:CE C (AF S) o b (s.narrow g want) I=I ((s.narrow g want).put o.dst v):=
       atI (by rw[hd];exact hh) (by rw[hd];exact hv)
      refine .inl<|mK hP hC (h.narrow htg) (s:=s.narrow g want) hb he ?_;intro β' u w' h';rw[hd]at h' ⊢;have:=hK β' u w';rw[hd]at this;exact this (h.axl htg EN hn h')
     .rw[AD<|by simpa using hy];have hne:BY a g≠ .bool want:=λe=>hy<|fX hgd e;have:=hK β undef w;rw[hd]at this ⊢;exact this ((h.more g).put EN ⟨λe=>absurd e hne,λ_=>rfl⟩ (λg' w1 x e=>by cases e;exact Bf _ _ _))
    .cases he
   .cases he
  .rename_i g hgd hsp;split at he
   .rename_i c hT;have htg:BY a g= .bool c:=by have:=h.T g;rw[hT]at this;exact this
    have hy:yielded ops a.tmps j=I c:=fX hgd htg;rw[hy];have hn:∀w0:Bool,c=w0->St B β stk { s with T:=upd s.T g (.b w0) } a w:=by
     intro w0 e;subst e;refine⟨λt=> ?_,h.stack,h.n,h.defers,h.pins,λt g' w' x hx=> ?_,h.hs⟩
     .show RT w β (BY a) (upd s.T g (.b c) t) (BY a t);by_cases e:t=g
      .subst e;rw[Bf,htg];rfl
      .rw[BB _ _ e];exact h.T t
     .have hx:upd s.T g (.b c) t= .gd g' w' x:=hx;by_cases e:t=g
      .subst e;rw[Bf]at hx;cases hx
      .rw[BB _ _ e]at hx;exact h.gs _ _ _ _ hx
    have yes:CE C (AF S) o b { s with T:=upd s.T g (.b want) } I=I s'->c=want->
      (if(I c == I want)=A0 then o.wp B.P a w K Q\/(o.asks B.P a w/\LetsOut Q) else K (a.put o.dst undef) w):=by
     intro he e;rw[A8<|by simp[e]];exact .inl<|mK hP hC (hn want e) hb he hK
    have no:(match s.has o.dst with
      | true=>I (({ s with T:=upd s.T g (.b<|!want) } :S).put o.dst Dk)
      | false=>U)=I s'->c= !want->
      (if(I c == I want)=A0 then o.wp B.P a w K Q\/(o.asks B.P a w/\LetsOut Q) else K (a.put o.dst undef) w):=by
     intro he e;rw[AD (by subst e;cases want<;>simp)];split at he
     .rename_i EN;cases he;exact hK β undef w ((hn (!want) e).put (by exact EN) (u:=undef) rfl (λg' w1 x e=>by cases e))
     .cases he
    cases want<;>cases c<;>simp only[A5,if_false,HX]at he
    .exact yes he rfl
    .exact no he rfl
    .exact no he rfl
    .exact yes he rfl
   .rename_i vs hT;have htg:BY a g= .tuple vs:=by have:=h.T g;rw[hT]at this;exact this
    have hy:¬(yielded ops a.tmps j == I want)=A0:=by
     intro e;have:=fW hgd (show yielded ops a.tmps j=I want by simpa using e);rw[htg]at this;cases this
    rw[AD hy];split at he
    .rename_i EN;cases he;exact hK β undef w (h.put EN (u:=undef) rfl (λg' w1 x e=>by cases e))
    .cases he
   .cases he
end
end Go.VS
namespace Go.VS
open Go
def In1(F:Nat->Prop):AV->Prop
 | .own id=>F id
 | .ptr id _ _ _=>F id
 | .agg _=>False
 | .tup _=>False
 | .gd _ _ _=>False
 | _=>True
def In2(F:Nat->Prop):AV->Prop
 | .agg cs=>∀c∈cs,In1 F c
 | v=>In1 F v
def In3(F:Nat->Prop):AV->Prop
 | .tup vs=>∀v∈vs,In2 F v
 | v=>In2 F v
def InA(F:Nat->Prop):AV->Prop
 | .gd _ _ v=>In3 F v
 | v=>In3 F v
def En(F:Nat->Prop):Ob->Prop
 | .box _ cs=>∀c∈cs,In1 F c
 | _=>True
def DS(F:Nat->Prop)(H:Hp):Prop:=∀id ob,F id->H id=I ob->En F ob
def Agr(F:Nat->Prop)(H H':Hp):Prop:=∀id,F id->H' id=H id
section
variable {F:Nat->Prop} {H H':Hp} {P:Program} {kd:TypeId->Option K} {ρ ρ':Operand->AV} {b:Nat}
def In2.of1{v:AV}(h:In1 F v):In2 F v:=by
 cases v<;>first|exact h|exact h.elim
def In3.of2{v:AV}(h:In2 F v):In3 F v:=by
 cases v<;>first|exact h|exact(show False from h).elim
def InA.of3{v:AV}(h:In3 F v):InA F v:=by
 cases v<;>first|exact h|exact(show False from h).elim
def InA.of1{v:AV}(h:In1 F v):InA F v:= .of3<|.of2<|.of1 h
def InA.of2{v:AV}(h:In2 F v):InA F v:= .of3<|.of2 h
def In1.GH{v:AV}(h:GH v=A0):In1 F v:=by
 cases v<;>first|trivial|cases h
def T3(k:K)(x:Tof k):∀c∈enc k x,In1 F c:=λc hc=> .GH<|C0.1 (aEb k x) c hc
def Q2{t:TypeId}{cs:List AV}{o:Nat}{v:AV}(hc:∀c∈cs,In1 F c)(h:HF P t cs o=I v):InA F v:=by
 unfold HF at h;split at h
 .split at h
  .cases h;exact .of2 λc hm=>hc c (Kl<|Gx hm)
  .cases h
 .exact .of1 (hc v<|Cb h)
 .cases h
def att{t:TypeId}{p:AV}(hp:InA F p)(hH:Agr F H H'):Jp P H' t p=Jp P H t p:=by
 unfold Jp;cases p with
 | ptr id z i o=>simp only[hH id hp]
 | _=>rfl
def atu{N:Nat->Prop}{t:TypeId}{p v:AV}(hp:InA N p)(hH:∀id ob,N id->H id=I ob->En F ob)(h:Jp P H t p=I v):InA F v:=by
 unfold Jp at h;split at h
 .exact Q2 (T3 _ _) h
 .rename_i id z i o;split at h
  .rename_i hid;split at h
   .exact Q2 (hH id _ hp hid) h
   .cases h
  .split at h
   .exact Q2 (T3 _ _) h
   .cases h
  .split at h
   .split at h<;>cases h;trivial
   .split at h
    .exact Q2 (T3 _ _) h
    .cases h
  .cases h
 .cases h
def mL{k:K}{v:AV}(hv:InA F v)(hH:Agr F H H'):C7 H' k v=C7 H k v:=by
 cases v with
 | own id=>simp only[C7,hH id hv]
 | lit v=>cases v with
  | slice a n c=>cases a<;>cases n<;>cases c<;>rfl
  | _=>rfl
 | _=>rfl
def mD{k:K}{v:AV}(hv:InA F v)(hH:Agr F H H'):Js H' k v=Js H k v:=by
 cases v with
 | own id=>simp only[Js,C7,hH id hv]
 | lit v=>cases v with
  | slice a n c=>cases a<;>cases n<;>cases c<;>rfl
  | _=>rfl
 | _=>rfl
def zy{t:TypeId}{v:AV}(hv:InA F v)(hH:Agr F H H'):Iv P H' t v=Iv P H t v:=by
 unfold Iv;generalize P.underlying t=u;obtain _|d:=u
 .rfl
 cases d<;>cases v<;>first|rfl|(simp only[hH _ hv];done)|(rename_i v;cases v<;>rfl)
def apt{t:TypeId}{i:Int}{v:AV}(hv:InA F v)(hH:Agr F H H'):Mq P H' t i v=Mq P H t i v:=by
 unfold Mq;cases v with
 | own id=>simp only[hH id hv]
 | ptr id z i o=>
  cases i<;>cases o<;>first|(simp only[hH id hv];done)|rfl
 | _=>rfl
def axE{v v':AV}{q:Bool}{os:List Ob}(hv:InA F v)(h:okN v=I (q,v',os)):InA F v'/\os=[]:=by
 obtain⟨rfl,_,rfl,_⟩:=OQ h;exact⟨hv,rfl⟩
def axF{v v':AV}{q:Bool}{os:List Ob}(hv:InA F v)(h:okA v=I (q,v',os)):InA F v'/\os=[]:=by
 obtain⟨rfl,_,rfl⟩:=DI h;exact⟨hv,rfl⟩
def PIn(F:Nat->Prop)(r:PR):Prop:=∀q v os,r=I (q,v,os)->InA F v/\os.length<=1/\ ∀ob∈os,En F ob
def PIn.okN{v:AV}(hv:InA F v):PIn F (okN v):=λq v' os h=>by
 obtain⟨h1,rfl⟩:=axE hv h;exact⟨h1,by simp,by simp⟩
def PIn.okA{v:AV}(hv:InA F v):PIn F (okA v):=λq v' os h=>by
 obtain⟨h1,rfl⟩:=axF hv h;exact⟨h1,by simp,by simp⟩
def PIn.lit{v:Value}:PIn F (VS.okA<|.lit v):= .okA<|.of1 trivial
def PIn.none:PIn F .none:=λq v os h=>by cases h
def PIn.nil{q:Bool}{v:AV}(hv:InA F v):PIn F (I (q,v,[])):=λq v' os h=>by cases h;exact⟨hv,by simp,by simp⟩
def PIn.one{q:Bool}{v:AV}{ob:Ob}(hv:InA F v)(ho:En F ob):PIn F (I (q,v,[ob])):=λq v' os h=>by
 cases h;exact⟨hv,by simp,λob' hm=>by simp at hm;subst hm;exact ho⟩
def PIn.bind{α:Type}{o:Option α}{f:α->PR}(h:∀a,o=I a->PIn F (f a)):PIn F (o.bind f):=by
 cases o with
 | none=>exact .none
 | some a=>exact h a rfl
def awV(op:BinOp)(k:IntKind)(x y:Int):PIn F (Ty op k x y):=by
 cases op<;>first|exact .lit|exact .none|exact .nil<|.of1 trivial
def awU(op:BinOp)(x y:A4):PIn F (Tx op x y):=by
 cases op<;>first|exact .lit|exact .none|exact .nil<|.of1 trivial
def awW(op:BinOp)(t:TypeId)(x y:AV):PIn F (PB P op t x y):=by
 unfold PB;split
 .split
  .exact awV _ _ _ _
  .exact .none
 .exact awU _ _ _
 .split<;>first|exact .lit|exact .none
 .split<;>first|exact .lit|exact .none
 .exact .none
def awH(op:UnOp)(x:AV):PIn F (unA op x):=by
 unfold unA;split<;>first|exact .lit|exact .none
def asx{c x y:Operand}(hx:InA F (ρ x))(hy:InA F (ρ y)):PIn F (On ρ c x y):=by
 unfold On;split
 .split
  .exact .lit
  .split
   .exact .lit
   .exact .okN hy
 .split
  .exact .lit
  .split
   .exact .okN hx
   .exact .lit
 .split
  .exact .okN hx
  .exact .okN hy
 .exact .none
def XC{v:AV}{cs:List AV}(hv:InA F v)(h:GO v=I cs):∀c∈cs,In1 F c:=by
 cases v with
 | un=>cases h
 | gd=>cases h
 | tup=>cases h
 | arr=>cases h
 | agg cs=>cases h;exact hv
 | lit v=>cases v<;>first|(cases h;done)|(cases h;intro c hc;simp at hc;subst hc;trivial)
 | _=>cases h;intro c hc;simp at hc;subst hc;exact hv
def aCy{t:TypeId}{zs:List AV}(h:I0 P t=I zs):∀c∈zs,In1 F c:=by
 obtain⟨i,_,h⟩:=Aj.1 h;obtain⟨z,_,h⟩:=Aj.1 h;split at h
 .cases h;intro c hc;obtain⟨v,_,rfl⟩:=DE.1 hc;trivial
 .cases h
def jZ{cs ys:List AV}{o:Nat}(hc:∀c∈cs,In1 F c)(hy:∀c∈ys,In1 F c):∀c∈Gn cs o ys,In1 F c:=by
 intro c h;unfold Gn at h;simp only[BM]at h;obtain(h|h)|h:=h
 .exact hc c (Gx h)
 .exact hy c h
 .exact hc c<|Kl h
def aC2{t:TypeId}:∀(l:List (Nat×Operand)) (cs:List AV) {r:List AV},(∀p∈l,InA F<|ρ p.2)->(∀c∈cs,In1 F c)->Hz P ρ t l cs=I r->∀c∈r,In1 F c
 | [],cs,r,_,hc,h=>by cases h;exact hc
 | (i,x)::l,cs,r,hl,hc,h=>by
  obtain⟨f,_,h⟩:=Aj.1 h;obtain⟨ys,h2,h⟩:=Aj.1 h;split at h
  .exact aC2 l _ (λp hp=>hl p<|Am _ hp) (jZ hc<|XC (hl _<|Ap) h2) h
  .cases h
def aC1{t:TypeId}:∀(l:List (Nat×Operand)) (cs:List AV),(∀p∈l,ρ' p.2=ρ p.2)->Hz P ρ' t l cs=Hz P ρ t l cs
 | [],cs,_=>rfl
 | (i,x)::l,cs,hl=>by
  have ih:∀cs,Hz P ρ' t l cs=Hz P ρ t l cs:=λcs=>aC1 l cs λp hp=>hl p<|Am _ hp;have h1:ρ' x=ρ x:=hl (i,x)<|Ap;simp only[Hz,h1,ih]
def aCa:∀(l:List (Nat×Operand)) (n:Nat),(∀p∈l,ρ' p.2=ρ p.2)->Hw ρ' n l=Hw ρ n l
 | [],_,_=>rfl
 | (i,x)::l,n,hl=>by
  have ih:∀n,Hw ρ' n l=Hw ρ n l:=λn=>aCa l n λp hp=>hl p<|Am _ hp;have h1:ρ' x=ρ x:=hl (i,x)<|Ap;simp only[Hw,h1,ih]
def arE:∀(l:List (Nat×Operand)),(∀p∈l,ρ' p.2=ρ p.2)->Kc ρ' l=Kc ρ l:=λl hl=>by
 unfold Kc
 induction l with
 | nil=>rfl
 | cons p l ih=>simp only[P3,hl p<|Ap,ih λq hq=>hl q<|Am _ hq]
def arY(lo hi:Option AV)(v:AV):PIn F (QL lo hi v):=by
 unfold QL;split<;>first|exact .none|exact .bind λa _=> .nil<|.of1 trivial
def aud(hb:F 0)(s d:TypeId)(v:AV):PIn F (IX P s d v):=by
 unfold IX;split
 .exact .lit
 .exact .lit
 .split
  .exact .one (.of1 hb) trivial
  .exact .none
 .exact .none
def avV(t:TypeId)(i:Int)(v:AV):PIn F (Qx P t i v):=by
 unfold Qx;split
 .split
  .exact .nil (.of1 trivial)
  .exact .none
 .split
  .split
   .exact .bind λv hv=> .nil (Q2 (T3 _ _) hv)
   .exact .none
  .exact .none
 .exact .none
def apu{t:TypeId}{i:Int}{v:AV}(hv:InA F v):PIn F (Mq P H t i v):=by
 unfold Mq;split
 .split
  .split
   .exact .nil (.of1 trivial)
   .exact .none
  .exact .none
 .split
  .split
   .exact .nil (.of1 hv)
   .exact .none
  .exact .none
 .split
  .split
   .exact .nil (.of1 hv)
   .exact .none
  .exact .none
 .exact .none
def aEI(c:Call):PIn F (J7 P ρ H c):=by
 unfold J7;split
 .split<;>first|exact .lit|exact .none|skip
  split<;>first|exact .lit|exact .none
 .split
  .split<;>first|exact .lit|exact .none
  .exact .none
 .split
  .split<;>first|exact .lit|exact .none
  .exact .none
 .exact .none
def aEH{c:Call}(hρ:∀x∈c.args.toList,ρ' x=ρ x)(hF:∀x∈c.args.toList,InA F<|ρ x)(hH:Agr F H H'):J7 P ρ' H' c=J7 P ρ H c:=by
 obtain⟨cal,⟨args⟩,⟨tys⟩⟩:=c;simp only at hρ hF;unfold J7;simp only;split
 .rename_i x t;rw[hρ x<|by simp];have hx:=hF x (by simp);generalize ρ x=v at hx;generalize P.underlying t=u;obtain _|d:=u
  .rfl
  cases d<;>cases v<;>first|rfl|(simp only[hH _ hx];done)|(rename_i v;cases v<;>first|rfl|(rename_i a n c;cases a<;>cases n<;>cases c<;>rfl))
 .rename_i x y;rw[hρ x<|by simp,hρ y<|by simp]
 .rename_i x y;rw[hρ x<|by simp,hρ y<|by simp]
 .rfl
def aCY{N:Nat->Prop}{op:Op}(hF:∀x∈op.operands,InA F<|ρ x)(hN:mov op=A0\/ ∀x∈op.operands,InA N<|ρ x)(hH:∀id ob,N id->H id=I ob->En F ob)(hb:F b):PIn F (C5 P kd ρ H b op):=by
 cases op<;>simp only[C5]<;>try (exact .none)
 case move x=>exact .okN<|hF x<|by simp[BU]
 case assign x=>exact .okN<|hF x<|by simp[BU]
 case pick c x y=>exact asx (hF x<|by simp[BU])<|hF y<|by simp[BU]
 case alloc t=>
  split
  .refine .bind λk hk=> .bind λzs hz=> ?_;split
   .exact .one (.of1 hb) trivial
   .exact .none
  .exact .bind λzs hz=> .one (.of1 hb)<|aCy hz
 case box t x=>exact .bind λcs hc=> .one (.of1 hb)<|XC (hF x<|by simp[BU]) hc
 case build t ps=>
  refine .bind λzs hz=> ?_;split
  .split
   .refine .bind λcs hc=> .okA<|.of2 ?_;refine aC2 _ _ (λp hp=>hF p.2 ?_) (aCy hz) hc;simp only[BU,TT,DE];exact⟨p,hp,rfl⟩
   .exact .none
  .exact .none
 case buildSlice t n ps=>
  refine .bind λe _=> .bind λk _=> .bind λvs _=> .bind λxs _=> ?_;split
  .exact .one (.of1 hb) trivial
  .exact .none
 case load t p=>
  exact .bind λv hv=> .okA<|atu (hN.resolve_left (by simp[mov]) p<|by simp[BU]) hH hv
 case nilCheck p=>
  have hp:=hF p (by simp[BU]);split<;>first|exact .none|(rename_i e;rw[e]at hp;exact .okA hp)
 case binOp=>exact awW _ _ _ _
 case unOp=>exact awH _ _
 case convert src dst x=>
  split
  .split
   .exact .bind λv hv=> .lit
   .exact .none
  .split
   .rename_i c id os h;intro q v os' e;cases e;have:=aud (F:=λ_=>True) trivial src dst (ρ x) _ _ _ h;refine⟨.of1 hb,this.2.1,λob ho=> ?_⟩;unfold IX at h;split at h<;>first|(cases h;done)|skip
    split at h
    .cases h;simp at ho;subst ho;trivial
    .cases h
   .rename_i h;intro q v os e;unfold IX at e;split at e
    .cases e;exact⟨.of1 trivial,by simp,by simp⟩
    .cases e;exact⟨.of1 trivial,by simp,by simp⟩
    .split at e
     .cases e;exact(h _ 0 _ (by simp only[IX, *];rfl)).elim
     .cases e
    .cases e
 case makeSlice t l c=>
  split
  .refine .bind λe _=> .bind λk _=> ?_;split
   .exact .one (.of1 hb) trivial
   .exact .none
  .split
   .refine .bind λe _=> .bind λk _=> ?_;split
    .exact .one (.of1 hb) trivial
    .exact .none
   .exact .none
  .exact .none
 case slice t x lo hi mx=>
  cases mx with
  | some m=>exact .none
  | none=>
   simp only;split
   .exact arY _ _ _
   .exact .none
 case fieldAddr t x f=>
  have hx:=hF x (by simp[BU]);refine .bind λfd _=> ?_;split
  .split
   .rename_i e;rw[e]at hx;exact .okA (.of1 hx)
   .exact .okA (.of1 trivial)
   .exact .none
  .exact .none
 case field t x f=>
  have hx:=hF x (by simp[BU]);refine .bind λfd _=> ?_;split
  .rename_i cs e;rw[e]at hx;exact .bind λv hv=> .okA (Q2 hx hv)
  .exact .none
 case indexAddr t x ix=>
  have hx:=hF x (by simp[BU]);split
  .exact apu hx
  .exact .none
 case index t x ix=>
  split
  .exact avV _ _ _
  .exact .none
 case extract x i=>
  have hx:=hF x (by simp[BU]);split
  .rename_i vs e;rw[e]at hx;exact .bind λv hv=> .okA (.of2<|hx v<|Cb hv)
  .exact .none
 case call c=>exact aEI c
def XN{op:Op}(hρ:∀x∈op.operands,ρ' x=ρ x)(hF0:mov op=A0\/ ∀x∈op.operands,InA F<|ρ x)(hH:Agr F H H'):C5 P kd ρ' H' b op=C5 P kd ρ H b op:=by
 have one:∀ {x:Operand},x∈op.operands->ρ' x=ρ x:=λh=>hρ _ h;cases op<;>simp only[C5]
 case move x=>rw[hρ x<|by simp[BU]]
 case assign x=>rw[hρ x<|by simp[BU]]
 case pick c x y=>
  have h1:=hρ c (by simp[BU]);have h2:=hρ x (by simp[BU]);have h3:=hρ y (by simp[BU]);unfold On;rw[h1];split
  .simp only[h3]
  .simp only[h2]
  .simp only[h2,h3]
  .rfl
 case box t x=>rw[hρ x<|by simp[BU]]
 case build t ps=>
  have:∀zs,Hz P ρ' t ps.toList zs=Hz P ρ t ps.toList zs:=λzs=>aC1 _ _ λp hp=>hρ p.2 (by
   simp only[BU,TT,DE];exact⟨p,hp,rfl⟩)
  simp only[this]
 case buildSlice t n ps=>
  have:Hw ρ' 0 ps.toList=Hw ρ 0 ps.toList:=aCa _ _ λp hp=>hρ p.2 (by
   simp only[BU,TT,DE];exact⟨p,hp,rfl⟩)
  simp only[this]
 case load t p=>
  have hF:=hF0.resolve_left (by simp[mov]);rw[hρ p<|by simp[BU],att (hF p<|by simp[BU]) hH]
 case nilCheck p=>rw[hρ p<|by simp[BU]]
 case binOp o t x y t2=>rw[hρ x<|by simp[BU],hρ y<|by simp[BU]]
 case unOp o t x=>rw[hρ x<|by simp[BU]]
 case convert src dst x=>
  have hF:=hF0.resolve_left (by simp[mov]);rw[hρ x<|by simp[BU],mL (hF x<|by simp[BU]) hH]
 case makeSlice t l c=>rw[hρ l<|by simp[BU],hρ c<|by simp[BU]]
 case slice t x lo hi mx=>
  have hF:=hF0.resolve_left (by simp[mov]);cases mx with
  | some m=>rfl
  | none=>
   have h1:=hρ x (by simp[BU]);have h2:lo.map ρ'=lo.map ρ:=by cases lo with
    | none=>rfl
    | some l=>exact congrArg I<|hρ l<|by simp[BU]
   have h3:hi.map ρ'=hi.map ρ:=by cases hi with
    | none=>rfl
    | some l=>exact congrArg I<|hρ l<|by simp[BU]
   simp only;rw[h1,h2,h3,zy (hF x<|by simp[BU]) hH]
 case fieldAddr t x f=>rw[hρ x<|by simp[BU]]
 case field t x f=>rw[hρ x<|by simp[BU]]
 case indexAddr t x ix=>
  have hF:=hF0.resolve_left (by simp[mov]);rw[hρ x<|by simp[BU],hρ ix<|by simp[BU]];split
  .rw[apt (hF x<|by simp[BU]) hH]
  .rfl
 case index t x ix=>rw[hρ x<|by simp[BU],hρ ix<|by simp[BU]]
 case extract x i=>rw[hρ x<|by simp[BU]]
 case call c=>
  have hF:=hF0.resolve_left (by simp[mov]);refine aEH (λx hx=>hρ x ?_) (λx hx=>hF x ?_) hH<;>
  .simp only[BU,NJ,N8];exact .inr<|by simpa using hx
end
end Go.VS
namespace Go.VS
open Go
inductive Fk where
 | no
 | kl
 | fz (k:K) (xs:List (Tof k))
def Fk.f(id:Nat):Fk->AV->AV
 | .no=>λv=>v
 | .kl=>kl1 id
 | .fz k xs=>fz1 id k xs
structure Step where
 id:Nat
 fk:Fk
 ob:Option Ob
def S.app(s:S)(e:Step):S:=(s.map<|e.fk.f e.id).E9 e.id e.ob
def Gc(F:Nat->Prop)(e:Step):Prop:=∀ob,e.ob=I ob->En F ob
def Loc{α:Type}(F W:Nat->Prop)(g:S->Option (α×S))(s:S)(x:α)(s':S):Prop:=
 ∃es:List Step,(∀e∈es,W e.id/\Gc F e)/\s'=es.foldl S.app s/\ ∀s2:S,Agr F s.H s2.H->g s2=I (x,es.foldl S.app s2)
section
variable {F W:Nat->Prop} {H H':Hp} {P:Program} {kd:TypeId->Option K} {s s' s2:S} {b:Nat}
def atq(v:AV):Fo (λv=>v) v=v:=by cases v<;>simp[Fo]
def aCj:(Fo λv=>v)=id:=funext atq
def atp(v:AV):G5 (λv=>v) v=v:=by
 cases v<;>simp[G5,aCj]
 all_goals simp[Fo]
def avN(v:AV):El (λv=>v) v=v:=by
 cases v with
 | gd g w v=>simp[El,atp]
 | tup vs=>simp[El,G5,aCj]
 | _=>simp[El,G5,Fo]
def auQ(o:Option Ob):CD (λv=>v) o=o:=by
 cases o with
 | none=>rfl
 | some o=>cases o<;>simp[CD]
def map_id(s:S):s.map (λv=>v)=s:=by
 cases s;simp[S.map,avN,auQ]
def J0(s:S)(id:Nat)(o:Option Ob):s.app ⟨id,.no,o⟩=s.E9 id o:=by
 simp[S.app,Fk.f,map_id]
def L5(s:S)(e:Step)(j:Nat):(s.app e).H j=if j=e.id then e.ob else CD (e.fk.f e.id) (s.H j):=by
 show upd (λj=>CD (e.fk.f e.id)<|s.H j) e.id e.ob j=_;by_cases h:j=e.id
 .subst h;rw[Bf];simp
 .rw[BB _ _ h];simp[h]
def Agr.app(h:Agr F s.H s2.H)(e:Step):Agr F (s.app e).H (s2.app e).H:=λid hid=>by rw[L5,L5,h id hid]
def Agr.oC{es:List Step}(h:Agr F s.H s2.H):Agr F (es.foldl S.app s).H (es.foldl S.app s2).H:=by
 induction es generalizing s s2 with
 | nil=>exact h
 | cons e es ih=>exact ih<|h.app e
def Agr.refl(F:Nat->Prop)(H:Hp):Agr F H H:=λ_ _=>rfl
def Fk.aB(id:Nat)(fk:Fk){c:AV}(h:In1 F c):In1 F (fk.f id c):=by
 cases fk with
 | no=>exact h
 | kl=>
  show In1 F (kl1 id c);unfold kl1;split
  .split
   .trivial
   .exact h
  .split
   .trivial
   .exact h
  .exact h
 | fz k xs=>
  show In1 F (fz1 id k xs c);unfold fz1;split
  .split
   .trivial
   .exact h
  .split
   .trivial
   .exact h
  .exact h
def aEm{f:AV->AV}(hf:∀c,In1 F c->In1 F (f c)){o:Option Ob}(h:∀ob,o=I ob->En F ob):∀ob,CD f o=I ob->En F ob:=by
 intro ob e;cases o with
 | none=>cases e
 | some o=>
  have:=h o rfl;cases o with
  | box t cs=>
   cases e;intro c hc;obtain⟨c0,h0,rfl⟩:=DE.1 hc;exact hf _<|this c0 h0
  | _=>cases e;trivial
def DS.app{e:Step}(h:DS F s.H)(he:Gc F e):DS F (s.app e).H:=by
 intro j ob hj hob;rw[L5]at hob;split at hob
 .exact he ob hob
 .exact aEm (λc hc=>Fk.aB _ _ hc) (λob ho=>h j ob hj ho) ob hob
def aBJ(s:S)(id:Nat):∃fk,s.freeze id=s.app ⟨id,fk,U⟩/\ ∀s2:S,s2.H id=s.H id->s2.freeze id=s2.app ⟨id,fk,U⟩:=by
 cases h:s.H id with
 | none=>exact⟨.kl,by simp only[S.freeze,h];rfl,λs2 h2=>by simp only[S.freeze,h2];rfl⟩
 | some ob=>
  cases ob with
  | row e fz k xs=>exact⟨.fz k xs,by simp only[S.freeze,h];rfl,λs2 h2=>by simp only[S.freeze,h2];rfl⟩
  | box e cs=>exact⟨.kl,by simp only[S.freeze,h];rfl,λs2 h2=>by simp only[S.freeze,h2];rfl⟩
  | arr e k xs=>exact⟨.kl,by simp only[S.freeze,h];rfl,λs2 h2=>by simp only[S.freeze,h2];rfl⟩
def Wc:∀(ids:List Nat) (s:S),(∀i∈ids,F i)->∃es:List Step,(∀e∈es,e.id∈ids/\e.ob=U)/\ids.foldl S.freeze s=es.foldl S.app s/\ ∀s2:S,Agr F s.H s2.H->ids.foldl S.freeze s2=es.foldl S.app s2
 | [],s,_=>⟨[],by simp,rfl,λ_ _=>rfl⟩
 | i::ids,s,hF=>by
  obtain⟨fk,h1,h2⟩:=aBJ s i;obtain⟨es,h3,h4,h5⟩:=Wc ids (s.freeze i) λj hj=>hF j<|Am _ hj;refine⟨⟨i,fk,U⟩::es,λe he=> ?_, ?_,λs2 hs=> ?_⟩
  .rcases Bj.1 he with rfl|he
   .exact⟨Ap,rfl⟩
   .exact⟨Am _ (h3 e he).1,(h3 e he).2⟩
  .show ids.foldl S.freeze (s.freeze i)=es.foldl S.app (s.app ⟨i,fk,U⟩);rw[h4,h1]
  .have e1:=h2 s2<|hs i<|hF i Ap;simp only[EL,e1];refine h5 _ ?_;rw[h1];exact hs.app _
def aCm:∀(ids:List Nat) (s:S),∃es:List Step,(∀e∈es,e.id∈ids/\e.ob=U)/\ids.foldl S.kill s=es.foldl S.app s/\ ∀s2:S,ids.foldl S.kill s2=es.foldl S.app s2
 | [],s=>⟨[],by simp,rfl,λ_=>rfl⟩
 | i::ids,s=>by
  obtain⟨es,h3,h4,h5⟩:=aCm ids<|s.kill i;refine⟨⟨i,.kl,U⟩::es,λe he=> ?_, ?_,λs2=> ?_⟩
  .rcases Bj.1 he with rfl|he
   .exact⟨Ap,rfl⟩
   .exact⟨Am _ (h3 e he).1,(h3 e he).2⟩
  .exact h4
  .exact h5 _
def awy{k:K}{cs:List AV}(hc:∀c∈cs,In1 F c)(hH:Agr F H H'):dec H' k cs=dec H k cs:=by
 have key:∀c∈cs,∀k,C7 H' k c=C7 H k c:=λc hm k=>mL (.of1<|hc c hm) hH;unfold dec;split<;>first|rfl|simp[key]
def Loc.mk1{α:Type}{g:S->Option (α×S)}{x:α}(e:Step)(hW:W e.id)(ho:Gc F e)(h1:s'=s.app e)(h:∀s2:S,Agr F s.H s2.H->g s2=I (x,s2.app e)):Loc F W g s x s':=
 ⟨[e],λe' he=>by simp at he;subst he;exact⟨hW,ho⟩,h1,h⟩
def aab{ys:List AV}(hy:∀c∈ys,In1 F c):∀i∈ys.filterMap Gq,F i:=by
 intro i hi;obtain⟨c,h1,h2⟩:=G9.1 hi;have:=hy c h1;cases c<;>first|(cases h2;done)|(cases h2;exact this)
def aru{t:TypeId}{x y:AV}(hx:InA F x)(hy:InA F y)(hcl:DS F s.H)(h:IS P t s x y=I s'):Loc F (λi=>i∈Od s.H x y) (λs=>(IS P t s x y).map λs=>((),s)) s () s':=by
 cases x<;>first|(cases h;done)|skip
 rename_i id z i o;have hid:F id:=hx;simp only[IS]at h;split at h
 .rename_i e cs hob;split at h
  .obtain⟨ys,hc,h⟩:=Aj.1 h;split at h
   .rename_i hg;cases h;refine .mk1 ⟨id,.no,I<|.box e<|Gn cs o ys⟩ (by simp[Od,hob]) ?_ (J0 _ _ _).symm λs2 h2=> ?_
    .intro ob e';cases e';exact jZ (hcl id _ hid hob) (XC hy hc)
    .rw[J0];simp only[IS,h2 id hid,hob,hc,A9,hg];rfl
   .cases h
  .cases h
 .rename_i e fz k xs hob;obtain⟨ys,hc,h⟩:=Aj.1 h;split at h
  .rename_i hg;obtain⟨v,hd,h⟩:=Aj.1 h;cases h;have hys:=XC hy hc;obtain⟨es,h3,h4,h5⟩:=Wc (F:=F) (ys.filterMap Gq) s<|aab hys;refine⟨es++[⟨id,.no,I<|.row e fz k<|xs.set i v⟩],λe' he=> ?_, ?_,λs2 h2=> ?_⟩
   .have hsw:Od s.H (.ptr id z i o) y=id::ys.filterMap Gq:=by simp[Od,hob,hc]
    rw[hsw];rcases BM.1 he with he|he
    .exact⟨Am _ (h3 e' he).1,λob eo=>by rw[(h3 e' he).2]at eo;cases eo⟩
    .simp at he;subst he;exact⟨Ap,λob eo=>by cases eo;trivial⟩
   .rw[HW,← h4];exact(J0 _ _ _).symm
   .rw[HW,← h5 s2 h2];have hd2:dec s2.H k (Gn (enc k<|xs.getD i<|dfl k) o ys)=I v:=by
     rw[awy (jZ (T3 _ _) hys) h2];exact hd
    simp only[IS,h2 id hid,hob,hc,A9,hg,hd2,EL,M4,J0];rfl
  .cases h
 .rename_i e k xs hob;obtain⟨ys,hc,h⟩:=Aj.1 h;split at h
  .rename_i hg;obtain⟨v,hd,h⟩:=Aj.1 h;cases h;refine .mk1 ⟨id,.no,I<|.arr e k<|xs.set i v⟩ (by simp[Od,hob]) (λob e'=>by cases e';trivial) (J0 _ _ _).symm λs2 h2=> ?_;rw[J0];simp only[IS,h2 id hid,hob,hc,A9,hg,hd];rfl
  .cases h
 .cases h
def aqc{t t2:TypeId}{x y v:AV}{q:Bool}(hx:InA F x)(hy:InA F y)(hb:F b)(h:KZ P kd t t2 s b x y=I (q,v,s')):
  Loc F (λi=>i=b\/i∈Jt x) (λs=>(KZ P kd t t2 s b x y).map λr=>((r.1,r.2.1),r.2.2)) s (q,v) s'/\InA F v:=by
 unfold KZ at h;obtain⟨e,he,h1⟩:=Aj.1 h;obtain⟨k,hk,h2⟩:=Aj.1 h1;obtain⟨ys,hys,h3⟩:=Aj.1 h2;clear h h1 h2;revert h3;intro h;split at h
 .rename_i hg;cases h;refine⟨.mk1 ⟨b,.no,I<|.row e A3 k ys⟩ (.inl rfl) (λob e'=>by cases e';trivial) (J0 _ _ _).symm λs2 h2=> ?_,.of1 hb⟩;rw[J0];simp only[KZ,he,hk,A9,mD hy h2,hys,hg];rfl
 .rename_i id hg;have hid:F id:=hx;split at h
  .rename_i e' k' xs hob hne;split at h
   .rename_i hee;obtain⟨zs,hz,h⟩:=Aj.1 h;cases h;refine⟨.mk1 ⟨id,.kl,I<|.row e A3 k<|zs++ys⟩ (.inr<|by simp[Jt,Gq]) (λob e'=>by cases e';trivial) rfl λs2 h2=> ?_,.of1 hid⟩;simp only[KZ,he,hk,A9,mD hy h2,hys,hg,h2 id hid,hob,hne,hee,hz];rfl
   .cases h
  .cases h
 .cases h
def auc{t:TypeId}{x y v:AV}(hx:InA F x)(hy:InA F y)(h:Kk P t s x y=I (v,s')):
  Loc F (λi=>i∈Jt x) (λs=>Kk P t s x y) s v s'/\InA F v:=by
 unfold Kk at h;split at h
 .rename_i id;have hid:F id:=hx;split at h
  .rename_i e fz k xs hob hne;obtain⟨e',he,h⟩:=Aj.1 h;split at h
   .rename_i hg;obtain⟨ys,hys,h⟩:=Aj.1 h;cases h;refine⟨.mk1 ⟨id,.no,I<|.row e fz k<|ys.take xs.length++xs.drop ys.length⟩ (by simp[Jt,Gq]) (λob e'=>by cases e';trivial) (J0 _ _ _).symm λs2 h2=> ?_,.of1 trivial⟩;rw[J0];simp only[Kk,h2 id hid,hob,hne,he,A9,hg,mD hy h2,hys]
   .cases h
  .cases h
 .cases h
def apQ{id:Nat}{z:Bool}{lo hi:Option AV}{v:AV}{q:Bool}(hid:F id)(h:KT s id z lo hi=I (q,v,s')):
  Loc F (λi=>i=id) (λs=>(KT s id z lo hi).map λr=>((r.1,r.2.1),r.2.2)) s (q,v) s'/\InA F v:=by
 unfold KT at h;split at h
 .rename_i e fz k xs hob;obtain⟨⟨c,l,hh⟩,hc,h⟩:=Aj.1 h;simp only at h;split at h
  .cases h;refine⟨.mk1 ⟨id,.kl,I<|.row e fz k<|Ia lo U l hh xs⟩ rfl (λob e'=>by cases e';trivial) rfl λs2 h2=> ?_,.of1 hid⟩;simp only[KT,h2 id hid,hob,hc,A9];rfl
  .cases h
  .cases h;obtain⟨fk,h1,h2⟩:=aBJ s id;refine⟨.mk1 ⟨id,fk,U⟩ rfl (λob e'=>by cases e') h1 λs2 h3=> ?_,.of1 trivial⟩;rw[← h2 s2<|h3 id hid];simp only[KT,h3 id hid,hob,hc,A9];rfl
 .cases h
end
end Go.VS
namespace Go.VS
open Go
abbrev EI(es:List (Nat×Ob))(H:Hp):Hp:=es.foldl (λH p=>upd H p.1<|I p.2) H
section
variable {F W:Nat->Prop} {H H':Hp} {P:Program} {s s' s2:S} {b:Nat} {E:Nat->AV}
set_option linter.unusedSectionVars false
def InA.Ij{cs:List AV}(h:∀c∈cs,In1 F c):∀c∈cs,InA F c:=λc hc=> .of1<|h c hc
section eqs
variable (hH:Agr F H H') (hC:DS F H)
include hH hC
mutual
theorem avp:∀(h:Sh) (v:AV),InA F v->Bl E H' h v=Bl E H h v
 | .int _,v,_=>by cases v with
  | lit v=>cases v<;>rfl
  | _=>rfl
 | .bool,v,_=>by cases v with
  | lit v=>cases v<;>rfl
  | _=>rfl
 | .str,v,_=>by cases v with
  | lit v=>cases v<;>rfl
  | _=>rfl
 | .sl _,v,_=>by
  cases v with
  | lit v=>cases v with
   | slice a n c=>cases a<;>cases n<;>cases c<;>rfl
   | _=>rfl
  | _=>rfl
 | .arr _,v,_=>by cases v<;>rfl
 | .same _,v,_=>by
  cases v with
  | ptr id z i o=>cases i<;>cases o<;>rfl
  | _=>rfl
 | .fz k,v,hv=>mL hv hH
 | .row e k,v,hv=>by
  cases v with
  | own id=>simp only[Bl,hH id hv]
  | lit v=>cases v with
   | slice a n c=>cases a<;>cases n<;>cases c<;>rfl
   | _=>rfl
  | _=>rfl
 | .CV e k,v,hv=>by
  cases v with
  | own id=>simp only[Bl,hH id hv]
  | _=>rfl
 | .abx e k,v,hv=>by
  cases v with
  | ptr id z i o=>cases i<;>cases o<;>first|rfl|simp only[Bl,hH id hv]
  | _=>rfl
 | .agg l,v,hv=>by
  cases v with
  | agg cs=>exact Sg l cs<|InA.Ij hv
  | _=>rfl
 | .box e l,v,hv=>by
  cases v with
  | ptr id z i o=>
   cases i<;>cases o<;>first|rfl|skip
   simp only[Bl,hH id hv];cases ho:H id with
   | none=>rfl
   | some ob=>
    cases ob with
    | box e' cs=>
     have:=Sg l cs<|InA.Ij<|hC id _ hv ho;simp only[this]
    | _=>rfl
  | _=>rfl
theorem Sg:∀(l:List Sh) (cs:List AV),(∀c∈cs,InA F c)->G4 E H' l cs=G4 E H l cs
 | [],[],_=>rfl
 | [],_::_,_=>rfl
 | _::_,[],_=>rfl
 | h::l,c::cs,hv=>by
  simp only[G4,avp h c<|hv c Ap,Sg l cs λd hd=>hv d<|Am _ hd]
end
mutual
theorem avW:∀(h:Sh) (v:AV),InA F v->CQ H' h v=CQ H h v
 | .int _,_,_=>rfl
 | .bool,_,_=>rfl
 | .str,_,_=>rfl
 | .sl _,_,_=>rfl
 | .arr _,_,_=>rfl
 | .same _,_,_=>rfl
 | .fz k,_,_=>rfl
 | .row e k,v,_=>by cases v<;>rfl
 | .CV e k,v,_=>by cases v<;>rfl
 | .abx e k,v,_=>by
  cases v with
  | ptr id z i o=>cases i<;>cases o<;>rfl
  | _=>rfl
 | .agg l,v,hv=>by
  cases v with
  | agg cs=>exact Sn l cs<|InA.Ij hv
  | _=>rfl
 | .box e l,v,hv=>by
  cases v with
  | ptr id z i o=>
   cases i<;>cases o<;>first|rfl|skip
   simp only[CQ,hH id hv];cases ho:H id with
   | none=>rfl
   | some ob=>
    cases ob with
    | box e' cs=>
     have:=Sn l cs<|InA.Ij<|hC id _ hv ho;simp only[this]
    | _=>rfl
  | _=>rfl
theorem Sn:∀(l:List Sh) (cs:List AV),(∀c∈cs,InA F c)->Bh H' l cs=Bh H l cs
 | [],_,_=>by simp only[Bh]
 | _::_,[],_=>by simp only[Bh]
 | h::l,c::cs,hv=>by
  simp only[Bh,avW h c<|hv c Ap,Sn l cs λd hd=>hv d<|Am _ hd]
end
mutual
theorem avm:∀(h:Sh) (v:AV),InA F v->C6 H' h v=C6 H h v
 | .int _,_,_=>rfl
 | .bool,_,_=>rfl
 | .str,_,_=>rfl
 | .sl _,_,_=>rfl
 | .arr _,_,_=>rfl
 | .same _,_,_=>rfl
 | .fz k,_,_=>rfl
 | .row e k,v,_=>by cases v<;>rfl
 | .CV e k,v,_=>by cases v<;>rfl
 | .abx e k,v,_=>by
  cases v with
  | ptr id z i o=>cases i<;>cases o<;>rfl
  | _=>rfl
 | .agg l,v,hv=>by
  cases v with
  | agg cs=>exact Sf l cs<|InA.Ij hv
  | _=>rfl
 | .box e l,v,hv=>by
  cases v with
  | ptr id z i o=>
   cases i<;>cases o<;>first|rfl|skip
   simp only[C6,hH id hv];cases ho:H id with
   | none=>rfl
   | some ob=>
    cases ob with
    | box e' cs=>
     have:=Sf l cs<|InA.Ij<|hC id _ hv ho;simp only[this]
    | _=>rfl
  | _=>rfl
theorem Sf:∀(l:List Sh) (cs:List AV),(∀c∈cs,InA F c)->CP H' l cs=CP H l cs
 | [],_,_=>by simp only[CP]
 | _::_,[],_=>by simp only[CP]
 | h::l,c::cs,hv=>by
  simp only[CP,avm h c<|hv c Ap,Sf l cs λd hd=>hv d<|Am _ hd]
end
mutual
theorem ava:∀(h:Sh) (v:AV),InA F v->Cf H' h v=Cf H h v
 | .int _,_,_=>rfl
 | .bool,_,_=>rfl
 | .str,_,_=>rfl
 | .sl _,_,_=>rfl
 | .arr _,_,_=>rfl
 | .same _,_,_=>rfl
 | .fz k,v,_=>by cases v<;>rfl
 | .row e k,_,_=>rfl
 | .CV e k,_,_=>rfl
 | .abx e k,_,_=>rfl
 | .agg l,v,hv=>by
  cases v with
  | agg cs=>exact Xp l cs<|InA.Ij hv
  | _=>rfl
 | .box e l,v,hv=>by
  cases v with
  | ptr id z i o=>
   cases i<;>cases o<;>first|rfl|skip
   simp only[Cf,hH id hv];cases ho:H id with
   | none=>rfl
   | some ob=>
    cases ob with
    | box e' cs=>
     have:=Xp l cs<|InA.Ij<|hC id _ hv ho;simp only[this]
    | _=>rfl
  | _=>rfl
theorem Xp:∀(l:List Sh) (cs:List AV),(∀c∈cs,InA F c)->Cp H' l cs=Cp H l cs
 | [],_,_=>by simp only[Cp]
 | _::_,[],_=>by simp only[Cp]
 | h::l,c::cs,hv=>by
  simp only[Cp,ava h c<|hv c Ap,Xp l cs λd hd=>hv d<|Am _ hd]
end
end eqs
section mem
variable (hC:DS F H)
include hC
mutual
theorem avn:∀(h:Sh) (v:AV),InA F v->∀i∈C6 H h v,F i
 | .int _,_,_,_,hi=>by simp[C6]at hi
 | .bool,_,_,_,hi=>by simp[C6]at hi
 | .str,_,_,_,hi=>by simp[C6]at hi
 | .sl _,_,_,_,hi=>by simp[C6]at hi
 | .arr _,_,_,_,hi=>by simp[C6]at hi
 | .same _,_,_,_,hi=>by simp[C6]at hi
 | .fz k,_,_,_,hi=>by simp[C6]at hi
 | .row e k,v,hv,i,hi=>by
  cases v<;>simp[C6]at hi;subst hi;exact hv
 | .CV e k,v,hv,i,hi=>by
  cases v<;>simp[C6]at hi;subst hi;exact hv
 | .abx e k,v,hv,j,hi=>by
  cases v with
  | ptr id z i o=>
   cases i<;>cases o<;>simp[C6]at hi;subst hi;exact hv
  | _=>simp[C6]at hi
 | .agg l,v,hv,j,hi=>by
  cases v with
  | agg cs=>exact Xh l cs (InA.Ij hv) j<|by simpa[C6] using hi
  | _=>simp[C6]at hi
 | .box e l,v,hv,j,hi=>by
  cases v with
  | ptr id z i o=>
   cases i<;>cases o<;>simp only[C6]at hi<;>first|(simp at hi;done)|skip
   cases ho:H id with
   | none=>simp[ho]at hi
   | some ob=>
    cases ob with
    | box e' cs=>
     simp only[ho]at hi;exact Xh l cs (InA.Ij<|hC id _ hv ho) j hi
    | _=>simp[ho]at hi
  | _=>simp[C6]at hi
theorem Xh:∀(l:List Sh) (cs:List AV),(∀c∈cs,InA F c)->∀i∈CP H l cs,F i
 | [],cs,_,i,hi=>by simp[CP]at hi
 | _::_,[],_,i,hi=>by simp[CP]at hi
 | h::l,c::cs,hv,i,hi=>by
  simp only[CP,BM]at hi;obtain hi|hi:=hi
  .exact avn h c (hv c Ap) i hi
  .exact Xh l cs (λd hd=>hv d<|Am _ hd) i hi
end
mutual
theorem avb:∀(h:Sh) (v:AV),InA F v->∀i∈Cf H h v,F i
 | .int _,_,_,_,hi=>by simp[Cf]at hi
 | .bool,_,_,_,hi=>by simp[Cf]at hi
 | .str,_,_,_,hi=>by simp[Cf]at hi
 | .sl _,_,_,_,hi=>by simp[Cf]at hi
 | .arr _,_,_,_,hi=>by simp[Cf]at hi
 | .same _,_,_,_,hi=>by simp[Cf]at hi
 | .row e k,_,_,_,hi=>by simp[Cf]at hi
 | .CV e k,_,_,_,hi=>by simp[Cf]at hi
 | .abx e k,_,_,_,hi=>by simp[Cf]at hi
 | .fz k,v,hv,i,hi=>by
  cases v<;>simp[Cf]at hi;subst hi;exact hv
 | .agg l,v,hv,j,hi=>by
  cases v with
  | agg cs=>exact So l cs (InA.Ij hv) j<|by simpa[Cf] using hi
  | _=>simp[Cf]at hi
 | .box e l,v,hv,j,hi=>by
  cases v with
  | ptr id z i o=>
   cases i<;>cases o<;>simp only[Cf]at hi<;>first|(simp at hi;done)|skip
   cases ho:H id with
   | none=>simp[ho]at hi
   | some ob=>
    cases ob with
    | box e' cs=>
     simp only[ho]at hi;exact So l cs (InA.Ij<|hC id _ hv ho) j hi
    | _=>simp[ho]at hi
  | _=>simp[Cf]at hi
theorem So:∀(l:List Sh) (cs:List AV),(∀c∈cs,InA F c)->∀i∈Cp H l cs,F i
 | [],cs,_,i,hi=>by simp[Cp]at hi
 | _::_,[],_,i,hi=>by simp[Cp]at hi
 | h::l,c::cs,hv,i,hi=>by
  simp only[Cp,BM]at hi;obtain hi|hi:=hi
  .exact avb h c (hv c Ap) i hi
  .exact So l cs (λd hd=>hv d<|Am _ hd) i hi
end
end mem
mutual
theorem EF (E:Nat->AV):∀(h:Sh) (H:Hp) (b:Nat) (x:LT h),b<=(BD E H b h x).2.2
 | .int _,_,b,_=>As b
 | .bool,_,b,_=>As b
 | .str,_,b,_=>As b
 | .sl _,_,b,_=>As b
 | .arr _,_,b,_=>As b
 | .same _,_,b,_=>As b
 | .fz _,_,b,_=>As b
 | .row _ _,_,b,_=>lL b
 | .CV _ _,_,b,_=>lL b
 | .abx _ _,_,b,_=>lL b
 | .agg l,H,b,x=>by
  have:=Iy E l H b x;show b<=((match Al E H b l x with|(cs,H,b)=>(AV.agg cs,H,b)):AV×Hp×Nat).2.2;generalize Al E H b l x=r at *;obtain⟨cs,H',b'⟩:=r;exact this
 | .box e l,H,b,x=>by
  have:=Iy E l H b x;show b<=((match Al E H b l x with|(cs,H,b)=>(AV.ptr b cs.length 0 0,upd H b<|I<|.box e cs,b+1)):AV×Hp×Nat).2.2;generalize Al E H b l x=r at *;obtain⟨cs,H',b'⟩:=r;exact Nat.le_succ_of_le this
theorem Iy (E:Nat->AV):∀(l:List Sh) (H:Hp) (b:Nat) (x:LTs l),b<=(Al E H b l x).2.2
 | [],_,b,_=>As b
 | h::l,H,b,x=>by
  have h1:=EF E h H b x.1;show b<=((match BD E H b h x.1 with|(c,H,b)=>match Al E H b l x.2 with|(cs,H,b)=>(c::cs,H,b)):List AV×Hp×Nat).2.2;generalize BD E H b h x.1=r at *;obtain⟨c,H',b'⟩:=r;have h2:=Iy E l H' b' x.2;show b<=((match Al E H' b' l x.2 with|(cs,H,b)=>(c::cs,H,b)):List AV×Hp×Nat).2.2;generalize Al E H' b' l x.2=r at *;obtain⟨cs,H'',b''⟩:=r;exact Ca h1 h2
end
mutual
theorem kX (E:Nat->AV) (H H':Hp):∀(h:Sh) (b:Nat) (x:LT h),(BD E H b h x).1=(BD E H' b h x).1/\(BD E H b h x).2.2=(BD E H' b h x).2.2
 | .int _,_,_=>⟨rfl,rfl⟩
 | .bool,_,_=>⟨rfl,rfl⟩
 | .str,_,_=>⟨rfl,rfl⟩
 | .sl _,_,_=>⟨rfl,rfl⟩
 | .arr _,_,_=>⟨rfl,rfl⟩
 | .same _,_,_=>⟨rfl,rfl⟩
 | .fz _,_,_=>⟨rfl,rfl⟩
 | .row _ _,_,_=>⟨rfl,rfl⟩
 | .CV _ _,_,_=>⟨rfl,rfl⟩
 | .abx _ _,_,_=>⟨rfl,rfl⟩
 | .agg l,b,x=>by
  have:=Q0 E H H' l b x;have un:∀H,BD E H b (.agg l) x=(match Al E H b l x with|(cs,H,b)=>(AV.agg cs,H,b)):=λ_=>rfl;rw[un,un];generalize Al E H b l x=r at *;generalize Al E H' b l x=r' at *;obtain⟨cs,H1,b1⟩:=r;obtain⟨cs',H1',b1'⟩:=r';obtain⟨rfl,rfl⟩:=this;exact⟨rfl,rfl⟩
 | .box e l,b,x=>by
  have:=Q0 E H H' l b x;have un:∀H,BD E H b (.box e l) x=(match Al E H b l x with|(cs,H,b)=>(AV.ptr b cs.length 0 0,upd H b<|I<|.box e cs,b+1)):=λ_=>rfl;rw[un,un];generalize Al E H b l x=r at *;generalize Al E H' b l x=r' at *;obtain⟨cs,H1,b1⟩:=r;obtain⟨cs',H1',b1'⟩:=r';obtain⟨rfl,rfl⟩:=this;exact⟨rfl,rfl⟩
theorem Q0 (E:Nat->AV) (H H':Hp):∀(l:List Sh) (b:Nat) (x:LTs l),(Al E H b l x).1=(Al E H' b l x).1/\(Al E H b l x).2.2=(Al E H' b l x).2.2
 | [],_,_=>⟨rfl,rfl⟩
 | h::l,b,x=>by
  have h1:=kX E H H' h b x.1;have un:∀H,Al E H b (h::l) x=(match BD E H b h x.1 with|(c,H,b)=>match Al E H b l x.2 with|(cs,H,b)=>(c::cs,H,b)):=λ_=>rfl;rw[un,un];generalize BD E H b h x.1=r at *;generalize BD E H' b h x.1=r' at *;obtain⟨c,H1,b1⟩:=r;obtain⟨c',H1',b1'⟩:=r';obtain⟨rfl,rfl⟩:=h1;have h2:=Q0 E H1 H1' l b1 x.2;simp only;generalize Al E H1 b1 l x.2=r at *;generalize Al E H1' b1 l x.2=r' at *;obtain⟨cs,H2,b2⟩:=r;obtain⟨cs',H2',b2'⟩:=r';obtain⟨rfl,rfl⟩:=h2;exact⟨rfl,rfl⟩
end
mutual
theorem Xe (E:Nat->AV):∀(h:Sh) (b:Nat) (x:LT h) (L:Nat),Df h=A0->(∀j,b<=j->j<L->F j/\W j)->(∀H,(BD E H b h x).2.2<=L)->
  ∃v es b',In1 F v/\(∀p∈es,W p.1/\En F p.2)/\ ∀H,BD E H b h x=(v,EI es H,b')
 | .int k,b,x,_,_,_,_=>⟨.lit<|.int k x,[],b,trivial,by simp,λ_=>rfl⟩
 | .bool,b,x,_,_,_,_=>⟨.b x,[],b,trivial,by simp,λ_=>rfl⟩
 | .str,b,x,_,_,_,_=>⟨.s x,[],b,trivial,by simp,λ_=>rfl⟩
 | .sl k,b,x,_,_,_,_=>⟨.sl k x,[],b,trivial,by simp,λ_=>rfl⟩
 | .arr _,_,_,_,h,_,_=>by simp[Df]at h
 | .same _,_,_,_,h,_,_=>by simp[Df]at h
 | .fz k,b,x,_,_,_,_=>⟨.sl k x,[],b,trivial,by simp,λ_=>rfl⟩
 | .row e k,b,x,L,_,hF,hL=>⟨.own b,[(b,.row e A3 k x)],b+1,(hF b (As b)<|hL λ_=>U).1,λp hp=>by
   simp at hp;subst hp;exact⟨(hF b (As b)<|hL λ_=>U).2,trivial⟩,λ_=>rfl⟩
 | .CV e k,b,x,L,_,hF,hL=>⟨.own b,[(b,.row e A0 k x)],b+1,(hF b (As b)<|hL λ_=>U).1,λp hp=>by
   simp at hp;subst hp;exact⟨(hF b (As b)<|hL λ_=>U).2,trivial⟩,λ_=>rfl⟩
 | .abx e k,b,x,L,_,hF,hL=>⟨.ptr b (ks k) 0 0,[(b,.arr e k x)],b+1,(hF b (As b)<|hL λ_=>U).1,λp hp=>by
   simp at hp;subst hp;exact⟨(hF b (As b)<|hL λ_=>U).2,trivial⟩,λ_=>rfl⟩
 | .agg _,_,_,_,h,_,_=>by simp[Df]at h
 | .box e l,b,x,L,h,hF,hL=>by
  have un:∀H,BD E H b (.box e l) x=(match Al E H b l x with|(cs,H,b)=>(AV.ptr b cs.length 0 0,upd H b<|I<|.box e cs,b+1)):=λ_=>rfl;have hL':∀H,(Al E H b l x).2.2+1<=L:=λH=>by
   have:=hL H;rw[un]at this;generalize Al E H b l x=r at *;exact this
  obtain⟨vs,es,b',h1,h2,h3⟩:=js E l b x L (by simpa[Df] using h) hF (λH=>Nat.le_of_succ_le<|hL' H);have hb':b'<L:=by have:=hL' λ_=>U;rw[h3]at this;exact this
  have hbb:b<=b':=by have:=Iy E l (λ_=>U) b x;rw[h3]at this;exact this
  refine⟨.ptr b' vs.length 0 0,es++[(b',.box e vs)],b'+1,(hF b' hbb hb').1,λp hp=> ?_,λH=> ?_⟩
  .rcases BM.1 hp with hp|hp
   .exact h2 p hp
   .simp at hp;subst hp;exact⟨(hF b' hbb hb').2,h1⟩
  .rw[un,h3];simp[EI,HW]
theorem js (E:Nat->AV):∀(l:List Sh) (b:Nat) (x:LTs l) (L:Nat),Hr l=A0->(∀j,b<=j->j<L->F j/\W j)->(∀H,(Al E H b l x).2.2<=L)->
  ∃vs es b',(∀v∈vs,In1 F v)/\(∀p∈es,W p.1/\En F p.2)/\ ∀H,Al E H b l x=(vs,EI es H,b')
 | [],b,_,_,_,_,_=>⟨[],[],b,by simp,by simp,λ_=>rfl⟩
 | h::l,b,x,L,hl,hF,hL=>by
  simp only[Hr,AE]at hl;have un:∀H,Al E H b (h::l) x=(match BD E H b h x.1 with|(c,H,b)=>match Al E H b l x.2 with|(cs,H,b)=>(c::cs,H,b)):=λ_=>rfl;have hL1:∀H,(BD E H b h x.1).2.2<=L:=λH=>by
   have:=hL H;rw[un]at this;generalize BD E H b h x.1=r at *;obtain⟨c,H',b'⟩:=r;have h2:=Iy E l H' b' x.2;simp only at this;generalize Al E H' b' l x.2=r at *;exact Ca h2 this
  obtain⟨v,es,b',h1,h2,h3⟩:=Xe E h b x.1 L hl.1 hF hL1;have hbb:b<=b':=by have:=EF E h (λ_=>U) b x.1;rw[h3]at this;exact this
  have hL2:∀H,(Al E H b' l x.2).2.2<=L:=λH=>by
   have:=hL H;rw[un,h3]at this;simp only at this;rw[(Q0 E H (EI es H) l b' x.2).2];generalize Al E (EI es H) b' l x.2=r at *;exact this
  obtain⟨vs,es',b'',h4,h5,h6⟩:=js E l b' x.2 L hl.2 (λj h1 h2=>hF j (Ca hbb h1) h2) hL2;refine⟨v::vs,es++es',b'',λc hc=> ?_,λp hp=> ?_,λH=> ?_⟩
  .rcases Bj.1 hc with rfl|hc
   .exact h1
   .exact h4 c hc
  .rcases BM.1 hp with hp|hp
   .exact h2 p hp
   .exact h5 p hp
  .rw[un,h3];simp only[h6,EI,HW]
end
def jz{E:Nat->AV}{H:Hp}{b:Nat}{h:Sh}{v:AV}{x:LT h}(hl:Df h=A0)(hn:∀e l,h= .box e l->∀id z,v≠ .ptr id z 0 0):Ct E H b h v x=BD E H b h x:=by
 cases h<;>first|rfl|(simp[Df]at hl;done)|skip
 rename_i e l;cases v<;>first|rfl|skip
 rename_i id z i o;cases i<;>cases o<;>first|rfl|exact absurd rfl (hn e l rfl id z)
mutual
theorem aa1 (E:Nat->AV):∀(h:Sh) (H:Hp) (b:Nat) (v:AV) (x:LT h),Df h=A0->b<=(Ct E H b h v x).2.2
 | .box e l,H,b,v,x,hl=>by
  by_cases hv:∃id z,v= .ptr id z 0 0
  .obtain⟨id,z,rfl⟩:=hv;have un:Ct E H b (.box e l) (.ptr id z 0 0) x=(match H id with
    | some (.box _ cs)=>(match BN E H b l cs x with|(ds,H,b)=>(AV.ptr id z 0 0,upd H id<|I<|.box e ds,b))
    | _=>(.un,H,b)):=rfl
   rw[un];cases H id with
   | none=>exact As b
   | some ob=>
    cases ob with
    | box e' cs=>
     have:=Xo E l H b cs x (by simpa[Df] using hl);simp only;generalize BN E H b l cs x=r at *;obtain⟨ds,H',b'⟩:=r;exact this
    | _=>exact As b
  .rw[jz hl λ_ _ _ id z e=>hv ⟨id,z,e⟩];exact EF E _ H b x
 | .int _,H,b,v,x,hl=>EF E _ H b x
 | .bool,H,b,v,x,hl=>EF E _ H b x
 | .str,H,b,v,x,hl=>EF E _ H b x
 | .sl _,H,b,v,x,hl=>EF E _ H b x
 | .row _ _,H,b,v,x,hl=>EF E _ H b x
 | .fz _,H,b,v,x,hl=>EF E _ H b x
 | .CV _ _,H,b,v,x,hl=>EF E _ H b x
 | .abx _ _,H,b,v,x,hl=>EF E _ H b x
 | .arr _,H,b,v,x,hl=>EF E _ H b x
 | .same _,_,_,_,_,hl=>by simp[Df]at hl
 | .agg _,_,_,_,_,hl=>by simp[Df]at hl
theorem Xo (E:Nat->AV):∀(l:List Sh) (H:Hp) (b:Nat) (cs:List AV) (x:LTs l),Hr l=A0->b<=(BN E H b l cs x).2.2
 | [],_,b,_,_,_=>As b
 | h::l,H,b,cs,x,hl=>by
  simp only[Hr,AE]at hl;have h1:=aa1 E h H b (cs.headD .un) x.1 hl.1;have un:BN E H b (h::l) cs x=(match Ct E H b h (cs.headD .un) x.1 with|(d,H,b)=>match BN E H b l cs.tail x.2 with|(ds,H,b)=>(d::ds,H,b)):=rfl;rw[un];generalize Ct E H b h (cs.headD .un) x.1=r at *;obtain⟨c,H',b'⟩:=r;have h2:=Xo E l H' b' cs.tail x.2 hl.2;simp only;generalize BN E H' b' l cs.tail x.2=r at *;obtain⟨cs,H'',b''⟩:=r;exact Ca h1 h2
end
def atL{es:List (Nat×Ob)}(h:Agr F H H'):Agr F (EI es H) (EI es H'):=by
 induction es generalizing H H' with
 | nil=>exact h
 | cons p es ih=>
  refine ih λid hid=> ?_;by_cases e:id=p.1
  .subst e;simp only[Bf]
  .simp only[BB _ _ e];exact h id hid
def apS{es:List (Nat×Ob)}(h:DS F H)(he:∀p∈es,En F p.2):DS F (EI es H):=by
 induction es generalizing H with
 | nil=>exact h
 | cons p es ih=>
  refine ih (λid ob hid ho=> ?_) (λq hq=>he q<|Am _ hq);by_cases e:id=p.1
  .subst e;simp only[Bf]at ho;cases ho;exact he p Ap
  .simp only[BB _ _ e]at ho;exact h id ob hid ho
def N7{E:Nat->AV}{H:Hp}{b:Nat}{h:Sh}{v:AV}{x:LT h}{L:Nat}(eq:∀H,Ct E H b h v x=BD E H b h x)(hl:Df h=A0)(hF:∀j,b<=j->j<L->F j)(hL:(Ct E H b h v x).2.2<=L):
  ∃v' es b',In1 F v'/\(∀p∈es,F p.1/\En F p.2)/\ ∀H',Agr F H H'->Ct E H' b h v x=(v',EI es H',b'):=by
 obtain⟨v',es,b',h1,h2,h3⟩:=Xe (F:=F) (W:=F) E h b x L hl (λj h1 h2=>⟨hF j h1 h2,hF j h1 h2⟩) (λH0=>by rw[(kX E H0 H _ b x).2,← eq H];exact hL);exact⟨v',es,b',h1,h2,λH' _=>by rw[eq,h3]⟩
mutual
theorem ati (E:Nat->AV):∀(h:Sh) (H:Hp) (b:Nat) (v:AV) (x:LT h) (L:Nat),Df h=A0->(∀j,b<=j->j<L->F j)->InA F v->DS F H->(Ct E H b h v x).2.2<=L->
  ∃v' es b',In1 F v'/\(∀p∈es,F p.1/\En F p.2)/\ ∀H',Agr F H H'->Ct E H' b h v x=(v',EI es H',b')
 | .box e l,H,b,v,x,L,hl,hF,hv,hC,hL=>by
  by_cases hp:∃id z,v= .ptr id z 0 0
  .obtain⟨id,z,rfl⟩:=hp;have un:∀H,Ct E H b (.box e l) (.ptr id z 0 0) x=(match H id with
    | some (.box _ cs)=>(match BN E H b l cs x with|(ds,H,b)=>(AV.ptr id z 0 0,upd H id<|I<|.box e ds,b))
    | _=>(.un,H,b)):=λ_=>rfl
   have hid:F id:=hv;cases ho:H id with
   | none=>exact⟨.un,[],b,trivial,by simp,λH' h=>by rw[un,h id hid,ho];rfl⟩
   | some ob=>
    cases ob with
    | box e' cs=>
     rw[un,ho]at hL;have hL':(BN E H b l cs x).2.2<=L:=by
      simp only at hL;generalize BN E H b l cs x=r at *;exact hL
     obtain⟨vs,es,b',h1,h2,h3⟩:=jy E l H b cs x L (by simpa[Df] using hl) hF (InA.Ij<|hC id _ hid ho) hC hL';refine⟨.ptr id z 0 0,es++[(id,.box e vs)],b',hid,λp hp=> ?_,λH' h=> ?_⟩
     .rcases BM.1 hp with hp|hp
      .exact h2 p hp
      .simp at hp;subst hp;exact⟨hid,h1⟩
     .rw[un,h id hid,ho];simp only[h3 H' h,EI,HW,EL,M4]
    | row=>exact⟨.un,[],b,trivial,by simp,λH' h=>by rw[un,h id hid,ho];rfl⟩
    | arr=>exact⟨.un,[],b,trivial,by simp,λH' h=>by rw[un,h id hid,ho];rfl⟩
  .have eq:∀H,Ct E H b (.box e l) v x=BD E H b (.box e l) x:=λH=>jz hl (λ_ _ _ id z e=>hp ⟨id,z,e⟩);obtain⟨v',es,b',h1,h2,h3⟩:=Xe (F:=F) (W:=F) E (.box e l) b x L hl (λj h1 h2=>⟨hF j h1 h2,hF j h1 h2⟩) (λH0=>by rw[(kX E H0 H _ b x).2,← eq H];exact hL);exact⟨v',es,b',h1,h2,λH' _=>by rw[eq,h3]⟩
 | .int k,H,b,v,x,L,hl,hF,hv,hC,hL=>N7 (λH=>rfl) hl hF hL
 | .bool,H,b,v,x,L,hl,hF,hv,hC,hL=>N7 (λH=>rfl) hl hF hL
 | .str,H,b,v,x,L,hl,hF,hv,hC,hL=>N7 (λH=>rfl) hl hF hL
 | .sl _,H,b,v,x,L,hl,hF,hv,hC,hL=>N7 (λH=>rfl) hl hF hL
 | .row _ _,H,b,v,x,L,hl,hF,hv,hC,hL=>N7 (λH=>rfl) hl hF hL
 | .fz _,H,b,v,x,L,hl,hF,hv,hC,hL=>N7 (λH=>rfl) hl hF hL
 | .CV _ _,H,b,v,x,L,hl,hF,hv,hC,hL=>N7 (λH=>rfl) hl hF hL
 | .abx _ _,H,b,v,x,L,hl,hF,hv,hC,hL=>N7 (λH=>rfl) hl hF hL
 | .arr _,_,_,_,_,_,hl,_,_,_,_=>by simp[Df]at hl
 | .same _,_,_,_,_,_,hl,_,_,_,_=>by simp[Df]at hl
 | .agg _,_,_,_,_,_,hl,_,_,_,_=>by simp[Df]at hl
theorem jy (E:Nat->AV):∀(l:List Sh) (H:Hp) (b:Nat) (cs:List AV) (x:LTs l) (L:Nat),Hr l=A0->(∀j,b<=j->j<L->F j)->(∀c∈cs,InA F c)->DS F H->(BN E H b l cs x).2.2<=L->
  ∃vs es b',(∀v∈vs,In1 F v)/\(∀p∈es,F p.1/\En F p.2)/\ ∀H',Agr F H H'->BN E H' b l cs x=(vs,EI es H',b')
 | [],_,b,_,_,_,_,_,_,_,_=>⟨[],[],b,by simp,by simp,λ_ _=>rfl⟩
 | h::l,H,b,cs,x,L,hl,hF,hv,hC,hL=>by
  simp only[Hr,AE]at hl;have un:∀H,BN E H b (h::l) cs x=(match Ct E H b h (cs.headD .un) x.1 with|(d,H,b)=>match BN E H b l cs.tail x.2 with|(ds,H,b)=>(d::ds,H,b)):=λ_=>rfl;have hh:InA F (cs.headD .un):=by
   cases cs with
   | nil=>exact .of1 trivial
   | cons c cs=>exact hv c Ap
  have ht:∀c∈cs.tail,InA F c:=λc hc=>hv c<|List.mem_of_mem_tail hc;have hL1:(Ct E H b h (cs.headD .un) x.1).2.2<=L:=by
   rw[un]at hL;generalize Ct E H b h (cs.headD .un) x.1=r at *;obtain⟨c,H',b'⟩:=r;have h2:=Xo E l H' b' cs.tail x.2 hl.2;simp only at hL;generalize BN E H' b' l cs.tail x.2=r at *;exact Ca h2 hL
  obtain⟨v,es,b',h1,h2,h3⟩:=ati E h H b (cs.headD .un) x.1 L hl.1 hF hh hC hL1;have e0:=h3 H<|Agr.refl F H;have hbb:b<=b':=by have:=aa1 E h H b (cs.headD .un) x.1 hl.1;rw[e0]at this;exact this
  have hL2:(BN E (EI es H) b' l cs.tail x.2).2.2<=L:=by
   rw[un,e0]at hL;simp only at hL;generalize BN E (EI es H) b' l cs.tail x.2=r at *;exact hL
  obtain⟨vs,es',b'',h4,h5,h6⟩:=jy E l (EI es H) b' cs.tail x.2 L hl.2 (λj h1 h2=>hF j (Ca hbb h1) h2) ht (apS hC λp hp=>(h2 p hp).2) hL2;refine⟨v::vs,es++es',b'',λc hc=> ?_,λp hp=> ?_,λH' h=> ?_⟩
  .rcases Bj.1 hc with rfl|hc
   .exact h1
   .exact h4 c hc
  .rcases BM.1 hp with hp|hp
   .exact h2 p hp
   .exact h5 p hp
  .rw[un,h3 H' h];simp only[h6 _<|atL h,EI,HW]
end
end
end Go.VS
namespace Go.VS
open Go
section
variable {F W:Nat->Prop} {H H':Hp} {P:Program} {s s' s2:S} {b:Nat} {E:Nat->AV} {C:Cx}
def ase(E:Nat->AV)(h:Sh)(b:Nat)(x:LT h)(L:Nat)(hl:abJ h=A0)(hF:∀j,b<=j->j<L->F j/\W j)(hL:∀H,(BD E H b h x).2.2<=L):
  ∃v es b',In2 F v/\(∀p∈es,W p.1/\En F p.2)/\ ∀H,BD E H b h x=(v,EI es H,b'):=by
 by_cases hh:Df h=A0
 .obtain⟨v,es,b',h1,h2,h3⟩:=Xe (F:=F) (W:=W) E h b x L hh hF hL;exact⟨v,es,b',.of1 h1,h2,h3⟩
 .cases h<;>first|(exact absurd hl hh;done)|exact⟨.arr _ x,[],b,trivial,by simp,λ_=>rfl⟩|skip
  rename_i l;have un:∀H,BD E H b (.agg l) x=(match Al E H b l x with|(cs,H,b)=>(AV.agg cs,H,b)):=λ_=>rfl;obtain⟨vs,es,b',h1,h2,h3⟩:=js (F:=F) (W:=W) E l b x L hl hF (λH=>by
   have:=hL H;rw[un]at this;generalize Al E H b l x=r at *;exact this)
  exact⟨.agg vs,es,b',h1,h2,λH=>by rw[un,h3]⟩
def jU(E:Nat->AV):∀(l:List Sh) (b:Nat) (x:LTs l) (L:Nat),ZA l=A0->(∀j,b<=j->j<L->F j/\W j)->(∀H,(Al E H b l x).2.2<=L)->
  ∃vs es b',(∀v∈vs,In2 F v)/\(∀p∈es,W p.1/\En F p.2)/\ ∀H,Al E H b l x=(vs,EI es H,b')
 | [],b,_,_,_,_,_=>⟨[],[],b,by simp,by simp,λ_=>rfl⟩
 | h::l,b,x,L,hl,hF,hL=>by
  simp only[ZA,AE]at hl;have un:∀H,Al E H b (h::l) x=(match BD E H b h x.1 with|(c,H,b)=>match Al E H b l x.2 with|(cs,H,b)=>(c::cs,H,b)):=λ_=>rfl;have hL1:∀H,(BD E H b h x.1).2.2<=L:=λH=>by
   have:=hL H;rw[un]at this;generalize BD E H b h x.1=r at *;obtain⟨c,H',b'⟩:=r;have h2:=Iy E l H' b' x.2;simp only at this;generalize Al E H' b' l x.2=r at *;exact Ca h2 this
  obtain⟨v,es,b',h1,h2,h3⟩:=ase E h b x.1 L hl.1 hF hL1;have hbb:b<=b':=by have:=EF E h (λ_=>U) b x.1;rw[h3]at this;exact this
  have hL2:∀H,(Al E H b' l x.2).2.2<=L:=λH=>by
   have:=hL H;rw[un,h3]at this;simp only at this;rw[(Q0 E H (EI es H) l b' x.2).2];generalize Al E (EI es H) b' l x.2=r at *;exact this
  obtain⟨vs,es',b'',h4,h5,h6⟩:=jU E l b' x.2 L hl.2 (λj h1 h2=>hF j (Ca hbb h1) h2) hL2;refine⟨v::vs,es++es',b'',λc hc=> ?_,λp hp=> ?_,λH=> ?_⟩
  .rcases Bj.1 hc with rfl|hc
   .exact h1
   .exact h4 c hc
  .rcases BM.1 hp with hp|hp
   .exact h2 p hp
   .exact h5 p hp
  .rw[un,h3];simp only[h6,EI,HW]
abbrev stp(p:Nat×Ob):Step:=⟨p.1,.no,I p.2⟩
def kF:∀(es:List (Nat×Ob)) (s:S),(es.map stp).foldl S.app s={ s with H:=EI es s.H }
 | [],_=>rfl
 | p::es,s=>by
  rw[DP,EL,J0,kF es];rfl
def j9:∀(ps:List Sh) (vs:List AV),∀v∈Fg ps vs,v∈vs
 | [],vs,v,h=>by cases vs<;>simp[Fg]at h
 | p::ps,[],v,h=>by cases p<;>simp[Fg]at h
 | p::ps,x::vs,v,h=>by
  cases p<;>simp only[Fg,Bj]at h ⊢ <;>first
   | exact .inr (j9 ps vs v h)
   | exact h.imp id (j9 ps vs v)
def aD7{vs:List AV}(h:∀v∈vs,In2 F v):InA F (Ll vs):=by
 unfold Ll;split
 .exact .of2 (h _<|by simp)
 .exact .of3 h
def abE(H:Hp)(m:DU)(as:List AV)(b:Nat)(W:Step->Prop):Prop:=
 (∀e:Step,e.id∈CP H m.ps as->W e)/\((CH m.rs||CH (B1 m.ps))=A0->∀e:Step,e.id∈Cp H m.ps as->W e)/\(∀e:Step,b<=e.id->e.id<b+16->W e)
variable {WS:Step->Prop}
def as6{m:DU}{d:Option Nat}{as:List AV}(hm:okS m=A0)(has:∀v∈as,InA F v)(hC:DS F s.H)(hF:∀j,b<=j->j<b+16->F j)
  (hW:abE s.H m as b WS)(hB:(B1 m.ps).isEmpty=A0\/ ∀e:Step,F e.id->e.fk= .no->WS e)(h:HN m s b d as I=I s'):
  ∃(v:AV) (es:List Step),InA F v/\(∀e∈es,WS e/\Gc F e)/\s'=(es.foldl S.app s).put d v/\ ∀s2:S,Agr F s.H s2.H->HN m s2 b d as I=I ((es.foldl S.app s2).put d v):=by
 simp only[okS,AE]at hm;obtain⟨hW1,hW2,hW3⟩:=hW;unfold HN at h;simp only at h;split at h
 .rename_i x hx hn;obtain⟨r,hr,h⟩:=Aj.1 h;obtain⟨es1,k1,k2,k3⟩:=aCm (CP s.H m.ps as) s;have k4:∃es2:List Step,(∀e∈es2,WS e/\e.ob=U)/\
    G8 (CH m.rs||CH (B1 m.ps)) (Cp s.H m.ps as) ((CP s.H m.ps as).foldl S.kill s)=es2.foldl S.app s/\
    ∀s2:S,Agr F s.H s2.H->G8 (CH m.rs||CH (B1 m.ps)) (Cp s.H m.ps as) ((CP s.H m.ps as).foldl S.kill s2)=es2.foldl S.app s2:=by
   cases hq:(CH m.rs||CH (B1 m.ps)) with
   | false=>exact⟨es1,λe he=>⟨hW1 e (k1 e he).1,(k1 e he).2⟩,k2,λs2 _=>k3 s2⟩
   | true=>
    obtain⟨es2,j1,j2,j3⟩:=Wc (F:=F) (Cp s.H m.ps as) (es1.foldl S.app s)<|So hC m.ps as has;refine⟨es1++es2,λe he=> ?_, ?_,λs2 h2=> ?_⟩
    .rcases BM.1 he with he|he
     .exact⟨hW1 e (k1 e he).1,(k1 e he).2⟩
     .exact⟨hW2 hq e (j1 e he).1,(j1 e he).2⟩
    .simp only[G8,k2,j2,HW]
    .simp only[G8,k3,HW];exact j3 _ h2.oC
  obtain⟨es2,j1,j2,j3⟩:=k4;rw[j2]at h;have hC2:DS F (es2.foldl S.app s).H:=by
   have:∀(es:List Step) (s:S),DS F s.H->(∀e∈es,e.ob=U)->DS F (es.foldl S.app s).H:=by
    intro es
    induction es with
    | nil=>intro s h _;exact h
    | cons e es ih=>exact λs h he=>ih _ (h.app λob eo=>by rw[he e Ap]at eo;cases eo) λe' h'=>he e'<|Am _ h'
   exact this es2 s hC λe he=>(j1 e he).2
  have hL1:(BN (λi=>(as[i]?).getD .un) (es2.foldl S.app s).H b (B1 m.ps) (Fg m.ps as) r.2).2.2<=b+16:=by
   generalize BN (λi=>(as[i]?).getD .un) (es2.foldl S.app s).H b (B1 m.ps) (Fg m.ps as) r.2=q at *;obtain⟨_,H1,b1⟩:=q;have:=Iy (λi=>(as[i]?).getD .un) m.rs H1 b1 r.1;simp only at h;generalize Al (λi=>(as[i]?).getD .un) H1 b1 m.rs r.1=q at *;obtain⟨vs,H2,b2⟩:=q;simp only at h;split at h
   .rename_i hb;exact Ca this (DX hb)
   .cases h
  have hg:∃ds es3 b1,b<=b1/\(∀p∈es3,WS (stp p)/\En F p.2)/\ ∀H',Agr F (es2.foldl S.app s).H H'->BN (λi=>(as[i]?).getD .un) H' b (B1 m.ps) (Fg m.ps as) r.2=(ds,EI es3 H',b1):=by
   obtain hB|hB:=hB
   .exact⟨[],[],b,As b,by simp,λH' _=>aCJ _ _ _ _ _ _ hB⟩
   .obtain⟨ds,es3,b1,i1,i2,i3⟩:=jy (F:=F) (λi=>(as[i]?).getD .un) (B1 m.ps) (es2.foldl S.app s).H b (Fg m.ps as) r.2 (b+16) hm.2 hF (λv hv=>has v<|j9 _ _ v hv) hC2 hL1;have:=Xo (λi=>(as[i]?).getD .un) (B1 m.ps) (es2.foldl S.app s).H b (Fg m.ps as) r.2 hm.2;rw[i3 _<|Agr.refl _ _]at this;exact⟨ds,es3,b1,this,λp hp=>⟨hB (stp p) (i2 p hp).1 rfl,(i2 p hp).2⟩,i3⟩
  obtain⟨ds,es3,b1,hb1,i2,i3⟩:=hg;rw[i3 _<|Agr.refl _ _]at h;simp only at h;have hL2:∀H,(Al (λi=>(as[i]?).getD .un) H b1 m.rs r.1).2.2<=b+16:=λH=>by
   rw[(Q0 _ H (EI es3 (es2.foldl S.app s).H) m.rs b1 r.1).2];generalize Al (λi=>(as[i]?).getD .un) (EI es3 (es2.foldl S.app s).H) b1 m.rs r.1=q at *;obtain⟨vs,H2,b2⟩:=q;simp only at h;split at h
   .rename_i hb;exact DX hb
   .cases h
  obtain⟨vs,es4,b2,l1,l2,l3⟩:=jU (F:=F) (W:=λj=>b<=j/\j<b+16) (λi=>(as[i]?).getD .un) m.rs b1 r.1 (b+16) hm.1
   (λj h1 h2=>⟨hF j (Ca hb1 h1) h2,Ca hb1 h1,h2⟩) hL2
  rw[l3]at h;simp only at h;split at h
  .rename_i hb;cases h;refine⟨Ll vs,es2++es3.map stp++es4.map stp,aD7 l1,λe he=> ?_, ?_,λs2 h2=> ?_⟩
   .rcases BM.1 he with he|he
    .rcases BM.1 he with he|he
     .exact⟨(j1 e he).1,λob eo=>by rw[(j1 e he).2]at eo;cases eo⟩
     .obtain⟨p,hp,rfl⟩:=DE.1 he;exact⟨(i2 p hp).1,λob eo=>by cases eo;exact(i2 p hp).2⟩
    .obtain⟨p,hp,rfl⟩:=DE.1 he;exact⟨hW3 (stp p) (l2 p hp).1.1 (l2 p hp).1.2,λob eo=>by cases eo;exact(l2 p hp).2⟩
   .simp only[HW,kF]
   .unfold HN;simp only[Sg h2 hC m.ps as has,Sn h2 hC m.ps as has,Sf h2 hC m.ps as has,Xp h2 hC m.ps as has,hx,hn,hr,A9,j3 s2 h2];rw[i3 _ h2.oC];simp only[l3,hb,HW,kF]
  .cases h
 .cases h
end
end Go.VS
namespace Go.VS
open Go
section
variable {F G N:Nat->Prop} {WS:Step->Prop} {H H':Hp} {P:Program} {s s' s2:S} {b:Nat} {C:Cx}
def In1.mono(h:∀id,F id->G id){v:AV}(hv:In1 F v):In1 G v:=by
 cases v<;>first|exact h _ hv|exact hv
def In2.mono(h:∀id,F id->G id){v:AV}(hv:In2 F v):In2 G v:=by
 have gen:In1 F v->In2 G v:=λhv=> .of1<|hv.mono h;cases v<;>first|exact λc hc=>(hv c hc).mono h|exact gen hv
def In3.mono(h:∀id,F id->G id){v:AV}(hv:In3 F v):In3 G v:=by
 have gen:In2 F v->In3 G v:=λhv=> .of2<|hv.mono h;cases v<;>first|exact λc hc=>In2.mono h (hv c hc)|exact gen hv
def InA.mono(h:∀id,F id->G id){v:AV}(hv:InA F v):InA G v:=by
 have gen:In3 F v->InA G v:=λhv=> .of3<|hv.mono h;cases v with
 | gd g w v=>exact In3.mono h hv
 | _=>exact gen hv
def Agr.mono(h:∀id,F id->G id)(hG:Agr G H H'):Agr F H H':=λid hid=>hG id<|h id hid
def aDO{f:AV->AV}(hf:∀c,In1 F c->In1 F (f c)){v:AV}(h:In2 F v):In2 F (Fo f v):=by
 cases v<;>first|exact .of1 (hf _ h)|skip
 rename_i cs;intro c hc;obtain⟨c0,h0,rfl⟩:=DE.1 hc;exact hf _<|h c0 h0
def aDN{f:AV->AV}(hf:∀c,In1 F c->In1 F (f c)){v:AV}(h:In3 F v):In3 F (G5 f v):=by
 have gen:In2 F v->In3 F (Fo f v):=λh=> .of2<|aDO hf h;cases v with
 | tup cs=>
  intro c hc;obtain⟨c0,h0,rfl⟩:=DE.1 hc;exact aDO hf<|h c0 h0
 | _=>exact gen h
def aEn{f:AV->AV}(hf:∀c,In1 F c->In1 F (f c)){v:AV}(h:InA F v):InA F (El f v):=by
 have gen:In3 F v->InA F (G5 f v):=λh=> .of3<|aDN hf h;cases v with
 | gd g w v=>exact aDN hf h
 | _=>exact gen h
def atT{x:Operand}{e:Step}(h:InA F (s.ev x)):InA F ((s.app e).ev x):=by
 cases x with
 | tmp t=>exact aEn (λc hc=>Fk.aB _ _ hc) h
 | _=>exact h
def jW{x:Operand}:∀(es:List Step) (s:S),InA F (s.ev x)->InA F ((es.foldl S.app s).ev x)
 | [],_,h=>h
 | e::es,s,h=>jW es _ (atT h)
def atS{x:Operand}{e:Step}(h:s2.ev x=s.ev x):(s2.app e).ev x=(s.app e).ev x:=by
 cases x with
 | tmp t=>exact congrArg (El<|e.fk.f e.id) h
 | _=>exact h
def aBj{x:Operand}:∀(es:List Step) (s s2:S),s2.ev x=s.ev x->(es.foldl S.app s2).ev x=(es.foldl S.app s).ev x
 | [],_,_,h=>h
 | e::es,s,s2,h=>aBj es _ _ (atS h)
def aAZ:∀(es:List Step) (s:S),DS F s.H->(∀e∈es,Gc F e)->DS F (es.foldl S.app s).H
 | [],_,h,_=>h
 | e::es,s,h,he=>aAZ es _ (h.app<|he e Ap) λe' h'=>he e'<|Am _ h'
def arF{ρ:Operand->AV}:∀(ps:List (Nat×Operand)),(∀p∈ps,InA F<|ρ p.2)->∀i∈Kc ρ ps,F i:=by
 intro ps hp i hi;obtain⟨p,h1,h2⟩:=List.mem_flatMap.1 hi;have:=hp p h1;split at h2
 .rename_i cs e;rw[e]at this;exact aab this i h2
 .rename_i v hn;cases hv:ρ p.2<;>rw[hv]at h2 this<;>first|(simp[Gq]at h2;done)|skip
  simp[Gq]at h2;subst h2;exact this
def abF(C:Cx)(F N:Nat->Prop)(WS:Step->Prop)(b:Nat)(o:Oper)(s s':S):Prop:=
 ∃(v:AV) (es:List Step),InA F v/\(∀e∈es,WS e/\Gc F e)/\s'=(es.foldl S.app s).put o.dst v/\
  ∀s2:S,(∀x∈o.op.operands,s2.ev x=s.ev x)->s2.has o.dst=s.has o.dst->Agr N s.H s2.H->CE C (AF S) o b s2 I=I ((es.foldl S.app s2).put o.dst v)
def aDi{op:Op}{kd:TypeId->Option K}{d:Option Nat}(hF:∀x∈op.operands,InA F<|s.ev x)(hN:mov op=A0\/ ∀x∈op.operands,InA N<|s.ev x)(hC:∀id ob,N id->s.H id=I ob->En F ob)(hb:F b)(hW:∀ob,WS ⟨b,.no,I ob⟩)
  (he:(match C5 P kd s.ev s.H b op with
   | some (q,v,os)=>if q then I ({ s with H:=Ef s.H b os }.put d v) else U
   | none=>U)=I s'):
  ∃(v:AV) (es:List Step),InA F v/\(∀e∈es,WS e/\Gc F e)/\s'=(es.foldl S.app s).put d v/\
   ∀s2:S,(∀x∈op.operands,s2.ev x=s.ev x)->Agr N s.H s2.H->(match C5 P kd s2.ev s2.H b op with
    | some (q,v,os)=>if q then I ({ s2 with H:=Ef s2.H b os }.put d v) else U
    | none=>U)=I ((es.foldl S.app s2).put d v):=by
 split at he
 .rename_i q v os hp;split at he
  .rename_i hq;cases he;obtain⟨h1,h2,h3⟩:=aCY hF hN hC hb q v os hp
   match os,h2,h3,hp with
   | [],_,_,hp=>
    refine⟨v,[],h1,by simp,rfl,λs2 e1 e2=> ?_⟩;rw[XN e1 hN e2,hp];simp only[hq,A5];rfl
   | [ob],_,h3,hp=>
    refine⟨v,[⟨b,.no,I ob⟩],h1,λe he=> ?_, ?_,λs2 e1 e2=> ?_⟩
    .simp at he;subst he;exact⟨hW ob,λob' e=>by cases e;exact h3 _<|by simp⟩
    .show _=S.put (s.app _) d v;rw[J0];rfl
    .rw[XN e1 hN e2,hp];simp only[hq,A5,EL,M4,J0];rfl
   | _::_::_,h2,_,_=>simp at h2
  .cases he
 .cases he
def avZ{q:Bool}{l:List Nat}{i:Nat}(h:i∈fzl q l):i∈l:=by
 cases q
 .cases h
 .exact h
def avG{o:Oper}(hop:∀x∈o.op.operands,InA F<|s.ev x)(hC:DS F s.H){i:Nat}(hi:i∈JD C s o):F i:=by
 unfold JD at hi;split at hi
 .rename_i c hc;split at hi
  .rename_i f hf;split at hi
   .rename_i m hm;have has:∀v∈c.args.toList.map s.ev,InA F v:=λv hv=>by
     obtain⟨x,hx,rfl⟩:=DE.1 hv;refine hop x ?_;rw[hc];simp only[BU,NJ,N8];exact .inr<|by simpa using hx
    rcases BM.1 hi with h|h
    .exact Xh hC _ _ has i h
    .exact So hC _ _ has i (avZ h)
   .cases hi
  .cases hi
 .cases hi
def auw{o:Oper}(hok:okO C o=A0)(hop:∀x∈o.op.operands,InA F<|s.ev x)(hCN:∀id ob,N id->s.H id=I ob->En F ob)(hF:∀j,b<=j->j<b+16->F j)
  (hN:∀e:Step,b<=e.id->e.id<b+16->WS e)(hW:(Dt C s o=U->(∀e:Step,F e.id->e.fk= .no->WS e)/\ ∀e:Step,e.id∈JD C s o->WS e)/\ ∀l,Dt C s o=I l->∀e:Step,e.id∈l->WS e)
  (hNF:(pur o=A0/\(mov o.op=A0\/ ∀x∈o.op.operands,InA N<|s.ev x))\/ ∀id,F id->N id)(he:CE C (AF S) o b s I=I s'):abF C F N WS b o s s':=by
 have ac9:mov o.op=A0\/ ∀x∈o.op.operands,InA N (s.ev x):=by
  obtain h|h:=hNF
  .exact h.2
  .exact .inr λx hx=>(hop x hx).mono h
 have UJ:pur o=A3->∀id,F id->N id:=λh=>hNF.resolve_left λh2=>by rw[h]at h2;cases h2.1
 have hCF:pur o=A3->DS F s.H:=λh id ob hid ho=>hCN id ob (UJ h id hid) ho;have hFb:F b:=hF b (As b) J;have hWb:∀e:Step,e.id=b->WS e:=λe h=>hN e J J;unfold CE at he;split at he
 .cases he
 rename_i hd;unfold abF;have un:∀s2:S,s2.has o.dst=s.has o.dst->s2.has o.dst=A0:=λs2 h=>h.trans hd;generalize ho:o.op=op at he;rw[ho]at hop ac9;have pu:(match C5 C.P C.kd s.ev s.H b op with
   | some (q,v,os)=>if q then I ({ s with H:=Ef s.H b os }.put o.dst v) else U
   | none=>U)=I s'->(∀s2:S,s2.has o.dst=A0->(∀x∈op.operands,s2.ev x=s.ev x)->Agr N s.H s2.H->CE C (AF S) o b s2 I=(match C5 C.P C.kd s2.ev s2.H b op with
   | some (q,v,os)=>if q then I ({ s2 with H:=Ef s2.H b os }.put o.dst v) else U
   | none=>U))->∃(v:AV) (es:List Step),InA F v/\(∀e∈es,WS e/\Gc F e)/\s'=(es.foldl S.app s).put o.dst v/\
  ∀s2:S,(∀x∈op.operands,s2.ev x=s.ev x)->s2.has o.dst=s.has o.dst->Agr N s.H s2.H->CE C (AF S) o b s2 I=I ((es.foldl S.app s2).put o.dst v):=by
  intro he hu;obtain⟨v,es,h1,h2,h3,h4⟩:=aDi (WS:=WS) hop ac9 hCN hFb (λ_=>hWb _ rfl) he;exact⟨v,es,h1,h2,h3,λs2 e1 e2 e3=>by rw[hu s2 (un s2 e2) e1 e3];exact h4 s2 e1 e3⟩
 cases op<;>try (exact pu he λs2 e1 e2 e3=>by unfold CE;simp only[e1,ho];rfl)
 case store t p x=>
  have hWF:∀e:Step,e.id∈Od s.H (s.ev p) (s.ev x)->WS e:=hW.2 _ (by simp only[Dt,ho]);have hNs:=UJ (by simp only[pur,ho]);have hC:=hCF (by simp only[pur,ho]);simp only at he;split at he
  .rename_i s1 hs;cases he;obtain⟨es,h1,h2,h3⟩:=aru (hop p<|by simp[BU]) (hop x<|by simp[BU]) hC hs;refine⟨Dk,es,.of1 trivial,λe he=>⟨hWF e (h1 e he).1,(h1 e he).2⟩,by rw[h2],λs2 e1 e2 e3=> ?_⟩;have:=h3 s2<|e3.mono hNs;simp only[D4,CG,true_and]at this;obtain⟨s1',hs',rfl⟩:=this;unfold CE;simp only[un s2 e2,ho,e1 p<|by simp[BU],e1 x<|by simp[BU],hs']
  .cases he
 case call c=>
  have hNs:=UJ (by simp only[pur,ho]);have hC:=hCF (by simp only[pur,ho]);obtain⟨cal,⟨args⟩,⟨tys⟩⟩:=c;have FX:∀x∈args,InA F (s.ev x):=λx hx=>hop x (by
   simp only[BU,NJ,N8];exact .inr<|by simpa using hx)
  have nc:∀s2:S,(∀x∈(Op.call ⟨cal,⟨args⟩,⟨tys⟩⟩).operands,s2.ev x=s.ev x)->args.map s2.ev=args.map s.ev:=λs2 h=>GS λx hx=>h x (by
   simp only[BU,NJ,N8];exact .inr<|by simpa using hx)
  simp only at he;split at he
  .rename_i f;split at he
   .rename_i m hm;have az7:okS m=A0:=by simpa only[okO,ho,hm] using hok
    have has:∀v∈args.map s.ev,InA F v:=λv hv=>by
     obtain⟨x,hx,rfl⟩:=DE.1 hv;exact FX x hx
    have hcw:abE s.H m (args.map s.ev) b WS/\((B1 m.ps).isEmpty=A0\/ ∀e:Step,F e.id->e.fk= .no->WS e):=by
     have hk:JD C s o=CP s.H m.ps (args.map s.ev)++fzl (CH m.rs||CH (B1 m.ps)) (Cp s.H m.ps<|args.map s.ev):=by simp only[JD,ho,hm]
     cases hbe:(B1 m.ps).isEmpty with
     | false=>
      have acD:Dt C s o=U:=by simp only[Dt,ho,hm,hbe]
      have h2:=(hW.1 acD).2;rw[hk]at h2;exact⟨⟨λe he=>h2 e<|Bq _ he,λhq e he=>h2 e<|CK _ (by rw[hq];exact he),hN⟩,.inr (hW.1 acD).1⟩
     | true=>
      have hl:Dt C s o=I (CP s.H m.ps (args.map s.ev)++fzl (CH m.rs||CH (B1 m.ps)) (Cp s.H m.ps<|args.map s.ev)):=by simp only[Dt,ho,hm,hbe]
      refine⟨⟨λe hi=> ?_,λhq e hi=> ?_,hN⟩,.inl rfl⟩
      .exact hW.2 _ hl e (Bq _ hi)
      .exact hW.2 _ hl e<|CK _ (by rw[hq];exact hi)
    obtain⟨v,es,h1,h2,h3,h4⟩:=as6 az7 has hC hF hcw.1 hcw.2 he;refine⟨v,es,h1,h2,h3,λs2 e1 e2 e3=> ?_⟩;have:=h4 s2<|e3.mono hNs;unfold CE;simp only[un s2 e2,ho,hm,nc s2 e1];exact this
   .cases he
  .rename_i x y t u;have hWF:∀e:Step,(e.id=b\/e.id∈Jt (s.ev x))->WS e:=λe hi=>hi.elim (hWb e) (hW.2 _ (by simp only[Dt,ho]) e);split at he
   .rename_i q v s1 hs;split at he
    .rename_i hq;subst hq;cases he;obtain⟨⟨es,h1,h2,h3⟩,h5⟩:=aqc (FX x<|by simp) (FX y<|by simp) hFb hs;refine⟨v,es,h5,λe he=>⟨hWF e (h1 e he).1,(h1 e he).2⟩,by rw[h2],λs2 e1 e2 e3=> ?_⟩;have:=h3 s2<|e3.mono hNs;obtain⟨⟨q',v',s1'⟩,hs',e'⟩:=D4.1 this;cases e';unfold CE;have ea:=nc s2 e1;simp only[DP,JM,M3,and_true]at ea;simp only[un s2 e2,ho,ea.1,ea.2,hs',A5]
    .cases he
   .cases he
  .rename_i x y t u;have hWF:∀e:Step,e.id∈Jt (s.ev x)->WS e:=hW.2 _ (by simp only[Dt,ho]);split at he
   .rename_i v s1 hs;cases he;obtain⟨⟨es,h1,h2,h3⟩,h5⟩:=auc (FX x<|by simp) (FX y<|by simp) hs;refine⟨v,es,h5,λe he=>⟨hWF e (h1 e he).1,(h1 e he).2⟩,by rw[h2],λs2 e1 e2 e3=> ?_⟩;have hs':=h3 s2<|e3.mono hNs;unfold CE;have ea:=nc s2 e1;simp only[DP,JM,M3,and_true]at ea;simp only[un s2 e2,ho,ea.1,ea.2,hs']
   .cases he
  .rename_i n1 n2 n3;refine pu he λs2 e1 e2 e3=> ?_;unfold CE;simp only[e1,ho];split<;>first|exact(n1 _ rfl).elim|exact(n2 _ _ _ _ rfl rfl rfl).elim|exact(n3 _ _ _ _ rfl rfl rfl).elim|(rename_i h;simp only[h];done)|rfl
 case slice t x lo hi mx=>
  have hNs:=UJ (by simp only[pur,ho]);have hC:=hCF (by simp only[pur,ho]);cases mx with
  | some m=>exact pu he λs2 e1 e2 e3=>by unfold CE;simp only[e1,ho];rfl
  | none=>
   have hx:=hop x (by simp[BU]);have elo:∀s2:S,(∀x_1∈(Op.slice t x lo hi U).operands,s2.ev x_1=s.ev x_1)->lo.map s2.ev=lo.map s.ev:=λs2 h=>by
    cases lo with
    | none=>rfl
    | some l=>exact congrArg I<|h l<|by simp[BU]
   have ehi:∀s2:S,(∀x_1∈(Op.slice t x lo hi U).operands,s2.ev x_1=s.ev x_1)->hi.map s2.ev=hi.map s.ev:=λs2 h=>by
    cases hi with
    | none=>rfl
    | some l=>exact congrArg I<|h l<|by simp[BU]
   simp only at he;split at he
   .rename_i id hid;split at he
    .cases he
    rename_i hf;have hWF:∀e:Step,e.id=id->WS e:=λi e=>hW.2 (Jt<|s.ev x) (by simp only[Dt,ho]) i (by rw[hid,e];simp[Jt,Gq]);rw[hid]at hx;split at he
    .rename_i q v s1 hs;split at he
     .rename_i hq;subst hq;cases he;obtain⟨⟨es,h1,h2,h3⟩,h5⟩:=apQ (F:=F) hx hs;refine⟨v,es,h5,λe he=>⟨hWF e (h1 e he).1,(h1 e he).2⟩,by rw[h2],λs2 e1 e2 e3=> ?_⟩;have:=h3 s2<|e3.mono hNs;obtain⟨⟨q',v',s1'⟩,hs',e'⟩:=D4.1 this;cases e';unfold CE;have ex:s2.ev x= .own id:=(e1 x<|by simp[BU]).trans hid;have hf2:Iv C.P s2.H t (.own id)=A0:=by rw[zy (F:=F) hx<|e3.mono hNs];exact hf
      simp only[un s2 e2,ho,ex,hf2,elo s2 e1,ehi s2 e1,hs',A5]
     .cases he
    .cases he
   .rename_i hn;refine pu he λs2 e1 e2 e3=> ?_;unfold CE;simp only[e1,ho];have ex:s2.ev x=s.ev x:=e2 x (by simp[BU]);rw[ex];split
    .rename_i id hid;exact absurd hid (hn id)
    .rfl
 case buildSlice t n ps=>
  have hNs:=UJ (by simp only[pur,ho]);have hC:=hCF (by simp only[pur,ho]);simp only at he;have hps:∀p∈ps.toList,InA F (s.ev p.2):=λp hp=>hop p.2 (by
   simp only[BU,TT,DE];exact⟨p,hp,rfl⟩)
  have PQ:=arF ps.toList hps;obtain⟨es1,j1,j2,j3⟩:=Wc (F:=F) (Kc s.ev ps.toList) s PQ;rw[j2]at he;obtain⟨v,es,h1,h2,h3,h4⟩:=aDi (WS:=WS) (N:=F) (s:=es1.foldl S.app s) (op:= .buildSlice t n ps) (λx hx=>jW es1 s<|hop x hx) (.inr λx hx=>jW es1 s<|hop x hx) (aAZ es1 s hC λe he ob eo=>by rw[(j1 e he).2]at eo;cases eo) hFb (λ_=>hWb _ rfl) he;refine⟨v,es1++es,h1,λe he=> ?_,by rw[h3,HW],λs2 e1 e2 e3=> ?_⟩
  .rcases BM.1 he with he|he
   .refine⟨?_,λob eo=>by rw[(j1 e he).2]at eo;cases eo⟩;have hi:=(j1 e he).1;exact hW.2 _ (by simp only[Dt,ho]) e hi
   .exact h2 e he
  .unfold CE;have eo:Kc s2.ev ps.toList=Kc s.ev ps.toList:=arE _ λp hp=>e1 p.2 (by
    simp only[BU,TT,DE];exact⟨p,hp,rfl⟩)
   simp only[un s2 e2,ho,eo];rw[j3 s2<|e3.mono hNs,HW];exact h4 _ (λx hx=>aBj es1 s s2<|e1 x hx)<|Agr.oC<|e3.mono hNs
end
end Go.VS
namespace Go.VS
open Go
abbrev ev1(C:Cx)(ops:Array Oper)(o:Oper)(b:Nat)(s:S):Option S:=evG C (AF S) ops o b s I
def S.fin(s:S)(g:Option Nat)(d:Option Nat)(v:AV):S:={ s.put d v with gs:=match g with
 | some g=>upd s.gs g A0
 | none=>s.gs }
def K5(s s2:S)(d:Option Nat):Prop:=s2.n=s.n/\s2.pins=s.pins/\ ∀t,d=I t->s2.gs t=s.gs t
section
variable {F N:Nat->Prop} {WS:Step->Prop} {H H':Hp} {P:Program} {s s' s2:S} {b:Nat} {C:Cx} {ρ ρ':Operand->AV}
def K5.has{d:Option Nat}(h:K5 s s2 d):s2.has d=s.has d:=by
 cases d with
 | none=>rfl
 | some t=>simp only[S.has,h.1,h.2.1,h.2.2 t rfl]
def K5.more{d:Option Nat}(h:K5 s s2 d)(g:Nat):({ s2 with gs:=upd s2.gs g A0 } :S).has d=({ s with gs:=upd s.gs g A0 } :S).has d:=by
 cases d with
 | none=>rfl
 | some t=>
  have:upd s2.gs g A0 t=upd s.gs g A0 t:=by
   by_cases e:t=g
   .subst e;rw[Bf,Bf]
   .rw[BB _ _ e,BB _ _ e];exact h.2.2 t rfl
  simp only[S.has,h.1,h.2.1,this]
def at7{g:Nat}{want:Bool}{v:AV}(h:InA F v):InA F (GP g want v):=by
 unfold GP;split
 .split
  .exact .of3 h
  .exact h
 .exact h
def Yw(v:Value):InA F (ofV v):=by
 unfold ofV;split
 .split
  .refine .of2 λc hc=> ?_;obtain⟨x,_,rfl⟩:=DE.1 hc;trivial
  .exact .of1 trivial
 .exact .of1 trivial
def aw5{d:Option Nat}{op:Op}(hρ:∀x∈op.operands,ρ' x=ρ x)(hF:∀x∈op.operands,InA F<|ρ x)(hC:DS F H)(hH:Agr F H H'):spA C b d ρ' H' op=spA C b d ρ H op:=by
 unfold spA;split
 .rename_i c;obtain⟨cal,⟨args⟩,⟨tys⟩⟩:=c;have ea:args.map ρ'=args.map ρ:=GS λx hx=>hρ x (by
   simp only[BU,NJ,N8];exact .inr<|by simpa using hx)
  have has:∀v∈args.map ρ,InA F v:=λv hv=>by
   obtain⟨x,hx,rfl⟩:=DE.1 hv;exact hF x (by
    simp only[BU,NJ,N8];exact .inr<|by simpa using hx)
  have hc:J7 C.P ρ' H' ⟨cal,⟨args⟩,⟨tys⟩⟩=J7 C.P ρ H ⟨cal,⟨args⟩,⟨tys⟩⟩:=aEH (F:=F) (λx hx=>hρ x (by
   simp only[BU,NJ,N8];exact .inr<|by simpa using hx)) (λx hx=>hF x (by
   simp only[BU,NJ,N8];exact .inr<|by simpa using hx)) hH
  split
  .rename_i f as _;simp only at *;congr 1;funext m;simp only[ea,Sf hH hC m.ps _ has,Sn hH hC m.ps _ has,Sg hH hC m.ps _ has];split
   .congr 1;funext x;rw[(Q0 _ H' H m.rs b ((m.g x).getD (Lj m.rs,Lj<|B1 m.ps)).1).1]
   .rfl
  .rfl
  .rfl
  .rw[hc]
 .rfl
 .rfl
 .rename_i t x lo hi;rw[hρ x<|by simp[BU],XN hρ (.inr hF) hH]
 .rw[XN hρ (.inr hF) hH]
def aw6{o:Oper}{q:Bool}{v:AV}(hok:okO C o=A0)(hF:∀x∈o.op.operands,InA F<|ρ x)(hC:DS F H)(hb:∀j,b<=j->j<b+16->F j)(h:spA C b o.dst ρ H o.op=I (q,v)):InA F v:=by
 have hFb:F b:=hb b (As b) J;unfold spA at h;unfold okO at hok;generalize ho:o.op=op at h hok hF;have pu:(match C5 C.P C.kd ρ H b op with
  | some (q,v,[])=>I (q,v)
  | _=>U)=I (q,v)->InA F v:=by
  intro h;split at h
  .rename_i hp;cases h;exact(aCY hF (.inr hF) hC hFb _ _ _ hp).1
  .cases h
 split at h
 .rename_i c;obtain⟨cal,⟨args⟩,⟨tys⟩⟩:=c;simp only at h hok;split at h
  .rename_i f;obtain⟨m,hm,h⟩:=Aj.1 h;split at h
   .rename_i hc;obtain⟨x,hx,h⟩:=Aj.1 h;simp only[Bp,CG]at h;obtain⟨_,h⟩:=h;generalize (m.g x).getD (Lj m.rs,Lj<|B1 m.ps)=r at h;rw[← h];simp only[hm,okS,AE]at hok;simp only[AE]at hc;have hbn:∀H0,(Al (λi=>((args.map ρ)[i]?).getD .un) H0 b m.rs r.1).2.2<=b+16:=λH0=>by
     have:=XT (λi=>((args.map ρ)[i]?).getD .un) H0 b m.rs r.1 hc.1.1.1;rw[this];exact Ye b 16
    obtain⟨vs,es,b',h1,h2,h3⟩:=jU (F:=F) (W:=F) (λi=>((args.map ρ)[i]?).getD .un) m.rs b r.1 (b+16) hok.1 (λj h1 h2=>⟨hb j h1 h2,hb j h1 h2⟩) hbn;rw[h3];exact aD7 h1
   .cases h
  .cases h
  .cases h
  .split at h
   .rename_i hp;cases h;exact(aEI _ _ _ _ hp).1
   .cases h
 .cases h
 .cases h
 .split at h
  .cases h
  .exact pu h
 .exact pu h
def abI(C:Cx)(ops:Array Oper)(F N:Nat->Prop)(WS:Step->Prop)(b:Nat)(o:Oper)(s s':S):Prop:=
 ∃(g:Option Nat) (v:AV) (es:List Step),InA F v/\(∀e∈es,WS e/\Gc F e)/\(∀x,g=I x->x∈DB ops o)/\s'=(es.foldl S.app s).fin g o.dst v/\
  ∀s2:S,(∀t∈DB ops o,s2.T t=s.T t)->K5 s s2 o.dst->Agr N s.H s2.H->ev1 C ops o b s2=I ((es.foldl S.app s2).fin g o.dst v)
def mM:∀(es:List Step) (s:S),(es.foldl S.app s).gs=s.gs/\(es.foldl S.app s).n=s.n/\(es.foldl S.app s).pins=s.pins/\(es.foldl S.app s).nid=s.nid
 | [],_=>⟨rfl,rfl,rfl,rfl⟩
 | e::es,s=>mM es (s.app e)
def OS(s:S)(d:Option Nat)(v:AV):s.fin U d v=s.put d v:=by
 cases d<;>rfl
def aaA{α:Type}(f:Nat->α)(i:Nat)(v:α)(h:f i=v):upd f i v=f:=by
 funext j;by_cases e:j=i
 .subst e;rw[Bf,h]
 .rw[BB _ _ e]
def SI{ops:Array Oper}{o:Oper}{t:Nat}(h:Operand.tmp t∈o.op.operands):t∈o.looksAt ops:=
 Bq _ (G9.2 ⟨.tmp t,by simpa using h,rfl⟩)
def aAp{ops:Array Oper}{o:Oper}{j g:Nat}{want:Bool}(hg:o.guard=I (j,want))(h:(ops[j]?).bind (·.dst)=I g):g∈o.looksAt ops:=by
 refine CK _ ?_;rw[hg];simp[h]
def aEE{ops:Array Oper}:∀(n:Nat) (o:Oper),(∀t∈Yt ops n o,s2.T t=s.T t)->Lu ops s2 n o=Lu ops s n o
 | 0,_,_=>rfl
 | n+1,o,h=>by
  unfold Lu;unfold Yt at h;cases hg:o.guard with
  | none=>rfl
  | some jw=>
   obtain⟨j,want⟩:=jw;rw[hg]at h;simp only at h ⊢;cases hj:ops[j]? with
   | none=>rfl
   | some oj=>
    rw[hj]at h;simp only at h;simp only[A9];cases hd:oj.dst with
    | none=>rfl
    | some g=>
     rw[hd]at h;simp only[A9,h g<|by simp,aEE n oj λt ht=>h t<|CK _ ht]
def avD{ops:Array Oper}{o:Oper}(hok:okO C o=A0)(hrd:∀t∈DB ops o,InA F<|s.T t)(hCN:∀id ob,N id->s.H id=I ob->En F ob)(hF:∀j,b<=j->j<b+16->F j)
  (hN:∀e:Step,b<=e.id->e.id<b+16->WS e)(hW:(Dt C s o=U->(∀e:Step,F e.id->e.fk= .no->WS e)/\ ∀e:Step,e.id∈JD C s o->WS e)/\ ∀l,Dt C s o=I l->∀e:Step,e.id∈l->WS e)
  (hNF:(pur o=A0/\o.guard=U/\(mov o.op=A0\/ ∀t∈DB ops o,InA N<|s.T t))\/ ∀id,F id->N id)(he:ev1 C ops o b s=I s'):abI C ops F N WS b o s s':=by
 have hop:∀x∈o.op.operands,InA F (s.ev x):=λx hx=>by
  cases x with
  | tmp t=>exact hrd t<|Bq _<|SI hx
  | const v=>exact Yw v
  | _=>exact .of1 trivial
 have eop:∀s2:S,(∀t∈DB ops o,s2.T t=s.T t)->∀x∈o.op.operands,s2.ev x=s.ev x:=λs2 h x hx=>by
  cases x with
  | tmp t=>exact h t<|Bq _<|SI hx
  | _=>rfl
 have Da:CE C (AF S) o b s I=I s'->∃(v:AV) (es:List Step),InA F v/\(∀e∈es,WS e/\Gc F e)/\s'=(es.foldl S.app s).put o.dst v/\
  ∀s2:S,(∀x∈o.op.operands,s2.ev x=s.ev x)->s2.has o.dst=s.has o.dst->Agr N s.H s2.H->CE C (AF S) o b s2 I=I ((es.foldl S.app s2).put o.dst v):=
  λh=>auw hok hop hCN hF hN hW (hNF.imp (λh=>⟨h.1,h.2.2.imp id λh x hx=>by
   cases x with
   | tmp t=>exact h t<|Bq _<|SI hx
   | const v=>exact Yw v
   | _=>exact .of1 trivial⟩) id) h
 unfold ev1 evG at he;unfold abI ev1;split at he
 .rename_i hg;obtain⟨v,es,h1,h2,h3,h4⟩:=Da he;refine⟨U,v,es,h1,h2,nofun,by rw[OS];exact h3,λs2 e1 e2 e3=> ?_⟩;unfold evG;rw[hg,OS];exact h4 s2 (eop s2 e1) e2.has e3
 .rename_i j want hg;have hNs:∀id,F id->N id:=hNF.resolve_left λh=>by rw[hg]at h;cases h.2.1
  have hC:DS F s.H:=λid ob hid ho=>hCN id ob (hNs id hid) ho;split at he
  .cases he
  .rename_i g hgd hsp;have hgl:g∈DB ops o:=Bq _<|aAp hg hgd;split at he
   .rename_i qq v EN hv;split at he
    .rename_i hn;split at he
     case isFalse=>cases he
     rename_i oM;cases he;have opn:∀x∈o.op.operands,InA F ((s.narrow g want).ev x):=λx hx=>by
      cases x with
      | tmp t=>
       show InA F (upd (λt=>GP g want<|s.T t) g (.b want) t);by_cases e:t=g
       .subst e;rw[Bf];exact .of1 trivial
       .rw[BB _ _ e];exact at7<|hrd t<|Bq _<|SI hx
      | const v=>exact Yw v
      | _=>exact .of1 trivial
     have hvF:InA F v:=aw6 hok opn hC hF hv;have azm:InA F (.gd g want v):=by
      show In3 F v;cases v<;>first|(cases hn;done)|exact hvF
     refine⟨I g,.gd g want v,[],azm,by simp,λx hx=>by cases hx;exact hgl,rfl,λs2 e1 e2 e3=> ?_⟩;unfold evG;rw[hg];simp only[hgd,hsp];have e4:({ s2 with gs:=upd s2.gs g A0 } :S).has o.dst=A0:=by rw[e2.more g];exact EN
     have e5:spA C b o.dst (s2.narrow g want).ev s2.H o.op=I (qq,v):=by
      rw[aw5 (ρ:=(s.narrow g want).ev) (H:=s.H) (F:=F) (λx hx=> ?_) opn hC<|e3.mono hNs]
      .exact hv
      .cases x with
       | tmp t=>
        show upd (λt=>GP g want<|s2.T t) g (.b want) t=upd (λt=>GP g want<|s.T t) g (.b want) t;by_cases e:t=g
        .subst e;rw[Bf,Bf]
        .rw[BB _ _ e,BB _ _ e,e1 t<|Bq _<|SI hx]
       | _=>rfl
     have e6:Lu ops s2 4 o=Lu ops s 4 o:=aEE 4 o λt ht=>e1 t<|CK _ ht;rw[e4,e5];simp only[hn,e6,oM,A5];rfl
    .cases he
   .cases he
  .rename_i g hgd hsp;have hgl:g∈DB ops o:=Bq _<|aAp hg hgd;split at he
   .rename_i c hT;have same:∀(s0:S) (w:Bool),s0.T g= .lit (.bool c)->c=w->({ s0 with T:=upd s0.T g (.b w) } :S)=s0:=λs0 w h e=>by
     subst e;rw[aaA _ _ _ h]
    have yes:CE C (AF S) o b { s with T:=upd s.T g (.b want) } I=I s'->c=want->
      ∃(gg:Option Nat) (v:AV) (es:List Step),InA F v/\(∀e∈es,WS e/\Gc F e)/\(∀x,gg=I x->x∈DB ops o)/\s'=(es.foldl S.app s).fin gg o.dst v/\
       ∀s2:S,(∀t∈DB ops o,s2.T t=s.T t)->K5 s s2 o.dst->Agr N s.H s2.H->evG C (AF S) ops o b s2 I=I ((es.foldl S.app s2).fin gg o.dst v):=by
     intro he e;rw[same s want hT e]at he;obtain⟨v,es,h1,h2,h3,h4⟩:=Da he;refine⟨U,v,es,h1,h2,nofun,by rw[OS];exact h3,λs2 e1 e2 e3=> ?_⟩;have hT2:s2.T g= .lit (.bool c):=(e1 g hgl).trans hT;have:=h4 s2 (eop s2 e1) e2.has e3;unfold evG;rw[hg,OS];simp only[hgd,hsp,hT2];have e5:=same s2 want hT2 e;subst e;cases c<;>simp only[A5,if_false,HX]<;>rw[e5]<;>exact this
    have no:(match s.has o.dst with
      | true=>I (({ s with T:=upd s.T g (.b<|!want) } :S).put o.dst Dk)
      | false=>U)=I s'->c= !want->
      ∃(gg:Option Nat) (v:AV) (es:List Step),InA F v/\(∀e∈es,WS e/\Gc F e)/\(∀x,gg=I x->x∈DB ops o)/\s'=(es.foldl S.app s).fin gg o.dst v/\
       ∀s2:S,(∀t∈DB ops o,s2.T t=s.T t)->K5 s s2 o.dst->Agr N s.H s2.H->evG C (AF S) ops o b s2 I=I ((es.foldl S.app s2).fin gg o.dst v):=by
     intro he e;rw[same s _ hT e]at he;split at he
     .rename_i EN;cases he;refine⟨U,Dk,[],.of1 trivial,by simp,nofun,by rw[OS];rfl,λs2 e1 e2 e3=> ?_⟩;have hT2:s2.T g= .lit (.bool c):=(e1 g hgl).trans hT;have hh2:=e2.has.trans EN;unfold evG;rw[hg,OS];simp only[hgd,hsp,hT2];have e5:=same s2 _ hT2 e;subst e;cases want<;>simp only[AB,AI]at e5<;>simp only[AB,AI,A5,if_false,HX,hh2]<;>rw[e5]<;>rfl
     .cases he
    cases want<;>cases c<;>simp only[A5,if_false,HX]at he
    .exact yes he rfl
    .exact no he rfl
    .exact no he rfl
    .exact yes he rfl
   .rename_i vs hT;split at he
    .rename_i EN;cases he;refine⟨U,Dk,[],.of1 trivial,by simp,nofun,by rw[OS];rfl,λs2 e1 e2 e3=> ?_⟩;have hT2:s2.T g= .lit (.tuple vs):=(e1 g hgl).trans hT;have hh2:=e2.has.trans EN;unfold evG;rw[hg,OS];simp only[hgd,hsp,hT2,hh2];rfl
    .cases he
   .cases he
end
end Go.VS
namespace Go.VS
open Go
section
variable {F G N:Nat->Prop} {H H':Hp} {P:Program} {s s' s2:S} {b:Nat} {C:Cx}
def Gc.mono(h:∀id,F id->G id){e:Step}(he:Gc F e):Gc G e:=λob eo=>by
 have:=he ob eo;cases ob<;>first|trivial|exact λc hc=>(this c hc).mono h
def Fk.ayJ(id:Nat)(fk:Fk){c:AV}(h:In1 F c)(hn:¬F id):fk.f id c=c:=by
 have ne:∀j,F j->Ag j id=A3:=λj hj=>by
  cases e:Ag j id with
  | false=>rfl
  | true=>exact absurd (Bk e▸hj) hn
 cases fk with
 | no=>rfl
 | kl=>
  cases c<;>first|rfl|(simp only[Fk.f,kl1,ne _ h];done)
 | fz k xs=>
  cases c<;>first|rfl|(simp only[Fk.f,fz1,ne _ h];done)
def aB3{f:AV->AV}(hf:∀c,In1 F c->f c=c){v:AV}(h:In2 F v):Fo f v=v:=by
 cases v<;>first|exact hf _ h|skip
 rename_i cs;exact congrArg AV.agg<|(GS λc hc=>hf c<|h c hc).trans<|lY cs
def aB1{f:AV->AV}(hf:∀c,In1 F c->f c=c){v:AV}(h:In3 F v):G5 f v=v:=by
 have gen:In2 F v->Fo f v=v:=λh=>aB3 hf h;cases v<;>first|exact gen h|skip
 rename_i cs;exact congrArg AV.tup<|(GS λc hc=>aB3 hf<|h c hc).trans<|lY cs
def ja{f:AV->AV}(hf:∀c,In1 F c->f c=c){v:AV}(h:InA F v):El f v=v:=by
 have gen:In3 F v->G5 f v=v:=λh=>aB1 hf h;cases v with
 | gd g w v=>exact congrArg (AV.gd g w)<|aB1 hf h
 | _=>exact gen h
def ju{f:AV->AV}(hf:∀c,In1 F c->f c=c){o:Option Ob}(h:∀ob,o=I ob->En F ob):CD f o=o:=by
 cases o with
 | none=>rfl
 | some ob=>
  have:=h ob rfl;cases ob<;>first|rfl|skip
  rename_i e cs;exact congrArg (λl=>I<|Ob.box e l)<|(GS λc hc=>hf c<|this c hc).trans<|lY cs
def Fk.R8{e:Step}{c:AV}(h:In1 F c)(hn:e.fk= .no\/ ¬F e.id):e.fk.f e.id c=c:=by
 obtain hn|hn:=hn
 .rw[hn];rfl
 .exact Fk.ayJ _ _ h hn
def jA{t:Nat}:∀(es:List Step) (s:S),(∀e∈es,e.fk= .no\/ ¬F e.id)->InA F (s.T t)->(es.foldl S.app s).T t=s.T t
 | [],_,_,_=>rfl
 | e::es,s,h,ht=>by
  have h1:(s.app e).T t=s.T t:=ja (λc hc=>Fk.R8 hc<|h e Ap) ht;show(es.foldl S.app<|s.app e).T t=s.T t;rw[jA es _ (λe' he=>h e'<|Am _ he) (by rw[h1];exact ht),h1]
def PA(N F:Nat->Prop)(H:Hp):Prop:=∀id ob,N id->H id=I ob->En F ob
def jB:∀(es:List Step) (s:S),(∀e∈es,¬N e.id/\(e.fk= .no\/ ¬F e.id))->PA N F s.H->Agr N s.H (es.foldl S.app s).H
 | [],_,_,_=>Agr.refl _ _
 | e::es,s,h,hC=>by
  have h1:Agr N s.H (s.app e).H:=λid hid=>by
   rw[L5,AD fun(e':id=e.id)=>(h e Ap).1<|e'▸hid];exact ju (λc hc=>Fk.R8 hc (h e Ap).2) λob ho=>hC id ob hid ho
  have hC1:PA N F (s.app e).H:=λid ob hid ho=>hC id ob hid (by rw[← h1 id hid];exact ho);intro id hid;show(es.foldl S.app<|s.app e).H id=s.H id;rw[jB es _ (λe' he=>h e'<|Am _ he) hC1 id hid,h1 id hid]
def aBk:∀(es:List Step) (s:S),(∀e∈es,Gc F e\/ ¬N e.id)->PA N F s.H->PA N F (es.foldl S.app s).H
 | [],_,_,h=>h
 | e::es,s,h,hC=>by
  refine aBk es (s.app e) (λe' he=>h e'<|Am _ he) ?_;intro id ob hid ho;rw[L5]at ho;split at ho
  .rename_i e';rcases h e Ap with h1|h1
   .exact h1 ob ho
   .exact absurd (e'▸hid) h1
  .exact aEm (λc hc=>Fk.aB _ _ hc) (λob ho=>hC id ob hid ho) ob ho
def aAa{id:Nat}:∀(es:List Step) (s:S),(∀e∈es,e.id≠id)->s.H id=U->(es.foldl S.app s).H id=U
 | [],_,_,h=>h
 | e::es,s,hn,h=>by
  refine aAa es _ (λe' he=>hn e'<|Am _ he) ?_;rw[L5,AD λe'=>hn e Ap e'.symm,h];rfl
def kG{t:Nat}:∀(es:List Step) (s:S),InA F (s.T t)->InA F ((es.foldl S.app s).T t)
 | [],_,h=>h
 | e::es,s,h=>kG es (s.app e) (aEn (λc hc=>Fk.aB _ _ hc) h)
def Fk.U3{i j:Nat}(h:i≠j)(f g:Fk)(c:AV):f.f i (g.f j c)=g.f j (f.f i c):=by
 have h1:Ag i j=A3:=by rw[← GD,H4];exact h
 have h2:Ag j i=A3:=by rw[← GD,H4];exact Ky h
 have key:∀id,(Ag id i=A0->Ag id j=A3):=λid e=>by rw[Bk e];exact h1
 cases c with
 | own id=>
  cases f<;>cases g<;>simp only[Fk.f,kl1,fz1]<;>cases e1:Ag id i<;>cases e2:Ag id j<;>simp only[e1,e2]<;>
   first|rfl|(rw[key id e1]at e2;cases e2)
 | ptr id z a o=>
  cases f<;>cases g<;>simp only[Fk.f,kl1,fz1]<;>cases e1:Ag id i<;>cases e2:Ag id j<;>simp only[e1,e2]<;>
   first|rfl|(rw[key id e1]at e2;cases e2)
 | _=>cases f<;>cases g<;>rfl
def plA:AV->Bool
 | .agg _=>A3
 | .tup _=>A3
 | .gd _ _ _=>A3
 | _=>A0
def Qs(id:Nat)(fk:Fk){c:AV}(h:plA c=A0):plA (fk.f id c)=A0:=by
 cases fk with
 | no=>exact h
 | kl=>
  cases c<;>first|exact h|skip
  .simp only[Fk.f,kl1];split<;>rfl
  .simp only[Fk.f,kl1];split<;>rfl
 | fz k xs=>
  cases c<;>first|exact h|skip
  .simp only[Fk.f,fz1];split<;>rfl
  .simp only[Fk.f,fz1];split<;>rfl
def Xg{f:AV->AV}{c:AV}(h:plA c=A0):Fo f c=f c:=by cases c<;>first|rfl|cases h
def Xf{f:AV->AV}{c:AV}(h:plA c=A0):G5 f c=f c:=by cases c<;>first|rfl|cases h
def YM{f:AV->AV}{c:AV}(h:plA c=A0):El f c=f c:=by cases c<;>first|rfl|cases h
section comm
variable {i j:Nat} (hij:i≠j) (f g:Fk)
include hij
def jV(v:AV):Fo (f.f i) (Fo (g.f j) v)=Fo (g.f j) (Fo (f.f i) v):=by
 by_cases hp:plA v=A0
 .rw[Xg hp,Xg hp,Xg<|Qs _ _ hp,Xg<|Qs _ _ hp,Fk.U3 hij]
 .cases v with
  | agg cs=>simp only[Fo,I7];exact congrArg AV.agg<|GS λc _=>Fk.U3 hij f g c
  | tup cs=>cases f<;>cases g<;>rfl
  | gd a b c=>cases f<;>cases g<;>rfl
  | _=>exact absurd rfl hp
def aB2(v:AV):G5 (f.f i) (G5 (g.f j) v)=G5 (g.f j) (G5 (f.f i) v):=by
 by_cases hp:plA v=A0
 .rw[Xf hp,Xf hp,Xf<|Qs _ _ hp,Xf<|Qs _ _ hp,Fk.U3 hij]
 .cases v with
  | agg cs=>exact jV hij f g<|.agg cs
  | tup cs=>simp only[G5,I7];exact congrArg AV.tup<|GS λc _=>jV hij f g c
  | gd a b c=>cases f<;>cases g<;>rfl
  | _=>exact absurd rfl hp
def aCi(v:AV):El (f.f i) (El (g.f j) v)=El (g.f j) (El (f.f i) v):=by
 by_cases hp:plA v=A0
 .rw[YM hp,YM hp,YM<|Qs _ _ hp,YM<|Qs _ _ hp,Fk.U3 hij]
 .cases v with
  | agg cs=>exact jV hij f g<|.agg cs
  | tup cs=>exact aB2 hij f g<|.tup cs
  | gd a b c=>exact congrArg (AV.gd a b)<|aB2 hij f g c
  | _=>exact absurd rfl hp
def ash(o:Option Ob):CD (f.f i) (CD (g.f j) o)=CD (g.f j) (CD (f.f i) o):=by
 cases o with
 | none=>rfl
 | some o=>
  cases o with
  | box e cs=>simp only[CD,I7];exact congrArg (λl=>I<|Ob.box e l)<|GS λc _=>Fk.U3 hij f g c
  | _=>rfl
end comm
def S.ext'{s s':S}(h1:s.n=s'.n)(h2:s.T=s'.T)(h3:s.H=s'.H)(h4:s.nid=s'.nid)(h5:s.st=s'.st)(h6:s.pins=s'.pins)(h7:s.gs=s'.gs):s=s':=by
 cases s;cases s';simp_all
def aum{e e':Step}(hn:e.id≠e'.id)(h1:CD (e'.fk.f e'.id) e.ob=e.ob)(h2:CD (e.fk.f e.id) e'.ob=e'.ob):(s.app e).app e'=(s.app e').app e:=by
 refine S.ext' rfl (funext λt=>aCi hn.symm e'.fk e.fk (s.T t)) (funext λid=> ?_) rfl ?_ rfl rfl
 .rw[L5,L5,L5,L5];by_cases a1:id=e'.id
  .subst a1;rw[A8 rfl,AD hn.symm,A8 rfl,h2]
  .rw[AD a1,AD a1];by_cases a2:id=e.id
   .rw[A8 a2,A8 a2,h1]
   .rw[AD a2,AD a2,ash hn.symm e'.fk e.fk]
 .show(s.st.map _).map _=(s.st.map _).map _;rw[I7,I7];exact GS λT _=>funext λt=>aCi hn.symm e'.fk e.fk (T t)
def WkS(F W K:Nat->Prop)(e:Step):Prop:=(W e.id/\(e.fk= .no\/K e.id))/\Gc F e
def Wk(F W K:Nat->Prop)(es:List Step):Prop:=∀e∈es,WkS F W K e
def zM{F F' W W' K K':Nat->Prop}(hW:∀id,W id->¬W' id)(h1:∀id,K id->¬F' id)(h2:∀id,K' id->¬F id){e:Step}(he:WkS F W K e):∀(es:List Step) (s:S),Wk F' W' K' es->(es.foldl S.app s).app e=es.foldl S.app (s.app e)
 | [],_,_=>rfl
 | e'::es,s,h=>by
  have he':=h e' Ap;have hn:e.id≠e'.id:=λx=>hW _ he.1.1<|x▸he'.1.1;have c:=aum (s:=s) hn (ju (F:=F) (λc hc=>Fk.R8 hc<|he'.1.2.imp id<|h2 _) he.2) (ju (F:=F') (λc hc=>Fk.R8 hc<|he.1.2.imp id<|h1 _) he'.2);show(es.foldl S.app<|s.app e').app e=es.foldl S.app ((s.app e).app e');rw[zM hW h1 h2 he es _ λe0 h0=>h e0<|Am _ h0,c]
def aC5{F F' W W' K K':Nat->Prop}(hW:∀id,W id->¬W' id)(h1:∀id,K id->¬F' id)(h2:∀id,K' id->¬F id):∀(es es':List Step) (s:S),Wk F W K es->Wk F' W' K' es'->es.foldl S.app (es'.foldl S.app s)=es'.foldl S.app (es.foldl S.app s)
 | [],_,_,_,_=>rfl
 | e::es,es',s,h,h'=>by
  show es.foldl S.app ((es'.foldl S.app s).app e)=es'.foldl S.app (es.foldl S.app<|s.app e);rw[zM hW h1 h2 (h e Ap) es' s h',aC5 hW h1 h2 es es' _ (λe0 h0=>h e0<|Am _ h0) h']
def awX{e:Step}{g d:Option Nat}{v:AV}(hv:El (e.fk.f e.id) v=v):(s.fin g d v).app e=(s.app e).fin g d v:=by
 cases d with
 | none=>exact S.ext' rfl rfl rfl rfl rfl rfl rfl
 | some d=>
  refine S.ext' rfl (funext λt=> ?_) rfl rfl rfl rfl rfl;show El _ (upd s.T d v t)=upd (λt=>El _<|s.T t) d v t;by_cases e:t=d
  .subst e;rw[Bf,Bf,hv]
  .rw[BB _ _ e,BB _ _ e]
def la{g d:Option Nat}{v:AV}:∀(es:List Step) (s:S),(∀e∈es,El (e.fk.f e.id) v=v)->es.foldl S.app (s.fin g d v)=(es.foldl S.app s).fin g d v
 | [],_,_=>rfl
 | e::es,s,h=>by
  show es.foldl S.app ((s.fin g d v).app e)=(es.foldl S.app<|s.app e).fin g d v;rw[awX<|h e Ap,la es _ λe' h'=>h e'<|Am _ h']
def auu{g g' d d':Option Nat}{v v':AV}(hd:∀t,d=I t->d'≠I t):(s.fin g d v).fin g' d' v'=(s.fin g' d' v').fin g d v:=by
 have hT:∀(d d':Nat) (v v':AV) (T:Nat->AV),d≠d'->upd (upd T d v) d' v'=upd (upd T d' v') d v:=λd d' v v' T hn=>by
  funext t;by_cases e:t=d'
  .subst e;rw[Bf,BB _ _ hn.symm,Bf]
  .rw[BB _ _ e];by_cases e2:t=d
   .subst e2;rw[Bf,Bf]
   .rw[BB _ _ e2,BB _ _ e2,BB _ _ e]
 have hG:∀(g g':Nat) (T:Nat->Bool),upd (upd T g A0) g' A0=upd (upd T g' A0) g A0:=λg g' T=>by
  funext t;by_cases e:t=g'
  .subst e;rw[Bf];by_cases e2:t=g
   .subst e2;rw[Bf]
   .rw[BB _ _ e2,Bf]
  .rw[BB _ _ e];by_cases e2:t=g
   .subst e2;rw[Bf,Bf]
   .rw[BB _ _ e2,BB _ _ e2,BB _ _ e]
 refine S.ext' ?_ ?_ ?_ ?_ ?_ ?_ ?_
 .cases d<;>cases d'<;>rfl
 .cases d with
  | none=>cases d'<;>rfl
  | some d=>cases d' with
   | none=>rfl
   | some d'=>exact hT _ _ _ _ s.T (λe=>hd d rfl (by rw[e]))
 .cases d<;>cases d'<;>rfl
 .cases d<;>cases d'<;>rfl
 .cases d<;>cases d'<;>rfl
 .cases d<;>cases d'<;>rfl
 .cases d<;>cases d'<;>cases g<;>cases g'<;>first|rfl|exact hG _ _ s.gs
end
end Go.VS
namespace Go.VS
open Go
structure Lb where
 b:Nat->Nat
 F:Nat->Nat->Prop
 N:Nat->Nat->Prop
 W:Nat->Nat->Prop
 K:Nat->Nat->Prop
 V:Nat->Nat->Prop
 R:Nat->Nat->Prop
def Stp(C:Cx)(ops:Array Oper)(o:Oper)(b:Nat)(F N W K V:Nat->Prop)(s s':S):Prop:=
 ∃(g:Option Nat) (v:AV) (es:List Step),InA F v/\(∀t,o.dst=I t->InA V v)/\Wk F W K es/\(∀x,g=I x->x∈DB ops o)/\s'=(es.foldl S.app s).fin g o.dst v/\
  ∀s2:S,(∀t∈DB ops o,s2.T t=s.T t)->K5 s s2 o.dst->Agr N s.H s2.H->ev1 C ops o b s2=I ((es.foldl S.app s2).fin g o.dst v)
section
variable {C:Cx} {ops:Array Oper} {s s' s0 s1 s2:S}
def Stp.ev{o:Oper}{b:Nat}{F N W K V:Nat->Prop}(h:Stp C ops o b F N W K V s s'):ev1 C ops o b s=I s':=by
 obtain⟨g,v,es,_,_,_,_,rfl,h⟩:=h;exact h s (λ_ _=>rfl) ⟨rfl,rfl,λ_ _=>rfl⟩<|Agr.refl _ _
def ZL{g d:Option Nat}{v:AV}{t:Nat}:(s.fin g d v).T t=if d=I t then v else s.T t:=by
 cases d with
 | none=>simp[S.fin,S.put]
 | some d=>
  show upd s.T d v t=_;by_cases e:t=d
  .subst e;rw[Bf];simp
  .rw[BB _ _ e,AD λe'=>e<|by simpa using e'.symm]
def ZM{g d:Option Nat}{v:AV}:(s.fin g d v).H=s.H:=by cases d<;>rfl
def aay{g d:Option Nat}{v:AV}{t:Nat}(h:g≠I t):(s.fin g d v).gs t=s.gs t:=by
 cases g with
 | none=>cases d<;>rfl
 | some g=>
  have:t≠g:=λe=>h (by rw[e]);cases d<;>exact BB _ _ this
def Stp.swap{x i:Oper}{bx bi:Nat}{Fx Nx Wx Kx Vx Fi Ni Wi Ki Vi:Nat->Prop}(h1:Stp C ops x bx Fx Nx Wx Kx Vx s0 s1)(h2:Stp C ops i bi Fi Ni Wi Ki Vi s1 s2)
  (kxi:∀id,Kx id->¬Fi id)(kix:∀id,Ki id->¬Fx id)(nxi:∀id,Wx id->¬Ni id)(nix:∀id,Wi id->¬Nx id)(wxi:∀id,Wx id->¬Wi id)(dxi:∀t,x.dst=I t->t ∉ DB ops i)(dix:∀t,i.dst=I t->t ∉ DB ops x)(hd:∀t,x.dst=I t->i.dst≠I t)
  (rx:∀t∈DB ops x,InA Fx<|s0.T t)(cx:PA Nx Fx s0.H)(ri:∀t∈DB ops i,InA Fi<|s0.T t)(ci:PA Ni Fi s0.H):
  ∃s0',Stp C ops i bi Fi Ni Wi Ki Vi s0 s0'/\Stp C ops x bx Fx Nx Wx Kx Vx s0' s2:=by
 obtain⟨g1,v1,es1,a1,a2,a3,a4,a5,a6⟩:=h1;obtain⟨g2,v2,es2,b1,b2,b3,b4,b5,b6⟩:=h2;have n1:∀e∈es1,e.fk= .no\/ ¬Fi e.id:=λe he=>(a3 e he).1.2.imp id<|kxi _;have p1:∀e∈es1,¬Ni e.id/\(e.fk= .no\/ ¬Fi e.id):=λe he=>⟨nxi _ (a3 e he).1.1,n1 e he⟩;have n2:∀e∈es2,e.fk= .no\/ ¬Fx e.id:=λe he=>(b3 e he).1.2.imp id<|kix _;have p2:∀e∈es2,¬Nx e.id/\(e.fk= .no\/ ¬Fx e.id):=λe he=>⟨nix _ (b3 e he).1.1,n2 e he⟩;have T1:∀t∈DB ops i,s1.T t=s0.T t:=λt ht=>by
  rw[a5,ZL,AD λe=>dxi t e ht];exact jA es1 s0 n1<|ri t ht
 have H1:Agr Ni s0.H s1.H:=by
  rw[a5,ZM];exact jB es1 s0 p1 ci
 have E1:K5 s0 s1 i.dst:=by
  obtain⟨p1,p2,p3,_⟩:=mM es1 s0;rw[a5];refine⟨?_, ?_,λt ht=> ?_⟩
  .rw[← p2];cases x.dst<;>rfl
  .rw[← p3];cases x.dst<;>rfl
  .rw[aay λe=>dix t ht<|a4 t e,p1]
 have step:∀s3:S,(∀t∈DB ops i,s3.T t=s0.T t)->K5 s0 s3 i.dst->Agr Ni s0.H s3.H->ev1 C ops i bi s3=I ((es2.foldl S.app s3).fin g2 i.dst v2):=λs3 e1 e2 e3=>
  b6 s3 (λt ht=>by rw[e1 t ht,T1 t ht]) ⟨e2.1.trans E1.1.symm,e2.2.1.trans E1.2.1.symm,λt ht=>by rw[e2.2.2 t ht,E1.2.2 t ht]⟩ (λid hid=>by rw[e3 id hid,H1 id hid])
 have T2:∀t∈DB ops x,((es2.foldl S.app s0).fin g2 i.dst v2).T t=s0.T t:=λt ht=>by
  rw[ZL,AD λe=>dix t e ht];exact jA es2 s0 n2<|rx t ht
 have H2:Agr Nx s0.H ((es2.foldl S.app s0).fin g2 i.dst v2).H:=by
  rw[ZM];exact jB es2 s0 p2 cx
 have E2:K5 s0 ((es2.foldl S.app s0).fin g2 i.dst v2) x.dst:=by
  obtain⟨p1,p2,p3,_⟩:=mM es2 s0;refine⟨?_, ?_,λt ht=> ?_⟩
  .rw[← p2];cases i.dst<;>rfl
  .rw[← p3];cases i.dst<;>rfl
  .rw[aay λe=>dxi t ht<|b4 t e,p1]
 have eq:s2=(es1.foldl S.app<|(es2.foldl S.app s0).fin g2 i.dst v2).fin g1 x.dst v1:=by
  have m1:∀e∈es1,El (e.fk.f e.id) v2=v2:=λe he=>ja (λc hc=>Fk.R8 hc<|n1 e he) b1;have m2:∀e∈es2,El (e.fk.f e.id) v1=v1:=λe he=>ja (λc hc=>Fk.R8 hc<|n2 e he) a1;rw[b5,a5,la es2 _ m2,la es1 _ m1,aC5 wxi kxi kix es1 es2 s0 a3 b3,auu hd]
 refine⟨(es2.foldl S.app s0).fin g2 i.dst v2,⟨g2,v2,es2,b1,b2,b3,b4,rfl,step⟩,⟨g1,v1,es1,a1,a2,a3,a4,eq,λs3 e1 e2 e3=> ?_⟩⟩;exact a6 s3 (λt ht=>by rw[e1 t ht,T2 t ht]) ⟨e2.1.trans E2.1,e2.2.1.trans E2.2.1,λt ht=>by rw[e2.2.2 t ht,E2.2.2 t ht]⟩ λid hid=>by rw[e3 id hid,H2 id hid]
inductive Run (C:Cx) (ops:Array Oper) (L:Lb):List Nat->S->S->Prop
 | nil {s:S} :Run C ops L [] s s
 | cons {i:Nat} {o:Oper} {l:List Nat} {s s1 s':S} (ho:ops[i]? =I o) (h:Stp C ops o (L.b i) (L.F i) (L.N i) (L.W i) (L.K i) (L.V i) s s1) (t:Run C ops L l s1 s'):Run C ops L (i::l) s s'
def Fit(ops:Array Oper)(L:Lb)(BZ:List Nat)(s:S)(i:Nat):Prop:=∀o,ops[i]? =I o->
 (∀t∈DB ops o,(∀j∈BZ,L.R j i->∀oj,ops[j]? =I oj->oj.dst≠I t)->InA (L.F i) (s.T t)/\(mov o.op=A0\/InA (L.N i) (s.T t)))/\PA (L.N i) (L.F i) s.H/\(∀id,L.b i<=id->id<L.b i+16->s.H id=U)
def Ind(ops:Array Oper)(L:Lb)(x i:Nat):Prop:=∀ox oi,ops[x]? =I ox->ops[i]? =I oi->
 (∀id,L.K x id->¬L.F i id)/\(∀id,L.K i id->¬L.F x id)/\(∀id,L.W x id->¬L.N i id)/\(∀id,L.W i id->¬L.N x id)/\(∀id,L.W x id->¬L.W i id)/\
 (∀id,L.b i<=id->id<L.b i+16->¬L.F x id)/\(∀id,L.b x<=id->id<L.b x+16->¬L.F i id)/\(∀t,ox.dst=I t->t ∉ DB ops oi)/\(∀t,oi.dst=I t->t ∉ DB ops ox)
def Bef(ops:Array Oper)(L:Lb)(x i:Nat):Prop:=∀ox oi,ops[x]? =I ox->ops[i]? =I oi->
 ((∀id,L.W x id->¬L.N i id)\/(∀id,L.F x id->L.F i id))/\(∀t,ox.dst=I t->t∈DB ops oi->(∀id,L.V x id->L.F i id)/\(mov oi.op=A0\/ ∀id,L.V x id->L.N i id))/\(∀id,L.b i<=id->id<L.b i+16->¬L.F x id)
structure PS (ops:Array Oper) (L:Lb):Prop where
 WF:∀i id,L.W i id->L.F i id
 NF:∀i id,L.N i id->L.F i id
 NW:∀i id,L.b i<=id->id<L.b i+16->L.W i id
 lt:∀x i,L.R x i->x<i
 dst:∀(x i:Nat) (ox oi:Oper) (t:Nat),x≠i->ops[x]? =I ox->ops[i]? =I oi->ox.dst=I t->oi.dst≠I t
 anc:∀(x i:Nat) (oi:Oper),ops[i]? =I oi->L.R x i->∃e∈oi.after,FT .any e=A0/\(e.on=x\/L.R x e.on)
 dir:∀(i:Nat) (oi:Oper) (e:Edge),ops[i]? =I oi->e∈oi.after->FT .any e=A0->e.on<i
 bef:∀x i,L.R x i->Bef ops L x i
 ind:∀x i,x<i->¬L.R x i->Ind ops L x i
variable {L:Lb}
def Ind.symm{x i:Nat}(h:Ind ops L x i):Ind ops L i x:=λoi ox hi hx=>by
 obtain⟨a,b,c,d,e,f,g,p,q⟩:=h ox oi hx hi;exact⟨b,a,d,c,λid h1 h2=>e id h2 h1,g,f,q,p⟩
def Fit.step(hn:PS ops L){BZ:List Nat}{x i:Nat}{ox:Oper}(hox:ops[x]? =I ox)(hxi:x≠i)(hRi:¬L.R i x)(h:Stp C ops ox (L.b x) (L.F x) (L.N x) (L.W x) (L.K x) (L.V x) s s')(hf:Fit ops L BZ s i){U':List Nat}(hU:∀j∈BZ,j=x\/j∈U'):
  Fit ops L U' s' i:=by
 intro oi hoi;obtain⟨f1,f2,f3⟩:=hf oi hoi;obtain⟨g,v,es,a1,a2,a3,a4,rfl,a6⟩:=h;have pc:(((∀id,L.W x id->¬L.N i id)\/(∀id,L.F x id->L.F i id))/\(∀t,ox.dst=I t->t∈DB ops oi->(∀id,L.V x id->L.F i id)/\(mov oi.op=A0\/ ∀id,L.V x id->L.N i id))/\(∀id,L.b i<=id->id<L.b i+16->¬L.F x id)):=by
  by_cases hR:L.R x i
  .exact hn.bef x i hR ox oi hox hoi
  .have hI:Ind ops L x i:=by
    rcases Ta hxi with h|h
    .exact hn.ind x i h hR
    .exact(hn.ind i x h hRi).symm
   obtain⟨_,_,b1,_,_,b6,_,b8,_⟩:=hI ox oi hox hoi;exact⟨.inl b1,λt h1 h2=>absurd h2<|b8 t h1,b6⟩
 obtain⟨p1,p2,p3⟩:=pc;refine⟨λt ht aA=> ?_, ?_,λid h1 h2=> ?_⟩
 .rw[ZL];split
  .rename_i hd;exact⟨(a2 t hd).mono (p2 t hd ht).1,(p2 t hd ht).2.imp id λh=>(a2 t hd).mono h⟩
  .rename_i hd;have:=f1 t ht λj hj hR oj hoj e=>by
    rcases hU j hj with rfl|hj
    .rw[hox]at hoj;cases hoj;exact hd e
    .exact aA j hj hR oj hoj e
   exact⟨kG es s this.1,this.2.imp id<|kG es s⟩
 .rw[ZM];refine aBk es s (λe he=> ?_) f2;obtain p1|p1:=p1
  .exact .inr (p1 _ (a3 e he).1.1)
  .exact .inl ((a3 e he).2.mono p1)
 .rw[ZM];exact aAa es s (λe he e'=>p3 id h1 h2<|e'▸hn.WF x _ (a3 e he).1.1)<|f3 id h1 h2
def Run.first(hn:PS ops L){i:Nat}{l2:List Nat}:∀(l1:List Nat) (s:S),Run C ops L (l1++i::l2) s s'->(l1++i::l2).Pairwise (· < ·)->(∀j∈l1++i::l2,¬L.R j i)->
  (∀j∈l1++i::l2,Fit ops L (l1++i::l2) s j)->Run C ops L (i::(l1++l2)) s s'
 | [],s,h,_,_,_=>h
 | x::l1,s,h,hp,hr,hf=>by
  cases h with
  | cons hox hx t=>
   rename_i ox s1;have hp':=P2.1 hp;have hxi:x<i:=hp'.1 i<|CK _ Ap;have ih:=Run.first hn l1 s1 t hp'.2 (λj hj=>hr j<|Am _ hj) (λj hj=>by
    refine(hf j<|Am _ hj).step hn hox (P4<|hp'.1 j hj) (λhR=>Nat.lt_asymm (hn.lt _ _ hR)<|hp'.1 j hj) hx λk hk=> ?_;rcases Bj.1 hk with h|h
    .exact .inl h
    .exact .inr h)
   cases ih with
   | cons hoi hi t2=>
    rename_i oi s2;obtain⟨c1,c2,c3,c4,c5,_,_,c6,c7⟩:=hn.ind x i hxi (hr x Ap) ox oi hox hoi;obtain⟨fx1,fx2,_⟩:=hf x Ap ox hox;obtain⟨fi1,fi2,_⟩:=hf i (Am _<|CK _ Ap) oi hoi;obtain⟨s0',k1,k2⟩:=Stp.swap hx hi c1 c2 c3 c4 c5 c6 c7 (λt ht=>hn.dst x i ox oi t (P4 hxi) hox hoi ht)
     (λt ht=>(fx1 t ht λj hj hR oj hoj e=>by
      rcases Bj.1 hj with rfl|hj
      .exact absurd (hn.lt _ _ hR) (Nat.lt_irrefl _)
      .exact Nat.lt_asymm (hn.lt _ _ hR)<|hp'.1 j hj).1) fx2
     (λt ht=>(fi1 t ht λj hj hR oj hoj e=>hr j hj hR).1) fi2
    exact .cons hoi k1<|.cons hox k2 t2
end
end Go.VS
namespace Go.VS
open Go
section
variable {C:Cx} {B:Ba} {ops:Array Oper} {L:Lb} {stk:List (Array Value)} {Q:Exit->Act->World->Prop}
def sG{a:Array Bool}{i:Nat}(h:i<a.size)(ht:a.getD i A0=A0):a.getD i A3=A0:=by
 simp[h]at ht ⊢; exact ht
def apK(hP:C.P=B.P)(hC:HE C B)(hn:PS ops L){s':S}(hQ:∀β a w,St B β stk s' a w->Q .normal a w):∀(n:Nat) (BZ:List Nat) (listed:Array Bool) (a:Act) (w:World) (β:Beta) (s:S),
  BZ.length=n->Run C ops L BZ s s'->BZ.Pairwise (· < ·)->(∀j,j∈BZ↔j<ops.size/\listed.getD j A0=A3)->listed.size=ops.size->(∀i x,i<ops.size->i ∉ BZ->L.R x i->x ∉ BZ)->
  (∀j∈BZ,Fit ops L BZ s j)->St B β stk s a w->wpAny B.P .any ops Q n listed a w:=by
 intro n
 induction n with
 | zero=>
  intro BZ listed a w β s hl hr hp hU hs hd hf hst;have:BZ=[]:=E6 hl;subst this;cases hr;refine⟨?_,hQ β a w hst⟩;cases hrd:P6 .any ops listed with
  | nil=>rfl
  | cons j l=>
   have hj:j∈P6 .any ops listed:=by rw[hrd];exact Ap
   obtain⟨h1,o,ho,_⟩:=mem_ready.1 hj;have:=(hU j).2 ⟨(Gw.1 ho).1,h1⟩;cases this
 | succ n ih=>
  intro BZ listed a w β s hl hr hp hU hs hd hf hst;refine⟨λoF=> ?_,λi hi=> ?_⟩
  .exfalso;cases BZ with
   | nil=>simp at hl
   | cons i0 l=>
    obtain⟨hlt,hun⟩:=(hU i0).1 Ap;obtain⟨o,ho⟩:∃o,ops[i0]? =I o:=⟨ops[i0],by simp[hlt]⟩;have hr0:i0∈P6 .any ops listed:=mem_ready.2 ⟨hun,o,ho,λe he hb=>by
     have Zy:=hn.dir i0 o e ho he hb;have az8:e.on ∉ i0::l:=λhm=>by
      rcases Bj.1 hm with h|h
      .omega
      .have:=(P2.1 hp).1 _ h;omega
     have hsz:e.on<ops.size:=J
     refine sG J ?_;cases hb':listed.getD e.on A0 with
     | true=>rfl
     | false=>exact absurd ((hU e.on).2 ⟨hsz,hb'⟩) az8⟩
    rw[oF]at hr0;cases hr0
  .obtain⟨hun,oi,hoi,DT⟩:=mem_ready.1 hi;have hlt:i<ops.size:=(Gw.1 hoi).1;have hiU:i∈BZ:=(hU i).2 ⟨hlt,hun⟩;obtain⟨l1,l2,rfl⟩:=List.append_of_mem hiU;have hRn:∀j∈l1++i::l2,¬L.R j i:=by
    intro j hj hR;obtain⟨e,he,hb,U8⟩:=hn.anc j i oi hoi hR;have hel:=DT e he hb;have heU:e.on ∉ l1++i::l2:=λhm=>by
     have h2:=((hU e.on).1 hm).2;have hsz:=((hU e.on).1 hm).1;have:listed.getD e.on A0=A0:=by simp[show e.on<listed.size by omega]at hel ⊢; exact hel
     rw[this]at h2;cases h2
    obtain h|h:=U8
    .exact heU (h▸hj)
    .have Zy:=hn.dir i oi e hoi he hb;exact hd e.on j J heU h hj
   have CW:=Run.first hn l1 s hr hp hRn hf
   cases CW with
   | cons UH UD t=>
    rename_i o' s1;rw[hoi]at UH;cases UH;have hnd:(l1++i::l2).Nodup:=hp.imp λh=>P4 h;have FM:∀j,j∈l1++l2↔j∈l1++i::l2/\j≠i:=by
     intro j;have JR:=Kw.1 hnd;constructor
     .intro hj;refine⟨?_, ?_⟩
      .rcases BM.1 hj with h|h
       .exact Bq _ h
       .exact CK _ (Am _ h)
      .rintro rfl;rcases BM.1 hj with h|h
       .exact JR.2.2 j h j Ap rfl
       .exact(Ks.1 JR.2.1).1 h
     .rintro⟨hj,hne⟩;rcases BM.1 hj with h|h
      .exact Bq _ h
      .rcases Bj.1 h with h|h
       .exact absurd h hne
       .exact CK _ h
    refine ko hP hC hoi hst (b:=L.b i) (λj h1 h2=>(hf i hiU oi hoi).2.2 j h1 h2) UD.ev ?_;intro β' u w' MK;refine ih (l1++l2) _ _ _ β' s1 ?_ t ?_ ?_ ?_ ?_ ?_ MK
    .simp at hl ⊢; omega
    .exact(NH.1 hp).1 |> λp1=>by
      have p2:=NH.1 hp;exact NH.2 ⟨p1,(P2.1 p2.2.1).2,λx hx y hy=>p2.2.2 x hx y<|Am _ hy⟩
    .intro j;rw[FM,hU];by_cases e:j=i
     .subst e;simp
     .rw[getD_set_ne A0<|Ky e];simp[e]
    .simpa using hs
    .intro k x hk hkU hR hx;have hxU:=((FM x).1 hx).1;by_cases e:k=i
     .subst e;exact hRn x hxU hR
     .exact hd k x hk (λh=>hkU<|(FM k).2 ⟨h,e⟩) hR hxU
    .intro j hj;obtain⟨hjU,hne⟩:=(FM j).1 hj;refine(hf j hjU).step hn hoi (Ky hne) (hRn j hjU) UD λk hk=> ?_;by_cases e:k=i
     .exact .inl e
     .exact .inr<|(FM k).2 ⟨hk,e⟩
def aq7(hP:C.P=B.P)(hm:B.P.follows .mixedOrders=A0)(hC:HE C B)(hn:PS ops L){s s':S}(hr:Run C ops L (BJ ops.size) s s')(hf:∀j,j<ops.size->Fit ops L (BJ ops.size) s j)
  {id:Nat}{β:Beta}{a:Act}{w:World}(hst:St B β stk s a w)(hQ:∀β a w,St B β stk s' a w->Q .normal a w):(Qd id ops A0).wp B.P Q a w:=by
 refine wp_region_any hm ?_;have MK:St B β stk s a { w with drawn:=w.drawn+1 } :=by
  have hk:Kp w β { w with drawn:=w.drawn+1 } β:=Kp.heap rfl;have:=hst.keep hk (H':=s.H)<|hst.hs.drew;exact this
 refine apK hP hC hn hQ ops.size (BJ ops.size) _ a _ β s (by simp) hr Qa (λj=> ?_) (by simp) (λi x hi hiU hR=> ?_) (λj hj=>hf j<|DD.1 hj) MK
 .rw[DD];constructor
  .intro h;exact⟨h,by simp[h]⟩
  .exact λh=>h.1
 .exact absurd (DD.2 hi) hiU
end
end Go.VS
namespace Go.VS
open Go
abbrev Mm(M id:Nat):Prop:=M.testBit id=A0
def EP(a b i:Nat):(BI a b).testBit i=(a.testBit i||b.testBit i):=Nat.testBit_or a b i
def kY(a b i:Nat):(P5 a b).testBit i=(a.testBit i&&b.testBit i):=Nat.testBit_and a b i
def YW{i j:Nat}:(bit i).testBit j=A0↔j=i:=by
 show(1 <<< i).testBit j=A0↔j=i;rw[Nat.one_shiftLeft,Nat.testBit_two_pow];simp[eq_comm]
def Li{b j:Nat}:(nm b).testBit j=A0↔b<=j/\j<b+16:=by
 show(65535 <<< b).testBit j=A0↔_;rw[Nat.testBit_shiftLeft,show(65535:Nat)=2 ^ 16 - 1 from rfl,Nat.testBit_two_pow_sub_one];simp;omega
def Mv{l:List Nat}{j:Nat}:(msk l).testBit j=A0↔j∈l:=by
 induction l with
 | nil=>simp[msk]
 | cons i l ih=>
  show(BI (bit i)<|msk l).testBit j=A0↔_;rw[EP,CB,YW,ih,Bj]
def LZ{a b:Nat}(h:dsj a b=A0):∀i,Mm a i->¬Mm b i:=λi h1 h2=>by
 have e:P5 a b=0:=Yl h;have:=kY a b i;rw[e,h1,h2]at this;simp at this
def Se{a b:Nat}(h:sbs a b=A0):∀i,Mm a i->Mm b i:=λi h1=>by
 have e:P5 a b=a:=Yl h;have:=kY a b i;rw[e,h1]at this;simpa using this.symm
def mC{a i:Nat}:tst a i=A0↔a.testBit i=A0:=by
 unfold tst;constructor
 .intro h;cases hb:a.testBit i with
  | true=>rfl
  | false=>
   have:dsj a (bit i)=A0:=by
    unfold dsj;have e:P5 a (bit i)=0:=Nat.eq_of_testBit_eq λj=>by
     rw[kY];cases hj:(bit i).testBit j with
     | false=>simp
     | true=>rw[YW.1 hj,hb];simp
    rw[e];rfl
   rw[this]at h;cases h
 .intro h;cases hd:dsj a (bit i) with
  | false=>rfl
  | true=>exact absurd (YW.2 rfl)<|LZ hd i h
section
variable {F:Nat->Prop} {H:Hp}
def aEx{v:AV}{l:List Nat}(h:NV v=I l)(hF:∀i∈l,F i):In1 F v:=by
 cases v<;>first|(cases h;done)|(cases h;exact hF _<|by simp)|trivial
def lj:∀ {cs:List AV} {l:List Nat},ZU cs=I l->(∀i∈l,F i)->∀c∈cs,In1 F c
 | [],_,_,_,_,hc=>by cases hc
 | c::cs,l,h,hF,d,hd=>by
  obtain⟨a,h1,h⟩:=Aj.1 h;obtain⟨b,h2,h⟩:=Aj.1 h;cases h;rcases Bj.1 hd with rfl|hd
  .exact aEx h1 λi hi=>hF i (Bq _ hi)
  .exact lj h2 (λi hi=>hF i<|CK _ hi) d hd
def aEw{v:AV}{l:List Nat}(h:NU v=I l)(hF:∀i∈l,F i):In2 F v:=by
 have gen:NV v=I l->In2 F v:=λh=> .of1<|aEx h hF;cases v<;>first|exact lj h hF|exact gen h
def aEu:∀ {cs:List AV} {l:List Nat},nC cs=I l->(∀i∈l,F i)->∀c∈cs,In2 F c
 | [],_,_,_,_,hc=>by cases hc
 | c::cs,l,h,hF,d,hd=>by
  obtain⟨a,h1,h⟩:=Aj.1 h;obtain⟨b,h2,h⟩:=Aj.1 h;cases h;rcases Bj.1 hd with rfl|hd
  .exact aEw h1 λi hi=>hF i (Bq _ hi)
  .exact aEu h2 (λi hi=>hF i<|CK _ hi) d hd
def aEv{v:AV}{l:List Nat}(h:ZV v=I l)(hF:∀i∈l,F i):In3 F v:=by
 have gen:NU v=I l->In3 F v:=λh=> .of2<|aEw h hF;cases v<;>first|exact aEu h hF|exact gen h
def YP{v:AV}{l:List Nat}(h:Tv v=I l)(hF:∀i∈l,F i):InA F v:=by
 have gen:ZV v=I l->InA F v:=λh=> .of3<|aEv h hF;cases v with
 | gd g w v=>exact aEv (v:=v) h hF
 | _=>exact gen h
def aAU:∀ {ids m:List Nat},ZH H ids=I m->(∀i∈m,F i)->∀i∈ids,∀ob,H i=I ob->En F ob
 | [],_,_,_,_,hi=>by cases hi
 | j::l,m,h,hF,i,hi=>by
  obtain⟨a,h1,h⟩:=Aj.1 h;obtain⟨b,h2,h⟩:=Aj.1 h;cases h;rcases Bj.1 hi with rfl|hi
  .intro ob ho;unfold aaw at h1;rw[ho]at h1;cases ob<;>first|trivial|exact lj h1 λi hi=>hF i (Bq _ hi)
  .exact aAU h2 (λi hi=>hF i<|CK _ hi) i hi
def Xv:∀(n:Nat) (l:List Nat) {c:Nat},clo H n l=I c->(∀i∈l,Mm c i)/\DS (Mm c) H
 | 0,[],c,h=>by cases h;exact⟨by simp,λi ob hi=>by simp[Mm]at hi⟩
 | 0,_::_,c,h=>by cases h
 | n+1,[],c,h=>by cases h;exact⟨by simp,λi ob hi=>by simp[Mm]at hi⟩
 | n+1,j::l,c,h=>by
  have h:((ZH H<|j::l).bind λm=>(clo H n m).bind λr=>I<|BI (msk<|j::l) r)=I c:=h;obtain⟨m,h1,h⟩:=Aj.1 h;obtain⟨r,h2,h⟩:=Aj.1 h;cases h;obtain⟨i1,i2⟩:=Xv n m h2;have up:∀i,Mm r i->Mm (BI (msk<|j::l) r) i:=λi hi=>by
   show(BI _ _).testBit i=A0;rw[EP,show r.testBit i=A0 from hi];simp
  refine⟨λi hi=> ?_,λi ob hi ho=> ?_⟩
  .show(BI _ _).testBit i=A0;rw[EP,Mv.2 hi];rfl
  .have hi:(BI (msk<|j::l) r).testBit i=A0:=hi;rw[EP,CB]at hi;obtain hi|hi:=hi
   .exact aAU h1 (λk hk=>up k<|i1 k hk) i (Mv.1 hi) ob ho
   .have:=i2 i ob hi ho;cases ob<;>first|trivial|exact λc hc=>(this c hc).mono up
end
section
variable {C:Cx} {ops:Array Oper} {s0:S} {b0:Nat}
def CN(C:Cx)(ops:Array Oper)(s0:S)(b0:Nat):List Rec->Prop
 | []=>True
 | r::acc=>CN C ops s0 b0 acc/\r.i=acc.length/\r.b=b0+16 * acc.length/\ops[r.i]? =I r.o/\Qm acc r.o.after.toList=I r.anc/\
  (∃l c,ZJ s0 acc (DB ops r.o)=I l/\clo s0.H 4 l=I c/\((mvO r.o=A3/\r.F=Om r.anc acc (BI c<|nm r.b)/\((r.N=BI (msk l) (nm r.b)/\pur r.o=A0/\r.o.guard=U)\/r.N=r.F))\/(mvO r.o=A0/\r.F=BI (msk l) (nm r.b)/\r.N=nm r.b)))/\(sbs r.W r.F=A0/\ ∀id,Mm (nm r.b) id->Mm r.W id)/\
  (∀x∈acc,chk ops x r=A0)/\okO C r.o=A0/\PL r.o.dst (DB ops r.o)=A0
def CN.lt:∀ {acc:List Rec},CN C ops s0 b0 acc->∀r∈acc,r.i<acc.length
 | [],_,r,hr=>by cases hr
 | x::acc,h,r,hr=>by
  rcases Bj.1 hr with rfl|hr
  .rw[h.2.1];simp
  .have:=CN.lt h.1 r hr;simp;omega
def CN.mem:∀ {acc:List Rec},CN C ops s0 b0 acc->∀r∈acc,∃H9,CN C ops s0 b0 (r::H9)/\(∀x∈H9,x∈acc)/\(∀x∈acc,x.i<r.i->x∈H9)/\(∀x∈H9,x.i<r.i)
 | [],_,r,hr=>by cases hr
 | x::acc,h,r,hr=>by
  rcases Bj.1 hr with rfl|hr
  .refine⟨acc,h,λy hy=>Am _ hy,λy hy hlt=> ?_,λy hy=>by rw[h.2.1];exact h.1.lt y hy⟩;rcases Bj.1 hy with rfl|hy
   .omega
   .exact hy
  .obtain⟨H9,h1,h2,h3,h4⟩:=CN.mem h.1 r hr;have k1:=h.1.lt r hr;have k2:=h.2.1;refine⟨H9,h1,λy hy=>Am _<|h2 y hy,λy hy hlt=> ?_,h4⟩;rcases Bj.1 hy with e|hy
   .rw[e]at hlt;omega
   .exact h3 y hy hlt
def CN.find:∀ {acc:List Rec},CN C ops s0 b0 acc->∀r∈acc,HI r.i acc=I r
 | [],_,r,hr=>by cases hr
 | x::acc,h,r,hr=>by
  unfold HI;rcases Bj.1 hr with rfl|hr
  .simp
  .have h1:=h.1.lt r hr;have h2:=h.2.1;have:Ag x.i r.i=A3:=by rw[← GD,H4];omega
   rw[this];exact CN.find h.1 r hr
def OL{i:Nat}{r:Rec}:∀ {acc:List Rec},HI i acc=I r->r∈acc/\r.i=i
 | [],h=>by cases h
 | x::acc,h=>by
  unfold HI at h;split at h
  .rename_i e;cases h;exact⟨Ap,Bk e⟩
  .have:=OL h;exact⟨Am _ this.1,this.2⟩
def aCN{t:Nat}{r:Rec}:∀ {acc:List Rec},Qq t acc=I r->r∈acc/\r.o.dst=I t
 | [],h=>by cases h
 | x::acc,h=>by
  unfold Qq at h;split at h
  .rename_i e;cases h;refine⟨Ap, ?_⟩;unfold mh at e;split at e
   .rename_i d hd;rw[hd,Bk e]
   .cases e
  .have:=aCN h;exact⟨Am _ this.1,this.2⟩
def CN.ex:∀ {acc:List Rec},CN C ops s0 b0 acc->∀i,i<acc.length->∃r∈acc,r.i=i
 | [],_,i,hi=>by simp at hi
 | x::acc,h,i,hi=>by
  by_cases e:i=acc.length
  .exact⟨x,Ap,by rw[h.2.1,e]⟩
  .obtain⟨r,hr,e'⟩:=CN.ex h.1 i (by simp at hi;omega);exact⟨r,Am _ hr,e'⟩
def SU{anc:Nat}:∀(acc:List Rec) (F:Nat) (i:Nat),Mm F i->Mm (Om anc acc F) i
 | [],_,_,h=>h
 | r::acc,F,i,h=>by
  unfold Om;refine SU acc _ i ?_;split
  .show(BI _ _).testBit i=A0;rw[EP,show F.testBit i=A0 from h];simp
  .exact h
def DS.lor{H:Hp}{a b:Nat}(h1:DS (Mm a) H)(h2:DS (Mm b) H):DS (Mm<|BI a b) H:=by
 have up1:∀i,Mm a i->Mm (BI a b) i:=λi hi=>by
  show(BI _ _).testBit i=A0;rw[EP,show a.testBit i=A0 from hi];simp
 have up2:∀i,Mm b i->Mm (BI a b) i:=λi hi=>by
  show(BI _ _).testBit i=A0;rw[EP,show b.testBit i=A0 from hi];simp
 intro i ob hi ho;have hi:(BI a b).testBit i=A0:=hi;rw[EP,CB]at hi;obtain hi|hi:=hi
 .have:=h1 i ob hi ho;cases ob<;>first|trivial|exact λc hc=>(this c hc).mono up1
 .have:=h2 i ob hi ho;cases ob<;>first|trivial|exact λc hc=>(this c hc).mono up2
def zO{anc:Nat}{H:Hp}:∀(acc:List Rec) (F:Nat),(∀r∈acc,mvO r.o=A3->DS (Mm r.F) H)->DS (Mm F) H->DS (Mm<|Om anc acc F) H
 | [],_,_,h=>h
 | r::acc,F,hr,h=>by
  unfold Om;refine zO acc _ (λx hx=>hr x<|Am _ hx) ?_;split
  .rename_i hc;simp only[AE,CL]at hc;exact(hr r Ap hc.2).lor h
  .exact h
def Fr(s:S):Prop:=∀j,s.nid<=j->s.H j=U
def CN.closed(hfr:∀j,b0<=j->s0.H j=U):∀ {acc:List Rec},CN C ops s0 b0 acc->∀r∈acc,mvO r.o=A3->DS (Mm r.F) s0.H
 | [],_,r,hr=>by cases hr
 | x::acc,h,r,hr=>by
  intro hmv;have ih:=CN.closed hfr h.1;rcases Bj.1 hr with rfl|hr
  .obtain⟨_,_,hb,_,_,⟨l,c,h1,h2,h3⟩,_⟩:=h;obtain h3|h3:=h3
   .rw[h3.2.1];refine zO _ _ ih ((Xv 4 l h2).2.lor λi ob hi ho=> ?_);have:=Li.1 hi;rw[hfr i J]at ho;cases ho
   .rw[hmv]at h3;cases h3.1
  .exact ih r hr hmv
def SS{acc:List Rec}:∀(l:List Edge) {m:Nat},Qm acc l=I m->(∀e∈l,FT .any e=A0->∃r,HI e.on acc=I r)/\
  (∀x,Mm m x->∃e∈l,FT .any e=A0/\ ∃r,HI e.on acc=I r/\(e.on=x\/Mm r.anc x))
 | [],m,h=>by cases h;exact⟨by simp,λx hx=>by simp[Mm]at hx⟩
 | e::l,m,h=>by
  unfold Qm at h;split at h
  .rename_i hb;obtain⟨r,h1,h⟩:=Aj.1 h;obtain⟨m',h2,h⟩:=Aj.1 h;cases h;obtain⟨i1,i2⟩:=SS l h2;refine⟨λe' he hb'=> ?_,λx hx=> ?_⟩
   .rcases Bj.1 he with rfl|he
    .exact⟨r,h1⟩
    .exact i1 e' he hb'
   .have hx:(BI (BI (bit e.on) r.anc) m').testBit x=A0:=hx;rw[EP,EP,CB,CB]at hx;obtain(hx|hx)|hx:=hx
    .exact⟨e,Ap,hb,r,h1,.inl (YW.1 hx).symm⟩
    .exact⟨e,Ap,hb,r,h1,.inr hx⟩
    .obtain⟨e',he,h3⟩:=i2 x hx;exact⟨e',Am _ he,h3⟩
  .rename_i hb;obtain⟨i1,i2⟩:=SS l h;refine⟨λe' he hb'=> ?_,λx hx=> ?_⟩
   .rcases Bj.1 he with rfl|he
    .rw[hb]at hb';cases hb'
    .exact i1 e' he hb'
   .obtain⟨e',he,h3⟩:=i2 x hx;exact⟨e',Am _ he,h3⟩
def CN.Zp:∀ {acc:List Rec},CN C ops s0 b0 acc->∀r∈acc,∀x,Mm r.anc x->x<r.i
 | [],_,r,hr=>by cases hr
 | y::acc,h,r,hr=>by
  intro x hx;rcases Bj.1 hr with rfl|hr
  .obtain⟨hg,hi,_,_,ha,_⟩:=h;obtain⟨e,he,hb,r',h1,h2⟩:=(SS _ ha).2 x hx;obtain⟨hm,hei⟩:=OL h1;have:=hg.lt r' hm;obtain h2|h2:=h2
   .omega
   .have:=CN.Zp hg r' hm x h2;omega
  .exact CN.Zp h.1 r hr x hx
def Bv(acc:List Rec)(b0:Nat):Lb where
 b i:=b0+16 * i
 F i id:=match HI i acc with
  | some r=>Mm r.F id
  | none=>b0+16 * i<=id/\id<b0+16 * i+16
 N i id:=match HI i acc with
  | some r=>Mm r.N id
  | none=>b0+16 * i<=id/\id<b0+16 * i+16
 K i id:=match HI i acc with
  | some r=>Mm r.K id
  | none=>b0+16 * i<=id/\id<b0+16 * i+16
 W i id:=match HI i acc with
  | some r=>Mm r.W id
  | none=>b0+16 * i<=id/\id<b0+16 * i+16
 V i id:=match HI i acc with
  | some r=>id∈r.V
  | none=>False
 R x i:=match HI i acc with
  | some r=>Mm r.anc x
  | none=>False
def XQ{d:Option Nat}{l:List Nat}(h:PL d l=A0):∀t,d=I t->t ∉ l:=by
 intro t e hm;subst e;have:abL t l=A0:=Gz.2 ⟨t,hm,by simp⟩;simp[PL,this]at h
def aBN{d e:Option Nat}(h:mv d e=A0):∀t,d=I t->e≠I t:=by
 intro t h1 h2;subst h1;subst h2;simp[mv]at h
def CN.op{acc:List Rec}(h:CN C ops s0 b0 acc)(hn:acc.length=ops.size){i:Nat}{o:Oper}(ho:ops[i]? =I o):∃r∈acc,r.i=i/\r.o=o/\HI i acc=I r:=by
 obtain⟨r,hr,hi⟩:=h.ex i (by rw[hn];exact(Gw.1 ho).1);obtain⟨H9,hg,_⟩:=h.mem r hr;have:=hg.2.2.2.1;rw[hi,ho]at this;exact⟨r,hr,hi,(C8 this).symm,by rw[← hi];exact h.find r hr⟩
def CN.chk{acc:List Rec}(h:CN C ops s0 b0 acc){x r:Rec}(hx:x∈acc)(hr:r∈acc)(hlt:x.i<r.i):VS.chk ops x r=A0:=by
 obtain⟨H9,hg,_,h3,_⟩:=h.mem r hr;exact hg.2.2.2.2.2.2.2.1 x<|h3 x hx hlt
def CN.MM{acc:List Rec}(h:CN C ops s0 b0 acc){r:Rec}(hr:r∈acc):r.b=b0+16 * r.i/\(∀id,r.b<=id->id<r.b+16->Mm r.F id)/\(sbs r.W r.F=A0/\ ∀id,Mm (nm r.b) id->Mm r.W id):=by
 obtain⟨H9,hg,_⟩:=h.mem r hr;obtain⟨_,hi,hb,_,_,⟨l,c,h1,h2,h3⟩,hw,_⟩:=hg;refine⟨by rw[hi];exact hb,λid k1 k2=> ?_,hw⟩;obtain h3|h3:=h3
 .rw[h3.2.1];refine SU _ _ id ?_;show(BI _ _).testBit id=A0;rw[EP,Li.2 ⟨k1,k2⟩];simp
 .rw[h3.2.1];show(BI _ _).testBit id=A0;rw[EP,Li.2 ⟨k1,k2⟩];simp
def CN.N_F{acc:List Rec}(h:CN C ops s0 b0 acc){r:Rec}(hr:r∈acc):∀id,Mm r.N id->Mm r.F id:=by
 obtain⟨H9,hg,_⟩:=h.mem r hr;obtain⟨_,hi,hb,_,_,⟨l,c,h1,h2,h3⟩,hw,_⟩:=hg;intro id hid;obtain⟨_,h3,h4⟩|⟨_,h3,h4⟩:=h3
 .rcases h4 with h4|h4
  .rw[h3];refine SU _ _ id ?_;rw[h4.1]at hid;have hid:(BI _ _).testBit id=A0:=hid;rw[EP,CB]at hid;show(BI _ _).testBit id=A0;rw[EP];obtain hid|hid:=hid
   .rw[(Xv 4 l h2).1 id<|Mv.1 hid];rfl
   .rw[hid];simp
  .rw[← h4];exact hid
 .rw[h3];rw[h4]at hid;have hid:(nm r.b).testBit id=A0:=hid;show(BI _ _).testBit id=A0;rw[EP,hid];simp
def CN.nice{acc:List Rec}(h:CN C ops s0 b0 acc)(hn:acc.length=ops.size):PS ops (Bv acc b0):=by
 constructor
 .intro i id hw;simp only[Bv]at hw ⊢;split at hw
  .rename_i r hr;obtain⟨hm,hi⟩:=OL hr;obtain⟨_,h2,h3⟩:=h.MM hm;exact Se h3.1 id hw
  .exact hw
 .intro i id hw;simp only[Bv]at hw ⊢;split at hw
  .rename_i r hr;obtain⟨hm,hi⟩:=OL hr;exact h.N_F hm id hw
  .exact hw
 .intro i id h1 h2;simp only[Bv]at h1 h2 ⊢;split
  .rename_i r hr;obtain⟨hm,hi⟩:=OL hr;obtain⟨hb,k2,k3⟩:=h.MM hm;rw[hi]at hb;exact k3.2 id (Li.2 ⟨J,J⟩)
  .exact⟨h1,h2⟩
 .intro x i hR;simp only[Bv]at hR;split at hR
  .rename_i r hr;obtain⟨hm,hi⟩:=OL hr;have:=h.Zp r hm x hR;omega
  .exact hR.elim
 .intro x i ox oi t hne hx hi ht;obtain⟨rx,hrx,ix,rfl,_⟩:=h.op hn hx;obtain⟨ri,hri,ii,rfl,_⟩:=h.op hn hi;rcases Ta hne with hlt|hlt
  .have:=h.chk hrx hri J;simp only[VS.chk,AE]at this;exact aBN this.1 t ht
  .have:=h.chk hri hrx J;simp only[VS.chk,AE]at this;exact λe=>aBN this.1 t e ht
 .intro x i oi hi hR;obtain⟨ri,hri,ii,rfl,fi⟩:=h.op hn hi;simp only[Bv,fi]at hR ⊢;obtain⟨H9,hg,LC,_⟩:=h.mem ri hri;obtain⟨e,he,hb,r',h1,h2⟩:=(SS _ hg.2.2.2.2.1).2 x hR;refine⟨e,by simpa using he,hb, ?_⟩;obtain h2|h2:=h2
  .exact .inl h2
  .obtain⟨hm,hei⟩:=OL h1;have:=h.find r'<|LC r' hm;rw[hei]at this;rw[this];exact .inr h2
 .intro i oi e hi he hb;obtain⟨ri,hri,ii,rfl,fi⟩:=h.op hn hi;obtain⟨H9,hg,LC,_,hlt⟩:=h.mem ri hri;obtain⟨r',h1⟩:=(SS _ hg.2.2.2.2.1).1 e (by simpa using he) hb;obtain⟨hm,hei⟩:=OL h1;have:=hlt r' hm;omega
 .intro x i hR ox oi hx hi;obtain⟨rx,hrx,ix,rfl,fx⟩:=h.op hn hx;obtain⟨ri,hri,ii,rfl,fi⟩:=h.op hn hi;simp only[Bv,fi,fx]at hR ⊢;have hlt:=h.Zp ri hri x hR;have hc:=h.chk hrx hri J;simp only[VS.chk,AE]at hc;have hT:tst ri.anc rx.i=A0:=by rw[ix];exact mC.2 hR
  rw[hT]at hc;obtain⟨_,hc⟩:=hc;simp only[AE,CB]at hc;obtain⟨⟨c1,c2⟩,c3⟩:=hc;refine⟨?_,λt ht hl=> ?_,λid h1 h2 hF=> ?_⟩
  .rcases c1 with c1|c1
   .exact .inl (LZ c1)
   .exact .inr (Se c1)
  .rcases c2 with c2|c2
   .exact absurd hl (XQ c2 t ht)
   .exact⟨λid hid=>Se c2.1 id<|Mv.2 hid,c2.2.imp id λh id hid=>Se h id<|Mv.2 hid⟩
  .have hb:=(h.MM hri).1;exact LZ c3 id hF (Li.2 ⟨J,J⟩)
 .intro x i hlt hR ox oi hx hi;obtain⟨rx,hrx,ix,rfl,fx⟩:=h.op hn hx;obtain⟨ri,hri,ii,rfl,fi⟩:=h.op hn hi;simp only[Bv,fi,fx]at hR ⊢;have hc:=h.chk hrx hri J;simp only[VS.chk,AE]at hc;have hT:tst ri.anc rx.i=A3:=by
   rw[ix];cases hh:tst ri.anc x with
   | false=>rfl
   | true=>exact absurd (mC.1 hh) hR
  rw[hT]at hc;obtain⟨_,hc⟩:=hc;simp only[AE]at hc;obtain⟨⟨⟨k1,k2⟩,k3,k4⟩,k5,k6,k7⟩:=hc.1.1;have hbi:=(h.MM hri).1;have hbx:=(h.MM hrx).1;exact⟨LZ k1,LZ k2,LZ k3,LZ k4,LZ k5,λid h1 h2 hF=>LZ k6 id hF<|Li.2 ⟨J,J⟩,λid h1 h2 hF=>LZ k7 id hF<|Li.2 ⟨J,J⟩,XQ hc.1.2,XQ hc.2⟩
end
end Go.VS
namespace Go.VS
open Go
section
variable {C:Cx} {P:Program} {kd:TypeId->Option K} {s s':S} {b j:Nat} {E:Nat->AV}
structure BC (N:Nat->Prop) (s s':S):Prop where
 nid:s'.nid=s.nid
 n:s'.n=s.n
 pins:s'.pins=s.pins
 nn:∀j,¬N j->s.H j=U->s'.H j=U
def BC.refl(N:Nat->Prop)(s:S):BC N s s:=⟨rfl,rfl,rfl,λ_ _ h=>h⟩
def BC.trans{N:Nat->Prop}{s s' s'':S}(h:BC N s s')(k:BC N s' s''):BC N s s'':=
 ⟨k.nid.trans h.nid,k.n.trans h.n,k.pins.trans h.pins,λj hj e=>k.nn j hj<|h.nn j hj e⟩
def BC.put{N:Nat->Prop}{s s':S}(h:BC N s s')(d:Option Nat)(v:AV):BC N s (s'.put d v):=by
 cases d<;>exact⟨h.nid,h.n,h.pins,h.nn⟩
def BC.E9{N:Nat->Prop}{s s':S}(h:BC N s s'){id:Nat}{ob:Option Ob}(hid:N id\/s.H id≠U):BC N s (s'.E9 id ob):=by
 refine⟨h.nid,h.n,h.pins,λj hj e=> ?_⟩;show upd s'.H id ob j=U;rw[BB _ _ (λe'=>by subst e';exact hid.elim hj λh=>h e)];exact h.nn j hj e
def BC.map{N:Nat->Prop}{s s':S}(h:BC N s s')(f:AV->AV):BC N s (s'.map f):=by
 refine⟨h.nid,h.n,h.pins,λj hj e=> ?_⟩;show CD f (s'.H j)=U;rw[h.nn j hj e];rfl
def BC.abz{N:Nat->Prop}{s s':S}(h:BC N s s'){id:Nat}:BC N s (s'.E9 id U):=by
 refine⟨h.nid,h.n,h.pins,λj hj e=> ?_⟩;show upd s'.H id U j=U;by_cases e':j=id
 .subst e';rw[Bf]
 .rw[BB _ _ e'];exact h.nn j hj e
def BC.kill{N:Nat->Prop}{s s':S}(h:BC N s s')(id:Nat):BC N s (s'.kill id):=(h.map _).abz
def BC.freeze{N:Nat->Prop}{s s':S}(h:BC N s s')(id:Nat):BC N s (s'.freeze id):=by
 unfold S.freeze;split
 .exact(h.map _).abz
 .exact h.kill id
def BC.L9{N:Nat->Prop}:∀(ids:List Nat) {s s':S},BC N s s'->BC N s (ids.foldl S.freeze s')
 | [],_,_,h=>h
 | i::ids,_,_,h=>BC.L9 ids (h.freeze i)
def BC.ni{N:Nat->Prop}:∀(ids:List Nat) {s s':S},BC N s s'->BC N s (ids.foldl S.kill s')
 | [],_,_,h=>h
 | i::ids,_,_,h=>BC.ni ids (h.kill i)
def apL{N:Nat->Prop}{t:TypeId}{x y:AV}(h:IS P t s x y=I s'):BC N s s':=by
 unfold IS at h;split at h
 .rename_i id z i o;split at h
  .rename_i e cs hob;split at h
   .obtain⟨ys,hc,h⟩:=Aj.1 h;split at h<;>cases h;exact(BC.refl N s).E9 (.inr (by rw[hob];simp))
   .cases h
  .rename_i e fz k xs hob;obtain⟨ys,hc,h⟩:=Aj.1 h;split at h
   .obtain⟨v,hd,h⟩:=Aj.1 h;cases h;exact(BC.L9 _<|BC.refl N s).E9 (.inr (by rw[hob];simp))
   .cases h
  .rename_i e k xs hob;obtain⟨ys,hc,h⟩:=Aj.1 h;split at h
   .obtain⟨v,hd,h⟩:=Aj.1 h;cases h;exact(BC.refl N s).E9 (.inr (by rw[hob];simp))
   .cases h
  .cases h
 .cases h
def aog{N:Nat->Prop}(hb:N b){t t2:TypeId}{x y v:AV}{q:Bool}(h:KZ P kd t t2 s b x y=I (q,v,s')):BC N s s':=by
 unfold KZ at h;obtain⟨e,he,h⟩:=Aj.1 h;obtain⟨k,hk,h⟩:=Aj.1 h;obtain⟨ys,hys,h⟩:=Aj.1 h;split at h
 .cases h;exact(BC.refl N s).E9 (.inl hb)
 .split at h
  .rename_i hob _;split at h
   .obtain⟨zs,hz,h⟩:=Aj.1 h;cases h;exact((BC.refl N s).map _).E9 (.inr (by rw[hob];simp))
   .cases h
  .cases h
 .cases h
def aqS{N:Nat->Prop}{t:TypeId}{x y v:AV}(h:Kk P t s x y=I (v,s')):BC N s s':=by
 unfold Kk at h;split at h
 .split at h
  .rename_i hob _;obtain⟨e',he,h⟩:=Aj.1 h;split at h
   .obtain⟨ys,hys,h⟩:=Aj.1 h;cases h;exact(BC.refl N s).E9 (.inr (by rw[hob];simp))
   .cases h
  .cases h
 .cases h
def alq{N:Nat->Prop}{id:Nat}{z:Bool}{lo hi:Option AV}{v:AV}{q:Bool}(h:KT s id z lo hi=I (q,v,s')):BC N s s':=by
 unfold KT at h;split at h
 .rename_i e fz k xs hob;obtain⟨⟨c,l,hh⟩,hc,h⟩:=Aj.1 h;simp only at h;split at h
  .cases h;exact((BC.refl N s).map _).E9 (.inr (by rw[hob];simp))
  .cases h
  .cases h;exact(BC.refl N s).freeze id
 .cases h
def H8(N:Nat->Prop)(H H':Hp):Prop:=∀j,¬N j->H j=U->H' j=U
def H8.refl(N:Nat->Prop)(H:Hp):H8 N H H:=λ_ _ h=>h
def H8.trans{N:Nat->Prop}{H H' H'':Hp}(h:H8 N H H')(k:H8 N H' H''):H8 N H H'':=λj hj e=>k j hj<|h j hj e
def H8.upd{N:Nat->Prop}{H H':Hp}(h:H8 N H H'){id:Nat}{ob:Option Ob}(hid:N id\/H id≠U):H8 N H (upd H' id ob):=λj hj e=>by
 rw[BB _ _ (λe'=>by subst e';exact hid.elim hj λh=>h e)];exact h j hj e
mutual
theorem Jd {N:Nat->Prop} :∀(h:Sh) (H:Hp) (b:Nat) (x:LT h),(∀j,b<=j->j<(BD E H b h x).2.2->N j)->H8 N H (BD E H b h x).2.1
 | .int _,H,_,_,_=> .refl _ _
 | .bool,H,_,_,_=> .refl _ _
 | .str,H,_,_,_=> .refl _ _
 | .sl _,H,_,_,_=> .refl _ _
 | .arr _,H,_,_,_=> .refl _ _
 | .same _,H,_,_,_=> .refl _ _
 | .fz _,H,_,_,_=> .refl _ _
 | .row _ _,H,b,_,hN=>(H8.refl _ _).upd (.inl<|hN b (As b)<|P0 b)
 | .CV _ _,H,b,_,hN=>(H8.refl _ _).upd (.inl<|hN b (As b)<|P0 b)
 | .abx _ _,H,b,_,hN=>(H8.refl _ _).upd (.inl<|hN b (As b)<|P0 b)
 | .agg l,H,b,x,hN=>by
  have un:BD E H b (.agg l) x=(match Al E H b l x with|(cs,H,b)=>(AV.agg cs,H,b)):=rfl;have ih:=Wn (N:=N) l H b x;rw[un]at hN ⊢;generalize Al E H b l x=r at *;exact ih hN
 | .box e l,H,b,x,hN=>by
  have un:BD E H b (.box e l) x=(match Al E H b l x with|(cs,H,b)=>(AV.ptr b cs.length 0 0,upd H b<|I<|.box e cs,b+1)):=rfl;have ih:=Wn (N:=N) l H b x;have hle:=Iy E l H b x;rw[un]at hN ⊢;generalize Al E H b l x=r at *;obtain⟨cs,H',b'⟩:=r;exact(ih λj h1 h2=>hN j h1<|Nat.lt_succ_of_lt h2).upd<|.inl<|hN b' hle<|P0 b'
theorem Wn {N:Nat->Prop} :∀(l:List Sh) (H:Hp) (b:Nat) (x:LTs l),(∀j,b<=j->j<(Al E H b l x).2.2->N j)->H8 N H (Al E H b l x).2.1
 | [],H,_,_,_=> .refl _ _
 | h::l,H,b,x,hN=>by
  have un:Al E H b (h::l) x=(match BD E H b h x.1 with|(c,H,b)=>match Al E H b l x.2 with|(cs,H,b)=>(c::cs,H,b)):=rfl;have ih:=Jd (N:=N) h H b x.1;have hle:=EF E h H b x.1;rw[un]at hN ⊢;generalize BD E H b h x.1=r at *;obtain⟨c,H',b'⟩:=r;have ih2:=Wn (N:=N) l H' b' x.2;have PO:=Iy E l H' b' x.2;simp only at hN ⊢;generalize Al E H' b' l x.2=r at *;obtain⟨cs,H'',b''⟩:=r;exact(ih λj h1 h2=>hN j h1<|Ga h2 PO).trans<|ih2 λj h1 h2=>hN j (Ca hle h1) h2
end
mutual
theorem aDE (E:Nat->AV):∀(h:Sh) (H:Hp) (b:Nat) (v:AV) (x:LT h),b<=(Ct E H b h v x).2.2
 | .box e l,H,b,v,x=>by
  by_cases hv:∃id z,v= .ptr id z 0 0
  .obtain⟨id,z,rfl⟩:=hv;have un:Ct E H b (.box e l) (.ptr id z 0 0) x=(match H id with
    | some (.box _ cs)=>(match BN E H b l cs x with|(ds,H,b)=>(AV.ptr id z 0 0,upd H id<|I<|.box e ds,b))
    | _=>(.un,H,b)):=rfl
   rw[un];cases H id with
   | none=>exact As b
   | some ob=>
    cases ob with
    | box e' cs=>
     have:=SK E l H b cs x;simp only;generalize BN E H b l cs x=r at *;obtain⟨ds,H',b'⟩:=r;exact this
    | _=>exact As b
  .have:Ct E H b (.box e l) v x=BD E H b (.box e l) x:=by
    cases v<;>first|rfl|skip
    rename_i id z i o;cases i<;>cases o<;>first|rfl|exact absurd ⟨_,_,rfl⟩ hv
   rw[this];exact EF E _ H b x
 | .int _,H,b,v,x=>EF E _ H b x
 | .bool,H,b,v,x=>EF E _ H b x
 | .str,H,b,v,x=>EF E _ H b x
 | .sl _,H,b,v,x=>EF E _ H b x
 | .row _ _,H,b,v,x=>EF E _ H b x
 | .fz _,H,b,v,x=>EF E _ H b x
 | .CV _ _,H,b,v,x=>EF E _ H b x
 | .abx _ _,H,b,v,x=>EF E _ H b x
 | .arr _,H,b,v,x=>EF E _ H b x
 | .same _,H,b,v,x=>As b
 | .agg _,H,b,v,x=>EF E _ H b x
theorem SK (E:Nat->AV):∀(l:List Sh) (H:Hp) (b:Nat) (cs:List AV) (x:LTs l),b<=(BN E H b l cs x).2.2
 | [],_,b,_,_=>As b
 | h::l,H,b,cs,x=>by
  have h1:=aDE E h H b (cs.headD .un) x.1;have un:BN E H b (h::l) cs x=(match Ct E H b h (cs.headD .un) x.1 with|(d,H,b)=>match BN E H b l cs.tail x.2 with|(ds,H,b)=>(d::ds,H,b)):=rfl;rw[un];generalize Ct E H b h (cs.headD .un) x.1=r at *;obtain⟨c,H',b'⟩:=r;have h2:=SK E l H' b' cs.tail x.2;simp only;generalize BN E H' b' l cs.tail x.2=r at *;obtain⟨cs,H'',b''⟩:=r;exact Ca h1 h2
end
mutual
theorem asK {N:Nat->Prop} :∀(h:Sh) (H:Hp) (b:Nat) (v:AV) (x:LT h),(∀j,b<=j->j<(Ct E H b h v x).2.2->N j)->H8 N H (Ct E H b h v x).2.1
 | .box e l,H,b,v,x,hN=>by
  by_cases hv:∃id z,v= .ptr id z 0 0
  .obtain⟨id,z,rfl⟩:=hv;have un:Ct E H b (.box e l) (.ptr id z 0 0) x=(match H id with
    | some (.box _ cs)=>(match BN E H b l cs x with|(ds,H,b)=>(AV.ptr id z 0 0,upd H id<|I<|.box e ds,b))
    | _=>(.un,H,b)):=rfl
   rw[un]at hN ⊢;cases ho:H id with
   | none=>exact .refl _ _
   | some ob=>
    rw[ho]at hN;cases ob with
    | box e' cs=>
     have ih:=jJ (N:=N) l H b cs x;simp only at hN ⊢;generalize BN E H b l cs x=r at *;obtain⟨ds,H',b'⟩:=r;exact(ih hN).upd<|.inr (by rw[ho];simp)
    | _=>exact .refl _ _
  .have:Ct E H b (.box e l) v x=BD E H b (.box e l) x:=by
    cases v<;>first|rfl|skip
    rename_i id z i o;cases i<;>cases o<;>first|rfl|exact absurd ⟨_,_,rfl⟩ hv
   rw[this]at hN ⊢;exact Jd (E:=E) _ H b x hN
 | .int _,H,b,v,x,hN=>Jd (E:=E) _ H b x hN
 | .bool,H,b,v,x,hN=>Jd (E:=E) _ H b x hN
 | .str,H,b,v,x,hN=>Jd (E:=E) _ H b x hN
 | .sl _,H,b,v,x,hN=>Jd (E:=E) _ H b x hN
 | .row _ _,H,b,v,x,hN=>Jd (E:=E) _ H b x hN
 | .fz _,H,b,v,x,hN=>Jd (E:=E) _ H b x hN
 | .CV _ _,H,b,v,x,hN=>Jd (E:=E) _ H b x hN
 | .abx _ _,H,b,v,x,hN=>Jd (E:=E) _ H b x hN
 | .arr _,H,b,v,x,hN=>Jd (E:=E) _ H b x hN
 | .same _,H,b,v,x,hN=> .refl _ _
 | .agg l,H,b,v,x,hN=>Jd (E:=E) _ H b x hN
theorem jJ {N:Nat->Prop} :∀(l:List Sh) (H:Hp) (b:Nat) (cs:List AV) (x:LTs l),(∀j,b<=j->j<(BN E H b l cs x).2.2->N j)->H8 N H (BN E H b l cs x).2.1
 | [],H,_,_,_,_=> .refl _ _
 | h::l,H,b,cs,x,hN=>by
  have un:BN E H b (h::l) cs x=(match Ct E H b h (cs.headD .un) x.1 with|(d,H,b)=>match BN E H b l cs.tail x.2 with|(ds,H,b)=>(d::ds,H,b)):=rfl;have ih:=asK (N:=N) h H b (cs.headD .un) x.1;have hle:=aDE E h H b (cs.headD .un) x.1;rw[un]at hN ⊢;generalize Ct E H b h (cs.headD .un) x.1=r at *;obtain⟨c,H',b'⟩:=r;have ih2:=jJ (N:=N) l H' b' cs.tail x.2;have PO:=SK E l H' b' cs.tail x.2;simp only at hN ⊢;generalize BN E H' b' l cs.tail x.2=r at *;obtain⟨cs,H'',b''⟩:=r;exact(ih λj h1 h2=>hN j h1<|Ga h2 PO).trans<|ih2 λj h1 h2=>hN j (Ca hle h1) h2
end
def aBH{N:Nat->Prop}(q:Bool)(ids:List Nat){s s':S}(h:BC N s s'):BC N s (G8 q ids s'):=by
 cases q
 .exact h
 .exact BC.L9 ids h
def aqT{m:DU}{d:Option Nat}{as:List AV}(h:HN m s b d as I=I s'):BC (λj=>b<=j/\j<b+16) s s':=by
 unfold HN at h;simp only at h;split at h
 .rename_i x hx hn;obtain⟨r,hr,h⟩:=Aj.1 h;have k1:BC (λj=>b<=j/\j<b+16) s (G8 (CH m.rs||CH (B1 m.ps)) (Cp s.H m.ps as)<|(CP s.H m.ps as).foldl S.kill s):=aBH _ _<|BC.ni _<|BC.refl _ s;generalize G8 (CH m.rs||CH (B1 m.ps)) (Cp s.H m.ps as) ((CP s.H m.ps as).foldl S.kill s)=s2 at *;have k2:=jJ (E:=λi=>(as[i]?).getD .un) (N:=λj=>b<=j/\j<b+16) (B1 m.ps) s2.H b (Fg m.ps as) r.2;have l2:=SK (λi=>(as[i]?).getD .un) (B1 m.ps) s2.H b (Fg m.ps as) r.2;generalize BN (λi=>(as[i]?).getD .un) s2.H b (B1 m.ps) (Fg m.ps as) r.2=q at *;obtain⟨ds,H1,b1⟩:=q;simp only at h;have k3:=Wn (E:=λi=>(as[i]?).getD .un) (N:=λj=>b<=j/\j<b+16) m.rs H1 b1 r.1;have l3:=Iy (λi=>(as[i]?).getD .un) m.rs H1 b1 r.1;generalize Al (λi=>(as[i]?).getD .un) H1 b1 m.rs r.1=q at *;obtain⟨vs,H2,b2⟩:=q;simp only at h l2 l3 k2 k3;split at h
  .rename_i hb;have hb:=DX hb;cases h;have k4:=(k2 λj h1 h2=>⟨h1,J⟩).trans (k3 λj h1 h2=>⟨J,J⟩);exact BC.put (s':={ s2 with H:=H2 }) ⟨k1.nid,k1.n,k1.pins,λj hj e=>k4 j hj<|k1.nn j hj e⟩ _ _
  .cases h
 .cases h
def Gd(r:PR):Prop:=∀q v os,r=I (q,v,os)->os.length<=1
def Gd.none:Gd .none:=λ_ _ _ h=>by cases h
def Gd.okA{v:AV}:Gd (okA v):=λ_ _ _ h=>by obtain⟨_,_,rfl⟩:=DI h;simp
def Gd.okN{v:AV}:Gd (okN v):=λ_ _ _ h=>by obtain⟨_,_,rfl,_⟩:=OQ h;simp
def Gd.nil{q:Bool}{v:AV}:Gd (I (q,v,[])):=λ_ _ _ h=>by cases h;simp
def Gd.one{q:Bool}{v:AV}{o:Ob}:Gd (I (q,v,[o])):=λ_ _ _ h=>by cases h;simp
def Gd.bind{α:Type}{o:Option α}{f:α->PR}(h:∀a,Gd<|f a):Gd (o.bind f):=by
 cases o with
 | none=>exact .none
 | some a=>exact h a
def aCT{x y:TypeId}{v:AV}:Gd (IX P x y v):=by
 unfold IX
 repeat' (first|exact .none|exact .okA|exact .okN|exact .nil|exact .one|refine .bind λ_=> ?_|split)
def as5{ρ:Operand->AV}{H:Hp}{c:Call}:Gd (J7 P ρ H c):=by
 unfold J7
 repeat' (first|exact .none|exact .okA|exact .okN|exact .nil|exact .one|refine .bind λ_=> ?_|split)
def auj{op:BinOp}{t:TypeId}{x y:AV}:Gd (PB P op t x y):=by
 unfold PB Ty Tx
 repeat' (first|exact .none|exact .okA|exact .okN|exact .nil|exact .one|refine .bind λ_=> ?_|split)
def aqv{ρ:Operand->AV}{H:Hp}{op:Op}:Gd (C5 P kd ρ H b op):=by
 cases op<;>simp only[C5]<;>try (exact .none)
 case binOp=>exact auj
 case call=>exact as5
 case convert=>
  split
  .repeat' (first|exact .none|exact .okA|refine .bind λ_=> ?_|split)
  .split
   .rename_i h;exact λq v os e=>by cases e;exact aCT _ _ _ h
   .exact aCT
 case pick=>
  unfold On
  repeat' (first|exact .none|exact .okA|exact .okN|exact .nil|exact .one|refine .bind λ_=> ?_|split)
 case unOp=>
  unfold unA
  repeat' (first|exact .none|exact .okA|exact .okN|exact .nil|exact .one|refine .bind λ_=> ?_|split)
 case slice t x lo hi mx=>
  cases mx with
  | some m=>exact .none
  | none=>
   simp only;unfold QL
   repeat' (first|exact .none|exact .okA|exact .okN|exact .nil|exact .one|refine .bind λ_=> ?_|split)
 case index=>
  unfold Qx
  repeat' (first|exact .none|exact .okA|exact .okN|exact .nil|exact .one|refine .bind λ_=> ?_|split)
 case indexAddr=>
  unfold Mq
  repeat' (first|exact .none|exact .okA|exact .okN|exact .nil|exact .one|refine .bind λ_=> ?_|split)
 all_goals repeat' (first|exact .none|exact .okA|exact .okN|exact .nil|exact .one|refine .bind λ_=> ?_|split)
def aAc:∀(os:List Ob) (H:Hp) (b:Nat) {j:Nat},¬(b<=j/\j<b+os.length)->H j=U->Ef H b os j=U
 | [],_,_,_,_,h=>h
 | o::os,H,b,j,hj,h=>by
  refine aAc os _ _ (λhh=>hj ⟨J,by simp;omega⟩) ?_;rw[BB _ _ λe=>hj ⟨J,by simp;omega⟩];exact h
def aqu{ρ:Operand->AV}{H:Hp}{op:Op}{d:Option Nat}
  (he:(match C5 P kd ρ H b op with
   | some (q,v,os)=>if q then I ({ s with H:=Ef s.H b os }.put d v) else U
   | none=>U)=I s'):BC (λj=>b<=j/\j<b+16) s s':=by
 split at he
 .rename_i q v os hp;split at he
  .cases he;have:=aqv _ _ _ hp;exact BC.put (N:=λj=>b<=j/\j<b+16) (s:=s) (s':={ s with H:=Ef s.H b os }) ⟨rfl,rfl,rfl,λj hj e=>aAc os s.H b (λhh=>hj ⟨hh.1,J⟩) e⟩ _ _
  .cases he
 .cases he
def aBL{o:Oper}(he:CE C (AF S) o b s I=I s'):BC (λj=>b<=j/\j<b+16) s s':=by
 unfold CE at he;split at he
 .cases he
 generalize ho:o.op=op at he;have pu:∀s0:S,(match C5 C.P C.kd s0.ev s0.H b op with
   | some (q,v,os)=>if q then I ({ s0 with H:=Ef s0.H b os }.put o.dst v) else U
   | none=>U)=I s'->BC (λj=>b<=j/\j<b+16) s0 s':=λs0 he=>aqu he
 cases op<;>try (exact pu s he)
 case store t p x=>
  simp only at he;split at he
  .rename_i s1 hs;cases he;exact(apL hs).put _ _
  .cases he
 case call c=>
  simp only at he;split at he
  .split at he
   .exact aqT he
   .cases he
  .split at he
   .rename_i q v s1 hs;split at he
    .cases he;exact(aog (N:=λj=>b<=j/\j<b+16) ⟨As b,J⟩ hs).put _ _
    .cases he
   .cases he
  .split at he
   .rename_i v s1 hs;cases he;exact(aqS hs).put _ _
   .cases he
  .exact pu s he
 case slice t x lo hi mx=>
  cases mx with
  | some m=>exact pu s he
  | none=>
   simp only at he;split at he
   .split at he
    .cases he
    .split at he
     .rename_i q v s1 hs;split at he
      .cases he;exact(alq hs).put _ _
      .cases he
     .cases he
   .exact pu s he
 case buildSlice t n ps=>
  simp only at he;exact(BC.L9 _<|BC.refl _ s).trans<|pu _ he
def aCS{ops:Array Oper}{o:Oper}(he:ev1 C ops o b s=I s'):BC (λj=>b<=j/\j<b+16) s s':=by
 unfold ev1 evG at he;split at he
 .exact aBL he
 .rename_i jj want hg;split at he
  .cases he
  .rename_i g _ _;split at he
   .rename_i qq v _ _;split at he
    .split at he
     case isFalse=>cases he
     cases he;have:=(BC.refl (λj=>b<=j/\j<b+16) s).put o.dst<|.gd g want v;exact⟨this.nid,this.n,this.pins,this.nn⟩
    .cases he
   .cases he
  .rename_i g _ _;have yes:∀w,CE C (AF S) o b { s with T:=upd s.T g (.b w) } I=I s'->BC (λj=>b<=j/\j<b+16) s s':=λw h=>by
    have:=aBL h;exact⟨this.nid,this.n,this.pins,this.nn⟩
   have no:∀w,(match s.has o.dst with
      | true=>I (({ s with T:=upd s.T g (.b w) } :S).put o.dst Dk)
      | false=>U)=I s'->BC (λj=>b<=j/\j<b+16) s s':=λw h=>by
    split at h
    .cases h;have:BC (λj=>b<=j/\j<b+16) s { s with T:=upd s.T g (.b w) } :=⟨rfl,rfl,rfl,λ_ _ e=>e⟩;exact this.put _ _
    .cases h
   split at he
   .rename_i c hT;cases want<;>cases c<;>simp only[A5,if_false,HX]at he
    .exact yes _ he
    .exact no _ he
    .exact no _ he
    .exact yes _ he
   .split at he
    .cases he;exact(BC.refl _ s).put _ _
    .cases he
   .cases he
end
end Go.VS
end
