/- Part 8. -/
import Derived.Test.YtimdnaklfelapaaGreatDoorQAG
open Array renaming eq_empty_of_size_eq_zero→ayh,getD_eq_getD_getElem?→axe,getElem?_append_left→awC,getElem?_eq_some_iff→avO,getElem?_setIfInBounds_ne→ayc,length_toList→avE,mem_append→awS,range→ayy,size_append→ax5,toList_setIfInBounds→ayB
open Bool renaming and_eq_true→auF,and_self→avT,false_eq_true→awi,false_or→ava,not_eq_true'→avw,not_eq_true→awo,not_false→auH,not_true→auG,or_eq_true→avo,or_false→avW,or_self→awu
open ByteArray renaming data_extract→ax9
open Go.Addr renaming add_lit→awy
open Go.Builtin renaming append_→awO,copy_→aze,firstCells→av1,lenOf→azd,len_→ayg,nextslicecap→ayj,zeroCells→awI
open Go.Call renaming operands→axh
open Go.Code renaming region→ayR
open Go.Instr renaming fill→axM,sliceAt→axP,sliceBounds→axl,storeAt→axQ,sureAddr→awU
open Go.Op renaming operands→au1
open Go.Region renaming binds→awg,ready→axZ,wanted→awN
open Go.Result renaming andThen_ok→avP
open Go.Sem renaming run_bind→awb,run_pure→awp
open Go.Value renaming slice→azr
open Go.World renaming block_lt_of_cell?→ax3,cell?_of_block→ayf,cell?→ayw
open Int renaming le_refl→axr
open List renaming all_eq_true→avn,any_eq_true→awL,append_assoc→au2,append_nil→avj,drop_drop→aw9,drop_eq_nil_of_le→awE,eq_nil_of_length_eq_zero→avi,flatMap_append→azi,flatMap_cons→aw3,foldl_append→awf,foldl_cons→avC,foldl_nil→axa,getElem?_append_left→avQ,getElem?_append_right→avl,getElem?_cons_succ→ayN,getElem?_cons_zero→ax4,getElem?_drop→awh,getElem?_eq_getElem→auO,getElem?_eq_some_iff→auR,getElem?_map→avz,getElem?_range→av3,getElem?_set_self→ax8,getElem?_take→av7,getElem?_toArray→axK,getElem_mem→avm,length_append→auP,length_cons→auZ,length_drop→avy,length_map→avK,length_nil→avf,length_take→avv,length→awX,map_congr_left→av0,map_cons→avJ,map_id'→azm,map_map→awK,map_nil→awZ,mem_append_left→auT,mem_append_right→auY,mem_append→auX,mem_cons_of_mem→auJ,mem_cons_self→auM,mem_cons→au5,mem_filterMap→avU,mem_map→avH,mem_of_getElem?→au8,mem_of_mem_drop→awA,mem_of_mem_take→av6,mem_range→avB,mem_toArray→axN,nil_append→avR,nodup_append→aw4,nodup_cons→aw0,pairwise_append→axm,pairwise_cons→axy,pairwise_lt_range→axF,range→au9,replicate→au0,size_toArray→awH,take_left'→axw,toList_toArray→azh,zipIdx_cons→ayH
open List.cons renaming injEq→axx
open Nat renaming add_assoc→avI,add_comm→axY,add_mul→av4,add_zero→awR,beq_eq→awY,beq→auW,ble→awt,div_lt_iff_lt_mul→ayW,eq_of_beq_eq_true→ayb,land→ayG,le_add_right→ayI,le_of_ble_eq_true→avg,le_refl→auS,le_succ→azs,le_trans→avr,lor→avt,lt_irrefl→azf,lt_of_lt_of_le→av8,lt_or_gt_of_ne→ayz,lt_succ_self→axu,min_eq_left→aye,min→awD,mod_eq_of_lt→axt,mod_lt→ayi,mul_le_mul_right→avu,mul_le_mul→ayV,ne_of_lt→ayk,one_mul→axS,sub_mul→ayQ,zero_add→avV,zero_le→avM
open Ne renaming symm→axT
open Option renaming bind_eq_some_iff→auI,bind_some→auE,map_eq_some_iff→avc,map_some→axU
open Option.some renaming injEq→auU,inj→avD
open Prod.mk renaming injEq→avs
set_option linter.unusedVariables false
set_option linter.unusedSimpArgs false
set_option linter.defProp false
noncomputable section
namespace Go.VS
open Go
section
variable {P:Program} {B:anT} {β:Beta} {H:Hp} {w w':World} {b:Nat} {tm:Nat→Value} {ρ:Operand→AV} {η:Operand→Value}
def aj0{a c:auB}(h1:auW a.size 0=true)(h2:auW c.size 0=true):a=c:=by
 have e1:a.size=0:=aI h1;have e2:c.size=0:=aI h2;obtain⟨x⟩:=a;obtain⟨y⟩:=c;have e1':x.size=0:=e1;have e2':y.size=0:=e2;rw[ayh e1',ayh e2']
def ahG{a c:AV}(h:aj8 a c=true){v:Value}(hv:RC w β a v):RC w β c v:=by
 unfold aj8 at h;split at h
 ·simp only[auF,decide_eq_true_eq]at h;obtain⟨rfl,rfl⟩:=h;exact hv
 ·simp only[beq_iff_eq]at h;subst h;exact hv
 ·simp only[auF]at h;obtain rfl:=aj0 h.1 h.2;exact hv
 ·obtain rfl:=hv.aqb;exact .nil
 ·cases h
def Tb: ∀ {as cs:List AV} {us:List Value},ZG as cs=true→RL (RC w β) as us→RL (RC w β) cs us
 | [],[],us,_,h=>h
 | [],_::_,_,h,_=>by simp[ZG]at h
 | _::_,[],_,h,_=>by simp[ZG]at h
 | a::as,c::cs,us,h,hl=>by
  simp only[ZG,auF]at h;obtain⟨u,us',rfl,h1,h2⟩:=hl.anH;exact .cons (ahG h.1 h1) (Tb h.2 h2)
def SP{t:TypeId}{k:K}(h:zok P t k=true): ∃ i z,P.info? t=some i∧i.zero=some z∧z.cells.size=ks k∧ ∀ w β,RL (RC w β) (enc k (dfl k)) z.cells.toList:=by
 unfold zok at h;cases hz:xE P t with
 | none=>rw[hz]at h;cases h
 | some zs=>
  rw[hz]at h;obtain⟨i,z,hi,hz',rfl,h1⟩:=CL hz;have key: ∀ w β,RL (RC w β) (enc k (dfl k)) z.cells.toList:=fun w β=>Tb h (RL.lits _ h1);refine⟨i,z,hi,hz', ?_,key⟩;have:=(key default ⟨fun _=>none,fun _=>False⟩).1;rw[bG]at this;simpa using this
def tu{t:TypeId}{i:TypeInfo}(h:P.info? t=some i):P.cellsOf t=i.size:=by simp[Program.cellsOf,h]
def DP{t:TypeId}{i:TypeInfo}(h:P.info? t=some i):P.bytesOf t=i.bytes:=by simp[Program.bytesOf,h]
def rR{t e:TypeId}(h:fC P t=some e):P.underlying t=some (.slice e):=by
 unfold fC at h;split at h
 ·cases h;assumption
 ·cases h
def Xp{k:K}{z:Array Value}(hz:z.size=ks k)(hr:RL (RC w β) (enc k (dfl k)) z.toList){n:Nat}:
  ∀ i x j c u,(au0 n (dfl k))[i]? =some x→(enc k x)[j]? =some c→(madeCells z (n * ks k))[i * ks k+j]? =some u→RC w β c u:=by
 intro i x j c u h1 h2 h3;have hx:x=dfl k:=List.eq_of_mem_replicate (au8 h1);have hi:i < n:=by have:=(auR.1 h1).1;simpa using this
 subst hx;have hj:j < ks k:=by rw[← bG k (dfl k)];exact(auR.1 h2).1
 have hlt:i * ks k+j < n * ks k:=nf hi hj;simp only[madeCells,Array.getElem?_map,avc]at h3;obtain⟨q,hq,rfl⟩:=h3;have hq':q=i * ks k+j:=by
  rw[avO]at hq;obtain⟨_,hq⟩:=hq;simpa using hq.symm
 subst hq';have hm:(i * ks k+j) % z.size=j:=by rw[hz,axY,Nat.add_mul_mod_self_right,axt hj]
 rw[hm];have hjz:j < z.size:=by omega
 refine hr.2 j c _ h2 ?_;simp[hjz]
def agE(hH:Hs B β H w)(hb:H b=none){t e:TypeId}{k:K}(he:fC P t=some e)(hz:zok P e k=true)(hc:P.cellsOf e=ks k)(hby:P.bytesOf e≤256){n:Int}(h0:0≤n)(hn:n≤4294967296):
  Good B β H w b (.own b) [.row e false k (au0 n.toNat (dfl k))] (((Instr.makeSlice t (.int .i64 n) (.int .i64 n)).run P w).andThen fun u w=> .ok (.value u) w):=by
 obtain⟨i,z,hi,hz',hs,hr⟩:=SP hz;have hu:=rR he;rw[tu hi]at hc;rw[DP hi]at hby;have hb1:(i.bytes:Int) * n≤281474976710656:=by
  have h1:(i.bytes:Int) * n≤256 * 4294967296:=Int.mul_le_mul (by omega) hn h0 (by omega);omega
 have an2:=run_make (P:=P) w t e i z hu hi hz' .i64 .i64 n n h0 (axr _) hb1 (by omega);rw[an2,hc];have hml:n.toNat≤maxLen:=avr (show n.toNat≤4294967296 by omega) (by decide);refine S1 (w':=w.alloc (.cells (madeCells z.cells (n.toNat * ks k)) e)) (cap:=n.toNat) (us:=madeCells z.cells (n.toNat * ks k)) hH hb rfl rfl rfl (fun j hj=>heap_alloc_old w _ hj) (heap_alloc_new w _) (by simp) hml
  (by rw[size_madeCells];exact auS _) (Xp hs (hr w β)) ?_
 simp
def M6{k:K}: ∀ {xs:List (Tof k)} {i j:Nat} {x:Tof k},xs[i]? =some x→j < ks k→(xs.flatMap (enc k))[i * ks k+j]? =(enc k x)[j]?
 | [],_,_,_,h,_=>by simp at h
 | y::ys,0,j,x,h,hj=>by
  simp only[ax4,auU]at h;subst h;rw[aw3,avQ (by rw[bG];omega)];simp
 | y::ys,i+1,j,x,h,hj=>by
  simp only[ayN]at h;rw[aw3,avl (by rw[bG,av4];omega),bG,← M6 h hj];congr 1;rw[av4];omega
def fv{k:K}(xs:List (Tof k)):(xs.flatMap (enc k)).length=xs.length * ks k:=by
 induction xs with
 | nil=>simp
 | cons x xs ih=>rw[aw3,auP,bG,ih,auZ,av4];omega
def Cl{k:K}{xs:List (Tof k)}{us:List Value}(h:RL (RC w β) (xs.flatMap (enc k)) us): ∀ i x j c u,xs[i]? =some x→(enc k x)[j]? =some c→us[i * ks k+j]? =some u→RC w β c u:=by
 intro i x j c u h1 h2 h3;have hj:j < ks k:=by rw[← bG k x];exact(auR.1 h2).1
 exact h.2 _ c u (by rw[M6 h1 hj];exact h2) h3
def Yo(hP:P=B.P)(hH:Hs B β H w)(hb:H b=none){t:TypeId}{n:Nat}{k:K}{zs:List AV}(hz:xE P t=some zs)(hk:ZG zs ((au0 n (dfl k)).flatMap (enc k))=true)(hc:P.cellsOf t=n * ks k)(hn:1≤n)
  {o:Oper}(ho:o.op= .alloc t):Good B β H w b (.ptr b (ks k) 0 0) [.arr t k (au0 n (dfl k))] ((execOp η o).run P w):=by
 obtain⟨i,z,hi,hz',rfl,h1⟩:=CL hz;have aor:RL (RC w β) _ z.cells.toList:=Tb hk (RL.lits _ h1);have hsz:z.cells.size=n * ks k:=by
  have:=aor.1;rw[fv]at this;simpa using this
 obtain⟨β',g1,g2,g3⟩:=hH.grow (w':=w.alloc (.cells z.cells t)) hb (.arr t k (au0 n (dfl k))) (.pointer (some ⟨w.heap.size,0,none⟩)) n rfl rfl rfl (by simp) (fun j hj=>heap_alloc_old w _ hj) (fun a ha=>by cases ha;simp)
  (fun β' hβ hk=>⟨w.heap.size,z.cells,by simpa using hβ,heap_alloc_new w _,by simpa using hsz,by rw[← hP,hc];exact hsz,fun i x j c u a1 a2 a3=>hk _ _ (Cl aor i x j c u a1 a2 (by simpa using a3))⟩)
 ·refine⟨_,_,β', ?_,g1,g2,(?_:R2 (w.alloc (.cells z.cells t)) β' _ (.pointer (some ⟨w.heap.size,0,none⟩)))⟩
  ·unfold execOp;rw[ho];simp[Instr.alloc,abA hi hz',newVar,newRow]
  ·have:=RC.ptr (w:=w.alloc (.cells z.cells t)) (β:=β') (id:=b) (sz:=ks k) (i:=0) (o:=0) g3 (b:=w.heap.size) (f:=0) rfl (by omega);simpa[R2,R1] using this
def Zl(off:Nat): ∀ (ys:List Value) (n:Nat) (cs:Array Value),off+n+ys.length≤cs.size→
  (ys.zipIdx n).foldl (fun cs (c,j)=>cs.setIfInBounds (off+j) c) cs=(cs.toList.take (off+n)++ys++cs.toList.drop (off+n+ys.length)).toArray
 | [],n,cs,_=>by simp
 | y::ys,n,cs,h=>by
  simp only[auZ]at h;rw[ayH,avC,Zl off ys (n+1) _ (by simp;omega)];have e:=list_seg_step cs.toList (off+n) y ys (by simp;omega);simpa[ayB,avI,axY,Nat.add_left_comm] using e
def Zq(place:Nat→Option (Nat×Nat))(cells:Array Value)(i off:Nat)(v:Value)(rest:List (Nat×Value))(hp:place i=some (off,v.cells.size))(hl:off+v.cells.size≤cells.size):
  axM place cells ((i,v)::rest)=axM place (cells.toList.take off++v.cells.toList++cells.toList.drop (off+v.cells.size)).toArray rest:=by
 have h1: ¬ (v.cells.size≠v.cells.size∨off+v.cells.size > cells.size):=by omega
 rw[axM,hp];simp only[ne_eq,not_true_eq_false,auA,ava,decide_eq_true_eq];rw[aur (by omega),← Array.foldl_toList,Array.toList_zipIdx];have:=Zl off v.cells.toList 0 cells (by simpa using hl);simp only[awR,avE]at this;rw[this]
def abX{α β':Type}(f:α→Option β'): ∀ (l:List α),(∀ x∈l,(f x).isSome=true)→ ∃ r,l.mapM f=some r∧r.length=l.length∧ ∀ (i:Nat) (x:α),l[i]? =some x→r[i]? =f x
 | [],_=>⟨[],by simp,rfl,fun i x h=>by simp at h⟩
 | x::l,h=>by
  obtain⟨r,h1,h2,h3⟩:=abX f l (fun y hy=>h y (by simp[hy]));cases hx:f x with
  | none=>have:=h x (by simp);rw[hx]at this;cases this
  | some y=>
   refine⟨y::r,by simp[hx,h1],by simp[h2],fun i z hi=> ?_⟩;cases i with
   | zero=>simp at hi;subst hi;simp[hx]
   | succ i=>simp at hi ⊢; exact h3 i z hi
def QS(hη: ∀ x,RX w β tm (ρ x) (η x)){t:TypeId}{fs:Array Field}(hu:P.underlying t=some (.struct fs)){places:List (Nat×Nat)}
  (hp: ∀ (i:Nat) (f:Field),fs[i]? =some f→places[i]? =some (f.offset,P.cellsOf f.type)): ∀ (ps:List (Nat×Operand)) (cs:List AV) (us:Array Value) (ds:List AV),qC P ρ t ps cs=some ds→RL (RC w β) cs us.toList→
  ∃ vs:Array Value,axM (places.toArray[·]?) us (ps.map fun(i,x)=>(i,η x))=some vs∧RL (RC w β) ds vs.toList
 | [],cs,us,ds,h,hl=>by
  simp only[qC,auU]at h;subst h;exact⟨us,by simp[axM],hl⟩
 | (i,x)::ps,cs,us,ds,h,hl=>by
  simp only[qC]at h;cases hf:pe P t i with
  | none=>rw[hf]at h;cases h
  | some f=>
   rw[hf]at h;simp only[auE]at h;cases hc:mc (ρ x) with
   | none=>rw[hc]at h;cases h
   | some ys=>
    rw[hc]at h;simp only[auE]at h;split at h
    ·rename_i hb;simp only[auF]at hb;have hb1:=aI hb.1;have hb2:=avg hb.2;have hr:=uN hc (hη x);obtain⟨fs',hu',hf'⟩:=DA hf;rw[hu]at hu';cases hu';have hys:(η x).cells.size=ys.length:=by have:=hr.1;simpa using this
     have hcs:us.size=cs.length:=by have:=hl.1;simpa using this
     have hsp:RL (RC w β) (mJ cs f.offset ys) (us.toList.take f.offset++(η x).cells.toList++us.toList.drop (f.offset+(η x).cells.size)):=by
      unfold mJ;rw[hys];exact((hl.take _).append hr).append (hl.drop _)
     obtain⟨vs,h1,h2⟩:=QS hη hu hp ps _ (us.toList.take f.offset++(η x).cells.toList++us.toList.drop (f.offset+(η x).cells.size)).toArray ds h hsp;refine⟨vs, ?_,h2⟩;rw[avJ,Zq _ _ i f.offset (η x) _ ?_ (by omega)]
     ·exact h1
     ·rw[axK,hp i f hf',hys,hb1]
    ·cases h
def aeq(hη: ∀ x,RX w β tm (ρ x) (η x))(hH:Hs B β H w){t:TypeId}{fs:Array Field}{ps:Array (Nat×Operand)}{zs cs:List AV}(hz:xE P t=some zs)(hu:P.underlying t=some (.struct fs))(ha:(fs.toList.all fun f=>(P.info? f.type).isSome)=true)
  (h:qC P ρ t ps.toList zs=some cs){o:Oper}(ho:o.op= .build t ps):Good B β H w b (.agg cs) [] ((execOp η o).run P w):=by
 obtain⟨i,z,hi,hz',rfl,h1⟩:=CL hz;obtain⟨places,hm,hlen,hpl⟩:=abX (fun f:Field=>(P.info? f.type).map fun i=>(f.offset,i.size)) fs.toList (fun f hf=>by
  have:=avn.1 ha f hf;simpa using this)
 obtain⟨vs,g1,g2⟩:=QS (places:=places) hη hu (fun i f hf=>by
  have ar4:=avn.1 ha f (au8 (by simpa using hf));rw[hpl i f (by simpa using hf)];obtain⟨inf,as2⟩:=Option.isSome_iff_exists.1 ar4;simp[as2,tu as2]) ps.toList _ z.cells cs h (RL.lits _ h1)
 refine Good.same hH (u:= .agg vs) ?_ ⟨vs.toList,by simp,g2⟩;unfold execOp;rw[ho];have hb:P.built t (ps.map fun(i,x)=>(i,η x)).toList=some vs:=by
  simp only[Program.built,hi,hu,hz',hm];rw[← g1,Array.toList_map]
 simp only[awb,run_build w t _ _ hb,avP];rfl
def als{k:K}{cs:List AV}{x:Tof k}(h:dec (fun _=>none) k cs=some x){us:List Value}(hl:RL (RC w β) cs us):RL (RC w β) (enc k x) us:=by
 have sl: ∀ (k:K) (c:AV) (l:List (Tof k)) (u:Value),iT (fun _=>none) k c=some l→RC w β c u→RC w β (.sl k l) u:=by
  intro k c l u h1 h2;unfold iT at h1;split at h1
  ·obtain⟨e,rfl⟩:=gW h1;subst e;exact h2
  ·cases h1;rw[h2.aqb];exact .nil
  ·cases h1
  ·cases h1
 unfold dec at h;split at h<;>try (cases h;done)
 all_goals try (cases h;exact hl)
 ·rename_i x';cases hx:iT (fun _=>none) K.mixed x' with
  | none=>rw[hx]at h;cases h
  | some l=>
   rw[hx]at h;cases h;obtain⟨u1,_,rfl,g1,hl⟩:=hl.anH;obtain⟨u2,_,rfl,g2,hl⟩:=hl.anH;obtain⟨u3,_,rfl,g3,hl⟩:=hl.anH;obtain⟨u4,_,rfl,g4,hl⟩:=hl.anH;obtain⟨u5,_,rfl,g5,hl⟩:=hl.anH;obtain⟨u6,_,rfl,g6,hl⟩:=hl.anH;exact .cons g1 (.cons g2 (.cons g3 (.cons g4 (.cons g5 (.cons (sl _ _ _ _ hx g6) hl)))))
 ·rename_i x' y' z';cases hx:iT (fun _=>none) K.note x' with
  | none=>rw[hx]at h;cases h
  | some l=>
   cases hy:iT (fun _=>none) K.mark y' with
   | none=>rw[hx,hy]at h;cases h
   | some m=>
    cases hz:iT (fun _=>none) K.note z' with
    | none=>rw[hx,hy,hz]at h;cases h
    | some n=>
     rw[hx,hy,hz]at h;cases h;obtain⟨u1,_,rfl,g1,hl⟩:=hl.anH;obtain⟨u2,_,rfl,g2,hl⟩:=hl.anH;obtain⟨u3,_,rfl,g3,hl⟩:=hl.anH;obtain⟨u4,_,rfl,g4,hl⟩:=hl.anH;obtain⟨u5,_,rfl,g5,hl⟩:=hl.anH;obtain⟨u6,_,rfl,g6,hl⟩:=hl.anH;exact .cons g1 (.cons g2 (.cons g3 (.cons (sl _ _ _ _ hx g4) (.cons (sl _ _ _ _ hy g5) (.cons (sl _ _ _ _ hz g6) hl)))))
 ·rename_i x';cases hx:iT (fun _=>none) K.half x' with
  | none=>rw[hx]at h;cases h
  | some l=>
   rw[hx]at h;cases h;obtain⟨u1,_,rfl,g1,hl⟩:=hl.anH;obtain⟨u2,_,rfl,g2,hl⟩:=hl.anH;obtain⟨u3,_,rfl,g3,hl⟩:=hl.anH;obtain⟨u4,_,rfl,g4,hl⟩:=hl.anH;obtain⟨u5,_,rfl,g5,hl⟩:=hl.anH;exact .cons g1 (.cons g2 (.cons g3 (.cons g4 (.cons (sl _ _ _ _ hx g5) hl))))
def Nd{k:K}: ∀ {vs:List AV} {us:List Value} {xs:List (Tof k)},xu k vs=some xs→(us.length=vs.length∧ ∀ (j:Nat) (c:AV) (u:Value),vs[j]? =some c→us[j]? =some u→RX w β tm c u)→
  xs.length=vs.length∧(∀ u∈us,u.cells.size=ks k)∧RL (RC w β) (xs.flatMap (enc k)) (us.flatMap fun u=>u.cells.toList)
 | [],us,xs,h,hl=>by
  simp only[xu,auU]at h;subst h;obtain rfl:us=[]:=avi (by simpa using hl.1);exact⟨rfl,by simp,RL.nil⟩
 | v::vs,us,xs,h,hl=>by
  cases us with
  | nil=>exact absurd hl.1 (by simp)
  | cons u us=>
   simp only[xu]at h;cases hc:mc v with
   | none=>rw[hc]at h;cases h
   | some cs=>
    rw[hc]at h;simp only[auE]at h;cases hd:dec (fun _=>none) k cs with
    | none=>rw[hd]at h;cases h
    | some x=>
     rw[hd]at h;simp only[auE]at h;cases hr:xu k vs with
     | none=>rw[hr]at h;cases h
     | some ys=>
      rw[hr]at h;cases h;have h1:=als hd (uN hc (hl.2 0 v u rfl rfl));obtain⟨i1,i2,i3⟩:=Nd hr ⟨by have:=hl.1;simpa using this,fun j c u' a1 a2=>hl.2 (j+1) c u' (by simpa using a1) (by simpa using a2)⟩;refine⟨by simp[i1],fun u' hu'=> ?_, ?_⟩
      ·rcases au5.1 hu' with e | e
       ·subst e;have:=h1.1;rw[bG]at this;simpa using this
       ·exact i2 u' e
      ·rw[aw3,aw3];exact h1.append i3
def FT: ∀ {n:Nat} {ps:List (Nat×Operand)} {vs:List AV},qf ρ n ps=some vs→ps=((ps.map (·.2)).zipIdx n).map (fun x=>(x.2,x.1))∧vs=ps.map (fun p=>ρ p.2)
 | n,[],vs,h=>by simp only[qf,auU]at h;subst h;exact⟨rfl,rfl⟩
 | n,(i,x)::ps,vs,h=>by
  simp only[qf]at h;split at h
  ·rename_i hi;obtain rfl:=aI hi;cases hr:qf ρ (i+1) ps with
   | none=>rw[hr]at h;cases h
   | some ws=>
    rw[hr]at h;cases h;obtain⟨h1,h2⟩:=FT hr;refine⟨?_,by simp[h2]⟩;rw[avJ,ayH,avJ];exact congrArg _ h1
  ·cases h
def acy(sz:Nat): ∀ (us:List Value) (n:Nat) (cells:Array Value),(∀ u∈us,u.cells.size=sz)→(n+us.length) * sz≤cells.size→
  axM (fun i=>some (i * sz,sz)) cells ((us.zipIdx n).map fun x=>(x.2,x.1))=some (cells.toList.take (n * sz)++(us.flatMap fun u=>u.cells.toList)++cells.toList.drop ((n+us.length) * sz)).toArray
 | [],n,cells,_,_=>by simp[axM]
 | u::us,n,cells,h,hl=>by
  have hu:=h u (by simp);simp only[auZ]at hl;have e1:(n+(us.length+1)) * sz=n * sz+(us.length * sz+sz):=by rw[av4,av4,axS]
  have e2:(n+1+us.length) * sz=n * sz+(us.length * sz+sz):=by rw[← e1];congr 1;omega
  have e3:(n+1) * sz=n * sz+sz:=by rw[av4,axS]
  rw[ayH,avJ,Zq _ _ n (n * sz) u _ (by simp[hu]) (by omega),acy sz us (n+1) _ (fun v hv=>h v (by simp[hv])) ?_]
  ·congr 2;simp only[azh,aw3,hu];have hcl:cells.toList.length=cells.size:=avE;have ht:(cells.toList.take (n * sz)++u.cells.toList).length=(n+1) * sz:=by
    simp only[auP,avv,avE,hu];omega
   have h4:(cells.toList.take (n * sz)++u.cells.toList++cells.toList.drop (n * sz+sz)).take ((n+1) * sz)=cells.toList.take (n * sz)++u.cells.toList:=by
    rw[← ht,axw];rfl
   have h5:(cells.toList.take (n * sz)++u.cells.toList++cells.toList.drop (n * sz+sz)).drop ((n+1+us.length) * sz)=cells.toList.drop ((n+(us.length+1)) * sz):=by
    rw[List.drop_append,ht,awE (by rw[ht,e2,e3];omega),avR,aw9];congr 1;rw[e1,e2,e3];omega
   rw[h4,h5];simp[au2,axY,Nat.add_left_comm,avI]
  ·simp only[awH,auP,avv,avE,avy,hu];omega
def SM(hη: ∀ x,RX w β tm (ρ x) (η x))(hH:Hs B β H w)(hb:H b=none){t e:TypeId}{len:Nat}{ps:Array (Nat×Operand)}{k:K}{vs:List AV}{xs:List (Tof k)}(he:fC P t=some e)(hp:qf ρ 0 ps.toList=some vs)(hd:xu k vs=some xs)
  (hl:vs.length=len)(hc:P.cellsOf e=ks k)(hsm:len≤65536)(hz:zok P e k=true){o:Oper}(ho:o.op= .buildSlice t len ps):Good B β H w b (.own b) [.row e false k xs] ((execOp η o).run P w):=by
 obtain⟨i,z,hi,hz',hs,_⟩:=SP hz;have hu:=rR he;by_cases asm:len=0
 ·subst asm;obtain rfl:vs=[]:=avi hl;simp only[xu,auU]at hd;subst hd;have hps:ps= #[]:=by
   have:=(FT hp).2;have h2:ps.toList=[]:=by
    have:=congrArg awX this;exact avi (by simpa using this.symm)
   exact Array.toList_inj.1 (by simpa using h2)
  subst hps;refine S1 (w':=w.alloc (.cells #[] e)) (cap:=0) (us:= #[]) hH hb rfl rfl rfl (fun j hj=>heap_alloc_old w _ hj) (heap_alloc_new w _) (by simp) (by simp) (by simp) (fun i x j c u a1=>by simp at a1) ?_;unfold execOp;rw[ho];simp[Instr.buildSlice,run_underlying hu,sizeOf,typeInfo,hi,axM,newRow,show ayy 0= #[] from by simp[ayy]]
 have h0:1≤len:=by omega
 rw[tu hi]at hc;obtain⟨h1,rfl⟩:=FT hp;have hkp:=qk k;have atY:ks k≤16:=by cases k<;>decide
 have hu':((ps.toList.map fun p=>η p.2).length=(ps.toList.map fun p=>ρ p.2).length):=by simp
 obtain⟨d1,d2,d3⟩:=Nd (w:=w) (β:=β) (tm:=tm) (us:=ps.toList.map fun p=>η p.2) hd ⟨by simp,fun j c u a1 a2=>by
  simp only[avz,avc]at a1 a2;obtain⟨p,hp1,rfl⟩:=a1;obtain⟨p',hp2,rfl⟩:=a2;rw[hp1]at hp2;cases hp2;exact hη _⟩
 have aq8:(ps.map fun(i,x)=>(i,η x)).toList=((ps.toList.map fun p=>η p.2).zipIdx 0).map fun x=>(x.2,x.1):=by
  rw[Array.toList_map]
  conv=>lhs;rw[h1]
  rw[awK,List.zipIdx_map,List.zipIdx_map,awK,awK];rfl
 have hlen:(ps.toList.map fun p=>η p.2).length=len:=by simpa using hl
 have arj:=acy (ks k) (ps.toList.map fun p=>η p.2) 0 ((ayy (len * ks k)).map (z.cells[· % z.cells.size]!)) d2 (by simp[hlen]);have aq1: ¬ len * i.size > 2 ^ 24:=by
  rw[hc];have:len * ks k≤65536 * 16:=ayV hsm atY;omega
 have asb: ¬ len * i.size=0:=by
  rw[hc];have:1 * 1≤len * ks k:=ayV h0 hkp;omega
 have ar6:(((ayy (len * ks k)).map (z.cells[· % z.cells.size]!)).toList.take (0 * ks k)++((ps.toList.map fun p=>η p.2).flatMap fun u=>u.cells.toList)++((ayy (len * ks k)).map (z.cells[· % z.cells.size]!)).toList.drop ((0+(ps.toList.map fun p=>η p.2).length) * ks k)).toArray
   =((ps.toList.map fun p=>η p.2).flatMap fun u=>u.cells.toList).toArray:=by
  rw[hlen,awE (by simp)];simp
 rw[ar6]at arj;have an2:=run_buildSlice w t e len (ps.map fun(i,x)=>(i,η x)) _ i z hu hi hz' aq1 asb (by rw[aq8,hc];exact arj);have hxl:xs.length=len:=by rw[d1];exact hl
 refine S1 (w':=w.alloc (.cells ((ps.toList.map fun p=>η p.2).flatMap fun u=>u.cells.toList).toArray e)) (cap:=len) hH hb rfl rfl rfl (fun j hj=>heap_alloc_old w _ hj) (heap_alloc_new w _) (by omega) (avr hsm (by decide)) ?_ ?_ ?_
 ·have:=d3.1;rw[fv]at this;simp only[awH];rw[this,hxl];exact auS _
 ·intro i x j c u a1 a2 a3;exact Cl d3 i x j c u a1 a2 (by simpa using a3)
 ·unfold execOp;rw[ho];simp only[awb,an2,avP,hxl];rfl
def Ax{lo hi:Option Operand}{n:Nat}{l h:Int}(hη: ∀ x,RX w β tm (ρ x) (η x))(hc:Sp (lo.map ρ) (hi.map ρ) n=some (true,l,h))(isS:Bool){cap:Nat}(ape:n≤cap):
  (axl isS n cap (lo.map η) (hi.map η) none).run P w= .ok (l.toNat,h.toNat,cap) w∧0≤l∧l≤h∧h≤(n:Int):=by
 have hB: ∀ (k:IntKind) (i:Int) (y:Nat) (code:BoundsCode),0≤i→i≤(y:Int)→(Instr.sliceBound (.int k i) y code).run P w= .ok i.toNat w:=by
  intro k i y code h1 h2;simp[Instr.sliceBound,asIntOf,h1,h2]
 unfold Sp at hc;split at hc
 ·rename_i h1 h2;cases lo with
  | some x=>cases h1
  | none=>
  cases hi with
  | some x=>cases h2
  | none=>
   simp only[auU,avs]at hc;obtain⟨_,rfl,rfl⟩:=hc;exact⟨by simp[axl],by omega,by omega,by omega⟩
 ·rename_i k l' h1 h2;cases hi with
  | some x=>cases h2
  | none=>
  cases lo with
  | none=>cases h1
  | some x=>
   simp only[axU,auU]at h1;have hx:=hη x;rw[h1]at hx;simp only[auU,avs,auF,decide_eq_true_eq]at hc;obtain⟨⟨g1,g2⟩,rfl,rfl⟩:=hc;refine⟨?_,g1,g2,by omega⟩;simp[axl,hx.lit,hB _ _ _ _ g1 g2]
 ·rename_i k l' h1 h2;cases lo with
  | some x=>cases h1
  | none=>
  cases hi with
  | none=>cases h2
  | some x=>
   simp only[axU,auU]at h2;have hx:=hη x;rw[h2]at hx;simp only[auU,avs,auF,decide_eq_true_eq]at hc;obtain⟨⟨g1,g2⟩,rfl,rfl⟩:=hc;refine⟨?_,by omega,g1,g2⟩;cases isS<;>simp[axl,hx.lit,hB _ _ _ _ g1 (show l'≤(cap:Int) by omega)]
 ·rename_i k1 l' k2 h' h1 h2;cases lo with
  | none=>cases h1
  | some y=>
  cases hi with
  | none=>cases h2
  | some x=>
   simp only[axU,auU]at h1 h2;have hy:=hη y;rw[h1]at hy;have hx:=hη x;rw[h2]at hx;simp only[auU,avs,auF,decide_eq_true_eq]at hc;obtain⟨⟨⟨g1,g2⟩,g3,g4⟩,rfl,rfl⟩:=hc;refine⟨?_,g3,g4,g2⟩;have e1:=hB k2 h' cap;have e2:=hB k1 l' h'.toNat .sliceB g3 (by omega);cases isS<;>simp[axl,hx.lit,hy.lit,e1 _ g1 (show h'≤(cap:Int) by omega),e2]
 ·cases hc
def aaO{α:Type}{lo hi:Option AV}{l h:Int}{xs:List α}(hc:Sp lo hi xs.length=some (true,l,h)):PV lo hi l h xs=(xs.take h.toNat).drop l.toNat:=by
 unfold Sp at hc;split at hc
 ·simp only[auU,avs]at hc;obtain⟨_,rfl,rfl⟩:=hc;simp[PV]
 ·simp only[auU,avs]at hc;obtain⟨_,rfl,rfl⟩:=hc;simp[PV]
 ·simp only[auU,avs]at hc;obtain⟨_,rfl,rfl⟩:=hc;simp[PV]
 ·simp only[auU,avs]at hc;obtain⟨_,rfl,rfl⟩:=hc;simp[PV]
 ·cases hc
def RC.cut{k:K}{xs:List (Tof k)}{bb f cap l h:Nat}{ys:List (Tof k)}(hy:ys=(xs.take h).drop l)(hlh:l≤h)(hh:h≤xs.length)(hx:RC w β (.sl k xs) (.slice (some ⟨bb,f,none⟩) xs.length cap))(ape:xs.length≤cap):
  RC w β (.sl k ys) (.slice (if cap=l then some ⟨bb,f,none⟩ else some ⟨bb,f+l * ks k,none⟩) (h - l) (cap - l)):=by
 by_cases he:h=l
 ·obtain rfl:ys=[]:=by subst hy;subst he;rw[awE];simp;omega
  rw[show h - l=0 by omega];exact .nil
 ·have hne:xs≠[]:=fun e=>by subst e;simp at hh;omega
  rw[aur (by omega)];cases hx with
  | nil=>exact absurd rfl hne
  | sl u hn hm hu hr=>
   have hyl:ys.length=h - l:=by subst hy;simp;omega
   refine .sl (fun i j=>u (l+i) j) ⟨hyl.symm,by omega⟩ hm (fun i j hi hj=> ?_) (fun i x j c h1 h2=>hr (l+i) x j c ?_ h2)
   ·have:=hu (l+i) j (by omega) hj;rw[av4]at this;rw[← this];congr 2;omega
   ·subst hy;rw[awh,av7]at h1;split at h1
    ·exact h1
    ·cases h1
def FL{t e:TypeId}(hu:P.underlying t=some (.slice e))(h1:1≤P.cellsOf e){a:Option Addr}{n cap l h m:Nat}{lo hi:Option Value}(hb:(axl true n cap lo hi none).run P w= .ok (l,h,m) w):
  (axP t (.slice a n cap) lo hi none).run P w= .ok (.slice (if m=l then a else a.map (·.add (l * P.cellsOf e))) (h - l) (m - l)) w:=by
 simp[axP,Instr.slice,run_underlying hu,hb,nb h1]
def adx(hη: ∀ x,RX w β tm (ρ x) (η x))(hH:Hs B β H w){t:TypeId}{x:Operand}{lo hi:Option Operand}(hf:gw P H t (ρ x)=true){q:Bool}{v:AV}{os:List Ob}(h:Ol (lo.map ρ) (hi.map ρ) (ρ x)=some (q,v,os))(hq:q=true):
  Good B β H w b v os (((axP t (η x) (lo.map η) (hi.map η) none).run P w).andThen fun u w=> .ok (.value u) w):=by
 subst hq;have hx:=hη x;generalize ρ x=c at h hx hf;unfold Ol at h;split at h
 ·rename_i s;cases hc:Sp (lo.map ρ) (hi.map ρ) s.size with
  | none=>rw[hc]at h;cases h
  | some r=>
   obtain⟨q',l,h'⟩:=r;rw[hc]at h;simp only[auE,auU,avs]at h;obtain⟨rfl,rfl,rfl⟩:=h;obtain⟨hb,g1,g2,g3⟩:=Ax (P:=P) (w:=w) (β:=β) (tm:=tm) hη hc false (auS _);rw[hx.lit];have hu:P.underlying t=some .string:=by
    unfold gw at hf;split at hf<;>simp_all
   refine Good.same hH (u:= .string (s.extract l.toNat h'.toNat)) ?_ rfl;simp[axP,Instr.slice,run_underlying hu,hb]
 ·rename_i k xs;cases hc:Sp (lo.map ρ) (hi.map ρ) xs.length with
  | none=>rw[hc]at h;cases h
  | some r=>
   obtain⟨q',l,h'⟩:=r;rw[hc]at h;simp only[auE,auU,avs]at h;obtain⟨rfl,rfl,rfl⟩:=h;obtain⟨e,hu,hk⟩: ∃ e,P.underlying t=some (.slice e)∧P.cellsOf e=ks k:=by
    unfold gw at hf;split at hf<;>simp_all
   have h1:=qk k;have hx':RC w β (.sl k xs) (η x):=hx;obtain⟨a,cap,hv,ape⟩:=hx'.arU.len;obtain⟨hb,g1,g2,g3⟩:=Ax (P:=P) (w:=w) (β:=β) (tm:=tm) hη hc true ape;rw[hv]at hx' ⊢;rw[FL hu (by omega) hb,hk];refine Good.same hH rfl ?_;by_cases hxs:xs=[]
   ·subst hxs;have e1:h'.toNat - l.toNat=0:=by simp at g3;omega
    have e2:PV (lo.map ρ) (hi.map ρ) l h' ([]:List (Tof k))=[]:=by rw[aaO hc];simp
    rw[e1,e2];exact RC.nil
   ·have ha: ∃ bb f,a=some ⟨bb,f,none⟩:=by
     cases hx' with
     | nil=>exact absurd rfl hxs
     | sl=>exact⟨_,_,rfl⟩
    obtain⟨bb,f,rfl⟩:=ha;have:=RC.cut (l:=l.toNat) (h:=h'.toNat) (aaO hc) (by omega) (by omega) hx' ape;simpa[R2,R1,awy,apply_ite] using this
 ·cases hc:Sp (lo.map ρ) (hi.map ρ) 0 with
  | none=>rw[hc]at h;cases h
  | some r=>
   obtain⟨q',l,h'⟩:=r;rw[hc]at h;simp only[auE,auU,avs]at h;obtain⟨rfl,rfl,rfl⟩:=h;obtain⟨e,hu,hk⟩: ∃ e,P.underlying t=some (.slice e)∧1≤P.cellsOf e:=by
    unfold gw at hf;split at hf<;>simp_all
   obtain⟨hb,g1,g2,g3⟩:=Ax (P:=P) (w:=w) (β:=β) (tm:=tm) hη hc true (auS _);rw[hx.lit,FL hu hk hb];have e1:h'.toNat=0:=by omega
   have e2:l.toNat=0:=by omega
   refine Good.same hH (u:= .slice none 0 0) ?_ rfl;rw[e1,e2];rfl
 ·cases h
end
end Go.VS
namespace Go.VS
open Go
section
variable {P:Program} {B:anT} {β:Beta} {H:Hp} {w w':World} {b:Nat} {tm:Nat→Value} {ρ:Operand→AV} {η:Operand→Value} {kd:TypeId→Option K}
def agj(hP:P=B.P)(hη: ∀ x,RX w β tm (ρ x) (η x))(htm: ∀ g,η (.tmp g)=tm g)(hcv: ∀ v,η (.const v)=v)(hH:Hs B β H w)(hb:H b=none){o:Oper}{q:Bool}{v:AV}{os:List Ob}
  (h:bY P kd ρ H b o.op=some (q,v,os))(hq:q=true):Good B β H w b v os ((execOp η o).run P w):=by
 generalize ho:o.op=op at h;have aqk: ∀ {s:Sem Value},(execOp η o=(do pure (.value (← s)):Sem Next))→(execOp η o).run P w=(s.run P w).andThen fun u w=> .ok (.value u) w:=by
  intro s e;rw[e];simp only[awb];rfl
 cases op<;>try (simp[bY]at h;done)
 case move x=>
  obtain⟨rfl,_,rfl,hg⟩:=vI h;refine Good.same hH (u:=η x) ?_ ((hη x).of hg);unfold execOp;rw[ho];rfl
 case assign x=>
  obtain⟨rfl,_,rfl,hg⟩:=vI h;refine Good.same hH (u:=η x) ?_ ((hη x).of hg);unfold execOp;rw[ho];rfl
 case pick c x y=>exact agl hη htm hcv hH h hq ho
 case alloc t=>
  simp only[bY]at h;split at h
  ·rename_i n e hu;cases hk:kd e with
   | none=>rw[hk]at h;cases h
   | some k=>
    cases hz:xE P t with
    | none=>rw[hk,hz]at h;cases h
    | some zs=>
     rw[hk,hz]at h;simp only[auE]at h;split at h
     ·rename_i hc;simp only[auF]at hc;cases h;exact Yo hP hH hb hz hc.1.1 (aI hc.1.2) (avg hc.2) ho
     ·cases h
  ·cases hz:xE P t with
   | none=>rw[hz]at h;cases h
   | some zs=>
    rw[hz]at h;cases h;exact aeu hH hb hz ho
 case box t x=>
  simp only[bY]at h;cases hc:mc (ρ x) with
  | none=>rw[hc]at h;cases h
  | some cs=>
   rw[hc]at h;cases h;exact ajV hη hH hb hc ho
 case build t ps=>
  simp only[bY]at h;cases hz:xE P t with
  | none=>rw[hz]at h;cases h
  | some zs=>
   rw[hz]at h;simp only[auE]at h;split at h
   ·rename_i fs hu;split at h
    ·rename_i ha;cases hc:qC P ρ t ps.toList zs with
     | none=>rw[hc]at h;cases h
     | some cs=>
      rw[hc]at h;obtain⟨rfl,_,rfl⟩:=bO h;exact aeq hη hH hz hu ha hc ho
    ·cases h
   ·cases h
 case buildSlice t len ps=>
  simp only[bY]at h;cases he:fC P t with
  | none=>rw[he]at h;cases h
  | some e=>
   rw[he]at h;simp only[auE]at h;cases hk:kd e with
   | none=>rw[hk]at h;cases h
   | some k=>
    rw[hk]at h;simp only[auE]at h;cases hp:qf ρ 0 ps.toList with
    | none=>rw[hp]at h;cases h
    | some vs=>
     rw[hp]at h;simp only[auE]at h;cases hd:xu k vs with
     | none=>rw[hd]at h;cases h
     | some xs=>
      rw[hd]at h;simp only[auE]at h;split at h
      ·rename_i hc;simp only[auF]at hc;cases h;exact SM hη hH hb he hp hd (aI hc.1.1.1) (aI hc.1.1.2) (avg hc.1.2) hc.2 ho
      ·cases h
 case load t p=>
  simp only[bY]at h;cases hl:F4 P H t (ρ p) with
  | none=>rw[hl]at h;cases h
  | some v'=>
   rw[hl]at h;obtain⟨rfl,_,rfl⟩:=bO h;exact akR hP hη hH hl ho
 case nilCheck p=>
  simp only[bY]at h;split at h
  ·rename_i hp;obtain⟨rfl,_,rfl⟩:=bO h;exact IW hη hH (.inl ⟨_,_,_,_,rfl⟩) hp ho
  ·rename_i hp;obtain⟨rfl,_,rfl⟩:=bO h;exact IW hη hH (.inr ⟨_,_,_,rfl⟩) hp ho
  ·cases h
 case binOp op t x y z=>
  refine aer (t:=t) (x:=x) (y:=y) hη hH h hq (aqk ?_);unfold execOp;rw[ho]
 case unOp op t x=>
  rw[aqk (by unfold execOp;rw[ho])];exact afB hη hH h
 case convert src dst x=>
  rw[aqk (by unfold execOp;rw[ho])];have hx:=hη x;have conv:(CD P src dst (ρ x)=some (q,v,os)∧ ∀ i,v≠ .own i)∨(∃ c i os',CD P src dst (ρ x)=some (c,.own i,os')∧(c,AV.own b,os')=(q,v,os))∨ ∃ e xs,P.underlying src=some (.slice e)∧P.underlying dst=some .string∧P.underlying e=some (.int .u8)∧iT H .u8 (ρ x)=some xs∧v= .s (eS xs)∧os=[]:=by
   simp only[bY]at h;split at h
   ·rename_i e hs hd;split at h
    ·rename_i he;cases hx:iT H .u8 (ρ x) with
     | none=>rw[hx]at h;cases h
     | some xs=>
      rw[hx]at h;obtain⟨rfl,_,rfl⟩:=bO h;exact .inr (.inr ⟨e,xs,hs,hd,he,rfl,rfl,rfl⟩)
    ·cases h
   ·split at h
    ·rename_i c i os' hc;exact .inr (.inl ⟨c,i,os',hc,avD h⟩)
    ·rename_i hno;exact .inl ⟨h,fun i e=>hno q i os (by rw[h,e])⟩
  have atF: ∀ e xs,iT H .u8 (ρ x)=some xs→P.underlying src=some (.slice e)→ ∀ g w y,ρ x≠ .gd g w y:=by
   intro e xs h1 h2 g w y h3;rw[h3]at h1;simp[iT]at h1
  have cA: ∀ q v os,CD P src dst (ρ x)=some (q,v,os)→q=true→(∀ i,v≠ .own i)→Good B β H w b v os (((convert src dst (η x)).run P w).andThen fun u w=> .ok (.value u) w):=by
   intro q v os h hq hn;generalize ρ x=c at h hx;unfold CD at h;split at h
   ·rename_i d k k' n apH hd;obtain⟨rfl,_,rfl⟩:=bO h;rw[hx.lit];refine Good.same hH (u:= .int k (k.wrap n)) ?_ rfl;cases d<;>simp[convert,run_underlying apH,run_underlying hd,Conv.intToInt]
   ·rename_i hs hd;obtain⟨rfl,_,rfl⟩:=bO h;rw[hx.lit];refine Good.same hH (u:= .string _) ?_ rfl;simp[convert,run_underlying hs,run_underlying hd]
   ·split at h
    ·simp only[auU,avs]at h;exact absurd h.2.1.symm (hn 0)
    ·cases h
   ·cases h
  rcases conv with⟨h1,hno⟩ | ⟨c,i,os',h1,h2⟩ | ⟨e,xs,hs,hd,he,h1,rfl,rfl⟩
  ·exact cA q v os h1 hq hno
  ·cases h2;subst hq;generalize ρ x=c at h1 hx;unfold CD at h1;split at h1
   ·cases h1
   ·cases h1
   ·rename_i e s hs hd;split at h1
    ·rename_i he;simp only[auU,avs]at h1;obtain⟨hr,_,rfl⟩:=h1;rw[hx.lit];exact aep hH hb hs hd he hr
    ·cases h1
   ·cases h1
  ·have hx2:R2 w β (ρ x) (η x):=hx.of (atF e xs h1 hs);refine Good.same hH (u:= .string (eS xs)) ?_ rfl;rw[age hs he hd (afn hH h1 hx2)];rfl
 case makeSlice t l c=>
  rw[aqk (by unfold execOp;rw[ho])];have mk: ∀ n,η l= .int .i64 n→η c= .int .i64 n→((fC P t).bind fun e=>(kd e).bind fun k=>
   match zok P e k&&auW (P.cellsOf e) (ks k)&&awt (P.bytesOf e) 256 with
   | true=>some (decide (0≤n)&&decide (n≤4294967296),AV.own b,[Ob.row e false k (au0 n.toNat (dfl k))])
   | false=>none)=some (q,v,os)→Good B β H w b v os (((Instr.makeSlice t (η l) (η c)).run P w).andThen fun u w=> .ok (.value u) w):=by
   intro n h1 h2 h;cases he:fC P t with
   | none=>rw[he]at h;cases h
   | some e=>
    rw[he]at h;simp only[auE]at h;cases hk:kd e with
    | none=>rw[hk]at h;cases h
    | some k=>
     rw[hk]at h;simp only[auE]at h;split at h
     ·rename_i hc;simp only[auF]at hc;simp only[auU,avs]at h;obtain⟨hr,rfl,rfl⟩:=h;rw[hq]at hr;simp only[auF,decide_eq_true_eq]at hr;rw[h1,h2];exact agE hH hb he hc.1.1 (aI hc.1.2) (avg hc.2) hr.1 hr.2
     ·cases h
  have hl:=hη l;have hc:=hη c;simp only[bY]at h;split at h
  ·rename_i n hl' aoa;rw[hl']at hl;split at aoa
   ·obtain rfl:=aI aoa;exact mk n hl.lit hl.lit h
   ·cases aoa
  ·rename_i n m hl' hc' aoa;rw[hl']at hl;rw[hc']at hc;split at h
   ·rename_i hnm;obtain rfl:n=m:=by simpa using hnm
    exact mk n hl.lit hc.lit h
   ·cases h
  ·cases h
 case slice t x lo hi mx=>
  cases mx with
  | some m=>simp[bY]at h
  | none=>
   rw[aqk (by unfold execOp;rw[ho])];simp only[bY]at h;split at h
   ·rename_i hf;exact adx hη hH hf h hq
   ·cases h
 case fieldAddr t x f=>
  simp only[bY]at h;cases hf:pe P t f with
  | none=>rw[hf]at h;cases h
  | some fd=>
   rw[hf]at h;simp only[auE]at h;split at h
   ·rename_i h1;split at h
    ·rename_i hp;obtain⟨rfl,_,rfl⟩:=bO h;exact Gv hη hH hf (avg h1) (.inl ⟨_,_,_,_,hp,rfl⟩) ho
    ·rename_i hp;obtain⟨rfl,_,rfl⟩:=bO h;exact Gv hη hH hf (avg h1) (.inr ⟨_,_,_,hp,rfl⟩) ho
    ·cases h
   ·cases h
 case field t x f=>
  simp only[bY]at h;cases hf:pe P t f with
  | none=>rw[hf]at h;cases h
  | some fd=>
   rw[hf]at h;simp only[auE]at h;split at h
   ·rename_i cs hx;cases hl:wW P fd.type cs fd.offset with
    | none=>rw[hl]at h;cases h
    | some v'=>
     rw[hl]at h;obtain⟨rfl,_,rfl⟩:=bO h;exact ad8 hη hH hf hx hl ho
   ·cases h
 case indexAddr t x ix=>
  rw[aqk (by unfold execOp;rw[ho])];simp only[bY]at h;split at h
  ·rename_i hi;exact U6 hP hη hH hi h hq
  ·cases h
 case index t x ix=>
  rw[aqk (by unfold execOp;rw[ho])];simp only[bY]at h;split at h
  ·rename_i hi;exact adV hη hH hi h hq
  ·cases h
 case extract x i=>
  simp only[bY]at h;split at h
  ·rename_i vs hx;cases hv:vs[i]? with
   | none=>rw[hv]at h;cases h
   | some v'=>
    rw[hv]at h;obtain⟨rfl,_,rfl⟩:=bO h;exact aaI hη hH hx hv ho
  ·cases h
 case call c=>
  have aqO: ∀ {x:Operand} {v:Value},ρ x= .lit v→η x=v:=fun {x v} e=>by have:=hη x;rw[e]at this;exact this.lit
  obtain⟨cal,⟨args⟩,⟨tys⟩⟩:=c;simp only[bY,EJ]at h;split at h
  ·rename_i x t;have run: ∀ n:Nat,(ayg #[t] o.type #[η x]).run P w= .ok (.int .i64 n) w→Good B β H w b (.i n) [] ((execOp η o).run P w):=by
    intro n hn;refine Good.same hH (u:= .int .i64 n) ?_ rfl;unfold execOp;rw[ho];simp[resolve,invoke,builtin,hn]
   split at h
   ·rename_i s hu hx;obtain⟨rfl,_,rfl⟩:=bO h;refine run _ ?_;rw[aqO hx];simp[ayg,run_underlying hu,goInt]
   ·rename_i e k xs hu hx;obtain⟨rfl,_,rfl⟩:=bO h;have h1:=hη x;rw[hx]at h1;have h2:RC w β (.sl k xs) (η x):=h1;obtain⟨a,cap,hv,_⟩:=h2.arU.len;refine run _ ?_;rw[hv,OK hu]
   ·rename_i e hu hx;obtain⟨rfl,_,rfl⟩:=bO h;refine run 0 ?_;rw[aqO hx,OK hu]
   ·rename_i e id hu hx;split at h
    ·rename_i e' fz k xs hid;obtain⟨rfl,_,rfl⟩:=bO h;have h1:=hη x;rw[hx]at h1;have h2:RC w β (.own id) (η x):=h1;obtain⟨hd,h3,h4⟩:=hH.aoq id _ hid;generalize hg:η x=g at h2 run;cases h2 with
     | own h5 h6=>
      rw[h3]at h5;cases h5;obtain⟨a,cap,hv,_⟩:=h4.cells.len;refine run _ ?_;rw[hv,OK hu]
    ·cases h
   ·rename_i n e v hu;obtain⟨rfl,_,rfl⟩:=bO h;refine run _ ?_;simp[ayg,run_underlying hu,goInt]
   ·cases h
  ·rename_i x y;split at h
   ·rename_i k a k' c hx hy;split at h
    ·rename_i hk;obtain rfl:k=k':=by simpa using hk
     obtain⟨rfl,_,rfl⟩:=bO h;refine Good.same hH (u:= .int k (if c < a then c else a)) ?_ rfl;unfold execOp;rw[ho];simp[resolve,invoke,builtin,Builtin.min_,Builtin.min2,aqO hx,aqO hy]
    ·cases h
   ·cases h
  ·rename_i x y;split at h
   ·rename_i k a k' c hx hy;split at h
    ·rename_i hk;obtain rfl:k=k':=by simpa using hk
     obtain⟨rfl,_,rfl⟩:=bO h;refine Good.same hH (u:= .int k (if a < c then c else a)) ?_ rfl;unfold execOp;rw[ho];simp[resolve,invoke,builtin,Builtin.max_,Builtin.max2,aqO hx,aqO hy]
    ·cases h
   ·cases h
  ·cases h
end
end Go.VS
namespace Go.VS
open Go
section
variable {B:anT} {β β':Beta} {stk:List (Array Value)} {s:S} {a:Act} {w w':World}
def aiC{cs:List Value}(h:cs.all akG=true): ∀ v∈cs,v.oneCell'=true:=fun v hv=>by
 rw[← aeM];exact avn.1 h v hv
def aiD(v:Value):R2 w β (ofV v) v:=by
 unfold ofV;split
 ·rename_i cs;split
  ·rename_i h;exact⟨cs.toList,by simp,RL.lits _ (aiC h)⟩
  ·trivial
 ·rfl
def St.eval(h:St B β stk s a w)(x:Operand):RX w β (dW a) (s.ev x) (a.eval x):=by
 cases x with
 | tmp t=>exact(h.T t).arv
 | const v=>
  have:=aiD (w:=w) (β:=β) v;show RX w β (dW a) (ofV v) v;exact RT.arv (RT.ao3 this)
 | _=>trivial
def afo{l:List Nat}{t:Nat}(h:(l.any fun p=>auW p t)=false):t ∉ l:=by
 intro hm;have:(l.any fun p=>auW p t)=true:=awL.2 ⟨t,hm,by simp⟩;rw[h]at this;cases this
def St.put(h:St B β stk s a w){d:Option Nat}(hd:s.has d=true){v:AV}{u:Value}(hv:RT w β (dW a) v u)(hg: ∀ g want x,v= .gd g want x→s.gs g=true):St B β stk (s.put d v) (a.put d u) w:=by
 cases d with
 | none=>exact h
 | some d=>
  simp only[S.has,auF,avw]at hd;obtain⟨⟨h1,h2⟩,h3⟩:=hd;have hlt:d < a.tmps.size:=by rw[h.n];exact av8 (axu d) (avg h1)
  have hp:=afo h2;have hgs:s.gs d≠true:=by rw[h3];simp
  have arS:dW (a.put (some d) u) d=u:=by simp[dW,Act.put,hlt]
  have tne: ∀ t,t≠d→dW (a.put (some d) u) t=dW a t:=fun t ht=>by
   simp only[dW,Act.put,axe];rw[ayc (fun e=>ht e.symm)]
  have rt: ∀ x y,RT w β (dW a) x y→(∀ g want z,x= .gd g want z→s.gs g=true)→RT w β (dW (a.put (some d) u)) x y:=by
   intro x y hx hx';cases x with
   | gd g want z=>
    have hne:g≠d:=fun e=>hgs (e▸hx' g want z rfl);refine⟨fun e=>hx.1 (by rwa[tne g hne]at e),fun e=>hx.2 (by rwa[tne g hne]at e)⟩
   | _=>exact hx
  refine⟨fun t=> ?_,h.stack, ?_,h.defers,fun t ht=> ?_,fun t g want x hx=> ?_,h.hs⟩
  ·show RT w β _ (upd s.T d v t) _;by_cases e:t=d
   ·subst e;rw[aD,arS];exact rt _ _ hv hg
   ·rw[aM _ _ e,tne t e];exact rt _ _ (h.T t) (h.gs t)
  ·show(a.put (some d) u).tmps.size=s.n;simpa[Act.put] using h.n
  ·have hne:t≠d:=fun e=>hp (e▸ht);rw[tne t hne];exact h.pins t ht
  ·have hx:upd s.T d v t= .gd g want x:=hx;by_cases e:t=d
   ·subst e;rw[aD]at hx;exact hg _ _ _ hx
   ·rw[aM _ _ e]at hx;exact h.gs _ _ _ _ hx
def St.map{f:AV→AV}(h:St B β stk s a w)(hf: ∀ c,an6 c=true→f c=c)(hg: ∀ c g want x,f c= .gd g want x→ ∃ y,c= .gd g want y)(hk:Kf f w β w' β'){H':Hp}(hH:Hs B β' H' w'):St B β' stk { s.map f with H:=H' } a w':=by
 have g1: ∀ c g want x,qI f c= .gd g want x→ ∃ y,c= .gd g want y:=by
  intro c g want x e;cases c<;>first | (cases e;done) | exact hg _ _ _ _ e
 have g2: ∀ c g want x,rY f c= .gd g want x→ ∃ y,c= .gd g want y:=by
  intro c g want x e;cases c<;>first | (cases e;done) | exact g1 _ _ _ _ e
 have g3: ∀ c g want x,yi f c= .gd g want x→ ∃ y,c= .gd g want y:=by
  intro c g want x e;cases c with
  | gd g' w' y=>cases e;exact⟨_,rfl⟩
  | _=>exact g2 _ _ _ _ e
 refine⟨fun t=>RT.map hf hk (h.T t),⟨by simpa[S.map] using h.stack.1,fun i T tm h1 h2 t=> ?_⟩,h.n,h.defers,h.pins,fun t g want x hx=> ?_,hH⟩
 ·simp only[S.map,avz,avc]at h1;obtain⟨T0,h3,rfl⟩:=h1;exact RT.map hf hk (h.stack.2 i T0 tm h3 h2 t)
 ·obtain⟨y,hy⟩:=g3 _ _ _ _ hx;exact h.gs _ _ _ _ hy
def Kq(id:Nat): ∀ c g want x,kl1 id c= .gd g want x→ ∃ y,c= .gd g want y:=by
 intro c g want x h;unfold kl1 at h;split at h
 ·split at h<;>cases h
 ·split at h<;>cases h
 ·exact⟨_,h⟩
def ajk(id:Nat)(k:K)(xs:List (Tof k)): ∀ c g want x,fz1 id k xs c= .gd g want x→ ∃ y,c= .gd g want y:=by
 intro c g want x h;unfold fz1 at h;split at h
 ·split at h<;>cases h
 ·split at h<;>cases h
 ·exact⟨_,h⟩
def St.keep(h:St B β stk s a w)(hk:Kp w β w' β'){H':Hp}(hH:Hs B β' H' w'):St B β' stk { s with H:=H' } a w':=
 ⟨fun t=>RT.mono hk (h.T t),⟨h.stack.1,fun i T tm h1 h2 t=>RT.mono hk (h.stack.2 i T tm h1 h2 t)⟩,h.n,h.defers,h.pins,h.gs,hH⟩
end
end Go.VS
namespace Go.VS
open Go
section
variable {P:Program} {B:anT} {β β':Beta} {H:Hp} {stk:List (Array Value)} {s:S} {a:Act} {w w':World}
def acu{o n:Nat}{cs:List AV}(h:ajq o n cs=true):o+n≤cs.length∧(o=0→nop (cs.headD (.lit (.bool false)))=true):=by
 unfold ajq at h;simp only[auF,avo]at h;exact⟨avg h.1,fun e=>h.2.resolve_left fun h1=>by have:=avg h1;omega⟩
def ahF{e:TypeId}{k:K}(h:zok P e k=true):T5 P e=false:=by
 unfold zok at h;unfold T5;split at h
 ·rename_i zs hz;rw[hz];cases zs with
  | nil=>rfl
  | cons c zs=>
   cases hk:enc k (dfl k) with
   | nil=>rw[hk]at h;cases h
   | cons d ds=>
    rw[hk]at h;simp only[ZG,auF]at h;cases c<;>first | rfl | skip
    rename_i v;cases v<;>first | rfl | skip
    rename_i q;cases q<;>first | rfl | skip
    have h1:=h.1;simp[aj8]at h1
 ·cases h
def aiL{c:AV}{v:Value}(hn:nop c=true)(h:RC w β c v): ∀ a,v≠ .pointer (some a):=by
 rintro a rfl;cases h with
 | un=>cases hn
 | lit=>cases hn
 | own _ hs=>cases hs
 | ptr=>cases hn
 | ipt=>cases hn
def alk: ∀ (k:K) (x:Tof k),(enc k x).all nop=true:=by
 intro k x;cases k<;>rfl
def Pk.setRow{g:Nat}{us cs:Array Value}{e:TypeId}{fr:Nat×Nat}(hg:w.heap[g]? =some (.cells us e fr))(h:T5 P e=true→ ∀ a,us[0]? =some (.pointer (some a))→cs[0]? =some (.pointer (some a))):Pk P w (w.setRow g cs):=by
 intro b us' e' fr' a h1 h2 h3;by_cases hb:b=g
 ·subst hb;rw[hg]at h1;cases h1;exact⟨cs,_,setRow_heap w b us cs e _ hg,h h3 a h2⟩
 ·exact⟨us',fr',by rw[setRow_other w g b cs hb];exact h1,h2⟩
def Lx{l ys:List Value}{p:Nat}(h:p+ys.length≤l.length){v:Value}(hv:l[0]? =some v)(h0:p=0→ys≠[]→False):((l.take p++ys++l.drop (p+ys.length)).toArray)[0]? =some v:=by
 rw[axK];by_cases hy:ys=[]
 ·subst hy;simpa using hv
 ·have hp:0 < p:=Nat.pos_of_ne_zero fun e=>h0 e hy;rw[au2,avQ (by
   have:=(auR.1 hv).1;simp;omega),av7,aus hp]
  exact hv
def TG{k:K}{us:Array Value}{f:Nat}{xs:List (Tof k)}(hr: ∀ i x j c u,xs[i]? =some x→(enc k x)[j]? =some c→us[f+(i * ks k+j)]? =some u→RC w β c u)(hx:xs≠[])(hf:f=0){a:Addr}(hu:us[0]? =some (.pointer (some a))):False:=by
 subst hf;obtain⟨x,l,rfl⟩:=List.exists_cons_of_ne_nil hx;have hk:=qk k;rw[← bG k x]at hk;have hc:=hr 0 x 0 _ _ rfl (auO hk) (by simpa using hu);exact aiL (avn.1 (alk k x) _ (avm hk)) hc a rfl
def Hs.setRow(h:Hs B β H w){id:Nat}{hd:Value}{n g o:Nat}(hβ:β id=some (hd,n))(ha:adr hd=some ⟨g,o,none⟩)(cs:Array Value)(ob:Ob)
  (hob:Kp w β (w.setRow g cs) β→aoo B.P (w.setRow g cs) β id ob)(hpk:Pk B.P w (w.setRow g cs)):Hs B β (upd H id (some ob)) (w.setRow g cs)∧Kp w β (w.setRow g cs) β:=by
 have hm:MB β g:=⟨id,hd,n,_,hβ,ha,rfl⟩;have hk:Kp w β (w.setRow g cs) β:=fun c v x=>RC.mono (fun _ _ h=>h) (fun b o v hb hc=>by
  have hne:b≠g:=fun e=>hb (.inl (e▸hm));rw[cell_setRow_other w g cs _ hne];exact hc) (fun _ h _=>h) x
 have h1:=h.aqW (w':=w.setRow g cs) (β':=β) (f:=fun c=>c) (fun _ _=>rfl) hk (id:=id) (ob:=some ob) (fun _ _=>rfl)
  (.inr ⟨ob,hd,n,rfl,hβ,hob hk,fun a h=> .inl ⟨_,a,hβ,h,rfl⟩⟩)
  (fun j p a' e hj h2=>setRow_other w g _ cs (fun e'=>e (h.inj _ _ _ _ _ _ hj hβ h2 ha e'))) rfl rfl rfl (by simp)
  (fun b hb hO=>setRow_other w g b cs (fun e=>by
   subst e;rcases(h.old b hm).1 with h3 | h3
   ·exact hO h3
   ·omega)) rfl hpk
 rw[show(fun j=>iY (fun c=>c) (H j))=H from funext fun j=>aeS _ (fun _=>rfl) _]at h1;exact⟨h1,hk⟩
def SW{α:Type}(l:List α)(p:Nat)(ys:List α)(h:p+ys.length≤l.length)(q:Nat):
  (l.take p++ys++l.drop (p+ys.length))[q]? =if p≤q∧q < p+ys.length then ys[q - p]? else l[q]? :=by
 have ht:(l.take p).length=p:=by simp;omega
 by_cases h1:q < p
 ·rw[aur (by omega),au2,avQ (by omega),av7,aus h1]
 ·by_cases h2:q < p+ys.length
  ·rw[aus ⟨by omega,h2⟩,au2,avl (by omega),ht,avQ (by omega)]
  ·rw[aur (by omega),avl (by simp;omega),awh];congr 1;simp only[auP,ht];omega
def CY{t:TypeId}{v:Value}{g o:Nat}{e:TypeId}{fr:Nat×Nat}{cur:Array Value}(h1:1≤P.cellsOf t)(hs:v.cells.size=P.cellsOf t)(hg:w.heap[g]? =some (.cells cur e fr))(hl:o+v.cells.size≤cur.size)
  (hfr:fr=(0,0)∨cur.size≤fr.1)(aob: ∀ u∈v.cells.toList,u.oneCell'=true):
  (axQ t (.pointer (some ⟨g,o,none⟩)) v).run P w= .ok () (w.setRow g (cur.toList.take o++v.cells.toList++cur.toList.drop (o+v.cells.size)).toArray):=by
 have:=CX (P:=P) g o e fr v.cells.toList 0 cur w hg (by simpa using hl) hfr aob;simp only[awR,avE]at this;simp only[axQ,awU,storeVar,awb,awp,avP,nb h1,hs,ne_eq,not_true_eq_false,if_false];rw[hs]at this;exact this
def afM(hP:P=B.P)(h:St B β stk s a w){t:TypeId}{p x:Operand}{id z o:Nat}{e:TypeId}{cs ys:List AV}(hp:s.ev p= .ptr id z 0 o)(hid:s.H id=some (.box e cs))(hx:mc (s.ev x)=some ys)
  (hy:ys.length=P.cellsOf t)(h1:1≤P.cellsOf t)(hl:o+ys.length≤cs.length)(h0:o=0→nop (cs.headD (.lit (.bool false)))=true):
  ∃ w' β',(axQ t (a.eval p) (a.eval x)).run P w= .ok () w'∧St B β' stk (s.aop id (some (.box e (mJ cs o ys)))) a w':=by
 have hp':=h.eval p;rw[hp]at hp';have hp':RC w β (.ptr id z 0 o) (a.eval p):=hp';have hr:=uN hx (h.eval x);have hys:(a.eval x).cells.size=ys.length:=by have:=hr.1;simpa using this
 obtain⟨b',us,k1,k2,k3⟩:=h.hs.aoq id _ hid;have hcs:us.size=cs.length:=by have:=k3.1;simpa using this
 generalize hg:a.eval p=vp at hp';cases hp' with
 | @ptr _ _ _ _ hd n bb f hβ ha hi=>
  rw[k1]at hβ;cases hβ;cases ha;have an2:=CY (P:=P) (w:=w) (v:=a.eval x) (o:=o) h1 (by rw[hys,hy]) k2 (by omega) (.inl rfl) hr.one;refine⟨_,β,by rw[show(0:Nat)+(0 * z+o)=o by omega];exact an2, ?_⟩;obtain⟨g1,g2⟩:=h.hs.setRow (hpk:=Pk.setRow k2 fun _ a' hu=>by
   have hus:us.toList.length=us.size:=avE;refine Lx (ys:=(a.eval x).cells.toList) (by simp;omega) (by simpa using hu) fun e1 _=> ?_;cases cs with
   | nil=>simp at hcs;simp[hcs]at hu
   | cons c cs=>exact aiL (h0 e1) (k3.2 0 c _ rfl (by simpa using hu)) a' rfl) k1 rfl (us.toList.take o++(a.eval x).cells.toList++us.toList.drop (o+(a.eval x).cells.size)).toArray (.box e (mJ cs o ys)) (fun hk=>by
   refine⟨b',_,k1,setRow_heap w b' us _ e _ k2, ?_⟩;rw[azh];unfold mJ;rw[← hys];exact(((k3.take _).append hr).append (k3.drop _)).mono hk)
  exact h.keep g2 g1
def Vv{k:K}{us:List Value}{f:Nat}{xs:List (Tof k)}{i o:Nat}{y:Tof k}{ys:List AV}{vs:List Value}(hi:i < xs.length)(hsz:f+xs.length * ks k≤us.length)
  (hr: ∀ i x j c u,xs[i]? =some x→(enc k x)[j]? =some c→us[f+(i * ks k+j)]? =some u→RC w β c u)(hv:vs.length=ys.length)(ho:o+ys.length≤ks k)
  (hy: ∀ us0,RL (RC w β) (enc k (xs.getD i (dfl k))) us0→RL (RC w β) (enc k y) (us0.take o++vs++us0.drop (o+vs.length))):
  ∀ i' x j c u,(xs.set i y)[i']? =some x→(enc k x)[j]? =some c→(us.take (f+(i * ks k+o))++vs++us.drop (f+(i * ks k+o)+vs.length))[f+(i' * ks k+j)]? =some u→RC w β c u:=by
 intro i' x j c u h1 h2 h3;have hj:j < ks k:=by rw[← bG k x];exact(auR.1 h2).1
 have hi':i' < xs.length:=by have:=(auR.1 h1).1;simpa using this
 have e1:(i+1) * ks k≤xs.length * ks k:=avu _ hi;rw[av4,axS]at e1;have hlen:=hv;rw[SW _ _ _ (by omega)]at h3;by_cases e:i'=i
 ·subst e;have hx:x=y:=by
   rw[ax8 hi]at h1;exact(avD h1).symm
  subst hx;have hold:RL (RC w β) (enc k (xs.getD i' (dfl k))) ((us.drop (f+i' * ks k)).take (ks k)):=by
   refine⟨by simp[bG];omega,fun j' c' u' g1 g2=>hr i' _ j' c' u' (getD_some hi) g1 ?_⟩;have hj':j' < ks k:=by rw[← bG k (xs.getD i' (dfl k))];exact(auR.1 g1).1
   rw[av7,aus hj',awh,avI]at g2;exact g2
  have aqC:=hy _ hold;refine aqC.2 j c u h2 ?_;rw[SW _ _ _ (by simp;omega)];by_cases g:o≤j∧j < o+vs.length
  ·rw[aus g];rw[aus (by omega)]at h3;rw[← h3];congr 1;omega
  ·rw[aur g,av7,aus hj,awh];rw[aur (by omega)]at h3;rw[← h3];congr 1;omega
 ·have hx:xs[i']? =some x:=by
   rw[List.getElem?_set_ne (fun q=>e q.symm)]at h1;exact h1
  refine hr i' x j c u hx h2 ?_;rw[aur]at h3
  ·exact h3
  ·rcases ayz e with g | g
   ·have:(i'+1) * ks k≤i * ks k:=avu _ g;rw[av4,axS]at this;omega
   ·have:(i+1) * ks k≤i' * ks k:=avu _ g;rw[av4,axS]at this;omega
def ade(h:St B β stk s a w){t:TypeId}{p:Operand}{id i o:Nat}{e:TypeId}{fz:Bool}{k:K}{xs:List (Tof k)}{ys:List AV}{vs:Value}(hp:RC w β (.ptr id (ks k) i o) (a.eval p))(hid:s.H id=some (.row e fz k xs))
  (hys:vs.cells.size=ys.length)(aob: ∀ u∈vs.cells.toList,u.oneCell'=true)(hy:ys.length=P.cellsOf t)(h1:1≤P.cellsOf t)(hl:o+ys.length≤ks k){y:Tof k}(hd: ∀ us0,RL (RC w β) (enc k (xs.getD i (dfl k))) us0→RL (RC w β) (enc k y) (us0.take o++vs.cells.toList++us0.drop (o+vs.cells.toList.length))):
  ∃ w',(axQ t (a.eval p) vs).run P w= .ok () w'∧St B β stk (s.aop id (some (.row e fz k (xs.set i y)))) a w':=by
 obtain⟨hd',k1,k2⟩:=h.hs.aoq id _ hid;generalize hg:a.eval p=vp at hp;cases hp with
 | @ptr _ _ _ _ hdd n bb f hβ ha hi=>
  rw[k1]at hβ;cases hβ;rcases k2 with⟨rfl,rfl⟩ | ⟨b',f',cap,us,fr,aq2,hh,hfr,hn,hc,hsz,anR⟩
  ·cases ha
  ·subst aq2;have ha':(⟨b',f',none⟩:Addr)=⟨bb,f,none⟩:=avD ha;obtain⟨rfl,rfl⟩:b'=bb∧f'=f:=by simpa using ha'
   have hxc:xs.length * ks k≤cap * ks k:=avu _ hn;have hic:(i+1) * ks k≤xs.length * ks k:=avu _ hi;rw[av4,axS]at hic;have at3:fr=(0,0)∨us.size≤fr.1:=by
    subst hfr;cases fz
    ·exact .inl rfl
    ·exact .inr (auS _)
   have an2:=CY (P:=P) (w:=w) (v:=vs) (o:=f'+(i * ks k+o)) h1 (by rw[hys,hy]) hh (by omega) at3 aob;refine⟨_,an2, ?_⟩;obtain⟨g1,g2⟩:=h.hs.setRow (hpk:=Pk.setRow hh fun _ a' hu=>by
    have hus:us.toList.length=us.size:=avE;exact Lx (ys:=vs.cells.toList) (by simp;omega) (by simpa using hu) fun e1 _=>TG anR (fun e2=>by subst e2;simp at hi) (by omega) hu) k1 rfl (us.toList.take (f'+(i * ks k+o))++vs.cells.toList++us.toList.drop (f'+(i * ks k+o)+vs.cells.size)).toArray (.row e fz k (xs.set i y)) (fun hk=>by
    have anW:(us.toList.take (f'+(i * ks k+o))++vs.cells.toList++us.toList.drop (f'+(i * ks k+o)+vs.cells.size)).toArray.size=us.size:=by
     simp only[awH,auP,avv,avy,avE];omega
    refine⟨_,by simpa using k1,.inr ⟨b',f',cap,_,fr,by simp,setRow_heap w b' us _ e _ hh, ?_,by simpa using hn,hc,by rw[anW];exact hsz, ?_⟩⟩
    ·rw[anW];exact hfr
    ·intro i' x' j c u q1 q2 q3;have q3':(us.toList.take (f'+(i * ks k+o))++vs.cells.toList++us.toList.drop (f'+(i * ks k+o)+vs.cells.toList.length))[f'+(i' * ks k+j)]? =some u:=by simpa using q3
     exact hk _ _ (Vv hi (by simp;omega) (fun i x j c u a1 a2 a3=>anR i x j c u a1 a2 (by simpa using a3)) (by simpa using hys) hl hd i' x' j c u q1 q2 q3'))
   exact h.keep g2 g1
def afN(h:St B β stk s a w){t:TypeId}{p:Operand}{id i o:Nat}{e:TypeId}{k:K}{xs:List (Tof k)}{ys:List AV}{vs:Value}(hp:RC w β (.ptr id (ks k) i o) (a.eval p))(hid:s.H id=some (.arr e k xs))
  (hys:vs.cells.size=ys.length)(aob: ∀ u∈vs.cells.toList,u.oneCell'=true)(hy:ys.length=P.cellsOf t)(h1:1≤P.cellsOf t)(hl:o+ys.length≤ks k){y:Tof k}(hd: ∀ us0,RL (RC w β) (enc k (xs.getD i (dfl k))) us0→RL (RC w β) (enc k y) (us0.take o++vs.cells.toList++us0.drop (o+vs.cells.toList.length))):
  ∃ w',(axQ t (a.eval p) vs).run P w= .ok () w'∧St B β stk (s.aop id (some (.arr e k (xs.set i y)))) a w':=by
 obtain⟨b',us,k1,hh,hsz,hce,anR⟩:=h.hs.aoq id _ hid;generalize hg:a.eval p=vp at hp;cases hp with
 | @ptr _ _ _ _ hdd n bb f hβ ha hi=>
  rw[k1]at hβ;cases hβ;cases ha;have hic:(i+1) * ks k≤xs.length * ks k:=avu _ hi;rw[av4,axS]at hic;have an2:=CY (P:=P) (w:=w) (v:=vs) (o:=0+(i * ks k+o)) h1 (by rw[hys,hy]) hh (by omega) (.inl rfl) aob;refine⟨_,an2, ?_⟩;obtain⟨g1,g2⟩:=h.hs.setRow (hpk:=Pk.setRow hh fun _ a' hu=>by
   have hus:us.toList.length=us.size:=avE;exact Lx (ys:=vs.cells.toList) (by simp;omega) (by simpa using hu) fun e1 _=>TG (f:=0) (xs:=xs) (fun i x j c u a1 a2 a3=>anR i x j c u a1 a2 (by simpa using a3)) (fun e2=>by subst e2;simp at hi) rfl hu) k1 rfl (us.toList.take (0+(i * ks k+o))++vs.cells.toList++us.toList.drop (0+(i * ks k+o)+vs.cells.size)).toArray (.arr e k (xs.set i y)) (fun hk=>by
   have anW:(us.toList.take (0+(i * ks k+o))++vs.cells.toList++us.toList.drop (0+(i * ks k+o)+vs.cells.size)).toArray.size=us.size:=by
    simp only[awH,auP,avv,avy,avE];omega
   refine⟨b',_,by simpa using k1,setRow_heap w b' us _ e _ hh,by rw[anW];simpa using hsz,by rw[anW];exact hce, ?_⟩;intro i' x' j c u q1 q2 q3;have q3':(us.toList.take (0+(i * ks k+o))++vs.cells.toList++us.toList.drop (0+(i * ks k+o)+vs.cells.toList.length))[0+(i' * ks k+j)]? =some u:=by simpa using q3
   exact hk _ _ (Vv hi (by simp;omega) (fun i x j c u a1 a2 a3=>anR i x j c u a1 a2 (by simpa using a3)) (by simpa using hys) hl hd i' x' j c u q1 q2 q3'))
  exact h.keep g2 g1
end
end Go.VS
namespace Go.VS
open Go
section
variable {P:Program} {B:anT} {β β':Beta} {H:Hp} {stk:List (Array Value)} {s:S} {a:Act} {w w':World}
structure an5 (w:World) (H:Hp) (β β':Beta) (H':Hp) (ids:List Nat):Prop where
 imm: ∀ c v,an6 c=true→RC w β c v→RC w β' c v
 own: ∀ j v,j ∉ ids→RC w β (.own j) v→RC w β' (.own j) v
 ptr: ∀ j z i o v,j ∉ ids→RC w β (.ptr j z i o) v→RC w β' (.ptr j z i o) v
 fr: ∀ j v e fz k xs,j∈ids→H j=some (.row e fz k xs)→RC w β (.own j) v→RC w β' (.sl k xs) v
 row: ∀ j e fz k xs,j ∉ ids→H j=some (.row e fz k xs)→H' j=some (.row e fz k xs)
 arr: ∀ j e k xs,j ∉ ids→H j=some (.arr e k xs)→H' j=some (.arr e k xs)
 non: ∀ j,H j=none→H' j=none
def St.apQ(h:St B β stk s a w)(id:Nat): ∃ β',St B β' stk (s.freeze id) a w∧an5 w s.H β β' (s.freeze id).H [id]:=by
 have gen: ∀ f:AV→AV,(∀ c,an6 c=true→f c=c)→(∀ j,j≠id→f (.own j)= .own j)→(∀ j z i o,j≠id→f (.ptr j z i o)= .ptr j z i o)→(∀ e fz k xs,s.H id=some (.row e fz k xs)→f (.own id)= .sl k xs)→
   (∀ c g want x,f c= .gd g want x→ ∃ y,c= .gd g want y)→ ∀ β',Hs B β' (upd (fun j=>iY f (s.H j)) id none) w→Kf f w β w β'→s.freeze id={ s.map f with H:=upd (fun j=>iY f (s.H j)) id none } →
   ∃ β',St B β' stk (s.freeze id) a w∧an5 w s.H β β' (s.freeze id).H [id]:=by
  intro f h1 h2 h3 h4 h5 β' h6 h7 h8;refine⟨β',by rw[h8];exact h.map h1 h5 h7 h6, ?_⟩;rw[h8];refine⟨fun c v hc hv=>by have:=h7 c v hv;rwa[h1 c hc]at this,fun j v hj hv=>by have:=h7 _ v hv;rwa[h2 j (by simpa using hj)]at this,
   fun j z i o v hj hv=>by have:=h7 _ v hv;rwa[h3 j z i o (by simpa using hj)]at this,fun j v e fz k xs hj hh hv=> ?_,fun j e fz k xs hj hh=> ?_,fun j e k xs hj hh=> ?_,fun j hh=> ?_⟩
  ·obtain rfl:j=id:=by simpa using hj
   have:=h7 _ v hv;rwa[h4 e fz k xs hh]at this
  ·show upd (fun j=>iY f (s.H j)) id none j=_;rw[aM _ _ (by simpa using hj),hh];rfl
  ·show upd (fun j=>iY f (s.H j)) id none j=_;rw[aM _ _ (by simpa using hj),hh];rfl
  ·show upd (fun j=>iY f (s.H j)) id none j=_;by_cases e:j=id
   ·subst e;rw[aD]
   ·rw[aM _ _ e,hh];rfl
 have kl: ∀ j,j≠id→auW j id=false:=fun j hj=>by rw[← awo,awY];exact hj
 cases hid:s.H id with
 | none=>
  obtain⟨β',h1,h2⟩:=h.hs.kill id;exact gen (kl1 id) (gz id) (fun j hj=>by simp[kl1,kl j hj]) (fun j z i o hj=>by simp[kl1,kl j hj]) (fun e fz k xs hh=>by rw[hid]at hh;cases hh) (Kq id) β' h1 h2 (by simp only[S.freeze,hid];rfl)
 | some ob=>
  cases ob with
  | row e fz k xs=>
   obtain⟨β',h1,h2⟩:=h.hs.freeze hid;exact gen (fz1 id k xs) (Pl id k xs) (fun j hj=>by simp[fz1,kl j hj]) (fun j z i o hj=>by simp[fz1,kl j hj]) (fun e fz k xs hh=>by rw[hid]at hh;cases hh;simp[fz1]) (ajk id k xs) β' h1 h2 (by simp only[S.freeze,hid];rfl)
  | box e cs=>
   obtain⟨β',h1,h2⟩:=h.hs.kill id;exact gen (kl1 id) (gz id) (fun j hj=>by simp[kl1,kl j hj]) (fun j z i o hj=>by simp[kl1,kl j hj]) (fun e fz k xs hh=>by rw[hid]at hh;cases hh) (Kq id) β' h1 h2 (by simp only[S.freeze,hid];rfl)
  | arr e k xs=>
   obtain⟨β',h1,h2⟩:=h.hs.kill id;exact gen (kl1 id) (gz id) (fun j hj=>by simp[kl1,kl j hj]) (fun j z i o hj=>by simp[kl1,kl j hj]) (fun e fz k xs hh=>by rw[hid]at hh;cases hh) (Kq id) β' h1 h2 (by simp only[S.freeze,hid];rfl)
def an5.nil:an5 w H β β H []:=
 ⟨fun _ _ _ h=>h,fun _ _ _ h=>h,fun _ _ _ _ _ _ h=>h,fun _ _ _ _ _ _ h=>by simp at h,fun _ _ _ _ _ _ h=>h,fun _ _ _ _ _ h=>h,fun _ h=>h⟩
def an5.cons{β'':Beta}{H' H'':Hp}{i:Nat}{ids:List Nat}(h:an5 w H β β' H' [i])(k:an5 w H' β' β'' H'' ids):an5 w H β β'' H'' (i::ids):=by
 refine⟨fun c v hc hv=>k.imm c v hc (h.imm c v hc hv),fun j v hj hv=>k.own j v (fun e=>hj (by simp[e])) (h.own j v (fun e=>hj (by simp at e;simp[e])) hv),
  fun j z i o v hj hv=>k.ptr j z i o v (fun e=>hj (by simp[e])) (h.ptr j z i o v (fun e=>hj (by simp at e;simp[e])) hv),fun j v e fz kk xs hj hh hv=> ?_,
  fun j e fz kk xs hj hh=>k.row j e fz kk xs (fun e=>hj (by simp[e])) (h.row j e fz kk xs (fun e=>hj (by simp at e;simp[e])) hh),
  fun j e kk xs hj hh=>k.arr j e kk xs (fun e=>hj (by simp[e])) (h.arr j e kk xs (fun e=>hj (by simp at e;simp[e])) hh),fun j hh=>k.non j (h.non j hh)⟩
 by_cases e1:j=i
 ·exact k.imm _ _ rfl (h.fr j v e fz kk xs (by simp[e1]) hh hv)
 ·have h1:j ∉ [i]:=by simpa using e1
  have h2:j∈ids:=by simpa[e1] using hj
  exact k.fr j v e fz kk xs h2 (h.row j e fz kk xs h1 hh) (h.own j v h1 hv)
def St.anY: ∀ (ids:List Nat) {s:S} {β:Beta},St B β stk s a w→ ∃ β',St B β' stk (ids.foldl S.freeze s) a w∧an5 w s.H β β' (ids.foldl S.freeze s).H ids
 | [],s,β,h=>⟨β,h,an5.nil⟩
 | i::ids,s,β,h=>by
  obtain⟨β1,h1,h2⟩:=h.apQ i;obtain⟨β2,h3,h4⟩:=St.anY ids h1;exact⟨β2,h3,h2.cons h4⟩
def Q(H:Hp)(w:World)(β:Beta)(c:AV)(u:Value):Prop:=(∀ v,c= .lit v→RC w β c u)∧ ∀ k l,iT H k c=some l→RC w β (.sl k l) u
def Q.lit{v u:Value}(h:Q H w β (.lit v) u):RC w β (.lit v) u:=h.1 v rfl
def ana:AV→Bool
 | .lit _=>true
 | _=>false
def Q.all{cs:List AV}{us:List Value}(hl:RL (Q H w β) cs us)(h:cs.all ana=true):RL (RC w β) cs us:=by
 refine⟨hl.1,fun j c u h1 h2=> ?_⟩;have h3:=avn.1 h c (au8 h1);cases c<;>first | cases h3 | skip
 exact(hl.2 j _ u h1 h2).lit
def ajJ{k:K}{cs:List AV}{x:Tof k}(h:dec H k cs=some x){us:List Value}(hl:RL (Q H w β) cs us):RL (RC w β) (enc k x) us:=by
 unfold dec at h;split at h<;>try (cases h;done)
 all_goals try (cases h;exact Q.all hl rfl)
 ·rename_i x';cases hx:iT H K.mixed x' with
  | none=>rw[hx]at h;cases h
  | some l=>
   rw[hx]at h;cases h;obtain⟨u1,_,rfl,g1,hl⟩:=hl.anH;obtain⟨u2,_,rfl,g2,hl⟩:=hl.anH;obtain⟨u3,_,rfl,g3,hl⟩:=hl.anH;obtain⟨u4,_,rfl,g4,hl⟩:=hl.anH;obtain⟨u5,_,rfl,g5,hl⟩:=hl.anH;obtain⟨u6,_,rfl,g6,hl⟩:=hl.anH;rw[hl.of_nil];exact .cons g1.lit (.cons g2.lit (.cons g3.lit (.cons g4.lit (.cons g5.lit (.cons (g6.2 _ _ hx) .nil)))))
 ·rename_i x' y' z';cases hx:iT H K.note x' with
  | none=>rw[hx]at h;cases h
  | some l=>
   cases hy:iT H K.mark y' with
   | none=>rw[hx,hy]at h;cases h
   | some m=>
    cases hz:iT H K.note z' with
    | none=>rw[hx,hy,hz]at h;cases h
    | some n=>
     rw[hx,hy,hz]at h;cases h;obtain⟨u1,_,rfl,g1,hl⟩:=hl.anH;obtain⟨u2,_,rfl,g2,hl⟩:=hl.anH;obtain⟨u3,_,rfl,g3,hl⟩:=hl.anH;obtain⟨u4,_,rfl,g4,hl⟩:=hl.anH;obtain⟨u5,_,rfl,g5,hl⟩:=hl.anH;obtain⟨u6,_,rfl,g6,hl⟩:=hl.anH;rw[hl.of_nil];exact .cons g1.lit (.cons g2.lit (.cons g3.lit (.cons (g4.2 _ _ hx) (.cons (g5.2 _ _ hy) (.cons (g6.2 _ _ hz) .nil)))))
 ·rename_i x';cases hx:iT H K.half x' with
  | none=>rw[hx]at h;cases h
  | some l=>
   rw[hx]at h;cases h;obtain⟨u1,_,rfl,g1,hl⟩:=hl.anH;obtain⟨u2,_,rfl,g2,hl⟩:=hl.anH;obtain⟨u3,_,rfl,g3,hl⟩:=hl.anH;obtain⟨u4,_,rfl,g4,hl⟩:=hl.anH;obtain⟨u5,_,rfl,g5,hl⟩:=hl.anH;rw[hl.of_nil];exact .cons g1.lit (.cons g2.lit (.cons g3.lit (.cons g4.lit (.cons (g5.2 _ _ hx) .nil))))
def an5.Q{β0:Beta}{H':Hp}{ids:List Nat}(h:an5 w H β0 β H' ids){c:AV}{u:Value}(hc: ∀ j,c= .own j→j∈ids)(hx:RC w β0 c u):VS.Q H w β c u:=by
 refine⟨fun v e=>by subst e;exact h.imm _ _ rfl hx,fun k l hl=> ?_⟩;unfold iT at hl;split at hl
 ·obtain⟨e,rfl⟩:=gW hl;subst e;exact h.imm _ _ rfl hx
 ·cases hl;rw[hx.aqb];exact .nil
 ·rename_i id _;split at hl
  ·rename_i e fz k' xs hid;obtain⟨ek,rfl⟩:=gW hl;subst ek;exact h.fr _ u e fz k' xs (hc _ rfl) hid hx
  ·cases hl
 ·cases hl
def acC{H:Hp}{β:Beta}{k:K}{x0 y:Tof k}{o:Nat}{ys:List AV}{vs us0:List Value}(hd:dec H k (mJ (enc k x0) o ys)=some y)(h0:RL (RC w β) (enc k x0) us0)(hy:RL (VS.Q H w β) ys vs):
  RL (RC w β) (enc k y) (us0.take o++vs++us0.drop (o+vs.length)):=by
 have h1:RL (VS.Q H w β) (enc k x0) us0:=by
  refine⟨h0.1,fun j c u a1 a2=> ?_⟩;have hr:=h0.2 j c u a1 a2;have hn:=fL k x0 a1;refine⟨fun v e=>by subst e;exact hr,fun k' l hl=> ?_⟩;unfold iT at hl;split at hl
  ·obtain⟨e,rfl⟩:=gW hl;subst e;exact hr
  ·cases hl;rw[hr.aqb];exact .nil
  ·cases hn
  ·cases hl
 refine ajJ hd ?_;unfold mJ;rw[← hy.1];exact((h1.take o).append hy).append (h1.drop _)
def adb(hP:P=B.P)(h:St B β stk s a w){t:TypeId}{p x:Operand}{s':S}(hs:qV P t s (s.ev p) (s.ev x)=some s'):
  ∃ w' β',(axQ t (a.eval p) (a.eval x)).run P w= .ok () w'∧St B β' stk s' a w':=by
 generalize hp:s.ev p=cp at hs;unfold qV at hs;split at hs
 ·rename_i id z i o;have hpx:=h.eval p;rw[hp]at hpx;have hpr:RC w β (.ptr id z i o) (a.eval p):=hpx;split at hs
  ·rename_i e cs hid;split at hs
   ·cases hc:mc (s.ev x) with
    | none=>rw[hc]at hs;cases hs
    | some ys=>
     rw[hc]at hs;simp only[auE]at hs;split at hs
     ·rename_i hb;simp only[auF]at hb;cases hs;exact afM hP h hp hid hc (aI hb.1.1) (avg hb.1.2) (acu hb.2).1 (acu hb.2).2
     ·cases hs
   ·cases hs
  ·rename_i e fz k xs hid;cases hc:mc (s.ev x) with
   | none=>rw[hc]at hs;cases hs
   | some ys=>
    rw[hc]at hs;simp only[auE]at hs;split at hs
    ·rename_i hb;simp only[auF,avw]at hb;obtain⟨⟨⟨⟨b1,b2⟩,b3⟩,b4⟩,b5⟩:=hb;obtain rfl:=aI b4;have hni:=afo b5;cases hd:dec s.H k (mJ (enc k (xs.getD i (dfl k))) o ys) with
     | none=>rw[hd]at hs;cases hs
     | some y=>
      rw[hd]at hs;simp only[auE,auU]at hs;subst hs;obtain⟨β',h1,h2⟩:=St.anY (ys.filterMap vH) h;have hr:=uN hc (h.eval x);have hrQ:RL (VS.Q s.H w β') ys (a.eval x).cells.toList:=⟨hr.1,fun j c u g1 g2=>h2.Q (fun j' e'=>by
       subst e';exact avU.2 ⟨_,au8 g1,rfl⟩) (hr.2 j c u g1 g2)⟩
      obtain⟨w',g1,g2⟩:=ade (P:=P) (t:=t) (p:=p) h1 (h2.ptr _ _ _ _ _ hni hpr) (h2.row _ _ _ _ _ hni hid) (by have:=hr.1;simpa using this) hr.one (aI b1) (avg b2) (avg b3)
       (fun us0 h0=>acC hd h0 hrQ)
      exact⟨w',β',g1,g2⟩
    ·cases hs
  ·rename_i e k xs hid;cases hc:mc (s.ev x) with
   | none=>rw[hc]at hs;cases hs
   | some ys=>
    rw[hc]at hs;simp only[auE]at hs;split at hs
    ·rename_i hb;simp only[auF]at hb;obtain⟨⟨⟨b1,b2⟩,b3⟩,b4⟩:=hb;obtain rfl:=aI b4;cases hd:dec (fun _=>none) k (mJ (enc k (xs.getD i (dfl k))) o ys) with
     | none=>rw[hd]at hs;cases hs
     | some y=>
      rw[hd]at hs;simp only[auE,auU]at hs;subst hs;have hr:=uN hc (h.eval x);have hrQ:RL (VS.Q (fun _=>none) w β) ys (a.eval x).cells.toList:=⟨hr.1,fun j c u g1 g2=>by
       have hx:=hr.2 j c u g1 g2;refine⟨fun v e=>by subst e;exact hx,fun k' l hl=> ?_⟩;unfold iT at hl;split at hl
       ·obtain⟨e,rfl⟩:=gW hl;subst e;exact hx
       ·cases hl;rw[hx.aqb];exact .nil
       ·cases hl
       ·cases hl⟩
      obtain⟨w',g1,g2⟩:=afN (P:=P) (t:=t) (p:=p) h hpr hid (by have:=hr.1;simpa using this) hr.one (aI b1) (avg b2) (avg b3)
       (fun us0 h0=>acC hd h0 hrQ)
      exact⟨w',β,g1,g2⟩
    ·cases hs
  ·cases hs
 ·cases hs
end
end Go.VS
namespace Go.VS
open Go
section
variable {P:Program} {B:anT} {β β':Beta} {H:Hp} {stk:List (Array Value)} {s:S} {a:Act} {w w':World}
structure Src (P:Program) (w:World) (β:Beta) (k:K) (ys:List (Tof k)) (v:Value) (news:List Value):Prop where
 len: ∀ w',(azd v).run P w'= .ok ys.length w'
 cells: ∀ w',w'.heap=w.heap→(av1 (ks k) ys.length v).run P w'= .ok news.toArray w'
 rel:RL (RC w β) (ys.flatMap (enc k)) news
 anO: ∀ n,n≤ys.length→(av1 (ks k) n v).run P w= .ok (news.take (n * ks k)).toArray w
def aho{w w':World}(h:w'.heap=w.heap)(a:Addr):w'.cell? a=w.cell? a:=by simp only[ayw,h]
def ap9.cellsOf{k:K}{xs:List (Tof k)}{v:Value}(h:ap9 w β k xs v):(∃ a cap,xs=[]∧v= .slice a 0 cap)∨ ∃ b f cap,∃ us:List Value,v= .slice (some ⟨b,f,none⟩) xs.length cap∧xs.length≤cap∧RL (RC w β) (xs.flatMap (enc k)) us∧ ∀ (j:Nat) (u:Value),us[j]? =some u→w.cell? ⟨b,f+j,none⟩=some u:=by
 rcases h with⟨rfl,a,cap,rfl⟩ | ⟨b,f,cap,u,rfl,hc,hu,hr⟩
 ·exact .inl ⟨a,cap,rfl,rfl⟩
 ·have hk:=qk k;refine .inr ⟨b,f,cap,(au9 (xs.length * ks k)).map fun q=>u (q / ks k) (q % ks k),rfl,hc,⟨by rw[fv,avK,List.length_range],fun j c v h1 h2=> ?_⟩,fun j v h2=> ?_⟩
  ·simp only[avz,avc]at h2;obtain⟨q,hq,rfl⟩:=h2;have hlt:j < xs.length * ks k:=by have:=(auR.1 hq).1;simpa using this
   rw[av3 hlt]at hq;cases hq;have hi:j / ks k < xs.length:=by rw[ayW hk];exact hlt
   have hm:j % ks k < ks k:=ayi _ hk;have hx:xs[j / ks k]? =some xs[j / ks k]:=by simp[hi]
   refine hr _ _ _ _ hx ?_;rw[← M6 hx hm,Nat.mul_comm,Nat.div_add_mod];exact h1
  ·simp only[avz,avc]at h2;obtain⟨q,hq,rfl⟩:=h2;have hlt:j < xs.length * ks k:=by have:=(auR.1 hq).1;simpa using this
   rw[av3 hlt]at hq;cases hq;have hi:j / ks k < xs.length:=by rw[ayW hk];exact hlt
   have hm:j % ks k < ks k:=ayi _ hk;have:=hu _ _ hi hm;rw[Nat.mul_comm,Nat.div_add_mod]at this;exact this
def abo(hH:Hs B β H w){k:K}{c:AV}{v:Value}{ys:List (Tof k)}(h:Tt H k c=some ys)(hx:R2 w β c v): ∃ news,Src P w β k ys v news:=by
 unfold Tt at h;split at h
 ·rename_i s;split at h
  ·cases h;have hv:v= .string s:=hx;subst hv;have hlen:(aL s).length=s.size:=by rw[aL,avK,avE];rfl
   refine⟨s.data.toList.map fun b=>Value.int .u8 b.toNat,fun w'=>by rw[hlen];rfl,fun w' _=> ?_, ?_,fun n hn=> ?_⟩
   ·rw[hlen];simp only[av1,awp];congr 1;apply Array.ext';have:(s.extract 0 s.size).data=s.data:=by
     simp only[ax9];rw[show s.size=s.data.size from rfl,Array.extract_size]
    rw[this];simp
   ·refine⟨by rw[fv,hlen,avK,avE];simp[ks],fun j c u h1 h2=> ?_⟩;simp only[avz,avc]at h2;obtain⟨y,hy,rfl⟩:=h2;have hx:(aL s)[j]? =some (y.toNat:Int):=by simp[aL,hy]
    have:=M6 (k:= .u8) hx (j:=0) (by decide);rw[show j * ks .u8+0=j by simp[ks],h1]at this;cases this;exact .lit rfl
   ·simp only[av1,awp];congr 1;apply Array.ext';simp[ax9,ks]
  ·cases h
 ·rcases(afn hH h hx).cellsOf with⟨a,cap,rfl,rfl⟩ | ⟨b,f,cap,us,rfl,hc,hr,hu⟩
  ·refine⟨[],fun w'=>rfl,fun w' _=> ?_, ?_,fun n hn=> ?_⟩
   ·cases a with
    | none=>rfl
    | some a=>simp[av1,loadCells,loadCellsFrom]
   ·exact RL.nil
   ·obtain rfl:n=0:=by simpa using hn
    cases a with
    | none=>simp[av1]
    | some a=>simp[av1,loadCells,loadCellsFrom]
  ·refine⟨us,fun w'=>rfl,fun w' hw=> ?_,hr,fun n hn=> ?_⟩;have hl:us.length=ys.length * ks k:=by rw[hr.1,fv]
   exact run_firstCells_some w' (ks k) _ ⟨b,f,none⟩ _ cap us hl (fun j u hj=>by rw[awy,aho hw];exact hu j u hj);have hl:us.length=ys.length * ks k:=by rw[hr.1,fv]
   have hle:n * ks k≤ys.length * ks k:=avu _ hn;exact run_firstCells_some w (ks k) n ⟨b,f,none⟩ _ cap (us.take (n * ks k)) (by simp;omega) (fun j u hj=>by
    rw[awy];rw[av7]at hj;split at hj
    ·exact hu j u hj
    ·cases hj)
def AG{t u ty e:TypeId}{d:TypeDesc}{i:TypeInfo}(ht:P.underlying t=some (.slice e))(hu:P.underlying u=some d)(hd:d= .string∨ ∃ e',d= .slice e')(hi:P.info? e=some i){base:Option Addr}{sLen sCap n:Nat}{v:Value}{news:List Value}
  (hl: ∀ w',(azd v).run P w'= .ok n w')(hf: ∀ w',w'.heap=w.heap→(av1 i.size n v).run P w'= .ok news.toArray w')(hn:sLen+n≤sCap){w':World}
  (hst: ∀ a,base=some a→(storeCells (a.add (sLen * i.size)) news).run P w= .ok () w')(hno:base=none→w'=w):
  (awO #[t,u] ty #[.slice base sLen sCap,v]).run P w= .ok (.slice base (sLen+n) sCap) w':=by
 have h1:=hl w;have h2:=hf w rfl;cases base with
 | none=>
  obtain rfl:=hno rfl;rcases hd with rfl | ⟨e',rfl⟩<;>simp[awO,run_underlying ht,run_underlying hu,sizeOf,typeInfo,hi,h1,hn,h2]
 | some a=>
  have h3:=hst a rfl;rcases hd with rfl | ⟨e',rfl⟩<;>simp[awO,run_underlying ht,run_underlying hu,sizeOf,typeInfo,hi,h1,hn,h2,h3]
def FM{t u ty e:TypeId}{d:TypeDesc}{i:TypeInfo}{z:Value}(ht:P.underlying t=some (.slice e))(hu:P.underlying u=some d)(hd:d= .string∨ ∃ e',d= .slice e')(hi:P.info? e=some i)(hz:i.zero=some z){base:Option Addr}{sLen sCap n:Nat}{v:Value}{news olds:List Value}
  (hl: ∀ w',(azd v).run P w'= .ok n w')(hf: ∀ w',w'.heap=w.heap→(av1 i.size n v).run P w'= .ok news.toArray w')(hn:sCap < sLen+n)(h63:((sLen+n:Nat):Int)≤9223372036854775807)(apc:ayj (sLen+n) sCap * i.bytes≤281474976710656)
  (ho:(av1 i.size sLen (.slice base sLen sCap)).run P w.drew= .ok olds.toArray w.drew):
  (awO #[t,u] ty #[.slice base sLen sCap,v]).run P w= .ok (.slice (some ⟨w.heap.size,0,none⟩) (sLen+n) (grownCap w (sLen+n) sCap e))
    (w.drew.alloc (.cells (olds.toArray++news.toArray++awI z.cells (grownCap w (sLen+n) sCap e - (sLen+n))) e)):=by
 have hn': ¬ (sLen+n≤sCap):=by omega
 have auf: ¬ (9223372036854775807 < ((sLen:Int)+(n:Int))):=by omega
 have aug: ¬ (281474976710656 < ayj (sLen+n) sCap * i.bytes):=by omega
 have h1:=hl w;have h2:=hf w.drew rfl;rcases hd with rfl | ⟨e',rfl⟩<;>(simp[awO,run_underlying ht,run_underlying hu,sizeOf,typeInfo,zeroValue,hi,hz,h1,hn',auf,aug,Question.forced,h2,ho,newRow,grownCap];try (congr 2;apply Array.ext';simp[au2]))
def Hs.apk(h:Hs B β H w){id:Nat}{hd0:Value}{n0:Nat}(hβ:β id=some (hd0,n0))(ob:Ob)(hd:Value)(n:Nat)
  (hos:w'.os=w.os)(aoy:w'.tape=w.tape)(aoI:w'.output=w.output)(anW:w.heap.size≤w'.heap.size)
  (hold: ∀ j,j < w.heap.size→(∀ a,adr hd0=some a→j≠a.block)→w'.heap[j]? =w.heap[j]?)
  (ha: ∀ a,adr hd=some a→(∃ a0,adr hd0=some a0∧a0.block=a.block)∨(w.heap.size≤a.block∧a.block < w'.heap.size))
  (hob: ∀ β',β' id=some (hd,n)→Kf (kl1 id) w β w' β'→aoo B.P w' β' id ob)(hpk:Pk B.P w w'):
  ∃ β',Hs B β' (upd (fun j=>iY (kl1 id) (H j)) id (some ob)) w'∧Kf (kl1 id) w β w' β'∧β' id=some (hd,n):=by
 have hM: ∀ b,MB (β.up id (some (hd,n))) b→MB β b∨w.heap.size≤b:=by
  rintro b ⟨j,hd',n',a',hj,ha',hb⟩;by_cases e:j=id
  ·subst e;rw[Beta.aox]at hj;cases hj;rcases ha a' ha' with⟨a0,h1,h2⟩ | h1
   ·exact .inl ⟨j,hd0,n0,a0,hβ,h1,h2.trans hb⟩
   ·exact .inr (hb▸h1.1)
  ·rw[Beta.aoT _ _ e]at hj;exact .inl ⟨j,hd',n',a',hj,ha',hb⟩
 have hk:Kf (kl1 id) w β w' (β.up id (some (hd,n))):=Kf.kill (fun j e=>aM _ _ e)
  (fun b o v hb hc=>by
   rw[ayf (w:=w) (w':=w') (hold b (ax3 w _ hc) (fun a0 h0 e=>hb (.inl ⟨id,hd0,n0,a0,hβ,h0,e.symm⟩)))];exact hc)
  (fun b hb hlt hm=>by
   rcases hm with hm | hm
   ·rcases hM b hm with h1 | h1
    ·exact hb (.inl h1)
    ·omega
   ·exact hb (.inr hm))
 refine⟨β.up id (some (hd,n)), ?_,hk,aD _ _ _⟩;refine h.aqW (gz id) hk (fun j e=>aM _ _ e)
  (.inr ⟨ob,hd,n,rfl,aD _ _ _,hob _ (aD _ _ _) hk,fun a h2=> ?_⟩)
  (fun j p a e hj h2=>hold _ (h.old _ ⟨j,p.1,p.2,a,hj,h2,rfl⟩).2 (fun a0 h0 e'=>e (h.inj _ _ _ _ _ _ hj hβ h2 h0 e'))) hos aoy aoI anW (fun b hb hO=>hold b (av8 hb h.size) (fun a0 h0 e=> ?_)) rfl hpk
 ·rcases ha a h2 with⟨a0,h3,h4⟩ | h3
  ·exact .inl ⟨_,a0,hβ,h3,h4⟩
  ·exact .inr h3
 ·rcases(h.old a0.block ⟨id,hd0,n0,a0,hβ,h0,rfl⟩).1 with h3 | h3
  ·exact hO (e▸h3)
  ·omega
def ane{ary cap bytes:Nat}(h:cap < ary)(hn:ary≤4294967296)(hb:bytes≤256):ayj ary cap * bytes≤281474976710656:=by
 refine growslice_fits h ?_;have:ary * bytes≤4294967296 * 256:=ayV hn hb;omega
def aev(z:Array Value)(n:Nat):(awI z n).size=n * z.size:=by simp[awI]
def SO(hP:P=B.P)(hH:Hs B β H w){b:Nat}(hb:H b=none){t u ty e:TypeId}{k:K}{d:TypeDesc}{v:Value}{ys:List (Tof k)}{news:List Value}(ht:P.underlying t=some (.slice e))(hu:P.underlying u=some d)(hd:d= .string∨ ∃ e',d= .slice e')
  (hz:zok P e k=true)(hc:P.cellsOf e=ks k)(hby:P.bytesOf e≤256)(hs:Src P w β k ys v news)(hr:ys.length≤4294967296):
  ∃ u' w' β',(awO #[t,u] ty #[.slice none 0 0,v]).run P w= .ok u' w'∧Hs B β' (upd H b (some (.row e false k ys))) w'∧Kp w β w' β'∧RC w' β' (.own b) u':=by
 obtain⟨i,z,hi,hz',hzs,_⟩:=SP hz;rw[tu hi]at hc;rw[DP hi]at hby;by_cases h0:ys=[]
 ·subst h0;have an2:=AG (P:=P) (w:=w) (ty:=ty) (base:=none) (sLen:=0) (sCap:=0) (n:=0) (v:=v) (news:=news) (w':=w) ht hu hd hi hs.len (by rw[hc];exact hs.cells) (by omega) (fun a h=>by cases h) (fun _=>rfl);obtain⟨β',h1,h2,h3⟩:=hH.grow (w':=w) hb (.row e false k []) (.slice none 0 0) 0 rfl rfl rfl (auS _) (fun _ _=>rfl) (fun a h=>by cases h) (fun β' hβ hk=>⟨_,hβ,.inl ⟨rfl,rfl⟩⟩);exact⟨_,_,β',an2,h1,h2,.own h3 rfl⟩
 ·have asb:0 < ys.length:=by cases ys with
   | nil=>exact absurd rfl h0
   | cons y l=>simp
  have an2:=FM (P:=P) (w:=w) (ty:=ty) (base:=none) (sLen:=0) (sCap:=0) (n:=ys.length) (v:=v) (news:=news) (olds:=[]) ht hu hd hi hz' hs.len (by rw[hc];exact hs.cells) (by omega) (by omega) (ane (by omega) (by omega) hby) (by simp[av1]);have hn:news.length=ys.length * ks k:=by rw[hs.rel.1,fv]
  rw[avV]at an2;have hge:=grownCap_ge w ys.length 0 e;have hm:=grownCap_le_maxLen w ys.length 0 e (avr hr (by decide));have hob: ∀ β',β' b=some (azr (some ⟨w.heap.size,0,none⟩) ys.length (grownCap w ys.length 0 e),ys.length)→Kp w β (w.drew.alloc (.cells (([]:List Value).toArray++news.toArray++awI z.cells (grownCap w ys.length 0 e - ys.length)) e)) β'→
    aoo B.P (w.drew.alloc (.cells (([]:List Value).toArray++news.toArray++awI z.cells (grownCap w ys.length 0 e - ys.length)) e)) β' b (.row e false k ys):=by
   intro β' hβ hk;refine⟨_,hβ,.inr ⟨w.heap.size,0,_,_,_,rfl,heap_alloc_new w.drew _,rfl,hge,hm, ?_,fun i x j c u a1 a2 a3=> ?_⟩⟩
   ·simp only[ax5,aev,hzs,awH,hn,avf];rw[ayQ];have:ys.length * ks k≤grownCap w ys.length 0 e * ks k:=avu _ hge;omega
   ·have hj:j < ks k:=by rw[← bG k x];exact(auR.1 a2).1
    have hi':i < ys.length:=(auR.1 a1).1;have hlt:i * ks k+j < news.length:=by rw[hn];exact nf hi' hj
    refine hk _ _ (Cl hs.rel i x j c u a1 a2 ?_);rw[awC (by simp;omega)]at a3;simpa using a3
  obtain⟨β',h1,h2,h3⟩:=hH.grow (w':=w.drew.alloc (.cells (([]:List Value).toArray++news.toArray++awI z.cells (grownCap w ys.length 0 e - ys.length)) e)) hb (.row e false k ys) (.slice (some ⟨w.heap.size,0,none⟩) ys.length (grownCap w ys.length 0 e)) ys.length rfl rfl rfl (by simp)
   (fun j hj=>heap_alloc_old w.drew _ hj) (fun a ha=>by cases ha;simp) hob
  exact⟨_,_,β',an2,h1,h2,.own h3 rfl⟩
def SN(hP:P=B.P)(hH:Hs B β H w){id:Nat}{t u ty e:TypeId}{k:K}{d:TypeDesc}{v hd:Value}{xs ys:List (Tof k)}{news:List Value}(hid:H id=some (.row e false k xs))(hb:RC w β (.own id) hd)
  (ht:P.underlying t=some (.slice e))(hu:P.underlying u=some d)(hd':d= .string∨ ∃ e',d= .slice e')
  (hz:zok P e k=true)(hc:P.cellsOf e=ks k)(hby:P.bytesOf e≤256)(hs:Src P w β k ys v news)(hr:xs.length+ys.length≤4294967296):
  ∃ u' w' β',(awO #[t,u] ty #[hd,v]).run P w= .ok u' w'∧Hs B β' (upd (fun j=>iY (kl1 id) (H j)) id (some (.row e false k (xs++ys)))) w'∧Kf (kl1 id) w β w' β'∧RC w' β' (.own id) u':=by
 obtain⟨i,z,hi,hz',hzs,_⟩:=SP hz;rw[tu hi]at hc;rw[DP hi]at hby;obtain⟨hd0,k1,k2⟩:=hH.aoq id _ hid;cases hb with
 | own k3 k4=>
 rw[k1]at k3;cases k3;have hn:news.length=ys.length * ks k:=by rw[hs.rel.1,fv]
 have hkp:=qk k;have grow: ∀ (base:Option Addr) (cap:Nat) (olds:List Value),hd= .slice base xs.length cap→cap < xs.length+ys.length→RL (RC w β) (xs.flatMap (enc k)) olds→
   (av1 i.size xs.length (.slice base xs.length cap)).run P w.drew= .ok olds.toArray w.drew→
   ∃ u' w' β',(awO #[t,u] ty #[hd,v]).run P w= .ok u' w'∧Hs B β' (upd (fun j=>iY (kl1 id) (H j)) id (some (.row e false k (xs++ys)))) w'∧Kf (kl1 id) w β w' β'∧RC w' β' (.own id) u':=by
  intro base cap olds he ape hold hfc;have an2:=FM (P:=P) (w:=w) (ty:=ty) (base:=base) (sLen:=xs.length) (sCap:=cap) (n:=ys.length) (v:=v) (news:=news) (olds:=olds) ht hu hd' hi hz' hs.len (by rw[hc];exact hs.cells) ape (by omega) (ane ape hr hby) hfc;have hge:=grownCap_ge w (xs.length+ys.length) cap e;have hm:=grownCap_le_maxLen w (xs.length+ys.length) cap e (avr hr (by decide));have ho:olds.length=xs.length * ks k:=by rw[hold.1,fv]
  have aom:RL (RC w β) ((xs++ys).flatMap (enc k)) (olds++news):=by rw[azi];exact hold.append hs.rel
  have hob: ∀ β',β' id=some (azr (some ⟨w.heap.size,0,none⟩) (xs.length+ys.length) (grownCap w (xs.length+ys.length) cap e),xs.length+ys.length)→Kf (kl1 id) w β (w.drew.alloc (.cells (olds.toArray++news.toArray++awI z.cells (grownCap w (xs.length+ys.length) cap e - (xs.length+ys.length))) e)) β'→
    aoo B.P (w.drew.alloc (.cells (olds.toArray++news.toArray++awI z.cells (grownCap w (xs.length+ys.length) cap e - (xs.length+ys.length))) e)) β' id (.row e false k (xs++ys)):=by
   intro β' hβ hk;refine⟨_,by rw[hβ,auP],.inr ⟨w.heap.size,0,_,_,_,by rw[auP],heap_alloc_new w.drew _,rfl,by rw[auP];exact hge,hm, ?_,fun i x j c u a1 a2 a3=> ?_⟩⟩
   ·simp only[ax5,aev,hzs,awH,hn,ho];rw[ayQ];have h1:(xs.length+ys.length) * ks k≤grownCap w (xs.length+ys.length) cap e * ks k:=avu _ hge;rw[av4]at h1 ⊢;omega
   ·have hj:j < ks k:=by rw[← bG k x];exact(auR.1 a2).1
    have hi':i < xs.length+ys.length:=by have:=(auR.1 a1).1;simpa using this
    have hlt:i * ks k+j < (xs.length+ys.length) * ks k:=nf hi' hj;rw[av4]at hlt;have h2:=hk _ _ (Cl aom i x j c u a1 a2 (by
     rw[awC (by simp;omega)]at a3;simpa using a3))
    rwa[gz id c (fL k x a2)]at h2
  obtain⟨β',h1,h2,h3⟩:=hH.apk (hpk:=Pk.old fun j hj=>by first | exact heap_alloc_old w.drew _ hj | exact heap_alloc_old w.drew _ _ hj) (w':=w.drew.alloc (.cells (olds.toArray++news.toArray++awI z.cells (grownCap w (xs.length+ys.length) cap e - (xs.length+ys.length))) e)) k1 (.row e false k (xs++ys)) (.slice (some ⟨w.heap.size,0,none⟩) (xs.length+ys.length) (grownCap w (xs.length+ys.length) cap e)) (xs.length+ys.length) rfl rfl rfl (by simp)
   (fun j hj _=>heap_alloc_old w.drew _ hj) (fun a ha=>by cases ha;right;simp) hob
  exact⟨_,_,β',by rw[he];exact an2,h1,h2,.own h3 rfl⟩
 rcases k2 with⟨rfl,rfl⟩ | ⟨b,f,cap,us,fr,rfl,hh,hfr,hnc,hcm,hsz,anR⟩
 ·by_cases h0:ys=[]
  ·subst h0;have an2:=AG (P:=P) (w:=w) (ty:=ty) (base:=none) (sLen:=0) (sCap:=0) (n:=0) (v:=v) (news:=news) (w':=w) ht hu hd' hi hs.len (by rw[hc];exact hs.cells) (by omega) (fun a h=>by cases h) (fun _=>rfl);obtain⟨β',h1,h2,h3⟩:=hH.apk (hpk:=Pk.refl _ _) (w':=w) k1 (.row e false k ([]++[])) (.slice none 0 0) 0 rfl rfl rfl (auS _) (fun _ _ _=>rfl) (fun a h=>by cases h) (fun β' hβ hk=>⟨_,hβ,.inl ⟨rfl,rfl⟩⟩);exact⟨_,_,β',an2,h1,h2,.own h3 rfl⟩
  ·have asb:0 < ys.length:=by cases ys with
    | nil=>exact absurd rfl h0
    | cons y l=>simp
   exact grow none 0 [] rfl (by simp;omega) RL.nil (by simp[av1])
 ·have hsl:ap9 w β k xs (.slice (some ⟨b,f,none⟩) xs.length cap):=anZ.cells (e:=e) (fz:=false) (.inr ⟨b,f,cap,us,fr,rfl,hh,hfr,hnc,hcm,hsz,anR⟩);by_cases apc:xs.length+ys.length≤cap
  ·have ape:(xs.length+ys.length) * ks k≤cap * ks k:=avu _ apc;rw[av4]at ape;have aob: ∀ u∈news,u.oneCell'=true:=hs.rel.one;have hst:=CX (P:=P) b (f+xs.length * ks k) e fr news 0 us w hh (by rw[hn];omega) (.inl (by rw[hfr];rfl)) aob;simp only[awR]at hst;have an2:=AG (P:=P) (w:=w) (ty:=ty) (base:=some ⟨b,f,none⟩) (sLen:=xs.length) (sCap:=cap) (n:=ys.length) (v:=v) (news:=news) ht hu hd' hi hs.len (by rw[hc];exact hs.cells) apc
    (fun a h=>by cases h;rw[hc,awy];exact hst) (fun h=>by cases h)
   have hob: ∀ β',β' id=some (azr (some ⟨b,f,none⟩) (xs.length+ys.length) cap,xs.length+ys.length)→Kf (kl1 id) w β (w.setRow b (us.toList.take (f+xs.length * ks k)++news++us.toList.drop (f+xs.length * ks k+news.length)).toArray) β'→
     aoo B.P (w.setRow b (us.toList.take (f+xs.length * ks k)++news++us.toList.drop (f+xs.length * ks k+news.length)).toArray) β' id (.row e false k (xs++ys)):=by
    intro β' hβ hk;have anW:(us.toList.take (f+xs.length * ks k)++news++us.toList.drop (f+xs.length * ks k+news.length)).toArray.size=us.size:=by
     simp only[awH,auP,avv,avy,avE];omega
    refine⟨_,by rw[hβ,auP],.inr ⟨b,f,cap,_,fr,by rw[auP],setRow_heap w b us _ e _ hh,by rw[hfr];rfl,by rw[auP];exact apc,hcm,by rw[anW];exact hsz,fun i x j c u a1 a2 a3=> ?_⟩⟩;have hj:j < ks k:=by rw[← bG k x];exact(auR.1 a2).1
    have hi':i < xs.length+ys.length:=by have:=(auR.1 a1).1;simpa using this
    have a3':(us.toList.take (f+xs.length * ks k)++news++us.toList.drop (f+xs.length * ks k+news.length))[f+(i * ks k+j)]? =some u:=by simpa using a3
    have hsp:f+xs.length * ks k+news.length≤us.toList.length   :=by
     have:us.toList.length=us.size:=avE;rw[hn];omega
    rw[SW _ _ _ hsp]at a3';have h2:RC w β c u:=by
     by_cases hx:i < xs.length
     ·have h3:=nf hx hj;rw[aur (by omega)]at a3';rw[avQ hx]at a1;exact anR i x j c u a1 a2 (by simpa using a3')
     ·have h3:xs.length * ks k≤i * ks k:=avu _ (by omega);have h4:i * ks k+j < (xs.length+ys.length) * ks k:=nf hi' hj;rw[av4]at h4;rw[aus (by omega)]at a3';rw[avl (by omega)]at a1;refine Cl hs.rel (i - xs.length) x j c u a1 a2 ?_;rw[← a3',ayQ];congr 1;omega
    have h5:=hk _ _ h2;rwa[gz id c (fL k x a2)]at h5
   obtain⟨β',h1,h2,h3⟩:=hH.apk (hpk:=Pk.setRow hh fun hn=>by rw[← hP,ahF hz]at hn;cases hn) (w':=w.setRow b (us.toList.take (f+xs.length * ks k)++news++us.toList.drop (f+xs.length * ks k+news.length)).toArray) k1 (.row e false k (xs++ys)) (.slice (some ⟨b,f,none⟩) (xs.length+ys.length) cap) (xs.length+ys.length) rfl rfl rfl (by simp)
    (fun j hj hne=>setRow_other w b j _ (fun e=>hne _ rfl e)) (fun a ha=>by cases ha;exact .inl ⟨_,rfl,rfl⟩) hob
   exact⟨_,_,β',an2,h1,h2,.own h3 rfl⟩
  ·rcases hsl.cellsOf with⟨a,arJ,rfl,he⟩ | ⟨b',f',arJ,us',he,_,aor,hcl⟩
   ·cases he;exact grow (some ⟨b,f,none⟩) cap [] rfl (by omega) RL.nil (by simp[av1,loadCells,loadCellsFrom])
   ·cases he;exact grow (some ⟨b,f,none⟩) cap us' rfl (by omega) aor (run_firstCells_some w.drew i.size _ ⟨b,f,none⟩ _ cap us' (by rw[hc,aor.1,fv]) (fun j u hj=>by rw[awy];exact hcl j u hj))
end
end Go.VS
namespace Go.VS
open Go
section
variable {P:Program} {B:anT} {β β':Beta} {H:Hp} {stk:List (Array Value)} {s:S} {a:Act} {w w':World} {kd:TypeId→Option K}
def Yv{k:K}{c:AV}{ys:List (Tof k)}(h:Tt H k c=some ys): ∀ g w x,c≠ .gd g w x:=by
 intro g w x e;subst e;simp[Tt,iT]at h
def aks(s:S)(id:Nat)(ob:Option Ob):s.aop id ob={ s with H:=upd s.H id ob } :=rfl
def acY(hP:P=B.P)(h:St B β stk s a w){b:Nat}(hb:s.H b=none){t u ty:TypeId}{x y:Operand}{q:Bool}{v:AV}{s':S}(hs:tG P kd t u s b (s.ev x) (s.ev y)=some (q,v,s'))(hq:q=true):
  ∃ u' w' β',(awO #[t,u] ty #[a.eval x,a.eval y]).run P w= .ok u' w'∧St B β' stk s' a w'∧R2 w' β' v u'∧s'.gs=s.gs∧s'.n=s.n∧s'.pins=s.pins:=by
 subst hq;unfold tG at hs;cases he:fC P t with
 | none=>rw[he]at hs;cases hs
 | some e=>
 rw[he]at hs;simp only[auE]at hs;cases hk:kd e with
 | none=>rw[hk]at hs;cases hs
 | some k=>
 rw[hk]at hs;simp only[auE]at hs;cases hy:Tt s.H k (s.ev y) with
 | none=>rw[hy]at hs;cases hs
 | some ys=>
 rw[hy]at hs;simp only[auE]at hs;have hy2:R2 w β (s.ev y) (a.eval y):=(h.eval y).of (Yv hy);obtain⟨news,apH⟩:=abo (P:=P) h.hs hy hy2;have ht:=rR he;have conds: ∀ c:Bool,(auW (P.cellsOf e) (ks k)&&awt (P.bytesOf e) 256&&zok P e k&&c)=true→P.cellsOf e=ks k∧P.bytesOf e≤256∧zok P e k=true∧c=true:=by
  intro c hc;simp only[auF]at hc;exact⟨aI hc.1.1.1,avg hc.1.1.2,hc.1.2,hc.2⟩
 have ud:(match P.underlying u with | some .string=>true | some (.slice _)=>true | _=>false)=true→ ∃ d,P.underlying u=some d∧(d= .string∨ ∃ e',d= .slice e'):=by
  intro hc;split at hc
  ·rename_i hu;exact⟨_,hu,.inl rfl⟩
  ·rename_i e' hu;exact⟨_,hu,.inr ⟨e',rfl⟩⟩
  ·cases hc
 have hx:=h.eval x;split at hs
 ·rename_i cx hc hcx;rw[hcx]at hx;obtain⟨c1,c2,c3,c4⟩:=conds _ hc;obtain⟨d,hu,hd⟩:=ud c4;simp only[auU,avs]at hs;obtain⟨hr,rfl,rfl⟩:=hs;simp only[an,decide_eq_true_eq]at hr;obtain⟨u',w',β',g1,g2,g3,g4⟩:=SO (ty:=ty) hP h.hs hb ht hu hd c3 c1 c2 apH hr;rw[hx.lit];exact⟨u',w',β',g1,h.keep g3 g2,g4,rfl,rfl,rfl⟩
 ·rename_i cx id hc hcx;rw[hcx]at hx;have hx:RC w β (.own id) (a.eval x):=hx;obtain⟨c1,c2,c3,c4⟩:=conds _ hc;obtain⟨d,hu,hd⟩:=ud c4;split at hs
  ·rename_i e' k' xs hid hne;split at hs
   ·rename_i hee;obtain rfl:=aI hee;cases aqH:CE k' k xs with
    | none=>rw[aqH]at hs;cases hs
    | some xs'=>
     rw[aqH]at hs;obtain⟨ek,rfl⟩:=gW aqH;subst ek;simp only[auE,auU,avs]at hs;obtain⟨hr,rfl,rfl⟩:=hs;simp only[an,decide_eq_true_eq]at hr;obtain⟨u',w',β',g1,g2,g3,g4⟩:=SN (ty:=ty) hP h.hs hid hx ht hu hd c3 c1 c2 apH hr;exact⟨u',w',β',g1,h.map (gz id) (Kq id) g3 g2,g4,rfl,rfl,rfl⟩
   ·cases hs
  ·cases hs
 ·cases hs
def ahm(hP:P=B.P)(h:St B β stk s a w){t u ty:TypeId}{x y:Operand}{v:AV}{s':S}(hs:Ju P t s (s.ev x) (s.ev y)=some (v,s')):
  ∃ u' w' β',(aze #[t,u] ty #[a.eval x,a.eval y]).run P w= .ok u' w'∧St B β' stk s' a w'∧R2 w' β' v u'∧s'.gs=s.gs∧s'.n=s.n∧s'.pins=s.pins:=by
 unfold Ju at hs;have hx:=h.eval x;split at hs
 ·rename_i cx id hcx;rw[hcx]at hx;have hx:RC w β (.own id) (a.eval x):=hx;split at hs
  ·rename_i e fz k xs hid hne;cases he:fC P t with
   | none=>rw[he]at hs;cases hs
   | some e'=>
    rw[he]at hs;simp only[auE]at hs;split at hs
    ·rename_i hc;have hc:=aI hc;cases hy:Tt s.H k (s.ev y) with
     | none=>rw[hy]at hs;cases hs
     | some ys=>
      rw[hy]at hs;simp only[auE,auU,avs]at hs;obtain⟨rfl,rfl⟩:=hs;have hy2:R2 w β (s.ev y) (a.eval y):=(h.eval y).of (Yv hy);obtain⟨news,apH⟩:=abo (P:=P) h.hs hy hy2;have ht:=rR he;have hk:=qk k;have hn:news.length=ys.length * ks k:=by rw[apH.rel.1,fv]
      obtain⟨hd,k1,k2⟩:=h.hs.aoq id _ hid;generalize hg:a.eval x=vx at hx;cases hx with
      | own k3 k4=>
      rw[k1]at k3;cases k3;have hfc:=apH.anO (awD ys.length xs.length) (Nat.min_le_left _ _);have hlen:=apH.len w;rcases k2 with⟨rfl,rfl⟩ | ⟨b,f,cap,us,fr,rfl,hh,hfr,hnc,hcm,hsz,anR⟩
      ·refine⟨.int .i64 (awD ys.length 0:Nat),w,β, ?_, ?_,rfl,rfl,rfl,rfl⟩
       ·have hfc:=apH.anO 0 (avM _);simp[aze,run_underlying ht,hlen,nb (P:=P) (w:=w) (t:=e') (by omega),hc,hfc,goInt]
       ·have:s.aop id (some (.row e fz k (ys.take ([]:List (Tof k)).length++([]:List (Tof k)).drop ys.length)))=s:=by
         simp only[avf,List.take_zero,List.drop_nil,avj,aks];rw[← hid];have:upd s.H id (s.H id)=s.H:=funext fun j=>by
          by_cases e:j=id
          ·subst e;rw[aD]
          ·rw[aM _ _ e]
         rw[this]
        rw[this];exact h
      ·have asl:awD ys.length xs.length≤xs.length:=Nat.min_le_right _ _;have asj:awD ys.length xs.length≤ys.length:=Nat.min_le_left _ _;have h1:awD ys.length xs.length * ks k≤xs.length * ks k:=avu _ asl;have h2:xs.length * ks k≤cap * ks k:=avu _ hnc;have h3:awD ys.length xs.length * ks k≤ys.length * ks k:=avu _ asj;have aob: ∀ u∈news.take (awD ys.length xs.length * ks k),u.oneCell'=true:=fun u hu=>apH.rel.one u (av6 hu);have htl:(news.take (awD ys.length xs.length * ks k)).length=awD ys.length xs.length * ks k:=by rw[avv,hn];omega
       have hst:=CX (P:=P) b f e fr (news.take (awD ys.length xs.length * ks k)) 0 us w hh (by rw[htl];omega) (by
        subst hfr;cases fz
        ·exact .inl rfl
        ·exact .inr (auS _)) aob
       simp only[awR]at hst;obtain⟨g1,g2⟩:=h.hs.setRow (hpk:=Pk.setRow hh fun _ a' hu=>by
        have hus:us.toList.length=us.size:=avE;refine Lx (ys:=news.take (awD ys.length xs.length * ks k)) (by rw[htl];omega) (by simpa using hu) fun e1 e2=>TG anR (fun e3=>e2 ?_) e1 hu;subst e3;exact avi (by rw[htl];simp)) k1 rfl (us.toList.take f++news.take (awD ys.length xs.length * ks k)++us.toList.drop (f+(news.take (awD ys.length xs.length * ks k)).length)).toArray (.row e fz k (ys.take xs.length++xs.drop ys.length)) (fun hkp=>by
        have anW:(us.toList.take f++news.take (awD ys.length xs.length * ks k)++us.toList.drop (f+(news.take (awD ys.length xs.length * ks k)).length)).toArray.size=us.size:=by
         simp only[awH,auP,avy,htl,avv,avE]at *;omega
        have hll:(ys.take xs.length++xs.drop ys.length).length=xs.length:=by simp;omega
        refine⟨_,by rw[k1,hll],.inr ⟨b,f,cap,_,fr,by rw[hll],setRow_heap w b us _ e _ hh,by rw[anW];exact hfr,by rw[hll];exact hnc,hcm,by rw[anW];exact hsz,fun i x j c u a1 a2 a3=> ?_⟩⟩;have hj:j < ks k:=by rw[← bG k x];exact(auR.1 a2).1
        have hi':i < xs.length:=by have:=(auR.1 a1).1;rwa[hll]at this
        have a3':(us.toList.take f++news.take (awD ys.length xs.length * ks k)++us.toList.drop (f+(news.take (awD ys.length xs.length * ks k)).length))[f+(i * ks k+j)]? =some u:=by simpa using a3
        have hsp:f+(news.take (awD ys.length xs.length * ks k)).length≤us.toList.length:=by
         have:us.toList.length=us.size:=avE;rw[htl];omega
        rw[SW _ _ _ hsp,htl]at a3';refine hkp _ _ ?_;by_cases hy':i < ys.length
        ·have hm:i < awD ys.length xs.length:=Nat.lt_min.2 ⟨hy',hi'⟩;have hm2:=nf hm hj;rw[aus (by omega),av7,aus (by omega)]at a3';rw[avQ (by simp;omega),av7,aus hi']at a1;refine Cl apH.rel i x j c u a1 a2 ?_;rw[← a3'];congr 1;omega
        ·have hm:awD ys.length xs.length=ys.length:=aye (by omega);have hm2:ys.length * ks k≤i * ks k:=avu _ (by omega);rw[hm]at a3';rw[aur (by omega)]at a3';have e1:(ys.take xs.length).length=ys.length:=by simp;omega
         rw[avl (by omega),e1,awh]at a1;have a1':xs[i]? =some x:=by rw[← a1];congr 1;omega
         exact anR i x j c u a1' a2 (by simpa using a3'))
       refine⟨.int .i64 (awD ys.length xs.length:Nat),_,β, ?_,h.keep g2 g1,rfl,rfl,rfl,rfl⟩;simp only[aze,axK,ax4,ayN,awb,run_underlying ht,avP,hlen,nb (P:=P) (w:=w) (t:=e') (by omega),hc,hfc,awp,hst,goInt]
    ·cases hs
  ·cases hs
 ·cases hs
def anZ.cut{e:TypeId}{fz:Bool}{k:K}{xs ys:List (Tof k)}{bb f cap l h:Nat}(hy:ys=(xs.take h).drop l)(hlh:l≤h)(hh:h≤xs.length)(hx:anZ w β e fz k xs (.slice (some ⟨bb,f,none⟩) xs.length cap)):
  anZ w β e fz k ys (.slice (if cap=l then some ⟨bb,f,none⟩ else some ⟨bb,f+l * ks k,none⟩) (h - l) (cap - l)):=by
 rcases hx with⟨h1,_⟩ | ⟨b',f',arJ,us,fr,h1,hhp,hfr,hnc,hcm,hsz,anR⟩
 ·cases h1
 ·cases h1;have hyl:ys.length=h - l:=by subst hy;simp;omega
  by_cases he:cap=l
  ·rw[aus he];obtain rfl:ys=[]:=avi (by omega);refine .inr ⟨bb,f,cap - l,us,fr,by rw[hyl],hhp,hfr,by simp,by omega, ?_,fun i x j c u a1=>by simp at a1⟩;have:(cap - l) * ks k≤cap * ks k:=avu _ (by omega);omega
  ·rw[aur he];refine .inr ⟨bb,f+l * ks k,cap - l,us,fr,by rw[hyl],hhp,hfr,by omega,by omega, ?_,fun i x j c u a1 a2 a3=> ?_⟩
   ·have:(cap - l) * ks k=cap * ks k - l * ks k:=ayQ _ _ _;have:l * ks k≤cap * ks k:=avu _ (by omega);omega
   ·subst hy;rw[awh,av7]at a1;split at a1
    ·refine anR (l+i) x j c u a1 a2 ?_;rw[← a3,av4];congr 1;omega
    ·cases a1
def W8(h:St B β stk s a w){id:Nat}{x:Operand}{t:TypeId}{lo hi:Option Operand}{z:Bool}(hx:s.ev x= .own id)(hf:gw P s.H t (.own id)=true){q:Bool}{v:AV}{s':S}
  (hs:mY s id z (lo.map s.ev) (hi.map s.ev)=some (q,v,s'))(hq:q=true):
  ∃ u' β',(axP t (a.eval x) (lo.map a.eval) (hi.map a.eval) none).run P w= .ok u' w∧St B β' stk s' a w∧R2 w β' v u'∧s'.gs=s.gs∧s'.n=s.n∧s'.pins=s.pins:=by
 subst hq;have hxv:=h.eval x;rw[hx]at hxv;have hxv:RC w β (.own id) (a.eval x):=hxv;unfold mY at hs;split at hs
 ·rename_i e fz k xs hid;obtain⟨e',hu,hk⟩: ∃ e',P.underlying t=some (.slice e')∧P.cellsOf e'=ks k:=by
   unfold gw at hf;split at hf<;>simp_all
  have hkp:=qk k;obtain⟨hd,k1,k2⟩:=h.hs.aoq id _ hid;obtain⟨a0,cap,hv,ape⟩:=k2.cells.len;have aog:a.eval x=hd:=by
   generalize a.eval x=vx at hxv;cases hxv with
   | own k3 k4=>rw[k1]at k3;cases k3;rfl
  cases hc:Sp (lo.map s.ev) (hi.map s.ev) xs.length with
  | none=>rw[hc]at hs;cases hs
  | some r=>
   obtain⟨c,l,hh⟩:=r;rw[hc]at hs;simp only[auE]at hs;have main:c=true→ ∃ bs,(axP t (a.eval x) (lo.map a.eval) (hi.map a.eval) none).run P w= .ok bs w∧0≤l∧l≤hh∧hh≤(xs.length:Int)∧bs= .slice (if cap=l.toNat then a0 else a0.map (·.add (l.toNat * ks k))) (hh.toNat - l.toNat) (cap - l.toNat):=by
    intro hct;subst hct;obtain⟨hb,g1,g2,g3⟩:=Ax (P:=P) (w:=w) (β:=β) (tm:=dW a) h.eval hc true ape;refine⟨_, ?_,g1,g2,g3,rfl⟩;rw[aog,hv,FL hu (by omega) hb,hk]
   have as6:c=true→PV (lo.map s.ev) (hi.map s.ev) l hh xs=(xs.take hh.toNat).drop l.toNat:=by
    intro hct;subst hct;exact aaO hc
   split at hs
   ·simp only[auU,avs]at hs;obtain⟨hct,rfl,rfl⟩:=hs;obtain⟨bs,an2,g1,g2,g3,hbs⟩:=main hct;have hys:=as6 hct;have hlen:(PV (lo.map s.ev) (hi.map s.ev) l hh xs).length=hh.toNat - l.toNat:=by rw[hys];simp;omega
    have aua:agL bs=true:=by rw[hbs];rfl
    obtain⟨β',q1,q2,q3⟩:=h.hs.apk (hpk:=Pk.refl _ _) (w':=w) k1 (.row e fz k (PV (lo.map s.ev) (hi.map s.ev) l hh xs)) bs (hh.toNat - l.toNat) rfl rfl rfl (auS _) (fun _ _ _=>rfl) (fun a' ha'=>by
      left;rw[hbs]at ha';cases a0 with
      | none=>exfalso;split at ha'<;>cases ha'
      | some aa=>
       refine⟨aa,by rw[hv];rfl, ?_⟩;split at ha'
       ·cases ha';rfl
       ·cases ha';rcases k2 with⟨e1,_⟩ | ⟨b',f',arJ,us,fr,e1,_⟩
        ·rw[hv]at e1;cases e1
        ·rw[hv]at e1;simp only[Value.slice.injEq,auU]at e1;obtain⟨rfl,_⟩:=e1;simp[awy])
     (fun β' hβ hkf=>by
      refine⟨bs,by rw[hβ,hlen], ?_⟩;rw[hbs];rcases k2 with⟨e1,e2⟩ | ⟨b',f',arJ,us,fr,e1,hhp,hfr,hnc,hcm,hsz,anR⟩
      ·rw[hv]at e1;simp only[Value.slice.injEq]at e1;obtain⟨rfl,_,rfl⟩:=e1;subst e2;refine .inl ⟨?_,by rw[hys];simp⟩;have:hh.toNat=0:=by simp at g3;omega
       have:l.toNat=0:=by omega
       simp[*]
      ·rw[hv]at e1;cases e1;have arm:anZ w β' e fz k xs (.slice (some ⟨b',f',none⟩) xs.length cap):= .inr ⟨b',f',cap,us,fr,rfl,hhp,hfr,hnc,hcm,hsz,fun i x j c u a1 a2 a3=>by
        have:=hkf _ _ (anR i x j c u a1 a2 a3);rwa[gz id c (fL k x a2)]at this⟩
       have:=arm.cut (l:=l.toNat) (h:=hh.toNat) hys (by omega) (by omega);simpa[awy] using this)
    refine⟨bs,β',an2,h.map (gz id) (Kq id) q2 q1, ?_,rfl,rfl,rfl⟩;exact RC.own q3 aua
   ·cases hs
   ·simp only[auU,avs]at hs;obtain⟨hct,rfl,rfl⟩:=hs;obtain⟨bs,an2,g1,g2,g3,hbs⟩:=main hct;have hys:=as6 hct;obtain⟨β',q1,q2⟩:=h.apQ id;have hsl:=q2.fr id _ e fz k xs (by simp) hid hxv;refine⟨bs,β',an2,q1, ?_, ?_, ?_, ?_⟩
    ·show RC w β' (.sl k _) bs;rw[aog,hv]at hsl;rw[hbs];by_cases hxs:xs=[]
     ·subst hxs;have e1:hh.toNat - l.toNat=0:=by simp at g3;omega
      rw[e1,hys];simp only[List.take_nil,List.drop_nil];exact .nil
     ·have ha: ∃ bb f,a0=some ⟨bb,f,none⟩:=by
       cases hsl with
       | nil=>exact absurd rfl hxs
       | sl=>exact⟨_,_,rfl⟩
      obtain⟨bb,f,rfl⟩:=ha;have:=RC.cut (l:=l.toNat) (h:=hh.toNat) hys (by omega) (by omega) hsl ape;simpa[awy] using this
    ·simp only[S.freeze,hid];rfl
    ·simp only[S.freeze,hid];rfl
    ·simp only[S.freeze,hid];rfl
 ·cases hs
end
end Go.VS
namespace Go.VS
open Go
section
variable {B:anT} {β β':Beta} {H:Hp} {stk:List (Array Value)} {s s':S} {a:Act} {w w':World} {C:Cx}
def Ht(B:anT)(stk:List (Array Value))(a:Act)(d:Option Nat)(s':S)(K:Act→World→Prop):Prop:= ∀ β' u w',St B β' stk s' (a.put d u) w'→K (a.put d u) w'
def CM{o:Oper}{K:Act→World→Prop}{Q:Exit→Act→World→Prop}{u:Value}(h:(execOp a.eval o).run B.P w= .ok (.value u) w')(hk:K (a.put o.dst u) w'):o.wp B.P a w K Q:=by
 unfold Oper.wp;rw[h];exact hk
def aje(h:St B β stk s a w){b:Nat}{v:AV}{os:List Ob}{o:Oper}(hd:s.has o.dst=true)(hg:Good B β s.H w b v os ((execOp a.eval o).run B.P w)){K:Act→World→Prop}{Q:Exit→Act→World→Prop}
  (hK:Ht B stk a o.dst ({ s with H:=gj s.H b os }.put o.dst v) K):o.wp B.P a w K Q:=by
 obtain⟨u,w',β',h1,h2,h3,h4⟩:=hg;refine CM h1 (hK β' _ _ ?_);have h5:=h.keep h3 h2;refine h5.put hd (RT.ao3 h4) (fun g want x e=> ?_);rw[e]at h4;exact absurd h4 (by simp[R2,R1])
def Ow(h:St B β stk s a w){d:Option Nat}(hd:s.has d=true){v:AV}{u:Value}(hv:R2 w β v u):St B β stk (s.put d v) (a.put d u) w:=
 h.put hd (RT.ao3 hv) (fun g want x e=>by rw[e]at hv;exact absurd hv (by simp[R2,R1]))
def Pf{s s':S}(h1:s'.gs=s.gs)(h2:s'.n=s.n)(h3:s'.pins=s.pins)(d:Option Nat):s'.has d=s.has d:=by
 cases d with
 | none=>rfl
 | some d=>simp only[S.has,h1,h2,h3]
def YC(hP:C.P=B.P)(h:St B β stk s a w){b:Nat}(hb:s.H b=none){o:Oper}(hd:s.has o.dst=true){K:Act→World→Prop}{Q:Exit→Act→World→Prop}
  (he:(match bY C.P C.kd s.ev s.H b o.op with
   | some (q,v,os)=>if q then some ({ s with H:=gj s.H b os }.put o.dst v) else none
   | none=>none)=some s')(hK:Ht B stk a o.dst s' K):o.wp B.P a w K Q:=by
 split at he
 ·rename_i q v os hp;split at he
  ·rename_i hq;cases he;have hg:=agj (P:=C.P) hP h.eval (fun _=>rfl) (fun _=>rfl) h.hs hb hp hq;rw[hP]at hg;exact aje h hd hg hK
  ·cases he
 ·cases he
def xq: ∀ (ids:List Nat) (s:S),(ids.foldl S.freeze s).gs=s.gs∧(ids.foldl S.freeze s).n=s.n∧(ids.foldl S.freeze s).pins=s.pins∧(ids.foldl S.freeze s).nid=s.nid
 | [],s=>⟨rfl,rfl,rfl,rfl⟩
 | i::ids,s=>by
  obtain⟨h1,h2,h3,h4⟩:=xq ids (s.freeze i);have:(s.freeze i).gs=s.gs∧(s.freeze i).n=s.n∧(s.freeze i).pins=s.pins∧(s.freeze i).nid=s.nid:=by
   unfold S.freeze;split<;>exact⟨rfl,rfl,rfl,rfl⟩
  exact⟨h1.trans this.1,h2.trans this.2.1,h3.trans this.2.2.1,h4.trans this.2.2.2⟩
def abl{P:Program}{t:TypeId}{x y:AV}(h:qV P t s x y=some s'):s'.gs=s.gs∧s'.n=s.n∧s'.pins=s.pins:=by
 unfold qV at h;split at h
 ·split at h
  ·split at h
   ·obtain⟨ys,hc,h⟩:=auI.1 h;split at h<;>cases h;exact⟨rfl,rfl,rfl⟩
   ·cases h
  ·obtain⟨ys,hc,h⟩:=auI.1 h;split at h
   ·obtain⟨z,hz,h⟩:=auI.1 h;cases h;obtain⟨h1,h2,h3,_⟩:=xq (ys.filterMap vH) s;exact⟨h1,h2,h3⟩
   ·cases h
  ·obtain⟨ys,hc,h⟩:=auI.1 h;split at h
   ·obtain⟨z,hz,h⟩:=auI.1 h;cases h;exact⟨rfl,rfl,rfl⟩
   ·cases h
  ·cases h
 ·cases h
def ada(hP:C.P=B.P)(h:St B β stk s a w){o:Oper}(hd:s.has o.dst=true){t:TypeId}{p x:Operand}(ho:o.op= .store t p x){s1:S}(hs:qV C.P t s (s.ev p) (s.ev x)=some s1){K:Act→World→Prop}{Q:Exit→Act→World→Prop}
  (hK:Ht B stk a o.dst (s1.put o.dst qU) K):o.wp B.P a w K Q:=by
 obtain⟨w',β',h1,h2⟩:=adb hP h hs;obtain⟨e1,e2,e3⟩:=abl hs;rw[hP]at h1;unfold Oper.wp execOp;rw[ho];simp only[awb,h1,avP,awp];exact hK β' _ _ (Ow h2 (by rw[Pf e1 e2 e3];exact hd) rfl)
def acX(hP:C.P=B.P)(h:St B β stk s a w){b:Nat}(hb:s.H b=none){o:Oper}(hd:s.has o.dst=true){x y:Operand}{t u:TypeId}(ho:o.op= .call { callee:= .builtin .append,args:= #[x,y],argTypes:= #[t,u] })
  {v:AV}{s1:S}(hs:tG C.P C.kd t u s b (s.ev x) (s.ev y)=some (true,v,s1)){K:Act→World→Prop}{Q:Exit→Act→World→Prop}(hK:Ht B stk a o.dst (s1.put o.dst v) K):o.wp B.P a w K Q:=by
 obtain⟨u',w',β',h1,h2,h3,e1,e2,e3⟩:=acY (ty:=o.type) hP h hb hs rfl;rw[hP]at h1;refine CM (u:=u') (w':=w') ?_ (hK β' _ _ (Ow h2 (by rw[Pf e1 e2 e3];exact hd) h3));unfold execOp;rw[ho];simp[resolve,invoke,builtin,h1]
def ahl(hP:C.P=B.P)(h:St B β stk s a w){o:Oper}(hd:s.has o.dst=true){x y:Operand}{t u:TypeId}(ho:o.op= .call { callee:= .builtin .copy,args:= #[x,y],argTypes:= #[t,u] })
  {v:AV}{s1:S}(hs:Ju C.P t s (s.ev x) (s.ev y)=some (v,s1)){K:Act→World→Prop}{Q:Exit→Act→World→Prop}(hK:Ht B stk a o.dst (s1.put o.dst v) K):o.wp B.P a w K Q:=by
 obtain⟨u',w',β',h1,h2,h3,e1,e2,e3⟩:=ahm (u:=u) (ty:=o.type) hP h hs;rw[hP]at h1;refine CM (u:=u') (w':=w') ?_ (hK β' _ _ (Ow h2 (by rw[Pf e1 e2 e3];exact hd) h3));unfold execOp;rw[ho];simp[resolve,invoke,builtin,h1]
def adw(hP:C.P=B.P)(h:St B β stk s a w){o:Oper}(hd:s.has o.dst=true){t:TypeId}{x:Operand}{lo hi:Option Operand}(ho:o.op= .slice t x lo hi none){id:Nat}(hx:s.ev x= .own id){z:Bool}(hf:gw C.P s.H t (.own id)=true)
  {v:AV}{s1:S}(hs:mY s id z (lo.map s.ev) (hi.map s.ev)=some (true,v,s1)){K:Act→World→Prop}{Q:Exit→Act→World→Prop}(hK:Ht B stk a o.dst (s1.put o.dst v) K):o.wp B.P a w K Q:=by
 obtain⟨u',β',h1,h2,h3,e1,e2,e3⟩:=W8 (P:=C.P) h hx hf hs rfl;rw[hP]at h1;refine CM (u:=u') (w':=w) ?_ (hK β' _ _ (Ow h2 (by rw[Pf e1 e2 e3];exact hd) h3));unfold execOp;rw[ho];simp[h1]
def SL(hP:C.P=B.P)(h:St B β stk s a w){b:Nat}(hb:s.H b=none){o:Oper}(hd:s.has o.dst=true){ids:List Nat}{K:Act→World→Prop}{Q:Exit→Act→World→Prop}
  (he:(match bY C.P C.kd (ids.foldl S.freeze s).ev (ids.foldl S.freeze s).H b o.op with
   | some (q,v,os)=>if q then some ({ ids.foldl S.freeze s with H:=gj (ids.foldl S.freeze s).H b os }.put o.dst v) else none
   | none=>none)=some s')(hK:Ht B stk a o.dst s' K):o.wp B.P a w K Q:=by
 obtain⟨β',h1,h2⟩:=h.anY ids;obtain⟨e1,e2,e3,_⟩:=xq ids s;exact YC hP h1 (h2.non b hb) (by rw[Pf e1 e2 e3];exact hd) he hK
def oW(C:Cx)(B:anT):Prop:= ∀ (f:FuncId) (d:Option Nat) (m:aoi),C.Γ f d=some m→ ∀ (β:Beta) (stk:List (Array Value)) (s:S) (a:Act) (w:World) (b:Nat) (as:List Operand) (s':S) (o:Oper) (ts:Array TypeId) (K:Act→World→Prop) (Q:Exit→Act→World→Prop),
 St B β stk s a w→(∀ j,b≤j→j < b+16→s.H j=none)→s.has d=true→yR m s b d (as.map s.ev) some=some s'→o.dst=d→o.op= .call { callee:= .value (.func f),args:=as.toArray,argTypes:=ts } →Ht B stk a d s' K→o.wp B.P a w K Q
def aac(hP:C.P=B.P)(hC:oW C B)(h:St B β stk s a w){b:Nat}(hb: ∀ j,b≤j→j < b+16→s.H j=none){o:Oper}(he:jf C (af S) o b s some=some s'){K:Act→World→Prop}{Q:Exit→Act→World→Prop}(hK:Ht B stk a o.dst s' K):o.wp B.P a w K Q:=by
 have hb0:s.H b=none:=hb b (auS _) (by omega);unfold jf at he;split at he
 ·cases he
 rename_i hd;generalize ho:o.op=op at he;have pu:(match bY C.P C.kd s.ev s.H b op with
   | some (q,v,os)=>if q then some ({ s with H:=gj s.H b os }.put o.dst v) else none
   | none=>none)=some s'→o.wp B.P a w K Q:=fun he=>YC hP h hb0 hd (by rw[ho];exact he) hK
 cases op<;>try (exact pu he)
 case store t p x=>
  simp only at he;split at he
  ·rename_i s1 hs;cases he;exact ada hP h hd ho hs hK
  ·cases he
 case call c=>
  obtain⟨cal,⟨args⟩,⟨tys⟩⟩:=c;simp only at he;split at he
  ·rename_i f;split at he
   ·rename_i m hm;exact hC f o.dst m hm β stk s a w b _ s' o _ K Q h hb hd he rfl ho hK
   ·cases he
  ·split at he
   ·rename_i q v s1 hs;split at he
    ·rename_i hq;subst hq;cases he;exact acX hP h hb0 hd ho hs hK
    ·cases he
   ·cases he
  ·split at he
   ·rename_i v s1 hs;cases he;exact ahl hP h hd ho hs hK
   ·cases he
  ·exact pu he
 case slice t x lo hi mx=>
  cases mx with
  | some m=>exact pu he
  | none=>
   simp only at he;split at he
   ·rename_i id hx;split at he
    ·cases he
    ·rename_i hf;split at he
     ·rename_i q v s1 hs;split at he
      ·rename_i hq;subst hq;cases he;exact adw hP h hd ho hx hf hs hK
      ·cases he
     ·cases he
   ·exact pu he
 case buildSlice t n ps=>
  simp only at he;exact SL hP h hb0 hd (by rw[ho];exact he) hK
end
end Go.VS
namespace Go.VS
open Go
mutual
theorem aiQ (E:Nat→AV) (H:Hp) (b:Nat): ∀ (h:Sh) (x:LT h),sa h=true→(cY E H b h x).2=(H,b)
 | .int _,_,_=>rfl
 | .bool,_,_=>rfl
 | .str,_,_=>rfl
 | .agg l,x,h=>by
  have:=HI E H b l x h;show((match aC E H b l x with | (cs,H,b)=>(AV.agg cs,H,b)):AV×Hp×Nat).2=(H,b);generalize aC E H b l x=r at *;obtain⟨cs,H',b'⟩:=r;exact this
 | .sl _,_,h=>by simp[sa]at h
 | .row _ _,_,h=>by simp[sa]at h
 | .fz _,_,h=>by simp[sa]at h
 | .an1 _ _,_,h=>by simp[sa]at h
 | .abx _ _,_,h=>by simp[sa]at h
 | .arr _,_,h=>by simp[sa]at h
 | .same _,_,h=>by simp[sa]at h
 | .box _ _,_,h=>by simp[sa]at h
theorem HI (E:Nat→AV) (H:Hp) (b:Nat): ∀ (l:List Sh) (x:LTs l),F6 l=true→(aC E H b l x).2=(H,b)
 | [],_,_=>rfl
 | h::l,x,hl=>by
  simp only[F6,auF]at hl;have h1:=aiQ E H b h x.1 hl.1;have h2:=HI E H b l x.2 hl.2;show((match cY E H b h x.1 with | (c,H,b)=>match aC E H b l x.2 with | (cs,H,b)=>(c::cs,H,b)):List AV×Hp×Nat).2=(H,b);generalize hm:cY E H b h x.1=r at *;obtain⟨c,H',b'⟩:=r;cases h1;show((match aC E H b l x.2 with | (cs,H,b)=>(c::cs,H,b)):List AV×Hp×Nat).2=(H,b);generalize aC E H b l x.2=r at *;obtain⟨cs,H',b'⟩:=r;exact h2
end
mutual
theorem aiU: ∀ h:Sh,sa h=true→aan h=false
 | .int _,_=>rfl
 | .bool,_=>rfl
 | .str,_=>rfl
 | .agg l,h=>OG l h
 | .sl _,h=>by simp[sa]at h
 | .row _ _,h=>by simp[sa]at h
 | .fz _,h=>by simp[sa]at h
 | .an1 _ _,h=>by simp[sa]at h
 | .abx _ _,h=>by simp[sa]at h
 | .arr _,h=>by simp[sa]at h
 | .same _,h=>by simp[sa]at h
 | .box _ _,h=>by simp[sa]at h
theorem OG: ∀ l:List Sh,F6 l=true→dN l=false
 | [],_=>rfl
 | h::l,hl=>by
  simp only[F6,auF]at hl;simp only[dN,aiU h hl.1,OG l hl.2,avW]
end
def Zj(E:Nat→AV)(H:Hp)(b:Nat): ∀ (l:List Sh) (cs:List AV) (x:LTs l),l.isEmpty=true→bL E H b l cs x=([],H,b)
 | [],_,_,_=>rfl
 | _::_,_,_,h=>by simp at h
def agB: ∀ l:List Sh,l.isEmpty=true→dN l=false
 | [],_=>rfl
 | _::_,h=>by simp at h
def akH(l:List Nat):off l []=true:=by simp[off]
def ahr{m:aoi}{s:S}{b:Nat}{d:Option Nat}{as:List AV}{v:AV}{x:LTs m.ps}{r:LTs m.rs×LTs (bg m.ps)}(h1:F6 m.rs=true)(h2:(bg m.ps).isEmpty=true)(h3:(dV s.H m.ps as).isEmpty=true)(h4:(cn s.H m.ps as).isEmpty=true)
  (hx:rV (fun i=>(as[i]?).getD .un) s.H m.ps as=some x)(hr:m.g x=some r)(hv:Lr (aC (fun i=>(as[i]?).getD .un) s.H b m.rs r.1).1=v):yR m s b d as some=some (s.put d v):=by
 have h3':dV s.H m.ps as=[]:=by simpa using h3
 have h4':cn s.H m.ps as=[]:=by simpa using h4
 unfold yR;simp only[hx,h4',QC,h3',akH,avT,hr,auE,axa,OG _ h1,agB _ h2,awu,E5,Zj _ _ _ _ _ _ h2];have hm:=HI (fun i=>(as[i]?).getD .un) s.H b m.rs r.1 h1;generalize aC (fun i=>(as[i]?).getD .un) s.H b m.rs r.1=q at *;obtain⟨vs,H',b'⟩:=q;cases hm;have:awt b (b+16)=true:=Nat.ble_eq_true_of_le (by omega);simp only[this];rw[← hv]
section
variable {B:anT} {β β':Beta} {H:Hp} {stk:List (Array Value)} {s s':S} {a:Act} {w w':World} {C:Cx}
def aid{b:Nat}{o:Oper}{v:AV}(hd:s.has o.dst=true)(h:spA C b o.dst s.ev s.H o.op=some (true,v)):jf C (af S) o b s some=some (s.put o.dst v):=by
 have eqS: ∀ v',({ s with H:=s.H } :S).put o.dst v'=s.put o.dst v':=fun _=>rfl;unfold jf;rw[hd];generalize ho:o.op=op at h;have pu:(match bY C.P C.kd s.ev s.H b op with
   | some (q,v,[])=>some (q,v)
   | _=>none)=some (true,v)→(match bY C.P C.kd s.ev s.H b op with
   | some (q,v,os)=>if q then some ({ s with H:=gj s.H b os }.put o.dst v) else none
   | none=>none)=some (s.put o.dst v):=by
  intro h;split at h
  ·rename_i v' hp;cases h;rw[hp];rfl
  ·cases h
 cases op<;>try (exact pu h)
 case store=>simp[spA]at h
 case buildSlice=>simp[spA]at h
 case slice t x lo hi mx=>
  cases mx with
  | some m=>exact pu h
  | none=>
   simp only[spA]at h;simp only;cases hx:s.ev x<;>simp only[hx]at h ⊢ <;>first | (cases h;done) | exact pu h
 case call c=>
  obtain⟨cal,⟨args⟩,⟨tys⟩⟩:=c;simp only[spA]at h;simp only;split at h
  ·rename_i f;obtain⟨m,hm,h⟩:=auI.1 h;split at h
   ·rename_i hc;simp only[auF]at hc;obtain⟨x,hx,h⟩:=auI.1 h;simp only[auU,avs]at h;obtain⟨h1,h2⟩:=h;cases hr:m.g x with
    | none=>rw[hr]at h1;cases h1
    | some r=>
     rw[hr]at h2;simp only[hm];exact ahr hc.1.1.1 hc.1.1.2 hc.1.2 hc.2 hx hr h2
   ·cases h
  ·cases h
  ·cases h
  ·rename_i n1 n2 n3;split
   ·exact absurd rfl (n1 _)
   ·exact absurd rfl n2
   ·exact absurd rfl n3
   ·exact pu h
end
end Go.VS
namespace Go.VS
open Go
section
variable {B:anT} {β β':Beta} {H:Hp} {stk:List (Array Value)} {s s':S} {a:Act} {w w':World} {C:Cx}
def xh{ops:Array Oper}{j g:Nat}(hg:(ops[j]?).bind (·.dst)=some g){b:Bool}(hv:dW a g= .bool b):yielded ops a.tmps j=some b:=by
 unfold yielded;rw[hg];have:a.tmps[g]? =some (.bool b):=by
  unfold dW at hv;rw[axe]at hv;cases h:a.tmps[g]? with
  | none=>rw[h]at hv;cases hv
  | some u=>rw[h]at hv;exact congrArg some hv
 rw[auE,this]
def xg{ops:Array Oper}{j g:Nat}(hg:(ops[j]?).bind (·.dst)=some g){b:Bool}(hv:yielded ops a.tmps j=some b):dW a g= .bool b:=by
 unfold yielded at hv;rw[hg,auE]at hv;split at hv
 ·rename_i c hc;cases hv;simp[dW,hc]
 ·cases hv
def St.narrow(h:St B β stk s a w){g:Nat}{want:Bool}(hg:dW a g= .bool want):St B β stk (s.narrow g want) a w:=by
 have rt: ∀ x y,RT w β (dW a) x y→RT w β (dW a) (tL g want x) y:=by
  intro x y hx;cases x with
  | gd g' w' z=>
   simp only[tL];split
   ·rename_i h1 h2;obtain rfl:=aI h1;obtain rfl:want=w':=by simpa using h2
    exact RT.ao3 (hx.1 hg)
   ·exact hx
  | _=>exact hx
 refine⟨fun t=> ?_,h.stack,h.n,h.defers,h.pins,fun t g' w' x hx=> ?_,h.hs⟩
 ·show RT w β (dW a) (upd (fun t=>tL g want (s.T t)) g (.b want) t) (dW a t);by_cases e:t=g
  ·subst e;rw[aD,hg];rfl
  ·rw[aM _ _ e];exact rt _ _ (h.T t)
 ·have hx:upd (fun t=>tL g want (s.T t)) g (.b want) t= .gd g' w' x:=hx;by_cases e:t=g
  ·subst e;rw[aD]at hx;cases hx
  ·rw[aM _ _ e]at hx;cases hs:s.T t with
   | gd g2 w2 z=>
    rw[hs]at hx;simp only[tL]at hx;split at hx
    ·rename_i h1 h2;obtain rfl:=aI h1;obtain rfl:want=w2:=by simpa using h2
     subst hx;have:=h.T t;rw[hs]at this;exact(this.1 hg).elim
    ·cases hx;exact h.gs _ _ _ _ hs
   | _=>rw[hs]at hx;simp[tL]at hx
def aiq(a:Act){d t:Nat}(h:t≠d)(u:Value):dW (a.put (some d) u) t=dW a t:=by
 simp only[dW,Act.put,axe];rw[ayc (fun e=>h e.symm)]
def R2.bool{x:AV}{b:Bool}(h:R2 w β x (.bool b)):R2 w' β' x (.bool b):=by
 cases x with
 | un=>trivial
 | lit v=>exact h
 | sl k xs=>exact absurd (show RC w β (.sl k xs) (.bool b) from h) (fun h=>by cases h)
 | arr k xs=>obtain⟨us,e,_⟩:=h;cases e
 | own id=>exact absurd (show RC w β (.own id) (.bool b) from h) (fun h=>by cases h with | own h1 h2=>cases h2)
 | ptr a b c d=>exact absurd (show RC w β (.ptr a b c d) (.bool _) from h) (fun h=>by cases h)
 | ipt a b c=>exact absurd (show RC w β (.ipt a b c) (.bool _) from h) (fun h=>by cases h)
 | agg cs=>obtain⟨us,e,_⟩:=h;cases e
 | tup vs=>obtain⟨us,e,_⟩:=h;cases e
 | gd a b c=>exact h.elim
def St.more(h:St B β stk s a w)(g:Nat):St B β stk { s with gs:=upd s.gs g true } a w:=
 ⟨h.T,h.stack,h.n,h.defers,h.pins,fun t g' want x hx=>by
  show upd s.gs g true g'=true;by_cases e:g'=g
  ·rw[e,aD]
  ·rw[aM _ _ e];exact h.gs t g' want x hx,h.hs⟩
def RT.arx{tm:Nat→Value}{x:AV}{v:Value}(h:RT w β tm x v)(hn:amy x=true):R2 w β x v:=by
 cases x with
 | gd=>cases hn
 | _=>exact h
def RT.aqK{tm tm':Nat→Value}{x:AV}{b:Bool}(h:RT w β tm x (.bool b))(ht: ∀ g want z,x= .gd g want z→tm' g=tm g):RT w' β' tm' x (.bool b):=by
 cases x with
 | gd g want z=>
  have e:=ht g want z rfl;refine⟨fun h1=>R2.bool (h.1 (e▸h1)),fun h1=> ?_⟩;exact h.2 (e▸h1)
 | _=>exact RT.ao3 (R2.bool (RT.arx h rfl))
def acn{g d:Nat}(h:({ s with gs:=upd s.gs g true } :S).has (some d)=true):s.has (some d)=true∧d≠g∧s.gs d=false:=by
 simp only[S.has,auF,avw]at h ⊢;obtain⟨⟨h1,h2⟩,h3⟩:=h;by_cases e:d=g
 ·subst e;rw[aD]at h3;cases h3
 ·rw[aM _ _ e]at h3;exact⟨⟨⟨h1,h2⟩,h3⟩,e,h3⟩
def St.apY(h:St B β stk s a w){g d:Nat}{want:Bool}(hg:dW a g= .bool want)(aot:({ s with gs:=upd s.gs g true } :S).has (some d)=true){v:AV}(hn:amy v=true){u:Value}
  (h':St B β' stk ((s.narrow g want).put (some d) v) (a.put (some d) u) w'):St B β' stk { s.put (some d) (.gd g want v) with gs:=upd s.gs g true } (a.put (some d) u) w':=by
 obtain⟨_,hdg,hgs⟩:=acn aot;have tg:dW (a.put (some d) u) g= .bool want:=by rw[aiq a (axT hdg)];exact hg
 refine⟨fun t=> ?_,h'.stack,h'.n,h'.defers,h'.pins,fun t g' w1 x hx=> ?_,h'.hs⟩
 ·show RT w' β' _ (upd s.T d (.gd g want v) t) _;have ht:RT w' β' (dW (a.put (some d) u)) (upd (upd (fun t=>tL g want (s.T t)) g (.b want)) d v t) (dW (a.put (some d) u) t):=h'.T t;by_cases e:t=d
  ·subst e;rw[aD]at ht ⊢;exact⟨fun _=>ht.arx hn,fun hne=>absurd tg hne⟩
  ·rw[aM _ _ e]at ht ⊢;by_cases e2:t=g
   ·subst e2;rw[tg];have h0:=h.T t;rw[hg]at h0;refine h0.aqK fun g' w1 z hz=> ?_;have hg':s.gs g'=true:=h.gs _ _ _ _ hz;exact aiq a (fun e=>by rw[e,hgs]at hg';cases hg') u
   ·rw[aM _ _ e2]at ht;cases hs:s.T t with
    | gd g2 w2 z=>
     rw[hs]at ht;simp only[tL]at ht;split at ht
     ·rename_i h1 h2;obtain rfl:=aI h1;obtain rfl:want=w2:=by simpa using h2
      have h0:=h.T t;rw[hs]at h0;refine⟨fun _=>ht.arx ?_,fun hne=>absurd tg hne⟩;have:=h0.1 hg;cases z<;>first | rfl | exact this.elim
     ·exact ht
    | _=>rw[hs]at ht;exact ht
 ·show upd s.gs g true g'=true;have hx:upd s.T d (.gd g want v) t= .gd g' w1 x:=hx;by_cases e:t=d
  ·subst e;rw[aD]at hx;cases hx;exact aD _ _ _
  ·rw[aM _ _ e]at hx;by_cases e3:g'=g
   ·rw[e3,aD]
   ·rw[aM _ _ e3];exact h.gs _ _ _ _ hx
def Wn(h:St B β stk s a w){ops:Array Oper}: ∀ (n:Nat) (o:Oper) {c:Bool},NM ops s n o=some c→awN o (yielded ops a.tmps)=true→c=true
 | 0,_,_,he,_=>by cases he
 | n+1,o,c,he,hw=>by
  unfold NM at he;cases hg:o.guard with
  | none=>rw[hg]at he;cases he;rfl
  | some jw=>
   obtain⟨j,want⟩:=jw;rw[hg]at he;obtain⟨oj,hj,he⟩:=auI.1 he;obtain⟨g,hgd,he⟩:=auI.1 he;have atZ:(ops[j]?).bind (·.dst)=some g:=by rw[hj];exact hgd
   have hy:yielded ops a.tmps j=some want:=by simpa[awN,hg] using hw
   have htg:=xg atZ hy;have hT:=h.T g;split at he
   ·rename_i c0 hc0;rw[hc0,htg]at hT;have hT:Value.bool want=Value.bool c0:=hT;cases hT;cases he;cases want<;>rfl
   ·rename_i vs hc0;rw[hc0,htg]at hT;cases (show Value.bool want=Value.tuple vs from hT)
   ·rename_i g' w' c0 hc0;rw[hc0]at hT;split at he
    ·rename_i j' w2 hoj;split at he
     ·rename_i g2 hg2;split at he
      ·rename_i e1 e2;obtain rfl:=aI e1;obtain rfl:w'=w2:=by simpa using e2
       obtain⟨b,hb,he⟩:=auI.1 he;by_cases hq:dW a g'= .bool w'
       ·have hv:dW a g= .bool c0:=hT.1 hq;rw[htg]at hv;cases hv;have hb1:=Wn h n oj hb (by
         have:yielded ops a.tmps j'=some w':=xh hg2 hq;simp[awN,hoj,this])
        rw[hb1]at he;cases he;cases want<;>rfl
       ·have hv:dW a g=undef:=hT.2 hq;rw[htg]at hv;cases hv
      ·cases he
     ·cases he
    ·cases he
   ·cases he
def ahn{c:Option Bool}{q:Bool}(h:ani c q=true)(hc: ∀ b,c=some b→b=true):q=true:=by
 cases c with
 | none=>exact h
 | some b=>
  obtain rfl:=hc b rfl;cases q with
  | true=>rfl
  | false=>cases h
def Vt(hP:C.P=B.P)(hC:oW C B){ops:Array Oper}{i:Nat}{o:Oper}(hi:ops[i]? =some o)(h:St B β stk s a w){b:Nat}(hb: ∀ j,b≤j→j < b+16→s.H j=none)
  (he:evG C (af S) ops o b s some=some s'){K:Act→World→Prop}{Q:Exit→Act→World→Prop}(hK:Ht B stk a o.dst s' K):wpOp B.P ops Q i K a w:=by
 unfold wpOp;simp only[hi];unfold evG at he;split at he
 ·rename_i hg;have hw:awN o (yielded ops a.tmps)=true:=by simp[awN,hg]
  rw[aus hw];exact .inl (aac hP hC h hb he hK)
 ·rename_i j want hg;have hwd:awN o (yielded ops a.tmps)=(yielded ops a.tmps j == some want):=by simp[awN,hg]
  rw[hwd];split at he
  ·cases he
  ·rename_i g hgd hsp;split at he
   ·rename_i q v aot hv;split at he
    ·rename_i hn;split at he
     case isFalse=>cases he
     rename_i asv;cases he;obtain⟨d,hd⟩: ∃ d,o.dst=some d:=by
      cases hd:o.dst with
      | none=>rw[hd]at hsp;cases hsp
      | some d=>exact⟨d,rfl⟩
     rw[hd]at aot hv;by_cases hy:yielded ops a.tmps j=some want
     ·have htg:=xg hgd hy;rw[aus (by simp[hy])];have hh:=(acn aot).1;have hqt:q=true:=ahn asv (fun b hb=>Wn h 4 o hb (by rw[hwd,hy];simp));subst hqt;have he:jf C (af S) o b (s.narrow g want) some=some ((s.narrow g want).put o.dst v):=
       aid (by rw[hd];exact hh) (by rw[hd];exact hv)
      refine .inl (aac hP hC (h.narrow htg) (s:=s.narrow g want) hb he ?_);intro β' u w' h';rw[hd]at h' ⊢;have:=hK β' u w';rw[hd]at this;exact this (h.apY htg aot hn h')
     ·rw[aur (by simpa using hy)];have hne:dW a g≠ .bool want:=fun e=>hy (xh hgd e);have:=hK β undef w;rw[hd]at this ⊢;exact this ((h.more g).put aot ⟨fun e=>absurd e hne,fun _=>rfl⟩ (fun g' w1 x e=>by cases e;exact aD _ _ _))
    ·cases he
   ·cases he
  ·rename_i g hgd hsp;split at he
   ·rename_i c hT;have htg:dW a g= .bool c:=by have:=h.T g;rw[hT]at this;exact this
    have hy:yielded ops a.tmps j=some c:=xh hgd htg;rw[hy];have hn: ∀ w0:Bool,c=w0→St B β stk { s with T:=upd s.T g (.b w0) } a w:=by
     intro w0 e;subst e;refine⟨fun t=> ?_,h.stack,h.n,h.defers,h.pins,fun t g' w' x hx=> ?_,h.hs⟩
     ·show RT w β (dW a) (upd s.T g (.b c) t) (dW a t);by_cases e:t=g
      ·subst e;rw[aD,htg];rfl
      ·rw[aM _ _ e];exact h.T t
     ·have hx:upd s.T g (.b c) t= .gd g' w' x:=hx;by_cases e:t=g
      ·subst e;rw[aD]at hx;cases hx
      ·rw[aM _ _ e]at hx;exact h.gs _ _ _ _ hx
    have yes:jf C (af S) o b { s with T:=upd s.T g (.b want) } some=some s'→c=want→
      (if(some c == some want)=true then o.wp B.P a w K Q∨(o.asks B.P a w∧LetsOut Q) else K (a.put o.dst undef) w):=by
     intro he e;rw[aus (by simp[e])];exact .inl (aac hP hC (hn want e) hb he hK)
    have no:(match s.has o.dst with
      | true=>some (({ s with T:=upd s.T g (.b (!want)) } :S).put o.dst qU)
      | false=>none)=some s'→c= !want→
      (if(some c == some want)=true then o.wp B.P a w K Q∨(o.asks B.P a w∧LetsOut Q) else K (a.put o.dst undef) w):=by
     intro he e;rw[aur (by subst e;cases want<;>simp)];split at he
     ·rename_i aot;cases he;exact hK β undef w ((hn (!want) e).put (by exact aot) (u:=undef) rfl (fun g' w1 x e=>by cases e))
     ·cases he
    cases want<;>cases c<;>simp only[auy,if_false,awi]at he
    ·exact yes he rfl
    ·exact no he rfl
    ·exact no he rfl
    ·exact yes he rfl
   ·rename_i vs hT;have htg:dW a g= .tuple vs:=by have:=h.T g;rw[hT]at this;exact this
    have hy: ¬ (yielded ops a.tmps j == some want)=true:=by
     intro e;have:=xg hgd (show yielded ops a.tmps j=some want by simpa using e);rw[htg]at this;cases this
    rw[aur hy];split at he
    ·rename_i aot;cases he;exact hK β undef w (h.put aot (u:=undef) rfl (fun g' w1 x e=>by cases e))
    ·cases he
   ·cases he
end
end Go.VS
namespace Go.VS
open Go
def In1(F:Nat→Prop):AV→Prop
 | .own id=>F id
 | .ptr id _ _ _=>F id
 | .agg _=>False
 | .tup _=>False
 | .gd _ _ _=>False
 | _=>True
def In2(F:Nat→Prop):AV→Prop
 | .agg cs=> ∀ c∈cs,In1 F c
 | v=>In1 F v
def In3(F:Nat→Prop):AV→Prop
 | .tup vs=> ∀ v∈vs,In2 F v
 | v=>In2 F v
def InA(F:Nat→Prop):AV→Prop
 | .gd _ _ v=>In3 F v
 | v=>In3 F v
def zc(F:Nat→Prop):Ob→Prop
 | .box _ cs=> ∀ c∈cs,In1 F c
 | _=>True
def anN(F:Nat→Prop)(H:Hp):Prop:= ∀ id ob,F id→H id=some ob→zc F ob
def Agr(F:Nat→Prop)(H H':Hp):Prop:= ∀ id,F id→H' id=H id
section
variable {F:Nat→Prop} {H H':Hp} {P:Program} {kd:TypeId→Option K} {ρ ρ':Operand→AV} {b:Nat}
def In2.of1{v:AV}(h:In1 F v):In2 F v:=by
 cases v<;>first | exact h | exact h.elim
def In3.of2{v:AV}(h:In2 F v):In3 F v:=by
 cases v<;>first | exact h | exact(show False from h).elim
def InA.of3{v:AV}(h:In3 F v):InA F v:=by
 cases v<;>first | exact h | exact(show False from h).elim
def InA.of1{v:AV}(h:In1 F v):InA F v:= .of3 (.of2 (.of1 h))
def InA.of2{v:AV}(h:In2 F v):InA F v:= .of3 (.of2 h)
def In1.an6{v:AV}(h:an6 v=true):In1 F v:=by
 cases v<;>first | trivial | cases h
def M9(k:K)(x:Tof k): ∀ c∈enc k x,In1 F c:=fun c hc=> .an6 (avn.1 (afg k x) c hc)
def BR{t:TypeId}{cs:List AV}{o:Nat}{v:AV}(hc: ∀ c∈cs,In1 F c)(h:wW P t cs o=some v):InA F v:=by
 unfold wW at h;split at h
 ·split at h
  ·cases h;exact .of2 fun c hm=>hc c (awA (av6 hm))
  ·cases h
 ·exact .of1 (hc v (au8 h))
 ·cases h
def aiY{t:TypeId}{p:AV}(hp:InA F p)(hH:Agr F H H'):F4 P H' t p=F4 P H t p:=by
 unfold F4;cases p with
 | ptr id z i o=>simp only[hH id hp]
 | _=>rfl
def aiZ{N:Nat→Prop}{t:TypeId}{p v:AV}(hp:InA N p)(hH: ∀ id ob,N id→H id=some ob→zc F ob)(h:F4 P H t p=some v):InA F v:=by
 unfold F4 at h;split at h
 ·exact BR (M9 _ _) h
 ·rename_i id z i o;split at h
  ·rename_i hid;split at h
   ·exact BR (hH id _ hp hid) h
   ·cases h
  ·split at h
   ·exact BR (M9 _ _) h
   ·cases h
  ·split at h
   ·split at h<;>cases h;trivial
   ·split at h
    ·exact BR (M9 _ _) h
    ·cases h
  ·cases h
 ·cases h
def aa0{k:K}{v:AV}(hv:InA F v)(hH:Agr F H H'):iT H' k v=iT H k v:=by
 cases v with
 | own id=>simp only[iT,hH id hv]
 | lit v=>cases v with
  | slice a n c=>cases a<;>cases n<;>cases c<;>rfl
  | _=>rfl
 | _=>rfl
def ZQ{k:K}{v:AV}(hv:InA F v)(hH:Agr F H H'):Tt H' k v=Tt H k v:=by
 cases v with
 | own id=>simp only[Tt,iT,hH id hv]
 | lit v=>cases v with
  | slice a n c=>cases a<;>cases n<;>cases c<;>rfl
  | _=>rfl
 | _=>rfl
def LQ{t:TypeId}{v:AV}(hv:InA F v)(hH:Agr F H H'):gw P H' t v=gw P H t v:=by
 unfold gw;generalize P.underlying t=u;rcases u with _ | d
 ·rfl
 cases d<;>cases v<;>first | rfl | (simp only[hH _ hv];done) | (rename_i v;cases v<;>rfl)
def ach{t:TypeId}{i:Int}{v:AV}(hv:InA F v)(hH:Agr F H H'):te P H' t i v=te P H t i v:=by
 unfold te;cases v with
 | own id=>simp only[hH id hv]
 | ptr id z i o=>
  cases i<;>cases o<;>first | (simp only[hH id hv];done) | rfl
 | _=>rfl
def amu{v v':AV}{q:Bool}{os:List Ob}(hv:InA F v)(h:okN v=some (q,v',os)):InA F v'∧os=[]:=by
 obtain⟨rfl,_,rfl,_⟩:=vI h;exact⟨hv,rfl⟩
def amv{v v':AV}{q:Bool}{os:List Ob}(hv:InA F v)(h:okA v=some (q,v',os)):InA F v'∧os=[]:=by
 obtain⟨rfl,_,rfl⟩:=bO h;exact⟨hv,rfl⟩
def PIn(F:Nat→Prop)(r:PR):Prop:= ∀ q v os,r=some (q,v,os)→InA F v∧os.length≤1∧ ∀ ob∈os,zc F ob
def PIn.okN{v:AV}(hv:InA F v):PIn F (okN v):=fun q v' os h=>by
 obtain⟨h1,rfl⟩:=amu hv h;exact⟨h1,by simp,by simp⟩
def PIn.okA{v:AV}(hv:InA F v):PIn F (okA v):=fun q v' os h=>by
 obtain⟨h1,rfl⟩:=amv hv h;exact⟨h1,by simp,by simp⟩
def PIn.lit{v:Value}:PIn F (VS.okA (.lit v)):= .okA (.of1 trivial)
def PIn.none:PIn F .none:=fun q v os h=>by cases h
def PIn.nil{q:Bool}{v:AV}(hv:InA F v):PIn F (some (q,v,[])):=fun q v' os h=>by cases h;exact⟨hv,by simp,by simp⟩
def PIn.one{q:Bool}{v:AV}{ob:Ob}(hv:InA F v)(ho:zc F ob):PIn F (some (q,v,[ob])):=fun q v' os h=>by
 cases h;exact⟨hv,by simp,fun ob' hm=>by simp at hm;subst hm;exact ho⟩
def PIn.bind{α:Type}{o:Option α}{f:α→PR}(h: ∀ a,o=some a→PIn F (f a)):PIn F (o.bind f):=by
 cases o with
 | none=>exact .none
 | some a=>exact h a rfl
def alC(op:BinOp)(k:IntKind)(x y:Int):PIn F (ajY op k x y):=by
 cases op<;>first | exact .lit | exact .none | exact .nil (.of1 trivial)
def alB(op:BinOp)(x y:auB):PIn F (ajX op x y):=by
 cases op<;>first | exact .lit | exact .none | exact .nil (.of1 trivial)
def alD(op:BinOp)(t:TypeId)(x y:AV):PIn F (aes P op t x y):=by
 unfold aes;split
 ·split
  ·exact alC _ _ _ _
  ·exact .none
 ·exact alB _ _ _
 ·split<;>first | exact .lit | exact .none
 ·split<;>first | exact .lit | exact .none
 ·exact .none
def al8(op:UnOp)(x:AV):PIn F (unA op x):=by
 unfold unA;split<;>first | exact .lit | exact .none
def ait{c x y:Operand}(hx:InA F (ρ x))(hy:InA F (ρ y)):PIn F (TP ρ c x y):=by
 unfold TP;split
 ·split
  ·exact .lit
  ·split
   ·exact .lit
   ·exact .okN hy
 ·split
  ·exact .lit
  ·split
   ·exact .okN hx
   ·exact .lit
 ·split
  ·exact .okN hx
  ·exact .okN hy
 ·exact .none
def HX{v:AV}{cs:List AV}(hv:InA F v)(h:mc v=some cs): ∀ c∈cs,In1 F c:=by
 cases v with
 | un=>cases h
 | gd=>cases h
 | tup=>cases h
 | arr=>cases h
 | agg cs=>cases h;exact hv
 | lit v=>cases v<;>first | (cases h;done) | (cases h;intro c hc;simp at hc;subst hc;trivial)
 | _=>cases h;intro c hc;simp at hc;subst hc;exact hv
def aa3{t:TypeId}{zs:List AV}(h:xE P t=some zs): ∀ c∈zs,In1 F c:=by
 obtain⟨i,_,h⟩:=auI.1 h;obtain⟨z,_,h⟩:=auI.1 h;split at h
 ·cases h;intro c hc;obtain⟨v,_,rfl⟩:=avH.1 hc;trivial
 ·cases h
def Of{cs ys:List AV}{o:Nat}(hc: ∀ c∈cs,In1 F c)(hy: ∀ c∈ys,In1 F c): ∀ c∈mJ cs o ys,In1 F c:=by
 intro c h;unfold mJ at h;simp only[auX]at h;rcases h with(h | h) | h
 ·exact hc c (av6 h)
 ·exact hy c h
 ·exact hc c (awA h)
def Zx{t:TypeId}: ∀ (l:List (Nat×Operand)) (cs:List AV) {r:List AV},(∀ p∈l,InA F (ρ p.2))→(∀ c∈cs,In1 F c)→qC P ρ t l cs=some r→ ∀ c∈r,In1 F c
 | [],cs,r,_,hc,h=>by cases h;exact hc
 | (i,x)::l,cs,r,hl,hc,h=>by
  obtain⟨f,_,h⟩:=auI.1 h;obtain⟨ys,h2,h⟩:=auI.1 h;split at h
  ·exact Zx l _ (fun p hp=>hl p (auJ _ hp)) (Of hc (HX (hl _ (auM)) h2)) h
  ·cases h
def Zw{t:TypeId}: ∀ (l:List (Nat×Operand)) (cs:List AV),(∀ p∈l,ρ' p.2=ρ p.2)→qC P ρ' t l cs=qC P ρ t l cs
 | [],cs,_=>rfl
 | (i,x)::l,cs,hl=>by
  have ih: ∀ cs,qC P ρ' t l cs=qC P ρ t l cs:=fun cs=>Zw l cs fun p hp=>hl p (auJ _ hp);have h1:ρ' x=ρ x:=hl (i,x) (auM);simp only[qC,h1,ih]
def YH: ∀ (l:List (Nat×Operand)) (n:Nat),(∀ p∈l,ρ' p.2=ρ p.2)→qf ρ' n l=qf ρ n l
 | [],_,_=>rfl
 | (i,x)::l,n,hl=>by
  have ih: ∀ n,qf ρ' n l=qf ρ n l:=fun n=>YH l n fun p hp=>hl p (auJ _ hp);have h1:ρ' x=ρ x:=hl (i,x) (auM);simp only[qf,h1,ih]
def agq: ∀ (l:List (Nat×Operand)),(∀ p∈l,ρ' p.2=ρ p.2)→AH ρ' l=AH ρ l:=fun l hl=>by
 unfold AH
 induction l with
 | nil=>rfl
 | cons p l ih=>simp only[aw3,hl p (auM),ih fun q hq=>hl q (auJ _ hq)]
def agc(lo hi:Option AV)(v:AV):PIn F (Ol lo hi v):=by
 unfold Ol;split<;>first | exact .none | exact .bind fun a _=> .nil (.of1 trivial)
def ajO(hb:F 0)(s d:TypeId)(v:AV):PIn F (CD P s d v):=by
 unfold CD;split
 ·exact .lit
 ·exact .lit
 ·split
  ·exact .one (.of1 hb) trivial
  ·exact .none
 ·exact .none
def akX(t:TypeId)(i:Int)(v:AV):PIn F (agS P t i v):=by
 unfold agS;split
 ·split
  ·exact .nil (.of1 trivial)
  ·exact .none
 ·split
  ·split
   ·exact .bind fun v hv=> .nil (BR (M9 _ _) hv)
   ·exact .none
  ·exact .none
 ·exact .none
def aci{t:TypeId}{i:Int}{v:AV}(hv:InA F v):PIn F (te P H t i v):=by
 unfold te;split
 ·split
  ·split
   ·exact .nil (.of1 trivial)
   ·exact .none
  ·exact .none
 ·split
  ·split
   ·exact .nil (.of1 hv)
   ·exact .none
  ·exact .none
 ·split
  ·split
   ·exact .nil (.of1 hv)
   ·exact .none
  ·exact .none
 ·exact .none
def acR(c:Call):PIn F (EJ P ρ H c):=by
 unfold EJ;split
 ·split<;>first | exact .lit | exact .none | skip
  split<;>first | exact .lit | exact .none
 ·split
  ·split<;>first | exact .lit | exact .none
  ·exact .none
 ·split
  ·split<;>first | exact .lit | exact .none
  ·exact .none
 ·exact .none
def acQ{c:Call}(hρ: ∀ x∈c.args.toList,ρ' x=ρ x)(hF: ∀ x∈c.args.toList,InA F (ρ x))(hH:Agr F H H'):EJ P ρ' H' c=EJ P ρ H c:=by
 obtain⟨cal,⟨args⟩,⟨tys⟩⟩:=c;simp only at hρ hF;unfold EJ;simp only;split
 ·rename_i x t;rw[hρ x (by simp)];have hx:=hF x (by simp);generalize ρ x=v at hx;generalize P.underlying t=u;rcases u with _ | d
  ·rfl
  cases d<;>cases v<;>first | rfl | (simp only[hH _ hx];done) | (rename_i v;cases v<;>first | rfl | (rename_i a n c;cases a<;>cases n<;>cases c<;>rfl))
 ·rename_i x y;rw[hρ x (by simp),hρ y (by simp)]
 ·rename_i x y;rw[hρ x (by simp),hρ y (by simp)]
 ·rfl
def YD{N:Nat→Prop}{op:Op}(hF: ∀ x∈op.operands,InA F (ρ x))(hN:mov op=true∨ ∀ x∈op.operands,InA N (ρ x))(hH: ∀ id ob,N id→H id=some ob→zc F ob)(hb:F b):PIn F (bY P kd ρ H b op):=by
 cases op<;>simp only[bY]<;>try (exact .none)
 case move x=>exact .okN (hF x (by simp[au1]))
 case assign x=>exact .okN (hF x (by simp[au1]))
 case pick c x y=>exact ait (hF x (by simp[au1])) (hF y (by simp[au1]))
 case alloc t=>
  split
  ·refine .bind fun k hk=> .bind fun zs hz=> ?_;split
   ·exact .one (.of1 hb) trivial
   ·exact .none
  ·exact .bind fun zs hz=> .one (.of1 hb) (aa3 hz)
 case box t x=>exact .bind fun cs hc=> .one (.of1 hb) (HX (hF x (by simp[au1])) hc)
 case build t ps=>
  refine .bind fun zs hz=> ?_;split
  ·split
   ·refine .bind fun cs hc=> .okA (.of2 ?_);refine Zx _ _ (fun p hp=>hF p.2 ?_) (aa3 hz) hc;simp only[au1,axN,avH];exact⟨p,hp,rfl⟩
   ·exact .none
  ·exact .none
 case buildSlice t n ps=>
  refine .bind fun e _=> .bind fun k _=> .bind fun vs _=> .bind fun xs _=> ?_;split
  ·exact .one (.of1 hb) trivial
  ·exact .none
 case load t p=>
  exact .bind fun v hv=> .okA (aiZ (hN.resolve_left (by simp[mov]) p (by simp[au1])) hH hv)
 case nilCheck p=>
  have hp:=hF p (by simp[au1]);split<;>first | exact .none | (rename_i e;rw[e]at hp;exact .okA hp)
 case binOp=>exact alD _ _ _ _
 case unOp=>exact al8 _ _
 case convert src dst x=>
  split
  ·split
   ·exact .bind fun v hv=> .lit
   ·exact .none
  ·split
   ·rename_i c id os h;intro q v os' e;cases e;have:=ajO (F:=fun _=>True) trivial src dst (ρ x) _ _ _ h;refine⟨.of1 hb,this.2.1,fun ob ho=> ?_⟩;unfold CD at h;split at h<;>first | (cases h;done) | skip
    split at h
    ·cases h;simp at ho;subst ho;trivial
    ·cases h
   ·rename_i h;intro q v os e;unfold CD at e;split at e
    ·cases e;exact⟨.of1 trivial,by simp,by simp⟩
    ·cases e;exact⟨.of1 trivial,by simp,by simp⟩
    ·split at e
     ·cases e;exact(h _ 0 _ (by simp only[CD, *];rfl)).elim
     ·cases e
    ·cases e
 case makeSlice t l c=>
  split
  ·refine .bind fun e _=> .bind fun k _=> ?_;split
   ·exact .one (.of1 hb) trivial
   ·exact .none
  ·split
   ·refine .bind fun e _=> .bind fun k _=> ?_;split
    ·exact .one (.of1 hb) trivial
    ·exact .none
   ·exact .none
  ·exact .none
 case slice t x lo hi mx=>
  cases mx with
  | some m=>exact .none
  | none=>
   simp only;split
   ·exact agc _ _ _
   ·exact .none
 case fieldAddr t x f=>
  have hx:=hF x (by simp[au1]);refine .bind fun fd _=> ?_;split
  ·split
   ·rename_i e;rw[e]at hx;exact .okA (.of1 hx)
   ·exact .okA (.of1 trivial)
   ·exact .none
  ·exact .none
 case field t x f=>
  have hx:=hF x (by simp[au1]);refine .bind fun fd _=> ?_;split
  ·rename_i cs e;rw[e]at hx;exact .bind fun v hv=> .okA (BR hx hv)
  ·exact .none
 case indexAddr t x ix=>
  have hx:=hF x (by simp[au1]);split
  ·exact aci hx
  ·exact .none
 case index t x ix=>
  split
  ·exact akX _ _ _
  ·exact .none
 case extract x i=>
  have hx:=hF x (by simp[au1]);split
  ·rename_i vs e;rw[e]at hx;exact .bind fun v hv=> .okA (.of2 (hx v (au8 hv)))
  ·exact .none
 case call c=>exact acR c
def HD{op:Op}(hρ: ∀ x∈op.operands,ρ' x=ρ x)(hF0:mov op=true∨ ∀ x∈op.operands,InA F (ρ x))(hH:Agr F H H'):bY P kd ρ' H' b op=bY P kd ρ H b op:=by
 have one: ∀ {x:Operand},x∈op.operands→ρ' x=ρ x:=fun h=>hρ _ h;cases op<;>simp only[bY]
 case move x=>rw[hρ x (by simp[au1])]
 case assign x=>rw[hρ x (by simp[au1])]
 case pick c x y=>
  have h1:=hρ c (by simp[au1]);have h2:=hρ x (by simp[au1]);have h3:=hρ y (by simp[au1]);unfold TP;rw[h1];split
  ·simp only[h3]
  ·simp only[h2]
  ·simp only[h2,h3]
  ·rfl
 case box t x=>rw[hρ x (by simp[au1])]
 case build t ps=>
  have: ∀ zs,qC P ρ' t ps.toList zs=qC P ρ t ps.toList zs:=fun zs=>Zw _ _ fun p hp=>hρ p.2 (by
   simp only[au1,axN,avH];exact⟨p,hp,rfl⟩)
  simp only[this]
 case buildSlice t n ps=>
  have:qf ρ' 0 ps.toList=qf ρ 0 ps.toList:=YH _ _ fun p hp=>hρ p.2 (by
   simp only[au1,axN,avH];exact⟨p,hp,rfl⟩)
  simp only[this]
 case load t p=>
  have hF:=hF0.resolve_left (by simp[mov]);rw[hρ p (by simp[au1]),aiY (hF p (by simp[au1])) hH]
 case nilCheck p=>rw[hρ p (by simp[au1])]
 case binOp o t x y t2=>rw[hρ x (by simp[au1]),hρ y (by simp[au1])]
 case unOp o t x=>rw[hρ x (by simp[au1])]
 case convert src dst x=>
  have hF:=hF0.resolve_left (by simp[mov]);rw[hρ x (by simp[au1]),aa0 (hF x (by simp[au1])) hH]
 case makeSlice t l c=>rw[hρ l (by simp[au1]),hρ c (by simp[au1])]
 case slice t x lo hi mx=>
  have hF:=hF0.resolve_left (by simp[mov]);cases mx with
  | some m=>rfl
  | none=>
   have h1:=hρ x (by simp[au1]);have h2:lo.map ρ'=lo.map ρ:=by cases lo with
    | none=>rfl
    | some l=>exact congrArg some (hρ l (by simp[au1]))
   have h3:hi.map ρ'=hi.map ρ:=by cases hi with
    | none=>rfl
    | some l=>exact congrArg some (hρ l (by simp[au1]))
   simp only;rw[h1,h2,h3,LQ (hF x (by simp[au1])) hH]
 case fieldAddr t x f=>rw[hρ x (by simp[au1])]
 case field t x f=>rw[hρ x (by simp[au1])]
 case indexAddr t x ix=>
  have hF:=hF0.resolve_left (by simp[mov]);rw[hρ x (by simp[au1]),hρ ix (by simp[au1])];split
  ·rw[ach (hF x (by simp[au1])) hH]
  ·rfl
 case index t x ix=>rw[hρ x (by simp[au1]),hρ ix (by simp[au1])]
 case extract x i=>rw[hρ x (by simp[au1])]
 case call c=>
  have hF:=hF0.resolve_left (by simp[mov]);refine acQ (fun x hx=>hρ x ?_) (fun x hx=>hF x ?_) hH<;>
  ·simp only[au1,axh,awS];exact .inr (by simpa using hx)
end
end Go.VS
namespace Go.VS
open Go
inductive Fk where
 | no
 | kl
 | fz (k:K) (xs:List (Tof k))
def Fk.f(id:Nat):Fk→AV→AV
 | .no=>fun v=>v
 | .kl=>kl1 id
 | .fz k xs=>fz1 id k xs
structure Step where
 id:Nat
 fk:Fk
 ob:Option Ob
def S.app(s:S)(e:Step):S:=(s.map (e.fk.f e.id)).aop e.id e.ob
def ao1(F:Nat→Prop)(e:Step):Prop:= ∀ ob,e.ob=some ob→zc F ob
def Loc{α:Type}(F W:Nat→Prop)(g:S→Option (α×S))(s:S)(x:α)(s':S):Prop:=
 ∃ es:List Step,(∀ e∈es,W e.id∧ao1 F e)∧s'=es.foldl S.app s∧ ∀ s2:S,Agr F s.H s2.H→g s2=some (x,es.foldl S.app s2)
section
variable {F W:Nat→Prop} {H H':Hp} {P:Program} {kd:TypeId→Option K} {s s' s2:S} {b:Nat}
def aiX(v:AV):qI (fun v=>v) v=v:=by cases v<;>simp[qI]
def YN:(qI fun v=>v)=id:=funext aiX
def aiW(v:AV):rY (fun v=>v) v=v:=by
 cases v<;>simp[rY,YN]
 all_goals simp[qI]
def akO(v:AV):yi (fun v=>v) v=v:=by
 cases v with
 | gd g w v=>simp[yi,aiW]
 | tup vs=>simp[yi,rY,YN]
 | _=>simp[yi,rY,qI]
def aiV(o:Option Ob):iY (fun v=>v) o=o:=by
 cases o with
 | none=>rfl
 | some o=>cases o<;>simp[iY]
def map_id(s:S):s.map (fun v=>v)=s:=by
 cases s;simp[S.map,akO,aiV]
def ov(s:S)(id:Nat)(o:Option Ob):s.app ⟨id,.no,o⟩=s.aop id o:=by
 simp[S.app,Fk.f,map_id]
def Yn(s:S)(e:Step)(j:Nat):(s.app e).H j=if j=e.id then e.ob else iY (e.fk.f e.id) (s.H j):=by
 show upd (fun j=>iY (e.fk.f e.id) (s.H j)) e.id e.ob j=_;by_cases h:j=e.id
 ·subst h;rw[aD];simp
 ·rw[aM _ _ h];simp[h]
def Agr.app(h:Agr F s.H s2.H)(e:Step):Agr F (s.app e).H (s2.app e).H:=fun id hid=>by rw[Yn,Yn,h id hid]
def Agr.asA{es:List Step}(h:Agr F s.H s2.H):Agr F (es.foldl S.app s).H (es.foldl S.app s2).H:=by
 induction es generalizing s s2 with
 | nil=>exact h
 | cons e es ih=>exact ih (h.app e)
def Agr.refl(F:Nat→Prop)(H:Hp):Agr F H H:=fun _ _=>rfl
def Fk.arI(id:Nat)(fk:Fk){c:AV}(h:In1 F c):In1 F (fk.f id c):=by
 cases fk with
 | no=>exact h
 | kl=>
  show In1 F (kl1 id c);unfold kl1;split
  ·split
   ·trivial
   ·exact h
  ·split
   ·trivial
   ·exact h
  ·exact h
 | fz k xs=>
  show In1 F (fz1 id k xs c);unfold fz1;split
  ·split
   ·trivial
   ·exact h
  ·split
   ·trivial
   ·exact h
  ·exact h
def aeT{f:AV→AV}(hf: ∀ c,In1 F c→In1 F (f c)){o:Option Ob}(h: ∀ ob,o=some ob→zc F ob): ∀ ob,iY f o=some ob→zc F ob:=by
 intro ob e;cases o with
 | none=>cases e
 | some o=>
  have:=h o rfl;cases o with
  | box t cs=>
   cases e;intro c hc;obtain⟨c0,h0,rfl⟩:=avH.1 hc;exact hf _ (this c0 h0)
  | _=>cases e;trivial
def anN.app{e:Step}(h:anN F s.H)(he:ao1 F e):anN F (s.app e).H:=by
 intro j ob hj hob;rw[Yn]at hob;split at hob
 ·exact he ob hob
 ·exact aeT (fun c hc=>Fk.arI _ _ hc) (fun ob ho=>h j ob hj ho) ob hob
def Vl(s:S)(id:Nat): ∃ fk,s.freeze id=s.app ⟨id,fk,none⟩∧ ∀ s2:S,s2.H id=s.H id→s2.freeze id=s2.app ⟨id,fk,none⟩:=by
 cases h:s.H id with
 | none=>exact⟨.kl,by simp only[S.freeze,h];rfl,fun s2 h2=>by simp only[S.freeze,h2];rfl⟩
 | some ob=>
  cases ob with
  | row e fz k xs=>exact⟨.fz k xs,by simp only[S.freeze,h];rfl,fun s2 h2=>by simp only[S.freeze,h2];rfl⟩
  | box e cs=>exact⟨.kl,by simp only[S.freeze,h];rfl,fun s2 h2=>by simp only[S.freeze,h2];rfl⟩
  | arr e k xs=>exact⟨.kl,by simp only[S.freeze,h];rfl,fun s2 h2=>by simp only[S.freeze,h2];rfl⟩
def Ai: ∀ (ids:List Nat) (s:S),(∀ i∈ids,F i)→ ∃ es:List Step,(∀ e∈es,e.id∈ids∧e.ob=none)∧ids.foldl S.freeze s=es.foldl S.app s∧ ∀ s2:S,Agr F s.H s2.H→ids.foldl S.freeze s2=es.foldl S.app s2
 | [],s,_=>⟨[],by simp,rfl,fun _ _=>rfl⟩
 | i::ids,s,hF=>by
  obtain⟨fk,h1,h2⟩:=Vl s i;obtain⟨es,h3,h4,h5⟩:=Ai ids (s.freeze i) fun j hj=>hF j (auJ _ hj);refine⟨⟨i,fk,none⟩::es,fun e he=> ?_, ?_,fun s2 hs=> ?_⟩
  ·rcases au5.1 he with rfl | he
   ·exact⟨auM,rfl⟩
   ·exact⟨auJ _ (h3 e he).1,(h3 e he).2⟩
  ·show ids.foldl S.freeze (s.freeze i)=es.foldl S.app (s.app ⟨i,fk,none⟩);rw[h4,h1]
  ·have e1:=h2 s2 (hs i (hF i auM));simp only[avC,e1];refine h5 _ ?_;rw[h1];exact hs.app _
def YQ: ∀ (ids:List Nat) (s:S),∃ es:List Step,(∀ e∈es,e.id∈ids∧e.ob=none)∧ids.foldl S.kill s=es.foldl S.app s∧ ∀ s2:S,ids.foldl S.kill s2=es.foldl S.app s2
 | [],s=>⟨[],by simp,rfl,fun _=>rfl⟩
 | i::ids,s=>by
  obtain⟨es,h3,h4,h5⟩:=YQ ids (s.kill i);refine⟨⟨i,.kl,none⟩::es,fun e he=> ?_, ?_,fun s2=> ?_⟩
  ·rcases au5.1 he with rfl | he
   ·exact⟨auM,rfl⟩
   ·exact⟨auJ _ (h3 e he).1,(h3 e he).2⟩
  ·exact h4
  ·exact h5 _
def amT{k:K}{cs:List AV}(hc: ∀ c∈cs,In1 F c)(hH:Agr F H H'):dec H' k cs=dec H k cs:=by
 have key: ∀ c∈cs,∀ k,iT H' k c=iT H k c:=fun c hm k=>aa0 (.of1 (hc c hm)) hH;unfold dec;split<;>first | rfl | simp[key]
def Loc.mk1{α:Type}{g:S→Option (α×S)}{x:α}(e:Step)(hW:W e.id)(ho:ao1 F e)(h1:s'=s.app e)(h: ∀ s2:S,Agr F s.H s2.H→g s2=some (x,s2.app e)):Loc F W g s x s':=
 ⟨[e],fun e' he=>by simp at he;subst he;exact⟨hW,ho⟩,h1,h⟩
def aiA{ys:List AV}(hy: ∀ c∈ys,In1 F c): ∀ i∈ys.filterMap vH,F i:=by
 intro i hi;obtain⟨c,h1,h2⟩:=avU.1 hi;have:=hy c h1;cases c<;>first | (cases h2;done) | (cases h2;exact this)
def afL{t:TypeId}{x y:AV}(hx:InA F x)(hy:InA F y)(hcl:anN F s.H)(h:qV P t s x y=some s'):Loc F (fun i=>i∈JR s.H x y) (fun s=>(qV P t s x y).map fun s=>((),s)) s () s':=by
 cases x<;>first | (cases h;done) | skip
 rename_i id z i o;have hid:F id:=hx;simp only[qV]at h;split at h
 ·rename_i e cs hob;split at h
  ·obtain⟨ys,hc,h⟩:=auI.1 h;split at h
   ·rename_i hg;cases h;refine .mk1 ⟨id,.no,some (.box e (mJ cs o ys))⟩ (by simp[JR,hob]) ?_ (ov _ _ _).symm fun s2 h2=> ?_
    ·intro ob e';cases e';exact Of (hcl id _ hid hob) (HX hy hc)
    ·rw[ov];simp only[qV,h2 id hid,hob,hc,auE,hg];rfl
   ·cases h
  ·cases h
 ·rename_i e fz k xs hob;obtain⟨ys,hc,h⟩:=auI.1 h;split at h
  ·rename_i hg;obtain⟨v,hd,h⟩:=auI.1 h;cases h;have hys:=HX hy hc;obtain⟨es,h3,h4,h5⟩:=Ai (F:=F) (ys.filterMap vH) s (aiA hys);refine⟨es++[⟨id,.no,some (.row e fz k (xs.set i v))⟩],fun e' he=> ?_, ?_,fun s2 h2=> ?_⟩
   ·have hsw:JR s.H (.ptr id z i o) y=id::ys.filterMap vH:=by simp[JR,hob,hc]
    rw[hsw];rcases auX.1 he with he | he
    ·exact⟨auJ _ (h3 e' he).1,fun ob eo=>by rw[(h3 e' he).2]at eo;cases eo⟩
    ·simp at he;subst he;exact⟨auM,fun ob eo=>by cases eo;trivial⟩
   ·rw[awf,← h4];exact(ov _ _ _).symm
   ·rw[awf,← h5 s2 h2];have hd2:dec s2.H k (mJ (enc k (xs.getD i (dfl k))) o ys)=some v:=by
     rw[amT (Of (M9 _ _) hys) h2];exact hd
    simp only[qV,h2 id hid,hob,hc,auE,hg,hd2,avC,axa,ov];rfl
  ·cases h
 ·rename_i e k xs hob;obtain⟨ys,hc,h⟩:=auI.1 h;split at h
  ·rename_i hg;obtain⟨v,hd,h⟩:=auI.1 h;cases h;refine .mk1 ⟨id,.no,some (.arr e k (xs.set i v))⟩ (by simp[JR,hob]) (fun ob e'=>by cases e';trivial) (ov _ _ _).symm fun s2 h2=> ?_;rw[ov];simp only[qV,h2 id hid,hob,hc,auE,hg,hd];rfl
  ·cases h
 ·cases h
def aet{t t2:TypeId}{x y v:AV}{q:Bool}(hx:InA F x)(hy:InA F y)(hb:F b)(h:tG P kd t t2 s b x y=some (q,v,s')):
  Loc F (fun i=>i=b∨i∈TW x) (fun s=>(tG P kd t t2 s b x y).map fun r=>((r.1,r.2.1),r.2.2)) s (q,v) s'∧InA F v:=by
 unfold tG at h;obtain⟨e,he,h1⟩:=auI.1 h;obtain⟨k,hk,h2⟩:=auI.1 h1;obtain⟨ys,hys,h3⟩:=auI.1 h2;clear h h1 h2;revert h3;intro h;split at h
 ·rename_i hg;cases h;refine⟨.mk1 ⟨b,.no,some (.row e false k ys)⟩ (.inl rfl) (fun ob e'=>by cases e';trivial) (ov _ _ _).symm fun s2 h2=> ?_,.of1 hb⟩;rw[ov];simp only[tG,he,hk,auE,ZQ hy h2,hys,hg];rfl
 ·rename_i id hg;have hid:F id:=hx;split at h
  ·rename_i e' k' xs hob hne;split at h
   ·rename_i hee;obtain⟨zs,hz,h⟩:=auI.1 h;cases h;refine⟨.mk1 ⟨id,.kl,some (.row e false k (zs++ys))⟩ (.inr (by simp[TW,vH])) (fun ob e'=>by cases e';trivial) rfl fun s2 h2=> ?_,.of1 hid⟩;simp only[tG,he,hk,auE,ZQ hy h2,hys,hg,h2 id hid,hob,hne,hee,hz];rfl
   ·cases h
  ·cases h
 ·cases h
def ajN{t:TypeId}{x y v:AV}(hx:InA F x)(hy:InA F y)(h:Ju P t s x y=some (v,s')):
  Loc F (fun i=>i∈TW x) (fun s=>Ju P t s x y) s v s'∧InA F v:=by
 unfold Ju at h;split at h
 ·rename_i id;have hid:F id:=hx;split at h
  ·rename_i e fz k xs hob hne;obtain⟨e',he,h⟩:=auI.1 h;split at h
   ·rename_i hg;obtain⟨ys,hys,h⟩:=auI.1 h;cases h;refine⟨.mk1 ⟨id,.no,some (.row e fz k (ys.take xs.length++xs.drop ys.length))⟩ (by simp[TW,vH]) (fun ob e'=>by cases e';trivial) (ov _ _ _).symm fun s2 h2=> ?_,.of1 trivial⟩;rw[ov];simp only[Ju,h2 id hid,hob,hne,he,auE,hg,ZQ hy h2,hys]
   ·cases h
  ·cases h
 ·cases h
def ZV{id:Nat}{z:Bool}{lo hi:Option AV}{v:AV}{q:Bool}(hid:F id)(h:mY s id z lo hi=some (q,v,s')):
  Loc F (fun i=>i=id) (fun s=>(mY s id z lo hi).map fun r=>((r.1,r.2.1),r.2.2)) s (q,v) s'∧InA F v:=by
 unfold mY at h;split at h
 ·rename_i e fz k xs hob;obtain⟨⟨c,l,hh⟩,hc,h⟩:=auI.1 h;simp only at h;split at h
  ·cases h;refine⟨.mk1 ⟨id,.kl,some (.row e fz k (PV lo none l hh xs))⟩ rfl (fun ob e'=>by cases e';trivial) rfl fun s2 h2=> ?_,.of1 hid⟩;simp only[mY,h2 id hid,hob,hc,auE];rfl
  ·cases h
  ·cases h;obtain⟨fk,h1,h2⟩:=Vl s id;refine⟨.mk1 ⟨id,fk,none⟩ rfl (fun ob e'=>by cases e') h1 fun s2 h3=> ?_,.of1 trivial⟩;rw[← h2 s2 (h3 id hid)];simp only[mY,h3 id hid,hob,hc,auE];rfl
 ·cases h
end
end Go.VS
namespace Go.VS
open Go
abbrev vE(es:List (Nat×Ob))(H:Hp):Hp:=es.foldl (fun H p=>upd H p.1 (some p.2)) H
section
variable {F W:Nat→Prop} {H H':Hp} {P:Program} {s s' s2:S} {b:Nat} {E:Nat→AV}
set_option linter.unusedSectionVars false
def InA.anL{cs:List AV}(h: ∀ c∈cs,In1 F c): ∀ c∈cs,InA F c:=fun c hc=> .of1 (h c hc)
section eqs
variable (hH:Agr F H H') (hC:anN F H)
include hH hC
mutual
theorem akw: ∀ (h:Sh) (v:AV),InA F v→eY E H' h v=eY E H h v
 | .int _,v,_=>by cases v with
  | lit v=>cases v<;>rfl
  | _=>rfl
 | .bool,v,_=>by cases v with
  | lit v=>cases v<;>rfl
  | _=>rfl
 | .str,v,_=>by cases v with
  | lit v=>cases v<;>rfl
  | _=>rfl
 | .sl _,v,_=>by
  cases v with
  | lit v=>cases v with
   | slice a n c=>cases a<;>cases n<;>cases c<;>rfl
   | _=>rfl
  | _=>rfl
 | .arr _,v,_=>by cases v<;>rfl
 | .same _,v,_=>by
  cases v with
  | ptr id z i o=>cases i<;>cases o<;>rfl
  | _=>rfl
 | .fz k,v,hv=>aa0 hv hH
 | .row e k,v,hv=>by
  cases v with
  | own id=>simp only[eY,hH id hv]
  | lit v=>cases v with
   | slice a n c=>cases a<;>cases n<;>cases c<;>rfl
   | _=>rfl
  | _=>rfl
 | .an1 e k,v,hv=>by
  cases v with
  | own id=>simp only[eY,hH id hv]
  | _=>rfl
 | .abx e k,v,hv=>by
  cases v with
  | ptr id z i o=>cases i<;>cases o<;>first | rfl | simp only[eY,hH id hv]
  | _=>rfl
 | .agg l,v,hv=>by
  cases v with
  | agg cs=>exact FO l cs (InA.anL hv)
  | _=>rfl
 | .box e l,v,hv=>by
  cases v with
  | ptr id z i o=>
   cases i<;>cases o<;>first | rfl | skip
   simp only[eY,hH id hv];cases ho:H id with
   | none=>rfl
   | some ob=>
    cases ob with
    | box e' cs=>
     have:=FO l cs (InA.anL (hC id _ hv ho));simp only[this]
    | _=>rfl
  | _=>rfl
theorem FO: ∀ (l:List Sh) (cs:List AV),(∀ c∈cs,InA F c)→rV E H' l cs=rV E H l cs
 | [],[],_=>rfl
 | [],_::_,_=>rfl
 | _::_,[],_=>rfl
 | h::l,c::cs,hv=>by
  simp only[rV,akw h c (hv c auM),FO l cs fun d hd=>hv d (auJ _ hd)]
end
mutual
theorem ak0: ∀ (h:Sh) (v:AV),InA F v→kD H' h v=kD H h v
 | .int _,_,_=>rfl
 | .bool,_,_=>rfl
 | .str,_,_=>rfl
 | .sl _,_,_=>rfl
 | .arr _,_,_=>rfl
 | .same _,_,_=>rfl
 | .fz k,_,_=>rfl
 | .row e k,v,_=>by cases v<;>rfl
 | .an1 e k,v,_=>by cases v<;>rfl
 | .abx e k,v,_=>by
  cases v with
  | ptr id z i o=>cases i<;>cases o<;>rfl
  | _=>rfl
 | .agg l,v,hv=>by
  cases v with
  | agg cs=>exact Gt l cs (InA.anL hv)
  | _=>rfl
 | .box e l,v,hv=>by
  cases v with
  | ptr id z i o=>
   cases i<;>cases o<;>first | rfl | skip
   simp only[kD,hH id hv];cases ho:H id with
   | none=>rfl
   | some ob=>
    cases ob with
    | box e' cs=>
     have:=Gt l cs (InA.anL (hC id _ hv ho));simp only[this]
    | _=>rfl
  | _=>rfl
theorem Gt: ∀ (l:List Sh) (cs:List AV),(∀ c∈cs,InA F c)→cn H' l cs=cn H l cs
 | [],_,_=>by simp only[cn]
 | _::_,[],_=>by simp only[cn]
 | h::l,c::cs,hv=>by
  simp only[cn,ak0 h c (hv c auM),Gt l cs fun d hd=>hv d (auJ _ hd)]
end
mutual
theorem akt: ∀ (h:Sh) (v:AV),InA F v→iG H' h v=iG H h v
 | .int _,_,_=>rfl
 | .bool,_,_=>rfl
 | .str,_,_=>rfl
 | .sl _,_,_=>rfl
 | .arr _,_,_=>rfl
 | .same _,_,_=>rfl
 | .fz k,_,_=>rfl
 | .row e k,v,_=>by cases v<;>rfl
 | .an1 e k,v,_=>by cases v<;>rfl
 | .abx e k,v,_=>by
  cases v with
  | ptr id z i o=>cases i<;>cases o<;>rfl
  | _=>rfl
 | .agg l,v,hv=>by
  cases v with
  | agg cs=>exact FN l cs (InA.anL hv)
  | _=>rfl
 | .box e l,v,hv=>by
  cases v with
  | ptr id z i o=>
   cases i<;>cases o<;>first | rfl | skip
   simp only[iG,hH id hv];cases ho:H id with
   | none=>rfl
   | some ob=>
    cases ob with
    | box e' cs=>
     have:=FN l cs (InA.anL (hC id _ hv ho));simp only[this]
    | _=>rfl
  | _=>rfl
theorem FN: ∀ (l:List Sh) (cs:List AV),(∀ c∈cs,InA F c)→dV H' l cs=dV H l cs
 | [],_,_=>by simp only[dV]
 | _::_,[],_=>by simp only[dV]
 | h::l,c::cs,hv=>by
  simp only[dV,akt h c (hv c auM),FN l cs fun d hd=>hv d (auJ _ hd)]
end
mutual
theorem ak8: ∀ (h:Sh) (v:AV),InA F v→lG H' h v=lG H h v
 | .int _,_,_=>rfl
 | .bool,_,_=>rfl
 | .str,_,_=>rfl
 | .sl _,_,_=>rfl
 | .arr _,_,_=>rfl
 | .same _,_,_=>rfl
 | .fz k,v,_=>by cases v<;>rfl
 | .row e k,_,_=>rfl
 | .an1 e k,_,_=>rfl
 | .abx e k,_,_=>rfl
 | .agg l,v,hv=>by
  cases v with
  | agg cs=>exact M3 l cs (InA.anL hv)
  | _=>rfl
 | .box e l,v,hv=>by
  cases v with
  | ptr id z i o=>
   cases i<;>cases o<;>first | rfl | skip
   simp only[lG,hH id hv];cases ho:H id with
   | none=>rfl
   | some ob=>
    cases ob with
    | box e' cs=>
     have:=M3 l cs (InA.anL (hC id _ hv ho));simp only[this]
    | _=>rfl
  | _=>rfl
theorem M3: ∀ (l:List Sh) (cs:List AV),(∀ c∈cs,InA F c)→eX H' l cs=eX H l cs
 | [],_,_=>by simp only[eX]
 | _::_,[],_=>by simp only[eX]
 | h::l,c::cs,hv=>by
  simp only[eX,ak8 h c (hv c auM),M3 l cs fun d hd=>hv d (auJ _ hd)]
end
end eqs
section mem
variable (hC:anN F H)
include hC
mutual
theorem aku: ∀ (h:Sh) (v:AV),InA F v→ ∀ i∈iG H h v,F i
 | .int _,_,_,_,hi=>by simp[iG]at hi
 | .bool,_,_,_,hi=>by simp[iG]at hi
 | .str,_,_,_,hi=>by simp[iG]at hi
 | .sl _,_,_,_,hi=>by simp[iG]at hi
 | .arr _,_,_,_,hi=>by simp[iG]at hi
 | .same _,_,_,_,hi=>by simp[iG]at hi
 | .fz k,_,_,_,hi=>by simp[iG]at hi
 | .row e k,v,hv,i,hi=>by
  cases v<;>simp[iG]at hi;subst hi;exact hv
 | .an1 e k,v,hv,i,hi=>by
  cases v<;>simp[iG]at hi;subst hi;exact hv
 | .abx e k,v,hv,j,hi=>by
  cases v with
  | ptr id z i o=>
   cases i<;>cases o<;>simp[iG]at hi;subst hi;exact hv
  | _=>simp[iG]at hi
 | .agg l,v,hv,j,hi=>by
  cases v with
  | agg cs=>exact LV l cs (InA.anL hv) j (by simpa[iG] using hi)
  | _=>simp[iG]at hi
 | .box e l,v,hv,j,hi=>by
  cases v with
  | ptr id z i o=>
   cases i<;>cases o<;>simp only[iG]at hi<;>first | (simp at hi;done) | skip
   cases ho:H id with
   | none=>simp[ho]at hi
   | some ob=>
    cases ob with
    | box e' cs=>
     simp only[ho]at hi;exact LV l cs (InA.anL (hC id _ hv ho)) j hi
    | _=>simp[ho]at hi
  | _=>simp[iG]at hi
theorem LV: ∀ (l:List Sh) (cs:List AV),(∀ c∈cs,InA F c)→ ∀ i∈dV H l cs,F i
 | [],cs,_,i,hi=>by simp[dV]at hi
 | _::_,[],_,i,hi=>by simp[dV]at hi
 | h::l,c::cs,hv,i,hi=>by
  simp only[dV,auX]at hi;rcases hi with hi | hi
  ·exact aku h c (hv c auM) i hi
  ·exact LV l cs (fun d hd=>hv d (auJ _ hd)) i hi
end
mutual
theorem ak9: ∀ (h:Sh) (v:AV),InA F v→ ∀ i∈lG H h v,F i
 | .int _,_,_,_,hi=>by simp[lG]at hi
 | .bool,_,_,_,hi=>by simp[lG]at hi
 | .str,_,_,_,hi=>by simp[lG]at hi
 | .sl _,_,_,_,hi=>by simp[lG]at hi
 | .arr _,_,_,_,hi=>by simp[lG]at hi
 | .same _,_,_,_,hi=>by simp[lG]at hi
 | .row e k,_,_,_,hi=>by simp[lG]at hi
 | .an1 e k,_,_,_,hi=>by simp[lG]at hi
 | .abx e k,_,_,_,hi=>by simp[lG]at hi
 | .fz k,v,hv,i,hi=>by
  cases v<;>simp[lG]at hi;subst hi;exact hv
 | .agg l,v,hv,j,hi=>by
  cases v with
  | agg cs=>exact Gu l cs (InA.anL hv) j (by simpa[lG] using hi)
  | _=>simp[lG]at hi
 | .box e l,v,hv,j,hi=>by
  cases v with
  | ptr id z i o=>
   cases i<;>cases o<;>simp only[lG]at hi<;>first | (simp at hi;done) | skip
   cases ho:H id with
   | none=>simp[ho]at hi
   | some ob=>
    cases ob with
    | box e' cs=>
     simp only[ho]at hi;exact Gu l cs (InA.anL (hC id _ hv ho)) j hi
    | _=>simp[ho]at hi
  | _=>simp[lG]at hi
theorem Gu: ∀ (l:List Sh) (cs:List AV),(∀ c∈cs,InA F c)→ ∀ i∈eX H l cs,F i
 | [],cs,_,i,hi=>by simp[eX]at hi
 | _::_,[],_,i,hi=>by simp[eX]at hi
 | h::l,c::cs,hv,i,hi=>by
  simp only[eX,auX]at hi;rcases hi with hi | hi
  ·exact ak9 h c (hv c auM) i hi
  ·exact Gu l cs (fun d hd=>hv d (auJ _ hd)) i hi
end
end mem
mutual
theorem dC (E:Nat→AV): ∀ (h:Sh) (H:Hp) (b:Nat) (x:LT h),b≤(cY E H b h x).2.2
 | .int _,_,b,_=>auS b
 | .bool,_,b,_=>auS b
 | .str,_,b,_=>auS b
 | .sl _,_,b,_=>auS b
 | .arr _,_,b,_=>auS b
 | .same _,_,b,_=>auS b
 | .fz _,_,b,_=>auS b
 | .row _ _,_,b,_=>azs b
 | .an1 _ _,_,b,_=>azs b
 | .abx _ _,_,b,_=>azs b
 | .agg l,H,b,x=>by
  have:=jS E l H b x;show b≤((match aC E H b l x with | (cs,H,b)=>(AV.agg cs,H,b)):AV×Hp×Nat).2.2;generalize aC E H b l x=r at *;obtain⟨cs,H',b'⟩:=r;exact this
 | .box e l,H,b,x=>by
  have:=jS E l H b x;show b≤((match aC E H b l x with | (cs,H,b)=>(AV.ptr b cs.length 0 0,upd H b (some (.box e cs)),b+1)):AV×Hp×Nat).2.2;generalize aC E H b l x=r at *;obtain⟨cs,H',b'⟩:=r;exact Nat.le_succ_of_le this
theorem jS (E:Nat→AV): ∀ (l:List Sh) (H:Hp) (b:Nat) (x:LTs l),b≤(aC E H b l x).2.2
 | [],_,b,_=>auS b
 | h::l,H,b,x=>by
  have h1:=dC E h H b x.1;show b≤((match cY E H b h x.1 with | (c,H,b)=>match aC E H b l x.2 with | (cs,H,b)=>(c::cs,H,b)):List AV×Hp×Nat).2.2;generalize cY E H b h x.1=r at *;obtain⟨c,H',b'⟩:=r;have h2:=jS E l H' b' x.2;show b≤((match aC E H' b' l x.2 with | (cs,H,b)=>(c::cs,H,b)):List AV×Hp×Nat).2.2;generalize aC E H' b' l x.2=r at *;obtain⟨cs,H'',b''⟩:=r;exact avr h1 h2
end
mutual
theorem Um (E:Nat→AV) (H H':Hp): ∀ (h:Sh) (b:Nat) (x:LT h),(cY E H b h x).1=(cY E H' b h x).1∧(cY E H b h x).2.2=(cY E H' b h x).2.2
 | .int _,_,_=>⟨rfl,rfl⟩
 | .bool,_,_=>⟨rfl,rfl⟩
 | .str,_,_=>⟨rfl,rfl⟩
 | .sl _,_,_=>⟨rfl,rfl⟩
 | .arr _,_,_=>⟨rfl,rfl⟩
 | .same _,_,_=>⟨rfl,rfl⟩
 | .fz _,_,_=>⟨rfl,rfl⟩
 | .row _ _,_,_=>⟨rfl,rfl⟩
 | .an1 _ _,_,_=>⟨rfl,rfl⟩
 | .abx _ _,_,_=>⟨rfl,rfl⟩
 | .agg l,b,x=>by
  have:=uv E H H' l b x;have un: ∀ H,cY E H b (.agg l) x=(match aC E H b l x with | (cs,H,b)=>(AV.agg cs,H,b)):=fun _=>rfl;rw[un,un];generalize aC E H b l x=r at *;generalize aC E H' b l x=r' at *;obtain⟨cs,H1,b1⟩:=r;obtain⟨cs',H1',b1'⟩:=r';obtain⟨rfl,rfl⟩:=this;exact⟨rfl,rfl⟩
 | .box e l,b,x=>by
  have:=uv E H H' l b x;have un: ∀ H,cY E H b (.box e l) x=(match aC E H b l x with | (cs,H,b)=>(AV.ptr b cs.length 0 0,upd H b (some (.box e cs)),b+1)):=fun _=>rfl;rw[un,un];generalize aC E H b l x=r at *;generalize aC E H' b l x=r' at *;obtain⟨cs,H1,b1⟩:=r;obtain⟨cs',H1',b1'⟩:=r';obtain⟨rfl,rfl⟩:=this;exact⟨rfl,rfl⟩
theorem uv (E:Nat→AV) (H H':Hp): ∀ (l:List Sh) (b:Nat) (x:LTs l),(aC E H b l x).1=(aC E H' b l x).1∧(aC E H b l x).2.2=(aC E H' b l x).2.2
 | [],_,_=>⟨rfl,rfl⟩
 | h::l,b,x=>by
  have h1:=Um E H H' h b x.1;have un: ∀ H,aC E H b (h::l) x=(match cY E H b h x.1 with | (c,H,b)=>match aC E H b l x.2 with | (cs,H,b)=>(c::cs,H,b)):=fun _=>rfl;rw[un,un];generalize cY E H b h x.1=r at *;generalize cY E H' b h x.1=r' at *;obtain⟨c,H1,b1⟩:=r;obtain⟨c',H1',b1'⟩:=r';obtain⟨rfl,rfl⟩:=h1;have h2:=uv E H1 H1' l b1 x.2;simp only;generalize aC E H1 b1 l x.2=r at *;generalize aC E H1' b1 l x.2=r' at *;obtain⟨cs,H2,b2⟩:=r;obtain⟨cs',H2',b2'⟩:=r';obtain⟨rfl,rfl⟩:=h2;exact⟨rfl,rfl⟩
end
mutual
theorem Mj (E:Nat→AV): ∀ (h:Sh) (b:Nat) (x:LT h) (L:Nat),eg h=true→(∀ j,b≤j→j < L→F j∧W j)→(∀ H,(cY E H b h x).2.2≤L)→
  ∃ v es b',In1 F v∧(∀ p∈es,W p.1∧zc F p.2)∧ ∀ H,cY E H b h x=(v,vE es H,b')
 | .int k,b,x,_,_,_,_=>⟨.lit (.int k x),[],b,trivial,by simp,fun _=>rfl⟩
 | .bool,b,x,_,_,_,_=>⟨.b x,[],b,trivial,by simp,fun _=>rfl⟩
 | .str,b,x,_,_,_,_=>⟨.s x,[],b,trivial,by simp,fun _=>rfl⟩
 | .sl k,b,x,_,_,_,_=>⟨.sl k x,[],b,trivial,by simp,fun _=>rfl⟩
 | .arr _,_,_,_,h,_,_=>by simp[eg]at h
 | .same _,_,_,_,h,_,_=>by simp[eg]at h
 | .fz k,b,x,_,_,_,_=>⟨.sl k x,[],b,trivial,by simp,fun _=>rfl⟩
 | .row e k,b,x,L,_,hF,hL=>⟨.own b,[(b,.row e false k x)],b+1,(hF b (auS b) (hL fun _=>none)).1,fun p hp=>by
   simp at hp;subst hp;exact⟨(hF b (auS b) (hL fun _=>none)).2,trivial⟩,fun _=>rfl⟩
 | .an1 e k,b,x,L,_,hF,hL=>⟨.own b,[(b,.row e true k x)],b+1,(hF b (auS b) (hL fun _=>none)).1,fun p hp=>by
   simp at hp;subst hp;exact⟨(hF b (auS b) (hL fun _=>none)).2,trivial⟩,fun _=>rfl⟩
 | .abx e k,b,x,L,_,hF,hL=>⟨.ptr b (ks k) 0 0,[(b,.arr e k x)],b+1,(hF b (auS b) (hL fun _=>none)).1,fun p hp=>by
   simp at hp;subst hp;exact⟨(hF b (auS b) (hL fun _=>none)).2,trivial⟩,fun _=>rfl⟩
 | .agg _,_,_,_,h,_,_=>by simp[eg]at h
 | .box e l,b,x,L,h,hF,hL=>by
  have un: ∀ H,cY E H b (.box e l) x=(match aC E H b l x with | (cs,H,b)=>(AV.ptr b cs.length 0 0,upd H b (some (.box e cs)),b+1)):=fun _=>rfl;have hL': ∀ H,(aC E H b l x).2.2+1≤L:=fun H=>by
   have:=hL H;rw[un]at this;generalize aC E H b l x=r at *;exact this
  obtain⟨vs,es,b',h1,h2,h3⟩:=OD E l b x L (by simpa[eg] using h) hF (fun H=>Nat.le_of_succ_le (hL' H));have hb':b' < L:=by have:=hL' fun _=>none;rw[h3]at this;exact this
  have hbb:b≤b':=by have:=jS E l (fun _=>none) b x;rw[h3]at this;exact this
  refine⟨.ptr b' vs.length 0 0,es++[(b',.box e vs)],b'+1,(hF b' hbb hb').1,fun p hp=> ?_,fun H=> ?_⟩
  ·rcases auX.1 hp with hp | hp
   ·exact h2 p hp
   ·simp at hp;subst hp;exact⟨(hF b' hbb hb').2,h1⟩
  ·rw[un,h3];simp[vE,awf]
theorem OD (E:Nat→AV): ∀ (l:List Sh) (b:Nat) (x:LTs l) (L:Nat),k0 l=true→(∀ j,b≤j→j < L→F j∧W j)→(∀ H,(aC E H b l x).2.2≤L)→
  ∃ vs es b',(∀ v∈vs,In1 F v)∧(∀ p∈es,W p.1∧zc F p.2)∧ ∀ H,aC E H b l x=(vs,vE es H,b')
 | [],b,_,_,_,_,_=>⟨[],[],b,by simp,by simp,fun _=>rfl⟩
 | h::l,b,x,L,hl,hF,hL=>by
  simp only[k0,auF]at hl;have un: ∀ H,aC E H b (h::l) x=(match cY E H b h x.1 with | (c,H,b)=>match aC E H b l x.2 with | (cs,H,b)=>(c::cs,H,b)):=fun _=>rfl;have hL1: ∀ H,(cY E H b h x.1).2.2≤L:=fun H=>by
   have:=hL H;rw[un]at this;generalize cY E H b h x.1=r at *;obtain⟨c,H',b'⟩:=r;have h2:=jS E l H' b' x.2;simp only at this;generalize aC E H' b' l x.2=r at *;exact avr h2 this
  obtain⟨v,es,b',h1,h2,h3⟩:=Mj E h b x.1 L hl.1 hF hL1;have hbb:b≤b':=by have:=dC E h (fun _=>none) b x.1;rw[h3]at this;exact this
  have hL2: ∀ H,(aC E H b' l x.2).2.2≤L:=fun H=>by
   have:=hL H;rw[un,h3]at this;simp only at this;rw[(uv E H (vE es H) l b' x.2).2];generalize aC E (vE es H) b' l x.2=r at *;exact this
  obtain⟨vs,es',b'',h4,h5,h6⟩:=OD E l b' x.2 L hl.2 (fun j h1 h2=>hF j (avr hbb h1) h2) hL2;refine⟨v::vs,es++es',b'',fun c hc=> ?_,fun p hp=> ?_,fun H=> ?_⟩
  ·rcases au5.1 hc with rfl | hc
   ·exact h1
   ·exact h4 c hc
  ·rcases auX.1 hp with hp | hp
   ·exact h2 p hp
   ·exact h5 p hp
  ·rw[un,h3];simp only[h6,vE,awf]
end
def Ph{E:Nat→AV}{H:Hp}{b:Nat}{h:Sh}{v:AV}{x:LT h}(hl:eg h=true)(hn: ∀ e l,h= .box e l→ ∀ id z,v≠ .ptr id z 0 0):nC E H b h v x=cY E H b h x:=by
 cases h<;>first | rfl | (simp[eg]at hl;done) | skip
 rename_i e l;cases v<;>first | rfl | skip
 rename_i id z i o;cases i<;>cases o<;>first | rfl | exact absurd rfl (hn e l rfl id z)
mutual
theorem ae8 (E:Nat→AV): ∀ (h:Sh) (H:Hp) (b:Nat) (v:AV) (x:LT h),eg h=true→b≤(nC E H b h v x).2.2
 | .box e l,H,b,v,x,hl=>by
  by_cases hv: ∃ id z,v= .ptr id z 0 0
  ·obtain⟨id,z,rfl⟩:=hv;have un:nC E H b (.box e l) (.ptr id z 0 0) x=(match H id with
    | some (.box _ cs)=>(match bL E H b l cs x with | (ds,H,b)=>(AV.ptr id z 0 0,upd H id (some (.box e ds)),b))
    | _=>(.un,H,b)):=rfl
   rw[un];cases H id with
   | none=>exact auS b
   | some ob=>
    cases ob with
    | box e' cs=>
     have:=M0 E l H b cs x (by simpa[eg] using hl);simp only;generalize bL E H b l cs x=r at *;obtain⟨ds,H',b'⟩:=r;exact this
    | _=>exact auS b
  ·rw[Ph hl (fun _ _ _ id z e=>hv ⟨id,z,e⟩)];exact dC E _ H b x
 | .int _,H,b,v,x,hl=>dC E _ H b x
 | .bool,H,b,v,x,hl=>dC E _ H b x
 | .str,H,b,v,x,hl=>dC E _ H b x
 | .sl _,H,b,v,x,hl=>dC E _ H b x
 | .row _ _,H,b,v,x,hl=>dC E _ H b x
 | .fz _,H,b,v,x,hl=>dC E _ H b x
 | .an1 _ _,H,b,v,x,hl=>dC E _ H b x
 | .abx _ _,H,b,v,x,hl=>dC E _ H b x
 | .arr _,H,b,v,x,hl=>dC E _ H b x
 | .same _,_,_,_,_,hl=>by simp[eg]at hl
 | .agg _,_,_,_,_,hl=>by simp[eg]at hl
theorem M0 (E:Nat→AV): ∀ (l:List Sh) (H:Hp) (b:Nat) (cs:List AV) (x:LTs l),k0 l=true→b≤(bL E H b l cs x).2.2
 | [],_,b,_,_,_=>auS b
 | h::l,H,b,cs,x,hl=>by
  simp only[k0,auF]at hl;have h1:=ae8 E h H b (cs.headD .un) x.1 hl.1;have un:bL E H b (h::l) cs x=(match nC E H b h (cs.headD .un) x.1 with | (d,H,b)=>match bL E H b l cs.tail x.2 with | (ds,H,b)=>(d::ds,H,b)):=rfl;rw[un];generalize nC E H b h (cs.headD .un) x.1=r at *;obtain⟨c,H',b'⟩:=r;have h2:=M0 E l H' b' cs.tail x.2 hl.2;simp only;generalize bL E H' b' l cs.tail x.2=r at *;obtain⟨cs,H'',b''⟩:=r;exact avr h1 h2
end
def aij{es:List (Nat×Ob)}(h:Agr F H H'):Agr F (vE es H) (vE es H'):=by
 induction es generalizing H H' with
 | nil=>exact h
 | cons p es ih=>
  refine ih fun id hid=> ?_;by_cases e:id=p.1
  ·subst e;simp only[aD]
  ·simp only[aM _ _ e];exact h id hid
def abu{es:List (Nat×Ob)}(h:anN F H)(he: ∀ p∈es,zc F p.2):anN F (vE es H):=by
 induction es generalizing H with
 | nil=>exact h
 | cons p es ih=>
  refine ih (fun id ob hid ho=> ?_) (fun q hq=>he q (auJ _ hq));by_cases e:id=p.1
  ·subst e;simp only[aD]at ho;cases ho;exact he p auM
  ·simp only[aM _ _ e]at ho;exact h id ob hid ho
def QD{E:Nat→AV}{H:Hp}{b:Nat}{h:Sh}{v:AV}{x:LT h}{L:Nat}(eq: ∀ H,nC E H b h v x=cY E H b h x)(hl:eg h=true)(hF: ∀ j,b≤j→j < L→F j)(hL:(nC E H b h v x).2.2≤L):
  ∃ v' es b',In1 F v'∧(∀ p∈es,F p.1∧zc F p.2)∧ ∀ H',Agr F H H'→nC E H' b h v x=(v',vE es H',b'):=by
 obtain⟨v',es,b',h1,h2,h3⟩:=Mj (F:=F) (W:=F) E h b x L hl (fun j h1 h2=>⟨hF j h1 h2,hF j h1 h2⟩) (fun H0=>by rw[(Um E H0 H _ b x).2,← eq H];exact hL);exact⟨v',es,b',h1,h2,fun H' _=>by rw[eq,h3]⟩
mutual
theorem ajf (E:Nat→AV): ∀ (h:Sh) (H:Hp) (b:Nat) (v:AV) (x:LT h) (L:Nat),eg h=true→(∀ j,b≤j→j < L→F j)→InA F v→anN F H→(nC E H b h v x).2.2≤L→
  ∃ v' es b',In1 F v'∧(∀ p∈es,F p.1∧zc F p.2)∧ ∀ H',Agr F H H'→nC E H' b h v x=(v',vE es H',b')
 | .box e l,H,b,v,x,L,hl,hF,hv,hC,hL=>by
  by_cases hp: ∃ id z,v= .ptr id z 0 0
  ·obtain⟨id,z,rfl⟩:=hp;have un: ∀ H,nC E H b (.box e l) (.ptr id z 0 0) x=(match H id with
    | some (.box _ cs)=>(match bL E H b l cs x with | (ds,H,b)=>(AV.ptr id z 0 0,upd H id (some (.box e ds)),b))
    | _=>(.un,H,b)):=fun _=>rfl
   have hid:F id:=hv;cases ho:H id with
   | none=>exact⟨.un,[],b,trivial,by simp,fun H' h=>by rw[un,h id hid,ho];rfl⟩
   | some ob=>
    cases ob with
    | box e' cs=>
     rw[un,ho]at hL;have hL':(bL E H b l cs x).2.2≤L:=by
      simp only at hL;generalize bL E H b l cs x=r at *;exact hL
     obtain⟨vs,es,b',h1,h2,h3⟩:=Pg E l H b cs x L (by simpa[eg] using hl) hF (InA.anL (hC id _ hid ho)) hC hL';refine⟨.ptr id z 0 0,es++[(id,.box e vs)],b',hid,fun p hp=> ?_,fun H' h=> ?_⟩
     ·rcases auX.1 hp with hp | hp
      ·exact h2 p hp
      ·simp at hp;subst hp;exact⟨hid,h1⟩
     ·rw[un,h id hid,ho];simp only[h3 H' h,vE,awf,avC,axa]
    | row=>exact⟨.un,[],b,trivial,by simp,fun H' h=>by rw[un,h id hid,ho];rfl⟩
    | arr=>exact⟨.un,[],b,trivial,by simp,fun H' h=>by rw[un,h id hid,ho];rfl⟩
  ·have eq: ∀ H,nC E H b (.box e l) v x=cY E H b (.box e l) x:=fun H=>Ph hl (fun _ _ _ id z e=>hp ⟨id,z,e⟩);obtain⟨v',es,b',h1,h2,h3⟩:=Mj (F:=F) (W:=F) E (.box e l) b x L hl (fun j h1 h2=>⟨hF j h1 h2,hF j h1 h2⟩) (fun H0=>by rw[(Um E H0 H _ b x).2,← eq H];exact hL);exact⟨v',es,b',h1,h2,fun H' _=>by rw[eq,h3]⟩
 | .int k,H,b,v,x,L,hl,hF,hv,hC,hL=>QD (fun H=>rfl) hl hF hL
 | .bool,H,b,v,x,L,hl,hF,hv,hC,hL=>QD (fun H=>rfl) hl hF hL
 | .str,H,b,v,x,L,hl,hF,hv,hC,hL=>QD (fun H=>rfl) hl hF hL
 | .sl _,H,b,v,x,L,hl,hF,hv,hC,hL=>QD (fun H=>rfl) hl hF hL
 | .row _ _,H,b,v,x,L,hl,hF,hv,hC,hL=>QD (fun H=>rfl) hl hF hL
 | .fz _,H,b,v,x,L,hl,hF,hv,hC,hL=>QD (fun H=>rfl) hl hF hL
 | .an1 _ _,H,b,v,x,L,hl,hF,hv,hC,hL=>QD (fun H=>rfl) hl hF hL
 | .abx _ _,H,b,v,x,L,hl,hF,hv,hC,hL=>QD (fun H=>rfl) hl hF hL
 | .arr _,_,_,_,_,_,hl,_,_,_,_=>by simp[eg]at hl
 | .same _,_,_,_,_,_,hl,_,_,_,_=>by simp[eg]at hl
 | .agg _,_,_,_,_,_,hl,_,_,_,_=>by simp[eg]at hl
theorem Pg (E:Nat→AV): ∀ (l:List Sh) (H:Hp) (b:Nat) (cs:List AV) (x:LTs l) (L:Nat),k0 l=true→(∀ j,b≤j→j < L→F j)→(∀ c∈cs,InA F c)→anN F H→(bL E H b l cs x).2.2≤L→
  ∃ vs es b',(∀ v∈vs,In1 F v)∧(∀ p∈es,F p.1∧zc F p.2)∧ ∀ H',Agr F H H'→bL E H' b l cs x=(vs,vE es H',b')
 | [],_,b,_,_,_,_,_,_,_,_=>⟨[],[],b,by simp,by simp,fun _ _=>rfl⟩
 | h::l,H,b,cs,x,L,hl,hF,hv,hC,hL=>by
  simp only[k0,auF]at hl;have un: ∀ H,bL E H b (h::l) cs x=(match nC E H b h (cs.headD .un) x.1 with | (d,H,b)=>match bL E H b l cs.tail x.2 with | (ds,H,b)=>(d::ds,H,b)):=fun _=>rfl;have hh:InA F (cs.headD .un):=by
   cases cs with
   | nil=>exact .of1 trivial
   | cons c cs=>exact hv c auM
  have ht: ∀ c∈cs.tail,InA F c:=fun c hc=>hv c (List.mem_of_mem_tail hc);have hL1:(nC E H b h (cs.headD .un) x.1).2.2≤L:=by
   rw[un]at hL;generalize nC E H b h (cs.headD .un) x.1=r at *;obtain⟨c,H',b'⟩:=r;have h2:=M0 E l H' b' cs.tail x.2 hl.2;simp only at hL;generalize bL E H' b' l cs.tail x.2=r at *;exact avr h2 hL
  obtain⟨v,es,b',h1,h2,h3⟩:=ajf E h H b (cs.headD .un) x.1 L hl.1 hF hh hC hL1;have e0:=h3 H (Agr.refl F H);have hbb:b≤b':=by have:=ae8 E h H b (cs.headD .un) x.1 hl.1;rw[e0]at this;exact this
  have hL2:(bL E (vE es H) b' l cs.tail x.2).2.2≤L:=by
   rw[un,e0]at hL;simp only at hL;generalize bL E (vE es H) b' l cs.tail x.2=r at *;exact hL
  obtain⟨vs,es',b'',h4,h5,h6⟩:=Pg E l (vE es H) b' cs.tail x.2 L hl.2 (fun j h1 h2=>hF j (avr hbb h1) h2) ht (abu hC fun p hp=>(h2 p hp).2) hL2;refine⟨v::vs,es++es',b'',fun c hc=> ?_,fun p hp=> ?_,fun H' h=> ?_⟩
  ·rcases au5.1 hc with rfl | hc
   ·exact h1
   ·exact h4 c hc
  ·rcases auX.1 hp with hp | hp
   ·exact h2 p hp
   ·exact h5 p hp
  ·rw[un,h3 H' h];simp only[h6 _ (aij h),vE,awf]
end
end
end Go.VS
namespace Go.VS
open Go
section
variable {F W:Nat→Prop} {H H':Hp} {P:Program} {s s' s2:S} {b:Nat} {E:Nat→AV} {C:Cx}
def agz(E:Nat→AV)(h:Sh)(b:Nat)(x:LT h)(L:Nat)(hl:alI h=true)(hF: ∀ j,b≤j→j < L→F j∧W j)(hL: ∀ H,(cY E H b h x).2.2≤L):
  ∃ v es b',In2 F v∧(∀ p∈es,W p.1∧zc F p.2)∧ ∀ H,cY E H b h x=(v,vE es H,b'):=by
 by_cases hh:eg h=true
 ·obtain⟨v,es,b',h1,h2,h3⟩:=Mj (F:=F) (W:=W) E h b x L hh hF hL;exact⟨v,es,b',.of1 h1,h2,h3⟩
 ·cases h<;>first | (exact absurd hl hh;done) | exact⟨.arr _ x,[],b,trivial,by simp,fun _=>rfl⟩ | skip
  rename_i l;have un: ∀ H,cY E H b (.agg l) x=(match aC E H b l x with | (cs,H,b)=>(AV.agg cs,H,b)):=fun _=>rfl;obtain⟨vs,es,b',h1,h2,h3⟩:=OD (F:=F) (W:=W) E l b x L hl hF (fun H=>by
   have:=hL H;rw[un]at this;generalize aC E H b l x=r at *;exact this)
  exact⟨.agg vs,es,b',h1,h2,fun H=>by rw[un,h3]⟩
def Kl(E:Nat→AV): ∀ (l:List Sh) (b:Nat) (x:LTs l) (L:Nat),ZN l=true→(∀ j,b≤j→j < L→F j∧W j)→(∀ H,(aC E H b l x).2.2≤L)→
  ∃ vs es b',(∀ v∈vs,In2 F v)∧(∀ p∈es,W p.1∧zc F p.2)∧ ∀ H,aC E H b l x=(vs,vE es H,b')
 | [],b,_,_,_,_,_=>⟨[],[],b,by simp,by simp,fun _=>rfl⟩
 | h::l,b,x,L,hl,hF,hL=>by
  simp only[ZN,auF]at hl;have un: ∀ H,aC E H b (h::l) x=(match cY E H b h x.1 with | (c,H,b)=>match aC E H b l x.2 with | (cs,H,b)=>(c::cs,H,b)):=fun _=>rfl;have hL1: ∀ H,(cY E H b h x.1).2.2≤L:=fun H=>by
   have:=hL H;rw[un]at this;generalize cY E H b h x.1=r at *;obtain⟨c,H',b'⟩:=r;have h2:=jS E l H' b' x.2;simp only at this;generalize aC E H' b' l x.2=r at *;exact avr h2 this
  obtain⟨v,es,b',h1,h2,h3⟩:=agz E h b x.1 L hl.1 hF hL1;have hbb:b≤b':=by have:=dC E h (fun _=>none) b x.1;rw[h3]at this;exact this
  have hL2: ∀ H,(aC E H b' l x.2).2.2≤L:=fun H=>by
   have:=hL H;rw[un,h3]at this;simp only at this;rw[(uv E H (vE es H) l b' x.2).2];generalize aC E (vE es H) b' l x.2=r at *;exact this
  obtain⟨vs,es',b'',h4,h5,h6⟩:=Kl E l b' x.2 L hl.2 (fun j h1 h2=>hF j (avr hbb h1) h2) hL2;refine⟨v::vs,es++es',b'',fun c hc=> ?_,fun p hp=> ?_,fun H=> ?_⟩
  ·rcases au5.1 hc with rfl | hc
   ·exact h1
   ·exact h4 c hc
  ·rcases auX.1 hp with hp | hp
   ·exact h2 p hp
   ·exact h5 p hp
  ·rw[un,h3];simp only[h6,vE,awf]
abbrev stp(p:Nat×Ob):Step:=⟨p.1,.no,some p.2⟩
def Qo: ∀ (es:List (Nat×Ob)) (s:S),(es.map stp).foldl S.app s={ s with H:=vE es s.H }
 | [],_=>rfl
 | p::es,s=>by
  rw[avJ,avC,ov,Qo es];rfl
def Hm: ∀ (ps:List Sh) (vs:List AV),∀ v∈fN ps vs,v∈vs
 | [],vs,v,h=>by cases vs<;>simp[fN]at h
 | p::ps,[],v,h=>by cases p<;>simp[fN]at h
 | p::ps,x::vs,v,h=>by
  cases p<;>simp only[fN,au5]at h ⊢ <;>first
   | exact .inr (Hm ps vs v h)
   | exact h.imp id (Hm ps vs v)
def abe{vs:List AV}(h: ∀ v∈vs,In2 F v):InA F (Lr vs):=by
 unfold Lr;split
 ·exact .of2 (h _ (by simp))
 ·exact .of3 h
def alY(H:Hp)(m:aoi)(as:List AV)(b:Nat)(W:Step→Prop):Prop:=
 (∀ e:Step,e.id∈dV H m.ps as→W e)∧((dN m.rs||dN (bg m.ps))=true→ ∀ e:Step,e.id∈eX H m.ps as→W e)∧(∀ e:Step,b≤e.id→e.id < b+16→W e)
variable {WS:Step→Prop}
def ahq{m:aoi}{d:Option Nat}{as:List AV}(hm:okS m=true)(has: ∀ v∈as,InA F v)(hC:anN F s.H)(hF: ∀ j,b≤j→j < b+16→F j)
  (hW:alY s.H m as b WS)(hB:(bg m.ps).isEmpty=true∨ ∀ e:Step,F e.id→e.fk= .no→WS e)(h:yR m s b d as some=some s'):
  ∃ (v:AV) (es:List Step),InA F v∧(∀ e∈es,WS e∧ao1 F e)∧s'=(es.foldl S.app s).put d v∧ ∀ s2:S,Agr F s.H s2.H→yR m s2 b d as some=some ((es.foldl S.app s2).put d v):=by
 simp only[okS,auF]at hm;obtain⟨hW1,hW2,hW3⟩:=hW;unfold yR at h;simp only at h;split at h
 ·rename_i x hx hn;obtain⟨r,hr,h⟩:=auI.1 h;obtain⟨es1,k1,k2,k3⟩:=YQ (dV s.H m.ps as) s;have k4: ∃ es2:List Step,(∀ e∈es2,WS e∧e.ob=none)∧
    E5 (dN m.rs||dN (bg m.ps)) (eX s.H m.ps as) ((dV s.H m.ps as).foldl S.kill s)=es2.foldl S.app s∧
    ∀ s2:S,Agr F s.H s2.H→E5 (dN m.rs||dN (bg m.ps)) (eX s.H m.ps as) ((dV s.H m.ps as).foldl S.kill s2)=es2.foldl S.app s2:=by
   cases hq:(dN m.rs||dN (bg m.ps)) with
   | false=>exact⟨es1,fun e he=>⟨hW1 e (k1 e he).1,(k1 e he).2⟩,k2,fun s2 _=>k3 s2⟩
   | true=>
    obtain⟨es2,j1,j2,j3⟩:=Ai (F:=F) (eX s.H m.ps as) (es1.foldl S.app s) (Gu hC m.ps as has);refine⟨es1++es2,fun e he=> ?_, ?_,fun s2 h2=> ?_⟩
    ·rcases auX.1 he with he | he
     ·exact⟨hW1 e (k1 e he).1,(k1 e he).2⟩
     ·exact⟨hW2 hq e (j1 e he).1,(j1 e he).2⟩
    ·simp only[E5,k2,j2,awf]
    ·simp only[E5,k3,awf];exact j3 _ h2.asA
  obtain⟨es2,j1,j2,j3⟩:=k4;rw[j2]at h;have hC2:anN F (es2.foldl S.app s).H:=by
   have: ∀ (es:List Step) (s:S),anN F s.H→(∀ e∈es,e.ob=none)→anN F (es.foldl S.app s).H:=by
    intro es
    induction es with
    | nil=>intro s h _;exact h
    | cons e es ih=>exact fun s h he=>ih _ (h.app fun ob eo=>by rw[he e auM]at eo;cases eo) (fun e' h'=>he e' (auJ _ h'))
   exact this es2 s hC fun e he=>(j1 e he).2
  have hL1:(bL (fun i=>(as[i]?).getD .un) (es2.foldl S.app s).H b (bg m.ps) (fN m.ps as) r.2).2.2≤b+16:=by
   generalize bL (fun i=>(as[i]?).getD .un) (es2.foldl S.app s).H b (bg m.ps) (fN m.ps as) r.2=q at *;obtain⟨_,H1,b1⟩:=q;have:=jS (fun i=>(as[i]?).getD .un) m.rs H1 b1 r.1;simp only at h;generalize aC (fun i=>(as[i]?).getD .un) H1 b1 m.rs r.1=q at *;obtain⟨vs,H2,b2⟩:=q;simp only at h;split at h
   ·rename_i hb;exact avr this (avg hb)
   ·cases h
  have hg: ∃ ds es3 b1,b≤b1∧(∀ p∈es3,WS (stp p)∧zc F p.2)∧ ∀ H',Agr F (es2.foldl S.app s).H H'→bL (fun i=>(as[i]?).getD .un) H' b (bg m.ps) (fN m.ps as) r.2=(ds,vE es3 H',b1):=by
   rcases hB with hB | hB
   ·exact⟨[],[],b,auS b,by simp,fun H' _=>Zj _ _ _ _ _ _ hB⟩
   ·obtain⟨ds,es3,b1,i1,i2,i3⟩:=Pg (F:=F) (fun i=>(as[i]?).getD .un) (bg m.ps) (es2.foldl S.app s).H b (fN m.ps as) r.2 (b+16) hm.2 hF (fun v hv=>has v (Hm _ _ v hv)) hC2 hL1;have:=M0 (fun i=>(as[i]?).getD .un) (bg m.ps) (es2.foldl S.app s).H b (fN m.ps as) r.2 hm.2;rw[i3 _ (Agr.refl _ _)]at this;exact⟨ds,es3,b1,this,fun p hp=>⟨hB (stp p) (i2 p hp).1 rfl,(i2 p hp).2⟩,i3⟩
  obtain⟨ds,es3,b1,hb1,i2,i3⟩:=hg;rw[i3 _ (Agr.refl _ _)]at h;simp only at h;have hL2: ∀ H,(aC (fun i=>(as[i]?).getD .un) H b1 m.rs r.1).2.2≤b+16:=fun H=>by
   rw[(uv _ H (vE es3 (es2.foldl S.app s).H) m.rs b1 r.1).2];generalize aC (fun i=>(as[i]?).getD .un) (vE es3 (es2.foldl S.app s).H) b1 m.rs r.1=q at *;obtain⟨vs,H2,b2⟩:=q;simp only at h;split at h
   ·rename_i hb;exact avg hb
   ·cases h
  obtain⟨vs,es4,b2,l1,l2,l3⟩:=Kl (F:=F) (W:=fun j=>b≤j∧j < b+16) (fun i=>(as[i]?).getD .un) m.rs b1 r.1 (b+16) hm.1
   (fun j h1 h2=>⟨hF j (avr hb1 h1) h2,avr hb1 h1,h2⟩) hL2
  rw[l3]at h;simp only at h;split at h
  ·rename_i hb;cases h;refine⟨Lr vs,es2++es3.map stp++es4.map stp,abe l1,fun e he=> ?_, ?_,fun s2 h2=> ?_⟩
   ·rcases auX.1 he with he | he
    ·rcases auX.1 he with he | he
     ·exact⟨(j1 e he).1,fun ob eo=>by rw[(j1 e he).2]at eo;cases eo⟩
     ·obtain⟨p,hp,rfl⟩:=avH.1 he;exact⟨(i2 p hp).1,fun ob eo=>by cases eo;exact(i2 p hp).2⟩
    ·obtain⟨p,hp,rfl⟩:=avH.1 he;exact⟨hW3 (stp p) (l2 p hp).1.1 (l2 p hp).1.2,fun ob eo=>by cases eo;exact(l2 p hp).2⟩
   ·simp only[awf,Qo]
   ·unfold yR;simp only[FO h2 hC m.ps as has,Gt h2 hC m.ps as has,FN h2 hC m.ps as has,M3 h2 hC m.ps as has,hx,hn,hr,auE,j3 s2 h2];rw[i3 _ h2.asA];simp only[l3,hb,awf,Qo]
  ·cases h
 ·cases h
end
end Go.VS
namespace Go.VS
open Go
section
variable {F G N:Nat→Prop} {WS:Step→Prop} {H H':Hp} {P:Program} {s s' s2:S} {b:Nat} {C:Cx}
def In1.mono(h: ∀ id,F id→G id){v:AV}(hv:In1 F v):In1 G v:=by
 cases v<;>first | exact h _ hv | exact hv
def In2.mono(h: ∀ id,F id→G id){v:AV}(hv:In2 F v):In2 G v:=by
 have gen:In1 F v→In2 G v:=fun hv=> .of1 (hv.mono h);cases v<;>first | exact fun c hc=>(hv c hc).mono h | exact gen hv
def In3.mono(h: ∀ id,F id→G id){v:AV}(hv:In3 F v):In3 G v:=by
 have gen:In2 F v→In3 G v:=fun hv=> .of2 (hv.mono h);cases v<;>first | exact fun c hc=>In2.mono h (hv c hc) | exact gen hv
def InA.mono(h: ∀ id,F id→G id){v:AV}(hv:InA F v):InA G v:=by
 have gen:In3 F v→InA G v:=fun hv=> .of3 (hv.mono h);cases v with
 | gd g w v=>exact In3.mono h hv
 | _=>exact gen hv
def Agr.mono(h: ∀ id,F id→G id)(hG:Agr G H H'):Agr F H H':=fun id hid=>hG id (h id hid)
def abZ{f:AV→AV}(hf: ∀ c,In1 F c→In1 F (f c)){v:AV}(h:In2 F v):In2 F (qI f v):=by
 cases v<;>first | exact .of1 (hf _ h) | skip
 rename_i cs;intro c hc;obtain⟨c0,h0,rfl⟩:=avH.1 hc;exact hf _ (h c0 h0)
def abY{f:AV→AV}(hf: ∀ c,In1 F c→In1 F (f c)){v:AV}(h:In3 F v):In3 F (rY f v):=by
 have gen:In2 F v→In3 F (qI f v):=fun h=> .of2 (abZ hf h);cases v with
 | tup cs=>
  intro c hc;obtain⟨c0,h0,rfl⟩:=avH.1 hc;exact abZ hf (h c0 h0)
 | _=>exact gen h
def aeU{f:AV→AV}(hf: ∀ c,In1 F c→In1 F (f c)){v:AV}(h:InA F v):InA F (yi f v):=by
 have gen:In3 F v→InA F (rY f v):=fun h=> .of3 (abY hf h);cases v with
 | gd g w v=>exact abY hf h
 | _=>exact gen h
def ahC{x:Operand}{e:Step}(h:InA F (s.ev x)):InA F ((s.app e).ev x):=by
 cases x with
 | tmp t=>exact aeU (fun c hc=>Fk.arI _ _ hc) h
 | _=>exact h
def Li{x:Operand}: ∀ (es:List Step) (s:S),InA F (s.ev x)→InA F ((es.foldl S.app s).ev x)
 | [],_,h=>h
 | e::es,s,h=>Li es _ (ahC h)
def ahB{x:Operand}{e:Step}(h:s2.ev x=s.ev x):(s2.app e).ev x=(s.app e).ev x:=by
 cases x with
 | tmp t=>exact congrArg (yi (e.fk.f e.id)) h
 | _=>exact h
def WQ{x:Operand}: ∀ (es:List Step) (s s2:S),s2.ev x=s.ev x→(es.foldl S.app s2).ev x=(es.foldl S.app s).ev x
 | [],_,_,h=>h
 | e::es,s,s2,h=>WQ es _ _ (ahB h)
def QT: ∀ (es:List Step) (s:S),anN F s.H→(∀ e∈es,ao1 F e)→anN F (es.foldl S.app s).H
 | [],_,h,_=>h
 | e::es,s,h,he=>QT es _ (h.app (he e auM)) fun e' h'=>he e' (auJ _ h')
def agr{ρ:Operand→AV}: ∀ (ps:List (Nat×Operand)),(∀ p∈ps,InA F (ρ p.2))→ ∀ i∈AH ρ ps,F i:=by
 intro ps hp i hi;obtain⟨p,h1,h2⟩:=List.mem_flatMap.1 hi;have:=hp p h1;split at h2
 ·rename_i cs e;rw[e]at this;exact aiA this i h2
 ·rename_i v hn;cases hv:ρ p.2<;>rw[hv]at h2 this<;>first | (simp[vH]at h2;done) | skip
  simp[vH]at h2;subst h2;exact this
def alZ(C:Cx)(F N:Nat→Prop)(WS:Step→Prop)(b:Nat)(o:Oper)(s s':S):Prop:=
 ∃ (v:AV) (es:List Step),InA F v∧(∀ e∈es,WS e∧ao1 F e)∧s'=(es.foldl S.app s).put o.dst v∧
  ∀ s2:S,(∀ x∈o.op.operands,s2.ev x=s.ev x)→s2.has o.dst=s.has o.dst→Agr N s.H s2.H→jf C (af S) o b s2 some=some ((es.foldl S.app s2).put o.dst v)
def abJ{op:Op}{kd:TypeId→Option K}{d:Option Nat}(hF: ∀ x∈op.operands,InA F (s.ev x))(hN:mov op=true∨ ∀ x∈op.operands,InA N (s.ev x))(hC: ∀ id ob,N id→s.H id=some ob→zc F ob)(hb:F b)(hW: ∀ ob,WS ⟨b,.no,some ob⟩)
  (he:(match bY P kd s.ev s.H b op with
   | some (q,v,os)=>if q then some ({ s with H:=gj s.H b os }.put d v) else none
   | none=>none)=some s'):
  ∃ (v:AV) (es:List Step),InA F v∧(∀ e∈es,WS e∧ao1 F e)∧s'=(es.foldl S.app s).put d v∧
   ∀ s2:S,(∀ x∈op.operands,s2.ev x=s.ev x)→Agr N s.H s2.H→(match bY P kd s2.ev s2.H b op with
    | some (q,v,os)=>if q then some ({ s2 with H:=gj s2.H b os }.put d v) else none
    | none=>none)=some ((es.foldl S.app s2).put d v):=by
 split at he
 ·rename_i q v os hp;split at he
  ·rename_i hq;cases he;obtain⟨h1,h2,h3⟩:=YD hF hN hC hb q v os hp
   match os,h2,h3,hp with
   | [],_,_,hp=>
    refine⟨v,[],h1,by simp,rfl,fun s2 e1 e2=> ?_⟩;rw[HD e1 hN e2,hp];simp only[hq,auy];rfl
   | [ob],_,h3,hp=>
    refine⟨v,[⟨b,.no,some ob⟩],h1,fun e he=> ?_, ?_,fun s2 e1 e2=> ?_⟩
    ·simp at he;subst he;exact⟨hW ob,fun ob' e=>by cases e;exact h3 _ (by simp)⟩
    ·show _=S.put (s.app _) d v;rw[ov];rfl
    ·rw[HD e1 hN e2,hp];simp only[hq,auy,avC,axa,ov];rfl
   | _::_::_,h2,_,_=>simp at h2
  ·cases he
 ·cases he
def ak7{q:Bool}{l:List Nat}{i:Nat}(h:i∈fzl q l):i∈l:=by
 cases q
 ·cases h
 ·exact h
def aln{o:Oper}(hop: ∀ x∈o.op.operands,InA F (s.ev x))(hC:anN F s.H){i:Nat}(hi:i∈RH C s o):F i:=by
 unfold RH at hi;split at hi
 ·rename_i c hc;split at hi
  ·rename_i f hf;split at hi
   ·rename_i m hm;have has: ∀ v∈c.args.toList.map s.ev,InA F v:=fun v hv=>by
     obtain⟨x,hx,rfl⟩:=avH.1 hv;refine hop x ?_;rw[hc];simp only[au1,axh,awS];exact .inr (by simpa using hx)
    rcases auX.1 hi with h | h
    ·exact LV hC _ _ has i h
    ·exact Gu hC _ _ has i (ak7 h)
   ·cases hi
  ·cases hi
 ·cases hi
def ajx{o:Oper}(hok:okO C o=true)(hop: ∀ x∈o.op.operands,InA F (s.ev x))(hCN: ∀ id ob,N id→s.H id=some ob→zc F ob)(hF: ∀ j,b≤j→j < b+16→F j)
  (hN: ∀ e:Step,b≤e.id→e.id < b+16→WS e)(hW:(tJ C s o=none→(∀ e:Step,F e.id→e.fk= .no→WS e)∧ ∀ e:Step,e.id∈RH C s o→WS e)∧ ∀ l,tJ C s o=some l→ ∀ e:Step,e.id∈l→WS e)
  (hNF:(pur o=true∧(mov o.op=true∨ ∀ x∈o.op.operands,InA N (s.ev x)))∨ ∀ id,F id→N id)(he:jf C (af S) o b s some=some s'):alZ C F N WS b o s s':=by
 have asX:mov o.op=true∨ ∀ x∈o.op.operands,InA N (s.ev x):=by
  rcases hNF with h | h
  ·exact h.2
  ·exact .inr fun x hx=>(hop x hx).mono h
 have ars:pur o=false→ ∀ id,F id→N id:=fun h=>hNF.resolve_left fun h2=>by rw[h]at h2;cases h2.1
 have hCF:pur o=false→anN F s.H:=fun h id ob hid ho=>hCN id ob (ars h id hid) ho;have hFb:F b:=hF b (auS b) (by omega);have hWb: ∀ e:Step,e.id=b→WS e:=fun e h=>hN e (by omega) (by omega);unfold jf at he;split at he
 ·cases he
 rename_i hd;unfold alZ;have un: ∀ s2:S,s2.has o.dst=s.has o.dst→s2.has o.dst=true:=fun s2 h=>h.trans hd;generalize ho:o.op=op at he;rw[ho]at hop asX;have pu:(match bY C.P C.kd s.ev s.H b op with
   | some (q,v,os)=>if q then some ({ s with H:=gj s.H b os }.put o.dst v) else none
   | none=>none)=some s'→(∀ s2:S,s2.has o.dst=true→(∀ x∈op.operands,s2.ev x=s.ev x)→Agr N s.H s2.H→jf C (af S) o b s2 some=(match bY C.P C.kd s2.ev s2.H b op with
   | some (q,v,os)=>if q then some ({ s2 with H:=gj s2.H b os }.put o.dst v) else none
   | none=>none))→ ∃ (v:AV) (es:List Step),InA F v∧(∀ e∈es,WS e∧ao1 F e)∧s'=(es.foldl S.app s).put o.dst v∧
  ∀ s2:S,(∀ x∈op.operands,s2.ev x=s.ev x)→s2.has o.dst=s.has o.dst→Agr N s.H s2.H→jf C (af S) o b s2 some=some ((es.foldl S.app s2).put o.dst v):=by
  intro he hu;obtain⟨v,es,h1,h2,h3,h4⟩:=abJ (WS:=WS) hop asX hCN hFb (fun _=>hWb _ rfl) he;exact⟨v,es,h1,h2,h3,fun s2 e1 e2 e3=>by rw[hu s2 (un s2 e2) e1 e3];exact h4 s2 e1 e3⟩
 cases op<;>try (exact pu he fun s2 e1 e2 e3=>by unfold jf;simp only[e1,ho];rfl)
 case store t p x=>
  have hWF: ∀ e:Step,e.id∈JR s.H (s.ev p) (s.ev x)→WS e:=hW.2 _ (by simp only[tJ,ho]);have hNs:=ars (by simp only[pur,ho]);have hC:=hCF (by simp only[pur,ho]);simp only at he;split at he
  ·rename_i s1 hs;cases he;obtain⟨es,h1,h2,h3⟩:=afL (hop p (by simp[au1])) (hop x (by simp[au1])) hC hs;refine⟨qU,es,.of1 trivial,fun e he=>⟨hWF e (h1 e he).1,(h1 e he).2⟩,by rw[h2],fun s2 e1 e2 e3=> ?_⟩;have:=h3 s2 (e3.mono hNs);simp only[avc,avs,true_and]at this;obtain⟨s1',hs',rfl⟩:=this;unfold jf;simp only[un s2 e2,ho,e1 p (by simp[au1]),e1 x (by simp[au1]),hs']
  ·cases he
 case call c=>
  have hNs:=ars (by simp only[pur,ho]);have hC:=hCF (by simp only[pur,ho]);obtain⟨cal,⟨args⟩,⟨tys⟩⟩:=c;have an0: ∀ x∈args,InA F (s.ev x):=fun x hx=>hop x (by
   simp only[au1,axh,awS];exact .inr (by simpa using hx))
  have aqJ: ∀ s2:S,(∀ x∈(Op.call ⟨cal,⟨args⟩,⟨tys⟩⟩).operands,s2.ev x=s.ev x)→args.map s2.ev=args.map s.ev:=fun s2 h=>av0 fun x hx=>h x (by
   simp only[au1,axh,awS];exact .inr (by simpa using hx))
  simp only at he;split at he
  ·rename_i f;split at he
   ·rename_i m hm;have atS:okS m=true:=by simpa only[okO,ho,hm] using hok
    have has: ∀ v∈args.map s.ev,InA F v:=fun v hv=>by
     obtain⟨x,hx,rfl⟩:=avH.1 hv;exact an0 x hx
    have hcw:alY s.H m (args.map s.ev) b WS∧((bg m.ps).isEmpty=true∨ ∀ e:Step,F e.id→e.fk= .no→WS e):=by
     have hk:RH C s o=dV s.H m.ps (args.map s.ev)++fzl (dN m.rs||dN (bg m.ps)) (eX s.H m.ps (args.map s.ev)):=by simp only[RH,ho,hm]
     cases hbe:(bg m.ps).isEmpty with
     | false=>
      have as4:tJ C s o=none:=by simp only[tJ,ho,hm,hbe]
      have h2:=(hW.1 as4).2;rw[hk]at h2;exact⟨⟨fun e he=>h2 e (auT _ he),fun hq e he=>h2 e (auY _ (by rw[hq];exact he)),hN⟩,.inr (hW.1 as4).1⟩
     | true=>
      have hl:tJ C s o=some (dV s.H m.ps (args.map s.ev)++fzl (dN m.rs||dN (bg m.ps)) (eX s.H m.ps (args.map s.ev))):=by simp only[tJ,ho,hm,hbe]
      refine⟨⟨fun e hi=> ?_,fun hq e hi=> ?_,hN⟩,.inl rfl⟩
      ·exact hW.2 _ hl e (auT _ hi)
      ·exact hW.2 _ hl e (auY _ (by rw[hq];exact hi))
    obtain⟨v,es,h1,h2,h3,h4⟩:=ahq atS has hC hF hcw.1 hcw.2 he;refine⟨v,es,h1,h2,h3,fun s2 e1 e2 e3=> ?_⟩;have:=h4 s2 (e3.mono hNs);unfold jf;simp only[un s2 e2,ho,hm,aqJ s2 e1];exact this
   ·cases he
  ·rename_i x y t u;have hWF: ∀ e:Step,(e.id=b∨e.id∈TW (s.ev x))→WS e:=fun e hi=>hi.elim (hWb e) (hW.2 _ (by simp only[tJ,ho]) e);split at he
   ·rename_i q v s1 hs;split at he
    ·rename_i hq;subst hq;cases he;obtain⟨⟨es,h1,h2,h3⟩,h5⟩:=aet (an0 x (by simp)) (an0 y (by simp)) hFb hs;refine⟨v,es,h5,fun e he=>⟨hWF e (h1 e he).1,(h1 e he).2⟩,by rw[h2],fun s2 e1 e2 e3=> ?_⟩;have:=h3 s2 (e3.mono hNs);obtain⟨⟨q',v',s1'⟩,hs',e'⟩:=avc.1 this;cases e';unfold jf;have ea:=aqJ s2 e1;simp only[avJ,awZ,axx,and_true]at ea;simp only[un s2 e2,ho,ea.1,ea.2,hs',auy]
    ·cases he
   ·cases he
  ·rename_i x y t u;have hWF: ∀ e:Step,e.id∈TW (s.ev x)→WS e:=hW.2 _ (by simp only[tJ,ho]);split at he
   ·rename_i v s1 hs;cases he;obtain⟨⟨es,h1,h2,h3⟩,h5⟩:=ajN (an0 x (by simp)) (an0 y (by simp)) hs;refine⟨v,es,h5,fun e he=>⟨hWF e (h1 e he).1,(h1 e he).2⟩,by rw[h2],fun s2 e1 e2 e3=> ?_⟩;have hs':=h3 s2 (e3.mono hNs);unfold jf;have ea:=aqJ s2 e1;simp only[avJ,awZ,axx,and_true]at ea;simp only[un s2 e2,ho,ea.1,ea.2,hs']
   ·cases he
  ·rename_i n1 n2 n3;refine pu he fun s2 e1 e2 e3=> ?_;unfold jf;simp only[e1,ho];split<;>first | exact(n1 _ rfl).elim | exact(n2 _ _ _ _ rfl rfl rfl).elim | exact(n3 _ _ _ _ rfl rfl rfl).elim | (rename_i h;simp only[h];done) | rfl
 case slice t x lo hi mx=>
  have hNs:=ars (by simp only[pur,ho]);have hC:=hCF (by simp only[pur,ho]);cases mx with
  | some m=>exact pu he fun s2 e1 e2 e3=>by unfold jf;simp only[e1,ho];rfl
  | none=>
   have hx:=hop x (by simp[au1]);have elo: ∀ s2:S,(∀ x_1∈(Op.slice t x lo hi none).operands,s2.ev x_1=s.ev x_1)→lo.map s2.ev=lo.map s.ev:=fun s2 h=>by
    cases lo with
    | none=>rfl
    | some l=>exact congrArg some (h l (by simp[au1]))
   have ehi: ∀ s2:S,(∀ x_1∈(Op.slice t x lo hi none).operands,s2.ev x_1=s.ev x_1)→hi.map s2.ev=hi.map s.ev:=fun s2 h=>by
    cases hi with
    | none=>rfl
    | some l=>exact congrArg some (h l (by simp[au1]))
   simp only at he;split at he
   ·rename_i id hid;split at he
    ·cases he
    rename_i hf;have hWF: ∀ e:Step,e.id=id→WS e:=fun i e=>hW.2 (TW (s.ev x)) (by simp only[tJ,ho]) i (by rw[hid,e];simp[TW,vH]);rw[hid]at hx;split at he
    ·rename_i q v s1 hs;split at he
     ·rename_i hq;subst hq;cases he;obtain⟨⟨es,h1,h2,h3⟩,h5⟩:=ZV (F:=F) hx hs;refine⟨v,es,h5,fun e he=>⟨hWF e (h1 e he).1,(h1 e he).2⟩,by rw[h2],fun s2 e1 e2 e3=> ?_⟩;have:=h3 s2 (e3.mono hNs);obtain⟨⟨q',v',s1'⟩,hs',e'⟩:=avc.1 this;cases e';unfold jf;have ex:s2.ev x= .own id:=(e1 x (by simp[au1])).trans hid;have hf2:gw C.P s2.H t (.own id)=true:=by rw[LQ (F:=F) hx (e3.mono hNs)];exact hf
      simp only[un s2 e2,ho,ex,hf2,elo s2 e1,ehi s2 e1,hs',auy]
     ·cases he
    ·cases he
   ·rename_i hn;refine pu he fun s2 e1 e2 e3=> ?_;unfold jf;simp only[e1,ho];have ex:s2.ev x=s.ev x:=e2 x (by simp[au1]);rw[ex];split
    ·rename_i id hid;exact absurd hid (hn id)
    ·rfl
 case buildSlice t n ps=>
  have hNs:=ars (by simp only[pur,ho]);have hC:=hCF (by simp only[pur,ho]);simp only at he;have hps: ∀ p∈ps.toList,InA F (s.ev p.2):=fun p hp=>hop p.2 (by
   simp only[au1,axN,avH];exact⟨p,hp,rfl⟩)
  have aqF:=agr ps.toList hps;obtain⟨es1,j1,j2,j3⟩:=Ai (F:=F) (AH s.ev ps.toList) s aqF;rw[j2]at he;obtain⟨v,es,h1,h2,h3,h4⟩:=abJ (WS:=WS) (N:=F) (s:=es1.foldl S.app s) (op:= .buildSlice t n ps) (fun x hx=>Li es1 s (hop x hx)) (.inr fun x hx=>Li es1 s (hop x hx)) (QT es1 s hC fun e he ob eo=>by rw[(j1 e he).2]at eo;cases eo) hFb (fun _=>hWb _ rfl) he;refine⟨v,es1++es,h1,fun e he=> ?_,by rw[h3,awf],fun s2 e1 e2 e3=> ?_⟩
  ·rcases auX.1 he with he | he
   ·refine⟨?_,fun ob eo=>by rw[(j1 e he).2]at eo;cases eo⟩;have hi:=(j1 e he).1;exact hW.2 _ (by simp only[tJ,ho]) e hi
   ·exact h2 e he
  ·unfold jf;have eo:AH s2.ev ps.toList=AH s.ev ps.toList:=agq _ fun p hp=>e1 p.2 (by
    simp only[au1,axN,avH];exact⟨p,hp,rfl⟩)
   simp only[un s2 e2,ho,eo];rw[j3 s2 (e3.mono hNs),awf];exact h4 _ (fun x hx=>WQ es1 s s2 (e1 x hx)) (Agr.asA (e3.mono hNs))
end
end Go.VS
namespace Go.VS
open Go
abbrev ev1(C:Cx)(ops:Array Oper)(o:Oper)(b:Nat)(s:S):Option S:=evG C (af S) ops o b s some
def S.fin(s:S)(g:Option Nat)(d:Option Nat)(v:AV):S:={ s.put d v with gs:=match g with
 | some g=>upd s.gs g true
 | none=>s.gs }
def aoE(s s2:S)(d:Option Nat):Prop:=s2.n=s.n∧s2.pins=s.pins∧ ∀ t,d=some t→s2.gs t=s.gs t
section
variable {F N:Nat→Prop} {WS:Step→Prop} {H H':Hp} {P:Program} {s s' s2:S} {b:Nat} {C:Cx} {ρ ρ':Operand→AV}
def aoE.has{d:Option Nat}(h:aoE s s2 d):s2.has d=s.has d:=by
 cases d with
 | none=>rfl
 | some t=>simp only[S.has,h.1,h.2.1,h.2.2 t rfl]
def aoE.more{d:Option Nat}(h:aoE s s2 d)(g:Nat):({ s2 with gs:=upd s2.gs g true } :S).has d=({ s with gs:=upd s.gs g true } :S).has d:=by
 cases d with
 | none=>rfl
 | some t=>
  have:upd s2.gs g true t=upd s.gs g true t:=by
   by_cases e:t=g
   ·subst e;rw[aD,aD]
   ·rw[aM _ _ e,aM _ _ e];exact h.2.2 t rfl
  simp only[S.has,h.1,h.2.1,this]
def ah4{g:Nat}{want:Bool}{v:AV}(h:InA F v):InA F (tL g want v):=by
 unfold tL;split
 ·split
  ·exact .of3 h
  ·exact h
 ·exact h
def aaf(v:Value):InA F (ofV v):=by
 unfold ofV;split
 ·split
  ·refine .of2 fun c hc=> ?_;obtain⟨x,_,rfl⟩:=avH.1 hc;trivial
  ·exact .of1 trivial
 ·exact .of1 trivial
def amf{d:Option Nat}{op:Op}(hρ: ∀ x∈op.operands,ρ' x=ρ x)(hF: ∀ x∈op.operands,InA F (ρ x))(hC:anN F H)(hH:Agr F H H'):spA C b d ρ' H' op=spA C b d ρ H op:=by
 unfold spA;split
 ·rename_i c;obtain⟨cal,⟨args⟩,⟨tys⟩⟩:=c;have ea:args.map ρ'=args.map ρ:=av0 fun x hx=>hρ x (by
   simp only[au1,axh,awS];exact .inr (by simpa using hx))
  have has: ∀ v∈args.map ρ,InA F v:=fun v hv=>by
   obtain⟨x,hx,rfl⟩:=avH.1 hv;exact hF x (by
    simp only[au1,axh,awS];exact .inr (by simpa using hx))
  have hc:EJ C.P ρ' H' ⟨cal,⟨args⟩,⟨tys⟩⟩=EJ C.P ρ H ⟨cal,⟨args⟩,⟨tys⟩⟩:=acQ (F:=F) (fun x hx=>hρ x (by
   simp only[au1,axh,awS];exact .inr (by simpa using hx))) (fun x hx=>hF x (by
   simp only[au1,axh,awS];exact .inr (by simpa using hx))) hH
  split
  ·rename_i f as _;simp only at *;congr 1;funext m;simp only[ea,FN hH hC m.ps _ has,Gt hH hC m.ps _ has,FO hH hC m.ps _ has];split
   ·congr 1;funext x;rw[(uv _ H' H m.rs b ((m.g x).getD (DJ m.rs,DJ (bg m.ps))).1).1]
   ·rfl
  ·rfl
  ·rfl
  ·rw[hc]
 ·rfl
 ·rfl
 ·rename_i t x lo hi;rw[hρ x (by simp[au1]),HD hρ (.inr hF) hH]
 ·rw[HD hρ (.inr hF) hH]
def amg{o:Oper}{q:Bool}{v:AV}(hok:okO C o=true)(hF: ∀ x∈o.op.operands,InA F (ρ x))(hC:anN F H)(hb: ∀ j,b≤j→j < b+16→F j)(h:spA C b o.dst ρ H o.op=some (q,v)):InA F v:=by
 have hFb:F b:=hb b (auS b) (by omega);unfold spA at h;unfold okO at hok;generalize ho:o.op=op at h hok hF;have pu:(match bY C.P C.kd ρ H b op with
  | some (q,v,[])=>some (q,v)
  | _=>none)=some (q,v)→InA F v:=by
  intro h;split at h
  ·rename_i hp;cases h;exact(YD hF (.inr hF) hC hFb _ _ _ hp).1
  ·cases h
 split at h
 ·rename_i c;obtain⟨cal,⟨args⟩,⟨tys⟩⟩:=c;simp only at h hok;split at h
  ·rename_i f;obtain⟨m,hm,h⟩:=auI.1 h;split at h
   ·rename_i hc;obtain⟨x,hx,h⟩:=auI.1 h;simp only[auU,avs]at h;obtain⟨_,h⟩:=h;generalize (m.g x).getD (DJ m.rs,DJ (bg m.ps))=r at h;rw[← h];simp only[hm,okS,auF]at hok;simp only[auF]at hc;have hbn: ∀ H0,(aC (fun i=>((args.map ρ)[i]?).getD .un) H0 b m.rs r.1).2.2≤b+16:=fun H0=>by
     have:=HI (fun i=>((args.map ρ)[i]?).getD .un) H0 b m.rs r.1 hc.1.1.1;rw[this];exact ayI b 16
    obtain⟨vs,es,b',h1,h2,h3⟩:=Kl (F:=F) (W:=F) (fun i=>((args.map ρ)[i]?).getD .un) m.rs b r.1 (b+16) hok.1 (fun j h1 h2=>⟨hb j h1 h2,hb j h1 h2⟩) hbn;rw[h3];exact abe h1
   ·cases h
  ·cases h
  ·cases h
  ·split at h
   ·rename_i hp;cases h;exact(acR _ _ _ _ hp).1
   ·cases h
 ·cases h
 ·cases h
 ·split at h
  ·cases h
  ·exact pu h
 ·exact pu h
def al2(C:Cx)(ops:Array Oper)(F N:Nat→Prop)(WS:Step→Prop)(b:Nat)(o:Oper)(s s':S):Prop:=
 ∃ (g:Option Nat) (v:AV) (es:List Step),InA F v∧(∀ e∈es,WS e∧ao1 F e)∧(∀ x,g=some x→x∈du ops o)∧s'=(es.foldl S.app s).fin g o.dst v∧
  ∀ s2:S,(∀ t∈du ops o,s2.T t=s.T t)→aoE s s2 o.dst→Agr N s.H s2.H→ev1 C ops o b s2=some ((es.foldl S.app s2).fin g o.dst v)
def aa1: ∀ (es:List Step) (s:S),(es.foldl S.app s).gs=s.gs∧(es.foldl S.app s).n=s.n∧(es.foldl S.app s).pins=s.pins∧(es.foldl S.app s).nid=s.nid
 | [],_=>⟨rfl,rfl,rfl,rfl⟩
 | e::es,s=>aa1 es (s.app e)
def vX(s:S)(d:Option Nat)(v:AV):s.fin none d v=s.put d v:=by
 cases d<;>rfl
def aeA{α:Type}(f:Nat→α)(i:Nat)(v:α)(h:f i=v):upd f i v=f:=by
 funext j;by_cases e:j=i
 ·subst e;rw[aD,h]
 ·rw[aM _ _ e]
def xC{ops:Array Oper}{o:Oper}{t:Nat}(h:Operand.tmp t∈o.op.operands):t∈o.looksAt ops:=
 auT _ (avU.2 ⟨.tmp t,by simpa using h,rfl⟩)
def QJ{ops:Array Oper}{o:Oper}{j g:Nat}{want:Bool}(hg:o.guard=some (j,want))(h:(ops[j]?).bind (·.dst)=some g):g∈o.looksAt ops:=by
 refine auY _ ?_;rw[hg];simp[h]
def acM{ops:Array Oper}: ∀ (n:Nat) (o:Oper),(∀ t∈aaD ops n o,s2.T t=s.T t)→NM ops s2 n o=NM ops s n o
 | 0,_,_=>rfl
 | n+1,o,h=>by
  unfold NM;unfold aaD at h;cases hg:o.guard with
  | none=>rfl
  | some jw=>
   obtain⟨j,want⟩:=jw;rw[hg]at h;simp only at h ⊢;cases hj:ops[j]? with
   | none=>rfl
   | some oj=>
    rw[hj]at h;simp only at h;simp only[auE];cases hd:oj.dst with
    | none=>rfl
    | some g=>
     rw[hd]at h;simp only[auE,h g (by simp),acM n oj (fun t ht=>h t (auY _ ht))]
def alj{ops:Array Oper}{o:Oper}(hok:okO C o=true)(hrd: ∀ t∈du ops o,InA F (s.T t))(hCN: ∀ id ob,N id→s.H id=some ob→zc F ob)(hF: ∀ j,b≤j→j < b+16→F j)
  (hN: ∀ e:Step,b≤e.id→e.id < b+16→WS e)(hW:(tJ C s o=none→(∀ e:Step,F e.id→e.fk= .no→WS e)∧ ∀ e:Step,e.id∈RH C s o→WS e)∧ ∀ l,tJ C s o=some l→ ∀ e:Step,e.id∈l→WS e)
  (hNF:(pur o=true∧o.guard=none∧(mov o.op=true∨ ∀ t∈du ops o,InA N (s.T t)))∨ ∀ id,F id→N id)(he:ev1 C ops o b s=some s'):al2 C ops F N WS b o s s':=by
 have hop: ∀ x∈o.op.operands,InA F (s.ev x):=fun x hx=>by
  cases x with
  | tmp t=>exact hrd t (auT _ (xC hx))
  | const v=>exact aaf v
  | _=>exact .of1 trivial
 have eop: ∀ s2:S,(∀ t∈du ops o,s2.T t=s.T t)→ ∀ x∈o.op.operands,s2.ev x=s.ev x:=fun s2 h x hx=>by
  cases x with
  | tmp t=>exact h t (auT _ (xC hx))
  | _=>rfl
 have hY:jf C (af S) o b s some=some s'→ ∃ (v:AV) (es:List Step),InA F v∧(∀ e∈es,WS e∧ao1 F e)∧s'=(es.foldl S.app s).put o.dst v∧
  ∀ s2:S,(∀ x∈o.op.operands,s2.ev x=s.ev x)→s2.has o.dst=s.has o.dst→Agr N s.H s2.H→jf C (af S) o b s2 some=some ((es.foldl S.app s2).put o.dst v):=
  fun h=>ajx hok hop hCN hF hN hW (hNF.imp (fun h=>⟨h.1,h.2.2.imp id fun h x hx=>by
   cases x with
   | tmp t=>exact h t (auT _ (xC hx))
   | const v=>exact aaf v
   | _=>exact .of1 trivial⟩) id) h
 unfold ev1 evG at he;unfold al2 ev1;split at he
 ·rename_i hg;obtain⟨v,es,h1,h2,h3,h4⟩:=hY he;refine⟨none,v,es,h1,h2,nofun,by rw[vX];exact h3,fun s2 e1 e2 e3=> ?_⟩;unfold evG;rw[hg,vX];exact h4 s2 (eop s2 e1) e2.has e3
 ·rename_i j want hg;have hNs: ∀ id,F id→N id:=hNF.resolve_left fun h=>by rw[hg]at h;cases h.2.1
  have hC:anN F s.H:=fun id ob hid ho=>hCN id ob (hNs id hid) ho;split at he
  ·cases he
  ·rename_i g hgd hsp;have hgl:g∈du ops o:=auT _ (QJ hg hgd);split at he
   ·rename_i qq v aot hv;split at he
    ·rename_i hn;split at he
     case isFalse=>cases he
     rename_i asv;cases he;have opn: ∀ x∈o.op.operands,InA F ((s.narrow g want).ev x):=fun x hx=>by
      cases x with
      | tmp t=>
       show InA F (upd (fun t=>tL g want (s.T t)) g (.b want) t);by_cases e:t=g
       ·subst e;rw[aD];exact .of1 trivial
       ·rw[aM _ _ e];exact ah4 (hrd t (auT _ (xC hx)))
      | const v=>exact aaf v
      | _=>exact .of1 trivial
     have hvF:InA F v:=amg hok opn hC hF hv;have auh:InA F (.gd g want v):=by
      show In3 F v;cases v<;>first | (cases hn;done) | exact hvF
     refine⟨some g,.gd g want v,[],auh,by simp,fun x hx=>by cases hx;exact hgl,rfl,fun s2 e1 e2 e3=> ?_⟩;unfold evG;rw[hg];simp only[hgd,hsp];have e4:({ s2 with gs:=upd s2.gs g true } :S).has o.dst=true:=by rw[e2.more g];exact aot
     have e5:spA C b o.dst (s2.narrow g want).ev s2.H o.op=some (qq,v):=by
      rw[amf (ρ:=(s.narrow g want).ev) (H:=s.H) (F:=F) (fun x hx=> ?_) opn hC (e3.mono hNs)]
      ·exact hv
      ·cases x with
       | tmp t=>
        show upd (fun t=>tL g want (s2.T t)) g (.b want) t=upd (fun t=>tL g want (s.T t)) g (.b want) t;by_cases e:t=g
        ·subst e;rw[aD,aD]
        ·rw[aM _ _ e,aM _ _ e,e1 t (auT _ (xC hx))]
       | _=>rfl
     have e6:NM ops s2 4 o=NM ops s 4 o:=acM 4 o fun t ht=>e1 t (auY _ ht);rw[e4,e5];simp only[hn,e6,asv,auy];rfl
    ·cases he
   ·cases he
  ·rename_i g hgd hsp;have hgl:g∈du ops o:=auT _ (QJ hg hgd);split at he
   ·rename_i c hT;have same: ∀ (s0:S) (w:Bool),s0.T g= .lit (.bool c)→c=w→({ s0 with T:=upd s0.T g (.b w) } :S)=s0:=fun s0 w h e=>by
     subst e;rw[aeA _ _ _ h]
    have yes:jf C (af S) o b { s with T:=upd s.T g (.b want) } some=some s'→c=want→
      ∃ (gg:Option Nat) (v:AV) (es:List Step),InA F v∧(∀ e∈es,WS e∧ao1 F e)∧(∀ x,gg=some x→x∈du ops o)∧s'=(es.foldl S.app s).fin gg o.dst v∧
       ∀ s2:S,(∀ t∈du ops o,s2.T t=s.T t)→aoE s s2 o.dst→Agr N s.H s2.H→evG C (af S) ops o b s2 some=some ((es.foldl S.app s2).fin gg o.dst v):=by
     intro he e;rw[same s want hT e]at he;obtain⟨v,es,h1,h2,h3,h4⟩:=hY he;refine⟨none,v,es,h1,h2,nofun,by rw[vX];exact h3,fun s2 e1 e2 e3=> ?_⟩;have hT2:s2.T g= .lit (.bool c):=(e1 g hgl).trans hT;have:=h4 s2 (eop s2 e1) e2.has e3;unfold evG;rw[hg,vX];simp only[hgd,hsp,hT2];have e5:=same s2 want hT2 e;subst e;cases c<;>simp only[auy,if_false,awi]<;>rw[e5]<;>exact this
    have no:(match s.has o.dst with
      | true=>some (({ s with T:=upd s.T g (.b (!want)) } :S).put o.dst qU)
      | false=>none)=some s'→c= !want→
      ∃ (gg:Option Nat) (v:AV) (es:List Step),InA F v∧(∀ e∈es,WS e∧ao1 F e)∧(∀ x,gg=some x→x∈du ops o)∧s'=(es.foldl S.app s).fin gg o.dst v∧
       ∀ s2:S,(∀ t∈du ops o,s2.T t=s.T t)→aoE s s2 o.dst→Agr N s.H s2.H→evG C (af S) ops o b s2 some=some ((es.foldl S.app s2).fin gg o.dst v):=by
     intro he e;rw[same s _ hT e]at he;split at he
     ·rename_i aot;cases he;refine⟨none,qU,[],.of1 trivial,by simp,nofun,by rw[vX];rfl,fun s2 e1 e2 e3=> ?_⟩;have hT2:s2.T g= .lit (.bool c):=(e1 g hgl).trans hT;have hh2:=e2.has.trans aot;unfold evG;rw[hg,vX];simp only[hgd,hsp,hT2];have e5:=same s2 _ hT2 e;subst e;cases want<;>simp only[auG,auH]at e5<;>simp only[auG,auH,auy,if_false,awi,hh2]<;>rw[e5]<;>rfl
     ·cases he
    cases want<;>cases c<;>simp only[auy,if_false,awi]at he
    ·exact yes he rfl
    ·exact no he rfl
    ·exact no he rfl
    ·exact yes he rfl
   ·rename_i vs hT;split at he
    ·rename_i aot;cases he;refine⟨none,qU,[],.of1 trivial,by simp,nofun,by rw[vX];rfl,fun s2 e1 e2 e3=> ?_⟩;have hT2:s2.T g= .lit (.tuple vs):=(e1 g hgl).trans hT;have hh2:=e2.has.trans aot;unfold evG;rw[hg,vX];simp only[hgd,hsp,hT2,hh2];rfl
    ·cases he
   ·cases he
end
end Go.VS
namespace Go.VS
open Go
section
variable {F G N:Nat→Prop} {H H':Hp} {P:Program} {s s' s2:S} {b:Nat} {C:Cx}
def ao1.mono(h: ∀ id,F id→G id){e:Step}(he:ao1 F e):ao1 G e:=fun ob eo=>by
 have:=he ob eo;cases ob<;>first | trivial | exact fun c hc=>(this c hc).mono h
def Fk.art(id:Nat)(fk:Fk){c:AV}(h:In1 F c)(hn: ¬ F id):fk.f id c=c:=by
 have ne: ∀ j,F j→auW j id=false:=fun j hj=>by
  cases e:auW j id with
  | false=>rfl
  | true=>exact absurd (aI e▸hj) hn
 cases fk with
 | no=>rfl
 | kl=>
  cases c<;>first | rfl | (simp only[Fk.f,kl1,ne _ h];done)
 | fz k xs=>
  cases c<;>first | rfl | (simp only[Fk.f,fz1,ne _ h];done)
def Up{f:AV→AV}(hf: ∀ c,In1 F c→f c=c){v:AV}(h:In2 F v):qI f v=v:=by
 cases v<;>first | exact hf _ h | skip
 rename_i cs;exact congrArg AV.agg ((av0 fun c hc=>hf c (h c hc)).trans (azm cs))
def Un{f:AV→AV}(hf: ∀ c,In1 F c→f c=c){v:AV}(h:In3 F v):rY f v=v:=by
 have gen:In2 F v→qI f v=v:=fun h=>Up hf h;cases v<;>first | exact gen h | skip
 rename_i cs;exact congrArg AV.tup ((av0 fun c hc=>Up hf (h c hc)).trans (azm cs))
def OI{f:AV→AV}(hf: ∀ c,In1 F c→f c=c){v:AV}(h:InA F v):yi f v=v:=by
 have gen:In3 F v→rY f v=v:=fun h=>Un hf h;cases v with
 | gd g w v=>exact congrArg (AV.gd g w) (Un hf h)
 | _=>exact gen h
def OH{f:AV→AV}(hf: ∀ c,In1 F c→f c=c){o:Option Ob}(h: ∀ ob,o=some ob→zc F ob):iY f o=o:=by
 cases o with
 | none=>rfl
 | some ob=>
  have:=h ob rfl;cases ob<;>first | rfl | skip
  rename_i e cs;exact congrArg (fun l=>some (Ob.box e l)) ((av0 fun c hc=>hf c (this c hc)).trans (azm cs))
def Fk.aon{e:Step}{c:AV}(h:In1 F c)(hn:e.fk= .no∨ ¬ F e.id):e.fk.f e.id c=c:=by
 rcases hn with hn | hn
 ·rw[hn];rfl
 ·exact Fk.art _ _ h hn
def Ho{t:Nat}: ∀ (es:List Step) (s:S),(∀ e∈es,e.fk= .no∨ ¬ F e.id)→InA F (s.T t)→(es.foldl S.app s).T t=s.T t
 | [],_,_,_=>rfl
 | e::es,s,h,ht=>by
  have h1:(s.app e).T t=s.T t:=OI (fun c hc=>Fk.aon hc (h e auM)) ht;show(es.foldl S.app (s.app e)).T t=s.T t;rw[Ho es _ (fun e' he=>h e' (auJ _ he)) (by rw[h1];exact ht),h1]
def W0(N F:Nat→Prop)(H:Hp):Prop:= ∀ id ob,N id→H id=some ob→zc F ob
def Hq: ∀ (es:List Step) (s:S),(∀ e∈es,¬ N e.id∧(e.fk= .no∨ ¬ F e.id))→W0 N F s.H→Agr N s.H (es.foldl S.app s).H
 | [],_,_,_=>Agr.refl _ _
 | e::es,s,h,hC=>by
  have h1:Agr N s.H (s.app e).H:=fun id hid=>by
   rw[Yn,aur (fun(e':id=e.id)=>(h e auM).1 (e'▸hid))];exact OH (fun c hc=>Fk.aon hc (h e auM).2) (fun ob ho=>hC id ob hid ho)
  have hC1:W0 N F (s.app e).H:=fun id ob hid ho=>hC id ob hid (by rw[← h1 id hid];exact ho);intro id hid;show(es.foldl S.app (s.app e)).H id=s.H id;rw[Hq es _ (fun e' he=>h e' (auJ _ he)) hC1 id hid,h1 id hid]
def WR: ∀ (es:List Step) (s:S),(∀ e∈es,ao1 F e∨ ¬ N e.id)→W0 N F s.H→W0 N F (es.foldl S.app s).H
 | [],_,_,h=>h
 | e::es,s,h,hC=>by
  refine WR es (s.app e) (fun e' he=>h e' (auJ _ he)) ?_;intro id ob hid ho;rw[Yn]at ho;split at ho
  ·rename_i e';rcases h e auM with h1 | h1
   ·exact h1 ob ho
   ·exact absurd (e'▸hid) h1
  ·exact aeT (fun c hc=>Fk.arI _ _ hc) (fun ob ho=>hC id ob hid ho) ob ho
def QU{id:Nat}: ∀ (es:List Step) (s:S),(∀ e∈es,e.id≠id)→s.H id=none→(es.foldl S.app s).H id=none
 | [],_,_,h=>h
 | e::es,s,hn,h=>by
  refine QU es _ (fun e' he=>hn e' (auJ _ he)) ?_;rw[Yn,aur (fun e'=>hn e auM e'.symm),h];rfl
def Qp{t:Nat}: ∀ (es:List Step) (s:S),InA F (s.T t)→InA F ((es.foldl S.app s).T t)
 | [],_,h=>h
 | e::es,s,h=>Qp es (s.app e) (aeU (fun c hc=>Fk.arI _ _ hc) h)
def Fk.aoZ{i j:Nat}(h:i≠j)(f g:Fk)(c:AV):f.f i (g.f j c)=g.f j (f.f i c):=by
 have h1:auW i j=false:=by rw[← awo,awY];exact h
 have h2:auW j i=false:=by rw[← awo,awY];exact axT h
 have key: ∀ id,(auW id i=true→auW id j=false):=fun id e=>by rw[aI e];exact h1
 cases c with
 | own id=>
  cases f<;>cases g<;>simp only[Fk.f,kl1,fz1]<;>cases e1:auW id i<;>cases e2:auW id j<;>simp only[e1,e2]<;>
   first | rfl | (rw[key id e1]at e2;cases e2)
 | ptr id z a o=>
  cases f<;>cases g<;>simp only[Fk.f,kl1,fz1]<;>cases e1:auW id i<;>cases e2:auW id j<;>simp only[e1,e2]<;>
   first | rfl | (rw[key id e1]at e2;cases e2)
 | _=>cases f<;>cases g<;>rfl
def plA:AV→Bool
 | .agg _=>false
 | .tup _=>false
 | .gd _ _ _=>false
 | _=>true
def YE(id:Nat)(fk:Fk){c:AV}(h:plA c=true):plA (fk.f id c)=true:=by
 cases fk with
 | no=>exact h
 | kl=>
  cases c<;>first | exact h | skip
  ·simp only[Fk.f,kl1];split<;>rfl
  ·simp only[Fk.f,kl1];split<;>rfl
 | fz k xs=>
  cases c<;>first | exact h | skip
  ·simp only[Fk.f,fz1];split<;>rfl
  ·simp only[Fk.f,fz1];split<;>rfl
def Mo{f:AV→AV}{c:AV}(h:plA c=true):qI f c=f c:=by cases c<;>first | rfl | cases h
def Mn{f:AV→AV}{c:AV}(h:plA c=true):rY f c=f c:=by cases c<;>first | rfl | cases h
def S3{f:AV→AV}{c:AV}(h:plA c=true):yi f c=f c:=by cases c<;>first | rfl | cases h
section comm
variable {i j:Nat} (hij:i≠j) (f g:Fk)
include hij
def Km(v:AV):qI (f.f i) (qI (g.f j) v)=qI (g.f j) (qI (f.f i) v):=by
 by_cases hp:plA v=true
 ·rw[Mo hp,Mo hp,Mo (YE _ _ hp),Mo (YE _ _ hp),Fk.aoZ hij]
 ·cases v with
  | agg cs=>simp only[qI,awK];exact congrArg AV.agg (av0 fun c _=>Fk.aoZ hij f g c)
  | tup cs=>cases f<;>cases g<;>rfl
  | gd a b c=>cases f<;>cases g<;>rfl
  | _=>exact absurd rfl hp
def Uo(v:AV):rY (f.f i) (rY (g.f j) v)=rY (g.f j) (rY (f.f i) v):=by
 by_cases hp:plA v=true
 ·rw[Mn hp,Mn hp,Mn (YE _ _ hp),Mn (YE _ _ hp),Fk.aoZ hij]
 ·cases v with
  | agg cs=>exact Km hij f g (.agg cs)
  | tup cs=>simp only[rY,awK];exact congrArg AV.tup (av0 fun c _=>Km hij f g c)
  | gd a b c=>cases f<;>cases g<;>rfl
  | _=>exact absurd rfl hp
def YM(v:AV):yi (f.f i) (yi (g.f j) v)=yi (g.f j) (yi (f.f i) v):=by
 by_cases hp:plA v=true
 ·rw[S3 hp,S3 hp,S3 (YE _ _ hp),S3 (YE _ _ hp),Fk.aoZ hij]
 ·cases v with
  | agg cs=>exact Km hij f g (.agg cs)
  | tup cs=>exact Uo hij f g (.tup cs)
  | gd a b c=>exact congrArg (AV.gd a b) (Uo hij f g c)
  | _=>exact absurd rfl hp
def agD(o:Option Ob):iY (f.f i) (iY (g.f j) o)=iY (g.f j) (iY (f.f i) o):=by
 cases o with
 | none=>rfl
 | some o=>
  cases o with
  | box e cs=>simp only[iY,awK];exact congrArg (fun l=>some (Ob.box e l)) (av0 fun c _=>Fk.aoZ hij f g c)
  | _=>rfl
end comm
def S.ext'{s s':S}(h1:s.n=s'.n)(h2:s.T=s'.T)(h3:s.H=s'.H)(h4:s.nid=s'.nid)(h5:s.st=s'.st)(h6:s.pins=s'.pins)(h7:s.gs=s'.gs):s=s':=by
 cases s;cases s';simp_all
def aj2{e e':Step}(hn:e.id≠e'.id)(h1:iY (e'.fk.f e'.id) e.ob=e.ob)(h2:iY (e.fk.f e.id) e'.ob=e'.ob):(s.app e).app e'=(s.app e').app e:=by
 refine S.ext' rfl (funext fun t=>YM hn.symm e'.fk e.fk (s.T t)) (funext fun id=> ?_) rfl ?_ rfl rfl
 ·rw[Yn,Yn,Yn,Yn];by_cases a1:id=e'.id
  ·subst a1;rw[aus rfl,aur hn.symm,aus rfl,h2]
  ·rw[aur a1,aur a1];by_cases a2:id=e.id
   ·rw[aus a2,aus a2,h1]
   ·rw[aur a2,aur a2,agD hn.symm e'.fk e.fk]
 ·show(s.st.map _).map _=(s.st.map _).map _;rw[awK,awK];exact av0 fun T _=>funext fun t=>YM hn.symm e'.fk e.fk (T t)
def WkS(F W K:Nat→Prop)(e:Step):Prop:=(W e.id∧(e.fk= .no∨K e.id))∧ao1 F e
def Wk(F W K:Nat→Prop)(es:List Step):Prop:= ∀ e∈es,WkS F W K e
def JM{F F' W W' K K':Nat→Prop}(hW: ∀ id,W id→ ¬ W' id)(h1: ∀ id,K id→ ¬ F' id)(h2: ∀ id,K' id→ ¬ F id){e:Step}(he:WkS F W K e): ∀ (es:List Step) (s:S),Wk F' W' K' es→(es.foldl S.app s).app e=es.foldl S.app (s.app e)
 | [],_,_=>rfl
 | e'::es,s,h=>by
  have he':=h e' auM;have hn:e.id≠e'.id:=fun x=>hW _ he.1.1 (x▸he'.1.1);have c:=aj2 (s:=s) hn (OH (F:=F) (fun c hc=>Fk.aon hc (he'.1.2.imp id (h2 _))) he.2) (OH (F:=F') (fun c hc=>Fk.aon hc (he.1.2.imp id (h1 _))) he'.2);show(es.foldl S.app (s.app e')).app e=es.foldl S.app ((s.app e).app e');rw[JM hW h1 h2 he es _ (fun e0 h0=>h e0 (auJ _ h0)),c]
def ZA{F F' W W' K K':Nat→Prop}(hW: ∀ id,W id→ ¬ W' id)(h1: ∀ id,K id→ ¬ F' id)(h2: ∀ id,K' id→ ¬ F id): ∀ (es es':List Step) (s:S),Wk F W K es→Wk F' W' K' es'→es.foldl S.app (es'.foldl S.app s)=es'.foldl S.app (es.foldl S.app s)
 | [],_,_,_,_=>rfl
 | e::es,es',s,h,h'=>by
  show es.foldl S.app ((es'.foldl S.app s).app e)=es'.foldl S.app (es.foldl S.app (s.app e));rw[JM hW h1 h2 (h e auM) es' s h',ZA hW h1 h2 es es' _ (fun e0 h0=>h e0 (auJ _ h0)) h']
def alE{e:Step}{g d:Option Nat}{v:AV}(hv:yi (e.fk.f e.id) v=v):(s.fin g d v).app e=(s.app e).fin g d v:=by
 cases d with
 | none=>exact S.ext' rfl rfl rfl rfl rfl rfl rfl
 | some d=>
  refine S.ext' rfl (funext fun t=> ?_) rfl rfl rfl rfl rfl;show yi _ (upd s.T d v t)=upd (fun t=>yi _ (s.T t)) d v t;by_cases e:t=d
  ·subst e;rw[aD,aD,hv]
  ·rw[aM _ _ e,aM _ _ e]
def WO{g d:Option Nat}{v:AV}: ∀ (es:List Step) (s:S),(∀ e∈es,yi (e.fk.f e.id) v=v)→es.foldl S.app (s.fin g d v)=(es.foldl S.app s).fin g d v
 | [],_,_=>rfl
 | e::es,s,h=>by
  show es.foldl S.app ((s.fin g d v).app e)=(es.foldl S.app (s.app e)).fin g d v;rw[alE (h e auM),WO es _ fun e' h'=>h e' (auJ _ h')]
def aju{g g' d d':Option Nat}{v v':AV}(hd: ∀ t,d=some t→d'≠some t):(s.fin g d v).fin g' d' v'=(s.fin g' d' v').fin g d v:=by
 have hT: ∀ (d d':Nat) (v v':AV) (T:Nat→AV),d≠d'→upd (upd T d v) d' v'=upd (upd T d' v') d v:=fun d d' v v' T hn=>by
  funext t;by_cases e:t=d'
  ·subst e;rw[aD,aM _ _ hn.symm,aD]
  ·rw[aM _ _ e];by_cases e2:t=d
   ·subst e2;rw[aD,aD]
   ·rw[aM _ _ e2,aM _ _ e2,aM _ _ e]
 have hG: ∀ (g g':Nat) (T:Nat→Bool),upd (upd T g true) g' true=upd (upd T g' true) g true:=fun g g' T=>by
  funext t;by_cases e:t=g'
  ·subst e;rw[aD];by_cases e2:t=g
   ·subst e2;rw[aD]
   ·rw[aM _ _ e2,aD]
  ·rw[aM _ _ e];by_cases e2:t=g
   ·subst e2;rw[aD,aD]
   ·rw[aM _ _ e2,aM _ _ e2,aM _ _ e]
 refine S.ext' ?_ ?_ ?_ ?_ ?_ ?_ ?_
 ·cases d<;>cases d'<;>rfl
 ·cases d with
  | none=>cases d'<;>rfl
  | some d=>cases d' with
   | none=>rfl
   | some d'=>exact hT _ _ _ _ s.T (fun e=>hd d rfl (by rw[e]))
 ·cases d<;>cases d'<;>rfl
 ·cases d<;>cases d'<;>rfl
 ·cases d<;>cases d'<;>rfl
 ·cases d<;>cases d'<;>rfl
 ·cases d<;>cases d'<;>cases g<;>cases g'<;>first | rfl | exact hG _ _ s.gs
end
end Go.VS
namespace Go.VS
open Go
structure Lb where
 b:Nat→Nat
 F:Nat→Nat→Prop
 N:Nat→Nat→Prop
 W:Nat→Nat→Prop
 K:Nat→Nat→Prop
 V:Nat→Nat→Prop
 R:Nat→Nat→Prop
def Stp(C:Cx)(ops:Array Oper)(o:Oper)(b:Nat)(F N W K V:Nat→Prop)(s s':S):Prop:=
 ∃ (g:Option Nat) (v:AV) (es:List Step),InA F v∧(∀ t,o.dst=some t→InA V v)∧Wk F W K es∧(∀ x,g=some x→x∈du ops o)∧s'=(es.foldl S.app s).fin g o.dst v∧
  ∀ s2:S,(∀ t∈du ops o,s2.T t=s.T t)→aoE s s2 o.dst→Agr N s.H s2.H→ev1 C ops o b s2=some ((es.foldl S.app s2).fin g o.dst v)
section
variable {C:Cx} {ops:Array Oper} {s s' s0 s1 s2:S}
def Stp.ev{o:Oper}{b:Nat}{F N W K V:Nat→Prop}(h:Stp C ops o b F N W K V s s'):ev1 C ops o b s=some s':=by
 obtain⟨g,v,es,_,_,_,_,rfl,h⟩:=h;exact h s (fun _ _=>rfl) ⟨rfl,rfl,fun _ _=>rfl⟩ (Agr.refl _ _)
def afd{g d:Option Nat}{v:AV}{t:Nat}:(s.fin g d v).T t=if d=some t then v else s.T t:=by
 cases d with
 | none=>simp[S.fin,S.put]
 | some d=>
  show upd s.T d v t=_;by_cases e:t=d
  ·subst e;rw[aD];simp
  ·rw[aM _ _ e,aur (fun e'=>e (by simpa using e'.symm))]
def afe{g d:Option Nat}{v:AV}:(s.fin g d v).H=s.H:=by cases d<;>rfl
def ajt{g d:Option Nat}{v:AV}{t:Nat}(h:g≠some t):(s.fin g d v).gs t=s.gs t:=by
 cases g with
 | none=>cases d<;>rfl
 | some g=>
  have:t≠g:=fun e=>h (by rw[e]);cases d<;>exact aM _ _ this
def Stp.swap{x i:Oper}{bx bi:Nat}{Fx Nx Wx Kx Vx Fi Ni Wi Ki Vi:Nat→Prop}(h1:Stp C ops x bx Fx Nx Wx Kx Vx s0 s1)(h2:Stp C ops i bi Fi Ni Wi Ki Vi s1 s2)
  (kxi: ∀ id,Kx id→ ¬ Fi id)(kix: ∀ id,Ki id→ ¬ Fx id)(nxi: ∀ id,Wx id→ ¬ Ni id)(nix: ∀ id,Wi id→ ¬ Nx id)(wxi: ∀ id,Wx id→ ¬ Wi id)(dxi: ∀ t,x.dst=some t→t ∉ du ops i)(dix: ∀ t,i.dst=some t→t ∉ du ops x)(hd: ∀ t,x.dst=some t→i.dst≠some t)
  (rx: ∀ t∈du ops x,InA Fx (s0.T t))(cx:W0 Nx Fx s0.H)(ri: ∀ t∈du ops i,InA Fi (s0.T t))(ci:W0 Ni Fi s0.H):
  ∃ s0',Stp C ops i bi Fi Ni Wi Ki Vi s0 s0'∧Stp C ops x bx Fx Nx Wx Kx Vx s0' s2:=by
 obtain⟨g1,v1,es1,a1,a2,a3,a4,a5,a6⟩:=h1;obtain⟨g2,v2,es2,b1,b2,b3,b4,b5,b6⟩:=h2;have n1: ∀ e∈es1,e.fk= .no∨ ¬ Fi e.id:=fun e he=>(a3 e he).1.2.imp id (kxi _);have p1: ∀ e∈es1,¬ Ni e.id∧(e.fk= .no∨ ¬ Fi e.id):=fun e he=>⟨nxi _ (a3 e he).1.1,n1 e he⟩;have n2: ∀ e∈es2,e.fk= .no∨ ¬ Fx e.id:=fun e he=>(b3 e he).1.2.imp id (kix _);have p2: ∀ e∈es2,¬ Nx e.id∧(e.fk= .no∨ ¬ Fx e.id):=fun e he=>⟨nix _ (b3 e he).1.1,n2 e he⟩;have T1: ∀ t∈du ops i,s1.T t=s0.T t:=fun t ht=>by
  rw[a5,afd,aur (fun e=>dxi t e ht)];exact Ho es1 s0 n1 (ri t ht)
 have H1:Agr Ni s0.H s1.H:=by
  rw[a5,afe];exact Hq es1 s0 p1 ci
 have E1:aoE s0 s1 i.dst:=by
  obtain⟨p1,p2,p3,_⟩:=aa1 es1 s0;rw[a5];refine⟨?_, ?_,fun t ht=> ?_⟩
  ·rw[← p2];cases x.dst<;>rfl
  ·rw[← p3];cases x.dst<;>rfl
  ·rw[ajt (fun e=>dix t ht (a4 t e)),p1]
 have step: ∀ s3:S,(∀ t∈du ops i,s3.T t=s0.T t)→aoE s0 s3 i.dst→Agr Ni s0.H s3.H→ev1 C ops i bi s3=some ((es2.foldl S.app s3).fin g2 i.dst v2):=fun s3 e1 e2 e3=>
  b6 s3 (fun t ht=>by rw[e1 t ht,T1 t ht]) ⟨e2.1.trans E1.1.symm,e2.2.1.trans E1.2.1.symm,fun t ht=>by rw[e2.2.2 t ht,E1.2.2 t ht]⟩ (fun id hid=>by rw[e3 id hid,H1 id hid])
 have T2: ∀ t∈du ops x,((es2.foldl S.app s0).fin g2 i.dst v2).T t=s0.T t:=fun t ht=>by
  rw[afd,aur (fun e=>dix t e ht)];exact Ho es2 s0 n2 (rx t ht)
 have H2:Agr Nx s0.H ((es2.foldl S.app s0).fin g2 i.dst v2).H:=by
  rw[afe];exact Hq es2 s0 p2 cx
 have E2:aoE s0 ((es2.foldl S.app s0).fin g2 i.dst v2) x.dst:=by
  obtain⟨p1,p2,p3,_⟩:=aa1 es2 s0;refine⟨?_, ?_,fun t ht=> ?_⟩
  ·rw[← p2];cases i.dst<;>rfl
  ·rw[← p3];cases i.dst<;>rfl
  ·rw[ajt (fun e=>dxi t ht (b4 t e)),p1]
 have eq:s2=(es1.foldl S.app ((es2.foldl S.app s0).fin g2 i.dst v2)).fin g1 x.dst v1:=by
  have m1: ∀ e∈es1,yi (e.fk.f e.id) v2=v2:=fun e he=>OI (fun c hc=>Fk.aon hc (n1 e he)) b1;have m2: ∀ e∈es2,yi (e.fk.f e.id) v1=v1:=fun e he=>OI (fun c hc=>Fk.aon hc (n2 e he)) a1;rw[b5,a5,WO es2 _ m2,WO es1 _ m1,ZA wxi kxi kix es1 es2 s0 a3 b3,aju hd]
 refine⟨(es2.foldl S.app s0).fin g2 i.dst v2,⟨g2,v2,es2,b1,b2,b3,b4,rfl,step⟩,⟨g1,v1,es1,a1,a2,a3,a4,eq,fun s3 e1 e2 e3=> ?_⟩⟩;exact a6 s3 (fun t ht=>by rw[e1 t ht,T2 t ht]) ⟨e2.1.trans E2.1,e2.2.1.trans E2.2.1,fun t ht=>by rw[e2.2.2 t ht,E2.2.2 t ht]⟩ (fun id hid=>by rw[e3 id hid,H2 id hid])
inductive Run (C:Cx) (ops:Array Oper) (L:Lb):List Nat→S→S→Prop
 | nil {s:S} :Run C ops L [] s s
 | cons {i:Nat} {o:Oper} {l:List Nat} {s s1 s':S} (ho:ops[i]? =some o) (h:Stp C ops o (L.b i) (L.F i) (L.N i) (L.W i) (L.K i) (L.V i) s s1) (t:Run C ops L l s1 s'):Run C ops L (i::l) s s'
def Fit(ops:Array Oper)(L:Lb)(U:List Nat)(s:S)(i:Nat):Prop:= ∀ o,ops[i]? =some o→
 (∀ t∈du ops o,(∀ j∈U,L.R j i→ ∀ oj,ops[j]? =some oj→oj.dst≠some t)→InA (L.F i) (s.T t)∧(mov o.op=true∨InA (L.N i) (s.T t)))∧W0 (L.N i) (L.F i) s.H∧(∀ id,L.b i≤id→id < L.b i+16→s.H id=none)
def Ind(ops:Array Oper)(L:Lb)(x i:Nat):Prop:= ∀ ox oi,ops[x]? =some ox→ops[i]? =some oi→
 (∀ id,L.K x id→ ¬ L.F i id)∧(∀ id,L.K i id→ ¬ L.F x id)∧(∀ id,L.W x id→ ¬ L.N i id)∧(∀ id,L.W i id→ ¬ L.N x id)∧(∀ id,L.W x id→ ¬ L.W i id)∧
 (∀ id,L.b i≤id→id < L.b i+16→ ¬ L.F x id)∧(∀ id,L.b x≤id→id < L.b x+16→ ¬ L.F i id)∧(∀ t,ox.dst=some t→t ∉ du ops oi)∧(∀ t,oi.dst=some t→t ∉ du ops ox)
def Bef(ops:Array Oper)(L:Lb)(x i:Nat):Prop:= ∀ ox oi,ops[x]? =some ox→ops[i]? =some oi→
 ((∀ id,L.W x id→ ¬ L.N i id)∨(∀ id,L.F x id→L.F i id))∧(∀ t,ox.dst=some t→t∈du ops oi→(∀ id,L.V x id→L.F i id)∧(mov oi.op=true∨ ∀ id,L.V x id→L.N i id))∧(∀ id,L.b i≤id→id < L.b i+16→ ¬ L.F x id)
structure aqM (ops:Array Oper) (L:Lb):Prop where
 WF: ∀ i id,L.W i id→L.F i id
 NF: ∀ i id,L.N i id→L.F i id
 NW: ∀ i id,L.b i≤id→id < L.b i+16→L.W i id
 lt: ∀ x i,L.R x i→x < i
 dst: ∀ (x i:Nat) (ox oi:Oper) (t:Nat),x≠i→ops[x]? =some ox→ops[i]? =some oi→ox.dst=some t→oi.dst≠some t
 anc: ∀ (x i:Nat) (oi:Oper),ops[i]? =some oi→L.R x i→ ∃ e∈oi.after,awg .any e=true∧(e.on=x∨L.R x e.on)
 dir: ∀ (i:Nat) (oi:Oper) (e:Edge),ops[i]? =some oi→e∈oi.after→awg .any e=true→e.on < i
 bef: ∀ x i,L.R x i→Bef ops L x i
 ind: ∀ x i,x < i→ ¬ L.R x i→Ind ops L x i
variable {L:Lb}
def Ind.symm{x i:Nat}(h:Ind ops L x i):Ind ops L i x:=fun oi ox hi hx=>by
 obtain⟨a,b,c,d,e,f,g,p,q⟩:=h ox oi hx hi;exact⟨b,a,d,c,fun id h1 h2=>e id h2 h1,g,f,q,p⟩
def Fit.step(hn:aqM ops L){U:List Nat}{x i:Nat}{ox:Oper}(hox:ops[x]? =some ox)(hxi:x≠i)(hRi: ¬ L.R i x)(h:Stp C ops ox (L.b x) (L.F x) (L.N x) (L.W x) (L.K x) (L.V x) s s')(hf:Fit ops L U s i){U':List Nat}(hU: ∀ j∈U,j=x∨j∈U'):
  Fit ops L U' s' i:=by
 intro oi hoi;obtain⟨f1,f2,f3⟩:=hf oi hoi;obtain⟨g,v,es,a1,a2,a3,a4,rfl,a6⟩:=h;have pc:(((∀ id,L.W x id→ ¬ L.N i id)∨(∀ id,L.F x id→L.F i id))∧(∀ t,ox.dst=some t→t∈du ops oi→(∀ id,L.V x id→L.F i id)∧(mov oi.op=true∨ ∀ id,L.V x id→L.N i id))∧(∀ id,L.b i≤id→id < L.b i+16→ ¬ L.F x id)):=by
  by_cases hR:L.R x i
  ·exact hn.bef x i hR ox oi hox hoi
  ·have hI:Ind ops L x i:=by
    rcases ayz hxi with h | h
    ·exact hn.ind x i h hR
    ·exact(hn.ind i x h hRi).symm
   obtain⟨_,_,b1,_,_,b6,_,b8,_⟩:=hI ox oi hox hoi;exact⟨.inl b1,fun t h1 h2=>absurd h2 (b8 t h1),b6⟩
 obtain⟨p1,p2,p3⟩:=pc;refine⟨fun t ht arG=> ?_, ?_,fun id h1 h2=> ?_⟩
 ·rw[afd];split
  ·rename_i hd;exact⟨(a2 t hd).mono (p2 t hd ht).1,(p2 t hd ht).2.imp id fun h=>(a2 t hd).mono h⟩
  ·rename_i hd;have:=f1 t ht fun j hj hR oj hoj e=>by
    rcases hU j hj with rfl | hj
    ·rw[hox]at hoj;cases hoj;exact hd e
    ·exact arG j hj hR oj hoj e
   exact⟨Qp es s this.1,this.2.imp id (Qp es s)⟩
 ·rw[afe];refine WR es s (fun e he=> ?_) f2;rcases p1 with p1 | p1
  ·exact .inr (p1 _ (a3 e he).1.1)
  ·exact .inl ((a3 e he).2.mono p1)
 ·rw[afe];exact QU es s (fun e he e'=>p3 id h1 h2 (e'▸hn.WF x _ (a3 e he).1.1)) (f3 id h1 h2)
def Run.first(hn:aqM ops L){i:Nat}{l2:List Nat}: ∀ (l1:List Nat) (s:S),Run C ops L (l1++i::l2) s s'→(l1++i::l2).Pairwise (· < ·)→(∀ j∈l1++i::l2,¬ L.R j i)→
  (∀ j∈l1++i::l2,Fit ops L (l1++i::l2) s j)→Run C ops L (i::(l1++l2)) s s'
 | [],s,h,_,_,_=>h
 | x::l1,s,h,hp,hr,hf=>by
  cases h with
  | cons hox hx t=>
   rename_i ox s1;have hp':=axy.1 hp;have hxi:x < i:=hp'.1 i (auY _ auM);have ih:=Run.first hn l1 s1 t hp'.2 (fun j hj=>hr j (auJ _ hj)) (fun j hj=>by
    refine(hf j (auJ _ hj)).step hn hox (ayk (hp'.1 j hj)) (fun hR=>Nat.lt_asymm (hn.lt _ _ hR) (hp'.1 j hj)) hx fun k hk=> ?_;rcases au5.1 hk with h | h
    ·exact .inl h
    ·exact .inr h)
   cases ih with
   | cons hoi hi t2=>
    rename_i oi s2;obtain⟨c1,c2,c3,c4,c5,_,_,c6,c7⟩:=hn.ind x i hxi (hr x auM) ox oi hox hoi;obtain⟨fx1,fx2,_⟩:=hf x auM ox hox;obtain⟨fi1,fi2,_⟩:=hf i (auJ _ (auY _ auM)) oi hoi;obtain⟨s0',k1,k2⟩:=Stp.swap hx hi c1 c2 c3 c4 c5 c6 c7 (fun t ht=>hn.dst x i ox oi t (ayk hxi) hox hoi ht)
     (fun t ht=>(fx1 t ht fun j hj hR oj hoj e=>by
      rcases au5.1 hj with rfl | hj
      ·exact absurd (hn.lt _ _ hR) (azf _)
      ·exact Nat.lt_asymm (hn.lt _ _ hR) (hp'.1 j hj)).1) fx2
     (fun t ht=>(fi1 t ht fun j hj hR oj hoj e=>hr j hj hR).1) fi2
    exact .cons hoi k1 (.cons hox k2 t2)
end
end Go.VS
namespace Go.VS
open Go
section
variable {C:Cx} {B:anT} {ops:Array Oper} {L:Lb} {stk:List (Array Value)} {Q:Exit→Act→World→Prop}
def yx{a:Array Bool}{i:Nat}(h:i < a.size)(ht:a.getD i true=true):a.getD i false=true:=by
 simp[h]at ht ⊢; exact ht
def ZJ(hP:C.P=B.P)(hC:oW C B)(hn:aqM ops L){s':S}(hQ: ∀ β a w,St B β stk s' a w→Q .normal a w): ∀ (n:Nat) (U:List Nat) (listed:Array Bool) (a:Act) (w:World) (β:Beta) (s:S),
  U.length=n→Run C ops L U s s'→U.Pairwise (· < ·)→(∀ j,j∈U↔j < ops.size∧listed.getD j true=false)→listed.size=ops.size→(∀ i x,i < ops.size→i ∉ U→L.R x i→x ∉ U)→
  (∀ j∈U,Fit ops L U s j)→St B β stk s a w→wpAny B.P .any ops Q n listed a w:=by
 intro n
 induction n with
 | zero=>
  intro U listed a w β s hl hr hp hU hs hd hf hst;have:U=[]:=avi hl;subst this;cases hr;refine⟨?_,hQ β a w hst⟩;cases hrd:axZ .any ops listed with
  | nil=>rfl
  | cons j l=>
   have hj:j∈axZ .any ops listed:=by rw[hrd];exact auM
   obtain⟨h1,o,ho,_⟩:=mem_ready.1 hj;have:=(hU j).2 ⟨(avO.1 ho).1,h1⟩;cases this
 | succ n ih=>
  intro U listed a w β s hl hr hp hU hs hd hf hst;refine⟨fun asi=> ?_,fun i hi=> ?_⟩
  ·exfalso;cases U with
   | nil=>simp at hl
   | cons i0 l=>
    obtain⟨hlt,hun⟩:=(hU i0).1 auM;obtain⟨o,ho⟩: ∃ o,ops[i0]? =some o:=⟨ops[i0],by simp[hlt]⟩;have hr0:i0∈axZ .any ops listed:=mem_ready.2 ⟨hun,o,ho,fun e he hb=>by
     have arE:=hn.dir i0 o e ho he hb;have atT:e.on ∉ i0::l:=fun hm=>by
      rcases au5.1 hm with h | h
      ·omega
      ·have:=(axy.1 hp).1 _ h;omega
     have hsz:e.on < ops.size:=by omega
     refine yx (by omega) ?_;cases hb':listed.getD e.on true with
     | true=>rfl
     | false=>exact absurd ((hU e.on).2 ⟨hsz,hb'⟩) atT⟩
    rw[asi]at hr0;cases hr0
  ·obtain⟨hun,oi,hoi,aom⟩:=mem_ready.1 hi;have hlt:i < ops.size:=(avO.1 hoi).1;have hiU:i∈U:=(hU i).2 ⟨hlt,hun⟩;obtain⟨l1,l2,rfl⟩:=List.append_of_mem hiU;have hRn: ∀ j∈l1++i::l2,¬ L.R j i:=by
    intro j hj hR;obtain⟨e,he,hb,apd⟩:=hn.anc j i oi hoi hR;have hel:=aom e he hb;have heU:e.on ∉ l1++i::l2:=fun hm=>by
     have h2:=((hU e.on).1 hm).2;have hsz:=((hU e.on).1 hm).1;have:listed.getD e.on true=true:=by simp[show e.on < listed.size by omega]at hel ⊢; exact hel
     rw[this]at h2;cases h2
    rcases apd with h | h
    ·exact heU (h▸hj)
    ·have arE:=hn.dir i oi e hoi he hb;exact hd e.on j (by omega) heU h hj
   have an2:=Run.first hn l1 s hr hp hRn hf
   cases an2 with
   | cons ara aq0 t=>
    rename_i o' s1;rw[hoi]at ara;cases ara;have hnd:(l1++i::l2).Nodup:=hp.imp fun h=>ayk h;have aos: ∀ j,j∈l1++l2↔j∈l1++i::l2∧j≠i:=by
     intro j;have apy:=aw4.1 hnd;constructor
     ·intro hj;refine⟨?_, ?_⟩
      ·rcases auX.1 hj with h | h
       ·exact auT _ h
       ·exact auY _ (auJ _ h)
      ·rintro rfl;rcases auX.1 hj with h | h
       ·exact apy.2.2 j h j auM rfl
       ·exact(aw0.1 apy.2.1).1 h
     ·rintro⟨hj,hne⟩;rcases auX.1 hj with h | h
      ·exact auT _ h
      ·rcases au5.1 h with h | h
       ·exact absurd h hne
       ·exact auY _ h
    refine Vt hP hC hoi hst (b:=L.b i) (fun j h1 h2=>(hf i hiU oi hoi).2.2 j h1 h2) aq0.ev ?_;intro β' u w' ap4;refine ih (l1++l2) _ _ _ β' s1 ?_ t ?_ ?_ ?_ ?_ ?_ ap4
    ·simp at hl ⊢; omega
    ·exact(axm.1 hp).1 |> fun p1=>by
      have p2:=axm.1 hp;exact axm.2 ⟨p1,(axy.1 p2.2.1).2,fun x hx y hy=>p2.2.2 x hx y (auJ _ hy)⟩
    ·intro j;rw[aos,hU];by_cases e:j=i
     ·subst e;simp
     ·rw[getD_set_ne true (axT e)];simp[e]
    ·simpa using hs
    ·intro k x hk hkU hR hx;have hxU:=((aos x).1 hx).1;by_cases e:k=i
     ·subst e;exact hRn x hxU hR
     ·exact hd k x hk (fun h=>hkU ((aos k).2 ⟨h,e⟩)) hR hxU
    ·intro j hj;obtain⟨hjU,hne⟩:=(aos j).1 hj;refine(hf j hjU).step hn hoi (axT hne) (hRn j hjU) aq0 fun k hk=> ?_;by_cases e:k=i
     ·exact .inl e
     ·exact .inr ((aos k).2 ⟨hk,e⟩)
def ady(hP:C.P=B.P)(hm:B.P.follows .mixedOrders=true)(hC:oW C B)(hn:aqM ops L){s s':S}(hr:Run C ops L (au9 ops.size) s s')(hf: ∀ j,j < ops.size→Fit ops L (au9 ops.size) s j)
  {id:Nat}{β:Beta}{a:Act}{w:World}(hst:St B β stk s a w)(hQ: ∀ β a w,St B β stk s' a w→Q .normal a w):(ayR id ops true).wp B.P Q a w:=by
 refine wp_region_any hm ?_;have ap4:St B β stk s a { w with drawn:=w.drawn+1 } :=by
  have hk:Kp w β { w with drawn:=w.drawn+1 } β:=Kp.heap rfl;have:=hst.keep hk (H':=s.H) (hst.hs.drew);exact this
 refine ZJ hP hC hn hQ ops.size (au9 ops.size) _ a _ β s (by simp) hr axF (fun j=> ?_) (by simp) (fun i x hi hiU hR=> ?_) (fun j hj=>hf j (avB.1 hj)) ap4
 ·rw[avB];constructor
  ·intro h;exact⟨h,by simp[h]⟩
  ·exact fun h=>h.1
 ·exact absurd (avB.2 hi) hiU
end
end Go.VS
namespace Go.VS
open Go
abbrev Mm(M id:Nat):Prop:=M.testBit id=true
def fS(a b i:Nat):(avt a b).testBit i=(a.testBit i||b.testBit i):=Nat.testBit_or a b i
def Uu(a b i:Nat):(ayG a b).testBit i=(a.testBit i&&b.testBit i):=Nat.testBit_and a b i
def S9{i j:Nat}:(bit i).testBit j=true↔j=i:=by
 show(1 <<< i).testBit j=true↔j=i;rw[Nat.one_shiftLeft,Nat.testBit_two_pow];simp[eq_comm]
def C9{b j:Nat}:(nm b).testBit j=true↔b≤j∧j < b+16:=by
 show(65535 <<< b).testBit j=true↔_;rw[Nat.testBit_shiftLeft,show(65535:Nat)=2 ^ 16 - 1 from rfl,Nat.testBit_two_pow_sub_one];simp;omega
def xl{l:List Nat}{j:Nat}:(msk l).testBit j=true↔j∈l:=by
 induction l with
 | nil=>simp[msk]
 | cons i l ih=>
  show(avt (bit i) (msk l)).testBit j=true↔_;rw[fS,avo,S9,ih,au5]
def pn{a b:Nat}(h:dsj a b=true): ∀ i,Mm a i→ ¬ Mm b i:=fun i h1 h2=>by
 have e:ayG a b=0:=ayb h;have:=Uu a b i;rw[e,h1,h2]at this;simp at this
def FJ{a b:Nat}(h:sbs a b=true): ∀ i,Mm a i→Mm b i:=fun i h1=>by
 have e:ayG a b=a:=ayb h;have:=Uu a b i;rw[e,h1]at this;simpa using this.symm
def ZM{a i:Nat}:tst a i=true↔a.testBit i=true:=by
 unfold tst;constructor
 ·intro h;cases hb:a.testBit i with
  | true=>rfl
  | false=>
   have:dsj a (bit i)=true:=by
    unfold dsj;have e:ayG a (bit i)=0:=Nat.eq_of_testBit_eq fun j=>by
     rw[Uu];cases hj:(bit i).testBit j with
     | false=>simp
     | true=>rw[S9.1 hj,hb];simp
    rw[e];rfl
   rw[this]at h;cases h
 ·intro h;cases hd:dsj a (bit i) with
  | false=>rfl
  | true=>exact absurd (S9.2 rfl) (pn hd i h)
section
variable {F:Nat→Prop} {H:Hp}
def ae3{v:AV}{l:List Nat}(h:ack v=some l)(hF: ∀ i∈l,F i):In1 F v:=by
 cases v<;>first | (cases h;done) | (cases h;exact hF _ (by simp)) | trivial
def aaA: ∀ {cs:List AV} {l:List Nat},akY cs=some l→(∀ i∈l,F i)→ ∀ c∈cs,In1 F c
 | [],_,_,_,_,hc=>by cases hc
 | c::cs,l,h,hF,d,hd=>by
  obtain⟨a,h1,h⟩:=auI.1 h;obtain⟨b,h2,h⟩:=auI.1 h;cases h;rcases au5.1 hd with rfl | hd
  ·exact ae3 h1 fun i hi=>hF i (auT _ hi)
  ·exact aaA h2 (fun i hi=>hF i (auY _ hi)) d hd
def ae2{v:AV}{l:List Nat}(h:acj v=some l)(hF: ∀ i∈l,F i):In2 F v:=by
 have gen:ack v=some l→In2 F v:=fun h=> .of1 (ae3 h hF);cases v<;>first | exact aaA h hF | exact gen h
def ae0: ∀ {cs:List AV} {l:List Nat},amF cs=some l→(∀ i∈l,F i)→ ∀ c∈cs,In2 F c
 | [],_,_,_,_,hc=>by cases hc
 | c::cs,l,h,hF,d,hd=>by
  obtain⟨a,h1,h⟩:=auI.1 h;obtain⟨b,h2,h⟩:=auI.1 h;cases h;rcases au5.1 hd with rfl | hd
  ·exact ae2 h1 fun i hi=>hF i (auT _ hi)
  ·exact ae0 h2 (fun i hi=>hF i (auY _ hi)) d hd
def ae1{v:AV}{l:List Nat}(h:akZ v=some l)(hF: ∀ i∈l,F i):In3 F v:=by
 have gen:acj v=some l→In3 F v:=fun h=> .of2 (ae2 h hF);cases v<;>first | exact ae0 h hF | exact gen h
def S5{v:AV}{l:List Nat}(h:ai8 v=some l)(hF: ∀ i∈l,F i):InA F v:=by
 have gen:akZ v=some l→InA F v:=fun h=> .of3 (ae1 h hF);cases v with
 | gd g w v=>exact ae1 (v:=v) h hF
 | _=>exact gen h
def QQ: ∀ {ids m:List Nat},aaR H ids=some m→(∀ i∈m,F i)→ ∀ i∈ids,∀ ob,H i=some ob→zc F ob
 | [],_,_,_,_,hi=>by cases hi
 | j::l,m,h,hF,i,hi=>by
  obtain⟨a,h1,h⟩:=auI.1 h;obtain⟨b,h2,h⟩:=auI.1 h;cases h;rcases au5.1 hi with rfl | hi
  ·intro ob ho;unfold ajS at h1;rw[ho]at h1;cases ob<;>first | trivial | exact aaA h1 fun i hi=>hF i (auT _ hi)
  ·exact QQ h2 (fun i hi=>hF i (auY _ hi)) i hi
def NN: ∀ (n:Nat) (l:List Nat) {c:Nat},clo H n l=some c→(∀ i∈l,Mm c i)∧anN (Mm c) H
 | 0,[],c,h=>by cases h;exact⟨by simp,fun i ob hi=>by simp[Mm]at hi⟩
 | 0,_::_,c,h=>by cases h
 | n+1,[],c,h=>by cases h;exact⟨by simp,fun i ob hi=>by simp[Mm]at hi⟩
 | n+1,j::l,c,h=>by
  have h:((aaR H (j::l)).bind fun m=>(clo H n m).bind fun r=>some (avt (msk (j::l)) r))=some c:=h;obtain⟨m,h1,h⟩:=auI.1 h;obtain⟨r,h2,h⟩:=auI.1 h;cases h;obtain⟨i1,i2⟩:=NN n m h2;have up: ∀ i,Mm r i→Mm (avt (msk (j::l)) r) i:=fun i hi=>by
   show(avt _ _).testBit i=true;rw[fS,show r.testBit i=true from hi];simp
  refine⟨fun i hi=> ?_,fun i ob hi ho=> ?_⟩
  ·show(avt _ _).testBit i=true;rw[fS,xl.2 hi];rfl
  ·have hi:(avt (msk (j::l)) r).testBit i=true:=hi;rw[fS,avo]at hi;rcases hi with hi | hi
   ·exact QQ h1 (fun k hk=>up k (i1 k hk)) i (xl.1 hi) ob ho
   ·have:=i2 i ob hi ho;cases ob<;>first | trivial | exact fun c hc=>(this c hc).mono up
end
section
variable {C:Cx} {ops:Array Oper} {s0:S} {b0:Nat}
def anQ(C:Cx)(ops:Array Oper)(s0:S)(b0:Nat):List Rec→Prop
 | []=>True
 | r::acc=>anQ C ops s0 b0 acc∧r.i=acc.length∧r.b=b0+16 * acc.length∧ops[r.i]? =some r.o∧ZB acc r.o.after.toList=some r.anc∧
  (∃ l c,aeZ s0 acc (du ops r.o)=some l∧clo s0.H 4 l=some c∧((mvO r.o=false∧r.F=Lj r.anc acc (avt c (nm r.b))∧((r.N=avt (msk l) (nm r.b)∧pur r.o=true∧r.o.guard=none)∨r.N=r.F))∨(mvO r.o=true∧r.F=avt (msk l) (nm r.b)∧r.N=nm r.b)))∧(sbs r.W r.F=true∧ ∀ id,Mm (nm r.b) id→Mm r.W id)∧
  (∀ x∈acc,chk ops x r=true)∧okO C r.o=true∧adH r.o.dst (du ops r.o)=true
def anQ.lt: ∀ {acc:List Rec},anQ C ops s0 b0 acc→ ∀ r∈acc,r.i < acc.length
 | [],_,r,hr=>by cases hr
 | x::acc,h,r,hr=>by
  rcases au5.1 hr with rfl | hr
  ·rw[h.2.1];simp
  ·have:=anQ.lt h.1 r hr;simp;omega
def anQ.mem: ∀ {acc:List Rec},anQ C ops s0 b0 acc→ ∀ r∈acc,∃ ao5,anQ C ops s0 b0 (r::ao5)∧(∀ x∈ao5,x∈acc)∧(∀ x∈acc,x.i < r.i→x∈ao5)∧(∀ x∈ao5,x.i < r.i)
 | [],_,r,hr=>by cases hr
 | x::acc,h,r,hr=>by
  rcases au5.1 hr with rfl | hr
  ·refine⟨acc,h,fun y hy=>auJ _ hy,fun y hy hlt=> ?_,fun y hy=>by rw[h.2.1];exact h.1.lt y hy⟩;rcases au5.1 hy with rfl | hy
   ·omega
   ·exact hy
  ·obtain⟨ao5,h1,h2,h3,h4⟩:=anQ.mem h.1 r hr;have k1:=h.1.lt r hr;have k2:=h.2.1;refine⟨ao5,h1,fun y hy=>auJ _ (h2 y hy),fun y hy hlt=> ?_,h4⟩;rcases au5.1 hy with e | hy
   ·rw[e]at hlt;omega
   ·exact h3 y hy hlt
def anQ.find: ∀ {acc:List Rec},anQ C ops s0 b0 acc→ ∀ r∈acc,yz r.i acc=some r
 | [],_,r,hr=>by cases hr
 | x::acc,h,r,hr=>by
  unfold yz;rcases au5.1 hr with rfl | hr
  ·simp
  ·have h1:=h.1.lt r hr;have h2:=h.2.1;have:auW x.i r.i=false:=by rw[← awo,awY];omega
   rw[this];exact anQ.find h.1 r hr
def qO{i:Nat}{r:Rec}: ∀ {acc:List Rec},yz i acc=some r→r∈acc∧r.i=i
 | [],h=>by cases h
 | x::acc,h=>by
  unfold yz at h;split at h
  ·rename_i e;cases h;exact⟨auM,aI e⟩
  ·have:=qO h;exact⟨auJ _ this.1,this.2⟩
def Zo{t:Nat}{r:Rec}: ∀ {acc:List Rec},Zp t acc=some r→r∈acc∧r.o.dst=some t
 | [],h=>by cases h
 | x::acc,h=>by
  unfold Zp at h;split at h
  ·rename_i e;cases h;refine⟨auM, ?_⟩;unfold ai3 at e;split at e
   ·rename_i d hd;rw[hd,aI e]
   ·cases e
  ·have:=Zo h;exact⟨auJ _ this.1,this.2⟩
def anQ.ex: ∀ {acc:List Rec},anQ C ops s0 b0 acc→ ∀ i,i < acc.length→ ∃ r∈acc,r.i=i
 | [],_,i,hi=>by simp at hi
 | x::acc,h,i,hi=>by
  by_cases e:i=acc.length
  ·exact⟨x,auM,by rw[h.2.1,e]⟩
  ·obtain⟨r,hr,e'⟩:=anQ.ex h.1 i (by simp at hi;omega);exact⟨r,auJ _ hr,e'⟩
def za{anc:Nat}: ∀ (acc:List Rec) (F:Nat) (i:Nat),Mm F i→Mm (Lj anc acc F) i
 | [],_,_,h=>h
 | r::acc,F,i,h=>by
  unfold Lj;refine za acc _ i ?_;split
  ·show(avt _ _).testBit i=true;rw[fS,show F.testBit i=true from h];simp
  ·exact h
def anN.lor{H:Hp}{a b:Nat}(h1:anN (Mm a) H)(h2:anN (Mm b) H):anN (Mm (avt a b)) H:=by
 have up1: ∀ i,Mm a i→Mm (avt a b) i:=fun i hi=>by
  show(avt _ _).testBit i=true;rw[fS,show a.testBit i=true from hi];simp
 have up2: ∀ i,Mm b i→Mm (avt a b) i:=fun i hi=>by
  show(avt _ _).testBit i=true;rw[fS,show b.testBit i=true from hi];simp
 intro i ob hi ho;have hi:(avt a b).testBit i=true:=hi;rw[fS,avo]at hi;rcases hi with hi | hi
 ·have:=h1 i ob hi ho;cases ob<;>first | trivial | exact fun c hc=>(this c hc).mono up1
 ·have:=h2 i ob hi ho;cases ob<;>first | trivial | exact fun c hc=>(this c hc).mono up2
def JN{anc:Nat}{H:Hp}: ∀ (acc:List Rec) (F:Nat),(∀ r∈acc,mvO r.o=false→anN (Mm r.F) H)→anN (Mm F) H→anN (Mm (Lj anc acc F)) H
 | [],_,_,h=>h
 | r::acc,F,hr,h=>by
  unfold Lj;refine JN acc _ (fun x hx=>hr x (auJ _ hx)) ?_;split
  ·rename_i hc;simp only[auF,avw]at hc;exact(hr r auM hc.2).lor h
  ·exact h
def Fr(s:S):Prop:= ∀ j,s.nid≤j→s.H j=none
def anQ.closed(hfr: ∀ j,b0≤j→s0.H j=none): ∀ {acc:List Rec},anQ C ops s0 b0 acc→ ∀ r∈acc,mvO r.o=false→anN (Mm r.F) s0.H
 | [],_,r,hr=>by cases hr
 | x::acc,h,r,hr=>by
  intro hmv;have ih:=anQ.closed hfr h.1;rcases au5.1 hr with rfl | hr
  ·obtain⟨_,_,hb,_,_,⟨l,c,h1,h2,h3⟩,_⟩:=h;rcases h3 with h3 | h3
   ·rw[h3.2.1];refine JN _ _ ih ((NN 4 l h2).2.lor fun i ob hi ho=> ?_);have:=C9.1 hi;rw[hfr i (by omega)]at ho;cases ho
   ·rw[hmv]at h3;cases h3.1
  ·exact ih r hr hmv
def y6{acc:List Rec}: ∀ (l:List Edge) {m:Nat},ZB acc l=some m→(∀ e∈l,awg .any e=true→ ∃ r,yz e.on acc=some r)∧
  (∀ x,Mm m x→ ∃ e∈l,awg .any e=true∧ ∃ r,yz e.on acc=some r∧(e.on=x∨Mm r.anc x))
 | [],m,h=>by cases h;exact⟨by simp,fun x hx=>by simp[Mm]at hx⟩
 | e::l,m,h=>by
  unfold ZB at h;split at h
  ·rename_i hb;obtain⟨r,h1,h⟩:=auI.1 h;obtain⟨m',h2,h⟩:=auI.1 h;cases h;obtain⟨i1,i2⟩:=y6 l h2;refine⟨fun e' he hb'=> ?_,fun x hx=> ?_⟩
   ·rcases au5.1 he with rfl | he
    ·exact⟨r,h1⟩
    ·exact i1 e' he hb'
   ·have hx:(avt (avt (bit e.on) r.anc) m').testBit x=true:=hx;rw[fS,fS,avo,avo]at hx;rcases hx with(hx | hx) | hx
    ·exact⟨e,auM,hb,r,h1,.inl (S9.1 hx).symm⟩
    ·exact⟨e,auM,hb,r,h1,.inr hx⟩
    ·obtain⟨e',he,h3⟩:=i2 x hx;exact⟨e',auJ _ he,h3⟩
  ·rename_i hb;obtain⟨i1,i2⟩:=y6 l h;refine⟨fun e' he hb'=> ?_,fun x hx=> ?_⟩
   ·rcases au5.1 he with rfl | he
    ·rw[hb]at hb';cases hb'
    ·exact i1 e' he hb'
   ·obtain⟨e',he,h3⟩:=i2 x hx;exact⟨e',auJ _ he,h3⟩
def anQ.apr: ∀ {acc:List Rec},anQ C ops s0 b0 acc→ ∀ r∈acc,∀ x,Mm r.anc x→x < r.i
 | [],_,r,hr=>by cases hr
 | y::acc,h,r,hr=>by
  intro x hx;rcases au5.1 hr with rfl | hr
  ·obtain⟨hg,hi,_,_,ha,_⟩:=h;obtain⟨e,he,hb,r',h1,h2⟩:=(y6 _ ha).2 x hx;obtain⟨hm,hei⟩:=qO h1;have:=hg.lt r' hm;rcases h2 with h2 | h2
   ·omega
   ·have:=anQ.apr hg r' hm x h2;omega
  ·exact anQ.apr h.1 r hr x hx
def gy(acc:List Rec)(b0:Nat):Lb where
 b i:=b0+16 * i
 F i id:=match yz i acc with
  | some r=>Mm r.F id
  | none=>b0+16 * i≤id∧id < b0+16 * i+16
 N i id:=match yz i acc with
  | some r=>Mm r.N id
  | none=>b0+16 * i≤id∧id < b0+16 * i+16
 K i id:=match yz i acc with
  | some r=>Mm r.K id
  | none=>b0+16 * i≤id∧id < b0+16 * i+16
 W i id:=match yz i acc with
  | some r=>Mm r.W id
  | none=>b0+16 * i≤id∧id < b0+16 * i+16
 V i id:=match yz i acc with
  | some r=>id∈r.V
  | none=>False
 R x i:=match yz i acc with
  | some r=>Mm r.anc x
  | none=>False
def HF{d:Option Nat}{l:List Nat}(h:adH d l=true): ∀ t,d=some t→t ∉ l:=by
 intro t e hm;subst e;have:alM t l=true:=awL.2 ⟨t,hm,by simp⟩;simp[adH,this]at h
def Vw{d e:Option Nat}(h:ajC d e=true): ∀ t,d=some t→e≠some t:=by
 intro t h1 h2;subst h1;subst h2;simp[ajC]at h
def anQ.op{acc:List Rec}(h:anQ C ops s0 b0 acc)(hn:acc.length=ops.size){i:Nat}{o:Oper}(ho:ops[i]? =some o): ∃ r∈acc,r.i=i∧r.o=o∧yz i acc=some r:=by
 obtain⟨r,hr,hi⟩:=h.ex i (by rw[hn];exact(avO.1 ho).1);obtain⟨ao5,hg,_⟩:=h.mem r hr;have:=hg.2.2.2.1;rw[hi,ho]at this;exact⟨r,hr,hi,(avD this).symm,by rw[← hi];exact h.find r hr⟩
def anQ.chk{acc:List Rec}(h:anQ C ops s0 b0 acc){x r:Rec}(hx:x∈acc)(hr:r∈acc)(hlt:x.i < r.i):VS.chk ops x r=true:=by
 obtain⟨ao5,hg,_,h3,_⟩:=h.mem r hr;exact hg.2.2.2.2.2.2.2.1 x (h3 x hx hlt)
def anQ.aqa{acc:List Rec}(h:anQ C ops s0 b0 acc){r:Rec}(hr:r∈acc):r.b=b0+16 * r.i∧(∀ id,r.b≤id→id < r.b+16→Mm r.F id)∧(sbs r.W r.F=true∧ ∀ id,Mm (nm r.b) id→Mm r.W id):=by
 obtain⟨ao5,hg,_⟩:=h.mem r hr;obtain⟨_,hi,hb,_,_,⟨l,c,h1,h2,h3⟩,hw,_⟩:=hg;refine⟨by rw[hi];exact hb,fun id k1 k2=> ?_,hw⟩;rcases h3 with h3 | h3
 ·rw[h3.2.1];refine za _ _ id ?_;show(avt _ _).testBit id=true;rw[fS,C9.2 ⟨k1,k2⟩];simp
 ·rw[h3.2.1];show(avt _ _).testBit id=true;rw[fS,C9.2 ⟨k1,k2⟩];simp
def anQ.N_F{acc:List Rec}(h:anQ C ops s0 b0 acc){r:Rec}(hr:r∈acc): ∀ id,Mm r.N id→Mm r.F id:=by
 obtain⟨ao5,hg,_⟩:=h.mem r hr;obtain⟨_,hi,hb,_,_,⟨l,c,h1,h2,h3⟩,hw,_⟩:=hg;intro id hid;rcases h3 with⟨_,h3,h4⟩ | ⟨_,h3,h4⟩
 ·rcases h4 with h4 | h4
  ·rw[h3];refine za _ _ id ?_;rw[h4.1]at hid;have hid:(avt _ _).testBit id=true:=hid;rw[fS,avo]at hid;show(avt _ _).testBit id=true;rw[fS];rcases hid with hid | hid
   ·rw[(NN 4 l h2).1 id (xl.1 hid)];rfl
   ·rw[hid];simp
  ·rw[← h4];exact hid
 ·rw[h3];rw[h4]at hid;have hid:(nm r.b).testBit id=true:=hid;show(avt _ _).testBit id=true;rw[fS,hid];simp
def anQ.nice{acc:List Rec}(h:anQ C ops s0 b0 acc)(hn:acc.length=ops.size):aqM ops (gy acc b0):=by
 constructor
 ·intro i id hw;simp only[gy]at hw ⊢;split at hw
  ·rename_i r hr;obtain⟨hm,hi⟩:=qO hr;obtain⟨_,h2,h3⟩:=h.aqa hm;exact FJ h3.1 id hw
  ·exact hw
 ·intro i id hw;simp only[gy]at hw ⊢;split at hw
  ·rename_i r hr;obtain⟨hm,hi⟩:=qO hr;exact h.N_F hm id hw
  ·exact hw
 ·intro i id h1 h2;simp only[gy]at h1 h2 ⊢;split
  ·rename_i r hr;obtain⟨hm,hi⟩:=qO hr;obtain⟨hb,k2,k3⟩:=h.aqa hm;rw[hi]at hb;exact k3.2 id (C9.2 ⟨by omega,by omega⟩)
  ·exact⟨h1,h2⟩
 ·intro x i hR;simp only[gy]at hR;split at hR
  ·rename_i r hr;obtain⟨hm,hi⟩:=qO hr;have:=h.apr r hm x hR;omega
  ·exact hR.elim
 ·intro x i ox oi t hne hx hi ht;obtain⟨rx,hrx,ix,rfl,_⟩:=h.op hn hx;obtain⟨ri,hri,ii,rfl,_⟩:=h.op hn hi;rcases ayz hne with hlt | hlt
  ·have:=h.chk hrx hri (by omega);simp only[VS.chk,auF]at this;exact Vw this.1 t ht
  ·have:=h.chk hri hrx (by omega);simp only[VS.chk,auF]at this;exact fun e=>Vw this.1 t e ht
 ·intro x i oi hi hR;obtain⟨ri,hri,ii,rfl,fi⟩:=h.op hn hi;simp only[gy,fi]at hR ⊢;obtain⟨ao5,hg,apx,_⟩:=h.mem ri hri;obtain⟨e,he,hb,r',h1,h2⟩:=(y6 _ hg.2.2.2.2.1).2 x hR;refine⟨e,by simpa using he,hb, ?_⟩;rcases h2 with h2 | h2
  ·exact .inl h2
  ·obtain⟨hm,hei⟩:=qO h1;have:=h.find r' (apx r' hm);rw[hei]at this;rw[this];exact .inr h2
 ·intro i oi e hi he hb;obtain⟨ri,hri,ii,rfl,fi⟩:=h.op hn hi;obtain⟨ao5,hg,apx,_,hlt⟩:=h.mem ri hri;obtain⟨r',h1⟩:=(y6 _ hg.2.2.2.2.1).1 e (by simpa using he) hb;obtain⟨hm,hei⟩:=qO h1;have:=hlt r' hm;omega
 ·intro x i hR ox oi hx hi;obtain⟨rx,hrx,ix,rfl,fx⟩:=h.op hn hx;obtain⟨ri,hri,ii,rfl,fi⟩:=h.op hn hi;simp only[gy,fi,fx]at hR ⊢;have hlt:=h.apr ri hri x hR;have hc:=h.chk hrx hri (by omega);simp only[VS.chk,auF]at hc;have hT:tst ri.anc rx.i=true:=by rw[ix];exact ZM.2 hR
  rw[hT]at hc;obtain⟨_,hc⟩:=hc;simp only[auF,avo]at hc;obtain⟨⟨c1,c2⟩,c3⟩:=hc;refine⟨?_,fun t ht hl=> ?_,fun id h1 h2 hF=> ?_⟩
  ·rcases c1 with c1 | c1
   ·exact .inl (pn c1)
   ·exact .inr (FJ c1)
  ·rcases c2 with c2 | c2
   ·exact absurd hl (HF c2 t ht)
   ·exact⟨fun id hid=>FJ c2.1 id (xl.2 hid),c2.2.imp id fun h id hid=>FJ h id (xl.2 hid)⟩
  ·have hb:=(h.aqa hri).1;exact pn c3 id hF (C9.2 ⟨by omega,by omega⟩)
 ·intro x i hlt hR ox oi hx hi;obtain⟨rx,hrx,ix,rfl,fx⟩:=h.op hn hx;obtain⟨ri,hri,ii,rfl,fi⟩:=h.op hn hi;simp only[gy,fi,fx]at hR ⊢;have hc:=h.chk hrx hri (by omega);simp only[VS.chk,auF]at hc;have hT:tst ri.anc rx.i=false:=by
   rw[ix];cases hh:tst ri.anc x with
   | false=>rfl
   | true=>exact absurd (ZM.1 hh) hR
  rw[hT]at hc;obtain⟨_,hc⟩:=hc;simp only[auF]at hc;obtain⟨⟨⟨k1,k2⟩,k3,k4⟩,k5,k6,k7⟩:=hc.1.1;have hbi:=(h.aqa hri).1;have hbx:=(h.aqa hrx).1;exact⟨pn k1,pn k2,pn k3,pn k4,pn k5,fun id h1 h2 hF=>pn k6 id hF (C9.2 ⟨by omega,by omega⟩),fun id h1 h2 hF=>pn k7 id hF (C9.2 ⟨by omega,by omega⟩),HF hc.1.2,HF hc.2⟩
end
end Go.VS
namespace Go.VS
open Go
section
variable {C:Cx} {P:Program} {kd:TypeId→Option K} {s s':S} {b j:Nat} {E:Nat→AV}
structure anG (N:Nat→Prop) (s s':S):Prop where
 nid:s'.nid=s.nid
 n:s'.n=s.n
 pins:s'.pins=s.pins
 nn: ∀ j,¬ N j→s.H j=none→s'.H j=none
def anG.refl(N:Nat→Prop)(s:S):anG N s s:=⟨rfl,rfl,rfl,fun _ _ h=>h⟩
def anG.trans{N:Nat→Prop}{s s' s'':S}(h:anG N s s')(k:anG N s' s''):anG N s s'':=
 ⟨k.nid.trans h.nid,k.n.trans h.n,k.pins.trans h.pins,fun j hj e=>k.nn j hj (h.nn j hj e)⟩
def anG.put{N:Nat→Prop}{s s':S}(h:anG N s s')(d:Option Nat)(v:AV):anG N s (s'.put d v):=by
 cases d<;>exact⟨h.nid,h.n,h.pins,h.nn⟩
def anG.aop{N:Nat→Prop}{s s':S}(h:anG N s s'){id:Nat}{ob:Option Ob}(hid:N id∨s.H id≠none):anG N s (s'.aop id ob):=by
 refine⟨h.nid,h.n,h.pins,fun j hj e=> ?_⟩;show upd s'.H id ob j=none;rw[aM _ _ (fun e'=>by subst e';exact hid.elim hj (fun h=>h e))];exact h.nn j hj e
def anG.map{N:Nat→Prop}{s s':S}(h:anG N s s')(f:AV→AV):anG N s (s'.map f):=by
 refine⟨h.nid,h.n,h.pins,fun j hj e=> ?_⟩;show iY f (s'.H j)=none;rw[h.nn j hj e];rfl
def anG.asJ{N:Nat→Prop}{s s':S}(h:anG N s s'){id:Nat}:anG N s (s'.aop id none):=by
 refine⟨h.nid,h.n,h.pins,fun j hj e=> ?_⟩;show upd s'.H id none j=none;by_cases e':j=id
 ·subst e';rw[aD]
 ·rw[aM _ _ e'];exact h.nn j hj e
def anG.kill{N:Nat→Prop}{s s':S}(h:anG N s s')(id:Nat):anG N s (s'.kill id):=(h.map _).asJ
def anG.freeze{N:Nat→Prop}{s s':S}(h:anG N s s')(id:Nat):anG N s (s'.freeze id):=by
 unfold S.freeze;split
 ·exact(h.map _).asJ
 ·exact h.kill id
def anG.anY{N:Nat→Prop}: ∀ (ids:List Nat) {s s':S},anG N s s'→anG N s (ids.foldl S.freeze s')
 | [],_,_,h=>h
 | i::ids,_,_,h=>anG.anY ids (h.freeze i)
def anG.aqt{N:Nat→Prop}: ∀ (ids:List Nat) {s s':S},anG N s s'→anG N s (ids.foldl S.kill s')
 | [],_,_,h=>h
 | i::ids,_,_,h=>anG.aqt ids (h.kill i)
def ZP{N:Nat→Prop}{t:TypeId}{x y:AV}(h:qV P t s x y=some s'):anG N s s':=by
 unfold qV at h;split at h
 ·rename_i id z i o;split at h
  ·rename_i e cs hob;split at h
   ·obtain⟨ys,hc,h⟩:=auI.1 h;split at h<;>cases h;exact(anG.refl N s).aop (.inr (by rw[hob];simp))
   ·cases h
  ·rename_i e fz k xs hob;obtain⟨ys,hc,h⟩:=auI.1 h;split at h
   ·obtain⟨v,hd,h⟩:=auI.1 h;cases h;exact(anG.anY _ (anG.refl N s)).aop (.inr (by rw[hob];simp))
   ·cases h
  ·rename_i e k xs hob;obtain⟨ys,hc,h⟩:=auI.1 h;split at h
   ·obtain⟨v,hd,h⟩:=auI.1 h;cases h;exact(anG.refl N s).aop (.inr (by rw[hob];simp))
   ·cases h
  ·cases h
 ·cases h
def Ym{N:Nat→Prop}(hb:N b){t t2:TypeId}{x y v:AV}{q:Bool}(h:tG P kd t t2 s b x y=some (q,v,s')):anG N s s':=by
 unfold tG at h;obtain⟨e,he,h⟩:=auI.1 h;obtain⟨k,hk,h⟩:=auI.1 h;obtain⟨ys,hys,h⟩:=auI.1 h;split at h
 ·cases h;exact(anG.refl N s).aop (.inl hb)
 ·split at h
  ·rename_i hob _;split at h
   ·obtain⟨zs,hz,h⟩:=auI.1 h;cases h;exact((anG.refl N s).map _).aop (.inr (by rw[hob];simp))
   ·cases h
  ·cases h
 ·cases h
def acL{N:Nat→Prop}{t:TypeId}{x y v:AV}(h:Ju P t s x y=some (v,s')):anG N s s':=by
 unfold Ju at h;split at h
 ·split at h
  ·rename_i hob _;obtain⟨e',he,h⟩:=auI.1 h;split at h
   ·obtain⟨ys,hys,h⟩:=auI.1 h;cases h;exact(anG.refl N s).aop (.inr (by rw[hob];simp))
   ·cases h
  ·cases h
 ·cases h
def TC{N:Nat→Prop}{id:Nat}{z:Bool}{lo hi:Option AV}{v:AV}{q:Bool}(h:mY s id z lo hi=some (q,v,s')):anG N s s':=by
 unfold mY at h;split at h
 ·rename_i e fz k xs hob;obtain⟨⟨c,l,hh⟩,hc,h⟩:=auI.1 h;simp only at h;split at h
  ·cases h;exact((anG.refl N s).map _).aop (.inr (by rw[hob];simp))
  ·cases h
  ·cases h;exact(anG.refl N s).freeze id
 ·cases h
def aoe(N:Nat→Prop)(H H':Hp):Prop:= ∀ j,¬ N j→H j=none→H' j=none
def aoe.refl(N:Nat→Prop)(H:Hp):aoe N H H:=fun _ _ h=>h
def aoe.trans{N:Nat→Prop}{H H' H'':Hp}(h:aoe N H H')(k:aoe N H' H''):aoe N H H'':=fun j hj e=>k j hj (h j hj e)
def aoe.upd{N:Nat→Prop}{H H':Hp}(h:aoe N H H'){id:Nat}{ob:Option Ob}(hid:N id∨H id≠none):aoe N H (upd H' id ob):=fun j hj e=>by
 rw[aM _ _ (fun e'=>by subst e';exact hid.elim hj (fun h=>h e))];exact h j hj e
mutual
theorem ij {N:Nat→Prop} : ∀ (h:Sh) (H:Hp) (b:Nat) (x:LT h),(∀ j,b≤j→j < (cY E H b h x).2.2→N j)→aoe N H (cY E H b h x).2.1
 | .int _,H,_,_,_=> .refl _ _
 | .bool,H,_,_,_=> .refl _ _
 | .str,H,_,_,_=> .refl _ _
 | .sl _,H,_,_,_=> .refl _ _
 | .arr _,H,_,_,_=> .refl _ _
 | .same _,H,_,_,_=> .refl _ _
 | .fz _,H,_,_,_=> .refl _ _
 | .row _ _,H,b,_,hN=>(aoe.refl _ _).upd (.inl (hN b (auS b) (axu b)))
 | .an1 _ _,H,b,_,hN=>(aoe.refl _ _).upd (.inl (hN b (auS b) (axu b)))
 | .abx _ _,H,b,_,hN=>(aoe.refl _ _).upd (.inl (hN b (auS b) (axu b)))
 | .agg l,H,b,x,hN=>by
  have un:cY E H b (.agg l) x=(match aC E H b l x with | (cs,H,b)=>(AV.agg cs,H,b)):=rfl;have ih:=Dc (N:=N) l H b x;rw[un]at hN ⊢;generalize aC E H b l x=r at *;exact ih hN
 | .box e l,H,b,x,hN=>by
  have un:cY E H b (.box e l) x=(match aC E H b l x with | (cs,H,b)=>(AV.ptr b cs.length 0 0,upd H b (some (.box e cs)),b+1)):=rfl;have ih:=Dc (N:=N) l H b x;have hle:=jS E l H b x;rw[un]at hN ⊢;generalize aC E H b l x=r at *;obtain⟨cs,H',b'⟩:=r;exact(ih fun j h1 h2=>hN j h1 (Nat.lt_succ_of_lt h2)).upd (.inl (hN b' hle (axu b')))
theorem Dc {N:Nat→Prop} : ∀ (l:List Sh) (H:Hp) (b:Nat) (x:LTs l),(∀ j,b≤j→j < (aC E H b l x).2.2→N j)→aoe N H (aC E H b l x).2.1
 | [],H,_,_,_=> .refl _ _
 | h::l,H,b,x,hN=>by
  have un:aC E H b (h::l) x=(match cY E H b h x.1 with | (c,H,b)=>match aC E H b l x.2 with | (cs,H,b)=>(c::cs,H,b)):=rfl;have ih:=ij (N:=N) h H b x.1;have hle:=dC E h H b x.1;rw[un]at hN ⊢;generalize cY E H b h x.1=r at *;obtain⟨c,H',b'⟩:=r;have ih2:=Dc (N:=N) l H' b' x.2;have aqD:=jS E l H' b' x.2;simp only at hN ⊢;generalize aC E H' b' l x.2=r at *;obtain⟨cs,H'',b''⟩:=r;exact(ih fun j h1 h2=>hN j h1 (av8 h2 aqD)).trans (ih2 fun j h1 h2=>hN j (avr hle h1) h2)
end
mutual
theorem acp (E:Nat→AV): ∀ (h:Sh) (H:Hp) (b:Nat) (v:AV) (x:LT h),b≤(nC E H b h v x).2.2
 | .box e l,H,b,v,x=>by
  by_cases hv: ∃ id z,v= .ptr id z 0 0
  ·obtain⟨id,z,rfl⟩:=hv;have un:nC E H b (.box e l) (.ptr id z 0 0) x=(match H id with
    | some (.box _ cs)=>(match bL E H b l cs x with | (ds,H,b)=>(AV.ptr id z 0 0,upd H id (some (.box e ds)),b))
    | _=>(.un,H,b)):=rfl
   rw[un];cases H id with
   | none=>exact auS b
   | some ob=>
    cases ob with
    | box e' cs=>
     have:=xD E l H b cs x;simp only;generalize bL E H b l cs x=r at *;obtain⟨ds,H',b'⟩:=r;exact this
    | _=>exact auS b
  ·have:nC E H b (.box e l) v x=cY E H b (.box e l) x:=by
    cases v<;>first | rfl | skip
    rename_i id z i o;cases i<;>cases o<;>first | rfl | exact absurd ⟨_,_,rfl⟩ hv
   rw[this];exact dC E _ H b x
 | .int _,H,b,v,x=>dC E _ H b x
 | .bool,H,b,v,x=>dC E _ H b x
 | .str,H,b,v,x=>dC E _ H b x
 | .sl _,H,b,v,x=>dC E _ H b x
 | .row _ _,H,b,v,x=>dC E _ H b x
 | .fz _,H,b,v,x=>dC E _ H b x
 | .an1 _ _,H,b,v,x=>dC E _ H b x
 | .abx _ _,H,b,v,x=>dC E _ H b x
 | .arr _,H,b,v,x=>dC E _ H b x
 | .same _,H,b,v,x=>auS b
 | .agg _,H,b,v,x=>dC E _ H b x
theorem xD (E:Nat→AV): ∀ (l:List Sh) (H:Hp) (b:Nat) (cs:List AV) (x:LTs l),b≤(bL E H b l cs x).2.2
 | [],_,b,_,_=>auS b
 | h::l,H,b,cs,x=>by
  have h1:=acp E h H b (cs.headD .un) x.1;have un:bL E H b (h::l) cs x=(match nC E H b h (cs.headD .un) x.1 with | (d,H,b)=>match bL E H b l cs.tail x.2 with | (ds,H,b)=>(d::ds,H,b)):=rfl;rw[un];generalize nC E H b h (cs.headD .un) x.1=r at *;obtain⟨c,H',b'⟩:=r;have h2:=xD E l H' b' cs.tail x.2;simp only;generalize bL E H' b' l cs.tail x.2=r at *;obtain⟨cs,H'',b''⟩:=r;exact avr h1 h2
end
mutual
theorem ag0 {N:Nat→Prop} : ∀ (h:Sh) (H:Hp) (b:Nat) (v:AV) (x:LT h),(∀ j,b≤j→j < (nC E H b h v x).2.2→N j)→aoe N H (nC E H b h v x).2.1
 | .box e l,H,b,v,x,hN=>by
  by_cases hv: ∃ id z,v= .ptr id z 0 0
  ·obtain⟨id,z,rfl⟩:=hv;have un:nC E H b (.box e l) (.ptr id z 0 0) x=(match H id with
    | some (.box _ cs)=>(match bL E H b l cs x with | (ds,H,b)=>(AV.ptr id z 0 0,upd H id (some (.box e ds)),b))
    | _=>(.un,H,b)):=rfl
   rw[un]at hN ⊢;cases ho:H id with
   | none=>exact .refl _ _
   | some ob=>
    rw[ho]at hN;cases ob with
    | box e' cs=>
     have ih:=KI (N:=N) l H b cs x;simp only at hN ⊢;generalize bL E H b l cs x=r at *;obtain⟨ds,H',b'⟩:=r;exact(ih hN).upd (.inr (by rw[ho];simp))
    | _=>exact .refl _ _
  ·have:nC E H b (.box e l) v x=cY E H b (.box e l) x:=by
    cases v<;>first | rfl | skip
    rename_i id z i o;cases i<;>cases o<;>first | rfl | exact absurd ⟨_,_,rfl⟩ hv
   rw[this]at hN ⊢;exact ij (E:=E) _ H b x hN
 | .int _,H,b,v,x,hN=>ij (E:=E) _ H b x hN
 | .bool,H,b,v,x,hN=>ij (E:=E) _ H b x hN
 | .str,H,b,v,x,hN=>ij (E:=E) _ H b x hN
 | .sl _,H,b,v,x,hN=>ij (E:=E) _ H b x hN
 | .row _ _,H,b,v,x,hN=>ij (E:=E) _ H b x hN
 | .fz _,H,b,v,x,hN=>ij (E:=E) _ H b x hN
 | .an1 _ _,H,b,v,x,hN=>ij (E:=E) _ H b x hN
 | .abx _ _,H,b,v,x,hN=>ij (E:=E) _ H b x hN
 | .arr _,H,b,v,x,hN=>ij (E:=E) _ H b x hN
 | .same _,H,b,v,x,hN=> .refl _ _
 | .agg l,H,b,v,x,hN=>ij (E:=E) _ H b x hN
theorem KI {N:Nat→Prop} : ∀ (l:List Sh) (H:Hp) (b:Nat) (cs:List AV) (x:LTs l),(∀ j,b≤j→j < (bL E H b l cs x).2.2→N j)→aoe N H (bL E H b l cs x).2.1
 | [],H,_,_,_,_=> .refl _ _
 | h::l,H,b,cs,x,hN=>by
  have un:bL E H b (h::l) cs x=(match nC E H b h (cs.headD .un) x.1 with | (d,H,b)=>match bL E H b l cs.tail x.2 with | (ds,H,b)=>(d::ds,H,b)):=rfl;have ih:=ag0 (N:=N) h H b (cs.headD .un) x.1;have hle:=acp E h H b (cs.headD .un) x.1;rw[un]at hN ⊢;generalize nC E H b h (cs.headD .un) x.1=r at *;obtain⟨c,H',b'⟩:=r;have ih2:=KI (N:=N) l H' b' cs.tail x.2;have aqD:=xD E l H' b' cs.tail x.2;simp only at hN ⊢;generalize bL E H' b' l cs.tail x.2=r at *;obtain⟨cs,H'',b''⟩:=r;exact(ih fun j h1 h2=>hN j h1 (av8 h2 aqD)).trans (ih2 fun j h1 h2=>hN j (avr hle h1) h2)
end
def Vj{N:Nat→Prop}(q:Bool)(ids:List Nat){s s':S}(h:anG N s s'):anG N s (E5 q ids s'):=by
 cases q
 ·exact h
 ·exact anG.anY ids h
def acS{m:aoi}{d:Option Nat}{as:List AV}(h:yR m s b d as some=some s'):anG (fun j=>b≤j∧j < b+16) s s':=by
 unfold yR at h;simp only at h;split at h
 ·rename_i x hx hn;obtain⟨r,hr,h⟩:=auI.1 h;have k1:anG (fun j=>b≤j∧j < b+16) s (E5 (dN m.rs||dN (bg m.ps)) (eX s.H m.ps as) ((dV s.H m.ps as).foldl S.kill s)):=Vj _ _ (anG.aqt _ (anG.refl _ s));generalize E5 (dN m.rs||dN (bg m.ps)) (eX s.H m.ps as) ((dV s.H m.ps as).foldl S.kill s)=s2 at *;have k2:=KI (E:=fun i=>(as[i]?).getD .un) (N:=fun j=>b≤j∧j < b+16) (bg m.ps) s2.H b (fN m.ps as) r.2;have l2:=xD (fun i=>(as[i]?).getD .un) (bg m.ps) s2.H b (fN m.ps as) r.2;generalize bL (fun i=>(as[i]?).getD .un) s2.H b (bg m.ps) (fN m.ps as) r.2=q at *;obtain⟨ds,H1,b1⟩:=q;simp only at h;have k3:=Dc (E:=fun i=>(as[i]?).getD .un) (N:=fun j=>b≤j∧j < b+16) m.rs H1 b1 r.1;have l3:=jS (fun i=>(as[i]?).getD .un) m.rs H1 b1 r.1;generalize aC (fun i=>(as[i]?).getD .un) H1 b1 m.rs r.1=q at *;obtain⟨vs,H2,b2⟩:=q;simp only at h l2 l3 k2 k3;split at h
  ·rename_i hb;have hb:=avg hb;cases h;have k4:=(k2 fun j h1 h2=>⟨h1,by omega⟩).trans (k3 fun j h1 h2=>⟨by omega,by omega⟩);exact anG.put (s':={ s2 with H:=H2 }) ⟨k1.nid,k1.n,k1.pins,fun j hj e=>k4 j hj (k1.nn j hj e)⟩ _ _
  ·cases h
 ·cases h
def ao2(r:PR):Prop:= ∀ q v os,r=some (q,v,os)→os.length≤1
def ao2.none:ao2 .none:=fun _ _ _ h=>by cases h
def ao2.okA{v:AV}:ao2 (okA v):=fun _ _ _ h=>by obtain⟨_,_,rfl⟩:=bO h;simp
def ao2.okN{v:AV}:ao2 (okN v):=fun _ _ _ h=>by obtain⟨_,_,rfl,_⟩:=vI h;simp
def ao2.nil{q:Bool}{v:AV}:ao2 (some (q,v,[])):=fun _ _ _ h=>by cases h;simp
def ao2.one{q:Bool}{v:AV}{o:Ob}:ao2 (some (q,v,[o])):=fun _ _ _ h=>by cases h;simp
def ao2.bind{α:Type}{o:Option α}{f:α→PR}(h: ∀ a,ao2 (f a)):ao2 (o.bind f):=by
 cases o with
 | none=>exact .none
 | some a=>exact h a
def Zu{x y:TypeId}{v:AV}:ao2 (CD P x y v):=by
 unfold CD
 repeat' (first | exact .none | exact .okA | exact .okN | exact .nil | exact .one | refine .bind fun _=> ?_ | split)
def ahp{ρ:Operand→AV}{H:Hp}{c:Call}:ao2 (EJ P ρ H c):=by
 unfold EJ
 repeat' (first | exact .none | exact .okA | exact .okN | exact .nil | exact .one | refine .bind fun _=> ?_ | split)
def ajZ{op:BinOp}{t:TypeId}{x y:AV}:ao2 (aes P op t x y):=by
 unfold aes ajY ajX
 repeat' (first | exact .none | exact .okA | exact .okN | exact .nil | exact .one | refine .bind fun _=> ?_ | split)
def adD{ρ:Operand→AV}{H:Hp}{op:Op}:ao2 (bY P kd ρ H b op):=by
 cases op<;>simp only[bY]<;>try (exact .none)
 case binOp=>exact ajZ
 case call=>exact ahp
 case convert=>
  split
  ·repeat' (first | exact .none | exact .okA | refine .bind fun _=> ?_ | split)
  ·split
   ·rename_i h;exact fun q v os e=>by cases e;exact Zu _ _ _ h
   ·exact Zu
 case pick=>
  unfold TP
  repeat' (first | exact .none | exact .okA | exact .okN | exact .nil | exact .one | refine .bind fun _=> ?_ | split)
 case unOp=>
  unfold unA
  repeat' (first | exact .none | exact .okA | exact .okN | exact .nil | exact .one | refine .bind fun _=> ?_ | split)
 case slice t x lo hi mx=>
  cases mx with
  | some m=>exact .none
  | none=>
   simp only;unfold Ol
   repeat' (first | exact .none | exact .okA | exact .okN | exact .nil | exact .one | refine .bind fun _=> ?_ | split)
 case index=>
  unfold agS
  repeat' (first | exact .none | exact .okA | exact .okN | exact .nil | exact .one | refine .bind fun _=> ?_ | split)
 case indexAddr=>
  unfold te
  repeat' (first | exact .none | exact .okA | exact .okN | exact .nil | exact .one | refine .bind fun _=> ?_ | split)
 all_goals repeat' (first | exact .none | exact .okA | exact .okN | exact .nil | exact .one | refine .bind fun _=> ?_ | split)
def QW: ∀ (os:List Ob) (H:Hp) (b:Nat) {j:Nat},¬ (b≤j∧j < b+os.length)→H j=none→gj H b os j=none
 | [],_,_,_,_,h=>h
 | o::os,H,b,j,hj,h=>by
  refine QW os _ _ (fun hh=>hj ⟨by omega,by simp;omega⟩) ?_;rw[aM _ _ (fun e=>hj ⟨by omega,by simp;omega⟩)];exact h
def adC{ρ:Operand→AV}{H:Hp}{op:Op}{d:Option Nat}
  (he:(match bY P kd ρ H b op with
   | some (q,v,os)=>if q then some ({ s with H:=gj s.H b os }.put d v) else none
   | none=>none)=some s'):anG (fun j=>b≤j∧j < b+16) s s':=by
 split at he
 ·rename_i q v os hp;split at he
  ·cases he;have:=adD _ _ _ hp;exact anG.put (N:=fun j=>b≤j∧j < b+16) (s:=s) (s':={ s with H:=gj s.H b os }) ⟨rfl,rfl,rfl,fun j hj e=>QW os s.H b (fun hh=>hj ⟨hh.1,by omega⟩) e⟩ _ _
  ·cases he
 ·cases he
def Vr{o:Oper}(he:jf C (af S) o b s some=some s'):anG (fun j=>b≤j∧j < b+16) s s':=by
 unfold jf at he;split at he
 ·cases he
 generalize ho:o.op=op at he;have pu: ∀ s0:S,(match bY C.P C.kd s0.ev s0.H b op with
   | some (q,v,os)=>if q then some ({ s0 with H:=gj s0.H b os }.put o.dst v) else none
   | none=>none)=some s'→anG (fun j=>b≤j∧j < b+16) s0 s':=fun s0 he=>adC he
 cases op<;>try (exact pu s he)
 case store t p x=>
  simp only at he;split at he
  ·rename_i s1 hs;cases he;exact(ZP hs).put _ _
  ·cases he
 case call c=>
  simp only at he;split at he
  ·split at he
   ·exact acS he
   ·cases he
  ·split at he
   ·rename_i q v s1 hs;split at he
    ·cases he;exact(Ym (N:=fun j=>b≤j∧j < b+16) ⟨auS b,by omega⟩ hs).put _ _
    ·cases he
   ·cases he
  ·split at he
   ·rename_i v s1 hs;cases he;exact(acL hs).put _ _
   ·cases he
  ·exact pu s he
 case slice t x lo hi mx=>
  cases mx with
  | some m=>exact pu s he
  | none=>
   simp only at he;split at he
   ·split at he
    ·cases he
    ·split at he
     ·rename_i q v s1 hs;split at he
      ·cases he;exact(TC hs).put _ _
      ·cases he
     ·cases he
   ·exact pu s he
 case buildSlice t n ps=>
  simp only at he;exact(anG.anY _ (anG.refl _ s)).trans (pu _ he)
def Zt{ops:Array Oper}{o:Oper}(he:ev1 C ops o b s=some s'):anG (fun j=>b≤j∧j < b+16) s s':=by
 unfold ev1 evG at he;split at he
 ·exact Vr he
 ·rename_i jj want hg;split at he
  ·cases he
  ·rename_i g _ _;split at he
   ·rename_i qq v _ _;split at he
    ·split at he
     case isFalse=>cases he
     cases he;have:=(anG.refl (fun j=>b≤j∧j < b+16) s).put o.dst (.gd g want v);exact⟨this.nid,this.n,this.pins,this.nn⟩
    ·cases he
   ·cases he
  ·rename_i g _ _;have yes: ∀ w,jf C (af S) o b { s with T:=upd s.T g (.b w) } some=some s'→anG (fun j=>b≤j∧j < b+16) s s':=fun w h=>by
    have:=Vr h;exact⟨this.nid,this.n,this.pins,this.nn⟩
   have no: ∀ w,(match s.has o.dst with
      | true=>some (({ s with T:=upd s.T g (.b w) } :S).put o.dst qU)
      | false=>none)=some s'→anG (fun j=>b≤j∧j < b+16) s s':=fun w h=>by
    split at h
    ·cases h;have:anG (fun j=>b≤j∧j < b+16) s { s with T:=upd s.T g (.b w) } :=⟨rfl,rfl,rfl,fun _ _ e=>e⟩;exact this.put _ _
    ·cases h
   split at he
   ·rename_i c hT;cases want<;>cases c<;>simp only[auy,if_false,awi]at he
    ·exact yes _ he
    ·exact no _ he
    ·exact no _ he
    ·exact yes _ he
   ·split at he
    ·cases he;exact(anG.refl _ s).put _ _
    ·cases he
   ·cases he
end
end Go.VS
end
