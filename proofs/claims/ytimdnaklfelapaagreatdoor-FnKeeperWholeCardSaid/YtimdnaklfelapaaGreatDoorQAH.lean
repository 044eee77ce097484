/- An evaluator of the program's own code with its soundness, the printed texts of the functions, and plain laws of them (part 8). -/
import Derived.Test.YtimdnaklfelapaaGreatDoorQAG
set_option linter.unusedVariables false
set_option linter.unusedSimpArgs false
set_option linter.defProp false
open Array renaming eq_empty_of_size_eq_zero→atS,getD_eq_getD_getElem?→asT,getElem?_append_left→asj,getElem?_eq_some_iff→arD,getElem?_setIfInBounds_ne→atM,length_toList→arq,mem_append→asC,range→aub,size_append→atF,toList_setIfInBounds→aue
open Bool renaming and_eq_true→aqt,and_self→ar6,false_eq_true→ar2,false_or→aqX,not_eq_true→ar7,not_eq_true'→aro,not_false→aqv,not_true→aqu,or_eq_true→aq8,or_false→arJ,or_self→ash
open ByteArray renaming data_extract→atJ
open Go.Addr renaming add_lit→asg
open Go.Builtin renaming append_→asy,copy_→auW,firstCells→arL,lenOf→auV,len_→atQ,nextslicecap→atU,zeroCells→asq
open Go.Call renaming operands→asV
open Go.Code renaming region→auy
open Go.Instr renaming fill→atn,sliceAt→atq,sliceBounds→asX,storeAt→atr,sureAddr→asD
open Go.Op renaming operands→aqO
open Go.Region renaming binds→ar1,ready→atz,wanted→asw
open Go.Result renaming andThen_ok→arE
open Go.Sem renaming run_bind→arY,run_pure→ar8
open Go.Value renaming slice→ava
open Go.World renaming block_lt_of_cell?→atD,cell?→at7,cell?_of_block→atP
open Int renaming le_refl→as2
open List renaming all_eq_true→arp,any_eq_true→asu,append_assoc→aqP,append_nil→aq6,drop_drop→asP,drop_eq_nil_of_le→asm,eq_nil_of_length_eq_zero→aq2,flatMap_append→au0,flatMap_cons→asL,foldl_append→ar0,foldl_cons→ars,foldl_nil→asQ,getElem?_append_left→arO,getElem?_append_right→arj,getElem?_cons_succ→aur,getElem?_cons_zero→atE,getElem?_drop→ar5,getElem?_eq_getElem→aqC,getElem?_eq_some_iff→aqF,getElem?_map→ari,getElem?_range→arP,getElem?_set_self→atI,getElem?_take→arT,getElem?_toArray→atl,getElem_mem→ark,length→asG,length_append→aqD,length_cons→aqM,length_drop→aru,length_map→ary,length_nil→aq0,length_take→arm,map_congr_left→arK,map_cons→arx,map_id'→au4,map_map→ast,map_nil→asI,mem_append→aqL,mem_append_left→aqH,mem_append_right→aqN,mem_cons→aqS,mem_cons_of_mem→aqx,mem_cons_self→aqA,mem_filterMap→arH,mem_map→arv,mem_of_getElem?→aqT,mem_of_mem_drop→asx,mem_of_mem_take→arS,mem_range→arl,mem_toArray→ato,nil_append→arF,nodup_append→asM,nodup_cons→asJ,pairwise_append→asY,pairwise_cons→ata,pairwise_lt_range→ath,range→aqW,replicate→aqQ,size_toArray→asp,take_left'→as8,toList_toArray→auZ,zipIdx_cons→aum
open List.cons renaming injEq→as9
open Nat renaming add_assoc→arw,add_comm→aty,add_mul→arQ,add_zero→asB,beq→aqK,beq_eq→asH,ble→asa,div_lt_iff_lt_mul→auE,eq_of_beq_eq_true→atL,land→aul,le_add_right→aun,le_of_ble_eq_true→aq1,le_refl→aqG,le_succ→avb,le_trans→ara,lor→arc,lt_irrefl→auX,lt_of_lt_of_le→arU,lt_or_gt_of_ne→auc,lt_succ_self→as5,min→asl,min_eq_left→atO,mod_eq_of_lt→as4,mod_lt→atT,mul_le_mul→auD,mul_le_mul_right→ard,ne_of_lt→atV,one_mul→att,sub_mul→auw,zero_add→arI,zero_le→arB
open Ne renaming symm→atu
open Option renaming bind_eq_some_iff→aqw,bind_some→aqs,map_eq_some_iff→aqY,map_some→atv
open Option.some renaming inj→asb,injEq→aqI
open Prod.mk renaming injEq→arb
noncomputable section
namespace Go.VS
open Go
section
variable {P:Program} {B:ake} {β:Beta} {H:Hp} {w w':World} {b:Nat} {tm:Nat→Value} {ρ:Operand→AV} {η:Operand→Value}
def agr{a c:aqp}(h1:aqK a.size 0=true)(h2:aqK c.size 0=true):a=c:=by
 have e1:a.size=0:=aD h1;have e2:c.size=0:=aD h2;obtain⟨x⟩:=a;obtain⟨y⟩:=c;have e1':x.size=0:=e1;have e2':y.size=0:=e2;rw[atS e1',atS e2']
def ad4{a c:AV}(h:agx a c=true){v:Value}(hv:RC w β a v):RC w β c v:=by
 unfold agx at h;split at h
 ·simp only[aqt,decide_eq_true_eq]at h;obtain⟨rfl,rfl⟩:=h;exact hv
 ·simp only[beq_iff_eq]at h;subst h;exact hv
 ·simp only[aqt]at h;obtain rfl:=agr h.1 h.2;exact hv
 ·obtain rfl:=hv.amm;exact .nil
 ·cases h
def PH: ∀ {as cs:List AV} {us:List Value},Wd as cs=true→RL (RC w β) as us→RL (RC w β) cs us
 | [],[],us,_,h=>h
 | [],_::_,_,h,_=>by simp[Wd]at h
 | _::_,[],_,h,_=>by simp[Wd]at h
 | a::as,c::cs,us,h,hl=>by
  simp only[Wd,aqt]at h;obtain⟨u,us',rfl,h1,h2⟩:=hl.aj2;exact .cons (ad4 h.1 h1) (PH h.2 h2)
def Pn{t:TypeId}{k:K}(h:zok P t k=true): ∃ i z,P.info? t=some i∧i.zero=some z∧z.cells.size=ks k∧ ∀ w β,RL (RC w β) (enc k (dfl k)) z.cells.toList:=by
 unfold zok at h;cases hz:u9 P t with
 | none=>rw[hz]at h;cases h
 | some zs=>
  rw[hz]at h;obtain⟨i,z,hi,hz',rfl,h1⟩:=Ag hz;have key: ∀ w β,RL (RC w β) (enc k (dfl k)) z.cells.toList:=fun w β=>PH h (RL.lits _ h1);refine⟨i,z,hi,hz', ?_,key⟩;have:=(key default ⟨fun _=>none,fun _=>False⟩).1;rw[bh]at this;simpa using this
def qX{t:TypeId}{i:TypeInfo}(h:P.info? t=some i):P.cellsOf t=i.size:=by simp[Program.cellsOf,h]
def A7{t:TypeId}{i:TypeInfo}(h:P.info? t=some i):P.bytesOf t=i.bytes:=by simp[Program.bytesOf,h]
def pR{t e:TypeId}(h:eA P t=some e):P.underlying t=some (.slice e):=by
 unfold eA at h;split at h
 ·cases h;assumption
 ·cases h
def TW{k:K}{z:Array Value}(hz:z.size=ks k)(hr:RL (RC w β) (enc k (dfl k)) z.toList){n:Nat}:
  ∀ i x j c u,(aqQ n (dfl k))[i]? =some x→(enc k x)[j]? =some c→(madeCells z (n * ks k))[i * ks k+j]? =some u→RC w β c u:=by
 intro i x j c u h1 h2 h3;have hx:x=dfl k:=List.eq_of_mem_replicate (aqT h1);have hi:i < n:=by have:=(aqF.1 h1).1;simpa using this
 subst hx;have hj:j < ks k:=by rw[← bh k (dfl k)];exact(aqF.1 h2).1
 have hlt:i * ks k+j < n * ks k:=ln hi hj;simp only[madeCells,Array.getElem?_map,aqY]at h3;obtain⟨q,hq,rfl⟩:=h3;have hq':q=i * ks k+j:=by
  rw[arD]at hq;obtain⟨_,hq⟩:=hq;simpa using hq.symm
 subst hq';have hm:(i * ks k+j) % z.size=j:=by rw[hz,aty,Nat.add_mul_mod_self_right,as4 hj]
 rw[hm];have hjz:j < z.size:=by omega
 refine hr.2 j c _ h2 ?_;simp[hjz]
def ac4(hH:Hs B β H w)(hb:H b=none){t e:TypeId}{k:K}(he:eA P t=some e)(hz:zok P e k=true)(hc:P.cellsOf e=ks k)(hby:P.bytesOf e≤256){n:Int}(h0:0≤n)(hn:n≤4294967296):
  Good B β H w b (.own b) [.row e false k (aqQ n.toNat (dfl k))] (((Instr.makeSlice t (.int .i64 n) (.int .i64 n)).run P w).andThen fun u w=> .ok (.value u) w):=by
 obtain⟨i,z,hi,hz',hs,hr⟩:=Pn hz;have hu:=pR he;rw[qX hi]at hc;rw[A7 hi]at hby;have hb1:(i.bytes:Int) * n≤281474976710656:=by
  have h1:(i.bytes:Int) * n≤256 * 4294967296:=Int.mul_le_mul (by omega) hn h0 (by omega);omega
 have akm:=run_make (P:=P) w t e i z hu hi hz' .i64 .i64 n n h0 (as2 _) hb1 (by omega);rw[akm,hc];have hml:n.toNat≤maxLen:=ara (show n.toNat≤4294967296 by omega) (by decide);refine Px (w':=w.alloc (.cells (madeCells z.cells (n.toNat * ks k)) e)) (cap:=n.toNat) (us:=madeCells z.cells (n.toNat * ks k)) hH hb rfl rfl rfl (fun j hj=>heap_alloc_old w _ hj) (heap_alloc_new w _) (by simp) hml
  (by rw[size_madeCells];exact aqG _) (TW hs (hr w β)) ?_
 simp
def JS{k:K}: ∀ {xs:List (Tof k)} {i j:Nat} {x:Tof k},xs[i]? =some x→j < ks k→(xs.flatMap (enc k))[i * ks k+j]? =(enc k x)[j]?
 | [],_,_,_,h,_=>by simp at h
 | y::ys,0,j,x,h,hj=>by
  simp only[atE,aqI]at h;subst h;rw[asL,arO (by rw[bh];omega)];simp
 | y::ys,i+1,j,x,h,hj=>by
  simp only[aur]at h;rw[asL,arj (by rw[bh,arQ];omega),bh,← JS h hj];congr 1;rw[arQ];omega
def eu{k:K}(xs:List (Tof k)):(xs.flatMap (enc k)).length=xs.length * ks k:=by
 induction xs with
 | nil=>simp
 | cons x xs ih=>rw[asL,aqD,bh,ih,aqM,arQ];omega
def zH{k:K}{xs:List (Tof k)}{us:List Value}(h:RL (RC w β) (xs.flatMap (enc k)) us): ∀ i x j c u,xs[i]? =some x→(enc k x)[j]? =some c→us[i * ks k+j]? =some u→RC w β c u:=by
 intro i x j c u h1 h2 h3;have hj:j < ks k:=by rw[← bh k x];exact(aqF.1 h2).1
 exact h.2 _ c u (by rw[JS h1 hj];exact h2) h3
def UX(hP:P=B.P)(hH:Hs B β H w)(hb:H b=none){t:TypeId}{n:Nat}{k:K}{zs:List AV}(hz:u9 P t=some zs)(hk:Wd zs ((aqQ n (dfl k)).flatMap (enc k))=true)(hc:P.cellsOf t=n * ks k)(hn:1≤n)
  {o:Oper}(ho:o.op= .alloc t):Good B β H w b (.ptr b (ks k) 0 0) [.arr t k (aqQ n (dfl k))] ((execOp η o).run P w):=by
 obtain⟨i,z,hi,hz',rfl,h1⟩:=Ag hz;have alG:RL (RC w β) _ z.cells.toList:=PH hk (RL.lits _ h1);have hsz:z.cells.size=n * ks k:=by
  have:=alG.1;rw[eu]at this;simpa using this
 obtain⟨β',g1,g2,g3⟩:=hH.grow (w':=w.alloc (.cells z.cells t)) hb (.arr t k (aqQ n (dfl k))) (.pointer (some ⟨w.heap.size,0,none⟩)) n rfl rfl rfl (by simp) (fun j hj=>heap_alloc_old w _ hj) (fun a ha=>by cases ha;simp)
  (fun β' hβ hk=>⟨w.heap.size,z.cells,by simpa using hβ,heap_alloc_new w _,by simpa using hsz,by rw[← hP,hc];exact hsz,fun i x j c u a1 a2 a3=>hk _ _ (zH alG i x j c u a1 a2 (by simpa using a3))⟩)
 ·refine⟨_,_,β', ?_,g1,g2,(?_:R2 (w.alloc (.cells z.cells t)) β' _ (.pointer (some ⟨w.heap.size,0,none⟩)))⟩
  ·unfold execOp;rw[ho];simp[Instr.alloc,XS hi hz',newVar,newRow]
  ·have:=RC.ptr (w:=w.alloc (.cells z.cells t)) (β:=β') (id:=b) (sz:=ks k) (i:=0) (o:=0) g3 (b:=w.heap.size) (f:=0) rfl (by omega);simpa[R2,R1] using this
def VN(off:Nat): ∀ (ys:List Value) (n:Nat) (cs:Array Value),off+n+ys.length≤cs.size→
  (ys.zipIdx n).foldl (fun cs (c,j)=>cs.setIfInBounds (off+j) c) cs=(cs.toList.take (off+n)++ys++cs.toList.drop (off+n+ys.length)).toArray
 | [],n,cs,_=>by simp
 | y::ys,n,cs,h=>by
  simp only[aqM]at h;rw[aum,ars,VN off ys (n+1) _ (by simp;omega)];have e:=list_seg_step cs.toList (off+n) y ys (by simp;omega);simpa[aue,arw,aty,Nat.add_left_comm] using e
def VU(place:Nat→Option (Nat×Nat))(cells:Array Value)(i off:Nat)(v:Value)(rest:List (Nat×Value))(hp:place i=some (off,v.cells.size))(hl:off+v.cells.size≤cells.size):
  atn place cells ((i,v)::rest)=atn place (cells.toList.take off++v.cells.toList++cells.toList.drop (off+v.cells.size)).toArray rest:=by
 have h1: ¬ (v.cells.size≠v.cells.size∨off+v.cells.size > cells.size):=by omega
 rw[atn,hp];simp only[ne_eq,not_true_eq_false,aqo,aqX,decide_eq_true_eq];rw[aqg (by omega),← Array.foldl_toList,Array.toList_zipIdx];have:=VN off v.cells.toList 0 cells (by simpa using hl);simp only[asB,arq]at this;rw[this]
def Yf{α β':Type}(f:α→Option β'): ∀ (l:List α),(∀ x∈l,(f x).isSome=true)→ ∃ r,l.mapM f=some r∧r.length=l.length∧ ∀ (i:Nat) (x:α),l[i]? =some x→r[i]? =f x
 | [],_=>⟨[],by simp,rfl,fun i x h=>by simp at h⟩
 | x::l,h=>by
  obtain⟨r,h1,h2,h3⟩:=Yf f l (fun y hy=>h y (by simp[hy]));cases hx:f x with
  | none=>have:=h x (by simp);rw[hx]at this;cases this
  | some y=>
   refine⟨y::r,by simp[hx,h1],by simp[h2],fun i z hi=> ?_⟩;cases i with
   | zero=>simp at hi;subst hi;simp[hx]
   | succ i=>simp at hi ⊢; exact h3 i z hi
def NA(hη: ∀ x,RX w β tm (ρ x) (η x)){t:TypeId}{fs:Array Field}(hu:P.underlying t=some (.struct fs)){places:List (Nat×Nat)}
  (hp: ∀ (i:Nat) (f:Field),fs[i]? =some f→places[i]? =some (f.offset,P.cellsOf f.type)): ∀ (ps:List (Nat×Operand)) (cs:List AV) (us:Array Value) (ds:List AV),oN P ρ t ps cs=some ds→RL (RC w β) cs us.toList→
  ∃ vs:Array Value,atn (places.toArray[·]?) us (ps.map fun(i,x)=>(i,η x))=some vs∧RL (RC w β) ds vs.toList
 | [],cs,us,ds,h,hl=>by
  simp only[oN,aqI]at h;subst h;exact⟨us,by simp[atn],hl⟩
 | (i,x)::ps,cs,us,ds,h,hl=>by
  simp only[oN]at h;cases hf:nc P t i with
  | none=>rw[hf]at h;cases h
  | some f=>
   rw[hf]at h;simp only[aqs]at h;cases hc:kt (ρ x) with
   | none=>rw[hc]at h;cases h
   | some ys=>
    rw[hc]at h;simp only[aqs]at h;split at h
    ·rename_i hb;simp only[aqt]at hb;have hb1:=aD hb.1;have hb2:=aq1 hb.2;have hr:=rQ hc (hη x);obtain⟨fs',hu',hf'⟩:=AW hf;rw[hu]at hu';cases hu';have hys:(η x).cells.size=ys.length:=by have:=hr.1;simpa using this
     have hcs:us.size=cs.length:=by have:=hl.1;simpa using this
     have hsp:RL (RC w β) (kV cs f.offset ys) (us.toList.take f.offset++(η x).cells.toList++us.toList.drop (f.offset+(η x).cells.size)):=by
      unfold kV;rw[hys];exact((hl.take _).append hr).append (hl.drop _)
     obtain⟨vs,h1,h2⟩:=NA hη hu hp ps _ (us.toList.take f.offset++(η x).cells.toList++us.toList.drop (f.offset+(η x).cells.size)).toArray ds h hsp;refine⟨vs, ?_,h2⟩;rw[arx,VU _ _ i f.offset (η x) _ ?_ (by omega)]
     ·exact h1
     ·rw[atl,hp i f hf',hys,hb1]
    ·cases h
def aaT(hη: ∀ x,RX w β tm (ρ x) (η x))(hH:Hs B β H w){t:TypeId}{fs:Array Field}{ps:Array (Nat×Operand)}{zs cs:List AV}(hz:u9 P t=some zs)(hu:P.underlying t=some (.struct fs))(ha:(fs.toList.all fun f=>(P.info? f.type).isSome)=true)
  (h:oN P ρ t ps.toList zs=some cs){o:Oper}(ho:o.op= .build t ps):Good B β H w b (.agg cs) [] ((execOp η o).run P w):=by
 obtain⟨i,z,hi,hz',rfl,h1⟩:=Ag hz;obtain⟨places,hm,hlen,hpl⟩:=Yf (fun f:Field=>(P.info? f.type).map fun i=>(f.offset,i.size)) fs.toList (fun f hf=>by
  have:=arp.1 ha f hf;simpa using this)
 obtain⟨vs,g1,g2⟩:=NA (places:=places) hη hu (fun i f hf=>by
  have an8:=arp.1 ha f (aqT (by simpa using hf));rw[hpl i f (by simpa using hf)];obtain⟨inf,aoX⟩:=Option.isSome_iff_exists.1 an8;simp[aoX,qX aoX]) ps.toList _ z.cells cs h (RL.lits _ h1)
 refine Good.same hH (u:= .agg vs) ?_ ⟨vs.toList,by simp,g2⟩;unfold execOp;rw[ho];have hb:P.built t (ps.map fun(i,x)=>(i,η x)).toList=some vs:=by
  simp only[Program.built,hi,hu,hz',hm];rw[← g1,Array.toList_map]
 simp only[arY,run_build w t _ _ hb,arE];rfl
def ahP{k:K}{cs:List AV}{x:Tof k}(h:dec (fun _=>none) k cs=some x){us:List Value}(hl:RL (RC w β) cs us):RL (RC w β) (enc k x) us:=by
 have sl: ∀ (k:K) (c:AV) (l:List (Tof k)) (u:Value),gQ (fun _=>none) k c=some l→RC w β c u→RC w β (.sl k l) u:=by
  intro k c l u h1 h2;unfold gQ at h1;split at h1
  ·obtain⟨e,rfl⟩:=fU h1;subst e;exact h2
  ·cases h1;rw[h2.amm];exact .nil
  ·cases h1
  ·cases h1
 unfold dec at h;split at h<;>try (cases h;done)
 all_goals try (cases h;exact hl)
 ·rename_i x';cases hx:gQ (fun _=>none) K.mixed x' with
  | none=>rw[hx]at h;cases h
  | some l=>
   rw[hx]at h;cases h;obtain⟨u1,_,rfl,g1,hl⟩:=hl.aj2;obtain⟨u2,_,rfl,g2,hl⟩:=hl.aj2;obtain⟨u3,_,rfl,g3,hl⟩:=hl.aj2;obtain⟨u4,_,rfl,g4,hl⟩:=hl.aj2;obtain⟨u5,_,rfl,g5,hl⟩:=hl.aj2;obtain⟨u6,_,rfl,g6,hl⟩:=hl.aj2;exact .cons g1 (.cons g2 (.cons g3 (.cons g4 (.cons g5 (.cons (sl _ _ _ _ hx g6) hl)))))
 ·rename_i x' y' z';cases hx:gQ (fun _=>none) K.note x' with
  | none=>rw[hx]at h;cases h
  | some l=>
   cases hy:gQ (fun _=>none) K.mark y' with
   | none=>rw[hx,hy]at h;cases h
   | some m=>
    cases hz:gQ (fun _=>none) K.note z' with
    | none=>rw[hx,hy,hz]at h;cases h
    | some n=>
     rw[hx,hy,hz]at h;cases h;obtain⟨u1,_,rfl,g1,hl⟩:=hl.aj2;obtain⟨u2,_,rfl,g2,hl⟩:=hl.aj2;obtain⟨u3,_,rfl,g3,hl⟩:=hl.aj2;obtain⟨u4,_,rfl,g4,hl⟩:=hl.aj2;obtain⟨u5,_,rfl,g5,hl⟩:=hl.aj2;obtain⟨u6,_,rfl,g6,hl⟩:=hl.aj2;exact .cons g1 (.cons g2 (.cons g3 (.cons (sl _ _ _ _ hx g4) (.cons (sl _ _ _ _ hy g5) (.cons (sl _ _ _ _ hz g6) hl)))))
 ·rename_i x';cases hx:gQ (fun _=>none) K.half x' with
  | none=>rw[hx]at h;cases h
  | some l=>
   rw[hx]at h;cases h;obtain⟨u1,_,rfl,g1,hl⟩:=hl.aj2;obtain⟨u2,_,rfl,g2,hl⟩:=hl.aj2;obtain⟨u3,_,rfl,g3,hl⟩:=hl.aj2;obtain⟨u4,_,rfl,g4,hl⟩:=hl.aj2;obtain⟨u5,_,rfl,g5,hl⟩:=hl.aj2;exact .cons g1 (.cons g2 (.cons g3 (.cons g4 (.cons (sl _ _ _ _ hx g5) hl))))
def J1{k:K}: ∀ {vs:List AV} {us:List Value} {xs:List (Tof k)},uT k vs=some xs→(us.length=vs.length∧ ∀ (j:Nat) (c:AV) (u:Value),vs[j]? =some c→us[j]? =some u→RX w β tm c u)→
  xs.length=vs.length∧(∀ u∈us,u.cells.size=ks k)∧RL (RC w β) (xs.flatMap (enc k)) (us.flatMap fun u=>u.cells.toList)
 | [],us,xs,h,hl=>by
  simp only[uT,aqI]at h;subst h;obtain rfl:us=[]:=aq2 (by simpa using hl.1);exact⟨rfl,by simp,RL.nil⟩
 | v::vs,us,xs,h,hl=>by
  cases us with
  | nil=>exact absurd hl.1 (by simp)
  | cons u us=>
   simp only[uT]at h;cases hc:kt v with
   | none=>rw[hc]at h;cases h
   | some cs=>
    rw[hc]at h;simp only[aqs]at h;cases hd:dec (fun _=>none) k cs with
    | none=>rw[hd]at h;cases h
    | some x=>
     rw[hd]at h;simp only[aqs]at h;cases hr:uT k vs with
     | none=>rw[hr]at h;cases h
     | some ys=>
      rw[hr]at h;cases h;have h1:=ahP hd (rQ hc (hl.2 0 v u rfl rfl));obtain⟨i1,i2,i3⟩:=J1 hr ⟨by have:=hl.1;simpa using this,fun j c u' a1 a2=>hl.2 (j+1) c u' (by simpa using a1) (by simpa using a2)⟩;refine⟨by simp[i1],fun u' hu'=> ?_, ?_⟩
      ·rcases aqS.1 hu' with e | e
       ·subst e;have:=h1.1;rw[bh]at this;simpa using this
       ·exact i2 u' e
      ·rw[asL,asL];exact h1.append i3
def CZ: ∀ {n:Nat} {ps:List (Nat×Operand)} {vs:List AV},ov ρ n ps=some vs→ps=((ps.map (·.2)).zipIdx n).map (fun x=>(x.2,x.1))∧vs=ps.map (fun p=>ρ p.2)
 | n,[],vs,h=>by simp only[ov,aqI]at h;subst h;exact⟨rfl,rfl⟩
 | n,(i,x)::ps,vs,h=>by
  simp only[ov]at h;split at h
  ·rename_i hi;obtain rfl:=aD hi;cases hr:ov ρ (i+1) ps with
   | none=>rw[hr]at h;cases h
   | some ws=>
    rw[hr]at h;cases h;obtain⟨h1,h2⟩:=CZ hr;refine⟨?_,by simp[h2]⟩;rw[arx,aum,arx];exact congrArg _ h1
  ·cases h
def YL(sz:Nat): ∀ (us:List Value) (n:Nat) (cells:Array Value),(∀ u∈us,u.cells.size=sz)→(n+us.length) * sz≤cells.size→
  atn (fun i=>some (i * sz,sz)) cells ((us.zipIdx n).map fun x=>(x.2,x.1))=some (cells.toList.take (n * sz)++(us.flatMap fun u=>u.cells.toList)++cells.toList.drop ((n+us.length) * sz)).toArray
 | [],n,cells,_,_=>by simp[atn]
 | u::us,n,cells,h,hl=>by
  have hu:=h u (by simp);simp only[aqM]at hl;have e1:(n+(us.length+1)) * sz=n * sz+(us.length * sz+sz):=by rw[arQ,arQ,att]
  have e2:(n+1+us.length) * sz=n * sz+(us.length * sz+sz):=by rw[← e1];congr 1;omega
  have e3:(n+1) * sz=n * sz+sz:=by rw[arQ,att]
  rw[aum,arx,VU _ _ n (n * sz) u _ (by simp[hu]) (by omega),YL sz us (n+1) _ (fun v hv=>h v (by simp[hv])) ?_]
  ·congr 2;simp only[auZ,asL,hu];have hcl:cells.toList.length=cells.size:=arq;have ht:(cells.toList.take (n * sz)++u.cells.toList).length=(n+1) * sz:=by
    simp only[aqD,arm,arq,hu];omega
   have h4:(cells.toList.take (n * sz)++u.cells.toList++cells.toList.drop (n * sz+sz)).take ((n+1) * sz)=cells.toList.take (n * sz)++u.cells.toList:=by
    rw[← ht,as8];rfl
   have h5:(cells.toList.take (n * sz)++u.cells.toList++cells.toList.drop (n * sz+sz)).drop ((n+1+us.length) * sz)=cells.toList.drop ((n+(us.length+1)) * sz):=by
    rw[List.drop_append,ht,asm (by rw[ht,e2,e3];omega),arF,asP];congr 1;rw[e1,e2,e3];omega
   rw[h4,h5];simp[aqP,aty,Nat.add_left_comm,arw]
  ·simp only[asp,aqD,arm,arq,aru,hu];omega
def Pj(hη: ∀ x,RX w β tm (ρ x) (η x))(hH:Hs B β H w)(hb:H b=none){t e:TypeId}{len:Nat}{ps:Array (Nat×Operand)}{k:K}{vs:List AV}{xs:List (Tof k)}(he:eA P t=some e)(hp:ov ρ 0 ps.toList=some vs)(hd:uT k vs=some xs)
  (hl:vs.length=len)(hc:P.cellsOf e=ks k)(hsm:len≤65536)(hz:zok P e k=true){o:Oper}(ho:o.op= .buildSlice t len ps):Good B β H w b (.own b) [.row e false k xs] ((execOp η o).run P w):=by
 obtain⟨i,z,hi,hz',hs,_⟩:=Pn hz;have hu:=pR he;by_cases aon:len=0
 ·subst aon;obtain rfl:vs=[]:=aq2 hl;simp only[uT,aqI]at hd;subst hd;have hps:ps= #[]:=by
   have:=(CZ hp).2;have h2:ps.toList=[]:=by
    have:=congrArg asG this;exact aq2 (by simpa using this.symm)
   exact Array.toList_inj.1 (by simpa using h2)
  subst hps;refine Px (w':=w.alloc (.cells #[] e)) (cap:=0) (us:= #[]) hH hb rfl rfl rfl (fun j hj=>heap_alloc_old w _ hj) (heap_alloc_new w _) (by simp) (by simp) (by simp) (fun i x j c u a1=>by simp at a1) ?_;unfold execOp;rw[ho];simp[Instr.buildSlice,run_underlying hu,sizeOf,typeInfo,hi,atn,newRow,show aub 0= #[] from by simp[aub]]
 have h0:1≤len:=by omega
 rw[qX hi]at hc;obtain⟨h1,rfl⟩:=CZ hp;have hkp:=oy k;have apM:ks k≤16:=by cases k<;>decide
 have hu':((ps.toList.map fun p=>η p.2).length=(ps.toList.map fun p=>ρ p.2).length):=by simp
 obtain⟨d1,d2,d3⟩:=J1 (w:=w) (β:=β) (tm:=tm) (us:=ps.toList.map fun p=>η p.2) hd ⟨by simp,fun j c u a1 a2=>by
  simp only[ari,aqY]at a1 a2;obtain⟨p,hp1,rfl⟩:=a1;obtain⟨p',hp2,rfl⟩:=a2;rw[hp1]at hp2;cases hp2;exact hη _⟩
 have anj:(ps.map fun(i,x)=>(i,η x)).toList=((ps.toList.map fun p=>η p.2).zipIdx 0).map fun x=>(x.2,x.1):=by
  rw[Array.toList_map]
  conv=>lhs;rw[h1]
  rw[ast,List.zipIdx_map,List.zipIdx_map,ast,ast];rfl
 have hlen:(ps.toList.map fun p=>η p.2).length=len:=by simpa using hl
 have ant:=YL (ks k) (ps.toList.map fun p=>η p.2) 0 ((aub (len * ks k)).map (z.cells[· % z.cells.size]!)) d2 (by simp[hlen]);have ana: ¬ len * i.size > 2 ^ 24:=by
  rw[hc];have:len * ks k≤65536 * 16:=auD hsm apM;omega
 have aoe: ¬ len * i.size=0:=by
  rw[hc];have:1 * 1≤len * ks k:=auD h0 hkp;omega
 have aoa:(((aub (len * ks k)).map (z.cells[· % z.cells.size]!)).toList.take (0 * ks k)++((ps.toList.map fun p=>η p.2).flatMap fun u=>u.cells.toList)++((aub (len * ks k)).map (z.cells[· % z.cells.size]!)).toList.drop ((0+(ps.toList.map fun p=>η p.2).length) * ks k)).toArray
   =((ps.toList.map fun p=>η p.2).flatMap fun u=>u.cells.toList).toArray:=by
  rw[hlen,asm (by simp)];simp
 rw[aoa]at ant;have akm:=run_buildSlice w t e len (ps.map fun(i,x)=>(i,η x)) _ i z hu hi hz' ana aoe (by rw[anj,hc];exact ant);have hxl:xs.length=len:=by rw[d1];exact hl
 refine Px (w':=w.alloc (.cells ((ps.toList.map fun p=>η p.2).flatMap fun u=>u.cells.toList).toArray e)) (cap:=len) hH hb rfl rfl rfl (fun j hj=>heap_alloc_old w _ hj) (heap_alloc_new w _) (by omega) (ara hsm (by decide)) ?_ ?_ ?_
 ·have:=d3.1;rw[eu]at this;simp only[asp];rw[this,hxl];exact aqG _
 ·intro i x j c u a1 a2 a3;exact zH d3 i x j c u a1 a2 (by simpa using a3)
 ·unfold execOp;rw[ho];simp only[arY,akm,arE,hxl];rfl
def xW{lo hi:Option Operand}{n:Nat}{l h:Int}(hη: ∀ x,RX w β tm (ρ x) (η x))(hc:OZ (lo.map ρ) (hi.map ρ) n=some (true,l,h))(isS:Bool){cap:Nat}(alm:n≤cap):
  (asX isS n cap (lo.map η) (hi.map η) none).run P w= .ok (l.toNat,h.toNat,cap) w∧0≤l∧l≤h∧h≤(n:Int):=by
 have hB: ∀ (k:IntKind) (i:Int) (y:Nat) (code:BoundsCode),0≤i→i≤(y:Int)→(Instr.sliceBound (.int k i) y code).run P w= .ok i.toNat w:=by
  intro k i y code h1 h2;simp[Instr.sliceBound,asIntOf,h1,h2]
 unfold OZ at hc;split at hc
 ·rename_i h1 h2;cases lo with
  | some x=>cases h1
  | none=>
  cases hi with
  | some x=>cases h2
  | none=>
   simp only[aqI,arb]at hc;obtain⟨_,rfl,rfl⟩:=hc;exact⟨by simp[asX],by omega,by omega,by omega⟩
 ·rename_i k l' h1 h2;cases hi with
  | some x=>cases h2
  | none=>
  cases lo with
  | none=>cases h1
  | some x=>
   simp only[atv,aqI]at h1;have hx:=hη x;rw[h1]at hx;simp only[aqI,arb,aqt,decide_eq_true_eq]at hc;obtain⟨⟨g1,g2⟩,rfl,rfl⟩:=hc;refine⟨?_,g1,g2,by omega⟩;simp[asX,hx.lit,hB _ _ _ _ g1 g2]
 ·rename_i k l' h1 h2;cases lo with
  | some x=>cases h1
  | none=>
  cases hi with
  | none=>cases h2
  | some x=>
   simp only[atv,aqI]at h2;have hx:=hη x;rw[h2]at hx;simp only[aqI,arb,aqt,decide_eq_true_eq]at hc;obtain⟨⟨g1,g2⟩,rfl,rfl⟩:=hc;refine⟨?_,by omega,g1,g2⟩;cases isS<;>simp[asX,hx.lit,hB _ _ _ _ g1 (show l'≤(cap:Int) by omega)]
 ·rename_i k1 l' k2 h' h1 h2;cases lo with
  | none=>cases h1
  | some y=>
  cases hi with
  | none=>cases h2
  | some x=>
   simp only[atv,aqI]at h1 h2;have hy:=hη y;rw[h1]at hy;have hx:=hη x;rw[h2]at hx;simp only[aqI,arb,aqt,decide_eq_true_eq]at hc;obtain⟨⟨⟨g1,g2⟩,g3,g4⟩,rfl,rfl⟩:=hc;refine⟨?_,g3,g4,g2⟩;have e1:=hB k2 h' cap;have e2:=hB k1 l' h'.toNat .sliceB g3 (by omega);cases isS<;>simp[asX,hx.lit,hy.lit,e1 _ g1 (show h'≤(cap:Int) by omega),e2]
 ·cases hc
def W9{α:Type}{lo hi:Option AV}{l h:Int}{xs:List α}(hc:OZ lo hi xs.length=some (true,l,h)):MC lo hi l h xs=(xs.take h.toNat).drop l.toNat:=by
 unfold OZ at hc;split at hc
 ·simp only[aqI,arb]at hc;obtain⟨_,rfl,rfl⟩:=hc;simp[MC]
 ·simp only[aqI,arb]at hc;obtain⟨_,rfl,rfl⟩:=hc;simp[MC]
 ·simp only[aqI,arb]at hc;obtain⟨_,rfl,rfl⟩:=hc;simp[MC]
 ·simp only[aqI,arb]at hc;obtain⟨_,rfl,rfl⟩:=hc;simp[MC]
 ·cases hc
def RC.cut{k:K}{xs:List (Tof k)}{bb f cap l h:Nat}{ys:List (Tof k)}(hy:ys=(xs.take h).drop l)(hlh:l≤h)(hh:h≤xs.length)(hx:RC w β (.sl k xs) (.slice (some ⟨bb,f,none⟩) xs.length cap))(alm:xs.length≤cap):
  RC w β (.sl k ys) (.slice (if cap=l then some ⟨bb,f,none⟩ else some ⟨bb,f+l * ks k,none⟩) (h - l) (cap - l)):=by
 by_cases he:h=l
 ·obtain rfl:ys=[]:=by subst hy;subst he;rw[asm];simp;omega
  rw[show h - l=0 by omega];exact .nil
 ·have hne:xs≠[]:=fun e=>by subst e;simp at hh;omega
  rw[aqg (by omega)];cases hx with
  | nil=>exact absurd rfl hne
  | sl u hn hm hu hr=>
   have hyl:ys.length=h - l:=by subst hy;simp;omega
   refine .sl (fun i j=>u (l+i) j) ⟨hyl.symm,by omega⟩ hm (fun i j hi hj=> ?_) (fun i x j c h1 h2=>hr (l+i) x j c ?_ h2)
   ·have:=hu (l+i) j (by omega) hj;rw[arQ]at this;rw[← this];congr 2;omega
   ·subst hy;rw[ar5,arT]at h1;split at h1
    ·exact h1
    ·cases h1
def CR{t e:TypeId}(hu:P.underlying t=some (.slice e))(h1:1≤P.cellsOf e){a:Option Addr}{n cap l h m:Nat}{lo hi:Option Value}(hb:(asX true n cap lo hi none).run P w= .ok (l,h,m) w):
  (atq t (.slice a n cap) lo hi none).run P w= .ok (.slice (if m=l then a else a.map (·.add (l * P.cellsOf e))) (h - l) (m - l)) w:=by
 simp[atq,Instr.slice,run_underlying hu,hb,lm h1]
def ZT(hη: ∀ x,RX w β tm (ρ x) (η x))(hH:Hs B β H w){t:TypeId}{x:Operand}{lo hi:Option Operand}(hf:fu P H t (ρ x)=true){q:Bool}{v:AV}{os:List Ob}(h:K7 (lo.map ρ) (hi.map ρ) (ρ x)=some (q,v,os))(hq:q=true):
  Good B β H w b v os (((atq t (η x) (lo.map η) (hi.map η) none).run P w).andThen fun u w=> .ok (.value u) w):=by
 subst hq;have hx:=hη x;generalize ρ x=c at h hx hf;unfold K7 at h;split at h
 ·rename_i s;cases hc:OZ (lo.map ρ) (hi.map ρ) s.size with
  | none=>rw[hc]at h;cases h
  | some r=>
   obtain⟨q',l,h'⟩:=r;rw[hc]at h;simp only[aqs,aqI,arb]at h;obtain⟨rfl,rfl,rfl⟩:=h;obtain⟨hb,g1,g2,g3⟩:=xW (P:=P) (w:=w) (β:=β) (tm:=tm) hη hc false (aqG _);rw[hx.lit];have hu:P.underlying t=some .string:=by
    unfold fu at hf;split at hf<;>simp_all
   refine Good.same hH (u:= .string (s.extract l.toNat h'.toNat)) ?_ rfl;simp[atq,Instr.slice,run_underlying hu,hb]
 ·rename_i k xs;cases hc:OZ (lo.map ρ) (hi.map ρ) xs.length with
  | none=>rw[hc]at h;cases h
  | some r=>
   obtain⟨q',l,h'⟩:=r;rw[hc]at h;simp only[aqs,aqI,arb]at h;obtain⟨rfl,rfl,rfl⟩:=h;obtain⟨e,hu,hk⟩: ∃ e,P.underlying t=some (.slice e)∧P.cellsOf e=ks k:=by
    unfold fu at hf;split at hf<;>simp_all
   have h1:=oy k;have hx':RC w β (.sl k xs) (η x):=hx;obtain⟨a,cap,hv,alm⟩:=hx'.an1.len;obtain⟨hb,g1,g2,g3⟩:=xW (P:=P) (w:=w) (β:=β) (tm:=tm) hη hc true alm;rw[hv]at hx' ⊢;rw[CR hu (by omega) hb,hk];refine Good.same hH rfl ?_;by_cases hxs:xs=[]
   ·subst hxs;have e1:h'.toNat - l.toNat=0:=by simp at g3;omega
    have e2:MC (lo.map ρ) (hi.map ρ) l h' ([]:List (Tof k))=[]:=by rw[W9 hc];simp
    rw[e1,e2];exact RC.nil
   ·have ha: ∃ bb f,a=some ⟨bb,f,none⟩:=by
     cases hx' with
     | nil=>exact absurd rfl hxs
     | sl=>exact⟨_,_,rfl⟩
    obtain⟨bb,f,rfl⟩:=ha;have:=RC.cut (l:=l.toNat) (h:=h'.toNat) (W9 hc) (by omega) (by omega) hx' alm;simpa[R2,R1,asg,apply_ite] using this
 ·cases hc:OZ (lo.map ρ) (hi.map ρ) 0 with
  | none=>rw[hc]at h;cases h
  | some r=>
   obtain⟨q',l,h'⟩:=r;rw[hc]at h;simp only[aqs,aqI,arb]at h;obtain⟨rfl,rfl,rfl⟩:=h;obtain⟨e,hu,hk⟩: ∃ e,P.underlying t=some (.slice e)∧1≤P.cellsOf e:=by
    unfold fu at hf;split at hf<;>simp_all
   obtain⟨hb,g1,g2,g3⟩:=xW (P:=P) (w:=w) (β:=β) (tm:=tm) hη hc true (aqG _);rw[hx.lit,CR hu hk hb];have e1:h'.toNat=0:=by omega
   have e2:l.toNat=0:=by omega
   refine Good.same hH (u:= .slice none 0 0) ?_ rfl;rw[e1,e2];rfl
 ·cases h
end
end Go.VS
namespace Go.VS
open Go
section
variable {P:Program} {B:ake} {β:Beta} {H:Hp} {w w':World} {b:Nat} {tm:Nat→Value} {ρ:Operand→AV} {η:Operand→Value} {kd:TypeId→Option K}
def acJ(hP:P=B.P)(hη: ∀ x,RX w β tm (ρ x) (η x))(htm: ∀ g,η (.tmp g)=tm g)(hcv: ∀ v,η (.const v)=v)(hH:Hs B β H w)(hb:H b=none){o:Oper}{q:Bool}{v:AV}{os:List Ob}
  (h:bD P kd ρ H b o.op=some (q,v,os))(hq:q=true):Good B β H w b v os ((execOp η o).run P w):=by
 generalize ho:o.op=op at h;have amu: ∀ {s:Sem Value},(execOp η o=(do pure (.value (← s)):Sem Next))→(execOp η o).run P w=(s.run P w).andThen fun u w=> .ok (.value u) w:=by
  intro s e;rw[e];simp only[arY];rfl
 cases op<;>try (simp[bD]at h;done)
 case move x=>
  obtain⟨rfl,_,rfl,hg⟩:=sZ h;refine Good.same hH (u:=η x) ?_ ((hη x).of hg);unfold execOp;rw[ho];rfl
 case assign x=>
  obtain⟨rfl,_,rfl,hg⟩:=sZ h;refine Good.same hH (u:=η x) ?_ ((hη x).of hg);unfold execOp;rw[ho];rfl
 case pick c x y=>exact acL hη htm hcv hH h hq ho
 case alloc t=>
  simp only[bD]at h;split at h
  ·rename_i n e hu;cases hk:kd e with
   | none=>rw[hk]at h;cases h
   | some k=>
    cases hz:u9 P t with
    | none=>rw[hk,hz]at h;cases h
    | some zs=>
     rw[hk,hz]at h;simp only[aqs]at h;split at h
     ·rename_i hc;simp only[aqt]at hc;cases h;exact UX hP hH hb hz hc.1.1 (aD hc.1.2) (aq1 hc.2) ho
     ·cases h
  ·cases hz:u9 P t with
   | none=>rw[hz]at h;cases h
   | some zs=>
    rw[hz]at h;cases h;exact aaX hH hb hz ho
 case box t x=>
  simp only[bD]at h;cases hc:kt (ρ x) with
  | none=>rw[hc]at h;cases h
  | some cs=>
   rw[hc]at h;cases h;exact agm hη hH hb hc ho
 case build t ps=>
  simp only[bD]at h;cases hz:u9 P t with
  | none=>rw[hz]at h;cases h
  | some zs=>
   rw[hz]at h;simp only[aqs]at h;split at h
   ·rename_i fs hu;split at h
    ·rename_i ha;cases hc:oN P ρ t ps.toList zs with
     | none=>rw[hc]at h;cases h
     | some cs=>
      rw[hc]at h;obtain⟨rfl,_,rfl⟩:=bq h;exact aaT hη hH hz hu ha hc ho
    ·cases h
   ·cases h
 case buildSlice t len ps=>
  simp only[bD]at h;cases he:eA P t with
  | none=>rw[he]at h;cases h
  | some e=>
   rw[he]at h;simp only[aqs]at h;cases hk:kd e with
   | none=>rw[hk]at h;cases h
   | some k=>
    rw[hk]at h;simp only[aqs]at h;cases hp:ov ρ 0 ps.toList with
    | none=>rw[hp]at h;cases h
    | some vs=>
     rw[hp]at h;simp only[aqs]at h;cases hd:uT k vs with
     | none=>rw[hd]at h;cases h
     | some xs=>
      rw[hd]at h;simp only[aqs]at h;split at h
      ·rename_i hc;simp only[aqt]at hc;cases h;exact Pj hη hH hb he hp hd (aD hc.1.1.1) (aD hc.1.1.2) (aq1 hc.1.2) hc.2 ho
      ·cases h
 case load t p=>
  simp only[bD]at h;cases hl:C9 P H t (ρ p) with
  | none=>rw[hl]at h;cases h
  | some v'=>
   rw[hl]at h;obtain⟨rfl,_,rfl⟩:=bq h;exact ahg hP hη hH hl ho
 case nilCheck p=>
  simp only[bD]at h;split at h
  ·rename_i hp;obtain⟨rfl,_,rfl⟩:=bq h;exact FG hη hH (.inl ⟨_,_,_,_,rfl⟩) hp ho
  ·rename_i hp;obtain⟨rfl,_,rfl⟩:=bq h;exact FG hη hH (.inr ⟨_,_,_,rfl⟩) hp ho
  ·cases h
 case binOp op t x y z=>
  refine aaU (t:=t) (x:=x) (y:=y) hη hH h hq (amu ?_);unfold execOp;rw[ho]
 case unOp op t x=>
  rw[amu (by unfold execOp;rw[ho])];exact ab3 hη hH h
 case convert src dst x=>
  rw[amu (by unfold execOp;rw[ho])];have hx:=hη x;have conv:(z7 P src dst (ρ x)=some (q,v,os)∧ ∀ i,v≠ .own i)∨(∃ c i os',z7 P src dst (ρ x)=some (c,.own i,os')∧(c,AV.own b,os')=(q,v,os))∨ ∃ e xs,P.underlying src=some (.slice e)∧P.underlying dst=some .string∧P.underlying e=some (.int .u8)∧gQ H .u8 (ρ x)=some xs∧v= .s (dR xs)∧os=[]:=by
   simp only[bD]at h;split at h
   ·rename_i e hs hd;split at h
    ·rename_i he;cases hx:gQ H .u8 (ρ x) with
     | none=>rw[hx]at h;cases h
     | some xs=>
      rw[hx]at h;obtain⟨rfl,_,rfl⟩:=bq h;exact .inr (.inr ⟨e,xs,hs,hd,he,rfl,rfl,rfl⟩)
    ·cases h
   ·split at h
    ·rename_i c i os' hc;exact .inr (.inl ⟨c,i,os',hc,asb h⟩)
    ·rename_i hno;exact .inl ⟨h,fun i e=>hno q i os (by rw[h,e])⟩
  have apt: ∀ e xs,gQ H .u8 (ρ x)=some xs→P.underlying src=some (.slice e)→ ∀ g w y,ρ x≠ .gd g w y:=by
   intro e xs h1 h2 g w y h3;rw[h3]at h1;simp[gQ]at h1
  have cA: ∀ q v os,z7 P src dst (ρ x)=some (q,v,os)→q=true→(∀ i,v≠ .own i)→Good B β H w b v os (((convert src dst (η x)).run P w).andThen fun u w=> .ok (.value u) w):=by
   intro q v os h hq hn;generalize ρ x=c at h hx;unfold z7 at h;split at h
   ·rename_i d k k' n alQ hd;obtain⟨rfl,_,rfl⟩:=bq h;rw[hx.lit];refine Good.same hH (u:= .int k (k.wrap n)) ?_ rfl;cases d<;>simp[convert,run_underlying alQ,run_underlying hd,Conv.intToInt]
   ·rename_i hs hd;obtain⟨rfl,_,rfl⟩:=bq h;rw[hx.lit];refine Good.same hH (u:= .string _) ?_ rfl;simp[convert,run_underlying hs,run_underlying hd]
   ·split at h
    ·simp only[aqI,arb]at h;exact absurd h.2.1.symm (hn 0)
    ·cases h
   ·cases h
  rcases conv with⟨h1,hno⟩ | ⟨c,i,os',h1,h2⟩ | ⟨e,xs,hs,hd,he,h1,rfl,rfl⟩
  ·exact cA q v os h1 hq hno
  ·cases h2;subst hq;generalize ρ x=c at h1 hx;unfold z7 at h1;split at h1
   ·cases h1
   ·cases h1
   ·rename_i e s hs hd;split at h1
    ·rename_i he;simp only[aqI,arb]at h1;obtain⟨hr,_,rfl⟩:=h1;rw[hx.lit];exact aaS hH hb hs hd he hr
    ·cases h1
   ·cases h1
  ·have hx2:R2 w β (ρ x) (η x):=hx.of (apt e xs h1 hs);refine Good.same hH (u:= .string (dR xs)) ?_ rfl;rw[acE hs he hd (abQ hH h1 hx2)];rfl
 case makeSlice t l c=>
  rw[amu (by unfold execOp;rw[ho])];have mk: ∀ n,η l= .int .i64 n→η c= .int .i64 n→((eA P t).bind fun e=>(kd e).bind fun k=>
   match zok P e k&&aqK (P.cellsOf e) (ks k)&&asa (P.bytesOf e) 256 with
   | true=>some (decide (0≤n)&&decide (n≤4294967296),AV.own b,[Ob.row e false k (aqQ n.toNat (dfl k))])
   | false=>none)=some (q,v,os)→Good B β H w b v os (((Instr.makeSlice t (η l) (η c)).run P w).andThen fun u w=> .ok (.value u) w):=by
   intro n h1 h2 h;cases he:eA P t with
   | none=>rw[he]at h;cases h
   | some e=>
    rw[he]at h;simp only[aqs]at h;cases hk:kd e with
    | none=>rw[hk]at h;cases h
    | some k=>
     rw[hk]at h;simp only[aqs]at h;split at h
     ·rename_i hc;simp only[aqt]at hc;simp only[aqI,arb]at h;obtain⟨hr,rfl,rfl⟩:=h;rw[hq]at hr;simp only[aqt,decide_eq_true_eq]at hr;rw[h1,h2];exact ac4 hH hb he hc.1.1 (aD hc.1.2) (aq1 hc.2) hr.1 hr.2
     ·cases h
  have hl:=hη l;have hc:=hη c;simp only[bD]at h;split at h
  ·rename_i n hl' akq;rw[hl']at hl;split at akq
   ·obtain rfl:=aD akq;exact mk n hl.lit hl.lit h
   ·cases akq
  ·rename_i n m hl' hc' akq;rw[hl']at hl;rw[hc']at hc;split at h
   ·rename_i hnm;obtain rfl:n=m:=by simpa using hnm
    exact mk n hl.lit hc.lit h
   ·cases h
  ·cases h
 case slice t x lo hi mx=>
  cases mx with
  | some m=>simp[bD]at h
  | none=>
   rw[amu (by unfold execOp;rw[ho])];simp only[bD]at h;split at h
   ·rename_i hf;exact ZT hη hH hf h hq
   ·cases h
 case fieldAddr t x f=>
  simp only[bD]at h;cases hf:nc P t f with
  | none=>rw[hf]at h;cases h
  | some fd=>
   rw[hf]at h;simp only[aqs]at h;split at h
   ·rename_i h1;split at h
    ·rename_i hp;obtain⟨rfl,_,rfl⟩:=bq h;exact DA hη hH hf (aq1 h1) (.inl ⟨_,_,_,_,hp,rfl⟩) ho
    ·rename_i hp;obtain⟨rfl,_,rfl⟩:=bq h;exact DA hη hH hf (aq1 h1) (.inr ⟨_,_,_,hp,rfl⟩) ho
    ·cases h
   ·cases h
 case field t x f=>
  simp only[bD]at h;cases hf:nc P t f with
  | none=>rw[hf]at h;cases h
  | some fd=>
   rw[hf]at h;simp only[aqs]at h;split at h
   ·rename_i cs hx;cases hl:uv P fd.type cs fd.offset with
    | none=>rw[hl]at h;cases h
    | some v'=>
     rw[hl]at h;obtain⟨rfl,_,rfl⟩:=bq h;exact aaC hη hH hf hx hl ho
   ·cases h
 case indexAddr t x ix=>
  rw[amu (by unfold execOp;rw[ho])];simp only[bD]at h;split at h
  ·rename_i hi;exact RA hP hη hH hi h hq
  ·cases h
 case index t x ix=>
  rw[amu (by unfold execOp;rw[ho])];simp only[bD]at h;split at h
  ·rename_i hi;exact aas hη hH hi h hq
  ·cases h
 case extract x i=>
  simp only[bD]at h;split at h
  ·rename_i vs hx;cases hv:vs[i]? with
   | none=>rw[hv]at h;cases h
   | some v'=>
    rw[hv]at h;obtain⟨rfl,_,rfl⟩:=bq h;exact W3 hη hH hx hv ho
  ·cases h
 case call c=>
  have amX: ∀ {x:Operand} {v:Value},ρ x= .lit v→η x=v:=fun {x v} e=>by have:=hη x;rw[e]at this;exact this.lit
  obtain⟨cal,⟨args⟩,⟨tys⟩⟩:=c;simp only[bD,BZ]at h;split at h
  ·rename_i x t;have run: ∀ n:Nat,(atQ #[t] o.type #[η x]).run P w= .ok (.int .i64 n) w→Good B β H w b (.i n) [] ((execOp η o).run P w):=by
    intro n hn;refine Good.same hH (u:= .int .i64 n) ?_ rfl;unfold execOp;rw[ho];simp[resolve,invoke,builtin,hn]
   split at h
   ·rename_i s hu hx;obtain⟨rfl,_,rfl⟩:=bq h;refine run _ ?_;rw[amX hx];simp[atQ,run_underlying hu,goInt]
   ·rename_i e k xs hu hx;obtain⟨rfl,_,rfl⟩:=bq h;have h1:=hη x;rw[hx]at h1;have h2:RC w β (.sl k xs) (η x):=h1;obtain⟨a,cap,hv,_⟩:=h2.an1.len;refine run _ ?_;rw[hv,Lr hu]
   ·rename_i e hu hx;obtain⟨rfl,_,rfl⟩:=bq h;refine run 0 ?_;rw[amX hx,Lr hu]
   ·rename_i e id hu hx;split at h
    ·rename_i e' fz k xs hid;obtain⟨rfl,_,rfl⟩:=bq h;have h1:=hη x;rw[hx]at h1;have h2:RC w β (.own id) (η x):=h1;obtain⟨hd,h3,h4⟩:=hH.akE id _ hid;generalize hg:η x=g at h2 run;cases h2 with
     | own h5 h6=>
      rw[h3]at h5;cases h5;obtain⟨a,cap,hv,_⟩:=h4.cells.len;refine run _ ?_;rw[hv,Lr hu]
    ·cases h
   ·rename_i n e v hu;obtain⟨rfl,_,rfl⟩:=bq h;refine run _ ?_;simp[atQ,run_underlying hu,goInt]
   ·cases h
  ·rename_i x y;split at h
   ·rename_i k a k' c hx hy;split at h
    ·rename_i hk;obtain rfl:k=k':=by simpa using hk
     obtain⟨rfl,_,rfl⟩:=bq h;refine Good.same hH (u:= .int k (if c < a then c else a)) ?_ rfl;unfold execOp;rw[ho];simp[resolve,invoke,builtin,Builtin.min_,Builtin.min2,amX hx,amX hy]
    ·cases h
   ·cases h
  ·rename_i x y;split at h
   ·rename_i k a k' c hx hy;split at h
    ·rename_i hk;obtain rfl:k=k':=by simpa using hk
     obtain⟨rfl,_,rfl⟩:=bq h;refine Good.same hH (u:= .int k (if a < c then c else a)) ?_ rfl;unfold execOp;rw[ho];simp[resolve,invoke,builtin,Builtin.max_,Builtin.max2,amX hx,amX hy]
    ·cases h
   ·cases h
  ·cases h
end
end Go.VS
namespace Go.VS
open Go
section
variable {B:ake} {β β':Beta} {stk:List (Array Value)} {s:S} {a:Act} {w w':World}
def aeZ{cs:List Value}(h:cs.all ag4=true): ∀ v∈cs,v.oneCell'=true:=fun v hv=>by
 rw[← abf];exact arp.1 h v hv
def ae0(v:Value):R2 w β (ofV v) v:=by
 unfold ofV;split
 ·rename_i cs;split
  ·rename_i h;exact⟨cs.toList,by simp,RL.lits _ (aeZ h)⟩
  ·trivial
 ·rfl
def St.eval(h:St B β stk s a w)(x:Operand):RX w β (dq a) (s.ev x) (a.eval x):=by
 cases x with
 | tmp t=>exact(h.T t).anD
 | const v=>
  have:=ae0 (w:=w) (β:=β) v;show RX w β (dq a) (ofV v) v;exact RT.anD (RT.ald this)
 | _=>trivial
def abR{l:List Nat}{t:Nat}(h:(l.any fun p=>aqK p t)=false):t ∉ l:=by
 intro hm;have:(l.any fun p=>aqK p t)=true:=asu.2 ⟨t,hm,by simp⟩;rw[h]at this;cases this
def St.put(h:St B β stk s a w){d:Option Nat}(hd:s.has d=true){v:AV}{u:Value}(hv:RT w β (dq a) v u)(hg: ∀ g want x,v= .gd g want x→s.gs g=true):St B β stk (s.put d v) (a.put d u) w:=by
 cases d with
 | none=>exact h
 | some d=>
  simp only[S.has,aqt,aro]at hd;obtain⟨⟨h1,h2⟩,h3⟩:=hd;have hlt:d < a.tmps.size:=by rw[h.n];exact arU (as5 d) (aq1 h1)
  have hp:=abR h2;have hgs:s.gs d≠true:=by rw[h3];simp
  have anZ:dq (a.put (some d) u) d=u:=by simp[dq,Act.put,hlt]
  have tne: ∀ t,t≠d→dq (a.put (some d) u) t=dq a t:=fun t ht=>by
   simp only[dq,Act.put,asT];rw[atM (fun e=>ht e.symm)]
  have rt: ∀ x y,RT w β (dq a) x y→(∀ g want z,x= .gd g want z→s.gs g=true)→RT w β (dq (a.put (some d) u)) x y:=by
   intro x y hx hx';cases x with
   | gd g want z=>
    have hne:g≠d:=fun e=>hgs (e▸hx' g want z rfl);refine⟨fun e=>hx.1 (by rwa[tne g hne]at e),fun e=>hx.2 (by rwa[tne g hne]at e)⟩
   | _=>exact hx
  refine⟨fun t=> ?_,h.stack, ?_,h.defers,fun t ht=> ?_,fun t g want x hx=> ?_,h.hs⟩
  ·show RT w β _ (upd s.T d v t) _;by_cases e:t=d
   ·subst e;rw[ax,anZ];exact rt _ _ hv hg
   ·rw[aI _ _ e,tne t e];exact rt _ _ (h.T t) (h.gs t)
  ·show(a.put (some d) u).tmps.size=s.n;simpa[Act.put] using h.n
  ·have hne:t≠d:=fun e=>hp (e▸ht);rw[tne t hne];exact h.pins t ht
  ·have hx:upd s.T d v t= .gd g want x:=hx;by_cases e:t=d
   ·subst e;rw[ax]at hx;exact hg _ _ _ hx
   ·rw[aI _ _ e]at hx;exact h.gs _ _ _ _ hx
def St.map{f:AV→AV}(h:St B β stk s a w)(hf: ∀ c,akp c=true→f c=c)(hg: ∀ c g want x,f c= .gd g want x→ ∃ y,c= .gd g want y)(hk:Kf f w β w' β'){H':Hp}(hH:Hs B β' H' w'):St B β' stk { s.map f with H:=H' } a w':=by
 have g1: ∀ c g want x,oQ f c= .gd g want x→ ∃ y,c= .gd g want y:=by
  intro c g want x e;cases c<;>first | (cases e;done) | exact hg _ _ _ _ e
 have g2: ∀ c g want x,p6 f c= .gd g want x→ ∃ y,c= .gd g want y:=by
  intro c g want x e;cases c<;>first | (cases e;done) | exact g1 _ _ _ _ e
 have g3: ∀ c g want x,vK f c= .gd g want x→ ∃ y,c= .gd g want y:=by
  intro c g want x e;cases c with
  | gd g' w' y=>cases e;exact⟨_,rfl⟩
  | _=>exact g2 _ _ _ _ e
 refine⟨fun t=>RT.map hf hk (h.T t),⟨by simpa[S.map] using h.stack.1,fun i T tm h1 h2 t=> ?_⟩,h.n,h.defers,h.pins,fun t g want x hx=> ?_,hH⟩
 ·simp only[S.map,ari,aqY]at h1;obtain⟨T0,h3,rfl⟩:=h1;exact RT.map hf hk (h.stack.2 i T0 tm h3 h2 t)
 ·obtain⟨y,hy⟩:=g3 _ _ _ _ hx;exact h.gs _ _ _ _ hy
def He(id:Nat): ∀ c g want x,kl1 id c= .gd g want x→ ∃ y,c= .gd g want y:=by
 intro c g want x h;unfold kl1 at h;split at h
 ·split at h<;>cases h
 ·split at h<;>cases h
 ·exact⟨_,h⟩
def afN(id:Nat)(k:K)(xs:List (Tof k)): ∀ c g want x,fz1 id k xs c= .gd g want x→ ∃ y,c= .gd g want y:=by
 intro c g want x h;unfold fz1 at h;split at h
 ·split at h<;>cases h
 ·split at h<;>cases h
 ·exact⟨_,h⟩
def St.keep(h:St B β stk s a w)(hk:Kp w β w' β'){H':Hp}(hH:Hs B β' H' w'):St B β' stk { s with H:=H' } a w':=
 ⟨fun t=>RT.mono hk (h.T t),⟨h.stack.1,fun i T tm h1 h2 t=>RT.mono hk (h.stack.2 i T tm h1 h2 t)⟩,h.n,h.defers,h.pins,h.gs,hH⟩
end
end Go.VS
namespace Go.VS
open Go
section
variable {P:Program} {B:ake} {β β':Beta} {H:Hp} {stk:List (Array Value)} {s:S} {a:Act} {w w':World}
def YH{o n:Nat}{cs:List AV}(h:afS o n cs=true):o+n≤cs.length∧(o=0→nop (cs.headD (.lit (.bool false)))=true):=by
 unfold afS at h;simp only[aqt,aq8]at h;exact⟨aq1 h.1,fun e=>h.2.resolve_left fun h1=>by have:=aq1 h1;omega⟩
def ad3{e:TypeId}{k:K}(h:zok P e k=true):QB P e=false:=by
 unfold zok at h;unfold QB;split at h
 ·rename_i zs hz;rw[hz];cases zs with
  | nil=>rfl
  | cons c zs=>
   cases hk:enc k (dfl k) with
   | nil=>rw[hk]at h;cases h
   | cons d ds=>
    rw[hk]at h;simp only[Wd,aqt]at h;cases c<;>first | rfl | skip
    rename_i v;cases v<;>first | rfl | skip
    rename_i q;cases q<;>first | rfl | skip
    have h1:=h.1;simp[agx]at h1
 ·cases h
def ae4{c:AV}{v:Value}(hn:nop c=true)(h:RC w β c v): ∀ a,v≠ .pointer (some a):=by
 rintro a rfl;cases h with
 | un=>cases hn
 | lit=>cases hn
 | own _ hs=>cases hs
 | ptr=>cases hn
 | ipt=>cases hn
def ahH: ∀ (k:K) (x:Tof k),(enc k x).all nop=true:=by
 intro k x;cases k<;>rfl
def Pk.setRow{g:Nat}{us cs:Array Value}{e:TypeId}{fr:Nat×Nat}(hg:w.heap[g]? =some (.cells us e fr))(h:QB P e=true→ ∀ a,us[0]? =some (.pointer (some a))→cs[0]? =some (.pointer (some a))):Pk P w (w.setRow g cs):=by
 intro b us' e' fr' a h1 h2 h3;by_cases hb:b=g
 ·subst hb;rw[hg]at h1;cases h1;exact⟨cs,_,setRow_heap w b us cs e _ hg,h h3 a h2⟩
 ·exact⟨us',fr',by rw[setRow_other w g b cs hb];exact h1,h2⟩
def Il{l ys:List Value}{p:Nat}(h:p+ys.length≤l.length){v:Value}(hv:l[0]? =some v)(h0:p=0→ys≠[]→False):((l.take p++ys++l.drop (p+ys.length)).toArray)[0]? =some v:=by
 rw[atl];by_cases hy:ys=[]
 ·subst hy;simpa using hv
 ·have hp:0 < p:=Nat.pos_of_ne_zero fun e=>h0 e hy;rw[aqP,arO (by
   have:=(aqF.1 hv).1;simp;omega),arT,aqh hp]
  exact hv
def Qf{k:K}{us:Array Value}{f:Nat}{xs:List (Tof k)}(hr: ∀ i x j c u,xs[i]? =some x→(enc k x)[j]? =some c→us[f+(i * ks k+j)]? =some u→RC w β c u)(hx:xs≠[])(hf:f=0){a:Addr}(hu:us[0]? =some (.pointer (some a))):False:=by
 subst hf;obtain⟨x,l,rfl⟩:=List.exists_cons_of_ne_nil hx;have hk:=oy k;rw[← bh k x]at hk;have hc:=hr 0 x 0 _ _ rfl (aqC hk) (by simpa using hu);exact ae4 (arp.1 (ahH k x) _ (ark hk)) hc a rfl
def Hs.setRow(h:Hs B β H w){id:Nat}{hd:Value}{n g o:Nat}(hβ:β id=some (hd,n))(ha:adr hd=some ⟨g,o,none⟩)(cs:Array Value)(ob:Ob)
  (hob:Kp w β (w.setRow g cs) β→akC B.P (w.setRow g cs) β id ob)(hpk:Pk B.P w (w.setRow g cs)):Hs B β (upd H id (some ob)) (w.setRow g cs)∧Kp w β (w.setRow g cs) β:=by
 have hm:MB β g:=⟨id,hd,n,_,hβ,ha,rfl⟩;have hk:Kp w β (w.setRow g cs) β:=fun c v x=>RC.mono (fun _ _ h=>h) (fun b o v hb hc=>by
  have hne:b≠g:=fun e=>hb (.inl (e▸hm));rw[cell_setRow_other w g cs _ hne];exact hc) (fun _ h _=>h) x
 have h1:=h.am5 (w':=w.setRow g cs) (β':=β) (f:=fun c=>c) (fun _ _=>rfl) hk (id:=id) (ob:=some ob) (fun _ _=>rfl)
  (.inr ⟨ob,hd,n,rfl,hβ,hob hk,fun a h=> .inl ⟨_,a,hβ,h,rfl⟩⟩)
  (fun j p a' e hj h2=>setRow_other w g _ cs (fun e'=>e (h.inj _ _ _ _ _ _ hj hβ h2 ha e'))) rfl rfl rfl (by simp)
  (fun b hb hO=>setRow_other w g b cs (fun e=>by
   subst e;rcases(h.old b hm).1 with h3 | h3
   ·exact hO h3
   ·omega)) rfl hpk
 rw[show(fun j=>gT (fun c=>c) (H j))=H from funext fun j=>abk _ (fun _=>rfl) _]at h1;exact⟨h1,hk⟩
def Pt{α:Type}(l:List α)(p:Nat)(ys:List α)(h:p+ys.length≤l.length)(q:Nat):
  (l.take p++ys++l.drop (p+ys.length))[q]? =if p≤q∧q < p+ys.length then ys[q - p]? else l[q]? :=by
 have ht:(l.take p).length=p:=by simp;omega
 by_cases h1:q < p
 ·rw[aqg (by omega),aqP,arO (by omega),arT,aqh h1]
 ·by_cases h2:q < p+ys.length
  ·rw[aqh ⟨by omega,h2⟩,aqP,arj (by omega),ht,arO (by omega)]
  ·rw[aqg (by omega),arj (by simp;omega),ar5];congr 1;simp only[aqD,ht];omega
def At{t:TypeId}{v:Value}{g o:Nat}{e:TypeId}{fr:Nat×Nat}{cur:Array Value}(h1:1≤P.cellsOf t)(hs:v.cells.size=P.cellsOf t)(hg:w.heap[g]? =some (.cells cur e fr))(hl:o+v.cells.size≤cur.size)
  (hfr:fr=(0,0)∨cur.size≤fr.1)(akr: ∀ u∈v.cells.toList,u.oneCell'=true):
  (atr t (.pointer (some ⟨g,o,none⟩)) v).run P w= .ok () (w.setRow g (cur.toList.take o++v.cells.toList++cur.toList.drop (o+v.cells.size)).toArray):=by
 have:=As (P:=P) g o e fr v.cells.toList 0 cur w hg (by simpa using hl) hfr akr;simp only[asB,arq]at this;simp only[atr,asD,storeVar,arY,ar8,arE,lm h1,hs,ne_eq,not_true_eq_false,if_false];rw[hs]at this;exact this
def acb(hP:P=B.P)(h:St B β stk s a w){t:TypeId}{p x:Operand}{id z o:Nat}{e:TypeId}{cs ys:List AV}(hp:s.ev p= .ptr id z 0 o)(hid:s.H id=some (.box e cs))(hx:kt (s.ev x)=some ys)
  (hy:ys.length=P.cellsOf t)(h1:1≤P.cellsOf t)(hl:o+ys.length≤cs.length)(h0:o=0→nop (cs.headD (.lit (.bool false)))=true):
  ∃ w' β',(atr t (a.eval p) (a.eval x)).run P w= .ok () w'∧St B β' stk (s.akD id (some (.box e (kV cs o ys)))) a w':=by
 have hp':=h.eval p;rw[hp]at hp';have hp':RC w β (.ptr id z 0 o) (a.eval p):=hp';have hr:=rQ hx (h.eval x);have hys:(a.eval x).cells.size=ys.length:=by have:=hr.1;simpa using this
 obtain⟨b',us,k1,k2,k3⟩:=h.hs.akE id _ hid;have hcs:us.size=cs.length:=by have:=k3.1;simpa using this
 generalize hg:a.eval p=vp at hp';cases hp' with
 | @ptr _ _ _ _ hd n bb f hβ ha hi=>
  rw[k1]at hβ;cases hβ;cases ha;have akm:=At (P:=P) (w:=w) (v:=a.eval x) (o:=o) h1 (by rw[hys,hy]) k2 (by omega) (.inl rfl) hr.one;refine⟨_,β,by rw[show(0:Nat)+(0 * z+o)=o by omega];exact akm, ?_⟩;obtain⟨g1,g2⟩:=h.hs.setRow (hpk:=Pk.setRow k2 fun _ a' hu=>by
   have hus:us.toList.length=us.size:=arq;refine Il (ys:=(a.eval x).cells.toList) (by simp;omega) (by simpa using hu) fun e1 _=> ?_;cases cs with
   | nil=>simp at hcs;simp[hcs]at hu
   | cons c cs=>exact ae4 (h0 e1) (k3.2 0 c _ rfl (by simpa using hu)) a' rfl) k1 rfl (us.toList.take o++(a.eval x).cells.toList++us.toList.drop (o+(a.eval x).cells.size)).toArray (.box e (kV cs o ys)) (fun hk=>by
   refine⟨b',_,k1,setRow_heap w b' us _ e _ k2, ?_⟩;rw[auZ];unfold kV;rw[← hys];exact(((k3.take _).append hr).append (k3.drop _)).mono hk)
  exact h.keep g2 g1
def R6{k:K}{us:List Value}{f:Nat}{xs:List (Tof k)}{i o:Nat}{y:Tof k}{ys:List AV}{vs:List Value}(hi:i < xs.length)(hsz:f+xs.length * ks k≤us.length)
  (hr: ∀ i x j c u,xs[i]? =some x→(enc k x)[j]? =some c→us[f+(i * ks k+j)]? =some u→RC w β c u)(hv:vs.length=ys.length)(ho:o+ys.length≤ks k)
  (hy: ∀ us0,RL (RC w β) (enc k (xs.getD i (dfl k))) us0→RL (RC w β) (enc k y) (us0.take o++vs++us0.drop (o+vs.length))):
  ∀ i' x j c u,(xs.set i y)[i']? =some x→(enc k x)[j]? =some c→(us.take (f+(i * ks k+o))++vs++us.drop (f+(i * ks k+o)+vs.length))[f+(i' * ks k+j)]? =some u→RC w β c u:=by
 intro i' x j c u h1 h2 h3;have hj:j < ks k:=by rw[← bh k x];exact(aqF.1 h2).1
 have hi':i' < xs.length:=by have:=(aqF.1 h1).1;simpa using this
 have e1:(i+1) * ks k≤xs.length * ks k:=ard _ hi;rw[arQ,att]at e1;have hlen:=hv;rw[Pt _ _ _ (by omega)]at h3;by_cases e:i'=i
 ·subst e;have hx:x=y:=by
   rw[atI hi]at h1;exact(asb h1).symm
  subst hx;have hold:RL (RC w β) (enc k (xs.getD i' (dfl k))) ((us.drop (f+i' * ks k)).take (ks k)):=by
   refine⟨by simp[bh];omega,fun j' c' u' g1 g2=>hr i' _ j' c' u' (getD_some hi) g1 ?_⟩;have hj':j' < ks k:=by rw[← bh k (xs.getD i' (dfl k))];exact(aqF.1 g1).1
   rw[arT,aqh hj',ar5,arw]at g2;exact g2
  have amL:=hy _ hold;refine amL.2 j c u h2 ?_;rw[Pt _ _ _ (by simp;omega)];by_cases g:o≤j∧j < o+vs.length
  ·rw[aqh g];rw[aqh (by omega)]at h3;rw[← h3];congr 1;omega
  ·rw[aqg g,arT,aqh hj,ar5];rw[aqg (by omega)]at h3;rw[← h3];congr 1;omega
 ·have hx:xs[i']? =some x:=by
   rw[List.getElem?_set_ne (fun q=>e q.symm)]at h1;exact h1
  refine hr i' x j c u hx h2 ?_;rw[aqg]at h3
  ·exact h3
  ·rcases auc e with g | g
   ·have:(i'+1) * ks k≤i * ks k:=ard _ g;rw[arQ,att]at this;omega
   ·have:(i+1) * ks k≤i' * ks k:=ard _ g;rw[arQ,att]at this;omega
def ZB(h:St B β stk s a w){t:TypeId}{p:Operand}{id i o:Nat}{e:TypeId}{fz:Bool}{k:K}{xs:List (Tof k)}{ys:List AV}{vs:Value}(hp:RC w β (.ptr id (ks k) i o) (a.eval p))(hid:s.H id=some (.row e fz k xs))
  (hys:vs.cells.size=ys.length)(akr: ∀ u∈vs.cells.toList,u.oneCell'=true)(hy:ys.length=P.cellsOf t)(h1:1≤P.cellsOf t)(hl:o+ys.length≤ks k){y:Tof k}(hd: ∀ us0,RL (RC w β) (enc k (xs.getD i (dfl k))) us0→RL (RC w β) (enc k y) (us0.take o++vs.cells.toList++us0.drop (o+vs.cells.toList.length))):
  ∃ w',(atr t (a.eval p) vs).run P w= .ok () w'∧St B β stk (s.akD id (some (.row e fz k (xs.set i y)))) a w':=by
 obtain⟨hd',k1,k2⟩:=h.hs.akE id _ hid;generalize hg:a.eval p=vp at hp;cases hp with
 | @ptr _ _ _ _ hdd n bb f hβ ha hi=>
  rw[k1]at hβ;cases hβ;rcases k2 with⟨rfl,rfl⟩ | ⟨b',f',cap,us,fr,anb,hh,hfr,hn,hc,hsz,akc⟩
  ·cases ha
  ·subst anb;have ha':(⟨b',f',none⟩:Addr)=⟨bb,f,none⟩:=asb ha;obtain⟨rfl,rfl⟩:b'=bb∧f'=f:=by simpa using ha'
   have hxc:xs.length * ks k≤cap * ks k:=ard _ hn;have hic:(i+1) * ks k≤xs.length * ks k:=ard _ hi;rw[arQ,att]at hic;have apR:fr=(0,0)∨us.size≤fr.1:=by
    subst hfr;cases fz
    ·exact .inl rfl
    ·exact .inr (aqG _)
   have akm:=At (P:=P) (w:=w) (v:=vs) (o:=f'+(i * ks k+o)) h1 (by rw[hys,hy]) hh (by omega) apR akr;refine⟨_,akm, ?_⟩;obtain⟨g1,g2⟩:=h.hs.setRow (hpk:=Pk.setRow hh fun _ a' hu=>by
    have hus:us.toList.length=us.size:=arq;exact Il (ys:=vs.cells.toList) (by simp;omega) (by simpa using hu) fun e1 _=>Qf akc (fun e2=>by subst e2;simp at hi) (by omega) hu) k1 rfl (us.toList.take (f'+(i * ks k+o))++vs.cells.toList++us.toList.drop (f'+(i * ks k+o)+vs.cells.size)).toArray (.row e fz k (xs.set i y)) (fun hk=>by
    have akg:(us.toList.take (f'+(i * ks k+o))++vs.cells.toList++us.toList.drop (f'+(i * ks k+o)+vs.cells.size)).toArray.size=us.size:=by
     simp only[asp,aqD,arm,aru,arq];omega
    refine⟨_,by simpa using k1,.inr ⟨b',f',cap,_,fr,by simp,setRow_heap w b' us _ e _ hh, ?_,by simpa using hn,hc,by rw[akg];exact hsz, ?_⟩⟩
    ·rw[akg];exact hfr
    ·intro i' x' j c u q1 q2 q3;have q3':(us.toList.take (f'+(i * ks k+o))++vs.cells.toList++us.toList.drop (f'+(i * ks k+o)+vs.cells.toList.length))[f'+(i' * ks k+j)]? =some u:=by simpa using q3
     exact hk _ _ (R6 hi (by simp;omega) (fun i x j c u a1 a2 a3=>akc i x j c u a1 a2 (by simpa using a3)) (by simpa using hys) hl hd i' x' j c u q1 q2 q3'))
   exact h.keep g2 g1
def acd(h:St B β stk s a w){t:TypeId}{p:Operand}{id i o:Nat}{e:TypeId}{k:K}{xs:List (Tof k)}{ys:List AV}{vs:Value}(hp:RC w β (.ptr id (ks k) i o) (a.eval p))(hid:s.H id=some (.arr e k xs))
  (hys:vs.cells.size=ys.length)(akr: ∀ u∈vs.cells.toList,u.oneCell'=true)(hy:ys.length=P.cellsOf t)(h1:1≤P.cellsOf t)(hl:o+ys.length≤ks k){y:Tof k}(hd: ∀ us0,RL (RC w β) (enc k (xs.getD i (dfl k))) us0→RL (RC w β) (enc k y) (us0.take o++vs.cells.toList++us0.drop (o+vs.cells.toList.length))):
  ∃ w',(atr t (a.eval p) vs).run P w= .ok () w'∧St B β stk (s.akD id (some (.arr e k (xs.set i y)))) a w':=by
 obtain⟨b',us,k1,hh,hsz,hce,akc⟩:=h.hs.akE id _ hid;generalize hg:a.eval p=vp at hp;cases hp with
 | @ptr _ _ _ _ hdd n bb f hβ ha hi=>
  rw[k1]at hβ;cases hβ;cases ha;have hic:(i+1) * ks k≤xs.length * ks k:=ard _ hi;rw[arQ,att]at hic;have akm:=At (P:=P) (w:=w) (v:=vs) (o:=0+(i * ks k+o)) h1 (by rw[hys,hy]) hh (by omega) (.inl rfl) akr;refine⟨_,akm, ?_⟩;obtain⟨g1,g2⟩:=h.hs.setRow (hpk:=Pk.setRow hh fun _ a' hu=>by
   have hus:us.toList.length=us.size:=arq;exact Il (ys:=vs.cells.toList) (by simp;omega) (by simpa using hu) fun e1 _=>Qf (f:=0) (xs:=xs) (fun i x j c u a1 a2 a3=>akc i x j c u a1 a2 (by simpa using a3)) (fun e2=>by subst e2;simp at hi) rfl hu) k1 rfl (us.toList.take (0+(i * ks k+o))++vs.cells.toList++us.toList.drop (0+(i * ks k+o)+vs.cells.size)).toArray (.arr e k (xs.set i y)) (fun hk=>by
   have akg:(us.toList.take (0+(i * ks k+o))++vs.cells.toList++us.toList.drop (0+(i * ks k+o)+vs.cells.size)).toArray.size=us.size:=by
    simp only[asp,aqD,arm,aru,arq];omega
   refine⟨b',_,by simpa using k1,setRow_heap w b' us _ e _ hh,by rw[akg];simpa using hsz,by rw[akg];exact hce, ?_⟩;intro i' x' j c u q1 q2 q3;have q3':(us.toList.take (0+(i * ks k+o))++vs.cells.toList++us.toList.drop (0+(i * ks k+o)+vs.cells.toList.length))[0+(i' * ks k+j)]? =some u:=by simpa using q3
   exact hk _ _ (R6 hi (by simp;omega) (fun i x j c u a1 a2 a3=>akc i x j c u a1 a2 (by simpa using a3)) (by simpa using hys) hl hd i' x' j c u q1 q2 q3'))
  exact h.keep g2 g1
end
end Go.VS
namespace Go.VS
open Go
section
variable {P:Program} {B:ake} {β β':Beta} {H:Hp} {stk:List (Array Value)} {s:S} {a:Act} {w w':World}
structure ako (w:World) (H:Hp) (β β':Beta) (H':Hp) (ids:List Nat):Prop where
 imm: ∀ c v,akp c=true→RC w β c v→RC w β' c v
 own: ∀ j v,j ∉ ids→RC w β (.own j) v→RC w β' (.own j) v
 ptr: ∀ j z i o v,j ∉ ids→RC w β (.ptr j z i o) v→RC w β' (.ptr j z i o) v
 fr: ∀ j v e fz k xs,j∈ids→H j=some (.row e fz k xs)→RC w β (.own j) v→RC w β' (.sl k xs) v
 row: ∀ j e fz k xs,j ∉ ids→H j=some (.row e fz k xs)→H' j=some (.row e fz k xs)
 arr: ∀ j e k xs,j ∉ ids→H j=some (.arr e k xs)→H' j=some (.arr e k xs)
 non: ∀ j,H j=none→H' j=none
def St.alZ(h:St B β stk s a w)(id:Nat): ∃ β',St B β' stk (s.freeze id) a w∧ako w s.H β β' (s.freeze id).H [id]:=by
 have gen: ∀ f:AV→AV,(∀ c,akp c=true→f c=c)→(∀ j,j≠id→f (.own j)= .own j)→(∀ j z i o,j≠id→f (.ptr j z i o)= .ptr j z i o)→(∀ e fz k xs,s.H id=some (.row e fz k xs)→f (.own id)= .sl k xs)→
   (∀ c g want x,f c= .gd g want x→ ∃ y,c= .gd g want y)→ ∀ β',Hs B β' (upd (fun j=>gT f (s.H j)) id none) w→Kf f w β w β'→s.freeze id={ s.map f with H:=upd (fun j=>gT f (s.H j)) id none } →
   ∃ β',St B β' stk (s.freeze id) a w∧ako w s.H β β' (s.freeze id).H [id]:=by
  intro f h1 h2 h3 h4 h5 β' h6 h7 h8;refine⟨β',by rw[h8];exact h.map h1 h5 h7 h6, ?_⟩;rw[h8];refine⟨fun c v hc hv=>by have:=h7 c v hv;rwa[h1 c hc]at this,fun j v hj hv=>by have:=h7 _ v hv;rwa[h2 j (by simpa using hj)]at this,
   fun j z i o v hj hv=>by have:=h7 _ v hv;rwa[h3 j z i o (by simpa using hj)]at this,fun j v e fz k xs hj hh hv=> ?_,fun j e fz k xs hj hh=> ?_,fun j e k xs hj hh=> ?_,fun j hh=> ?_⟩
  ·obtain rfl:j=id:=by simpa using hj
   have:=h7 _ v hv;rwa[h4 e fz k xs hh]at this
  ·show upd (fun j=>gT f (s.H j)) id none j=_;rw[aI _ _ (by simpa using hj),hh];rfl
  ·show upd (fun j=>gT f (s.H j)) id none j=_;rw[aI _ _ (by simpa using hj),hh];rfl
  ·show upd (fun j=>gT f (s.H j)) id none j=_;by_cases e:j=id
   ·subst e;rw[ax]
   ·rw[aI _ _ e,hh];rfl
 have kl: ∀ j,j≠id→aqK j id=false:=fun j hj=>by rw[← ar7,asH];exact hj
 cases hid:s.H id with
 | none=>
  obtain⟨β',h1,h2⟩:=h.hs.kill id;exact gen (kl1 id) (fy id) (fun j hj=>by simp[kl1,kl j hj]) (fun j z i o hj=>by simp[kl1,kl j hj]) (fun e fz k xs hh=>by rw[hid]at hh;cases hh) (He id) β' h1 h2 (by simp only[S.freeze,hid];rfl)
 | some ob=>
  cases ob with
  | row e fz k xs=>
   obtain⟨β',h1,h2⟩:=h.hs.freeze hid;exact gen (fz1 id k xs) (L7 id k xs) (fun j hj=>by simp[fz1,kl j hj]) (fun j z i o hj=>by simp[fz1,kl j hj]) (fun e fz k xs hh=>by rw[hid]at hh;cases hh;simp[fz1]) (afN id k xs) β' h1 h2 (by simp only[S.freeze,hid];rfl)
  | box e cs=>
   obtain⟨β',h1,h2⟩:=h.hs.kill id;exact gen (kl1 id) (fy id) (fun j hj=>by simp[kl1,kl j hj]) (fun j z i o hj=>by simp[kl1,kl j hj]) (fun e fz k xs hh=>by rw[hid]at hh;cases hh) (He id) β' h1 h2 (by simp only[S.freeze,hid];rfl)
  | arr e k xs=>
   obtain⟨β',h1,h2⟩:=h.hs.kill id;exact gen (kl1 id) (fy id) (fun j hj=>by simp[kl1,kl j hj]) (fun j z i o hj=>by simp[kl1,kl j hj]) (fun e fz k xs hh=>by rw[hid]at hh;cases hh) (He id) β' h1 h2 (by simp only[S.freeze,hid];rfl)
def ako.nil:ako w H β β H []:=
 ⟨fun _ _ _ h=>h,fun _ _ _ h=>h,fun _ _ _ _ _ _ h=>h,fun _ _ _ _ _ _ h=>by simp at h,fun _ _ _ _ _ _ h=>h,fun _ _ _ _ _ h=>h,fun _ h=>h⟩
def ako.cons{β'':Beta}{H' H'':Hp}{i:Nat}{ids:List Nat}(h:ako w H β β' H' [i])(k:ako w H' β' β'' H'' ids):ako w H β β'' H'' (i::ids):=by
 refine⟨fun c v hc hv=>k.imm c v hc (h.imm c v hc hv),fun j v hj hv=>k.own j v (fun e=>hj (by simp[e])) (h.own j v (fun e=>hj (by simp at e;simp[e])) hv),
  fun j z i o v hj hv=>k.ptr j z i o v (fun e=>hj (by simp[e])) (h.ptr j z i o v (fun e=>hj (by simp at e;simp[e])) hv),fun j v e fz kk xs hj hh hv=> ?_,
  fun j e fz kk xs hj hh=>k.row j e fz kk xs (fun e=>hj (by simp[e])) (h.row j e fz kk xs (fun e=>hj (by simp at e;simp[e])) hh),
  fun j e kk xs hj hh=>k.arr j e kk xs (fun e=>hj (by simp[e])) (h.arr j e kk xs (fun e=>hj (by simp at e;simp[e])) hh),fun j hh=>k.non j (h.non j hh)⟩
 by_cases e1:j=i
 ·exact k.imm _ _ rfl (h.fr j v e fz kk xs (by simp[e1]) hh hv)
 ·have h1:j ∉ [i]:=by simpa using e1
  have h2:j∈ids:=by simpa[e1] using hj
  exact k.fr j v e fz kk xs h2 (h.row j e fz kk xs h1 hh) (h.own j v h1 hv)
def St.akh: ∀ (ids:List Nat) {s:S} {β:Beta},St B β stk s a w→ ∃ β',St B β' stk (ids.foldl S.freeze s) a w∧ako w s.H β β' (ids.foldl S.freeze s).H ids
 | [],s,β,h=>⟨β,h,ako.nil⟩
 | i::ids,s,β,h=>by
  obtain⟨β1,h1,h2⟩:=h.alZ i;obtain⟨β2,h3,h4⟩:=St.akh ids h1;exact⟨β2,h3,h2.cons h4⟩
def Q(H:Hp)(w:World)(β:Beta)(c:AV)(u:Value):Prop:=(∀ v,c= .lit v→RC w β c u)∧ ∀ k l,gQ H k c=some l→RC w β (.sl k l) u
def Q.lit{v u:Value}(h:Q H w β (.lit v) u):RC w β (.lit v) u:=h.1 v rfl
def ajv:AV→Bool
 | .lit _=>true
 | _=>false
def Q.all{cs:List AV}{us:List Value}(hl:RL (Q H w β) cs us)(h:cs.all ajv=true):RL (RC w β) cs us:=by
 refine⟨hl.1,fun j c u h1 h2=> ?_⟩;have h3:=arp.1 h c (aqT h1);cases c<;>first | cases h3 | skip
 exact(hl.2 j _ u h1 h2).lit
def af9{k:K}{cs:List AV}{x:Tof k}(h:dec H k cs=some x){us:List Value}(hl:RL (Q H w β) cs us):RL (RC w β) (enc k x) us:=by
 unfold dec at h;split at h<;>try (cases h;done)
 all_goals try (cases h;exact Q.all hl rfl)
 ·rename_i x';cases hx:gQ H K.mixed x' with
  | none=>rw[hx]at h;cases h
  | some l=>
   rw[hx]at h;cases h;obtain⟨u1,_,rfl,g1,hl⟩:=hl.aj2;obtain⟨u2,_,rfl,g2,hl⟩:=hl.aj2;obtain⟨u3,_,rfl,g3,hl⟩:=hl.aj2;obtain⟨u4,_,rfl,g4,hl⟩:=hl.aj2;obtain⟨u5,_,rfl,g5,hl⟩:=hl.aj2;obtain⟨u6,_,rfl,g6,hl⟩:=hl.aj2;rw[hl.of_nil];exact .cons g1.lit (.cons g2.lit (.cons g3.lit (.cons g4.lit (.cons g5.lit (.cons (g6.2 _ _ hx) .nil)))))
 ·rename_i x' y' z';cases hx:gQ H K.note x' with
  | none=>rw[hx]at h;cases h
  | some l=>
   cases hy:gQ H K.mark y' with
   | none=>rw[hx,hy]at h;cases h
   | some m=>
    cases hz:gQ H K.note z' with
    | none=>rw[hx,hy,hz]at h;cases h
    | some n=>
     rw[hx,hy,hz]at h;cases h;obtain⟨u1,_,rfl,g1,hl⟩:=hl.aj2;obtain⟨u2,_,rfl,g2,hl⟩:=hl.aj2;obtain⟨u3,_,rfl,g3,hl⟩:=hl.aj2;obtain⟨u4,_,rfl,g4,hl⟩:=hl.aj2;obtain⟨u5,_,rfl,g5,hl⟩:=hl.aj2;obtain⟨u6,_,rfl,g6,hl⟩:=hl.aj2;rw[hl.of_nil];exact .cons g1.lit (.cons g2.lit (.cons g3.lit (.cons (g4.2 _ _ hx) (.cons (g5.2 _ _ hy) (.cons (g6.2 _ _ hz) .nil)))))
 ·rename_i x';cases hx:gQ H K.half x' with
  | none=>rw[hx]at h;cases h
  | some l=>
   rw[hx]at h;cases h;obtain⟨u1,_,rfl,g1,hl⟩:=hl.aj2;obtain⟨u2,_,rfl,g2,hl⟩:=hl.aj2;obtain⟨u3,_,rfl,g3,hl⟩:=hl.aj2;obtain⟨u4,_,rfl,g4,hl⟩:=hl.aj2;obtain⟨u5,_,rfl,g5,hl⟩:=hl.aj2;rw[hl.of_nil];exact .cons g1.lit (.cons g2.lit (.cons g3.lit (.cons g4.lit (.cons (g5.2 _ _ hx) .nil))))
def ako.Q{β0:Beta}{H':Hp}{ids:List Nat}(h:ako w H β0 β H' ids){c:AV}{u:Value}(hc: ∀ j,c= .own j→j∈ids)(hx:RC w β0 c u):VS.Q H w β c u:=by
 refine⟨fun v e=>by subst e;exact h.imm _ _ rfl hx,fun k l hl=> ?_⟩;unfold gQ at hl;split at hl
 ·obtain⟨e,rfl⟩:=fU hl;subst e;exact h.imm _ _ rfl hx
 ·cases hl;rw[hx.amm];exact .nil
 ·rename_i id _;split at hl
  ·rename_i e fz k' xs hid;obtain⟨ek,rfl⟩:=fU hl;subst ek;exact h.fr _ u e fz k' xs (hc _ rfl) hid hx
  ·cases hl
 ·cases hl
def YP{H:Hp}{β:Beta}{k:K}{x0 y:Tof k}{o:Nat}{ys:List AV}{vs us0:List Value}(hd:dec H k (kV (enc k x0) o ys)=some y)(h0:RL (RC w β) (enc k x0) us0)(hy:RL (VS.Q H w β) ys vs):
  RL (RC w β) (enc k y) (us0.take o++vs++us0.drop (o+vs.length)):=by
 have h1:RL (VS.Q H w β) (enc k x0) us0:=by
  refine⟨h0.1,fun j c u a1 a2=> ?_⟩;have hr:=h0.2 j c u a1 a2;have hn:=eO k x0 a1;refine⟨fun v e=>by subst e;exact hr,fun k' l hl=> ?_⟩;unfold gQ at hl;split at hl
  ·obtain⟨e,rfl⟩:=fU hl;subst e;exact hr
  ·cases hl;rw[hr.amm];exact .nil
  ·cases hn
  ·cases hl
 refine af9 hd ?_;unfold kV;rw[← hy.1];exact((h1.take o).append hy).append (h1.drop _)
def ZA(hP:P=B.P)(h:St B β stk s a w){t:TypeId}{p x:Operand}{s':S}(hs:o3 P t s (s.ev p) (s.ev x)=some s'):
  ∃ w' β',(atr t (a.eval p) (a.eval x)).run P w= .ok () w'∧St B β' stk s' a w':=by
 generalize hp:s.ev p=cp at hs;unfold o3 at hs;split at hs
 ·rename_i id z i o;have hpx:=h.eval p;rw[hp]at hpx;have hpr:RC w β (.ptr id z i o) (a.eval p):=hpx;split at hs
  ·rename_i e cs hid;split at hs
   ·cases hc:kt (s.ev x) with
    | none=>rw[hc]at hs;cases hs
    | some ys=>
     rw[hc]at hs;simp only[aqs]at hs;split at hs
     ·rename_i hb;simp only[aqt]at hb;cases hs;exact acb hP h hp hid hc (aD hb.1.1) (aq1 hb.1.2) (YH hb.2).1 (YH hb.2).2
     ·cases hs
   ·cases hs
  ·rename_i e fz k xs hid;cases hc:kt (s.ev x) with
   | none=>rw[hc]at hs;cases hs
   | some ys=>
    rw[hc]at hs;simp only[aqs]at hs;split at hs
    ·rename_i hb;simp only[aqt,aro]at hb;obtain⟨⟨⟨⟨b1,b2⟩,b3⟩,b4⟩,b5⟩:=hb;obtain rfl:=aD b4;have hni:=abR b5;cases hd:dec s.H k (kV (enc k (xs.getD i (dfl k))) o ys) with
     | none=>rw[hd]at hs;cases hs
     | some y=>
      rw[hd]at hs;simp only[aqs,aqI]at hs;subst hs;obtain⟨β',h1,h2⟩:=St.akh (ys.filterMap sY) h;have hr:=rQ hc (h.eval x);have hrQ:RL (VS.Q s.H w β') ys (a.eval x).cells.toList:=⟨hr.1,fun j c u g1 g2=>h2.Q (fun j' e'=>by
       subst e';exact arH.2 ⟨_,aqT g1,rfl⟩) (hr.2 j c u g1 g2)⟩
      obtain⟨w',g1,g2⟩:=ZB (P:=P) (t:=t) (p:=p) h1 (h2.ptr _ _ _ _ _ hni hpr) (h2.row _ _ _ _ _ hni hid) (by have:=hr.1;simpa using this) hr.one (aD b1) (aq1 b2) (aq1 b3)
       (fun us0 h0=>YP hd h0 hrQ)
      exact⟨w',β',g1,g2⟩
    ·cases hs
  ·rename_i e k xs hid;cases hc:kt (s.ev x) with
   | none=>rw[hc]at hs;cases hs
   | some ys=>
    rw[hc]at hs;simp only[aqs]at hs;split at hs
    ·rename_i hb;simp only[aqt]at hb;obtain⟨⟨⟨b1,b2⟩,b3⟩,b4⟩:=hb;obtain rfl:=aD b4;cases hd:dec (fun _=>none) k (kV (enc k (xs.getD i (dfl k))) o ys) with
     | none=>rw[hd]at hs;cases hs
     | some y=>
      rw[hd]at hs;simp only[aqs,aqI]at hs;subst hs;have hr:=rQ hc (h.eval x);have hrQ:RL (VS.Q (fun _=>none) w β) ys (a.eval x).cells.toList:=⟨hr.1,fun j c u g1 g2=>by
       have hx:=hr.2 j c u g1 g2;refine⟨fun v e=>by subst e;exact hx,fun k' l hl=> ?_⟩;unfold gQ at hl;split at hl
       ·obtain⟨e,rfl⟩:=fU hl;subst e;exact hx
       ·cases hl;rw[hx.amm];exact .nil
       ·cases hl
       ·cases hl⟩
      obtain⟨w',g1,g2⟩:=acd (P:=P) (t:=t) (p:=p) h hpr hid (by have:=hr.1;simpa using this) hr.one (aD b1) (aq1 b2) (aq1 b3)
       (fun us0 h0=>YP hd h0 hrQ)
      exact⟨w',β,g1,g2⟩
    ·cases hs
  ·cases hs
 ·cases hs
end
end Go.VS
namespace Go.VS
open Go
section
variable {P:Program} {B:ake} {β β':Beta} {H:Hp} {stk:List (Array Value)} {s:S} {a:Act} {w w':World}
structure Src (P:Program) (w:World) (β:Beta) (k:K) (ys:List (Tof k)) (v:Value) (news:List Value):Prop where
 len: ∀ w',(auV v).run P w'= .ok ys.length w'
 cells: ∀ w',w'.heap=w.heap→(arL (ks k) ys.length v).run P w'= .ok news.toArray w'
 rel:RL (RC w β) (ys.flatMap (enc k)) news
 aj9: ∀ n,n≤ys.length→(arL (ks k) n v).run P w= .ok (news.take (n * ks k)).toArray w
def adM{w w':World}(h:w'.heap=w.heap)(a:Addr):w'.cell? a=w.cell? a:=by simp only[at7,h]
def amk.cellsOf{k:K}{xs:List (Tof k)}{v:Value}(h:amk w β k xs v):(∃ a cap,xs=[]∧v= .slice a 0 cap)∨ ∃ b f cap,∃ us:List Value,v= .slice (some ⟨b,f,none⟩) xs.length cap∧xs.length≤cap∧RL (RC w β) (xs.flatMap (enc k)) us∧ ∀ (j:Nat) (u:Value),us[j]? =some u→w.cell? ⟨b,f+j,none⟩=some u:=by
 rcases h with⟨rfl,a,cap,rfl⟩ | ⟨b,f,cap,u,rfl,hc,hu,hr⟩
 ·exact .inl ⟨a,cap,rfl,rfl⟩
 ·have hk:=oy k;refine .inr ⟨b,f,cap,(aqW (xs.length * ks k)).map fun q=>u (q / ks k) (q % ks k),rfl,hc,⟨by rw[eu,ary,List.length_range],fun j c v h1 h2=> ?_⟩,fun j v h2=> ?_⟩
  ·simp only[ari,aqY]at h2;obtain⟨q,hq,rfl⟩:=h2;have hlt:j < xs.length * ks k:=by have:=(aqF.1 hq).1;simpa using this
   rw[arP hlt]at hq;cases hq;have hi:j / ks k < xs.length:=by rw[auE hk];exact hlt
   have hm:j % ks k < ks k:=atT _ hk;have hx:xs[j / ks k]? =some xs[j / ks k]:=by simp[hi]
   refine hr _ _ _ _ hx ?_;rw[← JS hx hm,Nat.mul_comm,Nat.div_add_mod];exact h1
  ·simp only[ari,aqY]at h2;obtain⟨q,hq,rfl⟩:=h2;have hlt:j < xs.length * ks k:=by have:=(aqF.1 hq).1;simpa using this
   rw[arP hlt]at hq;cases hq;have hi:j / ks k < xs.length:=by rw[auE hk];exact hlt
   have hm:j % ks k < ks k:=atT _ hk;have:=hu _ _ hi hm;rw[Nat.mul_comm,Nat.div_add_mod]at this;exact this
def XI(hH:Hs B β H w){k:K}{c:AV}{v:Value}{ys:List (Tof k)}(h:P1 H k c=some ys)(hx:R2 w β c v): ∃ news,Src P w β k ys v news:=by
 unfold P1 at h;split at h
 ·rename_i s;split at h
  ·cases h;have hv:v= .string s:=hx;subst hv;have hlen:(aH s).length=s.size:=by rw[aH,ary,arq];rfl
   refine⟨s.data.toList.map fun b=>Value.int .u8 b.toNat,fun w'=>by rw[hlen];rfl,fun w' _=> ?_, ?_,fun n hn=> ?_⟩
   ·rw[hlen];simp only[arL,ar8];congr 1;apply Array.ext';have:(s.extract 0 s.size).data=s.data:=by
     simp only[atJ];rw[show s.size=s.data.size from rfl,Array.extract_size]
    rw[this];simp
   ·refine⟨by rw[eu,hlen,ary,arq];simp[ks],fun j c u h1 h2=> ?_⟩;simp only[ari,aqY]at h2;obtain⟨y,hy,rfl⟩:=h2;have hx:(aH s)[j]? =some (y.toNat:Int):=by simp[aH,hy]
    have:=JS (k:= .u8) hx (j:=0) (by decide);rw[show j * ks .u8+0=j by simp[ks],h1]at this;cases this;exact .lit rfl
   ·simp only[arL,ar8];congr 1;apply Array.ext';simp[atJ,ks]
  ·cases h
 ·rcases(abQ hH h hx).cellsOf with⟨a,cap,rfl,rfl⟩ | ⟨b,f,cap,us,rfl,hc,hr,hu⟩
  ·refine⟨[],fun w'=>rfl,fun w' _=> ?_, ?_,fun n hn=> ?_⟩
   ·cases a with
    | none=>rfl
    | some a=>simp[arL,loadCells,loadCellsFrom]
   ·exact RL.nil
   ·obtain rfl:n=0:=by simpa using hn
    cases a with
    | none=>simp[arL]
    | some a=>simp[arL,loadCells,loadCellsFrom]
  ·refine⟨us,fun w'=>rfl,fun w' hw=> ?_,hr,fun n hn=> ?_⟩;have hl:us.length=ys.length * ks k:=by rw[hr.1,eu]
   exact run_firstCells_some w' (ks k) _ ⟨b,f,none⟩ _ cap us hl (fun j u hj=>by rw[asg,adM hw];exact hu j u hj);have hl:us.length=ys.length * ks k:=by rw[hr.1,eu]
   have hle:n * ks k≤ys.length * ks k:=ard _ hn;exact run_firstCells_some w (ks k) n ⟨b,f,none⟩ _ cap (us.take (n * ks k)) (by simp;omega) (fun j u hj=>by
    rw[asg];rw[arT]at hj;split at hj
    ·exact hu j u hj
    ·cases hj)
def x8{t u ty e:TypeId}{d:TypeDesc}{i:TypeInfo}(ht:P.underlying t=some (.slice e))(hu:P.underlying u=some d)(hd:d= .string∨ ∃ e',d= .slice e')(hi:P.info? e=some i){base:Option Addr}{sLen sCap n:Nat}{v:Value}{news:List Value}
  (hl: ∀ w',(auV v).run P w'= .ok n w')(hf: ∀ w',w'.heap=w.heap→(arL i.size n v).run P w'= .ok news.toArray w')(hn:sLen+n≤sCap){w':World}
  (hst: ∀ a,base=some a→(storeCells (a.add (sLen * i.size)) news).run P w= .ok () w')(hno:base=none→w'=w):
  (asy #[t,u] ty #[.slice base sLen sCap,v]).run P w= .ok (.slice base (sLen+n) sCap) w':=by
 have h1:=hl w;have h2:=hf w rfl;cases base with
 | none=>
  obtain rfl:=hno rfl;rcases hd with rfl | ⟨e',rfl⟩<;>simp[asy,run_underlying ht,run_underlying hu,sizeOf,typeInfo,hi,h1,hn,h2]
 | some a=>
  have h3:=hst a rfl;rcases hd with rfl | ⟨e',rfl⟩<;>simp[asy,run_underlying ht,run_underlying hu,sizeOf,typeInfo,hi,h1,hn,h2,h3]
def CS{t u ty e:TypeId}{d:TypeDesc}{i:TypeInfo}{z:Value}(ht:P.underlying t=some (.slice e))(hu:P.underlying u=some d)(hd:d= .string∨ ∃ e',d= .slice e')(hi:P.info? e=some i)(hz:i.zero=some z){base:Option Addr}{sLen sCap n:Nat}{v:Value}{news olds:List Value}
  (hl: ∀ w',(auV v).run P w'= .ok n w')(hf: ∀ w',w'.heap=w.heap→(arL i.size n v).run P w'= .ok news.toArray w')(hn:sCap < sLen+n)(h63:((sLen+n:Nat):Int)≤9223372036854775807)(alE:atU (sLen+n) sCap * i.bytes≤281474976710656)
  (ho:(arL i.size sLen (.slice base sLen sCap)).run P w.drew= .ok olds.toArray w.drew):
  (asy #[t,u] ty #[.slice base sLen sCap,v]).run P w= .ok (.slice (some ⟨w.heap.size,0,none⟩) (sLen+n) (grownCap w (sLen+n) sCap e))
    (w.drew.alloc (.cells (olds.toArray++news.toArray++asq z.cells (grownCap w (sLen+n) sCap e - (sLen+n))) e)):=by
 have hn': ¬ (sLen+n≤sCap):=by omega
 have ap1: ¬ (9223372036854775807 < ((sLen:Int)+(n:Int))):=by omega
 have ap2: ¬ (281474976710656 < atU (sLen+n) sCap * i.bytes):=by omega
 have h1:=hl w;have h2:=hf w.drew rfl;rcases hd with rfl | ⟨e',rfl⟩<;>(simp[asy,run_underlying ht,run_underlying hu,sizeOf,typeInfo,zeroValue,hi,hz,h1,hn',ap1,ap2,Question.forced,h2,ho,newRow,grownCap];try (congr 2;apply Array.ext';simp[aqP]))
def Hs.als(h:Hs B β H w){id:Nat}{hd0:Value}{n0:Nat}(hβ:β id=some (hd0,n0))(ob:Ob)(hd:Value)(n:Nat)
  (hos:w'.os=w.os)(akL:w'.tape=w.tape)(akV:w'.output=w.output)(akg:w.heap.size≤w'.heap.size)
  (hold: ∀ j,j < w.heap.size→(∀ a,adr hd0=some a→j≠a.block)→w'.heap[j]? =w.heap[j]?)
  (ha: ∀ a,adr hd=some a→(∃ a0,adr hd0=some a0∧a0.block=a.block)∨(w.heap.size≤a.block∧a.block < w'.heap.size))
  (hob: ∀ β',β' id=some (hd,n)→Kf (kl1 id) w β w' β'→akC B.P w' β' id ob)(hpk:Pk B.P w w'):
  ∃ β',Hs B β' (upd (fun j=>gT (kl1 id) (H j)) id (some ob)) w'∧Kf (kl1 id) w β w' β'∧β' id=some (hd,n):=by
 have hM: ∀ b,MB (β.up id (some (hd,n))) b→MB β b∨w.heap.size≤b:=by
  rintro b ⟨j,hd',n',a',hj,ha',hb⟩;by_cases e:j=id
  ·subst e;rw[Beta.akK]at hj;cases hj;rcases ha a' ha' with⟨a0,h1,h2⟩ | h1
   ·exact .inl ⟨j,hd0,n0,a0,hβ,h1,h2.trans hb⟩
   ·exact .inr (hb▸h1.1)
  ·rw[Beta.ak5 _ _ e]at hj;exact .inl ⟨j,hd',n',a',hj,ha',hb⟩
 have hk:Kf (kl1 id) w β w' (β.up id (some (hd,n))):=Kf.kill (fun j e=>aI _ _ e)
  (fun b o v hb hc=>by
   rw[atP (w:=w) (w':=w') (hold b (atD w _ hc) (fun a0 h0 e=>hb (.inl ⟨id,hd0,n0,a0,hβ,h0,e.symm⟩)))];exact hc)
  (fun b hb hlt hm=>by
   rcases hm with hm | hm
   ·rcases hM b hm with h1 | h1
    ·exact hb (.inl h1)
    ·omega
   ·exact hb (.inr hm))
 refine⟨β.up id (some (hd,n)), ?_,hk,ax _ _ _⟩;refine h.am5 (fy id) hk (fun j e=>aI _ _ e)
  (.inr ⟨ob,hd,n,rfl,ax _ _ _,hob _ (ax _ _ _) hk,fun a h2=> ?_⟩)
  (fun j p a e hj h2=>hold _ (h.old _ ⟨j,p.1,p.2,a,hj,h2,rfl⟩).2 (fun a0 h0 e'=>e (h.inj _ _ _ _ _ _ hj hβ h2 h0 e'))) hos akL akV akg (fun b hb hO=>hold b (arU hb h.size) (fun a0 h0 e=> ?_)) rfl hpk
 ·rcases ha a h2 with⟨a0,h3,h4⟩ | h3
  ·exact .inl ⟨_,a0,hβ,h3,h4⟩
  ·exact .inr h3
 ·rcases(h.old a0.block ⟨id,hd0,n0,a0,hβ,h0,rfl⟩).1 with h3 | h3
  ·exact hO (e▸h3)
  ·omega
def ajx{anG cap bytes:Nat}(h:cap < anG)(hn:anG≤4294967296)(hb:bytes≤256):atU anG cap * bytes≤281474976710656:=by
 refine growslice_fits h ?_;have:anG * bytes≤4294967296 * 256:=auD hn hb;omega
def aaZ(z:Array Value)(n:Nat):(asq z n).size=n * z.size:=by simp[asq]
def Pm(hP:P=B.P)(hH:Hs B β H w){b:Nat}(hb:H b=none){t u ty e:TypeId}{k:K}{d:TypeDesc}{v:Value}{ys:List (Tof k)}{news:List Value}(ht:P.underlying t=some (.slice e))(hu:P.underlying u=some d)(hd:d= .string∨ ∃ e',d= .slice e')
  (hz:zok P e k=true)(hc:P.cellsOf e=ks k)(hby:P.bytesOf e≤256)(hs:Src P w β k ys v news)(hr:ys.length≤4294967296):
  ∃ u' w' β',(asy #[t,u] ty #[.slice none 0 0,v]).run P w= .ok u' w'∧Hs B β' (upd H b (some (.row e false k ys))) w'∧Kp w β w' β'∧RC w' β' (.own b) u':=by
 obtain⟨i,z,hi,hz',hzs,_⟩:=Pn hz;rw[qX hi]at hc;rw[A7 hi]at hby;by_cases h0:ys=[]
 ·subst h0;have akm:=x8 (P:=P) (w:=w) (ty:=ty) (base:=none) (sLen:=0) (sCap:=0) (n:=0) (v:=v) (news:=news) (w':=w) ht hu hd hi hs.len (by rw[hc];exact hs.cells) (by omega) (fun a h=>by cases h) (fun _=>rfl);obtain⟨β',h1,h2,h3⟩:=hH.grow (w':=w) hb (.row e false k []) (.slice none 0 0) 0 rfl rfl rfl (aqG _) (fun _ _=>rfl) (fun a h=>by cases h) (fun β' hβ hk=>⟨_,hβ,.inl ⟨rfl,rfl⟩⟩);exact⟨_,_,β',akm,h1,h2,.own h3 rfl⟩
 ·have aoe:0 < ys.length:=by cases ys with
   | nil=>exact absurd rfl h0
   | cons y l=>simp
  have akm:=CS (P:=P) (w:=w) (ty:=ty) (base:=none) (sLen:=0) (sCap:=0) (n:=ys.length) (v:=v) (news:=news) (olds:=[]) ht hu hd hi hz' hs.len (by rw[hc];exact hs.cells) (by omega) (by omega) (ajx (by omega) (by omega) hby) (by simp[arL]);have hn:news.length=ys.length * ks k:=by rw[hs.rel.1,eu]
  rw[arI]at akm;have hge:=grownCap_ge w ys.length 0 e;have hm:=grownCap_le_maxLen w ys.length 0 e (ara hr (by decide));have hob: ∀ β',β' b=some (ava (some ⟨w.heap.size,0,none⟩) ys.length (grownCap w ys.length 0 e),ys.length)→Kp w β (w.drew.alloc (.cells (([]:List Value).toArray++news.toArray++asq z.cells (grownCap w ys.length 0 e - ys.length)) e)) β'→
    akC B.P (w.drew.alloc (.cells (([]:List Value).toArray++news.toArray++asq z.cells (grownCap w ys.length 0 e - ys.length)) e)) β' b (.row e false k ys):=by
   intro β' hβ hk;refine⟨_,hβ,.inr ⟨w.heap.size,0,_,_,_,rfl,heap_alloc_new w.drew _,rfl,hge,hm, ?_,fun i x j c u a1 a2 a3=> ?_⟩⟩
   ·simp only[atF,aaZ,hzs,asp,hn,aq0];rw[auw];have:ys.length * ks k≤grownCap w ys.length 0 e * ks k:=ard _ hge;omega
   ·have hj:j < ks k:=by rw[← bh k x];exact(aqF.1 a2).1
    have hi':i < ys.length:=(aqF.1 a1).1;have hlt:i * ks k+j < news.length:=by rw[hn];exact ln hi' hj
    refine hk _ _ (zH hs.rel i x j c u a1 a2 ?_);rw[asj (by simp;omega)]at a3;simpa using a3
  obtain⟨β',h1,h2,h3⟩:=hH.grow (w':=w.drew.alloc (.cells (([]:List Value).toArray++news.toArray++asq z.cells (grownCap w ys.length 0 e - ys.length)) e)) hb (.row e false k ys) (.slice (some ⟨w.heap.size,0,none⟩) ys.length (grownCap w ys.length 0 e)) ys.length rfl rfl rfl (by simp)
   (fun j hj=>heap_alloc_old w.drew _ hj) (fun a ha=>by cases ha;simp) hob
  exact⟨_,_,β',akm,h1,h2,.own h3 rfl⟩
def Pl(hP:P=B.P)(hH:Hs B β H w){id:Nat}{t u ty e:TypeId}{k:K}{d:TypeDesc}{v hd:Value}{xs ys:List (Tof k)}{news:List Value}(hid:H id=some (.row e false k xs))(hb:RC w β (.own id) hd)
  (ht:P.underlying t=some (.slice e))(hu:P.underlying u=some d)(hd':d= .string∨ ∃ e',d= .slice e')
  (hz:zok P e k=true)(hc:P.cellsOf e=ks k)(hby:P.bytesOf e≤256)(hs:Src P w β k ys v news)(hr:xs.length+ys.length≤4294967296):
  ∃ u' w' β',(asy #[t,u] ty #[hd,v]).run P w= .ok u' w'∧Hs B β' (upd (fun j=>gT (kl1 id) (H j)) id (some (.row e false k (xs++ys)))) w'∧Kf (kl1 id) w β w' β'∧RC w' β' (.own id) u':=by
 obtain⟨i,z,hi,hz',hzs,_⟩:=Pn hz;rw[qX hi]at hc;rw[A7 hi]at hby;obtain⟨hd0,k1,k2⟩:=hH.akE id _ hid;cases hb with
 | own k3 k4=>
 rw[k1]at k3;cases k3;have hn:news.length=ys.length * ks k:=by rw[hs.rel.1,eu]
 have hkp:=oy k;have grow: ∀ (base:Option Addr) (cap:Nat) (olds:List Value),hd= .slice base xs.length cap→cap < xs.length+ys.length→RL (RC w β) (xs.flatMap (enc k)) olds→
   (arL i.size xs.length (.slice base xs.length cap)).run P w.drew= .ok olds.toArray w.drew→
   ∃ u' w' β',(asy #[t,u] ty #[hd,v]).run P w= .ok u' w'∧Hs B β' (upd (fun j=>gT (kl1 id) (H j)) id (some (.row e false k (xs++ys)))) w'∧Kf (kl1 id) w β w' β'∧RC w' β' (.own id) u':=by
  intro base cap olds he alm hold hfc;have akm:=CS (P:=P) (w:=w) (ty:=ty) (base:=base) (sLen:=xs.length) (sCap:=cap) (n:=ys.length) (v:=v) (news:=news) (olds:=olds) ht hu hd' hi hz' hs.len (by rw[hc];exact hs.cells) alm (by omega) (ajx alm hr hby) hfc;have hge:=grownCap_ge w (xs.length+ys.length) cap e;have hm:=grownCap_le_maxLen w (xs.length+ys.length) cap e (ara hr (by decide));have ho:olds.length=xs.length * ks k:=by rw[hold.1,eu]
  have alF:RL (RC w β) ((xs++ys).flatMap (enc k)) (olds++news):=by rw[au0];exact hold.append hs.rel
  have hob: ∀ β',β' id=some (ava (some ⟨w.heap.size,0,none⟩) (xs.length+ys.length) (grownCap w (xs.length+ys.length) cap e),xs.length+ys.length)→Kf (kl1 id) w β (w.drew.alloc (.cells (olds.toArray++news.toArray++asq z.cells (grownCap w (xs.length+ys.length) cap e - (xs.length+ys.length))) e)) β'→
    akC B.P (w.drew.alloc (.cells (olds.toArray++news.toArray++asq z.cells (grownCap w (xs.length+ys.length) cap e - (xs.length+ys.length))) e)) β' id (.row e false k (xs++ys)):=by
   intro β' hβ hk;refine⟨_,by rw[hβ,aqD],.inr ⟨w.heap.size,0,_,_,_,by rw[aqD],heap_alloc_new w.drew _,rfl,by rw[aqD];exact hge,hm, ?_,fun i x j c u a1 a2 a3=> ?_⟩⟩
   ·simp only[atF,aaZ,hzs,asp,hn,ho];rw[auw];have h1:(xs.length+ys.length) * ks k≤grownCap w (xs.length+ys.length) cap e * ks k:=ard _ hge;rw[arQ]at h1 ⊢;omega
   ·have hj:j < ks k:=by rw[← bh k x];exact(aqF.1 a2).1
    have hi':i < xs.length+ys.length:=by have:=(aqF.1 a1).1;simpa using this
    have hlt:i * ks k+j < (xs.length+ys.length) * ks k:=ln hi' hj;rw[arQ]at hlt;have h2:=hk _ _ (zH alF i x j c u a1 a2 (by
     rw[asj (by simp;omega)]at a3;simpa using a3))
    rwa[fy id c (eO k x a2)]at h2
  obtain⟨β',h1,h2,h3⟩:=hH.als (hpk:=Pk.old fun j hj=>by first | exact heap_alloc_old w.drew _ hj | exact heap_alloc_old w.drew _ _ hj) (w':=w.drew.alloc (.cells (olds.toArray++news.toArray++asq z.cells (grownCap w (xs.length+ys.length) cap e - (xs.length+ys.length))) e)) k1 (.row e false k (xs++ys)) (.slice (some ⟨w.heap.size,0,none⟩) (xs.length+ys.length) (grownCap w (xs.length+ys.length) cap e)) (xs.length+ys.length) rfl rfl rfl (by simp)
   (fun j hj _=>heap_alloc_old w.drew _ hj) (fun a ha=>by cases ha;right;simp) hob
  exact⟨_,_,β',by rw[he];exact akm,h1,h2,.own h3 rfl⟩
 rcases k2 with⟨rfl,rfl⟩ | ⟨b,f,cap,us,fr,rfl,hh,hfr,hnc,hcm,hsz,akc⟩
 ·by_cases h0:ys=[]
  ·subst h0;have akm:=x8 (P:=P) (w:=w) (ty:=ty) (base:=none) (sLen:=0) (sCap:=0) (n:=0) (v:=v) (news:=news) (w':=w) ht hu hd' hi hs.len (by rw[hc];exact hs.cells) (by omega) (fun a h=>by cases h) (fun _=>rfl);obtain⟨β',h1,h2,h3⟩:=hH.als (hpk:=Pk.refl _ _) (w':=w) k1 (.row e false k ([]++[])) (.slice none 0 0) 0 rfl rfl rfl (aqG _) (fun _ _ _=>rfl) (fun a h=>by cases h) (fun β' hβ hk=>⟨_,hβ,.inl ⟨rfl,rfl⟩⟩);exact⟨_,_,β',akm,h1,h2,.own h3 rfl⟩
  ·have aoe:0 < ys.length:=by cases ys with
    | nil=>exact absurd rfl h0
    | cons y l=>simp
   exact grow none 0 [] rfl (by simp;omega) RL.nil (by simp[arL])
 ·have hsl:amk w β k xs (.slice (some ⟨b,f,none⟩) xs.length cap):=aki.cells (e:=e) (fz:=false) (.inr ⟨b,f,cap,us,fr,rfl,hh,hfr,hnc,hcm,hsz,akc⟩);by_cases alE:xs.length+ys.length≤cap
  ·have alm:(xs.length+ys.length) * ks k≤cap * ks k:=ard _ alE;rw[arQ]at alm;have akr: ∀ u∈news,u.oneCell'=true:=hs.rel.one;have hst:=As (P:=P) b (f+xs.length * ks k) e fr news 0 us w hh (by rw[hn];omega) (.inl (by rw[hfr];rfl)) akr;simp only[asB]at hst;have akm:=x8 (P:=P) (w:=w) (ty:=ty) (base:=some ⟨b,f,none⟩) (sLen:=xs.length) (sCap:=cap) (n:=ys.length) (v:=v) (news:=news) ht hu hd' hi hs.len (by rw[hc];exact hs.cells) alE
    (fun a h=>by cases h;rw[hc,asg];exact hst) (fun h=>by cases h)
   have hob: ∀ β',β' id=some (ava (some ⟨b,f,none⟩) (xs.length+ys.length) cap,xs.length+ys.length)→Kf (kl1 id) w β (w.setRow b (us.toList.take (f+xs.length * ks k)++news++us.toList.drop (f+xs.length * ks k+news.length)).toArray) β'→
     akC B.P (w.setRow b (us.toList.take (f+xs.length * ks k)++news++us.toList.drop (f+xs.length * ks k+news.length)).toArray) β' id (.row e false k (xs++ys)):=by
    intro β' hβ hk;have akg:(us.toList.take (f+xs.length * ks k)++news++us.toList.drop (f+xs.length * ks k+news.length)).toArray.size=us.size:=by
     simp only[asp,aqD,arm,aru,arq];omega
    refine⟨_,by rw[hβ,aqD],.inr ⟨b,f,cap,_,fr,by rw[aqD],setRow_heap w b us _ e _ hh,by rw[hfr];rfl,by rw[aqD];exact alE,hcm,by rw[akg];exact hsz,fun i x j c u a1 a2 a3=> ?_⟩⟩;have hj:j < ks k:=by rw[← bh k x];exact(aqF.1 a2).1
    have hi':i < xs.length+ys.length:=by have:=(aqF.1 a1).1;simpa using this
    have a3':(us.toList.take (f+xs.length * ks k)++news++us.toList.drop (f+xs.length * ks k+news.length))[f+(i * ks k+j)]? =some u:=by simpa using a3
    have hsp:f+xs.length * ks k+news.length≤us.toList.length   :=by
     have:us.toList.length=us.size:=arq;rw[hn];omega
    rw[Pt _ _ _ hsp]at a3';have h2:RC w β c u:=by
     by_cases hx:i < xs.length
     ·have h3:=ln hx hj;rw[aqg (by omega)]at a3';rw[arO hx]at a1;exact akc i x j c u a1 a2 (by simpa using a3')
     ·have h3:xs.length * ks k≤i * ks k:=ard _ (by omega);have h4:i * ks k+j < (xs.length+ys.length) * ks k:=ln hi' hj;rw[arQ]at h4;rw[aqh (by omega)]at a3';rw[arj (by omega)]at a1;refine zH hs.rel (i - xs.length) x j c u a1 a2 ?_;rw[← a3',auw];congr 1;omega
    have h5:=hk _ _ h2;rwa[fy id c (eO k x a2)]at h5
   obtain⟨β',h1,h2,h3⟩:=hH.als (hpk:=Pk.setRow hh fun hn=>by rw[← hP,ad3 hz]at hn;cases hn) (w':=w.setRow b (us.toList.take (f+xs.length * ks k)++news++us.toList.drop (f+xs.length * ks k+news.length)).toArray) k1 (.row e false k (xs++ys)) (.slice (some ⟨b,f,none⟩) (xs.length+ys.length) cap) (xs.length+ys.length) rfl rfl rfl (by simp)
    (fun j hj hne=>setRow_other w b j _ (fun e=>hne _ rfl e)) (fun a ha=>by cases ha;exact .inl ⟨_,rfl,rfl⟩) hob
   exact⟨_,_,β',akm,h1,h2,.own h3 rfl⟩
  ·rcases hsl.cellsOf with⟨a,anR,rfl,he⟩ | ⟨b',f',anR,us',he,_,alG,hcl⟩
   ·cases he;exact grow (some ⟨b,f,none⟩) cap [] rfl (by omega) RL.nil (by simp[arL,loadCells,loadCellsFrom])
   ·cases he;exact grow (some ⟨b,f,none⟩) cap us' rfl (by omega) alG (run_firstCells_some w.drew i.size _ ⟨b,f,none⟩ _ cap us' (by rw[hc,alG.1,eu]) (fun j u hj=>by rw[asg];exact hcl j u hj))
end
end Go.VS
namespace Go.VS
open Go
section
variable {P:Program} {B:ake} {β β':Beta} {H:Hp} {stk:List (Array Value)} {s:S} {a:Act} {w w':World} {kd:TypeId→Option K}
def U4{k:K}{c:AV}{ys:List (Tof k)}(h:P1 H k c=some ys): ∀ g w x,c≠ .gd g w x:=by
 intro g w x e;subst e;simp[P1,gQ]at h
def agQ(s:S)(id:Nat)(ob:Option Ob):s.akD id ob={ s with H:=upd s.H id ob } :=rfl
def Zn(hP:P=B.P)(h:St B β stk s a w){b:Nat}(hb:s.H b=none){t u ty:TypeId}{x y:Operand}{q:Bool}{v:AV}{s':S}(hs:q8 P kd t u s b (s.ev x) (s.ev y)=some (q,v,s'))(hq:q=true):
  ∃ u' w' β',(asy #[t,u] ty #[a.eval x,a.eval y]).run P w= .ok u' w'∧St B β' stk s' a w'∧R2 w' β' v u'∧s'.gs=s.gs∧s'.n=s.n∧s'.pins=s.pins:=by
 subst hq;unfold q8 at hs;cases he:eA P t with
 | none=>rw[he]at hs;cases hs
 | some e=>
 rw[he]at hs;simp only[aqs]at hs;cases hk:kd e with
 | none=>rw[hk]at hs;cases hs
 | some k=>
 rw[hk]at hs;simp only[aqs]at hs;cases hy:P1 s.H k (s.ev y) with
 | none=>rw[hy]at hs;cases hs
 | some ys=>
 rw[hy]at hs;simp only[aqs]at hs;have hy2:R2 w β (s.ev y) (a.eval y):=(h.eval y).of (U4 hy);obtain⟨news,alQ⟩:=XI (P:=P) h.hs hy hy2;have ht:=pR he;have conds: ∀ c:Bool,(aqK (P.cellsOf e) (ks k)&&asa (P.bytesOf e) 256&&zok P e k&&c)=true→P.cellsOf e=ks k∧P.bytesOf e≤256∧zok P e k=true∧c=true:=by
  intro c hc;simp only[aqt]at hc;exact⟨aD hc.1.1.1,aq1 hc.1.1.2,hc.1.2,hc.2⟩
 have ud:(match P.underlying u with | some .string=>true | some (.slice _)=>true | _=>false)=true→ ∃ d,P.underlying u=some d∧(d= .string∨ ∃ e',d= .slice e'):=by
  intro hc;split at hc
  ·rename_i hu;exact⟨_,hu,.inl rfl⟩
  ·rename_i e' hu;exact⟨_,hu,.inr ⟨e',rfl⟩⟩
  ·cases hc
 have hx:=h.eval x;split at hs
 ·rename_i cx hc hcx;rw[hcx]at hx;obtain⟨c1,c2,c3,c4⟩:=conds _ hc;obtain⟨d,hu,hd⟩:=ud c4;simp only[aqI,arb]at hs;obtain⟨hr,rfl,rfl⟩:=hs;simp only[al,decide_eq_true_eq]at hr;obtain⟨u',w',β',g1,g2,g3,g4⟩:=Pm (ty:=ty) hP h.hs hb ht hu hd c3 c1 c2 alQ hr;rw[hx.lit];exact⟨u',w',β',g1,h.keep g3 g2,g4,rfl,rfl,rfl⟩
 ·rename_i cx id hc hcx;rw[hcx]at hx;have hx:RC w β (.own id) (a.eval x):=hx;obtain⟨c1,c2,c3,c4⟩:=conds _ hc;obtain⟨d,hu,hd⟩:=ud c4;split at hs
  ·rename_i e' k' xs hid hne;split at hs
   ·rename_i hee;obtain rfl:=aD hee;cases amQ:z8 k' k xs with
    | none=>rw[amQ]at hs;cases hs
    | some xs'=>
     rw[amQ]at hs;obtain⟨ek,rfl⟩:=fU amQ;subst ek;simp only[aqs,aqI,arb]at hs;obtain⟨hr,rfl,rfl⟩:=hs;simp only[al,decide_eq_true_eq]at hr;obtain⟨u',w',β',g1,g2,g3,g4⟩:=Pl (ty:=ty) hP h.hs hid hx ht hu hd c3 c1 c2 alQ hr;exact⟨u',w',β',g1,h.map (fy id) (He id) g3 g2,g4,rfl,rfl,rfl⟩
   ·cases hs
  ·cases hs
 ·cases hs
def adK(hP:P=B.P)(h:St B β stk s a w){t u ty:TypeId}{x y:Operand}{v:AV}{s':S}(hs:Gm P t s (s.ev x) (s.ev y)=some (v,s')):
  ∃ u' w' β',(auW #[t,u] ty #[a.eval x,a.eval y]).run P w= .ok u' w'∧St B β' stk s' a w'∧R2 w' β' v u'∧s'.gs=s.gs∧s'.n=s.n∧s'.pins=s.pins:=by
 unfold Gm at hs;have hx:=h.eval x;split at hs
 ·rename_i cx id hcx;rw[hcx]at hx;have hx:RC w β (.own id) (a.eval x):=hx;split at hs
  ·rename_i e fz k xs hid hne;cases he:eA P t with
   | none=>rw[he]at hs;cases hs
   | some e'=>
    rw[he]at hs;simp only[aqs]at hs;split at hs
    ·rename_i hc;have hc:=aD hc;cases hy:P1 s.H k (s.ev y) with
     | none=>rw[hy]at hs;cases hs
     | some ys=>
      rw[hy]at hs;simp only[aqs,aqI,arb]at hs;obtain⟨rfl,rfl⟩:=hs;have hy2:R2 w β (s.ev y) (a.eval y):=(h.eval y).of (U4 hy);obtain⟨news,alQ⟩:=XI (P:=P) h.hs hy hy2;have ht:=pR he;have hk:=oy k;have hn:news.length=ys.length * ks k:=by rw[alQ.rel.1,eu]
      obtain⟨hd,k1,k2⟩:=h.hs.akE id _ hid;generalize hg:a.eval x=vx at hx;cases hx with
      | own k3 k4=>
      rw[k1]at k3;cases k3;have hfc:=alQ.aj9 (asl ys.length xs.length) (Nat.min_le_left _ _);have hlen:=alQ.len w;rcases k2 with⟨rfl,rfl⟩ | ⟨b,f,cap,us,fr,rfl,hh,hfr,hnc,hcm,hsz,akc⟩
      ·refine⟨.int .i64 (asl ys.length 0:Nat),w,β, ?_, ?_,rfl,rfl,rfl,rfl⟩
       ·have hfc:=alQ.aj9 0 (arB _);simp[auW,run_underlying ht,hlen,lm (P:=P) (w:=w) (t:=e') (by omega),hc,hfc,goInt]
       ·have:s.akD id (some (.row e fz k (ys.take ([]:List (Tof k)).length++([]:List (Tof k)).drop ys.length)))=s:=by
         simp only[aq0,List.take_zero,List.drop_nil,aq6,agQ];rw[← hid];have:upd s.H id (s.H id)=s.H:=funext fun j=>by
          by_cases e:j=id
          ·subst e;rw[ax]
          ·rw[aI _ _ e]
         rw[this]
        rw[this];exact h
      ·have aom:asl ys.length xs.length≤xs.length:=Nat.min_le_right _ _;have aol:asl ys.length xs.length≤ys.length:=Nat.min_le_left _ _;have h1:asl ys.length xs.length * ks k≤xs.length * ks k:=ard _ aom;have h2:xs.length * ks k≤cap * ks k:=ard _ hnc;have h3:asl ys.length xs.length * ks k≤ys.length * ks k:=ard _ aol;have akr: ∀ u∈news.take (asl ys.length xs.length * ks k),u.oneCell'=true:=fun u hu=>alQ.rel.one u (arS hu);have htl:(news.take (asl ys.length xs.length * ks k)).length=asl ys.length xs.length * ks k:=by rw[arm,hn];omega
       have hst:=As (P:=P) b f e fr (news.take (asl ys.length xs.length * ks k)) 0 us w hh (by rw[htl];omega) (by
        subst hfr;cases fz
        ·exact .inl rfl
        ·exact .inr (aqG _)) akr
       simp only[asB]at hst;obtain⟨g1,g2⟩:=h.hs.setRow (hpk:=Pk.setRow hh fun _ a' hu=>by
        have hus:us.toList.length=us.size:=arq;refine Il (ys:=news.take (asl ys.length xs.length * ks k)) (by rw[htl];omega) (by simpa using hu) fun e1 e2=>Qf akc (fun e3=>e2 ?_) e1 hu;subst e3;exact aq2 (by rw[htl];simp)) k1 rfl (us.toList.take f++news.take (asl ys.length xs.length * ks k)++us.toList.drop (f+(news.take (asl ys.length xs.length * ks k)).length)).toArray (.row e fz k (ys.take xs.length++xs.drop ys.length)) (fun hkp=>by
        have akg:(us.toList.take f++news.take (asl ys.length xs.length * ks k)++us.toList.drop (f+(news.take (asl ys.length xs.length * ks k)).length)).toArray.size=us.size:=by
         simp only[asp,aqD,aru,htl,arm,arq]at *;omega
        have hll:(ys.take xs.length++xs.drop ys.length).length=xs.length:=by simp;omega
        refine⟨_,by rw[k1,hll],.inr ⟨b,f,cap,_,fr,by rw[hll],setRow_heap w b us _ e _ hh,by rw[akg];exact hfr,by rw[hll];exact hnc,hcm,by rw[akg];exact hsz,fun i x j c u a1 a2 a3=> ?_⟩⟩;have hj:j < ks k:=by rw[← bh k x];exact(aqF.1 a2).1
        have hi':i < xs.length:=by have:=(aqF.1 a1).1;rwa[hll]at this
        have a3':(us.toList.take f++news.take (asl ys.length xs.length * ks k)++us.toList.drop (f+(news.take (asl ys.length xs.length * ks k)).length))[f+(i * ks k+j)]? =some u:=by simpa using a3
        have hsp:f+(news.take (asl ys.length xs.length * ks k)).length≤us.toList.length:=by
         have:us.toList.length=us.size:=arq;rw[htl];omega
        rw[Pt _ _ _ hsp,htl]at a3';refine hkp _ _ ?_;by_cases hy':i < ys.length
        ·have hm:i < asl ys.length xs.length:=Nat.lt_min.2 ⟨hy',hi'⟩;have hm2:=ln hm hj;rw[aqh (by omega),arT,aqh (by omega)]at a3';rw[arO (by simp;omega),arT,aqh hi']at a1;refine zH alQ.rel i x j c u a1 a2 ?_;rw[← a3'];congr 1;omega
        ·have hm:asl ys.length xs.length=ys.length:=atO (by omega);have hm2:ys.length * ks k≤i * ks k:=ard _ (by omega);rw[hm]at a3';rw[aqg (by omega)]at a3';have e1:(ys.take xs.length).length=ys.length:=by simp;omega
         rw[arj (by omega),e1,ar5]at a1;have a1':xs[i]? =some x:=by rw[← a1];congr 1;omega
         exact akc i x j c u a1' a2 (by simpa using a3'))
       refine⟨.int .i64 (asl ys.length xs.length:Nat),_,β, ?_,h.keep g2 g1,rfl,rfl,rfl,rfl⟩;simp only[auW,atl,atE,aur,arY,run_underlying ht,arE,hlen,lm (P:=P) (w:=w) (t:=e') (by omega),hc,hfc,ar8,hst,goInt]
    ·cases hs
  ·cases hs
 ·cases hs
def aki.cut{e:TypeId}{fz:Bool}{k:K}{xs ys:List (Tof k)}{bb f cap l h:Nat}(hy:ys=(xs.take h).drop l)(hlh:l≤h)(hh:h≤xs.length)(hx:aki w β e fz k xs (.slice (some ⟨bb,f,none⟩) xs.length cap)):
  aki w β e fz k ys (.slice (if cap=l then some ⟨bb,f,none⟩ else some ⟨bb,f+l * ks k,none⟩) (h - l) (cap - l)):=by
 rcases hx with⟨h1,_⟩ | ⟨b',f',anR,us,fr,h1,hhp,hfr,hnc,hcm,hsz,akc⟩
 ·cases h1
 ·cases h1;have hyl:ys.length=h - l:=by subst hy;simp;omega
  by_cases he:cap=l
  ·rw[aqh he];obtain rfl:ys=[]:=aq2 (by omega);refine .inr ⟨bb,f,cap - l,us,fr,by rw[hyl],hhp,hfr,by simp,by omega, ?_,fun i x j c u a1=>by simp at a1⟩;have:(cap - l) * ks k≤cap * ks k:=ard _ (by omega);omega
  ·rw[aqg he];refine .inr ⟨bb,f+l * ks k,cap - l,us,fr,by rw[hyl],hhp,hfr,by omega,by omega, ?_,fun i x j c u a1 a2 a3=> ?_⟩
   ·have:(cap - l) * ks k=cap * ks k - l * ks k:=auw _ _ _;have:l * ks k≤cap * ks k:=ard _ (by omega);omega
   ·subst hy;rw[ar5,arT]at a1;split at a1
    ·refine akc (l+i) x j c u a1 a2 ?_;rw[← a3,arQ];congr 1;omega
    ·cases a1
def TF(h:St B β stk s a w){id:Nat}{x:Operand}{t:TypeId}{lo hi:Option Operand}{z:Bool}(hx:s.ev x= .own id)(hf:fu P s.H t (.own id)=true){q:Bool}{v:AV}{s':S}
  (hs:lh s id z (lo.map s.ev) (hi.map s.ev)=some (q,v,s'))(hq:q=true):
  ∃ u' β',(atq t (a.eval x) (lo.map a.eval) (hi.map a.eval) none).run P w= .ok u' w∧St B β' stk s' a w∧R2 w β' v u'∧s'.gs=s.gs∧s'.n=s.n∧s'.pins=s.pins:=by
 subst hq;have hxv:=h.eval x;rw[hx]at hxv;have hxv:RC w β (.own id) (a.eval x):=hxv;unfold lh at hs;split at hs
 ·rename_i e fz k xs hid;obtain⟨e',hu,hk⟩: ∃ e',P.underlying t=some (.slice e')∧P.cellsOf e'=ks k:=by
   unfold fu at hf;split at hf<;>simp_all
  have hkp:=oy k;obtain⟨hd,k1,k2⟩:=h.hs.akE id _ hid;obtain⟨a0,cap,hv,alm⟩:=k2.cells.len;have al4:a.eval x=hd:=by
   generalize a.eval x=vx at hxv;cases hxv with
   | own k3 k4=>rw[k1]at k3;cases k3;rfl
  cases hc:OZ (lo.map s.ev) (hi.map s.ev) xs.length with
  | none=>rw[hc]at hs;cases hs
  | some r=>
   obtain⟨c,l,hh⟩:=r;rw[hc]at hs;simp only[aqs]at hs;have main:c=true→ ∃ bs,(atq t (a.eval x) (lo.map a.eval) (hi.map a.eval) none).run P w= .ok bs w∧0≤l∧l≤hh∧hh≤(xs.length:Int)∧bs= .slice (if cap=l.toNat then a0 else a0.map (·.add (l.toNat * ks k))) (hh.toNat - l.toNat) (cap - l.toNat):=by
    intro hct;subst hct;obtain⟨hb,g1,g2,g3⟩:=xW (P:=P) (w:=w) (β:=β) (tm:=dq a) h.eval hc true alm;refine⟨_, ?_,g1,g2,g3,rfl⟩;rw[al4,hv,CR hu (by omega) hb,hk]
   have ao1:c=true→MC (lo.map s.ev) (hi.map s.ev) l hh xs=(xs.take hh.toNat).drop l.toNat:=by
    intro hct;subst hct;exact W9 hc
   split at hs
   ·simp only[aqI,arb]at hs;obtain⟨hct,rfl,rfl⟩:=hs;obtain⟨bs,akm,g1,g2,g3,hbs⟩:=main hct;have hys:=ao1 hct;have hlen:(MC (lo.map s.ev) (hi.map s.ev) l hh xs).length=hh.toNat - l.toNat:=by rw[hys];simp;omega
    have apW:ade bs=true:=by rw[hbs];rfl
    obtain⟨β',q1,q2,q3⟩:=h.hs.als (hpk:=Pk.refl _ _) (w':=w) k1 (.row e fz k (MC (lo.map s.ev) (hi.map s.ev) l hh xs)) bs (hh.toNat - l.toNat) rfl rfl rfl (aqG _) (fun _ _ _=>rfl) (fun a' ha'=>by
      left;rw[hbs]at ha';cases a0 with
      | none=>exfalso;split at ha'<;>cases ha'
      | some aa=>
       refine⟨aa,by rw[hv];rfl, ?_⟩;split at ha'
       ·cases ha';rfl
       ·cases ha';rcases k2 with⟨e1,_⟩ | ⟨b',f',anR,us,fr,e1,_⟩
        ·rw[hv]at e1;cases e1
        ·rw[hv]at e1;simp only[Value.slice.injEq,aqI]at e1;obtain⟨rfl,_⟩:=e1;simp[asg])
     (fun β' hβ hkf=>by
      refine⟨bs,by rw[hβ,hlen], ?_⟩;rw[hbs];rcases k2 with⟨e1,e2⟩ | ⟨b',f',anR,us,fr,e1,hhp,hfr,hnc,hcm,hsz,akc⟩
      ·rw[hv]at e1;simp only[Value.slice.injEq]at e1;obtain⟨rfl,_,rfl⟩:=e1;subst e2;refine .inl ⟨?_,by rw[hys];simp⟩;have:hh.toNat=0:=by simp at g3;omega
       have:l.toNat=0:=by omega
       simp[*]
      ·rw[hv]at e1;cases e1;have anw:aki w β' e fz k xs (.slice (some ⟨b',f',none⟩) xs.length cap):= .inr ⟨b',f',cap,us,fr,rfl,hhp,hfr,hnc,hcm,hsz,fun i x j c u a1 a2 a3=>by
        have:=hkf _ _ (akc i x j c u a1 a2 a3);rwa[fy id c (eO k x a2)]at this⟩
       have:=anw.cut (l:=l.toNat) (h:=hh.toNat) hys (by omega) (by omega);simpa[asg] using this)
    refine⟨bs,β',akm,h.map (fy id) (He id) q2 q1, ?_,rfl,rfl,rfl⟩;exact RC.own q3 apW
   ·cases hs
   ·simp only[aqI,arb]at hs;obtain⟨hct,rfl,rfl⟩:=hs;obtain⟨bs,akm,g1,g2,g3,hbs⟩:=main hct;have hys:=ao1 hct;obtain⟨β',q1,q2⟩:=h.alZ id;have hsl:=q2.fr id _ e fz k xs (by simp) hid hxv;refine⟨bs,β',akm,q1, ?_, ?_, ?_, ?_⟩
    ·show RC w β' (.sl k _) bs;rw[al4,hv]at hsl;rw[hbs];by_cases hxs:xs=[]
     ·subst hxs;have e1:hh.toNat - l.toNat=0:=by simp at g3;omega
      rw[e1,hys];simp only[List.take_nil,List.drop_nil];exact .nil
     ·have ha: ∃ bb f,a0=some ⟨bb,f,none⟩:=by
       cases hsl with
       | nil=>exact absurd rfl hxs
       | sl=>exact⟨_,_,rfl⟩
      obtain⟨bb,f,rfl⟩:=ha;have:=RC.cut (l:=l.toNat) (h:=hh.toNat) hys (by omega) (by omega) hsl alm;simpa[asg] using this
    ·simp only[S.freeze,hid];rfl
    ·simp only[S.freeze,hid];rfl
    ·simp only[S.freeze,hid];rfl
 ·cases hs
end
end Go.VS
namespace Go.VS
open Go
section
variable {B:ake} {β β':Beta} {H:Hp} {stk:List (Array Value)} {s s':S} {a:Act} {w w':World} {C:Cx}
def Em(B:ake)(stk:List (Array Value))(a:Act)(d:Option Nat)(s':S)(K:Act→World→Prop):Prop:= ∀ β' u w',St B β' stk s' (a.put d u) w'→K (a.put d u) w'
def Ai{o:Oper}{K:Act→World→Prop}{Q:Exit→Act→World→Prop}{u:Value}(h:(execOp a.eval o).run B.P w= .ok (.value u) w')(hk:K (a.put o.dst u) w'):o.wp B.P a w K Q:=by
 unfold Oper.wp;rw[h];exact hk
def afG(h:St B β stk s a w){b:Nat}{v:AV}{os:List Ob}{o:Oper}(hd:s.has o.dst=true)(hg:Good B β s.H w b v os ((execOp a.eval o).run B.P w)){K:Act→World→Prop}{Q:Exit→Act→World→Prop}
  (hK:Em B stk a o.dst ({ s with H:=fe s.H b os }.put o.dst v) K):o.wp B.P a w K Q:=by
 obtain⟨u,w',β',h1,h2,h3,h4⟩:=hg;refine Ai h1 (hK β' _ _ ?_);have h5:=h.keep h3 h2;refine h5.put hd (RT.ald h4) (fun g want x e=> ?_);rw[e]at h4;exact absurd h4 (by simp[R2,R1])
def Lf(h:St B β stk s a w){d:Option Nat}(hd:s.has d=true){v:AV}{u:Value}(hv:R2 w β v u):St B β stk (s.put d v) (a.put d u) w:=
 h.put hd (RT.ald hv) (fun g want x e=>by rw[e]at hv;exact absurd hv (by simp[R2,R1]))
def L3{s s':S}(h1:s'.gs=s.gs)(h2:s'.n=s.n)(h3:s'.pins=s.pins)(d:Option Nat):s'.has d=s.has d:=by
 cases d with
 | none=>rfl
 | some d=>simp only[S.has,h1,h2,h3]
def Ve(hP:C.P=B.P)(h:St B β stk s a w){b:Nat}(hb:s.H b=none){o:Oper}(hd:s.has o.dst=true){K:Act→World→Prop}{Q:Exit→Act→World→Prop}
  (he:(match bD C.P C.kd s.ev s.H b o.op with
   | some (q,v,os)=>if q then some ({ s with H:=fe s.H b os }.put o.dst v) else none
   | none=>none)=some s')(hK:Em B stk a o.dst s' K):o.wp B.P a w K Q:=by
 split at he
 ·rename_i q v os hp;split at he
  ·rename_i hq;cases he;have hg:=acJ (P:=C.P) hP h.eval (fun _=>rfl) (fun _=>rfl) h.hs hb hp hq;rw[hP]at hg;exact afG h hd hg hK
  ·cases he
 ·cases he
def uP: ∀ (ids:List Nat) (s:S),(ids.foldl S.freeze s).gs=s.gs∧(ids.foldl S.freeze s).n=s.n∧(ids.foldl S.freeze s).pins=s.pins∧(ids.foldl S.freeze s).nid=s.nid
 | [],s=>⟨rfl,rfl,rfl,rfl⟩
 | i::ids,s=>by
  obtain⟨h1,h2,h3,h4⟩:=uP ids (s.freeze i);have:(s.freeze i).gs=s.gs∧(s.freeze i).n=s.n∧(s.freeze i).pins=s.pins∧(s.freeze i).nid=s.nid:=by
   unfold S.freeze;split<;>exact⟨rfl,rfl,rfl,rfl⟩
  exact⟨h1.trans this.1,h2.trans this.2.1,h3.trans this.2.2.1,h4.trans this.2.2.2⟩
def XF{P:Program}{t:TypeId}{x y:AV}(h:o3 P t s x y=some s'):s'.gs=s.gs∧s'.n=s.n∧s'.pins=s.pins:=by
 unfold o3 at h;split at h
 ·split at h
  ·split at h
   ·obtain⟨ys,hc,h⟩:=aqw.1 h;split at h<;>cases h;exact⟨rfl,rfl,rfl⟩
   ·cases h
  ·obtain⟨ys,hc,h⟩:=aqw.1 h;split at h
   ·obtain⟨z,hz,h⟩:=aqw.1 h;cases h;obtain⟨h1,h2,h3,_⟩:=uP (ys.filterMap sY) s;exact⟨h1,h2,h3⟩
   ·cases h
  ·obtain⟨ys,hc,h⟩:=aqw.1 h;split at h
   ·obtain⟨z,hz,h⟩:=aqw.1 h;cases h;exact⟨rfl,rfl,rfl⟩
   ·cases h
  ·cases h
 ·cases h
def Zz(hP:C.P=B.P)(h:St B β stk s a w){o:Oper}(hd:s.has o.dst=true){t:TypeId}{p x:Operand}(ho:o.op= .store t p x){s1:S}(hs:o3 C.P t s (s.ev p) (s.ev x)=some s1){K:Act→World→Prop}{Q:Exit→Act→World→Prop}
  (hK:Em B stk a o.dst (s1.put o.dst oZ) K):o.wp B.P a w K Q:=by
 obtain⟨w',β',h1,h2⟩:=ZA hP h hs;obtain⟨e1,e2,e3⟩:=XF hs;rw[hP]at h1;unfold Oper.wp execOp;rw[ho];simp only[arY,h1,arE,ar8];exact hK β' _ _ (Lf h2 (by rw[L3 e1 e2 e3];exact hd) rfl)
def Zm(hP:C.P=B.P)(h:St B β stk s a w){b:Nat}(hb:s.H b=none){o:Oper}(hd:s.has o.dst=true){x y:Operand}{t u:TypeId}(ho:o.op= .call { callee:= .builtin .append,args:= #[x,y],argTypes:= #[t,u] })
  {v:AV}{s1:S}(hs:q8 C.P C.kd t u s b (s.ev x) (s.ev y)=some (true,v,s1)){K:Act→World→Prop}{Q:Exit→Act→World→Prop}(hK:Em B stk a o.dst (s1.put o.dst v) K):o.wp B.P a w K Q:=by
 obtain⟨u',w',β',h1,h2,h3,e1,e2,e3⟩:=Zn (ty:=o.type) hP h hb hs rfl;rw[hP]at h1;refine Ai (u:=u') (w':=w') ?_ (hK β' _ _ (Lf h2 (by rw[L3 e1 e2 e3];exact hd) h3));unfold execOp;rw[ho];simp[resolve,invoke,builtin,h1]
def adJ(hP:C.P=B.P)(h:St B β stk s a w){o:Oper}(hd:s.has o.dst=true){x y:Operand}{t u:TypeId}(ho:o.op= .call { callee:= .builtin .copy,args:= #[x,y],argTypes:= #[t,u] })
  {v:AV}{s1:S}(hs:Gm C.P t s (s.ev x) (s.ev y)=some (v,s1)){K:Act→World→Prop}{Q:Exit→Act→World→Prop}(hK:Em B stk a o.dst (s1.put o.dst v) K):o.wp B.P a w K Q:=by
 obtain⟨u',w',β',h1,h2,h3,e1,e2,e3⟩:=adK (u:=u) (ty:=o.type) hP h hs;rw[hP]at h1;refine Ai (u:=u') (w':=w') ?_ (hK β' _ _ (Lf h2 (by rw[L3 e1 e2 e3];exact hd) h3));unfold execOp;rw[ho];simp[resolve,invoke,builtin,h1]
def ZS(hP:C.P=B.P)(h:St B β stk s a w){o:Oper}(hd:s.has o.dst=true){t:TypeId}{x:Operand}{lo hi:Option Operand}(ho:o.op= .slice t x lo hi none){id:Nat}(hx:s.ev x= .own id){z:Bool}(hf:fu C.P s.H t (.own id)=true)
  {v:AV}{s1:S}(hs:lh s id z (lo.map s.ev) (hi.map s.ev)=some (true,v,s1)){K:Act→World→Prop}{Q:Exit→Act→World→Prop}(hK:Em B stk a o.dst (s1.put o.dst v) K):o.wp B.P a w K Q:=by
 obtain⟨u',β',h1,h2,h3,e1,e2,e3⟩:=TF (P:=C.P) h hx hf hs rfl;rw[hP]at h1;refine Ai (u:=u') (w':=w) ?_ (hK β' _ _ (Lf h2 (by rw[L3 e1 e2 e3];exact hd) h3));unfold execOp;rw[ho];simp[h1]
def Ph(hP:C.P=B.P)(h:St B β stk s a w){b:Nat}(hb:s.H b=none){o:Oper}(hd:s.has o.dst=true){ids:List Nat}{K:Act→World→Prop}{Q:Exit→Act→World→Prop}
  (he:(match bD C.P C.kd (ids.foldl S.freeze s).ev (ids.foldl S.freeze s).H b o.op with
   | some (q,v,os)=>if q then some ({ ids.foldl S.freeze s with H:=fe (ids.foldl S.freeze s).H b os }.put o.dst v) else none
   | none=>none)=some s')(hK:Em B stk a o.dst s' K):o.wp B.P a w K Q:=by
 obtain⟨β',h1,h2⟩:=h.akh ids;obtain⟨e1,e2,e3,_⟩:=uP ids s;exact Ve hP h1 (h2.non b hb) (by rw[L3 e1 e2 e3];exact hd) he hK
def mQ(C:Cx)(B:ake):Prop:= ∀ (f:FuncId) (d:Option Nat) (m:akx),C.Γ f d=some m→ ∀ (β:Beta) (stk:List (Array Value)) (s:S) (a:Act) (w:World) (b:Nat) (as:List Operand) (s':S) (o:Oper) (ts:Array TypeId) (K:Act→World→Prop) (Q:Exit→Act→World→Prop),
 St B β stk s a w→(∀ j,b≤j→j < b+16→s.H j=none)→s.has d=true→ww m s b d (as.map s.ev) some=some s'→o.dst=d→o.op= .call { callee:= .value (.func f),args:=as.toArray,argTypes:=ts } →Em B stk a d s' K→o.wp B.P a w K Q
def Wz(hP:C.P=B.P)(hC:mQ C B)(h:St B β stk s a w){b:Nat}(hb: ∀ j,b≤j→j < b+16→s.H j=none){o:Oper}(he:hY C (af S) o b s some=some s'){K:Act→World→Prop}{Q:Exit→Act→World→Prop}(hK:Em B stk a o.dst s' K):o.wp B.P a w K Q:=by
 have hb0:s.H b=none:=hb b (aqG _) (by omega);unfold hY at he;split at he
 ·cases he
 rename_i hd;generalize ho:o.op=op at he;have pu:(match bD C.P C.kd s.ev s.H b op with
   | some (q,v,os)=>if q then some ({ s with H:=fe s.H b os }.put o.dst v) else none
   | none=>none)=some s'→o.wp B.P a w K Q:=fun he=>Ve hP h hb0 hd (by rw[ho];exact he) hK
 cases op<;>try (exact pu he)
 case store t p x=>
  simp only at he;split at he
  ·rename_i s1 hs;cases he;exact Zz hP h hd ho hs hK
  ·cases he
 case call c=>
  obtain⟨cal,⟨args⟩,⟨tys⟩⟩:=c;simp only at he;split at he
  ·rename_i f;split at he
   ·rename_i m hm;exact hC f o.dst m hm β stk s a w b _ s' o _ K Q h hb hd he rfl ho hK
   ·cases he
  ·split at he
   ·rename_i q v s1 hs;split at he
    ·rename_i hq;subst hq;cases he;exact Zm hP h hb0 hd ho hs hK
    ·cases he
   ·cases he
  ·split at he
   ·rename_i v s1 hs;cases he;exact adJ hP h hd ho hs hK
   ·cases he
  ·exact pu he
 case slice t x lo hi mx=>
  cases mx with
  | some m=>exact pu he
  | none=>
   simp only at he;split at he
   ·rename_i id hx;split at he
    ·cases he
    ·rename_i hf;split at he
     ·rename_i q v s1 hs;split at he
      ·rename_i hq;subst hq;cases he;exact ZS hP h hd ho hx hf hs hK
      ·cases he
     ·cases he
   ·exact pu he
 case buildSlice t n ps=>
  simp only at he;exact Ph hP h hb0 hd (by rw[ho];exact he) hK
end
end Go.VS
namespace Go.VS
open Go
mutual
theorem ae9 (E:Nat→AV) (H:Hp) (b:Nat): ∀ (h:Sh) (x:LT h),p8 h=true→(ch E H b h x).2=(H,b)
 | .int _,_,_=>rfl
 | .bool,_,_=>rfl
 | .str,_,_=>rfl
 | .agg l,x,h=>by
  have:=EC E H b l x h;show((match aw E H b l x with | (cs,H,b)=>(AV.agg cs,H,b)):AV×Hp×Nat).2=(H,b);generalize aw E H b l x=r at *;obtain⟨cs,H',b'⟩:=r;exact this
 | .sl _,_,h=>by simp[p8]at h
 | .row _ _,_,h=>by simp[p8]at h
 | .fz _,_,h=>by simp[p8]at h
 | .akl _ _,_,h=>by simp[p8]at h
 | .abx _ _,_,h=>by simp[p8]at h
 | .arr _,_,h=>by simp[p8]at h
 | .same _,_,h=>by simp[p8]at h
 | .box _ _,_,h=>by simp[p8]at h
theorem EC (E:Nat→AV) (H:Hp) (b:Nat): ∀ (l:List Sh) (x:LTs l),Db l=true→(aw E H b l x).2=(H,b)
 | [],_,_=>rfl
 | h::l,x,hl=>by
  simp only[Db,aqt]at hl;have h1:=ae9 E H b h x.1 hl.1;have h2:=EC E H b l x.2 hl.2;show((match ch E H b h x.1 with | (c,H,b)=>match aw E H b l x.2 with | (cs,H,b)=>(c::cs,H,b)):List AV×Hp×Nat).2=(H,b);generalize hm:ch E H b h x.1=r at *;obtain⟨c,H',b'⟩:=r;cases h1;show((match aw E H b l x.2 with | (cs,H,b)=>(c::cs,H,b)):List AV×Hp×Nat).2=(H,b);generalize aw E H b l x.2=r at *;obtain⟨cs,H',b'⟩:=r;exact h2
end
mutual
theorem afb: ∀ h:Sh,p8 h=true→WK h=false
 | .int _,_=>rfl
 | .bool,_=>rfl
 | .str,_=>rfl
 | .agg l,h=>Ln l h
 | .sl _,h=>by simp[p8]at h
 | .row _ _,h=>by simp[p8]at h
 | .fz _,h=>by simp[p8]at h
 | .akl _ _,h=>by simp[p8]at h
 | .abx _ _,h=>by simp[p8]at h
 | .arr _,h=>by simp[p8]at h
 | .same _,h=>by simp[p8]at h
 | .box _ _,h=>by simp[p8]at h
theorem Ln: ∀ l:List Sh,Db l=true→c8 l=false
 | [],_=>rfl
 | h::l,hl=>by
  simp only[Db,aqt]at hl;simp only[c8,afb h hl.1,Ln l hl.2,arJ]
end
def VK(E:Nat→AV)(H:Hp)(b:Nat): ∀ (l:List Sh) (cs:List AV) (x:LTs l),l.isEmpty=true→bm E H b l cs x=([],H,b)
 | [],_,_,_=>rfl
 | _::_,_,_,h=>by simp at h
def ac2: ∀ l:List Sh,l.isEmpty=true→c8 l=false
 | [],_=>rfl
 | _::_,h=>by simp at h
def ag5(l:List Nat):off l []=true:=by simp[off]
def adP{m:akx}{s:S}{b:Nat}{d:Option Nat}{as:List AV}{v:AV}{x:LTs m.ps}{r:LTs m.rs×LTs (aT m.ps)}(h1:Db m.rs=true)(h2:(aT m.ps).isEmpty=true)(h3:(dp s.H m.ps as).isEmpty=true)(h4:(bQ s.H m.ps as).isEmpty=true)
  (hx:pX (fun i=>(as[i]?).getD .un) s.H m.ps as=some x)(hr:m.g x=some r)(hv:Ih (aw (fun i=>(as[i]?).getD .un) s.H b m.rs r.1).1=v):ww m s b d as some=some (s.put d v):=by
 have h3':dp s.H m.ps as=[]:=by simpa using h3
 have h4':bQ s.H m.ps as=[]:=by simpa using h4
 unfold ww;simp only[hx,h4',Nj,h3',ag5,ar6,hr,aqs,asQ,Ln _ h1,ac2 _ h2,ash,Cm,VK _ _ _ _ _ _ h2];have hm:=EC (fun i=>(as[i]?).getD .un) s.H b m.rs r.1 h1;generalize aw (fun i=>(as[i]?).getD .un) s.H b m.rs r.1=q at *;obtain⟨vs,H',b'⟩:=q;cases hm;have:asa b (b+16)=true:=Nat.ble_eq_true_of_le (by omega);simp only[this];rw[← hv]
section
variable {B:ake} {β β':Beta} {H:Hp} {stk:List (Array Value)} {s s':S} {a:Act} {w w':World} {C:Cx}
def aeD{b:Nat}{o:Oper}{v:AV}(hd:s.has o.dst=true)(h:spA C b o.dst s.ev s.H o.op=some (true,v)):hY C (af S) o b s some=some (s.put o.dst v):=by
 have eqS: ∀ v',({ s with H:=s.H } :S).put o.dst v'=s.put o.dst v':=fun _=>rfl;unfold hY;rw[hd];generalize ho:o.op=op at h;have pu:(match bD C.P C.kd s.ev s.H b op with
   | some (q,v,[])=>some (q,v)
   | _=>none)=some (true,v)→(match bD C.P C.kd s.ev s.H b op with
   | some (q,v,os)=>if q then some ({ s with H:=fe s.H b os }.put o.dst v) else none
   | none=>none)=some (s.put o.dst v):=by
  intro h;split at h
  ·rename_i v' hp;cases h;rw[hp];rfl
  ·cases h
 cases op<;>try (exact pu h)
 case store=>simp[spA]at h
 case buildSlice=>simp[spA]at h
 case slice t x lo hi mx=>
  cases mx with
  | some m=>exact pu h
  | none=>
   simp only[spA]at h;simp only;cases hx:s.ev x<;>simp only[hx]at h ⊢ <;>first | (cases h;done) | exact pu h
 case call c=>
  obtain⟨cal,⟨args⟩,⟨tys⟩⟩:=c;simp only[spA]at h;simp only;split at h
  ·rename_i f;obtain⟨m,hm,h⟩:=aqw.1 h;split at h
   ·rename_i hc;simp only[aqt]at hc;obtain⟨x,hx,h⟩:=aqw.1 h;simp only[aqI,arb]at h;obtain⟨h1,h2⟩:=h;cases hr:m.g x with
    | none=>rw[hr]at h1;cases h1
    | some r=>
     rw[hr]at h2;simp only[hm];exact adP hc.1.1.1 hc.1.1.2 hc.1.2 hc.2 hx hr h2
   ·cases h
  ·cases h
  ·cases h
  ·rename_i n1 n2 n3;split
   ·exact absurd rfl (n1 _)
   ·exact absurd rfl n2
   ·exact absurd rfl n3
   ·exact pu h
end
end Go.VS
namespace Go.VS
open Go
section
variable {B:ake} {β β':Beta} {H:Hp} {stk:List (Array Value)} {s s':S} {a:Act} {w w':World} {C:Cx}
def uG{ops:Array Oper}{j g:Nat}(hg:(ops[j]?).bind (·.dst)=some g){b:Bool}(hv:dq a g= .bool b):yielded ops a.tmps j=some b:=by
 unfold yielded;rw[hg];have:a.tmps[g]? =some (.bool b):=by
  unfold dq at hv;rw[asT]at hv;cases h:a.tmps[g]? with
  | none=>rw[h]at hv;cases hv
  | some u=>rw[h]at hv;exact congrArg some hv
 rw[aqs,this]
def uF{ops:Array Oper}{j g:Nat}(hg:(ops[j]?).bind (·.dst)=some g){b:Bool}(hv:yielded ops a.tmps j=some b):dq a g= .bool b:=by
 unfold yielded at hv;rw[hg,aqs]at hv;split at hv
 ·rename_i c hc;cases hv;simp[dq,hc]
 ·cases hv
def St.narrow(h:St B β stk s a w){g:Nat}{want:Bool}(hg:dq a g= .bool want):St B β stk (s.narrow g want) a w:=by
 have rt: ∀ x y,RT w β (dq a) x y→RT w β (dq a) (re g want x) y:=by
  intro x y hx;cases x with
  | gd g' w' z=>
   simp only[re];split
   ·rename_i h1 h2;obtain rfl:=aD h1;obtain rfl:want=w':=by simpa using h2
    exact RT.ald (hx.1 hg)
   ·exact hx
  | _=>exact hx
 refine⟨fun t=> ?_,h.stack,h.n,h.defers,h.pins,fun t g' w' x hx=> ?_,h.hs⟩
 ·show RT w β (dq a) (upd (fun t=>re g want (s.T t)) g (.b want) t) (dq a t);by_cases e:t=g
  ·subst e;rw[ax,hg];rfl
  ·rw[aI _ _ e];exact rt _ _ (h.T t)
 ·have hx:upd (fun t=>re g want (s.T t)) g (.b want) t= .gd g' w' x:=hx;by_cases e:t=g
  ·subst e;rw[ax]at hx;cases hx
  ·rw[aI _ _ e]at hx;cases hs:s.T t with
   | gd g2 w2 z=>
    rw[hs]at hx;simp only[re]at hx;split at hx
    ·rename_i h1 h2;obtain rfl:=aD h1;obtain rfl:want=w2:=by simpa using h2
     subst hx;have:=h.T t;rw[hs]at this;exact(this.1 hg).elim
    ·cases hx;exact h.gs _ _ _ _ hs
   | _=>rw[hs]at hx;simp[re]at hx
def aeQ(a:Act){d t:Nat}(h:t≠d)(u:Value):dq (a.put (some d) u) t=dq a t:=by
 simp only[dq,Act.put,asT];rw[atM (fun e=>h e.symm)]
def R2.bool{x:AV}{b:Bool}(h:R2 w β x (.bool b)):R2 w' β' x (.bool b):=by
 cases x with
 | un=>trivial
 | lit v=>exact h
 | sl k xs=>exact absurd (show RC w β (.sl k xs) (.bool b) from h) (fun h=>by cases h)
 | arr k xs=>obtain⟨us,e,_⟩:=h;cases e
 | own id=>exact absurd (show RC w β (.own id) (.bool b) from h) (fun h=>by cases h with | own h1 h2=>cases h2)
 | ptr a b c d=>exact absurd (show RC w β (.ptr a b c d) (.bool _) from h) (fun h=>by cases h)
 | ipt a b c=>exact absurd (show RC w β (.ipt a b c) (.bool _) from h) (fun h=>by cases h)
 | agg cs=>obtain⟨us,e,_⟩:=h;cases e
 | tup vs=>obtain⟨us,e,_⟩:=h;cases e
 | gd a b c=>exact h.elim
def St.more(h:St B β stk s a w)(g:Nat):St B β stk { s with gs:=upd s.gs g true } a w:=
 ⟨h.T,h.stack,h.n,h.defers,h.pins,fun t g' want x hx=>by
  show upd s.gs g true g'=true;by_cases e:g'=g
  ·rw[e,ax]
  ·rw[aI _ _ e];exact h.gs t g' want x hx,h.hs⟩
def RT.anF{tm:Nat→Value}{x:AV}{v:Value}(h:RT w β tm x v)(hn:aiZ x=true):R2 w β x v:=by
 cases x with
 | gd=>cases hn
 | _=>exact h
def RT.amT{tm tm':Nat→Value}{x:AV}{b:Bool}(h:RT w β tm x (.bool b))(ht: ∀ g want z,x= .gd g want z→tm' g=tm g):RT w' β' tm' x (.bool b):=by
 cases x with
 | gd g want z=>
  have e:=ht g want z rfl;refine⟨fun h1=>R2.bool (h.1 (e▸h1)),fun h1=> ?_⟩;exact h.2 (e▸h1)
 | _=>exact RT.ald (R2.bool (RT.anF h rfl))
def YB{g d:Nat}(h:({ s with gs:=upd s.gs g true } :S).has (some d)=true):s.has (some d)=true∧d≠g∧s.gs d=false:=by
 simp only[S.has,aqt,aro]at h ⊢;obtain⟨⟨h1,h2⟩,h3⟩:=h;by_cases e:d=g
 ·subst e;rw[ax]at h3;cases h3
 ·rw[aI _ _ e]at h3;exact⟨⟨⟨h1,h2⟩,h3⟩,e,h3⟩
def St.al7(h:St B β stk s a w){g d:Nat}{want:Bool}(hg:dq a g= .bool want)(akG:({ s with gs:=upd s.gs g true } :S).has (some d)=true){v:AV}(hn:aiZ v=true){u:Value}
  (h':St B β' stk ((s.narrow g want).put (some d) v) (a.put (some d) u) w'):St B β' stk { s.put (some d) (.gd g want v) with gs:=upd s.gs g true } (a.put (some d) u) w':=by
 obtain⟨_,hdg,hgs⟩:=YB akG;have tg:dq (a.put (some d) u) g= .bool want:=by rw[aeQ a (atu hdg)];exact hg
 refine⟨fun t=> ?_,h'.stack,h'.n,h'.defers,h'.pins,fun t g' w1 x hx=> ?_,h'.hs⟩
 ·show RT w' β' _ (upd s.T d (.gd g want v) t) _;have ht:RT w' β' (dq (a.put (some d) u)) (upd (upd (fun t=>re g want (s.T t)) g (.b want)) d v t) (dq (a.put (some d) u) t):=h'.T t;by_cases e:t=d
  ·subst e;rw[ax]at ht ⊢;exact⟨fun _=>ht.anF hn,fun hne=>absurd tg hne⟩
  ·rw[aI _ _ e]at ht ⊢;by_cases e2:t=g
   ·subst e2;rw[tg];have h0:=h.T t;rw[hg]at h0;refine h0.amT fun g' w1 z hz=> ?_;have hg':s.gs g'=true:=h.gs _ _ _ _ hz;exact aeQ a (fun e=>by rw[e,hgs]at hg';cases hg') u
   ·rw[aI _ _ e2]at ht;cases hs:s.T t with
    | gd g2 w2 z=>
     rw[hs]at ht;simp only[re]at ht;split at ht
     ·rename_i h1 h2;obtain rfl:=aD h1;obtain rfl:want=w2:=by simpa using h2
      have h0:=h.T t;rw[hs]at h0;refine⟨fun _=>ht.anF ?_,fun hne=>absurd tg hne⟩;have:=h0.1 hg;cases z<;>first | rfl | exact this.elim
     ·exact ht
    | _=>rw[hs]at ht;exact ht
 ·show upd s.gs g true g'=true;have hx:upd s.T d (.gd g want v) t= .gd g' w1 x:=hx;by_cases e:t=d
  ·subst e;rw[ax]at hx;cases hx;exact ax _ _ _
  ·rw[aI _ _ e]at hx;by_cases e3:g'=g
   ·rw[e3,ax]
   ·rw[aI _ _ e3];exact h.gs _ _ _ _ hx
def SW(h:St B β stk s a w){ops:Array Oper}: ∀ (n:Nat) (o:Oper) {c:Bool},Ky ops s n o=some c→asw o (yielded ops a.tmps)=true→c=true
 | 0,_,_,he,_=>by cases he
 | n+1,o,c,he,hw=>by
  unfold Ky at he;cases hg:o.guard with
  | none=>rw[hg]at he;cases he;rfl
  | some jw=>
   obtain⟨j,want⟩:=jw;rw[hg]at he;obtain⟨oj,hj,he⟩:=aqw.1 he;obtain⟨g,hgd,he⟩:=aqw.1 he;have apN:(ops[j]?).bind (·.dst)=some g:=by rw[hj];exact hgd
   have hy:yielded ops a.tmps j=some want:=by simpa[asw,hg] using hw
   have htg:=uF apN hy;have hT:=h.T g;split at he
   ·rename_i c0 hc0;rw[hc0,htg]at hT;have hT:Value.bool want=Value.bool c0:=hT;cases hT;cases he;cases want<;>rfl
   ·rename_i vs hc0;rw[hc0,htg]at hT;cases (show Value.bool want=Value.tuple vs from hT)
   ·rename_i g' w' c0 hc0;rw[hc0]at hT;split at he
    ·rename_i j' w2 hoj;split at he
     ·rename_i g2 hg2;split at he
      ·rename_i e1 e2;obtain rfl:=aD e1;obtain rfl:w'=w2:=by simpa using e2
       obtain⟨b,hb,he⟩:=aqw.1 he;by_cases hq:dq a g'= .bool w'
       ·have hv:dq a g= .bool c0:=hT.1 hq;rw[htg]at hv;cases hv;have hb1:=SW h n oj hb (by
         have:yielded ops a.tmps j'=some w':=uG hg2 hq;simp[asw,hoj,this])
        rw[hb1]at he;cases he;cases want<;>rfl
       ·have hv:dq a g=undef:=hT.2 hq;rw[htg]at hv;cases hv
      ·cases he
     ·cases he
    ·cases he
   ·cases he
def adL{c:Option Bool}{q:Bool}(h:ajB c q=true)(hc: ∀ b,c=some b→b=true):q=true:=by
 cases c with
 | none=>exact h
 | some b=>
  obtain rfl:=hc b rfl;cases q with
  | true=>rfl
  | false=>cases h
def R4(hP:C.P=B.P)(hC:mQ C B){ops:Array Oper}{i:Nat}{o:Oper}(hi:ops[i]? =some o)(h:St B β stk s a w){b:Nat}(hb: ∀ j,b≤j→j < b+16→s.H j=none)
  (he:evG C (af S) ops o b s some=some s'){K:Act→World→Prop}{Q:Exit→Act→World→Prop}(hK:Em B stk a o.dst s' K):wpOp B.P ops Q i K a w:=by
 unfold wpOp;simp only[hi];unfold evG at he;split at he
 ·rename_i hg;have hw:asw o (yielded ops a.tmps)=true:=by simp[asw,hg]
  rw[aqh hw];exact .inl (Wz hP hC h hb he hK)
 ·rename_i j want hg;have hwd:asw o (yielded ops a.tmps)=(yielded ops a.tmps j == some want):=by simp[asw,hg]
  rw[hwd];split at he
  ·cases he
  ·rename_i g hgd hsp;split at he
   ·rename_i q v akG hv;split at he
    ·rename_i hn;split at he
     case isFalse=>cases he
     rename_i aow;cases he;obtain⟨d,hd⟩: ∃ d,o.dst=some d:=by
      cases hd:o.dst with
      | none=>rw[hd]at hsp;cases hsp
      | some d=>exact⟨d,rfl⟩
     rw[hd]at akG hv;by_cases hy:yielded ops a.tmps j=some want
     ·have htg:=uF hgd hy;rw[aqh (by simp[hy])];have hh:=(YB akG).1;have hqt:q=true:=adL aow (fun b hb=>SW h 4 o hb (by rw[hwd,hy];simp));subst hqt;have he:hY C (af S) o b (s.narrow g want) some=some ((s.narrow g want).put o.dst v):=
       aeD (by rw[hd];exact hh) (by rw[hd];exact hv)
      refine .inl (Wz hP hC (h.narrow htg) (s:=s.narrow g want) hb he ?_);intro β' u w' h';rw[hd]at h' ⊢;have:=hK β' u w';rw[hd]at this;exact this (h.al7 htg akG hn h')
     ·rw[aqg (by simpa using hy)];have hne:dq a g≠ .bool want:=fun e=>hy (uG hgd e);have:=hK β undef w;rw[hd]at this ⊢;exact this ((h.more g).put akG ⟨fun e=>absurd e hne,fun _=>rfl⟩ (fun g' w1 x e=>by cases e;exact ax _ _ _))
    ·cases he
   ·cases he
  ·rename_i g hgd hsp;split at he
   ·rename_i c hT;have htg:dq a g= .bool c:=by have:=h.T g;rw[hT]at this;exact this
    have hy:yielded ops a.tmps j=some c:=uG hgd htg;rw[hy];have hn: ∀ w0:Bool,c=w0→St B β stk { s with T:=upd s.T g (.b w0) } a w:=by
     intro w0 e;subst e;refine⟨fun t=> ?_,h.stack,h.n,h.defers,h.pins,fun t g' w' x hx=> ?_,h.hs⟩
     ·show RT w β (dq a) (upd s.T g (.b c) t) (dq a t);by_cases e:t=g
      ·subst e;rw[ax,htg];rfl
      ·rw[aI _ _ e];exact h.T t
     ·have hx:upd s.T g (.b c) t= .gd g' w' x:=hx;by_cases e:t=g
      ·subst e;rw[ax]at hx;cases hx
      ·rw[aI _ _ e]at hx;exact h.gs _ _ _ _ hx
    have yes:hY C (af S) o b { s with T:=upd s.T g (.b want) } some=some s'→c=want→
      (if(some c == some want)=true then o.wp B.P a w K Q∨(o.asks B.P a w∧LetsOut Q) else K (a.put o.dst undef) w):=by
     intro he e;rw[aqh (by simp[e])];exact .inl (Wz hP hC (hn want e) hb he hK)
    have no:(match s.has o.dst with
      | true=>some (({ s with T:=upd s.T g (.b (!want)) } :S).put o.dst oZ)
      | false=>none)=some s'→c= !want→
      (if(some c == some want)=true then o.wp B.P a w K Q∨(o.asks B.P a w∧LetsOut Q) else K (a.put o.dst undef) w):=by
     intro he e;rw[aqg (by subst e;cases want<;>simp)];split at he
     ·rename_i akG;cases he;exact hK β undef w ((hn (!want) e).put (by exact akG) (u:=undef) rfl (fun g' w1 x e=>by cases e))
     ·cases he
    cases want<;>cases c<;>simp only[aqm,if_false,ar2]at he
    ·exact yes he rfl
    ·exact no he rfl
    ·exact no he rfl
    ·exact yes he rfl
   ·rename_i vs hT;have htg:dq a g= .tuple vs:=by have:=h.T g;rw[hT]at this;exact this
    have hy: ¬ (yielded ops a.tmps j == some want)=true:=by
     intro e;have:=uF hgd (show yielded ops a.tmps j=some want by simpa using e);rw[htg]at this;cases this
    rw[aqg hy];split at he
    ·rename_i akG;cases he;exact hK β undef w (h.put akG (u:=undef) rfl (fun g' w1 x e=>by cases e))
    ·cases he
   ·cases he
end
end Go.VS
namespace Go.VS
open Go
def In1(F:Nat→Prop):AV→Prop
 | .own id=>F id
 | .ptr id _ _ _=>F id
 | .agg _=>False
 | .tup _=>False
 | .gd _ _ _=>False
 | _=>True
def In2(F:Nat→Prop):AV→Prop
 | .agg cs=> ∀ c∈cs,In1 F c
 | v=>In1 F v
def In3(F:Nat→Prop):AV→Prop
 | .tup vs=> ∀ v∈vs,In2 F v
 | v=>In2 F v
def InA(F:Nat→Prop):AV→Prop
 | .gd _ _ v=>In3 F v
 | v=>In3 F v
def wH(F:Nat→Prop):Ob→Prop
 | .box _ cs=> ∀ c∈cs,In1 F c
 | _=>True
def aj8(F:Nat→Prop)(H:Hp):Prop:= ∀ id ob,F id→H id=some ob→wH F ob
def Agr(F:Nat→Prop)(H H':Hp):Prop:= ∀ id,F id→H' id=H id
section
variable {F:Nat→Prop} {H H':Hp} {P:Program} {kd:TypeId→Option K} {ρ ρ':Operand→AV} {b:Nat}
def In2.of1{v:AV}(h:In1 F v):In2 F v:=by
 cases v<;>first | exact h | exact h.elim
def In3.of2{v:AV}(h:In2 F v):In3 F v:=by
 cases v<;>first | exact h | exact(show False from h).elim
def InA.of3{v:AV}(h:In3 F v):InA F v:=by
 cases v<;>first | exact h | exact(show False from h).elim
def InA.of1{v:AV}(h:In1 F v):InA F v:= .of3 (.of2 (.of1 h))
def InA.of2{v:AV}(h:In2 F v):InA F v:= .of3 (.of2 h)
def In1.akp{v:AV}(h:akp v=true):In1 F v:=by
 cases v<;>first | trivial | cases h
def JW(k:K)(x:Tof k): ∀ c∈enc k x,In1 F c:=fun c hc=> .akp (arp.1 (abK k x) c hc)
def zf{t:TypeId}{cs:List AV}{o:Nat}{v:AV}(hc: ∀ c∈cs,In1 F c)(h:uv P t cs o=some v):InA F v:=by
 unfold uv at h;split at h
 ·split at h
  ·cases h;exact .of2 fun c hm=>hc c (asx (arS hm))
  ·cases h
 ·exact .of1 (hc v (aqT h))
 ·cases h
def afg{t:TypeId}{p:AV}(hp:InA F p)(hH:Agr F H H'):C9 P H' t p=C9 P H t p:=by
 unfold C9;cases p with
 | ptr id z i o=>simp only[hH id hp]
 | _=>rfl
def afh{N:Nat→Prop}{t:TypeId}{p v:AV}(hp:InA N p)(hH: ∀ id ob,N id→H id=some ob→wH F ob)(h:C9 P H t p=some v):InA F v:=by
 unfold C9 at h;split at h
 ·exact zf (JW _ _) h
 ·rename_i id z i o;split at h
  ·rename_i hid;split at h
   ·exact zf (hH id _ hp hid) h
   ·cases h
  ·split at h
   ·exact zf (JW _ _) h
   ·cases h
  ·split at h
   ·split at h<;>cases h;trivial
   ·split at h
    ·exact zf (JW _ _) h
    ·cases h
  ·cases h
 ·cases h
def Xl{k:K}{v:AV}(hv:InA F v)(hH:Agr F H H'):gQ H' k v=gQ H k v:=by
 cases v with
 | own id=>simp only[gQ,hH id hv]
 | lit v=>cases v with
  | slice a n c=>cases a<;>cases n<;>cases c<;>rfl
  | _=>rfl
 | _=>rfl
def Wo{k:K}{v:AV}(hv:InA F v)(hH:Agr F H H'):P1 H' k v=P1 H k v:=by
 cases v with
 | own id=>simp only[P1,gQ,hH id hv]
 | lit v=>cases v with
  | slice a n c=>cases a<;>cases n<;>cases c<;>rfl
  | _=>rfl
 | _=>rfl
def IE{t:TypeId}{v:AV}(hv:InA F v)(hH:Agr F H H'):fu P H' t v=fu P H t v:=by
 unfold fu;generalize P.underlying t=u;rcases u with _ | d
 ·rfl
 cases d<;>cases v<;>first | rfl | (simp only[hH _ hv];done) | (rename_i v;cases v<;>rfl)
def Yv{t:TypeId}{i:Int}{v:AV}(hv:InA F v)(hH:Agr F H H'):qS P H' t i v=qS P H t i v:=by
 unfold qS;cases v with
 | own id=>simp only[hH id hv]
 | ptr id z i o=>
  cases i<;>cases o<;>first | (simp only[hH id hv];done) | rfl
 | _=>rfl
def aiT{v v':AV}{q:Bool}{os:List Ob}(hv:InA F v)(h:okN v=some (q,v',os)):InA F v'∧os=[]:=by
 obtain⟨rfl,_,rfl,_⟩:=sZ h;exact⟨hv,rfl⟩
def aiU{v v':AV}{q:Bool}{os:List Ob}(hv:InA F v)(h:okA v=some (q,v',os)):InA F v'∧os=[]:=by
 obtain⟨rfl,_,rfl⟩:=bq h;exact⟨hv,rfl⟩
def PIn(F:Nat→Prop)(r:PR):Prop:= ∀ q v os,r=some (q,v,os)→InA F v∧os.length≤1∧ ∀ ob∈os,wH F ob
def PIn.okN{v:AV}(hv:InA F v):PIn F (okN v):=fun q v' os h=>by
 obtain⟨h1,rfl⟩:=aiT hv h;exact⟨h1,by simp,by simp⟩
def PIn.okA{v:AV}(hv:InA F v):PIn F (okA v):=fun q v' os h=>by
 obtain⟨h1,rfl⟩:=aiU hv h;exact⟨h1,by simp,by simp⟩
def PIn.lit{v:Value}:PIn F (VS.okA (.lit v)):= .okA (.of1 trivial)
def PIn.none:PIn F .none:=fun q v os h=>by cases h
def PIn.nil{q:Bool}{v:AV}(hv:InA F v):PIn F (some (q,v,[])):=fun q v' os h=>by cases h;exact⟨hv,by simp,by simp⟩
def PIn.one{q:Bool}{v:AV}{ob:Ob}(hv:InA F v)(ho:wH F ob):PIn F (some (q,v,[ob])):=fun q v' os h=>by
 cases h;exact⟨hv,by simp,fun ob' hm=>by simp at hm;subst hm;exact ho⟩
def PIn.bind{α:Type}{o:Option α}{f:α→PR}(h: ∀ a,o=some a→PIn F (f a)):PIn F (o.bind f):=by
 cases o with
 | none=>exact .none
 | some a=>exact h a rfl
def ahY(op:BinOp)(k:IntKind)(x y:Int):PIn F (agp op k x y):=by
 cases op<;>first | exact .lit | exact .none | exact .nil (.of1 trivial)
def ahX(op:BinOp)(x y:aqp):PIn F (ago op x y):=by
 cases op<;>first | exact .lit | exact .none | exact .nil (.of1 trivial)
def ahZ(op:BinOp)(t:TypeId)(x y:AV):PIn F (aaV P op t x y):=by
 unfold aaV;split
 ·split
  ·exact ahY _ _ _ _
  ·exact .none
 ·exact ahX _ _ _
 ·split<;>first | exact .lit | exact .none
 ·split<;>first | exact .lit | exact .none
 ·exact .none
def aiv(op:UnOp)(x:AV):PIn F (unA op x):=by
 unfold unA;split<;>first | exact .lit | exact .none
def aeT{c x y:Operand}(hx:InA F (ρ x))(hy:InA F (ρ y)):PIn F (Qq ρ c x y):=by
 unfold Qq;split
 ·split
  ·exact .lit
  ·split
   ·exact .lit
   ·exact .okN hy
 ·split
  ·exact .lit
  ·split
   ·exact .okN hx
   ·exact .lit
 ·split
  ·exact .okN hx
  ·exact .okN hy
 ·exact .none
def EO{v:AV}{cs:List AV}(hv:InA F v)(h:kt v=some cs): ∀ c∈cs,In1 F c:=by
 cases v with
 | un=>cases h
 | gd=>cases h
 | tup=>cases h
 | arr=>cases h
 | agg cs=>cases h;exact hv
 | lit v=>cases v<;>first | (cases h;done) | (cases h;intro c hc;simp at hc;subst hc;trivial)
 | _=>cases h;intro c hc;simp at hc;subst hc;exact hv
def Xn{t:TypeId}{zs:List AV}(h:u9 P t=some zs): ∀ c∈zs,In1 F c:=by
 obtain⟨i,_,h⟩:=aqw.1 h;obtain⟨z,_,h⟩:=aqw.1 h;split at h
 ·cases h;intro c hc;obtain⟨v,_,rfl⟩:=arv.1 hc;trivial
 ·cases h
def KY{cs ys:List AV}{o:Nat}(hc: ∀ c∈cs,In1 F c)(hy: ∀ c∈ys,In1 F c): ∀ c∈kV cs o ys,In1 F c:=by
 intro c h;unfold kV at h;simp only[aqL]at h;rcases h with(h | h) | h
 ·exact hc c (arS h)
 ·exact hy c h
 ·exact hc c (asx h)
def V3{t:TypeId}: ∀ (l:List (Nat×Operand)) (cs:List AV) {r:List AV},(∀ p∈l,InA F (ρ p.2))→(∀ c∈cs,In1 F c)→oN P ρ t l cs=some r→ ∀ c∈r,In1 F c
 | [],cs,r,_,hc,h=>by cases h;exact hc
 | (i,x)::l,cs,r,hl,hc,h=>by
  obtain⟨f,_,h⟩:=aqw.1 h;obtain⟨ys,h2,h⟩:=aqw.1 h;split at h
  ·exact V3 l _ (fun p hp=>hl p (aqx _ hp)) (KY hc (EO (hl _ (aqA)) h2)) h
  ·cases h
def V2{t:TypeId}: ∀ (l:List (Nat×Operand)) (cs:List AV),(∀ p∈l,ρ' p.2=ρ p.2)→oN P ρ' t l cs=oN P ρ t l cs
 | [],cs,_=>rfl
 | (i,x)::l,cs,hl=>by
  have ih: ∀ cs,oN P ρ' t l cs=oN P ρ t l cs:=fun cs=>V2 l cs fun p hp=>hl p (aqx _ hp);have h1:ρ' x=ρ x:=hl (i,x) (aqA);simp only[oN,h1,ih]
def Vk: ∀ (l:List (Nat×Operand)) (n:Nat),(∀ p∈l,ρ' p.2=ρ p.2)→ov ρ' n l=ov ρ n l
 | [],_,_=>rfl
 | (i,x)::l,n,hl=>by
  have ih: ∀ n,ov ρ' n l=ov ρ n l:=fun n=>Vk l n fun p hp=>hl p (aqx _ hp);have h1:ρ' x=ρ x:=hl (i,x) (aqA);simp only[ov,h1,ih]
def acQ: ∀ (l:List (Nat×Operand)),(∀ p∈l,ρ' p.2=ρ p.2)→x9 ρ' l=x9 ρ l:=fun l hl=>by
 unfold x9
 induction l with
 | nil=>rfl
 | cons p l ih=>simp only[asL,hl p (aqA),ih fun q hq=>hl q (aqx _ hq)]
def acC(lo hi:Option AV)(v:AV):PIn F (K7 lo hi v):=by
 unfold K7;split<;>first | exact .none | exact .bind fun a _=> .nil (.of1 trivial)
def age(hb:F 0)(s d:TypeId)(v:AV):PIn F (z7 P s d v):=by
 unfold z7;split
 ·exact .lit
 ·exact .lit
 ·split
  ·exact .one (.of1 hb) trivial
  ·exact .none
 ·exact .none
def ahm(t:TypeId)(i:Int)(v:AV):PIn F (adl P t i v):=by
 unfold adl;split
 ·split
  ·exact .nil (.of1 trivial)
  ·exact .none
 ·split
  ·split
   ·exact .bind fun v hv=> .nil (zf (JW _ _) hv)
   ·exact .none
  ·exact .none
 ·exact .none
def Yw{t:TypeId}{i:Int}{v:AV}(hv:InA F v):PIn F (qS P H t i v):=by
 unfold qS;split
 ·split
  ·split
   ·exact .nil (.of1 trivial)
   ·exact .none
  ·exact .none
 ·split
  ·split
   ·exact .nil (.of1 hv)
   ·exact .none
  ·exact .none
 ·split
  ·split
   ·exact .nil (.of1 hv)
   ·exact .none
  ·exact .none
 ·exact .none
def Zf(c:Call):PIn F (BZ P ρ H c):=by
 unfold BZ;split
 ·split<;>first | exact .lit | exact .none | skip
  split<;>first | exact .lit | exact .none
 ·split
  ·split<;>first | exact .lit | exact .none
  ·exact .none
 ·split
  ·split<;>first | exact .lit | exact .none
  ·exact .none
 ·exact .none
def Ze{c:Call}(hρ: ∀ x∈c.args.toList,ρ' x=ρ x)(hF: ∀ x∈c.args.toList,InA F (ρ x))(hH:Agr F H H'):BZ P ρ' H' c=BZ P ρ H c:=by
 obtain⟨cal,⟨args⟩,⟨tys⟩⟩:=c;simp only at hρ hF;unfold BZ;simp only;split
 ·rename_i x t;rw[hρ x (by simp)];have hx:=hF x (by simp);generalize ρ x=v at hx;generalize P.underlying t=u;rcases u with _ | d
  ·rfl
  cases d<;>cases v<;>first | rfl | (simp only[hH _ hx];done) | (rename_i v;cases v<;>first | rfl | (rename_i a n c;cases a<;>cases n<;>cases c<;>rfl))
 ·rename_i x y;rw[hρ x (by simp),hρ y (by simp)]
 ·rename_i x y;rw[hρ x (by simp),hρ y (by simp)]
 ·rfl
def Vf{N:Nat→Prop}{op:Op}(hF: ∀ x∈op.operands,InA F (ρ x))(hN:mov op=true∨ ∀ x∈op.operands,InA N (ρ x))(hH: ∀ id ob,N id→H id=some ob→wH F ob)(hb:F b):PIn F (bD P kd ρ H b op):=by
 cases op<;>simp only[bD]<;>try (exact .none)
 case move x=>exact .okN (hF x (by simp[aqO]))
 case assign x=>exact .okN (hF x (by simp[aqO]))
 case pick c x y=>exact aeT (hF x (by simp[aqO])) (hF y (by simp[aqO]))
 case alloc t=>
  split
  ·refine .bind fun k hk=> .bind fun zs hz=> ?_;split
   ·exact .one (.of1 hb) trivial
   ·exact .none
  ·exact .bind fun zs hz=> .one (.of1 hb) (Xn hz)
 case box t x=>exact .bind fun cs hc=> .one (.of1 hb) (EO (hF x (by simp[aqO])) hc)
 case build t ps=>
  refine .bind fun zs hz=> ?_;split
  ·split
   ·refine .bind fun cs hc=> .okA (.of2 ?_);refine V3 _ _ (fun p hp=>hF p.2 ?_) (Xn hz) hc;simp only[aqO,ato,arv];exact⟨p,hp,rfl⟩
   ·exact .none
  ·exact .none
 case buildSlice t n ps=>
  refine .bind fun e _=> .bind fun k _=> .bind fun vs _=> .bind fun xs _=> ?_;split
  ·exact .one (.of1 hb) trivial
  ·exact .none
 case load t p=>
  exact .bind fun v hv=> .okA (afh (hN.resolve_left (by simp[mov]) p (by simp[aqO])) hH hv)
 case nilCheck p=>
  have hp:=hF p (by simp[aqO]);split<;>first | exact .none | (rename_i e;rw[e]at hp;exact .okA hp)
 case binOp=>exact ahZ _ _ _ _
 case unOp=>exact aiv _ _
 case convert src dst x=>
  split
  ·split
   ·exact .bind fun v hv=> .lit
   ·exact .none
  ·split
   ·rename_i c id os h;intro q v os' e;cases e;have:=age (F:=fun _=>True) trivial src dst (ρ x) _ _ _ h;refine⟨.of1 hb,this.2.1,fun ob ho=> ?_⟩;unfold z7 at h;split at h<;>first | (cases h;done) | skip
    split at h
    ·cases h;simp at ho;subst ho;trivial
    ·cases h
   ·rename_i h;intro q v os e;unfold z7 at e;split at e
    ·cases e;exact⟨.of1 trivial,by simp,by simp⟩
    ·cases e;exact⟨.of1 trivial,by simp,by simp⟩
    ·split at e
     ·cases e;exact(h _ 0 _ (by simp only[z7, *];rfl)).elim
     ·cases e
    ·cases e
 case makeSlice t l c=>
  split
  ·refine .bind fun e _=> .bind fun k _=> ?_;split
   ·exact .one (.of1 hb) trivial
   ·exact .none
  ·split
   ·refine .bind fun e _=> .bind fun k _=> ?_;split
    ·exact .one (.of1 hb) trivial
    ·exact .none
   ·exact .none
  ·exact .none
 case slice t x lo hi mx=>
  cases mx with
  | some m=>exact .none
  | none=>
   simp only;split
   ·exact acC _ _ _
   ·exact .none
 case fieldAddr t x f=>
  have hx:=hF x (by simp[aqO]);refine .bind fun fd _=> ?_;split
  ·split
   ·rename_i e;rw[e]at hx;exact .okA (.of1 hx)
   ·exact .okA (.of1 trivial)
   ·exact .none
  ·exact .none
 case field t x f=>
  have hx:=hF x (by simp[aqO]);refine .bind fun fd _=> ?_;split
  ·rename_i cs e;rw[e]at hx;exact .bind fun v hv=> .okA (zf hx hv)
  ·exact .none
 case indexAddr t x ix=>
  have hx:=hF x (by simp[aqO]);split
  ·exact Yw hx
  ·exact .none
 case index t x ix=>
  split
  ·exact ahm _ _ _
  ·exact .none
 case extract x i=>
  have hx:=hF x (by simp[aqO]);split
  ·rename_i vs e;rw[e]at hx;exact .bind fun v hv=> .okA (.of2 (hx v (aqT hv)))
  ·exact .none
 case call c=>exact Zf c
def Ew{op:Op}(hρ: ∀ x∈op.operands,ρ' x=ρ x)(hF0:mov op=true∨ ∀ x∈op.operands,InA F (ρ x))(hH:Agr F H H'):bD P kd ρ' H' b op=bD P kd ρ H b op:=by
 have one: ∀ {x:Operand},x∈op.operands→ρ' x=ρ x:=fun h=>hρ _ h;cases op<;>simp only[bD]
 case move x=>rw[hρ x (by simp[aqO])]
 case assign x=>rw[hρ x (by simp[aqO])]
 case pick c x y=>
  have h1:=hρ c (by simp[aqO]);have h2:=hρ x (by simp[aqO]);have h3:=hρ y (by simp[aqO]);unfold Qq;rw[h1];split
  ·simp only[h3]
  ·simp only[h2]
  ·simp only[h2,h3]
  ·rfl
 case box t x=>rw[hρ x (by simp[aqO])]
 case build t ps=>
  have: ∀ zs,oN P ρ' t ps.toList zs=oN P ρ t ps.toList zs:=fun zs=>V2 _ _ fun p hp=>hρ p.2 (by
   simp only[aqO,ato,arv];exact⟨p,hp,rfl⟩)
  simp only[this]
 case buildSlice t n ps=>
  have:ov ρ' 0 ps.toList=ov ρ 0 ps.toList:=Vk _ _ fun p hp=>hρ p.2 (by
   simp only[aqO,ato,arv];exact⟨p,hp,rfl⟩)
  simp only[this]
 case load t p=>
  have hF:=hF0.resolve_left (by simp[mov]);rw[hρ p (by simp[aqO]),afg (hF p (by simp[aqO])) hH]
 case nilCheck p=>rw[hρ p (by simp[aqO])]
 case binOp o t x y t2=>rw[hρ x (by simp[aqO]),hρ y (by simp[aqO])]
 case unOp o t x=>rw[hρ x (by simp[aqO])]
 case convert src dst x=>
  have hF:=hF0.resolve_left (by simp[mov]);rw[hρ x (by simp[aqO]),Xl (hF x (by simp[aqO])) hH]
 case makeSlice t l c=>rw[hρ l (by simp[aqO]),hρ c (by simp[aqO])]
 case slice t x lo hi mx=>
  have hF:=hF0.resolve_left (by simp[mov]);cases mx with
  | some m=>rfl
  | none=>
   have h1:=hρ x (by simp[aqO]);have h2:lo.map ρ'=lo.map ρ:=by cases lo with
    | none=>rfl
    | some l=>exact congrArg some (hρ l (by simp[aqO]))
   have h3:hi.map ρ'=hi.map ρ:=by cases hi with
    | none=>rfl
    | some l=>exact congrArg some (hρ l (by simp[aqO]))
   simp only;rw[h1,h2,h3,IE (hF x (by simp[aqO])) hH]
 case fieldAddr t x f=>rw[hρ x (by simp[aqO])]
 case field t x f=>rw[hρ x (by simp[aqO])]
 case indexAddr t x ix=>
  have hF:=hF0.resolve_left (by simp[mov]);rw[hρ x (by simp[aqO]),hρ ix (by simp[aqO])];split
  ·rw[Yv (hF x (by simp[aqO])) hH]
  ·rfl
 case index t x ix=>rw[hρ x (by simp[aqO]),hρ ix (by simp[aqO])]
 case extract x i=>rw[hρ x (by simp[aqO])]
 case call c=>
  have hF:=hF0.resolve_left (by simp[mov]);refine Ze (fun x hx=>hρ x ?_) (fun x hx=>hF x ?_) hH<;>
  ·simp only[aqO,asV,asC];exact .inr (by simpa using hx)
end
end Go.VS
namespace Go.VS
open Go
inductive Fk where
 | no
 | kl
 | fz (k:K) (xs:List (Tof k))
def Fk.f(id:Nat):Fk→AV→AV
 | .no=>fun v=>v
 | .kl=>kl1 id
 | .fz k xs=>fz1 id k xs
structure Step where
 id:Nat
 fk:Fk
 ob:Option Ob
def S.app(s:S)(e:Step):S:=(s.map (e.fk.f e.id)).akD e.id e.ob
def alb(F:Nat→Prop)(e:Step):Prop:= ∀ ob,e.ob=some ob→wH F ob
def Loc{α:Type}(F W:Nat→Prop)(g:S→Option (α×S))(s:S)(x:α)(s':S):Prop:=
 ∃ es:List Step,(∀ e∈es,W e.id∧alb F e)∧s'=es.foldl S.app s∧ ∀ s2:S,Agr F s.H s2.H→g s2=some (x,es.foldl S.app s2)
section
variable {F W:Nat→Prop} {H H':Hp} {P:Program} {kd:TypeId→Option K} {s s' s2:S} {b:Nat}
def afe(v:AV):oQ (fun v=>v) v=v:=by cases v<;>simp[oQ]
def Vq:(oQ fun v=>v)=id:=funext afe
def afd(v:AV):p6 (fun v=>v) v=v:=by
 cases v<;>simp[p6,Vq]
 all_goals simp[oQ]
def ahe(v:AV):vK (fun v=>v) v=v:=by
 cases v with
 | gd g w v=>simp[vK,afd]
 | tup vs=>simp[vK,p6,Vq]
 | _=>simp[vK,p6,oQ]
def afc(o:Option Ob):gT (fun v=>v) o=o:=by
 cases o with
 | none=>rfl
 | some o=>cases o<;>simp[gT]
def map_id(s:S):s.map (fun v=>v)=s:=by
 cases s;simp[S.map,ahe,afc]
def mv(s:S)(id:Nat)(o:Option Ob):s.app ⟨id,.no,o⟩=s.akD id o:=by
 simp[S.app,Fk.f,map_id]
def UW(s:S)(e:Step)(j:Nat):(s.app e).H j=if j=e.id then e.ob else gT (e.fk.f e.id) (s.H j):=by
 show upd (fun j=>gT (e.fk.f e.id) (s.H j)) e.id e.ob j=_;by_cases h:j=e.id
 ·subst h;rw[ax];simp
 ·rw[aI _ _ h];simp[h]
def Agr.app(h:Agr F s.H s2.H)(e:Step):Agr F (s.app e).H (s2.app e).H:=fun id hid=>by rw[UW,UW,h id hid]
def Agr.aoB{es:List Step}(h:Agr F s.H s2.H):Agr F (es.foldl S.app s).H (es.foldl S.app s2).H:=by
 induction es generalizing s s2 with
 | nil=>exact h
 | cons e es ih=>exact ih (h.app e)
def Agr.refl(F:Nat→Prop)(H:Hp):Agr F H H:=fun _ _=>rfl
def Fk.anQ(id:Nat)(fk:Fk){c:AV}(h:In1 F c):In1 F (fk.f id c):=by
 cases fk with
 | no=>exact h
 | kl=>
  show In1 F (kl1 id c);unfold kl1;split
  ·split
   ·trivial
   ·exact h
  ·split
   ·trivial
   ·exact h
  ·exact h
 | fz k xs=>
  show In1 F (fz1 id k xs c);unfold fz1;split
  ·split
   ·trivial
   ·exact h
  ·split
   ·trivial
   ·exact h
  ·exact h
def abl{f:AV→AV}(hf: ∀ c,In1 F c→In1 F (f c)){o:Option Ob}(h: ∀ ob,o=some ob→wH F ob): ∀ ob,gT f o=some ob→wH F ob:=by
 intro ob e;cases o with
 | none=>cases e
 | some o=>
  have:=h o rfl;cases o with
  | box t cs=>
   cases e;intro c hc;obtain⟨c0,h0,rfl⟩:=arv.1 hc;exact hf _ (this c0 h0)
  | _=>cases e;trivial
def aj8.app{e:Step}(h:aj8 F s.H)(he:alb F e):aj8 F (s.app e).H:=by
 intro j ob hj hob;rw[UW]at hob;split at hob
 ·exact he ob hob
 ·exact abl (fun c hc=>Fk.anQ _ _ hc) (fun ob ho=>h j ob hj ho) ob hob
def RR(s:S)(id:Nat): ∃ fk,s.freeze id=s.app ⟨id,fk,none⟩∧ ∀ s2:S,s2.H id=s.H id→s2.freeze id=s2.app ⟨id,fk,none⟩:=by
 cases h:s.H id with
 | none=>exact⟨.kl,by simp only[S.freeze,h];rfl,fun s2 h2=>by simp only[S.freeze,h2];rfl⟩
 | some ob=>
  cases ob with
  | row e fz k xs=>exact⟨.fz k xs,by simp only[S.freeze,h];rfl,fun s2 h2=>by simp only[S.freeze,h2];rfl⟩
  | box e cs=>exact⟨.kl,by simp only[S.freeze,h];rfl,fun s2 h2=>by simp only[S.freeze,h2];rfl⟩
  | arr e k xs=>exact⟨.kl,by simp only[S.freeze,h];rfl,fun s2 h2=>by simp only[S.freeze,h2];rfl⟩
def xD: ∀ (ids:List Nat) (s:S),(∀ i∈ids,F i)→ ∃ es:List Step,(∀ e∈es,e.id∈ids∧e.ob=none)∧ids.foldl S.freeze s=es.foldl S.app s∧ ∀ s2:S,Agr F s.H s2.H→ids.foldl S.freeze s2=es.foldl S.app s2
 | [],s,_=>⟨[],by simp,rfl,fun _ _=>rfl⟩
 | i::ids,s,hF=>by
  obtain⟨fk,h1,h2⟩:=RR s i;obtain⟨es,h3,h4,h5⟩:=xD ids (s.freeze i) fun j hj=>hF j (aqx _ hj);refine⟨⟨i,fk,none⟩::es,fun e he=> ?_, ?_,fun s2 hs=> ?_⟩
  ·rcases aqS.1 he with rfl | he
   ·exact⟨aqA,rfl⟩
   ·exact⟨aqx _ (h3 e he).1,(h3 e he).2⟩
  ·show ids.foldl S.freeze (s.freeze i)=es.foldl S.app (s.app ⟨i,fk,none⟩);rw[h4,h1]
  ·have e1:=h2 s2 (hs i (hF i aqA));simp only[ars,e1];refine h5 _ ?_;rw[h1];exact hs.app _
def Vt: ∀ (ids:List Nat) (s:S),∃ es:List Step,(∀ e∈es,e.id∈ids∧e.ob=none)∧ids.foldl S.kill s=es.foldl S.app s∧ ∀ s2:S,ids.foldl S.kill s2=es.foldl S.app s2
 | [],s=>⟨[],by simp,rfl,fun _=>rfl⟩
 | i::ids,s=>by
  obtain⟨es,h3,h4,h5⟩:=Vt ids (s.kill i);refine⟨⟨i,.kl,none⟩::es,fun e he=> ?_, ?_,fun s2=> ?_⟩
  ·rcases aqS.1 he with rfl | he
   ·exact⟨aqA,rfl⟩
   ·exact⟨aqx _ (h3 e he).1,(h3 e he).2⟩
  ·exact h4
  ·exact h5 _
def ajg{k:K}{cs:List AV}(hc: ∀ c∈cs,In1 F c)(hH:Agr F H H'):dec H' k cs=dec H k cs:=by
 have key: ∀ c∈cs,∀ k,gQ H' k c=gQ H k c:=fun c hm k=>Xl (.of1 (hc c hm)) hH;unfold dec;split<;>first | rfl | simp[key]
def Loc.mk1{α:Type}{g:S→Option (α×S)}{x:α}(e:Step)(hW:W e.id)(ho:alb F e)(h1:s'=s.app e)(h: ∀ s2:S,Agr F s.H s2.H→g s2=some (x,s2.app e)):Loc F W g s x s':=
 ⟨[e],fun e' he=>by simp at he;subst he;exact⟨hW,ho⟩,h1,h⟩
def aeY{ys:List AV}(hy: ∀ c∈ys,In1 F c): ∀ i∈ys.filterMap sY,F i:=by
 intro i hi;obtain⟨c,h1,h2⟩:=arH.1 hi;have:=hy c h1;cases c<;>first | (cases h2;done) | (cases h2;exact this)
def aca{t:TypeId}{x y:AV}(hx:InA F x)(hy:InA F y)(hcl:aj8 F s.H)(h:o3 P t s x y=some s'):Loc F (fun i=>i∈GL s.H x y) (fun s=>(o3 P t s x y).map fun s=>((),s)) s () s':=by
 cases x<;>first | (cases h;done) | skip
 rename_i id z i o;have hid:F id:=hx;simp only[o3]at h;split at h
 ·rename_i e cs hob;split at h
  ·obtain⟨ys,hc,h⟩:=aqw.1 h;split at h
   ·rename_i hg;cases h;refine .mk1 ⟨id,.no,some (.box e (kV cs o ys))⟩ (by simp[GL,hob]) ?_ (mv _ _ _).symm fun s2 h2=> ?_
    ·intro ob e';cases e';exact KY (hcl id _ hid hob) (EO hy hc)
    ·rw[mv];simp only[o3,h2 id hid,hob,hc,aqs,hg];rfl
   ·cases h
  ·cases h
 ·rename_i e fz k xs hob;obtain⟨ys,hc,h⟩:=aqw.1 h;split at h
  ·rename_i hg;obtain⟨v,hd,h⟩:=aqw.1 h;cases h;have hys:=EO hy hc;obtain⟨es,h3,h4,h5⟩:=xD (F:=F) (ys.filterMap sY) s (aeY hys);refine⟨es++[⟨id,.no,some (.row e fz k (xs.set i v))⟩],fun e' he=> ?_, ?_,fun s2 h2=> ?_⟩
   ·have hsw:GL s.H (.ptr id z i o) y=id::ys.filterMap sY:=by simp[GL,hob,hc]
    rw[hsw];rcases aqL.1 he with he | he
    ·exact⟨aqx _ (h3 e' he).1,fun ob eo=>by rw[(h3 e' he).2]at eo;cases eo⟩
    ·simp at he;subst he;exact⟨aqA,fun ob eo=>by cases eo;trivial⟩
   ·rw[ar0,← h4];exact(mv _ _ _).symm
   ·rw[ar0,← h5 s2 h2];have hd2:dec s2.H k (kV (enc k (xs.getD i (dfl k))) o ys)=some v:=by
     rw[ajg (KY (JW _ _) hys) h2];exact hd
    simp only[o3,h2 id hid,hob,hc,aqs,hg,hd2,ars,asQ,mv];rfl
  ·cases h
 ·rename_i e k xs hob;obtain⟨ys,hc,h⟩:=aqw.1 h;split at h
  ·rename_i hg;obtain⟨v,hd,h⟩:=aqw.1 h;cases h;refine .mk1 ⟨id,.no,some (.arr e k (xs.set i v))⟩ (by simp[GL,hob]) (fun ob e'=>by cases e';trivial) (mv _ _ _).symm fun s2 h2=> ?_;rw[mv];simp only[o3,h2 id hid,hob,hc,aqs,hg,hd];rfl
  ·cases h
 ·cases h
def aaW{t t2:TypeId}{x y v:AV}{q:Bool}(hx:InA F x)(hy:InA F y)(hb:F b)(h:q8 P kd t t2 s b x y=some (q,v,s')):
  Loc F (fun i=>i=b∨i∈Qw x) (fun s=>(q8 P kd t t2 s b x y).map fun r=>((r.1,r.2.1),r.2.2)) s (q,v) s'∧InA F v:=by
 unfold q8 at h;obtain⟨e,he,h1⟩:=aqw.1 h;obtain⟨k,hk,h2⟩:=aqw.1 h1;obtain⟨ys,hys,h3⟩:=aqw.1 h2;clear h h1 h2;revert h3;intro h;split at h
 ·rename_i hg;cases h;refine⟨.mk1 ⟨b,.no,some (.row e false k ys)⟩ (.inl rfl) (fun ob e'=>by cases e';trivial) (mv _ _ _).symm fun s2 h2=> ?_,.of1 hb⟩;rw[mv];simp only[q8,he,hk,aqs,Wo hy h2,hys,hg];rfl
 ·rename_i id hg;have hid:F id:=hx;split at h
  ·rename_i e' k' xs hob hne;split at h
   ·rename_i hee;obtain⟨zs,hz,h⟩:=aqw.1 h;cases h;refine⟨.mk1 ⟨id,.kl,some (.row e false k (zs++ys))⟩ (.inr (by simp[Qw,sY])) (fun ob e'=>by cases e';trivial) rfl fun s2 h2=> ?_,.of1 hid⟩;simp only[q8,he,hk,aqs,Wo hy h2,hys,hg,h2 id hid,hob,hne,hee,hz];rfl
   ·cases h
  ·cases h
 ·cases h
def agd{t:TypeId}{x y v:AV}(hx:InA F x)(hy:InA F y)(h:Gm P t s x y=some (v,s')):
  Loc F (fun i=>i∈Qw x) (fun s=>Gm P t s x y) s v s'∧InA F v:=by
 unfold Gm at h;split at h
 ·rename_i id;have hid:F id:=hx;split at h
  ·rename_i e fz k xs hob hne;obtain⟨e',he,h⟩:=aqw.1 h;split at h
   ·rename_i hg;obtain⟨ys,hys,h⟩:=aqw.1 h;cases h;refine⟨.mk1 ⟨id,.no,some (.row e fz k (ys.take xs.length++xs.drop ys.length))⟩ (by simp[Qw,sY]) (fun ob e'=>by cases e';trivial) (mv _ _ _).symm fun s2 h2=> ?_,.of1 trivial⟩;rw[mv];simp only[Gm,h2 id hid,hob,hne,he,aqs,hg,Wo hy h2,hys]
   ·cases h
  ·cases h
 ·cases h
def Wt{id:Nat}{z:Bool}{lo hi:Option AV}{v:AV}{q:Bool}(hid:F id)(h:lh s id z lo hi=some (q,v,s')):
  Loc F (fun i=>i=id) (fun s=>(lh s id z lo hi).map fun r=>((r.1,r.2.1),r.2.2)) s (q,v) s'∧InA F v:=by
 unfold lh at h;split at h
 ·rename_i e fz k xs hob;obtain⟨⟨c,l,hh⟩,hc,h⟩:=aqw.1 h;simp only at h;split at h
  ·cases h;refine⟨.mk1 ⟨id,.kl,some (.row e fz k (MC lo none l hh xs))⟩ rfl (fun ob e'=>by cases e';trivial) rfl fun s2 h2=> ?_,.of1 hid⟩;simp only[lh,h2 id hid,hob,hc,aqs];rfl
  ·cases h
  ·cases h;obtain⟨fk,h1,h2⟩:=RR s id;refine⟨.mk1 ⟨id,fk,none⟩ rfl (fun ob e'=>by cases e') h1 fun s2 h3=> ?_,.of1 trivial⟩;rw[← h2 s2 (h3 id hid)];simp only[lh,h3 id hid,hob,hc,aqs];rfl
 ·cases h
end
end Go.VS
namespace Go.VS
open Go
abbrev sW(es:List (Nat×Ob))(H:Hp):Hp:=es.foldl (fun H p=>upd H p.1 (some p.2)) H
section
variable {F W:Nat→Prop} {H H':Hp} {P:Program} {s s' s2:S} {b:Nat} {E:Nat→AV}
set_option linter.unusedSectionVars false
def InA.aj6{cs:List AV}(h: ∀ c∈cs,In1 F c): ∀ c∈cs,InA F c:=fun c hc=> .of1 (h c hc)
section eqs
variable (hH:Agr F H H') (hC:aj8 F H)
include hH hC
mutual
theorem agU: ∀ (h:Sh) (v:AV),InA F v→dW E H' h v=dW E H h v
 | .int _,v,_=>by cases v with
  | lit v=>cases v<;>rfl
  | _=>rfl
 | .bool,v,_=>by cases v with
  | lit v=>cases v<;>rfl
  | _=>rfl
 | .str,v,_=>by cases v with
  | lit v=>cases v<;>rfl
  | _=>rfl
 | .sl _,v,_=>by
  cases v with
  | lit v=>cases v with
   | slice a n c=>cases a<;>cases n<;>cases c<;>rfl
   | _=>rfl
  | _=>rfl
 | .arr _,v,_=>by cases v<;>rfl
 | .same _,v,_=>by
  cases v with
  | ptr id z i o=>cases i<;>cases o<;>rfl
  | _=>rfl
 | .fz k,v,hv=>Xl hv hH
 | .row e k,v,hv=>by
  cases v with
  | own id=>simp only[dW,hH id hv]
  | lit v=>cases v with
   | slice a n c=>cases a<;>cases n<;>cases c<;>rfl
   | _=>rfl
  | _=>rfl
 | .akl e k,v,hv=>by
  cases v with
  | own id=>simp only[dW,hH id hv]
  | _=>rfl
 | .abx e k,v,hv=>by
  cases v with
  | ptr id z i o=>cases i<;>cases o<;>first | rfl | simp only[dW,hH id hv]
  | _=>rfl
 | .agg l,v,hv=>by
  cases v with
  | agg cs=>exact CV l cs (InA.aj6 hv)
  | _=>rfl
 | .box e l,v,hv=>by
  cases v with
  | ptr id z i o=>
   cases i<;>cases o<;>first | rfl | skip
   simp only[dW,hH id hv];cases ho:H id with
   | none=>rfl
   | some ob=>
    cases ob with
    | box e' cs=>
     have:=CV l cs (InA.aj6 (hC id _ hv ho));simp only[this]
    | _=>rfl
  | _=>rfl
theorem CV: ∀ (l:List Sh) (cs:List AV),(∀ c∈cs,InA F c)→pX E H' l cs=pX E H l cs
 | [],[],_=>rfl
 | [],_::_,_=>rfl
 | _::_,[],_=>rfl
 | h::l,c::cs,hv=>by
  simp only[pX,agU h c (hv c aqA),CV l cs fun d hd=>hv d (aqx _ hd)]
end
mutual
theorem ahp: ∀ (h:Sh) (v:AV),InA F v→je H' h v=je H h v
 | .int _,_,_=>rfl
 | .bool,_,_=>rfl
 | .str,_,_=>rfl
 | .sl _,_,_=>rfl
 | .arr _,_,_=>rfl
 | .same _,_,_=>rfl
 | .fz k,_,_=>rfl
 | .row e k,v,_=>by cases v<;>rfl
 | .akl e k,v,_=>by cases v<;>rfl
 | .abx e k,v,_=>by
  cases v with
  | ptr id z i o=>cases i<;>cases o<;>rfl
  | _=>rfl
 | .agg l,v,hv=>by
  cases v with
  | agg cs=>exact Dx l cs (InA.aj6 hv)
  | _=>rfl
 | .box e l,v,hv=>by
  cases v with
  | ptr id z i o=>
   cases i<;>cases o<;>first | rfl | skip
   simp only[je,hH id hv];cases ho:H id with
   | none=>rfl
   | some ob=>
    cases ob with
    | box e' cs=>
     have:=Dx l cs (InA.aj6 (hC id _ hv ho));simp only[this]
    | _=>rfl
  | _=>rfl
theorem Dx: ∀ (l:List Sh) (cs:List AV),(∀ c∈cs,InA F c)→bQ H' l cs=bQ H l cs
 | [],_,_=>by simp only[bQ]
 | _::_,[],_=>by simp only[bQ]
 | h::l,c::cs,hv=>by
  simp only[bQ,ahp h c (hv c aqA),Dx l cs fun d hd=>hv d (aqx _ hd)]
end
mutual
theorem agR: ∀ (h:Sh) (v:AV),InA F v→gG H' h v=gG H h v
 | .int _,_,_=>rfl
 | .bool,_,_=>rfl
 | .str,_,_=>rfl
 | .sl _,_,_=>rfl
 | .arr _,_,_=>rfl
 | .same _,_,_=>rfl
 | .fz k,_,_=>rfl
 | .row e k,v,_=>by cases v<;>rfl
 | .akl e k,v,_=>by cases v<;>rfl
 | .abx e k,v,_=>by
  cases v with
  | ptr id z i o=>cases i<;>cases o<;>rfl
  | _=>rfl
 | .agg l,v,hv=>by
  cases v with
  | agg cs=>exact CU l cs (InA.aj6 hv)
  | _=>rfl
 | .box e l,v,hv=>by
  cases v with
  | ptr id z i o=>
   cases i<;>cases o<;>first | rfl | skip
   simp only[gG,hH id hv];cases ho:H id with
   | none=>rfl
   | some ob=>
    cases ob with
    | box e' cs=>
     have:=CU l cs (InA.aj6 (hC id _ hv ho));simp only[this]
    | _=>rfl
  | _=>rfl
theorem CU: ∀ (l:List Sh) (cs:List AV),(∀ c∈cs,InA F c)→dp H' l cs=dp H l cs
 | [],_,_=>by simp only[dp]
 | _::_,[],_=>by simp only[dp]
 | h::l,c::cs,hv=>by
  simp only[dp,agR h c (hv c aqA),CU l cs fun d hd=>hv d (aqx _ hd)]
end
mutual
theorem ahv: ∀ (h:Sh) (v:AV),InA F v→jQ H' h v=jQ H h v
 | .int _,_,_=>rfl
 | .bool,_,_=>rfl
 | .str,_,_=>rfl
 | .sl _,_,_=>rfl
 | .arr _,_,_=>rfl
 | .same _,_,_=>rfl
 | .fz k,v,_=>by cases v<;>rfl
 | .row e k,_,_=>rfl
 | .akl e k,_,_=>rfl
 | .abx e k,_,_=>rfl
 | .agg l,v,hv=>by
  cases v with
  | agg cs=>exact JP l cs (InA.aj6 hv)
  | _=>rfl
 | .box e l,v,hv=>by
  cases v with
  | ptr id z i o=>
   cases i<;>cases o<;>first | rfl | skip
   simp only[jQ,hH id hv];cases ho:H id with
   | none=>rfl
   | some ob=>
    cases ob with
    | box e' cs=>
     have:=JP l cs (InA.aj6 (hC id _ hv ho));simp only[this]
    | _=>rfl
  | _=>rfl
theorem JP: ∀ (l:List Sh) (cs:List AV),(∀ c∈cs,InA F c)→dV H' l cs=dV H l cs
 | [],_,_=>by simp only[dV]
 | _::_,[],_=>by simp only[dV]
 | h::l,c::cs,hv=>by
  simp only[dV,ahv h c (hv c aqA),JP l cs fun d hd=>hv d (aqx _ hd)]
end
end eqs
section mem
variable (hC:aj8 F H)
include hC
mutual
theorem agS: ∀ (h:Sh) (v:AV),InA F v→ ∀ i∈gG H h v,F i
 | .int _,_,_,_,hi=>by simp[gG]at hi
 | .bool,_,_,_,hi=>by simp[gG]at hi
 | .str,_,_,_,hi=>by simp[gG]at hi
 | .sl _,_,_,_,hi=>by simp[gG]at hi
 | .arr _,_,_,_,hi=>by simp[gG]at hi
 | .same _,_,_,_,hi=>by simp[gG]at hi
 | .fz k,_,_,_,hi=>by simp[gG]at hi
 | .row e k,v,hv,i,hi=>by
  cases v<;>simp[gG]at hi;subst hi;exact hv
 | .akl e k,v,hv,i,hi=>by
  cases v<;>simp[gG]at hi;subst hi;exact hv
 | .abx e k,v,hv,j,hi=>by
  cases v with
  | ptr id z i o=>
   cases i<;>cases o<;>simp[gG]at hi;subst hi;exact hv
  | _=>simp[gG]at hi
 | .agg l,v,hv,j,hi=>by
  cases v with
  | agg cs=>exact IJ l cs (InA.aj6 hv) j (by simpa[gG] using hi)
  | _=>simp[gG]at hi
 | .box e l,v,hv,j,hi=>by
  cases v with
  | ptr id z i o=>
   cases i<;>cases o<;>simp only[gG]at hi<;>first | (simp at hi;done) | skip
   cases ho:H id with
   | none=>simp[ho]at hi
   | some ob=>
    cases ob with
    | box e' cs=>
     simp only[ho]at hi;exact IJ l cs (InA.aj6 (hC id _ hv ho)) j hi
    | _=>simp[ho]at hi
  | _=>simp[gG]at hi
theorem IJ: ∀ (l:List Sh) (cs:List AV),(∀ c∈cs,InA F c)→ ∀ i∈dp H l cs,F i
 | [],cs,_,i,hi=>by simp[dp]at hi
 | _::_,[],_,i,hi=>by simp[dp]at hi
 | h::l,c::cs,hv,i,hi=>by
  simp only[dp,aqL]at hi;rcases hi with hi | hi
  ·exact agS h c (hv c aqA) i hi
  ·exact IJ l cs (fun d hd=>hv d (aqx _ hd)) i hi
end
mutual
theorem ahw: ∀ (h:Sh) (v:AV),InA F v→ ∀ i∈jQ H h v,F i
 | .int _,_,_,_,hi=>by simp[jQ]at hi
 | .bool,_,_,_,hi=>by simp[jQ]at hi
 | .str,_,_,_,hi=>by simp[jQ]at hi
 | .sl _,_,_,_,hi=>by simp[jQ]at hi
 | .arr _,_,_,_,hi=>by simp[jQ]at hi
 | .same _,_,_,_,hi=>by simp[jQ]at hi
 | .row e k,_,_,_,hi=>by simp[jQ]at hi
 | .akl e k,_,_,_,hi=>by simp[jQ]at hi
 | .abx e k,_,_,_,hi=>by simp[jQ]at hi
 | .fz k,v,hv,i,hi=>by
  cases v<;>simp[jQ]at hi;subst hi;exact hv
 | .agg l,v,hv,j,hi=>by
  cases v with
  | agg cs=>exact Dy l cs (InA.aj6 hv) j (by simpa[jQ] using hi)
  | _=>simp[jQ]at hi
 | .box e l,v,hv,j,hi=>by
  cases v with
  | ptr id z i o=>
   cases i<;>cases o<;>simp only[jQ]at hi<;>first | (simp at hi;done) | skip
   cases ho:H id with
   | none=>simp[ho]at hi
   | some ob=>
    cases ob with
    | box e' cs=>
     simp only[ho]at hi;exact Dy l cs (InA.aj6 (hC id _ hv ho)) j hi
    | _=>simp[ho]at hi
  | _=>simp[jQ]at hi
theorem Dy: ∀ (l:List Sh) (cs:List AV),(∀ c∈cs,InA F c)→ ∀ i∈dV H l cs,F i
 | [],cs,_,i,hi=>by simp[dV]at hi
 | _::_,[],_,i,hi=>by simp[dV]at hi
 | h::l,c::cs,hv,i,hi=>by
  simp only[dV,aqL]at hi;rcases hi with hi | hi
  ·exact ahw h c (hv c aqA) i hi
  ·exact Dy l cs (fun d hd=>hv d (aqx _ hd)) i hi
end
end mem
mutual
theorem cN (E:Nat→AV): ∀ (h:Sh) (H:Hp) (b:Nat) (x:LT h),b≤(ch E H b h x).2.2
 | .int _,_,b,_=>aqG b
 | .bool,_,b,_=>aqG b
 | .str,_,b,_=>aqG b
 | .sl _,_,b,_=>aqG b
 | .arr _,_,b,_=>aqG b
 | .same _,_,b,_=>aqG b
 | .fz _,_,b,_=>aqG b
 | .row _ _,_,b,_=>avb b
 | .akl _ _,_,b,_=>avb b
 | .abx _ _,_,b,_=>avb b
 | .agg l,H,b,x=>by
  have:=iN E l H b x;show b≤((match aw E H b l x with | (cs,H,b)=>(AV.agg cs,H,b)):AV×Hp×Nat).2.2;generalize aw E H b l x=r at *;obtain⟨cs,H',b'⟩:=r;exact this
 | .box e l,H,b,x=>by
  have:=iN E l H b x;show b≤((match aw E H b l x with | (cs,H,b)=>(AV.ptr b cs.length 0 0,upd H b (some (.box e cs)),b+1)):AV×Hp×Nat).2.2;generalize aw E H b l x=r at *;obtain⟨cs,H',b'⟩:=r;exact Nat.le_succ_of_le this
theorem iN (E:Nat→AV): ∀ (l:List Sh) (H:Hp) (b:Nat) (x:LTs l),b≤(aw E H b l x).2.2
 | [],_,b,_=>aqG b
 | h::l,H,b,x=>by
  have h1:=cN E h H b x.1;show b≤((match ch E H b h x.1 with | (c,H,b)=>match aw E H b l x.2 with | (cs,H,b)=>(c::cs,H,b)):List AV×Hp×Nat).2.2;generalize ch E H b h x.1=r at *;obtain⟨c,H',b'⟩:=r;have h2:=iN E l H' b' x.2;show b≤((match aw E H' b' l x.2 with | (cs,H,b)=>(c::cs,H,b)):List AV×Hp×Nat).2.2;generalize aw E H' b' l x.2=r at *;obtain⟨cs,H'',b''⟩:=r;exact ara h1 h2
end
mutual
theorem QS (E:Nat→AV) (H H':Hp): ∀ (h:Sh) (b:Nat) (x:LT h),(ch E H b h x).1=(ch E H' b h x).1∧(ch E H b h x).2.2=(ch E H' b h x).2.2
 | .int _,_,_=>⟨rfl,rfl⟩
 | .bool,_,_=>⟨rfl,rfl⟩
 | .str,_,_=>⟨rfl,rfl⟩
 | .sl _,_,_=>⟨rfl,rfl⟩
 | .arr _,_,_=>⟨rfl,rfl⟩
 | .same _,_,_=>⟨rfl,rfl⟩
 | .fz _,_,_=>⟨rfl,rfl⟩
 | .row _ _,_,_=>⟨rfl,rfl⟩
 | .akl _ _,_,_=>⟨rfl,rfl⟩
 | .abx _ _,_,_=>⟨rfl,rfl⟩
 | .agg l,b,x=>by
  have:=rE E H H' l b x;have un: ∀ H,ch E H b (.agg l) x=(match aw E H b l x with | (cs,H,b)=>(AV.agg cs,H,b)):=fun _=>rfl;rw[un,un];generalize aw E H b l x=r at *;generalize aw E H' b l x=r' at *;obtain⟨cs,H1,b1⟩:=r;obtain⟨cs',H1',b1'⟩:=r';obtain⟨rfl,rfl⟩:=this;exact⟨rfl,rfl⟩
 | .box e l,b,x=>by
  have:=rE E H H' l b x;have un: ∀ H,ch E H b (.box e l) x=(match aw E H b l x with | (cs,H,b)=>(AV.ptr b cs.length 0 0,upd H b (some (.box e cs)),b+1)):=fun _=>rfl;rw[un,un];generalize aw E H b l x=r at *;generalize aw E H' b l x=r' at *;obtain⟨cs,H1,b1⟩:=r;obtain⟨cs',H1',b1'⟩:=r';obtain⟨rfl,rfl⟩:=this;exact⟨rfl,rfl⟩
theorem rE (E:Nat→AV) (H H':Hp): ∀ (l:List Sh) (b:Nat) (x:LTs l),(aw E H b l x).1=(aw E H' b l x).1∧(aw E H b l x).2.2=(aw E H' b l x).2.2
 | [],_,_=>⟨rfl,rfl⟩
 | h::l,b,x=>by
  have h1:=QS E H H' h b x.1;have un: ∀ H,aw E H b (h::l) x=(match ch E H b h x.1 with | (c,H,b)=>match aw E H b l x.2 with | (cs,H,b)=>(c::cs,H,b)):=fun _=>rfl;rw[un,un];generalize ch E H b h x.1=r at *;generalize ch E H' b h x.1=r' at *;obtain⟨c,H1,b1⟩:=r;obtain⟨c',H1',b1'⟩:=r';obtain⟨rfl,rfl⟩:=h1;have h2:=rE E H1 H1' l b1 x.2;simp only;generalize aw E H1 b1 l x.2=r at *;generalize aw E H1' b1 l x.2=r' at *;obtain⟨cs,H2,b2⟩:=r;obtain⟨cs',H2',b2'⟩:=r';obtain⟨rfl,rfl⟩:=h2;exact⟨rfl,rfl⟩
end
mutual
theorem Jb (E:Nat→AV): ∀ (h:Sh) (b:Nat) (x:LT h) (L:Nat),dB h=true→(∀ j,b≤j→j < L→F j∧W j)→(∀ H,(ch E H b h x).2.2≤L)→
  ∃ v es b',In1 F v∧(∀ p∈es,W p.1∧wH F p.2)∧ ∀ H,ch E H b h x=(v,sW es H,b')
 | .int k,b,x,_,_,_,_=>⟨.lit (.int k x),[],b,trivial,by simp,fun _=>rfl⟩
 | .bool,b,x,_,_,_,_=>⟨.b x,[],b,trivial,by simp,fun _=>rfl⟩
 | .str,b,x,_,_,_,_=>⟨.s x,[],b,trivial,by simp,fun _=>rfl⟩
 | .sl k,b,x,_,_,_,_=>⟨.sl k x,[],b,trivial,by simp,fun _=>rfl⟩
 | .arr _,_,_,_,h,_,_=>by simp[dB]at h
 | .same _,_,_,_,h,_,_=>by simp[dB]at h
 | .fz k,b,x,_,_,_,_=>⟨.sl k x,[],b,trivial,by simp,fun _=>rfl⟩
 | .row e k,b,x,L,_,hF,hL=>⟨.own b,[(b,.row e false k x)],b+1,(hF b (aqG b) (hL fun _=>none)).1,fun p hp=>by
   simp at hp;subst hp;exact⟨(hF b (aqG b) (hL fun _=>none)).2,trivial⟩,fun _=>rfl⟩
 | .akl e k,b,x,L,_,hF,hL=>⟨.own b,[(b,.row e true k x)],b+1,(hF b (aqG b) (hL fun _=>none)).1,fun p hp=>by
   simp at hp;subst hp;exact⟨(hF b (aqG b) (hL fun _=>none)).2,trivial⟩,fun _=>rfl⟩
 | .abx e k,b,x,L,_,hF,hL=>⟨.ptr b (ks k) 0 0,[(b,.arr e k x)],b+1,(hF b (aqG b) (hL fun _=>none)).1,fun p hp=>by
   simp at hp;subst hp;exact⟨(hF b (aqG b) (hL fun _=>none)).2,trivial⟩,fun _=>rfl⟩
 | .agg _,_,_,_,h,_,_=>by simp[dB]at h
 | .box e l,b,x,L,h,hF,hL=>by
  have un: ∀ H,ch E H b (.box e l) x=(match aw E H b l x with | (cs,H,b)=>(AV.ptr b cs.length 0 0,upd H b (some (.box e cs)),b+1)):=fun _=>rfl;have hL': ∀ H,(aw E H b l x).2.2+1≤L:=fun H=>by
   have:=hL H;rw[un]at this;generalize aw E H b l x=r at *;exact this
  obtain⟨vs,es,b',h1,h2,h3⟩:=Ll E l b x L (by simpa[dB] using h) hF (fun H=>Nat.le_of_succ_le (hL' H));have hb':b' < L:=by have:=hL' fun _=>none;rw[h3]at this;exact this
  have hbb:b≤b':=by have:=iN E l (fun _=>none) b x;rw[h3]at this;exact this
  refine⟨.ptr b' vs.length 0 0,es++[(b',.box e vs)],b'+1,(hF b' hbb hb').1,fun p hp=> ?_,fun H=> ?_⟩
  ·rcases aqL.1 hp with hp | hp
   ·exact h2 p hp
   ·simp at hp;subst hp;exact⟨(hF b' hbb hb').2,h1⟩
  ·rw[un,h3];simp[sW,ar0]
theorem Ll (E:Nat→AV): ∀ (l:List Sh) (b:Nat) (x:LTs l) (L:Nat),jy l=true→(∀ j,b≤j→j < L→F j∧W j)→(∀ H,(aw E H b l x).2.2≤L)→
  ∃ vs es b',(∀ v∈vs,In1 F v)∧(∀ p∈es,W p.1∧wH F p.2)∧ ∀ H,aw E H b l x=(vs,sW es H,b')
 | [],b,_,_,_,_,_=>⟨[],[],b,by simp,by simp,fun _=>rfl⟩
 | h::l,b,x,L,hl,hF,hL=>by
  simp only[jy,aqt]at hl;have un: ∀ H,aw E H b (h::l) x=(match ch E H b h x.1 with | (c,H,b)=>match aw E H b l x.2 with | (cs,H,b)=>(c::cs,H,b)):=fun _=>rfl;have hL1: ∀ H,(ch E H b h x.1).2.2≤L:=fun H=>by
   have:=hL H;rw[un]at this;generalize ch E H b h x.1=r at *;obtain⟨c,H',b'⟩:=r;have h2:=iN E l H' b' x.2;simp only at this;generalize aw E H' b' l x.2=r at *;exact ara h2 this
  obtain⟨v,es,b',h1,h2,h3⟩:=Jb E h b x.1 L hl.1 hF hL1;have hbb:b≤b':=by have:=cN E h (fun _=>none) b x.1;rw[h3]at this;exact this
  have hL2: ∀ H,(aw E H b' l x.2).2.2≤L:=fun H=>by
   have:=hL H;rw[un,h3]at this;simp only at this;rw[(rE E H (sW es H) l b' x.2).2];generalize aw E (sW es H) b' l x.2=r at *;exact this
  obtain⟨vs,es',b'',h4,h5,h6⟩:=Ll E l b' x.2 L hl.2 (fun j h1 h2=>hF j (ara hbb h1) h2) hL2;refine⟨v::vs,es++es',b'',fun c hc=> ?_,fun p hp=> ?_,fun H=> ?_⟩
  ·rcases aqS.1 hc with rfl | hc
   ·exact h1
   ·exact h4 c hc
  ·rcases aqL.1 hp with hp | hp
   ·exact h2 p hp
   ·exact h5 p hp
  ·rw[un,h3];simp only[h6,sW,ar0]
end
def L5{E:Nat→AV}{H:Hp}{b:Nat}{h:Sh}{v:AV}{x:LT h}(hl:dB h=true)(hn: ∀ e l,h= .box e l→ ∀ id z,v≠ .ptr id z 0 0):lC E H b h v x=ch E H b h x:=by
 cases h<;>first | rfl | (simp[dB]at hl;done) | skip
 rename_i e l;cases v<;>first | rfl | skip
 rename_i id z i o;cases i<;>cases o<;>first | rfl | exact absurd rfl (hn e l rfl id z)
mutual
theorem abC (E:Nat→AV): ∀ (h:Sh) (H:Hp) (b:Nat) (v:AV) (x:LT h),dB h=true→b≤(lC E H b h v x).2.2
 | .box e l,H,b,v,x,hl=>by
  by_cases hv: ∃ id z,v= .ptr id z 0 0
  ·obtain⟨id,z,rfl⟩:=hv;have un:lC E H b (.box e l) (.ptr id z 0 0) x=(match H id with
    | some (.box _ cs)=>(match bm E H b l cs x with | (ds,H,b)=>(AV.ptr id z 0 0,upd H id (some (.box e ds)),b))
    | _=>(.un,H,b)):=rfl
   rw[un];cases H id with
   | none=>exact aqG b
   | some ob=>
    cases ob with
    | box e' cs=>
     have:=JO E l H b cs x (by simpa[dB] using hl);simp only;generalize bm E H b l cs x=r at *;obtain⟨ds,H',b'⟩:=r;exact this
    | _=>exact aqG b
  ·rw[L5 hl (fun _ _ _ id z e=>hv ⟨id,z,e⟩)];exact cN E _ H b x
 | .int _,H,b,v,x,hl=>cN E _ H b x
 | .bool,H,b,v,x,hl=>cN E _ H b x
 | .str,H,b,v,x,hl=>cN E _ H b x
 | .sl _,H,b,v,x,hl=>cN E _ H b x
 | .row _ _,H,b,v,x,hl=>cN E _ H b x
 | .fz _,H,b,v,x,hl=>cN E _ H b x
 | .akl _ _,H,b,v,x,hl=>cN E _ H b x
 | .abx _ _,H,b,v,x,hl=>cN E _ H b x
 | .arr _,H,b,v,x,hl=>cN E _ H b x
 | .same _,_,_,_,_,hl=>by simp[dB]at hl
 | .agg _,_,_,_,_,hl=>by simp[dB]at hl
theorem JO (E:Nat→AV): ∀ (l:List Sh) (H:Hp) (b:Nat) (cs:List AV) (x:LTs l),jy l=true→b≤(bm E H b l cs x).2.2
 | [],_,b,_,_,_=>aqG b
 | h::l,H,b,cs,x,hl=>by
  simp only[jy,aqt]at hl;have h1:=abC E h H b (cs.headD .un) x.1 hl.1;have un:bm E H b (h::l) cs x=(match lC E H b h (cs.headD .un) x.1 with | (d,H,b)=>match bm E H b l cs.tail x.2 with | (ds,H,b)=>(d::ds,H,b)):=rfl;rw[un];generalize lC E H b h (cs.headD .un) x.1=r at *;obtain⟨c,H',b'⟩:=r;have h2:=JO E l H' b' cs.tail x.2 hl.2;simp only;generalize bm E H' b' l cs.tail x.2=r at *;obtain⟨cs,H'',b''⟩:=r;exact ara h1 h2
end
def aeI{es:List (Nat×Ob)}(h:Agr F H H'):Agr F (sW es H) (sW es H'):=by
 induction es generalizing H H' with
 | nil=>exact h
 | cons p es ih=>
  refine ih fun id hid=> ?_;by_cases e:id=p.1
  ·subst e;simp only[ax]
  ·simp only[aI _ _ e];exact h id hid
def XN{es:List (Nat×Ob)}(h:aj8 F H)(he: ∀ p∈es,wH F p.2):aj8 F (sW es H):=by
 induction es generalizing H with
 | nil=>exact h
 | cons p es ih=>
  refine ih (fun id ob hid ho=> ?_) (fun q hq=>he q (aqx _ hq));by_cases e:id=p.1
  ·subst e;simp only[ax]at ho;cases ho;exact he p aqA
  ·simp only[aI _ _ e]at ho;exact h id ob hid ho
def Nk{E:Nat→AV}{H:Hp}{b:Nat}{h:Sh}{v:AV}{x:LT h}{L:Nat}(eq: ∀ H,lC E H b h v x=ch E H b h x)(hl:dB h=true)(hF: ∀ j,b≤j→j < L→F j)(hL:(lC E H b h v x).2.2≤L):
  ∃ v' es b',In1 F v'∧(∀ p∈es,F p.1∧wH F p.2)∧ ∀ H',Agr F H H'→lC E H' b h v x=(v',sW es H',b'):=by
 obtain⟨v',es,b',h1,h2,h3⟩:=Jb (F:=F) (W:=F) E h b x L hl (fun j h1 h2=>⟨hF j h1 h2,hF j h1 h2⟩) (fun H0=>by rw[(QS E H0 H _ b x).2,← eq H];exact hL);exact⟨v',es,b',h1,h2,fun H' _=>by rw[eq,h3]⟩
mutual
theorem afH (E:Nat→AV): ∀ (h:Sh) (H:Hp) (b:Nat) (v:AV) (x:LT h) (L:Nat),dB h=true→(∀ j,b≤j→j < L→F j)→InA F v→aj8 F H→(lC E H b h v x).2.2≤L→
  ∃ v' es b',In1 F v'∧(∀ p∈es,F p.1∧wH F p.2)∧ ∀ H',Agr F H H'→lC E H' b h v x=(v',sW es H',b')
 | .box e l,H,b,v,x,L,hl,hF,hv,hC,hL=>by
  by_cases hp: ∃ id z,v= .ptr id z 0 0
  ·obtain⟨id,z,rfl⟩:=hp;have un: ∀ H,lC E H b (.box e l) (.ptr id z 0 0) x=(match H id with
    | some (.box _ cs)=>(match bm E H b l cs x with | (ds,H,b)=>(AV.ptr id z 0 0,upd H id (some (.box e ds)),b))
    | _=>(.un,H,b)):=fun _=>rfl
   have hid:F id:=hv;cases ho:H id with
   | none=>exact⟨.un,[],b,trivial,by simp,fun H' h=>by rw[un,h id hid,ho];rfl⟩
   | some ob=>
    cases ob with
    | box e' cs=>
     rw[un,ho]at hL;have hL':(bm E H b l cs x).2.2≤L:=by
      simp only at hL;generalize bm E H b l cs x=r at *;exact hL
     obtain⟨vs,es,b',h1,h2,h3⟩:=L4 E l H b cs x L (by simpa[dB] using hl) hF (InA.aj6 (hC id _ hid ho)) hC hL';refine⟨.ptr id z 0 0,es++[(id,.box e vs)],b',hid,fun p hp=> ?_,fun H' h=> ?_⟩
     ·rcases aqL.1 hp with hp | hp
      ·exact h2 p hp
      ·simp at hp;subst hp;exact⟨hid,h1⟩
     ·rw[un,h id hid,ho];simp only[h3 H' h,sW,ar0,ars,asQ]
    | row=>exact⟨.un,[],b,trivial,by simp,fun H' h=>by rw[un,h id hid,ho];rfl⟩
    | arr=>exact⟨.un,[],b,trivial,by simp,fun H' h=>by rw[un,h id hid,ho];rfl⟩
  ·have eq: ∀ H,lC E H b (.box e l) v x=ch E H b (.box e l) x:=fun H=>L5 hl (fun _ _ _ id z e=>hp ⟨id,z,e⟩);obtain⟨v',es,b',h1,h2,h3⟩:=Jb (F:=F) (W:=F) E (.box e l) b x L hl (fun j h1 h2=>⟨hF j h1 h2,hF j h1 h2⟩) (fun H0=>by rw[(QS E H0 H _ b x).2,← eq H];exact hL);exact⟨v',es,b',h1,h2,fun H' _=>by rw[eq,h3]⟩
 | .int k,H,b,v,x,L,hl,hF,hv,hC,hL=>Nk (fun H=>rfl) hl hF hL
 | .bool,H,b,v,x,L,hl,hF,hv,hC,hL=>Nk (fun H=>rfl) hl hF hL
 | .str,H,b,v,x,L,hl,hF,hv,hC,hL=>Nk (fun H=>rfl) hl hF hL
 | .sl _,H,b,v,x,L,hl,hF,hv,hC,hL=>Nk (fun H=>rfl) hl hF hL
 | .row _ _,H,b,v,x,L,hl,hF,hv,hC,hL=>Nk (fun H=>rfl) hl hF hL
 | .fz _,H,b,v,x,L,hl,hF,hv,hC,hL=>Nk (fun H=>rfl) hl hF hL
 | .akl _ _,H,b,v,x,L,hl,hF,hv,hC,hL=>Nk (fun H=>rfl) hl hF hL
 | .abx _ _,H,b,v,x,L,hl,hF,hv,hC,hL=>Nk (fun H=>rfl) hl hF hL
 | .arr _,_,_,_,_,_,hl,_,_,_,_=>by simp[dB]at hl
 | .same _,_,_,_,_,_,hl,_,_,_,_=>by simp[dB]at hl
 | .agg _,_,_,_,_,_,hl,_,_,_,_=>by simp[dB]at hl
theorem L4 (E:Nat→AV): ∀ (l:List Sh) (H:Hp) (b:Nat) (cs:List AV) (x:LTs l) (L:Nat),jy l=true→(∀ j,b≤j→j < L→F j)→(∀ c∈cs,InA F c)→aj8 F H→(bm E H b l cs x).2.2≤L→
  ∃ vs es b',(∀ v∈vs,In1 F v)∧(∀ p∈es,F p.1∧wH F p.2)∧ ∀ H',Agr F H H'→bm E H' b l cs x=(vs,sW es H',b')
 | [],_,b,_,_,_,_,_,_,_,_=>⟨[],[],b,by simp,by simp,fun _ _=>rfl⟩
 | h::l,H,b,cs,x,L,hl,hF,hv,hC,hL=>by
  simp only[jy,aqt]at hl;have un: ∀ H,bm E H b (h::l) cs x=(match lC E H b h (cs.headD .un) x.1 with | (d,H,b)=>match bm E H b l cs.tail x.2 with | (ds,H,b)=>(d::ds,H,b)):=fun _=>rfl;have hh:InA F (cs.headD .un):=by
   cases cs with
   | nil=>exact .of1 trivial
   | cons c cs=>exact hv c aqA
  have ht: ∀ c∈cs.tail,InA F c:=fun c hc=>hv c (List.mem_of_mem_tail hc);have hL1:(lC E H b h (cs.headD .un) x.1).2.2≤L:=by
   rw[un]at hL;generalize lC E H b h (cs.headD .un) x.1=r at *;obtain⟨c,H',b'⟩:=r;have h2:=JO E l H' b' cs.tail x.2 hl.2;simp only at hL;generalize bm E H' b' l cs.tail x.2=r at *;exact ara h2 hL
  obtain⟨v,es,b',h1,h2,h3⟩:=afH E h H b (cs.headD .un) x.1 L hl.1 hF hh hC hL1;have e0:=h3 H (Agr.refl F H);have hbb:b≤b':=by have:=abC E h H b (cs.headD .un) x.1 hl.1;rw[e0]at this;exact this
  have hL2:(bm E (sW es H) b' l cs.tail x.2).2.2≤L:=by
   rw[un,e0]at hL;simp only at hL;generalize bm E (sW es H) b' l cs.tail x.2=r at *;exact hL
  obtain⟨vs,es',b'',h4,h5,h6⟩:=L4 E l (sW es H) b' cs.tail x.2 L hl.2 (fun j h1 h2=>hF j (ara hbb h1) h2) ht (XN hC fun p hp=>(h2 p hp).2) hL2;refine⟨v::vs,es++es',b'',fun c hc=> ?_,fun p hp=> ?_,fun H' h=> ?_⟩
  ·rcases aqS.1 hc with rfl | hc
   ·exact h1
   ·exact h4 c hc
  ·rcases aqL.1 hp with hp | hp
   ·exact h2 p hp
   ·exact h5 p hp
  ·rw[un,h3 H' h];simp only[h6 _ (aeI h),sW,ar0]
end
end
end Go.VS
namespace Go.VS
open Go
section
variable {F W:Nat→Prop} {H H':Hp} {P:Program} {s s' s2:S} {b:Nat} {E:Nat→AV} {C:Cx}
def acZ(E:Nat→AV)(h:Sh)(b:Nat)(x:LT h)(L:Nat)(hl:ah5 h=true)(hF: ∀ j,b≤j→j < L→F j∧W j)(hL: ∀ H,(ch E H b h x).2.2≤L):
  ∃ v es b',In2 F v∧(∀ p∈es,W p.1∧wH F p.2)∧ ∀ H,ch E H b h x=(v,sW es H,b'):=by
 by_cases hh:dB h=true
 ·obtain⟨v,es,b',h1,h2,h3⟩:=Jb (F:=F) (W:=W) E h b x L hh hF hL;exact⟨v,es,b',.of1 h1,h2,h3⟩
 ·cases h<;>first | (exact absurd hl hh;done) | exact⟨.arr _ x,[],b,trivial,by simp,fun _=>rfl⟩ | skip
  rename_i l;have un: ∀ H,ch E H b (.agg l) x=(match aw E H b l x with | (cs,H,b)=>(AV.agg cs,H,b)):=fun _=>rfl;obtain⟨vs,es,b',h1,h2,h3⟩:=Ll (F:=F) (W:=W) E l b x L hl hF (fun H=>by
   have:=hL H;rw[un]at this;generalize aw E H b l x=r at *;exact this)
  exact⟨.agg vs,es,b',h1,h2,fun H=>by rw[un,h3]⟩
def Hc(E:Nat→AV): ∀ (l:List Sh) (b:Nat) (x:LTs l) (L:Nat),Wm l=true→(∀ j,b≤j→j < L→F j∧W j)→(∀ H,(aw E H b l x).2.2≤L)→
  ∃ vs es b',(∀ v∈vs,In2 F v)∧(∀ p∈es,W p.1∧wH F p.2)∧ ∀ H,aw E H b l x=(vs,sW es H,b')
 | [],b,_,_,_,_,_=>⟨[],[],b,by simp,by simp,fun _=>rfl⟩
 | h::l,b,x,L,hl,hF,hL=>by
  simp only[Wm,aqt]at hl;have un: ∀ H,aw E H b (h::l) x=(match ch E H b h x.1 with | (c,H,b)=>match aw E H b l x.2 with | (cs,H,b)=>(c::cs,H,b)):=fun _=>rfl;have hL1: ∀ H,(ch E H b h x.1).2.2≤L:=fun H=>by
   have:=hL H;rw[un]at this;generalize ch E H b h x.1=r at *;obtain⟨c,H',b'⟩:=r;have h2:=iN E l H' b' x.2;simp only at this;generalize aw E H' b' l x.2=r at *;exact ara h2 this
  obtain⟨v,es,b',h1,h2,h3⟩:=acZ E h b x.1 L hl.1 hF hL1;have hbb:b≤b':=by have:=cN E h (fun _=>none) b x.1;rw[h3]at this;exact this
  have hL2: ∀ H,(aw E H b' l x.2).2.2≤L:=fun H=>by
   have:=hL H;rw[un,h3]at this;simp only at this;rw[(rE E H (sW es H) l b' x.2).2];generalize aw E (sW es H) b' l x.2=r at *;exact this
  obtain⟨vs,es',b'',h4,h5,h6⟩:=Hc E l b' x.2 L hl.2 (fun j h1 h2=>hF j (ara hbb h1) h2) hL2;refine⟨v::vs,es++es',b'',fun c hc=> ?_,fun p hp=> ?_,fun H=> ?_⟩
  ·rcases aqS.1 hc with rfl | hc
   ·exact h1
   ·exact h4 c hc
  ·rcases aqL.1 hp with hp | hp
   ·exact h2 p hp
   ·exact h5 p hp
  ·rw[un,h3];simp only[h6,sW,ar0]
abbrev stp(p:Nat×Ob):Step:=⟨p.1,.no,some p.2⟩
def M4: ∀ (es:List (Nat×Ob)) (s:S),(es.map stp).foldl S.app s={ s with H:=sW es s.H }
 | [],_=>rfl
 | p::es,s=>by
  rw[arx,ars,mv,M4 es];rfl
def Eg: ∀ (ps:List Sh) (vs:List AV),∀ v∈eR ps vs,v∈vs
 | [],vs,v,h=>by cases vs<;>simp[eR]at h
 | p::ps,[],v,h=>by cases p<;>simp[eR]at h
 | p::ps,x::vs,v,h=>by
  cases p<;>simp only[eR,aqS]at h ⊢ <;>first
   | exact .inr (Eg ps vs v h)
   | exact h.imp id (Eg ps vs v)
def Xx{vs:List AV}(h: ∀ v∈vs,In2 F v):InA F (Ih vs):=by
 unfold Ih;split
 ·exact .of2 (h _ (by simp))
 ·exact .of3 h
def ail(H:Hp)(m:akx)(as:List AV)(b:Nat)(W:Step→Prop):Prop:=
 (∀ e:Step,e.id∈dp H m.ps as→W e)∧((c8 m.rs||c8 (aT m.ps))=true→ ∀ e:Step,e.id∈dV H m.ps as→W e)∧(∀ e:Step,b≤e.id→e.id < b+16→W e)
variable {WS:Step→Prop}
def adO{m:akx}{d:Option Nat}{as:List AV}(hm:okS m=true)(has: ∀ v∈as,InA F v)(hC:aj8 F s.H)(hF: ∀ j,b≤j→j < b+16→F j)
  (hW:ail s.H m as b WS)(hB:(aT m.ps).isEmpty=true∨ ∀ e:Step,F e.id→e.fk= .no→WS e)(h:ww m s b d as some=some s'):
  ∃ (v:AV) (es:List Step),InA F v∧(∀ e∈es,WS e∧alb F e)∧s'=(es.foldl S.app s).put d v∧ ∀ s2:S,Agr F s.H s2.H→ww m s2 b d as some=some ((es.foldl S.app s2).put d v):=by
 simp only[okS,aqt]at hm;obtain⟨hW1,hW2,hW3⟩:=hW;unfold ww at h;simp only at h;split at h
 ·rename_i x hx hn;obtain⟨r,hr,h⟩:=aqw.1 h;obtain⟨es1,k1,k2,k3⟩:=Vt (dp s.H m.ps as) s;have k4: ∃ es2:List Step,(∀ e∈es2,WS e∧e.ob=none)∧
    Cm (c8 m.rs||c8 (aT m.ps)) (dV s.H m.ps as) ((dp s.H m.ps as).foldl S.kill s)=es2.foldl S.app s∧
    ∀ s2:S,Agr F s.H s2.H→Cm (c8 m.rs||c8 (aT m.ps)) (dV s.H m.ps as) ((dp s.H m.ps as).foldl S.kill s2)=es2.foldl S.app s2:=by
   cases hq:(c8 m.rs||c8 (aT m.ps)) with
   | false=>exact⟨es1,fun e he=>⟨hW1 e (k1 e he).1,(k1 e he).2⟩,k2,fun s2 _=>k3 s2⟩
   | true=>
    obtain⟨es2,j1,j2,j3⟩:=xD (F:=F) (dV s.H m.ps as) (es1.foldl S.app s) (Dy hC m.ps as has);refine⟨es1++es2,fun e he=> ?_, ?_,fun s2 h2=> ?_⟩
    ·rcases aqL.1 he with he | he
     ·exact⟨hW1 e (k1 e he).1,(k1 e he).2⟩
     ·exact⟨hW2 hq e (j1 e he).1,(j1 e he).2⟩
    ·simp only[Cm,k2,j2,ar0]
    ·simp only[Cm,k3,ar0];exact j3 _ h2.aoB
  obtain⟨es2,j1,j2,j3⟩:=k4;rw[j2]at h;have hC2:aj8 F (es2.foldl S.app s).H:=by
   have: ∀ (es:List Step) (s:S),aj8 F s.H→(∀ e∈es,e.ob=none)→aj8 F (es.foldl S.app s).H:=by
    intro es
    induction es with
    | nil=>intro s h _;exact h
    | cons e es ih=>exact fun s h he=>ih _ (h.app fun ob eo=>by rw[he e aqA]at eo;cases eo) (fun e' h'=>he e' (aqx _ h'))
   exact this es2 s hC fun e he=>(j1 e he).2
  have hL1:(bm (fun i=>(as[i]?).getD .un) (es2.foldl S.app s).H b (aT m.ps) (eR m.ps as) r.2).2.2≤b+16:=by
   generalize bm (fun i=>(as[i]?).getD .un) (es2.foldl S.app s).H b (aT m.ps) (eR m.ps as) r.2=q at *;obtain⟨_,H1,b1⟩:=q;have:=iN (fun i=>(as[i]?).getD .un) m.rs H1 b1 r.1;simp only at h;generalize aw (fun i=>(as[i]?).getD .un) H1 b1 m.rs r.1=q at *;obtain⟨vs,H2,b2⟩:=q;simp only at h;split at h
   ·rename_i hb;exact ara this (aq1 hb)
   ·cases h
  have hg: ∃ ds es3 b1,b≤b1∧(∀ p∈es3,WS (stp p)∧wH F p.2)∧ ∀ H',Agr F (es2.foldl S.app s).H H'→bm (fun i=>(as[i]?).getD .un) H' b (aT m.ps) (eR m.ps as) r.2=(ds,sW es3 H',b1):=by
   rcases hB with hB | hB
   ·exact⟨[],[],b,aqG b,by simp,fun H' _=>VK _ _ _ _ _ _ hB⟩
   ·obtain⟨ds,es3,b1,i1,i2,i3⟩:=L4 (F:=F) (fun i=>(as[i]?).getD .un) (aT m.ps) (es2.foldl S.app s).H b (eR m.ps as) r.2 (b+16) hm.2 hF (fun v hv=>has v (Eg _ _ v hv)) hC2 hL1;have:=JO (fun i=>(as[i]?).getD .un) (aT m.ps) (es2.foldl S.app s).H b (eR m.ps as) r.2 hm.2;rw[i3 _ (Agr.refl _ _)]at this;exact⟨ds,es3,b1,this,fun p hp=>⟨hB (stp p) (i2 p hp).1 rfl,(i2 p hp).2⟩,i3⟩
  obtain⟨ds,es3,b1,hb1,i2,i3⟩:=hg;rw[i3 _ (Agr.refl _ _)]at h;simp only at h;have hL2: ∀ H,(aw (fun i=>(as[i]?).getD .un) H b1 m.rs r.1).2.2≤b+16:=fun H=>by
   rw[(rE _ H (sW es3 (es2.foldl S.app s).H) m.rs b1 r.1).2];generalize aw (fun i=>(as[i]?).getD .un) (sW es3 (es2.foldl S.app s).H) b1 m.rs r.1=q at *;obtain⟨vs,H2,b2⟩:=q;simp only at h;split at h
   ·rename_i hb;exact aq1 hb
   ·cases h
  obtain⟨vs,es4,b2,l1,l2,l3⟩:=Hc (F:=F) (W:=fun j=>b≤j∧j < b+16) (fun i=>(as[i]?).getD .un) m.rs b1 r.1 (b+16) hm.1
   (fun j h1 h2=>⟨hF j (ara hb1 h1) h2,ara hb1 h1,h2⟩) hL2
  rw[l3]at h;simp only at h;split at h
  ·rename_i hb;cases h;refine⟨Ih vs,es2++es3.map stp++es4.map stp,Xx l1,fun e he=> ?_, ?_,fun s2 h2=> ?_⟩
   ·rcases aqL.1 he with he | he
    ·rcases aqL.1 he with he | he
     ·exact⟨(j1 e he).1,fun ob eo=>by rw[(j1 e he).2]at eo;cases eo⟩
     ·obtain⟨p,hp,rfl⟩:=arv.1 he;exact⟨(i2 p hp).1,fun ob eo=>by cases eo;exact(i2 p hp).2⟩
    ·obtain⟨p,hp,rfl⟩:=arv.1 he;exact⟨hW3 (stp p) (l2 p hp).1.1 (l2 p hp).1.2,fun ob eo=>by cases eo;exact(l2 p hp).2⟩
   ·simp only[ar0,M4]
   ·unfold ww;simp only[CV h2 hC m.ps as has,Dx h2 hC m.ps as has,CU h2 hC m.ps as has,JP h2 hC m.ps as has,hx,hn,hr,aqs,j3 s2 h2];rw[i3 _ h2.aoB];simp only[l3,hb,ar0,M4]
  ·cases h
 ·cases h
end
end Go.VS
namespace Go.VS
open Go
section
variable {F G N:Nat→Prop} {WS:Step→Prop} {H H':Hp} {P:Program} {s s' s2:S} {b:Nat} {C:Cx}
def In1.mono(h: ∀ id,F id→G id){v:AV}(hv:In1 F v):In1 G v:=by
 cases v<;>first | exact h _ hv | exact hv
def In2.mono(h: ∀ id,F id→G id){v:AV}(hv:In2 F v):In2 G v:=by
 have gen:In1 F v→In2 G v:=fun hv=> .of1 (hv.mono h);cases v<;>first | exact fun c hc=>(hv c hc).mono h | exact gen hv
def In3.mono(h: ∀ id,F id→G id){v:AV}(hv:In3 F v):In3 G v:=by
 have gen:In2 F v→In3 G v:=fun hv=> .of2 (hv.mono h);cases v<;>first | exact fun c hc=>In2.mono h (hv c hc) | exact gen hv
def InA.mono(h: ∀ id,F id→G id){v:AV}(hv:InA F v):InA G v:=by
 have gen:In3 F v→InA G v:=fun hv=> .of3 (hv.mono h);cases v with
 | gd g w v=>exact In3.mono h hv
 | _=>exact gen hv
def Agr.mono(h: ∀ id,F id→G id)(hG:Agr G H H'):Agr F H H':=fun id hid=>hG id (h id hid)
def Yh{f:AV→AV}(hf: ∀ c,In1 F c→In1 F (f c)){v:AV}(h:In2 F v):In2 F (oQ f v):=by
 cases v<;>first | exact .of1 (hf _ h) | skip
 rename_i cs;intro c hc;obtain⟨c0,h0,rfl⟩:=arv.1 hc;exact hf _ (h c0 h0)
def Yg{f:AV→AV}(hf: ∀ c,In1 F c→In1 F (f c)){v:AV}(h:In3 F v):In3 F (p6 f v):=by
 have gen:In2 F v→In3 F (oQ f v):=fun h=> .of2 (Yh hf h);cases v with
 | tup cs=>
  intro c hc;obtain⟨c0,h0,rfl⟩:=arv.1 hc;exact Yh hf (h c0 h0)
 | _=>exact gen h
def abm{f:AV→AV}(hf: ∀ c,In1 F c→In1 F (f c)){v:AV}(h:InA F v):InA F (vK f v):=by
 have gen:In3 F v→InA F (p6 f v):=fun h=> .of3 (Yg hf h);cases v with
 | gd g w v=>exact Yg hf h
 | _=>exact gen h
def ad0{x:Operand}{e:Step}(h:InA F (s.ev x)):InA F ((s.app e).ev x):=by
 cases x with
 | tmp t=>exact abm (fun c hc=>Fk.anQ _ _ hc) h
 | _=>exact h
def H6{x:Operand}: ∀ (es:List Step) (s:S),InA F (s.ev x)→InA F ((es.foldl S.app s).ev x)
 | [],_,h=>h
 | e::es,s,h=>H6 es _ (ad0 h)
def adZ{x:Operand}{e:Step}(h:s2.ev x=s.ev x):(s2.app e).ev x=(s.app e).ev x:=by
 cases x with
 | tmp t=>exact congrArg (vK (e.fk.f e.id)) h
 | _=>exact h
def Tn{x:Operand}: ∀ (es:List Step) (s s2:S),s2.ev x=s.ev x→(es.foldl S.app s2).ev x=(es.foldl S.app s).ev x
 | [],_,_,h=>h
 | e::es,s,s2,h=>Tn es _ _ (adZ h)
def NB: ∀ (es:List Step) (s:S),aj8 F s.H→(∀ e∈es,alb F e)→aj8 F (es.foldl S.app s).H
 | [],_,h,_=>h
 | e::es,s,h,he=>NB es _ (h.app (he e aqA)) fun e' h'=>he e' (aqx _ h')
def acR{ρ:Operand→AV}: ∀ (ps:List (Nat×Operand)),(∀ p∈ps,InA F (ρ p.2))→ ∀ i∈x9 ρ ps,F i:=by
 intro ps hp i hi;obtain⟨p,h1,h2⟩:=List.mem_flatMap.1 hi;have:=hp p h1;split at h2
 ·rename_i cs e;rw[e]at this;exact aeY this i h2
 ·rename_i v hn;cases hv:ρ p.2<;>rw[hv]at h2 this<;>first | (simp[sY]at h2;done) | skip
  simp[sY]at h2;subst h2;exact this
def aim(C:Cx)(F N:Nat→Prop)(WS:Step→Prop)(b:Nat)(o:Oper)(s s':S):Prop:=
 ∃ (v:AV) (es:List Step),InA F v∧(∀ e∈es,WS e∧alb F e)∧s'=(es.foldl S.app s).put o.dst v∧
  ∀ s2:S,(∀ x∈o.op.operands,s2.ev x=s.ev x)→s2.has o.dst=s.has o.dst→Agr N s.H s2.H→hY C (af S) o b s2 some=some ((es.foldl S.app s2).put o.dst v)
def X1{op:Op}{kd:TypeId→Option K}{d:Option Nat}(hF: ∀ x∈op.operands,InA F (s.ev x))(hN:mov op=true∨ ∀ x∈op.operands,InA N (s.ev x))(hC: ∀ id ob,N id→s.H id=some ob→wH F ob)(hb:F b)(hW: ∀ ob,WS ⟨b,.no,some ob⟩)
  (he:(match bD P kd s.ev s.H b op with
   | some (q,v,os)=>if q then some ({ s with H:=fe s.H b os }.put d v) else none
   | none=>none)=some s'):
  ∃ (v:AV) (es:List Step),InA F v∧(∀ e∈es,WS e∧alb F e)∧s'=(es.foldl S.app s).put d v∧
   ∀ s2:S,(∀ x∈op.operands,s2.ev x=s.ev x)→Agr N s.H s2.H→(match bD P kd s2.ev s2.H b op with
    | some (q,v,os)=>if q then some ({ s2 with H:=fe s2.H b os }.put d v) else none
    | none=>none)=some ((es.foldl S.app s2).put d v):=by
 split at he
 ·rename_i q v os hp;split at he
  ·rename_i hq;cases he;obtain⟨h1,h2,h3⟩:=Vf hF hN hC hb q v os hp
   match os,h2,h3,hp with
   | [],_,_,hp=>
    refine⟨v,[],h1,by simp,rfl,fun s2 e1 e2=> ?_⟩;rw[Ew e1 hN e2,hp];simp only[hq,aqm];rfl
   | [ob],_,h3,hp=>
    refine⟨v,[⟨b,.no,some ob⟩],h1,fun e he=> ?_, ?_,fun s2 e1 e2=> ?_⟩
    ·simp at he;subst he;exact⟨hW ob,fun ob' e=>by cases e;exact h3 _ (by simp)⟩
    ·show _=S.put (s.app _) d v;rw[mv];rfl
    ·rw[Ew e1 hN e2,hp];simp only[hq,aqm,ars,asQ,mv];rfl
   | _::_::_,h2,_,_=>simp at h2
  ·cases he
 ·cases he
def ahu{q:Bool}{l:List Nat}{i:Nat}(h:i∈fzl q l):i∈l:=by
 cases q
 ·cases h
 ·exact h
def ahJ{o:Oper}(hop: ∀ x∈o.op.operands,InA F (s.ev x))(hC:aj8 F s.H){i:Nat}(hi:i∈On C s o):F i:=by
 unfold On at hi;split at hi
 ·rename_i c hc;split at hi
  ·rename_i f hf;split at hi
   ·rename_i m hm;have has: ∀ v∈c.args.toList.map s.ev,InA F v:=fun v hv=>by
     obtain⟨x,hx,rfl⟩:=arv.1 hv;refine hop x ?_;rw[hc];simp only[aqO,asV,asC];exact .inr (by simpa using hx)
    rcases aqL.1 hi with h | h
    ·exact IJ hC _ _ has i h
    ·exact Dy hC _ _ has i (ahu h)
   ·cases hi
  ·cases hi
 ·cases hi
def afZ{o:Oper}(hok:okO C o=true)(hop: ∀ x∈o.op.operands,InA F (s.ev x))(hCN: ∀ id ob,N id→s.H id=some ob→wH F ob)(hF: ∀ j,b≤j→j < b+16→F j)
  (hN: ∀ e:Step,b≤e.id→e.id < b+16→WS e)(hW:(rb C s o=none→(∀ e:Step,F e.id→e.fk= .no→WS e)∧ ∀ e:Step,e.id∈On C s o→WS e)∧ ∀ l,rb C s o=some l→ ∀ e:Step,e.id∈l→WS e)
  (hNF:(pur o=true∧(mov o.op=true∨ ∀ x∈o.op.operands,InA N (s.ev x)))∨ ∀ id,F id→N id)(he:hY C (af S) o b s some=some s'):aim C F N WS b o s s':=by
 have aoS:mov o.op=true∨ ∀ x∈o.op.operands,InA N (s.ev x):=by
  rcases hNF with h | h
  ·exact h.2
  ·exact .inr fun x hx=>(hop x hx).mono h
 have anB:pur o=false→ ∀ id,F id→N id:=fun h=>hNF.resolve_left fun h2=>by rw[h]at h2;cases h2.1
 have hCF:pur o=false→aj8 F s.H:=fun h id ob hid ho=>hCN id ob (anB h id hid) ho;have hFb:F b:=hF b (aqG b) (by omega);have hWb: ∀ e:Step,e.id=b→WS e:=fun e h=>hN e (by omega) (by omega);unfold hY at he;split at he
 ·cases he
 rename_i hd;unfold aim;have un: ∀ s2:S,s2.has o.dst=s.has o.dst→s2.has o.dst=true:=fun s2 h=>h.trans hd;generalize ho:o.op=op at he;rw[ho]at hop aoS;have pu:(match bD C.P C.kd s.ev s.H b op with
   | some (q,v,os)=>if q then some ({ s with H:=fe s.H b os }.put o.dst v) else none
   | none=>none)=some s'→(∀ s2:S,s2.has o.dst=true→(∀ x∈op.operands,s2.ev x=s.ev x)→Agr N s.H s2.H→hY C (af S) o b s2 some=(match bD C.P C.kd s2.ev s2.H b op with
   | some (q,v,os)=>if q then some ({ s2 with H:=fe s2.H b os }.put o.dst v) else none
   | none=>none))→ ∃ (v:AV) (es:List Step),InA F v∧(∀ e∈es,WS e∧alb F e)∧s'=(es.foldl S.app s).put o.dst v∧
  ∀ s2:S,(∀ x∈op.operands,s2.ev x=s.ev x)→s2.has o.dst=s.has o.dst→Agr N s.H s2.H→hY C (af S) o b s2 some=some ((es.foldl S.app s2).put o.dst v):=by
  intro he hu;obtain⟨v,es,h1,h2,h3,h4⟩:=X1 (WS:=WS) hop aoS hCN hFb (fun _=>hWb _ rfl) he;exact⟨v,es,h1,h2,h3,fun s2 e1 e2 e3=>by rw[hu s2 (un s2 e2) e1 e3];exact h4 s2 e1 e3⟩
 cases op<;>try (exact pu he fun s2 e1 e2 e3=>by unfold hY;simp only[e1,ho];rfl)
 case store t p x=>
  have hWF: ∀ e:Step,e.id∈GL s.H (s.ev p) (s.ev x)→WS e:=hW.2 _ (by simp only[rb,ho]);have hNs:=anB (by simp only[pur,ho]);have hC:=hCF (by simp only[pur,ho]);simp only at he;split at he
  ·rename_i s1 hs;cases he;obtain⟨es,h1,h2,h3⟩:=aca (hop p (by simp[aqO])) (hop x (by simp[aqO])) hC hs;refine⟨oZ,es,.of1 trivial,fun e he=>⟨hWF e (h1 e he).1,(h1 e he).2⟩,by rw[h2],fun s2 e1 e2 e3=> ?_⟩;have:=h3 s2 (e3.mono hNs);simp only[aqY,arb,true_and]at this;obtain⟨s1',hs',rfl⟩:=this;unfold hY;simp only[un s2 e2,ho,e1 p (by simp[aqO]),e1 x (by simp[aqO]),hs']
  ·cases he
 case call c=>
  have hNs:=anB (by simp only[pur,ho]);have hC:=hCF (by simp only[pur,ho]);obtain⟨cal,⟨args⟩,⟨tys⟩⟩:=c;have akA: ∀ x∈args,InA F (s.ev x):=fun x hx=>hop x (by
   simp only[aqO,asV,asC];exact .inr (by simpa using hx))
  have amS: ∀ s2:S,(∀ x∈(Op.call ⟨cal,⟨args⟩,⟨tys⟩⟩).operands,s2.ev x=s.ev x)→args.map s2.ev=args.map s.ev:=fun s2 h=>arK fun x hx=>h x (by
   simp only[aqO,asV,asC];exact .inr (by simpa using hx))
  simp only at he;split at he
  ·rename_i f;split at he
   ·rename_i m hm;have apG:okS m=true:=by simpa only[okO,ho,hm] using hok
    have has: ∀ v∈args.map s.ev,InA F v:=fun v hv=>by
     obtain⟨x,hx,rfl⟩:=arv.1 hv;exact akA x hx
    have hcw:ail s.H m (args.map s.ev) b WS∧((aT m.ps).isEmpty=true∨ ∀ e:Step,F e.id→e.fk= .no→WS e):=by
     have hk:On C s o=dp s.H m.ps (args.map s.ev)++fzl (c8 m.rs||c8 (aT m.ps)) (dV s.H m.ps (args.map s.ev)):=by simp only[On,ho,hm]
     cases hbe:(aT m.ps).isEmpty with
     | false=>
      have aoZ:rb C s o=none:=by simp only[rb,ho,hm,hbe]
      have h2:=(hW.1 aoZ).2;rw[hk]at h2;exact⟨⟨fun e he=>h2 e (aqH _ he),fun hq e he=>h2 e (aqN _ (by rw[hq];exact he)),hN⟩,.inr (hW.1 aoZ).1⟩
     | true=>
      have hl:rb C s o=some (dp s.H m.ps (args.map s.ev)++fzl (c8 m.rs||c8 (aT m.ps)) (dV s.H m.ps (args.map s.ev))):=by simp only[rb,ho,hm,hbe]
      refine⟨⟨fun e hi=> ?_,fun hq e hi=> ?_,hN⟩,.inl rfl⟩
      ·exact hW.2 _ hl e (aqH _ hi)
      ·exact hW.2 _ hl e (aqN _ (by rw[hq];exact hi))
    obtain⟨v,es,h1,h2,h3,h4⟩:=adO apG has hC hF hcw.1 hcw.2 he;refine⟨v,es,h1,h2,h3,fun s2 e1 e2 e3=> ?_⟩;have:=h4 s2 (e3.mono hNs);unfold hY;simp only[un s2 e2,ho,hm,amS s2 e1];exact this
   ·cases he
  ·rename_i x y t u;have hWF: ∀ e:Step,(e.id=b∨e.id∈Qw (s.ev x))→WS e:=fun e hi=>hi.elim (hWb e) (hW.2 _ (by simp only[rb,ho]) e);split at he
   ·rename_i q v s1 hs;split at he
    ·rename_i hq;subst hq;cases he;obtain⟨⟨es,h1,h2,h3⟩,h5⟩:=aaW (akA x (by simp)) (akA y (by simp)) hFb hs;refine⟨v,es,h5,fun e he=>⟨hWF e (h1 e he).1,(h1 e he).2⟩,by rw[h2],fun s2 e1 e2 e3=> ?_⟩;have:=h3 s2 (e3.mono hNs);obtain⟨⟨q',v',s1'⟩,hs',e'⟩:=aqY.1 this;cases e';unfold hY;have ea:=amS s2 e1;simp only[arx,asI,as9,and_true]at ea;simp only[un s2 e2,ho,ea.1,ea.2,hs',aqm]
    ·cases he
   ·cases he
  ·rename_i x y t u;have hWF: ∀ e:Step,e.id∈Qw (s.ev x)→WS e:=hW.2 _ (by simp only[rb,ho]);split at he
   ·rename_i v s1 hs;cases he;obtain⟨⟨es,h1,h2,h3⟩,h5⟩:=agd (akA x (by simp)) (akA y (by simp)) hs;refine⟨v,es,h5,fun e he=>⟨hWF e (h1 e he).1,(h1 e he).2⟩,by rw[h2],fun s2 e1 e2 e3=> ?_⟩;have hs':=h3 s2 (e3.mono hNs);unfold hY;have ea:=amS s2 e1;simp only[arx,asI,as9,and_true]at ea;simp only[un s2 e2,ho,ea.1,ea.2,hs']
   ·cases he
  ·rename_i n1 n2 n3;refine pu he fun s2 e1 e2 e3=> ?_;unfold hY;simp only[e1,ho];split<;>first | exact(n1 _ rfl).elim | exact(n2 _ _ _ _ rfl rfl rfl).elim | exact(n3 _ _ _ _ rfl rfl rfl).elim | (rename_i h;simp only[h];done) | rfl
 case slice t x lo hi mx=>
  have hNs:=anB (by simp only[pur,ho]);have hC:=hCF (by simp only[pur,ho]);cases mx with
  | some m=>exact pu he fun s2 e1 e2 e3=>by unfold hY;simp only[e1,ho];rfl
  | none=>
   have hx:=hop x (by simp[aqO]);have elo: ∀ s2:S,(∀ x_1∈(Op.slice t x lo hi none).operands,s2.ev x_1=s.ev x_1)→lo.map s2.ev=lo.map s.ev:=fun s2 h=>by
    cases lo with
    | none=>rfl
    | some l=>exact congrArg some (h l (by simp[aqO]))
   have ehi: ∀ s2:S,(∀ x_1∈(Op.slice t x lo hi none).operands,s2.ev x_1=s.ev x_1)→hi.map s2.ev=hi.map s.ev:=fun s2 h=>by
    cases hi with
    | none=>rfl
    | some l=>exact congrArg some (h l (by simp[aqO]))
   simp only at he;split at he
   ·rename_i id hid;split at he
    ·cases he
    rename_i hf;have hWF: ∀ e:Step,e.id=id→WS e:=fun i e=>hW.2 (Qw (s.ev x)) (by simp only[rb,ho]) i (by rw[hid,e];simp[Qw,sY]);rw[hid]at hx;split at he
    ·rename_i q v s1 hs;split at he
     ·rename_i hq;subst hq;cases he;obtain⟨⟨es,h1,h2,h3⟩,h5⟩:=Wt (F:=F) hx hs;refine⟨v,es,h5,fun e he=>⟨hWF e (h1 e he).1,(h1 e he).2⟩,by rw[h2],fun s2 e1 e2 e3=> ?_⟩;have:=h3 s2 (e3.mono hNs);obtain⟨⟨q',v',s1'⟩,hs',e'⟩:=aqY.1 this;cases e';unfold hY;have ex:s2.ev x= .own id:=(e1 x (by simp[aqO])).trans hid;have hf2:fu C.P s2.H t (.own id)=true:=by rw[IE (F:=F) hx (e3.mono hNs)];exact hf
      simp only[un s2 e2,ho,ex,hf2,elo s2 e1,ehi s2 e1,hs',aqm]
     ·cases he
    ·cases he
   ·rename_i hn;refine pu he fun s2 e1 e2 e3=> ?_;unfold hY;simp only[e1,ho];have ex:s2.ev x=s.ev x:=e2 x (by simp[aqO]);rw[ex];split
    ·rename_i id hid;exact absurd hid (hn id)
    ·rfl
 case buildSlice t n ps=>
  have hNs:=anB (by simp only[pur,ho]);have hC:=hCF (by simp only[pur,ho]);simp only at he;have hps: ∀ p∈ps.toList,InA F (s.ev p.2):=fun p hp=>hop p.2 (by
   simp only[aqO,ato,arv];exact⟨p,hp,rfl⟩)
  have amO:=acR ps.toList hps;obtain⟨es1,j1,j2,j3⟩:=xD (F:=F) (x9 s.ev ps.toList) s amO;rw[j2]at he;obtain⟨v,es,h1,h2,h3,h4⟩:=X1 (WS:=WS) (N:=F) (s:=es1.foldl S.app s) (op:= .buildSlice t n ps) (fun x hx=>H6 es1 s (hop x hx)) (.inr fun x hx=>H6 es1 s (hop x hx)) (NB es1 s hC fun e he ob eo=>by rw[(j1 e he).2]at eo;cases eo) hFb (fun _=>hWb _ rfl) he;refine⟨v,es1++es,h1,fun e he=> ?_,by rw[h3,ar0],fun s2 e1 e2 e3=> ?_⟩
  ·rcases aqL.1 he with he | he
   ·refine⟨?_,fun ob eo=>by rw[(j1 e he).2]at eo;cases eo⟩;have hi:=(j1 e he).1;exact hW.2 _ (by simp only[rb,ho]) e hi
   ·exact h2 e he
  ·unfold hY;have eo:x9 s2.ev ps.toList=x9 s.ev ps.toList:=acQ _ fun p hp=>e1 p.2 (by
    simp only[aqO,ato,arv];exact⟨p,hp,rfl⟩)
   simp only[un s2 e2,ho,eo];rw[j3 s2 (e3.mono hNs),ar0];exact h4 _ (fun x hx=>Tn es1 s s2 (e1 x hx)) (Agr.aoB (e3.mono hNs))
end
end Go.VS
namespace Go.VS
open Go
abbrev ev1(C:Cx)(ops:Array Oper)(o:Oper)(b:Nat)(s:S):Option S:=evG C (af S) ops o b s some
def S.fin(s:S)(g:Option Nat)(d:Option Nat)(v:AV):S:={ s.put d v with gs:=match g with
 | some g=>upd s.gs g true
 | none=>s.gs }
def akR(s s2:S)(d:Option Nat):Prop:=s2.n=s.n∧s2.pins=s.pins∧ ∀ t,d=some t→s2.gs t=s.gs t
section
variable {F N:Nat→Prop} {WS:Step→Prop} {H H':Hp} {P:Program} {s s' s2:S} {b:Nat} {C:Cx} {ρ ρ':Operand→AV}
def akR.has{d:Option Nat}(h:akR s s2 d):s2.has d=s.has d:=by
 cases d with
 | none=>rfl
 | some t=>simp only[S.has,h.1,h.2.1,h.2.2 t rfl]
def akR.more{d:Option Nat}(h:akR s s2 d)(g:Nat):({ s2 with gs:=upd s2.gs g true } :S).has d=({ s with gs:=upd s.gs g true } :S).has d:=by
 cases d with
 | none=>rfl
 | some t=>
  have:upd s2.gs g true t=upd s.gs g true t:=by
   by_cases e:t=g
   ·subst e;rw[ax,ax]
   ·rw[aI _ _ e,aI _ _ e];exact h.2.2 t rfl
  simp only[S.has,h.1,h.2.1,this]
def aet{g:Nat}{want:Bool}{v:AV}(h:InA F v):InA F (re g want v):=by
 unfold re;split
 ·split
  ·exact .of3 h
  ·exact h
 ·exact h
def WB(v:Value):InA F (ofV v):=by
 unfold ofV;split
 ·split
  ·refine .of2 fun c hc=> ?_;obtain⟨x,_,rfl⟩:=arv.1 hc;trivial
  ·exact .of1 trivial
 ·exact .of1 trivial
def aiC{d:Option Nat}{op:Op}(hρ: ∀ x∈op.operands,ρ' x=ρ x)(hF: ∀ x∈op.operands,InA F (ρ x))(hC:aj8 F H)(hH:Agr F H H'):spA C b d ρ' H' op=spA C b d ρ H op:=by
 unfold spA;split
 ·rename_i c;obtain⟨cal,⟨args⟩,⟨tys⟩⟩:=c;have ea:args.map ρ'=args.map ρ:=arK fun x hx=>hρ x (by
   simp only[aqO,asV,asC];exact .inr (by simpa using hx))
  have has: ∀ v∈args.map ρ,InA F v:=fun v hv=>by
   obtain⟨x,hx,rfl⟩:=arv.1 hv;exact hF x (by
    simp only[aqO,asV,asC];exact .inr (by simpa using hx))
  have hc:BZ C.P ρ' H' ⟨cal,⟨args⟩,⟨tys⟩⟩=BZ C.P ρ H ⟨cal,⟨args⟩,⟨tys⟩⟩:=Ze (F:=F) (fun x hx=>hρ x (by
   simp only[aqO,asV,asC];exact .inr (by simpa using hx))) (fun x hx=>hF x (by
   simp only[aqO,asV,asC];exact .inr (by simpa using hx))) hH
  split
  ·rename_i f as _;simp only at *;congr 1;funext m;simp only[ea,CU hH hC m.ps _ has,Dx hH hC m.ps _ has,CV hH hC m.ps _ has];split
   ·congr 1;funext x;rw[(rE _ H' H m.rs b ((m.g x).getD (A3 m.rs,A3 (aT m.ps))).1).1]
   ·rfl
  ·rfl
  ·rfl
  ·rw[hc]
 ·rfl
 ·rfl
 ·rename_i t x lo hi;rw[hρ x (by simp[aqO]),Ew hρ (.inr hF) hH]
 ·rw[Ew hρ (.inr hF) hH]
def aiD{o:Oper}{q:Bool}{v:AV}(hok:okO C o=true)(hF: ∀ x∈o.op.operands,InA F (ρ x))(hC:aj8 F H)(hb: ∀ j,b≤j→j < b+16→F j)(h:spA C b o.dst ρ H o.op=some (q,v)):InA F v:=by
 have hFb:F b:=hb b (aqG b) (by omega);unfold spA at h;unfold okO at hok;generalize ho:o.op=op at h hok hF;have pu:(match bD C.P C.kd ρ H b op with
  | some (q,v,[])=>some (q,v)
  | _=>none)=some (q,v)→InA F v:=by
  intro h;split at h
  ·rename_i hp;cases h;exact(Vf hF (.inr hF) hC hFb _ _ _ hp).1
  ·cases h
 split at h
 ·rename_i c;obtain⟨cal,⟨args⟩,⟨tys⟩⟩:=c;simp only at h hok;split at h
  ·rename_i f;obtain⟨m,hm,h⟩:=aqw.1 h;split at h
   ·rename_i hc;obtain⟨x,hx,h⟩:=aqw.1 h;simp only[aqI,arb]at h;obtain⟨_,h⟩:=h;generalize (m.g x).getD (A3 m.rs,A3 (aT m.ps))=r at h;rw[← h];simp only[hm,okS,aqt]at hok;simp only[aqt]at hc;have hbn: ∀ H0,(aw (fun i=>((args.map ρ)[i]?).getD .un) H0 b m.rs r.1).2.2≤b+16:=fun H0=>by
     have:=EC (fun i=>((args.map ρ)[i]?).getD .un) H0 b m.rs r.1 hc.1.1.1;rw[this];exact aun b 16
    obtain⟨vs,es,b',h1,h2,h3⟩:=Hc (F:=F) (W:=F) (fun i=>((args.map ρ)[i]?).getD .un) m.rs b r.1 (b+16) hok.1 (fun j h1 h2=>⟨hb j h1 h2,hb j h1 h2⟩) hbn;rw[h3];exact Xx h1
   ·cases h
  ·cases h
  ·cases h
  ·split at h
   ·rename_i hp;cases h;exact(Zf _ _ _ _ hp).1
   ·cases h
 ·cases h
 ·cases h
 ·split at h
  ·cases h
  ·exact pu h
 ·exact pu h
def aip(C:Cx)(ops:Array Oper)(F N:Nat→Prop)(WS:Step→Prop)(b:Nat)(o:Oper)(s s':S):Prop:=
 ∃ (g:Option Nat) (v:AV) (es:List Step),InA F v∧(∀ e∈es,WS e∧alb F e)∧(∀ x,g=some x→x∈cI ops o)∧s'=(es.foldl S.app s).fin g o.dst v∧
  ∀ s2:S,(∀ t∈cI ops o,s2.T t=s.T t)→akR s s2 o.dst→Agr N s.H s2.H→ev1 C ops o b s2=some ((es.foldl S.app s2).fin g o.dst v)
def Xm: ∀ (es:List Step) (s:S),(es.foldl S.app s).gs=s.gs∧(es.foldl S.app s).n=s.n∧(es.foldl S.app s).pins=s.pins∧(es.foldl S.app s).nid=s.nid
 | [],_=>⟨rfl,rfl,rfl,rfl⟩
 | e::es,s=>Xm es (s.app e)
def tk(s:S)(d:Option Nat)(v:AV):s.fin none d v=s.put d v:=by
 cases d<;>rfl
def aa4{α:Type}(f:Nat→α)(i:Nat)(v:α)(h:f i=v):upd f i v=f:=by
 funext j;by_cases e:j=i
 ·subst e;rw[ax,h]
 ·rw[aI _ _ e]
def uZ{ops:Array Oper}{o:Oper}{t:Nat}(h:Operand.tmp t∈o.op.operands):t∈o.looksAt ops:=
 aqH _ (arH.2 ⟨.tmp t,by simpa using h,rfl⟩)
def Nq{ops:Array Oper}{o:Oper}{j g:Nat}{want:Bool}(hg:o.guard=some (j,want))(h:(ops[j]?).bind (·.dst)=some g):g∈o.looksAt ops:=by
 refine aqN _ ?_;rw[hg];simp[h]
def YZ{ops:Array Oper}: ∀ (n:Nat) (o:Oper),(∀ t∈WZ ops n o,s2.T t=s.T t)→Ky ops s2 n o=Ky ops s n o
 | 0,_,_=>rfl
 | n+1,o,h=>by
  unfold Ky;unfold WZ at h;cases hg:o.guard with
  | none=>rfl
  | some jw=>
   obtain⟨j,want⟩:=jw;rw[hg]at h;simp only at h ⊢;cases hj:ops[j]? with
   | none=>rfl
   | some oj=>
    rw[hj]at h;simp only at h;simp only[aqs];cases hd:oj.dst with
    | none=>rfl
    | some g=>
     rw[hd]at h;simp only[aqs,h g (by simp),YZ n oj (fun t ht=>h t (aqN _ ht))]
def ahF{ops:Array Oper}{o:Oper}(hok:okO C o=true)(hrd: ∀ t∈cI ops o,InA F (s.T t))(hCN: ∀ id ob,N id→s.H id=some ob→wH F ob)(hF: ∀ j,b≤j→j < b+16→F j)
  (hN: ∀ e:Step,b≤e.id→e.id < b+16→WS e)(hW:(rb C s o=none→(∀ e:Step,F e.id→e.fk= .no→WS e)∧ ∀ e:Step,e.id∈On C s o→WS e)∧ ∀ l,rb C s o=some l→ ∀ e:Step,e.id∈l→WS e)
  (hNF:(pur o=true∧o.guard=none∧(mov o.op=true∨ ∀ t∈cI ops o,InA N (s.T t)))∨ ∀ id,F id→N id)(he:ev1 C ops o b s=some s'):aip C ops F N WS b o s s':=by
 have hop: ∀ x∈o.op.operands,InA F (s.ev x):=fun x hx=>by
  cases x with
  | tmp t=>exact hrd t (aqH _ (uZ hx))
  | const v=>exact WB v
  | _=>exact .of1 trivial
 have eop: ∀ s2:S,(∀ t∈cI ops o,s2.T t=s.T t)→ ∀ x∈o.op.operands,s2.ev x=s.ev x:=fun s2 h x hx=>by
  cases x with
  | tmp t=>exact h t (aqH _ (uZ hx))
  | _=>rfl
 have ur:hY C (af S) o b s some=some s'→ ∃ (v:AV) (es:List Step),InA F v∧(∀ e∈es,WS e∧alb F e)∧s'=(es.foldl S.app s).put o.dst v∧
  ∀ s2:S,(∀ x∈o.op.operands,s2.ev x=s.ev x)→s2.has o.dst=s.has o.dst→Agr N s.H s2.H→hY C (af S) o b s2 some=some ((es.foldl S.app s2).put o.dst v):=
  fun h=>afZ hok hop hCN hF hN hW (hNF.imp (fun h=>⟨h.1,h.2.2.imp id fun h x hx=>by
   cases x with
   | tmp t=>exact h t (aqH _ (uZ hx))
   | const v=>exact WB v
   | _=>exact .of1 trivial⟩) id) h
 unfold ev1 evG at he;unfold aip ev1;split at he
 ·rename_i hg;obtain⟨v,es,h1,h2,h3,h4⟩:=ur he;refine⟨none,v,es,h1,h2,nofun,by rw[tk];exact h3,fun s2 e1 e2 e3=> ?_⟩;unfold evG;rw[hg,tk];exact h4 s2 (eop s2 e1) e2.has e3
 ·rename_i j want hg;have hNs: ∀ id,F id→N id:=hNF.resolve_left fun h=>by rw[hg]at h;cases h.2.1
  have hC:aj8 F s.H:=fun id ob hid ho=>hCN id ob (hNs id hid) ho;split at he
  ·cases he
  ·rename_i g hgd hsp;have hgl:g∈cI ops o:=aqH _ (Nq hg hgd);split at he
   ·rename_i qq v akG hv;split at he
    ·rename_i hn;split at he
     case isFalse=>cases he
     rename_i aow;cases he;have opn: ∀ x∈o.op.operands,InA F ((s.narrow g want).ev x):=fun x hx=>by
      cases x with
      | tmp t=>
       show InA F (upd (fun t=>re g want (s.T t)) g (.b want) t);by_cases e:t=g
       ·subst e;rw[ax];exact .of1 trivial
       ·rw[aI _ _ e];exact aet (hrd t (aqH _ (uZ hx)))
      | const v=>exact WB v
      | _=>exact .of1 trivial
     have hvF:InA F v:=aiD hok opn hC hF hv;have ap3:InA F (.gd g want v):=by
      show In3 F v;cases v<;>first | (cases hn;done) | exact hvF
     refine⟨some g,.gd g want v,[],ap3,by simp,fun x hx=>by cases hx;exact hgl,rfl,fun s2 e1 e2 e3=> ?_⟩;unfold evG;rw[hg];simp only[hgd,hsp];have e4:({ s2 with gs:=upd s2.gs g true } :S).has o.dst=true:=by rw[e2.more g];exact akG
     have e5:spA C b o.dst (s2.narrow g want).ev s2.H o.op=some (qq,v):=by
      rw[aiC (ρ:=(s.narrow g want).ev) (H:=s.H) (F:=F) (fun x hx=> ?_) opn hC (e3.mono hNs)]
      ·exact hv
      ·cases x with
       | tmp t=>
        show upd (fun t=>re g want (s2.T t)) g (.b want) t=upd (fun t=>re g want (s.T t)) g (.b want) t;by_cases e:t=g
        ·subst e;rw[ax,ax]
        ·rw[aI _ _ e,aI _ _ e,e1 t (aqH _ (uZ hx))]
       | _=>rfl
     have e6:Ky ops s2 4 o=Ky ops s 4 o:=YZ 4 o fun t ht=>e1 t (aqN _ ht);rw[e4,e5];simp only[hn,e6,aow,aqm];rfl
    ·cases he
   ·cases he
  ·rename_i g hgd hsp;have hgl:g∈cI ops o:=aqH _ (Nq hg hgd);split at he
   ·rename_i c hT;have same: ∀ (s0:S) (w:Bool),s0.T g= .lit (.bool c)→c=w→({ s0 with T:=upd s0.T g (.b w) } :S)=s0:=fun s0 w h e=>by
     subst e;rw[aa4 _ _ _ h]
    have yes:hY C (af S) o b { s with T:=upd s.T g (.b want) } some=some s'→c=want→
      ∃ (gg:Option Nat) (v:AV) (es:List Step),InA F v∧(∀ e∈es,WS e∧alb F e)∧(∀ x,gg=some x→x∈cI ops o)∧s'=(es.foldl S.app s).fin gg o.dst v∧
       ∀ s2:S,(∀ t∈cI ops o,s2.T t=s.T t)→akR s s2 o.dst→Agr N s.H s2.H→evG C (af S) ops o b s2 some=some ((es.foldl S.app s2).fin gg o.dst v):=by
     intro he e;rw[same s want hT e]at he;obtain⟨v,es,h1,h2,h3,h4⟩:=ur he;refine⟨none,v,es,h1,h2,nofun,by rw[tk];exact h3,fun s2 e1 e2 e3=> ?_⟩;have hT2:s2.T g= .lit (.bool c):=(e1 g hgl).trans hT;have:=h4 s2 (eop s2 e1) e2.has e3;unfold evG;rw[hg,tk];simp only[hgd,hsp,hT2];have e5:=same s2 want hT2 e;subst e;cases c<;>simp only[aqm,if_false,ar2]<;>rw[e5]<;>exact this
    have no:(match s.has o.dst with
      | true=>some (({ s with T:=upd s.T g (.b (!want)) } :S).put o.dst oZ)
      | false=>none)=some s'→c= !want→
      ∃ (gg:Option Nat) (v:AV) (es:List Step),InA F v∧(∀ e∈es,WS e∧alb F e)∧(∀ x,gg=some x→x∈cI ops o)∧s'=(es.foldl S.app s).fin gg o.dst v∧
       ∀ s2:S,(∀ t∈cI ops o,s2.T t=s.T t)→akR s s2 o.dst→Agr N s.H s2.H→evG C (af S) ops o b s2 some=some ((es.foldl S.app s2).fin gg o.dst v):=by
     intro he e;rw[same s _ hT e]at he;split at he
     ·rename_i akG;cases he;refine⟨none,oZ,[],.of1 trivial,by simp,nofun,by rw[tk];rfl,fun s2 e1 e2 e3=> ?_⟩;have hT2:s2.T g= .lit (.bool c):=(e1 g hgl).trans hT;have hh2:=e2.has.trans akG;unfold evG;rw[hg,tk];simp only[hgd,hsp,hT2];have e5:=same s2 _ hT2 e;subst e;cases want<;>simp only[aqu,aqv]at e5<;>simp only[aqu,aqv,aqm,if_false,ar2,hh2]<;>rw[e5]<;>rfl
     ·cases he
    cases want<;>cases c<;>simp only[aqm,if_false,ar2]at he
    ·exact yes he rfl
    ·exact no he rfl
    ·exact no he rfl
    ·exact yes he rfl
   ·rename_i vs hT;split at he
    ·rename_i akG;cases he;refine⟨none,oZ,[],.of1 trivial,by simp,nofun,by rw[tk];rfl,fun s2 e1 e2 e3=> ?_⟩;have hT2:s2.T g= .lit (.tuple vs):=(e1 g hgl).trans hT;have hh2:=e2.has.trans akG;unfold evG;rw[hg,tk];simp only[hgd,hsp,hT2,hh2];rfl
    ·cases he
   ·cases he
end
end Go.VS
namespace Go.VS
open Go
section
variable {F G N:Nat→Prop} {H H':Hp} {P:Program} {s s' s2:S} {b:Nat} {C:Cx}
def alb.mono(h: ∀ id,F id→G id){e:Step}(he:alb F e):alb G e:=fun ob eo=>by
 have:=he ob eo;cases ob<;>first | trivial | exact fun c hc=>(this c hc).mono h
def Fk.anC(id:Nat)(fk:Fk){c:AV}(h:In1 F c)(hn: ¬ F id):fk.f id c=c:=by
 have ne: ∀ j,F j→aqK j id=false:=fun j hj=>by
  cases e:aqK j id with
  | false=>rfl
  | true=>exact absurd (aD e▸hj) hn
 cases fk with
 | no=>rfl
 | kl=>
  cases c<;>first | rfl | (simp only[Fk.f,kl1,ne _ h];done)
 | fz k xs=>
  cases c<;>first | rfl | (simp only[Fk.f,fz1,ne _ h];done)
def QV{f:AV→AV}(hf: ∀ c,In1 F c→f c=c){v:AV}(h:In2 F v):oQ f v=v:=by
 cases v<;>first | exact hf _ h | skip
 rename_i cs;exact congrArg AV.agg ((arK fun c hc=>hf c (h c hc)).trans (au4 cs))
def QT{f:AV→AV}(hf: ∀ c,In1 F c→f c=c){v:AV}(h:In3 F v):p6 f v=v:=by
 have gen:In2 F v→oQ f v=v:=fun h=>QV hf h;cases v<;>first | exact gen h | skip
 rename_i cs;exact congrArg AV.tup ((arK fun c hc=>QV hf (h c hc)).trans (au4 cs))
def Lp{f:AV→AV}(hf: ∀ c,In1 F c→f c=c){v:AV}(h:InA F v):vK f v=v:=by
 have gen:In3 F v→p6 f v=v:=fun h=>QT hf h;cases v with
 | gd g w v=>exact congrArg (AV.gd g w) (QT hf h)
 | _=>exact gen h
def Lo{f:AV→AV}(hf: ∀ c,In1 F c→f c=c){o:Option Ob}(h: ∀ ob,o=some ob→wH F ob):gT f o=o:=by
 cases o with
 | none=>rfl
 | some ob=>
  have:=h ob rfl;cases ob<;>first | rfl | skip
  rename_i e cs;exact congrArg (fun l=>some (Ob.box e l)) ((arK fun c hc=>hf c (this c hc)).trans (au4 cs))
def Fk.akB{e:Step}{c:AV}(h:In1 F c)(hn:e.fk= .no∨ ¬ F e.id):e.fk.f e.id c=c:=by
 rcases hn with hn | hn
 ·rw[hn];rfl
 ·exact Fk.anC _ _ h hn
def Ei{t:Nat}: ∀ (es:List Step) (s:S),(∀ e∈es,e.fk= .no∨ ¬ F e.id)→InA F (s.T t)→(es.foldl S.app s).T t=s.T t
 | [],_,_,_=>rfl
 | e::es,s,h,ht=>by
  have h1:(s.app e).T t=s.T t:=Lp (fun c hc=>Fk.akB hc (h e aqA)) ht;show(es.foldl S.app (s.app e)).T t=s.T t;rw[Ei es _ (fun e' he=>h e' (aqx _ he)) (by rw[h1];exact ht),h1]
def Tw(N F:Nat→Prop)(H:Hp):Prop:= ∀ id ob,N id→H id=some ob→wH F ob
def Ej: ∀ (es:List Step) (s:S),(∀ e∈es,¬ N e.id∧(e.fk= .no∨ ¬ F e.id))→Tw N F s.H→Agr N s.H (es.foldl S.app s).H
 | [],_,_,_=>Agr.refl _ _
 | e::es,s,h,hC=>by
  have h1:Agr N s.H (s.app e).H:=fun id hid=>by
   rw[UW,aqg (fun(e':id=e.id)=>(h e aqA).1 (e'▸hid))];exact Lo (fun c hc=>Fk.akB hc (h e aqA).2) (fun ob ho=>hC id ob hid ho)
  have hC1:Tw N F (s.app e).H:=fun id ob hid ho=>hC id ob hid (by rw[← h1 id hid];exact ho);intro id hid;show(es.foldl S.app (s.app e)).H id=s.H id;rw[Ej es _ (fun e' he=>h e' (aqx _ he)) hC1 id hid,h1 id hid]
def To: ∀ (es:List Step) (s:S),(∀ e∈es,alb F e∨ ¬ N e.id)→Tw N F s.H→Tw N F (es.foldl S.app s).H
 | [],_,_,h=>h
 | e::es,s,h,hC=>by
  refine To es (s.app e) (fun e' he=>h e' (aqx _ he)) ?_;intro id ob hid ho;rw[UW]at ho;split at ho
  ·rename_i e';rcases h e aqA with h1 | h1
   ·exact h1 ob ho
   ·exact absurd (e'▸hid) h1
  ·exact abl (fun c hc=>Fk.anQ _ _ hc) (fun ob ho=>hC id ob hid ho) ob ho
def NC{id:Nat}: ∀ (es:List Step) (s:S),(∀ e∈es,e.id≠id)→s.H id=none→(es.foldl S.app s).H id=none
 | [],_,_,h=>h
 | e::es,s,hn,h=>by
  refine NC es _ (fun e' he=>hn e' (aqx _ he)) ?_;rw[UW,aqg (fun e'=>hn e aqA e'.symm),h];rfl
def M5{t:Nat}: ∀ (es:List Step) (s:S),InA F (s.T t)→InA F ((es.foldl S.app s).T t)
 | [],_,h=>h
 | e::es,s,h=>M5 es (s.app e) (abm (fun c hc=>Fk.anQ _ _ hc) h)
def Fk.ala{i j:Nat}(h:i≠j)(f g:Fk)(c:AV):f.f i (g.f j c)=g.f j (f.f i c):=by
 have h1:aqK i j=false:=by rw[← ar7,asH];exact h
 have h2:aqK j i=false:=by rw[← ar7,asH];exact atu h
 have key: ∀ id,(aqK id i=true→aqK id j=false):=fun id e=>by rw[aD e];exact h1
 cases c with
 | own id=>
  cases f<;>cases g<;>simp only[Fk.f,kl1,fz1]<;>cases e1:aqK id i<;>cases e2:aqK id j<;>simp only[e1,e2]<;>
   first | rfl | (rw[key id e1]at e2;cases e2)
 | ptr id z a o=>
  cases f<;>cases g<;>simp only[Fk.f,kl1,fz1]<;>cases e1:aqK id i<;>cases e2:aqK id j<;>simp only[e1,e2]<;>
   first | rfl | (rw[key id e1]at e2;cases e2)
 | _=>cases f<;>cases g<;>rfl
def plA:AV→Bool
 | .agg _=>false
 | .tup _=>false
 | .gd _ _ _=>false
 | _=>true
def Vg(id:Nat)(fk:Fk){c:AV}(h:plA c=true):plA (fk.f id c)=true:=by
 cases fk with
 | no=>exact h
 | kl=>
  cases c<;>first | exact h | skip
  ·simp only[Fk.f,kl1];split<;>rfl
  ·simp only[Fk.f,kl1];split<;>rfl
 | fz k xs=>
  cases c<;>first | exact h | skip
  ·simp only[Fk.f,fz1];split<;>rfl
  ·simp only[Fk.f,fz1];split<;>rfl
def Je{f:AV→AV}{c:AV}(h:plA c=true):oQ f c=f c:=by cases c<;>first | rfl | cases h
def Jd{f:AV→AV}{c:AV}(h:plA c=true):p6 f c=f c:=by cases c<;>first | rfl | cases h
def Pz{f:AV→AV}{c:AV}(h:plA c=true):vK f c=f c:=by cases c<;>first | rfl | cases h
section comm
variable {i j:Nat} (hij:i≠j) (f g:Fk)
include hij
def Hd(v:AV):oQ (f.f i) (oQ (g.f j) v)=oQ (g.f j) (oQ (f.f i) v):=by
 by_cases hp:plA v=true
 ·rw[Je hp,Je hp,Je (Vg _ _ hp),Je (Vg _ _ hp),Fk.ala hij]
 ·cases v with
  | agg cs=>simp only[oQ,ast];exact congrArg AV.agg (arK fun c _=>Fk.ala hij f g c)
  | tup cs=>cases f<;>cases g<;>rfl
  | gd a b c=>cases f<;>cases g<;>rfl
  | _=>exact absurd rfl hp
def QU(v:AV):p6 (f.f i) (p6 (g.f j) v)=p6 (g.f j) (p6 (f.f i) v):=by
 by_cases hp:plA v=true
 ·rw[Jd hp,Jd hp,Jd (Vg _ _ hp),Jd (Vg _ _ hp),Fk.ala hij]
 ·cases v with
  | agg cs=>exact Hd hij f g (.agg cs)
  | tup cs=>simp only[p6,ast];exact congrArg AV.tup (arK fun c _=>Hd hij f g c)
  | gd a b c=>cases f<;>cases g<;>rfl
  | _=>exact absurd rfl hp
def Vp(v:AV):vK (f.f i) (vK (g.f j) v)=vK (g.f j) (vK (f.f i) v):=by
 by_cases hp:plA v=true
 ·rw[Pz hp,Pz hp,Pz (Vg _ _ hp),Pz (Vg _ _ hp),Fk.ala hij]
 ·cases v with
  | agg cs=>exact Hd hij f g (.agg cs)
  | tup cs=>exact QU hij f g (.tup cs)
  | gd a b c=>exact congrArg (AV.gd a b) (QU hij f g c)
  | _=>exact absurd rfl hp
def ac3(o:Option Ob):gT (f.f i) (gT (g.f j) o)=gT (g.f j) (gT (f.f i) o):=by
 cases o with
 | none=>rfl
 | some o=>
  cases o with
  | box e cs=>simp only[gT,ast];exact congrArg (fun l=>some (Ob.box e l)) (arK fun c _=>Fk.ala hij f g c)
  | _=>rfl
end comm
def S.ext'{s s':S}(h1:s.n=s'.n)(h2:s.T=s'.T)(h3:s.H=s'.H)(h4:s.nid=s'.nid)(h5:s.st=s'.st)(h6:s.pins=s'.pins)(h7:s.gs=s'.gs):s=s':=by
 cases s;cases s';simp_all
def agt{e e':Step}(hn:e.id≠e'.id)(h1:gT (e'.fk.f e'.id) e.ob=e.ob)(h2:gT (e.fk.f e.id) e'.ob=e'.ob):(s.app e).app e'=(s.app e').app e:=by
 refine S.ext' rfl (funext fun t=>Vp hn.symm e'.fk e.fk (s.T t)) (funext fun id=> ?_) rfl ?_ rfl rfl
 ·rw[UW,UW,UW,UW];by_cases a1:id=e'.id
  ·subst a1;rw[aqh rfl,aqg hn.symm,aqh rfl,h2]
  ·rw[aqg a1,aqg a1];by_cases a2:id=e.id
   ·rw[aqh a2,aqh a2,h1]
   ·rw[aqg a2,aqg a2,ac3 hn.symm e'.fk e.fk]
 ·show(s.st.map _).map _=(s.st.map _).map _;rw[ast,ast];exact arK fun T _=>funext fun t=>Vp hn.symm e'.fk e.fk (T t)
def WkS(F W K:Nat→Prop)(e:Step):Prop:=(W e.id∧(e.fk= .no∨K e.id))∧alb F e
def Wk(F W K:Nat→Prop)(es:List Step):Prop:= ∀ e∈es,WkS F W K e
def GG{F F' W W' K K':Nat→Prop}(hW: ∀ id,W id→ ¬ W' id)(h1: ∀ id,K id→ ¬ F' id)(h2: ∀ id,K' id→ ¬ F id){e:Step}(he:WkS F W K e): ∀ (es:List Step) (s:S),Wk F' W' K' es→(es.foldl S.app s).app e=es.foldl S.app (s.app e)
 | [],_,_=>rfl
 | e'::es,s,h=>by
  have he':=h e' aqA;have hn:e.id≠e'.id:=fun x=>hW _ he.1.1 (x▸he'.1.1);have c:=agt (s:=s) hn (Lo (F:=F) (fun c hc=>Fk.akB hc (he'.1.2.imp id (h2 _))) he.2) (Lo (F:=F') (fun c hc=>Fk.akB hc (he.1.2.imp id (h1 _))) he'.2);show(es.foldl S.app (s.app e')).app e=es.foldl S.app ((s.app e).app e');rw[GG hW h1 h2 he es _ (fun e0 h0=>h e0 (aqx _ h0)),c]
def V6{F F' W W' K K':Nat→Prop}(hW: ∀ id,W id→ ¬ W' id)(h1: ∀ id,K id→ ¬ F' id)(h2: ∀ id,K' id→ ¬ F id): ∀ (es es':List Step) (s:S),Wk F W K es→Wk F' W' K' es'→es.foldl S.app (es'.foldl S.app s)=es'.foldl S.app (es.foldl S.app s)
 | [],_,_,_,_=>rfl
 | e::es,es',s,h,h'=>by
  show es.foldl S.app ((es'.foldl S.app s).app e)=es'.foldl S.app (es.foldl S.app (s.app e));rw[GG hW h1 h2 (h e aqA) es' s h',V6 hW h1 h2 es es' _ (fun e0 h0=>h e0 (aqx _ h0)) h']
def ah0{e:Step}{g d:Option Nat}{v:AV}(hv:vK (e.fk.f e.id) v=v):(s.fin g d v).app e=(s.app e).fin g d v:=by
 cases d with
 | none=>exact S.ext' rfl rfl rfl rfl rfl rfl rfl
 | some d=>
  refine S.ext' rfl (funext fun t=> ?_) rfl rfl rfl rfl rfl;show vK _ (upd s.T d v t)=upd (fun t=>vK _ (s.T t)) d v t;by_cases e:t=d
  ·subst e;rw[ax,ax,hv]
  ·rw[aI _ _ e,aI _ _ e]
def Tm{g d:Option Nat}{v:AV}: ∀ (es:List Step) (s:S),(∀ e∈es,vK (e.fk.f e.id) v=v)→es.foldl S.app (s.fin g d v)=(es.foldl S.app s).fin g d v
 | [],_,_=>rfl
 | e::es,s,h=>by
  show es.foldl S.app ((s.fin g d v).app e)=(es.foldl S.app (s.app e)).fin g d v;rw[ah0 (h e aqA),Tm es _ fun e' h'=>h e' (aqx _ h')]
def afW{g g' d d':Option Nat}{v v':AV}(hd: ∀ t,d=some t→d'≠some t):(s.fin g d v).fin g' d' v'=(s.fin g' d' v').fin g d v:=by
 have hT: ∀ (d d':Nat) (v v':AV) (T:Nat→AV),d≠d'→upd (upd T d v) d' v'=upd (upd T d' v') d v:=fun d d' v v' T hn=>by
  funext t;by_cases e:t=d'
  ·subst e;rw[ax,aI _ _ hn.symm,ax]
  ·rw[aI _ _ e];by_cases e2:t=d
   ·subst e2;rw[ax,ax]
   ·rw[aI _ _ e2,aI _ _ e2,aI _ _ e]
 have hG: ∀ (g g':Nat) (T:Nat→Bool),upd (upd T g true) g' true=upd (upd T g' true) g true:=fun g g' T=>by
  funext t;by_cases e:t=g'
  ·subst e;rw[ax];by_cases e2:t=g
   ·subst e2;rw[ax]
   ·rw[aI _ _ e2,ax]
  ·rw[aI _ _ e];by_cases e2:t=g
   ·subst e2;rw[ax,ax]
   ·rw[aI _ _ e2,aI _ _ e2,aI _ _ e]
 refine S.ext' ?_ ?_ ?_ ?_ ?_ ?_ ?_
 ·cases d<;>cases d'<;>rfl
 ·cases d with
  | none=>cases d'<;>rfl
  | some d=>cases d' with
   | none=>rfl
   | some d'=>exact hT _ _ _ _ s.T (fun e=>hd d rfl (by rw[e]))
 ·cases d<;>cases d'<;>rfl
 ·cases d<;>cases d'<;>rfl
 ·cases d<;>cases d'<;>rfl
 ·cases d<;>cases d'<;>rfl
 ·cases d<;>cases d'<;>cases g<;>cases g'<;>first | rfl | exact hG _ _ s.gs
end
end Go.VS
namespace Go.VS
open Go
structure Lb where
 b:Nat→Nat
 F:Nat→Nat→Prop
 N:Nat→Nat→Prop
 W:Nat→Nat→Prop
 K:Nat→Nat→Prop
 V:Nat→Nat→Prop
 R:Nat→Nat→Prop
def Stp(C:Cx)(ops:Array Oper)(o:Oper)(b:Nat)(F N W K V:Nat→Prop)(s s':S):Prop:=
 ∃ (g:Option Nat) (v:AV) (es:List Step),InA F v∧(∀ t,o.dst=some t→InA V v)∧Wk F W K es∧(∀ x,g=some x→x∈cI ops o)∧s'=(es.foldl S.app s).fin g o.dst v∧
  ∀ s2:S,(∀ t∈cI ops o,s2.T t=s.T t)→akR s s2 o.dst→Agr N s.H s2.H→ev1 C ops o b s2=some ((es.foldl S.app s2).fin g o.dst v)
section
variable {C:Cx} {ops:Array Oper} {s s' s0 s1 s2:S}
def Stp.ev{o:Oper}{b:Nat}{F N W K V:Nat→Prop}(h:Stp C ops o b F N W K V s s'):ev1 C ops o b s=some s':=by
 obtain⟨g,v,es,_,_,_,_,rfl,h⟩:=h;exact h s (fun _ _=>rfl) ⟨rfl,rfl,fun _ _=>rfl⟩ (Agr.refl _ _)
def abH{g d:Option Nat}{v:AV}{t:Nat}:(s.fin g d v).T t=if d=some t then v else s.T t:=by
 cases d with
 | none=>simp[S.fin,S.put]
 | some d=>
  show upd s.T d v t=_;by_cases e:t=d
  ·subst e;rw[ax];simp
  ·rw[aI _ _ e,aqg (fun e'=>e (by simpa using e'.symm))]
def abI{g d:Option Nat}{v:AV}:(s.fin g d v).H=s.H:=by cases d<;>rfl
def afV{g d:Option Nat}{v:AV}{t:Nat}(h:g≠some t):(s.fin g d v).gs t=s.gs t:=by
 cases g with
 | none=>cases d<;>rfl
 | some g=>
  have:t≠g:=fun e=>h (by rw[e]);cases d<;>exact aI _ _ this
def Stp.swap{x i:Oper}{bx bi:Nat}{Fx Nx Wx Kx Vx Fi Ni Wi Ki Vi:Nat→Prop}(h1:Stp C ops x bx Fx Nx Wx Kx Vx s0 s1)(h2:Stp C ops i bi Fi Ni Wi Ki Vi s1 s2)
  (kxi: ∀ id,Kx id→ ¬ Fi id)(kix: ∀ id,Ki id→ ¬ Fx id)(nxi: ∀ id,Wx id→ ¬ Ni id)(nix: ∀ id,Wi id→ ¬ Nx id)(wxi: ∀ id,Wx id→ ¬ Wi id)(dxi: ∀ t,x.dst=some t→t ∉ cI ops i)(dix: ∀ t,i.dst=some t→t ∉ cI ops x)(hd: ∀ t,x.dst=some t→i.dst≠some t)
  (rx: ∀ t∈cI ops x,InA Fx (s0.T t))(cx:Tw Nx Fx s0.H)(ri: ∀ t∈cI ops i,InA Fi (s0.T t))(ci:Tw Ni Fi s0.H):
  ∃ s0',Stp C ops i bi Fi Ni Wi Ki Vi s0 s0'∧Stp C ops x bx Fx Nx Wx Kx Vx s0' s2:=by
 obtain⟨g1,v1,es1,a1,a2,a3,a4,a5,a6⟩:=h1;obtain⟨g2,v2,es2,b1,b2,b3,b4,b5,b6⟩:=h2;have n1: ∀ e∈es1,e.fk= .no∨ ¬ Fi e.id:=fun e he=>(a3 e he).1.2.imp id (kxi _);have p1: ∀ e∈es1,¬ Ni e.id∧(e.fk= .no∨ ¬ Fi e.id):=fun e he=>⟨nxi _ (a3 e he).1.1,n1 e he⟩;have n2: ∀ e∈es2,e.fk= .no∨ ¬ Fx e.id:=fun e he=>(b3 e he).1.2.imp id (kix _);have p2: ∀ e∈es2,¬ Nx e.id∧(e.fk= .no∨ ¬ Fx e.id):=fun e he=>⟨nix _ (b3 e he).1.1,n2 e he⟩;have T1: ∀ t∈cI ops i,s1.T t=s0.T t:=fun t ht=>by
  rw[a5,abH,aqg (fun e=>dxi t e ht)];exact Ei es1 s0 n1 (ri t ht)
 have H1:Agr Ni s0.H s1.H:=by
  rw[a5,abI];exact Ej es1 s0 p1 ci
 have E1:akR s0 s1 i.dst:=by
  obtain⟨p1,p2,p3,_⟩:=Xm es1 s0;rw[a5];refine⟨?_, ?_,fun t ht=> ?_⟩
  ·rw[← p2];cases x.dst<;>rfl
  ·rw[← p3];cases x.dst<;>rfl
  ·rw[afV (fun e=>dix t ht (a4 t e)),p1]
 have step: ∀ s3:S,(∀ t∈cI ops i,s3.T t=s0.T t)→akR s0 s3 i.dst→Agr Ni s0.H s3.H→ev1 C ops i bi s3=some ((es2.foldl S.app s3).fin g2 i.dst v2):=fun s3 e1 e2 e3=>
  b6 s3 (fun t ht=>by rw[e1 t ht,T1 t ht]) ⟨e2.1.trans E1.1.symm,e2.2.1.trans E1.2.1.symm,fun t ht=>by rw[e2.2.2 t ht,E1.2.2 t ht]⟩ (fun id hid=>by rw[e3 id hid,H1 id hid])
 have T2: ∀ t∈cI ops x,((es2.foldl S.app s0).fin g2 i.dst v2).T t=s0.T t:=fun t ht=>by
  rw[abH,aqg (fun e=>dix t e ht)];exact Ei es2 s0 n2 (rx t ht)
 have H2:Agr Nx s0.H ((es2.foldl S.app s0).fin g2 i.dst v2).H:=by
  rw[abI];exact Ej es2 s0 p2 cx
 have E2:akR s0 ((es2.foldl S.app s0).fin g2 i.dst v2) x.dst:=by
  obtain⟨p1,p2,p3,_⟩:=Xm es2 s0;refine⟨?_, ?_,fun t ht=> ?_⟩
  ·rw[← p2];cases i.dst<;>rfl
  ·rw[← p3];cases i.dst<;>rfl
  ·rw[afV (fun e=>dxi t ht (b4 t e)),p1]
 have eq:s2=(es1.foldl S.app ((es2.foldl S.app s0).fin g2 i.dst v2)).fin g1 x.dst v1:=by
  have m1: ∀ e∈es1,vK (e.fk.f e.id) v2=v2:=fun e he=>Lp (fun c hc=>Fk.akB hc (n1 e he)) b1;have m2: ∀ e∈es2,vK (e.fk.f e.id) v1=v1:=fun e he=>Lp (fun c hc=>Fk.akB hc (n2 e he)) a1;rw[b5,a5,Tm es2 _ m2,Tm es1 _ m1,V6 wxi kxi kix es1 es2 s0 a3 b3,afW hd]
 refine⟨(es2.foldl S.app s0).fin g2 i.dst v2,⟨g2,v2,es2,b1,b2,b3,b4,rfl,step⟩,⟨g1,v1,es1,a1,a2,a3,a4,eq,fun s3 e1 e2 e3=> ?_⟩⟩;exact a6 s3 (fun t ht=>by rw[e1 t ht,T2 t ht]) ⟨e2.1.trans E2.1,e2.2.1.trans E2.2.1,fun t ht=>by rw[e2.2.2 t ht,E2.2.2 t ht]⟩ (fun id hid=>by rw[e3 id hid,H2 id hid])
inductive Run (C:Cx) (ops:Array Oper) (L:Lb):List Nat→S→S→Prop
 | nil {s:S} :Run C ops L [] s s
 | cons {i:Nat} {o:Oper} {l:List Nat} {s s1 s':S} (ho:ops[i]? =some o) (h:Stp C ops o (L.b i) (L.F i) (L.N i) (L.W i) (L.K i) (L.V i) s s1) (t:Run C ops L l s1 s'):Run C ops L (i::l) s s'
def Fit(ops:Array Oper)(L:Lb)(U:List Nat)(s:S)(i:Nat):Prop:= ∀ o,ops[i]? =some o→
 (∀ t∈cI ops o,(∀ j∈U,L.R j i→ ∀ oj,ops[j]? =some oj→oj.dst≠some t)→InA (L.F i) (s.T t)∧(mov o.op=true∨InA (L.N i) (s.T t)))∧Tw (L.N i) (L.F i) s.H∧(∀ id,L.b i≤id→id < L.b i+16→s.H id=none)
def Ind(ops:Array Oper)(L:Lb)(x i:Nat):Prop:= ∀ ox oi,ops[x]? =some ox→ops[i]? =some oi→
 (∀ id,L.K x id→ ¬ L.F i id)∧(∀ id,L.K i id→ ¬ L.F x id)∧(∀ id,L.W x id→ ¬ L.N i id)∧(∀ id,L.W i id→ ¬ L.N x id)∧(∀ id,L.W x id→ ¬ L.W i id)∧
 (∀ id,L.b i≤id→id < L.b i+16→ ¬ L.F x id)∧(∀ id,L.b x≤id→id < L.b x+16→ ¬ L.F i id)∧(∀ t,ox.dst=some t→t ∉ cI ops oi)∧(∀ t,oi.dst=some t→t ∉ cI ops ox)
def Bef(ops:Array Oper)(L:Lb)(x i:Nat):Prop:= ∀ ox oi,ops[x]? =some ox→ops[i]? =some oi→
 ((∀ id,L.W x id→ ¬ L.N i id)∨(∀ id,L.F x id→L.F i id))∧(∀ t,ox.dst=some t→t∈cI ops oi→(∀ id,L.V x id→L.F i id)∧(mov oi.op=true∨ ∀ id,L.V x id→L.N i id))∧(∀ id,L.b i≤id→id < L.b i+16→ ¬ L.F x id)
structure amV (ops:Array Oper) (L:Lb):Prop where
 WF: ∀ i id,L.W i id→L.F i id
 NF: ∀ i id,L.N i id→L.F i id
 NW: ∀ i id,L.b i≤id→id < L.b i+16→L.W i id
 lt: ∀ x i,L.R x i→x < i
 dst: ∀ (x i:Nat) (ox oi:Oper) (t:Nat),x≠i→ops[x]? =some ox→ops[i]? =some oi→ox.dst=some t→oi.dst≠some t
 anc: ∀ (x i:Nat) (oi:Oper),ops[i]? =some oi→L.R x i→ ∃ e∈oi.after,ar1 .any e=true∧(e.on=x∨L.R x e.on)
 dir: ∀ (i:Nat) (oi:Oper) (e:Edge),ops[i]? =some oi→e∈oi.after→ar1 .any e=true→e.on < i
 bef: ∀ x i,L.R x i→Bef ops L x i
 ind: ∀ x i,x < i→ ¬ L.R x i→Ind ops L x i
variable {L:Lb}
def Ind.symm{x i:Nat}(h:Ind ops L x i):Ind ops L i x:=fun oi ox hi hx=>by
 obtain⟨a,b,c,d,e,f,g,p,q⟩:=h ox oi hx hi;exact⟨b,a,d,c,fun id h1 h2=>e id h2 h1,g,f,q,p⟩
def Fit.step(hn:amV ops L){U:List Nat}{x i:Nat}{ox:Oper}(hox:ops[x]? =some ox)(hxi:x≠i)(hRi: ¬ L.R i x)(h:Stp C ops ox (L.b x) (L.F x) (L.N x) (L.W x) (L.K x) (L.V x) s s')(hf:Fit ops L U s i){U':List Nat}(hU: ∀ j∈U,j=x∨j∈U'):
  Fit ops L U' s' i:=by
 intro oi hoi;obtain⟨f1,f2,f3⟩:=hf oi hoi;obtain⟨g,v,es,a1,a2,a3,a4,rfl,a6⟩:=h;have pc:(((∀ id,L.W x id→ ¬ L.N i id)∨(∀ id,L.F x id→L.F i id))∧(∀ t,ox.dst=some t→t∈cI ops oi→(∀ id,L.V x id→L.F i id)∧(mov oi.op=true∨ ∀ id,L.V x id→L.N i id))∧(∀ id,L.b i≤id→id < L.b i+16→ ¬ L.F x id)):=by
  by_cases hR:L.R x i
  ·exact hn.bef x i hR ox oi hox hoi
  ·have hI:Ind ops L x i:=by
    rcases auc hxi with h | h
    ·exact hn.ind x i h hR
    ·exact(hn.ind i x h hRi).symm
   obtain⟨_,_,b1,_,_,b6,_,b8,_⟩:=hI ox oi hox hoi;exact⟨.inl b1,fun t h1 h2=>absurd h2 (b8 t h1),b6⟩
 obtain⟨p1,p2,p3⟩:=pc;refine⟨fun t ht anO=> ?_, ?_,fun id h1 h2=> ?_⟩
 ·rw[abH];split
  ·rename_i hd;exact⟨(a2 t hd).mono (p2 t hd ht).1,(p2 t hd ht).2.imp id fun h=>(a2 t hd).mono h⟩
  ·rename_i hd;have:=f1 t ht fun j hj hR oj hoj e=>by
    rcases hU j hj with rfl | hj
    ·rw[hox]at hoj;cases hoj;exact hd e
    ·exact anO j hj hR oj hoj e
   exact⟨M5 es s this.1,this.2.imp id (M5 es s)⟩
 ·rw[abI];refine To es s (fun e he=> ?_) f2;rcases p1 with p1 | p1
  ·exact .inr (p1 _ (a3 e he).1.1)
  ·exact .inl ((a3 e he).2.mono p1)
 ·rw[abI];exact NC es s (fun e he e'=>p3 id h1 h2 (e'▸hn.WF x _ (a3 e he).1.1)) (f3 id h1 h2)
def Run.first(hn:amV ops L){i:Nat}{l2:List Nat}: ∀ (l1:List Nat) (s:S),Run C ops L (l1++i::l2) s s'→(l1++i::l2).Pairwise (· < ·)→(∀ j∈l1++i::l2,¬ L.R j i)→
  (∀ j∈l1++i::l2,Fit ops L (l1++i::l2) s j)→Run C ops L (i::(l1++l2)) s s'
 | [],s,h,_,_,_=>h
 | x::l1,s,h,hp,hr,hf=>by
  cases h with
  | cons hox hx t=>
   rename_i ox s1;have hp':=ata.1 hp;have hxi:x < i:=hp'.1 i (aqN _ aqA);have ih:=Run.first hn l1 s1 t hp'.2 (fun j hj=>hr j (aqx _ hj)) (fun j hj=>by
    refine(hf j (aqx _ hj)).step hn hox (atV (hp'.1 j hj)) (fun hR=>Nat.lt_asymm (hn.lt _ _ hR) (hp'.1 j hj)) hx fun k hk=> ?_;rcases aqS.1 hk with h | h
    ·exact .inl h
    ·exact .inr h)
   cases ih with
   | cons hoi hi t2=>
    rename_i oi s2;obtain⟨c1,c2,c3,c4,c5,_,_,c6,c7⟩:=hn.ind x i hxi (hr x aqA) ox oi hox hoi;obtain⟨fx1,fx2,_⟩:=hf x aqA ox hox;obtain⟨fi1,fi2,_⟩:=hf i (aqx _ (aqN _ aqA)) oi hoi;obtain⟨s0',k1,k2⟩:=Stp.swap hx hi c1 c2 c3 c4 c5 c6 c7 (fun t ht=>hn.dst x i ox oi t (atV hxi) hox hoi ht)
     (fun t ht=>(fx1 t ht fun j hj hR oj hoj e=>by
      rcases aqS.1 hj with rfl | hj
      ·exact absurd (hn.lt _ _ hR) (auX _)
      ·exact Nat.lt_asymm (hn.lt _ _ hR) (hp'.1 j hj)).1) fx2
     (fun t ht=>(fi1 t ht fun j hj hR oj hoj e=>hr j hj hR).1) fi2
    exact .cons hoi k1 (.cons hox k2 t2)
end
end Go.VS
namespace Go.VS
open Go
section
variable {C:Cx} {B:ake} {ops:Array Oper} {L:Lb} {stk:List (Array Value)} {Q:Exit→Act→World→Prop}
def vV{a:Array Bool}{i:Nat}(h:i < a.size)(ht:a.getD i true=true):a.getD i false=true:=by
 simp[h]at ht ⊢; exact ht
def Wg(hP:C.P=B.P)(hC:mQ C B)(hn:amV ops L){s':S}(hQ: ∀ β a w,St B β stk s' a w→Q .normal a w): ∀ (n:Nat) (U:List Nat) (listed:Array Bool) (a:Act) (w:World) (β:Beta) (s:S),
  U.length=n→Run C ops L U s s'→U.Pairwise (· < ·)→(∀ j,j∈U↔j < ops.size∧listed.getD j true=false)→listed.size=ops.size→(∀ i x,i < ops.size→i ∉ U→L.R x i→x ∉ U)→
  (∀ j∈U,Fit ops L U s j)→St B β stk s a w→wpAny B.P .any ops Q n listed a w:=by
 intro n
 induction n with
 | zero=>
  intro U listed a w β s hl hr hp hU hs hd hf hst;have:U=[]:=aq2 hl;subst this;cases hr;refine⟨?_,hQ β a w hst⟩;cases hrd:atz .any ops listed with
  | nil=>rfl
  | cons j l=>
   have hj:j∈atz .any ops listed:=by rw[hrd];exact aqA
   obtain⟨h1,o,ho,_⟩:=mem_ready.1 hj;have:=(hU j).2 ⟨(arD.1 ho).1,h1⟩;cases this
 | succ n ih=>
  intro U listed a w β s hl hr hp hU hs hd hf hst;refine⟨fun aok=> ?_,fun i hi=> ?_⟩
  ·exfalso;cases U with
   | nil=>simp at hl
   | cons i0 l=>
    obtain⟨hlt,hun⟩:=(hU i0).1 aqA;obtain⟨o,ho⟩: ∃ o,ops[i0]? =some o:=⟨ops[i0],by simp[hlt]⟩;have hr0:i0∈atz .any ops listed:=mem_ready.2 ⟨hun,o,ho,fun e he hb=>by
     have anM:=hn.dir i0 o e ho he hb;have apH:e.on ∉ i0::l:=fun hm=>by
      rcases aqS.1 hm with h | h
      ·omega
      ·have:=(ata.1 hp).1 _ h;omega
     have hsz:e.on < ops.size:=by omega
     refine vV (by omega) ?_;cases hb':listed.getD e.on true with
     | true=>rfl
     | false=>exact absurd ((hU e.on).2 ⟨hsz,hb'⟩) apH⟩
    rw[aok]at hr0;cases hr0
  ·obtain⟨hun,oi,hoi,alF⟩:=mem_ready.1 hi;have hlt:i < ops.size:=(arD.1 hoi).1;have hiU:i∈U:=(hU i).2 ⟨hlt,hun⟩;obtain⟨l1,l2,rfl⟩:=List.append_of_mem hiU;have hRn: ∀ j∈l1++i::l2,¬ L.R j i:=by
    intro j hj hR;obtain⟨e,he,hb,alX⟩:=hn.anc j i oi hoi hR;have hel:=alF e he hb;have heU:e.on ∉ l1++i::l2:=fun hm=>by
     have h2:=((hU e.on).1 hm).2;have hsz:=((hU e.on).1 hm).1;have:listed.getD e.on true=true:=by simp[show e.on < listed.size by omega]at hel ⊢; exact hel
     rw[this]at h2;cases h2
    rcases alX with h | h
    ·exact heU (h▸hj)
    ·have anM:=hn.dir i oi e hoi he hb;exact hd e.on j (by omega) heU h hj
   have akm:=Run.first hn l1 s hr hp hRn hf
   cases akm with
   | cons anl am9 t=>
    rename_i o' s1;rw[hoi]at anl;cases anl;have hnd:(l1++i::l2).Nodup:=hp.imp fun h=>atV h;have akF: ∀ j,j∈l1++l2↔j∈l1++i::l2∧j≠i:=by
     intro j;have alH:=asM.1 hnd;constructor
     ·intro hj;refine⟨?_, ?_⟩
      ·rcases aqL.1 hj with h | h
       ·exact aqH _ h
       ·exact aqN _ (aqx _ h)
      ·rintro rfl;rcases aqL.1 hj with h | h
       ·exact alH.2.2 j h j aqA rfl
       ·exact(asJ.1 alH.2.1).1 h
     ·rintro⟨hj,hne⟩;rcases aqL.1 hj with h | h
      ·exact aqH _ h
      ·rcases aqS.1 h with h | h
       ·exact absurd h hne
       ·exact aqN _ h
    refine R4 hP hC hoi hst (b:=L.b i) (fun j h1 h2=>(hf i hiU oi hoi).2.2 j h1 h2) am9.ev ?_;intro β' u w' ame;refine ih (l1++l2) _ _ _ β' s1 ?_ t ?_ ?_ ?_ ?_ ?_ ame
    ·simp at hl ⊢; omega
    ·exact(asY.1 hp).1 |> fun p1=>by
      have p2:=asY.1 hp;exact asY.2 ⟨p1,(ata.1 p2.2.1).2,fun x hx y hy=>p2.2.2 x hx y (aqx _ hy)⟩
    ·intro j;rw[akF,hU];by_cases e:j=i
     ·subst e;simp
     ·rw[getD_set_ne true (atu e)];simp[e]
    ·simpa using hs
    ·intro k x hk hkU hR hx;have hxU:=((akF x).1 hx).1;by_cases e:k=i
     ·subst e;exact hRn x hxU hR
     ·exact hd k x hk (fun h=>hkU ((akF k).2 ⟨h,e⟩)) hR hxU
    ·intro j hj;obtain⟨hjU,hne⟩:=(akF j).1 hj;refine(hf j hjU).step hn hoi (atu hne) (hRn j hjU) am9 fun k hk=> ?_;by_cases e:k=i
     ·exact .inl e
     ·exact .inr ((akF k).2 ⟨hk,e⟩)
def ZU(hP:C.P=B.P)(hm:B.P.follows .mixedOrders=true)(hC:mQ C B)(hn:amV ops L){s s':S}(hr:Run C ops L (aqW ops.size) s s')(hf: ∀ j,j < ops.size→Fit ops L (aqW ops.size) s j)
  {id:Nat}{β:Beta}{a:Act}{w:World}(hst:St B β stk s a w)(hQ: ∀ β a w,St B β stk s' a w→Q .normal a w):(auy id ops true).wp B.P Q a w:=by
 refine wp_region_any hm ?_;have ame:St B β stk s a { w with drawn:=w.drawn+1 } :=by
  have hk:Kp w β { w with drawn:=w.drawn+1 } β:=Kp.heap rfl;have:=hst.keep hk (H':=s.H) (hst.hs.drew);exact this
 refine Wg hP hC hn hQ ops.size (aqW ops.size) _ a _ β s (by simp) hr ath (fun j=> ?_) (by simp) (fun i x hi hiU hR=> ?_) (fun j hj=>hf j (arl.1 hj)) ame
 ·rw[arl];constructor
  ·intro h;exact⟨h,by simp[h]⟩
  ·exact fun h=>h.1
 ·exact absurd (arl.2 hi) hiU
end
end Go.VS
namespace Go.VS
open Go
abbrev Mm(M id:Nat):Prop:=M.testBit id=true
def eW(a b i:Nat):(arc a b).testBit i=(a.testBit i||b.testBit i):=Nat.testBit_or a b i
def QY(a b i:Nat):(aul a b).testBit i=(a.testBit i&&b.testBit i):=Nat.testBit_and a b i
def PF{i j:Nat}:(bit i).testBit j=true↔j=i:=by
 show(1 <<< i).testBit j=true↔j=i;rw[Nat.one_shiftLeft,Nat.testBit_two_pow];simp[eq_comm]
def AD{b j:Nat}:(nm b).testBit j=true↔b≤j∧j < b+16:=by
 show(65535 <<< b).testBit j=true↔_;rw[Nat.testBit_shiftLeft,show(65535:Nat)=2 ^ 16 - 1 from rfl,Nat.testBit_two_pow_sub_one];simp;omega
def uL{l:List Nat}{j:Nat}:(msk l).testBit j=true↔j∈l:=by
 induction l with
 | nil=>simp[msk]
 | cons i l ih=>
  show(arc (bit i) (msk l)).testBit j=true↔_;rw[eW,aq8,PF,ih,aqS]
def nj{a b:Nat}(h:dsj a b=true): ∀ i,Mm a i→ ¬ Mm b i:=fun i h1 h2=>by
 have e:aul a b=0:=atL h;have:=QY a b i;rw[e,h1,h2]at this;simp at this
def CQ{a b:Nat}(h:sbs a b=true): ∀ i,Mm a i→Mm b i:=fun i h1=>by
 have e:aul a b=a:=atL h;have:=QY a b i;rw[e,h1]at this;simpa using this.symm
def Wl{a i:Nat}:tst a i=true↔a.testBit i=true:=by
 unfold tst;constructor
 ·intro h;cases hb:a.testBit i with
  | true=>rfl
  | false=>
   have:dsj a (bit i)=true:=by
    unfold dsj;have e:aul a (bit i)=0:=Nat.eq_of_testBit_eq fun j=>by
     rw[QY];cases hj:(bit i).testBit j with
     | false=>simp
     | true=>rw[PF.1 hj,hb];simp
    rw[e];rfl
   rw[this]at h;cases h
 ·intro h;cases hd:dsj a (bit i) with
  | false=>rfl
  | true=>exact absurd (PF.2 rfl) (nj hd i h)
section
variable {F:Nat→Prop} {H:Hp}
def aby{v:AV}{l:List Nat}(h:Yy v=some l)(hF: ∀ i∈l,F i):In1 F v:=by
 cases v<;>first | (cases h;done) | (cases h;exact hF _ (by simp)) | trivial
def WX: ∀ {cs:List AV} {l:List Nat},ahn cs=some l→(∀ i∈l,F i)→ ∀ c∈cs,In1 F c
 | [],_,_,_,_,hc=>by cases hc
 | c::cs,l,h,hF,d,hd=>by
  obtain⟨a,h1,h⟩:=aqw.1 h;obtain⟨b,h2,h⟩:=aqw.1 h;cases h;rcases aqS.1 hd with rfl | hd
  ·exact aby h1 fun i hi=>hF i (aqH _ hi)
  ·exact WX h2 (fun i hi=>hF i (aqN _ hi)) d hd
def abw{v:AV}{l:List Nat}(h:Yx v=some l)(hF: ∀ i∈l,F i):In2 F v:=by
 have gen:Yy v=some l→In2 F v:=fun h=> .of1 (aby h hF);cases v<;>first | exact WX h hF | exact gen h
def abu: ∀ {cs:List AV} {l:List Nat},ai5 cs=some l→(∀ i∈l,F i)→ ∀ c∈cs,In2 F c
 | [],_,_,_,_,hc=>by cases hc
 | c::cs,l,h,hF,d,hd=>by
  obtain⟨a,h1,h⟩:=aqw.1 h;obtain⟨b,h2,h⟩:=aqw.1 h;cases h;rcases aqS.1 hd with rfl | hd
  ·exact abw h1 fun i hi=>hF i (aqH _ hi)
  ·exact abu h2 (fun i hi=>hF i (aqN _ hi)) d hd
def abv{v:AV}{l:List Nat}(h:aho v=some l)(hF: ∀ i∈l,F i):In3 F v:=by
 have gen:Yx v=some l→In3 F v:=fun h=> .of2 (abw h hF);cases v<;>first | exact abu h hF | exact gen h
def PB{v:AV}{l:List Nat}(h:afu v=some l)(hF: ∀ i∈l,F i):InA F v:=by
 have gen:aho v=some l→InA F v:=fun h=> .of3 (abv h hF);cases v with
 | gd g w v=>exact abv (v:=v) h hF
 | _=>exact gen h
def Ny: ∀ {ids m:List Nat},Xc H ids=some m→(∀ i∈m,F i)→ ∀ i∈ids,∀ ob,H i=some ob→wH F ob
 | [],_,_,_,_,hi=>by cases hi
 | j::l,m,h,hF,i,hi=>by
  obtain⟨a,h1,h⟩:=aqw.1 h;obtain⟨b,h2,h⟩:=aqw.1 h;cases h;rcases aqS.1 hi with rfl | hi
  ·intro ob ho;unfold agj at h1;rw[ho]at h1;cases ob<;>first | trivial | exact WX h1 fun i hi=>hF i (aqH _ hi)
  ·exact Ny h2 (fun i hi=>hF i (aqN _ hi)) i hi
def Kz: ∀ (n:Nat) (l:List Nat) {c:Nat},clo H n l=some c→(∀ i∈l,Mm c i)∧aj8 (Mm c) H
 | 0,[],c,h=>by cases h;exact⟨by simp,fun i ob hi=>by simp[Mm]at hi⟩
 | 0,_::_,c,h=>by cases h
 | n+1,[],c,h=>by cases h;exact⟨by simp,fun i ob hi=>by simp[Mm]at hi⟩
 | n+1,j::l,c,h=>by
  have h:((Xc H (j::l)).bind fun m=>(clo H n m).bind fun r=>some (arc (msk (j::l)) r))=some c:=h;obtain⟨m,h1,h⟩:=aqw.1 h;obtain⟨r,h2,h⟩:=aqw.1 h;cases h;obtain⟨i1,i2⟩:=Kz n m h2;have up: ∀ i,Mm r i→Mm (arc (msk (j::l)) r) i:=fun i hi=>by
   show(arc _ _).testBit i=true;rw[eW,show r.testBit i=true from hi];simp
  refine⟨fun i hi=> ?_,fun i ob hi ho=> ?_⟩
  ·show(arc _ _).testBit i=true;rw[eW,uL.2 hi];rfl
  ·have hi:(arc (msk (j::l)) r).testBit i=true:=hi;rw[eW,aq8]at hi;rcases hi with hi | hi
   ·exact Ny h1 (fun k hk=>up k (i1 k hk)) i (uL.1 hi) ob ho
   ·have:=i2 i ob hi ho;cases ob<;>first | trivial | exact fun c hc=>(this c hc).mono up
end
section
variable {C:Cx} {ops:Array Oper} {s0:S} {b0:Nat}
def akb(C:Cx)(ops:Array Oper)(s0:S)(b0:Nat):List Rec→Prop
 | []=>True
 | r::acc=>akb C ops s0 b0 acc∧r.i=acc.length∧r.b=b0+16 * acc.length∧ops[r.i]? =some r.o∧V7 acc r.o.after.toList=some r.anc∧
  (∃ l c,abt s0 acc (cI ops r.o)=some l∧clo s0.H 4 l=some c∧((mvO r.o=false∧r.F=H7 r.anc acc (arc c (nm r.b))∧((r.N=arc (msk l) (nm r.b)∧pur r.o=true∧r.o.guard=none)∨r.N=r.F))∨(mvO r.o=true∧r.F=arc (msk l) (nm r.b)∧r.N=nm r.b)))∧(sbs r.W r.F=true∧ ∀ id,Mm (nm r.b) id→Mm r.W id)∧
  (∀ x∈acc,chk ops x r=true)∧okO C r.o=true∧aae r.o.dst (cI ops r.o)=true
def akb.lt: ∀ {acc:List Rec},akb C ops s0 b0 acc→ ∀ r∈acc,r.i < acc.length
 | [],_,r,hr=>by cases hr
 | x::acc,h,r,hr=>by
  rcases aqS.1 hr with rfl | hr
  ·rw[h.2.1];simp
  ·have:=akb.lt h.1 r hr;simp;omega
def akb.mem: ∀ {acc:List Rec},akb C ops s0 b0 acc→ ∀ r∈acc,∃ alf,akb C ops s0 b0 (r::alf)∧(∀ x∈alf,x∈acc)∧(∀ x∈acc,x.i < r.i→x∈alf)∧(∀ x∈alf,x.i < r.i)
 | [],_,r,hr=>by cases hr
 | x::acc,h,r,hr=>by
  rcases aqS.1 hr with rfl | hr
  ·refine⟨acc,h,fun y hy=>aqx _ hy,fun y hy hlt=> ?_,fun y hy=>by rw[h.2.1];exact h.1.lt y hy⟩;rcases aqS.1 hy with rfl | hy
   ·omega
   ·exact hy
  ·obtain⟨alf,h1,h2,h3,h4⟩:=akb.mem h.1 r hr;have k1:=h.1.lt r hr;have k2:=h.2.1;refine⟨alf,h1,fun y hy=>aqx _ (h2 y hy),fun y hy hlt=> ?_,h4⟩;rcases aqS.1 hy with e | hy
   ·rw[e]at hlt;omega
   ·exact h3 y hy hlt
def akb.find: ∀ {acc:List Rec},akb C ops s0 b0 acc→ ∀ r∈acc,vW r.i acc=some r
 | [],_,r,hr=>by cases hr
 | x::acc,h,r,hr=>by
  unfold vW;rcases aqS.1 hr with rfl | hr
  ·simp
  ·have h1:=h.1.lt r hr;have h2:=h.2.1;have:aqK x.i r.i=false:=by rw[← ar7,asH];omega
   rw[this];exact akb.find h.1 r hr
def oU{i:Nat}{r:Rec}: ∀ {acc:List Rec},vW i acc=some r→r∈acc∧r.i=i
 | [],h=>by cases h
 | x::acc,h=>by
  unfold vW at h;split at h
  ·rename_i e;cases h;exact⟨aqA,aD e⟩
  ·have:=oU h;exact⟨aqx _ this.1,this.2⟩
def VQ{t:Nat}{r:Rec}: ∀ {acc:List Rec},VR t acc=some r→r∈acc∧r.o.dst=some t
 | [],h=>by cases h
 | x::acc,h=>by
  unfold VR at h;split at h
  ·rename_i e;cases h;refine⟨aqA, ?_⟩;unfold afo at e;split at e
   ·rename_i d hd;rw[hd,aD e]
   ·cases e
  ·have:=VQ h;exact⟨aqx _ this.1,this.2⟩
def akb.ex: ∀ {acc:List Rec},akb C ops s0 b0 acc→ ∀ i,i < acc.length→ ∃ r∈acc,r.i=i
 | [],_,i,hi=>by simp at hi
 | x::acc,h,i,hi=>by
  by_cases e:i=acc.length
  ·exact⟨x,aqA,by rw[h.2.1,e]⟩
  ·obtain⟨r,hr,e'⟩:=akb.ex h.1 i (by simp at hi;omega);exact⟨r,aqx _ hr,e'⟩
def wG{anc:Nat}: ∀ (acc:List Rec) (F:Nat) (i:Nat),Mm F i→Mm (H7 anc acc F) i
 | [],_,_,h=>h
 | r::acc,F,i,h=>by
  unfold H7;refine wG acc _ i ?_;split
  ·show(arc _ _).testBit i=true;rw[eW,show F.testBit i=true from h];simp
  ·exact h
def aj8.lor{H:Hp}{a b:Nat}(h1:aj8 (Mm a) H)(h2:aj8 (Mm b) H):aj8 (Mm (arc a b)) H:=by
 have up1: ∀ i,Mm a i→Mm (arc a b) i:=fun i hi=>by
  show(arc _ _).testBit i=true;rw[eW,show a.testBit i=true from hi];simp
 have up2: ∀ i,Mm b i→Mm (arc a b) i:=fun i hi=>by
  show(arc _ _).testBit i=true;rw[eW,show b.testBit i=true from hi];simp
 intro i ob hi ho;have hi:(arc a b).testBit i=true:=hi;rw[eW,aq8]at hi;rcases hi with hi | hi
 ·have:=h1 i ob hi ho;cases ob<;>first | trivial | exact fun c hc=>(this c hc).mono up1
 ·have:=h2 i ob hi ho;cases ob<;>first | trivial | exact fun c hc=>(this c hc).mono up2
def GH{anc:Nat}{H:Hp}: ∀ (acc:List Rec) (F:Nat),(∀ r∈acc,mvO r.o=false→aj8 (Mm r.F) H)→aj8 (Mm F) H→aj8 (Mm (H7 anc acc F)) H
 | [],_,_,h=>h
 | r::acc,F,hr,h=>by
  unfold H7;refine GH acc _ (fun x hx=>hr x (aqx _ hx)) ?_;split
  ·rename_i hc;simp only[aqt,aro]at hc;exact(hr r aqA hc.2).lor h
  ·exact h
def Fr(s:S):Prop:= ∀ j,s.nid≤j→s.H j=none
def akb.closed(hfr: ∀ j,b0≤j→s0.H j=none): ∀ {acc:List Rec},akb C ops s0 b0 acc→ ∀ r∈acc,mvO r.o=false→aj8 (Mm r.F) s0.H
 | [],_,r,hr=>by cases hr
 | x::acc,h,r,hr=>by
  intro hmv;have ih:=akb.closed hfr h.1;rcases aqS.1 hr with rfl | hr
  ·obtain⟨_,_,hb,_,_,⟨l,c,h1,h2,h3⟩,_⟩:=h;rcases h3 with h3 | h3
   ·rw[h3.2.1];refine GH _ _ ih ((Kz 4 l h2).2.lor fun i ob hi ho=> ?_);have:=AD.1 hi;rw[hfr i (by omega)]at ho;cases ho
   ·rw[hmv]at h3;cases h3.1
  ·exact ih r hr hmv
def wF{acc:List Rec}: ∀ (l:List Edge) {m:Nat},V7 acc l=some m→(∀ e∈l,ar1 .any e=true→ ∃ r,vW e.on acc=some r)∧
  (∀ x,Mm m x→ ∃ e∈l,ar1 .any e=true∧ ∃ r,vW e.on acc=some r∧(e.on=x∨Mm r.anc x))
 | [],m,h=>by cases h;exact⟨by simp,fun x hx=>by simp[Mm]at hx⟩
 | e::l,m,h=>by
  unfold V7 at h;split at h
  ·rename_i hb;obtain⟨r,h1,h⟩:=aqw.1 h;obtain⟨m',h2,h⟩:=aqw.1 h;cases h;obtain⟨i1,i2⟩:=wF l h2;refine⟨fun e' he hb'=> ?_,fun x hx=> ?_⟩
   ·rcases aqS.1 he with rfl | he
    ·exact⟨r,h1⟩
    ·exact i1 e' he hb'
   ·have hx:(arc (arc (bit e.on) r.anc) m').testBit x=true:=hx;rw[eW,eW,aq8,aq8]at hx;rcases hx with(hx | hx) | hx
    ·exact⟨e,aqA,hb,r,h1,.inl (PF.1 hx).symm⟩
    ·exact⟨e,aqA,hb,r,h1,.inr hx⟩
    ·obtain⟨e',he,h3⟩:=i2 x hx;exact⟨e',aqx _ he,h3⟩
  ·rename_i hb;obtain⟨i1,i2⟩:=wF l h;refine⟨fun e' he hb'=> ?_,fun x hx=> ?_⟩
   ·rcases aqS.1 he with rfl | he
    ·rw[hb]at hb';cases hb'
    ·exact i1 e' he hb'
   ·obtain⟨e',he,h3⟩:=i2 x hx;exact⟨e',aqx _ he,h3⟩
def akb.alz: ∀ {acc:List Rec},akb C ops s0 b0 acc→ ∀ r∈acc,∀ x,Mm r.anc x→x < r.i
 | [],_,r,hr=>by cases hr
 | y::acc,h,r,hr=>by
  intro x hx;rcases aqS.1 hr with rfl | hr
  ·obtain⟨hg,hi,_,_,ha,_⟩:=h;obtain⟨e,he,hb,r',h1,h2⟩:=(wF _ ha).2 x hx;obtain⟨hm,hei⟩:=oU h1;have:=hg.lt r' hm;rcases h2 with h2 | h2
   ·omega
   ·have:=akb.alz hg r' hm x h2;omega
  ·exact akb.alz h.1 r hr x hx
def fw(acc:List Rec)(b0:Nat):Lb where
 b i:=b0+16 * i
 F i id:=match vW i acc with
  | some r=>Mm r.F id
  | none=>b0+16 * i≤id∧id < b0+16 * i+16
 N i id:=match vW i acc with
  | some r=>Mm r.N id
  | none=>b0+16 * i≤id∧id < b0+16 * i+16
 K i id:=match vW i acc with
  | some r=>Mm r.K id
  | none=>b0+16 * i≤id∧id < b0+16 * i+16
 W i id:=match vW i acc with
  | some r=>Mm r.W id
  | none=>b0+16 * i≤id∧id < b0+16 * i+16
 V i id:=match vW i acc with
  | some r=>id∈r.V
  | none=>False
 R x i:=match vW i acc with
  | some r=>Mm r.anc x
  | none=>False
def Ez{d:Option Nat}{l:List Nat}(h:aae d l=true): ∀ t,d=some t→t ∉ l:=by
 intro t e hm;subst e;have:ah9 t l=true:=asu.2 ⟨t,hm,by simp⟩;simp[aae,this]at h
def R7{d e:Option Nat}(h:af5 d e=true): ∀ t,d=some t→e≠some t:=by
 intro t h1 h2;subst h1;subst h2;simp[af5]at h
def akb.op{acc:List Rec}(h:akb C ops s0 b0 acc)(hn:acc.length=ops.size){i:Nat}{o:Oper}(ho:ops[i]? =some o): ∃ r∈acc,r.i=i∧r.o=o∧vW i acc=some r:=by
 obtain⟨r,hr,hi⟩:=h.ex i (by rw[hn];exact(arD.1 ho).1);obtain⟨alf,hg,_⟩:=h.mem r hr;have:=hg.2.2.2.1;rw[hi,ho]at this;exact⟨r,hr,hi,(asb this).symm,by rw[← hi];exact h.find r hr⟩
def akb.chk{acc:List Rec}(h:akb C ops s0 b0 acc){x r:Rec}(hx:x∈acc)(hr:r∈acc)(hlt:x.i < r.i):VS.chk ops x r=true:=by
 obtain⟨alf,hg,_,h3,_⟩:=h.mem r hr;exact hg.2.2.2.2.2.2.2.1 x (h3 x hx hlt)
def akb.aml{acc:List Rec}(h:akb C ops s0 b0 acc){r:Rec}(hr:r∈acc):r.b=b0+16 * r.i∧(∀ id,r.b≤id→id < r.b+16→Mm r.F id)∧(sbs r.W r.F=true∧ ∀ id,Mm (nm r.b) id→Mm r.W id):=by
 obtain⟨alf,hg,_⟩:=h.mem r hr;obtain⟨_,hi,hb,_,_,⟨l,c,h1,h2,h3⟩,hw,_⟩:=hg;refine⟨by rw[hi];exact hb,fun id k1 k2=> ?_,hw⟩;rcases h3 with h3 | h3
 ·rw[h3.2.1];refine wG _ _ id ?_;show(arc _ _).testBit id=true;rw[eW,AD.2 ⟨k1,k2⟩];simp
 ·rw[h3.2.1];show(arc _ _).testBit id=true;rw[eW,AD.2 ⟨k1,k2⟩];simp
def akb.N_F{acc:List Rec}(h:akb C ops s0 b0 acc){r:Rec}(hr:r∈acc): ∀ id,Mm r.N id→Mm r.F id:=by
 obtain⟨alf,hg,_⟩:=h.mem r hr;obtain⟨_,hi,hb,_,_,⟨l,c,h1,h2,h3⟩,hw,_⟩:=hg;intro id hid;rcases h3 with⟨_,h3,h4⟩ | ⟨_,h3,h4⟩
 ·rcases h4 with h4 | h4
  ·rw[h3];refine wG _ _ id ?_;rw[h4.1]at hid;have hid:(arc _ _).testBit id=true:=hid;rw[eW,aq8]at hid;show(arc _ _).testBit id=true;rw[eW];rcases hid with hid | hid
   ·rw[(Kz 4 l h2).1 id (uL.1 hid)];rfl
   ·rw[hid];simp
  ·rw[← h4];exact hid
 ·rw[h3];rw[h4]at hid;have hid:(nm r.b).testBit id=true:=hid;show(arc _ _).testBit id=true;rw[eW,hid];simp
def akb.nice{acc:List Rec}(h:akb C ops s0 b0 acc)(hn:acc.length=ops.size):amV ops (fw acc b0):=by
 constructor
 ·intro i id hw;simp only[fw]at hw ⊢;split at hw
  ·rename_i r hr;obtain⟨hm,hi⟩:=oU hr;obtain⟨_,h2,h3⟩:=h.aml hm;exact CQ h3.1 id hw
  ·exact hw
 ·intro i id hw;simp only[fw]at hw ⊢;split at hw
  ·rename_i r hr;obtain⟨hm,hi⟩:=oU hr;exact h.N_F hm id hw
  ·exact hw
 ·intro i id h1 h2;simp only[fw]at h1 h2 ⊢;split
  ·rename_i r hr;obtain⟨hm,hi⟩:=oU hr;obtain⟨hb,k2,k3⟩:=h.aml hm;rw[hi]at hb;exact k3.2 id (AD.2 ⟨by omega,by omega⟩)
  ·exact⟨h1,h2⟩
 ·intro x i hR;simp only[fw]at hR;split at hR
  ·rename_i r hr;obtain⟨hm,hi⟩:=oU hr;have:=h.alz r hm x hR;omega
  ·exact hR.elim
 ·intro x i ox oi t hne hx hi ht;obtain⟨rx,hrx,ix,rfl,_⟩:=h.op hn hx;obtain⟨ri,hri,ii,rfl,_⟩:=h.op hn hi;rcases auc hne with hlt | hlt
  ·have:=h.chk hrx hri (by omega);simp only[VS.chk,aqt]at this;exact R7 this.1 t ht
  ·have:=h.chk hri hrx (by omega);simp only[VS.chk,aqt]at this;exact fun e=>R7 this.1 t e ht
 ·intro x i oi hi hR;obtain⟨ri,hri,ii,rfl,fi⟩:=h.op hn hi;simp only[fw,fi]at hR ⊢;obtain⟨alf,hg,al5,_⟩:=h.mem ri hri;obtain⟨e,he,hb,r',h1,h2⟩:=(wF _ hg.2.2.2.2.1).2 x hR;refine⟨e,by simpa using he,hb, ?_⟩;rcases h2 with h2 | h2
  ·exact .inl h2
  ·obtain⟨hm,hei⟩:=oU h1;have:=h.find r' (al5 r' hm);rw[hei]at this;rw[this];exact .inr h2
 ·intro i oi e hi he hb;obtain⟨ri,hri,ii,rfl,fi⟩:=h.op hn hi;obtain⟨alf,hg,al5,_,hlt⟩:=h.mem ri hri;obtain⟨r',h1⟩:=(wF _ hg.2.2.2.2.1).1 e (by simpa using he) hb;obtain⟨hm,hei⟩:=oU h1;have:=hlt r' hm;omega
 ·intro x i hR ox oi hx hi;obtain⟨rx,hrx,ix,rfl,fx⟩:=h.op hn hx;obtain⟨ri,hri,ii,rfl,fi⟩:=h.op hn hi;simp only[fw,fi,fx]at hR ⊢;have hlt:=h.alz ri hri x hR;have hc:=h.chk hrx hri (by omega);simp only[VS.chk,aqt]at hc;have hT:tst ri.anc rx.i=true:=by rw[ix];exact Wl.2 hR
  rw[hT]at hc;obtain⟨_,hc⟩:=hc;simp only[aqt,aq8]at hc;obtain⟨⟨c1,c2⟩,c3⟩:=hc;refine⟨?_,fun t ht hl=> ?_,fun id h1 h2 hF=> ?_⟩
  ·rcases c1 with c1 | c1
   ·exact .inl (nj c1)
   ·exact .inr (CQ c1)
  ·rcases c2 with c2 | c2
   ·exact absurd hl (Ez c2 t ht)
   ·exact⟨fun id hid=>CQ c2.1 id (uL.2 hid),c2.2.imp id fun h id hid=>CQ h id (uL.2 hid)⟩
  ·have hb:=(h.aml hri).1;exact nj c3 id hF (AD.2 ⟨by omega,by omega⟩)
 ·intro x i hlt hR ox oi hx hi;obtain⟨rx,hrx,ix,rfl,fx⟩:=h.op hn hx;obtain⟨ri,hri,ii,rfl,fi⟩:=h.op hn hi;simp only[fw,fi,fx]at hR ⊢;have hc:=h.chk hrx hri (by omega);simp only[VS.chk,aqt]at hc;have hT:tst ri.anc rx.i=false:=by
   rw[ix];cases hh:tst ri.anc x with
   | false=>rfl
   | true=>exact absurd (Wl.1 hh) hR
  rw[hT]at hc;obtain⟨_,hc⟩:=hc;simp only[aqt]at hc;obtain⟨⟨⟨k1,k2⟩,k3,k4⟩,k5,k6,k7⟩:=hc.1.1;have hbi:=(h.aml hri).1;have hbx:=(h.aml hrx).1;exact⟨nj k1,nj k2,nj k3,nj k4,nj k5,fun id h1 h2 hF=>nj k6 id hF (AD.2 ⟨by omega,by omega⟩),fun id h1 h2 hF=>nj k7 id hF (AD.2 ⟨by omega,by omega⟩),Ez hc.1.2,Ez hc.2⟩
end
end Go.VS
namespace Go.VS
open Go
section
variable {C:Cx} {P:Program} {kd:TypeId→Option K} {s s':S} {b j:Nat} {E:Nat→AV}
structure aj1 (N:Nat→Prop) (s s':S):Prop where
 nid:s'.nid=s.nid
 n:s'.n=s.n
 pins:s'.pins=s.pins
 nn: ∀ j,¬ N j→s.H j=none→s'.H j=none
def aj1.refl(N:Nat→Prop)(s:S):aj1 N s s:=⟨rfl,rfl,rfl,fun _ _ h=>h⟩
def aj1.trans{N:Nat→Prop}{s s' s'':S}(h:aj1 N s s')(k:aj1 N s' s''):aj1 N s s'':=
 ⟨k.nid.trans h.nid,k.n.trans h.n,k.pins.trans h.pins,fun j hj e=>k.nn j hj (h.nn j hj e)⟩
def aj1.put{N:Nat→Prop}{s s':S}(h:aj1 N s s')(d:Option Nat)(v:AV):aj1 N s (s'.put d v):=by
 cases d<;>exact⟨h.nid,h.n,h.pins,h.nn⟩
def aj1.akD{N:Nat→Prop}{s s':S}(h:aj1 N s s'){id:Nat}{ob:Option Ob}(hid:N id∨s.H id≠none):aj1 N s (s'.akD id ob):=by
 refine⟨h.nid,h.n,h.pins,fun j hj e=> ?_⟩;show upd s'.H id ob j=none;rw[aI _ _ (fun e'=>by subst e';exact hid.elim hj (fun h=>h e))];exact h.nn j hj e
def aj1.map{N:Nat→Prop}{s s':S}(h:aj1 N s s')(f:AV→AV):aj1 N s (s'.map f):=by
 refine⟨h.nid,h.n,h.pins,fun j hj e=> ?_⟩;show gT f (s'.H j)=none;rw[h.nn j hj e];rfl
def aj1.aoK{N:Nat→Prop}{s s':S}(h:aj1 N s s'){id:Nat}:aj1 N s (s'.akD id none):=by
 refine⟨h.nid,h.n,h.pins,fun j hj e=> ?_⟩;show upd s'.H id none j=none;by_cases e':j=id
 ·subst e';rw[ax]
 ·rw[aI _ _ e'];exact h.nn j hj e
def aj1.kill{N:Nat→Prop}{s s':S}(h:aj1 N s s')(id:Nat):aj1 N s (s'.kill id):=(h.map _).aoK
def aj1.freeze{N:Nat→Prop}{s s':S}(h:aj1 N s s')(id:Nat):aj1 N s (s'.freeze id):=by
 unfold S.freeze;split
 ·exact(h.map _).aoK
 ·exact h.kill id
def aj1.akh{N:Nat→Prop}: ∀ (ids:List Nat) {s s':S},aj1 N s s'→aj1 N s (ids.foldl S.freeze s')
 | [],_,_,h=>h
 | i::ids,_,_,h=>aj1.akh ids (h.freeze i)
def aj1.amC{N:Nat→Prop}: ∀ (ids:List Nat) {s s':S},aj1 N s s'→aj1 N s (ids.foldl S.kill s')
 | [],_,_,h=>h
 | i::ids,_,_,h=>aj1.amC ids (h.kill i)
def Wn{N:Nat→Prop}{t:TypeId}{x y:AV}(h:o3 P t s x y=some s'):aj1 N s s':=by
 unfold o3 at h;split at h
 ·rename_i id z i o;split at h
  ·rename_i e cs hob;split at h
   ·obtain⟨ys,hc,h⟩:=aqw.1 h;split at h<;>cases h;exact(aj1.refl N s).akD (.inr (by rw[hob];simp))
   ·cases h
  ·rename_i e fz k xs hob;obtain⟨ys,hc,h⟩:=aqw.1 h;split at h
   ·obtain⟨v,hd,h⟩:=aqw.1 h;cases h;exact(aj1.akh _ (aj1.refl N s)).akD (.inr (by rw[hob];simp))
   ·cases h
  ·rename_i e k xs hob;obtain⟨ys,hc,h⟩:=aqw.1 h;split at h
   ·obtain⟨v,hd,h⟩:=aqw.1 h;cases h;exact(aj1.refl N s).akD (.inr (by rw[hob];simp))
   ·cases h
  ·cases h
 ·cases h
def UU{N:Nat→Prop}(hb:N b){t t2:TypeId}{x y v:AV}{q:Bool}(h:q8 P kd t t2 s b x y=some (q,v,s')):aj1 N s s':=by
 unfold q8 at h;obtain⟨e,he,h⟩:=aqw.1 h;obtain⟨k,hk,h⟩:=aqw.1 h;obtain⟨ys,hys,h⟩:=aqw.1 h;split at h
 ·cases h;exact(aj1.refl N s).akD (.inl hb)
 ·split at h
  ·rename_i hob _;split at h
   ·obtain⟨zs,hz,h⟩:=aqw.1 h;cases h;exact((aj1.refl N s).map _).akD (.inr (by rw[hob];simp))
   ·cases h
  ·cases h
 ·cases h
def YY{N:Nat→Prop}{t:TypeId}{x y v:AV}(h:Gm P t s x y=some (v,s')):aj1 N s s':=by
 unfold Gm at h;split at h
 ·split at h
  ·rename_i hob _;obtain⟨e',he,h⟩:=aqw.1 h;split at h
   ·obtain⟨ys,hys,h⟩:=aqw.1 h;cases h;exact(aj1.refl N s).akD (.inr (by rw[hob];simp))
   ·cases h
  ·cases h
 ·cases h
def Qc{N:Nat→Prop}{id:Nat}{z:Bool}{lo hi:Option AV}{v:AV}{q:Bool}(h:lh s id z lo hi=some (q,v,s')):aj1 N s s':=by
 unfold lh at h;split at h
 ·rename_i e fz k xs hob;obtain⟨⟨c,l,hh⟩,hc,h⟩:=aqw.1 h;simp only at h;split at h
  ·cases h;exact((aj1.refl N s).map _).akD (.inr (by rw[hob];simp))
  ·cases h
  ·cases h;exact(aj1.refl N s).freeze id
 ·cases h
def aku(N:Nat→Prop)(H H':Hp):Prop:= ∀ j,¬ N j→H j=none→H' j=none
def aku.refl(N:Nat→Prop)(H:Hp):aku N H H:=fun _ _ h=>h
def aku.trans{N:Nat→Prop}{H H' H'':Hp}(h:aku N H H')(k:aku N H' H''):aku N H H'':=fun j hj e=>k j hj (h j hj e)
def aku.upd{N:Nat→Prop}{H H':Hp}(h:aku N H H'){id:Nat}{ob:Option Ob}(hid:N id∨H id≠none):aku N H (upd H' id ob):=fun j hj e=>by
 rw[aI _ _ (fun e'=>by subst e';exact hid.elim hj (fun h=>h e))];exact h j hj e
mutual
theorem gi {N:Nat→Prop} : ∀ (h:Sh) (H:Hp) (b:Nat) (x:LT h),(∀ j,b≤j→j < (ch E H b h x).2.2→N j)→aku N H (ch E H b h x).2.1
 | .int _,H,_,_,_=> .refl _ _
 | .bool,H,_,_,_=> .refl _ _
 | .str,H,_,_,_=> .refl _ _
 | .sl _,H,_,_,_=> .refl _ _
 | .arr _,H,_,_,_=> .refl _ _
 | .same _,H,_,_,_=> .refl _ _
 | .fz _,H,_,_,_=> .refl _ _
 | .row _ _,H,b,_,hN=>(aku.refl _ _).upd (.inl (hN b (aqG b) (as5 b)))
 | .akl _ _,H,b,_,hN=>(aku.refl _ _).upd (.inl (hN b (aqG b) (as5 b)))
 | .abx _ _,H,b,_,hN=>(aku.refl _ _).upd (.inl (hN b (aqG b) (as5 b)))
 | .agg l,H,b,x,hN=>by
  have un:ch E H b (.agg l) x=(match aw E H b l x with | (cs,H,b)=>(AV.agg cs,H,b)):=rfl;have ih:=AE (N:=N) l H b x;rw[un]at hN ⊢;generalize aw E H b l x=r at *;exact ih hN
 | .box e l,H,b,x,hN=>by
  have un:ch E H b (.box e l) x=(match aw E H b l x with | (cs,H,b)=>(AV.ptr b cs.length 0 0,upd H b (some (.box e cs)),b+1)):=rfl;have ih:=AE (N:=N) l H b x;have hle:=iN E l H b x;rw[un]at hN ⊢;generalize aw E H b l x=r at *;obtain⟨cs,H',b'⟩:=r;exact(ih fun j h1 h2=>hN j h1 (Nat.lt_succ_of_lt h2)).upd (.inl (hN b' hle (as5 b')))
theorem AE {N:Nat→Prop} : ∀ (l:List Sh) (H:Hp) (b:Nat) (x:LTs l),(∀ j,b≤j→j < (aw E H b l x).2.2→N j)→aku N H (aw E H b l x).2.1
 | [],H,_,_,_=> .refl _ _
 | h::l,H,b,x,hN=>by
  have un:aw E H b (h::l) x=(match ch E H b h x.1 with | (c,H,b)=>match aw E H b l x.2 with | (cs,H,b)=>(c::cs,H,b)):=rfl;have ih:=gi (N:=N) h H b x.1;have hle:=cN E h H b x.1;rw[un]at hN ⊢;generalize ch E H b h x.1=r at *;obtain⟨c,H',b'⟩:=r;have ih2:=AE (N:=N) l H' b' x.2;have amM:=iN E l H' b' x.2;simp only at hN ⊢;generalize aw E H' b' l x.2=r at *;obtain⟨cs,H'',b''⟩:=r;exact(ih fun j h1 h2=>hN j h1 (arU h2 amM)).trans (ih2 fun j h1 h2=>hN j (ara hle h1) h2)
end
mutual
theorem YD (E:Nat→AV): ∀ (h:Sh) (H:Hp) (b:Nat) (v:AV) (x:LT h),b≤(lC E H b h v x).2.2
 | .box e l,H,b,v,x=>by
  by_cases hv: ∃ id z,v= .ptr id z 0 0
  ·obtain⟨id,z,rfl⟩:=hv;have un:lC E H b (.box e l) (.ptr id z 0 0) x=(match H id with
    | some (.box _ cs)=>(match bm E H b l cs x with | (ds,H,b)=>(AV.ptr id z 0 0,upd H id (some (.box e ds)),b))
    | _=>(.un,H,b)):=rfl
   rw[un];cases H id with
   | none=>exact aqG b
   | some ob=>
    cases ob with
    | box e' cs=>
     have:=u7 E l H b cs x;simp only;generalize bm E H b l cs x=r at *;obtain⟨ds,H',b'⟩:=r;exact this
    | _=>exact aqG b
  ·have:lC E H b (.box e l) v x=ch E H b (.box e l) x:=by
    cases v<;>first | rfl | skip
    rename_i id z i o;cases i<;>cases o<;>first | rfl | exact absurd ⟨_,_,rfl⟩ hv
   rw[this];exact cN E _ H b x
 | .int _,H,b,v,x=>cN E _ H b x
 | .bool,H,b,v,x=>cN E _ H b x
 | .str,H,b,v,x=>cN E _ H b x
 | .sl _,H,b,v,x=>cN E _ H b x
 | .row _ _,H,b,v,x=>cN E _ H b x
 | .fz _,H,b,v,x=>cN E _ H b x
 | .akl _ _,H,b,v,x=>cN E _ H b x
 | .abx _ _,H,b,v,x=>cN E _ H b x
 | .arr _,H,b,v,x=>cN E _ H b x
 | .same _,H,b,v,x=>aqG b
 | .agg _,H,b,v,x=>cN E _ H b x
theorem u7 (E:Nat→AV): ∀ (l:List Sh) (H:Hp) (b:Nat) (cs:List AV) (x:LTs l),b≤(bm E H b l cs x).2.2
 | [],_,b,_,_=>aqG b
 | h::l,H,b,cs,x=>by
  have h1:=YD E h H b (cs.headD .un) x.1;have un:bm E H b (h::l) cs x=(match lC E H b h (cs.headD .un) x.1 with | (d,H,b)=>match bm E H b l cs.tail x.2 with | (ds,H,b)=>(d::ds,H,b)):=rfl;rw[un];generalize lC E H b h (cs.headD .un) x.1=r at *;obtain⟨c,H',b'⟩:=r;have h2:=u7 E l H' b' cs.tail x.2;simp only;generalize bm E H' b' l cs.tail x.2=r at *;obtain⟨cs,H'',b''⟩:=r;exact ara h1 h2
end
mutual
theorem adt {N:Nat→Prop} : ∀ (h:Sh) (H:Hp) (b:Nat) (v:AV) (x:LT h),(∀ j,b≤j→j < (lC E H b h v x).2.2→N j)→aku N H (lC E H b h v x).2.1
 | .box e l,H,b,v,x,hN=>by
  by_cases hv: ∃ id z,v= .ptr id z 0 0
  ·obtain⟨id,z,rfl⟩:=hv;have un:lC E H b (.box e l) (.ptr id z 0 0) x=(match H id with
    | some (.box _ cs)=>(match bm E H b l cs x with | (ds,H,b)=>(AV.ptr id z 0 0,upd H id (some (.box e ds)),b))
    | _=>(.un,H,b)):=rfl
   rw[un]at hN ⊢;cases ho:H id with
   | none=>exact .refl _ _
   | some ob=>
    rw[ho]at hN;cases ob with
    | box e' cs=>
     have ih:=Hz (N:=N) l H b cs x;simp only at hN ⊢;generalize bm E H b l cs x=r at *;obtain⟨ds,H',b'⟩:=r;exact(ih hN).upd (.inr (by rw[ho];simp))
    | _=>exact .refl _ _
  ·have:lC E H b (.box e l) v x=ch E H b (.box e l) x:=by
    cases v<;>first | rfl | skip
    rename_i id z i o;cases i<;>cases o<;>first | rfl | exact absurd ⟨_,_,rfl⟩ hv
   rw[this]at hN ⊢;exact gi (E:=E) _ H b x hN
 | .int _,H,b,v,x,hN=>gi (E:=E) _ H b x hN
 | .bool,H,b,v,x,hN=>gi (E:=E) _ H b x hN
 | .str,H,b,v,x,hN=>gi (E:=E) _ H b x hN
 | .sl _,H,b,v,x,hN=>gi (E:=E) _ H b x hN
 | .row _ _,H,b,v,x,hN=>gi (E:=E) _ H b x hN
 | .fz _,H,b,v,x,hN=>gi (E:=E) _ H b x hN
 | .akl _ _,H,b,v,x,hN=>gi (E:=E) _ H b x hN
 | .abx _ _,H,b,v,x,hN=>gi (E:=E) _ H b x hN
 | .arr _,H,b,v,x,hN=>gi (E:=E) _ H b x hN
 | .same _,H,b,v,x,hN=> .refl _ _
 | .agg l,H,b,v,x,hN=>gi (E:=E) _ H b x hN
theorem Hz {N:Nat→Prop} : ∀ (l:List Sh) (H:Hp) (b:Nat) (cs:List AV) (x:LTs l),(∀ j,b≤j→j < (bm E H b l cs x).2.2→N j)→aku N H (bm E H b l cs x).2.1
 | [],H,_,_,_,_=> .refl _ _
 | h::l,H,b,cs,x,hN=>by
  have un:bm E H b (h::l) cs x=(match lC E H b h (cs.headD .un) x.1 with | (d,H,b)=>match bm E H b l cs.tail x.2 with | (ds,H,b)=>(d::ds,H,b)):=rfl;have ih:=adt (N:=N) h H b (cs.headD .un) x.1;have hle:=YD E h H b (cs.headD .un) x.1;rw[un]at hN ⊢;generalize lC E H b h (cs.headD .un) x.1=r at *;obtain⟨c,H',b'⟩:=r;have ih2:=Hz (N:=N) l H' b' cs.tail x.2;have amM:=u7 E l H' b' cs.tail x.2;simp only at hN ⊢;generalize bm E H' b' l cs.tail x.2=r at *;obtain⟨cs,H'',b''⟩:=r;exact(ih fun j h1 h2=>hN j h1 (arU h2 amM)).trans (ih2 fun j h1 h2=>hN j (ara hle h1) h2)
end
def RP{N:Nat→Prop}(q:Bool)(ids:List Nat){s s':S}(h:aj1 N s s'):aj1 N s (Cm q ids s'):=by
 cases q
 ·exact h
 ·exact aj1.akh ids h
def Zg{m:akx}{d:Option Nat}{as:List AV}(h:ww m s b d as some=some s'):aj1 (fun j=>b≤j∧j < b+16) s s':=by
 unfold ww at h;simp only at h;split at h
 ·rename_i x hx hn;obtain⟨r,hr,h⟩:=aqw.1 h;have k1:aj1 (fun j=>b≤j∧j < b+16) s (Cm (c8 m.rs||c8 (aT m.ps)) (dV s.H m.ps as) ((dp s.H m.ps as).foldl S.kill s)):=RP _ _ (aj1.amC _ (aj1.refl _ s));generalize Cm (c8 m.rs||c8 (aT m.ps)) (dV s.H m.ps as) ((dp s.H m.ps as).foldl S.kill s)=s2 at *;have k2:=Hz (E:=fun i=>(as[i]?).getD .un) (N:=fun j=>b≤j∧j < b+16) (aT m.ps) s2.H b (eR m.ps as) r.2;have l2:=u7 (fun i=>(as[i]?).getD .un) (aT m.ps) s2.H b (eR m.ps as) r.2;generalize bm (fun i=>(as[i]?).getD .un) s2.H b (aT m.ps) (eR m.ps as) r.2=q at *;obtain⟨ds,H1,b1⟩:=q;simp only at h;have k3:=AE (E:=fun i=>(as[i]?).getD .un) (N:=fun j=>b≤j∧j < b+16) m.rs H1 b1 r.1;have l3:=iN (fun i=>(as[i]?).getD .un) m.rs H1 b1 r.1;generalize aw (fun i=>(as[i]?).getD .un) H1 b1 m.rs r.1=q at *;obtain⟨vs,H2,b2⟩:=q;simp only at h l2 l3 k2 k3;split at h
  ·rename_i hb;have hb:=aq1 hb;cases h;have k4:=(k2 fun j h1 h2=>⟨h1,by omega⟩).trans (k3 fun j h1 h2=>⟨by omega,by omega⟩);exact aj1.put (s':={ s2 with H:=H2 }) ⟨k1.nid,k1.n,k1.pins,fun j hj e=>k4 j hj (k1.nn j hj e)⟩ _ _
  ·cases h
 ·cases h
def alc(r:PR):Prop:= ∀ q v os,r=some (q,v,os)→os.length≤1
def alc.none:alc .none:=fun _ _ _ h=>by cases h
def alc.okA{v:AV}:alc (okA v):=fun _ _ _ h=>by obtain⟨_,_,rfl⟩:=bq h;simp
def alc.okN{v:AV}:alc (okN v):=fun _ _ _ h=>by obtain⟨_,_,rfl,_⟩:=sZ h;simp
def alc.nil{q:Bool}{v:AV}:alc (some (q,v,[])):=fun _ _ _ h=>by cases h;simp
def alc.one{q:Bool}{v:AV}{o:Ob}:alc (some (q,v,[o])):=fun _ _ _ h=>by cases h;simp
def alc.bind{α:Type}{o:Option α}{f:α→PR}(h: ∀ a,alc (f a)):alc (o.bind f):=by
 cases o with
 | none=>exact .none
 | some a=>exact h a
def VY{x y:TypeId}{v:AV}:alc (z7 P x y v):=by
 unfold z7
 repeat' (first | exact .none | exact .okA | exact .okN | exact .nil | exact .one | refine .bind fun _=> ?_ | split)
def adN{ρ:Operand→AV}{H:Hp}{c:Call}:alc (BZ P ρ H c):=by
 unfold BZ
 repeat' (first | exact .none | exact .okA | exact .okN | exact .nil | exact .one | refine .bind fun _=> ?_ | split)
def agq{op:BinOp}{t:TypeId}{x y:AV}:alc (aaV P op t x y):=by
 unfold aaV agp ago
 repeat' (first | exact .none | exact .okA | exact .okN | exact .nil | exact .one | refine .bind fun _=> ?_ | split)
def aaa{ρ:Operand→AV}{H:Hp}{op:Op}:alc (bD P kd ρ H b op):=by
 cases op<;>simp only[bD]<;>try (exact .none)
 case binOp=>exact agq
 case call=>exact adN
 case convert=>
  split
  ·repeat' (first | exact .none | exact .okA | refine .bind fun _=> ?_ | split)
  ·split
   ·rename_i h;exact fun q v os e=>by cases e;exact VY _ _ _ h
   ·exact VY
 case pick=>
  unfold Qq
  repeat' (first | exact .none | exact .okA | exact .okN | exact .nil | exact .one | refine .bind fun _=> ?_ | split)
 case unOp=>
  unfold unA
  repeat' (first | exact .none | exact .okA | exact .okN | exact .nil | exact .one | refine .bind fun _=> ?_ | split)
 case slice t x lo hi mx=>
  cases mx with
  | some m=>exact .none
  | none=>
   simp only;unfold K7
   repeat' (first | exact .none | exact .okA | exact .okN | exact .nil | exact .one | refine .bind fun _=> ?_ | split)
 case index=>
  unfold adl
  repeat' (first | exact .none | exact .okA | exact .okN | exact .nil | exact .one | refine .bind fun _=> ?_ | split)
 case indexAddr=>
  unfold qS
  repeat' (first | exact .none | exact .okA | exact .okN | exact .nil | exact .one | refine .bind fun _=> ?_ | split)
 all_goals repeat' (first | exact .none | exact .okA | exact .okN | exact .nil | exact .one | refine .bind fun _=> ?_ | split)
def NE: ∀ (os:List Ob) (H:Hp) (b:Nat) {j:Nat},¬ (b≤j∧j < b+os.length)→H j=none→fe H b os j=none
 | [],_,_,_,_,h=>h
 | o::os,H,b,j,hj,h=>by
  refine NE os _ _ (fun hh=>hj ⟨by omega,by simp;omega⟩) ?_;rw[aI _ _ (fun e=>hj ⟨by omega,by simp;omega⟩)];exact h
def ZZ{ρ:Operand→AV}{H:Hp}{op:Op}{d:Option Nat}
  (he:(match bD P kd ρ H b op with
   | some (q,v,os)=>if q then some ({ s with H:=fe s.H b os }.put d v) else none
   | none=>none)=some s'):aj1 (fun j=>b≤j∧j < b+16) s s':=by
 split at he
 ·rename_i q v os hp;split at he
  ·cases he;have:=aaa _ _ _ hp;exact aj1.put (N:=fun j=>b≤j∧j < b+16) (s:=s) (s':={ s with H:=fe s.H b os }) ⟨rfl,rfl,rfl,fun j hj e=>NE os s.H b (fun hh=>hj ⟨hh.1,by omega⟩) e⟩ _ _
  ·cases he
 ·cases he
def R0{o:Oper}(he:hY C (af S) o b s some=some s'):aj1 (fun j=>b≤j∧j < b+16) s s':=by
 unfold hY at he;split at he
 ·cases he
 generalize ho:o.op=op at he;have pu: ∀ s0:S,(match bD C.P C.kd s0.ev s0.H b op with
   | some (q,v,os)=>if q then some ({ s0 with H:=fe s0.H b os }.put o.dst v) else none
   | none=>none)=some s'→aj1 (fun j=>b≤j∧j < b+16) s0 s':=fun s0 he=>ZZ he
 cases op<;>try (exact pu s he)
 case store t p x=>
  simp only at he;split at he
  ·rename_i s1 hs;cases he;exact(Wn hs).put _ _
  ·cases he
 case call c=>
  simp only at he;split at he
  ·split at he
   ·exact Zg he
   ·cases he
  ·split at he
   ·rename_i q v s1 hs;split at he
    ·cases he;exact(UU (N:=fun j=>b≤j∧j < b+16) ⟨aqG b,by omega⟩ hs).put _ _
    ·cases he
   ·cases he
  ·split at he
   ·rename_i v s1 hs;cases he;exact(YY hs).put _ _
   ·cases he
  ·exact pu s he
 case slice t x lo hi mx=>
  cases mx with
  | some m=>exact pu s he
  | none=>
   simp only at he;split at he
   ·split at he
    ·cases he
    ·split at he
     ·rename_i q v s1 hs;split at he
      ·cases he;exact(Qc hs).put _ _
      ·cases he
     ·cases he
   ·exact pu s he
 case buildSlice t n ps=>
  simp only at he;exact(aj1.akh _ (aj1.refl _ s)).trans (pu _ he)
def VX{ops:Array Oper}{o:Oper}(he:ev1 C ops o b s=some s'):aj1 (fun j=>b≤j∧j < b+16) s s':=by
 unfold ev1 evG at he;split at he
 ·exact R0 he
 ·rename_i jj want hg;split at he
  ·cases he
  ·rename_i g _ _;split at he
   ·rename_i qq v _ _;split at he
    ·split at he
     case isFalse=>cases he
     cases he;have:=(aj1.refl (fun j=>b≤j∧j < b+16) s).put o.dst (.gd g want v);exact⟨this.nid,this.n,this.pins,this.nn⟩
    ·cases he
   ·cases he
  ·rename_i g _ _;have yes: ∀ w,hY C (af S) o b { s with T:=upd s.T g (.b w) } some=some s'→aj1 (fun j=>b≤j∧j < b+16) s s':=fun w h=>by
    have:=R0 h;exact⟨this.nid,this.n,this.pins,this.nn⟩
   have no: ∀ w,(match s.has o.dst with
      | true=>some (({ s with T:=upd s.T g (.b w) } :S).put o.dst oZ)
      | false=>none)=some s'→aj1 (fun j=>b≤j∧j < b+16) s s':=fun w h=>by
    split at h
    ·cases h;have:aj1 (fun j=>b≤j∧j < b+16) s { s with T:=upd s.T g (.b w) } :=⟨rfl,rfl,rfl,fun _ _ e=>e⟩;exact this.put _ _
    ·cases h
   split at he
   ·rename_i c hT;cases want<;>cases c<;>simp only[aqm,if_false,ar2]at he
    ·exact yes _ he
    ·exact no _ he
    ·exact no _ he
    ·exact yes _ he
   ·split at he
    ·cases he;exact(aj1.refl _ s).put _ _
    ·cases he
   ·cases he
end
end Go.VS
end
