/- Part 9. -/
import Derived.Tactics
import Derived.Test.YtimdnaklfelapaaGreatDoorQAH
open Array renaming getD_eq_getD_getElem?→axe,getElem?_append_left→awC,getElem?_eq_some_iff→avO,getElem?_toList→axJ,length_toList→avE,replicate→axV,size_append→ax5,size_replicate→ay8
open Bool renaming and_eq_true→auF,false_eq_true→awi,not_eq_true'→avw,not_eq_true→awo,or_eq_false_iff→axo,or_eq_true→avo
open Classical renaming choose_spec→av9,choose→axs
open Go.Calls renaming mono→ax1
open Go.Code renaming region→ayR
open Go.Instr renaming loadAt→axH,sureAddr→awU
open Go.Region renaming wanted→awN
open Go.Result renaming andThen_ok→avP
open Go.Sem renaming run_bind→awb,run_pure→awp
open Go.Value renaming pointer→axi
open Go.World renaming cell?_of_block→ayf
open List renaming all_cons→axR,all_eq_true→avn,any_eq_true→awL,append_assoc→au2,append_nil→avj,cons_append→awM,drop_eq_getElem_cons→axn,drop_eq_nil_of_le→awE,drop_zero→awF,eq_nil_of_length_eq_zero→avi,filterMap_append→awr,filterMap_cons→ayr,getD_eq_getElem?_getD→auQ,getElem?_append_left→avQ,getElem?_append_right→avl,getElem?_eq_none_iff→axW,getElem?_eq_none→awa,getElem?_eq_some_iff→auR,getElem?_map→avz,getElem?_of_mem→aza,length_append→auP,length_cons→auZ,mapM_cons→ayv,map_append→avS,map_congr_left→av0,map_cons→avJ,mem_append_left→auT,mem_append_right→auY,mem_append→auX,mem_cons_of_mem→auJ,mem_cons_self→auM,mem_cons→au5,mem_filterMap→avU,mem_map→avH,mem_of_getElem?→au8,mem_range→avB,mem_singleton→avh,nodup_append→aw4,nodup_cons→aw0,pairwise_cons→axy,pairwise_lt_range→axF,range_succ→awP,range→au9,reverse_reverse→ay9,size_toArray→awH,sublist_append_right→axp
open List.Perm renaming append_left→axL
open List.Sublist renaming refl→avF
open List.cons renaming injEq→axx
open Nat renaming add_assoc→avI,add_comm→axY,add_mul→av4,beq_eq→awY,beq→auW,ble→awt,le_add_right→ayI,le_of_ble_eq_true→avg,le_refl→auS,le_trans→avr,lor→avt,lt_of_lt_of_le→av8,mul_le_mul_right→avu,ne_of_lt→ayk,sub_zero→aw1,zero_add→avV,zero_le→avM,zero_mul→azl
open Option renaming bind_eq_some_iff→auI,bind_some→auE,map_eq_some_iff→avc
open Option.some renaming inj→avD
open Prod.mk renaming injEq→avs
set_option linter.unusedVariables false
set_option linter.unusedSimpArgs false
set_option linter.defProp false
noncomputable section
namespace Go.VS
open Go
section
variable {C:Cx} {B:anT} {ops:Array Oper} {stk:List (Array Value)} {s s' s0:S} {b b0:Nat} {Ω:Type} {q:Ω}
def aeo{m:aoi}{d:Option Nat}{as:List AV}{k:S→Option Ω}:yR m s b d as k=(yR m s b d as some).bind k:=by
 unfold yR;simp only;split
 ·rename_i x hx hn;cases m.g x with
  | none=>rfl
  | some r=>
   simp only[auE];split
   ·rfl
   ·rfl
 ·rfl
def xZ{r:PR}{f:AV→List Ob→S}{k:S→Option Ω}:(match r with
   | some (q,v,os)=>if q then k (f v os) else none
   | none=>none)=(match r with
   | some (q,v,os)=>if q then some (f v os) else none
   | none=>none).bind k:=by
 cases r with
 | none=>rfl
 | some r=>obtain⟨q,v,os⟩:=r;cases q<;>rfl
def Zs{o:Oper}{k:S→Option Ω}(inl:Inl Ω)(hi: ∀ f c,o.op= .call c→c.callee= .value (.func f)→C.Γ f o.dst=none→ ∀ d as s k,inl f d as s k=none):
  jf C inl o b s k=(jf C (af S) o b s some).bind k:=by
 unfold jf;split
 ·rfl
 generalize ho:o.op=op at *;cases op
 case store t p x=>
  simp only;split<;>rfl
 case call c=>
  simp only;split
  ·rename_i f hf;split
   ·exact aeo
   ·rename_i hm;rw[hi f c rfl hf hm];rfl
  ·split
   ·split<;>rfl
   ·rfl
  ·split<;>rfl
  ·first | rfl | exact xZ (k:=k) (f:=fun v os=>({ s with H:=gj s.H b os } :S).put o.dst v)
 case slice t x lo hi mx=>
  cases mx with
  | some m=>
   simp only
   first | rfl | exact xZ (k:=k) (f:=fun v os=>({ s with H:=gj s.H b os } :S).put o.dst v)
  | none=>
   simp only;split
   ·split
    ·rfl
    ·split
     ·split<;>rfl
     ·rfl
   ·first | rfl | exact xZ (k:=k) (f:=fun v os=>({ s with H:=gj s.H b os } :S).put o.dst v)
 case buildSlice t n ps=>
  simp only;generalize (AH s.ev ps.toList).foldl S.freeze s=s3;exact xZ (k:=k) (f:=fun v os=>({ s3 with H:=gj s3.H b os } :S).put o.dst v)
 all_goals (simp only;first | rfl | exact xZ (k:=k) (f:=fun v os=>({ s with H:=gj s.H b os } :S).put o.dst v))
def ajy{o:Oper}{k:S→Option Ω}:evG C (aah Ω) ops o b s k=(ev1 C ops o b s).bind k:=by
 have h: ∀ b s,∀ k:S→Option Ω,jf C (aah Ω) o b s k=(jf C (af S) o b s some).bind k:=fun b s k=>Zs _ fun _ _ _ _ _ _ _ _ _=>rfl;unfold ev1 evG;split
 ·exact h _ _ _
 ·split
  ·rfl
  ·split
   ·split
    ·split<;>rfl
    ·rfl
   ·rfl
  ·split
   ·rename_i c _;simp only[h];cases hh:s.has o.dst<;>(split<;>split<;>rfl)
   ·split<;>rfl
   ·rfl
def afw(C:Cx)(ops:Array Oper):List Rec→S→S→Prop
 | [],s,s'=>s=s'
 | r::l,s,s'=> ∃ s1,ev1 C ops r.o r.b s=some s1∧((tJ C s r.o=none→r.W=r.F∧ ∀ i∈RH C s r.o,Mm r.K i)∧(∀ l,tJ C s r.o=some l→ ∀ i∈l,Mm r.W i∧Mm r.K i)∧ ∀ id,Mm (nm r.b) id→Mm r.K id)∧vOf s1 r.o.dst=some r.V∧afw C ops l s1 s'
def Po{k:S→Option Ω}: ∀ (l:List Oper) (i b:Nat) (acc:List Rec) (s:S),evD C ops s0 l i b acc s k=some q→anQ C ops s0 b0 acc→i=acc.length→b=b0+16 * i→(∀ j,l[j]? =ops[i+j]?)→
  ∃ rs s',afw C ops rs s s'∧anQ C ops s0 b0 (rs.reverse++acc)∧rs.length=l.length∧k { s' with nid:=b0+16 * (i+l.length) } =some q
 | [],i,b,acc,s,h,hg,hi,hb,hl=>⟨[],s,rfl,hg,rfl,by
   have h:k { s with nid:=b } =some q:=h;rw[hb]at h;exact h⟩
 | o::l,i,b,acc,s,h,hg,hi,hb,hl=>by
  unfold evD at h;split at h
  ·cases h
  rename_i r hr;split at h
  ·rename_i hc;rw[ajy]at h;obtain⟨s1,h1,h⟩:=auI.1 h;obtain⟨V,hV,h⟩:=auI.1 h;simp only[auF,avn]at hc;unfold alT at hr;obtain⟨anc,ha,hr⟩:=auI.1 hr;obtain⟨ids,aqF,hr⟩:=auI.1 hr;obtain⟨c,hcl,hr⟩:=auI.1 hr;simp only at hr;split at hr
   case h_2=>cases hr
   rename_i atL;have hr:=(avD hr).symm;have ho:ops[i]? =some o:=by simpa using (hl 0).symm
   have hg':anQ C ops s0 b0 ({ r with V:=V } ::acc):=by
    refine⟨hg, ?_, ?_, ?_, ?_,⟨ids,c, ?_,hcl, ?_⟩, ?_,fun x hx=>hc.1.1 x hx, ?_, ?_⟩<;>rw[hr]
    ·exact hi
    ·show b=_;rw[hb,hi]
    ·exact ho
    ·exact ha
    ·exact aqF
    ·have gen: ∀ F0:Nat,(mvO o=false∧(match mvO o with
       | true=>avt (msk ids) (nm b)
       | false=>F0)=F0∧(((match mvO o with
       | true=>nm b
       | false=>match pur o,o.guard with
        | true,none=>avt (msk ids) (nm b)
        | _,_=>(match mvO o with
         | true=>avt (msk ids) (nm b)
         | false=>F0))=avt (msk ids) (nm b)∧pur o=true∧o.guard=none)∨(match mvO o with
       | true=>nm b
       | false=>match pur o,o.guard with
        | true,none=>avt (msk ids) (nm b)
        | _,_=>(match mvO o with
         | true=>avt (msk ids) (nm b)
         | false=>F0))=(match mvO o with
       | true=>avt (msk ids) (nm b)
       | false=>F0)))∨(mvO o=true∧(match mvO o with
       | true=>avt (msk ids) (nm b)
       | false=>F0)=avt (msk ids) (nm b)∧(match mvO o with
       | true=>nm b
       | false=>match pur o,o.guard with
        | true,none=>avt (msk ids) (nm b)
        | _,_=>(match mvO o with
         | true=>avt (msk ids) (nm b)
         | false=>F0))=nm b):=by
      intro F0;cases hmv:mvO o with
      | true=>exact .inr ⟨rfl,rfl,rfl⟩
      | false=>
       refine .inl ⟨rfl,rfl, ?_⟩;cases hpu:pur o with
       | false=>exact .inr rfl
       | true=>
        cases hgu:o.guard with
        | none=>exact .inl ⟨rfl,rfl,rfl⟩
        | some x=>exact .inr rfl
     exact gen _
    ·refine⟨atL,fun id hid=> ?_⟩;show Mm (match tJ C s o with
      | none=>_
      | some l=>avt (msk l) (nm b)) id
     cases tJ C s o with
     | none=>
      show Mm (match mvO o with
       | true=>avt (msk ids) (nm b)
       | false=>_) id
      cases mvO o with
      | false=>
       refine za _ _ id ?_;show(avt _ _).testBit id=true;rw[fS,show(nm b).testBit id=true from hid];simp
      | true=>
       show(avt _ _).testBit id=true;rw[fS,show(nm b).testBit id=true from hid];simp
     | some l=>
      show(avt _ _).testBit id=true;rw[fS,show(nm b).testBit id=true from hid];simp
    ·exact hc.1.2
    ·exact hc.2
   obtain⟨rs,s',k1,k2,k3,k4⟩:=Po l (i+1) (b+16) _ s1 h hg' (by simp[hi]) (by omega) (fun j=>by
    have:=hl (j+1);simpa[avI,axY 1 j] using this)
   refine⟨{ r with V:=V } ::rs,s',⟨s1, ?_, ?_, ?_,k1⟩, ?_,by simp[k3], ?_⟩
   ·rw[hr];exact h1
   ·rw[hr];refine⟨fun he=>⟨?_,fun j hj=> ?_⟩,fun l he j hj=> ?_,fun id hid=> ?_⟩
    ·have he:tJ C s o=none:=he;show(match tJ C s o with
      | none=>_
      | some l=>avt (msk l) (nm b))=_
     rw[he]
    ·have he:tJ C s o=none:=he;show Mm (match tJ C s o with
      | none=>avt (msk (RH C s o)) (nm b)
      | some l=>avt (msk l) (nm b)) j
     rw[he];show(avt _ _).testBit j=true;rw[fS,xl.2 hj];rfl
    ·have he:tJ C s o=some l:=he;have key:Mm (avt (msk l) (nm b)) j:=by
      show(avt _ _).testBit j=true;rw[fS,xl.2 hj];rfl
     constructor
     ·show Mm (match tJ C s o with
       | none=>_
       | some l=>avt (msk l) (nm b)) j
      rw[he];exact key
     ·show Mm (match tJ C s o with
       | none=>_
       | some l=>avt (msk l) (nm b)) j
      rw[he];exact key
    ·show Mm (match tJ C s o with
      | none=>avt (msk (RH C s o)) (nm b)
      | some l=>avt (msk l) (nm b)) id
     have hid:(nm b).testBit id=true:=hid;cases tJ C s o with
     | none=>
      show(avt _ _).testBit id=true;rw[fS,hid];simp
     | some l=>
      show(avt _ _).testBit id=true;rw[fS,hid];simp
   ·rw[hr];exact hV
   ·simpa using k2
   ·rw[show i+(o::l).length=i+1+l.length by simp;omega];exact k4
  ·cases h
def Ve{acc:List Rec}: ∀ {ts l:List Nat},aeZ s0 acc ts=some l→ ∀ t∈ts,∃ a,(match Zp t acc with
  | some r=>some r.V
  | none=>ai8 (s0.T t))=some a∧ ∀ i∈a,i∈l
 | [],_,_,t,ht=>by cases ht
 | t0::ts,l,h,t,ht=>by
  obtain⟨a,h1,h⟩:=auI.1 h;obtain⟨b,h2,h⟩:=auI.1 h;cases h;rcases au5.1 ht with rfl | ht
  ·exact⟨a,h1,fun i hi=>auT _ hi⟩
  ·obtain⟨a',h3,h4⟩:=Ve h2 t ht;exact⟨a',h3,fun i hi=>auY _ (h4 i hi)⟩
def anQ.fit{acc:List Rec}(h:anQ C ops s0 b0 acc)(hn:acc.length=ops.size)(hfr: ∀ j,b0≤j→s0.H j=none){i:Nat}:Fit ops (gy acc b0) (au9 ops.size) s0 i:=by
 intro o ho;obtain⟨r,hr,hi,rfl,fi⟩:=h.op hn ho;have e1:(gy acc b0).F i=Mm r.F:=by funext id;simp only[gy,fi]
 have e2:(gy acc b0).N i=Mm r.N:=by funext id;simp only[gy,fi]
 rw[e1,e2];have hNF:=h.N_F hr;refine⟨fun t ht hd=> ?_,fun id ob hid ho=> ?_,fun id h1 _=>hfr id (by simp only[gy]at h1;omega)⟩
 rotate_left
 ·cases hmv:mvO r.o with
  | false=>exact h.closed hfr r hr hmv id ob (hNF id hid) ho
  | true=>
   exfalso;obtain⟨ao5,hg,_⟩:=h.mem r hr;obtain⟨_,k1,k2,_,_,⟨l,c,h1,h2,h3⟩,_⟩:=hg;rcases h3 with h3 | h3
   ·rw[hmv]at h3;cases h3.1
   ·rw[h3.2.2]at hid;have:=C9.1 hid;rw[hfr id (by omega)]at ho;cases ho
 obtain⟨ao5,hg,apx,_,hlt⟩:=h.mem r hr;obtain⟨_,_,_,_,_,⟨l,c,h1,h2,h3⟩,_⟩:=hg;obtain⟨a,h4,h5⟩:=Ve h1 t ht;cases hf:Zp t ao5 with
 | some r'=>
  obtain⟨hm,arG⟩:=Zo hf;have hm':=apx r' hm;obtain⟨auq,hg2,_⟩:=h.mem r' hm';have ho':=hg2.2.2.2.1;have hR:(gy acc b0).R r'.i i:=by
   have arE:=hlt r' hm;have hc:=h.chk hm' hr (by omega);simp only[VS.chk,auF]at hc;simp only[gy,fi];cases hT:tst r.anc r'.i with
   | true=>exact ZM.1 hT
   | false=>
    rw[hT]at hc;obtain⟨_,hc⟩:=hc;simp only[auF]at hc;exact absurd ht (HF hc.1.2 t arG)
  exact absurd arG (hd r'.i (avB.2 (avO.1 ho').1) hR r'.o ho')
 | none=>
  rw[hf]at h4;rcases h3 with⟨_,h3,h6⟩ | ⟨hmv,h3,h6⟩
  ·have ata:InA (Mm r.F) (s0.T t):=S5 h4 fun j hj=>by
    rw[h3];refine za _ _ j ?_;show(avt _ _).testBit j=true;rw[fS,(NN 4 l h2).1 j (h5 j hj)];rfl
   refine⟨ata,.inr ?_⟩;rcases h6 with h6 | h6
   ·refine S5 h4 fun j hj=> ?_;rw[h6.1];show(avt _ _).testBit j=true;rw[fS,xl.2 (h5 j hj)];rfl
   ·rw[h6];exact ata
  ·simp only[mvO,auF]at hmv;refine⟨S5 h4 fun j hj=> ?_,.inl hmv.1.1⟩;rw[h3];show(avt _ _).testBit j=true;rw[fS,xl.2 (h5 j hj)];rfl
def CZ{acc:List Rec}(h:anQ C ops s0 b0 acc)(hn:acc.length=ops.size): ∀ (rs:List Rec) (s s':S),afw C ops rs s s'→(∀ r∈rs,r∈acc)→(rs.map (·.i)).Pairwise (· < ·)→
  (∀ r∈rs,Fit ops (gy acc b0) (rs.map (·.i)) s r.i)→Run C ops (gy acc b0) (rs.map (·.i)) s s'
 | [],s,s',hc,_,_,_=>by
  cases hc;exact .nil
 | r::rs,s,s',⟨s1,h1,h2,h3,h4⟩,hm,hp,hf=>by
  have hr:=hm r auM;obtain⟨ao5,hg,_⟩:=h.mem r hr;have ho:=hg.2.2.2.1;have hok:=hg.2.2.2.2.2.2.2.2.1;have hb:=(h.aqa hr).1;have hrb:r.i < acc.length:=h.lt r hr;have fi:=h.find r hr;have nice:=h.nice hn;obtain⟨f1,f2,f3⟩:=hf r auM r.o ho;have eb:(gy acc b0).b r.i=r.b:=hb.symm;have hp':=axy.1 hp;have asU: ∀ t∈du ops r.o,InA ((gy acc b0).F r.i) (s.T t)∧(mov r.o.op=true∨InA ((gy acc b0).N r.i) (s.T t)):=fun t ht=>f1 t ht fun j hj hR oj hoj e=>by
   have hlt:=nice.lt _ _ hR;rcases au5.1 hj with e' | hj
   ·have e':j=r.i:=e';omega
   ·have h9:r.i < j:=hp'.1 j hj;omega
  have hrd:=fun t ht=>(asU t ht).1;obtain⟨h21,h22,h23⟩:=h2;have hKn: ∀ j,r.b≤j→j < r.b+16→(gy acc b0).K r.i j:=fun j k1 k2=>by
   simp only[gy,fi];exact h23 j (C9.2 ⟨k1,k2⟩)
  have hWn: ∀ j,r.b≤j→j < r.b+16→(gy acc b0).W r.i j:=fun j k1 k2=>nice.NW r.i j (by rw[eb];exact k1) (by rw[eb];exact k2);have hWF: ∀ id,Mm r.W id→Mm r.F id:=fun id hid=>FJ (h.aqa hr).2.2.1 id hid;have hKW: ∀ id∈RH C s r.o,Mm r.F id:=fun id hid=>by
   obtain⟨_,_,_,_,_,⟨l,c,_,_,h3⟩,_⟩:=hg;have hop: ∀ x∈r.o.op.operands,InA ((gy acc b0).F r.i) (s.ev x):=fun x hx=>by
    cases x with
    | tmp t=>exact hrd t (auT _ (xC hx))
    | const v=>exact aaf v
    | _=>exact .of1 trivial
   have aqX:pur r.o=true→False:=fun hp=>by
    unfold pur at hp;unfold RH at hid;cases ho2:r.o.op<;>rw[ho2]at hp hid<;>first | (cases hid;done) | (cases hp;done)
   rcases h3 with⟨_,_,h6 | h6⟩ | ⟨hmv,_⟩
   ·exact(aqX h6.2.1).elim
   rotate_left
   ·simp only[mvO,auF]at hmv;exact(aqX hmv.1.2).elim
   ·have hcl:anN ((gy acc b0).F r.i) s.H:=fun id ob hid ho=>f2 id ob (by simp only[gy,fi]at hid ⊢; rw[h6];exact hid) ho;have:=aln hop hcl hid;simp only[gy,fi]at this;exact this
  obtain⟨g,v,es,a1,a2,a3,a4,a5⟩:=alj (F:=(gy acc b0).F r.i) (N:=(gy acc b0).N r.i) (WS:=fun e=>(gy acc b0).W r.i e.id∧(e.fk= .no∨(gy acc b0).K r.i e.id)) hok hrd f2
   (fun j k1 k2=>nice.WF _ _ (hWn j k1 k2)) (fun e k1 k2=>⟨hWn _ k1 k2,.inr (hKn _ k1 k2)⟩)
   ⟨fun he=>⟨fun e hF hfk=>⟨by
     simp only[gy,fi]at hF ⊢;rw[(h21 he).1];exact hF,.inl hfk⟩,fun e hk=>⟨by
     simp only[gy,fi];rw[(h21 he).1];exact hKW _ hk,.inr (by simp only[gy,fi];exact(h21 he).2 _ hk)⟩⟩,
    fun l he e hl=>⟨by simp only[gy,fi];exact(h22 l he _ hl).1,.inr (by simp only[gy,fi];exact(h22 l he _ hl).2)⟩⟩
   (by
    obtain⟨_,_,_,_,_,⟨l,c,_,_,h3⟩,_⟩:=hg;rcases h3 with⟨_,_,h6 | h6⟩ | ⟨hmv,_⟩
    ·refine .inl ⟨h6.2.1,h6.2.2, ?_⟩;cases hmo:mov r.o.op with
     | true=>exact .inl rfl
     | false=>exact .inr fun t ht=>(asU t ht).2.resolve_left fun h=>by rw[hmo]at h;cases h
    rotate_left
    ·simp only[mvO,auF]at hmv;exact .inl ⟨hmv.1.2,by simpa using hmv.2,.inl hmv.1.1⟩
    ·refine .inr fun id hid=> ?_;simp only[gy,fi]at hid ⊢;rw[h6];exact hid) h1
  have hst:Stp C ops r.o ((gy acc b0).b r.i) ((gy acc b0).F r.i) ((gy acc b0).N r.i) ((gy acc b0).W r.i) ((gy acc b0).K r.i) ((gy acc b0).V r.i) s s1:=by
   rw[eb];refine⟨g,v,es,a1,fun t ht=> ?_,a2,a3,a4,a5⟩;rw[ht]at h3;have:s1.T t=v:=by rw[a4,afd,aus ht]
   rw[← this];refine S5 (show ai8 (s1.T t)=some r.V from h3) fun j hj=> ?_;simp only[gy,fi];exact hj
  refine .cons ho hst (CZ h hn rs s1 s' h4 (fun x hx=>hm x (auJ _ hx)) hp'.2 fun x hx=> ?_);have hxi:r.i < x.i:=hp'.1 x.i (avH.2 ⟨x,hx,rfl⟩);exact(hf x (auJ _ hx)).step nice ho (ayk hxi) (fun hR=>by have:=nice.lt _ _ hR;omega) hst fun j hj=>by
   rcases au5.1 hj with e | hj
   ·exact .inl e
   ·exact .inr hj
def G2: ∀ (rs:List Rec) (s s':S) (m:Nat),afw C ops rs s s'→(∀ r∈rs,r.b+16≤m)→anG (fun j=>j < m) s s'
 | [],s,s',m,hc,_=>by cases hc;exact anG.refl _ _
 | r::rs,s,s',m,⟨s1,h1,_,_,h4⟩,hb=>by
  have k1:=Zt h1;have hb1:=hb r auM;have k1':anG (fun j=>j < m) s s1:=⟨k1.nid,k1.n,k1.pins,fun j hj e=>k1.nn j (fun hh=>hj (by omega)) e⟩;exact k1'.trans (G2 rs s1 s' m h4 fun x hx=>hb x (auJ _ hx))
def anQ.places: ∀ {acc:List Rec},anQ C ops s0 b0 acc→acc.reverse.map (·.i)=au9 acc.length
 | [],_=>rfl
 | r::acc,h=>by
  rw[List.reverse_cons,avS,anQ.places h.1,auZ,awP];simp[h.2.1]
def ag9(hP:C.P=B.P)(hm:B.P.follows .mixedOrders=true)(hC:oW C B){k:S→Option Ω}(he:evD C ops s ops.toList 0 s.nid [] s k=some q)(hfr:Fr s){β:Beta}{a:Act}{w:World}(hst:St B β stk s a w)
  {id:Nat}{Q:Exit→Act→World→Prop}(hQ: ∀ β a w s',St B β stk s' a w→Fr s'→s'.n=s.n→s'.pins=s.pins→k s'=some q→Q .normal a w):(ayR id ops true).wp B.P Q a w:=by
 obtain⟨rs,s',h1,h2,h3,h4⟩:=Po (b0:=s.nid) ops.toList 0 s.nid [] s he trivial rfl rfl (by simp);simp only[avj,avV]at h2 h4;have hn:rs.reverse.length=ops.size:=by simpa using h3
 have hpl:=h2.places;rw[ay9,hn]at hpl;have apc: ∀ j,Fit ops (gy rs.reverse s.nid) (au9 ops.size) s j:=fun j=>h2.fit hn hfr;have an2:=CZ h2 hn rs s s' h1 (fun r hr=>by simpa using hr) (by rw[hpl];exact axF) (fun r hr=>by rw[hpl];exact apc _);rw[hpl]at an2;have apb:anG (fun j=>j < s.nid+16 * ops.toList.length) s s':=G2 rs s s' _ h1 fun r hr=>by
  have hr':r∈rs.reverse:=by simpa using hr
  have e1:=(h2.aqa hr').1;have e2:=h2.lt r hr';rw[hn]at e2;have:ops.toList.length=ops.size:=by simp
  omega
 refine ady hP hm hC (h2.nice hn) an2 (fun j _=>apc j) hst fun β a w h=> ?_;refine hQ β a w { s' with nid:=s.nid+16 * ops.toList.length } ⟨h.T,h.stack,h.n,h.defers,h.pins,h.gs,h.hs⟩ (fun j hj=> ?_) apb.n apb.pins h4;have hj:s.nid+16 * ops.toList.length≤j:=hj;exact apb.nn j (by omega) (hfr j (by omega))
end
end Go.VS
namespace Go.VS
open Go
def EQ(C:Cx)(B:anT)(inl:(Ω:Type)→Inl Ω):Prop:= ∀ (Ω:Type) (f:FuncId) (d:Option Nat) (as:List AV) (s:S) (k:S→Option Ω) (q:Ω),inl Ω f d as s k=some q→
 ∀ (β:Beta) (stk:List (Array Value)) (a:Act) (w:World) (o:Oper) (args:List Operand) (ts:Array TypeId) (K:Act→World→Prop) (Q:Exit→Act→World→Prop),
 St B β stk s a w→Fr s→s.has d=true→o.dst=d→as=args.map s.ev→o.op= .call { callee:= .value (.func f),args:=args.toArray,argTypes:=ts } →
 (∀ β' u w' s',St B β' stk s' (a.put d u) w'→Fr s'→s'.n=s.n→s'.pins=s.pins→k s'=some q→K (a.put d u) w')→o.wp B.P a w K Q
def abR(C:Cx)(B:anT):EQ C B af:=by
 intro Ω f d as s k q h;cases h
section
variable {C:Cx} {B:anT} {ops:Array Oper} {stk:List (Array Value)} {s s':S} {Ω:Type} {q:Ω} {β:Beta} {a:Act} {w:World} {inl:(Ω:Type)→Inl Ω}
def aj6(C:Cx)(o:Oper):Prop:= ∃ f c,o.op= .call c∧c.callee= .value (.func f)∧C.Γ f o.dst=none
def ag8{o:Oper}{b:Nat}{k:S→Option Ω}(hn: ¬ aj6 C o):evG C (inl Ω) ops o b s k=(ev1 C ops o b s).bind k:=by
 have h: ∀ b s,∀ k:S→Option Ω,jf C (inl Ω) o b s k=(jf C (af S) o b s some).bind k:=fun b s k=>Zs _ fun f c h1 h2 h3=>absurd ⟨f,c,h1,h2,h3⟩ hn;unfold ev1 evG;split
 ·exact h _ _ _
 ·split
  ·rfl
  ·split
   ·split
    ·split<;>rfl
    ·rfl
   ·rfl
  ·split
   ·rename_i c _;simp only[h];cases hh:s.has o.dst<;>(split<;>split<;>rfl)
   ·split<;>rfl
   ·rfl
def ace(hI:EQ C B inl){o:Oper}{b:Nat}{k:S→Option Ω}(hin:aj6 C o)(he:jf C (inl Ω) o b s k=some q)(hst:St B β stk s a w)(hfr:Fr s){K:Act→World→Prop}{Q:Exit→Act→World→Prop}
  (hK: ∀ β' u w' s',St B β' stk s' (a.put o.dst u) w'→Fr s'→s'.n=s.n→s'.pins=s.pins→k s'=some q→K (a.put o.dst u) w'):o.wp B.P a w K Q:=by
 obtain⟨f,c,h1,h2,h3⟩:=hin;obtain⟨cal,⟨args⟩,⟨tys⟩⟩:=c;simp only at h2;subst h2;unfold jf at he;split at he
 ·cases he
 rename_i hd;simp only[h1,h3]at he;exact hI Ω f o.dst _ s k q he β stk a w o args ⟨tys⟩ K Q hst hfr hd rfl rfl h1 hK
def acA(hP:C.P=B.P)(hC:oW C B)(hI:EQ C B inl){i:Nat}{o:Oper}(hi:ops[i]? =some o){k:S→Option Ω}(he:evG C (inl Ω) ops o s.nid s k=some q)(hst:St B β stk s a w)(hfr:Fr s){K:Act→World→Prop}{Q:Exit→Act→World→Prop}
  (hK: ∀ β' u w' s',St B β' stk s' (a.put o.dst u) w'→(∀ j,s'.nid+16≤j→s'.H j=none)→s'.n=s.n→s'.pins=s.pins→k s'=some q→K (a.put o.dst u) w'):wpOp B.P ops Q i K a w:=by
 by_cases hin:aj6 C o
 ·have hK': ∀ s1:S,s1.n=s.n→s1.pins=s.pins→ ∀ β' u w' s',St B β' stk s' (a.put o.dst u) w'→Fr s'→s'.n=s1.n→s'.pins=s1.pins→k s'=some q→K (a.put o.dst u) w':=
   fun s1 e1 e2 β' u w' s' k1 k2 k3 k4 k5=>hK β' u w' s' k1 (fun j hj=>k2 j (by omega)) (k3.trans e1) (k4.trans e2) k5
  unfold wpOp;simp only[hi];unfold evG at he;split at he
  ·rename_i hg;have hw:awN o (yielded ops a.tmps)=true:=by simp[awN,hg]
   rw[aus hw];exact .inl (ace hI hin he hst hfr (hK' s rfl rfl))
  ·rename_i j want hg;have hwd:awN o (yielded ops a.tmps)=(yielded ops a.tmps j == some want):=by simp[awN,hg]
   rw[hwd];split at he
   ·cases he
   ·rename_i g hgd hsp;split at he
    ·rename_i qq v aot hv;obtain⟨f,c,h1,h2,h3⟩:=hin;obtain⟨cal,⟨args⟩,⟨tys⟩⟩:=c;simp only at h2;subst h2;simp only[h1,spA,h3]at hv;cases hv
    ·cases he
   ·rename_i g hgd hsp;split at he
    ·rename_i c hT;have htg:dW a g= .bool c:=by have:=hst.T g;rw[hT]at this;exact this
     have hy:yielded ops a.tmps j=some c:=xh hgd htg;rw[hy];have hn: ∀ w0:Bool,c=w0→St B β stk { s with T:=upd s.T g (.b w0) } a w:=by
      intro w0 e;subst e;rw[show({ s with T:=upd s.T g (.b c) } :S)=s by rw[aeA _ _ _ hT]];exact hst
     have yes:jf C (inl Ω) o s.nid { s with T:=upd s.T g (.b want) } k=some q→c=want→
       (if(some c == some want)=true then o.wp B.P a w K Q∨(o.asks B.P a w∧LetsOut Q) else K (a.put o.dst undef) w):=by
      intro he e;rw[aus (by simp[e])];exact .inl (ace hI hin he (hn want e) hfr (hK' _ rfl rfl))
     have no:(match s.has o.dst with
       | true=>k (({ s with T:=upd s.T g (.b (!want)) } :S).put o.dst qU)
       | false=>none)=some q→c= !want→
       (if(some c == some want)=true then o.wp B.P a w K Q∨(o.asks B.P a w∧LetsOut Q) else K (a.put o.dst undef) w):=by
      intro he e;rw[aur (by subst e;cases want<;>simp)];split at he
      ·rename_i aot;refine hK β undef w _ ((hn (!want) e).put (by exact aot) (v:=qU) (u:=undef) rfl (fun g' w1 x e=>by cases e)) (fun j hj=> ?_) ?_ ?_ he
       ·have:=hfr j (by cases hod:o.dst<;>rw[hod]at hj<;>exact avr (ayI _ 16) hj);cases o.dst<;>exact this
       ·cases o.dst<;>rfl
       ·cases o.dst<;>rfl
      ·cases he
     cases want<;>cases c<;>simp only[auy,if_false,awi]at he
     ·exact yes he rfl
     ·exact no he rfl
     ·exact no he rfl
     ·exact yes he rfl
    ·rename_i vs hT;have htg:dW a g= .tuple vs:=by have:=hst.T g;rw[hT]at this;exact this
     have hy: ¬ (yielded ops a.tmps j == some want)=true:=by
      intro e;have:=xg hgd (show yielded ops a.tmps j=some want by simpa using e);rw[htg]at this;cases this
     rw[aur hy];split at he
     ·rename_i aot;refine hK β undef w _ (hst.put aot (v:=qU) (u:=undef) rfl (fun g' w1 x e=>by cases e)) (fun j hj=> ?_) ?_ ?_ he
      ·have:=hfr j (by cases hod:o.dst<;>rw[hod]at hj<;>exact avr (ayI _ 16) hj);cases o.dst<;>exact this
      ·cases o.dst<;>rfl
      ·cases o.dst<;>rfl
     ·cases he
    ·cases he
 ·rw[ag8 hin]at he;obtain⟨s1,h1,h2⟩:=auI.1 he;have hk:=Zt h1;refine Vt hP hC hi hst (fun j hj _=>hfr j hj) h1 fun β' u w' h=>hK β' u w' s1 h (fun j hj=>hk.nn j (fun hh=> ?_) (hfr j ?_)) hk.n hk.pins h2
  ·rw[hk.nid]at hj;omega
  ·rw[hk.nid]at hj;omega
def Zr(hP:C.P=B.P)(hC:oW C B)(hI:EQ C B inl){k:S→Option Ω}{Q:Exit→Act→World→Prop}{n:Nat}{p:List Nat}
  (hQ: ∀ β a w s',St B β stk s' a w→Fr s'→s'.n=n→s'.pins=p→k s'=some q→Q .normal a w): ∀ (l:List Oper) (i:Nat) (s:S) (β:Beta) (a:Act) (w:World),(∀ j,l[j]? =ops[i+j]?)→
  Vq C (inl Ω) ops l s k=some q→St B β stk s a w→Fr s→s.n=n→s.pins=p→wpOps B.P ops Q (List.range' i l.length) a w
 | [],i,s,β,a,w,_,he,hst,hfr,hn,hp=>hQ β a w s hst hfr hn hp he
 | o::l,i,s,β,a,w,hl,he,hst,hfr,hn,hp=>by
  rw[auZ,List.range'_succ,wpOps_cons];have ho:ops[i]? =some o:=by simpa using (hl 0).symm
  refine acA hP hC hI ho (show evG C (inl Ω) ops o s.nid s (fun s=>Vq C (inl Ω) ops l { s with nid:=s.nid+16 } k)=some q from he) hst hfr ?_;intro β' u w' s' h1 h2 h3 h4 h5;exact Zr hP hC hI hQ l (i+1) { s' with nid:=s'.nid+16 } β' _ w' (fun j=>by
   have:=hl (j+1);simpa[avI,axY 1 j] using this) h5 ⟨h1.T,h1.stack,h1.n,h1.defers,h1.pins,h1.gs,h1.hs⟩ h2 (h3.trans hn) (h4.trans hp)
def QM(hP:C.P=B.P)(hC:oW C B)(hI:EQ C B inl){k:S→Option Ω}(he:Vq C (inl Ω) ops ops.toList s k=some q)(hfr:Fr s)(hst:St B β stk s a w)
  {id:Nat}{Q:Exit→Act→World→Prop}(hQ: ∀ β a w s',St B β stk s' a w→Fr s'→s'.n=s.n→s'.pins=s.pins→k s'=some q→Q .normal a w):(ayR id ops false).wp B.P Q a w:=by
 refine wp_region ?_;have:=Zr hP hC hI hQ ops.toList 0 s β a w (by simp) he hst hfr rfl rfl;rw[List.range_eq_range',← avE];exact this
end
end Go.VS
namespace Go.VS
open Go
def Imm(w:World)(M:Nat→Prop)(c:AV)(v:Value):Prop:= ∀ β:Beta,(∀ b,MZ β b→M b)→RC w β c v
mutual
def Rel (P:Program) (w:World) (M:Nat→Prop) (e:Nat→Value):(h:Sh)→LT h→Value→List (Value×Nat)→Prop
 | .int k,n,v,os=>v= .int k n∧os=[]
 | .bool,x,v,os=>v= .bool x∧os=[]
 | .str,s,v,os=>v= .string s∧os=[]
 | .sl k,xs,v,os=>Imm w M (.sl k xs) v∧os=[]
 | .fz k,xs,v,os=>Imm w M (.sl k xs) v∧os=[]
 | .row t k,xs,v,os=>os=[(v,xs.length)]∧agL v=true∧ ∀ β:Beta,(∀ b,MZ β b→M b)→anZ w β t false k xs v
 | .an1 t k,xs,v,os=>os=[(v,xs.length)]∧agL v=true∧ ∀ β:Beta,(∀ b,MZ β b→M b)→anZ w β t true k xs v
 | .abx t k,xs,v,os=>os=[(v,xs.length)]∧1≤xs.length∧ ∃ b us,v= .pointer (some ⟨b,0,none⟩)∧w.heap[b]? =some (.cells us t (0,0))∧us.size=xs.length * ks k∧us.size=P.cellsOf t∧
   (∀ β:Beta,(∀ b,MZ β b→M b)→ ∀ i x j c u,xs[i]? =some x→(enc k x)[j]? =some c→us[i * ks k+j]? =some u→RC w β c u)
 | .arr k,xs,v,os=>os=[]∧ ∀ β:Beta,(∀ b,MZ β b→M b)→R1 w β (.arr k xs) v
 | .same t,_,v,os=>os=[]∧v=e t∧v.oneCell'=true
 | .agg l,x,v,os=> ∃ us:List Value,v= .agg us.toArray∧an3 P w M e l x us os
 | .box t l,x,v,os=> ∃ b us os',v= .pointer (some ⟨b,0,none⟩)∧w.heap[b]? =some (.cells us t (0,0))∧an3 P w M e l x us.toList os'∧os=os'++[(v,1)]
def an3 (P:Program) (w:World) (M:Nat→Prop) (e:Nat→Value):(l:List Sh)→LTs l→List Value→List (Value×Nat)→Prop
 | [],_,us,os=>us=[]∧os=[]
 | h::l,x,us,os=> ∃ u us' o1 o2,us=u::us'∧os=o1++o2∧Rel P w M e h x.1 u o1∧an3 P w M e l x.2 us' o2
end
def xf(p:Value×Nat):Option Nat:=(adr p.1).map (·.block)
abbrev bX(os:List (Value×Nat)):List Nat:=os.filterMap xf
mutual
def LU:Sh→List Nat
 | .same t=>[t]
 | .agg l=>rS l
 | .box _ l=>rS l
 | _=>[]
def rS:List Sh→List Nat
 | []=>[]
 | h::l=>LU h++rS l
end
section
variable {B:anT} {β β':Beta} {H:Hp} {w w':World} {M:Nat→Prop} {E:Nat→AV} {e:Nat→Value}
def RC.aqQ{c:AV}{v:Value}(h:RC w β c v)(hc:an6 c=true)(hM: ∀ b,M b→MZ β b):Imm w M c v:=fun β' hβ'=>
 RC.imm (fun _ _ _ _ h=>h) (fun b hb _ hm=>hb (hM b (hβ' b hm))) h hc
def anZ.imm{t:TypeId}{fz:Bool}{k:K}{xs:List (Tof k)}{v:Value}(h:anZ w β t fz k xs v)(hM: ∀ b,M b→MZ β b): ∀ β':Beta,(∀ b,MZ β' b→M b)→anZ w β' t fz k xs v:=by
 intro β' hβ';rcases h with h | ⟨b,f,cap,us,fr,h1,h2,h3,h4,h5,h6,h7⟩
 ·exact .inl h
 ·exact .inr ⟨b,f,cap,us,fr,h1,h2,h3,h4,h5,h6,fun i x j c u a1 a2 a3=>(h7 i x j c u a1 a2 a3).aqQ (fL k x a2) hM β' hβ'⟩
def anZ.att{t:TypeId}{fz:Bool}{k:K}{xs:List (Tof k)}{v:Value}(h:anZ w β t fz k xs v)(hM: ∀ b,M b→MZ β b)(hn: ∀ a,adr v=some a→ ¬ M a.block):Imm w M (.sl k xs) v:=by
 intro β' hβ';rcases h with⟨rfl,rfl⟩ | ⟨b,f,cap,us,fr,rfl,hh,hfr,hn',hc,hs,hr⟩
 ·exact .nil
 ·have anR: ∀ i j,i < xs.length→j < ks k→f+(i * ks k+j) < us.size:=by
   intro i j hi hj;have h1:(i+1) * ks k≤cap * ks k:=avu _ (by omega);rw[av4]at h1;omega
  refine .sl (fun i j=>us.getD (f+(i * ks k+j)) undef) ⟨rfl,hn'⟩ (fun hm=>hn _ rfl (hβ' _ hm)) (fun i j hi hj=> ?_) (fun i x j c h2 h3=> ?_)
  ·rw[cell_of_row w b _ us t fr hh];have:=anR i j hi hj;simp[this]
  ·have hi:i < xs.length:=(auR.1 h2).1;have hj:j < ks k:=by rw[← bG k x];exact(auR.1 h3).1
   have:=anR i j hi hj;exact(hr i x j c (us.getD (f+(i * ks k+j)) undef) h2 h3 (by simp[this])).aqQ (fL k x h3) hM β' hβ'
def R1.lits{v' v:Value}(h:R1 w β (.lit v') v):v=v':=h
def R1.sls{k:K}{xs:List (Tof k)}{v:Value}(h:R1 w β (.sl k xs) v):RC w β (.sl k xs) v:=h
def R1.ar0{id:Nat}{v:Value}(h:R1 w β (.own id) v):RC w β (.own id) v:=h
def R1.aqP{id z i o:Nat}{v:Value}(h:R1 w β (.ptr id z i o) v):RC w β (.ptr id z i o) v:=h
structure aqg (B:anT) (β:Beta) (H:Hp) (w:World) (M:Nat→Prop) (E:Nat→AV) (e:Nat→Value):Prop where
 hs:Hs B β H w
 hM: ∀ b,M b→MZ β b
 hE: ∀ t id z,E t= .ptr id z 0 0→R1 w β (E t) (e t)
def ZF(β:Beta)(M:Nat→Prop)(ids:List Nat):Prop:= ∀ i∈ids,∀ p a,β i=some p→adr p.1=some a→ ¬ M a.block
def ZX(R:aqg B β H w M E e){id:Nat}{t:TypeId}{fz:Bool}{k:K}{xs:List (Tof k)}{v:Value}(hv:RC w β (.own id) v)(hid:H id=some (.row t fz k xs)):
  agL v=true∧β id=some (v,xs.length)∧anZ w β t fz k xs v:=by
 cases hv with
 | own h hs=>
  obtain⟨hd,h1,h2⟩:=R.hs.aoq id _ hid;rw[h]at h1;cases h1;exact⟨hs,h,h2⟩
mutual
theorem TM (R:aqg B β H w M E e): ∀ (h:Sh) (c:AV) (v:Value) (x:LT h),R1 w β c v→eY E H h c=some x→ZF β M (lG H h c)→
  ∃ os,Rel B.P w M e h x v os∧bX os=bX ((kD H h c).filterMap β)
 | .int k,c,v,x,hv,hx,_=>by
  cases c with
  | lit v'=>
   cases v'<;>first | (simp[eY]at hx;done) | skip
   simp only[eY]at hx;split at hx
   ·rename_i e1;simp at e1;subst e1;cases hx;exact⟨[],⟨hv.lits,rfl⟩,rfl⟩
   ·cases hx
  | _=>simp[eY]at hx
 | .bool,c,v,x,hv,hx,_=>by
  cases c with
  | lit v'=>
   cases v'<;>first | (simp[eY]at hx;done) | skip
   simp only[eY]at hx;cases hx;exact⟨[],⟨hv.lits,rfl⟩,rfl⟩
  | _=>simp[eY]at hx
 | .str,c,v,x,hv,hx,_=>by
  cases c with
  | lit v'=>
   cases v'<;>first | (simp[eY]at hx;done) | skip
   simp only[eY]at hx;cases hx;exact⟨[],⟨hv.lits,rfl⟩,rfl⟩
  | _=>simp[eY]at hx
 | .sl k,c,v,x,hv,hx,_=>by
  cases c with
  | sl k' xs=>
   obtain⟨e1,rfl⟩:=gW (show CE k' k xs=some x from hx);subst e1;exact⟨[],⟨hv.sls.aqQ rfl R.hM,rfl⟩,rfl⟩
  | lit v'=>
   cases v' with
   | slice a n cap=>
    cases a<;>cases n<;>cases cap<;>simp[eY]at hx;subst hx;have:=hv.lits;subst this;exact⟨[],⟨fun _ _=> .nil,rfl⟩,rfl⟩
   | _=>simp[eY]at hx
  | _=>simp[eY]at hx
 | .fz k,c,v,x,hv,hx,hf=>by
  cases c with
  | sl k' xs=>
   obtain⟨e1,rfl⟩:=gW (show CE k' k xs=some x from hx);subst e1;exact⟨[],⟨hv.sls.aqQ rfl R.hM,rfl⟩,rfl⟩
  | lit v'=>
   cases v' with
   | slice a n cap=>
    cases a<;>cases n<;>cases cap<;>simp[eY,iT]at hx;subst hx;have:=hv.lits;subst this;exact⟨[],⟨fun _ _=> .nil,rfl⟩,rfl⟩
   | _=>simp[eY,iT]at hx
  | own id=>
   simp only[eY,iT]at hx;split at hx
   ·rename_i t fz k' ys hid;obtain⟨e1,rfl⟩:=gW hx;subst e1;obtain⟨h1,h2,h3⟩:=ZX R hv.ar0 hid;exact⟨[],⟨h3.att R.hM fun a ha=>hf id (by simp[lG]) _ a h2 ha,rfl⟩,rfl⟩
   ·cases hx
  | _=>simp[eY,iT]at hx
 | .row t k,c,v,x,hv,hx,_=>by
  cases c with
  | lit v'=>
   cases v' with
   | slice a n cap=>
    cases a<;>cases n<;>cases cap<;>simp[eY]at hx;subst hx;have:=hv.lits;subst this;exact⟨[(.slice none 0 0,0)],⟨rfl,rfl,fun _ _=> .inl ⟨rfl,rfl⟩⟩,rfl⟩
   | _=>simp[eY]at hx
  | own id=>
   simp only[eY]at hx;split at hx
   ·rename_i t' k' ys hid;split at hx
    ·rename_i ht;obtain rfl:=aI ht;obtain⟨e1,rfl⟩:=gW hx;subst e1;obtain⟨h1,h2,h3⟩:=ZX R hv.ar0 hid;exact⟨[(v,ys.length)],⟨rfl,h1,h3.imm R.hM⟩,by simp[kD,h2]⟩
    ·cases hx
   ·cases hx
  | _=>simp[eY]at hx
 | .an1 t k,c,v,x,hv,hx,_=>by
  cases c with
  | own id=>
   simp only[eY]at hx;split at hx
   ·rename_i t' k' ys hid;split at hx
    ·rename_i ht;obtain rfl:=aI ht;obtain⟨e1,rfl⟩:=gW hx;subst e1;obtain⟨h1,h2,h3⟩:=ZX R hv.ar0 hid;exact⟨[(v,ys.length)],⟨rfl,h1,h3.imm R.hM⟩,by simp[kD,h2]⟩
    ·cases hx
   ·cases hx
  | _=>simp[eY]at hx
 | .abx t k,c,v,x,hv,hx,_=>by
  cases c with
  | ptr id z i o=>
   cases i<;>cases o<;>simp only[eY]at hx<;>first | (cases hx;done) | skip
   split at hx
   ·rename_i t' k' ys hid;split at hx
    ·rename_i ht;simp only[auF]at ht;obtain rfl:=aI ht.1;obtain⟨e1,rfl⟩:=gW hx;subst e1;have hv:=hv.aqP;cases hv with
     | @ptr _ _ _ _ hd n b f h1 ha hi=>
      obtain⟨b',us,k1,k2,k3,k4,k5⟩:=R.hs.aoq id _ hid;rw[h1]at k1;cases k1;cases ha;have e0:0 * z=0:=azl z;refine⟨[(.pointer (some ⟨b,0,none⟩),ys.length)],⟨?_,hi,b,us, ?_,k2,k3,k4,fun β' hβ' i x j c u a1 a2 a3=>(k5 i x j c u a1 a2 a3).aqQ (fL k' x a2) R.hM β' hβ'⟩,by simp[kD,h1]⟩
      ·simp
      ·simp
    ·cases hx
   ·cases hx
  | _=>simp[eY]at hx
 | .arr k,c,v,x,hv,hx,_=>by
  cases c with
  | arr k' xs=>
   obtain⟨e1,rfl⟩:=gW (show CE k' k xs=some x from hx);subst e1;obtain⟨us,k1,k2,k3⟩:=hv;exact⟨[],⟨rfl,fun β' hβ'=>⟨us,k1,k2,fun i x j c u a1 a2 a3=>(k3 i x j c u a1 a2 a3).aqQ (fL k' x a2) R.hM β' hβ'⟩⟩,rfl⟩
  | _=>simp[eY]at hx
 | .same t,c,v,x,hv,hx,_=>by
  cases c with
  | ptr id z i o=>
   cases i<;>cases o<;>simp only[eY]at hx<;>first | (cases hx;done) | skip
   split at hx
   ·rename_i id' z' hE;split at hx
    ·rename_i hid;obtain rfl:=aI hid;have h2:=R.hE t _ _ hE;rw[hE]at h2;have h2:=h2.aqP;have h1:=hv.aqP;refine⟨[],⟨rfl, ?_,h1.one⟩,rfl⟩;generalize e t=v2 at h2;cases h1 with
     | ptr a1 a2 a3=>
      cases h2 with
      | ptr b1 b2 b3=>
       rw[a1]at b1;cases b1;rw[a2]at b2;cases b2;simp
    ·cases hx
   ·cases hx
  | _=>simp[eY]at hx
 | .agg l,c,v,x,hv,hx,hf=>by
  cases c with
  | agg cs=>
   obtain⟨us,rfl,hr⟩:=hv;obtain⟨os,h1,h2⟩:=Ov R l cs us x hr hx hf;exact⟨os,⟨us,rfl,h1⟩,h2⟩
  | _=>simp[eY]at hx
 | .box t l,c,v,x,hv,hx,hf=>by
  cases c with
  | ptr id z i o=>
   cases i<;>cases o<;>simp only[eY]at hx<;>first | (cases hx;done) | skip
   split at hx
   ·rename_i t' cs hid;split at hx
    ·rename_i ht;obtain rfl:=aI ht;have hv:=hv.aqP;cases hv with
     | @ptr _ _ _ _ hd n b f h1 ha hi=>
      obtain⟨b',us,k1,k2,k3⟩:=R.hs.aoq id _ hid;rw[h1]at k1;cases k1;cases ha;obtain⟨os,j1,j2⟩:=Ov R l cs us.toList x k3 hx (by simpa only[lG,hid] using hf);refine⟨os++[(.pointer (some ⟨b,0,none⟩),1)],⟨b,us,os,by simp,k2,j1,by simp⟩, ?_⟩;have:kD H (.box t l) (.ptr id z 0 0)=cn H l cs++[id]:=by simp only[kD,hid]
      rw[this];simp only[bX,awr]at j2 ⊢;rw[j2];simp[h1]
    ·cases hx
   ·cases hx
  | _=>simp[eY]at hx
theorem Ov (R:aqg B β H w M E e): ∀ (l:List Sh) (cs:List AV) (us:List Value) (x:LTs l),RL (RC w β) cs us→rV E H l cs=some x→ZF β M (eX H l cs)→
  ∃ os,an3 B.P w M e l x us os∧bX os=bX ((cn H l cs).filterMap β)
 | [],[],us,x,hr,hx,_=>⟨[],⟨hr.of_nil,rfl⟩,rfl⟩
 | [],_::_,us,x,hr,hx,_=>by cases hx
 | _::_,[],us,x,hr,hx,_=>by cases hx
 | h::l,c::cs,us,x,hr,hx,hf=>by
  obtain⟨u,us',rfl,h1,h2⟩:=hr.anH;obtain⟨x1,e1,hx⟩:=auI.1 hx;obtain⟨x2,e2,hx⟩:=auI.1 hx;cases hx;obtain⟨o1,j1,j2⟩:=TM R h c u x1 (R1.aoL h1) e1 (fun i hi=>hf i (auT _ hi));obtain⟨o2,j3,j4⟩:=Ov R l cs us' x2 h2 e2 (fun i hi=>hf i (auY _ hi));refine⟨o1++o2,⟨u,us',o1,o2,rfl,rfl,j1,j3⟩, ?_⟩;simp only[bX,awr,cn]at j2 j4 ⊢;rw[j2,j4]
end
def C3(R:aqg B β H w M E e): ∀ (l:List Sh) (cs:List AV) (us:List Value) (x:LTs l),RL (R1 w β) cs us→rV E H l cs=some x→ZF β M (eX H l cs)→
  ∃ os,an3 B.P w M e l x us os∧bX os=bX ((cn H l cs).filterMap β)
 | [],[],us,x,hr,hx,_=>⟨[],⟨hr.of_nil,rfl⟩,rfl⟩
 | [],_::_,us,x,hr,hx,_=>by cases hx
 | _::_,[],us,x,hr,hx,_=>by cases hx
 | h::l,c::cs,us,x,hr,hx,hf=>by
  obtain⟨u,us',rfl,h1,h2⟩:=hr.anH;obtain⟨x1,e1,hx⟩:=auI.1 hx;obtain⟨x2,e2,hx⟩:=auI.1 hx;cases hx;obtain⟨o1,j1,j2⟩:=TM R h c u x1 h1 e1 (fun i hi=>hf i (auT _ hi));obtain⟨o2,j3,j4⟩:=C3 R l cs us' x2 h2 e2 (fun i hi=>hf i (auY _ hi));refine⟨o1++o2,⟨u,us',o1,o2,rfl,rfl,j1,j3⟩, ?_⟩;simp only[bX,awr,cn]at j2 j4 ⊢;rw[j2,j4]
end
end Go.VS
namespace Go.VS
open Go
section
variable {P:Program} {β:Beta} {H:Hp} {w:World} {M:Nat→Prop} {E:Nat→AV} {e:Nat→Value} {b:Nat}
def apt(P:Program)(w:World)(β:Beta)(H H':Hp)(b n:Nat):Prop:=
 (∀ j,j < b∨b+n≤j→H' j=H j)∧(∀ j,b≤j→j < b+n→ ∃ ob,H' j=some ob∧aoo P w β j ob)
def apt.nil:apt P w β H H b 0:=⟨fun _ _=>rfl,fun j h1 h2=>by omega⟩
def apt.one{ob:Ob}(h:aoo P w β b ob):apt P w β H (upd H b (some ob)) b 1:=by
 refine⟨fun j hj=>aM _ _ (by omega),fun j h1 h2=> ?_⟩;have:j=b:=by omega
 subst this;exact⟨ob,aD _ _ _,h⟩
def apt.trans{H' H'':Hp}{n m:Nat}(h:apt P w β H H' b n)(k:apt P w β H' H'' (b+n) m):apt P w β H H'' b (n+m):=by
 refine⟨fun j hj=> ?_,fun j h1 h2=> ?_⟩
 ·rw[k.1 j (by omega),h.1 j (by omega)]
 ·by_cases e:j < b+n
  ·obtain⟨ob,k1,k2⟩:=h.2 j h1 e;exact⟨ob,by rw[k.1 j (.inl e)];exact k1,k2⟩
  ·exact k.2 j (by omega) (by omega)
def Num(β:Beta)(b:Nat)(os:List (Value×Nat)):Prop:= ∀ i p,os[i]? =some p→β (b+i)=some p
def Num.left{o1 o2:List (Value×Nat)}(h:Num β b (o1++o2)):Num β b o1:=fun i p hp=>h i p (by
 rw[avQ (auR.1 hp).1];exact hp)
def Num.right{o1 o2:List (Value×Nat)}(h:Num β b (o1++o2)):Num β (b+o1.length) o2:=fun i p hp=>by
 have:=h (o1.length+i) p (by rw[avl (by omega)];simpa using hp);rw[avI];exact this
def Num.one{p:Value×Nat}{os:List (Value×Nat)}(h:Num β b (os++[p])):β (b+os.length)=some p:=by
 have:=h.right 0 p rfl;simpa using this
def WU(w:World)(β:Beta)(E:Nat→AV)(e:Nat→Value)(ts:List Nat):Prop:= ∀ t∈ts,R1 w β (E t) (e t)
def R1.atu{c:AV}{v:Value}(h:R1 w β c v)(h1:v.oneCell'=true):RC w β c v:=by
 cases c with
 | un=>exact .un h1
 | lit v'=>have:=h.lits;subst this;exact .lit h1
 | sl k xs=>exact h
 | own id=>exact h
 | ptr a b c d=>exact h
 | ipt a b c=>exact h
 | arr k xs=>obtain⟨us,rfl,_⟩:=h;cases h1
 | agg cs=>obtain⟨us,rfl,_⟩:=h;cases h1
 | tup vs=>exact h.elim
 | gd a b c=>exact h.elim
mutual
theorem aeQ (hM: ∀ b,MZ β b→M b): ∀ (h:Sh) (H:Hp) (b:Nat) (x:LT h) (v:Value) (os:List (Value×Nat)),tv h=true→Rel P w M e h x v os→Num β b os→WU w β E e (LU h)→
  RC w β (cY E H b h x).1 v∧(cY E H b h x).2.2=b+os.length∧apt P w β H (cY E H b h x).2.1 b os.length
 | .int k,H,b,x,v,os,_,hr,_,_=>by obtain⟨rfl,rfl⟩:=hr;exact⟨.lit rfl,rfl,.nil⟩
 | .bool,H,b,x,v,os,_,hr,_,_=>by obtain⟨rfl,rfl⟩:=hr;exact⟨.lit rfl,rfl,.nil⟩
 | .str,H,b,x,v,os,_,hr,_,_=>by obtain⟨rfl,rfl⟩:=hr;exact⟨.lit rfl,rfl,.nil⟩
 | .sl k,H,b,x,v,os,_,hr,_,_=>by obtain⟨h1,rfl⟩:=hr;exact⟨h1 β hM,rfl,.nil⟩
 | .fz k,H,b,x,v,os,_,hr,_,_=>by obtain⟨h1,rfl⟩:=hr;exact⟨h1 β hM,rfl,.nil⟩
 | .row t k,H,b,x,v,os,_,hr,hn,_=>by
  obtain⟨rfl,h1,h2⟩:=hr;have hb:β b=some (v,x.length):=hn.one (os:=[]);exact⟨.own hb h1,rfl,.one ⟨v,hb,h2 β hM⟩⟩
 | .an1 t k,H,b,x,v,os,_,hr,hn,_=>by
  obtain⟨rfl,h1,h2⟩:=hr;have hb:β b=some (v,x.length):=hn.one (os:=[]);exact⟨.own hb h1,rfl,.one ⟨v,hb,h2 β hM⟩⟩
 | .abx t k,H,b,x,v,os,_,hr,hn,_=>by
  obtain⟨rfl,h1,bb,us,rfl,h3,h4,h5,h6⟩:=hr;have hb:β b=some (.pointer (some ⟨bb,0,none⟩),x.length):=hn.one (os:=[]);refine⟨?_,rfl,.one ⟨bb,us,hb,h3,h4,h5,h6 β hM⟩⟩;have:=RC.ptr (w:=w) (sz:=ks k) (o:=0) hb (rfl:adr (.pointer (some ⟨bb,0,none⟩))=some ⟨bb,0,none⟩) (i:=0) (by omega);show RC w β (.ptr b (ks k) 0 0) _;simpa using this
 | .arr _,_,_,_,_,_,h,_,_,_=>by simp[tv]at h
 | .agg _,_,_,_,_,_,h,_,_,_=>by simp[tv]at h
 | .same t,H,b,x,v,os,_,hr,_,hs=>by
  obtain⟨rfl,rfl,h1⟩:=hr;refine⟨?_,rfl,.nil⟩;exact(hs t (by simp[LU])).atu h1
 | .box t l,H,b,x,v,os,hl,hr,hn,hs=>by
  obtain⟨bb,us,os',rfl,h2,h3,rfl⟩:=hr;have un:cY E H b (.box t l) x=(match aC E H b l x with | (cs,H,b)=>(AV.ptr b cs.length 0 0,upd H b (some (.box t cs)),b+1)):=rfl;obtain⟨k1,k2,k3⟩:=Mi hM l H b x us.toList os' (by simpa[tv] using hl) h3 hn.left (by simpa[LU] using hs);rw[un];generalize aC E H b l x=r at *;obtain⟨cs,H',b'⟩:=r;simp only at k1 k2 k3;subst k2;have hb:=hn.one;refine⟨?_,by simp[avI], ?_⟩
  ·have:=RC.ptr (w:=w) (sz:=cs.length) (o:=0) hb (rfl:adr (.pointer (some ⟨bb,0,none⟩))=some ⟨bb,0,none⟩) (i:=0) (by omega);simpa using this
  ·rw[auP];exact k3.trans (.one ⟨bb,us,hb,h2,k1⟩)
theorem Mi (hM: ∀ b,MZ β b→M b): ∀ (l:List Sh) (H:Hp) (b:Nat) (x:LTs l) (us:List Value) (os:List (Value×Nat)),xv l=true→an3 P w M e l x us os→Num β b os→WU w β E e (rS l)→
  RL (RC w β) (aC E H b l x).1 us∧(aC E H b l x).2.2=b+os.length∧apt P w β H (aC E H b l x).2.1 b os.length
 | [],H,b,x,us,os,_,hr,_,_=>by obtain⟨rfl,rfl⟩:=hr;exact⟨.nil,rfl,.nil⟩
 | h::l,H,b,x,us,os,hl,hr,hn,hs=>by
  obtain⟨u,us',o1,o2,rfl,rfl,h1,h2⟩:=hr;simp only[xv,auF]at hl;have un:aC E H b (h::l) x=(match cY E H b h x.1 with | (c,H,b)=>match aC E H b l x.2 with | (cs,H,b)=>(c::cs,H,b)):=rfl;obtain⟨k1,k2,k3⟩:=aeQ hM h H b x.1 u o1 hl.1 h1 hn.left (fun t ht=>hs t (auT _ ht));rw[un];generalize cY E H b h x.1=r at *;obtain⟨c,H',b'⟩:=r;simp only at k1 k2 k3 ⊢;subst k2;obtain⟨j1,j2,j3⟩:=Mi hM l H' (b+o1.length) x.2 us' o2 hl.2 h2 hn.right (fun t ht=>hs t (auY _ ht));generalize aC E H' (b+o1.length) l x.2=r at *;obtain⟨cs,H'',b''⟩:=r;simp only at j1 j2 j3 ⊢;subst j2;refine⟨.cons k1 j1,by simp[avI], ?_⟩;rw[auP];exact k3.trans j3
end
def aeP(hM: ∀ b,MZ β b→M b)(h:Sh)(H:Hp)(b:Nat)(x:LT h)(v:Value)(os:List (Value×Nat))(ht:al9 h=true)(hr:Rel P w M e h x v os)(hn:Num β b os)(hs:WU w β E e (LU h)):
  R1 w β (cY E H b h x).1 v∧(cY E H b h x).2.2=b+os.length∧apt P w β H (cY E H b h x).2.1 b os.length:=by
 by_cases hh:tv h=true
 ·obtain⟨h1,h2,h3⟩:=aeQ hM h H b x v os hh hr hn hs;exact⟨.aoL h1,h2,h3⟩
 ·cases h<;>first | (exact absurd ht hh;done) | skip
  case agg l=>
   obtain⟨us,rfl,h1⟩:=hr;have un:cY E H b (.agg l) x=(match aC E H b l x with | (cs,H,b)=>(AV.agg cs,H,b)):=rfl;obtain⟨k1,k2,k3⟩:=Mi hM l H b x us os ht h1 hn hs;rw[un];generalize aC E H b l x=r at *;obtain⟨cs,H',b'⟩:=r;exact⟨⟨us,rfl,k1⟩,k2,k3⟩
  case arr k=>
   obtain⟨rfl,h1⟩:=hr;exact⟨h1 β hM,rfl,.nil⟩
def Mh(hM: ∀ b,MZ β b→M b): ∀ (l:List Sh) (H:Hp) (b:Nat) (x:LTs l) (us:List Value) (os:List (Value×Nat)),Fe l=true→an3 P w M e l x us os→Num β b os→WU w β E e (rS l)→
  RL (R1 w β) (aC E H b l x).1 us∧(aC E H b l x).2.2=b+os.length∧apt P w β H (aC E H b l x).2.1 b os.length
 | [],H,b,x,us,os,_,hr,_,_=>by obtain⟨rfl,rfl⟩:=hr;exact⟨.nil,rfl,.nil⟩
 | h::l,H,b,x,us,os,hl,hr,hn,hs=>by
  obtain⟨u,us',o1,o2,rfl,rfl,h1,h2⟩:=hr;simp only[Fe,auF]at hl;have un:aC E H b (h::l) x=(match cY E H b h x.1 with | (c,H,b)=>match aC E H b l x.2 with | (cs,H,b)=>(c::cs,H,b)):=rfl;obtain⟨k1,k2,k3⟩:=aeP hM h H b x.1 u o1 hl.1 h1 hn.left (fun t ht=>hs t (auT _ ht));rw[un];generalize cY E H b h x.1=r at *;obtain⟨c,H',b'⟩:=r;simp only at k1 k2 k3 ⊢;subst k2;obtain⟨j1,j2,j3⟩:=Mh hM l H' (b+o1.length) x.2 us' o2 hl.2 h2 hn.right (fun t ht=>hs t (auY _ ht));generalize aC E H' (b+o1.length) l x.2=r at *;obtain⟨cs,H'',b''⟩:=r;simp only at j1 j2 j3 ⊢;subst j2;refine⟨.cons k1 j1,by simp[avI], ?_⟩;rw[auP];exact k3.trans j3
end
end Go.VS
namespace Go.VS
open Go
def C8: ∀ {l:List Nat},QC l=true→l.Nodup
 | [],_=>List.nodup_nil
 | a::l,h=>by
  simp only[QC,auF,avw]at h;refine aw0.2 ⟨fun hm=> ?_,C8 h.2⟩;have:(l.any fun b=>auW a b)=true:=awL.2 ⟨a,hm,by simp⟩;rw[this]at h;cases h.1
def abP{l m:List Nat}(h:off l m=true): ∀ a∈l,a ∉ m:=fun a ha hm=>by
 have h1:=avn.1 h a ha;have:(m.any fun b=>auW a b)=true:=awL.2 ⟨a,hm,by simp⟩;rw[this]at h1;cases h1
section
variable {B:anT} {β β':Beta} {H H':Hp} {w w':World} {M:Nat→Prop} {E:Nat→AV} {e:Nat→Value} {stk:List (Array Value)} {s s':S} {a:Act}
def tD{ids:List Nat}{b:Nat}(h:b∈bX (ids.filterMap β)): ∃ i∈ids,∃ p a,β i=some p∧adr p.1=some a∧a.block=b:=by
 obtain⟨p,hp,hb⟩:=avU.1 h;obtain⟨i,hi,hβ⟩:=avU.1 hp;obtain⟨a,ha,e⟩:=avc.1 hb;exact⟨i,hi,p,a,hβ,ha,e⟩
def DQ(hH:Hs B β H w): ∀ {ids:List Nat},ids.Nodup→(bX (ids.filterMap β)).Nodup
 | [],_=>List.nodup_nil
 | i::ids,h=>by
  obtain⟨h1,h2⟩:=aw0.1 h;have ih:=DQ hH h2;cases hβ:β i with
  | none=>simpa[hβ] using ih
  | some p=>
   cases hb:xf p with
   | none=>simpa[hβ,hb] using ih
   | some b=>
    simp only[bX,ayr,hβ,hb];refine aw0.2 ⟨fun hm=> ?_,ih⟩;obtain⟨j,hj,q,a',hq,ha',e'⟩:=tD hm;obtain⟨a,ha,e⟩:=avc.1 hb;have:=hH.inj i j p q a a' hβ hq ha ha' (by rw[e,e']);subst this;exact h1 hj
def N9{ids:List Nat}{b:Nat}(h:b∈bX (ids.filterMap β)):MB β b:=by
 obtain⟨i,_,p,a,h1,h2,h3⟩:=tD h;exact⟨i,p.1,p.2,a,h1,h2,h3⟩
abbrev MO(B:anT)(l:List Nat)(b:Nat):Prop:=b∈l∨B.Z b
def al1(hH:Hs B β H w){ids:List Nat}{b:Nat}(h:MO B (bX (ids.filterMap β)) b):MZ β b:=by
 rcases h with h | h
 ·exact .inl (N9 h)
 ·exact .inr (by rw[hH.z];exact h)
def Vh(hH:Hs B β H w){fz ids:List Nat}(h:off fz ids=true):ZF β (MO B (bX (ids.filterMap β))) fz:=by
 intro i hi p a hp ha hm;rcases hm with hm | hm
 case inr=>rw[← hH.z]at hm;exact hH.zn i p a hp ha hm
 obtain⟨j,hj,q,a',hq,ha',e⟩:=tD hm;have:=hH.inj i j p q a a' hp hq ha ha' e.symm;subst this;exact abP h i hi hj
def Kj(Z:Nat→Prop)(os:List (Value×Nat)):Beta:=⟨fun i=>os[i]?, Z⟩
def TZ(Z:Nat→Prop)(os:List (Value×Nat)):Num (Kj Z os) 0 os:=fun i p h=>by rw[avV];exact h
def zL{Z:Nat→Prop}{os:List (Value×Nat)}{b:Nat}(h:MB (Kj Z os) b):b∈bX os:=by
 obtain⟨i,hd,n,a,h1,h2,h3⟩:=h;exact avU.2 ⟨(hd,n),au8 h1,by simp[xf,h2,h3]⟩
def aag{os:List (Value×Nat)}{b:Nat}(h:MZ (Kj B.Z os) b):MO B (bX os) b:=h.imp zL fun h=>h
def Me{os:List (Value×Nat)}(h:(bX os).Nodup): ∀ (i j:Nat) (p q:Value×Nat) (a a':Addr),os[i]? =some p→os[j]? =some q→adr p.1=some a→adr q.1=some a'→a.block=a'.block→i=j:=by
 induction os with
 | nil=>intro i j p q a a' hi;simp at hi
 | cons x os ih=>
  have hx: ∀ {p:Value×Nat} {a:Addr},adr p.1=some a→xf p=some a.block:=fun h=>by simp[xf,h]
  have ih':(bX os).Nodup:=by
   cases hb:xf x with
   | none=>simpa[hb] using h
   | some b=>simp only[bX,ayr,hb]at h;exact(aw0.1 h).2
  have apS: ∀ (j:Nat) (q:Value×Nat) (a a':Addr),os[j]? =some q→adr x.1=some a→adr q.1=some a'→a.block=a'.block→False:=by
   intro j q a a' hj ha ha' e;simp only[bX,ayr,hx ha]at h;refine(aw0.1 h).1 (avU.2 ⟨q,au8 hj, ?_⟩);rw[hx ha',e]
  intro i j p q a a' hi hj ha ha' e;cases i with
  | zero=>
   simp at hi;subst hi;cases j with
   | zero=>rfl
   | succ j=>simp at hj;exact(apS j q a a' hj ha ha' e).elim
  | succ i=>
   simp at hi;cases j with
   | zero=>simp at hj;subst hj;exact(apS i p a' a hi ha' ha e.symm).elim
   | succ j=>simp at hj;rw[ih ih' i j p q a a' hi hj ha ha' e]
def Hs.arV(hH:Hs B β H w){os:List (Value×Nat)}(hn:(bX os).Nodup)(hb: ∀ b∈bX os,MB β b)(hm:apt B.P w (Kj B.Z os) (fun _=>none) H' 0 os.length):Hs B (Kj B.Z os) H' w where
 aoq id ob ho:=by
  by_cases h:id < os.length
  ·obtain⟨ob',h1,h2⟩:=hm.2 id (avM _) (by omega);rw[h1]at ho;cases ho;exact h2
  ·rw[hm.1 id (by omega)]at ho;cases ho
 dom id p hp:=by
  have h:id < os.length:=(auR.1 (show os[id]? =some p from hp)).1;obtain⟨ob',h1,_⟩:=hm.2 id (avM _) (by omega);exact⟨ob',h1⟩
 inj i j p q a a' hi hj:=Me hn i j p q a a' hi hj
 old b h:=hH.old b (hb b (zL h))
 os:=hH.os
 tape:=hH.tape
 output:=hH.output
 size:=hH.size
 block:=hH.block
 z:=rfl
 zn id p a hp ha hz:=by
  have hb:=hb a.block (avU.2 ⟨p,au8 hp,by simp[xf,ha]⟩);obtain⟨j,hd,n,a',h1,h2,h3⟩:=hb;refine hH.zn j _ a' h1 h2 ?_;rw[h3,hH.z];exact hz
 zl b h:=hH.zl b (by rw[hH.z];exact h)
 pk:=hH.pk
def TN{E:Nat→AV}{h:Sh}{c:AV}{x:LT h}(hx:eY E H h c=some x):(∀ g w v,c≠ .gd g w v)∧ ∀ vs,c≠ .tup vs:=by
 constructor
 ·rintro g w v rfl;cases h<;>simp[eY,iT]at hx
 ·rintro vs rfl;cases h<;>simp[eY,iT]at hx
def RT.apZ{tm:Nat→Value}{c:AV}{v:Value}(h:RT w β tm c v)(h1: ∀ g w v,c≠ .gd g w v)(h2: ∀ vs,c≠ .tup vs):R1 w β c v:=by
 cases c<;>first | exact h | exact absurd rfl (h1 _ _ _) | exact absurd rfl (h2 _)
def Qz{tm:Nat→Value}{T:Nat→AV}(R:aqg B β H w M T tm)(hT: ∀ t,RT w β tm (T t) (tm t)): ∀ (c:Sch) (x:Lv c),ZZ H T c=some x→ZF β M (aaE H T c)→
  ∃ os,an3 B.P w M tm (c.map (·.2)) x (c.map fun p=>tm p.1) os∧bX os=bX ((Du H T c).filterMap β)
 | [],x,hx,_=>⟨[],⟨rfl,rfl⟩,rfl⟩
 | (t,h)::c,x,hx,hf=>by
  obtain⟨x1,e1,hx⟩:=auI.1 hx;obtain⟨x2,e2,hx⟩:=auI.1 hx;cases hx;obtain⟨p1,p2⟩:=TN e1;obtain⟨o1,j1,j2⟩:=TM R h (T t) (tm t) x1 ((hT t).apZ p1 p2) e1 (fun i hi=>hf i (auT _ hi));obtain⟨o2,j3,j4⟩:=Qz R hT c x2 e2 (fun i hi=>hf i (auY _ hi));refine⟨o1++o2,⟨tm t,c.map fun p=>tm p.1,o1,o2,rfl,rfl,j1,j3⟩, ?_⟩;simp only[bX,awr,Du]at j2 j4 ⊢;rw[j2,j4]
def Uk{P:Program}{tm:Nat→Value}(hM: ∀ b,MZ β b→M b): ∀ (c:Sch) (T:Nat→AV) (H:Hp) (b:Nat) (x:Lv c) (os:List (Value×Nat)),Fe (c.map (·.2))=true→an3 P w M tm (c.map (·.2)) x (c.map fun p=>tm p.1) os→Num β b os→(∀ t,R1 w β (T t) (tm t))→
  (∀ t,R1 w β ((xm T H b c x).1 t) (tm t))∧(xm T H b c x).2.2=b+os.length∧apt P w β H (xm T H b c x).2.1 b os.length
 | [],T,H,b,x,os,_,hr,_,hT=>by obtain⟨_,rfl⟩:=hr;exact⟨hT,rfl,.nil⟩
 | (t,h)::c,T,H,b,x,os,hl,hr,hn,hT=>by
  obtain⟨u,us',o1,o2,e1,rfl,h1,h2⟩:=hr;simp only[avJ,axx]at e1;obtain⟨rfl,rfl⟩:=e1;simp only[avJ,Fe,auF]at hl;have un:xm T H b ((t,h)::c) x=(match cY T H b h x.1 with | (v,H,b)=>xm (upd T t v) H b c x.2):=rfl;obtain⟨k1,k2,k3⟩:=aeP (E:=T) hM h H b x.1 (tm t) o1 hl.1 h1 hn.left (fun t' _=>hT t');rw[un];generalize cY T H b h x.1=r at *;obtain⟨v,H',b'⟩:=r;simp only at k1 k2 k3 ⊢;subst k2;obtain⟨j1,j2,j3⟩:=Uk hM c (upd T t v) H' (b+o1.length) x.2 o2 hl.2 h2 hn.right (fun t'=>by
   by_cases e:t'=t
   ·subst e;rw[aD];exact k1
   ·rw[aM _ _ e];exact hT t')
  refine⟨j1,by rw[j2];simp[avI], ?_⟩;rw[auP];exact k3.trans j3
def R1.arw{tm:Nat→Value}{c:AV}{v:Value}(h:R1 w β c v):RT w β tm c v:= .ao3 (.ao4 h)
def St.join(hst:St B β stk s a w){c:Sch}{x:Lv c}(hx:rdS c s=some x):stk=[]∧ ∃ β',St B β' [] (mkS s.n s.pins c x) a w∧Fr (mkS s.n s.pins c x)∧(mkS s.n s.pins c x).n=s.n∧(mkS s.n s.pins c x).pins=s.pins:=by
 unfold rdS at hx;split at hx
 ·rename_i hs hnd hok;have aqR:stk=[]:=by
   have:=hst.stack.1;rw[hs]at this;exact avi this
  refine⟨aqR, ?_⟩;simp only[auF]at hnd;simp only[alR,auF]at hok;have R:aqg B β s.H w (MO B (bX ((Du s.H s.T c).filterMap β))) s.T (dW a):={
   hs:=hst.hs
   hM:=fun b hb=>al1 hst.hs hb
   hE:=fun t id z e=>(hst.T t).apZ (by rw[e];simp) (by rw[e];simp) }
  obtain⟨os,h1,h2⟩:=Qz R hst.T c x hx (Vh hst.hs hnd.2);have arD:(bX os).Nodup:=by rw[h2];exact DQ hst.hs (C8 hnd.1)
  have hMB: ∀ b∈bX os,MB β b:=fun b hb=>by rw[h2]at hb;exact N9 hb
  obtain⟨k1,k2,k3⟩:=Uk (β:=Kj B.Z os) (P:=B.P) (w:=w) (M:=MO B (bX ((Du s.H s.T c).filterMap β))) (tm:=dW a) (fun b hb=>by have:=aag hb;rw[h2]at this;exact this) c (fun _=> .un) (fun _=>none) 0 x os hok.1.2 h1 (TZ B.Z os) (fun _=>trivial);have un:mkS s.n s.pins c x=(match xm (fun _=> .un) (fun _=>none) 0 c x with
   | (T,H,b)=>{ n:=s.n,T:=T,H:=H,nid:=b,st:=[],pins:=s.pins,gs:=fun _=>false }):=rfl
  rw[un];generalize xm (fun _=> .un) (fun _=>none) 0 c x=r at *;obtain⟨T,H',b⟩:=r;simp only at k1 k2 k3;have hH:=hst.hs.arV arD hMB k3;refine⟨Kj B.Z os,⟨fun t=>(k1 t).arw,⟨rfl,fun i T' tm h=>by simp at h⟩,hst.n,hst.defers,hst.pins,fun t g want y hy=> ?_,hH⟩,fun j hj=> ?_,rfl,rfl⟩
  ·have:=k1 t;have hy:T t= .gd g want y:=hy;rw[hy]at this;exact this.elim
  ·exact k3.1 j (.inr (by have hj:b≤j:=hj;omega))
 ·cases hx
end
end Go.VS
namespace Go.VS
open Go
structure KOK {Ω:Type} (B:anT) (stk:List (Array Value)) (n:Nat) (pins:List Nat) (k:Kt Ω) (q:Ω) (Q:Exit→Act→World→Prop):Prop where
 nrm: ∀ β a w s,St B β stk s a w→Fr s→s.n=n→s.pins=pins→k.nrm s=some q→Q .normal a w
 ret: ∀ β a w s,St B β stk s a w→Fr s→s.n=n→s.pins=pins→k.ret s=some q→Q .ret a w
 ext: ∀ id β a w s,St B β stk s a w→Fr s→s.n=n→s.pins=pins→k.ext id s=some q→Q (.exit id) a w
def Hr(B:anT)(n:Nat)(pins:List Nat)(body:Code)(l:Loop):Prop:= ∀ (x:Lv l.sch) (r:Lv l.apz ⊕ Lv l.apA),l.run x=some r→ ∀ (β:Beta) (a:Act) (w:World) (Q:Exit→Act→World→Prop),
 St B β [] (mkS n pins l.sch x) a w→Fr (mkS n pins l.sch x)→
 (∀ y,r= .inl y→ ∀ β a w,St B β [] (mkS n pins l.apz y) a w→Fr (mkS n pins l.apz y)→Q .ret a w)→
 (∀ y,r= .inr y→ ∀ β a w,St B β [] (mkS n pins l.apA y) a w→Fr (mkS n pins l.apA y)→Q (.exit l.xid) a w)→(Code.loop body).wp B.P Q a w
def zd(L:Code→Loop→Prop):Code→Adv→Prop
 | .seq a b,.join _ u v=>zd L a u∧zd L b v
 | .seq a b,v=>zd L a v.a∧zd L b v.z
 | .cond _ x y,v=>zd L x v.a∧zd L y v.z
 | .block _ c,v=>zd L c v.a
 | .loop c,.loop l=>L c l
 | _,_=>True
def dq(L:Code→Loop→Prop): ∀ c:Code,zd L c .nil
 | .seq a b=>⟨dq L a,dq L b⟩
 | .cond _ x y=>⟨dq L x,dq L y⟩
 | .block _ c=>dq L c
 | .skip=>trivial
 | .region _ _ _=>trivial
 | .loop _=>trivial
 | .exit _=>trivial
 | .ret=>trivial
 | .rangeFunc _ _ _ _=>trivial
 | .scope _=>trivial
 | .label _=>trivial
 | .goto _=>trivial
 | .refuse _=>trivial
section
variable {C:Cx} {B:anT} {inl:(Ω:Type)→Inl Ω}
def HT(hP:C.P=B.P)(hm:B.P.follows .mixedOrders=true)(hC:oW C B)(hI:EQ C B inl): ∀ (c:Code) {Ω:Type} (v:Adv) (k:Kt Ω) (s:S) (q:Ω) {β:Beta} {stk:List (Array Value)} {a:Act} {w:World} {Q:Exit→Act→World→Prop},
  evk C inl c Ω v k s=some q→St B β stk s a w→Fr s→zd (Hr B s.n s.pins) c v→KOK B stk s.n s.pins k q Q→c.wp B.P Q a w:=by
 intro c
 induction c with
 | skip=>exact fun v k s q β stk a w Q he hst hfr _ hk=>wp_skip (hk.nrm _ _ _ _ hst hfr rfl rfl he)
 | region id ops draw=>
  intro Ω v k s q β stk a w Q he hst hfr _ hk;cases draw with
  | false=>exact QM hP hC hI (show Vq C (inl Ω) ops ops.toList s k.nrm=some q from he) hfr hst fun β a w s' h1 h2 h3 h4 h5=>hk.nrm β a w s' h1 h2 h3 h4 h5
  | true=>
   obtain⟨β1,hs1,_⟩:=St.anY (agk C ops s) hst;have hk1:=anG.anY (N:=fun _=>False) (agk C ops s) (anG.refl _ s);have he:evD C ops ((agk C ops s).foldl S.freeze s) ops.toList 0 s.nid [] ((agk C ops s).foldl S.freeze s) k.nrm=some q:=he;rw[← hk1.nid]at he;exact ag9 hP hm hC he (fun j hj=>hk1.nn j (fun h=>h) (hfr j (by rw[hk1.nid]at hj;exact hj))) hs1 fun β a w s' h1 h2 h3 h4 h5=>hk.nrm β a w s' h1 h2 (h3.trans hk1.n) (h4.trans hk1.pins) h5
 | seq x y ihx ihy=>
  intro Ω v k s q β stk a w Q he hst hfr aoS hk;refine wp_seq ?_;by_cases hj: ∃ c u v',v= .join c u v'
  ·obtain⟨c,u,v',rfl⟩:=hj;obtain⟨ha1,ha2⟩:=aoS;have he:bH (fun x=>evk C inl y Ω v' k (mkS s.n s.pins c x)) (evk C inl x (Ω ⊕ Lv c) u { nrm:=fun s=>(rdS c s).bind fun x=>some (.inr x),ret:=fun s=>(k.ret s).bind fun o=>some (.inl o),ext:=fun j s=>(k.ext j s).bind fun o=>some (.inl o) } s)=some q:=he;obtain⟨r,h1,h2⟩:=auI.1 he;refine ihx u _ s r h1 hst hfr ha1 ⟨?_, ?_, ?_⟩
   ·intro β' a' w' s' k1 k2 k3 k4 k5;obtain⟨z,j1,j2⟩:=auI.1 k5;cases j2;obtain⟨rfl,β2,m1,m2,m3,m4⟩:=k1.join j1;rw[k3,k4]at m1 m2 m3 m4;exact ihy v' k _ q h2 m1 m2 (by rw[m3,m4];exact ha2) (by rw[m3,m4];exact hk)
   ·intro β' a' w' s' k1 k2 k3 k4 k5;obtain⟨o,j1,j2⟩:=auI.1 k5;cases j2;have h2:some o=some q:=h2;cases h2;exact hk.ret _ _ _ _ k1 k2 k3 k4 j1
   ·intro id β' a' w' s' k1 k2 k3 k4 k5;obtain⟨o,j1,j2⟩:=auI.1 k5;cases j2;have h2:some o=some q:=h2;cases h2;exact hk.ext id _ _ _ _ k1 k2 k3 k4 j1
  ·have he:evk C inl x Ω v.a { k with nrm:=evk C inl y Ω v.z k } s=some q:=by
    cases v<;>first | exact he | exact absurd ⟨_,_,_,rfl⟩ hj
   have aoS:zd (Hr B s.n s.pins) x v.a∧zd (Hr B s.n s.pins) y v.z:=by
    cases v<;>first | exact aoS | exact absurd ⟨_,_,_,rfl⟩ hj
   refine ihx v.a _ s q he hst hfr aoS.1 ⟨?_,hk.ret,hk.ext⟩;intro β' a' w' s' k1 k2 k3 k4 k5;exact ihy v.z k s' q k5 k1 k2 (by rw[k3,k4];exact aoS.2) (by rw[k3,k4];exact hk)
 | cond o x y ihx ihy=>
  intro Ω v k s q β stk a w Q he hst hfr aoS hk;have he:(match s.ev o with
   | .lit (.bool b)=>if b then evk C inl x Ω v.a k s else evk C inl y Ω v.z k s
   | _=>none)=some q:=he
  split at he
  ·rename_i b hb;have h1:=hst.eval o;rw[hb]at h1;have h2:a.eval o= .bool b:=h1;refine wp_cond h2 ?_;cases b with
   | true=>exact ihx v.a k s q he hst hfr aoS.1 hk
   | false=>exact ihy v.z k s q he hst hfr aoS.2 hk
  ·cases he
 | block id x ihx=>
  intro Ω v k s q β stk a w Q he hst hfr aoS hk;refine wp_block ?_;have he:evk C inl x Ω v.a { k with ext:=fun j s=>match auW j id with
   | true=>k.nrm s
   | false=>k.ext j s } s=some q:=he
  refine ihx v.a _ s q he hst hfr aoS ⟨hk.nrm,hk.ret, ?_⟩;intro j β' a' w' s' k1 k2 k3 k4 k5;show if j=id then Q .normal a' w' else Q (.exit j) a' w'
  simp only at k5;split at k5
  ·rename_i e;rw[aus (aI e)];exact hk.nrm _ _ _ _ k1 k2 k3 k4 k5
  ·rename_i e;rw[aur (CI e)];exact hk.ext _ _ _ _ _ k1 k2 k3 k4 k5
 | loop body _=>
  intro Ω v k s q β stk a w Q he hst hfr aoS hk;cases v<;>first | (cases he;done) | skip
  rename_i l;have he:((rdS l.sch s).bind fun x=>aK (l.run x) (fun y=>k.ret (mkS s.n s.pins l.apz y)) (fun y=>k.ext l.xid (mkS s.n s.pins l.apA y)))=some q:=he;obtain⟨x,h1,h2⟩:=auI.1 he;obtain⟨r,h3,h4⟩:=auI.1 h2;obtain⟨rfl,β',m1,m2,_,_⟩:=hst.join h1;have aoS:Hr B s.n s.pins body l:=aoS;refine aoS x r h3 β' a w Q m1 m2 ?_ ?_
  ·rintro y rfl β a w k1 k2;exact hk.ret _ _ _ _ k1 k2 (by unfold mkS;rfl) (by unfold mkS;rfl) h4
  ·rintro y rfl β a w k1 k2;exact hk.ext _ _ _ _ _ k1 k2 (by unfold mkS;rfl) (by unfold mkS;rfl) h4
 | exit id=>exact fun v k s q β stk a w Q he hst hfr _ hk=>wp_exit (hk.ext _ _ _ _ _ hst hfr rfl rfl he)
 | ret=>exact fun v k s q β stk a w Q he hst hfr _ hk=>wp_ret (hk.ret _ _ _ _ hst hfr rfl rfl he)
 | _=>
  intro Ω v k s q β stk a w Q he;cases he
def KO(p:Nat→Prop)(h: ∃ n,p n): ∃ n,p n∧ ∀ m,p m→n≤m:=by
 obtain⟨n,hn⟩:=h
 induction n using Nat.strongRecOn with
 | _ n ih=>
  by_cases hm: ∃ m,m < n∧p m
  ·obtain⟨m,h1,h2⟩:=hm;exact ih m h1 h2
  ·exact⟨n,hn,fun m h=>Nat.le_of_not_lt fun hlt=>hm ⟨m,hlt,h⟩⟩
def YX{X Y:Type}{b:X→Option (X ⊕ Y)}{x:X}{y:Y}(h:aV b x=some y): ∃ n,yl b n x=some y:=by
 unfold aV at h;split at h
 ·rename_i hn;have:=av9 (av9 hn);cases h;exact⟨_,this⟩
 ·cases h
def Ky{X Y:Type}{b:X→Option (X ⊕ Y)}: ∀ (n:Nat) (x:X) {y:Y},yl b n x=some y→ ∀ m,n≤m→yl b m x=some y
 | 0,x,y,h=>by cases h
 | n+1,x,y,h=>by
  intro m hm;obtain⟨m,rfl⟩: ∃ k,m=k+1:=⟨m - 1,by omega⟩;obtain⟨r,h1,h2⟩:=auI.1 (show((b x).bind fun r=>match r with
   | .inl y=>yl b n y
   | .inr z=>some z)=some y from h)
  show((b x).bind fun r=>match r with
   | .inl y=>yl b m y
   | .inr z=>some z)=some y
  rw[h1,auE];cases r with
  | inl z=>exact Ky n z h2 m (by omega)
  | inr z=>exact h2
def U2{X Y:Type}{b:X→Option (X ⊕ Y)}{x:X}{y:Y}{n:Nat}(h:yl b n x=some y):aV b x=some y:=by
 have hn: ∃ n y,yl b n x=some y:=⟨n,y,h⟩;unfold aV;rw[dif_pos hn];have h1:=av9 (av9 hn);have h2:=Ky _ _ h (n+axs hn) (by omega);have h3:=Ky _ _ h1 (n+axs hn) (by omega);rw[h2]at h3;exact h3.symm
def adT{X Y:Type}{b:X→Option (X ⊕ Y)}{n:Nat}{x:X}{y:Y}(h:yl b (n+1) x=some y): ∃ r,b x=some r∧(∀ x',r= .inl x'→yl b n x'=some y)∧(∀ z,r= .inr z→z=y):=by
 obtain⟨r,h1,h2⟩:=auI.1 (show((b x).bind fun r=>match r with
   | .inl y=>yl b n y
   | .inr z=>some z)=some y from h)
 refine⟨r,h1, ?_, ?_⟩
 ·rintro x' rfl;exact h2
 ·rintro z rfl;exact avD h2
def akQ(hP:C.P=B.P)(hm:B.P.follows .mixedOrders=true)(hC:oW C B)(hI:EQ C B inl){n:Nat}{pins:List Nat}{body:Code}{v:Adv}{l:Loop}{b:Lv l.sch→Option (Lv l.sch ⊕ (Lv l.apz ⊕ Lv l.apA))}
  (hb: ∀ x,evL C inl n pins body v l x=b x)(hr:l.run=aV b)(aoS:zd (Hr B n pins) body v):Hr B n pins body l:=by
 intro x r an2 β a w Q hst hfr apn at5;rw[hr]at an2;obtain⟨N,hN⟩:=YX an2
 let J:Nat→Act→World→Prop:=fun m a w=> ∃ (x:Lv l.sch) (β:Beta),yl b m x=some r∧St B β [] (mkS n pins l.sch x) a w∧Fr (mkS n pins l.sch x)
 classical
 let μ:Act→World→Nat:=fun a w=>if h: ∃ m,J m a w then axs (KO _ h) else 0
 have hμ: ∀ a w,(h: ∃ m,J m a w)→J (μ a w) a w∧ ∀ m,J m a w→μ a w≤m:=fun a w h=>by
  have:=av9 (KO _ h);simp only[μ,dif_pos h];exact this
 refine wp_loop (fun a w=> ∃ m,J m a w) μ ⟨N,x,β,hN,hst,hfr⟩ ?_;intro a w hJ;obtain⟨⟨x,β,h1,h2,h3⟩,_⟩:=hμ a w hJ;generalize hm':μ a w=m at h1;cases m with
 | zero=>cases h1
 | succ m=>
  obtain⟨r1,k1,k2,k2'⟩:=adT h1;have he:=hb x;rw[k1]at he;unfold evL at he;have en:(mkS n pins l.sch x).n=n:=by unfold mkS;rfl
  have ep:(mkS n pins l.sch x).pins=pins:=by unfold mkS;rfl
  refine HT hP hm hC hI body v _ _ r1 he h2 h3 (by rw[en,ep];exact aoS) ?_;rw[en,ep];refine⟨?_, ?_, ?_⟩
  ·intro β' a' w' s' j1 j2 j3 j4 j5;obtain⟨y,i1,i2⟩:=auI.1 j5;cases i2;obtain⟨_,β2,m1,m2,_,_⟩:=j1.join i1;rw[j3,j4]at m1 m2;have hJ':J m a' w':=⟨y,β2,k2 y rfl,m1,m2⟩;refine⟨⟨m,hJ'⟩, ?_⟩;have:=(hμ a' w' ⟨m,hJ'⟩).2 m hJ';omega
  ·intro β' a' w' s' j1 j2 j3 j4 j5;obtain⟨y,i1,i2⟩:=auI.1 j5;cases i2;obtain⟨_,β2,m1,m2,_,_⟩:=j1.join i1;rw[j3,j4]at m1 m2;have k2:=k2' _ rfl;subst k2;exact apn y rfl _ _ _ m1 m2
  ·intro id β' a' w' s' j1 j2 j3 j4 j5;simp only at j5;split at j5
   ·rename_i hid;obtain rfl:=aI hid;obtain⟨y,i1,i2⟩:=auI.1 j5;cases i2;obtain⟨_,β2,m1,m2,_,_⟩:=j1.join i1;rw[j3,j4]at m1 m2;have k2:=k2' _ rfl;subst k2;exact at5 y rfl _ _ _ m1 m2
   ·cases j5
end
end Go.VS
namespace Go.VS
open Go
def ZL:List Value→Value
 | [v]=>v
 | vs=> .tuple vs.toArray
def pW:List Sh→List Value→List Value
 | .box _ _::ps,v::vs=>v::pW ps vs
 | _::ps,_::vs=>pW ps vs
 | _,_=>[]
def DS(P:Program)(f:FuncId):Prop:= ∀ (args:Array Value) (w:World),(callFunc f args).run P w= .ok (.enter f args) w
def qQ{P:Program}{f:FuncId}{fn:Func}{c:Code}(hf:P.funcs[f]? =some fn)(aoA:(fn.name == "runtime.NumGoroutine")=false)(hb:fn.body=some c):DS P f:=by
 intro args w;have apK: ¬ fn.name= "runtime.NumGoroutine" :=by simpa using aoA
 simp[callFunc,hf,apK,hb]
abbrev ar(args:List Value):Nat→Value:=fun i=>args.getD i undef
structure Ret (P:Program) (m:aoi) (Z:Nat→Prop) (args:List Value) (os:List (Value×Nat)) (w:World) (r:LTs m.rs×LTs (bg m.ps)) (v:Value) (w':World):Prop where
 ex: ∃ vs os1 os2,v=ZL vs∧an3 P w' (fun b=>b∈bX (os1++os2)∨Z b) (ar args) m.rs r.1 vs os1∧an3 P w' (fun b=>b∈bX (os1++os2)∨Z b) (ar args) (bg m.ps) r.2 (pW m.ps args) os2∧
  (bX (os1++os2)).Nodup∧(∀ b∈bX (os1++os2),(b∈bX os∨w.heap.size≤b)∧b < w'.heap.size)
 wos:w'.os=w.os
 tape:w'.tape=w.tape
 output:w'.output=w.output
 size:w.heap.size≤w'.heap.size
 block: ∀ b,b < w.heap.size→b ∉ bX os→w'.heap[b]? =w.heap[b]?
 pk:Pk P w w'
def we(P:Program)(f:FuncId)(m:aoi):Prop:=DS P f∧ ∀ (x:LTs m.ps) (r:LTs m.rs×LTs (bg m.ps)),m.g x=some r→ ∀ (w:World) (Z:Nat→Prop) (args:List Value) (os:List (Value×Nat)),
 an3 P w (fun b=>b∈bX os∨Z b) (ar args) m.ps x args os→(bX os).Nodup→(∀ b∈bX os,b < w.heap.size∧ ¬ Z b)→(∀ b,Z b→b < w.heap.size)→ac2 P w (fun b=>b∈bX os)→
 Calls P f args.toArray w fun en w'=> ∃ v,en= .returned v∧Ret P m Z args os w r v w'
section
variable {C:Cx} {B:anT} {β:Beta} {H:Hp} {w w':World} {M:Nat→Prop} {stk:List (Array Value)} {s s':S} {a:Act} {P:Program} {e e':Nat→Value}
mutual
theorem Rel.congr: ∀ (h:Sh) (x:LT h) (v:Value) (os:List (Value×Nat)),(∀ t∈LU h,e t=e' t)→Rel P w M e h x v os→Rel P w M e' h x v os
 | .int _,_,_,_,_,h=>h
 | .bool,_,_,_,_,h=>h
 | .str,_,_,_,_,h=>h
 | .sl _,_,_,_,_,h=>h
 | .fz _,_,_,_,_,h=>h
 | .row _ _,_,_,_,_,h=>h
 | .an1 _ _,_,_,_,_,h=>h
 | .abx _ _,_,_,_,_,h=>h
 | .arr _,_,_,_,_,h=>h
 | .same t,_,_,_,he,h=>⟨h.1,h.2.1.trans (he t (by simp[LU])),h.2.2⟩
 | .agg l,x,v,os,he,h=>by
  obtain⟨us,h1,h2⟩:=h;exact⟨us,h1,an3.congr l x us os he h2⟩
 | .box t l,x,v,os,he,h=>by
  obtain⟨b,us,os',h1,h2,h3,h4⟩:=h;exact⟨b,us,os',h1,h2,an3.congr l x us.toList os' he h3,h4⟩
theorem an3.congr: ∀ (l:List Sh) (x:LTs l) (us:List Value) (os:List (Value×Nat)),(∀ t∈rS l,e t=e' t)→an3 P w M e l x us os→an3 P w M e' l x us os
 | [],_,_,_,_,h=>h
 | h::l,x,us,os,he,hr=>by
  obtain⟨u,us',o1,o2,h1,h2,h3,h4⟩:=hr;exact⟨u,us',o1,o2,h1,h2,Rel.congr h x.1 u o1 (fun t ht=>he t (auT _ ht)) h3,an3.congr l x.2 us' o2 (fun t ht=>he t (auY _ ht)) h4⟩
end
def an3.length: ∀ {l:List Sh} {x:LTs l} {us:List Value} {os:List (Value×Nat)},an3 P w M e l x us os→us.length=l.length
 | [],_,_,_,h=>by rw[h.1];rfl
 | h::l,x,us,os,hr=>by
  obtain⟨u,us',o1,o2,rfl,_,_,h4⟩:=hr;simp[an3.length h4]
def L5{E:Nat→AV}: ∀ {l:List Sh} {cs:List AV} {x:LTs l},rV E H l cs=some x→cs.length=l.length
 | [],[],_,_=>rfl
 | [],_::_,_,h=>by cases h
 | _::_,[],_,h=>by cases h
 | h::l,c::cs,x,hx=>by
  obtain⟨x1,e1,hx⟩:=auI.1 hx;obtain⟨x2,e2,hx⟩:=auI.1 hx;simp[L5 e2]
def MY: ∀ {l l':List Sh} {cs cs':List AV},cs.length=l.length→cn H (l++l') (cs++cs')=cn H l cs++cn H l' cs'
 | [],l',[],cs',_=>rfl
 | h::l,l',c::cs,cs',hl=>by
  simp only[awM,cn,MY (l:=l) (cs:=cs) (by simpa using hl),au2]
 | [],_,_::_,_,hl=>by simp at hl
 | _::_,_,[],_,hl=>by simp at hl
def M4: ∀ {l l':List Sh} {cs cs':List AV},cs.length=l.length→eX H (l++l') (cs++cs')=eX H l cs++eX H l' cs'
 | [],l',[],cs',_=>rfl
 | h::l,l',c::cs,cs',hl=>by
  simp only[awM,eX,M4 (l:=l) (cs:=cs) (by simpa using hl),au2]
 | [],_,_::_,_,hl=>by simp at hl
 | _::_,_,[],_,hl=>by simp at hl
def TH(tmps:Array Value):ResultVar→Sem Value
 | .tmp t=>pure (tmps.getD t undef)
 | .cell a t=>do loadVar t (← asAddr (tmps.getD a undef))
def LX(hP:P=B.P)(hst:St B β stk s a w): ∀ (l:List ResultVar) {vs:List AV},HA P s l=some vs→
  ∃ us:List Value,(l.mapM (TH a.tmps)).run P w=Result.ok us w∧us.length=vs.length∧ ∀ (i:Nat) (c:AV) (u:Value),vs[i]? =some c→us[i]? =some u→RX w β (dW a) c u
 | [],vs,h=>by
  cases h;exact⟨[],rfl,rfl,fun i c u h=>by simp at h⟩
 | .tmp t::l,vs,h=>by
  obtain⟨vs',h1,h⟩:=auI.1 h;cases h;obtain⟨us,k1,k2,k3⟩:=LX hP hst l h1;refine⟨dW a t::us, ?_,by simp[k2],fun i c u h1 h2=> ?_⟩
  ·simp only[ayv,TH,awb,awp,avP,k1];rfl
  ·cases i with
   | zero=>
    simp at h1 h2;subst h1;subst h2;exact(hst.T t).arv
   | succ i=>exact k3 i c u (by simpa using h1) (by simpa using h2)
 | .cell x t::l,vs,h=>by
  obtain⟨v,h0,h⟩:=auI.1 h;obtain⟨vs',h1,h⟩:=auI.1 h;cases h;obtain⟨us,k1,k2,k3⟩:=LX hP hst l h1;have hx:R2 w β (s.T x) (dW a x):=(hst.T x).arx (by
   cases hT:s.T x<;>first | rfl | (rw[hT]at h0;cases h0))
  obtain⟨u,j1,j2⟩:=YP hP hst.hs hx h0;have atP: ∃ ad,dW a x= .pointer (some ad):=by
   cases hT:s.T x<;>rw[hT]at h0 hx<;>first | (cases h0;done) | skip
   ·rename_i id z i o;have hx:RC w β (.ptr id z i o) (dW a x):=hx;generalize dW a x=y at hx;cases hx;exact⟨_,rfl⟩
   ·rename_i k xx o;have hx:RC w β (.ipt k xx o) (dW a x):=hx;generalize dW a x=y at hx;cases hx;exact⟨_,rfl⟩
  obtain⟨ad,had⟩:=atP;have auc:a.tmps.getD x undef= .pointer (some ad):=had;rw[had]at j1;refine⟨u::us, ?_,by simp[k2],fun i c u' h1 h2=> ?_⟩
  ·have j1':(loadVar t ad).run P w= .ok u w:=by simpa[axH,awU] using j1
   simp only[ayv,TH,auc,asAddr,awb,awp,avP,j1',k1]
  ·cases i with
   | zero=>
    simp at h1 h2;subst h1;subst h2;exact(RT.ao3 (R2.ao4 j2)).arv
   | succ i=>exact k3 i c u' (by simpa using h1) (by simpa using h2)
def Qw{fn:Func}{us:List Value}(h:(fn.results.toList.mapM (TH a.tmps)).run P w=Result.ok us w):(results fn a.tmps).run P w= .ok (ZL us) w:=by
 have e1:results fn a.tmps=(do
   let vs ← fn.results.mapM (TH a.tmps)
   pure (if h:vs.size=1 then vs[0] else .tuple vs)):=rfl
 rw[e1,Array.mapM_eq_mapM_toList,map_eq_pure_bind];simp only[bind_assoc,pure_bind,awb,h,avP,awp]
 match us with
 | []=>rfl
 | [u]=>rfl
 | u::v::l=>simp[ZL]
end
end Go.VS
namespace Go.VS
open Go
def okM(m:aoi)(n:Nat):Bool:=Fe m.ps&&Fe m.rs&&awt m.ps.length n&&(rS m.rs++rS (bg m.ps)).all fun t=>(eO 0 m.ps).any fun p=>auW p t
section
variable {C:Cx} {B:anT} {β:Beta} {H:Hp} {w w':World} {M:Nat→Prop} {stk:List (Array Value)} {s s':S} {a:Act} {P:Program} {e e':Nat→Value} {inl:(Ω:Type)→Inl Ω}
def vF{E:Nat→AV}: ∀ {l:List Sh} {cs:List AV} {x:LTs l},rV E H l cs=some x→ ∀ c∈cs,(∀ g w v,c≠ .gd g w v)∧ ∀ vs,c≠ .tup vs
 | [],[],_,_,c,hc=>by cases hc
 | [],_::_,_,h,_,_=>by cases h
 | _::_,[],_,h,_,_=>by cases h
 | h::l,d::cs,x,hx,c,hc=>by
  obtain⟨x1,e1,hx⟩:=auI.1 hx;obtain⟨x2,e2,hx⟩:=auI.1 hx;rcases au5.1 hc with rfl | hc
  ·exact TN e1
  ·exact vF e2 c hc
def RX.apZ{tm:Nat→Value}{c:AV}{v:Value}(h:RX w β tm c v)(h1: ∀ g w v,c≠ .gd g w v)(h2: ∀ vs,c≠ .tup vs):R1 w β c v:=by
 have:=h.of h1;cases c<;>first | exact this | exact absurd rfl (h2 _)
def N8(args:List Value): ∀ (ps:List Sh) (k:Nat),args.length=k+ps.length→pW ps (args.drop k)=(eO k ps).map (ar args)
 | [],k,h=>by
  have:args.drop k=[]:=awE (by simp at h;omega);rw[this];rfl
 | p::ps,k,h=>by
  have hk:k < args.length:=by simp at h;omega
  rw[axn hk];have ih:=N8 args ps (k+1) (by simp at h ⊢; omega);have asr:ar args k=args[k]:=by simp[ar,hk]
  cases p<;>simp only[pW,eO,acd,avJ,ih,asr]
def xG(args:List Value)(n t:Nat):dW { tmps:=args.toArray++axV (n - args.toArray.size) undef,defers:=[] } t=ar args t:=by
 simp only[dW,ar,axe,auQ];by_cases h:t < args.length
 ·rw[awC (by simpa using h)];simp
 ·rw[Array.getElem?_append_right (by simpa using h),awa (by omega)];cases hr:(axV (n - args.toArray.size) undef)[t - args.toArray.size]? with
  | none=>rfl
  | some v=>
   rw[Array.getElem?_replicate]at hr;split at hr
   ·cases hr;rfl
   ·cases hr
def S6{fn:Func}{m:aoi}{r:LTs m.rs×LTs (bg m.ps)}{args:List Value}{os:List (Value×Nat)}(hst:St B β stk s a w)(hO:B.O=fun b=>b∈bX os)(htm:B.tm0=ar args)(hlen:args.length=m.ps.length)(hp:s.pins=eO 0 m.ps)
  {n:Nat}(hok:okM m n=true)(hf:fin B.P fn m s=some r): ∃ v,(results fn a.tmps).run B.P w= .ok v w∧Ret B.P m B.Z args os B.w0 r v w:=by
 unfold fin at hf;obtain⟨vs,h1,hf⟩:=auI.1 hf;split at hf
 ·rename_i hnd;simp only[auF]at hnd;obtain⟨r1,h2,hf⟩:=auI.1 hf;obtain⟨q,h3,hf⟩:=auI.1 hf;cases hf;obtain⟨us,k1,k2,k3⟩:=LX rfl hst fn.results.toList h1;have hl1:=L5 h2;rw[MY hl1,M4 hl1]at hnd;generalize asq:cn s.H m.rs vs=ack at hnd;generalize asp:cn s.H (bg m.ps) ((eO 0 m.ps).map s.T)=acj at hnd;have R:aqg B β s.H w (MO B (bX ((ack++acj).filterMap β))) s.T (dW a):={
   hs:=hst.hs
   hM:=fun b hb=>al1 hst.hs hb
   hE:=fun t id z e=>(hst.T t).apZ (by rw[e];simp) (by rw[e];simp) }
  have hfz:=Vh hst.hs hnd.2;have rl1:RL (R1 w β) vs us:=⟨k2,fun j c u e1 e2=>(k3 j c u e1 e2).apZ (vF h2 c (au8 e1)).1 (vF h2 c (au8 e1)).2⟩;have rl2:RL (R1 w β) ((eO 0 m.ps).map s.T) ((eO 0 m.ps).map (dW a)):=⟨by simp,fun j c u e1 e2=>by
   obtain⟨h5,h6⟩:=vF h3 c (au8 e1);rw[avz]at e1 e2;obtain⟨t,ht,rfl⟩:=avc.1 e1;obtain⟨t',ht',rfl⟩:=avc.1 e2;rw[ht]at ht';cases ht';exact(hst.T t).apZ h5 h6⟩
  obtain⟨os1,j1,j2⟩:=C3 R m.rs vs us r1 rl1 h2 (fun i hi=>hfz i (auT _ hi));obtain⟨os2,j3,j4⟩:=C3 R (bg m.ps) _ _ q rl2 h3 (fun i hi=>hfz i (auY _ hi));rw[asq]at j2;rw[asp]at j4;have aoP:bX (os1++os2)=bX ((ack++acj).filterMap β):=by
   simp only[bX,awr]at j2 j4 ⊢;rw[j2,j4]
  have asx:MO B (bX ((ack++acj).filterMap β))=fun b=>b∈bX (os1++os2)∨B.Z b:=by rw[aoP]
  rw[asx]at j1 j3;have asW: ∀ t∈eO 0 m.ps,dW a t=ar args t:=fun t ht=>by rw[hst.pins t (by rw[hp];exact ht),htm]
  simp only[okM,auF,avn,awL]at hok;have aoa: ∀ t∈rS m.rs++rS (bg m.ps),dW a t=ar args t:=fun t ht=>by
   obtain⟨p,hp1,hp2⟩:=hok.2 t ht;rw[← aI hp2];exact asW p hp1
  refine⟨ZL us,Qw k1,⟨us,os1,os2,rfl,an3.congr _ _ _ _ (fun t ht=>aoa t (auT _ ht)) j1, ?_, ?_, ?_⟩,hst.hs.os,hst.hs.tape,hst.hs.output,hst.hs.size, ?_,hst.hs.pk⟩
  ·have e1:pW m.ps args=(eO 0 m.ps).map (dW a):=by
    have:=N8 args m.ps 0 (by omega);rw[awF]at this;rw[this];exact av0 fun t ht=>(asW t ht).symm
   rw[e1];exact an3.congr _ _ _ _ (fun t ht=>aoa t (auY _ ht)) j3
  ·rw[aoP];exact DQ hst.hs (C8 hnd.1)
  ·intro b hb;rw[aoP]at hb;have:=hst.hs.old b (N9 hb);rw[hO]at this;exact this
  ·intro b hb hn;have:=hst.hs.block b hb;rw[hO]at this;exact this hn
 ·cases hf
def aie{P:Program}(hP:C.P=P)(hm:P.follows .mixedOrders=true)(hC: ∀ B:anT,B.P=P→oW C B)(hI: ∀ B:anT,B.P=P→EQ C B inl){f:FuncId}{fn:Func}{body:Code}(hf:P.funcs[f]? =some fn)(aoA:(fn.name == "runtime.NumGoroutine")=false)
  (hb:fn.body=some body){v:Adv}{m:aoi}(hok:okM m fn.ntmps=true)(aoS: ∀ B:anT,B.P=P→zd (Hr B fn.ntmps (eO 0 m.ps)) body v)(hg: ∀ x,alh C inl fn v m x=m.g x):we P f m:=by
 refine⟨qQ hf aoA hb,fun x r hx w Z args os hr hnd hbl hZ hgl=> ?_⟩;rw[← hg]at hx;unfold alh at hx;rw[hb]at hx;simp only[evF]at hx;have aq9:=hok;simp only[okM,auF]at aq9;obtain⟨⟨⟨hps,hrs⟩,hn⟩,_⟩:=aq9;have hn:=avg hn;have hlen:=hr.length
 let B:anT:={ P:=P,w0:=w,O:=fun b=>b∈bX os,tm0:=ar args,Z:=Z,gl:=hgl }
 have aqS:Num (Kj Z os) 0 os:=TZ Z os;obtain⟨k1,k2,k3⟩:=Mh (β:=Kj Z os) (E:=fun _=> .un) (M:=fun b=>b∈bX os∨Z b) (P:=P) (w:=w) (e:=ar args) (fun b hb=>aag (B:=B) hb) m.ps (fun _=>none) 0 x args os hps hr aqS (fun t _=>trivial);have hi:agM fn.ntmps m.ps x=(match aC (fun _=> .un) (fun _=>none) 0 m.ps x with
  | (vs,H,b)=>{ n:=fn.ntmps,T:=fun t=>(vs[t]?).getD qU,H:=H,nid:=b,st:=[],pins:=eO 0 m.ps,gs:=fun _=>false }):=rfl
 rw[hi]at hx;generalize aC (fun _=> .un) (fun _=>none) 0 m.ps x=q at *;obtain⟨vs,H,b⟩:=q;simp only at hx k1 k2 k3;have hH:Hs B (Kj Z os) H w:={
  aoq:=fun id ob ho=>by
   by_cases h:id < os.length
   ·obtain⟨ob',h1,h2⟩:=k3.2 id (avM _) (by omega);rw[h1]at ho;cases ho;exact h2
   ·rw[k3.1 id (by omega)]at ho;cases ho
  dom:=fun id p hp=>by
   have h:id < os.length:=(auR.1 (show os[id]? =some p from hp)).1;obtain⟨ob',h1,_⟩:=k3.2 id (avM _) (by omega);exact⟨ob',h1⟩
  inj:=fun i j p q a a' hi hj=>Me hnd i j p q a a' hi hj
  old:=fun b hb=>⟨.inl (zL hb),(hbl b (zL hb)).1⟩
  os:=rfl
  tape:=rfl
  output:=rfl
  size:=auS _
  block:=fun _ _ _=>rfl
  z:=rfl
  zn:=fun id p a hp ha=>(hbl _ (zL (Z:=Z) ⟨id,p.1,p.2,a,hp,ha,rfl⟩)).2
  zl:=hZ
  pk:=Pk.refl _ _ }
 refine calls_of_wp hf hb ?_;have hst:St B (Kj Z os) [] { n:=fn.ntmps,T:=fun t=>(vs[t]?).getD qU,H:=H,nid:=b,st:=[],pins:=eO 0 m.ps,gs:=fun _=>false } { tmps:=args.toArray++axV (fn.ntmps - args.toArray.size) undef,defers:=[] } w:=by
  refine⟨fun t=> ?_,⟨rfl,fun i T' tm h=>by simp at h⟩, ?_,rfl,fun t _=>xG args _ t,fun t g want y hy=> ?_,hH⟩
  ·rw[xG];show RT w _ _ ((vs[t]?).getD qU) _;cases hv:vs[t]? with
   | none=>
    have:args.length≤t:=by
     rw[k1.1];exact axW.1 hv
    show RT w _ _ qU (ar args t);have e0:ar args t=undef:=by simp[ar,awa this]
    rw[e0];rfl
   | some c=>
    have hlt:t < args.length:=by rw[k1.1];exact(auR.1 hv).1
    have hu:args[t]? =some (ar args t):=by simp[ar,hlt]
    exact(k1.2 t c _ hv hu).arw
  ·simp;omega
  ·have hy:(vs[t]?).getD qU= .gd g want y:=hy;cases hv:vs[t]? with
   | none=>rw[hv]at hy;cases hy
   | some c=>
    rw[hv]at hy;have hy:c= .gd g want y:=hy;have hlt:t < args.length:=by rw[k1.1];exact(auR.1 hv).1
    have hu:args[t]? =some (ar args t):=by simp[ar,hlt]
    have:=k1.2 t c _ hv hu;rw[hy]at this;exact this.elim
 refine HT (B:=B) hP hm (hC B rfl) (hI B rfl) body v _ _ r hx hst (fun j hj=>k3.1 j (.inr (by have hj:b≤j:=hj;omega))) (aoS B rfl) ⟨?_, ?_, ?_⟩
 ·intro β' a' w' s' h1 h2 h3 h4 h5;obtain⟨v',i1,i2⟩:=S6 (B:=B) h1 rfl rfl hlen h4 hok (show fin P fn m s'=some r by rw[← hP];exact h5);exact⟨h1.defers,v',i1,v',rfl,i2⟩
 ·intro β' a' w' s' h1 h2 h3 h4 h5;obtain⟨v',i1,i2⟩:=S6 (B:=B) h1 rfl rfl hlen h4 hok (show fin P fn m s'=some r by rw[← hP];exact h5);exact⟨h1.defers,v',i1,v',rfl,i2⟩
 ·intro id β' a' w' s' h1 h2 h3 h4 h5;cases h5
end
end Go.VS
namespace Go.VS
open Go
def xb(l:List Sh):Bool:=k0 l&&l.all fun h=> !acd h
section
variable {B:anT} {β β':Beta} {H:Hp} {w w':World} {M:Nat→Prop} {stk:List (Array Value)} {s s':S} {a:Act} {P:Program} {E:Nat→AV} {e:Nat→Value} {b:Nat}
mutual
theorem agG: ∀ h:Sh,eg h=true→tv h=true∧LU h=[]
 | .int _,_=>⟨rfl,rfl⟩
 | .bool,_=>⟨rfl,rfl⟩
 | .str,_=>⟨rfl,rfl⟩
 | .sl _,_=>⟨rfl,rfl⟩
 | .row _ _,_=>⟨rfl,rfl⟩
 | .fz _,_=>⟨rfl,rfl⟩
 | .an1 _ _,_=>⟨rfl,rfl⟩
 | .abx _ _,_=>⟨rfl,rfl⟩
 | .arr _,h=>by simp[eg]at h
 | .agg _,h=>by simp[eg]at h
 | .same _,h=>by simp[eg]at h
 | .box _ l,h=>by
  have:=F7 l (by simpa[eg] using h);exact⟨by simpa[tv] using this.1,by simpa[LU] using this.2⟩
theorem F7: ∀ l:List Sh,k0 l=true→xv l=true∧rS l=[]
 | [],_=>⟨rfl,rfl⟩
 | h::l,hl=>by
  simp only[k0,auF]at hl;have h1:=agG h hl.1;have h2:=F7 l hl.2;exact⟨by simp[xv,h1.1,h2.1],by simp[rS,h1.2,h2.2]⟩
end
def Dx: ∀ (l:List Sh) (H:Hp) (b:Nat) (cs:List AV) (x:LTs l),xb l=true→bL E H b l cs x=aC E H b l x
 | [],_,_,_,_,_=>rfl
 | h::l,H,b,cs,x,hl=>by
  simp only[xb,k0,axR,auF]at hl;obtain⟨⟨h1,h2⟩,h3,h4⟩:=hl;have un:bL E H b (h::l) cs x=(match nC E H b h (cs.headD .un) x.1 with | (d,H,b)=>match bL E H b l cs.tail x.2 with | (ds,H,b)=>(d::ds,H,b)):=rfl;have un2:aC E H b (h::l) x=(match cY E H b h x.1 with | (c,H,b)=>match aC E H b l x.2 with | (cs,H,b)=>(c::cs,H,b)):=rfl;have e1:nC E H b h (cs.headD .un) x.1=cY E H b h x.1:=Ph h1 (fun t l' e'=>by rw[e']at h3;simp[acd]at h3);rw[un,un2,e1];generalize cY E H b h x.1=r;obtain⟨c,H',b'⟩:=r;simp only;rw[Dx l H' b' cs.tail x.2 (by simp only[xb,auF];exact⟨h2,h4⟩)]
mutual
theorem abU: ∀ (h:Sh) (H:Hp) (b:Nat) (x:LT h) (v:Value) (os:List (Value×Nat)),tv h=true→Rel P w M e h x v os→(cY E H b h x).2.2=b+os.length
 | .int k,H,b,x,v,os,_,hr=>by obtain⟨_,rfl⟩:=hr;rfl
 | .bool,H,b,x,v,os,_,hr=>by obtain⟨_,rfl⟩:=hr;rfl
 | .str,H,b,x,v,os,_,hr=>by obtain⟨_,rfl⟩:=hr;rfl
 | .sl k,H,b,x,v,os,_,hr=>by obtain⟨_,rfl⟩:=hr;rfl
 | .fz k,H,b,x,v,os,_,hr=>by obtain⟨_,rfl⟩:=hr;rfl
 | .row t k,H,b,x,v,os,_,hr=>by obtain⟨rfl,_⟩:=hr;rfl
 | .an1 t k,H,b,x,v,os,_,hr=>by obtain⟨rfl,_⟩:=hr;rfl
 | .abx t k,H,b,x,v,os,_,hr=>by obtain⟨rfl,_⟩:=hr;rfl
 | .arr _,_,_,_,_,_,h,_=>by simp[tv]at h
 | .agg _,_,_,_,_,_,h,_=>by simp[tv]at h
 | .same t,H,b,x,v,os,_,hr=>by obtain⟨rfl,_⟩:=hr;rfl
 | .box t l,H,b,x,v,os,hl,hr=>by
  obtain⟨bb,us,os',rfl,h2,h3,rfl⟩:=hr;have un:cY E H b (.box t l) x=(match aC E H b l x with | (cs,H,b)=>(AV.ptr b cs.length 0 0,upd H b (some (.box t cs)),b+1)):=rfl;have k:=HJ l H b x us.toList os' (by simpa[tv] using hl) h3;rw[un];generalize aC E H b l x=r at *;obtain⟨cs,H',b'⟩:=r;have k:b'=b+os'.length:=k;simp[k,avI]
theorem HJ: ∀ (l:List Sh) (H:Hp) (b:Nat) (x:LTs l) (us:List Value) (os:List (Value×Nat)),xv l=true→an3 P w M e l x us os→(aC E H b l x).2.2=b+os.length
 | [],H,b,x,us,os,_,hr=>by obtain⟨_,rfl⟩:=hr;rfl
 | h::l,H,b,x,us,os,hl,hr=>by
  obtain⟨u,us',o1,o2,rfl,rfl,h1,h2⟩:=hr;simp only[xv,auF]at hl;have un:aC E H b (h::l) x=(match cY E H b h x.1 with | (c,H,b)=>match aC E H b l x.2 with | (cs,H,b)=>(c::cs,H,b)):=rfl;have k:=abU h H b x.1 u o1 hl.1 h1;rw[un];generalize cY E H b h x.1=r at *;obtain⟨c,H',b'⟩:=r;have k:b'=b+o1.length:=k;subst k;have k2:=HJ l H' (b+o1.length) x.2 us' o2 hl.2 h2;simp only;generalize aC E H' (b+o1.length) l x.2=r at *;obtain⟨cs,H'',b''⟩:=r;have k2:b''=_:=k2;simp[k2,avI]
end
mutual
theorem aiP: ∀ (h:Sh) (H:Hp) (b:Nat) (x:LT h) (j:Nat),¬ (b≤j∧j < (cY E H b h x).2.2)→(cY E H b h x).2.1 j=H j
 | .int _,H,_,_,_,_=>rfl
 | .bool,H,_,_,_,_=>rfl
 | .str,H,_,_,_,_=>rfl
 | .sl _,H,_,_,_,_=>rfl
 | .arr _,H,_,_,_,_=>rfl
 | .same _,H,_,_,_,_=>rfl
 | .fz _,H,_,_,_,_=>rfl
 | .row _ _,H,b,_,j,hj=>aM _ _ (fun e=>hj ⟨by omega,by show j < b+1;omega⟩)
 | .an1 _ _,H,b,_,j,hj=>aM _ _ (fun e=>hj ⟨by omega,by show j < b+1;omega⟩)
 | .abx _ _,H,b,_,j,hj=>aM _ _ (fun e=>hj ⟨by omega,by show j < b+1;omega⟩)
 | .agg l,H,b,x,j,hj=>by
  have un:cY E H b (.agg l) x=(match aC E H b l x with | (cs,H,b)=>(AV.agg cs,H,b)):=rfl;have ih:=HH l H b x j;rw[un]at hj ⊢;generalize aC E H b l x=r at *;exact ih hj
 | .box e l,H,b,x,j,hj=>by
  have un:cY E H b (.box e l) x=(match aC E H b l x with | (cs,H,b)=>(AV.ptr b cs.length 0 0,upd H b (some (.box e cs)),b+1)):=rfl;have ih:=HH l H b x j;have hle:=jS E l H b x;rw[un]at hj ⊢;generalize aC E H b l x=r at *;obtain⟨cs,H',b'⟩:=r;simp only at hj ih hle ⊢;rw[aM _ _ (fun e=>hj ⟨by omega,by omega⟩)];exact ih fun h=>hj ⟨h.1,by omega⟩
theorem HH: ∀ (l:List Sh) (H:Hp) (b:Nat) (x:LTs l) (j:Nat),¬ (b≤j∧j < (aC E H b l x).2.2)→(aC E H b l x).2.1 j=H j
 | [],H,_,_,_,_=>rfl
 | h::l,H,b,x,j,hj=>by
  have un:aC E H b (h::l) x=(match cY E H b h x.1 with | (c,H,b)=>match aC E H b l x.2 with | (cs,H,b)=>(c::cs,H,b)):=rfl;have ih:=aiP h H b x.1 j;have hle:=dC E h H b x.1;rw[un]at hj ⊢;generalize cY E H b h x.1=r at *;obtain⟨c,H',b'⟩:=r;have ih2:=HH l H' b' x.2 j;have aqD:=jS E l H' b' x.2;simp only at hj ⊢;generalize aC E H' b' l x.2=r at *;obtain⟨cs,H'',b''⟩:=r;simp only at hj ih ih2 hle aqD ⊢;rw[ih2 fun h=>hj ⟨by omega,h.2⟩];exact ih fun h=>hj ⟨h.1,by omega⟩
end
end
end Go.VS
namespace Go.VS
open Go
section
variable {B B':anT} {β β':Beta} {H:Hp} {w w':World} {M M':Nat→Prop} {stk:List (Array Value)} {s s':S} {a:Act} {P:Program} {E:Nat→AV} {e:Nat→Value} {b:Nat}
def St.atG{f:AV→AV}(h:St B β stk s a w)(ht:B'.tm0=B.tm0)(hf: ∀ c,an6 c=true→f c=c)(hg: ∀ c g want x,f c= .gd g want x→ ∃ y,c= .gd g want y)(hk:Kf f w β w' β'){H':Hp}(hH:Hs B' β' H' w'):St B' β' stk { s.map f with H:=H' } a w':=by
 have g1: ∀ c g want x,qI f c= .gd g want x→ ∃ y,c= .gd g want y:=by
  intro c g want x e;cases c<;>first | (cases e;done) | exact hg _ _ _ _ e
 have g2: ∀ c g want x,rY f c= .gd g want x→ ∃ y,c= .gd g want y:=by
  intro c g want x e;cases c<;>first | (cases e;done) | exact g1 _ _ _ _ e
 have g3: ∀ c g want x,yi f c= .gd g want x→ ∃ y,c= .gd g want y:=by
  intro c g want x e;cases c with
  | gd g' w' y=>cases e;exact⟨_,rfl⟩
  | _=>exact g2 _ _ _ _ e
 refine⟨fun t=>RT.map hf hk (h.T t),⟨by simpa[S.map] using h.stack.1,fun i T tm h1 h2 t=> ?_⟩,h.n,h.defers,fun t ht'=>by rw[ht];exact h.pins t ht',fun t g want x hx=> ?_,hH⟩
 ·simp only[S.map,avz,avc]at h1;obtain⟨T0,h3,rfl⟩:=h1;exact RT.map hf hk (h.stack.2 i T0 tm h3 h2 t)
 ·obtain⟨y,hy⟩:=g3 _ _ _ _ hx;exact h.gs _ _ _ _ hy
def Beta.kz(β:Beta)(id:Nat):Beta:=⟨upd β.f id none,fun b=>β.Z b∨ ∃ p a,β id=some p∧adr p.1=some a∧a.block=b⟩
def Beta.ap2(β:Beta)(id j:Nat):(β.kz id) j=if j=id then none else β j:=by
 show upd β.f id none j=_;by_cases e:j=id
 ·subst e;rw[aD,aus rfl]
 ·rw[aM _ _ e,aur e]
def St.ar1(h:St B β stk s a w)(id:Nat):St { B with Z:=(β.kz id).Z } (β.kz id) stk (s.kill id) a w:=by
 have hM: ∀ b,¬ MZ β b→b < w.heap.size→ ¬ MZ (β.kz id) b:=fun b hb _ hm=>by
  rcases hm with⟨j,hd,n,a,hj,ha,hab⟩ | hz | ⟨p,a,hp,ha,hab⟩
  ·rw[Beta.ap2]at hj;split at hj
   ·cases hj
   ·exact hb (.inl ⟨j,hd,n,a,hj,ha,hab⟩)
  ·exact hb (.inr hz)
  ·exact hb (.inl ⟨id,p.1,p.2,a,hp,ha,hab⟩)
 have hk:Kf (kl1 id) w β w (β.kz id):=Kf.kill (fun j e=>aM _ _ e) (fun _ _ _ _ h=>h) hM;have hH:=h.hs.aqV (gz id) hk (fun j e=>aM _ _ e) (.inl ⟨aD _ _ _,rfl⟩) (fun _ _ _ _ _ _=>rfl) rfl rfl rfl (auS _) (fun _ _ _=>rfl) (fun b hb=>hb.imp (fun h=>h) fun h=>⟨aD _ _ _,h⟩) (Pk.refl _ _);exact h.atG (B':={ B with Z:=(β.kz id).Z }) rfl (gz id) (Kq id) hk hH
def St.aqc: ∀ (ids:List Nat) {B:anT} {β:Beta} {s:S},ids.Nodup→St B β stk s a w→ ∃ β2:Beta,St { B with Z:=β2.Z } β2 stk (ids.foldl S.kill s) a w∧(∀ j,β2 j=if j∈ids then none else β j)∧
  (∀ b,β2.Z b↔β.Z b∨ ∃ i∈ids,∃ p a,β i=some p∧adr p.1=some a∧a.block=b)
 | [],B,β,s,_,h=>by
  have e:{ B with Z:=β.Z } =B:=by rw[h.hs.z]
  exact⟨β,by rw[e];exact h,fun j=>by simp,fun b=>by simp⟩
 | i::ids,B,β,s,hn,h=>by
  obtain⟨hn1,hn2⟩:=aw0.1 hn;obtain⟨β2,h1,h2,h3⟩:=St.aqc ids hn2 (h.ar1 i);refine⟨β2,h1,fun j=> ?_,fun b=> ?_⟩
  ·rw[h2,Beta.ap2];by_cases e1:j∈ids
   ·rw[aus e1,aus (auJ _ e1)]
   ·by_cases e2:j=i
    ·rw[aur e1,aus e2,aus (by rw[e2];exact auM)]
    ·rw[aur e1,aur e2,aur (by simp[e1,e2])]
  ·rw[h3];constructor
   ·rintro((h | ⟨p,a,h⟩) | ⟨j,hj,p,a,hp,h⟩)
    ·exact .inl h
    ·exact .inr ⟨i,auM,p,a,h⟩
    ·rw[Beta.ap2]at hp;split at hp
     ·cases hp
     ·exact .inr ⟨j,auJ _ hj,p,a,hp,h⟩
   ·rintro(h | ⟨j,hj,p,a,hp,h⟩)
    ·exact .inl (.inl h)
    ·rcases au5.1 hj with rfl | hj
     ·exact .inl (.inr ⟨p,a,hp,h⟩)
     ·refine .inr ⟨j,hj,p,a, ?_,h⟩;rw[Beta.ap2,aur (fun(e:j=i)=>hn1 (e▸hj))];exact hp
def St.aoQ(h:St B β stk s a w)(id:Nat):St B (β.up id none) stk (s.freeze id) a w:=by
 unfold S.freeze;split
 ·rename_i e fz k xs hid;obtain⟨h1,h2⟩:=h.hs.aoQ hid;exact h.map (Pl id k xs) (ajk id k xs) h2 h1
 ·obtain⟨h1,h2⟩:=h.hs.aqZ id;exact h.map (gz id) (Kq id) h2 h1
def St.apq: ∀ (ids:List Nat) {β:Beta} {s:S},St B β stk s a w→ ∃ β2:Beta,St B β2 stk (ids.foldl S.freeze s) a w∧(∀ j,β2 j=if j∈ids then none else β j)∧β2.Z=β.Z
 | [],β,s,h=>⟨β,h,fun j=>by simp,rfl⟩
 | i::ids,β,s,h=>by
  obtain⟨β2,h1,h2,h3⟩:=St.apq ids (h.aoQ i);refine⟨β2,h1,fun j=> ?_,h3⟩;rw[h2];by_cases e1:j∈ids
  ·rw[aus e1,aus (auJ _ e1)]
  ·by_cases e2:j=i
   ·subst e2;rw[aur e1,aus auM,Beta.aox]
   ·rw[aur e1,Beta.aoT _ _ e2,aur (by simp[e1,e2])]
def St.asy(q:Bool)(ids:List Nat)(h:St B β stk s a w): ∃ β2:Beta,St B β2 stk (E5 q ids s) a w∧(∀ j,β2 j=if q=true∧j∈ids then none else β j)∧β2.Z=β.Z:=by
 cases q with
 | false=>exact⟨β,h,fun j=>by simp,rfl⟩
 | true=>
  obtain⟨β2,h1,h2,h3⟩:=St.apq ids h;exact⟨β2,h1,fun j=>by simp[h2],h3⟩
def YR{t:TypeId}{j:Nat}: ∀ (ids:List Nat) (s:S) {cs:List AV},j ∉ ids→s.H j=some (.box t cs)→ ∃ cs',(ids.foldl S.kill s).H j=some (.box t cs')
 | [],s,cs,_,h=>⟨cs,h⟩
 | i::ids,s,cs,hj,h=>by
  have hne:j≠i:=fun e=>hj (e▸auM);refine YR ids (s.kill i) (cs:=cs.map (kl1 i)) (fun hm=>hj (auJ _ hm)) ?_;show upd (fun j=>iY (kl1 i) (s.H j)) i none j=_;rw[aM _ _ hne,h];rfl
def QK{t:TypeId}{j:Nat}: ∀ (ids:List Nat) (s:S) {cs:List AV},j ∉ ids→s.H j=some (.box t cs)→ ∃ cs',(ids.foldl S.freeze s).H j=some (.box t cs')
 | [],s,cs,_,h=>⟨cs,h⟩
 | i::ids,s,cs,hj,h=>by
  have hne:j≠i:=fun e=>hj (e▸auM);have: ∃ cs',(s.freeze i).H j=some (.box t cs'):=by
   unfold S.freeze;split
   ·rename_i k xs _;refine⟨cs.map (fz1 i k xs), ?_⟩;show upd (fun j=>iY (fz1 i k xs) (s.H j)) i none j=_;rw[aM _ _ hne,h];rfl
   ·refine⟨cs.map (kl1 i), ?_⟩;show upd (fun j=>iY (kl1 i) (s.H j)) i none j=_;rw[aM _ _ hne,h];rfl
  obtain⟨cs',h'⟩:=this;exact QK ids (s.freeze i) (fun hm=>hj (auJ _ hm)) h'
def ajj{t:TypeId}{j:Nat}(q:Bool)(ids:List Nat)(s:S){cs:List AV}(hj: ¬ (q=true∧j∈ids))(h:s.H j=some (.box t cs)): ∃ cs',(E5 q ids s).H j=some (.box t cs'):=by
 cases q with
 | false=>exact⟨cs,h⟩
 | true=>exact QK ids s (fun hm=>hj ⟨rfl,hm⟩) h
mutual
theorem ail: ∀ (h:Sh) (c:AV),(iG H h c).Sublist (kD H h c)
 | .int _,_=>avF _
 | .bool,_=>avF _
 | .str,_=>avF _
 | .sl _,_=>avF _
 | .arr _,_=>avF _
 | .same _,_=>avF _
 | .fz _,_=>avF _
 | .row _ _,c=>by cases c<;>exact avF _
 | .an1 _ _,c=>by cases c<;>exact avF _
 | .abx _ _,c=>by
  cases c with
  | ptr id z i o=>cases i<;>cases o<;>exact avF _
  | _=>exact avF _
 | .agg l,c=>by
  cases c with
  | agg cs=>exact Hz l cs
  | _=>exact avF _
 | .box t l,c=>by
  cases c with
  | ptr id z i o=>
   cases i<;>cases o<;>simp only[iG,kD]<;>first | exact avF _ | skip
   split
   ·exact(Hz l _).trans (List.sublist_append_left _ _)
   ·exact avF _
  | _=>exact avF _
theorem Hz: ∀ (l:List Sh) (cs:List AV),(dV H l cs).Sublist (cn H l cs)
 | [],_=>by simp only[dV,cn];exact avF _
 | _::_,[]=>by simp only[dV,cn];exact avF _
 | h::l,c::cs=>by
  simp only[dV,cn];exact(ail h c).append (Hz l cs)
end
def Oz(H:Hp)(i:Nat):Prop:= ∀ t cs,H i≠some (.box t cs)
mutual
theorem agf: ∀ (h:Sh) (c:AV) (x:LT h),eY E H h c=some x→ ∀ i∈iG H h c,Oz H i
 | .int _,_,_,_,i,hi=>by simp[iG]at hi
 | .bool,_,_,_,i,hi=>by simp[iG]at hi
 | .str,_,_,_,i,hi=>by simp[iG]at hi
 | .sl _,_,_,_,i,hi=>by simp[iG]at hi
 | .arr _,_,_,_,i,hi=>by simp[iG]at hi
 | .same _,_,_,_,i,hi=>by simp[iG]at hi
 | .fz _,_,_,_,i,hi=>by simp[iG]at hi
 | .row t k,c,x,hx,i,hi=>by
  cases c<;>simp[iG]at hi;subst hi;intro t' cs hb;simp[eY,hb]at hx
 | .an1 t k,c,x,hx,i,hi=>by
  cases c<;>simp[iG]at hi;subst hi;intro t' cs hb;simp[eY,hb]at hx
 | .abx t k,c,x,hx,i,hi=>by
  cases c with
  | ptr id z i' o=>
   cases i'<;>cases o<;>simp[iG]at hi;subst hi;intro t' cs hb;simp[eY,hb]at hx
  | _=>simp[iG]at hi
 | .agg l,c,x,hx,i,hi=>by
  cases c with
  | agg cs=>exact C0 l cs x hx i (by simpa[iG] using hi)
  | _=>simp[iG]at hi
 | .box t l,c,x,hx,j,hi=>by
  cases c with
  | ptr id z i o=>
   cases i<;>cases o<;>simp only[iG]at hi<;>first | (simp at hi;done) | skip
   cases ho:H id with
   | none=>simp[ho]at hi
   | some ob=>
    cases ob with
    | box e' cs=>
     simp only[ho]at hi;simp only[eY,ho]at hx;split at hx
     ·exact C0 l cs x hx j hi
     ·cases hx
    | _=>simp[ho]at hi
  | _=>simp[iG]at hi
theorem C0: ∀ (l:List Sh) (cs:List AV) (x:LTs l),rV E H l cs=some x→ ∀ i∈dV H l cs,Oz H i
 | [],cs,_,_,i,hi=>by simp[dV]at hi
 | _::_,[],_,_,i,hi=>by simp[dV]at hi
 | h::l,c::cs,x,hx,i,hi=>by
  obtain⟨x1,e1,hx⟩:=auI.1 hx;obtain⟨x2,e2,hx⟩:=auI.1 hx;simp only[dV,auX]at hi;rcases hi with hi | hi
  ·exact agf h c x1 e1 i hi
  ·exact C0 l cs x2 e2 i hi
end
mutual
theorem ag1: ∀ (h:Sh) (c:AV) (x:LT h),eY E H h c=some x→ ∀ i∈lG H h c,Oz H i
 | .int _,_,_,_,i,hi=>by simp[lG]at hi
 | .bool,_,_,_,i,hi=>by simp[lG]at hi
 | .str,_,_,_,i,hi=>by simp[lG]at hi
 | .sl _,_,_,_,i,hi=>by simp[lG]at hi
 | .arr _,_,_,_,i,hi=>by simp[lG]at hi
 | .same _,_,_,_,i,hi=>by simp[lG]at hi
 | .row _ _,_,_,_,i,hi=>by simp[lG]at hi
 | .an1 _ _,_,_,_,i,hi=>by simp[lG]at hi
 | .abx _ _,_,_,_,i,hi=>by simp[lG]at hi
 | .fz k,c,x,hx,i,hi=>by
  cases c<;>simp[lG]at hi;subst hi;intro t' cs hb;simp[eY,iT,hb]at hx
 | .agg l,c,x,hx,i,hi=>by
  cases c with
  | agg cs=>exact Dy l cs x hx i (by simpa[lG] using hi)
  | _=>simp[lG]at hi
 | .box t l,c,x,hx,j,hi=>by
  cases c with
  | ptr id z i o=>
   cases i<;>cases o<;>simp only[lG]at hi<;>first | (simp at hi;done) | skip
   cases ho:H id with
   | none=>simp[ho]at hi
   | some ob=>
    cases ob with
    | box e' cs=>
     simp only[ho]at hi;simp only[eY,ho]at hx;split at hx
     ·exact Dy l cs x hx j hi
     ·cases hx
    | _=>simp[ho]at hi
  | _=>simp[lG]at hi
theorem Dy: ∀ (l:List Sh) (cs:List AV) (x:LTs l),rV E H l cs=some x→ ∀ i∈eX H l cs,Oz H i
 | [],cs,_,_,i,hi=>by simp[eX]at hi
 | _::_,[],_,_,i,hi=>by simp[eX]at hi
 | h::l,c::cs,x,hx,i,hi=>by
  obtain⟨x1,e1,hx⟩:=auI.1 hx;obtain⟨x2,e2,hx⟩:=auI.1 hx;simp only[eX,auX]at hi;rcases hi with hi | hi
  ·exact ag1 h c x1 e1 i hi
  ·exact Dy l cs x2 e2 i hi
end
def F5{k:K}(h:Zm k=true)(x:Tof k): ∀ c∈enc k x,∃ v,c= .lit v:=by
 have key:(enc k x).all (fun c=>match c with
   | .lit _=>true
   | _=>false)=true:=by cases k<;>first | (cases h;done) | rfl
 intro c hc;have:=avn.1 key c hc;cases c<;>first | exact⟨_,rfl⟩ | cases this
def Vu:Beta:=⟨fun _=>none,fun _=>False⟩
def HU{b:Nat}: ¬ MZ Vu b:=by
 rintro(⟨_,_,_,_,h,_⟩ | h)
 ·cases h
 ·exact h
def anZ.anyM{t:TypeId}{fz:Bool}{k:K}{xs:List (Tof k)}{v:Value}(hk:Zm k=true)(h:anZ w β t fz k xs v):anZ w β' t fz k xs v:=by
 rcases h with h | ⟨b,f,cap,us,fr,h1,h2,h3,h4,h5,h6,h7⟩
 ·exact .inl h
 ·refine .inr ⟨b,f,cap,us,fr,h1,h2,h3,h4,h5,h6,fun i x j c u a1 a2 a3=> ?_⟩;have h8:=h7 i x j c u a1 a2 a3;obtain⟨v,rfl⟩:=F5 hk x c (au8 a2);cases h8 with
  | lit h=>exact .lit h
mutual
theorem Rel.anyM: ∀ (h:Sh) (x:LT h) (v:Value) (os:List (Value×Nat)),aan h=false→Rel P w M e h x v os→Rel P w M' e h x v os
 | .int _,_,_,_,_,h=>h
 | .bool,_,_,_,_,h=>h
 | .str,_,_,_,_,h=>h
 | .sl _,_,_,_,h,_=>by cases h
 | .fz _,_,_,_,h,_=>by cases h
 | .row t k,_,_,_,hm,h=>⟨h.1,h.2.1,fun β _=>(h.2.2 Vu (fun b hb=>absurd hb HU)).anyM (by simpa[aan] using hm)⟩
 | .an1 t k,_,_,_,hm,h=>⟨h.1,h.2.1,fun β _=>(h.2.2 Vu (fun b hb=>absurd hb HU)).anyM (by simpa[aan] using hm)⟩
 | .abx t k,_,_,_,hm,h=>by
  obtain⟨h1,h2,b,us,h3,h4,h5,h6,h7⟩:=h;refine⟨h1,h2,b,us,h3,h4,h5,h6,fun β _ i x j c u a1 a2 a3=> ?_⟩;have h8:=h7 Vu (fun b hb=>absurd hb HU) i x j c u a1 a2 a3;obtain⟨v,rfl⟩:=F5 (by simpa[aan] using hm) x c (au8 a2);cases h8 with
  | lit h=>exact .lit h
 | .arr k,_,_,_,hm,h=>by
  obtain⟨h1,h2⟩:=h;refine⟨h1,fun β _=> ?_⟩;obtain⟨us,k1,k2,k3⟩:=h2 Vu (fun b hb=>absurd hb HU);refine⟨us,k1,k2,fun i x j c u a1 a2 a3=> ?_⟩;have h8:=k3 i x j c u a1 a2 a3;obtain⟨v,rfl⟩:=F5 (by simpa[aan] using hm) x c (au8 a2);cases h8 with
  | lit h=>exact .lit h
 | .same t,_,_,_,_,h=>h
 | .agg l,x,v,os,hm,h=>by
  obtain⟨us,h1,h2⟩:=h;exact⟨us,h1,an3.anyM l x us os (by simpa[aan] using hm) h2⟩
 | .box t l,x,v,os,hm,h=>by
  obtain⟨b,us,os',h1,h2,h3,h4⟩:=h;exact⟨b,us,os',h1,h2,an3.anyM l x us.toList os' (by simpa[aan] using hm) h3,h4⟩
theorem an3.anyM: ∀ (l:List Sh) (x:LTs l) (us:List Value) (os:List (Value×Nat)),dN l=false→an3 P w M e l x us os→an3 P w M' e l x us os
 | [],_,_,_,_,h=>h
 | h::l,x,us,os,hm,hr=>by
  obtain⟨u,us',o1,o2,h1,h2,h3,h4⟩:=hr;simp only[dN,axo]at hm;exact⟨u,us',o1,o2,h1,h2,Rel.anyM h x.1 u o1 hm.1 h3,an3.anyM l x.2 us' o2 hm.2 h4⟩
end
end
end Go.VS
namespace Go.VS
open Go
def alS:List Sh→Bool
 | .box _ l2::l=>xb l2&&xb l
 | l=>xb l
def ae6:List Sh→Bool
 | .box _ _::_=>true
 | _=>false
def akz(P:Program):List Sh→Bool
 | []=>true
 | h::ps=>(match h with
  | .box t l=>alS l&&(!ae6 l||T5 P t)
  | .agg l=>xb l
  | _=>true)&&akz P ps
section
variable {B B':anT} {β β':Beta} {H:Hp} {w w':World} {M M':Nat→Prop} {stk:List (Array Value)} {s s':S} {a:Act} {P:Program} {E:Nat→AV} {e:Nat→Value} {b:Nat} {C:Cx}
mutual
theorem HO: ∀ (h:Sh) (c:AV),eg h=true→acd h=false→ ∀ i∈kD H h c,i∈iG H h c
 | .int _,_,_,_,i,hi=>by simp[kD]at hi
 | .bool,_,_,_,i,hi=>by simp[kD]at hi
 | .str,_,_,_,i,hi=>by simp[kD]at hi
 | .sl _,_,_,_,i,hi=>by simp[kD]at hi
 | .fz _,_,_,_,i,hi=>by simp[kD]at hi
 | .row _ _,c,_,_,i,hi=>by cases c<;>first | exact hi | (simp[kD]at hi;done)
 | .an1 _ _,c,_,_,i,hi=>by cases c<;>first | exact hi | (simp[kD]at hi;done)
 | .abx _ _,c,_,_,i,hi=>by
  cases c with
  | ptr id z i' o=>cases i'<;>cases o<;>first | exact hi | (simp[kD]at hi;done)
  | _=>simp[kD]at hi
 | .arr _,_,h,_,_,_=>by simp[eg]at h
 | .same _,_,h,_,_,_=>by simp[eg]at h
 | .agg _,_,h,_,_,_=>by simp[eg]at h
 | .box _ _,_,_,h,_,_=>by cases h
end
def yw: ∀ (l:List Sh) (cs:List AV),xb l=true→ ∀ i∈cn H l cs,i∈dV H l cs
 | [],cs,_,i,hi=>by simp[cn]at hi
 | _::_,[],_,i,hi=>by simp[cn]at hi
 | h::l,c::cs,hl,i,hi=>by
  simp only[xb,k0,axR,auF,avw]at hl;obtain⟨⟨h1,h2⟩,h3,h4⟩:=hl;simp only[cn,auX]at hi;rcases hi with hi | hi
  ·exact auT _ (HO h c h1 h3 i hi)
  ·refine auY _ (yw l cs ?_ i hi);simp only[xb,auF];exact⟨h2,h4⟩
def wa:List AV→List Nat
 | []=>[]
 | .ptr id _ 0 0::l=>id::wa l
 | _::l=>wa l
def afm{id:Nat}: ∀ {ds:List AV},id∈wa ds→ ∃ z,AV.ptr id z 0 0∈ds
 | [],h=>by cases h
 | c::ds,h=>by
  have rest:id∈wa ds→ ∃ z,AV.ptr id z 0 0∈c::ds:=fun h=>by
   obtain⟨z,hz⟩:=afm h;exact⟨z,auJ _ hz⟩
  cases c<;>first | exact rest h | skip
  rename_i a b i o;cases i<;>cases o<;>first | exact rest h | skip
  rcases au5.1 h with h | h
  ·subst h;exact⟨b,auM⟩
  ·exact rest h
inductive Fb (P:Program) (w:World) (H:Hp):List Sh→List AV→List Value→List AV→List Value→Prop
 | nil:Fb P w H [] [] [] [] []
 | flat {t:TypeId} {l bs:List Sh} {id z bb:Nat} {cs ds:List AV} {vs us:List Value} (hl:xb l=true) (hb: ∃ t0 cs0,H id=some (.box t0 cs0)) (h:Fb P w H bs cs vs ds us):
   Fb P w H (.box t l::bs) (.ptr id z 0 0::cs) (.pointer (some ⟨bb,0,none⟩)::vs) (.ptr id z 0 0::ds) (.pointer (some ⟨bb,0,none⟩)::us)
 | nest {t t2 t0:TypeId} {l2 l bs:List Sh} {id z id2 z2 bb bb2:Nat} {cs1 cs ds:List AV} {vs us:List Value} (hl2:xb l2=true) (hl:xb l=true) (hid:H id=some (.box t0 (.ptr id2 z2 0 0::cs1)))
   (hb2: ∃ t0 cs0,H id2=some (.box t0 cs0)) (hn:T5 P t=true) (hc: ∃ us0 fr,w.heap[bb]? =some (.cells us0 t fr)∧us0[0]? =some (.pointer (some ⟨bb2,0,none⟩))) (h:Fb P w H bs cs vs ds us):
   Fb P w H (.box t (.box t2 l2::l)::bs) (.ptr id z 0 0::cs) (.pointer (some ⟨bb,0,none⟩)::vs) (.ptr id2 z2 0 0:: .ptr id z 0 0::ds) (.pointer (some ⟨bb2,0,none⟩):: .pointer (some ⟨bb,0,none⟩)::us)
def Fb.carry{bs:List Sh}{cs ds:List AV}{vs us:List Value}{H':Hp}(h:Fb P w H bs cs vs ds us)(hpk:Pk P w w')
  (hH: ∀ id∈wa ds,∀ t cs,H id=some (.box t cs)→ ∃ cs',H' id=some (.box t cs')∧ ∀ id2 z2 cs1,cs= .ptr id2 z2 0 0::cs1→id2∈wa ds→ ∃ apR,cs'= .ptr id2 z2 0 0::apR):Fb P w' H' bs cs vs ds us:=by
 induction h with
 | nil=>exact .nil
 | @flat t l bs id z bb cs ds vs us hl hb h ih=>
  refine .flat hl ?_ (ih fun i hi t0 c0 h0=> ?_)
  ·obtain⟨t0,c0,h0⟩:=hb;obtain⟨c1,h1,_⟩:=hH id auM t0 c0 h0;exact⟨t0,c1,h1⟩
  ·obtain⟨c1,h1,h2⟩:=hH i (auJ _ hi) t0 c0 h0;exact⟨c1,h1,fun a b c e hm=>h2 a b c e (auJ _ hm)⟩
 | @nest t t2 t0 l2 l bs id z id2 z2 bb bb2 cs1 cs ds vs us hl2 hl hid hb2 hn hc h ih=>
  obtain⟨c1,h1,h2⟩:=hH id (auJ _ auM) t0 _ hid;obtain⟨c2,rfl⟩:=h2 id2 z2 cs1 rfl auM;refine .nest hl2 hl h1 ?_ hn ?_ (ih fun i hi t0 c0 h0=> ?_)
  ·obtain⟨t3,c3,h3⟩:=hb2;obtain⟨c4,h4,_⟩:=hH id2 auM t3 c3 h3;exact⟨t3,c4,h4⟩
  ·obtain⟨us0,fr,h3,h4⟩:=hc;obtain⟨us1,fr1,h5,h6⟩:=hpk bb us0 t fr _ h3 h4 hn;exact⟨us1,fr1,h5,h6⟩
  ·obtain⟨c3,h3,h4⟩:=hH i (auJ _ (auJ _ hi)) t0 c0 h0;exact⟨c3,h3,fun a b c e hm=>h4 a b c e (auJ _ (auJ _ hm))⟩
def WK{l:List Sh}(hl:xb l=true)(H:Hp)(b:Nat)(x:LTs l){us1:List Value}{ob:List (Value×Nat)}(hr:an3 P w M e l x us1 ob):
  ∃ ds1 H1,aC E H b l x=(ds1,H1,b+ob.length)∧(∀ j,¬ (b≤j∧j < b+ob.length)→H1 j=H j)∧ ∀ β:Beta,(∀ b,MZ β b→M b)→Num β b ob→RL (RC w β) ds1 us1∧ ∀ j,b≤j→j < b+ob.length→ ∃ o,H1 j=some o∧aoo P w β j o:=by
 have hl':=hl;simp only[xb,auF]at hl';obtain⟨anR,aoa⟩:=F7 l hl'.1;have hlen:=HJ (E:=E) (P:=P) (w:=w) (M:=M) (e:=e) l H b x us1 ob anR hr;have aoI:=HH (E:=E) l H b x;have hrc:=fun(β:Beta) (hM: ∀ b,MZ β b→M b) (hn:Num β b ob)=>Mi (E:=E) (P:=P) (w:=w) (M:=M) (e:=e) hM l H b x us1 ob anR hr hn (by rw[aoa];intro t ht;simp at ht);generalize aC E H b l x=r at *;obtain⟨ds1,H1,b1⟩:=r;have hlen:b1=b+ob.length:=hlen;subst hlen;exact⟨ds1,H1,rfl,aoI,fun β hM hn=>⟨(hrc β hM hn).1,(hrc β hM hn).2.2.2⟩⟩
def agm{x y:Value×Nat}{oc ob nw us o2:List (Value×Nat)}(h:o2.Perm (nw++us)):(((oc++[x])++ob)++[y]++o2).Perm (((oc++ob)++nw)++x::y::us):=by
 have h1:(ob++y::o2).Perm (ob++nw++y::us):=by
  rw[au2];exact axL ob ((h.cons y).trans List.perm_middle.symm)
 have h2:(oc++x::(ob++y::o2)).Perm (oc++(ob++nw++x::y::us)):=axL oc ((h1.cons x).trans List.perm_middle.symm);simpa[au2] using h2
def Pj: ∀ (bs:List Sh) (H:Hp) (b:Nat) (q:LTs bs) (cs ds:List AV) (vs us:List Value) (os:List (Value×Nat)) (L:Nat),Fb P w H bs cs vs ds us→(wa ds).Nodup→(∀ i∈wa ds,¬ (b≤i∧i < L))→an3 P w M e bs q vs os→(bL E H b bs cs q).2.2≤L→
  ∃ nw:List (Value×Nat),os.Perm (nw++us.map fun v=>(v,1))∧(bL E H b bs cs q).2.2=b+nw.length∧
   ∀ β:Beta,(∀ b,MZ β b→M b)→Num β b nw→(∀ (i:Nat) (c:AV) (v:Value),ds[i]? =some c→us[i]? =some v→ ∀ id z,c= .ptr id z 0 0→β id=some (v,1))→
    (∀ j,(bL E H b bs cs q).2.1 j=H j∨ ∃ ob,(bL E H b bs cs q).2.1 j=some ob∧aoo P w β j ob)∧
    (∀ j,b≤j→j < b+nw.length→ ∃ ob,(bL E H b bs cs q).2.1 j=some ob∧aoo P w β j ob)∧
    (∀ id z,AV.ptr id z 0 0∈ds→ ∃ ob,(bL E H b bs cs q).2.1 id=some ob∧aoo P w β id ob)∧
    (∀ j,¬ (b≤j∧j < b+nw.length)→(∀ z,AV.ptr j z 0 0 ∉ ds)→(bL E H b bs cs q).2.1 j=H j)
 | [],H,b,q,cs,ds,vs,us,os,L,hF,_,_,hr,_=>by
  cases hF;obtain⟨_,rfl⟩:=hr;exact⟨[],.nil,rfl,fun β _ _ _=>⟨fun j=> .inl rfl,fun j h1 h2=>by simp at h2;omega,fun id z h=>by simp at h,fun j _ _=>rfl⟩⟩
 | h::bs,H,b,q,cs0,ds0,vs0,us0,os,L,hF,hnd,aoI,hr,hL=>by
  cases hF with
  | @flat t l _ id z bb cs ds vs us hl hb hF=>
   obtain⟨u,us',o1,o2,e1,rfl,h1,h2⟩:=hr;cases e1;obtain⟨bb',uc,os',e2,h3,h4,rfl⟩:=h1;cases e2;obtain⟨t0,c0,hid⟩:=hb;obtain⟨da,H1,hmk,ho1,hrc⟩:=WK (E:=E) hl H b q.1 h4;have apy:id ∉ wa ds∧(wa ds).Nodup:=by simpa[wa] using hnd
   have un:bL E H b (.box t l::bs) (.ptr id z 0 0::cs) q=(match bL E (upd H1 id (some (.box t da))) (b+os'.length) bs cs q.2 with | (es,H'',b'')=>(AV.ptr id z 0 0::es,H'',b'')):=by
    have u1:bL E H b (.box t l::bs) (.ptr id z 0 0::cs) q=(match nC E H b (.box t l) (.ptr id z 0 0) q.1 with | (d,H,b)=>match bL E H b bs cs q.2 with | (ds,H,b)=>(d::ds,H,b)):=rfl;have u2:nC E H b (.box t l) (.ptr id z 0 0) q.1=(match H id with
     | some (.box _ cs)=>(match bL E H b l cs q.1 with | (ds,H,b)=>(AV.ptr id z 0 0,upd H id (some (.box t ds)),b))
     | _=>(.un,H,b)):=rfl
    rw[u1,u2,hid];simp only;rw[Dx l H b c0 q.1 hl,hmk]
   rw[un]at hL ⊢;have hle:=xD E bs (upd H1 id (some (.box t da))) (b+os'.length) cs q.2;have hL':(bL E (upd H1 id (some (.box t da))) (b+os'.length) bs cs q.2).2.2≤L:=by
    generalize bL E (upd H1 id (some (.box t da))) (b+os'.length) bs cs q.2=r at *;exact hL
   have aoa: ∀ i∈wa ds,upd H1 id (some (.box t da)) i=H i:=fun i hi=>by
    rw[aM _ _ (fun e=>apy.1 (by rw[← e];exact hi)),ho1 i (fun hh=>aoI i (auJ _ hi) ⟨hh.1,by omega⟩)]
   obtain⟨nw,n1,n4,n5⟩:=Pj bs (upd H1 id (some (.box t da))) (b+os'.length) q.2 cs ds vs us o2 L (hF.carry (Pk.refl _ _) fun i hi t c h0=>⟨c,by rw[aoa i hi];exact h0,fun _ _ c1 e _=>⟨c1,e⟩⟩) apy.2
    (fun i hi hh=>aoI i (auJ _ hi) ⟨by omega,hh.2⟩) h2 hL'
   generalize hg:bL E (upd H1 id (some (.box t da))) (b+os'.length) bs cs q.2=r at *;obtain⟨es,H'',b''⟩:=r;simp only at n4 n5 hle hL hL' ⊢;refine⟨os'++nw, ?_, ?_, ?_⟩
   ·rw[au2,au2,avJ];refine axL os' ?_;exact((n1.cons (axi (some ⟨bb,0,none⟩),1)).trans List.perm_middle.symm)
   ·rw[n4];simp[avI]
   ·intro β hM hn hbx;obtain⟨r1,r3⟩:=hrc β hM hn.left;have atH:β id=some (.pointer (some ⟨bb,0,none⟩),1):=hbx 0 _ _ rfl rfl id z rfl;have asS:aoo P w β id (.box t da):=⟨bb,uc,atH,h3,r1⟩;obtain⟨m1,m2,m3,m4⟩:=n5 β hM hn.right (fun i c v k1 k2=>hbx (i+1) c v (by simpa using k1) (by simpa using k2));have step: ∀ j,H'' j=H1 j∨ ∃ ob,H'' j=some ob∧aoo P w β j ob:=fun j=>by
     rcases m1 j with h | h
     ·by_cases e4:j=id
      ·subst e4;rw[aD]at h;exact .inr ⟨_,h,asS⟩
      ·rw[aM _ _ e4]at h;exact .inl h
     ·exact .inr h
    refine⟨fun j=> ?_,fun j k1 k2=> ?_,fun id2 z2 hm=> ?_,fun j k1 k2=> ?_⟩
    ·rcases step j with h | h
     ·by_cases hj:b≤j∧j < b+os'.length
      ·obtain⟨ob,q1,q2⟩:=r3 j hj.1 hj.2;exact .inr ⟨ob,by rw[h];exact q1,q2⟩
      ·exact .inl (h.trans (ho1 j hj))
     ·exact .inr h
    ·by_cases hj:j < b+os'.length
     ·rcases step j with h | h
      ·obtain⟨ob,q1,q2⟩:=r3 j k1 hj;exact⟨ob,by rw[h];exact q1,q2⟩
      ·exact h
     ·exact m2 j (by omega) (by simp at k2;omega)
    ·rcases au5.1 hm with h | h
     ·cases h;rcases m1 id with h | h
      ·rw[aD]at h;exact⟨_,h,asS⟩
      ·exact h
     ·exact m3 id2 z2 h
    ·have hne:j≠id:=fun e4=>k2 z (by rw[e4];exact auM);rw[m4 j (fun hh=>k1 ⟨by omega,by simp;omega⟩) (fun z' hz'=>k2 z' (auJ _ hz')),aM _ _ hne];exact ho1 j (fun hh=>k1 ⟨hh.1,by simp;omega⟩)
  | @nest t t2 t0 l2 l _ id z id2 z2 bb bb2 cs1 cs ds vs us hl2 hl hid hb2 hn hc hF=>
   obtain⟨u,us',o1,o2,e1,rfl,h1,h2⟩:=hr;cases e1;obtain⟨bb',uc,os',e2,h3,h4,rfl⟩:=h1;cases e2;obtain⟨u2,us1,oa,ob,huc,rfl,h5,h6⟩:=h4;obtain⟨aup,uc2,oc,e3,h7,h8,rfl⟩:=h5;have e4:u2= .pointer (some ⟨bb2,0,none⟩):=by
    obtain⟨us0,fr,k1,k2⟩:=hc;rw[h3]at k1;cases k1;have:uc.toList[0]? =some u2:=by rw[huc];rfl
    rw[axJ,k2]at this;exact(avD this).symm
   rw[e4]at e3;cases e3;subst e4;obtain⟨t3,c3,apX⟩:=hb2;have apy:(id2≠id∧id2 ∉ wa ds)∧id ∉ wa ds∧(wa ds).Nodup:=by simpa[wa,not_or] using hnd
   obtain⟨da,H1,hmk,ho1,atN⟩:=WK (E:=E) hl2 H b q.1.1 h8;obtain⟨dc,H3,atV,ho2,atM⟩:=WK (E:=E) hl (upd H1 id2 (some (.box t2 da))) (b+oc.length) q.1.2 h6;have un:bL E H b (.box t (.box t2 l2::l)::bs) (.ptr id z 0 0::cs) q=
     (match bL E (upd H3 id (some (.box t (.ptr id2 z2 0 0::dc)))) (b+oc.length+ob.length) bs cs q.2 with | (es,H'',b'')=>(AV.ptr id z 0 0::es,H'',b'')):=by
    have u1:bL E H b (.box t (.box t2 l2::l)::bs) (.ptr id z 0 0::cs) q=(match nC E H b (.box t (.box t2 l2::l)) (.ptr id z 0 0) q.1 with | (d,H,b)=>match bL E H b bs cs q.2 with | (ds,H,b)=>(d::ds,H,b)):=rfl;have u2:nC E H b (.box t (.box t2 l2::l)) (.ptr id z 0 0) q.1=(match H id with
     | some (.box _ cs)=>(match bL E H b (.box t2 l2::l) cs q.1 with | (ds,H,b)=>(AV.ptr id z 0 0,upd H id (some (.box t ds)),b))
     | _=>(.un,H,b)):=rfl
    have u3:bL E H b (.box t2 l2::l) (.ptr id2 z2 0 0::cs1) q.1=(match nC E H b (.box t2 l2) (.ptr id2 z2 0 0) q.1.1 with | (d,H,b)=>match bL E H b l cs1 q.1.2 with | (ds,H,b)=>(d::ds,H,b)):=rfl;have u4:nC E H b (.box t2 l2) (.ptr id2 z2 0 0) q.1.1=(match H id2 with
     | some (.box _ cs)=>(match bL E H b l2 cs q.1.1 with | (ds,H,b)=>(AV.ptr id2 z2 0 0,upd H id2 (some (.box t2 ds)),b))
     | _=>(.un,H,b)):=rfl
    rw[u1,u2,hid];simp only;rw[u3,u4,apX];simp only;rw[Dx l2 H b c3 q.1.1 hl2,hmk];simp only;rw[Dx l _ _ cs1 q.1.2 hl,atV]
   rw[un]at hL ⊢;have hle:=xD E bs (upd H3 id (some (.box t (.ptr id2 z2 0 0::dc)))) (b+oc.length+ob.length) cs q.2;have hL':(bL E (upd H3 id (some (.box t (.ptr id2 z2 0 0::dc)))) (b+oc.length+ob.length) bs cs q.2).2.2≤L:=by
    generalize bL E (upd H3 id (some (.box t (.ptr id2 z2 0 0::dc)))) (b+oc.length+ob.length) bs cs q.2=r at *;exact hL
   have hi2: ¬ (b≤id2∧id2 < L):=aoI id2 auM;have hi1: ¬ (b≤id∧id < L):=aoI id (auJ _ auM);have hold: ∀ j,¬ (b≤j∧j < b+oc.length+ob.length)→j≠id→j≠id2→upd H3 id (some (.box t (.ptr id2 z2 0 0::dc))) j=H j:=fun j hj e1 e2=>by
    rw[aM _ _ e1,ho2 j (fun hh=>hj ⟨by omega,hh.2⟩),aM _ _ e2,ho1 j (fun hh=>hj ⟨hh.1,by omega⟩)]
   have aoa: ∀ i∈wa ds,upd H3 id (some (.box t (.ptr id2 z2 0 0::dc))) i=H i:=fun i hi=>by
    have:=aoI i (auJ _ (auJ _ hi));exact hold i (fun hh=>this ⟨hh.1,by omega⟩) (fun e=>apy.2.1 (by rw[← e];exact hi)) (fun e=>apy.1.2 (by rw[← e];exact hi))
   obtain⟨nw,n1,n4,n5⟩:=Pj bs (upd H3 id (some (.box t (.ptr id2 z2 0 0::dc)))) (b+oc.length+ob.length) q.2 cs ds vs us o2 L (hF.carry (Pk.refl _ _) fun i hi t c h0=>⟨c,by rw[aoa i hi];exact h0,fun _ _ c1 e _=>⟨c1,e⟩⟩) apy.2.2
    (fun i hi hh=>aoI i (auJ _ (auJ _ hi)) ⟨by omega,hh.2⟩) h2 hL'
   generalize hg:bL E (upd H3 id (some (.box t (.ptr id2 z2 0 0::dc)))) (b+oc.length+ob.length) bs cs q.2=r at *;obtain⟨es,H'',b''⟩:=r;simp only at n4 n5 hle hL hL' ⊢;refine⟨oc++ob++nw, ?_, ?_, ?_⟩
   ·exact agm n1
   ·rw[n4];simp[avI]
   ·intro β hM hn hbx;have asg:Num β b oc:=hn.left.left;have asf:Num β (b+oc.length) ob:=hn.left.right;have ase:Num β (b+oc.length+ob.length) nw:=by
     have:=hn.right;rwa[auP,← avI]at this
    obtain⟨r1,r3⟩:=atN β hM asg;obtain⟨s1,s3⟩:=atM β hM asf;have hβ2:β id2=some (.pointer (some ⟨bb2,0,none⟩),1):=hbx 0 _ _ rfl rfl id2 z2 rfl;have hβ1:β id=some (.pointer (some ⟨bb,0,none⟩),1):=hbx 1 _ _ rfl rfl id z rfl;have ob2:aoo P w β id2 (.box t2 da):=⟨bb2,uc2,hβ2,h7,r1⟩;have ob1:aoo P w β id (.box t (.ptr id2 z2 0 0::dc)):=by
     refine⟨bb,uc,hβ1,h3, ?_⟩;rw[huc];refine RL.cons ?_ s1;have:=RC.ptr (w:=w) (β:=β) (id:=id2) (sz:=z2) (i:=0) (o:=0) hβ2 (b:=bb2) (f:=0) rfl (by omega);simpa using this
    obtain⟨m1,m2,m3,m4⟩:=n5 β hM ase (fun i c v k1 k2=>hbx (i+2) c v (by simpa using k1) (by simpa using k2));have h4: ∀ j,(upd H3 id (some (.box t (.ptr id2 z2 0 0::dc))) j=H j∧ ¬ (b≤j∧j < b+oc.length+ob.length)∧j≠id∧j≠id2)∨ ∃ o,upd H3 id (some (.box t (.ptr id2 z2 0 0::dc))) j=some o∧aoo P w β j o:=fun j=>by
     by_cases e1:j=id
     ·subst e1;exact .inr ⟨_,aD _ _ _,ob1⟩
     by_cases e2:j=id2
     ·subst e2;refine .inr ⟨_, ?_,ob2⟩;rw[aM _ _ e1,ho2 j (fun hh=>hi2 ⟨by omega,by omega⟩),aD]
     by_cases k1:b≤j∧j < b+oc.length+ob.length
     ·by_cases k2:j < b+oc.length
      ·obtain⟨o,q1,q2⟩:=r3 j k1.1 k2;exact .inr ⟨o,by rw[aM _ _ e1,ho2 j (by omega),aM _ _ e2];exact q1,q2⟩
      ·obtain⟨o,q1,q2⟩:=s3 j (by omega) k1.2;exact .inr ⟨o,by rw[aM _ _ e1];exact q1,q2⟩
     ·exact .inl ⟨hold j k1 e1 e2,k1,e1,e2⟩
    have step: ∀ j,(H'' j=H j∧ ¬ (b≤j∧j < b+oc.length+ob.length)∧j≠id∧j≠id2)∨ ∃ o,H'' j=some o∧aoo P w β j o:=fun j=>by
     rcases m1 j with h | h
     ·rcases h4 j with⟨k1,k2⟩ | ⟨o,k1,k2⟩
      ·exact .inl ⟨h.trans k1,k2⟩
      ·exact .inr ⟨o,h.trans k1,k2⟩
     ·exact .inr h
    refine⟨fun j=> ?_,fun j k1 k2=> ?_,fun id3 z3 hm=> ?_,fun j k1 k2=> ?_⟩
    ·rcases step j with h | h
     ·exact .inl h.1
     ·exact .inr h
    ·by_cases hj:j < b+oc.length+ob.length
     ·rcases step j with h | h
      ·exact absurd ⟨k1,hj⟩ h.2.1
      ·exact h
     ·exact m2 j (by omega) (by simp at k2;omega)
    ·rcases au5.1 hm with h | h
     ·cases h;rcases step id2 with h | h
      ·exact absurd rfl h.2.2.2
      ·exact h
     rcases au5.1 h with h | h
     ·cases h;rcases step id with h | h
      ·exact absurd rfl h.2.2.1
      ·exact h
     ·exact m3 id3 z3 h
    ·have hne:j≠id:=fun e4=>k2 z (by rw[e4];exact auJ _ auM);have atU:j≠id2:=fun e4=>k2 z2 (by rw[e4];exact auM);rw[m4 j (fun hh=>k1 ⟨by omega,by simp;omega⟩) (fun z' hz'=>k2 z' (auJ _ (auJ _ hz')))];exact hold j (fun hh=>k1 ⟨hh.1,by simp;omega⟩) hne atU
def WJ(hH:Hs B β H w): ∀ (ps:List Sh) (cs:List AV) (vs:List Value) (x:LTs ps),akz B.P ps=true→RL (R1 w β) cs vs→rV E H ps cs=some x→
  ∃ ds us,Fb B.P w H (bg ps) (fN ps cs) (pW ps vs) ds us∧
   RL (fun c v=> ∃ id z bb,c=AV.ptr id z 0 0∧v=axi (some ⟨bb,0,none⟩)∧(∃ t cs,H id=some (.box t cs))∧β id=some (v,1)∧id∈cn H ps cs) ds us∧
   (wa ds).Sublist (cn H ps cs)∧ ∀ i∈cn H ps cs,i∈dV H ps cs∨ ∃ z,AV.ptr i z 0 0∈ds
 | [],[],vs,x,_,hr,hx=>by
  have:=hr.of_nil;subst this;exact⟨[],[],.nil,.nil,avF _,fun i hi=>by simp[cn]at hi⟩
 | [],_::_,_,_,_,_,hx=>by cases hx
 | _::_,[],_,_,_,_,hx=>by cases hx
 | h::ps,c::cs,vs,x,hp,hr,hx=>by
  obtain⟨v,vs,rfl,h1,h2⟩:=hr.anH;obtain⟨x1,e1,hx⟩:=auI.1 hx;obtain⟨x2,e2,hx⟩:=auI.1 hx;simp only[akz,auF]at hp;obtain⟨ds,us,f1,f2,f3,f4⟩:=WJ hH ps cs vs x2 hp.2 h2 e2;have f2':RL (fun c' v'=> ∃ id z bb,c'=AV.ptr id z 0 0∧v'=axi (some ⟨bb,0,none⟩)∧(∃ t cs,H id=some (.box t cs))∧β id=some (v',1)∧id∈cn H (h::ps) (c::cs)) ds us:=
   f2.mono fun c' v' ⟨id,z,bb,k1,k2,k3,k4,k5⟩=>⟨id,z,bb,k1,k2,k3,k4,auY _ k5⟩
  have hY:bg (h::ps)=bg ps→fN (h::ps) (c::cs)=fN ps cs→pW (h::ps) (v::vs)=pW ps vs→(∀ i∈kD H h c,i∈iG H h c)→
    ∃ ds us,Fb B.P w H (bg (h::ps)) (fN (h::ps) (c::cs)) (pW (h::ps) (v::vs)) ds us∧
     RL (fun c' v'=> ∃ id z bb,c'=AV.ptr id z 0 0∧v'=axi (some ⟨bb,0,none⟩)∧(∃ t cs,H id=some (.box t cs))∧β id=some (v',1)∧id∈cn H (h::ps) (c::cs)) ds us∧
     (wa ds).Sublist (cn H (h::ps) (c::cs))∧ ∀ i∈cn H (h::ps) (c::cs),i∈dV H (h::ps) (c::cs)∨ ∃ z,AV.ptr i z 0 0∈ds:=fun g1 g2 g3 g4=>by
   rw[g1,g2,g3];refine⟨ds,us,f1,f2',f3.trans (axp _ _),fun i hi=> ?_⟩;rcases auX.1 hi with hi | hi
   ·exact .inl (auT _ (g4 i hi))
   ·exact(f4 i hi).imp (auY _) fun h=>h
  cases h with
  | box t l=>
   have hp1:=hp.1;simp only[auF,avo,avw]at hp1;cases c<;>first | (cases e1;done) | skip
   rename_i id z i o;cases i<;>cases o<;>simp only[eY]at e1<;>first | (cases e1;done) | skip
   split at e1
   case h_2=>cases e1
   rename_i t' cs' hid;split at e1
   case h_2=>cases e1
   rename_i hbt;obtain rfl:=aI hbt;have h1:=h1.aqP;cases h1 with
   | @ptr _ _ _ _ hd n bb f k1 ha hi=>
    obtain⟨b',uc,j1,j2,j3⟩:=hH.aoq id _ hid;rw[k1]at j1;cases j1;cases ha;have e0:(axi (some ⟨bb,0+(0 * z+0),none⟩))=axi (some ⟨bb,0,none⟩):=by simp
    by_cases ap7:ae6 l=true
    ·
     cases l with
     | nil=>cases ap7
     | cons h0 l=>
      cases h0 with
      | box t2 l2=>
       obtain⟨hl,hn⟩:=hp1;have hn:T5 B.P t=true:=hn.resolve_left (by rw[ap7];simp);simp only[alS,auF]at hl;cases cs' with
       | nil=>cases e1
       | cons c2 cs1=>
        obtain⟨y1,g1,g2⟩:=auI.1 e1;obtain⟨u2,us1,huc,q1,q2⟩:=j3.anH;cases c2<;>first | (cases g1;done) | skip
        rename_i id2 z2 i2 o2;cases i2<;>cases o2<;>simp only[eY]at g1<;>first | (cases g1;done) | skip
        split at g1
        case h_2=>cases g1
        rename_i t2' cs2 apX;obtain⟨b2,uc2,m1,m2,m3⟩:=hH.aoq id2 _ apX;cases q1 with
        | @ptr _ _ _ _ hd2 n2 bb2 f2x k1' ha' hi'=>
         rw[m1]at k1';cases k1';cases ha';have e00:(axi (some ⟨b2,0+(0 * z2+0),none⟩))=axi (some ⟨b2,0,none⟩):=by simp
         rw[e00]at huc;refine⟨.ptr id2 z2 0 0:: .ptr id z 0 0::ds,.pointer (some ⟨b2,0,none⟩):: .pointer (some ⟨bb,0,none⟩)::us, ?_, ?_, ?_,fun i hi=> ?_⟩
         ·rw[e0];exact .nest hl.1 hl.2 hid ⟨_,_,apX⟩ hn ⟨uc,_,j2,by rw[← axJ,huc];rfl⟩ f1
         ·refine RL.cons ⟨id2,z2,b2,rfl,rfl,⟨_,_,apX⟩,m1, ?_⟩ (RL.cons ⟨id,z,bb,rfl,rfl,⟨_,_,hid⟩,k1, ?_⟩ f2')
          ·simp[cn,kD,hid,apX]
          ·simp[cn,kD,hid]
         ·simp only[wa,cn,kD,hid,apX];refine List.Sublist.trans ?_ (List.Sublist.append_left f3 _);have:(((cn H l2 cs2++[id2])++cn H l cs1)++[id])++wa ds=cn H l2 cs2++(id2::(cn H l cs1++(id::wa ds))):=by simp
          rw[this];exact(((axp _ _:(id::wa ds).Sublist (cn H l cs1++(id::wa ds)))).cons_cons id2).trans (axp _ _)
         ·simp only[cn,kD,hid,apX,auX,avh]at hi;rcases hi with(((hi | hi) | hi) | hi) | hi
          ·refine .inl (auT _ ?_);simp only[iG,hid,dV,apX];exact auT _ (yw l2 cs2 hl.1 i hi)
          ·subst hi;exact .inr ⟨z2,auM⟩
          ·refine .inl (auT _ ?_);simp only[iG,hid,dV,apX];exact auY _ (yw l cs1 hl.2 i hi)
          ·subst hi;exact .inr ⟨z,auJ _ auM⟩
          ·rcases f4 i hi with h | ⟨z',h⟩
           ·exact .inl (auY _ h)
           ·exact .inr ⟨z',auJ _ (auJ _ h)⟩
      | _=>cases ap7
    ·
     have hl:xb l=true:=by
      have:=hp1.1;cases l with
      | nil=>rfl
      | cons h0 l=>cases h0<;>first | exact this | exact absurd rfl ap7
     refine⟨.ptr id z 0 0::ds,.pointer (some ⟨bb,0,none⟩)::us, ?_, ?_, ?_,fun i hi=> ?_⟩
     ·rw[e0];exact .flat hl ⟨_,_,hid⟩ f1
     ·refine RL.cons ⟨id,z,bb,rfl,rfl,⟨_,_,hid⟩,k1, ?_⟩ f2';simp[cn,kD,hid]
     ·simp only[wa,cn,kD,hid];rw[au2];exact((f3.cons_cons id)).trans (axp _ _)
     ·simp only[cn,kD,hid,auX,avh]at hi;rcases hi with(hi | hi) | hi
      ·refine .inl (auT _ ?_);simp only[iG,hid];exact yw l cs' hl i hi
      ·subst hi;exact .inr ⟨z,auM⟩
      ·rcases f4 i hi with h | ⟨z',h⟩
       ·exact .inl (auY _ h)
       ·exact .inr ⟨z',auJ _ h⟩
  | agg l=>
   refine hY rfl rfl rfl fun i hi=> ?_;cases c with
   | agg cs'=>
    simp only[iG];exact yw l cs' hp.1 i (by simpa[kD] using hi)
   | _=>simp[kD]at hi
  | arr=>exact hY rfl rfl rfl fun i hi=>by simp[kD]at hi
  | same=>exact hY rfl rfl rfl fun i hi=>by simp[kD]at hi
  | int=>exact hY rfl rfl rfl fun i hi=>by simp[kD]at hi
  | bool=>exact hY rfl rfl rfl fun i hi=>by simp[kD]at hi
  | str=>exact hY rfl rfl rfl fun i hi=>by simp[kD]at hi
  | sl=>exact hY rfl rfl rfl fun i hi=>by simp[kD]at hi
  | fz=>exact hY rfl rfl rfl fun i hi=>by simp[kD]at hi
  | row t k=>exact hY rfl rfl rfl (HO _ c rfl rfl)
  | an1 t k=>exact hY rfl rfl rfl (HO _ c rfl rfl)
  | abx t k=>exact hY rfl rfl rfl (HO _ c rfl rfl)
def ab7{t:TypeId}{j:Nat}: ∀ (ids:List Nat) (s:S) {cs:List AV},j ∉ ids→s.H j=some (.box t cs)→ ∃ cs',(ids.foldl S.kill s).H j=some (.box t cs')∧ ∀ id2 z2 cs1,cs= .ptr id2 z2 0 0::cs1→id2 ∉ ids→ ∃ apR,cs'= .ptr id2 z2 0 0::apR
 | [],s,cs,_,h=>⟨cs,h,fun _ _ c e _=>⟨c,e⟩⟩
 | i::ids,s,cs,hj,h=>by
  have hne:j≠i:=fun e=>hj (e▸auM);obtain⟨c',h1,h2⟩:=ab7 (t:=t) (j:=j) ids (s.kill i) (cs:=cs.map (kl1 i)) (fun hm=>hj (auJ _ hm)) (by
   show upd (fun j=>iY (kl1 i) (s.H j)) i none j=_;rw[aM _ _ hne,h];rfl)
  refine⟨c',h1,fun id2 z2 cs1 e hn=> ?_⟩;subst e;have hn2:id2≠i:=fun e=>hn (e▸auM);have e1:auW id2 i=false:=by rw[← awo,awY];exact hn2
  exact h2 id2 z2 (cs1.map (kl1 i)) (by simp[kl1,e1]) (fun hm=>hn (auJ _ hm))
def Vk{t:TypeId}{j:Nat}: ∀ (ids:List Nat) (s:S) {cs:List AV},j ∉ ids→s.H j=some (.box t cs)→ ∃ cs',(ids.foldl S.freeze s).H j=some (.box t cs')∧ ∀ id2 z2 cs1,cs= .ptr id2 z2 0 0::cs1→id2 ∉ ids→ ∃ apR,cs'= .ptr id2 z2 0 0::apR
 | [],s,cs,_,h=>⟨cs,h,fun _ _ c e _=>⟨c,e⟩⟩
 | i::ids,s,cs,hj,h=>by
  have hne:j≠i:=fun e=>hj (e▸auM);have: ∃ cs',(s.freeze i).H j=some (.box t cs')∧ ∀ id2 z2 cs1,cs= .ptr id2 z2 0 0::cs1→id2≠i→ ∃ apR,cs'= .ptr id2 z2 0 0::apR:=by
   unfold S.freeze;split
   ·rename_i k xs _;refine⟨cs.map (fz1 i k xs), ?_,fun id2 z2 cs1 e hn=> ?_⟩
    ·show upd (fun j=>iY (fz1 i k xs) (s.H j)) i none j=_;rw[aM _ _ hne,h];rfl
    ·subst e;have e1:auW id2 i=false:=by rw[← awo,awY];exact hn
     exact⟨cs1.map (fz1 i k xs),by simp[fz1,e1]⟩
   ·refine⟨cs.map (kl1 i), ?_,fun id2 z2 cs1 e hn=> ?_⟩
    ·show upd (fun j=>iY (kl1 i) (s.H j)) i none j=_;rw[aM _ _ hne,h];rfl
    ·subst e;have e1:auW id2 i=false:=by rw[← awo,awY];exact hn
     exact⟨cs1.map (kl1 i),by simp[kl1,e1]⟩
  obtain⟨c',h',hd'⟩:=this;obtain⟨c2,h2,h3⟩:=Vk (t:=t) (j:=j) ids (s.freeze i) (fun hm=>hj (auJ _ hm)) h';refine⟨c2,h2,fun id2 z2 cs1 e hn=> ?_⟩;obtain⟨apR,e'⟩:=hd' id2 z2 cs1 e (fun e=>hn (e▸auM));exact h3 id2 z2 apR e' (fun hm=>hn (auJ _ hm))
def ala{t:TypeId}{j:Nat}(q:Bool)(ids:List Nat)(s:S){cs:List AV}(hj: ¬ (q=true∧j∈ids))(h:s.H j=some (.box t cs)):
  ∃ cs',(E5 q ids s).H j=some (.box t cs')∧ ∀ id2 z2 cs1,cs= .ptr id2 z2 0 0::cs1→ ¬ (q=true∧id2∈ids)→ ∃ apR,cs'= .ptr id2 z2 0 0::apR:=by
 cases q with
 | false=>exact⟨cs,h,fun _ _ c e _=>⟨c,e⟩⟩
 | true=>
  obtain⟨c',h1,h2⟩:=Vk ids s (fun hm=>hj ⟨rfl,hm⟩) h;exact⟨c',h1,fun id2 z2 cs1 e hn=>h2 id2 z2 cs1 e fun hm=>hn ⟨rfl,hm⟩⟩
def ahW{cs:List AV}{vs:List Value}(h:RL (R1 w β) cs vs):R2 w β (Lr cs) (ZL vs):=by
 match cs,vs,h with
 | [],vs,h=>
  have:=h.of_nil;subst this;exact⟨[],rfl,.nil⟩
 | [c],vs,h=>
  obtain⟨v,vs',rfl,h1,h2⟩:=h.anH;have:=h2.of_nil;subst this;exact .ao4 h1
 | c::c'::cs,vs,h=>
  obtain⟨v,vs',rfl,h1,h2⟩:=h.anH;obtain⟨v',ath,rfl,h3,h4⟩:=h2.anH;exact⟨v::v'::ath,rfl,h⟩
def abL: ∀ (ps:List Sh) (k:Nat) (t:Nat),t∈eO k ps→k≤t∧ ∃ e l,ps[t - k]? =some (.box e l)
 | [],_,_,h=>by cases h
 | p::ps,k,t,h=>by
  have tail:t∈eO (k+1) ps→k≤t∧ ∃ e l,(p::ps)[t - k]? =some (.box e l):=fun h=>by
   obtain⟨h1,e,l,h2⟩:=abL ps (k+1) t h;refine⟨by omega,e,l, ?_⟩;have:t - k=(t - (k+1))+1:=by omega
   rw[this];simpa using h2
  unfold eO at h;split at h
  ·rename_i hb;rcases au5.1 h with rfl | h
   ·refine⟨auS _, ?_⟩;cases p<;>first | (cases hb;done) | skip
    rename_i t0 l0;exact⟨t0,l0,by simp⟩
   ·exact tail h
  ·exact tail h
def abF{H:Hp}: ∀ {ps:List Sh} {cs:List AV} {x:LTs ps},rV E H ps cs=some x→ ∀ {i:Nat} {h:Sh},ps[i]? =some h→ ∃ c y,cs[i]? =some c∧eY E H h c=some y
 | [],cs,x,_,i,h,hi=>by simp at hi
 | _::_,[],_,h,_,_,_=>by cases h
 | p::ps,c::cs,x,hx,i,h,hi=>by
  obtain⟨x1,e1,hx⟩:=auI.1 hx;obtain⟨x2,e2,hx⟩:=auI.1 hx;cases i with
  | zero=>simp at hi;subst hi;exact⟨c,x1,rfl,e1⟩
  | succ i=>
   obtain⟨c',y,h1,h2⟩:=abF e2 (by simpa using hi);exact⟨c',y,by simpa using h1,h2⟩
end
end Go.VS
namespace Go.VS
open Go
def okQ(P:Program)(m:aoi):Bool:=akz P m.ps&&Fe m.rs&&(rS m.rs).all fun t=>(eO 0 m.ps).any fun p=>auW p t
section
variable {B B':anT} {β β':Beta} {H:Hp} {w w':World} {M M':Nat→Prop} {stk:List (Array Value)} {s s':S} {a:Act} {P:Program} {E:Nat→AV} {e:Nat→Value} {b:Nat} {C:Cx}
def YJ{o:Oper}{f:FuncId}{args:List Operand}{ts:Array TypeId}{K:Act→World→Prop}{Q:Exit→Act→World→Prop}(hE:DS P f)(ho:o.op= .call { callee:= .value (.func f),args:=args.toArray,argTypes:=ts })
  {R:Ending→World→Prop}(hc:Calls P f (args.map a.eval).toArray w R)(hR: ∀ en w',R en w'→ ∃ v,en= .returned v∧K (a.put o.dst v) w'):o.wp P a w K Q:=by
 unfold Oper.wp;have h1:execOp a.eval o=callFunc f (args.map a.eval).toArray:=by
  have ef:a.eval (.func f)= .func (.func f) #[] #[]:=rfl;unfold execOp;simp[ho,resolve,Deferred.ofValue,invoke,ef]
 rw[h1,hE];refine ax1 hc fun en w' h=> ?_;obtain⟨v,rfl,hk⟩:=hR en w' h;exact hk
def Uv: ∀ (ids:List Nat) (s:S),(ids.foldl S.kill s).gs=s.gs∧(ids.foldl S.kill s).n=s.n∧(ids.foldl S.kill s).pins=s.pins
 | [],_=>⟨rfl,rfl,rfl⟩
 | i::ids,s=>Uv ids (s.kill i)
def ag2(q:Bool)(ids:List Nat)(s:S):(E5 q ids s).gs=s.gs∧(E5 q ids s).n=s.n∧(E5 q ids s).pins=s.pins:=by
 cases q with
 | false=>exact⟨rfl,rfl,rfl⟩
 | true=>
  obtain⟨h1,h2,h3,_⟩:=xq ids s;exact⟨h1,h2,h3⟩
def agA{h:Sh}{x:LT h}{v:Value}{os:List (Value×Nat)}(ht:al9 h=true)(hr:Rel P w M e h x v os):(cY E H b h x).2.2=b+os.length:=by
 by_cases hh:tv h=true
 ·exact abU h H b x v os hh hr
 ·cases h<;>first | (exact absurd ht hh;done) | skip
  case agg l=>
   obtain⟨us,rfl,h1⟩:=hr;have un:cY E H b (.agg l) x=(match aC E H b l x with | (cs,H,b)=>(AV.agg cs,H,b)):=rfl;have:=HJ (E:=E) l H b x us os ht h1;rw[un];generalize aC E H b l x=r at *;exact this
  case arr k=>
   obtain⟨rfl,h1⟩:=hr;rfl
def Ul: ∀ {l:List Sh} {H:Hp} {b:Nat} {x:LTs l} {us:List Value} {os:List (Value×Nat)},Fe l=true→an3 P w M e l x us os→(aC E H b l x).2.2=b+os.length
 | [],H,b,x,us,os,_,hr=>by obtain⟨_,rfl⟩:=hr;rfl
 | h::l,H,b,x,us,os,hl,hr=>by
  obtain⟨u,us',o1,o2,rfl,rfl,h1,h2⟩:=hr;simp only[Fe,auF]at hl;have un:aC E H b (h::l) x=(match cY E H b h x.1 with | (c,H,b)=>match aC E H b l x.2 with | (cs,H,b)=>(c::cs,H,b)):=rfl;have k:=agA (E:=E) (H:=H) (b:=b) hl.1 h1;rw[un];generalize cY E H b h x.1=r at *;obtain⟨c,H',b'⟩:=r;have k:b'=b+o1.length:=k;subst k;have k2:=Ul (H:=H') (b:=b+o1.length) hl.2 h2;simp only;generalize aC E H' (b+o1.length) l x.2=r at *;obtain⟨cs,H'',b''⟩:=r;have k2:b''=_:=k2;simp[k2,avI]
def agZ{O:Nat→Prop}(hg:ac2 B.P B.w0 B.O)(hs:Hs B β H w)(hO: ∀ b,O b→MB β b):ac2 B.P w O:=by
 obtain⟨w0,h1,h2⟩:=hg;refine⟨w0,h1,fun b hb=> ?_⟩;obtain⟨h3,h4,h5⟩:=h2 b hb;exact⟨fun h=>(hs.old b (hO b h)).1.elim h3 (by omega),av8 h4 hs.size,(hs.block b h4 h3).trans h5⟩
def alz{m:aoi}{f:FuncId}(hS:we B.P f m)(hk:okQ B.P m=true){d:Option Nat}{as:List Operand}{o:Oper}{ts:Array TypeId}{K:Act→World→Prop}{Q:Exit→Act→World→Prop}
  (hst:St B β stk s a w)(hfr: ∀ j,b≤j→j < b+16→s.H j=none)(hd:s.has d=true)(he:yR m s b d (as.map s.ev) some=some s')(hod:o.dst=d)(ho:o.op= .call { callee:= .value (.func f),args:=as.toArray,argTypes:=ts })
  (hK:Ht B stk a d s' K):o.wp B.P a w K Q:=by
 simp only[okQ,auF,avn,awL]at hk;obtain⟨⟨hps,hrs⟩,hsm⟩:=hk;unfold yR at he;simp only at he;split at he
 case h_2=>cases he
 rename_i x hx hnd;obtain⟨r,hr,he⟩:=auI.1 he;simp only[auF]at hnd;have aqF:=C8 hnd.1;generalize hcs:as.map s.ev=cs at *;generalize an0:as.map a.eval=args;have hlen:args.length=cs.length:=by rw[← hcs,← an0];simp
 have hrx: ∀ (i:Nat) (c:AV) (v:Value),cs[i]? =some c→args[i]? =some v→RX w β (dW a) c v:=fun i c v h1 h2=>by
  rw[← hcs,avz]at h1;rw[← an0,avz]at h2;obtain⟨y,hy,rfl⟩:=avc.1 h1;rw[hy]at h2;cases h2;exact hst.eval y
 have hpl:=vF hx;have rl:RL (R1 w β) cs args:=⟨hlen,fun j c u h1 h2=>(hrx j c u h1 h2).apZ (hpl c (au8 h1)).1 (hpl c (au8 h1)).2⟩;generalize hE:(fun(i:Nat)=>(cs[i]?).getD AV.un)=E at *;have atc: ∀ {t:Nat} {c:AV},cs[t]? =some c→E t=c:=fun h=>by rw[← hE];simp[h]
 generalize hI:cn s.H m.ps cs=ids at *;generalize hro:dV s.H m.ps cs=ro at *;generalize hfz:eX s.H m.ps cs=fz at *;have aq5:ro.Sublist ids:=by rw[← hro,← hI];exact Hz _ _
 have arC: ∀ i∈ro,Oz s.H i:=by rw[← hro];exact C0 _ _ _ hx
 have arF: ∀ i∈fz,Oz s.H i:=by rw[← hfz];exact Dy _ _ _ hx
 obtain⟨bc,bv,hFb,hba,ark,apM⟩:=WJ (E:=E) hst.hs m.ps cs args x hps rl hx;rw[hI]at hba ark apM;rw[hro]at apM
 let Zc:Nat→Prop:=fun bl=>MZ β bl∧bl ∉ bX (ids.filterMap β)∧bl ∉ bX (fz.filterMap β)
 have R:aqg B β s.H w (fun bl=>bl∈bX (ids.filterMap β)∨Zc bl) E (ar args):={
  hs:=hst.hs
  hM:=fun bl h=>h.elim (fun h=> .inl (N9 h)) (fun h=>h.1)
  hE:=fun t id z hEt=>by
   cases hc:cs[t]? with
   | none=>rw[← hE]at hEt;simp[hc]at hEt
   | some c=>
    have hlt:t < args.length:=by rw[hlen];exact(auR.1 hc).1
    rw[atc hc];exact rl.2 t c _ hc (by simp[ar,hlt]) }
 have at0:ZF β (fun bl=>bl∈bX (ids.filterMap β)∨Zc bl) fz:=fun i hi p a' hp ha hm=>by
  rcases hm with hm | hm
  ·exact Vh hst.hs hnd.2 i hi p a' hp ha (.inl hm)
  ·exact hm.2.2 (avU.2 ⟨p,avU.2 ⟨i,hi,hp⟩,by simp[xf,ha]⟩)
 obtain⟨os,aor,aoP⟩:=C3 R m.ps cs args x rl hx (by rw[hfz];exact at0);rw[hI]at aoP;have asx:(fun bl=>bl∈bX (ids.filterMap β)∨Zc bl)=fun bl=>bl∈bX os∨Zc bl:=by rw[aoP]
 rw[asx]at aor;have ap6: ∀ bl∈bX os,MB β bl:=fun bl h=>by rw[aoP]at h;exact N9 h
 have an8:=hS.2 x r hr w Zc args os aor (by rw[aoP];exact DQ hst.hs aqF)
  (fun bl h=>⟨(hst.hs.old bl (ap6 bl h)).2,fun hz=>hz.2.1 (by rw[← aoP];exact h)⟩) (fun bl h=>by
   rcases h.1 with h1 | h1
   ·exact(hst.hs.old bl h1).2
   ·exact hst.hs.zl bl h1)
  (agZ B.gl hst.hs (fun bl h=>ap6 bl h))
 rw[← an0]at an8;refine YJ hS.1 ho an8 ?_;rw[an0];rintro en w' ⟨v,rfl,apn⟩;refine⟨v,rfl, ?_⟩;rw[hod];obtain⟨vs,os1,os2,rfl,hr1,hr2,ard,hbl⟩:=apn.ex;obtain⟨β1,h1,hβ1,hZ1⟩:=St.aqc (a:=a) (w:=w) (stk:=stk) ro (aqF.sublist aq5) hst;obtain⟨β2,h2,hβ2,hZ2⟩:=h1.asy (dN m.rs||dN (bg m.ps)) fz;have aoa:=ag2 (dN m.rs||dN (bg m.ps)) fz (ro.foldl S.kill s);have apI:=Uv ro s;have aub: ∀ {id:Nat} {t:TypeId} {cs0:List AV},s.H id=some (.box t cs0)→ ∃ cs1,(E5 (dN m.rs||dN (bg m.ps)) fz (ro.foldl S.kill s)).H id=some (.box t cs1):=fun {id t cs0} hid=>by
  obtain⟨cs1,h⟩:=YR ro s (fun hm=>arC id hm t cs0 hid) hid;exact ajj _ fz _ (fun hm=>arF id hm.2 t cs0 hid) h
 have arc: ∀ j,s.H j=none→(E5 (dN m.rs||dN (bg m.ps)) fz (ro.foldl S.kill s)).H j=none:=fun j hj=>
  (Vj (N:=fun _=>False) (dN m.rs||dN (bg m.ps)) fz (anG.aqt ro (anG.refl _ s))).nn j (fun h=>h) hj
 generalize hq:(dN m.rs||dN (bg m.ps))=q at *;generalize hs2:E5 q fz (ro.foldl S.kill s)=s2 at *;have arA: ∀ j p,β2 j=some p→β j=some p∧j ∉ ro∧ ¬ (q=true∧j∈fz):=fun j p h=>by
  rw[hβ2]at h;split at h
  ·cases h
  ·rename_i hn;rw[hβ1]at h;split at h
   ·cases h
   ·rename_i hn';exact⟨h,hn',hn⟩
 have as9: ∀ bl,β2.Z bl↔β.Z bl∨ ∃ i∈ro,∃ p a,β i=some p∧adr p.1=some a∧a.block=bl:=fun bl=>by rw[hZ2];exact hZ1 bl
 generalize hbc:fN m.ps cs=bcT at *;generalize hbv:pW m.ps args=bvT at *;have hM2: ∃ M2:Nat→Prop,an3 B.P w' M2 (ar args) m.rs r.1 vs os1∧an3 B.P w' M2 (ar args) (bg m.ps) r.2 bvT os2∧(q=false→ ∀ bl,M2 bl)∧(q=true→ ∀ bl,(bl∈bX (os1++os2)∨Zc bl)→M2 bl):=by
  cases q with
  | false=>
   simp only[axo]at hq;exact⟨fun _=>True,an3.anyM _ _ _ _ hq.1 hr1,an3.anyM _ _ _ _ hq.2 hr2,fun _ _=>trivial,fun h=>by cases h⟩
  | true=>exact⟨_,hr1,hr2,(by intro h;cases h),fun _ bl h=>h⟩
 obtain⟨M2,asV,atO,hMf,hMt⟩:=hM2;generalize hg:bL E s2.H b (bg m.ps) bcT r.2=g at *;obtain⟨ds,H1,b1⟩:=g;simp only at he;generalize hmk:aC E H1 b1 m.rs r.1=g at *;obtain⟨rc,Hf,b2⟩:=g;simp only at he;split at he
 case h_2=>cases he
 rename_i hb2;have hb2:=avg hb2;cases he;have aqD:b1≤b2:=by have:=jS E m.rs H1 b1 r.1;rw[hmk]at this;exact this
 have hgb:(bL E s2.H b (bg m.ps) bcT r.2).2.2≤b+16:=by rw[hg];exact avr aqD hb2
 have hdK: ∀ i∈wa bc,i ∉ ro∧i ∉ fz∧ ∃ t cs0,s.H i=some (.box t cs0):=fun i hi=>by
  obtain⟨z,hz⟩:=afm hi;obtain⟨j,hj⟩:=aza hz;obtain⟨v,_,id,z',bb,k1,_,⟨t,cs0,k3⟩,_,_⟩:=hba.get hj;cases k1;exact⟨fun h=>arC i h _ _ k3,fun h=>arF i h _ _ k3,t,cs0,k3⟩
 have aue:Fb B.P w' s2.H (bg m.ps) bcT bvT bc bv:=hFb.carry apn.pk fun i hi t cs0 h0=>by
  obtain⟨k1,k2,_⟩:=hdK i hi;obtain⟨cs1,h3,h4⟩:=ab7 ro s k1 h0;obtain⟨cs2,h5,h6⟩:=ala q fz (ro.foldl S.kill s) (fun hm=>k2 hm.2) h3;rw[hs2]at h5;refine⟨cs2,h5,fun id2 z2 c1 e hm=> ?_⟩;obtain⟨c2,e2⟩:=h4 id2 z2 c1 e (hdK id2 hm).1;exact h6 id2 z2 c2 e2 (fun hm'=>(hdK id2 hm).2.1 hm'.2)
 obtain⟨nw,asc,hb1,hgi⟩:=Pj (E:=E) (P:=B.P) (w:=w') (M:=M2) (e:=ar args) (bg m.ps) s2.H b r.2 bcT bc bvT bv os2 (b+16) aue (aqF.sublist ark)
  (fun i hi hh=>by
   obtain⟨_,_,t,cs0,k3⟩:=hdK i hi;rw[hfr i hh.1 hh.2]at k3;cases k3) atO hgb
 rw[hg]at hb1 hgi;simp only at hb1 hgi
 let os':=nw++os1
 let β3:Beta:=⟨fun j=>if b≤j∧j < b+os'.length then os'[j - b]? else β2 j,B.Z⟩
 have aoY: ∀ j p,β3 j=some p→(b≤j∧j < b+os'.length∧os'[j - b]? =some p)∨(¬ (b≤j∧j < b+os'.length)∧β2 j=some p):=fun j p h=>by
  have h:(if b≤j∧j < b+os'.length then os'[j - b]? else β2 j)=some p:=h;split at h
  ·rename_i hh;exact .inl ⟨hh.1,hh.2,h⟩
  ·rename_i hh;exact .inr ⟨hh,h⟩
 have aqS:Num β3 b os':=fun i p hp=>by
  have hlt:=(auR.1 hp).1;show(if b≤b+i∧b+i < b+os'.length then os'[b+i - b]? else β2 (b+i))=some p;rw[aus ⟨by omega,by omega⟩,show b+i - b=i by omega];exact hp
 have apo:(bX os2).Perm (bX nw++bX (bv.map fun v=>(v,1))):=by
  have:=asc.filterMap xf;rwa[awr]at this
 have aoX: ∀ bl,bl∈bX os'→bl∈bX (os1++os2):=fun bl h=>by
  simp only[os',bX,awr,auX]at h ⊢;rcases h with h | h
  ·exact .inr (apo.mem_iff.2 (auT _ h))
  ·exact .inl h
 have arD:(bX os'++bX (bv.map fun v=>(v,1))).Nodup:=by
  have h1:(bX (os1++os2)).Perm (bX os'++bX (bv.map fun v=>(v,1))):=by
   simp only[os',bX,awr]at apo ⊢;refine(axL _ apo).trans ?_;rw[← au2];exact List.Perm.append_right _ List.perm_append_comm
  exact h1.nodup_iff.1 ard
 have ash:(bX os').Nodup:=(aw4.1 arD).1;have aqI: ∀ i,i∈ids→i ∉ ro→ ∃ v,(v,1)∈bv.map (fun v=>(v,1))∧β i=some (v,1)∧(∃ z,AV.ptr i z 0 0∈bc):=fun i hi hn=>by
  rcases apM i hi with h | ⟨z,h⟩
  ·exact absurd h hn
  ·obtain⟨j,hj⟩:=aza h;obtain⟨v,hv,id,z',bb,k1,k2,k3,k4,k5⟩:=hba.get hj;cases k1;exact⟨v,avH.2 ⟨v,au8 hv,rfl⟩,k4,z,h⟩
 have aqA: ∀ j p a',β2 j=some p→adr p.1=some a'→a'.block∈bX os→j∈ids∧j ∉ ro:=fun j p a' hj ha hm=>by
  obtain⟨h0,h1,_⟩:=arA j p hj;rw[aoP]at hm;obtain⟨i,hi,p',a2,hp',ha',e'⟩:=tD hm;have:=hst.hs.inj j i p p' a' a2 h0 hp' ha ha' e'.symm;subst this;exact⟨hi,h1⟩
 have aqd: ∀ bl,bl∈bX os→MZ β2 bl:=fun bl hm=>by
  have hm':=hm;rw[aoP]at hm;obtain⟨i,hi,p,a',hp,ha,e'⟩:=tD hm;by_cases hr:i∈ro
  ·exact .inr ((as9 bl).2 (.inr ⟨i,hr,p,a',hp,ha,e'⟩))
  ·refine .inl ⟨i,p.1,p.2,a', ?_,ha,e'⟩;have hnf:i ∉ fz:=fun hf=>abP hnd.2 i hf hi;rw[hβ2,aur (fun h=>hnf h.2),hβ1,aur hr];exact hp
 have aqv: ∀ bl,MB β3 bl→MB β2 bl∨bl∈bX os':=fun bl hm=>by
  obtain⟨j,hd',n,a',hj,ha,e'⟩:=hm;rcases aoY j _ hj with⟨_,_,hj⟩ | ⟨_,hj⟩
  ·exact .inr (avU.2 ⟨_,au8 hj,by simp[xf,ha,e']⟩)
  ·exact .inl ⟨j,hd',n,a',hj,ha,e'⟩
 have anR: ∀ bl o v,¬ MZ β2 bl→w.cell? ⟨bl,o,none⟩=some v→w'.cell? ⟨bl,o,none⟩=some v:=fun bl o v hn hc=>by
  have hlt:=block_lt_of_cell hc;rw[ayf (w:=w) (w':=w') (apn.block bl hlt (fun hm=>hn (aqd bl hm)))];exact hc
 have aud: ∀ bl,¬ MZ β2 bl→bl < w.heap.size→ ¬ MZ β3 bl:=fun bl hn hlt hm=>by
  rcases hm with hm | hm
  ·rcases aqv bl hm with h | h
   ·exact hn (.inl h)
   ·rcases(hbl bl (aoX bl h)).1 with h3 | h3
    ·exact hn (aqd bl h3)
    ·omega
  ·exact hn (.inr ((as9 bl).2 (.inl (by rw[hst.hs.z];exact hm))))
 have arz: ∀ j p,β2 j=some p→β3 j=some p:=fun j p hj=>by
  have hne: ¬ (b≤j∧j < b+os'.length):=fun hh=>by
   have asn:os'.length=nw.length+os1.length:=by simp[os']
   have h3:=(hgi:_);obtain⟨ob,hob⟩:=h2.hs.dom j p hj;have:=arc j (hfr j hh.1 (by
    have:b2=b1+os1.length:=by
     have:=Ul hrs asV (E:=E) (H:=H1) (b:=b1);rw[hmk]at this;exact this
    omega))
   rw[this]at hob;cases hob
  show(if b≤j∧j < b+os'.length then os'[j - b]? else β2 j)=some p;rw[aur hne];exact hj
 have hkp:Kp w β2 w' β3:=fun c v hc=>hc.mono arz anR aud;have hM3: ∀ bl,MZ β3 bl→M2 bl:=fun bl hm=>by
  cases q with
  | false=>exact hMf rfl bl
  | true=>
   refine hMt rfl bl ?_;rcases hm with hm | hm
   ·rcases aqv bl hm with h | h
    ·obtain⟨j,hd',n,a',hj,ha,e'⟩:=h;obtain⟨k1,k2,k3⟩:=arA j _ hj;by_cases hji:j∈ids
     ·obtain⟨v,hv1,hv2,_⟩:=aqI j hji k2;rw[k1]at hv2;cases hv2;refine .inl ?_;simp only[bX,awr,auX];refine .inr (apo.mem_iff.2 (auY _ (avU.2 ⟨_,hv1,by simp[xf,ha,e']⟩)))
     ·refine .inr ⟨.inl ⟨j,hd',n,a',k1,ha,e'⟩,fun hb=> ?_,fun hb=> ?_⟩
      ·rw[← aoP,← e']at hb;exact hji (aqA j _ a' hj ha hb).1
      ·obtain⟨i,hi,p,a2,hp,ha2,e2⟩:=tD hb;have:=hst.hs.inj j i _ p a' a2 k1 hp ha ha2 (e'.trans e2.symm);subst this;exact k3 ⟨rfl,hi⟩
    ·exact .inl (aoX bl h)
   ·have hz:β.Z bl:=by rw[hst.hs.z];exact hm
    refine .inr ⟨.inr hz,fun hb=> ?_,fun hb=> ?_⟩
    ·obtain⟨i,hi,p,a2,hp,ha2,e2⟩:=tD hb;exact hst.hs.zn i p a2 hp ha2 (e2▸hz)
    ·obtain⟨i,hi,p,a2,hp,ha2,e2⟩:=tD hb;exact hst.hs.zn i p a2 hp ha2 (e2▸hz)
 obtain⟨g1,g2,g3,g4⟩:=hgi β3 hM3 aqS.left (fun i c v k1 k2 id z hc=>by
  obtain⟨id',z',bb,j1,j2,j3,j4,j5⟩:=hba.2 i c v k1 k2;rw[hc]at j1;cases j1;refine arz id _ ?_;have hnr:id ∉ ro:=fun h=>arC id h _ _ j3.choose_spec.choose_spec;have hnf:id ∉ fz:=fun h=>arF id h _ _ j3.choose_spec.choose_spec;rw[hβ2,aur (fun h=>hnf h.2),hβ1,aur hnr];exact j4)
 have ar5:WU w' β3 E (ar args) (rS m.rs):=fun t ht=>by
  obtain⟨p,hp1,hp2⟩:=hsm t ht;obtain rfl:=aI hp2;obtain⟨_,e1,l1,hp3⟩:=abL m.ps 0 p hp1;rw[aw1]at hp3;obtain⟨c,y,hc,hy⟩:=abF hx hp3;have hlt:p < args.length:=by rw[hlen];exact(auR.1 hc).1
  have hR:=rl.2 p c (ar args p) hc (by simp[ar,hlt]);rw[atc hc];cases c<;>first | (cases hy;done) | skip
  rename_i id z i' o';cases i'<;>cases o'<;>simp only[eY]at hy<;>first | (cases hy;done) | skip
  split at hy
  case h_2=>cases hy
  rename_i t' cs' hid;have hnr:id ∉ ro:=fun h=>arC id h _ _ hid;have hnf:id ∉ fz:=fun h=>arF id h _ _ hid;have hR:=hR.aqP;generalize ar args p=v at hR;cases hR with
  | ptr k1 k2 k3=>exact .aoL (.ptr (arz id _ (by rw[hβ2,aur (fun h=>hnf h.2),hβ1,aur hnr];exact k1)) k2 k3)
 obtain⟨f1,f2,f3⟩:=Mh (β:=β3) (E:=E) (M:=M2) (P:=B.P) (w:=w') (e:=ar args) hM3 m.rs H1 b1 r.1 vs os1 hrs asV (by rw[hb1];exact aqS.right) ar5;rw[hmk]at f1 f2 f3;simp only at f1 f2 f3;have asn:os'.length=nw.length+os1.length:=by simp[os']
 have asY: ∀ j,(∃ ob,Hf j=some ob∧aoo B.P w' β3 j ob)∨(Hf j=s2.H j∧ ∀ z,AV.ptr j z 0 0 ∉ bc):=fun j=>by
  by_cases hj:b1≤j∧j < b1+os1.length
  ·exact .inl (f3.2 j hj.1 hj.2)
  ·have e1:Hf j=H1 j:=f3.1 j (by omega);rcases g1 j with h | ⟨ob,h,h'⟩
   ·by_cases hm: ∃ z,AV.ptr j z 0 0∈bc
    ·obtain⟨z,hm⟩:=hm;obtain⟨ob,h3,h4⟩:=g3 j z hm;exact .inl ⟨ob,by rw[e1];exact h3,h4⟩
    ·exact .inr ⟨e1.trans h,fun z hz=>hm ⟨z,hz⟩⟩
   ·exact .inl ⟨ob,by rw[e1];exact h,h'⟩
 have hHf:Hs B β3 Hf w':={
  aoq:=fun j ob hj=>by
   rcases asY j with⟨ob',h3,h4⟩ | ⟨h3,h4⟩
   ·rw[h3]at hj;cases hj;exact h4
   ·rw[h3]at hj;have hob:=h2.hs.aoq j ob hj;have hex: ∃ p,β2 j=some p:=by
     cases ob with
     | box e cs=>obtain⟨_,_,h,_⟩:=hob;exact⟨_,h⟩
     | row e fz k xs=>obtain⟨_,h,_⟩:=hob;exact⟨_,h⟩
     | arr e k xs=>obtain⟨_,_,h,_⟩:=hob;exact⟨_,h⟩
    obtain⟨p,hp⟩:=hex;refine hob.mono (by rw[arz j p hp,hp]) hkp fun p' a' hp' ha'=> ?_;rw[hp]at hp';cases hp';have hlt:=(h2.hs.old a'.block ⟨j,p.1,p.2,a',hp,ha',rfl⟩).2;refine apn.block a'.block hlt fun hm=> ?_;obtain⟨h5,h6⟩:=aqA j p a' hp ha' hm;obtain⟨_,_,_,z,hz⟩:=aqI j h5 h6;exact h4 z hz
  dom:=fun j p hj=>by
   rcases asY j with⟨ob',h3,_⟩ | ⟨h3,_⟩
   ·exact⟨ob',h3⟩
   ·rcases aoY j p hj with⟨k1,k2,k3⟩ | ⟨_,hj⟩
    ·by_cases hjb:j < b+nw.length
     ·obtain⟨ob,k4,_⟩:=g2 j k1 hjb;have:Hf j=H1 j:=f3.1 j (by omega);exact⟨ob,by rw[this];exact k4⟩
     ·obtain⟨ob,k4,_⟩:=f3.2 j (by omega) (by omega);exact⟨ob,k4⟩
    ·obtain⟨ob,k4⟩:=h2.hs.dom j p hj;exact⟨ob,by rw[h3];exact k4⟩
  inj:=fun i j p p' a1 a2 hi hj ha1 ha2 hb=>by
   have apS: ∀ (i j:Nat) (p p':Value×Nat) (a1 a2:Addr),β2 i=some p→os'[j - b]? =some p'→adr p.1=some a1→adr p'.1=some a2→a1.block=a2.block→False:=by
    intro i j p p' a1 a2 hi hj ha1 ha2 hb;have hm2:a2.block∈bX os':=avU.2 ⟨p',au8 hj,by simp[xf,ha2]⟩;rcases(hbl a2.block (aoX _ hm2)).1 with h3 | h3
    ·rw[← hb]at h3;obtain⟨h5,h6⟩:=aqA i p a1 hi ha1 h3;obtain⟨v,hv1,hv2,_⟩:=aqI i h5 h6;rw[(arA i p hi).1]at hv2;cases hv2;have hm1:a1.block∈bX (bv.map fun v=>(v,1)):=avU.2 ⟨_,hv1,by simp[xf,ha1]⟩;exact(aw4.1 arD).2.2 _ hm2 _ hm1 hb.symm
    ·have:=(h2.hs.old a1.block ⟨i,p.1,p.2,a1,hi,ha1,rfl⟩).2;omega
   rcases aoY i p hi with⟨i1,i2,i3⟩ | ⟨_,i3⟩<;>rcases aoY j p' hj with⟨j1,j2,j3⟩ | ⟨_,j3⟩
   ·have:=Me ash (i - b) (j - b) p p' a1 a2 i3 j3 ha1 ha2 hb;omega
   ·exact(apS j i p' p a2 a1 j3 i3 ha2 ha1 hb.symm).elim
   ·exact(apS i j p p' a1 a2 i3 j3 ha1 ha2 hb).elim
   ·exact h2.hs.inj i j p p' a1 a2 i3 j3 ha1 ha2 hb
  old:=fun bl hm=>by
   rcases aqv bl hm with h | h
   ·exact⟨(h2.hs.old bl h).1,av8 (h2.hs.old bl h).2 apn.size⟩
   ·have h3:=hbl bl (aoX bl h);refine⟨?_,h3.2⟩;rcases h3.1 with h4 | h4
    ·exact(hst.hs.old bl (ap6 bl h4)).1
    ·exact .inr (avr hst.hs.size h4)
  os:=apn.wos.trans hst.hs.os
  tape:=apn.tape.trans hst.hs.tape
  output:=apn.output.trans hst.hs.output
  size:=avr hst.hs.size apn.size
  block:=fun bl hlt hO=>by
   rw[apn.block bl (av8 hlt hst.hs.size) fun hm=> ?_]
   ·exact hst.hs.block bl hlt hO
   ·rcases(hst.hs.old bl (ap6 bl hm)).1 with h | h
    ·exact hO h
    ·omega
  z:=rfl
  zn:=fun j p a' hj ha hz=>by
   rcases aoY j p hj with⟨_,_,j3⟩ | ⟨_,j3⟩
   ·have hm2:a'.block∈bX os':=avU.2 ⟨p,au8 j3,by simp[xf,ha]⟩;rcases(hbl a'.block (aoX _ hm2)).1 with h3 | h3
    ·rw[aoP]at h3;obtain⟨i,hi,p2,a2,hp2,ha2,e2⟩:=tD h3;exact hst.hs.zn i p2 a2 hp2 ha2 (by rw[e2,hst.hs.z];exact hz)
    ·have:=hst.hs.zl a'.block (by rw[hst.hs.z];exact hz);omega
   ·exact hst.hs.zn j p a' (arA j p j3).1 ha (by rw[hst.hs.z];exact hz)
  zl:=fun bl hz=>av8 (hst.hs.zl bl (by rw[hst.hs.z];exact hz)) apn.size
  pk:=hst.hs.pk.trans apn.pk }
 have ast:St B β3 stk { s2 with H:=Hf } a w':=by
  refine⟨fun t=>RT.mono hkp (h2.T t),⟨h2.stack.1,fun i T tm k1 k2 t=>RT.mono hkp (h2.stack.2 i T tm k1 k2 t)⟩,h2.n,h2.defers,h2.pins,h2.gs,hHf⟩
 have aot:({ s2 with H:=Hf } :S).has d=true:=by
  have:({ s2 with H:=Hf } :S).has d=s.has d:=Pf (aoa.1.trans apI.1) (aoa.2.1.trans apI.2.1) (aoa.2.2.trans apI.2.2) d;rw[this];exact hd
 exact hK β3 (ZL vs) w' (Ow ast aot (ahW f1))
end
end Go.VS
namespace Go.VS
open Go
section
variable {B:anT} {β β':Beta} {H:Hp} {w w':World} {stk:List (Array Value)} {s s':S} {a:Act} {P:Program} {C:Cx}
def PY(hΓ: ∀ f d m,C.Γ f d=some m→we P f m∧okQ P m=true)(B:anT)(hB:B.P=P):oW C B:=by
 intro f d m hm β stk s a w b as s' o ts K Q hst hfr hd he hod ho hK;obtain⟨h1,h2⟩:=hΓ f d m hm;rw[← hB]at h1 h2;exact alz h1 h2 hst hfr hd he hod ho hK
def abK{c:AV}(h:plB c=true):(∀ g w v,c≠ .gd g w v)∧ ∀ vs,c≠ .tup vs:=by
 constructor
 ·rintro g w v rfl;cases h
 ·rintro vs rfl;cases h
def aeY(hP:C.P=B.P)(hm:B.P.follows .mixedOrders=true)(hC:oW C B): ∀ n,EQ C B (adU C n)
 | 0=>abR C B
 | n+1=>by
  intro Ω f d as s k q he β stk a w o args ts K Q hst hfr hd hod has ho hK;have ih:=aeY hP hm hC n;unfold adU at he;simp only at he;split at he
  ·cases he
  rename_i fn hfn;split at he
  case h_2=>cases he
  rename_i body arn aoA;split at he
  case h_2=>cases he
  rename_i arl;simp only[auF]at arl;obtain⟨⟨hc1,hc2⟩,hc3⟩:=arl;have hpl: ∀ c∈as,(∀ g w v,c≠ .gd g w v)∧ ∀ vs,c≠ .tup vs:=fun c hc=>abK (avn.1 hc3 c hc);have hlen:as.length≤fn.ntmps:=avg hc2;rw[hP]at hfn;refine YJ (qQ hfn (by simpa using aoA) arn) ho (R:=fun en w'=> ∃ v,en= .returned v∧K (a.put o.dst v) w') ?_ (fun en w' h=>h);refine calls_of_wp hfn arn ?_;have an0:(args.map a.eval).length=as.length:=by rw[has];simp
  have atJ:St B β (a.tmps::stk) { s with n:=fn.ntmps,T:=fun t=>(as[t]?).getD qU,st:=s.T::s.st,pins:=[],gs:=fun _=>false }
    { tmps:=(args.map a.eval).toArray++axV (fn.ntmps - (args.map a.eval).toArray.size) undef,defers:=[] } w:=by
   refine⟨fun t=> ?_,⟨by simp[hst.stack.1],fun i T tm h1 h2 t=> ?_⟩, ?_,rfl,fun t ht=>by simp at ht,fun t g want y hy=> ?_,hst.hs⟩
   ·rw[xG];show RT w β _ ((as[t]?).getD qU) _;cases hv:as[t]? with
    | none=>
     have:(args.map a.eval).length≤t:=by rw[an0];exact axW.1 hv
     have e0:ar (args.map a.eval) t=undef:=by simp only[ar,auQ,awa this];rfl
     rw[e0];exact(show R2 w β qU undef from rfl)
    | some c=>
     have hv':=hv;rw[has,avz]at hv';obtain⟨x,hx,rfl⟩:=avc.1 hv';have e0:ar (args.map a.eval) t=a.eval x:=by simp[ar,hx]
     rw[e0];have hp:=hpl _ (au8 hv);exact((hst.eval x).apZ hp.1 hp.2).arw
   ·cases i with
    | zero=>
     simp at h1 h2;subst h1;subst h2;exact hst.T t
    | succ i=>exact hst.stack.2 i T tm (by simpa using h1) (by simpa using h2) t
   ·simp only[ax5,awH,ay8];omega
   ·have hy:(as[t]?).getD qU= .gd g want y:=hy;cases hv:as[t]? with
    | none=>rw[hv]at hy;cases hy
    | some c=>
     rw[hv]at hy;exact absurd hy ((hpl c (au8 hv)).1 _ _ _)
  have key: ∀ β' a' w' s',St B β' (a.tmps::stk) s' a' w'→Fr s'→(match s'.st,HA C.P s' fn.results.toList with
     | T::st,some vs=>match vs.all plB with
      | true=>k ({ s' with n:=s.n,T:=fun t=>aej (T t),st:=st,pins:=s.pins,gs:=fun _=>false }.put d (Lr vs))
      | false=>none
     | _,_=>none)=some q→a'.defers=[]∧ ∃ v,(results fn a'.tmps).run B.P w'= .ok v w'∧ ∃ v',Ending.returned v= .returned v'∧K (a.put o.dst v') w':=by
   intro β' a' w' s' h1 h2 h3;refine⟨h1.defers, ?_⟩;split at h3
   case h_2=>cases h3
   rename_i T st vs ap4 hvs;split at h3
   case h_2=>cases h3
   rename_i aom;obtain⟨us,k1,k2,k3⟩:=LX hP h1 fn.results.toList hvs;rw[hP]at k1;refine⟨ZL us,Qw k1,ZL us,rfl, ?_⟩;rw[hod];have rl:RL (R1 w' β') vs us:=⟨k2,fun j c u e1 e2=>by
    have hp:=abK (avn.1 aom c (au8 e1));exact(k3 j c u e1 e2).apZ hp.1 hp.2⟩
   have aqR:=h1.stack;rw[ap4]at aqR;have hTt: ∀ t,RT w' β' (dW a) (T t) (dW a t):=fun t=>aqR.2 0 T a.tmps rfl rfl t;have ar3:St B β' stk { s' with n:=s.n,T:=fun t=>aej (T t),st:=st,pins:=s.pins,gs:=fun _=>false } a w':=by
    refine⟨fun t=> ?_,⟨by simpa using aqR.1,fun i T' tm e1 e2 t=>aqR.2 (i+1) T' tm (by simpa using e1) (by simpa using e2) t⟩,hst.n,hst.defers,hst.pins,fun t g want y hy=> ?_,h1.hs⟩
    ·have:=hTt t;show RT w' β' _ (aej (T t)) _;cases hT:T t<;>rw[hT]at this<;>first | exact this | trivial
    ·have hy:aej (T t)= .gd g want y:=hy;unfold aej at hy;split at hy
     ·cases hy
     ·rename_i hn;exact absurd hy (hn _ _ _)
   have aot:({ s' with n:=s.n,T:=fun t=>aej (T t),st:=st,pins:=s.pins,gs:=fun _=>false } :S).has d=true:=by
    cases d with
    | none=>rfl
    | some d=>
     simp only[S.has,auF,avw]at hd ⊢;exact⟨hd.1,trivial⟩
   refine hK β' (ZL us) w' _ (Ow ar3 aot (ahW rl)) (fun j hj=> ?_) ?_ ?_ h3
   ·have hj:s'.nid≤j:=by cases d<;>exact hj
    have:=h2 j hj;cases d<;>exact this
   ·cases d<;>rfl
   ·cases d<;>rfl
  refine HT hP hm hC ih body .nil _ _ q he atJ hfr (dq _ body) ⟨?_, ?_, ?_⟩
  ·exact fun β' a' w' s' h1 h2 _ _ h5=>key β' a' w' s' h1 h2 h5
  ·exact fun β' a' w' s' h1 h2 _ _ h5=>key β' a' w' s' h1 h2 h5
  ·intro id β' a' w' s' h1 h2 h3 h4 h5;cases h5
end
def eR{A R:Type}(t:(A→Option R)→A→Option R):Nat→A→Option R
 | 0=>fun _=>none
 | n+1=>t (eR t n)
open Classical in
def acs {A R:Type} (t:(A→Option R)→A→Option R) (x:A):Option R:=
 if h: ∃ n r,eR t n x=some r then some (axs (av9 h)) else none
def Zn{A R:Type}{t:(A→Option R)→A→Option R}{x:A}{r:R}(h:acs t x=some r): ∃ n,eR t n x=some r:=by
 unfold acs at h;split at h
 ·rename_i hn;have:=av9 (av9 hn);cases h;exact⟨_,this⟩
 ·cases h
def aga{P:Program}{f:FuncId}{ps rs:List Sh}{t:(LTs ps→Option (LTs rs×LTs (bg ps)))→LTs ps→Option (LTs rs×LTs (bg ps))}(he:DS P f)
  (h: ∀ g,we P f ⟨ps,rs,g⟩→we P f ⟨ps,rs,t g⟩):we P f ⟨ps,rs,acs t⟩:=by
 have hn: ∀ n,we P f ⟨ps,rs,eR t n⟩:=by
  intro n
  induction n with
  | zero=>exact⟨he,fun x r hx=>by cases hx⟩
  | succ n ih=>exact h _ ih
 refine⟨he,fun x r hx=> ?_⟩;obtain⟨n,hx⟩:=Zn hx;intro w Z args os h1 h2 h3 h4 h5;exact ax1 ((hn n).2 x r hx w Z args os h1 h2 h3 h4 h5) fun en w' ⟨v,e,hr⟩=>⟨v,e,⟨hr.ex,hr.wos,hr.tape,hr.output,hr.size,hr.block,hr.pk⟩⟩
end Go.VS
namespace Go.VS
open Go
def gam:List (Nat×Option Nat×aoi)→Nat→Option Nat→Option aoi
 | [],_,_=>none
 | (f,e,m)::l,g,d=>match auW f g&&(match e,d with
   | none,_=>true
   | some a,some b=>auW a b
   | some _,none=>false) with
  | true=>some m
  | false=>gam l g d
def ZE(P:Program)(l:List (Nat×Option Nat×aoi)):Prop:= ∀ e∈l,we P e.1 e.2.2∧okQ P e.2.2=true
def av{P:Program}:ZE P []:=fun e h=>by cases h
def ad4{P:Program}{l:List (Nat×Option Nat×aoi)}(h:ZE P l): ∀ f d m,gam l f d=some m→we P f m∧okQ P m=true:=by
 induction l with
 | nil=>intro f d m hm;cases hm
 | cons e l ih=>
  obtain⟨g,e,m'⟩:=e;intro f d m hm;unfold gam at hm;split at hm
  ·rename_i hc;simp only[auF]at hc;cases hm;obtain rfl:=aI hc.1;exact h _ auM
  ·exact ih (fun e he=>h e (auJ _ he)) f d m hm
def dU:Code→Adv→List (Code×Loop)
 | .seq a b,.join _ u v=>dU a u++dU b v
 | .seq a b,.two u v=>dU a u++dU b v
 | .seq a _,.one u=>dU a u
 | .cond _ x _,.one u=>dU x u
 | .cond _ x y,.two u v=>dU x u++dU y v
 | .cond _ x y,.join _ u v=>dU x u++dU y v
 | .block _ c,.one u=>dU c u
 | .block _ c,.two u _=>dU c u
 | .block _ c,.join _ u _=>dU c u
 | .loop c,.loop l=>[(c,l)]
 | _,_=>[]
def fO{L:Code→Loop→Prop}: ∀ (c:Code) (v:Adv),(∀ p∈dU c v,L p.1 p.2)→zd L c v
 | .seq a b,.join _ u v,h=>⟨fO a u fun p hp=>h p (auT _ hp),fO b v fun p hp=>h p (auY _ hp)⟩
 | .seq a b,.two u v,h=>⟨fO a u fun p hp=>h p (auT _ hp),fO b v fun p hp=>h p (auY _ hp)⟩
 | .seq a b,.one u,h=>⟨fO a u h,dq L b⟩
 | .seq a b,.nil,_=>⟨dq L a,dq L b⟩
 | .seq a b,.loop _,_=>⟨dq L a,dq L b⟩
 | .cond _ x y,.one u,h=>⟨fO x u h,dq L y⟩
 | .cond _ x y,.two u v,h=>⟨fO x u fun p hp=>h p (auT _ hp),fO y v fun p hp=>h p (auY _ hp)⟩
 | .cond _ x y,.join _ u v,h=>⟨fO x u fun p hp=>h p (auT _ hp),fO y v fun p hp=>h p (auY _ hp)⟩
 | .cond _ x y,.nil,_=>⟨dq L x,dq L y⟩
 | .cond _ x y,.loop _,_=>⟨dq L x,dq L y⟩
 | .block _ c,.one u,h=>fO c u h
 | .block _ c,.two u _,h=>fO c u h
 | .block _ c,.join _ u _,h=>fO c u h
 | .block _ c,.nil,_=>dq L c
 | .block _ c,.loop _,_=>dq L c
 | .loop c,.loop l,h=>h (c,l) (by simp[dU])
 | .loop _,.nil,_=>trivial
 | .loop _,.one _,_=>trivial
 | .loop _,.two _ _,_=>trivial
 | .loop _,.join _ _ _,_=>trivial
 | .skip,_,_=>trivial
 | .region _ _ _,_,_=>trivial
 | .exit _,_,_=>trivial
 | .ret,_,_=>trivial
 | .rangeFunc _ _ _ _,_,_=>trivial
 | .scope _,_,_=>trivial
 | .label _,_,_=>trivial
 | .goto _,_,_=>trivial
 | .refuse _,_,_=>trivial
def aj7(L:Code→Loop→Prop)(l:List (Code×Loop)):Prop:= ∀ p∈l,L p.1 p.2
def acZ{L:Code→Loop→Prop}{c:Code}{v:Adv}{l:List (Code×Loop)}(h:dU c v=l)(hl:aj7 L l):zd L c v:=fO c v (by rw[h];exact hl)
def ant{L:Code→Loop→Prop}:aj7 L []:=fun p h=>by cases h
def anu{L:Code→Loop→Prop}{c:Code}{v:Loop}{l:List (Code×Loop)}(h:L c v)(hl:aj7 L l):aj7 L ((c,v)::l):=fun p hp=>by
 rcases au5.1 hp with rfl | hp
 ·exact h
 ·exact hl p hp
abbrev Ent:=Nat×Option Nat×aoi
def SQ(P:Program)(e:Ent):Prop:=we P e.1 e.2.2∧okQ P e.2.2=true
def gC{P:Program}{e:Ent}{l:List Ent}(h:SQ P e)(hl:ZE P l):ZE P (e::l):=fun x hx=>by
 rcases au5.1 hx with rfl | hx
 ·exact h
 ·exact hl x hx
def inR:List (Nat×Nat)→Nat→Bool
 | [],_=>false
 | (a,b)::l,n=>match awt a n&&awt n b with
  | true=>true
  | false=>inR l n
structure OKC (P:Program) (C:Cx) (inl:(Ω:Type)→Inl Ω):Prop where
 p:C.P=P
 m:P.follows .mixedOrders=true
 c: ∀ B:anT,B.P=P→oW C B
 i: ∀ B:anT,B.P=P→EQ C B inl
def okc{P:Program}{kd:TypeId→Option K}{l:List Ent}{cz sp:Nat→Bool}(hm:P.follows .mixedOrders=true)(h:ZE P l):OKC P ⟨P,kd,gam l,cz,sp⟩ af:=
 ⟨rfl,hm,fun B hB=>PY (C:=⟨P,kd,gam l,cz,sp⟩) (ad4 h) B hB,fun B _=>abR _ B⟩
def anp{P:Program}{kd:TypeId→Option K}{l:List Ent}{cz sp:Nat→Bool}(n:Nat)(hm:P.follows .mixedOrders=true)(h:ZE P l):OKC P ⟨P,kd,gam l,cz,sp⟩ (adU ⟨P,kd,gam l,cz,sp⟩ n):=
 ⟨rfl,hm,fun B hB=>PY (C:=⟨P,kd,gam l,cz,sp⟩) (ad4 h) B hB,fun B hB=>aeY (C:=⟨P,kd,gam l,cz,sp⟩) (B:=B) hB.symm (by rw[hB];exact hm) (PY (C:=⟨P,kd,gam l,cz,sp⟩) (ad4 h) B hB) n⟩
def LpK(P:Program)(n:Nat)(pins:List Nat)(ls:List (Code×Loop)):Prop:= ∀ B:anT,B.P=P→aj7 (Hr B n pins) ls
def kN{P:Program}{n:Nat}{pins:List Nat}:LpK P n pins []:=fun _ _=>ant
def kC{P:Program}{n:Nat}{pins:List Nat}{c:Code}{l:Loop}{ls:List (Code×Loop)}(h:LpK P n pins [(c,l)])(hl:LpK P n pins ls):LpK P n pins ((c,l)::ls):=fun B hB=>anu (h B hB (c,l) auM) (hl B hB)
def lk{P:Program}{C:Cx}{inl:(Ω:Type)→Inl Ω}(hC:OKC P C inl){n:Nat}{pins:List Nat}{body:Code}{v:Adv}{l:Loop}{b:Lv l.sch→Option (Lv l.sch ⊕ (Lv l.apz ⊕ Lv l.apA))}{ls:List (Code×Loop)}
  (hb: ∀ x,evL C inl n pins body v l x=b x)(hr:l.run=aV b)(h:dU body v=ls)(hl:LpK P n pins ls):LpK P n pins [(body,l)]:=fun B hB p hp=>by
 obtain rfl:=avh.1 hp;exact akQ (hC.p.trans hB.symm) (by rw[hB];exact hC.m) (hC.c B hB) (hC.i B hB) hb hr (acZ h (hl B hB))
def fnB(P:Program)(f:Nat)(fn:Func)(m:aoi):Option Func×Bool×Bool×Bool:=(P.funcs[f]?, fn.name == "runtime.NumGoroutine",okM m fn.ntmps,okQ P m)
def so{P:Program}{C:Cx}{inl:(Ω:Type)→Inl Ω}{f:Nat}{d:Option Nat}{fn:Func}{m:aoi}{v:Adv}{ls:List (Code×Loop)}(hC:OKC P C inl)
  (hf:fnB P f fn m=(some fn,false,true,true))(hb:fn.body=some (Bk fn))(h:dU (Bk fn) v=ls)(hl:LpK P fn.ntmps (eO 0 m.ps) ls)(hg: ∀ x,alh C inl fn v m x=m.g x):SQ P (f,d,m):=by
 simp only[fnB,avs]at hf;exact⟨aie hC.p hC.m hC.c hC.i hf.1 hf.2.1 hb hf.2.2.1 (fun B hB=>acZ h (hl B hB)) hg,hf.2.2.2⟩
def soR{P:Program}{f:Nat}{d:Option Nat}{ps rs:List Sh}{t:(LTs ps→Option (LTs rs×LTs (bg ps)))→LTs ps→Option (LTs rs×LTs (bg ps))}(he:DS P f)
  (hq: ∀ g,okQ P ⟨ps,rs,g⟩=true)(h: ∀ g,SQ P (f,d,⟨ps,rs,g⟩)→SQ P (f,d,⟨ps,rs,t g⟩)):SQ P (f,d,⟨ps,rs,acs t⟩):=
 ⟨aga he fun g hg=>(h g ⟨hg,hq g⟩).1,hq _⟩
end Go.VS
end
