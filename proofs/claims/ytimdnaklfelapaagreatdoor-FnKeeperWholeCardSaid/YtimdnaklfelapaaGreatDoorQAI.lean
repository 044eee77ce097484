/- An evaluator of the program's own code with its soundness, the printed texts of the functions, and plain laws of them (part 9). -/
import Derived.Tactics
import Derived.Test.YtimdnaklfelapaaGreatDoorQAH
set_option linter.unusedVariables false
set_option linter.unusedSimpArgs false
set_option linter.defProp false
open Array renaming getD_eq_getD_getElem?→asT,getElem?_append_left→asj,getElem?_eq_some_iff→arD,getElem?_toList→atk,length_toList→arq,replicate→atw,size_append→atF,size_replicate→auQ
open Bool renaming and_eq_true→aqt,false_eq_true→ar2,not_eq_true→ar7,not_eq_true'→aro,or_eq_false_iff→as0,or_eq_true→aq8
open Classical renaming choose→as3,choose_spec→arV
open Go.Calls renaming mono→atB
open Go.Code renaming region→auy
open Go.Instr renaming loadAt→atj,sureAddr→asD
open Go.Region renaming wanted→asw
open Go.Result renaming andThen_ok→arE
open Go.Sem renaming run_bind→arY,run_pure→ar8
open Go.Value renaming pointer→asW
open Go.World renaming cell?_of_block→atP
open List renaming all_cons→ats,all_eq_true→arp,any_eq_true→asu,append_assoc→aqP,append_nil→aq6,cons_append→asv,drop_eq_getElem_cons→asZ,drop_eq_nil_of_le→asm,drop_zero→asn,eq_nil_of_length_eq_zero→aq2,filterMap_append→ar9,filterMap_cons→at3,getD_eq_getElem?_getD→aqE,getElem?_append_left→arO,getElem?_append_right→arj,getElem?_eq_none→arW,getElem?_eq_none_iff→atx,getElem?_eq_some_iff→aqF,getElem?_map→ari,getElem?_of_mem→auS,length_append→aqD,length_cons→aqM,mapM_cons→at6,map_append→arG,map_congr_left→arK,map_cons→arx,mem_append→aqL,mem_append_left→aqH,mem_append_right→aqN,mem_cons→aqS,mem_cons_of_mem→aqx,mem_cons_self→aqA,mem_filterMap→arH,mem_map→arv,mem_of_getElem?→aqT,mem_range→arl,mem_singleton→aq4,nodup_append→asM,nodup_cons→asJ,pairwise_cons→ata,pairwise_lt_range→ath,range→aqW,range_succ→asz,reverse_reverse→auR,size_toArray→asp,sublist_append_right→as1
open List.Perm renaming append_left→atm
open List.Sublist renaming refl→art
open List.cons renaming injEq→as9
open Nat renaming add_assoc→arw,add_comm→aty,add_mul→arQ,beq→aqK,beq_eq→asH,ble→asa,le_add_right→aun,le_of_ble_eq_true→aq1,le_refl→aqG,le_trans→ara,lor→arc,lt_of_lt_of_le→arU,mul_le_mul_right→ard,ne_of_lt→atV,sub_zero→asK,zero_add→arI,zero_le→arB,zero_mul→au3
open Option renaming bind_eq_some_iff→aqw,bind_some→aqs,map_eq_some_iff→aqY
open Option.some renaming inj→asb
open Prod.mk renaming injEq→arb
noncomputable section
namespace Go.VS
open Go
section
variable {C:Cx} {B:ake} {ops:Array Oper} {stk:List (Array Value)} {s s' s0:S} {b b0:Nat} {Ω:Type} {q:Ω}
def aaR{m:akx}{d:Option Nat}{as:List AV}{k:S→Option Ω}:ww m s b d as k=(ww m s b d as some).bind k:=by
 unfold ww;simp only;split
 ·rename_i x hx hn;cases m.g x with
  | none=>rfl
  | some r=>
   simp only[aqs];split
   ·rfl
   ·rfl
 ·rfl
def vz{r:PR}{f:AV→List Ob→S}{k:S→Option Ω}:(match r with
   | some (q,v,os)=>if q then k (f v os) else none
   | none=>none)=(match r with
   | some (q,v,os)=>if q then some (f v os) else none
   | none=>none).bind k:=by
 cases r with
 | none=>rfl
 | some r=>obtain⟨q,v,os⟩:=r;cases q<;>rfl
def VW{o:Oper}{k:S→Option Ω}(inl:Inl Ω)(hi: ∀ f c,o.op= .call c→c.callee= .value (.func f)→C.Γ f o.dst=none→ ∀ d as s k,inl f d as s k=none):
  hY C inl o b s k=(hY C (af S) o b s some).bind k:=by
 unfold hY;split
 ·rfl
 generalize ho:o.op=op at *;cases op
 case store t p x=>
  simp only;split<;>rfl
 case call c=>
  simp only;split
  ·rename_i f hf;split
   ·exact aaR
   ·rename_i hm;rw[hi f c rfl hf hm];rfl
  ·split
   ·split<;>rfl
   ·rfl
  ·split<;>rfl
  ·first | rfl | exact vz (k:=k) (f:=fun v os=>({ s with H:=fe s.H b os } :S).put o.dst v)
 case slice t x lo hi mx=>
  cases mx with
  | some m=>
   simp only
   first | rfl | exact vz (k:=k) (f:=fun v os=>({ s with H:=fe s.H b os } :S).put o.dst v)
  | none=>
   simp only;split
   ·split
    ·rfl
    ·split
     ·split<;>rfl
     ·rfl
   ·first | rfl | exact vz (k:=k) (f:=fun v os=>({ s with H:=fe s.H b os } :S).put o.dst v)
 case buildSlice t n ps=>
  simp only;generalize (x9 s.ev ps.toList).foldl S.freeze s=s3;exact vz (k:=k) (f:=fun v os=>({ s3 with H:=fe s3.H b os } :S).put o.dst v)
 all_goals (simp only;first | rfl | exact vz (k:=k) (f:=fun v os=>({ s with H:=fe s.H b os } :S).put o.dst v))
def af0{o:Oper}{k:S→Option Ω}:evG C (WD Ω) ops o b s k=(ev1 C ops o b s).bind k:=by
 have h: ∀ b s,∀ k:S→Option Ω,hY C (WD Ω) o b s k=(hY C (af S) o b s some).bind k:=fun b s k=>VW _ fun _ _ _ _ _ _ _ _ _=>rfl;unfold ev1 evG;split
 ·exact h _ _ _
 ·split
  ·rfl
  ·split
   ·split
    ·split<;>rfl
    ·rfl
   ·rfl
  ·split
   ·rename_i c _;simp only[h];cases hh:s.has o.dst<;>(split<;>split<;>rfl)
   ·split<;>rfl
   ·rfl
def abY(C:Cx)(ops:Array Oper):List Rec→S→S→Prop
 | [],s,s'=>s=s'
 | r::l,s,s'=> ∃ s1,ev1 C ops r.o r.b s=some s1∧((rb C s r.o=none→r.W=r.F∧ ∀ i∈On C s r.o,Mm r.K i)∧(∀ l,rb C s r.o=some l→ ∀ i∈l,Mm r.W i∧Mm r.K i)∧ ∀ id,Mm (nm r.b) id→Mm r.K id)∧vOf s1 r.o.dst=some r.V∧abY C ops l s1 s'
def L9{k:S→Option Ω}: ∀ (l:List Oper) (i b:Nat) (acc:List Rec) (s:S),evD C ops s0 l i b acc s k=some q→akb C ops s0 b0 acc→i=acc.length→b=b0+16 * i→(∀ j,l[j]? =ops[i+j]?)→
  ∃ rs s',abY C ops rs s s'∧akb C ops s0 b0 (rs.reverse++acc)∧rs.length=l.length∧k { s' with nid:=b0+16 * (i+l.length) } =some q
 | [],i,b,acc,s,h,hg,hi,hb,hl=>⟨[],s,rfl,hg,rfl,by
   have h:k { s with nid:=b } =some q:=h;rw[hb]at h;exact h⟩
 | o::l,i,b,acc,s,h,hg,hi,hb,hl=>by
  unfold evD at h;split at h
  ·cases h
  rename_i r hr;split at h
  ·rename_i hc;rw[af0]at h;obtain⟨s1,h1,h⟩:=aqw.1 h;obtain⟨V,hV,h⟩:=aqw.1 h;simp only[aqt,arp]at hc;unfold aih at hr;obtain⟨anc,ha,hr⟩:=aqw.1 hr;obtain⟨ids,amO,hr⟩:=aqw.1 hr;obtain⟨c,hcl,hr⟩:=aqw.1 hr;simp only at hr;split at hr
   case h_2=>cases hr
   rename_i apA;have hr:=(asb hr).symm;have ho:ops[i]? =some o:=by simpa using (hl 0).symm
   have hg':akb C ops s0 b0 ({ r with V:=V } ::acc):=by
    refine⟨hg, ?_, ?_, ?_, ?_,⟨ids,c, ?_,hcl, ?_⟩, ?_,fun x hx=>hc.1.1 x hx, ?_, ?_⟩<;>rw[hr]
    ·exact hi
    ·show b=_;rw[hb,hi]
    ·exact ho
    ·exact ha
    ·exact amO
    ·have gen: ∀ F0:Nat,(mvO o=false∧(match mvO o with
       | true=>arc (msk ids) (nm b)
       | false=>F0)=F0∧(((match mvO o with
       | true=>nm b
       | false=>match pur o,o.guard with
        | true,none=>arc (msk ids) (nm b)
        | _,_=>(match mvO o with
         | true=>arc (msk ids) (nm b)
         | false=>F0))=arc (msk ids) (nm b)∧pur o=true∧o.guard=none)∨(match mvO o with
       | true=>nm b
       | false=>match pur o,o.guard with
        | true,none=>arc (msk ids) (nm b)
        | _,_=>(match mvO o with
         | true=>arc (msk ids) (nm b)
         | false=>F0))=(match mvO o with
       | true=>arc (msk ids) (nm b)
       | false=>F0)))∨(mvO o=true∧(match mvO o with
       | true=>arc (msk ids) (nm b)
       | false=>F0)=arc (msk ids) (nm b)∧(match mvO o with
       | true=>nm b
       | false=>match pur o,o.guard with
        | true,none=>arc (msk ids) (nm b)
        | _,_=>(match mvO o with
         | true=>arc (msk ids) (nm b)
         | false=>F0))=nm b):=by
      intro F0;cases hmv:mvO o with
      | true=>exact .inr ⟨rfl,rfl,rfl⟩
      | false=>
       refine .inl ⟨rfl,rfl, ?_⟩;cases hpu:pur o with
       | false=>exact .inr rfl
       | true=>
        cases hgu:o.guard with
        | none=>exact .inl ⟨rfl,rfl,rfl⟩
        | some x=>exact .inr rfl
     exact gen _
    ·refine⟨apA,fun id hid=> ?_⟩;show Mm (match rb C s o with
      | none=>_
      | some l=>arc (msk l) (nm b)) id
     cases rb C s o with
     | none=>
      show Mm (match mvO o with
       | true=>arc (msk ids) (nm b)
       | false=>_) id
      cases mvO o with
      | false=>
       refine wG _ _ id ?_;show(arc _ _).testBit id=true;rw[eW,show(nm b).testBit id=true from hid];simp
      | true=>
       show(arc _ _).testBit id=true;rw[eW,show(nm b).testBit id=true from hid];simp
     | some l=>
      show(arc _ _).testBit id=true;rw[eW,show(nm b).testBit id=true from hid];simp
    ·exact hc.1.2
    ·exact hc.2
   obtain⟨rs,s',k1,k2,k3,k4⟩:=L9 l (i+1) (b+16) _ s1 h hg' (by simp[hi]) (by omega) (fun j=>by
    have:=hl (j+1);simpa[arw,aty 1 j] using this)
   refine⟨{ r with V:=V } ::rs,s',⟨s1, ?_, ?_, ?_,k1⟩, ?_,by simp[k3], ?_⟩
   ·rw[hr];exact h1
   ·rw[hr];refine⟨fun he=>⟨?_,fun j hj=> ?_⟩,fun l he j hj=> ?_,fun id hid=> ?_⟩
    ·have he:rb C s o=none:=he;show(match rb C s o with
      | none=>_
      | some l=>arc (msk l) (nm b))=_
     rw[he]
    ·have he:rb C s o=none:=he;show Mm (match rb C s o with
      | none=>arc (msk (On C s o)) (nm b)
      | some l=>arc (msk l) (nm b)) j
     rw[he];show(arc _ _).testBit j=true;rw[eW,uL.2 hj];rfl
    ·have he:rb C s o=some l:=he;have key:Mm (arc (msk l) (nm b)) j:=by
      show(arc _ _).testBit j=true;rw[eW,uL.2 hj];rfl
     constructor
     ·show Mm (match rb C s o with
       | none=>_
       | some l=>arc (msk l) (nm b)) j
      rw[he];exact key
     ·show Mm (match rb C s o with
       | none=>_
       | some l=>arc (msk l) (nm b)) j
      rw[he];exact key
    ·show Mm (match rb C s o with
      | none=>arc (msk (On C s o)) (nm b)
      | some l=>arc (msk l) (nm b)) id
     have hid:(nm b).testBit id=true:=hid;cases rb C s o with
     | none=>
      show(arc _ _).testBit id=true;rw[eW,hid];simp
     | some l=>
      show(arc _ _).testBit id=true;rw[eW,hid];simp
   ·rw[hr];exact hV
   ·simpa using k2
   ·rw[show i+(o::l).length=i+1+l.length by simp;omega];exact k4
  ·cases h
def RN{acc:List Rec}: ∀ {ts l:List Nat},abt s0 acc ts=some l→ ∀ t∈ts,∃ a,(match VR t acc with
  | some r=>some r.V
  | none=>afu (s0.T t))=some a∧ ∀ i∈a,i∈l
 | [],_,_,t,ht=>by cases ht
 | t0::ts,l,h,t,ht=>by
  obtain⟨a,h1,h⟩:=aqw.1 h;obtain⟨b,h2,h⟩:=aqw.1 h;cases h;rcases aqS.1 ht with rfl | ht
  ·exact⟨a,h1,fun i hi=>aqH _ hi⟩
  ·obtain⟨a',h3,h4⟩:=RN h2 t ht;exact⟨a',h3,fun i hi=>aqN _ (h4 i hi)⟩
def akb.fit{acc:List Rec}(h:akb C ops s0 b0 acc)(hn:acc.length=ops.size)(hfr: ∀ j,b0≤j→s0.H j=none){i:Nat}:Fit ops (fw acc b0) (aqW ops.size) s0 i:=by
 intro o ho;obtain⟨r,hr,hi,rfl,fi⟩:=h.op hn ho;have e1:(fw acc b0).F i=Mm r.F:=by funext id;simp only[fw,fi]
 have e2:(fw acc b0).N i=Mm r.N:=by funext id;simp only[fw,fi]
 rw[e1,e2];have hNF:=h.N_F hr;refine⟨fun t ht hd=> ?_,fun id ob hid ho=> ?_,fun id h1 _=>hfr id (by simp only[fw]at h1;omega)⟩
 rotate_left
 ·cases hmv:mvO r.o with
  | false=>exact h.closed hfr r hr hmv id ob (hNF id hid) ho
  | true=>
   exfalso;obtain⟨alf,hg,_⟩:=h.mem r hr;obtain⟨_,k1,k2,_,_,⟨l,c,h1,h2,h3⟩,_⟩:=hg;rcases h3 with h3 | h3
   ·rw[hmv]at h3;cases h3.1
   ·rw[h3.2.2]at hid;have:=AD.1 hid;rw[hfr id (by omega)]at ho;cases ho
 obtain⟨alf,hg,al5,_,hlt⟩:=h.mem r hr;obtain⟨_,_,_,_,_,⟨l,c,h1,h2,h3⟩,_⟩:=hg;obtain⟨a,h4,h5⟩:=RN h1 t ht;cases hf:VR t alf with
 | some r'=>
  obtain⟨hm,anO⟩:=VQ hf;have hm':=al5 r' hm;obtain⟨aqe,hg2,_⟩:=h.mem r' hm';have ho':=hg2.2.2.2.1;have hR:(fw acc b0).R r'.i i:=by
   have anM:=hlt r' hm;have hc:=h.chk hm' hr (by omega);simp only[VS.chk,aqt]at hc;simp only[fw,fi];cases hT:tst r.anc r'.i with
   | true=>exact Wl.1 hT
   | false=>
    rw[hT]at hc;obtain⟨_,hc⟩:=hc;simp only[aqt]at hc;exact absurd ht (Ez hc.1.2 t anO)
  exact absurd anO (hd r'.i (arl.2 (arD.1 ho').1) hR r'.o ho')
 | none=>
  rw[hf]at h4;rcases h3 with⟨_,h3,h6⟩ | ⟨hmv,h3,h6⟩
  ·have ao5:InA (Mm r.F) (s0.T t):=PB h4 fun j hj=>by
    rw[h3];refine wG _ _ j ?_;show(arc _ _).testBit j=true;rw[eW,(Kz 4 l h2).1 j (h5 j hj)];rfl
   refine⟨ao5,.inr ?_⟩;rcases h6 with h6 | h6
   ·refine PB h4 fun j hj=> ?_;rw[h6.1];show(arc _ _).testBit j=true;rw[eW,uL.2 (h5 j hj)];rfl
   ·rw[h6];exact ao5
  ·simp only[mvO,aqt]at hmv;refine⟨PB h4 fun j hj=> ?_,.inl hmv.1.1⟩;rw[h3];show(arc _ _).testBit j=true;rw[eW,uL.2 (h5 j hj)];rfl
def Au{acc:List Rec}(h:akb C ops s0 b0 acc)(hn:acc.length=ops.size): ∀ (rs:List Rec) (s s':S),abY C ops rs s s'→(∀ r∈rs,r∈acc)→(rs.map (·.i)).Pairwise (· < ·)→
  (∀ r∈rs,Fit ops (fw acc b0) (rs.map (·.i)) s r.i)→Run C ops (fw acc b0) (rs.map (·.i)) s s'
 | [],s,s',hc,_,_,_=>by
  cases hc;exact .nil
 | r::rs,s,s',⟨s1,h1,h2,h3,h4⟩,hm,hp,hf=>by
  have hr:=hm r aqA;obtain⟨alf,hg,_⟩:=h.mem r hr;have ho:=hg.2.2.2.1;have hok:=hg.2.2.2.2.2.2.2.2.1;have hb:=(h.aml hr).1;have hrb:r.i < acc.length:=h.lt r hr;have fi:=h.find r hr;have nice:=h.nice hn;obtain⟨f1,f2,f3⟩:=hf r aqA r.o ho;have eb:(fw acc b0).b r.i=r.b:=hb.symm;have hp':=ata.1 hp;have aoP: ∀ t∈cI ops r.o,InA ((fw acc b0).F r.i) (s.T t)∧(mov r.o.op=true∨InA ((fw acc b0).N r.i) (s.T t)):=fun t ht=>f1 t ht fun j hj hR oj hoj e=>by
   have hlt:=nice.lt _ _ hR;rcases aqS.1 hj with e' | hj
   ·have e':j=r.i:=e';omega
   ·have h9:r.i < j:=hp'.1 j hj;omega
  have hrd:=fun t ht=>(aoP t ht).1;obtain⟨h21,h22,h23⟩:=h2;have hKn: ∀ j,r.b≤j→j < r.b+16→(fw acc b0).K r.i j:=fun j k1 k2=>by
   simp only[fw,fi];exact h23 j (AD.2 ⟨k1,k2⟩)
  have hWn: ∀ j,r.b≤j→j < r.b+16→(fw acc b0).W r.i j:=fun j k1 k2=>nice.NW r.i j (by rw[eb];exact k1) (by rw[eb];exact k2);have hWF: ∀ id,Mm r.W id→Mm r.F id:=fun id hid=>CQ (h.aml hr).2.2.1 id hid;have hKW: ∀ id∈On C s r.o,Mm r.F id:=fun id hid=>by
   obtain⟨_,_,_,_,_,⟨l,c,_,_,h3⟩,_⟩:=hg;have hop: ∀ x∈r.o.op.operands,InA ((fw acc b0).F r.i) (s.ev x):=fun x hx=>by
    cases x with
    | tmp t=>exact hrd t (aqH _ (uZ hx))
    | const v=>exact WB v
    | _=>exact .of1 trivial
   have am6:pur r.o=true→False:=fun hp=>by
    unfold pur at hp;unfold On at hid;cases ho2:r.o.op<;>rw[ho2]at hp hid<;>first | (cases hid;done) | (cases hp;done)
   rcases h3 with⟨_,_,h6 | h6⟩ | ⟨hmv,_⟩
   ·exact(am6 h6.2.1).elim
   rotate_left
   ·simp only[mvO,aqt]at hmv;exact(am6 hmv.1.2).elim
   ·have hcl:aj8 ((fw acc b0).F r.i) s.H:=fun id ob hid ho=>f2 id ob (by simp only[fw,fi]at hid ⊢; rw[h6];exact hid) ho;have:=ahJ hop hcl hid;simp only[fw,fi]at this;exact this
  obtain⟨g,v,es,a1,a2,a3,a4,a5⟩:=ahF (F:=(fw acc b0).F r.i) (N:=(fw acc b0).N r.i) (WS:=fun e=>(fw acc b0).W r.i e.id∧(e.fk= .no∨(fw acc b0).K r.i e.id)) hok hrd f2
   (fun j k1 k2=>nice.WF _ _ (hWn j k1 k2)) (fun e k1 k2=>⟨hWn _ k1 k2,.inr (hKn _ k1 k2)⟩)
   ⟨fun he=>⟨fun e hF hfk=>⟨by
     simp only[fw,fi]at hF ⊢;rw[(h21 he).1];exact hF,.inl hfk⟩,fun e hk=>⟨by
     simp only[fw,fi];rw[(h21 he).1];exact hKW _ hk,.inr (by simp only[fw,fi];exact(h21 he).2 _ hk)⟩⟩,
    fun l he e hl=>⟨by simp only[fw,fi];exact(h22 l he _ hl).1,.inr (by simp only[fw,fi];exact(h22 l he _ hl).2)⟩⟩
   (by
    obtain⟨_,_,_,_,_,⟨l,c,_,_,h3⟩,_⟩:=hg;rcases h3 with⟨_,_,h6 | h6⟩ | ⟨hmv,_⟩
    ·refine .inl ⟨h6.2.1,h6.2.2, ?_⟩;cases hmo:mov r.o.op with
     | true=>exact .inl rfl
     | false=>exact .inr fun t ht=>(aoP t ht).2.resolve_left fun h=>by rw[hmo]at h;cases h
    rotate_left
    ·simp only[mvO,aqt]at hmv;exact .inl ⟨hmv.1.2,by simpa using hmv.2,.inl hmv.1.1⟩
    ·refine .inr fun id hid=> ?_;simp only[fw,fi]at hid ⊢;rw[h6];exact hid) h1
  have hst:Stp C ops r.o ((fw acc b0).b r.i) ((fw acc b0).F r.i) ((fw acc b0).N r.i) ((fw acc b0).W r.i) ((fw acc b0).K r.i) ((fw acc b0).V r.i) s s1:=by
   rw[eb];refine⟨g,v,es,a1,fun t ht=> ?_,a2,a3,a4,a5⟩;rw[ht]at h3;have:s1.T t=v:=by rw[a4,abH,aqh ht]
   rw[← this];refine PB (show afu (s1.T t)=some r.V from h3) fun j hj=> ?_;simp only[fw,fi];exact hj
  refine .cons ho hst (Au h hn rs s1 s' h4 (fun x hx=>hm x (aqx _ hx)) hp'.2 fun x hx=> ?_);have hxi:r.i < x.i:=hp'.1 x.i (arv.2 ⟨x,hx,rfl⟩);exact(hf x (aqx _ hx)).step nice ho (atV hxi) (fun hR=>by have:=nice.lt _ _ hR;omega) hst fun j hj=>by
   rcases aqS.1 hj with e | hj
   ·exact .inl e
   ·exact .inr hj
def D1: ∀ (rs:List Rec) (s s':S) (m:Nat),abY C ops rs s s'→(∀ r∈rs,r.b+16≤m)→aj1 (fun j=>j < m) s s'
 | [],s,s',m,hc,_=>by cases hc;exact aj1.refl _ _
 | r::rs,s,s',m,⟨s1,h1,_,_,h4⟩,hb=>by
  have k1:=VX h1;have hb1:=hb r aqA;have k1':aj1 (fun j=>j < m) s s1:=⟨k1.nid,k1.n,k1.pins,fun j hj e=>k1.nn j (fun hh=>hj (by omega)) e⟩;exact k1'.trans (D1 rs s1 s' m h4 fun x hx=>hb x (aqx _ hx))
def akb.places: ∀ {acc:List Rec},akb C ops s0 b0 acc→acc.reverse.map (·.i)=aqW acc.length
 | [],_=>rfl
 | r::acc,h=>by
  rw[List.reverse_cons,arG,akb.places h.1,aqM,asz];simp[h.2.1]
def adB(hP:C.P=B.P)(hm:B.P.follows .mixedOrders=true)(hC:mQ C B){k:S→Option Ω}(he:evD C ops s ops.toList 0 s.nid [] s k=some q)(hfr:Fr s){β:Beta}{a:Act}{w:World}(hst:St B β stk s a w)
  {id:Nat}{Q:Exit→Act→World→Prop}(hQ: ∀ β a w s',St B β stk s' a w→Fr s'→s'.n=s.n→s'.pins=s.pins→k s'=some q→Q .normal a w):(auy id ops true).wp B.P Q a w:=by
 obtain⟨rs,s',h1,h2,h3,h4⟩:=L9 (b0:=s.nid) ops.toList 0 s.nid [] s he trivial rfl rfl (by simp);simp only[aq6,arI]at h2 h4;have hn:rs.reverse.length=ops.size:=by simpa using h3
 have hpl:=h2.places;rw[auR,hn]at hpl;have alE: ∀ j,Fit ops (fw rs.reverse s.nid) (aqW ops.size) s j:=fun j=>h2.fit hn hfr;have akm:=Au h2 hn rs s s' h1 (fun r hr=>by simpa using hr) (by rw[hpl];exact ath) (fun r hr=>by rw[hpl];exact alE _);rw[hpl]at akm;have alk:aj1 (fun j=>j < s.nid+16 * ops.toList.length) s s':=D1 rs s s' _ h1 fun r hr=>by
  have hr':r∈rs.reverse:=by simpa using hr
  have e1:=(h2.aml hr').1;have e2:=h2.lt r hr';rw[hn]at e2;have:ops.toList.length=ops.size:=by simp
  omega
 refine ZU hP hm hC (h2.nice hn) akm (fun j _=>alE j) hst fun β a w h=> ?_;refine hQ β a w { s' with nid:=s.nid+16 * ops.toList.length } ⟨h.T,h.stack,h.n,h.defers,h.pins,h.gs,h.hs⟩ (fun j hj=> ?_) alk.n alk.pins h4;have hj:s.nid+16 * ops.toList.length≤j:=hj;exact alk.nn j (by omega) (hfr j (by omega))
end
end Go.VS
namespace Go.VS
open Go
def B5(C:Cx)(B:ake)(inl:(Ω:Type)→Inl Ω):Prop:= ∀ (Ω:Type) (f:FuncId) (d:Option Nat) (as:List AV) (s:S) (k:S→Option Ω) (q:Ω),inl Ω f d as s k=some q→
 ∀ (β:Beta) (stk:List (Array Value)) (a:Act) (w:World) (o:Oper) (args:List Operand) (ts:Array TypeId) (K:Act→World→Prop) (Q:Exit→Act→World→Prop),
 St B β stk s a w→Fr s→s.has d=true→o.dst=d→as=args.map s.ev→o.op= .call { callee:= .value (.func f),args:=args.toArray,argTypes:=ts } →
 (∀ β' u w' s',St B β' stk s' (a.put d u) w'→Fr s'→s'.n=s.n→s'.pins=s.pins→k s'=some q→K (a.put d u) w')→o.wp B.P a w K Q
def Ya(C:Cx)(B:ake):B5 C B af:=by
 intro Ω f d as s k q h;cases h
section
variable {C:Cx} {B:ake} {ops:Array Oper} {stk:List (Array Value)} {s s':S} {Ω:Type} {q:Ω} {β:Beta} {a:Act} {w:World} {inl:(Ω:Type)→Inl Ω}
def agv(C:Cx)(o:Oper):Prop:= ∃ f c,o.op= .call c∧c.callee= .value (.func f)∧C.Γ f o.dst=none
def adA{o:Oper}{b:Nat}{k:S→Option Ω}(hn: ¬ agv C o):evG C (inl Ω) ops o b s k=(ev1 C ops o b s).bind k:=by
 have h: ∀ b s,∀ k:S→Option Ω,hY C (inl Ω) o b s k=(hY C (af S) o b s some).bind k:=fun b s k=>VW _ fun f c h1 h2 h3=>absurd ⟨f,c,h1,h2,h3⟩ hn;unfold ev1 evG;split
 ·exact h _ _ _
 ·split
  ·rfl
  ·split
   ·split
    ·split<;>rfl
    ·rfl
   ·rfl
  ·split
   ·rename_i c _;simp only[h];cases hh:s.has o.dst<;>(split<;>split<;>rfl)
   ·split<;>rfl
   ·rfl
def Ys(hI:B5 C B inl){o:Oper}{b:Nat}{k:S→Option Ω}(hin:agv C o)(he:hY C (inl Ω) o b s k=some q)(hst:St B β stk s a w)(hfr:Fr s){K:Act→World→Prop}{Q:Exit→Act→World→Prop}
  (hK: ∀ β' u w' s',St B β' stk s' (a.put o.dst u) w'→Fr s'→s'.n=s.n→s'.pins=s.pins→k s'=some q→K (a.put o.dst u) w'):o.wp B.P a w K Q:=by
 obtain⟨f,c,h1,h2,h3⟩:=hin;obtain⟨cal,⟨args⟩,⟨tys⟩⟩:=c;simp only at h2;subst h2;unfold hY at he;split at he
 ·cases he
 rename_i hd;simp only[h1,h3]at he;exact hI Ω f o.dst _ s k q he β stk a w o args ⟨tys⟩ K Q hst hfr hd rfl rfl h1 hK
def YN(hP:C.P=B.P)(hC:mQ C B)(hI:B5 C B inl){i:Nat}{o:Oper}(hi:ops[i]? =some o){k:S→Option Ω}(he:evG C (inl Ω) ops o s.nid s k=some q)(hst:St B β stk s a w)(hfr:Fr s){K:Act→World→Prop}{Q:Exit→Act→World→Prop}
  (hK: ∀ β' u w' s',St B β' stk s' (a.put o.dst u) w'→(∀ j,s'.nid+16≤j→s'.H j=none)→s'.n=s.n→s'.pins=s.pins→k s'=some q→K (a.put o.dst u) w'):wpOp B.P ops Q i K a w:=by
 by_cases hin:agv C o
 ·have hK': ∀ s1:S,s1.n=s.n→s1.pins=s.pins→ ∀ β' u w' s',St B β' stk s' (a.put o.dst u) w'→Fr s'→s'.n=s1.n→s'.pins=s1.pins→k s'=some q→K (a.put o.dst u) w':=
   fun s1 e1 e2 β' u w' s' k1 k2 k3 k4 k5=>hK β' u w' s' k1 (fun j hj=>k2 j (by omega)) (k3.trans e1) (k4.trans e2) k5
  unfold wpOp;simp only[hi];unfold evG at he;split at he
  ·rename_i hg;have hw:asw o (yielded ops a.tmps)=true:=by simp[asw,hg]
   rw[aqh hw];exact .inl (Ys hI hin he hst hfr (hK' s rfl rfl))
  ·rename_i j want hg;have hwd:asw o (yielded ops a.tmps)=(yielded ops a.tmps j == some want):=by simp[asw,hg]
   rw[hwd];split at he
   ·cases he
   ·rename_i g hgd hsp;split at he
    ·rename_i qq v akG hv;obtain⟨f,c,h1,h2,h3⟩:=hin;obtain⟨cal,⟨args⟩,⟨tys⟩⟩:=c;simp only at h2;subst h2;simp only[h1,spA,h3]at hv;cases hv
    ·cases he
   ·rename_i g hgd hsp;split at he
    ·rename_i c hT;have htg:dq a g= .bool c:=by have:=hst.T g;rw[hT]at this;exact this
     have hy:yielded ops a.tmps j=some c:=uG hgd htg;rw[hy];have hn: ∀ w0:Bool,c=w0→St B β stk { s with T:=upd s.T g (.b w0) } a w:=by
      intro w0 e;subst e;rw[show({ s with T:=upd s.T g (.b c) } :S)=s by rw[aa4 _ _ _ hT]];exact hst
     have yes:hY C (inl Ω) o s.nid { s with T:=upd s.T g (.b want) } k=some q→c=want→
       (if(some c == some want)=true then o.wp B.P a w K Q∨(o.asks B.P a w∧LetsOut Q) else K (a.put o.dst undef) w):=by
      intro he e;rw[aqh (by simp[e])];exact .inl (Ys hI hin he (hn want e) hfr (hK' _ rfl rfl))
     have no:(match s.has o.dst with
       | true=>k (({ s with T:=upd s.T g (.b (!want)) } :S).put o.dst oZ)
       | false=>none)=some q→c= !want→
       (if(some c == some want)=true then o.wp B.P a w K Q∨(o.asks B.P a w∧LetsOut Q) else K (a.put o.dst undef) w):=by
      intro he e;rw[aqg (by subst e;cases want<;>simp)];split at he
      ·rename_i akG;refine hK β undef w _ ((hn (!want) e).put (by exact akG) (v:=oZ) (u:=undef) rfl (fun g' w1 x e=>by cases e)) (fun j hj=> ?_) ?_ ?_ he
       ·have:=hfr j (by cases hod:o.dst<;>rw[hod]at hj<;>exact ara (aun _ 16) hj);cases o.dst<;>exact this
       ·cases o.dst<;>rfl
       ·cases o.dst<;>rfl
      ·cases he
     cases want<;>cases c<;>simp only[aqm,if_false,ar2]at he
     ·exact yes he rfl
     ·exact no he rfl
     ·exact no he rfl
     ·exact yes he rfl
    ·rename_i vs hT;have htg:dq a g= .tuple vs:=by have:=hst.T g;rw[hT]at this;exact this
     have hy: ¬ (yielded ops a.tmps j == some want)=true:=by
      intro e;have:=uF hgd (show yielded ops a.tmps j=some want by simpa using e);rw[htg]at this;cases this
     rw[aqg hy];split at he
     ·rename_i akG;refine hK β undef w _ (hst.put akG (v:=oZ) (u:=undef) rfl (fun g' w1 x e=>by cases e)) (fun j hj=> ?_) ?_ ?_ he
      ·have:=hfr j (by cases hod:o.dst<;>rw[hod]at hj<;>exact ara (aun _ 16) hj);cases o.dst<;>exact this
      ·cases o.dst<;>rfl
      ·cases o.dst<;>rfl
     ·cases he
    ·cases he
 ·rw[adA hin]at he;obtain⟨s1,h1,h2⟩:=aqw.1 he;have hk:=VX h1;refine R4 hP hC hi hst (fun j hj _=>hfr j hj) h1 fun β' u w' h=>hK β' u w' s1 h (fun j hj=>hk.nn j (fun hh=> ?_) (hfr j ?_)) hk.n hk.pins h2
  ·rw[hk.nid]at hj;omega
  ·rw[hk.nid]at hj;omega
def VV(hP:C.P=B.P)(hC:mQ C B)(hI:B5 C B inl){k:S→Option Ω}{Q:Exit→Act→World→Prop}{n:Nat}{p:List Nat}
  (hQ: ∀ β a w s',St B β stk s' a w→Fr s'→s'.n=n→s'.pins=p→k s'=some q→Q .normal a w): ∀ (l:List Oper) (i:Nat) (s:S) (β:Beta) (a:Act) (w:World),(∀ j,l[j]? =ops[i+j]?)→
  RZ C (inl Ω) ops l s k=some q→St B β stk s a w→Fr s→s.n=n→s.pins=p→wpOps B.P ops Q (List.range' i l.length) a w
 | [],i,s,β,a,w,_,he,hst,hfr,hn,hp=>hQ β a w s hst hfr hn hp he
 | o::l,i,s,β,a,w,hl,he,hst,hfr,hn,hp=>by
  rw[aqM,List.range'_succ,wpOps_cons];have ho:ops[i]? =some o:=by simpa using (hl 0).symm
  refine YN hP hC hI ho (show evG C (inl Ω) ops o s.nid s (fun s=>RZ C (inl Ω) ops l { s with nid:=s.nid+16 } k)=some q from he) hst hfr ?_;intro β' u w' s' h1 h2 h3 h4 h5;exact VV hP hC hI hQ l (i+1) { s' with nid:=s'.nid+16 } β' _ w' (fun j=>by
   have:=hl (j+1);simpa[arw,aty 1 j] using this) h5 ⟨h1.T,h1.stack,h1.n,h1.defers,h1.pins,h1.gs,h1.hs⟩ h2 (h3.trans hn) (h4.trans hp)
def Nt(hP:C.P=B.P)(hC:mQ C B)(hI:B5 C B inl){k:S→Option Ω}(he:RZ C (inl Ω) ops ops.toList s k=some q)(hfr:Fr s)(hst:St B β stk s a w)
  {id:Nat}{Q:Exit→Act→World→Prop}(hQ: ∀ β a w s',St B β stk s' a w→Fr s'→s'.n=s.n→s'.pins=s.pins→k s'=some q→Q .normal a w):(auy id ops false).wp B.P Q a w:=by
 refine wp_region ?_;have:=VV hP hC hI hQ ops.toList 0 s β a w (by simp) he hst hfr rfl rfl;rw[List.range_eq_range',← arq];exact this
end
end Go.VS
namespace Go.VS
open Go
def Imm(w:World)(M:Nat→Prop)(c:AV)(v:Value):Prop:= ∀ β:Beta,(∀ b,MZ β b→M b)→RC w β c v
mutual
def Rel (P:Program) (w:World) (M:Nat→Prop) (e:Nat→Value):(h:Sh)→LT h→Value→List (Value×Nat)→Prop
 | .int k,n,v,os=>v= .int k n∧os=[]
 | .bool,x,v,os=>v= .bool x∧os=[]
 | .str,s,v,os=>v= .string s∧os=[]
 | .sl k,xs,v,os=>Imm w M (.sl k xs) v∧os=[]
 | .fz k,xs,v,os=>Imm w M (.sl k xs) v∧os=[]
 | .row t k,xs,v,os=>os=[(v,xs.length)]∧ade v=true∧ ∀ β:Beta,(∀ b,MZ β b→M b)→aki w β t false k xs v
 | .akl t k,xs,v,os=>os=[(v,xs.length)]∧ade v=true∧ ∀ β:Beta,(∀ b,MZ β b→M b)→aki w β t true k xs v
 | .abx t k,xs,v,os=>os=[(v,xs.length)]∧1≤xs.length∧ ∃ b us,v= .pointer (some ⟨b,0,none⟩)∧w.heap[b]? =some (.cells us t (0,0))∧us.size=xs.length * ks k∧us.size=P.cellsOf t∧
   (∀ β:Beta,(∀ b,MZ β b→M b)→ ∀ i x j c u,xs[i]? =some x→(enc k x)[j]? =some c→us[i * ks k+j]? =some u→RC w β c u)
 | .arr k,xs,v,os=>os=[]∧ ∀ β:Beta,(∀ b,MZ β b→M b)→R1 w β (.arr k xs) v
 | .same t,_,v,os=>os=[]∧v=e t∧v.oneCell'=true
 | .agg l,x,v,os=> ∃ us:List Value,v= .agg us.toArray∧akn P w M e l x us os
 | .box t l,x,v,os=> ∃ b us os',v= .pointer (some ⟨b,0,none⟩)∧w.heap[b]? =some (.cells us t (0,0))∧akn P w M e l x us.toList os'∧os=os'++[(v,1)]
def akn (P:Program) (w:World) (M:Nat→Prop) (e:Nat→Value):(l:List Sh)→LTs l→List Value→List (Value×Nat)→Prop
 | [],_,us,os=>us=[]∧os=[]
 | h::l,x,us,os=> ∃ u us' o1 o2,us=u::us'∧os=o1++o2∧Rel P w M e h x.1 u o1∧akn P w M e l x.2 us' o2
end
def uE(p:Value×Nat):Option Nat:=(adr p.1).map (·.block)
abbrev bC(os:List (Value×Nat)):List Nat:=os.filterMap uE
mutual
def IH:Sh→List Nat
 | .same t=>[t]
 | .agg l=>pS l
 | .box _ l=>pS l
 | _=>[]
def pS:List Sh→List Nat
 | []=>[]
 | h::l=>IH h++pS l
end
section
variable {B:ake} {β β':Beta} {H:Hp} {w w':World} {M:Nat→Prop} {E:Nat→AV} {e:Nat→Value}
def RC.amZ{c:AV}{v:Value}(h:RC w β c v)(hc:akp c=true)(hM: ∀ b,M b→MZ β b):Imm w M c v:=fun β' hβ'=>
 RC.imm (fun _ _ _ _ h=>h) (fun b hb _ hm=>hb (hM b (hβ' b hm))) h hc
def aki.imm{t:TypeId}{fz:Bool}{k:K}{xs:List (Tof k)}{v:Value}(h:aki w β t fz k xs v)(hM: ∀ b,M b→MZ β b): ∀ β':Beta,(∀ b,MZ β' b→M b)→aki w β' t fz k xs v:=by
 intro β' hβ';rcases h with h | ⟨b,f,cap,us,fr,h1,h2,h3,h4,h5,h6,h7⟩
 ·exact .inl h
 ·exact .inr ⟨b,f,cap,us,fr,h1,h2,h3,h4,h5,h6,fun i x j c u a1 a2 a3=>(h7 i x j c u a1 a2 a3).amZ (eO k x a2) hM β' hβ'⟩
def aki.apj{t:TypeId}{fz:Bool}{k:K}{xs:List (Tof k)}{v:Value}(h:aki w β t fz k xs v)(hM: ∀ b,M b→MZ β b)(hn: ∀ a,adr v=some a→ ¬ M a.block):Imm w M (.sl k xs) v:=by
 intro β' hβ';rcases h with⟨rfl,rfl⟩ | ⟨b,f,cap,us,fr,rfl,hh,hfr,hn',hc,hs,hr⟩
 ·exact .nil
 ·have akc: ∀ i j,i < xs.length→j < ks k→f+(i * ks k+j) < us.size:=by
   intro i j hi hj;have h1:(i+1) * ks k≤cap * ks k:=ard _ (by omega);rw[arQ]at h1;omega
  refine .sl (fun i j=>us.getD (f+(i * ks k+j)) undef) ⟨rfl,hn'⟩ (fun hm=>hn _ rfl (hβ' _ hm)) (fun i j hi hj=> ?_) (fun i x j c h2 h3=> ?_)
  ·rw[cell_of_row w b _ us t fr hh];have:=akc i j hi hj;simp[this]
  ·have hi:i < xs.length:=(aqF.1 h2).1;have hj:j < ks k:=by rw[← bh k x];exact(aqF.1 h3).1
   have:=akc i j hi hj;exact(hr i x j c (us.getD (f+(i * ks k+j)) undef) h2 h3 (by simp[this])).amZ (eO k x h3) hM β' hβ'
def R1.lits{v' v:Value}(h:R1 w β (.lit v') v):v=v':=h
def R1.sls{k:K}{xs:List (Tof k)}{v:Value}(h:R1 w β (.sl k xs) v):RC w β (.sl k xs) v:=h
def R1.an5{id:Nat}{v:Value}(h:R1 w β (.own id) v):RC w β (.own id) v:=h
def R1.amY{id z i o:Nat}{v:Value}(h:R1 w β (.ptr id z i o) v):RC w β (.ptr id z i o) v:=h
structure amr (B:ake) (β:Beta) (H:Hp) (w:World) (M:Nat→Prop) (E:Nat→AV) (e:Nat→Value):Prop where
 hs:Hs B β H w
 hM: ∀ b,M b→MZ β b
 hE: ∀ t id z,E t= .ptr id z 0 0→R1 w β (E t) (e t)
def Wc(β:Beta)(M:Nat→Prop)(ids:List Nat):Prop:= ∀ i∈ids,∀ p a,β i=some p→adr p.1=some a→ ¬ M a.block
def Wv(R:amr B β H w M E e){id:Nat}{t:TypeId}{fz:Bool}{k:K}{xs:List (Tof k)}{v:Value}(hv:RC w β (.own id) v)(hid:H id=some (.row t fz k xs)):
  ade v=true∧β id=some (v,xs.length)∧aki w β t fz k xs v:=by
 cases hv with
 | own h hs=>
  obtain⟨hd,h1,h2⟩:=R.hs.akE id _ hid;rw[h]at h1;cases h1;exact⟨hs,h,h2⟩
mutual
theorem Qn (R:amr B β H w M E e): ∀ (h:Sh) (c:AV) (v:Value) (x:LT h),R1 w β c v→dW E H h c=some x→Wc β M (jQ H h c)→
  ∃ os,Rel B.P w M e h x v os∧bC os=bC ((je H h c).filterMap β)
 | .int k,c,v,x,hv,hx,_=>by
  cases c with
  | lit v'=>
   cases v'<;>first | (simp[dW]at hx;done) | skip
   simp only[dW]at hx;split at hx
   ·rename_i e1;simp at e1;subst e1;cases hx;exact⟨[],⟨hv.lits,rfl⟩,rfl⟩
   ·cases hx
  | _=>simp[dW]at hx
 | .bool,c,v,x,hv,hx,_=>by
  cases c with
  | lit v'=>
   cases v'<;>first | (simp[dW]at hx;done) | skip
   simp only[dW]at hx;cases hx;exact⟨[],⟨hv.lits,rfl⟩,rfl⟩
  | _=>simp[dW]at hx
 | .str,c,v,x,hv,hx,_=>by
  cases c with
  | lit v'=>
   cases v'<;>first | (simp[dW]at hx;done) | skip
   simp only[dW]at hx;cases hx;exact⟨[],⟨hv.lits,rfl⟩,rfl⟩
  | _=>simp[dW]at hx
 | .sl k,c,v,x,hv,hx,_=>by
  cases c with
  | sl k' xs=>
   obtain⟨e1,rfl⟩:=fU (show z8 k' k xs=some x from hx);subst e1;exact⟨[],⟨hv.sls.amZ rfl R.hM,rfl⟩,rfl⟩
  | lit v'=>
   cases v' with
   | slice a n cap=>
    cases a<;>cases n<;>cases cap<;>simp[dW]at hx;subst hx;have:=hv.lits;subst this;exact⟨[],⟨fun _ _=> .nil,rfl⟩,rfl⟩
   | _=>simp[dW]at hx
  | _=>simp[dW]at hx
 | .fz k,c,v,x,hv,hx,hf=>by
  cases c with
  | sl k' xs=>
   obtain⟨e1,rfl⟩:=fU (show z8 k' k xs=some x from hx);subst e1;exact⟨[],⟨hv.sls.amZ rfl R.hM,rfl⟩,rfl⟩
  | lit v'=>
   cases v' with
   | slice a n cap=>
    cases a<;>cases n<;>cases cap<;>simp[dW,gQ]at hx;subst hx;have:=hv.lits;subst this;exact⟨[],⟨fun _ _=> .nil,rfl⟩,rfl⟩
   | _=>simp[dW,gQ]at hx
  | own id=>
   simp only[dW,gQ]at hx;split at hx
   ·rename_i t fz k' ys hid;obtain⟨e1,rfl⟩:=fU hx;subst e1;obtain⟨h1,h2,h3⟩:=Wv R hv.an5 hid;exact⟨[],⟨h3.apj R.hM fun a ha=>hf id (by simp[jQ]) _ a h2 ha,rfl⟩,rfl⟩
   ·cases hx
  | _=>simp[dW,gQ]at hx
 | .row t k,c,v,x,hv,hx,_=>by
  cases c with
  | lit v'=>
   cases v' with
   | slice a n cap=>
    cases a<;>cases n<;>cases cap<;>simp[dW]at hx;subst hx;have:=hv.lits;subst this;exact⟨[(.slice none 0 0,0)],⟨rfl,rfl,fun _ _=> .inl ⟨rfl,rfl⟩⟩,rfl⟩
   | _=>simp[dW]at hx
  | own id=>
   simp only[dW]at hx;split at hx
   ·rename_i t' k' ys hid;split at hx
    ·rename_i ht;obtain rfl:=aD ht;obtain⟨e1,rfl⟩:=fU hx;subst e1;obtain⟨h1,h2,h3⟩:=Wv R hv.an5 hid;exact⟨[(v,ys.length)],⟨rfl,h1,h3.imm R.hM⟩,by simp[je,h2]⟩
    ·cases hx
   ·cases hx
  | _=>simp[dW]at hx
 | .akl t k,c,v,x,hv,hx,_=>by
  cases c with
  | own id=>
   simp only[dW]at hx;split at hx
   ·rename_i t' k' ys hid;split at hx
    ·rename_i ht;obtain rfl:=aD ht;obtain⟨e1,rfl⟩:=fU hx;subst e1;obtain⟨h1,h2,h3⟩:=Wv R hv.an5 hid;exact⟨[(v,ys.length)],⟨rfl,h1,h3.imm R.hM⟩,by simp[je,h2]⟩
    ·cases hx
   ·cases hx
  | _=>simp[dW]at hx
 | .abx t k,c,v,x,hv,hx,_=>by
  cases c with
  | ptr id z i o=>
   cases i<;>cases o<;>simp only[dW]at hx<;>first | (cases hx;done) | skip
   split at hx
   ·rename_i t' k' ys hid;split at hx
    ·rename_i ht;simp only[aqt]at ht;obtain rfl:=aD ht.1;obtain⟨e1,rfl⟩:=fU hx;subst e1;have hv:=hv.amY;cases hv with
     | @ptr _ _ _ _ hd n b f h1 ha hi=>
      obtain⟨b',us,k1,k2,k3,k4,k5⟩:=R.hs.akE id _ hid;rw[h1]at k1;cases k1;cases ha;have e0:0 * z=0:=au3 z;refine⟨[(.pointer (some ⟨b,0,none⟩),ys.length)],⟨?_,hi,b,us, ?_,k2,k3,k4,fun β' hβ' i x j c u a1 a2 a3=>(k5 i x j c u a1 a2 a3).amZ (eO k' x a2) R.hM β' hβ'⟩,by simp[je,h1]⟩
      ·simp
      ·simp
    ·cases hx
   ·cases hx
  | _=>simp[dW]at hx
 | .arr k,c,v,x,hv,hx,_=>by
  cases c with
  | arr k' xs=>
   obtain⟨e1,rfl⟩:=fU (show z8 k' k xs=some x from hx);subst e1;obtain⟨us,k1,k2,k3⟩:=hv;exact⟨[],⟨rfl,fun β' hβ'=>⟨us,k1,k2,fun i x j c u a1 a2 a3=>(k3 i x j c u a1 a2 a3).amZ (eO k' x a2) R.hM β' hβ'⟩⟩,rfl⟩
  | _=>simp[dW]at hx
 | .same t,c,v,x,hv,hx,_=>by
  cases c with
  | ptr id z i o=>
   cases i<;>cases o<;>simp only[dW]at hx<;>first | (cases hx;done) | skip
   split at hx
   ·rename_i id' z' hE;split at hx
    ·rename_i hid;obtain rfl:=aD hid;have h2:=R.hE t _ _ hE;rw[hE]at h2;have h2:=h2.amY;have h1:=hv.amY;refine⟨[],⟨rfl, ?_,h1.one⟩,rfl⟩;generalize e t=v2 at h2;cases h1 with
     | ptr a1 a2 a3=>
      cases h2 with
      | ptr b1 b2 b3=>
       rw[a1]at b1;cases b1;rw[a2]at b2;cases b2;simp
    ·cases hx
   ·cases hx
  | _=>simp[dW]at hx
 | .agg l,c,v,x,hv,hx,hf=>by
  cases c with
  | agg cs=>
   obtain⟨us,rfl,hr⟩:=hv;obtain⟨os,h1,h2⟩:=Le R l cs us x hr hx hf;exact⟨os,⟨us,rfl,h1⟩,h2⟩
  | _=>simp[dW]at hx
 | .box t l,c,v,x,hv,hx,hf=>by
  cases c with
  | ptr id z i o=>
   cases i<;>cases o<;>simp only[dW]at hx<;>first | (cases hx;done) | skip
   split at hx
   ·rename_i t' cs hid;split at hx
    ·rename_i ht;obtain rfl:=aD ht;have hv:=hv.amY;cases hv with
     | @ptr _ _ _ _ hd n b f h1 ha hi=>
      obtain⟨b',us,k1,k2,k3⟩:=R.hs.akE id _ hid;rw[h1]at k1;cases k1;cases ha;obtain⟨os,j1,j2⟩:=Le R l cs us.toList x k3 hx (by simpa only[jQ,hid] using hf);refine⟨os++[(.pointer (some ⟨b,0,none⟩),1)],⟨b,us,os,by simp,k2,j1,by simp⟩, ?_⟩;have:je H (.box t l) (.ptr id z 0 0)=bQ H l cs++[id]:=by simp only[je,hid]
      rw[this];simp only[bC,ar9]at j2 ⊢;rw[j2];simp[h1]
    ·cases hx
   ·cases hx
  | _=>simp[dW]at hx
theorem Le (R:amr B β H w M E e): ∀ (l:List Sh) (cs:List AV) (us:List Value) (x:LTs l),RL (RC w β) cs us→pX E H l cs=some x→Wc β M (dV H l cs)→
  ∃ os,akn B.P w M e l x us os∧bC os=bC ((bQ H l cs).filterMap β)
 | [],[],us,x,hr,hx,_=>⟨[],⟨hr.of_nil,rfl⟩,rfl⟩
 | [],_::_,us,x,hr,hx,_=>by cases hx
 | _::_,[],us,x,hr,hx,_=>by cases hx
 | h::l,c::cs,us,x,hr,hx,hf=>by
  obtain⟨u,us',rfl,h1,h2⟩:=hr.aj2;obtain⟨x1,e1,hx⟩:=aqw.1 hx;obtain⟨x2,e2,hx⟩:=aqw.1 hx;cases hx;obtain⟨o1,j1,j2⟩:=Qn R h c u x1 (R1.akX h1) e1 (fun i hi=>hf i (aqH _ hi));obtain⟨o2,j3,j4⟩:=Le R l cs us' x2 h2 e2 (fun i hi=>hf i (aqN _ hi));refine⟨o1++o2,⟨u,us',o1,o2,rfl,rfl,j1,j3⟩, ?_⟩;simp only[bC,ar9,bQ]at j2 j4 ⊢;rw[j2,j4]
end
def Ay(R:amr B β H w M E e): ∀ (l:List Sh) (cs:List AV) (us:List Value) (x:LTs l),RL (R1 w β) cs us→pX E H l cs=some x→Wc β M (dV H l cs)→
  ∃ os,akn B.P w M e l x us os∧bC os=bC ((bQ H l cs).filterMap β)
 | [],[],us,x,hr,hx,_=>⟨[],⟨hr.of_nil,rfl⟩,rfl⟩
 | [],_::_,us,x,hr,hx,_=>by cases hx
 | _::_,[],us,x,hr,hx,_=>by cases hx
 | h::l,c::cs,us,x,hr,hx,hf=>by
  obtain⟨u,us',rfl,h1,h2⟩:=hr.aj2;obtain⟨x1,e1,hx⟩:=aqw.1 hx;obtain⟨x2,e2,hx⟩:=aqw.1 hx;cases hx;obtain⟨o1,j1,j2⟩:=Qn R h c u x1 h1 e1 (fun i hi=>hf i (aqH _ hi));obtain⟨o2,j3,j4⟩:=Ay R l cs us' x2 h2 e2 (fun i hi=>hf i (aqN _ hi));refine⟨o1++o2,⟨u,us',o1,o2,rfl,rfl,j1,j3⟩, ?_⟩;simp only[bC,ar9,bQ]at j2 j4 ⊢;rw[j2,j4]
end
end Go.VS
namespace Go.VS
open Go
section
variable {P:Program} {β:Beta} {H:Hp} {w:World} {M:Nat→Prop} {E:Nat→AV} {e:Nat→Value} {b:Nat}
def alB(P:Program)(w:World)(β:Beta)(H H':Hp)(b n:Nat):Prop:=
 (∀ j,j < b∨b+n≤j→H' j=H j)∧(∀ j,b≤j→j < b+n→ ∃ ob,H' j=some ob∧akC P w β j ob)
def alB.nil:alB P w β H H b 0:=⟨fun _ _=>rfl,fun j h1 h2=>by omega⟩
def alB.one{ob:Ob}(h:akC P w β b ob):alB P w β H (upd H b (some ob)) b 1:=by
 refine⟨fun j hj=>aI _ _ (by omega),fun j h1 h2=> ?_⟩;have:j=b:=by omega
 subst this;exact⟨ob,ax _ _ _,h⟩
def alB.trans{H' H'':Hp}{n m:Nat}(h:alB P w β H H' b n)(k:alB P w β H' H'' (b+n) m):alB P w β H H'' b (n+m):=by
 refine⟨fun j hj=> ?_,fun j h1 h2=> ?_⟩
 ·rw[k.1 j (by omega),h.1 j (by omega)]
 ·by_cases e:j < b+n
  ·obtain⟨ob,k1,k2⟩:=h.2 j h1 e;exact⟨ob,by rw[k.1 j (.inl e)];exact k1,k2⟩
  ·exact k.2 j (by omega) (by omega)
def Num(β:Beta)(b:Nat)(os:List (Value×Nat)):Prop:= ∀ i p,os[i]? =some p→β (b+i)=some p
def Num.left{o1 o2:List (Value×Nat)}(h:Num β b (o1++o2)):Num β b o1:=fun i p hp=>h i p (by
 rw[arO (aqF.1 hp).1];exact hp)
def Num.right{o1 o2:List (Value×Nat)}(h:Num β b (o1++o2)):Num β (b+o1.length) o2:=fun i p hp=>by
 have:=h (o1.length+i) p (by rw[arj (by omega)];simpa using hp);rw[arw];exact this
def Num.one{p:Value×Nat}{os:List (Value×Nat)}(h:Num β b (os++[p])):β (b+os.length)=some p:=by
 have:=h.right 0 p rfl;simpa using this
def Tr(w:World)(β:Beta)(E:Nat→AV)(e:Nat→Value)(ts:List Nat):Prop:= ∀ t∈ts,R1 w β (E t) (e t)
def R1.apk{c:AV}{v:Value}(h:R1 w β c v)(h1:v.oneCell'=true):RC w β c v:=by
 cases c with
 | un=>exact .un h1
 | lit v'=>have:=h.lits;subst this;exact .lit h1
 | sl k xs=>exact h
 | own id=>exact h
 | ptr a b c d=>exact h
 | ipt a b c=>exact h
 | arr k xs=>obtain⟨us,rfl,_⟩:=h;cases h1
 | agg cs=>obtain⟨us,rfl,_⟩:=h;cases h1
 | tup vs=>exact h.elim
 | gd a b c=>exact h.elim
mutual
theorem abj (hM: ∀ b,MZ β b→M b): ∀ (h:Sh) (H:Hp) (b:Nat) (x:LT h) (v:Value) (os:List (Value×Nat)),qY h=true→Rel P w M e h x v os→Num β b os→Tr w β E e (IH h)→
  RC w β (ch E H b h x).1 v∧(ch E H b h x).2.2=b+os.length∧alB P w β H (ch E H b h x).2.1 b os.length
 | .int k,H,b,x,v,os,_,hr,_,_=>by obtain⟨rfl,rfl⟩:=hr;exact⟨.lit rfl,rfl,.nil⟩
 | .bool,H,b,x,v,os,_,hr,_,_=>by obtain⟨rfl,rfl⟩:=hr;exact⟨.lit rfl,rfl,.nil⟩
 | .str,H,b,x,v,os,_,hr,_,_=>by obtain⟨rfl,rfl⟩:=hr;exact⟨.lit rfl,rfl,.nil⟩
 | .sl k,H,b,x,v,os,_,hr,_,_=>by obtain⟨h1,rfl⟩:=hr;exact⟨h1 β hM,rfl,.nil⟩
 | .fz k,H,b,x,v,os,_,hr,_,_=>by obtain⟨h1,rfl⟩:=hr;exact⟨h1 β hM,rfl,.nil⟩
 | .row t k,H,b,x,v,os,_,hr,hn,_=>by
  obtain⟨rfl,h1,h2⟩:=hr;have hb:β b=some (v,x.length):=hn.one (os:=[]);exact⟨.own hb h1,rfl,.one ⟨v,hb,h2 β hM⟩⟩
 | .akl t k,H,b,x,v,os,_,hr,hn,_=>by
  obtain⟨rfl,h1,h2⟩:=hr;have hb:β b=some (v,x.length):=hn.one (os:=[]);exact⟨.own hb h1,rfl,.one ⟨v,hb,h2 β hM⟩⟩
 | .abx t k,H,b,x,v,os,_,hr,hn,_=>by
  obtain⟨rfl,h1,bb,us,rfl,h3,h4,h5,h6⟩:=hr;have hb:β b=some (.pointer (some ⟨bb,0,none⟩),x.length):=hn.one (os:=[]);refine⟨?_,rfl,.one ⟨bb,us,hb,h3,h4,h5,h6 β hM⟩⟩;have:=RC.ptr (w:=w) (sz:=ks k) (o:=0) hb (rfl:adr (.pointer (some ⟨bb,0,none⟩))=some ⟨bb,0,none⟩) (i:=0) (by omega);show RC w β (.ptr b (ks k) 0 0) _;simpa using this
 | .arr _,_,_,_,_,_,h,_,_,_=>by simp[qY]at h
 | .agg _,_,_,_,_,_,h,_,_,_=>by simp[qY]at h
 | .same t,H,b,x,v,os,_,hr,_,hs=>by
  obtain⟨rfl,rfl,h1⟩:=hr;refine⟨?_,rfl,.nil⟩;exact(hs t (by simp[IH])).apk h1
 | .box t l,H,b,x,v,os,hl,hr,hn,hs=>by
  obtain⟨bb,us,os',rfl,h2,h3,rfl⟩:=hr;have un:ch E H b (.box t l) x=(match aw E H b l x with | (cs,H,b)=>(AV.ptr b cs.length 0 0,upd H b (some (.box t cs)),b+1)):=rfl;obtain⟨k1,k2,k3⟩:=Ja hM l H b x us.toList os' (by simpa[qY] using hl) h3 hn.left (by simpa[IH] using hs);rw[un];generalize aw E H b l x=r at *;obtain⟨cs,H',b'⟩:=r;simp only at k1 k2 k3;subst k2;have hb:=hn.one;refine⟨?_,by simp[arw], ?_⟩
  ·have:=RC.ptr (w:=w) (sz:=cs.length) (o:=0) hb (rfl:adr (.pointer (some ⟨bb,0,none⟩))=some ⟨bb,0,none⟩) (i:=0) (by omega);simpa using this
  ·rw[aqD];exact k3.trans (.one ⟨bb,us,hb,h2,k1⟩)
theorem Ja (hM: ∀ b,MZ β b→M b): ∀ (l:List Sh) (H:Hp) (b:Nat) (x:LTs l) (us:List Value) (os:List (Value×Nat)),uU l=true→akn P w M e l x us os→Num β b os→Tr w β E e (pS l)→
  RL (RC w β) (aw E H b l x).1 us∧(aw E H b l x).2.2=b+os.length∧alB P w β H (aw E H b l x).2.1 b os.length
 | [],H,b,x,us,os,_,hr,_,_=>by obtain⟨rfl,rfl⟩:=hr;exact⟨.nil,rfl,.nil⟩
 | h::l,H,b,x,us,os,hl,hr,hn,hs=>by
  obtain⟨u,us',o1,o2,rfl,rfl,h1,h2⟩:=hr;simp only[uU,aqt]at hl;have un:aw E H b (h::l) x=(match ch E H b h x.1 with | (c,H,b)=>match aw E H b l x.2 with | (cs,H,b)=>(c::cs,H,b)):=rfl;obtain⟨k1,k2,k3⟩:=abj hM h H b x.1 u o1 hl.1 h1 hn.left (fun t ht=>hs t (aqH _ ht));rw[un];generalize ch E H b h x.1=r at *;obtain⟨c,H',b'⟩:=r;simp only at k1 k2 k3 ⊢;subst k2;obtain⟨j1,j2,j3⟩:=Ja hM l H' (b+o1.length) x.2 us' o2 hl.2 h2 hn.right (fun t ht=>hs t (aqN _ ht));generalize aw E H' (b+o1.length) l x.2=r at *;obtain⟨cs,H'',b''⟩:=r;simp only at j1 j2 j3 ⊢;subst j2;refine⟨.cons k1 j1,by simp[arw], ?_⟩;rw[aqD];exact k3.trans j3
end
def abi(hM: ∀ b,MZ β b→M b)(h:Sh)(H:Hp)(b:Nat)(x:LT h)(v:Value)(os:List (Value×Nat))(ht:aiw h=true)(hr:Rel P w M e h x v os)(hn:Num β b os)(hs:Tr w β E e (IH h)):
  R1 w β (ch E H b h x).1 v∧(ch E H b h x).2.2=b+os.length∧alB P w β H (ch E H b h x).2.1 b os.length:=by
 by_cases hh:qY h=true
 ·obtain⟨h1,h2,h3⟩:=abj hM h H b x v os hh hr hn hs;exact⟨.akX h1,h2,h3⟩
 ·cases h<;>first | (exact absurd ht hh;done) | skip
  case agg l=>
   obtain⟨us,rfl,h1⟩:=hr;have un:ch E H b (.agg l) x=(match aw E H b l x with | (cs,H,b)=>(AV.agg cs,H,b)):=rfl;obtain⟨k1,k2,k3⟩:=Ja hM l H b x us os ht h1 hn hs;rw[un];generalize aw E H b l x=r at *;obtain⟨cs,H',b'⟩:=r;exact⟨⟨us,rfl,k1⟩,k2,k3⟩
  case arr k=>
   obtain⟨rfl,h1⟩:=hr;exact⟨h1 β hM,rfl,.nil⟩
def I9(hM: ∀ b,MZ β b→M b): ∀ (l:List Sh) (H:Hp) (b:Nat) (x:LTs l) (us:List Value) (os:List (Value×Nat)),Cq l=true→akn P w M e l x us os→Num β b os→Tr w β E e (pS l)→
  RL (R1 w β) (aw E H b l x).1 us∧(aw E H b l x).2.2=b+os.length∧alB P w β H (aw E H b l x).2.1 b os.length
 | [],H,b,x,us,os,_,hr,_,_=>by obtain⟨rfl,rfl⟩:=hr;exact⟨.nil,rfl,.nil⟩
 | h::l,H,b,x,us,os,hl,hr,hn,hs=>by
  obtain⟨u,us',o1,o2,rfl,rfl,h1,h2⟩:=hr;simp only[Cq,aqt]at hl;have un:aw E H b (h::l) x=(match ch E H b h x.1 with | (c,H,b)=>match aw E H b l x.2 with | (cs,H,b)=>(c::cs,H,b)):=rfl;obtain⟨k1,k2,k3⟩:=abi hM h H b x.1 u o1 hl.1 h1 hn.left (fun t ht=>hs t (aqH _ ht));rw[un];generalize ch E H b h x.1=r at *;obtain⟨c,H',b'⟩:=r;simp only at k1 k2 k3 ⊢;subst k2;obtain⟨j1,j2,j3⟩:=I9 hM l H' (b+o1.length) x.2 us' o2 hl.2 h2 hn.right (fun t ht=>hs t (aqN _ ht));generalize aw E H' (b+o1.length) l x.2=r at *;obtain⟨cs,H'',b''⟩:=r;simp only at j1 j2 j3 ⊢;subst j2;refine⟨.cons k1 j1,by simp[arw], ?_⟩;rw[aqD];exact k3.trans j3
end
end Go.VS
namespace Go.VS
open Go
def AB: ∀ {l:List Nat},Nj l=true→l.Nodup
 | [],_=>List.nodup_nil
 | a::l,h=>by
  simp only[Nj,aqt,aro]at h;refine asJ.2 ⟨fun hm=> ?_,AB h.2⟩;have:(l.any fun b=>aqK a b)=true:=asu.2 ⟨a,hm,by simp⟩;rw[this]at h;cases h.1
def X7{l m:List Nat}(h:off l m=true): ∀ a∈l,a ∉ m:=fun a ha hm=>by
 have h1:=arp.1 h a ha;have:(m.any fun b=>aqK a b)=true:=asu.2 ⟨a,hm,by simp⟩;rw[this]at h1;cases h1
section
variable {B:ake} {β β':Beta} {H H':Hp} {w w':World} {M:Nat→Prop} {E:Nat→AV} {e:Nat→Value} {stk:List (Array Value)} {s s':S} {a:Act}
def q7{ids:List Nat}{b:Nat}(h:b∈bC (ids.filterMap β)): ∃ i∈ids,∃ p a,β i=some p∧adr p.1=some a∧a.block=b:=by
 obtain⟨p,hp,hb⟩:=arH.1 h;obtain⟨i,hi,hβ⟩:=arH.1 hp;obtain⟨a,ha,e⟩:=aqY.1 hb;exact⟨i,hi,p,a,hβ,ha,e⟩
def A8(hH:Hs B β H w): ∀ {ids:List Nat},ids.Nodup→(bC (ids.filterMap β)).Nodup
 | [],_=>List.nodup_nil
 | i::ids,h=>by
  obtain⟨h1,h2⟩:=asJ.1 h;have ih:=A8 hH h2;cases hβ:β i with
  | none=>simpa[hβ] using ih
  | some p=>
   cases hb:uE p with
   | none=>simpa[hβ,hb] using ih
   | some b=>
    simp only[bC,at3,hβ,hb];refine asJ.2 ⟨fun hm=> ?_,ih⟩;obtain⟨j,hj,q,a',hq,ha',e'⟩:=q7 hm;obtain⟨a,ha,e⟩:=aqY.1 hb;have:=hH.inj i j p q a a' hβ hq ha ha' (by rw[e,e']);subst this;exact h1 hj
def KU{ids:List Nat}{b:Nat}(h:b∈bC (ids.filterMap β)):MB β b:=by
 obtain⟨i,_,p,a,h1,h2,h3⟩:=q7 h;exact⟨i,p.1,p.2,a,h1,h2,h3⟩
abbrev MO(B:ake)(l:List Nat)(b:Nat):Prop:=b∈l∨B.Z b
def aio(hH:Hs B β H w){ids:List Nat}{b:Nat}(h:MO B (bC (ids.filterMap β)) b):MZ β b:=by
 rcases h with h | h
 ·exact .inl (KU h)
 ·exact .inr (by rw[hH.z];exact h)
def RO(hH:Hs B β H w){fz ids:List Nat}(h:off fz ids=true):Wc β (MO B (bC (ids.filterMap β))) fz:=by
 intro i hi p a hp ha hm;rcases hm with hm | hm
 case inr=>rw[← hH.z]at hm;exact hH.zn i p a hp ha hm
 obtain⟨j,hj,q,a',hq,ha',e⟩:=q7 hm;have:=hH.inj i j p q a a' hp hq ha ha' e.symm;subst this;exact X7 h i hi hj
def Hb(Z:Nat→Prop)(os:List (Value×Nat)):Beta:=⟨fun i=>os[i]?, Z⟩
def Qy(Z:Nat→Prop)(os:List (Value×Nat)):Num (Hb Z os) 0 os:=fun i p h=>by rw[arI];exact h
def xi{Z:Nat→Prop}{os:List (Value×Nat)}{b:Nat}(h:MB (Hb Z os) b):b∈bC os:=by
 obtain⟨i,hd,n,a,h1,h2,h3⟩:=h;exact arH.2 ⟨(hd,n),aqT h1,by simp[uE,h2,h3]⟩
def WC{os:List (Value×Nat)}{b:Nat}(h:MZ (Hb B.Z os) b):MO B (bC os) b:=h.imp xi fun h=>h
def I2{os:List (Value×Nat)}(h:(bC os).Nodup): ∀ (i j:Nat) (p q:Value×Nat) (a a':Addr),os[i]? =some p→os[j]? =some q→adr p.1=some a→adr q.1=some a'→a.block=a'.block→i=j:=by
 induction os with
 | nil=>intro i j p q a a' hi;simp at hi
 | cons x os ih=>
  have hx: ∀ {p:Value×Nat} {a:Addr},adr p.1=some a→uE p=some a.block:=fun h=>by simp[uE,h]
  have ih':(bC os).Nodup:=by
   cases hb:uE x with
   | none=>simpa[hb] using h
   | some b=>simp only[bC,at3,hb]at h;exact(asJ.1 h).2
  have al1: ∀ (j:Nat) (q:Value×Nat) (a a':Addr),os[j]? =some q→adr x.1=some a→adr q.1=some a'→a.block=a'.block→False:=by
   intro j q a a' hj ha ha' e;simp only[bC,at3,hx ha]at h;refine(asJ.1 h).1 (arH.2 ⟨q,aqT hj, ?_⟩);rw[hx ha',e]
  intro i j p q a a' hi hj ha ha' e;cases i with
  | zero=>
   simp at hi;subst hi;cases j with
   | zero=>rfl
   | succ j=>simp at hj;exact(al1 j q a a' hj ha ha' e).elim
  | succ i=>
   simp at hi;cases j with
   | zero=>simp at hj;subst hj;exact(al1 i p a' a hi ha' ha e.symm).elim
   | succ j=>simp at hj;rw[ih ih' i j p q a a' hi hj ha ha' e]
def Hs.an2(hH:Hs B β H w){os:List (Value×Nat)}(hn:(bC os).Nodup)(hb: ∀ b∈bC os,MB β b)(hm:alB B.P w (Hb B.Z os) (fun _=>none) H' 0 os.length):Hs B (Hb B.Z os) H' w where
 akE id ob ho:=by
  by_cases h:id < os.length
  ·obtain⟨ob',h1,h2⟩:=hm.2 id (arB _) (by omega);rw[h1]at ho;cases ho;exact h2
  ·rw[hm.1 id (by omega)]at ho;cases ho
 dom id p hp:=by
  have h:id < os.length:=(aqF.1 (show os[id]? =some p from hp)).1;obtain⟨ob',h1,_⟩:=hm.2 id (arB _) (by omega);exact⟨ob',h1⟩
 inj i j p q a a' hi hj:=I2 hn i j p q a a' hi hj
 old b h:=hH.old b (hb b (xi h))
 os:=hH.os
 tape:=hH.tape
 output:=hH.output
 size:=hH.size
 block:=hH.block
 z:=rfl
 zn id p a hp ha hz:=by
  have hb:=hb a.block (arH.2 ⟨p,aqT hp,by simp[uE,ha]⟩);obtain⟨j,hd,n,a',h1,h2,h3⟩:=hb;refine hH.zn j _ a' h1 h2 ?_;rw[h3,hH.z];exact hz
 zl b h:=hH.zl b (by rw[hH.z];exact h)
 pk:=hH.pk
def Qo{E:Nat→AV}{h:Sh}{c:AV}{x:LT h}(hx:dW E H h c=some x):(∀ g w v,c≠ .gd g w v)∧ ∀ vs,c≠ .tup vs:=by
 constructor
 ·rintro g w v rfl;cases h<;>simp[dW,gQ]at hx
 ·rintro vs rfl;cases h<;>simp[dW,gQ]at hx
def RT.al8{tm:Nat→Value}{c:AV}{v:Value}(h:RT w β tm c v)(h1: ∀ g w v,c≠ .gd g w v)(h2: ∀ vs,c≠ .tup vs):R1 w β c v:=by
 cases c<;>first | exact h | exact absurd rfl (h1 _ _ _) | exact absurd rfl (h2 _)
def Nf{tm:Nat→Value}{T:Nat→AV}(R:amr B β H w M T tm)(hT: ∀ t,RT w β tm (T t) (tm t)): ∀ (c:Sch) (x:Lv c),Ww H T c=some x→Wc β M (W0 H T c)→
  ∃ os,akn B.P w M tm (c.map (·.2)) x (c.map fun p=>tm p.1) os∧bC os=bC ((AQ H T c).filterMap β)
 | [],x,hx,_=>⟨[],⟨rfl,rfl⟩,rfl⟩
 | (t,h)::c,x,hx,hf=>by
  obtain⟨x1,e1,hx⟩:=aqw.1 hx;obtain⟨x2,e2,hx⟩:=aqw.1 hx;cases hx;obtain⟨p1,p2⟩:=Qo e1;obtain⟨o1,j1,j2⟩:=Qn R h (T t) (tm t) x1 ((hT t).al8 p1 p2) e1 (fun i hi=>hf i (aqH _ hi));obtain⟨o2,j3,j4⟩:=Nf R hT c x2 e2 (fun i hi=>hf i (aqN _ hi));refine⟨o1++o2,⟨tm t,c.map fun p=>tm p.1,o1,o2,rfl,rfl,j1,j3⟩, ?_⟩;simp only[bC,ar9,AQ]at j2 j4 ⊢;rw[j2,j4]
def QQ{P:Program}{tm:Nat→Value}(hM: ∀ b,MZ β b→M b): ∀ (c:Sch) (T:Nat→AV) (H:Hp) (b:Nat) (x:Lv c) (os:List (Value×Nat)),Cq (c.map (·.2))=true→akn P w M tm (c.map (·.2)) x (c.map fun p=>tm p.1) os→Num β b os→(∀ t,R1 w β (T t) (tm t))→
  (∀ t,R1 w β ((uM T H b c x).1 t) (tm t))∧(uM T H b c x).2.2=b+os.length∧alB P w β H (uM T H b c x).2.1 b os.length
 | [],T,H,b,x,os,_,hr,_,hT=>by obtain⟨_,rfl⟩:=hr;exact⟨hT,rfl,.nil⟩
 | (t,h)::c,T,H,b,x,os,hl,hr,hn,hT=>by
  obtain⟨u,us',o1,o2,e1,rfl,h1,h2⟩:=hr;simp only[arx,as9]at e1;obtain⟨rfl,rfl⟩:=e1;simp only[arx,Cq,aqt]at hl;have un:uM T H b ((t,h)::c) x=(match ch T H b h x.1 with | (v,H,b)=>uM (upd T t v) H b c x.2):=rfl;obtain⟨k1,k2,k3⟩:=abi (E:=T) hM h H b x.1 (tm t) o1 hl.1 h1 hn.left (fun t' _=>hT t');rw[un];generalize ch T H b h x.1=r at *;obtain⟨v,H',b'⟩:=r;simp only at k1 k2 k3 ⊢;subst k2;obtain⟨j1,j2,j3⟩:=QQ hM c (upd T t v) H' (b+o1.length) x.2 o2 hl.2 h2 hn.right (fun t'=>by
   by_cases e:t'=t
   ·subst e;rw[ax];exact k1
   ·rw[aI _ _ e];exact hT t')
  refine⟨j1,by rw[j2];simp[arw], ?_⟩;rw[aqD];exact k3.trans j3
def R1.anE{tm:Nat→Value}{c:AV}{v:Value}(h:R1 w β c v):RT w β tm c v:= .ald (.ale h)
def St.join(hst:St B β stk s a w){c:Sch}{x:Lv c}(hx:rdS c s=some x):stk=[]∧ ∃ β',St B β' [] (mkS s.n s.pins c x) a w∧Fr (mkS s.n s.pins c x)∧(mkS s.n s.pins c x).n=s.n∧(mkS s.n s.pins c x).pins=s.pins:=by
 unfold rdS at hx;split at hx
 ·rename_i hs hnd hok;have am0:stk=[]:=by
   have:=hst.stack.1;rw[hs]at this;exact aq2 this
  refine⟨am0, ?_⟩;simp only[aqt]at hnd;simp only[aie,aqt]at hok;have R:amr B β s.H w (MO B (bC ((AQ s.H s.T c).filterMap β))) s.T (dq a):={
   hs:=hst.hs
   hM:=fun b hb=>aio hst.hs hb
   hE:=fun t id z e=>(hst.T t).al8 (by rw[e];simp) (by rw[e];simp) }
  obtain⟨os,h1,h2⟩:=Nf R hst.T c x hx (RO hst.hs hnd.2);have anL:(bC os).Nodup:=by rw[h2];exact A8 hst.hs (AB hnd.1)
  have hMB: ∀ b∈bC os,MB β b:=fun b hb=>by rw[h2]at hb;exact KU hb
  obtain⟨k1,k2,k3⟩:=QQ (β:=Hb B.Z os) (P:=B.P) (w:=w) (M:=MO B (bC ((AQ s.H s.T c).filterMap β))) (tm:=dq a) (fun b hb=>by have:=WC hb;rw[h2]at this;exact this) c (fun _=> .un) (fun _=>none) 0 x os hok.1.2 h1 (Qy B.Z os) (fun _=>trivial);have un:mkS s.n s.pins c x=(match uM (fun _=> .un) (fun _=>none) 0 c x with
   | (T,H,b)=>{ n:=s.n,T:=T,H:=H,nid:=b,st:=[],pins:=s.pins,gs:=fun _=>false }):=rfl
  rw[un];generalize uM (fun _=> .un) (fun _=>none) 0 c x=r at *;obtain⟨T,H',b⟩:=r;simp only at k1 k2 k3;have hH:=hst.hs.an2 anL hMB k3;refine⟨Hb B.Z os,⟨fun t=>(k1 t).anE,⟨rfl,fun i T' tm h=>by simp at h⟩,hst.n,hst.defers,hst.pins,fun t g want y hy=> ?_,hH⟩,fun j hj=> ?_,rfl,rfl⟩
  ·have:=k1 t;have hy:T t= .gd g want y:=hy;rw[hy]at this;exact this.elim
  ·exact k3.1 j (.inr (by have hj:b≤j:=hj;omega))
 ·cases hx
end
end Go.VS
namespace Go.VS
open Go
structure KOK {Ω:Type} (B:ake) (stk:List (Array Value)) (n:Nat) (pins:List Nat) (k:Kt Ω) (q:Ω) (Q:Exit→Act→World→Prop):Prop where
 nrm: ∀ β a w s,St B β stk s a w→Fr s→s.n=n→s.pins=pins→k.nrm s=some q→Q .normal a w
 ret: ∀ β a w s,St B β stk s a w→Fr s→s.n=n→s.pins=pins→k.ret s=some q→Q .ret a w
 ext: ∀ id β a w s,St B β stk s a w→Fr s→s.n=n→s.pins=pins→k.ext id s=some q→Q (.exit id) a w
def El(B:ake)(n:Nat)(pins:List Nat)(body:Code)(l:Loop):Prop:= ∀ (x:Lv l.sch) (r:Lv l.alI ⊕ Lv l.alJ),l.run x=some r→ ∀ (β:Beta) (a:Act) (w:World) (Q:Exit→Act→World→Prop),
 St B β [] (mkS n pins l.sch x) a w→Fr (mkS n pins l.sch x)→
 (∀ y,r= .inl y→ ∀ β a w,St B β [] (mkS n pins l.alI y) a w→Fr (mkS n pins l.alI y)→Q .ret a w)→
 (∀ y,r= .inr y→ ∀ β a w,St B β [] (mkS n pins l.alJ y) a w→Fr (mkS n pins l.alJ y)→Q (.exit l.xid) a w)→(Code.loop body).wp B.P Q a w
def wI(L:Code→Loop→Prop):Code→Adv→Prop
 | .seq a b,.join _ u v=>wI L a u∧wI L b v
 | .seq a b,v=>wI L a v.a∧wI L b v.z
 | .cond _ x y,v=>wI L x v.a∧wI L y v.z
 | .block _ c,v=>wI L c v.a
 | .loop c,.loop l=>L c l
 | _,_=>True
def cE(L:Code→Loop→Prop): ∀ c:Code,wI L c .nil
 | .seq a b=>⟨cE L a,cE L b⟩
 | .cond _ x y=>⟨cE L x,cE L y⟩
 | .block _ c=>cE L c
 | .skip=>trivial
 | .region _ _ _=>trivial
 | .loop _=>trivial
 | .exit _=>trivial
 | .ret=>trivial
 | .rangeFunc _ _ _ _=>trivial
 | .scope _=>trivial
 | .label _=>trivial
 | .goto _=>trivial
 | .refuse _=>trivial
section
variable {C:Cx} {B:ake} {inl:(Ω:Type)→Inl Ω}
def EK(hP:C.P=B.P)(hm:B.P.follows .mixedOrders=true)(hC:mQ C B)(hI:B5 C B inl): ∀ (c:Code) {Ω:Type} (v:Adv) (k:Kt Ω) (s:S) (q:Ω) {β:Beta} {stk:List (Array Value)} {a:Act} {w:World} {Q:Exit→Act→World→Prop},
  evk C inl c Ω v k s=some q→St B β stk s a w→Fr s→wI (El B s.n s.pins) c v→KOK B stk s.n s.pins k q Q→c.wp B.P Q a w:=by
 intro c
 induction c with
 | skip=>exact fun v k s q β stk a w Q he hst hfr _ hk=>wp_skip (hk.nrm _ _ _ _ hst hfr rfl rfl he)
 | region id ops draw=>
  intro Ω v k s q β stk a w Q he hst hfr _ hk;cases draw with
  | false=>exact Nt hP hC hI (show RZ C (inl Ω) ops ops.toList s k.nrm=some q from he) hfr hst fun β a w s' h1 h2 h3 h4 h5=>hk.nrm β a w s' h1 h2 h3 h4 h5
  | true=>
   obtain⟨β1,hs1,_⟩:=St.akh (acK C ops s) hst;have hk1:=aj1.akh (N:=fun _=>False) (acK C ops s) (aj1.refl _ s);have he:evD C ops ((acK C ops s).foldl S.freeze s) ops.toList 0 s.nid [] ((acK C ops s).foldl S.freeze s) k.nrm=some q:=he;rw[← hk1.nid]at he;exact adB hP hm hC he (fun j hj=>hk1.nn j (fun h=>h) (hfr j (by rw[hk1.nid]at hj;exact hj))) hs1 fun β a w s' h1 h2 h3 h4 h5=>hk.nrm β a w s' h1 h2 (h3.trans hk1.n) (h4.trans hk1.pins) h5
 | seq x y ihx ihy=>
  intro Ω v k s q β stk a w Q he hst hfr ak4 hk;refine wp_seq ?_;by_cases hj: ∃ c u v',v= .join c u v'
  ·obtain⟨c,u,v',rfl⟩:=hj;obtain⟨ha1,ha2⟩:=ak4;have he:bB (fun x=>evk C inl y Ω v' k (mkS s.n s.pins c x)) (evk C inl x (Ω ⊕ Lv c) u { nrm:=fun s=>(rdS c s).bind fun x=>some (.inr x),ret:=fun s=>(k.ret s).bind fun o=>some (.inl o),ext:=fun j s=>(k.ext j s).bind fun o=>some (.inl o) } s)=some q:=he;obtain⟨r,h1,h2⟩:=aqw.1 he;refine ihx u _ s r h1 hst hfr ha1 ⟨?_, ?_, ?_⟩
   ·intro β' a' w' s' k1 k2 k3 k4 k5;obtain⟨z,j1,j2⟩:=aqw.1 k5;cases j2;obtain⟨rfl,β2,m1,m2,m3,m4⟩:=k1.join j1;rw[k3,k4]at m1 m2 m3 m4;exact ihy v' k _ q h2 m1 m2 (by rw[m3,m4];exact ha2) (by rw[m3,m4];exact hk)
   ·intro β' a' w' s' k1 k2 k3 k4 k5;obtain⟨o,j1,j2⟩:=aqw.1 k5;cases j2;have h2:some o=some q:=h2;cases h2;exact hk.ret _ _ _ _ k1 k2 k3 k4 j1
   ·intro id β' a' w' s' k1 k2 k3 k4 k5;obtain⟨o,j1,j2⟩:=aqw.1 k5;cases j2;have h2:some o=some q:=h2;cases h2;exact hk.ext id _ _ _ _ k1 k2 k3 k4 j1
  ·have he:evk C inl x Ω v.a { k with nrm:=evk C inl y Ω v.z k } s=some q:=by
    cases v<;>first | exact he | exact absurd ⟨_,_,_,rfl⟩ hj
   have ak4:wI (El B s.n s.pins) x v.a∧wI (El B s.n s.pins) y v.z:=by
    cases v<;>first | exact ak4 | exact absurd ⟨_,_,_,rfl⟩ hj
   refine ihx v.a _ s q he hst hfr ak4.1 ⟨?_,hk.ret,hk.ext⟩;intro β' a' w' s' k1 k2 k3 k4 k5;exact ihy v.z k s' q k5 k1 k2 (by rw[k3,k4];exact ak4.2) (by rw[k3,k4];exact hk)
 | cond o x y ihx ihy=>
  intro Ω v k s q β stk a w Q he hst hfr ak4 hk;have he:(match s.ev o with
   | .lit (.bool b)=>if b then evk C inl x Ω v.a k s else evk C inl y Ω v.z k s
   | _=>none)=some q:=he
  split at he
  ·rename_i b hb;have h1:=hst.eval o;rw[hb]at h1;have h2:a.eval o= .bool b:=h1;refine wp_cond h2 ?_;cases b with
   | true=>exact ihx v.a k s q he hst hfr ak4.1 hk
   | false=>exact ihy v.z k s q he hst hfr ak4.2 hk
  ·cases he
 | block id x ihx=>
  intro Ω v k s q β stk a w Q he hst hfr ak4 hk;refine wp_block ?_;have he:evk C inl x Ω v.a { k with ext:=fun j s=>match aqK j id with
   | true=>k.nrm s
   | false=>k.ext j s } s=some q:=he
  refine ihx v.a _ s q he hst hfr ak4 ⟨hk.nrm,hk.ret, ?_⟩;intro j β' a' w' s' k1 k2 k3 k4 k5;show if j=id then Q .normal a' w' else Q (.exit j) a' w'
  simp only at k5;split at k5
  ·rename_i e;rw[aqh (aD e)];exact hk.nrm _ _ _ _ k1 k2 k3 k4 k5
  ·rename_i e;rw[aqg (Ad e)];exact hk.ext _ _ _ _ _ k1 k2 k3 k4 k5
 | loop body _=>
  intro Ω v k s q β stk a w Q he hst hfr ak4 hk;cases v<;>first | (cases he;done) | skip
  rename_i l;have he:((rdS l.sch s).bind fun x=>aJ (l.run x) (fun y=>k.ret (mkS s.n s.pins l.alI y)) (fun y=>k.ext l.xid (mkS s.n s.pins l.alJ y)))=some q:=he;obtain⟨x,h1,h2⟩:=aqw.1 he;obtain⟨r,h3,h4⟩:=aqw.1 h2;obtain⟨rfl,β',m1,m2,_,_⟩:=hst.join h1;have ak4:El B s.n s.pins body l:=ak4;refine ak4 x r h3 β' a w Q m1 m2 ?_ ?_
  ·rintro y rfl β a w k1 k2;exact hk.ret _ _ _ _ k1 k2 (by unfold mkS;rfl) (by unfold mkS;rfl) h4
  ·rintro y rfl β a w k1 k2;exact hk.ext _ _ _ _ _ k1 k2 (by unfold mkS;rfl) (by unfold mkS;rfl) h4
 | exit id=>exact fun v k s q β stk a w Q he hst hfr _ hk=>wp_exit (hk.ext _ _ _ _ _ hst hfr rfl rfl he)
 | ret=>exact fun v k s q β stk a w Q he hst hfr _ hk=>wp_ret (hk.ret _ _ _ _ hst hfr rfl rfl he)
 | _=>
  intro Ω v k s q β stk a w Q he;cases he
def HD(p:Nat→Prop)(h: ∃ n,p n): ∃ n,p n∧ ∀ m,p m→n≤m:=by
 obtain⟨n,hn⟩:=h
 induction n using Nat.strongRecOn with
 | _ n ih=>
  by_cases hm: ∃ m,m < n∧p m
  ·obtain⟨m,h1,h2⟩:=hm;exact ih m h1 h2
  ·exact⟨n,hn,fun m h=>Nat.le_of_not_lt fun hlt=>hm ⟨m,hlt,h⟩⟩
def VA{X Y:Type}{b:X→Option (X ⊕ Y)}{x:X}{y:Y}(h:aR b x=some y): ∃ n,vM b n x=some y:=by
 unfold aR at h;split at h
 ·rename_i hn;have:=arV (arV hn);cases h;exact⟨_,this⟩
 ·cases h
def Hl{X Y:Type}{b:X→Option (X ⊕ Y)}: ∀ (n:Nat) (x:X) {y:Y},vM b n x=some y→ ∀ m,n≤m→vM b m x=some y
 | 0,x,y,h=>by cases h
 | n+1,x,y,h=>by
  intro m hm;obtain⟨m,rfl⟩: ∃ k,m=k+1:=⟨m - 1,by omega⟩;obtain⟨r,h1,h2⟩:=aqw.1 (show((b x).bind fun r=>match r with
   | .inl y=>vM b n y
   | .inr z=>some z)=some y from h)
  show((b x).bind fun r=>match r with
   | .inl y=>vM b m y
   | .inr z=>some z)=some y
  rw[h1,aqs];cases r with
  | inl z=>exact Hl n z h2 m (by omega)
  | inr z=>exact h2
def Rw{X Y:Type}{b:X→Option (X ⊕ Y)}{x:X}{y:Y}{n:Nat}(h:vM b n x=some y):aR b x=some y:=by
 have hn: ∃ n y,vM b n x=some y:=⟨n,y,h⟩;unfold aR;rw[dif_pos hn];have h1:=arV (arV hn);have h2:=Hl _ _ h (n+as3 hn) (by omega);have h3:=Hl _ _ h1 (n+as3 hn) (by omega);rw[h2]at h3;exact h3.symm
def aaq{X Y:Type}{b:X→Option (X ⊕ Y)}{n:Nat}{x:X}{y:Y}(h:vM b (n+1) x=some y): ∃ r,b x=some r∧(∀ x',r= .inl x'→vM b n x'=some y)∧(∀ z,r= .inr z→z=y):=by
 obtain⟨r,h1,h2⟩:=aqw.1 (show((b x).bind fun r=>match r with
   | .inl y=>vM b n y
   | .inr z=>some z)=some y from h)
 refine⟨r,h1, ?_, ?_⟩
 ·rintro x' rfl;exact h2
 ·rintro z rfl;exact asb h2
def ahf(hP:C.P=B.P)(hm:B.P.follows .mixedOrders=true)(hC:mQ C B)(hI:B5 C B inl){n:Nat}{pins:List Nat}{body:Code}{v:Adv}{l:Loop}{b:Lv l.sch→Option (Lv l.sch ⊕ (Lv l.alI ⊕ Lv l.alJ))}
  (hb: ∀ x,evL C inl n pins body v l x=b x)(hr:l.run=aR b)(ak4:wI (El B n pins) body v):El B n pins body l:=by
 intro x r akm β a w Q hst hfr alw apT;rw[hr]at akm;obtain⟨N,hN⟩:=VA akm
 let J:Nat→Act→World→Prop:=fun m a w=> ∃ (x:Lv l.sch) (β:Beta),vM b m x=some r∧St B β [] (mkS n pins l.sch x) a w∧Fr (mkS n pins l.sch x)
 classical
 let μ:Act→World→Nat:=fun a w=>if h: ∃ m,J m a w then as3 (HD _ h) else 0
 have hμ: ∀ a w,(h: ∃ m,J m a w)→J (μ a w) a w∧ ∀ m,J m a w→μ a w≤m:=fun a w h=>by
  have:=arV (HD _ h);simp only[μ,dif_pos h];exact this
 refine wp_loop (fun a w=> ∃ m,J m a w) μ ⟨N,x,β,hN,hst,hfr⟩ ?_;intro a w hJ;obtain⟨⟨x,β,h1,h2,h3⟩,_⟩:=hμ a w hJ;generalize hm':μ a w=m at h1;cases m with
 | zero=>cases h1
 | succ m=>
  obtain⟨r1,k1,k2,k2'⟩:=aaq h1;have he:=hb x;rw[k1]at he;unfold evL at he;have en:(mkS n pins l.sch x).n=n:=by unfold mkS;rfl
  have ep:(mkS n pins l.sch x).pins=pins:=by unfold mkS;rfl
  refine EK hP hm hC hI body v _ _ r1 he h2 h3 (by rw[en,ep];exact ak4) ?_;rw[en,ep];refine⟨?_, ?_, ?_⟩
  ·intro β' a' w' s' j1 j2 j3 j4 j5;obtain⟨y,i1,i2⟩:=aqw.1 j5;cases i2;obtain⟨_,β2,m1,m2,_,_⟩:=j1.join i1;rw[j3,j4]at m1 m2;have hJ':J m a' w':=⟨y,β2,k2 y rfl,m1,m2⟩;refine⟨⟨m,hJ'⟩, ?_⟩;have:=(hμ a' w' ⟨m,hJ'⟩).2 m hJ';omega
  ·intro β' a' w' s' j1 j2 j3 j4 j5;obtain⟨y,i1,i2⟩:=aqw.1 j5;cases i2;obtain⟨_,β2,m1,m2,_,_⟩:=j1.join i1;rw[j3,j4]at m1 m2;have k2:=k2' _ rfl;subst k2;exact alw y rfl _ _ _ m1 m2
  ·intro id β' a' w' s' j1 j2 j3 j4 j5;simp only at j5;split at j5
   ·rename_i hid;obtain rfl:=aD hid;obtain⟨y,i1,i2⟩:=aqw.1 j5;cases i2;obtain⟨_,β2,m1,m2,_,_⟩:=j1.join i1;rw[j3,j4]at m1 m2;have k2:=k2' _ rfl;subst k2;exact apT y rfl _ _ _ m1 m2
   ·cases j5
end
end Go.VS
namespace Go.VS
open Go
def Wj:List Value→Value
 | [v]=>v
 | vs=> .tuple vs.toArray
def nY:List Sh→List Value→List Value
 | .box _ _::ps,v::vs=>v::nY ps vs
 | _::ps,_::vs=>nY ps vs
 | _,_=>[]
def Ba(P:Program)(f:FuncId):Prop:= ∀ (args:Array Value) (w:World),(callFunc f args).run P w= .ok (.enter f args) w
def oW{P:Program}{f:FuncId}{fn:Func}{c:Code}(hf:P.funcs[f]? =some fn)(akN:(fn.name == "runtime.NumGoroutine")=false)(hb:fn.body=some c):Ba P f:=by
 intro args w;have alT: ¬ fn.name= "runtime.NumGoroutine" :=by simpa using akN
 simp[callFunc,hf,alT,hb]
abbrev ar(args:List Value):Nat→Value:=fun i=>args.getD i undef
structure Ret (P:Program) (m:akx) (Z:Nat→Prop) (args:List Value) (os:List (Value×Nat)) (w:World) (r:LTs m.rs×LTs (aT m.ps)) (v:Value) (w':World):Prop where
 ex: ∃ vs os1 os2,v=Wj vs∧akn P w' (fun b=>b∈bC (os1++os2)∨Z b) (ar args) m.rs r.1 vs os1∧akn P w' (fun b=>b∈bC (os1++os2)∨Z b) (ar args) (aT m.ps) r.2 (nY m.ps args) os2∧
  (bC (os1++os2)).Nodup∧(∀ b∈bC (os1++os2),(b∈bC os∨w.heap.size≤b)∧b < w'.heap.size)
 wos:w'.os=w.os
 tape:w'.tape=w.tape
 output:w'.output=w.output
 size:w.heap.size≤w'.heap.size
 block: ∀ b,b < w.heap.size→b ∉ bC os→w'.heap[b]? =w.heap[b]?
 pk:Pk P w w'
def tu(P:Program)(f:FuncId)(m:akx):Prop:=Ba P f∧ ∀ (x:LTs m.ps) (r:LTs m.rs×LTs (aT m.ps)),m.g x=some r→ ∀ (w:World) (Z:Nat→Prop) (args:List Value) (os:List (Value×Nat)),
 akn P w (fun b=>b∈bC os∨Z b) (ar args) m.ps x args os→(bC os).Nodup→(∀ b∈bC os,b < w.heap.size∧ ¬ Z b)→(∀ b,Z b→b < w.heap.size)→Zr P w (fun b=>b∈bC os)→
 Calls P f args.toArray w fun en w'=> ∃ v,en= .returned v∧Ret P m Z args os w r v w'
section
variable {C:Cx} {B:ake} {β:Beta} {H:Hp} {w w':World} {M:Nat→Prop} {stk:List (Array Value)} {s s':S} {a:Act} {P:Program} {e e':Nat→Value}
mutual
theorem Rel.congr: ∀ (h:Sh) (x:LT h) (v:Value) (os:List (Value×Nat)),(∀ t∈IH h,e t=e' t)→Rel P w M e h x v os→Rel P w M e' h x v os
 | .int _,_,_,_,_,h=>h
 | .bool,_,_,_,_,h=>h
 | .str,_,_,_,_,h=>h
 | .sl _,_,_,_,_,h=>h
 | .fz _,_,_,_,_,h=>h
 | .row _ _,_,_,_,_,h=>h
 | .akl _ _,_,_,_,_,h=>h
 | .abx _ _,_,_,_,_,h=>h
 | .arr _,_,_,_,_,h=>h
 | .same t,_,_,_,he,h=>⟨h.1,h.2.1.trans (he t (by simp[IH])),h.2.2⟩
 | .agg l,x,v,os,he,h=>by
  obtain⟨us,h1,h2⟩:=h;exact⟨us,h1,akn.congr l x us os he h2⟩
 | .box t l,x,v,os,he,h=>by
  obtain⟨b,us,os',h1,h2,h3,h4⟩:=h;exact⟨b,us,os',h1,h2,akn.congr l x us.toList os' he h3,h4⟩
theorem akn.congr: ∀ (l:List Sh) (x:LTs l) (us:List Value) (os:List (Value×Nat)),(∀ t∈pS l,e t=e' t)→akn P w M e l x us os→akn P w M e' l x us os
 | [],_,_,_,_,h=>h
 | h::l,x,us,os,he,hr=>by
  obtain⟨u,us',o1,o2,h1,h2,h3,h4⟩:=hr;exact⟨u,us',o1,o2,h1,h2,Rel.congr h x.1 u o1 (fun t ht=>he t (aqH _ ht)) h3,akn.congr l x.2 us' o2 (fun t ht=>he t (aqN _ ht)) h4⟩
end
def akn.length: ∀ {l:List Sh} {x:LTs l} {us:List Value} {os:List (Value×Nat)},akn P w M e l x us os→us.length=l.length
 | [],_,_,_,h=>by rw[h.1];rfl
 | h::l,x,us,os,hr=>by
  obtain⟨u,us',o1,o2,rfl,_,_,h4⟩:=hr;simp[akn.length h4]
def IP{E:Nat→AV}: ∀ {l:List Sh} {cs:List AV} {x:LTs l},pX E H l cs=some x→cs.length=l.length
 | [],[],_,_=>rfl
 | [],_::_,_,h=>by cases h
 | _::_,[],_,h=>by cases h
 | h::l,c::cs,x,hx=>by
  obtain⟨x1,e1,hx⟩:=aqw.1 hx;obtain⟨x2,e2,hx⟩:=aqw.1 hx;simp[IP e2]
def JN: ∀ {l l':List Sh} {cs cs':List AV},cs.length=l.length→bQ H (l++l') (cs++cs')=bQ H l cs++bQ H l' cs'
 | [],l',[],cs',_=>rfl
 | h::l,l',c::cs,cs',hl=>by
  simp only[asv,bQ,JN (l:=l) (cs:=cs) (by simpa using hl),aqP]
 | [],_,_::_,_,hl=>by simp at hl
 | _::_,_,[],_,hl=>by simp at hl
def JQ: ∀ {l l':List Sh} {cs cs':List AV},cs.length=l.length→dV H (l++l') (cs++cs')=dV H l cs++dV H l' cs'
 | [],l',[],cs',_=>rfl
 | h::l,l',c::cs,cs',hl=>by
  simp only[asv,dV,JQ (l:=l) (cs:=cs) (by simpa using hl),aqP]
 | [],_,_::_,_,hl=>by simp at hl
 | _::_,_,[],_,hl=>by simp at hl
def Qg(tmps:Array Value):ResultVar→Sem Value
 | .tmp t=>pure (tmps.getD t undef)
 | .cell a t=>do loadVar t (← asAddr (tmps.getD a undef))
def IL(hP:P=B.P)(hst:St B β stk s a w): ∀ (l:List ResultVar) {vs:List AV},Et P s l=some vs→
  ∃ us:List Value,(l.mapM (Qg a.tmps)).run P w=Result.ok us w∧us.length=vs.length∧ ∀ (i:Nat) (c:AV) (u:Value),vs[i]? =some c→us[i]? =some u→RX w β (dq a) c u
 | [],vs,h=>by
  cases h;exact⟨[],rfl,rfl,fun i c u h=>by simp at h⟩
 | .tmp t::l,vs,h=>by
  obtain⟨vs',h1,h⟩:=aqw.1 h;cases h;obtain⟨us,k1,k2,k3⟩:=IL hP hst l h1;refine⟨dq a t::us, ?_,by simp[k2],fun i c u h1 h2=> ?_⟩
  ·simp only[at6,Qg,arY,ar8,arE,k1];rfl
  ·cases i with
   | zero=>
    simp at h1 h2;subst h1;subst h2;exact(hst.T t).anD
   | succ i=>exact k3 i c u (by simpa using h1) (by simpa using h2)
 | .cell x t::l,vs,h=>by
  obtain⟨v,h0,h⟩:=aqw.1 h;obtain⟨vs',h1,h⟩:=aqw.1 h;cases h;obtain⟨us,k1,k2,k3⟩:=IL hP hst l h1;have hx:R2 w β (s.T x) (dq a x):=(hst.T x).anF (by
   cases hT:s.T x<;>first | rfl | (rw[hT]at h0;cases h0))
  obtain⟨u,j1,j2⟩:=Vs hP hst.hs hx h0;have apE: ∃ ad,dq a x= .pointer (some ad):=by
   cases hT:s.T x<;>rw[hT]at h0 hx<;>first | (cases h0;done) | skip
   ·rename_i id z i o;have hx:RC w β (.ptr id z i o) (dq a x):=hx;generalize dq a x=y at hx;cases hx;exact⟨_,rfl⟩
   ·rename_i k xx o;have hx:RC w β (.ipt k xx o) (dq a x):=hx;generalize dq a x=y at hx;cases hx;exact⟨_,rfl⟩
  obtain⟨ad,had⟩:=apE;have apY:a.tmps.getD x undef= .pointer (some ad):=had;rw[had]at j1;refine⟨u::us, ?_,by simp[k2],fun i c u' h1 h2=> ?_⟩
  ·have j1':(loadVar t ad).run P w= .ok u w:=by simpa[atj,asD] using j1
   simp only[at6,Qg,apY,asAddr,arY,ar8,arE,j1',k1]
  ·cases i with
   | zero=>
    simp at h1 h2;subst h1;subst h2;exact(RT.ald (R2.ale j2)).anD
   | succ i=>exact k3 i c u' (by simpa using h1) (by simpa using h2)
def Nb{fn:Func}{us:List Value}(h:(fn.results.toList.mapM (Qg a.tmps)).run P w=Result.ok us w):(results fn a.tmps).run P w= .ok (Wj us) w:=by
 have e1:results fn a.tmps=(do
   let vs ← fn.results.mapM (Qg a.tmps)
   pure (if h:vs.size=1 then vs[0] else .tuple vs)):=rfl
 rw[e1,Array.mapM_eq_mapM_toList,map_eq_pure_bind];simp only[bind_assoc,pure_bind,arY,h,arE,ar8]
 match us with
 | []=>rfl
 | [u]=>rfl
 | u::v::l=>simp[Wj]
end
end Go.VS
namespace Go.VS
open Go
def okM(m:akx)(n:Nat):Bool:=Cq m.ps&&Cq m.rs&&asa m.ps.length n&&(pS m.rs++pS (aT m.ps)).all fun t=>(dL 0 m.ps).any fun p=>aqK p t
section
variable {C:Cx} {B:ake} {β:Beta} {H:Hp} {w w':World} {M:Nat→Prop} {stk:List (Array Value)} {s s':S} {a:Act} {P:Program} {e e':Nat→Value} {inl:(Ω:Type)→Inl Ω}
def sX{E:Nat→AV}: ∀ {l:List Sh} {cs:List AV} {x:LTs l},pX E H l cs=some x→ ∀ c∈cs,(∀ g w v,c≠ .gd g w v)∧ ∀ vs,c≠ .tup vs
 | [],[],_,_,c,hc=>by cases hc
 | [],_::_,_,h,_,_=>by cases h
 | _::_,[],_,h,_,_=>by cases h
 | h::l,d::cs,x,hx,c,hc=>by
  obtain⟨x1,e1,hx⟩:=aqw.1 hx;obtain⟨x2,e2,hx⟩:=aqw.1 hx;rcases aqS.1 hc with rfl | hc
  ·exact Qo e1
  ·exact sX e2 c hc
def RX.al8{tm:Nat→Value}{c:AV}{v:Value}(h:RX w β tm c v)(h1: ∀ g w v,c≠ .gd g w v)(h2: ∀ vs,c≠ .tup vs):R1 w β c v:=by
 have:=h.of h1;cases c<;>first | exact this | exact absurd rfl (h2 _)
def KT(args:List Value): ∀ (ps:List Sh) (k:Nat),args.length=k+ps.length→nY ps (args.drop k)=(dL k ps).map (ar args)
 | [],k,h=>by
  have:args.drop k=[]:=asm (by simp at h;omega);rw[this];rfl
 | p::ps,k,h=>by
  have hk:k < args.length:=by simp at h;omega
  rw[asZ hk];have ih:=KT args ps (k+1) (by simp at h ⊢; omega);have aos:ar args k=args[k]:=by simp[ar,hk]
  cases p<;>simp only[nY,dL,Yr,arx,ih,aos]
def vb(args:List Value)(n t:Nat):dq { tmps:=args.toArray++atw (n - args.toArray.size) undef,defers:=[] } t=ar args t:=by
 simp only[dq,ar,asT,aqE];by_cases h:t < args.length
 ·rw[asj (by simpa using h)];simp
 ·rw[Array.getElem?_append_right (by simpa using h),arW (by omega)];cases hr:(atw (n - args.toArray.size) undef)[t - args.toArray.size]? with
  | none=>rfl
  | some v=>
   rw[Array.getElem?_replicate]at hr;split at hr
   ·cases hr;rfl
   ·cases hr
def PC{fn:Func}{m:akx}{r:LTs m.rs×LTs (aT m.ps)}{args:List Value}{os:List (Value×Nat)}(hst:St B β stk s a w)(hO:B.O=fun b=>b∈bC os)(htm:B.tm0=ar args)(hlen:args.length=m.ps.length)(hp:s.pins=dL 0 m.ps)
  {n:Nat}(hok:okM m n=true)(hf:fin B.P fn m s=some r): ∃ v,(results fn a.tmps).run B.P w= .ok v w∧Ret B.P m B.Z args os B.w0 r v w:=by
 unfold fin at hf;obtain⟨vs,h1,hf⟩:=aqw.1 hf;split at hf
 ·rename_i hnd;simp only[aqt]at hnd;obtain⟨r1,h2,hf⟩:=aqw.1 hf;obtain⟨q,h3,hf⟩:=aqw.1 hf;cases hf;obtain⟨us,k1,k2,k3⟩:=IL rfl hst fn.results.toList h1;have hl1:=IP h2;rw[JN hl1,JQ hl1]at hnd;generalize aor:bQ s.H m.rs vs=Yy at hnd;generalize aoq:bQ s.H (aT m.ps) ((dL 0 m.ps).map s.T)=Yx at hnd;have R:amr B β s.H w (MO B (bC ((Yy++Yx).filterMap β))) s.T (dq a):={
   hs:=hst.hs
   hM:=fun b hb=>aio hst.hs hb
   hE:=fun t id z e=>(hst.T t).al8 (by rw[e];simp) (by rw[e];simp) }
  have hfz:=RO hst.hs hnd.2;have rl1:RL (R1 w β) vs us:=⟨k2,fun j c u e1 e2=>(k3 j c u e1 e2).al8 (sX h2 c (aqT e1)).1 (sX h2 c (aqT e1)).2⟩;have rl2:RL (R1 w β) ((dL 0 m.ps).map s.T) ((dL 0 m.ps).map (dq a)):=⟨by simp,fun j c u e1 e2=>by
   obtain⟨h5,h6⟩:=sX h3 c (aqT e1);rw[ari]at e1 e2;obtain⟨t,ht,rfl⟩:=aqY.1 e1;obtain⟨t',ht',rfl⟩:=aqY.1 e2;rw[ht]at ht';cases ht';exact(hst.T t).al8 h5 h6⟩
  obtain⟨os1,j1,j2⟩:=Ay R m.rs vs us r1 rl1 h2 (fun i hi=>hfz i (aqH _ hi));obtain⟨os2,j3,j4⟩:=Ay R (aT m.ps) _ _ q rl2 h3 (fun i hi=>hfz i (aqN _ hi));rw[aor]at j2;rw[aoq]at j4;have ak1:bC (os1++os2)=bC ((Yy++Yx).filterMap β):=by
   simp only[bC,ar9]at j2 j4 ⊢;rw[j2,j4]
  have aoy:MO B (bC ((Yy++Yx).filterMap β))=fun b=>b∈bC (os1++os2)∨B.Z b:=by rw[ak1]
  rw[aoy]at j1 j3;have aoR: ∀ t∈dL 0 m.ps,dq a t=ar args t:=fun t ht=>by rw[hst.pins t (by rw[hp];exact ht),htm]
  simp only[okM,aqt,arp,asu]at hok;have akq: ∀ t∈pS m.rs++pS (aT m.ps),dq a t=ar args t:=fun t ht=>by
   obtain⟨p,hp1,hp2⟩:=hok.2 t ht;rw[← aD hp2];exact aoR p hp1
  refine⟨Wj us,Nb k1,⟨us,os1,os2,rfl,akn.congr _ _ _ _ (fun t ht=>akq t (aqH _ ht)) j1, ?_, ?_, ?_⟩,hst.hs.os,hst.hs.tape,hst.hs.output,hst.hs.size, ?_,hst.hs.pk⟩
  ·have e1:nY m.ps args=(dL 0 m.ps).map (dq a):=by
    have:=KT args m.ps 0 (by omega);rw[asn]at this;rw[this];exact arK fun t ht=>(aoR t ht).symm
   rw[e1];exact akn.congr _ _ _ _ (fun t ht=>akq t (aqN _ ht)) j3
  ·rw[ak1];exact A8 hst.hs (AB hnd.1)
  ·intro b hb;rw[ak1]at hb;have:=hst.hs.old b (KU hb);rw[hO]at this;exact this
  ·intro b hb hn;have:=hst.hs.block b hb;rw[hO]at this;exact this hn
 ·cases hf
def aeE{P:Program}(hP:C.P=P)(hm:P.follows .mixedOrders=true)(hC: ∀ B:ake,B.P=P→mQ C B)(hI: ∀ B:ake,B.P=P→B5 C B inl){f:FuncId}{fn:Func}{body:Code}(hf:P.funcs[f]? =some fn)(akN:(fn.name == "runtime.NumGoroutine")=false)
  (hb:fn.body=some body){v:Adv}{m:akx}(hok:okM m fn.ntmps=true)(ak4: ∀ B:ake,B.P=P→wI (El B fn.ntmps (dL 0 m.ps)) body v)(hg: ∀ x,ahD C inl fn v m x=m.g x):tu P f m:=by
 refine⟨oW hf akN hb,fun x r hx w Z args os hr hnd hbl hZ hgl=> ?_⟩;rw[← hg]at hx;unfold ahD at hx;rw[hb]at hx;simp only[evF]at hx;have ank:=hok;simp only[okM,aqt]at ank;obtain⟨⟨⟨hps,hrs⟩,hn⟩,_⟩:=ank;have hn:=aq1 hn;have hlen:=hr.length
 let B:ake:={ P:=P,w0:=w,O:=fun b=>b∈bC os,tm0:=ar args,Z:=Z,gl:=hgl }
 have am1:Num (Hb Z os) 0 os:=Qy Z os;obtain⟨k1,k2,k3⟩:=I9 (β:=Hb Z os) (E:=fun _=> .un) (M:=fun b=>b∈bC os∨Z b) (P:=P) (w:=w) (e:=ar args) (fun b hb=>WC (B:=B) hb) m.ps (fun _=>none) 0 x args os hps hr am1 (fun t _=>trivial);have hi:adf fn.ntmps m.ps x=(match aw (fun _=> .un) (fun _=>none) 0 m.ps x with
  | (vs,H,b)=>{ n:=fn.ntmps,T:=fun t=>(vs[t]?).getD oZ,H:=H,nid:=b,st:=[],pins:=dL 0 m.ps,gs:=fun _=>false }):=rfl
 rw[hi]at hx;generalize aw (fun _=> .un) (fun _=>none) 0 m.ps x=q at *;obtain⟨vs,H,b⟩:=q;simp only at hx k1 k2 k3;have hH:Hs B (Hb Z os) H w:={
  akE:=fun id ob ho=>by
   by_cases h:id < os.length
   ·obtain⟨ob',h1,h2⟩:=k3.2 id (arB _) (by omega);rw[h1]at ho;cases ho;exact h2
   ·rw[k3.1 id (by omega)]at ho;cases ho
  dom:=fun id p hp=>by
   have h:id < os.length:=(aqF.1 (show os[id]? =some p from hp)).1;obtain⟨ob',h1,_⟩:=k3.2 id (arB _) (by omega);exact⟨ob',h1⟩
  inj:=fun i j p q a a' hi hj=>I2 hnd i j p q a a' hi hj
  old:=fun b hb=>⟨.inl (xi hb),(hbl b (xi hb)).1⟩
  os:=rfl
  tape:=rfl
  output:=rfl
  size:=aqG _
  block:=fun _ _ _=>rfl
  z:=rfl
  zn:=fun id p a hp ha=>(hbl _ (xi (Z:=Z) ⟨id,p.1,p.2,a,hp,ha,rfl⟩)).2
  zl:=hZ
  pk:=Pk.refl _ _ }
 refine calls_of_wp hf hb ?_;have hst:St B (Hb Z os) [] { n:=fn.ntmps,T:=fun t=>(vs[t]?).getD oZ,H:=H,nid:=b,st:=[],pins:=dL 0 m.ps,gs:=fun _=>false } { tmps:=args.toArray++atw (fn.ntmps - args.toArray.size) undef,defers:=[] } w:=by
  refine⟨fun t=> ?_,⟨rfl,fun i T' tm h=>by simp at h⟩, ?_,rfl,fun t _=>vb args _ t,fun t g want y hy=> ?_,hH⟩
  ·rw[vb];show RT w _ _ ((vs[t]?).getD oZ) _;cases hv:vs[t]? with
   | none=>
    have:args.length≤t:=by
     rw[k1.1];exact atx.1 hv
    show RT w _ _ oZ (ar args t);have e0:ar args t=undef:=by simp[ar,arW this]
    rw[e0];rfl
   | some c=>
    have hlt:t < args.length:=by rw[k1.1];exact(aqF.1 hv).1
    have hu:args[t]? =some (ar args t):=by simp[ar,hlt]
    exact(k1.2 t c _ hv hu).anE
  ·simp;omega
  ·have hy:(vs[t]?).getD oZ= .gd g want y:=hy;cases hv:vs[t]? with
   | none=>rw[hv]at hy;cases hy
   | some c=>
    rw[hv]at hy;have hy:c= .gd g want y:=hy;have hlt:t < args.length:=by rw[k1.1];exact(aqF.1 hv).1
    have hu:args[t]? =some (ar args t):=by simp[ar,hlt]
    have:=k1.2 t c _ hv hu;rw[hy]at this;exact this.elim
 refine EK (B:=B) hP hm (hC B rfl) (hI B rfl) body v _ _ r hx hst (fun j hj=>k3.1 j (.inr (by have hj:b≤j:=hj;omega))) (ak4 B rfl) ⟨?_, ?_, ?_⟩
 ·intro β' a' w' s' h1 h2 h3 h4 h5;obtain⟨v',i1,i2⟩:=PC (B:=B) h1 rfl rfl hlen h4 hok (show fin P fn m s'=some r by rw[← hP];exact h5);exact⟨h1.defers,v',i1,v',rfl,i2⟩
 ·intro β' a' w' s' h1 h2 h3 h4 h5;obtain⟨v',i1,i2⟩:=PC (B:=B) h1 rfl rfl hlen h4 hok (show fin P fn m s'=some r by rw[← hP];exact h5);exact⟨h1.defers,v',i1,v',rfl,i2⟩
 ·intro id β' a' w' s' h1 h2 h3 h4 h5;cases h5
end
end Go.VS
namespace Go.VS
open Go
def uA(l:List Sh):Bool:=jy l&&l.all fun h=> !Yr h
section
variable {B:ake} {β β':Beta} {H:Hp} {w w':World} {M:Nat→Prop} {stk:List (Array Value)} {s s':S} {a:Act} {P:Program} {E:Nat→AV} {e:Nat→Value} {b:Nat}
mutual
theorem ac6: ∀ h:Sh,dB h=true→qY h=true∧IH h=[]
 | .int _,_=>⟨rfl,rfl⟩
 | .bool,_=>⟨rfl,rfl⟩
 | .str,_=>⟨rfl,rfl⟩
 | .sl _,_=>⟨rfl,rfl⟩
 | .row _ _,_=>⟨rfl,rfl⟩
 | .fz _,_=>⟨rfl,rfl⟩
 | .akl _ _,_=>⟨rfl,rfl⟩
 | .abx _ _,_=>⟨rfl,rfl⟩
 | .arr _,h=>by simp[dB]at h
 | .agg _,h=>by simp[dB]at h
 | .same _,h=>by simp[dB]at h
 | .box _ l,h=>by
  have:=Dc l (by simpa[dB] using h);exact⟨by simpa[qY] using this.1,by simpa[IH] using this.2⟩
theorem Dc: ∀ l:List Sh,jy l=true→uU l=true∧pS l=[]
 | [],_=>⟨rfl,rfl⟩
 | h::l,hl=>by
  simp only[jy,aqt]at hl;have h1:=ac6 h hl.1;have h2:=Dc l hl.2;exact⟨by simp[uU,h1.1,h2.1],by simp[pS,h1.2,h2.2]⟩
end
def AS: ∀ (l:List Sh) (H:Hp) (b:Nat) (cs:List AV) (x:LTs l),uA l=true→bm E H b l cs x=aw E H b l x
 | [],_,_,_,_,_=>rfl
 | h::l,H,b,cs,x,hl=>by
  simp only[uA,jy,ats,aqt]at hl;obtain⟨⟨h1,h2⟩,h3,h4⟩:=hl;have un:bm E H b (h::l) cs x=(match lC E H b h (cs.headD .un) x.1 with | (d,H,b)=>match bm E H b l cs.tail x.2 with | (ds,H,b)=>(d::ds,H,b)):=rfl;have un2:aw E H b (h::l) x=(match ch E H b h x.1 with | (c,H,b)=>match aw E H b l x.2 with | (cs,H,b)=>(c::cs,H,b)):=rfl;have e1:lC E H b h (cs.headD .un) x.1=ch E H b h x.1:=L5 h1 (fun t l' e'=>by rw[e']at h3;simp[Yr]at h3);rw[un,un2,e1];generalize ch E H b h x.1=r;obtain⟨c,H',b'⟩:=r;simp only;rw[AS l H' b' cs.tail x.2 (by simp only[uA,aqt];exact⟨h2,h4⟩)]
mutual
theorem Yc: ∀ (h:Sh) (H:Hp) (b:Nat) (x:LT h) (v:Value) (os:List (Value×Nat)),qY h=true→Rel P w M e h x v os→(ch E H b h x).2.2=b+os.length
 | .int k,H,b,x,v,os,_,hr=>by obtain⟨_,rfl⟩:=hr;rfl
 | .bool,H,b,x,v,os,_,hr=>by obtain⟨_,rfl⟩:=hr;rfl
 | .str,H,b,x,v,os,_,hr=>by obtain⟨_,rfl⟩:=hr;rfl
 | .sl k,H,b,x,v,os,_,hr=>by obtain⟨_,rfl⟩:=hr;rfl
 | .fz k,H,b,x,v,os,_,hr=>by obtain⟨_,rfl⟩:=hr;rfl
 | .row t k,H,b,x,v,os,_,hr=>by obtain⟨rfl,_⟩:=hr;rfl
 | .akl t k,H,b,x,v,os,_,hr=>by obtain⟨rfl,_⟩:=hr;rfl
 | .abx t k,H,b,x,v,os,_,hr=>by obtain⟨rfl,_⟩:=hr;rfl
 | .arr _,_,_,_,_,_,h,_=>by simp[qY]at h
 | .agg _,_,_,_,_,_,h,_=>by simp[qY]at h
 | .same t,H,b,x,v,os,_,hr=>by obtain⟨rfl,_⟩:=hr;rfl
 | .box t l,H,b,x,v,os,hl,hr=>by
  obtain⟨bb,us,os',rfl,h2,h3,rfl⟩:=hr;have un:ch E H b (.box t l) x=(match aw E H b l x with | (cs,H,b)=>(AV.ptr b cs.length 0 0,upd H b (some (.box t cs)),b+1)):=rfl;have k:=ED l H b x us.toList os' (by simpa[qY] using hl) h3;rw[un];generalize aw E H b l x=r at *;obtain⟨cs,H',b'⟩:=r;have k:b'=b+os'.length:=k;simp[k,arw]
theorem ED: ∀ (l:List Sh) (H:Hp) (b:Nat) (x:LTs l) (us:List Value) (os:List (Value×Nat)),uU l=true→akn P w M e l x us os→(aw E H b l x).2.2=b+os.length
 | [],H,b,x,us,os,_,hr=>by obtain⟨_,rfl⟩:=hr;rfl
 | h::l,H,b,x,us,os,hl,hr=>by
  obtain⟨u,us',o1,o2,rfl,rfl,h1,h2⟩:=hr;simp only[uU,aqt]at hl;have un:aw E H b (h::l) x=(match ch E H b h x.1 with | (c,H,b)=>match aw E H b l x.2 with | (cs,H,b)=>(c::cs,H,b)):=rfl;have k:=Yc h H b x.1 u o1 hl.1 h1;rw[un];generalize ch E H b h x.1=r at *;obtain⟨c,H',b'⟩:=r;have k:b'=b+o1.length:=k;subst k;have k2:=ED l H' (b+o1.length) x.2 us' o2 hl.2 h2;simp only;generalize aw E H' (b+o1.length) l x.2=r at *;obtain⟨cs,H'',b''⟩:=r;have k2:b''=_:=k2;simp[k2,arw]
end
mutual
theorem ae8: ∀ (h:Sh) (H:Hp) (b:Nat) (x:LT h) (j:Nat),¬ (b≤j∧j < (ch E H b h x).2.2)→(ch E H b h x).2.1 j=H j
 | .int _,H,_,_,_,_=>rfl
 | .bool,H,_,_,_,_=>rfl
 | .str,H,_,_,_,_=>rfl
 | .sl _,H,_,_,_,_=>rfl
 | .arr _,H,_,_,_,_=>rfl
 | .same _,H,_,_,_,_=>rfl
 | .fz _,H,_,_,_,_=>rfl
 | .row _ _,H,b,_,j,hj=>aI _ _ (fun e=>hj ⟨by omega,by show j < b+1;omega⟩)
 | .akl _ _,H,b,_,j,hj=>aI _ _ (fun e=>hj ⟨by omega,by show j < b+1;omega⟩)
 | .abx _ _,H,b,_,j,hj=>aI _ _ (fun e=>hj ⟨by omega,by show j < b+1;omega⟩)
 | .agg l,H,b,x,j,hj=>by
  have un:ch E H b (.agg l) x=(match aw E H b l x with | (cs,H,b)=>(AV.agg cs,H,b)):=rfl;have ih:=EB l H b x j;rw[un]at hj ⊢;generalize aw E H b l x=r at *;exact ih hj
 | .box e l,H,b,x,j,hj=>by
  have un:ch E H b (.box e l) x=(match aw E H b l x with | (cs,H,b)=>(AV.ptr b cs.length 0 0,upd H b (some (.box e cs)),b+1)):=rfl;have ih:=EB l H b x j;have hle:=iN E l H b x;rw[un]at hj ⊢;generalize aw E H b l x=r at *;obtain⟨cs,H',b'⟩:=r;simp only at hj ih hle ⊢;rw[aI _ _ (fun e=>hj ⟨by omega,by omega⟩)];exact ih fun h=>hj ⟨h.1,by omega⟩
theorem EB: ∀ (l:List Sh) (H:Hp) (b:Nat) (x:LTs l) (j:Nat),¬ (b≤j∧j < (aw E H b l x).2.2)→(aw E H b l x).2.1 j=H j
 | [],H,_,_,_,_=>rfl
 | h::l,H,b,x,j,hj=>by
  have un:aw E H b (h::l) x=(match ch E H b h x.1 with | (c,H,b)=>match aw E H b l x.2 with | (cs,H,b)=>(c::cs,H,b)):=rfl;have ih:=ae8 h H b x.1 j;have hle:=cN E h H b x.1;rw[un]at hj ⊢;generalize ch E H b h x.1=r at *;obtain⟨c,H',b'⟩:=r;have ih2:=EB l H' b' x.2 j;have amM:=iN E l H' b' x.2;simp only at hj ⊢;generalize aw E H' b' l x.2=r at *;obtain⟨cs,H'',b''⟩:=r;simp only at hj ih ih2 hle amM ⊢;rw[ih2 fun h=>hj ⟨by omega,h.2⟩];exact ih fun h=>hj ⟨h.1,by omega⟩
end
end
end Go.VS
namespace Go.VS
open Go
section
variable {B B':ake} {β β':Beta} {H:Hp} {w w':World} {M M':Nat→Prop} {stk:List (Array Value)} {s s':S} {a:Act} {P:Program} {E:Nat→AV} {e:Nat→Value} {b:Nat}
def St.apu{f:AV→AV}(h:St B β stk s a w)(ht:B'.tm0=B.tm0)(hf: ∀ c,akp c=true→f c=c)(hg: ∀ c g want x,f c= .gd g want x→ ∃ y,c= .gd g want y)(hk:Kf f w β w' β'){H':Hp}(hH:Hs B' β' H' w'):St B' β' stk { s.map f with H:=H' } a w':=by
 have g1: ∀ c g want x,oQ f c= .gd g want x→ ∃ y,c= .gd g want y:=by
  intro c g want x e;cases c<;>first | (cases e;done) | exact hg _ _ _ _ e
 have g2: ∀ c g want x,p6 f c= .gd g want x→ ∃ y,c= .gd g want y:=by
  intro c g want x e;cases c<;>first | (cases e;done) | exact g1 _ _ _ _ e
 have g3: ∀ c g want x,vK f c= .gd g want x→ ∃ y,c= .gd g want y:=by
  intro c g want x e;cases c with
  | gd g' w' y=>cases e;exact⟨_,rfl⟩
  | _=>exact g2 _ _ _ _ e
 refine⟨fun t=>RT.map hf hk (h.T t),⟨by simpa[S.map] using h.stack.1,fun i T tm h1 h2 t=> ?_⟩,h.n,h.defers,fun t ht'=>by rw[ht];exact h.pins t ht',fun t g want x hx=> ?_,hH⟩
 ·simp only[S.map,ari,aqY]at h1;obtain⟨T0,h3,rfl⟩:=h1;exact RT.map hf hk (h.stack.2 i T0 tm h3 h2 t)
 ·obtain⟨y,hy⟩:=g3 _ _ _ _ hx;exact h.gs _ _ _ _ hy
def Beta.kz(β:Beta)(id:Nat):Beta:=⟨upd β.f id none,fun b=>β.Z b∨ ∃ p a,β id=some p∧adr p.1=some a∧a.block=b⟩
def Beta.amc(β:Beta)(id j:Nat):(β.kz id) j=if j=id then none else β j:=by
 show upd β.f id none j=_;by_cases e:j=id
 ·subst e;rw[ax,aqh rfl]
 ·rw[aI _ _ e,aqg e]
def St.an6(h:St B β stk s a w)(id:Nat):St { B with Z:=(β.kz id).Z } (β.kz id) stk (s.kill id) a w:=by
 have hM: ∀ b,¬ MZ β b→b < w.heap.size→ ¬ MZ (β.kz id) b:=fun b hb _ hm=>by
  rcases hm with⟨j,hd,n,a,hj,ha,hab⟩ | hz | ⟨p,a,hp,ha,hab⟩
  ·rw[Beta.amc]at hj;split at hj
   ·cases hj
   ·exact hb (.inl ⟨j,hd,n,a,hj,ha,hab⟩)
  ·exact hb (.inr hz)
  ·exact hb (.inl ⟨id,p.1,p.2,a,hp,ha,hab⟩)
 have hk:Kf (kl1 id) w β w (β.kz id):=Kf.kill (fun j e=>aI _ _ e) (fun _ _ _ _ h=>h) hM;have hH:=h.hs.am4 (fy id) hk (fun j e=>aI _ _ e) (.inl ⟨ax _ _ _,rfl⟩) (fun _ _ _ _ _ _=>rfl) rfl rfl rfl (aqG _) (fun _ _ _=>rfl) (fun b hb=>hb.imp (fun h=>h) fun h=>⟨ax _ _ _,h⟩) (Pk.refl _ _);exact h.apu (B':={ B with Z:=(β.kz id).Z }) rfl (fy id) (He id) hk hH
def St.amn: ∀ (ids:List Nat) {B:ake} {β:Beta} {s:S},ids.Nodup→St B β stk s a w→ ∃ β2:Beta,St { B with Z:=β2.Z } β2 stk (ids.foldl S.kill s) a w∧(∀ j,β2 j=if j∈ids then none else β j)∧
  (∀ b,β2.Z b↔β.Z b∨ ∃ i∈ids,∃ p a,β i=some p∧adr p.1=some a∧a.block=b)
 | [],B,β,s,_,h=>by
  have e:{ B with Z:=β.Z } =B:=by rw[h.hs.z]
  exact⟨β,by rw[e];exact h,fun j=>by simp,fun b=>by simp⟩
 | i::ids,B,β,s,hn,h=>by
  obtain⟨hn1,hn2⟩:=asJ.1 hn;obtain⟨β2,h1,h2,h3⟩:=St.amn ids hn2 (h.an6 i);refine⟨β2,h1,fun j=> ?_,fun b=> ?_⟩
  ·rw[h2,Beta.amc];by_cases e1:j∈ids
   ·rw[aqh e1,aqh (aqx _ e1)]
   ·by_cases e2:j=i
    ·rw[aqg e1,aqh e2,aqh (by rw[e2];exact aqA)]
    ·rw[aqg e1,aqg e2,aqg (by simp[e1,e2])]
  ·rw[h3];constructor
   ·rintro((h | ⟨p,a,h⟩) | ⟨j,hj,p,a,hp,h⟩)
    ·exact .inl h
    ·exact .inr ⟨i,aqA,p,a,h⟩
    ·rw[Beta.amc]at hp;split at hp
     ·cases hp
     ·exact .inr ⟨j,aqx _ hj,p,a,hp,h⟩
   ·rintro(h | ⟨j,hj,p,a,hp,h⟩)
    ·exact .inl (.inl h)
    ·rcases aqS.1 hj with rfl | hj
     ·exact .inl (.inr ⟨p,a,hp,h⟩)
     ·refine .inr ⟨j,hj,p,a, ?_,h⟩;rw[Beta.amc,aqg (fun(e:j=i)=>hn1 (e▸hj))];exact hp
def St.ak2(h:St B β stk s a w)(id:Nat):St B (β.up id none) stk (s.freeze id) a w:=by
 unfold S.freeze;split
 ·rename_i e fz k xs hid;obtain⟨h1,h2⟩:=h.hs.ak2 hid;exact h.map (L7 id k xs) (afN id k xs) h2 h1
 ·obtain⟨h1,h2⟩:=h.hs.am8 id;exact h.map (fy id) (He id) h2 h1
def St.aly: ∀ (ids:List Nat) {β:Beta} {s:S},St B β stk s a w→ ∃ β2:Beta,St B β2 stk (ids.foldl S.freeze s) a w∧(∀ j,β2 j=if j∈ids then none else β j)∧β2.Z=β.Z
 | [],β,s,h=>⟨β,h,fun j=>by simp,rfl⟩
 | i::ids,β,s,h=>by
  obtain⟨β2,h1,h2,h3⟩:=St.aly ids (h.ak2 i);refine⟨β2,h1,fun j=> ?_,h3⟩;rw[h2];by_cases e1:j∈ids
  ·rw[aqh e1,aqh (aqx _ e1)]
  ·by_cases e2:j=i
   ·subst e2;rw[aqg e1,aqh aqA,Beta.akK]
   ·rw[aqg e1,Beta.ak5 _ _ e2,aqg (by simp[e1,e2])]
def St.aoz(q:Bool)(ids:List Nat)(h:St B β stk s a w): ∃ β2:Beta,St B β2 stk (Cm q ids s) a w∧(∀ j,β2 j=if q=true∧j∈ids then none else β j)∧β2.Z=β.Z:=by
 cases q with
 | false=>exact⟨β,h,fun j=>by simp,rfl⟩
 | true=>
  obtain⟨β2,h1,h2,h3⟩:=St.aly ids h;exact⟨β2,h1,fun j=>by simp[h2],h3⟩
def Vu{t:TypeId}{j:Nat}: ∀ (ids:List Nat) (s:S) {cs:List AV},j ∉ ids→s.H j=some (.box t cs)→ ∃ cs',(ids.foldl S.kill s).H j=some (.box t cs')
 | [],s,cs,_,h=>⟨cs,h⟩
 | i::ids,s,cs,hj,h=>by
  have hne:j≠i:=fun e=>hj (e▸aqA);refine Vu ids (s.kill i) (cs:=cs.map (kl1 i)) (fun hm=>hj (aqx _ hm)) ?_;show upd (fun j=>gT (kl1 i) (s.H j)) i none j=_;rw[aI _ _ hne,h];rfl
def Nr{t:TypeId}{j:Nat}: ∀ (ids:List Nat) (s:S) {cs:List AV},j ∉ ids→s.H j=some (.box t cs)→ ∃ cs',(ids.foldl S.freeze s).H j=some (.box t cs')
 | [],s,cs,_,h=>⟨cs,h⟩
 | i::ids,s,cs,hj,h=>by
  have hne:j≠i:=fun e=>hj (e▸aqA);have: ∃ cs',(s.freeze i).H j=some (.box t cs'):=by
   unfold S.freeze;split
   ·rename_i k xs _;refine⟨cs.map (fz1 i k xs), ?_⟩;show upd (fun j=>gT (fz1 i k xs) (s.H j)) i none j=_;rw[aI _ _ hne,h];rfl
   ·refine⟨cs.map (kl1 i), ?_⟩;show upd (fun j=>gT (kl1 i) (s.H j)) i none j=_;rw[aI _ _ hne,h];rfl
  obtain⟨cs',h'⟩:=this;exact Nr ids (s.freeze i) (fun hm=>hj (aqx _ hm)) h'
def afM{t:TypeId}{j:Nat}(q:Bool)(ids:List Nat)(s:S){cs:List AV}(hj: ¬ (q=true∧j∈ids))(h:s.H j=some (.box t cs)): ∃ cs',(Cm q ids s).H j=some (.box t cs'):=by
 cases q with
 | false=>exact⟨cs,h⟩
 | true=>exact Nr ids s (fun hm=>hj ⟨rfl,hm⟩) h
mutual
theorem aeL: ∀ (h:Sh) (c:AV),(gG H h c).Sublist (je H h c)
 | .int _,_=>art _
 | .bool,_=>art _
 | .str,_=>art _
 | .sl _,_=>art _
 | .arr _,_=>art _
 | .same _,_=>art _
 | .fz _,_=>art _
 | .row _ _,c=>by cases c<;>exact art _
 | .akl _ _,c=>by cases c<;>exact art _
 | .abx _ _,c=>by
  cases c with
  | ptr id z i o=>cases i<;>cases o<;>exact art _
  | _=>exact art _
 | .agg l,c=>by
  cases c with
  | agg cs=>exact Es l cs
  | _=>exact art _
 | .box t l,c=>by
  cases c with
  | ptr id z i o=>
   cases i<;>cases o<;>simp only[gG,je]<;>first | exact art _ | skip
   split
   ·exact(Es l _).trans (List.sublist_append_left _ _)
   ·exact art _
  | _=>exact art _
theorem Es: ∀ (l:List Sh) (cs:List AV),(dp H l cs).Sublist (bQ H l cs)
 | [],_=>by simp only[dp,bQ];exact art _
 | _::_,[]=>by simp only[dp,bQ];exact art _
 | h::l,c::cs=>by
  simp only[dp,bQ];exact(aeL h c).append (Es l cs)
end
def Lh(H:Hp)(i:Nat):Prop:= ∀ t cs,H i≠some (.box t cs)
mutual
theorem acF: ∀ (h:Sh) (c:AV) (x:LT h),dW E H h c=some x→ ∀ i∈gG H h c,Lh H i
 | .int _,_,_,_,i,hi=>by simp[gG]at hi
 | .bool,_,_,_,i,hi=>by simp[gG]at hi
 | .str,_,_,_,i,hi=>by simp[gG]at hi
 | .sl _,_,_,_,i,hi=>by simp[gG]at hi
 | .arr _,_,_,_,i,hi=>by simp[gG]at hi
 | .same _,_,_,_,i,hi=>by simp[gG]at hi
 | .fz _,_,_,_,i,hi=>by simp[gG]at hi
 | .row t k,c,x,hx,i,hi=>by
  cases c<;>simp[gG]at hi;subst hi;intro t' cs hb;simp[dW,hb]at hx
 | .akl t k,c,x,hx,i,hi=>by
  cases c<;>simp[gG]at hi;subst hi;intro t' cs hb;simp[dW,hb]at hx
 | .abx t k,c,x,hx,i,hi=>by
  cases c with
  | ptr id z i' o=>
   cases i'<;>cases o<;>simp[gG]at hi;subst hi;intro t' cs hb;simp[dW,hb]at hx
  | _=>simp[gG]at hi
 | .agg l,c,x,hx,i,hi=>by
  cases c with
  | agg cs=>exact Av l cs x hx i (by simpa[gG] using hi)
  | _=>simp[gG]at hi
 | .box t l,c,x,hx,j,hi=>by
  cases c with
  | ptr id z i o=>
   cases i<;>cases o<;>simp only[gG]at hi<;>first | (simp at hi;done) | skip
   cases ho:H id with
   | none=>simp[ho]at hi
   | some ob=>
    cases ob with
    | box e' cs=>
     simp only[ho]at hi;simp only[dW,ho]at hx;split at hx
     ·exact Av l cs x hx j hi
     ·cases hx
    | _=>simp[ho]at hi
  | _=>simp[gG]at hi
theorem Av: ∀ (l:List Sh) (cs:List AV) (x:LTs l),pX E H l cs=some x→ ∀ i∈dp H l cs,Lh H i
 | [],cs,_,_,i,hi=>by simp[dp]at hi
 | _::_,[],_,_,i,hi=>by simp[dp]at hi
 | h::l,c::cs,x,hx,i,hi=>by
  obtain⟨x1,e1,hx⟩:=aqw.1 hx;obtain⟨x2,e2,hx⟩:=aqw.1 hx;simp only[dp,aqL]at hi;rcases hi with hi | hi
  ·exact acF h c x1 e1 i hi
  ·exact Av l cs x2 e2 i hi
end
mutual
theorem adu: ∀ (h:Sh) (c:AV) (x:LT h),dW E H h c=some x→ ∀ i∈jQ H h c,Lh H i
 | .int _,_,_,_,i,hi=>by simp[jQ]at hi
 | .bool,_,_,_,i,hi=>by simp[jQ]at hi
 | .str,_,_,_,i,hi=>by simp[jQ]at hi
 | .sl _,_,_,_,i,hi=>by simp[jQ]at hi
 | .arr _,_,_,_,i,hi=>by simp[jQ]at hi
 | .same _,_,_,_,i,hi=>by simp[jQ]at hi
 | .row _ _,_,_,_,i,hi=>by simp[jQ]at hi
 | .akl _ _,_,_,_,i,hi=>by simp[jQ]at hi
 | .abx _ _,_,_,_,i,hi=>by simp[jQ]at hi
 | .fz k,c,x,hx,i,hi=>by
  cases c<;>simp[jQ]at hi;subst hi;intro t' cs hb;simp[dW,gQ,hb]at hx
 | .agg l,c,x,hx,i,hi=>by
  cases c with
  | agg cs=>exact AT l cs x hx i (by simpa[jQ] using hi)
  | _=>simp[jQ]at hi
 | .box t l,c,x,hx,j,hi=>by
  cases c with
  | ptr id z i o=>
   cases i<;>cases o<;>simp only[jQ]at hi<;>first | (simp at hi;done) | skip
   cases ho:H id with
   | none=>simp[ho]at hi
   | some ob=>
    cases ob with
    | box e' cs=>
     simp only[ho]at hi;simp only[dW,ho]at hx;split at hx
     ·exact AT l cs x hx j hi
     ·cases hx
    | _=>simp[ho]at hi
  | _=>simp[jQ]at hi
theorem AT: ∀ (l:List Sh) (cs:List AV) (x:LTs l),pX E H l cs=some x→ ∀ i∈dV H l cs,Lh H i
 | [],cs,_,_,i,hi=>by simp[dV]at hi
 | _::_,[],_,_,i,hi=>by simp[dV]at hi
 | h::l,c::cs,x,hx,i,hi=>by
  obtain⟨x1,e1,hx⟩:=aqw.1 hx;obtain⟨x2,e2,hx⟩:=aqw.1 hx;simp only[dV,aqL]at hi;rcases hi with hi | hi
  ·exact adu h c x1 e1 i hi
  ·exact AT l cs x2 e2 i hi
end
def Da{k:K}(h:VO k=true)(x:Tof k): ∀ c∈enc k x,∃ v,c= .lit v:=by
 have key:(enc k x).all (fun c=>match c with
   | .lit _=>true
   | _=>false)=true:=by cases k<;>first | (cases h;done) | rfl
 intro c hc;have:=arp.1 key c hc;cases c<;>first | exact⟨_,rfl⟩ | cases this
def R5:Beta:=⟨fun _=>none,fun _=>False⟩
def EL{b:Nat}: ¬ MZ R5 b:=by
 rintro(⟨_,_,_,_,h,_⟩ | h)
 ·cases h
 ·exact h
def aki.anyM{t:TypeId}{fz:Bool}{k:K}{xs:List (Tof k)}{v:Value}(hk:VO k=true)(h:aki w β t fz k xs v):aki w β' t fz k xs v:=by
 rcases h with h | ⟨b,f,cap,us,fr,h1,h2,h3,h4,h5,h6,h7⟩
 ·exact .inl h
 ·refine .inr ⟨b,f,cap,us,fr,h1,h2,h3,h4,h5,h6,fun i x j c u a1 a2 a3=> ?_⟩;have h8:=h7 i x j c u a1 a2 a3;obtain⟨v,rfl⟩:=Da hk x c (aqT a2);cases h8 with
  | lit h=>exact .lit h
mutual
theorem Rel.anyM: ∀ (h:Sh) (x:LT h) (v:Value) (os:List (Value×Nat)),WK h=false→Rel P w M e h x v os→Rel P w M' e h x v os
 | .int _,_,_,_,_,h=>h
 | .bool,_,_,_,_,h=>h
 | .str,_,_,_,_,h=>h
 | .sl _,_,_,_,h,_=>by cases h
 | .fz _,_,_,_,h,_=>by cases h
 | .row t k,_,_,_,hm,h=>⟨h.1,h.2.1,fun β _=>(h.2.2 R5 (fun b hb=>absurd hb EL)).anyM (by simpa[WK] using hm)⟩
 | .akl t k,_,_,_,hm,h=>⟨h.1,h.2.1,fun β _=>(h.2.2 R5 (fun b hb=>absurd hb EL)).anyM (by simpa[WK] using hm)⟩
 | .abx t k,_,_,_,hm,h=>by
  obtain⟨h1,h2,b,us,h3,h4,h5,h6,h7⟩:=h;refine⟨h1,h2,b,us,h3,h4,h5,h6,fun β _ i x j c u a1 a2 a3=> ?_⟩;have h8:=h7 R5 (fun b hb=>absurd hb EL) i x j c u a1 a2 a3;obtain⟨v,rfl⟩:=Da (by simpa[WK] using hm) x c (aqT a2);cases h8 with
  | lit h=>exact .lit h
 | .arr k,_,_,_,hm,h=>by
  obtain⟨h1,h2⟩:=h;refine⟨h1,fun β _=> ?_⟩;obtain⟨us,k1,k2,k3⟩:=h2 R5 (fun b hb=>absurd hb EL);refine⟨us,k1,k2,fun i x j c u a1 a2 a3=> ?_⟩;have h8:=k3 i x j c u a1 a2 a3;obtain⟨v,rfl⟩:=Da (by simpa[WK] using hm) x c (aqT a2);cases h8 with
  | lit h=>exact .lit h
 | .same t,_,_,_,_,h=>h
 | .agg l,x,v,os,hm,h=>by
  obtain⟨us,h1,h2⟩:=h;exact⟨us,h1,akn.anyM l x us os (by simpa[WK] using hm) h2⟩
 | .box t l,x,v,os,hm,h=>by
  obtain⟨b,us,os',h1,h2,h3,h4⟩:=h;exact⟨b,us,os',h1,h2,akn.anyM l x us.toList os' (by simpa[WK] using hm) h3,h4⟩
theorem akn.anyM: ∀ (l:List Sh) (x:LTs l) (us:List Value) (os:List (Value×Nat)),c8 l=false→akn P w M e l x us os→akn P w M' e l x us os
 | [],_,_,_,_,h=>h
 | h::l,x,us,os,hm,hr=>by
  obtain⟨u,us',o1,o2,h1,h2,h3,h4⟩:=hr;simp only[c8,as0]at hm;exact⟨u,us',o1,o2,h1,h2,Rel.anyM h x.1 u o1 hm.1 h3,akn.anyM l x.2 us' o2 hm.2 h4⟩
end
end
end Go.VS
namespace Go.VS
open Go
def aif:List Sh→Bool
 | .box _ l2::l=>uA l2&&uA l
 | l=>uA l
def abA:List Sh→Bool
 | .box _ _::_=>true
 | _=>false
def agX(P:Program):List Sh→Bool
 | []=>true
 | h::ps=>(match h with
  | .box t l=>aif l&&(!abA l||QB P t)
  | .agg l=>uA l
  | _=>true)&&agX P ps
section
variable {B B':ake} {β β':Beta} {H:Hp} {w w':World} {M M':Nat→Prop} {stk:List (Array Value)} {s s':S} {a:Act} {P:Program} {E:Nat→AV} {e:Nat→Value} {b:Nat} {C:Cx}
mutual
theorem EI: ∀ (h:Sh) (c:AV),dB h=true→Yr h=false→ ∀ i∈je H h c,i∈gG H h c
 | .int _,_,_,_,i,hi=>by simp[je]at hi
 | .bool,_,_,_,i,hi=>by simp[je]at hi
 | .str,_,_,_,i,hi=>by simp[je]at hi
 | .sl _,_,_,_,i,hi=>by simp[je]at hi
 | .fz _,_,_,_,i,hi=>by simp[je]at hi
 | .row _ _,c,_,_,i,hi=>by cases c<;>first | exact hi | (simp[je]at hi;done)
 | .akl _ _,c,_,_,i,hi=>by cases c<;>first | exact hi | (simp[je]at hi;done)
 | .abx _ _,c,_,_,i,hi=>by
  cases c with
  | ptr id z i' o=>cases i'<;>cases o<;>first | exact hi | (simp[je]at hi;done)
  | _=>simp[je]at hi
 | .arr _,_,h,_,_,_=>by simp[dB]at h
 | .same _,_,h,_,_,_=>by simp[dB]at h
 | .agg _,_,h,_,_,_=>by simp[dB]at h
 | .box _ _,_,_,h,_,_=>by cases h
end
def vT: ∀ (l:List Sh) (cs:List AV),uA l=true→ ∀ i∈bQ H l cs,i∈dp H l cs
 | [],cs,_,i,hi=>by simp[bQ]at hi
 | _::_,[],_,i,hi=>by simp[bQ]at hi
 | h::l,c::cs,hl,i,hi=>by
  simp only[uA,jy,ats,aqt,aro]at hl;obtain⟨⟨h1,h2⟩,h3,h4⟩:=hl;simp only[bQ,aqL]at hi;rcases hi with hi | hi
  ·exact aqH _ (EI h c h1 h3 i hi)
  ·refine aqN _ (vT l cs ?_ i hi);simp only[uA,aqt];exact⟨h2,h4⟩
def tp:List AV→List Nat
 | []=>[]
 | .ptr id _ 0 0::l=>id::tp l
 | _::l=>tp l
def abP{id:Nat}: ∀ {ds:List AV},id∈tp ds→ ∃ z,AV.ptr id z 0 0∈ds
 | [],h=>by cases h
 | c::ds,h=>by
  have rest:id∈tp ds→ ∃ z,AV.ptr id z 0 0∈c::ds:=fun h=>by
   obtain⟨z,hz⟩:=abP h;exact⟨z,aqx _ hz⟩
  cases c<;>first | exact rest h | skip
  rename_i a b i o;cases i<;>cases o<;>first | exact rest h | skip
  rcases aqS.1 h with h | h
  ·subst h;exact⟨b,aqA⟩
  ·exact rest h
inductive Fb (P:Program) (w:World) (H:Hp):List Sh→List AV→List Value→List AV→List Value→Prop
 | nil:Fb P w H [] [] [] [] []
 | flat {t:TypeId} {l bs:List Sh} {id z bb:Nat} {cs ds:List AV} {vs us:List Value} (hl:uA l=true) (hb: ∃ t0 cs0,H id=some (.box t0 cs0)) (h:Fb P w H bs cs vs ds us):
   Fb P w H (.box t l::bs) (.ptr id z 0 0::cs) (.pointer (some ⟨bb,0,none⟩)::vs) (.ptr id z 0 0::ds) (.pointer (some ⟨bb,0,none⟩)::us)
 | nest {t t2 t0:TypeId} {l2 l bs:List Sh} {id z id2 z2 bb bb2:Nat} {cs1 cs ds:List AV} {vs us:List Value} (hl2:uA l2=true) (hl:uA l=true) (hid:H id=some (.box t0 (.ptr id2 z2 0 0::cs1)))
   (hb2: ∃ t0 cs0,H id2=some (.box t0 cs0)) (hn:QB P t=true) (hc: ∃ us0 fr,w.heap[bb]? =some (.cells us0 t fr)∧us0[0]? =some (.pointer (some ⟨bb2,0,none⟩))) (h:Fb P w H bs cs vs ds us):
   Fb P w H (.box t (.box t2 l2::l)::bs) (.ptr id z 0 0::cs) (.pointer (some ⟨bb,0,none⟩)::vs) (.ptr id2 z2 0 0:: .ptr id z 0 0::ds) (.pointer (some ⟨bb2,0,none⟩):: .pointer (some ⟨bb,0,none⟩)::us)
def Fb.carry{bs:List Sh}{cs ds:List AV}{vs us:List Value}{H':Hp}(h:Fb P w H bs cs vs ds us)(hpk:Pk P w w')
  (hH: ∀ id∈tp ds,∀ t cs,H id=some (.box t cs)→ ∃ cs',H' id=some (.box t cs')∧ ∀ id2 z2 cs1,cs= .ptr id2 z2 0 0::cs1→id2∈tp ds→ ∃ al0,cs'= .ptr id2 z2 0 0::al0):Fb P w' H' bs cs vs ds us:=by
 induction h with
 | nil=>exact .nil
 | @flat t l bs id z bb cs ds vs us hl hb h ih=>
  refine .flat hl ?_ (ih fun i hi t0 c0 h0=> ?_)
  ·obtain⟨t0,c0,h0⟩:=hb;obtain⟨c1,h1,_⟩:=hH id aqA t0 c0 h0;exact⟨t0,c1,h1⟩
  ·obtain⟨c1,h1,h2⟩:=hH i (aqx _ hi) t0 c0 h0;exact⟨c1,h1,fun a b c e hm=>h2 a b c e (aqx _ hm)⟩
 | @nest t t2 t0 l2 l bs id z id2 z2 bb bb2 cs1 cs ds vs us hl2 hl hid hb2 hn hc h ih=>
  obtain⟨c1,h1,h2⟩:=hH id (aqx _ aqA) t0 _ hid;obtain⟨c2,rfl⟩:=h2 id2 z2 cs1 rfl aqA;refine .nest hl2 hl h1 ?_ hn ?_ (ih fun i hi t0 c0 h0=> ?_)
  ·obtain⟨t3,c3,h3⟩:=hb2;obtain⟨c4,h4,_⟩:=hH id2 aqA t3 c3 h3;exact⟨t3,c4,h4⟩
  ·obtain⟨us0,fr,h3,h4⟩:=hc;obtain⟨us1,fr1,h5,h6⟩:=hpk bb us0 t fr _ h3 h4 hn;exact⟨us1,fr1,h5,h6⟩
  ·obtain⟨c3,h3,h4⟩:=hH i (aqx _ (aqx _ hi)) t0 c0 h0;exact⟨c3,h3,fun a b c e hm=>h4 a b c e (aqx _ (aqx _ hm))⟩
def Ti{l:List Sh}(hl:uA l=true)(H:Hp)(b:Nat)(x:LTs l){us1:List Value}{ob:List (Value×Nat)}(hr:akn P w M e l x us1 ob):
  ∃ ds1 H1,aw E H b l x=(ds1,H1,b+ob.length)∧(∀ j,¬ (b≤j∧j < b+ob.length)→H1 j=H j)∧ ∀ β:Beta,(∀ b,MZ β b→M b)→Num β b ob→RL (RC w β) ds1 us1∧ ∀ j,b≤j→j < b+ob.length→ ∃ o,H1 j=some o∧akC P w β j o:=by
 have hl':=hl;simp only[uA,aqt]at hl';obtain⟨akc,akq⟩:=Dc l hl'.1;have hlen:=ED (E:=E) (P:=P) (w:=w) (M:=M) (e:=e) l H b x us1 ob akc hr;have akV:=EB (E:=E) l H b x;have hrc:=fun(β:Beta) (hM: ∀ b,MZ β b→M b) (hn:Num β b ob)=>Ja (E:=E) (P:=P) (w:=w) (M:=M) (e:=e) hM l H b x us1 ob akc hr hn (by rw[akq];intro t ht;simp at ht);generalize aw E H b l x=r at *;obtain⟨ds1,H1,b1⟩:=r;have hlen:b1=b+ob.length:=hlen;subst hlen;exact⟨ds1,H1,rfl,akV,fun β hM hn=>⟨(hrc β hM hn).1,(hrc β hM hn).2.2.2⟩⟩
def acM{x y:Value×Nat}{oc ob nw us o2:List (Value×Nat)}(h:o2.Perm (nw++us)):(((oc++[x])++ob)++[y]++o2).Perm (((oc++ob)++nw)++x::y::us):=by
 have h1:(ob++y::o2).Perm (ob++nw++y::us):=by
  rw[aqP];exact atm ob ((h.cons y).trans List.perm_middle.symm)
 have h2:(oc++x::(ob++y::o2)).Perm (oc++(ob++nw++x::y::us)):=atm oc ((h1.cons x).trans List.perm_middle.symm);simpa[aqP] using h2
def L6: ∀ (bs:List Sh) (H:Hp) (b:Nat) (q:LTs bs) (cs ds:List AV) (vs us:List Value) (os:List (Value×Nat)) (L:Nat),Fb P w H bs cs vs ds us→(tp ds).Nodup→(∀ i∈tp ds,¬ (b≤i∧i < L))→akn P w M e bs q vs os→(bm E H b bs cs q).2.2≤L→
  ∃ nw:List (Value×Nat),os.Perm (nw++us.map fun v=>(v,1))∧(bm E H b bs cs q).2.2=b+nw.length∧
   ∀ β:Beta,(∀ b,MZ β b→M b)→Num β b nw→(∀ (i:Nat) (c:AV) (v:Value),ds[i]? =some c→us[i]? =some v→ ∀ id z,c= .ptr id z 0 0→β id=some (v,1))→
    (∀ j,(bm E H b bs cs q).2.1 j=H j∨ ∃ ob,(bm E H b bs cs q).2.1 j=some ob∧akC P w β j ob)∧
    (∀ j,b≤j→j < b+nw.length→ ∃ ob,(bm E H b bs cs q).2.1 j=some ob∧akC P w β j ob)∧
    (∀ id z,AV.ptr id z 0 0∈ds→ ∃ ob,(bm E H b bs cs q).2.1 id=some ob∧akC P w β id ob)∧
    (∀ j,¬ (b≤j∧j < b+nw.length)→(∀ z,AV.ptr j z 0 0 ∉ ds)→(bm E H b bs cs q).2.1 j=H j)
 | [],H,b,q,cs,ds,vs,us,os,L,hF,_,_,hr,_=>by
  cases hF;obtain⟨_,rfl⟩:=hr;exact⟨[],.nil,rfl,fun β _ _ _=>⟨fun j=> .inl rfl,fun j h1 h2=>by simp at h2;omega,fun id z h=>by simp at h,fun j _ _=>rfl⟩⟩
 | h::bs,H,b,q,cs0,ds0,vs0,us0,os,L,hF,hnd,akV,hr,hL=>by
  cases hF with
  | @flat t l _ id z bb cs ds vs us hl hb hF=>
   obtain⟨u,us',o1,o2,e1,rfl,h1,h2⟩:=hr;cases e1;obtain⟨bb',uc,os',e2,h3,h4,rfl⟩:=h1;cases e2;obtain⟨t0,c0,hid⟩:=hb;obtain⟨da,H1,hmk,ho1,hrc⟩:=Ti (E:=E) hl H b q.1 h4;have alH:id ∉ tp ds∧(tp ds).Nodup:=by simpa[tp] using hnd
   have un:bm E H b (.box t l::bs) (.ptr id z 0 0::cs) q=(match bm E (upd H1 id (some (.box t da))) (b+os'.length) bs cs q.2 with | (es,H'',b'')=>(AV.ptr id z 0 0::es,H'',b'')):=by
    have u1:bm E H b (.box t l::bs) (.ptr id z 0 0::cs) q=(match lC E H b (.box t l) (.ptr id z 0 0) q.1 with | (d,H,b)=>match bm E H b bs cs q.2 with | (ds,H,b)=>(d::ds,H,b)):=rfl;have u2:lC E H b (.box t l) (.ptr id z 0 0) q.1=(match H id with
     | some (.box _ cs)=>(match bm E H b l cs q.1 with | (ds,H,b)=>(AV.ptr id z 0 0,upd H id (some (.box t ds)),b))
     | _=>(.un,H,b)):=rfl
    rw[u1,u2,hid];simp only;rw[AS l H b c0 q.1 hl,hmk]
   rw[un]at hL ⊢;have hle:=u7 E bs (upd H1 id (some (.box t da))) (b+os'.length) cs q.2;have hL':(bm E (upd H1 id (some (.box t da))) (b+os'.length) bs cs q.2).2.2≤L:=by
    generalize bm E (upd H1 id (some (.box t da))) (b+os'.length) bs cs q.2=r at *;exact hL
   have akq: ∀ i∈tp ds,upd H1 id (some (.box t da)) i=H i:=fun i hi=>by
    rw[aI _ _ (fun e=>alH.1 (by rw[← e];exact hi)),ho1 i (fun hh=>akV i (aqx _ hi) ⟨hh.1,by omega⟩)]
   obtain⟨nw,n1,n4,n5⟩:=L6 bs (upd H1 id (some (.box t da))) (b+os'.length) q.2 cs ds vs us o2 L (hF.carry (Pk.refl _ _) fun i hi t c h0=>⟨c,by rw[akq i hi];exact h0,fun _ _ c1 e _=>⟨c1,e⟩⟩) alH.2
    (fun i hi hh=>akV i (aqx _ hi) ⟨by omega,hh.2⟩) h2 hL'
   generalize hg:bm E (upd H1 id (some (.box t da))) (b+os'.length) bs cs q.2=r at *;obtain⟨es,H'',b''⟩:=r;simp only at n4 n5 hle hL hL' ⊢;refine⟨os'++nw, ?_, ?_, ?_⟩
   ·rw[aqP,aqP,arx];refine atm os' ?_;exact((n1.cons (asW (some ⟨bb,0,none⟩),1)).trans List.perm_middle.symm)
   ·rw[n4];simp[arw]
   ·intro β hM hn hbx;obtain⟨r1,r3⟩:=hrc β hM hn.left;have apv:β id=some (.pointer (some ⟨bb,0,none⟩),1):=hbx 0 _ _ rfl rfl id z rfl;have aoN:akC P w β id (.box t da):=⟨bb,uc,apv,h3,r1⟩;obtain⟨m1,m2,m3,m4⟩:=n5 β hM hn.right (fun i c v k1 k2=>hbx (i+1) c v (by simpa using k1) (by simpa using k2));have step: ∀ j,H'' j=H1 j∨ ∃ ob,H'' j=some ob∧akC P w β j ob:=fun j=>by
     rcases m1 j with h | h
     ·by_cases e4:j=id
      ·subst e4;rw[ax]at h;exact .inr ⟨_,h,aoN⟩
      ·rw[aI _ _ e4]at h;exact .inl h
     ·exact .inr h
    refine⟨fun j=> ?_,fun j k1 k2=> ?_,fun id2 z2 hm=> ?_,fun j k1 k2=> ?_⟩
    ·rcases step j with h | h
     ·by_cases hj:b≤j∧j < b+os'.length
      ·obtain⟨ob,q1,q2⟩:=r3 j hj.1 hj.2;exact .inr ⟨ob,by rw[h];exact q1,q2⟩
      ·exact .inl (h.trans (ho1 j hj))
     ·exact .inr h
    ·by_cases hj:j < b+os'.length
     ·rcases step j with h | h
      ·obtain⟨ob,q1,q2⟩:=r3 j k1 hj;exact⟨ob,by rw[h];exact q1,q2⟩
      ·exact h
     ·exact m2 j (by omega) (by simp at k2;omega)
    ·rcases aqS.1 hm with h | h
     ·cases h;rcases m1 id with h | h
      ·rw[ax]at h;exact⟨_,h,aoN⟩
      ·exact h
     ·exact m3 id2 z2 h
    ·have hne:j≠id:=fun e4=>k2 z (by rw[e4];exact aqA);rw[m4 j (fun hh=>k1 ⟨by omega,by simp;omega⟩) (fun z' hz'=>k2 z' (aqx _ hz')),aI _ _ hne];exact ho1 j (fun hh=>k1 ⟨hh.1,by simp;omega⟩)
  | @nest t t2 t0 l2 l _ id z id2 z2 bb bb2 cs1 cs ds vs us hl2 hl hid hb2 hn hc hF=>
   obtain⟨u,us',o1,o2,e1,rfl,h1,h2⟩:=hr;cases e1;obtain⟨bb',uc,os',e2,h3,h4,rfl⟩:=h1;cases e2;obtain⟨u2,us1,oa,ob,huc,rfl,h5,h6⟩:=h4;obtain⟨aqd,uc2,oc,e3,h7,h8,rfl⟩:=h5;have e4:u2= .pointer (some ⟨bb2,0,none⟩):=by
    obtain⟨us0,fr,k1,k2⟩:=hc;rw[h3]at k1;cases k1;have:uc.toList[0]? =some u2:=by rw[huc];rfl
    rw[atk,k2]at this;exact(asb this).symm
   rw[e4]at e3;cases e3;subst e4;obtain⟨t3,c3,al6⟩:=hb2;have alH:(id2≠id∧id2 ∉ tp ds)∧id ∉ tp ds∧(tp ds).Nodup:=by simpa[tp,not_or] using hnd
   obtain⟨da,H1,hmk,ho1,apC⟩:=Ti (E:=E) hl2 H b q.1.1 h8;obtain⟨dc,H3,apJ,ho2,apB⟩:=Ti (E:=E) hl (upd H1 id2 (some (.box t2 da))) (b+oc.length) q.1.2 h6;have un:bm E H b (.box t (.box t2 l2::l)::bs) (.ptr id z 0 0::cs) q=
     (match bm E (upd H3 id (some (.box t (.ptr id2 z2 0 0::dc)))) (b+oc.length+ob.length) bs cs q.2 with | (es,H'',b'')=>(AV.ptr id z 0 0::es,H'',b'')):=by
    have u1:bm E H b (.box t (.box t2 l2::l)::bs) (.ptr id z 0 0::cs) q=(match lC E H b (.box t (.box t2 l2::l)) (.ptr id z 0 0) q.1 with | (d,H,b)=>match bm E H b bs cs q.2 with | (ds,H,b)=>(d::ds,H,b)):=rfl;have u2:lC E H b (.box t (.box t2 l2::l)) (.ptr id z 0 0) q.1=(match H id with
     | some (.box _ cs)=>(match bm E H b (.box t2 l2::l) cs q.1 with | (ds,H,b)=>(AV.ptr id z 0 0,upd H id (some (.box t ds)),b))
     | _=>(.un,H,b)):=rfl
    have u3:bm E H b (.box t2 l2::l) (.ptr id2 z2 0 0::cs1) q.1=(match lC E H b (.box t2 l2) (.ptr id2 z2 0 0) q.1.1 with | (d,H,b)=>match bm E H b l cs1 q.1.2 with | (ds,H,b)=>(d::ds,H,b)):=rfl;have u4:lC E H b (.box t2 l2) (.ptr id2 z2 0 0) q.1.1=(match H id2 with
     | some (.box _ cs)=>(match bm E H b l2 cs q.1.1 with | (ds,H,b)=>(AV.ptr id2 z2 0 0,upd H id2 (some (.box t2 ds)),b))
     | _=>(.un,H,b)):=rfl
    rw[u1,u2,hid];simp only;rw[u3,u4,al6];simp only;rw[AS l2 H b c3 q.1.1 hl2,hmk];simp only;rw[AS l _ _ cs1 q.1.2 hl,apJ]
   rw[un]at hL ⊢;have hle:=u7 E bs (upd H3 id (some (.box t (.ptr id2 z2 0 0::dc)))) (b+oc.length+ob.length) cs q.2;have hL':(bm E (upd H3 id (some (.box t (.ptr id2 z2 0 0::dc)))) (b+oc.length+ob.length) bs cs q.2).2.2≤L:=by
    generalize bm E (upd H3 id (some (.box t (.ptr id2 z2 0 0::dc)))) (b+oc.length+ob.length) bs cs q.2=r at *;exact hL
   have hi2: ¬ (b≤id2∧id2 < L):=akV id2 aqA;have hi1: ¬ (b≤id∧id < L):=akV id (aqx _ aqA);have hold: ∀ j,¬ (b≤j∧j < b+oc.length+ob.length)→j≠id→j≠id2→upd H3 id (some (.box t (.ptr id2 z2 0 0::dc))) j=H j:=fun j hj e1 e2=>by
    rw[aI _ _ e1,ho2 j (fun hh=>hj ⟨by omega,hh.2⟩),aI _ _ e2,ho1 j (fun hh=>hj ⟨hh.1,by omega⟩)]
   have akq: ∀ i∈tp ds,upd H3 id (some (.box t (.ptr id2 z2 0 0::dc))) i=H i:=fun i hi=>by
    have:=akV i (aqx _ (aqx _ hi));exact hold i (fun hh=>this ⟨hh.1,by omega⟩) (fun e=>alH.2.1 (by rw[← e];exact hi)) (fun e=>alH.1.2 (by rw[← e];exact hi))
   obtain⟨nw,n1,n4,n5⟩:=L6 bs (upd H3 id (some (.box t (.ptr id2 z2 0 0::dc)))) (b+oc.length+ob.length) q.2 cs ds vs us o2 L (hF.carry (Pk.refl _ _) fun i hi t c h0=>⟨c,by rw[akq i hi];exact h0,fun _ _ c1 e _=>⟨c1,e⟩⟩) alH.2.2
    (fun i hi hh=>akV i (aqx _ (aqx _ hi)) ⟨by omega,hh.2⟩) h2 hL'
   generalize hg:bm E (upd H3 id (some (.box t (.ptr id2 z2 0 0::dc)))) (b+oc.length+ob.length) bs cs q.2=r at *;obtain⟨es,H'',b''⟩:=r;simp only at n4 n5 hle hL hL' ⊢;refine⟨oc++ob++nw, ?_, ?_, ?_⟩
   ·exact acM n1
   ·rw[n4];simp[arw]
   ·intro β hM hn hbx;have aoi:Num β b oc:=hn.left.left;have aoh:Num β (b+oc.length) ob:=hn.left.right;have aog:Num β (b+oc.length+ob.length) nw:=by
     have:=hn.right;rwa[aqD,← arw]at this
    obtain⟨r1,r3⟩:=apC β hM aoi;obtain⟨s1,s3⟩:=apB β hM aoh;have hβ2:β id2=some (.pointer (some ⟨bb2,0,none⟩),1):=hbx 0 _ _ rfl rfl id2 z2 rfl;have hβ1:β id=some (.pointer (some ⟨bb,0,none⟩),1):=hbx 1 _ _ rfl rfl id z rfl;have ob2:akC P w β id2 (.box t2 da):=⟨bb2,uc2,hβ2,h7,r1⟩;have ob1:akC P w β id (.box t (.ptr id2 z2 0 0::dc)):=by
     refine⟨bb,uc,hβ1,h3, ?_⟩;rw[huc];refine RL.cons ?_ s1;have:=RC.ptr (w:=w) (β:=β) (id:=id2) (sz:=z2) (i:=0) (o:=0) hβ2 (b:=bb2) (f:=0) rfl (by omega);simpa using this
    obtain⟨m1,m2,m3,m4⟩:=n5 β hM aog (fun i c v k1 k2=>hbx (i+2) c v (by simpa using k1) (by simpa using k2));have h4: ∀ j,(upd H3 id (some (.box t (.ptr id2 z2 0 0::dc))) j=H j∧ ¬ (b≤j∧j < b+oc.length+ob.length)∧j≠id∧j≠id2)∨ ∃ o,upd H3 id (some (.box t (.ptr id2 z2 0 0::dc))) j=some o∧akC P w β j o:=fun j=>by
     by_cases e1:j=id
     ·subst e1;exact .inr ⟨_,ax _ _ _,ob1⟩
     by_cases e2:j=id2
     ·subst e2;refine .inr ⟨_, ?_,ob2⟩;rw[aI _ _ e1,ho2 j (fun hh=>hi2 ⟨by omega,by omega⟩),ax]
     by_cases k1:b≤j∧j < b+oc.length+ob.length
     ·by_cases k2:j < b+oc.length
      ·obtain⟨o,q1,q2⟩:=r3 j k1.1 k2;exact .inr ⟨o,by rw[aI _ _ e1,ho2 j (by omega),aI _ _ e2];exact q1,q2⟩
      ·obtain⟨o,q1,q2⟩:=s3 j (by omega) k1.2;exact .inr ⟨o,by rw[aI _ _ e1];exact q1,q2⟩
     ·exact .inl ⟨hold j k1 e1 e2,k1,e1,e2⟩
    have step: ∀ j,(H'' j=H j∧ ¬ (b≤j∧j < b+oc.length+ob.length)∧j≠id∧j≠id2)∨ ∃ o,H'' j=some o∧akC P w β j o:=fun j=>by
     rcases m1 j with h | h
     ·rcases h4 j with⟨k1,k2⟩ | ⟨o,k1,k2⟩
      ·exact .inl ⟨h.trans k1,k2⟩
      ·exact .inr ⟨o,h.trans k1,k2⟩
     ·exact .inr h
    refine⟨fun j=> ?_,fun j k1 k2=> ?_,fun id3 z3 hm=> ?_,fun j k1 k2=> ?_⟩
    ·rcases step j with h | h
     ·exact .inl h.1
     ·exact .inr h
    ·by_cases hj:j < b+oc.length+ob.length
     ·rcases step j with h | h
      ·exact absurd ⟨k1,hj⟩ h.2.1
      ·exact h
     ·exact m2 j (by omega) (by simp at k2;omega)
    ·rcases aqS.1 hm with h | h
     ·cases h;rcases step id2 with h | h
      ·exact absurd rfl h.2.2.2
      ·exact h
     rcases aqS.1 h with h | h
     ·cases h;rcases step id with h | h
      ·exact absurd rfl h.2.2.1
      ·exact h
     ·exact m3 id3 z3 h
    ·have hne:j≠id:=fun e4=>k2 z (by rw[e4];exact aqx _ aqA);have apI:j≠id2:=fun e4=>k2 z2 (by rw[e4];exact aqA);rw[m4 j (fun hh=>k1 ⟨by omega,by simp;omega⟩) (fun z' hz'=>k2 z' (aqx _ (aqx _ hz')))];exact hold j (fun hh=>k1 ⟨hh.1,by simp;omega⟩) hne apI
def Th(hH:Hs B β H w): ∀ (ps:List Sh) (cs:List AV) (vs:List Value) (x:LTs ps),agX B.P ps=true→RL (R1 w β) cs vs→pX E H ps cs=some x→
  ∃ ds us,Fb B.P w H (aT ps) (eR ps cs) (nY ps vs) ds us∧
   RL (fun c v=> ∃ id z bb,c=AV.ptr id z 0 0∧v=asW (some ⟨bb,0,none⟩)∧(∃ t cs,H id=some (.box t cs))∧β id=some (v,1)∧id∈bQ H ps cs) ds us∧
   (tp ds).Sublist (bQ H ps cs)∧ ∀ i∈bQ H ps cs,i∈dp H ps cs∨ ∃ z,AV.ptr i z 0 0∈ds
 | [],[],vs,x,_,hr,hx=>by
  have:=hr.of_nil;subst this;exact⟨[],[],.nil,.nil,art _,fun i hi=>by simp[bQ]at hi⟩
 | [],_::_,_,_,_,_,hx=>by cases hx
 | _::_,[],_,_,_,_,hx=>by cases hx
 | h::ps,c::cs,vs,x,hp,hr,hx=>by
  obtain⟨v,vs,rfl,h1,h2⟩:=hr.aj2;obtain⟨x1,e1,hx⟩:=aqw.1 hx;obtain⟨x2,e2,hx⟩:=aqw.1 hx;simp only[agX,aqt]at hp;obtain⟨ds,us,f1,f2,f3,f4⟩:=Th hH ps cs vs x2 hp.2 h2 e2;have f2':RL (fun c' v'=> ∃ id z bb,c'=AV.ptr id z 0 0∧v'=asW (some ⟨bb,0,none⟩)∧(∃ t cs,H id=some (.box t cs))∧β id=some (v',1)∧id∈bQ H (h::ps) (c::cs)) ds us:=
   f2.mono fun c' v' ⟨id,z,bb,k1,k2,k3,k4,k5⟩=>⟨id,z,bb,k1,k2,k3,k4,aqN _ k5⟩
  have ur:aT (h::ps)=aT ps→eR (h::ps) (c::cs)=eR ps cs→nY (h::ps) (v::vs)=nY ps vs→(∀ i∈je H h c,i∈gG H h c)→
    ∃ ds us,Fb B.P w H (aT (h::ps)) (eR (h::ps) (c::cs)) (nY (h::ps) (v::vs)) ds us∧
     RL (fun c' v'=> ∃ id z bb,c'=AV.ptr id z 0 0∧v'=asW (some ⟨bb,0,none⟩)∧(∃ t cs,H id=some (.box t cs))∧β id=some (v',1)∧id∈bQ H (h::ps) (c::cs)) ds us∧
     (tp ds).Sublist (bQ H (h::ps) (c::cs))∧ ∀ i∈bQ H (h::ps) (c::cs),i∈dp H (h::ps) (c::cs)∨ ∃ z,AV.ptr i z 0 0∈ds:=fun g1 g2 g3 g4=>by
   rw[g1,g2,g3];refine⟨ds,us,f1,f2',f3.trans (as1 _ _),fun i hi=> ?_⟩;rcases aqL.1 hi with hi | hi
   ·exact .inl (aqH _ (g4 i hi))
   ·exact(f4 i hi).imp (aqN _) fun h=>h
  cases h with
  | box t l=>
   have hp1:=hp.1;simp only[aqt,aq8,aro]at hp1;cases c<;>first | (cases e1;done) | skip
   rename_i id z i o;cases i<;>cases o<;>simp only[dW]at e1<;>first | (cases e1;done) | skip
   split at e1
   case h_2=>cases e1
   rename_i t' cs' hid;split at e1
   case h_2=>cases e1
   rename_i hbt;obtain rfl:=aD hbt;have h1:=h1.amY;cases h1 with
   | @ptr _ _ _ _ hd n bb f k1 ha hi=>
    obtain⟨b',uc,j1,j2,j3⟩:=hH.akE id _ hid;rw[k1]at j1;cases j1;cases ha;have e0:(asW (some ⟨bb,0+(0 * z+0),none⟩))=asW (some ⟨bb,0,none⟩):=by simp
    by_cases amh:abA l=true
    ·
     cases l with
     | nil=>cases amh
     | cons h0 l=>
      cases h0 with
      | box t2 l2=>
       obtain⟨hl,hn⟩:=hp1;have hn:QB B.P t=true:=hn.resolve_left (by rw[amh];simp);simp only[aif,aqt]at hl;cases cs' with
       | nil=>cases e1
       | cons c2 cs1=>
        obtain⟨y1,g1,g2⟩:=aqw.1 e1;obtain⟨u2,us1,huc,q1,q2⟩:=j3.aj2;cases c2<;>first | (cases g1;done) | skip
        rename_i id2 z2 i2 o2;cases i2<;>cases o2<;>simp only[dW]at g1<;>first | (cases g1;done) | skip
        split at g1
        case h_2=>cases g1
        rename_i t2' cs2 al6;obtain⟨b2,uc2,m1,m2,m3⟩:=hH.akE id2 _ al6;cases q1 with
        | @ptr _ _ _ _ hd2 n2 bb2 f2x k1' ha' hi'=>
         rw[m1]at k1';cases k1';cases ha';have e00:(asW (some ⟨b2,0+(0 * z2+0),none⟩))=asW (some ⟨b2,0,none⟩):=by simp
         rw[e00]at huc;refine⟨.ptr id2 z2 0 0:: .ptr id z 0 0::ds,.pointer (some ⟨b2,0,none⟩):: .pointer (some ⟨bb,0,none⟩)::us, ?_, ?_, ?_,fun i hi=> ?_⟩
         ·rw[e0];exact .nest hl.1 hl.2 hid ⟨_,_,al6⟩ hn ⟨uc,_,j2,by rw[← atk,huc];rfl⟩ f1
         ·refine RL.cons ⟨id2,z2,b2,rfl,rfl,⟨_,_,al6⟩,m1, ?_⟩ (RL.cons ⟨id,z,bb,rfl,rfl,⟨_,_,hid⟩,k1, ?_⟩ f2')
          ·simp[bQ,je,hid,al6]
          ·simp[bQ,je,hid]
         ·simp only[tp,bQ,je,hid,al6];refine List.Sublist.trans ?_ (List.Sublist.append_left f3 _);have:(((bQ H l2 cs2++[id2])++bQ H l cs1)++[id])++tp ds=bQ H l2 cs2++(id2::(bQ H l cs1++(id::tp ds))):=by simp
          rw[this];exact(((as1 _ _:(id::tp ds).Sublist (bQ H l cs1++(id::tp ds)))).cons_cons id2).trans (as1 _ _)
         ·simp only[bQ,je,hid,al6,aqL,aq4]at hi;rcases hi with(((hi | hi) | hi) | hi) | hi
          ·refine .inl (aqH _ ?_);simp only[gG,hid,dp,al6];exact aqH _ (vT l2 cs2 hl.1 i hi)
          ·subst hi;exact .inr ⟨z2,aqA⟩
          ·refine .inl (aqH _ ?_);simp only[gG,hid,dp,al6];exact aqN _ (vT l cs1 hl.2 i hi)
          ·subst hi;exact .inr ⟨z,aqx _ aqA⟩
          ·rcases f4 i hi with h | ⟨z',h⟩
           ·exact .inl (aqN _ h)
           ·exact .inr ⟨z',aqx _ (aqx _ h)⟩
      | _=>cases amh
    ·
     have hl:uA l=true:=by
      have:=hp1.1;cases l with
      | nil=>rfl
      | cons h0 l=>cases h0<;>first | exact this | exact absurd rfl amh
     refine⟨.ptr id z 0 0::ds,.pointer (some ⟨bb,0,none⟩)::us, ?_, ?_, ?_,fun i hi=> ?_⟩
     ·rw[e0];exact .flat hl ⟨_,_,hid⟩ f1
     ·refine RL.cons ⟨id,z,bb,rfl,rfl,⟨_,_,hid⟩,k1, ?_⟩ f2';simp[bQ,je,hid]
     ·simp only[tp,bQ,je,hid];rw[aqP];exact((f3.cons_cons id)).trans (as1 _ _)
     ·simp only[bQ,je,hid,aqL,aq4]at hi;rcases hi with(hi | hi) | hi
      ·refine .inl (aqH _ ?_);simp only[gG,hid];exact vT l cs' hl i hi
      ·subst hi;exact .inr ⟨z,aqA⟩
      ·rcases f4 i hi with h | ⟨z',h⟩
       ·exact .inl (aqN _ h)
       ·exact .inr ⟨z',aqx _ h⟩
  | agg l=>
   refine ur rfl rfl rfl fun i hi=> ?_;cases c with
   | agg cs'=>
    simp only[gG];exact vT l cs' hp.1 i (by simpa[je] using hi)
   | _=>simp[je]at hi
  | arr=>exact ur rfl rfl rfl fun i hi=>by simp[je]at hi
  | same=>exact ur rfl rfl rfl fun i hi=>by simp[je]at hi
  | int=>exact ur rfl rfl rfl fun i hi=>by simp[je]at hi
  | bool=>exact ur rfl rfl rfl fun i hi=>by simp[je]at hi
  | str=>exact ur rfl rfl rfl fun i hi=>by simp[je]at hi
  | sl=>exact ur rfl rfl rfl fun i hi=>by simp[je]at hi
  | fz=>exact ur rfl rfl rfl fun i hi=>by simp[je]at hi
  | row t k=>exact ur rfl rfl rfl (EI _ c rfl rfl)
  | akl t k=>exact ur rfl rfl rfl (EI _ c rfl rfl)
  | abx t k=>exact ur rfl rfl rfl (EI _ c rfl rfl)
def Yo{t:TypeId}{j:Nat}: ∀ (ids:List Nat) (s:S) {cs:List AV},j ∉ ids→s.H j=some (.box t cs)→ ∃ cs',(ids.foldl S.kill s).H j=some (.box t cs')∧ ∀ id2 z2 cs1,cs= .ptr id2 z2 0 0::cs1→id2 ∉ ids→ ∃ al0,cs'= .ptr id2 z2 0 0::al0
 | [],s,cs,_,h=>⟨cs,h,fun _ _ c e _=>⟨c,e⟩⟩
 | i::ids,s,cs,hj,h=>by
  have hne:j≠i:=fun e=>hj (e▸aqA);obtain⟨c',h1,h2⟩:=Yo (t:=t) (j:=j) ids (s.kill i) (cs:=cs.map (kl1 i)) (fun hm=>hj (aqx _ hm)) (by
   show upd (fun j=>gT (kl1 i) (s.H j)) i none j=_;rw[aI _ _ hne,h];rfl)
  refine⟨c',h1,fun id2 z2 cs1 e hn=> ?_⟩;subst e;have hn2:id2≠i:=fun e=>hn (e▸aqA);have e1:aqK id2 i=false:=by rw[← ar7,asH];exact hn2
  exact h2 id2 z2 (cs1.map (kl1 i)) (by simp[kl1,e1]) (fun hm=>hn (aqx _ hm))
def RQ{t:TypeId}{j:Nat}: ∀ (ids:List Nat) (s:S) {cs:List AV},j ∉ ids→s.H j=some (.box t cs)→ ∃ cs',(ids.foldl S.freeze s).H j=some (.box t cs')∧ ∀ id2 z2 cs1,cs= .ptr id2 z2 0 0::cs1→id2 ∉ ids→ ∃ al0,cs'= .ptr id2 z2 0 0::al0
 | [],s,cs,_,h=>⟨cs,h,fun _ _ c e _=>⟨c,e⟩⟩
 | i::ids,s,cs,hj,h=>by
  have hne:j≠i:=fun e=>hj (e▸aqA);have: ∃ cs',(s.freeze i).H j=some (.box t cs')∧ ∀ id2 z2 cs1,cs= .ptr id2 z2 0 0::cs1→id2≠i→ ∃ al0,cs'= .ptr id2 z2 0 0::al0:=by
   unfold S.freeze;split
   ·rename_i k xs _;refine⟨cs.map (fz1 i k xs), ?_,fun id2 z2 cs1 e hn=> ?_⟩
    ·show upd (fun j=>gT (fz1 i k xs) (s.H j)) i none j=_;rw[aI _ _ hne,h];rfl
    ·subst e;have e1:aqK id2 i=false:=by rw[← ar7,asH];exact hn
     exact⟨cs1.map (fz1 i k xs),by simp[fz1,e1]⟩
   ·refine⟨cs.map (kl1 i), ?_,fun id2 z2 cs1 e hn=> ?_⟩
    ·show upd (fun j=>gT (kl1 i) (s.H j)) i none j=_;rw[aI _ _ hne,h];rfl
    ·subst e;have e1:aqK id2 i=false:=by rw[← ar7,asH];exact hn
     exact⟨cs1.map (kl1 i),by simp[kl1,e1]⟩
  obtain⟨c',h',hd'⟩:=this;obtain⟨c2,h2,h3⟩:=RQ (t:=t) (j:=j) ids (s.freeze i) (fun hm=>hj (aqx _ hm)) h';refine⟨c2,h2,fun id2 z2 cs1 e hn=> ?_⟩;obtain⟨al0,e'⟩:=hd' id2 z2 cs1 e (fun e=>hn (e▸aqA));exact h3 id2 z2 al0 e' (fun hm=>hn (aqx _ hm))
def ahx{t:TypeId}{j:Nat}(q:Bool)(ids:List Nat)(s:S){cs:List AV}(hj: ¬ (q=true∧j∈ids))(h:s.H j=some (.box t cs)):
  ∃ cs',(Cm q ids s).H j=some (.box t cs')∧ ∀ id2 z2 cs1,cs= .ptr id2 z2 0 0::cs1→ ¬ (q=true∧id2∈ids)→ ∃ al0,cs'= .ptr id2 z2 0 0::al0:=by
 cases q with
 | false=>exact⟨cs,h,fun _ _ c e _=>⟨c,e⟩⟩
 | true=>
  obtain⟨c',h1,h2⟩:=RQ ids s (fun hm=>hj ⟨rfl,hm⟩) h;exact⟨c',h1,fun id2 z2 cs1 e hn=>h2 id2 z2 cs1 e fun hm=>hn ⟨rfl,hm⟩⟩
def aem{cs:List AV}{vs:List Value}(h:RL (R1 w β) cs vs):R2 w β (Ih cs) (Wj vs):=by
 match cs,vs,h with
 | [],vs,h=>
  have:=h.of_nil;subst this;exact⟨[],rfl,.nil⟩
 | [c],vs,h=>
  obtain⟨v,vs',rfl,h1,h2⟩:=h.aj2;have:=h2.of_nil;subst this;exact .ale h1
 | c::c'::cs,vs,h=>
  obtain⟨v,vs',rfl,h1,h2⟩:=h.aj2;obtain⟨v',apd,rfl,h3,h4⟩:=h2.aj2;exact⟨v::v'::apd,rfl,h⟩
def X3: ∀ (ps:List Sh) (k:Nat) (t:Nat),t∈dL k ps→k≤t∧ ∃ e l,ps[t - k]? =some (.box e l)
 | [],_,_,h=>by cases h
 | p::ps,k,t,h=>by
  have tail:t∈dL (k+1) ps→k≤t∧ ∃ e l,(p::ps)[t - k]? =some (.box e l):=fun h=>by
   obtain⟨h1,e,l,h2⟩:=X3 ps (k+1) t h;refine⟨by omega,e,l, ?_⟩;have:t - k=(t - (k+1))+1:=by omega
   rw[this];simpa using h2
  unfold dL at h;split at h
  ·rename_i hb;rcases aqS.1 h with rfl | h
   ·refine⟨aqG _, ?_⟩;cases p<;>first | (cases hb;done) | skip
    rename_i t0 l0;exact⟨t0,l0,by simp⟩
   ·exact tail h
  ·exact tail h
def XX{H:Hp}: ∀ {ps:List Sh} {cs:List AV} {x:LTs ps},pX E H ps cs=some x→ ∀ {i:Nat} {h:Sh},ps[i]? =some h→ ∃ c y,cs[i]? =some c∧dW E H h c=some y
 | [],cs,x,_,i,h,hi=>by simp at hi
 | _::_,[],_,h,_,_,_=>by cases h
 | p::ps,c::cs,x,hx,i,h,hi=>by
  obtain⟨x1,e1,hx⟩:=aqw.1 hx;obtain⟨x2,e2,hx⟩:=aqw.1 hx;cases i with
  | zero=>simp at hi;subst hi;exact⟨c,x1,rfl,e1⟩
  | succ i=>
   obtain⟨c',y,h1,h2⟩:=XX e2 (by simpa using hi);exact⟨c',y,by simpa using h1,h2⟩
end
end Go.VS
namespace Go.VS
open Go
def okQ(P:Program)(m:akx):Bool:=agX P m.ps&&Cq m.rs&&(pS m.rs).all fun t=>(dL 0 m.ps).any fun p=>aqK p t
section
variable {B B':ake} {β β':Beta} {H:Hp} {w w':World} {M M':Nat→Prop} {stk:List (Array Value)} {s s':S} {a:Act} {P:Program} {E:Nat→AV} {e:Nat→Value} {b:Nat} {C:Cx}
def Vm{o:Oper}{f:FuncId}{args:List Operand}{ts:Array TypeId}{K:Act→World→Prop}{Q:Exit→Act→World→Prop}(hE:Ba P f)(ho:o.op= .call { callee:= .value (.func f),args:=args.toArray,argTypes:=ts })
  {R:Ending→World→Prop}(hc:Calls P f (args.map a.eval).toArray w R)(hR: ∀ en w',R en w'→ ∃ v,en= .returned v∧K (a.put o.dst v) w'):o.wp P a w K Q:=by
 unfold Oper.wp;have h1:execOp a.eval o=callFunc f (args.map a.eval).toArray:=by
  have ef:a.eval (.func f)= .func (.func f) #[] #[]:=rfl;unfold execOp;simp[ho,resolve,Deferred.ofValue,invoke,ef]
 rw[h1,hE];refine atB hc fun en w' h=> ?_;obtain⟨v,rfl,hk⟩:=hR en w' h;exact hk
def QZ: ∀ (ids:List Nat) (s:S),(ids.foldl S.kill s).gs=s.gs∧(ids.foldl S.kill s).n=s.n∧(ids.foldl S.kill s).pins=s.pins
 | [],_=>⟨rfl,rfl,rfl⟩
 | i::ids,s=>QZ ids (s.kill i)
def adv(q:Bool)(ids:List Nat)(s:S):(Cm q ids s).gs=s.gs∧(Cm q ids s).n=s.n∧(Cm q ids s).pins=s.pins:=by
 cases q with
 | false=>exact⟨rfl,rfl,rfl⟩
 | true=>
  obtain⟨h1,h2,h3,_⟩:=uP ids s;exact⟨h1,h2,h3⟩
def ac0{h:Sh}{x:LT h}{v:Value}{os:List (Value×Nat)}(ht:aiw h=true)(hr:Rel P w M e h x v os):(ch E H b h x).2.2=b+os.length:=by
 by_cases hh:qY h=true
 ·exact Yc h H b x v os hh hr
 ·cases h<;>first | (exact absurd ht hh;done) | skip
  case agg l=>
   obtain⟨us,rfl,h1⟩:=hr;have un:ch E H b (.agg l) x=(match aw E H b l x with | (cs,H,b)=>(AV.agg cs,H,b)):=rfl;have:=ED (E:=E) l H b x us os ht h1;rw[un];generalize aw E H b l x=r at *;exact this
  case arr k=>
   obtain⟨rfl,h1⟩:=hr;rfl
def QR: ∀ {l:List Sh} {H:Hp} {b:Nat} {x:LTs l} {us:List Value} {os:List (Value×Nat)},Cq l=true→akn P w M e l x us os→(aw E H b l x).2.2=b+os.length
 | [],H,b,x,us,os,_,hr=>by obtain⟨_,rfl⟩:=hr;rfl
 | h::l,H,b,x,us,os,hl,hr=>by
  obtain⟨u,us',o1,o2,rfl,rfl,h1,h2⟩:=hr;simp only[Cq,aqt]at hl;have un:aw E H b (h::l) x=(match ch E H b h x.1 with | (c,H,b)=>match aw E H b l x.2 with | (cs,H,b)=>(c::cs,H,b)):=rfl;have k:=ac0 (E:=E) (H:=H) (b:=b) hl.1 h1;rw[un];generalize ch E H b h x.1=r at *;obtain⟨c,H',b'⟩:=r;have k:b'=b+o1.length:=k;subst k;have k2:=QR (H:=H') (b:=b+o1.length) hl.2 h2;simp only;generalize aw E H' (b+o1.length) l x.2=r at *;obtain⟨cs,H'',b''⟩:=r;have k2:b''=_:=k2;simp[k2,arw]
def ads{O:Nat→Prop}(hg:Zr B.P B.w0 B.O)(hs:Hs B β H w)(hO: ∀ b,O b→MB β b):Zr B.P w O:=by
 obtain⟨w0,h1,h2⟩:=hg;refine⟨w0,h1,fun b hb=> ?_⟩;obtain⟨h3,h4,h5⟩:=h2 b hb;exact⟨fun h=>(hs.old b (hO b h)).1.elim h3 (by omega),arU h4 hs.size,(hs.block b h4 h3).trans h5⟩
def ahV{m:akx}{f:FuncId}(hS:tu B.P f m)(hk:okQ B.P m=true){d:Option Nat}{as:List Operand}{o:Oper}{ts:Array TypeId}{K:Act→World→Prop}{Q:Exit→Act→World→Prop}
  (hst:St B β stk s a w)(hfr: ∀ j,b≤j→j < b+16→s.H j=none)(hd:s.has d=true)(he:ww m s b d (as.map s.ev) some=some s')(hod:o.dst=d)(ho:o.op= .call { callee:= .value (.func f),args:=as.toArray,argTypes:=ts })
  (hK:Em B stk a d s' K):o.wp B.P a w K Q:=by
 simp only[okQ,aqt,arp,asu]at hk;obtain⟨⟨hps,hrs⟩,hsm⟩:=hk;unfold ww at he;simp only at he;split at he
 case h_2=>cases he
 rename_i x hx hnd;obtain⟨r,hr,he⟩:=aqw.1 he;simp only[aqt]at hnd;have amO:=AB hnd.1;generalize hcs:as.map s.ev=cs at *;generalize akA:as.map a.eval=args;have hlen:args.length=cs.length:=by rw[← hcs,← akA];simp
 have hrx: ∀ (i:Nat) (c:AV) (v:Value),cs[i]? =some c→args[i]? =some v→RX w β (dq a) c v:=fun i c v h1 h2=>by
  rw[← hcs,ari]at h1;rw[← akA,ari]at h2;obtain⟨y,hy,rfl⟩:=aqY.1 h1;rw[hy]at h2;cases h2;exact hst.eval y
 have hpl:=sX hx;have rl:RL (R1 w β) cs args:=⟨hlen,fun j c u h1 h2=>(hrx j c u h1 h2).al8 (hpl c (aqT h1)).1 (hpl c (aqT h1)).2⟩;generalize hE:(fun(i:Nat)=>(cs[i]?).getD AV.un)=E at *;have ao7: ∀ {t:Nat} {c:AV},cs[t]? =some c→E t=c:=fun h=>by rw[← hE];simp[h]
 generalize hI:bQ s.H m.ps cs=ids at *;generalize hro:dp s.H m.ps cs=ro at *;generalize hfz:dV s.H m.ps cs=fz at *;have ang:ro.Sublist ids:=by rw[← hro,← hI];exact Es _ _
 have anK: ∀ i∈ro,Lh s.H i:=by rw[← hro];exact Av _ _ _ hx
 have anN: ∀ i∈fz,Lh s.H i:=by rw[← hfz];exact AT _ _ _ hx
 obtain⟨bc,bv,hFb,hba,anu,alV⟩:=Th (E:=E) hst.hs m.ps cs args x hps rl hx;rw[hI]at hba anu alV;rw[hro]at alV
 let Zc:Nat→Prop:=fun bl=>MZ β bl∧bl ∉ bC (ids.filterMap β)∧bl ∉ bC (fz.filterMap β)
 have R:amr B β s.H w (fun bl=>bl∈bC (ids.filterMap β)∨Zc bl) E (ar args):={
  hs:=hst.hs
  hM:=fun bl h=>h.elim (fun h=> .inl (KU h)) (fun h=>h.1)
  hE:=fun t id z hEt=>by
   cases hc:cs[t]? with
   | none=>rw[← hE]at hEt;simp[hc]at hEt
   | some c=>
    have hlt:t < args.length:=by rw[hlen];exact(aqF.1 hc).1
    rw[ao7 hc];exact rl.2 t c _ hc (by simp[ar,hlt]) }
 have apO:Wc β (fun bl=>bl∈bC (ids.filterMap β)∨Zc bl) fz:=fun i hi p a' hp ha hm=>by
  rcases hm with hm | hm
  ·exact RO hst.hs hnd.2 i hi p a' hp ha (.inl hm)
  ·exact hm.2.2 (arH.2 ⟨p,arH.2 ⟨i,hi,hp⟩,by simp[uE,ha]⟩)
 obtain⟨os,alG,ak1⟩:=Ay R m.ps cs args x rl hx (by rw[hfz];exact apO);rw[hI]at ak1;have aoy:(fun bl=>bl∈bC (ids.filterMap β)∨Zc bl)=fun bl=>bl∈bC os∨Zc bl:=by rw[ak1]
 rw[aoy]at alG;have amg: ∀ bl∈bC os,MB β bl:=fun bl h=>by rw[ak1]at h;exact KU h
 have ami:=hS.2 x r hr w Zc args os alG (by rw[ak1];exact A8 hst.hs amO)
  (fun bl h=>⟨(hst.hs.old bl (amg bl h)).2,fun hz=>hz.2.1 (by rw[← ak1];exact h)⟩) (fun bl h=>by
   rcases h.1 with h1 | h1
   ·exact(hst.hs.old bl h1).2
   ·exact hst.hs.zl bl h1)
  (ads B.gl hst.hs (fun bl h=>amg bl h))
 rw[← akA]at ami;refine Vm hS.1 ho ami ?_;rw[akA];rintro en w' ⟨v,rfl,alw⟩;refine⟨v,rfl, ?_⟩;rw[hod];obtain⟨vs,os1,os2,rfl,hr1,hr2,ann,hbl⟩:=alw.ex;obtain⟨β1,h1,hβ1,hZ1⟩:=St.amn (a:=a) (w:=w) (stk:=stk) ro (amO.sublist ang) hst;obtain⟨β2,h2,hβ2,hZ2⟩:=h1.aoz (c8 m.rs||c8 (aT m.ps)) fz;have akq:=adv (c8 m.rs||c8 (aT m.ps)) fz (ro.foldl S.kill s);have alR:=QZ ro s;have apX: ∀ {id:Nat} {t:TypeId} {cs0:List AV},s.H id=some (.box t cs0)→ ∃ cs1,(Cm (c8 m.rs||c8 (aT m.ps)) fz (ro.foldl S.kill s)).H id=some (.box t cs1):=fun {id t cs0} hid=>by
  obtain⟨cs1,h⟩:=Vu ro s (fun hm=>anK id hm t cs0 hid) hid;exact afM _ fz _ (fun hm=>anN id hm.2 t cs0 hid) h
 have anm: ∀ j,s.H j=none→(Cm (c8 m.rs||c8 (aT m.ps)) fz (ro.foldl S.kill s)).H j=none:=fun j hj=>
  (RP (N:=fun _=>False) (c8 m.rs||c8 (aT m.ps)) fz (aj1.amC ro (aj1.refl _ s))).nn j (fun h=>h) hj
 generalize hq:(c8 m.rs||c8 (aT m.ps))=q at *;generalize hs2:Cm q fz (ro.foldl S.kill s)=s2 at *;have anI: ∀ j p,β2 j=some p→β j=some p∧j ∉ ro∧ ¬ (q=true∧j∈fz):=fun j p h=>by
  rw[hβ2]at h;split at h
  ·cases h
  ·rename_i hn;rw[hβ1]at h;split at h
   ·cases h
   ·rename_i hn';exact⟨h,hn',hn⟩
 have ao4: ∀ bl,β2.Z bl↔β.Z bl∨ ∃ i∈ro,∃ p a,β i=some p∧adr p.1=some a∧a.block=bl:=fun bl=>by rw[hZ2];exact hZ1 bl
 generalize hbc:eR m.ps cs=bcT at *;generalize hbv:nY m.ps args=bvT at *;have hM2: ∃ M2:Nat→Prop,akn B.P w' M2 (ar args) m.rs r.1 vs os1∧akn B.P w' M2 (ar args) (aT m.ps) r.2 bvT os2∧(q=false→ ∀ bl,M2 bl)∧(q=true→ ∀ bl,(bl∈bC (os1++os2)∨Zc bl)→M2 bl):=by
  cases q with
  | false=>
   simp only[as0]at hq;exact⟨fun _=>True,akn.anyM _ _ _ _ hq.1 hr1,akn.anyM _ _ _ _ hq.2 hr2,fun _ _=>trivial,fun h=>by cases h⟩
  | true=>exact⟨_,hr1,hr2,(by intro h;cases h),fun _ bl h=>h⟩
 obtain⟨M2,aoQ,apD,hMf,hMt⟩:=hM2;generalize hg:bm E s2.H b (aT m.ps) bcT r.2=g at *;obtain⟨ds,H1,b1⟩:=g;simp only at he;generalize hmk:aw E H1 b1 m.rs r.1=g at *;obtain⟨rc,Hf,b2⟩:=g;simp only at he;split at he
 case h_2=>cases he
 rename_i hb2;have hb2:=aq1 hb2;cases he;have amM:b1≤b2:=by have:=iN E m.rs H1 b1 r.1;rw[hmk]at this;exact this
 have hgb:(bm E s2.H b (aT m.ps) bcT r.2).2.2≤b+16:=by rw[hg];exact ara amM hb2
 have hdK: ∀ i∈tp bc,i ∉ ro∧i ∉ fz∧ ∃ t cs0,s.H i=some (.box t cs0):=fun i hi=>by
  obtain⟨z,hz⟩:=abP hi;obtain⟨j,hj⟩:=auS hz;obtain⟨v,_,id,z',bb,k1,_,⟨t,cs0,k3⟩,_,_⟩:=hba.get hj;cases k1;exact⟨fun h=>anK i h _ _ k3,fun h=>anN i h _ _ k3,t,cs0,k3⟩
 have ap0:Fb B.P w' s2.H (aT m.ps) bcT bvT bc bv:=hFb.carry alw.pk fun i hi t cs0 h0=>by
  obtain⟨k1,k2,_⟩:=hdK i hi;obtain⟨cs1,h3,h4⟩:=Yo ro s k1 h0;obtain⟨cs2,h5,h6⟩:=ahx q fz (ro.foldl S.kill s) (fun hm=>k2 hm.2) h3;rw[hs2]at h5;refine⟨cs2,h5,fun id2 z2 c1 e hm=> ?_⟩;obtain⟨c2,e2⟩:=h4 id2 z2 c1 e (hdK id2 hm).1;exact h6 id2 z2 c2 e2 (fun hm'=>(hdK id2 hm).2.1 hm'.2)
 obtain⟨nw,aof,hb1,hgi⟩:=L6 (E:=E) (P:=B.P) (w:=w') (M:=M2) (e:=ar args) (aT m.ps) s2.H b r.2 bcT bc bvT bv os2 (b+16) ap0 (amO.sublist anu)
  (fun i hi hh=>by
   obtain⟨_,_,t,cs0,k3⟩:=hdK i hi;rw[hfr i hh.1 hh.2]at k3;cases k3) apD hgb
 rw[hg]at hb1 hgi;simp only at hb1 hgi
 let os':=nw++os1
 let β3:Beta:=⟨fun j=>if b≤j∧j < b+os'.length then os'[j - b]? else β2 j,B.Z⟩
 have ak9: ∀ j p,β3 j=some p→(b≤j∧j < b+os'.length∧os'[j - b]? =some p)∨(¬ (b≤j∧j < b+os'.length)∧β2 j=some p):=fun j p h=>by
  have h:(if b≤j∧j < b+os'.length then os'[j - b]? else β2 j)=some p:=h;split at h
  ·rename_i hh;exact .inl ⟨hh.1,hh.2,h⟩
  ·rename_i hh;exact .inr ⟨hh,h⟩
 have am1:Num β3 b os':=fun i p hp=>by
  have hlt:=(aqF.1 hp).1;show(if b≤b+i∧b+i < b+os'.length then os'[b+i - b]? else β2 (b+i))=some p;rw[aqh ⟨by omega,by omega⟩,show b+i - b=i by omega];exact hp
 have alx:(bC os2).Perm (bC nw++bC (bv.map fun v=>(v,1))):=by
  have:=aof.filterMap uE;rwa[ar9]at this
 have ak8: ∀ bl,bl∈bC os'→bl∈bC (os1++os2):=fun bl h=>by
  simp only[os',bC,ar9,aqL]at h ⊢;rcases h with h | h
  ·exact .inr (alx.mem_iff.2 (aqH _ h))
  ·exact .inl h
 have anL:(bC os'++bC (bv.map fun v=>(v,1))).Nodup:=by
  have h1:(bC (os1++os2)).Perm (bC os'++bC (bv.map fun v=>(v,1))):=by
   simp only[os',bC,ar9]at alx ⊢;refine(atm _ alx).trans ?_;rw[← aqP];exact List.Perm.append_right _ List.perm_append_comm
  exact h1.nodup_iff.1 ann
 have aoj:(bC os').Nodup:=(asM.1 anL).1;have amR: ∀ i,i∈ids→i ∉ ro→ ∃ v,(v,1)∈bv.map (fun v=>(v,1))∧β i=some (v,1)∧(∃ z,AV.ptr i z 0 0∈bc):=fun i hi hn=>by
  rcases alV i hi with h | ⟨z,h⟩
  ·exact absurd h hn
  ·obtain⟨j,hj⟩:=auS h;obtain⟨v,hv,id,z',bb,k1,k2,k3,k4,k5⟩:=hba.get hj;cases k1;exact⟨v,arv.2 ⟨v,aqT hv,rfl⟩,k4,z,h⟩
 have amJ: ∀ j p a',β2 j=some p→adr p.1=some a'→a'.block∈bC os→j∈ids∧j ∉ ro:=fun j p a' hj ha hm=>by
  obtain⟨h0,h1,_⟩:=anI j p hj;rw[ak1]at hm;obtain⟨i,hi,p',a2,hp',ha',e'⟩:=q7 hm;have:=hst.hs.inj j i p p' a' a2 h0 hp' ha ha' e'.symm;subst this;exact⟨hi,h1⟩
 have amo: ∀ bl,bl∈bC os→MZ β2 bl:=fun bl hm=>by
  have hm':=hm;rw[ak1]at hm;obtain⟨i,hi,p,a',hp,ha,e'⟩:=q7 hm;by_cases hr:i∈ro
  ·exact .inr ((ao4 bl).2 (.inr ⟨i,hr,p,a',hp,ha,e'⟩))
  ·refine .inl ⟨i,p.1,p.2,a', ?_,ha,e'⟩;have hnf:i ∉ fz:=fun hf=>X7 hnd.2 i hf hi;rw[hβ2,aqg (fun h=>hnf h.2),hβ1,aqg hr];exact hp
 have amE: ∀ bl,MB β3 bl→MB β2 bl∨bl∈bC os':=fun bl hm=>by
  obtain⟨j,hd',n,a',hj,ha,e'⟩:=hm;rcases ak9 j _ hj with⟨_,_,hj⟩ | ⟨_,hj⟩
  ·exact .inr (arH.2 ⟨_,aqT hj,by simp[uE,ha,e']⟩)
  ·exact .inl ⟨j,hd',n,a',hj,ha,e'⟩
 have akc: ∀ bl o v,¬ MZ β2 bl→w.cell? ⟨bl,o,none⟩=some v→w'.cell? ⟨bl,o,none⟩=some v:=fun bl o v hn hc=>by
  have hlt:=block_lt_of_cell hc;rw[atP (w:=w) (w':=w') (alw.block bl hlt (fun hm=>hn (amo bl hm)))];exact hc
 have apZ: ∀ bl,¬ MZ β2 bl→bl < w.heap.size→ ¬ MZ β3 bl:=fun bl hn hlt hm=>by
  rcases hm with hm | hm
  ·rcases amE bl hm with h | h
   ·exact hn (.inl h)
   ·rcases(hbl bl (ak8 bl h)).1 with h3 | h3
    ·exact hn (amo bl h3)
    ·omega
  ·exact hn (.inr ((ao4 bl).2 (.inl (by rw[hst.hs.z];exact hm))))
 have anH: ∀ j p,β2 j=some p→β3 j=some p:=fun j p hj=>by
  have hne: ¬ (b≤j∧j < b+os'.length):=fun hh=>by
   have aoo:os'.length=nw.length+os1.length:=by simp[os']
   have h3:=(hgi:_);obtain⟨ob,hob⟩:=h2.hs.dom j p hj;have:=anm j (hfr j hh.1 (by
    have:b2=b1+os1.length:=by
     have:=QR hrs aoQ (E:=E) (H:=H1) (b:=b1);rw[hmk]at this;exact this
    omega))
   rw[this]at hob;cases hob
  show(if b≤j∧j < b+os'.length then os'[j - b]? else β2 j)=some p;rw[aqg hne];exact hj
 have hkp:Kp w β2 w' β3:=fun c v hc=>hc.mono anH akc apZ;have hM3: ∀ bl,MZ β3 bl→M2 bl:=fun bl hm=>by
  cases q with
  | false=>exact hMf rfl bl
  | true=>
   refine hMt rfl bl ?_;rcases hm with hm | hm
   ·rcases amE bl hm with h | h
    ·obtain⟨j,hd',n,a',hj,ha,e'⟩:=h;obtain⟨k1,k2,k3⟩:=anI j _ hj;by_cases hji:j∈ids
     ·obtain⟨v,hv1,hv2,_⟩:=amR j hji k2;rw[k1]at hv2;cases hv2;refine .inl ?_;simp only[bC,ar9,aqL];refine .inr (alx.mem_iff.2 (aqN _ (arH.2 ⟨_,hv1,by simp[uE,ha,e']⟩)))
     ·refine .inr ⟨.inl ⟨j,hd',n,a',k1,ha,e'⟩,fun hb=> ?_,fun hb=> ?_⟩
      ·rw[← ak1,← e']at hb;exact hji (amJ j _ a' hj ha hb).1
      ·obtain⟨i,hi,p,a2,hp,ha2,e2⟩:=q7 hb;have:=hst.hs.inj j i _ p a' a2 k1 hp ha ha2 (e'.trans e2.symm);subst this;exact k3 ⟨rfl,hi⟩
    ·exact .inl (ak8 bl h)
   ·have hz:β.Z bl:=by rw[hst.hs.z];exact hm
    refine .inr ⟨.inr hz,fun hb=> ?_,fun hb=> ?_⟩
    ·obtain⟨i,hi,p,a2,hp,ha2,e2⟩:=q7 hb;exact hst.hs.zn i p a2 hp ha2 (e2▸hz)
    ·obtain⟨i,hi,p,a2,hp,ha2,e2⟩:=q7 hb;exact hst.hs.zn i p a2 hp ha2 (e2▸hz)
 obtain⟨g1,g2,g3,g4⟩:=hgi β3 hM3 am1.left (fun i c v k1 k2 id z hc=>by
  obtain⟨id',z',bb,j1,j2,j3,j4,j5⟩:=hba.2 i c v k1 k2;rw[hc]at j1;cases j1;refine anH id _ ?_;have hnr:id ∉ ro:=fun h=>anK id h _ _ j3.choose_spec.choose_spec;have hnf:id ∉ fz:=fun h=>anN id h _ _ j3.choose_spec.choose_spec;rw[hβ2,aqg (fun h=>hnf h.2),hβ1,aqg hnr];exact j4)
 have an9:Tr w' β3 E (ar args) (pS m.rs):=fun t ht=>by
  obtain⟨p,hp1,hp2⟩:=hsm t ht;obtain rfl:=aD hp2;obtain⟨_,e1,l1,hp3⟩:=X3 m.ps 0 p hp1;rw[asK]at hp3;obtain⟨c,y,hc,hy⟩:=XX hx hp3;have hlt:p < args.length:=by rw[hlen];exact(aqF.1 hc).1
  have hR:=rl.2 p c (ar args p) hc (by simp[ar,hlt]);rw[ao7 hc];cases c<;>first | (cases hy;done) | skip
  rename_i id z i' o';cases i'<;>cases o'<;>simp only[dW]at hy<;>first | (cases hy;done) | skip
  split at hy
  case h_2=>cases hy
  rename_i t' cs' hid;have hnr:id ∉ ro:=fun h=>anK id h _ _ hid;have hnf:id ∉ fz:=fun h=>anN id h _ _ hid;have hR:=hR.amY;generalize ar args p=v at hR;cases hR with
  | ptr k1 k2 k3=>exact .akX (.ptr (anH id _ (by rw[hβ2,aqg (fun h=>hnf h.2),hβ1,aqg hnr];exact k1)) k2 k3)
 obtain⟨f1,f2,f3⟩:=I9 (β:=β3) (E:=E) (M:=M2) (P:=B.P) (w:=w') (e:=ar args) hM3 m.rs H1 b1 r.1 vs os1 hrs aoQ (by rw[hb1];exact am1.right) an9;rw[hmk]at f1 f2 f3;simp only at f1 f2 f3;have aoo:os'.length=nw.length+os1.length:=by simp[os']
 have aoT: ∀ j,(∃ ob,Hf j=some ob∧akC B.P w' β3 j ob)∨(Hf j=s2.H j∧ ∀ z,AV.ptr j z 0 0 ∉ bc):=fun j=>by
  by_cases hj:b1≤j∧j < b1+os1.length
  ·exact .inl (f3.2 j hj.1 hj.2)
  ·have e1:Hf j=H1 j:=f3.1 j (by omega);rcases g1 j with h | ⟨ob,h,h'⟩
   ·by_cases hm: ∃ z,AV.ptr j z 0 0∈bc
    ·obtain⟨z,hm⟩:=hm;obtain⟨ob,h3,h4⟩:=g3 j z hm;exact .inl ⟨ob,by rw[e1];exact h3,h4⟩
    ·exact .inr ⟨e1.trans h,fun z hz=>hm ⟨z,hz⟩⟩
   ·exact .inl ⟨ob,by rw[e1];exact h,h'⟩
 have hHf:Hs B β3 Hf w':={
  akE:=fun j ob hj=>by
   rcases aoT j with⟨ob',h3,h4⟩ | ⟨h3,h4⟩
   ·rw[h3]at hj;cases hj;exact h4
   ·rw[h3]at hj;have hob:=h2.hs.akE j ob hj;have hex: ∃ p,β2 j=some p:=by
     cases ob with
     | box e cs=>obtain⟨_,_,h,_⟩:=hob;exact⟨_,h⟩
     | row e fz k xs=>obtain⟨_,h,_⟩:=hob;exact⟨_,h⟩
     | arr e k xs=>obtain⟨_,_,h,_⟩:=hob;exact⟨_,h⟩
    obtain⟨p,hp⟩:=hex;refine hob.mono (by rw[anH j p hp,hp]) hkp fun p' a' hp' ha'=> ?_;rw[hp]at hp';cases hp';have hlt:=(h2.hs.old a'.block ⟨j,p.1,p.2,a',hp,ha',rfl⟩).2;refine alw.block a'.block hlt fun hm=> ?_;obtain⟨h5,h6⟩:=amJ j p a' hp ha' hm;obtain⟨_,_,_,z,hz⟩:=amR j h5 h6;exact h4 z hz
  dom:=fun j p hj=>by
   rcases aoT j with⟨ob',h3,_⟩ | ⟨h3,_⟩
   ·exact⟨ob',h3⟩
   ·rcases ak9 j p hj with⟨k1,k2,k3⟩ | ⟨_,hj⟩
    ·by_cases hjb:j < b+nw.length
     ·obtain⟨ob,k4,_⟩:=g2 j k1 hjb;have:Hf j=H1 j:=f3.1 j (by omega);exact⟨ob,by rw[this];exact k4⟩
     ·obtain⟨ob,k4,_⟩:=f3.2 j (by omega) (by omega);exact⟨ob,k4⟩
    ·obtain⟨ob,k4⟩:=h2.hs.dom j p hj;exact⟨ob,by rw[h3];exact k4⟩
  inj:=fun i j p p' a1 a2 hi hj ha1 ha2 hb=>by
   have al1: ∀ (i j:Nat) (p p':Value×Nat) (a1 a2:Addr),β2 i=some p→os'[j - b]? =some p'→adr p.1=some a1→adr p'.1=some a2→a1.block=a2.block→False:=by
    intro i j p p' a1 a2 hi hj ha1 ha2 hb;have hm2:a2.block∈bC os':=arH.2 ⟨p',aqT hj,by simp[uE,ha2]⟩;rcases(hbl a2.block (ak8 _ hm2)).1 with h3 | h3
    ·rw[← hb]at h3;obtain⟨h5,h6⟩:=amJ i p a1 hi ha1 h3;obtain⟨v,hv1,hv2,_⟩:=amR i h5 h6;rw[(anI i p hi).1]at hv2;cases hv2;have hm1:a1.block∈bC (bv.map fun v=>(v,1)):=arH.2 ⟨_,hv1,by simp[uE,ha1]⟩;exact(asM.1 anL).2.2 _ hm2 _ hm1 hb.symm
    ·have:=(h2.hs.old a1.block ⟨i,p.1,p.2,a1,hi,ha1,rfl⟩).2;omega
   rcases ak9 i p hi with⟨i1,i2,i3⟩ | ⟨_,i3⟩<;>rcases ak9 j p' hj with⟨j1,j2,j3⟩ | ⟨_,j3⟩
   ·have:=I2 aoj (i - b) (j - b) p p' a1 a2 i3 j3 ha1 ha2 hb;omega
   ·exact(al1 j i p' p a2 a1 j3 i3 ha2 ha1 hb.symm).elim
   ·exact(al1 i j p p' a1 a2 i3 j3 ha1 ha2 hb).elim
   ·exact h2.hs.inj i j p p' a1 a2 i3 j3 ha1 ha2 hb
  old:=fun bl hm=>by
   rcases amE bl hm with h | h
   ·exact⟨(h2.hs.old bl h).1,arU (h2.hs.old bl h).2 alw.size⟩
   ·have h3:=hbl bl (ak8 bl h);refine⟨?_,h3.2⟩;rcases h3.1 with h4 | h4
    ·exact(hst.hs.old bl (amg bl h4)).1
    ·exact .inr (ara hst.hs.size h4)
  os:=alw.wos.trans hst.hs.os
  tape:=alw.tape.trans hst.hs.tape
  output:=alw.output.trans hst.hs.output
  size:=ara hst.hs.size alw.size
  block:=fun bl hlt hO=>by
   rw[alw.block bl (arU hlt hst.hs.size) fun hm=> ?_]
   ·exact hst.hs.block bl hlt hO
   ·rcases(hst.hs.old bl (amg bl hm)).1 with h | h
    ·exact hO h
    ·omega
  z:=rfl
  zn:=fun j p a' hj ha hz=>by
   rcases ak9 j p hj with⟨_,_,j3⟩ | ⟨_,j3⟩
   ·have hm2:a'.block∈bC os':=arH.2 ⟨p,aqT j3,by simp[uE,ha]⟩;rcases(hbl a'.block (ak8 _ hm2)).1 with h3 | h3
    ·rw[ak1]at h3;obtain⟨i,hi,p2,a2,hp2,ha2,e2⟩:=q7 h3;exact hst.hs.zn i p2 a2 hp2 ha2 (by rw[e2,hst.hs.z];exact hz)
    ·have:=hst.hs.zl a'.block (by rw[hst.hs.z];exact hz);omega
   ·exact hst.hs.zn j p a' (anI j p j3).1 ha (by rw[hst.hs.z];exact hz)
  zl:=fun bl hz=>arU (hst.hs.zl bl (by rw[hst.hs.z];exact hz)) alw.size
  pk:=hst.hs.pk.trans alw.pk }
 have aou:St B β3 stk { s2 with H:=Hf } a w':=by
  refine⟨fun t=>RT.mono hkp (h2.T t),⟨h2.stack.1,fun i T tm k1 k2 t=>RT.mono hkp (h2.stack.2 i T tm k1 k2 t)⟩,h2.n,h2.defers,h2.pins,h2.gs,hHf⟩
 have akG:({ s2 with H:=Hf } :S).has d=true:=by
  have:({ s2 with H:=Hf } :S).has d=s.has d:=L3 (akq.1.trans alR.1) (akq.2.1.trans alR.2.1) (akq.2.2.trans alR.2.2) d;rw[this];exact hd
 exact hK β3 (Wj vs) w' (Lf aou akG (aem f1))
end
end Go.VS
namespace Go.VS
open Go
section
variable {B:ake} {β β':Beta} {H:Hp} {w w':World} {stk:List (Array Value)} {s s':S} {a:Act} {P:Program} {C:Cx}
def ME(hΓ: ∀ f d m,C.Γ f d=some m→tu P f m∧okQ P m=true)(B:ake)(hB:B.P=P):mQ C B:=by
 intro f d m hm β stk s a w b as s' o ts K Q hst hfr hd he hod ho hK;obtain⟨h1,h2⟩:=hΓ f d m hm;rw[← hB]at h1 h2;exact ahV h1 h2 hst hfr hd he hod ho hK
def X2{c:AV}(h:plB c=true):(∀ g w v,c≠ .gd g w v)∧ ∀ vs,c≠ .tup vs:=by
 constructor
 ·rintro g w v rfl;cases h
 ·rintro vs rfl;cases h
def abr(hP:C.P=B.P)(hm:B.P.follows .mixedOrders=true)(hC:mQ C B): ∀ n,B5 C B (aar C n)
 | 0=>Ya C B
 | n+1=>by
  intro Ω f d as s k q he β stk a w o args ts K Q hst hfr hd hod has ho hK;have ih:=abr hP hm hC n;unfold aar at he;simp only at he;split at he
  ·cases he
  rename_i fn hfn;split at he
  case h_2=>cases he
  rename_i body anx akN;split at he
  case h_2=>cases he
  rename_i anv;simp only[aqt]at anv;obtain⟨⟨hc1,hc2⟩,hc3⟩:=anv;have hpl: ∀ c∈as,(∀ g w v,c≠ .gd g w v)∧ ∀ vs,c≠ .tup vs:=fun c hc=>X2 (arp.1 hc3 c hc);have hlen:as.length≤fn.ntmps:=aq1 hc2;rw[hP]at hfn;refine Vm (oW hfn (by simpa using akN) anx) ho (R:=fun en w'=> ∃ v,en= .returned v∧K (a.put o.dst v) w') ?_ (fun en w' h=>h);refine calls_of_wp hfn anx ?_;have akA:(args.map a.eval).length=as.length:=by rw[has];simp
  have apy:St B β (a.tmps::stk) { s with n:=fn.ntmps,T:=fun t=>(as[t]?).getD oZ,st:=s.T::s.st,pins:=[],gs:=fun _=>false }
    { tmps:=(args.map a.eval).toArray++atw (fn.ntmps - (args.map a.eval).toArray.size) undef,defers:=[] } w:=by
   refine⟨fun t=> ?_,⟨by simp[hst.stack.1],fun i T tm h1 h2 t=> ?_⟩, ?_,rfl,fun t ht=>by simp at ht,fun t g want y hy=> ?_,hst.hs⟩
   ·rw[vb];show RT w β _ ((as[t]?).getD oZ) _;cases hv:as[t]? with
    | none=>
     have:(args.map a.eval).length≤t:=by rw[akA];exact atx.1 hv
     have e0:ar (args.map a.eval) t=undef:=by simp only[ar,aqE,arW this];rfl
     rw[e0];exact(show R2 w β oZ undef from rfl)
    | some c=>
     have hv':=hv;rw[has,ari]at hv';obtain⟨x,hx,rfl⟩:=aqY.1 hv';have e0:ar (args.map a.eval) t=a.eval x:=by simp[ar,hx]
     rw[e0];have hp:=hpl _ (aqT hv);exact((hst.eval x).al8 hp.1 hp.2).anE
   ·cases i with
    | zero=>
     simp at h1 h2;subst h1;subst h2;exact hst.T t
    | succ i=>exact hst.stack.2 i T tm (by simpa using h1) (by simpa using h2) t
   ·simp only[atF,asp,auQ];omega
   ·have hy:(as[t]?).getD oZ= .gd g want y:=hy;cases hv:as[t]? with
    | none=>rw[hv]at hy;cases hy
    | some c=>
     rw[hv]at hy;exact absurd hy ((hpl c (aqT hv)).1 _ _ _)
  have key: ∀ β' a' w' s',St B β' (a.tmps::stk) s' a' w'→Fr s'→(match s'.st,Et C.P s' fn.results.toList with
     | T::st,some vs=>match vs.all plB with
      | true=>k ({ s' with n:=s.n,T:=fun t=>aaM (T t),st:=st,pins:=s.pins,gs:=fun _=>false }.put d (Ih vs))
      | false=>none
     | _,_=>none)=some q→a'.defers=[]∧ ∃ v,(results fn a'.tmps).run B.P w'= .ok v w'∧ ∃ v',Ending.returned v= .returned v'∧K (a.put o.dst v') w':=by
   intro β' a' w' s' h1 h2 h3;refine⟨h1.defers, ?_⟩;split at h3
   case h_2=>cases h3
   rename_i T st vs ame hvs;split at h3
   case h_2=>cases h3
   rename_i alF;obtain⟨us,k1,k2,k3⟩:=IL hP h1 fn.results.toList hvs;rw[hP]at k1;refine⟨Wj us,Nb k1,Wj us,rfl, ?_⟩;rw[hod];have rl:RL (R1 w' β') vs us:=⟨k2,fun j c u e1 e2=>by
    have hp:=X2 (arp.1 alF c (aqT e1));exact(k3 j c u e1 e2).al8 hp.1 hp.2⟩
   have am0:=h1.stack;rw[ame]at am0;have hTt: ∀ t,RT w' β' (dq a) (T t) (dq a t):=fun t=>am0.2 0 T a.tmps rfl rfl t;have apx:St B β' stk { s' with n:=s.n,T:=fun t=>aaM (T t),st:=st,pins:=s.pins,gs:=fun _=>false } a w':=by
    refine⟨fun t=> ?_,⟨by simpa using am0.1,fun i T' tm e1 e2 t=>am0.2 (i+1) T' tm (by simpa using e1) (by simpa using e2) t⟩,hst.n,hst.defers,hst.pins,fun t g want y hy=> ?_,h1.hs⟩
    ·have:=hTt t;show RT w' β' _ (aaM (T t)) _;cases hT:T t<;>rw[hT]at this<;>first | exact this | trivial
    ·have hy:aaM (T t)= .gd g want y:=hy;unfold aaM at hy;split at hy
     ·cases hy
     ·rename_i hn;exact absurd hy (hn _ _ _)
   have akG:({ s' with n:=s.n,T:=fun t=>aaM (T t),st:=st,pins:=s.pins,gs:=fun _=>false } :S).has d=true:=by
    cases d with
    | none=>rfl
    | some d=>
     simp only[S.has,aqt,aro]at hd ⊢;exact⟨hd.1,trivial⟩
   refine hK β' (Wj us) w' _ (Lf apx akG (aem rl)) (fun j hj=> ?_) ?_ ?_ h3
   ·have hj:s'.nid≤j:=by cases d<;>exact hj
    have:=h2 j hj;cases d<;>exact this
   ·cases d<;>rfl
   ·cases d<;>rfl
  refine EK hP hm hC ih body .nil _ _ q he apy hfr (cE _ body) ⟨?_, ?_, ?_⟩
  ·exact fun β' a' w' s' h1 h2 _ _ h5=>key β' a' w' s' h1 h2 h5
  ·exact fun β' a' w' s' h1 h2 _ _ h5=>key β' a' w' s' h1 h2 h5
  ·intro id β' a' w' s' h1 h2 h3 h4 h5;cases h5
end
def dQ{A R:Type}(t:(A→Option R)→A→Option R):Nat→A→Option R
 | 0=>fun _=>none
 | n+1=>t (dQ t n)
open Classical in
def YG {A R:Type} (t:(A→Option R)→A→Option R) (x:A):Option R:=
 if h: ∃ n r,dQ t n x=some r then some (as3 (arV h)) else none
def VP{A R:Type}{t:(A→Option R)→A→Option R}{x:A}{r:R}(h:YG t x=some r): ∃ n,dQ t n x=some r:=by
 unfold YG at h;split at h
 ·rename_i hn;have:=arV (arV hn);cases h;exact⟨_,this⟩
 ·cases h
def acB{P:Program}{f:FuncId}{ps rs:List Sh}{t:(LTs ps→Option (LTs rs×LTs (aT ps)))→LTs ps→Option (LTs rs×LTs (aT ps))}(he:Ba P f)
  (h: ∀ g,tu P f ⟨ps,rs,g⟩→tu P f ⟨ps,rs,t g⟩):tu P f ⟨ps,rs,YG t⟩:=by
 have hn: ∀ n,tu P f ⟨ps,rs,dQ t n⟩:=by
  intro n
  induction n with
  | zero=>exact⟨he,fun x r hx=>by cases hx⟩
  | succ n ih=>exact h _ ih
 refine⟨he,fun x r hx=> ?_⟩;obtain⟨n,hx⟩:=VP hx;intro w Z args os h1 h2 h3 h4 h5;exact atB ((hn n).2 x r hx w Z args os h1 h2 h3 h4 h5) fun en w' ⟨v,e,hr⟩=>⟨v,e,⟨hr.ex,hr.wos,hr.tape,hr.output,hr.size,hr.block,hr.pk⟩⟩
end Go.VS
namespace Go.VS
open Go
def gam:List (Nat×Option Nat×akx)→Nat→Option Nat→Option akx
 | [],_,_=>none
 | (f,e,m)::l,g,d=>match aqK f g&&(match e,d with
   | none,_=>true
   | some a,some b=>aqK a b
   | some _,none=>false) with
  | true=>some m
  | false=>gam l g d
def Wb(P:Program)(l:List (Nat×Option Nat×akx)):Prop:= ∀ e∈l,tu P e.1 e.2.2∧okQ P e.2.2=true
def au{P:Program}:Wb P []:=fun e h=>by cases h
def aaz{P:Program}{l:List (Nat×Option Nat×akx)}(h:Wb P l): ∀ f d m,gam l f d=some m→tu P f m∧okQ P m=true:=by
 induction l with
 | nil=>intro f d m hm;cases hm
 | cons e l ih=>
  obtain⟨g,e,m'⟩:=e;intro f d m hm;unfold gam at hm;split at hm
  ·rename_i hc;simp only[aqt]at hc;cases hm;obtain rfl:=aD hc.1;exact h _ aqA
  ·exact ih (fun e he=>h e (aqx _ he)) f d m hm
def dm:Code→Adv→List (Code×Loop)
 | .seq a b,.join _ u v=>dm a u++dm b v
 | .seq a b,.two u v=>dm a u++dm b v
 | .seq a _,.one u=>dm a u
 | .cond _ x _,.one u=>dm x u
 | .cond _ x y,.two u v=>dm x u++dm y v
 | .cond _ x y,.join _ u v=>dm x u++dm y v
 | .block _ c,.one u=>dm c u
 | .block _ c,.two u _=>dm c u
 | .block _ c,.join _ u _=>dm c u
 | .loop c,.loop l=>[(c,l)]
 | _,_=>[]
def eS{L:Code→Loop→Prop}: ∀ (c:Code) (v:Adv),(∀ p∈dm c v,L p.1 p.2)→wI L c v
 | .seq a b,.join _ u v,h=>⟨eS a u fun p hp=>h p (aqH _ hp),eS b v fun p hp=>h p (aqN _ hp)⟩
 | .seq a b,.two u v,h=>⟨eS a u fun p hp=>h p (aqH _ hp),eS b v fun p hp=>h p (aqN _ hp)⟩
 | .seq a b,.one u,h=>⟨eS a u h,cE L b⟩
 | .seq a b,.nil,_=>⟨cE L a,cE L b⟩
 | .seq a b,.loop _,_=>⟨cE L a,cE L b⟩
 | .cond _ x y,.one u,h=>⟨eS x u h,cE L y⟩
 | .cond _ x y,.two u v,h=>⟨eS x u fun p hp=>h p (aqH _ hp),eS y v fun p hp=>h p (aqN _ hp)⟩
 | .cond _ x y,.join _ u v,h=>⟨eS x u fun p hp=>h p (aqH _ hp),eS y v fun p hp=>h p (aqN _ hp)⟩
 | .cond _ x y,.nil,_=>⟨cE L x,cE L y⟩
 | .cond _ x y,.loop _,_=>⟨cE L x,cE L y⟩
 | .block _ c,.one u,h=>eS c u h
 | .block _ c,.two u _,h=>eS c u h
 | .block _ c,.join _ u _,h=>eS c u h
 | .block _ c,.nil,_=>cE L c
 | .block _ c,.loop _,_=>cE L c
 | .loop c,.loop l,h=>h (c,l) (by simp[dm])
 | .loop _,.nil,_=>trivial
 | .loop _,.one _,_=>trivial
 | .loop _,.two _ _,_=>trivial
 | .loop _,.join _ _ _,_=>trivial
 | .skip,_,_=>trivial
 | .region _ _ _,_,_=>trivial
 | .exit _,_,_=>trivial
 | .ret,_,_=>trivial
 | .rangeFunc _ _ _ _,_,_=>trivial
 | .scope _,_,_=>trivial
 | .label _,_,_=>trivial
 | .goto _,_,_=>trivial
 | .refuse _,_,_=>trivial
def agw(L:Code→Loop→Prop)(l:List (Code×Loop)):Prop:= ∀ p∈l,L p.1 p.2
def Zo{L:Code→Loop→Prop}{c:Code}{v:Adv}{l:List (Code×Loop)}(h:dm c v=l)(hl:agw L l):wI L c v:=eS c v (by rw[h];exact hl)
def ajO{L:Code→Loop→Prop}:agw L []:=fun p h=>by cases h
def ajP{L:Code→Loop→Prop}{c:Code}{v:Loop}{l:List (Code×Loop)}(h:L c v)(hl:agw L l):agw L ((c,v)::l):=fun p hp=>by
 rcases aqS.1 hp with rfl | hp
 ·exact h
 ·exact hl p hp
end Go.VS
namespace Go.VS
open Go
abbrev Ent:=Nat×Option Nat×akx
def SQ(P:Program)(e:Ent):Prop:=tu P e.1 e.2.2∧okQ P e.2.2=true
def gC{P:Program}{e:Ent}{l:List Ent}(h:SQ P e)(hl:Wb P l):Wb P (e::l):=fun x hx=>by
 rcases aqS.1 hx with rfl | hx
 ·exact h
 ·exact hl x hx
def inR:List (Nat×Nat)→Nat→Bool
 | [],_=>false
 | (a,b)::l,n=>match asa a n&&asa n b with
  | true=>true
  | false=>inR l n
structure OKC (P:Program) (C:Cx) (inl:(Ω:Type)→Inl Ω):Prop where
 p:C.P=P
 m:P.follows .mixedOrders=true
 c: ∀ B:ake,B.P=P→mQ C B
 i: ∀ B:ake,B.P=P→B5 C B inl
def okc{P:Program}{kd:TypeId→Option K}{l:List Ent}{cz sp:Nat→Bool}(hm:P.follows .mixedOrders=true)(h:Wb P l):OKC P ⟨P,kd,gam l,cz,sp⟩ af:=
 ⟨rfl,hm,fun B hB=>ME (C:=⟨P,kd,gam l,cz,sp⟩) (aaz h) B hB,fun B _=>Ya _ B⟩
def ajJ{P:Program}{kd:TypeId→Option K}{l:List Ent}{cz sp:Nat→Bool}(n:Nat)(hm:P.follows .mixedOrders=true)(h:Wb P l):OKC P ⟨P,kd,gam l,cz,sp⟩ (aar ⟨P,kd,gam l,cz,sp⟩ n):=
 ⟨rfl,hm,fun B hB=>ME (C:=⟨P,kd,gam l,cz,sp⟩) (aaz h) B hB,fun B hB=>abr (C:=⟨P,kd,gam l,cz,sp⟩) (B:=B) hB.symm (by rw[hB];exact hm) (ME (C:=⟨P,kd,gam l,cz,sp⟩) (aaz h) B hB) n⟩
def LpK(P:Program)(n:Nat)(pins:List Nat)(ls:List (Code×Loop)):Prop:= ∀ B:ake,B.P=P→agw (El B n pins) ls
def kN{P:Program}{n:Nat}{pins:List Nat}:LpK P n pins []:=fun _ _=>ajO
def kC{P:Program}{n:Nat}{pins:List Nat}{c:Code}{l:Loop}{ls:List (Code×Loop)}(h:LpK P n pins [(c,l)])(hl:LpK P n pins ls):LpK P n pins ((c,l)::ls):=fun B hB=>ajP (h B hB (c,l) aqA) (hl B hB)
def lk{P:Program}{C:Cx}{inl:(Ω:Type)→Inl Ω}(hC:OKC P C inl){n:Nat}{pins:List Nat}{body:Code}{v:Adv}{l:Loop}{b:Lv l.sch→Option (Lv l.sch ⊕ (Lv l.alI ⊕ Lv l.alJ))}{ls:List (Code×Loop)}
  (hb: ∀ x,evL C inl n pins body v l x=b x)(hr:l.run=aR b)(h:dm body v=ls)(hl:LpK P n pins ls):LpK P n pins [(body,l)]:=fun B hB p hp=>by
 obtain rfl:=aq4.1 hp;exact ahf (hC.p.trans hB.symm) (by rw[hB];exact hC.m) (hC.c B hB) (hC.i B hB) hb hr (Zo h (hl B hB))
def fnB(P:Program)(f:Nat)(fn:Func)(m:akx):Option Func×Bool×Bool×Bool:=(P.funcs[f]?, fn.name == "runtime.NumGoroutine",okM m fn.ntmps,okQ P m)
def so{P:Program}{C:Cx}{inl:(Ω:Type)→Inl Ω}{f:Nat}{d:Option Nat}{fn:Func}{m:akx}{v:Adv}{ls:List (Code×Loop)}(hC:OKC P C inl)
  (hf:fnB P f fn m=(some fn,false,true,true))(hb:fn.body=some (yD fn))(h:dm (yD fn) v=ls)(hl:LpK P fn.ntmps (dL 0 m.ps) ls)(hg: ∀ x,ahD C inl fn v m x=m.g x):SQ P (f,d,m):=by
 simp only[fnB,arb]at hf;exact⟨aeE hC.p hC.m hC.c hC.i hf.1 hf.2.1 hb hf.2.2.1 (fun B hB=>Zo h (hl B hB)) hg,hf.2.2.2⟩
def soR{P:Program}{f:Nat}{d:Option Nat}{ps rs:List Sh}{t:(LTs ps→Option (LTs rs×LTs (aT ps)))→LTs ps→Option (LTs rs×LTs (aT ps))}(he:Ba P f)
  (hq: ∀ g,okQ P ⟨ps,rs,g⟩=true)(h: ∀ g,SQ P (f,d,⟨ps,rs,g⟩)→SQ P (f,d,⟨ps,rs,t g⟩)):SQ P (f,d,⟨ps,rs,YG t⟩):=
 ⟨acB he fun g hg=>(h g ⟨hg,hq g⟩).1,hq _⟩
def af2(a b c d:Int)(e:aqp)(a' b' c' d':Int)(e':aqp):Bool:=decide (a=a')&&(decide (b=b')&&(decide (c=c')&&(decide (d=d')&&(decide (e=e')&&true))))
def ahG(a b c d e f g h i:Int)(j:aqp)(a' b' c' d' e' f' g' h' i':Int)(j':aqp):Bool:=
 decide (a=a')&&(decide (b=b')&&(decide (c=c')&&(decide (d=d')&&(decide (e=e')&&(decide (f=f')&&(decide (g=g')&&(decide (h=h')&&(decide (i=i')&&(decide (j=j')&&true)))))))))
end Go.VS
end
