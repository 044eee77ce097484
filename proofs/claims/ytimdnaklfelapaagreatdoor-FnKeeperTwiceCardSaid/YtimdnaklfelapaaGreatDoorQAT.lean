/- Part 20. -/
import Derived.Test.YtimdnaklfelapaaGreatDoorQAS
open BitVec renaming eq_of_toNat_eq->ay2,ofInt->av5,toNat_ofInt->axB
open Bool renaming and_eq_true->auF,and_false->au7,and_self->avT,and_true->ayC,false_and->auL,false_ne_true->avb,false_or->ava,not_eq_true'->avw,not_false->auH,not_true->auG,or_eq_false_iff->axo,or_eq_true->avo,or_false->avW,or_self->awu,or_true->avG,true_and->auN,true_or->avk
open ByteArray renaming size_extract->axd,size->ay0
open Eq renaming trans->ax0
open Int renaming eq_ofNat_of_zero_le->avL,le_refl->axr,mul_le_mul_of_nonneg_right->axC,mul_nonneg->ay5,not_lt->axD,tdiv_eq_ediv_of_nonneg->avx,tdiv_nonneg->ayP,tdiv->au6,tmod_eq_emod_of_nonneg->awj,tmod_lt_of_pos->axf,tmod_nonneg->axE,tmod->avq,toNat_natCast->auV,toNat_of_nonneg->azj,toNat->auK
open List renaming all_cons->axR,all_eq_true->avn,append_assoc->au2,append_nil->avj,drop_append_of_le_length->ayq,drop_drop->aw9,drop_eq_nil_of_le->awE,drop_sublist->ax7,drop_zero->awF,drop->avp,eq_nil_of_length_eq_zero->avi,ext_getElem?->ayE,filter_append->ayA,filter_cons->awq,filter_nil->ayp,foldl_cons->avC,getD_eq_getElem?_getD->auQ,getElem?_append_left->avQ,getElem?_append_right->avl,getElem?_eq_getElem->auO,getElem?_eq_none->awa,getElem?_map->avz,getElem?_range->av3,getElem?_replicate->aw6,getElem?_set_self->ax8,getElem?_set->ax6,getElem?_take->av7,getElem_mem->avm,getElem_of_mem->avA,length_append->auP,length_cons->auZ,length_drop->avy,length_filter_le->avY,length_map->avK,length_nil->avf,length_set->avZ,length_singleton->av2,length_take->avv,map_append->avS,map_congr_left->av0,map_cons->avJ,map_id->azu,map_map->awK,map_nil->awZ,mem_append->auX,mem_cons_of_mem->auJ,mem_cons_self->auM,mem_cons->au5,mem_filter->awd,mem_iff_getElem->axq,mem_map->avH,mem_of_mem_drop->awA,mem_of_mem_take->av6,mem_or_eq_of_mem_set->awV,mem_range->avB,mem_singleton_self->avX,mem_singleton->avh,nil_append->avR,nodup_append->aw4,not_mem_nil->ayL,pairwise_iff_getElem->ayF,range_succ->awP,range->au9,replicate->au0,set_append_right->ay6,set->ave,take_append_drop->awJ,take_length->avN,take_take->ay1,take->au3
open List.Sublist renaming refl->avF
open List.cons renaming injEq->axx
open Nat renaming add_zero->awR,le_of_ble_eq_true->avg,le_refl->auS,le_trans->avr,lt_irrefl->azf,lt_or_ge->awm,lt_trichotomy->awl,min_eq_left->aye,not_lt_zero->axX,pow_le_pow_right->azc,pow_succ->ayn,sub_self->aym,sub_zero->aw1,zero_le->avM
open Option renaming bind_some->auE,getD_some->avd,isSome_some->au4,map_some->axU
open Or renaming inl->ay4,inr->ay3
open Prod.mk renaming injEq->avs
set_option linter.unusedVariables false
set_option linter.unusedSimpArgs false
set_option linter.defProp false
noncomputable section
namespace Go.VS
open Go
def yQ{n:Int}(h0:0<=n)(k:Nat)(hk:1<=k)(h:n<(10 ^ k:Nat)):(cZ n).size<=k:=by
 show(Lib.itoa n).length<=k;exact o8 h0 k hk h
def I4{r:auB}(hr:r.size<=1048576):ja (r,())=some ((cw r,()),()):=by
 have hd:=yQ (n:=(r.size:Int)) (by omega) 7 (by omega) (by omega);unfold ja;simp only[ux (n:=(r.size:Int)) (by omega) (by omega),auE];rw[aus (aut (by rw[aW];simp;omega)),aus (aut (by rw[aB,aW];simp;omega)),aus (aut (by rw[aB,aB,aW,aW];simp;omega))];rfl
def uY{r:auB}(hr:r.size<=1048576):dF (r,())=some ((cw r,()),()):=by
 have hd:=yQ (n:=(r.size:Int)) (by omega) 7 (by omega) (by omega);unfold dF;simp only[bB (n:=(r.size:Int)) (by omega) (by omega),auE];rw[aus (aut (by rw[aW];simp;omega)),aus (aut (by rw[aB,aW];simp;omega)),aus (aut (by rw[aB,aB,aW,aW];simp;omega))];rfl
def xz{r:auB}(hr:r.size<=1048576):(cw r).size<=r.size+9:=by
 have hd:=yQ (n:=(r.size:Int)) (by omega) 7 (by omega) (by omega);unfold cw;simp only[aB,aW];simp;omega
def rOk(r:auB):Bool:=inB r.size 1 60
def Dm(r:auB):xo (r,())=some ((rOk r,()),()):=rfl
def CU(r:auB):pH (r,())=some ((rOk r,()),()):=rfl
def Oc(lg:auB)(fo:Int)(r:auB):(auB×Int)×Bool:=
 if cr lg fo then(if rOk r&&decide (lg.size+(cw r).size<=2400) then((lg++cw r,fo),true) else((lg,fo),false)) else((noB,0),false)
def afq{lg st:auB}{fo:Int}(b:Bool)(hl:lg.size<=1048576)(hs:st.size<=1048585):
  (if((!b)||(decide (2400<(w64 ((lg.size:Int)+(st.size:Int)))))) then some (((lg,fo,()),false,()),()) else(if decide (lg.size+st.size<=4611686018427387904) then some (((lg++st,fo,()),true,()),()) else none))=
   some ((((if b&&decide (lg.size+st.size<=2400) then((lg++st,fo),true) else((lg,fo),false)).1.1,(if b&&decide (lg.size+st.size<=2400) then((lg++st,fo),true) else((lg,fo),false)).1.2,()),(if b&&decide (lg.size+st.size<=2400) then((lg++st,fo),true) else((lg,fo),false)).2,()),()):=by
 rw[ai (by omega) (by omega)];cases b
 ·rfl
 ·by_cases h:lg.size+st.size<=2400
  ·rw[aur (by simp;omega),aus (aut (by omega)),aus (by simp;omega)]
  ·rw[aus (by simp;omega),aur (by simp;omega)]
def En{lg r:auB}{fo:Int}(hl:lg.size<=1048576)(hr:r.size<=1048576):
  iq ((lg,fo,()),r,())=some ((((Oc lg fo r).1.1,(Oc lg fo r).1.2,()),(Oc lg fo r).2,()),()):=by
 unfold iq Oc;simp only[nt hl,auE];rcases tf (cr lg fo) with e|e
 ·simp only[e,auG,auD,auy,Dm,I4 hr,auE,au4,avd,bF];exact afq (rOk r) hl (by have:=xz hr;omega)
 ·simp only[e,auH,auD,auy]
def wj{lg r:auB}{fo:Int}(hl:lg.size<=1048576)(hr:r.size<=1048576):
  eE ((lg,fo,()),r,())=some ((((Oc lg fo r).1.1,(Oc lg fo r).1.2,()),(Oc lg fo r).2,()),()):=by
 unfold eE Oc;simp only[mT hl,auE];rcases tf (cr lg fo) with e|e
 ·simp only[e,auG,auD,auy,CU,uY hr,auE,au4,avd,bF];exact afq (rOk r) hl (by have:=xz hr;omega)
 ·simp only[e,auH,auD,auy]
def Ck(lg:auB)(fo:Int):auB×Int:=if cr lg fo then(lg,(lg.size:Int)) else(noB,0)
def MT{lg:auB}{fo:Int}(hl:lg.size<=1048576):mE ((lg,fo,()),())=some ((((Ck lg fo).1,(Ck lg fo).2,()),()),()):=by
 unfold mE Ck;simp only[nt hl,auE];rcases tf (cr lg fo) with e|e<;>simp only[e,auG,auH,auD,auy]
def mv{lg:auB}{fo:Int}(hl:lg.size<=1048576):dz ((lg,fo,()),())=some ((((Ck lg fo).1,(Ck lg fo).2,()),()),()):=by
 unfold dz Ck;simp only[mT hl,auE];rcases tf (cr lg fo) with e|e<;>simp only[e,auG,auH,auD,auy]
def mZ{lg:auB}{fo:Int}(h:cr lg fo=true):lg.size<=2400/\0<=fo/\fo<=lg.size:=by
 unfold cr at h;simp only[auF]at h;have h1:=auv h.1;have h2:=ah.1 h.2.1;omega
def wG(lg:auB)(fo keep:Int):Nat:=(fo+max 0 (min keep ((lg.size:Int) - fo))).toNat
def M8(lg:auB)(fo keep:Int):auB×Int:=
 if cr lg fo then((lg.extract 0 (wG lg fo keep)).extract 0 (fE (lg.extract 0 (wG lg fo keep))).2,((fE (lg.extract 0 (wG lg fo keep))).2:Int)) else(noB,0)
def alg{s:auB}{a b:Nat}(h:b<=a)(ha:a<=s.size):s.extract 0 b=(s.extract 0 a).extract 0 b:=by
 apply qR;rw[kB,kB,kB,aw1,aw1,awF,awF,ay1,aye h]
def Og{lg:auB}{fo keep:Int}(hl:lg.size<=1048576):nM ((lg,fo,()),keep,())=some ((((M8 lg fo keep).1,(M8 lg fo keep).2,()),()),()):=by
 unfold nM M8;simp only[mT hl,auE];rcases tf (cr lg fo) with e|e
 ·have hr:=mZ e;simp only[e,auG,auD,auy];rw[ai (n:=(lg.size:Int) - fo) (by omega) (by omega)];have hz:(lg.extract 0 (wG lg fo keep)).size=wG lg fo keep:=by rw[ee (by unfold wG;omega)];omega
  have hg:=qe (lg.extract 0 (wG lg fo keep));have fin:∀n:Int,n=(wG lg fo keep:Int)->(if(decide (0<=n)&&decide (n<=(lg.size:Int))) then(cI ((lg.extract (0) (auK n)),())).bind λ r9=>
    (if(decide (0<=r9.1.2.1)&&decide (r9.1.2.1<=(lg.size:Int))) then some (((lg.extract (0) (auK r9.1.2.1),r9.1.2),()),()) else none) else none)=
    some ((((lg.extract 0 (wG lg fo keep)).extract 0 (fE (lg.extract 0 (wG lg fo keep))).2,((fE (lg.extract 0 (wG lg fo keep))).2:Int),()),()),()):=by
   rintro n rfl;have hc:wG lg fo keep<=lg.size:=by unfold wG;omega
   rw[aus (by simp;omega),auV,jM (by omega)];simp only[auE,auV];rw[aus (by simp;omega),alg (a:=wG lg fo keep) (by omega) hc]
  rcases tf (decide ((lg.size:Int) - fo<keep)) with h3|h3<;>simp only[h3,auy,auD,aZ]
  ·have h3:=auv h3;rcases tf (decide ((0:Int)<(lg.size:Int) - fo)) with h4|h4<;>simp only[h4,auy,auD,aZ]
   ·have h4:=auv h4;rw[ai (n:=fo+((lg.size:Int) - fo)) (by omega) (by omega)];exact fin _ (by unfold wG;omega)
   ·have h4:=auw h4;exact fin _ (by unfold wG;omega)
  ·have h3:=auw h3;rcases tf (decide (0<keep)) with h4|h4<;>simp only[h4,auy,auD,aZ]
   ·have h4:=auv h4;rw[ai (n:=fo+keep) (by omega) (by omega)];exact fin _ (by unfold wG;omega)
   ·have h4:=auw h4;exact fin _ (by unfold wG;omega)
 ·simp only[e,auH,auD,auy]
def CJ(rs:List auB):Bool:=rs.all rOk
def Q4(lg:auB)(fo:Int)(rs:List auB):(auB×Int)×Bool:=
 if cr lg fo then(if CJ rs&&decide ((fF rs).size<=2400) then((fF rs,((fF rs).size:Int)),true) else((lg,fo),false)) else((noB,0),false)
def aip{r:auB}(h:rOk r=true):1<=r.size/\r.size<=60:=by
 have:=ah.1 h;omega
def acO(pre:List auB)(r:auB):B (cat (pre++[r]))=B (cat pre)++cw r:=by
 apply qR;rw[ua,L_B,L_B,jh,iS,tz,avj]
abbrev zS:auB×Int×auC:=(noB,0,())
def agP{sl:auB×Int×auC}(post:List auB):∀(pre:List auB),(pre++post).length<=1048576->(cat pre).length<=69 * pre.length->
  (dT (sl,zS,B (cat pre),pre++post,((pre++post).length:Int),(pre.length:Int),())=some (.inl (sl,false,()))/\(CJ post=false\/2400<(cat (pre++post)).length))\/
  (dT (sl,zS,B (cat pre),pre++post,((pre++post).length:Int),(pre.length:Int),())=some (.inr (sl,zS,B (cat (pre++post)),()))/\CJ post=true):=by
 induction post with
 | nil=>
  intro pre _ _;refine ay3 ⟨ao ?_,rfl⟩;unfold fJ;simp only[avj,show decide ((pre.length:Int)<(pre.length:Int))=false from auu (by omega),auD]
 | cons r post ih=>
  intro pre hl hc;have hlen:pre.length<(pre++r::post).length:=by simp
  have hw:=dx hlen hl;have hb:(decide ((pre.length:Int)<((pre++r::post).length:Int)))=true:=aut (by omega);by_cases h:rOk r=true/\(cat pre).length<=2400
  ·have hz:=aip h.1;have hs:=xz (r:=r) (by omega);have aoN:fJ (sl,zS,B (cat pre),pre++r::post,((pre++r::post).length:Int),(pre.length:Int),())=some (.inl (sl,zS,B (cat (pre++[r])),(pre++[r])++post,(((pre++[r])++post).length:Int),((pre++[r]).length:Int),())):=by
    unfold fJ;simp only[hb,auy,ak hlen,Qy,Dm,auE,h.1,auG,ava];rw[aur (by rw[aW];exact λ g=>absurd (auv g) (by omega)),I4 (r:=r) (by omega)];simp only[auE];rw[aus (aut (by rw[aW];omega)),hw,acO,@auP _ pre [r],← snoc];rfl
   have hc2:(cat (pre++[r])).length<=69 * (pre++[r]).length:=by
    rw[jh,iS,tz,avj,auP,ba,auP,av2];omega
   have e:CJ (r::post)=CJ post:=by
    unfold CJ;rw[axR,h.1,auN]
   rw[e];rcases ih (pre++[r]) (by rw[← snoc];exact hl) hc2 with⟨h1,h2⟩|⟨h1,h2⟩
   ·rw[← snoc]at h2;exact ay4 ⟨aj aoN h1,h2⟩
   ·refine ay3 ⟨?_,h2⟩;rw[snoc];rw[← snoc]at aoN ⊢;rw[snoc pre r post]at aoN ⊢;exact aj aoN h1
  ·refine ay4 ⟨ao ?_, ?_⟩
   ·unfold fJ;simp only[hb,auy,ak hlen,Qy,Dm,auE];rw[aus];rcases tf (rOk r) with e|e
    ·rw[e,auG,ava];refine aut ?_;rw[aW];have:¬(cat pre).length<=2400:=λ g=>h ⟨e,g⟩;omega
    ·rw[e];rfl
   ·rcases tf (rOk r) with e|e
    ·have:¬(cat pre).length<=2400:=λ g=>h ⟨e,g⟩;refine ay3 ?_;rw[jh,auP];omega
    ·refine ay4 ?_;unfold CJ;rw[axR,e,auL]
def afZ{sl:auB×Int×auC}(post:List auB):∀(pre:List auB),(pre++post).length<=1048576->(cat pre).length<=69 * pre.length->
  iy (pre++post,sl,zS,B (cat pre),(pre.length:Int),())=some (if CJ post then .inr (sl,zS,B (cat (pre++post)),()) else .inl (sl,false,())):=by
 induction post with
 | nil=>
  intro pre _ _;refine ao ?_;unfold fA;simp only[avj,show decide ((pre.length:Int)<(pre.length:Int))=false from auu (by omega),auD];rfl
 | cons r post ih=>
  intro pre hl hc;have hlen:pre.length<(pre++r::post).length:=by simp
  have hw:=dx hlen hl;have hb:(decide ((pre.length:Int)<((pre++r::post).length:Int)))=true:=aut (by omega);rcases tf (rOk r) with h|h
  ·have hz:=aip h;have hs:=xz (r:=r) (by omega);have aoN:fA (pre++r::post,sl,zS,B (cat pre),(pre.length:Int),())=some (.inl ((pre++[r])++post,sl,zS,B (cat (pre++[r])),((pre++[r]).length:Int),())):=by
    unfold fA;simp only[hb,auy,ak hlen,Qy,CU,auE,h,auG,auD];rw[uY (r:=r) (by omega)];simp only[auE];rw[aus (aut (by rw[aW];simp at hl;omega)),hw,acO,@auP _ pre [r],← snoc];rfl
   have hc2:(cat (pre++[r])).length<=69 * (pre++[r]).length:=by
    rw[jh,iS,tz,avj,auP,ba,auP,av2];omega
   have e:CJ (r::post)=CJ post:=by
    unfold CJ;rw[axR,h,auN]
   rw[e];have:=ih (pre++[r]) (by rw[← snoc];exact hl) hc2;rw[snoc pre r post];rw[snoc pre r post]at aoN;exact aj aoN this
  ·refine ao ?_;unfold fA;simp only[hb,auy,ak hlen,Qy,CU,auE,h,auH];rw[aur (by unfold CJ;rw[axR,h,auL];exact avb)]
def TV{lg:auB}{fo:Int}(rs:List auB)(s:(((auB×Int×auC)×Bool×auC) ⊕ ((auB×Int×auC)×(auB×Int×auC)×auB×auC)))
  (h:(s= .inl ((lg,fo,()),false,())/\(CJ rs&&decide ((fF rs).size<=2400))=false)\/(s= .inr ((lg,fo,()),zS,fF rs,())/\CJ rs=true)):
  aK (some s) (λ y28=>some (y28,())) (λ y28=>(if(decide (2400<(y28.2.2.1.size:Int))) then some ((y28.1,false,()),()) else some (((y28.2.2.1,(y28.2.2.1.size:Int),()),true,()),())))=
   some ((((if CJ rs&&decide ((fF rs).size<=2400) then((fF rs,((fF rs).size:Int)),true) else((lg,fo),false)).1.1,(if CJ rs&&decide ((fF rs).size<=2400) then((fF rs,((fF rs).size:Int)),true) else((lg,fo),false)).1.2,()),(if CJ rs&&decide ((fF rs).size<=2400) then((fF rs,((fF rs).size:Int)),true) else((lg,fo),false)).2,()),()):=by
 rcases h with⟨rfl,h⟩|⟨rfl,h⟩
 ·rw[h];rfl
 ·simp only[aK,auE];by_cases h2:(fF rs).size<=2400
  ·rw[aur (by simp;omega),h,aut h2];rfl
  ·rw[aus (aut (by omega)),h,auu h2];rfl
def Cb{lg:auB}{fo:Int}{rs:List auB}(hl:lg.size<=1048576)(hr:rs.length<=1048576):
  gB ((lg,fo,()),rs,())=some ((((Q4 lg fo rs).1.1,(Q4 lg fo rs).1.2,()),(Q4 lg fo rs).2,()),()):=by
 unfold gB Q4;simp only[nt hl,auE];rcases tf (cr lg fo) with e|e
 ·simp only[e,auG,auD,auy];rcases agP (sl:=(lg,fo,())) rs [] hr (by simp[tz]) with⟨h1,h2⟩|⟨h1,h2⟩
  ·rw[show dT ((lg,fo,()),(noB,0,()),noB,rs,(rs.length:Int),0,())=_ from h1];refine TV rs _ (ay4 ⟨rfl, ?_⟩);rcases h2 with h2|h2
   ·rw[h2];rfl
   ·rw[auu,au7];show ¬(B (cat rs)).size<=2400;rw[aW];exact Nat.not_le.2 h2
  ·rw[show dT ((lg,fo,()),(noB,0,()),noB,rs,(rs.length:Int),0,())=_ from h1];exact TV rs _ (ay3 ⟨rfl,h2⟩)
 ·simp only[e,auH,auD,auy]
def BA{lg:auB}{fo:Int}{rs:List auB}(hl:lg.size<=1048576)(hr:rs.length<=1048576):
  gu ((lg,fo,()),rs,())=some ((((Q4 lg fo rs).1.1,(Q4 lg fo rs).1.2,()),(Q4 lg fo rs).2,()),()):=by
 unfold gu Q4;simp only[mT hl,auE];rcases tf (cr lg fo) with e|e
 ·simp only[e,auG,auD,auy];have h1:=afZ (sl:=(lg,fo,())) rs [] hr (by simp[tz]);rw[show iy (rs,(lg,fo,()),(noB,0,()),noB,0,())=_ from h1];refine TV rs _ ?_;rcases tf (CJ rs) with h2|h2
  ·exact ay3 ⟨aus h2,h2⟩
  ·exact ay4 ⟨aur (by rw[h2];exact avb),by rw[h2];rfl⟩
 ·simp only[e,auH,auD,auy]
def SV{β:Type}(f:anz->β){l:List anz}{i:Nat}(h:i<l.length):(l.take (i+1)).map f=(l.take i).map f++[f (nA l i)]:=by
 rw[nH h,avS,ji (auO h)];rfl
def aeG{β:Type}(f:Mark->β){l:List Mark}{i:Nat}(h:i<l.length):(l.take (i+1)).map f=(l.take i).map f++[f (mA l i)]:=by
 rw[nH h,avS,vM (auO h)];rfl
def dR{α:Type}{l m:List α}(hl:l.length<=1048576)(hm:m.length<=1048576):an (l.length+m.length)=true:=aH (by omega)
def aex{n:anz}(h:ay n=true):(wr n).size<=4000:=by have:=Yq h;omega
def HE{n:anz}(h:ay n=true):n.tx.size<=1048576:=by
 have h2:=Yq h;by_cases hs:n.tx.size<=1048576
 ·exact hs
 ·exfalso;unfold ay at h;simp only[auF]at h;have hx:Tk n.tx=true:=by simp_all
  unfold Tk at hx;rw[auF]at hx;have:=ah.1 hx.1;omega
def nw{n:anz}(h:ay n=true):(if ay ⟨n.fr,n.nu,n.to,n.un,n.tx⟩ then wr ⟨n.fr,n.nu,n.to,n.un,n.tx⟩ else noB)=wr n:=by
 rw[show(⟨n.fr,n.nu,n.to,n.un,n.tx⟩:anz)=n from rfl,aus h]
def Iz{n:Int}(h0:0<=n)(h1:n<=999):(cZ n).size<=3:=yQ h0 3 (by omega) (by omega)
def B7{w:auB}{a b c:Int}(hw:w.size<=1048576)(ha:0<=a/\a<=999)(hb:0<=b/\b<=999)(hc:0<=c/\c<=999):gA (w,a,b,c,())=some ((cH w a b c,()),()):=by
 have h1:=Iz ha.1 ha.2;have h2:=Iz hb.1 hb.2;have h3:=Iz hc.1 hc.2;unfold gA;simp only[ux (n:=a) (by omega) (by omega),ux (n:=b) (by omega) (by omega),ux (n:=c) (by omega) (by omega),auE];rw[aus (aut (by simp[aW];omega)),aus (aut (by simp[aB,aW];omega)),aus (aut (by simp[aB,aW];omega)),aus (aut (by simp[aB,aW];omega)),aus (aut (by simp[aB,aW];omega)),aus (aut (by simp[aB,aW];omega))];rfl
def jU{i n:Nat}(h:i<n):decide ((i:Int)<(n:Int))=true:=aut (by omega)
def rZ(n:Nat):decide ((n:Int)<(n:Int))=false:=auu (by omega)
section
variable {k:anE} (hf:anK k)
include hf
def adZ(o:List auB)(ho:o.length<=100):
  jB (tK k,o,k.marks,(k.marks.length:Int),0,())=some (.inr (tK k,o++k.marks.map λ m=>cH fX m.mf m.mn m.mu,())):=by
 have ml:=hf.ml;refine ax0 (congrArg _ ?_) (cy (λ i=>(tK k,o++(k.marks.take i).map (λ m=>cH fX m.mf m.mn m.mu),k.marks,(k.marks.length:Int),(i:Int),())) k.marks.length ?_ ?_)
 ·simp
 ·intro i hi;have hm:=yg (yh hf.m hi);unfold oo;simp only[jU hi,auy,ak hi,eP,B7 (w:=fX) (by decide) (show 0<=(mA k.marks i).mf/\(mA k.marks i).mf<=999 by omega) (show 0<=(mA k.marks i).mn/\(mA k.marks i).mn<=999 by omega) (show 0<=(mA k.marks i).mu/\(mA k.marks i).mu<=999 by omega),auE];rw[aus (dR (by simp;omega) (by simp)),aeG _ hi,dx hi (by omega),au2]
 ·unfold oo;simp only[rZ,auD,avN]
def adY(o:List auB)(ho:o.length<=200):
  jA (tK k,o,k.held,(k.held.length:Int),0,())=some (.inr (tK k,o++k.held.map xj,())):=by
 have hl:=hf.hl;refine ax0 (congrArg _ ?_) (cy (λ i=>(tK k,o++(k.held.take i).map xj,k.held,(k.held.length:Int),(i:Int),())) k.held.length ?_ ?_)
 ·simp
 ·intro i hi;have hm:=dr hf.h hi;have hz:=aex hm;unfold oh;simp only[jU hi,auy,ak hi,dA,ke (HE hm),nw hm,auE];rw[aus (aut (by rw[aW];simp;omega)),aus (dR (by simp;omega) (by simp)),SV _ hi,dx hi (by omega),au2];rfl
 ·unfold oh;simp only[rZ,auD,avN]
def adX(o:List auB)(ho:o.length<=200):
  jz (o,k.inbox,(k.inbox.length:Int),0,())=some (.inr (o++k.inbox.map rU,())):=by
 have il:=hf.il;refine ax0 (congrArg _ ?_) (cy (λ i=>(o++(k.inbox.take i).map rU,k.inbox,(k.inbox.length:Int),(i:Int),())) k.inbox.length ?_ ?_)
 ·simp
 ·intro i hi;have hm:=dr hf.i hi;have hz:=aex hm;unfold og;simp only[jU hi,auy,ak hi,dA,ke (HE hm),nw hm,auE];rw[aus (aut (by rw[aW];simp;omega)),aus (dR (by simp;omega) (by simp)),SV _ hi,dx hi (by omega),au2];rfl
 ·unfold og;simp only[rZ,auD,avN]
def adq(o:List auB)(ho:o.length<=100):
  jr (tK k,o,0,())=some (.inr (tK k,o++k.marks.map λ m=>cH fX m.mf m.mn m.mu,())):=by
 have ml:=hf.ml;refine ax0 (congrArg _ ?_) (cy (λ i=>(tK k,o++(k.marks.take i).map (λ m=>cH fX m.mf m.mn m.mu),(i:Int),())) k.marks.length ?_ ?_)
 ·simp
 ·intro i hi;have hm:=yg (yh hf.m hi);have h1:=Iz (n:=(mA k.marks i).mf) (by omega) (by omega);have h2:=Iz (n:=(mA k.marks i).mn) (by omega) (by omega);have h3:=Iz (n:=(mA k.marks i).mu) (by omega) (by omega);unfold nU;simp only[jU hi,auy,ak hi,eP,bB (n:=(mA k.marks i).mf) (by omega) (by omega),bB (n:=(mA k.marks i).mn) (by omega) (by omega),bB (n:=(mA k.marks i).mu) (by omega) (by omega),auE];rw[aus (aut (by simp[aB,aW];omega)),aus (aut (by simp[aB,aW];omega)),aus (aut (by simp[aB,aW];omega)),aus (aut (by simp[aB,aW];omega)),aus (aut (by simp[aB,aW];omega))];rw[aus (dR (by simp;omega) (by simp)),aeG _ hi,dx hi (by omega),au2];rfl
 ·unfold nU;simp only[rZ,auD,avN]
def adp(o:List auB)(ho:o.length<=200):
  jq (tK k,o,0,())=some (.inr (tK k,o++k.held.map xj,())):=by
 have hl:=hf.hl;refine ax0 (congrArg _ ?_) (cy (λ i=>(tK k,o++(k.held.take i).map xj,(i:Int),())) k.held.length ?_ ?_)
 ·simp
 ·intro i hi;have hm:=dr hf.h hi;have hz:=aex hm;unfold nT;simp only[jU hi,auy,ak hi,dA,gv (HE hm),nw hm,auE];rw[aus (aut (by rw[aW];simp;omega)),aus (dR (by simp;omega) (by simp)),SV _ hi,dx hi (by omega),au2];rfl
 ·unfold nT;simp only[rZ,auD,avN]
def ado(o:List auB)(ho:o.length<=200):
  jo (tK k,o,0,())=some (.inr (o++k.inbox.map rU,())):=by
 have il:=hf.il;refine ax0 (congrArg _ ?_) (cy (λ i=>(tK k,o++(k.inbox.take i).map rU,(i:Int),())) k.inbox.length ?_ ?_)
 ·simp
 ·intro i hi;have hm:=dr hf.i hi;have hz:=aex hm;unfold nS;simp only[jU hi,auy,ak hi,dA,gv (HE hm),nw hm,auE];rw[aus (aut (by rw[aW];simp;omega)),aus (dR (by simp;omega) (by simp)),SV _ hi,dx hi (by omega),au2];rfl
 ·unfold nS;simp only[rZ,auD,avN]
def HS:anM k.held k.marks k.inbox:=by
 have hl:=hf.hl;have ml:=hf.ml;have il:=hf.il;refine⟨by omega,λ x hx=> ?_,by omega,by omega,λ x hx=> ?_⟩
 ·obtain⟨i,hi,rfl⟩:=avA hx;have:=dr hf.h hi;rw[ji (auO hi)]at this;exact HE this
 ·obtain⟨i,hi,rfl⟩:=avA hx;have:=dr hf.i hi;rw[ji (auO hi)]at this;exact HE this
def XC:(aK (jB (tK k,(if 0<k.ti then [fD k.ti] else [])++(if 1<k.nx then [rT k.nx] else []),k.marks,(k.marks.length:Int),0,()))
  (λ _=>none)
  (λ y34=>(aK (jA (y34.1,y34.2.1,y34.1.2.2.2.1,(y34.1.2.2.2.1.length:Int),0,()))
  (λ _=>none)
  (λ y72=>(aK (jz (y72.2.1,y72.1.2.2.2.2.2.1,(y72.1.2.2.2.2.2.1.length:Int),0,()))
  (λ _=>none)
  (λ arL=>(dS arL).bind λ arY=>
  some (arY.1,())))))))=some ((bp k,()),()):=by
 have hl:=hf.hl;have ml:=hf.ml;have il:=hf.il;have ho:((if 0<k.ti then [fD k.ti] else [])++(if 1<k.nx then [rT k.nx] else [])).length<=2:=by
  rw[auP];split<;>split<;>simp
 rw[adZ hf _ (by omega)];simp only[aK,auE];rw[adY hf _ (by rw[auP,avK];omega)];simp only[auE];rw[adX hf _ (by rw[auP,auP,avK,avK];omega)];simp only[auE];rw[np (by rw[auP,auP,auP,avK,avK,avK];omega)];rfl
def W1:(aK (jr (tK k,(if 0<k.ti then [fD k.ti] else [])++(if 1<k.nx then [rT k.nx] else []),0,()))
  (λ _=>none)
  (λ y46=>(aK (jq (y46.1,y46.2.1,0,()))
  (λ _=>none)
  (λ y54=>(aK (jo (y54.1,y54.2.1,0,()))
  (λ _=>none)
  (λ y62=>some (y62,())))))))=some ((bp k,()),()):=by
 have hl:=hf.hl;have ml:=hf.ml;have il:=hf.il;have ho:((if 0<k.ti then [fD k.ti] else [])++(if 1<k.nx then [rT k.nx] else [])).length<=2:=by
  rw[auP];split<;>split<;>simp
 rw[adq hf _ (by omega)];simp only[aK,auE];rw[adp hf _ (by rw[auP,avK];omega)];simp only[auE];rw[ado hf _ (by rw[auP,auP,avK,avK];omega)];rfl
end
def Ep{k:anE}(sm:anM k.held k.marks k.inbox):lE (tK k,())=some ((if aw k then bp k else [],()),()):=by
 unfold lE;rw[A1 sm];simp only[auE];rcases tf (aw k) with e|e
 ·have hf:=bN e;have t0:=hf.t0;have t1:=hf.t1;have n0:=hf.n0;have n1:=hf.n1;have e2:aw ⟨k.id,k.ti,k.nx,k.held,k.marks,k.inbox⟩=true:=e;have d1:=Iz t0 (by omega);have d2:=Iz (n:=k.nx) (by omega) (by omega);have fin:=XC hf;simp only[e,e2,auG,auD,auy,ux (n:=k.ti) (by omega) (by omega),ux (n:=k.nx) (by omega) (by omega),auE];have h5:decide ((B [116,105,109,101,32]).size+(cZ k.ti).size<=4611686018427387904)=true:=aut (by rw[aW];simp;omega);have h6:decide ((B [110,101,120,116,32]).size+(cZ k.nx).size<=4611686018427387904)=true:=aut (by rw[aW];simp;omega);have q1:∀a:auB,an ([a]:List auB).length=true:=λ _=>rfl;have q2:∀a b:auB,an (([a]:List auB).length+([b]:List auB).length)=true:=λ _ _=>rfl;have q3:∀b:auB,an (([]:List auB).length+([b]:List auB).length)=true:=λ _=>rfl;have q4:∀a b:auB,an ((([]:List auB)++[a]).length+([b]:List auB).length)=true:=λ _ _=>rfl;by_cases h1:0<k.ti<;>by_cases h2:1<k.nx<;>simp only[h1,h2,auz,auA,auy,auD,if_false]at fin ⊢ <;>simp only[aZ,h2,auz,auA,auy,auD,h5,h6,q1,q2,q3,q4,ux (n:=k.nx) (by omega) (by omega),bB (n:=k.nx) (by omega) (by omega),auE]<;>exact fin
 ·have e2:aw ⟨k.id,k.ti,k.nx,k.held,k.marks,k.inbox⟩=false:=e;simp only[e,e2,auH,auD,auy]
def D5{k:anE}(sm:anM k.held k.marks k.inbox):lu (tK k,())=some ((if aw k then bp k else [],()),()):=by
 unfold lu;rw[AE sm];simp only[auE];rcases tf (aw k) with e|e
 ·have hf:=bN e;have t0:=hf.t0;have t1:=hf.t1;have n0:=hf.n0;have n1:=hf.n1;have e2:aw ⟨k.id,k.ti,k.nx,k.held,k.marks,k.inbox⟩=true:=e;have d1:=Iz t0 (by omega);have d2:=Iz (n:=k.nx) (by omega) (by omega);have fin:=W1 hf;simp only[e,e2,auG,auD,auy,bB (n:=k.ti) (by omega) (by omega),bB (n:=k.nx) (by omega) (by omega),auE];have h5:decide ((B [116,105,109,101,32]).size+(cZ k.ti).size<=4611686018427387904)=true:=aut (by rw[aW];simp;omega);have h6:decide ((B [110,101,120,116,32]).size+(cZ k.nx).size<=4611686018427387904)=true:=aut (by rw[aW];simp;omega);have q1:∀a:auB,an ([a]:List auB).length=true:=λ _=>rfl;have q2:∀a b:auB,an (([a]:List auB).length+([b]:List auB).length)=true:=λ _ _=>rfl;have q3:∀b:auB,an (([]:List auB).length+([b]:List auB).length)=true:=λ _=>rfl;have q4:∀a b:auB,an ((([]:List auB)++[a]).length+([b]:List auB).length)=true:=λ _ _=>rfl;by_cases h1:0<k.ti<;>by_cases h2:1<k.nx<;>simp only[h1,h2,auz,auA,auy,auD,if_false]at fin ⊢ <;>simp only[aZ,h2,auz,auA,auy,auD,h5,h6,q1,q2,q3,q4,ux (n:=k.nx) (by omega) (by omega),bB (n:=k.nx) (by omega) (by omega),auE]<;>exact fin
 ·have e2:aw ⟨k.id,k.ti,k.nx,k.held,k.marks,k.inbox⟩=false:=e;simp only[e,e2,auH,auD,auy]
end Go.VS
namespace Go.VS
open Go
def ahH{l:List anA}{m:anA}(h:m∈l):∃i,i<l.length/\xA l i=m:=by
 obtain⟨i,hi,rfl⟩:=axq.1 h;exact⟨i,hi,by rw[xA,auQ,auO hi];rfl⟩
def aaC{l:List anD}{m:anD}(h:m∈l):∃i,i<l.length/\hA l i=m:=by
 obtain⟨i,hi,rfl⟩:=axq.1 h;exact⟨i,hi,by rw[hA,auQ,auO hi];rfl⟩
def ak5{h:anD}(ok:kj h=true):J8 h:=by
 unfold kj at ok;simp only[auF]at ok;have h1:=auv ok.2.2.2.2.2.1;have h2:=cG.1 ok.2.2.2.2.2.2;refine⟨by omega,λ m hm=> ?_⟩;obtain⟨i,hi,rfl⟩:=ahH hm;have:=h2 i hi;unfold Ah at this;simp only[auF]at this;have:=auv this.1.2;show(xA h.got i).da.size<=1048576;omega
def eW{k:anv}(h:ae k=true):cR k:=by
 have hf:=ck h;have hr:=mZ hf.sh;have hl:=hf.hl;refine⟨by omega,by omega,λ x hx=> ?_⟩;obtain⟨i,hi,rfl⟩:=aaC hx;have:=hf.hv i hi;unfold Dv at this;rw[auF]at this;exact ak5 this.1
def KD{l:List anD}(hl:l.length<=1048576):qv (l,())=some ((l,()),()):=HW hl
def Is{l:List anA}(hl:l.length<=1048576):oS (l,())=some ((l,()),()):=HW hl
def L4(l:List anD)(i:Nat): @rd anD (dfl .half) l (i:Int)=hA l i:=rfl
def qN{l:List anD}{i:Nat}(h:i<l.length):hA l i=l[i]:=by
 rw[hA,auQ,auO h];rfl
def dD{k:anv}(sm:cR k):bR (tKp k,())=some ((tKp k,()),()):=by
 obtain⟨id,up,lg,fo,hv⟩:=k;obtain⟨sl,hl,hs⟩:=sm;simp only at sl hl hs;unfold bR;simp only[KD hl,auE];have h:ma ((0,false,noB,0,[],()),(id,up,lg,fo,hv,()),(hv.length:Int),0,())=some (.inr ((0,false,noB,0,[],()),(id,up,lg,fo,hv,()),())):=by
  refine cy (λ i=>((0,false,noB,0,[],()),(id,up,lg,fo,hv,()),(hv.length:Int),(i:Int),())) hv.length ?_ ?_
  ·intro i hi;unfold la;have hg:(hA hv i).got.length<=1048576:=by rw[qN hi];exact(hs _ (avm hi)).1
   simp only[jU hi,auy,ak hi,L4,Is hg,auE,auV];rw[dx hi hl,show(⟨(hA hv i).fr,(hA hv i).nu,(hA hv i).to,(hA hv i).un,(hA hv i).sz,(hA hv i).got⟩:anD)=hA hv i from rfl,qN hi,List.set_getElem_self]
  ·unfold la;simp only[rZ,auD]
 rw[h];rfl
def dZ{k:anv}(sm:cR k):bu (tKp k,())=some ((tKp k,()),()):=by
 obtain⟨id,up,lg,fo,hv⟩:=k;obtain⟨sl,hl,hs⟩:=sm;simp only at sl hl hs;unfold bu;have h:pZ ((id,up,lg,fo,hv,()),(0,false,noB,0,[],()),[],0,())=some (.inr ((id,up,lg,fo,hv,()),(0,false,noB,0,[],()),hv,())):=by
  refine cy (λ i=>((id,up,lg,fo,hv,()),(0,false,noB,0,[],()),hv.take i,(i:Int),())) hv.length ?_ ?_
  ·intro i hi;unfold px;have hg:(hA hv i).got.length<=1048576:=by rw[qN hi];exact(hs _ (avm hi)).1
   have e1:an (([]:List anA).length+(hA hv i).got.length)=true:=dR (by simp) hg;have e2:∀h:anD,an ((hv.take i).length+([h]:List anD).length)=true:=λ h=>dR (by simp;omega) (by simp);simp only[jU hi,auy,ak hi,L4,avR,e1,e2];rw[dx hi hl,nH hi,← qN hi]
  ·unfold px;simp only[rZ,auD,avN]
 rw[h];rfl
structure aph (k:anv) (st:anE):Prop where
 sh:cr k.log k.fo=true
 st:cq k.id k.log=some st
def an9.apV{k:anv}{st:anE}(h:an9 k st):aph k st:=⟨(ck h.ok).sh,h.st⟩
def aph.kok{k:anv}{st:anE}(h:aph k st):aw st=true:=HM h.st
def aph.sz{k:anv}{st:anE}(h:aph k st):k.log.size<=1048576:=by have:=mZ h.sh;omega
def aph.stT{k:anv}{st:anE}(h:aph k st):Go.VS.stT k=st:=by
 unfold Go.VS.stT;rw[h.st];rfl
def L7{k:anE}(hk:aw k=true):(fF (bp k)).size<=800:=by
 have:=(vP hk).2;unfold fF;rw[aW];exact this
def LY{k:anE}(hk:aw k=true):(bp k).length<=1048576:=by
 have hf:=bN hk;have h1:=hf.hl;have h2:=hf.ml;have h3:=hf.il;unfold bp;simp only[auP,avK];have a2:(if 0<k.ti then [fD k.ti] else []).length<=1:=by split<;>simp
 have b2:(if 1<k.nx then [rT k.nx] else []).length<=1:=by split<;>simp
 omega
def Mq{k:anv}{st o:anE}{r:auB}(h:aph k st)(hr:bV st r=some o):
  cr (yj st k.log k.fo r).1 (yj st k.log k.fo r).2=true/\
  (Oc k.log k.fo r=(yj st k.log k.fo r,true)\/
   (Oc k.log k.fo r=((k.log,k.fo),false)/\Q4 k.log k.fo (bp st)=((fF (bp st),((fF (bp st)).size:Int)),true)/\
    Oc (fF (bp st)) ((fF (bp st)).size:Int) r=(yj st k.log k.fo r,true))):=by
 have hz:=ab9 h.kok hr;have hrk:rOk r=true:=ah.2 (by omega);have hrs:=vP h.kok;have hps:=L7 h.kok;have hpo:=(aab h.kok).aqj;have hst:=ue hz.2;obtain⟨rs,ts,hl⟩:=alV h.sh;obtain⟨rs',ts',hl',_⟩:=aeV (id:=k.id) (k:=st) hl (by rw[← hl.state];exact h.st) hr;refine⟨hl'.aqj, ?_⟩;unfold yj Oc;rw[aus h.sh,hrk,auN];by_cases hc:k.log.size+(cw r).size<=2400
 ·rw[aus hc,aus (aut hc)];exact .inl rfl
 ·rw[aur hc,aur (by rw[auu hc];exact avb)];refine .inr ⟨rfl, ?_, ?_⟩
  ·unfold Q4;rw[aus h.sh,aus];rw[auF];refine⟨?_,aut (by omega)⟩;unfold CJ;rw[avn];exact λ x hx=>by
    have:=hrs.1 x hx;exact ah.2 (by omega)
  ·rw[aus hpo,auN,aus (aut (by omega))]
def wrR(k:anv)(r:auB)(f:Bool):anv×Bool:=
 match bV (stT k) r with
 | none=>(k,false)
 | some _=>(if f then foM (wrM k r) else wrM k r,true)
def YU{k:anE}{r:auB}:(ic k r).2=(bV k r).isSome:=by
 unfold bV;rcases tf (ic k r).2 with e|e<;>rw[e]<;>rfl
def W7{k:anE}(hk:aw k=true){r:auB}(hr:r.size<=1048576):lO (tK k,r,())=some ((tK (ic k r).1,(ic k r).2,()),()):=IT (HS (bN hk)) hr
def XJ{k:anE}(hk:aw k=true){r:auB}(hr:r.size<=1048576):lW (tK k,r,())=some ((tK (ic k r).1,(ic k r).2,()),()):=I8 (HS (bN hk)) hr
def al5{k:anv}{st o:anE}{r:auB}(h:aph k st)(hr:bV st r=some o):Ck (yj st k.log k.fo r).1 (yj st k.log k.fo r).2=((yj st k.log k.fo r).1,((yj st k.log k.fo r).1.size:Int)):=by
 unfold Ck;rw[aus (Mq h hr).1]
def lm{k:anv}{st:anE}(h:aph k st){r:auB}(hr:r.size<=1048576)(f:Bool):cC (tKp k,r,f,())=some ((tKp (wrR k r f).1,(wrR k r f).2,()),()):=by
 have hs:=h.sz;have hk:=h.kok;have hsm:=HS (bN hk);have hrl:=LY hk;have hpz:=L7 hk;unfold cC wrR;rw[h.stT];rw[show bm (tKp k,())=some ((tK ((cq k.id k.log).getD zK),(cq k.id k.log).isSome,()),()) from J4 hs];rw[h.st];simp only[auE,avd,W7 hk hr,YU];cases hc:bV st r with
 | none=>rfl
 | some o=>
  have hL:=al5 h hc;have hwr:wrM k r=⟨k.id,k.up,(yj st k.log k.fo r).1,(yj st k.log k.fo r).2,k.anw⟩:=by unfold wrM;rw[h.stT]
  have hsz:(yj st k.log k.fo r).1.size<=1048576:=by have:=mZ (Mq h hc).1;omega
  have hF:=mv (lg:=(yj st k.log k.fo r).1) (fo:=(yj st k.log k.fo r).2) hsz;rw[hL]at hF;simp only[au4,auG,auD,wj hs hr,auE];have fin:bH (X:=Bool×(Int×Bool×auB×Int×List anD×auC)×(Int×Bool×auB×Int×List anD×auC)×(auB×Int×auC)×Bool×auC) (λ j7=>
    (if(!j7.2.2.2.2.1) then
    some ((j7.2.1,false,()),())
    else
    (if j7.1 then
    (dz (j7.2.2.2.1,())).bind λ r12=>
    some (((j7.2.1.1,j7.2.1.2.1,r12.1.1.1,r12.1.1.2.1,j7.2.1.2.2.2.2),true,()),())
    else
    some (((j7.2.1.1,j7.2.1.2.1,j7.2.2.2.1.1,j7.2.2.2.1.2.1,j7.2.1.2.2.2.2),true,()),())))) (some (.inr (f,tKp k,(0,false,noB,0,[],()),((yj st k.log k.fo r).1,(yj st k.log k.fo r).2,()),true,())))=
    some ((tKp (if f then foM (wrM k r) else wrM k r),true,()),()):=by
   rw[aZ,hwr];cases f
   ·rfl
   ·simp only[auG,auD,auy,hF,auE];rfl
  rcases(Mq h hc).2 with ha|⟨ha,hb,hd⟩
  ·rw[ha];simp only[auG,auD];exact fin
  ·rw[ha];simp only[auH,auy,D5 hsm,hk,auE];rw[show gu ((k.log,k.fo,()),bp st,())=_ from BA hs hrl,hb];simp only[auE];rw[show eE ((fF (bp st),((fF (bp st)).size:Int),()),r,())=_ from wj (by omega) hr,hd];simp only[auE];exact fin
def zW{k:anv}{st:anE}(h:aph k st){r:auB}(hr:r.size<=1048576):kH (tKp k,r,())=some ((tKp (wrR k r false).1,(wrR k r false).2,()),()):=by
 have hs:=h.sz;have hk:=h.kok;have hsm:=HS (bN hk);have hrl:=LY hk;have hpz:=L7 hk;unfold kH wrR;rw[h.stT];simp only[sn hs,h.st,auE,avd,XJ hk hr,YU];cases hc:bV st r with
 | none=>rfl
 | some o=>
  have hwr:wrM k r=⟨k.id,k.up,(yj st k.log k.fo r).1,(yj st k.log k.fo r).2,k.anw⟩:=by unfold wrM;rw[h.stT]
  simp only[au4,auG,auD,En hs hr,auE];rcases(Mq h hc).2 with ha|⟨ha,hb,hd⟩
  ·rw[ha];simp only[auG,auD,aZ,hwr]
  ·rw[ha];simp only[auH,auy,Ep hsm,hk,auE];rw[show gB ((k.log,k.fo,()),bp st,())=_ from Cb hs hrl,hb];simp only[auE,auG,auD];rw[show iq ((fF (bp st),((fF (bp st)).size:Int),()),r,())=_ from En (by omega) hr,hd];simp only[auE,aZ,auG,auD,hwr]
def AY{k:anv}(h:cr k.log k.fo=true):lU (tKp k,())=some ((tKp (foM k),()),()):=by
 have hs:k.log.size<=1048576:=by have:=mZ h;omega
 unfold lU;simp only[MT hs,auE];unfold Ck;rw[aus h];rfl
def ahL{k:anv}{st o:anE}{r:auB}(h:aph k st)(hr:bV st r=some o):cr (wrM k r).log (wrM k r).fo=true:=by
 have:=(Mq h hr).1;unfold wrM;rw[h.stT];exact this
abbrev zKp:anv:=⟨0,false,noB,0,[]⟩
abbrev zN:anz:=⟨0,0,0,0,noB⟩
abbrev tN(n:anz):Int×Int×Int×Int×auB×auC:=(n.fr,n.nu,n.to,n.un,n.tx,())
def BZ{k:anv}(h:ae k=true):k.log.size<=1048576:=(eW h).1
def kS{k:anv}(h:ae k=true):bm (tKp k,())=some ((tK (stT k),true,()),()):=by
 have:=J4 (id:=k.id) (fo:=k.fo) (up:=k.up) (hv:=k.anw) (BZ h);rw[(ck h).st]at this;exact this
def bP{k:anv}(h:ae k=true):bd (tKp k,())=some ((tK (stT k),()),()):=by
 unfold bd;rw[eK (eW h)];simp only[auE,h,auG,auD];rw[show dJ (k.id,k.log,())=_ from sn (BZ h),(ck h).st];rfl
def ZY{w:auB}{n:anz}(hw:w.size<=10)(hn:ay n=true):(w++wr n).size<=1048576:=by
 have:=Yq hn;rw[aB];omega
def fY(k:anv):anv×Bool:=if k.up then wrR k (fD ((stT k).ti+1)) true else(k,false)
def afC{st:anE}(hk:aw st=true)(h:999<=st.ti):bV st (fD (st.ti+1))=none:=by
 have hf:=bN hk;have h1:=hf.t1;cases hc:bV st (fD (st.ti+1)) with
 | none=>rfl
 | some o=>
  exfalso;obtain⟨a,b⟩:=(lQ hk).1 hc;rw[qW OA (H5 _)]at a;have c:=JS (k:=st) (t:=st.ti+1) (by have:=hf.t0;omega) (by omega) (by omega);rw[show B [116,105,109,101]=kE from rfl,c]at a;injection a with a;have:=(bN b).t1;rw[← a]at this;simp only at this;omega
def TI{t:Int}(h0:0<=t)(h1:t<=1000):(fD t).size<=100:=by
 unfold fD;have:=yQ h0 4 (by omega) (by omega);rw[aB,aW];simp;omega
def LN{k:anv}(h:ae k=true):iC (tKp k,())=some ((tKp (fY k).1,(fY k).2,()),()):=by
 have hk:=ib h;have hf:=bN hk.kok;have t0:=hf.t0;have t1:=hf.t1;have hz:=TI (t:=(stT k).ti+1) (by omega) (by omega);have hd:=yQ (n:=(stT k).ti+1) (by omega) 4 (by omega) (by omega);unfold iC fY;rw[bj (eW h)];simp only[auE,h,auG,auD,kS h,dZ (eW h)];rcases tf k.up with e|e
 ·simp only[e,auG,ava,auy];rw[ai (by omega) (by omega),bB (by omega) (by omega)];simp only[auE];by_cases hc:999<=(stT k).ti
  ·rw[aus (aut hc)];unfold wrR;rw[afC hk.kok hc]
  ·rw[aur (by rw[auu hc];exact avb),aus (aut (by rw[aW];simp;omega))];rw[show cC (tKp k,B [116,105,109,101,32]++cZ ((stT k).ti+1),true,())=_ from lm hk.apV (r:=fD ((stT k).ti+1)) (by omega) true];rfl
 ·simp only[e,auH,avk,auy,auD]
def Ka(n:anz):auB:=B [111,119,110,32]++wr n
def vG(k:anv)(tt un:Int)(tx:auB):anv×Int:=
 if k.up&&ay ⟨k.id,(stT k).nx,tt,un,tx⟩ then
  ((wrR k (Ka ⟨k.id,(stT k).nx,tt,un,tx⟩) true).1,if(wrR k (Ka ⟨k.id,(stT k).nx,tt,un,tx⟩) true).2 then(stT k).nx else 0)
 else(k,0)
def ahK{n:anz}:wr n≠noB:=by
 intro h;have h1:(wr n).size=0:=by rw[h];rfl
 unfold wr at h1;simp only[aB,aW,auZ,avf]at h1;omega
def T3:dt (B [])=none:=by
 unfold dt;split
 ·rename_i h;obtain⟨n,_,h⟩:=h;exact absurd h ahK
 ·rfl
def YK:l7 [116,97,107,101]:=by unfold l7;decide
def UA{st:anE}{w:List UInt8}(hk:aw st=true)(hw:l7 w)(h:B w=tH\/B w=kF):bV st (B (w++[32])++noB)=none:=by
 cases hc:bV st (B (w++[32])++noB) with
 | none=>rfl
 | some o=>
  exfalso;obtain⟨a,_⟩:=(lQ hk).1 hc;rw[qW (w:=w) (r:=[]) hw (by rw[ua,L_B];simp[L,noB])]at a;have h2:∀v,v=tH\/v=kF->cL st v (B [])=none:=by
   rintro v (rfl|rfl)
   ·unfold cL;rw[aur (by decide),aus (by decide),T3]
   ·unfold cL;rw[aur (by decide),aus (by decide),T3]
  rw[h2 _ h]at a;cases a
def aa6{k:anv}{r:auB}{f:Bool}(h:bV (stT k) r=none):wrR k r f=(k,false):=by
 unfold wrR;rw[h]
def Hv{k:anv}{r:auB}{f:Bool}(h:(wrR k r f).2=false):(wrR k r f).1=k:=by
 unfold wrR at h ⊢;split at h
 ·rfl
 ·cases h
def Oi{k:anv}(h:ae k=true)(tt un:Int){tx:auB}(ht:tx.size<=1048576):jN (tKp k,tt,un,tx,())=some ((tKp (vG k tt un tx).1,(vG k tt un tx).2,()),()):=by
 have hk:=ib h;unfold jN vG;rw[bj (eW h)];simp only[auE,h,auG,auD,kS h,dZ (eW h),gv ht];rcases tf k.up with e|e
 ·rcases tf (ay ⟨k.id,(stT k).nx,tt,un,tx⟩) with e2|e2
  ·have hz:=ZY (w:=B [111,119,110,32]) (by rw[aW];decide) e2;simp only[e,e2,auG,ava,avT,auy];rw[aur (by rw[auu ahK];exact avb),aus (aut (by rw[aB]at hz;omega))];rw[show cC (tKp k,B [111,119,110,32]++wr ⟨k.id,(stT k).nx,tt,un,tx⟩,true,())=_ from lm hk.apV (r:=Ka ⟨k.id,(stT k).nx,tt,un,tx⟩) hz true];simp only[auE];rcases tf (wrR k (Ka ⟨k.id,(stT k).nx,tt,un,tx⟩) true).2 with e3|e3
   ·simp only[e3,auG,auD,auy]
   ·simp only[e3,auH,auD,auy,Hv e3]
  ·simp only[e,e2,auG,ava,au7,auD,auz,auy]
 ·simp only[e,auH,avk,auL,auy,auD]
def zg(k:anv)(fr nu:Int):anv×anz×Bool:=
 if k.up&& !decide (aP (stT k).inbox fr nu<0) then
  ((wrR k (cH nG fr nu (nA (stT k).inbox (aP (stT k).inbox fr nu).toNat).un) true).1,
   (if(wrR k (cH nG fr nu (nA (stT k).inbox (aP (stT k).inbox fr nu).toNat).un) true).2 then nA (stT k).inbox (aP (stT k).inbox fr nu).toNat else zN),
   (wrR k (cH nG fr nu (nA (stT k).inbox (aP (stT k).inbox fr nu).toNat).un) true).2)
 else(k,zN,false)
def abD(l:List anz)(i:Int): @rd anz (dfl .note) l i=nA l i.toNat:=rfl
def T4{n:anz}(h:ay n=true):(0<=n.fr/\n.fr<=999)/\(0<=n.nu/\n.nu<=999)/\(0<=n.un/\n.un<=999)/\isN n.fr=true/\isN n.to=true/\inB n.nu 1 99=true/\inB n.un 1 999=true/\n.tx.size<=24/\1<=n.tx.size:=by
 unfold ay at h;simp only[auF]at h;obtain⟨a,b,c,d,e⟩:=h;have a1:=ah.1 a;have c1:=ah.1 c;have d1:=ah.1 d;unfold Tk at e;rw[auF]at e;have e1:=ah.1 e.1;exact⟨by omega,by omega,by omega,a,b,c,d,by omega,by omega⟩
def Kb{w:auB}{a b c:Int}(hw:w.size<=10)(ha:0<=a/\a<=999)(hb:0<=b/\b<=999)(hc:0<=c/\c<=999):(cH w a b c).size<=100:=by
 have h1:=Iz ha.1 ha.2;have h2:=Iz hb.1 hb.2;have h3:=Iz hc.1 hc.2;unfold cH;simp only[aB,aW,auZ,avf];omega
def CS{a b c:Int}(ha:0<=a/\a<=999)(hb:0<=b/\b<=999)(hc:0<=c/\c<=999):eD (a,b,c,())=some ((((((cZ a++B [32])++cZ b)++B [32])++cZ c),()),()):=by
 have h1:=Iz ha.1 ha.2;have h2:=Iz hb.1 hb.2;have h3:=Iz hc.1 hc.2;unfold eD;simp only[bB (n:=a) (by omega) (by omega),bB (n:=b) (by omega) (by omega),bB (n:=c) (by omega) (by omega),auE];rw[aus (aut (by simp only[aB,aW,auZ,avf];omega)),aus (aut (by simp only[aB,aW,auZ,avf];omega)),aus (aut (by simp only[aB,aW,auZ,avf];omega)),aus (aut (by simp only[aB,aW,auZ,avf];omega))]
def CO(w:List UInt8)(a b c:Int):B (w++[32])++((((cZ a++B [32])++cZ b)++B [32])++cZ c)=cH (B w) a b c:=by
 apply qR;unfold cH;simp only[ua,L_B,au2]
def Oj{k:anv}(h:ae k=true)(fr nu:Int):jO (tKp k,fr,nu,())=some ((tKp (zg k fr nu).1,tN (zg k fr nu).2.1,(zg k fr nu).2.2,()),()):=by
 have hk:=ib h;have hf:=bN hk.kok;have il:=hf.il;unfold jO zg;rw[bj (eW h)];simp only[auE,h,auG,auD,kS h,dZ (eW h),cD (l:=(stT k).inbox) (show(stT k).inbox.length<=1048576 by omega)];rcases tf k.up with e|e
 ·by_cases hi:aP (stT k).inbox fr nu<0
  ·simp only[e,auG,ava,aut hi,auy,au7,auD]
  ·have hi':0<=aP (stT k).inbox fr nu:=by omega
   obtain⟨i1,i2,i3,i4⟩:=jt hi';have hn:=dr hf.i i1;obtain⟨r1,r2,r3,_⟩:=T4 hn;rw[i3]at r1;rw[i4]at r2;have hz:=Kb (w:=nG) (by decide) r1 r2 r3;have hl:=lm hk.apV (r:=cH nG fr nu (nA (stT k).inbox (aP (stT k).inbox fr nu).toNat).un) (by omega) true;simp only[e,auG,ava,auu hi,auD,auH,avT,auy,vS hi',abD,CS r1 r2 r3,auE];rw[aus (aut (by rw[← CO [101,97,116]]at hz;rw[aB]at hz;rw[show(B [101,97,116,32]).size=(B ([101,97,116]++[32])).size from rfl];omega))];rw[show(B [101,97,116,32])=B ([101,97,116]++[32]) from rfl,CO [101,97,116],hl];simp only[auE];rcases tf (wrR k (cH nG fr nu (nA (stT k).inbox (aP (stT k).inbox fr nu).toNat).un) true).2 with e3|e3
   ·simp only[e3,auG,auD,auy]
   ·simp only[e3,auH,auD,auy,Hv e3]
 ·simp only[e,auH,avk,auL,auy,auD]
def uw(k:anv)(fr nu mix:Int):Frame×Bool:=
 if k.up&&(!decide (aP (stT k).held fr nu<0)&&inB mix 0 999) then
  let n:=nA (stT k).held (aP (stT k).held fr nu).toNat
  (⟨1,k.id,cO k.id n.to,n.fr,n.nu,n.to,n.un,n.tx.size,mix,vL n.tx mix⟩,true)
 else(zF,false)
def uq{k:anv}(sm:cR k)(fr nu mix:Int):dk (tKp k,fr,nu,mix,())=some ((tF (if ae k then uw k fr nu mix else(zF,false)).1,(if ae k then uw k fr nu mix else(zF,false)).2,()),()):=by
 unfold dk uw;rw[bj sm];rcases tf (ae k) with h|h
 ·have hk:=ib h;have hf:=bN hk.kok;have hl:=hf.hl;rcases tf k.up with e|e
  ·simp only[auE,h,e,auG,awu,auD,auy,kS h,cD (l:=(stT k).held) (show(stT k).held.length<=1048576 by omega),ez,au4,avd,bF];by_cases hi:aP (stT k).held fr nu<0
   ·simp only[aut hi,avk,auy,auG,auL,au7,auD]
   ·have hi':0<=aP (stT k).held fr nu:=by omega
    rcases tf (inB mix 0 999) with e2|e2
    ·simp only[auu hi,e2,auG,awu,auD,auH,avT,auy,vS hi',abD,lq,Fy,auE]
    ·simp only[auu hi,e2,auH,avG,auy,au7,auD]
  ·simp only[auE,h,e,auG,auH,avG,auy,auL,auD]
 ·simp only[auE,h,auH,avk,auy,auD]
def nc(k:anv):anv×Bool:=if k.up then(pkM k,true) else(k,false)
def aiw{k:anv}{st:anE}(h:aph k st):Q4 k.log k.fo (bp st)=((fF (bp st),((fF (bp st)).size:Int)),true):=by
 have hrs:=vP h.kok;have hps:=L7 h.kok;unfold Q4;rw[aus h.sh,aus];rw[auF];refine⟨?_,aut (by omega)⟩;unfold CJ;rw[avn];exact λ x hx=>by
  have:=hrs.1 x hx;exact ah.2 (by omega)
def LP{k:anv}(h:ae k=true):iE (tKp k,())=some ((tKp (nc k).1,(nc k).2,()),()):=by
 have hk:=ib h;have hsm:=HS (bN hk.kok);have hP:=BA (lg:=k.log) (fo:=k.fo) (rs:=bp (stT k)) (BZ h) (LY hk.kok);rw[aiw hk.apV]at hP;unfold iE nc;rw[bj (eW h)];simp only[auE,h,auG,auD,kS h,dZ (eW h),D5 hsm,hk.kok,auy,hP];rcases tf k.up with e|e
 ·simp only[e,auG,awu,auD,auy];unfold pkM;simp only[e]
 ·simp only[e,auH,avk,auy,auD]
def mb(k:anv):anv×Bool:=if k.up&& !decide (k.fo=(k.log.size:Int)) then(foM k,true) else(k,false)
def J7{k:anv}(h:ae k=true):gN (tKp k,())=some ((tKp (mb k).1,(mb k).2,()),()):=by
 have hf:=ck h;have hF:=mv (lg:=k.log) (fo:=k.fo) (BZ h);rw[show Ck k.log k.fo=(k.log,(k.log.size:Int)) from aus hf.sh]at hF;unfold gN mb;rw[bj (eW h)];simp only[auE,h,auG,auD,dZ (eW h)];rcases tf k.up with e|e<;>rcases tfp (k.fo=(k.log.size:Int)) with e2|e2<;>simp only[e,e2,auz,auA,auG,auH,avG,avk,awu,avT,au7,auL,auy,auD,hF,auE];unfold foM;simp only[e]
def acz{k:anv}(h:ae k=true)(keep:Int):(faM k keep)=⟨k.id,false,(M8 k.log k.fo keep).1,(M8 k.log k.fo keep).2,[]⟩:=by
 unfold faM M8 wG;rw[aus (ck h).sh]
def zA{k:anv}(sm:cR k)(keep:Int):fB (tKp k,keep,())=some ((tKp (if ae k then faM k keep else zKp),()),()):=by
 unfold fB;rw[bj sm];rcases tf (ae k) with h|h
 ·simp only[auE,h,auG,auD,auy,Og sm.1,acz h]
 ·simp only[auE,h,auH,auy,auD]
def acD{k:anv}(h:ae k=true)(hu:k.up=false):k.anw=[]:=by
 rcases(ck h).up with h1|h1
 ·rw[hu]at h1;cases h1
 ·exact avi h1
def LO{k:anv}(h:ae k=true):iD (tKp k,())=some ((tKp (riM k),()),()):=by
 unfold iD riM;rw[bj (eW h)];simp only[auE,h,auG,auD];rcases tf k.up with e|e
 ·simp only[e,auy,dZ (eW h),auE];rw[← e]
 ·simp only[e,auD,acD h e]
def ad1{hv:List anD}{i:Nat}(h:i<hv.length)(x:anD):hA (hv.set i x) i=x:=by
 rw[hA,auQ,ax8 h];rfl
def Tw{l:List anD}{f n:Int}(hl:l.length<=1048576):rq (l,f,n,())=some ((tI l f n,()),()):=by
 have h:pY (l,f,n,0,())=some (if tI l f n<0 then .inr () else .inl (tI l f n,())):=
  uy (λ i=>(l,f,n,(i:Int),())) l.length (λ i=>decide ((hA l i).fr=f)&&decide ((hA l i).nu=n)) (λ i=>(i,())) () (λ i hi=>by
   unfold pw;simp only[jU hi,ak hi,auy,L4,bF,dx hi hl];rcases tfp ((hA l i).fr=f) with e|e<;>rcases tfp ((hA l i).nu=n) with e2|e2<;>simp only[e,e2,auz,auA,avT,au7,auL,auy,auD]) (by
   unfold pw;simp only[rZ,auD])
 unfold rq;rw[h];by_cases e':tI l f n<0
 ·have:tI l f n= -1:=by
   rcases bZ l.length (λ i=>decide ((hA l i).fr=f)&&decide ((hA l i).nu=n)) with h|⟨i,h,_⟩
   ·exact h.1
   ·have:tI l f n=(i:Int):=h;omega
  rw[aus e',this];rfl
 ·rw[aur e'];rfl
def ny(l:List anD)(f n:Int):tI l f n<0\/ ∃i:Nat,tI l f n=(i:Int)/\i<l.length/\(hA l i).fr=f/\(hA l i).nu=n:=by
 rcases bZ l.length (λ i=>decide ((hA l i).fr=f)&&decide ((hA l i).nu=n)) with h|⟨i,h,h2,h3,_⟩
 ·left;have:tI l f n= -1:=h.1;omega
 ·right;rw[auF]at h3;exact⟨i,h,h2,auv h3.1,auv h3.2⟩
def aN(hv:List anD)(f:Frame):List anD×Nat:=
 if tI hv f.fr f.nu<0 then((if 3<=hv.length then hv.drop 1 else hv)++[⟨f.fr,f.nu,f.to,f.un,f.sz,[]⟩],(if 3<=hv.length then hv.drop 1 else hv).length)
 else(hv,(tI hv f.fr f.nu).toNat)
def C5{hv:List anD}{f:Frame}:(aN hv f).2<(aN hv f).1.length:=by
 unfold aN;rcases ny hv f.fr f.nu with h|⟨i,h1,h2,_⟩
 ·rw[aus h];simp
 ·rw[aur (by omega)];show(tI hv f.fr f.nu).toNat<hv.length;omega
def FP{hv:List anD}{f:Frame}(h:hv.length<=3):(aN hv f).1.length<=3:=by
 unfold aN;split
 ·simp only[auP,av2];split
  ·rw[avy];omega
  ·omega
 ·exact h
def er(mix:Int)(m:anA):Bool:= !decide (m.nu=mix)
def df(got:List anA)(mix:Int)(da:auB):List anA:=
 (if 14<=(got.filter (er mix)).length then(got.filter (er mix)).drop 1 else got.filter (er mix))++[⟨mix,da⟩]
def Pn{p:anA->Bool}(pre:List anA)(m:anA):(pre++[m]).filter p=pre.filter p++if p m then [m] else []:=by
 rw[ayA];congr 1;simp only[awq,ayp]
def aax{mix:Int}{da:auB}(post:List anA):∀(pre:List anA),(pre++post).length<=1048576->
  pN ((mix,da,()),pre.filter (er mix),pre++post,((pre++post).length:Int),(pre.length:Int),())=some (.inr ((mix,da,()),(pre++post).filter (er mix),())):=by
 induction post with
 | nil=>
  intro pre _;refine ao ?_;unfold xp;simp only[avj,rZ,auD]
 | cons m post ih=>
  intro pre hl;have hlen:pre.length<(pre++m::post).length:=by simp
  have hw:=dx hlen hl;have hf:(pre.filter (er mix)).length<=pre.length:=avY _ _;have:=ih (pre++[m]) (by rw[← snoc];exact hl);rw[← snoc]at this;refine aj ?_ this;unfold xp;simp only[jU hlen,auy,ak hlen,LZ,hw,Pn,@auP _ pre [m],av2];rcases tfp (m.nu=mix) with e|e
  ·have:er mix m=false:=by unfold er;simp only[e,auz,auG]
   simp only[e,this,auz,auG,auD,avj]
  ·have:er mix m=true:=by unfold er;simp only[e,auA,auH]
   simp only[e,this,auA,auH,auy];rw[aus (aH (by simp at hl ⊢; omega))]
def acg{got:List anA}{mix:Int}{da:auB}(hl:got.length<=1048576):zY (got,(mix,da,()),())=some ((df got mix da,()),()):=by
 have hf:(got.filter (er mix)).length<=got.length:=avY _ _;unfold zY df;rw[show pN ((mix,da,()),[],got,(got.length:Int),0,())=_ from aax got [] hl];simp only[aK,auE,avR];by_cases h:14<=(got.filter (er mix)).length
 ·rw[aus (aut (by omega)),aus h,aus (by simp;omega),aus (dR (by rw[avy];omega) (by simp))];rfl
 ·rw[aur (by rw[auu (by omega)];exact avb),aur h,aus (dR (by omega) (by simp))]
def ZS{k:Int×Bool×auB×Int×List anD×auC}{f:Frame}{z:Int×Bool×auB×Int×List anD×auC}{i:Int}{h:anD}(post:List anA):∀(pre:List anA),h.got=pre++post->(pre++post).length<=1048576->
  mm (k,tF f,z,i,(h.fr,h.nu,h.to,h.un,h.sz,h.got,()),pre.filter (er f.mix),(pre.length:Int),())=some (.inr (k,tF f,z,i,(h.fr,h.nu,h.to,h.un,h.sz,h.got,()),h.got.filter (er f.mix),())):=by
 induction post with
 | nil=>
  intro pre hg _;rw[avj]at hg;refine ao ?_;unfold rr;simp only[hg,rZ,auD]
 | cons m post ih=>
  intro pre hg hl;have hlen:pre.length<(pre++m::post).length:=by simp
  have hw:=dx hlen hl;have hf:(pre.filter (er f.mix)).length<=pre.length:=avY _ _;have:=ih (pre++[m]) (by rw[hg,snoc]) (by rw[← snoc];exact hl);refine aj ?_ this;unfold rr;simp only[hg,jU hlen,auy,ak hlen,LZ,hw,Pn,@auP _ pre [m],av2];rcases tfp (m.nu=f.mix) with e|e
  ·have:er f.mix m=false:=by unfold er;simp only[e,auz,auG]
   simp only[e,this,auz,auG,auD,avj]
  ·have:er f.mix m=true:=by unfold er;simp only[e,auA,auH]
   simp only[e,this,auA,auH,auy];rw[aus (aH (by simp at hl ⊢; omega))]
def oU(hv:List anD)(i:Nat):List anD:=hv.take i++hv.drop (i+1)
def Fp{hv:List anD}{i:Nat}(hi:i<hv.length)(hl:hv.length<=1048576):gI (hv,(i:Int),())=some ((oU hv i,()),()):=by
 unfold gI oU;simp only[auV,avR];rw[dx hi hl,aus (by simp;omega),aus (dR (l:=([]:List anD)) (by simp) (by simp;omega)),aus (by simp;omega),aus (dR (by simp;omega) (by simp;omega)),auV]
def fW(hv:List anD)(i:Nat)(f:Frame):List anD:=hv.set i ⟨(hA hv i).fr,(hA hv i).nu,(hA hv i).to,(hA hv i).un,(hA hv i).sz,df (hA hv i).got f.mix f.da⟩
def FK(h:anD)(f:Frame):Bool:=decide (h.to=f.to)&&(decide (h.un=f.un)&&decide (h.sz=f.sz))
def W4{k:anv}(sm:cR k)(h3:k.anw.length<=3)(f:Frame):
  uU (tKp k,tF f,())=some ((if FK (hA (aN k.anw f).1 (aN k.anw f).2) f then((k.id,k.up,k.log,k.fo,fW (aN k.anw f).1 (aN k.anw f).2 f,()),((aN k.anw f).2:Int),()) else((k.id,k.up,k.log,k.fo,(aN k.anw f).1,()),-1,()),())):=by
 obtain⟨id,up,lg,fo,hv⟩:=k;obtain⟨sl,hl,hs⟩:=sm;simp only at sl hl hs h3;unfold uU;simp only[Tw hl,auE];have aok:=C5 (hv:=hv) (f:=f);have aoG:=FP (hv:=hv) (f:=f) h3;have ari:(hA (aN hv f).1 (aN hv f).2).got.length<=1048576:=by
  unfold aN;rcases ny hv f.fr f.nu with h|⟨i,h1,h2,_⟩
  ·rw[aus h];simp only;rw[hA,auQ,avl (auS _)];simp
  ·rw[aur (by omega)];show(hA hv (tI hv f.fr f.nu).toNat).got.length<=1048576;rw[h1,auV,qN h2];exact(hs _ (avm h2)).1
 have aqE:∀ {Ω:Type} (F:(Int×Bool×auB×Int×List anD×auC)×(Int×Int×Int×Int×Int×Int×Int×Int×Int×auB×auC)×(Int×Bool×auB×Int×List anD×auC)×Int×auC->Option Ω),
   bH F ((if(decide (tI hv f.fr f.nu<0)) then
    (bH (X:=(Int×Bool×auB×Int×List anD×auC)×(Int×Int×Int×Int×Int×Int×Int×Int×Int×auB×auC)×(Int×Bool×auB×Int×List anD×auC)×auC) (λ j7=>
    (if an (j7.1.2.2.2.2.1.length+([(anD.mk j7.2.1.2.2.2.1 j7.2.1.2.2.2.2.1 j7.2.1.2.2.2.2.2.1 j7.2.1.2.2.2.2.2.2.1 j7.2.1.2.2.2.2.2.2.2.1 ([]:List anA))]:List anD).length) then
    let v9:=(w64 (((j7.1.2.2.2.2.1++([(anD.mk j7.2.1.2.2.2.1 j7.2.1.2.2.2.2.1 j7.2.1.2.2.2.2.2.1 j7.2.1.2.2.2.2.2.2.1 j7.2.1.2.2.2.2.2.2.2.1 ([]:List anA))]:List anD)).length:Int) - 1))
    some (.inr ((j7.1.1,j7.1.2.1,j7.1.2.2.1,j7.1.2.2.2.1,(j7.1.2.2.2.2.1++([(anD.mk j7.2.1.2.2.2.1 j7.2.1.2.2.2.2.1 j7.2.1.2.2.2.2.2.1 j7.2.1.2.2.2.2.2.2.1 j7.2.1.2.2.2.2.2.2.2.1 ([]:List anA))]:List anD)),()),j7.2.1,j7.2.2.1,v9,()))
    else none))
    ((if(decide (3<=(hv.length:Int))) then
    (gI (hv,0,())).bind λ r8=>
    some (.inr ((id,up,lg,fo,r8.1),tF f,(0,false,noB,0,([]:List anD),()),()))
    else
    some (.inr ((id,up,lg,fo,hv,()),tF f,(0,false,noB,0,([]:List anD),()),())))))
    else
    some (.inr ((id,up,lg,fo,hv,()),tF f,(0,false,noB,0,([]:List anD),()),(tI hv f.fr f.nu,())))))=F ((id,up,lg,fo,(aN hv f).1,()),tF f,(0,false,noB,0,[],()),((aN hv f).2:Int),()):=by
  intro Ω F;unfold aN;rcases ny hv f.fr f.nu with h|⟨i,h1,h2,_⟩
  ·rw[aus (aut h),aus h];by_cases h4:3<=hv.length
   ·have hd:=Fp (hv:=hv) (i:=0) (by omega) hl;rw[aus (aut (by omega)),show gI (hv,0,())=_ from hd];simp only[auE,aZ,aus h4];rw[show oU hv 0=hv.drop 1 from by simp[oU],aus (dR (by simp;omega) (by simp)),aZ,ai (by first|(simp;done)|(simp;omega)) (by first|(simp;done)|(simp;omega))];congr 1;simp
   ·rw[aur (by rw[auu (by omega)];exact avb)];simp only[aZ,aur h4];rw[aus (dR (by omega) (by simp)),aZ,ai (by first|(simp;done)|(simp;omega)) (by first|(simp;done)|(simp;omega))];congr 1;simp
  ·rw[aur (by rw[auu (by omega)];exact avb),aur (show ¬tI hv f.fr f.nu<0 by omega),aZ];simp only;rw[h1,auV]
 rw[aqE];revert aok aoG ari;generalize (aN hv f).1=l;generalize (aN hv f).2=i;intro aok aoG ari;unfold FK;have hff:((hA l i).got.filter (er f.mix)).length<=(hA l i).got.length:=avY _ _;simp only[ak aok,auy,L4,auV];rcases tfp ((hA l i).to=f.to) with e1|e1<;>simp only[e1,auz,auA,auG,auH,auD,auy,auN,auL];rcases tfp ((hA l i).un=f.un) with e2|e2<;>simp only[e2,auz,auA,auG,auH,auD,auy,auN,auL];rcases tfp ((hA l i).sz=f.sz) with e3|e3<;>simp only[e3,auz,auA,auG,auH,auD,auy];have hgo:=ZS (k:=(id,up,lg,fo,l,())) (f:=f) (z:=(0,false,noB,0,[],())) (i:=(i:Int)) (h:=hA l i) (hA l i).got [] rfl ari;rw[show mm ((id,up,lg,fo,l,()),tF f,(0,false,noB,0,[],()),(i:Int),((hA l i).fr,(hA l i).nu,(hA l i).to,(hA l i).un,(hA l i).sz,(hA l i).got,()),[],0,())=_ from hgo];simp only[aK,auE];unfold fW df;by_cases h:14<=((hA l i).got.filter (er f.mix)).length
 ·rw[aus (aut (by omega)),aus h,aus (by simp;omega),aus (dR (l:=([]:List anA)) (by simp) (by rw[avy];omega)),aZ];simp only[avR,show auK 1=1 from rfl];rw[aus (dR (by rw[avy];omega) (by simp)),aus (ak aok)];rfl
 ·rw[aur (by rw[auu (by omega)];exact avb),aur h,aZ];dsimp only;rw[aus (dR (by omega) (by simp)),aus (ak aok)];rfl
def Oa(kind:Int)(f:Frame):Frame:=⟨kind,f.dst,f.src,f.fr,f.nu,f.to,f.un,0,0,noB⟩
def gh(n:anz):auB:=B [116,97,107,101,32]++wr n
abbrev oX(k:anv)(hv:List anD):anv:=⟨k.id,k.up,k.log,k.fo,hv⟩
def lX(k:anv)(n:anz)(f:Frame):anv×List Frame:=
 if ay n&&(wrR k (gh n) true).2 then((wrR k (gh n) true).1,[Oa 2 f]) else(k,[])
def AI(k:anv)(f:Frame):anv×List Frame:=
 if FK (hA (aN k.anw f).1 (aN k.anw f).2) f then
  (if(dy f.sz (df (hA (aN k.anw f).1 (aN k.anw f).2).got f.mix f.da)).2 then
   lX (oX k (oU (fW (aN k.anw f).1 (aN k.anw f).2 f) (aN k.anw f).2)) ⟨f.fr,f.nu,f.to,f.un,(dy f.sz (df (hA (aN k.anw f).1 (aN k.anw f).2).got f.mix f.da)).1⟩ f
  else(oX k (fW (aN k.anw f).1 (aN k.anw f).2 f),[]))
 else(oX k (aN k.anw f).1,[])
def iX(k:anv)(f:Frame):anv×List Frame:=
 if f.un<=(stT k).ti then(k,[Oa 3 f])
 else if 0<=aP (stT k).held f.fr f.nu\/0<=eC (stT k).marks f.fr f.nu then(foM k,[Oa 2 f])
 else if f.fr=k.id then(k,[])
 else AI k f
def abi{s:Int}{l:List anA}:(dy s l).1.size<=24:=by
 unfold dy;split
 ·rename_i h;have h1:=ah.1 h;split
  ·exact avM _
  ·rename_i c hc;split
   ·have hb:inB (au6 (s+3) 4) 1 6=true:=by
     have hd:au6 (s+3) 4=(s+3) / 4:=avx (by omega);exact ah.2 (by omega)
    have hk:=TQ hb l;have hz:=HY hk.all hc;have hz0:noB.size=0:=rfl;have hd:au6 (s+3) 4=(s+3) / 4:=avx (by omega);rw[hk.1,hz0]at hz;rw[ee (by omega)];omega
   ·exact avM _
 ·exact avM _
def Zk(got:List anA)(mix:Int)(da:auB):(df got mix da).length<=got.length+1:=by
 have hf:(got.filter (er mix)).length<=got.length:=avY _ _;unfold df;simp only[auP,av2];split
 ·rw[avy];omega
 ·omega
def alX{h:anD}(ok:kj h=true):h.got.length<=14:=by
 unfold kj at ok;simp only[auF]at ok;have h1:=auv ok.2.2.2.2.2.1;omega
def Ox{hv:List anD}{f:Frame}(hs:∀h∈hv,kj h=true):(hA (aN hv f).1 (aN hv f).2).got.length<=14:=by
 unfold aN;rcases ny hv f.fr f.nu with h|⟨i,h1,h2,_⟩
 ·rw[aus h];simp only;rw[hA,auQ,avl (auS _)];simp
 ·rw[aur (by omega)];show(hA hv (tI hv f.fr f.nu).toNat).got.length<=14;rw[h1,auV,qN h2];exact alX (hs _ (avm h2))
def aa7{k:anv}{st:anE}(h:aph k st)(hv:List anD):aph (oX k hv) st:=⟨h.sh,h.st⟩
def Zi{k:anv}(h:ae k=true):∀x∈k.anw,kj x=true:=by
 intro x hx;obtain⟨i,hi,rfl⟩:=aaC hx;have:=(ck h).hv i hi;unfold Dv at this;rw[auF]at this;exact this.1
def ZU{k:anv}(h:ae k=true){f:Frame}(hf:km f=true)(h1:f.ki=1):ln (tKp k,tF f,())=some ((tKp (iX k f).1,(iX k f).2,()),()):=by
 have hk:=ib h;have hkf:=bN hk.kok;have sm:=eW h;have kf:=ck h;have hF:=mv (lg:=k.log) (fo:=k.fo) (BZ h);rw[show Ck k.log k.fo=(k.log,(k.log.size:Int)) from aus kf.sh]at hF;have hl:=hkf.hl;have ml:=hkf.ml;have hfr:inB f.sz 1 24=true/\inB f.mix 0 999=true:=by
  unfold km yy at hf;simp only[auF]at hf;have:=hf.2.2.2.2.2.2;rw[aus (aut h1)]at this;simp only[auF]at this;exact⟨this.1,this.2.1⟩
 have hsz:=ah.1 hfr.1;have hmx:qg (au6 (f.sz+3) 4) f.mix=true:=by
  have hd:au6 (f.sz+3) 4=(f.sz+3) / 4:=avx (by omega);unfold qg;rw[hfr.2,ayC];exact ah.2 (by omega)
 unfold ln iX;simp only[kS h,auE];by_cases c1:f.un<=(stT k).ti
 ·rw[aus (aut c1),aus c1];rfl
 ·rw[aur (by rw[auu c1];exact avb),aur c1];simp only[cD (l:=(stT k).held) (show(stT k).held.length<=1048576 by omega),jK (l:=(stT k).marks) (show(stT k).marks.length<=1048576 by omega),auE,au4,avd,bF,auy];by_cases c2:0<=aP (stT k).held f.fr f.nu\/0<=eC (stT k).marks f.fr f.nu
  ·rw[aus (by rw[avo];exact c2.imp aut aut),aus c2];simp only[hF,auE];rfl
  ·rw[aur (by rw[avo];exact λ h=>c2 (h.imp auv auv)),aur c2];simp only[pv (n:=f.sz) (by omega) (by omega),zu,hmx,au4,avd,bF,auy,auG,avW];by_cases c3:f.fr=k.id
   ·rw[aus (aut c3),aus c3]
   ·rw[aur (by rw[auu c3];exact avb),aur c3];have arq:=W4 sm kf.hl f;rw[arq];simp only[auE];unfold AI;rcases tf (FK (hA (aN k.anw f).1 (aN k.anw f).2) f) with c4|c4
    ·have aok:=C5 (hv:=k.anw) (f:=f);have aoG:=FP (hv:=k.anw) (f:=f) kf.hl;have hal:(fW (aN k.anw f).1 (aN k.anw f).2 f).length=(aN k.anw f).1.length:=by unfold fW;rw[avZ]
     have ass:=Ox (f:=f) (Zi h);have hgl:=Zk (hA (aN k.anw f).1 (aN k.anw f).2).got f.mix f.da;have ari:(hA (fW (aN k.anw f).1 (aN k.anw f).2 f) (aN k.anw f).2).got=df (hA (aN k.anw f).1 (aN k.anw f).2).got f.mix f.da:=by
      unfold fW;rw[ad1 aok]
     simp only[c4,auy];rw[aur (by rw[auu (by omega)];exact avb),aus (ak (by rw[hal];exact aok))];simp only[L4,ari,Tz f.sz _ (show(df (hA (aN k.anw f).1 (aN k.anw f).2).got f.mix f.da).length<=1048576 by omega),auE];rcases tf (dy f.sz (df (hA (aN k.anw f).1 (aN k.anw f).2).got f.mix f.da)).2 with c5|c5
     ·simp only[c5,auG,auD,auy];rw[Fp (by rw[hal];exact aok) (by rw[hal];omega)];simp only[auE];rw[gv (by have:=abi (s:=f.sz) (l:=df (hA (aN k.anw f).1 (aN k.anw f).2).got f.mix f.da);omega)];simp only[auE];unfold lX;generalize hn:(⟨f.fr,f.nu,f.to,f.un,(dy f.sz (df (hA (aN k.anw f).1 (aN k.anw f).2).got f.mix f.da)).1⟩:anz)=n;rcases tf (ay n) with c6|c6
      ·have hz:=ZY (w:=B [116,97,107,101,32]) (by rw[aW];decide) c6;have hw:=lm (aa7 hk.apV (oU (fW (aN k.anw f).1 (aN k.anw f).2 f) (aN k.anw f).2)) (r:=gh n) hz true;simp only[c6,auy,auN];rw[aur (by rw[auu ahK];exact avb),aus (aut (by rw[aB]at hz;omega))];rw[show cC ((k.id,k.up,k.log,k.fo,oU (fW (aN k.anw f).1 (aN k.anw f).2 f) (aN k.anw f).2,()),B [116,97,107,101,32]++wr n,true,())=_ from hw];simp only[auE];rcases tf (wrR (oX k (oU (fW (aN k.anw f).1 (aN k.anw f).2 f) (aN k.anw f).2)) (gh n) true).2 with c7|c7
       ·simp only[c7,auG,auD,auy];rfl
       ·simp only[c7,auH,auD,auy,Hv c7]
      ·simp only[c6,auD,auz,auy,auL]
     ·simp only[c5,auH,auD,auy]
    ·simp only[c4,auD];rfl
def O7{k:anv}(h:ae k=true){f:Frame}:kc (tKp k,tF f,())=some ((tKp (iX k f).1,(iX k f).2,()),()):=by
 have hk:=ib h;have hkf:=bN hk.kok;have sm:=eW h;have kf:=ck h;have hl:=hkf.hl;have ml:=hkf.ml;have hl3:=kf.hl;have hlen:k.anw.length<=1048576:=by omega
 unfold kc iX;simp only[bP h,auE];by_cases c1:f.un<=(stT k).ti
 ·rw[aus (aut c1),aus c1];rfl
 ·rw[aur (by rw[auu c1];exact avb),aur c1];simp only[fb (l:=(stT k).held) (show(stT k).held.length<=1048576 by omega),lS (l:=(stT k).marks) (show(stT k).marks.length<=1048576 by omega),auE,au4,avd,bF,auy];by_cases c2:0<=aP (stT k).held f.fr f.nu\/0<=eC (stT k).marks f.fr f.nu
  ·rw[aus (by rw[avo];exact c2.imp aut aut),aus c2,AY kf.sh];rfl
  ·rw[aur (by rw[avo];exact λ h=>c2 (h.imp auv auv)),aur c2];by_cases c3:f.fr=k.id
   ·rw[aus (aut c3),aus c3]
   ·rw[aur (by rw[auu c3];exact avb),aur c3];simp only[I5 hlen,auE];have aok:=C5 (hv:=k.anw) (f:=f);have aoG:=FP (hv:=k.anw) (f:=f) kf.hl;have ass:=Ox (f:=f) (Zi h);have aqE:∀ {Ω:Type} (F:(Int×Bool×auB×Int×List anD×auC)×(Int×Int×Int×Int×Int×Int×Int×Int×Int×auB×auC)×(Int×Bool×auB×Int×List anD×auC)×Int×auC->Option Ω),
      bH F ((if(decide (tI k.anw f.fr f.nu<0)) then
      (if an (k.anw.length+([(anD.mk f.fr f.nu f.to f.un f.sz ([]:List anA))]:List anD).length) then
      (if(decide (3<((k.anw++([(anD.mk f.fr f.nu f.to f.un f.sz ([]:List anA))]:List anD)).length:Int))) then
      (if(decide (0<=1)&&decide (1<=((k.anw++([(anD.mk f.fr f.nu f.to f.un f.sz ([]:List anA))]:List anD)).length:Int))) then
      let v22:=(w64 (((avp (auK 1) (k.anw++([(anD.mk f.fr f.nu f.to f.un f.sz ([]:List anA))]:List anD))).length:Int) - 1))
      some (.inr ((k.id,k.up,k.log,k.fo,(avp (auK 1) (k.anw++([(anD.mk f.fr f.nu f.to f.un f.sz ([]:List anA))]:List anD))),()),tF f,(0,false,noB,0,([]:List anD),()),v22,()))
      else none)
      else
      let v23:=(w64 (((k.anw++([(anD.mk f.fr f.nu f.to f.un f.sz ([]:List anA))]:List anD)).length:Int) - 1))
      some (.inr ((k.id,k.up,k.log,k.fo,(k.anw++([(anD.mk f.fr f.nu f.to f.un f.sz ([]:List anA))]:List anD)),()),tF f,(0,false,noB,0,([]:List anD),()),v23,())))
      else none)
      else
      some (.inr (tKp k,tF f,(0,false,noB,0,([]:List anD),()),(tI k.anw f.fr f.nu,())))))=F ((k.id,k.up,k.log,k.fo,(aN k.anw f).1,()),tF f,(0,false,noB,0,[],()),((aN k.anw f).2:Int),()):=by
     intro Ω F;unfold aN;rcases ny k.anw f.fr f.nu with h|⟨i,h1,h2,_⟩
     ·rw[aus (aut h),aus h,aus (dR hlen (by simp))];by_cases h4:3<=k.anw.length
      ·rw[aus (aut (by simp;omega)),aus (by simp;omega),aus h4];have e1:avp (auK 1) (k.anw++[(⟨f.fr,f.nu,f.to,f.un,f.sz,[]⟩:anD)])=k.anw.drop 1++[⟨f.fr,f.nu,f.to,f.un,f.sz,[]⟩]:=by
        show avp 1 _=_;rw[ayq (by omega)]
       simp only[e1];rw[aZ,ai (by first|(simp;done)|(simp;omega)) (by first|(simp;done)|(simp;omega))];congr 1;simp
      ·rw[aur (by simp;omega),aur h4];simp only;rw[aZ,ai (by first|(simp;done)|(simp;omega)) (by first|(simp;done)|(simp;omega))];congr 1;simp
     ·rw[aur (by rw[auu (by omega)];exact avb),aur (show ¬tI k.anw f.fr f.nu<0 by omega),aZ];simp only;rw[h1,auV]
    rw[aqE];have hgl:=Zk (hA (aN k.anw f).1 (aN k.anw f).2).got f.mix f.da;unfold AI;have hLg:=λ hv=>aa7 hk.apV hv;revert aok aoG ass hgl;generalize (aN k.anw f).1=l;generalize (aN k.anw f).2=i;intro aok aoG ass hgl;have atK:l.set i ⟨(hA l i).fr,(hA l i).nu,(hA l i).to,(hA l i).un,(hA l i).sz,df (hA l i).got f.mix f.da⟩=fW l i f:=rfl;have hal:(fW l i f).length=l.length:=by unfold fW;rw[avZ]
    have hat:hA (fW l i f) i=⟨(hA l i).fr,(hA l i).nu,(hA l i).to,(hA l i).un,(hA l i).sz,df (hA l i).got f.mix f.da⟩:=ad1 aok _;simp only[ak aok,auy,L4,auV];unfold FK;rcases tfp ((hA l i).to=f.to) with e1|e1<;>simp only[e1,auz,auA,auG,auH,auD,auy,auN,auL];rcases tfp ((hA l i).un=f.un) with e2|e2<;>simp only[e2,auz,auA,auG,auH,auD,auy,auN,auL];rcases tfp ((hA l i).sz=f.sz) with e3|e3<;>simp only[e3,auz,auA,auG,auH,auD,auy];have e3':(hA l i).sz=f.sz:=of_eq_true e3;rw[acg (show(hA l i).got.length<=1048576 by omega)];simp only[auE,atK,hat];rw[e3'];rw[Va f.sz _ (show(df (hA l i).got f.mix f.da).length<=1048576 by omega)];simp only[auE];rcases tf (dy f.sz (df (hA l i).got f.mix f.da)).2 with c5|c5
    ·simp only[c5,auG,auD,auy];rw[aus (by simp;omega),aus (dR (l:=([]:List anD)) (by simp) (by simp;omega)),dx (n:=i) (m:=l.length) aok (by omega),aus (by simp;omega),aus (dR (by simp;omega) (by simp;omega))];rw[ke (by have:=abi (s:=f.sz) (l:=df (hA l i).got f.mix f.da);omega)];simp only[auE,avR,auV];unfold lX;generalize hn:(⟨f.fr,f.nu,f.to,f.un,(dy f.sz (df (hA l i).got f.mix f.da)).1⟩:anz)=n;have hL:=hLg (oU (fW l i f) i);have hdr:au3 i (fW l i f)++avp (i+1) (fW l i f)=oU (fW l i f) i:=rfl;rw[hdr];rcases tf (ay n) with c6|c6
     ·have hz:=ZY (w:=B [116,97,107,101,32]) (by rw[aW];decide) c6;have hw:=zW hL (r:=gh n) hz;simp only[c6,auy,auN];rw[aus (aut (by rw[aB]at hz;omega))];rw[show kH ((k.id,k.up,k.log,k.fo,oU (fW l i f) i,()),B [116,97,107,101,32]++wr n,())=_ from hw];simp only[auE];unfold wrR;rw[hL.stT];cases hc:bV (stT k) (gh n) with
      | none=>rfl
      | some o=>
       simp only[auG,auD,auy];rw[AY (ahL hL hc)];rfl
     ·have hb:bV (stT k) (B [116,97,107,101,32]++noB)=none:=UA hk.kok YK (.inr rfl);have hz0:(B [116,97,107,101,32]++noB).size<=1048576:=by rw[aB,aW];show 5+0<=1048576;omega
      have hw:=zW hL (r:=B [116,97,107,101,32]++noB) hz0;rw[aa6 (by rw[hL.stT];exact hb)]at hw;simp only[c6,auD,auL];rw[aus (aut (show(B [116,97,107,101,32]).size+noB.size<=4611686018427387904 by rw[aW];show 5+0<=4611686018427387904;omega))];rw[show kH ((k.id,k.up,k.log,k.fo,oU (fW l i f) i,()),B [116,97,107,101,32]++noB,())=_ from hw];rfl
    ·simp only[c5,auH,auD,auy]
def iH{α β:Type}[DecidableEq β]{l:List α}{f:α->β}:(l.map f).Nodup↔ ∀(i j:Nat) (hi:i<l.length) (hj:j<l.length),j<i->f l[j]≠f l[i]:=by
 unfold List.Nodup;rw[ayF];constructor
 ·intro h i j hi hj hlt;have:=h j i (by simpa using hj) (by simpa using hi) hlt;simpa using this
 ·intro h i j hi hj hlt;have:=h j i (by simpa using hj) (by simpa using hi) hlt;simpa using this
def aew{l:List anA}{i:Nat}(h:i<l.length):xA l i=l[i]:=by
 rw[xA,auQ,auO h];rfl
def wV(m:anA):Prop:=inB m.nu 0 999=true/\(m.da.size:Int)=4
structure aoJ (l:List anA):Prop where
 el:∀m∈l,wV m
 nd:(l.map (·.nu)).Nodup
def ae7{l:List anA}:dp l.length (Ah l)=true↔aoJ l:=by
 rw[cG];constructor
 ·intro h;refine⟨λ m hm=> ?_,iH.2 λ i j hi hj hlt=> ?_⟩
  ·obtain⟨i,hi,rfl⟩:=ahH hm;have:=h i hi;unfold Ah at this;simp only[auF]at this;exact⟨this.1.1,auv this.1.2⟩
  ·have:=h i hi;unfold Ah at this;simp only[auF]at this;have:=cG.1 this.2 j hlt;rw[aew hi,aew hj]at this;simpa using this
 ·intro h i hi;unfold Ah;simp only[auF];have h1:=h.el l[i] (avm hi);rw[aew hi];refine⟨⟨h1.1,aut h1.2⟩,cG.2 λ j hj=> ?_⟩;have:=iH.1 h.nd i j hi (by omega) hj;rw[aew (show j<l.length by omega)];simpa using this
def ajg{l:List anA}(h:aoJ l)(hl:l.length<=14){mix:Int}{da:auB}(hm:wV ⟨mix,da⟩):aoJ (df l mix da)/\(df l mix da).length<=14:=by
 have hf:(l.filter (er mix)).length<=l.length:=avY _ _;have apx:∀g:List anA,g.Sublist (l.filter (er mix))->aoJ (g++[⟨mix,da⟩]):=by
  intro g hg;refine⟨λ m hm'=> ?_, ?_⟩
  ·rcases auX.1 hm' with h1|h1
   ·exact h.el m (awd.1 (hg.subset h1)).1
   ·rw[avh.1 h1];exact hm
  ·rw[avS,aw4];refine⟨h.nd.sublist ((hg.trans List.filter_sublist).map _),by simp,λ a ha b hb=> ?_⟩;obtain⟨m,h1,rfl⟩:=avH.1 ha;have h2:=(awd.1 (hg.subset h1)).2;have hb:b=mix:=by simpa using hb
   rw[hb];unfold er at h2;simpa using h2
 unfold df;split
 ·refine⟨apx _ (ax7 _ _), ?_⟩;simp only[auP,av2,avy];omega
 ·refine⟨apx _ (avF _), ?_⟩;simp only[auP,av2];omega
abbrev aoO(h:anD):Int×Int:=(h.fr,h.nu)
structure aov (l:List anD):Prop where
 el:∀h∈l,kj h=true
 nd:(l.map aoO).Nodup
def aaB{l:List anD}:(∀i,i<l.length->Dv l i=true)↔aov l:=by
 constructor
 ·intro h;refine⟨λ m hm=> ?_,iH.2 λ i j hi hj hlt=> ?_⟩
  ·obtain⟨i,hi,rfl⟩:=aaC hm;have:=h i hi;unfold Dv at this;rw[auF]at this;exact this.1
  ·have:=h i hi;unfold Dv at this;rw[auF]at this;have:=cG.1 this.2 j hlt;rw[qN hi,qN hj]at this;intro e;simp only[aoO,avs]at e;simp[e.1,e.2]at this
 ·intro h i hi;unfold Dv;rw[auF];refine⟨by rw[qN hi];exact h.el _ (avm hi),cG.2 λ j hj=> ?_⟩;have:=iH.1 h.nd i j hi (by omega) hj;rw[qN hi,qN (show j<l.length by omega)];simp only[aoO,ne_eq,avs,not_and]at this;by_cases e:l[j].fr=l[i].fr
  ·simp[e,this e]
  ·simp[e]
def th{f:Frame}(h:km f=true):isN f.src=true/\isN f.dst=true/\isN f.fr=true/\isN f.to=true/\inB f.nu 1 99=true/\inB f.un 1 999=true/\yy f=true:=by
 unfold km at h;simp only[auF]at h;exact h
def uE{f:Frame}(h:km f=true)(h1:f.ki=1):inB f.sz 1 24=true/\wV ⟨f.mix,f.da⟩/\f.dst=cO f.src f.to:=by
 have:=(th h).2.2.2.2.2.2;unfold yy at this;rw[aus (aut h1)]at this;simp only[auF]at this;exact⟨this.1,⟨this.2.1,auv this.2.2.1⟩,auv this.2.2.2⟩
def aov.sub{l g:List anD}(h:aov l)(hg:g.Sublist l):aov g:=⟨λ x hx=>h.el x (hg.subset hx),h.nd.sublist (hg.map _)⟩
def aaa{l:List anD}(h:aov l){f:Frame}(hf:km f=true)(h1:f.ki=1):aov (aN l f).1:=by
 obtain⟨_,_,r3,r4,r5,r6,_⟩:=th hf;have hp:=uE hf h1;unfold aN;split
 ·rename_i hi;have apJ:∀x∈l,aoO x≠(f.fr,f.nu):=by
   intro x hx e;obtain⟨i,hi',rfl⟩:=aaC hx;simp only[aoO,avs]at e;rcases bZ l.length (λ i=>decide ((hA l i).fr=f.fr)&&decide ((hA l i).nu=f.nu)) with h|⟨i,h,_⟩
   ·have:=h.2 i hi';simp[e.1,e.2]at this
   ·have:tI l f.fr f.nu=(i:Int):=h;omega
  have apx:∀g:List anD,g.Sublist l->aov (g++[⟨f.fr,f.nu,f.to,f.un,f.sz,[]⟩]):=by
   intro g hg;refine⟨λ x hx=> ?_, ?_⟩
   ·rcases auX.1 hx with h2|h2
    ·exact h.el x (hg.subset h2)
    ·rw[avh.1 h2];unfold kj;simp only[r3,r4,r5,r6,hp.1,auN];rfl
   ·rw[avS,aw4];refine⟨h.nd.sublist (hg.map _),by simp,λ a ha b hb=> ?_⟩;obtain⟨m,h2,rfl⟩:=avH.1 ha;have hb:b=(f.fr,f.nu):=by simpa using hb
    rw[hb];exact apJ m (hg.subset h2)
  simp only;split
  ·exact apx _ (ax7 _ _)
  ·exact apx _ (avF _)
 ·exact h
def aco{h:anD}(ok:kj h=true):aoJ h.got/\h.got.length<=14:=by
 have h1:=alX ok;unfold kj at ok;simp only[auF]at ok;exact⟨ae7.1 ok.2.2.2.2.2.2,h1⟩
def ajc{h:anD}(ok:kj h=true){g:List anA}(hg:aoJ g)(hl:g.length<=14):kj ⟨h.fr,h.nu,h.to,h.un,h.sz,g⟩=true:=by
 unfold kj at ok ⊢;simp only[auF]at ok ⊢;exact⟨ok.1,ok.2.1,ok.2.2.1,ok.2.2.2.1,ok.2.2.2.2.1,aut (by omega),ae7.2 hg⟩
def aa2{l:List anD}(h:aov l){i:Nat}(hi:i<l.length){f:Frame}(hm:wV ⟨f.mix,f.da⟩):aov (fW l i f):=by
 have hh:=h.el l[i] (avm hi);have hg:=aco hh;have hn:=ajg hg.1 hg.2 hm;unfold fW;rw[qN hi];refine⟨λ x hx=> ?_, ?_⟩
 ·rcases awV hx with h1|h1
  ·exact h.el x h1
  ·rw[h1];exact ajc hh hn.1 hn.2
 ·rw[List.map_set];have:(l.map aoO).set i (aoO ⟨l[i].fr,l[i].nu,l[i].to,l[i].un,l[i].sz,df l[i].got f.mix f.da⟩)=l.map aoO:=by
   apply List.ext_getElem (by simp);intro j h1 h2;rw[List.getElem_set];split
   ·rename_i e;subst e;simp
   ·rfl
  rw[this];exact h.nd
def afi{l:List anD}(h:aov l)(i:Nat):aov (oU l i):=by
 refine h.sub ?_;unfold oU;have:(l.take i++l.drop (i+1)).Sublist (l.take i++l.drop i):=List.Sublist.append (avF _) (by rw[← aw9];exact ax7 _ _);rw[awJ]at this;exact this
def Ll{k:anv}{st:anE}(h:an9 k st)(hu:k.up=true){hv:List anD}(hl:hv.length<=3)(hf:aov hv):an9 (oX k hv) st:=by
 obtain⟨rs,ts,h1,h2⟩:=h.lg;have kf:=ck h.ok;exact⟨vO (k:=oX k hv) kf.id h1 hl (.inl hu) (by rw[show(oX k hv).id=k.id from rfl,h2];rfl) (aaB.2 hf),h.st⟩
def JO{k:anv}{st:anE}(h:an9 k st)(r:auB)(b:Bool):∃o,an9 (wrR k r b).1 o/\((wrR k r b).2=true->bV st r=some o)/\((wrR k r b).2=false->o=st/\bV st r=none):=by
 unfold wrR;rw[h.stT];cases hc:bV st r with
 | none=>exact⟨st,h,(λ e=>absurd e avb),λ _=>⟨rfl,rfl⟩⟩
 | some o=>
  refine⟨o, ?_,(λ _=>rfl),λ e=>absurd e.symm avb⟩;simp only;split
  ·exact KM (ZI h hc)
  ·exact ZI h hc
def Oy{k:anv}(h:ae k=true)(hu:k.up=true){f:Frame}(hf:km f=true)(h1:f.ki=1):ae (iX k f).1=true:=by
 have hk:=ib h;have kf:=ck h;have hv:=aaB.1 kf.hv;have hp:=uE hf h1;have aok:=C5 (hv:=k.anw) (f:=f);have aoG:=FP (hv:=k.anw) (f:=f) kf.hl;have hpf:=aaa hv hf h1;have haf:=aa2 hpf aok hp.2.1;have hal:(fW (aN k.anw f).1 (aN k.anw f).2 f).length=(aN k.anw f).1.length:=by unfold fW;rw[avZ]
 unfold iX;split
 ·exact h
 split
 ·exact(KM hk).ok
 split
 ·exact h
 unfold AI;split
 ·split
  ·unfold lX;have hw:=Ll hk hu (hv:=oU (fW (aN k.anw f).1 (aN k.anw f).2 f) (aN k.anw f).2) (by unfold oU;simp;omega) (afi haf _);split
   ·obtain⟨o,ho,_⟩:=JO hw (gh ⟨f.fr,f.nu,f.to,f.un,(dy f.sz (df (hA (aN k.anw f).1 (aN k.anw f).2).got f.mix f.da)).1⟩) true;exact ho.ok
   ·exact hw.ok
  ·exact(Ll hk hu (by rw[hal];exact aoG) haf).ok
 ·exact(Ll hk hu aoG hpf).ok
def mH(k:anv)(f:Frame):anv×List Frame:=
 if k.up&&(km f&&decide (f.dst=k.id)) then
  (if decide (f.ki=1) then iX k f
   else if decide (f.ki=2)&&(!decide (aP (stT k).held f.fr f.nu<0)&&(decide ((nA (stT k).held (aP (stT k).held f.fr f.nu).toNat).to=f.to)&&decide ((nA (stT k).held (aP (stT k).held f.fr f.nu).toNat).un=f.un))) then
    ((wrR k (cH jk f.fr f.nu f.un) false).1,[])
   else(k,[]))
 else(k,[])
def aJ(k:anv)(f:Frame):anv×List Frame:=if ae k then mH k f else(zKp,[])
def HR{f:Frame}(h:km f=true):(0<=f.fr/\f.fr<=999)/\(0<=f.nu/\f.nu<=999)/\(0<=f.un/\f.un<=999):=by
 obtain⟨_,_,r3,_,r5,r6,_⟩:=th h;have a:=ah.1 r3;have b:=ah.1 r5;have c:=ah.1 r6;exact⟨by omega,by omega,by omega⟩
def cQ{k:anv}(sm:cR k)(f:Frame):al (tKp k,tF f,())=some ((tKp (aJ k f).1,(aJ k f).2,()),()):=by
 unfold al aJ;rw[bj sm];rcases tf (ae k) with h|h
 ·have hk:=ib h;have hkf:=bN hk.kok;have hl:=hkf.hl;have hl':(stT k).held.length<=1048576:=by omega
  unfold mH;simp only[auE,h,auG,auD,auy,dZ sm,FG,kS h,cD hl'];rcases tf k.up with e|e<;>simp only[e,auG,auH,auD,auy,auN,auL];rcases tf (km f) with e2|e2<;>simp only[e2,auG,auH,auD,auy,auN,auL];rcases tfp (f.dst=k.id) with e3|e3<;>simp only[e3,auz,auA,auG,auH,auD,auy];obtain⟨r1,r2,r3⟩:=HR e2;rcases tfp (f.ki=1) with e4|e4
  ·have e4':=of_eq_true e4;simp only[e4,auz,auy];rw[show ln (tKp k,tF f,())=_ from ZU h e2 e4'];simp only[auE];rw[dZ (eW (Oy h e e2 e4'))];rfl
  ·simp only[e4,auA,auD];rcases tfp (f.ki=2) with e5|e5<;>simp only[e5,auz,auA,auG,auH,auD,auy,auN,auL];by_cases hi:aP (stT k).held f.fr f.nu<0
   ·simp only[aut hi,auy,auG,auL,auD]
   ·have hi':0<=aP (stT k).held f.fr f.nu:=by omega
    simp only[auu hi,auD,auH,auN,auy,vS hi',abD];rcases tfp ((nA (stT k).held (aP (stT k).held f.fr f.nu).toNat).un=f.un) with e6|e6<;>simp only[e6,auz,auA,auG,auH,auD,auy,ayC,au7];rcases tfp ((nA (stT k).held (aP (stT k).held f.fr f.nu).toNat).to=f.to) with e7|e7<;>simp only[e7,auz,auA,auG,auH,auD,auy];have hz:=Kb (w:=jk) (by decide) r1 r2 r3;have hw:=lm hk.apV (r:=cH jk f.fr f.nu f.un) (by omega) false;rw[CS r1 r2 r3];simp only[auE];rw[aus (aut (by rw[← CO [108,101,116]]at hz;rw[aB]at hz;rw[show(B [108,101,116,32]).size=(B ([108,101,116]++[32])).size from rfl];omega))];rw[show(B [108,101,116,32])=B ([108,101,116]++[32]) from rfl,CO [108,101,116],hw];rfl
 ·simp only[auE,h,auH,auy,auD]
def cT{k:anv}(sm:cR k)(f:Frame):bq (tKp k,tF f,())=some ((tKp (aJ k f).1,(aJ k f).2,()),()):=by
 unfold bq aJ;rw[eK sm];rcases tf (ae k) with h|h
 ·have hk:=ib h;have hkf:=bN hk.kok;have hl:=hkf.hl;have hl':(stT k).held.length<=1048576:=by omega
  unfold mH;simp only[auE,h,auG,auD,auy,dD sm,Gs,bP h,fb hl'];rcases tf k.up with e|e<;>simp only[e,auG,auH,auD,auy,auN,auL];rcases tf (km f) with e2|e2<;>simp only[e2,auG,auH,auD,auy,auN,auL];rcases tfp (f.dst=k.id) with e3|e3<;>simp only[e3,auz,auA,auG,auH,auD,auy];obtain⟨r1,r2,r3⟩:=HR e2;rcases tfp (f.ki=1) with e4|e4
  ·have e4':=of_eq_true e4;simp only[e4,auz,auy];rw[show kc (tKp k,tF f,())=_ from O7 h];simp only[auE];rw[dD (eW (Oy h e e2 e4'))];rfl
  ·simp only[e4,auA,auD];rcases tfp (f.ki=2) with e5|e5<;>simp only[e5,auz,auA,auD,auy,auN,auL];by_cases hi:aP (stT k).held f.fr f.nu<0
   ·rw[aur (show ¬decide (0<=aP (stT k).held f.fr f.nu)=true by simp;omega)];simp only[aut hi,dO,auy,aZ,auG,auL,auD]
   ·have hi':0<=aP (stT k).held f.fr f.nu:=by omega
    rw[aus (aut hi')];simp only[auu hi,auH,auN,auy,vS hi',abD,bF,aZ];rcases tfp ((nA (stT k).held (aP (stT k).held f.fr f.nu).toNat).to=f.to) with e7|e7<;>simp only[e7,auz,auA,auD,auy,auN,auL];rcases tfp ((nA (stT k).held (aP (stT k).held f.fr f.nu).toNat).un=f.un) with e6|e6<;>simp only[e6,auz,auA,auD,auy];have hz:=Kb (w:=jk) (by decide) r1 r2 r3;have hw:=zW hk.apV (r:=cH jk f.fr f.nu f.un) (by omega);rw[show gA (B [108,101,116],f.fr,f.nu,f.un,())=_ from B7 (w:=jk) (by decide) r1 r2 r3];simp only[auE];rw[hw];rfl
 ·simp only[auE,h,auH,auy,auD]
def vW{k:anv}(h:ae k=true)(f:Frame):ae (aJ k f).1=true:=by
 have hk:=ib h;unfold aJ mH;rw[aus h];split
 ·rename_i hc;simp only[auF]at hc;split
  ·rename_i h1;exact Oy h hc.1 hc.2.1 (auv h1)
  ·split
   ·obtain⟨o,ho,_⟩:=JO hk (cH jk f.fr f.nu f.un) false;exact ho.ok
   ·exact h
 ·exact h
def abg{k:anv}(h:ae k=true):ae (fY k).1=true:=by
 unfold fY;split
 ·obtain⟨o,ho,_⟩:=JO (ib h) (fD ((stT k).ti+1)) true;exact ho.ok
 ·exact h
def akC{k:anv}(h:ae k=true)(tt un:Int)(tx:auB):ae (vG k tt un tx).1=true:=by
 unfold vG;split
 ·obtain⟨o,ho,_⟩:=JO (ib h) (Ka ⟨k.id,(stT k).nx,tt,un,tx⟩) true;exact ho.ok
 ·exact h
def alo{k:anv}(h:ae k=true)(fr nu:Int):ae (zg k fr nu).1=true:=by
 unfold zg;split
 ·obtain⟨o,ho,_⟩:=JO (ib h) (cH nG fr nu (nA (stT k).inbox (aP (stT k).inbox fr nu).toNat).un) true;exact ho.ok
 ·exact h
def aix{k:anv}(h:ae k=true):ae (nc k).1=true:=by
 unfold nc;split
 ·exact(amo (ib h)).ok
 ·exact h
def ag3{k:anv}(h:ae k=true):ae (mb k).1=true:=by
 unfold mb;split
 ·exact(KM (ib h)).ok
 ·exact h
def BI(l:List Int):(eS l).size=l.length:=by
 show(List.toArray _).size=_;simp
def agp(f:Frame):(gO f).length<=17:=by
 unfold gO;split
 ·rename_i h;have:=Ql h;simp only[auP,auZ,avf];omega
 ·simp
def frA(l:List Frame)(i:Nat):Frame:=l.getD i (dfl .frame)
def aio(l:List Frame)(i:Nat): @rd Frame (dfl .frame) l (i:Int)=frA l i:=rfl
def pcF(f:Frame):anB:=⟨f.src,f.dst,eS (gO f),false⟩
def IV(ra:List anB)(fs:List Frame):List anB:=ra++(fs.take (30 - ra.length)).map pcF
def ajm{l:List Frame}{i:Nat}(h:i<l.length):frA l i=l[i]:=by
 rw[frA,auQ,auO h];rfl
def xM{ra:List anB}{fs:List Frame}(hf:fs.length<=1048576):aR (ra,fs,())=some ((IV ra fs,()),()):=by
 have aoh:pX (ra,fs,0,())=some (.inr (IV ra fs,())):=by
  have h0:=cy (b:=lj) (y:= .inr (IV ra fs,())) (λ i=>(ra++(fs.take i).map pcF,fs,(i:Int),())) (min fs.length (30 - ra.length)) (λ i hi=>by
   have h1:i<fs.length:=by omega
   have h2:(ra++(fs.take i).map pcF).length=ra.length+i:=by simp;omega
   unfold lj;simp only[bD h1,ak h1,aio,aA h1 (by omega:fs.length<=9223372036854775807),h2];rw[aus (by simp;omega)];simp only[auy];rw[show eU ((_,_,_,_,_,_,_,_,_,_,()),())=_ from BH (frA fs i)];simp only[auE];rw[aus (aH (by simp;omega))];have h3:ra++(fs.take (i+1)).map pcF=(ra++(fs.take i).map pcF)++[pcF (frA fs i)]:=by
    rw[ajm h1,au2,← List.map_singleton (f:=pcF),← avS,List.take_append_getElem h1]
   rw[h3];rfl) (by
   unfold lj;have h2:(ra++(fs.take (min fs.length (30 - ra.length))).map pcF).length=ra.length+min fs.length (30 - ra.length):=by simp
   simp only[h2];rw[aur (by simp only[auF,decide_eq_true_eq];omega)];have h3:fs.take (min fs.length (30 - ra.length))=fs.take (30 - ra.length):=by
    rw[Nat.min_comm,← ay1,avN]
   rw[h3];rfl)
  simp only[List.take_zero,awZ,avj]at h0;exact h0
 unfold aR;simp only[aoh,c8]
def TT(f:Frame):Prop:=isN f.src=true/\isN f.dst=true/\(f.src - f.dst=1\/f.dst - f.src=1)
def amp{f:Frame}(h:TT f):FR (pcF f)=true:=by
 have:=agp f;unfold FR pcF;simp only[h.1,h.2.1,auN,BI,auF,avo,decide_eq_true_eq];exact⟨h.2.2,by omega⟩
def abw{ra:List anB}{fs:List Frame}(h:ra.length<=30):(IV ra fs).length<=30:=by
 unfold IV;simp;omega
def aeI{ra:List anB}{fs:List Frame}(h:∀p∈ra,FR p=true)(hf:∀f∈fs,TT f):∀p∈IV ra fs,FR p=true:=by
 intro p hp;rcases auX.1 hp with h1|h1
 ·exact h p h1
 ·obtain⟨f,h2,rfl⟩:=avH.1 h1;exact amp (hf f (av6 h2))
def OC{a t:Int}(h:isN (cO a t)=true):isN a=true/\(a - cO a t=1\/cO a t - a=1):=by
 have h0:=jv h;revert h0;unfold cO;split
 ·omega
 ·rename_i h1;intro _;simp only[avo,avw,not_or,Bool.not_eq_false]at h1;refine⟨h1.1, ?_⟩;split<;>omega
def ajl{f:Frame}(h:km f=true):TT f:=by
 obtain⟨r1,r2,_,_,_,_,r7⟩:=th h;refine⟨r1,r2, ?_⟩;unfold yy at r7;split at r7
 ·simp only[auF,decide_eq_true_eq]at r7;have h1:=r7.2.2.2;have:=OC (a:=f.src) (t:=f.to) (by rw[← h1];exact r2);rw[← h1]at this;exact this.2
 ·simp only[auF,decide_eq_true_eq]at r7;have h1:=r7.2.2.2.2;have:=OC (a:=f.dst) (t:=f.to) (by rw[← h1];exact r1);rw[← h1]at this;exact this.2.symm
def alG{f:Frame}(n:Int)(h:TT f):TT (Oa n f):=⟨h.2.1,h.1,h.2.2.symm⟩
def agV(k:anv)(f:Frame):(aJ k f).2=[]\/(km f=true/\ ∃n,(aJ k f).2=[Oa n f]):=by
 unfold aJ;split
 ·unfold mH;split
  ·rename_i hc;simp only[auF]at hc;split
   ·unfold iX;split
    ·exact .inr ⟨hc.2.1,3,rfl⟩
    ·split
     ·exact .inr ⟨hc.2.1,2,rfl⟩
     ·split
      ·exact .inl rfl
      ·unfold AI;split
       ·split
        ·unfold lX;split
         ·exact .inr ⟨hc.2.1,2,rfl⟩
         ·exact .inl rfl
        ·exact .inl rfl
       ·exact .inl rfl
   ·split<;>exact .inl rfl
  ·exact .inl rfl
 ·exact .inl rfl
def uD(k:anv)(f:Frame):(aJ k f).2.length<=1/\ ∀g∈(aJ k f).2,TT g:=by
 rcases agV k f with h|⟨h,n,h1⟩
 ·rw[h];exact⟨by simp,λ g hg=>by cases hg⟩
 ·rw[h1];exact⟨by simp,λ g hg=>by rw[avh.1 hg];exact alG n (ajl h)⟩
def aiS{k:anv}(h:ae k=true){fr nu mix:Int}(hb:(uw k fr nu mix).2=true):TT (uw k fr nu mix).1:=by
 unfold uw at hb ⊢;split
 ·rename_i hc;simp only[auF,avw,decide_eq_false_iff_not]at hc;have hk:=ib h;have h0:=(jt (axD.1 hc.2.1)).1;have:=Pe hk.kok (n:=nA (stT k).held (aP (stT k).held fr nu).toNat) (by rw[nA,auQ,auO h0];exact avm h0);rw[hk.id]at this;have h2:=OC this;exact⟨h2.1,this,h2.2⟩
 ·rename_i hc;rw[aur hc]at hb;cases hb
structure anV (w:anI):Prop where
 kl:w.anC.length=4
 ll:w.anS.length=3
 rl:w.anF.length<=30
 sl:w.aoF.length<=6
 gl:w.got.length<=6
 k:∀i,i<4->ae (kA w.anC i)=true/\(kA w.anC i).id=(i:Int)
 p:∀p∈w.anF,FR p=true
 s:∀n∈w.aoF,ay n=true
 g:∀n∈w.got,ay n=true
def Qk(w:anI)(p:anB)(ra:List anB):anI:=
 if(dj (aL p.data)).2&&(decide ((dj (aL p.data)).1.src=p.src)&&decide ((dj (aL p.data)).1.dst=p.dst)) then
  ⟨w.ti,w.anC.set p.dst.toNat (aJ (kA w.anC p.dst.toNat) (dj (aL p.data)).1).1,w.anS,IV ra (aJ (kA w.anC p.dst.toNat) (dj (aL p.data)).1).2,w.aoF,w.got⟩
 else⟨w.ti,w.anC,w.anS,ra,w.aoF,w.got⟩
def JU(p:anB)(mix kp:Int):anB:=⟨p.src,p.dst,eS (ave (aL p.data) mix.toNat (vQ .u8 (@rd Int (dfl .u8) (aL p.data) mix) (w8 kp))),true⟩
def Mp(ra:List anB)(i:Nat):List anB:=ra.take i++ra.drop (i+1)
def lnk(p:anB):Int:=if p.src<p.dst then p.src else p.dst
def C4(w:anI)(e:Event):anI×Bool:=
 if inB e.wo 0 ((w.anF.length:Int) - 1) then
  if e.ki=6 then
   if !(pA w.anF e.wo.toNat).sp&&(inB e.mix 0 (((pA w.anF e.wo.toNat).data.size:Int) - 1)&&inB e.kp 1 255) then
    (⟨w.ti,w.anC,w.anS,w.anF.set e.wo.toNat (JU (pA w.anF e.wo.toNat) e.mix e.kp),w.aoF,w.got⟩,true)
   else(w,false)
  else if e.ki=5 then(⟨w.ti,w.anC,w.anS,Mp w.anF e.wo.toNat,w.aoF,w.got⟩,true)
  else if bA w.anS (lnk (pA w.anF e.wo.toNat)).toNat then(Qk w (pA w.anF e.wo.toNat) (if e.kp=0 then Mp w.anF e.wo.toNat else w.anF),true)
  else(w,false)
 else(w,false)
def apl(w:anI)(i:Nat)(k:anv):anI:=⟨w.ti,w.anC.set i k,w.anS,w.anF,w.aoF,w.got⟩
def agt(w:anI)(e:Event)(k:anv):anI×Bool:=
 if 6<=w.aoF.length then(w,false)
 else if(vG k e.to e.un e.tx).2=0 then(w,false)
 else(⟨w.ti,w.anC.set e.at_.toNat (vG k e.to e.un e.tx).1,w.anS,w.anF,w.aoF++[⟨e.at_,(vG k e.to e.un e.tx).2,e.to,e.un,e.tx⟩],w.got⟩,true)
def ahd(w:anI)(e:Event)(k:anv):anI×Bool:=
 if(zg k e.fr e.nu).2.2&&decide (w.got.length<6) then
  (⟨w.ti,w.anC.set e.at_.toNat (zg k e.fr e.nu).1,w.anS,w.anF,w.aoF,w.got++[(zg k e.fr e.nu).2.1]⟩,true)
 else(w,false)
def Dg(w:anI)(e:Event)(k:anv):anI×Bool:=
 if e.ki=1 then agt w e k
 else if e.ki=2 then(apl w e.at_.toNat (fY k).1,(fY k).2)
 else if e.ki=3 then(if(uw k e.fr e.nu e.mix).2 then(⟨w.ti,w.anC,w.anS,IV w.anF [(uw k e.fr e.nu e.mix).1],w.aoF,w.got⟩,true) else(w,false))
 else if e.ki=7 then(apl w e.at_.toNat (faM k e.kp),k.up)
 else if e.ki=8 then(apl w e.at_.toNat (riM k),!k.up)
 else if e.ki=11 then ahd w e k
 else if e.ki=12 then(apl w e.at_.toNat (nc k).1,(nc k).2)
 else if e.ki=13 then(apl w e.at_.toNat (mb k).1,(mb k).2)
 else(w,false)
def Us(w:anI)(e:Event):anI×Bool:=
 if inB e.at_ 0 ((w.anS.length:Int) - 1)&& !decide (bA w.anS e.at_.toNat=decide (e.ki=9)) then
  (⟨w.ti,w.anC,w.anS.set e.at_.toNat (decide (e.ki=9)),w.anF,w.aoF,w.got⟩,true)
 else(w,false)
def doM(w:anI)(e:Event):anI×Bool:=
 if e.ki=4\/e.ki=5\/e.ki=6 then C4 w e
 else if e.ki=9\/e.ki=10 then Us w e
 else if isN e.at_ then Dg w e (kA w.anC e.at_.toNat)
 else(w,false)
abbrev tE(e:Event):Int×Int×Int×Int×Int×Int×Int×Int×Int×auB×auC:=(e.ki,e.at_,e.fr,e.nu,e.wo,e.mix,e.kp,e.to,e.un,e.tx,())
abbrev tS(w:anI)(ev:List Event):Int×List anv×List Bool×List anB×List anz×List anz×List Event×auC:=(w.ti,w.anC,w.anS,w.anF,w.aoF,w.got,ev,())
def afE(w:anI)(b:Bool):anI:=if b then⟨w64 (w.ti+1),w.anC,w.anS,w.anF,w.aoF,w.got⟩ else w
def xY(w:anI)(e:Event):anI:=afE (doM w e).1 (doM w e).2
def FV(ev:List Event)(e:Event)(b:Bool):List Event:=if b then ev++[e] else ev
def TL(l:List anB)(i:Int): @rd anB (dfl .anJ) l i=pA l i.toNat:=rfl
def abE(l:List Bool)(i:Int): @rd Bool (dfl .bool) l i=bA l i.toNat:=rfl
def alO{l:List anB}{i:Nat}(h:i<l.length):pA l i=l[i]:=by
 rw[pA,auQ,auO h];rfl
def et{i:Int}{n:Nat}(h0:0<=i)(h1:i<n):inb i n=true:=by unfold inb;simp;omega
def BN{p:anB}(h:FR p=true):(0<=p.src/\p.src<=3)/\(0<=p.dst/\p.dst<=3)/\p.data.size<=40/\0<=lnk p/\lnk p<3:=by
 unfold FR at h;simp only[auF,avo,decide_eq_true_eq]at h;have a:=jv h.1;have b:=jv h.2.1;refine⟨a,b,by omega, ?_, ?_⟩<;>unfold lnk<;>split<;>omega
def Tv(a b:Int):jI (a,b,())=some ((if a<b then a else b,()),()):=by
 unfold jI;rcases tfp (a<b) with e|e<;>simp only[e,auz,auA,auy,if_false,auD]
def BK{w:anI}(h:anV w){i:Nat}(hi:i<w.anF.length):FR (pA w.anF i)=true:=by
 rw[alO hi];exact h.p _ (avm hi)
def aeW{w:anI}(h:anV w){i:Nat}(hi:i<4):cR (kA w.anC i):=eW (h.k i hi).1
def Bn{n:Nat}(h:n<=1048576):w64 ((n:Int) - 1)=(n:Int) - 1:=ai (by omega) (by omega)
def nd{p:Prop}[Decidable p](h:¬p):¬(decide p=true):=by simpa using h
def af8{w:anI}(h:anV w){r:List Int×Int×auC}{ev:List Event}(hev:ev.length<=1048576){e:Event}(hk:e.ki=4):
  ap ((r,tS w ev),tE e,())=some (((doM w e).2,()),((r,tS (xY w e) (FV ev e (doM w e).2)),())):=by
 obtain⟨ki,at_,fr,nu,wo,mix,kp,t',un,tx⟩:=e;obtain rfl:ki=4:=hk;have rl:=h.rl;have hr:∀x:Event,an (ev.length+[x].length)=true:=λ x=>aH (by simp;omega);have n45:((4:Int)=5)=False:=by simp
 have n46:((4:Int)=6)=False:=by simp
 unfold ap xY doM;rw[aus (show(4:Int)=4\/(4:Int)=5\/(4:Int)=6 by omega)];unfold C4;rw[aus (by rfl)];simp only[ez,auE,Bn (show w.anF.length<=1048576 by omega),n45,n46,auz,auA,auD,auy,if_false];rcases tf (inB wo 0 ((w.anF.length:Int) - 1)) with e0|e0
 ·have hw:=ah.1 e0;have hb:inb wo w.anF.length=true:=et hw.1 (by omega);have hp:=BK h (i:=wo.toNat) (by omega);obtain⟨p1,p2,p3,p4,p5⟩:=BN hp;simp only[e0,auG,auD,hb,auy,TL,Tv,auE];have hl:inb (if(pA w.anF wo.toNat).src<(pA w.anF wo.toNat).dst then(pA w.anF wo.toNat).src else(pA w.anF wo.toNat).dst) w.anS.length=true:=by
   have:=h.ll;exact et p4 (by rw[this];exact p5)
  have hin:inb (pA w.anF wo.toNat).dst w.anC.length=true:=et p2.1 (by rw[h.kl];omega);have hw1:w64 (wo+1)=wo+1:=ai (by omega) (by omega);have hw2:(wo+1).toNat=wo.toNat+1:=by omega
  simp only[hl,auy,abE];show(if(!bA w.anS (lnk (pA w.anF wo.toNat)).toNat)=true then _ else _)=_;rcases tf (bA w.anS (lnk (pA w.anF wo.toNat)).toNat) with e1|e1
  ·simp only[e1,auG,auD,auy];unfold Qk;rcases tfp (kp=0) with e5|e5
   ·simp only[e5,auz,auy,hw1,hw2];rw[aus (by simp;omega),aus (aH (by simp;omega)),aus (by simp;omega),aus (aH (by simp;omega))];have e6:([]++au3 wo.toNat w.anF++avp (wo.toNat+1) w.anF)=Mp w.anF wo.toNat:=rfl;simp only[e6];simp only[aH (show(pA w.anF wo.toNat).data.size<=4294967296 by omega),auy,qc (BOk.str _),auE];have hun:= @CN (aL (pA w.anF wo.toNat).data);revert hun;generalize dj (aL (pA w.anF wo.toNat).data)=u;intro hun;rcases tf u.2 with e2|e2<;>simp only[e2,auG,auH,auD,auy,auN,auL,hr]
    ·rcases tfp (u.1.src=(pA w.anF wo.toNat).src) with e3|e3<;>simp only[e3,auz,auA,auG,auH,auD,auy,auN,auL]
     ·rcases tfp (u.1.dst=(pA w.anF wo.toNat).dst) with e4|e4<;>simp only[e4,auz,auA,auG,auH,auD,auy]
      ·simp only[hin,auy,Kd];rw[show al ((_,_,_,_,_,()),_,())=_ from cQ (aeW h (i:=(pA w.anF wo.toNat).dst.toNat) (by omega)) u.1];simp only[auE];rw[xM (by have:=(uD (kA w.anC (pA w.anF wo.toNat).dst.toNat) u.1).1;omega)];rfl
      ·rfl
     ·rfl
    ·rfl
   ·simp only[e5,auA,auD,if_false];simp only[aH (show(pA w.anF wo.toNat).data.size<=4294967296 by omega),auy,qc (BOk.str _),auE];have hun:= @CN (aL (pA w.anF wo.toNat).data);revert hun;generalize dj (aL (pA w.anF wo.toNat).data)=u;intro hun;rcases tf u.2 with e2|e2<;>simp only[e2,auG,auH,auD,auy,auN,auL,hr]
    ·rcases tfp (u.1.src=(pA w.anF wo.toNat).src) with e3|e3<;>simp only[e3,auz,auA,auG,auH,auD,auy,auN,auL]
     ·rcases tfp (u.1.dst=(pA w.anF wo.toNat).dst) with e4|e4<;>simp only[e4,auz,auA,auG,auH,auD,auy]
      ·simp only[hin,auy,Kd];rw[show al ((_,_,_,_,_,()),_,())=_ from cQ (aeW h (i:=(pA w.anF wo.toNat).dst.toNat) (by omega)) u.1];simp only[auE];rw[xM (by have:=(uD (kA w.anC (pA w.anF wo.toNat).dst.toNat) u.1).1;omega)];rfl
      ·rfl
     ·rfl
    ·rfl
  ·simp only[e1,auH,auD,auy];rfl
 ·simp only[e0,auH,auD,auy];rfl
def af7{w:anI}(h:anV w){r:List Int×Int×auC}{ev:List Event}(hev:ev.length<=1048576){e:Event}(hk:e.ki=5):
  ap ((r,tS w ev),tE e,())=some (((doM w e).2,()),((r,tS (xY w e) (FV ev e (doM w e).2)),())):=by
 obtain⟨ki,at_,fr,nu,wo,mix,kp,t',un,tx⟩:=e;obtain rfl:ki=5:=hk;have rl:=h.rl;have hr:∀x:Event,an (ev.length+[x].length)=true:=λ x=>aH (by simp;omega);have n54:((5:Int)=4)=False:=by simp
 have n56:((5:Int)=6)=False:=by simp
 unfold ap xY doM;rw[aus (show(5:Int)=4\/(5:Int)=5\/(5:Int)=6 by omega)];unfold C4;simp only[ez,auE,Bn (show w.anF.length<=1048576 by omega),n54,n56,auz,auA,auD,auy,if_false];rcases tf (inB wo 0 ((w.anF.length:Int) - 1)) with e0|e0
 ·have hw:=ah.1 e0;have hb:inb wo w.anF.length=true:=et hw.1 (by omega);have hw1:w64 (wo+1)=wo+1:=ai (by omega) (by omega);have hw2:(wo+1).toNat=wo.toNat+1:=by omega
  simp only[e0,auG,auD,hb,auy,hw1,hw2];rw[aus (by simp;omega),aus (aH (by simp;omega)),aus (by simp;omega),aus (aH (by simp;omega)),aus (hr _)];rfl
 ·simp only[e0,auH,auD,auy];rfl
def akr{α:Type}(l:List α)(i:Nat)(x y:α):(l.set i x).set i y=l.set i y:=by simp
def amq{l:List anB}{i:Nat}(h:i<l.length)(p:anB):pA (l.set i p) i=p:=by
 rw[pA,auQ,ax8 h];rfl
def aj1(s:auB):(aL s).length=s.size:=by rw[HZ,avK,ba]
def af6{w:anI}(h:anV w){r:List Int×Int×auC}{ev:List Event}(hev:ev.length<=1048576){e:Event}(hk:e.ki=6):
  ap ((r,tS w ev),tE e,())=some (((doM w e).2,()),((r,tS (xY w e) (FV ev e (doM w e).2)),())):=by
 obtain⟨ki,at_,fr,nu,wo,mix,kp,t',un,tx⟩:=e;obtain rfl:ki=6:=hk;have rl:=h.rl;have hr:∀x:Event,an (ev.length+[x].length)=true:=λ x=>aH (by simp;omega);have n64:((6:Int)=4)=False:=by simp
 have n65:((6:Int)=5)=False:=by simp
 unfold ap xY doM;rw[aus (show(6:Int)=4\/(6:Int)=5\/(6:Int)=6 by omega)];unfold C4;simp only[ez,auE,Bn (show w.anF.length<=1048576 by omega),n64,n65,auz,auA,auD,auy,if_false];rcases tf (inB wo 0 ((w.anF.length:Int) - 1)) with e0|e0
 ·have hw:=ah.1 e0;have hb:inb wo w.anF.length=true:=et hw.1 (by omega);have hwl:wo.toNat<w.anF.length:=by omega
  have hp:=BK h (i:=wo.toNat) (by omega);obtain⟨p1,p2,p3,p4,p5⟩:=BN hp;simp only[e0,auG,auD,hb,auy,TL,Bn (show(pA w.anF wo.toNat).data.size<=1048576 by omega),avZ,akr,amq hwl];rcases tf (pA w.anF wo.toNat).sp with e1|e1<;>simp only[e1,auG,auH,auD,auy,auN,auL]
  ·rfl
  ·rcases tf (inB mix 0 (((pA w.anF wo.toNat).data.size:Int) - 1)) with e2|e2<;>simp only[e2,auG,auH,auD,auy,auN,auL]
   ·rcases tf (inB kp 1 255) with e3|e3<;>simp only[e3,auG,auH,auD,auy]
    ·have hm:=ah.1 e2;have hmb:inb mix (aL (pA w.anF wo.toNat).data).length=true:=et hm.1 (by rw[aj1];omega);rw[aus (aH (by omega)),aus hmb,aus hmb,aus (hr _)];rfl
    ·rfl
   ·rfl
 ·simp only[e0,auH,auD,auy];rfl
def ZT{w:anI}(h:anV w){r:List Int×Int×auC}{ev:List Event}(hev:ev.length<=1048576){e:Event}(hk:e.ki=9\/e.ki=10):
  ap ((r,tS w ev),tE e,())=some (((doM w e).2,()),((r,tS (xY w e) (FV ev e (doM w e).2)),())):=by
 obtain⟨ki,at_,fr,nu,wo,mix,kp,t',un,tx⟩:=e;have hk':ki=9\/ki=10:=hk;have ll:=h.ll;have hr:∀x:Event,an (ev.length+[x].length)=true:=λ x=>aH (by simp;omega);have m4:(ki=4)=False:=by simp;omega
 have m5:(ki=5)=False:=by simp;omega
 have m6:(ki=6)=False:=by simp;omega
 unfold ap xY doM;rw[aur (show ¬(ki=4\/ki=5\/ki=6) by omega),aus hk'];unfold Us;simp only[ez,auE,Bn (show w.anS.length<=1048576 by omega),m4,m5,m6,auA,auD];rcases tf (inB at_ 0 ((w.anS.length:Int) - 1)) with e0|e0
 ·have hw:=ah.1 e0;have hb:inb at_ w.anS.length=true:=et hw.1 (by omega);simp only[e0,auG,auD,hb,auy,abE,auN,hr];rcases hk' with rfl|rfl
  ·simp only[auz,auy];rcases tfp (bA w.anS at_.toNat=true) with e1|e1<;>simp only[e1,auz,auA,auG,auH,auy,auD]<;>rfl
  ·have n9:((10:Int)=9)=False:=by simp
   simp only[n9,auz,auA,auy,auD];rcases tfp (bA w.anS at_.toNat=false) with e1|e1<;>simp only[e1,auz,auA,auG,auH,auy,auD]<;>rfl
 ·simp only[e0,auH,auD,auy,auL];rcases hk' with rfl|rfl
  ·simp only[auz,auy];rfl
  ·have n9:((10:Int)=9)=False:=by simp
   simp only[n9,auz,auA,auy,auD];rfl
def U3{n:Int}(h:isN n=true):n.toNat<4:=by have:=jv h;omega
def af5{w:anI}(h:anV w){r:List Int×Int×auC}{ev:List Event}(hev:ev.length<=1048576){e:Event}(hk:¬(e.ki=4\/e.ki=5\/e.ki=6))(hk':¬(e.ki=9\/e.ki=10))(ht:e.tx.size<=1048576):
  ap ((r,tS w ev),tE e,())=some (((doM w e).2,()),((r,tS (xY w e) (FV ev e (doM w e).2)),())):=by
 obtain⟨ki,at_,fr,nu,wo,mix,kp,t',un,tx⟩:=e;simp only at hk hk' ht;have hr:∀x:Event,an (ev.length+[x].length)=true:=λ x=>aH (by simp;omega);have hn:∀(l:List anz) (x:anz),l.length<=6->an (l.length+[x].length)=true:=λ l x hl=>aH (by simp;omega);have m4:(ki=4)=False:=by simp;omega
 have m5:(ki=5)=False:=by simp;omega
 have m6:(ki=6)=False:=by simp;omega
 have m9:(ki=9)=False:=by simp;omega
 have m10:(ki=10)=False:=by simp;omega
 unfold ap xY doM;rw[aur hk,aur hk'];simp only[dG,auE,m4,m5,m6,m9,m10,auA,auD];rcases tf (isN at_) with e0|e0
 ·have ha:=jv e0;have hal:=U3 e0;have hb:inb at_ w.anC.length=true:=et ha.1 (by rw[h.kl];omega);have hko:=(h.k _ hal).1;have hks:=aeW h hal;simp only[e0,auG,auD,hb,auy,Kd];unfold Dg;rcases tfp (ki=1) with e1|e1
  ·simp only[e1,auz,auy];unfold agt;by_cases hs:6<=w.aoF.length
   ·rw[aus (by simp;omega),aus hs];rfl
   ·rw[aur (by simp;omega),aur hs];rw[show jN ((_,_,_,_,_,()),_,_,_,())=_ from Oi hko t' un ht];simp only[auE];rcases tfp ((vG (kA w.anC at_.toNat) t' un tx).2=0) with e2|e2<;>simp only[e2,auz,auA,auD,auy,if_false]
    ·rfl
    ·rw[aus (hn _ _ h.sl),aus (hr _)];rfl
  ·simp only[e1,auA,auD,if_false];rcases tfp (ki=2) with e2|e2
   ·simp only[e2,auz,auy];rw[show iC ((_,_,_,_,_,()),())=_ from LN hko];simp only[auE];rcases tf (fY (kA w.anC at_.toNat)).2 with e3|e3<;>simp only[e3,auy,auD]
    ·rw[aus (hr _)];rfl
    ·rfl
   ·simp only[e2,auA,auD,if_false];rcases tfp (ki=3) with e3|e3
    ·simp only[e3,auz,auy];rw[show dk ((_,_,_,_,_,()),_,_,_,())=_ from uq hks fr nu mix];simp only[auE];rw[aus hko];rcases tf (uw (kA w.anC at_.toNat) fr nu mix).2 with e4|e4<;>simp only[e4,auy,auD]
     ·rw[show aR (_,_,())=_ from xM (ra:=w.anF) (fs:=[(uw (kA w.anC at_.toNat) fr nu mix).1]) (by simp)];simp only[auE];rw[aus (hr _)];rfl
     ·rfl
    ·simp only[e3,auA,auD,if_false];rcases tfp (ki=7) with e4|e4
     ·simp only[e4,auz,auy];rw[show fB ((_,_,_,_,_,()),_,())=_ from zA hks kp];simp only[auE];rw[aus hko];rcases tf (kA w.anC at_.toNat).up with e5|e5<;>simp only[e5,auy,auD]
      ·rw[aus (hr _)];rfl
      ·rfl
     ·simp only[e4,auA,auD,if_false];rcases tfp (ki=8) with e5|e5
      ·simp only[e5,auz,auy];rw[show iD ((_,_,_,_,_,()),())=_ from LO hko];simp only[auE];rcases tf (kA w.anC at_.toNat).up with e6|e6<;>simp only[e6,auG,auH,auy,auD]
       ·rfl
       ·rw[aus (hr _)];rfl
      ·simp only[e5,auA,auD,if_false];rcases tfp (ki=11) with e6|e6
       ·simp only[e6,auz,auy];unfold ahd;rw[show jO ((_,_,_,_,_,()),_,_,())=_ from Oj hko fr nu];simp only[auE];rcases tf (zg (kA w.anC at_.toNat) fr nu).2.2 with e7|e7<;>simp only[e7,auy,auD,auN,auL]
        ·by_cases hs:w.got.length<6
         ·rw[aus (aut (show(w.got.length:Int)<6 by omega)),aus (aut hs),aus (hn _ _ h.gl),aus (hr _)];rfl
         ·rw[aur (nd (show ¬(w.got.length:Int)<6 by omega)),aur (nd hs)];rfl
        ·rfl
       ·simp only[e6,auA,auD,if_false];rcases tfp (ki=12) with e7|e7
        ·simp only[e7,auz,auy];rw[show iE ((_,_,_,_,_,()),())=_ from LP hko];simp only[auE];rcases tf (nc (kA w.anC at_.toNat)).2 with e8|e8<;>simp only[e8,auy,auD]
         ·rw[aus (hr _)];rfl
         ·rfl
        ·simp only[e7,auA,auD,if_false];rcases tfp (ki=13) with e8|e8
         ·simp only[e8,auz,auy];rw[show gN ((_,_,_,_,_,()),())=_ from J7 hko];simp only[auE];rcases tf (mb (kA w.anC at_.toNat)).2 with e9|e9<;>simp only[e9,auy,auD]
          ·rw[aus (hr _)];rfl
          ·rfl
         ·simp only[e8,auA,auD,if_false];rfl
 ·simp only[e0,auH,auD,auy];rfl
def af4{w:anI}(h:anV w){r:List Int×Int×auC}{ev:List Event}(hev:ev.length<=1048576){e:Event}(ht:e.tx.size<=1048576):
  ap ((r,tS w ev),tE e,())=some (((doM w e).2,()),((r,tS (xY w e) (FV ev e (doM w e).2)),())):=by
 by_cases h4:e.ki=4
 ·exact af8 h hev h4
 ·by_cases h5:e.ki=5
  ·exact af7 h hev h5
  ·by_cases h6:e.ki=6
   ·exact af6 h hev h6
   ·by_cases h9:e.ki=9\/e.ki=10
    ·exact ZT h hev h9
    ·exact af5 h hev (by omega) h9 ht
def Te(k:anv)(r:auB)(f:Bool):(wrR k r f).1.id=k.id:=by
 unfold wrR;split
 ·rfl
 ·cases f<;>rfl
def Vg{k:anv}(h:ae k=true)(f:Frame):(aJ k f).1.id=k.id:=by
 unfold aJ;rw[aus h];unfold mH;split
 ·split
  ·unfold iX;split
   ·rfl
   ·split
    ·rfl
    ·split
     ·rfl
     ·unfold AI;split
      ·split
       ·unfold lX;split
        ·exact Te _ _ _
        ·rfl
       ·rfl
      ·rfl
  ·split
   ·exact Te _ _ _
   ·rfl
 ·rfl
def abh(k:anv):(fY k).1.id=k.id:=by
 unfold fY;split
 ·exact Te _ _ _
 ·rfl
def akD(k:anv)(tt un:Int)(tx:auB):(vG k tt un tx).1.id=k.id:=by
 unfold vG;split
 ·exact Te _ _ _
 ·rfl
def alp(k:anv)(fr nu:Int):(zg k fr nu).1.id=k.id:=by
 unfold zg;split
 ·exact Te _ _ _
 ·rfl
def aiy(k:anv):(nc k).1.id=k.id:=by unfold nc;split<;>rfl
def ag4(k:anv):(mb k).1.id=k.id:=by unfold mb;split<;>rfl
def ajv(k:anv)(n:Int):(faM k n).id=k.id:=by unfold faM;rfl
def aml(k:anv):(riM k).id=k.id:=rfl
def aim{k:anv}(h:ae k=true):ae (riM k)=true:=(ain (ib h)).ok
def adQ{l:List anv}{i j:Nat}(hi:i<l.length)(k:anv):kA (l.set i k) j=if j=i then k else kA l j:=by
 unfold kA;simp only[auQ,ax6];by_cases h:j=i
 ·subst h;simp[hi]
 ·have h':¬i=j:=λ e=>h e.symm;simp[h,h']
def anV.put{w:anI}(h:anV w){i:Nat}(hi:i<4){k:anv}(hk:ae k=true)(hid:k.id=(kA w.anC i).id)(ra:List anB)(se go:List anz)
  (rl:ra.length<=30)(sl:se.length<=6)(gl:go.length<=6)(p:∀p∈ra,FR p=true)(s:∀n∈se,ay n=true)(g:∀n∈go,ay n=true):
  anV ⟨w.ti,w.anC.set i k,w.anS,ra,se,go⟩:=by
 refine⟨by rw[avZ];exact h.kl,h.ll,rl,sl,gl,λ j hj=> ?_,p,s,g⟩;show ae (kA (w.anC.set i k) j)=true/\(kA (w.anC.set i k) j).id=(j:Int);rw[adQ (by rw[h.kl];exact hi)];split
 ·rename_i e;rw[e,hid];exact⟨hk,(h.k i hi).2⟩
 ·exact h.k j hj
def anV.apl{w:anI}(h:anV w){i:Nat}(hi:i<4){k:anv}(hk:ae k=true)(hid:k.id=(kA w.anC i).id):anV (apl w i k):=
 h.put hi hk hid w.anF w.aoF w.got h.rl h.sl h.gl h.p h.s h.g
def anV.ra{w:anI}(h:anV w){ra:List anB}(rl:ra.length<=30)(p:∀p∈ra,FR p=true):anV ⟨w.ti,w.anC,w.anS,ra,w.aoF,w.got⟩:=
 ⟨h.kl,h.ll,rl,h.sl,h.gl,h.k,p,h.s,h.g⟩
def anV.ti{w:anI}(h:anV w)(n:Int):anV ⟨n,w.anC,w.anS,w.anF,w.aoF,w.got⟩:=⟨h.kl,h.ll,h.rl,h.sl,h.gl,h.k,h.p,h.s,h.g⟩
def S4{w:anI}(h:anV w)(i:Nat):(Mp w.anF i).length<=30/\ ∀p∈Mp w.anF i,FR p=true:=by
 have:=h.rl;refine⟨by unfold Mp;simp;omega,λ p hp=>h.p p ?_⟩;rcases auX.1 hp with h1|h1
 ·exact av6 h1
 ·exact awA h1
def aht{w:anI}(h:anV w){p:anB}(hp:FR p=true){ra:List anB}(rl:ra.length<=30)(hra:∀p∈ra,FR p=true):anV (Qk w p ra):=by
 unfold Qk;obtain⟨_,p2,_⟩:=BN hp;split
 ·have hi:p.dst.toNat<4:=by omega
  exact h.put hi (vW (h.k _ hi).1 _) (Vg (h.k _ hi).1 _) _ _ _ (abw rl) h.sl h.gl (aeI hra (uD _ _).2) h.s h.g
 ·exact h.ra rl hra
def afU{p:anB}(hp:FR p=true)(mix kp:Int):FR (JU p mix kp)=true:=by
 unfold FR JU at *;simpa[BI,aj1] using hp
def agi{w:anI}(h:anV w)(e:Event):anV (C4 w e).1:=by
 unfold C4;split
 ·rename_i h0;have h0:=ah.1 h0;have hlt:e.wo.toNat<w.anF.length:=by omega
  have hp:=BK h hlt;split
  ·split
   ·refine h.ra (by rw[avZ];exact h.rl) λ p hp'=> ?_;rcases awV hp' with h1|h1
    ·exact h.p p h1
    ·rw[h1];exact afU hp _ _
   ·exact h
  ·split
   ·exact h.ra (S4 h _).1 (S4 h _).2
   ·split
    ·refine aht h hp ?_ ?_<;>split
     ·exact(S4 h _).1
     ·exact h.rl
     ·exact(S4 h _).2
     ·exact h.p
    ·exact h
 ·exact h
def ai0{w:anI}(h:anV w)(e:Event):anV (Us w e).1:=by
 unfold Us;split
 ·exact⟨h.kl,by show(w.anS.set _ _).length=3;rw[avZ];exact h.ll,h.rl,h.sl,h.gl,h.k,h.p,h.s,h.g⟩
 ·exact h
def ags{k:anv}{tt un:Int}{tx:auB}(h:(vG k tt un tx).2≠0):ay ⟨k.id,(vG k tt un tx).2,tt,un,tx⟩=true:=by
 unfold vG at h ⊢;split
 ·rename_i hc;rw[aus hc]at h;simp only[auF]at hc;simp only at h ⊢;split
  ·exact hc.2
  ·rename_i h1;rw[aur h1]at h;exact absurd rfl h
 ·rename_i hc;rw[aur hc]at h;exact absurd rfl h
def ahc{k:anv}(hk:ae k=true){fr nu:Int}(h:(zg k fr nu).2.2=true):ay (zg k fr nu).2.1=true:=by
 unfold zg at h ⊢;split
 ·rename_i hc;rw[aus hc]at h;simp only at h ⊢;rw[aus h];simp only[auF,avw,decide_eq_false_iff_not]at hc;exact dr (bN (ib hk).kok).i (jt (axD.1 hc.2)).1
 ·rename_i hc;rw[aur hc]at h;cases h
def Mk{α:Type}{l:List α}{P:α->Prop}{a:α}(h:∀x∈l,P x)(ha:P a):∀x∈l++[a],P x:=by
 intro x hx;rcases auX.1 hx with h1|h1
 ·exact h x h1
 ·rw[avh.1 h1];exact ha
def adO{w:anI}(h:anV w)(e:Event)(ha:isN e.at_=true):anV (Dg w e (kA w.anC e.at_.toNat)).1:=by
 have hi:=U3 ha;have hr:=jv ha;obtain⟨hk,hid⟩:=h.k _ hi;unfold Dg;split
 ·unfold agt;split
  ·exact h
  ·split
   ·exact h
   ·rename_i h1 h2;refine h.put hi (akC hk _ _ _) (akD _ _ _ _) _ _ _ h.rl (by simp;omega) h.gl h.p (Mk h.s ?_) h.g;have:=ags h2;rw[hid,azj hr.1]at this;exact this
 ·split
  ·exact h.apl hi (abg hk) (abh _)
  ·split
   ·split
    ·rename_i h1;exact h.ra (abw h.rl) (aeI h.p λ f hf=>by rw[avh.1 hf];exact aiS hk h1)
    ·exact h
   ·split
    ·exact h.apl hi (aaH hk _) (ajv _ _)
    ·split
     ·exact h.apl hi (aim hk) (aml _)
     ·split
      ·unfold ahd;split
       ·rename_i h1;simp only[auF,decide_eq_true_eq]at h1;exact h.put hi (alo hk _ _) (alp _ _ _) _ _ _ h.rl h.sl (by simp;omega) h.p h.s (Mk h.g (ahc hk h1.1))
       ·exact h
      ·split
       ·exact h.apl hi (aix hk) (aiy _)
       ·split
        ·exact h.apl hi (ag3 hk) (ag4 _)
        ·exact h
def amR{w:anI}(h:anV w)(e:Event):anV (doM w e).1:=by
 unfold doM;split
 ·exact agi h e
 ·split
  ·exact ai0 h e
  ·split
   ·rename_i h1;exact adO h e h1
   ·exact h
def akg{w:anI}(h:anV w)(b:Bool):anV (afE w b):=by
 unfold afE;split
 ·exact h.ti _
 ·exact h
def akp{w:anI}(h:anV w)(e:Event):anV (xY w e):=akg (amR h e) _
def kp0(i:Int):anv:=⟨i,true,noB,0,[]⟩
def rv0:anI:=⟨0,[kp0 0,kp0 1,kp0 2,kp0 3],[true,true,true],[],[],[]⟩
def aas{i:Int}(h:isN i=true):ae (kp0 i)=true:=by
 refine vO (k:=kp0 i) (rs:=[]) (ts:=[]) h ⟨?_,(show noB.size<=2400 by decide),by rfl,by rfl⟩ (show 0<=3 by decide) (.inl rfl) ?_ (λ i hi=>absurd hi (axX _))
 ·intro r hr;cases hr
 ·unfold de;rw[aus (show isN (kp0 i).id=true from h)];rfl
def aik{i:Nat}(hi:i<4):kA rv0.anC i=kp0 i:=by
 have:i=0\/i=1\/i=2\/i=3:=by omega
 rcases this with rfl|rfl|rfl|rfl<;>rfl
def akV{i:Nat}(hi:i<4):isN (i:Int)=true:=ah.2 ⟨by omega,by omega⟩
def amk:anV rv0:=by
 refine⟨rfl,rfl,by decide,by decide,by decide,λ i hi=> ?_,(λ p hp=>by cases hp),(λ p hp=>by cases hp),(λ p hp=>by cases hp)⟩;rw[aik hi];exact⟨aas (akV hi),rfl⟩
def ael(k:anv):Prop:=k.up=false->k.fo=(k.log.size:Int)
def Tc(k:anv)(r:auB)(f:Bool):(wrR k r f).1.up=k.up:=by
 unfold wrR;split
 ·rfl
 ·cases f<;>rfl
def ak1{k:anv}(h:ae k=true)(f:Frame):(aJ k f).1.up=k.up:=by
 unfold aJ;rw[aus h];unfold mH;split
 ·split
  ·unfold iX;split
   ·rfl
   ·split
    ·rfl
    ·split
     ·rfl
     ·unfold AI;split
      ·split
       ·unfold lX;split
        ·exact Tc _ _ _
        ·rfl
       ·rfl
      ·rfl
  ·split
   ·exact Tc _ _ _
   ·rfl
 ·rfl
def agT{k:anv}(ok:ae k=true)(h:k.up=false)(f:Frame):aJ k f=(k,[]):=by
 unfold aJ;rw[aus ok];unfold mH;rw[h,auL,auD]
def aiz{k:anv}(h:k.up=false)(tt un:Int)(tx:auB):vG k tt un tx=(k,0):=by
 unfold vG;rw[h,auL,auD]
def ajB{k:anv}(h:k.up=false)(a b:Int):zg k a b=(k,zN,false):=by
 unfold zg;rw[h,auL,auD]
def afD{k:anv}(h:k.up=false):fY k=(k,false):=by
 unfold fY;rw[h,auD]
def ago{k:anv}(h:k.up=false):nc k=(k,false):=by
 unfold nc;rw[h,auD]
def ad6{k:anv}(h:k.up=false):mb k=(k,false):=by
 unfold mb;rw[h,auL,auD]
def ams(k:anv)(tt un:Int)(tx:auB):(vG k tt un tx).1.up=k.up:=by
 unfold vG;split
 ·exact Tc _ _ _
 ·rfl
def amK(k:anv)(a b:Int):(zg k a b).1.up=k.up:=by
 unfold zg;split
 ·exact Tc _ _ _
 ·rfl
def aeC(k:anv):(fY k).1.up=k.up:=by
 unfold fY;split
 ·exact Tc _ _ _
 ·rfl
def akA(k:anv):(nc k).1.up=k.up:=by unfold nc;split<;>rfl
def ajn(k:anv):(mb k).1.up=k.up:=by unfold mb;split<;>rfl
def HV{k k':anv}(h:ael k)(hu:k'.up=k.up)(hd:k.up=false->k'=k):ael k':=λ e=>by
 rw[hu]at e;rw[hd e];exact h e
def alf(k:anv)(n:Int):ael (faM k n):=by
 intro _;unfold faM;simp only;have h:=(qe (k.log.extract 0 (k.fo+max 0 (min n ((k.log.size:Int) - k.fo))).toNat)).1;rw[@axd];omega
def ajw{k:anv}(ok:ae k=true)(h:k.up=false)(d:ael k)(n:Int):faM k n=k:=by
 obtain⟨_,h2,h3⟩:=Vp (ib ok) (d h) n;have h4:=acD ok h;have:faM k n=⟨(faM k n).id,(faM k n).up,(faM k n).log,(faM k n).fo,(faM k n).anw⟩:=rfl;rw[this,h2,h3,ajv,show(faM k n).up=k.up from by rw[h];rfl,show(faM k n).anw=k.anw from by rw[h4];rfl]
def akv{k:anv}(h:k.up=true):riM k=k:=by
 unfold riM;rw[← h]
def amj{l:List anv}{i:Nat}:l.set i (kA l i)=l:=by
 apply ayE;intro j;rw[ax6];by_cases h:i=j
 ·subst h;by_cases h1:i<l.length
  ·rw[aus rfl,aus h1,kA,auQ,auO h1];rfl
  ·rw[aus rfl,aur h1,awa (by omega)]
 ·rw[aur h]
def BM{w:anI}{i:Nat}{k:anv}(h:k=kA w.anC i):apl w i k=w:=by
 subst h;unfold apl;rw[amj]
structure aqL (w:anI):Prop where
 d:∀i,i<4->ael (kA w.anC i)
def amQ{w:anI}(h:anV w)(hd:aqL w){e:Event}(ho:(doM w e).2=false):(doM w e).1=w:=by
 unfold doM at ho ⊢;split
 ·rename_i h1;rw[aus h1]at ho;unfold C4 at ho ⊢;split
  ·rename_i h2;rw[aus h2]at ho;split
   ·rename_i h3;rw[aus h3]at ho;split
    ·rename_i h4;rw[aus h4]at ho;cases ho
    ·rfl
   ·rename_i h3;rw[aur h3]at ho;split
    ·rename_i h4;rw[aus h4]at ho;cases ho
    ·rename_i h4;rw[aur h4]at ho;split
     ·rename_i h5;rw[aus h5]at ho;cases ho
     ·rfl
  ·rfl
 ·rename_i h1;rw[aur h1]at ho;split
  ·rename_i h2;rw[aus h2]at ho;unfold Us at ho ⊢;split
   ·rename_i h3;rw[aus h3]at ho;cases ho
   ·rfl
  ·rename_i h2;rw[aur h2]at ho;split
   ·rename_i h3;rw[aus h3]at ho;have hi:=U3 h3;obtain⟨ok,_⟩:=h.k _ hi;have hdk:=hd.d _ hi;unfold Dg at ho ⊢;split
    ·rename_i c;rw[aus c]at ho;unfold agt at ho ⊢;split
     ·rfl
     ·rename_i c1;rw[aur c1]at ho;split
      ·rfl
      ·rename_i c2;rw[aur c2]at ho;cases ho
    ·rename_i c;rw[aur c]at ho;split
     ·rename_i c;rw[aus c]at ho;refine BM ?_;unfold fY at ho ⊢;split
      ·rename_i c1;rw[aus c1]at ho;exact Hv ho
      ·rfl
     ·rename_i c;rw[aur c]at ho;split
      ·rename_i c;rw[aus c]at ho;split
       ·rename_i c1;rw[aus c1]at ho;cases ho
       ·rfl
      ·rename_i c;rw[aur c]at ho;split
       ·rename_i c;rw[aus c]at ho;exact BM (ajw ok ho hdk _)
       ·rename_i c;rw[aur c]at ho;split
        ·rename_i c;rw[aus c]at ho;exact BM (akv (by simpa using ho))
        ·rename_i c;rw[aur c]at ho;split
         ·rename_i c;rw[aus c]at ho;unfold ahd at ho ⊢;split
          ·rename_i c1;rw[aus c1]at ho;cases ho
          ·rfl
         ·rename_i c;rw[aur c]at ho;split
          ·rename_i c;rw[aus c]at ho;refine BM ?_;unfold nc at ho ⊢;split
           ·rename_i c1;rw[aus c1]at ho;cases ho
           ·rfl
          ·rename_i c;rw[aur c]at ho;split
           ·rename_i c;rw[aus c]at ho;refine BM ?_;unfold mb at ho ⊢;split
            ·rename_i c1;rw[aus c1]at ho;cases ho
            ·rfl
           ·rfl
   ·rfl
inductive KMv (k:anv):anv->Prop
 | as5 (f:Frame):KMv k (aJ k f).1
 | own (tt un:Int) (tx:auB):KMv k (vG k tt un tx).1
 | time:KMv k (fY k).1
 | eat (a b:Int):KMv k (zg k a b).1
 | arH (n:Int):KMv k (faM k n)
 | asK:KMv k (riM k)
 | pack:KMv k (nc k).1
 | force:KMv k (mb k).1
def anf{w:anI}(h:anV w)(e:Event):(doM w e).1.anC=w.anC\/ ∃i k',i<4/\KMv (kA w.anC i) k'/\(doM w e).1.anC=w.anC.set i k':=by
 unfold doM;split
 ·unfold C4;split
  ·rename_i h2;split
   ·split
    ·exact .inl rfl
    ·exact .inl rfl
   ·split
    ·exact .inl rfl
    ·split
     ·unfold Qk;split
      ·refine .inr ⟨_,_, ?_,.as5 _,rfl⟩;have:=ah.1 h2;have:=BN (BK h (i:=e.wo.toNat) (by omega));omega
      ·exact .inl rfl
     ·exact .inl rfl
  ·exact .inl rfl
 ·split
  ·unfold Us;split
   ·exact .inl rfl
   ·exact .inl rfl
  ·split
   ·rename_i h3;have hi:=U3 h3;unfold Dg;split
    ·unfold agt;split
     ·exact .inl rfl
     ·split
      ·exact .inl rfl
      ·exact .inr ⟨_,_,hi,.own _ _ _,rfl⟩
    ·split
     ·exact .inr ⟨_,_,hi,.time,rfl⟩
     ·split
      ·split
       ·exact .inl rfl
       ·exact .inl rfl
      ·split
       ·exact .inr ⟨_,_,hi,.arH _,rfl⟩
       ·split
        ·exact .inr ⟨_,_,hi,.asK,rfl⟩
        ·split
         ·unfold ahd;split
          ·exact .inr ⟨_,_,hi,.eat _ _,rfl⟩
          ·exact .inl rfl
         ·split
          ·exact .inr ⟨_,_,hi,.pack,rfl⟩
          ·split
           ·exact .inr ⟨_,_,hi,.force,rfl⟩
           ·exact .inl rfl
   ·exact .inl rfl
def amh{w:anI}(h:anV w)(e:Event):(xY w e).anC=w.anC\/ ∃i k',i<4/\KMv (kA w.anC i) k'/\(xY w e).anC=w.anC.set i k':=by
 have:=anf h e;unfold xY afE;split<;>exact this
def ako{P:anv->Prop}(hP:∀k k',ae k=true->P k->KMv k k'->P k'){w:anI}(h:anV w)(hw:∀i,i<4->P (kA w.anC i))(e:Event):∀i,i<4->P (kA (xY w e).anC i):=by
 intro i hi;rcases amh h e with e1|⟨j,k',hj,m,e1⟩
 ·rw[e1];exact hw i hi
 ·rw[e1,adQ (by rw[h.kl];exact hj)];split
  ·exact hP _ _ (h.k j hj).1 (hw j hj) m
  ·exact hw i hi
def KMv.dur{k k':anv}(ok:ae k=true)(h:ael k)(m:KMv k k'):ael k':=by
 cases m with
 | as5 f=>exact HV h (ak1 ok f) λ e=>by rw[agT ok e]
 | own a b c=>exact HV h (ams _ _ _ _) λ e=>by rw[aiz e]
 | time=>exact HV h (aeC _) λ e=>by rw[afD e]
 | eat a b=>exact HV h (amK _ _ _) λ e=>by rw[ajB e]
 | arH n=>exact alf _ _
 | asK=>intro e;cases e
 | pack=>exact HV h (akA _) λ e=>by rw[ago e]
 | force=>exact HV h (ajn _) λ e=>by rw[ad6 e]
def aqL.sim{w:anI}(hd:aqL w)(h:anV w)(e:Event):aqL (xY w e):=⟨ako (λ _ _ ok d m=>m.dur ok d) h hd.d e⟩
inductive Reach:List Event->anI->Prop
 | nil:Reach [] rv0
 | snoc {ev:List Event} {w:anI} {e:Event} :Reach ev w->(doM w e).2=true->e.tx.size<=1048576->Reach (ev++[e]) (xY w e)
def Reach.both{ev:List Event}{w:anI}(h:Reach ev w):anV w/\aqL w:=by
 induction h with
 | nil=>exact⟨amk,⟨λ i hi e=>by rw[aik hi]at e;cases e⟩⟩
 | snoc _ _ _ ih=>exact⟨akp ih.1 _,ih.2.sim ih.1 _⟩
def Reach.ok{ev:List Event}{w:anI}(h:Reach ev w):anV w:=h.both.1
def Reach.dur{ev:List Event}{w:anI}(h:Reach ev w):aqL w:=h.both.2
def Reach.step{ev:List Event}{w:anI}(h:Reach ev w){e:Event}(ht:e.tx.size<=1048576):Reach (FV ev e (doM w e).2) (xY w e):=by
 unfold FV;rcases tf (doM w e).2 with c|c
 ·rw[c,aus rfl];exact h.snoc c ht
 ·have:=amQ h.ok h.dur c;rw[c,auD];unfold xY afE;rw[c,auD,this];exact h
def Reach.ind{P:anI->Prop}(h0:P rv0)(hs:∀w e,anV w->aqL w->P w->(doM w e).2=true->P (xY w e)){ev:List Event}{w:anI}(h:Reach ev w):P w:=by
 induction h with
 | nil=>exact h0
 | snoc h1 h2 _ ih=>exact hs _ _ h1.ok h1.dur ih h2
def wb{l:List Int}(h:BOk l):aL (eS l)=l:=by
 unfold aL eS;simp only[awK]
 conv=>rhs;rw[← azu l]
 refine av0 λ n hn=> ?_;have:=h n hn;simp only[Function.comp,id];rw[UInt8.toNat_ofNat'];omega
def ah5{a b:List Int}(ha:BOk a)(hb:BOk b)(h:eS a=eS b):a=b:=by
 rw[← wb ha,h,wb hb]
def FU(f:Frame):BOk (gO f):=by
 unfold gO;split
 ·exact BOk.app (WL f) (.cons _ (.cons _ .nil))
 ·exact .nil
def zi{n:Int}(h0:0<=n)(h1:n<=255):w8 n=n:=by
 rw[Qs];omega
def Tl{n:Int}(h0:0<=n)(h1:n<=65535):256 * w8 (w64 (au6 n 256))+w8 (avq n 256)=n:=by
 rw[Qs,Qs,avx h0,awj h0,ai (by omega) (by omega)];omega
def alc{s:auB}(h:s.size=4):∃a b c d,s=B [a,b,c,d]:=by
 have h':(L s).length=4:=h;rcases hl:L s with _|⟨a,_|⟨b,_|⟨c,_|⟨d,_|⟨e,l⟩⟩⟩⟩⟩<;>rw[hl]at h'<;>simp at h';exact⟨a,b,c,d,qR (by rw[L_B,hl])⟩
def acq{a1 a2 a3 a4 a5 a6 a7 a8 a9 b1 b2 b3 b4 b5 b6 b7 b8 b9:Int}{s t:auB}(h1:a1=b1)(h2:a2=b2)(h3:a3=b3)(h4:a4=b4)(h5:a5=b5)(h6:a6=b6)(h7:a7=b7)(h8:a8=b8)(h9:a9=b9)(h:s=t):
  (⟨a1,a2,a3,a4,a5,a6,a7,a8,a9,s⟩:Frame)=⟨b1,b2,b3,b4,b5,b6,b7,b8,b9,t⟩:=by
 subst h1 h2 h3 h4 h5 h6 h7 h8 h9 h;rfl
def abb{f:Frame}(h:km f=true):dj (gO f)=(f,true):=by
 have hr:=th h;have r1:=ah.1 hr.1;have r2:=ah.1 hr.2.1;have r3:=ah.1 hr.2.2.1;have r4:=ah.1 hr.2.2.2.1;have r5:=ah.1 hr.2.2.2.2.1;have r6:=ah.1 hr.2.2.2.2.2.1;have r7:=hr.2.2.2.2.2.2;have aq6:BJ (gO f)=f/\((gO f).length=10\/(gO f).length=17):=by
  obtain⟨ki,src,dst,fr,nu,t',un,sz,mix,da⟩:=f;simp only at r1 r2 r3 r4 r5 r6 r7;unfold gO;rw[aus h];unfold yy at r7;by_cases hk:ki=1
  ·subst hk;simp only[auz,auy,auF,decide_eq_true_eq]at r7;obtain⟨q1,q2,q3,q4⟩:=r7;have q1:=ah.1 q1;have q2:=ah.1 q2;obtain⟨a,b,c,d,rfl⟩:=alc (s:=da) (by omega);unfold wc;simp only[auz,auy];have hb:aL (B [a,b,c,d])=[(a.toNat:Int),b.toNat,c.toNat,d.toNat]:=rfl;rw[hb];refine⟨?_,.inr rfl⟩;have e1:=Tl (n:=un) (by omega) (by omega);have e2:=Tl (n:=mix) (by omega) (by omega);unfold BJ;rw[aus (by rfl)];have g1:=zi (n:=src) (by omega) (by omega);have g2:=zi (n:=dst) (by omega) (by omega);have g3:=zi (n:=fr) (by omega) (by omega);have g4:=zi (n:=nu) (by omega) (by omega);have g5:=zi (n:=t') (by omega) (by omega);have g6:=zi (n:=sz) (by omega) (by omega);have g7:=Lu [a,b,c,d];exact acq rfl g1 g2 g3 g4 g5 e1 g6 e2 g7
  ·rw[aur (by simpa using hk)]at r7;simp only[auF,avo,decide_eq_true_eq]at r7;obtain⟨q0,q1,q2,q3,q4⟩:=r7;unfold wc;simp only[auu hk,auD];refine⟨?_,.inl rfl⟩;have e1:=Tl (n:=un) (by omega) (by omega);unfold BJ;rw[aur (by simp)];have g0:=zi (n:=ki) (by omega) (by omega);have g1:=zi (n:=src) (by omega) (by omega);have g2:=zi (n:=dst) (by omega) (by omega);have g3:=zi (n:=fr) (by omega) (by omega);have g4:=zi (n:=nu) (by omega) (by omega);have g5:=zi (n:=t') (by omega) (by omega);exact acq g0 g1 g2 g3 g4 g5 e1 q1.symm q2.symm q3.symm
 unfold dj;rw[aq6.1,aus,aus (aut rfl)];rw[avo,decide_eq_true_eq,decide_eq_true_eq];have:=aq6.2;omega
def aa5:List Int->Nat->Int
 | [],_=>0
 | x::r,i=>x * ((i % 1000:Nat)+1)+aa5 r (i+1)
def Od:∀ {l:List Int} {i:Nat} {n:Int},BOk l->0<=n->n<65521->ER l i n=(n+aa5 l i) % 65521
 | [],i,n,_,h0,h1=>by
  unfold ER aa5;omega
 | x::r,i,n,hb,h0,h1=>by
  have hx:=hb x auM;have hp:0<=x * ((i % 1000:Nat)+1:Int):=ay5 hx.1 (by omega);unfold ER aa5;rw[awj (by omega),Od (λ y hy=>hb y (auJ x hy)) (by omega) (by omega)];omega
def aa4:∀ {l:List Int} {j i:Nat} {x:Int} (h:j<l.length),aa5 (l.set j x) i=aa5 l i+(x - l[j]) * (((i+j) % 1000:Nat)+1)
 | y::r,0,i,x,h=>by
  rw[List.set_cons_zero];unfold aa5;simp only[List.getElem_cons_zero,awR];rw[Int.sub_mul];omega
 | y::r,j+1,i,x,h=>by
  rw[List.set_cons_succ];unfold aa5;rw[aa4 (j:=j) (i:=i+1) (by simpa using h),List.getElem_cons_succ,show i+1+j=i+(j+1) by omega];omega
structure aps (b body:List Int):Prop where
 e:b=body++two (ER body 0 0)
 ok:BOk body
 len:body.length<=15
def ake{a b:Int}(h0:0<=a/\a<65521)(h1:0<=b/\b<65521)(h:two a=two b):a=b:=by
 have e1:=Tl (n:=a) (by omega) (by omega);have e2:=Tl (n:=b) (by omega) (by omega);unfold two at h;simp only[axx,and_true]at h;rw[← e1,← e2,h.1,h.2]
def ac9{b body apf:List Int}{j:Nat}{x:Int}(h:aps b body)(hj:j<b.length)(hx:x≠b[j])(hr:0<=x/\x<=255):¬aps (b.set j x) apf:=by
 intro h';have hlb:b.length=body.length+2:=by rw[h.e];simp
 have atX:(b.set j x).length=apf.length+2:=by rw[h'.e];simp
 rw[avZ]at atX;have hs:=Tp (i:=0) (n:=0) h.ok (by omega) (by omega);have hs':=Tp (i:=0) (n:=0) h'.ok (by omega) (by omega);have e:=h'.e;have hbl:body.length=apf.length:=by omega
 by_cases hlt:j<body.length
 ·have e1:(body.set j x)++two (ER body 0 0)=apf++two (ER apf 0 0):=by
   rw[← e,h.e,List.set_append_left _ _ hlt]
  obtain⟨e2,e3⟩:=List.append_inj e1 (by rw[avZ];exact hbl);have e4:=ake hs hs' e3;have hbj:b[j]=body[j]:=by simp only[h.e,List.getElem_append_left hlt]
  rw[← e2]at e4 h';rw[Od h.ok (by omega) (by omega),Od h'.ok (by omega) (by omega),aa4 hlt]at e4;have hb1:=h.ok body[j] (avm hlt);have hlen:=h.len;rw[hbj]at hx;have hm:((0+j) % 1000:Nat)=j:=by omega
  rw[hm]at e4;have hd:∃d:Int,d=(x - body[j]) * ((j:Int)+1):=⟨_,rfl⟩;obtain⟨d,hd⟩:=hd;rw[← hd]at e4;have h1:d≠0:=by
   rw[hd];exact Int.mul_ne_zero (by omega) (by omega)
  have h2:d<=255 * 15:=by
   rw[hd];have a1:(x - body[j]) * ((j:Int)+1)<=255 * ((j:Int)+1):=axC (by omega) (by omega);omega
  have h3: -(255 * 15)<=d:=by
   rw[hd];have a1:(-255) * ((j:Int)+1)<=(x - body[j]) * ((j:Int)+1):=axC (by omega) (by omega);omega
  omega
 ·have e1:body++(two (ER body 0 0)).set (j - body.length) x=apf++two (ER apf 0 0):=by
   rw[← e,h.e,ay6 _ _ (by omega)]
  obtain⟨e2,e3⟩:=List.append_inj e1 hbl;rw[← e2]at e3;have e4:b.set j x=b:=by
   rw[e,← e2];exact h.e.symm
  have:(b.set j x)[j]'(by rw[avZ];exact hj)=x:=List.getElem_set_self ..;rw[List.getElem_of_eq e4]at this;exact hx this.symm
def YI{f:Frame}(h:km f=true):aps (gO f) (wc f):=⟨by unfold gO;rw[aus h],WL f,Ql h⟩
def ac6{b:List Int}(hb:BOk b)(h:(dj b).2=true):aps b (wc (dj b).1):=by
 have ok:=CN h;have:gO (dj b).1=b:=by
  unfold dj at h ⊢;split
  ·rename_i h1;rw[aus h1]at h;split
   ·rename_i h2;exact ah5 (FU _) hb (auv h2)
   ·rename_i h2;rw[aur h2]at h;cases h
  ·rename_i h1;rw[aur h1]at h;cases h
 have hs:=YI ok;rw[this]at hs;exact hs
def al3{x k:Int}(hx:0<=x/\x<=255)(hk:1<=k/\k<=255):vQ .u8 x (w8 k)≠x/\0<=vQ .u8 x (w8 k)/\vQ .u8 x (w8 k)<=255:=by
 rw[zi (by omega) (by omega)];have e:vQ .u8 x k=w8 ((av5 8 x ^^^ av5 8 k).toNat:Int):=rfl;have hlt:=(av5 8 x ^^^ av5 8 k).isLt;rw[e,zi (by omega) (by omega)];refine⟨λ h=> ?_,by omega,by omega⟩;obtain⟨m,rfl⟩:=avL hx.1;obtain⟨n,rfl⟩:=avL (show 0<=k by omega);have e1:(av5 8 (m:Int) ^^^ av5 8 (n:Int))=av5 8 (m:Int):=by
  apply ay2;rw[axB];omega
 have e2:av5 8 (n:Int)=0#8:=by
  have:=congrArg (λ z=>av5 8 (m:Int) ^^^ z) e1;simpa[← BitVec.xor_assoc] using this
 have e3:=congrArg BitVec.toNat e2;rw[axB]at e3;simp at e3;omega
def adm{f:Frame}{p:anB}(hf:km f=true)(hd:p.data=eS (gO f)){mix kp:Int}(hm:inB mix 0 ((p.data.size:Int) - 1)=true)(hk:inB kp 1 255=true):(dj (aL (JU p mix kp).data)).2=false:=by
 have hm:=ah.1 hm;have hk:=ah.1 hk;rw[hd,BI]at hm;rcases tf (dj (aL (JU p mix kp).data)).2 with h|h
 ·exfalso;have hs:=ac6 (BOk.str _) h;unfold JU at hs;simp only at hs;rw[hd,wb (FU f)]at hs;have hlt:mix.toNat<(gO f).length:=by omega
  have hrd: @rd Int (dfl .u8) (gO f) mix=(gO f)[mix.toNat]:=by
   show(gO f).getD mix.toNat 0=_;rw[auQ,auO hlt];rfl
  rw[hrd]at hs;have hx:=FU f _ (avm hlt);have hne:=al3 hx hk;have hb:BOk ((gO f).set mix.toNat (vQ .u8 (gO f)[mix.toNat] (w8 kp))):=by
   intro y hy;rcases awV hy with h1|h1
   ·exact FU f y h1
   ·rw[h1];exact hne.2
  rw[wb hb]at hs;exact ac9 (YI hf) hlt hne.1 hne.2 hs
 ·exact h
def Vm{α β:Type}{f g:α->β->α}:∀ {l:List β} {a:α},(∀a,∀b∈l,f a b=g a b)->l.foldl f a=l.foldl g a
 | [],_,_=>rfl
 | x::l,a,h=>by
  rw[avC,avC,h a x auM];exact Vm λ a b hb=>h a b (auJ x hb)
def ac1(b:Nat)(bl:Nat->List UInt8)(kn:List auB):Prop:=∀k,k<b->bsA kn k=noB\/bsA kn k=B (bl k)
def agu{b:Nat}{bl:Nat->List UInt8}{kn kn':List auB}{m:anA}(hb:∀k,(bl k).length=4)(hm:wV m->m.da=B (rX 4 bl (aU (b:Int) m.nu)))
  (h:anX b kn)(ht:ac1 b bl kn)(e:rW b kn m=some kn'):ac1 b bl kn':=by
 unfold rW at e;split at e
 ·rename_i hc;rw[auF]at hc;have hda:=hm ⟨hc.1,auv hc.2⟩;split at e
  ·rename_i u hu;injection e with e;subst e;have aos:u∈eH kn (aU (b:Int) m.nu):=by rw[hu];exact avX u
   obtain⟨h1,h2⟩:=awd.1 aos;have h3:=jT h1;have hul:u<kn.length:=by rw[h.1];omega
   have hv:jQ kn (aU (b:Int) m.nu) (L m.da)=bl u:=by
    have hp:=aiv (n:=4) (bl:=bl) (p:=λ k=> !unk kn k) (ks:=aU (b:Int) m.nu) (u:=u) (λ k _=>hb k) (by
     have:(aU (b:Int) m.nu).filter (λ k=> !(!unk kn k))=eH kn (aU (b:Int) m.nu):=by
      unfold eH;congr 1;funext k;rw[Bool.not_not]
     rw[this,hu])
    rw[← hp,hda,L_B];unfold jQ;refine Vm λ x k hk=> ?_;rcases tf (unk kn k) with c|c
    ·rw[c];rfl
    ·rw[c];have hkb:=jT hk;rcases ht k (by omega) with h4|h4
     ·exact absurd h4 (auw c)
     ·rw[h4,L_B];rfl
   intro k hk;rw[H4 _ hul];by_cases ek:k=u
   ·rw[aus ek,hv,ek];exact .inr rfl
   ·rw[aur ek];exact ht k hk
  ·cases e
 ·cases e
def Pm{b:Nat}{bl:Nat->List UInt8}(hb:∀k,(bl k).length=4):∀(list:List anA) (s:List auB×Bool),(∀m∈list,wV m->m.da=B (rX 4 bl (aU (b:Int) m.nu)))->anX b s.1->ac1 b bl s.1->ac1 b bl (list.foldl (cW b) s).1
 | [],_,_,_,h=>h
 | m::list,s,hm,h,ht=>by
  rw[avC];cases e:rW b s.1 m with
  | none=>
   rw[show cW b s m=s by unfold cW;rw[e]];exact Pm hb list s (λ x hx=>hm x (auJ m hx)) h ht
  | some kn=>
   rw[show cW b s m=(kn,true) by unfold cW;rw[e]];exact Pm hb list (kn,true) (λ x hx=>hm x (auJ m hx)) (C6 h e).1 (agu hb (hm m auM) h ht e)
def TR{b:Nat}{bl:Nat->List UInt8}(hb:∀k,(bl k).length=4){list:List anA}(hm:∀m∈list,wV m->m.da=B (rX 4 bl (aU (b:Int) m.nu))):∀(n:Nat) (kn:List auB),anX b kn->ac1 b bl kn->ac1 b bl (lv b list n kn)
 | 0,_,_,h=>h
 | n+1,kn,h,ht=>by
  have h1:=(lP list (kn,false) h).1;have h2:=Pm hb list (kn,false) hm h ht;unfold lv;split
  ·exact TR hb hm n _ h1 h2
  ·exact h2
def abM{b:Nat}{list:List anA}:∀(n:Nat) (kn:List auB),anX b kn->∀k,unk (lv b list n kn) k=true->unk kn k=true
 | 0,_,_,_,h=>h
 | n+1,kn,h,k,hk=>by
  obtain⟨h1,h2,_⟩:=lP list (kn,false) h;unfold lv at hk;split at hk
  ·exact h2 k (abM n _ h1 k hk)
  ·exact h2 k hk
def Vo{b:Nat}{k:Nat}:∀(list:List anA) (s:List auB×Bool),(∃m∈list,wV m/\aU (b:Int) m.nu=[k])->anX b s.1->unk (list.foldl (cW b) s).1 k=false
 | [],_,h,_=>by
  obtain⟨m,hm,_⟩:=h;cases hm
 | m::list,s,h,hk=>by
  rw[avC];have hs:anX b (cW b s m).1:=by
   unfold cW;split
   ·rename_i kn e;exact(C6 hk e).1
   ·exact hk
  obtain⟨x,hx,hf,hof⟩:=h;rcases au5.1 hx with rfl|hx
  ·have h1:unk (cW b s x).1 k=false:=by
    unfold cW rW;rw[aus (by rw[auF];exact⟨hf.1,aut hf.2⟩),hof];unfold eH;rw[awq,ayp];rcases tf (unk s.1 k) with c|c
    ·have hul:k<s.1.length:=by
      have h3:=jT (b:=(b:Int)) (n:=x.nu) (k:=k) (by rw[hof];exact avX k);rw[hk.1];omega
     simp only[c,auy];unfold unk;rw[H4 _ hul,aus rfl];refine auu λ hh=> ?_;have h4:(B (jQ s.1 [k] (L x.da))).size=4:=by
      rw[aW,Oq hk (by have:=hf.2;rw[ba];omega) λ j hj=>by rw[avh.1 hj,← hk.1];exact hul]
     rw[hh]at h4;cases h4
    ·simp only[c,auD]
   rcases tf (unk (list.foldl (cW b) (cW b s x)).1 k) with c|c
   ·have:=(lP list (cW b s x) hs).2.1 k c;rw[h1]at this;cases this
   ·exact c
  ·exact Vo list _ ⟨x,hx,hf,hof⟩ hs
def abN{b:Nat}{k:Nat}{list:List anA}(h:∃m∈list,wV m/\aU (b:Int) m.nu=[k])(n:Nat){kn:List auB}(hk:anX b kn):unk (lv b list (n+1) kn) k=false:=by
 have h1:=Vo list (kn,false) h hk;have h2:=(lP list (kn,false) hk).1;unfold lv;split
 ·rcases tf (unk (lv b list n (iW b list kn).1) k) with c|c
  ·have:=abM n _ h2 k c;rw[h1]at this;cases this
  ·exact c
 ·exact h1
def acP:∀ {l:List (List UInt8)} {a:auB},(∀x∈l,x.length=4)->zh (l.map B) a=some (a++B l.flatten)
 | [],a,_=>by
  show some a=_;congr 1;apply qR;rw[ua,L_B];simp
 | x::l,a,h=>by
  rw[avJ];unfold zh;have hx:=h x auM;rw[aur (λ e=>by have:(B x).size=0:=(by rw[e];rfl);rw[aW]at this;omega),acP λ y hy=>h y (auJ x hy)];congr 1;apply qR;simp only[ua,L_B,List.flatten_cons,au2]
def amE{b:Nat}{bl:Nat->List UInt8}{kn:List auB}(h:anX b kn)(ht:ac1 b bl kn)(hu:∀k,k<b->unk kn k=false):kn=((au9 b).map bl).map B:=by
 apply ayE;intro i;by_cases hi:i<b
 ·rw[awK,avz,av3 hi];have h1:=hu i hi;rcases ht i hi with h2|h2
  ·exact absurd h2 (auw h1)
  ·have hl:i<kn.length:=by rw[h.1];exact hi
   rw[bsA,auQ,auO hl]at h2;rw[auO hl];exact congrArg some h2
 ·rw[awa (by rw[h.1];omega),awa (by simp;omega)]
def acr(t:List UInt8):∀b:Nat,((au9 b).map (DR t)).flatten=(au9 (4 * b)).map λ i=>t.getD i 0
 | 0=>rfl
 | b+1=>by
  rw[awP,avS,List.flatten_append,acr t b];have:au9 (4 * (b+1))=au9 (4 * b)++[4 * b,4 * b+1,4 * b+2,4 * b+3]:=by
   rw[show 4 * (b+1)=4 * b+1+1+1+1 by omega];simp only[awP,au2];rfl
  rw[this,avS];rfl
def ajW{s:Int}(h:inB s 1 24=true):au6 (s+3) 4=(((s.toNat+3) / 4:Nat):Int)/\inB (au6 (s+3) 4) 1 6=true:=by
 have h:=ah.1 h;have:au6 (s+3) 4=(((s.toNat+3) / 4:Nat):Int):=by
  rw[avx (by omega)];omega
 refine⟨this,ah.2 ?_⟩;rw[this];omega
def Ls{s:Int}(h:inB s 1 24=true)(list:List anA):dy s list=(match zh (lv ((s.toNat+3) / 4) list 7 (au0 ((s.toNat+3) / 4) noB)) noB with
  | none=>(noB,false)
  | some c=>if DT c s.toNat then(c.extract 0 s.toNat,true) else(noB,false)):=by
 obtain⟨h1,h2⟩:=ajW h;unfold dy x7;rw[aus h,aus h2,h1,auV];rfl
def ah0{tx:auB}(h:inB tx.size 1 24=true):(let c:=noB++B ((au9 ((tx.size+3) / 4)).map (DR (L tx))).flatten
  (if DT c tx.size then(c.extract 0 tx.size,true) else(noB,false)))=(tx,true):=by
 have h:=ah.1 h;have hc:L (noB++B ((au9 ((tx.size+3) / 4)).map (DR (L tx))).flatten)=(au9 (4 * ((tx.size+3) / 4))).map λ i=>(L tx).getD i 0:=by
  rw[ua,L_B,acr];rfl
 generalize noB++B ((au9 ((tx.size+3) / 4)).map (DR (L tx))).flatten=c at hc;have hsz:c.size=4 * ((tx.size+3) / 4):=by rw[← ba,hc];simp
 have hz:DT c tx.size=true:=by
  unfold DT;rw[cG];intro i hi;refine aut ?_;unfold bt;show(((L c).getD (tx.size+i) 0).toNat:Int)=0;rw[hc,auQ,avz,av3 (by omega)];simp only[axU,avd];rw[auQ,awa (by rw[ba];omega)];rfl
 show(if DT c tx.size then(c.extract 0 tx.size,true) else(noB,false))=(tx,true);rw[aus hz];congr 1;apply qR;rw[kB,awF,hc,aw1];apply ayE;intro i;rw[av7];split
 ·rename_i hi;rw[avz,av3 (by omega)];simp only[axU];rw[auQ,auO (by rw[ba];exact hi)];rfl
 ·rw[awa (by rw[ba];omega)]
def amw(tx:auB)(list:List anA):Prop:=∀m∈list,wV m->m.da=vL tx m.nu
def amW{tx:auB}(h:inB tx.size 1 24=true):(oV tx).length=(tx.size+3) / 4:=by
 unfold oV;rw[aus h];simp
def Qm{tx:auB}(h:inB tx.size 1 24=true):inB (((tx.size+3) / 4:Nat):Int) 1 6=true:=by
 have h:=ah.1 h;exact ah.2 (by omega)
def Ys{b:Nat}{f:Nat->Bool}:∀(n:Nat) (x:Int),0<b->(∃k,k<b/\f k=true)->∃k,k<b/\Q0 b n f x k=true
 | 0,_,_,h=>h
 | n+1,x,hb,h=>by
  obtain⟨k,hk,e⟩:=h;exact Ys n _ hb ⟨k,hk,by unfold Lq;split;rfl;exact e⟩
def ahU{b:Nat}{f:Nat->Bool}{n:Nat}{x:Int}(hb:0<b)(hn:0<n):∃k,k<b/\Q0 b n f x k=true:=by
 obtain⟨n,rfl⟩:∃m,n=m+1:=⟨n - 1,by omega⟩;rw[Q0];refine Ys n _ hb ⟨_, ?_,by unfold Lq;rw[aus rfl]⟩;refine LS _ _ ?_;have:avq (au6 (rnd x) 16) (b:Int)<b:=axf _ (by omega);have h0:0<=avq (au6 (rnd x) 16) (b:Int):=axE _ (ayP (LW x).1 (by omega));omega
def acG{b r:Int}(hb:1<=b):∀(ws:List Int) (acc d:Int),1<=d->1<=aaJ (XK b r ws acc d)
 | [],_,_,_=>hb
 | w::ws,acc,d,h=>by
  unfold XK;split
  ·exact h
  ·exact acG hb ws _ _ (by omega)
def ajI{b n:Int}(h:qg b n=true):1<=DK b n:=by
 have hb:1<=b:=by
  unfold qg at h;rw[auF]at h;exact(ah.1 h.1).1
 unfold DK;rw[aus h];split
 ·exact axr _
 ·exact acG hb _ _ _ (axr _)
def abV{b n:Int}(h:qg b n=true):aU b n≠[]:=by
 have hb:1<=b:=by
  unfold qg at h;rw[auF]at h;exact(ah.1 h.1).1
 unfold aU;rw[aus h];split
 ·simp
 ·obtain⟨k,hk,e⟩:=ahU (b:=b.toNat) (f:=λ _=>false) (n:=(DK b n).toNat) (x:=rnd (7 * n+1)) (by omega) (by have:=ajI h;omega);intro hh;have:k∈wU (Q0 b.toNat (DK b n).toNat (λ _=>false) (rnd (7 * n+1))) b.toNat:=awd.2 ⟨avB.2 hk,e⟩;rw[hh]at this;cases this
def OE{n:Int}(h:inB n 0 999=true):aU 1 n=[0]:=by
 have hm:qg 1 n=true:=by unfold qg;rw[h];rfl
 have hne:=abV hm;unfold aU at hne ⊢;rw[aus hm]at hne ⊢;split
 ·rename_i hc;rw[aus hc]at hne;have h1:=auv hc;have h2:=ah.1 h;rw[show n.toNat=0 by omega]
 ·rename_i hc;rw[aur hc]at hne;unfold wU at hne ⊢;rw[show(1:Int).toNat=1 from rfl,List.range_one]at hne ⊢;rw[awq]at hne ⊢;split
  ·rfl
  ·rename_i h3;rw[aur h3]at hne;exact absurd rfl hne
def ab1{tx:auB}(h:inB tx.size 1 24=true){n:Int}(hn:inB n 0 999=true):vL tx n=B (rX 4 (DR (L tx)) (aU (((tx.size+3) / 4:Nat):Int) n)):=by
 unfold vL;rw[amW h];have:=abV (b:=(((tx.size+3) / 4:Nat):Int)) (n:=n) (by unfold qg;rw[Qm h,hn];rfl);rw[aur (by rw[List.isEmpty_iff];exact this)]
def OJ{tx:auB}(h:inB tx.size 1 24=true){n:Int}(hn:inB n 0 999=true):wV ⟨n,vL tx n⟩:=by
 refine⟨hn, ?_⟩;show((vL tx n).size:Int)=4;rw[ab1 h hn,aW,BQ (λ k _=>Hn _ k)];rfl
def aiE{tx:auB}(h:inB tx.size 1 24=true){list:List anA}(hl:amw tx list):∀m∈list,wV m->m.da=B (rX 4 (DR (L tx)) (aU (((tx.size+3) / 4:Nat):Int) m.nu)):=by
 intro m hm hf;rw[hl m hm hf,ab1 h hf.1]
def amD(b:Nat)(bl:Nat->List UInt8):ac1 b bl (au0 b noB):=by
 intro k hk;left;rw[bsA,auQ,aw6,aus hk];rfl
def To{tx:auB}(h:inB tx.size 1 24=true){list:List anA}(hl:amw tx list)(hf:∀k:Nat,k<(tx.size+3) / 4->∃m∈list,wV m/\aU (((tx.size+3) / 4:Nat):Int) m.nu=[k]):dy tx.size list=(tx,true):=by
 rw[Ls h,auV];have h1:=FQ list 7 _ (anX.new ((tx.size+3) / 4));have h2:=TR (λ k=>Hn (L tx) k) (aiE h hl) 7 _ (anX.new ((tx.size+3) / 4)) (amD _ _);have h3:∀k,k<(tx.size+3) / 4->unk (lv ((tx.size+3) / 4) list 7 (au0 ((tx.size+3) / 4) noB)) k=false:=λ k hk=>abN (hf k hk) 6 (anX.new ((tx.size+3) / 4));rw[amE h1 h2 h3,acP (by
  intro x hx;obtain⟨k,_,rfl⟩:=avH.1 hx;exact Hn _ _)]
 exact ah0 h
def WZ(S:anz->Prop)(f:Frame):Prop:=f.ki=1->∃n,S n/\ay n=true/\f.fr=n.fr/\f.nu=n.nu/\f.to=n.to/\f.un=n.un/\f.sz=n.tx.size/\f.da=vL n.tx f.mix
structure PcI (S:anz->Prop) (p:anB):Prop where
 ate:p.sp=false->∃f,p.data=eS (gO f)/\p.src=f.src/\p.dst=f.dst/\(km f=true->WZ S f)
 bad:p.sp=true->(dj (aL p.data)).2=false
def ac7:(dj (aL (eS []))).2=false:=by rfl
def PcI.frame{S:anz->Prop}{p:anB}(h:PcI S p)(hu:(dj (aL p.data)).2=true):∃f,dj (aL p.data)=(f,true)/\km f=true/\p.src=f.src/\p.dst=f.dst/\WZ S f/\p.data=eS (gO f):=by
 rcases tf p.sp with c|c
 ·rw[h.bad c]at hu;cases hu
 ·obtain⟨f,h1,h2,h3,h4⟩:=h.ate c;rcases tf (km f) with e|e
  ·refine⟨f, ?_,e,h2,h3,h4 e,h1⟩;rw[h1,wb (FU f),abb e]
  ·rw[h1]at hu;unfold gO at hu;rw[e,auD,ac7]at hu;cases hu
def PcI.arT{S:anz->Prop}{p:anB}(h:PcI S p)(hs:p.sp=false){mix kp:Int}(hm:inB mix 0 ((p.data.size:Int) - 1)=true)(hk:inB kp 1 255=true):PcI S (JU p mix kp):=by
 obtain⟨f,h1,_,_,_⟩:=h.ate hs;refine⟨λ e=>(by cases e),λ _=> ?_⟩;rcases tf (km f) with e|e
 ·exact adm e h1 hm hk
 ·have h2:=ah.1 hm;rw[h1]at h2;unfold gO at h2;rw[e,auD,BI]at h2;simp at h2;omega
def PcI.send{S:anz->Prop}{f:Frame}(h:km f=true->WZ S f):PcI S (pcF f):=⟨λ _=>⟨f,rfl,rfl,rfl,h⟩,λ e=>by cases e⟩
def abv{ra:List anB}{fs:List Frame}{p:anB}(h:p∈IV ra fs):p∈ra\/ ∃f∈fs,p=pcF f:=by
 unfold IV at h;rcases auX.1 h with h|h
 ·exact .inl h
 ·obtain⟨f,hf,rfl⟩:=avH.1 h;exact .inr ⟨f,av6 hf,rfl⟩
def ab3{ra:List anB}{i:Nat}{p:anB}(h:p∈Mp ra i):p∈ra:=by
 unfold Mp at h;rcases auX.1 h with h|h
 ·exact av6 h
 ·exact awA h
def Zg{k:anv}{f g:Frame}(h:g∈(aJ k f).2):g=Oa 2 f\/g=Oa 3 f:=by
 unfold aJ at h;split at h
 ·unfold mH at h;split at h
  ·split at h
   ·unfold iX at h;split at h
    ·exact .inr (avh.1 h)
    ·split at h
     ·exact .inl (avh.1 h)
     ·split at h
      ·cases h
      ·unfold AI at h;split at h
       ·split at h
        ·unfold lX at h;split at h
         ·exact .inl (avh.1 h)
         ·cases h
        ·cases h
       ·cases h
   ·split at h<;>cases h
  ·cases h
 ·cases h
def alF(S:anz->Prop){k:anv}{f g:Frame}(h:g∈(aJ k f).2):WZ S g:=by
 intro hk;rcases Zg h with rfl|rfl
 ·exact absurd hk (show ¬(2:Int)=1 by decide)
 ·exact absurd hk (show ¬(3:Int)=1 by decide)
def aeO{l:List anz}{i:Int}(h0:0<=i)(h1:i.toNat<l.length):nA l i.toNat∈l:=by
 rw[nA,auQ,auO h1];exact avm h1
def Zf{st:anE}(h:aw st=true){n:anz}(hn:n∈st.held):ay n=true:=by
 unfold aw at h;simp only[auF]at h;have hh:=h.2.2.2.1.2;obtain⟨j,hj,rfl⟩:=avA hn;have:=cG.1 hh j hj;rw[auF,nA,auQ,auO hj]at this;exact this.1
def aeR{S:anz->Prop}{k:anv}(h:ae k=true)(hS:∀n∈(stT k).held,S n){fr nu mix:Int}(hb:(uw k fr nu mix).2=true):WZ S (uw k fr nu mix).1:=by
 intro _;unfold uw at hb ⊢;split at hb
 ·rename_i hc;rw[aus hc];simp only[auF,avw,decide_eq_false_iff_not]at hc;have h0:=jt (axD.1 hc.2.1);have hm:=aeO (axD.1 hc.2.1) h0.1;exact⟨_,hS _ hm,Zf (ib h).kok hm,rfl,rfl,rfl,rfl,rfl,rfl⟩
 ·cases hb
def xk{n:anz}(h:ay n=true):inB n.tx.size 1 24=true:=by
 unfold ay Tk at h;simp only[auF]at h;exact h.2.2.2.2.1
def BL(hv:List anD)(f:Frame):(∃i,aN hv f=(hv,i)/\i<hv.length/\(hA hv i).fr=f.fr/\(hA hv i).nu=f.nu/\tI hv f.fr f.nu=(i:Int))\/
  (tI hv f.fr f.nu<0/\ ∃l:List anD,l.Sublist hv/\aN hv f=(l++[⟨f.fr,f.nu,f.to,f.un,f.sz,[]⟩],l.length)):=by
 unfold aN;rcases ny hv f.fr f.nu with h|⟨i,h1,h2,h3,h4⟩
 ·rw[aus h];refine .inr ⟨h,_, ?_,rfl⟩;split
  ·exact ax7 _ _
  ·exact avF _
 ·rw[aur (by omega)];exact .inl ⟨i,by rw[h1];rfl,h2,h3,h4,h1⟩
def HP(l:List anD)(h:anD):hA (l++[h]) l.length=h:=by
 unfold hA;rw[auQ,avl (auS _)];simp
def M1(mix:Int)(da:auB):df [] mix da=[⟨mix,da⟩]:=rfl
def ajD(l:List anD)(h:anD):oU (l++[h]) l.length=l:=by
 unfold oU;rw[List.take_left,awE (by simp),avj]
def aj3(l:List anD)(h:anD)(f:Frame):∃g,fW (l++[h]) l.length f=l++[g]:=by
 unfold fW;rw[ay6 _ _ (auS _),aym];exact⟨_,rfl⟩
def Tf(k:anv)(r:auB)(f:Bool):(wrR k r f).1.anw=k.anw:=by
 unfold wrR;split
 ·rfl
 ·cases f<;>rfl
def ao0(k:anv):Prop:=∀h∈k.anw,5<=h.sz
def afr{l:List anD}{i:Nat}{f:Frame}(hi:i<l.length)(h:∀x∈l,5<=x.sz):∀x∈fW l i f,5<=x.sz:=by
 intro x hx;unfold fW at hx;rcases awV hx with h1|h1
 ·exact h x h1
 ·rw[h1];exact h (hA l i) (by rw[qN hi];exact avm hi)
def afh{l:List anD}{i:Nat}{x:anD}(h:x∈oU l i):x∈l:=by
 unfold oU at h;rcases auX.1 h with h|h
 ·exact av6 h
 ·exact awA h
def akF{f:Frame}{n:anz}(hn:ay n=true)(hs:f.sz=n.tx.size)(hd:f.da=vL n.tx f.mix)(h4:f.sz<=4)(hm:inB f.mix 0 999=true):dy f.sz [⟨f.mix,f.da⟩]=(n.tx,true):=by
 have htx:=xk hn;have h1:=ah.1 htx;rw[hs];refine To htx ?_ ?_
 ·intro m hmm _;rw[avh.1 hmm];exact hd
 ·intro k hk;refine⟨_,avX _, ?_, ?_⟩
  ·rw[hd];exact OJ htx hm
  ·have hb:(n.tx.size+3) / 4=1:=by omega
   rw[hb];have hk0:k=0:=by omega
   rw[hk0];exact OE hm
def Th(k:anv)(n:anz)(f:Frame):(lX k n f).1.anw=k.anw:=by
 unfold lX;split
 ·exact Tf _ _ _
 ·rfl
def TF(f:Frame):FK ⟨f.fr,f.nu,f.to,f.un,f.sz,[]⟩ f=true:=by
 unfold FK;simp
def akL{S:anz->Prop}{k:anv}{f:Frame}(hb:ao0 k)(hf:km f=true)(h1:f.ki=1)(g:WZ S f):ao0 (AI k f).1:=by
 obtain⟨n,_,hn,_,_,_,_,hs,hd⟩:=g h1;have hp:=uE hf h1;have hlt:=C5 (hv:=k.anw) (f:=f);unfold AI;rcases BL k.anw f with⟨i,e,hi,_,_,_⟩|⟨_,l,hl,e⟩
 ·rw[e]at hlt ⊢;split
  ·have hab:=afr (f:=f) hi hb;split
   ·intro h hh;rw[Th]at hh;exact hab h (afh hh)
   ·exact hab
  ·exact hb
 ·have hlb:∀x∈l,5<=x.sz:=λ x hx=>hb x (hl.subset hx);rw[e]at hlt ⊢;simp only[HP,TF,auy];obtain⟨g',hg'⟩:=aj3 l ⟨f.fr,f.nu,f.to,f.un,f.sz,[]⟩ f;by_cases h5:5<=f.sz
  ·have hab:=afr (f:=f) (l:=l++[⟨f.fr,f.nu,f.to,f.un,f.sz,[]⟩]) (i:=l.length) hlt (by
    intro x hx;rcases auX.1 hx with h|h
    ·exact hlb x h
    ·rw[avh.1 h];exact h5)
   split
   ·intro h hh;rw[Th]at hh;exact hab h (afh hh)
   ·exact hab
  ·rw[M1,akF hn hs hd (by omega) hp.2.1.1];simp only[auy];intro h hh;rw[Th,hg']at hh;rw[show(oX k (oU (l++[g']) l.length)).anw=oU (l++[g']) l.length from rfl,ajD]at hh;exact hlb h hh
def acm{S:anz->Prop}{k:anv}{f:Frame}(hk:ae k=true)(hb:ao0 k)(g:km f=true->WZ S f):ao0 (aJ k f).1:=by
 unfold aJ;rw[aus hk];unfold mH;split
 ·rename_i hc;simp only[auF]at hc;split
  ·rename_i h1;unfold iX;split
   ·exact hb
   ·split
    ·exact hb
    ·split
     ·exact hb
     ·exact akL hb hc.2.1 (auv h1) (g hc.2.1)
  ·split
   ·intro h hh;rw[Tf]at hh;exact hb h hh
   ·exact hb
 ·exact hb
structure apT (S:anz->Prop) (w:anI):Prop where
 p:∀p∈w.anF,PcI S p
 b:∀i,i<4->ao0 (kA w.anC i)
def amt(k:anv)(tt un:Int)(tx:auB):(vG k tt un tx).1.anw=k.anw:=by
 unfold vG;split
 ·exact Tf _ _ _
 ·rfl
def amL(k:anv)(a b:Int):(zg k a b).1.anw=k.anw:=by
 unfold zg;split
 ·exact Tf _ _ _
 ·rfl
def aeD(k:anv):(fY k).1.anw=k.anw:=by
 unfold fY;split
 ·exact Tf _ _ _
 ·rfl
def akB(k:anv):(nc k).1.anw=k.anw:=by unfold nc;split<;>rfl
def ajo(k:anv):(mb k).1.anw=k.anw:=by unfold mb;split<;>rfl
def ao0.of{k k':anv}(h:ao0 k)(e:k'.anw=k.anw):ao0 k':=λ x hx=>h x (by rw[← e];exact hx)
def apT.put{S:anz->Prop}{w:anI}(h:apT S w)(hr:anV w){i:Nat}(hi:i<4){k':anv}(hb:ao0 k')(li:List Bool)(se go:List anz):apT S ⟨w.ti,w.anC.set i k',li,w.anF,se,go⟩:=by
 refine⟨h.p,λ j hj=> ?_⟩;show ao0 (kA (w.anC.set i k') j);rw[adQ (by rw[hr.kl];exact hi)];split
 ·exact hb
 ·exact h.b j hj
def amr{l:List anB}{i:Nat}(h:i<l.length):pA l i∈l:=by
 rw[alO h];exact avm h
def apT.doM{S:anz->Prop}{w:anI}(h:apT S w)(hr:anV w)(hS:∀i,i<4->∀n∈(stT (kA w.anC i)).held,S n)(e:Event):apT S (doM w e).1:=by
 unfold Go.VS.doM;split
 ·unfold C4;split
  ·rename_i h2;have h2:=ah.1 h2;have hlt:e.wo.toNat<w.anF.length:=by omega
   have hpc:=h.p _ (amr hlt);split
   ·split
    ·rename_i h3;simp only[auF,avw]at h3;refine⟨λ p hp=> ?_,h.b⟩;rcases awV hp with h4|h4
     ·exact h.p p h4
     ·rw[h4];exact hpc.arT h3.1 h3.2.1 h3.2.2
    ·exact h
   ·split
    ·exact⟨λ p hp=>h.p p (ab3 hp),h.b⟩
    ·split
     ·have hra:∀p∈(if e.kp=0 then Mp w.anF e.wo.toNat else w.anF),PcI S p:=by
       intro p hp;split at hp
       ·exact h.p p (ab3 hp)
       ·exact h.p p hp
      unfold Qk;split
      ·rename_i hc;simp only[auF,decide_eq_true_eq]at hc;obtain⟨f,hu,hfo,_,hd,hg,_⟩:=hpc.frame hc.1;rw[hu];have hrg:=BN (BK hr hlt);have hi:(pA w.anF e.wo.toNat).dst.toNat<4:=by omega
       have hb:ao0 (aJ (kA w.anC (pA w.anF e.wo.toNat).dst.toNat) f).1:=acm (hr.k _ hi).1 (h.b _ hi) (λ _=>hg);refine⟨λ p hp=> ?_,(h.put hr hi hb w.anS w.aoF w.got).b⟩;rcases abv hp with h4|⟨g,hg',rfl⟩
       ·exact hra p h4
       ·exact PcI.send λ _=>alF S hg'
      ·exact⟨hra,h.b⟩
     ·exact h
  ·exact h
 ·split
  ·unfold Us;split
   ·exact⟨h.p,h.b⟩
   ·exact h
  ·split
   ·rename_i h3;have hi:=U3 h3;have hb:=h.b _ hi;unfold Dg;split
    ·unfold agt;split
     ·exact h
     ·split
      ·exact h
      ·exact h.put hr hi (hb.of (amt _ _ _ _)) _ _ _
    ·split
     ·exact h.put hr hi (hb.of (aeD _)) _ _ _
     ·split
      ·split
       ·rename_i hm;refine⟨λ p hp=> ?_,h.b⟩;rcases abv hp with h4|⟨g,hg',rfl⟩
        ·exact h.p p h4
        ·rw[avh.1 hg'];exact PcI.send λ _=>aeR (hr.k _ hi).1 (hS _ hi) hm
       ·exact h
      ·split
       ·exact h.put hr hi (λ x hx=>by cases hx) _ _ _
       ·split
        ·exact h.put hr hi (k':=riM (kA w.anC e.at_.toNat)) (hb.of rfl) _ _ _
        ·split
         ·unfold ahd;split
          ·exact h.put hr hi (hb.of (amL _ _ _)) _ _ _
          ·exact h
         ·split
          ·exact h.put hr hi (hb.of (akB _)) _ _ _
          ·split
           ·exact h.put hr hi (hb.of (ajo _)) _ _ _
           ·exact h
   ·exact h
def apT.sim{S:anz->Prop}{w:anI}(h:apT S w)(hr:anV w)(hS:∀i,i<4->∀n∈(stT (kA w.anC i)).held,S n)(e:Event):apT S (xY w e):=by
 have:=h.doM hr hS e;unfold xY afE;split
 ·exact⟨this.p,this.b⟩
 ·exact this
def Reach.gen{ev:List Event}{w:anI}(h:Reach ev w):apT (λ _=>True) w:=
 h.ind (P:=apT λ _=>True) ⟨λ p hp=>(by cases hp),λ i hi=>by rw[aik hi];intro x hx;cases hx⟩ λ _ e hr _ hg _=>hg.sim hr (λ _ _ _ _=>trivial) e
def lF{k:anv}(h:ae k=true)(f:Frame):aJ k f=mH k f:=aus h
def aiO{l:List anz}{f n:Int}{x:anz}(h:x∈l)(h1:x.fr=f)(h2:x.nu=n):0<=aP l f n:=by
 rcases Kk l f n with h3|h3
 ·exact absurd ⟨h1,h2⟩ (F3 (by omega) x h)
 ·exact h3
def Ur{l:List Mark}{f n:Int}{x:Mark}(h:x∈l)(h1:x.mf=f)(h2:x.mn=n):0<=eC l f n:=by
 rcases adN l f n with h3|h3
 ·exact absurd ⟨h1,h2⟩ (ab2 (by omega) x h)
 ·exact h3
structure arK (k o:anE) (n:anz):Prop where
 id:o.id=k.id
 ti:o.ti=k.ti
 nx:o.nx=k.nx
 at_:(n.to=k.id/\o.held=k.held/\o.marks=vR k.marks ⟨n.fr,n.nu,n.un⟩/\o.inbox=ka k.inbox n)\/(n.to≠k.id/\o.held=ka k.held n/\o.marks=k.marks/\o.inbox=k.inbox)
def arK.has{k o:anE}{n:anz}(h:arK k o n):0<=aP o.held n.fr n.nu\/0<=eC o.marks n.fr n.nu:=by
 rcases h.at_ with⟨_,_,h1,_⟩|⟨_,h1,_,_⟩
 ·rw[h1];exact .inr (Ur (Ml _ (.inl rfl)) rfl rfl)
 ·rw[h1];exact .inl (aiO (Ml _ (.inl rfl)) rfl rfl)
structure Safe (k:anv) (st:anE):Prop where
 is:an9 k st
 fo:k.fo=(k.log.size:Int)
structure apw (a b:anz):Prop where
 fr:a.fr=b.fr
 nu:a.nu=b.nu
 to':a.to=b.to
 un:a.un=b.un
 ok:ay a=ay b
def apw.refl(a:anz):apw a a:=⟨rfl,rfl,rfl,rfl,rfl⟩
structure apg (l m:List anz):Prop where
 len:l.length=m.length
 nA:∀i,apw (nA l i) (nA m i)
def apg.refl(l:List anz):apg l l:=⟨rfl,λ _=> .refl _⟩
def apg.ins{a b:anz}(h:apw a b)(l:List anz):apg (ka l a) (ka l b):=by
 have e:ka l b=l.takeWhile (λ x=>bef x.fr x.nu a.fr a.nu)++b::l.dropWhile (λ x=>bef x.fr x.nu a.fr a.nu):=by
  unfold ka Go.VS.ins;rw[h.fr,h.nu]
 rw[e];unfold ka Go.VS.ins;refine⟨by simp,λ i=> ?_⟩;unfold Go.VS.nA;rw[auQ,auQ];generalize l.takeWhile (λ x=>bef x.fr x.nu a.fr a.nu)=A;generalize l.dropWhile (λ x=>bef x.fr x.nu a.fr a.nu)=C;rcases awl i A.length with h1|h1|h1
 ·rw[avQ h1,avQ h1];exact .refl _
 ·subst h1;rw[avl (auS _),avl (auS _)];simpa using h
 ·rw[avl (by omega),avl (by omega)];obtain⟨j,hj⟩:∃j,i - A.length=j+1:=⟨i - A.length - 1,by omega⟩;rw[hj];exact .refl _
def aiF(hv:List anD):Prop:=∀h∈hv,5<=h.sz\/ ∃n,h.got=[⟨n,B [97,98,99,100]⟩]
def anO(tx:auB)(i:Nat):List anA:=(au9 i).map λ j:Nat=>⟨(j:Int),vL tx (j:Int)⟩
structure aqN (x:anv) (d t:Int) (hv:List anD):Prop where
 ok:ae x=true
 up:x.up=true
 id:x.id=d
 st:stT x=⟨d,t,1,[],[],[]⟩
 hv:x.anw=hv
def agY(n:anz)(i:Nat):List anD:=if i=0 then [] else [⟨n.fr,n.nu,n.to,n.un,n.tx.size,anO n.tx i⟩]
variable {E:List Event}
def Tot{α:Type}(o:Option α)(P:α->Prop):Prop:=∃a,o=some a/\P a
def Rn{α β:Type}(A:α->Prop)(B:β->Prop):α ⊕ β->Prop
 | .inl a=>A a
 | .inr b=>B b
def Tot.ret{α:Type}{a:α}{P:α->Prop}(h:P a):Tot (some a) P:=⟨a,rfl,h⟩
def Tot.eq{α:Type}{o:Option α}{a:α}(h:o=some a):Tot o (λ x=>x=a):=⟨a,h,rfl⟩
def Tot.mono{α:Type}{o:Option α}{P Q:α->Prop}(h:Tot o P)(hq:∀a,P a->Q a):Tot o Q:=by
 obtain⟨a,e,p⟩:=h;exact⟨a,e,hq a p⟩
def Tot.bind{α β:Type}{o:Option α}{f:α->Option β}{P:α->Prop}{Q:β->Prop}(h:Tot o P)(hf:∀a,P a->Tot (f a) Q):Tot (o.bind f) Q:=by
 obtain⟨a,rfl,p⟩:=h;exact hf a p
def Tot.ite{α:Type}{c:Bool}{a b:Option α}{P:α->Prop}(ha:c=true->Tot a P)(hb:c=false->Tot b P):Tot (if c=true then a else b) P:=by
 cases c
 ·rw[auD];exact hb rfl
 ·rw[aus rfl];exact ha rfl
def Tot.pos{α:Type}{c:Bool}{a b:Option α}{P:α->Prop}(hc:c=true)(ha:Tot a P):Tot (if c=true then a else b) P:=by
 rw[aus hc];exact ha
def Tot.neg{α:Type}{c:Bool}{a b:Option α}{P:α->Prop}(hc:c=false)(hb:Tot b P):Tot (if c=true then a else b) P:=by
 rw[hc,auD];exact hb
def Tot.join{Ω X:Type}{f:X->Option Ω}{m:Option (Ω ⊕ X)}{A:X->Prop}{Q:Ω->Prop}(h:Tot m (Rn Q A))(hf:∀x,A x->Tot (f x) Q):Tot (bH f m) Q:=by
 obtain⟨r,rfl,p⟩:=h;cases r with
 | inl o=>exact⟨o,rfl,p⟩
 | inr x=>exact hf x p
def Tot.sum{A D Ω:Type}{m:Option (A ⊕ D)}{f:A->Option Ω}{g:D->Option Ω}{P:A->Prop}{Q:D->Prop}{R:Ω->Prop}(h:Tot m (Rn P Q))
  (hf:∀a,P a->Tot (f a) R)(hg:∀d,Q d->Tot (g d) R):Tot (aK m f g) R:=by
 obtain⟨r,rfl,p⟩:=h;cases r with
 | inl o=>exact hf o p
 | inr x=>exact hg x p
def Tot.loop{σ ρ:Type}{b:σ->Option (σ ⊕ ρ)}(Inv:Nat->σ->Prop)(aqh:ρ->Prop)(n:Nat)
  (h:∀i s,i<=n->Inv i s->Tot (b s) (Rn (λ s'=>i<n/\Inv (i+1) s') aqh)){s0:σ}(h0:Inv 0 s0):Tot (aV b s0) aqh:=by
 refine akU Inv aqh n (λ i s hi hs=> ?_) (λ s hs=> ?_) h0
 ·obtain⟨r,e,p⟩:=h i s (by omega) hs;cases r with
  | inl s'=>exact .inl ⟨s',e,p.2⟩
  | inr y=>exact .inr ⟨y,e,p⟩
 ·obtain⟨r,e,p⟩:=h n s (auS _) hs;cases r with
  | inl s'=>exact absurd p.1 (azf _)
  | inr y=>exact⟨y,e,p⟩
structure anU (N:Nat) (r:List Int×Int×auC):Prop where
 l:r.1.length<=2000
 b:BOk r.1
 p0:0<=r.2.1
 p1:r.2.1<=(N:Int)
def anU.up{N M:Nat}{r:List Int×Int×auC}(h:anU N r)(hM:N<=M):anU M r:=⟨h.l,h.b,h.p0,by have:=h.p1;omega⟩
def akT{a b:Int}(ha:0<=a)(ha':a<9223372036854775808)(hb:0<=b)(hb':b<9223372036854775808):0<=vQ .i64 a b:=by
 obtain⟨m,rfl⟩:=avL ha;obtain⟨n,rfl⟩:=avL hb;have hm:m<2 ^ 63:=by omega
 have hn:n<2 ^ 63:=by omega
 have hx:=Nat.xor_lt_two_pow hm hn;have e:(av5 64 (m:Int) ^^^ av5 64 (n:Int)).toNat=m ^^^ n:=by
  rw[BitVec.toNat_xor,axB,axB];congr 1<;>omega
 show 0<=w64 (((av5 64 (m:Int) ^^^ av5 64 (n:Int)).toNat:Int));rw[e,ai (by omega) (by omega)];omega
def au{N:Nat}{x:(List Int×Int×auC)×Int×auC}(h:anU N x.1)(hN:N<=1000000):
  Tot (ab x) λ a=>anU (N+1) a.2.1/\0<=a.1.1/\(1<=x.2.1->a.1.1<x.2.1):=by
 obtain⟨⟨l,p,_⟩,n,_⟩:=x;obtain⟨hl,hb,p0,p1⟩:=h;simp only at hl hb p0 p1;have e1:w64 (p+1)=p+1:=ai (by omega) (by omega);have e2:w64 (p+1 - 1)=p:=by rw[ai (by omega) (by omega)];omega
 have hq:anU (N+1) (l,p+1,()):=⟨hl,hb,by show 0<=p+1;omega,by show p+1<=((N+1:Nat):Int);omega⟩;unfold ab;simp only[e1,e2];refine Tot.ite (λ hc=> ?_) (λ hc=> ?_)
 ·refine Tot.ret ⟨hq,axr _,λ h=>by show(0:Int)<n;omega⟩
 ·simp only[axo,decide_eq_false_iff_not]at hc;have hn:1<=n:=by omega
  have hln:0<l.length:=by omega
  have hl0:¬((l.length:Int)=0):=hc.2;have hn0:(!decide (n=0))=true:=by simp;omega
  have aso:(!decide ((l.length:Int)=0))=true:=by simpa using hl0
  refine Tot.ite (λ hc1=> ?_) (λ hc1=> ?_)
  ·have hc1:=auv hc1;refine Tot.pos (et p0 hc1) (Tot.pos hn0 (Tot.ret ⟨hq, ?_,λ _=> ?_⟩))
   ·have:=hb.rd p;exact axE _ (by rw[ai (by omega) (by omega)];exact this.1)
   ·exact axf _ (by omega)
  ·have hp:0<=avq p l.length/\avq p l.length<l.length:=⟨axE _ p0,axf _ (by omega)⟩;have e3:w64 (w64 (p * 7)+3)=p * 7+3:=by rw[ai (n:=p * 7) (by omega) (by omega),ai (by omega) (by omega)]
   have hp2:0<=avq (p * 7+3) l.length/\avq (p * 7+3) l.length<l.length:=⟨axE _ (by omega),axf _ (by omega)⟩;simp only[e3];refine Tot.pos aso (Tot.pos (et hp.1 hp.2) (Tot.pos aso (Tot.pos (et hp2.1 hp2.2) (Tot.pos aso (Tot.pos hn0 (Tot.ret ⟨hq, ?_,λ _=> ?_⟩))))))
   ·have b1:=hb.rd (avq p l.length);have b2:=hb.rd (avq (p * 7+3) l.length);have hd:0<=au6 p l.length/\au6 p l.length<=p:=⟨ayP p0 (by omega),Int.tdiv_le_self _ p0⟩;generalize @rd Int (dfl .u8) l (avq p l.length)=u1 at b1 ⊢;generalize @rd Int (dfl .u8) l (avq (p * 7+3) l.length)=u2 at b2 ⊢;generalize au6 p l.length=d at hd ⊢;have w1:w64 u1=u1:=ai (by omega) (by omega);have w2:w64 u2=u2:=ai (by omega) (by omega);have w3:w64 (u1 * 131)=u1 * 131:=ai (by omega) (by omega);have w4:w64 (u2 * 1117)=u2 * 1117:=ai (by omega) (by omega);have w5:w64 (p * 29)=p * 29:=ai (by omega) (by omega);have w6:w64 d=d:=ai (by omega) (by omega);have w7:w64 (d * 53)=d * 53:=ai (by omega) (by omega);simp only[w1,w2,w3,w4,w5,w6,w7];have w8:w64 (u1 * 131+u2 * 1117)=u1 * 131+u2 * 1117:=ai (by omega) (by omega);rw[w8];have w9:w64 (u1 * 131+u2 * 1117+p * 29)=u1 * 131+u2 * 1117+p * 29:=ai (by omega) (by omega);rw[w9];have w10:w64 (u1 * 131+u2 * 1117+p * 29+d * 53)=u1 * 131+u2 * 1117+p * 29+d * 53:=ai (by omega) (by omega);rw[w10];have hv:0<=u1 * 131+u2 * 1117+p * 29+d * 53/\u1 * 131+u2 * 1117+p * 29+d * 53<=1000000000:=by omega
    generalize u1 * 131+u2 * 1117+p * 29+d * 53=v at hv ⊢;have hdv:0<=au6 v 64/\au6 v 64<=v:=⟨ayP hv.1 (by omega),Int.tdiv_le_self _ hv.1⟩;have w11:w64 (au6 v 64)=au6 v 64:=ai (by omega) (by omega);rw[w11];exact axE _ (akT hv.1 (by omega) hdv.1 (by omega))
   ·exact axf _ (by omega)
def adz(l:List auB){i:Int}(h0:0<=i)(h1:i<l.length): @rd auB (dfl .str) l i∈l:=by
 unfold rd;rw[auQ,auO (by omega:i.toNat<l.length)];exact avm _
def aae{N:Nat}{r:List Int×Int×auC}{l:List auB}(h:anU N r)(hN:N<=1000000)(hl:1<=l.length):
  Tot (cB (r,l,())) λ a=>anU (N+1) a.2.1/\a.1.1∈l:=by
 unfold cB;refine Tot.bind (au h hN) λ a ha=> ?_;have h1:=ha.2.2 (by show(1:Int)<=(l.length:Int);omega);exact Tot.pos (et ha.2.1 h1) (Tot.ret ⟨ha.1,adz l ha.2.1 h1⟩)
def WOk(E:List Event)(N:Nat)(t:Int×List anv×List Bool×List anB×List anz×List anz×List Event×auC):Prop:=∃w ev,t=tS w ev/\Reach (E++ev) w/\ev.length<=N
structure SOk (E:List Event) (N:Nat) (s:(List Int×Int×auC)×Int×List anv×List Bool×List anB×List anz×List anz×List Event×auC):Prop where
 r:anU N s.1
 w:WOk E N s.2
def WOk.up{N M:Nat}{t:_}(h:WOk E N t)(hM:N<=M):WOk E M t:=by
 obtain⟨w,ev,e,h1,h2⟩:=h;exact⟨w,ev,e,h1,by omega⟩
def SOk.up{N M:Nat}{s:_}(h:SOk E N s)(hM:N<=M):SOk E M s:=⟨h.r.up hM,h.w.up hM⟩
def SOk.rd{N M:Nat}{s:_}(h:SOk E N s){r:List Int×Int×auC}(hr:anU M r)(hM:N<=M):SOk E M (r,s.2):=⟨hr,h.w.up hM⟩
abbrev zTx(y:Int×Int×Int×Int×Int×Int×Int×Int×Int×auB×auC):auB:=y.2.2.2.2.2.2.2.2.2.1
def Iy{N:Nat}{s:_}{y:Int×Int×Int×Int×Int×Int×Int×Int×Int×auB×auC}(h:SOk E N s)(hN:N<=1000000)(hy:(zTx y).size<=1048576):
  Tot (ap (s,y,())) λ a=>SOk E (N+1) a.2.1:=by
 obtain⟨hr,w,ev,e,hw,hev⟩:=h;obtain⟨r,t⟩:=s;obtain⟨a,b,c,d,f,g,i,j,k,tx,_⟩:=y;simp only at e hr;subst e;have:=af4 hw.ok (r:=r) (ev:=ev) (by omega) (e:=⟨a,b,c,d,f,g,i,j,k,tx⟩) hy;refine⟨_,this,hr.up (by omega),⟨_,FV ev ⟨a,b,c,d,f,g,i,j,k,tx⟩ (doM w ⟨a,b,c,d,f,g,i,j,k,tx⟩).2,rfl, ?_, ?_⟩⟩
 ·have:=hw.step (e:=⟨a,b,c,d,f,g,i,j,k,tx⟩) hy;unfold FV at this ⊢;split
  ·rename_i hc;rw[aus hc,au2]at this;exact this
  ·rename_i hc;rw[aur hc]at this;exact this
 unfold FV;split
 ·simp;omega
 ·omega
def WOk.has{N:Nat}{t:_}(h:WOk E N t){i:Int}(h0:0<=i)(h1:i<4):ae (kA t.2.1 i.toNat)=true/\(kA t.2.1 i.toNat).id=i/\inb i t.2.1.length=true:=by
 obtain⟨w,ev,rfl,hw,_⟩:=h;have:=hw.ok.k i.toNat (by omega);refine⟨this.1, ?_,et h0 (by show i<(w.anC.length:Int);rw[hw.ok.kl];exact h1)⟩;rw[this.2];omega
def WOk.big{N:Nat}{t:_}(h:WOk E N t){i:Int}(h0:0<=i)(h1:i<4):ao0 (kA t.2.1 i.toNat):=by
 obtain⟨w,ev,rfl,hw,_⟩:=h;exact hw.gen.b i.toNat (by omega)
def ae5{l:List anv}{i:Int}(h:ae (kA l i.toNat)=true):
  Tot (bm (((@rd anv (dfl .anx) l i).id,(@rd anv (dfl .anx) l i).up,(@rd anv (dfl .anx) l i).log,(@rd anv (dfl .anx) l i).fo,(@rd anv (dfl .anx) l i).anw,()),()))
   λ a=>a=((tK (stT (kA l i.toNat)),true,()),()):=Tot.eq (kS h)
end Go.VS
namespace Go.VS
open Go
variable {E:List Event}
def OF{l:List auB}{s:auB}(h:s∈l)(hl:(l.all λ x=>decide (x.size<=1000))=true):s.size<=1000:=by
 have:=avn.1 hl s h;exact auv this
def alP{N:Nat}{s:_}(h:SOk E N s)(hN:N<=900000):Tot (iu (s,())) λ a=>SOk E (N+10) a.2.1:=by
 unfold iu;refine Tot.bind (au h.r (by omega)) λ r1 h1=>Tot.bind (aae h1.1 (by omega) (by decide)) λ r2 h2=>Tot.join (A:=λ j=>SOk E (N+2) j.1/\0<=j.2.1/\j.2.1<4/\j.2.2.1.size<=1000) ?_ (λ j hj=> ?_)
 ·have hz:=OF h2.2 (by decide);have hat:r1.1.1<4:=h1.2.2 (show(1:Int)<=4 by decide);refine Tot.ite (λ hc=>Tot.pos ?_ (Tot.ret ⟨h.rd h2.1 (by omega),h1.2.1,hat, ?_⟩)) (λ hc=>Tot.ret ⟨h.rd h2.1 (by omega),h1.2.1,hat,hz⟩)
  ·have:=auv hc;simp;omega
  ·show(r2.1.1.extract 0 24).size<=1000;rw[axd];omega
 ·obtain⟨hs,a0,a1,hz⟩:=hj;have hk:=hs.w.has a0 a1;refine Tot.pos hk.2.2 (Tot.bind (ae5 hk.1) λ r6 h6=>Tot.bind (au hs.r (by omega)) λ r7 h7=>Tot.bind (au h7.1 (by omega)) λ r8 h8=>
   Tot.bind (Iy (hs.rd h8.1 (by omega)) (by omega) ?_) λ r9 h9=>Tot.ret (h9.up (by omega)))
  show j.2.2.1.size<=1048576;omega
def am6{a:Int}(h0:0<=a)(h1:a<4):0<=avq (w64 (a+1)) 4/\avq (w64 (a+1)) 4<4:=by
 rw[ai (by omega) (by omega)];exact⟨axE _ (by omega),axf _ (by omega)⟩
def aih{N:Nat}{s:_}(h:SOk E N s)(hN:N<=900000):Tot (gH (s,())) λ a=>SOk E (N+2) a.2.1/\a.2.1.2=s.2/\(a.1.2.2.1=true->0<=a.1.1/\a.1.1<4/\isN (cO a.1.1 a.1.2.1.2.2.1)=true):=by
 unfold gH;refine Tot.bind (au h.r (by omega)) λ r1 h1=>Tot.sum (P:=λ y=>SOk E (N+2) y.1/\y.1.2=s.2/\(0<=y.2.1/\y.2.1<4/\isN (cO y.2.1 y.2.2.1.2.2.1)=true)) (Q:=λ y=>SOk E (N+2) y.1/\y.1.2=s.2) ?_ (λ y hy=>Tot.ret ⟨hy.1,hy.2.1,λ _=>hy.2.2⟩) (λ y hy=>Tot.ret ⟨hy.1,hy.2,λ h=>by cases h⟩);refine Tot.loop (λ i x=>SOk E (N+1) x.1/\x.1.2=s.2/\0<=x.2.2.1/\x.2.2.1<4/\x.2.2.2.1=(i:Int)) _ 4 (λ i x hi hx=> ?_) ⟨h.rd h1.1 (by omega),rfl,h1.2.1,h1.2.2 (show(1:Int)<=4 by decide),rfl⟩;obtain⟨hs,hw,a0,a1,hx⟩:=hx;have hk:=hs.w.has a0 a1;unfold oD;refine Tot.ite (λ hc=> ?_) (λ hc=>Tot.ret ⟨hs.up (by omega),hw⟩);have hc:=auv hc;refine Tot.pos hk.2.2 (Tot.bind (ae5 hk.1) λ r6 h6=> ?_);subst h6;refine Tot.ite (λ hl=> ?_) (λ hl=> ?_)
 ·have hl:(0:Int)<((stT (kA x.1.2.2.1 x.2.2.1.toNat)).held.length:Int):=auv hl;refine Tot.bind (au hs.r (by omega)) λ r7 h7=> ?_;have hlt:=h7.2.2 hl;refine Tot.pos (et h7.2.1 hlt) (Tot.ret ⟨hs.rd h7.1 (by omega),hw,a0,a1, ?_⟩);have hkk:=ib hk.1;have hid:=hkk.id;have h9:r7.1.1.toNat<(stT (kA x.1.2.2.1 x.2.2.1.toNat)).held.length:=by
   have:r7.1.1<((stT (kA x.1.2.2.1 x.2.2.1.toNat)).held.length:Int):=hlt;have:=h7.2.1;omega
  have:=Pe hkk.kok (n:=nA (stT (kA x.1.2.2.1 x.2.2.1.toNat)).held r7.1.1.toNat) (by rw[nA,auQ,auO h9];exact avm h9);rw[hid,hk.2.1]at this;exact this
 ·have hm:=am6 a0 a1;refine Tot.ret ⟨?_,hs,hw,hm.1,hm.2, ?_⟩
  ·omega
  ·show w64 (x.2.2.2.1+1)=_;rw[hx,ai (by omega) (by omega)];rfl
def N7{N:Nat}{s:_}(h:SOk E N s){aol odd:Int}(hm:aol<=64)(hN:N<=900000):Tot (cN (s,aol,odd,())) λ a=>SOk E (N+1000) a.2.1:=by
 unfold cN;refine Tot.sum (P:=λ _=>False) (Q:=λ y=>SOk E (N+1000) y.1) ?_ (λ _ h=>h.elim) (λ y hy=>Tot.ret hy);refine Tot.loop (λ i x=>SOk E (N+12 * i) x.1/\x.2.1=aol/\x.2.2.2.1=(i:Int)) _ aol.toNat (λ i x hi hx=> ?_) ⟨h,rfl,rfl⟩;obtain⟨hs,hx1,hx⟩:=hx;unfold mM;refine Tot.ite (λ hc=> ?_) (λ hc=>Tot.ret (show SOk E (N+1000) _ from hs.up (by omega)));rw[auF,hx1,hx]at hc;have hlt:(i:Int)<aol:=auv hc.1;have hN1:N+12 * i<=950000:=by omega
 generalize hM:N+12 * i=M at hs hN1;refine Tot.join (A:=λ j=>SOk E (M+5) j.1/\j.2.1=aol/\j.2.2.2.1=(i:Int)/\(zTx j.2.2.2.2.1).size<=1000) ?_ (λ j hj=> ?_)
 ·refine Tot.join (A:=λ j=>SOk E (M+1) j.1/\j.2.1=aol/\j.2.2.2.1=(i:Int)/\(zTx j.2.2.2.2.1).size<=1000) ?_ (λ j hj=> ?_)
  ·refine Tot.ite (λ hc=>Tot.bind (au hs.r (by omega)) λ r1 h1=>Tot.ret ?_) (λ hc=>Tot.ret ?_)
   ·exact⟨hs.rd h1.1 (by omega),hx1,hx,show noB.size<=1000 by decide⟩
   ·exact⟨hs.up (by omega),hx1,hx,show noB.size<=1000 by decide⟩
  ·obtain⟨hs,hj1,hj2,hj3⟩:=hj;refine Tot.ite (λ hc=> ?_) (λ hc=>Tot.ret ⟨hs.up (by omega),hj1,hj2,hj3⟩);refine Tot.bind (au hs.r (by omega)) λ r1 h1=> ?_;refine Tot.ite (λ hc=>Tot.ret ⟨hs.rd (h1.1.up (by omega)) (by omega),hj1,hj2,hj3⟩) (λ hc=> ?_);refine Tot.ite (λ hc=>Tot.ret ⟨hs.rd (h1.1.up (by omega)) (by omega),hj1,hj2,hj3⟩) (λ hc=> ?_);refine Tot.ite (λ hc=> ?_) (λ hc=> ?_)
   ·exact Tot.bind (au h1.1 (by omega)) λ r2 h2=>Tot.bind (au h2.1 (by omega)) λ r3 h3=>Tot.bind (au h3.1 (by omega)) λ r4 h4=>
     Tot.ret ⟨hs.rd (h4.1.up (by omega)) (by omega),hj1,hj2,hj3⟩
   ·exact Tot.bind (au h1.1 (by omega)) λ r2 h2=>Tot.ret ⟨hs.rd (h2.1.up (by omega)) (by omega),hj1,hj2,hj3⟩
 ·obtain⟨hs,hj1,hj2,hj3⟩:=hj;have hw:w64 (j.2.2.2.1+1)=((i+1:Nat):Int):=by rw[hj2,ai (by omega) (by omega)];rfl
  refine Tot.join (A:=λ j=>SOk E (M+7) j.1/\j.2.1=aol/\j.2.2.2.1=(i:Int)/\(zTx j.2.2.2.2.1).size<=1000) ?_ (λ j hj=> ?_)
  ·refine Tot.bind (Iy hs (by omega) (avr hj3 (by decide))) λ r1 h1=>Tot.ite (λ hc=> ?_) (λ hc=>Tot.ret ⟨h1.up (by omega),hj1,hj2,hj3⟩);exact Tot.bind (Iy h1 (by omega) (show noB.size<=1048576 by decide)) λ r2 h2=>Tot.ret ⟨h2.up (by omega),hj1,hj2,hj3⟩
  ·obtain⟨hs,hj1,hj2,hj3⟩:=hj;refine Tot.join (A:=λ j=>SOk E (M+8) j.1/\j.2.1=aol/\j.2.2.2.1=(i:Int)/\(zTx j.2.2.2.2.1).size<=1000) ?_ (λ j hj=> ?_)
   ·refine Tot.ite (λ hc=>Tot.bind (au hs.r (by omega)) λ r1 h1=>Tot.ret ⟨hs.rd h1.1 (by omega),hj1,hj2,hj3⟩) (λ hc=>Tot.ret ⟨hs.up (by omega),hj1,hj2,hj3⟩)
   ·obtain⟨hs,hj1,hj2,hj3⟩:=hj;have hw:w64 (j.2.2.2.1+1)=((i+1:Nat):Int):=by rw[hj2,ai (by omega) (by omega)];rfl
    refine Tot.ite (λ hc=> ?_) (λ hc=>Tot.ret ⟨by omega, ?_,hj1,hw⟩)
    ·refine Tot.bind (au hs.r (by omega)) λ r1 h1=>Tot.bind (au h1.1 (by omega)) λ r2 h2=>Tot.bind (Iy (hs.rd h2.1 (by omega)) (by omega) ?_) λ r3 h3=>Tot.ret ⟨by omega, ?_,hj1,hw⟩
     ·show(zTx j.2.2.2.2.1).size<=1048576;omega
     ·exact h3.up (by omega)
    ·exact hs.up (by omega)
end Go.VS
namespace Go.VS
open Go
variable {E:List Event}
def nz:noB.size<=1048576:=by decide
def WOk.rl{N:Nat}{t:_}(h:WOk E N t):t.2.2.2.1.length<=30:=by
 obtain⟨w,ev,rfl,hw,_⟩:=h;exact hw.ok.rl
def qT{n:Int}{i:Nat}(h:n=(i:Int))(hi:i<=1000000):w64 (n+1)=((i+1:Nat):Int):=by
 rw[h,ai (by omega) (by omega)];rfl
def L9{N:Nat}{s:_}(h:SOk E N s){aol odd:Int}(h0:0<=aol)(hm:aol<=8)(hN:N<=800000):Tot (cM (s,aol,odd,())) λ a=>SOk E (N+1100) a.2.1:=by
 unfold cM;refine Tot.bind (aih h (by omega)) λ r1 h1=>Tot.ite (λ hc=>Tot.ret (h1.1.up (by omega))) (λ hc=> ?_);refine Tot.bind (au h1.1.r (by omega)) λ r2 h2=>Tot.bind (au h2.1 (by omega)) λ r3 h3=> ?_;refine Tot.sum (P:=λ _=>False) (Q:=λ y=>SOk E (N+20) y.1/\y.2.1=aol) ?_ (λ _ h=>h.elim) (λ y hy=> ?_)
 ·refine Tot.loop (λ i x=>SOk E (N+4+i) x.1/\x.2.1=aol/\x.2.2.2.2.2.2.1=(i:Int)) _ aol.toNat (λ i x hi hx=> ?_) ⟨h1.1.rd h3.1 (by omega),rfl,rfl⟩;obtain⟨hs,hx1,hx⟩:=hx;unfold mL;refine Tot.ite (λ hc=> ?_) (λ hc=>Tot.ret ⟨hs.up (by omega),hx1⟩);have hc:=auv hc;exact Tot.bind (Iy hs (by omega) nz) λ r4 h4=>Tot.ret ⟨by omega,h4.up (by omega),hx1,qT hx (by omega)⟩
 ·have hy2:=hy.2;refine Tot.bind (au hy.1.r (by omega)) λ r4 h4=> ?_;have h5:r4.1.1<=64:=by
   have:w64 (y.2.1+4)=aol+4:=by rw[hy.2,ai (by omega) (by omega)]
   have:=h4.2.2 (by show 1<=w64 (y.2.1+4);omega);have:r4.1.1<w64 (y.2.1+4):=this;omega
  exact Tot.bind (N7 (hy.1.rd h4.1 (by omega)) h5 (by omega)) λ r5 h6=>Tot.ret (h6.up (by omega))
def amJ{N:Nat}{s:_}(h:SOk E N s)(hN:N<=700000):Tot (kL (s,())) λ a=>SOk E (N+4500) a.2.1:=by
 unfold kL;refine Tot.bind (N7 h (by decide) (by omega)) λ r1 h1=>Tot.bind (L9 h1 (by decide) (by decide) (by omega)) λ r2 h2=> ?_;refine Tot.sum (P:=λ _=>False) (Q:=λ y=>SOk E (N+2220) y.1) ?_ (λ _ h=>h.elim) (λ y hy=> ?_)
 ·refine Tot.loop (λ i x=>SOk E (N+2100+40 * i) x.1/\x.2.1=(i:Int)) _ 2 (λ i x hi hx=> ?_) ⟨h2.up (by omega),rfl⟩;obtain⟨hs,hx⟩:=hx;unfold oH;refine Tot.bind (au hs.r (by omega)) λ r3 h3=>Tot.ite (λ hc=> ?_) (λ hc=>Tot.ret (show SOk E (N+2220) _ from hs.rd (h3.1.up (by omega)) (by omega)));have hc:=auv hc;have hv:=h3.2.2 (show(1:Int)<=2 by decide);have hv:r3.1.1<2:=hv;have hv0:=h3.2.1;rw[ai (by omega) (by omega)]at hc;have hrl:=hs.w.rl;refine Tot.sum (P:=λ _=>False) (Q:=λ y=>SOk E (N+2100+40 * (i+1)) y.1/\y.2.1=(i:Int)) ?_ (λ _ h=>h.elim) (λ y hy=>Tot.ret ⟨by omega,hy.1,qT hy.2 (by omega)⟩);refine Tot.loop (λ k y=>SOk E (N+2100+40 * i+1+k) y.1/\y.2.1=(i:Int)/\y.2.2.1=(x.1.2.2.2.2.1.length:Int)/\y.2.2.2.1=(k:Int)) _ x.1.2.2.2.2.1.length (λ k y hk hy=> ?_) ⟨hs.rd h3.1 (by omega),hx,rfl,rfl⟩;obtain⟨hs,y1,y2,y3⟩:=hy;unfold oG;refine Tot.ite (λ hc=> ?_) (λ hc=>Tot.ret ⟨hs.up (by omega),y1⟩);have hc:=auv hc;exact Tot.bind (Iy hs (by omega) nz) λ r4 h4=>Tot.ret ⟨by omega,h4.up (by omega),y1,y2,qT y3 (by omega)⟩
 ·refine Tot.bind (au (SOk.r hy) (by omega)) λ r3 h3=>Tot.join (A:=λ j=>SOk E (N+2240) j.1) ?_ (λ j hj=> ?_)
  ·refine Tot.bind (au h3.1 (by omega)) λ r4 h4=>Tot.ite (λ hc=> ?_) (λ hc=>Tot.ite (λ hc=> ?_) (λ hc=> ?_))
   ·exact Tot.bind (au h4.1 (by omega)) λ r5 h5=>Tot.bind (Iy (SOk.rd hy h5.1 (by omega)) (by omega) nz) λ r6 h6=>Tot.bind (Iy h6 (by omega) nz) λ r7 h7=>Tot.ret (show SOk E (N+2240) _ from h7.up (by omega))
   ·refine Tot.bind (au h4.1 (by omega)) λ r5 h5=>Tot.sum (P:=λ _=>False) (Q:=λ y=>SOk E (N+2240) y.1) ?_ (λ _ h=>h.elim) (λ y hy=>Tot.ret (show SOk E (N+2240) y.1 from hy));have hv:r5.1.1<9:=h5.2.2 (show(1:Int)<=9 by decide);have hv0:=h5.2.1;refine Tot.loop (λ k y=>SOk E (N+2224+k) y.1/\y.2.2.1=r5.1.1 - (k:Int)) _ r5.1.1.toNat (λ k y hk hy=> ?_) ⟨SOk.rd hy (h5.1.up (by omega)) (by omega),by show r5.1.1=r5.1.1 - 0;omega⟩;obtain⟨hs,y1⟩:=hy;unfold oF;refine Tot.ite (λ hc=> ?_) (λ hc=>Tot.ret (show SOk E (N+2240) _ from hs.up (by omega)));have hc:=auv hc;refine Tot.bind (Iy hs (by omega) nz) λ r6 h6=>Tot.ret ⟨by omega,h6.up (by omega), ?_⟩;show w64 (y.2.2.1 - 1)=r5.1.1 - ((k+1:Nat):Int);rw[ai (by omega) (by omega)];omega
   ·exact Tot.ret (show SOk E (N+2240) _ from SOk.rd hy (h4.1.up (by omega)) (by omega))
  ·have hj:SOk E (N+2240) j.1:=hj;refine Tot.bind (L9 hj (by decide) (by decide) (by omega)) λ r4 h4=>Tot.sum (P:=λ _=>False) (Q:=λ y=>SOk E (N+3400) y.1) ?_ (λ _ h=>h.elim) (λ y hy=> ?_)
   ·refine Tot.loop (λ k y=>SOk E (N+3340+k) y.1/\y.2.2.1=(k:Int)) _ 12 (λ k y hk hy=> ?_) ⟨h4.up (by omega),rfl⟩;obtain⟨hs,y1⟩:=hy;unfold oE;refine Tot.ite (λ hc=> ?_) (λ hc=>Tot.ret (show SOk E (N+3400) _ from hs.up (by omega)));rw[auF]at hc;have hc:=auv hc.1;exact Tot.bind (Iy hs (by omega) nz) λ r6 h6=>Tot.ret ⟨by omega,h6.up (by omega),qT y1 (by omega)⟩
   ·exact Tot.bind (N7 (SOk.up hy (auS _)) (by decide) (by omega)) λ r5 h5=>Tot.ret (h5.up (by omega))
def ame{N:Nat}{s:_}(h:SOk E N s)(odd:Int)(hN:N<=690000):Tot (kJ (s,odd,())) λ a=>SOk E (N+25000) a.2.1:=by
 unfold kJ;refine Tot.bind (au h.r (by omega)) λ r1 h1=>Tot.bind (au h1.1 (by omega)) λ r2 h2=> ?_;have a0:=h1.2.1;have a1:r1.1.1<4:=h1.2.2 (show(1:Int)<=4 by decide);have hs:SOk E (N+2) (r2.2.1,s.2):=h.rd h2.1 (by omega);refine Tot.join (A:=λ j=>SOk E (N+2) j.1/\0<=j.2.2.1/\j.2.2.1<4) ?_ (λ j hj=> ?_)
 ·exact Tot.ite (λ _=>Tot.ret ⟨hs,a0,a1⟩) (λ _=>Tot.ite (λ _=>Tot.ret ⟨hs,a0,a1⟩) (λ _=>Tot.ret ⟨hs,a0,a1⟩))
 clear hs a0 a1;refine Tot.ite (λ _=>Tot.bind (alP hj.1 (by omega)) λ r4 h4=>Tot.ret (h4.up (by omega))) (λ _=> ?_);refine Tot.join (A:=λ j=>SOk E (N+2) j.1/\0<=j.2.2.1/\j.2.2.1<4) ?_ (λ j hj=> ?_)
 ·exact Tot.ite (λ _=>Tot.ret hj) (λ _=>Tot.ite (λ _=>Tot.ret hj) (λ _=>Tot.ite (λ _=>Tot.ret hj) (λ _=>Tot.ite (λ _=>Tot.ret hj) (λ _=>Tot.ite (λ _=>Tot.ret hj) (λ _=>Tot.ret hj)))))
 refine Tot.ite (λ _=> ?_) (λ _=> ?_)
 ·refine Tot.bind (au hj.1.r (by omega)) λ r3 h3=> ?_;have hv:r3.1.1<7:=h3.2.2 (show(1:Int)<=7 by decide);have hv0:=h3.2.1;have hw:w64 (1+r3.1.1)=1+r3.1.1:=ai (by omega) (by omega);exact Tot.bind (L9 (hj.1.rd h3.1 (by omega)) (by rw[hw];omega) (by rw[hw];omega) (by omega)) λ r4 h4=>Tot.ret (h4.up (by omega))
 refine Tot.join (A:=λ j=>SOk E (N+2) j.1/\0<=j.2.2.1/\j.2.2.1<4) ?_ (λ j hj=> ?_)
 ·exact Tot.ite (λ _=>Tot.ret hj) (λ _=>Tot.ret hj)
 refine Tot.ite (λ _=> ?_) (λ _=> ?_)
 ·refine Tot.bind (au hj.1.r (by omega)) λ r3 h3=> ?_;have hv:r3.1.1<20:=h3.2.2 (show(1:Int)<=20 by decide);have hv0:=h3.2.1;have hw:w64 (1+r3.1.1)=1+r3.1.1:=ai (by omega) (by omega);exact Tot.bind (N7 (hj.1.rd h3.1 (by omega)) (by rw[hw];omega) (by omega)) λ r4 h4=>Tot.ret (h4.up (by omega))
 refine Tot.join (A:=λ j=>SOk E (N+2) j.1/\0<=j.2.1/\j.2.1<4) ?_ (λ j hj=> ?_)
 ·exact Tot.ite (λ _=>Tot.ret hj) (λ _=>Tot.ret hj)
 refine Tot.ite (λ _=>Tot.bind (Iy hj.1 (by omega) nz) λ r4 h4=>Tot.ret (h4.up (by omega))) (λ _=> ?_);refine Tot.ite (λ _=>Tot.bind (au hj.1.r (by omega)) λ r3 h3=>Tot.bind (Iy (hj.1.rd h3.1 (by omega)) (by omega) nz) λ r4 h4=>Tot.ret (h4.up (by omega))) (λ _=> ?_);refine Tot.join (A:=λ j=>SOk E (N+2) j.1/\0<=j.2.1/\j.2.1<4) ?_ (λ j hj=> ?_)
 ·exact Tot.ite (λ _=>Tot.ret hj) (λ _=>Tot.ret hj)
 refine Tot.ite (λ _=>Tot.bind (Iy hj.1 (by omega) nz) λ r4 h4=>Tot.ret (h4.up (by omega))) (λ _=> ?_);refine Tot.ite (λ _=>Tot.bind (au hj.1.r (by omega)) λ r3 h3=>Tot.bind (au h3.1 (by omega)) λ r4 h4=>Tot.bind (Iy (hj.1.rd h4.1 (by omega)) (by omega) nz) λ r5 h5=>Tot.ret (h5.up (by omega))) (λ _=> ?_);refine Tot.join (A:=λ j=>SOk E (N+2) j.1/\0<=j.2.1/\j.2.1<4) ?_ (λ j hj=> ?_)
 ·exact Tot.ite (λ _=>Tot.ret hj) (λ _=>Tot.ret hj)
 refine Tot.ite (λ _=> ?_) (λ _=> ?_)
 ·have hk:=hj.1.w.has hj.2.1 hj.2.2;refine Tot.pos hk.2.2 (Tot.bind (ae5 hk.1) λ r6 h6=> ?_);subst h6;refine Tot.ite (λ hl=> ?_) (λ hl=>Tot.ret (hj.1.up (by omega)));have hl:(0:Int)<((stT (kA j.1.2.2.1 j.2.1.toNat)).inbox.length:Int):=auv hl;refine Tot.bind (au hj.1.r (by omega)) λ r7 h7=>Tot.pos (et h7.2.1 (h7.2.2 hl)) (Tot.bind (Iy (hj.1.rd h7.1 (by omega)) (by omega) nz) λ r8 h8=>Tot.ret (h8.up (by omega)))
 refine Tot.ite (λ _=>Tot.bind (au hj.1.r (by omega)) λ r3 h3=>Tot.bind (Iy (hj.1.rd h3.1 (by omega)) (by omega) nz) λ r4 h4=>Tot.ret (h4.up (by omega))) (λ _=> ?_);refine Tot.join (A:=λ j=>SOk E (N+2) j.1) ?_ (λ j hj=> ?_)
 ·exact Tot.ite (λ _=>Tot.ret hj.1) (λ _=>Tot.ite (λ _=>Tot.ret hj.1) (λ _=>Tot.ret hj.1))
 have hj:SOk E (N+2) j.1:=hj;refine Tot.ite (λ _=>Tot.bind (amJ hj (by omega)) λ r4 h4=>Tot.ret (h4.up (by omega))) (λ _=> ?_);refine Tot.sum (P:=λ _=>False) (Q:=λ y=>SOk E (N+25000) y.1) ?_ (λ _ h=>h.elim) (λ y hy=>Tot.ret hy);refine Tot.loop (λ k y=>SOk E (N+2+2200 * k) y.1/\y.2.1=(k:Int)) _ 4 (λ k y hk hy=> ?_) ⟨hj,rfl⟩;unfold oC;refine Tot.ite (λ hc=> ?_) (λ hc=>Tot.ret (show SOk E (N+25000) _ from hy.1.up (by omega)));have hc:=auv hc;have hy2:=hy.2;exact Tot.bind (L9 hy.1 (by decide) (by decide) (by omega)) λ r5 h5=>Tot.bind (N7 h5 (by decide) (by omega)) λ r6 h6=>Tot.ret ⟨by omega,h6.up (by omega),qT hy.2 (by omega)⟩
end Go.VS
namespace Go.VS
open Go
variable {E:List Event}
def akj{i:Int}(h:isN i=true):gM (i,())=some (((i,true,noB,0,[],()),()),()):=by
 unfold gM;simp only[dG,auE,h,auG,auD]
def aki:mw ()=some (((rv0.ti,rv0.anC,rv0.anS,rv0.anF,rv0.aoF,rv0.got,()),()),()):=by
 have h0:l6 ((0,([]:List anv),([]:List Bool),([]:List anB),([]:List anz),([]:List anz),()),(0,([]:List anv),([]:List Bool),([]:List anB),([]:List anz),([]:List anz),()),0,())
   =some (.inr ((0,[],[],[],[],[],()),(0,[kp0 0,kp0 1,kp0 2,kp0 3],[],[],[],[],()),())):=by
  have st:∀(n:Nat) (l:List anv),n<4->l.length<=4->kU ((0,[],[],[],[],[],()),(0,l,[],[],[],[],()),(n:Int),())=some (.inl ((0,[],[],[],[],[],()),(0,l++[kp0 n],[],[],[],[],()),((n+1:Nat):Int),())):=by
   intro n l hn hl;unfold kU;have hi:isN (n:Int)=true:=ah.2 ⟨by omega,by omega⟩;rw[aus (aut (show(n:Int)<4 by omega))];rw[show gM (_,())=_ from akj hi];simp only[auE];rw[aus (aH (by simp;omega)),ai (by omega) (by omega)];rfl
  exact aj (st 0 [] (by decide) (by decide)) (aj (st 1 _ (by decide) (by decide)) (aj (st 2 _ (by decide) (by decide)) (aj (st 3 _ (by decide) (by decide)) (ao (by rfl)))))
 have h1:l5 ((0,([]:List anv),([]:List Bool),([]:List anB),([]:List anz),([]:List anz),()),(0,[kp0 0,kp0 1,kp0 2,kp0 3],[],[],[],[],()),0,())
   =some (.inr ((0,[],[],[],[],[],()),(0,[kp0 0,kp0 1,kp0 2,kp0 3],[true,true,true],[],[],[],()),())):=by
  have st:∀(n:Nat) (l:List Bool),n<3->l.length<=4->gK ((0,[],[],[],[],[],()),(0,[kp0 0,kp0 1,kp0 2,kp0 3],l,[],[],[],()),(n:Int),())=some (.inl ((0,[],[],[],[],[],()),(0,[kp0 0,kp0 1,kp0 2,kp0 3],l++[true],[],[],[],()),((n+1:Nat):Int),())):=by
   intro n l hn hl;unfold gK;have hw:w64 ((n:Int)+1)=((n+1:Nat):Int):=by rw[ai (by omega) (by omega)];rfl
   simp only[hw];rw[aus (aut (show((n+1:Nat):Int)<4 by omega)),aus (aH (by simp;omega))]
  refine aj (st 0 [] (by decide) (by decide)) (aj (st 1 _ (by decide) (by decide)) (aj (st 2 _ (by decide) (by decide)) (ao ?_)));unfold gK;have hw:w64 (((2+1:Nat):Int)+1)=4:=by rw[ai (by omega) (by omega)];rfl
  simp only[hw];rfl
 unfold mw;rw[h0];simp only[c8];rw[h1];rfl
def air{N:Nat}{r:List Int×Int×auC}(h:anU N r){aol:Int}(hm0:1<=aol)(hm:aol<=12)(hN:N<=400000):
  Tot (mN (r,aol,())) λ a=>anU (N+310000) a.2.1/\WOk [] (N+310000) a.1.1.2:=by
 unfold mN;rw[aki];simp only[auE];refine Tot.bind (au h (by omega)) λ r2 h2=>Tot.pos (et h2.2.1 (h2.2.2 (show(1:Int)<=5 by decide))) ?_;have hs:SOk [] (N+1) (r2.2.1,rv0.ti,rv0.anC,rv0.anS,rv0.anF,rv0.aoF,rv0.got,([]:List Event),()):=⟨h2.1,rv0,[],rfl,.nil,avM _⟩;refine Tot.bind (alP hs (by omega)) λ r4 h4=>Tot.bind (au h4.r (by omega)) λ r9 h9=> ?_;refine Tot.sum (P:=λ _=>False) (Q:=λ y=>anU (N+310000) y.1/\WOk [] (N+310000) y.2.1.2) ?_ (λ _ h=>h.elim) (λ y hy=>Tot.ret hy);have hn0:=h9.2.1;have hn:r9.1.1<12:=by
  have:r9.1.1<aol:=h9.2.2 hm0;omega
 refine Tot.loop (λ i y=>anU (N+12+25000 * i) y.1/\WOk [] (N+12+25000 * i) y.2.1.2/\y.2.2.2.1=r9.1.1 - (i:Int)) _ r9.1.1.toNat (λ i y hi hy=> ?_) ⟨h9.1.up (by omega),h4.w.up (by omega),by show r9.1.1=r9.1.1 - 0;omega⟩;obtain⟨hr,hw,hy⟩:=hy;unfold wi;refine Tot.ite (λ hc=> ?_) (λ hc=>Tot.ret ⟨hr.up (by omega),hw.up (by omega)⟩);have hc:=auv hc;refine Tot.bind (ame (s:=(y.1,y.2.1.2)) ⟨hr,hw⟩ _ (by omega)) λ r5 h5=>Tot.ret ⟨by omega,h5.r.up (by omega),h5.w.up (by omega), ?_⟩;show w64 (y.2.2.2.1 - 1)=r9.1.1 - ((i+1:Nat):Int);rw[ai (by omega) (by omega)];omega
end Go.VS
namespace Go.VS
open Go
def aiB{l:List Int}(hb:BOk l):Tot (o3 (l,())) λ a=>anU 0 a.1.1:=by
 unfold o3;refine Tot.ite (λ hc=> ?_) (λ hc=>Tot.ret ⟨?_,hb,axr _,axr _⟩)
 ·have hc:(2000:Int)<(l.length:Int):=auv hc;refine Tot.pos (by simp;omega) (Tot.ret ⟨?_,λ x hx=>hb x (av6 hx),axr _,axr _⟩);show(au3 (auK 2000) l).length<=2000;rw[avv];omega
 ·have:¬(2000:Int)<(l.length:Int):=auw hc;show l.length<=2000;omega
def Uq{s:auB}{n:Int}(hs:s.size<=1)(h0:0<=n)(hn:n<128):Tot (gk (s,n,())) λ a=>a.1.1.size<=1000:=by
 unfold gk;refine Tot.sum (P:=λ _=>False) (Q:=λ y=>y.1.size<=1000) ?_ (λ _ h=>h.elim) (λ y hy=>Tot.ret hy);refine Tot.loop (λ i x=>x.1.size<=2 ^ i/\0<=x.2.1/\x.2.1<((2 ^ (7 - i):Nat):Int)/\x.2.2.1.size<=128 * i) _ 7 (λ i x hi hx=> ?_) ⟨by simpa using hs,h0,by simpa using hn,avM _⟩;obtain⟨h1,h2,h3,h4⟩:=hx;unfold xL;refine Tot.ite (λ hc=> ?_) (λ hc=>Tot.ret (show x.2.2.1.size<=1000 by omega));have hc:=auv hc;have hi7:i<7:=by
  rcases awm i 7 with h|h
  ·exact h
  ·have:i=7:=by omega
   subst this;simp at h3;omega
 have hp:2 ^ i<=128:=azc (by decide) (by omega:i<=7);have hp2:(2:Nat) ^ (i+1)=2 * 2 ^ i:=by rw[ayn];omega
 have hp3:(2:Nat) ^ (7 - i)=2 * 2 ^ (7 - (i+1)):=by
  rw[show 7 - i=(7 - (i+1))+1 by omega,ayn];omega
 have hp4:(2:Nat) ^ (7 - i)<=128:=azc (by decide) (by omega:7 - i<=7);refine Tot.join (A:=λ j=>j.1=x.1/\j.2.1=x.2.1/\j.2.2.1.size<=128 * (i+1)) ?_ (λ j hj=> ?_)
 ·refine Tot.ite (λ hc=>Tot.pos (by simp;omega) (Tot.ret ⟨rfl,rfl, ?_⟩)) (λ hc=>Tot.ret ⟨rfl,rfl,by omega⟩);show(x.2.2.1++x.1).size<=128 * (i+1);rw[aB];omega
 ·obtain⟨j1,j2,j3⟩:=hj;refine Tot.pos (by rw[j1];simp;omega) (Tot.ret ⟨by omega, ?_, ?_, ?_,j3⟩)
  ·show(j.1++j.1).size<=2 ^ (i+1);rw[aB,j1];omega
  ·show 0<=w64 (au6 j.2.1 2);rw[j2,avx h2,ai (by omega) (by omega)];omega
  ·show w64 (au6 j.2.1 2)<((2 ^ (7 - (i+1)):Nat):Int);rw[j2,avx h2,ai (by omega) (by omega)];omega
def amb{N:Nat}{r:List Int×Int×auC}(h:anU N r)(hN:N<=900000):Tot (qY (r,())) λ a=>anU (N+30) a.2.1/\a.1.1.size<=1000:=by
 unfold qY;refine Tot.bind (au h (by omega)) λ r1 h1=>Tot.ite (λ _=> ?_) (λ _=>Tot.ite (λ _=> ?_) (λ _=> ?_))
 ·refine Tot.bind (Uq (by decide) (by decide) (by decide)) λ r14 h14=>Tot.bind (Uq (by decide) (by decide) (by decide)) λ r15 h15=>Tot.bind (aae h1.1 (by omega) (by simp)) λ r16 h16=>Tot.ret ⟨h16.1.up (by omega), ?_⟩;have hx:=h16.2;simp only[au5,ayL,or_false]at hx;rcases hx with hx|hx|hx|hx|hx<;>rw[hx]
  ·decide
  ·exact h14
  ·exact h15
  ·decide
  ·decide
 ·refine Tot.bind (au h1.1 (by omega)) λ r2 h2=>Tot.sum (P:=λ _=>False) (Q:=λ y=>anU (N+30) y.1/\y.2.1.length<=30) ?_ (λ _ h=>h.elim) (λ y hy=>Tot.ret ⟨hy.1, ?_⟩)
  ·have hv:r2.1.1<20:=h2.2.2 (show(1:Int)<=20 by decide);have hv0:=h2.2.1;have hw:w64 (1+r2.1.1)=1+r2.1.1:=ai (by omega) (by omega);refine Tot.loop (λ i x=>anU (N+2+i) x.1/\x.2.1.length<=i/\x.2.2.1=1+r2.1.1 - (i:Int)) _ (1+r2.1.1).toNat (λ i x hi hx=> ?_) ⟨h2.1,avM _,by show w64 (1+r2.1.1)=1+r2.1.1 - 0;omega⟩;obtain⟨x1,x2,x3⟩:=hx;unfold wh;refine Tot.ite (λ hc=> ?_) (λ hc=>Tot.ret ⟨x1.up (by omega),by show x.2.1.length<=30;omega⟩);have hc:=auv hc;refine Tot.bind (au x1 (by omega)) λ r3 h3=>Tot.pos (aH (by simp;omega)) (Tot.ret ⟨by omega,h3.1.up (by omega),by simp;omega, ?_⟩);show w64 (x.2.2.1 - 1)=1+r2.1.1 - ((i+1:Nat):Int);rw[ai (by omega) (by omega)];omega
  ·show(eS y.2.1).size<=1000;rw[BI];omega
 ·exact Tot.bind (aae h1.1 (by omega) (by decide)) λ r16 h16=>Tot.ret ⟨h16.1.up (by omega),OF h16.2 (by decide)⟩
def aiH{N:Nat}{r:List Int×Int×auC}(h:anU N r)(hN:N<=800000):Tot (mK (r,())) λ a=>anU (N+60) a.2.1/\a.1.1.2.2.2.2.1.size<=1000:=by
 unfold mK;refine Tot.bind (au h (by omega)) λ r1 h1=>Tot.bind (au h1.1 (by omega)) λ r2 h2=>Tot.bind (au h2.1 (by omega)) λ r3 h3=>Tot.bind (au h3.1 (by omega)) λ r4 h4=>Tot.bind (aae h4.1 (by omega) (by decide)) λ r5 h5=>Tot.bind (au h5.1 (by omega)) λ r6 h6=> ?_;have hz:=OF h5.2 (by decide);refine Tot.ite (λ _=> ?_) (λ _=> ?_)
 ·exact Tot.bind (au h6.1 (by omega)) λ r7 h7=>Tot.pos (et h7.2.1 (h7.2.2 (show(1:Int)<=2 by decide))) (Tot.ret ⟨h7.1.up (by omega),hz⟩)
 refine Tot.ite (λ _=> ?_) (λ _=> ?_)
 ·exact Tot.bind (au h6.1 (by omega)) λ r7 h7=>Tot.pos (et h7.2.1 (h7.2.2 (show(1:Int)<=3 by decide))) (Tot.ret ⟨h7.1.up (by omega),hz⟩)
 refine Tot.ite (λ _=> ?_) (λ _=> ?_)
 ·exact Tot.bind (au h6.1 (by omega)) λ r7 h7=>Tot.pos (et h7.2.1 (h7.2.2 (show(1:Int)<=3 by decide))) (Tot.ret ⟨h7.1.up (by omega),hz⟩)
 refine Tot.ite (λ _=> ?_) (λ _=> ?_)
 ·exact Tot.bind (amb h6.1 (by omega)) λ r7 h7=>Tot.ret ⟨h7.1.up (by omega),h7.2⟩
 refine Tot.ite (λ _=> ?_) (λ _=> ?_)
 ·exact Tot.bind (au h6.1 (by omega)) λ r7 h7=>Tot.pos (et h7.2.1 (h7.2.2 (show(1:Int)<=2 by decide))) (Tot.ret ⟨h7.1.up (by omega),hz⟩)
 ·exact Tot.ret ⟨h6.1.up (by omega),hz⟩
def ahJ{n:anz}(h:ay n=true):(wr n).size<=100:=by
 obtain⟨⟨a,b⟩,⟨c,d⟩,⟨e,f⟩,_,t,_,_,z,_⟩:=T4 h;have t:=jv t;have h1:(cZ n.fr).size<=3:=dQ a (by omega) (by decide);have h2:(cZ n.nu).size<=3:=dQ c (by omega) (by decide);have h3:(cZ n.to).size<=3:=dQ t.1 (by omega) (by decide);have h4:(cZ n.un).size<=3:=dQ e (by omega) (by decide);unfold wr;simp only[aB,aW,auZ,avf];omega
def adM{a b c:Int}(ha:0<=a/\a<=999)(hb:0<=b/\b<=999)(hc:0<=c/\c<=999):(((((cZ a++B [32])++cZ b)++B [32])++cZ c)).size<=100:=by
 have h1:(cZ a).size<=3:=dQ ha.1 (by omega) (by decide);have h2:(cZ b).size<=3:=dQ hb.1 (by omega) (by decide);have h3:(cZ c).size<=3:=dQ hc.1 (by omega) (by decide);simp only[aB,aW,auZ,avf];omega
def aeE{a b c:Int}(ha:0<=a/\a<=999)(hb:0<=b/\b<=999)(hc:0<=c/\c<=999):Tot (eD (a,b,c,())) λ r=>r.1.1.size<=100:=
 ⟨_,CS ha hb hc,adM ha hb hc⟩
def ajT{N S:Nat}{w:List UInt8}{s:auB}{r:(List Int×Int×auC)×auC}(hw:w.length<=10)(hs:s.size<=S)(hS:S<=100000)(hr:anU N r.1):
  Tot (if decide ((B w).size+s.size<=4611686018427387904)=true then(let v:=B w++s;some ((v,()),r)) else none) λ a=>anU N a.2.1/\a.1.1.size<=S+10:=by
 have hw:(B w).size<=10:=by rw[aW];exact hw
 refine Tot.pos (aut (by omega)) (Tot.ret ⟨hr, ?_⟩);show(B w++s).size<=S+10;rw[aB];omega
def alL{N:Nat}{r:List Int×Int×auC}(h:anU N r)(hN:N<=700000):Tot (oZ (r,())) λ a=>anU (N+80) a.2.1/\a.1.1.size<=2000:=by
 unfold oZ;refine Tot.bind (au h (by omega)) λ r1 h1=> ?_;refine Tot.ite (λ _=> ?_) (λ _=> ?_)
 ·refine Tot.bind (au h1.1 (by omega)) λ r2 h2=> ?_;have hv:r2.1.1<30:=h2.2.2 (show(1:Int)<=30 by decide);have hv0:=h2.2.1;refine Tot.bind (Tot.eq (bB (n:=r2.1.1) (by omega) (by omega))) λ r3 h3=> ?_;subst h3;have hz:(cZ r2.1.1).size<=2:=dQ hv0 (by omega) (by decide);exact(ajT (N:=N+2) (S:=2) (by decide) hz (by decide) (show anU (N+2) _ from h2.1)).mono λ a ha=>⟨ha.1.up (by omega),by omega⟩
 refine Tot.ite (λ _=> ?_) (λ _=> ?_)
 ·refine Tot.bind (au h1.1 (by omega)) λ r2 h2=>Tot.bind (au h2.1 (by omega)) λ r3 h3=>Tot.bind (au h3.1 (by omega)) λ r4 h4=> ?_;have u1:r2.1.1<4:=h2.2.2 (show(1:Int)<=4 by decide);have u2:r3.1.1<3:=h3.2.2 (show(1:Int)<=3 by decide);have u3:r4.1.1<30:=h4.2.2 (show(1:Int)<=30 by decide);have v1:=h2.2.1;have v2:=h3.2.1;have v3:=h4.2.1;rw[ai (n:=1+r3.1.1) (by omega) (by omega),ai (n:=1+r4.1.1) (by omega) (by omega)];refine Tot.bind (aeE (by omega) (by omega) (by omega)) λ r5 h5=> ?_;exact(ajT (N:=N+4) (S:=100) (by decide) h5 (by decide) (show anU (N+4) _ from h4.1)).mono λ a ha=>⟨ha.1.up (by omega),by omega⟩
 refine Tot.ite (λ _=> ?_) (λ _=> ?_)
 ·refine Tot.bind (au h1.1 (by omega)) λ r2 h2=>Tot.bind (au h2.1 (by omega)) λ r3 h3=>Tot.bind (au h3.1 (by omega)) λ r4 h4=> ?_;have u1:r2.1.1<4:=h2.2.2 (show(1:Int)<=4 by decide);have u2:r3.1.1<3:=h3.2.2 (show(1:Int)<=3 by decide);have u3:r4.1.1<30:=h4.2.2 (show(1:Int)<=30 by decide);have v1:=h2.2.1;have v2:=h3.2.1;have v3:=h4.2.1;rw[ai (n:=1+r3.1.1) (by omega) (by omega),ai (n:=1+r4.1.1) (by omega) (by omega)];refine Tot.bind (aeE (by omega) (by omega) (by omega)) λ r5 h5=> ?_;exact(ajT (N:=N+4) (S:=100) (by decide) h5 (by decide) (show anU (N+4) _ from h4.1)).mono λ a ha=>⟨ha.1.up (by omega),by omega⟩
 refine Tot.ite (λ _=> ?_) (λ _=> ?_)
 ·refine Tot.bind (Uq (by decide) (by decide) (by decide)) λ r14 h14=>Tot.bind (Uq (by decide) (by decide) (by decide)) λ r15 h15=>Tot.bind (aae h1.1 (by omega) (by simp)) λ r16 h16=>Tot.ret ⟨h16.1.up (by omega), ?_⟩;have hx:=h16.2;simp only[au5,ayL,or_false]at hx;show r16.1.1.size<=2000;rcases hx with hx|hx|hx|hx|hx|hx|hx|hx|hx|hx|hx|hx|hx|hx<;>rw[hx]
  all_goals first|decide|(exact avr h14 (by decide))|(exact avr h15 (by decide))
 ·refine Tot.bind (aae h1.1 (by omega) (by decide)) λ r2 h2=>Tot.bind (aiH h2.1 (by omega)) λ r3 h3=> ?_;have hz:=OF h2.2 (by decide);have hn:=h3.2;have hw:Tot (cj r3.1) λ a=>a.1.1.size<=100:=by
   obtain⟨⟨⟨fr,nu,tt,un,tx,_⟩,_⟩,q⟩:=r3;refine⟨_,gv (show tx.size<=1048576 by have:tx.size<=1000:=hn;omega), ?_⟩;show ay0 (if ay ⟨fr,nu,tt,un,tx⟩=true then _ else _)<=100;split
   ·exact ahJ (by assumption)
   ·decide
  refine Tot.bind hw λ r4 h4=>Tot.pos (aut (by omega)) (Tot.ret ⟨h3.1.up (by omega), ?_⟩);show(r2.1.1++r4.1.1).size<=2000;rw[aB];omega
def ad9(s:auB)(a b:Nat):(s.extract a b).size<=s.size:=by
 rw[axd];omega
def amY{N S:Nat}{r:List Int×Int×auC}{s:auB}(h:anU N r)(hN:N<=900000)(hs:s.size<=S)(hS:S<=100000):Tot (qZ (r,s,())) λ a=>anU (N+10) a.2.1/\a.1.1.size<=2 * S+1000:=by
 unfold qZ;refine Tot.ite (λ _=>Tot.ret ⟨h.up (by omega),show s.size<=2 * S+1000 by omega⟩) (λ hc=> ?_);have hc:¬((s.size:Int)=0):=auw hc;refine Tot.bind (au h (by omega)) λ r1 h1=>Tot.ite (λ _=>Tot.ret ⟨h1.1.up (by omega),show s.size<=2 * S+1000 by omega⟩) (λ _=> ?_);refine Tot.bind (au h1.1 (by omega)) λ r4 h4=>Tot.bind (au h4.1 (by omega)) λ r5 h5=> ?_;have v0:=h4.2.1;have v1:r4.1.1<(s.size:Int):=h4.2.2 (show(1:Int)<=(s.size:Int) by omega);have hw:w64 (r4.1.1+1)=r4.1.1+1:=ai (by omega) (by omega);have c1:(decide (0<=r4.1.1)&&decide (r4.1.1<=(s.size:Int)))=true:=by simp;omega
 have c2:(decide (0<=r4.1.1+1)&&decide (r4.1.1+1<=(s.size:Int)))=true:=by simp;omega
 simp only[hw];have e1:=ad9 s 0 r4.1.1.toNat;have e2:=ad9 s (r4.1.1+1).toNat s.size;have e3:=ad9 s r4.1.1.toNat s.size;have app:∀a b:auB,(a++b).size=a.size+b.size:=aB;refine Tot.ite (λ _=>Tot.pos c1 (Tot.pos c2 (Tot.pos (aut (by omega)) (Tot.ret ⟨h5.1.up (by omega), ?_⟩)))) (λ _=> ?_)
 ·show(s.extract 0 r4.1.1.toNat++s.extract (r4.1.1+1).toNat s.size).size<=2 * S+1000;rw[app];omega
 refine Tot.ite (λ _=>Tot.pos c1 (Tot.bind (aae h5.1 (by omega) (by decide)) λ r6 h6=> ?_)) (λ _=> ?_)
 ·have hz:=OF h6.2 (by decide);refine Tot.pos (aut (by omega)) (Tot.pos c1 (Tot.pos (aut (by rw[app];omega)) (Tot.ret ⟨h6.1.up (by omega), ?_⟩)));show((s.extract 0 r4.1.1.toNat++r6.1.1)++s.extract r4.1.1.toNat s.size).size<=2 * S+1000;rw[app,app];rw[axd,axd]at *;omega
 refine Tot.ite (λ _=>Tot.pos c1 (Tot.bind (aae h5.1 (by omega) (by decide)) λ r6 h6=> ?_)) (λ _=> ?_)
 ·have hz:=OF h6.2 (by decide);refine Tot.pos (aut (by omega)) (Tot.pos c2 (Tot.pos (aut (by rw[app];omega)) (Tot.ret ⟨h6.1.up (by omega), ?_⟩)));show((s.extract 0 r4.1.1.toNat++r6.1.1)++s.extract (r4.1.1+1).toNat s.size).size<=2 * S+1000;rw[app,app];omega
 refine Tot.ite (λ _=>Tot.pos (aut (show s.size+s.size<=4611686018427387904 by omega)) (Tot.ret ⟨h5.1.up (by omega), ?_⟩)) (λ _=>Tot.pos c1 (Tot.ret ⟨h5.1.up (by omega), ?_⟩))
 ·show(s++s).size<=2 * S+1000;rw[app];omega
 ·show(s.extract 0 r4.1.1.toNat).size<=2 * S+1000;omega
def alH{lg r:auB}{fo:Int}(h:lg.size<=2400):(Oc lg fo r).1.1.size<=2400:=by
 unfold Oc;split
 ·split
  ·rename_i h1;simp only[auF,decide_eq_true_eq]at h1;show(lg++cw r).size<=2400;rw[aB];omega
  ·exact h
 ·exact avM _
def ald{lg:auB}{fo:Int}(h:lg.size<=2400):(Ck lg fo).1.size<=2400:=by
 unfold Ck;split
 ·exact h
 ·exact avM _
def akq{N:Nat}{r:List Int×Int×auC}(h:anU N r)(hN:N<=690000):Tot (pr (r,())) λ a=>anU (N+2000) a.2.1/\a.1.1.1.size<=100000:=by
 unfold pr;refine Tot.bind (au h (by omega)) λ r1 h1=> ?_;have v0:=h1.2.1;have v1:r1.1.1<9:=h1.2.2 (show(1:Int)<=9 by decide);refine Tot.sum (P:=λ _=>False) (Q:=λ y=>anU (N+1000) y.1/\y.2.2.1.1.size<=2400) ?_ (λ _ h=>h.elim) (λ y hy=> ?_)
 ·refine Tot.loop (λ i x=>anU (N+1+81 * i) x.1/\x.2.2.1.1.size<=2400/\x.2.2.2.1=r1.1.1 - (i:Int)) _ r1.1.1.toNat (λ i x hi hx=> ?_) ⟨h1.1,show noB.size<=2400 by decide,by show r1.1.1=r1.1.1 - 0;omega⟩;obtain⟨x1,x2,x3⟩:=hx;unfold uh;refine Tot.ite (λ hc=> ?_) (λ hc=>Tot.ret ⟨x1.up (by omega),x2⟩);have hc:=auv hc;have hw:w64 (x.2.2.2.1 - 1)=r1.1.1 - ((i+1:Nat):Int):=by
   rw[ai (by omega) (by omega)];omega
  refine Tot.bind (alL x1 (by omega)) λ r2 h2=> ?_;have ha:=wj (lg:=x.2.2.1.1) (r:=r2.1.1) (fo:=x.2.2.1.2.1) (by omega) (by omega);refine Tot.bind (Tot.eq (show eE (x.2.2.1,r2.1)=_ from ha)) λ r3 h3=> ?_;subst h3;have hz:=alH (r:=r2.1.1) (fo:=x.2.2.1.2.1) x2;refine Tot.bind (au h2.1 (by omega)) λ r4 h4=>Tot.ite (λ _=> ?_) (λ _=>Tot.ret ⟨by omega,h4.1.up (by omega),hz,hw⟩);refine Tot.bind (Tot.eq (mv (by omega))) λ r5 h5=> ?_;subst h5;exact Tot.ret ⟨by omega,h4.1.up (by omega),ald hz,hw⟩
 ·obtain⟨y1,y2⟩:=hy;refine Tot.bind (au y1 (by omega)) λ r2 h2=> ?_;refine Tot.ite (λ _=>Tot.bind (amY h2.1 (by omega) y2 (by decide)) λ r3 h3=>Tot.ret ⟨h3.1.up (by omega),avr h3.2 (by decide)⟩) (λ _=> ?_);refine Tot.ite (λ _=> ?_) (λ _=> ?_)
  ·exact Tot.bind (au h2.1 (by omega)) λ r3 h3=>Tot.bind (au h3.1 (by omega)) λ r4 h4=>Tot.pos (et h4.2.1 (h4.2.2 (show(1:Int)<=3 by decide))) (Tot.ret ⟨h4.1.up (by omega),avr y2 (by decide)⟩)
  refine Tot.ite (λ _=> ?_) (λ _=>Tot.ret ⟨h2.1.up (by omega),avr y2 (by decide)⟩);refine Tot.sum (P:=λ _=>False) (Q:=λ y=>anU (N+2000) y.1/\y.2.2.1.1.size<=100000) ?_ (λ _ h=>h.elim) (λ y hy=>Tot.ret hy);refine Tot.loop (λ i x=>anU (N+1001+2 * i) x.1/\x.2.2.1.1.size<=2400+1100 * i/\x.2.2.2.1=(i:Int)) _ 40 (λ i x hi hx=> ?_) ⟨h2.1,y2,rfl⟩;obtain⟨x1,x2,x3⟩:=hx;unfold ug;refine Tot.bind (au x1 (by omega)) λ r3 h3=>Tot.ite (λ hc=> ?_) (λ hc=>Tot.ret ⟨h3.1.up (by omega),by show x.2.2.1.1.size<=100000;omega⟩);have hc:=auv hc;have v0:=h3.2.1;have v1:r3.1.1<3:=h3.2.2 (show(1:Int)<=3 by decide);rw[ai (by omega) (by omega)]at hc;refine Tot.bind (au h3.1 (by omega)) λ r4 h4=> ?_;have u0:=h4.2.1;have u1:r4.1.1<3:=h4.2.2 (show(1:Int)<=3 by decide);have hw:w64 (58+r4.1.1)=58+r4.1.1:=ai (by omega) (by omega);refine Tot.bind (Uq (by decide) (by rw[hw];omega) (by rw[hw];omega)) λ r5 h5=> ?_;refine Tot.bind (Tot.eq (show dF r5.1=_ from uY (r:=r5.1.1) (by omega))) λ r6 h6=> ?_;subst h6;have hz:=xz (r:=r5.1.1) (by omega);refine Tot.pos (aut (by show x.2.2.1.1.size+(cw r5.1.1).size<=4611686018427387904;omega)) (Tot.ret ⟨by omega,h4.1.up (by omega), ?_,qT x3 (by omega)⟩);show(x.2.2.1.1++cw r5.1.1).size<=2400+1100 * (i+1);rw[aB];omega
variable {E:List Event}
def KOk(y:Int×Bool×auB×Int×List anD×auC):Prop:=∃k,y=tKp k/\cR k/\aiF k.anw
def aqi(y:Int×Bool×auB×Int×List anD×auC):Prop:=∃k,y=tKp k/\cR k/\ao0 k
def ao0.odd{k:anv}(h:ao0 k):aiF k.anw:=λ x hx=> .inl (h x hx)
def aqi.ok{y:_}(h:aqi y):KOk y:=by
 obtain⟨k,e,h1,h2⟩:=h;exact⟨k,e,h1,h2.odd⟩
def YOk(t:Int×List anv×List Bool×List anB×List anz×List anz×auC):Prop:=∃(w:anI) (ev:List Event),t=(w.ti,w.anC,w.anS,w.anF,w.aoF,w.got,())/\Reach ev w
def ab8{N:Nat}{r:List Int×Int×auC}(h:anU N r)(hN:N<=350000):Tot (jF (r,())) λ a=>anU (N+320000) a.2.1/\YOk a.1.1/\KOk a.1.2.1:=by
 unfold jF;refine Tot.bind (air h (by decide) (by decide) (by omega)) λ r1 h1=>Tot.join (A:=λ j=>anU (N+312000) j.1/\WOk [] (N+312000) j.2.2.2.1.2) ?_ (λ j hj=> ?_)
 ·refine Tot.bind (au h1.1 (by omega)) λ r2 h2=>Tot.ite (λ _=> ?_) (λ _=>Tot.ret ⟨h2.1.up (by omega),h1.2.up (by omega)⟩);exact Tot.bind (L9 (s:=(r2.2.1,r1.1.1.2)) ⟨h2.1,h1.2.up (by omega)⟩ (by decide) (by decide) (by omega)) λ r3 h3=>Tot.ret ⟨h3.r.up (by omega),h3.w.up (by omega)⟩
 ·obtain⟨hr,hw⟩:=hj;have hy:YOk (j.2.2.2.1.2.1,j.2.2.2.1.2.2.1,j.2.2.2.1.2.2.2.1,j.2.2.2.1.2.2.2.2.1,j.2.2.2.1.2.2.2.2.2.1,j.2.2.2.1.2.2.2.2.2.2.1,()):=by
   obtain⟨w,ev,e,hw,_⟩:=hw;rw[e];exact⟨w,_,rfl,hw⟩
  refine Tot.bind (au hr (by omega)) λ r7 h7=> ?_;have hk:=hw.has h7.2.1 (h7.2.2 (show(1:Int)<=4 by decide));have hsm:=eW hk.1;have aro:=hw.big h7.2.1 (h7.2.2 (show(1:Int)<=4 by decide));refine Tot.pos hk.2.2 (Tot.bind (Tot.eq (show bu ((_,_,_,_,_,()),())=_ from dZ hsm)) λ r8 h8=>Tot.bind (au h7.1 (by omega)) λ r9 h9=> ?_);have h8':∃K,r8=((tKp K,()),())/\cR K/\aiF K.anw/\K.log.size<=2400/\K.anw.length<=3:=⟨_,h8,hsm,aro.odd,(mZ (ck hk.1).sh).1,(ck hk.1).hl⟩;obtain⟨K,rfl,hsm,aqB,hlg,hhl⟩:=h8';refine Tot.ite (λ _=> ?_) (λ _=> ?_)
  ·exact Tot.bind (au h9.1 (by omega)) λ r10 h10=>Tot.pos (et h10.2.1 (h10.2.2 (show(1:Int)<=3 by decide))) (Tot.ret ⟨h10.1.up (by omega),hy,⟨_,K.up,K.log,K.fo,K.anw⟩,rfl,hsm,aqB⟩)
  refine Tot.ite (λ _=> ?_) (λ _=> ?_)
  ·exact Tot.bind (akq h9.1 (by omega)) λ r10 h10=>Tot.ret ⟨h10.1.up (by omega),hy,⟨K.id,K.up,_,_,K.anw⟩,rfl,⟨avr h10.2 (by decide),hsm.2⟩,aqB⟩
  refine Tot.ite (λ _=> ?_) (λ _=> ?_)
  ·exact Tot.bind (au h9.1 (by omega)) λ r10 h10=>Tot.pos (et h10.2.1 (h10.2.2 (show(1:Int)<=4 by decide))) (Tot.ret ⟨h10.1.up (by omega),hy,⟨K.id,K.up,K.log,_,K.anw⟩,rfl,hsm,aqB⟩)
  refine Tot.ite (λ _=> ?_) (λ _=> ?_)
  ·refine Tot.bind (au h9.1 (by omega)) λ r10 h10=>Tot.bind (au h10.1 (by omega)) λ r11 h11=>Tot.bind (au h11.1 (by omega)) λ r12 h12=>Tot.bind (au h12.1 (by omega)) λ r13 h13=>Tot.bind (au h13.1 (by omega)) λ r14 h14=> ?_;refine Tot.pos (aH (by show K.anw.length+1<=4294967296;have:=hsm.2.1;omega)) (Tot.ret ⟨h14.1.up (by omega),hy,⟨K.id,K.up,K.log,K.fo,K.anw++[⟨r10.1.1,w64 (1+r11.1.1),r12.1.1,9,r13.1.1,[⟨r14.1.1,B [97,98,99,100]⟩]⟩]⟩,rfl,⟨hsm.1, ?_,Mk hsm.2.2 ?_⟩, ?_⟩)
   ·show(K.anw++[_]).length<=1048576;simp;omega
   ·refine⟨avg rfl,λ m hm=> ?_⟩;rw[avh.1 hm];show(B [97,98,99,100]).size<=1048576;decide
   ·exact Mk aqB (.inr ⟨_,rfl⟩)
  refine Tot.ite (λ _=> ?_) (λ _=> ?_)
  ·exact Tot.ret ⟨h9.1.up (by omega),hy,⟨K.id,!K.up,K.log,K.fo,K.anw⟩,rfl,hsm,aqB⟩
  refine Tot.ite (λ _=> ?_) (λ _=> ?_)
  ·refine Tot.bind (alL h9.1 (by omega)) λ r10 h10=> ?_;refine Tot.bind (Tot.eq (show dF r10.1=_ from uY (r:=r10.1.1) (by omega))) λ r11 h11=> ?_;subst h11;have hz:=xz (r:=r10.1.1) (by omega);refine Tot.pos (aut (by show K.log.size+(cw r10.1.1).size<=4611686018427387904;omega)) (Tot.ret ⟨h10.1.up (by omega),hy,⟨K.id,K.up,K.log++cw r10.1.1,K.fo,K.anw⟩,rfl,⟨?_,hsm.2⟩,aqB⟩);show(K.log++cw r10.1.1).size<=1048576;rw[aB];omega
  ·exact Tot.ret ⟨h9.1.up (by omega),hy,K,rfl,hsm,aqB⟩
def YOk.kp{t:_}(h:YOk t){i:Int}(h0:0<=i)(h1:i<4):inb i t.2.1.length=true/\aqi ((@rd anv (dfl .anx) t.2.1 i).id,(@rd anv (dfl .anx) t.2.1 i).up,(@rd anv (dfl .anx) t.2.1 i).log,(@rd anv (dfl .anx) t.2.1 i).fo,(@rd anv (dfl .anx) t.2.1 i).anw,()):=by
 obtain⟨w,ev,rfl,hw⟩:=h;exact⟨et h0 (by show i<(w.anC.length:Int);rw[hw.ok.kl];exact h1),kA w.anC i.toNat,rfl,aeW hw.ok (by omega),hw.gen.b _ (by omega)⟩
def YOk.pc{t:_}(h:YOk t){i:Int}(h0:0<=i)(h1:i<t.2.2.2.1.length):(@rd anB (dfl .anJ) t.2.2.2.1 i).data.size<=40/\t.2.2.2.1.length<=30:=by
 obtain⟨w,ev,rfl,hw⟩:=h;have h1:i<(w.anF.length:Int):=h1;exact⟨(BN (BK hw.ok (i:=i.toNat) (by omega))).2.2.1,hw.ok.rl⟩
end Go.VS
namespace Go.VS
open Go
def Tot.val{o:Option ((Bool×auC)×auC)}(h:Tot o λ a=>a.1.1=true):o=some ((true,()),()):=by
 obtain⟨⟨⟨b,_⟩,_⟩,e,h⟩:=h;rw[e];cases h;rfl
structure an4 (k:anv) (f:Frame) (a b:anE):Prop where
 held:∀n∈a.held,n∈b.held\/(f.ki=2/\f.fr=n.fr/\f.nu=n.nu/\f.src=cO k.id n.to)
 lo:a.held.length<=b.held.length+1
 hi:b.held.length<=a.held.length+1
 inb:a.inbox.length<=b.inbox.length
def an4.same(k:anv)(f:Frame)(a:anE):an4 k f a a:=⟨λ _ h=> .inl h,by omega,by omega,by omega⟩
def aod(d t:Int)(n:anz)(id:Int)(b i:Nat)(x:anv)(l:List Frame):Prop:=
 (n.un<=t/\Safe x ⟨d,t,1,[],[],[]⟩/\aqN x d t []/\(i=0\/ ∃g,l=[Oa 3 g]))\/
 (t<n.un/\((i<b/\aqN x d t (agY n i))\/(i=b/\(∃g,l=[Oa 2 g])/\ ∃o,Safe x o/\o.ti=t/\(n∈o.held\/n∈o.inbox))))
def aod.ok{d t:Int}{n:anz}{id:Int}{b i:Nat}{x:anv}{l:List Frame}(h:aod d t n id b i x l):ae x=true:=by
 rcases h with⟨_,_,h,_⟩|⟨_,⟨_,h⟩|⟨_,_,o,h,_⟩⟩
 ·exact h.ok
 ·exact h.ok
 ·exact h.is.ok
end Go.VS
end
