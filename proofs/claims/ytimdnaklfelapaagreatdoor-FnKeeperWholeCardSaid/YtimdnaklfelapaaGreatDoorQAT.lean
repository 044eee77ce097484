/- An evaluator of the program's own code with its soundness, the printed texts of the functions, and plain laws of them (part 20). -/
import Derived.Test.YtimdnaklfelapaaGreatDoorQAS
set_option linter.unusedVariables false
set_option linter.unusedSimpArgs false
set_option linter.defProp false
open BitVec renaming eq_of_toNat_eq→auK,ofInt→arR,toNat_ofInt→ate
open Bool renaming and_eq_true→aqt,and_false→aqV,and_self→ar6,and_true→auf,false_and→aqz,false_ne_true→aq3,false_or→aqX,not_eq_true'→aro,not_false→aqv,not_true→aqu,or_eq_false_iff→as0,or_eq_true→aq8,or_false→arJ,or_self→ash,or_true→arA,true_and→aqB,true_or→aq5
open ByteArray renaming size→auI,size_extract→asS
open Eq renaming trans→atA
open Int renaming eq_ofNat_of_zero_le→arz,le_refl→as2,mul_le_mul_of_nonneg_right→atf,mul_nonneg→auN,not_lt→at1,tdiv→aqU,tdiv_eq_ediv_of_nonneg→arf,tdiv_nonneg→auv,tmod→arh,tmod_eq_emod_of_nonneg→ar4,tmod_lt_of_pos→asU,tmod_nonneg→atg,toNat→aqy,toNat_natCast→aqJ,toNat_of_nonneg→au1
open List renaming all_cons→ats,all_eq_true→arp,append_assoc→aqP,append_nil→aq6,drop→aq9,drop_append_of_le_length→at2,drop_drop→asP,drop_eq_nil_of_le→asm,drop_sublist→atH,drop_zero→asn,eq_nil_of_length_eq_zero→aq2,ext_getElem?→aui,filter_append→aud,filter_cons→asd,filter_nil→aut,foldl_cons→ars,getD_eq_getElem?_getD→aqE,getElem?_append_right→arj,getElem?_eq_getElem→aqC,getElem?_eq_none→arW,getElem?_map→ari,getElem?_range→arP,getElem?_replicate→as6,getElem?_set→atG,getElem?_set_self→atI,getElem?_take→arT,getElem_mem→ark,getElem_of_mem→arn,length_append→aqD,length_cons→aqM,length_drop→aru,length_filter_le→arM,length_map→ary,length_nil→aq0,length_set→arZ,length_singleton→arN,length_take→arm,map_append→arG,map_congr_left→arK,map_cons→arx,map_id→avd,map_map→ast,map_nil→asI,mem_append→aqL,mem_cons→aqS,mem_cons_of_mem→aqx,mem_cons_self→aqA,mem_filter→ar3,mem_iff_getElem→at0,mem_map→arv,mem_of_mem_drop→asx,mem_of_mem_take→arS,mem_or_eq_of_mem_set→asE,mem_range→arl,mem_singleton→aq4,mem_singleton_self→arX,nil_append→arF,nodup_append→asM,not_mem_nil→auq,pairwise_iff_getElem→auk,range→aqW,range_succ→asz,replicate→aqQ,set→aqZ,set_append_right→auO,take→aqR,take_append_drop→ass,take_length→arC,take_take→auJ
open List.Sublist renaming refl→art
open List.cons renaming injEq→as9
open Nat renaming add_zero→asB,le_of_ble_eq_true→aq1,le_refl→aqG,le_trans→ara,lt_irrefl→auX,lt_or_ge→asi,lt_succ_self→as5,lt_trichotomy→asf,min_eq_left→atO,not_lt_zero→auu,pow_le_pow_right→auU,pow_succ→atY,sub_self→atX,sub_zero→asK,zero_le→arB
open Ne renaming symm→atu
open Option renaming bind_some→aqs,filter_eq_some_iff→asr,getD_some→are,isSome_some→aq7,map_some→atv
open Or renaming inl→auM,inr→auL
open Prod.mk renaming injEq→arb
noncomputable section
namespace Go.VS
open Go
def wv{n:Int}(h0:0≤n)(k:Nat)(hk:1≤k)(h:n < (10 ^ k:Nat)):(cj n).size≤k:=by
 show(Lib.itoa n).length≤k;exact mW h0 k hk h
def FU{r:aqp}(hr:r.size≤1048576):gV (r,())=some ((bV r,()),()):=by
 have hd:=wv (n:=(r.size:Int)) (by omega) 7 (by omega) (by omega);unfold gV;simp only[rF (n:=(r.size:Int)) (by omega) (by omega),aqs];rw[aqh (aqi (by rw[aO];simp;omega)),aqh (aqi (by rw[ay,aO];simp;omega)),aqh (aqi (by rw[ay,ay,aO,aO];simp;omega))];rfl
def sf{r:aqp}(hr:r.size≤1048576):cP (r,())=some ((bV r,()),()):=by
 have hd:=wv (n:=(r.size:Int)) (by omega) 7 (by omega) (by omega);unfold cP;simp only[ba (n:=(r.size:Int)) (by omega) (by omega),aqs];rw[aqh (aqi (by rw[aO];simp;omega)),aqh (aqi (by rw[ay,aO];simp;omega)),aqh (aqi (by rw[ay,ay,aO,aO];simp;omega))];rfl
def uX{r:aqp}(hr:r.size≤1048576):(bV r).size≤r.size+9:=by
 have hd:=wv (n:=(r.size:Int)) (by omega) 7 (by omega) (by omega);unfold bV;simp only[ay,aO];simp;omega
def rOk(r:aqp):Bool:=inB r.size 1 60
def AJ(r:aqp):uN (r,())=some ((rOk r,()),()):=rfl
def Ao(r:aqp):nI (r,())=some ((rOk r,()),()):=rfl
def KV(lg:aqp)(fo:Int)(r:aqp):(aqp×Int)×Bool:=
 if bS lg fo then(if rOk r&&decide (lg.size+(bV r).size≤2400) then((lg++bV r,fo),true) else((lg,fo),false)) else((noB,0),false)
def abT{lg st:aqp}{fo:Int}(b:Bool)(hl:lg.size≤1048576)(hs:st.size≤1048585):
  (if((!b)||(decide (2400 < (w64 ((lg.size:Int)+(st.size:Int)))))) then some (((lg,fo,()),false,()),()) else(if decide (lg.size+st.size≤4611686018427387904) then some (((lg++st,fo,()),true,()),()) else none))=
   some ((((if b&&decide (lg.size+st.size≤2400) then((lg++st,fo),true) else((lg,fo),false)).1.1,(if b&&decide (lg.size+st.size≤2400) then((lg++st,fo),true) else((lg,fo),false)).1.2,()),(if b&&decide (lg.size+st.size≤2400) then((lg++st,fo),true) else((lg,fo),false)).2,()),()):=by
 rw[ah (by omega) (by omega)];cases b
 ·rfl
 ·by_cases h:lg.size+st.size≤2400
  ·rw[aqg (by simp;omega),aqh (aqi (by omega)),aqh (by simp;omega)]
  ·rw[aqh (by simp;omega),aqg (by simp;omega)]
def BF{lg r:aqp}{fo:Int}(hl:lg.size≤1048576)(hr:r.size≤1048576):
  gn ((lg,fo,()),r,())=some ((((KV lg fo r).1.1,(KV lg fo r).1.2,()),(KV lg fo r).2,()),()):=by
 unfold gn KV;simp only[lz hl,aqs];rcases tf (bS lg fo) with e | e
 ·simp only[e,aqu,aqr,aqm,AJ,FU hr,aqs,aq7,are,eY];exact abT (rOk r) hl (by have:=uX hr;omega)
 ·simp only[e,aqv,aqr,aqm]
def tB{lg r:aqp}{fo:Int}(hl:lg.size≤1048576)(hr:r.size≤1048576):
  dI ((lg,fo,()),r,())=some ((((KV lg fo r).1.1,(KV lg fo r).1.2,()),(KV lg fo r).2,()),()):=by
 unfold dI KV;simp only[lc hl,aqs];rcases tf (bS lg fo) with e | e
 ·simp only[e,aqu,aqr,aqm,Ao,sf hr,aqs,aq7,are,eY];exact abT (rOk r) hl (by have:=uX hr;omega)
 ·simp only[e,aqv,aqr,aqm]
def zG(lg:aqp)(fo:Int):aqp×Int:=if bS lg fo then(lg,(lg.size:Int)) else(noB,0)
def JG{lg:aqp}{fo:Int}(hl:lg.size≤1048576):kM ((lg,fo,()),())=some ((((zG lg fo).1,(zG lg fo).2,()),()),()):=by
 unfold kM zG;simp only[lz hl,aqs];rcases tf (bS lg fo) with e | e<;>simp only[e,aqu,aqv,aqr,aqm]
def kF{lg:aqp}{fo:Int}(hl:lg.size≤1048576):cK ((lg,fo,()),())=some ((((zG lg fo).1,(zG lg fo).2,()),()),()):=by
 unfold cK zG;simp only[lc hl,aqs];rcases tf (bS lg fo) with e | e<;>simp only[e,aqu,aqv,aqr,aqm]
def lj{lg:aqp}{fo:Int}(h:bS lg fo=true):lg.size≤2400∧0≤fo∧fo≤lg.size:=by
 unfold bS at h;simp only[aqt]at h;have h1:=aqk h.1;have h2:=ae.1 h.2.1;omega
def tY(lg:aqp)(fo keep:Int):Nat:=(fo+max 0 (min keep ((lg.size:Int) - fo))).toNat
def JV(lg:aqp)(fo keep:Int):aqp×Int:=
 if bS lg fo then((lg.extract 0 (tY lg fo keep)).extract 0 (eC (lg.extract 0 (tY lg fo keep))).2,((eC (lg.extract 0 (tY lg fo keep))).2:Int)) else(noB,0)
def ahR{lg:aqp}{fo keep:Int}(h0:0≤fo)(h1:fo≤lg.size)(h2:lg.size≤2400):
  w64 (fo+(if 0 < (if w64 ((lg.size:Int) - fo) < keep then w64 ((lg.size:Int) - fo) else keep) then(if w64 ((lg.size:Int) - fo) < keep then w64 ((lg.size:Int) - fo) else keep) else 0))=(tY lg fo keep:Int)∧tY lg fo keep≤lg.size:=by
 rw[ah (n:=(lg.size:Int) - fo) (by omega) (by omega)];unfold tY;by_cases h3:(lg.size:Int) - fo < keep
 ·rw[aqh h3];by_cases h4:(0:Int) < (lg.size:Int) - fo
  ·rw[aqh h4,ah (by omega) (by omega)];omega
  ·rw[aqg h4,ah (by omega) (by omega)];omega
 ·rw[aqg h3];by_cases h4:(0:Int) < keep
  ·rw[aqh h4,ah (by omega) (by omega)];omega
  ·rw[aqg h4,ah (by omega) (by omega)];omega
def LV{lg:aqp}{fo keep:Int}(hl:lg.size≤1048576):l9 ((lg,fo,()),keep,())=some ((((JV lg fo keep).1,(JV lg fo keep).2,()),()),()):=by
 unfold l9 JV;simp only[lz hl,aqs];rcases tf (bS lg fo) with e | e
 ·have hr:=lj e;obtain⟨c1,c2⟩:=ahR (keep:=keep) hr.2.1 hr.2.2 hr.1;simp only[e,aqu,aqr,aqm,c1,aqJ];have hz:(lg.extract 0 (tY lg fo keep)).size=tY lg fo keep:=by rw[dz (by omega)];omega
  have hg:=ou (lg.extract 0 (tY lg fo keep));rw[aqh (by simp;omega),l8 (by omega)];simp only[aqs,aqJ];rw[aqh (by simp;omega)]
 ·simp only[e,aqv,aqr,aqm]
def ahC{s:aqp}{a b:Nat}(h:b≤a)(ha:a≤s.size):s.extract 0 b=(s.extract 0 a).extract 0 b:=by
 apply oX;rw[jd,jd,jd,asK,asK,asn,asn,auJ,atO h]
def KZ{lg:aqp}{fo keep:Int}(hl:lg.size≤1048576):lQ ((lg,fo,()),keep,())=some ((((JV lg fo keep).1,(JV lg fo keep).2,()),()),()):=by
 unfold lQ JV;simp only[lc hl,aqs];rcases tf (bS lg fo) with e | e
 ·have hr:=lj e;simp only[e,aqu,aqr,aqm];rw[ah (n:=(lg.size:Int) - fo) (by omega) (by omega)];have hz:(lg.extract 0 (tY lg fo keep)).size=tY lg fo keep:=by rw[dz (by unfold tY;omega)];omega
  have hg:=ou (lg.extract 0 (tY lg fo keep));have fin: ∀ n:Int,n=(tY lg fo keep:Int)→(if(decide (0≤n)&&decide (n≤(lg.size:Int))) then(bY ((lg.extract (0) (aqy n)),())).bind fun r9=>
    (if(decide (0≤r9.1.2.1)&&decide (r9.1.2.1≤(lg.size:Int))) then some (((lg.extract (0) (aqy r9.1.2.1),r9.1.2),()),()) else none) else none)=
    some ((((lg.extract 0 (tY lg fo keep)).extract 0 (eC (lg.extract 0 (tY lg fo keep))).2,((eC (lg.extract 0 (tY lg fo keep))).2:Int),()),()),()):=by
   rintro n rfl;have hc:tY lg fo keep≤lg.size:=by unfold tY;omega
   rw[aqh (by simp;omega),aqJ,iH (by omega)];simp only[aqs,aqJ];rw[aqh (by simp;omega),ahC (a:=tY lg fo keep) (by omega) hc]
  rcases tf (decide ((lg.size:Int) - fo < keep)) with h3 | h3<;>simp only[h3,aqm,aqr,aS]
  ·have h3:=aqk h3;rcases tf (decide ((0:Int) < (lg.size:Int) - fo)) with h4 | h4<;>simp only[h4,aqm,aqr,aS]
   ·have h4:=aqk h4;rw[ah (n:=fo+((lg.size:Int) - fo)) (by omega) (by omega)];exact fin _ (by unfold tY;omega)
   ·have h4:=aql h4;exact fin _ (by unfold tY;omega)
  ·have h3:=aql h3;rcases tf (decide (0 < keep)) with h4 | h4<;>simp only[h4,aqm,aqr,aS]
   ·have h4:=aqk h4;rw[ah (n:=fo+keep) (by omega) (by omega)];exact fin _ (by unfold tY;omega)
   ·have h4:=aql h4;exact fin _ (by unfold tY;omega)
 ·simp only[e,aqv,aqr,aqm]
def Ae(rs:List aqp):Bool:=rs.all rOk
def NM(lg:aqp)(fo:Int)(rs:List aqp):(aqp×Int)×Bool:=
 if bS lg fo then(if Ae rs&&decide ((eD rs).size≤2400) then((eD rs,((eD rs).size:Int)),true) else((lg,fo),false)) else((noB,0),false)
def aeP{r:aqp}(h:rOk r=true):1≤r.size∧r.size≤60:=by
 have:=ae.1 h;omega
def Zb(pre:List aqp)(r:aqp):B (cat (pre++[r]))=B (cat pre)++bV r:=by
 apply oX;rw[rp,L_B,L_B,ib,gP,qZ,aq6]
abbrev zS:aqp×Int×aqq:=(noB,0,())
def adi{sl:aqp×Int×aqq}(post:List aqp): ∀ (pre:List aqp),(pre++post).length≤1048576→(cat pre).length≤69 * pre.length→
  (di (sl,zS,B (cat pre),pre++post,((pre++post).length:Int),(pre.length:Int),())=some (.inl (sl,false,()))∧(Ae post=false∨2400 < (cat (pre++post)).length))∨
  (di (sl,zS,B (cat pre),pre++post,((pre++post).length:Int),(pre.length:Int),())=some (.inr (sl,zS,B (cat (pre++post)),()))∧Ae post=true):=by
 induction post with
 | nil=>
  intro pre _ _;refine auL ⟨an ?_,rfl⟩;unfold eK;simp only[aq6,show decide ((pre.length:Int) < (pre.length:Int))=false from aqj (by omega),aqr]
 | cons r post ih=>
  intro pre hl hc;have hlen:pre.length < (pre++r::post).length:=by simp
  have hw:=cJ hlen hl;have hb:(decide ((pre.length:Int) < ((pre++r::post).length:Int)))=true:=aqi (by omega);by_cases h:rOk r=true∧(cat pre).length≤2400
  ·have hz:=aeP h.1;have hs:=uX (r:=r) (by omega);have ak0:eK (sl,zS,B (cat pre),pre++r::post,((pre++r::post).length:Int),(pre.length:Int),())=some (.inl (sl,zS,B (cat (pre++[r])),(pre++[r])++post,(((pre++[r])++post).length:Int),((pre++[r]).length:Int),())):=by
    unfold eK;simp only[hb,aqm,ak hlen,Nd,AJ,aqs,h.1,aqu,aqX];rw[aqg (by rw[aO];exact fun g=>absurd (aqk g) (by omega)),FU (r:=r) (by omega)];simp only[aqs];rw[aqh (aqi (by rw[aO];omega)),hw,Zb,@aqD _ pre [r],← snoc];rfl
   have hc2:(cat (pre++[r])).length≤69 * (pre++[r]).length:=by
    rw[ib,gP,qZ,aq6,aqD,aN,aqD,arN];omega
   have e:Ae (r::post)=Ae post:=by
    unfold Ae;rw[ats,h.1,aqB]
   rw[e];rcases ih (pre++[r]) (by rw[← snoc];exact hl) hc2 with⟨h1,h2⟩ | ⟨h1,h2⟩
   ·rw[← snoc]at h2;exact auM ⟨ai ak0 h1,h2⟩
   ·refine auL ⟨?_,h2⟩;rw[snoc];rw[← snoc]at ak0 ⊢;rw[snoc pre r post]at ak0 ⊢;exact ai ak0 h1
  ·refine auM ⟨an ?_, ?_⟩
   ·unfold eK;simp only[hb,aqm,ak hlen,Nd,AJ,aqs];rw[aqh];rcases tf (rOk r) with e | e
    ·rw[e,aqu,aqX];refine aqi ?_;rw[aO];have: ¬ (cat pre).length≤2400:=fun g=>h ⟨e,g⟩;omega
    ·rw[e];rfl
   ·rcases tf (rOk r) with e | e
    ·have: ¬ (cat pre).length≤2400:=fun g=>h ⟨e,g⟩;refine auL ?_;rw[ib,aqD];omega
    ·refine auM ?_;unfold Ae;rw[ats,e,aqz]
def acp{sl:aqp×Int×aqq}(post:List aqp): ∀ (pre:List aqp),(pre++post).length≤1048576→(cat pre).length≤69 * pre.length→
  gw (pre++post,sl,zS,B (cat pre),(pre.length:Int),())=some (if Ae post then .inr (sl,zS,B (cat (pre++post)),()) else .inl (sl,false,())):=by
 induction post with
 | nil=>
  intro pre _ _;refine an ?_;unfold ez;simp only[aq6,show decide ((pre.length:Int) < (pre.length:Int))=false from aqj (by omega),aqr];rfl
 | cons r post ih=>
  intro pre hl hc;have hlen:pre.length < (pre++r::post).length:=by simp
  have hw:=cJ hlen hl;have hb:(decide ((pre.length:Int) < ((pre++r::post).length:Int)))=true:=aqi (by omega);rcases tf (rOk r) with h | h
  ·have hz:=aeP h;have hs:=uX (r:=r) (by omega);have ak0:ez (pre++r::post,sl,zS,B (cat pre),(pre.length:Int),())=some (.inl ((pre++[r])++post,sl,zS,B (cat (pre++[r])),((pre++[r]).length:Int),())):=by
    unfold ez;simp only[hb,aqm,ak hlen,Nd,Ao,aqs,h,aqu,aqr];rw[sf (r:=r) (by omega)];simp only[aqs];rw[aqh (aqi (by rw[aO];simp at hl;omega)),hw,Zb,@aqD _ pre [r],← snoc];rfl
   have hc2:(cat (pre++[r])).length≤69 * (pre++[r]).length:=by
    rw[ib,gP,qZ,aq6,aqD,aN,aqD,arN];omega
   have e:Ae (r::post)=Ae post:=by
    unfold Ae;rw[ats,h,aqB]
   rw[e];have:=ih (pre++[r]) (by rw[← snoc];exact hl) hc2;rw[snoc pre r post];rw[snoc pre r post]at ak0;exact ai ak0 this
  ·refine an ?_;unfold ez;simp only[hb,aqm,ak hlen,Nd,Ao,aqs,h,aqv];rw[aqg (by unfold Ae;rw[ats,h,aqz];exact aq3)]
def Qv{lg:aqp}{fo:Int}(rs:List aqp)(s:(((aqp×Int×aqq)×Bool×aqq) ⊕ ((aqp×Int×aqq)×(aqp×Int×aqq)×aqp×aqq)))
  (h:(s= .inl ((lg,fo,()),false,())∧(Ae rs&&decide ((eD rs).size≤2400))=false)∨(s= .inr ((lg,fo,()),zS,eD rs,())∧Ae rs=true)):
  aJ (some s) (fun y28=>some (y28,())) (fun y28=>(if(decide (2400 < (y28.2.2.1.size:Int))) then some ((y28.1,false,()),()) else some (((y28.2.2.1,(y28.2.2.1.size:Int),()),true,()),())))=
   some ((((if Ae rs&&decide ((eD rs).size≤2400) then((eD rs,((eD rs).size:Int)),true) else((lg,fo),false)).1.1,(if Ae rs&&decide ((eD rs).size≤2400) then((eD rs,((eD rs).size:Int)),true) else((lg,fo),false)).1.2,()),(if Ae rs&&decide ((eD rs).size≤2400) then((eD rs,((eD rs).size:Int)),true) else((lg,fo),false)).2,()),()):=by
 rcases h with⟨rfl,h⟩ | ⟨rfl,h⟩
 ·rw[h];rfl
 ·simp only[aJ,aqs];by_cases h2:(eD rs).size≤2400
  ·rw[aqg (by simp;omega),h,aqi h2];rfl
  ·rw[aqh (aqi (by omega)),h,aqj h2];rfl
def LU{lg:aqp}{fo:Int}{rs:List aqp}(hl:lg.size≤1048576)(hr:rs.length≤1048576):
  iU ((lg,fo,()),rs,())=some ((((NM lg fo rs).1.1,(NM lg fo rs).1.2,()),(NM lg fo rs).2,()),()):=by
 unfold iU NM;simp only[lz hl,aqs];rcases tf (bS lg fo) with e | e
 ·simp only[e,aqu,aqr,aqm];rcases adi (sl:=(lg,fo,())) rs [] hr (by simp[qZ]) with⟨h1,h2⟩ | ⟨h1,h2⟩
  ·rw[show di ((lg,fo,()),(noB,0,()),noB,rs,(rs.length:Int),0,())=_ from h1];refine Qv rs _ (auM ⟨rfl, ?_⟩);rcases h2 with h2 | h2
   ·rw[h2];rfl
   ·rw[aqj,aqV];show ¬ (B (cat rs)).size≤2400;rw[aO];exact Nat.not_le.2 h2
  ·rw[show di ((lg,fo,()),(noB,0,()),noB,rs,(rs.length:Int),0,())=_ from h1];exact Qv rs _ (auL ⟨rfl,h2⟩)
 ·simp only[e,aqv,aqr,aqm]
def yS{lg:aqp}{fo:Int}{rs:List aqp}(hl:lg.size≤1048576)(hr:rs.length≤1048576):
  fp ((lg,fo,()),rs,())=some ((((NM lg fo rs).1.1,(NM lg fo rs).1.2,()),(NM lg fo rs).2,()),()):=by
 unfold fp NM;simp only[lc hl,aqs];rcases tf (bS lg fo) with e | e
 ·simp only[e,aqu,aqr,aqm];have h1:=acp (sl:=(lg,fo,())) rs [] hr (by simp[qZ]);rw[show gw (rs,(lg,fo,()),(noB,0,()),noB,0,())=_ from h1];refine Qv rs _ ?_;rcases tf (Ae rs) with h2 | h2
  ·exact auL ⟨aqh h2,h2⟩
  ·exact auM ⟨aqg (by rw[h2];exact aq3),by rw[h2];rfl⟩
 ·simp only[e,aqv,aqr,aqm]
def Ps{β:Type}(f:ajT→β){l:List ajT}{i:Nat}(h:i < l.length):(l.take (i+1)).map f=(l.take i).map f++[f (nA l i)]:=by
 rw[lI h,arG,iM (aqC h)];rfl
def aba{β:Type}(f:Mark→β){l:List Mark}{i:Nat}(h:i < l.length):(l.take (i+1)).map f=(l.take i).map f++[f (mA l i)]:=by
 rw[lI h,arG,tb (aqC h)];rfl
def df{α:Type}{l m:List α}(hl:l.length≤1048576)(hm:m.length≤1048576):al (l.length+m.length)=true:=aF (by omega)
def aa1{n:ajT}(h:aB n=true):(wr n).size≤4000:=by have:=UZ h;omega
def Ey{n:ajT}(h:aB n=true):n.tx.size≤1048576:=by
 have h2:=UZ h;by_cases hs:n.tx.size≤1048576
 ·exact hs
 ·exfalso;unfold aB at h;simp only[aqt]at h;have hx:Tx n.tx=true:=by simp_all
  unfold Tx at hx;rw[aqt]at hx;have:=ae.1 hx.1;omega
def nw{n:ajT}(h:aB n=true):(if aB ⟨n.fr,n.nu,n.to,n.un,n.tx⟩ then wr ⟨n.fr,n.nu,n.to,n.un,n.tx⟩ else noB)=wr n:=by
 rw[show(⟨n.fr,n.nu,n.to,n.un,n.tx⟩:ajT)=n from rfl,aqh h]
def Fl{n:Int}(h0:0≤n)(h1:n≤999):(cj n).size≤3:=wv h0 3 (by omega) (by omega)
def zr{w:aqp}{a b c:Int}(hw:w.size≤1048576)(ha:0≤a∧a≤999)(hb:0≤b∧b≤999)(hc:0≤c∧c≤999):fA (w,a,b,c,())=some ((dn w a b c,()),()):=by
 have h1:=Fl ha.1 ha.2;have h2:=Fl hb.1 hb.2;have h3:=Fl hc.1 hc.2;unfold fA;simp only[rF (n:=a) (by omega) (by omega),rF (n:=b) (by omega) (by omega),rF (n:=c) (by omega) (by omega),aqs];rw[aqh (aqi (by simp[aO];omega)),aqh (aqi (by simp[ay,aO];omega)),aqh (aqi (by simp[ay,aO];omega)),aqh (aqi (by simp[ay,aO];omega)),aqh (aqi (by simp[ay,aO];omega)),aqh (aqi (by simp[ay,aO];omega))];rfl
def iP{i n:Nat}(h:i < n):decide ((i:Int) < (n:Int))=true:=aqi (by omega)
def p7(n:Nat):decide ((n:Int) < (n:Int))=false:=aqj (by omega)
section
variable {k:ajZ} (hf:aj5 k)
include hf
def aaw(o:List aqp)(ho:o.length≤100):
  iy (tK k,o,k.marks,(k.marks.length:Int),0,())=some (.inr (tK k,o++k.marks.map fun m=>dn fa m.mf m.mn m.mu,())):=by
 have ml:=hf.ml;refine atA (congrArg _ ?_) (cO (fun i=>(tK k,o++(k.marks.take i).map (fun m=>dn fa m.mf m.mn m.mu),k.marks,(k.marks.length:Int),(i:Int),())) k.marks.length ?_ ?_)
 ·simp
 ·intro i hi;have hm:=vI (vJ hf.m hi);unfold mj;simp only[iP hi,aqm,ak hi,dM,zr (w:=fa) (by decide) (show 0≤(mA k.marks i).mf∧(mA k.marks i).mf≤999 by omega) (show 0≤(mA k.marks i).mn∧(mA k.marks i).mn≤999 by omega) (show 0≤(mA k.marks i).mu∧(mA k.marks i).mu≤999 by omega),aqs];rw[aqh (df (by simp;omega) (by simp)),aba _ hi,cJ hi (by omega),aqP]
 ·unfold mj;simp only[p7,aqr,arC]
def aav(o:List aqp)(ho:o.length≤200):
  iw (tK k,o,k.held,(k.held.length:Int),0,())=some (.inr (tK k,o++k.held.map uI,())):=by
 have hl:=hf.hl;refine atA (congrArg _ ?_) (cO (fun i=>(tK k,o++(k.held.take i).map uI,k.held,(k.held.length:Int),(i:Int),())) k.held.length ?_ ?_)
 ·simp
 ·intro i hi;have hm:=cG hf.h hi;have hz:=aa1 hm;unfold mi;simp only[iP hi,aqm,ak hi,cL,ma (Ey hm),nw hm,aqs];rw[aqh (aqi (by rw[aO];simp;omega)),aqh (df (by simp;omega) (by simp)),Ps _ hi,cJ hi (by omega),aqP];rfl
 ·unfold mi;simp only[p7,aqr,arC]
def aau(o:List aqp)(ho:o.length≤200):
  iv (o,k.inbox,(k.inbox.length:Int),0,())=some (.inr (o++k.inbox.map pW,())):=by
 have il:=hf.il;refine atA (congrArg _ ?_) (cO (fun i=>(o++(k.inbox.take i).map pW,k.inbox,(k.inbox.length:Int),(i:Int),())) k.inbox.length ?_ ?_)
 ·simp
 ·intro i hi;have hm:=cG hf.i hi;have hz:=aa1 hm;unfold mh;simp only[iP hi,aqm,ak hi,cL,ma (Ey hm),nw hm,aqs];rw[aqh (aqi (by rw[aO];simp;omega)),aqh (df (by simp;omega) (by simp)),Ps _ hi,cJ hi (by omega),aqP];rfl
 ·unfold mh;simp only[p7,aqr,arC]
def ZN(o:List aqp)(ho:o.length≤100):
  im (tK k,o,0,())=some (.inr (tK k,o++k.marks.map fun m=>dn fa m.mf m.mn m.mu,())):=by
 have ml:=hf.ml;refine atA (congrArg _ ?_) (cO (fun i=>(tK k,o++(k.marks.take i).map (fun m=>dn fa m.mf m.mn m.mu),(i:Int),())) k.marks.length ?_ ?_)
 ·simp
 ·intro i hi;have hm:=vI (vJ hf.m hi);have h1:=Fl (n:=(mA k.marks i).mf) (by omega) (by omega);have h2:=Fl (n:=(mA k.marks i).mn) (by omega) (by omega);have h3:=Fl (n:=(mA k.marks i).mu) (by omega) (by omega);unfold lY;simp only[iP hi,aqm,ak hi,dM,ba (n:=(mA k.marks i).mf) (by omega) (by omega),ba (n:=(mA k.marks i).mn) (by omega) (by omega),ba (n:=(mA k.marks i).mu) (by omega) (by omega),aqs];rw[aqh (aqi (by simp[ay,aO];omega)),aqh (aqi (by simp[ay,aO];omega)),aqh (aqi (by simp[ay,aO];omega)),aqh (aqi (by simp[ay,aO];omega)),aqh (aqi (by simp[ay,aO];omega))];rw[aqh (df (by simp;omega) (by simp)),aba _ hi,cJ hi (by omega),aqP];rfl
 ·unfold lY;simp only[p7,aqr,arC]
def ZM(o:List aqp)(ho:o.length≤200):
  ik (tK k,o,0,())=some (.inr (tK k,o++k.held.map uI,())):=by
 have hl:=hf.hl;refine atA (congrArg _ ?_) (cO (fun i=>(tK k,o++(k.held.take i).map uI,(i:Int),())) k.held.length ?_ ?_)
 ·simp
 ·intro i hi;have hm:=cG hf.h hi;have hz:=aa1 hm;unfold lX;simp only[iP hi,aqm,ak hi,cL,fq (Ey hm),nw hm,aqs];rw[aqh (aqi (by rw[aO];simp;omega)),aqh (df (by simp;omega) (by simp)),Ps _ hi,cJ hi (by omega),aqP];rfl
 ·unfold lX;simp only[p7,aqr,arC]
def ZL(o:List aqp)(ho:o.length≤200):
  ij (tK k,o,0,())=some (.inr (o++k.inbox.map pW,())):=by
 have il:=hf.il;refine atA (congrArg _ ?_) (cO (fun i=>(tK k,o++(k.inbox.take i).map pW,(i:Int),())) k.inbox.length ?_ ?_)
 ·simp
 ·intro i hi;have hm:=cG hf.i hi;have hz:=aa1 hm;unfold lW;simp only[iP hi,aqm,ak hi,cL,fq (Ey hm),nw hm,aqs];rw[aqh (aqi (by rw[aO];simp;omega)),aqh (df (by simp;omega) (by simp)),Ps _ hi,cJ hi (by omega),aqP];rfl
 ·unfold lW;simp only[p7,aqr,arC]
def JU:aj7 k.held k.marks k.inbox:=by
 have hl:=hf.hl;have ml:=hf.ml;have il:=hf.il;refine⟨by omega,fun x hx=> ?_,by omega,by omega,fun x hx=> ?_⟩
 ·obtain⟨i,hi,rfl⟩:=arn hx;have:=cG hf.h hi;rw[iM (aqC hi)]at this;exact Ey this
 ·obtain⟨i,hi,rfl⟩:=arn hx;have:=cG hf.i hi;rw[iM (aqC hi)]at this;exact Ey this
def Ub:(aJ (iy (tK k,(if 0 < k.ti then [eB k.ti] else [])++(if 1 < k.nx then [pV k.nx] else []),k.marks,(k.marks.length:Int),0,()))
  (fun _=>none)
  (fun y34=>(aJ (iw (y34.1,y34.2.1,y34.1.2.2.2.1,(y34.1.2.2.2.1.length:Int),0,()))
  (fun _=>none)
  (fun y72=>(aJ (iv (y72.2.1,y72.1.2.2.2.2.2.1,(y72.1.2.2.2.2.2.1.length:Int),0,()))
  (fun _=>none)
  (fun anS=>(dh anS).bind fun an3=>
  some (an3.1,())))))))=some ((aY k,()),()):=by
 have hl:=hf.hl;have ml:=hf.ml;have il:=hf.il;have ho:((if 0 < k.ti then [eB k.ti] else [])++(if 1 < k.nx then [pV k.nx] else [])).length≤2:=by
  rw[aqD];split<;>split<;>simp
 rw[aaw hf _ (by omega)];simp only[aJ,aqs];rw[aav hf _ (by rw[aqD,ary];omega)];simp only[aqs];rw[aau hf _ (by rw[aqD,aqD,ary,ary];omega)];simp only[aqs];rw[lu (by rw[aqD,aqD,aqD,ary,ary,ary];omega)];rfl
def Ty:(aJ (im (tK k,(if 0 < k.ti then [eB k.ti] else [])++(if 1 < k.nx then [pV k.nx] else []),0,()))
  (fun _=>none)
  (fun y46=>(aJ (ik (y46.1,y46.2.1,0,()))
  (fun _=>none)
  (fun y54=>(aJ (ij (y54.1,y54.2.1,0,()))
  (fun _=>none)
  (fun y62=>some (y62,())))))))=some ((aY k,()),()):=by
 have hl:=hf.hl;have ml:=hf.ml;have il:=hf.il;have ho:((if 0 < k.ti then [eB k.ti] else [])++(if 1 < k.nx then [pV k.nx] else [])).length≤2:=by
  rw[aqD];split<;>split<;>simp
 rw[ZN hf _ (by omega)];simp only[aJ,aqs];rw[ZM hf _ (by rw[aqD,ary];omega)];simp only[aqs];rw[ZL hf _ (by rw[aqD,aqD,ary,ary];omega)];rfl
end
def Om{k:ajZ}(sm:aj7 k.held k.marks k.inbox):nU (tK k,())=some ((if aE k then aY k else [],()),()):=by
 unfold nU;rw[yl sm];simp only[aqs];rcases tf (aE k) with e | e
 ·have hf:=bH e;have t0:=hf.t0;have t1:=hf.t1;have n0:=hf.n0;have n1:=hf.n1;have e2:aE ⟨k.id,k.ti,k.nx,k.held,k.marks,k.inbox⟩=true:=e;have d1:=Fl t0 (by omega);have d2:=Fl (n:=k.nx) (by omega) (by omega);have fin:=Ub hf;simp only[e,e2,aqu,aqr,aqm,rF (n:=k.ti) (by omega) (by omega),rF (n:=k.nx) (by omega) (by omega),aqs];have h5:decide ((B [116,105,109,101,32]).size+(cj k.ti).size≤4611686018427387904)=true:=aqi (by rw[aO];simp;omega);have h6:decide ((B [110,101,120,116,32]).size+(cj k.nx).size≤4611686018427387904)=true:=aqi (by rw[aO];simp;omega);have q1: ∀ a:aqp,al ([a]:List aqp).length=true:=fun _=>rfl;have q2: ∀ a b:aqp,al (([a]:List aqp).length+([b]:List aqp).length)=true:=fun _ _=>rfl;have q3: ∀ b:aqp,al (([]:List aqp).length+([b]:List aqp).length)=true:=fun _=>rfl;have q4: ∀ a b:aqp,al ((([]:List aqp)++[a]).length+([b]:List aqp).length)=true:=fun _ _=>rfl;by_cases h1:0 < k.ti<;>by_cases h2:1 < k.nx<;>simp only[h1,h2,aqn,aqo,aqm,aqr,if_false]at fin ⊢ <;>simp only[aS,h2,aqn,aqo,aqm,aqr,h5,h6,q1,q2,q3,q4,rF (n:=k.nx) (by omega) (by omega),ba (n:=k.nx) (by omega) (by omega),aqs]<;>exact fin
 ·have e2:aE ⟨k.id,k.ti,k.nx,k.held,k.marks,k.inbox⟩=false:=e;simp only[e,e2,aqv,aqr,aqm]
def Bn{k:ajZ}(sm:aj7 k.held k.marks k.inbox):jK (tK k,())=some ((if aE k then aY k else [],()),()):=by
 unfold jK;rw[x6 sm];simp only[aqs];rcases tf (aE k) with e | e
 ·have hf:=bH e;have t0:=hf.t0;have t1:=hf.t1;have n0:=hf.n0;have n1:=hf.n1;have e2:aE ⟨k.id,k.ti,k.nx,k.held,k.marks,k.inbox⟩=true:=e;have d1:=Fl t0 (by omega);have d2:=Fl (n:=k.nx) (by omega) (by omega);have fin:=Ty hf;simp only[e,e2,aqu,aqr,aqm,ba (n:=k.ti) (by omega) (by omega),ba (n:=k.nx) (by omega) (by omega),aqs];have h5:decide ((B [116,105,109,101,32]).size+(cj k.ti).size≤4611686018427387904)=true:=aqi (by rw[aO];simp;omega);have h6:decide ((B [110,101,120,116,32]).size+(cj k.nx).size≤4611686018427387904)=true:=aqi (by rw[aO];simp;omega);have q1: ∀ a:aqp,al ([a]:List aqp).length=true:=fun _=>rfl;have q2: ∀ a b:aqp,al (([a]:List aqp).length+([b]:List aqp).length)=true:=fun _ _=>rfl;have q3: ∀ b:aqp,al (([]:List aqp).length+([b]:List aqp).length)=true:=fun _=>rfl;have q4: ∀ a b:aqp,al ((([]:List aqp)++[a]).length+([b]:List aqp).length)=true:=fun _ _=>rfl;by_cases h1:0 < k.ti<;>by_cases h2:1 < k.nx<;>simp only[h1,h2,aqn,aqo,aqm,aqr,if_false]at fin ⊢ <;>simp only[aS,h2,aqn,aqo,aqm,aqr,h5,h6,q1,q2,q3,q4,rF (n:=k.nx) (by omega) (by omega),ba (n:=k.nx) (by omega) (by omega),aqs]<;>exact fin
 ·have e2:aE ⟨k.id,k.ti,k.nx,k.held,k.marks,k.inbox⟩=false:=e;simp only[e,e2,aqv,aqr,aqm]
end Go.VS
namespace Go.VS
open Go
def ad5{l:List ajV}{m:ajV}(h:m∈l): ∃ i,i < l.length∧xA l i=m:=by
 obtain⟨i,hi,rfl⟩:=at0.1 h;exact⟨i,hi,by rw[xA,aqE,aqC hi];rfl⟩
def WY{l:List ajY}{m:ajY}(h:m∈l): ∃ i,i < l.length∧hA l i=m:=by
 obtain⟨i,hi,rfl⟩:=at0.1 h;exact⟨i,hi,by rw[hA,aqE,aqC hi];rfl⟩
def ahr{h:ajY}(ok:iW h=true):K6 h:=by
 unfold iW at ok;simp only[aqt]at ok;have h1:=aqk ok.2.2.2.2.2.1;have h2:=cw.1 ok.2.2.2.2.2.2;refine⟨by omega,fun m hm=> ?_⟩;obtain⟨i,hi,rfl⟩:=ad5 hm;have:=h2 i hi;unfold xC at this;simp only[aqt]at this;have:=aqk this.1.2;show(xA h.got i).da.size≤1048576;omega
def fY{k:ajR}(h:aj k=true):dy k:=by
 have hf:=bZ h;have hr:=lj hf.sh;have hl:=hf.hl;refine⟨by omega,by omega,fun x hx=> ?_⟩;obtain⟨i,hi,rfl⟩:=WY hx;have:=hf.hv i hi;unfold AR at this;rw[aqt]at this;exact ahr this.1
def Ht{l:List ajY}(hl:l.length≤1048576):oF (l,())=some ((l,()),()):=EN hl
def Fe{l:List ajV}(hl:l.length≤1048576):mO (l,())=some ((l,()),()):=EN hl
def Vb(l:List ajY)(i:Nat): @rd ajY (dfl .half) l (i:Int)=hA l i:=rfl
def vU{l:List ajY}{i:Nat}(h:i < l.length):hA l i=l[i]:=by
 rw[hA,aqE,aqC h];rfl
def eH{k:ajR}(sm:dy k):bT (tKp k,())=some ((tKp k,()),()):=by
 obtain⟨id,up,lg,fo,hv⟩:=k;obtain⟨sl,hl,hs⟩:=sm;simp only at sl hl hs;unfold bT;simp only[Ht hl,aqs];have h:kq ((0,false,noB,0,[],()),(id,up,lg,fo,hv,()),(hv.length:Int),0,())=some (.inr ((0,false,noB,0,[],()),(id,up,lg,fo,hv,()),())):=by
  refine cO (fun i=>((0,false,noB,0,[],()),(id,up,lg,fo,hv,()),(hv.length:Int),(i:Int),())) hv.length ?_ ?_
  ·intro i hi;unfold jz;have hg:(hA hv i).got.length≤1048576:=by rw[vU hi];exact(hs _ (ark hi)).1
   simp only[iP hi,aqm,ak hi,Vb,Fe hg,aqs,aqJ];rw[cJ hi hl,show(⟨(hA hv i).fr,(hA hv i).nu,(hA hv i).to,(hA hv i).un,(hA hv i).sz,(hA hv i).got⟩:ajY)=hA hv i from rfl,vU hi,List.set_getElem_self]
  ·unfold jz;simp only[p7,aqr]
 rw[h];rfl
def du{k:ajR}(sm:dy k):aZ (tKp k,())=some ((tKp k,()),()):=by
 obtain⟨id,up,lg,fo,hv⟩:=k;obtain⟨sl,hl,hs⟩:=sm;simp only at sl hl hs;unfold aZ;have h:n8 ((id,up,lg,fo,hv,()),(0,false,noB,0,[],()),[],0,())=some (.inr ((id,up,lg,fo,hv,()),(0,false,noB,0,[],()),hv,())):=by
  refine cO (fun i=>((id,up,lg,fo,hv,()),(0,false,noB,0,[],()),hv.take i,(i:Int),())) hv.length ?_ ?_
  ·intro i hi;unfold nv;have hg:(hA hv i).got.length≤1048576:=by rw[vU hi];exact(hs _ (ark hi)).1
   have e1:al (([]:List ajV).length+(hA hv i).got.length)=true:=df (by simp) hg;have e2: ∀ h:ajY,al ((hv.take i).length+([h]:List ajY).length)=true:=fun h=>df (by simp;omega) (by simp);simp only[iP hi,aqm,ak hi,Vb,arF,e1,e2];rw[cJ hi hl,lI hi,← vU hi]
  ·unfold nv;simp only[p7,aqr,arC]
 rw[h];rfl
structure alp (k:ajR) (st:ajZ):Prop where
 sh:bS k.log k.fo=true
 st:bR k.id k.log=some st
def akt.ama{k:ajR}{st:ajZ}(h:akt k st):alp k st:=⟨(bZ h.ok).sh,h.st⟩
def alp.kok{k:ajR}{st:ajZ}(h:alp k st):aE st=true:=EG h.st
def alp.sz{k:ajR}{st:ajZ}(h:alp k st):k.log.size≤1048576:=by have:=lj h.sh;omega
def alp.stT{k:ajR}{st:ajZ}(h:alp k st):Go.VS.stT k=st:=by
 unfold Go.VS.stT;rw[h.st];rfl
def IV{k:ajZ}(hk:aE k=true):(eD (aY k)).size≤800:=by
 have:=(td hk).2;unfold eD;rw[aO];exact this
def Qh{k:ajZ}(hk:aE k=true):(aY k).length≤1048576:=by
 have hf:=bH hk;have h1:=hf.hl;have h2:=hf.ml;have h3:=hf.il;unfold aY;simp only[aqD,ary];have a2:(if 0 < k.ti then [eB k.ti] else []).length≤1:=by split<;>simp
 have b2:(if 1 < k.nx then [pV k.nx] else []).length≤1:=by split<;>simp
 omega
def Jg{k:ajR}{st o:ajZ}{r:aqp}(h:alp k st)(hr:cg st r=some o):
  bS (vL st k.log k.fo r).1 (vL st k.log k.fo r).2=true∧
  (KV k.log k.fo r=(vL st k.log k.fo r,true)∨
   (KV k.log k.fo r=((k.log,k.fo),false)∧NM k.log k.fo (aY st)=((eD (aY st),((eD (aY st)).size:Int)),true)∧
    KV (eD (aY st)) ((eD (aY st)).size:Int) r=(vL st k.log k.fo r,true))):=by
 have hz:=Yp h.kok hr;have hrk:rOk r=true:=ae.2 (by omega);have hrs:=td h.kok;have hps:=IV h.kok;have hpo:=(Wy h.kok).amt;have hst:=rr hz.2;obtain⟨rs,ts,hl⟩:=aii h.sh;obtain⟨rs',ts',hl',_⟩:=abn (id:=k.id) (k:=st) hl (by rw[← hl.state];exact h.st) hr;refine⟨hl'.amt, ?_⟩;unfold vL KV;rw[aqh h.sh,hrk,aqB];by_cases hc:k.log.size+(bV r).size≤2400
 ·rw[aqh hc,aqh (aqi hc)];exact .inl rfl
 ·rw[aqg hc,aqg (by rw[aqj hc];exact aq3)];refine .inr ⟨rfl, ?_, ?_⟩
  ·unfold NM;rw[aqh h.sh,aqh];rw[aqt];refine⟨?_,aqi (by omega)⟩;unfold Ae;rw[arp];exact fun x hx=>by
    have:=hrs.1 x hx;exact ae.2 (by omega)
  ·rw[aqh hpo,aqB,aqh (aqi (by omega))]
def wrR(k:ajR)(r:aqp)(f:Bool):ajR×Bool:=
 match cg (stT k) r with
 | none=>(k,false)
 | some _=>(if f then foM (wrM k r) else wrM k r,true)
def Vy{k:ajZ}{r:aqp}:(ga k r).2=(cg k r).isSome:=by
 unfold cg;rcases tf (ga k r).2 with e | e<;>rw[e]<;>rfl
def TE{k:ajZ}(hk:aE k=true){r:aqp}(hr:r.size≤1048576):jV (tK k,r,())=some ((tK (ga k r).1,(ga k r).2,()),()):=FD (JU (bH hk)) hr
def Ui{k:ajZ}(hk:aE k=true){r:aqp}(hr:r.size≤1048576):kb (tK k,r,())=some ((tK (ga k r).1,(ga k r).2,()),()):=FY (JU (bH hk)) hr
def ais{k:ajR}{st o:ajZ}{r:aqp}(h:alp k st)(hr:cg st r=some o):zG (vL st k.log k.fo r).1 (vL st k.log k.fo r).2=((vL st k.log k.fo r).1,((vL st k.log k.fo r).1.size:Int)):=by
 unfold zG;rw[aqh (Jg h hr).1]
def jG{k:ajR}{st:ajZ}(h:alp k st){r:aqp}(hr:r.size≤1048576)(f:Bool):bW (tKp k,r,f,())=some ((tKp (wrR k r f).1,(wrR k r f).2,()),()):=by
 have hs:=h.sz;have hk:=h.kok;have hsm:=JU (bH hk);have hrl:=Qh hk;have hpz:=IV hk;unfold bW wrR;rw[h.stT];rw[show bd (tKp k,())=some ((tK ((bR k.id k.log).getD zK),(bR k.id k.log).isSome,()),()) from G0 hs];rw[h.st];simp only[aqs,are,TE hk hr,Vy];cases hc:cg st r with
 | none=>rfl
 | some o=>
  have hL:=ais h hc;have hwr:wrM k r=⟨k.id,k.up,(vL st k.log k.fo r).1,(vL st k.log k.fo r).2,k.ajS⟩:=by unfold wrM;rw[h.stT]
  have hsz:(vL st k.log k.fo r).1.size≤1048576:=by have:=lj (Jg h hc).1;omega
  have hF:=kF (lg:=(vL st k.log k.fo r).1) (fo:=(vL st k.log k.fo r).2) hsz;rw[hL]at hF;simp only[aq7,aqu,aqr,tB hs hr,aqs];have fin:bB (X:=Bool×(Int×Bool×aqp×Int×List ajY×aqq)×(Int×Bool×aqp×Int×List ajY×aqq)×(aqp×Int×aqq)×Bool×aqq) (fun j7=>
    (if(!j7.2.2.2.2.1) then
    some ((j7.2.1,false,()),())
    else
    (if j7.1 then
    (cK (j7.2.2.2.1,())).bind fun r12=>
    some (((j7.2.1.1,j7.2.1.2.1,r12.1.1.1,r12.1.1.2.1,j7.2.1.2.2.2.2),true,()),())
    else
    some (((j7.2.1.1,j7.2.1.2.1,j7.2.2.2.1.1,j7.2.2.2.1.2.1,j7.2.1.2.2.2.2),true,()),())))) (some (.inr (f,tKp k,(0,false,noB,0,[],()),((vL st k.log k.fo r).1,(vL st k.log k.fo r).2,()),true,())))=
    some ((tKp (if f then foM (wrM k r) else wrM k r),true,()),()):=by
   rw[aS,hwr];cases f
   ·rfl
   ·simp only[aqu,aqr,aqm,hF,aqs];rfl
  rcases(Jg h hc).2 with ha | ⟨ha,hb,hd⟩
  ·rw[ha];simp only[aqu,aqr];exact fin
  ·rw[ha];simp only[aqv,aqm,Bn hsm,hk,aqs];rw[show fp ((k.log,k.fo,()),aY st,())=_ from yS hs hrl,hb];simp only[aqs];rw[show dI ((eD (aY st),((eD (aY st)).size:Int),()),r,())=_ from tB (by omega) hr,hd];simp only[aqs];exact fin
def xn{k:ajR}{st:ajZ}(h:alp k st){r:aqp}(hr:r.size≤1048576):jk (tKp k,r,())=some ((tKp (wrR k r false).1,(wrR k r false).2,()),()):=by
 have hs:=h.sz;have hk:=h.kok;have hsm:=JU (bH hk);have hrl:=Qh hk;have hpz:=IV hk;unfold jk wrR;rw[h.stT];simp only[qf hs,h.st,aqs,are,Ui hk hr,Vy];cases hc:cg st r with
 | none=>rfl
 | some o=>
  have hwr:wrM k r=⟨k.id,k.up,(vL st k.log k.fo r).1,(vL st k.log k.fo r).2,k.ajS⟩:=by unfold wrM;rw[h.stT]
  simp only[aq7,aqu,aqr,BF hs hr,aqs];rcases(Jg h hc).2 with ha | ⟨ha,hb,hd⟩
  ·rw[ha];simp only[aqu,aqr,aS,hwr]
  ·rw[ha];simp only[aqv,aqm,Om hsm,hk,aqs];rw[show iU ((k.log,k.fo,()),aY st,())=_ from LU hs hrl,hb];simp only[aqs,aqu,aqr];rw[show gn ((eD (aY st),((eD (aY st)).size:Int),()),r,())=_ from BF (by omega) hr,hd];simp only[aqs,aS,aqu,aqr,hwr]
def yi{k:ajR}(h:bS k.log k.fo=true):j9 (tKp k,())=some ((tKp (foM k),()),()):=by
 have hs:k.log.size≤1048576:=by have:=lj h;omega
 unfold j9;simp only[JG hs,aqs];unfold zG;rw[aqh h];rfl
def aeb{k:ajR}{st o:ajZ}{r:aqp}(h:alp k st)(hr:cg st r=some o):bS (wrM k r).log (wrM k r).fo=true:=by
 have:=(Jg h hr).1;unfold wrM;rw[h.stT];exact this
def RE{k:ajR}{st:ajZ}(h:akt k st){r:aqp}(hr:r.size≤1048576):lq (tKp k,r,())=some ((tKp (wrR k r true).1,(wrR k r true).2,()),()):=by
 have hl:=h.ama;unfold lq;simp only[xn hl hr,aqs];unfold wrR;rw[hl.stT];cases hc:cg st r with
 | none=>
  simp only[aqv,aqm,eH (fY h.ok),aqs]
 | some o=>
  simp only[aqu,aqr,aqm];rw[yi (aeb hl hc)];simp only[aqs];have hsm:dy (foM (wrM k r)):=fY (RW (Wf h hc)).ok;rw[show bT (tKp (foM (wrM k r)),())=_ from eH hsm];rfl
end Go.VS
namespace Go.VS
open Go
abbrev zKp:ajR:=⟨0,false,noB,0,[]⟩
abbrev zN:ajT:=⟨0,0,0,0,noB⟩
abbrev tN(n:ajT):Int×Int×Int×Int×aqp×aqq:=(n.fr,n.nu,n.to,n.un,n.tx,())
def De{k:ajR}(h:aj k=true):k.log.size≤1048576:=(fY h).1
def la{k:ajR}(h:aj k=true):bd (tKp k,())=some ((tK (stT k),true,()),()):=by
 have:=G0 (id:=k.id) (fo:=k.fo) (up:=k.up) (hv:=k.ajS) (De h);rw[(bZ h).st]at this;exact this
def fB{k:ajR}(h:aj k=true):bP (tKp k,())=some ((tK (stT k),()),()):=by
 unfold bP;rw[gp (fY h)];simp only[aqs,h,aqu,aqr];rw[show cT (k.id,k.log,())=_ from qf (De h),(bZ h).st];rfl
def ZV{w:aqp}{n:ajT}(hw:w.size≤10)(hn:aB n=true):(w++wr n).size≤1048576:=by
 have:=UZ hn;rw[ay];omega
def fE(k:ajR):ajR×Bool:=if k.up then wrR k (eB ((stT k).ti+1)) true else(k,false)
def ab4{st:ajZ}(hk:aE st=true)(h:999≤st.ti):cg st (eB (st.ti+1))=none:=by
 have hf:=bH hk;have h1:=hf.t1;cases hc:cg st (eB (st.ti+1)) with
 | none=>rfl
 | some o=>
  exfalso;obtain⟨a,b⟩:=(jX hk).1 hc;rw[rV Li (ES _)]at a;have c:=GM (k:=st) (t:=st.ti+1) (by have:=hf.t0;omega) (by omega) (by omega);rw[show B [116,105,109,101]=jf from rfl,c]at a;injection a with a;have:=(bH b).t1;rw[← a]at this;simp only at this;omega
def Qi{t:Int}(h0:0≤t)(h1:t≤1000):(eB t).size≤100:=by
 unfold eB;have:=wv h0 4 (by omega) (by omega);rw[ay,aO];simp;omega
def IA{k:ajR}(h:aj k=true):gA (tKp k,())=some ((tKp (fE k).1,(fE k).2,()),()):=by
 have hk:=mM h;have hf:=bH hk.kok;have t0:=hf.t0;have t1:=hf.t1;have hz:=Qi (t:=(stT k).ti+1) (by omega) (by omega);have hd:=wv (n:=(stT k).ti+1) (by omega) 4 (by omega) (by omega);unfold gA fE;rw[cY (fY h)];simp only[aqs,h,aqu,aqr,la h,du (fY h)];rcases tf k.up with e | e
 ·simp only[e,aqu,aqX,aqm];rw[ah (by omega) (by omega),ba (by omega) (by omega)];simp only[aqs];by_cases hc:999≤(stT k).ti
  ·rw[aqh (aqi hc)];unfold wrR;rw[ab4 hk.kok hc]
  ·rw[aqg (by rw[aqj hc];exact aq3),aqh (aqi (by rw[aO];simp;omega))];rw[show bW (tKp k,B [116,105,109,101,32]++cj ((stT k).ti+1),true,())=_ from jG hk.ama (r:=eB ((stT k).ti+1)) (by omega) true];rfl
 ·simp only[e,aqv,aq5,aqm,aqr]
def JI{k:ajR}(h:aj k=true):kP (tKp k,())=some ((tKp (fE k).1,(fE k).2,()),()):=by
 have hk:=mM h;have hf:=bH hk.kok;have t0:=hf.t0;have t1:=hf.t1;have hz:=Qi (t:=(stT k).ti+1) (by omega) (by omega);have hd:=wv (n:=(stT k).ti+1) (by omega) 4 (by omega) (by omega);unfold kP fE;rw[gp (fY h)];simp only[aqs,h,aqu,aqr,fB h,eH (fY h)];rcases tf k.up with e | e
 ·simp only[e,aqu,aqr,aqm];rw[ah (by omega) (by omega),rF (by omega) (by omega)];simp only[aqs];rw[aqh (aqi (by rw[aO];simp;omega))];rw[show lq (tKp k,B [116,105,109,101,32]++cj ((stT k).ti+1),())=_ from RE hk (r:=eB ((stT k).ti+1)) (by omega)];rfl
 ·simp only[e,aqv,aqm,aqr]
def Qj(n:ajT):aqp:=B [111,119,110,32]++wr n
def ya(k:ajR)(tt un:Int)(tx:aqp):ajR×Int:=
 if k.up&&aB ⟨k.id,(stT k).nx,tt,un,tx⟩ then
  ((wrR k (Qj ⟨k.id,(stT k).nx,tt,un,tx⟩) true).1,if(wrR k (Qj ⟨k.id,(stT k).nx,tt,un,tx⟩) true).2 then(stT k).nx else 0)
 else(k,0)
def ad8{n:ajT}:wr n≠noB:=by
 intro h;have h1:(wr n).size=0:=by rw[h];rfl
 unfold wr at h1;simp only[ay,aO,aqM,aq0]at h1;omega
def Qz:cH (B [])=none:=by
 unfold cH;split
 ·rename_i h;obtain⟨n,_,h⟩:=h;exact absurd h ad8
 ·rfl
def Vn:mL [116,97,107,101]:=by unfold mL;decide
def aam{st:ajZ}{w:List UInt8}(hk:aE st=true)(hw:mL w)(h:B w=q9∨B w=jg):cg st (B (w++[32])++noB)=none:=by
 cases hc:cg st (B (w++[32])++noB) with
 | none=>rfl
 | some o=>
  exfalso;obtain⟨a,_⟩:=(jX hk).1 hc;rw[rV (w:=w) (r:=[]) hw (by rw[rp,L_B];simp[L,noB])]at a;have h2: ∀ v,v=q9∨v=jg→ck st v (B [])=none:=by
   rintro v (rfl | rfl)
   ·unfold ck;rw[aqg (by decide),aqh (by decide),Qz]
   ·unfold ck;rw[aqg (by decide),aqh (by decide),Qz]
  rw[h2 _ h]at a;cases a
def aea{k:ajR}{r:aqp}{f:Bool}(h:cg (stT k) r=none):wrR k r f=(k,false):=by
 unfold wrR;rw[h]
def H9{k:ajR}{r:aqp}{f:Bool}(h:(wrR k r f).2=false):(wrR k r f).1=k:=by
 unfold wrR at h ⊢;split at h
 ·rfl
 ·cases h
def K3{k:ajR}(h:aj k=true)(tt un:Int){tx:aqp}(ht:tx.size≤1048576):iI (tKp k,tt,un,tx,())=some ((tKp (ya k tt un tx).1,(ya k tt un tx).2,()),()):=by
 have hk:=mM h;unfold iI ya;rw[cY (fY h)];simp only[aqs,h,aqu,aqr,la h,du (fY h),fq ht];rcases tf k.up with e | e
 ·rcases tf (aB ⟨k.id,(stT k).nx,tt,un,tx⟩) with e2 | e2
  ·have hz:=ZV (w:=B [111,119,110,32]) (by rw[aO];decide) e2;simp only[e,e2,aqu,aqX,ar6,aqm];rw[aqg (by rw[aqj ad8];exact aq3),aqh (aqi (by rw[ay]at hz;omega))];rw[show bW (tKp k,B [111,119,110,32]++wr ⟨k.id,(stT k).nx,tt,un,tx⟩,true,())=_ from jG hk.ama (r:=Qj ⟨k.id,(stT k).nx,tt,un,tx⟩) hz true];simp only[aqs];rcases tf (wrR k (Qj ⟨k.id,(stT k).nx,tt,un,tx⟩) true).2 with e3 | e3
   ·simp only[e3,aqu,aqr,aqm]
   ·simp only[e3,aqv,aqr,aqm,H9 e3]
  ·simp only[e,e2,aqu,aqX,aqV,aqr,aqn,aqm]
 ·simp only[e,aqv,aq5,aqz,aqm,aqr]
end Go.VS
namespace Go.VS
open Go
def wK(k:ajR)(fr nu:Int):ajR×ajT×Bool:=
 if k.up&& !decide (aP (stT k).inbox fr nu < 0) then
  ((wrR k (dn lH fr nu (nA (stT k).inbox (aP (stT k).inbox fr nu).toNat).un) true).1,
   (if(wrR k (dn lH fr nu (nA (stT k).inbox (aP (stT k).inbox fr nu).toNat).un) true).2 then nA (stT k).inbox (aP (stT k).inbox fr nu).toNat else zN),
   (wrR k (dn lH fr nu (nA (stT k).inbox (aP (stT k).inbox fr nu).toNat).un) true).2)
 else(k,zN,false)
def XV(l:List ajT)(i:Int): @rd ajT (dfl .note) l i=nA l i.toNat:=rfl
def QA{n:ajT}(h:aB n=true):(0≤n.fr∧n.fr≤999)∧(0≤n.nu∧n.nu≤999)∧(0≤n.un∧n.un≤999)∧isN n.fr=true∧isN n.to=true∧inB n.nu 1 99=true∧inB n.un 1 999=true∧n.tx.size≤24∧1≤n.tx.size:=by
 unfold aB at h;simp only[aqt]at h;obtain⟨a,b,c,d,e⟩:=h;have a1:=ae.1 a;have c1:=ae.1 c;have d1:=ae.1 d;unfold Tx at e;rw[aqt]at e;have e1:=ae.1 e.1;exact⟨by omega,by omega,by omega,a,b,c,d,by omega,by omega⟩
def G6{w:aqp}{a b c:Int}(hw:w.size≤10)(ha:0≤a∧a≤999)(hb:0≤b∧b≤999)(hc:0≤c∧c≤999):(dn w a b c).size≤100:=by
 have h1:=Fl ha.1 ha.2;have h2:=Fl hb.1 hb.2;have h3:=Fl hc.1 hc.2;unfold dn;simp only[ay,aO,aqM,aq0];omega
def An{a b c:Int}(ha:0≤a∧a≤999)(hb:0≤b∧b≤999)(hc:0≤c∧c≤999):dH (a,b,c,())=some ((((((cj a++B [32])++cj b)++B [32])++cj c),()),()):=by
 have h1:=Fl ha.1 ha.2;have h2:=Fl hb.1 hb.2;have h3:=Fl hc.1 hc.2;unfold dH;simp only[ba (n:=a) (by omega) (by omega),ba (n:=b) (by omega) (by omega),ba (n:=c) (by omega) (by omega),aqs];rw[aqh (aqi (by simp only[ay,aO,aqM,aq0];omega)),aqh (aqi (by simp only[ay,aO,aqM,aq0];omega)),aqh (aqi (by simp only[ay,aO,aqM,aq0];omega)),aqh (aqi (by simp only[ay,aO,aqM,aq0];omega))]
def Aj(w:List UInt8)(a b c:Int):B (w++[32])++((((cj a++B [32])++cj b)++B [32])++cj c)=dn (B w) a b c:=by
 apply oX;unfold dn;simp only[rp,L_B,aqP]
def K4{k:ajR}(h:aj k=true)(fr nu:Int):iJ (tKp k,fr,nu,())=some ((tKp (wK k fr nu).1,tN (wK k fr nu).2.1,(wK k fr nu).2.2,()),()):=by
 have hk:=mM h;have hf:=bH hk.kok;have il:=hf.il;unfold iJ wK;rw[cY (fY h)];simp only[aqs,h,aqu,aqr,la h,du (fY h),bX (l:=(stT k).inbox) (show(stT k).inbox.length≤1048576 by omega)];rcases tf k.up with e | e
 ·by_cases hi:aP (stT k).inbox fr nu < 0
  ·simp only[e,aqu,aqX,aqi hi,aqm,aqV,aqr]
  ·have hi':0≤aP (stT k).inbox fr nu:=by omega
   obtain⟨i1,i2,i3,i4⟩:=nL hi';have hn:=cG hf.i i1;obtain⟨r1,r2,r3,_⟩:=QA hn;rw[i3]at r1;rw[i4]at r2;have hz:=G6 (w:=lH) (by decide) r1 r2 r3;have hl:=jG hk.ama (r:=dn lH fr nu (nA (stT k).inbox (aP (stT k).inbox fr nu).toNat).un) (by omega) true;simp only[e,aqu,aqX,aqj hi,aqr,aqv,ar6,aqm,th hi',XV,An r1 r2 r3,aqs];rw[aqh (aqi (by rw[← Aj [101,97,116]]at hz;rw[ay]at hz;rw[show(B [101,97,116,32]).size=(B ([101,97,116]++[32])).size from rfl];omega))];rw[show(B [101,97,116,32])=B ([101,97,116]++[32]) from rfl,Aj [101,97,116],hl];simp only[aqs];rcases tf (wrR k (dn lH fr nu (nA (stT k).inbox (aP (stT k).inbox fr nu).toNat).un) true).2 with e3 | e3
   ·simp only[e3,aqu,aqr,aqm]
   ·simp only[e3,aqv,aqr,aqm,H9 e3]
 ·simp only[e,aqv,aq5,aqz,aqm,aqr]
def wJ(k:ajR)(fr nu mix:Int):Frame×Bool:=
 if k.up&&(!decide (aP (stT k).held fr nu < 0)&&inB mix 0 999) then
  let n:=nA (stT k).held (aP (stT k).held fr nu).toNat
  (⟨1,k.id,cM k.id n.to,n.fr,n.nu,n.to,n.un,n.tx.size,mix,ta n.tx mix⟩,true)
 else(zF,false)
def yZ{k:ajR}(sm:dy k)(fr nu mix:Int):ft (tKp k,fr,nu,mix,())=some ((tF (if aj k then wJ k fr nu mix else(zF,false)).1,(if aj k then wJ k fr nu mix else(zF,false)).2,()),()):=by
 unfold ft wJ;rw[cY sm];rcases tf (aj k) with h | h
 ·have hk:=mM h;have hf:=bH hk.kok;have hl:=hf.hl;rcases tf k.up with e | e
  ·simp only[aqs,h,e,aqu,ash,aqr,aqm,la h,bX (l:=(stT k).held) (show(stT k).held.length≤1048576 by omega),dE,aq7,are,eY];by_cases hi:aP (stT k).held fr nu < 0
   ·simp only[aqi hi,aq5,aqm,aqu,aqz,aqV,aqr]
   ·have hi':0≤aP (stT k).held fr nu:=by omega
    rcases tf (inB mix 0 999) with e2 | e2
    ·simp only[aqj hi,e2,aqu,ash,aqr,aqv,ar6,aqm,th hi',XV,tD,P9,aqs]
    ·simp only[aqj hi,e2,aqv,arA,aqm,aqV,aqr]
  ·simp only[aqs,h,e,aqu,aqv,arA,aqm,aqz,aqr]
 ·simp only[aqs,h,aqv,aq5,aqm,aqr]
def zD{k:ajR}(sm:dy k)(fr nu mix:Int):iV (tKp k,fr,nu,mix,())=some ((tF (if aj k then wJ k fr nu mix else(zF,false)).1,(if aj k then wJ k fr nu mix else(zF,false)).2,()),()):=by
 unfold iV wJ;rw[gp sm];rcases tf (aj k) with h | h
 ·have hk:=mM h;have hf:=bH hk.kok;have hl:=hf.hl;rcases tf k.up with e | e
  ·simp only[aqs,h,e,aqu,aqr,aqm,bO];rcases tf (inB mix 0 999) with e2 | e2
   ·simp only[e2,aqu,aqr,fB h,dY (l:=(stT k).held) (show(stT k).held.length≤1048576 by omega),aqs];by_cases hi:aP (stT k).held fr nu < 0
    ·simp only[aqi hi,aqm,aqu,aqz,aqV,aqr]
    ·have hi':0≤aP (stT k).held fr nu:=by omega
     simp only[aqj hi,aqr,aqv,ar6,aqm,th hi',XV,BG,RI,aqs]
   ·simp only[e2,aqv,aqm,aqV,aqr]
  ·simp only[aqs,h,e,aqu,aqv,aqm,aqz,aqr]
 ·simp only[aqs,h,aqv,aqm,aqr]
def rn(k:ajR):ajR×Bool:=if k.up then(pkM k,true) else(k,false)
def aiM{k:ajR}{st:ajZ}(h:alp k st):NM k.log k.fo (aY st)=((eD (aY st),((eD (aY st)).size:Int)),true):=by
 have hrs:=td h.kok;have hps:=IV h.kok;unfold NM;rw[aqh h.sh,aqh];rw[aqt];refine⟨?_,aqi (by omega)⟩;unfold Ae;rw[arp];exact fun x hx=>by
  have:=hrs.1 x hx;exact ae.2 (by omega)
def IC{k:ajR}(h:aj k=true):gD (tKp k,())=some ((tKp (rn k).1,(rn k).2,()),()):=by
 have hk:=mM h;have hsm:=JU (bH hk.kok);have hP:=yS (lg:=k.log) (fo:=k.fo) (rs:=aY (stT k)) (De h) (Qh hk.kok);rw[aiM hk.ama]at hP;unfold gD rn;rw[cY (fY h)];simp only[aqs,h,aqu,aqr,la h,du (fY h),Bn hsm,hk.kok,aqm,hP];rcases tf k.up with e | e
 ·simp only[e,aqu,ash,aqr,aqm];unfold pkM;simp only[e]
 ·simp only[e,aqv,aq5,aqm,aqr]
def kr(k:ajR):ajR×Bool:=if k.up&& !decide (k.fo=(k.log.size:Int)) then(foM k,true) else(k,false)
def G4{k:ajR}(h:aj k=true):fN (tKp k,())=some ((tKp (kr k).1,(kr k).2,()),()):=by
 have hf:=bZ h;have hF:=kF (lg:=k.log) (fo:=k.fo) (De h);rw[show zG k.log k.fo=(k.log,(k.log.size:Int)) from aqh hf.sh]at hF;unfold fN kr;rw[cY (fY h)];simp only[aqs,h,aqu,aqr,du (fY h)];rcases tf k.up with e | e<;>rcases tfp (k.fo=(k.log.size:Int)) with e2 | e2<;>simp only[e,e2,aqn,aqo,aqu,aqv,arA,aq5,ash,ar6,aqV,aqz,aqm,aqr,hF,aqs];unfold foM;simp only[e]
def YM{k:ajR}(h:aj k=true)(keep:Int):(faM k keep)=⟨k.id,false,(JV k.log k.fo keep).1,(JV k.log k.fo keep).2,[]⟩:=by
 unfold faM JV tY;rw[aqh (bZ h).sh]
def ID{k:ajR}(sm:dy k)(keep:Int):gE (tKp k,keep,())=some ((tKp (if aj k then faM k keep else zKp),()),()):=by
 unfold gE;rw[cY sm];rcases tf (aj k) with h | h
 ·simp only[aqs,h,aqu,aqr,aqm,KZ sm.1,YM h]
 ·simp only[aqs,h,aqv,aqm,aqr]
def JL{k:ajR}(sm:dy k)(keep:Int):kR (tKp k,keep,())=some ((tKp (if aj k then faM k keep else zKp),()),()):=by
 unfold kR;rw[gp sm];rcases tf (aj k) with h | h
 ·simp only[aqs,h,aqu,aqr,aqm,LV sm.1,YM h]
 ·simp only[aqs,h,aqv,aqm,aqr]
def YQ{k:ajR}(h:aj k=true)(hu:k.up=false):k.ajS=[]:=by
 rcases(bZ h).up with h1 | h1
 ·rw[hu]at h1;cases h1
 ·exact aq2 h1
def IB{k:ajR}(h:aj k=true):gB (tKp k,())=some ((tKp (riM k),()),()):=by
 unfold gB riM;rw[cY (fY h)];simp only[aqs,h,aqu,aqr];rcases tf k.up with e | e
 ·simp only[e,aqm,du (fY h),aqs];rw[← e]
 ·simp only[e,aqr,YQ h e]
def JJ{k:ajR}(h:aj k=true):gK (tKp k,())=some ((tKp (riM k),()),()):=by
 unfold gK riM;rw[gp (fY h)];simp only[aqs,h,aqu,aqr,eH (fY h)]
end Go.VS
namespace Go.VS
open Go
def afE{hv:List ajY}{i:Nat}(h:i < hv.length)(x:ajY):hA (hv.set i x) i=x:=by
 rw[hA,aqE,atI h];rfl
def P4{l:List ajY}{f n:Int}(hl:l.length≤1048576):pr (l,f,n,())=some ((rK l f n,()),()):=by
 have h:n7 (l,f,n,0,())=some (if rK l f n < 0 then .inr () else .inl (rK l f n,())):=
  rG (fun i=>(l,f,n,(i:Int),())) l.length (fun i=>decide ((hA l i).fr=f)&&decide ((hA l i).nu=n)) (fun i=>(i,())) () (fun i hi=>by
   unfold nt;simp only[iP hi,ak hi,aqm,Vb,eY,cJ hi hl];rcases tfp ((hA l i).fr=f) with e | e<;>rcases tfp ((hA l i).nu=n) with e2 | e2<;>simp only[e,e2,aqn,aqo,ar6,aqV,aqz,aqm,aqr]) (by
   unfold nt;simp only[p7,aqr])
 unfold pr;rw[h];by_cases e':rK l f n < 0
 ·have:rK l f n= -1:=by
   rcases bF l.length (fun i=>decide ((hA l i).fr=f)&&decide ((hA l i).nu=n)) with h | ⟨i,h,_⟩
   ·exact h.1
   ·have:rK l f n=(i:Int):=h;omega
  rw[aqh e',this];rfl
 ·rw[aqg e'];rfl
def oL(l:List ajY)(f n:Int):rK l f n < 0∨ ∃ i:Nat,rK l f n=(i:Int)∧i < l.length∧(hA l i).fr=f∧(hA l i).nu=n:=by
 rcases bF l.length (fun i=>decide ((hA l i).fr=f)&&decide ((hA l i).nu=n)) with h | ⟨i,h,h2,h3,_⟩
 ·left;have:rK l f n= -1:=h.1;omega
 ·right;rw[aqt]at h3;exact⟨i,h,h2,aqk h3.1,aqk h3.2⟩
def bE(hv:List ajY)(f:Frame):List ajY×Nat:=
 if rK hv f.fr f.nu < 0 then((if 3≤hv.length then hv.drop 1 else hv)++[⟨f.fr,f.nu,f.to,f.un,f.sz,[]⟩],(if 3≤hv.length then hv.drop 1 else hv).length)
 else(hv,(rK hv f.fr f.nu).toNat)
def IQ{hv:List ajY}{f:Frame}:(bE hv f).2 < (bE hv f).1.length:=by
 unfold bE;rcases oL hv f.fr f.nu with h | ⟨i,h1,h2,_⟩
 ·rw[aqh h];simp
 ·rw[aqg (by omega)];show(rK hv f.fr f.nu).toNat < hv.length;omega
def IS{hv:List ajY}{f:Frame}(h:hv.length≤3):(bE hv f).1.length≤3:=by
 unfold bE;split
 ·simp only[aqD,arN];split
  ·rw[aru];omega
  ·omega
 ·exact h
def iQ(mix:Int)(m:ajV):Bool:= !decide (m.nu=mix)
def ic(got:List ajV)(mix:Int)(da:aqp):List ajV:=
 (if 14≤(got.filter (iQ mix)).length then(got.filter (iQ mix)).drop 1 else got.filter (iQ mix))++[⟨mix,da⟩]
def VT{p:ajV→Bool}(pre:List ajV)(m:ajV):(pre++[m]).filter p=pre.filter p++if p m then [m] else []:=by
 rw[aud];congr 1;simp only[asd,aut]
def WU{mix:Int}{da:aqp}(post:List ajV): ∀ (pre:List ajV),(pre++post).length≤1048576→
  nQ ((mix,da,()),pre.filter (iQ mix),pre++post,((pre++post).length:Int),(pre.length:Int),())=some (.inr ((mix,da,()),(pre++post).filter (iQ mix),())):=by
 induction post with
 | nil=>
  intro pre _;refine an ?_;unfold uO;simp only[aq6,p7,aqr]
 | cons m post ih=>
  intro pre hl;have hlen:pre.length < (pre++m::post).length:=by simp
  have hw:=cJ hlen hl;have hf:(pre.filter (iQ mix)).length≤pre.length:=arM _ _;have:=ih (pre++[m]) (by rw[← snoc];exact hl);rw[← snoc]at this;refine ai ?_ this;unfold uO;simp only[iP hlen,aqm,ak hlen,IM,hw,VT,@aqD _ pre [m],arN];rcases tfp (m.nu=mix) with e | e
  ·have:iQ mix m=false:=by unfold iQ;simp only[e,aqn,aqu]
   simp only[e,this,aqn,aqu,aqr,aq6]
  ·have:iQ mix m=true:=by unfold iQ;simp only[e,aqo,aqv]
   simp only[e,this,aqo,aqv,aqm];rw[aqh (aF (by simp at hl ⊢; omega))]
def Yu{got:List ajV}{mix:Int}{da:aqp}(hl:got.length≤1048576):xp (got,(mix,da,()),())=some ((ic got mix da,()),()):=by
 have hf:(got.filter (iQ mix)).length≤got.length:=arM _ _;unfold xp ic;rw[show nQ ((mix,da,()),[],got,(got.length:Int),0,())=_ from WU got [] hl];simp only[aJ,aqs,arF];by_cases h:14≤(got.filter (iQ mix)).length
 ·rw[aqh (aqi (by omega)),aqh h,aqh (by simp;omega),aqh (df (by rw[aru];omega) (by simp))];rfl
 ·rw[aqg (by rw[aqj (by omega)];exact aq3),aqg h,aqh (df (by omega) (by simp))]
def Wq{k:Int×Bool×aqp×Int×List ajY×aqq}{f:Frame}{z:Int×Bool×aqp×Int×List ajY×aqq}{i:Int}{h:ajY}(post:List ajV): ∀ (pre:List ajV),h.got=pre++post→(pre++post).length≤1048576→
  kB (k,tF f,z,i,(h.fr,h.nu,h.to,h.un,h.sz,h.got,()),pre.filter (iQ f.mix),(pre.length:Int),())=some (.inr (k,tF f,z,i,(h.fr,h.nu,h.to,h.un,h.sz,h.got,()),h.got.filter (iQ f.mix),())):=by
 induction post with
 | nil=>
  intro pre hg _;rw[aq6]at hg;refine an ?_;unfold pt;simp only[hg,p7,aqr]
 | cons m post ih=>
  intro pre hg hl;have hlen:pre.length < (pre++m::post).length:=by simp
  have hw:=cJ hlen hl;have hf:(pre.filter (iQ f.mix)).length≤pre.length:=arM _ _;have:=ih (pre++[m]) (by rw[hg,snoc]) (by rw[← snoc];exact hl);refine ai ?_ this;unfold pt;simp only[hg,iP hlen,aqm,ak hlen,IM,hw,VT,@aqD _ pre [m],arN];rcases tfp (m.nu=f.mix) with e | e
  ·have:iQ f.mix m=false:=by unfold iQ;simp only[e,aqn,aqu]
   simp only[e,this,aqn,aqu,aqr,aq6]
  ·have:iQ f.mix m=true:=by unfold iQ;simp only[e,aqo,aqv]
   simp only[e,this,aqo,aqv,aqm];rw[aqh (aF (by simp at hl ⊢; omega))]
def uR(hv:List ajY)(i:Nat):List ajY:=hv.take i++hv.drop (i+1)
def CA{hv:List ajY}{i:Nat}(hi:i < hv.length)(hl:hv.length≤1048576):fI (hv,(i:Int),())=some ((uR hv i,()),()):=by
 unfold fI uR;simp only[aqJ,arF];rw[cJ hi hl,aqh (by simp;omega),aqh (df (l:=([]:List ajY)) (by simp) (by simp;omega)),aqh (by simp;omega),aqh (df (by simp;omega) (by simp;omega)),aqJ]
def nk(hv:List ajY)(i:Nat)(f:Frame):List ajY:=hv.set i ⟨(hA hv i).fr,(hA hv i).nu,(hA hv i).to,(hA hv i).un,(hA hv i).sz,ic (hA hv i).got f.mix f.da⟩
def II(h:ajY)(f:Frame):Bool:=decide (h.to=f.to)&&(decide (h.un=f.un)&&decide (h.sz=f.sz))
def TB{k:ajR}(sm:dy k)(h3:k.ajS.length≤3)(f:Frame):
  rZ (tKp k,tF f,())=some ((if II (hA (bE k.ajS f).1 (bE k.ajS f).2) f then((k.id,k.up,k.log,k.fo,nk (bE k.ajS f).1 (bE k.ajS f).2 f,()),((bE k.ajS f).2:Int),()) else((k.id,k.up,k.log,k.fo,(bE k.ajS f).1,()),-1,()),())):=by
 obtain⟨id,up,lg,fo,hv⟩:=k;obtain⟨sl,hl,hs⟩:=sm;simp only at sl hl hs h3;unfold rZ;simp only[P4 hl,aqs];have akT:=IQ (hv:=hv) (f:=f);have akZ:=IS (hv:=hv) (f:=f) h3;have anr:(hA (bE hv f).1 (bE hv f).2).got.length≤1048576:=by
  unfold bE;rcases oL hv f.fr f.nu with h | ⟨i,h1,h2,_⟩
  ·rw[aqh h];simp only;rw[hA,aqE,arj (aqG _)];simp
  ·rw[aqg (by omega)];show(hA hv (rK hv f.fr f.nu).toNat).got.length≤1048576;rw[h1,aqJ,vU h2];exact(hs _ (ark h2)).1
 have amN: ∀ {Ω:Type} (F:(Int×Bool×aqp×Int×List ajY×aqq)×(Int×Int×Int×Int×Int×Int×Int×Int×Int×aqp×aqq)×(Int×Bool×aqp×Int×List ajY×aqq)×Int×aqq→Option Ω),
   bB F ((if(decide (rK hv f.fr f.nu < 0)) then
    (bB (X:=(Int×Bool×aqp×Int×List ajY×aqq)×(Int×Int×Int×Int×Int×Int×Int×Int×Int×aqp×aqq)×(Int×Bool×aqp×Int×List ajY×aqq)×aqq) (fun j7=>
    (if al (j7.1.2.2.2.2.1.length+([(ajY.mk j7.2.1.2.2.2.1 j7.2.1.2.2.2.2.1 j7.2.1.2.2.2.2.2.1 j7.2.1.2.2.2.2.2.2.1 j7.2.1.2.2.2.2.2.2.2.1 ([]:List ajV))]:List ajY).length) then
    let v9:=(w64 (((j7.1.2.2.2.2.1++([(ajY.mk j7.2.1.2.2.2.1 j7.2.1.2.2.2.2.1 j7.2.1.2.2.2.2.2.1 j7.2.1.2.2.2.2.2.2.1 j7.2.1.2.2.2.2.2.2.2.1 ([]:List ajV))]:List ajY)).length:Int) - 1))
    some (.inr ((j7.1.1,j7.1.2.1,j7.1.2.2.1,j7.1.2.2.2.1,(j7.1.2.2.2.2.1++([(ajY.mk j7.2.1.2.2.2.1 j7.2.1.2.2.2.2.1 j7.2.1.2.2.2.2.2.1 j7.2.1.2.2.2.2.2.2.1 j7.2.1.2.2.2.2.2.2.2.1 ([]:List ajV))]:List ajY)),()),j7.2.1,j7.2.2.1,v9,()))
    else none))
    ((if(decide (3≤(hv.length:Int))) then
    (fI (hv,0,())).bind fun r8=>
    some (.inr ((id,up,lg,fo,r8.1),tF f,(0,false,noB,0,([]:List ajY),()),()))
    else
    some (.inr ((id,up,lg,fo,hv,()),tF f,(0,false,noB,0,([]:List ajY),()),())))))
    else
    some (.inr ((id,up,lg,fo,hv,()),tF f,(0,false,noB,0,([]:List ajY),()),(rK hv f.fr f.nu,())))))=F ((id,up,lg,fo,(bE hv f).1,()),tF f,(0,false,noB,0,[],()),((bE hv f).2:Int),()):=by
  intro Ω F;unfold bE;rcases oL hv f.fr f.nu with h | ⟨i,h1,h2,_⟩
  ·rw[aqh (aqi h),aqh h];by_cases h4:3≤hv.length
   ·have hd:=CA (hv:=hv) (i:=0) (by omega) hl;rw[aqh (aqi (by omega)),show fI (hv,0,())=_ from hd];simp only[aqs,aS,aqh h4];rw[show uR hv 0=hv.drop 1 from by simp[uR],aqh (df (by simp;omega) (by simp)),aS,ah (by first | (simp;done) | (simp;omega)) (by first | (simp;done) | (simp;omega))];congr 1;simp
   ·rw[aqg (by rw[aqj (by omega)];exact aq3)];simp only[aS,aqg h4];rw[aqh (df (by omega) (by simp)),aS,ah (by first | (simp;done) | (simp;omega)) (by first | (simp;done) | (simp;omega))];congr 1;simp
  ·rw[aqg (by rw[aqj (by omega)];exact aq3),aqg (show ¬ rK hv f.fr f.nu < 0 by omega),aS];simp only;rw[h1,aqJ]
 rw[amN];revert akT akZ anr;generalize (bE hv f).1=l;generalize (bE hv f).2=i;intro akT akZ anr;unfold II;have hff:((hA l i).got.filter (iQ f.mix)).length≤(hA l i).got.length:=arM _ _;simp only[ak akT,aqm,Vb,aqJ];rcases tfp ((hA l i).to=f.to) with e1 | e1<;>simp only[e1,aqn,aqo,aqu,aqv,aqr,aqm,aqB,aqz];rcases tfp ((hA l i).un=f.un) with e2 | e2<;>simp only[e2,aqn,aqo,aqu,aqv,aqr,aqm,aqB,aqz];rcases tfp ((hA l i).sz=f.sz) with e3 | e3<;>simp only[e3,aqn,aqo,aqu,aqv,aqr,aqm];have hgo:=Wq (k:=(id,up,lg,fo,l,())) (f:=f) (z:=(0,false,noB,0,[],())) (i:=(i:Int)) (h:=hA l i) (hA l i).got [] rfl anr;rw[show kB ((id,up,lg,fo,l,()),tF f,(0,false,noB,0,[],()),(i:Int),((hA l i).fr,(hA l i).nu,(hA l i).to,(hA l i).un,(hA l i).sz,(hA l i).got,()),[],0,())=_ from hgo];simp only[aJ,aqs];unfold nk ic;by_cases h:14≤((hA l i).got.filter (iQ f.mix)).length
 ·rw[aqh (aqi (by omega)),aqh h,aqh (by simp;omega),aqh (df (l:=([]:List ajV)) (by simp) (by rw[aru];omega)),aS];simp only[arF,show aqy 1=1 from rfl];rw[aqh (df (by rw[aru];omega) (by simp)),aqh (ak akT)];rfl
 ·rw[aqg (by rw[aqj (by omega)];exact aq3),aqg h,aS];dsimp only;rw[aqh (df (by omega) (by simp)),aqh (ak akT)];rfl
end Go.VS
namespace Go.VS
open Go
def Tp(kind:Int)(f:Frame):Frame:=⟨kind,f.dst,f.src,f.fr,f.nu,f.to,f.un,0,0,noB⟩
def pU(n:ajT):aqp:=B [116,97,107,101,32]++wr n
abbrev Bb(k:ajR)(hv:List ajY):ajR:=⟨k.id,k.up,k.log,k.fo,hv⟩
def tv(k:ajR)(n:ajT)(f:Frame):ajR×List Frame:=
 if aB n&&(wrR k (pU n) true).2 then((wrR k (pU n) true).1,[Tp 2 f]) else(k,[])
def I3(k:ajR)(f:Frame):ajR×List Frame:=
 if II (hA (bE k.ajS f).1 (bE k.ajS f).2) f then
  (if(jE f.sz (ic (hA (bE k.ajS f).1 (bE k.ajS f).2).got f.mix f.da)).2 then
   tv (Bb k (uR (nk (bE k.ajS f).1 (bE k.ajS f).2 f) (bE k.ajS f).2)) ⟨f.fr,f.nu,f.to,f.un,(jE f.sz (ic (hA (bE k.ajS f).1 (bE k.ajS f).2).got f.mix f.da)).1⟩ f
  else(Bb k (nk (bE k.ajS f).1 (bE k.ajS f).2 f),[]))
 else(Bb k (bE k.ajS f).1,[])
def mK(k:ajR)(f:Frame):ajR×List Frame:=
 if f.un≤(stT k).ti then(k,[Tp 3 f])
 else if 0≤aP (stT k).held f.fr f.nu∨0≤gH (stT k).marks f.fr f.nu then(foM k,[Tp 2 f])
 else if f.fr=k.id then(k,[])
 else I3 k f
def XB{s:Int}{l:List ajV}:(jE s l).1.size≤24:=by
 unfold jE;split
 ·rename_i h;have h1:=ae.1 h;split
  ·exact arB _
  ·rename_i c hc;split
   ·have hb:inB (aqU (s+3) 4) 1 6=true:=by
     have hd:aqU (s+3) 4=(s+3) / 4:=arf (by omega);exact ae.2 (by omega)
    have hk:=Qr hb l;have hz:=EP hk.all hc;have hz0:noB.size=0:=rfl;have hd:aqU (s+3) 4=(s+3) / 4:=arf (by omega);rw[hk.1,hz0]at hz;rw[dz (by omega)];omega
   ·exact arB _
 ·exact arB _
def VL(got:List ajV)(mix:Int)(da:aqp):(ic got mix da).length≤got.length+1:=by
 have hf:(got.filter (iQ mix)).length≤got.length:=arM _ _;unfold ic;simp only[aqD,arN];split
 ·rw[aru];omega
 ·omega
def aik{h:ajY}(ok:iW h=true):h.got.length≤14:=by
 unfold iW at ok;simp only[aqt]at ok;have h1:=aqk ok.2.2.2.2.2.1;omega
def Vc{hv:List ajY}{f:Frame}(hs: ∀ h∈hv,iW h=true):(hA (bE hv f).1 (bE hv f).2).got.length≤14:=by
 unfold bE;rcases oL hv f.fr f.nu with h | ⟨i,h1,h2,_⟩
 ·rw[aqh h];simp only;rw[hA,aqE,arj (aqG _)];simp
 ·rw[aqg (by omega)];show(hA hv (rK hv f.fr f.nu).toNat).got.length≤14;rw[h1,aqJ,vU h2];exact aik (hs _ (ark h2))
def Xq{k:ajR}{st:ajZ}(h:alp k st)(hv:List ajY):alp (Bb k hv) st:=⟨h.sh,h.st⟩
def VJ{k:ajR}(h:aj k=true): ∀ x∈k.ajS,iW x=true:=by
 intro x hx;obtain⟨i,hi,rfl⟩:=WY hx;have:=(bZ h).hv i hi;unfold AR at this;rw[aqt]at this;exact this.1
def Ws{k:ajR}(h:aj k=true){f:Frame}(hf:kU f=true)(h1:f.ki=1):jH (tKp k,tF f,())=some ((tKp (mK k f).1,(mK k f).2,()),()):=by
 have hk:=mM h;have hkf:=bH hk.kok;have sm:=fY h;have kf:=bZ h;have hF:=kF (lg:=k.log) (fo:=k.fo) (De h);rw[show zG k.log k.fo=(k.log,(k.log.size:Int)) from aqh kf.sh]at hF;have hl:=hkf.hl;have ml:=hkf.ml;have hfr:inB f.sz 1 24=true∧inB f.mix 0 999=true:=by
  unfold kU ym at hf;simp only[aqt]at hf;have:=hf.2.2.2.2.2.2;rw[aqh (aqi h1)]at this;simp only[aqt]at this;exact⟨this.1,this.2.1⟩
 have hsz:=ae.1 hfr.1;have hmx:ow (aqU (f.sz+3) 4) f.mix=true:=by
  have hd:aqU (f.sz+3) 4=(f.sz+3) / 4:=arf (by omega);unfold ow;rw[hfr.2,auf];exact ae.2 (by omega)
 unfold jH mK;simp only[la h,aqs];by_cases c1:f.un≤(stT k).ti
 ·rw[aqh (aqi c1),aqh c1];rfl
 ·rw[aqg (by rw[aqj c1];exact aq3),aqg c1];simp only[bX (l:=(stT k).held) (show(stT k).held.length≤1048576 by omega),iF (l:=(stT k).marks) (show(stT k).marks.length≤1048576 by omega),aqs,aq7,are,eY,aqm];by_cases c2:0≤aP (stT k).held f.fr f.nu∨0≤gH (stT k).marks f.fr f.nu
  ·rw[aqh (by rw[aq8];exact c2.imp aqi aqi),aqh c2];simp only[hF,aqs];rfl
  ·rw[aqg (by rw[aq8];exact fun h=>c2 (h.imp aqk aqk)),aqg c2];simp only[ns (n:=f.sz) (by omega) (by omega),wT,hmx,aq7,are,eY,aqm,aqu,arJ];by_cases c3:f.fr=k.id
   ·rw[aqh (aqi c3),aqh c3]
   ·rw[aqg (by rw[aqj c3];exact aq3),aqg c3];have anA:=TB sm kf.hl f;rw[anA];simp only[aqs];unfold I3;rcases tf (II (hA (bE k.ajS f).1 (bE k.ajS f).2) f) with c4 | c4
    ·have akT:=IQ (hv:=k.ajS) (f:=f);have akZ:=IS (hv:=k.ajS) (f:=f) kf.hl;have hal:(nk (bE k.ajS f).1 (bE k.ajS f).2 f).length=(bE k.ajS f).1.length:=by unfold nk;rw[arZ]
     have aot:=Vc (f:=f) (VJ h);have hgl:=VL (hA (bE k.ajS f).1 (bE k.ajS f).2).got f.mix f.da;have anr:(hA (nk (bE k.ajS f).1 (bE k.ajS f).2 f) (bE k.ajS f).2).got=ic (hA (bE k.ajS f).1 (bE k.ajS f).2).got f.mix f.da:=by
      unfold nk;rw[afE akT]
     simp only[c4,aqm];rw[aqg (by rw[aqj (by omega)];exact aq3),aqh (ak (by rw[hal];exact akT))];simp only[Vb,anr,P7 f.sz _ (show(ic (hA (bE k.ajS f).1 (bE k.ajS f).2).got f.mix f.da).length≤1048576 by omega),aqs];rcases tf (jE f.sz (ic (hA (bE k.ajS f).1 (bE k.ajS f).2).got f.mix f.da)).2 with c5 | c5
     ·simp only[c5,aqu,aqr,aqm];rw[CA (by rw[hal];exact akT) (by rw[hal];omega)];simp only[aqs];rw[fq (by have:=XB (s:=f.sz) (l:=ic (hA (bE k.ajS f).1 (bE k.ajS f).2).got f.mix f.da);omega)];simp only[aqs];unfold tv;generalize hn:(⟨f.fr,f.nu,f.to,f.un,(jE f.sz (ic (hA (bE k.ajS f).1 (bE k.ajS f).2).got f.mix f.da)).1⟩:ajT)=n;rcases tf (aB n) with c6 | c6
      ·have hz:=ZV (w:=B [116,97,107,101,32]) (by rw[aO];decide) c6;have hw:=jG (Xq hk.ama (uR (nk (bE k.ajS f).1 (bE k.ajS f).2 f) (bE k.ajS f).2)) (r:=pU n) hz true;simp only[c6,aqm,aqB];rw[aqg (by rw[aqj ad8];exact aq3),aqh (aqi (by rw[ay]at hz;omega))];rw[show bW ((k.id,k.up,k.log,k.fo,uR (nk (bE k.ajS f).1 (bE k.ajS f).2 f) (bE k.ajS f).2,()),B [116,97,107,101,32]++wr n,true,())=_ from hw];simp only[aqs];rcases tf (wrR (Bb k (uR (nk (bE k.ajS f).1 (bE k.ajS f).2 f) (bE k.ajS f).2)) (pU n) true).2 with c7 | c7
       ·simp only[c7,aqu,aqr,aqm];rfl
       ·simp only[c7,aqv,aqr,aqm,H9 c7]
      ·simp only[c6,aqr,aqn,aqm,aqz]
     ·simp only[c5,aqv,aqr,aqm]
    ·simp only[c4,aqr];rfl
end Go.VS
namespace Go.VS
open Go
def LQ{k:ajR}(h:aj k=true){f:Frame}:iT (tKp k,tF f,())=some ((tKp (mK k f).1,(mK k f).2,()),()):=by
 have hk:=mM h;have hkf:=bH hk.kok;have sm:=fY h;have kf:=bZ h;have hl:=hkf.hl;have ml:=hkf.ml;have hl3:=kf.hl;have hlen:k.ajS.length≤1048576:=by omega
 unfold iT mK;simp only[fB h,aqs];by_cases c1:f.un≤(stT k).ti
 ·rw[aqh (aqi c1),aqh c1];rfl
 ·rw[aqg (by rw[aqj c1];exact aq3),aqg c1];simp only[dY (l:=(stT k).held) (show(stT k).held.length≤1048576 by omega),jZ (l:=(stT k).marks) (show(stT k).marks.length≤1048576 by omega),aqs,aq7,are,eY,aqm];by_cases c2:0≤aP (stT k).held f.fr f.nu∨0≤gH (stT k).marks f.fr f.nu
  ·rw[aqh (by rw[aq8];exact c2.imp aqi aqi),aqh c2,yi kf.sh];rfl
  ·rw[aqg (by rw[aq8];exact fun h=>c2 (h.imp aqk aqk)),aqg c2];by_cases c3:f.fr=k.id
   ·rw[aqh (aqi c3),aqh c3]
   ·rw[aqg (by rw[aqj c3];exact aq3),aqg c3];simp only[FV hlen,aqs];have akT:=IQ (hv:=k.ajS) (f:=f);have akZ:=IS (hv:=k.ajS) (f:=f) kf.hl;have aot:=Vc (f:=f) (VJ h);have amN: ∀ {Ω:Type} (F:(Int×Bool×aqp×Int×List ajY×aqq)×(Int×Int×Int×Int×Int×Int×Int×Int×Int×aqp×aqq)×(Int×Bool×aqp×Int×List ajY×aqq)×Int×aqq→Option Ω),
      bB F ((if(decide (rK k.ajS f.fr f.nu < 0)) then
      (if al (k.ajS.length+([(ajY.mk f.fr f.nu f.to f.un f.sz ([]:List ajV))]:List ajY).length) then
      (if(decide (3 < ((k.ajS++([(ajY.mk f.fr f.nu f.to f.un f.sz ([]:List ajV))]:List ajY)).length:Int))) then
      (if(decide (0≤1)&&decide (1≤((k.ajS++([(ajY.mk f.fr f.nu f.to f.un f.sz ([]:List ajV))]:List ajY)).length:Int))) then
      let v22:=(w64 (((aq9 (aqy 1) (k.ajS++([(ajY.mk f.fr f.nu f.to f.un f.sz ([]:List ajV))]:List ajY))).length:Int) - 1))
      some (.inr ((k.id,k.up,k.log,k.fo,(aq9 (aqy 1) (k.ajS++([(ajY.mk f.fr f.nu f.to f.un f.sz ([]:List ajV))]:List ajY))),()),tF f,(0,false,noB,0,([]:List ajY),()),v22,()))
      else none)
      else
      let v23:=(w64 (((k.ajS++([(ajY.mk f.fr f.nu f.to f.un f.sz ([]:List ajV))]:List ajY)).length:Int) - 1))
      some (.inr ((k.id,k.up,k.log,k.fo,(k.ajS++([(ajY.mk f.fr f.nu f.to f.un f.sz ([]:List ajV))]:List ajY)),()),tF f,(0,false,noB,0,([]:List ajY),()),v23,())))
      else none)
      else
      some (.inr (tKp k,tF f,(0,false,noB,0,([]:List ajY),()),(rK k.ajS f.fr f.nu,())))))=F ((k.id,k.up,k.log,k.fo,(bE k.ajS f).1,()),tF f,(0,false,noB,0,[],()),((bE k.ajS f).2:Int),()):=by
     intro Ω F;unfold bE;rcases oL k.ajS f.fr f.nu with h | ⟨i,h1,h2,_⟩
     ·rw[aqh (aqi h),aqh h,aqh (df hlen (by simp))];by_cases h4:3≤k.ajS.length
      ·rw[aqh (aqi (by simp;omega)),aqh (by simp;omega),aqh h4];have e1:aq9 (aqy 1) (k.ajS++[(⟨f.fr,f.nu,f.to,f.un,f.sz,[]⟩:ajY)])=k.ajS.drop 1++[⟨f.fr,f.nu,f.to,f.un,f.sz,[]⟩]:=by
        show aq9 1 _=_;rw[at2 (by omega)]
       simp only[e1];rw[aS,ah (by first | (simp;done) | (simp;omega)) (by first | (simp;done) | (simp;omega))];congr 1;simp
      ·rw[aqg (by simp;omega),aqg h4];simp only;rw[aS,ah (by first | (simp;done) | (simp;omega)) (by first | (simp;done) | (simp;omega))];congr 1;simp
     ·rw[aqg (by rw[aqj (by omega)];exact aq3),aqg (show ¬ rK k.ajS f.fr f.nu < 0 by omega),aS];simp only;rw[h1,aqJ]
    rw[amN];have hgl:=VL (hA (bE k.ajS f).1 (bE k.ajS f).2).got f.mix f.da;unfold I3;have hLg:=fun hv=>Xq hk.ama hv;revert akT akZ aot hgl;generalize (bE k.ajS f).1=l;generalize (bE k.ajS f).2=i;intro akT akZ aot hgl;have apz:l.set i ⟨(hA l i).fr,(hA l i).nu,(hA l i).to,(hA l i).un,(hA l i).sz,ic (hA l i).got f.mix f.da⟩=nk l i f:=rfl;have hal:(nk l i f).length=l.length:=by unfold nk;rw[arZ]
    have hat:hA (nk l i f) i=⟨(hA l i).fr,(hA l i).nu,(hA l i).to,(hA l i).un,(hA l i).sz,ic (hA l i).got f.mix f.da⟩:=afE akT _;simp only[ak akT,aqm,Vb,aqJ];unfold II;rcases tfp ((hA l i).to=f.to) with e1 | e1<;>simp only[e1,aqn,aqo,aqu,aqv,aqr,aqm,aqB,aqz];rcases tfp ((hA l i).un=f.un) with e2 | e2<;>simp only[e2,aqn,aqo,aqu,aqv,aqr,aqm,aqB,aqz];rcases tfp ((hA l i).sz=f.sz) with e3 | e3<;>simp only[e3,aqn,aqo,aqu,aqv,aqr,aqm];have e3':(hA l i).sz=f.sz:=of_eq_true e3;rw[Yu (show(hA l i).got.length≤1048576 by omega)];simp only[aqs,apz,hat];rw[e3'];rw[RG f.sz _ (show(ic (hA l i).got f.mix f.da).length≤1048576 by omega)];simp only[aqs];rcases tf (jE f.sz (ic (hA l i).got f.mix f.da)).2 with c5 | c5
    ·simp only[c5,aqu,aqr,aqm];rw[aqh (by simp;omega),aqh (df (l:=([]:List ajY)) (by simp) (by simp;omega)),cJ (n:=i) (m:=l.length) akT (by omega),aqh (by simp;omega),aqh (df (by simp;omega) (by simp;omega))];rw[ma (by have:=XB (s:=f.sz) (l:=ic (hA l i).got f.mix f.da);omega)];simp only[aqs,arF,aqJ];unfold tv;generalize hn:(⟨f.fr,f.nu,f.to,f.un,(jE f.sz (ic (hA l i).got f.mix f.da)).1⟩:ajT)=n;have hL:=hLg (uR (nk l i f) i);have hdr:aqR i (nk l i f)++aq9 (i+1) (nk l i f)=uR (nk l i f) i:=rfl;rw[hdr];rcases tf (aB n) with c6 | c6
     ·have hz:=ZV (w:=B [116,97,107,101,32]) (by rw[aO];decide) c6;have hw:=xn hL (r:=pU n) hz;simp only[c6,aqm,aqB];rw[aqh (aqi (by rw[ay]at hz;omega))];rw[show jk ((k.id,k.up,k.log,k.fo,uR (nk l i f) i,()),B [116,97,107,101,32]++wr n,())=_ from hw];simp only[aqs];unfold wrR;rw[hL.stT];cases hc:cg (stT k) (pU n) with
      | none=>rfl
      | some o=>
       simp only[aqu,aqr,aqm];rw[yi (aeb hL hc)];rfl
     ·have hb:cg (stT k) (B [116,97,107,101,32]++noB)=none:=aam hk.kok Vn (.inr rfl);have hz0:(B [116,97,107,101,32]++noB).size≤1048576:=by rw[ay,aO];show 5+0≤1048576;omega
      have hw:=xn hL (r:=B [116,97,107,101,32]++noB) hz0;rw[aea (by rw[hL.stT];exact hb)]at hw;simp only[c6,aqr,aqz];rw[aqh (aqi (show(B [116,97,107,101,32]).size+noB.size≤4611686018427387904 by rw[aO];show 5+0≤4611686018427387904;omega))];rw[show jk ((k.id,k.up,k.log,k.fo,uR (nk l i f) i,()),B [116,97,107,101,32]++noB,())=_ from hw];rfl
    ·simp only[c5,aqv,aqr,aqm]
end Go.VS
namespace Go.VS
open Go
def l4{α β:Type}[DecidableEq β]{l:List α}{f:α→β}:(l.map f).Nodup↔ ∀ (i j:Nat) (hi:i < l.length) (hj:j < l.length),j < i→f l[j]≠f l[i]:=by
 unfold List.Nodup;rw[auk];constructor
 ·intro h i j hi hj hlt;have:=h j i (by simpa using hj) (by simpa using hi) hlt;simpa using this
 ·intro h i j hi hj hlt;have:=h j i (by simpa using hj) (by simpa using hi) hlt;simpa using this
def aa0{l:List ajV}{i:Nat}(h:i < l.length):xA l i=l[i]:=by
 rw[xA,aqE,aqC h];rfl
def zd(m:ajV):Prop:=inB m.nu 0 999=true∧(m.da.size:Int)=4
structure akW (l:List ajV):Prop where
 el: ∀ m∈l,zd m
 nd:(l.map (·.nu)).Nodup
def abB{l:List ajV}:db l.length (xC l)=true↔akW l:=by
 rw[cw];constructor
 ·intro h;refine⟨fun m hm=> ?_,l4.2 fun i j hi hj hlt=> ?_⟩
  ·obtain⟨i,hi,rfl⟩:=ad5 hm;have:=h i hi;unfold xC at this;simp only[aqt]at this;exact⟨this.1.1,aqk this.1.2⟩
  ·have:=h i hi;unfold xC at this;simp only[aqt]at this;have:=cw.1 this.2 j hlt;rw[aa0 hi,aa0 hj]at this;simpa using this
 ·intro h i hi;unfold xC;simp only[aqt];have h1:=h.el l[i] (ark hi);rw[aa0 hi];refine⟨⟨h1.1,aqi h1.2⟩,cw.2 fun j hj=> ?_⟩;have:=l4.1 h.nd i j hi (by omega) hj;rw[aa0 (show j < l.length by omega)];simpa using this
def afJ{l:List ajV}(h:akW l)(hl:l.length≤14){mix:Int}{da:aqp}(hm:zd ⟨mix,da⟩):akW (ic l mix da)∧(ic l mix da).length≤14:=by
 have hf:(l.filter (iQ mix)).length≤l.length:=arM _ _;have al5: ∀ g:List ajV,g.Sublist (l.filter (iQ mix))→akW (g++[⟨mix,da⟩]):=by
  intro g hg;refine⟨fun m hm'=> ?_, ?_⟩
  ·rcases aqL.1 hm' with h1 | h1
   ·exact h.el m (ar3.1 (hg.subset h1)).1
   ·rw[aq4.1 h1];exact hm
  ·rw[arG,asM];refine⟨h.nd.sublist ((hg.trans List.filter_sublist).map _),by simp,fun a ha b hb=> ?_⟩;obtain⟨m,h1,rfl⟩:=arv.1 ha;have h2:=(ar3.1 (hg.subset h1)).2;have hb:b=mix:=by simpa using hb
   rw[hb];unfold iQ at h2;simpa using h2
 unfold ic;split
 ·refine⟨al5 _ (atH _ _), ?_⟩;simp only[aqD,arN,aru];omega
 ·refine⟨al5 _ (art _), ?_⟩;simp only[aqD,arN];omega
abbrev LY(h:ajY):Int×Int:=(h.fr,h.nu)
structure akI (l:List ajY):Prop where
 el: ∀ h∈l,iW h=true
 nd:(l.map LY).Nodup
def afv{l:List ajY}:(∀ i,i < l.length→AR l i=true)↔akI l:=by
 constructor
 ·intro h;refine⟨fun m hm=> ?_,l4.2 fun i j hi hj hlt=> ?_⟩
  ·obtain⟨i,hi,rfl⟩:=WY hm;have:=h i hi;unfold AR at this;rw[aqt]at this;exact this.1
  ·have:=h i hi;unfold AR at this;rw[aqt]at this;have:=cw.1 this.2 j hlt;rw[vU hi,vU hj]at this;intro e;simp only[LY,arb]at e;simp[e.1,e.2]at this
 ·intro h i hi;unfold AR;rw[aqt];refine⟨by rw[vU hi];exact h.el _ (ark hi),cw.2 fun j hj=> ?_⟩;have:=l4.1 h.nd i j hi (by omega) hj;rw[vU hi,vU (show j < l.length by omega)];simp only[LY,ne_eq,arb,not_and]at this;by_cases e:l[j].fr=l[i].fr
  ·simp[e,this e]
  ·simp[e]
def Dz{f:Frame}(h:kU f=true):isN f.src=true∧isN f.dst=true∧isN f.fr=true∧isN f.to=true∧inB f.nu 1 99=true∧inB f.un 1 999=true∧ym f=true:=by
 unfold kU at h;simp only[aqt]at h;exact h
def HA{f:Frame}(h:kU f=true)(h1:f.ki=1):inB f.sz 1 24=true∧zd ⟨f.mix,f.da⟩∧f.dst=cM f.src f.to:=by
 have:=(Dz h).2.2.2.2.2.2;unfold ym at this;rw[aqh (aqi h1)]at this;simp only[aqt]at this;exact⟨this.1,⟨this.2.1,aqk this.2.2.1⟩,aqk this.2.2.2⟩
def akI.sub{l g:List ajY}(h:akI l)(hg:g.Sublist l):akI g:=⟨fun x hx=>h.el x (hg.subset hx),h.nd.sublist (hg.map _)⟩
def agV{l:List ajY}(h:akI l){f:Frame}(hf:kU f=true)(h1:f.ki=1):akI (bE l f).1:=by
 obtain⟨_,_,r3,r4,r5,r6,_⟩:=Dz hf;have hp:=HA hf h1;unfold bE;split
 ·rename_i hi;have alS: ∀ x∈l,LY x≠(f.fr,f.nu):=by
   intro x hx e;obtain⟨i,hi',rfl⟩:=WY hx;simp only[LY,arb]at e;rcases bF l.length (fun i=>decide ((hA l i).fr=f.fr)&&decide ((hA l i).nu=f.nu)) with h | ⟨i,h,_⟩
   ·have:=h.2 i hi';simp[e.1,e.2]at this
   ·have:rK l f.fr f.nu=(i:Int):=h;omega
  have al5: ∀ g:List ajY,g.Sublist l→akI (g++[⟨f.fr,f.nu,f.to,f.un,f.sz,[]⟩]):=by
   intro g hg;refine⟨fun x hx=> ?_, ?_⟩
   ·rcases aqL.1 hx with h2 | h2
    ·exact h.el x (hg.subset h2)
    ·rw[aq4.1 h2];unfold iW;simp only[r3,r4,r5,r6,hp.1,aqB];rfl
   ·rw[arG,asM];refine⟨h.nd.sublist (hg.map _),by simp,fun a ha b hb=> ?_⟩;obtain⟨m,h2,rfl⟩:=arv.1 ha;have hb:b=(f.fr,f.nu):=by simpa using hb
    rw[hb];exact alS m (hg.subset h2)
  simp only;split
  ·exact al5 _ (atH _ _)
  ·exact al5 _ (art _)
 ·exact h
def afD{h:ajY}(ok:iW h=true):akW h.got∧h.got.length≤14:=by
 have h1:=aik ok;unfold iW at ok;simp only[aqt]at ok;exact⟨abB.1 ok.2.2.2.2.2.2,h1⟩
def afC{h:ajY}(ok:iW h=true){g:List ajV}(hg:akW g)(hl:g.length≤14):iW ⟨h.fr,h.nu,h.to,h.un,h.sz,g⟩=true:=by
 unfold iW at ok ⊢;simp only[aqt]at ok ⊢;exact⟨ok.1,ok.2.1,ok.2.2.1,ok.2.2.2.1,ok.2.2.2.2.1,aqi (by omega),abB.2 hg⟩
def ah3{l:List ajY}(h:akI l){i:Nat}(hi:i < l.length){f:Frame}(hm:zd ⟨f.mix,f.da⟩):akI (nk l i f):=by
 have hh:=h.el l[i] (ark hi);have hg:=afD hh;have hn:=afJ hg.1 hg.2 hm;unfold nk;rw[vU hi];refine⟨fun x hx=> ?_, ?_⟩
 ·rcases asE hx with h1 | h1
  ·exact h.el x h1
  ·rw[h1];exact afC hh hn.1 hn.2
 ·rw[List.map_set];have:(l.map LY).set i (LY ⟨l[i].fr,l[i].nu,l[i].to,l[i].un,l[i].sz,ic l[i].got f.mix f.da⟩)=l.map LY:=by
   apply List.ext_getElem (by simp);intro j h1 h2;rw[List.getElem_set];split
   ·rename_i e;subst e;simp
   ·rfl
  rw[this];exact h.nd
def ahM{l:List ajY}(h:akI l)(i:Nat):akI (uR l i):=by
 refine h.sub ?_;unfold uR;have:(l.take i++l.drop (i+1)).Sublist (l.take i++l.drop i):=List.Sublist.append (art _) (by rw[← asP];exact atH _ _);rw[ass]at this;exact this
def Po{k:ajR}{st:ajZ}(h:akt k st)(hu:k.up=true){hv:List ajY}(hl:hv.length≤3)(hf:akI hv):akt (Bb k hv) st:=by
 obtain⟨rs,ts,h1,h2⟩:=h.lg;have kf:=bZ h.ok;exact⟨tc (k:=Bb k hv) kf.id h1 hl (.inl hu) (by rw[show(Bb k hv).id=k.id from rfl,h2];rfl) (afv.2 hf),h.st⟩
def PK{k:ajR}{st:ajZ}(h:akt k st)(r:aqp)(b:Bool): ∃ o,akt (wrR k r b).1 o∧((wrR k r b).2=true→cg st r=some o)∧((wrR k r b).2=false→o=st∧cg st r=none):=by
 unfold wrR;rw[h.stT];cases hc:cg st r with
 | none=>exact⟨st,h,(fun e=>absurd e aq3),fun _=>⟨rfl,rfl⟩⟩
 | some o=>
  refine⟨o, ?_,(fun _=>rfl),fun e=>absurd e.symm aq3⟩;simp only;split
  ·exact RW (Wf h hc)
  ·exact Wf h hc
def Lg{k:ajR}(h:aj k=true)(hu:k.up=true){f:Frame}(hf:kU f=true)(h1:f.ki=1):aj (mK k f).1=true:=by
 have hk:=mM h;have kf:=bZ h;have hv:=afv.1 kf.hv;have hp:=HA hf h1;have akT:=IQ (hv:=k.ajS) (f:=f);have akZ:=IS (hv:=k.ajS) (f:=f) kf.hl;have hpf:=agV hv hf h1;have haf:=ah3 hpf akT hp.2.1;have hal:(nk (bE k.ajS f).1 (bE k.ajS f).2 f).length=(bE k.ajS f).1.length:=by unfold nk;rw[arZ]
 unfold mK;split
 ·exact h
 split
 ·exact(RW hk).ok
 split
 ·exact h
 unfold I3;split
 ·split
  ·unfold tv;have hw:=Po hk hu (hv:=uR (nk (bE k.ajS f).1 (bE k.ajS f).2 f) (bE k.ajS f).2) (by unfold uR;simp;omega) (ahM haf _);split
   ·obtain⟨o,ho,_⟩:=PK hw (pU ⟨f.fr,f.nu,f.to,f.un,(jE f.sz (ic (hA (bE k.ajS f).1 (bE k.ajS f).2).got f.mix f.da)).1⟩) true;exact ho.ok
   ·exact hw.ok
  ·exact(Po hk hu (by rw[hal];exact akZ) haf).ok
 ·exact(Po hk hu akZ hpf).ok
end Go.VS
namespace Go.VS
open Go
def zE(k:ajR)(f:Frame):ajR×List Frame:=
 if k.up&&(kU f&&decide (f.dst=k.id)) then
  (if decide (f.ki=1) then mK k f
   else if decide (f.ki=2)&&(!decide (aP (stT k).held f.fr f.nu < 0)&&(decide ((nA (stT k).held (aP (stT k).held f.fr f.nu).toNat).to=f.to)&&decide ((nA (stT k).held (aP (stT k).held f.fr f.nu).toNat).un=f.un))) then
    ((wrR k (dn lG f.fr f.nu f.un) false).1,[])
   else(k,[]))
 else(k,[])
def dP(k:ajR)(f:Frame):ajR×List Frame:=if aj k then zE k f else(zKp,[])
def VM{f:Frame}(h:kU f=true):(0≤f.fr∧f.fr≤999)∧(0≤f.nu∧f.nu≤999)∧(0≤f.un∧f.un≤999):=by
 obtain⟨_,_,r3,_,r5,r6,_⟩:=Dz h;have a:=ae.1 r3;have b:=ae.1 r5;have c:=ae.1 r6;exact⟨by omega,by omega,by omega⟩
def wZ{k:ajR}(sm:dy k)(f:Frame):aq (tKp k,tF f,())=some ((tKp (dP k f).1,(dP k f).2,()),()):=by
 unfold aq dP;rw[cY sm];rcases tf (aj k) with h | h
 ·have hk:=mM h;have hkf:=bH hk.kok;have hl:=hkf.hl;have hl':(stT k).held.length≤1048576:=by omega
  unfold zE;simp only[aqs,h,aqu,aqr,aqm,du sm,CN,la h,bX hl'];rcases tf k.up with e | e<;>simp only[e,aqu,aqv,aqr,aqm,aqB,aqz];rcases tf (kU f) with e2 | e2<;>simp only[e2,aqu,aqv,aqr,aqm,aqB,aqz];rcases tfp (f.dst=k.id) with e3 | e3<;>simp only[e3,aqn,aqo,aqu,aqv,aqr,aqm];obtain⟨r1,r2,r3⟩:=VM e2;rcases tfp (f.ki=1) with e4 | e4
  ·have e4':=of_eq_true e4;simp only[e4,aqn,aqm];rw[show jH (tKp k,tF f,())=_ from Ws h e2 e4'];simp only[aqs];rw[du (fY (Lg h e e2 e4'))];rfl
  ·simp only[e4,aqo,aqr];rcases tfp (f.ki=2) with e5 | e5<;>simp only[e5,aqn,aqo,aqu,aqv,aqr,aqm,aqB,aqz];by_cases hi:aP (stT k).held f.fr f.nu < 0
   ·simp only[aqi hi,aqm,aqu,aqz,aqr]
   ·have hi':0≤aP (stT k).held f.fr f.nu:=by omega
    simp only[aqj hi,aqr,aqv,aqB,aqm,th hi',XV];rcases tfp ((nA (stT k).held (aP (stT k).held f.fr f.nu).toNat).un=f.un) with e6 | e6<;>simp only[e6,aqn,aqo,aqu,aqv,aqr,aqm,auf,aqV];rcases tfp ((nA (stT k).held (aP (stT k).held f.fr f.nu).toNat).to=f.to) with e7 | e7<;>simp only[e7,aqn,aqo,aqu,aqv,aqr,aqm];have hz:=G6 (w:=lG) (by decide) r1 r2 r3;have hw:=jG hk.ama (r:=dn lG f.fr f.nu f.un) (by omega) false;rw[An r1 r2 r3];simp only[aqs];rw[aqh (aqi (by rw[← Aj [108,101,116]]at hz;rw[ay]at hz;rw[show(B [108,101,116,32]).size=(B ([108,101,116]++[32])).size from rfl];omega))];rw[show(B [108,101,116,32])=B ([108,101,116]++[32]) from rfl,Aj [108,101,116],hw];rfl
 ·simp only[aqs,h,aqv,aqm,aqr]
def JK{k:ajR}(sm:dy k)(f:Frame):kQ (tKp k,tF f,())=some ((tKp (dP k f).1,(dP k f).2,()),()):=by
 unfold kQ dP;rw[gp sm];rcases tf (aj k) with h | h
 ·have hk:=mM h;have hkf:=bH hk.kok;have hl:=hkf.hl;have hl':(stT k).held.length≤1048576:=by omega
  unfold zE;simp only[aqs,h,aqu,aqr,aqm,eH sm,RM,fB h,dY hl'];rcases tf k.up with e | e<;>simp only[e,aqu,aqv,aqr,aqm,aqB,aqz];rcases tf (kU f) with e2 | e2<;>simp only[e2,aqu,aqv,aqr,aqm,aqB,aqz];rcases tfp (f.dst=k.id) with e3 | e3<;>simp only[e3,aqn,aqo,aqu,aqv,aqr,aqm];obtain⟨r1,r2,r3⟩:=VM e2;rcases tfp (f.ki=1) with e4 | e4
  ·have e4':=of_eq_true e4;simp only[e4,aqn,aqm];rw[show iT (tKp k,tF f,())=_ from LQ h];simp only[aqs];rw[eH (fY (Lg h e e2 e4'))];rfl
  ·simp only[e4,aqo,aqr];rcases tfp (f.ki=2) with e5 | e5<;>simp only[e5,aqn,aqo,aqr,aqm,aqB,aqz];by_cases hi:aP (stT k).held f.fr f.nu < 0
   ·rw[aqg (show ¬ decide (0≤aP (stT k).held f.fr f.nu)=true by simp;omega)];simp only[aqi hi,c9,aqm,aS,aqu,aqz,aqr]
   ·have hi':0≤aP (stT k).held f.fr f.nu:=by omega
    rw[aqh (aqi hi')];simp only[aqj hi,aqv,aqB,aqm,th hi',XV,eY,aS];rcases tfp ((nA (stT k).held (aP (stT k).held f.fr f.nu).toNat).to=f.to) with e7 | e7<;>simp only[e7,aqn,aqo,aqr,aqm,aqB,aqz];rcases tfp ((nA (stT k).held (aP (stT k).held f.fr f.nu).toNat).un=f.un) with e6 | e6<;>simp only[e6,aqn,aqo,aqr,aqm];have hz:=G6 (w:=lG) (by decide) r1 r2 r3;have hw:=xn hk.ama (r:=dn lG f.fr f.nu f.un) (by omega);rw[show fA (B [108,101,116],f.fr,f.nu,f.un,())=_ from zr (w:=lG) (by decide) r1 r2 r3];simp only[aqs];rw[hw];rfl
 ·simp only[aqs,h,aqv,aqm,aqr]
def YA{k:ajR}(h:aj k=true)(f:Frame):aj (dP k f).1=true:=by
 have hk:=mM h;unfold dP zE;rw[aqh h];split
 ·rename_i hc;simp only[aqt]at hc;split
  ·rename_i h1;exact Lg h hc.1 hc.2.1 (aqk h1)
  ·split
   ·obtain⟨o,ho,_⟩:=PK hk (dn lG f.fr f.nu f.un) false;exact ho.ok
   ·exact h
 ·exact h
def Xz{k:ajR}(h:aj k=true):aj (fE k).1=true:=by
 unfold fE;split
 ·obtain⟨o,ho,_⟩:=PK (mM h) (eB ((stT k).ti+1)) true;exact ho.ok
 ·exact h
def ag0{k:ajR}(h:aj k=true)(tt un:Int)(tx:aqp):aj (ya k tt un tx).1=true:=by
 unfold ya;split
 ·obtain⟨o,ho,_⟩:=PK (mM h) (Qj ⟨k.id,(stT k).nx,tt,un,tx⟩) true;exact ho.ok
 ·exact h
def ahK{k:ajR}(h:aj k=true)(fr nu:Int):aj (wK k fr nu).1=true:=by
 unfold wK;split
 ·obtain⟨o,ho,_⟩:=PK (mM h) (dn lH fr nu (nA (stT k).inbox (aP (stT k).inbox fr nu).toNat).un) true;exact ho.ok
 ·exact h
def aeV{k:ajR}(h:aj k=true):aj (rn k).1=true:=by
 unfold rn;split
 ·exact(aiL (mM h)).ok
 ·exact h
def adw{k:ajR}(h:aj k=true):aj (kr k).1=true:=by
 unfold kr;split
 ·exact(RW (mM h)).ok
 ·exact h
end Go.VS
namespace Go.VS
open Go
def y5(l:List Int):(dR l).size=l.length:=by
 show(List.toArray _).size=_;simp
def acP(f:Frame):(fO f).length≤17:=by
 unfold fO;split
 ·rename_i h;have:=M0 h;simp only[aqD,aqM,aq0];omega
 ·simp
def frA(l:List Frame)(i:Nat):Frame:=l.getD i (dfl .frame)
def aeO(l:List Frame)(i:Nat): @rd Frame (dfl .frame) l (i:Int)=frA l i:=rfl
def pcF(f:Frame):ajW:=⟨f.src,f.dst,dR (fO f),false⟩
def FF(ra:List ajW)(fs:List Frame):List ajW:=ra++(fs.take (30 - ra.length)).map pcF
def ai6{l:List Frame}{i:Nat}(h:i < l.length):frA l i=l[i]:=by
 rw[frA,aqE,aqC h];rfl
def vh{ra:List ajW}{fs:List Frame}(hf:fs.length≤1048576):aM (ra,fs,())=some ((FF ra fs,()),()):=by
 have akv:n6 (ra,fs,0,())=some (.inr (FF ra fs,())):=by
  have h0:=cO (b:=jF) (y:= .inr (FF ra fs,())) (fun i=>(ra++(fs.take i).map pcF,fs,(i:Int),())) (min fs.length (30 - ra.length)) (fun i hi=>by
   have h1:i < fs.length:=by omega
   have h2:(ra++(fs.take i).map pcF).length=ra.length+i:=by simp;omega
   unfold jF;simp only[bp h1,ak h1,aeO,aG h1 (by omega:fs.length≤9223372036854775807),h2];rw[aqh (by simp;omega)];simp only[aqm];rw[show dS ((_,_,_,_,_,_,_,_,_,_,()),())=_ from y0 (frA fs i)];simp only[aqs];rw[aqh (aF (by simp;omega))];have h3:ra++(fs.take (i+1)).map pcF=(ra++(fs.take i).map pcF)++[pcF (frA fs i)]:=by
    rw[ai6 h1,aqP,← List.map_singleton (f:=pcF),← arG,List.take_append_getElem h1]
   rw[h3];rfl) (by
   unfold jF;have h2:(ra++(fs.take (min fs.length (30 - ra.length))).map pcF).length=ra.length+min fs.length (30 - ra.length):=by simp
   simp only[h2];rw[aqg (by simp only[aqt,decide_eq_true_eq];omega)];have h3:fs.take (min fs.length (30 - ra.length))=fs.take (30 - ra.length):=by
    rw[Nat.min_comm,← auJ,arC]
   rw[h3];rfl)
  simp only[List.take_zero,asI,aq6]at h0;exact h0
 unfold aM;simp only[akv,dO]
def Qt(f:Frame):Prop:=isN f.src=true∧isN f.dst=true∧(f.src - f.dst=1∨f.dst - f.src=1)
def aiN{f:Frame}(h:Qt f):CY (pcF f)=true:=by
 have:=acP f;unfold CY pcF;simp only[h.1,h.2.1,aqB,y5,aqt,aq8,decide_eq_true_eq];exact⟨h.2.2,by omega⟩
def XP{ra:List ajW}{fs:List Frame}(h:ra.length≤30):(FF ra fs).length≤30:=by
 unfold FF;simp;omega
def abc{ra:List ajW}{fs:List Frame}(h: ∀ p∈ra,CY p=true)(hf: ∀ f∈fs,Qt f): ∀ p∈FF ra fs,CY p=true:=by
 intro p hp;rcases aqL.1 hp with h1 | h1
 ·exact h p h1
 ·obtain⟨f,h2,rfl⟩:=arv.1 h1;exact aiN (hf f (arS h2))
def Lk{a t:Int}(h:isN (cM a t)=true):isN a=true∧(a - cM a t=1∨cM a t - a=1):=by
 have h0:=l6 h;revert h0;unfold cM;split
 ·omega
 ·rename_i h1;intro _;simp only[aq8,aro,not_or,Bool.not_eq_false]at h1;refine⟨h1.1, ?_⟩;split<;>omega
def afO{f:Frame}(h:kU f=true):Qt f:=by
 obtain⟨r1,r2,_,_,_,_,r7⟩:=Dz h;refine⟨r1,r2, ?_⟩;unfold ym at r7;split at r7
 ·simp only[aqt,decide_eq_true_eq]at r7;have h1:=r7.2.2.2;have:=Lk (a:=f.src) (t:=f.to) (by rw[← h1];exact r2);rw[← h1]at this;exact this.2
 ·simp only[aqt,decide_eq_true_eq]at r7;have h1:=r7.2.2.2.2;have:=Lk (a:=f.dst) (t:=f.to) (by rw[← h1];exact r1);rw[← h1]at this;exact this.2.symm
def ah2{f:Frame}(n:Int)(h:Qt f):Qt (Tp n f):=⟨h.2.1,h.1,h.2.2.symm⟩
def ado(k:ajR)(f:Frame):(dP k f).2=[]∨(kU f=true∧ ∃ n,(dP k f).2=[Tp n f]):=by
 unfold dP;split
 ·unfold zE;split
  ·rename_i hc;simp only[aqt]at hc;split
   ·unfold mK;split
    ·exact .inr ⟨hc.2.1,3,rfl⟩
    ·split
     ·exact .inr ⟨hc.2.1,2,rfl⟩
     ·split
      ·exact .inl rfl
      ·unfold I3;split
       ·split
        ·unfold tv;split
         ·exact .inr ⟨hc.2.1,2,rfl⟩
         ·exact .inl rfl
        ·exact .inl rfl
       ·exact .inl rfl
   ·split<;>exact .inl rfl
  ·exact .inl rfl
 ·exact .inl rfl
def LZ(k:ajR)(f:Frame):(dP k f).2.length≤1∧ ∀ g∈(dP k f).2,Qt g:=by
 rcases ado k f with h | ⟨h,n,h1⟩
 ·rw[h];exact⟨by simp,fun g hg=>by cases hg⟩
 ·rw[h1];exact⟨by simp,fun g hg=>by rw[aq4.1 hg];exact ah2 n (afO h)⟩
def afa{k:ajR}(h:aj k=true){fr nu mix:Int}(hb:(wJ k fr nu mix).2=true):Qt (wJ k fr nu mix).1:=by
 unfold wJ at hb ⊢;split
 ·rename_i hc;simp only[aqt,aro,decide_eq_false_iff_not]at hc;have hk:=mM h;have h0:=(nL (at1.1 hc.2.1)).1;have:=VI hk.kok (n:=nA (stT k).held (aP (stT k).held fr nu).toNat) (by rw[nA,aqE,aqC h0];exact ark h0);rw[hk.id]at this;have h2:=Lk this;exact⟨h2.1,this,h2.2⟩
 ·rename_i hc;rw[aqg hc]at hb;cases hb
end Go.VS
namespace Go.VS
open Go
structure akf (w:aj3):Prop where
 kl:w.ajX.length=4
 ll:w.akd.length=3
 rl:w.aj0.length≤30
 sl:w.akS.length≤6
 gl:w.got.length≤6
 k: ∀ i,i < 4→aj (kA w.ajX i)=true∧(kA w.ajX i).id=(i:Int)
 p: ∀ p∈w.aj0,CY p=true
 s: ∀ n∈w.akS,aB n=true
 g: ∀ n∈w.got,aB n=true
def MY(w:aj3)(p:ajW)(ra:List ajW):aj3:=
 if(cW (aH p.data)).2&&(decide ((cW (aH p.data)).1.src=p.src)&&decide ((cW (aH p.data)).1.dst=p.dst)) then
  ⟨w.ti,w.ajX.set p.dst.toNat (dP (kA w.ajX p.dst.toNat) (cW (aH p.data)).1).1,w.akd,FF ra (dP (kA w.ajX p.dst.toNat) (cW (aH p.data)).1).2,w.akS,w.got⟩
 else⟨w.ti,w.ajX,w.akd,ra,w.akS,w.got⟩
def GN(p:ajW)(mix kp:Int):ajW:=⟨p.src,p.dst,dR (aqZ (aH p.data) mix.toNat (te .u8 (@rd Int (dfl .u8) (aH p.data) mix) (w8 kp))),true⟩
def Jf(ra:List ajW)(i:Nat):List ajW:=ra.take i++ra.drop (i+1)
def lnk(p:ajW):Int:=if p.src < p.dst then p.src else p.dst
def Az(w:aj3)(e:Event):aj3×Bool:=
 if inB e.wo 0 ((w.aj0.length:Int) - 1) then
  if e.ki=6 then
   if !(pA w.aj0 e.wo.toNat).sp&&(inB e.mix 0 (((pA w.aj0 e.wo.toNat).data.size:Int) - 1)&&inB e.kp 1 255) then
    (⟨w.ti,w.ajX,w.akd,w.aj0.set e.wo.toNat (GN (pA w.aj0 e.wo.toNat) e.mix e.kp),w.akS,w.got⟩,true)
   else(w,false)
  else if e.ki=5 then(⟨w.ti,w.ajX,w.akd,Jf w.aj0 e.wo.toNat,w.akS,w.got⟩,true)
  else if bA w.akd (lnk (pA w.aj0 e.wo.toNat)).toNat then(MY w (pA w.aj0 e.wo.toNat) (if e.kp=0 then Jf w.aj0 e.wo.toNat else w.aj0),true)
  else(w,false)
 else(w,false)
def alu(w:aj3)(i:Nat)(k:ajR):aj3:=⟨w.ti,w.ajX.set i k,w.akd,w.aj0,w.akS,w.got⟩
def acT(w:aj3)(e:Event)(k:ajR):aj3×Bool:=
 if 6≤w.akS.length then(w,false)
 else if(ya k e.to e.un e.tx).2=0 then(w,false)
 else(⟨w.ti,w.ajX.set e.at_.toNat (ya k e.to e.un e.tx).1,w.akd,w.aj0,w.akS++[⟨e.at_,(ya k e.to e.un e.tx).2,e.to,e.un,e.tx⟩],w.got⟩,true)
def adE(w:aj3)(e:Event)(k:ajR):aj3×Bool:=
 if(wK k e.fr e.nu).2.2&&decide (w.got.length < 6) then
  (⟨w.ti,w.ajX.set e.at_.toNat (wK k e.fr e.nu).1,w.akd,w.aj0,w.akS,w.got++[(wK k e.fr e.nu).2.1]⟩,true)
 else(w,false)
def AH(w:aj3)(e:Event)(k:ajR):aj3×Bool:=
 if e.ki=1 then acT w e k
 else if e.ki=2 then(alu w e.at_.toNat (fE k).1,(fE k).2)
 else if e.ki=3 then(if(wJ k e.fr e.nu e.mix).2 then(⟨w.ti,w.ajX,w.akd,FF w.aj0 [(wJ k e.fr e.nu e.mix).1],w.akS,w.got⟩,true) else(w,false))
 else if e.ki=7 then(alu w e.at_.toNat (faM k e.kp),k.up)
 else if e.ki=8 then(alu w e.at_.toNat (riM k),!k.up)
 else if e.ki=11 then adE w e k
 else if e.ki=12 then(alu w e.at_.toNat (rn k).1,(rn k).2)
 else if e.ki=13 then(alu w e.at_.toNat (kr k).1,(kr k).2)
 else(w,false)
def QX(w:aj3)(e:Event):aj3×Bool:=
 if inB e.at_ 0 ((w.akd.length:Int) - 1)&& !decide (bA w.akd e.at_.toNat=decide (e.ki=9)) then
  (⟨w.ti,w.ajX,w.akd.set e.at_.toNat (decide (e.ki=9)),w.aj0,w.akS,w.got⟩,true)
 else(w,false)
def doM(w:aj3)(e:Event):aj3×Bool:=
 if e.ki=4∨e.ki=5∨e.ki=6 then Az w e
 else if e.ki=9∨e.ki=10 then QX w e
 else if isN e.at_ then AH w e (kA w.ajX e.at_.toNat)
 else(w,false)
abbrev tE(e:Event):Int×Int×Int×Int×Int×Int×Int×Int×Int×aqp×aqq:=(e.ki,e.at_,e.fr,e.nu,e.wo,e.mix,e.kp,e.to,e.un,e.tx,())
abbrev tS(w:aj3)(ev:List Event):Int×List ajR×List Bool×List ajW×List ajT×List ajT×List Event×aqq:=(w.ti,w.ajX,w.akd,w.aj0,w.akS,w.got,ev,())
def ab6(w:aj3)(b:Bool):aj3:=if b then⟨w64 (w.ti+1),w.ajX,w.akd,w.aj0,w.akS,w.got⟩ else w
def vw(w:aj3)(e:Event):aj3:=ab6 (doM w e).1 (doM w e).2
def C1(ev:List Event)(e:Event)(b:Bool):List Event:=if b then ev++[e] else ev
def Qm(l:List ajW)(i:Int): @rd ajW (dfl .aj4) l i=pA l i.toNat:=rfl
def XW(l:List Bool)(i:Int): @rd Bool (dfl .bool) l i=bA l i.toNat:=rfl
def aib{l:List ajW}{i:Nat}(h:i < l.length):pA l i=l[i]:=by
 rw[pA,aqE,aqC h];rfl
def fP{i:Int}{n:Nat}(h0:0≤i)(h1:i < n):inb i n=true:=by unfold inb;simp;omega
def CX{p:ajW}(h:CY p=true):(0≤p.src∧p.src≤3)∧(0≤p.dst∧p.dst≤3)∧p.data.size≤40∧0≤lnk p∧lnk p < 3:=by
 unfold CY at h;simp only[aqt,aq8,decide_eq_true_eq]at h;have a:=l6 h.1;have b:=l6 h.2.1;refine⟨a,b,by omega, ?_, ?_⟩<;>unfold lnk<;>split<;>omega
def P3(a b:Int):iD (a,b,())=some ((if a < b then a else b,()),()):=by
 unfold iD;rcases tfp (a < b) with e | e<;>simp only[e,aqn,aqo,aqm,if_false,aqr]
def CW{w:aj3}(h:akf w){i:Nat}(hi:i < w.aj0.length):CY (pA w.aj0 i)=true:=by
 rw[aib hi];exact h.p _ (ark hi)
def afj{w:aj3}(h:akf w){i:Nat}(hi:i < 4):dy (kA w.ajX i):=fY (h.k i hi).1
def yF{n:Nat}(h:n≤1048576):w64 ((n:Int) - 1)=(n:Int) - 1:=ah (by omega) (by omega)
def nd{p:Prop}[Decidable p](h: ¬ p): ¬ (decide p=true):=by simpa using h
end Go.VS
namespace Go.VS
open Go
def acz{w:aj3}(h:akf w){r:List Int×Int×aqq}{ev:List Event}(hev:ev.length≤1048576){e:Event}(hk:e.ki=4):
  ao ((r,tS w ev),tE e,())=some (((doM w e).2,()),((r,tS (vw w e) (C1 ev e (doM w e).2)),())):=by
 obtain⟨ki,at_,fr,nu,wo,mix,kp,t',un,tx⟩:=e;obtain rfl:ki=4:=hk;have rl:=h.rl;have hr: ∀ x:Event,al (ev.length+[x].length)=true:=fun x=>aF (by simp;omega);have n45:((4:Int)=5)=False:=by simp
 have n46:((4:Int)=6)=False:=by simp
 unfold ao vw doM;rw[aqh (show(4:Int)=4∨(4:Int)=5∨(4:Int)=6 by omega)];unfold Az;rw[aqh (by rfl)];simp only[dE,aqs,yF (show w.aj0.length≤1048576 by omega),n45,n46,aqn,aqo,aqr,aqm,if_false];rcases tf (inB wo 0 ((w.aj0.length:Int) - 1)) with e0 | e0
 ·have hw:=ae.1 e0;have hb:inb wo w.aj0.length=true:=fP hw.1 (by omega);have hp:=CW h (i:=wo.toNat) (by omega);obtain⟨p1,p2,p3,p4,p5⟩:=CX hp;simp only[e0,aqu,aqr,hb,aqm,Qm,P3,aqs];have hl:inb (if(pA w.aj0 wo.toNat).src < (pA w.aj0 wo.toNat).dst then(pA w.aj0 wo.toNat).src else(pA w.aj0 wo.toNat).dst) w.akd.length=true:=by
   have:=h.ll;exact fP p4 (by rw[this];exact p5)
  have hin:inb (pA w.aj0 wo.toNat).dst w.ajX.length=true:=fP p2.1 (by rw[h.kl];omega);have hw1:w64 (wo+1)=wo+1:=ah (by omega) (by omega);have hw2:(wo+1).toNat=wo.toNat+1:=by omega
  simp only[hl,aqm,XW];show(if(!bA w.akd (lnk (pA w.aj0 wo.toNat)).toNat)=true then _ else _)=_;rcases tf (bA w.akd (lnk (pA w.aj0 wo.toNat)).toNat) with e1 | e1
  ·simp only[e1,aqu,aqr,aqm];unfold MY;rcases tfp (kp=0) with e5 | e5
   ·simp only[e5,aqn,aqm,hw1,hw2];rw[aqh (by simp;omega),aqh (aF (by simp;omega)),aqh (by simp;omega),aqh (aF (by simp;omega))];have e6:([]++aqR wo.toNat w.aj0++aq9 (wo.toNat+1) w.aj0)=Jf w.aj0 wo.toNat:=rfl;simp only[e6];simp only[aF (show(pA w.aj0 wo.toNat).data.size≤4294967296 by omega),aqm,vt (BOk.str _),aqs];have hun:= @GI (aH (pA w.aj0 wo.toNat).data);revert hun;generalize cW (aH (pA w.aj0 wo.toNat).data)=u;intro hun;rcases tf u.2 with e2 | e2<;>simp only[e2,aqu,aqv,aqr,aqm,aqB,aqz,hr]
    ·rcases tfp (u.1.src=(pA w.aj0 wo.toNat).src) with e3 | e3<;>simp only[e3,aqn,aqo,aqu,aqv,aqr,aqm,aqB,aqz]
     ·rcases tfp (u.1.dst=(pA w.aj0 wo.toNat).dst) with e4 | e4<;>simp only[e4,aqn,aqo,aqu,aqv,aqr,aqm]
      ·simp only[hin,aqm,G8];rw[show aq ((_,_,_,_,_,()),_,())=_ from wZ (afj h (i:=(pA w.aj0 wo.toNat).dst.toNat) (by omega)) u.1];simp only[aqs];rw[vh (by have:=(LZ (kA w.ajX (pA w.aj0 wo.toNat).dst.toNat) u.1).1;omega)];rfl
      ·rfl
     ·rfl
    ·rfl
   ·simp only[e5,aqo,aqr,if_false];simp only[aF (show(pA w.aj0 wo.toNat).data.size≤4294967296 by omega),aqm,vt (BOk.str _),aqs];have hun:= @GI (aH (pA w.aj0 wo.toNat).data);revert hun;generalize cW (aH (pA w.aj0 wo.toNat).data)=u;intro hun;rcases tf u.2 with e2 | e2<;>simp only[e2,aqu,aqv,aqr,aqm,aqB,aqz,hr]
    ·rcases tfp (u.1.src=(pA w.aj0 wo.toNat).src) with e3 | e3<;>simp only[e3,aqn,aqo,aqu,aqv,aqr,aqm,aqB,aqz]
     ·rcases tfp (u.1.dst=(pA w.aj0 wo.toNat).dst) with e4 | e4<;>simp only[e4,aqn,aqo,aqu,aqv,aqr,aqm]
      ·simp only[hin,aqm,G8];rw[show aq ((_,_,_,_,_,()),_,())=_ from wZ (afj h (i:=(pA w.aj0 wo.toNat).dst.toNat) (by omega)) u.1];simp only[aqs];rw[vh (by have:=(LZ (kA w.ajX (pA w.aj0 wo.toNat).dst.toNat) u.1).1;omega)];rfl
      ·rfl
     ·rfl
    ·rfl
  ·simp only[e1,aqv,aqr,aqm];rfl
 ·simp only[e0,aqv,aqr,aqm];rfl
def acy{w:aj3}(h:akf w){r:List Int×Int×aqq}{ev:List Event}(hev:ev.length≤1048576){e:Event}(hk:e.ki=5):
  ao ((r,tS w ev),tE e,())=some (((doM w e).2,()),((r,tS (vw w e) (C1 ev e (doM w e).2)),())):=by
 obtain⟨ki,at_,fr,nu,wo,mix,kp,t',un,tx⟩:=e;obtain rfl:ki=5:=hk;have rl:=h.rl;have hr: ∀ x:Event,al (ev.length+[x].length)=true:=fun x=>aF (by simp;omega);have n54:((5:Int)=4)=False:=by simp
 have n56:((5:Int)=6)=False:=by simp
 unfold ao vw doM;rw[aqh (show(5:Int)=4∨(5:Int)=5∨(5:Int)=6 by omega)];unfold Az;simp only[dE,aqs,yF (show w.aj0.length≤1048576 by omega),n54,n56,aqn,aqo,aqr,aqm,if_false];rcases tf (inB wo 0 ((w.aj0.length:Int) - 1)) with e0 | e0
 ·have hw:=ae.1 e0;have hb:inb wo w.aj0.length=true:=fP hw.1 (by omega);have hw1:w64 (wo+1)=wo+1:=ah (by omega) (by omega);have hw2:(wo+1).toNat=wo.toNat+1:=by omega
  simp only[e0,aqu,aqr,hb,aqm,hw1,hw2];rw[aqh (by simp;omega),aqh (aF (by simp;omega)),aqh (by simp;omega),aqh (aF (by simp;omega)),aqh (hr _)];rfl
 ·simp only[e0,aqv,aqr,aqm];rfl
def agP{α:Type}(l:List α)(i:Nat)(x y:α):(l.set i x).set i y=l.set i y:=by simp
def aiO{l:List ajW}{i:Nat}(h:i < l.length)(p:ajW):pA (l.set i p) i=p:=by
 rw[pA,aqE,atI h];rfl
def ags(s:aqp):(aH s).length=s.size:=by rw[EQ,ary,aN]
def acx{w:aj3}(h:akf w){r:List Int×Int×aqq}{ev:List Event}(hev:ev.length≤1048576){e:Event}(hk:e.ki=6):
  ao ((r,tS w ev),tE e,())=some (((doM w e).2,()),((r,tS (vw w e) (C1 ev e (doM w e).2)),())):=by
 obtain⟨ki,at_,fr,nu,wo,mix,kp,t',un,tx⟩:=e;obtain rfl:ki=6:=hk;have rl:=h.rl;have hr: ∀ x:Event,al (ev.length+[x].length)=true:=fun x=>aF (by simp;omega);have n64:((6:Int)=4)=False:=by simp
 have n65:((6:Int)=5)=False:=by simp
 unfold ao vw doM;rw[aqh (show(6:Int)=4∨(6:Int)=5∨(6:Int)=6 by omega)];unfold Az;simp only[dE,aqs,yF (show w.aj0.length≤1048576 by omega),n64,n65,aqn,aqo,aqr,aqm,if_false];rcases tf (inB wo 0 ((w.aj0.length:Int) - 1)) with e0 | e0
 ·have hw:=ae.1 e0;have hb:inb wo w.aj0.length=true:=fP hw.1 (by omega);have hwl:wo.toNat < w.aj0.length:=by omega
  have hp:=CW h (i:=wo.toNat) (by omega);obtain⟨p1,p2,p3,p4,p5⟩:=CX hp;simp only[e0,aqu,aqr,hb,aqm,Qm,yF (show(pA w.aj0 wo.toNat).data.size≤1048576 by omega),arZ,agP,aiO hwl];rcases tf (pA w.aj0 wo.toNat).sp with e1 | e1<;>simp only[e1,aqu,aqv,aqr,aqm,aqB,aqz]
  ·rfl
  ·rcases tf (inB mix 0 (((pA w.aj0 wo.toNat).data.size:Int) - 1)) with e2 | e2<;>simp only[e2,aqu,aqv,aqr,aqm,aqB,aqz]
   ·rcases tf (inB kp 1 255) with e3 | e3<;>simp only[e3,aqu,aqv,aqr,aqm]
    ·have hm:=ae.1 e2;have hmb:inb mix (aH (pA w.aj0 wo.toNat).data).length=true:=fP hm.1 (by rw[ags];omega);rw[aqh (aF (by omega)),aqh hmb,aqh hmb,aqh (hr _)];rfl
    ·rfl
   ·rfl
 ·simp only[e0,aqv,aqr,aqm];rfl
def Wr{w:aj3}(h:akf w){r:List Int×Int×aqq}{ev:List Event}(hev:ev.length≤1048576){e:Event}(hk:e.ki=9∨e.ki=10):
  ao ((r,tS w ev),tE e,())=some (((doM w e).2,()),((r,tS (vw w e) (C1 ev e (doM w e).2)),())):=by
 obtain⟨ki,at_,fr,nu,wo,mix,kp,t',un,tx⟩:=e;have hk':ki=9∨ki=10:=hk;have ll:=h.ll;have hr: ∀ x:Event,al (ev.length+[x].length)=true:=fun x=>aF (by simp;omega);have m4:(ki=4)=False:=by simp;omega
 have m5:(ki=5)=False:=by simp;omega
 have m6:(ki=6)=False:=by simp;omega
 unfold ao vw doM;rw[aqg (show ¬ (ki=4∨ki=5∨ki=6) by omega),aqh hk'];unfold QX;simp only[dE,aqs,yF (show w.akd.length≤1048576 by omega),m4,m5,m6,aqo,aqr];rcases tf (inB at_ 0 ((w.akd.length:Int) - 1)) with e0 | e0
 ·have hw:=ae.1 e0;have hb:inb at_ w.akd.length=true:=fP hw.1 (by omega);simp only[e0,aqu,aqr,hb,aqm,XW,aqB,hr];rcases hk' with rfl | rfl
  ·simp only[aqn,aqm];rcases tfp (bA w.akd at_.toNat=true) with e1 | e1<;>simp only[e1,aqn,aqo,aqu,aqv,aqm,aqr]<;>rfl
  ·have n9:((10:Int)=9)=False:=by simp
   simp only[n9,aqn,aqo,aqm,aqr];rcases tfp (bA w.akd at_.toNat=false) with e1 | e1<;>simp only[e1,aqn,aqo,aqu,aqv,aqm,aqr]<;>rfl
 ·simp only[e0,aqv,aqr,aqm,aqz];rcases hk' with rfl | rfl
  ·simp only[aqn,aqm];rfl
  ·have n9:((10:Int)=9)=False:=by simp
   simp only[n9,aqn,aqo,aqm,aqr];rfl
end Go.VS
namespace Go.VS
open Go
def Rx{n:Int}(h:isN n=true):n.toNat < 4:=by have:=l6 h;omega
def acw{w:aj3}(h:akf w){r:List Int×Int×aqq}{ev:List Event}(hev:ev.length≤1048576){e:Event}(hk: ¬ (e.ki=4∨e.ki=5∨e.ki=6))(hk': ¬ (e.ki=9∨e.ki=10))(ht:e.tx.size≤1048576):
  ao ((r,tS w ev),tE e,())=some (((doM w e).2,()),((r,tS (vw w e) (C1 ev e (doM w e).2)),())):=by
 obtain⟨ki,at_,fr,nu,wo,mix,kp,t',un,tx⟩:=e;simp only at hk hk' ht;have hr: ∀ x:Event,al (ev.length+[x].length)=true:=fun x=>aF (by simp;omega);have hn: ∀ (l:List ajT) (x:ajT),l.length≤6→al (l.length+[x].length)=true:=fun l x hl=>aF (by simp;omega);have m4:(ki=4)=False:=by simp;omega
 have m5:(ki=5)=False:=by simp;omega
 have m6:(ki=6)=False:=by simp;omega
 have m9:(ki=9)=False:=by simp;omega
 have m10:(ki=10)=False:=by simp;omega
 unfold ao vw doM;rw[aqg hk,aqg hk'];simp only[cQ,aqs,m4,m5,m6,m9,m10,aqo,aqr];rcases tf (isN at_) with e0 | e0
 ·have ha:=l6 e0;have hal:=Rx e0;have hb:inb at_ w.ajX.length=true:=fP ha.1 (by rw[h.kl];omega);have hko:=(h.k _ hal).1;have hks:=afj h hal;simp only[e0,aqu,aqr,hb,aqm,G8];unfold AH;rcases tfp (ki=1) with e1 | e1
  ·simp only[e1,aqn,aqm];unfold acT;by_cases hs:6≤w.akS.length
   ·rw[aqh (by simp;omega),aqh hs];rfl
   ·rw[aqg (by simp;omega),aqg hs];rw[show iI ((_,_,_,_,_,()),_,_,_,())=_ from K3 hko t' un ht];simp only[aqs];rcases tfp ((ya (kA w.ajX at_.toNat) t' un tx).2=0) with e2 | e2<;>simp only[e2,aqn,aqo,aqr,aqm,if_false]
    ·rfl
    ·rw[aqh (hn _ _ h.sl),aqh (hr _)];rfl
  ·simp only[e1,aqo,aqr,if_false];rcases tfp (ki=2) with e2 | e2
   ·simp only[e2,aqn,aqm];rw[show gA ((_,_,_,_,_,()),())=_ from IA hko];simp only[aqs];rcases tf (fE (kA w.ajX at_.toNat)).2 with e3 | e3<;>simp only[e3,aqm,aqr]
    ·rw[aqh (hr _)];rfl
    ·rfl
   ·simp only[e2,aqo,aqr,if_false];rcases tfp (ki=3) with e3 | e3
    ·simp only[e3,aqn,aqm];rw[show ft ((_,_,_,_,_,()),_,_,_,())=_ from yZ hks fr nu mix];simp only[aqs];rw[aqh hko];rcases tf (wJ (kA w.ajX at_.toNat) fr nu mix).2 with e4 | e4<;>simp only[e4,aqm,aqr]
     ·rw[show aM (_,_,())=_ from vh (ra:=w.aj0) (fs:=[(wJ (kA w.ajX at_.toNat) fr nu mix).1]) (by simp)];simp only[aqs];rw[aqh (hr _)];rfl
     ·rfl
    ·simp only[e3,aqo,aqr,if_false];rcases tfp (ki=7) with e4 | e4
     ·simp only[e4,aqn,aqm];rw[show gE ((_,_,_,_,_,()),_,())=_ from ID hks kp];simp only[aqs];rw[aqh hko];rcases tf (kA w.ajX at_.toNat).up with e5 | e5<;>simp only[e5,aqm,aqr]
      ·rw[aqh (hr _)];rfl
      ·rfl
     ·simp only[e4,aqo,aqr,if_false];rcases tfp (ki=8) with e5 | e5
      ·simp only[e5,aqn,aqm];rw[show gB ((_,_,_,_,_,()),())=_ from IB hko];simp only[aqs];rcases tf (kA w.ajX at_.toNat).up with e6 | e6<;>simp only[e6,aqu,aqv,aqm,aqr]
       ·rfl
       ·rw[aqh (hr _)];rfl
      ·simp only[e5,aqo,aqr,if_false];rcases tfp (ki=11) with e6 | e6
       ·simp only[e6,aqn,aqm];unfold adE;rw[show iJ ((_,_,_,_,_,()),_,_,())=_ from K4 hko fr nu];simp only[aqs];rcases tf (wK (kA w.ajX at_.toNat) fr nu).2.2 with e7 | e7<;>simp only[e7,aqm,aqr,aqB,aqz]
        ·by_cases hs:w.got.length < 6
         ·rw[aqh (aqi (show(w.got.length:Int) < 6 by omega)),aqh (aqi hs),aqh (hn _ _ h.gl),aqh (hr _)];rfl
         ·rw[aqg (nd (show ¬ (w.got.length:Int) < 6 by omega)),aqg (nd hs)];rfl
        ·rfl
       ·simp only[e6,aqo,aqr,if_false];rcases tfp (ki=12) with e7 | e7
        ·simp only[e7,aqn,aqm];rw[show gD ((_,_,_,_,_,()),())=_ from IC hko];simp only[aqs];rcases tf (rn (kA w.ajX at_.toNat)).2 with e8 | e8<;>simp only[e8,aqm,aqr]
         ·rw[aqh (hr _)];rfl
         ·rfl
        ·simp only[e7,aqo,aqr,if_false];rcases tfp (ki=13) with e8 | e8
         ·simp only[e8,aqn,aqm];rw[show fN ((_,_,_,_,_,()),())=_ from G4 hko];simp only[aqs];rcases tf (kr (kA w.ajX at_.toNat)).2 with e9 | e9<;>simp only[e9,aqm,aqr]
          ·rw[aqh (hr _)];rfl
          ·rfl
         ·simp only[e8,aqo,aqr,if_false];rfl
 ·simp only[e0,aqv,aqr,aqm];rfl
def acv{w:aj3}(h:akf w){r:List Int×Int×aqq}{ev:List Event}(hev:ev.length≤1048576){e:Event}(ht:e.tx.size≤1048576):
  ao ((r,tS w ev),tE e,())=some (((doM w e).2,()),((r,tS (vw w e) (C1 ev e (doM w e).2)),())):=by
 by_cases h4:e.ki=4
 ·exact acz h hev h4
 ·by_cases h5:e.ki=5
  ·exact acy h hev h5
  ·by_cases h6:e.ki=6
   ·exact acx h hev h6
   ·by_cases h9:e.ki=9∨e.ki=10
    ·exact Wr h hev h9
    ·exact acw h hev (by omega) h9 ht
end Go.VS
namespace Go.VS
open Go
def PL(k:ajR)(r:aqp)(f:Bool):(wrR k r f).1.id=k.id:=by
 unfold wrR;split
 ·rfl
 ·cases f<;>rfl
def afA{k:ajR}(h:aj k=true)(f:Frame):(dP k f).1.id=k.id:=by
 unfold dP;rw[aqh h];unfold zE;split
 ·split
  ·unfold mK;split
   ·rfl
   ·split
    ·rfl
    ·split
     ·rfl
     ·unfold I3;split
      ·split
       ·unfold tv;split
        ·exact PL _ _ _
        ·rfl
       ·rfl
      ·rfl
  ·split
   ·exact PL _ _ _
   ·rfl
 ·rfl
def XA(k:ajR):(fE k).1.id=k.id:=by
 unfold fE;split
 ·exact PL _ _ _
 ·rfl
def ag1(k:ajR)(tt un:Int)(tx:aqp):(ya k tt un tx).1.id=k.id:=by
 unfold ya;split
 ·exact PL _ _ _
 ·rfl
def ahL(k:ajR)(fr nu:Int):(wK k fr nu).1.id=k.id:=by
 unfold wK;split
 ·exact PL _ _ _
 ·rfl
def aeW(k:ajR):(rn k).1.id=k.id:=by unfold rn;split<;>rfl
def adx(k:ajR):(kr k).1.id=k.id:=by unfold kr;split<;>rfl
def afX(k:ajR)(n:Int):(faM k n).id=k.id:=by unfold faM;rfl
def aiI(k:ajR):(riM k).id=k.id:=rfl
def aeM{k:ajR}(h:aj k=true):aj (riM k)=true:=(aeN (mM h)).ok
def aan{l:List ajR}{i j:Nat}(hi:i < l.length)(k:ajR):kA (l.set i k) j=if j=i then k else kA l j:=by
 unfold kA;simp only[aqE,atG];by_cases h:j=i
 ·subst h;simp[hi]
 ·have h': ¬ i=j:=fun e=>h e.symm;simp[h,h']
def akf.put{w:aj3}(h:akf w){i:Nat}(hi:i < 4){k:ajR}(hk:aj k=true)(hid:k.id=(kA w.ajX i).id)(ra:List ajW)(se go:List ajT)
  (rl:ra.length≤30)(sl:se.length≤6)(gl:go.length≤6)(p: ∀ p∈ra,CY p=true)(s: ∀ n∈se,aB n=true)(g: ∀ n∈go,aB n=true):
  akf ⟨w.ti,w.ajX.set i k,w.akd,ra,se,go⟩:=by
 refine⟨by rw[arZ];exact h.kl,h.ll,rl,sl,gl,fun j hj=> ?_,p,s,g⟩;show aj (kA (w.ajX.set i k) j)=true∧(kA (w.ajX.set i k) j).id=(j:Int);rw[aan (by rw[h.kl];exact hi)];split
 ·rename_i e;rw[e,hid];exact⟨hk,(h.k i hi).2⟩
 ·exact h.k j hj
def akf.alu{w:aj3}(h:akf w){i:Nat}(hi:i < 4){k:ajR}(hk:aj k=true)(hid:k.id=(kA w.ajX i).id):akf (alu w i k):=
 h.put hi hk hid w.aj0 w.akS w.got h.rl h.sl h.gl h.p h.s h.g
def akf.ra{w:aj3}(h:akf w){ra:List ajW}(rl:ra.length≤30)(p: ∀ p∈ra,CY p=true):akf ⟨w.ti,w.ajX,w.akd,ra,w.akS,w.got⟩:=
 ⟨h.kl,h.ll,rl,h.sl,h.gl,h.k,p,h.s,h.g⟩
def akf.ti{w:aj3}(h:akf w)(n:Int):akf ⟨n,w.ajX,w.akd,w.aj0,w.akS,w.got⟩:=⟨h.kl,h.ll,h.rl,h.sl,h.gl,h.k,h.p,h.s,h.g⟩
def PA{w:aj3}(h:akf w)(i:Nat):(Jf w.aj0 i).length≤30∧ ∀ p∈Jf w.aj0 i,CY p=true:=by
 have:=h.rl;refine⟨by unfold Jf;simp;omega,fun p hp=>h.p p ?_⟩;rcases aqL.1 hp with h1 | h1
 ·exact arS h1
 ·exact asx h1
def adR{w:aj3}(h:akf w){p:ajW}(hp:CY p=true){ra:List ajW}(rl:ra.length≤30)(hra: ∀ p∈ra,CY p=true):akf (MY w p ra):=by
 unfold MY;obtain⟨_,p2,_⟩:=CX hp;split
 ·have hi:p.dst.toNat < 4:=by omega
  exact h.put hi (YA (h.k _ hi).1 _) (afA (h.k _ hi).1 _) _ _ _ (XP rl) h.sl h.gl (abc hra (LZ _ _).2) h.s h.g
 ·exact h.ra rl hra
def acj{p:ajW}(hp:CY p=true)(mix kp:Int):CY (GN p mix kp)=true:=by
 unfold CY GN at *;simpa[y5,ags] using hp
def acH{w:aj3}(h:akf w)(e:Event):akf (Az w e).1:=by
 unfold Az;split
 ·rename_i h0;have h0:=ae.1 h0;have hlt:e.wo.toNat < w.aj0.length:=by omega
  have hp:=CW h hlt;split
  ·split
   ·refine h.ra (by rw[arZ];exact h.rl) fun p hp'=> ?_;rcases asE hp' with h1 | h1
    ·exact h.p p h1
    ·rw[h1];exact acj hp _ _
   ·exact h
  ·split
   ·exact h.ra (PA h _).1 (PA h _).2
   ·split
    ·refine adR h hp ?_ ?_<;>split
     ·exact(PA h _).1
     ·exact h.rl
     ·exact(PA h _).2
     ·exact h.p
    ·exact h
 ·exact h
def afi{w:aj3}(h:akf w)(e:Event):akf (QX w e).1:=by
 unfold QX;split
 ·exact⟨h.kl,by show(w.akd.set _ _).length=3;rw[arZ];exact h.ll,h.rl,h.sl,h.gl,h.k,h.p,h.s,h.g⟩
 ·exact h
def acS{k:ajR}{tt un:Int}{tx:aqp}(h:(ya k tt un tx).2≠0):aB ⟨k.id,(ya k tt un tx).2,tt,un,tx⟩=true:=by
 unfold ya at h ⊢;split
 ·rename_i hc;rw[aqh hc]at h;simp only[aqt]at hc;simp only at h ⊢;split
  ·exact hc.2
  ·rename_i h1;rw[aqg h1]at h;exact absurd rfl h
 ·rename_i hc;rw[aqg hc]at h;exact absurd rfl h
def adD{k:ajR}(hk:aj k=true){fr nu:Int}(h:(wK k fr nu).2.2=true):aB (wK k fr nu).2.1=true:=by
 unfold wK at h ⊢;split
 ·rename_i hc;rw[aqh hc]at h;simp only at h ⊢;rw[aqh h];simp only[aqt,aro,decide_eq_false_iff_not]at hc;exact cG (bH (mM hk).kok).i (nL (at1.1 hc.2)).1
 ·rename_i hc;rw[aqg hc]at h;cases h
def Jc{α:Type}{l:List α}{P:α→Prop}{a:α}(h: ∀ x∈l,P x)(ha:P a): ∀ x∈l++[a],P x:=by
 intro x hx;rcases aqL.1 hx with h1 | h1
 ·exact h x h1
 ·rw[aq4.1 h1];exact ha
def aak{w:aj3}(h:akf w)(e:Event)(ha:isN e.at_=true):akf (AH w e (kA w.ajX e.at_.toNat)).1:=by
 have hi:=Rx ha;have hr:=l6 ha;obtain⟨hk,hid⟩:=h.k _ hi;unfold AH;split
 ·unfold acT;split
  ·exact h
  ·split
   ·exact h
   ·rename_i h1 h2;refine h.put hi (ag0 hk _ _ _) (ag1 _ _ _ _) _ _ _ h.rl (by simp;omega) h.gl h.p (Jc h.s ?_) h.g;have:=acS h2;rw[hid,au1 hr.1]at this;exact this
 ·split
  ·exact h.alu hi (Xz hk) (XA _)
  ·split
   ·split
    ·rename_i h1;exact h.ra (XP h.rl) (abc h.p fun f hf=>by rw[aq4.1 hf];exact afa hk h1)
    ·exact h
   ·split
    ·exact h.alu hi (aaD hk _) (afX _ _)
    ·split
     ·exact h.alu hi (aeM hk) (aiI _)
     ·split
      ·unfold adE;split
       ·rename_i h1;simp only[aqt,decide_eq_true_eq]at h1;exact h.put hi (ahK hk _ _) (ahL _ _ _) _ _ _ h.rl h.sl (by simp;omega) h.p h.s (Jc h.g (adD hk h1.1))
       ·exact h
      ·split
       ·exact h.alu hi (aeV hk) (aeW _)
       ·split
        ·exact h.alu hi (adw hk) (adx _)
        ·exact h
def aje{w:aj3}(h:akf w)(e:Event):akf (doM w e).1:=by
 unfold doM;split
 ·exact acH h e
 ·split
  ·exact afi h e
  ·split
   ·rename_i h1;exact aak h e h1
   ·exact h
def agE{w:aj3}(h:akf w)(b:Bool):akf (ab6 w b):=by
 unfold ab6;split
 ·exact h.ti _
 ·exact h
def agN{w:aj3}(h:akf w)(e:Event):akf (vw w e):=agE (aje h e) _
end Go.VS
namespace Go.VS
open Go
def kp0(i:Int):ajR:=⟨i,true,noB,0,[]⟩
def rv0:aj3:=⟨0,[kp0 0,kp0 1,kp0 2,kp0 3],[true,true,true],[],[],[]⟩
def WN{i:Int}(h:isN i=true):aj (kp0 i)=true:=by
 refine tc (k:=kp0 i) (rs:=[]) (ts:=[]) h ⟨?_,(show noB.size≤2400 by decide),by rfl,by rfl⟩ (show 0≤3 by decide) (.inl rfl) ?_ (fun i hi=>absurd hi (auu _))
 ·intro r hr;cases hr
 ·unfold ct;rw[aqh (show isN (kp0 i).id=true from h)];rfl
def aeK{i:Nat}(hi:i < 4):kA rv0.ajX i=kp0 i:=by
 have:i=0∨i=1∨i=2∨i=3:=by omega
 rcases this with rfl | rfl | rfl | rfl<;>rfl
def ahk{i:Nat}(hi:i < 4):isN (i:Int)=true:=ae.2 ⟨by omega,by omega⟩
def aiH:akf rv0:=by
 refine⟨rfl,rfl,by decide,by decide,by decide,fun i hi=> ?_,(fun p hp=>by cases hp),(fun p hp=>by cases hp),(fun p hp=>by cases hp)⟩;rw[aeK hi];exact⟨WN (ahk hi),rfl⟩
def aaO(k:ajR):Prop:=k.up=false→k.fo=(k.log.size:Int)
def PI(k:ajR)(r:aqp)(f:Bool):(wrR k r f).1.up=k.up:=by
 unfold wrR;split
 ·rfl
 ·cases f<;>rfl
def ahq{k:ajR}(h:aj k=true)(f:Frame):(dP k f).1.up=k.up:=by
 unfold dP;rw[aqh h];unfold zE;split
 ·split
  ·unfold mK;split
   ·rfl
   ·split
    ·rfl
    ·split
     ·rfl
     ·unfold I3;split
      ·split
       ·unfold tv;split
        ·exact PI _ _ _
        ·rfl
       ·rfl
      ·rfl
  ·split
   ·exact PI _ _ _
   ·rfl
 ·rfl
def adn{k:ajR}(ok:aj k=true)(h:k.up=false)(f:Frame):dP k f=(k,[]):=by
 unfold dP;rw[aqh ok];unfold zE;rw[h,aqz,aqr]
def aeX{k:ajR}(h:k.up=false)(tt un:Int)(tx:aqp):ya k tt un tx=(k,0):=by
 unfold ya;rw[h,aqz,aqr]
def af4{k:ajR}(h:k.up=false)(a b:Int):wK k a b=(k,zN,false):=by
 unfold wK;rw[h,aqz,aqr]
def ab5{k:ajR}(h:k.up=false):fE k=(k,false):=by
 unfold fE;rw[h,aqr]
def acO{k:ajR}(h:k.up=false):rn k=(k,false):=by
 unfold rn;rw[h,aqr]
def aaA{k:ajR}(h:k.up=false):kr k=(k,false):=by
 unfold kr;rw[h,aqz,aqr]
def aiQ(k:ajR)(tt un:Int)(tx:aqp):(ya k tt un tx).1.up=k.up:=by
 unfold ya;split
 ·exact PI _ _ _
 ·rfl
def ai8(k:ajR)(a b:Int):(wK k a b).1.up=k.up:=by
 unfold wK;split
 ·exact PI _ _ _
 ·rfl
def aa5(k:ajR):(fE k).1.up=k.up:=by
 unfold fE;split
 ·exact PI _ _ _
 ·rfl
def agY(k:ajR):(rn k).1.up=k.up:=by unfold rn;split<;>rfl
def afP(k:ajR):(kr k).1.up=k.up:=by unfold kr;split<;>rfl
def EM{k k':ajR}(h:aaO k)(hu:k'.up=k.up)(hd:k.up=false→k'=k):aaO k':=fun e=>by
 rw[hu]at e;rw[hd e];exact h e
def ahB(k:ajR)(n:Int):aaO (faM k n):=by
 intro _;unfold faM;simp only;have h:=(ou (k.log.extract 0 (k.fo+max 0 (min n ((k.log.size:Int) - k.fo))).toNat)).1;rw[@asS];omega
def afY{k:ajR}(ok:aj k=true)(h:k.up=false)(d:aaO k)(n:Int):faM k n=k:=by
 obtain⟨_,h2,h3⟩:=RY (mM ok) (d h) n;have h4:=YQ ok h;have:faM k n=⟨(faM k n).id,(faM k n).up,(faM k n).log,(faM k n).fo,(faM k n).ajS⟩:=rfl;rw[this,h2,h3,afX,show(faM k n).up=k.up from by rw[h];rfl,show(faM k n).ajS=k.ajS from by rw[h4];rfl]
def agT{k:ajR}(h:k.up=true):riM k=k:=by
 unfold riM;rw[← h]
def aiG{l:List ajR}{i:Nat}:l.set i (kA l i)=l:=by
 apply aui;intro j;rw[atG];by_cases h:i=j
 ·subst h;by_cases h1:i < l.length
  ·rw[aqh rfl,aqh h1,kA,aqE,aqC h1];rfl
  ·rw[aqh rfl,aqg h1,arW (by omega)]
 ·rw[aqg h]
def y7{w:aj3}{i:Nat}{k:ajR}(h:k=kA w.ajX i):alu w i k=w:=by
 subst h;unfold alu;rw[aiG]
structure amU (w:aj3):Prop where
 d: ∀ i,i < 4→aaO (kA w.ajX i)
def ajd{w:aj3}(h:akf w)(hd:amU w){e:Event}(ho:(doM w e).2=false):(doM w e).1=w:=by
 unfold doM at ho ⊢;split
 ·rename_i h1;rw[aqh h1]at ho;unfold Az at ho ⊢;split
  ·rename_i h2;rw[aqh h2]at ho;split
   ·rename_i h3;rw[aqh h3]at ho;split
    ·rename_i h4;rw[aqh h4]at ho;cases ho
    ·rfl
   ·rename_i h3;rw[aqg h3]at ho;split
    ·rename_i h4;rw[aqh h4]at ho;cases ho
    ·rename_i h4;rw[aqg h4]at ho;split
     ·rename_i h5;rw[aqh h5]at ho;cases ho
     ·rfl
  ·rfl
 ·rename_i h1;rw[aqg h1]at ho;split
  ·rename_i h2;rw[aqh h2]at ho;unfold QX at ho ⊢;split
   ·rename_i h3;rw[aqh h3]at ho;cases ho
   ·rfl
  ·rename_i h2;rw[aqg h2]at ho;split
   ·rename_i h3;rw[aqh h3]at ho;have hi:=Rx h3;obtain⟨ok,_⟩:=h.k _ hi;have hdk:=hd.d _ hi;unfold AH at ho ⊢;split
    ·rename_i c;rw[aqh c]at ho;unfold acT at ho ⊢;split
     ·rfl
     ·rename_i c1;rw[aqg c1]at ho;split
      ·rfl
      ·rename_i c2;rw[aqg c2]at ho;cases ho
    ·rename_i c;rw[aqg c]at ho;split
     ·rename_i c;rw[aqh c]at ho;refine y7 ?_;unfold fE at ho ⊢;split
      ·rename_i c1;rw[aqh c1]at ho;exact H9 ho
      ·rfl
     ·rename_i c;rw[aqg c]at ho;split
      ·rename_i c;rw[aqh c]at ho;split
       ·rename_i c1;rw[aqh c1]at ho;cases ho
       ·rfl
      ·rename_i c;rw[aqg c]at ho;split
       ·rename_i c;rw[aqh c]at ho;exact y7 (afY ok ho hdk _)
       ·rename_i c;rw[aqg c]at ho;split
        ·rename_i c;rw[aqh c]at ho;exact y7 (agT (by simpa using ho))
        ·rename_i c;rw[aqg c]at ho;split
         ·rename_i c;rw[aqh c]at ho;unfold adE at ho ⊢;split
          ·rename_i c1;rw[aqh c1]at ho;cases ho
          ·rfl
         ·rename_i c;rw[aqg c]at ho;split
          ·rename_i c;rw[aqh c]at ho;refine y7 ?_;unfold rn at ho ⊢;split
           ·rename_i c1;rw[aqh c1]at ho;cases ho
           ·rfl
          ·rename_i c;rw[aqg c]at ho;split
           ·rename_i c;rw[aqh c]at ho;refine y7 ?_;unfold kr at ho ⊢;split
            ·rename_i c1;rw[aqh c1]at ho;cases ho
            ·rfl
           ·rfl
   ·rfl
inductive KMv (k:ajR):ajR→Prop
 | ao0 (f:Frame):KMv k (dP k f).1
 | own (tt un:Int) (tx:aqp):KMv k (ya k tt un tx).1
 | time:KMv k (fE k).1
 | eat (a b:Int):KMv k (wK k a b).1
 | anP (n:Int):KMv k (faM k n)
 | aoL:KMv k (riM k)
 | pack:KMv k (rn k).1
 | force:KMv k (kr k).1
def ajy{w:aj3}(h:akf w)(e:Event):(doM w e).1.ajX=w.ajX∨ ∃ i k',i < 4∧KMv (kA w.ajX i) k'∧(doM w e).1.ajX=w.ajX.set i k':=by
 unfold doM;split
 ·unfold Az;split
  ·rename_i h2;split
   ·split
    ·exact .inl rfl
    ·exact .inl rfl
   ·split
    ·exact .inl rfl
    ·split
     ·unfold MY;split
      ·refine .inr ⟨_,_, ?_,.ao0 _,rfl⟩;have:=ae.1 h2;have:=CX (CW h (i:=e.wo.toNat) (by omega));omega
      ·exact .inl rfl
     ·exact .inl rfl
  ·exact .inl rfl
 ·split
  ·unfold QX;split
   ·exact .inl rfl
   ·exact .inl rfl
  ·split
   ·rename_i h3;have hi:=Rx h3;unfold AH;split
    ·unfold acT;split
     ·exact .inl rfl
     ·split
      ·exact .inl rfl
      ·exact .inr ⟨_,_,hi,.own _ _ _,rfl⟩
    ·split
     ·exact .inr ⟨_,_,hi,.time,rfl⟩
     ·split
      ·split
       ·exact .inl rfl
       ·exact .inl rfl
      ·split
       ·exact .inr ⟨_,_,hi,.anP _,rfl⟩
       ·split
        ·exact .inr ⟨_,_,hi,.aoL,rfl⟩
        ·split
         ·unfold adE;split
          ·exact .inr ⟨_,_,hi,.eat _ _,rfl⟩
          ·exact .inl rfl
         ·split
          ·exact .inr ⟨_,_,hi,.pack,rfl⟩
          ·split
           ·exact .inr ⟨_,_,hi,.force,rfl⟩
           ·exact .inl rfl
   ·exact .inl rfl
def aiE{w:aj3}(h:akf w)(e:Event):(vw w e).ajX=w.ajX∨ ∃ i k',i < 4∧KMv (kA w.ajX i) k'∧(vw w e).ajX=w.ajX.set i k':=by
 have:=ajy h e;unfold vw ab6;split<;>exact this
def agM{P:ajR→Prop}(hP: ∀ k k',aj k=true→P k→KMv k k'→P k'){w:aj3}(h:akf w)(hw: ∀ i,i < 4→P (kA w.ajX i))(e:Event): ∀ i,i < 4→P (kA (vw w e).ajX i):=by
 intro i hi;rcases aiE h e with e1 | ⟨j,k',hj,m,e1⟩
 ·rw[e1];exact hw i hi
 ·rw[e1,aan (by rw[h.kl];exact hj)];split
  ·exact hP _ _ (h.k j hj).1 (hw j hj) m
  ·exact hw i hi
def KMv.dur{k k':ajR}(ok:aj k=true)(h:aaO k)(m:KMv k k'):aaO k':=by
 cases m with
 | ao0 f=>exact EM h (ahq ok f) fun e=>by rw[adn ok e]
 | own a b c=>exact EM h (aiQ _ _ _ _) fun e=>by rw[aeX e]
 | time=>exact EM h (aa5 _) fun e=>by rw[ab5 e]
 | eat a b=>exact EM h (ai8 _ _ _) fun e=>by rw[af4 e]
 | anP n=>exact ahB _ _
 | aoL=>intro e;cases e
 | pack=>exact EM h (agY _) fun e=>by rw[acO e]
 | force=>exact EM h (afP _) fun e=>by rw[aaA e]
def amU.sim{w:aj3}(hd:amU w)(h:akf w)(e:Event):amU (vw w e):=⟨agM (fun _ _ ok d m=>m.dur ok d) h hd.d e⟩
inductive Reach:List Event→aj3→Prop
 | nil:Reach [] rv0
 | snoc {ev:List Event} {w:aj3} {e:Event} :Reach ev w→(doM w e).2=true→e.tx.size≤1048576→Reach (ev++[e]) (vw w e)
def Reach.both{ev:List Event}{w:aj3}(h:Reach ev w):akf w∧amU w:=by
 induction h with
 | nil=>exact⟨aiH,⟨fun i hi e=>by rw[aeK hi]at e;cases e⟩⟩
 | snoc _ _ _ ih=>exact⟨agN ih.1 _,ih.2.sim ih.1 _⟩
def Reach.ok{ev:List Event}{w:aj3}(h:Reach ev w):akf w:=h.both.1
def Reach.dur{ev:List Event}{w:aj3}(h:Reach ev w):amU w:=h.both.2
def Reach.step{ev:List Event}{w:aj3}(h:Reach ev w){e:Event}(ht:e.tx.size≤1048576):Reach (C1 ev e (doM w e).2) (vw w e):=by
 unfold C1;rcases tf (doM w e).2 with c | c
 ·rw[c,aqh rfl];exact h.snoc c ht
 ·have:=ajd h.ok h.dur c;rw[c,aqr];unfold vw ab6;rw[c,aqr,this];exact h
def Reach.ind{P:aj3→Prop}(h0:P rv0)(hs: ∀ w e,akf w→amU w→P w→(doM w e).2=true→P (vw w e)){ev:List Event}{w:aj3}(h:Reach ev w):P w:=by
 induction h with
 | nil=>exact h0
 | snoc h1 h2 _ ih=>exact hs _ _ h1.ok h1.dur ih h2
end Go.VS
namespace Go.VS
open Go
def tq{l:List Int}(h:BOk l):aH (dR l)=l:=by
 unfold aH dR;simp only[ast]
 conv=>rhs;rw[← avd l]
 refine arK fun n hn=> ?_;have:=h n hn;simp only[Function.comp,id];rw[UInt8.toNat_ofNat'];omega
def aeu{a b:List Int}(ha:BOk a)(hb:BOk b)(h:dR a=dR b):a=b:=by
 rw[← tq ha,h,tq hb]
def C0(f:Frame):BOk (fO f):=by
 unfold fO;split
 ·exact BOk.app (Tj f) (.cons _ (.cons _ .nil))
 ·exact .nil
def wL{n:Int}(h0:0≤n)(h1:n≤255):w8 n=n:=by
 rw[M7];omega
def PS{n:Int}(h0:0≤n)(h1:n≤65535):256 * w8 (w64 (aqU n 256))+w8 (arh n 256)=n:=by
 rw[M7,M7,arf h0,ar4 h0,ah (by omega) (by omega)];omega
def ahy{s:aqp}(h:s.size=4): ∃ a b c d,s=B [a,b,c,d]:=by
 have h':(L s).length=4:=h;rcases hl:L s with _ | ⟨a,_ | ⟨b,_ | ⟨c,_ | ⟨d,_ | ⟨e,l⟩⟩⟩⟩⟩<;>rw[hl]at h'<;>simp at h';exact⟨a,b,c,d,oX (by rw[L_B,hl])⟩
def YE{a1 a2 a3 a4 a5 a6 a7 a8 a9 b1 b2 b3 b4 b5 b6 b7 b8 b9:Int}{s t:aqp}(h1:a1=b1)(h2:a2=b2)(h3:a3=b3)(h4:a4=b4)(h5:a5=b5)(h6:a6=b6)(h7:a7=b7)(h8:a8=b8)(h9:a9=b9)(h:s=t):
  (⟨a1,a2,a3,a4,a5,a6,a7,a8,a9,s⟩:Frame)=⟨b1,b2,b3,b4,b5,b6,b7,b8,b9,t⟩:=by
 subst h1 h2 h3 h4 h5 h6 h7 h8 h9 h;rfl
def Xu{f:Frame}(h:kU f=true):cW (fO f)=(f,true):=by
 have hr:=Dz h;have r1:=ae.1 hr.1;have r2:=ae.1 hr.2.1;have r3:=ae.1 hr.2.2.1;have r4:=ae.1 hr.2.2.2.1;have r5:=ae.1 hr.2.2.2.2.1;have r6:=ae.1 hr.2.2.2.2.2.1;have r7:=hr.2.2.2.2.2.2;have anh:y6 (fO f)=f∧((fO f).length=10∨(fO f).length=17):=by
  obtain⟨ki,src,dst,fr,nu,t',un,sz,mix,da⟩:=f;simp only at r1 r2 r3 r4 r5 r6 r7;unfold fO;rw[aqh h];unfold ym at r7;by_cases hk:ki=1
  ·subst hk;simp only[aqn,aqm,aqt,decide_eq_true_eq]at r7;obtain⟨q1,q2,q3,q4⟩:=r7;have q1:=ae.1 q1;have q2:=ae.1 q2;obtain⟨a,b,c,d,rfl⟩:=ahy (s:=da) (by omega);unfold tr;simp only[aqn,aqm];have hb:aH (B [a,b,c,d])=[(a.toNat:Int),b.toNat,c.toNat,d.toNat]:=rfl;rw[hb];refine⟨?_,.inr rfl⟩;have e1:=PS (n:=un) (by omega) (by omega);have e2:=PS (n:=mix) (by omega) (by omega);unfold y6;rw[aqh (by rfl)];have g1:=wL (n:=src) (by omega) (by omega);have g2:=wL (n:=dst) (by omega) (by omega);have g3:=wL (n:=fr) (by omega) (by omega);have g4:=wL (n:=nu) (by omega) (by omega);have g5:=wL (n:=t') (by omega) (by omega);have g6:=wL (n:=sz) (by omega) (by omega);have g7:=Ij [a,b,c,d];exact YE rfl g1 g2 g3 g4 g5 e1 g6 e2 g7
  ·rw[aqg (by simpa using hk)]at r7;simp only[aqt,aq8,decide_eq_true_eq]at r7;obtain⟨q0,q1,q2,q3,q4⟩:=r7;unfold tr;simp only[aqj hk,aqr];refine⟨?_,.inl rfl⟩;have e1:=PS (n:=un) (by omega) (by omega);unfold y6;rw[aqg (by simp)];have g0:=wL (n:=ki) (by omega) (by omega);have g1:=wL (n:=src) (by omega) (by omega);have g2:=wL (n:=dst) (by omega) (by omega);have g3:=wL (n:=fr) (by omega) (by omega);have g4:=wL (n:=nu) (by omega) (by omega);have g5:=wL (n:=t') (by omega) (by omega);exact YE g0 g1 g2 g3 g4 g5 e1 q1.symm q2.symm q3.symm
 unfold cW;rw[anh.1,aqh,aqh (aqi rfl)];rw[aq8,decide_eq_true_eq,decide_eq_true_eq];have:=anh.2;omega
def Xp:List Int→Nat→Int
 | [],_=>0
 | x::r,i=>x * ((i % 1000:Nat)+1)+Xp r (i+1)
def KW: ∀ {l:List Int} {i:Nat} {n:Int},BOk l→0≤n→n < 65521→B6 l i n=(n+Xp l i) % 65521
 | [],i,n,_,h0,h1=>by
  unfold B6 Xp;omega
 | x::r,i,n,hb,h0,h1=>by
  have hx:=hb x aqA;have hp:0≤x * ((i % 1000:Nat)+1:Int):=auN hx.1 (by omega);unfold B6 Xp;rw[ar4 (by omega),KW (fun y hy=>hb y (aqx x hy)) (by omega) (by omega)];omega
def Xo: ∀ {l:List Int} {j i:Nat} {x:Int} (h:j < l.length),Xp (l.set j x) i=Xp l i+(x - l[j]) * (((i+j) % 1000:Nat)+1)
 | y::r,0,i,x,h=>by
  rw[List.set_cons_zero];unfold Xp;simp only[List.getElem_cons_zero,asB];rw[Int.sub_mul];omega
 | y::r,j+1,i,x,h=>by
  rw[List.set_cons_succ];unfold Xp;rw[Xo (j:=j) (i:=i+1) (by simpa using h),List.getElem_cons_succ,show i+1+j=i+(j+1) by omega];omega
structure alA (b body:List Int):Prop where
 e:b=body++two (B6 body 0 0)
 ok:BOk body
 len:body.length≤15
def agD{a b:Int}(h0:0≤a∧a < 65521)(h1:0≤b∧b < 65521)(h:two a=two b):a=b:=by
 have e1:=PS (n:=a) (by omega) (by omega);have e2:=PS (n:=b) (by omega) (by omega);unfold two at h;simp only[as9,and_true]at h;rw[← e1,← e2,h.1,h.2]
def Zy{b body aln:List Int}{j:Nat}{x:Int}(h:alA b body)(hj:j < b.length)(hx:x≠b[j])(hr:0≤x∧x≤255): ¬ alA (b.set j x) aln:=by
 intro h';have hlb:b.length=body.length+2:=by rw[h.e];simp
 have apL:(b.set j x).length=aln.length+2:=by rw[h'.e];simp
 rw[arZ]at apL;have hs:=PW (i:=0) (n:=0) h.ok (by omega) (by omega);have hs':=PW (i:=0) (n:=0) h'.ok (by omega) (by omega);have e:=h'.e;have hbl:body.length=aln.length:=by omega
 by_cases hlt:j < body.length
 ·have e1:(body.set j x)++two (B6 body 0 0)=aln++two (B6 aln 0 0):=by
   rw[← e,h.e,List.set_append_left _ _ hlt]
  obtain⟨e2,e3⟩:=List.append_inj e1 (by rw[arZ];exact hbl);have e4:=agD hs hs' e3;have hbj:b[j]=body[j]:=by simp only[h.e,List.getElem_append_left hlt]
  rw[← e2]at e4 h';rw[KW h.ok (by omega) (by omega),KW h'.ok (by omega) (by omega),Xo hlt]at e4;have hb1:=h.ok body[j] (ark hlt);have hlen:=h.len;rw[hbj]at hx;have hm:((0+j) % 1000:Nat)=j:=by omega
  rw[hm]at e4;have hd: ∃ d:Int,d=(x - body[j]) * ((j:Int)+1):=⟨_,rfl⟩;obtain⟨d,hd⟩:=hd;rw[← hd]at e4;have h1:d≠0:=by
   rw[hd];exact Int.mul_ne_zero (by omega) (by omega)
  have h2:d≤255 * 15:=by
   rw[hd];have a1:(x - body[j]) * ((j:Int)+1)≤255 * ((j:Int)+1):=atf (by omega) (by omega);omega
  have h3: -(255 * 15)≤d:=by
   rw[hd];have a1:(-255) * ((j:Int)+1)≤(x - body[j]) * ((j:Int)+1):=atf (by omega) (by omega);omega
  omega
 ·have e1:body++(two (B6 body 0 0)).set (j - body.length) x=aln++two (B6 aln 0 0):=by
   rw[← e,h.e,auO _ _ (by omega)]
  obtain⟨e2,e3⟩:=List.append_inj e1 hbl;rw[← e2]at e3;have e4:b.set j x=b:=by
   rw[e,← e2];exact h.e.symm
  have:(b.set j x)[j]'(by rw[arZ];exact hj)=x:=List.getElem_set_self ..;rw[List.getElem_of_eq e4]at this;exact hx this.symm
def Vl{f:Frame}(h:kU f=true):alA (fO f) (tr f):=⟨by unfold fO;rw[aqh h],Tj f,M0 h⟩
def Zv{b:List Int}(hb:BOk b)(h:(cW b).2=true):alA b (tr (cW b).1):=by
 have ok:=GI h;have:fO (cW b).1=b:=by
  unfold cW at h ⊢;split
  ·rename_i h1;rw[aqh h1]at h;split
   ·rename_i h2;exact aeu (C0 _) hb (aqk h2)
   ·rename_i h2;rw[aqg h2]at h;cases h
  ·rename_i h1;rw[aqg h1]at h;cases h
 have hs:=Vl ok;rw[this]at hs;exact hs
def aiq{x k:Int}(hx:0≤x∧x≤255)(hk:1≤k∧k≤255):te .u8 x (w8 k)≠x∧0≤te .u8 x (w8 k)∧te .u8 x (w8 k)≤255:=by
 rw[wL (by omega) (by omega)];have e:te .u8 x k=w8 ((arR 8 x ^^^ arR 8 k).toNat:Int):=rfl;have hlt:=(arR 8 x ^^^ arR 8 k).isLt;rw[e,wL (by omega) (by omega)];refine⟨fun h=> ?_,by omega,by omega⟩;obtain⟨m,rfl⟩:=arz hx.1;obtain⟨n,rfl⟩:=arz (show 0≤k by omega);have e1:(arR 8 (m:Int) ^^^ arR 8 (n:Int))=arR 8 (m:Int):=by
  apply auK;rw[ate];omega
 have e2:arR 8 (n:Int)=0#8:=by
  have:=congrArg (fun z=>arR 8 (m:Int) ^^^ z) e1;simpa[← BitVec.xor_assoc] using this
 have e3:=congrArg BitVec.toNat e2;rw[ate]at e3;simp at e3;omega
def ZJ{f:Frame}{p:ajW}(hf:kU f=true)(hd:p.data=dR (fO f)){mix kp:Int}(hm:inB mix 0 ((p.data.size:Int) - 1)=true)(hk:inB kp 1 255=true):(cW (aH (GN p mix kp).data)).2=false:=by
 have hm:=ae.1 hm;have hk:=ae.1 hk;rw[hd,y5]at hm;rcases tf (cW (aH (GN p mix kp).data)).2 with h | h
 ·exfalso;have hs:=Zv (BOk.str _) h;unfold GN at hs;simp only at hs;rw[hd,tq (C0 f)]at hs;have hlt:mix.toNat < (fO f).length:=by omega
  have hrd: @rd Int (dfl .u8) (fO f) mix=(fO f)[mix.toNat]:=by
   show(fO f).getD mix.toNat 0=_;rw[aqE,aqC hlt];rfl
  rw[hrd]at hs;have hx:=C0 f _ (ark hlt);have hne:=aiq hx hk;have hb:BOk ((fO f).set mix.toNat (te .u8 (fO f)[mix.toNat] (w8 kp))):=by
   intro y hy;rcases asE hy with h1 | h1
   ·exact C0 f y h1
   ·rw[h1];exact hne.2
  rw[tq hb]at hs;exact Zy (Vl hf) hlt hne.1 hne.2 hs
 ·exact h
end Go.VS
namespace Go.VS
open Go
def RS{α β:Type}{f g:α→β→α}: ∀ {l:List β} {a:α},(∀ a,∀ b∈l,f a b=g a b)→l.foldl f a=l.foldl g a
 | [],_,_=>rfl
 | x::l,a,h=>by
  rw[ars,ars,h a x aqA];exact RS fun a b hb=>h a b (aqx x hb)
def Zq(b:Nat)(bl:Nat→List UInt8)(kn:List aqp):Prop:= ∀ k,k < b→bsA kn k=noB∨bsA kn k=B (bl k)
def acU{b:Nat}{bl:Nat→List UInt8}{kn kn':List aqp}{m:ajV}(hb: ∀ k,(bl k).length=4)(hm:zd m→m.da=B (pZ 4 bl (aU (b:Int) m.nu)))
  (h:akj b kn)(ht:Zq b bl kn)(e:uJ b kn m=some kn'):Zq b bl kn':=by
 unfold uJ at e;split at e
 ·rename_i hc;rw[aqt]at hc;have hda:=hm ⟨hc.1,aqk hc.2⟩;split at e
  ·rename_i u hu;injection e with e;subst e;have akF:u∈eE kn (aU (b:Int) m.nu):=by rw[hu];exact arX u
   obtain⟨h1,h2⟩:=ar3.1 akF;have h3:=iO h1;have hul:u < kn.length:=by rw[h.1];omega
   have hv:ji kn (aU (b:Int) m.nu) (L m.da)=bl u:=by
    have hp:=aeU (n:=4) (bl:=bl) (p:=fun k=> !unk kn k) (ks:=aU (b:Int) m.nu) (u:=u) (fun k _=>hb k) (by
     have:(aU (b:Int) m.nu).filter (fun k=> !(!unk kn k))=eE kn (aU (b:Int) m.nu):=by
      unfold eE;congr 1;funext k;rw[Bool.not_not]
     rw[this,hu])
    rw[← hp,hda,L_B];unfold ji;refine RS fun x k hk=> ?_;rcases tf (unk kn k) with c | c
    ·rw[c];rfl
    ·rw[c];have hkb:=iO hk;rcases ht k (by omega) with h4 | h4
     ·exact absurd h4 (aql c)
     ·rw[h4,L_B];rfl
   intro k hk;rw[ER _ hul];by_cases ek:k=u
   ·rw[aqh ek,hv,ek];exact .inr rfl
   ·rw[aqg ek];exact ht k hk
  ·cases e
 ·cases e
def L8{b:Nat}{bl:Nat→List UInt8}(hb: ∀ k,(bl k).length=4): ∀ (list:List ajV) (s:List aqp×Bool),(∀ m∈list,zd m→m.da=B (pZ 4 bl (aU (b:Int) m.nu)))→akj b s.1→Zq b bl s.1→Zq b bl (list.foldl (cF b) s).1
 | [],_,_,_,h=>h
 | m::list,s,hm,h,ht=>by
  rw[ars];cases e:uJ b s.1 m with
  | none=>
   rw[show cF b s m=s by unfold cF;rw[e]];exact L8 hb list s (fun x hx=>hm x (aqx m hx)) h ht
  | some kn=>
   rw[show cF b s m=(kn,true) by unfold cF;rw[e]];exact L8 hb list (kn,true) (fun x hx=>hm x (aqx m hx)) (Ex h e).1 (acU hb (hm m aqA) h ht e)
def Qs{b:Nat}{bl:Nat→List UInt8}(hb: ∀ k,(bl k).length=4){list:List ajV}(hm: ∀ m∈list,zd m→m.da=B (pZ 4 bl (aU (b:Int) m.nu))): ∀ (n:Nat) (kn:List aqp),akj b kn→Zq b bl kn→Zq b bl (pY b list n kn)
 | 0,_,_,h=>h
 | n+1,kn,h,ht=>by
  have h1:=(jW list (kn,false) h).1;have h2:=L8 hb list (kn,false) hm h ht;unfold pY;split
  ·exact Qs hb hm n _ h1 h2
  ·exact h2
def X4{b:Nat}{list:List ajV}: ∀ (n:Nat) (kn:List aqp),akj b kn→ ∀ k,unk (pY b list n kn) k=true→unk kn k=true
 | 0,_,_,_,h=>h
 | n+1,kn,h,k,hk=>by
  obtain⟨h1,h2,_⟩:=jW list (kn,false) h;unfold pY at hk;split at hk
  ·exact h2 k (X4 n _ h1 k hk)
  ·exact h2 k hk
def RV{b:Nat}{k:Nat}: ∀ (list:List ajV) (s:List aqp×Bool),(∃ m∈list,zd m∧aU (b:Int) m.nu=[k])→akj b s.1→unk (list.foldl (cF b) s).1 k=false
 | [],_,h,_=>by
  obtain⟨m,hm,_⟩:=h;cases hm
 | m::list,s,h,hk=>by
  rw[ars];have hs:akj b (cF b s m).1:=by
   unfold cF;split
   ·rename_i kn e;exact(Ex hk e).1
   ·exact hk
  obtain⟨x,hx,hf,hof⟩:=h;rcases aqS.1 hx with rfl | hx
  ·have h1:unk (cF b s x).1 k=false:=by
    unfold cF uJ;rw[aqh (by rw[aqt];exact⟨hf.1,aqi hf.2⟩),hof];unfold eE;rw[asd,aut];rcases tf (unk s.1 k) with c | c
    ·have hul:k < s.1.length:=by
      have h3:=iO (b:=(b:Int)) (n:=x.nu) (k:=k) (by rw[hof];exact arX k);rw[hk.1];omega
     simp only[c,aqm];unfold unk;rw[ER _ hul,aqh rfl];refine aqj fun hh=> ?_;have h4:(B (ji s.1 [k] (L x.da))).size=4:=by
      rw[aO,La hk (by have:=hf.2;rw[aN];omega) fun j hj=>by rw[aq4.1 hj,← hk.1];exact hul]
     rw[hh]at h4;cases h4
    ·simp only[c,aqr]
   rcases tf (unk (list.foldl (cF b) (cF b s x)).1 k) with c | c
   ·have:=(jW list (cF b s x) hs).2.1 k c;rw[h1]at this;cases this
   ·exact c
  ·exact RV list _ ⟨x,hx,hf,hof⟩ hs
def X5{b:Nat}{k:Nat}{list:List ajV}(h: ∃ m∈list,zd m∧aU (b:Int) m.nu=[k])(n:Nat){kn:List aqp}(hk:akj b kn):unk (pY b list (n+1) kn) k=false:=by
 have h1:=RV list (kn,false) h hk;have h2:=(jW list (kn,false) hk).1;unfold pY;split
 ·rcases tf (unk (pY b list n (pT b list kn).1) k) with c | c
  ·have:=X4 n _ h2 k c;rw[h1]at this;cases this
  ·exact c
 ·exact h1
def aab{b:Nat}{u:Nat}{kn kn':List aqp}{m:ajV}(h:akj b kn)(hu:u ∉ aU (b:Int) m.nu)(hk:unk kn u=true)(e:uJ b kn m=some kn'):unk kn' u=true:=by
 unfold uJ at e;split at e
 ·split at e
  ·rename_i v hv;injection e with e;subst e;have akF:v∈eE kn (aU (b:Int) m.nu):=by rw[hv];exact arX v
   obtain⟨h1,h2⟩:=ar3.1 akF;have h3:=iO h1;unfold unk;rw[ER _ (by rw[h.1];omega),aqg (fun e2:u=v=>hu (by rw[e2];exact h1))];exact hk
  ·cases e
 ·cases e
def HB{b:Nat}{u:Nat}: ∀ (list:List ajV) (s:List aqp×Bool),akj b s.1→(∀ m∈list,u ∉ aU (b:Int) m.nu)→unk s.1 u=true→unk (list.foldl (cF b) s).1 u=true
 | [],_,_,_,h=>h
 | m::list,s,hk,hu,h=>by
  rw[ars];unfold cF;split
  ·rename_i kn e;exact HB list _ (Ex hk e).1 (fun x hx=>hu x (aqx m hx)) (aab hk (hu m aqA) h e)
  ·exact HB list _ hk (fun x hx=>hu x (aqx m hx)) h
def Ng{b:Nat}{u:Nat}{list:List ajV}(hu: ∀ m∈list,u ∉ aU (b:Int) m.nu): ∀ (n:Nat) (kn:List aqp),akj b kn→unk kn u=true→unk (pY b list n kn) u=true
 | 0,_,_,h=>h
 | n+1,kn,hk,h=>by
  have h1:=(jW list (kn,false) hk).1;have h2:=HB list (kn,false) hk hu h;unfold pY;split
  ·exact Ng hu n _ h1 h2
  ·exact h2
def V1{u:Nat}: ∀ {l:List aqp} {a:aqp},u < l.length→bsA l u=noB→A6 l a=none
 | [],_,h,_=>absurd h (auu _)
 | x::l,a,h,e=>by
  unfold A6;split
  ·rfl
  ·rename_i hx;cases u with
   | zero=>exact absurd e hx
   | succ u=>exact V1 (u:=u) (by simpa using h) (by simpa[bsA] using e)
def Zd: ∀ {l:List (List UInt8)} {a:aqp},(∀ x∈l,x.length=4)→A6 (l.map B) a=some (a++B l.flatten)
 | [],a,_=>by
  show some a=_;congr 1;apply oX;rw[rp,L_B];simp
 | x::l,a,h=>by
  rw[arx];unfold A6;have hx:=h x aqA;rw[aqg (fun e=>by have:(B x).size=0:=(by rw[e];rfl);rw[aO]at this;omega),Zd fun y hy=>h y (aqx x hy)];congr 1;apply oX;simp only[rp,L_B,List.flatten_cons,aqP]
def ai4{b:Nat}{bl:Nat→List UInt8}{kn:List aqp}(h:akj b kn)(ht:Zq b bl kn)(hu: ∀ k,k < b→unk kn k=false):kn=((aqW b).map bl).map B:=by
 apply aui;intro i;by_cases hi:i < b
 ·rw[ast,ari,arP hi];have h1:=hu i hi;rcases ht i hi with h2 | h2
  ·exact absurd h2 (aql h1)
  ·have hl:i < kn.length:=by rw[h.1];exact hi
   rw[bsA,aqE,aqC hl]at h2;rw[aqC hl];exact congrArg some h2
 ·rw[arW (by rw[h.1];omega),arW (by simp;omega)]
def YF(t:List UInt8): ∀ b:Nat,((aqW b).map (A9 t)).flatten=(aqW (4 * b)).map fun i=>t.getD i 0
 | 0=>rfl
 | b+1=>by
  rw[asz,arG,List.flatten_append,YF t b];have:aqW (4 * (b+1))=aqW (4 * b)++[4 * b,4 * b+1,4 * b+2,4 * b+3]:=by
   rw[show 4 * (b+1)=4 * b+1+1+1+1 by omega];simp only[asz,aqP];rfl
  rw[this,arG];rfl
def agn{s:Int}(h:inB s 1 24=true):aqU (s+3) 4=(((s.toNat+3) / 4:Nat):Int)∧inB (aqU (s+3) 4) 1 6=true:=by
 have h:=ae.1 h;have:aqU (s+3) 4=(((s.toNat+3) / 4:Nat):Int):=by
  rw[arf (by omega)];omega
 refine⟨this,ae.2 ?_⟩;rw[this];omega
def XC{s:Int}(h:inB s 1 24=true)(list:List ajV):jE s list=(match A6 (pY ((s.toNat+3) / 4) list 7 (aqQ ((s.toNat+3) / 4) noB)) noB with
  | none=>(noB,false)
  | some c=>if M6 c s.toNat then(c.extract 0 s.toNat,true) else(noB,false)):=by
 obtain⟨h1,h2⟩:=agn h;unfold jE vA;rw[aqh h,aqh h2,h1,aqJ];rfl
def Zx{s:Int}{list:List ajV}{u:Nat}(hu:u < (s.toNat+3) / 4)(hn: ∀ m∈list,u ∉ aU (((s.toNat+3) / 4:Nat):Int) m.nu):(jE s list).2=false:=by
 rcases tf (inB s 1 24) with h | h
 ·rw[XC h];have hk:=akj.new ((s.toNat+3) / 4);have h0:unk (aqQ ((s.toNat+3) / 4) noB) u=true:=by
   unfold unk;rw[bsA,aqE,as6,aqh hu];rfl
  have h1:=Ng hn 7 _ hk h0;have h2:=IU list 7 _ hk;rw[V1 (u:=u) (by rw[h2.1];exact hu) (aqk h1)]
 ·unfold jE;rw[h,aqr]
def aep{tx:aqp}(h:inB tx.size 1 24=true):(let c:=noB++B ((aqW ((tx.size+3) / 4)).map (A9 (L tx))).flatten
  (if M6 c tx.size then(c.extract 0 tx.size,true) else(noB,false)))=(tx,true):=by
 have h:=ae.1 h;have hc:L (noB++B ((aqW ((tx.size+3) / 4)).map (A9 (L tx))).flatten)=(aqW (4 * ((tx.size+3) / 4))).map fun i=>(L tx).getD i 0:=by
  rw[rp,L_B,YF];rfl
 generalize noB++B ((aqW ((tx.size+3) / 4)).map (A9 (L tx))).flatten=c at hc;have hsz:c.size=4 * ((tx.size+3) / 4):=by rw[← aN,hc];simp
 have hz:M6 c tx.size=true:=by
  unfold M6;rw[cw];intro i hi;refine aqi ?_;unfold bt;show(((L c).getD (tx.size+i) 0).toNat:Int)=0;rw[hc,aqE,ari,arP (by omega)];simp only[atv,are];rw[aqE,arW (by rw[aN];omega)];rfl
 show(if M6 c tx.size then(c.extract 0 tx.size,true) else(noB,false))=(tx,true);rw[aqh hz];congr 1;apply oX;rw[jd,asn,hc,asK];apply aui;intro i;rw[arT];split
 ·rename_i hi;rw[ari,arP (by omega)];simp only[atv];rw[aqE,aqC (by rw[aN];exact hi)];rfl
 ·rw[arW (by rw[aN];omega)]
def aiV(tx:aqp)(list:List ajV):Prop:= ∀ m∈list,zd m→m.da=ta tx m.nu
def ajj{tx:aqp}(h:inB tx.size 1 24=true):(mP tx).length=(tx.size+3) / 4:=by
 unfold mP;rw[aqh h];simp
def M1{tx:aqp}(h:inB tx.size 1 24=true):inB (((tx.size+3) / 4:Nat):Int) 1 6=true:=by
 have h:=ae.1 h;exact ae.2 (by omega)
def Nl{b:Nat}{k:Nat}(hb:inB (b:Int) 1 6=true)(hk:k < b):aU (b:Int) (k:Int)=[k]:=by
 have h:=ae.1 hb;unfold aU ow;rw[hb,aqh (by rw[aqB];exact ae.2 (by omega)),aqh (aqi (by omega)),aqJ]
def U1{b:Nat}{f:Nat→Bool}: ∀ (n:Nat) (x:Int),0 < b→(∃ k,k < b∧f k=true)→ ∃ k,k < b∧NI b n f x k=true
 | 0,_,_,h=>h
 | n+1,x,hb,h=>by
  obtain⟨k,hk,e⟩:=h;exact U1 n _ hb ⟨k,hk,by unfold Ig;split;rfl;exact e⟩
def ael{b:Nat}{f:Nat→Bool}{n:Nat}{x:Int}(hb:0 < b)(hn:0 < n): ∃ k,k < b∧NI b n f x k=true:=by
 obtain⟨n,rfl⟩: ∃ m,n=m+1:=⟨n - 1,by omega⟩;rw[NI];refine U1 n _ hb ⟨_, ?_,by unfold Ig;rw[aqh rfl]⟩;refine IG _ _ ?_;have:arh (aqU (rnd x) 16) (b:Int) < b:=asU _ (by omega);have h0:0≤arh (aqU (rnd x) 16) (b:Int):=atg _ (auv (IK x).1 (by omega));omega
def YT{b r:Int}(hb:1≤b): ∀ (ws:List Int) (acc d:Int),1≤d→1≤W4 (Uj b r ws acc d)
 | [],_,_,_=>hb
 | w::ws,acc,d,h=>by
  unfold Uj;split
  ·exact h
  ·exact YT hb ws _ _ (by omega)
def af8{b n:Int}(h:ow b n=true):1≤A4 b n:=by
 have hb:1≤b:=by
  unfold ow at h;rw[aqt]at h;exact(ae.1 h.1).1
 unfold A4;rw[aqh h];split
 ·exact as2 _
 ·exact YT hb _ _ _ (as2 _)
def Yd{b n:Int}(h:ow b n=true):aU b n≠[]:=by
 have hb:1≤b:=by
  unfold ow at h;rw[aqt]at h;exact(ae.1 h.1).1
 unfold aU;rw[aqh h];split
 ·simp
 ·obtain⟨k,hk,e⟩:=ael (b:=b.toNat) (f:=fun _=>false) (n:=(A4 b n).toNat) (x:=rnd (7 * n+1)) (by omega) (by have:=af8 h;omega);intro hh;have:k∈uu (NI b.toNat (A4 b n).toNat (fun _=>false) (rnd (7 * n+1))) b.toNat:=ar3.2 ⟨arl.2 hk,e⟩;rw[hh]at this;cases this
def ac1{n:Int}(h:inB n 0 999=true):aU 1 n=[0]:=by
 have hm:ow 1 n=true:=by unfold ow;rw[h];rfl
 have hne:=Yd hm;unfold aU at hne ⊢;rw[aqh hm]at hne ⊢;split
 ·rename_i hc;rw[aqh hc]at hne;have h1:=aqk hc;have h2:=ae.1 h;rw[show n.toNat=0 by omega]
 ·rename_i hc;rw[aqg hc]at hne;unfold uu at hne ⊢;rw[show(1:Int).toNat=1 from rfl,List.range_one]at hne ⊢;rw[asd]at hne ⊢;split
  ·rfl
  ·rename_i h3;rw[aqg h3]at hne;exact absurd rfl hne
def Yj{tx:aqp}(h:inB tx.size 1 24=true){n:Int}(hn:inB n 0 999=true):ta tx n=B (pZ 4 (A9 (L tx)) (aU (((tx.size+3) / 4:Nat):Int) n)):=by
 unfold ta;rw[ajj h];have:=Yd (b:=(((tx.size+3) / 4:Nat):Int)) (n:=n) (by unfold ow;rw[M1 h,hn];rfl);rw[aqg (by rw[List.isEmpty_iff];exact this)]
def Lq{tx:aqp}(h:inB tx.size 1 24=true){n:Int}(hn:inB n 0 999=true):zd ⟨n,ta tx n⟩:=by
 refine⟨hn, ?_⟩;show((ta tx n).size:Int)=4;rw[Yj h hn,aO,ze (fun k _=>Eh _ k)];rfl
def ae1{tx:aqp}(h:inB tx.size 1 24=true){list:List ajV}(hl:aiV tx list): ∀ m∈list,zd m→m.da=B (pZ 4 (A9 (L tx)) (aU (((tx.size+3) / 4:Nat):Int) m.nu)):=by
 intro m hm hf;rw[hl m hm hf,Yj h hf.1]
def ai3(b:Nat)(bl:Nat→List UInt8):Zq b bl (aqQ b noB):=by
 intro k hk;left;rw[bsA,aqE,as6,aqh hk];rfl
def PV{tx:aqp}(h:inB tx.size 1 24=true){list:List ajV}(hl:aiV tx list)(hf: ∀ k:Nat,k < (tx.size+3) / 4→ ∃ m∈list,zd m∧aU (((tx.size+3) / 4:Nat):Int) m.nu=[k]):jE tx.size list=(tx,true):=by
 rw[XC h,aqJ];have h1:=IU list 7 _ (akj.new ((tx.size+3) / 4));have h2:=Qs (fun k=>Eh (L tx) k) (ae1 h hl) 7 _ (akj.new ((tx.size+3) / 4)) (ai3 _ _);have h3: ∀ k,k < (tx.size+3) / 4→unk (pY ((tx.size+3) / 4) list 7 (aqQ ((tx.size+3) / 4) noB)) k=false:=fun k hk=>X5 (hf k hk) 6 (akj.new ((tx.size+3) / 4));rw[ai4 h1 h2 h3,Zd (by
  intro x hx;obtain⟨k,_,rfl⟩:=arv.1 hx;exact Eh _ _)]
 exact aep h
end Go.VS
namespace Go.VS
open Go
def aaY(S:ajT→Prop)(f:Frame):Prop:=f.ki=1→ ∃ n,S n∧aB n=true∧f.fr=n.fr∧f.nu=n.nu∧f.to=n.to∧f.un=n.un∧f.sz=n.tx.size∧f.da=ta n.tx f.mix
structure PcI (S:ajT→Prop) (p:ajW):Prop where
 ao9:p.sp=false→ ∃ f,p.data=dR (fO f)∧p.src=f.src∧p.dst=f.dst∧(kU f=true→aaY S f)
 bad:p.sp=true→(cW (aH p.data)).2=false
def Zw:(cW (aH (dR []))).2=false:=by rfl
def PcI.frame{S:ajT→Prop}{p:ajW}(h:PcI S p)(hu:(cW (aH p.data)).2=true): ∃ f,cW (aH p.data)=(f,true)∧kU f=true∧p.src=f.src∧p.dst=f.dst∧aaY S f∧p.data=dR (fO f):=by
 rcases tf p.sp with c | c
 ·rw[h.bad c]at hu;cases hu
 ·obtain⟨f,h1,h2,h3,h4⟩:=h.ao9 c;rcases tf (kU f) with e | e
  ·refine⟨f, ?_,e,h2,h3,h4 e,h1⟩;rw[h1,tq (C0 f),Xu e]
  ·rw[h1]at hu;unfold fO at hu;rw[e,aqr,Zw]at hu;cases hu
def PcI.an0{S:ajT→Prop}{p:ajW}(h:PcI S p)(hs:p.sp=false){mix kp:Int}(hm:inB mix 0 ((p.data.size:Int) - 1)=true)(hk:inB kp 1 255=true):PcI S (GN p mix kp):=by
 obtain⟨f,h1,_,_,_⟩:=h.ao9 hs;refine⟨fun e=>(by cases e),fun _=> ?_⟩;rcases tf (kU f) with e | e
 ·exact ZJ e h1 hm hk
 ·have h2:=ae.1 hm;rw[h1]at h2;unfold fO at h2;rw[e,aqr,y5]at h2;simp at h2;omega
def PcI.send{S:ajT→Prop}{f:Frame}(h:kU f=true→aaY S f):PcI S (pcF f):=⟨fun _=>⟨f,rfl,rfl,rfl,h⟩,fun e=>by cases e⟩
def XO{ra:List ajW}{fs:List Frame}{p:ajW}(h:p∈FF ra fs):p∈ra∨ ∃ f∈fs,p=pcF f:=by
 unfold FF at h;rcases aqL.1 h with h | h
 ·exact .inl h
 ·obtain⟨f,hf,rfl⟩:=arv.1 h;exact .inr ⟨f,arS hf,rfl⟩
def Yl{ra:List ajW}{i:Nat}{p:ajW}(h:p∈Jf ra i):p∈ra:=by
 unfold Jf at h;rcases aqL.1 h with h | h
 ·exact arS h
 ·exact asx h
def adm{k:ajR}{f g:Frame}(h:g∈(dP k f).2):g=Tp 2 f∨g=Tp 3 f:=by
 unfold dP at h;split at h
 ·unfold zE at h;split at h
  ·split at h
   ·unfold mK at h;split at h
    ·exact .inr (aq4.1 h)
    ·split at h
     ·exact .inl (aq4.1 h)
     ·split at h
      ·cases h
      ·unfold I3 at h;split at h
       ·split at h
        ·unfold tv at h;split at h
         ·exact .inl (aq4.1 h)
         ·cases h
        ·cases h
       ·cases h
   ·split at h<;>cases h
  ·cases h
 ·cases h
def ah1(S:ajT→Prop){k:ajR}{f g:Frame}(h:g∈(dP k f).2):aaY S g:=by
 intro hk;rcases adm h with rfl | rfl
 ·exact absurd hk (show ¬ (2:Int)=1 by decide)
 ·exact absurd hk (show ¬ (3:Int)=1 by decide)
def abh{l:List ajT}{i:Int}(h0:0≤i)(h1:i.toNat < l.length):nA l i.toNat∈l:=by
 rw[nA,aqE,aqC h1];exact ark h1
def VH{st:ajZ}(h:aE st=true){n:ajT}(hn:n∈st.held):aB n=true:=by
 unfold aE at h;simp only[aqt]at h;have hh:=h.2.2.2.1.2;obtain⟨j,hj,rfl⟩:=arn hn;have:=cw.1 hh j hj;rw[aqt,nA,aqE,aqC hj]at this;exact this.1
def ahb{S:ajT→Prop}{k:ajR}(h:aj k=true)(hS: ∀ n∈(stT k).held,S n){fr nu mix:Int}(hb:(wJ k fr nu mix).2=true):aaY S (wJ k fr nu mix).1:=by
 intro _;unfold wJ at hb ⊢;split at hb
 ·rename_i hc;rw[aqh hc];simp only[aqt,aro,decide_eq_false_iff_not]at hc;have h0:=nL (at1.1 hc.2.1);have hm:=abh (at1.1 hc.2.1) h0.1;exact⟨_,hS _ hm,VH (mM h).kok hm,rfl,rfl,rfl,rfl,rfl,rfl⟩
 ·cases hb
def uK{n:ajT}(h:aB n=true):inB n.tx.size 1 24=true:=by
 unfold aB Tx at h;simp only[aqt]at h;exact h.2.2.2.2.1
def acI(hv:List ajY)(f:Frame):(∃ i,bE hv f=(hv,i)∧i < hv.length∧(hA hv i).fr=f.fr∧(hA hv i).nu=f.nu∧rK hv f.fr f.nu=(i:Int))∨
  (rK hv f.fr f.nu < 0∧ ∃ l:List ajY,l.Sublist hv∧bE hv f=(l++[⟨f.fr,f.nu,f.to,f.un,f.sz,[]⟩],l.length)):=by
 unfold bE;rcases oL hv f.fr f.nu with h | ⟨i,h1,h2,h3,h4⟩
 ·rw[aqh h];refine .inr ⟨h,_, ?_,rfl⟩;split
  ·exact atH _ _
  ·exact art _
 ·rw[aqg (by omega)];exact .inl ⟨i,by rw[h1];rfl,h2,h3,h4,h1⟩
def aht(l:List ajY)(h:ajY):hA (l++[h]) l.length=h:=by
 unfold hA;rw[aqE,arj (aqG _)];simp
def afI(mix:Int)(da:aqp):ic [] mix da=[⟨mix,da⟩]:=rfl
def af6(l:List ajY)(h:ajY):uR (l++[h]) l.length=l:=by
 unfold uR;rw[List.take_left,asm (by simp),aq6]
def agu(l:List ajY)(h:ajY)(f:Frame): ∃ g,nk (l++[h]) l.length f=l++[g]:=by
 unfold nk;rw[auO _ _ (aqG _),atX];exact⟨_,rfl⟩
def PM(k:ajR)(r:aqp)(f:Bool):(wrR k r f).1.ajS=k.ajS:=by
 unfold wrR;split
 ·rfl
 ·cases f<;>rfl
def alo(k:ajR):Prop:= ∀ h∈k.ajS,5≤h.sz
def abU{l:List ajY}{i:Nat}{f:Frame}(hi:i < l.length)(h: ∀ x∈l,5≤x.sz): ∀ x∈nk l i f,5≤x.sz:=by
 intro x hx;unfold nk at hx;rcases asE hx with h1 | h1
 ·exact h x h1
 ·rw[h1];exact h (hA l i) (by rw[vU hi];exact ark hi)
def abL{l:List ajY}{i:Nat}{x:ajY}(h:x∈uR l i):x∈l:=by
 unfold uR at h;rcases aqL.1 h with h | h
 ·exact arS h
 ·exact asx h
def ag3{f:Frame}{n:ajT}(hn:aB n=true)(hs:f.sz=n.tx.size)(hd:f.da=ta n.tx f.mix)(h4:f.sz≤4)(hm:inB f.mix 0 999=true):jE f.sz [⟨f.mix,f.da⟩]=(n.tx,true):=by
 have htx:=uK hn;have h1:=ae.1 htx;rw[hs];refine PV htx ?_ ?_
 ·intro m hmm _;rw[aq4.1 hmm];exact hd
 ·intro k hk;refine⟨_,arX _, ?_, ?_⟩
  ·rw[hd];exact Lq htx hm
  ·have hb:(n.tx.size+3) / 4=1:=by omega
   rw[hb];have hk0:k=0:=by omega
   rw[hk0];exact ac1 hm
def PO(k:ajR)(n:ajT)(f:Frame):(tv k n f).1.ajS=k.ajS:=by
 unfold tv;split
 ·exact PM _ _ _
 ·rfl
def aeJ(f:Frame):II ⟨f.fr,f.nu,f.to,f.un,f.sz,[]⟩ f=true:=by
 unfold II;simp
def ag9{S:ajT→Prop}{k:ajR}{f:Frame}(hb:alo k)(hf:kU f=true)(h1:f.ki=1)(g:aaY S f):alo (I3 k f).1:=by
 obtain⟨n,_,hn,_,_,_,_,hs,hd⟩:=g h1;have hp:=HA hf h1;have hlt:=IQ (hv:=k.ajS) (f:=f);unfold I3;rcases acI k.ajS f with⟨i,e,hi,_,_,_⟩ | ⟨_,l,hl,e⟩
 ·rw[e]at hlt ⊢;split
  ·have hab:=abU (f:=f) hi hb;split
   ·intro h hh;rw[PO]at hh;exact hab h (abL hh)
   ·exact hab
  ·exact hb
 ·have hlb: ∀ x∈l,5≤x.sz:=fun x hx=>hb x (hl.subset hx);rw[e]at hlt ⊢;simp only[aht,aeJ,aqm];obtain⟨g',hg'⟩:=agu l ⟨f.fr,f.nu,f.to,f.un,f.sz,[]⟩ f;by_cases h5:5≤f.sz
  ·have hab:=abU (f:=f) (l:=l++[⟨f.fr,f.nu,f.to,f.un,f.sz,[]⟩]) (i:=l.length) hlt (by
    intro x hx;rcases aqL.1 hx with h | h
    ·exact hlb x h
    ·rw[aq4.1 h];exact h5)
   split
   ·intro h hh;rw[PO]at hh;exact hab h (abL hh)
   ·exact hab
  ·rw[afI,ag3 hn hs hd (by omega) hp.2.1.1];simp only[aqm];intro h hh;rw[PO,hg']at hh;rw[show(Bb k (uR (l++[g']) l.length)).ajS=uR (l++[g']) l.length from rfl,af6]at hh;exact hlb h hh
def afz{S:ajT→Prop}{k:ajR}{f:Frame}(hk:aj k=true)(hb:alo k)(g:kU f=true→aaY S f):alo (dP k f).1:=by
 unfold dP;rw[aqh hk];unfold zE;split
 ·rename_i hc;simp only[aqt]at hc;split
  ·rename_i h1;unfold mK;split
   ·exact hb
   ·split
    ·exact hb
    ·split
     ·exact hb
     ·exact ag9 hb hc.2.1 (aqk h1) (g hc.2.1)
  ·split
   ·intro h hh;rw[PM]at hh;exact hb h hh
   ·exact hb
 ·exact hb
structure al2 (S:ajT→Prop) (w:aj3):Prop where
 p: ∀ p∈w.aj0,PcI S p
 b: ∀ i,i < 4→alo (kA w.ajX i)
def aiR(k:ajR)(tt un:Int)(tx:aqp):(ya k tt un tx).1.ajS=k.ajS:=by
 unfold ya;split
 ·exact PM _ _ _
 ·rfl
def ai9(k:ajR)(a b:Int):(wK k a b).1.ajS=k.ajS:=by
 unfold wK;split
 ·exact PM _ _ _
 ·rfl
def aa6(k:ajR):(fE k).1.ajS=k.ajS:=by
 unfold fE;split
 ·exact PM _ _ _
 ·rfl
def agZ(k:ajR):(rn k).1.ajS=k.ajS:=by unfold rn;split<;>rfl
def afQ(k:ajR):(kr k).1.ajS=k.ajS:=by unfold kr;split<;>rfl
def alo.of{k k':ajR}(h:alo k)(e:k'.ajS=k.ajS):alo k':=fun x hx=>h x (by rw[← e];exact hx)
def al2.put{S:ajT→Prop}{w:aj3}(h:al2 S w)(hr:akf w){i:Nat}(hi:i < 4){k':ajR}(hb:alo k')(li:List Bool)(se go:List ajT):al2 S ⟨w.ti,w.ajX.set i k',li,w.aj0,se,go⟩:=by
 refine⟨h.p,fun j hj=> ?_⟩;show alo (kA (w.ajX.set i k') j);rw[aan (by rw[hr.kl];exact hi)];split
 ·exact hb
 ·exact h.b j hj
def aiP{l:List ajW}{i:Nat}(h:i < l.length):pA l i∈l:=by
 rw[aib h];exact ark h
def al2.doM{S:ajT→Prop}{w:aj3}(h:al2 S w)(hr:akf w)(hS: ∀ i,i < 4→ ∀ n∈(stT (kA w.ajX i)).held,S n)(e:Event):al2 S (doM w e).1:=by
 unfold Go.VS.doM;split
 ·unfold Az;split
  ·rename_i h2;have h2:=ae.1 h2;have hlt:e.wo.toNat < w.aj0.length:=by omega
   have hpc:=h.p _ (aiP hlt);split
   ·split
    ·rename_i h3;simp only[aqt,aro]at h3;refine⟨fun p hp=> ?_,h.b⟩;rcases asE hp with h4 | h4
     ·exact h.p p h4
     ·rw[h4];exact hpc.an0 h3.1 h3.2.1 h3.2.2
    ·exact h
   ·split
    ·exact⟨fun p hp=>h.p p (Yl hp),h.b⟩
    ·split
     ·have hra: ∀ p∈(if e.kp=0 then Jf w.aj0 e.wo.toNat else w.aj0),PcI S p:=by
       intro p hp;split at hp
       ·exact h.p p (Yl hp)
       ·exact h.p p hp
      unfold MY;split
      ·rename_i hc;simp only[aqt,decide_eq_true_eq]at hc;obtain⟨f,hu,hfo,_,hd,hg,_⟩:=hpc.frame hc.1;rw[hu];have hrg:=CX (CW hr hlt);have hi:(pA w.aj0 e.wo.toNat).dst.toNat < 4:=by omega
       have hb:alo (dP (kA w.ajX (pA w.aj0 e.wo.toNat).dst.toNat) f).1:=afz (hr.k _ hi).1 (h.b _ hi) (fun _=>hg);refine⟨fun p hp=> ?_,(h.put hr hi hb w.akd w.akS w.got).b⟩;rcases XO hp with h4 | ⟨g,hg',rfl⟩
       ·exact hra p h4
       ·exact PcI.send fun _=>ah1 S hg'
      ·exact⟨hra,h.b⟩
     ·exact h
  ·exact h
 ·split
  ·unfold QX;split
   ·exact⟨h.p,h.b⟩
   ·exact h
  ·split
   ·rename_i h3;have hi:=Rx h3;have hb:=h.b _ hi;unfold AH;split
    ·unfold acT;split
     ·exact h
     ·split
      ·exact h
      ·exact h.put hr hi (hb.of (aiR _ _ _ _)) _ _ _
    ·split
     ·exact h.put hr hi (hb.of (aa6 _)) _ _ _
     ·split
      ·split
       ·rename_i hm;refine⟨fun p hp=> ?_,h.b⟩;rcases XO hp with h4 | ⟨g,hg',rfl⟩
        ·exact h.p p h4
        ·rw[aq4.1 hg'];exact PcI.send fun _=>ahb (hr.k _ hi).1 (hS _ hi) hm
       ·exact h
      ·split
       ·exact h.put hr hi (fun x hx=>by cases hx) _ _ _
       ·split
        ·exact h.put hr hi (k':=riM (kA w.ajX e.at_.toNat)) (hb.of rfl) _ _ _
        ·split
         ·unfold adE;split
          ·exact h.put hr hi (hb.of (ai9 _ _ _)) _ _ _
          ·exact h
         ·split
          ·exact h.put hr hi (hb.of (agZ _)) _ _ _
          ·split
           ·exact h.put hr hi (hb.of (afQ _)) _ _ _
           ·exact h
   ·exact h
def al2.sim{S:ajT→Prop}{w:aj3}(h:al2 S w)(hr:akf w)(hS: ∀ i,i < 4→ ∀ n∈(stT (kA w.ajX i)).held,S n)(e:Event):al2 S (vw w e):=by
 have:=h.doM hr hS e;unfold vw ab6;split
 ·exact⟨this.p,this.b⟩
 ·exact this
def Reach.gen{ev:List Event}{w:aj3}(h:Reach ev w):al2 (fun _=>True) w:=
 h.ind (P:=al2 fun _=>True) ⟨fun p hp=>(by cases hp),fun i hi=>by rw[aeK hi];intro x hx;cases hx⟩ fun _ e hr _ hg _=>hg.sim hr (fun _ _ _ _=>trivial) e
end Go.VS
namespace Go.VS
open Go
def Yz{k:ajR}(h:aj k=true)(f:Frame):dP k f=zE k f:=aqh h
def ad2(n:ajT):L (pU n)=[116,97,107,101]++32::L (wr n):=by unfold pU;simp only[rp,L_B];rfl
def afm{k:ajZ}{r:aqp}(hk:aE k=true):cg k r=(o4 k r).filter aE:=by
 unfold cg ga;rw[aqh hk];cases (o4 k r).filter aE<;>rfl
def ZF{k:ajZ}{n:ajT}(hn:aB n=true):ck k jg (wr n)=if n.fr=k.id then none else Ek k n:=by
 unfold ck gO;by_cases h:n.fr=k.id
 ·simp[vB,vC,yb,vD,tH,uY hn,h]
 ·simp[vB,vC,yb,vD,tH,uY hn,h]
def aal{k:ajZ}{n:ajT}(hk:aE k=true)(hn:aB n=true):cg k (pU n)=(if n.fr=k.id then none else Ek k n).filter aE:=by
 rw[afm hk,rV Vn (ad2 n),B_L];rw[show ck k (B [116,97,107,101]) (wr n)=_ from ZF hn]
def aff{l:List Mark}{f n:Int}{x:Mark}(h:x∈l)(h1:x.mf=f)(h2:x.mn=n):0≤gH l f n:=by
 rcases aaj l f n with h3 | h3
 ·exact absurd ⟨h1,h2⟩ (Yk (by omega) x h)
 ·exact h3
structure aqf (k o:ajZ) (n:ajT):Prop where
 id:o.id=k.id
 ti:o.ti=k.ti
 nx:o.nx=k.nx
 at_:(n.to=k.id∧o.held=k.held∧o.marks=zi k.marks ⟨n.fr,n.nu,n.un⟩∧o.inbox=tJ k.inbox n)∨(n.to≠k.id∧o.held=tJ k.held n∧o.marks=k.marks∧o.inbox=k.inbox)
structure Safe (k:ajR) (st:ajZ):Prop where
 is:akt k st
 fo:k.fo=(k.log.size:Int)
def PJ{k:ajR}{st o:ajZ}{r:aqp}(h:akt k st)(hr:cg st r=some o):Safe (wrR k r true).1 o∧(wrR k r true).2=true:=by
 unfold wrR;rw[h.stT,hr];exact⟨⟨RW (Wf h hr),rfl⟩,rfl⟩
def ad9{k:ajR}{st:ajZ}{r:aqp}{f:Bool}(h:akt k st)(hr:(wrR k r f).2=true): ∃ o,cg st r=some o:=by
 unfold wrR at hr;rw[h.stT]at hr;cases hc:cg st r with
 | none=>rw[hc]at hr;cases hr
 | some o=>exact⟨o,rfl⟩
end Go.VS
namespace Go.VS
open Go
structure aoD (a b:ajT):Prop where
 fr:a.fr=b.fr
 nu:a.nu=b.nu
 to':a.to=b.to
 un:a.un=b.un
 ok:aB a=aB b
structure ap6 (l m:List ajT):Prop where
 len:l.length=m.length
 nA: ∀ i,aoD (nA l i) (nA m i)
def aez{x y:ajR}(h1:x.id=y.id)(h2:x.log=y.log):stT x=stT y:=by
 unfold stT;rw[h1,h2]
def ahs{l:List ajY}(nd:(l.map LY).Nodup){i:Nat}(hi:i < l.length){a b:Int}(h1:(hA l i).fr=a)(h2:(hA l i).nu=b):rK l a b=(i:Int):=by
 rcases oL l a b with h | ⟨j,h3,h4,h5,h6⟩
 ·exfalso;rcases bF l.length (fun i=>decide ((hA l i).fr=a)&&decide ((hA l i).nu=b)) with⟨_,g⟩ | ⟨c,g,_⟩
  ·have:=g i hi;rw[h1,h2]at this;simp at this
  ·have:rK l a b=(c:Int):=g;omega
 ·rw[h3];have key: ∀ (p q:Nat) (hp:p < l.length) (hq:q < l.length),LY l[p]=LY l[q]→p=q:=by
   intro p q hp hq e;rcases asf p q with h | h | h
   ·exact absurd e (l4.1 nd q p hq hp h)
   ·exact h
   ·exact absurd e.symm (l4.1 nd p q hp hq h)
  rw[vU hi]at h1 h2;rw[vU h4]at h5 h6;rw[key j i h4 hi (by unfold LY;rw[h1,h2,h5,h6])]
def agW{l:List ajY}(nd:(l.map LY).Nodup){i:Nat}(hi:i < l.length){f:Frame}(h1:(hA l i).fr=f.fr)(h2:(hA l i).nu=f.nu):bE l f=(l,i):=by
 unfold bE;rw[ahs nd hi h1 h2,aqg (by omega)];rfl
def aiW(hv:List ajY):Prop:= ∀ h∈hv,5≤h.sz∨ ∃ n,h.got=[⟨n,B [97,98,99,100]⟩]
def afy{x:ajR}(ok:aj x=true){f:Frame}(hu:x.up=true)(hf:kU f=true)(hd:f.dst=x.id)(h1:f.ki=1)(c1: ¬ f.un≤(stT x).ti)(c2: ¬ (0≤aP (stT x).held f.fr f.nu∨0≤gH (stT x).marks f.fr f.nu))(c3: ¬ f.fr=x.id):dP x f=I3 x f:=by
 rw[Yz ok];unfold zE;rw[aqh (by rw[hu,hf,aqi hd];rfl),aqh (aqi h1)];unfold mK;rw[aqg c1,aqg c2,aqg c3]
end Go.VS
namespace Go.VS
open Go
def afx{st:ajZ}(h:aE st=true){n:ajT}(hn:n∈st.held):mw st.id n.fr n.to=true∧st.ti < n.un∧gH st.marks n.fr n.nu < 0:=by
 obtain⟨j,hj,rfl⟩:=arn hn;have:=(bH h).ho j hj;unfold oK at this;simp only[aqt,decide_eq_true_eq]at this;rw[show nA st.held j=st.held[j] by rw[nA,aqE,aqC hj];rfl]at this;exact⟨this.2.2.1,this.2.1,this.2.2.2⟩
def I1{n:ajT}(h:aB n=true):isN n.fr=true∧isN n.to=true∧inB n.nu 1 99=true∧inB n.un 1 999=true∧Tx n.tx=true:=by
 unfold aB at h;simp only[aqt]at h;exact h
def PQ{a f t:Int}(ha:isN a=true)(hf:isN f=true)(ht:isN t=true)(h:mw a f t=true):isN (cM a t)=true∧cM a t≠f∧(cM a t≠t→mw (cM a t) f t=true):=by
 have ra:=l6 ha;have rf:=l6 hf;have rt:=l6 ht;unfold mw at h;simp only[aqt,aro,decide_eq_false_iff_not,aq8,ae]at h;have e:cM a t=if a < t then a+1 else a - 1:=by
  unfold cM;rw[ha,ht,aqj h.1];rfl
 rw[e];refine⟨?_, ?_,fun hne=> ?_⟩
 ·split
  ·exact ae.2 (by omega)
  ·exact ae.2 (by omega)
 ·split<;>omega
 ·unfold mw;simp only[aqt,aro,decide_eq_false_iff_not,aq8,ae];refine⟨hne, ?_⟩;split at hne
  ·left;rw[aqh (by assumption)];omega
  ·right;rw[aqg (by assumption)];omega
def cR(id:Int)(n:ajT)(m:Int):Frame:=⟨1,id,cM id n.to,n.fr,n.nu,n.to,n.un,n.tx.size,m,ta n.tx m⟩
def Vh{id:Int}{n:ajT}{m:Int}(hi:isN id=true)(hn:aB n=true)(hw:mw id n.fr n.to=true)(hm:inB m 0 999=true):kU (cR id n m)=true:=by
 have r:=I1 hn;have hx:=PQ hi r.1 r.2.1 hw;have hf:=Lq (uK hn) hm;unfold kU ym cR;simp only[hi,hx.1,r.1,r.2.1,r.2.2.1,r.2.2.2.1,aqn,aqm,uK hn,hm,aqB];rw[auf];exact aqi hf.2
def aj9(tx:aqp)(i:Nat):List ajV:=(aqW i).map fun j:Nat=>⟨(j:Int),ta tx (j:Int)⟩
def HC{tx:aqp}{i:Nat}{m:ajV}(h:m∈aj9 tx i): ∃ j:Nat,j < i∧m=⟨(j:Int),ta tx (j:Int)⟩:=by
 obtain⟨j,hj,rfl⟩:=arv.1 h;exact⟨j,arl.1 hj,rfl⟩
def YJ(tx:aqp){i:Nat}(hi:i < 14):ic (aj9 tx i) (i:Int) (ta tx (i:Int))=aj9 tx (i+1):=by
 have h:(aj9 tx i).filter (iQ (i:Int))=aj9 tx i:=List.filter_eq_self.2 fun m hm=>by
  obtain⟨j,hj,rfl⟩:=HC hm;unfold iQ;simp;omega
 unfold ic;rw[h,aqg (by simp[aj9];omega)];unfold aj9;rw[asz,arG];rfl
def ady(tx:aqp)(i:Nat):aiV tx (aj9 tx i):=fun m hm _=>by
 obtain⟨j,_,rfl⟩:=HC hm;rfl
def YI{tx:aqp}(h:inB tx.size 1 24=true){i:Nat}(hi:i < (tx.size+3) / 4):(jE tx.size (aj9 tx i)).2=false:=by
 refine Zx (u:=i) (by rw[aqJ];exact hi) fun m hm=> ?_;obtain⟨j,hj,rfl⟩:=HC hm;rw[aqJ,Nl (M1 h) (by omega)];intro h;have:=aq4.1 h;omega
def aaB{tx:aqp}(h:inB tx.size 1 24=true):jE tx.size (aj9 tx ((tx.size+3) / 4))=(tx,true):=by
 have h':=ae.1 h;refine PV h (ady tx _) fun k hk=>⟨⟨(k:Int),ta tx (k:Int)⟩,arv.2 ⟨k,arl.2 hk,rfl⟩,Lq h (ae.2 (by omega)), ?_⟩;exact Nl (M1 h) hk
structure amW (x:ajR) (d t:Int) (hv:List ajY):Prop where
 ok:aj x=true
 up:x.up=true
 id:x.id=d
 st:stT x=⟨d,t,1,[],[],[]⟩
 hv:x.ajS=hv
def adV{d t:Int}{n:ajT}(hd:isN d=true)(ht:inB t 0 1=true)(hn:aB n=true)(hfr:n.fr≠d)(hun:t < n.un)(hw:n.to≠d→mw d n.fr n.to=true)(hk:aE ⟨d,t,1,[],[],[]⟩=true):
  ∃ o,cg ⟨d,t,1,[],[],[]⟩ (pU n)=some o∧o.ti=t∧(n∈o.held∨n∈o.inbox):=by
 have r:=I1 hn;rw[aal hk hn,aqg hfr];unfold Ek;simp only[hn,aqu,aqr,aqj (show ¬ n.un≤t by omega)];rw[aqg (by rw[aqj (by show ¬ (0:Int)≤ -1;decide)];exact aq3),aqg (by rw[aqj (by show ¬ (0:Int)≤ -1;decide)];exact aq3),aqg (by rw[aqj (by show ¬ (0:Int)≤ -1;decide)];exact aq3),aqg (by simp)];have ht':=ae.1 ht;have htt:inB t 0 999=true:=ae.2 (by omega);have aoW:tJ [] n=[n]:=rfl;have hmm:zi [] ⟨n.fr,n.nu,n.un⟩=[⟨n.fr,n.nu,n.un⟩]:=rfl;have hno:dA [n]=true:=by
  show(aB n&&(decide (0=0)||_))&&true=true;rw[hn];rfl
 by_cases e:n.to=d
 ·rw[aqh (aqi e),aoW,hmm];refine⟨_,asr.2 ⟨rfl, ?_⟩,rfl,.inr (arX n)⟩;have h1:ir [⟨n.fr,n.nu,n.un⟩]=true:=by
   show((isN n.fr&&(inB n.nu 1 99&&inB n.un 1 999))&&(decide (0=0)||_))&&true=true;rw[r.1,r.2.2.1,r.2.2.2.1];rfl
  have h2:db 1 (jL d t 1 [⟨n.fr,n.nu,n.un⟩])=true:=by
   show(decide (t < n.un)&& !(decide (n.fr=d)&&_))&&true=true;rw[aqi hun,aqj hfr];rfl
  have h3:db 1 (nM d t 1 [⟨n.fr,n.nu,n.un⟩] [n])=true:=by
   show(decide (n.to=d)&&(!(decide (n.fr=d)&&_)&&(!decide (t < n.un)||decide (0≤gH [⟨n.fr,n.nu,n.un⟩] n.fr n.nu))))&&true=true;rw[aqi e,aqj hfr,aqi (aff (arX _) rfl rfl)];simp
  unfold aE;simp only[hd,htt,arN,hno,h1,h2,h3];rfl
 ·rw[aqg (by simpa using e),aoW];refine⟨_,asr.2 ⟨rfl, ?_⟩,rfl,.inl (arX n)⟩;have h2:db 1 (oK d t 1 [n] [])=true:=by
   show(!(decide (n.fr=d)&&_)&&(decide (t < n.un)&&(mw d n.fr n.to&&decide ((-1:Int) < 0))))&&true=true;rw[aqj hfr,aqi hun,hw e];rfl
  unfold aE;simp only[hd,htt,arN,hno,h2];rfl
def adq(n:ajT)(i:Nat):List ajY:=if i=0 then [] else [⟨n.fr,n.nu,n.to,n.un,n.tx.size,aj9 n.tx i⟩]
def afF(n:ajT)(id:Int)(i:Nat):bE (adq n i) (cR id n (i:Int))=([⟨n.fr,n.nu,n.to,n.un,n.tx.size,aj9 n.tx i⟩],0):=by
 unfold adq;split
 ·rename_i h;subst h;rfl
 ·refine agW (l:=[⟨n.fr,n.nu,n.to,n.un,n.tx.size,aj9 n.tx i⟩]) ?_ (Nat.zero_lt_one) rfl rfl;simp
def adX{x:ajR}{id t:Int}{n:ajT}{i:Nat}(hi:isN id=true)(hn:aB n=true)(hw:mw id n.fr n.to=true)(hb:amW x (cM id n.to) t (adq n i))(ht:inB t 0 1=true)(hun:t < n.un)(hib:i < (n.tx.size+3) / 4):
  (i+1 < (n.tx.size+3) / 4→amW (dP x (cR id n (i:Int))).1 (cM id n.to) t (adq n (i+1)))∧
  (i+1=(n.tx.size+3) / 4→(dP x (cR id n (i:Int))).2=[Tp 2 (cR id n (i:Int))]∧ ∃ o,Safe (dP x (cR id n (i:Int))).1 o∧o.ti=t∧(n∈o.held∨n∈o.inbox)):=by
 have r:=I1 hn;have htx:=uK hn;have apw:=ae.1 htx;have hx:=PQ hi r.1 r.2.1 hw;have hm:inB (i:Int) 0 999=true:=ae.2 (by omega);have hf:=Vh hi hn hw hm;have h0: ¬ (0≤aP (stT x).held n.fr n.nu∨0≤gH (stT x).marks n.fr n.nu):=by
  rw[hb.st];show ¬ ((0:Int)≤ -1∨(0:Int)≤ -1);omega
 have hM:dP x (cR id n (i:Int))=I3 x (cR id n (i:Int)):=
  afy hb.ok hb.up hf hb.id.symm rfl (by rw[hb.st];exact Int.not_le.2 hun) h0 (by rw[hb.id];exact atu hx.2.1)
 have hg:ic (aj9 n.tx i) (cR id n (i:Int)).mix (cR id n (i:Int)).da=aj9 n.tx (i+1):=YJ n.tx (by omega);have hA:hA ([⟨n.fr,n.nu,n.to,n.un,n.tx.size,aj9 n.tx i⟩]:List ajY) 0=⟨n.fr,n.nu,n.to,n.un,n.tx.size,aj9 n.tx i⟩:=rfl;have hs:II ⟨n.fr,n.nu,n.to,n.un,n.tx.size,aj9 n.tx i⟩ (cR id n (i:Int))=true:=by
  unfold II cR;simp
 have anA:nk [⟨n.fr,n.nu,n.to,n.un,n.tx.size,aj9 n.tx i⟩] 0 (cR id n (i:Int))=[⟨n.fr,n.nu,n.to,n.un,n.tx.size,aj9 n.tx (i+1)⟩]:=by
  unfold nk;rw[hA,hg];rfl
 have amL:I3 x (cR id n (i:Int))=if(jE n.tx.size (aj9 n.tx (i+1))).2 then tv (Bb x (uR [⟨n.fr,n.nu,n.to,n.un,n.tx.size,aj9 n.tx (i+1)⟩] 0)) ⟨n.fr,n.nu,n.to,n.un,(jE n.tx.size (aj9 n.tx (i+1))).1⟩ (cR id n (i:Int)) else(Bb x [⟨n.fr,n.nu,n.to,n.un,n.tx.size,aj9 n.tx (i+1)⟩],[]):=by
  unfold I3;rw[hb.hv,afF];simp only[hA,hs,aqm,hg,anA];rfl
 refine⟨fun h1=> ?_,fun h1=> ?_⟩
 ·have hok:=YA hb.ok (cR id n (i:Int));rw[hM,amL,YI htx h1,aqr]at hok ⊢;exact⟨hok,hb.up,hb.id,by rw[← hb.st];exact aez rfl rfl,by unfold adq;rw[aqg (by omega)]⟩
 ·have hok:=hb.ok;have hdr:uR [⟨n.fr,n.nu,n.to,n.un,n.tx.size,aj9 n.tx (i+1)⟩] 0=[]:=rfl;rw[hM,amL,h1,aaB htx,aqh rfl,← h1,hdr];have hnn:(⟨n.fr,n.nu,n.to,n.un,n.tx⟩:ajT)=n:=rfl;simp only[hnn];have hkx:=mM hb.ok;have hkp:akt (Bb x []) ⟨cM id n.to,t,1,[],[],[]⟩:=by
   have:=Po hkx hb.up (hv:=[]) (by simp) ⟨fun h hh=>(by cases hh),by simp⟩;rw[hb.st]at this;exact this
  obtain⟨o,ho,h2,h3⟩:=adV hx.1 ht hn (atu hx.2.1) hun (fun e=>hx.2.2 (atu e)) hkp.kok;have ane:=PJ hkp ho;unfold tv;rw[hn,ane.2,aqh (show(true&&true)=true from rfl)];exact⟨rfl,o,ane.1,h2,h3⟩
def adW{x:ajR}{id t:Int}{n:ajT}{i:Nat}{hv:List ajY}(hi:isN id=true)(hn:aB n=true)(hw:mw id n.fr n.to=true)(hb:amW x (cM id n.to) t hv)(hun:n.un≤t)(hib:i < (n.tx.size+3) / 4):
  dP x (cR id n (i:Int))=(x,[Tp 3 (cR id n (i:Int))]):=by
 have apw:=ae.1 (uK hn);have hm:inB (i:Int) 0 999=true:=ae.2 (by omega);have hf:=Vh hi hn hw hm;rw[Yz hb.ok];unfold zE;rw[aqh (by rw[hb.up,hf,aqi (show(cR id n (i:Int)).dst=x.id from hb.id.symm)];rfl),aqh (show decide ((cR id n (i:Int)).ki=1)=true from rfl)];unfold mK;rw[aqh (by rw[hb.st];exact hun)]
def Tl{d:Int}(h:isN d=true):amW (kp0 d) d 0 []:=by
 refine⟨WN h,rfl,rfl, ?_,rfl⟩;have:bR (kp0 d).id (kp0 d).log=some ⟨d,0,1,[],[],[]⟩:=by
  unfold bR ct;rw[show isN (kp0 d).id=true from h,aqh rfl];rfl
 unfold stT;rw[this];rfl
def M3{d:Int}(h:isN d=true):amW (fE (kp0 d)).1 d 1 []:=by
 have hb:=Tl h;have hk:=mM hb.ok;have hok:=Xz hb.ok;have hs:cg (stT (kp0 d)) (eB ((stT (kp0 d)).ti+1))=some ⟨d,1,1,[],[],[]⟩:=by
  have hkk:=hk.kok;rw[hb.st]at hkk ⊢;refine(jX hkk).2 ?_;rw[rV Li (ES _)];have c:=GM (k:=⟨d,0,1,[],[],[]⟩) (t:=0+1) (by decide) (by decide) (show(0:Int) < 0+1 by decide);rw[show B [116,105,109,101]=jf from rfl,c];refine⟨rfl, ?_⟩;unfold aE;simp only[h];rfl
 have hup:(fE (kp0 d)).1.up=true:=aa5 _;have hst:akt (fE (kp0 d)).1 ⟨d,1,1,[],[],[]⟩:=by
  unfold fE;rw[aqh (show(kp0 d).up=true from rfl)];exact(PJ hk hs).1.is
 exact⟨hok,hup,XA _,hst.stT,aa6 _⟩
end Go.VS
namespace Go.VS
open Go
variable {E:List Event}
def Tot{α:Type}(o:Option α)(P:α→Prop):Prop:= ∃ a,o=some a∧P a
def Rn{α β:Type}(A:α→Prop)(B:β→Prop):α ⊕ β→Prop
 | .inl a=>A a
 | .inr b=>B b
def Tot.ret{α:Type}{a:α}{P:α→Prop}(h:P a):Tot (some a) P:=⟨a,rfl,h⟩
def Tot.eq{α:Type}{o:Option α}{a:α}(h:o=some a):Tot o (fun x=>x=a):=⟨a,h,rfl⟩
def Tot.mono{α:Type}{o:Option α}{P Q:α→Prop}(h:Tot o P)(hq: ∀ a,P a→Q a):Tot o Q:=by
 obtain⟨a,e,p⟩:=h;exact⟨a,e,hq a p⟩
def Tot.bind{α β:Type}{o:Option α}{f:α→Option β}{P:α→Prop}{Q:β→Prop}(h:Tot o P)(hf: ∀ a,P a→Tot (f a) Q):Tot (o.bind f) Q:=by
 obtain⟨a,rfl,p⟩:=h;exact hf a p
def Tot.ite{α:Type}{c:Bool}{a b:Option α}{P:α→Prop}(ha:c=true→Tot a P)(hb:c=false→Tot b P):Tot (if c=true then a else b) P:=by
 cases c
 ·rw[aqr];exact hb rfl
 ·rw[aqh rfl];exact ha rfl
def Tot.pos{α:Type}{c:Bool}{a b:Option α}{P:α→Prop}(hc:c=true)(ha:Tot a P):Tot (if c=true then a else b) P:=by
 rw[aqh hc];exact ha
def Tot.neg{α:Type}{c:Bool}{a b:Option α}{P:α→Prop}(hc:c=false)(hb:Tot b P):Tot (if c=true then a else b) P:=by
 rw[hc,aqr];exact hb
def Tot.join{Ω X:Type}{f:X→Option Ω}{m:Option (Ω ⊕ X)}{A:X→Prop}{Q:Ω→Prop}(h:Tot m (Rn Q A))(hf: ∀ x,A x→Tot (f x) Q):Tot (bB f m) Q:=by
 obtain⟨r,rfl,p⟩:=h;cases r with
 | inl o=>exact⟨o,rfl,p⟩
 | inr x=>exact hf x p
def Tot.sum{A D Ω:Type}{m:Option (A ⊕ D)}{f:A→Option Ω}{g:D→Option Ω}{P:A→Prop}{Q:D→Prop}{R:Ω→Prop}(h:Tot m (Rn P Q))
  (hf: ∀ a,P a→Tot (f a) R)(hg: ∀ d,Q d→Tot (g d) R):Tot (aJ m f g) R:=by
 obtain⟨r,rfl,p⟩:=h;cases r with
 | inl o=>exact hf o p
 | inr x=>exact hg x p
def Tot.loop{σ ρ:Type}{b:σ→Option (σ ⊕ ρ)}(Inv:Nat→σ→Prop)(ams:ρ→Prop)(n:Nat)
  (h: ∀ i s,i≤n→Inv i s→Tot (b s) (Rn (fun s'=>i < n∧Inv (i+1) s') ams)){s0:σ}(h0:Inv 0 s0):Tot (aR b s0) ams:=by
 refine ahj Inv ams n (fun i s hi hs=> ?_) (fun s hs=> ?_) h0
 ·obtain⟨r,e,p⟩:=h i s (by omega) hs;cases r with
  | inl s'=>exact .inl ⟨s',e,p.2⟩
  | inr y=>exact .inr ⟨y,e,p⟩
 ·obtain⟨r,e,p⟩:=h n s (aqG _) hs;cases r with
  | inl s'=>exact absurd p.1 (auX _)
  | inr y=>exact⟨y,e,p⟩
structure akk (N:Nat) (r:List Int×Int×aqq):Prop where
 l:r.1.length≤2000
 b:BOk r.1
 p0:0≤r.2.1
 p1:r.2.1≤(N:Int)
def akk.up{N M:Nat}{r:List Int×Int×aqq}(h:akk N r)(hM:N≤M):akk M r:=⟨h.l,h.b,h.p0,by have:=h.p1;omega⟩
def ahi{a b:Int}(ha:0≤a)(ha':a < 9223372036854775808)(hb:0≤b)(hb':b < 9223372036854775808):0≤te .i64 a b:=by
 obtain⟨m,rfl⟩:=arz ha;obtain⟨n,rfl⟩:=arz hb;have hm:m < 2 ^ 63:=by omega
 have hn:n < 2 ^ 63:=by omega
 have hx:=Nat.xor_lt_two_pow hm hn;have e:(arR 64 (m:Int) ^^^ arR 64 (n:Int)).toNat=m ^^^ n:=by
  rw[BitVec.toNat_xor,ate,ate];congr 1<;>omega
 show 0≤w64 (((arR 64 (m:Int) ^^^ arR 64 (n:Int)).toNat:Int));rw[e,ah (by omega) (by omega)];omega
def aA{N:Nat}{x:(List Int×Int×aqq)×Int×aqq}(h:akk N x.1)(hN:N≤1000000):
  Tot (ab x) fun a=>akk (N+1) a.2.1∧0≤a.1.1∧(1≤x.2.1→a.1.1 < x.2.1):=by
 obtain⟨⟨l,p,_⟩,n,_⟩:=x;obtain⟨hl,hb,p0,p1⟩:=h;simp only at hl hb p0 p1;have e1:w64 (p+1)=p+1:=ah (by omega) (by omega);have e2:w64 (p+1 - 1)=p:=by rw[ah (by omega) (by omega)];omega
 have hq:akk (N+1) (l,p+1,()):=⟨hl,hb,by show 0≤p+1;omega,by show p+1≤((N+1:Nat):Int);omega⟩;unfold ab;simp only[e1,e2];refine Tot.ite (fun hc=> ?_) (fun hc=> ?_)
 ·refine Tot.ret ⟨hq,as2 _,fun h=>by show(0:Int) < n;omega⟩
 ·simp only[as0,decide_eq_false_iff_not]at hc;have hn:1≤n:=by omega
  have hln:0 < l.length:=by omega
  have hl0: ¬ ((l.length:Int)=0):=hc.2;have hn0:(!decide (n=0))=true:=by simp;omega
  have aop:(!decide ((l.length:Int)=0))=true:=by simpa using hl0
  refine Tot.ite (fun hc1=> ?_) (fun hc1=> ?_)
  ·have hc1:=aqk hc1;refine Tot.pos (fP p0 hc1) (Tot.pos hn0 (Tot.ret ⟨hq, ?_,fun _=> ?_⟩))
   ·have:=hb.rd p;exact atg _ (by rw[ah (by omega) (by omega)];exact this.1)
   ·exact asU _ (by omega)
  ·have hp:0≤arh p l.length∧arh p l.length < l.length:=⟨atg _ p0,asU _ (by omega)⟩;have e3:w64 (w64 (p * 7)+3)=p * 7+3:=by rw[ah (n:=p * 7) (by omega) (by omega),ah (by omega) (by omega)]
   have hp2:0≤arh (p * 7+3) l.length∧arh (p * 7+3) l.length < l.length:=⟨atg _ (by omega),asU _ (by omega)⟩;simp only[e3];refine Tot.pos aop (Tot.pos (fP hp.1 hp.2) (Tot.pos aop (Tot.pos (fP hp2.1 hp2.2) (Tot.pos aop (Tot.pos hn0 (Tot.ret ⟨hq, ?_,fun _=> ?_⟩))))))
   ·have b1:=hb.rd (arh p l.length);have b2:=hb.rd (arh (p * 7+3) l.length);have hd:0≤aqU p l.length∧aqU p l.length≤p:=⟨auv p0 (by omega),Int.tdiv_le_self _ p0⟩;generalize @rd Int (dfl .u8) l (arh p l.length)=u1 at b1 ⊢;generalize @rd Int (dfl .u8) l (arh (p * 7+3) l.length)=u2 at b2 ⊢;generalize aqU p l.length=d at hd ⊢;have w1:w64 u1=u1:=ah (by omega) (by omega);have w2:w64 u2=u2:=ah (by omega) (by omega);have w3:w64 (u1 * 131)=u1 * 131:=ah (by omega) (by omega);have w4:w64 (u2 * 1117)=u2 * 1117:=ah (by omega) (by omega);have w5:w64 (p * 29)=p * 29:=ah (by omega) (by omega);have w6:w64 d=d:=ah (by omega) (by omega);have w7:w64 (d * 53)=d * 53:=ah (by omega) (by omega);simp only[w1,w2,w3,w4,w5,w6,w7];have w8:w64 (u1 * 131+u2 * 1117)=u1 * 131+u2 * 1117:=ah (by omega) (by omega);rw[w8];have w9:w64 (u1 * 131+u2 * 1117+p * 29)=u1 * 131+u2 * 1117+p * 29:=ah (by omega) (by omega);rw[w9];have w10:w64 (u1 * 131+u2 * 1117+p * 29+d * 53)=u1 * 131+u2 * 1117+p * 29+d * 53:=ah (by omega) (by omega);rw[w10];have hv:0≤u1 * 131+u2 * 1117+p * 29+d * 53∧u1 * 131+u2 * 1117+p * 29+d * 53≤1000000000:=by omega
    generalize u1 * 131+u2 * 1117+p * 29+d * 53=v at hv ⊢;have hdv:0≤aqU v 64∧aqU v 64≤v:=⟨auv hv.1 (by omega),Int.tdiv_le_self _ hv.1⟩;have w11:w64 (aqU v 64)=aqU v 64:=ah (by omega) (by omega);rw[w11];exact atg _ (ahi hv.1 (by omega) hdv.1 (by omega))
   ·exact asU _ (by omega)
def ZW(l:List aqp){i:Int}(h0:0≤i)(h1:i < l.length): @rd aqp (dfl .str) l i∈l:=by
 unfold rd;rw[aqE,aqC (by omega:i.toNat < l.length)];exact ark _
def X8{N:Nat}{r:List Int×Int×aqq}{l:List aqp}(h:akk N r)(hN:N≤1000000)(hl:1≤l.length):
  Tot (cm (r,l,())) fun a=>akk (N+1) a.2.1∧a.1.1∈l:=by
 unfold cm;refine Tot.bind (aA h hN) fun a ha=> ?_;have h1:=ha.2.2 (by show(1:Int)≤(l.length:Int);omega);exact Tot.pos (fP ha.2.1 h1) (Tot.ret ⟨ha.1,ZW l ha.2.1 h1⟩)
def WOk(E:List Event)(N:Nat)(t:Int×List ajR×List Bool×List ajW×List ajT×List ajT×List Event×aqq):Prop:= ∃ w ev,t=tS w ev∧Reach (E++ev) w∧ev.length≤N
structure SOk (E:List Event) (N:Nat) (s:(List Int×Int×aqq)×Int×List ajR×List Bool×List ajW×List ajT×List ajT×List Event×aqq):Prop where
 r:akk N s.1
 w:WOk E N s.2
def WOk.up{N M:Nat}{t:_}(h:WOk E N t)(hM:N≤M):WOk E M t:=by
 obtain⟨w,ev,e,h1,h2⟩:=h;exact⟨w,ev,e,h1,by omega⟩
def SOk.up{N M:Nat}{s:_}(h:SOk E N s)(hM:N≤M):SOk E M s:=⟨h.r.up hM,h.w.up hM⟩
def SOk.rd{N M:Nat}{s:_}(h:SOk E N s){r:List Int×Int×aqq}(hr:akk M r)(hM:N≤M):SOk E M (r,s.2):=⟨hr,h.w.up hM⟩
abbrev zTx(y:Int×Int×Int×Int×Int×Int×Int×Int×Int×aqp×aqq):aqp:=y.2.2.2.2.2.2.2.2.2.1
def Fj{N:Nat}{s:_}{y:Int×Int×Int×Int×Int×Int×Int×Int×Int×aqp×aqq}(h:SOk E N s)(hN:N≤1000000)(hy:(zTx y).size≤1048576):
  Tot (ao (s,y,())) fun a=>SOk E (N+1) a.2.1:=by
 obtain⟨hr,w,ev,e,hw,hev⟩:=h;obtain⟨r,t⟩:=s;obtain⟨a,b,c,d,f,g,i,j,k,tx,_⟩:=y;simp only at e hr;subst e;have:=acv hw.ok (r:=r) (ev:=ev) (by omega) (e:=⟨a,b,c,d,f,g,i,j,k,tx⟩) hy;refine⟨_,this,hr.up (by omega),⟨_,C1 ev ⟨a,b,c,d,f,g,i,j,k,tx⟩ (doM w ⟨a,b,c,d,f,g,i,j,k,tx⟩).2,rfl, ?_, ?_⟩⟩
 ·have:=hw.step (e:=⟨a,b,c,d,f,g,i,j,k,tx⟩) hy;unfold C1 at this ⊢;split
  ·rename_i hc;rw[aqh hc,aqP]at this;exact this
  ·rename_i hc;rw[aqg hc]at this;exact this
 unfold C1;split
 ·simp;omega
 ·omega
def WOk.has{N:Nat}{t:_}(h:WOk E N t){i:Int}(h0:0≤i)(h1:i < 4):aj (kA t.2.1 i.toNat)=true∧(kA t.2.1 i.toNat).id=i∧inb i t.2.1.length=true:=by
 obtain⟨w,ev,rfl,hw,_⟩:=h;have:=hw.ok.k i.toNat (by omega);refine⟨this.1, ?_,fP h0 (by show i < (w.ajX.length:Int);rw[hw.ok.kl];exact h1)⟩;rw[this.2];omega
def WOk.big{N:Nat}{t:_}(h:WOk E N t){i:Int}(h0:0≤i)(h1:i < 4):alo (kA t.2.1 i.toNat):=by
 obtain⟨w,ev,rfl,hw,_⟩:=h;exact hw.gen.b i.toNat (by omega)
def afB{l:List ajR}{i:Int}(h:aj (kA l i.toNat)=true):
  Tot (bd (((@rd ajR (dfl .ajU) l i).id,(@rd ajR (dfl .ajU) l i).up,(@rd ajR (dfl .ajU) l i).log,(@rd ajR (dfl .ajU) l i).fo,(@rd ajR (dfl .ajU) l i).ajS,()),()))
   fun a=>a=((tK (stT (kA l i.toNat)),true,()),()):=Tot.eq (la h)
end Go.VS
namespace Go.VS
open Go
variable {E:List Event}
def Lm{l:List aqp}{s:aqp}(h:s∈l)(hl:(l.all fun x=>decide (x.size≤1000))=true):s.size≤1000:=by
 have:=arp.1 hl s h;exact aqk this
def aic{N:Nat}{s:_}(h:SOk E N s)(hN:N≤900000):Tot (gr (s,())) fun a=>SOk E (N+10) a.2.1:=by
 unfold gr;refine Tot.bind (aA h.r (by omega)) fun r1 h1=>Tot.bind (X8 h1.1 (by omega) (by decide)) fun r2 h2=>Tot.join (A:=fun j=>SOk E (N+2) j.1∧0≤j.2.1∧j.2.1 < 4∧j.2.2.1.size≤1000) ?_ (fun j hj=> ?_)
 ·have hz:=Lm h2.2 (by decide);have hat:r1.1.1 < 4:=h1.2.2 (show(1:Int)≤4 by decide);refine Tot.ite (fun hc=>Tot.pos ?_ (Tot.ret ⟨h.rd h2.1 (by omega),h1.2.1,hat, ?_⟩)) (fun hc=>Tot.ret ⟨h.rd h2.1 (by omega),h1.2.1,hat,hz⟩)
  ·have:=aqk hc;simp;omega
  ·show(r2.1.1.extract 0 24).size≤1000;rw[asS];omega
 ·obtain⟨hs,a0,a1,hz⟩:=hj;have hk:=hs.w.has a0 a1;refine Tot.pos hk.2.2 (Tot.bind (afB hk.1) fun r6 h6=>Tot.bind (aA hs.r (by omega)) fun r7 h7=>Tot.bind (aA h7.1 (by omega)) fun r8 h8=>
   Tot.bind (Fj (hs.rd h8.1 (by omega)) (by omega) ?_) fun r9 h9=>Tot.ret (h9.up (by omega)))
  show j.2.2.1.size≤1048576;omega
def ajL{a:Int}(h0:0≤a)(h1:a < 4):0≤arh (w64 (a+1)) 4∧arh (w64 (a+1)) 4 < 4:=by
 rw[ah (by omega) (by omega)];exact⟨atg _ (by omega),asU _ (by omega)⟩
def aeG{N:Nat}{s:_}(h:SOk E N s)(hN:N≤900000):Tot (fG (s,())) fun a=>SOk E (N+2) a.2.1∧a.2.1.2=s.2∧(a.1.2.2.1=true→0≤a.1.1∧a.1.1 < 4∧isN (cM a.1.1 a.1.2.1.2.2.1)=true):=by
 unfold fG;refine Tot.bind (aA h.r (by omega)) fun r1 h1=>Tot.sum (P:=fun y=>SOk E (N+2) y.1∧y.1.2=s.2∧(0≤y.2.1∧y.2.1 < 4∧isN (cM y.2.1 y.2.2.1.2.2.1)=true)) (Q:=fun y=>SOk E (N+2) y.1∧y.1.2=s.2) ?_ (fun y hy=>Tot.ret ⟨hy.1,hy.2.1,fun _=>hy.2.2⟩) (fun y hy=>Tot.ret ⟨hy.1,hy.2,fun h=>by cases h⟩);refine Tot.loop (fun i x=>SOk E (N+1) x.1∧x.1.2=s.2∧0≤x.2.2.1∧x.2.2.1 < 4∧x.2.2.2.1=(i:Int)) _ 4 (fun i x hi hx=> ?_) ⟨h.rd h1.1 (by omega),rfl,h1.2.1,h1.2.2 (show(1:Int)≤4 by decide),rfl⟩;obtain⟨hs,hw,a0,a1,hx⟩:=hx;have hk:=hs.w.has a0 a1;unfold mz;refine Tot.ite (fun hc=> ?_) (fun hc=>Tot.ret ⟨hs.up (by omega),hw⟩);have hc:=aqk hc;refine Tot.pos hk.2.2 (Tot.bind (afB hk.1) fun r6 h6=> ?_);subst h6;refine Tot.ite (fun hl=> ?_) (fun hl=> ?_)
 ·have hl:(0:Int) < ((stT (kA x.1.2.2.1 x.2.2.1.toNat)).held.length:Int):=aqk hl;refine Tot.bind (aA hs.r (by omega)) fun r7 h7=> ?_;have hlt:=h7.2.2 hl;refine Tot.pos (fP h7.2.1 hlt) (Tot.ret ⟨hs.rd h7.1 (by omega),hw,a0,a1, ?_⟩);have hkk:=mM hk.1;have hid:=hkk.id;have h9:r7.1.1.toNat < (stT (kA x.1.2.2.1 x.2.2.1.toNat)).held.length:=by
   have:r7.1.1 < ((stT (kA x.1.2.2.1 x.2.2.1.toNat)).held.length:Int):=hlt;have:=h7.2.1;omega
  have:=VI hkk.kok (n:=nA (stT (kA x.1.2.2.1 x.2.2.1.toNat)).held r7.1.1.toNat) (by rw[nA,aqE,aqC h9];exact ark h9);rw[hid,hk.2.1]at this;exact this
 ·have hm:=ajL a0 a1;refine Tot.ret ⟨?_,hs,hw,hm.1,hm.2, ?_⟩
  ·omega
  ·show w64 (x.2.2.2.1+1)=_;rw[hx,ah (by omega) (by omega)];rfl
def KS{N:Nat}{s:_}(h:SOk E N s){akz odd:Int}(hm:akz≤64)(hN:N≤900000):Tot (cf (s,akz,odd,())) fun a=>SOk E (N+1000) a.2.1:=by
 unfold cf;refine Tot.sum (P:=fun _=>False) (Q:=fun y=>SOk E (N+1000) y.1) ?_ (fun _ h=>h.elim) (fun y hy=>Tot.ret hy);refine Tot.loop (fun i x=>SOk E (N+12 * i) x.1∧x.2.1=akz∧x.2.2.2.1=(i:Int)) _ akz.toNat (fun i x hi hx=> ?_) ⟨h,rfl,rfl⟩;obtain⟨hs,hx1,hx⟩:=hx;unfold kX;refine Tot.ite (fun hc=> ?_) (fun hc=>Tot.ret (show SOk E (N+1000) _ from hs.up (by omega)));rw[aqt,hx1,hx]at hc;have hlt:(i:Int) < akz:=aqk hc.1;have hN1:N+12 * i≤950000:=by omega
 generalize hM:N+12 * i=M at hs hN1;refine Tot.join (A:=fun j=>SOk E (M+5) j.1∧j.2.1=akz∧j.2.2.2.1=(i:Int)∧(zTx j.2.2.2.2.1).size≤1000) ?_ (fun j hj=> ?_)
 ·refine Tot.join (A:=fun j=>SOk E (M+1) j.1∧j.2.1=akz∧j.2.2.2.1=(i:Int)∧(zTx j.2.2.2.2.1).size≤1000) ?_ (fun j hj=> ?_)
  ·refine Tot.ite (fun hc=>Tot.bind (aA hs.r (by omega)) fun r1 h1=>Tot.ret ?_) (fun hc=>Tot.ret ?_)
   ·exact⟨hs.rd h1.1 (by omega),hx1,hx,show noB.size≤1000 by decide⟩
   ·exact⟨hs.up (by omega),hx1,hx,show noB.size≤1000 by decide⟩
  ·obtain⟨hs,hj1,hj2,hj3⟩:=hj;refine Tot.ite (fun hc=> ?_) (fun hc=>Tot.ret ⟨hs.up (by omega),hj1,hj2,hj3⟩);refine Tot.bind (aA hs.r (by omega)) fun r1 h1=> ?_;refine Tot.ite (fun hc=>Tot.ret ⟨hs.rd (h1.1.up (by omega)) (by omega),hj1,hj2,hj3⟩) (fun hc=> ?_);refine Tot.ite (fun hc=>Tot.ret ⟨hs.rd (h1.1.up (by omega)) (by omega),hj1,hj2,hj3⟩) (fun hc=> ?_);refine Tot.ite (fun hc=> ?_) (fun hc=> ?_)
   ·exact Tot.bind (aA h1.1 (by omega)) fun r2 h2=>Tot.bind (aA h2.1 (by omega)) fun r3 h3=>Tot.bind (aA h3.1 (by omega)) fun r4 h4=>
     Tot.ret ⟨hs.rd (h4.1.up (by omega)) (by omega),hj1,hj2,hj3⟩
   ·exact Tot.bind (aA h1.1 (by omega)) fun r2 h2=>Tot.ret ⟨hs.rd (h2.1.up (by omega)) (by omega),hj1,hj2,hj3⟩
 ·obtain⟨hs,hj1,hj2,hj3⟩:=hj;have hw:w64 (j.2.2.2.1+1)=((i+1:Nat):Int):=by rw[hj2,ah (by omega) (by omega)];rfl
  refine Tot.join (A:=fun j=>SOk E (M+7) j.1∧j.2.1=akz∧j.2.2.2.1=(i:Int)∧(zTx j.2.2.2.2.1).size≤1000) ?_ (fun j hj=> ?_)
  ·refine Tot.bind (Fj hs (by omega) (ara hj3 (by decide))) fun r1 h1=>Tot.ite (fun hc=> ?_) (fun hc=>Tot.ret ⟨h1.up (by omega),hj1,hj2,hj3⟩);exact Tot.bind (Fj h1 (by omega) (show noB.size≤1048576 by decide)) fun r2 h2=>Tot.ret ⟨h2.up (by omega),hj1,hj2,hj3⟩
  ·obtain⟨hs,hj1,hj2,hj3⟩:=hj;refine Tot.join (A:=fun j=>SOk E (M+8) j.1∧j.2.1=akz∧j.2.2.2.1=(i:Int)∧(zTx j.2.2.2.2.1).size≤1000) ?_ (fun j hj=> ?_)
   ·refine Tot.ite (fun hc=>Tot.bind (aA hs.r (by omega)) fun r1 h1=>Tot.ret ⟨hs.rd h1.1 (by omega),hj1,hj2,hj3⟩) (fun hc=>Tot.ret ⟨hs.up (by omega),hj1,hj2,hj3⟩)
   ·obtain⟨hs,hj1,hj2,hj3⟩:=hj;have hw:w64 (j.2.2.2.1+1)=((i+1:Nat):Int):=by rw[hj2,ah (by omega) (by omega)];rfl
    refine Tot.ite (fun hc=> ?_) (fun hc=>Tot.ret ⟨by omega, ?_,hj1,hw⟩)
    ·refine Tot.bind (aA hs.r (by omega)) fun r1 h1=>Tot.bind (aA h1.1 (by omega)) fun r2 h2=>Tot.bind (Fj (hs.rd h2.1 (by omega)) (by omega) ?_) fun r3 h3=>Tot.ret ⟨by omega, ?_,hj1,hw⟩
     ·show(zTx j.2.2.2.2.1).size≤1048576;omega
     ·exact h3.up (by omega)
    ·exact hs.up (by omega)
end Go.VS
namespace Go.VS
open Go
variable {E:List Event}
def nz:noB.size≤1048576:=by decide
def WOk.rl{N:Nat}{t:_}(h:WOk E N t):t.2.2.2.1.length≤30:=by
 obtain⟨w,ev,rfl,hw,_⟩:=h;exact hw.ok.rl
def Ah{n:Int}{i:Nat}(h:n=(i:Int))(hi:i≤1000000):w64 (n+1)=((i+1:Nat):Int):=by
 rw[h,ah (by omega) (by omega)];rfl
def IY{N:Nat}{s:_}(h:SOk E N s){akz odd:Int}(h0:0≤akz)(hm:akz≤8)(hN:N≤800000):Tot (cd (s,akz,odd,())) fun a=>SOk E (N+1100) a.2.1:=by
 unfold cd;refine Tot.bind (aeG h (by omega)) fun r1 h1=>Tot.ite (fun hc=>Tot.ret (h1.1.up (by omega))) (fun hc=> ?_);refine Tot.bind (aA h1.1.r (by omega)) fun r2 h2=>Tot.bind (aA h2.1 (by omega)) fun r3 h3=> ?_;refine Tot.sum (P:=fun _=>False) (Q:=fun y=>SOk E (N+20) y.1∧y.2.1=akz) ?_ (fun _ h=>h.elim) (fun y hy=> ?_)
 ·refine Tot.loop (fun i x=>SOk E (N+4+i) x.1∧x.2.1=akz∧x.2.2.2.2.2.2.1=(i:Int)) _ akz.toNat (fun i x hi hx=> ?_) ⟨h1.1.rd h3.1 (by omega),rfl,rfl⟩;obtain⟨hs,hx1,hx⟩:=hx;unfold kW;refine Tot.ite (fun hc=> ?_) (fun hc=>Tot.ret ⟨hs.up (by omega),hx1⟩);have hc:=aqk hc;exact Tot.bind (Fj hs (by omega) nz) fun r4 h4=>Tot.ret ⟨by omega,h4.up (by omega),hx1,Ah hx (by omega)⟩
 ·have hy2:=hy.2;refine Tot.bind (aA hy.1.r (by omega)) fun r4 h4=> ?_;have h5:r4.1.1≤64:=by
   have:w64 (y.2.1+4)=akz+4:=by rw[hy.2,ah (by omega) (by omega)]
   have:=h4.2.2 (by show 1≤w64 (y.2.1+4);omega);have:r4.1.1 < w64 (y.2.1+4):=this;omega
  exact Tot.bind (KS (hy.1.rd h4.1 (by omega)) h5 (by omega)) fun r5 h6=>Tot.ret (h6.up (by omega))
def ai7{N:Nat}{s:_}(h:SOk E N s)(hN:N≤700000):Tot (jm (s,())) fun a=>SOk E (N+4500) a.2.1:=by
 unfold jm;refine Tot.bind (KS h (by decide) (by omega)) fun r1 h1=>Tot.bind (IY h1 (by decide) (by decide) (by omega)) fun r2 h2=> ?_;refine Tot.sum (P:=fun _=>False) (Q:=fun y=>SOk E (N+2220) y.1) ?_ (fun _ h=>h.elim) (fun y hy=> ?_)
 ·refine Tot.loop (fun i x=>SOk E (N+2100+40 * i) x.1∧x.2.1=(i:Int)) _ 2 (fun i x hi hx=> ?_) ⟨h2.up (by omega),rfl⟩;obtain⟨hs,hx⟩:=hx;unfold mE;refine Tot.bind (aA hs.r (by omega)) fun r3 h3=>Tot.ite (fun hc=> ?_) (fun hc=>Tot.ret (show SOk E (N+2220) _ from hs.rd (h3.1.up (by omega)) (by omega)));have hc:=aqk hc;have hv:=h3.2.2 (show(1:Int)≤2 by decide);have hv:r3.1.1 < 2:=hv;have hv0:=h3.2.1;rw[ah (by omega) (by omega)]at hc;have hrl:=hs.w.rl;refine Tot.sum (P:=fun _=>False) (Q:=fun y=>SOk E (N+2100+40 * (i+1)) y.1∧y.2.1=(i:Int)) ?_ (fun _ h=>h.elim) (fun y hy=>Tot.ret ⟨by omega,hy.1,Ah hy.2 (by omega)⟩);refine Tot.loop (fun k y=>SOk E (N+2100+40 * i+1+k) y.1∧y.2.1=(i:Int)∧y.2.2.1=(x.1.2.2.2.2.1.length:Int)∧y.2.2.2.1=(k:Int)) _ x.1.2.2.2.2.1.length (fun k y hk hy=> ?_) ⟨hs.rd h3.1 (by omega),hx,rfl,rfl⟩;obtain⟨hs,y1,y2,y3⟩:=hy;unfold mD;refine Tot.ite (fun hc=> ?_) (fun hc=>Tot.ret ⟨hs.up (by omega),y1⟩);have hc:=aqk hc;exact Tot.bind (Fj hs (by omega) nz) fun r4 h4=>Tot.ret ⟨by omega,h4.up (by omega),y1,y2,Ah y3 (by omega)⟩
 ·refine Tot.bind (aA (SOk.r hy) (by omega)) fun r3 h3=>Tot.join (A:=fun j=>SOk E (N+2240) j.1) ?_ (fun j hj=> ?_)
  ·refine Tot.bind (aA h3.1 (by omega)) fun r4 h4=>Tot.ite (fun hc=> ?_) (fun hc=>Tot.ite (fun hc=> ?_) (fun hc=> ?_))
   ·exact Tot.bind (aA h4.1 (by omega)) fun r5 h5=>Tot.bind (Fj (SOk.rd hy h5.1 (by omega)) (by omega) nz) fun r6 h6=>Tot.bind (Fj h6 (by omega) nz) fun r7 h7=>Tot.ret (show SOk E (N+2240) _ from h7.up (by omega))
   ·refine Tot.bind (aA h4.1 (by omega)) fun r5 h5=>Tot.sum (P:=fun _=>False) (Q:=fun y=>SOk E (N+2240) y.1) ?_ (fun _ h=>h.elim) (fun y hy=>Tot.ret (show SOk E (N+2240) y.1 from hy));have hv:r5.1.1 < 9:=h5.2.2 (show(1:Int)≤9 by decide);have hv0:=h5.2.1;refine Tot.loop (fun k y=>SOk E (N+2224+k) y.1∧y.2.2.1=r5.1.1 - (k:Int)) _ r5.1.1.toNat (fun k y hk hy=> ?_) ⟨SOk.rd hy (h5.1.up (by omega)) (by omega),by show r5.1.1=r5.1.1 - 0;omega⟩;obtain⟨hs,y1⟩:=hy;unfold mC;refine Tot.ite (fun hc=> ?_) (fun hc=>Tot.ret (show SOk E (N+2240) _ from hs.up (by omega)));have hc:=aqk hc;refine Tot.bind (Fj hs (by omega) nz) fun r6 h6=>Tot.ret ⟨by omega,h6.up (by omega), ?_⟩;show w64 (y.2.2.1 - 1)=r5.1.1 - ((k+1:Nat):Int);rw[ah (by omega) (by omega)];omega
   ·exact Tot.ret (show SOk E (N+2240) _ from SOk.rd hy (h4.1.up (by omega)) (by omega))
  ·have hj:SOk E (N+2240) j.1:=hj;refine Tot.bind (IY hj (by decide) (by decide) (by omega)) fun r4 h4=>Tot.sum (P:=fun _=>False) (Q:=fun y=>SOk E (N+3400) y.1) ?_ (fun _ h=>h.elim) (fun y hy=> ?_)
   ·refine Tot.loop (fun k y=>SOk E (N+3340+k) y.1∧y.2.2.1=(k:Int)) _ 12 (fun k y hk hy=> ?_) ⟨h4.up (by omega),rfl⟩;obtain⟨hs,y1⟩:=hy;unfold mB;refine Tot.ite (fun hc=> ?_) (fun hc=>Tot.ret (show SOk E (N+3400) _ from hs.up (by omega)));rw[aqt]at hc;have hc:=aqk hc.1;exact Tot.bind (Fj hs (by omega) nz) fun r6 h6=>Tot.ret ⟨by omega,h6.up (by omega),Ah y1 (by omega)⟩
   ·exact Tot.bind (KS (SOk.up hy (aqG _)) (by decide) (by omega)) fun r5 h5=>Tot.ret (h5.up (by omega))
def aiB{N:Nat}{s:_}(h:SOk E N s)(odd:Int)(hN:N≤690000):Tot (jl (s,odd,())) fun a=>SOk E (N+25000) a.2.1:=by
 unfold jl;refine Tot.bind (aA h.r (by omega)) fun r1 h1=>Tot.bind (aA h1.1 (by omega)) fun r2 h2=> ?_;have a0:=h1.2.1;have a1:r1.1.1 < 4:=h1.2.2 (show(1:Int)≤4 by decide);have hs:SOk E (N+2) (r2.2.1,s.2):=h.rd h2.1 (by omega);refine Tot.join (A:=fun j=>SOk E (N+2) j.1∧0≤j.2.2.1∧j.2.2.1 < 4) ?_ (fun j hj=> ?_)
 ·exact Tot.ite (fun _=>Tot.ret ⟨hs,a0,a1⟩) (fun _=>Tot.ite (fun _=>Tot.ret ⟨hs,a0,a1⟩) (fun _=>Tot.ret ⟨hs,a0,a1⟩))
 clear hs a0 a1;refine Tot.ite (fun _=>Tot.bind (aic hj.1 (by omega)) fun r4 h4=>Tot.ret (h4.up (by omega))) (fun _=> ?_);refine Tot.join (A:=fun j=>SOk E (N+2) j.1∧0≤j.2.2.1∧j.2.2.1 < 4) ?_ (fun j hj=> ?_)
 ·exact Tot.ite (fun _=>Tot.ret hj) (fun _=>Tot.ite (fun _=>Tot.ret hj) (fun _=>Tot.ite (fun _=>Tot.ret hj) (fun _=>Tot.ite (fun _=>Tot.ret hj) (fun _=>Tot.ite (fun _=>Tot.ret hj) (fun _=>Tot.ret hj)))))
 refine Tot.ite (fun _=> ?_) (fun _=> ?_)
 ·refine Tot.bind (aA hj.1.r (by omega)) fun r3 h3=> ?_;have hv:r3.1.1 < 7:=h3.2.2 (show(1:Int)≤7 by decide);have hv0:=h3.2.1;have hw:w64 (1+r3.1.1)=1+r3.1.1:=ah (by omega) (by omega);exact Tot.bind (IY (hj.1.rd h3.1 (by omega)) (by rw[hw];omega) (by rw[hw];omega) (by omega)) fun r4 h4=>Tot.ret (h4.up (by omega))
 refine Tot.join (A:=fun j=>SOk E (N+2) j.1∧0≤j.2.2.1∧j.2.2.1 < 4) ?_ (fun j hj=> ?_)
 ·exact Tot.ite (fun _=>Tot.ret hj) (fun _=>Tot.ret hj)
 refine Tot.ite (fun _=> ?_) (fun _=> ?_)
 ·refine Tot.bind (aA hj.1.r (by omega)) fun r3 h3=> ?_;have hv:r3.1.1 < 20:=h3.2.2 (show(1:Int)≤20 by decide);have hv0:=h3.2.1;have hw:w64 (1+r3.1.1)=1+r3.1.1:=ah (by omega) (by omega);exact Tot.bind (KS (hj.1.rd h3.1 (by omega)) (by rw[hw];omega) (by omega)) fun r4 h4=>Tot.ret (h4.up (by omega))
 refine Tot.join (A:=fun j=>SOk E (N+2) j.1∧0≤j.2.1∧j.2.1 < 4) ?_ (fun j hj=> ?_)
 ·exact Tot.ite (fun _=>Tot.ret hj) (fun _=>Tot.ret hj)
 refine Tot.ite (fun _=>Tot.bind (Fj hj.1 (by omega) nz) fun r4 h4=>Tot.ret (h4.up (by omega))) (fun _=> ?_);refine Tot.ite (fun _=>Tot.bind (aA hj.1.r (by omega)) fun r3 h3=>Tot.bind (Fj (hj.1.rd h3.1 (by omega)) (by omega) nz) fun r4 h4=>Tot.ret (h4.up (by omega))) (fun _=> ?_);refine Tot.join (A:=fun j=>SOk E (N+2) j.1∧0≤j.2.1∧j.2.1 < 4) ?_ (fun j hj=> ?_)
 ·exact Tot.ite (fun _=>Tot.ret hj) (fun _=>Tot.ret hj)
 refine Tot.ite (fun _=>Tot.bind (Fj hj.1 (by omega) nz) fun r4 h4=>Tot.ret (h4.up (by omega))) (fun _=> ?_);refine Tot.ite (fun _=>Tot.bind (aA hj.1.r (by omega)) fun r3 h3=>Tot.bind (aA h3.1 (by omega)) fun r4 h4=>Tot.bind (Fj (hj.1.rd h4.1 (by omega)) (by omega) nz) fun r5 h5=>Tot.ret (h5.up (by omega))) (fun _=> ?_);refine Tot.join (A:=fun j=>SOk E (N+2) j.1∧0≤j.2.1∧j.2.1 < 4) ?_ (fun j hj=> ?_)
 ·exact Tot.ite (fun _=>Tot.ret hj) (fun _=>Tot.ret hj)
 refine Tot.ite (fun _=> ?_) (fun _=> ?_)
 ·have hk:=hj.1.w.has hj.2.1 hj.2.2;refine Tot.pos hk.2.2 (Tot.bind (afB hk.1) fun r6 h6=> ?_);subst h6;refine Tot.ite (fun hl=> ?_) (fun hl=>Tot.ret (hj.1.up (by omega)));have hl:(0:Int) < ((stT (kA j.1.2.2.1 j.2.1.toNat)).inbox.length:Int):=aqk hl;refine Tot.bind (aA hj.1.r (by omega)) fun r7 h7=>Tot.pos (fP h7.2.1 (h7.2.2 hl)) (Tot.bind (Fj (hj.1.rd h7.1 (by omega)) (by omega) nz) fun r8 h8=>Tot.ret (h8.up (by omega)))
 refine Tot.ite (fun _=>Tot.bind (aA hj.1.r (by omega)) fun r3 h3=>Tot.bind (Fj (hj.1.rd h3.1 (by omega)) (by omega) nz) fun r4 h4=>Tot.ret (h4.up (by omega))) (fun _=> ?_);refine Tot.join (A:=fun j=>SOk E (N+2) j.1) ?_ (fun j hj=> ?_)
 ·exact Tot.ite (fun _=>Tot.ret hj.1) (fun _=>Tot.ite (fun _=>Tot.ret hj.1) (fun _=>Tot.ret hj.1))
 have hj:SOk E (N+2) j.1:=hj;refine Tot.ite (fun _=>Tot.bind (ai7 hj (by omega)) fun r4 h4=>Tot.ret (h4.up (by omega))) (fun _=> ?_);refine Tot.sum (P:=fun _=>False) (Q:=fun y=>SOk E (N+25000) y.1) ?_ (fun _ h=>h.elim) (fun y hy=>Tot.ret hy);refine Tot.loop (fun k y=>SOk E (N+2+2200 * k) y.1∧y.2.1=(k:Int)) _ 4 (fun k y hk hy=> ?_) ⟨hj,rfl⟩;unfold my;refine Tot.ite (fun hc=> ?_) (fun hc=>Tot.ret (show SOk E (N+25000) _ from hy.1.up (by omega)));have hc:=aqk hc;have hy2:=hy.2;exact Tot.bind (IY hy.1 (by decide) (by decide) (by omega)) fun r5 h5=>Tot.bind (KS h5 (by decide) (by omega)) fun r6 h6=>Tot.ret ⟨by omega,h6.up (by omega),Ah hy.2 (by omega)⟩
end Go.VS
namespace Go.VS
open Go
variable {E:List Event}
def agH{i:Int}(h:isN i=true):fM (i,())=some (((i,true,noB,0,[],()),()),()):=by
 unfold fM;simp only[cQ,aqs,h,aqu,aqr]
def agG:kG ()=some (((rv0.ti,rv0.ajX,rv0.akd,rv0.aj0,rv0.akS,rv0.got,()),()),()):=by
 have h0:kj ((0,([]:List ajR),([]:List Bool),([]:List ajW),([]:List ajT),([]:List ajT),()),(0,([]:List ajR),([]:List Bool),([]:List ajW),([]:List ajT),([]:List ajT),()),0,())
   =some (.inr ((0,[],[],[],[],[],()),(0,[kp0 0,kp0 1,kp0 2,kp0 3],[],[],[],[],()),())):=by
  have st: ∀ (n:Nat) (l:List ajR),n < 4→l.length≤4→jt ((0,[],[],[],[],[],()),(0,l,[],[],[],[],()),(n:Int),())=some (.inl ((0,[],[],[],[],[],()),(0,l++[kp0 n],[],[],[],[],()),((n+1:Nat):Int),())):=by
   intro n l hn hl;unfold jt;have hi:isN (n:Int)=true:=ae.2 ⟨by omega,by omega⟩;rw[aqh (aqi (show(n:Int) < 4 by omega))];rw[show fM (_,())=_ from agH hi];simp only[aqs];rw[aqh (aF (by simp;omega)),ah (by omega) (by omega)];rfl
  exact ai (st 0 [] (by decide) (by decide)) (ai (st 1 _ (by decide) (by decide)) (ai (st 2 _ (by decide) (by decide)) (ai (st 3 _ (by decide) (by decide)) (an (by rfl)))))
 have h1:kh ((0,([]:List ajR),([]:List Bool),([]:List ajW),([]:List ajT),([]:List ajT),()),(0,[kp0 0,kp0 1,kp0 2,kp0 3],[],[],[],[],()),0,())
   =some (.inr ((0,[],[],[],[],[],()),(0,[kp0 0,kp0 1,kp0 2,kp0 3],[true,true,true],[],[],[],()),())):=by
  have st: ∀ (n:Nat) (l:List Bool),n < 3→l.length≤4→fK ((0,[],[],[],[],[],()),(0,[kp0 0,kp0 1,kp0 2,kp0 3],l,[],[],[],()),(n:Int),())=some (.inl ((0,[],[],[],[],[],()),(0,[kp0 0,kp0 1,kp0 2,kp0 3],l++[true],[],[],[],()),((n+1:Nat):Int),())):=by
   intro n l hn hl;unfold fK;have hw:w64 ((n:Int)+1)=((n+1:Nat):Int):=by rw[ah (by omega) (by omega)];rfl
   simp only[hw];rw[aqh (aqi (show((n+1:Nat):Int) < 4 by omega)),aqh (aF (by simp;omega))]
  refine ai (st 0 [] (by decide) (by decide)) (ai (st 1 _ (by decide) (by decide)) (ai (st 2 _ (by decide) (by decide)) (an ?_)));unfold fK;have hw:w64 (((2+1:Nat):Int)+1)=4:=by rw[ah (by omega) (by omega)];rfl
  simp only[hw];rfl
 unfold kG;rw[h0];simp only[dO];rw[h1];rfl
def aeR{N:Nat}{r:List Int×Int×aqq}(h:akk N r){akz:Int}(hm0:1≤akz)(hm:akz≤12)(hN:N≤400000):
  Tot (kY (r,akz,())) fun a=>akk (N+310000) a.2.1∧WOk [] (N+310000) a.1.1.2:=by
 unfold kY;rw[agG];simp only[aqs];refine Tot.bind (aA h (by omega)) fun r2 h2=>Tot.pos (fP h2.2.1 (h2.2.2 (show(1:Int)≤5 by decide))) ?_;have hs:SOk [] (N+1) (r2.2.1,rv0.ti,rv0.ajX,rv0.akd,rv0.aj0,rv0.akS,rv0.got,([]:List Event),()):=⟨h2.1,rv0,[],rfl,.nil,arB _⟩;refine Tot.bind (aic hs (by omega)) fun r4 h4=>Tot.bind (aA h4.r (by omega)) fun r9 h9=> ?_;refine Tot.sum (P:=fun _=>False) (Q:=fun y=>akk (N+310000) y.1∧WOk [] (N+310000) y.2.1.2) ?_ (fun _ h=>h.elim) (fun y hy=>Tot.ret hy);have hn0:=h9.2.1;have hn:r9.1.1 < 12:=by
  have:r9.1.1 < akz:=h9.2.2 hm0;omega
 refine Tot.loop (fun i y=>akk (N+12+25000 * i) y.1∧WOk [] (N+12+25000 * i) y.2.1.2∧y.2.2.2.1=r9.1.1 - (i:Int)) _ r9.1.1.toNat (fun i y hi hy=> ?_) ⟨h9.1.up (by omega),h4.w.up (by omega),by show r9.1.1=r9.1.1 - 0;omega⟩;obtain⟨hr,hw,hy⟩:=hy;unfold tA;refine Tot.ite (fun hc=> ?_) (fun hc=>Tot.ret ⟨hr.up (by omega),hw.up (by omega)⟩);have hc:=aqk hc;refine Tot.bind (aiB (s:=(y.1,y.2.1.2)) ⟨hr,hw⟩ _ (by omega)) fun r5 h5=>Tot.ret ⟨by omega,h5.r.up (by omega),h5.w.up (by omega), ?_⟩;show w64 (y.2.2.2.1 - 1)=r9.1.1 - ((i+1:Nat):Int);rw[ah (by omega) (by omega)];omega
end Go.VS
namespace Go.VS
open Go
def aiS{l:List Int}(hb:BOk l):Tot (rW (l,())) fun a=>akk 0 a.1.1:=by
 unfold rW;refine Tot.ite (fun hc=> ?_) (fun hc=>Tot.ret ⟨?_,hb,as2 _,as2 _⟩)
 ·have hc:(2000:Int) < (l.length:Int):=aqk hc;refine Tot.pos (by simp;omega) (Tot.ret ⟨?_,fun x hx=>hb x (arS hx),as2 _,as2 _⟩);show(aqR (aqy 2000) l).length≤2000;rw[arm];omega
 ·have: ¬ (2000:Int) < (l.length:Int):=aql hc;show l.length≤2000;omega
def QW{s:aqp}{n:Int}(hs:s.size≤1)(h0:0≤n)(hn:n < 128):Tot (ff (s,n,())) fun a=>a.1.1.size≤1000:=by
 unfold ff;refine Tot.sum (P:=fun _=>False) (Q:=fun y=>y.1.size≤1000) ?_ (fun _ h=>h.elim) (fun y hy=>Tot.ret hy);refine Tot.loop (fun i x=>x.1.size≤2 ^ i∧0≤x.2.1∧x.2.1 < ((2 ^ (7 - i):Nat):Int)∧x.2.2.1.size≤128 * i) _ 7 (fun i x hi hx=> ?_) ⟨by simpa using hs,h0,by simpa using hn,arB _⟩;obtain⟨h1,h2,h3,h4⟩:=hx;unfold vg;refine Tot.ite (fun hc=> ?_) (fun hc=>Tot.ret (show x.2.2.1.size≤1000 by omega));have hc:=aqk hc;have hi7:i < 7:=by
  rcases asi i 7 with h | h
  ·exact h
  ·have:i=7:=by omega
   subst this;simp at h3;omega
 have hp:2 ^ i≤128:=auU (by decide) (by omega:i≤7);have hp2:(2:Nat) ^ (i+1)=2 * 2 ^ i:=by rw[atY];omega
 have hp3:(2:Nat) ^ (7 - i)=2 * 2 ^ (7 - (i+1)):=by
  rw[show 7 - i=(7 - (i+1))+1 by omega,atY];omega
 have hp4:(2:Nat) ^ (7 - i)≤128:=auU (by decide) (by omega:7 - i≤7);refine Tot.join (A:=fun j=>j.1=x.1∧j.2.1=x.2.1∧j.2.2.1.size≤128 * (i+1)) ?_ (fun j hj=> ?_)
 ·refine Tot.ite (fun hc=>Tot.pos (by simp;omega) (Tot.ret ⟨rfl,rfl, ?_⟩)) (fun hc=>Tot.ret ⟨rfl,rfl,by omega⟩);show(x.2.2.1++x.1).size≤128 * (i+1);rw[ay];omega
 ·obtain⟨j1,j2,j3⟩:=hj;refine Tot.pos (by rw[j1];simp;omega) (Tot.ret ⟨by omega, ?_, ?_, ?_,j3⟩)
  ·show(j.1++j.1).size≤2 ^ (i+1);rw[ay,j1];omega
  ·show 0≤w64 (aqU j.2.1 2);rw[j2,arf h2,ah (by omega) (by omega)];omega
  ·show w64 (aqU j.2.1 2) < ((2 ^ (7 - (i+1)):Nat):Int);rw[j2,arf h2,ah (by omega) (by omega)];omega
def aiy{N:Nat}{r:List Int×Int×aqq}(h:akk N r)(hN:N≤900000):Tot (o5 (r,())) fun a=>akk (N+30) a.2.1∧a.1.1.size≤1000:=by
 unfold o5;refine Tot.bind (aA h (by omega)) fun r1 h1=>Tot.ite (fun _=> ?_) (fun _=>Tot.ite (fun _=> ?_) (fun _=> ?_))
 ·refine Tot.bind (QW (by decide) (by decide) (by decide)) fun r14 h14=>Tot.bind (QW (by decide) (by decide) (by decide)) fun r15 h15=>Tot.bind (X8 h1.1 (by omega) (by simp)) fun r16 h16=>Tot.ret ⟨h16.1.up (by omega), ?_⟩;have hx:=h16.2;simp only[aqS,auq,or_false]at hx;rcases hx with hx | hx | hx | hx | hx<;>rw[hx]
  ·decide
  ·exact h14
  ·exact h15
  ·decide
  ·decide
 ·refine Tot.bind (aA h1.1 (by omega)) fun r2 h2=>Tot.sum (P:=fun _=>False) (Q:=fun y=>akk (N+30) y.1∧y.2.1.length≤30) ?_ (fun _ h=>h.elim) (fun y hy=>Tot.ret ⟨hy.1, ?_⟩)
  ·have hv:r2.1.1 < 20:=h2.2.2 (show(1:Int)≤20 by decide);have hv0:=h2.2.1;have hw:w64 (1+r2.1.1)=1+r2.1.1:=ah (by omega) (by omega);refine Tot.loop (fun i x=>akk (N+2+i) x.1∧x.2.1.length≤i∧x.2.2.1=1+r2.1.1 - (i:Int)) _ (1+r2.1.1).toNat (fun i x hi hx=> ?_) ⟨h2.1,arB _,by show w64 (1+r2.1.1)=1+r2.1.1 - 0;omega⟩;obtain⟨x1,x2,x3⟩:=hx;unfold tz;refine Tot.ite (fun hc=> ?_) (fun hc=>Tot.ret ⟨x1.up (by omega),by show x.2.1.length≤30;omega⟩);have hc:=aqk hc;refine Tot.bind (aA x1 (by omega)) fun r3 h3=>Tot.pos (aF (by simp;omega)) (Tot.ret ⟨by omega,h3.1.up (by omega),by simp;omega, ?_⟩);show w64 (x.2.2.1 - 1)=1+r2.1.1 - ((i+1:Nat):Int);rw[ah (by omega) (by omega)];omega
  ·show(dR y.2.1).size≤1000;rw[y5];omega
 ·exact Tot.bind (X8 h1.1 (by omega) (by decide)) fun r16 h16=>Tot.ret ⟨h16.1.up (by omega),Lm h16.2 (by decide)⟩
def aiY{N:Nat}{r:List Int×Int×aqq}(h:akk N r)(hN:N≤800000):Tot (o6 (r,())) fun a=>akk (N+60) a.2.1∧a.1.1.2.2.2.2.1.size≤1000:=by
 unfold o6;refine Tot.bind (aA h (by omega)) fun r1 h1=>Tot.bind (aA h1.1 (by omega)) fun r2 h2=>Tot.bind (aA h2.1 (by omega)) fun r3 h3=>Tot.bind (aA h3.1 (by omega)) fun r4 h4=>Tot.bind (X8 h4.1 (by omega) (by decide)) fun r5 h5=>Tot.bind (aA h5.1 (by omega)) fun r6 h6=> ?_;have hz:=Lm h5.2 (by decide);refine Tot.ite (fun _=> ?_) (fun _=> ?_)
 ·exact Tot.bind (aA h6.1 (by omega)) fun r7 h7=>Tot.pos (fP h7.2.1 (h7.2.2 (show(1:Int)≤2 by decide))) (Tot.ret ⟨h7.1.up (by omega),hz⟩)
 refine Tot.ite (fun _=> ?_) (fun _=> ?_)
 ·exact Tot.bind (aA h6.1 (by omega)) fun r7 h7=>Tot.pos (fP h7.2.1 (h7.2.2 (show(1:Int)≤3 by decide))) (Tot.ret ⟨h7.1.up (by omega),hz⟩)
 refine Tot.ite (fun _=> ?_) (fun _=> ?_)
 ·exact Tot.bind (aA h6.1 (by omega)) fun r7 h7=>Tot.pos (fP h7.2.1 (h7.2.2 (show(1:Int)≤3 by decide))) (Tot.ret ⟨h7.1.up (by omega),hz⟩)
 refine Tot.ite (fun _=> ?_) (fun _=> ?_)
 ·exact Tot.bind (aiy h6.1 (by omega)) fun r7 h7=>Tot.ret ⟨h7.1.up (by omega),h7.2⟩
 refine Tot.ite (fun _=> ?_) (fun _=> ?_)
 ·exact Tot.bind (aA h6.1 (by omega)) fun r7 h7=>Tot.pos (fP h7.2.1 (h7.2.2 (show(1:Int)≤2 by decide))) (Tot.ret ⟨h7.1.up (by omega),hz⟩)
 ·exact Tot.ret ⟨h6.1.up (by omega),hz⟩
def ad7{n:ajT}(h:aB n=true):(wr n).size≤100:=by
 obtain⟨⟨a,b⟩,⟨c,d⟩,⟨e,f⟩,_,t,_,_,z,_⟩:=QA h;have t:=l6 t;have h1:(cj n.fr).size≤3:=de a (by omega) (by decide);have h2:(cj n.nu).size≤3:=de c (by omega) (by decide);have h3:(cj n.to).size≤3:=de t.1 (by omega) (by decide);have h4:(cj n.un).size≤3:=de e (by omega) (by decide);unfold wr;simp only[ay,aO,aqM,aq0];omega
def aai{a b c:Int}(ha:0≤a∧a≤999)(hb:0≤b∧b≤999)(hc:0≤c∧c≤999):(((((cj a++B [32])++cj b)++B [32])++cj c)).size≤100:=by
 have h1:(cj a).size≤3:=de ha.1 (by omega) (by decide);have h2:(cj b).size≤3:=de hb.1 (by omega) (by decide);have h3:(cj c).size≤3:=de hc.1 (by omega) (by decide);simp only[ay,aO,aqM,aq0];omega
def aa7{a b c:Int}(ha:0≤a∧a≤999)(hb:0≤b∧b≤999)(hc:0≤c∧c≤999):Tot (dH (a,b,c,())) fun r=>r.1.1.size≤100:=
 ⟨_,An ha hb hc,aai ha hb hc⟩
def agk{N S:Nat}{w:List UInt8}{s:aqp}{r:(List Int×Int×aqq)×aqq}(hw:w.length≤10)(hs:s.size≤S)(hS:S≤100000)(hr:akk N r.1):
  Tot (if decide ((B w).size+s.size≤4611686018427387904)=true then(let v:=B w++s;some ((v,()),r)) else none) fun a=>akk N a.2.1∧a.1.1.size≤S+10:=by
 have hw:(B w).size≤10:=by rw[aO];exact hw
 refine Tot.pos (aqi (by omega)) (Tot.ret ⟨hr, ?_⟩);show(B w++s).size≤S+10;rw[ay];omega
def ah8{N:Nat}{r:List Int×Int×aqq}(h:akk N r)(hN:N≤700000):Tot (mS (r,())) fun a=>akk (N+80) a.2.1∧a.1.1.size≤2000:=by
 unfold mS;refine Tot.bind (aA h (by omega)) fun r1 h1=> ?_;refine Tot.ite (fun _=> ?_) (fun _=> ?_)
 ·refine Tot.bind (aA h1.1 (by omega)) fun r2 h2=> ?_;have hv:r2.1.1 < 30:=h2.2.2 (show(1:Int)≤30 by decide);have hv0:=h2.2.1;refine Tot.bind (Tot.eq (ba (n:=r2.1.1) (by omega) (by omega))) fun r3 h3=> ?_;subst h3;have hz:(cj r2.1.1).size≤2:=de hv0 (by omega) (by decide);exact(agk (N:=N+2) (S:=2) (by decide) hz (by decide) (show akk (N+2) _ from h2.1)).mono fun a ha=>⟨ha.1.up (by omega),by omega⟩
 refine Tot.ite (fun _=> ?_) (fun _=> ?_)
 ·refine Tot.bind (aA h1.1 (by omega)) fun r2 h2=>Tot.bind (aA h2.1 (by omega)) fun r3 h3=>Tot.bind (aA h3.1 (by omega)) fun r4 h4=> ?_;have u1:r2.1.1 < 4:=h2.2.2 (show(1:Int)≤4 by decide);have u2:r3.1.1 < 3:=h3.2.2 (show(1:Int)≤3 by decide);have u3:r4.1.1 < 30:=h4.2.2 (show(1:Int)≤30 by decide);have v1:=h2.2.1;have v2:=h3.2.1;have v3:=h4.2.1;rw[ah (n:=1+r3.1.1) (by omega) (by omega),ah (n:=1+r4.1.1) (by omega) (by omega)];refine Tot.bind (aa7 (by omega) (by omega) (by omega)) fun r5 h5=> ?_;exact(agk (N:=N+4) (S:=100) (by decide) h5 (by decide) (show akk (N+4) _ from h4.1)).mono fun a ha=>⟨ha.1.up (by omega),by omega⟩
 refine Tot.ite (fun _=> ?_) (fun _=> ?_)
 ·refine Tot.bind (aA h1.1 (by omega)) fun r2 h2=>Tot.bind (aA h2.1 (by omega)) fun r3 h3=>Tot.bind (aA h3.1 (by omega)) fun r4 h4=> ?_;have u1:r2.1.1 < 4:=h2.2.2 (show(1:Int)≤4 by decide);have u2:r3.1.1 < 3:=h3.2.2 (show(1:Int)≤3 by decide);have u3:r4.1.1 < 30:=h4.2.2 (show(1:Int)≤30 by decide);have v1:=h2.2.1;have v2:=h3.2.1;have v3:=h4.2.1;rw[ah (n:=1+r3.1.1) (by omega) (by omega),ah (n:=1+r4.1.1) (by omega) (by omega)];refine Tot.bind (aa7 (by omega) (by omega) (by omega)) fun r5 h5=> ?_;exact(agk (N:=N+4) (S:=100) (by decide) h5 (by decide) (show akk (N+4) _ from h4.1)).mono fun a ha=>⟨ha.1.up (by omega),by omega⟩
 refine Tot.ite (fun _=> ?_) (fun _=> ?_)
 ·refine Tot.bind (QW (by decide) (by decide) (by decide)) fun r14 h14=>Tot.bind (QW (by decide) (by decide) (by decide)) fun r15 h15=>Tot.bind (X8 h1.1 (by omega) (by simp)) fun r16 h16=>Tot.ret ⟨h16.1.up (by omega), ?_⟩;have hx:=h16.2;simp only[aqS,auq,or_false]at hx;show r16.1.1.size≤2000;rcases hx with hx | hx | hx | hx | hx | hx | hx | hx | hx | hx | hx | hx | hx | hx<;>rw[hx]
  all_goals first | decide | (exact ara h14 (by decide)) | (exact ara h15 (by decide))
 ·refine Tot.bind (X8 h1.1 (by omega) (by decide)) fun r2 h2=>Tot.bind (aiY h2.1 (by omega)) fun r3 h3=> ?_;have hz:=Lm h2.2 (by decide);have hn:=h3.2;have hw:Tot (bN r3.1) fun a=>a.1.1.size≤100:=by
   obtain⟨⟨⟨fr,nu,tt,un,tx,_⟩,_⟩,q⟩:=r3;refine⟨_,fq (show tx.size≤1048576 by have:tx.size≤1000:=hn;omega), ?_⟩;show auI (if aB ⟨fr,nu,tt,un,tx⟩=true then _ else _)≤100;split
   ·exact ad7 (by assumption)
   ·decide
  refine Tot.bind hw fun r4 h4=>Tot.pos (aqi (by omega)) (Tot.ret ⟨h3.1.up (by omega), ?_⟩);show(r2.1.1++r4.1.1).size≤2000;rw[ay];omega
end Go.VS
namespace Go.VS
open Go
def aaE(s:aqp)(a b:Nat):(s.extract a b).size≤s.size:=by
 rw[asS];omega
def ajl{N S:Nat}{r:List Int×Int×aqq}{s:aqp}(h:akk N r)(hN:N≤900000)(hs:s.size≤S)(hS:S≤100000):Tot (o7 (r,s,())) fun a=>akk (N+10) a.2.1∧a.1.1.size≤2 * S+1000:=by
 unfold o7;refine Tot.ite (fun _=>Tot.ret ⟨h.up (by omega),show s.size≤2 * S+1000 by omega⟩) (fun hc=> ?_);have hc: ¬ ((s.size:Int)=0):=aql hc;refine Tot.bind (aA h (by omega)) fun r1 h1=>Tot.ite (fun _=>Tot.ret ⟨h1.1.up (by omega),show s.size≤2 * S+1000 by omega⟩) (fun _=> ?_);refine Tot.bind (aA h1.1 (by omega)) fun r4 h4=>Tot.bind (aA h4.1 (by omega)) fun r5 h5=> ?_;have v0:=h4.2.1;have v1:r4.1.1 < (s.size:Int):=h4.2.2 (show(1:Int)≤(s.size:Int) by omega);have hw:w64 (r4.1.1+1)=r4.1.1+1:=ah (by omega) (by omega);have c1:(decide (0≤r4.1.1)&&decide (r4.1.1≤(s.size:Int)))=true:=by simp;omega
 have c2:(decide (0≤r4.1.1+1)&&decide (r4.1.1+1≤(s.size:Int)))=true:=by simp;omega
 simp only[hw];have e1:=aaE s 0 r4.1.1.toNat;have e2:=aaE s (r4.1.1+1).toNat s.size;have e3:=aaE s r4.1.1.toNat s.size;have app: ∀ a b:aqp,(a++b).size=a.size+b.size:=ay;refine Tot.ite (fun _=>Tot.pos c1 (Tot.pos c2 (Tot.pos (aqi (by omega)) (Tot.ret ⟨h5.1.up (by omega), ?_⟩)))) (fun _=> ?_)
 ·show(s.extract 0 r4.1.1.toNat++s.extract (r4.1.1+1).toNat s.size).size≤2 * S+1000;rw[app];omega
 refine Tot.ite (fun _=>Tot.pos c1 (Tot.bind (X8 h5.1 (by omega) (by decide)) fun r6 h6=> ?_)) (fun _=> ?_)
 ·have hz:=Lm h6.2 (by decide);refine Tot.pos (aqi (by omega)) (Tot.pos c1 (Tot.pos (aqi (by rw[app];omega)) (Tot.ret ⟨h6.1.up (by omega), ?_⟩)));show((s.extract 0 r4.1.1.toNat++r6.1.1)++s.extract r4.1.1.toNat s.size).size≤2 * S+1000;rw[app,app];rw[asS,asS]at *;omega
 refine Tot.ite (fun _=>Tot.pos c1 (Tot.bind (X8 h5.1 (by omega) (by decide)) fun r6 h6=> ?_)) (fun _=> ?_)
 ·have hz:=Lm h6.2 (by decide);refine Tot.pos (aqi (by omega)) (Tot.pos c2 (Tot.pos (aqi (by rw[app];omega)) (Tot.ret ⟨h6.1.up (by omega), ?_⟩)));show((s.extract 0 r4.1.1.toNat++r6.1.1)++s.extract (r4.1.1+1).toNat s.size).size≤2 * S+1000;rw[app,app];omega
 refine Tot.ite (fun _=>Tot.pos (aqi (show s.size+s.size≤4611686018427387904 by omega)) (Tot.ret ⟨h5.1.up (by omega), ?_⟩)) (fun _=>Tot.pos c1 (Tot.ret ⟨h5.1.up (by omega), ?_⟩))
 ·show(s++s).size≤2 * S+1000;rw[app];omega
 ·show(s.extract 0 r4.1.1.toNat).size≤2 * S+1000;omega
def ah4{lg r:aqp}{fo:Int}(h:lg.size≤2400):(KV lg fo r).1.1.size≤2400:=by
 unfold KV;split
 ·split
  ·rename_i h1;simp only[aqt,decide_eq_true_eq]at h1;show(lg++bV r).size≤2400;rw[ay];omega
  ·exact h
 ·exact arB _
def ahz{lg:aqp}{fo:Int}(h:lg.size≤2400):(zG lg fo).1.size≤2400:=by
 unfold zG;split
 ·exact h
 ·exact arB _
def agO{N:Nat}{r:List Int×Int×aqq}(h:akk N r)(hN:N≤690000):Tot (nr (r,())) fun a=>akk (N+2000) a.2.1∧a.1.1.1.size≤100000:=by
 unfold nr;refine Tot.bind (aA h (by omega)) fun r1 h1=> ?_;have v0:=h1.2.1;have v1:r1.1.1 < 9:=h1.2.2 (show(1:Int)≤9 by decide);refine Tot.sum (P:=fun _=>False) (Q:=fun y=>akk (N+1000) y.1∧y.2.2.1.1.size≤2400) ?_ (fun _ h=>h.elim) (fun y hy=> ?_)
 ·refine Tot.loop (fun i x=>akk (N+1+81 * i) x.1∧x.2.2.1.1.size≤2400∧x.2.2.2.1=r1.1.1 - (i:Int)) _ r1.1.1.toNat (fun i x hi hx=> ?_) ⟨h1.1,show noB.size≤2400 by decide,by show r1.1.1=r1.1.1 - 0;omega⟩;obtain⟨x1,x2,x3⟩:=hx;unfold rv;refine Tot.ite (fun hc=> ?_) (fun hc=>Tot.ret ⟨x1.up (by omega),x2⟩);have hc:=aqk hc;have hw:w64 (x.2.2.2.1 - 1)=r1.1.1 - ((i+1:Nat):Int):=by
   rw[ah (by omega) (by omega)];omega
  refine Tot.bind (ah8 x1 (by omega)) fun r2 h2=> ?_;have ha:=tB (lg:=x.2.2.1.1) (r:=r2.1.1) (fo:=x.2.2.1.2.1) (by omega) (by omega);refine Tot.bind (Tot.eq (show dI (x.2.2.1,r2.1)=_ from ha)) fun r3 h3=> ?_;subst h3;have hz:=ah4 (r:=r2.1.1) (fo:=x.2.2.1.2.1) x2;refine Tot.bind (aA h2.1 (by omega)) fun r4 h4=>Tot.ite (fun _=> ?_) (fun _=>Tot.ret ⟨by omega,h4.1.up (by omega),hz,hw⟩);refine Tot.bind (Tot.eq (kF (by omega))) fun r5 h5=> ?_;subst h5;exact Tot.ret ⟨by omega,h4.1.up (by omega),ahz hz,hw⟩
 ·obtain⟨y1,y2⟩:=hy;refine Tot.bind (aA y1 (by omega)) fun r2 h2=> ?_;refine Tot.ite (fun _=>Tot.bind (ajl h2.1 (by omega) y2 (by decide)) fun r3 h3=>Tot.ret ⟨h3.1.up (by omega),ara h3.2 (by decide)⟩) (fun _=> ?_);refine Tot.ite (fun _=> ?_) (fun _=> ?_)
  ·exact Tot.bind (aA h2.1 (by omega)) fun r3 h3=>Tot.bind (aA h3.1 (by omega)) fun r4 h4=>Tot.pos (fP h4.2.1 (h4.2.2 (show(1:Int)≤3 by decide))) (Tot.ret ⟨h4.1.up (by omega),ara y2 (by decide)⟩)
  refine Tot.ite (fun _=> ?_) (fun _=>Tot.ret ⟨h2.1.up (by omega),ara y2 (by decide)⟩);refine Tot.sum (P:=fun _=>False) (Q:=fun y=>akk (N+2000) y.1∧y.2.2.1.1.size≤100000) ?_ (fun _ h=>h.elim) (fun y hy=>Tot.ret hy);refine Tot.loop (fun i x=>akk (N+1001+2 * i) x.1∧x.2.2.1.1.size≤2400+1100 * i∧x.2.2.2.1=(i:Int)) _ 40 (fun i x hi hx=> ?_) ⟨h2.1,y2,rfl⟩;obtain⟨x1,x2,x3⟩:=hx;unfold ru;refine Tot.bind (aA x1 (by omega)) fun r3 h3=>Tot.ite (fun hc=> ?_) (fun hc=>Tot.ret ⟨h3.1.up (by omega),by show x.2.2.1.1.size≤100000;omega⟩);have hc:=aqk hc;have v0:=h3.2.1;have v1:r3.1.1 < 3:=h3.2.2 (show(1:Int)≤3 by decide);rw[ah (by omega) (by omega)]at hc;refine Tot.bind (aA h3.1 (by omega)) fun r4 h4=> ?_;have u0:=h4.2.1;have u1:r4.1.1 < 3:=h4.2.2 (show(1:Int)≤3 by decide);have hw:w64 (58+r4.1.1)=58+r4.1.1:=ah (by omega) (by omega);refine Tot.bind (QW (by decide) (by rw[hw];omega) (by rw[hw];omega)) fun r5 h5=> ?_;refine Tot.bind (Tot.eq (show cP r5.1=_ from sf (r:=r5.1.1) (by omega))) fun r6 h6=> ?_;subst h6;have hz:=uX (r:=r5.1.1) (by omega);refine Tot.pos (aqi (by show x.2.2.1.1.size+(bV r5.1.1).size≤4611686018427387904;omega)) (Tot.ret ⟨by omega,h4.1.up (by omega), ?_,Ah x3 (by omega)⟩);show(x.2.2.1.1++bV r5.1.1).size≤2400+1100 * (i+1);rw[ay];omega
end Go.VS
namespace Go.VS
open Go
variable {E:List Event}
def KOk(y:Int×Bool×aqp×Int×List ajY×aqq):Prop:= ∃ k,y=tKp k∧dy k∧aiW k.ajS
def ajQ(y:Int×Bool×aqp×Int×List ajY×aqq):Prop:= ∃ k,y=tKp k∧dy k∧alo k
def alo.odd{k:ajR}(h:alo k):aiW k.ajS:=fun x hx=> .inl (h x hx)
def YOk(t:Int×List ajR×List Bool×List ajW×List ajT×List ajT×aqq):Prop:= ∃ (w:aj3) (ev:List Event),t=(w.ti,w.ajX,w.akd,w.aj0,w.akS,w.got,())∧Reach ev w
def afk{N:Nat}{r:List Int×Int×aqq}(h:akk N r)(hN:N≤350000):Tot (lJ (r,())) fun a=>akk (N+320000) a.2.1∧YOk a.1.1∧KOk a.1.2.1:=by
 unfold lJ;refine Tot.bind (aeR h (by decide) (by decide) (by omega)) fun r1 h1=>Tot.join (A:=fun j=>akk (N+312000) j.1∧WOk [] (N+312000) j.2.2.2.1.2) ?_ (fun j hj=> ?_)
 ·refine Tot.bind (aA h1.1 (by omega)) fun r2 h2=>Tot.ite (fun _=> ?_) (fun _=>Tot.ret ⟨h2.1.up (by omega),h1.2.up (by omega)⟩);exact Tot.bind (IY (s:=(r2.2.1,r1.1.1.2)) ⟨h2.1,h1.2.up (by omega)⟩ (by decide) (by decide) (by omega)) fun r3 h3=>Tot.ret ⟨h3.r.up (by omega),h3.w.up (by omega)⟩
 ·obtain⟨hr,hw⟩:=hj;have hy:YOk (j.2.2.2.1.2.1,j.2.2.2.1.2.2.1,j.2.2.2.1.2.2.2.1,j.2.2.2.1.2.2.2.2.1,j.2.2.2.1.2.2.2.2.2.1,j.2.2.2.1.2.2.2.2.2.2.1,()):=by
   obtain⟨w,ev,e,hw,_⟩:=hw;rw[e];exact⟨w,_,rfl,hw⟩
  refine Tot.bind (aA hr (by omega)) fun r7 h7=> ?_;have hk:=hw.has h7.2.1 (h7.2.2 (show(1:Int)≤4 by decide));have hsm:=fY hk.1;have anz:=hw.big h7.2.1 (h7.2.2 (show(1:Int)≤4 by decide));refine Tot.pos hk.2.2 (Tot.bind (Tot.eq (show aZ ((_,_,_,_,_,()),())=_ from du hsm)) fun r8 h8=>Tot.bind (aA h7.1 (by omega)) fun r9 h9=> ?_);have h8': ∃ K,r8=((tKp K,()),())∧dy K∧aiW K.ajS∧K.log.size≤2400∧K.ajS.length≤3:=⟨_,h8,hsm,anz.odd,(lj (bZ hk.1).sh).1,(bZ hk.1).hl⟩;obtain⟨K,rfl,hsm,amK,hlg,hhl⟩:=h8';refine Tot.ite (fun _=> ?_) (fun _=> ?_)
  ·exact Tot.bind (aA h9.1 (by omega)) fun r10 h10=>Tot.pos (fP h10.2.1 (h10.2.2 (show(1:Int)≤3 by decide))) (Tot.ret ⟨h10.1.up (by omega),hy,⟨_,K.up,K.log,K.fo,K.ajS⟩,rfl,hsm,amK⟩)
  refine Tot.ite (fun _=> ?_) (fun _=> ?_)
  ·exact Tot.bind (agO h9.1 (by omega)) fun r10 h10=>Tot.ret ⟨h10.1.up (by omega),hy,⟨K.id,K.up,_,_,K.ajS⟩,rfl,⟨ara h10.2 (by decide),hsm.2⟩,amK⟩
  refine Tot.ite (fun _=> ?_) (fun _=> ?_)
  ·exact Tot.bind (aA h9.1 (by omega)) fun r10 h10=>Tot.pos (fP h10.2.1 (h10.2.2 (show(1:Int)≤4 by decide))) (Tot.ret ⟨h10.1.up (by omega),hy,⟨K.id,K.up,K.log,_,K.ajS⟩,rfl,hsm,amK⟩)
  refine Tot.ite (fun _=> ?_) (fun _=> ?_)
  ·refine Tot.bind (aA h9.1 (by omega)) fun r10 h10=>Tot.bind (aA h10.1 (by omega)) fun r11 h11=>Tot.bind (aA h11.1 (by omega)) fun r12 h12=>Tot.bind (aA h12.1 (by omega)) fun r13 h13=>Tot.bind (aA h13.1 (by omega)) fun r14 h14=> ?_;refine Tot.pos (aF (by show K.ajS.length+1≤4294967296;have:=hsm.2.1;omega)) (Tot.ret ⟨h14.1.up (by omega),hy,⟨K.id,K.up,K.log,K.fo,K.ajS++[⟨r10.1.1,w64 (1+r11.1.1),r12.1.1,9,r13.1.1,[⟨r14.1.1,B [97,98,99,100]⟩]⟩]⟩,rfl,⟨hsm.1, ?_,Jc hsm.2.2 ?_⟩, ?_⟩)
   ·show(K.ajS++[_]).length≤1048576;simp;omega
   ·refine⟨aq1 rfl,fun m hm=> ?_⟩;rw[aq4.1 hm];show(B [97,98,99,100]).size≤1048576;decide
   ·exact Jc amK (.inr ⟨_,rfl⟩)
  refine Tot.ite (fun _=> ?_) (fun _=> ?_)
  ·exact Tot.ret ⟨h9.1.up (by omega),hy,⟨K.id,!K.up,K.log,K.fo,K.ajS⟩,rfl,hsm,amK⟩
  refine Tot.ite (fun _=> ?_) (fun _=> ?_)
  ·refine Tot.bind (ah8 h9.1 (by omega)) fun r10 h10=> ?_;refine Tot.bind (Tot.eq (show cP r10.1=_ from sf (r:=r10.1.1) (by omega))) fun r11 h11=> ?_;subst h11;have hz:=uX (r:=r10.1.1) (by omega);refine Tot.pos (aqi (by show K.log.size+(bV r10.1.1).size≤4611686018427387904;omega)) (Tot.ret ⟨h10.1.up (by omega),hy,⟨K.id,K.up,K.log++bV r10.1.1,K.fo,K.ajS⟩,rfl,⟨?_,hsm.2⟩,amK⟩);show(K.log++bV r10.1.1).size≤1048576;rw[ay];omega
  ·exact Tot.ret ⟨h9.1.up (by omega),hy,K,rfl,hsm,amK⟩
def adG{l:List Int}(hb:BOk l):Tot (eg (l,())) fun a=>KOk a.1.1:=by
 unfold eg;refine Tot.bind (aiS hb) fun r1 h1=>Tot.bind (aeR h1 (by decide) (by decide) (by decide)) fun r2 h2=>Tot.bind (aeG (s:=(r2.2.1,r2.1.1.2)) ⟨h2.1,h2.2⟩ (by omega)) fun r3 h3=> ?_;obtain⟨h3,_,h3'⟩:=h3;refine Tot.join (A:=fun j=>akk 310010 j.2.1∧WOk [] 310010 j.2.2.1.2∧(j.2.2.2.2.2.1=true→0≤j.2.2.2.1∧j.2.2.2.1 < 4)) ?_ (fun j hj=> ?_)
 ·refine Tot.ite (fun hu=> ?_) (fun hu=>Tot.ret ⟨h3.r.up (by omega),h3.w.up (by omega),fun h=>by cases h⟩);exact Tot.bind (aA h3.r (by omega)) fun r4 h4=>Tot.ret ⟨h4.1.up (by omega),h3.w.up (by omega),fun _=>⟨(h3' hu).1,(h3' hu).2.1⟩⟩
 ·obtain⟨j1,j2,j3⟩:=hj;refine Tot.ite (fun hu=> ?_) (fun hu=> ?_)
  ·have hk:=j2.has (j3 hu).1 (j3 hu).2;exact Tot.pos hk.2.2 (Tot.bind (aA j1 (by omega)) fun r4 h4=>Tot.bind (aA h4.1 (by omega)) fun r5 h5=>Tot.bind (aA h5.1 (by omega)) fun r6 h6=>Tot.bind (aA h6.1 (by omega)) fun r7 h7=>Tot.ret ⟨_,rfl,fY hk.1,(j2.big (j3 hu).1 (j3 hu).2).odd⟩)
  ·exact Tot.bind (afk j1 (by omega)) fun r4 h4=>Tot.bind (aA h4.1 (by omega)) fun r5 h5=>Tot.bind (aA h5.1 (by omega)) fun r6 h6=>Tot.bind (aA h6.1 (by omega)) fun r7 h7=>Tot.ret h4.2.2
end Go.VS
namespace Go.VS
open Go
end Go.VS
namespace Go.VS
open Go
def Tot.val{o:Option ((Bool×aqq)×aqq)}(h:Tot o fun a=>a.1.1=true):o=some ((true,()),()):=by
 obtain⟨⟨⟨b,_⟩,_⟩,e,h⟩:=h;rw[e];cases h;rfl
end Go.VS
namespace Go.VS
open Go
end Go.VS
namespace Go.VS
open Go
def Yn{k:ajR}(h:aj k=true):sn (tKp k,())=some ((tK (stT (riM (faM k 0))),()),()):=by
 have h1:=aaD h 0;have h2:=aeM h1;unfold sn;rw[JL (fY h) 0,aqh h];simp only[aqs];rw[show gK (tKp (faM k 0),())=_ from JJ h1];simp only[aqs];rw[show bP (tKp (riM (faM k 0)),())=_ from fB h2];rfl
def Va{k:ajR}{st:ajZ}(h:Safe k st):stT (riM (faM k 0))=st:=(aeN (RY h.is h.fo 0).1).stT
end Go.VS
namespace Go.VS
open Go
structure apa (k:ajR) (f:Frame) (a b:ajZ):Prop where
 held: ∀ n∈a.held,n∈b.held∨(f.ki=2∧f.fr=n.fr∧f.nu=n.nu∧f.src=cM k.id n.to)
 lo:a.held.length≤b.held.length+1
 hi:b.held.length≤a.held.length+1
 inb:a.inbox.length≤b.inbox.length
def abo{l:List ajT}{n:ajT}(hl:l.length≤1000):Tot (cC (l,(n.fr,n.nu,n.to,n.un,n.tx,()),())) fun r=>r.1.1=true↔n∈l:=by
 unfold cC;refine Tot.sum (P:=fun y=>y.1=true∧n∈l) (Q:=fun _=>n ∉ l) ?_ (fun y hy=>Tot.ret ⟨fun _=>hy.2,fun _=>hy.1⟩) (fun y hy=>Tot.ret ⟨(fun h=>by cases h),fun h=>absurd h hy⟩);refine Tot.loop (fun i s=>s=(l,(n.fr,n.nu,n.to,n.un,n.tx,()),(i:Int),())∧ ∀ j,j < i→nA l j≠n) _ l.length (fun i s hi hs=> ?_) ⟨rfl,fun j hj=>absurd hj (auu _)⟩;obtain⟨rfl,hs⟩:=hs;unfold yf;refine Tot.ite (fun hc=> ?_) (fun hc=> ?_)
 ·have hc:(i:Int) < (l.length:Int):=aqk hc;have hi':i < l.length:=by omega
  refine Tot.pos (ak hi') (Tot.ite (fun he=>Tot.ret ⟨rfl, ?_⟩) (fun he=>Tot.ret ⟨hi',by rw[show w64 ((i:Int)+1)=_ from Ah rfl (by omega)],fun j hj=> ?_⟩))
  ·have he:af2 (nA l i).fr (nA l i).nu (nA l i).to (nA l i).un (nA l i).tx n.fr n.nu n.to n.un n.tx=true:=he;unfold af2 at he;simp only[aqt,decide_eq_true_eq]at he;have:nA l i=n:=by
    cases hN:nA l i;cases n;rw[hN]at he;simp only at he;obtain⟨rfl,rfl,rfl,rfl,rfl,_⟩:=he;rfl
   rw[← this];exact ae7 hi'
  ·rcases asi j i with h | h
   ·exact hs j h
   ·have:j=i:=by omega
    subst this;intro e;have he:af2 (nA l j).fr (nA l j).nu (nA l j).to (nA l j).un (nA l j).tx n.fr n.nu n.to n.un n.tx=false:=he;rw[e]at he;unfold af2 at he;simp at he
 ·have hc: ¬ (i:Int) < (l.length:Int):=aql hc;refine Tot.ret fun hn=> ?_;obtain⟨j,hj,e⟩:=arn hn;exact hs j (by omega) (by rw[iM (aqC hj)];exact e)
end Go.VS
namespace Go.VS
open Go
end Go.VS
namespace Go.VS
open Go
def WT{i:Int}(h:isN i=true):jD (i,())=some ((tKp (kp0 i),()),()):=by
 unfold jD;simp only[dr,aqs,h,aqu,aqr];rfl
def adH{l:List Int}(hb:BOk l): ∃ k fr nu mix,eg (l,())=some ((tKp k,fr,nu,mix,()),())∧dy k:=by
 obtain⟨⟨⟨y,a,b,c,_⟩,_⟩,e1,k,e2,sm,_⟩:=adG hb;simp only at e2;subst e2;exact⟨k,a,b,c,e1,sm⟩
def aah{k:ajR}{fr nu mix:Int}(hk:aj k=true)(h:(wJ k fr nu mix).2=true): ∃ n i,(wJ k fr nu mix).1=cR k.id n mix∧aB n=true∧mw k.id n.fr n.to=true∧(stT k).ti < n.un∧n.fr=fr∧n.nu=nu∧i < (stT k).held.length∧nA (stT k).held i=n∧aP (stT k).held fr nu=(i:Int)∧k.up=true:=by
 unfold wJ at h ⊢;split at h
 ·rename_i hc;rw[aqh hc];simp only[aqt,aro,decide_eq_false_iff_not]at hc;obtain⟨h0,h1,h2,h3⟩:=nL (at1.1 hc.2.1);have hm:=abh (at1.1 hc.2.1) h0;have hkk:=mM hk;have hw:=afx hkk.kok hm;rw[hkk.id]at hw;exact⟨_,_,rfl,VH hkk.kok hm,hw.1,hw.2.1,h2,h3,h0,rfl,h1.symm,hc.1⟩
 ·cases h
def ahc{k:ajR}{fr nu:Int}{n:ajT}{i:Nat}(hu:k.up=true)(hi:aP (stT k).held fr nu=(i:Int))(hn:nA (stT k).held i=n){m:Int}(hm:inB m 0 999=true):wJ k fr nu m=(cR k.id n m,true):=by
 unfold wJ;rw[aqh (by rw[hu,hi,hm,aqj (by omega)];rfl),hi,aqJ,hn];rfl
def aks(d t:Int)(n:ajT)(id:Int)(b i:Nat)(x:ajR)(l:List Frame):Prop:=
 (n.un≤t∧Safe x ⟨d,t,1,[],[],[]⟩∧amW x d t []∧(i=0∨ ∃ g,l=[Tp 3 g]))∨
 (t < n.un∧((i < b∧amW x d t (adq n i))∨(i=b∧(∃ g,l=[Tp 2 g])∧ ∃ o,Safe x o∧o.ti=t∧(n∈o.held∨n∈o.inbox))))
def aks.ok{d t:Int}{n:ajT}{id:Int}{b i:Nat}{x:ajR}{l:List Frame}(h:aks d t n id b i x l):aj x=true:=by
 rcases h with⟨_,_,h,_⟩ | ⟨_,⟨_,h⟩ | ⟨_,_,o,h,_⟩⟩
 ·exact h.ok
 ·exact h.ok
 ·exact h.is.ok
def aks.next{t:Int}{n:ajT}{id:Int}{i:Nat}{x:ajR}{l:List Frame}(hid:isN id=true)(hn:aB n=true)(hw:mw id n.fr n.to=true)(ht:inB t 0 1=true)(hi:i < (n.tx.size+3) / 4)
  (h:aks (cM id n.to) t n id ((n.tx.size+3) / 4) i x l):aks (cM id n.to) t n id ((n.tx.size+3) / 4) (i+1) (dP x (cR id n (i:Int))).1 (dP x (cR id n (i:Int))).2:=by
 rcases h with⟨h1,h2,h3,_⟩ | ⟨h1,⟨_,h3⟩ | ⟨h2,_⟩⟩
 ·rw[adW hid hn hw h3 h1 hi];exact .inl ⟨h1,h2,h3,.inr ⟨_,rfl⟩⟩
 ·obtain⟨h4,h5⟩:=adX hid hn hw h3 ht h1 hi;rcases asi (i+1) ((n.tx.size+3) / 4) with g | g
  ·exact .inr ⟨h1,.inl ⟨g,h4 g⟩⟩
  ·have e:i+1=(n.tx.size+3) / 4:=by omega
   obtain⟨h6,h7⟩:=h5 e;exact .inr ⟨h1,.inr ⟨e,⟨_,h6⟩,h7⟩⟩
 ·omega
def aee{k x0:ajR}{n:ajT}{fr nu mix t:Int}{j:Nat}(hk:aj k=true)(hu:k.up=true)(hi:aP (stT k).held fr nu=(j:Int))(hj:nA (stT k).held j=n)(hn:aB n=true)(hw:mw k.id n.fr n.to=true)(ht:inB t 0 1=true)
  (h0:aks (cM k.id n.to) t n k.id ((n.tx.size+3) / 4) 0 x0 []):
  Tot (dX (tKp k,fr,nu,tF (cR k.id n mix),tKp x0,[],0,())) (Rn (fun _=>False) (fun y=> ∃ x l,y=(tKp k,fr,nu,tF (cR k.id n mix),tKp x,l,())∧aks (cM k.id n.to) t n k.id ((n.tx.size+3) / 4) ((n.tx.size+3) / 4) x l)):=by
 have htx:=ae.1 (uK hn);have hid:isN k.id=true:=(bZ hk).id;refine Tot.loop (fun i s=> ∃ x l,s=(tKp k,fr,nu,tF (cR k.id n mix),tKp x,l,(i:Int),())∧aks (cM k.id n.to) t n k.id ((n.tx.size+3) / 4) i x l) _ ((n.tx.size+3) / 4) (fun i s hib hs=> ?_) ⟨x0,[],rfl,h0⟩;obtain⟨x,l,rfl,hI⟩:=hs;unfold ko;have hw4:w64 ((i:Int) * 4)=(i:Int) * 4:=ah (by omega) (by omega);refine Tot.ite (fun hc=> ?_) (fun hc=> ?_)
 ·have hc:w64 ((i:Int) * 4) < (n.tx.size:Int):=aqk hc;rw[hw4]at hc;have aoY:i < (n.tx.size+3) / 4:=by omega
  have hm:inB (i:Int) 0 999=true:=ae.2 (by omega);have aoV:=zD (fY hk) fr nu (i:Int);rw[aqh hk,ahc hu hi hj hm]at aoV;refine Tot.bind (Tot.eq aoV) fun r1 h1=> ?_;subst h1;refine Tot.bind (Tot.eq (JK (fY hI.ok) (cR k.id n (i:Int)))) fun r2 h2=> ?_;subst h2;refine Tot.ret ⟨aoY,_,_, ?_,hI.next hid hn hw ht aoY⟩;rw[show w64 ((i:Int)+1)=((i+1:Nat):Int) from Ah rfl (by omega)]
 ·have hc: ¬ w64 ((i:Int) * 4) < (n.tx.size:Int):=aql hc;rw[hw4]at hc;have:i=(n.tx.size+3) / 4:=by omega
  subst this;exact Tot.ret ⟨x,l,rfl,hI⟩
def aed{k:ajR}{n:ajT}{fr nu:Int}{l:List Frame}{o:ajZ}{j:Nat}(hk:aj k=true)(hl:j < (stT k).held.length)(hi:aP (stT k).held fr nu=(j:Int))(hj:nA (stT k).held j=n)(hf:n.fr=fr)(hnu:n.nu=nu)
  (ho:aE o=true)(hh:n∈o.held∨n∈o.inbox):Tot (gU (tKp k,fr,nu,l,tK o,0,0,())) (Rn (fun _=>False) (fun y=>y=(l,1,()))):=by
 have hkk:=(mM hk).kok;have alE:=bH hkk;have h6:=alE.hl;have hof:=bH ho;have o1:=hof.hl;have o2:=hof.il;have akr: ∀ i,i < (stT k).held.length→(nA (stT k).held i).fr=fr→(nA (stT k).held i).nu=nu→i=j:=by
  intro i hi' e1 e2;refine X9 alE.h hi' hl ?_ ?_
  ·rw[e1,hj,hf]
  ·rw[e2,hj,hnu]
 refine Tot.loop (fun i s=>s=(tKp k,fr,nu,l,tK o,(if j < i then 1 else 0),(i:Int),())) _ (stT k).held.length (fun i s hib hs=> ?_) (by simp);subst hs;have ao6:=fB hk;unfold km;refine Tot.bind (Tot.eq ao6) fun r1 h1=> ?_;subst h1;have hw1:w64 ((i:Int)+1)=((i+1:Nat):Int):=Ah rfl (by omega);refine Tot.ite (fun hc=> ?_) (fun hc=> ?_)
 ·have hc:(i:Int) < ((stT k).held.length:Int):=aqk hc;have hi':i < (stT k).held.length:=by omega
  refine Tot.bind (Tot.eq ao6) fun r2 h2=> ?_;subst h2;obtain⟨⟨⟨b1,_⟩,_⟩,e1,q1⟩:=abo (n:=nA (stT k).held i) (l:=o.held) (by omega);obtain⟨⟨⟨b2,_⟩,_⟩,e2,q2⟩:=abo (n:=nA (stT k).held i) (l:=o.inbox) (by omega);have e1':cC ((tK o).2.2.2.1,((nA (stT k).held i).fr,(nA (stT k).held i).nu,(nA (stT k).held i).to,(nA (stT k).held i).un,(nA (stT k).held i).tx,()),())=some ((b1,()),()):=e1;have e2':cC ((tK o).2.2.2.2.2.1,((nA (stT k).held i).fr,(nA (stT k).held i).nu,(nA (stT k).held i).to,(nA (stT k).held i).un,(nA (stT k).held i).tx,()),())=some ((b2,()),()):=e2;refine Tot.pos (ak hi') ?_;simp only[cL,e1',e2',aq7,eY,aqm,are];refine Tot.ite (fun c1=> ?_) (fun c1=> ?_)
  ·have c1:=aqk c1;refine Tot.ite (fun c2=> ?_) (fun c2=> ?_)
   ·have c2':(decide ((nA (stT k).held i).nu=nu)&&(b1||b2))=true:=c2;rw[aqt]at c2';have hij:=akr i hi' c1 (aqk c2'.1);refine Tot.ret ⟨hi', ?_⟩;subst hij;rw[hw1,aqg (auX i),aqh (as5 i)];rfl
   ·refine Tot.ret ⟨hi', ?_⟩;have hne:i≠j:=by
     intro e;subst e;have c2':(decide ((nA (stT k).held i).nu=nu)&&(b1||b2))=false:=c2;rw[hj]at c2' q1 q2;rw[aqi hnu,aqB,as0]at c2';rcases hh with h | h
     ·have h9:b1=true:=q1.2 h;rw[c2'.1]at h9;cases h9
     ·have h9:b2=true:=q2.2 h;rw[c2'.2]at h9;cases h9
    rw[hw1];by_cases g:j < i
    ·rw[aqh g,aqh (by omega)]
    ·rw[aqg g,aqg (by omega)]
  ·have c1: ¬ (nA (stT k).held i).fr=fr:=aql c1;have hne:i≠j:=by
    intro e;rw[e,hj]at c1;exact c1 hf
   refine Tot.ret ⟨hi', ?_⟩;rw[hw1];by_cases g:j < i
   ·rw[aqh g,aqh (by omega)]
   ·rw[aqg g,aqg (by omega)]
 ·have hc: ¬ (i:Int) < ((stT k).held.length:Int):=aql hc;refine Tot.ret ?_;show(l,(if j < i then(1:Int) else 0),())=(l,1,());rw[aqh (by omega)]
def acD{d:Int}(h:isN d=true):Safe (fE (kp0 d)).1 ⟨d,1,1,[],[],[]⟩:=by
 have hb:=M3 h;have hk:=mM hb.ok;rw[hb.st]at hk;refine⟨hk, ?_⟩;have hok:=WN h;have hu:(fE (kp0 d)).2=true∨(fE (kp0 d)).1=kp0 d:=by
  rcases tf (fE (kp0 d)).2 with c | c
  ·exact .inl c
  ·right;unfold fE at c ⊢;rw[aqh (show(kp0 d).up=true from rfl)]at c ⊢;exact H9 c
 rcases hu with c | c
 ·unfold fE at c ⊢;rw[aqh (show(kp0 d).up=true from rfl)]at c ⊢;obtain⟨o,ho⟩:=ad9 (mM hok) c;exact(PJ (mM hok) ho).1.fo
 ·rw[c];rfl
def Zt{k x0:ajR}{n:ajT}{fr nu mix t:Int}{j:Nat}(hk:aj k=true)(hu:k.up=true)(hl:j < (stT k).held.length)(hi:aP (stT k).held fr nu=(j:Int))(hj:nA (stT k).held j=n)(hf:n.fr=fr)(hnu:n.nu=nu)(hn:aB n=true)(hw:mw k.id n.fr n.to=true)(ht:inB t 0 1=true)
  (h0:aks (cM k.id n.to) t n k.id ((n.tx.size+3) / 4) 0 x0 []){g:_}(hg: ∀ x l,aks (cM k.id n.to) t n k.id ((n.tx.size+3) / 4) ((n.tx.size+3) / 4) x l→Tot (g (tKp k,fr,nu,tF (cR k.id n mix),tKp x,l,())) fun a=>a.1.1=true):
  Tot (aJ (dX (tKp k,fr,nu,tF (cR k.id n mix),tKp x0,([]:List Frame),0,())) (fun _=>(none:Option ((Bool×aqq)×aqq))) g) fun a=>a.1.1=true:=by
 refine Tot.sum (aee hk hu hi hj hn hw ht h0) (fun _ h=>h.elim) (fun y hy=> ?_);obtain⟨x,l,rfl,hI⟩:=hy;exact hg x l hI
def agz{l m:List Int}(hb:BOk l)(_:BOk m):eh (l,m,())=some ((true,()),()):=by
 obtain⟨k,fr,nu,mix,hd,sm⟩:=adH hb;unfold eh;apply Tot.val;refine Tot.ite (fun _=>Tot.ret rfl) (fun _=> ?_);refine Tot.bind (Tot.eq hd) fun r1 h1=> ?_;subst h1;refine Tot.bind (Tot.eq (yZ sm fr nu mix)) fun r2 h2=>Tot.bind (Tot.eq (zD sm fr nu mix)) fun r3 h3=> ?_;subst h2 h3;generalize hq:(if aj k then wJ k fr nu mix else(zF,false))=q;refine Tot.join (A:=fun j=>j=(m,tKp k,fr,nu,tF q.1,q.2,tF q.1,q.2,!q.2,())) ?_ (fun j hj=> ?_)
 ·refine Tot.neg (by simp) (Tot.neg (by simp[ahG]) (Tot.ret rfl))
 ·subst hj;refine Tot.ite (fun _=>Tot.ret (by simp[ahG])) (fun e=> ?_);have e:q.2=true:=by simpa using e
  have hk:aj k=true:=by
   rcases tf (aj k) with c | c
   ·exact c
   ·rw[c,aqr]at hq;rw[← hq]at e;cases e
  rw[aqh hk]at hq;rw[← hq]at e ⊢;obtain⟨n,jx,hF,hn,hw,htu,hf,hnu,hjl,hj,hi,hu⟩:=aah hk e;rw[hF];have r:=I1 hn;have hx:=PQ (bZ hk).id r.1 r.2.1 hw;have aqb:=(bH (mM hk).kok).t0;refine Tot.bind (Tot.eq (WT (i:=cM k.id n.to) hx.1)) fun r4 h4=> ?_;subst h4;refine Tot.join (A:=fun j=> ∃ x0 t,j=(tKp k,fr,nu,tF (cR k.id n mix),tKp x0,())∧inB t 0 1=true∧aks (cM k.id n.to) t n k.id ((n.tx.size+3) / 4) 0 x0 []) ?_ (fun j2 hj2=> ?_)
  ·refine Tot.ite (fun _=> ?_) (fun _=> ?_)
   ·refine Tot.bind (Tot.eq (JI (WN hx.1))) fun r5 h5=> ?_;subst h5;refine Tot.ret ⟨_,1,rfl,rfl, ?_⟩;rcases Int.lt_or_le 1 n.un with c | c
    ·exact .inr ⟨c,.inl ⟨by have:=ae.1 (uK hn);omega,M3 hx.1⟩⟩
    ·exact .inl ⟨c,acD hx.1,M3 hx.1,.inl rfl⟩
   ·exact Tot.ret ⟨_,0,rfl,rfl,.inr ⟨by omega,.inl ⟨by have:=ae.1 (uK hn);omega,Tl hx.1⟩⟩⟩
  ·obtain⟨x0,t,rfl,ht,h0⟩:=hj2;refine Zt hk hu hjl hi hj hf hnu hn hw ht h0 fun x l hI=> ?_;have h4:=ae.1 (uK hn);rcases hI with⟨h1,h2,h3,h5⟩ | ⟨h1,⟨h2,_⟩ | ⟨_,⟨g,rfl⟩,o,ho,hot,akF⟩⟩
   ·rcases h5 with h5 | ⟨g,rfl⟩
    ·omega
    ·refine Tot.neg (by rfl) (Tot.bind (Tot.eq (Yn h3.ok)) fun r6 h6=> ?_);subst h6;rw[Va h2];exact Tot.pos (aqi h1) (Tot.pos rfl (Tot.ret rfl))
   ·omega
   ·refine Tot.neg (by rfl) (Tot.bind (Tot.eq (Yn ho.is.ok)) fun r6 h6=> ?_);subst h6;rw[Va ho];refine Tot.neg (aqj (show ¬ n.un≤o.ti by omega)) ?_;refine Tot.sum (aed hk hjl hi hj hf hnu ho.is.kok akF) (fun _ h=>h.elim) (fun y hy=> ?_);subst hy;exact Tot.pos rfl (Tot.ret rfl)
end Go.VS
end
